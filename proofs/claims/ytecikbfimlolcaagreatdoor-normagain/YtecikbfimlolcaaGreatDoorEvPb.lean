/- The parser: expressions and conditions are read. -/
import Derived.Test.YtecikbfimlolcaaGreatDoorEvPa
import Derived.Test.YtecikbfimlolcaaGreatDoorEvTd
set_option linter.all false
set_option maxRecDepth 100000
noncomputable section
namespace Go.Proofs
open Go Go.Ev Go.Nm Tryz Go.Ev.Sx
attribute [local irreducible] Aa Al Af Ad
variable (Z cx:Ac)(N:Nat)
def Bep:Prop:=∀(b c:Nat) (v:AV) (l:List Tok) (n j:Nat) (e o:Int) (q:List AV) (h:H) (s:List Nat) (f:AV) (i:List Nd),i≠[]->PsR b v l n e o q h->c≠b->c<h.nx->AfM l (n:Int) s=true->0<=o->o<50 ->
 (∀h2,PG b (psC v ((n+1:Nat):Int) e (o+1) q) h h2->Ao8 b (psC v (j:Int) e (o+1) q) c 22 h2 (λw k=>Oo h2.nx k w i) (cvV f [] prog cx h2)) ->
 Ao8 b (psC v (j:Int) e o q) c 22 h (λw h1=>Oo h.nx h1 w i) (Z.call 256 [.ptr b 0,.str s,f] h)
def AvS(run:Nat->Nat->H->OR)(f:List Nd)(xs:List L3)(st:List Tok->Nat->Prop)(d:Nat):Prop:=∀(b pb c:Nat) (v:AV) (l:List Tok) (n:Nat) (e o:Int) (q:List AV) (h:H),
 PsR b v l n e o q h->AsJ b pb c v h->AaO l n xs->st l (n+xs.length)->0<=o->o+d<=50->f.length<=200->Ao8 b (psC v ((n+xs.length:Nat):Int) e o q) c 22 h (λw h1=>Oo h.nx h1 w f) (run pb c h)
variable {b pb c:Nat}{v:AV}{l:List Tok}{e o:Int}{q:List AV}{h h1:H}{n d:Nat}{t a:Tr}{xs la:List L3}
def Bsr{s len:Nat}{v:AV}{cs:List AV}(x:Sl s h v len cs):∀f off n cap z ex,v=.sl f off n cap z ex->f<h.nx:=by
 intro f off n cap z ex y;subst y;rcases x with⟨E,i,u⟩|⟨b2,w,p,k,r,i,B,j,A,q5⟩
 .cases u
 .cases i;exact j.lt
def AgJ{h2:H}(p:PsR b v l n e o q h)(g:Ai ((h.new (.cells [.ptr b 0] 156 .exact)).new (AeK 22 .Bv)) h2):AsJ b h.nx (h.nx+1) v h2:=by
 have k:=p.lt;have j:=g.lo;simp only[C9]at j;refine⟨?_,⟨.Bv,?_⟩,by omega,by omega,by omega,by omega,by omega,λi off n cap z ex f=>by have:=Bsr p.AsD i off n cap z ex f;omega⟩
 .rw[g.Cf h.nx (by simp only[C9];omega),Cq _ _ (by simp only[C9];omega)];exact Bf _
 .rw[g.Cf (h.nx+1) (by simp only[C9];omega)];exact Bf (h:=h.new _) _
def AiE{h:H}(e:TypeId)(b o:Nat):Oy e (.ptr b o) h=.ok (.ptr h.nx 0) (h.new (.cells [.ptr b o] e .exact)):=rfl
def AkG{h:H}{b:Nat}{e:TypeId}{x:AV}(f:h.m.get b=.cells [x] e .exact):Vk [.c (some none) (.ptr b 0)] h=.ok x h:=by
 have h1:h.rd b=some [x]:=by rw[AaS,f];rfl
 have h2:AyY (some none) (.ptr b 0) h=some x:=by show(match h.rd b with|some c=>Tn (some none) c 0|none=>none)=some x;rw[h1];rfl
 show(match (match AyY (some none) (.ptr b 0) h,(some []:Option (List AV))with|some v,some l=>some (v::l)|_,_=>none)with|some l=>OR.ok (single l) h|none=>.bad 197)=_;rw[h2];rfl
def Bsz(y:Av6 Z)(f:Bep Z cx)(z:AvS (λpb c h=>cx.call 313 [.ptr pb 0,.ptr c 0] h) a.nodes la (Stop .un) d):Reads (λb h=>Ay prog Z N true 288 [.ptr b 0] h) .un (.one 7 a) (.sg [45]::la) (d+1):=by
 intro b v l n e o q h p r W h0 hd S;refine AeN ?_;simp only[];rw[BmM];have zb:=@AiE;have Fc:a.nodes.length+1<=200:=by simpa[Tr.nodes]using S
 have i:Ai h ((h.new (.cells [.ptr b 0] 156 .exact)).new (AeK 22 .Bv)):=((Ai.refl h).new _).new _;refine wk ?_;have h1:=y b v l n e o q [45] _ (p.gr i);rw[Ajl r.1]at h1;refine Fj h1 λv1 h2 k O j L=>?_;subst L;have K:=AgJ p k;have kp:=K.p;have E:=p.gr (i.trans k);simp only[C9]at O;have Y:=p.lt;clear h1;have u:=k;clear j;refine wk ?_;refine zu2 (f b (h.nx+1) v l n (n+1+la.length) e o q h2 [45] (.fn (.func 313) [] [.ptr h.nx 0,.ptr (h.nx+1) 0]) a.nodes (Tf a) E K.nc K.cl (Ajl r.1) h0 om λR A=>?_) λw v3 P e4 l4 G=>?_
 .rw[BuC];exact z b h.nx (h.nx+1) v l (n+1) e (o+1) q R (E.pg A om p.ql) (K.pg A) r.2 trivial om om om
 have B:=e4.BaK K.cl;have M:PG b (psC v ((n+1+la.length:Nat):Int) e o q) h P:=PG2.own (PX.of ((PG.refl p.get).gr (i.trans u))) e4 om;have x:=Xq K.cl e4.lo;obtain⟨o1,T⟩:=G.one;clear kp;refine wk ?_;obtain⟨U,h5,F,s2,s3,J,I⟩:=AoI ⟨7,0,[]⟩ M (show h.nx<=h2.nx by omega) e4.lo G om
 refine Ey F ?_;have s:=(I (h.nx+1) K.cl).trans B;obtain⟨o3,V⟩:=s3.one;clear B F I;refine wk ?_;rw[AkG (A2 _ _)];refine Lo (Ed _) ⟨?_,?_⟩
 .rw[show n+(L3.sg [45]::la).length=n+1+la.length by rw[R6];omega]
  exact s2.Aiq _ _ om
 .exact(s3.AnO (w:=.Bv) (by simp) K.cl (Xq x J) ⟨_,s⟩ _).Y5 om
def Amm(s:List Nat):L3->Prop
|.sg f=>f≠s
|.kw f=>f≠s
|_=>True
def Agw{l:List Tok}{n:Nat}{s:List Nat}{x:L3}(h1:∃t,l[n]?=some t/\AeT t x)(k:Amm s x):AfM l (n:Int) s=false:=by
 obtain⟨t,h2,f⟩:=h1;unfold AfM;rw[Lm,h2];cases x with
 |sg i=>obtain⟨p,j⟩:=f;subst j;simp[show t.t≠s from k]
 |kw i=>obtain⟨p,j⟩:=f;subst j;simp[show t.t≠s from k]
 |nm i=>simp[f.1]
 |nu m=>simp[f.1]
 |wd i=>simp[f.1]
def Bs1(f:Av6 Z)(k:Bep Z cx)(A:AvS (λpb c h=>cx.call 314 [.ptr pb 0,.ptr c 0] h) a.nodes (la++[.sg [41]]) (λ_ _=>True) d):Reads (λb h=>Ay prog Z N true 288 [.ptr b 0] h) .un a (.sg [40]::la++[.sg [41]]) (d+1):=by
 intro b v l n e o q h p j Y h0 hd T;refine AeN ?_;simp only[];rw[BmM];have zb:=@AiE;have r:Ai h ((h.new (.cells [.ptr b 0] 156 .exact)).new (AeK 22 .Bv)):=((Ai.refl h).new _).new _;refine wk ?_;have h1:=f b v l n e o q [45] _ (p.gr r);rw[Agw j.1 (by simp[Amm])]at h1;refine Fj h1 λM h2 i P u L=>?_;subst L;have K:=AgJ p i;have kp:=K.p;have B:=p.gr (r.trans i);simp only[C9]at P;have B6:=p.lt;clear h1 u;refine wk ?_;have h1:=f b v l n e o q [40] _ B;rw[Ajl j.1]at h1;refine Fj h1 λM S s W y R=>?_;subst R;have I:=r.trans (i.trans s);have K3:=AgJ p (i.trans s);have x:=K3.p;have p3:=B.gr s;clear h1 y kp;refine wk ?_;refine zu2 (k b (h.nx+1) v l n (n+(.sg [40]::la++[.sg [41]]:List L3).length) e o q S [40] (.fn (.func 314) [] [.ptr h.nx 0,.ptr (h.nx+1) 0]) a.nodes (Tf a) p3 K3.nc K3.cl (Ajl j.1) h0 om λE G=>?_) λw v3 E e4 l4 F=>?_
 .rw[BuD];have J:=A b h.nx (h.nx+1) v l (n+1) e (o+1) q E (p3.pg G om p.ql) (K3.pg G) j.2 trivial om om T;rw[show n+(.sg [40]::la++[.sg [41]]:List L3).length=n+1+(la++[.sg [41]]:List L3).length by simp;omega]
  exact J
 have U:=e4.BaK K3.cl;have O:=PG2.own (PX.of ((PG.refl p.get).gr I)) e4 (show h.nx<=h.nx+1 by omega)
 have z:=Xq K3.cl e4.lo;obtain⟨o1,V⟩:=F.one;clear x;refine wk ?_;rw[AkG (A2 _ _)];refine Lo (Ed _) ⟨O.Aiq _ _ om,?_⟩;exact(F.AnO (w:=.Bv) (Tf a) K3.cl z ⟨_,U⟩ _).Y5 om
def Bs0(j:Av6 Z)(F:AsK Z)(m:Int):Reads (λb h=>Ay prog Z N true 288 [.ptr b 0] h) .un (.leaf ⟨1,m,[]⟩) [.nu m] 0:=by
 intro b v l n e o q h p B Vt h0 hd hz;refine AeN ?_;simp only[];rw[BmM];have zb:=@AiE;have y:Ai h ((h.new (.cells [.ptr b 0] 156 .exact)).new (AeK 22 .Bv)):=((Ai.refl h).new _).new _;refine wk ?_;have h1:=j b v l n e o q [45] _ (p.gr y);rw[Agw B.1 (by simp[Amm])]at h1;refine Fj h1 λM h2 f V z T=>?_;subst T;have K:=AgJ p f;have kp:=K.p;have L:=p.gr (y.trans f);simp only[C9]at V;have B6:=p.lt;clear h1 z;refine wk ?_;have h1:=j b v l n e o q [40] _ L;rw[Agw B.1 (by simp[Amm])]at h1;refine Fj h1 λM s k l3 E W=>?_;subst W;have K3:=AgJ p (f.trans k);have A:=K3.p;have p3:=L.gr k;clear h1 E kp;refine wk ?_;obtain⟨t,J,G,ht2⟩:=B.1;have i:AeL l n [3]=some t:=by unfold AeL;rw[Lm,J];simp[G]
 have h1:=F b v l n e o q (.sl s.nx 0 1 1 1 true) [3] _ (p3.gr ((Ai.refl s).new (.cells [iI 3] 3 .exact))) (Sl.lit (Bf _) rfl rfl) (by simp);rw[i]at h1;refine Fj h1 λM r e4 U x Y=>?_;subst Y;have u:Ai s r:=((Ai.refl s).new (.cells [iI 3] 3 .exact)).trans e4;have K4:=AgJ p (f.trans (k.trans u));have kp4:=K4.p;obtain⟨O,I⟩:=K4.w;have S:=K4.cl;have P:=p3.gr u;have hb4:=P.get;have gx:PG b (psC v n e o q) h r:=(PG.refl p.get).gr (y.trans (f.trans (k.trans u)));have R:=p.Mu;have hql:=p.ql;have hil:n<l.length:=(R4.1 J).1;simp only[C9]at U;clear h1 x A i u;refine wk ?_;rw[AkG (A2 _ _)];rw[show((n+[L3.nu m].length:Nat):Int)=(n:Int)+1 by simp]
 have nb:h.nx+1≠b:=by omega
 refine Lo (Ed _) ⟨pgA,?_⟩;refine(Oo.AnO (lo:=r.nx+1) (w:=O) (Wl (lo:=r.nx+1) [⟨1,m,[]⟩] 1 rfl (Bf _) rfl (Yw _)) (by simp) om (by simp only[C9];omega) ⟨O,?_⟩ _).Y5 om;simp(disch:=first|exact Ce|fail) [I,nb]
def Bsy(r:Av6 Z)(M:AsK Z)(F:Bar Z)(m:List Nat):Reads (λb h=>Ay prog Z N true 288 [.ptr b 0] h) .un (.leaf ⟨2,0,m⟩) [.nm m] 0:=by
 intro b v l n e o q h p G Vt h0 hd hz;refine AeN ?_;simp only[];rw[BmM];have zb:=@AiE;have A:Ai h ((h.new (.cells [.ptr b 0] 156 .exact)).new (AeK 22 .Bv)):=((Ai.refl h).new _).new _;refine wk ?_;have h1:=r b v l n e o q [45] _ (p.gr A);rw[Agw G.1 (by simp[Amm])]at h1;refine Fj h1 λJ h2 f l2 B q2=>?_;subst q2;have K:=AgJ p f;have kp:=K.p;have U:=p.gr (A.trans f);simp only[C9]at l2;have B6:=p.lt;clear h1 B;refine wk ?_;have h1:=r b v l n e o q [40] _ U;rw[Agw G.1 (by simp[Amm])]at h1;refine Fj h1 λJ x i l3 I q3=>?_;subst q3;have K3:=AgJ p (f.trans i);have E:=K3.p;have p3:=U.gr i;clear h1 I kp;refine wk ?_;obtain⟨t,T,s,P⟩:=G.1;have j:AeL l n [3]=none:=by unfold AeL;rw[Lm,T];simp[s]
 have h1:=M b v l n e o q (.sl x.nx 0 1 1 1 true) [3] _ (p3.gr ((Ai.refl x).new (.cells [iI 3] 3 .exact))) (Sl.lit (Bf _) rfl rfl) (by simp);rw[j]at h1;refine Fj h1 λJ k e4 l4 z q4=>?_;subst q4;have y:Ai x k:=((Ai.refl x).new (.cells [iI 3] 3 .exact)).trans e4;have K4:=AgJ p (f.trans (i.trans y));have kp4:=K4.p;have Y:=p3.gr y;have g5:=A.trans (f.trans (i.trans y));simp only[C9]at l4;have kc4:=K4.cl;clear h1 z E j;refine wk ?_;have u:Ai k ((k.new (.cells (Aez AiM) 160 .exact)).put k.nx (.cells (Aez AiM) 160 .exact)):=((Ai.refl k).new _).put _ _ (Yw _);refine zu1 (F b v l n e o q t _ (Y.gr u) ⟨by rw[Lm];exact T,s⟩) λJ R W l6 S L q6=>?_;subst q6;have K6:=(AgJ p (f.trans (i.trans (y.trans u)))).pg W;obtain⟨V,O⟩:=K6.w;have kc6:=K6.cl;have gx:PG b (psC v ((n:Int)+1) e o q) h R:=((PG.refl p.get).gr (g5.trans u)).trans W;clear S L u;refine wk ?_;rw[AkG (A2 _ _)];rw[show((n+[L3.nm m].length:Nat):Int)=(n:Int)+1 by simp]
 refine Lo (Ed _) ⟨pgA,?_⟩;subst P;refine(Oo.AnO (lo:=R.nx) (w:=V) (Wl (lo:=R.nx) [⟨2,0,t.t⟩] 1 rfl (Bf _) rfl (Yw _)) (by simp) om (by simp only[C9];omega) ⟨V,?_⟩ _).Y5 om;simp(disch:=first|exact Ce|fail) [O]
def Bgg(i:Reads (λb h=>Z.call 288 [.ptr b 0] h) .un t xs d):AlB (λbb b h=>Ay prog Z N true 224 [.ptr b 0,lvS bb 2,fnO b false] h) false 2 t xs d:=by
 intro bb r0 r1 b v l n e o q h L B x y p j E h0 hd w;refine AeN ?_;simp only[];rw[BqL];have G:∀f,Fo (lvS bb 2) f=.ok (iI 0) f:=λ_=>rfl;have A:=@BnT Z;refine wk ?_;rw[show fnO b false=.fn (.func 288) [.ptr b 0] []from rfl]
 simp only[mM,BnT];refine zu1 (i b v l n e o q h p j trivial h0 hd w) λz h2 u F s r k=>?_;exact zr (Ed _) ⟨u,k⟩
def Bgf(i:Reads (λb h=>Z.call 225 [.ptr b 0] h) .ng t xs d):AlB (λbb b h=>Ay prog Z N true 224 [.ptr b 0,lvS bb 2,fnO b true] h) true 2 t xs d:=by
 intro bb r0 r1 b v l n e o q h L B y z p j x h0 hd w;refine AeN ?_;simp only[];rw[BqL];have F:∀f,Fo (lvS bb 2) f=.ok (iI 0) f:=λ_=>rfl;refine wk ?_;rw[show fnO b true=.fn (.func 225) [.ptr b 0] []from rfl]
 simp only[mM,Bu8];refine zu1 (i b v l n e o q h p j x.1 h0 hd w) λA h2 u E s r k=>?_;exact zr (Ed _) ⟨u,k⟩
def BuP(L:Av6 Z)(I:Bpn Z)(k:∀x∈xs.head?,Amm [105,102] x)(W:xs≠[])(hC:AlB (call224 Z false 0) false 0 t xs d):Reads (λb h=>Ay prog Z N true 255 [.ptr b 0] h) .ex t xs d:=by
 intro b v l n e o q h p R Vt h0 hd hz;refine AeN ?_;simp only[];rw[BuJ];have zb:=@AiE;have z:Ai h ((h.new (.cells [.ptr b 0] 156 .exact)).new (AeK 22 .Bv)):=((Ai.refl h).new _).new _;obtain⟨x,i,rfl⟩:∃x i,xs=x::i:=by cases xs with|nil=>exact absurd rfl W|cons x r=>exact⟨x,r,rfl⟩
 refine wk ?_;have h1:=L b v l n e o q [105,102] _ (p.gr z);rw[Agw R.1 (k x rfl)]at h1;refine Fj h1 λS h2 j l2 B Y=>?_;subst Y;have K:=AgJ p j;have kp:=K.p;have P:=p.gr (z.trans j);simp only[C9]at l2;have B6:=p.lt;clear h1 B;refine wk ?_;refine Fj (I h2) λS h3 A l3 G q3=>?_;obtain⟨U,T,O,b1,y0,y1,rfl,F,L1,f⟩:=q3;have K3:=AgJ p (j.trans A);have E:=K3.p;have p3:=P.gr A;have Cbc:=P.lt;have f0:=f U (by simp);have f1:=f T (by simp);have f2:=f O (by simp);clear G kp f;refine wk ?_;refine zu1 (hC U T O b v l n e o q h3 F om om om p3 R Vt h0 hd hz) λS h4 e4 l4 s J V=>?_;have K4:=K3.pg e4;obtain⟨w4,M⟩:=K4.w;have u:=K4.cl;obtain⟨o1,o2⟩:=V.one;have gx:=((PG.refl p.get).gr (z.trans (j.trans A))).trans e4;have y:=K3.cl;clear s J E;refine wk ?_;rw[AkG (A2 _ _)];refine Lo (Ed _) ⟨gx.Aiq _ _ om,?_⟩;exact(V.AnO (w:=w4) (Tf t) y u ⟨_,M⟩ _).Y5 om
def Bu4(j:Bpn Z)(F:AlB (call224 Z true 0) true 0 t xs d):Reads (λb h=>Ay prog Z N true 168 [.ptr b 0] h) .cd t xs d:=by intro b v l n e o q h p z y h0 hd J;refine AeN ?_;simp only[];rw[Bzs];have O:=p.lt;refine Fj (j h) λA I k w i B=>?_;obtain⟨T,S,K,b1,s,r,rfl,x,L1,f⟩:=B;have p3:=p.gr k;have f0:=f b1 (by simp);have L:=f s (by simp);have M:=f r (by simp);clear i f;refine wk ?_;refine zu1 (F b1 s r b v l n e o q I L1 om om om p3 z y h0 hd J) λA R e4 P u E G=>?_;exact zr (Ed _) ⟨((PG.refl p.get).gr k).trans e4,G.Y5 w⟩
def BrS(i:Av6 Z)(f:∀x∈xs.head?,Amm [110,111,116] x/\Amm [91] x)(P:xs≠[])(Y:Reads (λb h=>Z.call 259 [.ptr b 0] h) .cm t xs d):Reads (λb h=>Ay prog Z N true 225 [.ptr b 0] h) .ng t xs d:=by
 intro b v l n e o q h p F S h0 hd hz;refine AeN ?_;simp only[];rw[BqM];have zb:=@AiE;have z:Ai h ((h.new (.cells [.ptr b 0] 156 .exact)).new (AeK 22 .Bv)):=((Ai.refl h).new _).new _;obtain⟨x,j,rfl⟩:∃x j,xs=x::j:=by cases xs with|nil=>exact absurd rfl P|cons x r=>exact⟨x,r,rfl⟩
 refine wk ?_;have h1:=i b v l n e o q [110,111,116] _ (p.gr z);rw[Agw F.1 (f x rfl).1]at h1;refine Fj h1 λM h2 k U B R=>?_;subst R;have K:=AgJ p k;have kp:=K.p;have L:=p.gr (z.trans k);simp only[C9]at U;have B6:=p.lt;clear h1 B;refine wk ?_;have h1:=i b v l n e o q [91] _ L;rw[Agw F.1 (f x rfl).2]at h1;refine Fj h1 λM h3 A l3 G V=>?_;subst V;have K3:=AgJ p (k.trans A);have E:=K3.p;have p3:=L.gr A;clear h1 G kp;refine wk ?_;refine zu1 (Y b v l n e o q h3 p3 F S h0 hd hz) λM h4 e4 l4 s I O=>?_;have K4:=K3.pg e4;obtain⟨W,J⟩:=K4.w;have u:=K4.cl;obtain⟨o1,o2⟩:=O.one;have T:=((PG.refl p.get).gr (z.trans (k.trans A))).trans e4;have y:=K3.cl;clear s I E;refine wk ?_;rw[AkG (A2 _ _)];refine Lo (Ed _) ⟨T.Aiq _ _ om,?_⟩;exact(O.AnO (w:=W) (Tf t) y u ⟨_,J⟩ _).Y5 om
def BrT(y:Av6 Z)(f:Bep Z cx)(z:AvS (λpb c h=>cx.call 257 [.ptr pb 0,.ptr c 0] h) a.nodes la (Stop .ng) d):Reads (λb h=>Ay prog Z N true 225 [.ptr b 0] h) .ng (.one 17 a) (.kw [110,111,116]::la) (d+1):=by
 intro b v l n e o q h p r M h0 hd T;refine AeN ?_;simp only[];rw[BqM];have zb:=@AiE;have Fc:a.nodes.length+1<=200:=by simpa[Tr.nodes]using T
 have i:Ai h ((h.new (.cells [.ptr b 0] 156 .exact)).new (AeK 22 .Bv)):=((Ai.refl h).new _).new _;refine wk ?_;have h1:=y b v l n e o q [110,111,116] _ (p.gr i);rw[An8 r.1]at h1;refine Fj h1 λv1 h2 k P j L=>?_;subst L;have K:=AgJ p k;have kp:=K.p;have E:=p.gr (i.trans k);simp only[C9]at P;have Y:=p.lt;clear h1;have u:=k;clear j;refine wk ?_;refine zu2 (f b (h.nx+1) v l n (n+1+la.length) e o q h2 [110,111,116] (.fn (.func 257) [] [.ptr h.nx 0,.ptr (h.nx+1) 0]) a.nodes (Tf a) E K.nc K.cl (An8 r.1) h0 om λS A=>?_) λw v3 R e4 l4 G=>?_
 .rw[Bu9];exact z b h.nx (h.nx+1) v l (n+1) e (o+1) q S (E.pg A om p.ql) (K.pg A) r.2 (by rw[show n+1+la.length=n+(L3.kw [110,111,116]::la).length by rw[R6];omega];exact M) om om om
 have B:=e4.BaK K.cl;have O:PG b (psC v ((n+1+la.length:Nat):Int) e o q) h R:=PG2.own (PX.of ((PG.refl p.get).gr (i.trans u))) e4 om;have x:=Xq K.cl e4.lo;obtain⟨o1,U⟩:=G.one;clear kp;refine wk ?_;obtain⟨V,h5,F,s2,s3,J,I⟩:=AoI ⟨17,0,[]⟩ O (show h.nx<=h2.nx by omega) e4.lo G om
 refine Ey F ?_;have s:=(I (h.nx+1) K.cl).trans B;obtain⟨o3,W⟩:=s3.one;clear B F I;refine wk ?_;rw[AkG (A2 _ _)];refine Lo (Ed _) ⟨?_,?_⟩
 .rw[show n+(L3.kw [110,111,116]::la).length=n+1+la.length by rw[R6];omega]
  exact s2.Aiq _ _ om
 .exact(s3.AnO (w:=.Bv) (by simp) K.cl (Xq x J) ⟨_,s⟩ _).Y5 om
def BrR(f:Av6 Z)(k:Bep Z cx)(A:AvS (λpb c h=>cx.call 258 [.ptr pb 0,.ptr c 0] h) a.nodes (la++[.sg [93]]) (λ_ _=>True) d):Reads (λb h=>Ay prog Z N true 225 [.ptr b 0] h) .ng a (.sg [91]::la++[.sg [93]]) (d+1):=by
 intro b v l n e o q h p j Y h0 hd T;refine AeN ?_;simp only[];rw[BqM];have zb:=@AiE;have r:Ai h ((h.new (.cells [.ptr b 0] 156 .exact)).new (AeK 22 .Bv)):=((Ai.refl h).new _).new _;refine wk ?_;have h1:=f b v l n e o q [110,111,116] _ (p.gr r);rw[Agw j.1 (by simp[Amm])]at h1;refine Fj h1 λM h2 i P u L=>?_;subst L;have K:=AgJ p i;have kp:=K.p;have B:=p.gr (r.trans i);simp only[C9]at P;have B6:=p.lt;clear h1 u;refine wk ?_;have h1:=f b v l n e o q [91] _ B;rw[Ajl j.1]at h1;refine Fj h1 λM S s W y R=>?_;subst R;have I:=r.trans (i.trans s);have K3:=AgJ p (i.trans s);have x:=K3.p;have p3:=B.gr s;clear h1 y kp;refine wk ?_;refine zu2 (k b (h.nx+1) v l n (n+(.sg [91]::la++[.sg [93]]:List L3).length) e o q S [91] (.fn (.func 258) [] [.ptr h.nx 0,.ptr (h.nx+1) 0]) a.nodes (Tf a) p3 K3.nc K3.cl (Ajl j.1) h0 om λE G=>?_) λw v3 E e4 l4 F=>?_
 .rw[BuA];have J:=A b h.nx (h.nx+1) v l (n+1) e (o+1) q E (p3.pg G om p.ql) (K3.pg G) j.2 trivial om om T;rw[show n+(.sg [91]::la++[.sg [93]]:List L3).length=n+1+(la++[.sg [93]]:List L3).length by simp;omega]
  exact J
 have U:=e4.BaK K3.cl;have O:=PG2.own (PX.of ((PG.refl p.get).gr I)) e4 (show h.nx<=h.nx+1 by omega)
 have z:=Xq K3.cl e4.lo;obtain⟨o1,V⟩:=F.one;clear x;refine wk ?_;rw[AkG (A2 _ _)];refine Lo (Ed _) ⟨O.Aiq _ _ om,?_⟩;exact(F.AnO (w:=.Bv) (Tf a) K3.cl z ⟨_,U⟩ _).Y5 om
def BqD(i:Reads (λb h=>Z.call 288 [.ptr b 0] h) .un t xs d):AvS (λpb c h=>Ay prog Z N true 313 [.ptr pb 0,.ptr c 0] h) t.nodes xs (Stop .un) d:=λb pb c v l n e o q h p K f j h0 hd k=>by simp only[];rw[BzR];exact Bu5 Z i p K f j h0 hd k
def BqA(i:Reads (λb h=>Z.call 225 [.ptr b 0] h) .ng t xs d):AvS (λpb c h=>Ay prog Z N true 257 [.ptr pb 0,.ptr c 0] h) t.nodes xs (Stop .ng) d:=λb pb c v l n e o q h p K f j h0 hd k=>by simp only[];rw[BzG];exact Bu5 Z i p K f j h0 hd k
def A6k{l:List Tok}{n:Nat}{s:List Nat}(f:s=[41]\/s=[93])(h1:∃t,l[n]?=some t/\AeT t (.sg s))(c:Bool)(k:Nat):AmQ c k l n:=by
 obtain⟨t,h2,i,j⟩:=h1;have hn:=AoJ h2 (.inr i);rw[j]at hn;intro k' _ p;rw[hn];have:k'=0\/k'=1:=by omega
 rcases f with rfl|rfl<;>rcases this with rfl|rfl<;>cases c<;>rfl
def A6i{l:List Tok}{n:Nat}{s:List Nat}(f:s=[116,104,101,110]\/s=[101,108,115,101])(h1:∃t,l[n]?=some t/\AeT t (.kw s))(c:Bool)(k:Nat):AmQ c k l n:=by
 obtain⟨t,h2,i,j⟩:=h1;have hn:=AoJ h2 (.inl i);rw[j]at hn;intro k' _ p;rw[hn];have:k'=0\/k'=1:=by omega
 rcases f with rfl|rfl<;>rcases this with rfl|rfl<;>cases c<;>rfl
def BqE(f:AmR Z)(j:Reads (λb h=>Z.call 255 [.ptr b 0] h) .ex t xs d):AvS (λpb c h=>Ay prog Z N true 314 [.ptr pb 0,.ptr c 0] h) t.nodes (xs++[.sg [41]]) (λ_ _=>True) d:=λb pb c v l n e o q h p K i r h0 hd k=>by
 simp only[];rw[BzS];have:=Bu6 Z j f p K i (A6k (.inl rfl) (AaO.app.1 i).2.1 _ _) h0 hd k;rw[show n+(xs++[L3.sg [41]]).length=n+xs.length+1 by simp;omega]
 exact this
def BqB(i:AmR Z)(j:Reads (λb h=>Z.call 168 [.ptr b 0] h) .cd t xs d):AvS (λpb c h=>Ay prog Z N true 258 [.ptr pb 0,.ptr c 0] h) t.nodes (xs++[.sg [93]]) (λ_ _=>True) d:=λb pb c v l n e o q h p K f r h0 hd k=>by
 simp only[];rw[BzH];have:=Bu6 Z j i p K f ⟨A6k (.inr rfl) (AaO.app.1 f).2.1 _ _,A6k (.inr rfl) (AaO.app.1 f).2.1 _ _⟩ h0 hd k;rw[show n+(xs++[L3.sg [93]]).length=n+xs.length+1 by simp;omega]
 exact this
def Bps:Prop:=∀(b:Nat) (v:AV) (l:List Tok) (i e o:Int) (q:List AV) (j:Nat) (k:Int) (h:H),PsR b v l i e o q h->Ah h (λr _=>r=.Bj [.agg (Aez ((AeL l j [k]).getD AiM)),.bool (AeL l j [k]).isSome]) (Z.call 290 [.ptr b 0,iI j,iI k] h)
def B3q{i:Int}{j:Nat}{k:Int}(p:PsR b v l i e o q h):Ah h (λr _=>r=.Bj [.agg (Aez ((AeL l j [k]).getD AiM)),.bool (AeL l j [k]).isSome]) (Ay prog Z N true 290 [.ptr b 0,iI j,iI k] h):=by
 rw[BzM];have K:=p.get;have O:=p.lt;have F:=p.Mu;have B:∀A,Fo v A=.ok (iI (l.length:Int)) A:=λ_=>p.AsD.Gs;by_cases hi:(j:Int)<(l.length:Int)
 .have I:decide ((j:Int)<(l.length:Int))=true:=Ws hi;obtain⟨x,z⟩:∃x,l[j]?=some x:=⟨_,Xs om⟩;obtain⟨b1,L,y⟩:=R0.elem (f:=Aez) (s:=4) (λ_=>rfl) p.AsD z;have J:=y.ia;have M:=y.all;have E:=y.part 0 _ rfl;rw[Mz]at E;have u:AeL l j [k]=if x.k=k then some x else none:=by unfold AeL;rw[Lm,z];simp
  rw[u];clear y z u p;by_cases w:x.k=k
  .have G:decide (x.k=k)=true:=Ws w;rw[W5 w];refine wk ?_;exact zr Ex (by rw[<- w];rfl)
  .have G:decide (x.k=k)=false:=Xn w;rw[X2 w];refine wk ?_;exact zr Ex rfl
 .have I:decide ((j:Int)<(l.length:Int))=false:=Xn hi;have u:AeL l j [k]=none:=by unfold AeL;rw[Lm,ak om]
  rw[u];clear p u;refine wk ?_;exact zr Ex rfl
variable {d1 d2:Nat}{tb:Tr}{lb:List L3}
def BmG:List (List Nat × Int):=[([61],9),([33,61],10),([60],11),([60,61],12),([62],13),([62,61],14)]
def BaF{op:Int}{s:List Nat}(f:cmW op=some s):lvF BmG s=(op,true)/\∀c k,lvF (lvO c k) s=(0,false):=by
 unfold cmW at f;split at f;all_goals first|cases f|skip
 all_goals exact⟨rfl,λc k=>by cases c<;>rcases k with _|_|k<;>rfl⟩
def A9f{l:List Tok}{n:Nat}{op:Int}{s:List Nat}(f:cmW op=some s)(h1:∃t,l[n]?=some t/\AeT t (.sg s))(c:Bool)(k:Nat):AmQ c k l n:=by obtain⟨t,h2,i,j⟩:=h1;have hn:=AoJ h2 (.inr i);rw[j]at hn;intro k' _ _;rw[hn,(BaF f).2]
abbrev BqH:List (AV × AV):=BmG.map λp=>(.str p.1,iI p.2)
abbrev mS(k:List Nat)(x:Int)(es:List (AV × AV)):Option (List (AV × AV)):=Z7 (Gy prog 9 (.str k)) (.str k) (iI x) es
def ms1:mS [61] 9 []=some [(.str [61],iI 9)]:=by kernel_rfl
def ms2:mS [33,61] 10 [(.str [61],iI 9)]=some [(.str [61],iI 9),(.str [33,61],iI 10)]:=by kernel_rfl
def ms3:mS [60] 11 [(.str [61],iI 9),(.str [33,61],iI 10)]=some [(.str [61],iI 9),(.str [33,61],iI 10),(.str [60],iI 11)]:=by kernel_rfl
def ms4:mS [60,61] 12 [(.str [61],iI 9),(.str [33,61],iI 10),(.str [60],iI 11)]=some [(.str [61],iI 9),(.str [33,61],iI 10),(.str [60],iI 11),(.str [60,61],iI 12)]:=by kernel_rfl
def ms5:mS [62] 13 [(.str [61],iI 9),(.str [33,61],iI 10),(.str [60],iI 11),(.str [60,61],iI 12)]=some [(.str [61],iI 9),(.str [33,61],iI 10),(.str [60],iI 11),(.str [60,61],iI 12),(.str [62],iI 13)]:=by kernel_rfl
def ms6:mS [62,61] 14 [(.str [61],iI 9),(.str [33,61],iI 10),(.str [60],iI 11),(.str [60,61],iI 12),(.str [62],iI 13)]=some BqH:=by kernel_rfl
def BmE(y:AsK Z){op:Int}{x:AV}{j:List Nd}{sg:Bool}{f0:L2}{hd:H}{m:Nat}(g:PG b (psC v (m:Int) e o q) h hd)(P:b<h.nx)(p:PsR b v l (m:Int) e o q hd)(hx:Oo h.nx hd x j)(hn:j≠[])(k:AeL l ((m+1:Nat):Int) [4]=none)(hm:m<l.length)
 (hB:Reads (λb h=>Z.call 255 [.ptr b 0] h) .ex tb lb d) (ha:AaO l (m+1) lb) (hs:Stop .ex l (m+1+lb.length)) (h0:0<=o) (hd':o+d<=50) (hz:j.length+tb.nodes.length+1<=200):
 Ah H0 (λr h1=>PG b (psC v ((m+1+lb.length:Nat):Int) e o q) h h1/\Oo h.nx h1 r (j++tb.nodes++[⟨op,0,[]⟩])) (AwM Z N (.ptr b 0) x (.bool sg) (iI op) f0 hd):=by
 rw[BcG];have hg:=p.get;have R:=p.lt;have L:=p.Mu;have hql:=p.ql;refine wk ?_;have i:PG b (psC v ((m+1:Nat):Int) e o q) hd (hd.put b (psC v ((m+1:Nat):Int) e o q)):=(PG.refl rfl).put _;have J:=p.pg i om p.ql;have h1:=y b v l ((m+1:Nat):Int) e o q (.sl hd.nx 0 1 1 1 true) [4] _ (J.gr ((Ai.refl _).new (.cells [iI 4] 3 .exact))) (Sl.lit (h:=hd.put b (psC v ((m+1:Nat):Int) e o q)) (Bf _) rfl rfl) (by simp);rw[k]at h1;simp only[Option.getD_none,Option.isSome_none]at h1;refine Fj h1 λU h2 G Y s M=>?_;subst M;have V:PG b (psC v ((m+1:Nat):Int) e o q) h h2:=((g.trans i).new _).gr G;have A:PG b (psC v ((m+1:Nat):Int) e o q) hd h2:=(i.new _).gr G;have F:=p.pg A om p.ql;simp only[C9]at Y;have K:=F.lt;have wt:∀(w:Bool) (r:OR) (f:H),Ad (.Bj []) w r f=.ok (.Bj []) f:=λw r f=>A0V [] w r f;clear s h1 hg J i;refine wk ?_;have z:Ai h2 ((h2.new (.cells (Aez AiM) 160 .exact)).put h2.nx (.cells (Aez AiM) 160 .exact)):=((Ai.refl h2).new _).put _ _ (Yw _);refine zu1 (hB b v l (m+1) e o q _ (F.gr z) ha hs h0 hd' om) λU h3 B l3 S O q3=>?_;have E:=(V.gr z).trans B;have T:=(A.gr z).trans B;have u:=hx.pg hn R (λst f=>by rw[p.get]at f;cases f) P T;obtain⟨v2,h4,r1,I,r3,r4,r5⟩:=Aw6 E (Yw _) E.lo u q3.sl (Tf tb) om;refine Ey r1 ?_;refine wk ?_;obtain⟨v5,h5,W,s2,s3,s4,s5⟩:=AoI ⟨op,0,[]⟩ I (Yw _) I.lo r3 (by rw[X8];omega);refine Ey W ?_;exact zr (Ed _) ⟨s2,s3⟩
def BqF(z:AsK Z)(Brk:Bps Z){op:Int}{s:List Nat}(De:cmW op=some s)(hA:Reads (λb h=>Z.call 255 [.ptr b 0] h) .ex a la d1)(hB:Reads (λb h=>Z.call 255 [.ptr b 0] h) .ex tb lb d2)(J:∀x∈lb.head?,∀w,x≠.wd w)(Hr:lb≠[]):
 Reads (λb h=>Ay prog Z N true 259 [.ptr b 0] h) .cm (.two op a tb) (la++.sg s::lb) (max d1 d2):=by
 intro b v l n e o q h p ha Vt h0 hd hz;refine AeN ?_;simp only[];obtain⟨P,k,u⟩:=AaO.app.1 ha;have B:n+(la++.sg s::lb).length=n+la.length+1+lb.length:=by rw[X8,R6];omega
 have A:(Tr.two op a tb).nodes=a.nodes++tb.nodes++[⟨op,0,[]⟩]:=rfl;have Fc:(Tr.two op a tb).nodes.length=a.nodes.length+tb.nodes.length+1:=by rw[A,X8,X8];rfl
 rw[B]at Vt ⊢;rw[A];rw[BuK];have hg:=p.get;have B6:=p.lt;have A82:=p.Mu;have hql:=p.ql;refine wk ?_;refine zu1 (hA b v l n e o q h p P (A9f De k false 0) h0 om om) λv1 h2 e2 l2 L Y q2=>?_;have F:=p.pg e2 om p.ql;have Wg:=F.get;have G:=F.lt;clear L Y hg;refine Fj (Brk b v l _ e o q n 1 h2 F) λv3 h3 K l3 j q3=>?_;subst q3;obtain⟨t,ht,W,V⟩:=k;have O:n+la.length<l.length:=(R4.1 ht).1;have S:AeL l ((n+la.length:Nat):Int) [5]=some t:=by unfold AeL;rw[Lm,ht];simp[W]
 have U:AeL l ((n+la.length+1:Nat):Int) [4]=none:=by
  obtain⟨y,ys,rfl⟩:∃y ys,lb=y::ys:=by cases lb with|nil=>exact absurd rfl Hr|cons y r=>exact⟨y,r,rfl⟩
  obtain⟨t2,R,f⟩:=u.1;unfold AeL;rw[Lm,R];have:=J y rfl;cases y with
  |wd w=>exact absurd rfl (this w)
  |sg s=>simp[f.1]
  |kw s=>simp[f.1]
  |nm s=>simp[f.1]
  |nu m=>simp[f.1]
 have hb3:h3.m.get b=psC v ((n+la.length:Nat):Int) e o q:=(j b G).trans Wg;have p3:=F.gr K;have T:=q2.gr K;have g3:=e2.gr K;have wt:∀(w:Bool) (r:OR) (E:H),Ad (.Bj []) w r E=.ok (.Bj []) E:=λw r E=>A0V [] w r E;have mf:M1 (Gy prog 9 (.str s)) BqH=some (some (iI op)):=by have:=Atb s BmG;rw[(BaF De).1]at this;exact this
 clear j;generalize AeL l ↑n [1]=po;have z1:=ms1;have z2:=ms2;have z3:=ms3;have z4:=ms4;have z5:=ms5;have z6:=ms6;cases po;all_goals
  refine wk ?_;refine Fj (z b v l ((n+la.length:Nat):Int) e o q (.sl (h3.nx+1) 0 1 1 1 true) [5] _ (p3.gr Ex) (Sl.lit (Bf _) rfl rfl) (by simp)) λv4 h4 e4 l4 I q4=>?_;rw[S]at q4;simp only[C8,db,V]at q4;subst q4;simp only[C9]at l4;have i:Ai h3 h4:=Ai.trans Ex e4;have p4:=p3.gr i;have M:=T.gr i;have g4:=g3.gr i;clear I e4;refine wk ?_;refine BmE Z N z ?_ p.lt ?_ ?_ (Tf a) U O hB u Vt h0 om om
  .exact g4.gr Ex
  .exact p4.gr Ex
  .exact M.gr Ex
def BmF(F:AsK Z){op:Int}{x:AV}{s:List Nd}{f0:L2}{hd:H}{m:Nat}{w:List Nat}(De:op=9\/op=10)(g:PG b (psC v (m:Int) e o q) h hd)(R:b<h.nx)(p:PsR b v l (m:Int) e o q hd)(hx:Oo h.nx hd x s)(hn:s≠[])(hw:∃t,l[m+1]?=some t/\AeT t (.wd w))(hz:s.length+2<=200):
 Ah H0 (λr h1=>PG b (psC v ((m+2:Nat):Int) e o q) h h1/\Oo h.nx h1 r (s++[⟨3,0,w⟩,⟨op,0,[]⟩])) (AwM Z N (.ptr b 0) x (.bool true) (iI op) f0 hd):=by
 rw[BcG];have hg:=p.get;have Y:=p.lt;have V:=p.Mu;have hql:=p.ql;obtain⟨t,M,J,G⟩:=hw;have hml:m+1<l.length:=(R4.1 M).1;have k:AeL l ((m+1:Nat):Int) [4]=some t:=by unfold AeL;rw[Lm,M];simp[J]
 refine wk ?_;have y:PG b (psC v ((m+1:Nat):Int) e o q) hd (hd.put b (psC v ((m+1:Nat):Int) e o q)):=(PG.refl rfl).put _;have T:=p.pg y om p.ql;have h1:=F b v l ((m+1:Nat):Int) e o q (.sl hd.nx 0 1 1 1 true) [4] _ (T.gr ((Ai.refl _).new (.cells [iI 4] 3 .exact))) (Sl.lit (h:=hd.put b (psC v ((m+1:Nat):Int) e o q)) (Bf _) rfl rfl) (by simp);rw[k]at h1;simp only[C8,db,G]at h1;refine Fj h1 λv1 h2 P l2 B W=>?_;subst W;have gA:PG b (psC v ((m+1:Nat):Int) e o q) h h2:=((g.trans y).new _).gr P;have L:PG b (psC v ((m+1:Nat):Int) e o q) hd h2:=(y.new _).gr P;have O:=p.pg L om p.ql;have K:=hx.pg hn Y (λst f=>by rw[p.get]at f;cases f) R L;have Wg:=O.get;have j:=O.lt;simp only[C9]at l2;have wt:∀(w:Bool) (r:OR) (f:H),Ad (.Bj []) w r f=.ok (.Bj []) f:=λw r f=>A0V [] w r f;clear B h1 hg T y k;have hi:((m+2:Nat):Int)=(m:Int)+1+1:=by omega
 rw[hi];have u:Ai h2 ((h2.new (.cells (Aez AiM) 160 .exact)).put h2.nx (.cells (Aez t) 160 .exact)):=((Ai.refl h2).new _).put _ _ (Yw _);have U:PG b (psC v ((m:Int)+1+1) e o q) ((h2.new (.cells (Aez AiM) 160 .exact)).put h2.nx (.cells (Aez t) 160 .exact)) (((h2.new (.cells (Aez AiM) 160 .exact)).put h2.nx (.cells (Aez t) 160 .exact)).put b (psC v ((m:Int)+1+1) e o q)):=(PG.refl rfl).put _;have A:=(K.gr u).pg hn (Xq j u.lo) (λst f=>by rw[u.Cf b j,Wg]at f;cases f) R U;have S:=(gA.gr u).trans U;have i:∀op:Int,∃v' h',Ds 32 3 32 x (.sl (h2.nx+1) 0 2 2 3 true) ((((h2.new (.cells (Aez AiM) 160 .exact)).put h2.nx (.cells (Aez t) 160 .exact)).put b (psC v ((m:Int)+1+1) e o q)).new (.cells [iI 3,iI 0,.str w,iI op,iI 0,.str []] 32 .exact))=.ok v' h'/\PG b (psC v ((m:Int)+1+1) e o q) h h'/\Oo h.nx h' v' (s++[⟨3,0,w⟩,⟨op,0,[]⟩]):=by intro op;obtain⟨z,I,E,s2,s3,s4,s5⟩:=Aw6 (m:=[⟨3,0,w⟩,⟨op,0,[]⟩]) (S.new (.cells [iI 3,iI 0,.str w,iI op,iI 0,.str []] 32 .exact)) (Yw _) (Vr S.lo (Et _)) (A.gr ((Ai.refl _).new _)) (w:=.sl (h2.nx+1) 0 2 2 3 true) (Sl.lit (h:=((h2.new (.cells (Aez AiM) 160 .exact)).put h2.nx (.cells (Aez t) 160 .exact)).put b (psC v ((m:Int)+1+1) e o q)) (Bf _) rfl rfl) (by simp) (by simp;omega);exact⟨z,I,E,s2,s3⟩
 rcases De with rfl|rfl
 .obtain⟨z,I,E,s2,s3⟩:=i 9;clear i;refine wk ?_;exact zr (Ed _) ⟨s2,s3⟩
 .obtain⟨z,I,E,s2,s3⟩:=i 10;clear i;refine wk ?_;exact zr (Ed _) ⟨s2,s3⟩
def BqG(x:AsK Z)(V:Bps Z){op:Int}{s c w:List Nat}(ho:op=9\/op=10)(De:cmW op=some s)(hA:Reads (λb h=>Z.call 255 [.ptr b 0] h) .ex (.leaf ⟨2,0,c⟩) [.nm c] 0):
 Reads (λb h=>Ay prog Z N true 259 [.ptr b 0] h) .cm (.two op (.leaf ⟨2,0,c⟩) (.leaf ⟨3,0,w⟩)) [.nm c,.sg s,.wd w] 0:=by
 intro b v l n e o q h p ha Vt h0 hd hz;refine AeN ?_;simp only[];obtain⟨k,u,P,_⟩:=(AaO.app (a:=[.nm c]) (b:=[.sg s,.wd w])).1 ha;have M:(Tr.two op (.leaf ⟨2,0,c⟩) (.leaf ⟨3,0,w⟩)).nodes=[⟨2,0,c⟩]++[⟨3,0,w⟩,⟨op,0,[]⟩]:=rfl;rw[M];rw[show n+[L3.nm c,.sg s,.wd w].length=(n+[L3.nm c].length)+2 by simp]
 rw[BuK];have hg:=p.get;have B6:=p.lt;have A82:=p.Mu;have hql:=p.ql;refine wk ?_;refine zu1 (hA b v l n e o q h p k (A9f De u false 0) h0 hd (by simp[Tr.nodes])) λv1 h2 Y l2 F S q2=>?_;have z:=p.pg Y om p.ql;have Wg:=z.get;have A:=z.lt;clear F S hg;refine Fj (V b v l _ e o q n 1 h2 z) λv3 U E l3 j q3=>?_;subst q3;obtain⟨t,W,R,O⟩:=u;have hml:n+[L3.nm c].length<l.length:=(R4.1 W).1;have J:AeL l ((n+[L3.nm c].length:Nat):Int) [5]=some t:=by unfold AeL;rw[Lm,W];simp[R]
 have i:∃t1,AeL l (n:Int) [1]=some t1:=by obtain⟨t1,I,L,_⟩:=k.1;exact⟨t1,by unfold AeL;rw[Lm,I];simp[L]⟩
 obtain⟨t1,i⟩:=i;have hb3:U.m.get b=psC v ((n+[L3.nm c].length:Nat):Int) e o q:=(j b A).trans Wg;have p3:=z.gr E;have K:=q2.gr E;have g3:=Y.gr E;have wt:∀(w:Bool) (r:OR) (y:H),Ad (.Bj []) w r y=.ok (.Bj []) y:=λw r y=>A0V [] w r y;have mf:M1 (Gy prog 9 (.str s)) BqH=some (some (iI op)):=by have:=Atb s BmG;rw[(BaF De).1]at this;exact this
 clear j;rw[i];have z1:=ms1;have z2:=ms2;have z3:=ms3;have z4:=ms4;have z5:=ms5;have z6:=ms6;refine wk ?_;refine Fj (x b v l ((n+[L3.nm c].length:Nat):Int) e o q (.sl (U.nx+1) 0 1 1 1 true) [5] _ (p3.gr Ex) (Sl.lit (Bf _) rfl rfl) (by simp)) λv4 h4 e4 l4 B T=>?_;rw[J]at T;simp only[C8,db,O]at T;subst T;simp only[C9]at l4;have f:Ai U h4:=Ai.trans Ex e4;have p4:=p3.gr f;have G:=K.gr f;have g4:=g3.gr f;clear B e4;refine wk ?_;refine BmF Z N x ho ?_ p.lt ?_ ?_ (by simp) P (by simp)
 .exact g4.gr Ex
 .exact p4.gr Ex
 .exact G.gr Ex
variable {hc:H}
def Bnp{v w:AV}{l m:List Nd}{lo:Nat}(p:lo<=hc.nx)(k:Oo lo hc v l)(i:Ue hc w m)(A:m≠[])(G:l.length+m.length<=1000):
 ∃v' h',Ds 32 3 32 v w hc=.ok v' h'/\(∀h0:H,h0.nx<=lo->Ai h0 hc->Ai h0 h')/\Oo lo h' v' (l++m)/\Bi hc h'/\(∀c,c<lo->h'.m.get c=hc.m.get c):=by
 have z:0<m.length:=Kd.2 A;rcases k with k|⟨E,off,cs,rfl,x,B,s,F⟩
 .obtain⟨v',h',j,f,p3,r,u⟩:=Fm.AbQ (bytes:=32) (lo:=lo) k i.src i.Rv om (Ab9 m) p;refine⟨v',h',j,p3,.inl ?_,f,u⟩;rw[NdO,X8,Qm];exact r
 .obtain⟨v',h',j,f,p3⟩:=Ahy (bytes:=32) (et:=32) (lo:=lo) x B s i.src i.Rv om (Ab9 m) z p;refine⟨v',h',j,λh0 _ y=>y.trans f,.inl ?_,f.keeps,λc hc=>f.Cf c om⟩;rw[NdO,X8,Qm];exact p3
def PsR.AnO{i:Int}{w:AV}(p:PsR b v l i e o q h)(hn:c≠b)(s:c<h.nx)(k:h.m.get c=AeK 22 w)(r:∀b' off n cap z ex,v=.sl b' off n cap z ex->b'≠c)(Y:AO):PsR b v l i e o q (h.put c Y):=by have j:PG c Y h (h.put c Y):=(PG.refl rfl).put _;exact⟨(j.Cf b p.lt (λf=>hn f.symm)).trans p.get,p.lt,Sl.pg p.AsD s (λst f=>by rw[k]at f;cases f) r j,p.av,p.one,p.i0,p.Mu,p.ql⟩
def PsR.reL{i:Int}(p:PsR b v l i e o q h)(L:List Nat):PsR b v l i e o q (Be L h):=⟨p.get,p.lt,p.AsD.By ((Bi.refl h).Be L),p.av,p.one,p.i0,p.Mu,p.ql⟩
def AsJ.AnO(k:AsJ b pb c v h)(w:AV):AsJ b pb c v (h.put c (AeK 22 w)):=
 ⟨(Aq _ _ _ k.npc).trans k.p,⟨w,A2 _ _⟩,k.pl,k.cl,k.np,k.nc,k.npc,k.av⟩
def PsR.kp{i:Int}(p:PsR b v l i e o q h)(g:Bi h h1)(f:h1.m.get b=h.m.get b):PsR b v l i e o q h1:=⟨f.trans p.get,Xq p.lt g.lo,p.AsD.By g,p.av,p.one,p.i0,p.Mu,p.ql⟩
def PG2.reL{X j Y i:AO}{k:H}{L:List Nat}(e1:PG2 b X c Y h k)(s:PG2 b j c i h h1)(r:∀z∈L,z∈k.lg\/z=b\/z=c\/h.nx<=z):PG2 b j c i h (Be L h1):=by
 have f:Ai ((h.put b j).put c i) h1:=s;refine⟨f.lo,f.Cf,λz u=>?_⟩;rcases r z u with p|rfl|rfl|p
 .exact Ai.lg (show Ai ((h.put b X).put c Y) k from e1) z p
 .exact .inl (Vo _ (Uq ..))
 .exact .inl (Uq ..)
 .exact .inr p
def PG2.Bwz{X Y f:AO}(g:PG2 b X c Y h h1):PG2 b X c f h (h1.put c f):=PG.put g f
def Bop{s:List Nat}{w:AV}{R:List Nd}{hd:H}{k:H->OR}{Q:AV->H->Prop}(Aff:AmR Z)(hA:Reads (λb h=>Z.call 255 [.ptr b 0] h) .ex a la d)
 (g:PG2 b (psC v (n:Int) e o q) c (AeK 22 w) h hd) (hb:b<h.nx) (Ox:c<h.nx) (Z1:pb<h.nx) (K:AsJ b pb c v hd) (p:PsR b v l (n:Int) e o q hd) (y:Oo h.nx hd w R) (hn:R≠[])
 (ha:AaO l n (.kw s::la)) (hs:AmQ false 0 l (n+1+la.length)) (h0:0<=o) (hd':o+d<=50) (hz:R.length+a.nodes.length<=400) (hz2:a.nodes.length<=200)
 (next:∀h' w',PG2 b (psC v ((n+1+la.length:Nat):Int) e o q) c (AeK 22 w') h h'->AsJ b pb c v h'->PsR b v l ((n+1+la.length:Nat):Int) e o q h'->Oo h.nx h' w' (R++a.nodes)->Ah H0 Q (k h')):
 Ah H0 Q (Aa (Ae (some none) (.ptr pb 0) hd) λv4 h4=>Aa (Z.call 163 [v4,(.str s)] h4) λv5 j=>Aa (Ae (some none) (.ptr c 0) (Ab j)) λv6 h6=>Aa (Ae (some none) (.ptr pb 0) (Ab h6)) λv7 h7=>Aa (Z.call 255 [v7] (Ab h7)) λv8 i=>Aa (Ds 32 3 32 v6 v8 (Ab i)) λG r=>Aa (A4 1 (.ptr c 0) G (Ab r)) λv10 Fh=>
  Ff j.lg [eW 16 15 .all r Fh,eW 8 7 .all i r,eW 4 2 .all h7 i,eW 2 0 (Bn (some none) (.ptr pb 0)) h6 h7,eW 1 0 (Bn (some none) (.ptr c 0)) j h6] Fh k):=by
 have kp:=K.p;have u:=K.nc;have P:b≠c:=λA=>u A.symm;have gC:=g.BaK Ox;refine wk ?_;refine zu1 (Aff b v l n e o q s hd p (An8 ha.1)) λv5 j B l5 Az4 BuR q5=>?_;subst q5;rw[show(n:Int)+1=((n+1:Nat):Int)by omega]at B
 have K5:=K.pg B;have O:=p.pg B om p.ql;have kp5:=K5.p;have J:=(B.Cf c K.cl u).trans gC;have x5:=y.pg hn p.lt (λst A=>by rw[p.get]at A;cases A) hb B;have g5:=g.trP P B;obtain⟨o1,o2⟩:=y.one;clear Az4 BuR kp gC;refine wk ?_;refine zu1 (hA b v l (n+1) e o q _ (O.gr (Ai.refl j).nl) ha.2 hs h0 hd' hz2) λv8 i I l8 W U q8=>?_;have f:=(show AsJ b pb c v (Ab j)from⟨K5.p,K5.w,K5.pl,K5.cl,K5.np,K5.nc,K5.npc,K5.av⟩).pg I
 have p8:=(O.gr (Ai.refl j).nl).pg I om p.ql;have V:i.m.get c=AeK 22 w:=(I.Cf c K5.cl u).trans J;have x8:=(x5.gr (Ai.refl j).nl).pg hn O.lt (λst A=>by have:=O.get;rw[show(Ab j).m.get b=j.m.get b from rfl,this]at A;cases A) hb I
 have Y:PG2 b (psC v ((n+1+la.length:Nat):Int) e o q) c (AeK 22 w) h i:=(g5.gr (Ai.refl j).nl).trP P I;obtain⟨G,r,r1,r2,r3,r4,r5⟩:=Bnp (hc:=Ab i) Y.lo (x8.gr (Ai.refl i).nl) (q8.sl.gr (Ai.refl i).nl) (Tf a) om;refine Ey r1 ?_;have g9:PG2 b (psC v ((n+1+la.length:Nat):Int) e o q) c (AeK 22 w) h r:=r2 _ (Yw _) (Y.gr (Ai.refl i).nl);have w9:=r2 ⟨i.m,h.nx,[]⟩ (Yw _) ⟨Y.lo,λ_ _=>rfl,λx y=>by cases y⟩;have S:Ai ⟨i.m,h.nx,[]⟩ r:=w9;have F:r.m.get c=AeK 22 w:=(r5 c Ox).trans V;obtain⟨o3,o4⟩:=r3.one;have E:c<r.nx:=Xq f.cl r4.lo;clear W U J r1;refine wk ?_;refine Acx b c h.nx ?_ λL hL=>?_
 .have w8:∀x∈wrote j.nx i.lg,x=b:=PG.wrote (h:=j) I;have w9':∀x∈wrote i.nx r.lg,x=b\/x=c\/h.nx<=x:=λx y=>by
   rcases S.lg x (D4 _ _ _ y).1 with h3|h3
   .cases h3
   .exact .inr (.inr h3)
  have T:B5 (j.m.get c)=none:=by rw[(B.Cf c K.cl u).trans (g.BaK Ox)];rfl
  simp only[Tl,Pl,Ju,G4,Jj];refine⟨.inr ⟨λx y=>?_,?_⟩,.inr ⟨w9',?_⟩,.inr ⟨λx y=>.inl (w8 x y),?_⟩,.inl rfl,.inl rfl⟩
  .have hz:=(D4 _ _ _ y).1;simp at hz;exact .inr (.inl hz)
  all_goals
   repeat' (refine And.intro ?_ ?_)
  all_goals first|exact Ar ..|(refine Ax _ _ _ _ _ _ _ _ _ _ _ _ ?_;decide)|exact Dk (tk:=b) w8 O.lt (.inr ⟨c,_,_,rfl,u,T⟩)
 .have gY:PG2 b (psC v ((n+1+la.length:Nat):Int) e o q) c (AeK 22 G) h ((Ab r).put c (AeK 22 G)):=PG2.Bwz (g9.gr (Ai.refl r).nl);have M:AsJ b pb c v r:=⟨(r5 pb Z1).trans f.p,⟨w,F⟩,Xq f.pl r4.lo,E,f.np,f.nc,f.npc,f.av⟩;have p9:PsR b v l ((n+1+la.length:Nat):Int) e o q r:=(p8.gr (Ai.refl i).nl).kp r4 (r5 b hb);have z:=M.AnO G;exact next _ G (PG2.reL g5 gY hL) ⟨z.p,z.w,z.pl,z.cl,z.np,z.nc,z.npc,z.av⟩ ((p9.AnO u E F M.av _).reL L) ((r3.AnO (w:=w) (by simp[hn]) Ox E ⟨_,F⟩ _).rl (lg:=L))
variable {d3:Nat}{tc:Tr}{lc:List L3}
def BqC(A:AmR Z)(hC:Reads (λb h=>Z.call 168 [.ptr b 0] h) .cd tc lc d1)(W:Reads (λb h=>Z.call 255 [.ptr b 0] h) .ex a la d2)(S:Reads (λb h=>Z.call 255 [.ptr b 0] h) .ex tb lb d3):
 AvS (λpb c h=>Ay prog Z N false 289 [.ptr pb 0,.ptr c 0] h) (tc.nodes++a.nodes++tb.nodes) (lc++.kw [116,104,101,110]::la++.kw [101,108,115,101]::lb) (λl j=>AmQ false 0 l j) (max d1 (max d2 d3)):=λb pb c v l n e o q h p K U M h0 hd hz=>by
 refine Ats ?_;simp only[];rw[BzL];obtain⟨J,i,z⟩:=AaO.app.1 U;obtain⟨I,f,F⟩:=AaO.app.1 J;have x:n+(lc++L3.kw [116,104,101,110]::la++L3.kw [101,108,115,101]::lb).length=n+lc.length+1+la.length+1+lb.length:=by simp;omega
 have E:n+(lc++L3.kw [116,104,101,110]::la).length=n+lc.length+1+la.length:=by simp;omega
 rw[x]at M ⊢;rw[E]at i z;rw[X8,X8]at hz;have kp:=K.p;obtain⟨w0,kw⟩:=K.w;have u:=K.pl;have k:=K.cl;have L:=K.nc;refine wk ?_;refine zu1 (hC b v l n e o q h p I ⟨A6i (.inl rfl) f false 0,A6i (.inl rfl) f true 0⟩ h0 om om) λV h3 B l3 G T O=>?_;have K3:=K.pg B;have p3:=p.pg B om p.ql;obtain⟨w3,r⟩:=K3.w;obtain⟨o2,o3⟩:=O.one;have y:=K3.cl;clear G kw kp;refine wk ?_;refine Bop Z (n:=n+lc.length) (la:=la) (s:=[116,104,101,110]) A W (PG2.of B _) p.lt k u (K3.AnO V) (p3.AnO L y r K.av _) (O.AnO (w:=w3) (Tf tc) k y ⟨_,r⟩ _) (Tf tc) ⟨f,F⟩ (A6i (.inr rfl) i false 0) h0 om om om λh4 w4 g4 K4 P Y=>?_;refine Bop Z (n:=n+lc.length+1+la.length) (la:=lb) (s:=[101,108,115,101]) A S g4 p.lt k u K4 P Y (by simp[Tf]) ⟨i,z⟩ M h0 om (by rw[X8];omega) om λh5 w5 g5 K5 p5 R=>?_;exact zr (Ed _) ⟨w5,g5,R⟩
def BuQ(A:Av6 Z)(f:Bep Z cx)(B:AvS (λpb c h=>cx.call 289 [.ptr pb 0,.ptr c 0] h) (tc.nodes++a.nodes++tb.nodes) xs (λl j=>AmQ false 0 l j) d):Reads (λb h=>Ay prog Z N true 255 [.ptr b 0] h) .ex (.three tc a tb) (.kw [105,102]::xs) (d+1):=by
 intro b v l n e o q h p s R h0 hd W;refine AeN ?_;simp only[];rw[BuJ];have zb:=@AiE;have Fc:(tc.nodes++a.nodes++tb.nodes).length+1<=200:=by have:=W;simp[Tr.nodes]at this ⊢;omega
 have O:tc.nodes++a.nodes++tb.nodes≠[]:=by simp[Tf]
 have x:(Tr.three tc a tb).nodes=(tc.nodes++a.nodes++tb.nodes)++[⟨8,0,[]⟩]:=rfl;rw[x];generalize tc.nodes++a.nodes++tb.nodes=ns at *
 have i:Ai h ((h.new (.cells [.ptr b 0] 156 .exact)).new (AeK 22 .Bv)):=((Ai.refl h).new _).new _;refine wk ?_;have h1:=A b v l n e o q [105,102] _ (p.gr i);rw[An8 s.1]at h1;refine Fj h1 λv1 h2 r T k P=>?_;subst P;have K:=AgJ p r;have kp:=K.p;have G:=p.gr (i.trans r);simp only[C9]at T;have B6:=p.lt;clear h1;have y:=r;clear k;refine wk ?_;refine zu2 (f b (h.nx+1) v l n (n+1+xs.length) e o q h2 [105,102] (.fn (.func 289) [] [.ptr h.nx 0,.ptr (h.nx+1) 0]) ns O G K.nc K.cl (An8 s.1) h0 om λV E=>?_) λw v3 U e4 l4 J=>?_
 .rw[BuB];exact B b h.nx (h.nx+1) v l (n+1) e (o+1) q V (G.pg E om p.ql) (K.pg E) s.2 (by rw[show n+1+xs.length=n+(L3.kw [105,102]::xs).length by rw[R6];omega];exact R) om om om
 have F:=e4.BaK K.cl;have S:PG b (psC v ((n+1+xs.length:Nat):Int) e o q) h U:=PG2.own (PX.of ((PG.refl p.get).gr (i.trans y))) e4 om;have z:=Xq K.cl e4.lo;obtain⟨o1,Y⟩:=J.one;clear kp;refine wk ?_;obtain⟨v5,h5,I,s2,s3,M,L⟩:=AoI ⟨8,0,[]⟩ S (show h.nx<=h2.nx by omega) e4.lo J om
 refine Ey I ?_;have u:=(L (h.nx+1) K.cl).trans F;obtain⟨o3,o4⟩:=s3.one;clear F I L;refine wk ?_;rw[AkG (A2 _ _)];refine Lo (Ed _) ⟨?_,?_⟩
 .rw[show n+(L3.kw [105,102]::xs).length=n+1+xs.length by rw[R6];omega]
  exact s2.Aiq _ _ om
 .exact(s3.AnO (w:=.Bv) (by simp) K.cl (Xq z M) ⟨_,u⟩ _).Y5 om
def PaL:List Nat:=[4,16,37,62,74,75,76,77,100,101,102,103,105,106,107,122,123,124,125,127,128,129,130,131,132,133,152,153,154,155,156,157,158,159,160,161,162,163,164,165,166,167,168,169,170,171,186,187,188,190,215,216,217,218,219,220,221,222,223,224,225,226,236,251,252,253,254,255,256,257,258,259,260,286,287,288,289,290,291,292,293,312,313,314,315,316,317]
abbrev N0x:Nat:=1048576
def Abu(C:Nat->Ac):Prop:=∀g∈PaL,∀(d:Nat) (q:Bool) (args:List AV) (h:H) (v:AV) (h1:H),Ay prog (C d) N0x q g args h=.ok v h1->(C (d+1)).call g args h=.ok v h1
variable {C:Nat->Ac}{D:Nat}{g:Nat}{q:Bool}{args:List AV}{h0:H}{Q:AV->H->Prop}{X:AO}{nt:NT}{m:Nat}
def Gp(U:Abu C)(f:Ah h0 Q (Ay prog (C d) N0x q g args h))(i:g∈PaL:=by decide):Ah h0 Q ((C (d+1)).call g args h):=by obtain⟨v,h1,h2,j⟩:=f;exact⟨v,h1,U g i d q args h v h1 h2,j⟩
def upP(U:Abu C)(f:AjT b X h Q (Ay prog (C d) N0x q g args h))(i:g∈PaL:=by decide):AjT b X h Q ((C (d+1)).call g args h):=Gp U f i
def BwD(U:Abu C){ty:TypeId}{W:AV->H->Prop}(f:Ao8 b X c ty h W (Ay prog (C d) N0x q g args h))(i:g∈PaL:=by decide):Ao8 b X c ty h W ((C (d+1)).call g args h):=by obtain⟨w,v,h1,h2,j⟩:=f;exact⟨w,v,h1,U g i d q args h v h1 h2,j⟩
def prL{k:Nat}(h:k+1<=D):∃e,D=e+1/\k<=e:=⟨D-1,by omega,by omega⟩
def A5X(U:Abu C)(hd:1<=D):AsK (C D):=by obtain⟨e,rfl,k⟩:=prL hd;exact λb v l i e' o q w r h p f j=>Gp U (B2x _ _ fe p f j)
def Bnv(U:Abu C)(hd:1<=D):Bm3 (C D):=by obtain⟨e,rfl,f⟩:=prL hd;exact λb v l i e' o q h p=>Gp U (B2z _ _ p)
def Azd(U:Abu C)(hd:2<=D):Av6 (C D):=by obtain⟨e,rfl,f⟩:=prL hd;exact λb v l i e' o q s h p=>Gp U (B3e _ _ (A5X U f) s p)
def BdX(U:Abu C)(hd:3<=D):AlT (C D):=by obtain⟨e,rfl,j⟩:=prL hd;exact λb v l i e' o q s h p f=>Gp U (Bw1 _ _ (Azd U j) p f)
def A8D(U:Abu C)(hd:3<=D):Al5 (C D):=by obtain⟨e,rfl,j⟩:=prL hd;exact λb v l i e' o q s h p f=>upP U (Bw2 _ _ (Azd U j) p f)
def A8A(U:Abu C)(hd:4<=D):AmR (C D):=by obtain⟨e,rfl,j⟩:=prL hd;exact λb v l i e' o q s h p f=>upP U (B2N _ _ (A8D U j) p f)
def Bwu(U:Abu C)(hd:2<=D):Bpm (C D):=by obtain⟨e,rfl,j⟩:=prL hd;exact λb v l i e' o q k t h p f=>upP U (B3d _ _ (A5X U j) p f)
def Bnw(U:Abu C)(hd:3<=D):Bar (C D):=by obtain⟨e,rfl,j⟩:=prL hd;exact λb v l i e' o q t h p f=>upP U (B2O _ _ (Bwu U j) p f)
def Bnx(U:Abu C)(hd:3<=D):Beo (C D):=by obtain⟨e,rfl,j⟩:=prL hd;exact λb v l i e' o q t h p f=>upP U (B2S _ _ (Bwu U j) p f)
def Bwt(U:Abu C)(hd:4<=D):Bav (C D):=by obtain⟨e,rfl,f⟩:=prL hd;exact λb v l i e' o q n m h p j=>upP U (B3c _ _ (BdX U f) (A8D U f) (Bnx U f) p j)
def Bwm(U:Abu C)(hd:4<=D):Bas (C D):=by obtain⟨e,rfl,j⟩:=prL hd;exact λb v l i e' o q t h p f hn=>upP U (B2P _ _ (Bnv U om) (Bnx U j) p f hn)
def Bwv(U:Abu C)(hd:1<=D):Bpn (C D):=by obtain⟨e,rfl,f⟩:=prL hd;exact λh=>Gp U (B3f _ _)
def Bww(U:Abu C)(hd:1<=D):Bps (C D):=by obtain⟨e,rfl,f⟩:=prL hd;exact λb v l i e' o q j k h p=>Gp U (B3q _ _ p)
def BjL(U:Abu C)(hd:5<=D):Bep (C (D+1)) (C D):=
 λb c v l n j e o q h s f w hn p hc k r h0 i u=>BwD U (B3m (W:=λ_ _ _=>True) _ _ hn (A8A U om) p hc k r h0 i u)
def upR(U:Abu C)(i:Reads (λb h=>Ay prog (C d) N0x q g [.ptr b 0] h) nt t xs m)(j:g∈PaL:=by decide):Reads (λb h=>(C (d+1)).call g [.ptr b 0] h) nt t xs m:=
 λb v l n e o q h p f k h0 hd r=>upP U (i b v l n e o q h p f k h0 hd r) j
def upC(U:Abu C){c:Bool}{k:Nat}(r:AlB (λbb b h=>Ay prog (C d) N0x q 224 [.ptr b 0,lvS bb k,fnO b c] h) c k t xs m):AlB (call224 (C (d+1)) c k) c k t xs m:=
 λbb r0 r1 b v l n e o q h L s f j p i u h0 hd w=>upP U (r bb r0 r1 b v l n e o q h L s f j p i u h0 hd w)
def upL(U:Abu C){f:List Nd}{st:List Tok->Nat->Prop}(j:AvS (λpb c h=>Ay prog (C d) N0x q g [.ptr pb 0,.ptr c 0] h) f xs st m)(k:g∈PaL:=by decide):AvS (λpb c h=>(C (d+1)).call g [.ptr pb 0,.ptr c 0] h) f xs st m:=
 λb pb c v l n e o q h p K i r h0 hd s=>BwD U (j b pb c v l n e o q h p K i r h0 hd s) k
def hdU(x:L3):Prop:=(∃n,x=.nu n)\/(∃c,x=.nm c)\/x=.sg [45]\/x=.sg [40]
def hdE(x:L3):Prop:=hdU x\/x=.kw [105,102]
def Abz:NT->L3->Prop
|.un,x=>hdU x
|.ch false _,x=>hdU x
|.ex,x=>hdE x
|.cm,x=>hdE x
|_,_=>True
def A6b{nt:NT}{d m:Nat}{t:Tr}{xs:List L3}(h:Aan nt d m t xs):∃x r,xs=x::r/\Abz nt x:=by
 induction h with
 |num n=>exact⟨_,_,rfl,.inl ⟨n,rfl⟩⟩
 |Zn c=>exact⟨_,_,rfl,.inr (.inl ⟨c,rfl⟩)⟩
 |neg _ _=>exact⟨_,_,rfl,.inr (.inr (.inl rfl))⟩
 |par _ _=>exact⟨_,_,rfl,.inr (.inr (.inr rfl))⟩
 |opn _ f=>exact f
 |opc _ f=>obtain⟨x,r,rfl,_⟩:=f;exact⟨x,r,rfl,trivial⟩
 |@up c k _ _ _ _ _ _ f=>cases c<;>exact f
 |@bin c k _ _ _ _ _ _ _ _ _ _ _ _ _ _ f _=>obtain⟨y,r,rfl,h1⟩:=f;exact⟨y,_,rfl,h1⟩
 |ext _ f=>obtain⟨x,r,rfl,h1⟩:=f;exact⟨x,r,rfl,.inl h1⟩
 |iff _ _ _ _ _ _=>exact⟨_,_,rfl,.inr rfl⟩
 |cnd _ f=>obtain⟨x,r,rfl,_⟩:=f;exact⟨x,r,rfl,trivial⟩
 |not _ _=>exact⟨_,_,rfl,trivial⟩
 |bra _ _=>exact⟨_,_,rfl,trivial⟩
 |cmp _ f=>obtain⟨x,r,rfl,_⟩:=f;exact⟨x,r,rfl,trivial⟩
 |two _ _ _ f _=>obtain⟨y,r,rfl,h1⟩:=f;exact⟨y,_,rfl,h1⟩
 |wrd op s c w _ _ _ _=>exact⟨_,_,rfl,.inl (.inr (.inl ⟨c,rfl⟩))⟩
def Bru{x:L3}(h:hdU x):Amm [105,102] x:=by rcases h with⟨n,rfl⟩|⟨c,rfl⟩|rfl|rfl<;>simp[Amm]
def Brs{x:L3}(h:hdE x):Amm [110,111,116] x/\Amm [91] x:=by rcases h with(⟨n,rfl⟩|⟨c,rfl⟩|rfl|rfl)|rfl<;>simp[Amm]
def Brt{x:L3}(h:hdE x)(w:List Nat):x≠.wd w:=by rcases h with(⟨n,rfl⟩|⟨c,rfl⟩|rfl|rfl)|rfl<;>simp
def BtS(C:Nat->Ac)(D:Nat):NT->Tr->List L3->Nat->Prop
|.ex,t,xs,d=>Reads (λb h=>(C D).call 255 [.ptr b 0] h) .ex t xs d
|.un,t,xs,d=>Reads (λb h=>(C D).call 288 [.ptr b 0] h) .un t xs d
|.cd,t,xs,d=>Reads (λb h=>(C D).call 168 [.ptr b 0] h) .cd t xs d
|.ng,t,xs,d=>Reads (λb h=>(C D).call 225 [.ptr b 0] h) .ng t xs d
|.cm,t,xs,d=>Reads (λb h=>(C D).call 259 [.ptr b 0] h) .cm t xs d
|.ch c k,t,xs,d=>AlB (call224 (C D) c k) c k t xs d/\(k<2->∀e,D=e+1->Reach (C e) N0x c k t xs d)
def A8U(U:Abu C){nt:NT}{d m:Nat}{t:Tr}{xs:List L3}(h:Aan nt d m t xs):∀D,3*m+20<=D->BtS C D nt t xs d:=by
 have A:∀{c:Bool} {k d:Nat} {t:Tr} {xs:List L3} {e:Nat},1<=e->k<2->Reach (C e) N0x c k t xs d->BtS C (e+1) (.ch c k) t xs d:=λ{c k d t xs e} f u y=>⟨upC U (A8W _ _ fe u (A5X U f) y),λ_ e' h'=>by cases h';exact y⟩;induction h with
 |num n=>intro D j;obtain⟨e,rfl,f⟩:=prL j;exact upR U (Bs0 _ _ (Azd U om) (A5X U om) n)
 |Zn c=>intro D j;obtain⟨e,rfl,f⟩:=prL j;exact upR U (Bsy _ _ (Azd U om) (A5X U om) (Bnw U om) c)
 |@neg d m a la _ i=>intro D j;obtain⟨e,rfl,f⟩:∃e,D=e+3/\3*m+20<=e:=⟨D-3,by omega,by omega⟩;exact upR U (Bsz (C (e+2)) (C (e+1)) _ (Azd U om) (BjL U om) (upL U (BqD _ _ (i e f))))
 |@par d m a la _ i=>intro D j;obtain⟨e,rfl,f⟩:∃e,D=e+3/\3*m+20<=e:=⟨D-3,by omega,by omega⟩;exact upR U (Bs1 (C (e+2)) (C (e+1)) _ (Azd U om) (BjL U om) (upL U (BqE _ _ (A8A U om) (i e f))))
 |@opn d m t l _ i=>
  intro D j;obtain⟨e,rfl,f⟩:=prL (k:=3*m+20) (show _<=D by omega)
  exact⟨upC U (Bgg _ _ (i e f)),λh=>absurd h om⟩
 |@opc d m t l _ i=>
  intro D j;obtain⟨e,rfl,f⟩:=prL (k:=3*m+20) (show _<=D by omega)
  exact⟨upC U (Bgf _ _ (i e f)),λh=>absurd h om⟩
 |@up c k d m t l u _ i=>
  intro D j;obtain⟨e,rfl,f⟩:=prL (k:=3*m+20) (show _<=D by omega)
  exact A om u (Bko _ _ u (i e f).1)
 |@bin c k d1 d2 m1 z a la b lb op x u B _ _ F p=>
  intro D j;obtain⟨e,rfl,f⟩:=prL (k:=3*(m1+z)+20) (show _<=D by omega)
  exact A om u (Bge _ _ fe u B (A5X U om) ((F (e+1) om).2 u e rfl) (p e om).1)
 |@ext d m t l y i=>
  intro D j;obtain⟨e,rfl,f⟩:=prL (k:=3*m+20) (show _<=D by omega)
  obtain⟨x,r,rfl,E⟩:=A6b y;exact upR U (BuP _ _ (Azd U om) (Bwv U om) (by simpa using Bru E) (by simp) (i e f).1)
 |@iff d1 d2 d3 m1 z J c lc a la b lb _ _ _ G F p=>intro D j;obtain⟨e,rfl,f⟩:∃e,D=e+3/\3*(m1+z+J)+20<=e:=⟨D-3,by omega,by omega⟩;have:=upR U (BuQ (C (e+2)) (C (e+1)) _ (Azd U om) (BjL U om) (upL U (BqC _ _ (A8A U om) (G e om) (F e om) (p e om))));exact this
 |@cnd d m t l _ i=>
  intro D j;obtain⟨e,rfl,f⟩:=prL (k:=3*m+20) (show _<=D by omega)
  exact upR U (Bu4 _ _ (Bwv U om) (i e f).1)
 |@not d m a la _ i=>intro D j;obtain⟨e,rfl,f⟩:∃e,D=e+3/\3*m+20<=e:=⟨D-3,by omega,by omega⟩;exact upR U (BrT (C (e+2)) (C (e+1)) _ (Azd U om) (BjL U om) (upL U (BqA _ _ (i e f))))
 |@bra d m a la _ i=>intro D j;obtain⟨e,rfl,f⟩:∃e,D=e+3/\3*m+20<=e:=⟨D-3,by omega,by omega⟩;exact upR U (BrR (C (e+2)) (C (e+1)) _ (Azd U om) (BjL U om) (upL U (BqB _ _ (A8A U om) (i e f))))
 |@cmp d m t l y i=>
  intro D j;obtain⟨e,rfl,f⟩:=prL (k:=3*m+20) (show _<=D by omega)
  obtain⟨x,r,rfl,E⟩:=A6b y;exact upR U (BrS _ _ (Azd U om) (by simpa using Brs E) (by simp) (i e f))
 |@two d1 d2 m1 z a la b lb op s B _ I F p=>
  intro D j;obtain⟨e,rfl,f⟩:=prL (k:=3*(m1+z)+20) (show _<=D by omega)
  obtain⟨x,r,rfl,E⟩:=A6b I;exact upR U (BqF _ _ (A5X U om) (Bww U om) B (F e om) (p e om) (by simpa using Brt E) (by simp))
 |@wrd m op s c w B K _ i=>
  intro D j;obtain⟨e,rfl,f⟩:=prL (k:=3*m+20) (show _<=D by omega)
  exact upR U (BqG _ _ (A5X U om) (Bww U om) B K (i e f))
end Go.Proofs

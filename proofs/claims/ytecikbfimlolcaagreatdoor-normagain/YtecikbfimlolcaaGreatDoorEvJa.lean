/- Equality of queries: the function. -/
import Derived.Test.YtecikbfimlolcaaGreatDoorEvWb
set_option linter.all false
set_option maxRecDepth 100000
noncomputable section
namespace Go.Proofs
open Go Go.Ev Go.Nm Tryz Go.Ev.Sx
attribute [local irreducible] Aa Al Af Ad
variable (Z cx:Ac)(N:Nat)
variable {h h1 h2 h0 hd:H}{b:Nat}{s:List Nat}{a v:AV}
structure BdS(b:Nat)(s:List Nat)(h:H):Prop where
 lt:b<h.nx
 g:∃a v,(a=.Ob\/a=.ptr b 0)/\h.m.get b=.cells [a,v] 192 .exact/\Fm 1 (b+1) 5 h v s.length (s.flatMap AiS)
structure Adz(b:Nat)(s:List Nat)(h:H):Prop where
 lt:b<h.nx
 g:∃v,h.m.get b=.cells [.ptr b 0,v] 192 .exact/\Fm 1 (b+1) 5 h v s.length (s.flatMap AiS)
def Bpl:Prop:=∀(b:Nat) (s:List Nat) (h:H),BdS b s h->Ah H0 (λr h1=>r=.Bj []/\WG b h h1/\Adz b s h1) (Z.call 190 [.ptr b 0] h)
def By5 b:aeq prog 20 189 (.ptr b 0) (.ptr b 0)=some true:=by show @Bool.rec _ _ ..=_;simp
def B19 b hh:bo .neq 189 false (.ptr b 0) (.ptr b 0) hh=.ok (.bool false) hh:=by show @Bool.rec _ (.bad 39) (match aeq _ _ _ .. with|some b=>OR.ok ..|none=>.bad _) (Xm prog 189 false (O6 (.ptr b 0)) (O6 (.ptr b 0)))=_;rw[(rfl:Xm prog 189 false (O6 (.ptr b 0)) (O6 (.ptr b 0))=true),By5];rfl
def Bnm P(c:P=prog):Awp P 192 2 0 192=true:=by subst c;rfl
def B2W(k:BdS b s h):Ah H0 (λr h1=>r=.Bj []/\WG b h h1/\Adz b s h1) (Ay prog Z N true 190 [.ptr b 0] h):=by
 obtain⟨a,v,u,f,l⟩:=k.g;have j:=k.lt;have c0:Nv h b [a,v]:=⟨j,_,_,f,trivial⟩;have n:=c0.one (o:=0) rfl;rw[Bzz];refine Ey (v:=.ptr b 0) (h:=h) rfl (Ey (v:=.ptr b 0) (h:=h) rfl (Ey (n h (Bi.refl _)) ?_));rcases u with rfl|rfl
 .have x:∀d:H,bo .eql 189 true .Ob .Ob d=.ok (.bool true) d:=λd=>by rfl
  have z:BwJ (.ptr b 0) h=.ok (.ptr b 0) h:=by
   have h1:h.rd b=some [.Ob,v]:=by rw[AaS,f];rfl
   show(match h.rd b with|some c=>(@Bool.rec (λ_=>OR) (.bad 57) (.ok (.ptr b 0) h) (Nat.blt 0 (Q4 c)))|none=>.bad 58)=_;rw[h1];rfl
  have q:∀d:H,AgK (Uk prog 238) [.ptr b 0] d=.ok (.ptr b 0) d:=λd=>by kernel_rfl
  have y:BwH prog 192 (.ptr b 0) h=.ok (.ptr b 0) h:=by show(match h.m.get b with|.cells c e .exact=>(@Bool.rec (λ_=>OR) (.bad 60) (.ok (.ptr b 0) h) (Awp prog e (Q4 c) 0 192))|_=>.bad 61)=_;rw[f];simp only[];rw[show Q4 [AV.Ob,v]=2 from rfl,Bnm _ rfl]
  have p:A4 1 (.ptr b 0) (.ptr b 0) h=.ok (.Bj []) (h.put b (.cells [.ptr b 0,v] 192 .exact)):=A9c (i:=0) f (by simp_all) ⟨rfl,rfl⟩;refine Ey (x _) (Zx (Ey z (Ey (q _) (Ey y (Ey (v:=.ptr b 0) (h:=h) rfl (Ey (v:=.ptr b 0) (h:=h) rfl (Ey p ?_)))))));exact Lo (gr0 _) ⟨rfl,(WG.refl j).put,j,v,A2 ..,Fm.To l (Up b) (by simp_all)⟩
 .exact Ey ((λd=>rfl:∀d,bo .eql 189 true (.ptr b 0) .Ob d=.ok ..) _) (Ae5 (Ey rfl (Ey rfl (Ey (n h (Bi.refl _)) (Ey ((B19 b) _) (Ae5 (Lo (gr0 _) ⟨rfl,WG.refl j,j,v,f,l⟩)))))))
def Bhj{v:AV}{t:List Nat}{y:AV}{Q:AV->H->Prop}{K:AV->AV->AV->AV->H->OR}(F:h.m.get b=.cells [.ptr b 0,v] 192 .exact)(L:b<h.nx)(G:Fm 1 (b+1) 5 h v s.length (s.flatMap AiS))(hy:Hd h 1 y=some (t.length,t.flatMap AiS))(M:s.length+t.length<=100000)
 (hk:∀h1 v',WG b h h1->Adz b (s++t) h1->Ah H0 Q (K v' (.ptr b 0) (.ptr b 1) (.Bj []) h1)):
 Ah H0 Q (Aa (Ds 5 1 1 v y h) λp h1=>Aa (Fu (.ptr b 0) h1) λq h2=>Aa (Bs q 1 h2) λr g=>Aa (A4 1 r p g) λC k=>K p q r C k):=by
 obtain⟨v',j,I,B,O,u,q5,o⟩:=Fm.BmA (bytes:=1) (lo:=b+1) G hy (Aa9 (s:=1) (f:=AiS) (λ_=>rfl) t) om (by
  have:∀l:List Nat,Bm (l.flatMap AiS)=true:=λl=>by induction l with
   |nil=>rfl
   |cons a l z=>exact z
  exact this t) om;have d:j.m.get b=.cells [.ptr b 0,v] 192 .exact:=(q5 b (Up b)).trans F;obtain⟨E,A⟩:=B2 u.sl;have J:=B.lo;refine Ey I (Ey (v:=.ptr b 0) (h:=j) rfl (Ey (v:=.ptr b 1) (h:=j) (by rfl) (Ey (A9c (i:=1) d (by simp) ⟨E,A⟩) ?_)));refine hk _ v' ⟨?_,?_,?_,?_⟩ ⟨by show b<j.nx;omega,v',A2 _ _,?_⟩;. simp_all
 .intro c hc;rw[Aq _ _ _ om,q5 c om]
 .intro c cs e hc hn D;rw[Aq _ _ _ hn,o.ex c cs e hc D]
 .intro x n;rcases Tu.1 n with rfl|n;. simp_all
  .rcases o.lg x n with g|⟨g,k⟩|g;. grind
   .exact .inr (.inr (.inl ⟨g,k⟩))
   simp_all
 .have:=Fm.To (l:=[.ptr b 0,v']) (e1:=192) u (Up b) (by rw[d];rfl);simp_all
def Adz.bd(k:Adz b s h):BdS b s h:=by have⟨v,d,c⟩:=k.g;exact⟨k.lt,_,v,.inr rfl,d,c⟩
def BdS.gr(k:BdS b s h)(g:Ai h h1):BdS b s h1:=by have⟨a,v,e,c,d⟩:=k.g;exact⟨Xq k.lt g.lo,a,v,e,(g.Cf b k.lt).trans c,d.gr g⟩
def Bpg:Prop:=∀(b c:Nat) (s:List Nat) (h:H),BdS b s h->s.length<=50000->Ah H0 (λr h1=>WG b h h1/\BdS b (s++[c]) h1) (Z.call 128 [.ptr b 0,.int .u8 (c:Int)] h)
def B26(e:Bpl Z){c:Nat}(k:BdS b s h)(q:s.length<=50000):Ah H0 (λr h1=>WG b h h1/\BdS b (s++[c]) h1) (Ay prog Z N true 128 [.ptr b 0,.int .u8 c] h):=by rw[ByX];refine zc0 (e b s h k) λp h1 ⟨_,l,j⟩=>?_;have⟨v,i,o⟩:=j.g;have f:=j.lt;refine Ey rfl (Ey rfl (Ey ((⟨f,_,_,i,trivial⟩:Nv _ b _).one rfl _ (Bi.refl _)) ?_));apply Ey rfl;have d:Ai _ (h1.new (.cells [.int .u8 c] 5 .exact)):=(Ai.refl _).new _;exact Bhj ((d.Cf b f).trans i) (Xq f d.lo) (o.gr d) (Sl.lit (Bf _) rfl rfl).src (by grind) λh2 v' m n=>Lo (gr0 _) ⟨(l.gr k.lt d).trans k.lt m,n.bd⟩
def Bm5:Prop:=∀(b:Nat) (s t:List Nat) (h:H),BdS b s h->s.length<=50000->t.length<=5000->Ah H0 (λr h1=>WG b h h1/\BdS b (s++t) h1) (Z.call 129 [.ptr b 0,.str t] h)
def B27(c:Bpl Z){t}(k:BdS b s h)(p:s.length<=50000)(o:t.length<=5000):Ah H0 (λr h1=>WG b h h1/\BdS b (s++t) h1) (Ay prog Z N true 129 [.ptr b 0,.str t] h):=by
 rw[ByY];refine zc0 (c b s h k) λn h1 ⟨_,i,e⟩=>?_;have⟨v,d,m⟩:=e.g;have f:=e.lt;refine Ey rfl (Ey rfl (Ey ((⟨f,_,_,d,trivial⟩:Nv _ b _).one rfl _ (Bi.refl _)) (Bhj (t:=t) d f m ?_ om λh2 v' j l=>?_)));. show @Bool.rec (λ_=>Option _) none (some _) (Nat.beq 1 1)=_;rw[Rf,Asj];rfl
 .exact Ey (A63 t) (Lo (gr0 _) ⟨i.trans k.lt j,l.bd⟩)
def Bs2 P(c:P=prog):P.underlying 263=some (.pointer 5)/\P.underlying 5=some (.int .u8)/\F7 P 5=some 1:=by subst c;exact⟨rfl,rfl,rfl⟩
def Bhm:∀s:List _,s.flatMap AiS=s.map u8C
|[]=>rfl
|c::s=>by show u8C c::s.flatMap _=_;rw[Bhm s];rfl
def Bs3{q k st:Nat}(i:s≠[])(d:∀c∈s,c<256)(j:s.length<=100000)(g:h.m.get q=.cells (s.flatMap AiS) 5 (.Gt k))(f:h.m.get k=.Fb st):
 usV prog 263 (.ptr q 0) (iI s.length) h=.ok (.str s) ((h.put q (.cells (s.flatMap AiS) 5 (.fz k))).put k (.Fb st)):=by
 have⟨u1,u2,u3⟩:=Bs2 _ rfl;have⟨n,hn⟩:∃n,s.length=n+1:=by cases s with|nil=>grind|cons c l=>simp
 have e:(s.flatMap AiS).length=s.length:=by rw[Aa9 (s:=1) λ_=>rfl,ae]
 unfold usV;rw[show vP _=.yes q 0 from rfl,show Arm _=some _ by rw[hn];rfl];simp only[g,u1,u2,u3,f];rw[show Nf _ 0 _=some _ by rw[E5,W5 om,Cp,Qa om],show Aj3 _=some _ from rfl];simp only[Bhm,ArA s d];rw[show Gj _=true by rw[Fi];grind];rfl
def Bph:Prop:=∀(b:Nat) (s:List Nat) (h:H),BdS b s h->s≠[]->(∀c∈s,c<256)->s.length<=100000->Ah H0 (λr h1=>r=.str s/\WG b h h1) (Z.call 130 [.ptr b 0] h)
def B28(k:BdS b s h)(j:s≠[])(u:∀c∈s,c<256)(F:s.length<=100000):Ah H0 (λr h1=>r=.str s/\WG b h h1) (Ay prog Z N false 130 [.ptr b 0] h):=by
 obtain⟨a,v,V,M,P⟩:=k.g;have I:=k.lt;have c0:Nv h b [a,v]:=⟨I,_,_,M,trivial⟩;have A:=c0.one (o:=1) rfl;rcases P with⟨z,_⟩|⟨z,_⟩|⟨q,y,st,rfl,n,p,J,q5,T,U,X,W⟩
 .exact absurd (M8.1 z) j
 .exact absurd (M8.1 z) j
 have E:0<s.length:=by cases s with|nil=>exact absurd rfl j|cons c l=>exact en _
 have B:∀d:H,Bs (.ptr b 0) 1 d=.ok (.ptr b 1) d:=λd=>by rw[E3,Rx]
 have K:∀d:H,sdV (.sl q 0 s.length s.length 1 false) d=.ok (.ptr q 0) d:=λd=>by
  show(@Bool.rec (λ_=>OR) (.ok (.ptr q 0) d) (.bad 138) (Nat.beq s.length 0):OR)=_;rw[show Nat.beq s.length 0=false by cases G:Nat.beq s.length 0 with
   |false=>rfl
   |true=>exact absurd (ao G) om]
 have C:∀d:H,Fo (.sl q 0 s.length s.length 1 false) d=.ok (iI (s.length:Int)) d:=λd=>rfl;have S:∀d:H,Bi h (Ab d) ↔ Bi h d:=λd=>⟨λe=>e.Be d.lg,λe=>e.nl⟩;rw[ByZ];refine Ey (v:=.ptr b 0) (h:=Ab h) rfl (Ey (B _) (Ey (A _ (Bi.refl h).nl.nl.nl) (Ey (K _) (Ey (v:=.ptr b 0) (h:=Ab (Ab (Ab (Ab (Ab h))))) rfl (Ey (B _) (Ey (A _ (Bi.refl h).nl.nl.nl) (Ey (C _) ?_)))))));have D:=Bs3 (h:=Ab (Ab (Ab (Ab (Ab (Ab (Ab (Ab (Ab h)))))))) ) j u F n p;refine Ey D ?_;have O:∀x∈[y,q],x=b\/(b<x/\NEx (h.m.get x))\/h.nx<=x:=λx i=>by
  rcases Tu.1 i with rfl|i
  .exact .inr (.inl ⟨q5,λcs e f=>by rw[p]at f;cases f⟩)
  .rcases Tu.1 i with rfl|i
   .exact .inr (.inl ⟨J,λcs e f=>by rw[n]at f;cases f⟩)
   .cases i
 refine Axi (λx=>x=b\/(b<x/\NEx (h.m.get x))\/h.nx<=x) ?_ λL R=>?_;. exact fI (.inl rfl) (fI (.inr ⟨λx i=>O x (D4 _ _ _ i).1,by(repeat (refine Tl.2 ⟨(by first|exact Ar ..|(refine Ax _ _ _ _ _ _ _ _ _ _ _ _ ?_;decide)|exact A4Q rfl),?_⟩));exact fN⟩) (fI (.inl rfl) (fI (.inl rfl) (fI (.inl rfl) (fI (.inl rfl) (fI (.inl rfl) (fI (.inl rfl) (fI (.inl rfl) (fI (.inl rfl) (fI (.inl rfl) (fI (.inl rfl) fN)))))))))))
 .refine Lo (gr0 _) ⟨rfl,Yw _,λc hc=>?_,λc cs e hc hn f=>?_,R⟩;. show((h.put q _).put y _).m.get c=_;rw[Aq _ _ _ om,Aq _ _ _ om]
  .show((h.put q _).put y _).m.get c=_;rw[Aq _ _ _ (λd=>by rw[d,p]at f;cases f),Aq _ _ _ (λd=>by rw[d,n]at f;cases f)]
variable {t:Tok}
def inS(t:Tok)(l:List (List Nat)):Bool:=decide (t.k=5)&&decide (t.t∈l)
def Bpf:Prop:=∀(t:Tok) (l:List (List Nat)) (v:AV) (h:H),Ig h v l->l.length<=50->Ah h (λr _=>r=.bool (inS t l)) (Z.call 127 [.agg (Aez t),v] h)
def B25(c:Be2 Z){l:List (List Nat)}(g:Ig h v l)(i:l.length<=50):Ah h (λr _=>r=.bool (inS t l)) (Ay prog Z N true 127 [.agg (Aez t),v] h):=by
 rw[ByW];have e:Ai h (h.new (.cells (Aez t) 160 .exact)):=(Ai.refl h).new _;by_cases d:t.k=5;. refine wk ?_;refine Fj (c t.t v l _ (Sl.By g e.keeps) i) λm h1 e1 l1 f j=>(wk ?_);apply Lo (e.trans e1);simp[inS,d]
 .refine wk ?_;exact zr Ex (by simp[inS,d])
def Bub x y(e:x.length+y.length<=100000) hh:bo .add 9 true (.str x) (.str y) hh=.ok (.str (x++y)) hh:=by
 show @Bool.rec _ _ ..=_;rw[Rf,Rf,Fi,Ws (by show x.length+y.length<_;omega)];have:∀a c,AzJ a c=a++c:=λa c=>by induction a with
  |nil=>rfl
  |cons z a d=>show z::AzJ a c=_;simp[*]
 grind
abbrev gA4:List (List Nat):=[[40],[91],[47],[46,46]]
abbrev gB5:List (List Nat):=[[41],[93],[44],[47],[46,46]]
def BvC x:inS (Ae7 x) gA4=glA x:=by cases x<;>simp[inS,Ae7,glA]
def BvD x:inS (Ae7 x) gB5=glB x:=by cases x<;>simp[inS,Ae7,glB]
def B4g(f:Bm5 Z){i c:Nat}{l t6 t7 t8:AV}{f0:L2}{x:L3}{Q:AV->H->Prop}(k:BdS b s h)(B:s.length<=3000)(E:(lt x).length<=3000)(z:h.m.get c=.cells (Aez (Ae7 x)) 160 .exact)(u:c<h.nx)(C:c≠b)
 (go:∀h1 f0,WG b h h1->BdS b (s++lt x) h1->Ah H0 Q (BcO Z N i l (.ptr b 0) t6 t7 t8 f0 h1)):
 Ah H0 Q (A6F Z N i l (.ptr b 0) (.ptr c 0) t6 t7 t8 f0 h):=by
 have c5:Nv h c (Aez (Ae7 x)):=⟨u,_,_,z,trivial⟩;have y:=c5.one (o:=0) rfl;have g:=c5.one (o:=1) rfl;have A:∀d:H,Bs (.ptr c 0) 0 d=.ok (.ptr c 0) d:=λd=>by simp[*]
 have p:∀d:H,Bs (.ptr c 0) 1 d=.ok (.ptr c 1) d:=λd=>by simp
 rw[BoZ];refine Ey (A h) (Ey (y h (Bi.refl _)) (Ey (eqK _ _ _) ?_));by_cases e:(Ae7 x).k=4
 .obtain⟨w,rfl⟩:∃w,x=.wd w:=by cases x<;>first|grind|(revert e;show _=(4:Int)->_;intro e;cases e)
  rw[Ws e];have D:w.length+2<=3000:=by
   have:(lt (.wd w)).length=w.length+2:=by simp[lt]
   omega
  refine Zx (Ey (p h) (Ey (g h (Bi.refl _)) ?_));refine Ey (Bub [39] w (by simp;omega) _) (Ey (Bub ([39]++w) [39] (by grind) _) ?_);refine zc0 (f b s ([39]++w++[39]) h k om (by simp;omega)) λr h1 ⟨n,j⟩=>?_;exact go _ _ n j
 .rw[Xn e];have q:(Ae7 x).t=lt x:=by cases x<;>first|rfl|exact absurd rfl e
  refine Ae5 (Ey (p h) (Ey (g h (Bi.refl _)) ?_));rw[q];refine zc0 (f b s (lt x) h k om om) λr h1 ⟨n,j⟩=>?_;grind
variable {hA:H}{lxs:List L3}
def Biv(B:Bpf Z)(U:Bpg Z)(O:Bm5 Z)(X:Bph Z)(hv:R0 4 Aez h0 v (lxs.map Ae7))(gA:Ai h0 hA)(Sz:h0.nx<=b)(o:b<hA.nx)(R:(jn none lxs).length<=2000)(K:∀c∈jn none lxs,c<256)(Hr:jn none lxs≠[])(S4:lxs.length<=2000):
 ∀(u i n:Nat) (hd:H) (f0:L2),i+u=lxs.length->u<n->WG b hA hd->BdS b (jn none (lxs.take i)) hd ->
  Ah H0 (λr h1=>r=.str (jn none lxs)/\WG b hA h1) (Bdp Z N n v (.ptr b 0) v (iI lxs.length) (iI i) f0 hd)
 |0,i,n,hd,f0,hi,hn,W,k=>by obtain⟨y,rfl⟩:∃y,n=y+1:=⟨n-1,by omega⟩;rw[Qa om]at k;rw[BgZ];refine Ey (Hf ..) ?_;rw[Xn om];refine Ae5 ?_;refine zc0 (X b _ hd k Hr K om) λv1 h1 ⟨q1,g1⟩=>?_;exact Lo (gr0 _) ⟨q1,W.trans o g1⟩
 |u+1,i,n,hd,f0,hi,hn,W,k=>by
  obtain⟨y,rfl⟩:∃y,n=y+1:=⟨n-1,by omega⟩;have ih:=Biv B U O X hv gA Sz o R K Hr S4 u (i+1) y;have G:Ai h0 hd:=WG.own gA W Sz;have E:R0 4 Aez hd v (lxs.map Ae7):=Sl.By hv G.keeps;obtain⟨x,hx⟩:∃x,lxs[i]?=some x:=⟨_,Xs om⟩;have Y:(lxs.map Ae7)[i]?=some (Ae7 x):=by rw[Cn,hx];rfl
  obtain⟨b1,o1,el⟩:=R0.elem (f:=Aez) (s:=4) (λ_=>rfl) E Y;have x1:=el.ia;have x2:=el.all;have e1:lxs.take (i+1)=lxs.take i++[x]:=by rw[Ga,hx];rfl
  have hsp:lxs=lxs.take (i+1)++lxs.drop (i+1):=(Dt _ _).symm;have l1:(jn none (lxs.take (i+1))).length<=2000:=by have:=Boy (lxs.take (i+1)) (lxs.drop (i+1)) none;rw[<- hsp]at this;omega
  rw[e1,Bnj]at l1 ih;have B6:=k.lt;have y1:A4 4 (.ptr hd.nx 0) (.agg (Aez (Ae7 x))) (hd.new (.cells [iI 0,.str [],iI 0,iI 0] 160 .exact))=.ok (.Bj []) ((hd.new (.cells [iI 0,.str [],iI 0,iI 0] 160 .exact)).put hd.nx (.cells (Aez (Ae7 x)) 160 .exact)):=by simp[lw]
  have d:∀(e:H) f0 (q:List Nat),WG b hd e->BdS b q e->q=jn none (lxs.take i)++(if sep (jl none (lxs.take i)) x then[32]else[])->e.m.get hd.nx=.cells (Aez (Ae7 x)) 160 .exact->hd.nx<e.nx->Ah H0 (λr h1=>r=.str (jn none lxs)/\WG b hA h1) (A6F Z N y v (.ptr b 0) (.ptr hd.nx 0) v (iI lxs.length) (iI i) f0 e):=λe f0 q D k4 T t4 l4=>by
   have hl3:q.length+(lt x).length<=2000:=by rw[T];simp only[X8]at l1 ⊢;omega
   refine B4g Z N O k4 om om t4 l4 om λh5 f5 S k5=>?_;rw[Bpa];refine Ey (Am1 (k:=.i64) i 1 fe (by show((i+1:Nat):Int)<=9223372036854775807;omega) _) ?_
   refine ih h5 _ om om ((W.trans o D).trans o S) ?_;rw[T,Rq]at k5;exact k5
  have gN:Ai hd ((hd.new (.cells [iI 0,.str [],iI 0,iI 0] 160 .exact)).put hd.nx (.cells (Aez (Ae7 x)) 160 .exact)):=((Ai.refl hd).new _).put _ _ (Yw _);have gb:((hd.new (.cells [iI 0,.str [],iI 0,iI 0] 160 .exact)).put hd.nx (.cells (Aez (Ae7 x)) 160 .exact)).m.get hd.nx=.cells (Aez (Ae7 x)) 160 .exact:=A2 _ _;have nb:((hd.new (.cells [iI 0,.str [],iI 0,iI 0] 160 .exact)).put hd.nx (.cells (Aez (Ae7 x)) 160 .exact)).nx=hd.nx+1:=rfl;rw[BgZ];refine Ey (Hf ..) ?_;rw[Ws om];refine Zx (Ey (x1 _) (Ey (x2 hd (Bi.refl _)) ?_));refine Ey (v:=.ptr hd.nx 0) (h:=hd.new (.cells [iI 0,.str [],iI 0,iI 0] 160 .exact)) rfl (Ey y1 ?_);clear y1 hv ih;generalize ((hd.new (.cells [iI 0,.str [],iI 0,iI 0] 160 .exact)).put hd.nx (.cells (Aez (Ae7 x)) 160 .exact))=hb at *
  have I:=WG.of B6 gN;have kb:=k.gr gN;replace d:=(show F5 _ from d)
  refine Ey (A5z ..) ?_;by_cases H4:i=0
  .rw[Xn om];refine wk ?_;refine(show ∀(e:H) f0 (q:List Nat),_ from d) _ _ _ I kb ?_ gb om
   rw[H4];rfl
  .rw[Ws om];obtain⟨j,rfl⟩:∃j,i=j+1:=⟨i-1,by omega⟩;obtain⟨p,hp⟩:∃p,lxs[j]?=some p:=⟨_,Xs om⟩;have P:(lxs.map Ae7)[j]?=some (Ae7 p):=by rw[Cn,hp];rfl
   obtain⟨b2,o2,A⟩:=R0.elem (f:=Aez) (s:=4) (λ_=>rfl) E P;have z1:=A.ia;have z2:=A.all;have ej:jl none (lxs.take (j+1))=some p:=by rw[Ga,hp];exact BdH _ _ _
   rw[ej]at d;have z3:∀hh:H,bo .sub 3 true (iI ((j+1:Nat):Int)) (iI 1) hh=.ok (iI (j:Int)) hh:=λhh=>by show Aj prog .sub 3 true (iI ((j+1:Nat):Int)) (iI 1) hh=_;rw[As3,show((j+1:Nat):Int)-1=j by omega,Cr _ om om]
   clear el A P Y hp hx ej x1 x2 hsp e1 l1;refine wk ?_;have gC:Ai hb (hb.new (.cells [.str [40],.str [91],.str [47],.str [46,46]] 9 .exact)):=(Ai.refl hb).new _;have l:Ig (hb.new (.cells [.str [40],.str [91],.str [47],.str [46,46]] 9 .exact)) (.sl (hd.nx+1) 0 4 4 1 true) gA4:=nb ▸ Sl.lit (h:=hb) (Bf _) rfl rfl;have hc:=B (Ae7 p) gA4 _ _ l fe;rw[BvC]at hc;refine Fj hc λv1 C e3 l3 Ary q3=>?_;subst q3;have g3:=gC.trans e3;have t3:=(g3.Cf hd.nx om).trans gb;have F:hd.nx<C.nx:=by have:=g3.lo;omega
   have L:=I.gr B6 g3;have k3:=kb.gr g3;clear hc l Ary gC;cases z:glA p with
   |true=>
    have g:sep (some p) x=false:=by simp[sep,z]
    refine wk ?_;refine(show ∀(e:H) f0 (q:List Nat),_ from d) _ _ _ L k3 ?_ t3 F;rw[g,X2 fe,F0]
   |false=>
    refine wk ?_;have gD:Ai C (C.new (.cells [.str [41],.str [93],.str [44],.str [47],.str [46,46]] 9 .exact)):=(Ai.refl C).new _;have l:Ig (C.new (.cells [.str [41],.str [93],.str [44],.str [47],.str [46,46]] 9 .exact)) (.sl C.nx 0 5 5 1 true) gB5:=Sl.lit (h:=C) (Bf _) rfl rfl;have hc:=B (Ae7 x) gB5 _ _ l fe;rw[BvD]at hc;refine Fj hc λv2 e e4 l4 A9W q4=>?_;subst q4;have D:=gD.trans e4;have t4:=(D.Cf hd.nx F).trans t3;have J:hd.nx<e.nx:=by have:=D.lo;omega
    have M:=L.gr B6 D;have k4:=k3.gr D;clear hc l A9W gD;cases V:glB x with
    |true=>
     have g:sep (some p) x=false:=by simp[sep,z,V]
     refine wk ?_;refine(show ∀(e:H) f0 (q:List Nat),_ from d) _ _ _ M k4 ?_ t4 J;rw[g,X2 fe,F0]
    |false=>
     have g:sep (some p) x=true:=by simp[sep,z,V]
     have hl5:(jn none (lxs.take (j+1))).length<=50000:=by have:=Boy (lxs.take (j+1)) (lxs.drop (j+1)) none;rw[Dt]at this;omega
     have h8:=U b 32 _ e k4 hl5;refine wk ?_;refine zc0 h8 λv5 h5 ⟨S,k5⟩=>?_;refine(show ∀(e:H) f0 (q:List Nat),_ from d) _ _ _ (M.trans B6 S) k5 ?_ ((S.ex hd.nx _ _ J om t4).trans t4) (by have:=S.nx;omega);rw[g,W5 rfl]
def R76(Z:Ac)(lxs:List L3):Prop:=∀(v:AV) (h:H),R0 4 Aez h v (lxs.map Ae7)->Ah h (λr _=>r=.str (jn none lxs)) (Z.call 76 [v] h)
def r76(y:3000<N)(f:Bpf Z)(g:Bpg Z)(j:Bm5 Z)(k:Bph Z)(d:(jn none lxs).length<=2000)(i:∀c∈jn none lxs,c<256)(x:jn none lxs≠[])(o:lxs.length<=2000)(n:R0 4 Aez h v (lxs.map Ae7)):
 Ah h (λr _=>r=.str (jn none lxs)) (Ay prog Z N true 76 [v] h):=by rw[e76];have m:Ai h (h.new (.cells [.Ob,.Bv] 192 .exact)):=(Ai.refl h).new _;refine Ey rfl (Ey ((λe=>by have:=n.Gs (h1:=e);grind:∀e,Fo v e=.ok (iI lxs.length) e) _) ?_);have l:h.nx<(h.new (.cells [.Ob,.Bv] 192 .exact)).nx:=Up _;obtain⟨r,h1,q,_,u,p⟩:=Biv Z N f g j k n m (Yw _) l d i x o lxs.length 0 N _ _ om om (WG.refl l) ⟨l,_,_,.inl rfl,Bf _,Fm.nil ..⟩;exact⟨r,_,q,WG.own m p (Yw _),u⟩
def Bt8:Prop:=∀(v w:AV) (l:List Nd) (h:H),Ue h v l->Ue h w l->l.length<=3000->Ah h (λr _=>r=.bool true) (Z.call 131 [v,w] h)
def Bt9:Prop:=∀(v w:AV) (l:List (Int × Int)) (h:H),OkS h v l->OkS h w l->l.length<=3000->Ah h (λr _=>r=.bool true) (Z.call 132 [v,w] h)
variable {w:AV}
def BdM{l:List Nd}(o:Ue h v l)(j:Ue h w l)(A:l.length<=3000):∀(u i n:Nat) (hd:H) (f0:L2),i+u=l.length->u<n->Ai h hd->Ah h (λr _=>r=.bool true) (A36 Z N n v w (iI l.length) (iI i) f0 hd)
|0,i,n,hd,f0,hi,hn,g=>by obtain⟨c,rfl⟩:∃c,n=c+1:=⟨n-1,by omega⟩;have z:decide ((i:Int)<(l.length:Int))=false:=df;have y:decide (i<l.length)=false:=df;rw[BcS];refine wk ?_;exact Lo g rfl
|u+1,i,n,hd,f0,hi,hn,g=>by
 obtain⟨c,rfl⟩:∃c,n=c+1:=⟨n-1,by omega⟩;have p:=BdM o j A u (i+1) c;have z:decide ((i:Int)<(l.length:Int))=true:=dt;have y:decide (i<l.length)=true:=dt;obtain⟨x,m⟩:∃x,l[i]?=some x:=⟨_,Xs om⟩;obtain⟨b1,F,k⟩:=R0.elem (f:=Bw) (s:=3) (λ_=>rfl) (Sl.By o g.keeps) m;have⟨b2,D,d⟩:=R0.elem (f:=Bw) (λ_=>rfl) (Sl.By j g.keeps) m;have B:=k.ia;have G:=k.all;have C:=d.ia;have E:=d.all;have q:∀e,Aj _ _ _ _ (.agg (Bw x)) (.agg (Bw x)) e=.ok (.bool false) e:=λe=>by rw[Bo7];simp
 rw[BcS];exact wk ((show ∀hd f0 g,_ from(λhd f0=>p hd f0 om om)) _ _ (g.trans Ex))
def B29(g:4000<N){l}(e:Ue h v l)(d:Ue h w l)(f:l.length<=3000):Ah h (λr _=>r=.bool true) (Ay prog Z N true 131 [v,w] h):=by have l1:∀c,Fo v c=.ok ..:=λc=>e.Gs;rw[Bza];refine Ey (l1 h) (Ey ((λc=>d.Gs) h) (Ey (Y6 ..) ?_));rw[Ws rfl];exact Ae5 (Ey (l1 h) (BdM Z N e d f l.length 0 N h _ om om (Ai.refl h)))
def BdN{l:List (Int × Int)}(o:OkS h v l)(j:OkS h w l)(z:l.length<=3000):∀(u i n:Nat) (hd:H) (f0:L2),i+u=l.length->u<n->Ai h hd->Ah h (λr _=>r=.bool true) (A3Z Z N n v w (iI l.length) (iI i) f0 hd)
|0,i,n,hd,f0,hi,hn,g=>by obtain⟨c,rfl⟩:∃c,n=c+1:=⟨n-1,by omega⟩;have y:decide ((i:Int)<(l.length:Int))=false:=df;have D:decide (i<l.length)=false:=df;rw[BcT];refine wk ?_;exact Lo g rfl
|u+1,i,n,hd,f0,hi,hn,g=>by
 obtain⟨c,rfl⟩:∃c,n=c+1:=⟨n-1,by omega⟩;have p:=BdN o j z u (i+1) c;have y:decide ((i)<l.length)=true:=dt;have⟨x,m⟩:∃x,l[i]?=some x:=⟨_,Xs om⟩;have⟨b1,F,k⟩:=R0.elem (f:=Zd) (λ_=>rfl) (Sl.By o g.keeps) m;have⟨b2,C,d⟩:=R0.elem (f:=Zd) (λ_=>rfl) (Sl.By j g.keeps) m;have A:=k.ia;have G:=k.all;have B:=d.ia;have E:=d.all;have q:∀e,Aj _ _ _ _ (.agg (Zd x)) (.agg (Zd x)) e=.ok (.bool false) e:=λe=>by rw[Bo8];simp
 rw[BcT];exact wk ((show ∀hd f0 g,_ from(λhd f0=>p hd f0 om om)) _ _ (g.trans Ex))
def B2A(g:4000<N){l}(e:OkS h v l)(d:OkS h w l)(f:l.length<=3000):Ah h (λr _=>r=.bool true) (Ay prog Z N true 132 [v,w] h):=by have l1:∀c,Fo v c=.ok ..:=λc=>e.Gs;rw[Bzb];refine Ey (l1 h) (Ey ((λc=>d.Gs) h) (Ey (Y6 ..) ?_));rw[Ws rfl];exact Ae5 (Ey (l1 h) (BdN Z N e d f l.length 0 N h _ om om (Ai.refl h)))
variable {Q:Qr}{ve vo vm:AV}
def sC(Q:Qr):List AV:=[.I6 3 (iI Q.c0),.I6 3 (iI Q.c2),.I6 3 (iI Q.c3),.I6 3 (iI Q.c4),.I6 3 (iI Q.c5),.I6 9 (.str Q.s6),.I6 3 (iI Q.c7),.I6 3 (iI Q.c9),.I6 4 (.bool Q.Wz),.I6 9 (.str Q.Uw),.I6 3 (iI Q.W0),.I6 9 (.str Q.Wu),.I6 9 (.str Q.s14),.I6 9 (.str Q.s15),.I6 3 (iI Q.c16),.I6 24 (.str Q.Oi),.I6 3 (iI Q.Mg),.I6 3 (iI 0)]
def BwA:tk prog 200=.array 18 20 1:=rfl
def B35:tk prog 20=.iface:=rfl
def B36:tk prog 24=.string:=rfl
def B3A:tk prog 4=.bool:=rfl
def B12:Ft prog 20=some none:=rfl
def ByG:(prog.info? 3).any (·.comparable)=true:=rfl
def ByI:(prog.info? 9).any (·.comparable)=true:=rfl
def ByH:(prog.info? 4).any (·.comparable)=true:=rfl
def Bu7:(prog.info? 24).any (·.comparable)=true:=rfl
def Buc d a b:aeq prog (d+1) 24 (.str a) (.str b)=some (decide (a=b)):=by show Dy ..=_;unfold Dy;rw[B36,<- Aap];rfl
def By4 d a:aeq prog (d+1) 4 (.bool a) (.bool a)=some true:=by show some _=some _;simp
def Bdr d(T:TypeId) v(e:Nat.beq T T=true)(hc:(prog.info? T).any (·.comparable)=true)(c:aeq prog d T v v=some true):aeq prog (d+1) 20 (.I6 T v) (.I6 T v)=some true:=by show @Bool.rec _ _ ..=_;simp[*]
def A2e eq A:∀n i,(∀x∈A,eq 20 x x=some true)->i+n<=A.length->Amv prog eq 20 1 n i A A=some true
|0,i,_,_=>rfl
|n+1,i,hA,hi=>by
 have⟨x,c⟩:∃x,A[i]?=some x:=⟨_,Xs om⟩;have p:Hc prog 20 A (i*1)=some x:=by rw[A5h,B12,A0A,ae,Ab6,c]
 show(match Hc _ _ A _,Hc _ _ A _ with
  |some x,some y=>match eq _ x y with
   |some true=>Amv _ _ _ 1 n _ A A
   |some false=>some _
   |none=>none
  |_,_=>none)=_;rw[p];simp[hA x (Vl c)];exact A2e _ A n _ hA om
def BuM(Q:Qr)(c:H):bo .eql 200 false (.agg (sC Q)) (.agg (sC Q)) c=.ok (.bool true) c:=by
 have g:∀n:Int,aeq prog 19 20 (.I6 3 (iI n)) (.I6 3 (iI n))=some true:=λn=>Bdr 18 3 _ rfl ByG (by rw[Bp0];simp);have i:∀n:List Nat,aeq prog 19 20 (.I6 9 (.str n)) (.I6 9 (.str n))=some true:=λn=>Bdr 18 9 _ rfl ByI (by rw[Bp1];simp);have d:∀n:List Nat,aeq prog 19 20 (.I6 24 (.str n)) (.I6 24 (.str n))=some true:=λn=>Bdr 18 24 _ rfl Bu7 (by rw[Buc];simp);have e4:∀n:Bool,aeq prog 19 20 (.I6 4 (.bool n)) (.I6 4 (.bool n))=some true:=λn=>Bdr 18 4 _ rfl ByH (By4 17 n);have f:aeq prog 20 200 (.agg (sC Q)) (.agg (sC Q))=some true:=by show Dy _ _ _ _ _=_;unfold Dy;rw[BwA];show Amv _ _ 20 1 18 0 (sC Q) (sC Q)=_;refine A2e _ _ 18 0 ?_ (by show 0+18<=18;grind);unfold sC;simp[*]
 have e:Xm prog 200 false (O6 (.agg (sC Q))) (O6 (.agg (sC Q)))=true:=by rfl
 show(@Bool.rec (λ_=>OR) (.bad 39) ((match aeq prog 20 200 (.agg (sC Q)) (.agg (sC Q))with|some b=>OR.ok (.bool (false != b)) c|none=>.bad 38)) (Xm prog 200 false (O6 (.agg (sC Q))) (O6 (.agg (sC Q)))):OR)=_;simp_all
def BtA:Prop:=∀(Q:Qr) (ve vo vm:AV) (h:H),Ah h (λr _=>r=.agg (sC Q)) (Z.call 133 [.agg (qc Q ve vo vm)] h)
def B2B:Ah h (λr _=>r=.agg (sC Q)) (Ay prog Z N true 133 [.agg (qc Q ve vo vm)] h):=by
 rw[Bzc];obtain⟨d,g⟩:∃d,d=(h.new (.cells (qc Q ve vo vm) 26 .exact)).new (.cells (List.replicate 18 .B3) 200 .exact):=⟨_,rfl⟩;have k:Ai h d:=by rw[g];exact((Ai.refl h).new _).new _
 have c0:Nv d h.nx (qc Q ve vo vm):=by rw[g];exact((Ai.refl _).new _).keeps.cont _ _ ⟨Up _,_,_,Bf _,trivial⟩
 have j:d.m.get (h.nx+1)=.cells (List.replicate 18 .B3) 200 .exact:=by rw[g];exact Bf (h:=h.new _) _
 have f:∀(o:Nat) (i:H),Bs (.ptr h.nx 0) o i=.ok (.ptr h.nx o) i:=λo i=>by simp_all
 refine Ey (Hg ..) (Ey (v:=.ptr (h.nx+1) 0) (h:=d) (by simp_all) ?_);clear g;refine Ey (f 0 d) (Ey (c0.one (o:=0) (x:=iI Q.c0) rfl d (Bi.refl _)) ?_);refine Ey (f 2 d) (Ey (c0.one (o:=2) (x:=iI Q.c2) rfl d (Bi.refl _)) ?_);refine Ey (f 3 d) (Ey (c0.one (o:=3) (x:=iI Q.c3) rfl d (Bi.refl _)) ?_);refine Ey (f 4 d) (Ey (c0.one (o:=4) (x:=iI Q.c4) rfl d (Bi.refl _)) ?_);refine Ey (f 5 d) (Ey (c0.one (o:=5) (x:=iI Q.c5) rfl d (Bi.refl _)) ?_);refine Ey (f 6 d) (Ey (c0.one (o:=6) (x:=.str Q.s6) rfl d (Bi.refl _)) ?_);refine Ey (f 7 d) (Ey (c0.one (o:=7) (x:=iI Q.c7) rfl d (Bi.refl _)) ?_);refine Ey (f 9 d) (Ey (c0.one (o:=9) (x:=iI Q.c9) rfl _ (Bi.refl _)) ?_);refine Ey (f ..) (Ey (c0.one rfl _ (Bi.refl _)) (Ey (f ..) (Ey (c0.one rfl _ (Bi.refl _)) (Ey (f ..) (Ey (c0.one rfl _ (Bi.refl _)) (Ey (f ..) (Ey (c0.one rfl _ (Bi.refl _)) (Ey (f ..) (Ey (c0.one rfl _ (Bi.refl _)) (Ey (f ..) (Ey (c0.one rfl _ (Bi.refl _)) (Ey (f ..) (Ey (c0.one rfl _ (Bi.refl _)) (Ey (f ..) (Ey (c0.one rfl _ (Bi.refl _)) (Ey (f ..) (Ey (c0.one rfl _ (Bi.refl _)) ?_)))))))))))))))));apply Ey rfl;have n:A4 18 (.ptr (h.nx+1) 0) (.agg (sC Q)) d=.ok (.Bj []) (d.put (h.nx+1) (.cells (sC Q) 200 .exact)):=by unfold sC;simp[j,lw]
 apply Ey n;have e:Vk [.c (some (some 18)) (.ptr (h.nx+1) 0)] (d.put (h.nx+1) (.cells (sC Q) 200 .exact))=.ok (.agg (sC Q)) (d.put (h.nx+1) (.cells (sC Q) 200 .exact)):=by show(match match match (d.put ..).rd _ with|some c=>Tn _ c 0|none=>none,some _ with|some v,some l=>some (v::l)|_,_=>none with|some l=>OR.ok ..|none=>.bad _)=_;rw[(by rw[AaS,(A2 ..)];rfl:(d.put (h.nx+1) (.cells (sC Q) 200 .exact)).rd (h.nx+1)=some (sC Q))];rfl
 rw[e];exact Lo (k.put _ _ om) rfl
variable {we wo wm:AV}
def cv0(g:FuncId)(c:Bg prog g=true)(x:AV)(h:H):cvV (.fn (.func g) [] []) [x] prog Z h=Z.call g [x] h:=by rw[AeY,W5 c];rfl
def R77:Prop:=∀(Q:Qr) (ve vo vm we wo wm:AV) (h:H),QV h Q ve vo vm->QV h Q we wo wm->Q.code.length<=3000->Q.ord.length<=3000->Q.E9.length<=3000->Ah h (λr _=>r=.bool true) (Z.call 77 [.agg (qc Q ve vo vm),.agg (qc Q we wo wm)] h)
def Buh:Bg prog 133=true:=rfl
def r77(p:Bt8 Z)(C:Bt9 Z)(q:BtA Z)(K:QV h Q ve vo vm)(F:QV h Q we wo wm)(l1:Q.code.length<=3000)(l2:Q.ord.length<=3000)(X:Q.E9.length<=3000):
 Ah h (λr _=>r=.bool true) (Ay prog Z N true 77 [.agg (qc Q ve vo vm),.agg (qc Q we wo wm)] h):=by
 rw[e77];have cv:∀(x:AV) (d:H),cvV (.fn (.func 133) [] []) [x] prog Z d=Z.call 133 [x] d:=λx d=>cv0 Z 133 Buh x d;obtain⟨f,i⟩:∃f,f=(h.new (.cells (qc Q ve vo vm) 26 .exact)).new (.cells (qc Q we wo wm) 26 .exact):=⟨_,rfl⟩;have j:Ai h f:=by rw[i];exact((Ai.refl h).new _).new _
 have J:f.m.get h.nx=.cells (qc Q ve vo vm) 26 .exact:=by rw[i,Cq _ _ (by simp_all)];simp
 have G:f.m.get (h.nx+1)=.cells (qc Q we wo wm) 26 .exact:=by rw[i];exact Bf (h:=h.new _) _
 have nb:f.nx=h.nx+2:=by simp_all
 refine Ey (Hg ..) (Ey (v:=.ptr (h.nx+1) 0) (h:=f) (by simp_all) ?_);clear i;have c1:=λd (g:Ai f d)=>p ve we Q.code d (Sl.By K.c (j.trans g).keeps) (Sl.By F.c (j.trans g).keeps) l1;have c2:=λd (g:Ai f d)=>p vm wm Q.E9 d (Sl.By K.m (j.trans g).keeps) (Sl.By F.m (j.trans g).keeps) X;have c3:=λd (g:Ai f d)=>C vo wo Q.ord d (Sl.By K.o (j.trans g).keeps) (Sl.By F.o (j.trans g).keeps) l2;have c4:=λd=>q Q ve vo vm d;have c5:=λd=>q Q we wo wm d;have V:=BuM Q;obtain⟨A,hA⟩:∃A,A=qc Q ve vo vm:=⟨_,rfl⟩;obtain⟨B,E⟩:∃B,B=qc Q we wo wm:=⟨_,rfl⟩;have Ad9:A[1]?=some ve:=by simp_all
 have AdJ:A[8]?=some vo:=by rw[hA];rfl
 have AdT:A[17]?=some vm:=by simp[*]
 have AdU:B[1]?=some we:=by simp[*]
 have W:B[8]?=some wo:=by simp_all
 have B17:B[17]?=some wm:=by rw[E];rfl
 have hbK:=Bi.refl f;have xA:∀d:H,Bi f d->Ae (some (some 20)) (.ptr h.nx 0) d=.ok (.agg A) d:=λd e=>(⟨by omega,_,_,J,trivial⟩:Nv f h.nx (qc Q ve vo vm)).many (o:=0) (n:=20) (by simp_all) (by rw[hA];rfl) d e;have xB:∀d:H,Bi f d->Ae (some (some 20)) (.ptr (h.nx+1) 0) d=.ok (.agg B) d:=λd e=>(⟨by omega,_,_,G,trivial⟩:Nv f (h.nx+1) (qc Q we wo wm)).many (o:=0) (n:=20) (by simp) (by rw[E];rfl) d e;rw[<- hA]at J c4;rw[<- E]at G c5;generalize sC Q=S at *;have T:Ai f f:=Ai.refl f;clear hA E K F p C q;have wt:∀(w:Bool) (r:OR) (d:H),Ad (.Bj []) w r d=.ok (.Bj []) d:=λw r d=>A0V [] w r d;refine wk ?_;refine Fj (c1 _ T) λI h3 U l4 l q3=>?_;subst q3;have y:=(l h.nx om).trans J;have z:=(l (h.nx+1) om).trans G;clear c1 l;refine wk ?_;refine Fj (c2 _ U) λI h4 e4 l5 k q4=>?_;subst q4;have D:=U.trans e4;have L:=(k h.nx om).trans y;have M:=(k (h.nx+1) om).trans z;clear c2 k y z J G;refine wk ?_;refine Fj (c3 _ D) λI h5 Y l6 P q5=>?_;subst q5;have u:=D.trans Y;have K5:=u.keeps;have O:=j.trans u;clear c3 P L M;refine wk ?_;rw[show cvV (.fn (.func 133) [] []) [.agg A] prog Z=Z.call 133 [.agg A]from funext (cv _)];refine zc2 (c4 _) λI h6 e6 l7 R q6=>?_;subst q6;have e36:=u.trans (Ai.Rc e6);have K6:=e36.keeps;clear c4 R;refine wk ?_;rw[show cvV (.fn (.func 133) [] []) [.agg B] prog Z=Z.call 133 [.agg B]from funext (cv _)];refine zc2 (c5 _) λI h7 e7 l8 AvU q7=>?_;subst q7;exact wk (Lo ((j.trans (e36.trans (Ai.Rc e7))).nl.nl.Be O) rfl)
end Go.Proofs

/- The lexer: Split. -/
import Derived.Test.YtecikbfimlolcaaGreatDoorEvPc
set_option linter.all false
set_option maxRecDepth 100000
noncomputable section
namespace Go.Nm
open Go.Ev
def N3(c:Nat):Int:=if 97<=c/\c<=122 then 2 else if 48<=c/\c<=57 then 3 else if c=32 then 1 else if c=95 then 4 else if c=39 then 5 else 0
def lt:L3->List Nat
|.sg s=>s
|.kw s=>s
|.nm s=>s
|.nu n=>V8 n
|.wd s=>39::s++[39]
def glA:L3->Bool
|.sg s=>decide (s∈[[40],[91],[47],[46,46]])
|_=>false
def glB:L3->Bool
|.sg s=>decide (s∈[[41],[93],[44],[47],[46,46]])
|_=>false
def sep:Option L3->L3->Bool
|none,_=>false
|some p,x=>!glA p&&!glB x
def jn:Option L3->List L3->List Nat
|_,[]=>[]
|p,x::r=>(if sep p x then[32]else[])++(lt x++jn (some x) r)
def Sgs:List (List Nat):=[[40],[41],[91],[93],[43],[45],[42],[47],[44],[61],[33,61],[60],[60,61],[62],[62,61],[46,46]]
def jb:List L3->List Nat
|[]=>[]
|y::r=>lt y++jn (some y) r
def jm(p:Option L3):List L3->List Nat
|[]=>[]
|y::_=>if sep p y then[32]else[]
def Bif p r:jn p r=jm p r++jb r:=by cases r<;>rfl
def Ar8:L3->Bool
|.sg _=>true
|_=>false
def BrE p r:∀c∈jm p r,N3 c∈[1]:=by intro c hc;cases r with
|nil=>cases hc
|cons y r=>
 replace hc:c∈if sep p y then[32]else[]:=hc;split at hc;. rw[Qv.1 hc];decide
 grind
def Bie{x y}{r}(a:Ar8 x=false)(hy:Ar8 y=false):(jm (some x) (y::r)).length=1:=by
 have h1:glA x=false:=by cases x<;>first|rfl|cases a
 have h2:glB y=false:=by cases y<;>first|rfl|cases hy
 show(if sep _ y then[32]else[]).length=1;rw[W5 (by simp[sep,h1,h2])];rfl
def jl:Option L3->List L3->Option L3
|p,[]=>p
|_,x::r=>jl (some x) r
def Bbh:∀a b p,jn p (a++b)=jn p a++jn (jl p a) b
|[],b,p=>rfl
|x::a,b,p=>by show(if sep p x then[32]else[])++(lt x++jn _ (a++b))=(if sep p x then[32]else[])++(lt x++jn _ a)++jn (jl _ a) b;rw[Bbh a b _];simp
def BdH:∀a y p,jl p (a++[y])=some y
|[],y,p=>rfl
|x::a,y,p=>BdH a y _
def Bnj a x p:jn p (a++[x])=jn p a++((if sep (jl p a) x then[32]else[])++lt x):=by rw[Bbh];show jn p a++((if sep _ x then[32]else[])++(lt x++[]))=_;simp
def Boy a b p:(jn p a).length<=(jn p (a++b)).length:=by rw[Bbh,X8];simp
end Go.Nm
namespace Go.Proofs
open Go Go.Ev Go.Nm Tryz Go.Ev.Sx
attribute [local irreducible] Aa Al Af Ad
variable (Z cx:Ac)(N:Nat)
variable {h h1:H}{s:List Nat}{w:AV}{ks:List Int}
def BtG:Prop:=∀(w:AV) (ks:List Int) (x:Int) (h:H),R0 1 Ane h w ks->ks.length<=5->Ah h (λr _=>∃j,r=iI j/\(0<=j ↔ x∈ks)) (Z.call 286 [w,iI x] h)
def BdT(w:AV)(ks:List Int)(x:Int)(h:H)(m:R0 1 Ane h w ks)(A:ks.length<=5):
 ∀(k i n:Nat) (f0:L2),i+k=ks.length->k<n->x ∉ ks.take i ->
  Ah h (λr _=>∃j,r=iI j/\(0<=j ↔ x∈ks)) (A41 Z N n w (iI x) (iI ks.length) (iI i) f0 h)
 |0,i,n,f0,p,hn,e=>by obtain⟨a,rfl⟩:∃a,n=a+1:=⟨n-1,by omega⟩;have u:decide ((i:Int)<(ks.length:Int))=false:=df;rw[Qa om]at e;rw[Bdh];refine wk ?_;exact zr Ex ⟨-1,rfl,by simp[e]⟩
 |k+1,i,n,f0,p,hn,e=>by
  obtain⟨a,rfl⟩:∃a,n=a+1:=⟨n-1,by omega⟩;have B:=BdT w ks x h m A k (i+1) a;have u:decide ((i:Int)<(ks.length:Int))=true:=dt;obtain⟨y,hy⟩:∃y,ks[i]?=some y:=⟨_,Xs om⟩;obtain⟨b1,D,g⟩:=R0.elem (f:=Ane) (s:=1) (λ_=>rfl) m hy;have C:=g.ia;have z:=g.part 0 _ rfl;rw[Mz]at z;clear g;rw[Bdh];by_cases d:x=y;. have q:decide (x=y)=true:=Ws d;have o:x∈ks:=d ▸ Vl hy;refine wk ?_;exact zr Ex ⟨i,rfl,by simp[o]⟩
  .have q:decide (x=y)=false:=Xn d;have v:x ∉ ks.take (i+1):=by rw[Ga,hy];simp[e,d]
   clear hy;refine wk ?_;grind
def B3o(e:10<N) x(a:R0 1 Ane h w ks)(d:ks.length<=5):Ah h (λr _=>∃j,r=iI j/\(0<=j ↔ x∈ks)) (Ay prog Z N true 286 [w,iI x] h):=by rw[BzJ];exact Ey a.Gs (BdT Z N w _ x h a d ks.length 0 N _ om om (by simp))
def Bpo:Prop:=∀(w:AV) (ks:List Int) (x:Int) (h:H),R0 1 Ane h w ks->ks.length<=5->Ah h (λr _=>r=.bool (decide (x∈ks))) (Z.call 251 [w,iI x] h)
def B3i(a:BtG Z) x(e:R0 1 Ane h w ks)(g:ks.length<=5):Ah h (λr _=>r=.bool (decide (x∈ks))) (Ay prog Z N true 251 [w,iI x] h):=by rw[BzB];refine Fj (a w _ x h e g) λi h1 e1 l1 f d=>?_;obtain⟨j,rfl,hj⟩:=d;exact wk (zr Ex rfl)
def Aue:List AV:=(List.range 256).map λc=>iI (N3 c)
structure Sc0(b:Nat)(s:List Nat)(h:H):Prop where
 g:h.m.get b=.cells (.str s::iI 0::Aue) 238 .exact
 lt:b<h.nx
 by':∀c∈s,c<256
 Mu:s.length<=2000
def Sc0.gr{b}(k:Sc0 b s h)(g:Ai h h1):Sc0 b s h1:=⟨(g.Cf b k.lt).trans k.g,Xq k.lt g.lo,k.by',k.Mu⟩
def ApQ{b c:Nat}(hc:c<256) hh:AxM 256 1 (.ptr b 2) (.int .u8 c) hh=.ok (.ptr b (2+c)) hh:=by show @Bool.rec (λ_=>OR) _ (.ok (.ptr b (2+c*1)) _) _=_;rw[show Nat.blt c _=true by simp[*],ae]
def Ag0{b c}(k:Sc0 b s h)(hc:c<256):∃cs,h.m.get b=.cells cs 238 .exact/\cs[0]?=some (.str s)/\cs[2+c]?=some (iI (N3 c)):=by refine⟨_,k.g,rfl,?_⟩;rw[show 2+c=c+1+1 by omega,ay,ay];show List.map ..[c]?=_;grind
def BdQ(m:Bpo Z){b:Nat}(A:R0 1 Ane h w ks)(z:ks.length<=5)(k:Sc0 b s h):∀(mid pre rest:List Nat) (n:Nat) (hd:H) (f0:L2),s=pre++(mid++rest)->(∀c∈mid,N3 c∈ks)->(∀c∈rest.head?,N3 c ∉ ks)->mid.length<n->Ai h hd ->
 Ah h (λr _=>r=iI ((pre.length+mid.length:Nat):Int)) (A4p Z N n (.ptr b 0) (iI (pre.length:Int)) w f0 hd)
 |[],pre,rest,n,hd,f0,i,hm,o,hn,u=>by
  obtain⟨p,rfl⟩:∃p,n=p+1:=⟨n-1,by omega⟩;have e:=k.gr u;have L:=e.lt;have wt:∀(w:Bool) (r:OR) (a:H),Ad (.Bj []) w r a=.ok (.Bj []) a:=λw r a=>A0V [] w r a;rw[BcV];cases rest with
  |nil=>
   have e1:pre.length=s.length:=by rw[i];simp
   have C:decide ((pre.length:Int)<(s.length:Int))=false:=df;have E:decide (pre.length<s.length)=false:=df;obtain⟨cs,g,D,_⟩:=Ag0 e (show 0<256 by decide)
   clear i e k o e1;refine wk ?_;exact zr Ex (by simp)
  |cons c rest=>
   have hc:s[pre.length]?=some c:=by rw[i];simp
   have f:pre.length<s.length:=(R4.1 hc).1;have C:decide ((pre.length:Int)<(s.length:Int))=true:=dt;have E:decide (pre.length<s.length)=true:=Ws f;have q:c<256:=e.by' c (Vl hc);obtain⟨cs,g,D,v⟩:=Ag0 e q;have G:∀a:H,xIx prog .str (.str s) (iI (pre.length:Int)) a=.ok (.int .u8 (c:Int)) a:=λa=>A0l hc;have K:=λa=>ApQ (b:=b) q a;have d:=o c rfl;generalize N3 c=kc at v d;have P:decide (kc∈ks)=false:=Xn d;clear i e o d hc;refine wk ?_;refine zc2 (m w ks kc _ (A.gr (u.trans Ex)) z) λM h2 J O j y=>?_;subst y;clear j;refine wk ?_;exact zr Ex (by simp)
 |c::mid,pre,rest,n,hd,f0,i,hm,o,hn,u=>by
  obtain⟨p,rfl⟩:∃p,n=p+1:=⟨n-1,by omega⟩;have B:=BdQ m A z k mid (pre++[c]) rest p;have e:=k.gr u;have L:=e.lt;have I:=e.Mu;have wt:∀(w:Bool) (r:OR) (a:H),Ad (.Bj []) w r a=.ok (.Bj []) a:=λw r a=>A0V [] w r a;rw[BcV];have hc:s[pre.length]?=some c:=by rw[i];simp
  have f:pre.length<s.length:=(R4.1 hc).1;have C:decide ((pre.length:Int)<(s.length:Int))=true:=dt;have E:decide (pre.length<s.length)=true:=Ws f;have q:c<256:=e.by' c (Vl hc);obtain⟨cs,g,D,v⟩:=Ag0 e q;have G:∀a:H,xIx prog .str (.str s) (iI (pre.length:Int)) a=.ok (.int .u8 (c:Int)) a:=λa=>A0l hc;have K:=λa=>ApQ (b:=b) q a;have d:=hm c (Uq ..);have go:=λhd f0=>B hd f0 (by rw[i];simp) (λc hc=>hm c (Vo _ hc)) o (by simp at hn;omega);rw[show(pre++[c]).length+mid.length=pre.length+(c::mid).length by simp;omega,show(((pre++[c]).length:Nat):Int)=(pre.length:Int)+1 by simp]at go;replace go:=(show F5 _ from go);generalize N3 c=kc at v d;have P:decide (kc∈ks)=true:=Ws d;clear i e o d hc B hm;refine wk ?_;refine zc2 (m w ks kc _ (A.gr (u.trans Ex)) z) λM h2 J O j y=>?_;subst y;clear j;refine wk ?_;exact(show ∀(hd:H) (f0:L2),_ from go) _ _ Ex
def A4K:Prop:=∀(b:Nat) (s:List Nat) (w:AV) (ks:List Int) (pre mid rest:List Nat) (h:H),R0 1 Ane h w ks->ks.length<=5->Sc0 b s h->s=pre++(mid++rest)->(∀c∈mid,N3 c∈ks)->(∀c∈rest.head?,N3 c ∉ ks) ->
 Ah h (λr _=>r=iI ((pre.length+mid.length:Nat):Int)) (Z.call 216 [.ptr b 0,iI (pre.length:Int),w] h)
def B2Y(j:3000<N)(a:Bpo Z){b}{pre mid rest}(d:R0 1 Ane h w ks)(i:ks.length<=5)(k:Sc0 b s h)(g:s=pre++(mid++rest))(f:∀c∈mid,N3 c∈ks)(e:∀c∈rest.head?,N3 c ∉ ks):
 Ah h (λr _=>r=iI (pre.length+mid.length:Nat)) (Ay prog Z N true 216 [.ptr b 0,iI pre.length,w] h):=by
 rw[Bz2];have:=k.Mu;have h2:mid.length<=s.length:=by grind
 exact BdQ Z N a d i k _ _ _ N h _ g f e om (Ai.refl h)
def Aji{P}{t}{a:List _}{i j}(g:Hp P t=.str)(e:i<=j)(k:j<=a.length) h:xSl P t (.str a) (some (iI i)) (some (iI j)) h=.ok (.str ((a.drop i).take (j-i))) h:=by
 have d:vS (Go.Ev.ev (.tmp 0) (fr Az [(0,.str a),(1,iI i),(2,iI j)]))=.yes a:=by kernel_rfl
 have e1:bnd (fr Az [(0,.str a),(1,iI i),(2,iI j)]) (some (.tmp 1)) 0=some i:=by kernel_rfl
 have f:bnd (fr Az [(0,.str a),(1,iI i),(2,iI j)]) (some (.tmp 2)) (Y2 a)=some j:=by kernel_rfl
 show G5 t _ (some _) (some _) _ 0 P Q7 (fr _ [(0,.str a),(1,iI i),(2,iI _)]) h=_;unfold G5;rw[g];simp[d,e1,f];show @Bool.rec _ _ ..=_;rw[Rf,show Nat.ble j _=true by simp_all,show Nat.ble i j=true by simp[*],Asg,Asc];rfl
def Bhc:Prop:=∀(h:H),Ah h (λr h1=>∃m,r=.sl m 0 16 16 1 true/\Ig h1 (.sl m 0 16 16 1 true) Sgs) (Z.call 186 [] h)
def B2T:Ah h (λr h1=>∃m,r=.sl m 0 16 16 1 true/\Ig h1 (.sl m 0 16 16 1 true) Sgs) (Ay prog Z N true 186 [] h):=by rw[Bzw];refine wk ?_;exact zr Ex ⟨_,rfl,Sl.lit (Bf _) rfl rfl⟩
def BdR{b:Nat}{d e:Int}{sub:List Nat}{Q:AV->H->Prop}(k:Sc0 b s h)(P:e=1\/e=2)(I:0<=d/\d<=3000)(j:∀hh:H,xSl prog 9 (.str s) (some (iI d)) (some (iI (d+e))) hh=.ok (.str sub) hh)(w:AV)(a:Nat){E:H}(D:Ai h E)(K:Ig E w Sgs)
 (A:sub∈Sgs->∀hd,Ai h hd->Q (.Bj [.str sub,.bool true]) hd) (B:sub ∉ Sgs->∀hd f0,Ai h hd->Ah h Q (AqQ Z N a (.ptr b 0) (iI d) (iI e) f0 hd)):
 ∀(u i n:Nat) (hd:H) (f0:L2),i+u=16->u<n->sub ∉ Sgs.take i->Ai E hd->Ah h Q (A4v Z N a n (.ptr b 0) (iI d) (iI e) w (iI 16) (iI i) f0 hd)
 |0,i,n,hd,f0,hu,hn,o,q=>by
  obtain⟨J,rfl⟩:∃a,n=a+1:=⟨n-1,by omega⟩;obtain rfl:i=16:=by omega
  have L:decide (((16:Nat):Int)<16)=false:=by decide
  replace B:=(show F5 _ from B o);have p:=D.trans q;rw[Bdg];clear A j o;refine wk ?_
  exact(show ∀hd f0,Ai h hd->Ah h Q (AqQ Z N a (.ptr b 0) (iI d) (iI e) f0 hd)from B) _ _ Ex
 |u+1,i,n,hd,f0,hu,hn,o,q=>by
  obtain⟨J,rfl⟩:∃a,n=a+1:=⟨n-1,by omega⟩;have C:=BdR k P I j w a D K A B u (i+1) J;have L:decide ((i:Int)<16)=true:=dt;obtain⟨y,hy⟩:∃y,Sgs[i]?=some y:=⟨_,Xs (show i<Sgs.length by simp[Sgs];omega)⟩;obtain⟨b1,V,G⟩:=R0.elem (f:=Aeb) (s:=1) (λ_=>rfl) (K.By q.keeps) hy;have S:=G.ia;have M:=G.part 0 _ rfl;rw[Mz]at M;have p:=D.trans q;have r:=k.gr p;have T:=r.lt;obtain⟨cs,g,U,_⟩:=Ag0 r (show 0<256 by decide);clear G;replace B:=(show F5 _ from B);rw[Bdg];by_cases v:y=sub;. have R:decide (y=sub)=true:=Ws v;have O:sub∈Sgs:=v ▸ Vl hy;have z:=A O hd p;subst v;replace z:=(show F5 _ from z);clear A o hy C r;refine wk ?_;exact zr p z
  .have R:decide (y=sub)=false:=Xn v;have m:sub ∉ Sgs.take (i+1):=by rw[Ga,hy];grind
   have go:=λhd f0=>C hd f0 om om m;replace go:=(show F5 _ from go);clear A o hy C r m;refine wk ?_;rw[show(i:Int)+1=((i+1:Nat):Int)by omega];exact(show ∀hd f0,_ from go) _ _ Ex
def Biz(O:100<N)(j:Bhc Z){b i mn:Nat}{f e sl:Int}{sub:List Nat}{Q:AV->H->Prop}(k:Sc0 b s h)(G:f=(i:Int))(D:e=(mn:Int))(T:sl=(s.length:Int))(E:e=1\/e=2)(n:i+mn<=s.length)(C:(s.drop i).take mn=sub)(p:Nat)(hd:H)(q:Ai h hd)
 (A:sub∈Sgs->∀hd,Ai h hd->Q (.Bj [.str sub,.bool true]) hd) (B:sub ∉ Sgs->∀hd f0,Ai h hd->Ah h Q (AqQ Z N p (.ptr b 0) (iI f) (iI e) f0 hd)) (f0:L2):Ah h Q (A4s Z N (p+1) (.ptr b 0) (iI f) (iI e) f0 hd):=by
 have I:∀d:H,xSl prog 9 (.str s) (some (iI f)) (some (iI (f+e))) d=.ok (.str sub) d:=λd=>by have:=Aji (P:=prog) (t:=9) (a:=s) xi9 (show i<=i+mn by simp) n d;grind
 have u:=k.Mu;have r:=k.gr q;have L:=r.lt;obtain⟨cs,g,M,_⟩:=Ag0 r (show 0<256 by simp);have K:∀d:H,lnS (.str s) d=.ok (iI sl) d:=λd=>by simp_all
 have J:decide (0<e)=true:=dt;have U:decide (sl<f+e)=false:=df;replace B:=(show F5 _ from B);replace A:=(show F5 _ from A);rw[Bdf];refine wk (Fj (j _) λS h2 z R y v=>?_);obtain⟨m,rfl,o⟩:=v;exact wk (BdR Z N k E ⟨by omega,by omega⟩ I _ _ (q.trans (Ai.trans Ex z)) o A B 16 0 N _ _ rfl om (by simp) (Ai.refl _))
def B3l(z:100<N)(e:Bhc Z){b:Nat}{pre sg rest:List Nat}(k:Sc0 b s h)(E:s=pre++(sg++rest))(f:sg∈Sgs)(j:sg.length=1->∀c∈rest.head?,sg++[c] ∉ Sgs):
 Ah h (λr _=>r=.Bj [.str sg,.bool true]) (Ay prog Z N true 254 [.ptr b 0,iI (pre.length:Int)] h):=by
 rw[BzE];have p:sg.length=1\/sg.length=2:=by
  have:∀x∈Sgs,x.length=1\/x.length=2:=by decide
  exact this sg f
 have B:s.length=pre.length+(sg.length+rest.length):=by simp_all
 have o:s.drop pre.length=sg++rest:=by simp_all
 obtain⟨d,rfl⟩:∃n,N=n+2:=⟨N-2,by omega⟩;have one:sg.length=1->∀(hd:H) (f0:L2),Ai h hd->Ah h (λr _=>r=.Bj [.str sg,.bool true]) (AqQ Z (d+2) (d+1) (.ptr b 0) (iI (pre.length:Int)) (iI 2) f0 hd):=λh1 hd f0 G=>by rw[Bms];refine wk ?_;exact Biz Z (d+2) z e k rfl (mn:=1) rfl rfl (.inl rfl) om (by grind) d hd G (λ_ _ _=>rfl) (λa=>absurd f a) _
 rcases p with h1|h1
 .by_cases v:rest=[]
  .have D:decide (s.length<pre.length+2)=true:=Ws (by rw[B,h1,v];simp);have u:=k;have J:=u.lt;have C:=u.Mu;obtain⟨cs,g,K,_⟩:=Ag0 u (show 0<256 by decide);obtain⟨A,i⟩:∃x:Int,x=(pre.length:Int):=⟨_,rfl⟩;obtain⟨sl,m⟩:∃x:Int,x=(s.length:Int):=⟨_,rfl⟩;have I:∀a:H,lnS (.str s) a=.ok (iI sl) a:=λa=>by rw[m];exact A63 s
   have O:decide (sl<A+2)=true:=Ws (by simp[*]);have M:0<=A:=by omega
   have L:A<=3000:=by omega
   replace one:=(show F5 _ from one h1);rw[<- i];rw[<- i]at one;clear i m D o B j E v u;rw[Bdf];refine wk ?_;exact(show ∀(hd:H) (f0:L2),Ai h hd->_ from one) _ _ Ex
  .obtain⟨c,q,rfl⟩:∃c q,rest=c::q:=by cases rest with|nil=>exact absurd rfl v|cons c q=>exact⟨c,q,rfl⟩
   have y:=j h1 c rfl;exact Biz Z (d+2) z e k rfl (mn:=2) rfl rfl (.inr rfl) (by grind) (sub:=sg++[c]) (by rw[o,List.take_append,h1,Qa om];rfl) (d+1) h (Ai.refl h) (λa=>absurd a y) (λ_ hd f0 g=>one h1 hd f0 g) _
 .exact Biz Z (d+2) z e k rfl (mn:=2) rfl rfl (.inr rfl) (by rw[B,h1];omega) (by simp[*]) (d+1) h (Ai.refl h) (λ_ _ _=>rfl) (λa=>absurd f a) _
def Bpr:Prop:=∀(b:Nat) (s pre sg rest:List Nat) (h:H),Sc0 b s h->s=pre++(sg++rest)->sg∈Sgs->(sg.length=1->∀c∈rest.head?,sg++[c] ∉ Sgs) ->
 Ah h (λr _=>r=.Bj [.str sg,.bool true]) (Z.call 254 [.ptr b 0,iI (pre.length:Int)] h)
abbrev AiS(c:Nat):List AV:=[.int .u8 (c:Int)]
def Asj:∀s,U2 s=s.flatMap AiS
|[]=>rfl
|c::s=>by show AV.int _ c::U2 s=_;rw[Asj s];rfl
def BkF e(a:s.length<1000000000000) h:BwI e (.str s) h=.ok (.sl (h.nx+1) 0 s.length s.length 1 false) ((h.new (.Fb 0)).new (.cells (s.flatMap AiS) e (.Gt h.nx))):=by show @Bool.rec _ _ ..=_;rw[Rf,Fi,Ws a,Asj]
def Bk7 n(h1:0<=n)(h2:n<=255):E1 .u8 n=n:=by
 unfold E1 fits;rw[Il,Il];have e1:¬ n<IntKind.min .u8:=by show ¬ n<0;omega
 have a:¬ IntKind.max .u8<n:=by show ¬ 255<n;omega
 simp[*]
def BdU{t5 v:AV}{m:Nat}(g:∀c∈s,48<=c/\c<=57)(C:AnE s<=1000000000)(I:s.length<=10)(D:∀e:H,xIx prog .str t5 (iI 0) e=.ok (.int .u8 (m:Int)) e)(K:m≠45)(h:H)(z:R0 1 AiS h v s):
 ∀(u i n:Nat) (f0:L2),i+u=s.length->u<n->Ah h (λr _=>r=.Bj [iI (AnE s:Int),.B3]) (A46 Z N n t5 (iI (AnE (s.take i):Int)) v (iI s.length) (iI i) f0 h)
 |0,i,n,f0,hu,hn=>by
  obtain⟨j,rfl⟩:∃j,n=j+1:=⟨n-1,by omega⟩;have E:decide ((i:Int)<(s.length:Int))=false:=df;have L:decide (i<s.length)=false:=df;have J:∀e:H,Aj prog .eql 5 true (.int .u8 (m:Int)) (.int .u8 45) e=.ok (.bool false) e:=λe=>by show OR.ok (.bool (ieq (m:Int) 45)) e=_;rw[X7,Xn om]
  rw[Qa om];rw[Bdj];refine wk ?_;exact zr Ex rfl
 |u+1,i,n,f0,hu,hn=>by
  obtain⟨j,rfl⟩:∃j,n=j+1:=⟨n-1,by omega⟩;have o:=BdU g C I D K h z u (i+1) j;have E:decide ((i:Int)<(s.length:Int))=true:=dt;have L:decide (i<s.length)=true:=dt;obtain⟨c,hc⟩:∃c,s[i]?=some c:=⟨_,Xs om⟩;obtain⟨c1,c2⟩:=g c (Vl hc);obtain⟨b1,Q,A⟩:=R0.elem (f:=AiS) (s:=1) (λ_=>rfl) z hc;have M:=A.ia;have G:=A.part 0 _ rfl;rw[Mz]at G;have p:=Bel s i;have q:=Bel s (i+1);have y:AnE (s.take (i+1))=AnE (s.take i)*10+(c-48):=by rw[Ga,hc];exact A3l _ _
  obtain⟨a,B⟩:∃a:Int,a=(AnE (s.take i):Int):=⟨_,rfl⟩;obtain⟨d,hd⟩:∃d:Int,d=((c-48:Nat):Int):=⟨_,rfl⟩;have J:∀e:H,Aj prog .sub 5 true (.int .u8 (c:Int)) (.int .u8 48) e=.ok (.int .u8 d) e:=λe=>by show OR.ok (.int .u8 (E1 .u8 ((c:Int)-48))) e=_;rw[show(c:Int)-48=d by omega,Bk7 d om om]
  have R:∀e:H,Aj prog .gtr 5 true (.int .u8 d) (.int .u8 9) e=.ok (.bool false) e:=λe=>by show OR.ok (.bool (ilt 9 d)) e=_;rw[Il,Xn om]
  have O:∀e:H,A6r .i64 (.int .u8 d) e=.ok (iI d) e:=λe=>by rw[Awb,Cr d om om]
  have k:(AnE (s.take (i+1)):Int)=a*10+d:=by simp_all
  rw[k]at o;rw[<- B];have r1:0<=a:=by omega
  have P:a<=1000000000:=by omega
  have S:0<=d:=by omega
  have r4:d<=9:=by omega
  have go:=λf0=>o f0 om om;replace go:=(show F5 _ from go);clear A hc o k y p q B hd z D g C;rw[Bdj];refine wk ?_;rw[show(i:Int)+1=((i+1:Nat):Int)by omega];exact(show ∀f0,_ from go) _
def Amn{n}(hn:Num n):∃c r,V8 n=c::r/\48<=c/\c<=57/\(1<(V8 n).length->49<=c):=by
 have⟨_,_,_,_,a⟩:=Alj hn.1 hn.2;by_cases d:1<(V8 n).length;. have⟨c,r,e,_⟩:=a d;simp[*]
 .cases e:V8 n with
  |nil=>grind
  |cons c r=>simp_all
def BtL:Prop:=∀(n:Int) (h:H),Num n->Ah h (λr _=>r=.Bj [iI n,.B3]) (Z.call 312 [.str (V8 n)] h)
def B3u(B:100<N){n:Int}(hn:Num n):Ah h (λr _=>r=.Bj [iI n,.B3]) (Ay prog Z N true 312 [.str (V8 n)] h):=by
 obtain⟨h1,h2,z,j,u⟩:=Alj hn.1 hn.2;obtain⟨c,r,e,c1,c2,_⟩:=Amn hn;have g:AnE (V8 n)<=1000000000:=by have:=hn.2;omega
 have p:∀a:H,xIx prog .str (.str (V8 n)) (iI 0) a=.ok (.int .u8 (c:Int)) a:=λa=>A0l (i:=0) (by grind);have d:=λ(v:AV) (h:H) (f:R0 1 AiS h v (V8 n)) (f0:L2)=>BdU Z N h1 g j p om h f (V8 n).length 0 N f0 om om;have k:=λh=>BkF 5 (s:=V8 n) om h;rw[h2]at d;clear h1 h2 u e g;have l1:decide (0<(V8 n).length)=true:=dt;generalize V8 n=s at *;obtain⟨sl,y⟩:∃x:Int,x=(s.length:Int):=⟨_,rfl⟩;have A:∀a:H,lnS (.str s) a=.ok (iI sl) a:=λa=>by simp_all
 have G:decide (0<sl)=true:=dt;have E:decide (sl<19)=true:=dt;have C:∀a:H,Aj prog .eql 5 true (.int .u8 (c:Int)) (.int .u8 45) a=.ok (.bool false) a:=λa=>by show OR.ok (.bool (ieq (c:Int) 45)) a=_;rw[X7,Xn om]
 have D:∀a:H,Aj prog .eql 5 true (.int .u8 (c:Int)) (.int .u8 43) a=.ok (.bool false) a:=λa=>by show OR.ok (.bool (ieq (c:Int) 43)) a=_;rw[X7,Xn om]
 have wt:∀(w:Bool) (r:OR) (a:H),Ad (.Bj []) w r a=.ok (.Bj []) a:=λw r a=>A0V [] w r a;replace d:=(show F5 _ from d);rw[BzQ];clear y l1 z j;refine wk ?_;rw[Bmx];refine Ey (k h) ?_;refine Ey (v:=iI (s.length:Int)) rfl ?_;have q:Ai h ((h.new (.Fb 0)).new (.cells (s.flatMap AiS) 5 (.Gt h.nx))):=((Ai.refl h).new _).new _;have f:R0 1 _ ((h.new (.Fb 0)).new (.cells (s.flatMap AiS) 5 (.Gt h.nx))) (.sl _ 0 _ _ 1 false) s:=
  .inr ⟨_,0,_,_,_,rfl,Yw _,⟨by simp,5,_,Bf _,trivial⟩,by rw[Aa9 (s:=1) λ_=>rfl];omega,by rw[Cp,Qa (by rw[Aa9 (s:=1) λ_=>rfl];omega)]⟩;obtain⟨v,h2,e1,o,m⟩:=(show ∀v h f f0,_ from d) _ _ f _;exact⟨v,_,e1,q.trans o,m⟩
def BtH:Prop:=∀(n:Int) (h:H),Num n->Ah h (λr _=>r=.Bj [iI n,.B3]) (Z.call 287 [.str (V8 n)] h)
def B3p(a:BtL Z){n}(hn:Num n):Ah h (λr _=>r=.Bj [iI n,.B3]) (Ay prog Z N true 287 [.str (V8 n)] h):=by have i:∀d,Aj prog .neq 195 true .B3 .B3 d=.ok ..:=λd=>rfl;rw[BzK];exact Fj (a n h hn) λg h1 e1 l1 e f=>wk (zr Ex rfl)
def Bpq:Prop:=∀(n at':Int) (h:H),Num n->Ah h (λr _=>r=.Bj [.agg (Aez ⟨3,V8 n,n,at'⟩),iI 0]) (Z.call 253 [.str (V8 n),iI at'] h)
def B3k(j:BtH Z){n at':Int}(hn:Num n):Ah h (λr _=>r=.Bj [.agg (Aez ⟨3,V8 n,n,at'⟩),iI 0]) (Ay prog Z N true 253 [.str (V8 n),iI at'] h):=by
 obtain⟨c,r,e,c1,c2,c3⟩:=Amn hn;have E:∀a:H,xIx prog .str (.str (V8 n)) (iI 0) a=.ok (.int .u8 (c:Int)) a:=λa=>A0l (i:=0) (by grind);have B:∀a:H,Aj prog .neq 195 true .B3 .B3 a=.ok (.bool false) a:=λa=>by rfl
 have f:=λa=>j n a hn;have wt:∀(w:Bool) (r:OR) (a:H),Ad (.Bj []) w r a=.ok (.Bj []) a:=λw r a=>A0V [] w r a;have v:=hn.2;have z:decide (1000000000<n)=false:=df;clear e;generalize V8 n=s at *;obtain⟨sl,p⟩:∃x:Int,x=(s.length:Int):=⟨_,rfl⟩;have D:∀a:H,lnS (.str s) a=.ok (iI sl) a:=λa=>by simp[*]
 have o:∀(a:H) (K:OR),Ai h a->a.m.get h.nx=.cells [iI 0,.str [],iI 0,iI 0] 160 .exact->h.nx<a.nx->True:=λ_ _ _ _ _=>trivial;clear o;have C:n<9223372036854775807:=by omega
 rw[BzD];by_cases k:1<sl
 .have u:decide (1<sl)=true:=Ws k;have c4:=c3 om;have A:∀a:H,Aj prog .eql 5 true (.int .u8 (c:Int)) (.int .u8 48) a=.ok (.bool false) a:=λa=>by show OR.ok (.bool (ieq (c:Int) 48)) a=_;rw[X7,Xn om]
  clear p c3;refine wk ?_;refine Fj (f _) λq h1 e1 l1 d g=>?_;subst g;simp only[C9]at l1;have y:h1.m.get h.nx=.cells (Aez AiM) 160 .exact:=by simp_all
  clear d f;refine wk ?_;exact zr Ex rfl
 .have u:decide (1<sl)=false:=Xn k;clear p c3;refine wk ?_;refine Fj (f _) λq h1 e1 l1 d g=>?_;subst g;simp only[C9]at l1;have y:h1.m.get h.nx=.cells (Aez AiM) 160 .exact:=by simp_all
  clear d f;refine wk ?_;exact zr Ex rfl
variable {b:Nat}{pre x rest:List Nat}
def Bpp:Prop:=∀(h:H),S0 h->Ah h (λr h1=>Ig h1 r W35) (Z.call 252 [] h)
def BqQ b off len cap z ex h:Aj prog .eql 94 true (.sl b off len cap z ex) .Bv h=.ok (.bool false) h:=rfl
def Bpu:Prop:=∀(v:AV) (h:H),v=.sl 0 0 35 35 1 true->Ig h v W35->Ah h (λr h1=>Ig h1 r W35) (Z.call 96 [v] h)
def B3y v h(e:v=.sl 0 0 35 35 1 true)(d:Ig h v W35):Ah h (λr h1=>Ig h1 r W35) (Ay prog Z N true 96 [v] h):=by subst e;rw[e96];obtain⟨w,h',g,a,f⟩:=cp (bytes:=16) fe d (Ama _) (Yw _);exact Ey (BqQ ..) (Ae5 (Ey rfl (Ey g (Lo a f.sl))))
def B3j(a:Bpu Z)(e:S0 h):Ah h (λr h1=>Ig h1 r W35) (Ay prog Z N true 252 [] h):=by rw[BzC];exact Ey (BlD h) (Fj (a _ h rfl e.ws) λg h1 e1 l1 f d=>zr e1 d)
def Ah9:L3->Prop
|.sg s=>s∈Sgs
|.kw s=>s∈W35
|.nm s=>s∈R2++N1
|.nu n=>Num n
|.wd s=>s∈R9
def BoR:L3->List Nat->Prop
|.sg s,rest=>s.length=1->∀c∈rest.head?,s++[c] ∉ Sgs
|.kw _,rest=>∀c∈rest.head?,N3 c ∉ [2,3,4]
|.nm _,rest=>∀c∈rest.head?,N3 c ∉ [2,3,4]
|.nu _,rest=>∀c∈rest.head?,N3 c ∉ [3]
|.wd _,_=>True
def A5Q:∀x∈W35++(R2++N1),(∀c∈x,N3 c=2)/\x≠[]/\x.length<=20:=by decide
def Bwc:∀x∈R2++N1,x ∉ W35:=by decide
def BkE{h}{a}{e}{ca}{na}{v w}(f:h.m.get a=.cells ca e .exact)(la:na=ca.length):Vk [.c (some (some na)) (.ptr a 0),.v v,.v w] h=.ok (.Bj [.agg ca,v,w]) h:=by
 have d:AyY (some (some na)) (.ptr a 0) h=some (.agg ca):=by show(match h.rd a with|some c=>Tn _ c 0|none=>none)=some _;rw[(by rw[AaS,f];rfl:h.rd a=some _)];show(Nf _ 0 _).map _=_;rw[E5,W5 om,la,Cp,cg];rfl
 show(match match AyY _ _ h,some _ with|some v,some l=>some (v::l)|_,_=>none with|some l=>OR.ok _ h|none=>.bad _)=_;rw[d];rfl
def Ap4{h}{a} t{v w}(d:h.m.get a=.cells (Aez t) 160 .exact):Vk [.c (some (some 4)) (.ptr a 0),.v v,.v w] h=.ok (.Bj [.agg (Aez t),v,w]) h:=BkE d rfl
def Bjb(B:A4K Z)(C:Bpp Z)(q:Be2 Z)(k:Sc0 b s h)(hG:S0 h)(p:s=pre++(x++rest))(E:x∈W35++(R2++N1))(u:∀c∈rest.head?,N3 c ∉ [2,3,4]):
 Ah h (λr h1=>r=.Bj [.agg (Aez ⟨if x∈W35 then 2 else 1,x,0,pre.length⟩),iI ((pre.length+x.length:Nat):Int),iI 0]) (Ay prog Z N true 217 [.ptr b 0,iI (pre.length:Int)] h):=by
 obtain⟨D,o,O⟩:=A5Q x E;obtain⟨c,r,n⟩:∃c r,x=c::r:=by cases x with|nil=>exact absurd rfl o|cons c r=>exact⟨c,r,rfl⟩
 have hc:s[pre.length]?=some c:=by rw[p,n];simp
 have Ox:N3 c=2:=D c (by grind);have M:c<256:=k.by' c (Vl hc);obtain⟨cs,g,U,I⟩:=Ag0 k M;rw[Ox]at I;have x1:∀a:H,xIx prog .str (.str s) (iI (pre.length:Int)) a=.ok (.int .u8 (c:Int)) a:=λa=>A0l hc;have x2:=λa=>ApQ (b:=b) M a;have B6:=k.lt;have Q:=k.Mu;have Z3:s.length=pre.length+(x.length+rest.length):=by grind
 have v:∀a:H,xSl prog 9 (.str s) (some (iI (pre.length:Int))) (some (iI ((pre.length+x.length:Nat):Int))) a=.ok (.str x) a:=λa=>by rw[Aji xi9 om om,p,di,show pre.length+x.length-pre.length=x.length by omega,eb]
 have z:=λ(w:AV) (a:H) (hw:R0 1 Ane a w [2,3,4]) (g:Ai h a)=>B b s w [2,3,4] pre x rest a hw fe (k.gr g) p (λc hc=>by rw[D c hc];decide) u;have k20:decide ((20:Int)<(x.length:Int))=false:=df;have V:decide (20<x.length)=false:=df;generalize ((pre.length+x.length:Nat):Int)=ei at v z ⊢;generalize (pre.length:Int)=pi at *;clear hc n D o p Z3;rw[BmL];refine wk ?_;have A:Ai h ((h.new (.cells [iI 0,.str [],iI 0,iI 0] 160 .exact)).new (.cells [iI 2,iI 3,iI 4] 234 .exact)):=((Ai.refl h).new _).new _;refine Fj (z _ _ (Sl.lit (h:=h.new _) (Bf _) rfl rfl) A) λv1 h2 K Y i o=>?_;subst o;simp only[C9]at Y;have R:=A.trans K;have L:=k.gr R;have kz:h2.m.get h.nx=.cells (Aez AiM) 160 .exact:=by rw[i h.nx (by simp only[C9];omega)];simp(disch:=first|exact Ce|fail)
 obtain⟨W,T,y,_⟩:=Ag0 L (show 0<256 by decide);clear z i g U I k K A;refine wk ?_;refine Fj (C _ (hG.By (Ai.keeps Ex))) λv3 G J S j O=>?_;simp only[C9]at S;have f:G.m.get h.nx=.cells (Aez ⟨1,x,0,pi⟩) 160 .exact:=by rw[j h.nx (by simp only[C9];omega)];simp
 have P:Ai h G:=Ai.trans Ex J;refine Fj (q x v3 W35 G O fe) λv4 h4 e4 l4 e q4=>?_;subst q4;have kz4:h4.m.get h.nx=.cells (Aez ⟨1,x,0,pi⟩) 160 .exact:=(e h.nx om).trans f;have gD:=P.trans e4;clear j e J e4 P f kz T y L;by_cases d:x∈W35;. rw[W5 d];have X:decide (x∈W35)=true:=Ws d;clear E d u;refine wk ?_;rw[BcC];refine wk ?_;rw[Ap4 ⟨2,x,0,pi⟩ (A2 _ _)];exact zr Ex rfl
 .rw[X2 d];have X:decide (x∈W35)=false:=Xn d;clear E d u;refine wk ?_;rw[BcC];refine wk ?_;rw[Ap4 ⟨1,x,0,pi⟩ (A2 _ _)];exact zr Ex rfl
def BrY(y:A4K Z)(u:Bpq Z){n:Int}(hn:Num n)(k:Sc0 b s h)(j:s=pre++(V8 n++rest))(L:∀c∈rest.head?,N3 c ∉ [3]):
 Ah h (λr h1=>r=.Bj [.agg (Aez ⟨3,V8 n,n,pre.length⟩),iI ((pre.length+(V8 n).length:Nat):Int),iI 0]) (Ay prog Z N true 217 [.ptr b 0,iI (pre.length:Int)] h):=by
 obtain⟨d1,d2,d3,d4,d5⟩:=Alj hn.1 hn.2;have I:∀c∈V8 n,N3 c=3:=λc hc=>by have:=d1 c hc;unfold N3;omega
 obtain⟨c,r,v,_⟩:=Amn hn;have f:=λ(z:Int) a=>u n z a hn;have hc:s[pre.length]?=some c:=by simp_all
 have U:N3 c=3:=I c (by simp_all);clear d1 d2 d3 d4 d5 v;generalize V8 n=x at *;have G:c<256:=k.by' c (Vl hc);obtain⟨cs,g,Q,B⟩:=Ag0 k G;rw[U]at B;have X:∀a:H,xIx prog .str (.str s) (iI (pre.length:Int)) a=.ok (.int .u8 (c:Int)) a:=λa=>A0l hc;have x2:=λa=>ApQ (b:=b) G a;have B6:=k.lt;have K:=k.Mu;have W:s.length=pre.length+(x.length+rest.length):=by grind
 have i:∀a:H,xSl prog 9 (.str s) (some (iI (pre.length:Int))) (some (iI ((pre.length+x.length:Nat):Int))) a=.ok (.str x) a:=λa=>by rw[Aji xi9 om om,j,di,show pre.length+x.length-pre.length=x.length by omega,eb]
 have p:=λ(w:AV) (a:H) (V:R0 1 Ane a w [3]) (g:Ai h a)=>y b s w [3] pre x rest a V (by simp) (k.gr g) j (λc hc=>by simp_all) L;replace f:=f (pre.length:Int);generalize ((pre.length+x.length:Nat):Int)=ei at i p ⊢;generalize (pre.length:Int)=z at *;clear hc I j W;rw[BmL];refine wk ?_;have q:Ai h ((h.new (.cells [iI 0,.str [],iI 0,iI 0] 160 .exact)).new (.cells [iI 3] 234 .exact)):=((Ai.refl h).new _).new _;refine Fj (p _ _ (Sl.lit (h:=h.new _) (Bf _) rfl rfl) q) λv1 h2 D S d O=>?_;subst O;simp only[C9]at S;have A:=q.trans D;have E:=k.gr A;have kz:h2.m.get h.nx=.cells (Aez AiM) 160 .exact:=by rw[d h.nx (by simp only[C9];omega)];simp(disch:=first|exact Ce|fail)
 obtain⟨R,P,o,_⟩:=Ag0 E (show 0<256 by grind);clear p d g Q B k D q;refine wk ?_;refine Fj (f _) λv3 J C Y e T=>?_;subst T;have M:J.m.get h.nx=.cells (Aez AiM) 160 .exact:=(e h.nx om).trans kz;have gC:Ai h J:=A.trans C;clear e C kz P o E f hn;refine wk ?_;rw[Ap4 ⟨3,x,n,z⟩ (A2 _ _)];exact zr Ex rfl
def BoH:∀x∈Sgs,∃c r,x=c::r/\N3 c=0/\c<256:=by
 intro x a;have:∀x∈Sgs,x≠[]/\N3 (x.headD 0)=0/\x.headD 0<256:=by decide
 cases x with
 |nil=>grind
 |cons c r=>grind
def BrZ(d:Bpr Z)(k:Sc0 b s h)(i:s=pre++(x++rest))(f:x∈Sgs)(n:x.length=1->∀c∈rest.head?,x++[c] ∉ Sgs):
 Ah h (λr h1=>r=.Bj [.agg (Aez ⟨5,x,0,pre.length⟩),iI ((pre.length+x.length:Nat):Int),iI 0]) (Ay prog Z N true 217 [.ptr b 0,iI (pre.length:Int)] h):=by
 obtain⟨c,r,e,v,_⟩:=BoH x f;have hc:s[pre.length]?=some c:=by grind
 have j:c<256:=k.by' c (Vl hc);obtain⟨cs,g,K,p⟩:=Ag0 k j;rw[v]at p;have C:∀a:H,xIx prog .str (.str s) (iI (pre.length:Int)) a=.ok (.int .u8 (c:Int)) a:=λa=>A0l hc;have G:=λa=>ApQ (b:=b) j a;have J:=k.lt;have o:=k.Mu;have y:s.length=pre.length+(x.length+rest.length):=by grind
 have u:=λ(a:H) (g:Ai h a)=>d b s pre x rest a (k.gr g) i f n;have r1:0<=(pre.length:Int):=by omega
 have I:(pre.length:Int)<=2000:=by omega
 have B:(x.length:Int)<=2000:=by omega
 have r4:0<=(x.length:Int):=by omega
 rw[show((pre.length+x.length:Nat):Int)=(pre.length:Int)+(x.length:Int)by omega];obtain⟨A,m⟩:∃z:Int,z=(x.length:Int):=⟨_,rfl⟩;have O:∀a:H,lnS (.str x) a=.ok (iI A) a:=λa=>by simp_all
 rw[<- m]at B r4 ⊢;generalize (pre.length:Int)=pi at *;clear hc e i y n f m;rw[BmL];refine wk ?_;refine Fj (u _ Ex) λL h2 E M q D=>?_;refine wk ?_;rw[Ap4 ⟨5,x,0,_⟩ (A2 ..)];exact zr Ex rfl
def BwF:∀x∈R9,∀c∈x,N3 c=2:=by decide
def Bsa(J:A4K Z)(A:A7Y Z)(k:Sc0 b s h)(hG:S0 h)(C:s=pre++((39::x++[39])++rest))(K:x∈R9):
 Ah h (λr h1=>r=.Bj [.agg (Aez ⟨4,x,0,pre.length⟩),iI ((pre.length+(39::x++[39]).length:Nat):Int),iI 0]) (Ay prog Z N true 217 [.ptr b 0,iI (pre.length:Int)] h):=by
 have q1:=BwF x K;have hc:s[pre.length]?=some 39:=by rw[C];simp
 have e:s=(pre++[39])++(x++(39::rest)):=by rw[C];simp
 have Z3:s.length=pre.length+1+x.length+1+rest.length:=by grind
 have f:s[pre.length+1+x.length]?=some 39:=by rw[e,bu (by simp)];simp
 obtain⟨cs,g,W,u⟩:=Ag0 k (show 39<256 by decide)
 rw[show N3 39=5 from rfl]at u
 have x1:∀d:H,xIx prog .str (.str s) (iI (pre.length:Int)) d=.ok (.int .u8 39) d:=λd=>A0l hc;have x4:∀d:H,xIx prog .str (.str s) (iI ((pre.length+1+x.length:Nat):Int)) d=.ok (.int .u8 39) d:=λd=>A0l f;have x2:∀d:H,AxM 256 1 (.ptr b 2) (.int .u8 39) d=.ok (.ptr b 41) d:=λd=>ApQ (b:=b) (show 39<256 by decide) d
 replace u:cs[41]?=some (iI 5):=u;have B6:=k.lt;have Q:=k.Mu;have p:(pre++[39]).length=pre.length+1:=by simp
 have U:∀d:H,xSl prog 9 (.str s) (some (iI ((pre.length:Int)+1))) (some (iI ((pre.length+1+x.length:Nat):Int))) d=.ok (.str x) d:=λd=>by have:=Aji (P:=prog) (t:=9) (a:=s) (i:=pre.length+1) (j:=pre.length+1+x.length) xi9 om om d;simp_all
 have v:=λ(w:AV) (d:H) (hw:R0 1 Ane d w [2,3,4]) (g:Ai h d)=>J b s w [2,3,4] (pre++[39]) x (39::rest) d hw fe (k.gr g) e (λc hc=>by simp_all) (by intro c hc;cases hc;decide);rw[p]at v;rw[show((pre.length+1:Nat):Int)=(pre.length:Int)+1 by omega]at v;clear p;obtain⟨sl,I⟩:∃z:Int,z=(s.length:Int):=⟨_,rfl⟩;have x3:∀d:H,lnS (.str s) d=.ok (iI sl) d:=λd=>by simp_all
 have k1:decide (sl<=((pre.length+1+x.length:Nat):Int))=false:=df;have M:((pre.length+(39::x++[39]).length:Nat):Int)=((pre.length+1+x.length:Nat):Int)+1:=by simp;omega
 rw[M];have r1:0<=(pre.length:Int):=by omega
 have r2:(pre.length:Int)<=2000:=by omega
 have r3:((pre.length+1+x.length:Nat):Int)<=2000:=by omega
 have r4:0<=((pre.length+1+x.length:Nat):Int):=by omega
 have o:=λd (hg:S0 d)=>A x d hg (Gw _ K);generalize ((pre.length+1+x.length:Nat):Int)=ei at *
 generalize (pre.length:Int)=pi at *
 clear hc C e Z3 K I f q1 M;rw[BmL];refine wk ?_;have G:Ai h ((h.new (.cells [iI 0,.str [],iI 0,iI 0] 160 .exact)).new (.cells [iI 2,iI 3,iI 4] 234 .exact)):=((Ai.refl h).new _).new _;refine Fj (v _ _ (Sl.lit (h:=h.new _) (Bf _) rfl rfl) G) λv1 h2 L Y n S=>?_;subst S;simp only[C9]at Y;have y:=G.trans L;have D:=k.gr y;have kz:h2.m.get h.nx=.cells (Aez AiM) 160 .exact:=by rw[n h.nx (by simp only[C9];omega)];simp(disch:=first|exact Ce|fail)
 obtain⟨X,V,E,_⟩:=Ag0 D (show 0<256 by decide);clear v n g W u k L G;have y1:∀d:H,Aj prog .neq 5 true (.int .u8 39) (.int .u8 39) d=.ok (.bool false) d:=λd=>by kernel_rfl
 refine wk ?_;refine Fj (o _ (hG.By y.keeps)) λv3 O B l3 q q3=>?_;subst q3;have R:O.m.get h.nx=.cells (Aez AiM) 160 .exact:=(q h.nx om).trans kz;have gC:Ai h O:=y.trans B;have kC:=D.gr B;obtain⟨cs3,g3,T,_⟩:=Ag0 kC (show 0<256 by decide);clear q kz V E D o B;refine wk ?_
 rw[Ap4 ⟨4,x,0,pi⟩ (A2 _ _)];exact zr Ex rfl
def Bm8:Prop:=∀(b:Nat) (s pre rest:List Nat) (x:L3) (h:H),Sc0 b s h->S0 h->s=pre++(lt x++rest)->Ah9 x->BoR x rest ->
 Ah h (λr _=>∃t,r=.Bj [.agg (Aez t),iI ((pre.length+(lt x).length:Nat):Int),iI 0]/\AeT t x) (Z.call 217 [.ptr b 0,iI (pre.length:Int)] h)
def B2Z(a:A4K Z)(i:Bpp Z)(g:Be2 Z)(q:Bpq Z)(p:Bpr Z)(m:A7Y Z){x}(k:Sc0 b s h)(o:S0 h)(f:s=pre++(lt x++rest))(d:Ah9 x)(j:BoR x rest):
 Ah h (λr _=>∃t,r=.Bj [.agg (Aez t),iI (pre.length+(lt x).length:Nat),iI 0]/\AeT t x) (Ay prog Z N true 217 [.ptr b 0,iI pre.length] h):=by cases x with
 |sg x=>exact(BrZ Z N p k f d j).mono λ_ _ _ e=>⟨_,e,rfl,rfl⟩
 |kw x=>have u:x∈W35:=d;refine(Bjb Z N a i g k o f (aw _ d) j).mono λ_ _ _ e=>⟨_,e,?_,rfl⟩;show(if x∈W35 then 2 else 1)=2;grind
 |nm x=>refine(Bjb Z N a i g k o f (Gw _ d) j).mono λ_ _ _ e=>⟨_,e,?_,rfl⟩;show(if x∈W35 then 2 else 1)=1;rw[X2 (Bwc x d)]
 |nu n=>exact(BrY Z N a q d k f j).mono λ_ _ _ e=>⟨_,e,rfl,rfl⟩
 |wd x=>exact(Bsa Z N a m k o f d).mono λ_ _ _ e=>⟨_,e,rfl,rfl⟩
variable {hd:H}{l:Nat}{acc:List Tok}{t:Tok}
def PX2(b c:Nat)(h h1:H):Prop:=∃X Y,PG2 b X c Y h h1
def PX2.gr{c}{h1}(g:PX2 b c h hd)(e:Ai hd h1):PX2 b c h h1:=by have⟨X,Y,g⟩:=g;exact⟨X,Y,g.gr e⟩
def PX2.Cf{c}(g:PX2 b c h hd) x(e:x<h.nx)(d:x≠b)(a:x≠c):hd.m.get x=h.m.get x:=by have⟨X,Y,g⟩:=g;exact g.Cf x e d a
def PX2.lo{c}(g:PX2 b c h hd):h.nx<=hd.nx:=by have⟨X,Y,g⟩:=g;exact g.lo
def PX2.AnO{c}(g:PX2 b c h hd) Y:PX2 b c h (hd.put c Y):=by have⟨X,_,g⟩:=g;exact⟨X,Y,PG2.Bwz g⟩
def PX2.To{c}(g:PX2 b c h hd)(hn:b≠c) X:PX2 b c h (hd.put b X):=by have⟨_,Y,g⟩:=g;exact⟨X,Y,g.To hn X⟩
def Bgh{st}{p}{fr}{g a1}(j:h.m.get l=.loop st p fr [18,19] rAS rBD):Aze prog Z N false l [g,a1] h=xc rAS prog Z N false (A1q l) (A1r l) (λf h=>match h.m.get l with|.loop 0 i e a d bd2=>xc rBD prog Z N false (A1q l) (A1r l) (BaI l) f (h.put l (.loop 1 i e a d bd2))|_=>.bad 203) (((fr.set Br (.map l)).set 18 g).set 19 a1) h:=by unfold Aze;rw[j];rfl
def A6P{st}{p}{fr}{d}{a c}(e:h.m.get l=.loop st p fr d a c):endRound l none h=.ok (.bool true) (h.put l (.loop 0 none fr d a c)):=by unfold endRound;grind
def AsM{l c}{cs}{Y}(hc:Nv h c cs)(hn:c≠l)(d:∀st,h.m.get l≠.Fb st):Nv (h.put l Y) c cs:=by have⟨e,k,_,a⟩:=hc.cells;refine⟨hc.lt,e,k,by simp[*],?_⟩;cases k with
|Cf k st=>exact⟨a.1,by rw[Aq _ _ _ λf=>d _ (by rw[<- f];exact a.2)];exact a.2⟩
|_=>trivial
def BeL{l c}{cs}{Y}(hc:Nv h c cs)(a:∀cs e k,h.m.get l≠.cells cs e k)(hj:∀st,h.m.get l≠.Fb st):Nv (h.put l Y) c cs:=
 AsM hc λd=>by have⟨e,k,_,_⟩:=hc.cells;grind hj
def Atp{s lo len}{et}{v}{cs}{Y}(j:Fm s lo et h v len cs)(u:l<lo)(i:∀cs e k,h.m.get l≠.cells cs e k)(hj:∀st,h.m.get l≠.Fb st):Fm s lo et (h.put l Y) v len cs:=by
 rcases j with a|⟨rfl,rfl,d,off,D7,rfl,h2,a⟩|⟨d,k,st,rfl,r,q,g,q5,o,f,p,n⟩;. exact .inl a
 .exact .inr (.inl ⟨rfl,rfl,_,_,_,rfl,BeL h2 i hj,a⟩)
 .exact .inr (.inr ⟨_,k,_,rfl,by rw[Aq _ _ _ om];omega,by rw[Aq _ _ _ om];omega,g,q5,o,f,p,n⟩)
def Bsk{n f j q p o i d a:AV}(g:PX2 b l h hd)(J:b≠l)(B:b<h.nx)(C:l<h.nx)(S:hd.m.get b=AeK 125 w)(hL:hd.m.get l=.loop 0 none (rFR n f j q p o i d (.ptr b 0) a) [18,19] rAS rBD)(U:Fm 4 h.nx 160 hd w acc.length (acc.flatMap Aez))(T:acc.length<=2000):
 Ah H0 (λr h'=>r=.bool true/\PX2 b l h h'/\(∃w',h'.m.get b=AeK 125 w'/\Fm 4 h.nx 160 h' w' (acc++[t]).length ((acc++[t]).flatMap Aez))/\h'.m.get l=.loop 0 none (rFR n f j q p o i d (.ptr b 0) a) [18,19] rAS rBD/\hd.nx<=h'.nx/\(∀c cs,c≠b->c≠l->Nv hd c cs->Nv h' c cs))
  (Aze prog Z N false l [.agg (Aez t),iI 0] hd):=by
 rw[Bgh Z N hL,rdA];have hbd:b<hd.nx:=Xq B g.lo;have hld:l<hd.nx:=Xq C g.lo;have Kf:=g.lo;refine wk ?_;have K:((hd.new (.cells [iI 0,.str [],iI 0,iI 0] 160 .exact)).put hd.nx (.cells (Aez t) 160 .exact)).m.get l=.loop 0 none (rFR n f j q p o i d (.ptr b 0) a) [18,19] rAS rBD:=by rw[Aq _ _ _ om,Cq _ _ om];omega
 rw[K];simp only[];rw[rdB];have Q:PX2 b l h ((hd.new (.cells [iI 0,.str [],iI 0,iI 0] 160 .exact)).put hd.nx (.cells (Aez t) 160 .exact)):=g.gr (((Ai.refl hd).new _).put _ _ (Yw _));have P:=Q.AnO (.loop 1 none (rFR n f j q p o i d (.ptr b 0) a) [18,19] rAS rBD);have I:(((hd.new (.cells [iI 0,.str [],iI 0,iI 0] 160 .exact)).put hd.nx (.cells (Aez t) 160 .exact)).put l (.loop 1 none (rFR n f j q p o i d (.ptr b 0) a) [18,19] rAS rBD)).m.get b=AeK 125 w:=by rw[Aq _ _ _ J,Aq _ _ _ om,Cq _ _ om];exact S
 have O:(((hd.new (.cells [iI 0,.str [],iI 0,iI 0] 160 .exact)).put hd.nx (.cells (Aez t) 160 .exact)).put l (.loop 1 none (rFR n f j q p o i d (.ptr b 0) a) [18,19] rAS rBD)).m.get hd.nx=.cells (Aez t) 160 .exact:=by rw[Aq _ _ _ om];simp_all
 have E:(((hd.new (.cells [iI 0,.str [],iI 0,iI 0] 160 .exact)).put hd.nx (.cells (Aez t) 160 .exact)).put l (.loop 1 none (rFR n f j q p o i d (.ptr b 0) a) [18,19] rAS rBD)).m.get l=.loop 1 none (rFR n f j q p o i d (.ptr b 0) a) [18,19] rAS rBD:=A2 _ _;have kA:∀c cs,c≠b->c≠l->Nv hd c cs->Nv (((hd.new (.cells [iI 0,.str [],iI 0,iI 0] 160 .exact)).put hd.nx (.cells (Aez t) 160 .exact)).put l (.loop 1 none (rFR n f j q p o i d (.ptr b 0) a) [18,19] rAS rBD)) c cs:=λc cs A y hc=>
  AsM ((((Ai.refl hd).new _).put _ _ (Yw _)).keeps.cont c cs hc) y (λst u=>by rw[K]at u;cases u);have L:(((hd.new (.cells [iI 0,.str [],iI 0,iI 0] 160 .exact)).put hd.nx (.cells (Aez t) 160 .exact)).put l (.loop 1 none (rFR n f j q p o i d (.ptr b 0) a) [18,19] rAS rBD)).nx=hd.nx+1:=rfl;have v:Fm 4 h.nx 160 (((hd.new (.cells [iI 0,.str [],iI 0,iI 0] 160 .exact)).put hd.nx (.cells (Aez t) 160 .exact)).put l (.loop 1 none (rFR n f j q p o i d (.ptr b 0) a) [18,19] rAS rBD)) w acc.length (acc.flatMap Aez):=
  Atp (U.gr (((Ai.refl hd).new _).put _ _ (Yw _))) C (λcs e k u=>by simp_all) (λst u=>by grind);generalize (((hd.new (.cells [iI 0,.str [],iI 0,iI 0] 160 .exact)).put hd.nx (.cells (Aez t) 160 .exact)).put l (.loop 1 none (rFR n f j q p o i d (.ptr b 0) a) [18,19] rAS rBD))=h3 at *;obtain⟨o1,o2⟩:=B2 v.sl;clear Q K hL S U g;refine wk ?_;have D:=Ai.new (Ai.refl h3) (.cells (Aez t) 160 .exact);have V:=v.gr D;have Z3:Sl 4 (h3.new (.cells (Aez t) 160 .exact)) (.sl (hd.nx+1) 0 1 1 4 true) 1 (Aez t):=L ▸ Sl.lit (h:=h3) (Bf _) rfl rfl;obtain⟨v',h',q1,G,R,q4,q5⟩:=Fm.AbQ (bytes:=40) (lo:=h.nx) V Z3.src (by rfl) om (by rfl) (by show h.nx<=h3.nx+1;omega);refine Ey q1 ?_;obtain⟨X,Y,W⟩:=P.gr D;have gD:PX2 b l h h':=⟨X,Y,R _ (Yw _) W⟩;have M:h'.m.get b=AeK 125 w:=by rw[q5 b B,Cq _ _ om];grind
 have hl4:h'.m.get l=.loop 1 none (rFR n f j q p o i d (.ptr b 0) a) [18,19] rAS rBD:=by rw[q5 l C,Cq _ _ om];omega
 have lo4:h3.nx+1<=h'.nx:=G.lo;obtain⟨p1,p2⟩:=B2 q4.sl;have kB:∀c cs,c≠b->c≠l->Nv hd c cs->Nv h' c cs:=λc cs A y hc=>G.cont c cs (D.keeps.cont c cs (kA c cs A y hc));clear R q5 q1 G W P kA I O E v V D Z3 o1 o2;have Vt:A4 1 (.ptr b 0) v' h'=.ok (.Bj []) (h'.put b (AeK 125 v')):=by simp only[Adt,p2,AiA,Auc,Awo,p1,eh,R6,Gx,Rx,and_self,Jr];simp[M,lw]
 refine Ey Vt ?_;have z:(h'.put b (AeK 125 v')).m.get l=.loop 1 none (rFR n f j q p o i d (.ptr b 0) a) [18,19] rAS rBD:=by rw[Aq _ _ _ (λu=>J u.symm)];grind
 rw[A6P z];refine Lo ⟨Jv _,λb B=>absurd B (dx b),λx _=>.inr (Jv x)⟩ ⟨rfl,(gD.To J _).AnO _,⟨v',?_,?_⟩,A2 _ _,?_,λc cs A y hc=>?_⟩;. simp_all
 .rw[X8,Qm,show[t].flatMap Aez=Aez t from rfl];refine Atp (Fm.To (l:=[v']) (e1:=125) q4 B (by simp_all)) C (λcs e k u=>by grind) (λst u=>by simp_all)
 .show hd.nx<=h'.nx;omega
 .exact AsM (AsM (kB c cs A y hc) A (λst u=>by simp_all)) y (λst u=>by rw[z]at u;cases u)
end Go.Proofs
namespace Go.Proofs
open Go Go.Ev Go.Nm Go.Ev.Sx
variable {j:L3}
def BqK{n}(hn:Num n):∃c r,V8 n=c::r/\N3 c=3:=by have⟨c,r,h1,_⟩:=Amn hn;refine⟨c,r,h1,?_⟩;unfold N3;omega
def Bix(hy:Ah9 j):∃c r,lt j=c::r/\N3 c≠1/\(glB j=true->c∈[41,93,44,47,46]):=by cases j with
|sg x=>obtain⟨c,r,rfl,h1,_⟩:=BoH x hy;refine⟨c,r,rfl,by omega,λh=>?_⟩;have h2:=az h;grind
|kw x=>have⟨h1,h2,_⟩:=A5Q x (aw _ hy);cases x with
 |nil=>grind
 |cons c r=>exact⟨c,r,rfl,by simp_all,λh=>by cases h⟩
|nm x=>have⟨h1,h2,_⟩:=A5Q x (Gw _ hy);cases x with
 |nil=>grind
 |cons c r=>exact⟨c,r,rfl,by grind,λh=>by cases h⟩
|nu n=>have⟨c,r,h1,h2⟩:=BqK hy;exact⟨c,r,h1,by omega,λh=>by cases h⟩
|wd x=>exact⟨_,_,rfl,by decide,λh=>by cases h⟩
def Bid{r}(d:∀x∈r,Ah9 x):∀c∈(jb r).head?,N3 c ∉ [1]:=by intro c hc;cases r with
|nil=>cases hc
|cons y r=>
 have⟨a,e,_,_,_⟩:=Bix (d y Uq ..);have:jb (y::r)=a::e++jn (some y) r:=by show lt y++jn _ r=_;grind
 grind
def BzZ{r:List L3}(e:Ah9 j)(i:∀y∈r,Ah9 y):BoR j (jn (some j) r):=by
 have d:∀c∈(jn (some j) r).head?,c=32\/glA j=true\/c∈[41,93,44,47,46]:=by intro c hc;cases r with
  |nil=>cases hc
  |cons y r=>
   obtain⟨m,k,h1,_,a⟩:=Bix (i y (Uq ..));replace hc:c∈((if sep (some j) y then[32]else[])++(lt y++jn (some y) r)).head?:=hc;split at hc;. cases hc;exact .inl rfl
   .rename_i x;rw[h1]at hc;cases hc;cases g:glA j with
    |true=>exact .inr (.inl rfl)
    |false=>refine .inr (.inr (a ?_));cases f:glB y with
     |true=>rfl
     |false=>exact absurd (show sep (some j) y=true by simp[sep,g,f]) x
 cases j with
 |sg s=>
  intro h1 c hc;rcases d c hc with rfl|h2|h2
  .have:∀s∈Sgs,s++[32] ∉ Sgs:=by decide
   exact this s e
  .have a:s∈[[40],[91],[47],[46,46]]:=az h2;rcases Tu.1 a with rfl|a;. simp[Sgs]
   rcases Tu.1 a with rfl|a;. simp[Sgs]
   rcases Tu.1 a with rfl|a;. simp[Sgs]
   rcases Tu.1 a with rfl|a;. cases h1
   .cases a
  .have:∀s∈Sgs,s.length=1->∀c∈[41,93,44,47,46],s++[c] ∉ Sgs:=by decide
   exact this s e h1 c h2
 |kw s=>
  intro c hc;rcases d c hc with rfl|h2|h2;. decide
  .cases h2
  .have:∀c∈[41,93,44,47,46],N3 c ∉ [(2:Int),3,4]:=by decide
   exact this c h2
 |nm s=>
  intro c hc;rcases d c hc with rfl|h2|h2;. decide
  .cases h2
  .have:∀c∈[41,93,44,47,46],N3 c ∉ [(2:Int),3,4]:=by decide
   exact this c h2
 |nu s=>
  intro c hc;rcases d c hc with rfl|h2|h2;. decide
  .cases h2
  .have:∀c∈[41,93,44,47,46],N3 c ∉ [(3:Int)]:=by decide
   exact this c h2
 |wd s=>exact trivial
def Tk2:List Tok->List L3->Prop
|[],[]=>True
|t::ts,x::xs=>AeT t x/\Tk2 ts xs
|_,_=>False
def Bed:∀{ts} {xs},Tk2 ts xs->ts.length=xs.length
|[],[],_=>rfl
|t::ts,x::xs,h=>Jh _ (Bed h.2)
def Bky:∀{ts} {xs} {a},Tk2 ts xs->AaO (a++ts) a.length xs
|[],[],a,_=>trivial
|t::ts,x::xs,a,h=>by refine⟨⟨t,by simp,h.1⟩,?_⟩;have:=Bky (a:=a++[t]) h.2;grind
def Bkz{t}{x}(h:AeT t x):t.k=5/\Ar8 x=true\/t.k≠5/\Ar8 x=false:=by cases x with
|sg s=>exact .inl ⟨h.1,rfl⟩
|kw s=>exact .inr ⟨by rw[h.1];simp,rfl⟩
|nm s=>exact .inr ⟨by rw[h.1];simp,rfl⟩
|nu s=>exact .inr ⟨by rw[h.1];simp,rfl⟩
|wd s=>exact .inr ⟨by rw[h.1];decide,rfl⟩
open Tryz
attribute [local irreducible] Aa Al Af Ad
variable (Z cx:Ac)(N:Nat)
variable {h hd:H}{s:List Nat}{w:AV}{b c bo l:Nat}{acc:List Tok}{t:Tok}{F:AO}
structure Rst(bo l:Nat)(F:AO)(h hd:H)(w:AV)(acc:List Tok):Prop where
 g:PX2 bo l h hd
 gb:hd.m.get bo=AeK 125 w
 gl:hd.m.get l=F
 o:Fm 4 h.nx 160 hd w acc.length (acc.flatMap Aez)
def Rst.gr{h1}(k:Rst bo l F h hd w acc)(g:Ai hd h1)(a:bo<h.nx)(d:l<h.nx):Rst bo l F h h1 w acc:=
 ⟨k.g.gr g,(g.Cf _ (Xq a k.g.lo)).trans k.gb,(g.Cf l (Xq d k.g.lo)).trans k.gl,k.o.gr g⟩
def Bhe(Z:Ac)(bo l:Nat)(F:AO):Prop:=∀(h hd:H) (w:AV) (acc:List Tok) (t:Tok),bo<h.nx->l<h.nx->Rst bo l F h hd w acc->acc.length<=2000 ->
 Ah H0 (λr h'=>r=.bool true/\(∃w',Rst bo l F h h' w' (acc++[t]))/\hd.nx<=h'.nx/\(∀c cs,c≠bo->c≠l->Nv hd c cs->Nv h' c cs)) (Z.round l [.agg (Aez t),iI 0] hd)
def Brb{Q R}{K}{args}(d:Ah H0 R (Z.round l args hd))(e:∀v h1,R v h1->Ah H0 Q (K v h1)):Ah H0 Q (Aa (cvV (.fn (.yield l) [] []) args prog Z hd) K):=by have⟨v,_,h2,_,a⟩:=d;exact Ey (show cvV _ _ _ Z _=_ from h2) (e v _ a)
structure Lx0(b c bo l:Nat)(s:List Nat)(h:H):Prop where
 sc:Sc0 b s h
 gc:h.m.get c=.cells [.ptr b 0] 233 .exact
 lc:c<h.nx
 gk:S0 h
 nb:b≠bo/\b≠l/\c≠bo/\c≠l/\0≠bo/\0≠l
 nz:0<h.nx
 nt:∀st,h.m.get bo≠.Fb st/\h.m.get l≠.Fb st
def Lx0.px(k:Lx0 b c bo l s h)(g:PX2 bo l h hd)(q:∀st,hd.m.get bo≠.Fb st/\hd.m.get l≠.Fb st):Lx0 b c bo l s hd:=by have⟨u,f,o,i,n,j⟩:=k.nb;refine⟨⟨(g.Cf b k.sc.lt u f).trans k.sc.g,Xq k.sc.lt g.lo,k.sc.by',k.sc.Mu⟩,(g.Cf c k.lc o i).trans k.gc,Xq k.lc g.lo,?_,k.nb,Xq k.nz g.lo,q⟩;have⟨e,r,p,a⟩:=k.gk.cells;refine⟨Xq k.nz g.lo,e,_,(g.Cf 0 k.nz n j).trans p,?_⟩;cases r with
|Cf c st=>refine⟨Xq a.1 g.lo,?_⟩;rw[g.Cf c a.1 (λd=>(k.nt _).1 (d ▸ a.2)) λd=>(k.nt _).2 (d ▸ a.2)];exact a.2
|_=>trivial
def Bn0(a:A4K Z){n}{t3}{pre}{p}{xs}{Q}{f0}(k:Lx0 b c bo l s hd)(f:s=pre++jn (some p) xs)(m:∀x∈xs,Ah9 x)
 (go:∀h1 f0,Ai hd h1->Ah H0 Q (AqT Z N n (.fn (.yield l) [] []) (.ptr c 0) (iI t3) (iI (pre++jm (some p) xs).length) f0 h1)):
 Ah H0 Q (AwL Z N n (.fn (.yield l) [] []) (.ptr c 0) (iI t3) (iI pre.length) f0 hd):=by have hc:=k.gc;rw[Bif]at f;have d:=λw j (i:R0 1 _ j w _) g=>a b s w _ _ _ _ _ i (by simp) (k.sc.gr g) f (BrE _ _) (Bid m);rw[<- X8]at d;rw[Bmr];refine wk ?_;have e:Ai _ (hd.new (.cells [iI 1] 234 .exact)):=(Ai.refl _).new _;refine Fj (d _ _ (Sl.lit (Bf _) rfl rfl) e) λu h2 r v q o=>?_;subst o;exact(show ∀h1 f0,_ from go) _ _ (e.trans r)
def BkG(g:Bhe Z bo l F)(f:bo<h.nx)(q:l<h.nx){n a}{e1 i}{f0}{Q}{e}
 (kd:Rst bo l F h hd w acc) (hlen:acc.length<=2000) (ha:hd.m.get a=.cells (Aez t) 160 .exact) (B6:a<hd.nx) (Kf:h.nx<=a) (kx:decide (t.k=5)=e)
 (go:∀h1 w' f0,Rst bo l F h h1 w' (acc++[t])->Ah H0 Q (AwL Z N n (.fn (.yield l) [] []) (.ptr c 0) (iI (if e=true then -1 else e1)) (iI e1) f0 h1)):
 Ah H0 Q (AwK Z N n (.fn (.yield l) [] []) (.ptr c 0) (iI i) (.ptr a 0) (iI e1) (iI 0) f0 hd):=by rw[Bmp];refine wk ?_;rw[Bmq];refine wk (Brb Z (g h _ w _ t f q kd hlen) λu h2 p=>?_);have⟨_,⟨_,d⟩,_,j⟩:=p;have r:=(j a _ om om ⟨B6,_,_,ha,trivial⟩).one (o:=0) rfl;cases e with
 |true=>exact wk ((show ∀h1 w' f0,_ from go) _ _ _ d)
 |false=>exact wk ((show ∀h1 w' f0,_ from go) _ _ _ d)
def Bn4(L:Bm8 Z)(J:A4K Z)(V:Bhe Z bo l F)(hF:∀st,F≠.Fb st)(k:Lx0 b c bo l s h)(R:bo<h.nx)(P:l<h.nx){n:Nat}{t3:Int}{pre:List Nat}{xs:List L3}{f0:L2}{Q:AV->H->Prop}
 (p:Rst bo l F h hd w acc) (hlen:acc.length<=2000) (hs:s=pre++jb (j::xs)) (hx:∀y∈j::xs,Ah9 y) (A:Ar8 j=false->t3≠(pre.length:Int))
 (go:∀(t:Tok) (a:Int) (h1:H) (f0:L2) (w':AV),AeT t j->Rst bo l F h h1 w' (acc++[t])->(∀y∈xs.head?,Ar8 y=false->a≠(((pre++lt j)++jm (some j) xs).length:Int))->Ah H0 Q (AqT Z N n (.fn (.yield l) [] []) (.ptr c 0) (iI a) (iI (((pre++lt j)++jm (some j) xs).length:Nat)) f0 h1)):
 Ah H0 Q (AqT Z N (n+1) (.fn (.yield l) [] []) (.ptr c 0) (iI t3) (iI (pre.length:Int)) f0 hd):=by
 have nt:∀{hd w acc},Rst bo l F h hd w acc->∀st,hd.m.get bo≠.Fb st/\hd.m.get l≠.Fb st:=λp st=>⟨λi=>(by rw[p.gb]at i;cases i),λi=>hF st (p.gl ▸ i)⟩;have o:=k.px p.g (nt p);obtain⟨y0,yr,G,_⟩:=Bix (hx j (Uq ..));have Z3:s.length=pre.length+((lt j).length+(jn (some j) xs).length):=by rw[hs];show(pre++(lt j++jn (some j) xs)).length=_;rw[X8,X8]
 have u:0<(lt j).length:=by rw[G];exact en _
 have k1:decide ((pre.length:Int)<(s.length:Int))=true:=dt;have S:decide (pre.length<s.length)=true:=dt;have U:=λi (g:Ai hd i)=>L b s pre (jn (some j) xs) j i (o.sc.gr g) (o.gk.By g.keeps) hs (hx j (Uq ..)) (BzZ (hx j (Uq ..)) λy hy=>hx y (Vo _ hy));have hc:=o.gc;have C:=o.lc;have hlb:=o.sc.lt;have M:s=(pre++lt j)++jn (some j) xs:=by rw[Rq];exact hs
 obtain⟨cs,gS,e0,_⟩:=Ag0 o.sc (show 0<256 by decide)
 rw[<- X8]at U;have f:=λ(t3:Int) (h1:H) (w':AV) (I:List Tok) (D:Rst bo l F h h1 w' I) (f0:L2) go=>Bn0 Z N (Q:=Q) (n:=n) (t3:=t3) (f0:=f0) J (k.px D.g (nt D)) M (λy hy=>hx y (Vo _ hy)) go;have B5t:((pre++lt j).length:Int)<=2000:=by have:=k.sc.Mu;rw[X8];omega
 have e:∀a:Int,(Ar8 j=true/\a=-1)\/(Ar8 j=false/\a=((pre++lt j).length:Int))->∀y∈xs.head?,Ar8 y=false->a≠(((pre++lt j)++jm (some j) xs).length:Int):=by
  intro a h1 y hy u;rcases h1 with⟨_,rfl⟩|⟨h1,rfl⟩
  .omega
  .cases xs with
   |nil=>cases hy
   |cons y' r=>cases hy;rw[X8 (bs:=jm _ _),Bie h1 u];omega
 replace go:=(show F5 _ from go);replace f:=(show F5 _ from f);replace e:=(show F5 _ from e);generalize (((pre++lt j)++jm (some j) xs).length:Int)=e2 at *;generalize ((pre++lt j).length:Int)=e1 at *;have E:(Ar8 j=true/\0=0)\/(Ar8 j=false/\decide (t3=(pre.length:Int))=false):=by grind
 have Kf:=p.g.lo;generalize (pre.length:Int)=pi at *;clear A k hs M Z3 G u hx;have gH:Ai hd hd:=Ai.refl hd;rw[BcU];refine wk ?_;refine Fj (U _ gH) λv1 h2 K W B Y=>?_;obtain⟨t,rfl,A⟩:=Y;have gc2:=(B c C).trans hc;have T:=p.gr K R P;have B8Z:c<h2.nx:=Xq C W;clear gS hc U B k1 S e0 o;have gH2:Ai hd h2:=K;have gN:Ai h2 ((h2.new (.cells [iI 0,.str [],iI 0,iI 0] 160 .exact)).put h2.nx (.cells (Aez t) 160 .exact)):=((Ai.refl h2).new _).put _ _ (Yw _);have d:∀v f0,decide (t.k=5)=v->((Ar8 j=true/\(if v=true then -1 else e1)=-1)\/(Ar8 j=false/\(if v=true then -1 else e1)=e1))->Ah H0 Q (AwK Z N n (.fn (.yield l) [] []) (.ptr c 0) (iI pi) (.ptr h2.nx 0) (iI e1) (iI 0) f0 ((h2.new (.cells [iI 0,.str [],iI 0,iI 0] 160 .exact)).put h2.nx (.cells (Aez t) 160 .exact))):=λv f0 z h3=>BkG Z N V R P (T.gr gN R P) hlen (A2 _ _) (Up _) (Vr Kf W) z λh1 w' f0 O=>(show ∀(t3:Int) (h1:H) (w':AV) (I:List Tok),_ from f) _ h1 w' _ O f0 λX f0 g=>(show ∀(t:Tok) (a:Int) (h1:H) (f0:L2) (w':AV),_ from go) t _ X f0 w' A (O.gr g R P) ((show ∀(a:Int),_ from e) _ h3);replace d:=(show F5 _ from d);clear go f e V L J;rcases E with⟨E,_⟩|⟨E,kx2⟩
 .have q:t.k=5:=by rcases Bkz A with h|h<;>simp_all
  have z:decide (t.k=5)=true:=Ws q;have x:=(show F5 _ from(show ∀v f0,_ from d) true · z (.inl ⟨E,rfl⟩));clear d;refine wk ?_;exact(show ∀f0,_ from x) _
 .have q:t.k≠5:=by rcases Bkz A with h|h<;>simp_all
  have z:decide (t.k=5)=false:=Xn q;have x:=(show F5 _ from(show ∀v f0,_ from d) false · z (.inr ⟨E,rfl⟩));clear d;refine wk ?_;exact(show ∀f0,_ from x) _
def BdP(f:Bm8 Z)(e:A4K Z)(D:Bhe Z bo l F)(A:∀st,F≠.Fb st)(k:Lx0 b c bo l s h)(o:bo<h.nx)(E:l<h.nx):
 ∀(xs:List L3) (pre:List Nat) (t3:Int) (acc:List Tok) (w:AV) (hd:H) (n:Nat) (f0:L2),Rst bo l F h hd w acc->s=pre++jb xs->(∀y∈xs,Ah9 y)->(∀x∈xs.head?,Ar8 x=false->t3≠(pre.length:Int))->acc.length+xs.length<=2000->xs.length<n ->
  Ah H0 (λr h'=>r=.Bj []/\∃w' ts,Rst bo l F h h' w' (acc++ts)/\Tk2 ts xs) (AqT Z N n (.fn (.yield l) [] []) (.ptr c 0) (iI t3) (iI (pre.length:Int)) f0 hd)
 |[],pre,t3,acc,w,hd,n,f0,j,d,p,u,hlen,hn=>by
  obtain⟨a,rfl⟩:∃a,n=a+1:=⟨n-1,by omega⟩;have nt:∀st,hd.m.get bo≠.Fb st/\hd.m.get l≠.Fb st:=λst=>⟨λq=>(by rw[j.gb]at q;grind),λq=>A st (j.gl ▸ q)⟩;have i:=k.px j.g nt;have e1:pre.length=s.length:=by rw[d];simp[jb]
  have O:decide ((pre.length:Int)<(s.length:Int))=false:=df;have R:decide (pre.length<s.length)=false:=df;have hc:=i.gc;have I:=i.lc;have J:=i.sc.lt;obtain⟨cs,Q,P,_⟩:=Ag0 i.sc (show 0<256 by decide);clear d i p u;rw[BcU];refine wk ?_;refine Lo ⟨Jv _,λb o=>absurd o (dx b),λx _=>.inr (Jv x)⟩ ⟨rfl,w,[],by grind,trivial⟩
 |x::xs,pre,t3,acc,w,hd,n,f0,j,d,p,u,hlen,hn=>by obtain⟨a,rfl⟩:∃a,n=a+1:=⟨n-1,by omega⟩;have G:=BdP f e D A k o E xs;simp only[R6]at hlen hn;refine Bn4 Z N f e D A k o E j om d p (u x rfl) λt B h1 f0 w' z v C=>?_;refine(G _ B (acc++[t]) w' h1 a f0 v ?_ (λy hy=>p y (Vo _ hy)) C (by grind) om).mono λr h' _ ⟨L,w2,ts,M,K⟩=>⟨L,w2,t::ts,by grind,z,K⟩;rw[d,show jb (x::xs)=lt x++jn (some x) xs from rfl,Bif];simp
def BtC(Z:Ac)(s:List Nat)(xs:List L3)(b c bo l:Nat)(F:AO):Prop:=∀(h:H),Lx0 b c bo l s h->bo<h.nx->l<h.nx->h.m.get bo=AeK 125 .Bv->h.m.get l=F ->
 Ah H0 (λr h'=>r=.Bj []/\∃w' ts,Rst bo l F h h' w' ts/\Tk2 ts xs) (Z.call 215 [.fn (.yield l) [] [],.ptr c 0] h)
def Bkf h:PX2 bo l h h:=by
 refine⟨h.m.get bo,h.m.get l,Yw _,λc hc=>?_,λx a=>.inl (Vo _ (Vo _ a))⟩;by_cases e:c=l;. simp[*]
 .by_cases e:c=bo;. simp_all
  simp_all
def B2X(K:2000<N)(f:Bm8 Z)(a:A4K Z)(z:Bhe Z bo l F)(E:∀st,F≠.Fb st){xs:List L3}(n:s=jn none xs)(v:∀y∈xs,Ah9 y)(u:xs.length<=2000)(k:Lx0 b c bo l s h)(p:bo<h.nx)(o:l<h.nx)(gb:h.m.get bo=AeK 125 .Bv)(gl:h.m.get l=F):
 Ah H0 (λr h'=>r=.Bj []/\∃w' ts,Rst bo l F h h' w' ts/\Tk2 ts xs) (Ay prog Z N true 215 [.fn (.yield l) [] [],.ptr c 0] h):=by
 have hc:=k.gc;have C:=k.lc;have h0:jm none xs=[]:=by cases xs<;>rfl
 have d:s=[]++([]++jb xs):=by rw[n,Bif,h0];rfl
 have D:=λ(w:AV) (e:H) (G:R0 1 Ane e w [1]) (g:Ai h e)=>a b s w [1] [] [] (jb xs) e G fe (k.sc.gr g) d (by simp) (Bid v);have i:=BdP Z N f a z E k p o xs [] (-1) [] .Bv;have j:Rst bo l F h h .Bv []:=⟨Bkf h,gb,gl,Fm.nil ..⟩;replace i:=(show F5 _ from λhd f0 j=>i hd N f0 j (by simp_all) v (by simp) (by grind) om);clear n d h0;rw[Bz1];refine wk ?_;have q:Ai h (h.new (.cells [iI 1] 234 .exact)):=(Ai.refl h).new _;refine Fj (D _ _ (Sl.lit (Bf _) rfl rfl) q) λJ h2 B L A I=>?_;have:=(show ∀hd f0,_ from i) _ (fz Az [8,9,10] [.ptr b 0,.sl h.nx 0 1 1 1 true,iI 0]) (j.gr (q.trans B) p o);simp_all
def Bpi:Prop:=∀(h:H),Ah h (λr _=>r=.agg Aue) (Z.call 151 [] h)
def BtB:Prop:=∀(b:Nat) (h:H),Ah h (λr h1=>r=.fn (.func 215) [] [.ptr h.nx 0]/\h1.nx=h.nx+1/\h1.m.get h.nx=.cells [.ptr b 0] 233 .exact) (Z.call 152 [.ptr b 0] h)
def B2C b:Ah h (λr h1=>r=.fn (.func 215) [] [.ptr h.nx 0]/\h1.nx=h.nx+1/\h1.m.get h.nx=.cells [.ptr b 0] 233 .exact) (Ay prog Z N true 152 [.ptr b 0] h):=by rw[Bzd];exact Ey rfl (Lo ((Ai.refl h).new _) ⟨rfl,rfl,Bf _⟩)
def Bp6 s hh:B7 ([.str []]++List.replicate 257 (iI 0)) [(0,1,.str s),(2,256,.agg Aue)] hh=.ok (.agg (.str s::iI 0::Aue)) hh:=rfl
def Bp7 L hh:Oy 238 (.agg L) hh=.ok (.ptr hh.nx 0) (hh.new (.cells L 238 .exact)):=rfl
abbrev FL(x0 x1 x2 x3 x4 x8 x9 x10 x12:AV)(bo:Nat):AO:=.loop 0 none (rFR x0 x1 x2 x3 x4 x8 x9 x10 (.ptr bo 0) x12) [18,19] rAS rBD
def Bw4{cap}{d}{a bd}{fr}{E}:rgX prog Z (.fn (.func 215) [] cap) d a bd fr E h=Aa (Z.call 215 (.fn (.yield (h.nx+1)) [] []::cap) ((h.new (.dfr false)).new (.loop 0 none fr d a bd))) λ_ h1=>AyT (h.nx+1) E h1:=rfl
def Biw{p}{fr}{d}{a bd}{E}(e:h.m.get l=.loop 0 p fr d a bd):AyT l E h=E p (h.put l (.loop 3 p fr d a bd)):=by unfold AyT;rw[e];rfl
def BqJ{r}{k}(a:h.m.get r=.dfr false):dfE r k h=k (h.put r (.dfr true)):=by unfold dfE;grind
def Bbk{n r}{j}:Big none n r j h=n h:=rfl
def Bn1{x}{ty}(d:h.m.get b=AeK ty w)(a:Ge x=true/\cellsOf x=some [x]):A4 1 (.ptr b 0) x h=.ok (.Bj []) (h.put b (AeK ty x)):=by simp[Adt,a.2,AiA,Auc,Awo,a.1,eh,R6,Gx,Rx,and_self,Jr];simp[d,lw]
def BnD{a b}{e j}{x}{cb}{nb}(f:h.m.get a=.cells [x] e .exact)(d:h.m.get b=.cells cb j .exact)(lb:nb=cb.length):Vk [.c (some none) (.ptr a 0),.c (some (some nb)) (.ptr b 0)] h=.ok (.Bj [x,.agg cb]) h:=by
 have g:AyY (some none) (.ptr a 0) h=some x:=by
  have h1:h.rd a=some [x]:=by rw[AaS,f];rfl
  show(match h.rd a with|some c=>Tn _ c 0|none=>none)=some x;simp[*]
 have i:AyY (some (some nb)) (.ptr b 0) h=some (.agg cb):=by show(match h.rd b with|some c=>Tn _ c 0|none=>none)=some _;rw[(by rw[AaS,d];rfl:h.rd b=some _)];show(Nf _ 0 _).map _=_;rw[E5,W5 om,lb,Cp,cg];rfl
 show(match match AyY _ _ h,match AyY _ _ h,(some _:Option (List AV))with|some v,some l=>some _|_,_=>none with|some v,some l=>some (v::l)|_,_=>none with|some l=>OR.ok _ h|none=>.bad _)=_;rw[g,i];rfl
def Bny{h0 h1}(d:Ai h0 h)(g:PX2 bo l h h1)(a:h0.nx<=bo)(e:h0.nx<=l):Ai h0 h1:=by have⟨X,Y,g⟩:=g;exact((d.put _ X a).put l Y e).trans g
def Bnu{a lo len r}{et}{v}{cs}{Y}{f}(g:Fm a lo et h v len cs)(i:r<lo)(j:h.m.get r=.dfr f):Fm a lo et (h.put r Y) v len cs:=
 Atp g i λcs e k d=>by grind λst d=>by grind
def B2v(G:Bpi Z)(C:BtB Z){xs:List L3}(E:∀(b c bo l:Nat) (x0 x1 x2 x3 x4 x8 R x10 x12:AV),bo≠l->BtC Z s xs b c bo l (FL x0 x1 x2 x3 x4 x8 R x10 x12 bo))(hG:S0 h)(hs:s.length<=2000)(T:∀c∈s,c<256):
 Ah h (λr h1=>∃v l et,r=.Bj [v,.agg [iI 0,iI 0]]/\Fm 4 h.nx et h1 v l.length (l.flatMap Aez)/\l.length=xs.length/\AaO l 0 xs) (Ay prog Z N false 100 [.str s] h):=by
 rw[ByM];have k1:decide ((2000:Int)<(s.length:Int))=false:=df;have k2:decide (2000<s.length)=false:=df;refine wk ?_;refine Fj (G _) λv1 h2 e2 l2 q q2=>?_;subst q2;have Q:=Bp6 s;have xc:=Bp7 (.str s::iI 0::Aue);obtain⟨L,U⟩:∃L,L=(AV.str s::AV.int .i64 0::Aue):=⟨_,rfl⟩;rw[<- U]at Q xc;have R:L[0]?=some (.str s):=by subst U;rfl
 refine Ey (Q _) (Ey (xc _) ?_);refine wk ?_;refine Fj (C _ _) λv1 d X l3 n q3=>?_;obtain⟨rfl,n3,P⟩:=q3;have W:Ai h ((h.new (.cells [.Bv] 125 .exact)).new (.cells [iI 0,iI 0] 99 .exact)):=((Ai.refl h).new _).new _;have Y:=W.trans e2;have A:=((Y.new (.cells (AV.str s::AV.int .i64 0::Aue) 238 .exact)).new (.cells [.Bv] 125 .exact)).trans X;simp only[C9]at n3 P l2 q;have gb:d.m.get h2.nx=.cells (AV.str s::AV.int .i64 0::Aue) 238 .exact:=by rw[n h2.nx (by simp only[C9];omega),Cq _ _ (by simp only[C9];omega)];exact Bf _
 have B:d.m.get (h2.nx+1)=.cells [.Bv] 125 .exact:=by rw[n (h2.nx+1) (by simp only[C9];omega)];exact Bf (h:=h2.new _) _
 have I:d.m.get h.nx=.cells [.Bv] 125 .exact:=by rw[n h.nx (by simp only[C9];omega),Cq _ _ (by simp only[C9];omega),Cq _ _ om,q h.nx om,Cq _ _ (by simp only[C9];omega)];exact Bf _
 have J:d.m.get (h.nx+1)=.cells [iI 0,iI 0] 99 .exact:=by rw[n (h.nx+1) (by simp only[C9];omega),Cq _ _ (by simp only[C9];omega),Cq _ _ om,q (h.nx+1) om];exact Bf (h:=h.new _) _
 have K:=hG.By A.keeps;clear n q X l3 Q xc U R G C e2 W;rw[Bw4];simp only[C9];obtain⟨f,y⟩:∃f,f=rFR (.str s) (.ptr h.nx 0) (.ptr (h.nx+1) 0) (iI s.length) (.bool false) (.agg Aue) (.agg L) (.ptr h2.nx 0) (.ptr (h2.nx+1) 0) (.fn (.func 215) [] [.ptr (h2.nx+1+1) 0]):=⟨_,rfl⟩;have O:=E h2.nx (h2.nx+1+1) (h2.nx+1) (d.nx+1) (.str s) (.ptr h.nx 0) (.ptr (h.nx+1) 0) (iI s.length) (.bool false) (.agg Aue) (.agg L) (.ptr h2.nx 0) (.fn (.func 215) [] [.ptr (h2.nx+1+1) 0]) om ((d.new (.dfr false)).new (.loop 0 none f [18,19] rAS rBD));unfold FL at O;rw[<- y]at O;change Ah h _ (Aa (Z.call 215 _ ((d.new (.dfr false)).new (.loop 0 none (rFR (.str s) (.ptr h.nx 0) (.ptr (h.nx+1) 0) (iI s.length) (.bool false) (.agg Aue) (.agg L) (.ptr h2.nx 0) (.ptr (h2.nx+1) 0) (.fn (.func 215) [] [.ptr (h2.nx+1+1) 0])) [18,19] rAS rBD))) _);rw[<- y];clear E y;have u:Ai d ((d.new (.dfr false)).new (.loop 0 none f [18,19] rAS rBD)):=((Ai.refl d).new _).new _;have z:((d.new (.dfr false)).new (.loop 0 none f [18,19] rAS rBD)).m.get (d.nx+1)=.loop 0 none f [18,19] rAS rBD:=Bf (h:=d.new _) _;have D:((d.new (.dfr false)).new (.loop 0 none f [18,19] rAS rBD)).m.get d.nx=.dfr false:=by simp_all
 have n4:((d.new (.dfr false)).new (.loop 0 none f [18,19] rAS rBD)).nx=d.nx+2:=rfl;generalize ((d.new (.dfr false)).new (.loop 0 none f [18,19] rAS rBD))=h4 at *
 have k4:Lx0 h2.nx (h2.nx+1+1) (h2.nx+1) (d.nx+1) s h4:=by
  refine⟨⟨(u.Cf _ om).trans gb,by omega,T,hs⟩,(u.Cf _ om).trans P,by omega,K.By u.keeps,by omega,by omega,λst=>⟨λj=>?_,λj=>?_⟩⟩
  .rw[u.Cf _ om,B]at j;cases j
  .rw[z]at j;cases j
 obtain⟨v5,i,q5,_,_,w',ts,p,kT⟩:=O k4 om om ((u.Cf _ om).trans B) z;refine Ey q5 ?_;have g5:Ai h i:=Bny (A.trans u) p.g om om;have p1:i.m.get h.nx=.cells [.Bv] 125 .exact:=by rw[p.g.Cf _ om om om,u.Cf _ om,I]
 have p2:i.m.get (h.nx+1)=.cells [iI 0,iI 0] 99 .exact:=by rw[p.g.Cf _ om om om,u.Cf _ om,J]
 have p3:i.m.get d.nx=.dfr false:=by rw[p.g.Cf _ om om om,D]
 have l5:=p.g.lo;have V:=p.gb;have M:=p.gl;have p6:=p.o;have P4:h.nx+2<=h2.nx:=l2;clear p u z D k4 O q5 I J K gb B P A Y hG;rw[Biw M,Bbk];have g6:Ai h (i.put (d.nx+1) (.loop 3 none f [18,19] rAS rBD)):=g5.put _ _ om;have S:Fm 4 h4.nx 160 (i.put (d.nx+1) (.loop 3 none f [18,19] rAS rBD)) w' ts.length (ts.flatMap Aez):=Atp p6 om (λcs e k j=>by rw[M]at j;cases j) (λst j=>by rw[M]at j;cases j);have r1:(i.put (d.nx+1) (.loop 3 none f [18,19] rAS rBD)).m.get h.nx=.cells [.Bv] 125 .exact:=by rw[Aq _ _ _ om];exact p1
 have r2:(i.put (d.nx+1) (.loop 3 none f [18,19] rAS rBD)).m.get (h.nx+1)=.cells [iI 0,iI 0] 99 .exact:=by rw[Aq _ _ _ om];exact p2
 have r3:(i.put (d.nx+1) (.loop 3 none f [18,19] rAS rBD)).m.get d.nx=.dfr false:=by rw[Aq _ _ _ om];exact p3
 have r4:(i.put (d.nx+1) (.loop 3 none f [18,19] rAS rBD)).m.get (h2.nx+1)=AeK 125 w':=by rw[Aq _ _ _ om];exact V
 have r5:(i.put (d.nx+1) (.loop 3 none f [18,19] rAS rBD)).nx=i.nx:=rfl;generalize (i.put (d.nx+1) (.loop 3 none f [18,19] rAS rBD))=h6 at *;clear p1 p2 p3 V M p6 g5;have c4:Nv h6 (h2.nx+1) [w']:=⟨by omega,_,_,r4,trivial⟩;refine Ey (c4.one (o:=0) rfl h6 (Bi.refl _)) ?_;refine Ey (Bn1 r1 (B2 S.sl)) ?_;have o7:Fm 4 h4.nx 160 (h6.put h.nx (AeK 125 w')) w' ts.length (ts.flatMap Aez):=Fm.To (l:=[w']) (e1:=125) S om (by rw[r1];rfl);have g7:Ai h (h6.put h.nx (AeK 125 w')):=g6.put _ _ (Yw _);have s1:(h6.put h.nx (AeK 125 w')).m.get h.nx=.cells [w'] 125 .exact:=A2 _ _;have s2:(h6.put h.nx (AeK 125 w')).m.get (h.nx+1)=.cells [iI 0,iI 0] 99 .exact:=by rw[Aq _ _ _ om];exact r2
 have s3:(h6.put h.nx (AeK 125 w')).m.get d.nx=.dfr false:=by rw[Aq _ _ _ om];exact r3
 have s5:(h6.put h.nx (AeK 125 w')).nx=i.nx:=r5;generalize (h6.put h.nx (AeK 125 w'))=h7 at *;clear r1 r2 r3 r4 r5 c4 S g6;have y1:A4 2 (.ptr (h.nx+1) 0) (.agg [iI 0,iI 0]) h7=.ok (.Bj []) (h7.put (h.nx+1) (.cells [iI 0,iI 0] 99 .exact)):=by simp[s2,lw]
 refine Ey y1 ?_;have t3:(h7.put (h.nx+1) (.cells [iI 0,iI 0] 99 .exact)).m.get d.nx=.dfr false:=by rw[Aq _ _ _ om];exact s3
 have o8:Fm 4 h4.nx 160 (h7.put (h.nx+1) (.cells [iI 0,iI 0] 99 .exact)) w' ts.length (ts.flatMap Aez):=Fm.To (l:=[iI 0,iI 0]) (e1:=99) o7 om (by rw[s2];rfl);rw[BqJ t3];have u1:((h7.put (h.nx+1) (.cells [iI 0,iI 0] 99 .exact)).put d.nx (.dfr true)).m.get h.nx=.cells [w'] 125 .exact:=by rw[Aq _ _ _ om,Aq _ _ _ om];exact s1
 have u2:((h7.put (h.nx+1) (.cells [iI 0,iI 0] 99 .exact)).put d.nx (.dfr true)).m.get (h.nx+1)=.cells [iI 0,iI 0] 99 .exact:=by rw[Aq _ _ _ om];exact A2 _ _
 rw[BnD (nb:=2) u1 u2 rfl];exact Lo ((g7.put _ _ om).put _ _ om) ⟨w',ts,160,rfl,(Bnu o8 om t3).one om,Bed kT,by simpa using Bky (a:=[]) kT⟩
end Go.Proofs

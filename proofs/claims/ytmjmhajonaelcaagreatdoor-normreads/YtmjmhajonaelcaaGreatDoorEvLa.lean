/- What the operations' methods, truth and the classes of bytes come to: a table; the context of the texts' functions. -/
import Derived.Test.YtmjmhajonaelcaaGreatDoorEvPc
set_option linter.all false
set_option maxRecDepth 100000
noncomputable section
namespace Go.Nm
open Go.Ev
def N3(c:Nat):Int:=if 97<=c/\c<=122 then 2 else if 48<=c/\c<=57 then 3 else if c=32 then 1 else if c=95 then 4 else if c=39 then 5 else 0
def lt:L3->uq
|.sg s=>s
|.kw s=>s
|.nm s=>s
|.nu n=>V8 n
|.wd s=>39::s++[39]
def glA:L3->Bool
|.sg s=>decide (s∈[[40],[91],[47],[46,46]])
|_=>false
def glB:L3->Bool
|.sg s=>decide (s∈[[41],[93],[44],[47],[46,46]])
|_=>false
def sep:Option L3->L3->Bool
|none,_=>false
|some p,x=>!glA p&&!glB x
def jn:Option L3->List L3->uq
|_,[]=>[]
|p,x::r=>(if sep p x then[32]else[])++(lt x++jn (some x) r)
def Sgs:List uq:=[[40],[41],[91],[93],[43],[45],[42],[47],[44],[61],[33,61],[60],[60,61],[62],[62,61],[46,46]]
def jb:List L3->uq
|[]=>[]
|y::r=>lt y++jn (some y) r
def jm(p:Option L3):List L3->uq
|[]=>[]
|y::_=>if sep p y then[32]else[]
def Bif p r:jn p r=jm p r++jb r:=by cases r<;>rfl
def Ar8:L3->Bool
|.sg _=>true
|_=>false
def BrE p r:∀c∈jm p r,N3 c∈[1]:=by intro c hc;cases r with
|nil=>cases hc
|cons y r=>
 replace hc:c∈if sep p y then[32]else[]:=hc;split at hc;. rw[W9.1 hc];decide
 grind
def Bie{x y}{r}(e:Ar8 x=false)(d:Ar8 y=false):(jm (some x) (y::r)).length=1:=by
 have h1:glA x=false:=by cases x<;>first|rfl|cases e
 have a:glB y=false:=by cases y<;>first|rfl|cases d
 show(if sep _ y then[32]else[]).length=1;rw[Xo (by simp[sep,h1,a])];rfl
def jl:Option L3->List L3->Option L3
|p,[]=>p
|_,x::r=>jl (some x) r
def Bbh:∀a b p,jn p (a++b)=jn p a++jn (jl p a) b
|[],b,p=>rfl
|x::a,b,p=>by show(if sep p x then[32]else[])++(lt x++jn _ (a++b))=(if sep p x then[32]else[])++(lt x++jn _ a)++jn (jl _ a) b;rw[Bbh a b _];simp
def BdH:∀a y p,jl p (a++[y])=some y
|[],y,p=>rfl
|x::a,y,p=>BdH a y _
def Bnj a x p:jn p (a++[x])=jn p a++((if sep (jl p a) x then[32]else[])++lt x):=by rw[Bbh];show jn p a++((if sep _ x then[32]else[])++(lt x++[]))=_;simp
def Boy a b p:(jn p a).length<=(jn p (a++b)).length:=by rw[Bbh,Yl];simp
end Go.Nm
namespace Go.Proofs
open Go Go.Ev Go.Nm Tryz Go.Ev.Sx
attribute [local irreducible] Aa Al Af Ad
variable (Z cx:Ac)(N:Nat)
variable {h h1:H}{s:uq}{w:AV}{ks:List Int}
def BtG:Prop:=∀(w:AV) (ks:List Int) (x:Int) (h:H),R0 1 Ane h w ks->ks.length<=5->Ah h (λr _=>∃j,r=iI j/\(0<=j ↔ x∈ks)) (Z.call 135 [w,iI x] h)
def BdT(w:AV)(ks:List Int)(x:Int)(h:H)(g:R0 1 Ane h w ks)(u:ks.length<=5):
 ∀(k i n:Nat) (f0:L2),i+k=ks.length->k<n->x ∉ ks.take i ->
  Ah h (λr _=>∃j,r=iI j/\(0<=j ↔ x∈ks)) (A41 Z N n w (iI x) (iI ks.length) (iI i) f0 h)
 |0,i,n,f0,v,hn,d=>by obtain⟨n1,rfl⟩:∃n1,n=n1+1:=⟨n-1,by omega⟩;have m:decide ((i:Int)<(ks.length:Int))=false:=df;rw[Qa om]at d;rw[Bdh];refine wk ?_;exact zr Ex ⟨-1,rfl,by simp[d]⟩
 |k+1,i,n,f0,v,hn,d=>by
  obtain⟨n1,rfl⟩:∃n1,n=n1+1:=⟨n-1,by omega⟩;have B:=BdT w ks x h g u k (i+1) n1;have m:decide ((i:Int)<(ks.length:Int))=true:=dt;obtain⟨y,a⟩:∃y,ks[i]?=some y:=⟨_,Oh om⟩;obtain⟨A,D,e⟩:=R0.elem (f:=Ane) (s:=1) (λ_=>rfl) g a;have C:=e.ia;have z:=e.part 0 _ rfl;rw[Vw]at z;clear e;rw[Bdh];by_cases k2:x=y;. have q:decide (x=y)=true:=Ws k2;have o:x∈ks:=k2 ▸ Vl a;refine wk ?_;exact zr Ex ⟨i,rfl,by simp[o]⟩
  .have q:decide (x=y)=false:=Yc k2;have p:x ∉ ks.take (i+1):=by rw[Y9,a];simp[d,k2]
   clear a;refine wk ?_;grind
def B3o(e:10<N) x(a:R0 1 Ane h w ks)(d:ks.length<=5):Ah h (λr _=>∃j,r=iI j/\(0<=j ↔ x∈ks)) (mr Z N 135 [w,iI x] h):=by rw[BzJ];exact Ey a.Gs (BdT Z N w _ x h a d ks.length 0 N _ om om (by simp))
def Bpo:Prop:=∀(w:AV) (ks:List Int) (x:Int) (h:H),R0 1 Ane h w ks->ks.length<=5->Ah h (λr _=>r=.bool (decide (x∈ks))) (Z.call 97 [w,iI x] h)
def B3i(a:BtG Z) x(d:R0 1 Ane h w ks)(e:ks.length<=5):Ah h (λr _=>r=.bool (decide (x∈ks))) (mr Z N 97 [w,iI x] h):=by rw[BzB];refine Fj (a w _ x h d e) λi h1 e1 l1 g f=>?_;obtain⟨j,rfl,hj⟩:=f;exact wk (zr Ex rfl)
def Aue:uw:=(List.range 256).map λc=>iI (N3 c)
structure Sc0(b:Nat)(s:List Nat)(h:H):Prop where
 g:h.m.get b=.cells (.str s::iI 0::Aue) 73 .exact
 lt:b<h.nx
 by':∀c∈s,c<256
 Mu:s.length<=2000
def Sc0.gr{b}(k:Sc0 b s h)(g:Ai h h1):Sc0 b s h1:=⟨(g.Cf b k.lt).trans k.g,Xq k.lt g.lo,k.by',k.Mu⟩
def ApQ{b c:Nat}(hc:c<256) hh:AxM 256 1 (.ptr b 2) (cw c) hh=.ok (.ptr b (2+c)) hh:=by show @Bool.rec (λ_=>OR) _ (.ok (.ptr b (2+c*1)) _) _=_;rw[show Nat.blt c _=true by simp[*],ae]
def Ag0{b c}(k:Sc0 b s h)(hc:c<256):∃cs,h.m.get b=cz cs 73/\cs[0]?=some (.str s)/\cs[2+c]?=some (iI (N3 c)):=by refine⟨_,k.g,rfl,?_⟩;rw[show 2+c=c+1+1 by omega,ay,ay];show List.map ..[c]?=_;grind
def BdQ(m:Bpo Z){b:Nat}(y:R0 1 Ane h w ks)(z:ks.length<=5)(k:Sc0 b s h):∀(d pre rest:uq) (n:Nat) (hd:H) (f0:L2),s=pre++(d++rest)->(∀c∈d,N3 c∈ks)->(∀c∈rest.head?,N3 c ∉ ks)->d.length<n->Ai h hd ->
 Ah h (λr _=>r=iI ((pre.length+d.length:Nat):Int)) (A4p Z N n (.ptr b 0) (iI (pre.length:Int)) w f0 hd)
 |[],pre,rest,n,hd,f0,j,hm,p,hn,u=>by
  obtain⟨n1,rfl⟩:∃n1,n=n1+1:=⟨n-1,by omega⟩;have f:=k.gr u;have O:=f.lt;have P:∀(w:Bool) (r:OR) (a:H),Ad (.Bj []) w r a=.ok (.Bj []) a:=λw r a=>A0V [] w r a;rw[BcV];cases rest with
  |nil=>
   have e1:pre.length=s.length:=by rw[j];simp
   have B:decide ((pre.length:Int)<(s.length:Int))=false:=df;have D:decide (pre.length<s.length)=false:=df;obtain⟨cs,g,C,_⟩:=Ag0 f (show 0<256 by decide)
   clear j f k p e1;refine wk ?_;exact zr Ex (by simp)
  |cons c rest=>
   have hc:s[pre.length]?=some c:=by rw[j];simp
   have i:pre.length<s.length:=(Wp.1 hc).1;have B:decide ((pre.length:Int)<(s.length:Int))=true:=dt;have D:decide (pre.length<s.length)=true:=Ws i;have q:c<256:=f.by' c (Vl hc);obtain⟨cs,g,C,v⟩:=Ag0 f q;have M:∀a:H,xIx prog .str (.str s) (iI (pre.length:Int)) a=.ok (cw (c:Int)) a:=λa=>A0l hc;have K:=λa=>ApQ (b:=b) q a;have e:=p c rfl;generalize N3 c=kc at v e;have k2:decide (kc∈ks)=false:=Yc e;clear j f p e hc;refine wk ?_;refine zc2 (m w ks kc _ (y.gr (u.trans Ex)) z) λI G J L o A=>?_;subst A;clear o;refine wk ?_;exact zr Ex (by simp)
 |c::d,pre,rest,n,hd,f0,j,hm,p,hn,u=>by
  obtain⟨n1,rfl⟩:∃n1,n=n1+1:=⟨n-1,by omega⟩;have E:=BdQ m y z k d (pre++[c]) rest n1;have f:=k.gr u;have O:=f.lt;have Q:=f.Mu;have P:∀(w:Bool) (r:OR) (a:H),Ad (.Bj []) w r a=.ok (.Bj []) a:=λw r a=>A0V [] w r a;rw[BcV];have hc:s[pre.length]?=some c:=by rw[j];simp
  have i:pre.length<s.length:=(Wp.1 hc).1;have B:decide ((pre.length:Int)<(s.length:Int))=true:=dt;have D:decide (pre.length<s.length)=true:=Ws i;have q:c<256:=f.by' c (Vl hc);obtain⟨cs,g,C,v⟩:=Ag0 f q;have M:∀a:H,xIx prog .str (.str s) (iI (pre.length:Int)) a=.ok (cw (c:Int)) a:=λa=>A0l hc;have K:=λa=>ApQ (b:=b) q a;have e:=hm c (Wm ..);have go:=λhd f0=>E hd f0 (by rw[j];simp) (λc hc=>hm c (Vo _ hc)) p (by simp at hn;omega);rw[show(pre++[c]).length+d.length=pre.length+(c::d).length by simp;omega,show(((pre++[c]).length:Nat):Int)=(pre.length:Int)+1 by simp]at go;replace go:=(show F5 _ from go);generalize N3 c=kc at v e;have k2:decide (kc∈ks)=true:=Ws e;clear j f p e hc E hm;refine wk ?_;refine zc2 (m w ks kc _ (y.gr (u.trans Ex)) z) λI G J L o A=>?_;subst A;clear o;refine wk ?_;exact(show ∀(hd:H) (f0:L2),_ from go) _ _ Ex
def A4K:Prop:=∀(b:Nat) (s:uq) (w:AV) (ks:List Int) (pre a rest:uq) (h:H),R0 1 Ane h w ks->ks.length<=5->Sc0 b s h->s=pre++(a++rest)->(∀c∈a,N3 c∈ks)->(∀c∈rest.head?,N3 c ∉ ks) ->
 Ah h (λr _=>r=iI ((pre.length+a.length:Nat):Int)) (Z.call 67 [.ptr b 0,iI (pre.length:Int),w] h)
def B2Y(n:3000<N)(d:Bpo Z){b}{pre a rest}(e:R0 1 Ane h w ks)(g:ks.length<=5)(k:Sc0 b s h)(j:s=pre++(a++rest))(f:∀c∈a,N3 c∈ks)(i:∀c∈rest.head?,N3 c ∉ ks):
 Ah h (λr _=>r=iI (pre.length+a.length:Nat)) (mr Z N 67 [.ptr b 0,iI pre.length,w] h):=by
 rw[Bz2];have:=k.Mu;have m:a.length<=s.length:=by grind
 exact BdQ Z N d e g k _ _ _ N h _ j f i om (Ai.refl h)
def Aji{P}{t}{a:List _}{i j}(g:Hp P t=.str)(e:i<=j)(k:j<=a.length) h:xSl P t (.str a) (some (iI i)) (some (iI j)) h=.ok (.str ((a.drop i).take (j-i))) h:=by
 have d:vS (Go.Ev.ev (.tmp 0) (fr Az [(0,.str a),(1,iI i),(2,iI j)]))=.yes a:=by kernel_rfl
 have e1:bnd (fr Az [(0,.str a),(1,iI i),(2,iI j)]) (some (.tmp 1)) 0=some i:=by kernel_rfl
 have f:bnd (fr Az [(0,.str a),(1,iI i),(2,iI j)]) (some (.tmp 2)) (Y2 a)=some j:=by kernel_rfl
 show G5 t _ (some _) (some _) _ 0 P Q7 (fr _ [(0,.str a),(1,iI i),(2,iI _)]) h=_;unfold G5;rw[g];simp[d,e1,f];show @Bool.rec _ _ ..=_;rw[Rf,show Nat.ble j _=true by simp_all,show Nat.ble i j=true by simp[*],Asg,Asc];rfl
def Bhc:Prop:=∀(h:H),Ah h (λr h1=>∃m,r=.sl m 0 16 16 1 true/\Ig h1 (.sl m 0 16 16 1 true) Sgs) (Z.call 84 [] h)
def B2T:Ah h (λr h1=>∃m,r=.sl m 0 16 16 1 true/\Ig h1 (.sl m 0 16 16 1 true) Sgs) (mr Z N 84 [] h):=by rw[Bzw];refine wk ?_;exact zr Ex ⟨_,rfl,Sl.lit (Bf _) rfl rfl⟩
def BdR{b:Nat}{pi a:Int}{sub:uq}{Q:AV->H->Prop}(k:Sc0 b s h)(M:a=1\/a=2)(v:0<=pi/\pi<=3000)(d:∀hh:H,xSl prog 9 (.str s) (some (iI pi)) (some (iI (pi+a))) hh=.ok (.str sub) hh)(w:AV)(n1:Nat){E:H}(r:Ai h E)(G:Ig E w Sgs)
 (A:sub∈Sgs->∀hd,Ai h hd->Q (.Bj [.str sub,uz]) hd) (B:sub ∉ Sgs->∀hd f0,Ai h hd->Ah h Q (AqQ Z N n1 (.ptr b 0) (iI pi) (iI a) f0 hd)):
 ∀(u i n:Nat) (hd:H) (f0:L2),i+u=16->u<n->sub ∉ Sgs.take i->Ai E hd->Ah h Q (A4v Z N n1 n (.ptr b 0) (iI pi) (iI a) w (iI 16) (iI i) f0 hd)
 |0,i,n,hd,f0,hu,hn,m,p=>by
  obtain⟨I,rfl⟩:∃n1,n=n1+1:=⟨n-1,by omega⟩;obtain rfl:i=16:=by omega
  have J:decide (((16:Nat):Int)<16)=false:=by decide
  replace B:=(show F5 _ from B m);have q:=r.trans p;rw[Bdg];clear A d m;refine wk ?_
  exact(show ∀hd f0,Ai h hd->Ah h Q (AqQ Z N n1 (.ptr b 0) (iI pi) (iI a) f0 hd)from B) _ _ Ex
 |u+1,i,n,hd,f0,hu,hn,m,p=>by
  obtain⟨I,rfl⟩:∃n1,n=n1+1:=⟨n-1,by omega⟩;have D:=BdR k M v d w n1 r G A B u (i+1) I;have J:decide ((i:Int)<16)=true:=dt;obtain⟨y,j⟩:∃y,Sgs[i]?=some y:=⟨_,Oh (show i<Sgs.length by simp[Sgs];omega)⟩;obtain⟨R,S,C⟩:=R0.elem (f:=Aeb) (s:=1) (λ_=>rfl) (G.By p.keeps) j;have T:=C.ia;have L:=C.part 0 _ rfl;rw[Vw]at L;have q:=r.trans p;have o:=k.gr q;have U:=o.lt;obtain⟨cs,g,P,_⟩:=Ag0 o (show 0<256 by decide);clear C;replace B:=(show F5 _ from B);rw[Bdg];by_cases k2:y=sub;. have K:decide (y=sub)=true:=Ws k2;have O:sub∈Sgs:=k2 ▸ Vl j;have z:=A O hd q;subst k2;replace z:=(show F5 _ from z);clear A m j D o;refine wk ?_;exact zr q z
  .have K:decide (y=sub)=false:=Yc k2;have e:sub ∉ Sgs.take (i+1):=by rw[Y9,j];grind
   have go:=λhd f0=>D hd f0 om om e;replace go:=(show F5 _ from go);clear A m j D o e;refine wk ?_;rw[show(i:Int)+1=((i+1:Nat):Int)by omega];exact(show ∀hd f0,_ from go) _ _ Ex
def Biz(S:100<N)(j:Bhc Z){b f mn:Nat}{pi e sl:Int}{sub:uq}{Q:AV->H->Prop}(k:Sc0 b s h)(y:pi=(f:Int))(u:e=(mn:Int))(M:sl=(s.length:Int))(z:e=1\/e=2)(n:f+mn<=s.length)(q:(s.drop f).take mn=sub)(n1:Nat)(hd:H)(p:Ai h hd)
 (A:sub∈Sgs->∀hd,Ai h hd->Q (.Bj [.str sub,uz]) hd) (B:sub ∉ Sgs->∀hd f0,Ai h hd->Ah h Q (AqQ Z N n1 (.ptr b 0) (iI pi) (iI e) f0 hd)) (f0:L2):Ah h Q (A4s Z N (n1+1) (.ptr b 0) (iI pi) (iI e) f0 hd):=by
 have v:∀d:H,xSl prog 9 (.str s) (some (iI pi)) (some (iI (pi+e))) d=.ok (.str sub) d:=λd=>by have:=Aji (P:=prog) (t:=9) (a:=s) xi9 (show f<=f+mn by simp) n d;grind
 have E:=k.Mu;have o:=k.gr p;have R:=o.lt;obtain⟨cs,g,I,_⟩:=Ag0 o (show 0<256 by simp);have L:∀d:H,lnS (.str s) d=.ok (iI sl) d:=λd=>by simp_all
 have G:decide (0<e)=true:=dt;have k2:decide (sl<pi+e)=false:=df;replace B:=(show F5 _ from B);replace A:=(show F5 _ from A);rw[Bdf];refine wk (Fj (j _) λK J r O C D=>?_);obtain⟨m,rfl,i⟩:=D;exact wk (BdR Z N k z ⟨by omega,by omega⟩ v _ _ (p.trans (Ai.trans Ex r)) i A B 16 0 N _ _ rfl om (by simp) (Ai.refl _))
def B3l(A:100<N)(e:Bhc Z){b:Nat}{pre sg rest:uq}(k:Sc0 b s h)(D:s=pre++(sg++rest))(i:sg∈Sgs)(m:sg.length=1->∀c∈rest.head?,sg++[c] ∉ Sgs):
 Ah h (λr _=>r=.Bj [.str sg,uz]) (mr Z N 101 [.ptr b 0,iI (pre.length:Int)] h):=by
 rw[BzE];have o:sg.length=1\/sg.length=2:=by
  have:∀x∈Sgs,x.length=1\/x.length=2:=by decide
  exact this sg i
 have z:s.length=pre.length+(sg.length+rest.length):=by simp_all
 have p:s.drop pre.length=sg++rest:=by simp_all
 obtain⟨d,rfl⟩:∃n,N=n+2:=⟨N-2,by omega⟩;have one:sg.length=1->∀(hd:H) (f0:L2),Ai h hd->Ah h (λr _=>r=.Bj [.str sg,uz]) (AqQ Z (d+2) (d+1) (.ptr b 0) (iI (pre.length:Int)) (iI 2) f0 hd):=λh1 hd f0 C=>by rw[Bms];refine wk ?_;exact Biz Z (d+2) A e k rfl (mn:=1) rfl rfl (.inl rfl) om (by grind) d hd C (λ_ _ _=>rfl) (λa=>absurd i a) _
 rcases o with h1|h1
 .by_cases y:rest=[]
  .have B:decide (s.length<pre.length+2)=true:=Ws (by rw[z,h1,y];simp);have u:=k;have K:=u.lt;have E:=u.Mu;obtain⟨cs,g,G,_⟩:=Ag0 u (show 0<256 by decide);obtain⟨pi,f⟩:∃x:Int,x=(pre.length:Int):=⟨_,rfl⟩;obtain⟨sl,j⟩:∃x:Int,x=(s.length:Int):=⟨_,rfl⟩;have J:∀a:H,lnS (.str s) a=.ok (iI sl) a:=λa=>by rw[j];exact A63 s
   have k2:decide (sl<pi+2)=true:=Ws (by simp[*]);have I:0<=pi:=by omega
   have L:pi<=3000:=by omega
   replace one:=(show F5 _ from one h1);rw[<- f];rw[<- f]at one;clear f j B p z m D y u;rw[Bdf];refine wk ?_;exact(show ∀(hd:H) (f0:L2),Ai h hd->_ from one) _ _ Ex
  .obtain⟨c,q,rfl⟩:∃c q,rest=c::q:=by cases rest with|nil=>exact absurd rfl y|cons c q=>exact⟨c,q,rfl⟩
   have v:=m h1 c rfl;exact Biz Z (d+2) A e k rfl (mn:=2) rfl rfl (.inr rfl) (by grind) (sub:=sg++[c]) (by rw[p,List.take_append,h1,Qa om];rfl) (d+1) h (Ai.refl h) (λa=>absurd a v) (λ_ hd f0 g=>one h1 hd f0 g) _
 .exact Biz Z (d+2) A e k rfl (mn:=2) rfl rfl (.inr rfl) (by rw[z,h1];omega) (by simp[*]) (d+1) h (Ai.refl h) (λ_ _ _=>rfl) (λa=>absurd i a) _
abbrev AiS(c:Nat):uw:=[cw (c:Int)]
def Asj:∀s,U2 s=s.flatMap AiS
|[]=>rfl
|c::s=>by show AV.int _ c::U2 s=_;rw[Asj s];rfl
def BkF e(a:s.length<1000000000000) h:BwI e (.str s) h=.ok (.sl (h.nx+1) 0 s.length s.length 1 false) ((h.new (.Fb 0)).new (.cells (s.flatMap AiS) e (.Gt h.nx))):=by show @Bool.rec _ _ ..=_;rw[Rf,Fi,Ws a,Asj]
def Bk7 n(h1:0<=n)(a:n<=255):E1 .u8 n=n:=by
 unfold E1 fits;rw[Il,Il];have e1:¬ n<IntKind.min .u8:=by show ¬ n<0;omega
 have d:¬ IntKind.max .u8<n:=by show ¬ 255<n;omega
 simp[*]
def BdU{D v:AV}{m:Nat}(g:∀c∈s,48<=c/\c<=57)(C:AnE s<=1000000000000000000)(J:s.length<=18)(B:∀e:H,xIx prog .str D (iI 0) e=.ok (cw (m:Int)) e)(L:m≠45)(h:H)(p:R0 1 AiS h v s):
 ∀(u i n:Nat) (f0:L2),i+u=s.length->u<n->Ah h (λr _=>r=.Bj [iI (AnE s:Int),.B3]) (A46 Z N n D (iI (AnE (s.take i):Int)) v (iI s.length) (iI i) f0 h)
 |0,i,n,f0,hu,hn=>by
  obtain⟨n1,rfl⟩:∃n1,n=n1+1:=⟨n-1,by omega⟩;have E:decide ((i:Int)<(s.length:Int))=false:=df;have I:decide (i<s.length)=false:=df;have G:∀e:H,Aj prog .eql 5 true (cw (m:Int)) (cw 45) e=.ok ux e:=λe=>by show OR.ok (.bool (ieq (m:Int) 45)) e=_;rw[X7,Yc om]
  rw[Qa om];rw[Bdj];refine wk ?_;exact zr Ex rfl
 |u+1,i,n,f0,hu,hn=>by
  obtain⟨n1,rfl⟩:∃n1,n=n1+1:=⟨n-1,by omega⟩;have q:=BdU g C J B L h p u (i+1) n1;have E:decide ((i:Int)<(s.length:Int))=true:=dt;have I:decide (i<s.length)=true:=dt;obtain⟨c,hc⟩:∃c,s[i]?=some c:=⟨_,Oh om⟩;obtain⟨R,c2⟩:=g c (Vl hc);obtain⟨M,S,o⟩:=R0.elem (f:=AiS) (s:=1) (λ_=>rfl) p hc;have U:=o.ia;have K:=o.part 0 _ rfl;rw[Vw]at K;have z:=Bel s i;have A:=Bel s (i+1);have k:AnE (s.take (i+1))=AnE (s.take i)*10+(c-48):=by rw[Y9,hc];exact A3l _ _
  obtain⟨a,y⟩:∃a:Int,a=(AnE (s.take i):Int):=⟨_,rfl⟩;obtain⟨d,hd⟩:∃d:Int,d=((c-48:Nat):Int):=⟨_,rfl⟩;have G:∀e:H,Aj prog .sub 5 true (cw (c:Int)) (cw 48) e=.ok (cw d) e:=λe=>by show OR.ok (cw (E1 .u8 ((c:Int)-48))) e=_;rw[show(c:Int)-48=d by omega,Bk7 d om om]
  have V:∀e:H,Aj prog .gtr 5 true (cw d) (cw 9) e=.ok ux e:=λe=>by show OR.ok (.bool (ilt 9 d)) e=_;rw[Il,Yc om]
  have Q:∀e:H,A6r .i64 (cw d) e=.ok (iI d) e:=λe=>by rw[Awb,Cr d om om]
  have j:(AnE (s.take (i+1)):Int)=a*10+d:=by rw[k,y,hd];omega
  rw[j]at q;rw[<- y];have r1:0<=a:=by omega
  have T:a<=100000000000000000:=by omega
  have O:0<=d:=by omega
  have P:d<=9:=by omega
  have go:=λf0=>q f0 om om;replace go:=(show F5 _ from go)
  clear o hc q j k z A y hd p B g C;rw[Bdj];refine wk ?_;rw[show(i:Int)+1=((i+1:Nat):Int)by omega]
  exact(show ∀f0,_ from go) _
def Amn{n}(hn:Num n):∃c r,V8 n=c::r/\48<=c/\c<=57/\(1<(V8 n).length->49<=c):=by
 have⟨_,_,_,_,a⟩:=Alj hn.1 hn.2;by_cases d:1<(V8 n).length;. have⟨c,r,e,_⟩:=a d;simp[*]
 .cases e:V8 n with
  |nil=>grind
  |cons c r=>simp_all
variable {b:Nat}{pre x rest:uq}
def Bpp:Prop:=∀(h:H),S0 h->Ah h (λr h1=>Ig h1 r W35) (Z.call 98 [] h)
def BqQ b off len cap z ex h:Aj prog .eql 88 true (.sl b off len cap z ex) .Bv h=.ok ux h:=rfl
def Bpu:Prop:=∀(v:AV) (h:H),v=.sl 0 0 35 35 1 true->Ig h v W35->Ah h (λr h1=>Ig h1 r W35) (Z.call 136 [v] h)
def B3y v h(e:v=.sl 0 0 35 35 1 true)(a:Ig h v W35):Ah h (λr h1=>Ig h1 r W35) (mr Z N 136 [v] h):=by subst e;rw[e96];obtain⟨w,h',g,d,f⟩:=cp (bytes:=16) fe a (Ama _) (Ye _);exact Ey (BqQ ..) (Ae5 (Ey rfl (Ey g (Lo d f.sl))))
def B3j(a:Bpu Z)(e:S0 h):Ah h (λr h1=>Ig h1 r W35) (mr Z N 98 [] h):=by rw[BzC];exact Ey (BlD h) (Fj (a _ h rfl e.ws) λg h1 e1 l1 f d=>zr e1 d)
def Ah9:L3->Prop
|.sg s=>s∈Sgs
|.kw s=>s∈W35
|.nm s=>s∈R2++N1
|.nu n=>Num n
|.wd s=>s∈R9
def BoR:L3->uq->Prop
|.sg s,rest=>s.length=1->∀c∈rest.head?,s++[c] ∉ Sgs
|.kw _,rest=>∀c∈rest.head?,N3 c ∉ [2,3,4]
|.nm _,rest=>∀c∈rest.head?,N3 c ∉ [2,3,4]
|.nu _,rest=>∀c∈rest.head?,N3 c ∉ [3]
|.wd _,_=>True
def A5Q:∀x∈W35++(R2++N1),(∀c∈x,N3 c=2)/\x≠[]/\x.length<=20:=by decide
def BkE{h}{a}{g}{ca}{na}{v w}(e:h.m.get a=cz ca g)(f:na=ca.length):Vk [.c (some (some na)) (.ptr a 0),.v v,.v w] h=.ok (.Bj [.agg ca,v,w]) h:=by
 have d:AyY (some (some na)) (.ptr a 0) h=some (.agg ca):=by show(match h.rd a with|some c=>Tn _ c 0|none=>none)=some _;rw[(by rw[AaS,e];rfl:h.rd a=some _)];show(Nf _ 0 _).map _=_;rw[E5,Xo om,f,Cp,cg];rfl
 show(match match AyY _ _ h,some _ with|some v,some l=>some (v::l)|_,_=>none with|some l=>OR.ok _ h|none=>.bad _)=_;rw[d];rfl
def Ap4{h}{a} t{v w}(d:h.m.get a=cz (Aez t) 48):Vk [.c (some (some 4)) (.ptr a 0),.v v,.v w] h=.ok (.Bj [.agg (Aez t),v,w]) h:=BkE d rfl
def BoH:∀x∈Sgs,∃c r,x=c::r/\N3 c=0/\c<256:=by
 intro x a;have:∀x∈Sgs,x≠[]/\N3 (x.headD 0)=0/\x.headD 0<256:=by decide
 cases x with
 |nil=>grind
 |cons c r=>grind
variable {hd:H}{l:Nat}{acc:List Tok}{t:Tok}
def PX2.Cf{c:Nat}(g:PX2 b c h hd)(x:Nat)(a:x<h.nx)(n1:x≠b)(d:x≠c):hd.m.get x=h.m.get x:=by obtain⟨X,Y,g⟩:=g;replace g:PG2 b X c Y h hd:=g;exact g.Cf x a n1 d
def PX2.lo{c:Nat}(g:PX2 b c h hd):h.nx<=hd.nx:=by obtain⟨X,Y,g⟩:=g;replace g:PG2 b X c Y h hd:=g;exact g.lo
def PX2.AnO{c:Nat}(g:PX2 b c h hd)(Y:AO):PX2 b c h (hd.put c Y):=by obtain⟨X,a,g⟩:=g;replace g:PG2 b X c a h hd:=g;exact⟨X,Y,PG2.Bwz g⟩
def PX2.To{c:Nat}(g:PX2 b c h hd)(hn:b≠c)(X:AO):PX2 b c h (hd.put b X):=by obtain⟨X',Y,g⟩:=g;replace g:PG2 b X' c Y h hd:=g;exact⟨X,Y,g.To hn X⟩
def Bgh{st}{p}{fr}{i j}(k:h.m.get l=.loop st p fr [18,19] rAS rBD):Aze prog Z N false l [i,j] h=xc rAS prog Z N false (A1q l) (A1r l) (λf h=>match h.m.get l with|.loop 0 n g a e d=>xc rBD prog Z N false (A1q l) (A1r l) (BaI l) f (h.put l (.loop 1 n g a e d))|_=>.bad 203) (((fr.set Br (.map l)).set 18 i).set 19 j) h:=by unfold Aze;rw[k];rfl
def A6P{st}{p}{fr}{d}{a c}(e:h.m.get l=.loop st p fr d a c):endRound l none h=.ok uz (h.put l (.loop 0 none fr d a c)):=by unfold endRound;grind
def AsM{l c}{cs}{Y}(hc:Nv h c cs)(hn:c≠l)(d:∀st,h.m.get l≠.Fb st):Nv (h.put l Y) c cs:=by have⟨e,k,_,a⟩:=hc.cells;refine⟨hc.lt,e,k,by simp[*],?_⟩;cases k with
|Cf k st=>exact⟨a.1,by rw[Aq _ _ _ λf=>d _ (by rw[<- f];exact a.2)];exact a.2⟩
|_=>trivial
def BeL{l c}{cs}{Y}(hc:Nv h c cs)(a:∀cs e k,h.m.get l≠.cells cs e k)(hj:∀st,h.m.get l≠.Fb st):Nv (h.put l Y) c cs:=
 AsM hc λd=>by have⟨e,k,_,_⟩:=hc.cells;grind hj
def Atp{s lo len}{et}{v}{cs}{Y}(g:Fm s lo et h v len cs)(r:l<lo)(d:∀cs e k,h.m.get l≠.cells cs e k)(hj:∀st,h.m.get l≠.Fb st):Fm s lo et (h.put l Y) v len cs:=by
 rcases g with a|⟨rfl,rfl,q,off,D7,rfl,n,a⟩|⟨q,k,st,rfl,y,u,j,q5,i,o,p,f⟩;. exact .inl a
 .exact .inr (.inl ⟨rfl,rfl,_,_,_,rfl,BeL n d hj,a⟩)
 .exact .inr (.inr ⟨_,k,_,rfl,by rw[Aq _ _ _ om];omega,by rw[Aq _ _ _ om];omega,j,q5,i,o,p,f⟩)
def Bsk{f q o j i p n d a:AV}(g:PX2 b l h hd)(I:b≠l)(z:b<h.nx)(C:l<h.nx)(P:hd.m.get b=AeK 39 w)(T:hd.m.get l=.loop 0 none (rFR f q o j i p n d (.ptr b 0) a) [18,19] rAS rBD)(V:Fm 4 h.nx 48 hd w acc.length (acc.flatMap Aez))(U:acc.length<=2000):
 Ah H0 (λr h'=>r=uz/\PX2 b l h h'/\(∃w',h'.m.get b=AeK 39 w'/\Fm 4 h.nx 48 h' w' (acc++[t]).length ((acc++[t]).flatMap Aez))/\h'.m.get l=.loop 0 none (rFR f q o j i p n d (.ptr b 0) a) [18,19] rAS rBD/\hd.nx<=h'.nx/\(∀c cs,c≠b->c≠l->Nv hd c cs->Nv h' c cs))
  (Aze prog Z N false l [.agg (Aez t),iI 0] hd):=by
 rw[Bgh Z N T,rdA];have hbd:b<hd.nx:=Xq z g.lo;have hld:l<hd.nx:=Xq C g.lo;have Kf:=g.lo;refine wk ?_;have D:((hd.new (cz [iI 0,.str [],iI 0,iI 0] 48)).put hd.nx (cz (Aez t) 48)).m.get l=.loop 0 none (rFR f q o j i p n d (.ptr b 0) a) [18,19] rAS rBD:=by rw[Aq _ _ _ om,Cq _ _ om];omega
 rw[D];simp only[];rw[rdB];have gA:PX2 b l h ((hd.new (cz [iI 0,.str [],iI 0,iI 0] 48)).put hd.nx (cz (Aez t) 48)):=g.gr (((Ai.refl hd).new _).put _ _ (Ye _));have R:=gA.AnO (.loop 1 none (rFR f q o j i p n d (.ptr b 0) a) [18,19] rAS rBD);have L:(((hd.new (cz [iI 0,.str [],iI 0,iI 0] 48)).put hd.nx (cz (Aez t) 48)).put l (.loop 1 none (rFR f q o j i p n d (.ptr b 0) a) [18,19] rAS rBD)).m.get b=AeK 39 w:=by rw[Aq _ _ _ I,Aq _ _ _ om,Cq _ _ om];exact P
 have K:(((hd.new (cz [iI 0,.str [],iI 0,iI 0] 48)).put hd.nx (cz (Aez t) 48)).put l (.loop 1 none (rFR f q o j i p n d (.ptr b 0) a) [18,19] rAS rBD)).m.get hd.nx=cz (Aez t) 48:=by rw[Aq _ _ _ om];simp_all
 have G:(((hd.new (cz [iI 0,.str [],iI 0,iI 0] 48)).put hd.nx (cz (Aez t) 48)).put l (.loop 1 none (rFR f q o j i p n d (.ptr b 0) a) [18,19] rAS rBD)).m.get l=.loop 1 none (rFR f q o j i p n d (.ptr b 0) a) [18,19] rAS rBD:=A2 _ _;have kA:∀c cs,c≠b->c≠l->Nv hd c cs->Nv (((hd.new (cz [iI 0,.str [],iI 0,iI 0] 48)).put hd.nx (cz (Aez t) 48)).put l (.loop 1 none (rFR f q o j i p n d (.ptr b 0) a) [18,19] rAS rBD)) c cs:=λc cs n1 y hc=>
  AsM ((((Ai.refl hd).new _).put _ _ (Ye _)).keeps.cont c cs hc) y (λst u=>by rw[D]at u;cases u);have E:(((hd.new (cz [iI 0,.str [],iI 0,iI 0] 48)).put hd.nx (cz (Aez t) 48)).put l (.loop 1 none (rFR f q o j i p n d (.ptr b 0) a) [18,19] rAS rBD)).nx=hd.nx+1:=rfl;have v:Fm 4 h.nx 48 (((hd.new (cz [iI 0,.str [],iI 0,iI 0] 48)).put hd.nx (cz (Aez t) 48)).put l (.loop 1 none (rFR f q o j i p n d (.ptr b 0) a) [18,19] rAS rBD)) w acc.length (acc.flatMap Aez):=
  Atp (V.gr (((Ai.refl hd).new _).put _ _ (Ye _))) C (λcs e k u=>by simp_all) (λst u=>by grind);generalize (((hd.new (cz [iI 0,.str [],iI 0,iI 0] 48)).put hd.nx (cz (Aez t) 48)).put l (.loop 1 none (rFR f q o j i p n d (.ptr b 0) a) [18,19] rAS rBD))=h3 at *;obtain⟨o1,o2⟩:=B2 v.sl;clear gA D T P V g;refine wk ?_;have B:=Ai.new (Ai.refl h3) (cz (Aez t) 48);have oN:=v.gr B;have Z3:Sl 4 (h3.new (cz (Aez t) 48)) (.sl (hd.nx+1) 0 1 1 4 true) 1 (Aez t):=E ▸ Sl.lit (h:=h3) (Bf _) rfl rfl;obtain⟨v',h',Q,M,S,W,q5⟩:=Fm.AbQ (bytes:=40) (lo:=h.nx) oN Z3.src (by rfl) om (by rfl) (by show h.nx<=h3.nx+1;omega);refine Ey Q ?_;obtain⟨X,Y,O⟩:=R.gr B;have gD:PX2 b l h h':=⟨X,Y,S _ (Ye _) O⟩;have J:h'.m.get b=AeK 39 w:=by rw[q5 b z,Cq _ _ om];grind
 have hl4:h'.m.get l=.loop 1 none (rFR f q o j i p n d (.ptr b 0) a) [18,19] rAS rBD:=by rw[q5 l C,Cq _ _ om];omega
 have lo4:h3.nx+1<=h'.nx:=M.lo;obtain⟨p1,p2⟩:=B2 W.sl;have kB:∀c cs,c≠b->c≠l->Nv hd c cs->Nv h' c cs:=λc cs n1 y hc=>M.cont c cs (B.keeps.cont c cs (kA c cs n1 y hc));clear S q5 Q M O R kA L K G v oN B Z3 o1 o2;have Vt:A4 1 (.ptr b 0) v' h'=.ok (.Bj []) (h'.put b (AeK 39 v')):=by simp only[Adt,p2,AiA,Auc,Awo,p1,eh,Y7,Gx,Rx,Qg,Jr];simp[J,lw]
 refine Ey Vt ?_;have A:(h'.put b (AeK 39 v')).m.get l=.loop 1 none (rFR f q o j i p n d (.ptr b 0) a) [18,19] rAS rBD:=by rw[Aq _ _ _ (λu=>I u.symm)];grind
 rw[A6P A];refine Lo ⟨Wy _,λb z=>absurd z (dx b),λx _=>.inr (Wy x)⟩ ⟨rfl,(gD.To I _).AnO _,⟨v',?_,?_⟩,A2 _ _,?_,λc cs n1 y hc=>?_⟩;. simp_all
 .rw[Yl,V5,show[t].flatMap Aez=Aez t from rfl];refine Atp (Fm.To (l:=[v']) (e1:=39) W z (by simp_all)) C (λcs e k u=>by grind) (λst u=>by simp_all)
 .show hd.nx<=h'.nx;omega
 .exact AsM (AsM (kB c cs n1 y hc) n1 (λst u=>by simp_all)) y (λst u=>by rw[A]at u;cases u)
end Go.Proofs
namespace Go.Proofs
open Go Go.Ev Go.Nm Go.Ev.Sx
def BqK{n}(hn:Num n):∃c r,V8 n=c::r/\N3 c=3:=by have⟨c,r,h1,_⟩:=Amn hn;refine⟨c,r,h1,?_⟩;unfold N3;omega
def Bix{y:L3}(a:Ah9 y):∃c r,lt y=c::r/\N3 c≠1/\(glB y=true->c∈nk):=by cases y with
|sg x=>obtain⟨c,r,rfl,h1,_⟩:=BoH x a;refine⟨c,r,rfl,by omega,λh=>?_⟩;have d:=az h;grind
|kw x=>have⟨h1,d,_⟩:=A5Q x (aw _ a);cases x with
 |nil=>grind
 |cons c r=>exact⟨c,r,rfl,by simp_all,λh=>by cases h⟩
|nm x=>have⟨h1,d,_⟩:=A5Q x (Gw _ a);cases x with
 |nil=>grind
 |cons c r=>exact⟨c,r,rfl,by grind,λh=>by cases h⟩
|nu n=>have⟨c,r,h1,d⟩:=BqK a;exact⟨c,r,h1,by omega,λh=>by cases h⟩
|wd x=>exact⟨_,_,rfl,by decide,λh=>by cases h⟩
def Tk2:List Tok->List L3->Prop
|[],[]=>True
|t::ts,x::xs=>AeT t x/\Tk2 ts xs
|_,_=>False
def Bed:∀{ts} {xs},Tk2 ts xs->ts.length=xs.length
|[],[],_=>rfl
|t::ts,x::xs,h=>Jh _ (Bed h.2)
def Bky:∀{ts} {xs} {a},Tk2 ts xs->AaO (a++ts) a.length xs
|[],[],a,_=>trivial
|t::ts,x::xs,a,h=>by refine⟨⟨t,by simp,h.1⟩,?_⟩;have:=Bky (a:=a++[t]) h.2;grind
def Bkz{t}{x}(h:AeT t x):t.k=5/\Ar8 x=true\/t.k≠5/\Ar8 x=false:=by cases x with
|sg s=>exact .inl ⟨h.1,rfl⟩
|kw s=>exact .inr ⟨by rw[h.1];simp,rfl⟩
|nm s=>exact .inr ⟨by rw[h.1];simp,rfl⟩
|nu s=>exact .inr ⟨by rw[h.1];simp,rfl⟩
|wd s=>exact .inr ⟨by rw[h.1];decide,rfl⟩
open Tryz
attribute [local irreducible] Aa Al Af Ad
variable (Z cx:Ac)(N:Nat)
variable {h hd:H}{s:uq}{w:AV}{b c bo l:Nat}{acc:List Tok}{t:Tok}{F:AO}
structure Rst(bo l:Nat)(F:AO)(h hd:H)(w:AV)(acc:List Tok):Prop where
 g:PX2 bo l h hd
 gb:hd.m.get bo=AeK 39 w
 gl:hd.m.get l=F
 o:Fm 4 h.nx 48 hd w acc.length (acc.flatMap Aez)
def Rst.gr{h1}(k:Rst bo l F h hd w acc)(g:Ai hd h1)(d:bo<h.nx)(a:l<h.nx):Rst bo l F h h1 w acc:=
 ⟨k.g.gr g,(g.Cf _ (Xq d k.g.lo)).trans k.gb,(g.Cf l (Xq a k.g.lo)).trans k.gl,k.o.gr g⟩
def Bhe(Z:Ac)(bo l:Nat)(F:AO):Prop:=∀(h hd:H) (w:AV) (acc:List Tok) (t:Tok),bo<h.nx->l<h.nx->Rst bo l F h hd w acc->acc.length<=2000 ->
 Ah H0 (λr h'=>r=uz/\(∃w',Rst bo l F h h' w' (acc++[t]))/\hd.nx<=h'.nx/\(∀c cs,c≠bo->c≠l->Nv hd c cs->Nv h' c cs)) (Z.round l [.agg (Aez t),iI 0] hd)
def Brb{Q R}{K}{args}(e:Ah H0 R (Z.round l args hd))(a:∀v h1,R v h1->Ah H0 Q (K v h1)):Ah H0 Q (Aa (cvV (.fn (.yield l) [] []) args prog Z hd) K):=by have⟨v,_,d,_,f⟩:=e;exact Ey (show cvV _ _ _ Z _=_ from d) (a v _ f)
structure Lx0(b c bo l:Nat)(s:List Nat)(h:H):Prop where
 sc:Sc0 b s h
 gc:h.m.get c=.cells [.ptr b 0] 68 .exact
 lc:c<h.nx
 gk:S0 h
 nb:b≠bo/\b≠l/\c≠bo/\c≠l/\0≠bo/\0≠l
 nz:0<h.nx
 nt:∀st,h.m.get bo≠.Fb st/\h.m.get l≠.Fb st
def Lx0.px(k:Lx0 b c bo l s h)(g:PX2 bo l h hd)(q:∀st,hd.m.get bo≠.Fb st/\hd.m.get l≠.Fb st):Lx0 b c bo l s hd:=by have⟨n1,o,p,n4,j,i⟩:=k.nb;refine⟨⟨(g.Cf b k.sc.lt n1 o).trans k.sc.g,Xq k.sc.lt g.lo,k.sc.by',k.sc.Mu⟩,(g.Cf c k.lc p n4).trans k.gc,Xq k.lc g.lo,?_,k.nb,Xq k.nz g.lo,q⟩;have⟨e,f,n,a⟩:=k.gk.cells;refine⟨Xq k.nz g.lo,e,_,(g.Cf 0 k.nz j i).trans n,?_⟩;cases f with
|Cf c st=>refine⟨Xq a.1 g.lo,?_⟩;rw[g.Cf c a.1 (λd=>(k.nt _).1 (d ▸ a.2)) λd=>(k.nt _).2 (d ▸ a.2)];exact a.2
|_=>trivial
def BkG(i:Bhe Z bo l F)(j:bo<h.nx)(g:l<h.nx){n a}{e1 pi}{f0}{Q}{e}
 (kd:Rst bo l F h hd w acc) (hlen:acc.length<=2000) (ha:hd.m.get a=cz (Aez t) 48) (B6:a<hd.nx) (Kf:h.nx<=a) (kx:decide (t.k=5)=e)
 (go:∀h1 w' f0,Rst bo l F h h1 w' (acc++[t])->Ah H0 Q (AwL Z N n (.fn (.yield l) [] []) (.ptr c 0) (iI (if e=true then -1 else e1)) (iI e1) f0 h1)):
 Ah H0 Q (AwK Z N n (.fn (.yield l) [] []) (.ptr c 0) (iI pi) (.ptr a 0) (iI e1) (iI 0) f0 hd):=by rw[Bmp];refine wk ?_;rw[Bmq];refine wk (Brb Z (i h _ w _ t j g kd hlen) λr q p=>?_);have⟨_,⟨_,d⟩,_,f⟩:=p;have u:=(f a _ om om ⟨B6,_,_,ha,trivial⟩).one (o:=0) rfl;cases e with
 |true=>exact wk ((show ∀h1 w' f0,_ from go) _ _ _ d)
 |false=>exact wk ((show ∀h1 w' f0,_ from go) _ _ _ d)
def Bkf h:PX2 bo l h h:=by
 refine⟨h.m.get bo,h.m.get l,Ye _,λc hc=>?_,λx a=>.inl (Vo _ (Vo _ a))⟩;by_cases e:c=l;. simp[*]
 .by_cases e:c=bo;. simp_all
  simp_all
def Bpi:Prop:=∀(h:H),Ah h (λr _=>r=.agg Aue) (Z.call 26 [] h)
def BtB:Prop:=∀(b:Nat) (h:H),Ah h (λr h1=>r=.fn (.func 66) [] [.ptr h.nx 0]/\h1.nx=h.nx+1/\h1.m.get h.nx=cz [.ptr b 0] 68) (Z.call 27 [.ptr b 0] h)
def B2C b:Ah h (λr h1=>r=.fn (.func 66) [] [.ptr h.nx 0]/\h1.nx=h.nx+1/\h1.m.get h.nx=cz [.ptr b 0] 68) (mr Z N 27 [.ptr b 0] h):=by rw[Bzd];exact Ey rfl (Lo ((Ai.refl h).new _) ⟨rfl,rfl,Bf _⟩)
def Bp6 s hh:B7 ([.str []]++List.replicate 257 (iI 0)) [(0,1,.str s),(2,256,.agg Aue)] hh=.ok (.agg (.str s::iI 0::Aue)) hh:=rfl
def Bp7 L hh:Oy 73 (.agg L) hh=.ok (.ptr hh.nx 0) (hh.new (cz L 73)):=rfl
abbrev FL(x0 x1 x2 x3 x4 x8 x9 x10 x12:AV)(bo:Nat):AO:=.loop 0 none (rFR x0 x1 x2 x3 x4 x8 x9 x10 (.ptr bo 0) x12) [18,19] rAS rBD
def Bw4{cap}{d}{a bd}{fr}{E}:rgX prog Z (.fn (.func 66) [] cap) d a bd fr E h=Aa (Z.call 66 (.fn (.yield (h.nx+1)) [] []::cap) ((h.new (.dfr false)).new (.loop 0 none fr d a bd))) λ_ h1=>AyT (h.nx+1) E h1:=rfl
def Biw{p}{fr}{d}{a bd}{E}(e:h.m.get l=.loop 0 p fr d a bd):AyT l E h=E p (h.put l (.loop 3 p fr d a bd)):=by unfold AyT;rw[e];rfl
def BqJ{r}{k}(a:h.m.get r=.dfr false):dfE r k h=k (h.put r (.dfr true)):=by unfold dfE;grind
def Bbk{n r}{j}:Big none n r j h=n h:=rfl
def Bn1{x}{ty}(d:h.m.get b=AeK ty w)(a:Ge x=true/\cellsOf x=some [x]):A4 1 (.ptr b 0) x h=.ok (.Bj []) (h.put b (AeK ty x)):=by simp[Adt,a.2,AiA,Auc,Awo,a.1,eh,Y7,Gx,Rx,Qg,Jr];simp[d,lw]
def BnD{a b}{f tb}{x}{cb}{nb}(e:h.m.get a=cz [x] f)(g:h.m.get b=cz cb tb)(lb:nb=cb.length):Vk [.c (some none) (.ptr a 0),.c (some (some nb)) (.ptr b 0)] h=.ok (.Bj [x,.agg cb]) h:=by
 have d:AyY (some none) (.ptr a 0) h=some x:=by
  have h1:h.rd a=some [x]:=by rw[AaS,e];rfl
  show(match h.rd a with|some c=>Tn _ c 0|none=>none)=some x;simp[*]
 have k2:AyY (some (some nb)) (.ptr b 0) h=some (.agg cb):=by show(match h.rd b with|some c=>Tn _ c 0|none=>none)=some _;rw[(by rw[AaS,g];rfl:h.rd b=some _)];show(Nf _ 0 _).map _=_;rw[E5,Xo om,lb,Cp,cg];rfl
 show(match match AyY _ _ h,match AyY _ _ h,(some _:Option uw)with|some v,some l=>some _|_,_=>none with|some v,some l=>some (v::l)|_,_=>none with|some l=>OR.ok _ h|none=>.bad _)=_;rw[d,k2];rfl
def Bny{a h1}(e:Ai a h)(g:PX2 bo l h h1)(f:a.nx<=bo)(d:a.nx<=l):Ai a h1:=by have⟨X,Y,g⟩:=g;exact((e.put _ X f).put l Y d).trans g
def Bnu{sz lo len r}{et}{v}{cs}{Y}{f}(g:Fm sz lo et h v len cs)(a:r<lo)(i:h.m.get r=.dfr f):Fm sz lo et (h.put r Y) v len cs:=
 Atp g a λcs e k d=>by grind λst d=>by grind
end Go.Proofs
namespace Go.Proofs
open Go Go.Ev Go.Nm Go.Ev.Sx
variable {j:FuncId}{o:Type}{p:Nat}{C:AV}
def Yq(x:Nd):Plain (.agg (Bw x)):=.agg λy a=>by simp[Bw]at a;rcases a with rfl|rfl|rfl;exact .int _ _;exact .int _ _;exact .str _
def Bp:∀t:Tr,Plain (A3 t)
|.leaf x=>.I6 (Yq x)
|.one o a=>.I6 (.agg λy d=>by simp at d;rcases d with rfl|rfl;exact .int _ _;exact Bp a)
|.two o a b=>.I6 (.agg λy d=>by simp at d;rcases d with rfl|rfl|rfl;exact .int _ _;exact Bp a;exact Bp b)
|.three c a b=>.I6 (.agg λy d=>by simp at d;rcases d with rfl|rfl|rfl;exact Bp c;exact Bp a;exact Bp b)
def Acu{enc:o->uw}{out:o->AV}{dom:o->Prop}{args:uw}(h:Dv enc out dom args=some C):∃a,dom a/\enc a=args/\C=out a:=by
 unfold Dv at h;split at h
 .rename_i d;cases h;exact⟨_,d.choose_spec.1,d.choose_spec.2,rfl⟩
 .cases h
def mixed:PP.follows .mixedOrders=true:=by kernel_rfl
def pok:Mv PP=true:=by kernel_rfl
def gsz:PP.globals.size<=100:=az (by kernel_rfl)
def AfK:Bq=1000000000000000000:=rfl
def Eo{T:Df}(α:P3 PP T){enc:o->uw}{out:o->AV}{dom:o->Prop}(k:Bg PP j=true)(p:∀a,I7 (enc a))(e:∀a,Plain (out a))
 (Du:∀a,∃d,L8 (cD PP T d) j (enc a) (out a)):P3 PP (T.ext j (Dv enc out dom)):=by
 refine P3.ext mixed pok (by have:=gsz;rw[AfK];omega) α k λargs v n=>?_
 obtain⟨a,h1,rfl,rfl⟩:=Acu n;obtain⟨d,f⟩:=Du a;obtain⟨h',m,q,i⟩:=Bll f;exact⟨p a,e a,d,h',Jn (Ye _) m,by rw[AfK];omega,λx g=>by rw[show PP.globals.size=9 by kernel_rfl];exact i x g⟩
def Ki(a:Plain C):I7 [C]:=.cons a .nil
def Bb(T:Df)(g a:FuncId)(S:uw->Option AV):T.ext g S a=if a=g then S else T a:=by
 funext args;by_cases h:a=g
 .rw[Xo h,h];exact Ahs ..
 .rw[X2 h];exact Aew _ _ h
def Kz:Df:=Df.ext (λ_ _=>none) 234 A16
def La:Df:=Kz.ext 237 A17
def Lb:Df:=La.ext 239 A18
def Lz:Df:=Lb.ext 232 A19
def Pl:Df:=Lz.ext 86 S64
def BtU:=Dv (λ_:Unit=>([]:uw)) (λ_=>.agg Aue) (λ_=>True)
def Sc:Df:=Pl.ext 26 BtU
def u1:P3 PP Kz:=Eo P3.none Avm (λa=>Ki (.agg λy d=>by simp at d;rcases d with rfl|rfl;exact .int _ _;exact Bp _)) (λa=>.int _ _) λa=>⟨0,A9D _ a.1 (A3 a.2)⟩
def u2:P3 PP La:=Eo u1 Avn (λa=>Ki (.agg λy d=>by simp at d;rcases d with rfl|rfl|rfl;exact .int _ _;exact Bp _;exact Bp _)) (λa=>.int _ _) λa=>⟨0,A9G _ a.1 (A3 a.2.1) (A3 a.2.2)⟩
def u3:P3 PP Lb:=Eo u2 Avo (λa=>Ki (.agg λy d=>by simp at d;rcases d with rfl|rfl|rfl;exact Bp _;exact Bp _;exact Bp _)) (λa=>.int _ _) λa=>⟨0,A9I _ (A3 a.1) (A3 a.2.1) (A3 a.2.2)⟩
def u4:P3 PP Lz:=Eo u3 Avp (λa=>Ki (Yq _)) (λa=>.int _ _) λa=>⟨0,A9K _ a⟩
def u5:P3 PP Pl:=Eo u4 (by kernel_rfl) (λa=>Ki (Bp _)) (λa=>.bool _) λt=>⟨1,n64 _ (De (by simp[Kz,La,Lb,Lz,Bb]) (by simp[Kz,La,Lb,Lz,Bb]) (by simp[Kz,La,Lb,Lz,Bb]) (by simp[Kz,La,Lb,Lz,Bb])) t⟩
def Bsm:Yt PP.globals.size (.agg Aue) ((A2N PP 40).call 26 [] (glH [] PP.globals.size))=true:=by kernel_rfl
def u6:P3 PP Sc:=by
 refine⟨λg args v d=>?_⟩;by_cases e:g=26
 .subst e;have d:BtU args=some v:=by rw[<- d];exact(Ahs ..).symm
  obtain⟨a,h1,rfl,rfl⟩:=Acu d;exact⟨Lv (Acd mixed pok 40) (by have:=gsz;rw[AfK];omega) Ah1 ⟨26,[],.agg Aue⟩ (by kernel_rfl) Bsm,.nil⟩
 .have d:Pl g args=some v:=by rw[<- d];exact(Aew _ _ e).symm
  exact u5.ok g args v d
abbrev CB(d:Nat):Ac:=cD PP Sc d
def uS{S:uw->Option AV}(q:Sc j=S:=by simp[Kz,La,Lb,Lz,Pl,Sc,Bb]):Sc j=S:=q
def k64(d:Nat):∀(t:Tr) (h:H),(CB (d+1)).call 86 [A3 t] h=.ok (.bool (decide (9<=t.op))) h:=λt h=>Xi (S:=S64) uS (Cd (λa b e=>Fk _ _ (List.cons.inj e).1) (a:=t) (dom:=λ_=>True) trivial) h
def kop(d:Nat):HOp (CB (d+1)):=De (T:=Sc) uS uS uS uS
def BvL(d:Nat):Bpi (CB (d+1)):=by intro h;rw[Xi (S:=BtU) uS (Cd (a:=()) (by intro a b _;rfl) (dom:=λ_=>True) trivial) h];exact Lo (Ai.refl h) rfl
def B4Q:Bpi (CB (p+1)):=by exact BvL p
def BlM{T:Df}{Z:Ac}(hc:AiU Z):AiU (AxJ T Z):=by
 refine⟨λg xs h v h' e=>?_,hc.round⟩;have a:(@Option.rec _ (λ_=>OR) (Z.call g xs h) (λv=>.ok v h) (T g xs):OR)=.Hb v h':=e;cases d:T g xs with
 |none=>rw[d]at a;exact hc.call g xs h v h' a
 |some u=>rw[d]at a;cases a
def BqW(d:Nat):AiU (CB d):=by
 cases d with
 |zero=>exact⟨(λ_ _ _ _ _ a=>by cases a),λ_ _ _ _ _ a=>by cases a⟩
 |succ d=>exact BlM (Bd1 (Xh mixed pok u6 d).mono)
def BvR(a:j∈PaL):Sc j=λ_=>none:=by have h:j≠26/\j≠86/\j≠232/\j≠239/\j≠237/\j≠234:=⟨(λe=>by subst e;revert a;decide),(λe=>by subst e;revert a;decide),(λe=>by subst e;revert a;decide),(λe=>by subst e;revert a;decide),(λe=>by subst e;revert a;decide),λe=>by subst e;revert a;decide⟩;simp[Kz,La,Lb,Lz,Pl,Sc,Bb,h]
def Bj1:∀x∈PaN,x.1∈PaL/\(match Ln PP x.1 with|some i=>Awc x.2 i.body|none=>true)=true:=by decide +kernel
def upB:Abu CB where
 ok:=λg a d q args h v h1 e=>by
  rw[show(CB (d+1)).call g args h=Fy PP (CB d) g args h from Atd h (by rw[BvR a])]
  exact Jn (Ye _) e
 Hb:=λg q a d args h v h1 e=>by
  obtain⟨f,k2⟩:=Bj1 _ a;rw[show(CB (d+1)).call g args h=Fy PP (CB d) g args h from Atd h (by rw[BvR f])]
  refine AzZ (BqW d) pok (Ye _) (λi hi=>?_) e;rw[hi]at k2;exact k2
def Bj9{args:uw}{h a:H}{Q:AV->H->Prop}{d:Nat}(g:Ah a Q (Aze PP (CB d) N0x false p args h)):Ah a Q ((CB (d+1)).round p args h):=by obtain⟨v,h1,e,f⟩:=g;exact⟨v,h1,A1W (Ye _) e,f⟩
end Go.Proofs

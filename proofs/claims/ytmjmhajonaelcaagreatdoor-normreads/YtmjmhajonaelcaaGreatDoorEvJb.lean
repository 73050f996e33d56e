/- Equality of queries: the function. -/
import Derived.Test.YtmjmhajonaelcaaGreatDoorEvWb
set_option linter.all false
set_option maxRecDepth 100000
noncomputable section
namespace Go.Proofs
open Go Go.Ev Go.Nm Tryz Go.Ev.Sx
attribute [local irreducible] Aa Al Af Ad
variable (Z cx:Ac)(N:Nat)
variable {h h1 h2 h0 hd:H}{b:Nat}{s:uq}{a v:AV}{t:Tok}
def inS(t:Tok)(l:List uq):Bool:=decide (t.k=5)&&decide (t.t∈l)
def Bpf:Prop:=∀(t:Tok) (l:List uq) (v:AV) (h:H),Ig h v l->l.length<=50->Ah h (λr _=>r=.bool (inS t l)) (Z.call 54 [.agg (Aez t),v] h)
def B25(c:Be2 Z){l:List uq}(f:Ig h v l)(g:l.length<=50):Ah h (λr _=>r=.bool (inS t l)) (mr Z N 54 [.agg (Aez t),v] h):=by
 rw[ByW];have e:Ai h (h.new (cz (Aez t) 48)):=(Ai.refl h).new _;by_cases d:t.k=5;. refine wk ?_;refine Fj (c t.t v l _ (Sl.By f e.keeps) g) λm h1 e1 l1 i j=>(wk ?_);apply Lo (e.trans e1);simp[inS,d]
 .refine wk ?_;exact zr Ex (by simp[inS,d])
def Bub x y(e:x.length+y.length<=100000) hh:bo .add 9 true (.str x) (.str y) hh=.ok (.str (x++y)) hh:=by
 show @Bool.rec _ _ ..=_;rw[Rf,Rf,Fi,Ws (by show x.length+y.length<_;omega)];have:∀a c,AzJ a c=a++c:=λa c=>by induction a with
  |nil=>rfl
  |cons z a d=>show z::AzJ a c=_;simp[*]
 grind
abbrev gA4:List uq:=[[40],[91],[47],[46,46]]
abbrev gB5:List uq:=[[41],[93],[44],[47],[46,46]]
def BvC x:inS (Ae7 x) gA4=glA x:=by cases x<;>simp[inS,Ae7,glA]
def BvD x:inS (Ae7 x) gB5=glB x:=by cases x<;>simp[inS,Ae7,glB]
def B4g(f:Bm5 Z){n1 c:Nat}{n l i p:AV}{f0:L2}{x:L3}{Q:AV->H->Prop}(k:BdS b s h)(E:s.length<=3000)(F:(lt x).length<=3000)(z:h.m.get c=cz (Aez (Ae7 x)) 48)(y:c<h.nx)(C:c≠b)
 (go:∀h1 f0,WG b h h1->BdS b (s++lt x) h1->Ah H0 Q (BcO Z N n1 n (.ptr b 0) l i p f0 h1)):
 Ah H0 Q (A6F Z N n1 n (.ptr b 0) (.ptr c 0) l i p f0 h):=by
 have c5:Nv h c (Aez (Ae7 x)):=⟨y,_,_,z,trivial⟩;have r:=c5.one (o:=0) rfl;have q:=c5.one (o:=1) rfl;have B:∀d:H,Bs (.ptr c 0) 0 d=.ok (.ptr c 0) d:=λd=>by simp[*]
 have j:∀d:H,Bs (.ptr c 0) 1 d=.ok (.ptr c 1) d:=λd=>by simp
 rw[BoZ];refine Ey (B h) (Ey (r h (Bi.refl _)) (Ey (eqK _ _ _) ?_));by_cases e:(Ae7 x).k=4
 .obtain⟨w,rfl⟩:∃w,x=.wd w:=by cases x<;>first|grind|(revert e;show _=(4:Int)->_;intro e;cases e)
  rw[Ws e];have D:w.length+2<=3000:=by
   have:(lt (.wd w)).length=w.length+2:=by simp[lt]
   omega
  refine Zx (Ey (j h) (Ey (q h (Bi.refl _)) ?_));refine Ey (Bub [39] w (by simp;omega) _) (Ey (Bub ([39]++w) [39] (by grind) _) ?_);refine zc0 (f b s ([39]++w++[39]) h k om (by simp;omega)) λA h1 ⟨g1,g⟩=>?_;exact go _ _ g1 g
 .rw[Yc e];have u:(Ae7 x).t=lt x:=by cases x<;>first|rfl|exact absurd rfl e
  refine Ae5 (Ey (j h) (Ey (q h (Bi.refl _)) ?_));rw[u];refine zc0 (f b s (lt x) h k om om) λA h1 ⟨g1,g⟩=>?_;grind
variable {hA:H}{lxs:List L3}
def Biv(z:Bpf Z)(L:Bpg Z)(BaO:Bm5 Z)(X:Bph Z)(hv:R0 4 Aez h0 v (lxs.map Ae7))(gA:Ai h0 hA)(Sz:h0.nx<=b)(o:b<hA.nx)(M:(jn none lxs).length<=2000)(P:∀c∈jn none lxs,c<256)(Hr:jn none lxs≠[])(S4:lxs.length<=2000):
 ∀(u i n:Nat) (hd:H) (f0:L2),i+u=lxs.length->u<n->WG b hA hd->BdS b (jn none (lxs.take i)) hd ->
  Ah H0 (λr h1=>r=.str (jn none lxs)/\WG b hA h1) (Bdp Z N n v (.ptr b 0) v (iI lxs.length) (iI i) f0 hd)
 |0,i,n,hd,f0,hi,hn,W,k=>by obtain⟨n1,rfl⟩:∃n1,n=n1+1:=⟨n-1,by omega⟩;rw[Qa om]at k;rw[BgZ];refine Ey (Hf ..) ?_;rw[Yc om];refine Ae5 ?_;refine zc0 (X b _ hd k Hr P om) λv1 h1 ⟨q1,g1⟩=>?_;exact Lo (gr0 _) ⟨q1,W.trans o g1⟩
 |u+1,i,n,hd,f0,hi,hn,W,k=>by
  obtain⟨n1,rfl⟩:∃n1,n=n1+1:=⟨n-1,by omega⟩;have ih:=Biv z L BaO X hv gA Sz o M P Hr S4 u (i+1) n1;have G:Ai h0 hd:=WG.own gA W Sz;have K:R0 4 Aez hd v (lxs.map Ae7):=Sl.By hv G.keeps;obtain⟨x,hx⟩:∃x,lxs[i]?=some x:=⟨_,Oh om⟩;have D:(lxs.map Ae7)[i]?=some (Ae7 x):=by rw[Cn,hx];rfl
  obtain⟨b1,o1,el⟩:=R0.elem (f:=Aez) (s:=4) (λ_=>rfl) K D;have x1:=el.ia;have x2:=el.all;have e1:lxs.take (i+1)=lxs.take i++[x]:=by rw[Y9,hx];rfl
  have V:lxs=lxs.take (i+1)++lxs.drop (i+1):=(Dt _ _).symm;have l1:(jn none (lxs.take (i+1))).length<=2000:=by have:=Boy (lxs.take (i+1)) (lxs.drop (i+1)) none;rw[<- V]at this;omega
  rw[e1,Bnj]at l1 ih;have B6:=k.lt;have y1:A4 4 (.ptr hd.nx 0) (.agg (Aez (Ae7 x))) (hd.new (cz [iI 0,.str [],iI 0,iI 0] 48))=.ok (.Bj []) ((hd.new (cz [iI 0,.str [],iI 0,iI 0] 48)).put hd.nx (cz (Aez (Ae7 x)) 48)):=by simp[lw]
  have d:∀(e:H) f0 (q:uq),WG b hd e->BdS b q e->q=jn none (lxs.take i)++(if sep (jl none (lxs.take i)) x then[32]else[])->e.m.get hd.nx=cz (Aez (Ae7 x)) 48->hd.nx<e.nx->Ah H0 (λr h1=>r=.str (jn none lxs)/\WG b hA h1) (A6F Z N n1 v (.ptr b 0) (.ptr hd.nx 0) v (iI lxs.length) (iI i) f0 e):=λe f0 q C k4 F I l4=>by
   have hl3:q.length+(lt x).length<=2000:=by rw[F];simp only[Yl]at l1 ⊢;omega
   refine B4g Z N BaO k4 om om I l4 om λh5 f5 T k5=>?_;rw[Bpa];refine Ey (Am1 (k:=.i64) i 1 fe (by show((i+1:Nat):Int)<=9223372036854775807;omega) _) ?_
   refine ih h5 _ om om ((W.trans o C).trans o T) ?_;rw[F,Wq]at k5;exact k5
  have gN:Ai hd ((hd.new (cz [iI 0,.str [],iI 0,iI 0] 48)).put hd.nx (cz (Aez (Ae7 x)) 48)):=((Ai.refl hd).new _).put _ _ (Ye _);have gb:((hd.new (cz [iI 0,.str [],iI 0,iI 0] 48)).put hd.nx (cz (Aez (Ae7 x)) 48)).m.get hd.nx=cz (Aez (Ae7 x)) 48:=A2 _ _;have nb:((hd.new (cz [iI 0,.str [],iI 0,iI 0] 48)).put hd.nx (cz (Aez (Ae7 x)) 48)).nx=hd.nx+1:=rfl;rw[BgZ];refine Ey (Hf ..) ?_;rw[Ws om];refine Zx (Ey (x1 _) (Ey (x2 hd (Bi.refl _)) ?_));refine Ey (v:=.ptr hd.nx 0) (h:=hd.new (cz [iI 0,.str [],iI 0,iI 0] 48)) rfl (Ey y1 ?_);clear y1 hv ih;generalize ((hd.new (cz [iI 0,.str [],iI 0,iI 0] 48)).put hd.nx (cz (Aez (Ae7 x)) 48))=hb at *
  have E:=WG.of B6 gN;have kb:=k.gr gN;replace d:=(show F5 _ from d)
  refine Ey (A5z ..) ?_;by_cases H4:i=0
  .rw[Yc om];refine wk ?_;refine(show ∀(e:H) f0 (q:uq),_ from d) _ _ _ E kb ?_ gb om
   rw[H4];rfl
  .rw[Ws om];obtain⟨j,rfl⟩:∃j,i=j+1:=⟨i-1,by omega⟩;obtain⟨p,hp⟩:∃p,lxs[j]?=some p:=⟨_,Oh om⟩;have O:(lxs.map Ae7)[j]?=some (Ae7 p):=by rw[Cn,hp];rfl
   obtain⟨b2,o2,A⟩:=R0.elem (f:=Aez) (s:=4) (λ_=>rfl) K O;have z1:=A.ia;have z2:=A.all;have ej:jl none (lxs.take (j+1))=some p:=by rw[Y9,hp];exact BdH _ _ _
   rw[ej]at d;have z3:∀hh:H,bo .sub 3 true (iI ((j+1:Nat):Int)) (iI 1) hh=.ok (iI (j:Int)) hh:=λhh=>by show Aj prog .sub 3 true (iI ((j+1:Nat):Int)) (iI 1) hh=_;rw[As3,show((j+1:Nat):Int)-1=j by omega,Cr _ om om]
   clear el A O D hp hx ej x1 x2 V e1 l1;refine wk ?_;have gC:Ai hb (hb.new (cz [.str [40],.str [91],.str [47],.str [46,46]] 9)):=(Ai.refl hb).new _;have g:Ig (hb.new (cz [.str [40],.str [91],.str [47],.str [46,46]] 9)) (.sl (hd.nx+1) 0 4 4 1 true) gA4:=nb ▸ Sl.lit (h:=hb) (Bf _) rfl rfl;have hc:=z (Ae7 p) gA4 _ _ g fe;rw[BvC]at hc;refine Fj hc λv1 B e3 l3 Ary q3=>?_;subst q3;have g3:=gC.trans e3;have t3:=(g3.Cf hd.nx om).trans gb;have S:hd.nx<B.nx:=by have:=g3.lo;omega
   have U:=E.gr B6 g3;have k3:=kb.gr g3;clear hc g Ary gC;cases y:glA p with
   |true=>
    have l:sep (some p) x=false:=by simp[sep,y]
    refine wk ?_;refine(show ∀(e:H) f0 (q:uq),_ from d) _ _ _ U k3 ?_ t3 S;rw[l,X2 fe,F0]
   |false=>
    refine wk ?_;have gD:Ai B (B.new (cz [.str [41],.str [93],.str [44],.str [47],.str [46,46]] 9)):=(Ai.refl B).new _;have g:Ig (B.new (cz [.str [41],.str [93],.str [44],.str [47],.str [46,46]] 9)) (.sl B.nx 0 5 5 1 true) gB5:=Sl.lit (h:=B) (Bf _) rfl rfl;have hc:=z (Ae7 x) gB5 _ _ g fe;rw[BvD]at hc;refine Fj hc λv2 e e4 l4 A9W q4=>?_;subst q4;have C:=gD.trans e4;have I:=(C.Cf hd.nx S).trans t3;have R:hd.nx<e.nx:=by have:=C.lo;omega
    have J:=U.gr B6 C;have k4:=k3.gr C;clear hc g A9W gD;cases Y:glB x with
    |true=>
     have l:sep (some p) x=false:=by simp[sep,y,Y]
     refine wk ?_;refine(show ∀(e:H) f0 (q:uq),_ from d) _ _ _ J k4 ?_ I R;rw[l,X2 fe,F0]
    |false=>
     have l:sep (some p) x=true:=by simp[sep,y,Y]
     have hl5:(jn none (lxs.take (j+1))).length<=50000:=by have:=Boy (lxs.take (j+1)) (lxs.drop (j+1)) none;rw[Dt]at this;omega
     have h8:=L b 32 _ e k4 hl5;refine wk ?_;refine zc0 h8 λv5 h5 ⟨T,k5⟩=>?_;refine(show ∀(e:H) f0 (q:uq),_ from d) _ _ _ (J.trans B6 T) k5 ?_ ((T.ex hd.nx _ _ R om I).trans I) (by have:=T.nx;omega);rw[l,Xo rfl]
def R76(Z:Ac)(lxs:List L3):Prop:=∀(v:AV) (h:H),R0 4 Aez h v (lxs.map Ae7)->Ah h (λr _=>r=.str (jn none lxs)) (Z.call 21 [v] h)
def r76(y:3000<N)(f:Bpf Z)(g:Bpg Z)(l:Bm5 Z)(j:Bph Z)(d:(jn none lxs).length<=2000)(i:∀c∈jn none lxs,c<256)(q:jn none lxs≠[])(o:lxs.length<=2000)(m:R0 4 Aez h v (lxs.map Ae7)):
 Ah h (λr _=>r=.str (jn none lxs)) (mr Z N 21 [v] h):=by rw[e76];have n:Ai h (h.new (cz [.Ob,.Bv] 99)):=(Ai.refl h).new _;refine Ey rfl (Ey ((λe=>by have:=m.Gs (h1:=e);grind:∀e,Fo v e=.ok (iI lxs.length) e) _) ?_);have k:h.nx<(h.new (cz [.Ob,.Bv] 99)).nx:=Up _;obtain⟨r,h1,p,_,x,u⟩:=Biv Z N f g l j m n (Ye _) k d i q o lxs.length 0 N _ _ om om (WG.refl k) ⟨k,_,_,.inl rfl,Bf _,Fm.nil ..⟩;exact⟨r,_,p,WG.own n u (Ye _),x⟩
def Bt8:Prop:=∀(v w:AV) (l:List Nd) (h:H),Ue h v l->Ue h w l->l.length<=3000->Ah h (λr _=>r=uz) (Z.call 58 [v,w] h)
def Bt9:Prop:=∀(v w:AV) (l:List (Int × Int)) (h:H),OkS h v l->OkS h w l->l.length<=3000->Ah h (λr _=>r=uz) (Z.call 59 [v,w] h)
variable {w:AV}
def BdM{l:List Nd}(k:Ue h v l)(e:Ue h w l)(q:l.length<=3000):∀(u i n:Nat) (hd:H) (f0:L2),i+u=l.length->u<n->Ai h hd->Ah h (λr _=>r=uz) (A36 Z N n v w (iI l.length) (iI i) f0 hd)
|0,i,n,hd,f0,hi,hn,g=>by obtain⟨n1,rfl⟩:∃n1,n=n1+1:=⟨n-1,by omega⟩;have o:decide ((i:Int)<(l.length:Int))=false:=df;have p:decide (i<l.length)=false:=df;rw[BcS];refine wk ?_;exact Lo g rfl
|u+1,i,n,hd,f0,hi,hn,g=>by
 obtain⟨n1,rfl⟩:∃n1,n=n1+1:=⟨n-1,by omega⟩;have z:=BdM k e q u (i+1) n1;have o:decide ((i:Int)<(l.length:Int))=true:=dt;have p:decide (i<l.length)=true:=dt;obtain⟨x,m⟩:∃x,l[i]?=some x:=⟨_,Oh om⟩;obtain⟨A,G,j⟩:=R0.elem (f:=Bw) (s:=3) (λ_=>rfl) (Sl.By k g.keeps) m;have⟨b2,E,c⟩:=R0.elem (f:=Bw) (λ_=>rfl) (Sl.By e g.keeps) m;have C:=j.ia;have F:=j.all;have D:=c.ia;have B:=c.all;have y:∀d,Aj _ _ _ _ (.agg (Bw x)) (.agg (Bw x)) d=.ok ux d:=λd=>by rw[Bo7];simp
 rw[BcS];exact wk ((show ∀hd f0 g,_ from(λhd f0=>z hd f0 om om)) _ _ (g.trans Ex))
def B29(g:4000<N){l}(e:Ue h v l)(d:Ue h w l)(f:l.length<=3000):Ah h (λr _=>r=uz) (mr Z N 58 [v,w] h):=by have l1:∀c,Fo v c=.ok ..:=λc=>e.Gs;rw[Bza];refine Ey (l1 h) (Ey ((λc=>d.Gs) h) (Ey (Y6 ..) ?_));rw[Ws rfl];exact Ae5 (Ey (l1 h) (BdM Z N e d f l.length 0 N h _ om om (Ai.refl h)))
def BdN{l:List (Int × Int)}(k:OkS h v l)(e:OkS h w l)(p:l.length<=3000):∀(u i n:Nat) (hd:H) (f0:L2),i+u=l.length->u<n->Ai h hd->Ah h (λr _=>r=uz) (A3Z Z N n v w (iI l.length) (iI i) f0 hd)
|0,i,n,hd,f0,hi,hn,g=>by obtain⟨n1,rfl⟩:∃n1,n=n1+1:=⟨n-1,by omega⟩;have o:decide ((i:Int)<(l.length:Int))=false:=df;have A:decide (i<l.length)=false:=df;rw[BcT];refine wk ?_;exact Lo g rfl
|u+1,i,n,hd,f0,hi,hn,g=>by
 obtain⟨n1,rfl⟩:∃n1,n=n1+1:=⟨n-1,by omega⟩;have y:=BdN k e p u (i+1) n1;have o:decide ((i)<l.length)=true:=dt;have⟨x,m⟩:∃x,l[i]?=some x:=⟨_,Oh om⟩;have⟨z,G,j⟩:=R0.elem (f:=Zd) (λ_=>rfl) (Sl.By k g.keeps) m;have⟨b2,E,c⟩:=R0.elem (f:=Zd) (λ_=>rfl) (Sl.By e g.keeps) m;have C:=j.ia;have F:=j.all;have D:=c.ia;have B:=c.all;have q:∀d,Aj _ _ _ _ (.agg (Zd x)) (.agg (Zd x)) d=.ok ux d:=λd=>by rw[Bo8];simp
 rw[BcT];exact wk ((show ∀hd f0 g,_ from(λhd f0=>y hd f0 om om)) _ _ (g.trans Ex))
def B2A(g:4000<N){l}(e:OkS h v l)(d:OkS h w l)(f:l.length<=3000):Ah h (λr _=>r=uz) (mr Z N 59 [v,w] h):=by have l1:∀c,Fo v c=.ok ..:=λc=>e.Gs;rw[Bzb];refine Ey (l1 h) (Ey ((λc=>d.Gs) h) (Ey (Y6 ..) ?_));rw[Ws rfl];exact Ae5 (Ey (l1 h) (BdN Z N e d f l.length 0 N h _ om om (Ai.refl h)))
variable {Q:Qr}{ve vo vm:AV}
def sC(Q:Qr):uw:=[.I6 3 (iI Q.c0),.I6 3 (iI Q.c2),.I6 3 (iI Q.c3),.I6 3 (iI Q.c4),.I6 3 (iI Q.c5),.I6 9 (.str Q.s6),.I6 3 (iI Q.c7),.I6 3 (iI Q.c9),.I6 4 (.bool Q.Wz),.I6 9 (.str Q.Uw),.I6 3 (iI Q.W0),.I6 9 (.str Q.Wu),.I6 9 (.str Q.s14),.I6 9 (.str Q.s15),.I6 3 (iI Q.c16),.I6 25 (.str Q.Oi),.I6 3 (iI Q.Mg),.I6 3 (iI 0)]
def BwA:tk prog 106=.array 18 20 1:=rfl
def B35:tk prog 20=.iface:=rfl
def B36:tk prog 25=.string:=rfl
def B3A:tk prog 4=.bool:=rfl
def B12:Ft prog 20=some none:=rfl
def ByG:(prog.info? 3).any (·.comparable)=true:=rfl
def ByI:(prog.info? 9).any (·.comparable)=true:=rfl
def ByH:(prog.info? 4).any (·.comparable)=true:=rfl
def Bu7:(prog.info? 25).any (·.comparable)=true:=rfl
def Buc d a b:aeq prog (d+1) 25 (.str a) (.str b)=some (decide (a=b)):=by show Dy ..=_;unfold Dy;rw[B36,<- Aap];rfl
def By4 d a:aeq prog (d+1) 4 (.bool a) (.bool a)=some true:=by show some _=some _;simp
def Bdr d(T:TypeId) v(e:Nat.beq T T=true)(hc:(prog.info? T).any (·.comparable)=true)(c:aeq prog d T v v=some true):aeq prog (d+1) 20 (.I6 T v) (.I6 T v)=some true:=by show @Bool.rec _ _ ..=_;simp[*]
def A2e eq A:∀n i,(∀x∈A,eq 20 x x=some true)->i+n<=A.length->Amv prog eq 20 1 n i A A=some true
|0,i,_,_=>rfl
|n+1,i,hA,hi=>by
 have⟨x,c⟩:∃x,A[i]?=some x:=⟨_,Oh om⟩;have p:Hc prog 20 A (i*1)=some x:=by rw[A5h,B12,A0A,ae,Ab6,c]
 show(match Hc _ _ A _,Hc _ _ A _ with
  |some x,some y=>match eq _ x y with
   |some true=>Amv _ _ _ 1 n _ A A
   |some false=>some _
   |none=>none
  |_,_=>none)=_;rw[p];simp[hA x (Vl c)];exact A2e _ A n _ hA om
def BuM(Q:Qr)(c:H):bo .eql 106 false (.agg (sC Q)) (.agg (sC Q)) c=.ok uz c:=by
 have e:∀n:Int,aeq prog 19 20 (.I6 3 (iI n)) (.I6 3 (iI n))=some true:=λn=>Bdr 18 3 _ rfl ByG (by rw[Bp0];simp);have j:∀n:uq,aeq prog 19 20 (.I6 9 (.str n)) (.I6 9 (.str n))=some true:=λn=>Bdr 18 9 _ rfl ByI (by rw[Bp1];simp);have d:∀n:uq,aeq prog 19 20 (.I6 25 (.str n)) (.I6 25 (.str n))=some true:=λn=>Bdr 18 25 _ rfl Bu7 (by rw[Buc];simp);have f:∀n:Bool,aeq prog 19 20 (.I6 4 (.bool n)) (.I6 4 (.bool n))=some true:=λn=>Bdr 18 4 _ rfl ByH (By4 17 n);have g:aeq prog 20 106 (.agg (sC Q)) (.agg (sC Q))=some true:=by show Dy _ _ _ _ _=_;unfold Dy;rw[BwA];show Amv _ _ 20 1 18 0 (sC Q) (sC Q)=_;refine A2e _ _ 18 0 ?_ (by show 0+18<=18;grind);unfold sC;simp[*]
 have i:Xm prog 106 false (O6 (.agg (sC Q))) (O6 (.agg (sC Q)))=true:=by rfl
 show(@Bool.rec (λ_=>OR) (.bad 39) ((match aeq prog 20 106 (.agg (sC Q)) (.agg (sC Q))with|some b=>OR.ok (.bool (false != b)) c|none=>.bad 38)) (Xm prog 106 false (O6 (.agg (sC Q))) (O6 (.agg (sC Q)))):OR)=_;simp_all
def BtA:Prop:=∀(Q:Qr) (ve vo vm:AV) (h:H),Ah h (λr _=>r=.agg (sC Q)) (Z.call 60 [.agg (qc Q ve vo vm)] h)
def B2B:Ah h (λr _=>r=.agg (sC Q)) (mr Z N 60 [.agg (qc Q ve vo vm)] h):=by
 rw[Bzc];obtain⟨d,g⟩:∃d,d=(h.new (cz (qc Q ve vo vm) 27)).new (cz (List.replicate 18 .B3) 106):=⟨_,rfl⟩;have j:Ai h d:=by rw[g];exact((Ai.refl h).new _).new _
 have c0:Nv d h.nx (qc Q ve vo vm):=by rw[g];exact((Ai.refl _).new _).keeps.cont _ _ ⟨Up _,_,_,Bf _,trivial⟩
 have g1:d.m.get (h.nx+1)=cz (List.replicate 18 .B3) 106:=by rw[g];exact Bf (h:=h.new _) _
 have f:∀(o:Nat) (i:H),Bs (.ptr h.nx 0) o i=.ok (.ptr h.nx o) i:=λo i=>by simp_all
 refine Ey (Hg ..) (Ey (v:=.ptr (h.nx+1) 0) (h:=d) (by simp_all) ?_);clear g;refine Ey (f 0 d) (Ey (c0.one (o:=0) (x:=iI Q.c0) rfl d (Bi.refl _)) ?_);refine Ey (f 2 d) (Ey (c0.one (o:=2) (x:=iI Q.c2) rfl d (Bi.refl _)) ?_);refine Ey (f 3 d) (Ey (c0.one (o:=3) (x:=iI Q.c3) rfl d (Bi.refl _)) ?_);refine Ey (f 4 d) (Ey (c0.one (o:=4) (x:=iI Q.c4) rfl d (Bi.refl _)) ?_);refine Ey (f 5 d) (Ey (c0.one (o:=5) (x:=iI Q.c5) rfl d (Bi.refl _)) ?_);refine Ey (f 6 d) (Ey (c0.one (o:=6) (x:=.str Q.s6) rfl d (Bi.refl _)) ?_);refine Ey (f 7 d) (Ey (c0.one (o:=7) (x:=iI Q.c7) rfl d (Bi.refl _)) ?_);refine Ey (f 9 d) (Ey (c0.one (o:=9) (x:=iI Q.c9) rfl _ (Bi.refl _)) ?_);refine Ey (f ..) (Ey (c0.one rfl _ (Bi.refl _)) (Ey (f ..) (Ey (c0.one rfl _ (Bi.refl _)) (Ey (f ..) (Ey (c0.one rfl _ (Bi.refl _)) (Ey (f ..) (Ey (c0.one rfl _ (Bi.refl _)) (Ey (f ..) (Ey (c0.one rfl _ (Bi.refl _)) (Ey (f ..) (Ey (c0.one rfl _ (Bi.refl _)) (Ey (f ..) (Ey (c0.one rfl _ (Bi.refl _)) (Ey (f ..) (Ey (c0.one rfl _ (Bi.refl _)) (Ey (f ..) (Ey (c0.one rfl _ (Bi.refl _)) ?_)))))))))))))))));apply Ey rfl;have k:A4 18 (.ptr (h.nx+1) 0) (.agg (sC Q)) d=.ok (.Bj []) (d.put (h.nx+1) (cz (sC Q) 106)):=by unfold sC;simp[g1,lw]
 apply Ey k;have e:Vk [.c (some (some 18)) (.ptr (h.nx+1) 0)] (d.put (h.nx+1) (cz (sC Q) 106))=.ok (.agg (sC Q)) (d.put (h.nx+1) (cz (sC Q) 106)):=by show(match match match (d.put ..).rd _ with|some c=>Tn _ c 0|none=>none,some _ with|some v,some l=>some (v::l)|_,_=>none with|some l=>OR.ok ..|none=>.bad _)=_;rw[(by rw[AaS,A2 ..];rfl:(d.put (h.nx+1) (cz (sC Q) 106)).rd (h.nx+1)=some (sC Q))];rfl
 rw[e];exact Lo (j.put _ _ om) rfl
variable {we wo wm:AV}
def cv0(g:FuncId)(c:Bg prog g=true)(x:AV)(h:H):cvV (.fn (.func g) [] []) [x] prog Z h=Z.call g [x] h:=by rw[AeY,Xo c];rfl
def R77:Prop:=∀(Q:Qr) (ve vo vm we wo wm:AV) (h:H),QV h Q ve vo vm->QV h Q we wo wm->Q.code.length<=3000->Q.ord.length<=3000->Q.E9.length<=3000->Ah h (λr _=>r=uz) (Z.call 22 [.agg (qc Q ve vo vm),.agg (qc Q we wo wm)] h)
def Buh:Bg prog 60=true:=rfl
def r77(l:Bt8 Z)(D:Bt9 Z)(p:BtA Z)(E:QV h Q ve vo vm)(I:QV h Q we wo wm)(l1:Q.code.length<=3000)(l2:Q.ord.length<=3000)(l3:Q.E9.length<=3000):
 Ah h (λr _=>r=uz) (mr Z N 22 [.agg (qc Q ve vo vm),.agg (qc Q we wo wm)] h):=by
 rw[e77];have R:∀(x:AV) (d:H),cvV (.fn (.func 60) [] []) [x] prog Z d=Z.call 60 [x] d:=λx d=>cv0 Z 60 Buh x d;obtain⟨f,i⟩:∃f,f=(h.new (cz (qc Q ve vo vm) 27)).new (cz (qc Q we wo wm) 27):=⟨_,rfl⟩;have j:Ai h f:=by rw[i];exact((Ai.refl h).new _).new _
 have g1:f.m.get h.nx=cz (qc Q ve vo vm) 27:=by rw[i,Cq _ _ (by simp_all)];simp
 have g2:f.m.get (h.nx+1)=cz (qc Q we wo wm) 27:=by rw[i];exact Bf (h:=h.new _) _
 have nb:f.nx=h.nx+2:=by simp_all
 refine Ey (Hg ..) (Ey (v:=.ptr (h.nx+1) 0) (h:=f) (by simp_all) ?_);clear i;have T:=λd (g:Ai f d)=>l ve we Q.code d (Sl.By E.c (j.trans g).keeps) (Sl.By I.c (j.trans g).keeps) l1;have c2:=λd (g:Ai f d)=>l vm wm Q.E9 d (Sl.By E.m (j.trans g).keeps) (Sl.By I.m (j.trans g).keeps) l3;have c3:=λd (g:Ai f d)=>D vo wo Q.ord d (Sl.By E.o (j.trans g).keeps) (Sl.By I.o (j.trans g).keeps) l2;have c4:=λd=>p Q ve vo vm d;have c5:=λd=>p Q we wo wm d;have B7x:=BuM Q;obtain⟨A,hA⟩:∃A,A=qc Q ve vo vm:=⟨_,rfl⟩;obtain⟨B,G⟩:∃B,B=qc Q we wo wm:=⟨_,rfl⟩;have Ad9:A[1]?=some ve:=by simp_all
 have AdJ:A[8]?=some vo:=by rw[hA];rfl
 have AdT:A[17]?=some vm:=by simp[*]
 have AdU:B[1]?=some we:=by simp[*]
 have Aej:B[8]?=some wo:=by simp_all
 have V:B[17]?=some wm:=by rw[G];rfl
 have hbK:=Bi.refl f;have xA:∀d:H,Bi f d->Ae (some (some 20)) (.ptr h.nx 0) d=.ok (.agg A) d:=λd e=>(⟨by omega,_,_,g1,trivial⟩:Nv f h.nx (qc Q ve vo vm)).many (o:=0) (n:=20) (by simp_all) (by rw[hA];rfl) d e;have xB:∀d:H,Bi f d->Ae (some (some 20)) (.ptr (h.nx+1) 0) d=.ok (.agg B) d:=λd e=>(⟨by omega,_,_,g2,trivial⟩:Nv f (h.nx+1) (qc Q we wo wm)).many (o:=0) (n:=20) (by simp) (by rw[G];rfl) d e;rw[<- hA]at g1 c4;rw[<- G]at g2 c5;generalize sC Q=S at *;have J:Ai f f:=Ai.refl f;clear hA G E I l D p;have wt:∀(w:Bool) (r:OR) (d:H),Ad (.Bj []) w r d=.ok (.Bj []) d:=λw r d=>A0V [] w r d;refine wk ?_;refine Fj (T _ J) λF h3 U l4 k q3=>?_;subst q3;have z:=(k h.nx om).trans g1;have C:=(k (h.nx+1) om).trans g2;clear T k;refine wk ?_;refine Fj (c2 _ U) λF h4 e4 l5 u q4=>?_;subst q4;have y:=U.trans e4;have P:=(u h.nx om).trans z;have L:=(u (h.nx+1) om).trans C;clear c2 u z C g1 g2;refine wk ?_;refine Fj (c3 _ y) λF h5 W l6 M q5=>?_;subst q5;have q:=y.trans W;have K5:=q.keeps;have K:=j.trans q;clear c3 M P L;refine wk ?_;rw[show cvV (.fn (.func 60) [] []) [.agg A] prog Z=Z.call 60 [.agg A]from funext (R _)];refine zc2 (c4 _) λF h6 e6 l7 O q6=>?_;subst q6;have e36:=q.trans (Ai.Rc e6);have K6:=e36.keeps;clear c4 O;refine wk ?_;rw[show cvV (.fn (.func 60) [] []) [.agg B] prog Z=Z.call 60 [.agg B]from funext (R _)];refine zc2 (c5 _) λF h7 Y l8 AvU X=>?_;subst X;exact wk (Lo ((j.trans (e36.trans (Ai.Rc Y))).nl.nl.Be K) rfl)
end Go.Proofs

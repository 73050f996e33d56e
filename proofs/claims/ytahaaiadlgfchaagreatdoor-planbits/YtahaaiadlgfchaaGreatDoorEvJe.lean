/- Calls of numbers' -/
import Derived.Test.YtahaaiadlgfchaaGreatDoorEvJd
set_option linter.all false
set_option maxRecDepth 100000
noncomputable section
namespace Go.Proofs
open Go Go.Ev Go.Nm Tryz Go.Ev.Sx
open Go.Proofs.YtahaaiadlgfchaaGreatDoor
attribute [local irreducible] Aa Al Af Ad
variable (Z:Ac)(N:Nat)
variable {ss:List Abn}{q:Qr}{vc vo vm sv:AV}{a:Abn}{h h0 h1:H}
def CjV:Prop:=∀h:H,Ah h (λr _=>r=.agg BwO) (Z.call 24 [] h)
structure BrJ(Z:Ac)(q:Qr)(s r:Int)(n d:Nat)(sp:Int)(x y l:List Nat):Prop where
 dr:∀(vc vo vm:AV) (h:H),GP h->AtD vc vo vm->Ah h (λu _=>u=iI (d:Int)) (Hn prog Z (A0s q.c0) (mnm prog 115 0) [.agg (lnC q vc vo vm s r (n:Int))] h)
 pm:∀(vc vo vm:AV) (b:Nat) (h:H),GP h->AtD vc vo vm->b<h.nx->9<=b->h.m.get b=.cells (plC q vc vo vm r s d 0 [] [] q.Oi [] [] [] 0) 72 .exact->Ah H0 (PmR b (.Bj []) (plC q vc vo vm r s d sp x y q.Oi [] [] [] 0) h) (Hn prog Z (A0s q.c0) (mnm prog 115 2) [.agg (lnC q vc vo vm s r (n:Int)),.ptr b 0] h)
 lt:∀(vc vo vm:AV) (b:Nat) (h:H),GP h->AtD vc vo vm->b<h.nx->9<=b->h.m.get b=.cells (plC q vc vo vm r s d sp x y q.Oi [] [] [] 0) 72 .exact->Ah H0 (PmR b (.str l) (plC q vc vo vm r s d sp x y q.Oi [] [] [] 0) h) (Hn prog Z (A0s q.c0) (mnm prog 115 1) [.agg (lnC q vc vo vm s r (n:Int)),.ptr b 0] h)
def Cnq{s r sp:Int}{n d:Nat}{x y l l1 l2:uw}(CtH:CjV Z)(Wc:B0f Z)(hF:CaH Z)(Cb4:Cf5 Z)(R1:R18 Z)(U7:R26 Z)(U8:R27 Z)(M:BrJ Z q s r n d sp x y l)(hd:1<=d/\d<=15)(B6F:∀vc vo vm h,Ao5 ss q vc vo vm sv h->Ah h (λu _=>u=.Bj [.agg (lnC q vc vo vm s r (n:Int)),ux]) (Z.call 22 [.agg (qc q vc vo vm),sv] h))
 (Cup:T4 27 [49] l l1) (Kr:∀h,GP h->Z.call 29 [.agg [.str q.Oi,.str [48]],.str l1] h=.ok (.Bj [.agg [.str q.Oi,.str l2],iI 0]) h)
 (K:Ao5 ss q vc vo vm sv h) (ha:a∈ss) (hn:a.name=q.Uw) (hp:a.pub=false):Ah h (λu _=>∃vc' vo' vm',AtD vc' vo' vm'/\u=.Bj [.agg (plP q vc' vo' vm' r s d sp x y q.Oi l1 q.Oi l2 (10+(d:Int)*(q.Mg+4))),iI 0]) (Ay prog Z N false 7 [.agg (qc q vc vo vm),sv] h):=by
 have hk:=K.ok.pre.kind;have CtX:=K.ok.pre.bits;have kat:=Cdz hk;have hgp:=K.gp;replace M:=(hU M)
 rw[Clt];obtain⟨c1,c2⟩:=B2 K.qv.c;obtain⟨o1,o2⟩:=B2 K.qv.o;obtain⟨m1,m2⟩:=B2 K.qv.m;have J:=λi (e:Ai h i)=>R1 ss q vc vo vm sv i (K.gr e).sd K.l3 K.V (K.gr e).qv K.ok (K.gr e).gp;have I:=λi (e:Ai h i)=>U7 q.code vc i (K.qv.By e.keeps).c (by have:=A9N K.ok.code;omega)
 have T:=λi (e:Ai h i)=>U7 q.E9 vm i (K.qv.By e.keeps).m (by have:=A9N K.ok.E9;omega)
 have L:=λi (e:Ai h i)=>U8 q.ord vo i (K.qv.By e.keeps).o (by have:=K.ok.ord;omega)
 replace J:=(hU J)
 replace I:=(hU I)
 replace T:=(hU T)
 replace L:=(hU L)
 clear R1 U7 U8;replace K:=(hU K)
 obtain⟨c0,code,d2,d3,c4,c5,s6,c7,ord,c9,Wz,Uw,W0,E,A,F,U3,E9,Oi,Mg⟩:=q;refine we ?_;refine Fj ((gw J) _ Ex) λv1 h1 e1 l1 O q1=>?_
 obtain rfl:v1=_:=q1;have g1:Ai h h1:=Ai.trans Ex e1;simp only[C9]at l1 O;have s1:=(O h.nx om).trans ((Cq _ _ (Lb (Y3 _))).trans (Bf _));have t1:=(O (h.nx+1) om).trans (Bf (h:=h.new _) _);clear O e1 J;refine we ?_;refine Fj ((gw I) _ Ex) λv2 h2 e2 l2 Aae q2=>?_
 obtain⟨a1,a2⟩:=B2 q2.sl;have g2:Ai h h2:=Ai.trans Ex e2;have w2:wrote h1.nx h2.lg=[]:=e2.quiet;simp only[C9]at l2;have s2:=(Aae h.nx mh).trans s1;have t2:=(Aae (h.nx+1) mh).trans t1;clear Aae s1 t1;refine we ?_;refine Fj ((gw T) _ Ex) λv3 h3 e3 l3 Ary q3=>?_
 obtain⟨a3,a4⟩:=B2 q3.sl;have g3:Ai h h3:=Ai.trans Ex e3;have w3:wrote h2.nx h3.lg=[]:=e3.quiet;simp only[C9]at l3;have s3:=(Ary h.nx mh).trans s2;have t3:=(Ary (h.nx+1) mh).trans t2;clear Ary s2 t2;refine we ?_;refine Fj ((gw L) _ Ex) λv4 U e4 l4 A9W q4=>?_
 obtain⟨a5,a6⟩:=B2 q4.sl;have g4:Ai h U:=Ai.trans Ex e4;have w4:wrote h3.nx U.lg=[]:=e4.quiet;simp only[C9]at l4;have s4:=(A9W h.nx mh).trans s3;have t4:=(A9W (h.nx+1) mh).trans t3;clear A9W s3 t3;refine we ?_;have B68:Ai h2 h3:=Ai.trans Ex e3;have BvX:Ai h3 U:=Ai.trans Ex e4;have kc:=q2.By (B68.trans BvX).keeps;have km:=q3.By BvX.keeps;have ko:=q4;have ic:Vu 20 (U.m.get h.nx)=true:=by rw[s4];rfl
 generalize j:Be _ _=hA;have gA:Ai h hA:=by rw[<- j];exact Ex
 have nA:hA.nx=U.nx:=by rw[<- j];rfl
 have sA:hA.m.get h.nx=cd (qc ⟨c0,code,d2,d3,c4,c5,s6,c7,ord,c9,Wz,Uw,W0,E,A,F,U3,E9,Oi,Mg⟩ v2 v4 v3) 30:=by rw[<- j];exact A2 _ _
 have tA:hA.m.get (h.nx+1)=cd plZ 34:=by rw[<- j];exact(Aq _ _ _ om).trans ((Aq _ _ _ om).trans ((Aq _ _ _ om).trans t4))
 have qA:QV hA ⟨c0,code,d2,d3,c4,c5,s6,c7,ord,c9,Wz,Uw,W0,E,A,F,U3,E9,Oi,Mg⟩ v2 v4 v3:=by
  rw[<- j];refine⟨?_,?_,?_⟩
  .refine AmY.sl (lo:=h1.nx) ?_;repeat' (first|exact kc|with_reducible apply AmY.nl|with_reducible apply AmY.rl|with_reducible apply AmY.put)
   all_goals first|omega|(rw[show(Ab U).m.get h.nx=_ from s4];rfl)|(show Vu _ (H.m.get _ _)=true;rw[A2];rfl)|(refine(Jh (Vu _) (A2 _ _)).trans rfl)
  .refine AmY.sl (lo:=h3.nx) ?_;repeat' (first|exact ko|with_reducible apply AmY.nl|with_reducible apply AmY.rl|with_reducible apply AmY.put)
   all_goals first|omega|(rw[show(Ab U).m.get h.nx=_ from s4];rfl)|(show Vu _ (H.m.get _ _)=true;rw[A2];rfl)|(refine(Jh (Vu _) (A2 _ _)).trans rfl)
  .refine AmY.sl (lo:=h2.nx) ?_;repeat' (first|exact km|with_reducible apply AmY.nl|with_reducible apply AmY.rl|with_reducible apply AmY.put)
   all_goals first|omega|(rw[show(Ab U).m.get h.nx=_ from s4];rfl)|(show Vu _ (H.m.get _ _)=true;rw[A2];rfl)|(refine(Jh (Vu _) (A2 _ _)).trans rfl)
 have k:Ao5 ss ⟨c0,code,d2,d3,c4,c5,s6,c7,ord,c9,Wz,Uw,W0,E,A,F,U3,E9,Oi,Mg⟩ vc vo vm sv h:=K;have KA:Ao5 ss ⟨c0,code,d2,d3,c4,c5,s6,c7,ord,c9,Wz,Uw,W0,E,A,F,U3,E9,Oi,Mg⟩ v2 v4 v3 sv hA:=⟨(k.gr gA).sd,k.l3,k.V,qA,k.ok,(k.gr gA).gp⟩;have B66:=B6F v2 v4 v3 hA KA;have bA:h.nx+1<hA.nx:=by omega
 have hO:AtD v2 v4 v3:=⟨⟨a1,a2⟩,⟨a5,a6⟩,⟨a3,a4⟩⟩;clear KA k K qA kc km ko q2 q3 q4 j I T L s4 t4 w2 w3 w4 B68 BvX e2 e3 e4 l2 l3 l4 g2 g3 g4 ic g1 l1 B6F;refine Fj B66 λv5 t e5 l5 Y q5=>?_;obtain rfl:v5=_:=q5;have g5:Ai h t:=gA.trans e5;have s5:=(Y h.nx om).trans sA;have t5:=(Y (h.nx+1) om).trans tA;have b5:h.nx+1<t.nx:=by omega
 clear Y e5 sA tA B66;refine we ?_;refine Fj (CtH _) λv6 h6 e6 l6 Q q6=>?_;subst q6;have g6:Ai h h6:=Ai.trans Ex e6;have w6:wrote t.nx.succ h6.lg=[]:=e6.quiet;simp only[C9]at l6;have s6':=(Q h.nx mh).trans ((Aq _ _ _ om).trans ((Cq _ _ om).trans s5));have t6':=(Q (h.nx+1) mh).trans ((Aq _ _ _ om).trans ((Cq _ _ om).trans t5));have p6':=(Q t.nx mh).trans (A2 _ _);have b56:h.nx+1<t.nx:=b5;clear Q s5 t5;have R:BrJ Z ⟨c0,code,d2,d3,c4,c5,s6,c7,ord,c9,Wz,Uw,W0,E,A,F,U3,E9,Oi,Mg⟩ s r n d sp x y l:=M;have B:=λi (e:Ai h i)=>R.dr v2 v4 v3 i (hgp.gr e) hO;have w:=λb i (p:GP i)=>R.pm v2 v4 v3 b i p hO;have C:=λb i (p:GP i)=>R.lt v2 v4 v3 b i p hO;simp only at B w C kat hd;obtain⟨d1,d15⟩:=hd;have dd0:(0:Int)<=(d:Int):=by omega
 have dd1:(d:Int)<=15:=by omega
 replace B:=(hU B)
 replace w:=(hU w)
 replace C:=(hU C)
 clear M R d1 d15;generalize (n:Int)=ni at *
 generalize (d:Int)=di at *
 generalize A0s c0=kv at *
 refine we ?_;have gX:Ai h (Ab (Ab (Be (t.nx::t.lg) (Ab h6)))):=Ex;refine Fj ((gw B) _ gX) λv7 G e7 l7 S q7=>?_
 subst q7;have g7:Ai h G:=gX.trans e7;have w7:wrote h6.nx G.lg=[]:=e7.quiet;simp only[C9]at l7;have s7:=(S h.nx mh).trans s6';have t7:=(S (h.nx+1) mh).trans t6';have p7:=(S t.nx mh).trans p6';clear S s6' t6' p6' B;refine we ?_;generalize j:Be _ _=hB;have gB:Ai h hB:=by rw[<- j];exact Ex
 have nB:hB.nx=G.nx+1:=by rw[<- j];rfl
 have uB:hB.m.get G.nx=cd (plC ⟨c0,code,d2,d3,c4,c5,s6,c7,ord,c9,Wz,Uw,W0,E,A,F,U3,E9,Oi,Mg⟩ v2 v4 v3 r s di 0 [] [] Oi [] [] [] 0) 72:=by rw[<- j];exact Bf (h:=Ab (Ab G)) _
 have sB:hB.m.get h.nx=cd (qc ⟨c0,code,d2,d3,c4,c5,s6,c7,ord,c9,Wz,Uw,W0,E,A,F,U3,E9,Oi,Mg⟩ v2 v4 v3) 30:=by rw[<- j];exact(Cq (h:=Ab G) _ _ mh).trans s7
 have tB:hB.m.get (h.nx+1)=cd plZ 34:=by rw[<- j];exact(Cq (h:=Ab G) _ _ mh).trans t7
 have pB:hB.m.get t.nx=cd (lnC ⟨c0,code,d2,d3,c4,c5,s6,c7,ord,c9,Wz,Uw,W0,E,A,F,U3,E9,Oi,Mg⟩ v2 v4 v3 s r ni) 61:=by rw[<- j];exact(Cq (h:=Ab G) _ _ mh).trans p7
 have P:GP hB:=hgp.gr gB;have W:9<=G.nx:=by have:=hgp.lt;omega
 have b57:t.nx<G.nx:=by omega
 clear j s7 t7 p7 w6 w7 g6 g7 gX e6 e7 l6 l7 g5 gA nA l5 bA;generalize G.nx=b at *
 refine BlN ((gw w) b hB P om W uB) λv8 h8 k8=>?_
 obtain⟨rfl,u8,m8⟩:=k8;have X:GP h8:=P.md m8 W;have p8:=(m8.Cf t.nx om om).trans pB;have l8:=m8.lo;refine Ey (Wc b _ h8 ⟨u8,by omega,rfl,rfl⟩) ?_;have h50:t.nx<h8.nx:=by omega
 refine we ?_;refine BlN ((gw C) b h8 X om W u8) λv9 h9 k9=>?_
 obtain⟨rfl,u9,m9⟩:=k9;have gp9:GP h9:=X.md m9 W;have l9:=m9.lo;have m89:=m8.trans m9;clear w C p8 u8 X pB uB m9 m8;refine we ?_;have mN:AoA b hB (h9.new (cd [.str l] 28)):=m89.new _;have uN:(h9.new (cd [.str l] 28)).m.get b=_:=(Cq _ _ om).trans u9;have g26:=hF 27 b h9.nx _ [49] l l1 (h9.new (cd [.str l] 28)) (by kernel_rfl) ⟨uN,by show b<h9.nx+1;omega,rfl,rfl⟩ (P.md mN W) (Y3 _) (Bf _) Cup
 refine Ey g26 ?_;refine we ?_;generalize hE2:H.put _ b _=hC;have mC:AoA b hB hC:=by rw[<- hE2];exact(mN.put _).put _
 have uC:hC.m.get b=cd (plC ⟨c0,code,d2,d3,c4,c5,s6,c7,ord,c9,Wz,Uw,W0,E,A,F,U3,E9,Oi,Mg⟩ v2 v4 v3 r s di sp x y Oi l1 [] [] 0) 72:=by rw[<- hE2];exact A2 _ _
 have gC:Ai h hC:=mC.gr h gB om;have sC:=(mC.Cf h.nx om om).trans sB;have tC:=(mC.Cf (h.nx+1) om om).trans tB;have lC:=mC.lo;refine ChS (q:=⟨c0,code,d2,d3,c4,c5,s6,c7,ord,c9,Wz,Uw,W0,E,A,F,U3,E9,Oi,Mg⟩) (vc:=v2) (vo:=v4) (vm:=v3) (h0:=h) Z N Wc Cb4 hO (P.md mC W) W om om om sC uC Kr (λhd f0 md ud=>?_) _;have ld:=md.lo;refine Ah.mono (ChT (q:=⟨c0,code,d2,d3,c4,c5,s6,c7,ord,c9,Wz,Uw,W0,E,A,F,U3,E9,Oi,Mg⟩) (vc:=v2) (vo:=v4) (vm:=v3) (h0:=h) Z N Wc hO (md.gr h gC om) om om om om om om om ⟨dd0,dd1⟩ CtX ((md.Cf _ om om).trans sC) ((md.Cf _ om om).trans tC) ud f0) λu i _ e=>⟨v2,v4,v3,hO,e⟩
end Go.Proofs
namespace Go.Proofs.Anf
open Go Go.Ev Go.Nm Go.Ev.Sx
open Go.Proofs Go.Proofs.YtahaaiadlgfchaaGreatDoor
variable {j:FuncId}
def upH{g:FuncId}{args:uz}{h h':H}{v:AV}{q:Bool}{d:Nat}(c:ArK g=λ_=>none)(b:Ay PP (C d) N0x q g args h=.ok v h'):(C (d+1)).call g args h=.ok v h':=B0U (Gp c ⟨v,h',b,Ed _,rfl,rfl⟩)
def pq2{d k:Nat}(h:k+1<=d):∃e,d=e+1:=⟨d-1,by omega⟩
def lkq{x y z:uw}(k:T4 j x y z)(d:Nat):∀h,GP h->(C (d+1)).call j [.str x,.str y] h=.ok (.Bj [.str z,iI 0]) h:=lkZ rfl k
def Cxw{n:Nat}(hn:n<Adw.AdE)(d:Nat):∀h,GP h->(C (d+1)).call 241 [iI (n:Int)] h=.ok (.str (dgn n)) h:=lkZ (zU (uV (vW t241))) (Ay7 (pre:=[]) hn)
def CkE(d:Nat)(hd:1<=d):B0f (C d):=by obtain⟨e,rfl,c⟩:=pr hd;exact λb cs h k=>upH zNo (Cwk _ _ k)
def B0h(d:Nat)(hd:1<=d):Bsc (C d):=by obtain⟨e,rfl,c⟩:=pr hd;exact λb cs v h k=>upH zNo (CwD _ _ v k)
def CkT(d:Nat)(hd:2<=d):Cf9 (C d):=by obtain⟨e,rfl,c⟩:=pr hd;obtain⟨f,rfl⟩:=pq2 c;exact λn h b hn=>upH zNo (CwE _ _ (Cxw hn f) b)
def Cgt(d:Nat)(hd:2<=d):CaH (C d):=by obtain⟨e,rfl,i⟩:=pr hd;obtain⟨f,rfl⟩:=pq2 i;exact λF b bs cs x y z h o k c hb j hz=>upH zNo (Cwl _ _ fe o k c hb j (lkq hz f))
def CqI(d:Nat)(hd:1<=d):Cf5 (C d):=by obtain⟨e,rfl,c⟩:=pr hd;exact λb cs l1 l2 h k=>upH zNo (Cnt _ _ k)
def CqG(d:Nat)(hd:1<=d):CjU (C d):=by obtain⟨e,rfl,b⟩:=pr hd;exact λh=>Gp zNo (Cwi _ _ h)
def CqH(d:Nat)(hd:1<=d):CjV (C d):=by obtain⟨e,rfl,b⟩:=pr hd;exact λh=>Gp zNo (Cwj _ _ h)
def CgG(d:Nat)(hd:3<=d):Cf8 (C d):=by obtain⟨e,rfl,i⟩:=pr hd;exact λb cs n l z h k c h9 hn hz=>Gp zNo (CwC _ _ k c h9 hn (CkT e om) (B0h e om) (Cgt e om) hz)
def CqQ(d:Nat)(hd:4<=d):Ckf (C d):=by obtain⟨e,rfl,k⟩:=pr hd;obtain⟨f,rfl⟩:=pq2 k;exact λfn q vc vo vm r s n A zz d b l z x y e l0 B E h w t o j hb h9 hd p c i=>Gp zNo (Cnu _ _ w t o j hb h9 hd p (CgG _ om) (lkZ rfl c) i)
section
variable {Z:Ac}{x:AV}{l:uz}{h:H}
def CfH:Hn PP Z (.I6 115 x) (mnm PP 115 0) l h=Z.call 266 (x::l) h:=by kernel_rfl
def CfI:Hn PP Z (.I6 115 x) (mnm PP 115 1) l h=Z.call 267 (x::l) h:=by kernel_rfl
def CfJ:Hn PP Z (.I6 115 x) (mnm PP 115 2) l h=Z.call 268 (x::l) h:=by kernel_rfl
def CfK:Hn PP Z (.I6 117 x) (mnm PP 115 0) l h=Z.call 310 (x::l) h:=by kernel_rfl
def CfL:Hn PP Z (.I6 117 x) (mnm PP 115 1) l h=Z.call 311 (x::l) h:=by kernel_rfl
def CfM:Hn PP Z (.I6 117 x) (mnm PP 115 2) l h=Z.call 312 (x::l) h:=by kernel_rfl
def CfN:Hn PP Z (.I6 118 x) (mnm PP 115 0) l h=Z.call 315 (x::l) h:=by kernel_rfl
def CfO:Hn PP Z (.I6 118 x) (mnm PP 115 1) l h=Z.call 316 (x::l) h:=by kernel_rfl
def CfP:Hn PP Z (.I6 118 x) (mnm PP 115 2) l h=Z.call 317 (x::l) h:=by kernel_rfl
def CfQ:Hn PP Z (.I6 119 x) (mnm PP 115 0) l h=Z.call 320 (x::l) h:=by kernel_rfl
def CfR:Hn PP Z (.I6 119 x) (mnm PP 115 1) l h=Z.call 321 (x::l) h:=by kernel_rfl
def CfS:Hn PP Z (.I6 119 x) (mnm PP 115 2) l h=Z.call 322 (x::l) h:=by kernel_rfl
end
variable {q:Qr}{s r:Int}{n dn D:Nat}{x y z l l0 p2:uw}
def CdL(i:A0s q.c0=.I6 115 (.agg [.fn (.func j) [] []]))(t:Bg PP j=true)(d:RDr (C (D+4)) j q n dn)(p:ArK 272 [iI s,.str q.Oi]=some (.Bj [.str x,iI 0]))(e:ArK 269 [.str x,iI q.Mg]=some (.Bj [.str l0,iI 0]))(F:T4 73 (dgn dn) l0 l)(hd:dn<Adw.AdE):BrJ (C (D+5)) q s r n dn 0 x [] l:=by
 refine⟨λvc vo vm h c o=>?_,λvc vo vm b h c o hb h9 k=>?_,λvc vo vm b h c o hb h9 k=>?_⟩
 .rw[i,CfH];exact Gp zNo (CwA _ _ t d c o)
 .rw[i,CfJ];exact Gp zNo (CwB _ _ rfl rfl o rfl c hb h9 k (B0h _ om) (lkZ rfl p))
 .rw[i,CfI];exact Gp zNo (Cnu _ _ rfl rfl o c hb h9 hd k (CgG _ om) (lkZ rfl e) F)
def CdK{d A:uw}(i:A0s q.c0=.I6 117 (.agg []))(hn:1<=n/\n<=8)(p:ArK 313 [iI s,.str q.Oi]=some (.Bj [.str y,iI 0]))(e:ArK 293 [.str y]=some (.Bj [.str d,.str A,iI 0]))(w:1<=d.length/\d.length<=10)(j:ArK 35 [.str [50],iI q.Mg]=some (.Bj [.str p2,iI 0]))(k:T4 278 (dgn (n-1)) p2 l):BrJ (C (D+5)) q s r n 1 ((400/(2*d.length):Nat):Int) [] y l:=by
 refine⟨λvc vo vm h c o=>?_,λvc vo vm b h c o hb h9 t=>?_,λvc vo vm b h c o hb h9 t=>?_⟩
 .rw[i,CfK];exact Gp zNo (CwL _ _ _ rfl o)
 .rw[i,CfM];exact Gp zNo (CwN _ _ o rfl c hb h9 t (B0h _ om) (lkZ rfl p) (lkZ rfl e) w)
 .rw[i,CfL];exact Gp zNo (CwM _ _ hn o c hb h9 ⟨t,hb,rfl,rfl⟩ (CkT _ om) (B0h _ om) (Cgt _ om) (lkZ rfl j) k)
def CdM{t:uw}(e:A0s q.c0=.I6 118 (.agg []))(hn:n<=8)(k:ArK 318 [.str q.Oi]=some (.Bj [.str t,iI 0]))(p:ArK 272 [iI r,.str t]=some (.Bj [.str x,iI 0]))(d:ArK 269 [.str x,iI q.Mg]=some (.Bj [.str l0,iI 0]))(i:T4 73 (dgn (n+1)) l0 l):BrJ (C (D+5)) q s r n (n+1) 0 x [] l:=by
 have hd:n+1<Adw.AdE:=by show n+1<1000000000;omega
 refine⟨λvc vo vm h c o=>?_,λvc vo vm b h c o hb h9 j=>?_,λvc vo vm b h c o hb h9 j=>?_⟩
 .rw[e,CfN];exact Gp zNo (CwO _ _ hn o)
 .rw[e,CfP];exact Gp zNo (CwQ _ _ o rfl c hb h9 j (B0h _ om) (CkE _ om) (lkZ rfl k) (lkZ rfl p))
 .rw[e,CfO];exact Gp zNo (CwP _ _ o c hb h9 hd j (CqQ _ om) d i)
def CdN(d:A0s q.c0=.I6 119 (.agg []))(hn:n<=8)(k:ArK 272 [iI r,.str q.Oi]=some (.Bj [.str x,iI 0]))(e:ArK 323 [.str x,iI q.Mg]=some (.Bj [.str l0,iI 0]))(i:T4 73 (dgn n) l0 l):BrJ (C (D+5)) q s r n n 0 x [] l:=by
 have hd:n<Adw.AdE:=by show n<1000000000;omega
 refine⟨λvc vo vm h c o=>?_,λvc vo vm b h c o hb h9 j=>?_,λvc vo vm b h c o hb h9 j=>?_⟩
 .rw[d,CfQ];exact Gp zNo (CwR _ _ o)
 .rw[d,CfS];exact Gp zNo (CwT _ _ o rfl c hb h9 j (B0h _ om) (lkZ rfl k))
 .rw[d,CfR];exact Gp zNo (CwS _ _ o c hb h9 hd j (CgG _ om) (lkZ rfl e) i)
def Cfd:RDr (C (D+1)) 60 q n 1:=λvc vo vm s r h b o=>Gp zNo (Cwq _ _ o)
def Cnv:RDr (C (D+1)) 61 q n n:=λvc vo vm s r h b o=>Gp zNo (Cwr _ _ o)
def Cnw(hn:n<=8):RDr (C (D+1)) 62 q n (if q.Wz then n+1 else n):=λvc vo vm s r h b o=>Gp zNo (Cws _ _ hn o)
def Cnx(hn:1<=n/\n<=8):RDr (C (D+2)) 63 q n (2^(lvl n).toNat-1):=λvc vo vm s r h b o=>Gp zNo (Cwt _ _ hn b (z64 hn.2 D) o)
def U3{n:Nat}(hn:n<=8)(d:Nat):∀b,GP b->(C (d+1)).call 16 [iI (n:Int)] b=.ok (iI (blk n)) b:=lkZ (zU (uV (vW (show Wt 16=inS [] .i64 9 λn=>iI (blk n)from wS)))) (Ay7 (pre:=[]) (show n<9 by omega))
def Cny(hn:1<=n/\n<=8):RDr (C (D+2)) 65 q n (if q.c9=2 then(blk n).toNat else n):=λvc vo vm s r h b o=>Gp zNo (Cwu _ _ hn b (U3 hn.2 D) o)
variable {f x y z:Adw.Ad2}{m:Nat}{g:Nat->Nat}
def Bd9(h:Adw.A0N x y=some z):Adw.Fr z:=by
 unfold Adw.A0N at h;split at h
 .cases h
 .exact(Adw.AtP h).1
def Bbp{s:Nat}(h:Adw.Aw4 s f=some x):Adw.Fr x:=by
 unfold Adw.Aw4 at h;split at h
 .exact Bd9 h
 .obtain⟨_,_,h⟩:=Uh.1 h;obtain⟨_,_,h⟩:=Uh.1 h;obtain⟨_,_,h⟩:=Uh.1 h;exact Bd9 h
def B6e{s:Nat}(h:Adw.A4M s f=some x):Adw.Fr x:=by unfold Adw.A4M at h;obtain⟨_,_,h⟩:=Uh.1 h;obtain⟨_,_,h⟩:=Uh.1 h;obtain⟨_,_,h⟩:=Uh.1 h;obtain⟨_,_,h⟩:=Uh.1 h;exact(Adw.AtP h).1
def B6L(h:Adw.A0r f=some x):Adw.Fr x:=by unfold Adw.A0r at h;obtain⟨_,_,h⟩:=Uh.1 h;obtain⟨_,_,h⟩:=Uh.1 h;exact Bd9 h
def CdA(g:Nat->Nat)(hn:n<=20):Adw.Fr (Adw.At7 g n):=by have h1:=Adw.Ci1 g n;have h2:=Adw.Bhh hn;exact Adw.Cfc (by show _<1000000000;omega) (by show _<1000000000;omega) (O1 n)
def Chg(h:n<Adw.AdE):Adw.Fr (n,1):=⟨h,by show 1<1000000000;decide,Nat.one_pos,Jf n⟩
def Ce6(n:Nat):ftx (n,1)=dgn n:=Xo rfl
def B8T{s:Nat}(b:1<=s/\s<=1000000)(c:Adw.Fr f)(g:0<AsG f f1)(e:Adw.Aw4 s f=some x):ArK 272 [iI (s:Int),.str (ftx f)]=some (okN x):=by rw[Cxr];exact B78 ⟨b.1,b.2,c,g,x,e⟩ e
def BzR{s:Nat}(b:1<=s/\s<=1000000)(c:Adw.Fr f)(g:0<AsG f f1)(e:Adw.A4M s f=some x):ArK 313 [iI (s:Int),.str (ftx f)]=some (okN x):=by rw[Cxs];exact B78 ⟨b.1,b.2,c,g,x,e⟩ e
def Clp(b:Adw.Fr f)(g:0<AsG f f1)(e:Adw.A0r f=some x):ArK 318 [.str (ftx f)]=some (okN x):=by rw[Cxt];exact ChD ⟨b,g,x,e⟩ e
def B8S(b:Adw.Fr x)(k:x.1<x.2/\0<x.1/\x.2<500000000)(hn:n<=20):ArK 269 [.str (ftx x),iI (n:Int)]=some (okN (Adw.At7 (g2F x) n)):=by rw[Cxq];exact B7p ⟨b,k.1,k.2.1,k.2.2,hn⟩
def Clq(b:Adw.Fr x)(k:x.1<x.2/\0<x.1/\x.2<500000000)(hn:n<=20):ArK 323 [.str (ftx x),iI (n:Int)]=some (okN (Adw.At7 (g1F x) n)):=by rw[Cxu];exact B7p ⟨b,k.1,k.2.1,k.2.2,hn⟩
def B7z{a b c:Nat}(h:b<=c):(Adw.rd a (1*b)).2<=c:=Xy (Oa _ _) (by rw[Ji];exact h)
def mulL(d:Nat)(g:Nat->Nat)(n:Nat):Adw.Ad2:=Adw.rd (d*(Adw.At7 g n).1) (1*(Adw.At7 g n).2)
def e73{d:Nat}(hd:d<=15)(hn:n<=20):T4 73 (dgn d) (ftx (Adw.At7 g n)) (ftx (mulL d g n))/\Adw.Fr (mulL d g n):=by have h:=Adw.CuZ (g:=g) hd hn;refine⟨?_,(Adw.AtP h).1⟩;unfold T4;rw[zU (uV (vW t73)),<- Ce6];exact AtI (Chg (by show d<1000000000;omega)) (CdA g hn) h
def Cbt(w n:Nat):Adw.Ad2:=Adw.rd (w*1) (1*2^n)
def B8X{w:Nat}(b:w<=15)(hn:n<=20):T4 278 (dgn w) (ftx (2^n,1)) (ftx (Cbt w n))/\Adw.Fr (Cbt w n):=by have h:=Adw.divC b hn;have h2:=Adw.Bhh hn;refine⟨?_,Bd9 h⟩;unfold T4;rw[zU (uV (vW t278)),<- Ce6];exact AtI (Chg (by show w<1000000000;omega)) (Chg (by show _<1000000000;omega)) h
def e35(hn:n<=20):ArK 35 [.str [50],iI (n:Int)]=some (okN (2^n,1)):=by
 rw[zU (uV (vW (show Wt 35=inS [.str [50]] .i64 21 λn=>okN (2^n,1)from wS)))]
 exact Ay7 (pre:=[.str [50]]) (show n<21 by omega)
def BzP(b:Adw.Fr x):ArK 293 [.str (ftx x)]=some (ptO x):=by rw[zU (uV (vW t293))];exact A5d b
def e27(b:Adw.Fr x):T4 27 [49] (ftx x) (ftx (Adw.AtS f1 x)):=by unfold T4;rw[zU (uV t27)];exact Awh fr1 b
def CdC(hn:n<Adw.AdE):1<=(dgn n).length/\(dgn n).length<=10:=by have h:n<1000000000:=hn;have:=Alj (n:=(n:Int)) om om;exact⟨this.2.2.1,this.2.2.2.1⟩
abbrev Qr.wb(q:Qr)(m:Nat):Qr:={ q with Mg:=(m:Int) }
def Bkb{d:Nat}(hn:n<=20):(mulL d g n).2<=1048576:=B7z (Xy (Adw.Bez g n).2.1 (Adw.Bhh hn))
def Cbu{w:Nat}(hn:n<=20):(Cbt w n).2<=1048576:=B7z (Adw.Bhh hn)
structure Apc(D:Nat)(q:Qr)(s r:Int)(n dn:Nat)(sp:Int)(x y:List Nat)(lt:Nat->Adw.Ad2):Prop where
 m:∀m:Nat,m<=20->BrJ (C (D+5)) (Qr.wb q m) s r n dn sp x y (ftx (lt m))
 fr:∀m:Nat,m<=20->Adw.Fr (lt m)
 bd:∀m:Nat,m<=20->(lt m).2<=1048576
 le:∀m k:Nat,Adw.Af6 (lt (m+k)) (lt m)
structure F5f(q:Qr)(f:Adw.Ad2):Prop where
 m:(q.Oi,f)∈f5F
 e:q.Oi=ftx f
 fr:Adw.Fr f
 gt:AsG f f1=1
def MtE(D:Nat)(q:Qr)(s r:Int)(n dn:Nat):Prop:=∃b x y lt,Apc D q s r n dn b x y lt
def Bhg{s:Nat}(k:F5f q f)(d:1<=s/\s<=156)(i:A0s q.c0=.I6 115 (.agg [.fn (.func j) [] []]))(o:Bg PP j=true)(hd:dn<=15)(c:∀m:Nat,RDr (C (D+4)) j (Qr.wb q m) n dn):MtE D q s r n dn:=by
 obtain⟨⟨x,a1,a2⟩,_⟩:=B60 k.m d;have F:=Bbp a1;refine⟨0,ftx x,[],mulL dn (g2F x),λm b=>?_,λm b=>(e73 hd b).2,λm b=>Bkb b,λm k=>Adw.Bka⟩;refine CdL (q:=Qr.wb q m) i o (c m) ?_ (B8S F a2 b) (e73 hd b).1 (by show dn<1000000000;omega)
 show ArK 272 [_,.str q.Oi]=_;rw[k.e];exact B8T ⟨d.1,by omega⟩ k.fr (by rw[k.gt];decide) a1
def CeV{s:Nat}(k:F5f q f)(c:1<=s/\s<=156)(hn:1<=n/\n<=8)(d:A0s q.c0=.I6 117 (.agg [])):MtE D q s r n 1:=by obtain⟨_,z,a1⟩:=B60 k.m c;have fz:=B6e a1;refine⟨((400/(2*(dgn z.1).length):Nat):Int),[],ftx z,Cbt (n-1),λm b=>?_,λm b=>(B8X om b).2,λm b=>Cbu b,λm k=>Adw.Cbs⟩;refine CdK (q:=Qr.wb q m) d hn ?_ (BzP fz) (CdC fz.n) (e35 b) (B8X om b).1;show ArK 313 [_,.str q.Oi]=_;rw[k.e];exact BzR ⟨c.1,by omega⟩ k.fr (by rw[k.gt];decide) a1
def CmV{r:Nat}(k:F5f q f)(c:1<=r/\r<=12)(hn:1<=n/\n<=8)(d:A0s q.c0=.I6 118 (.agg [])):MtE D q s r n (n+1):=by obtain⟨y,h1,h2,o⟩:=ClB k.m;obtain⟨x,a1,a2⟩:=o r c.1 c.2;have j:=Bbp a1;have i:=B6L h1;refine⟨0,ftx x,[],mulL (n+1) (g2F x),λm b=>?_,λm b=>(e73 om b).2,λm b=>Bkb b,λm k=>Adw.Bka⟩;refine CdM (q:=Qr.wb q m) d hn.2 ?_ (B8T ⟨c.1,by omega⟩ i h2 a1) (B8S j a2 b) (e73 om b).1;show ArK 318 [.str q.Oi]=_;rw[k.e];exact Clp k.fr (by rw[k.gt];decide) h1
def CmW{r:Nat}(k:F5f q f)(i:1<=r/\r<=12)(hn:1<=n/\n<=8)(c:A0s q.c0=.I6 119 (.agg [])):MtE D q s r n n:=by
 obtain⟨⟨x,a1,a2⟩,_⟩:=B60 k.m (show 1<=r/\r<=156 by omega)
 have d:=Bbp a1;refine⟨0,ftx x,[],mulL n (g1F x),λm b=>?_,λm b=>(e73 om b).2,λm b=>Bkb b,λm k=>Adw.Bka⟩;refine CdN (q:=Qr.wb q m) c hn.2 ?_ (Clq d a2 b) (e73 om b).1;show ArK 272 [_,.str q.Oi]=_;rw[k.e];exact B8T ⟨i.1,by omega⟩ k.fr (by rw[k.gt];decide) a1
def CmU(e:1<=q.c0/\q.c0<=10)(k:F5f q f)(j:1<=s/\s<=156)(i:1<=r/\r<=12)(hn:1<=n/\n<=8):MtE D q s r n (AzW q n):=by
 obtain⟨s,rfl⟩:=Mz (show 0<=s by omega)
 obtain⟨r,rfl⟩:=Mz (show 0<=r by omega)
 have b:1<=s/\s<=156:=by omega
 have d:1<=r/\r<=12:=by omega
 have hd:=(BgM (q:=q) hn).2;rcases Bek e with c|c|c|c|c|c|c|c|c|c
 all_goals
  unfold AzW at hd ⊢;simp only[c]at hd ⊢
 .exact Bhg k b (by rw[c];rfl) (by kernel_rfl) hd λm=>Cfd
 .exact Bhg k b (by rw[c];rfl) (by kernel_rfl) hd λm=>Cfd
 .exact Bhg k b (by rw[c];rfl) (by kernel_rfl) hd λm=>Cnw (q:=Qr.wb q m) hn.2
 .exact Bhg k b (by rw[c];rfl) (by kernel_rfl) hd λm=>Cnv
 .exact CeV k b hn (by rw[c];rfl)
 .exact CeV k b hn (by rw[c];rfl)
 .exact CmV k d hn (by rw[c];rfl)
 .exact CmW k d hn (by rw[c];rfl)
 .exact Bhg k b (by rw[c];rfl) (by kernel_rfl) hd λm=>Cnx hn
 .exact Bhg k b (by rw[c];rfl) (by kernel_rfl) hd λm=>Cny (q:=Qr.wb q m) hn
variable {ss:List Abn}{vc vo vm sv:AV}{a:Abn}{h:H}{u:Adw.Ad2}
def Bd8:AsG x y<=0 ↔ Adw.Af6 x y:=by
 have:=B6w x y;by_cases h:Adw.Af6 x y
 .exact⟨λ_=>h,λ_=>by have:=mt this.1 (λk=>k h);omega⟩
 .exact⟨λk=>by have:=this.2 h;omega,λk=>absurd k h⟩
def Ce1(x:Adw.Ad2):0<=AsG x f0:=by
 unfold AsG Aoq;have:(0:Nat)*x.2=0:=Ou _;show 0<=if(x.1*1:Nat)<((0*x.2:Nat):Int)then(-1:Int)else _;split
 .omega
 .split<;>decide
def Cey(b:Adw.Fr x):Adw.A7s f0 x=some x:=by show Adw.rdO (0*x.2+x.1*1) (1*x.2)=_;rw[Ou,Rx,ae,Ji];unfold Adw.rdO;rw[Xo ⟨b.n,b.d,b.p⟩];unfold Adw.rd;rw[b.g,Qf,Qf]
def BjZ(b:Adw.Fr x)(hy:Adw.Fr y):Adw.Fr (Adw.AtS x y):=by unfold Adw.AtS;split<;>assumption
def CmQ(x:Adw.Ad2):Adw.Af6 (Adw.AtS f1 x) f1:=by
 unfold Adw.AtS;split
 .exact Adw.Af6.refl _
 .rename_i h;exact(Adw.Af6.total f1 x).resolve_left h
def B62{l:uw}(b:(l,f)∈f5F):f.1<=101/\f.2<=100/\0<f.2:=by
 have:∀p∈f5F,p.2.1<=101/\p.2.2<=100/\0<p.2.2:=by decide +kernel
 exact this _ b
def l2F(f u:Adw.Ad2):Adw.Ad2:=Adw.AtS ((ltM f u).getD (0,1)) f1
def Bfm(c:f.1<=101/\f.2<=100/\0<f.2)(e:u.1<=u.2/\u.2<=1048576/\0<u.2):∃a m:Adw.Ad2,Adw.A7s f f1=some a/\ltM f u=some m/\m=Adw.rd (a.1*u.1) (a.2*u.2)/\0<a.2/\Adw.Fr m:=by obtain⟨a,m,h1,h2,_,d,b⟩:=Adw.Cig c e;exact⟨a,m,h1,by unfold ltM;rw[h1];exact h2,d,b,(Adw.AtP h2).1⟩
def CmF(b:f.1<=101/\f.2<=100/\0<f.2)(d:u.1<=u.2/\u.2<=1048576/\0<u.2):Adw.Fr (l2F f u):=by obtain⟨a,m,h1,h2,i,e,c⟩:=Bfm b d;unfold l2F;rw[h2];exact BjZ c fr1
def CmG(b:f.1<=101/\f.2<=100/\0<f.2)(d:u.1<=u.2/\u.2<=1048576/\0<u.2)(e:x.1<=x.2/\x.2<=1048576/\0<x.2)(h:Adw.Af6 u x):Adw.Af6 (l2F f u) (l2F f x):=by obtain⟨a,m,h1,h2,w,c,t⟩:=Bfm b d;obtain⟨o,B,i,j,k,C,A⟩:=Bfm b e;obtain rfl:a=o:=Ck (h1.symm.trans i);unfold l2F;rw[h2,j];refine Adw.B7r t.p A.p fe ?_;show Adw.Af6 m B;rw[w,k,Adw.Af6.rdl (Nat.mul_pos c d.2.2),Adw.Af6.rdr (Nat.mul_pos c e.2.2)];exact Adw.Af6.mul a h
def e29(b:(q.Oi,f)∈f5F)(k:F5f q f)(d:u.1<=u.2/\u.2<=1048576/\0<u.2)(fu:Adw.Fr u):ArK 29 [.agg [.str q.Oi,.str [48]],.str (ftx u)]=some (.Bj [.agg [.str q.Oi,.str (ftx (l2F f u))],iI 0]):=by
 obtain⟨a,m,h1,h2,j,i,c⟩:=Bfm (B62 b) d;rw[y29,k.e];refine(B7q (f:=f) ⟨⟨k.fr,fr0,by rw[k.gt];decide,by decide,by decide⟩,fu,Ce1 u,Bd8.2 (by show u.1*1<=1*u.2;omega),m,h2,Cey c⟩ h2).trans ?_
 unfold l2F;rw[h2];rfl
structure MkP(Z:Ac)(ss:List Abn)(q:Qr)(r s d sp:Int)(x y e:List Nat)(l1 l2:Nat->Adw.Ad2)(st:Nat->Int):Prop where
 run:∀m:Nat,1<=m->m<=20->∀(vc vo vm sv:AV) (h:H),Ao5 ss (Qr.wb q m) vc vo vm sv h->Ah h (λu _=>∃vc' vo' vm',AtD vc' vo' vm'/\u=.Bj [.agg (plP (Qr.wb q m) vc' vo' vm' r s d sp x y e (ftx (l1 m)) e (ftx (l2 m)) (st m)),iI 0]) (Z.call 7 [.agg (qc (Qr.wb q m) vc vo vm),sv] h)
 fr:∀m:Nat,m<=20->Adw.Fr (l1 m)/\Adw.Fr (l2 m)
 le:∀m k:Nat,m+k<=20->AsG (l1 (m+k)) (l1 m)<=0/\AsG (l2 (m+k)) (l2 m)<=0
 st:∀m k:Nat,1<=k->decide (st m<st (m+k))=decide (0<r)
def CmS(K:Ao5 ss q vc vo vm sv h):∃r s d G x y e l1 l2 st,MkP (C (D+20)) ss q r s d G x y e l1 l2 st:=by
 obtain⟨a,ha,hn,X,L⟩:=K.ok.pre.tbl;cases E:a.pub with
 |true=>refine⟨0,0,0,0,[],[],[49],λ_=>f0,λ_=>f0,λ_=>10,λm T o vc vo vm sv h k=>?_,λ_ _=>⟨fr0,fr0⟩,λ_ _ _=>⟨by decide,by decide⟩,λ_ _ _=>by decide⟩;exact Gp zNo (Cnp _ _ (CqG _ om) (c18 _ om) (c26 _ om) (c27 _ om) (CkC _ om) k ha hn E)
 |false=>
  obtain⟨j,t⟩:∃j,Blg ss q j:=by
   rcases L with h1|⟨b,h1,h2,_,_,_,_,U⟩
   .exact⟨none,h1.1⟩
   .exact⟨some b,h1,h2,U⟩
  obtain⟨w,S,w1,w2⟩:=CnJ K.V K.ok;obtain⟨n,rfl⟩:=Mz (show 0<=w by omega)
  have c:1<=n/\n<=8:=by omega
  have Q:=ByD K ha hn E t;have W:=B76 (q:=q) Q c ⟨_,K.ok.kv⟩ K.ok.pre.kind;obtain⟨f,i,O,P,J,_⟩:=BxW K.ok.pre.fac;have A:F5f q f:=⟨i,O,P,J⟩;have hd:=BgM (q:=q) c;obtain⟨G,x,y,lt,M⟩:=CmU (D:=D+14) K.ok.pre.kind A W Q c;have F:∀m,m<=20->(Adw.AtS f1 (lt m)).1<=(Adw.AtS f1 (lt m)).2/\(Adw.AtS f1 (lt m)).2<=1048576/\0<(Adw.AtS f1 (lt m)).2:=λm B=>by
   have h1:=CmQ (lt m);have h2:(Adw.AtS f1 (lt m)).1*1<=1*(Adw.AtS f1 (lt m)).2:=h1;refine⟨by omega,?_,(BjZ fr1 (M.fr m B)).p⟩;unfold Adw.AtS;split
   .decide
   .exact M.bd m B
  refine⟨A2d q a j,A3n q (A2d q a j) n,(AzW q n:Int),G,x,y,q.Oi,λm=>Adw.AtS f1 (lt m),λm=>l2F f (Adw.AtS f1 (lt m)),λm=>10+(AzW q n:Int)*((m:Int)+4),λm T o vc vo vm sv h k=>?_,λm B=>⟨BjZ fr1 (M.fr m B),CmF (B62 i) (F m B)⟩,λm k I=>?_,λm k I=>?_⟩
  .refine Gp zNo (Cnq _ _ (q:=Qr.wb q m) (CqH _ om) (CkE _ om) (Cgt _ om) (CqI _ om) (c18 _ om) (c26 _ om) (c27 _ om) (M.m m o) hd (λvc vo vm h R=>?_) (e27 (M.fr m o)) (lkZ rfl (e29 (q:=Qr.wb q m) i ⟨A.m,A.e,A.fr,A.gt⟩ (F m o) (BjZ fr1 (M.fr m o)))) k ha hn E);exact CkD _ om ss (Qr.wb q m) vc vo vm sv a j n h R ha hn E (by cases j<;>exact t) S c
  .have h1:=Adw.CdO (x:=f1) (M.fr (m+k) I).p (M.le m k);exact⟨Bd8.2 h1,Bd8.2 (CmG (B62 i) (F _ I) (F _ om) h1)⟩
  .rw[Ws (show 0<A2d q a j by omega)]
   refine Ws ?_;have h1:=Int.mul_lt_mul_of_pos_left (show(m:Int)+4<((m+k:Nat):Int)+4 by omega) (show 0<(AzW q n:Int)by omega)
   show 10+(AzW q n:Int)*((m:Int)+4)<10+(AzW q n:Int)*(((m+k:Nat):Int)+4);omega
end Go.Proofs.Anf
namespace Go.Proofs
open Go Go.Ev Go.Nm Tryz Go.Ev.Sx
open Go.Proofs.YtahaaiadlgfchaaGreatDoor
attribute [local irreducible] Aa Al Af Ad
variable (Z:Ac)(N:Nat)
variable {q q2:Qr}{vc vo vm vc2 vo2 vm2:AV}{h h0 h1:H}
def BaS{b1 b2 i:Nat}{ld:Option (Option Nat)}{ty:TypeId}{v:AV}{Q:AV->H->Prop}{K:AV->H->OR}(l1:Ae ld (.ptr b1 i) h=.ok v h)(l2:Ae ld (.ptr b2 i) h=.ok v h)(w:Aj prog .eql ty false v v h=.ok ux h)(go:Ah h0 Q (K ux h)):
 Ah h0 Q (Aa (Ad ux true (Bs (.ptr b1 0) i h) h) λt e=>Aa (Ad ux true (Ae ld t e) e) λp h9=>Aa (Ad ux true (Bs (.ptr b2 0) i h9) h9) λb j=>Aa (Ad ux true (Ae ld b j) j) λc k=>Aa (Ad ux true (Aj prog .eql ty false p c k) k) λd o=>Aa (Bo ux d ct o) K):=by
 have f1:Bs (.ptr b1 0) i h=.ok (.ptr b1 i) h:=by rw[E3,Rx]
 have f2:Bs (.ptr b2 0) i h=.ok (.ptr b2 i) h:=by rw[E3,Rx]
 replace go:=(hU go)
 refine wq ?_;exact go
def Ckx{r s d b z:Int}{x y e l c i:uw}(o:AtD vc vo vm):Oy 34 (.agg (plP q vc vo vm r s d b x y e l c i z)) h=.ok (.ptr h.nx 0) (h.new (cd (plP q vc vo vm r s d b x y e l c i z) 34)):=by obtain⟨⟨c1,c2⟩,⟨t,p⟩,k,j⟩:=o;simp[c1,c2,t,p,k,j]
def eqI(x:Int)(b:H):Aj prog .eql 3 false (iI x) (iI x) b=.ok ux b:=by simp
def eqS(x:uw)(b:H):Aj prog .eql 28 false (.str x) (.str x) b=.ok ux b:=by simp
def tkL:tk prog 32=.struct [(28,0),(28,1)]:=by kernel_rfl
def Cdl:tk prog 28=.string:=by kernel_rfl
def CmI:Ft prog 28=some none:=by kernel_rfl
def gdL:Nq prog 32=true:=by kernel_rfl
def B1p(d:Nat)(a b:uw):aeq prog (d+1) 28 (.str a) (.str b)=some (decide (a=b)):=by show Dy _ _ _ _ _=_;unfold Dy;rw[Cdl,<- Aap];rfl
def Cqg(x y:uw):aeq prog 20 32 (.agg [.str x,.str y]) (.agg [.str x,.str y])=some true:=by
 show Dy _ _ _ _ _=_;unfold Dy;rw[tkL];show Amw _ _ [(28,0),(28,1)] [.str x,.str y] [.str x,.str y]=_;have b:Hc prog 28 [.str x,.str y] 0=some (.str x):=by unfold Hc;rw[CmI];rfl
 have p1:Hc prog 28 [.str x,.str y] 1=some (.str y):=by unfold Hc;rw[CmI];rfl
 simp only[Amw,b,p1,B1p,Ea]
def eqA(x y:uw)(b:H):Aj prog .eql 32 false (.agg [.str x,.str y]) (.agg [.str x,.str y]) b=.ok ux b:=by show Xe false prog 32 (.agg [.str x,.str y]) (.agg [.str x,.str y]) false b=_;unfold Xe;have e:Xm prog 32 false (O6 (AV.agg [.str x,.str y])) (O6 (AV.agg [.str x,.str y]))=true:=gdL;rw[e,Cqg];rfl
def Cwh{r s d j z:Int}{x y e l b c:uw}(o:AtD vc vo vm)(A:AtD vc2 vo2 vm2):Ah h (λu _=>u=ux) (ml Z N 12 [.agg (plP q vc vo vm r s d j x y e l b c z),.agg (plP q2 vc2 vo2 vm2 r s d j x y e l b c z)] h):=by
 rw[CrD];refine Ey (Ckx o) (Ey (Ckx A) ?_);have g:Ai h ((h.new (cd (plP q vc vo vm r s d j x y e l b c z) 34)).new (cd (plP q2 vc2 vo2 vm2 r s d j x y e l b c z) 34)):=((Ai.refl h).new _).new _;have t:=AsC (hd:=(h.new (cd (plP q vc vo vm r s d j x y e l b c z) 34)).new (cd (plP q2 vc2 vo2 vm2 r s d j x y e l b c z) 34)) (bb:=h.nx) (by show h.nx<h.nx+1+1;omega) ((Cq _ _ (by show h.nx≠h.nx+1;omega)).trans (Bf _))
 have w:=AsC (hd:=(h.new (cd (plP q vc vo vm r s d j x y e l b c z) 34)).new (cd (plP q2 vc2 vo2 vm2 r s d j x y e l b c z) 34)) (bb:=h.nx+1) (by show h.nx+1<h.nx+1+1;omega) (Bf _)
 generalize (h.new (cd (plP q vc vo vm r s d j x y e l b c z) 34)).new (cd (plP q2 vc2 vo2 vm2 r s d j x y e l b c z) 34)=hA at *
 have L1:=λi v (h:(plP q vc vo vm r s d j x y e l b c z)[i]?=some v)=>t.one h hA (Bi.refl hA);have L2:=λi v (h:(plP q2 vc2 vo2 vm2 r s d j x y e l b c z)[i]?=some v)=>w.one h hA (Bi.refl hA);have p:=t.many (o:=28) (n:=2) (l:=[.str b,.str c]) (by show 28+2<=31;decide) rfl hA (Bi.refl hA)
 have k:=w.many (o:=28) (n:=2) (l:=[.str b,.str c]) (by show 28+2<=31;decide) rfl hA (Bi.refl hA)
 have f1:Bs (.ptr h.nx 0) 20 hA=.ok (.ptr h.nx 20) hA:=by rw[E3,Rx]
 have f2:Bs (.ptr (h.nx+1) 0) 20 hA=.ok (.ptr (h.nx+1) 20) hA:=by rw[E3,Rx]
 refine Ey f1 (Ey (L1 20 _ rfl) (Ey f2 (Ey (L2 20 _ rfl) (Ey (eqI r hA) ?_))));refine BaS (L1 21 _ rfl) (L2 21 _ rfl) (eqI s hA) ?_;refine BaS (L1 22 _ rfl) (L2 22 _ rfl) (eqI d hA) ?_;refine BaS (L1 23 _ rfl) (L2 23 _ rfl) (eqI j hA) ?_;refine BaS (L1 24 _ rfl) (L2 24 _ rfl) (eqS x hA) ?_;refine BaS (L1 25 _ rfl) (L2 25 _ rfl) (eqS y hA) ?_;refine BaS (L1 26 _ rfl) (L2 26 _ rfl) (eqS e hA) ?_;refine BaS (L1 27 _ rfl) (L2 27 _ rfl) (eqS l hA) ?_;refine BaS p k (eqA b c hA) ?_;refine BaS (L1 30 _ rfl) (L2 30 _ rfl) (eqI z hA) ?_;exact Lo g rfl
end Go.Proofs
namespace Go.Proofs.Anf
open Go Go.Ev Go.Nm Tryz Go.Ev.Sx
open Go.Proofs Go.Proofs.YtahaaiadlgfchaaGreatDoor
attribute [local irreducible] Aa Al Af Ad
variable {j:Qr}{o:H}{p:AV}{I:Int}
variable (Z:Ac)(N:Nat)
def K5(h:H):Prop:=∀h1,Ai h h1->Ah h1 (λr _=>r=ux) (Z.call 5 [] h1)
def CmZ:N1.Nodup:=by decide
def CmY(u:Nat):(R2.take u).Nodup:=List.Sublist.nodup (Jg u R2) fe
def CiA{lo:Nat}{l:List Abn}(G:S0 o)(S:Scs lo o p l)(M:l.length<=3)(V:SsV l):SsD o p l:=by
 obtain⟨all,h1,h2,w,E⟩:=V;refine⟨⟨S.own.sl,λs j=>⟨(S.ok s j).one,(S.ok s j).cell⟩,by omega⟩,λs j=>?_,by rw[w];exact CmY _⟩;have h:=S.ok s j;obtain⟨I,sub,q2,A⟩:=E s j;have hn:s.A1.map Aaw.name=sub.map Aaw.name:=by have:=Jh (List.map Prod.fst) A;simpa[List.map_map,Function.comp_def,Px]using this
 have k:∀c∈s.A1,∃d∈all,Px c=Px d:=λc i=>by have K:Px c∈sub.map Px:=A ▸ Of i;obtain⟨e,B,J⟩:=dz.1 K;exact⟨e,ax (q2.subset B),J.symm⟩
 refine⟨?_,I,h.ne,h.Mu,?_,⟨⟨h.A1.sl,λc i=>⟨(h.A1.ok c i).one,(h.A1.ok c i).cell⟩,by have:=h.Mu;omega⟩,λc i=>(h.A1.ok c i).words,λc i=>?_,G⟩,h.one,h.cell⟩
 .have:s.name∈l.map Abn.name:=Of j;rw[w]at this;exact ax this
 .rw[hn];have t:(sub.map Aaw.name).Sublist (all.map Aaw.name):=(q2.trans (Jg ..)).map _;rw[h1]at t;exact t.nodup CmZ
 .obtain⟨d,d1,d2⟩:=k c i;have e1:c.name=d.name:=Jh Prod.fst d2;have L:c.a=d.a:=Jh (λv=>v.2.1) d2;have C:c.b=d.b:=Jh (λv=>v.2.2.1) d2;have F:c.ws=d.ws:=Jh (λv=>v.2.2.2) d2;rw[e1,L,C,F];exact⟨h1 ▸ Of d1,h2 d d1⟩
def R8.all{lo:Nat}{h1:H}(G:S0 h1)(r:R8 lo p h1):∃l,SsV l/\l.length<=3/\SsD h1 p l/\∀tk,h1.nx<=tk->W9 tk h1 p l:=by obtain⟨l,w,q2,i,o⟩:=r;refine⟨l,o,q2,CiA G i q2 o,λtk d=>⟨w,q2,i.own.sl,Sl.av i.own.sl d,λs A=>?_⟩⟩;have a:=i.ok s A;exact⟨a.nn,a.ne,a.Mu,⟨a.A1.sl,Sl.av a.A1.sl d,λc e=>⟨(a.A1.ok c e).Mu,(a.A1.ok c e).words,Sl.av (a.A1.ok c e).words d,(a.A1.ok c e).one,(a.A1.ok c e).cell⟩⟩,a.one,a.cell,λb off len cap z ex t h0=>by obtain⟨p1,p2⟩:=a.kz b off len cap z ex t h0;exact⟨Yy p1 d,λk j=>Yy (p2 k j) d⟩⟩
def RMk:Prop:=∀(ss:List Abn) (q:Qr) (vc vo vm sv:AV) (h:H),Ao5 ss q vc vo vm sv h->∃r s d b x y e l1 l2 st,MkP Z ss q r s d b x y e l1 l2 st
def R11:Prop:=∀(x y:Adw.Ad2) (h:H),Adw.Fr x->Adw.Fr y->GP h->Z.call 11 [.str (ftx x),.str (ftx y)] h=.ok (cpO x y) h
def CpH:Prop:=∀(q q2:Qr) (vc vo vm vc2 vo2 vm2:AV) (r s d i z:Int) (x y e l c b:uw) (h:H),AtD vc vo vm->AtD vc2 vo2 vm2->Ah h (λu _=>u=ux) (Z.call 12 [.agg (plP q vc vo vm r s d i x y e l c b z),.agg (plP q2 vc2 vo2 vm2 r s d i x y e l c b z)] h)
def Cbg{b bb i e B p off:Nat}{k:RS}{t c d:H}(j:bb<c.nx)(ne:b≠bb)(w:B5 (c.m.get b)=none):Jo ⟨i,e,[bb],k,o,t⟩ ⟨B,p,[],Bn (some none) (.ptr b off),c,d⟩=true:=Dk (tk:=bb) (λx A=>T0.1 A) j (.inr ⟨b,off,some none,rfl,ne,w⟩)
def Cn5{b:Nat}{l0:uz}{vc vo vm:AV}{s d c z:Int}{x y e l i q:uw}(h:AtD vc vo vm)(w:o.m.get b=cd l0 34)(k:l0.length=31):A4 31 (.ptr b 0) (.agg (plP j vc vo vm I s d c x y e l i q z)) o=.ok (.Bj []) (o.put b (cd (plP j vc vo vm I s d c x y e l i q z) 34)):=by
 obtain⟨⟨c1,c2⟩,⟨B,A⟩,t,p⟩:=h;have e:Ng l0 (plP j vc vo vm I s d c x y e l i q z) 0=some (plP j vc vo vm I s d c x y e l i q z):=by rw[Kh,Xo (by rw[k];show 0+31<=31;decide)];simp[k]
 simp[c1,c2,B,A,t,p,w,e]
abbrev Qr.wz(q:Qr)(z:Int):Qr:={ q with Mg:=z }
def CmD{A1:List Aaw}{q0:Qr}(k:KV A1 q0 j)(z:Int):KV A1 (Qr.wz q0 z) (Qr.wz j z):=⟨Jh (λt=>Qr.wz t z) k.same,k.A47,k.AyG,k.pq1,k.pq2,k.Bcp,k.Bcq,k.bd1,k.bd2,k.Bdd,k.Bde,k.con⟩
def Cnn{ss:List Abn}{vc vo vm sv:AV}(K:Ao5 ss j vc vo vm sv o){z:Int}(hz:1<=z/\z<=20):Ao5 ss (Qr.wz j z) vc vo vm sv o:=by obtain⟨a1,a2,q,b,⟨⟨b1,b2,k,t⟩,⟨q0,kv⟩,i,d,e⟩,p⟩:=K;exact⟨a1,a2,q,⟨b.c,b.o,b.m⟩,⟨⟨b1,b2,k,hz⟩,⟨Qr.wz q0 z,CmD kv z⟩,i,d,e⟩,p⟩
def CnI{n:Nat}(e:(n:Int)=I):Qr.wb j n=Qr.wz j I:=by subst e;rfl
structure Two(q:Qr)(wc wo wm sv:AV)(h:H)(z:Int)(r s d sp:Int)(x y e:List Nat)(x1 x2:Adw.Ad2)(t:Int):Prop where
 run:∀hh,Ai h hh->Ah hh (λu _=>∃vc' vo' vm',AtD vc' vo' vm'/\u=.Bj [.agg (plP (Qr.wz q z) vc' vo' vm' r s d sp x y e (ftx x1) e (ftx x2) t),iI 0]) (Z.call 7 [.agg (qc (Qr.wz q z) wc wo wm),sv] hh)
 f1:Adw.Fr x1
 f2:Adw.Fr x2
def CiD(G:RMk Z){ss:List Abn}{b c sv:AV}(K:Ao5 ss j p b c sv o)(hb:j.Mg<=12):∃r s d q x y e A w t,Two Z j p b c sv o j.Mg r s d q x y e A w t/\∀i:Int,0<=i->i<8->∃C B u,Two Z j p b c sv o (j.Mg+1+i) r s d q x y e C B u/\AsG C A<=0/\AsG B w<=0/\decide (t<u)=decide (0<r):=by
 obtain⟨r,s,d,q,x,y,e,l1,l2,st,M⟩:=G ss j p b c sv o K;have L:=K.ok.pre.bits.1;obtain⟨m,E⟩:=Mz (show 0<=j.Mg by omega)
 have h:1<=m:=by omega
 have I:m<=12:=by omega
 have mk:∀(n:Nat) (z:Int),(n:Int)=z->1<=n->n<=20->Two Z j p b c sv o z r s d q x y e (l1 n) (l2 n) (st n):=λn z hz n1 n2=>⟨λF g=>by have k:=Cnn (K.gr g) (z:=z) om;rw[<- CnI hz]at k ⊢;exact M.run n n1 n2 p b c sv F k,(M.fr n n2).1,(M.fr n n2).2⟩
 refine⟨r,s,d,q,x,y,e,l1 m,l2 m,st m,mk m _ E.symm h om,λi j0 J=>?_⟩;have h1:=M.le m (1+i.toNat) om;exact⟨_,_,_,mk (m+(1+i.toNat)) _ om om om,h1.1,h1.2,M.st m _ om⟩
set_option maxHeartbeats 1000000 in
def Cwg(Mt:R15 Z)(Jz:R14 Z)(h78:R78 Z)(hM:RMk Z)(Kc:R11 Z)(ClV:CpH Z)(va vb:AV)(n:Int)(S T:List Int)(h:H)(hgp:GP h)(hG:S0 h)(h5:K5 Z h)(ha:Lf h va S)(hb:Lf h vb T)(la:(S.length:Int)<=9223372036854775807)(lb:(T.length:Int)<=9223372036854775807):
 Ah h (λv _=>v=ux) (Ay prog Z N false 4 [va,vb,iI n] h):=by
 rw[CrC];refine Fj (h5 h (Ai.refl h)) λv1 h1 e1 l1 Aad q1=>?_;subst q1;refine Fj (Mt va S h1 (Sl.By ha e1.keeps) la) λsv h2 e2 l2 Aae q2=>?_;obtain⟨ss,hV,hl3,k,hS⟩:=R8.all (hG.By (e1.trans e2).keeps) q2;refine Fj (Jz vb sv T ss h2 (Sl.By hb (e1.trans e2).keeps) lb hS hV) λv3 w e3 l3 Ary q3=>?_;obtain⟨q,wc,wo,wm,rfl,qv,hQ,BgD⟩:=q3;have g3:=(e1.trans e2).trans e3;have K3:Ao5 ss q wc wo wm sv w:=⟨k.By e3.keeps,hl3,hV,qv,hQ,hgp.gr g3⟩;have gp3:=K3.gp;have Qy:=hQ.pre.bits.1;obtain⟨r,s,d,I,x,y,e,Q,P,t,A,B⟩:=CiD Z hM K3 BgD;have GA:=A.run;have fa1:=A.f1;have fa2:=A.f2;obtain⟨p1,p2⟩:=B2 qv.c;obtain⟨p3,p4⟩:=B2 qv.o;obtain⟨p5,p6⟩:=B2 qv.m;have K:=λb=>h78 n 8 b fe fe;replace GA:=(hU GA)
 replace B:=(hU B)
 replace K:=(hU K)
 clear Mt Jz h78 hM h5 ha hb la lb hS e1 e2 e3 Aad Aae Ary l1 l2 l3 k hV qv hQ K3 q2 hgp hG A hl3;obtain⟨c0,code,d2,d3,c4,c5,s6,c7,ord,c9,Wz,Uw,W0,E,C,F,U3,E9,Oi,Mg⟩:=q;simp only at BgD Qy;refine we ?_;refine Fj ((gw K) _) λv12 Gd U l12 L q12=>?_
 obtain⟨j,rfl,j0,j8⟩:=q12;have j8:j<8:=by omega
 have w12:wrote _ Gd.lg=[]:=U.quiet;simp only[C9]at l12 L w12;have s7:Gd.m.get (w.nx+1)=cd (qc ⟨c0,code,d2,d3,c4,c5,s6,c7,ord,c9,Wz,Uw,W0,E,C,F,U3,E9,Oi,Mg⟩ wc wo wm) 30:=(L _ om).trans (A2 ..);have s4:Gd.m.get w.nx=cd (qc ⟨c0,code,d2,d3,c4,c5,s6,c7,ord,c9,Wz,Uw,W0,E,C,F,U3,E9,Oi,Mg⟩ wc wo wm) 30:=(L _ om).trans ((Aq _ _ _ om).trans ((Cq _ _ (by show w.nx≠w.nx+1;omega)).trans (A2 ..)))
 have V:Ai w Gd:=Ai.trans Ex U;clear L U K;refine we ?_;refine Fj ((gw GA) _ Ex) λHt R1 e18 l18 Arx q18=>?_
 obtain⟨ac,Y,X,oa,rfl⟩:=q18;have g18:Ai w R1:=Ai.trans Ex e18;have s8:=(Arx (w.nx+1) mh).trans (A2 ..);simp only[C9]at l18;clear Arx e18 GA s7 s4 w12;refine we ?_;refine Ey (Cn5 oa (Bf _) rfl) ?_;generalize i:H.put _ _ _=hB;have gB:Ai w hB:=by rw[<- i];exact Ex
 have uB:hB.m.get R1.nx=cd (plP ⟨c0,code,d2,d3,c4,c5,s6,c7,ord,c9,Wz,Uw,W0,E,C,F,U3,E9,Oi,Mg⟩ ac Y X r s d I x y e (ftx Q) e (ftx P) t) 34:=by rw[<- i];exact A2 _ _
 have s9:hB.m.get (w.nx+1)=cd (qc ⟨c0,code,d2,d3,c4,c5,s6,c7,ord,c9,Wz,Uw,W0,E,C,F,U3,E9,Oi,Mg+1+j⟩ wc wo wm) 30:=by rw[<- i];exact(Aq _ _ _ om).trans ((Cq _ _ om).trans s8)
 have nB:hB.nx=R1.nx+1:=by rw[<- i];rfl
 have b18:w.nx+1<R1.nx:=by omega
 generalize R1.nx=ba at *
 clear i s8 g18 V l18 l12;obtain⟨R,W,u,O,cm1,cm2,Sm⟩:=(gw B) j j0 j8
 have GB:=O.run;have fb1:=O.f1;have fb2:=O.f2;clear B O;refine we ?_;refine Fj ((gw GB) _ Ex) λv24 G e24 l24 CeW q24=>?_
 obtain⟨bc,bo,bm,ob,rfl⟩:=q24;have g24:Ai w G:=gB.trans e24;have u24:=(CeW ba om).trans uB;have ClM:GP G:=gp3.gr g24;have b24:ba<G.nx:=by omega
 clear e24 CeW GB uB s9 l24 gB gp3 nB;refine we ?_;refine Ey (Cn5 ob (Bf _) rfl) ?_;generalize i:H.put _ _ _=hC;have gC:Ai w hC:=by rw[<- i];exact Ex
 have uC:hC.m.get ba=cd (plP ⟨c0,code,d2,d3,c4,c5,s6,c7,ord,c9,Wz,Uw,W0,E,C,F,U3,E9,Oi,Mg⟩ ac Y X r s d I x y e (ftx Q) e (ftx P) t) 34:=by rw[<- i];exact(Aq _ _ _ om).trans ((Cq _ _ om).trans u24)
 have vC:hC.m.get G.nx=cd (plP ⟨c0,code,d2,d3,c4,c5,s6,c7,ord,c9,Wz,Uw,W0,E,C,F,U3,E9,Oi,Mg+1+j⟩ bc bo bm r s d I x y e (ftx R) e (ftx W) u) 34:=by rw[<- i];exact A2 _ _
 have nC:hC.nx=G.nx+1:=by rw[<- i];rfl
 have gpC:GP hC:=by rw[<- i];exact(ClM.gr Ex)
 generalize G.nx=bb at *
 clear i u24 ClM g24;have z1:∀b,GP b->Z.call 11 [.str (ftx R),.str (ftx Q)] b=.ok (.Bj [iI (AsG R Q),iI 0]) b:=λb p=>Kc R Q b fb1 fa1 p;have z2:∀b,GP b->Z.call 11 [.str (ftx W),.str (ftx P)] b=.ok (.Bj [iI (AsG W P),iI 0]) b:=λb p=>Kc W P b fb2 fa2 p;have k1:decide (0<AsG R Q)=false:=df;have k2:decide (0<AsG W P)=false:=df;generalize AsG R Q=w1 at *
 generalize AsG W P=w2 at *
 generalize ftx Q=lx1 at *
 generalize ftx P=lx2 at *
 generalize ftx R=ly1 at *
 generalize ftx W=ly2 at *
 clear cm1 cm2 fa1 fa2 fb1 fb2 Kc;have J:=AsC (show ba<hC.nx by omega) uC
 have M:=AsC (show bb<hC.nx by omega) vC
 have Aqp:∀b,Bi hC b->Ae (some none) (.ptr ba 27) b=.ok (.str lx1) b:=J.one rfl;have Aqq:∀b,Bi hC b->Ae (some none) (.ptr ba 29) b=.ok (.str lx2) b:=J.one rfl;have A30:∀b,Bi hC b->Ae (some none) (.ptr ba 30) b=.ok (iI t) b:=J.one rfl;have Aqx:∀b,Bi hC b->Ae (some none) (.ptr ba 20) b=.ok (iI r) b:=J.one rfl;have Aqy:∀b,Bi hC b->Ae (some none) (.ptr bb 27) b=.ok (.str ly1) b:=M.one rfl;have Av:∀b,Bi hC b->Ae (some none) (.ptr bb 28) b=.ok (.str e) b:=M.one rfl;have Aq1:∀b,Bi hC b->Ae (some none) (.ptr bb 29) b=.ok (.str ly2) b:=M.one rfl;have AqA:∀b,Bi hC b->Ae (some none) (.ptr bb 30) b=.ok (iI u) b:=M.one rfl;replace uC:=(hU uC)
 replace vC:=(hU vC)
 clear J M;have k3:decide (t<u)=decide (0<r):=Sm;clear Sm;have n1:∀b:H,Aj prog .neq 4 false ct ct b=.ok ct b:=λb=>by kernel_rfl
 have n2:∀b:H,Aj prog .neq 4 false ux ux b=.ok ct b:=λb=>by kernel_rfl
 have n3:∀b:H,Aj prog .neq 35 true (iI 0) (iI 0) b=.ok ct b:=λb=>rfl;cases k4:decide (0<r);all_goals
  rw[k4]at k3;refine wq ?_;have vD:hC.m.get bb=_:=vC;have cl:∀eb ep er eh en ab ap off,Jo ⟨eb,ep,[bb],er,eh,en⟩ ⟨ab,ap,[],Bn (some none) (.ptr ba off),Ab hC,Ab hC⟩=true:=λeb ep er eh en ab ap off=>Cbg (show bb<hC.nx by omega) om (by show B5 (hC.m.get ba)=none;rw[show hC.m.get ba=_ from uC];rfl)
  clear vC Aqp Aqq A30 Aqx Aqy Av Aq1 AqA z1 z2 n1 n2 n3;refine we ?_;generalize i:Be _ _=k;have gD:Ai w k:=by rw[<- i];exact Ex
  have uD:k.m.get ba=cd (plP ⟨c0,code,d2,d3,c4,c5,s6,c7,ord,c9,Wz,Uw,W0,E,C,F,U3,E9,Oi,Mg⟩ ac Y X r s d I x y e lx1 e lx2 t) 34:=by rw[<- i];exact(Aq _ _ _ om).trans ((Aq _ _ _ om).trans ((Aq _ _ _ om).trans uC))
  have wD:k.m.get bb=cd (plP ⟨c0,code,d2,d3,c4,c5,s6,c7,ord,c9,Wz,Uw,W0,E,C,F,U3,E9,Oi,Mg+1+j⟩ bc bo bm r s d I x y e lx1 e lx2 t) 34:=by rw[<- i];exact A2 _ _
  have nD:k.nx=hC.nx:=by rw[<- i];rfl
  have V:=ClV ⟨c0,code,d2,d3,c4,c5,s6,c7,ord,c9,Wz,Uw,W0,E,C,F,U3,E9,Oi,Mg⟩ ⟨c0,code,d2,d3,c4,c5,s6,c7,ord,c9,Wz,Uw,W0,E,C,F,U3,E9,Oi,Mg+1+j⟩ ac Y X bc bo bm r s d I t x y e lx1 e lx2 k oa ob;have J:=AsC (show ba<k.nx by omega) uD
  have M:=AsC (show bb<k.nx by omega) wD
  have Ar1:∀b,Bi k b->Ae (some none) (.ptr ba 28) b=.ok (.str e) b:=J.one rfl;have ArB:∀b,Bi k b->Ae (some none) (.ptr bb 26) b=.ok (.str e) b:=M.one rfl;have Aao:=J.many (o:=0) (n:=31) (l:=plP ⟨c0,code,d2,d3,c4,c5,s6,c7,ord,c9,Wz,Uw,W0,E,C,F,U3,E9,Oi,Mg⟩ ac Y X r s d I x y e lx1 e lx2 t) (by show 0+31<=31;decide) rfl k (Bi.refl k)
  have Aa6:=M.many (o:=0) (n:=31) (l:=plP ⟨c0,code,d2,d3,c4,c5,s6,c7,ord,c9,Wz,Uw,W0,E,C,F,U3,E9,Oi,Mg+1+j⟩ bc bo bm r s d I x y e lx1 e lx2 t) (by show 0+31<=31;decide) rfl k (Bi.refl k)
  clear J M uD wD i vD cl uC gC gpC k1 k2 k3 k4 ClV;generalize plP ⟨c0,code,d2,d3,c4,c5,s6,c7,ord,c9,Wz,Uw,W0,E,C,F,U3,E9,Oi,Mg⟩ ac Y X r s d I x y e lx1 e lx2 t=ca at *
  generalize plP ⟨c0,code,d2,d3,c4,c5,s6,c7,ord,c9,Wz,Uw,W0,E,C,F,U3,E9,Oi,Mg+1+j⟩ bc bo bm r s d I x y e lx1 e lx2 t=cb at *
  have eS:=eqS e;refine Ey Aao ?_;refine we ?_;refine Fj V λv5 h5 e5 l5 Az4 q5=>?_;subst q5;refine we ?_;exact zr (g3.trans (gD.trans (Ai.trans Ex e5))) rfl
end Go.Proofs.Anf
namespace Go.Proofs.Anf
open Go Go.Ev Go.Nm Go.Ev.Sx
open Go.Proofs Go.Proofs.YtahaaiadlgfchaaGreatDoor
variable {g:FuncId}{args An:uz}{v v':AV}{x y z f:Adw.Ad2}{n s:Nat}
def Aub(h:ArK g args=some v)(e1:args=An:=by kernel_rfl)(b:v=v':=by kernel_rfl):Nx PP Um ⟨g,An,v'⟩:=by subst e1 b;exact(zOk.ok g args v h).1
def CdE(b:Adw.Fr x)(hy:Adw.Fr y)(hz:Adw.Bcb x y=some z):ArK 73 [.str (ftx x),.str (ftx y)]=some (okN z):=by rw[zU (uV (vW t73))];exact AtI b hy hz
def CmJ(b:Adw.Fr x)(hy:Adw.Fr y)(hz:Adw.A0N x y=some z):ArK 278 [.str (ftx x),.str (ftx y)]=some (okN z):=by rw[zU (uV (vW t278))];exact AtI b hy hz
def B7g(b:Adw.Fr x)(hy:Adw.Fr y):ArK 27 [.str (ftx x),.str (ftx y)]=some (okN (Adw.AtS x y)):=by rw[zU (uV t27)];exact Awh b hy
def Cid(b:Adw.Fr x)(hy:Adw.Fr y):ArK 11 [.str (ftx x),.str (ftx y)]=some (cpO x y):=by rw[zU (uV (vW t11))];exact Awh b hy
def CuM(b:Adw.Fr x):ArK 70 [.str (ftx x)]=some (iI 0):=by rw[zU (uV (vW t70))];exact A5d b
def B7f(hn:n<Adw.AdE):ArK 241 [iI (n:Int)]=some (.str (dgn n)):=by rw[zU (uV (vW t241))];exact Ay7 (pre:=[]) hn
def CuL(hn:n<9):ArK 64 [iI (n:Int)]=some (iI (lvl n)):=by rw[zU (uV (vW t64))];exact Ay7 (pre:=[]) hn
def B7e(hn:n<9):ArK 16 [iI (n:Int)]=some (iI (blk n)):=by
 rw[zU (uV (vW (show Wt 16=inS [] .i64 9 λn=>iI (blk n)from wS)))]
 exact Ay7 (pre:=[]) hn
def CdD{u:Adw.Ad2}(c:u.1<=u.2/\u.2<=1048576/\0<u.2)(fu:Adw.Fr u):ArK 29 [lsA f2 f0,.str (ftx u)]=some (.Bj [lsA f2 (l2F f2 u),iI 0]):=by
 obtain⟨a,m,h1,h2,e,d,b⟩:=Bfm (f:=f2) fe c;rw[y29];refine(B7q (f:=f2) ⟨⟨Bgu,fr0,by decide,by decide,by decide⟩,fu,Ce1 u,Bd8.2 (by show u.1*1<=1*u.2;omega),m,h2,Cey b⟩ h2).trans ?_
 unfold l2F;rw[h2];rfl
def frB(x:Adw.Ad2):Bool:=decide (x.1<1000000000)&&decide (x.2<1000000000)&&decide (0<x.2)&&decide (Nat.gcd x.1 x.2=1)
def frD(h:frB x=true:=by decide +kernel):Adw.Fr x:=by unfold frB at h;simp only[Sc,W8]at h;exact⟨h.1.1.1,h.1.1.2,h.1.2,h.2⟩
def Cil:List Orc:=[
 ⟨70,[.str [50]],iI 0⟩,
 ⟨11,[.str [50],.str [49]],.Bj [iI 1,iI 0]⟩,
 ⟨11,[.str [50],.str uf],.Bj [iI (-1),iI 0]⟩,
 ⟨272,[iI 1,.str [50]],.Bj [.str [49,47,50],iI 0]⟩,
 ⟨272,[iI 2,.str [50]],.Bj [.str [52,47,53],iI 0]⟩,
 ⟨272,[iI 1,.str [52,47,51]],.Bj [.str [51,47,52],iI 0]⟩,
 ⟨313,[iI 1,.str [50]],.Bj [.str [53,47,52],iI 0]⟩,
 ⟨318,[.str [50]],.Bj [.str [52,47,51],iI 0]⟩,
 ⟨293,[.str [53,47,52]],.Bj [.str [53],.str [52],iI 0]⟩,
 ⟨269,[.str [49,47,50],iI 8],.Bj [.str ub,iI 0]⟩,
 ⟨323,[.str [49,47,50],iI 8],.Bj [.str [49,47,50,53,54],iI 0]⟩,
 ⟨269,[.str [51,47,52],iI 8],.Bj [.str [52,49,47,54,52],iI 0]⟩,
 ⟨269,[.str [52,47,53],iI 8],.Bj [.str [49,49,55,47,49,50,56],iI 0]⟩,
 ⟨241,[iI 1],.str [49]⟩,
 ⟨241,[iI 2],.str [50]⟩,
 ⟨241,[iI 3],.str [51]⟩,
 ⟨73,[.str [49],.str ub],.Bj [.str ub,iI 0]⟩,
 ⟨73,[.str [50],.str [49,47,50,53,54]],.Bj [.str wg,iI 0]⟩,
 ⟨73,[.str [51],.str [52,49,47,54,52]],.Bj [.str [49,50,51,47,54,52],iI 0]⟩,
 ⟨73,[.str [51],.str [49,49,55,47,49,50,56]],.Bj [.str [51,53,49,47,49,50,56],iI 0]⟩,
 ⟨35,[.str [50],iI 3],.Bj [.str [56],iI 0]⟩,
 ⟨278,[.str [49],.str [56]],.Bj [.str [49,47,56],iI 0]⟩,
 ⟨27,[.str [49],.str ub],.Bj [.str ub,iI 0]⟩,
 ⟨27,[.str [49],.str wg],.Bj [.str wg,iI 0]⟩,
 ⟨27,[.str [49],.str [49,50,51,47,54,52]],.Bj [.str [49],iI 0]⟩,
 ⟨27,[.str [49],.str [51,53,49,47,49,50,56]],.Bj [.str [49],iI 0]⟩,
 ⟨27,[.str [49],.str [49,47,56]],.Bj [.str [49,47,56],iI 0]⟩,
 ⟨29,[.agg [.str [50],.str [48]],.str ub],.Bj [.agg [.str [50],.str [50,55,47,50,53,54]],iI 0]⟩,
 ⟨29,[.agg [.str [50],.str [48]],.str wg],.Bj [.agg [.str [50],.str [51,47,49,50,56]],iI 0]⟩,
 ⟨29,[.agg [.str [50],.str [48]],.str [49]],.Bj [.agg [.str [50],.str [49]],iI 0]⟩,
 ⟨29,[.agg [.str [50],.str [48]],.str [49,47,56]],.Bj [.agg [.str [50],.str [51,47,56]],iI 0]⟩,
 ⟨64,[iI 2],iI 2⟩,
 ⟨16,[iI 1],iI 1⟩,
 ⟨16,[iI 2],iI 3⟩,
 ⟨16,[iI 3],iI 5⟩,
 ⟨16,[iI 4],iI 7⟩,
 ⟨16,[iI 5],iI 9⟩]
def CdP:∀o∈Cil,Nx PP Um o:=by
 have s1:1<=1/\1<=1000000:=by decide
 have g2:0<AsG f2 f1:=by decide
 have p1:(1,2).1<(1,2).2/\0<(1,2).1/\(1,2).2<500000000:=by decide
 intro o b;simp only[Cil,Wf,List.mem_nil_iff,fb]at b;rcases b with rfl|rfl|rfl|rfl|rfl|rfl|rfl|rfl|rfl|rfl|rfl|rfl|rfl|rfl|rfl|rfl|rfl|rfl|rfl|rfl|rfl|rfl|rfl|rfl|rfl|rfl|rfl|rfl|rfl|rfl|rfl|rfl|rfl|rfl|rfl|rfl|rfl
 .exact Aub (CuM Bgu)
 .exact Aub (Cid Bgu fr1)
 .exact Aub (Cid Bgu ClE)
 .exact Aub (B8T (s:=1) (x:=(1,2)) s1 Bgu g2 (by decide +kernel))
 .exact Aub (B8T (s:=2) (x:=(4,5)) fe Bgu g2 (by decide +kernel))
 .exact Aub (B8T (s:=1) (f:=(4,3)) (x:=(3,4)) s1 frD fe (by decide +kernel))
 .exact Aub (BzR (s:=1) (x:=(5,4)) s1 Bgu g2 (by decide +kernel))
 .exact Aub (Clp (x:=(4,3)) Bgu g2 (by decide +kernel))
 .exact Aub (BzP (x:=(5,4)) frD)
 .exact Aub (B8S (x:=(1,2)) (n:=8) frD p1 fe)
 .exact Aub (Clq (x:=(1,2)) (n:=8) frD p1 fe)
 .exact Aub (B8S (x:=(3,4)) (n:=8) frD fe fe)
 .exact Aub (B8S (x:=(4,5)) (n:=8) frD fe fe)
 .exact Aub (B7f (n:=1) fe)
 .exact Aub (B7f (n:=2) fe)
 .exact Aub (B7f (n:=3) fe)
 .exact Aub (CdE (x:=f1) (y:=(9,256)) (z:=(9,256)) fr1 frD (by decide +kernel))
 .exact Aub (CdE (x:=f2) (y:=(1,256)) (z:=(1,128)) Bgu frD (by decide +kernel))
 .exact Aub (CdE (x:=(3,1)) (y:=(41,64)) (z:=(123,64)) frD frD (by decide +kernel))
 .exact Aub (CdE (x:=(3,1)) (y:=(117,128)) (z:=(351,128)) frD frD (by decide +kernel))
 .exact Aub (e35 (n:=3) fe)
 .exact Aub (CmJ (x:=f1) (y:=(8,1)) (z:=(1,8)) fr1 frD (by decide +kernel))
 .exact Aub (B7g (x:=f1) (y:=(9,256)) fr1 frD)
 .exact Aub (B7g (x:=f1) (y:=(1,128)) fr1 frD)
 .exact Aub (B7g (x:=f1) (y:=(123,64)) fr1 frD)
 .exact Aub (B7g (x:=f1) (y:=(351,128)) fr1 frD)
 .exact Aub (B7g (x:=f1) (y:=(1,8)) fr1 frD)
 .exact Aub (CdD (u:=(9,256)) fe frD)
 .exact Aub (CdD (u:=(1,128)) fe frD)
 .exact Aub (CdD (u:=(1,1)) fe frD)
 .exact Aub (CdD (u:=(1,8)) fe frD)
 .exact Aub (CuL (n:=2) fe)
 .exact Aub (B7e (n:=1) fe)
 .exact Aub (B7e (n:=2) fe)
 .exact Aub (B7e (n:=3) fe)
 .exact Aub (B7e (n:=4) fe)
 .exact Aub (B7e (n:=5) fe)
end Go.Proofs.Anf

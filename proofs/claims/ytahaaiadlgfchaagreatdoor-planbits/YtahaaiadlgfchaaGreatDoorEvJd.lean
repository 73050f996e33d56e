/- plan -/
import Derived.Test.YtahaaiadlgfchaaGreatDoorEvJc
set_option linter.all false
set_option maxRecDepth 100000
noncomputable section
namespace Go.Proofs
open Go Go.Ev Go.Nm Tryz Go.Ev.Sx
open Go.Proofs.YtahaaiadlgfchaaGreatDoor
attribute [local irreducible] Aa Al Af Ad
variable (Z:Ac)(N:Nat)
variable {ss:List Abn}{q:Qr}{vc vo vm sv:AV}{a b:Abn}{h h1:H}
def Bse(ss:List Abn)(q:Qr)(w:Int):Prop:=(q.c0=1\/q.c0=2)/\w=1\/q.c0=5/\w=q.c3-q.c2+1\/(q.c0≠1/\q.c0≠2/\q.c0≠5)/\∃c∈AaF ss q,c.name=q.s6/\w=c.b-c.a+1
def A5O{c:Aaw}(e:c∈AaF ss q):∃s∈ss,c∈s.A1:=by
 unfold AaF Ab1 at e;rcases T2.1 e with h|h
 .obtain⟨s,h1,h2⟩:=Kt.1 h;exact⟨s,(bk.1 h1).1,h2⟩
 .obtain⟨s,h1,h2⟩:=Kt.1 h;exact⟨s,(bk.1 h1).1,h2⟩
def CnJ(j:SsV ss)(m:QOk ss q):∃w,Bse ss q w/\1<=w/\w<=8:=by
 obtain⟨q0,kv⟩:=m.kv;by_cases h1:q.c0=1\/q.c0=2
 .exact⟨1,.inl ⟨h1,rfl⟩,by decide,by decide⟩
 .by_cases e:q.c0=5
  .have:=kv.AyG (.inr (.inr e));exact⟨_,.inr (.inl ⟨e,rfl⟩),by omega,by omega⟩
  .obtain⟨c,f,hn⟩:=kv.Bcq om om e;obtain⟨s,l,i⟩:=A5O f;have:=B6x (Bai j l i);exact⟨_,.inr (.inr ⟨⟨by omega,by omega,e⟩,c,f,hn,rfl⟩),by omega,by omega⟩
def CgW(K:Ao5 ss q vc vo vm sv h){c:Aaw}(G:c∈AaF ss q){m:List Aaw}(v:m.map Px=(AaF ss q).map Px){d:Aaw}(hd:d∈m)(hn:d.name=c.name):d.b-d.a+1=c.b-c.a+1/\d.name∈N1/\AdD d.a d.b d.ws:=by
 have h1:Px d∈(AaF ss q).map Px:=v ▸ Of hd;obtain⟨e,B,h2⟩:=dz.1 h1;obtain⟨s,F,i⟩:=A5O B;obtain⟨t,u,f⟩:=A5O G;have D:e.name=c.name:=by have:e.name=d.name:=Jh (λp=>p.1) h2;rw[this,hn]
 have E:=BaR K.V F u i f D;have o:Px d=Px c:=h2.symm.trans E;have A:=((K.sd.d t u).cs).ok c f;unfold Px at o;injection o with e1 l;injection l with l j;injection j with j C;rw[e1,l,j,C];exact⟨rfl,A⟩
def Cf7:Prop:=∀(ss:List Abn) (q:Qr) (vc vo vm sv:AV) (a:Abn) (w:Int) (h:H),Ao5 ss q vc vo vm sv h->a∈ss->a.name=q.Uw->a.pub=false->Bse ss q w->Ah h (λr _=>r=iI w) (Z.call 59 [.agg (qc q vc vo vm),sv] h)
def Cwp(C:CaJ Z)(Q:R19 Z)(E:Cfy Z)(B:R91 Z){w:Int}(K:Ao5 ss q vc vo vm sv h)(ha:a∈ss)(hn:a.name=q.Uw)(hp:a.pub=false)(hw:Bse ss q w):Ah h (λr _=>r=iI w) (ml Z N 59 [.agg (qc q vc vo vm),sv] h):=by
 rw[CrN];obtain⟨c1,c2⟩:=B2 K.qv.c;obtain⟨o1,o2⟩:=B2 K.qv.o;obtain⟨m1,m2⟩:=B2 K.qv.m;have u:=λj (e:Ai h j)=>C ss q vc vo vm sv a j (K.gr e) ha hn;rw[hp]at u;have I:=λj (e:Ai h j)=>Q ss q vc vo vm sv j (K.gr e).sd K.l3 K.V (K.gr e).qv K.ok;replace u:=(hU u)
 replace I:=(hU I)
 obtain⟨q0,kv⟩:=K.ok.kv;rcases hw with⟨Y,rfl⟩|⟨W,rfl⟩|⟨⟨n1,n2,n5⟩,c,R,G,rfl⟩
 .clear kv K C Q E B hn;obtain⟨c0,code,d2,d3,c4,c5,s6,c7,ord,c9,Wz,Uw,W0,Yc,X,Uo,U3,E9,Oi,Mg⟩:=q;simp only at Y;rcases Y with rfl|rfl
  all_goals
   refine wq ?_;refine Fj ((gw u) _ Ex) λv1 h1 e1 l1 t L=>?_
   obtain rfl:v1=ux:=L;have g1:Ai h h1:=Ai.trans Ex e1;simp only[C9]at l1 t;have s1:=(t h.nx om).trans (Bf ..);clear t e1 u;refine wq ?_;rw[BhO];refine wq ?_;exact zr g1 rfl
 .have hv:=kv.AyG (.inr (.inr W));clear kv K C Q E B hn;obtain⟨c0,code,d2,d3,c4,c5,s6,c7,ord,c9,Wz,Uw,W0,Yc,X,Uo,U3,E9,Oi,Mg⟩:=q;simp only at W hv;subst W;obtain⟨_,T,S,U⟩:=hv;refine wq ?_;refine Fj ((gw u) _ Ex) λv1 h1 e1 l1 t L=>?_
  obtain rfl:v1=ux:=L;have g1:Ai h h1:=Ai.trans Ex e1;simp only[C9]at l1 t;have s1:=(t h.nx om).trans (Bf ..);clear t e1 u;refine wq ?_;rw[BhO];refine wq ?_;exact zr g1 rfl
 .have D:=λj (e:Ai h j) m (J:m.map Px=(AaF ss q).map Px) d (hd:d∈m) (hn:d.name=q.s6)=>CgW (K.gr e) R J hd (hn.trans G.symm);have F:∀m:List Aaw,m.map Px=(AaF ss q).map Px->∃d∈m,d.name=q.s6:=λm J=>by have h1:Px c∈m.map Px:=J ▸ Of R;obtain⟨d,hd,h2⟩:=dz.1 h1;exact⟨d,hd,(Jh (λp=>p.1) h2:d.name=c.name).trans G⟩
  have gk:=((K.sd.d a ha).cs).gk;have k1:decide (q.c0=1)=false:=Yg n1;have k2:decide (q.c0=2)=false:=Yg n2;have k5:decide (q.c0=5)=false:=Yg n5;have hW:1<=c.b-c.a+1/\c.b-c.a+1<=8:=by obtain⟨s,hs,X3⟩:=A5O R;have:=B6x (Bai K.V hs X3);omega
  generalize c.b-c.a+1=wd at *
  replace D:=(hU D)
  replace F:=(hU F)
  clear kv K hn n1 n2 n5 C Q G R;obtain⟨c0,code,d2,d3,c4,c5,s6,c7,ord,c9,Wz,Uw,W0,Yc,X,Uo,U3,E9,Oi,Mg⟩:=q;simp only at k1 k2 k5;refine wq ?_;refine Fj ((gw u) _ Ex) λv1 h1 e1 l1 t L=>?_
  obtain rfl:v1=ux:=L;have g1:Ai h h1:=Ai.trans Ex e1;simp only[C9]at l1 t;have s1:=(t h.nx om).trans (Bf ..);clear t e1 u;refine wq ?_;rw[BhO];refine wq ?_;refine Fj ((gw I) _ g1) λv2 h2 e2 l2 P q2=>?_
  have g2:Ai h h2:=Ai.trans Ex e2;obtain⟨m,J,csk,kz⟩:=q2;have s2:=(P h.nx om).trans s1;obtain⟨w1,w2⟩:=B2 csk.r.sl;obtain⟨d,hd,M⟩:=(gw F) m J
  obtain⟨k,x,T,S,U⟩:=Agx (p:=λs:Aaw=>decide (s.name=s6)) (l:=m) (i:=0) ⟨d,hd,Ws M⟩;have v:=λj (e:Bi h2 j)=>E ⟨[],false,0,v2,m⟩ s6 j (csk.r.By e) w1 w2;simp only[T,X2 (show ¬ (0+(k:Int))<0 by omega)]at v
  rw[show decide ((0:Int)<=0+(k:Int))=true from Ws om,Iq]at v
  obtain⟨b1,p1,el⟩:=R0.elem (f:=Hx) (s:=4) (λ_=>rfl) csk.r.sl S;have O:=Vl S;obtain⟨z1,z2,z3⟩:=(gw D) h2 g2 m J x O (az U)
  have A:=λj (e:Bi h2 j)=>B x j ((gk.By g2.keeps).By e) ⟨csk.ln x O,λn=>Sl.By (csk.w x O n) e⟩ (csk.r.one x O) ⟨z2,z3⟩;rw[z1]at A;have f1:=el.ia;have f2:=el.all;replace v:=(hU v)
  replace A:=(hU A)
  generalize (k:Int)=kk at *
  clear csk kz J F D E B el T S U O hd M gk P;refine wq ?_;refine Fj ((show ∀j (e:Bi h2 j),Ah j _ (Z.call 105 [.agg [.str [],ct,iI 0,v2],.str s6] j)from v) _ M0) λv3 h3 e3 l3 Ary q3=>?_
  subst q3;have g3:Ai h2 h3:=Ai.trans Ex e3;refine wq ?_;refine Fj ((gw A) _ g3.keeps) λv4 h4 e4 l4 A9W q4=>?_
  subst q4;exact zr (g2.trans (g3.trans e4)) rfl
variable {r w:Int}
abbrev BaT:List (AV × AV):=[(iI 1,.fn (.func 134) [] []),(iI 6,.fn (.func 134) [] []),(iI 7,.fn (.func 134) [] []),(iI 8,.fn (.func 134) [] []),(iI 2,.fn (.func 135) [] []),(iI 4,.fn (.func 135) [] []),(iI 3,.fn (.func 136) [] []),(iI 5,.fn (.func 137) [] []),(iI 9,.fn (.func 138) [] []),(iI 10,.fn (.func 139) [] [])]
def A0h{b:Nat}{c Y8:List (AV × AV)}{k x:AV}(f:h.m.get b=.map c)(i:Fe prog 3 k=true)(e:Z7 (Gy prog 3 k) k x c=some Y8):As5 prog 3 .Iy (.map b) k x h=.ok (.Bj []) (h.put b (.map Y8)):=by rw[A53,f,AqR,i,Xo rfl,e];rfl
def CmK{b:Nat}{c:List (AV × AV)}{k v:AV}(f:h.m.get b=.map c)(i:Fe prog 3 k=true)(e:M1 (Gy prog 3 k) c=some (some v)):xLk prog 3 .Iy false (.map b) k h=.ok v h:=by rw[A6J,f,Auf,i,Xo rfl,e];rfl
def TbR(h:H)(r:AV)(h1:H):Prop:=∃b,r=.map b/\h.nx<=b/\b<h1.nx/\h1.m.get b=.map BaT
def CjY:Prop:=∀h:H,Ah h (TbR h) (Z.call 102 [] h)
def Cwx(h:H):Ah h (TbR h) (ml Z N 102 [] h):=by rw[Csf];refine Ey (v:=.map h.nx) (h:=h.new (.map [])) rfl ?_;refine Ey (A0h (Y8:=BaT.take 1) (Bf (h:=h) _) (by kernel_rfl) (by kernel_rfl)) ?_;refine Ey (A0h (Y8:=BaT.take 2) (A2 _ _) (by kernel_rfl) (by kernel_rfl)) ?_;refine Ey (A0h (Y8:=BaT.take 3) (A2 _ _) (by kernel_rfl) (by kernel_rfl)) ?_;refine Ey (A0h (Y8:=BaT.take 4) (A2 _ _) (by kernel_rfl) (by kernel_rfl)) ?_;refine Ey (A0h (Y8:=BaT.take 5) (A2 _ _) (by kernel_rfl) (by kernel_rfl)) ?_;refine Ey (A0h (Y8:=BaT.take 6) (A2 _ _) (by kernel_rfl) (by kernel_rfl)) ?_;refine Ey (A0h (Y8:=BaT.take 7) (A2 _ _) (by kernel_rfl) (by kernel_rfl)) ?_;refine Ey (A0h (Y8:=BaT.take 8) (A2 _ _) (by kernel_rfl) (by kernel_rfl)) ?_;refine Ey (A0h (Y8:=BaT.take 9) (A2 _ _) (by kernel_rfl) (by kernel_rfl)) ?_;refine Ey (A0h (Y8:=BaT.take 10) (A2 _ _) (by kernel_rfl) (by kernel_rfl)) ?_;exact Lo Ex ⟨h.nx,rfl,Ye _,Y3 _,A2 _ _⟩
abbrev sqC(q:Qr)(vc vo vm:AV)(r w:Int):uz:=[iI q.c0,vc,iI q.c2,iI q.c3,iI q.c4,iI q.c5,.str q.s6,iI q.c7,vo,iI q.c9,.bool q.Wz,.str q.Uw,iI q.W0,.str q.Wu,.str q.s14,.str q.s15,iI q.c16,vm,.str q.Oi,iI q.Mg,iI r,iI w]
structure AtD(vc vo vm:AV):Prop where
 c:Ge vc=true/\cellsOf vc=some [vc]
 o:Ge vo=true/\cellsOf vo=some [vo]
 m:Ge vm=true/\cellsOf vm=some [vm]
def Ayr(x:Int):Int:=max x (-x)
def Cke:Prop:=∀(x:Int) (h:H),-100<=x->x<=100->Z.call 165 [iI x] h=.ok (iI (Ayr x)) h
def Cw9(x:Int)(h:H)(h1:-100<=x)(h2:x<=100):ml Z N 165 [iI x] h=.ok (iI (Ayr x)) h:=Chk (by rw[Csw];have e:=λc=>By2 x (-x) c;refine wq ?_;exact zr Ex ⟨rfl,rfl⟩)
def Cw1(o:AtD vc vo vm):Ah h (λu _=>u=iI r) (ml Z N 134 [.agg (sqC q vc vo vm r w)] h):=by rw[Csn];obtain⟨⟨c1,c2⟩,⟨m,l⟩,j,f⟩:=o;obtain⟨c0,code,d2,d3,c4,c5,s6,c7,ord,c9,Wz,Uw,W0,e,i,c,U3,E9,Oi,Mg⟩:=q;refine wq ?_;exact zr Ex rfl
def Cw2(e:Cke Z)(o:AtD vc vo vm)(i:1<=r/\r<=12)(h1:-3<=q.c2/\q.c2<=10)(h2:-3<=q.c3/\q.c3<=10):Ah h (λu _=>u=iI (max 1 (r*max (Ayr q.c2) (Ayr q.c3)))) (ml Z N 135 [.agg (sqC q vc vo vm r w)] h):=by
 rw[Cso];obtain⟨⟨c1,c2⟩,⟨D,B⟩,A,m⟩:=o;obtain⟨c0,code,d2,d3,c4,c5,s6,c7,ord,c9,Wz,Uw,W0,l,p,j,U3,E9,Oi,Mg⟩:=q;simp only at h1 h2;have a1:=λc=>e d2 c om om;have a2:=λc=>e d3 c om om;show Ah h (λu _=>u=iI (max 1 (r*max (Ayr d2) (Ayr d3)))) _;have b1:0<=Ayr d2/\Ayr d2<=10:=by unfold Ayr;omega
 have b2:0<=Ayr d3/\Ayr d3<=10:=by unfold Ayr;omega
 generalize Ayr d2=x at *
 generalize Ayr d3=y at *
 have v:=λc=>By2 x y c;have f:0<=max x y/\max x y<=10:=by omega
 generalize max x y=z at *
 have C:=Awl (x:=r) (y:=z) (a:=12) (b:=10) om i.2 f.1 f.2;have t:=λc=>By2 1 (r*z) c;clear h1 h2 e b1 b2 f;refine wq ?_;refine zr Ex ?_;rfl
def Cw3(o:AtD vc vo vm)(c:1<=r/\r<=12):Ah h (λu _=>u=iI (if q.Wz then 2*r else r)) (ml Z N 136 [.agg (sqC q vc vo vm r w)] h):=by
 rw[Csp];obtain⟨⟨c1,c2⟩,⟨v,t⟩,p,j⟩:=o;obtain⟨c0,code,d2,d3,c4,c5,s6,c7,ord,c9,Wz,Uw,W0,i,l,f,U3,E9,Oi,Mg⟩:=q;obtain⟨m,e⟩:=c;cases Wz with
 |true=>refine wq ?_;refine zr Ex ?_;rfl
 |false=>refine wq ?_;refine zr Ex ?_;rfl
def Cw4(o:AtD vc vo vm)(f:1<=r/\r<=12)(h1:1<=q.c4/\q.c4<=9)(h2:1<=q.c5/\q.c5<=13):Ah h (λu _=>u=iI (r*max q.c4 (q.c5-q.c4))) (ml Z N 137 [.agg (sqC q vc vo vm r w)] h):=by
 rw[Csq];obtain⟨⟨c1,c2⟩,⟨B,v⟩,t,l⟩:=o;obtain⟨c0,code,d2,d3,c4,c5,s6,c7,ord,c9,Wz,Uw,W0,j,m,i,U3,E9,Oi,Mg⟩:=q;simp only at h1 h2;have p:=λe=>By2 c4 (c5-c4) e;have c:0<=max c4 (c5-c4)/\max c4 (c5-c4)<=13:=by omega
 have A:=Awl (x:=r) (y:=max c4 (c5-c4)) (a:=12) (b:=13) om f.2 c.1 c.2;refine wq ?_;refine zr Ex ?_;rfl
def Cw5{n:Nat}(f:∀hh,GP hh->Z.call 64 [iI (n:Int)] hh=.ok (iI (lvl n)) hh)(i:GP h)(o:AtD vc vo vm)(e:1<=r/\r<=12)(c:0<=lvl n/\lvl n<=4):Ah h (λu _=>u=iI (r*lvl n)) (ml Z N 138 [.agg (sqC q vc vo vm r (n:Int))] h):=by
 rw[Csr];obtain⟨⟨c1,c2⟩,⟨C,A⟩,v,p⟩:=o;obtain⟨c0,code,d2,d3,c4,c5,s6,c7,ord,c9,Wz,Uw,W0,m,t,j,U3,E9,Oi,Mg⟩:=q;generalize lvl n=l at *
 generalize (n:Int)=ni at *
 have B:=Awl (x:=r) (y:=l) (a:=12) (b:=4) om e.2 c.1 c.2;refine wq ?_;refine zr Ex ?_;rfl
def Cw6{n:Nat}(t:∀c,GP c->Z.call 64 [iI (n:Int)] c=.ok (iI (lvl n)) c)(v:GP h)(o:AtD vc vo vm)(i:1<=r/\r<=12)(f:0<=lvl n/\lvl n<=4)(hn:n<=8)(h9:q.c9=0\/q.c9=1\/q.c9=2):Ah h (λu _=>u=iI (r*(if q.c9=0 then 1 else if q.c9=1 then(n:Int)else lvl n))) (ml Z N 139 [.agg (sqC q vc vo vm r (n:Int))] h):=by
 rw[Css];obtain⟨⟨c1,c2⟩,⟨I,F⟩,E,C⟩:=o;obtain⟨c0,code,d2,d3,c4,c5,s6,c7,ord,c9,Wz,Uw,W0,B,D,A,U3,E9,Oi,Mg⟩:=q;simp only at h9;generalize lvl n=l at *
 have e:(0:Int)<=(n:Int)/\(n:Int)<=8:=by omega
 generalize (n:Int)=ni at *
 have G:=Awl (x:=r) (y:=l) (a:=12) (b:=4) om i.2 f.1 f.2;have j:=Awl (x:=r) (y:=ni) (a:=12) (b:=8) om i.2 e.1 e.2;have p:∀c,xIx prog (.arr 3 ⟨3,1,8⟩) (.agg [iI 1,iI ni,iI l]) (iI 0) c=.ok (iI 1) c:=λc=>by kernel_rfl
 have ix1:∀c,xIx prog (.arr 3 ⟨3,1,8⟩) (.agg [iI 1,iI ni,iI l]) (iI 1) c=.ok (iI ni) c:=λc=>by kernel_rfl
 have m:∀c,xIx prog (.arr 3 ⟨3,1,8⟩) (.agg [iI 1,iI ni,iI l]) (iI 2) c=.ok (iI l) c:=λc=>by kernel_rfl
 rcases h9 with rfl|rfl|rfl
 .show Ah h (λu _=>u=iI (r*1)) _;rw[Int.mul_one];refine wq ?_;refine zr Ex ?_;rfl
 .show Ah h (λu _=>u=iI (r*ni)) _;refine wq ?_;refine zr Ex ?_;rfl
 .show Ah h (λu _=>u=iI (r*l)) _;refine wq ?_;refine zr Ex ?_;rfl
def A3n(q:Qr)(r:Int)(n:Nat):Int:=
 if q.c0=2\/q.c0=4 then max 1 (r*max (Ayr q.c2) (Ayr q.c3))
 else if q.c0=3 then(if q.Wz then 2*r else r)
 else if q.c0=5 then r*max q.c4 (q.c5-q.c4)
 else if q.c0=9 then r*lvl n
 else if q.c0=10 then r*(if q.c9=0 then 1 else if q.c9=1 then(n:Int)else lvl n)
 else r
def kfn(k:Int):FuncId:=if k=2\/k=4 then 135 else if k=3 then 136 else if k=5 then 137 else if k=9 then 138 else if k=10 then 139 else 134
structure Ckk(Z:Ac):Prop where
 f:∀(q:Qr) (vc vo vm:AV) (r:Int) (n:Nat) (h:H),GP h->AtD vc vo vm->1<=r/\r<=12->1<=n/\n<=8->(∃A1 q0,KV A1 q0 q)->1<=q.c0/\q.c0<=10->Ah h (λu _=>u=iI (A3n q r n)) (Z.call (kfn q.c0) [.agg (sqC q vc vo vm r (n:Int))] h)
def B76{n:Nat}(e:1<=r/\r<=12)(hn:1<=n/\n<=8)(kv:∃A1 q0,KV A1 q0 q)(f:1<=q.c0/\q.c0<=10):1<=A3n q r n/\A3n q r n<=156:=by
 obtain⟨A1,q0,kv⟩:=kv;have c:1<=lvl n/\lvl n<=4:=by
  unfold lvl;split
  .omega
  .split
   .omega
   .split
    .omega
    .split<;>omega
 have pos:∀y:Int,1<=y->∀b:Int,y<=b->1<=r*y/\r*y<=12*b:=λy h1 b h2=>⟨eu om (Fa e.1 h1 fe om:(1:Int)*1<=r*y),(Awl (x:=r) (y:=y) (a:=12) (b:=b) om e.2 om h2).2⟩;unfold A3n;split
 .rename_i h;have:=kv.AyG om;have b1:0<=Ayr q.c2/\Ayr q.c2<=10:=by unfold Ayr;omega
  have b2:0<=Ayr q.c3/\Ayr q.c3<=10:=by unfold Ayr;omega
  have:=Awl (x:=r) (y:=max (Ayr q.c2) (Ayr q.c3)) (a:=12) (b:=10) om e.2 om om;omega
 .split
  .split<;>omega
  .split
   .rename_i h;have:=kv.pq2 h;have:=pos (max q.c4 (q.c5-q.c4)) om 13 om;omega
   .split
    .have:=pos (lvl n) c.1 4 c.2;omega
    .split
     .rename_i h;obtain⟨_,_,j,i,_⟩:=kv.Bde h;split
      .omega
      .split
       .have:=pos (n:Int) om 8 om;omega
       .have:=pos (lvl n) c.1 4 c.2;omega
     .omega
def CjW:Prop:=∀(ss:List Abn) (q:Qr) (vc vo vm sv:AV) (a:Abn) (c:Option Abn) (n:Nat) (h:H),Ao5 ss q vc vo vm sv h->a∈ss->a.name=q.Uw->a.pub=false->Blg ss q c->Bse ss q n->1<=n/\n<=8->Ah h (λr _=>r=iI (A3n q (A2d q a c) n)) (Z.call 57 [.agg (qc q vc vo vm),sv] h)
def ByD{e:Option Abn}(K:Ao5 ss q vc vo vm sv h)(ha:a∈ss)(hn:a.name=q.Uw)(o:a.pub=false)(hb:Blg ss q e):1<=A2d q a e/\A2d q a e<=12:=by
 have l:=(K.sd.d a ha).pm;rw[o]at l;have c:1<=a.many/\a.many<=4:=by
  rcases l with h|h
  .exact⟨h.2.1,h.2.2⟩
  .cases h.1
 have t:q.W0=0\/1<=q.W0/\q.W0<=4:=by obtain⟨v,m,u,j,_⟩:=K.ok.pre.tbl;exact j.imp id λx=>x.2
 have f:=By0 c.1 c.2 t;cases e with
 |none=>exact⟨f.1,by show lsr q.W0 a.many<=12;omega⟩
 |some b=>
  obtain⟨m,u,j,p⟩:=hb;have i:=(K.sd.d b m).pm;have hy:1<=(if b.pub then q.c16 else min q.c16 b.many)/\(if b.pub then q.c16 else min q.c16 b.many)<=3:=by
   rcases i with h|h
   .rw[h.1,X2 fe];omega
   .rw[h.1,Xo rfl];exact⟨j,p⟩
  show 1<=lsr q.W0 a.many*_/\lsr q.W0 a.many*_<=12;generalize (if b.pub then q.c16 else min q.c16 b.many)=y at *
  have h1:=Fa f.1 hy.1 fe om;have h2:=Awl (x:=lsr q.W0 a.many) (y:=y) (a:=4) (b:=3) om f.2 om hy.2;omega
def Ckv(k:Int):Bg prog (kfn k)=true:=by
 unfold kfn;split
 .kernel_rfl
 .split
  .kernel_rfl
  .split
   .kernel_rfl
   .split
    .kernel_rfl
    .split<;>kernel_rfl
def CuN{b:Nat}{k:Int}(e:1<=k/\k<=10)(c:h.m.get b=.map BaT):xLk prog 3 .Iy false (.map b) (iI k) h=.ok (.fn (.func (kfn k)) [] []) h:=by
 rcases Bek e with rfl|rfl|rfl|rfl|rfl|rfl|rfl|rfl|rfl|rfl
 all_goals exact CmK c (by kernel_rfl) (by kernel_rfl)
def Cwn(A:CaJ Z)(Q:CjY Z)(E:Cf6 Z)(J:Cf7 Z)(U:Ckk Z)(B:Option Abn)(n:Nat)(K:Ao5 ss q vc vo vm sv h)(ha:a∈ss)(hn:a.name=q.Uw)(O:a.pub=false)(hb:Blg ss q B)(hw:Bse ss q n)(P:1<=n/\n<=8):Ah h (λr _=>r=iI (A3n q (A2d q a B) n)) (ml Z N 57 [.agg (qc q vc vo vm),sv] h):=by
 rw[CrM];have R:=B2 K.qv.c;have T:=B2 K.qv.o;have om:=B2 K.qv.m;have hO:AtD vc vo vm:=⟨R,T,om⟩;obtain⟨c1,c2⟩:=R;obtain⟨o1,o2⟩:=T;obtain⟨m1,m2⟩:=om;have j:=λi (e:Ai h i)=>A ss q vc vo vm sv a i (K.gr e) ha hn;rw[O]at j;have u:=λi (e:Ai h i)=>E ss q vc vo vm sv a B i (K.gr e) ha hn O hb;have p:=λi (e:Ai h i)=>J ss q vc vo vm sv a n i (K.gr e) ha hn O hw;have hr:=ByD K ha hn O hb;have M:=λi (e:Ai h i)=>U.f q vc vo vm (A2d q a B) n i (K.gp.gr e) hO hr P ⟨_,K.ok.kv⟩ K.ok.pre.kind;have S:=Ckv q.c0;have L:=λi b=>CuN (h:=i) (b:=b) K.ok.pre.kind;generalize A2d q a B=rr at *
 generalize A3n q rr n=sf at *
 generalize (n:Int)=ni at *
 replace j:=(hU j)
 replace u:=(hU u)
 replace p:=(hU p)
 clear A E J U K hn;have C:∀(l:uz) (h:H),cvV (.fn (.func (kfn q.c0)) [] []) l prog Z h=Z.call (kfn q.c0) l h:=λl h=>by rw[AeY,Xo S,T3,F0]
 simp only[<- C]at M;clear C;generalize kfn q.c0=F at *
 clear S;replace M:=(hU M)
 obtain⟨c0,code,d2,d3,c4,c5,s6,c7,ord,c9,Wz,Uw,W0,Yc,Sk,Uo,U3,E9,Oi,Mg⟩:=q;simp only at L;replace L:=(hU L)
 refine wq ?_;refine Fj ((gw j) _ Ex) λv1 h1 e1 l1 t X=>?_
 obtain rfl:v1=ux:=X;have g1:Ai h h1:=Ai.trans Ex e1;simp only[C9]at l1 t;have s1:=(t h.nx om).trans (Bf ..);clear t e1 j;refine wq ?_;refine zc2 (Q _) λv2 h2 e2 l2 G q2=>?_;obtain⟨b,rfl,k1,k2,V⟩:=q2;have g2:Ai h1 h2:=Ai.trans Ex e2;have s2:=(G h.nx om).trans s1;have D:=λi (e:i.m.get b=.map BaT)=>(gw L) i b e
 replace D:=D (Ab h2) V;clear G s1;refine wq ?_;refine zc2 ((gw u) _ Ex) λv3 h3 e3 l3 v Y=>?_
 subst Y;have g3:Ai h h3:=Ai.trans Ex e3;have s3:=(v h.nx mh).trans s2;clear v;refine wq ?_;refine zc2 ((gw p) _ Ex) λv4 W e4 l4 I q4=>?_
 subst q4;have g4:Ai h W:=Ai.trans Ex e4;have s4:=(I h.nx (by simp only[C9]at *;omega)).trans s3;clear I;refine wq ?_;refine zc2 ((gw M) _ Ex) λv5 h5 e5 l5 Az4 q5=>?_
 subst q5;refine zr Ex ?_;rfl
end Go.Proofs
namespace Go.Proofs.Anf
open Go Go.Ev Go.Nm Go.Ev.Sx
open Go.Proofs Go.Proofs.YtahaaiadlgfchaaGreatDoor
def upE{g:FuncId}{args:uz}{h:H}{v:AV}{q:Bool}{d:Nat}(e:ArK g=λ_=>none)(c:Ay PP (C d) N0x q g args h=.ok v h):(C (d+1)).call g args h=.ok v h:=Chk (Gp e ⟨v,h,c,Ai.refl h,rfl,rfl⟩)
def CqM(d:Nat)(hd:1<=d):CjZ (C d):=by obtain⟨e,rfl,f⟩:=pr hd;exact λc m h=>upE zNo (Cwy _ _ c m h)
def CqN(d:Nat)(hd:1<=d):Cke (C d):=by obtain⟨e,rfl,c⟩:=pr hd;exact λx h h1 h2=>upE zNo (Cw9 _ _ x h h1 h2)
def Cgx(d:Nat)(hd:14<=d):CaI (C d):=by obtain⟨e,rfl,c⟩:=pr hd;exact λss q vc vo vm sv a h K ha hn=>Gp zNo (Cwm _ _ (c59 e om) (c84 e om) K ha hn)
def Cg2(d:Nat)(hd:16<=d):CaJ (C d):=by obtain⟨e,rfl,c⟩:=pr hd;exact λss q vc vo vm sv a h K ha hn=>Gp zNo (Cww _ _ (c18 e om) (Cgx e om) K ha hn)
def CkF(d:Nat)(hd:17<=d):Cf6 (C d):=by obtain⟨e,rfl,i⟩:=pr hd;exact λss q vc vo vm sv a c h K ha hn f hb=>Gp zNo (Cwo _ _ (Cg2 e om) (c84 e om) (CqM e om) c K ha hn f hb)
def CkG(d:Nat)(hd:17<=d):Cf7 (C d):=by obtain⟨e,rfl,i⟩:=pr hd;exact λss q vc vo vm sv a w h K ha hn f c=>Gp zNo (Cwp _ _ (Cg2 e om) (Mg e om) (Ckz e om) (c91 e om) K ha hn f c)
def CqL(d:Nat)(hd:1<=d):CjY (C d):=by obtain⟨e,rfl,c⟩:=pr hd;exact λh=>Gp zNo (Cwx _ _ h)
def By1(n:Nat):0<=lvl n/\lvl n<=4:=by
 unfold lvl;split
 .omega
 .split
  .omega
  .split
   .omega
   .split<;>omega
def t64:Wt 64=inS [] .i64 9 λn=>iI (lvl n):=wS
def z64{n:Nat}(hn:n<=8)(d:Nat):∀c,GP c->(C (d+1)).call 64 [iI (n:Int)] c=.ok (iI (lvl n)) c:=lkZ (zU (uV (vW t64))) (Ay7 (pre:=[]) (show n<9 by omega))
def CqW(d:Nat)(hd:3<=d):Ckk (C d):=by
 obtain⟨e,rfl,t⟩:=pr hd;obtain⟨u,rfl,B⟩:=pr t;refine⟨λq vc vo vm r n h p o i hn kv v=>?_⟩;obtain⟨A1,q0,kv⟩:=kv;have l:=z64 hn.2 u;unfold A3n kfn;by_cases c:q.c0=2\/q.c0=4
 .have:=kv.AyG om;rw[Xo c,Xo c];exact Gp zNo (Cw2 _ _ (CqN _ om) o i om om)
 .rw[X2 c,X2 c];by_cases m:q.c0=3
  .rw[Xo m,Xo m];exact Gp zNo (Cw3 _ _ o i)
  .rw[X2 m,X2 m];by_cases j:q.c0=5
   .have:=kv.pq2 j;rw[Xo j,Xo j];exact Gp zNo (Cw4 _ _ o i om om)
   .rw[X2 j,X2 j];by_cases h9:q.c0=9
    .rw[Xo h9,Xo h9];exact Gp zNo (Cw5 _ _ l p o i (By1 n))
    .rw[X2 h9,X2 h9];by_cases f:q.c0=10
     .obtain⟨_,_,A,D,_⟩:=kv.Bde f;rw[Xo f,Xo f];exact Gp zNo (Cw6 _ _ l p o i (By1 n) hn.2 om)
     .rw[X2 f,X2 f];exact Gp zNo (Cw1 _ _ o)
def CqJ(d:Nat)(hd:18<=d):CjW (C d):=by obtain⟨e,rfl,l⟩:=pr hd;exact λss q vc vo vm sv a j n h K ha hn i hb f c=>Gp zNo (Cwn _ _ (Cg2 e om) (CqL e om) (CkF e om) (CkG e om) (CqW e om) j n K ha hn i hb f c)
end Go.Proofs.Anf
namespace Go.Proofs
open Go Go.Ev Go.Nm Tryz Go.Ev.Sx
open Go.Proofs.YtahaaiadlgfchaaGreatDoor
attribute [local irreducible] Aa Al Af Ad
variable {I J R j o p:uw}
variable (Z:Ac)(N:Nat)
variable {ss:List Abn}{q:Qr}{vc vo vm sv:AV}{a b:Abn}{h h1:H}{s r w:Int}
abbrev lnC(q:Qr)(vc vo vm:AV)(s r w:Int):uz:=[iI q.c0,vc,iI q.c2,iI q.c3,iI q.c4,iI q.c5,.str q.s6,iI q.c7,vo,iI q.c9,.bool q.Wz,.str q.Uw,iI q.W0,.str q.Wu,.str q.s14,.str q.s15,iI q.c16,vm,.str q.Oi,iI q.Mg,iI s,iI r,iI w]
abbrev lnZ:uz:=[iI 0,.Bv,iI 0,iI 0,iI 0,iI 0,.str [],iI 0,.Bv,iI 0,ct,.str [],iI 0,.str [],.str [],.str [],iI 0,.Bv,.str [],iI 0,iI 0,iI 0,iI 0]
def Cev:Prop:=∀(ss:List Abn) (q:Qr) (vc vo vm sv:AV) (a:Abn) (h:H),Ao5 ss q vc vo vm sv h->a∈ss->a.name=q.Uw->a.pub=true->Ah h (λr _=>r=.Bj [.agg lnZ,ct]) (Z.call 22 [.agg (qc q vc vo vm),sv] h)
def Cnr(v:R18 Z)(t:CaI Z)(K:Ao5 ss q vc vo vm sv h)(ha:a∈ss)(hn:a.name=q.Uw)(C:a.pub=true):Ah h (λr _=>r=.Bj [.agg lnZ,ct]) (Ay prog Z N false 22 [.agg (qc q vc vo vm),sv] h):=by
 rw[Clu];obtain⟨c1,c2⟩:=B2 K.qv.c;obtain⟨J,I⟩:=B2 K.qv.o;obtain⟨M,E⟩:=B2 K.qv.m;have i:=λl (e:Ai h l)=>v ss q vc vo vm sv l (K.gr e).sd K.l3 K.V (K.gr e).qv K.ok (K.gr e).gp;have f:=λl (e:Ai h l)=>t ss q vc vo vm sv a l (K.gr e) ha hn;rw[C]at f;replace i:=(hU i)
 replace f:=(hU f)
 clear K v t hn;obtain⟨c0,code,d2,d3,c4,c5,s6,c7,ord,c9,Wz,Uw,W0,L,F,G,U3,E9,Oi,Mg⟩:=q;refine we ?_;refine Fj ((gw i) _ Ex) λv1 h1 e1 l1 j A=>?_
 obtain rfl:v1=_:=A;have g1:Ai h h1:=Ai.trans Ex e1;simp only[C9]at l1 j;have s1:=(j h.nx om).trans ((Cq _ _ (Lb (Y3 _))).trans (Bf _));have u:=(j (h.nx+1) om).trans (Bf (h:=h.new _) _);clear j e1 i;refine we ?_;refine Fj ((gw f) _ g1) λv2 h2 B l2 p D=>?_
 obtain rfl:v2=ct:=D;have g2:Ai h h2:=Ai.trans Ex B;have s2:=(p h.nx om).trans s1;have t2:=(p (h.nx+1) om).trans u;clear p s1 u;refine we ?_;exact Lo (g2.put _ _ om) rfl
def CjT:Prop:=∀(ss:List Abn) (q:Qr) (vc vo vm sv:AV) (a:Abn) (c:Option Abn) (n:Nat) (h:H),Ao5 ss q vc vo vm sv h->a∈ss->a.name=q.Uw->a.pub=false->Blg ss q c->Bse ss q n->1<=n/\n<=8->Ah h (λr _=>r=.Bj [.agg (lnC q vc vo vm (A3n q (A2d q a c) n) (A2d q a c) n),ux]) (Z.call 22 [.agg (qc q vc vo vm),sv] h)
def Cns(T:R18 Z)(E:CaI Z)(G:CjW Z)(F:Cf6 Z)(I:Cf7 Z)(u:Option Abn)(n:Nat)(K:Ao5 ss q vc vo vm sv h)(ha:a∈ss)(hn:a.name=q.Uw)(J:a.pub=false)(hb:Blg ss q u)(R:Bse ss q n)(L:1<=n/\n<=8):Ah h (λr _=>r=.Bj [.agg (lnC q vc vo vm (A3n q (A2d q a u) n) (A2d q a u) n),ux]) (Ay prog Z N false 22 [.agg (qc q vc vo vm),sv] h):=by
 rw[Clu];obtain⟨c1,c2⟩:=B2 K.qv.c;obtain⟨o1,o2⟩:=B2 K.qv.o;obtain⟨m1,m2⟩:=B2 K.qv.m;have j:=λf (e:Ai h f)=>T ss q vc vo vm sv f (K.gr e).sd K.l3 K.V (K.gr e).qv K.ok (K.gr e).gp;have i:=λf (e:Ai h f)=>E ss q vc vo vm sv a f (K.gr e) ha hn;have D:=λf (e:Ai h f)=>G ss q vc vo vm sv a u n f (K.gr e) ha hn J hb R L;have A:=λf (e:Ai h f)=>F ss q vc vo vm sv a u f (K.gr e) ha hn J hb;have t:=λf (e:Ai h f)=>I ss q vc vo vm sv a n f (K.gr e) ha hn J R;rw[J]at i;generalize A3n q (A2d q a u) n=sf at *
 generalize A2d q a u=rr at *
 generalize (n:Int)=ni at *
 replace j:=(hU j)
 replace i:=(hU i)
 replace D:=(hU D)
 replace A:=(hU A)
 replace t:=(hU t)
 clear K T E G F I hn hb;obtain⟨c0,code,d2,d3,c4,c5,s6,c7,ord,c9,Wz,Uw,W0,Yc,Sk,Uo,U3,E9,Oi,Mg⟩:=q;refine we ?_;refine Fj ((gw j) _ Ex) λv1 h1 e1 l1 l q1=>?_
 obtain rfl:v1=_:=q1;have g1:Ai h h1:=Ai.trans Ex e1;simp only[C9]at l1 l;have s1:=(l h.nx om).trans ((Cq _ _ (Lb (Y3 _))).trans (Bf _));have S:=(l (h.nx+1) om).trans (Bf (h:=h.new _) _);clear l e1 j;refine we ?_;refine Fj ((gw i) _ g1) λv2 h2 e2 l2 B q2=>?_
 obtain rfl:v2=ux:=q2;have g2:Ai h h2:=Ai.trans Ex e2;have s2:=(B h.nx om).trans s1;have t2:=(B (h.nx+1) om).trans S;clear B s1 S;refine we ?_;refine Fj ((gw D) _ Ex) λv3 O U l3 p q3=>?_
 subst q3;have g3:Ai h O:=Ai.trans Ex U;have w3:wrote h2.nx O.lg=[]:=U.quiet;have s3:=(p h.nx mh).trans s2;have X:=(p (h.nx+1) mh).trans t2;clear p;refine we ?_;refine Fj ((gw A) _ Ex) λv4 M W l4 C q4=>?_
 subst q4;have g4:Ai h M:=Ai.trans Ex W;have w4:wrote O.nx M.lg=[]:=W.quiet;simp only[C9]at l3;have Y:=(C h.nx mh).trans s3;have t4:=(C (h.nx+1) mh).trans X;clear C;refine we ?_;refine Fj ((gw t) _ Ex) λv5 Q P l5 v q5=>?_
 subst q5;have g5:Ai h Q:=Ai.trans Ex P;have w5:wrote M.nx Q.lg=[]:=P.quiet;simp only[C9]at l4;have s5:=(v h.nx mh).trans Y;have t5:=(v (h.nx+1) mh).trans t4;clear v;simp only[C9]at l5;refine we ?_;refine zr Ex ?_;rfl
namespace Anf
def CkC(d:Nat)(hd:16<=d):Cev (C d):=by obtain⟨e,rfl,f⟩:=pr hd;exact λss q vc vo vm sv a h K ha hn c=>Gp zNo (Cnr _ _ (c18 e om) (Cgx e om) K ha hn c)
def CkD(d:Nat)(hd:19<=d):CjT (C d):=by obtain⟨e,rfl,l⟩:=pr hd;exact λss q vc vo vm sv a j n h K ha hn i hb f c=>Gp zNo (Cns _ _ (c18 e om) (Cgx e om) (CqJ e om) (CkF e om) (CkG e om) j n K ha hn i hb f c)
end Anf
variable {b:Nat}{cs:uz}
structure Ao9(b:Nat)(cs:List AV)(h:H):Prop where
 get:h.m.get b=.cells cs 72 .exact
 lt:b<h.nx
 len:cs.length=32
 err:cs[31]?=some (iI 0)
def Ao9.ld(k:Ao9 b cs h):∀c,Bi h c->Ae (some none) (.ptr b 31) c=.ok (iI 0) c:=(AsC k.lt k.get).one k.err
def Ao9.st(k:Ao9 b cs h):A4 1 (.ptr b 31) (iI 0) h=.ok (.Bj []) (h.put b (cd cs 72)):=by
 have j:=k.len;have e:Ng cs [iI 0] 31=some cs:=by
  rw[Kh,Xo (by simp;omega)];have:cs=cs.take 31++[iI 0]++cs.drop 32:=by
   refine dg λi=>?_;rw[List.getElem?_append,List.getElem?_append];have f:(cs.take 31).length=31:=by rw[Cm];omega
   simp only[Xi,f,Y7,Gx];split
   .split
    .rw[Mx om]
    .rename_i h1 h2;obtain rfl:i=31:=by omega
     rw[k.err];rfl
   .rename_i h1;rw[ak om,ak (by rw[bg];omega)]
  exact Jh some this.symm
 have c:=k.get;simp[c,e]
def B0U{R:OR}{v:AV}{h':H}(k:Ah H0 (λr h1=>r=v/\h1=h') R):R=.ok v h':=by obtain⟨r,h1,e,_,rfl,rfl⟩:=k;exact e
def B0f:Prop:=∀(b:Nat) (cs:uz) (h:H),Ao9 b cs h->Z.call 25 [.ptr b 0] h=.ok ux h
def Cwk(k:Ao9 b cs h):ml Z N 25 [.ptr b 0] h=.ok ux h:=B0U (by rw[CrG];have ld:=k.ld;have hb:=k.lt;clear k;refine wq ?_;exact zr (Ed _) ⟨rfl,rfl⟩)
def Bsc:Prop:=∀(b:Nat) (cs:uz) (v:AV) (h:H),Ao9 b cs h->Z.call 271 [.ptr b 0,v,iI 0] h=.ok v (h.put b (cd cs 72))
def CwD(v:AV)(k:Ao9 b cs h):ml Z N 271 [.ptr b 0,v,iI 0] h=.ok v (h.put b (cd cs 72)):=B0U (by rw[Cs2];have ld:=k.ld;have st:=k.st;have hb:=k.lt;clear k;refine wq ?_;exact zr (Ed _) ⟨rfl,rfl⟩)
def Cf9:Prop:=∀(n:Nat) (h:H),GP h->n<Adw.AdE->Z.call 274 [iI (n:Int)] h=.ok (.str (dgn n)) h
def CwE{n:Nat}(c:∀h,GP h->Z.call 241 [iI (n:Int)] h=.ok (.str (dgn n)) h)(e:GP h):ml Z N 274 [iI (n:Int)] h=.ok (.str (dgn n)) h:=B0U (by
 rw[Cs5];generalize (n:Int)=ni at *
 generalize dgn n=s at *
 refine wq ?_;exact zr (Ed _) ⟨rfl,rfl⟩)
abbrev T4(F:FuncId)(x y z:uw):Prop:=ArK F [.str x,.str y]=some (.Bj [.str z,iI 0])
def CaH:Prop:=∀(F:FuncId) (b bs:Nat) (cs:uz) (x y z:uw) (h:H),Bg prog F=true->Ao9 b cs h->GP h->bs<h.nx->h.m.get bs=cd [.str y] 28->T4 F x y z->Z.call 26 [.ptr b 0,.fn (.func F) [] [],.str x,.sl bs 0 1 1 1 true] h=.ok (.str z) (h.put b (cd cs 72))
def Cwl{F:FuncId}{bs:Nat}(u:3<N)(y:Bg prog F=true)(k:Ao9 b cs h)(t:GP h)(hb:bs<h.nx)(e:h.m.get bs=cd [.str o] 28)(f:∀h,GP h->Z.call F [.str j,.str o] h=.ok (.Bj [.str p,iI 0]) h):ml Z N 26 [.ptr b 0,.fn (.func F) [] [],.str j,.sl bs 0 1 1 1 true] h=.ok (.str p) (h.put b (cd cs 72)):=B0U (by
 rw[CrH];obtain⟨N,rfl⟩:∃M,N=M+1+1:=⟨N-2,by omega⟩;have ld:=k.ld;have st:=k.st;have hb:=k.lt;have l0:=(AsC (hd:=h) (bb:=bs) ‹bs<h.nx› e).one (o:=0) rfl;have ln:∀c:H,Fo (.sl bs 0 1 1 1 true) c=.ok (iI 1) c:=λc=>rfl;have ia:∀c:H,Gc 1 (.sl bs 0 1 1 1 true) (iI 0) c=.ok (.ptr bs 0) c:=λc=>ix1 (i:=0) om bs c;have l:∀h,GP h->cvV (.fn (.func F) [] []) [.str j,.str o] prog Z h=.ok (.Bj [.str p,iI 0]) h:=λh x=>by rw[AeY,Xo y,T3,F0];exact f h x
 clear k f e y;refine wq ?_;rw[Bxo];refine wq ?_;rw[Ca2,Ca3];refine wq ?_;rw[Bxo];refine wq ?_;exact zr (Ed _) ⟨rfl,rfl⟩)
def A0s(k:Int):AV:=if k=1\/k=2 then .I6 115 (.agg [.fn (.func 60) [] []])else if k=4 then .I6 115 (.agg [.fn (.func 61) [] []])else if k=3 then .I6 115 (.agg [.fn (.func 62) [] []])else if k=5\/k=6 then .I6 117 (.agg [])else if k=7 then .I6 118 (.agg [])else if k=8 then .I6 119 (.agg [])else if k=9 then .I6 115 (.agg [.fn (.func 63) [] []])else .I6 115 (.agg [.fn (.func 65) [] []])
def AzW(q:Qr)(n:Nat):Nat:=
 if q.c0=3 then(if q.Wz then n+1 else n)
 else if q.c0=4\/q.c0=8 then n
 else if q.c0=7 then n+1
 else if q.c0=9 then 2^(lvl n).toNat-1
 else if q.c0=10 then(if q.c9=2 then(blk n).toNat else n)
 else 1
def BgM{n:Nat}(hn:1<=n/\n<=8):1<=AzW q n/\AzW q n<=15:=by
 have h1:∀n,1<=n/\n<=8->1<=2^(lvl n).toNat-1/\2^(lvl n).toNat-1<=15:=by
  intro n hn;have:∀n:Fin 9,1<=n.val->1<=2^(lvl n.val).toNat-1/\2^(lvl n.val).toNat-1<=15:=by decide
  exact this ⟨n,by omega⟩ hn.1
 have h2:∀n,1<=n/\n<=8->1<=(blk n).toNat/\(blk n).toNat<=15:=by
  intro n hn;have:∀n:Fin 9,1<=n.val->1<=(blk n.val).toNat/\(blk n.val).toNat<=15:=by decide
  exact this ⟨n,by omega⟩ hn.1
 have a1:=h1 n hn;have a2:=h2 n hn;unfold AzW;generalize 2^(lvl n).toNat-1=x at *
 generalize (blk n).toNat=y at *
 split
 .split<;>omega
 .split
  .omega
  .split
   .omega
   .split
    .omega
    .split
     .split<;>omega
     .omega
def RDr(F:FuncId)(q:Qr)(n d:Nat):Prop:=∀(vc vo vm:AV) (s r:Int) (h:H),GP h->AtD vc vo vm->Ah h (λu _=>u=iI (d:Int)) (Z.call F [.agg (lnC q vc vo vm s r (n:Int))] h)
def Cwq{n:Nat}(o:AtD vc vo vm):Ah h (λu _=>u=iI ((1:Nat):Int)) (ml Z N 60 [.agg (lnC q vc vo vm s r (n:Int))] h):=by rw[CrO];obtain⟨⟨c1,c2⟩,⟨m,l⟩,j,f⟩:=o;obtain⟨c0,code,d2,d3,c4,c5,s6,c7,ord,c9,Wz,Uw,W0,e,i,c,U3,E9,Oi,Mg⟩:=q;refine wq ?_;exact zr Ex rfl
def Cwr{n:Nat}(o:AtD vc vo vm):Ah h (λu _=>u=iI (n:Int)) (ml Z N 61 [.agg (lnC q vc vo vm s r (n:Int))] h):=by
 rw[CrP];obtain⟨⟨c1,c2⟩,⟨m,l⟩,j,f⟩:=o;obtain⟨c0,code,d2,d3,c4,c5,s6,c7,ord,c9,Wz,Uw,W0,e,i,c,U3,E9,Oi,Mg⟩:=q;generalize (n:Int)=ni at *
 refine wq ?_;exact zr Ex rfl
def Cws{n:Nat}(hn:n<=8)(o:AtD vc vo vm):Ah h (λu _=>u=iI ((if q.Wz then n+1 else n:Nat):Int)) (ml Z N 62 [.agg (lnC q vc vo vm s r (n:Int))] h):=by
 rw[CrQ];obtain⟨⟨c1,c2⟩,⟨p,m⟩,l,i⟩:=o;obtain⟨c0,code,d2,d3,c4,c5,s6,c7,ord,c9,Wz,Uw,W0,f,j,e,U3,E9,Oi,Mg⟩:=q;cases Wz with
 |true=>
  show Ah h (λu _=>u=iI ((n:Int)+1)) _;have c:(0:Int)<=(n:Int)/\(n:Int)<=8:=by omega
  generalize (n:Int)=ni at *
  refine wq ?_;refine zr Ex ?_;rfl
 |false=>
  show Ah h (λu _=>u=iI (n:Int)) _;generalize (n:Int)=ni at *
  refine wq ?_;exact zr Ex rfl
def Cwt{n:Nat}(hn:1<=n/\n<=8)(i:GP h)(f:∀c,GP c->Z.call 64 [iI (n:Int)] c=.ok (iI (lvl n)) c)(o:AtD vc vo vm):Ah h (λu _=>u=iI ((2^(lvl n).toNat-1:Nat):Int)) (ml Z N 63 [.agg (lnC q vc vo vm s r (n:Int))] h):=by
 rw[CrR];obtain⟨⟨c1,c2⟩,⟨D,C⟩,B,v⟩:=o;obtain⟨c0,code,d2,d3,c4,c5,s6,c7,ord,c9,Wz,Uw,W0,m,A,j,U3,E9,Oi,Mg⟩:=q;have e:lvl n=1\/lvl n=2\/lvl n=3\/lvl n=4:=by
  have:∀n:Fin 9,1<=n.val->lvl n.val=1\/lvl n.val=2\/lvl n.val=3\/lvl n.val=4:=by decide
  exact this ⟨n,by omega⟩ hn.1
 generalize lvl n=l at *
 generalize (n:Int)=ni at *
 have s1:∀c:H,Aj prog .shl 3 true (iI 1) (iI 1) c=.ok (iI 2) c:=λc=>by kernel_rfl
 have s2:∀c:H,Aj prog .shl 3 true (iI 1) (iI 2) c=.ok (iI 4) c:=λc=>by kernel_rfl
 have p:∀c:H,Aj prog .shl 3 true (iI 1) (iI 3) c=.ok (iI 8) c:=λc=>by kernel_rfl
 have t:∀c:H,Aj prog .shl 3 true (iI 1) (iI 4) c=.ok (iI 16) c:=λc=>by kernel_rfl
 rcases e with rfl|rfl|rfl|rfl
 all_goals
  refine wq ?_;refine zr Ex ?_;rfl
def Cwu{n:Nat}(hn:1<=n/\n<=8)(f:GP h)(l:∀hh,GP hh->Z.call 16 [iI (n:Int)] hh=.ok (iI (blk n)) hh)(o:AtD vc vo vm):Ah h (λu _=>u=iI ((if q.c9=2 then(blk n).toNat else n:Nat):Int)) (ml Z N 65 [.agg (lnC q vc vo vm s r (n:Int))] h):=by
 rw[CrS];obtain⟨⟨c1,c2⟩,⟨A,v⟩,t,m⟩:=o;obtain⟨c0,code,d2,d3,c4,c5,s6,c7,ord,c9,Wz,Uw,W0,j,p,i,U3,E9,Oi,Mg⟩:=q;have hb:0<=blk n:=by
  have:∀n:Fin 9,0<=blk n.val:=by decide
  exact this ⟨n,by omega⟩
 have e:(((blk n).toNat:Nat):Int)=blk n:=Tb hb;cases c:decide (c9=2)with
 |true=>
  show Ah h (λu _=>u=iI ((if c9=2 then(blk n).toNat else n:Nat):Int)) _;rw[Xo (az c),e];generalize blk n=bb at *
  generalize (n:Int)=ni at *
  refine wq ?_;exact zr Ex rfl
 |false=>
  show Ah h (λu _=>u=iI ((if c9=2 then(blk n).toNat else n:Nat):Int)) _;rw[X2 (bh c)];clear e hb;generalize (n:Int)=ni at *
  refine wq ?_;exact zr Ex rfl
def CwA{F:FuncId}{n d:Nat}(t:Bg prog F=true)(k:RDr Z F q n d)(i:GP h)(o:AtD vc vo vm):Ah h (λu _=>u=iI (d:Int)) (ml Z N 266 [.agg [.fn (.func F) [] []],.agg (lnC q vc vo vm s r (n:Int))] h):=by
 rw[Csx];have g:=λf (e:Ai h f)=>k vc vo vm s r f (i.gr e) o;have c:∀(l:uz) (h:H),cvV (.fn (.func F) [] []) l prog Z h=Z.call F l h:=λl h=>by rw[AeY,Xo t,T3,F0]
 simp only[<- c]at g;replace g:=(hU g)
 clear c k;obtain⟨⟨c1,c2⟩,⟨K,I⟩,E,B⟩:=o;obtain⟨c0,code,d2,d3,c4,c5,s6,c7,ord,c9,Wz,Uw,W0,A,C,v,U3,E9,Oi,Mg⟩:=q;generalize (n:Int)=ni at *
 refine wq ?_;refine Fj ((gw g) _ Ex) λG D m J j p=>?_
 subst p;exact zr (Ai.trans Ex m) rfl
def CwL{n:Nat}(x:AV)(c:x=.agg [])(o:AtD vc vo vm):Ah h (λu _=>u=iI ((1:Nat):Int)) (ml Z N 310 [x,.agg (lnC q vc vo vm s r (n:Int))] h):=by subst c;rw[Ctc];obtain⟨⟨c1,c2⟩,⟨p,m⟩,l,i⟩:=o;obtain⟨c0,code,d2,d3,c4,c5,s6,c7,ord,c9,Wz,Uw,W0,f,j,e,U3,E9,Oi,Mg⟩:=q;refine wq ?_;exact zr Ex rfl
def CwO{n:Nat}(hn:n<=8)(o:AtD vc vo vm):Ah h (λu _=>u=iI ((n+1:Nat):Int)) (ml Z N 315 [.agg [],.agg (lnC q vc vo vm s r (n:Int))] h):=by
 rw[Cth];obtain⟨⟨c1,c2⟩,⟨p,m⟩,l,i⟩:=o;obtain⟨c0,code,d2,d3,c4,c5,s6,c7,ord,c9,Wz,Uw,W0,f,j,e,U3,E9,Oi,Mg⟩:=q;show Ah h (λu _=>u=iI ((n:Int)+1)) _;have c:(0:Int)<=(n:Int)/\(n:Int)<=8:=by omega
 generalize (n:Int)=ni at *
 refine wq ?_;refine zr Ex ?_;rfl
def CwR{n:Nat}(o:AtD vc vo vm):Ah h (λu _=>u=iI (n:Int)) (ml Z N 320 [.agg [],.agg (lnC q vc vo vm s r (n:Int))] h):=by
 rw[Ctm];obtain⟨⟨c1,c2⟩,⟨m,l⟩,j,f⟩:=o;obtain⟨c0,code,d2,d3,c4,c5,s6,c7,ord,c9,Wz,Uw,W0,e,i,c,U3,E9,Oi,Mg⟩:=q;generalize (n:Int)=ni at *
 refine wq ?_;exact zr Ex rfl
abbrev plC(q:Qr)(vc vo vm:AV)(r s d sp:Int)(x y e l la lb:uw)(z:Int):uz:=[iI q.c0,vc,iI q.c2,iI q.c3,iI q.c4,iI q.c5,.str q.s6,iI q.c7,vo,iI q.c9,.bool q.Wz,.str q.Uw,iI q.W0,.str q.Wu,.str q.s14,.str q.s15,iI q.c16,vm,.str q.Oi,iI q.Mg,iI r,iI s,iI d,iI sp,.str x,.str y,.str e,.str l,.str la,.str lb,iI z,iI 0]
structure AoA(b:Nat)(h h1:H):Prop where
 lo:h.nx<=h1.nx
 Cf:∀c,c<h.nx->c≠b->h1.m.get c=h.m.get c
 gr:∀h0,Ai h0 h->h0.nx<=b->Ai h0 h1
def AoA.refl(b:Nat)(h:H):AoA b h h:=⟨Ye _,λ_ _ _=>rfl,λ_ g _=>g⟩
def AoA.new{hA:H}(k:AoA b h hA)(o:AO):AoA b h (hA.new o):=⟨Nat.le_succ_of_le k.lo,λc e hb=>(Cq _ _ (by have:=k.lo;omega)).trans (k.Cf c e hb),λh0 g hb=>(k.gr h0 g hb).new o⟩
def AoA.put{hA:H}(k:AoA b h hA)(o:AO):AoA b h (hA.put b o):=⟨k.lo,λc e hb=>(Aq _ _ _ hb).trans (k.Cf c e hb),λh0 g hb=>(k.gr h0 g hb).put b o hb⟩
def AoA.nl{hA:H}(k:AoA b h hA):AoA b h (Ab hA):=⟨k.lo,k.Cf,λh0 g hb=>(k.gr h0 g hb).nl⟩
def AoA.trans{hA i:H}(k:AoA b h hA)(e:AoA b hA i):AoA b h i:=⟨Xy k.lo e.lo,λc f hb=>(e.Cf c (Yy f k.lo) hb).trans (k.Cf c f hb),λh0 g hb=>e.gr h0 (k.gr h0 g hb) hb⟩
def AoA.grow{hA e:H}(k:AoA b h hA)(g:Ai hA e):AoA b h e:=k.trans ⟨g.lo,λc f _=>g.Cf c f,λh0 i _=>i.trans g⟩
def mdA{h1:H}(q:AoA b h h1:=by first|((repeat' (first|assumption|exact AoA.refl _ _|with_reducible apply AoA.nl|with_reducible apply AoA.new|with_reducible apply AoA.put));done)|fail):AoA b h h1:=q
def PmR(b:Nat)(v:AV)(cs:uz)(h:H)(u:AV)(h1:H):Prop:=u=v/\h1.m.get b=cd cs 72/\AoA b h h1
def BlN{h0:H}{R Q:AV->H->Prop}{c:OR}{k:AV->H->OR}(i:Ah H0 R c)(f:∀v h1,R v h1->Ah h0 Q (k v h1)):Ah h0 Q (Aa c k):=by obtain⟨v,h1,e,_,q⟩:=i;rw[e,N2];exact f v h1 q
def CwB{fn:AV}{n d x zz:Int}{t u:uw}(C:Ge fn=true)(E:cellsOf fn=some [fn])(f:AtD vc vo vm)(z:q.Oi=j)(G:GP h)(hb:b<h.nx)(h9:9<=b)(F:h.m.get b=cd (plC q vc vo vm r s d x p I J R t u zz) 72)
 (BbD:Bsc Z) (B9V:∀h,GP h->Z.call 272 [iI s,.str j] h=.ok (.Bj [.str o,iI 0]) h):
 Ah H0 (PmR b (.Bj []) (plC q vc vo vm r s d x o I J R t u zz) h) (ml Z N 268 [.agg [fn],.agg (lnC q vc vo vm s r n),.ptr b 0] h):=by
 rw[Csz];obtain⟨⟨c1,c2⟩,⟨L,K⟩,y,e⟩:=f;obtain⟨c0,code,d2,d3,c4,c5,s6,c7,ord,c9,Wz,Uw,W0,A,B,v,U3,E9,Oi,Mg⟩:=q;simp only at z;subst z;have i:F5 (∀c cs,Ao9 b cs c->Z.call 271 [.ptr b 0,.str o,iI 0] c=.ok (.str o) (c.put b (cd cs 72))):=λc cs k=>BbD b cs (.str o) c k;refine wq ?_;have D:((h.new (cd [fn] 115)).new (cd (lnC ⟨c0,code,d2,d3,c4,c5,s6,c7,ord,c9,Wz,Uw,W0,A,B,v,U3,E9,Oi,Mg⟩ vc vo vm s r n) 61)).m.get b=_:=(Cq _ _ (by show b≠h.nx+1;omega)).trans ((Cq _ _ om).trans F)
 refine Ey ((show ∀c cs,Ao9 b cs c->Z.call 271 [.ptr b 0,.str o,iI 0] c=.ok (.str o) (c.put b (cd cs 72))from i) _ _ ⟨D,by show b<h.nx+1+1;omega,rfl,rfl⟩) ?_
 refine wq ?_;exact Lo (Ed _) ⟨rfl,A2 _ _,mdA⟩
def CwT{n d x zz:Int}{t u:uw}(f:AtD vc vo vm)(z:q.Oi=j)(E:GP h)(hb:b<h.nx)(h9:9<=b)(D:h.m.get b=cd (plC q vc vo vm r s d x p I J R t u zz) 72)
 (BbD:Bsc Z) (B9V:∀h,GP h->Z.call 272 [iI r,.str j] h=.ok (.Bj [.str o,iI 0]) h):
 Ah H0 (PmR b (.Bj []) (plC q vc vo vm r s d x o I J R t u zz) h) (ml Z N 322 [.agg [],.agg (lnC q vc vo vm s r n),.ptr b 0] h):=by
 rw[Cto];obtain⟨⟨c1,c2⟩,⟨y,e⟩,G,F⟩:=f;obtain⟨c0,code,d2,d3,c4,c5,s6,c7,ord,c9,Wz,Uw,W0,A,B,v,U3,E9,Oi,Mg⟩:=q;simp only at z;subst z;have i:F5 (∀c cs,Ao9 b cs c->Z.call 271 [.ptr b 0,.str o,iI 0] c=.ok (.str o) (c.put b (cd cs 72))):=λc cs k=>BbD b cs (.str o) c k;refine wq ?_;have C:((h.new (cd [] 119)).new (cd (lnC ⟨c0,code,d2,d3,c4,c5,s6,c7,ord,c9,Wz,Uw,W0,A,B,v,U3,E9,Oi,Mg⟩ vc vo vm s r n) 61)).m.get b=_:=(Cq _ _ (by show b≠h.nx+1;omega)).trans ((Cq _ _ om).trans D)
 refine Ey ((show ∀c cs,Ao9 b cs c->Z.call 271 [.ptr b 0,.str o,iI 0] c=.ok (.str o) (c.put b (cd cs 72))from i) _ _ ⟨C,by show b<h.nx+1+1;omega,rfl,rfl⟩) ?_
 refine wq ?_;exact Lo (Ed _) ⟨rfl,A2 _ _,mdA⟩
def GP.md{h h1:H}(p:GP h)(k:AoA b h h1)(h9:9<=b):GP h1:=⟨by rw[Bfe Um 9 (by decide +kernel) λc e=>k.Cf c (Yy e p.lt) om];exact p.g,Xy p.lt k.lo⟩
def Ciw{L:Nat}(e:1<=L/\L<=10):∀c:H,Aj prog .quo 3 true (iI 400) (iI (2*(L:Int))) c=.ok (iI ((400/(2*L):Nat):Int)) c:=by
 intro c;obtain⟨h1,h2⟩:=e;rcases L with _|_|_|_|_|_|_|_|_|_|_|L
 .omega
 iterate 10 (first|kernel_rfl|skip)
 all_goals first|omega|kernel_rfl
def CwN{n d C zz:Int}{e l A B:uw}(f:AtD vc vo vm)(v:q.Oi=j)(y:GP h)(hb:b<h.nx)(h9:9<=b)(E:h.m.get b=cd (plC q vc vo vm r s d C J R e l A B zz) 72)
 (BbD:Bsc Z) (Cae:∀h,GP h->Z.call 313 [iI s,.str j] h=.ok (.Bj [.str o,iI 0]) h) (B01:∀h,GP h->Z.call 293 [.str o] h=.ok (.Bj [.str p,.str I,iI 0]) h) (hzn:1<=p.length/\p.length<=10):
 Ah H0 (PmR b (.Bj []) (plC q vc vo vm r s d (400/(2*p.length:Nat):Nat) J o e l A B zz) h) (ml Z N 312 [.agg [],.agg (lnC q vc vo vm s r n),.ptr b 0] h):=by
 rw[Cte];obtain⟨⟨c1,c2⟩,⟨Q,P⟩,i,M⟩:=f;obtain⟨c0,code,d2,d3,c4,c5,s6,c7,ord,c9,Wz,Uw,W0,x,D,F,U3,E9,Oi,Mg⟩:=q;simp only at v;subst v;have t:F5 (∀c cs,Ao9 b cs c->Z.call 271 [.ptr b 0,.str o,iI 0] c=.ok (.str o) (c.put b (cd cs 72))):=λc cs k=>BbD b cs (.str o) c k;have u:F5 (∀c,AoA b h c->GP c):=λc k=>y.md k h9;have z:=B01;replace z:=(hU z)
 clear B01;refine wq ?_;have K:((h.new (cd [] 117)).new (cd (lnC ⟨c0,code,d2,d3,c4,c5,s6,c7,ord,c9,Wz,Uw,W0,x,D,F,U3,E9,Oi,Mg⟩ vc vo vm s r n) 61)).m.get b=_:=(Cq _ _ (by show b≠h.nx+1;omega)).trans ((Cq _ _ om).trans E)
 refine Ey ((show ∀c cs,Ao9 b cs c->Z.call 271 [.ptr b 0,.str o,iI 0] c=.ok (.str o) (c.put b (cd cs 72))from t) _ _ ⟨K,by show b<h.nx+1+1;omega,rfl,rfl⟩) ?_
 refine wq ?_;refine Ey ((gw z) _ ((gw u) _ mdA)) ?_
 have O:∀c:H,Aj prog .quo 3 true (iI 400) (iI (2*(p.length:Int))) c=.ok (iI ((400/(2*p.length):Nat):Int)) c:=by exact Ciw hzn
 generalize hq:((400/(2*p.length):Nat):Int)=qq at *
 generalize G:(p.length:Int)=zl at *
 have L:1<=zl:=by omega
 have S:zl<=10:=by omega
 clear hzn;refine wq ?_;exact Lo (Ed _) ⟨rfl,A2 _ _,mdA⟩
def CwQ{n d A zz:Int}{l C D:uw}(f:AtD vc vo vm)(B:q.Oi=j)(y:GP h)(hb:b<h.nx)(h9:9<=b)(F:h.m.get b=cd (plC q vc vo vm r s d A I J R l C D zz) 72)
 (BbD:Bsc Z) (Wc:B0f Z) (ClU:∀h,GP h->Z.call 318 [.str j] h=.ok (.Bj [.str o,iI 0]) h) (B9V:∀h,GP h->Z.call 272 [iI r,.str o] h=.ok (.Bj [.str p,iI 0]) h):
 Ah H0 (PmR b (.Bj []) (plC q vc vo vm r s d A p J R l C D zz) h) (ml Z N 317 [.agg [],.agg (lnC q vc vo vm s r n),.ptr b 0] h):=by
 rw[Ctj];obtain⟨⟨c1,c2⟩,⟨O,M⟩,P,L⟩:=f;obtain⟨c0,code,d2,d3,c4,c5,s6,c7,ord,c9,Wz,Uw,W0,x,E,G,U3,E9,Oi,Mg⟩:=q;simp only at B;subst B;have z:F5 (∀c cs v,Ao9 b cs c->Z.call 271 [.ptr b 0,v,iI 0] c=.ok v (c.put b (cd cs 72))):=λc cs v k=>BbD b cs v c k;have t:F5 (∀c,AoA b h c->GP c):=λc k=>y.md k h9;have i:=Wc;replace i:=(hU i)
 have u:=B9V;replace u:=(hU u)
 clear Wc B9V BbD;refine wq ?_;have K:((h.new (cd [] 118)).new (cd (lnC ⟨c0,code,d2,d3,c4,c5,s6,c7,ord,c9,Wz,Uw,W0,x,E,G,U3,E9,Oi,Mg⟩ vc vo vm s r n) 61)).m.get b=_:=(Cq _ _ (by show b≠h.nx+1;omega)).trans ((Cq _ _ om).trans F)
 refine Ey ((show ∀c cs v,Ao9 b cs c->Z.call 271 [.ptr b 0,v,iI 0] c=.ok v (c.put b (cd cs 72))from z) _ _ _ ⟨K,by show b<h.nx+1+1;omega,rfl,rfl⟩) ?_
 refine Ey ((show B0f Z from i) b _ _ ⟨A2 _ _,by show b<h.nx+1+1;omega,rfl,rfl⟩) ?_
 refine wq ?_;refine Ey ((gw u) _ ((gw t) _ mdA)) ?_
 refine wq ?_;refine Ey ((show ∀c cs v,Ao9 b cs c->Z.call 271 [.ptr b 0,v,iI 0] c=.ok v (c.put b (cd cs 72))from z) _ _ _ ⟨A2 _ _,by show b<h.nx+1+1;omega,rfl,rfl⟩) ?_
 refine wq ?_;exact Lo (Ed _) ⟨rfl,A2 _ _,mdA⟩
def CwC{n:Nat}{cs:uz}(k:Ao9 b cs h)(l:GP h)(h9:9<=b)(hn:n<Adw.AdE)(i:Cf9 Z)(e:Bsc Z)(p:CaH Z)(c:T4 73 (dgn n) j o):
 Ah H0 (PmR b (.str o) cs h) (ml Z N 270 [.ptr b 0,iI (n:Int),.str j,iI 0] h):=by
 rw[Cs1];have hb:=k.lt;have z:=i n h l hn;have f:=e b cs (.str j) h k;have m:GP ((h.put b (cd cs 72)).new (cd [.str j] 28)):=l.md (b:=b) mdA h9;have t:=p 73 b h.nx cs (dgn n) j o ((h.put b (cd cs 72)).new (cd [.str j] 28)) (by kernel_rfl) ⟨(Cq _ _ (by show b≠h.nx;omega)).trans (A2 _ _),by show b<h.nx+1;omega,k.len,k.err⟩ m (Y3 _) (Bf _) c
 refine Ey z (Ey f ?_);refine wq ?_;exact Lo (Ed _) ⟨rfl,A2 _ _,mdA⟩
def Cf8:Prop:=∀(b:Nat) (cs:uz) (n:Nat) (l z:uw) (h:H),Ao9 b cs h->GP h->9<=b->n<Adw.AdE->T4 73 (dgn n) l z->Ah H0 (PmR b (.str z) cs h) (Z.call 270 [.ptr b 0,iI (n:Int),.str l,iI 0] h)
def Cnu{fn:AV}{n t zz:Int}{d:Nat}{l0 A:uw}(G:Ge fn=true)(M:cellsOf fn=some [fn])(l:AtD vc vo vm)(E:GP h)(hb:b<h.nx)(h9:9<=b)(hd:d<Adw.AdE)(z:h.m.get b=cd (plC q vc vo vm r s d t p I J l0 R A zz) 72)
 (B6J:Cf8 Z) (B9U:∀h,GP h->Z.call 269 [.str p,iI q.Mg] h=.ok (.Bj [.str j,iI 0]) h) (h73:T4 73 (dgn d) j o):
 Ah H0 (PmR b (.str o) (plC q vc vo vm r s d t p I J l0 R A zz) h) (ml Z N 267 [.agg [fn],.agg (lnC q vc vo vm s r n),.ptr b 0] h):=by
 rw[Csy];obtain⟨⟨c1,c2⟩,⟨x,Q⟩,S,P⟩:=l;obtain⟨c0,code,d2,d3,c4,c5,s6,c7,ord,c9,Wz,Uw,W0,F,B,C,U3,E9,Oi,Mg⟩:=q;simp only at B9U;have f:F5 (∀c cs,Ao9 b cs c->GP c->Ah H0 (PmR b (.str o) cs c) (Z.call 270 [.ptr b 0,iI (d:Int),.str j,iI 0] c)):=λc cs k y=>B6J b cs d j o c k y h9 hd h73;have i:F5 (∀c,AoA b h c->GP c):=λc k=>E.md k h9;clear B6J h73 hd;generalize (d:Int)=di at *
 have e:∀c,Bi h c->Ae (some none) (.ptr b 24) c=.ok (.str p) c:=(AsC hb z).one rfl;have L:∀c,Bi h c->Ae (some none) (.ptr b 22) c=.ok (iI di) c:=(AsC hb z).one rfl;refine wq ?_;have u:((h.new (cd [fn] 115)).new (cd (lnC ⟨c0,code,d2,d3,c4,c5,s6,c7,ord,c9,Wz,Uw,W0,F,B,C,U3,E9,Oi,Mg⟩ vc vo vm s r n) 61)).m.get b=_:=(Cq _ _ (by show b≠h.nx+1;omega)).trans ((Cq _ _ om).trans z)
 refine BlN ((show ∀c cs,Ao9 b cs c->GP c->Ah H0 (PmR b (.str o) cs c) (Z.call 270 [.ptr b 0,iI di,.str j,iI 0] c)from f) _ _ ⟨u,by show b<h.nx+1+1;omega,rfl,rfl⟩ ((gw i) _ (AoA.grow (AoA.refl _ _) Ex))) λv h2 K=>?_
 obtain⟨rfl,D,O⟩:=K;exact Lo (Ed _) ⟨rfl,D,AoA.trans (AoA.grow (AoA.refl _ _) Ex) O⟩
def CwS{n t zz:Int}{d:Nat}{l0 A:uw}(l:AtD vc vo vm)(E:GP h)(hb:b<h.nx)(h9:9<=b)(hd:d<Adw.AdE)(z:h.m.get b=cd (plC q vc vo vm r s d t p I J l0 R A zz) 72)
 (B6J:Cf8 Z) (Chq:∀h,GP h->Z.call 323 [.str p,iI q.Mg] h=.ok (.Bj [.str j,iI 0]) h) (h73:T4 73 (dgn d) j o):
 Ah H0 (PmR b (.str o) (plC q vc vo vm r s d t p I J l0 R A zz) h) (ml Z N 321 [.agg [],.agg (lnC q vc vo vm s r n),.ptr b 0] h):=by
 rw[Ctn];obtain⟨⟨c1,c2⟩,⟨P,O⟩,Q,M⟩:=l;obtain⟨c0,code,d2,d3,c4,c5,s6,c7,ord,c9,Wz,Uw,W0,F,B,C,U3,E9,Oi,Mg⟩:=q;simp only at Chq;have f:F5 (∀c cs,Ao9 b cs c->GP c->Ah H0 (PmR b (.str o) cs c) (Z.call 270 [.ptr b 0,iI (d:Int),.str j,iI 0] c)):=λc cs k x=>B6J b cs d j o c k x h9 hd h73;have i:F5 (∀c,AoA b h c->GP c):=λc k=>E.md k h9;clear B6J h73 hd;generalize (d:Int)=di at *
 have e:∀c,Bi h c->Ae (some none) (.ptr b 24) c=.ok (.str p) c:=(AsC hb z).one rfl;have K:∀c,Bi h c->Ae (some none) (.ptr b 22) c=.ok (iI di) c:=(AsC hb z).one rfl;refine wq ?_;have G:((h.new (cd [] 119)).new (cd (lnC ⟨c0,code,d2,d3,c4,c5,s6,c7,ord,c9,Wz,Uw,W0,F,B,C,U3,E9,Oi,Mg⟩ vc vo vm s r n) 61)).m.get b=_:=(Cq _ _ (by show b≠h.nx+1;omega)).trans ((Cq _ _ om).trans z)
 refine BlN ((show ∀c cs,Ao9 b cs c->GP c->Ah H0 (PmR b (.str o) cs c) (Z.call 270 [.ptr b 0,iI di,.str j,iI 0] c)from f) _ _ ⟨G,by show b<h.nx+1+1;omega,rfl,rfl⟩ ((gw i) _ (AoA.grow (AoA.refl _ _) Ex))) λv h2 y=>?_
 obtain⟨rfl,D,L⟩:=y;exact Lo (Ed _) ⟨rfl,D,AoA.trans (AoA.grow (AoA.refl _ _) Ex) L⟩
def Ckf:Prop:=∀(fn:AV) (q:Qr) (vc vo vm:AV) (r s n i zz:Int) (d b:Nat) (l z x y e l0 f c:uw) (h:H),Ge fn=true->cellsOf fn=some [fn]->AtD vc vo vm->GP h->b<h.nx->9<=b->d<Adw.AdE->h.m.get b=cd (plC q vc vo vm r s d i x y e l0 f c zz) 72->ArK 269 [.str x,iI q.Mg]=some (.Bj [.str l,iI 0])->T4 73 (dgn d) l z->Ah H0 (PmR b (.str z) (plC q vc vo vm r s d i x y e l0 f c zz) h) (Z.call 267 [.agg [fn],.agg (lnC q vc vo vm s r n),.ptr b 0] h)
def CwP{n f zz:Int}{d:Nat}{l0 z:uw}(l:AtD vc vo vm)(e:GP h)(hb:b<h.nx)(h9:9<=b)(hd:d<Adw.AdE)(F:h.m.get b=cd (plC q vc vo vm r s d f p I J l0 R z zz) 72)
 (Cmc:Ckf Z) (B9U:ArK 269 [.str p,iI q.Mg]=some (.Bj [.str j,iI 0])) (h73:T4 73 (dgn d) j o):
 Ah H0 (PmR b (.str o) (plC q vc vo vm r s d f p I J l0 R z zz) h) (ml Z N 316 [.agg [],.agg (lnC q vc vo vm s r n),.ptr b 0] h):=by
 rw[Cti];have B:F5 (∀c,GP c->b<c.nx->c.m.get b=cd (plC q vc vo vm r s d f p I J l0 R z zz) 72->Ah H0 (PmR b (.str o) (plC q vc vo vm r s d f p I J l0 R z zz) c) (Z.call 267 [.agg [.Iy],.agg (lnC q vc vo vm s r n),.ptr b 0] c)):=λc x E D=>Cmc .Iy q vc vo vm r s n f zz d b j o p I J l0 R z c rfl rfl l x E h9 hd D B9U h73;have u:F5 (∀c,AoA b h c->GP c):=λc k=>e.md k h9;obtain⟨⟨c1,c2⟩,⟨M,L⟩,O,K⟩:=l;obtain⟨c0,code,d2,d3,c4,c5,s6,c7,ord,c9,Wz,Uw,W0,C,t,A,U3,E9,Oi,Mg⟩:=q;clear Cmc B9U h73 hd;generalize (d:Int)=di at *
 refine wq ?_;refine BlN ((show ∀c,GP c->b<c.nx->c.m.get b=cd (plC ⟨c0,code,d2,d3,c4,c5,s6,c7,ord,c9,Wz,Uw,W0,C,t,A,U3,E9,Oi,Mg⟩ vc vo vm r s di f p I J l0 R z zz) 72->Ah H0 (PmR b (.str o) (plC ⟨c0,code,d2,d3,c4,c5,s6,c7,ord,c9,Wz,Uw,W0,C,t,A,U3,E9,Oi,Mg⟩ vc vo vm r s di f p I J l0 R z zz) c) (Z.call 267 [.agg [.Iy],.agg (lnC ⟨c0,code,d2,d3,c4,c5,s6,c7,ord,c9,Wz,Uw,W0,C,t,A,U3,E9,Oi,Mg⟩ vc vo vm s r n),.ptr b 0] c)from B) _ ((gw u) _ mdA) (by show b<h.nx+1+1;omega) ((Cq _ _ (by show b≠h.nx+1;omega)).trans ((Cq _ _ om).trans F))) λv h2 D=>?_
 obtain⟨rfl,G,y⟩:=D;exact Lo (Ed _) ⟨rfl,G,AoA.trans mdA y⟩
def AoA.reB{hA:H}(k:AoA b h hA)(e:∀x∈j,x=b\/x∈h.lg):AoA b h (Be j hA):=⟨k.lo,k.Cf,λh0 g hb=>⟨(k.gr h0 g hb).lo,(k.gr h0 g hb).Cf,λx c=>by
 rcases e x c with rfl|c
 .exact .inr hb
 .exact g.lg x c⟩⟩
def CwM{n:Nat}{cs:uz}{p2:uw}(hn:1<=n/\n<=8)(o:AtD vc vo vm)(D:GP h)(hb:b<h.nx)(h9:9<=b)(k:Ao9 b cs h)
 (B9X:Cf9 Z) (BbD:Bsc Z) (U7:CaH Z) (h35:∀h,GP h->Z.call 35 [.str [50],iI q.Mg] h=.ok (.Bj [.str p2,iI 0]) h) (B9Y:T4 278 (dgn (n-1)) p2 j):
 Ah H0 (PmR b (.str j) cs h) (Ay prog Z N false 311 [.agg [],.agg (lnC q vc vo vm s r (n:Int)),.ptr b 0] h):=by
 rw[Ctd];obtain⟨⟨c1,c2⟩,⟨K,J⟩,L,I⟩:=o;obtain⟨c0,code,d2,d3,c4,c5,s6,c7,ord,c9,Wz,Uw,W0,E,A,C,U3,E9,Oi,Mg⟩:=q;simp only at h35;have i:F5 (∀c cs v,Ao9 b cs c->Z.call 271 [.ptr b 0,v,iI 0] c=.ok v (c.put b (cd cs 72))):=λc cs v k=>BbD b cs v c k;have e:F5 (∀c,AoA b h c->GP c):=λc k=>D.md k h9;have B:=λh p=>B9X (n-1) h p (show n-1<1000000000 by omega)
 have M:∀c:H,Aj prog .sub 3 true (iI (n:Int)) (iI 1) c=.ok (iI ((n-1:Nat):Int)) c:=λc=>by show OR.ok (iI (E1 .i64 ((n:Int)-1))) c=_;rw[lw.2.2 _ om om,Int.ofNat_sub hn.1];rfl
 have z:F5 (∀c bs,Ao9 b cs c->GP c->bs<c.nx->c.m.get bs=cd [.str p2] 28->Z.call 26 [.ptr b 0,.fn (.func 278) [] [],.str (dgn (n-1)),.sl bs 0 1 1 1 true] c=.ok (.str j) (c.put b (cd cs 72))):=λc bs k p u G=>U7 278 b bs cs (dgn (n-1)) p2 j c (by kernel_rfl) k p u G B9Y;have f:=k.get;have l:=k.len;have t:=k.err;clear BbD U7 B9X B9Y hn k;generalize dgn (n-1)=sn at *
 generalize ((n-1:Nat):Int)=n1 at *
 generalize (n:Int)=ni at *
 refine we ?_;have F:((h.new (cd [] 117)).new (cd (lnC ⟨c0,code,d2,d3,c4,c5,s6,c7,ord,c9,Wz,Uw,W0,E,A,C,U3,E9,Oi,Mg⟩ vc vo vm s r ni) 61)).m.get b=_:=(Cq _ _ (by show b≠h.nx+1;omega)).trans ((Cq _ _ om).trans f)
 refine Ey ((show ∀c cs v,Ao9 b cs c->Z.call 271 [.ptr b 0,v,iI 0] c=.ok v (c.put b (cd cs 72))from i) _ _ _ ⟨F,by show b<h.nx+1+1;omega,l,t⟩) ?_
 refine we ?_;refine Ey ((show ∀c bs,Ao9 b cs c->GP c->bs<c.nx->c.m.get bs=cd [.str p2] 28->Z.call 26 [.ptr b 0,.fn (.func 278) [] [],.str sn,.sl bs 0 1 1 1 true] c=.ok (.str j) (c.put b (cd cs 72))from z) _ _ ⟨(Cq _ _ (by show b≠h.nx+1+1;omega)).trans (A2 _ _),by show b<h.nx+1+1+1;omega,l,t⟩ ((gw e) _ mdA) (Y3 _) (Bf _)) ?_
 refine we ?_;refine Lo (Ed _) ⟨rfl,A2 _ _,?_⟩;exact AoA.reB mdA (by simp)
def AoA.Aiq{hA:H}{c:Nat}(k:AoA b h hA)(o:AO)(e:h.nx<=c):AoA b h (hA.put c o):=⟨k.lo,λx f hb=>(Aq _ _ _ om).trans (k.Cf x f hb),λh0 g hb=>(k.gr h0 g hb).put c o (Xy g.lo e)⟩
def Cwi(h:H):Ah h (λr _=>r=.agg [.str [49],.str [48]]) (ml Z N 23 [] h):=by rw[CrE];refine wq ?_;exact zr Ex rfl
abbrev BwO:uz:=[.B3,.I6 115 (.agg [.fn (.func 60) [] []]),.I6 115 (.agg [.fn (.func 60) [] []]),.I6 115 (.agg [.fn (.func 62) [] []]),.I6 115 (.agg [.fn (.func 61) [] []]),.I6 117 (.agg []),.I6 117 (.agg []),.I6 118 (.agg []),.I6 119 (.agg []),.I6 115 (.agg [.fn (.func 63) [] []]),.I6 115 (.agg [.fn (.func 65) [] []])]
def Cwj(h:H):Ah h (λr _=>r=.agg BwO) (ml Z N 24 [] h):=by rw[CrF];refine wq ?_;exact zr Ex rfl
def Cdz{k:Int}(e:1<=k/\k<=10):∀c:H,xIx prog (.arr 11 ⟨66,1,16⟩) (.agg BwO) (iI k) c=.ok (A0s k) c:=by
 intro c;rcases Bek e with rfl|rfl|rfl|rfl|rfl|rfl|rfl|rfl|rfl|rfl
 all_goals kernel_rfl
end Go.Proofs
namespace Go.Proofs.Anf
open Go Go.Ev Go.Nm Go.Ev.Sx
open Go.Proofs Go.Proofs.YtahaaiadlgfchaaGreatDoor
variable {j:Adw.Ad2}{o:uw}
def ltB(x:Adw.Ad2):Bool:=decide (x.1<x.2/\0<x.1/\x.2<500000000)
def alB(f:Adw.Ad2)(s:Nat):Bool:=match Adw.Aw4 s f with
|some x=>ltB x
|none=>false
def beB(f:Adw.Ad2)(s:Nat):Bool:=match Adw.A4M s f with
|some _=>true
|none=>false
def haB(f:Adw.Ad2):Bool:=match Adw.A0r f with
|some y=>decide (0<AsG y f1)&&(List.range 12).all λi=>alB y (i+1)
|none=>false
def f5B(p:uw × Adw.Ad2):Bool:=haB p.2&&(List.range 156).all λi=>alB p.2 (i+1)&&beB p.2 (i+1)
def B61:f5F.all f5B=true:=by decide +kernel
def B60{s:Nat}(i:(o,j)∈f5F)(c:1<=s/\s<=156):(∃x,Adw.Aw4 s j=some x/\x.1<x.2/\0<x.1/\x.2<500000000)/\∃z,Adw.A4M s j=some z:=by
 have h:=Od.1 B61 _ i;unfold f5B at h;rw[Sc]at h;have h2:=Od.1 h.2 (s-1) (ec.2 om);rw[Nat.sub_add_cancel c.1,Sc]at h2;obtain⟨a1,a2⟩:=h2;unfold alB at a1;unfold beB at a2;constructor
 .cases e:Adw.Aw4 s j with
  |none=>rw[e]at a1;cases a1
  |some x=>rw[e]at a1;exact⟨x,rfl,az a1⟩
 .cases e:Adw.A4M s j with
  |none=>rw[e]at a2;cases a2
  |some x=>exact⟨x,rfl⟩
def ClB(i:(o,j)∈f5F):∃y,Adw.A0r j=some y/\0<AsG y f1/\∀r,1<=r->r<=12->∃x,Adw.Aw4 r y=some x/\x.1<x.2/\0<x.1/\x.2<500000000:=by
 have h:=Od.1 B61 _ i;unfold f5B at h;rw[Sc]at h;have h1:=h.1;unfold haB at h1;cases e:Adw.A0r j with
 |none=>simp only[e]at h1;cases h1
 |some y=>
  simp only[e,Sc]at h1;refine⟨y,rfl,az h1.1,λr l m=>?_⟩;have h2:=Od.1 h1.2 (r-1) (ec.2 om);rw[Nat.sub_add_cancel l]at h2;unfold alB at h2;cases c:Adw.Aw4 r y with
  |none=>rw[c]at h2;cases h2
  |some x=>rw[c]at h2;exact⟨x,rfl,az h2⟩
end Go.Proofs.Anf
namespace Go.Proofs
open Go Go.Ev Go.Nm Tryz Go.Ev.Sx
open Go.Proofs.YtahaaiadlgfchaaGreatDoor
attribute [local irreducible] Aa Al Af Ad
variable (Z:Ac)(N:Nat)
variable {q:Qr}{vc vo vm:AV}{h h0 h1:H}{s r w:Int}{b bq bp:Nat}
abbrev plZ:uz:=[iI 0,.Bv,iI 0,iI 0,iI 0,iI 0,.str [],iI 0,.Bv,iI 0,ct,.str [],iI 0,.str [],.str [],.str [],iI 0,.Bv,.str [],iI 0,iI 0,iI 0,iI 0,iI 0,.str [],.str [],.str [],.str [],.str [],.str [],iI 0]
abbrev plP(q:Qr)(vc vo vm:AV)(r s d sp:Int)(x y e l la lb:uw)(z:Int):uz:=[iI q.c0,vc,iI q.c2,iI q.c3,iI q.c4,iI q.c5,.str q.s6,iI q.c7,vo,iI q.c9,.bool q.Wz,.str q.Uw,iI q.W0,.str q.Wu,.str q.s14,.str q.s15,iI q.c16,vm,.str q.Oi,iI q.Mg,iI r,iI s,iI d,iI sp,.str x,.str y,.str e,.str l,.str la,.str lb,iI z]
def ChT{d p zz:Int}{x y e l v A:uw}(t:B0f Z)(o:AtD vc vo vm)(g:Ai h0 h)(C:h0.nx<=b)(j:h0.nx<=bp)(hb:b<h.nx)(i:bq<h.nx)(B:bp<h.nx)(n1:b≠bq)(n2:b≠bp)(hd:0<=d/\d<=15)(D:1<=q.Mg/\q.Mg<=20)
 (hq:h.m.get bq=cd (qc q vc vo vm) 30) (hp:h.m.get bp=cd plZ 34) (hg:h.m.get b=cd (plC q vc vo vm r s d p x y e l v A zz) 72) (f0:L2):
 Ah h0 (λu _=>u=.Bj [.agg (plP q vc vo vm r s d p x y e l v A (10+d*(q.Mg+4))),iI 0]) (Be4 Z N (.ptr bq 0) (.ptr bp 0) (.ptr b 0) f0 h):=by
 rw[Ca0];obtain⟨⟨c1,c2⟩,⟨K,J⟩,M,E⟩:=o;obtain⟨c0,code,d2,d3,c4,c5,s6,c7,ord,c9,Wz,Uw,W0,L,F,I,U3,E9,Oi,Mg⟩:=q;simp only at D;have f:=t b _ h ⟨hg,hb,rfl,rfl⟩;have O:=Awl (x:=d) (y:=Mg+4) (a:=15) (b:=24) hd.1 hd.2 om om;clear t;refine Ey f ?_;clear f;have G:∀c,Bi h c->Ae (some none) (.ptr bq 19) c=.ok (iI Mg) c:=(AsC i hq).one rfl;have ld:∀c,Bi h c->Ae (some none) (.ptr b 22) c=.ok (iI d) c:=(AsC hb hg).one rfl;refine we ?_;exact Lo ((((AoA.put (AoA.nl (AoA.refl b h)) _).reB (by simp)).gr h0 g C).put _ _ j) rfl
def Cf5:Prop:=∀(b:Nat) (cs:uz) (l1 l2:uw) (h:H),Ao9 b cs h->Z.call 28 [.ptr b 0,.agg [.str l1,.str l2],iI 0] h=.ok (.agg [.str l1,.str l2]) ((((h.new (cd [.str l1,.str l2] 32)).new (cd [.str [],.str []] 32)).put b (cd cs 72)).put (h.nx+1) (cd [.str l1,.str l2] 32))
def Cnt{cs:uz}{l1 l2:uw}(k:Ao9 b cs h):ml Z N 28 [.ptr b 0,.agg [.str l1,.str l2],iI 0] h=.ok (.agg [.str l1,.str l2]) ((((h.new (cd [.str l1,.str l2] 32)).new (cd [.str [],.str []] 32)).put b (cd cs 72)).put (h.nx+1) (cd [.str l1,.str l2] 32)):=B0U (by
 rw[CrJ];have hb:=k.lt;have ld:=k.ld;have c:=k.get;have e:((h.new (cd [.str l1,.str l2] 32)).new (cd [.str [],.str []] 32)).m.get b=cd cs 72:=(Cq _ _ (by show b≠h.nx+1;omega)).trans ((Cq _ _ om).trans c)
 have st:=Ao9.st (h:=(h.new (cd [.str l1,.str l2] 32)).new (cd [.str [],.str []] 32)) ⟨e,by show b<h.nx+1+1;omega,k.len,k.err⟩
 clear k;refine wq ?_;exact Lo (Ed _) ⟨rfl,rfl⟩)
def ChS{d t zz:Int}{x y e l v B l2:uw}{Q:AV->H->Prop}(u:B0f Z)(f:Cf5 Z)(o:AtD vc vo vm)(A:GP h)(h9:9<=b)(hb:b<h.nx)(j:bq<h.nx)(n1:b≠bq)
 (hq:h.m.get bq=cd (qc q vc vo vm) 30) (hg:h.m.get b=cd (plC q vc vo vm r s d t x y e l v B zz) 72) (Kr:∀h,GP h->Z.call 29 [.agg [.str q.Oi,.str [48]],.str l] h=.ok (.Bj [.agg [.str q.Oi,.str l2],iI 0]) h)
 (go:∀(hd:H) (f0:L2),AoA b h hd->hd.m.get b=cd (plC q vc vo vm r s d t x y e l q.Oi l2 zz) 72->Ah h0 Q (Be4 Z N (.ptr bq 0) (.ptr bp 0) (.ptr b 0) f0 hd)) (f0:L2):
 Ah h0 Q (BhK Z N (.ptr bq 0) (.ptr bp 0) (.ptr b 0) f0 h):=by
 rw[Caz];have i:=u b _ h ⟨hg,hb,rfl,rfl⟩;have p:=f b _ q.Oi l2 (Ab h) ⟨hg,hb,rfl,rfl⟩;obtain⟨⟨c1,c2⟩,⟨K,J⟩,I,E⟩:=o;obtain⟨c0,code,d2,d3,c4,c5,s6,c7,ord,c9,Wz,Uw,W0,D,F,C,U3,E9,Oi,Mg⟩:=q;simp only at Kr p;refine Ey i ?_;clear i u f;have G:∀c,Bi h c->Ae (some none) (.ptr bq 18) c=.ok (.str Oi) c:=(AsC j hq).one rfl;have ld:∀c,Bi h c->Ae (some none) (.ptr b 27) c=.ok (.str l) c:=(AsC hb hg).one rfl;replace go:=(hU go)
 refine we ?_;refine(gw go) _ _ (AoA.reB ((AoA.nl (AoA.Aiq (AoA.put (AoA.new (AoA.new (AoA.nl (AoA.refl b h)) _) _) _) _ (Pc _))).put _) (by simp)) (A2 _ _)
end Go.Proofs
namespace Go.Adw
open Go.Ev
variable {g:Nat->Nat}{d n k w:Nat}{x y z:Ad2}
def Bez(g:Nat->Nat)(n:Nat):(At7 g n).1<=2^n/\(At7 g n).2<=2^n/\0<(At7 g n).2:=by have h0:0<2^n:=O1 n;obtain⟨f,h1,h2,e,c,_⟩:=B4m (n:=rst g n) (d:=2^n) h0;refine⟨Xy (Oa _ _) (Ee _ _),Oa _ _,c⟩
def Bhh(hn:n<=20):2^n<=1048576:=aq fe hn
def CuZ(hd:d<=15)(hn:n<=20):Bcb (d,1) (At7 g n)=some (rd (d*(At7 g n).1) (1*(At7 g n).2)):=by obtain⟨h1,h2,f⟩:=Bez g n;have e:=Bhh hn;have c:d*(At7 g n).1<=15*1048576:=Fk hd om;show rdO (d*(At7 g n).1) (1*(At7 g n).2)=_;unfold rdO;rw[Xo ⟨by show _<1000000000;omega,by show 1*_<1000000000;omega,by omega⟩]
def Bka:Af6 (rd (d*(At7 g (n+k)).1) (1*(At7 g (n+k)).2)) (rd (d*(At7 g n).1) (1*(At7 g n).2)):=by have h1:=(Bez g n).2.2;have h2:=(Bez g (n+k)).2.2;rw[Af6.rdl om,Af6.rdr om];exact Af6.mul (d,1) (CdB g n k)
def divC(c:w<=15)(hn:n<=20):A0N (w,1) (2^n,1)=some (rd (w*1) (1*2^n)):=by
 have h0:0<2^n:=O1 n;have e:=Bhh hn;unfold A0N;rw[X2 (by show ¬ 2^n=0;omega)]
 show rdO (w*1) (1*2^n)=_;unfold rdO;rw[Xo ⟨by show _<1000000000;omega,by show _<1000000000;omega,by omega⟩]
def Cbs:Af6 (rd (w*1) (1*2^(n+k))) (rd (w*1) (1*2^n)):=by have h0:0<2^n:=O1 n;have h1:0<2^(n+k):=O1 _;rw[Af6.rdl om,Af6.rdr om];show w*1*(1*2^n)<=w*1*(1*2^(n+k));exact cq _ (cq _ (aq fe (J1 ..)))
def B7r(c:0<x.2)(hy:0<y.2)(hz:0<z.2)(h:Af6 x y):Af6 (AtS x z) (AtS y z):=by
 unfold AtS;by_cases a:Af6 x z
 .rw[Xo a];by_cases b:Af6 y z
  .rw[Xo b];exact h
  .rw[X2 b];exact a
 .rw[X2 a];by_cases b:Af6 y z
  .exact absurd (Af6.trans hy h b) a
  .rw[X2 b];exact Af6.refl z
def Cig{f u:Ad2}(j:f.1<=101/\f.2<=100/\0<f.2)(e:u.1<=u.2/\u.2<=1048576/\0<u.2):∃a m,A7s f (1,1)=some a/\Bcb a u=some m/\a=rd (f.1*1+1*f.2) (f.2*1)/\m=rd (a.1*u.1) (a.2*u.2)/\0<a.2:=by
 refine⟨_,_,?_,?_,rfl,rfl,?_⟩
 .show rdO (f.1*1+1*f.2) (f.2*1)=_;unfold rdO;rw[Xo ⟨by show _<1000000000;omega,by show _<1000000000;omega,by omega⟩]
 .have a1:(rd (f.1*1+1*f.2) (f.2*1)).1<=201:=Xy (Oa _ _) om;have a2:(rd (f.1*1+1*f.2) (f.2*1)).2<=100:=Xy (Oa _ _) om;have i:0<(rd (f.1*1+1*f.2) (f.2*1)).2:=by obtain⟨_,_,_,_,h,_⟩:=B4m (n:=f.1*1+1*f.2) (d:=f.2*1) om;exact h
  generalize rd (f.1*1+1*f.2) (f.2*1)=a at *
  have b1:a.1*u.1<=201*1048576:=Fk a1 om;have b2:a.2*u.2<=100*1048576:=Fk a2 om;have c:0<a.2*u.2:=Nat.mul_pos i e.2.2;show rdO (a.1*u.1) (a.2*u.2)=_;unfold rdO;rw[Xo ⟨by show _<1000000000;omega,by show _<1000000000;omega,c⟩]
 .obtain⟨_,_,_,_,h,_⟩:=B4m (n:=f.1*1+1*f.2) (d:=f.2*1) om;exact h
end Go.Adw
namespace Go.Proofs
open Go Go.Ev Go.Nm Tryz Go.Ev.Sx
open Go.Proofs.YtahaaiadlgfchaaGreatDoor
attribute [local irreducible] Aa Al Af Ad
variable (Z:Ac)(N:Nat)
variable {ss:List Abn}{q:Qr}{vc vo vm sv:AV}{a:Abn}{h h0 h1:H}
def AmY.nl{s lo len:Nat}{v:AV}{cs:uz}(k:AmY s lo h v len cs):AmY s lo (Ab h) v len cs:=k.By (Ai.refl h).nl.keeps
def AmY.rl{s lo len:Nat}{v:AV}{cs:uz}{L:uw}(k:AmY s lo h v len cs):AmY s lo (Be L h) v len cs:=k.By ((Bi.refl h).Be L)
def A9N{k:Bool}{D:Dom}{l:List Nd}(c:l=[]\/∃t,E7 D k t/\wt t<=Abo 3/\l=t.nodes):l.length<=300:=by
 rcases c with rfl|⟨t,_,h2,rfl⟩
 .simp
 .rw[Ao];exact Xy (Af3 t) (Xy h2 fe)
def CjU:Prop:=∀h:H,Ah h (λr _=>r=.agg [.str [49],.str [48]]) (Z.call 23 [] h)
def Cnp(CtG:CjU Z)(R1:R18 Z)(U7:R26 Z)(U8:R27 Z)(U:Cev Z)(K:Ao5 ss q vc vo vm sv h)(ha:a∈ss)(hn:a.name=q.Uw)(hp:a.pub=true):Ah h (λr _=>∃T P Q,AtD T P Q/\r=.Bj [.agg (plP q T P Q 0 0 0 0 [] [] [49] [48] [49] [48] 10),iI 0]) (Ay prog Z N false 7 [.agg (qc q vc vo vm),sv] h):=by
 rw[Clt];obtain⟨c1,c2⟩:=B2 K.qv.c;obtain⟨o1,o2⟩:=B2 K.qv.o;obtain⟨m1,m2⟩:=B2 K.qv.m;have l:=λf (e:Ai h f)=>R1 ss q vc vo vm sv f (K.gr e).sd K.l3 K.V (K.gr e).qv K.ok (K.gr e).gp;have j:=λf (e:Ai h f)=>U7 q.code vc f (K.qv.By e.keeps).c (by have:=A9N K.ok.code;omega)
 have u:=λf (e:Ai h f)=>U7 q.E9 vm f (K.qv.By e.keeps).m (by have:=A9N K.ok.E9;omega)
 have p:=λf (e:Ai h f)=>U8 q.ord vo f (K.qv.By e.keeps).o (by have:=K.ok.ord;omega)
 replace l:=(hU l)
 replace j:=(hU j)
 replace u:=(hU u)
 replace p:=(hU p)
 clear R1 U7 U8;replace K:=(hU K)
 obtain⟨c0,code,d2,d3,c4,c5,s6,c7,ord,c9,Wz,Uw,W0,S,M,W,U3,E9,Oi,Mg⟩:=q;refine we ?_;refine Fj ((gw l) _ Ex) λv1 h1 e1 l1 t q1=>?_
 obtain rfl:v1=_:=q1;have g1:Ai h h1:=Ai.trans Ex e1;simp only[C9]at l1 t;have s1:=(t h.nx om).trans ((Cq _ _ (Lb (Y3 _))).trans (Bf _));have t1:=(t (h.nx+1) om).trans (Bf (h:=h.new _) _);clear t e1 l;refine we ?_;refine Fj ((gw j) _ Ex) λv2 h2 e2 l2 E q2=>?_
 obtain⟨a1,a2⟩:=B2 q2.sl;have g2:Ai h h2:=Ai.trans Ex e2;have w2:wrote h1.nx h2.lg=[]:=e2.quiet;simp only[C9]at l2;have s2:=(E h.nx mh).trans s1;have t2:=(E (h.nx+1) mh).trans t1;clear E s1 t1;refine we ?_;refine Fj ((gw u) _ Ex) λv3 G e3 l3 C q3=>?_
 obtain⟨a3,a4⟩:=B2 q3.sl;have g3:Ai h G:=Ai.trans Ex e3;have w3:wrote h2.nx G.lg=[]:=e3.quiet;simp only[C9]at l3;have s3:=(C h.nx mh).trans s2;have t3:=(C (h.nx+1) mh).trans t2;clear C s2 t2;refine we ?_;refine Fj ((gw p) _ Ex) λv4 v Y l4 F q4=>?_
 obtain⟨a5,a6⟩:=B2 q4.sl;have g4:Ai h v:=Ai.trans Ex Y;have w4:wrote G.nx v.lg=[]:=Y.quiet;simp only[C9]at l4;have R:=(F h.nx mh).trans s3;have t4:=(F (h.nx+1) mh).trans t3;clear F s3 t3;refine we ?_;have L:Ai h2 G:=Ai.trans Ex e3;have B:Ai G v:=Ai.trans Ex Y;have kc:=q2.By (L.trans B).keeps;have km:=q3.By B.keeps;have ko:=q4;have ic:Vu 20 (v.m.get h.nx)=true:=by rw[R];rfl
 generalize I:Be _ _=hA;have gA:Ai h hA:=by rw[<- I];exact Ex
 have nA:hA.nx=v.nx:=by rw[<- I];rfl
 have sA:hA.m.get h.nx=cd (qc ⟨c0,code,d2,d3,c4,c5,s6,c7,ord,c9,Wz,Uw,W0,S,M,W,U3,E9,Oi,Mg⟩ v2 v4 v3) 30:=by rw[<- I];exact A2 _ _
 have tA:hA.m.get (h.nx+1)=cd plZ 34:=by rw[<- I];exact(Aq _ _ _ om).trans ((Aq _ _ _ om).trans ((Aq _ _ _ om).trans t4))
 have qA:QV hA ⟨c0,code,d2,d3,c4,c5,s6,c7,ord,c9,Wz,Uw,W0,S,M,W,U3,E9,Oi,Mg⟩ v2 v4 v3:=by
  rw[<- I];refine⟨?_,?_,?_⟩
  .refine AmY.sl (lo:=h1.nx) ?_;repeat' (first|exact kc|with_reducible apply AmY.nl|with_reducible apply AmY.rl|with_reducible apply AmY.put)
   all_goals first|omega|(rw[show(Ab v).m.get h.nx=_ from R];rfl)|(show Vu _ (H.m.get _ _)=true;rw[A2];rfl)|(refine(Jh (Vu _) (A2 _ _)).trans rfl)
  .refine AmY.sl (lo:=G.nx) ?_;repeat' (first|exact ko|with_reducible apply AmY.nl|with_reducible apply AmY.rl|with_reducible apply AmY.put)
   all_goals first|omega|(rw[show(Ab v).m.get h.nx=_ from R];rfl)|(show Vu _ (H.m.get _ _)=true;rw[A2];rfl)|(refine(Jh (Vu _) (A2 _ _)).trans rfl)
  .refine AmY.sl (lo:=h2.nx) ?_;repeat' (first|exact km|with_reducible apply AmY.nl|with_reducible apply AmY.rl|with_reducible apply AmY.put)
   all_goals first|omega|(rw[show(Ab v).m.get h.nx=_ from R];rfl)|(show Vu _ (H.m.get _ _)=true;rw[A2];rfl)|(refine(Jh (Vu _) (A2 _ _)).trans rfl)
 have i:Ao5 ss ⟨c0,code,d2,d3,c4,c5,s6,c7,ord,c9,Wz,Uw,W0,S,M,W,U3,E9,Oi,Mg⟩ vc vo vm sv h:=K;have KA:Ao5 ss ⟨c0,code,d2,d3,c4,c5,s6,c7,ord,c9,Wz,Uw,W0,S,M,W,U3,E9,Oi,Mg⟩ v2 v4 v3 sv hA:=⟨(i.gr gA).sd,i.l3,i.V,qA,i.ok,(i.gr gA).gp⟩;have X:=U ss _ v2 v4 v3 sv a hA KA ha hn hp;have bA:h.nx+1<hA.nx:=by omega
 clear KA i K qA kc km ko q2 q3 q4 I j u p R t4 w2 w3 w4 L B e2 e3 Y l2 l3 l4 g2 g3 g4 ic g1 l1 U;refine Fj X λv5 O e5 l5 A q5=>?_;obtain rfl:v5=_:=q5;have g5:Ai h O:=gA.trans e5;have s5:=(A h.nx om).trans sA;have t5:=(A (h.nx+1) om).trans tA;have b5:h.nx+1<O.nx:=by omega
 clear A e5 sA tA X;refine we ?_;refine Fj (CtG _) λv6 h6 e6 l6 D q6=>?_;subst q6;have g6:Ai h h6:=Ai.trans Ex e6;have w6:wrote O.nx.succ h6.lg=[]:=e6.quiet;simp only[C9]at l6;have s6':=(D h.nx mh).trans ((Aq _ _ _ om).trans ((Cq _ _ om).trans s5));have t6':=(D (h.nx+1) mh).trans ((Aq _ _ _ om).trans ((Cq _ _ om).trans t5));clear D s5 t5;refine we ?_;have g7:=(g6.nl).put (h.nx+1) (cd [iI c0,v2,iI d2,iI d3,iI c4,iI c5,.str s6,iI c7,v4,iI c9,.bool Wz,.str Uw,iI W0,.str S,.str M,.str W,iI U3,v3,.str Oi,iI Mg,iI 0,iI 0,iI 0,iI 0,.str [],.str [],.str [49],.str [48],.str [49],.str [48],iI 10] 34) (Pc _);refine Lo (h:=Be ((h.nx+1)::O.nx::O.lg) (Ab ((Ab h6).put (h.nx+1) _))) ⟨g7.lo,g7.Cf,λx J=>?_⟩ ⟨v2,v4,v3,⟨⟨a1,a2⟩,⟨a5,a6⟩,⟨a3,a4⟩⟩,rfl⟩;rcases Wf.1 J with rfl|J
 .exact .inr (Pc _)
 .rcases Wf.1 J with rfl|J
  .exact .inr om
  .exact g5.lg x J
end Go.Proofs

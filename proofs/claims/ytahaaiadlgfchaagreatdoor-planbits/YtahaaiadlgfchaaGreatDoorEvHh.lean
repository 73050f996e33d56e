/- geom -/
import Derived.Test.YtahaaiadlgfchaaGreatDoorEvHg
set_option linter.all false
set_option maxRecDepth 100000
noncomputable section
namespace Go.Proofs
open Go Go.Ev Go.Ev.Sx
open Sx Go.Proofs.YtahaaiadlgfchaaGreatDoor
variable {o:FuncId}{p:uz->Option AV}{I:Int}{J:uw}{R:Prop}
theorem gpA{h1:H}(q:GP h1:=by first|assumption|(refine GP.gr (by assumption) Ex)|fail):GP h1:=q
theorem wq{c:Prop}(g:c)(e:El c->R:=by
 intro O0;(first
  |(with_reducible (first|apply A7|apply A8|apply A9|apply Ba))
  |(with_reducible (first|apply Kl);(conv=>lhs;simp only[zw, *]))
  |(with_reducible (first|apply Cy|apply Cz|apply C0|apply C1);(conv=>lhs;simp(disch:=first|exact gpA|exact dA|fail) [lw, *]);with_reducible (first|apply A7|apply A8|apply A9|apply Ba|apply Cu|(refine Cv (by simp) ?_)|fail))
  |(with_reducible (first|apply C2|apply C3|apply Cw);(first|(focus (intro hc;(try simp only[Bt]at hc);exfalso;omega))|(rotate_left;(focus (intro hc;(try simp only[Bt]at hc);exfalso;omega)))|fail);intro hc;(try simp only[Bt]at hc))
  |fail)
 repeat' (first
  |(with_reducible (first|apply A7|apply A8|apply A9|apply Ba))
  |(with_reducible (first|apply Kl);(conv=>lhs;simp only[zw, *]))
  |(with_reducible (first|apply Cy|apply Cz|apply C0|apply C1);(conv=>lhs;simp(disch:=first|exact gpA|exact dA|fail) [lw, *]);with_reducible (first|apply A7|apply A8|apply A9|apply Ba|apply Cu|(refine Cv (by simp) ?_)|fail))
  |(with_reducible (first|apply C2|apply C3|apply Cw);(first|(focus (intro hc;(try simp only[Bt]at hc);exfalso;omega))|(rotate_left;(focus (intro hc;(try simp only[Bt]at hc);exfalso;omega)))|fail);intro hc;(try simp only[Bt]at hc))
  |fail)
 exact O0.1):R:=e ⟨g⟩
theorem we{c:Prop}(g:c)(e:El c->R:=by
 intro O0;(first
  |(with_reducible (first|apply A7|apply A8|apply A9|apply Ba))
  |(with_reducible (first|apply Kl);(conv=>lhs;simp only[zw, *]))
  |(with_reducible (first|apply Cy|apply Cz|apply C0|apply C1);(conv=>lhs;simp(disch:=first|exact gpA|exact dA|fail) [lw, *]);with_reducible (first|apply A7|apply A8|apply A9|apply Ba|apply Cu|(refine Cv (by simp) ?_)|fail))
  |(with_reducible (first|apply C2|apply C3|apply Cw);(first|(focus (intro hc;(try simp only[Bt]at hc);exfalso;omega))|(rotate_left;(focus (intro hc;(try simp only[Bt]at hc);exfalso;omega)))|fail);intro hc;(try simp only[Bt]at hc))
  |(refine B8 ?_ ?_;(focus (simp(disch:=first|decide|omega|(simp only[C9];omega)) [Aw,Am,Ar,Ax, *];done));(try simp(disch:=first|exact Ce|fail) only[Aw,Am,Bx,Ap,At,T3,Ia,B9,Dp,Dn,C9,Ca, *]))
  |fail)
 repeat' (first
  |(with_reducible (first|apply A7|apply A8|apply A9|apply Ba))
  |(with_reducible (first|apply Kl);(conv=>lhs;simp only[zw, *]))
  |(with_reducible (first|apply Cy|apply Cz|apply C0|apply C1);(conv=>lhs;simp(disch:=first|exact gpA|exact dA|fail) [lw, *]);with_reducible (first|apply A7|apply A8|apply A9|apply Ba|apply Cu|(refine Cv (by simp) ?_)|fail))
  |(with_reducible (first|apply C2|apply C3|apply Cw);(first|(focus (intro hc;(try simp only[Bt]at hc);exfalso;omega))|(rotate_left;(focus (intro hc;(try simp only[Bt]at hc);exfalso;omega)))|fail);intro hc;(try simp only[Bt]at hc))
  |(refine B8 ?_ ?_;(focus (simp(disch:=first|decide|omega|(simp only[C9];omega)) [Aw,Am,Ar,Ax, *];done));(try simp(disch:=first|exact Ce|fail) only[Aw,Am,Bx,Ap,At,T3,Ia,B9,Dp,Dn,C9,Ca, *]))
  |fail)
 exact O0.1):R:=e ⟨g⟩
open Go.Nm Tryz
attribute [local irreducible] Aa Al Af Ad
variable {h:H}{d D:Nat}{x y z:Adw.Ad2}
abbrev f0:Adw.Ad2:=(0,1)
abbrev f1:Adw.Ad2:=(1,1)
abbrev f2:Adw.Ad2:=(2,1)
theorem fr0:Adw.Fr f0:=⟨by simp,by decide,by simp,rfl⟩
theorem fr1:Adw.Fr f1:=⟨by grind,by decide,by simp,rfl⟩
theorem Bgu:Adw.Fr f2:=⟨by grind,by decide,by simp,rfl⟩
theorem Cik hh:Aj prog .neq 35 true (iI 0) (iI 0) hh=.ok ct hh:=rfl
theorem p69 v h:Ah h (λu _=>u=v) ((CW (D+1)).call 69 [v,iI 0] h):=upW (by rw[CrW];exact Ey (Cik _) (Ae5 (Lo (Ai.refl h) rfl)))
theorem p72 v h:Ah h (λu _=>u=v) ((CW (D+1)).call 72 [v,iI 0] h):=upW (by rw[CrY];exact Ey (Cik _) (Ae5 (Lo (Ai.refl h) rfl)))
theorem p71(f:Adw.Fr x)(hy:Adw.Fr y)(c:GP h):Ah h (λu _=>u=iI (AsG x y)) ((CW (D+2)).call 71 [.str (ftx x),.str (ftx y)] h):=upW (by rw[CrX];refine Ey (k11 f hy c) (Ey rfl (Ey rfl (Fj (p69 _ h) λv1 h1 e1 l1 e g=>?_)));subst g;exact Lo e1 rfl)
theorem B6w x y:0<AsG x y ↔ ¬ Adw.Af6 x y:=by unfold AsG Aoq Adw.Af6;omega
theorem p27(r:Adw.Fr x)(hy:Adw.Fr y)(l:GP h):Ah h (λu _=>u=okN (Adw.AtS x y)) ((CW (D+3)).call 27 [.str (ftx x),.str (ftx y)] h):=upW (by
 rw[CrI];refine Fj (show Ah h (λu _=>u=okN (Adw.AtS x y)) _ from upW (q:=true) ?_) λv1 h1 e1 l1 p o=>?_
 .rw[CrT];refine Ey (k11 r hy l) (Ey rfl (Ey rfl (Ey (Cik _) (Ae5 ?_))));have g:=B6w x y;have hi:-1<=AsG x y/\AsG x y<=1:=by have:=BxS (x.1*y.2:Nat) (y.1*x.2:Nat);unfold AsG;omega
  unfold Adw.AtS;generalize AsG x y=c at *;refine Ey ((λe=>by show OR.ok (iI (E1 _ (c*1))) _=_;rw[Int.mul_one,lw.2.2 _ om om]:∀e,Aj _ _ 3 _ _ _ e=.ok ..) _) (Ey ((λe=>by simp:∀e,Aj _ _ 3 _ _ ..=.ok (.bool (decide (0<c))) e) _) ?_);by_cases f:Adw.Af6 x y;. rw[Xo f,Yg λh=>g.1 h f];exact Ae5 (Lo (Ai.refl h) rfl)
  .rw[X2 f,Ws (g.2 f)];exact Zx (Lo (Ai.refl h) rfl)
 .subst o;exact Ey rfl (Ey rfl (Lo e1 rfl)))
theorem Cve(e:Adw.Fr x)(hz:Adw.A0N f1 x=some z)(c:GP h):Ah h (λu _=>u=okN z) ((CW (D+2)).call 277 [.str (ftx x)] h):=upW (by rw[Cs8];exact Ey (CuG (x:=f1) fr1 e hz c) (Ey rfl (Ey rfl (Lo (Ai.refl h) rfl))))
def B7s k:=gra (λn=>[.int k n,iI 0]) (λn=>.int k n) λ_=>True
def B7t:=gra (λn=>[.str n,iI 0]) (λn=>.str n) λ_=>True
theorem A9U{k}{n}:B7s k [.int k n,iI 0]=some (.int k n):=Awk (λa b _ _ c=>(List.cons.inj c).1) trivial
theorem A5D{n}:B7t [.str n,iI 0]=some (.str n):=Awk (λa b _ _ c=>(List.cons.inj c).1) trivial
def o1S(f:Adw.Ad2->Option _):=gra (λp=>[.str (ftx p)]) (λp=>okN ((f p).getD (0,1))) λp=>Adw.Fr p/\∃z,f p=some z
theorem Cim{f}(e:Adw.Fr x)(hz:f x=some z):o1S f [.str (ftx x)]=some (okN z):=by refine(Awk ?_ ⟨e,z,hz⟩).trans (by grind);intro a b h1 h2 c;injection c with e1 _;rw[Avd h1.1 h2.1 (Awf e1)]
def AiP:Df:=Wt.ext 69 (B7s .i64)
def AiQ:=AiP.ext 72 B7t
def AiT:=AiQ.ext 71 (cpS λx y=>iI (AsG x y))
def AjK:=AiT.ext 27 (cpS λx y=>okN (Adw.AtS x y))
def V:=AjK.ext 277 (o1S (Adw.A0N f1))
theorem v1:AsH PP Um AiP:=wOk.ext λargs v c=>by obtain⟨n,_,rfl,rfl⟩:=AsI c;exact⟨A5E wOk (d:=1) rfl (.int _ _) λh e=>p69 _ h,pl2 (.int _ _) (.int _ _)⟩
theorem v2:AsH PP Um AiQ:=v1.ext λargs v c=>by obtain⟨n,_,rfl,rfl⟩:=AsI c;exact⟨A5E wOk (d:=1) rfl (.str _) λh e=>p72 _ h,pl2 (.str _) (.int _ _)⟩
theorem v3:AsH PP Um AiT:=BiP v2 λx y c hy=>A5E wOk (d:=2) rfl (.int _ _) λh=>p71 c hy
theorem v4:AsH PP Um AjK:=BiP v3 λx y c hy=>A5E wOk (d:=3) rfl Ayq λh=>p27 c hy
theorem vOk:AsH PP Um V:=v4.ext λargs v e=>by obtain⟨x,⟨h1,z,c⟩,rfl,rfl⟩:=AsI e;refine⟨?_,.cons (.str _) .nil⟩;rw[c];exact A5E wOk (d:=2) rfl Ayq λh=>Cve h1 c
abbrev vL(g:FuncId):=g≠69/\g≠72/\g≠71/\g≠27/\g≠277
theorem vW(c:Wt o=p)(q:vL o:=by decide):V o=p:=by obtain⟨f,g,l,e,S⟩:=q;simp[V,AiP,AiQ,AiT,AjK,Bb,f,g,l,e,S,c]
theorem t69:V 69=B7s .i64:=rfl
theorem t72:V 72=B7t:=rfl
theorem t71:V 71=cpS λx y=>iI (AsG x y):=rfl
theorem t27:V 27=cpS λx y=>okN (Adw.AtS x y):=rfl
theorem t277:V 277=o1S (Adw.A0N f1):=rfl
abbrev CV d:=CT V d
theorem upV{q:Bool}{args:uz}{h0:H}{Q:AV->H->Prop}(e:Ah h0 Q (Ay PP (CV d) N0x q o args h))(k:Wt o=λ_=>none:=by exact wNo)(c:vL o:=by decide):Ah h0 Q ((CV (d+1)).call o args h):=upT (by rw[vW k c]) e
theorem lkV{g}{S}{args}{v}(e:V g=S)(c:S args=some v):∀h,GP h->(CV (d+1)).call g args h=.ok v h:=λh=>look e c
theorem p67{T}(c:T 67=λ_=>none) v h:Ah h (λu _=>u=.Bj []) ((CT T (D+1)).call 67 [v] h):=upT (by grind) (by rw[CrU];exact Ey rfl (Zx (Lo (Ai.refl h) rfl)))
structure B0d(f δ:Adw.Ad2):Prop where
 a:Adw.Fr f
 b:Adw.Fr δ
 c1:0<=AsG f f1
 c2:0<=AsG δ f0
 c3:AsG δ f1<=0
abbrev lsA(f δ:Adw.Ad2):AV:=.agg [.str (ftx f),.str (ftx δ)]
theorem Cvk{f δ:Adw.Ad2}(k:B0d f δ)(A:GP h):Ah h (λu _=>u=iI 0) ((CV (D+2)).call 107 [lsA f δ] h):=upV (q:=true) (by rw[Csh];have t:=lkV (d:=D) t69 (A9U (n:=0));have g:∀v c,Ah c (λu _=>u=.Bj []) ((CV (D+1)).call 67 [v] c):=λv c=>p67 (vW wNo) v c;have o:=lkV (d:=D) t71 (Awh k.a fr1);have e:=lkV (d:=D) t71 (Awh k.b fr0);have l:=lkV (d:=D) t71 (Awh k.b fr1);have r:=lkV (d:=D) (vW t70) (A5d k.a);have s:=lkV (d:=D) (vW t70) (A5d k.b);generalize CV (D+1)=C at *;obtain⟨_,_,h1,h2,w⟩:=k;have b1:decide (AsG f f1<0)=false:=df;have b2:decide (AsG δ f0<0)=false:=df;have E:decide (0<AsG δ f1)=false:=df;rw[show ftx f1=[49]from rfl]at o l;rw[show ftx f0=[48]from rfl]at e;generalize AsG f f1=i1 at *;generalize AsG δ f0=i2 at *;generalize AsG δ f1=i3 at *;clear h1 h2 w;have w0:∀c:H,Gc 1 (.sl (h.nx+1+1) 0 2 2 1 true) (iI 0) c=.ok (.ptr (h.nx+1+1) 0) c:=λc=>A6n (i:=0) (off:=0) (by simp) c;have w1:∀c:H,Gc 1 (.sl (h.nx+1+1) 0 2 2 1 true) (iI 1) c=.ok (.ptr (h.nx+1+1) 1) c:=λc=>A6n (i:=1) (off:=0) (by simp) _;refine wq ?_;rw[BiJ];refine wq ?_;rw[BiJ];refine wq ?_;rw[BiJ];refine wq (Fj (g ..) λv1 h1 e1 l1 p B=>?_);rw[AkG ((p _ (by simp)).trans (A2 ..))];exact Lo (Ai.trans Ex e1) rfl)
theorem Cvj{f δ:Adw.Ad2}(e:Adw.Fr f)(hd:Adw.Fr δ)(g:GP h):Ah h (λu _=>u=lsA f (Adw.AtS δ f1)) ((CV (D+2)).call 75 [.str (ftx f),.str (ftx δ)] h):=upV (by rw[Csb];have c27:=lkV (d:=D) t27 (Awh hd fr1);have c:=lkV (d:=D) t72 (A5D (n:=ftx (Adw.AtS δ f1)));rw[show ftx f1=[49]from rfl]at c27;refine wq ?_;exact zr Ex rfl)
variable {h0:H}{k n b:Nat}
abbrev aS:AV:=.str [48]
abbrev zS:AV:=.str []
def rp k n:=List.replicate n aS++List.replicate (k-n) zS
theorem B72(hn:n<=k):(rp k n).length=k:=by unfold rp;grind
theorem BxN:∀{l},(∀c∈l,∃s,c=.str s)->Bm l=true
|[],_=>rfl
|c::l,e=>by obtain⟨s,rfl⟩:=e c Wm ..;exact(BxN λc f=>e c (Wr _ f):Bm l=true)
theorem B79:Tw prog 83=some ⟨28,1,16⟩/\I1 prog 28=some [zS]/\Hp prog 83=.sl ⟨28,1,16⟩:=⟨rfl,rfl,rfl⟩
theorem BxU{src}{off len cap n}{sc C}(g:Hd h 1 src=some (n,sc))(q:sc.length=n)(l:h.m.get b=cd C 28)(f:∀c∈sc,∃s,c=.str s)(p:off+len<=C.length):
 Ahh prog 83 (.sl b off len cap 1 true) src h=.ok (iI (Nat.min n len)) (h.put b (cd (C.take off++sc.take (Nat.min n len)++C.drop (off+Nat.min n len)) 28)):=by
 have e:Nat.min n len<=sc.length:=by grind
 unfold Ahh;rw[B79.1];show(match Hd h 1 _ with|some (n,src)=>_|none=>OR.bad _)=_;rw[g];show(match AeG .. with
  |some _=>@Bool.rec (λ_=>OR) _ ..
  |none=>.bad _)=_;rw[show AeG ..=some _ by rw[ae,AhX,Xo e]];show Bool.rec _ ..=_;rw[BxN λc o=>f c (ax o),As0,l,Afa,Kh,Xo (by grind),Cm,dw e];rfl
theorem Cea(hn:n<k) hh:xSl prog 83 (.sl b 0 k k 1 true) (some (iI n)) none hh=.ok (.sl b n (k-n) (k-n) 1 true) hh:=by rw[Aav B79.2.2];unfold AkE;rw[show Nat.ble n k=true by simpa using T8 hn,show Nat.ble k k=true by simp,show Nat.blt n k=true by simp[*]];simp
theorem CdZ(hn:n<=k)(c:0<k) hh:xSl prog 83 (.sl b 0 k k 1 true) none (some (iI n)) hh=.ok (.sl b 0 n k 1 true) hh:=by rw[Aau B79.2.2];unfold AkE;rw[show Nat.ble 0 n=true by simp,show Nat.ble n k=true by simp_all,show Nat.blt 0 k=true by simp[*]];rfl
theorem CiG(k:Nat)(g:k<=100000)(c:H):A3d prog 83 (iI (k:Int)) (iI (k:Int)) c=.ok (.sl c.nx 0 k k 1 true) (c.new (cd (rp k 0) 28)):=by
 unfold A3d;simp only[B79.1,B79.2.1,show Arm (iI (k:Int))=some k from rfl]
 rw[show Nat.ble k k=true by simp,show Gj (k*(16+1+1))=true by rw[Fi];exact Ws om]
 have e:∀k,Ade [zS] k=List.replicate k zS:=λk=>by
  induction k with
  |zero=>rfl
  |succ k f=>show zS::Ade [zS] k=_;rw[f];rfl
 rw[e];rfl
theorem Cbh(hn:n<k)(h0:0<n)(hb:b<h.nx)(f:h.m.get b=cd (rp k n) 28):Ahh prog 83 (.sl b n (k-n) (k-n) 1 true) (.sl b 0 n k 1 true) h=.ok (iI (Nat.min n (k-n))) (h.put b (cd (rp k (n+Nat.min n (k-n))) 28)):=by
 have p:=B72 (T8 hn);have l:(rp k n).take n=List.replicate n aS:=by unfold rp;grind
 rw[BxU (Sl.src (.inr ⟨_,_,_,_,_,rfl,T8 hn,⟨hb,_,_,f,trivial⟩,by grind,by simp_all⟩):Hd h 1 (.sl b 0 n k 1 true)=some (n,List.replicate n aS)) (by simp) f (λc o=>⟨_,(List.mem_replicate.1 o).2⟩) (by omega)];have g:Nat.min n (k-n)<=n:=I2 ..;generalize Nat.min n _=m at *;have e:(rp k n).take n++(List.replicate n aS).take m++(rp k n).drop (n+m)=rp k (n+m):=by rw[l,List.take_replicate,dw g,S5];unfold rp;rw[show n+m=(List.replicate n _).length+m by simp,List.drop_append,L3,L3,Lx,show n-(n+m)=0 by simp,show k-n-(n+m-n)=k-(n+m)by omega];rfl
 grind
theorem B69{hd}{o}(g:Ai h hd)(hb:h.nx<=b):Ai h (Be (b::hd.lg) (Ab (Ab ((Ab hd).put b o)))):=by
 have g1:=g.put b o hb;refine⟨g1.lo,g1.Cf,λx c=>?_⟩;rcases Wf.1 c with rfl|c;. omega
 .exact g.lg x c
theorem CdH(Z:Ac)(N:Nat)(I:k<22):∀(u n m:Nat) (hd:H) (f0:L2),k-n<=u->u<m->0<n->n<=k->Ai h hd->h.nx<=b->b<hd.nx->hd.m.get b=cd (rp k n) 28->Ah h (λr h1=>∃o,r=.sl o 0 k k 1 true/\h.nx<=o/\o<h1.nx/\h1.m.get o=cd (List.replicate k aS) 28) (BiK Z N m (.sl b 0 k k 1 true) (iI (n:Int)) f0 hd):=by intro u;induction u with
|zero=>
 intro n m hd f0 G F h0 hn g hb l p;obtain⟨A,rfl⟩:=mg m;obtain rfl:n=k:=by omega
 have E:decide ((n:Int)<(n:Int))=false:=df;have e:rp n n=List.replicate n aS:=by unfold rp;simp
 rw[e]at p;rw[Bx8];refine Ey (v:=iI (n:Int)) (h:=hd) rfl ?_;refine Ey (v:=ct) (h:=hd) ?_ (Ae5 (Lo g ⟨b,rfl,hb,l,p⟩));simp
|succ u w=>
 intro n m hd f0 G F h0 hn g hb l p;obtain⟨A,rfl⟩:=mg m;by_cases e:n=k;. grind
 .have B:n<k:=by omega
  have s1:=λc=>Cea (b:=b) B c;have s2:=λc=>CdZ (b:=b) hn om c;have cp:=Cbh (h:=Ab hd) B h0 l p;have t:Nat.min n (k-n)=if n<=k-n then n else k-n:=Nat.min_def ..;generalize s:Nat.min n (k-n)=mm at *;have q:0<mm/\n+mm<=k:=by grind
  have E:decide ((n:Int)<(k:Int))=true:=dt;have K:∀c:H,Aj prog .add 3 false (iI (n:Int)) (iI (mm:Int)) c=.ok (iI ((n+mm:Nat):Int)) c:=λc=>by show OR.ok (iI (E1 .i64 ((n:Int)+mm))) c=_;rw[lw.2.2 _ om om];rfl
  have f:=w (n+mm) A;replace f:=(hU f);have J:(0:Int)<=n:=by omega
  rw[Bx8];clear w t s;refine we ?_;rw[show(n:Int)+(mm:Int)=((n+mm:Nat):Int)by omega];exact(gw f) _ _ om om om q.2 (B69 g hb) hb l (A2 (h:=Ab hd) _ _)
theorem CwF(Z:Ac)(N:Nat)(E:30<N)(g:∀n:Nat,n<22->∀h,GP h->Z.call 296 [cm 1,cm (n:Int)] h=.ok (.Bj [cm 0,cm (n:Int)]) h){b0:Nat}(hb:b0<h.nx)(q:h.m.get b0=cd [aS] 28)(h0:0<k)(l:k<22)(w:GP h):Ah h (λr h1=>∃f,r=.sl f 0 k k 1 true/\h.nx<=f/\f<h1.nx/\h1.m.get f=cd (List.replicate k aS) 28) (Ay PP Z N false 282 [.sl b0 0 1 1 1 true,iI (k:Int)] h):=by
 have c:=g k l;have mk:=λe=>CiG k om e;have v:decide ((k:Int)<0)=false:=df;have o:∀e:H,A6r .u64 (iI 1) e=.ok (cm 1) e:=λe=>by rfl
 have u:∀e:H,A6r .u64 (iI (k:Int)) e=.ok (cm (k:Int)) e:=λe=>by rw[Awb,AtC _ _ (by show(0:Int)<=_;simp) (by show _<=(18446744073709551615:Int);omega)]
 have p:∀e:H,A6r .i64 (cm (k:Int)) e=.ok (iI (k:Int)) e:=λe=>by rw[Awb,lw.2.2 _ om om]
 have B:∀e:H,Aj prog .gtr 169 true (cm 0) (cm 0) e=.ok ct _:=λe=>rfl;have A:∀e,Aj prog .gtr 169 true (cm k) (cm 9223372036854775807) e=.ok ..:=λe=>by show OR.ok (.bool (ilt ..)) _=_;rw[Il,Yg om]
 have cp:=BxU (off:=0) (len:=k) (cap:=k) (src:=.sl _ 0 1 1 1 true) (sc:=[aS]) (Sl.src (.inr ⟨_,_,_,_,_,rfl,Ye _,⟨Sa hb,_,_,(Cq _ _ om).trans q,trivial⟩,Ye _,rfl⟩)) rfl (Bf _) (λc s=>⟨_,T0.1 s⟩) (by rw[B72 (Qt k)];omega);have e1:Nat.min 1 k=1:=dw h0;have t:(rp k 0).take 0++[aS].take 1++(rp k 0).drop (0+1)=rp k 1:=by unfold rp;simp
 rw[e1,t]at cp;rw[CsF];refine wq ?_;rw[Ca5];refine wq ?_;rw[Ca8];exact wq ((show ∀hd f0,_ from(λhd f0=>CdH (h:=h) (b:=h.nx) Z N l k 1 N hd f0 om om (by omega) h0)) _ _ (((Ai.refl h).new _).put _ _ (Ye _)) (Ye _) (Y3 _) (A2 ..))
variable {b1 b2 a bb j:Nat}
def bl(f:Nat->Bool)(n:Nat):uz:=(List.range n).map λi=>.bool (f i)
theorem A8v f n:(bl f n).length=n:=by unfold bl;simp
theorem BxQ{f}{i n}(h:i<n):(bl f n)[i]?=some (.bool (f i)):=by unfold bl;grind
theorem A4R{f g}{n}(h:∀i,i<n->f i=g i):bl f n=bl g n:=by unfold bl;simp_all
theorem B6g{f}{j n}{v}:(bl f n).set j (.bool v)=bl (λi=>if i=j then v else f i) n:=by
 refine dg λi=>?_;by_cases hi:i<n
 .rw[BxQ hi,O5];by_cases e:j=i;. subst e;rw[Xo rfl,Xo (by rw[A8v];omega),Xo rfl]
  .rw[X2 e,BxQ hi,X2 λh=>e h.symm]
 .rw[ak (by rw[I8,A8v];omega),ak (by rw[A8v];omega)]
theorem BkC{C}{ty}{i}{v}(c:h.m.get b=cd C ty)(hi:i<C.length):A4 1 (.ptr b i) (.bool v) h=.ok (.Bj []) (h.put b (cd (C.set i (.bool v)) ty)):=by
 have e:Ng C [.bool v] i=some (C.set i (.bool v)):=by rw[Kh,Xo (by grind),Tz,Xo hi];simp
 simp_all
theorem Ceq(k:Nat)(g:k<=100000)(c:H):A3d prog 154 (iI (k:Int)) (iI (k:Int)) c=.ok (.sl c.nx 0 k k 1 true) (c.new (cd (bl (λ_=>false) k) 4)):=by
 have u1:Tw prog 154=some ⟨4,1,1⟩:=by kernel_rfl
 have u2:I1 prog 4=some [ct]:=by kernel_rfl
 unfold A3d;simp only[u1,u2,show Arm (iI (k:Int))=some k from rfl]
 rw[show Nat.ble k k=true by simp,show Gj (k*(1+1+1))=true by rw[Fi];exact Ws om]
 have e:∀k,Ade [AV.bool false] k=bl (λ_=>false) k:=λk=>by
  have e1:∀k,Ade [AV.bool false] k=List.replicate k ct:=λk=>by
   induction k with
   |zero=>rfl
   |succ k f=>show AV.bool false::Ade _ k=_;rw[f];rfl
  rw[e1];unfold bl;rw[List.map_const',List.length_range]
 rw[e];rfl
theorem Bfk(h:Adw.lft a bb j=none):∀i,Adw.lft a bb (j+i)=none
|0=>h
|i+1=>by show(match Adw.lft a _ (j+i)with|none=>none|some x=>_)=_;rw[Bfk h i]
theorem B7d(c:a<bb):∀j x,Adw.lft a bb j=some x->0<x/\x<bb
|0,x,h=>by have h:(if a=0 then none else some a)=some x:=h;grind
|j+1,x,h=>by have h:(match Adw.lft a _ j with|none=>none|some x=>if 2*x=bb then none else some _)=some x:=h;cases e:Adw.lft a bb j with
 |none=>grind
 |some y=>have:=B7d c j y e;grind
def SdR(h:H) a bb n(r:AV)(h1:H):=∃b1 b2,r=.Bj [.sl b1 0 (n+1) (n+1) 1 true,.sl b2 0 (n+1) (n+1) 1 true]/\h.nx<=b1/\h.nx<=b2/\b1<h1.nx/\b2<h1.nx/\h1.m.get b1=cd (bl (Adw.one a bb) (n+1)) 4/\h1.m.get b2=cd (bl (Adw.zer a bb) (n+1)) 4
theorem CmM C N m1{hd}{Q}{o s2 l}{nn g j2 c}{e q}{r}(p:GP hd)(s:decide (g<=nn)=true)
 (c1:∀h,GP h->C.call 283 [.str o,.str o] h=.ok (.str s2) h) (c2:∀h,GP h->C.call 294 [.str s2,.str l] h=.ok (iI c) h) (hc:∀f,Aj prog .geq 3 true (iI c) (iI 0) f=.ok ct f)
 (ia2:∀f,Gc 1 (.sl b2 0 e e 1 true) (iI g) f=.ok (.ptr b2 q) f) (ad:∀f,Aj prog .add 3 true (iI g) (iI 1) f=.ok (iI j2) f)
 (st:A4 1 (.ptr b2 q) ux hd=.ok (.Bj []) (hd.put b2 r)) (go:∀f0,Ah h Q (AzR C N m1 (iI nn) (.sl b1 0 e e 1 true) (.sl b2 0 e e 1 true) (.str l) ux (.str s2) (iI j2) f0 (hd.put b2 r))) f0:
 Ah h Q (AzR C N (m1+1) (iI nn) (.sl b1 0 e e 1 true) (.sl b2 0 e e 1 true) (.str l) ux (.str o) (iI g) f0 hd):=by rw[BiL];refine wq ?_;rw[Bxf];exact wq ((gw go) _)
theorem Cmv(C:Ac)(N u:Nat){hd:H}{Q:AV->H->Prop}{s2 t q:uw}{nn j2 c:Int}{g o:Nat}{r v:AO}{e:Bool}(p:GP hd)(w:decide (I<=nn)=true)
 (c1:∀h,GP h->C.call 283 [.str J,.str J] h=.ok (.str s2) h) (c2:∀h,GP h->C.call 294 [.str s2,.str q] h=.ok (iI c) h) (c3:∀h,GP h->C.call 286 [.str s2,.str q] h=.ok (.Bj [.str t,iI 0]) h) (hc:∀f,Aj prog .geq 3 true (iI c) (iI 0) f=.ok ux f)
 (he:∀f,Aj prog .eql 3 true (iI c) (iI 0) f=.ok (.bool e) f) (Hr:∀f,Aj prog .neq 3 true (iI c) (iI 0) f=.ok (.bool !e) f)
 (ia1:∀f,Gc 1 (.sl b1 0 g g 1 true) (iI I) f=.ok (.ptr b1 o) f) (ia2:∀f,Gc 1 (.sl b2 0 g g 1 true) (iI I) f=.ok (.ptr b2 o) f) (ad:∀f,Aj prog .add 3 true (iI I) (iI 1) f=.ok (iI j2) f)
 (st1:A4 1 (.ptr b1 o) ux hd=.ok (.Bj []) (hd.put b1 r)) (st2:A4 1 (.ptr b2 o) (.bool e) (hd.put b1 r)=.ok (.Bj []) ((hd.put b1 r).put b2 v)) (go:∀f0,Ah h Q (AzR C N u (iI nn) (.sl b1 0 g g 1 true) (.sl b2 0 g g 1 true) (.str q) (.bool !e) (.str t) (iI j2) f0 ((hd.put b1 r).put b2 v))) f0:
 Ah h Q (AzR C N (u+1) (iI nn) (.sl b1 0 g g 1 true) (.sl b2 0 g g 1 true) (.str q) ux (.str J) (iI I) f0 hd):=by rw[BiL];refine wq ?_;rw[Bxf];exact wq ((gw go) _)
theorem Ce4 C N m1{hd}{e f}{nn c}{u v}{Q}{o}(k:(decide (c<=nn)&&o)=false)(g:Ai h hd)(q:Q (.Bj [u,v]) hd) f0:Ah h Q (AzR C N (m1+1) (iI nn) u v (.str f) (.bool o) (.str e) (iI c) f0 hd):=by rw[BiL];cases o with
|false=>
 by_cases p:decide (c<=nn)=true;. exact wq (zr g q)
 .exact wq (zr g q)
|true=>
 have l:decide (c<=nn)=false:=by grind
 exact wq (zr g q)
theorem Bsp{i n}{f:Nat->Bool}{v}(c:f (i+1)=v):(bl (λk=>decide (k<i+1)&&f k) (n+1)).set (i+1) (.bool v)=bl (λk=>decide (k<i+1+1)&&f k) (n+1):=by rw[B6g];grind
theorem CaP{i n}{f:Nat->Bool}(c:f (i+1)=false):bl (λk=>decide (k<i+1)&&f k) (n+1)=bl (λk=>decide (k<i+1+1)&&f k) (n+1):=by grind
theorem CdI(C:Ac)(N:Nat)(K:a<bb)(T:bb<500000000)(hn:n<=20)(R:GP h)(B8l:∀x,x<500000000->∀h,GP h->C.call 283 [.str (dgn x),.str (dgn x)] h=.ok (.str (dgn (2*x))) h)
 (CaR:∀x,x<Adw.AdE->∀h,GP h->C.call 294 [.str (dgn x),.str (dgn bb)] h=.ok (iI (Aoq x bb)) h) (B8m:∀x,x<Adw.AdE->bb<=x->∀h,GP h->C.call 286 [.str (dgn x),.str (dgn bb)] h=.ok (okD (x-bb)) h):
 ∀(u j m:Nat) (o:Bool) (I:uw) (hd:H) (f0:L2),n+1-j=u->0<j->j<=n+1->u<m->Ai h hd->h.nx<=b1->h.nx<=b2->b1<hd.nx->b2<hd.nx->b1≠b2->hd.m.get b1=cd (bl (λi=>decide (i<j)&&Adw.one a bb i) (n+1)) 4->hd.m.get b2=cd (bl (λi=>decide (i<j)&&Adw.zer a bb i) (n+1)) 4 ->
  ((o=true/\∃x,Adw.lft a bb (j-1)=some x/\I=dgn x)\/(o=false/\Adw.lft a bb (j-1)=none)) ->
  Ah h (SdR h a bb n) (AzR C N m (iI (n:Int)) (.sl b1 0 (n+1) (n+1) 1 true) (.sl b2 0 (n+1) (n+1) 1 true) (.str (dgn bb)) (.bool o) (.str I) (iI (j:Int)) f0 hd):=by
 intro u;induction u with
 |zero=>
  intro j m o I hd f0 U h0 hj W g q f l1 l2 ne g1 g2 M;obtain⟨l,rfl⟩:=mg m;obtain rfl:j=n+1:=by omega
  rw[A4R (g:=Adw.one a bb) λi hi=>by rw[Ws hi];rfl]at g1;rw[A4R (g:=Adw.zer a bb) λi hi=>by rw[Ws hi];rfl]at g2;exact Ce4 C N l (by rw[Yg om];rfl) g ⟨b1,b2,rfl,q,f,l1,l2,g1,g2⟩ f0
 |succ u S=>
  intro j m o I hd f0 U h0 hj W g q f l1 l2 ne g1 g2 M;obtain⟨l,rfl⟩:=mg m;obtain⟨i,rfl⟩:=mg j;rw[Ki]at M;have E:i+1<n+1:=by omega
  rcases M with⟨rfl,x,p,rfl⟩|⟨rfl,p⟩
  .have O:decide (((i+1:Nat):Int)<=(n:Int))=true:=dt;have J:∀c:H,Gc 1 (.sl b1 0 (n+1) (n+1) 1 true) (iI ((i+1:Nat):Int)) c=.ok (.ptr b1 (i+1)) c:=λc=>by rw[A6n E,Rx]
   have F:∀c:H,Gc 1 (.sl b2 0 (n+1) (n+1) 1 true) (iI ((i+1:Nat):Int)) c=.ok (.ptr b2 (i+1)) c:=λc=>by rw[A6n E,Rx]
   have P:∀c:H,Aj prog .add 3 true (iI ((i+1:Nat):Int)) (iI 1) c=.ok (iI ((i+1+1:Nat):Int)) c:=λc=>by show OR.ok (iI (E1 .i64 (((i+1:Nat):Int)+1))) c=_;rw[lw.2.2 _ om om];rfl
   obtain⟨Y,x1⟩:=B7d K _ _ p;have c1:=B8l x om;have c2:=CaR (2*x) (by show 2*x<1000000000;omega)
   have w:Adw.one a bb (i+1)=decide (bb<=2*x):=by show(match Adw.lft a bb i with|none=>false|some x=>decide (bb<=2*x))=_;rw[p]
   have B:Adw.zer a bb (i+1)=decide (2*x<=bb):=by show(match Adw.lft a bb i with|none=>false|some x=>decide (2*x<=bb))=_;rw[p]
   have A:Adw.lft a bb (i+1)=if 2*x=bb then none else some (if bb<=2*x then 2*x-bb else 2*x):=by show(match Adw.lft a bb i with|none=>none|some x=>if 2*x=bb then none else some (if bb<=2*x then 2*x-bb else 2*x))=_;rw[p]
   by_cases G:bb<=2*x
   .have hz:Aoq ((2*x:Nat):Int) (bb:Int)=if 2*x=bb then 0 else 1:=by
     unfold Aoq;rw[X2 om];split;. rw[X2 om]
     .rw[Xo om]
    rw[hz]at c2;have r:=BkC (h:=hd) (b:=b1) (i:=i+1) (v:=true) g1 (by rw[A8v];omega);rw[Bsp (by rw[w,Ws G])]at r;have V:Adw.zer a bb (i+1)=decide (2*x=bb):=by rw[B];exact cj.2 om
    have s:=BkC (h:=hd.put b1 (cd (bl (λk=>decide (k<i+1+1)&&Adw.one a bb k) (n+1)) 4)) (b:=b2) (i:=i+1) (v:=decide (2*x=bb)) ((Aq _ _ _ (λe=>ne e.symm)).trans g2) (by rw[A8v];omega);rw[Bsp V]at s;refine Cmv C N l (e:=decide (2*x=bb)) (R.gr g) O c1 c2 (B8m (2*x) (by show 2*x<1000000000;omega) G) ?_ ?_ ?_ J F P r s (λf0=>?_) f0
    .intro c;by_cases e:2*x=bb;. rw[Xo e];rfl
     .rw[X2 e];rfl
    .intro c;by_cases e:2*x=bb;. rw[Xo e,Ws e];rfl
     .rw[X2 e,Yg e];rfl
    .intro c;by_cases e:2*x=bb;. rw[Xo e,Ws e];rfl
     .rw[X2 e,Yg e];rfl
    .refine S (i+1+1) l _ _ _ f0 om om om om ((g.put b1 _ q).put b2 _ f) q f l1 l2 ne ((Aq _ _ _ ne).trans (A2 _ _)) (A2 _ _) ?_;rw[Ki,A];by_cases e:2*x=bb;. rw[Xo e,Ws e];exact .inr ⟨rfl,rfl⟩
     .rw[X2 e,Yg e,Xo G];exact .inl ⟨rfl,_,rfl,rfl⟩
   .have hz:Aoq ((2*x:Nat):Int) (bb:Int)=-1:=by unfold Aoq;rw[Xo om]
    rw[hz]at c2;have st:=BkC (h:=hd) (b:=b2) (i:=i+1) (v:=true) g2 (by rw[A8v];omega);rw[Bsp (by rw[B,Ws om])]at st;rw[CaP (by rw[w,Yg G])]at g1;refine CmM C N l (R.gr g) O c1 c2 (λc=>rfl) F P st (λf0=>?_) f0;refine S (i+1+1) l _ _ _ f0 om om om om (g.put b2 _ f) q f l1 l2 ne ((Aq _ _ _ ne).trans g1) (A2 _ _) ?_;rw[Ki,A,X2 om,X2 G];exact .inl ⟨rfl,_,rfl,rfl⟩
  .have on:∀k,i<k->Adw.one a bb k=false:=λk L=>by obtain⟨t,rfl⟩:∃t,k=i+t+1:=⟨k-i-1,by omega⟩;show(match Adw.lft a bb (i+t)with|none=>false|some x=>decide (bb<=2*x))=_;rw[Bfk p t]
   have X:∀k,i<k->Adw.zer a bb k=false:=λk L=>by obtain⟨t,rfl⟩:∃t,k=i+t+1:=⟨k-i-1,by omega⟩;show(match Adw.lft a bb (i+t)with|none=>false|some x=>decide (2*x<=bb))=_;rw[Bfk p t]
   rw[A4R (g:=Adw.one a bb) λk L=>by by_cases e:k<i+1;rw[Ws e];rfl;rw[on k om,Km]]at g1;rw[A4R (g:=Adw.zer a bb) λk L=>by by_cases e:k<i+1;rw[Ws e];rfl;rw[X k om,Km]]at g2;exact Ce4 C N l (by rw[Km]) g ⟨b1,b2,rfl,q,f,l1,l2,g1,g2⟩ f0
theorem B6y(hn:n<Adw.AdE):∃c,(dgn n)[0]?=some c/\48<=c/\c<=57/\(dgn n).length<=10:=by have⟨h1,_,_,_⟩:=AlG (AoK hn);have h0:=Kd.2 h1;simp_all
theorem Cnj(g:Adw.Fr x)(v:x.1<x.2)(s:GP h):Ah h (λu _=>u=ptO x) ((CW (D+2)).call 280 [.str (ftx x)] h):=upW (q:=true) (by
 rw[CsB];have B6h:=λh p=>CuH (h:=h) (d:=D) g p;have f:=λh p=>CuI (h:=h) (d:=D) g.n g.d p;change ∀h,GP h->(CW (D+1)).call 293 [.str (ftx x)] h=.ok (ptO x) h at B6h;change ∀h,GP h->(CW (D+1)).call 294 [.str (dgn x.1),.str (dgn x.2)] h=.ok (iI (Aoq x.1 x.2)) h at f;rw[show Aoq (x.1:Int) (x.2:Int)=-1 by unfold Aoq;omega]at f;generalize CW (D+1)=C at *;obtain⟨c,l,B,A,t⟩:=B6y g.n;obtain⟨_,_,_,_,E⟩:=B6y g.d;have r:∀e:H,xIx prog .str (.str (dgn x.1)) (iI 0) e=.ok (ch (c:Int)) e:=λe=>A0l (i:=0) l;have w:∀e:H,Aj prog .eql 5 true (ch (c:Int)) (ch 45) e=.ok ct e:=λe=>by show OR.ok (.bool (ieq (c:Int) _)) _=_;rw[X7,Yg om]
 show Ah h (λu _=>u=.Bj _) _;change ∀h,GP h->C.call _ _ h=.ok (.Bj _) h at B6h;generalize dgn _=sn at *;have o:decide ((1000:Int)<sn.length)=false:=df;refine wq ?_;exact zr Ex rfl)
def rtS:=gra (λp=>[.str (ftx p)]) ptO λp=>Adw.Fr p/\p.1<p.2
theorem B74(f:Adw.Fr x)(c:x.1<x.2):rtS [.str (ftx x)]=some (ptO x):=by refine Awk ?_ ⟨f,c⟩;intro a b h1 h2 e;injection e with e1 _;rw[Avd h1.1 h2.1 (Awf e1)]
def X:Df:=Wt.ext 280 rtS
theorem xOk:AsH PP Um X:=wOk.ext λargs v c=>by obtain⟨x,h1,rfl,rfl⟩:=AsI c;exact⟨A5E wOk (d:=2) rfl (.Bj λy hy=>by
  simp[Wf,Ww,fb]at hy;rcases hy with rfl|rfl|rfl;. exact .str _
  .exact .str _
  .exact .int _ _) λh=>Cnj h1.1 h1.2,.cons (.str _) .nil⟩
theorem xW(c:Wt o=p)(q:o≠280:=by decide):X o=p:=by simp[X,Bb,q,c]
theorem t280:X 280=rtS:=rfl
abbrev CX d:=CT X d
theorem xNo(k:Wt o=λ_=>none:=by exact wNo)(c:o≠280:=by decide):X o=λ_=>none:=xW k c
theorem upX{q:Bool}{args:uz}{h0:H}{Q:AV->H->Prop}(c:Ah h0 Q (Ay PP (CX d) N0x q o args h))(k:X o=λ_=>none:=by exact xNo):Ah h0 Q ((CX (d+1)).call o args h):=upT (by rw[k]) c
theorem lkX{g}{S}{args}{v}(e:X g=S)(c:S args=some v):∀h,GP h->(CX (d+1)).call g args h=.ok v h:=λh=>look e c
theorem Ce0{m n:Nat}{f:Nat->Bool}(h:f 0=false):bl (λ_=>false) n=bl (λi=>decide (i<1)&&f i) n:=
 A4R λi _=>by grind
theorem Ckt{n}{f:Nat->Bool}(h:f 0=false):(bl (λ_=>false) n).set 0 ct=bl (λi=>decide (i<1)&&f i) n:=by rw[B6g];grind
theorem Cvr(l:Adw.Fr x)(o:x.1<x.2)(h0:0<x.1)(v:x.2<500000000)(hn:n<=20)(t:GP h):Ah h (SdR h x.1 x.2 n) ((CX (D+2)).call 295 [.str (ftx x),iI (n:Int)] h):=upX (q:=true) (by
 rw[CsQ];have B2u:=lkX (d:=D) t280 (B74 l o);change ∀h,GP h->(CX (D+1)).call 280 [.str (ftx x)] h=.ok (.Bj [.str (dgn x.1),.str (dgn x.2),iI 0]) h at B2u;have r:=λb1 b2 hd f0=>CdI (h:=h) (b1:=b1) (b2:=b2) (a:=x.1) (bb:=x.2) (n:=n) (CX (D+1)) N0x o v hn t (λy hy c p=>by have:=lkX (d:=D) (xW t283) (A0S (n:=y) (m:=y) (show y<1000000000 by omega) (show y<1000000000 by omega) (show y+y<1000000000 by omega)) c p;grind) (λy hy=>lkX (d:=D) (xW t294) (A0S hy l.d trivial)) (λy hy hb=>lkX (d:=D) (xW t286) (A0S hy l.d hb)) n 1 N0x true (dgn x.1) hd f0 om fe om (Ql hn fe);have mk:=λc=>Ceq (n+1) om c;have w:∀c:H,Aj prog .add 3 true (iI (n:Int)) (iI 1) c=.ok (iI ((n+1:Nat):Int)) c:=λc=>by show OR.ok (iI (E1 .i64 ((n:Int)+1))) c=_;rw[lw.2.2 _ om om];rfl
 have u:decide (dgn x.1=[48])=false:=Yg λe=>by have:=A9O (n:=x.1) (m:=0) l.n fe (e.trans fe);omega
 have ia:∀c:H,Gc 1 (.sl (h.nx+1) 0 (n+1) (n+1) 1 true) (iI 0) c=.ok (.ptr (h.nx+1) 0) c:=λc=>A6n (i:=0) (off:=0) om c;replace r:=(hU r);generalize CX (D+1)=C at *;generalize ((n+1:Nat):Int)=zi at w mk;refine wq ?_;have s:∀(hA:H) (f0:L2),Ai h hA->h.nx+1<hA.nx->hA.m.get h.nx=cd (bl (λ_=>false) (n+1)) 4->hA.m.get (h.nx+1)=cd (bl (λ_=>false) (n+1)) 4 ->
  Ah h (SdR h x.1 x.2 n) (Aa (A4 1 (.ptr (h.nx+1) 0) ct hA) λ_=>AzR C N0x N0x (iI (n:Int)) (.sl h.nx 0 (n+1) (n+1) 1 true) (.sl (h.nx+1) 0 (n+1) (n+1) 1 true) (.str (dgn x.2)) ux (.str (dgn x.1)) (iI 1) f0):=λhA f0 g o g1 g2=>by
  rw[BkC g2 (by rw[A8v];omega),N2];refine(gw r) h.nx (h.nx+1) _ f0 (g.put _ _ om) (Ye _) om (by show h.nx<hA.nx;omega) (by simp_all) om ((Aq _ _ _ om).trans (g1.trans ?_)) ((A2 _ _).trans ?_) (.inl ⟨rfl,x.1,?_,rfl⟩);. rw[Ce0 (m:=0) (f:=Adw.one x.1 x.2) rfl]
  .rw[Ckt (f:=Adw.zer x.1 x.2) (by show decide (x.1=0)=false;exact df)]
  .show(if x.1=0 then none else some x.1)=some x.1;grind
 exact s _ _ Ex (Y3 _) ((Cq _ _ (Lb (Y3 _))).trans (Bf _)) (Bf _))
theorem CnO(C:Ac)(N n1 n2 m:Nat){hd:H}{Q:AV->H->Prop}{bO bZ bP bQ l pj f:Nat}{j k n ln:Int}{s2 g:uw}{o:AO}(p:GP hd)(q:bQ<hd.nx)
 (ia:∀(b:Nat) (e:H),Gc 1 (.sl b 0 m m 1 true) (iI I) e=.ok (.ptr b l) e) (ja:∀(b:Nat) (e:H),Gc 1 (.sl b 0 m m 1 true) (iI j) e=.ok (.ptr b pj) e) (ka:∀(b:Nat) (e:H),Gc 1 (.sl b 0 m m 1 true) (iI k) e=.ok (.ptr b f) e)
 (lP:∀e,Bi hd e->Ae (some none) (.ptr bP l) e=.ok (.str J) e) (lZ:∀e,Bi hd e->Ae (some none) (.ptr bZ pj) e=.ok ux e) (lQ:∀e,Bi hd e->Ae (some none) (.ptr bQ f) e=.ok (.str s2) e)
 (ne:decide (J=[48])=false) (ad:∀e,Aj prog .add 3 false (iI I) (iI j) e=.ok (iI k) e) (le:decide (k<=n)=true) (c:∀h,GP h->C.call 283 [.str s2,.str J] h=.ok (.str g) h) (st:A4 1 (.ptr bQ f) (.str g) (Ab hd)=.ok (.Bj []) ((Ab hd).put bQ o))
 (go:∀f0,Ah h Q (A4g C N n1 n2 (iI n) (.sl bO 0 m m 1 true) (.sl bZ 0 m m 1 true) (.sl bP 0 m m 1 true) (.sl bQ 0 m m 1 true) (iI I) (iI j) (iI ln) (iI I) f0 (hd.put bQ o))) f0:
 Ah h Q (Ayp C N n1 (n2+1) (iI n) (.sl bO 0 m m 1 true) (.sl bZ 0 m m 1 true) (.sl bP 0 m m 1 true) (.sl bQ 0 m m 1 true) (iI I) (iI j) (iI ln) (iI I) f0 hd):=by rw[Bcm];exact we ((gw go) _)
theorem CnN(C:Ac)(N n1 n2 m:Nat){hd:H}{Q:AV->H->Prop}{bO bZ bP bQ e pj:Nat}{j k n ln:Int}
 (ia:∀(b:Nat) (c:H),Gc 1 (.sl b 0 m m 1 true) (iI I) c=.ok (.ptr b e) c) (ja:∀(b:Nat) (c:H),Gc 1 (.sl b 0 m m 1 true) (iI j) c=.ok (.ptr b pj) c)
 (lP:∀c,Bi hd c->Ae (some none) (.ptr bP e) c=.ok (.str J) c) (lZ:∀c,Bi hd c->Ae (some none) (.ptr bZ pj) c=.ok ct c)
 (ne:decide (J=[48])=false) (ad:∀c,Aj prog .add 3 false (iI I) (iI j) c=.ok (iI k) c) (le:decide (k<=n)=true)
 (go:∀f0,Ah h Q (A4g C N n1 n2 (iI n) (.sl bO 0 m m 1 true) (.sl bZ 0 m m 1 true) (.sl bP 0 m m 1 true) (.sl bQ 0 m m 1 true) (iI I) (iI j) (iI ln) (iI I) f0 hd)) f0:
 Ah h Q (Ayp C N n1 (n2+1) (iI n) (.sl bO 0 m m 1 true) (.sl bZ 0 m m 1 true) (.sl bP 0 m m 1 true) (.sl bQ 0 m m 1 true) (iI I) (iI j) (iI ln) (iI I) f0 hd):=by rw[Bcm];exact we ((gw go) _)
theorem Ce3 C N n1 n2 m{hd}{Q}{bO bZ bP bQ e}{i j n ln i2}{s}
 (ia:∀b c,Gc 1 (.sl b 0 m m 1 true) (iI i) c=.ok (.ptr b e) c)
 (lP:∀c,Bi hd c->Ae (some none) (.ptr bP e) c=.ok (.str s) c)
 (ne:decide (s=[48])=true) (ad1:∀c,Aj prog .add 3 true (iI i) (iI 1) c=.ok (iI i2) c)
 (go:∀f0,Ah h Q (A0w C N n1 (iI n) (.sl bO 0 m m 1 true) (.sl bZ 0 m m 1 true) (.sl bP 0 m m 1 true) (.sl bQ 0 m m 1 true) (iI ln) (iI i2) f0 hd)) f0:
 Ah h Q (Ayp C N n1 (n2+1) (iI n) (.sl bO 0 m m 1 true) (.sl bZ 0 m m 1 true) (.sl bP 0 m m 1 true) (.sl bQ 0 m m 1 true) (iI i) (iI j) (iI ln) (iI i) f0 hd):=by rw[Bcm];exact we ((gw go) _)
theorem Cly C N n1 n2 m{hd}{Q}{bO bZ bP bQ e}{i j k n ln i2}{s}
 (ia:∀b c,Gc 1 (.sl b 0 m m 1 true) (iI i) c=.ok (.ptr b e) c)
 (lP:∀c,Bi hd c->Ae (some none) (.ptr bP e) c=.ok (.str s) c)
 (ne:decide (s=[48])=false) (ad:∀c,Aj prog .add 3 false (iI i) (iI j) c=.ok (iI k) c) (le:decide (k<=n)=false) (ad1:∀c,Aj prog .add 3 true (iI i) (iI 1) c=.ok (iI i2) c)
 (go:∀f0,Ah h Q (A0w C N n1 (iI n) (.sl bO 0 m m 1 true) (.sl bZ 0 m m 1 true) (.sl bP 0 m m 1 true) (.sl bQ 0 m m 1 true) (iI ln) (iI i2) f0 hd)) f0:
 Ah h Q (Ayp C N n1 (n2+1) (iI n) (.sl bO 0 m m 1 true) (.sl bZ 0 m m 1 true) (.sl bP 0 m m 1 true) (.sl bQ 0 m m 1 true) (iI i) (iI j) (iI ln) (iI i) f0 hd):=by rw[Bcm];exact we ((gw go) _)
theorem Cnh(C:Ac)(N n1 n2 m:Nat){hd}{Q}{bO bZ bP bQ l pj f}{i j j2 k n ln}{s s2 g}{o}(p:GP hd)(q:bP<hd.nx)
 (ia:∀b e,Gc 1 (.sl b 0 m m 1 true) (iI i) e=.ok (.ptr b l) e) (ja:∀b e,Gc 1 (.sl b 0 m m 1 true) (iI j) e=.ok (.ptr b pj) e) (ka:∀b e,Gc 1 (.sl b 0 m m 1 true) (iI k) e=.ok (.ptr b f) e)
 (lP:∀e,Bi hd e->Ae (some none) (.ptr bP l) e=.ok (.str s) e) (lO:∀e,Bi hd e->Ae (some none) (.ptr bO pj) e=.ok ux e) (lQ:∀e,Bi hd e->Ae (some none) (.ptr bP f) e=.ok (.str s2) e)
 (ad:∀e,Aj prog .add 3 false (iI i) (iI j) e=.ok (iI k) e) (ad1:∀e,Aj prog .add 3 true (iI j) (iI 1) e=.ok (iI j2) e) (c:∀h,GP h->C.call 283 [.str s2,.str s] h=.ok (.str g) h) (st:A4 1 (.ptr bP f) (.str g) (Ab hd)=.ok (.Bj []) ((Ab hd).put bP o))
 (go:∀f0,Ah h Q (Ayp C N n1 n2 (iI n) (.sl bO 0 m m 1 true) (.sl bZ 0 m m 1 true) (.sl bP 0 m m 1 true) (.sl bQ 0 m m 1 true) (iI i) (iI j2) (iI ln) (iI i) f0 (hd.put bP o))) f0:
 Ah h Q (A4g C N n1 n2 (iI n) (.sl bO 0 m m 1 true) (.sl bZ 0 m m 1 true) (.sl bP 0 m m 1 true) (.sl bQ 0 m m 1 true) (iI i) (iI j) (iI ln) (iI i) f0 hd):=by rw[Bxd];refine we ?_;rw[Bxe];exact we ((gw go) _)
theorem Cnf C N n1 n2 m{hd}{Q}{bO bZ bP bQ pj}{i j j2 n ln}
 (ja:∀b c,Gc 1 (.sl b 0 m m 1 true) (iI j) c=.ok (.ptr b pj) c) (lO:∀c,Bi hd c->Ae (some none) (.ptr bO pj) c=.ok ct c)
 (ad1:∀c,Aj prog .add 3 true (iI j) (iI 1) c=.ok (iI j2) c)
 (go:∀f0,Ah h Q (Ayp C N n1 n2 (iI n) (.sl bO 0 m m 1 true) (.sl bZ 0 m m 1 true) (.sl bP 0 m m 1 true) (.sl bQ 0 m m 1 true) (iI i) (iI j2) (iI ln) (iI i) f0 hd)) f0:
 Ah h Q (A4g C N n1 n2 (iI n) (.sl bO 0 m m 1 true) (.sl bZ 0 m m 1 true) (.sl bP 0 m m 1 true) (.sl bQ 0 m m 1 true) (iI i) (iI j) (iI ln) (iI i) f0 hd):=by rw[Bxd];refine we ?_;rw[Bxe];exact we ((gw go) _)
theorem Cn3 C N n1{hd}{Q}{u v w x}{i n ln}(k:decide (i<ln)=true)
 (go:∀f0,Ah h Q (Ayp C N n1 N (iI n) u v w x (iI i) (iI 0) (iI ln) (iI i) f0 hd)) f0:
 Ah h Q (A0w C N (n1+1) (iI n) u v w x (iI ln) (iI i) f0 hd):=by rw[Bx2];exact we ((gw go) _)
theorem ClD C N n1{hd}{Q}{u v w x}{i n ln}(k:decide (i<ln)=false)(g:Ai h hd)(q:Q x hd) f0:
 Ah h Q (A0w C N (n1+1) (iI n) u v w x (iI ln) (iI i) f0 hd):=by rw[Bx2];exact we (zr g q)
end Go.Proofs
namespace Go.Adw
open Go.Ev
variable (a b:Nat)
def pj i j k:=po a b i k+if i<k/\k<i+j then bn (one a b (k-i))*po a b i i else 0
def qj i j k:=qo a b i k+if i<=k/\k<i+j then bn (zer a b (k-i))*po a b i i else 0
theorem Ba2{f}:∀{n j},j<n->f j<=sm f n
|n+1,j,h=>by
 show f j<=sm f n+f n;by_cases e:j=n;. grind
 .have:=Ba2 (f:=f) (n:=n) (j:=j) om;omega
theorem B7w{n i t}(h:i+t<=n):po a b i (i+t)<=2^n:=by have h1:=krf a b n i om;have h2:=Ba2 (f:=λt=>po a b i (i+t)*2^(n-(i+t))) (n:=n+1-i) (j:=t) om;have c:po a b i (i+t)*1<=po a b i _*2^(n-(i+t)):=cq _ Kg;omega
theorem Cfb{n i k}(hi:i<=n+1)(h:k<=n):qo a b i k<=2^n:=by have h1:=krf a b n i hi;have h2:=Ba2 (f:=λk=>qo a b i k*2^(n-k)) (n:=n+1) (j:=k) om;have c:qo a b i k*1<=qo a b i k*2^(n-k):=cq _ Kg;omega
theorem B7u{i j}:pj a b i j i=po a b i i:=by unfold pj;simp
theorem CeY{i j}:pj a b i j (i+j)=po a b i (i+j):=by unfold pj;simp
theorem Cfa{i j}:qj a b i j (i+j)=qo a b i (i+j):=by unfold qj;simp
theorem Ciq{i k}:pj a b i 0 k=po a b i k:=by unfold pj;grind
theorem CdV{i k}:qj a b i 0 k=qo a b i k:=by unfold qj;grind
theorem Cir{i j k}(h:k<i+j):pj a b i j k=po a b (i+1) k:=by show _=po a b i k+_;unfold pj;grind
theorem Civ{i j k}(h:k<i+j):qj a b i j k=qo a b (i+1) k:=by show _=qo a b i k+_;unfold qj;grind
theorem Cvw{i j k}(h:po a b i i=0):pj a b i j k=po a b (i+1) k:=by show _=po a b i k+_;unfold pj;grind
theorem Cv6{i j k}(h:po a b i i=0):qj a b i j k=qo a b (i+1) k:=by show _=qo a b i k+_;unfold qj;grind
theorem ByA{i j k}:pj a b i (j+1) k=if k=i+j then po a b i k+if 0<j then bn (one a b j)*po a b i i else 0 else pj a b i j k:=by unfold pj;grind
theorem ByC{i j k}:qj a b i (j+1) k=if k=i+j then qo a b i k+bn (zer a b j)*po a b i i else qj a b i j k:=by unfold qj;grind
end Go.Adw
namespace Go.Proofs
open Go Go.Ev Go.Nm Tryz Go.Ev.Sx
open Go.Proofs.YtahaaiadlgfchaaGreatDoor
attribute [local irreducible] Aa Al Af Ad
variable {h h0:H}{d D n m i j j1 j2 bO bZ bP bQ a b:Nat}{hd:H}
def sc(f:Nat->Nat)(n:Nat):uz:=(List.range n).map λi=>.str (dgn (f i))
theorem A99 f n:(sc f n).length=n:=by unfold sc;simp
theorem A5F{f}{i n}(h:i<n):(sc f n)[i]?=some (.str (dgn (f i))):=by unfold sc;grind
theorem Awa{f g}{n}(h:∀i,i<n->f i=g i):sc f n=sc g n:=by unfold sc;simp_all
theorem Bkw{f}{j n v}:(sc f n).set j (.str (dgn v))=sc (λi=>if i=j then v else f i) n:=by
 refine dg λi=>?_;by_cases hi:i<n
 .rw[A5F hi,O5];by_cases e:j=i;. subst e;rw[Xo rfl,Xo (by rw[A99];omega),Xo rfl]
  .rw[X2 e,A5F hi,X2 λh=>e h.symm]
 .rw[ak (by rw[I8,A99];omega),ak (by rw[A99];omega)]
theorem BwS{C}{ty}{b i}{v}(c:h.m.get b=cd C ty)(hi:i<C.length):A4 1 (.ptr b i) (.str v) (Ab h)=.ok (.Bj []) ((Ab h).put b (cd (C.set i (.str v)) ty)):=by
 have e:Ng C [.str v] i=some (C.set i (.str v)):=by rw[Kh,Xo (by grind),Tz,Xo hi];simp
 simp_all
structure St(h:H)(bO bZ bP bQ a b n i j1 j2:Nat)(hd:H):Prop where
 g:Ai h hd
 lO:h.nx<=bO/\bO<hd.nx
 lZ:h.nx<=bZ/\bZ<hd.nx
 lP:h.nx<=bP/\bP<hd.nx
 lQ:h.nx<=bQ/\bQ<hd.nx
 ne:bO≠bP/\bO≠bQ/\bZ≠bP/\bZ≠bQ/\bP≠bQ
 cO:hd.m.get bO=.cells (bl (Adw.one a b) (n+1)) 4 .exact
 cZ:hd.m.get bZ=.cells (bl (Adw.zer a b) (n+1)) 4 .exact
 cP:hd.m.get bP=.cells (sc (Adw.pj a b i j1) (n+1)) 28 .exact
 cQ:hd.m.get bQ=.cells (sc (Adw.qj a b i j2) (n+1)) 28 .exact
theorem AsC{bb}{cs}{ty}(l:bb<hd.nx)(g:hd.m.get bb=cd cs ty):Nv hd bb cs:=⟨l,_,_,g,trivial⟩
variable {C:Ac}{N n1:Nat}{Q:AV->H->Prop}
theorem ix1{m i}(hi:i<m) b hh:Gc 1 (.sl b 0 m m 1 true) (iI i) hh=.ok (.ptr b i) hh:=by rw[A6n hi,Rx]
theorem adB{q}{i j k:Nat}(c:i+j=k)(h1:k<1000000) hh:Aj prog .add 3 q (iI i) (iI j) hh=.ok (iI k) hh:=by subst c;show OR.ok (iI (E1 _ (i+j))) _=_;rw[lw.2.2 _ om om];rfl
theorem adI{i:Nat}(h1:i<1000000) hh:Aj prog .add 3 true (iI i) (iI 1) hh=.ok (iI (i+1:Nat)) hh:=by show OR.ok (iI (E1 _ (i+1))) _=_;rw[lw.2.2 _ om om];rfl
theorem Ccw(hn:n<=20)(hi:i+j<=n)(p:GP h)(c:∀x y,x<=1048576->y<=1048576->∀h,GP h->C.call 283 [.str (dgn x),.str (dgn y)] h=.ok (.str (dgn (x+y))) h)(n2:Nat)
 (go:∀(hd:H) (f0:L2),St h bO bZ bP bQ a b n i (j+1) (j+1) hd->Ah h Q (Ayp C N n1 n2 (iI (n:Int)) (.sl bO 0 (n+1) (n+1) 1 true) (.sl bZ 0 (n+1) (n+1) 1 true) (.sl bP 0 (n+1) (n+1) 1 true) (.sl bQ 0 (n+1) (n+1) 1 true) (iI (i:Int)) (iI ((j+1:Nat):Int)) (iI ((n+1:Nat):Int)) (iI (i:Int)) f0 hd))
 (hd:H) (f0:L2) (s:St h bO bZ bP bQ a b n i j (j+1) hd):Ah h Q (A4g C N n1 n2 (iI (n:Int)) (.sl bO 0 (n+1) (n+1) 1 true) (.sl bZ 0 (n+1) (n+1) 1 true) (.sl bP 0 (n+1) (n+1) 1 true) (.sl bQ 0 (n+1) (n+1) 1 true) (iI (i:Int)) (iI (j:Int)) (iI ((n+1:Nat):Int)) (iI (i:Int)) f0 hd):=by have p2:2^n<=1048576:=aq (by omega) hn;have b1:=Adw.B7w a b (n:=n) (i:=i) (t:=0) om;have b2:=Adw.B7w a b (n:=n) (i:=i) (t:=j) hi;rw[Vw]at b1;have lO:=(AsC s.lO.2 s.cO).one (BxQ (show j<n+1 by omega));cases l:Adw.one a b j with
 |false=>
  rw[l]at lO;refine Cnf C N n1 n2 (n+1) (λb f=>ix1 om b f) lO (λf=>adI om f) (λf0=>go hd f0 ?_) f0;refine{ s with cP:=?_ };rw[s.cP];refine Jh (λx=>cd x 28) (Awa λk q=>?_);rw[Adw.ByA];split;. next e=>subst e;rw[Adw.CeY,l];simp[Adw.bn]
  rfl
 |true=>
  rw[l]at lO;have j0:0<j:=by
   rcases cu j with rfl|h;. cases l
   omega
  have lP:=(AsC s.lP.2 s.cP).one (A5F (show i<n+1 by omega));have o:=(AsC s.lP.2 s.cP).one (A5F (show i+j<n+1 by omega));rw[Adw.B7u]at lP;rw[Adw.CeY]at o;refine Cnh C N _ _ _ (p.gr s.g) s.lP.2 (λb f=>ix1 om b _) (λb f=>ix1 om b _) (λb f=>ix1 (show i+j<n+1 by omega) b _) lP lO o (λf=>adB rfl om _) (λf=>adI om _) (c _ _ om om) (BwS s.cP (by rw[A99];omega)) (λf0=>go _ _ { g:=s.g.put _ _ s.lP.1,lO:=s.lO,lZ:=s.lZ,lP:=s.lP,lQ:=s.lQ,ne:=s.ne,cO:=(Aq _ _ _ s.ne.1).trans s.cO,cZ:=(Aq _ _ _ s.ne.2.2.1).trans s.cZ,cQ:=(Aq _ _ _ (Ne.symm s.ne.2.2.2.2)).trans s.cQ,cP:=(A2 ..).trans ?_ }) _;rw[Bkw];refine Jh (λx=>AO.cells x ..) (Awa λk q=>?_);rw[Adw.ByA];by_cases e:k=i+j;. subst e;rw[Xo rfl,Xo rfl,Xo j0,l];simp[Adw.bn]
  grind
theorem Cm9(hn:n<=20)(hi:i<=n)(v:GP h)(c:∀x y,x<=1048576->y<=1048576->∀h,GP h->C.call 283 [.str (dgn x),.str (dgn y)] h=.ok (.str (dgn (x+y))) h)
 (go:∀(hd:H) (f0:L2),St h bO bZ bP bQ a b n (i+1) 0 0 hd->Ah h Q (A0w C N n1 (iI (n:Int)) (.sl bO 0 (n+1) (n+1) 1 true) (.sl bZ 0 (n+1) (n+1) 1 true) (.sl bP 0 (n+1) (n+1) 1 true) (.sl bQ 0 (n+1) (n+1) 1 true) (iI ((n+1:Nat):Int)) (iI ((i+1:Nat):Int)) f0 hd)):
 ∀(u j m:Nat) (hd:H) (f0:L2),n+1-i-j=u->i+j<=n+1->u<m->St h bO bZ bP bQ a b n i j j hd ->
 Ah h Q (Ayp C N n1 m (iI (n:Int)) (.sl bO 0 (n+1) (n+1) 1 true) (.sl bZ 0 (n+1) (n+1) 1 true) (.sl bP 0 (n+1) (n+1) 1 true) (.sl bQ 0 (n+1) (n+1) 1 true) (iI (i:Int)) (iI (j:Int)) (iI ((n+1:Nat):Int)) (iI (i:Int)) f0 hd):=by
 have p2:2^n<=1048576:=aq fe hn;intro u;induction u with
 |zero=>
  intro j m hd f0 G hj E s;obtain⟨l,rfl⟩:=mg m;have lP:=(AsC s.lP.2 s.cP).one (A5F (show i<n+1 by omega))
  rw[Adw.B7u]at lP;have e:i+j=n+1:=by omega
  have p:St h bO bZ bP bQ a b n (i+1) 0 0 hd:={ s with cP:=s.cP.trans (Jh (λx=>cd x 28) (Awa λk o=>by rw[Adw.Cir a b om,Adw.Ciq])),cQ:=s.cQ.trans (Jh (λx=>cd x 28) (Awa λk o=>by rw[Adw.Civ a b om,Adw.CdV])) };cases hz:decide (dgn (Adw.po a b i i)=[48])with
  |true=>exact Ce3 C N n1 l (n+1) (λb f=>ix1 om b f) lP hz (λf=>adI om f) (λf0=>go hd f0 p) f0
  |false=>exact Cly C N n1 l (n+1) (k:=((n+1:Nat):Int)) (λb f=>ix1 om b f) lP hz (λf=>adB e om f) df (λf=>adI om f) (λf0=>go hd f0 p) f0
 |succ u F=>
  intro j m hd f0 G hj E s;obtain⟨l,rfl⟩:=mg m;have q:i+j<=n:=by omega
  have b1:=Adw.B7w a b (n:=n) (i:=i) (t:=0) om;have b2:=Adw.Cfb a b (n:=n) (i:=i) (k:=i+j) om q;rw[Vw]at b1;have lP:=(AsC s.lP.2 s.cP).one (A5F (show i<n+1 by omega))
  rw[Adw.B7u]at lP;cases hz:decide (dgn (Adw.po a b i i)=[48])with
  |true=>
   have w:Adw.po a b i i=0:=A9O (n:=Adw.po a b i i) (m:=0) (by show _<1000000000;omega) fe ((az hz).trans fe)
   refine Ce3 C N n1 l (n+1) (λb f=>ix1 om b f) lP hz (λf=>adI om f) (λf0=>go hd f0 { s with cP:=s.cP.trans (Jh (λx=>cd x 28) (Awa λk o=>by rw[Adw.Cvw a b w,Adw.Ciq])),cQ:=s.cQ.trans (Jh (λx=>cd x 28) (Awa λk o=>by rw[Adw.Cv6 a b w,Adw.CdV])) }) f0
  |false=>
   have A:=Ccw (a:=a) (b:=b) (bO:=bO) (bZ:=bZ) (bP:=bP) (bQ:=bQ) (C:=C) (N:=N) (n1:=n1) (Q:=Q) hn q v c l (λhd f0 s=>F (j+1) l hd f0 om om om s);have lZ:=(AsC s.lZ.2 s.cZ).one (BxQ (show j<n+1 by omega))
   cases r:Adw.zer a b j with
   |false=>
    rw[r]at lZ;refine CnN C N n1 l (n+1) (k:=((i+j:Nat):Int)) (λb f=>ix1 om b f) (λb f=>ix1 om b f) lP lZ hz (λf=>adB rfl om f) dt (λf0=>A hd f0 { s with cQ:=s.cQ.trans ?_ }) f0;refine Jh (λx=>cd x 28) (Awa λk o=>?_);rw[Adw.ByC];split
    .next e=>subst e;rw[Adw.Cfa,r];simp[Adw.bn]
    .rfl
   |true=>
    rw[r]at lZ;have B:=(AsC s.lQ.2 s.cQ).one (A5F (show i+j<n+1 by omega))
    rw[Adw.Cfa]at B;refine CnO C N n1 l (n+1) (v.gr s.g) s.lQ.2 (λb f=>ix1 om b f) (λb f=>ix1 om b f) (λb f=>ix1 (show i+j<n+1 by omega) b f) lP lZ B hz (λf=>adB rfl om f) dt (c _ _ om om) (BwS s.cQ (by rw[A99];omega)) (λf0=>A _ f0 ?_) f0
    refine{ g:=s.g.put _ _ s.lQ.1,lO:=s.lO,lZ:=s.lZ,lP:=s.lP,lQ:=s.lQ,ne:=s.ne,cO:=(Aq _ _ _ s.ne.2.1).trans s.cO,cZ:=(Aq _ _ _ s.ne.2.2.2.1).trans s.cZ,cP:=(Aq _ _ _ s.ne.2.2.2.2).trans s.cP,cQ:=(A2 _ _).trans ?_ };rw[Bkw];refine Jh (λx=>cd x 28) (Awa λk o=>?_);rw[Adw.ByC];by_cases e:k=i+j
    .subst e;rw[Xo rfl,Xo rfl,r];simp[Adw.bn]
    .rw[X2 e,X2 e]
def TtR(h:H) a b n(r:AV)(h1:H):=∃b1,r=.sl b1 0 (n+1) (n+1) 1 true/\h.nx<=b1/\b1<h1.nx/\h1.m.get b1=cd (sc (Adw.ttl a b) (n+1)) 28
theorem Cip(hn:n<=20)(e:GP h)(c:∀x y,x<=1048576->y<=1048576->∀h,GP h->C.call 283 [.str (dgn x),.str (dgn y)] h=.ok (.str (dgn (x+y))) h)(r:30<N):
 ∀(u i m:Nat) (hd:H) (f0:L2),n+1-i=u->i<=n+1->u<m->St h bO bZ bP bQ a b n i 0 0 hd ->
 Ah h (TtR h a b n) (A0w C N m (iI (n:Int)) (.sl bO 0 (n+1) (n+1) 1 true) (.sl bZ 0 (n+1) (n+1) 1 true) (.sl bP 0 (n+1) (n+1) 1 true) (.sl bQ 0 (n+1) (n+1) 1 true) (iI (n+1:Nat)) (iI i) f0 hd):=by intro u;induction u with
 |zero=>intro i m hd f0 o hi f s;obtain⟨p,rfl⟩:=mg m;refine ClD C N _ df s.g ⟨_,rfl,s.lQ.1,s.lQ.2,s.cQ.trans (Jh (λx=>AO.cells x ..) (Awa λk q=>?_))⟩ _;rw[Adw.CdV];have:=Adw.Bkc a b (k:=k) (n-k);grind
 |succ u l=>intro i m hd f0 o hi f s;obtain⟨p,rfl⟩:=mg m;exact Cn3 C N _ dt (λf0=>Cm9 hn om e c (λhd f0=>l _ _ _ _ om om om) _ 0 N _ _ rfl om om s) _
variable {k:Nat}{x:Adw.Ad2}
def RpR(h:H) k(r:AV)(h1:H):=∃c,r=.sl c 0 k k 1 true/\h.nx<=c/\c<h1.nx/\h1.m.get c=cd (List.replicate k aS) 28
theorem Cnk{b0}(hb:b0<h.nx)(e:h.m.get b0=cd [aS] 28)(h0:0<k)(f:k<22)(c:GP h):Ah h (RpR h k) ((CX (D+2)).call 282 [.sl b0 0 1 1 1 true,iI k] h):=upX (CwF _ _ (by grind) (λn hn=>lkX (xW t296) (Ay7 hn)) hb e h0 f c)
theorem stS{C}{ty}{b i}{v}(c:h.m.get b=cd C ty)(hi:i<C.length):A4 1 (.ptr b i) (.str v) h=.ok (.Bj []) (h.put b (cd (C.set i (.str v)) ty)):=by
 have e:Ng C [.str v] i=some (C.set i (.str v)):=by rw[Kh,Xo (by grind),Tz,Xo hi];simp
 simp_all
theorem B70:List.replicate k aS=sc (λ_=>0) k:=by unfold sc;rw[List.map_const',List.length_range];rfl
theorem Cvp(hx:Adw.Fr x)(Y:x.1<x.2)(h0:0<x.1)(W:x.2<500000000)(hn:n<=20)(r:GP h):Ah h (TtR h x.1 x.2 n) ((CX (D+3)).call 281 [.str (ftx x),iI (n:Int)] h):=upX (q:=false) (by
 rw[CsC];have BvB:=Cvr (D:=D) (h:=h) hx Y h0 W hn r;have BlL:=λb0 c (p:GP c) l g=>Cnk (D:=D) (h:=c) (b0:=b0) (k:=n+1) l g om om p;have B8l:∀a b,a<=1048576->b<=1048576->∀h,GP h->(CX (D+2)).call 283 [.str (dgn a),.str (dgn b)] h=.ok (.str (dgn (a+b))) h:=λa b ha hb=>lkX (d:=D+1) (xW t283) (A0S (n:=a) (m:=b) (show a<1000000000 by omega) (show b<1000000000 by omega) (show a+b<1000000000 by omega))
 have ad:∀c:H,Aj prog .add 3 true (iI (n:Int)) (iI 1) c=.ok (iI ((n+1:Nat):Int)) c:=λc=>adI om c;have t:=λbO bZ bP bQ hd f0=>Cip (h:=h) (a:=x.1) (b:=x.2) (bO:=bO) (bZ:=bZ) (bP:=bP) (bQ:=bQ) (C:=CX (D+2)) (N:=N0x) hn r B8l fe (n+1) 0 N0x hd f0 rfl om (Ql (J2 hn) fe);have ia:∀(b:Nat) (c:H),Gc 1 (.sl b 0 (n+1) (n+1) 1 true) (iI 0) c=.ok (.ptr b 0) c:=λb c=>ix1 (i:=0) om b c;replace t:=(hU t)
 replace BlL:=(hU BlL)
 generalize CX (D+2)=C at *
 refine Fj BvB λv1 h1 e1 l1 w V=>?_;obtain⟨b1,b2,rfl,O,k2,G,M,I,K⟩:=V;have P:=r.gr e1;generalize hz:((n+1:Nat):Int)=zi at *
 refine we ?_;have A:Ai h (h1.new (cd [.str [48]] 28)):=Ex;refine Fj ((gw BlL) _ _ (r.gr A) (Y3 _) (Bf _)) λv2 h2 J l2 o q2=>?_
 obtain⟨s,rfl,T,k8,F⟩:=q2;have g2:Ai h h2:=A.trans J;have p1:h2.m.get b1=cd (bl (Adw.one x.1 x.2) (n+1)) 4:=(o _ (Sa G)).trans ((Cq _ _ (Lb G)).trans I);have p2:h2.m.get b2=cd (bl (Adw.zer x.1 x.2) (n+1)) 4:=(o _ (Sa M)).trans ((Cq _ _ (Lb M)).trans K);simp only[C9]at l2 T;clear o A I K w;refine we ?_;have u:Ai h (h2.new (cd [.str [48]] 28)):=Ex;refine Fj ((gw BlL) _ _ (r.gr u) (Y3 _) (Bf _)) λv3 f L l3 e X=>?_
 obtain⟨b4,rfl,m1,R,E⟩:=X;have g3:Ai h f:=u.trans L;simp only[C9]at l3 m1;have S:f.m.get b1=cd (bl (Adw.one x.1 x.2) (n+1)) 4:=(e _ mh).trans ((Cq _ _ om).trans p1);have r2:f.m.get b2=cd (bl (Adw.zer x.1 x.2) (n+1)) 4:=(e _ mh).trans ((Cq _ _ om).trans p2);have B:f.m.get s=cd (List.replicate (n+1) aS) 28:=(e _ mh).trans ((Cq _ _ om).trans F);rw[B70]at B E;have st:=stS (h:=f) (i:=0) (v:=dgn 1) B (by rw[A99];omega);rw[Bkw,show dgn 1=[49]from by decide]at st
 clear e u p1 p2 F BlL BvB e1 J L;have ln:∀c:H,Fo (.sl s 0 (n+1) (n+1) 1 true) c=.ok (iI ((n+1:Nat):Int)) c:=λc=>rfl;rw[hz]at ln;refine we ?_;refine(gw t) b1 b2 s b4 _ _ ?_
 refine{ g:=g3.put _ _ om,lO:=⟨O,by show b1<f.nx;omega⟩,lZ:=⟨k2,by show b2<f.nx;omega⟩,lP:=⟨by omega,by show s<f.nx;omega⟩,lQ:=⟨by omega,R⟩,ne:=⟨by omega,by omega,by omega,by omega,by omega⟩,cO:=(Aq _ _ _ om).trans S,cZ:=(Aq _ _ _ om).trans r2,cQ:=(Aq _ _ _ om).trans (E.trans ?_),cP:=(A2 _ _).trans ?_ }
 .exact Jh (λx=>cd x 28) (Awa λk U=>by rw[Adw.Ciq];rfl)
 .exact Jh (λx=>cd x 28) (Awa λk U=>by rw[Adw.CdV];rfl))
theorem CnA(C:Ac)(N n1 n2 m:Nat){hd:H}{Q:AV->H->Prop}{bT bS l pj e:Nat}{i j j2 k n ln:Int}{s1 s2 f g q:uw}{o:AO}(p:GP hd)(r:bS<hd.nx)
 (ia:∀(b:Nat) (c:H),Gc 1 (.sl b 0 m m 1 true) (iI i) c=.ok (.ptr b l) c) (ja:∀(b:Nat) (c:H),Gc 1 (.sl b 0 m m 1 true) (iI j) c=.ok (.ptr b pj) c) (ka:∀(b:Nat) (c:H),Gc 1 (.sl b 0 m m 1 true) (iI k) c=.ok (.ptr b e) c)
 (l1:∀c,Bi hd c->Ae (some none) (.ptr bT l) c=.ok (.str s1) c) (l2:∀c,Bi hd c->Ae (some none) (.ptr bT pj) c=.ok (.str s2) c) (l3:∀c,Bi hd c->Ae (some none) (.ptr bS e) c=.ok (.str f) c)
 (ad:∀c:H,Aj prog .add 3 false (iI i) (iI j) c=.ok (iI k) c) (le:decide (k<=n)=true) (ad1:∀c:H,Aj prog .add 3 true (iI j) (iI 1) c=.ok (iI j2) c) (c1:∀h,GP h->C.call 284 [.str s1,.str s2] h=.ok (.str g) h) (c2:∀h,GP h->C.call 283 [.str f,.str g] h=.ok (.str q) h) (st:A4 1 (.ptr bS e) (.str q) (Ab hd)=.ok (.Bj []) ((Ab hd).put bS o))
 (go:∀f0,Ah h Q (A48 C N n1 n2 (iI n) (.sl bT 0 m m 1 true) (.sl bS 0 m m 1 true) (iI i) (iI j2) (iI ln) (iI i) f0 (hd.put bS o))) (f0:L2):
 Ah h Q (A48 C N n1 (n2+1) (iI n) (.sl bT 0 m m 1 true) (.sl bS 0 m m 1 true) (iI i) (iI j) (iI ln) (iI i) f0 hd):=by
 replace go:=(hU go)
 rw[Bxz];refine we ?_;exact(gw go) _
theorem Cn8(C:Ac)(N n1 n2 m:Nat){hd:H}{Q:AV->H->Prop}{bT bS:Nat}{i i2 j k n ln:Int}
 (ad:∀c:H,Aj prog .add 3 false (iI i) (iI j) c=.ok (iI k) c) (le:decide (k<=n)=false) (ad1:∀c:H,Aj prog .add 3 true (iI i) (iI 1) c=.ok (iI i2) c)
 (go:∀f0,Ah h Q (A4u C N n1 (iI n) (.sl bT 0 m m 1 true) (.sl bS 0 m m 1 true) (iI ln) (iI i2) f0 hd)) (f0:L2):
 Ah h Q (A48 C N n1 (n2+1) (iI n) (.sl bT 0 m m 1 true) (.sl bS 0 m m 1 true) (iI i) (iI j) (iI ln) (iI i) f0 hd):=by
 replace go:=(hU go)
 rw[Bxz];refine we ?_;exact(gw go) _
theorem CnC(C:Ac)(N n1:Nat){hd:H}{Q:AV->H->Prop}{u v:AV}{i n ln:Int}(k:decide (i<ln)=true)
 (go:∀f0,Ah h Q (A48 C N n1 N (iI n) u v (iI i) (iI 0) (iI ln) (iI i) f0 hd)) (f0:L2):
 Ah h Q (A4u C N (n1+1) (iI n) u v (iI ln) (iI i) f0 hd):=by
 replace go:=(hU go)
 rw[Bxy];refine we ?_;exact(gw go) _
theorem Cn9(C:Ac)(N n1:Nat){hd:H}{Q:AV->H->Prop}{u v:AV}{i n ln:Int}(k:decide (i<ln)=false)
 (go:∀f0,Ah h Q (A6Z C N (iI n) v f0 hd)) (f0:L2):
 Ah h Q (A4u C N (n1+1) (iI n) u v (iI ln) (iI i) f0 hd):=by
 replace go:=(hU go)
 rw[Bxy];refine we ?_;exact(gw go) _
theorem CnB(C:Ac)(N m:Nat){hd:H}{Q:AV->H->Prop}{b:Nat}{n:Int}{s:uw}(p:GP hd)(c:∀h,GP h->C.call 285 [iI n] h=.ok (.str s) h)
 (go:∀f0,Ah h Q (A4D C N N (iI n) (.str s) (.sl b 0 m m 1 true) (iI (m:Int)) (iI 0) f0 hd)) (f0:L2):
 Ah h Q (A6Z C N (iI n) (.sl b 0 m m 1 true) f0 hd):=by
 replace go:=(hU go)
 have ln:∀e:H,Fo (.sl b 0 m m 1 true) e=.ok (iI (m:Int)) e:=λe=>rfl;rw[Ca4];refine we ?_;exact(gw go) _
theorem Cn6(C:Ac)(N n3 m:Nat){hd:H}{Q:AV->H->Prop}{b g:Nat}{n i i2 e:Int}{s t s1 s2 f:uw}{ln:Int}(p:GP hd)(k:decide (i<ln)=true)
 (ia:∀(b:Nat) (c:H),Gc 1 (.sl b 0 m m 1 true) (iI i) c=.ok (.ptr b g) c) (l1:∀c,Bi hd c->Ae (some none) (.ptr b g) c=.ok (.str s1) c) (sb:∀c:H,Aj prog .sub 3 false (iI n) (iI i) c=.ok (iI e) c) (ad1:∀c:H,Aj prog .add 3 true (iI i) (iI 1) c=.ok (iI i2) c)
 (c1:∀h,GP h->C.call 285 [iI e] h=.ok (.str s2) h) (c2:∀h,GP h->C.call 284 [.str s1,.str s2] h=.ok (.str f) h) (c3:∀h,GP h->C.call 286 [.str s,.str f] h=.ok (.Bj [.str t,iI 0]) h)
 (go:∀f0,Ah h Q (A4D C N n3 (iI n) (.str t) (.sl b 0 m m 1 true) (iI ln) (iI i2) f0 hd)) (f0:L2):
 Ah h Q (A4D C N (n3+1) (iI n) (.str s) (.sl b 0 m m 1 true) (iI ln) (iI i) f0 hd):=by
 replace go:=(hU go)
 rw[Bx0];refine we ?_;exact(gw go) _
theorem ClC(C:Ac)(N n3:Nat){hd:H}{Q:AV->H->Prop}{u:AV}{n i ln:Int}{s s1:uw}{v:AV}(p:GP hd)(k:decide (i<ln)=false)(g:Ai h hd)
 (c1:∀h,GP h->C.call 285 [iI n] h=.ok (.str s1) h) (c2:∀h,GP h->C.call 287 [.str s,.str s1] h=.ok (.Bj [v,iI 0]) h) (q:Q (.Bj [v,iI 0]) hd) (f0:L2):
 Ah h Q (A4D C N (n3+1) (iI n) (.str s) u (iI ln) (iI i) f0 hd):=by
 replace q:=(hU q)
 rw[Bx0];refine we ?_;exact zr g q
end Go.Proofs

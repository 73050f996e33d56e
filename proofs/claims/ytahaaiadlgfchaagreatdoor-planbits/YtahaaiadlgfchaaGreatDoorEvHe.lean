/- Limbs -/
import Derived.Test.YtahaaiadlgfchaaGreatDoorEvHd
set_option linter.all false
set_option maxRecDepth 100000
noncomputable section
namespace Go.Proofs
open Go Go.Ev Tryz Go.Ev.Sx
open Go.Nm
attribute [local irreducible] Aa Al Af Ad
variable (Z cx cr:Ac)(N:Nat)
variable {h h0 h1 h2 hd:H}{s:uw}{v w:AV}{b c l:Nat}{ls:uw}{bs:uw}
def gv0{Q R}{r}{K}(f:Ah H0 R r)(g:∀v h1,R v h1->Ah h Q (K v h1)):Ah h Q (Aa r K):=by have⟨v,_,e,_,q⟩:=f;simp[*]
def B5L P(e:P=prog):Tw P 93=some ⟨134,1,8⟩/\I1 P 134=some [cm 0]:=by subst e;exact⟨rfl,rfl⟩
def BsB:∀n,Ade [cm 0] n=(List.replicate n 0).flatMap Abb
|0=>rfl
|n+1=>by show AV.int _ 0::Ade _ n=_;rw[BsB n];rfl
def Ayl(n:Nat)(hn:n<=100000) hh:A3d prog 93 (iI n) (iI n) hh=.ok (.sl hh.nx 0 n n 1 true) (hh.new (cd ((List.replicate n 0).flatMap Abb) 134)):=by have⟨u1,u2⟩:=B5L _ rfl;unfold A3d;simp only[u1,u2,show Arm (iI n)=some n from rfl];rw[show Nat.ble n n=true by simp,show Gj _=true by rw[Fi];grind,BsB];rfl
def BfA{cap}{ps}{e bd}{fr}{E}:rgX prog Z (.fn (.func 159) [] cap) ps e bd fr E h=Aa (Z.call 159 (.fn (.yield (h.nx+1)) [] []::cap) ((h.new (.dfr false)).new (.loop 0 none fr ps e bd))) λ_ h1=>AyT (h.nx+1) E h1:=rfl
def Bl4:=∀v ls d h,NtS h v ls->ls.length<=10->(∀x∈ls,x<1000000000)->0<d->d<=1000000000 ->
 Ah h (λr h1=>∃q,r=.Bj [q,cm (qr d ls).2]/\NtS h1 q (AxV (qr d ls).1)) (Z.call 199 [v,cm d] h)
def BhJ(cr:Ac):=∀v ls l hd u z y A j q p t o (g f bO bQ e d r x i k:Nat) Q,
 hd.m.get l=.loop 0 none (AjN u z (.ptr g 0) (.ptr f 0) y A (.ptr bO 0) (.ptr e 0) j q p t o) [15,16] Aa4 AaL ->
 Nv hd g [v]->NtS hd v ls->ls[i]?=some x->hd.m.get f=cd [cm d] 134->hd.m.get bO=cd [.sl bQ 0 k k 1 true] 93->hd.m.get bQ=cd Q 134->Q.length=k->i<k->hd.m.get e=cd [cm r] 134 ->
 r<d->0<d->d<=1000000000->x<1000000000 ->
 g<hd.nx/\f<hd.nx/\bO<hd.nx/\bQ<hd.nx/\e<hd.nx/\l<hd.nx->bQ≠e/\bQ≠l/\e≠l/\g≠l/\f≠l/\bO≠l/\f≠bQ/\f≠e/\bO≠bQ/\bO≠e ->
 Ah H0 (λB h'=>B=ux/\PS [bQ,e,l] hd h'/\h'.m.get bQ=cd (Q.set i (cm ((r*1000000000+x)/d:Nat))) 134/\h'.m.get e=cd [cm ((r*1000000000+x)%d:Nat)] 134/\h'.m.get l=hd.m.get l)
  (cr.round l [iI i,cm x] hd)
def Beh d:∀ls,(qr d ls).1.length=ls.length
|[]=>rfl
|x::l=>Jh (·+1) (Beh d l)
def Bs8{d}(h:0<d):∀ls,(qr d ls).2<d
|[]=>h
|x::l=>Rl _ h
def Bj3{d}(h:0<d):∀ls,(∀x∈ls,x<1000000000)->∀x∈(qr d ls).1,x<1000000000
|[],_,x,e=>by cases e
|a::l,f,x,e=>by
 rcases Wf.1 e with rfl|e;. have h1:=Bs8 h l;have h2:=f a Wm ..;rw[Nat.div_lt_iff_lt_mul h];grind
 .exact Bj3 h l (λx e=>f x (Wr _ e)) x e
def Biq:∀(ls:List _) (i x:Nat),(ls.flatMap Abb).set i (cm x)=(ls.set i x).flatMap Abb
|[],i,x=>rfl
|a::ls,0,x=>rfl
|a::ls,i+1,x=>by show AV.int ..::(ls.flatMap _).set i _=_;rw[Biq _ i x];rfl
def BnK i x qs:(List.replicate (i+1) 0++qs).set i x=List.replicate i 0++x::qs:=by rw[List.replicate_succ',Wq,List.set_append_right _ _ (by simp)];simp
def Ccl(X:BfL Z)(M:BfM Z cr)(W4:BhJ cr)(W:BcD Z){d:Nat}(k:NtS h v ls)(hl:ls.length<=10)(u:∀x∈ls,x<1000000000)(y:0<d)(K:d<=1000000000):
 Ah h (λr h1=>∃q,r=.Bj [q,cm ((qr d ls).2:Int)]/\NtS h1 q (AxV (qr d ls).1)) (ml Z N 199 [v,cm (d:Int)] h):=by
 have hln:=λf=>Sl.Gs (h:=h) (h1:=f) k;have mkS:=λf=>Ayl ls.length om f;have bx:=λf=>A0u k 93 f;have bi:=λ(f:H)=>BjO (h:=f) 134 .u64 (d:Int);have A:=λf (g:Ai h f)=>k.gr g;rw[B8Y];refine wk ?_;refine Fj (X v ls _ (A _ Ex)) λv11 Kc Q R A0e q11=>?_;obtain⟨rfl,rfl⟩:=q11;rw[BfA];clear Q R A0e hln mkS bx bi;have gA:Ai h (((((((h.new (cd [v] 93)).new (cd [cm (d:Int)] 134)).new (cd ((List.replicate ls.length 0).flatMap Abb) 134)).new (cd [.Bv] 93)).new (cd [cm 0] 134)).put (h.nx+1+1+1) (cd [.sl (h.nx+1+1) 0 ls.length ls.length 1 true] 93)).put (h.nx+1+1+1+1) (cd [cm 0] 134)):=Ex;have nA:(((((((h.new (cd [v] 93)).new (cd [cm (d:Int)] 134)).new (cd ((List.replicate ls.length 0).flatMap Abb) 134)).new (cd [.Bv] 93)).new (cd [cm 0] 134)).put (h.nx+1+1+1) (cd [.sl (h.nx+1+1) 0 ls.length ls.length 1 true] 93)).put (h.nx+1+1+1+1) (cd [cm 0] 134)).nx=h.nx+1+1+1+1+1:=rfl;have aA:(((((((h.new (cd [v] 93)).new (cd [cm (d:Int)] 134)).new (cd ((List.replicate ls.length 0).flatMap Abb) 134)).new (cd [.Bv] 93)).new (cd [cm 0] 134)).put (h.nx+1+1+1) (cd [.sl (h.nx+1+1) 0 ls.length ls.length 1 true] 93)).put (h.nx+1+1+1+1) (cd [cm 0] 134)).m.get h.nx=cd [v] 93:=by simp(disch:=first|exact Ce|fail)
 have aD:(((((((h.new (cd [v] 93)).new (cd [cm (d:Int)] 134)).new (cd ((List.replicate ls.length 0).flatMap Abb) 134)).new (cd [.Bv] 93)).new (cd [cm 0] 134)).put (h.nx+1+1+1) (cd [.sl (h.nx+1+1) 0 ls.length ls.length 1 true] 93)).put (h.nx+1+1+1+1) (cd [cm 0] 134)).m.get (h.nx+1)=cd [cm (d:Int)] 134:=by simp(disch:=first|exact Ce|fail)
 have aQ:(((((((h.new (cd [v] 93)).new (cd [cm (d:Int)] 134)).new (cd ((List.replicate ls.length 0).flatMap Abb) 134)).new (cd [.Bv] 93)).new (cd [cm 0] 134)).put (h.nx+1+1+1) (cd [.sl (h.nx+1+1) 0 ls.length ls.length 1 true] 93)).put (h.nx+1+1+1+1) (cd [cm 0] 134)).m.get (h.nx+1+1)=cd ((List.replicate ls.length 0).flatMap Abb) 134:=by simp(disch:=first|exact Ce|fail)
 have aO:(((((((h.new (cd [v] 93)).new (cd [cm (d:Int)] 134)).new (cd ((List.replicate ls.length 0).flatMap Abb) 134)).new (cd [.Bv] 93)).new (cd [cm 0] 134)).put (h.nx+1+1+1) (cd [.sl (h.nx+1+1) 0 ls.length ls.length 1 true] 93)).put (h.nx+1+1+1+1) (cd [cm 0] 134)).m.get (h.nx+1+1+1)=cd [.sl (h.nx+1+1) 0 ls.length ls.length 1 true] 93:=by rw[Aq _ _ _ om];exact A2 _ _
 have aR:(((((((h.new (cd [v] 93)).new (cd [cm (d:Int)] 134)).new (cd ((List.replicate ls.length 0).flatMap Abb) 134)).new (cd [.Bv] 93)).new (cd [cm 0] 134)).put (h.nx+1+1+1) (cd [.sl (h.nx+1+1) 0 ls.length ls.length 1 true] 93)).put (h.nx+1+1+1+1) (cd [cm 0] 134)).m.get (h.nx+1+1+1+1)=cd [cm 0] 134:=A2 _ _;generalize (((((((h.new (cd [v] 93)).new (cd [cm (d:Int)] 134)).new (cd ((List.replicate ls.length 0).flatMap Abb) 134)).new (cd [.Bv] 93)).new (cd [cm 0] 134)).put (h.nx+1+1+1) (cd [.sl (h.nx+1+1) 0 ls.length ls.length 1 true] 93)).put (h.nx+1+1+1+1) (cd [cm 0] 134))=hA at *
 obtain⟨j,E⟩:∃F,F=(AjN v (cm (d:Int)) (.ptr h.nx 0) (.ptr (h.nx+1) 0) .Bv (cm 0) (.ptr (h.nx+1+1+1) 0) (.ptr (h.nx+1+1+1+1) 0) v (iI ls.length) (.sl (h.nx+1+1) 0 ls.length ls.length 1 true) v (.fn (.func 159) [] [.ptr hA.nx 0])):=⟨_,rfl⟩;have nB:(((hA.new (cd [v] 93)).new (.dfr false)).new (.loop 0 none j [15,16] Aa4 AaL)).nx=hA.nx+3:=rfl;have B:Ai hA (((hA.new (cd [v] 93)).new (.dfr false)).new (.loop 0 none j [15,16] Aa4 AaL)):=(((Ai.refl hA).new _).new _).new _;have S:(((hA.new (cd [v] 93)).new (.dfr false)).new (.loop 0 none j [15,16] Aa4 AaL)).m.get hA.nx=cd [v] 93:=by rw[Cq _ _ mh,Cq _ _ mh];exact Bf _
 have bF:(((hA.new (cd [v] 93)).new (.dfr false)).new (.loop 0 none j [15,16] Aa4 AaL)).m.get (hA.nx+1)=.dfr false:=by rw[Cq _ _ mh];exact Bf (h:=hA.new _) _
 have bL:(((hA.new (cd [v] 93)).new (.dfr false)).new (.loop 0 none j [15,16] Aa4 AaL)).m.get (hA.nx+2)=.loop 0 none j [15,16] Aa4 AaL:=Bf (h:=(hA.new _).new _) _;change Ah h _ (Aa (Z.call 159 [.fn (.yield (hA.nx+2)) [] [],.ptr hA.nx 0] (((hA.new (cd [v] 93)).new (.dfr false)).new (.loop 0 none (AjN v (cm (d:Int)) (.ptr h.nx 0) (.ptr (h.nx+1) 0) .Bv (cm 0) (.ptr (h.nx+1+1+1) 0) (.ptr (h.nx+1+1+1+1) 0) v (iI ls.length) (.sl (h.nx+1+1) 0 ls.length ls.length 1 true) v (.fn (.func 159) [] [.ptr hA.nx 0])) [15,16] Aa4 AaL))) λ_ h1=>AyT (hA.nx+2) _ h1);rw[<- E];have bA:=(B.Cf h.nx om).trans aA;have bD:=(B.Cf (h.nx+1) om).trans aD;have bQ:=(B.Cf (h.nx+1+1) om).trans aQ;have bO:=(B.Cf (h.nx+1+1+1) om).trans aO;have bR:=(B.Cf (h.nx+1+1+1+1) om).trans aR;have p:=gA.trans B;generalize (((hA.new (cd [v] 93)).new (.dfr false)).new (.loop 0 none j [15,16] Aa4 AaL))=hB at *
 have kB:=A hB p;refine gv0 (M ls v hA.nx (hA.nx+2) (λi f=>PS [h.nx+1+1,h.nx+1+1+1+1,hA.nx+2] hB f/\f.m.get (h.nx+1+1)=cd ((List.replicate i 0++(qr d (ls.drop i)).1).flatMap Abb) 134/\f.m.get (h.nx+1+1+1+1)=cd [cm ((qr d (ls.drop i)).2:Int)] 134/\f.m.get (hA.nx+2)=.loop 0 none j [15,16] Aa4 AaL) (λ_=>False) hB hl ?g1 ?g2 ?g3 ⟨⟨by omega,_,_,S,trivial⟩,A hB p⟩) ?main;case g1=>rintro i f ⟨p1,p2,p3,p4⟩;exact⟨p1.cont S om (by simp;omega),A f (PS.toG p (by simp;omega) p1)⟩
 case g2=>
  rintro i x f t ⟨p1,p2,p3,p4⟩;have O:i<ls.length:=(Xh.1 t).1;have P:ls.drop i=x::ls.drop (i+1):=by rw[Pr O,(Xh.1 t).2]
  have Kf:=p1.lo;have hr:=W4 v ls (hA.nx+2) f v (cm (d:Int)) .Bv (cm 0) v (iI ls.length) (.sl (h.nx+1+1) 0 ls.length ls.length 1 true) v (.fn (.func 159) [] [.ptr hA.nx 0]) h.nx (h.nx+1) (h.nx+1+1+1) (h.nx+1+1) (h.nx+1+1+1+1) d (qr d (ls.drop (i+1))).2 x i ls.length _
   (by rw[p4,E]) (p1.cont bA om (by simp;omega)) (A f (PS.toG p (by simp;omega) p1)) t ((p1.Cf _ om (by simp;omega)).trans bD) ((p1.Cf _ om (by simp;omega)).trans bO) p2 (by rw[Bd5,Xi,Lx,Beh,bg];omega) O p3 (Bs8 y _) y K (u x (Vl t)) om om
  refine hr.mono ?_;rintro r h' _ ⟨rfl,q1,q2,q3,q4⟩;refine .inl ⟨rfl,p1.trans q1,?_,?_,q4.trans p4⟩
  .rw[q2,Biq,BnK,P];rfl
  .rw[q3,P];rfl
 case g3=>
  refine⟨PS.refl _ _,?_,?_,bL⟩
  .rw[Re];exact bQ.trans (by rw[show(qr d []).1=[]from rfl,F0])
  .rw[Re];exact bR
 rintro v5 z ⟨_,I⟩;rcases I with⟨p1,p2,p3,p4⟩|I
 rotate_left
 .exact I.elim
 have Kf:=p1.lo;have g5:=PS.toG p (by simp;omega) p1;have f5:=(p1.Cf (hA.nx+1) om (by simp;omega)).trans bF;have o5:=(p1.Cf (h.nx+1+1+1) om (by simp;omega)).trans bO;rw[Cp,List.replicate_zero,T3]at p2;rw[Cp]at p3;have G:(qr d ls).1.length=ls.length:=Beh d ls;have hqd:=Bj3 y ls u;clear W4 kB A bA bD bQ bO bR S bF bL E M B p aA aD aQ aO aR u y K;rw[Biw p4,Bbk];have J:Ai h (z.put (hA.nx+2) (.loop 3 none j [15,16] Aa4 AaL)):=g5.put _ _ om;have f6:=(Aq (h:=z) (hA.nx+2) (.loop 3 none j [15,16] Aa4 AaL) (hA.nx+1) om).trans f5;have o6:=(Aq (h:=z) (hA.nx+2) (.loop 3 none j [15,16] Aa4 AaL) (h.nx+1+1+1) om).trans o5;have I:=(Aq (h:=z) (hA.nx+2) (.loop 3 none j [15,16] Aa4 AaL) (h.nx+1+1) om).trans p2;have r6:=(Aq (h:=z) (hA.nx+2) (.loop 3 none j [15,16] Aa4 AaL) (h.nx+1+1+1+1) om).trans p3;have n6:(z.put (hA.nx+2) (.loop 3 none j [15,16] Aa4 AaL)).nx=z.nx:=rfl;generalize (z.put (hA.nx+2) (.loop 3 none j [15,16] Aa4 AaL))=h6 at *
 have kq:NtS h6 (.sl (h.nx+1+1) 0 ls.length ls.length 1 true) (qr d ls).1:=by show Sl 1 h6 _ (qr d ls).1.length _;rw[G];exact .inr ⟨_,_,_,_,_,rfl,Ye _,⟨by omega,_,_,I,trivial⟩,by rw[Bd5,G];omega,by rw[Cp,R4 (by rw[Bd5,G];omega)]⟩
 have c1:Nv h6 (h.nx+1+1+1) [.sl (h.nx+1+1) 0 ls.length ls.length 1 true]:=⟨by omega,_,_,o6,trivial⟩;have xo:=c1.one (o:=0) rfl;have B4a:=λf (g:Ai h6 f)=>W _ _ f (kq.gr g) om (λx u=>by have:=hqd x u;omega);clear p1 p2 p3 p4 g5 f5 o5 I o6 kq c1;generalize (qr d ls).2=rm at *;generalize (qr d ls).1=qs at *;refine wk ?_;have g0:Ai h6 (Ab (Ab h6)):=(Ai.refl h6).nl.nl;refine zc2 (B4a _ g0) λEr L e14 U D V=>?_;have r14:=(D _ (by show h.nx+1+1+1+1<h6.nx;omega)).trans r6;have T:=(D _ (by show hA.nx+1<h6.nx;omega)).trans f6;have Y:h6.nx<=L.nx:=U;have c2:Nv L (h.nx+1+1+1+1) [cm (rm:Int)]:=⟨by omega,_,_,r14,trivial⟩;have xr:=c2.one (o:=0) rfl;have g14:Ai h L:=⟨Xy J.lo Y,λx u=>(e14.Cf x (by show x<h6.nx;have:=J.lo;omega)).trans (J.Cf x u),λx u=>by
  rcases e14.lg x u with h3|h3;. cases h3
  .exact .inr (Xy J.lo h3)⟩;clear D c2;refine wk ?_;have C:(Be h6.lg (Ab (Ab L))).m.get (hA.nx+1)=.dfr false:=T;refine(show Ah h _ (dfE (hA.nx+1) (λMa=>OR.ok (AV.Bj [Er,AV.int .u64 (rm:Int)]) Ma) _)from ?_);rw[BqJ C];exact Lo ((Ai.Be g14.nl.nl J).put _ _ om) ⟨Er,rfl,AtV (h:=Be h6.lg (Ab (Ab L))) (Sl.By V.1 (Ao6 rfl rfl)) (λcs e A f=>by rw[C]at f;cases f) (λst f=>by rw[C]at f;cases f)⟩
variable {F:AO}
def A6m{p}{fr}{ps}{e bd}{E}(f:h.m.get l=.loop 2 p fr ps e bd):AyT l E h=E p (h.put l (.loop 3 p fr ps e bd)):=by unfold AyT;rw[f];rfl
def A6c{n r}{j}:Big (some .ret) n r j h=r h:=rfl
variable {v2:AV}{l2:uw}
def AkG{h}{b}{e}{x}(f:h.m.get b=cd [x] e):Vk [.c (some none) (.ptr b 0)] h=.ok x h:=by
 have h1:h.rd b=some [x]:=by rw[AaS,f];rfl
 have h2:AyY (some none) (.ptr b 0) h=some x:=by show(match h.rd b with|some c=>Tn _ c 0|none=>none)=some x;simp[*]
 show(match match AyY _ _ h,some _ with|some v,some l=>some (v::l)|_,_=>none with|some l=>OR.ok _ h|none=>.bad _)=_;rw[h2];rfl
def lcE:uw->uw->Int
|x::f,y::e=>if lcE f e≠0 then lcE f e else Aoq x y
|_,_=>0
def lcN la lb:=if la.length≠lb.length then Aoq la.length lb.length else lcE la lb
def BaZ:∀i e f,lcE (e.drop i) (f.drop i)≠0->lcE e f=lcE (e.drop i) (f.drop i)
|0,e,f,_=>rfl
|i+1,[],f,h=>absurd rfl h
|i+1,x::e,[],h=>absurd (by cases(x::e).drop _<;>rfl) h
|i+1,x::e,y::f,h=>by have g:=BaZ i _ _ h;show(if lcE ..≠0 then lcE .. else Aoq x y)=lcE ..;grind
def BhH(cr:Ac):=∀v v2 ls l2 l hd p u r q A t f j g B (k o e x y i:Nat),
 hd.m.get l=.loop 0 none (AiV p u (.ptr k 0) (.ptr o 0) (.ptr e 0) r q A t f j g) [18,19] Aay AaG ->
 Nv hd k [v]->Nv hd o [v2]->NtS hd v ls->NtS hd v2 l2->ls[i]?=some x->l2[i]?=some y->hd.m.get e=cd [iI 0] 3 ->
 e<hd.nx/\l<hd.nx->e≠l/\k≠l/\o≠l ->
 Ah H0 (λz h'=>x=y/\z=ux/\PS [e,l] hd h'/\h'.m.get e=cd [iI 0] 3/\h'.m.get l=hd.m.get l\/x≠y/\z=ct/\PS [e,l] hd h'/\h'.m.get e=cd [iI (Aoq x y)] 3/\h'.m.get l=.loop 2 (some .ret) (AiV p u (.ptr k 0) (.ptr o 0) (.ptr e 0) r q A t f j g) [18,19] Aay AaG)
  (cr.round l [iI i,B] hd)
def Bl3:=∀v v2 ls l2 h,NtS h v ls->NtS h v2 l2->ls.length<=10->Ah h (λr h1=>r=iI (lcN ls l2)) (Z.call 88 [v,v2] h)
def CbS(Q:B07 Z)(W:BfL Z)(X:BfM Z cr)(W4:BhH cr)(k:NtS h v ls)(K:NtS h v2 l2)(hl:ls.length<=10):
 Ah h (λr h1=>r=iI (lcN ls l2)) (ml Z N 88 [v,v2] h):=by
 have I:=λf=>Sl.Gs (h:=h) (h1:=f) k;have C:=λf=>Sl.Gs (h:=h) (h1:=f) K;have bx:=λf=>A0u k 93 f;have O:=λf=>A0u K 93 f;have B:=λf (g:Ai h f)=>k.gr g;have A:=λf (g:Ai h f)=>K.gr g;have q:=Q (ls.length:Int) (l2.length:Int);unfold lcN;rw[B8C];by_cases S:ls.length=l2.length;rotate_left
 .rw[Xo S];have w1:∀f:H,Aj prog .neq 3 false (iI (ls.length:Int)) (iI (l2.length:Int)) f=.ok ux f:=λf=>by show OR.ok (.bool (Ib (ieq (ls.length:Int) (l2.length:Int)))) _=_;rw[X7,Yg om];rfl
  obtain⟨L,V⟩:∃L:Int,L=(ls.length:Int):=⟨_,rfl⟩;obtain⟨L2,u⟩:∃L:Int,L=(l2.length:Int):=⟨_,rfl⟩;rw[<- V,<- u]at w1 q ⊢;rw[<- V]at I;rw[<- u]at C;clear V u S hl k K B A;refine wk ?_;refine Fj (q _) λv1 h1 e1 l1 G D=>?_;subst D;simp only[C9]at l1;have g4:h1.m.get (h.nx+1+1)=cd [iI 0] 3:=(G _ mh).trans (Bf (h:=(h.new _).new _) _);clear G;refine wk ?_;rw[AkG (A2 _ _)];exact zr Ex rfl
 rw[X2 (by simpa using S)];have w1:∀f:H,Aj prog .neq 3 false (iI (ls.length:Int)) (iI (l2.length:Int)) f=.ok ct f:=λf=>by show OR.ok (.bool (Ib (ieq (ls.length:Int) (l2.length:Int)))) _=_;rw[X7,Ws om];rfl
 refine wk ?_;refine Fj (W v ls _ (B _ Ex)) λv11 Kc M P A0e q11=>?_;obtain⟨rfl,rfl⟩:=q11;rw[BfA];clear M P A0e I C bx O q w1;have gA:Ai h (((h.new (cd [v] 93)).new (cd [v2] 93)).new (cd [iI 0] 3)):=Ex;have nA:(((h.new (cd [v] 93)).new (cd [v2] 93)).new (cd [iI 0] 3)).nx=h.nx+1+1+1:=rfl;have aA:(((h.new (cd [v] 93)).new (cd [v2] 93)).new (cd [iI 0] 3)).m.get h.nx=cd [v] 93:=by simp(disch:=first|exact Ce|fail)
 have aB:(((h.new (cd [v] 93)).new (cd [v2] 93)).new (cd [iI 0] 3)).m.get (h.nx+1)=cd [v2] 93:=by simp(disch:=first|exact Ce|fail)
 have a4:(((h.new (cd [v] 93)).new (cd [v2] 93)).new (cd [iI 0] 3)).m.get (h.nx+1+1)=cd [iI 0] 3:=by simp(disch:=first|exact Ce|fail)
 generalize (((h.new (cd [v] 93)).new (cd [v2] 93)).new (cd [iI 0] 3))=hA at *
 obtain⟨j,t⟩:∃F,F=(AiV v v2 (.ptr h.nx 0) (.ptr (h.nx+1) 0) (.ptr (h.nx+1+1) 0) v (iI l2.length) v2 (iI l2.length) ct v (.fn (.func 159) [] [.ptr hA.nx 0])):=⟨_,rfl⟩;have nB:(((hA.new (cd [v] 93)).new (.dfr false)).new (.loop 0 none j [18,19] Aay AaG)).nx=hA.nx+3:=rfl;have J:Ai hA (((hA.new (cd [v] 93)).new (.dfr false)).new (.loop 0 none j [18,19] Aay AaG)):=(((Ai.refl hA).new _).new _).new _;have bC:(((hA.new (cd [v] 93)).new (.dfr false)).new (.loop 0 none j [18,19] Aay AaG)).m.get hA.nx=cd [v] 93:=by rw[Cq _ _ mh,Cq _ _ mh];exact Bf _
 have bF:(((hA.new (cd [v] 93)).new (.dfr false)).new (.loop 0 none j [18,19] Aay AaG)).m.get (hA.nx+1)=.dfr false:=by rw[Cq _ _ mh];exact Bf (h:=hA.new _) _
 have bL:(((hA.new (cd [v] 93)).new (.dfr false)).new (.loop 0 none j [18,19] Aay AaG)).m.get (hA.nx+2)=.loop 0 none j [18,19] Aay AaG:=Bf (h:=(hA.new _).new _) _;change Ah h _ (Aa (Z.call 159 [.fn (.yield (hA.nx+2)) [] [],.ptr hA.nx 0] (((hA.new (cd [v] 93)).new (.dfr false)).new (.loop 0 none (AiV v v2 (.ptr h.nx 0) (.ptr (h.nx+1) 0) (.ptr (h.nx+1+1) 0) v (iI l2.length) v2 (iI l2.length) ct v (.fn (.func 159) [] [.ptr hA.nx 0])) [18,19] Aay AaG))) λ_ h1=>AyT (hA.nx+2) _ h1);rw[<- t];have bA:=(J.Cf h.nx om).trans aA;have bB:=(J.Cf (h.nx+1) om).trans aB;have b4:=(J.Cf (h.nx+1+1) om).trans a4;have o:=gA.trans J;generalize (((hA.new (cd [v] 93)).new (.dfr false)).new (.loop 0 none j [18,19] Aay AaG))=hB at *
 refine gv0 (X ls v hA.nx (hA.nx+2) (λi f=>PS [h.nx+1+1,hA.nx+2] hB f/\f.m.get (h.nx+1+1)=cd [iI 0] 3/\f.m.get (hA.nx+2)=.loop 0 none j [18,19] Aay AaG/\lcE (ls.drop i) (l2.drop i)=0) (λf=>PS [h.nx+1+1,hA.nx+2] hB f/\f.m.get (h.nx+1+1)=cd [iI (lcE ls l2)] 3/\f.m.get (hA.nx+2)=.loop 2 (some .ret) j [18,19] Aay AaG) hB hl ?g1 ?g2 ?g3 ⟨⟨by omega,_,_,bC,trivial⟩,B hB o⟩) ?main;case g1=>rintro i f ⟨p1,p2,p3,p4⟩;exact⟨p1.cont bC om (by simp;omega),B f (PS.toG o (by simp;omega) p1)⟩
 case g2=>
  rintro i x f p ⟨p1,p2,p3,p4⟩;have hil:i<ls.length:=(Xh.1 p).1;have hdr:ls.drop i=x::ls.drop (i+1):=by rw[Pr hil,(Xh.1 p).2]
  obtain⟨y,z⟩:∃y,l2[i]?=some y:=⟨_,Yq om⟩;have U:l2.drop i=y::l2.drop (i+1):=by rw[Pr om,(Xh.1 z).2]
  have R:lcE (ls.drop i) (l2.drop i)=Aoq x y:=by rw[hdr,U];show(if lcE (ls.drop (i+1)) (l2.drop (i+1))≠0 then _ else _)=_;rw[X2 (by simpa using p4)]
  have Kf:=p1.lo;have hr:=W4 v v2 ls l2 (hA.nx+2) f v v2 v (iI l2.length) v2 (iI l2.length) ct v (.fn (.func 159) [] [.ptr hA.nx 0]) (cm (x:Int)) h.nx (h.nx+1) (h.nx+1+1) x y i
   (by rw[p3,t]) (p1.cont bA om (by simp;omega)) (p1.cont bB om (by simp;omega)) (B f (PS.toG o (by simp;omega) p1)) (A f (PS.toG o (by simp;omega) p1)) p z p2 om om
  refine hr.mono ?_;rintro r h' _ (⟨rfl,rfl,D,q2,T⟩|⟨q0,rfl,D,q2,T⟩)
  .refine .inl ⟨rfl,p1.trans D,q2,T.trans p3,?_⟩;rw[R];unfold Aoq;rw[X2 om,X2 om]
  .refine .inr ⟨rfl,p1.trans D,?_,by rw[T,t]⟩;rw[q2,BaZ i ls l2 (by rw[R];unfold Aoq;split;decide;split;decide;omega),R]
 case g3=>refine⟨PS.refl _ _,b4,bL,?_⟩;rw[Re];cases l2.drop ls.length<;>rfl
 rintro v5 E ⟨_,⟨p1,p2,p3,p4⟩|⟨p1,p2,p3⟩⟩;. rw[Cp,Cp]at p4;rw[p4];have Kf:=p1.lo;have g5:=PS.toG o (by simp;omega) p1;have Y:=(p1.Cf (hA.nx+1) om (by simp;omega)).trans bF;rw[Biw p3,Bbk];have g6:Ai h (E.put (hA.nx+2) (.loop 3 none j [18,19] Aay AaG)):=g5.put _ _ om;have f6:=(Aq (h:=E) (hA.nx+2) (.loop 3 none j [18,19] Aay AaG) (hA.nx+1) om).trans Y;have q6:=(Aq (h:=E) (hA.nx+2) (.loop 3 none j [18,19] Aay AaG) (h.nx+1+1) om).trans p2;generalize (E.put (hA.nx+2) (.loop 3 none j [18,19] Aay AaG))=h6 at *;refine Ey (A2o (i:=0) q6 (by simp)) ?_;have f7:=(Aq (h:=h6) (h.nx+1+1) (cd ([AV.int .i64 0].set 0 (iI 0)) 3) (hA.nx+1) om).trans f6;refine(show Ah h _ (dfE (hA.nx+1) _ _)from ?_);rw[BqJ f7,AkG (x:=iI 0) (e:=3) (show((h6.put (h.nx+1+1) (cd ([AV.int .i64 0].set 0 (iI 0)) 3)).put (hA.nx+1) (.dfr true)).m.get (h.nx+1+1)=cd [iI 0] 3 from(Aq _ _ _ om).trans (A2 _ _))];exact Lo ((g6.put _ _ om).put _ _ om) rfl
 .have Kf:=p1.lo;have g5:=PS.toG o (by simp;omega) p1;have Y:=(p1.Cf (hA.nx+1) om (by simp;omega)).trans bF;rw[A6m p3,A6c];have f6:=(Aq (h:=E) (hA.nx+2) (.loop 3 (some .ret) j [18,19] Aay AaG) (hA.nx+1) om).trans Y;refine(show Ah h _ (dfE (hA.nx+1) _ _)from ?_);rw[BqJ f6,AkG (x:=iI (lcE ls l2)) (e:=3) ((Aq _ _ _ om).trans ((Aq _ _ _ om).trans p2))];exact Lo ((g5.put _ _ om).put _ _ om) rfl
variable {n d:Nat}
def B4X:lbN 0=[]:=rfl
def A5g{n}(h0:0<n)(h:n<1000000000):lbN n=[n]:=by unfold lbN;grind
def Bxx:lbN 1000000000=[0,1]:=rfl
def A83(h:n<=1000000000):(lbN n).length<=2:=by unfold lbN;grind
def Bfs(h:n<=1000000000):∀x∈lbN n,x<1000000000:=by unfold lbN;grind
def Ao7(hn:n<=1000000000):n=0\/0<n/\n<1000000000\/n=1000000000:=by omega
def B4Y(hn:n<=1000000000)(hd:d<=1000000000):lcN (lbN n) (lbN d)<0 ↔ n<d:=by
 have c1:∀a b,Aoq a b<0 ↔ a<b:=λa b=>by unfold Aoq;omega
 rcases Ao7 hn with rfl|⟨e,n1⟩|rfl
 .rcases Ao7 hd with rfl|⟨d0,d1⟩|rfl;. exact⟨λh=>absurd h fe,λh=>by omega⟩
  .rw[B4X,A5g d0 d1];exact⟨λ_=>d0,λ_=>(by grind:Aoq 0 1<0)⟩
  .exact⟨λ_=>by simp,λ_=>by decide⟩
 .rcases Ao7 hd with rfl|⟨d0,d1⟩|rfl;. rw[A5g e n1];exact⟨λh=>absurd h (by decide:¬ Aoq 1 0<0),λh=>by omega⟩
  .rw[A5g e n1,A5g d0 d1];show(if lcE [] []≠0 then lcE [] []else Aoq n _)<0 ↔ _;rw[X2 (by simp[lcE]),c1];omega
  .rw[A5g e n1,Bxx];exact⟨λ_=>n1,λ_=>(by decide:Aoq 1 2<0)⟩
 .rcases Ao7 hd with rfl|⟨d0,d1⟩|rfl;. exact⟨λh=>absurd h fe,λh=>by omega⟩
  .rw[A5g d0 d1,Bxx];exact⟨λh=>absurd h (by decide:¬ Aoq 2 1<0),λh=>by omega⟩
  .exact⟨λh=>absurd h fe,λh=>by omega⟩
def B5u(hn:n<=1000000000)(h0:0<d)(hd:d<1000000000)(f:d<=n):(qr d (lbN n)).2=n%d/\AxV (qr d (lbN n)).1=lbN (n/d):=by
 rcases Ao7 hn with rfl|⟨e,n1⟩|rfl;. omega
 .rw[A5g e n1];show(0*1000000000+n)%d=_/\AxV [(0*1000000000+n)/d]=_;rw[Ou,Rx];exact⟨rfl,A87 (Ql (Oa ..) n1)⟩
 .show((0*1000000000+1)%d*1000000000+0)%d=_/\AxV [((0*1000000000+1)%d*1000000000+0)/d,(0*1000000000+1)/d]=_;by_cases d1:d=1;. subst d1;exact⟨rfl,rfl⟩
  .rw[dm (show 1<d by omega),Ks (show 1<d by omega),Ji];refine⟨rfl,?_⟩;rw[<- A87 (Nat.div_lt_self (by simp) om)];rfl
def Bh5:=∀v v2 n d h,NtS h v (lbN n)->NtS h v2 (lbN d)->n<1000000000->d<1000000000->0<d ->
 Ah h (λr h1=>∃q m,r=.Bj [q,m]/\NtS h1 q (lbN (n/d))/\NtS h1 m (lbN (n%d))) (Z.call 172 [v,v2] h)
def CbY(u:Bl3 Z)(z:Bl4 Z)(y:BsR Z)(k:NtS h v (lbN n))(j:NtS h v2 (lbN d))(hn:n<1000000000)(hd:d<1000000000)(h0:0<d):
 Ah h (λr h1=>∃q m,r=.Bj [q,m]/\NtS h1 q (lbN (n/d))/\NtS h1 m (lbN (n%d))) (ml Z N 172 [v,v2] h):=by
 have o:=u v v2 _ _ h k j (by have:=A83 (T8 hn);omega);have A:=B4Y (T8 hn) (T8 hd);by_cases B:n<d;. rw[Ks B,dm B,B4X,BvY];refine Fj o λv1 h1 e1 l1 t p=>wk ?_;exact zr Ex ⟨_,_,rfl,.inl ⟨rfl,rfl,rfl⟩,(λe (g:Ai h e)=>k.gr g) _ Ex⟩
 .have h1:¬ lcN ..<0:=λh=>B (A.1 h);have⟨p,O⟩:=B5u (T8 hn) h0 om om;have f:=λe (g:Ai h e)=>z v _ d _ (k.gr g) (by have:=A83 (T8 hn);omega) (Bfs (T8 hn)) h0 (T8 hd);rw[p,O]at f;rw[A5g h0 om]at j o h1;have⟨b1,R,el⟩:=R0.elem (i:=0) (λ_=>rfl) j rfl;have T:∀e,Gc 1 _ (iI 0) _=.ok ..:=el.ia;have E:=el.part 0 _ rfl;rw[Vw]at E;have J:∀e,Fo _ e=.ok ..:=λe=>Sl.Gs j;rw[BvY];refine Fj o λv1 h1 e1 l1 t p=>(wk (Fj (f _ Ex) λv3 S M l3 D G=>?_));obtain⟨q,rfl,K⟩:=G;refine wk ?_;refine Fj ((λe=>y (n%d) e (Pz (Rl _ h0) hd)) _) λU Q C P L I=>(zr ((Ai.trans e1 M).trans C) ⟨_,_,rfl,(λe (g:Ai _ e)=>K.gr g) _ C,I⟩)
def Ba9(n d:Nat):Nat.gcd n d=Nat.gcd d (n%d):=by rw[Nat.gcd_comm n d,Nat.gcd_rec d n,Nat.gcd_comm]
def BfF(i:Bh5 Z){Q}{m}{f0}(k:NtS hd v (lbN n))(f:NtS hd v2 (lbN d))(hn:n<1000000000)(e:d<1000000000)(h0:0<d)(g:Ai h hd)
 (go:∀h1 r f0,Ai h h1->NtS h1 v2 (lbN d)->NtS h1 r (lbN (n%d))->Ah h Q (AsN Z N m v2 r f0 h1)):Ah h Q (AsN Z N (m+1) v v2 f0 hd):=by
 have o:=λj=>Sl.Gs (h1:=j) f;have y:0<(lbN d).length:=by unfold lbN;grind
 rw[BeI];refine wk (Fj (i v _ n d _ k f hn e h0) λv1 h1 e1 l1 u p=>?_);obtain⟨q,r,rfl,z,t⟩:=p;exact wk ((gw go) _ _ _ (g.trans e1) (show F5 _ from(λj (g:Ai _ j)=>f.gr g) _ e1) (hU t))
def Bd3{m}{f0}(k:NtS hd v (lbN n))(f:NtS hd v2 [])(g:Ai h hd):Ah h (λr h1=>NtS h1 r (lbN n)) (AsN Z N (m+1) v v2 f0 hd):=by have i:∀e,Fo _ e=.ok ..:=λe=>Sl.Gs f;rw[BeI];exact wk (zr Ex (hU k))
def Bfw(i:Bh5 Z):∀(j n d m:Nat) (v v2:AV) (hd:H) (f0:L2),d<2^j->2*j<m->NtS hd v (lbN n)->NtS hd v2 (lbN d)->n<1000000000->d<1000000000->Ai h hd->Ah h (λr h1=>NtS h1 r (lbN (Nat.gcd n d))) (AsN Z N m v v2 f0 hd)
|0,n,d,m,v,v2,hd,f0,hj,hm,k,o,hn,f,g=>by
 obtain rfl:d=0:=by grind
 obtain⟨q,rfl⟩:=mg m;rw[Rn];exact Bd3 Z N k o g
|j+1,n,d,m,v,v2,hd,f0,hj,hm,k,o,hn,f,g=>by
 obtain⟨q,rfl⟩:∃q,m=q+1+1:=⟨m-2,by omega⟩;by_cases h0:d=0;. subst h0;rw[Rn];exact Bd3 Z N k o g
 .refine BfF Z N i k o hn f om g λh1 r f1 g1 u kr=>?_;have y:=Rl n (show 0<d by omega);rw[Ba9];generalize n%d=e at *;by_cases h1:e=0;. subst h1;rw[Rn];exact Bd3 Z N u kr g1
  .refine BfF Z N i u kr f om om g1 λh2 z f2 g2 t p=>?_;rw[Ba9];have a1:=Rl d (show 0<e by omega);have a2:d%e<=d-e:=by rw[Nat.mod_eq_sub_mod om];exact Nat.mod_le ..
   exact Bfw i j e _ _ r _ _ _ om om t p om om g2
def Bl1:=∀v v2 n d h,NtS h v (lbN n)->NtS h v2 (lbN d)->n<1000000000->d<1000000000->Ah h (λr h1=>NtS h1 r (lbN (Nat.gcd n d))) (Z.call 149 [v,v2] h)
def CbM(i:100<N)(f:Bh5 Z)(k:NtS h v (lbN n))(g:NtS h v2 (lbN d))(hn:n<1000000000)(e:d<1000000000):Ah h (λr h1=>NtS h1 r (lbN (Nat.gcd n d))) (ml Z N 149 [v,v2] h):=by rw[B8A];exact Bfw Z N f 30 n d N v _ h _ (Pz e (by simp)) om k g hn e (Ai.refl h)
variable {v:Nat}
def Bk1{k e}{ty}{c}(a s:Nat) hh:Aj prog .shr ty c (.int k a) (.int e s) hh=.ok (.int k (a/2^min s k.bits:Nat)) hh:=rfl
def A9Z v k:=1<=k/\k<=32/\2^(k-1)<=v/\v<2^k
def AwW{v s k}(h:A9Z (v/2^s) k)(e:s+k<=32):A9Z v (s+k):=by
 have⟨_,_,g,f⟩:=h;refine⟨by omega,e,?_,?_⟩;. have:=(Nat.le_div_iff_mul_le (Nat.pow_pos (by grind))).1 g;rw[show s+k-1=k-1+s by omega,Nat.pow_add];grind
 .have:=(Nat.div_lt_iff_lt_mul (Nat.pow_pos (by omega))).1 f;grind
def BnN{v}(g:v<256)(h0:0<v):∃k,A9Z v k/\k<=8/\∀e,xIx prog .str (.str Lc) (ch v) e=.ok (ch k) e:=by
 have⟨k,h1,h2,m⟩:=Bw8 v g;have⟨i,j⟩:=m h0;have f:k<=8:=by
  have:2^(k-1)<2^8:=by omega
  have:=(Oq (by simp)).1 this;omega
 exact⟨k,⟨i,by omega,j,h2⟩,f,λe=>AzP h1⟩
def BtN:=∀v h,0<v->v<4294967296->Ah h (λr _=>∃k:Nat,r=iI k/\A9Z v k) (Z.call 144 [cm v] h)
def Bow{c:Nat}(h0:0<v)(j:v<65536)(m:c=0\/c=16)(f0:L2):Ah h (λr _=>∃k,r=iI ((c+k:Nat):Int)/\k<=16/\A9Z v k) (A3w Z N (cm v) (iI c) f0 h):=by
 rw[Bmz];refine Ey (Beg v 256 _) ?_;by_cases g:256<=v;. rw[Ws g];obtain⟨k,f,i,e⟩:=BnN (v:=v/2^8) om om;refine Zx (Ey (Bk1 v 8 _) ?_);rw[show min 8 (IntKind.bits .u64)=8 from rfl];refine Ey (Am1 (k:=.i64) c 8 fe (by show((c+8:Nat):Int)<=9223372036854775807;omega) _) ?_;refine Ey (A9k (v/2^8) fe (by show((v/2^8:Nat):Int)<=255;omega) _) (Ey (e _) ?_);refine Ey (A9k k fe (by show(k:Int)<=9223372036854775807;omega) _) ?_;refine Ey (Am1 (k:=.i64) (c+8) k fe (by show((c+8+k:Nat):Int)<=9223372036854775807;omega) _) ?_;exact Lo (Ai.refl h) ⟨8+k,by grind,by omega,AwW f om⟩
 .rw[Yg g];obtain⟨k,f,i,e⟩:=BnN (v:=v) om om;refine Ae5 (Ey (A9k v fe (by show(v:Int)<=255;omega) _) (Ey (e _) ?_));exact Ey (A9k k fe (by show(k:Int)<=9223372036854775807;omega) _) (Ey (Am1 c k fe (by show(c+k:Int)<=9223372036854775807;omega) _) (Lo (Ai.refl h) ⟨k,rfl,by omega,f⟩))
def B3w(h0:0<v)(i:v<4294967296):Ah h (λr _=>∃k:Nat,r=iI k/\A9Z v k) (ml Z N 144 [cm v] h):=by
 rw[BzU];apply Ey (Beg v 4294967296 _);rw[Yg om];apply Ae5;rw[Bmy];apply Ey (Beg v ..);by_cases f:65536<=v;. rw[Ws f];refine Zx (Ey (Bk1 v ..) ?_);rw[show min ..=16 from rfl];refine Ey (Am1 0 _ fe (by simp) _) ((Bow Z N om om (.inr rfl) _).mono λr h1 _ ⟨k,g,_,e⟩=>⟨_,g,AwW e om⟩)
 .rw[Yg f];refine Ae5 ((Bow Z N om om (.inl rfl) _).mono λr h1 _ ⟨k,_,_,e⟩=>⟨k,by grind,e⟩)
def est k:=k*78913/262144
def Bo6{D v}(f:v<=1000000000)(h1:10^D<=v)(h2:v<10^(D+1)):nd v=D+1:=by
 rcases Aqg v f with⟨i,e⟩|⟨E,i,_,_,e,g⟩
 .have:10^D<10^1:=by omega
  have:=(Oq (by simp)).1 this;omega
 .have a1:=(Oq (by omega)).1 (Ql h1 g);have a2:=(Oq (by simp)).1 (Ql e h2);omega
def BqR{v k:Nat}(hb:A9Z v k)(j:v<=1000000000):∃p:Nat,Bkd[est k]?=some (p:Int)/\est k<=10/\nd v=est k+(if p<=v then 1 else 0):=by
 obtain⟨h1,h2,r,t⟩:=hb;have m:k<31:=by
  have:2^(k-1)<2^30:=by omega
  have:=(Oq (by decide:1<2)).1 this;omega
 have i:∀k<31,1<=k->2^k<=10^(est k+1)/\(est k=0\/10^(est k-1)<=2^(k-1))/\est k<=9/\Bkd[est k]?=some ((10^est k:Nat):Int):=by decide +kernel
 obtain⟨u,f,y,o⟩:=i k m h1;refine⟨_,o,by omega,?_⟩;by_cases g:10^est k<=v;. rw[Xo g,Bo6 j g om]
 .rw[X2 g];rcases f with f|f;. simp_all
  .obtain⟨e,q⟩:∃e,est k=e+1:=by
    refine⟨est k-1,?_⟩;have:est k≠0:=λh0=>by simp_all
    omega
   rw[q]at g f ⊢;exact Bo6 j (Xy f r) om
def ArA:∀s,(∀c∈s,c<256)->Yj (s.map u8C)=some s
|[],_=>rfl
|c::s,h=>by
 have f:=ArA s λx e=>h x (Wr _ e);have g:Xf (u8C c)=some c:=by show @Bool.rec _ _ ..=_;rw[show Nat.blt c _=true by simp[*]]
 show(match Xf _,Yj _ with|some n,some r=>some _|_,_=>none)=_;grind
def BtM:=∀k h,k<=32->Ah h (λr _=>r=iI (est k)) (Z.call 227 [iI k] h)
def B3v{k}(e:k<=32):Ah h (λr _=>r=iI (est k)) (ml Z N 227 [iI k] h):=by rw[BzT];exact Ey (At6 k _ fe (by show(k*78913:Int)<=9223372036854775807;omega) _) (Ey (Bk1 _ ..) (Lo (Ai.refl h) rfl))
def BtO:=∀b h,Ah h (λr _=>r=iI (if b=true then 1 else 0:Nat)) (Z.call 228 [.bool b] h)
def B3x b:Ah h (λr _=>r=iI (if b=true then 1 else 0:Nat)) (ml Z N 228 [.bool b] h):=by
 cases b;. exact Ae5 (Lo (Ai.refl h) rfl)
 .exact Zx (Lo (Ai.refl h) rfl)
def BtJ:=∀v h,0<v->v<=1000000000->AeZ h->Ah h (λr _=>r=iI (nd v)) (Z.call 203 [cm v] h)
def B3s(i:BtN Z)(j:BtM Z)(f:BtO Z)(h0:0<v)(z:v<=1000000000)(m:AeZ h):Ah h (λr _=>r=iI (nd v:Nat)) (ml Z N 203 [cm v] h):=by
 rw[BzO];refine Fj (i v h h0 om) λv1 h1 e1 l1 t C=>?_;obtain⟨k,rfl,hb⟩:=C;obtain⟨p,p1,p2,p3⟩:=BqR hb z;refine Fj (j k h1 hb.2.1) λv2 h2 I l2 u G=>?_;subst G;have g2:=e1.trans I;have E:=(m.gr g2).g;have q:∀e:H,AxM 20 1 (.ptr 2 0) (iI ((est k:Nat):Int)) e=.ok (.ptr 2 (est k)) e:=λe=>by show iaA (.ptr 2 0) 20 (est k) 1 e=_;show(@Bool.rec (λ_=>OR) (.bad 90) (.ok (.ptr 2 (0+est k*1)) e) (Nat.blt (est k) 20):OR)=_;rw[show Nat.blt (est k) 20=true by simp;omega,ae,Rx]
 have c2:Nv h2 2 (Bkd.map λx=>AV.int .u64 x):=⟨(m.gr g2).lt,_,_,E,trivial⟩;have B:=c2.one (o:=est k) (x:=cm (p:Int)) (by rw[Cn,p1];rfl);refine Ey (q _) (Ey (B h2 (Bi.refl _)) (Ey (Beg v p _) ?_));refine Fj (f _ h2) λv3 J y l3 A D=>?_;subst D;refine Ey (Am1 (k:=.i64) (est k) _ fe (by show((est k+(if decide (p<=v)=true then 1 else 0):Nat):Int)<=9223372036854775807;split<;>omega) _) ?_;refine Lo (g2.trans y) ?_;rw[p3];simp
def BtI:=∀(v:Nat) h,v<100->Ah h (λr _=>r=.str (V8 v)) (Z.call 202 [iI v] h)
def B3r(e:v<100):Ah h (λr _=>r=.str (V8 v)) (ml Z N 202 [iI v] h):=by
 rw[BzN];refine Ey (Hf ..) ?_;by_cases f:v<10;. rw[Ws om];refine Zx (Ey (Am1 (k:=.i64) v 1 fe (by show((v+1:Nat):Int)<=9223372036854775807;omega) _) ?_);refine Ey (Aji xi9 om (by show v+1<=36;omega) _) ?_;refine Lo (Ai.refl h) ?_;rw[show v+1-v=1 by omega,Bw7 v f];show _=AV.str (Ao2 (nd v) v);unfold nd;grind
 .rw[Yg om];refine Ae5 ?_;have y:=At6 (k:=.i64) (ty:=3) (c:=true) v 2 fe (by show((v*2:Nat):Int)<=9223372036854775807;omega);refine Ey (y _) (Ey (y _) (Ey (Am1 (k:=.i64) (v*2) 2 fe (by show((v*2+2:Nat):Int)<=9223372036854775807;omega) _) ?_));refine Ey (Aji xi9 om (by show v*2+2<=200;omega) _) ?_;refine Lo (Ai.refl h) ?_;rw[show v*2+2-v*2=2 by omega,Bw9 v e];show _=AV.str (Ao2 (nd v) v);unfold nd;grind
def BoI b:∀D,D<=10->∀e,xSl prog 261 (.ptr b 0) (some (iI 1)) (some (iI (1+D:Nat))) e=.ok (.sl b 1 D 23 1 true) e
|0,_,e=>by kernel_rfl
|1,_,e=>by kernel_rfl
|2,_,e=>by kernel_rfl
|3,_,e=>by kernel_rfl
|4,_,e=>by kernel_rfl
|5,_,e=>by kernel_rfl
|6,_,e=>by kernel_rfl
|7,_,e=>by kernel_rfl
|8,_,e=>by kernel_rfl
|9,_,e=>by kernel_rfl
|10,_,e=>by kernel_rfl
|D+11,f,_=>absurd f om
def Bwa{v}(e:v<=1000000000):1<=nd v/\nd v<=10/\v<10^nd v:=by
 rcases Aqg v e with⟨g,f⟩|⟨E,g,i,j,f,k⟩;. simp_all
 grind
def Bip pr mid post:Nf (pr++(mid++post)) pr.length mid.length=some mid:=by rw[E5,Xo (by simp),List.drop_left,K8]
def BkD{b D cap}{ex}{e}{pr f}{s}(i:h.m.get b=cd (pr++(s.map u8C++f)) e)(j:D=s.length)(g:∀c∈s,c<256):Bs6 (.sl b pr.length D cap 1 ex) h=.ok (.str s) h:=by
 show(match h.rd b with
  |some c=>match Nf c _ D with
   |some _=>match Yj _ with|some s=>.ok _ h|none=>.bad _
   |none=>.bad _
  |none=>.bad _:OR)=_;rw[(by rw[AaS,i];rfl:h.rd b=some _),j,show s.length=(s.map u8C).length by simp];simp only[Bip,ArA s g]
def BtF:=∀(v:Nat) h,v<=1000000000->AeZ h->Ah h (λr _=>r=.str (V8 v)) (Z.call 248 [iI v,iI 10] h)
def B3n(u:BtI Z)(q:BtJ Z)(t:BtK Z)(A:v<=1000000000)(K:AeZ h):Ah h (λr _=>r=.str (V8 v)) (ml Z N 248 [iI v,iI 10] h):=by
 rw[BzI];by_cases f:v<100;. have C:decide ((v:Int)<100)=true:=dt;have O:decide ((0:Int)<=(v:Int))=true:=dt;have E:decide (v<100)=true:=Ws f;have y:=λe=>u v e f;refine wk ?_;refine Fj (y _) λv1 h1 e1 l1 J G=>?_;subst G;exact zr e1 rfl
 .have C:decide ((v:Int)<100)=false:=df;have O:decide ((0:Int)<=(v:Int))=true:=dt;have E:decide (v<100)=false:=Yg f;have W:decide ((v:Int)<0)=false:=df;have T:∀e:H,A6r .u64 (iI (v:Int)) e=.ok (cm (v:Int)) e:=λe=>A9k v fe (by show(v:Int)<=18446744073709551615;omega) e;refine wk ?_;have p:AeZ (h.new (cd uq 261)):=K.gr ((Ai.refl h).new _);have o:(h.new (cd uq 261)).m.get h.nx=cd ([u8C 0]++(List.replicate 23 (u8C 0))) 261:=Bf _;have L:Ai h (h.new (cd uq 261)):=(Ai.refl h).new _;have S:h.nx+1=(h.new (cd uq 261)).nx:=rfl;generalize h.new (.cells [ch 0,ch 0,ch 0,ch 0,ch 0,ch 0,ch 0,ch 0,ch 0,.int _ 0,.int _ 0,.int _ 0,.int _ 0,.int _ 0,.int _ 0,.int _ 0,.int _ 0,.int _ 0,.int _ 0,.int _ 0,.int _ 0,.int _ 0,.int _ 0,.int _ 0] ..)=h2 at *;rw[Bmu];refine Fj (q v _ om A p) λv1 M P l3 g I=>?_;subst I;have⟨d1,d2,d3⟩:=Bwa A;have⟨D,z⟩:∃D,D=nd v:=⟨_,rfl⟩;rw[<- z]at d1 d2 d3 ⊢;have B:=Am1 (k:=.i64) (ty:=3) (c:=true) 1 D fe (by show(1+D:Int)<=9223372036854775807;omega);refine Ey (B _) (Ey (BoI _ D d2 _) ?_);have j:M.m.get h.nx=cd ([u8C 0]++(List.replicate D (u8C 0)++List.replicate (23-D) (u8C 0))) 261:=by rw[g _ om,o,S5,show D+(23-D)=23 by omega]
  refine zu1 (t _ D v _ _ _ _ _ _ _ j om (by simp) d2 d3) λv4 U R l4 Q i V=>(Ey ((λe=>rfl:∀e,bo .lss 2 true (iI v) (iI 0) e=.ok ..) _) (Ae5 (Ey (B _) (Ey (BoI _ D d2 _) (Ey (BkD (i om) (by rw[Alh]) λc y=>?_) ?_)))));. have:=Axd D v c y;omega
  apply Lo (PG.own (L.trans P) R (Ye _));rw[z];rfl
def BtD:=∀(v:Nat) h,v<=1000000000->AeZ h->Ah h (λr _=>r=.str (V8 v)) (Z.call 247 [iI v] h)
def B3g(e:BtF Z)(g:v<=1000000000)(f:AeZ h):Ah h (λr _=>r=.str (V8 v)) (ml Z N 247 [iI v] h):=by rw[Bz9];refine Fj (e v h g f) λv1 h1 e1 l1 j i=>?_;subst i;exact zr e1 rfl
def B2R(e:BtD Z){n}(hn:Num n)(f:AeZ h):Ah h (λr _=>r=.str (V8 n)) (ml Z N 241 [iI n] h):=by obtain⟨v,rfl⟩:∃v:Nat,n=v:=⟨_,(Tb hn.1).symm⟩;rw[Bzu];refine Fj (e v h (by have:=hn.2;omega) f) λv1 h1 e1 l1 g i=>?_;subst i;exact zr e1 rfl
def BjD b:∀(D:Nat),D<=10->∀e,xSl prog 261 (.ptr b 0) none (some (iI D)) e=.ok (.sl b 0 D 24 1 true) e
|0,_,e=>by kernel_rfl
|1,_,e=>by kernel_rfl
|2,_,e=>by kernel_rfl
|3,_,e=>by kernel_rfl
|4,_,e=>by kernel_rfl
|5,_,e=>by kernel_rfl
|6,_,e=>by kernel_rfl
|7,_,e=>by kernel_rfl
|8,_,e=>by kernel_rfl
|9,_,e=>by kernel_rfl
|10,_,e=>by kernel_rfl
|D+11,f,_=>absurd f om
def BsS:=∀(v:Nat) h,v<=1000000000->AeZ h->Ah h (λr _=>r=.str (V8 v)) (Z.call 174 [cm v,iI 10] h)
def Ccs(p:BtI Z)(k:BtJ Z)(o:BtK Z)(t:v<=1000000000)(B:AeZ h):Ah h (λr _=>r=.str (V8 v)) (ml Z N 174 [.int .u64 v,iI 10] h):=by
 have G:∀e:H,Aj prog .eql 3 true (iI 10) (iI 10) e=.ok (.bool true) e:=λe=>rfl;have u:∀e:H,Aj prog .lss 134 true (.int .u64 (v:Int)) (.int .u64 100) e=.ok (.bool (decide (v<100))) e:=λe=>by show OR.ok (.bool (ilt (v:Int) 100)) e=_;rw[Il];congr 2;grind
 rw[B9o];refine Ey (G _) (Zx (Ey (u _) ?_));by_cases f:v<100;. rw[Ws f];refine Zx (Ey (A9k v fe (by show(v:Int)<=9223372036854775807;omega) _) (Fj (p v h f) λv1 h1 e1 l1 A y=>?_));subst y;exact zr e1 rfl
 .rw[Yg f];apply Ae5;have⟨Z,E⟩:∃Z:List _,Z=List.replicate 24 (u8C 0):=⟨_,rfl⟩;apply Ey (h:=h.new (.cells Z ..)) (by rw[E];rfl);have M:h.nx+1=(h.new (.cells Z 261 .exact)).nx:=rfl;refine Fj (k v _ om t (B.gr ((Ai.refl h).new _):AeZ (h.new (.cells Z 261 .exact)))) λv1 C I l3 g z=>?_;subst z;have⟨d1,d2,d3⟩:=Bwa t;have⟨D,q⟩:∃D,D=nd v:=⟨_,rfl⟩;rw[<- q]at d1 d2 d3 ⊢;apply Ey (BjD _ D d2 _);have j:C.m.get h.nx=.cells ([]++(List.replicate D (u8C 0)++List.replicate (24-D) (u8C 0))) 261 .exact:=by rw[g _ om,(by simp_all:(h.new (.cells Z 261 .exact)).m.get h.nx=.cells (List.replicate 24 (u8C 0)) 261 .exact),T3,S5,show D+(24-D)=24 by omega]
  refine zu1 (o _ D v _ _ _ _ _ _ _ j om (by simp) d2 d3) λv4 O K l4 J i P=>Ey (BjD _ D d2 _) (Ey (BkD (i om) (by rw[Alh]) λc L=>?_) ?_);. have:=Axd D v c L;omega
  apply Lo (PG.own (((Ai.refl h).new _).trans I) K (Ye _));rw[q];rfl
def Bl5:=∀(v:Nat) h,v<=1000000000->AeZ h->Ah h (λr _=>r=.str (V8 v)) (Z.call 155 [cm v,iI 10] h)
def Ccp(e:BsS Z)(g:v<=1000000000)(f:AeZ h):Ah h (λr _=>r=.str (V8 v)) (ml Z N 155 [cm v,iI 10] h):=by rw[B9g];refine Fj (e v h g f) λv1 h1 e1 l1 j i=>?_;subst i;exact zr e1 rfl
def B0H:=∀v n h,NtS h v (lbN n)->n<=1000000000->AeZ h->Ah h (λr _=>∃k:Int,r=iI k/\0<=k/\k<=100) (Z.call 117 [v] h)
def Ccg{v:AV}(q:Bl5 Z)(k:NtS h v (lbN n))(hn:n<=1000000000)(C:AeZ h):Ah h (λr _=>∃k:Int,r=iI k/\0<=k/\k<=100) (ml Z N 117 [v] h):=by
 have o:=λj=>Sl.Gs (h:=h) (h1:=j) k;have t:=A83 hn;have m:=Bfs hn;generalize lbN n=ls at *;rw[B8P];rcases T7 ls with rfl|⟨l,c,e⟩;. replace o:∀j:H,Fo v j=.ok (iI 0) j:=o;clear k m t;refine wk ?_;exact zr Ex ⟨1,rfl,by grind,by omega⟩
 .rw[T9]at e;have I:ls.length=l.length+1:=by grind
  have u:ls[l.length]?=some c:=by grind
  have D:=m c (by grind);obtain⟨b1,L,el⟩:=R0.elem (f:=Abb) (s:=1) (λ_=>rfl) k u;have E:=el.ia;have z:=el.part 0 _ rfl;rw[Vw]at z;obtain⟨i,hi⟩:∃i:Int,i=(l.length:Int):=⟨_,rfl⟩;replace o:∀j:H,Fo v j=.ok (iI (i+1)) j:=λj=>by simp_all
  rw[<- hi]at E;have K:0<=i:=by omega
  have M:i<=1:=by omega
  have J:decide (i+1=0)=false:=df;have w1:∀j:H,Aj prog .sub 3 true (iI (i+1)) (iI 1) j=.ok (iI i) j:=λj=>by show OR.ok (iI (E1 .i64 (i+1-1))) j=_;rw[show i+1-1=i by omega,lw.2.2 _ om om]
  have w2:∀j:H,Aj prog .mul 3 true (iI 9) (iI i) j=.ok (iI (9*i)) j:=λj=>by show OR.ok (iI (E1 .i64 (9*i))) j=_;rw[lw.2.2 _ om om]
  have y:=λj (g:Ai h j)=>q c j om (C.gr g);have G:=Bwa (show c<=1000000000 by omega);have B:(V8 (c:Int)).length=nd c:=Alh _ _;generalize V8 (c:Int)=sd at *;clear k m t u I e el hi;refine wk ?_;refine Fj (y _ Ex) λv1 h1 e1 l1 p A=>?_;subst A;clear p y;have w3:∀j:H,Aj prog .add 3 false (iI (9*i)) (iI (sd.length:Int)) j=.ok (iI (9*i+(sd.length:Int))) j:=λj=>by show OR.ok (iI (E1 .i64 (9*i+(sd.length:Int)))) j=_;rw[lw.2.2 _ om om]
  clear w2;refine wk ?_;exact zr Ex ⟨_,rfl,by omega,by omega⟩
variable {w:Nat}{ws:List uw}{v:AV}
def zc0{Q R}{r}{k}(e:Ah H0 R r)(f:∀v h1,R v h1->Ah H0 Q (k v h1)):Ah H0 Q (Aa r k):=by obtain⟨v,h1,rfl,_,q⟩:=e;simp[*]
variable {a:AV}
structure BdS(b:Nat)(s:List Nat)(h:H):Prop where
 lt:b<h.nx
 g:∃a v,(a=.Ob\/a=.ptr b 0)/\h.m.get b=.cells [a,v] 222 .exact/\Fm 1 (b+1) 5 h v s.length (s.flatMap AiS)
structure Adz(b:Nat)(s:List Nat)(h:H):Prop where
 lt:b<h.nx
 g:∃v,h.m.get b=.cells [.ptr b 0,v] 222 .exact/\Fm 1 (b+1) 5 h v s.length (s.flatMap AiS)
def Bpl:=∀b s h,BdS b s h->Ah H0 (λr h1=>r=.Bj []/\WG b h h1/\Adz b s h1) (Z.call 175 [.ptr b 0] h)
def By5 b:aeq prog 20 219 (.ptr b 0) (.ptr b 0)=some true:=by show @Bool.rec _ _ ..=_;simp
def B19 b hh:bo .neq 219 false (.ptr b 0) (.ptr b 0) hh=.ok ct hh:=by show @Bool.rec _ (.bad 39) (match aeq _ _ _ .. with|some b=>OR.ok ..|none=>.bad _) (Xm prog 219 false (O6 (.ptr b 0)) (O6 (.ptr b 0)))=_;rw[(rfl:Xm prog 219 false (O6 (.ptr b 0)) (O6 (.ptr b 0))=true),By5];rfl
def Bnm P(e:P=prog):Awp P 222 2 0 222=true:=by subst e;rfl
def B2W(k:BdS b s h):Ah H0 (λr h1=>r=.Bj []/\WG b h h1/\Adz b s h1) (ml Z N 175 [.ptr b 0] h):=by
 obtain⟨a,v,ha,j,t⟩:=k.g;have p:=k.lt;have c0:Nv h b [a,v]:=⟨p,_,_,j,trivial⟩;have q:=c0.one (o:=0) rfl;rw[Bzz];refine Ey (v:=.ptr b 0) (h:=h) rfl (Ey (v:=.ptr b 0) (h:=h) rfl (Ey (q h (Bi.refl _)) ?_));rcases ha with rfl|rfl
 .have z:∀f:H,bo .eql 219 true .Ob .Ob f=.ok ux f:=λf=>by rfl
  have y:BwJ (.ptr b 0) h=.ok (.ptr b 0) h:=by
   have h1:h.rd b=some [.Ob,v]:=by rw[AaS,j];rfl
   show(match h.rd b with|some c=>(@Bool.rec (λ_=>OR) (.bad 57) (.ok (.ptr b 0) h) (Nat.blt 0 (Q4 c)))|none=>.bad 58)=_;rw[h1];rfl
  have u:∀f:H,AgK (Uk prog 206) [.ptr b 0] f=.ok (.ptr b 0) f:=λf=>by kernel_rfl
  have A:BwH prog 222 (.ptr b 0) h=.ok (.ptr b 0) h:=by show(match h.m.get b with|.cells c e .exact=>(@Bool.rec (λ_=>OR) (.bad 60) (.ok (.ptr b 0) h) (Awp prog e (Q4 c) 0 222))|_=>.bad 61)=_;rw[j];simp only[];rw[show Q4 [AV.Ob,v]=2 from rfl,Bnm _ rfl]
  have B:A4 1 (.ptr b 0) (.ptr b 0) h=.ok (.Bj []) (h.put b (cd [.ptr b 0,v] 222)):=A9c (i:=0) j (by simp_all) ⟨rfl,rfl⟩;refine Ey (z _) (Zx (Ey y (Ey (u _) (Ey A (Ey (v:=.ptr b 0) (h:=h) rfl (Ey (v:=.ptr b 0) (h:=h) rfl (Ey B ?_)))))));exact Lo (gr0 _) ⟨rfl,(WG.refl p).put,p,v,A2 ..,Fm.To t (Y3 b) (by simp_all)⟩
 .exact Ey ((λf=>rfl:∀f,bo .eql 219 true (.ptr b 0) .Ob f=.ok ..) _) (Ae5 (Ey rfl (Ey rfl (Ey (q h (Bi.refl _)) (Ey ((B19 b) _) (Ae5 (Lo (gr0 _) ⟨rfl,WG.refl p,p,v,j,t⟩)))))))
def Bhj{v:AV}{t:uw}{y:AV}{Q:AV->H->Prop}{K:AV->AV->AV->AV->H->OR}(z:h.m.get b=cd [.ptr b 0,v] 222)(M:b<h.nx)(E:Fm 1 (b+1) 5 h v s.length (s.flatMap AiS))(hy:Hd h 1 y=some (t.length,t.flatMap AiS))(hb:s.length+t.length<=100000)
 (hk:∀h1 v',WG b h h1->Adz b (s++t) h1->Ah H0 Q (K v' (.ptr b 0) (.ptr b 1) (.Bj []) h1)):
 Ah H0 Q (Aa (Ds 5 1 1 v y h) λv1 h1=>Aa (Fu (.ptr b 0) h1) λv2 h2=>Aa (Bs v2 1 h2) λv3 e=>Aa (A4 1 v3 v1 e) λv4 k=>K v1 v2 v3 v4 k):=by
 obtain⟨v',j,A,J,L,r,q,p⟩:=Fm.BmA (bytes:=1) (lo:=b+1) E hy (Aa9 (s:=1) (f:=AiS) (λ_=>rfl) t) om (by
  have:∀l:uw,Bm (l.flatMap AiS)=true:=λl=>by
   induction l with
   |nil=>rfl
   |cons a l G=>exact G
  exact this t) om
 have g:j.m.get b=cd [.ptr b 0,v] 222:=(q b (Y3 b)).trans z;obtain⟨D,C⟩:=B2 r.sl;have B:=J.lo;refine Ey A (Ey (v:=.ptr b 0) (h:=j) rfl (Ey (v:=.ptr b 1) (h:=j) (by rw[E3,Rx]) (Ey (A9c (i:=1) g (by show 1<2;decide) ⟨D,C⟩) ?_)))
 refine hk _ v' ⟨?_,?_,?_,?_⟩ ⟨by show b<j.nx;omega,v',A2 _ _,?_⟩
 .show h.nx<=j.nx;omega
 .intro c u;rw[Aq _ _ _ om,q c om]
 .intro c u hn I;rw[Aq _ _ _ hn,p.st c u I]
 .intro x o;rcases Wf.1 o with rfl|o
  .exact .inr (.inl rfl)
  .rcases p.lg x o with e|⟨e,k⟩|e
   .exact .inl e
   .exact .inr (.inr (.inl ⟨e,k⟩))
   .exact .inr (.inr (.inr e))
 .have:=Fm.To (l:=[.ptr b 0,v']) (e1:=222) r (Y3 b) (by rw[g];rfl);rw[Xi,V5];exact this
def Adz.bd(k:Adz b s h):BdS b s h:=by have⟨v,f,e⟩:=k.g;exact⟨k.lt,_,v,.inr rfl,f,e⟩
def BdS.gr(k:BdS b s h)(g:Ai h h1):BdS b s h1:=by have⟨a,v,i,e,f⟩:=k.g;exact⟨Yy k.lt g.lo,a,v,i,(g.Cf b k.lt).trans e,f.gr g⟩
def Bm5:Prop:=∀(b:Nat) (s t:uw) (h:H),BdS b s h->s.length<=50000->t.length<=5000->Ah H0 (λr h1=>WG b h h1/\BdS b (s++t) h1) (Z.call 156 [.ptr b 0,.str t] h)
def B27(e:Bpl Z){t}(k:BdS b s h)(p:s.length<=50000)(q:t.length<=5000):Ah H0 (λr h1=>WG b h h1/\BdS b (s++t) h1) (ml Z N 156 [.ptr b 0,.str t] h):=by
 rw[ByY];refine zc0 (e b s h k) λv1 h1 ⟨_,g1,f⟩=>?_;have⟨v,j,o⟩:=f.g;have i:=f.lt;refine Ey rfl (Ey rfl (Ey ((⟨i,_,_,j,trivial⟩:Nv _ b _).one rfl _ (Bi.refl _)) (Bhj (t:=t) j i o ?_ om λh2 v' g2 m=>?_)));. show @Bool.rec (λ_=>Option _) none (some _) (Nat.beq 1 1)=_;rw[Rf,Asj];rfl
 .exact Ey (A63 t) (Lo (gr0 _) ⟨g1.trans k.lt g2,m.bd⟩)
variable {w:AV}{pre x rest:uw}
def Bs2 P(e:P=prog):P.underlying 242=some (.pointer 5)/\P.underlying 5=some (.int .u8)/\F7 P 5=some 1:=by subst e;exact⟨rfl,rfl,rfl⟩
def Bhm:∀s:List _,s.flatMap AiS=s.map u8C
|[]=>rfl
|c::s=>by show u8C c::s.flatMap _=_;rw[Bhm s];rfl
def Bs3{q k st:Nat}(o:s≠[])(e:∀c∈s,c<256)(j:s.length<=100000)(i:h.m.get q=.cells (s.flatMap AiS) 5 (.Gt k))(g:h.m.get k=.Fb st):
 usV prog 242 (.ptr q 0) (iI s.length) h=.ok (.str s) ((h.put q (.cells (s.flatMap AiS) 5 (.fz k))).put k (.Fb st)):=by
 have⟨u1,u2,u3⟩:=Bs2 _ rfl;have⟨n,hn⟩:∃n,s.length=n+1:=by cases s with|nil=>grind|cons c l=>simp
 have f:(s.flatMap AiS).length=s.length:=by rw[Aa9 (s:=1) λ_=>rfl,ae]
 unfold usV;rw[show vP _=.yes q 0 from rfl,show Arm _=some _ by rw[hn];rfl];simp only[i,u1,u2,u3,g];rw[show Nf _ 0 _=some _ by rw[E5,Xo om,Cp,R4 om],show Aj3 _=some _ from rfl];simp only[Bhm,ArA s e];rw[show Gj _=true by rw[Fi];grind];rfl
def Bph:Prop:=∀(b:Nat) (s:uw) (h:H),BdS b s h->s≠[]->(∀c∈s,c<256)->s.length<=100000->Ah H0 (λr h1=>r=.str s/\WG b h h1) (Z.call 157 [.ptr b 0] h)
def B28(k:BdS b s h)(p:s≠[])(y:∀c∈s,c<256)(O:s.length<=100000):Ah H0 (λr h1=>r=.str s/\WG b h h1) (Ay prog Z N false 157 [.ptr b 0] h):=by
 obtain⟨a,v,ha,D,K⟩:=k.g;have R:=k.lt;have c0:Nv h b [a,v]:=⟨R,_,_,D,trivial⟩;have C:=c0.one (o:=1) rfl;rcases K with⟨z,_⟩|⟨z,_⟩|⟨q,t,st,rfl,A,u,M,J,X,V,Y,U⟩
 .exact absurd (T5.1 z) p
 .exact absurd (T5.1 z) p
 have P:0<s.length:=by cases s with|nil=>exact absurd rfl p|cons c l=>exact Nat.zero_lt_succ _
 have B:∀f:H,Bs (.ptr b 0) 1 f=.ok (.ptr b 1) f:=λf=>by rw[E3,Rx]
 have T:∀f:H,sdV (.sl q 0 s.length s.length 1 false) f=.ok (.ptr q 0) f:=λf=>by
  show(@Bool.rec (λ_=>OR) (.ok (.ptr q 0) f) (.bad 138) (Nat.beq s.length 0):OR)=_;rw[show Nat.beq s.length 0=false by cases hb:Nat.beq s.length 0 with
   |false=>rfl
   |true=>exact absurd (ao hb) om]
 have E:∀f:H,Fo (.sl q 0 s.length s.length 1 false) f=.ok (iI (s.length:Int)) f:=λf=>rfl;have W:∀f:H,Bi h (Ab f) ↔ Bi h f:=λf=>⟨λe=>e.Be f.lg,λe=>e.nl⟩;rw[ByZ];refine Ey (v:=.ptr b 0) (h:=Ab h) rfl (Ey (B _) (Ey (C _ (Bi.refl h).nl.nl.nl) (Ey (T _) (Ey (v:=.ptr b 0) (h:=Ab (Ab (Ab (Ab (Ab h))))) rfl (Ey (B _) (Ey (C _ (Bi.refl h).nl.nl.nl) (Ey (E _) ?_)))))));have G:=Bs3 (h:=Ab (Ab (Ab (Ab (Ab (Ab (Ab (Ab (Ab h)))))))) ) p y O A u;refine Ey G ?_;have Q:∀x∈[t,q],x=b\/(b<x/\NEx (h.m.get x))\/h.nx<=x:=λx j=>by
  rcases Wf.1 j with rfl|j
  .exact .inr (.inl ⟨J,λcs e i=>by rw[u]at i;cases i⟩)
  .rcases Wf.1 j with rfl|j
   .exact .inr (.inl ⟨M,λcs e i=>by rw[A]at i;cases i⟩)
   .cases j
 refine Axi (λx=>x=b\/(b<x/\NEx (h.m.get x))\/h.nx<=x) ?_ λL I=>?_
 .exact fI (.inl rfl) (fI (.inr ⟨λx j=>Q x (D4 _ _ _ j).1,by (repeat (refine Tl.2 ⟨(by first|exact Ar ..|(refine Ax _ _ _ _ _ _ _ _ _ _ _ _ ?_;decide)|exact A4Q rfl),?_⟩));exact fN⟩) (fI (.inl rfl) (fI (.inl rfl) (fI (.inl rfl) (fI (.inl rfl) (fI (.inl rfl) (fI (.inl rfl) (fI (.inl rfl) (fI (.inl rfl) (fI (.inl rfl) (fI (.inl rfl) fN)))))))))))
 .refine Lo (gr0 _) ⟨rfl,Ye _,λc S=>?_,λc S hn i=>?_,I⟩
  .show((h.put q _).put t _).m.get c=_;rw[Aq _ _ _ om,Aq _ _ _ om]
  .show((h.put q _).put t _).m.get c=_;rw[Aq _ _ _ (λf=>by rw[f,u]at i;exact i.2 _ rfl),Aq _ _ _ (λf=>by rw[f,A]at i;cases i.1 _ _ _ rfl)]
def Bg8{o:AO}{st:Nat}{p:Option Code}{fr:L2}{ps:uw}{a c:Code}(h:o=.loop st p fr ps a c):Bbs o:=by subst h;exact⟨λ_ _ _ h=>(by cases h),λ_ h=>(by cases h)⟩
def Bbt{o:AO}{f:Bool}(h:o=.dfr f):Bbs o:=by subst h;exact⟨λ_ _ _ h=>(by cases h),λ_ h=>(by cases h)⟩
def Bx9{j lo len:Nat}{et:TypeId}{v:AV}{cs:uz}{Y:AO}(t:Fm j lo et h v len cs)(i:∀cs e k,h.m.get l≠.cells cs e k)(hj:∀st,h.m.get l≠.Fb st):Fm j lo et (h.put l Y) v len cs:=by
 rcases t with g|⟨rfl,rfl,f,off,D7,rfl,h2,g⟩|⟨f,k,st,rfl,p,o,u,A,r,y,z,q⟩
 .exact .inl g
 .exact .inr (.inl ⟨rfl,rfl,f,off,D7,rfl,BeL h2 i hj,g⟩)
 .exact .inr (.inr ⟨f,k,st,rfl,by rw[Aq _ _ _ (by rintro rfl;exact i _ _ _ p)];exact p,by rw[Aq _ _ _ (by rintro rfl;exact hj _ o)];exact o,u,A,r,y,z,q⟩)
def Bda{Y:AO}(k:BdS b s h)(i:∀cs e k,h.m.get l≠.cells cs e k)(hj:∀st,h.m.get l≠.Fb st):BdS b s (h.put l Y):=by obtain⟨a,v,o,f,j⟩:=k.g;exact⟨k.lt,a,v,o,(Aq _ _ _ (by rintro rfl;exact i _ _ _ f)).trans f,Bx9 j i hj⟩
def BoB{X i:AO}(hb:b<l)(j:hd.m.get l=i)(o:NEx i)(g:WG b (hd.put l X) h1):WG b hd (h1.put l i):=by
 refine⟨g.nx,λc k=>?_,λc k hn r=>?_,λx p=>?_⟩
 .rw[Aq _ _ _ om,g.lo c k,Aq _ _ _ om]
 .by_cases e:c=l
  .subst e;rw[A2,j]
  .rw[Aq _ _ _ e,g.st c k hn (by rw[Aq _ _ _ e];exact r),Aq _ _ _ e]
 .rcases Wf.1 p with rfl|p
  .exact .inr (.inr (.inl ⟨hb,j ▸ o⟩))
  .rcases g.lg x p with f|f|⟨f,q⟩|f
   .rcases Wf.1 f with rfl|f
    .exact .inr (.inr (.inl ⟨hb,j ▸ o⟩))
    .exact .inl f
   .exact .inr (.inl f)
   .by_cases e:x=l
    .subst e;exact .inr (.inr (.inl ⟨hb,j ▸ o⟩))
    .rw[Aq _ _ _ e]at q;exact .inr (.inr (.inl ⟨f,q⟩))
   .exact .inr (.inr (.inr f))
def A58(x:Nat):=List.replicate (9-(V8 (x:Int)).length) 48++V8 (x:Int)
def BxK(Bi9:Bl5 Z)(T:Bm5 Z){L M I J K i E C j A p B r u z y o G q y5:AV}{x:Nat}
 (hL:hd.m.get l=.loop 0 none (ApC L M (.ptr b 0) I J K i E C j A p B r u z y o G q) [24,25] Af4 Af5)
 (hx:x<1000000000) (kB:BdS b s hd) (hs:s.length<=100) (hp:AeZ hd) (hb:b<l) (hl:l<hd.nx) (h2:2<b):
 Ah H0 (λrr h'=>rr=ux/\WG b hd h'/\BdS b (s++A58 x) h'/\h'.m.get l=hd.m.get l)
  (Aze prog Z N false l [y5,cm (x:Int)] hd):=by
 rw[Arc Z N hL,B55];rw[hL];simp only[];rw[B59];have U:∀cs e W,hd.m.get l≠.cells cs e W:=λcs e W f=>by rw[hL]at f;cases f
 have Z0:∀st,hd.m.get l≠.Fb st:=λst f=>by rw[hL]at f;cases f
 have k3:=Bda (Y:=.loop 1 none (ApC L M (.ptr b 0) I J K i E C j A p B r u z y o G q) [24,25] Af4 Af5) kB U Z0;have p3:AeZ (hd.put l (.loop 1 none (ApC L M (.ptr b 0) I J K i E C j A p B r u z y o G q) [24,25] Af4 Af5)):=⟨(Aq _ _ _ om).trans hp.g,hp.lt⟩;have eL:(hd.put l (.loop 1 none (ApC L M (.ptr b 0) I J K i E C j A p B r u z y o G q) [24,25] Af4 Af5)).m.get l=_:=A2 _ _;have n3:(hd.put l (.loop 1 none (ApC L M (.ptr b 0) I J K i E C j A p B r u z y o G q) [24,25] Af4 Af5)).nx=hd.nx:=rfl;have V:=λ(h1:H) (g:WG b (hd.put l (.loop 1 none (ApC L M (.ptr b 0) I J K i E C j A p B r u z y o G q) [24,25] Af4 Af5)) h1)=>BoB hb hL (λcs e f=>by cases f) g;generalize (hd.put l (.loop 1 none (ApC L M (.ptr b 0) I J K i E C j A p B r u z y o G q) [24,25] Af4 Af5))=h3 at *
 have hdl:=Bwa (show x<=1000000000 by omega)
 have R:(V8 (x:Int)).length=nd x:=Alh _ _;have Q:b<h3.nx:=by omega
 refine Fj (Bi9 x h3 om p3) λv1 h4 e4 l4 A9W q1=>?_;subst q1;have k4:=k3.gr e4;have w4:WG b h3 h4:=.of Q e4;unfold A58;rw[R];have hl9:nd x<=9:=by
  rcases Aqg x om with⟨_,a2⟩|⟨D,a1,_,a2,a3,_⟩
  .omega
  .have:D≠9:=by
    rintro rfl;have h9:10^9=1000000000:=by decide
    omega
   omega
 refine Ey (A63 _) ?_;rw[R];have Z3:∀f:H,xSl prog 9 (.str uv) (some (iI (nd x:Int))) none f=.ok (.str (List.replicate (9-nd x) 48)) f:=λf=>by have:=A3e (P:=prog) (h:=f) (t:=9) (a:=uv) (k:=nd x) xi9 hl9;rw[this,show uv=List.replicate 9 48 from rfl,L3]
 refine Ey (Z3 _) ?_;refine zc0 (T b s _ h4 k4 om (by rw[Lx];omega)) λv5 h5 ⟨w5,k5⟩=>?_;refine zc0 (T b _ (V8 (x:Int)) h5 k5 (by simp;omega) om) λv6 h6 ⟨w6,k6⟩=>?_;have X:=w4.trans Q w5;have S:=X.trans Q w6;have O:h6.m.get l=.loop 1 none (ApC L M (.ptr b 0) I J K i E C j A p B r u z y o G q) [24,25] Af4 Af5:=
  (S.st l om om (Bg8 eL)).trans eL
 rw[A6P O];refine Lo ⟨Qt _,λb hb=>absurd hb (dx b),λx _=>.inr (Qt x)⟩ ⟨rfl,V h6 S,?_,A2 _ _⟩;rw[Wq]at k6;exact Bda k6 (λcs e W f=>by rw[O]at f;cases f) (λst f=>by rw[O]at f;cases f)
end Go.Proofs

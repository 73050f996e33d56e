/- Fractions in plain Lean -/
import Derived.Test.YtahaaiadlgfchaaGreatDoorEvHe
set_option linter.all false
set_option maxRecDepth 100000
noncomputable section
namespace Go.Proofs
open Go Go.Ev Tryz
open Go.Nm
attribute [local irreducible] Aa Al Af Ad
variable (Z cx cr:Ac)(N:Nat)
variable {h h0 h1 h2 hd:H}{s:uw}{v w v2:AV}{b c l:Nat}{ls l2:uw}{bs:uw}{n d:Nat}
def BhI(cr:Ac):=∀F G A B E e z u f r i t k o q p g y j C b l x s hd,
 hd.m.get l=.loop 0 none (ApC F G (.ptr b 0) A B E e z u f r i t k o q p g y j) [24,25] Af4 Af5 ->
 x<1000000000->BdS b s hd->s.length<=100->AeZ hd->b<l->l<hd.nx->2<b ->
 Sx.Ah Sx.H0 (λD h'=>D=ux/\WG b hd h'/\BdS b (s++A58 x) h'/\h'.m.get l=hd.m.get l) (cr.round l [C,cm x] hd)
def Bjl(h0:n≠0)(hn:n<=1000000000):∃(low:List _) (top:Nat),lbN n=low++[top]/\low.length<=1/\top<1000000000/\(∀x∈low,x<1000000000)/\V8 (top:Int)++low.reverse.flatMap A58=V8 (n:Int):=by
 rcases Ao7 hn with rfl|⟨e,n1⟩|rfl;. grind
 .exact⟨[],n,A5g e n1,by simp,n1,by simp,by simp⟩
 .exact⟨[0],1,rfl,by simp,by simp,by simp,rfl⟩
def Bnk x(f:x<1000000000):(A58 x).length<=10:=by unfold A58;have:=Bwa (show x<=1000000000 by omega);have e:(V8 (x:Int)).length=nd x:=Alh ..;grind
def B0I:=∀v n h,NtS h v (lbN n)->n<=1000000000->AeZ h->Sx.Ah h (λr _=>r=.str (V8 n)) (Z.call 118 [v] h)
def Cch(Bi9:Bl5 Z)(X:Bm5 Z)(BmQ:Bph Z)(V:BfL Z)(Y:BfM Z cr)(W4:BhI cr)(k:NtS h v (lbN n))(hn:n<=1000000000)(W:AeZ h):
 Sx.Ah h (λr _=>r=.str (V8 (n:Int))) (ml Z N 118 [v] h):=by
 have q:=λo=>Sx.Sl.Gs (h:=h) (h1:=o) k;rw[B8Q];by_cases h0:n=0
 .subst h0;replace q:∀o:H,Fo v o=.ok (iI 0) o:=q;clear k;have hq:V8 ((0:Nat):Int)=[48]:=by decide
  rw[hq];refine wk ?_;exact zr Ex rfl
 .obtain⟨low,top,e1,e2,e3,e4,e5⟩:=Bjl h0 hn;rw[<- e5];rw[e1]at k q;have S4:(low++[top]).length=low.length+1:=by simp
  have p:(low++[top])[low.length]?=some top:=by rw[bu (Ye _),Mq];rfl
  obtain⟨b1,U,el⟩:=Sx.R0.elem (f:=Abb) (s:=1) (λ_=>rfl) k p;have x2:=el.ia;have x3:=el.part 0 _ rfl;rw[Vw]at x3;obtain⟨v',xs,S,_⟩:=Bjw (u:=low.length) k om om;rw[K8]at S;obtain⟨i,hi⟩:∃i:Int,i=(low.length:Int):=⟨_,rfl⟩;replace q:∀o:H,Fo v o=.ok (iI (i+1)) o:=λo=>by rw[q,S4,hi];rfl
  rw[<- hi]at x2 xs;have r1:0<=i:=by omega
  have r2:i<=1:=by omega
  have k1:decide (i+1=0)=false:=df;have w1:∀o:H,Aj prog .sub 3 true (iI (i+1)) (iI 1) o=.ok (iI i) o:=λo=>by show OR.ok (iI (E1 .i64 (i+1-1))) o=_;rw[show i+1-1=i by omega,lw.2.2 _ om om]
  have Rq:=λo (g:Sx.Ai h o)=>Bi9 top o om (W.gr g);have hdl:=Bwa (show top<=1000000000 by omega)
  have C:(V8 (top:Int)).length=nd top:=Alh _ _;have K:∀c∈V8 (top:Int),c<256:=λc p=>by have:=Axd _ _ c p;omega
  have Hr:V8 (top:Int)≠[]:=λe=>by rw[e]at C;simp at C;omega
  generalize V8 (top:Int)=sd at *
  have J:=λo (g:Sx.Ai h o)=>S.gr g;clear k p S4 e1 el e5 S hi;refine wk ?_;refine Fj (Rq _ Ex) λv1 h1 e1 l1 D Q=>?_;subst Q;have gA:Sx.Ai h h1:=Sx.Ai.trans Ex e1;simp only[C9]at l1;have b0:BdS h.nx [] h1:=⟨by omega,.Ob,.Bv,.inl rfl,(D h.nx mh).trans (Sx.Bf _),Sx.Fm.nil ..⟩;have Qy:h.nx<h1.nx:=by omega
  clear D Rq e1;refine gv0 (X h.nx [] sd h1 b0 (by simp) om) λP h9 q9=>?_;obtain⟨w9,k9⟩:=q9;rw[T3]at k9;have g9:Sx.Ai h h9:=WG.own gA w9 (Ye _);refine Sx.Ey (q _) (Sx.Ey (w1 _) (Sx.Ey (xs _) ?_));refine Fj (V v' low h9 (J _ g9)) λv11 Kc L M A0e q11=>?_;obtain⟨rfl,rfl⟩:=q11;rw[BfA];clear L M A0e q;obtain⟨t,G⟩:∃F,F=(ApC v (.str []) (.ptr h.nx 0) v (iI (i+1)) ct v v (iI (i+1)) (iI i) (.ptr b1 U) (cm top) (.str sd) P v v (iI (i+1)) (iI i) v' (.fn (.func 159) [] [.ptr h9.nx 0])):=⟨_,rfl⟩;have nB:(((h9.new (cd [v'] 93)).new (.dfr false)).new (.loop 0 none t [24,25] Af4 Af5)).nx=h9.nx+3:=rfl;have gB:Sx.Ai h9 (((h9.new (cd [v'] 93)).new (.dfr false)).new (.loop 0 none t [24,25] Af4 Af5)):=(((Sx.Ai.refl h9).new _).new _).new _;have O:(((h9.new (cd [v'] 93)).new (.dfr false)).new (.loop 0 none t [24,25] Af4 Af5)).m.get h9.nx=cd [v'] 93:=by rw[Sx.Cq _ _ mh,Sx.Cq _ _ mh];exact Sx.Bf _
  have bF:(((h9.new (cd [v'] 93)).new (.dfr false)).new (.loop 0 none t [24,25] Af4 Af5)).m.get (h9.nx+1)=.dfr false:=by rw[Sx.Cq _ _ mh];exact Sx.Bf (h:=h9.new _) _
  have bL:(((h9.new (cd [v'] 93)).new (.dfr false)).new (.loop 0 none t [24,25] Af4 Af5)).m.get (h9.nx+2)=.loop 0 none t [24,25] Af4 Af5:=Sx.Bf (h:=(h9.new _).new _) _;change Sx.Ah h _ (Aa (Z.call 159 [.fn (.yield (h9.nx+2)) [] [],.ptr h9.nx 0] (((h9.new (cd [v'] 93)).new (.dfr false)).new (.loop 0 none (ApC v (.str []) (.ptr h.nx 0) v (iI (i+1)) ct v v (iI (i+1)) (iI i) (.ptr b1 U) (cm top) (.str sd) P v v (iI (i+1)) (iI i) v' (.fn (.func 159) [] [.ptr h9.nx 0])) [24,25] Af4 Af5))) λ_ h1=>AyT (h9.nx+2) _ h1);rw[<- G];have z:=g9.trans gB;have kB:=k9.gr gB;have n9:h1.nx<=h9.nx:=w9.nx;generalize (((h9.new (cd [v'] 93)).new (.dfr false)).new (.loop 0 none t [24,25] Af4 Af5))=hB at *
  have I:h.nx<hB.nx:=by omega
  have T:=W.lt;refine gv0 (Y low v' h9.nx (h9.nx+2) (λi o=>WG h.nx hB o/\BdS h.nx (sd++(low.drop i).reverse.flatMap A58) o/\o.m.get (h9.nx+2)=.loop 0 none t [24,25] Af4 Af5) (λ_=>False) hB om ?g1 ?g2 ?g3 ⟨⟨by omega,_,_,O,trivial⟩,J hB z⟩) ?main;case g1=>rintro i o ⟨p1,p2,p3⟩;exact⟨⟨by have:=p1.nx;omega,93,.exact,(p1.ex _ _ _ om om O).trans O,trivial⟩,J o (WG.own z p1 (Ye _))⟩
  case g2=>
   rintro j x o A ⟨p1,p2,p3⟩;have hil:j<low.length:=(Xh.1 A).1;have E:low.drop j=x::low.drop (j+1):=by rw[Pr hil,(Xh.1 A).2]
   have R:low.drop (j+1)=[]:=List.drop_eq_nil_of_le om;have hx:=e4 x (Vl A);rw[R]at p2 E;have hr:=W4 v (.str []) v (iI (i+1)) ct v v (iI (i+1)) (iI i) (.ptr b1 U) (cm top) (.str sd) P v v (iI (i+1)) (iI i) v' (.fn (.func 159) [] [.ptr h9.nx 0]) (iI (j:Int)) h.nx (h9.nx+2) x _ o (by rw[p3,G]) hx p2 (by simp;omega) (W.gr (WG.own z p1 (Ye _))) om (by have:=p1.nx;omega) T;refine hr.mono ?_;rintro r h' _ ⟨rfl,Q,q2,q3⟩;refine .inl ⟨rfl,p1.trans I Q,?_,q3.trans p3⟩;rw[E];simpa using q2
  case g3=>refine⟨WG.refl I,?_,bL⟩;rw[Re];simpa using kB
  rintro v5 B ⟨_,⟨p1,p2,p3⟩|q6⟩;rotate_left;. exact q6.elim
  rw[Cp]at p2;have n5:=p1.nx;have g5:Sx.Ai h B:=WG.own z p1 (Ye _);have f5:=(p1.st (h9.nx+1) om om (Bbt bF)).trans bF;rw[Biw p3,Bbk];have f6:=(Sx.Aq (h:=B) (h9.nx+2) (.loop 3 none t [24,25] Af4 Af5) (h9.nx+1) om).trans f5;have g6:Sx.Ai h (B.put (h9.nx+2) (.loop 3 none t [24,25] Af4 Af5)):=g5.put _ _ om;have k6:BdS h.nx (sd++low.reverse.flatMap A58) (B.put (h9.nx+2) (.loop 3 none t [24,25] Af4 Af5)):=Bda p2 (λcs e J o=>by rw[p3]at o;cases o) (λst o=>by rw[p3]at o;cases o);have n6:(B.put (h9.nx+2) (.loop 3 none t [24,25] Af4 Af5)).nx=B.nx:=rfl;generalize (B.put (h9.nx+2) (.loop 3 none t [24,25] Af4 Af5))=h6 at *;refine gv0 (BmQ h.nx _ h6 k6 (by simp[Hr]) ?_ ?_) λv7 h7 q7=>?_
  .intro c p;rcases T2.1 p with p|p;. exact K c p
   .obtain⟨x,hx,p⟩:=Kt.1 p;unfold A58 at p;rcases T2.1 p with p|p;. rw[List.eq_of_mem_replicate p];decide
    .have:=Axd _ _ c p;omega
  .have:(low.reverse.flatMap A58).length<=10:=by
    rcases low with _|⟨x,_|⟨y,r⟩⟩;. simp
    .have:=Bnk x (e4 x (by simp));simpa using this
    .simp at e2
   rw[Xi];omega
  obtain⟨rfl,w7⟩:=q7;have f7:=(w7.st (h9.nx+1) om om (Bbt f6)).trans f6;refine(show Sx.Ah h _ (dfE (h9.nx+1) _ _)from ?_);rw[BqJ f7];exact Sx.Lo ((WG.own g6 w7 (Ye _)).put _ _ om) rfl
def Shp(x:AV):=x=.Bv\/∃b o l c s e,x=.sl b o l c s e
def AiZ(k:NtS h v ls):Shp v:=by
 rcases k with⟨_,_,rfl⟩|⟨b,off,cap,ex,cs,rfl,_⟩;. exact .inl rfl
 .exact .inr ⟨_,_,_,_,_,_,rfl⟩
def Bdb{x y}(e:Shp x)(hy:Shp y) hh:B7 [ct,.Bv,.Bv] [(0,1,ct),(1,1,x),(2,1,y)] hh=.ok (.agg [ct,x,y]) hh:=by rcases e with rfl|⟨_,_,_,_,_,_,rfl⟩<;>rcases hy with rfl|⟨_,_,_,_,_,_,rfl⟩<;>rfl
def BlH{y}(hy:Shp y) hh:B7 [ct,.Bv,.Bv] [(2,1,y)] hh=.ok (.agg [ct,.Bv,y]) hh:=by rcases hy with rfl|⟨_,_,_,_,_,_,rfl⟩<;>rfl
def A2n{x y}{C}(f:Shp x)(hy:Shp y)(e:h.m.get b=cd C 95)(g:C.length=3):A4 3 (.ptr b 0) (.agg [ct,x,y]) h=.ok (.Bj []) (h.put b (cd [ct,x,y] 95)):=
 BjK e g.symm rfl (by rcases f with rfl|⟨_,_,_,_,_,_,rfl⟩<;>rcases hy with rfl|⟨_,_,_,_,_,_,rfl⟩<;>rfl) rfl
def A0B{a}{f}{e}{na}(ha:h.m.get a=cd e f)(g:na=e.length):Vk [.c (some (some na)) (.ptr a 0)] h=.ok (.agg e) h:=by simp_all
def AtT{x y:AV}{B o:Bool}{x' t:AV}(k:NtS h v ls)(A:Shp x)(hy:Shp y)(u:h.m.get b=cd [.bool B,x,y] 95):NtS (h.put b (cd [.bool o,x',t] 95)) v ls:=by
 have z:=k;rcases z with r|⟨q,off,cap,ex,cs,rfl,j,g,i,C⟩;. exact .inl r
 .by_cases e:q=b
  .subst e;have⟨e,E,f,D⟩:=g.cells;rw[u]at f;injection f with f _ _;subst f;have p:ls=[]:=by cases ls with
    |nil=>rfl
    |cons a l=>
     have h2:=List.mem_of_mem_drop (ax (Vl (by grind:(([AV.bool B,x,y].drop off).take ((a::l).length*1))[0]?=some (cm a))));simp only[Wf,Ww,fb]at h2;rcases h2 with h2|h2|h2;. grind
     .rcases A with rfl|⟨_,_,_,_,_,_,rfl⟩<;>cases h2
     .rcases hy with rfl|⟨_,_,_,_,_,_,rfl⟩<;>cases h2
   subst p;exact .inr ⟨_,_,_,_,_,rfl,j,⟨g.lt,_,_,Sx.A2 ..,trivial⟩,i,rfl⟩
  .exact .inr ⟨_,_,_,_,_,rfl,j,AsM g e λst F=>by grind,i,C⟩
def Bna:lbN n=[] ↔ n=0:=by unfold lbN;grind
def Aw5(hn:n<=1000000000):lbN n=[1] ↔ n=1:=by
 constructor
 .intro h;rcases Ao7 hn with rfl|⟨e,n1⟩|rfl;. cases h
  .rw[A5g e n1]at h;grind
  .cases h
 .rintro rfl;rfl
def B0G:=∀h,Sx.Ah h (λr h1=>∃y,r=.agg [ct,.Bv,y]/\NtS h1 y [1]) (Z.call 173 [] h)
def Ccf(e:BsR Z):Sx.Ah h (λr h1=>∃y,r=.agg [ct,.Bv,y]/\NtS h1 y [1]) (ml Z N 173 [] h):=by rw[B8O];refine wk (Fj ((λi=>e 1 _ (by simp)) _) λv1 h1 e1 l1 f g=>?_);have g4:=(f _ (by simp)).trans (Sx.Bf _);refine Sx.Ey (BlH (AiZ g) _) (Sx.Ey (A2n (.inl rfl) (AiZ g) g4 rfl) ?_);rw[A0B (na:=3) (Sx.A2 ..) rfl];exact Sx.Lo ((Sx.Ai.trans Ex e1).put _ _ (Ye _)) ⟨_,rfl,AtT g (.inl rfl) (.inl rfl) g4⟩
def B0B:=∀v v2 n d h,NtS h v (lbN n)->NtS h v2 (lbN d)->n<1000000000->d<1000000000->0<d ->
 Sx.Ah h (λr h1=>∃x y,r=.agg [ct,x,y]/\NtS h1 x (lbN (n/Nat.gcd n d))/\NtS h1 y (lbN (d/Nat.gcd n d))) (Z.call 152 [ct,v,v2] h)
def CbT(Q:B0E Z)(O:B0G Z)(B:Bh2 Z)(J:Bl1 Z)(p:Bh5 Z)(k:NtS h v (lbN n))(u:NtS h v2 (lbN d))(hn:n<1000000000)(f:d<1000000000)(h0:0<d):
 Sx.Ah h (λr h1=>∃x y,r=.agg [ct,x,y]/\NtS h1 x (lbN (n/Nat.gcd n d))/\NtS h1 y (lbN (d/Nat.gcd n d))) (ml Z N 152 [ct,v,v2] h):=by
 rw[B8E];refine Sx.Ey (v:=.ptr h.nx 0) (h:=h.new (cd [ct,.Bv,.Bv] 95)) rfl ?_;have g1:Sx.Ai h (h.new (cd [ct,.Bv,.Bv] 95)):=(Sx.Ai.refl h).new _;have c1:(h.new (cd [ct,.Bv,.Bv] 95)).m.get h.nx=cd [ct,.Bv,.Bv] 95:=Sx.Bf _;have n1:(h.new (cd [ct,.Bv,.Bv] 95)).nx=h.nx+1:=rfl;generalize (h.new (cd [ct,.Bv,.Bv] 95))=hA at *;refine Fj (Q v _ hA (k.gr g1)) λv1 hB e1 l1 M q1=>?_;subst q1;have L:=g1.trans e1;have cB:=(M h.nx om).trans c1;by_cases z:n=0;. subst z;rw[show decide (lbN 0=[])=true from rfl];refine Sx.Zx ?_;refine Fj (O hB) λv3 F e3 l3 G q3=>?_;obtain⟨y,rfl,j⟩:=q3;have A:=(G h.nx om).trans cB;refine Sx.Ey (A2n (.inl rfl) (AiZ j) A rfl) ?_;rw[A0B (na:=3) (Sx.A2 _ _) rfl];refine Sx.Lo ((L.trans e3).put _ _ (Ye _)) ⟨_,y,rfl,.inl ⟨by rw[Nat.zero_div];rfl,by rw[Nat.zero_div];rfl,rfl⟩,?_⟩;rw[Nat.gcd_zero_left,Nat.div_self h0];exact AtT j (.inl rfl) (.inl rfl) A
 rw[show decide (lbN n=[])=false from Yg (λe=>z (Bna.1 e))];refine Sx.Ae5 ?_;refine Fj (B v2 _ hB (u.gr L)) λv5 F e5 l5 S q5=>?_;subst q5;have C:=L.trans e5;have A:=(S h.nx om).trans cB;have sx:=AiZ k;have sy:=AiZ u;have same:∀E:H,Sx.Ai h E->E.m.get h.nx=cd [ct,.Bv,.Bv] 95->Nat.gcd n d=1->Sx.Ah h (λr h1=>∃x y,r=.agg [ct,x,y]/\NtS h1 x (lbN (n/Nat.gcd n d))/\NtS h1 y (lbN (d/Nat.gcd n d)))
  (Aa (B7 [ct,.Bv,.Bv] [(0,1,ct),(1,1,v),(2,1,v2)] E) λv6 h6=>Aa (A4 3 (.ptr h.nx 0) v6 h6) λv7 h7=>Vk [.c (some (some 3)) (.ptr h.nx 0)] h7):=by intro E g c hg;refine Sx.Ey (Bdb sx sy _) (Sx.Ey (A2n sx sy c rfl) ?_);rw[A0B (na:=3) (Sx.A2 _ _) rfl,hg,Qf,Qf];exact Sx.Lo (g.put _ _ (Ye _)) ⟨v,v2,rfl,AtT (k.gr g) (.inl rfl) (.inl rfl) c,AtT (u.gr g) (.inl rfl) (.inl rfl) c⟩
 by_cases q:d=1;. rw[show decide (lbN d=[1])=true from Ws ((Aw5 (T8 f)).2 q)];refine Sx.Zx ?_;exact same F C A (by simp_all)
 rw[show decide (lbN d=[1])=false from Yg (λe=>q ((Aw5 (T8 f)).1 e))];refine Sx.Ae5 ?_;refine Fj (J v v2 n d F (k.gr C) (u.gr C) hn f) λv8 hD e8 l8 X q8=>?_;have gD:=C.trans e8;have cD:=(X h.nx om).trans A;refine Fj (B v8 _ hD q8) λv9 D e9 l9 W q9=>?_;subst q9;have V:=gD.trans e9;have cE:=(W h.nx om).trans cD;have t:0<Nat.gcd n d:=L8 _ h0;have hgd:Nat.gcd n d<=d:=Nat.gcd_le_right _ h0;have Y:=q8.gr e9;by_cases i:Nat.gcd n d=1;. rw[show decide (lbN (Nat.gcd n d)=[1])=true from Ws ((Aw5 om).2 i)];refine Sx.Ey (v:=ct) (h:=D) rfl (Sx.Ae5 ?_);exact same D V cE i
 rw[show decide (lbN (Nat.gcd n d)=[1])=false from Yg (λe=>i ((Aw5 om).1 e))];refine Sx.Ey (v:=ux) (h:=D) rfl (Sx.Zx ?_);refine Fj (p v v8 n _ D (k.gr V) Y hn om t) λv11 hF o l11 T R=>?_;obtain⟨x,m1,rfl,I,_⟩:=R;have gF:=V.trans o;have cF:=(T h.nx om).trans cE;refine Sx.Ey (v:=x) (h:=hF) rfl (Sx.Ey rfl ?_);refine Fj (p _ _ d _ _ (u.gr gF) (Y.gr o) f om t) λEr hG e14 l14 U K=>?_;obtain⟨y,m2,rfl,j,_⟩:=K;have P:=(U _ om).trans cF;refine Sx.Ey rfl (Sx.Ey rfl (Sx.Ey (Bdb (AiZ I) (AiZ j) _) (Sx.Ey (A2n (AiZ I) (AiZ j) P rfl) ?_)));rw[A0B (na:=3) (Sx.A2 ..) rfl];exact Sx.Lo ((gF.trans e14).put _ _ (Ye _)) ⟨x,y,rfl,AtT (I.gr e14) (.inl rfl) (.inl rfl) P,AtT j (.inl rfl) (.inl rfl) P⟩
def fTx(n d:Nat):uw:=if d=1 then V8 n else V8 (n:Int)++47::V8 d
def B0C:=∀x y n d h,NtS h x (lbN n)->NtS h y (lbN d)->n<=1000000000->d<=1000000000->AeZ h->Sx.Ah h (λr _=>r=.Bj [.str (fTx n d),iI 0]) (Z.call 83 [.agg [ct,x,y]] h)
def CbU{x y:AV}(m:B0H Z)(j:B0I Z)(E:Bh2 Z)(k:NtS h x (lbN n))(u:NtS h y (lbN d))(hn:n<=1000000000)(f:d<=1000000000)(q:AeZ h):Sx.Ah h (λr _=>r=.Bj [.str (fTx n d),iI 0]) (ml Z N 83 [.agg [ct,x,y]] h):=by
 rw[B8F];refine Sx.Ey (v:=.ptr h.nx 0) (h:=h.new (cd [ct,x,y] 95)) rfl ?_;have g1:Sx.Ai h (h.new (cd [ct,x,y] 95)):=(Sx.Ai.refl h).new _;have c0:Sx.Nv (h.new (cd [ct,x,y] 95)) h.nx [ct,x,y]:=⟨Y3 _,_,_,Sx.Bf _,trivial⟩;generalize (h.new (cd [ct,x,y] 95))=hA at *;have x0:=c0.one (o:=0) rfl;have Y:=c0.one (o:=1) rfl;have x2:=c0.one (o:=2) rfl;have f1:∀e:H,Bs (.ptr h.nx 0) 1 e=.ok (.ptr h.nx 1) e:=λe=>by rfl
 have f2:∀e:H,Bs (.ptr h.nx 0) 2 e=.ok (.ptr h.nx 2) e:=λe=>by rfl
 have f0:∀e:H,Bs (.ptr h.nx 0) 0 e=.ok (.ptr h.nx 0) e:=λe=>by rfl
 refine Sx.Ey (f1 _) (Sx.Ey (Y _ (Sx.Bi.refl _)) ?_);refine Fj (m x n hA (k.gr g1) hn (q.gr g1)) λv4 X L l4 D U=>?_;obtain⟨i,rfl,_,B⟩:=U;have z:∀(i:Int),i<=100->∀e:H,Aj prog .gtr 3 true (iI i) (iI 4000) e=.ok ct e:=λi B e=>by show OR.ok (.bool (ilt 4000 i)) e=_;rw[Il,Yg om]
 have z2:=z i B;have t:=(hU k);clear k D c0;refine wk ?_;replace t:NtS h x (lbN n):=t;have A:=g1.trans L;refine Fj (m y d X (u.gr A) f (q.gr A)) λv5 hC F l5 C T=>?_;obtain⟨V,rfl,_,I⟩:=T;have z3:=z V I;have G:=A.trans F;have Q:=L.trans F;have M:=λe (g:Sx.Ai h e)=>j x n e (t.gr g) hn (q.gr g);have R:=λe (g:Sx.Ai h e)=>j y d e (u.gr g) f (q.gr g);have p:=λe (g:Sx.Ai h e)=>E y _ e (u.gr g);have ln:=(AlG (n:=(n:Int)) ⟨by omega,by omega⟩).2.2.1;have ld:=(AlG (n:=(d:Int)) ⟨by omega,by omega⟩).2.2.1;have e1:decide (lbN d=[1])=decide (d=1):=cj.2 (Aw5 f);unfold fTx;rw[e1]at p;generalize V8 (n:Int)=sn at *;generalize V8 (d:Int)=sd at *;have a1:∀e:H,Aj prog .add 9 true (.str [47]) (.str sd) e=.ok (.str (47::sd)) e:=λe=>Sx.A6v (P:=prog) (h:=e) 9 true [47] sd (by grind);have a2:∀e:H,Aj prog .add 9 false (.str sn) (.str (47::sd)) e=.ok (.str (sn++47::sd)) e:=λe=>Sx.A6v (P:=prog) (h:=e) 9 false sn (47::sd) (by grind);clear u t C z e1 hn q B I ln ld;refine wk ?_;refine Fj (M _ G) λv6 hD J l6 W S=>?_;subst S;have K:=G.trans J;have uD:=Q.trans J;refine wk ?_;rw[Bln];refine wk (Fj (p _ K) λv7 hE O l7 AvU q7=>?_);by_cases h1:d=1;. rw[Xo h1];refine wk ?_;exact zr Ex rfl
 .rw[X2 h1];refine wk ?_;refine Fj (R _ (K.trans O)) λv8 hF e8 l8 BfJ q8=>wk ?_;exact zr Ex rfl
def CbH(p:BsW Z)(o:B1a Z)(j:Bl0 Z)(k:B0B Z)(m:B0C Z)(hn:n<1000000000)(i:d<1000000000)(h0:0<d)(J:AeZ h):
 Sx.Ah h (λr _=>r=.Bj [.str (fTx (n/Nat.gcd n d) (d/Nat.gcd n d)),iI 0]) (ml Z N 287 [.str (V8 (n:Int)),.str (V8 (d:Int))] h):=by
 have nn:Num (n:Int):=⟨by omega,by omega⟩;have f:Num (d:Int):=⟨by omega,by omega⟩;have ln:=(AlG nn).2.2.1;have ld:=(AlG f).2.2.1;have R:V8 (d:Int)≠[48]:=λe=>by have:=(Alj f.1 f.2).2.1;rw[e]at this;have h2:(AnE [48]:Int)=0:=rfl;omega
 rw[B85];refine Fj ((λg=>p _ g nn) _) λv1 hA e1 l1 F W=>(wk ?_);refine Fj ((λg=>o _ g f) _) λv2 hB G l2 O q2=>(wk (Fj ((λg=>j _ g nn) _) λv3 S P l3 z E=>(Fj ((λg=>j _ g f) _) λv4 V t l4 Q K=>Fj (k _ _ n d _ (E.gr t) K hn i h0) λv5 Y u U L I=>?_)));obtain⟨x,y,rfl,A,B⟩:=I;have q:=(((e1.trans G).trans P).trans t).trans u;refine Fj (m x y _ _ _ A B (Xy (Oa ..) (T8 hn):n/Nat.gcd n d<=1000000000) (Xy (Oa ..) (T8 i)) (J.gr q)) λT X D l6 M C=>?_;subst C;exact Sx.Ey rfl (Sx.Ey rfl (Sx.Lo (q.trans D) rfl))
def BfC:∀s i,c ∉ s->Ak9 c s i=-1
|[],i,_=>rfl
|a::s,i,h=>by show @Bool.rec _ _ ..=-1;rw[show Nat.beq a c=false by cases hb:Nat.beq a c with
  |false=>rfl
  |true=>simp_all];exact BfC s _ λe=>h (Wr _ e)
def BfB:∀a b i,c ∉ a->Ak9 c (a++c::b) i=(i+a.length:Nat)
|[],b,i,_=>by show @Bool.rec _ _ ..=_;simp
|x::a,b,i,h=>by show @Bool.rec (λ_=>Int) (Ak9 c (a++c::b) _) ..=_;rw[show Nat.beq x c=false by cases hb:Nat.beq x c with
  |false=>rfl
  |true=>simp_all,BfB a b _ λe=>h (Wr _ e),Y7];grind
def B0Q:=∀s h,Sx.Ah h (λr _=>r=iI (Ak9 47 s 0)) (Z.call 212 [.str s,ch 47] h)
def Ccq:Sx.Ah h (λr _=>r=iI (Ak9 47 s 0)) (ml Z N 212 [.str s,ch 47] h):=by rw[B9h,(rfl:Uk ..=2)];exact Sx.Ey rfl (Sx.Lo (Sx.Ai.refl h) rfl)
def B0J:=∀s h,Sx.Ah h (λr _=>r=iI (Ak9 47 s 0)) (Z.call 188 [.str s,.str [47]] h)
def Cci(f:B0Q Z):Sx.Ah h (λr _=>r=iI (Ak9 47 s 0)) (ml Z N 188 [.str s,.str [47]] h):=by
 have m:∀g,xIx _ _ (.str [47]) (iI 0) g=.ok ..:=λg=>A0l rfl;rw[B8R];by_cases e:s=[47];. rw[(by rw[e];rfl:Ak9 47 s 0=0)];refine wk ?_;exact zr Ex rfl
 .have k:decide ([47]=s)=false:=Yg λh=>e h.symm;refine wk (Fj (f s _) λv1 h1 e1 l1 j i=>?_);subst i;exact zr e1 rfl
def Bia s a b f:=f=false/\47 ∉ s/\a=s/\b=[]\/f=true/\47 ∉ a/\s=a++47::b
def B0D:=∀s a b f h,Bia s a b f->s.length<=100->Sx.Ah h (λr _=>r=.Bj [.str a,.str b,.bool f]) (Z.call 168 [.str s,.str [47]] h)
def CbV{a b}{f}(j:B0J Z)(q:Bia s a b f)(m:s.length<=100):Sx.Ah h (λr _=>r=.Bj [.str a,.str b,.bool f]) (ml Z N 168 [.str s,.str [47]] h):=by
 have hq:=j s h;rw[B8G];rcases q with⟨rfl,h1,rfl,rfl⟩|⟨rfl,h1,rfl⟩;. rw[BfC _ 0 h1]at hq;exact Fj hq λv1 h1 e1 l1 g o=>wk (zr Ex rfl)
 .rw[BfB a b 0 h1,Rx]at hq;rw[Xi,Y7]at m;have t:∀e,xSl _ 9 (.str (a++47::b)) _ (some (iI a.length)) e=.ok ..:=λe=>by rw[Sx.Awe xi9 (by simp),K8]
  have p:∀e,xSl prog 9 (.str (a++47::b)) (some (iI (a.length+1))) none e=.ok (.str b) e:=λe=>by have:=Sx.A3e (h:=e) (a:=a++47::b) (k:=a.length+1) xi9 (by simp);simp_all
  have⟨i,hi⟩:∃i:Int,i=a.length:=⟨_,rfl⟩;rw[<- hi]at hq t p;have x:0<=i:=by omega
  have u:i<=100:=by omega
  refine Fj hq λv1 h1 e1 l1 g o=>?_;clear g hq hi m;exact wk (zr Ex rfl)
def BsO:=∀s a b f h,Bia s a b f->s.length<=100->Sx.Ah h (λr _=>r=.Bj [.str a,.str b,.bool f]) (Z.call 145 [.str s,.str [47]] h)
def CbK{a b}{f}(e:B0D Z)(j:Bia s a b f)(g:s.length<=100):Sx.Ah h (λr _=>r=.Bj [.str a,.str b,.bool f]) (ml Z N 145 [.str s,.str [47]] h):=by rw[B86];exact Fj (e s a b f h j g) λv1 h1 e1 l1 i k=>wk (zr Ex rfl)
def Bfa{n d:Nat}(hn:n<=1000000000)(hd:d<=1000000000):Bia (fTx n d) (V8 n) (if d=1 then[]else V8 d) (decide (d≠1))/\(fTx n d).length<=100:=by
 have d1:=AlG (n:=n) ⟨by omega,by omega⟩;have d2:=AlG (n:=d) ⟨by omega,by omega⟩;have n1:47 ∉ V8 (n:Int):=λh=>by grind
 unfold fTx;by_cases h1:d=1;. rw[Xo h1,Xo h1];exact⟨.inl ⟨Yg (by omega),n1,rfl,rfl⟩,by grind⟩
 .rw[X2 h1,X2 h1];exact⟨.inr ⟨Ws h1,n1,rfl⟩,by grind⟩
def CaA n d(r:AV) h1:=∃x y,NtS h1 x (lbN n)/\NtS h1 y (lbN d)/\r=.Bj [.agg [ct,x,y],iI 0]
def B09:=∀(n d:Nat) h,n<1000000000->d<1000000000->0<d->Nat.gcd n d=1->Sx.Ah h (CaA n d) (Z.call 108 [.str (fTx n d)] h)
def Cbl(k:Bl0 Z)(q:Bl1 Z)(E:Bh2 Z){b:Nat}{f0:L2}(hn:n<1000000000)(G:d<1000000000)(h0:0<d)(hg:Nat.gcd n d=1)(g:Sx.Ai h hd)(hb:h.nx<=b)(B6:b<hd.nx)(O:hd.m.get b=cd [ct,.Bv,.Bv] 95)(sl:Bool):
 Sx.Ah h (CaA n d) (A6w Z N (.ptr b 0) (.str (V8 (d:Int))) (.bool sl) ct (.str (V8 (n:Int))) ux f0 hd):=by
 have nn:Num (n:Int):=⟨by omega,by omega⟩;have t:Num (d:Int):=⟨by omega,by omega⟩;have ln:=(AlG nn).2.2.1;have ld:=(AlG t).2.2.1;have c3:=λe=>k _ e nn;have c4:=λe=>k _ e t;rw[Lm]at c3 c4;generalize V8 (n:Int)=sn at *
 generalize V8 (d:Int)=sd at *
 have k1:decide ((4000:Int)<(sn.length:Int))=false:=df;have k2:decide (4000<sn.length)=false:=df;have k3:decide ((4000:Int)<(sd.length:Int))=false:=df;have k4:decide (4000<sd.length)=false:=df;rw[Blm];clear ln ld nn t;refine wk ?_;refine Fj (c3 hd) λv3 X V l3 p F=>?_;refine Fj (c4 X) λv4 f P l4 z D=>?_;have j:=F.gr P;have gD:=(g.trans V).trans P;have bD:=(z b om).trans ((p b om).trans O);have s1:=AiZ F;have s2:=AiZ D;refine Sx.Ey (Bdb s1 s2 _) ?_;refine Sx.Ey (v:=.ptr f.nx 0) (h:=f.new (cd [ct,.Bv,.Bv] 95)) rfl ?_;refine Sx.Ey (A2n s1 s2 (Sx.Bf _) rfl) ?_;have y:Sx.Ai f ((f.new (cd [ct,.Bv,.Bv] 95)).put f.nx (cd [ct,v3,v4] 95)):=((Sx.Ai.refl f).new _).put _ _ (Ye _);have M:Sx.Nv ((f.new (cd [ct,.Bv,.Bv] 95)).put f.nx (cd [ct,v3,v4] 95)) f.nx [ct,v3,v4]:=⟨Y3 _,_,_,Sx.A2 _ _,trivial⟩;generalize ((f.new (cd [ct,.Bv,.Bv] 95)).put f.nx (cd [ct,v3,v4] 95))=hE at *
 have x1:=M.one (o:=1) rfl;have x2:=M.one (o:=2) rfl;have x3:=M.many (o:=0) (n:=3) (by show 0+3<=3;decide) (l:=[ct,v3,v4]) rfl
 have f1:∀e:H,Bs (.ptr f.nx 0) 1 e=.ok (.ptr f.nx 1) e:=λe=>by rw[Sx.E3,Rx]
 have f2:∀e:H,Bs (.ptr f.nx 0) 2 e=.ok (.ptr f.nx 2) e:=λe=>by rw[Sx.E3,Rx]
 have W:=gD.trans y;have U:=(y.Cf b om).trans bD;have i:∀e:H,Sx.Ai h e->NtS e v3 (lbN n)->NtS e v4 (lbN d)->e.m.get b=cd [ct,.Bv,.Bv] 95->Sx.Ah h (CaA n d)
  (Aa (A4 3 (.ptr b 0) (.agg [ct,v3,v4]) e) λMb Wc=>Vk [.c (some (some 3)) (.ptr b 0),.v (iI 0)] Wc):=by
  intro e g z1 z2 c;refine Sx.Ey (A2n s1 s2 c rfl) ?_;rw[Bii (na:=3) (Sx.A2 _ _) rfl];exact Sx.Lo (g.put _ _ hb) ⟨_,_,AtT z1 (.inl rfl) (.inl rfl) c,AtT z2 (.inl rfl) (.inl rfl) c,rfl⟩
 cases sl with
 |false=>
  have u:=(show F5 _ from j.gr y)
  have x:=(show F5 _ from D.gr y)
  clear F j D p z c3 c4 k q E;have wt:∀(w:Bool) (r:OR) (e:H),Ad (.Bj []) w r e=.ok (.Bj []) e:=λw r e=>Sx.A0V [] w r e;replace i:=(hU i)
  refine wk ?_;exact(gw i) _ W u x U
 |true=>
  have I:=j.gr y;have J:=D.gr y;have u:=(hU I)
  have x:=(hU J)
  have c9:=q v3 v4 n d hE I J hn G;rw[hg]at c9;clear p z c3 c4 k q F j D I J;replace i:=(hU i)
  refine wk ?_;refine Fj c9 λS T e9 l9 Q A=>?_;have B:=(hU A)
  clear A;refine wk ?_;have A:NtS T S (lbN 1):=B;refine Fj (E S _ T A) λY hG K l10 L R=>?_;subst R;have C:=e9.trans K;have bG:=(C.Cf b (by have:=y.lo;have:=V.lo;have:=P.lo;omega)).trans U
  have gG:=W.trans C;have kd:decide (lbN 1=[1])=true:=rfl;clear Q L c9 A B;refine wk ?_;refine Sx.Ey (x3 hG C.keeps) ?_;exact(gw i) _ gG (NtS.gr (show NtS hE v3 (lbN n)from u) C) (NtS.gr (show NtS hE v4 (lbN d)from x) C) bG
def CbG(J:BsO Z)(D:BsW Z)(E:Bl8 Z)(q:Bl0 Z)(k:Bl1 Z)(t:Bh2 Z)(hn:n<1000000000)(j:d<1000000000)(h0:0<d)(x:Nat.gcd n d=1):
 Sx.Ah h (CaA n d) (ml Z N 108 [.str (fTx n d)] h):=by
 obtain⟨A,C⟩:=Bfa (n:=n) (d:=d) (T8 hn) (T8 j);have nn:Num (n:Int):=⟨by omega,by omega⟩;have p:Num (d:Int):=⟨by omega,by omega⟩;have c1:=λi=>J _ _ _ _ i A C;have c2:=λi=>D _ i nn;have c3:=λi=>E _ i p;have F:∀m:Nat,m<=1000000000->AnE (V8 (m:Int))=m:=λm S=>by have:=(Alj (n:=(m:Int)) om om).2.1;omega
 have o:=λ(hd:H) (b:Nat) (f0:L2)=>Cbl Z N (h:=h) (hd:=hd) (b:=b) (f0:=f0) q k t hn j h0 x;have wt:∀(w:Bool) (r:OR) (i:H),Ad (.Bj []) w r i=.ok (.Bj []) i:=λw r i=>Sx.A0V [] w r i;rw[B84];by_cases h1:d=1
 .subst h1;rw[show(decide ((1:Nat)≠1))=false from rfl,Xo rfl]at c1
  have e49:V8 ((1:Nat):Int)=[49]:=by decide
  rw[e49]at o;generalize fTx n 1=s at *
  generalize V8 (n:Int)=sn at *
  clear A C nn p c3 q k t x;replace o:=(hU o)
  refine wk ?_;refine Fj (c1 _) λv1 G e1 l1 f z=>?_;subst z;have b1:=(f h.nx mh).trans (Sx.Bf _);have g1:Sx.Ai h G:=Sx.Ai.trans Ex e1;simp only[C9]at l1;clear f c1;refine wk ?_;refine Fj (c2 _) λv2 K B l2 g I=>?_;subst I;have b2:=(g h.nx om).trans b1;clear g c2;refine wk ?_;exact(gw o) _ _ _ (g1.trans B) (Ye _) om b2 false
 .rw[show(decide (d≠1))=true from Ws h1,X2 h1]at c1
  have v1:=F n (T8 hn);have v2:=F d (T8 j);have y:n≠0:=by rintro rfl;rw[Nat.gcd_zero_left]at x;exact h1 x
  have P:decide (V8 (n:Int)=[48])=false:=Yg λe=>by rw[e]at v1;exact y (v1.symm.trans rfl)
  have T:decide (V8 (d:Int)=[48])=false:=Yg λe=>by rw[e]at v2;have:d=0:=v2.symm.trans rfl;omega
  have R:decide (V8 (d:Int)=[49])=false:=Yg λe=>by rw[e]at v2;exact h1 (v2.symm.trans rfl)
  generalize fTx n d=s at *
  generalize V8 (n:Int)=sn at *
  generalize V8 (d:Int)=sd at *
  clear A C nn p q k t x v1 v2 F h1 y;replace o:=(hU o)
  refine wk ?_;refine Fj (c1 _) λv1 G e1 l1 f z=>?_;subst z;have b1:=(f h.nx mh).trans (Sx.Bf _);have g1:Sx.Ai h G:=Sx.Ai.trans Ex e1;simp only[C9]at l1;clear f c1;refine wk ?_;refine Fj (c2 _) λv2 K B l2 g I=>?_;subst I;have b2:=(g h.nx om).trans b1;clear g c2;refine wk ?_;refine Fj (c3 _) λv3 Q O l3 u M=>?_;subst M;have L:=(u h.nx om).trans b2;clear u c3;refine wk ?_;exact(gw o) _ _ _ ((g1.trans B).trans O) (Ye _) om L true
def Ckj:Prop:=∀(n d:Nat) (h:H),n<1000000000->d<1000000000->0<d->Nat.gcd n d=1->Sx.Ah h (λr _=>r=iI 0) (Z.call 70 [.str (fTx n d)] h)
def CwU(f:B09 Z)(hn:n<1000000000)(e:d<1000000000)(h0:0<d)(i:Nat.gcd n d=1):Sx.Ah h (λr _=>r=iI 0) (ml Z N 70 [.str (fTx n d)] h):=by rw[e92];refine Fj (f n d h hn e h0 i) λv1 hA e1 l1 m g=>?_;obtain⟨x,y,j,k,rfl⟩:=g;refine Sx.Ey rfl (Sx.Ey rfl ?_);refine Sx.Ey (v:=.ptr hA.nx 0) (h:=hA.new (cd [ct,.Bv,.Bv] 95)) rfl ?_;refine Sx.Ey (A2n (AiZ j) (AiZ k) (Sx.Bf _) rfl) ?_;exact Sx.Lo ((e1.new _).put _ _ e1.lo) rfl
def B5w(m:Ckj Z)(t:BsO Z)(hn:n<1000000000)(g:d<1000000000)(h0:0<d)(p:Nat.gcd n d=1):Sx.Ah h (λr _=>r=.Bj [.str (V8 (n:Int)),.str (V8 (d:Int)),iI 0]) (ml Z N 293 [.str (fTx n d)] h):=by
 obtain⟨o,j⟩:=Bfa (n:=n) (d:=d) (T8 hn) (T8 g);have c1:=λi=>t _ _ _ _ i o j;have c2:=m n d h hn g h0 p;have z:∀i:H,Aj prog .neq 35 true (iI 0) (iI 0) i=.ok ct i:=λi=>rfl;rw[B83];by_cases h1:d=1
 .subst h1;rw[show(decide ((1:Nat)≠1))=false from rfl,Xo rfl]at c1
  have e49:V8 ((1:Nat):Int)=[49]:=by decide
  rw[e49];generalize fTx n 1=s at *
  generalize V8 (n:Int)=sn at *
  clear o j p;refine Fj c2 λv1 x e1 l1 e k=>?_;subst k;clear e c2;refine wk ?_;refine Fj (c1 _) λv2 u y l2 f q=>?_;subst q;clear f c1;refine wk ?_;exact zr Ex rfl
 .rw[show(decide (d≠1))=true from Ws h1,X2 h1]at c1
  generalize fTx n d=s at *
  generalize V8 (n:Int)=sn at *
  generalize V8 (d:Int)=sd at *
  clear o j p;refine Fj c2 λv1 x e1 l1 e k=>?_;subst k;clear e c2;refine wk ?_;refine Fj (c1 _) λv2 u y l2 f q=>?_;subst q;clear f c1;refine wk ?_;exact zr Ex rfl
variable {b1 b2:Nat}
def A5M{st}{p}{fr}{ps}{a c}(e:h.m.get l=.loop st p fr ps a c):endRound l (some .ret) h=.ok ct (h.put l (.loop 2 (some .ret) fr ps a c)):=by unfold endRound;grind
def BxI(U:B0F Z){D u B t A C j p k y5:AV}{q r g x y i:Nat}{z:AV}
 (K:hd.m.get l=.loop 0 none (AiV D u (.ptr q 0) (.ptr r 0) (.ptr g 0) B t A C j p k) [18,19] Aay AaG)
 (cA:Sx.Nv hd q [v]) (cB:Sx.Nv hd r [v2]) (kn:NtS hd v ls) (k2:NtS hd v2 l2) (T:ls[i]?=some x) (hy:l2[i]?=some y) (g4:hd.m.get g=cd [iI 0] 3)
 (lA:g<hd.nx/\l<hd.nx) (dis:g≠l/\q≠l/\r≠l):
 Sx.Ah Sx.H0 (λrr h'=>(x=y/\rr=ux/\PS [g,l] hd h'/\h'.m.get g=cd [iI 0] 3/\h'.m.get l=hd.m.get l)\/(x≠y/\rr=ct/\PS [g,l] hd h'/\h'.m.get g=cd [iI (Aoq x y)] 3/\h'.m.get l=.loop 2 (some .ret) (AiV D u (.ptr q 0) (.ptr r 0) (.ptr g 0) B t A C j p k) [18,19] Aay AaG))
  (Aze prog Z N false l [iI (i:Int),y5] hd):=by
 obtain⟨l1,l2'⟩:=lA;obtain⟨n1,n2,n3⟩:=dis;have J:∀cs e kk,hd.m.get l≠.cells cs e kk:=λcs e kk G=>by rw[K]at G;cases G
 have R:∀st,hd.m.get l≠.Fb st:=λst G=>by rw[K]at G;cases G
 have P:=AtV (Y:=.loop 1 none (AiV D u (.ptr q 0) (.ptr r 0) (.ptr g 0) B t A C j p k) [18,19] Aay AaG) kn J R;have O:=AtV (Y:=.loop 1 none (AiV D u (.ptr q 0) (.ptr r 0) (.ptr g 0) B t A C j p k) [18,19] Aay AaG) k2 J R;obtain⟨b1,o1,el⟩:=Sx.R0.elem (f:=Abb) (s:=1) (λ_=>rfl) P T;obtain⟨b2,o2,M⟩:=Sx.R0.elem (f:=Abb) (s:=1) (λ_=>rfl) O hy;rw[Arc Z N K,B53];rw[K];simp only[];rw[B57];have kA:=AsM (l:=l) (Y:=.loop 1 none (AiV D u (.ptr q 0) (.ptr r 0) (.ptr g 0) B t A C j p k) [18,19] Aay AaG) cA n2 R;have kB:=AsM (l:=l) (Y:=.loop 1 none (AiV D u (.ptr q 0) (.ptr r 0) (.ptr g 0) B t A C j p k) [18,19] Aay AaG) cB n3 R;have e4:(hd.put l (.loop 1 none (AiV D u (.ptr q 0) (.ptr r 0) (.ptr g 0) B t A C j p k) [18,19] Aay AaG)).m.get g=_:=(Sx.Aq _ _ _ n1).trans g4;have eL:(hd.put l (.loop 1 none (AiV D u (.ptr q 0) (.ptr r 0) (.ptr g 0) B t A C j p k) [18,19] Aay AaG)).m.get l=_:=Sx.A2 _ _;have X:PS [g,l] hd (hd.put l (.loop 1 none (AiV D u (.ptr q 0) (.ptr r 0) (.ptr g 0) B t A C j p k) [18,19] Aay AaG)):=(PS.refl _ _).put _ (by simp);have nN:(hd.put l (.loop 1 none (AiV D u (.ptr q 0) (.ptr r 0) (.ptr g 0) B t A C j p k) [18,19] Aay AaG)).nx=hd.nx:=rfl;have xA:=kA.one (o:=0) rfl;have xB:=kB.one (o:=0) rfl;have x2:=el.ia;have x4:=M.ia;have W:=el.part 0 _ rfl;have V:=M.part 0 _ rfl;rw[Vw]at W V;generalize (hd.put l (.loop 1 none (AiV D u (.ptr q 0) (.ptr r 0) (.ptr g 0) B t A C j p k) [18,19] Aay AaG))=h3 at *;clear el M P O kA kB cA cB kn k2 K g4 J R T hy;have nr:∀(L:uw) (G:H),Ab (Be L G)=Ab G:=λ_ _=>rfl;have E:Sx.Bi h3 (Ab h3):=Ao6 rfl rfl;refine Sx.Ey (xA _ E) ?_;simp only[Sx.Te];refine Sx.Ey (x2 _) (Sx.Ey (W _ E) ?_);simp only[Sx.Te];refine Sx.Ey (xB _ E) ?_;simp only[Sx.Te];refine Sx.Ey (x4 _) ?_;simp only[Sx.Te];refine Sx.Ey (V _ E) ?_;simp only[Sx.Te];have w1:Aj prog .neq 134 false (cm (x:Int)) (cm (y:Int)) (Ab h3)=.ok (.bool (!decide (x=y))) (Ab h3):=by
  show OR.ok (.bool (Ib (ieq (x:Int) (y:Int)))) _=_;rw[Sx.X7];by_cases hq:x=y;. rw[Ws hq,Ws om];rfl
  .rw[Yg hq,Yg om];rfl
 refine Sx.Ey w1 ?_;refine Axi (λ_=>False) ?_ λL K=>?_;. simp_all
 have Q:PS [g,l] hd (Be L (Ab h3)):=PS.rl X.nl λz hz=>by
  rcases K z hz with hz|hz;. exact X.lg z hz
  .exact hz.elim
 by_cases hq:x=y;. rw[Ws hq];refine Sx.Ae5 ?_;have I:(Be L (Ab h3)).m.get l=_:=eL;rw[A6P I];refine Sx.Lo ⟨Qt _,λb hb=>absurd hb (dx b),λx _=>.inr (Qt x)⟩ (.inl ⟨hq,rfl,Q.put _ (by simp),(Sx.Aq _ _ _ n1).trans e4,Sx.A2 _ _⟩)
 .rw[Yg hq];refine Sx.Zx ?_;simp only[Sx.Te,nr];refine Sx.Ey (xA _ E) ?_;simp only[Sx.Te];refine Sx.Ey (x2 _) ?_;simp only[Sx.Te];refine Sx.Ey (W _ E) ?_;simp only[Sx.Te];refine Sx.Ey (xB _ E) ?_;simp only[Sx.Te];refine Sx.Ey (x4 _) ?_;simp only[Sx.Te];refine Sx.Ey (V _ E) ?_;simp only[Sx.Te];refine Fj (U x y (Ab h3)) λv5 F S l5 Az4 q5=>?_;subst q5;have g5:F.m.get g=cd [iI 0] 3:=(S.Cf g (by show g<h3.nx;omega)).trans e4;have l5':h3.nx<=F.nx:=l5;refine Sx.Ey (A2o (i:=0) (h:=Ab F) g5 (by simp)) ?_;have d1:wrote F.nx ((Ab F).put g (cd ([AV.int .i64 0].set 0 (iI (Aoq x y))) 3)).lg=[g]:=Sx.Aw _ _ [] om;have d0:wrote h3.nx F.lg=[]:=Sx.Ai.quiet S;refine Axi (λx=>x=g) ?_ λL2 hL2=>?_
  .intro e he;simp only[Wf,Ww,fb]at he;rcases he with rfl|rfl|rfl|rfl|rfl|rfl|rfl|rfl|rfl|rfl
   .refine .inr ⟨λx T=>T0.1 (by rw[<- d1];exact T),?_⟩;intro a ha;simp only[Wf,Ww,fb]at ha;rcases ha with rfl|rfl|rfl|rfl|rfl|rfl|rfl|rfl|rfl|rfl;. exact Sx.Ar ..
    all_goals exact Sx.Ax _ _ _ _ _ _ _ _ _ _ _ _ rfl
   .exact .inl d0
   all_goals exact .inl rfl
  have I:(Be L2 ((Ab F).put g (cd ([AV.int .i64 0].set 0 (iI (Aoq x y))) 3))).m.get l=.loop 1 none (AiV D u (.ptr q 0) (.ptr r 0) (.ptr g 0) B t A C j p k) [18,19] Aay AaG:=
   (Sx.Aq (h:=Ab F) _ _ _ (Ne.symm n1)).trans ((S.Cf l (by show l<h3.nx;omega)).trans eL);rw[A5M I];refine Sx.Lo ⟨Qt _,λb hb=>absurd hb (dx b),λx _=>.inr (Qt x)⟩ (.inr ⟨hq,rfl,PS.put (PS.rl (((X.nl.gr S).nl).put _ (by simp)) λz hz=>?_) _ (by simp),?_,Sx.A2 _ _⟩)
  .rcases hL2 z hz with hz|rfl;. exact Q.lg z hz
   .simp
  .rw[Sx.Aq _ _ _ n1];exact Sx.A2 _ _
variable {a:Nat}
def tr2{n:Nat}(h:n<1000000000000000000):AxV [n%1000000000,n/1000000000]=lbN n:=by
 show(if[n%1000000000,n/1000000000].getLast?=some 0 then AxV [n%1000000000]else _)=_;by_cases h1:n<1000000000
 .rw[Xo (by simp;omega),dm h1,A87 h1]
 .unfold lbN;rw[X2 (by simp;omega),X2 om,X2 h1]
def tr0{n:Nat}(h:n<=1):AxV (List.replicate n 0)=[]:=by
 match n,h with
 |0,_=>rfl
 |1,_=>rfl
def u64_in{n:Nat}(h:n<18446744073709551616):IntKind.u64.min<=0/\((n:Nat):Int)<=IntKind.u64.max:=⟨by decide,by show(n:Int)<=18446744073709551615;omega⟩
def B8z(c:Bool)(a:Nat)(e:H):Aj prog .rem 134 c (cm (a:Int)) (cm 1000000000) e=.ok (cm ((a%1000000000:Nat):Int)) e:=Az9 (k:=.u64) a 1000000000 fe e
def B8x(c:Bool){a:Nat}(h:a<18446744073709551616)(e:H):Aj prog .quo 134 c (cm (a:Int)) (cm 1000000000) e=.ok (cm ((a/1000000000:Nat):Int)) e:=Az8 (k:=.u64) a 1000000000 fe fe (u64_in om).2 e
def CaG:Prop:=∀(v v2:AV) (a b:Nat) (h:H),NtS h v (lbN a)->NtS h v2 (lbN b)->a<1000000000->b<1000000000->Sx.Ah h (λr h1=>NtS h1 r (lbN (a*b))) (Z.call 87 [v,v2] h)
def Cxv(D:3<N)(f:BcD Z){ls l2:uw}(k:NtS h v ls)(i:NtS h v2 l2)(h1:ls=[]/\l2.length<=1):Sx.Ah h (λr h1=>NtS h1 r []) (ml Z N 87 [v,v2] h):=by
 obtain⟨rfl,o⟩:=h1;obtain⟨E,rfl⟩:∃m,N=m+3:=⟨N-3,by omega⟩;have l1:∀e:H,Fo v e=.ok (iI 0) e:=λe=>Sx.Sl.Gs (h:=h) k;have q:∀e:H,Fo v2 e=.ok (iI (l2.length:Int)) e:=λe=>Sx.Sl.Gs (h:=h) i;have u:=λe=>Ayl l2.length om e;generalize z:l2.length=L at *
 have c2:∀e:H,Aj prog .add 3 false (iI 0) (iI (L:Int)) e=.ok (iI (L:Int)) e:=λe=>by show OR.ok (iI (E1 .i64 (0+(L:Int)))) e=_;rw[Iq,lw.2.2 _ om om]
 have j:=λe (g:NtS e (.sl h.nx 0 L L 1 true) (List.replicate L 0))=>f (.sl h.nx 0 L L 1 true) _ e g (by simp;omega) (λx A=>by rw[(List.mem_replicate.1 A).2];decide);rw[tr0 o]at j;have t:NtS (h.new (cd ((List.replicate L 0).flatMap Abb) 134)) (.sl h.nx 0 L L 1 true) (List.replicate L 0):=by have:=Sx.Sl.lit (h:=h) (h1:=h.new (cd ((List.replicate L 0).flatMap Abb) 134)) (s:=1) (len:=L) (cs:=(List.replicate L 0).flatMap Abb) (Sx.Bf _) rfl (by rw[Bd5];simp);show Sx.Sl 1 _ _ (List.replicate L 0).length _;rw[Lx];exact this
 generalize (List.replicate L 0).flatMap Abb=C at *
 rw[B8B];clear k i o z;refine wk ?_;rw[A6B];refine wk ?_;refine Fj (j _ t) λG F p I y B=>?_;exact Sx.Lo (((Sx.Ai.refl h).new _).trans p) B.1
def Cxj(F:3<N)(j:BcD Z)(k:NtS h v [a])(o:NtS h v2 []):Sx.Ah h (λr h1=>NtS h1 r []) (ml Z N 87 [v,v2] h):=by obtain⟨C,rfl⟩:∃m,N=m+3:=⟨N-3,by omega⟩;obtain⟨b1,p,el⟩:=Sx.R0.elem (f:=Abb) (s:=1) (i:=0) (x:=a) (λ_=>rfl) k rfl;have u0:∀e:H,Gc 1 v (iI 0) e=.ok (.ptr b1 p) e:=el.ia;have B:∀e,Sx.Bi h e->Ae (some none) (.ptr b1 p) e=.ok (cm a) e:=el.part 0 _ rfl;have l1:∀e:H,Fo v e=.ok (iI 1) e:=λe=>Sx.Sl.Gs (h:=h) k;have l2:∀e:H,Fo v2 e=.ok (iI 0) e:=λe=>Sx.Sl.Gs (h:=h) o;have y:∀e:H,A3d prog 93 (iI 1) (iI 1) e=.ok (.sl e.nx 0 1 1 1 true) (e.new (cd [cm 0] 134)):=λe=>Ayl 1 fe e;have w0:∀e:H,Gc 1 (.sl h.nx 0 1 1 1 true) (iI 0) e=.ok (.ptr h.nx 0) e:=λe=>A6n (i:=0) (off:=0) fe e;have u:=λe (g:NtS e (.sl h.nx 0 1 1 1 true) [0])=>j _ _ e g fe fe;rw[B8B];clear el k o;refine wk ?_;rw[A6B];refine wk ?_;rw[A0n];refine wk ?_;rw[A6B];refine wk ?_;have t:Sx.Ai h ((h.new (cd [cm 0] 134)).put h.nx (cd [cm 0] 134)):=((Sx.Ai.refl h).new _).put _ _ (Ye _);refine Fj (u _ (.inr ⟨_,_,_,_,_,rfl,Ye _,⟨Y3 _,_,_,Sx.A2 _ _,trivial⟩,Ye _,rfl⟩)) λE D q G z A=>?_;exact Sx.Lo (t.trans q) A.1
def Cxp(R:3<N)(q:BcD Z)(k:NtS h v [a])(u:NtS h v2 [b])(ha:a<1000000000)(hb:b<1000000000):Sx.Ah h (λr h1=>NtS h1 r (lbN (a*b))) (ml Z N 87 [v,v2] h):=by
 obtain⟨M,rfl⟩:∃m,N=m+3:=⟨N-3,by omega⟩;have y:a*b<1000000000000000000:=Ql (cq a (T8 hb)) om;obtain⟨b1,p,el⟩:=Sx.R0.elem (f:=Abb) (s:=1) (i:=0) (x:=a) (λ_=>rfl) k rfl;obtain⟨b2,o,j⟩:=Sx.R0.elem (f:=Abb) (s:=1) (i:=0) (x:=b) (λ_=>rfl) u rfl;have u0:∀e:H,Gc 1 v (iI 0) e=.ok (.ptr b1 p) e:=el.ia;have u2:∀e:H,Gc 1 v2 (iI 0) e=.ok (.ptr b2 o) e:=j.ia;have P:∀e,Sx.Bi h e->Ae (some none) (.ptr b1 p) e=.ok (cm a) e:=el.part 0 _ rfl;have O:∀e,Sx.Bi h e->Ae (some none) (.ptr b2 o) e=.ok (cm b) e:=j.part 0 _ rfl;have l1:∀e:H,Fo v e=.ok (iI 1) e:=λe=>Sx.Sl.Gs (h:=h) k;have l2:∀e:H,Fo v2 e=.ok (iI 1) e:=λe=>Sx.Sl.Gs (h:=h) u;have E:∀e:H,A3d prog 93 (iI 2) (iI 2) e=.ok (.sl e.nx 0 2 2 1 true) (e.new (cd [cm 0,cm 0] 134)):=λe=>Ayl 2 fe e;have w0:∀e:H,Gc 1 (.sl h.nx 0 2 2 1 true) (iI 0) e=.ok (.ptr h.nx 0) e:=λe=>A6n (i:=0) (off:=0) fe e;have w1:∀e:H,Gc 1 (.sl h.nx 0 2 2 1 true) (iI 1) e=.ok (.ptr h.nx 1) e:=λe=>A6n (i:=1) (off:=0) fe e;have a1:=λe=>At6 (k:=.u64) (ty:=134) (c:=false) a b (u64_in (n:=a*b) om).1 (u64_in om).2 e;have a2:∀e:H,Aj prog .add 134 false (cm 0) (cm ((a*b:Nat):Int)) e=.ok (cm ((a*b:Nat):Int)) e:=λe=>by have:=Am1 (k:=.u64) (ty:=134) (c:=false) 0 (a*b) fe (by rw[Rx];exact(u64_in om).2) e;rw[Rx]at this;exact this
 have J:∀e:H,Aj prog .add 134 false (cm ((a*b:Nat):Int)) (cm 0) e=.ok (cm ((a*b:Nat):Int)) e:=λe=>Am1 (k:=.u64) (ty:=134) (c:=false) (a*b) 0 fe (u64_in om).2 e;have L:=λe=>B8z true (a*b) e;have K:=λe=>B8x true (a:=a*b) om e;have z:=λe (g:NtS e (.sl h.nx 0 2 2 1 true) [a*b%1000000000,a*b/1000000000])=>q _ _ e g (by show 2<=10;decide) (λx t=>by
  rcases Wf.1 t with rfl|t
  .omega
  .rw[T0.1 t];omega)
 rw[tr2 y]at z;generalize a*b%1000000000=p0 at *
 generalize a*b/1000000000=p1 at *
 generalize a*b=m at *
 rw[B8B];clear el j k u ha hb y;refine wk ?_;rw[A6B];refine wk ?_;rw[A0n];refine wk ?_;rw[A0n];refine wk ?_;rw[A6B];refine wk ?_;have C:=λp o D=>(((Sx.Ai.refl h).new p).put h.nx o (Ye _)).put h.nx D (Ye _);refine Fj (z _ (.inr ⟨_,_,_,_,_,rfl,Ye _,⟨Y3 _,_,_,Sx.A2 _ _,trivial⟩,Ye _,rfl⟩)) λQ I A G F B=>?_;exact Sx.Lo ((C _ _ _).trans A) B.1
def CvR(g:3<N)(e:BcD Z)(k:NtS h v (lbN a))(f:NtS h v2 (lbN b))(ha:a<1000000000)(hb:b<1000000000):Sx.Ah h (λr h1=>NtS h1 r (lbN (a*b))) (ml Z N 87 [v,v2] h):=by
 by_cases h1:a=0
 .subst h1;rw[Ou];refine Cxv Z N g e k f ⟨rfl,?_⟩;unfold lbN;split
  .exact Qt _
  .exact Ye _
 .rw[A5g om ha]at k;by_cases h2:b=0
  .subst h2;exact Cxj Z N g e k f
  .rw[A5g om hb]at f;exact Cxp Z N g e k f ha hb
def mk0(n:Nat)(hn:n<=10)(e:H):A3d prog 93 (iI 0) (iI (n:Int)) e=.ok (.sl e.nx 0 0 n 1 true) (e.new (cd ((List.replicate n 0).flatMap Abb) 134)):=by
 obtain⟨u1,u2⟩:=B5L _ rfl;unfold A3d;simp only[u1,u2,show Arm (iI (n:Int))=some n from rfl,show Arm (iI 0)=some 0 from rfl]
 rw[show Nat.ble 0 n=true by simp,show Gj (n*(8+1+1))=true by rw[Sx.Fi];exact Ws om,BsB]
 rfl
def CfT{q b2:Nat}{C:uz}{x:Int}(j:h.m.get q=cd C 134)(f:C.length=2)(hb:h.m.get b2=cd [cm x] 134)(g:b2<h.nx):Ds 134 1 8 (.sl q 0 0 2 1 true) (.sl b2 0 1 1 1 true) h=.ok (.sl q 0 1 2 1 true) (h.put q (cd (C.set 0 (cm x)) 134)):=by
 have s1:Hd h 1 (.sl b2 0 1 1 1 true)=some (1,[cm x]):=Sx.Sl.src (h:=h) (.inr ⟨_,_,_,_,_,rfl,Ye _,⟨g,_,_,hb,trivial⟩,Ye _,rfl⟩);have i:Ds 134 1 8 (.sl q 0 0 2 1 true) (.sl b2 0 1 1 1 true) h=(match Hd h 1 (.sl b2 0 1 1 1 true)with
  |some (n,new)=>(@Bool.rec (λ_=>OR) (.bad 121) ((@Bool.rec (λ_=>OR) (.bad 121) ((@Bool.rec (λ_=>OR) (.bad 121) (Lg ⟨134,1,8⟩ q 0 0 2 1 true n new h) (Nat.beq 1 1))) (Bm new))) (Gj ((0+n)*(8+1))))
  |none=>.bad 123):=rfl
 rw[i,s1];have e:h.wr q 0 [cm x]=.ok (h.put q (cd (C.set 0 (cm x)) 134)):=by
  rw[Sx.As0,j,Sx.Afa];match C,f with
  |[c0,c1],_=>rfl
 show(RH.rec (motive:=λ_=>OR) .bad (λh'=>.ok (.sl q 0 1 2 1 true) h') (h.wr q 0 [cm x]):OR)=_;rw[e]
def ClP(e:H):Aj prog .gtr 134 true (cm 0) (cm 0) e=.ok ct e:=rfl
def Ckc:Prop:=∀(v v2:AV) (a b:Nat) (h:H),NtS h v (lbN a)->NtS h v2 (lbN b)->a+b<1000000000->Sx.Ah h (λr h1=>NtS h1 r (lbN (a+b))) (Z.call 153 [v,v2] h)
def B5U(c:Bool){a b:Nat}(h:a+b<18446744073709551616)(e:H):Aj prog .add 134 c (cm (a:Int)) (cm (b:Int)) e=.ok (cm ((a+b:Nat):Int)) e:=Am1 (k:=.u64) a b fe (u64_in h).2 e
def ChU(L:3<N)(k:NtS h v [a])(hb:(NtS h v2 []/\b=0)\/NtS h v2 [b])(t:a+b<1000000000)(ha:0<a)(f0:L2):Sx.Ah h (λr h1=>NtS h1 r (lbN (a+b))) (A6Y Z N v v2 f0 h):=by
 obtain⟨G,rfl⟩:∃m,N=m+3:=⟨N-3,by omega⟩;obtain⟨b1,B,el⟩:=Sx.R0.elem (f:=Abb) (s:=1) (i:=0) (x:=a) (λ_=>rfl) k rfl;have u0:∀e:H,Gc 1 v (iI 0) e=.ok (.ptr b1 B) e:=el.ia;have J:∀e,Sx.Bi h e->Ae (some none) (.ptr b1 B) e=.ok (cm a) e:=el.part 0 _ rfl;have l1:∀e:H,Fo v e=.ok (iI 1) e:=λe=>Sx.Sl.Gs (h:=h) k;have D:∀e:H,A3d prog 93 (iI 0) (iI 2) e=.ok (.sl e.nx 0 0 2 1 true) (e.new (cd [cm 0,cm 0] 134)):=λe=>mk0 2 fe e;have C:∀o g z,Sx.Ai h (((h.new o).new g).put h.nx z):=λo g z=>(((Sx.Ai.refl h).new o).new g).put h.nx z (Ye _);have K:∀e:H,Aj prog .add 134 false (cm (a:Int)) (cm 0) e=.ok (cm (a:Int)) e:=λe=>B5U false (a:=a) (b:=0) om e;have q0:=λe=>B8x true (a:=a+b) om e;have A:=λe=>B8z true (a+b) e;rw[Ks t]at q0;rw[dm t]at A;have I:=ClP;have j:∀(s:Nat),Ds 134 1 8 (.sl h.nx 0 0 2 1 true) (.sl (h.nx+1) 0 1 1 1 true) ((h.new (cd [cm 0,cm 0] 134)).new (cd [cm (s:Int)] 134))=.ok (.sl h.nx 0 1 2 1 true) (((h.new (cd [cm 0,cm 0] 134)).new (cd [cm (s:Int)] 134)).put h.nx (cd [cm (s:Int),cm 0] 134)):=λs=>CfT ((Sx.Cq _ _ (Y3 _ |> Lb)).trans (Sx.Bf _)) rfl (Sx.Bf (h:=h.new _) _) (Y3 _);have p:∀(s:Nat) (g:AO),NtS (((h.new (cd [cm 0,cm 0] 134)).new g).put h.nx (cd [cm (s:Int),cm 0] 134)) (.sl h.nx 0 1 2 1 true) [s]:=λs g=>.inr ⟨_,_,_,_,_,rfl,by show 1<=2;decide,⟨Sa (Y3 _),_,_,Sx.A2 _ _,trivial⟩,by show 0+1*1<=2;decide,rfl⟩
 rw[A5g om t];have y:∃l2:Int,(∀e:H,Fo v2 e=.ok (iI l2) e)/\((l2=0/\b=0)\/(l2=1/\∃b2 g,(∀e:H,Gc 1 v2 (iI 0) e=.ok (.ptr b2 g) e)/\∀e,Sx.Bi h e->Ae (some none) (.ptr b2 g) e=.ok (cm b) e)):=by
  rcases hb with⟨u,rfl⟩|u
  .exact⟨0,λe=>Sx.Sl.Gs (h:=h) u,.inl ⟨rfl,rfl⟩⟩
  .obtain⟨b2,g,q⟩:=Sx.R0.elem (f:=Abb) (s:=1) (i:=0) (x:=b) (λ_=>rfl) u rfl;exact⟨1,λe=>Sx.Sl.Gs (h:=h) u,.inr ⟨rfl,b2,g,q.ia,q.part 0 _ rfl⟩⟩
 obtain⟨l2,F,y⟩:=y;clear el k hb;rcases y with⟨rfl,rfl⟩|⟨rfl,b2,g,u2,M⟩
 .simp only[Vw]at q0 A;rw[Vw];have E:=j a;clear t ha j;rw[Bio];refine wk ?_;rw[A9B];refine wk ?_;rw[BwY];refine wk ?_;rw[BwZ];refine wk ?_;rw[A9B];refine wk ?_;exact Sx.Lo (C _ _ _) (p _ _)
 .have a1:=λe=>B5U false (a:=a) (b:=b) om e;have E:=j (a+b);generalize a+b=s at *
  clear t ha j;rw[Bio];refine wk ?_;rw[A9B];refine wk ?_;rw[BwY];refine wk ?_;rw[BwZ];refine wk ?_;rw[A9B];refine wk ?_;exact Sx.Lo (C _ _ _) (p _ _)
def Cw7(p:3<N)(k:NtS h v (lbN a))(f:NtS h v2 (lbN b))(o:a+b<1000000000):Sx.Ah h (λr h1=>NtS h1 r (lbN (a+b))) (ml Z N 153 [v,v2] h):=by
 have i:∀e:H,Fo v e=.ok (iI ((lbN a).length:Int)) e:=λe=>Sx.Sl.Gs (h:=h) k;have g:∀e:H,Fo v2 e=.ok (iI ((lbN b).length:Int)) e:=λe=>Sx.Sl.Gs (h:=h) f;rw[Csv];by_cases h1:a=0
 .subst h1;by_cases h2:b=0
  .subst h2;obtain⟨t,rfl⟩:∃m,N=m+3:=⟨N-3,by omega⟩;replace i:∀e:H,Fo v e=.ok (iI 0) e:=i;replace g:∀e:H,Fo v2 e=.ok (iI 0) e:=g;have q:∀e:H,A3d prog 93 (iI 0) (iI 1) e=.ok (.sl e.nx 0 0 1 1 true) (e.new (cd [cm 0] 134)):=λe=>mk0 1 fe e;have u:=ClP;clear k f o;refine wk ?_;rw[Bio];refine wk ?_;rw[A9B];refine wk ?_;exact zr Ex (.inr ⟨_,_,_,_,_,rfl,by decide,⟨Y3 _,_,_,Sx.Bf _,trivial⟩,by decide,rfl⟩)
  .rw[A5g om om]at f g;have j:=λf0=>ChU Z N (b:=0) p f (.inl ⟨k,rfl⟩) om om f0;rw[Vw]at j;rw[Rx];replace i:∀e:H,Fo v e=.ok (iI 0) e:=i;replace g:∀e:H,Fo v2 e=.ok (iI 1) e:=g;replace j:=(hU j)
   clear k f o h2;refine wk ?_;exact(show ∀f0,Sx.Ah h (λr h1=>NtS h1 r (lbN b)) (A6Y Z N v2 v f0 h)from j) _
 .rw[A5g om om]at k i;replace i:∀e:H,Fo v e=.ok (iI 1) e:=i;by_cases h2:b=0
  .subst h2;have j:=λf0=>ChU Z N (b:=0) p k (.inl ⟨f,rfl⟩) om om f0;replace g:∀e:H,Fo v2 e=.ok (iI 0) e:=g;replace j:=(hU j)
   clear k f o h1;refine wk ?_;exact(show ∀f0,Sx.Ah h (λr h1=>NtS h1 r (lbN (a+0))) (A6Y Z N v v2 f0 h)from j) _
  .rw[A5g om om]at f g;have j:=λf0=>ChU Z N p k (.inr f) om om f0;replace g:∀e:H,Fo v2 e=.ok (iI 1) e:=g;replace j:=(hU j)
   clear k f o h1 h2;refine wk ?_;exact(show ∀f0,Sx.Ah h (λr h1=>NtS h1 r (lbN (a+b))) (A6Y Z N v v2 f0 h)from j) _
def Ckd:Prop:=∀(v v2:AV) (a b:Nat) (h:H),NtS h v (lbN a)->NtS h v2 (lbN b)->a<1000000000->b<=a->Sx.Ah h (λr h1=>NtS h1 r (lbN (a-b))) (Z.call 154 [v,v2] h)
def Cw8(S:3<N)(u:BcD Z)(k:NtS h v (lbN a))(p:NtS h v2 (lbN b))(E:a<1000000000)(t:b<=a):Sx.Ah h (λr h1=>NtS h1 r (lbN (a-b))) (ml Z N 154 [v,v2] h):=by
 obtain⟨Q,rfl⟩:∃m,N=m+3:=⟨N-3,by omega⟩;by_cases h1:a=0
 .subst h1;obtain rfl:b=0:=by omega
  have M:∀e:H,Fo v e=.ok (iI 0) e:=λe=>Sx.Sl.Gs (h:=h) k;have D:∀e:H,A3d prog 93 (iI 0) (iI 0) e=.ok (.sl e.nx 0 0 0 1 true) (e.new (cd [] 134)):=λe=>mk0 0 fe e;have A:=λe (g:NtS e (.sl h.nx 0 0 0 1 true) [])=>u _ _ e g fe fe;rw[Clw];clear k p E t;refine wk ?_;rw[A9M];refine wk ?_;refine Fj (A _ (.inr ⟨_,_,_,_,_,rfl,Ye _,⟨Y3 _,_,_,Sx.Bf _,trivial⟩,Ye _,rfl⟩)) λL I q G B y=>?_;exact Sx.Lo (((Sx.Ai.refl h).new _).trans q) y.1
 .rw[A5g om E]at k;obtain⟨b1,J,el⟩:=Sx.R0.elem (f:=Abb) (s:=1) (i:=0) (x:=a) (λ_=>rfl) k rfl;have u0:∀e:H,Gc 1 v (iI 0) e=.ok (.ptr b1 J) e:=el.ia;have R:∀e,Sx.Bi h e->Ae (some none) (.ptr b1 J) e=.ok (cm a) e:=el.part 0 _ rfl;have M:∀e:H,Fo v e=.ok (iI 1) e:=λe=>Sx.Sl.Gs (h:=h) k;have D:∀e:H,A3d prog 93 (iI 1) (iI 1) e=.ok (.sl e.nx 0 1 1 1 true) (e.new (cd [cm 0] 134)):=λe=>Ayl 1 fe e;have w0:∀e:H,Gc 1 (.sl h.nx 0 1 1 1 true) (iI 0) e=.ok (.ptr h.nx 0) e:=λe=>A6n (i:=0) (off:=0) fe e;have A:=λe (g:NtS e (.sl h.nx 0 1 1 1 true) [a-b])=>u _ _ e g (by show 1<=10;decide) (λx O=>by rw[T0.1 O];omega)
  rw[A87 om]at A;have F:∀e:H,Aj prog .lss 134 false (cm (a:Int)) (cm (b:Int)) e=.ok ct e:=λe=>by show OR.ok (.bool (ilt (a:Int) (b:Int))) e=_;rw[Il,Yg om]
  have a2:∀e:H,Aj prog .sub 134 false (cm (a:Int)) (cm (b:Int)) e=.ok (cm ((a-b:Nat):Int)) e:=λe=>by show OR.ok (cm (E1 .u64 ((a:Int)-(b:Int)))) e=_;rw[show(a:Int)-(b:Int)=((a-b:Nat):Int)by omega,AtC .u64 _ (by show(0:Int)<=_;omega) (by show _<=(18446744073709551615:Int);omega)]
  have K:∀o j,Sx.Ai h ((h.new o).put h.nx j):=λo j=>((Sx.Ai.refl h).new o).put h.nx j (Ye _);have C:∃l2:Int,(∀e:H,Fo v2 e=.ok (iI l2) e)/\((l2=0/\b=0)\/(l2=1/\∃b2 j,(∀e:H,Gc 1 v2 (iI 0) e=.ok (.ptr b2 j) e)/\∀e,Sx.Bi h e->Ae (some none) (.ptr b2 j) e=.ok (cm b) e)):=by
   by_cases h2:b=0
   .subst h2;exact⟨0,λe=>Sx.Sl.Gs (h:=h) p,.inl ⟨rfl,rfl⟩⟩
   .rw[A5g om om]at p;obtain⟨b2,j,z⟩:=Sx.R0.elem (f:=Abb) (s:=1) (i:=0) (x:=b) (λ_=>rfl) p rfl;exact⟨1,λe=>Sx.Sl.Gs (h:=h) p,.inr ⟨rfl,b2,j,z.ia,z.part 0 _ rfl⟩⟩
  obtain⟨l2,P,C⟩:=C;have a1:∀e:H,Aj prog .add 134 false (cm 0) (cm (b:Int)) e=.ok (cm (b:Int)) e:=λe=>by have:=B5U false (a:=0) (b:=b) om e;rw[Rx]at this;exact this
  generalize a-b=d at *
  rw[Clw];clear el k p E t h1;rcases C with⟨rfl,rfl⟩|⟨rfl,b2,j,u2,T⟩
  .replace a2:∀e:H,Aj prog .sub 134 false (cm (a:Int)) (cm 0) e=.ok (cm (d:Int)) e:=a2;replace F:∀e:H,Aj prog .lss 134 false (cm (a:Int)) (cm 0) e=.ok ct e:=F;refine wk ?_;rw[A9M];refine wk ?_;rw[Bxa];refine wk ?_;rw[Bxb];refine wk ?_;rw[Bxc];refine wk ?_;rw[A9M];refine wk ?_;refine Fj (A _ (.inr ⟨_,_,_,_,_,rfl,Ye _,⟨Y3 _,_,_,Sx.A2 _ _,trivial⟩,Ye _,rfl⟩)) λL I q G B y=>?_;exact Sx.Lo ((K _ _).trans q) y.1
  .refine wk ?_;rw[A9M];refine wk ?_;rw[Bxa];refine wk ?_;rw[Bxb];refine wk ?_;rw[Bxc];refine wk ?_;rw[A9M];refine wk ?_;refine Fj (A _ (.inr ⟨_,_,_,_,_,rfl,Ye _,⟨Y3 _,_,_,Sx.A2 _ _,trivial⟩,Ye _,rfl⟩)) λL I q G B y=>?_;exact Sx.Lo ((K _ _).trans q) y.1
end Go.Proofs
namespace Go.Adw
open Go.Ev
def lft(a b:Nat):Nat->Option Nat
|0=>if a=0 then none else some a
|j+1=>match lft a b j with
 |none=>none
 |some x=>if 2*x=b then none else some (if b<=2*x then 2*x-b else 2*x)
def one(a b:Nat):Nat->Bool
|0=>false
|j+1=>match lft a b j with
 |none=>false
 |some x=>decide (b<=2*x)
def zer(a b:Nat):Nat->Bool
|0=>decide (a=0)
|j+1=>match lft a b j with
 |none=>false
 |some x=>decide (2*x<=b)
def sm(f:Nat->Nat):Nat->Nat
|0=>0
|n+1=>sm f n+f n
def bn(b:Bool):Nat:=cond b 1 0
variable (a b:Nat)
def po:Nat->Nat->Nat
|0,k=>if k=0 then 1 else 0
|i+1,k=>po i k+(if i<k then bn (one a b (k-i))*po i i else 0)
def qo:Nat->Nat->Nat
|0,_=>0
|i+1,k=>qo i k+(if i<=k then bn (zer a b (k-i))*po a b i i else 0)
def ttl(k:Nat):Nat:=qo a b (k+1) k
def A5L(k:Nat):Nat:=sm (λi=>ttl a b i*ttl a b (k-i)) (k+1)
def rst(f:Nat->Nat)(n:Nat):Nat:=2^n-sm (λk=>f k*2^(n-k)) (n+1)
def Aw7{f g:Nat->Nat}:∀{n:Nat},(∀i,i<n->f i=g i)->sm f n=sm g n
|0,_=>rfl
|n+1,h=>by show sm f n+f n=sm g n+g n;rw[Aw7 λi hi=>h i om,h n om]
def Cfe{f g:Nat->Nat}:∀{n:Nat},(∀i,i<n->f i<=g i)->sm f n<=sm g n
|0,_=>Ye _
|n+1,h=>Nat.add_le_add (Cfe λi hi=>h i om) (h n om)
def Bfo{f g:Nat->Nat}:∀n:Nat,sm (λi=>f i+g i) n=sm f n+sm g n
|0=>rfl
|n+1=>by show sm (λi=>f i+g i) n+(f n+g n)=sm f n+f n+(sm g n+g n);rw[Bfo n];omega
def A5G{f:Nat->Nat}(c:Nat):∀n:Nat,sm (λi=>c*f i) n=c*sm f n
|0=>rfl
|n+1=>by show sm (λi=>c*f i) n+c*f n=c*(sm f n+f n);rw[A5G c n,Nat.mul_add]
def Bk3:∀n:Nat,sm (λ_=>0) n=0
|0=>rfl
|n+1=>Bk3 n
def Be0{f:Nat->Nat}:∀n:Nat,sm f (n+1)=f 0+sm (λi=>f (i+1)) n
|0=>Rx _ |>.trans (Vw _).symm
|n+1=>by show sm f (n+1)+f (n+1)=f 0+(sm (λi=>f (i+1)) n+f (n+1));rw[Be0 n];omega
def Bk2{f:Nat->Nat}(i:Nat):∀n:Nat,sm f (i+n)=sm f i+sm (λj=>f (i+j)) n
|0=>(Vw _).symm
|n+1=>by show sm f (i+n)+f (i+n)=sm f i+(sm (λj=>f (i+j)) n+f (i+n));rw[Bk2 i n];omega
def V8:∀m:Nat,sm (λj=>(bn (one a b j)+bn (zer a b j))*2^(m-j)) (m+1)+(match lft a b m with|none=>0|some _=>1)=2^m
|0=>by simp only[sm,one,zer,lft,bn];by_cases h:a=0<;>simp[h]
|m+1=>by
 have e:=V8 m;have h1:sm (λj=>(bn (one a b j)+bn (zer a b j))*2^(m+1-j)) (m+1)=2*sm (λj=>(bn (one a b j)+bn (zer a b j))*2^(m-j)) (m+1):=by
  rw[<- A5G];refine Aw7 λi hi=>?_;rw[show m+1-i=(m-i)+1 by omega,Ov]
  generalize 2^(m-i)=y;rw[<- P9,Ot _ 2]
 show sm _ (m+1)+(bn (one a b (m+1))+bn (zer a b (m+1)))*2^(m+1-(m+1))+_=_;rw[h1,Mq,Nat.pow_zero,ae,Ov];generalize sm _ (m+1)=S at e ⊢;simp only[one,zer,lft];cases h:lft a b m with
 |none=>rw[h]at e;simp only[bn,cond]at *;omega
 |some x=>
  rw[h]at e;simp only at *
  by_cases h2:2*x=b
  .simp[bn,h2];omega
  .by_cases g:b<=2*x
   .have f:¬ 2*x<=b:=by omega
    simp[bn,h2,g,f];omega
   .have f:2*x<=b:=by omega
    simp[bn,h2,g,f];omega
def CgZ(m:Nat):sm (λj=>(bn (one a b j)+bn (zer a b j))*2^(m-j)) (m+1)<=2^m:=by have:=V8 a b m;omega
def Bkc{k:Nat}:∀d:Nat,qo a b (k+1+d) k=ttl a b k
|0=>rfl
|d+1=>by show qo a b (k+1+d) k+(if k+1+d<=k then _ else 0)=_;rw[X2 om,Bkc d];rfl
def krf(n:Nat):∀i:Nat,i<=n+1->sm (λt=>po a b i (i+t)*2^(n-(i+t))) (n+1-i)+sm (λk=>qo a b i k*2^(n-k)) (n+1)<=2^n
|0,_=>by
 rw[show n+1-0=n+1 from rfl,Be0,Aw7 (n:=n) (g:=λ_=>0) (λi _=>by show(if 0+(i+1)=0 then 1 else 0)*_=0;rw[X2 om,Ou]),Bk3,Aw7 (n:=n+1) (g:=λ_=>0) (λi _=>by show 0*_=0;rw[Ou]),Bk3]
 simp[po]
|i+1,hi=>by
 have e:=krf n i om;obtain⟨m,rfl⟩:∃m,n=i+m:=⟨n-i,by omega⟩;have hd:=CgZ a b m;rw[Aw7 (g:=λj=>bn (one a b j)*2^(m-j)+bn (zer a b j)*2^(m-j)) (λj _=>ag ..),Bfo,Be0 m]at hd;rw[show i+m+1-i=m+1 by omega,Be0 m]at e
 rw[show i+m+1-(i+1)=m by omega]
 have e1:sm (λt=>po a b (i+1) (i+1+t)*2^(i+m-(i+1+t))) m=sm (λt=>po a b i (i+(t+1))*2^(i+m-(i+(t+1)))) m+po a b i i*sm (λj=>bn (one a b (j+1))*2^(m-(j+1))) m:=by rw[<- A5G,<- Bfo];refine Aw7 λt r=>?_;show(po a b i (i+1+t)+(if i<i+1+t then bn (one a b (i+1+t-i))*po a b i i else 0))*_=_;rw[Xo om,show i+1+t=i+(t+1)by omega,show i+(t+1)-i=t+1 by omega,show i+m-(i+(t+1))=m-(t+1)by omega,ag,Ot (bn _) (po a b i i),P9]
 have p:sm (λk=>qo a b (i+1) k*2^(i+m-k)) (i+m+1)=sm (λk=>qo a b i k*2^(i+m-k)) (i+m+1)+po a b i i*sm (λj=>bn (zer a b j)*2^(m-j)) (m+1):=by
  rw[show i+m+1=i+(m+1)by omega,Bk2 i,Bk2 i,<- A5G,Jy,<- Bfo]
  refine congr (Jh _ (Aw7 λk q=>?_)) (Aw7 λj hj=>?_)
  .show(qo a b i k+(if i<=k then _ else 0))*_=_;rw[X2 om,Vw]
  .show(qo a b i (i+j)+(if i<=i+j then bn (zer a b (i+j-i))*po a b i i else 0))*_=_;rw[Xo om,show i+j-i=j by omega,show i+m-(i+j)=m-j by omega,ag,Ot (bn _) (po a b i i),P9]
 rw[e1,p];have f:bn (one a b 0)*2^(m-0)=0:=by simp[one,bn]
 rw[f]at hd;have o:=cq (po a b i i) hd;rw[Rx,Nat.mul_add]at o;simp only[Vw,show i+m-i=m by omega]at e
 omega
def B7a(n:Nat):sm (λk=>ttl a b k*2^(n-k)) (n+1)<=2^n:=by
 have h:=krf a b n (n+1) (Ye _);rw[Mq]at h;rw[Aw7 (g:=λk=>qo a b (n+1) k*2^(n-k))]
 .show _<=_;have:sm (λt=>po a b (n+1) (n+1+t)*2^(n-(n+1+t))) 0=0:=rfl;omega
 .intro k e;have:=Bkc a b (k:=k) (n-k);rw[show k+1+(n-k)=n+1 by omega]at this
  show _=_;rw[this]
def B7b(n:Nat):sm (λk=>A5L a b k*2^(n-k)) (n+1)<=2^n:=by
 have e:∀n:Nat,sm (λk=>A5L a b k*2^(n-k)) (n+1)=sm (λi=>ttl a b i*sm (λk=>ttl a b k*2^(n-i-k)) (n-i+1)) (n+1):=by
  intro n;induction n with
  |zero=>simp[sm,A5L]
  |succ n f=>
   have h1:sm (λk=>A5L a b k*2^(n+1-k)) (n+1)=2*sm (λk=>A5L a b k*2^(n-k)) (n+1):=by
    rw[<- A5G];refine Aw7 λk j=>?_;rw[show n+1-k=(n-k)+1 by omega,Ov]
    generalize 2^(n-k)=y;rw[<- P9,Ot _ 2]
   have h2:sm (λi=>ttl a b i*sm (λk=>ttl a b k*2^(n+1-i-k)) (n+1-i+1)) (n+1)=2*sm (λi=>ttl a b i*sm (λk=>ttl a b k*2^(n-i-k)) (n-i+1)) (n+1)+sm (λi=>ttl a b i*ttl a b (n+1-i)) (n+1):=by
    rw[<- A5G,<- Bfo];refine Aw7 λi hi=>?_;have m:sm (λk=>ttl a b k*2^(n+1-i-k)) (n+1-i+1)=2*sm (λk=>ttl a b k*2^(n-i-k)) (n-i+1)+ttl a b (n+1-i):=by
     rw[show n+1-i+1=(n-i+1)+1 by omega]
     show sm _ (n-i+1)+ttl a b (n-i+1)*2^(n+1-i-(n-i+1))=_;rw[show n-i+1=n+1-i by omega,Mq,Nat.pow_zero,ae]
     refine congr (Jh _ ?_) rfl;rw[<- A5G];refine Aw7 λk j=>?_;rw[show n+1-i-k=(n-i-k)+1 by omega,Ov]
     generalize 2^(n-i-k)=y;rw[<- P9,Ot _ 2]
    rw[m,Nat.mul_add,<- P9,Ot _ 2,P9]
   show sm _ (n+1)+A5L a b (n+1)*2^(n+1-(n+1))=sm _ (n+1)+ttl a b (n+1)*sm _ (n+1-(n+1)+1);rw[h1,h2,f,Mq,Nat.pow_zero,ae];show _+(sm _ (n+1)+ttl a b (n+1)*ttl a b (n+1-(n+1)))=_;rw[Mq];simp[sm];omega
 rw[e];refine Xy (Cfe (g:=λi=>ttl a b i*2^(n-i)) λi _=>cq _ (B7a a b (n-i))) (B7a a b n)
def B73{f:Nat->Nat}(n:Nat):rst f (n+1)<=2*rst f n:=by
 have h1:sm (λk=>f k*2^(n+1-k)) (n+1)=2*sm (λk=>f k*2^(n-k)) (n+1):=by
  rw[<- A5G];refine Aw7 λk e=>?_;rw[show n+1-k=(n-k)+1 by omega,Ov]
  generalize 2^(n-k)=y;rw[<- P9,Ot _ 2]
 unfold rst;rw[show sm (λk=>f k*2^(n+1-k)) (n+1+1)=sm (λk=>f k*2^(n+1-k)) (n+1)+f (n+1)*2^(n+1-(n+1))from rfl,h1,Ov]
 generalize f (n+1)*_=z;omega
def BmO{f:Nat->Nat}(n:Nat):∀d:Nat,rst f (n+d)<=2^d*rst f n
|0=>by simp
|d+1=>by have h1:=B73 (f:=f) (n+d);have h2:=BmO (f:=f) n d;rw[Ov,Ot _ 2,P9];show rst f (n+d+1)<=_;omega
abbrev Ad2:=Nat × Nat
abbrev AdE:Nat:=1000000000
def rd(n d:Nat):Ad2:=(n/Nat.gcd n d,d/Nat.gcd n d)
structure Fr(x:Ad2):Prop where
 n:x.1<AdE
 d:x.2<AdE
 p:0<x.2
 g:Nat.gcd x.1 x.2=1
def rdO(n d:Nat):Option Ad2:=if n<AdE/\d<AdE/\0<d then some (rd n d)else none
def Bcb(x y:Ad2):Option Ad2:=rdO (x.1*y.1) (x.2*y.2)
def A0N(x y:Ad2):Option Ad2:=if y.1=0 then none else rdO (x.1*y.2) (x.2*y.1)
def A7s(x y:Ad2):Option Ad2:=rdO (x.1*y.2+y.1*x.2) (x.2*y.2)
def BmU(x y:Ad2):Option Ad2:=if 0<y.1/\y.1*x.2<=x.1*y.2/\x.1*y.2<AdE then rdO (x.1*y.2-y.1*x.2) (x.2*y.2)else none
def Af6(x y:Ad2):Prop:=x.1*y.2<=y.1*x.2
instance (x y:Ad2):Decidable (Af6 x y):=inferInstanceAs (Decidable (_<=_))
def AtS(x y:Ad2):Ad2:=if Af6 x y then x else y
def B4m{n d:Nat}(h:0<d):∃g,0<g/\n=g*(rd n d).1/\d=g*(rd n d).2/\0<(rd n d).2/\Nat.gcd (rd n d).1 (rd n d).2=1:=by
 have e:0<Nat.gcd n d:=L8 _ h;refine⟨Nat.gcd n d,e,(Nat.mul_div_cancel' (Nat.gcd_dvd_left ..)).symm,(Nat.mul_div_cancel' (Jl ..)).symm,?_,?_⟩
 .exact Nat.div_pos (Nat.le_of_dvd h (Jl ..)) e
 .show Nat.gcd (n/_) (d/_)=1;rw[Nat.gcd_div (Nat.gcd_dvd_left ..) (Jl ..),Nat.div_self e]
def Cfc{n d:Nat}(hn:n<AdE)(hd:d<AdE)(h:0<d):Fr (rd n d):=by obtain⟨g,h1,h2,i,f,e⟩:=B4m (n:=n) h;exact⟨Ql (Oa ..) hn,Ql (Oa ..) hd,f,e⟩
def AtP{n d:Nat}{z:Ad2}(h:rdO n d=some z):Fr z/\z=rd n d/\n<AdE/\d<AdE/\0<d:=by
 unfold rdO at h;split at h
 .rename_i k;cases h;exact⟨Cfc k.1 k.2.1 k.2.2,rfl,k⟩
 .cases h
def Af6.rdl{n d:Nat}{y:Ad2}(h:0<d):Af6 (rd n d) y ↔ Af6 (n,d) y:=by
 obtain⟨g,h1,h2,e,_⟩:=B4m (n:=n) h;unfold Af6;generalize rd n d=x at *
 subst h2 e;show _ ↔ g*x.1*y.2<=y.1*(g*x.2);rw[Nat.mul_left_comm y.1 g,P9];exact⟨λh=>cq g h,λh=>Je h h1⟩
def Af6.rdr{n d:Nat}{y:Ad2}(h:0<d):Af6 y (rd n d) ↔ Af6 y (n,d):=by
 obtain⟨g,h1,h2,e,_⟩:=B4m (n:=n) h;unfold Af6;generalize rd n d=x at *
 subst h2 e;show _ ↔ y.1*(g*x.2)<=g*x.1*y.2;rw[Nat.mul_left_comm y.1 g,P9];exact⟨λh=>cq g h,λh=>Je h h1⟩
def Af6.refl(x:Ad2):Af6 x x:=Ye _
def Af6.total(x y:Ad2):Af6 x y\/Af6 y x:=Ir ..
def Af6.trans{x y z:Ad2}(hy:0<y.2)(h1:Af6 x y)(h2:Af6 y z):Af6 x z:=by
 unfold Af6 at *
 refine Nat.le_of_mul_le_mul_right ?_ hy;have a:=D2 z.2 h1;have b:=D2 x.2 h2;have e1:x.1*z.2*y.2=x.1*y.2*z.2:=K9 ..;have f:y.1*x.2*z.2=y.1*z.2*x.2:=K9 ..;have e:z.1*y.2*x.2=z.1*x.2*y.2:=K9 ..;omega
def Af6.mul(c:Ad2){x y:Ad2}(h:Af6 x y):Af6 (c.1*x.1,c.2*x.2) (c.1*y.1,c.2*y.2):=by
 unfold Af6 at *
 show c.1*x.1*(c.2*y.2)<=c.1*y.1*(c.2*x.2);rw[Nat.mul_mul_mul_comm,Nat.mul_mul_mul_comm c.1 y.1];exact cq _ h
def CdO{x y z:Ad2}(hy:0<y.2)(h:Af6 y z):Af6 (AtS x y) (AtS x z):=by
 unfold AtS;split
 .split
  .exact Af6.refl x
  .rename_i h1 h2;exact absurd (Af6.trans hy h1 h) h2
 .rename_i h1;split
  .exact(Af6.total x y).resolve_left h1
  .exact h
def At7(f:Nat->Nat)(n:Nat):Ad2:=rd (rst f n) (2^n)
def CdB(f:Nat->Nat)(n d:Nat):Af6 (At7 f (n+d)) (At7 f n):=by have p:∀k:Nat,0<2^k:=λk=>O1 k;unfold At7;rw[Af6.rdl (p _),Af6.rdr (p _)];show rst f (n+d)*2^n<=rst f n*2^(n+d);rw[Nat.pow_add,Ot (2^n),<- P9,Ot (rst f n)];exact D2 _ (BmO n d)
def Ci1(f:Nat->Nat)(n:Nat):rst f n<=2^n:=Ee ..
def Aw4(s:Nat)(f:Ad2):Option Ad2:=if s=1 then A0N (1,1) f else(Bcb (s,1) f).bind λtop=>(A7s top f).bind λa=>(BmU a (1,1)).bind λb=>A0N top b
def A4M(s:Nat)(f:Ad2):Option Ad2:=(A7s (s,1) (s,1)).bind λt=>(Bcb t f).bind λe=>(BmU f (1,1)).bind λa=>(A0N a e).bind λq=>A7s (1,1) q
def A0r(f:Ad2):Option Ad2:=(Bcb (2,1) f).bind λtop=>(A7s f (1,1)).bind λb=>A0N top b
end Go.Adw

/- Queries that numbers -/
import Derived.Test.YtahaaiadlgfchaaGreatDoorEvHa
set_option linter.all false
set_option maxRecDepth 100000
noncomputable section
namespace Go.Proofs
open Go Go.Ev Tryz Go.Ev.Sx
open Go.Nm
attribute [local irreducible] Aa Al Af Ad
variable (Z:Ac)(N:Nat)
def Als:∀{e},e<=2->4<=Abo e/\Abo e<=40
|0,_=>by decide
|1,_=>by decide
|2,_=>by decide
|e+3,h=>by omega
def j80(Fg:R38 Z){D:Dom}(e:Nat)(hd:e<=2)(tk:Nat)(vl:AV)(L:List Int)(cv:AV)(m:Int)(V:-100<=m)(W:m<=100)(h:H)(hi:H9 tk vl L h)
 (hO:∀a,TG tk vl h a->D6 tk vl a (Se D false (Abo e) a.nx) (Z.call 77 [.ptr tk 0,cv,iI (m-1)] a))
 (hC:∀a,TG tk vl h a->D6 tk vl a (Se D true (Abo e) a.nx) (Z.call 33 [.ptr tk 0,cv,iI (m-1)] a))
 (j:Int) (hj0:0<=j) (hj6:j<6) (tb:Bool) (htb:tb=true ↔ j<=2) (f:L2) (a:H) (he:TG tk vl h a):
 Ah H0 (λv h1=>TG tk vl h h1/\Se D false (Abo (e+1)) h.nx v h1) (AgB Z N (.ptr tk 0) cv (iI m) (iI j) (iI j) (.bool tb) f a):=by
 have g:=hi.at'.lt;obtain⟨O,hs⟩:=Als hd;have T:∀(k:Int) (a:H),TG tk vl h a->k<=9223372036854775807->D6 tk vl a (Below k) (Z.call 30 [.ptr tk 0,iI k] a):=λk a e Q=>Fg tk vl L k a (hi.tg e).at' (hi.tg e).ints hi.av hi.len Q;rw[AwY];cases tb
 .have hj3:3<=j:=by
   rcases Int.lt_or_le 2 j with h1|h1
   .omega
   .have:=htb.2 h1;cases this
  (repeat' (first|refine wk ?_|((with_reducible apply M5);exact T _ _ L5 om;intro vv hh Y U M qq;(try simp only[C9]at U M);obtain⟨A,rfl,j0,j1⟩:=qq)|(refine zqq ?_ ?_<;>intro hc<;>(try (exfalso;omega)))|fail))
  .refine M5 (hO _ he) λv1 h1 e1 l1 _ t=>?_;obtain⟨c,p,s1,n1⟩:=t;have I:=Af3 c;have d:=he.trans e1;refine wk ?_;obtain⟨v4,G,i,l,r,J⟩:=Ut ⟨7,0,[]⟩ d (n1.Y5 he.lo) (by rw[Ao];omega);refine Ey i (zr (Ed _) ⟨l,.one 7 c,.inl ⟨rfl,rfl,p⟩,by simp only[wt,Abo];omega,by simpa[Tr.nodes]using r⟩)
  .have X4:((A.toNat:Nat):Int)=A:=Tb j0;have q:R0 1 (λn:Int=>[iI n]) (a.new (cd [iI 0,iI 1,iI 2,iI 1000000,iI 1000000000] 3)) (.sl a.nx 0 5 5 1 true) [0,1,2,1000000,1000000000]:=Sl.lit (h:=a) (Bf _) rfl rfl;have X6:=he.lo;have w:=Sl.tg q ((he.new _).at g) (λb off len cap z ex hv h0=>by cases hv;omega) Y;obtain⟨n,hn⟩:∃n,[(0:Int),1,2,1000000,1000000000][A.toNat]?=some n:=⟨_,Yq (by simp;omega)⟩;obtain⟨b,o,el⟩:=R0.elem (f:=λn:Int=>[AV.int .i64 n]) (s:=1) (λ_=>rfl) w hn;have x1:=el.ia;rw[X4]at x1;have x2:=el.part 0 _ rfl;rw[Vw]at x2;have F:0<=n/\n<=1000000000:=by have:=Vl hn;simp at this;omega
   clear el q w hn;refine wk ?_;have c:TG tk vl h hh:=L5;have:=c.lo;exact zr (Ed _) ⟨c.new _,.leaf ⟨1,n,[]⟩,Acz F.1 F.2,by simp only[wt,Abo];omega,Wl [⟨1,n,[]⟩] 1 rfl (Bf _) rfl this⟩
  .refine M5 (hC _ he) λv1 h1 e1 l1 _ t=>?_;obtain⟨c,p,s1,n1⟩:=t;have I:=Af3 c;have d:=he.trans e1;refine wk ?_;refine M5 (hO _ d) λv2 h2 u l2 _ E=>?_;obtain⟨t2,C,s2,n2⟩:=E;have R:=Af3 t2;have B:=d.trans u;obtain⟨v3,h3,p1,p2,p3,p4⟩:=Z8 B ((n1.Y5 he.lo).tg (d.at g) g u) n2.sl (Tf t2) (by rw[Ao,Ao];omega);refine Ey p1 ?_;clear p1;refine wk ?_;refine M5 (hO _ p2) λv4 G K l4 _ q4=>?_;obtain⟨x,y4,s4,n4⟩:=q4;have z4:=Af3 x;have y:=p2.trans K;obtain⟨v5,h5,i,l,r,J⟩:=Z8 y (p3.tg (p2.at g) g K) n4.sl (Tf x) (by rw[Xi,Ao,Ao,Ao];omega);refine Ey i ?_;clear i;refine wk ?_;obtain⟨v6,h6,X,P,S,r8⟩:=Ut ⟨8,0,[]⟩ l r (by rw[Xi,Xi,Ao,Ao,Ao];omega);refine Ey X (zr (Ed _) ⟨P,.three c t2 x,⟨rfl,p,C,y4⟩,by simp only[wt,Abo];omega,by simpa[Tr.nodes]using S⟩)
 .have hj2:j<=2:=htb.1 rfl;refine wk ?_;refine M5 (hO _ he) λv1 h1 e1 l1 _ t=>?_;obtain⟨c,p,s1,n1⟩:=t;have I:=Af3 c;have d:=he.trans e1;refine wk ?_;refine M5 (hO _ d) λv2 h2 u l2 _ E=>?_;obtain⟨t2,C,s2,n2⟩:=E;have R:=Af3 t2;have B:=d.trans u;obtain⟨v3,h3,p1,p2,p3,p4⟩:=Z8 B ((n1.Y5 he.lo).tg (d.at g) g u) n2.sl (Tf t2) (by rw[Ao,Ao];omega);refine Ey p1 ?_;clear p1;refine wk ?_;obtain⟨v4,G,i,l,r,J⟩:=Ut ⟨4+j,0,[]⟩ p2 p3 (by rw[Xi,Ao,Ao];omega);refine Ey i (zr (Ed _) ⟨l,.two (4+j) c t2,.inl ⟨rfl,by omega,p,C⟩,by simp only[wt,Abo];omega,by simpa[Tr.nodes]using r⟩)
def r80(C:R38 Z)(d:Nat)(hd:d<=3)(O:∀e,d=e+1->R80 Z e/\R41 Z e)(tk:Nat)(vl:AV)(L:List Int)(cv:AV)(A1:List Aaw)(m:Int)(h:H)(R:(d:Int)=m)(hi:H9 tk vl L h)(n:Hu tk h cv A1)(v:A1≠[])(A:A1.length<=30):
 D6 tk vl h (Se (AaR A1) false (Abo d) h.nx) (Ay prog Z N false 77 [.ptr tk 0,cv,iI m] h):=by
 refine Qk ?_;rw[e80];have r:=hi.at';have S:=r.lt;have I:0<A1.length:=Kd.2 v;have y:∀(k:Int) (a:H),TG tk vl h a->k<=9223372036854775807->D6 tk vl a (Below k) (Z.call 30 [.ptr tk 0,iI k] a):=λk a e G=>C tk vl L k a (hi.tg e).at' (hi.tg e).ints hi.av hi.len G;have i:∀q,Fo cv q=.ok (iI (A1.length:Int)) q:=λ_=>n.sl.Gs;repeat' (first|with_reducible (first|apply A7|apply A8|apply A9|apply Ba)|((with_reducible apply M5);exact y _ _ L5 om;intro M q z w t x;(try simp only[C9]at w t);obtain⟨g,rfl,j0,F⟩:=x)|(with_reducible (first|apply Cy|apply Cz|apply C0|apply C1);(conv=>lhs;simp(disch:=first|exact dA|fail) [lw, *,i]);with_reducible (first|apply A7|apply A8|apply A9|apply Ba|apply Cu|(refine Cv (by simp) ?_)|(apply Cw<;>intro l<;>(try simp only[Bt]at l)<;>(try (exfalso;omega)))))|(with_reducible (first|apply C2|apply C3)<;>intro l<;>(try simp only[Bt]at l)<;>(try (exfalso;omega))))
 have B:((g.toNat:Nat):Int)=g:=Tb j0;obtain⟨c,j⟩:∃s,A1[g.toNat]?=some s:=⟨_,Yq om⟩;obtain⟨b,o,el⟩:=R0.elem (f:=Hx) (s:=4) (λ_=>rfl) (n.tg r z).sl j;have u:=Vl j;have J:=n.ok c u;have D:=el.ia;rw[B]at D;have K:=el.all;obtain⟨Q,P⟩:=B2 J.words;clear el B i j;repeat' (first|with_reducible (first|apply A7|apply A8|apply A9|apply Ba)|((with_reducible apply M5);exact y _ _ L5 om;intro M q z w t x;(try simp only[C9]at w t);obtain⟨g,rfl,j0,F⟩:=x)|(with_reducible (first|apply Cy|apply Cz|apply C0|apply C1);(conv=>lhs;simp(disch:=first|exact dA|fail) [lw, *,D,K]);with_reducible (first|apply A7|apply A8|apply A9|apply Ba|apply Cu|(refine Cv (by simp) ?_)|(apply Cw<;>intro l<;>(try simp only[Bt]at l)<;>(try (exfalso;omega)))))|(with_reducible (first|apply C2|apply C3)<;>intro l<;>(try simp only[Bt]at l)<;>(try (exfalso;omega))))
 rotate_left 4;iterate 3
  .obtain⟨e,rfl⟩:=mg d;obtain⟨i1,i2⟩:=O e rfl;exact j80 Z N C e om tk vl L cv m om om h hi (λa e=>i1 tk vl L cv A1 _ a om (hi.tg e) (n.tg r e) v A) (λa e=>i2 tk vl L cv A1 _ a om (hi.tg e) (n.tg r e) v A) _ om om _ (by simp;omega) _ _ L5
 all_goals (have p:TG tk vl h q:=L5;have:=p.lo);all_goals (have E:4<=Abo d:=by cases d with|zero=>decide|succ e=>exact Xy (Als (e:=e) om).1 (by simp only[Abo];omega))
 .exact zr (Ed _) ⟨p.new _,.leaf ⟨1,g,[]⟩,Acz om om,by simp only[wt];omega,Wl [⟨1,g,[]⟩] 1 rfl (Bf _) rfl this⟩
 .exact zr (Ed _) ⟨p.new _,.leaf ⟨2,0,c.name⟩,⟨rfl,.inr ⟨rfl,rfl,c,u,rfl⟩⟩,by simp only[wt];omega,Wl [⟨2,0,c.name⟩] 1 rfl (Bf _) rfl this⟩
 .exact zr (Ed _) ⟨p.new _,.leaf ⟨1,g,[]⟩,Acz om om,by simp only[wt];omega,Wl [⟨1,g,[]⟩] 1 rfl (Bf _) rfl this⟩
 .exact zr (Ed _) ⟨p.new _,.leaf ⟨2,0,c.name⟩,⟨rfl,.inr ⟨rfl,rfl,c,u,rfl⟩⟩,by simp only[wt];omega,Wl [⟨2,0,c.name⟩] 1 rfl (Bf _) rfl this⟩
def j41(P:R38 Z){D:Dom}(e:Nat)(hd:e<=2)(tk:Nat)(vl:AV)(L:List Int)(cv:AV)(m:Int)(J:-100<=m)(K:m<=100)(h:H)(hi:H9 tk vl L h)
 (hO:∀b,TG tk vl h b->D6 tk vl b (Se D false (Abo e) b.nx) (Z.call 77 [.ptr tk 0,cv,iI (m-1)] b))
 (hC:∀b,TG tk vl h b->D6 tk vl b (Se D true (Abo e) b.nx) (Z.call 33 [.ptr tk 0,cv,iI (m-1)] b))
 (j:Int) (hj0:0<=j) (hj6:j<4) (tb:Bool) (htb:tb=true ↔ j<=1) (f:L2) (b:H) (he:TG tk vl h b):
 Ah H0 (λv h1=>TG tk vl h h1/\Se D true (Abo (e+1)) h.nx v h1) (AkY Z N (.ptr tk 0) cv (iI m) (iI j) (iI j) (.bool tb) f b):=by
 have g:=hi.at'.lt;obtain⟨C,U⟩:=Als hd;have G:∀(k:Int) (b:H),TG tk vl h b->k<=9223372036854775807->D6 tk vl b (Below k) (Z.call 30 [.ptr tk 0,iI k] b):=λk b e E=>P tk vl L k b (hi.tg e).at' (hi.tg e).ints hi.av hi.len E;rw[AwP];cases tb
 .have Q:2<=j:=by
   rcases Int.lt_or_le 1 j with h1|h1;. omega
   .have:=htb.2 h1;cases this
  repeat' (first|with_reducible (first|apply A7|apply A8|apply A9|apply Ba)|(with_reducible (first|apply Cy|apply Cz|apply C0|apply C1);(conv=>lhs;simp(disch:=first|exact dA|fail) [lw, *]);with_reducible (first|apply A7|apply A8|apply A9|apply Ba|apply Cu|(refine Cv (by simp) ?_)|(apply Cw<;>intro a<;>(try simp only[Bt]at a)<;>(try (exfalso;omega)))))|(with_reducible (first|apply C2|apply C3)<;>intro a<;>(try simp only[Bt]at a)<;>(try (exfalso;omega))))
  .refine M5 (hC _ he) λv1 h1 e1 l1 _ p=>?_;obtain⟨d,n,s1,n1⟩:=p;have x:=Af3 d;have c:=he.trans e1;repeat' (first|with_reducible (first|apply A7|apply A8|apply A9|apply Ba)|(with_reducible (first|apply Cy|apply Cz|apply C0|apply C1);(conv=>lhs;simp(disch:=first|exact dA|fail) [lw, *]);with_reducible simp_all)|(with_reducible (first|apply C2|apply C3)<;>intro a<;>(try simp only[Bt]at a)<;>(try (exfalso;omega))))
   obtain⟨v4,w,i,l,o,z⟩:=Ut ⟨17,0,[]⟩ c (n1.Y5 he.lo) (by rw[Ao];omega);refine Ey i (zr (Ed _) ⟨l,.one 17 d,.inr ⟨rfl,rfl,n⟩,by simp only[wt,Abo];omega,by simpa[Tr.nodes]using o⟩)
  .refine M5 (hO _ he) λv1 h1 e1 l1 _ p=>?_;obtain⟨d,n,s1,n1⟩:=p;have x:=Af3 d;have c:=he.trans e1;repeat' (first|with_reducible (first|apply A7|apply A8|apply A9|apply Ba)|(with_reducible (first|apply Cy|apply Cz|apply C0|apply C1);(conv=>lhs;simp(disch:=first|exact dA|fail) [lw, *]);simp[*])|(with_reducible (first|apply C2|apply C3)<;>intro a<;>(try simp only[Bt]at a)<;>(try (exfalso;omega))));refine M5 (hO _ c) λv2 h2 q l2 _ u=>?_;obtain⟨t2,t,s2,n2⟩:=u;have F:=Af3 t2;have s:=c.trans q;obtain⟨v3,O,p1,p2,p3,p4⟩:=Z8 s ((n1.Y5 he.lo).tg (c.at g) g q) n2.sl (Tf t2) (by rw[Ao,Ao];omega);refine Ey p1 ?_;clear p1;repeat' (first|with_reducible (first|apply A7|apply A8|apply A9|apply Ba)|((with_reducible apply M5);exact G _ _ L5 om;intro V T A I B M;(try simp only[C9]at I B);obtain⟨y,rfl,j0,S⟩:=M)|(with_reducible (first|apply Cy|apply Cz|apply C0|apply C1);(conv=>lhs;simp(disch:=first|exact dA|fail) [lw, *]);with_reducible (first|apply A7|apply A8|apply A9|apply Ba|apply Cu|(refine Cv (by simp) ?_)|(apply Cw<;>intro a<;>(try simp only[Bt]at a)<;>(try (exfalso;omega)))))|(with_reducible (first|apply C2|apply C3)<;>intro a<;>(try simp only[Bt]at a)<;>(try (exfalso;omega))))
   have r:=p2.trans A;obtain⟨v4,w,i,l,o,z⟩:=Ut ⟨9+y,0,[]⟩ r (p3.tg (p2.at g) g A) (by rw[Xi,Ao,Ao];omega);refine Ey i (zr (Ed _) ⟨l,.two (9+y) d t2,.inr (.inl ⟨rfl,by omega,n,t⟩),by simp only[wt,Abo];omega,by simpa[Tr.nodes]using o⟩)
 .have R:j<=1:=htb.1 rfl;repeat' (first|with_reducible (first|apply A7|apply A8|apply A9|apply Ba)|(with_reducible (first|apply Cy|apply Cz|apply C0|apply C1);(conv=>lhs;simp(disch:=first|exact dA|fail) [lw, *]);simp_all)|(with_reducible (first|apply C2|apply C3)<;>intro a<;>(try simp only[Bt]at a)<;>(try (exfalso;omega))))
  refine M5 (hC _ he) λv1 h1 e1 l1 _ p=>?_;obtain⟨d,n,s1,n1⟩:=p;have x:=Af3 d;have c:=he.trans e1;repeat' (first|with_reducible (first|apply A7|apply A8|apply A9|apply Ba)|(with_reducible (first|apply Cy|apply Cz|apply C0|apply C1);(conv=>lhs;simp(disch:=first|exact dA|fail) [lw, *]);with_reducible (first|apply A7|apply A8|apply A9|apply Ba|apply Cu|(refine Cv (by simp) ?_)|(apply Cw<;>intro a<;>(try simp only[Bt]at a)<;>(try (exfalso;omega)))))|(with_reducible (first|apply C2|apply C3)<;>intro a<;>(try simp only[Bt]at a)<;>(try (exfalso;omega))));refine M5 (hC _ c) λv2 h2 q l2 _ u=>?_;obtain⟨t2,t,s2,n2⟩:=u;have F:=Af3 t2;have s:=c.trans q;obtain⟨v3,O,p1,p2,p3,p4⟩:=Z8 s ((n1.Y5 he.lo).tg (c.at g) g q) n2.sl (Tf t2) (by rw[Ao,Ao];omega);refine Ey p1 ?_;clear p1;repeat' (first|with_reducible (first|apply A7|apply A8|apply A9|apply Ba)|(with_reducible (first|apply Cy|apply Cz|apply C0|apply C1);(conv=>lhs;simp(disch:=first|exact dA|fail) [lw, *]);with_reducible (first|apply A7|apply A8|apply A9|apply Ba|apply Cu|(refine Cv (by simp) ?_)|(apply Cw<;>intro a<;>(try simp only[Bt]at a)<;>(try (exfalso;omega)))))|(with_reducible (first|apply C2|apply C3)<;>intro a<;>(try simp only[Bt]at a)<;>(try (exfalso;omega))))
  obtain⟨v4,w,i,l,o,z⟩:=Ut ⟨15+j,0,[]⟩ p2 p3 (by rw[Xi,Ao,Ao];omega);refine Ey i (zr (Ed _) ⟨l,.two (15+j) d t2,.inr (.inr (.inr ⟨rfl,by omega,n,t⟩)),by simp only[wt,Abo];omega,by simpa[Tr.nodes]using o⟩)
def Atu{tk}{vl cv}{h}{A1}{i:Int}(m:Hu tk h cv A1)(q:H8 h tk vl)(p:0<=i)(i1:i<A1.length):
 ∃c b o,c∈A1/\(∀k,Gc 4 cv (iI i) k=.ok (.ptr b o) k)/\∀g,TG tk vl h g->Ae (some (some 4)) (.ptr b o) g=.ok (.agg (Hx c)) g:=by have l:=Tb p;have⟨c,a⟩:∃s,A1[i.toNat]?=some s:=⟨_,Yq om⟩;have⟨b,o,el⟩:=R0.elem (f:=Hx) (λ_=>rfl) m.sl a;have j:=el.ia;rw[l]at j;refine⟨c,b,o,Vl a,j,λg e=>?_⟩;have⟨_,_,d⟩:=R0.elem (f:=Hx) (λ_=>rfl) (m.tg q e).sl a;have n:=d.ia h;rw[l,j]at n;cases n;exact d.all _ (Bi.refl _)
set_option maxHeartbeats 2000000 in
def r41(V:R38 Z)(I:R79 Z)(d:Nat)(hd:d<=3)(ih:∀e,d=e+1->R80 Z e/\R41 Z e)(tk:Nat)(vl:AV)(L:List Int)(cv:AV)(A1:List Aaw)(m:Int)(h:H)(hm:(d:Int)=m)(hi:H9 tk vl L h)(u:Hu tk h cv A1)(F:A1≠[])(T:A1.length<=30):
 D6 tk vl h (Se (AaR A1) true (Abo d) h.nx) (Ay prog Z N false 33 [.ptr tk 0,cv,iI m] h):=by
 refine Qk ?_;rw[e41];have l:=hi.at';have B6:=l.lt;have hlp:0<A1.length:=Kd.2 F;have v:∀(k:Int) (j:H),TG tk vl h j->k<=9223372036854775807->D6 tk vl j (Below k) (Z.call 30 [.ptr tk 0,iI k] j):=λk j e hk=>V tk vl L k j (hi.tg e).at' (hi.tg e).ints hi.av hi.len hk;have y:∀g,Fo cv g=.ok (iI (A1.length:Int)) g:=λ_=>u.sl.Gs;refine Ey (y _) ?_;refine M5 (v _ _ (TG.refl l) om) λv1 j e1 l1 _ q1=>?_;obtain⟨i,rfl,S,i1⟩:=q1;obtain⟨c,b,o,B,x1,hL⟩:=Atu u l S om;have z:=u.ok c B;obtain⟨o1,o2⟩:=B2 z.words;have D:∀g,Fo c.w g=.ok (iI (c.ws.length:Int)) g:=λ_=>z.words.Gs;refine M5 (v 8 _ e1 om) λv8 h8 e8 l8 BfJ q8=>?_;obtain⟨k8,rfl,k80,k81⟩:=q8;repeat' (first|with_reducible (first|apply A7|apply A8|apply A9|apply Ba)|((with_reducible apply M5);exact v _ _ L5 om;intro U g G t q A;(try simp only[C9]at t q);obtain⟨r,rfl,j0,X⟩:=A)|(with_reducible (first|apply Cy|apply Cz|apply C0|apply C1);(conv=>lhs;simp(disch:=first|exact dA|fail) [lw, *,x1]);with_reducible (first|apply A7|apply A8|apply A9|apply Ba|apply Cu|(refine Cv (by simp) ?_)|(apply Cw<;>intro a<;>(try simp only[Bt]at a)<;>(try (exfalso;omega)))))|(with_reducible (first|apply C2|apply C3)<;>intro a<;>(try simp only[Bt]at a)<;>(try (exfalso;omega))))
 rotate_left 2;iterate 2
  .obtain⟨e,rfl⟩:=mg d;obtain⟨i3,i2⟩:=ih e rfl;exact j41 Z N V e om tk vl L cv m om om h hi (λj e=>i3 tk vl L cv A1 _ j om (hi.tg e) (u.tg l e) F T) (λj e=>i2 tk vl L cv A1 _ j om (hi.tg e) (u.tg l e) F T) _ om om _ (by simp;omega) _ _ L5
 all_goals (have hw5:=z.Mu)
 all_goals (have W:4<=Abo d:=by cases d with|zero=>decide|succ e=>exact Xy (Als (e:=e) om).1 (by simp only[Abo];omega))
 iterate 2
  .have x2:=hL h8 L5;repeat' (first|with_reducible (first|apply A7|apply A8|apply A9|apply Ba)|(with_reducible (first|apply Cy|apply Cz|apply C0|apply C1);(conv=>lhs;simp(disch:=first|exact dA|fail) [lw, *,x2]);with_reducible (first|apply A7|apply A8|apply A9|apply Ba|apply Cu|(refine Cv (by simp) ?_)|(apply Cw<;>intro a<;>(try simp only[Bt]at a)<;>(try (exfalso;omega)))))|(with_reducible (first|apply C2|apply C3)<;>intro a<;>(try simp only[Bt]at a)<;>(try (exfalso;omega))))
   refine M5 (v 6 _ L5 om) λv2 hy e2 l2 O q2=>?_;obtain⟨p,rfl,p0,p1⟩:=q2;simp only[C9]at l2 O;obtain⟨w,hw,E⟩:∃w,E1 .i64 (9+(9+p).tmod 2)=w/\(w=9\/w=10):=by
    have h1:=Int.tmod_nonneg 2 (show 0<=9+p by omega)
    have h2:=Int.tmod_lt_of_pos (9+p) (show(0:Int)<2 by omega)
    exact⟨9+(9+p).tmod 2,Cr _ om om,by omega⟩
   repeat' (first|with_reducible (first|apply A7|apply A8|apply A9|apply Ba)|((with_reducible apply M5);exact v _ _ L5 om;intro U g G t q A;(try simp only[C9]at t q);obtain⟨r,rfl,j0,X⟩:=A)|((with_reducible (first|apply Fj|apply zc2));exact I _ _ _ _ _ (u.tg l L5) om S om;intro U g G t q A;(first|(have P:=Ai.quiet G;try simp only[C9]at t q P)|(try simp only[C9]at t q));obtain⟨bb,rfl,A1F⟩:=A)|(with_reducible (first|apply Cy|apply Cz|apply C0|apply C1);(conv=>lhs;simp(disch:=first|exact dA|fail) [lw, *,D,hw]);with_reducible (first|apply A7|apply A8|apply A9|apply Ba|apply Cu|(refine Cv (by simp) ?_)|(apply Cw<;>intro a<;>(try simp only[Bt]at a)<;>(try (exfalso;omega)))))|(with_reducible (first|apply C2|apply C3)<;>intro a<;>(try simp only[Bt]at a)<;>(try (exfalso;omega)))|(refine B8 ?_ ?_;(focus (simp(disch:=first|decide|omega|(simp only[C9];omega)) [Aw,Am,Ar,Ax, *];done));(try simp(disch:=first|exact Ce|fail) only[Aw,Am,Bx,Ap,At,T3,Ia,B9,Dp,Dn,C9,Ca, *])))
   .have X4:((r.toNat:Nat):Int)=r:=Tb j0;obtain⟨wd,n⟩:∃s,c.ws[r.toNat]?=some s:=⟨_,Yq om⟩;obtain⟨b3,o3,el⟩:=R0.elem (f:=Aeb) (s:=1) (λ_=>rfl) (Sl.tg z.words l z.av (show TG tk vl h g from L5)) n
    have R:=el.ia;rw[X4]at R;have Q:=el.part 0 _ rfl;rw[Vw]at Q;have K:=Vl n;clear el n;repeat' (first|with_reducible (first|apply A7|apply A8|apply A9|apply Ba)|(with_reducible (first|apply Cy|apply Cz|apply C0|apply C1);(conv=>lhs;simp(disch:=first|exact dA|fail) [lw, *,R,Q]);with_reducible (first|apply A7|apply A8|apply A9|apply Ba|apply Cu|(refine Cv (by simp) ?_)|(apply Cw<;>intro a<;>(try simp only[Bt]at a)<;>(try (exfalso;omega)))))|(with_reducible (first|apply C2|apply C3)<;>intro a<;>(try simp only[Bt]at a)<;>(try (exfalso;omega)))|(refine B8 ?_ ?_;(focus (simp(disch:=first|decide|omega|(simp only[C9];omega)) [Aw,Am,Ar,Ax, *];done));(try simp(disch:=first|exact Ce|fail) only[Aw,Am,Bx,Ap,At,T3,Ia,B9,Dp,Dn,C9,Ca, *])))
    refine Pu tk h.nx ?_ λM Y=>?_
    .simp only[Tl,Ww,Pl,G4,Jj];repeat' (refine And.intro ?_ ?_)
     all_goals first|(left;simp;done)|(left;rfl)|(refine .inr ⟨λx j=>.inl (TG.wrote (by assumption) x j),?_⟩;(repeat' (refine And.intro ?_ ?_));all_goals first|(exact Ar ..)|(refine Ax _ _ _ _ _ _ _ _ _ _ _ _ ?_;decide)|exact Ci ..|exact Dk (tk:=tk) (TG.wrote (by assumption)) Ce (.inl rfl)|exact Dk (tk:=tk) (TG.wrote (by assumption)) Ce (.inr ⟨_,_,_,rfl,by omega,Jh B5 (show _=cd (Hx c) 100 from N4)⟩)|exact Dk (tk:=tk) (TG.wrote (by assumption)) Ce (.inr ⟨_,_,_,rfl,by omega,Jh B5 (show _=cd [iI (w),iI 0,.str []] 50 from N4)⟩))
    .repeat' (first|with_reducible (first|apply A7|apply A8|apply A9|apply Ba)|(with_reducible (first|apply Cy|apply Cz|apply C0|apply C1);(conv=>lhs;simp(disch:=first|exact dA|fail) [lw, *]);with_reducible (first|apply A7|apply A8|apply A9|apply Ba|apply Cu|(refine Cv (by simp) ?_)|(apply Cw<;>intro a<;>(try simp only[Bt]at a)<;>(try (exfalso;omega)))))|(with_reducible (first|apply C2|apply C3)<;>intro a<;>(try simp only[Bt]at a)<;>(try (exfalso;omega))))
     have J:TG tk vl h g:=L5;have C:=J.lo;exact zr (Ed _) ⟨L5,.two w (.leaf ⟨2,0,c.name⟩) (.leaf ⟨3,0,wd⟩),.inr (.inr (.inl ⟨rfl,E,⟨rfl,rfl,c,B,rfl⟩,rfl,rfl,c,B,rfl,K⟩)),by simp only[wt];omega,Wl (h:=g) [⟨2,0,c.name⟩,⟨3,0,wd⟩,⟨w,0,[]⟩] 3 rfl (Bf (h:=Ab g) _) rfl C⟩
   iterate 3
    .skip;refine Pu tk h.nx ?_ λM Y=>?_
     .simp only[Tl,Ww,Pl,G4,Jj];repeat' (refine And.intro ?_ ?_)
      all_goals first|(left;simp;done)|(left;rfl)|(refine .inr ⟨λx j=>.inl (TG.wrote (by assumption) x j),?_⟩;(repeat' (refine And.intro ?_ ?_));all_goals first|(exact Ar ..)|(refine Ax _ _ _ _ _ _ _ _ _ _ _ _ ?_;decide)|exact Ci ..|exact Dk (tk:=tk) (TG.wrote (by assumption)) Ce (.inl rfl)|exact Dk (tk:=tk) (TG.wrote (by assumption)) Ce (.inr ⟨_,_,_,rfl,by omega,Jh B5 (show _=cd (Hx c) 100 from N4)⟩)|exact Dk (tk:=tk) (TG.wrote (by assumption)) Ce (.inr ⟨_,_,_,rfl,by omega,Jh B5 (show _=cd [iI (9+p),iI 0,.str []] 50 from N4)⟩))
     .repeat' (first|with_reducible (first|apply A7|apply A8|apply A9|apply Ba)|(with_reducible (first|apply Cy|apply Cz|apply C0|apply C1);(conv=>lhs;simp(disch:=first|exact dA|fail) [lw, *]);with_reducible (first|apply A7|apply A8|apply A9|apply Ba|apply Cu|(refine Cv (by simp) ?_)|(apply Cw<;>intro a<;>(try simp only[Bt]at a)<;>(try (exfalso;omega)))))|(with_reducible (first|apply C2|apply C3)<;>intro a<;>(try simp only[Bt]at a)<;>(try (exfalso;omega))))
      have J:TG tk vl h g:=L5;have C:=J.lo;exact zr (Ed _) ⟨L5,.two (9+p) (.leaf ⟨2,0,c.name⟩) (.leaf ⟨1,r,[]⟩),.inr (.inl ⟨rfl,by omega,⟨rfl,.inr ⟨rfl,rfl,c,B,rfl⟩⟩,Acz om om⟩),by simp only[wt];omega,Wl (h:=g) [⟨2,0,c.name⟩,⟨1,r,[]⟩,⟨9+p,0,[]⟩] 3 rfl (Bf (h:=Ab g) _) rfl C⟩
abbrev zq:=[iI 0,.Bv,iI 0,iI 0,iI 0,iI 0,.str [],iI 0,.Bv,iI 0,ct,.str [],iI 0,.str [],.str [],.str [],iI 0,.Bv,.str [],iI 0]
variable {h h1 h2:H}{tk bq:Nat}{vl:AV}
def TQ tk vl bq(h h1:H):=∃o,Vu 20 o=true/\TG tk vl (h.put bq o) h1
def TQ.refl(c:H8 h tk vl)(hb:Vu 20 (h.m.get bq)=true)(hn:bq≠tk):TQ tk vl bq h h:=by
 refine⟨_,hb,?_⟩;have⟨m,a,_⟩:=c.cell;refine⟨m,a,Ye _,λb hb=>?_,λx d=>.inl (Wr _ (Wr _ d))⟩;by_cases e:b=tk;. simp_all
 .by_cases f:b=bq;. simp_all
  simp_all
def TQ.tg(e:TQ tk vl bq h h1)(g:TG tk vl h1 h2):TQ tk vl bq h h2:=by have⟨o,a,e⟩:=e;exact⟨o,a,e.trans g⟩
def TQ.gr(e:TQ tk vl bq h h1)(g:Ai h1 h2):TQ tk vl bq h h2:=by have⟨o,a,e⟩:=e;exact⟨o,a,e.gr g⟩
def TQ.nl(e:TQ tk vl bq h h1):TQ tk vl bq h (Ab h1):=e.gr (Ai.refl _).nl
def TQ.new(e:TQ tk vl bq h h1) o:TQ tk vl bq h (h1.new o):=e.gr ((Ai.refl _).new o)
def TQ.lo(e:TQ tk vl bq h h1):h.nx<=h1.nx:=by have⟨o,_,e⟩:=e;exact e.lo
def TQ.Cf(e:TQ tk vl bq h h1) b(hb:b<h.nx)(n1:b≠tk)(n2:b≠bq):h1.m.get b=h.m.get b:=by have⟨o,_,e⟩:=e;rw[e.Cf b hb n1,Aq _ _ _ n2]
def TQ.at(e:TQ tk vl bq h h1)(a:tk<h.nx):H8 h1 tk vl:=by have⟨o,_,e⟩:=e;exact e.at a
def TQ.Aiq(e:TQ tk vl bq h h1) c o(a:h.nx<=c):TQ tk vl bq h (h1.put c o):=by have⟨_,b,e⟩:=e;exact⟨_,b,e.Aiq c o a⟩
def TQ.put(e:TQ tk vl bq h h1) o(f:Vu 20 o=true)(hn:bq≠tk):TQ tk vl bq h (h1.put bq o):=by
 have⟨_,_,m,d,a⟩:=e;refine⟨o,f,m,d,a.lo,λb hb=>?_,λx c=>?_⟩
 .by_cases g:b=bq;. simp_all
  .rw[Aq _ _ _ g,a.Cf b hb];by_cases e:b=tk;. simp_all
   simp_all
 .rcases Wf.1 c with rfl|c;. simp
  .exact a.lg x c
def TQ.reL{hA}{L}(e1:TQ tk vl bq h hA)(g:TQ tk vl bq h h1)(f:∀z∈L,z∈hA.lg\/z=tk\/z=bq\/h.nx<=z):TQ tk vl bq h (Be L h1):=by
 have⟨o,e,m,d,c⟩:=g;have⟨_,_,_,_,a⟩:=e1;refine⟨o,e,m,d,c.lo,c.Cf,λz hz=>?_⟩;rcases f z hz with b|rfl|rfl|b;. exact a.lg z b
 .simp
 .simp_all
 simp_all
def Sl.tq{s len}{v}{c}(i:Sl s h v len c)(f:H8 h tk vl)(ha:T6 tk v)(hb:T6 bq v)(hq:Vu 20 (h.m.get bq)=true)(hn:bq≠tk)(e:TQ tk vl bq h h1):Sl s h1 v len c:=by
 have⟨o,k,e⟩:=e;have⟨_,_,d,_⟩:=Pb hq;obtain⟨l1,e1,rfl,r⟩:=Pb k;have a:H8 (h.put bq (cd l1 e1)) tk vl:=by have⟨m,j,_⟩:=f.cell;exact⟨f.lt,m,j,by rw[Aq _ _ _ λp=>hn p.symm];omega⟩
 refine Sl.tg (Sl.AnO i d om λh0 b off n cap z ex l=>?_) a ha e;subst l;rcases i with⟨g,_⟩|⟨w,t,u,q,cs,g,_⟩;. omega
 .cases g;exact hb _ _ _ _ _ _ rfl h0
def ClR.tq{c}(a:ClR tk h c)(b:ClR bq h c)(d:H8 h tk vl)(hq:Vu 20 (h.m.get bq)=true)(hn:bq≠tk)(e:TQ tk vl bq h h1):ClR tk h1 c:=⟨a.Mu,Sl.tq a.words d a.av b.av hq hn e,a.av,a.one,a.cell⟩
def Hu.tq{v}{l}(b:Hu tk h v l)(a:Hu bq h v l)(f:H8 h tk vl)(hq:Vu 20 (h.m.get bq)=true)(hn:bq≠tk)(e:TQ tk vl bq h h1):Hu tk h1 v l:=⟨Sl.tq b.sl f b.av a.av hq hn e,b.av,λc d=>(b.ok c d).tq (a.ok c d) f hq hn e⟩
def H9.tq{L}(hi:H9 tk vl L h)(hb:T6 bq vl)(hq:Vu 20 (h.m.get bq)=true)(hn:bq≠tk)(e:TQ tk vl bq h h1):H9 tk vl L h1:=⟨e.at hi.at'.lt,Sl.tq hi.ints hi.at' hi.av hb hq hn e,hi.av,hi.len⟩
def Acx{Q}{h0 i}{b}{lg}{k} tk bq lo(f:∀e∈b,e.w=[]\/(∀x∈e.w,x=tk\/x=bq\/lo<=x)/\∀a∈b,Jo e a=true)(c:∀L,(∀z∈L,z∈lg\/z=tk\/z=bq\/lo<=z)->Ah h0 Q (k (Be L i))):Ah h0 Q (Ff lg b i k):=by
 have d:=V9 _ _ λe h1=>by
  rcases f e h1 with g|g;. simp_all
  .exact .inr (V4 e _ g.2)
 rw[So d];apply c _;have j:∀e∈b,∀x∈e.w,x=tk\/x=bq\/lo<=x:=λe h1 x m=>by grind
 clear f d c;induction b with
 |nil=>simp_all
 |cons e es l=>intro z hz;rw[Ap]at hz;grind
def tqA(q:TQ tk vl bq h h1:=by first|((repeat' (first|assumption|with_reducible apply TQ.nl|with_reducible apply TQ.new|((with_reducible refine TQ.put ?_ _ ?_ ?_);rotate_left;(focus (first|rfl|assumption));(focus (first|assumption|omega)))|(with_reducible refine TQ.Aiq ?_ _ _ ?_)|(refine TQ.tg ?_ (by assumption))|(refine TQ.gr ?_ (by assumption))|(refine TQ.reL ?_ ?_ (by assumption))|omega|(simp only[C9];omega)));done)|fail):TQ tk vl bq h h1:=q
def Ahb{tk}{e}{n j b off}{i}{c g}(a:∀x∈e.w,x=tk)(f:tk<c.nx)(hb:b≠tk)(o:∀k,B5 (c.m.get b)=some k->k≠tk):Jo e ⟨n,j,[],.blk b off i,c,g⟩=true:=by cases d:B5 _ with
|none=>exact Dk a f (.inr ⟨b,_,_,rfl,hb,d⟩)
|some k=>
 unfold Jo;have l:clear (.blk b off i) e.w c e.h e.h1=true:=by show @Bool.rec (λ_=>Bool) _ ..=true;rw[Ab8 b _ a hb,d];show Ib _=true;rw[Ab8 k _ a (o k d)];rfl
 rw[Zq _,Wo _ _ f _ a,l];cases M4 _<;>cases Nat.beq ..<;>rfl
def AlW{tk bq}{vl}{h}{s}{i:Int}(l:ScR tk h s)(j:ScR bq h s)(v:H8 h tk vl)(hq:Vu 20 (h.m.get bq)=true)(hn:bq≠tk)(u:0<=i)(i1:i<s.A1.length):
 ∃(nm:List _) (b o:Nat),(∃c∈s.A1,c.name=nm)/\b<tk/\b<bq/\(∀k,B5 (h.m.get b)=some k->k<tk)/\(∀d,Gc 4 s.cv (iI i) d=.ok (.ptr b o) d)/\∀p,TQ tk vl bq h p->∀d,Bi p d->Ae (some none) (.ptr b o) d=.ok (.str nm) d:=by have r:=Tb u;have⟨c,a⟩:∃c,s.A1[i.toNat]?=some c:=⟨_,Yq om⟩;have⟨b,o,el⟩:=R0.elem (f:=Hx) (λ_=>rfl) l.A1.sl a;have n:=el.ia;rw[r]at n;have⟨_,_,_,q⟩:=Acg l.A1.sl om el;have⟨p1,p2⟩:=l.cz b _ _ _ 4 _ q om;have⟨p3,_⟩:=j.cz b _ _ _ 4 _ q om;refine⟨_,b,o,⟨c,Vl a,rfl⟩,p1,p3,p2,n,λp e=>?_⟩;have⟨_,_,g⟩:=R0.elem (f:=Hx) (λ_=>rfl) (l.A1.tq j.A1 v hq hn e).sl a;have t:=g.ia h;rw[r,n]at t;cases t;exact g.part 0 _ rfl
def JV(a b:Abn)(q:Qr) Wu s14 s15 c16:=Wu=q.Wu/\s14=q.s14/\s15=q.s15/\c16=q.c16\/Wu=b.name/\(∃c∈a.A1,c.name=s14)/\(∃c∈b.A1,c.name=s15)/\s14=s15/\1<=c16/\c16<=3
def JQ a b q vc vo vm bq(h1:H):=∃(Wu s14 s15:List _) (c16:Int),JV a b q Wu s14 s15 c16/\h1.m.get bq=cd (qc { q with Wu:=Wu,s14:=s14,s15:=s15,c16:=c16 } vc vo vm) 30
structure JIn(tk:Nat)(vl:AV)(L:List Int)(bq:Nat)(h:H)(q:Qr)(vc vo vm:AV)(a b:Abn):Prop where
 hi:H9 tk vl L h
 av:T6 bq vl
 hn:bq≠tk
 lt:bq<h.nx
 c1:Ge vc=true/\cellsOf vc=some [vc]
 c2:Ge vo=true/\cellsOf vo=some [vo]
 c3:Ge vm=true/\cellsOf vm=some [vm]
 hq:Vu 20 (h.m.get bq)=true
 a1:ScR tk h a
 a2:ScR bq h a
 b1:ScR tk h b
 b2:ScR bq h b
set_option maxHeartbeats 2000000 in
def AlO(K:R38 Z){Q:AV->H->Prop}(tk:Nat)(vl:AV)(L:List Int)(bq:Nat)(h:H)(q:Qr)(vc vo vm:AV)(a b:Abn)(J:JIn tk vl L bq h q vc vo vm a b)(n1:Nat)(i:Int)(F:0<=i)(i1:i<(a.A1.length:Int))
 (Qz:∀(hd:H) (f:L2),TQ tk vl bq h hd->h.nx+2<=hd.nx->hd.m.get h.nx=cd (Ze a) 82->hd.m.get (h.nx+1)=cd (Ze b) 82->JQ a b q vc vo vm bq hd->Ah H0 Q (AgC Z N n1 (.ptr tk 0) (.ptr bq 0) (.ptr h.nx 0) (.ptr (h.nx+1) 0) (iI (i+1)) f hd)):
 ∀(k:Nat) (m:Int) (n:Nat) (hd:H) (f0:L2),m+(k:Int)=(b.A1.length:Int)->0<=m->k<n->TQ tk vl bq h hd->h.nx+2<=hd.nx->hd.m.get h.nx=cd (Ze a) 82->hd.m.get (h.nx+1)=cd (Ze b) 82->JQ a b q vc vo vm bq hd->Ah H0 Q (Alk Z N n1 n (.ptr tk 0) (.ptr bq 0) (.ptr h.nx 0) (.ptr (h.nx+1) 0) (iI i) (iI m) f0 hd)
 |0,m,n,hd,f0,C,p,S3,e,j,g6,g7,hj=>by obtain⟨n2,rfl⟩:=mg n;have M:decide (m<(b.A1.length:Int))=false:=df;have r:∀d,Fo b.cv d=.ok (iI (b.A1.length:Int)) d:=λ_=>J.b1.A1.sl.Gs;have A:=J.a1.Mu;rw[Ape];refine wk ?_;exact Qz hd _ e j g6 g7 hj
 |k+1,m,n,hd,f0,C,p,S3,e,j,g6,g7,hj=>by
  obtain⟨n2,rfl⟩:=mg n;have I:=AlO K tk vl L bq h q vc vo vm a b J n1 i F i1 Qz k (m+1) n2;have A:=J.a1.Mu;have W:=J.b1.Mu;have B6:=J.hi.at'.lt;have G8:=J.lt;have hn:=J.hn;have M:decide (m<(b.A1.length:Int))=true:=dt;have r:∀d,Fo b.cv d=.ok (iI (b.A1.length:Int)) d:=λ_=>J.b1.A1.sl.Gs;have T:∀(k:Int) (g:H),TQ tk vl bq h g->k<=9223372036854775807->D6 tk vl g (Below k) (Z.call 30 [.ptr tk 0,iI k] g):=λk g e l=>K tk vl L k g (J.hi.tq J.av J.hq hn e).at' (J.hi.tq J.av J.hq hn e).ints J.hi.av J.hi.len l;obtain⟨na,E,oa,w,pa1,R,s,J4,G⟩:=AlW J.a1 J.a2 J.hi.at' J.hq hn F i1;obtain⟨S,bb,ob,y,pb1,P,t,Wx,D⟩:=AlW J.b1 J.b2 J.hi.at' J.hq hn p (show m<(b.A1.length:Int)by omega)
  have J5:=G hd e;have Wy:=D hd e;obtain⟨U,oa2⟩:Ge a.cv=true/\cellsOf a.cv=some [a.cv]:=⟨J.a1.one,J.a1.cell⟩;obtain⟨Wu,s14,s15,c16,B,hq⟩:=hj;have O:∀k,B5 (hd.m.get E)=some k->k≠tk:=λk l=>by rw[e.Cf E om om om]at l;have:=s k l;omega
  have kb:∀k,B5 (hd.m.get bb)=some k->k≠tk:=λk l=>by rw[e.Cf bb om om om]at l;have:=t k l;omega
  clear Qz G D s t J;rw[Ape];repeat' (first|refine wd ?_|(refine zqq ?_ ?_<;>intro hc<;>(try (exfalso;omega)))|fail)
  .refine M5 (T 3 _ tqA om) λv2 d X V u q2=>?_;obtain⟨jj,rfl,j0,j1⟩:=q2;have o:=TG.wrote (show TG tk vl (Ab (Ab hd)) d from X)
   simp only[C9]at V u;obtain⟨c0,code,c2,c3,c4,c5,s6,c7,ord,c9,Wz,Uw,W0,Yc,Sk,Uo,U3,E9,Oi,Mg⟩:=q;simp only at hq;have hq2:=(u bq (by have:=e.lo;omega) hn).trans hq
   have Y:TQ tk vl bq h d:=tqA;refine wd ?_;refine Acx tk bq h.nx ?_ λAal Wp=>?_
   .simp only[Tl,Ww,Pl,G4,Jj];repeat' (refine And.intro ?_ ?_)
    all_goals first|(left;simp;done)|(left;rfl)|(refine .inr ⟨λx g=>?_,?_⟩;(focus first|exact .inl (o x g)|(refine .inr (.inl ?_);have hz:=(D4 _ _ _ g).1;simp at hz;exact hz));(repeat' (refine And.intro ?_ ?_));all_goals first|(exact Ar ..)|(refine Ax _ _ _ _ _ _ _ _ _ _ _ _ ?_;decide)|exact Ci ..|exact Dk (tk:=tk) o Ce (.inl rfl)|exact Dk (tk:=tk) o Ce (.inr ⟨_,_,_,rfl,by omega,Jh B5 g6⟩)|exact Dk (tk:=tk) o Ce (.inr ⟨_,_,_,rfl,by omega,Jh B5 g7⟩)|exact Ahb (tk:=tk) o Ce om O|exact Ahb (tk:=tk) o Ce om kb)
   .rw[AoQ];refine wk ?_;have v:h.nx≠bq:=by omega
    have z:h.nx+1≠bq:=by omega
    have w6:=(u h.nx om om).trans g6;have w7:=(u (h.nx+1) om om).trans g7;refine I _ _ om om om ?_ Ce ?_ ?_ ⟨_,_,_,_,?_,A2 ..⟩
    .exact TQ.reL e ((((Y.nl.put _ rfl hn).nl.put _ rfl hn).nl.put _ rfl hn).nl.put _ rfl hn) Wp
    .show(H.put _ _ _).m.get _=_;rw[Aq _ _ _ v];show(H.put _ _ _).m.get _=_;rw[Aq _ _ _ v];show(H.put _ _ _).m.get _=_;rw[Aq _ _ _ v];show(H.put _ _ _).m.get _=_;rw[Aq _ _ _ v];exact w6
    .show(H.put _ _ _).m.get _=_;rw[Aq _ _ _ z];show(H.put _ _ _).m.get _=_;rw[Aq _ _ _ z];show(H.put _ _ _).m.get _=_;rw[Aq _ _ _ z];show(H.put _ _ _).m.get _=_;rw[Aq _ _ _ z];exact w7
    .have c:na=S:=by assumption
     exact .inr ⟨rfl,by first|exact w|(rw[<- c];exact w)|(rw[c]at w;exact w),by first|exact y|(rw[c];exact y)|(rw[<- c]at y;exact y),by first|rfl|exact c|exact c.symm,by omega,by omega⟩
  .rw[AoQ];refine wk ?_;exact I hd _ om om om e j g6 g7 ⟨Wu,s14,s15,c16,B,hq⟩
def AlN(l:R38 Z)(s:100<N)(tk:Nat)(vl:AV)(L:List Int)(bq:Nat)(h:H)(q:Qr)(vc vo vm:AV)(a b:Abn)(J:JIn tk vl L bq h q vc vo vm a b):
 ∀(k:Nat) (i:Int) (n:Nat) (hd:H) (f0:L2),i+(k:Int)=(a.A1.length:Int)->0<=i->k<n->TQ tk vl bq h hd->h.nx+2<=hd.nx->hd.m.get h.nx=cd (Ze a) 82->hd.m.get (h.nx+1)=cd (Ze b) 82->JQ a b q vc vo vm bq hd->Ah H0 (λ_ h1=>TQ tk vl bq h h1/\JQ a b q vc vo vm bq h1) (AgC Z N n (.ptr tk 0) (.ptr bq 0) (.ptr h.nx 0) (.ptr (h.nx+1) 0) (iI i) f0 hd)
 |0,i,n,hd,f0,p,j,o,e,c,g6,g7,hj=>by obtain⟨n2,rfl⟩:=mg n;have t:decide (i<(a.A1.length:Int))=false:=df;have d:∀g,Fo a.cv g=.ok (iI (a.A1.length:Int)) g:=λ_=>J.a1.A1.sl.Gs;rw[Apd];refine wk ?_;exact zr (Ed _) ⟨e,hj⟩
 |k+1,i,n,hd,f0,p,j,o,e,c,g6,g7,hj=>by obtain⟨n2,rfl⟩:=mg n;have r:=J.b1.Mu;have d:∀g,Fo _ g=.ok ..:=λ_=>J.a1.A1.sl.Gs;rw[Apd];exact wk (AlO Z N l _ _ L _ h q _ _ _ a b J _ i j om (λhd f=>(AlN l s _ _ L _ h q _ _ _ a b J k (i+1) n2) _ f om om om) b.A1.length 0 N _ _ om om om e c g6 g7 hj)
def R39:=∀tk vl L bq h q vc vo vm a b,JIn tk vl L bq h q vc vo vm a b->h.m.get bq=cd (qc q vc vo vm) 30->Ah H0 (λ_ h1=>TQ tk vl bq h h1/\JQ a b q vc vo vm bq h1) (Z.call 31 [.ptr tk 0,.ptr bq 0,.agg (Ze a),.agg (Ze b)] h)
def r39(c:R38 Z)(e:100<N) tk vl L bq h q vc vo vm a b(J:JIn tk vl L bq h q vc vo vm a b)(g:h.m.get bq=cd (qc q vc vo vm) 30):Ah H0 (λ_ h1=>TQ tk vl bq h h1/\JQ a b q vc vo vm bq h1) (Ay prog Z N false 31 [.ptr tk 0,.ptr bq 0,.agg (Ze a),.agg (Ze b)] h):=by
 rw[e39];have d:=J.a1.Mu;have f:=J.lt;refine wk (AlN Z N c e _ _ L _ h q _ _ _ a b J a.A1.length 0 N _ _ om om om (((TQ.refl J.hi.at' J.hq J.hn).new _).new _) (Ye _) ?_ (Bf _) ⟨_,_,_,_,.inl ⟨rfl,rfl,rfl,rfl⟩,?_⟩);. rw[Cq _ _ (by simp)];simp
 .rw[Cq _ _ (by show bq≠h.nx+1;omega),Cq _ _ om];omega
def TQ.trans{tk bq}{vl}{h h1 h2}(e:TQ tk vl bq h h1)(a:TQ tk vl bq h1 h2)(hn:bq≠tk):TQ tk vl bq h h2:=by have⟨o,b,g⟩:=a;exact(e.put o b hn).tg g
def Fm.To{s lo c len:Nat}{et e1}{h}{v}{cs l}(o:Fm s lo et h v len cs)(z:c<lo)(a:Vu l.length (h.m.get c)=true):Fm s lo et (h.put c (cd l e1)) v len cs:=by
 rcases o with f|⟨rfl,rfl,b,off,D7,rfl,h2,f⟩|⟨b,k,st,rfl,u,g,d,i,p,r,t,n⟩;. exact .inl f
 .have⟨l0,w,a,q⟩:=Pb a;rcases Sl.AnO (.inr ⟨b,_,0,_,_,rfl,Ye _,h2,by omega,by simp⟩:Sl s h (.sl b off 0 0 s true) 0 []) a q λh0=>absurd h0 om with⟨_,_,e⟩|⟨y,x,cap,ex,j,e,u,g,d,i⟩;. grind
  .cases e;exact .inr (.inl ⟨rfl,rfl,b,_,_,rfl,g,by omega⟩)
 .exact .inr (.inr ⟨b,k,st,rfl,by rw[Aq _ _ _ om];omega,by rw[Aq _ _ _ om];grind,d,i,p,r,t,n⟩)
def Oo.To{lo c}{e1}{h}{v}{m}{l}(a:Oo lo h v m)(p:c<lo)(d:Vu l.length (h.m.get c)=true):Oo lo (h.put c (cd l e1)) v m:=by
 rcases a with a|⟨b,off,cs,rfl,k,q,o,g⟩;. exact .inl (Fm.To a p d)
 .have⟨_,_,d,i⟩:=Pb d;rcases Sl.AnO (.inr ⟨b,_,_,_,_,rfl,Ye _,k,q,o⟩:Sl 3 h (.sl b _ _ _ 3 true) ..) d i λh0 b off len cap z ex a=>by grind with⟨_,_,e⟩|⟨s,r,cap,ex,D7,e,t,f,j,n⟩;. grind
  .cases e;exact .inr ⟨b,_,_,rfl,f,j,n,g⟩
def Oo.tq{lo tk bq}{vl v}{h h1}{m}(d:Oo lo h v m)(a:H8 h tk vl)(hq:Vu 20 (h.m.get bq)=true)(hn:bq≠tk)(h2:tk<lo)(i:bq<lo)(e:TQ tk vl bq h h1):Oo lo h1 v m:=by have⟨o,c,e⟩:=e;obtain⟨l1,e1,rfl,g⟩:=Pb c;refine(d.To i (g ▸ hq)).tg ?_ h2 e;have⟨m,b,_⟩:=a.cell;exact⟨a.lt,m,b,by rw[Aq _ _ _ λf=>hn f.symm];omega⟩
def Fm.tq{s lo tk bq len}{et}{vl v}{h h1}{cs}(d:Fm s lo et h v len cs)(a:H8 h tk vl)(hq:Vu 20 (h.m.get bq)=true)(hn:bq≠tk)(h2:tk<lo)(i:bq<lo)(e:TQ tk vl bq h h1):Fm s lo et h1 v len cs:=by have⟨o,c,e⟩:=e;obtain⟨l1,e1,rfl,g⟩:=Pb c;refine Fm.tg (Fm.To d i (g ▸ hq)) ?_ h2 e;have⟨m,b,_⟩:=a.cell;exact⟨a.lt,m,b,by rw[Aq _ _ _ λf=>hn f.symm];omega⟩
structure QIn(tk:Nat)(vl:AV)(L:List Int)(bq:Nat)(h:H):Prop where
 hi:H9 tk vl L h
 av:T6 bq vl
 hn:bq≠tk
 lt:bq<h.nx
 hq:Vu 20 (h.m.get bq)=true
def TQ.isc{tk bq}{vl}{h h1}(e:TQ tk vl bq h h1)(hn:bq≠tk)(a:bq<h.nx):Vu 20 (h1.m.get bq)=true:=by have⟨o,_,e⟩:=e;rw[e.Cf _ a hn,A2];omega
def QIn.tq{tk}{vl}{L}{bq}{h h1}(K:QIn tk vl L bq h)(e:TQ tk vl bq h h1):QIn tk vl L bq h1:=
 ⟨K.hi.tq K.av K.hq K.hn e,K.av,K.hn,Yy K.lt e.lo,e.isc K.hn K.lt⟩
def QIn.Adl{tk}{vl}{L}{bq}{h}(K:QIn tk vl L bq h)(b:R38 Z):∀k a,TQ tk vl bq h a->k<=9223372036854775807->D6 tk vl a (Below k) (Z.call 30 [.ptr tk 0,iI k] a):=λk a e=>b _ _ L k _ (K.tq e).hi.at' (K.tq e).hi.ints K.hi.av K.hi.len
def PQV(q:Qr) c4 c5:=(q.c0=5->1<=c4/\c4<c5/\c5<=100/\c4<=9/\c5<=c4+4)/\(q.c0≠5->c4=q.c4/\c5=q.c5)
def KQ bq q vc vo vm(h1:H):=∃c4 c5:Int,PQV q c4 c5/\h1.m.get bq=cd (qc { q with c4:=c4,c5:=c5 } vc vo vm) 30
def A9w(n:R38 Z)(tk:Nat)(vl:AV)(L:List Int)(bq:Nat)(h:H)(q:Qr)(vc vo vm:AV)(f0:L2)(K:QIn tk vl L bq h)(b:h.m.get bq=cd (qc q vc vo vm) 30):
 Ah H0 (λ_ h1=>TQ tk vl bq h h1/\KQ bq q vc vo vm h1) (AgA Z N (.ptr tk 0) (.ptr bq 0) f0 h):=by
 have A:=K.hi.at'.lt;have y:=K.lt;have hn:=K.hn;have f:=K.Adl Z n;have i:TQ tk vl bq h h:=TQ.refl K.hi.at' K.hq hn;clear K;obtain⟨c0,code,c2,c3,c4,c5,s6,c7,ord,c9,Wz,Uw,W0,v,p,s,U3,E9,Oi,Mg⟩:=q;try simp only at b
 rw[AwR];(repeat' (first|refine wd ?_|((with_reducible apply M5);exact f _ _ tqA om;intro z w u g d k;(try simp only[C9]at g d);obtain⟨t,rfl,j0,r⟩:=k)|(refine zqq ?_ ?_<;>intro o<;>(try (exfalso;omega)))|fail))
 .have e:B5 ((h.put bq (cd [] 0)).m.get bq)=none:=by rw[A2];rfl
  refine Acx tk bq h.nx ?_ λl j=>?_
  .simp only[Tl,Ww,Pl,G4,Jj];repeat' (refine And.intro ?_ ?_)
   all_goals first|(left;simp;done)|(left;rfl)|(refine .inr ⟨λx c=>?_,?_⟩;(focus first|exact .inl (TG.wrote (by assumption) x c)|(refine .inr (.inl ?_);have hz:=(D4 _ _ _ c).1;simp at hz;exact hz));(repeat' (refine And.intro ?_ ?_));all_goals first|(exact Ar ..)|(refine Ax _ _ _ _ _ _ _ _ _ _ _ _ ?_;decide)|exact Ci ..|exact Dk (tk:=tk) (TG.wrote (by assumption)) Ce (.inl rfl)|exact Dk (tk:=tk) (TG.wrote (by assumption)) Ce (.inr ⟨_,_,_,rfl,hn,by simp[B5]⟩))
  .repeat' (first|refine wk ?_|(refine zqq ?_ ?_<;>intro o<;>(try (exfalso;omega)))|fail)
   obtain rfl:c0=5:=by assumption
   refine zr (Ed _) ⟨TQ.reL tqA tqA j,_,_,⟨λ_=>?_,λa=>absurd rfl a⟩,A2 ..⟩;omega
 .exact zr (Ed _) ⟨i,c4,c5,⟨λa=>absurd a (by assumption),λ_=>⟨rfl,rfl⟩⟩,b⟩
def Fm.rl{s lo len}{et}{h}{v}{cs}{lg}(d:Fm s lo et h v len cs):Fm s lo et (Be lg h) v len cs:=by
 rcases d with a|⟨h1,h2,b,off,cs,e,f,c⟩|a;. exact .inl a
 .exact .inr (.inl ⟨h1,h2,b,_,_,e,((Bi.refl h).Be _).cont b _ f,c⟩)
 .exact .inr (.inr a)
set_option maxHeartbeats 2000000 in
def AlP(Fg:R38 Z)(tk:Nat)(vl:AV)(L:List Int)(bq:Nat)(h:H)(K:QIn tk vl L bq h)(f:Nat)(c:Aaw)(h7:h.m.get f=cd (Hx c) 100)(l7:f<h.nx)(z:f≠tk)(m7:f≠bq)(vc vm:AV)(q0:Qr)(C:-3<=c.a)(I:c.a<=c.b)(J:c.b<=20)(many:Int)(hm:many<=4):
 ∀(k:Nat) (i:Int) (n:Nat) (hd:H) (f0:L2) (ord:List (Int × Int)) (vo:AV),i+(k:Int)=many->0<=i->k<n->TQ tk vl bq h hd->hd.m.get bq=cd (qc { q0 with ord:=ord } vc vo vm) 30->(ord.length:Int)=i->(∀r∈ord,c.a<=r.1/\r.1<=r.2/\r.2<=c.b)->Fm 2 h.nx 48 hd vo ord.length (ord.flatMap Zd) ->
 Ah H0 (λ_ h1=>TQ tk vl bq h h1/\∃(ord:List (Int × Int)) (c9:Int) (vo:AV),h1.m.get bq=cd (qc { q0 with ord:=ord,c9:=c9 } vc vo vm) 30/\(ord.length:Int)=many/\(∀r∈ord,c.a<=r.1/\r.1<=r.2/\r.2<=c.b)/\0<=c9/\c9<=2/\Fm 2 h.nx 48 h1 vo ord.length (ord.flatMap Zd)) (Aln Z N n (.ptr tk 0) (.ptr bq 0) (.ptr f 0) (iI many) (iI i) f0 hd)
 |0,i,n,hd,f0,ord,vo,Qd,H4,S3,e,p,hl,Y,v=>by
  obtain⟨n2,rfl⟩:=mg n;obtain⟨c0,A,c2,c3,c4,c5,s6,c7,B,c9,Wz,Uw,W0,W,T,X,U3,O,Oi,Mg⟩:=q0;replace p:hd.m.get bq=cd [iI c0,vc,iI c2,iI c3,iI c4,iI c5,.str s6,iI c7,vo,iI c9,.bool Wz,.str Uw,iI W0,.str W,.str T,.str X,iI U3,vm,.str Oi,iI Mg] 30:=p;have k1:decide (i<many)=false:=df;have U:=K.Adl Z Fg;have q:=K.hi.at'.lt;have g:=K.lt;have hn:=K.hn;have Kf:=e.lo;rw[Aph];have k3:(3:Int)<=9223372036854775807:=by omega
  (repeat' (first|refine wk ?_|((with_reducible apply M5);exact U _ _ tqA k3;intro vv d E w l y;(try simp only[C9]at w l);obtain⟨jj,rfl,j0,j1⟩:=y)));have hq2:=(l bq om hn).trans p;have ho2:=Fm.tq v (e.at q) (e.isc hn g) hn q g ((TQ.refl (e.at q) (e.isc hn g) hn).tg E);repeat' (first|refine wk ?_|(refine zqq ?_ ?_<;>intro hc<;>(try (exfalso;omega)))|fail)
  refine zr (Ed _) ⟨tqA,ord,_,vo,A2 ..,by omega,Y,by omega,by omega,?_⟩;exact Fm.To ho2 g (by rw[hq2];rfl)
 |k+1,i,n,hd,f0,ord,vo,Qd,H4,S3,e,p,hl,Y,v=>by
  obtain⟨n2,rfl⟩:=mg n;obtain⟨c0,A,c2,c3,c4,c5,s6,c7,B,c9,Wz,Uw,W0,W,T,X,U3,O,Oi,Mg⟩:=q0;replace p:hd.m.get bq=cd [iI c0,vc,iI c2,iI c3,iI c4,iI c5,.str s6,iI c7,vo,iI c9,.bool Wz,.str Uw,iI W0,.str W,.str T,.str X,iI U3,vm,.str Oi,iI Mg] 30:=p;have ih:=AlP Fg tk vl L bq h K f c h7 l7 z m7 vc vm ⟨c0,A,c2,c3,c4,c5,s6,c7,B,c9,Wz,Uw,W0,W,T,X,U3,O,Oi,Mg⟩ C I J many hm k (i+1) n2;have k1:decide (i<many)=true:=dt;have U:=K.Adl Z Fg;have q:=K.hi.at'.lt;have g:=K.lt;have hn:=K.hn;have Kf:=e.lo;have S:hd.m.get f=cd (Hx c) 100:=(e.Cf f l7 z m7).trans h7;have t0:TQ tk vl bq hd hd:=TQ.refl (e.at q) (e.isc hn g) hn;have Q:=e.at q;have D:=e.isc hn g;obtain⟨cn,ca,cb,cw,cws⟩:=c;try simp only at h7 S C I J Y
  rw[Aph];replace ih:=(hU ih)
  (repeat' (first|refine wd ?_|((with_reducible apply M5);exact U _ _ tqA om;intro vv d E w l y;(try simp only[C9]at w l);obtain⟨jj,rfl,j0,j1⟩:=y)));refine Acx tk bq hd.nx ?_ λG Wp=>?_
  .simp only[Tl,Ww,Pl,G4,Jj];repeat' (refine And.intro ?_ ?_)
   all_goals first|(left;simp;done)|(left;rfl)|(refine .inr ⟨λx j=>?_,?_⟩;(focus first|exact .inl (TG.wrote (by assumption) x j)|(refine .inr (.inl ?_);have hz:=(D4 _ _ _ j).1;simp at hz;exact hz));(repeat' (refine And.intro ?_ ?_));all_goals first|(exact Ar ..)|(refine Ax _ _ _ _ _ _ _ _ _ _ _ _ ?_;decide)|exact Ci ..|exact Dk (tk:=tk) (TG.wrote (by assumption)) Ce (.inl rfl)|exact Dk (tk:=tk) (TG.wrote (by assumption)) Ce (.inr ⟨_,_,_,rfl,z,Jh B5 S⟩))
  .generalize F:Be G _=hz;have M:TQ tk vl bq hd hz:=by rw[<- F];exact TQ.reL t0 tqA (by assumption)
   have gB:hz.m.get bq=hd.m.get bq:=by rw[<- F];exact l bq om hn
   have gC:hz.m.get f=hd.m.get f:=by rw[<- F];exact l f om z
   have xB:hz.nx=d.nx:=by rw[<- F];rfl
   rw[p]at gB;rw[S]at gC;have tA:TQ tk vl bq h hz:=e.trans M hn;have oB:=Fm.tq v Q D hn q g M;have s:=M.at (h:=hd) om;have t:=M.isc hn om;have t1:TQ tk vl bq hz hz:=TQ.refl s t hn;have A3W:=tA.lo;clear Wp l E S p v M t0 Q D F;obtain⟨o1,o2⟩:=B2 oB.sl;generalize hA:ca+_=lo1;have u:ca<=lo1/\lo1<=cb:=by omega
   clear hA j0 j1;obtain⟨u,A3W⟩:=u;(repeat' (first|refine wd ?_|((with_reducible apply M5);exact U _ _ tqA om;intro vv d E w l y;(try simp only[C9]at w l);obtain⟨jj,rfl,j0,j1⟩:=y)));generalize hA:lo1+_=hi1;have P:lo1<=hi1/\hi1<=cb:=by omega
   clear hA;have tF:TQ tk vl bq hz d:=tqA;have gF:d.m.get bq=hz.m.get bq:=l bq om hn;rw[gB]at gF;have oF:=Fm.tq oB s t hn q g tF;have tN:TQ tk vl bq h ((Ab d).new (cd [iI lo1,iI hi1] 48)):=(tA.trans tF hn).nl.new _;have oN:Fm 2 h.nx 48 ((Ab d).new (cd [iI lo1,iI hi1] 48)) vo ord.length (ord.flatMap Zd):=Fm.gr oF ((Ai.refl d).nl.new _);have hs:Sl 2 ((Ab d).new (cd [iI lo1,iI hi1] 48)) (.sl d.nx 0 1 1 2 true) 1 [iI lo1,iI hi1]:=Sl.lit (h:=Ab d) (Bf _) rfl rfl;have hl5:ord.length<=4:=by omega
   obtain⟨v',h',p1,p2,p3,p4,p5⟩:=Fm.AbQ (bytes:=16) (lo:=h.nx) oN hs.src (by rfl) om (by rfl) tN.lo;have tP:TQ tk vl bq h h':=by obtain⟨o,v,m,hm,p⟩:=tN;exact⟨o,v,m,hm,p3 _ (Ye _) p⟩
   have gP:h'.m.get bq=d.m.get bq:=by rw[p5 bq g];exact Cq (h:=Ab d) _ bq (by show bq≠d.nx;omega)
   rw[gF]at gP;have wP:∀x∈h'.lg,h.nx<=x:=by
    have g0:Ai ⟨d.m,h.nx,[]⟩ ((Ab d).new (cd [iI lo1,iI hi1] 48)):=Ai.new (h:=⟨d.m,h.nx,[]⟩) (h1:=Ab d) ⟨by show h.nx<=d.nx;omega,λb hb=>rfl,λx j=>by cases j⟩ _
    intro x j;rcases(p3 ⟨d.m,h.nx,[]⟩ (Ye _) g0).lg x j with h3|h3
    .cases h3
    .exact h3
   have lP:d.nx+1<=h'.nx:=p2.lo;obtain⟨r1,r2⟩:=B2 p4.sl;refine Ey p1 ?_;clear p1 p2 p3 p5 oN oF oB hs s t;have V:=TG.wrote (show TG tk vl (Ab (Ab hz)) d from E)
   refine wd ?_;refine Acx tk bq h.nx ?_ λG Wp=>?_
   .simp only[Tl,Ww,Pl,G4,Jj];repeat' (refine And.intro ?_ ?_)
    all_goals first|(left;simp;done)|(left;rfl)|(refine .inr ⟨λx j=>?_,?_⟩;(focus first|exact .inl (V x j)|(refine .inr (.inr ?_);exact wP _ (D4 _ _ _ j).1)|(refine .inr (.inl ?_);have hz:=(D4 _ _ _ j).1;simp at hz;exact hz));(repeat' (refine And.intro ?_ ?_));all_goals first|(exact Ar ..)|(refine Ax _ _ _ _ _ _ _ _ _ _ _ _ ?_;decide)|exact Ci ..|exact Dk (tk:=tk) V Ce (.inl rfl)|exact Dk (tk:=tk) V Ce (.inr ⟨_,_,_,rfl,z,Jh B5 gC⟩)|exact Dk (tk:=tk) V Ce (.inr ⟨_,_,_,rfl,hn,Jh B5 gB⟩))
   .refine wk ?_;refine(gw ih) _ _ (ord++[(lo1,hi1)]) v' om om om ?_ (A2 ..) ?_ ?_ ?_
    .exact TQ.reL tA tqA (by assumption)
    .simp only[Xi,Y7,Gx];omega
    .intro r R;rcases T2.1 R with R|R
     .exact Y r R
     .rw[T0.1 R];exact⟨u,P.1,P.2⟩
    .simp only[Xi,V5];exact Fm.rl (Fm.To (h:=Ab h') (show Fm 2 h.nx 48 (Ab h') v' _ _ from Fm.rl (lg:=[]) p4) g ((Jh (Vu 20) gP).trans rfl))
def AoM D lo h vc l:=l=[]/\vc=.Bv\/∃t,E7 D false t/\wt t<=Abo 3/\l=t.nodes/\Oo lo h vc t.nodes
structure QZ(q:Qr):Prop where
 code:q.code=[]
 c2:q.c2=0
 c3:q.c3=0
 c4:q.c4=0
 c5:q.c5=0
 c7:q.c7=0
 ord:q.ord=[]
 c9:q.c9=0
 Wz:q.Wz=false
structure KV(A1:List Aaw)(q0 q:Qr):Prop where
 same:q={ q0 with code:=q.code,c2:=q.c2,c3:=q.c3,c4:=q.c4,c5:=q.c5,s6:=q.s6,c7:=q.c7,ord:=q.ord,c9:=q.c9,Wz:=q.Wz }
 A47:q.c0≠2->q.c0≠4->q.c0≠5->q.code=[]/\q.c2=0/\q.c3=0
 AyG:q.c0=2\/q.c0=4\/q.c0=5->q.code≠[]/\-3<=q.c2/\q.c2<=q.c3/\q.c3<=20/\q.c2<=3/\q.c3<=q.c2+7
 pq1:q.c0≠5->q.c4=0/\q.c5=0
 pq2:q.c0=5->1<=q.c4/\q.c4<q.c5/\q.c5<=100/\q.c4<=9/\q.c5<=q.c4+4
 Bcp:q.c0=1\/q.c0=2\/q.c0=5->q.s6=[]
 Bcq:q.c0≠1->q.c0≠2->q.c0≠5->∃c∈A1,c.name=q.s6
 bd1:q.c0≠7->q.c7=0
 bd2:-3<=q.c7/\q.c7<=20
 Bdd:q.c0≠10->q.ord=[]/\q.c9=0
 Bde:q.c0=10->q.ord≠[]/\q.ord.length<=4/\0<=q.c9/\q.c9<=2/\∃c∈A1,c.name=q.s6/\∀r∈q.ord,c.a<=r.1/\r.1<=r.2/\r.2<=c.b
 con:q.c0≠3->q.Wz=false
def Afg bq lo A1 q0 vm h1:=∃(q:Qr) (vc vo:AV),h1.m.get bq=cd (qc q vc vo vm) 30/\KV A1 q0 q/\AoM (AaR A1) lo h1 vc q.code/\q.ord.length<=4/\Fm 2 lo 48 h1 vo q.ord.length (q.ord.flatMap Zd)
def Afg.mono{bq lo c}{A1}{q0}{vm}{h1}(e:Afg bq lo A1 q0 vm h1)(b:c<=lo):Afg bq c A1 q0 vm h1:=by
 have⟨q,_,_,a1,a2,a,d,i⟩:=e;refine⟨q,_,_,a1,a2,?_,d,Yp i b⟩;rcases a with a|⟨t,b1,b2,g,f⟩;. exact .inl a
 .exact .inr ⟨t,b1,b2,g,f.Y5 b⟩
set_option maxHeartbeats 2000000 in
def A9v(Fg:R38 Z)(hN:100<N)(tk:Nat)(vl:AV)(L:List Int)(bq:Nat)(h:H)(K:QIn tk vl L bq h)(cv:AV)(p:Nat)(c:Aaw)(h7:h.m.get p=cd (Hx c) 100)(l7:p<h.nx)(n7:p≠tk)(m7:p≠bq)(vm:AV)(q:Qr)(n:h.m.get bq=cd (qc q .Bv .Bv vm) 30)(hz:QZ q)(A1:List Aaw)(V:c∈A1)(i:c.name=q.s6)(hv:AdD c.a c.b c.ws)(hc1:q.c0≠1)
 (hO:D6 tk vl h (Se (AaR A1) false (Abo 3) h.nx) (Z.call 77 [.ptr tk 0,cv,iI 3] h)) (M:Bool) (htb:M=true ↔ q.c0=2\/q.c0=4\/q.c0=5) (f0:L2):
 Ah H0 (λ_ h1=>TQ tk vl bq h h1/\Afg bq h.nx A1 q vm h1) (Aee Z N (.ptr tk 0) (.ptr bq 0) cv (.ptr p 0) (iI q.c0) (.bool M) f0 h):=by
 have w:=K.hi.at'.lt;have l:=K.lt;have hn:=K.hn;have hT:=K.Adl Z Fg;have hat:=K.hi.at';have W:=K.hq;have t0:TQ tk vl bq h h:=TQ.refl hat W hn;obtain⟨c0,code,c2,c3,c4,c5,s6,c7,ord,c9,Wz,Uw,W0,D,z,E,U3,E9,Oi,Mg⟩:=q;obtain⟨z1,z2,z3,z4,z5,z6,z7,z8,z9⟩:=hz;simp only at z1 z2 z3 z4 z5 z6 z7 z8 z9 i hc1 htb;subst z1;subst z2;subst z3;subst z4;subst z5;subst z6;subst z7;subst z8;subst z9;replace n:h.m.get bq=cd [iI c0,.Bv,iI 0,iI 0,iI 0,iI 0,.str s6,iI 0,.Bv,iI 0,ct,.str Uw,iI W0,.str D,.str z,.str E,iI U3,vm,.str Oi,iI Mg] 30:=n;rw[AwQ];cases M
 .have P:c0≠2/\c0≠4/\c0≠5:=by refine⟨λd=>?_,λd=>?_,λd=>?_⟩<;>(have:=htb.2 om;cases this)
  obtain⟨n2,n4,n5⟩:=P;have k:-3<=c.a/\c.a<=c.b/\c.b<=20:=by
   rcases hv with⟨_,h1,h2,h3⟩|⟨u,h1,h2,_,h3,h4⟩
   .exact⟨h1,h2,h3.1⟩
   .omega
  have U:=λmany f=>AlP Z N Fg tk vl L bq h K p c h7 l7 n7 m7 .Bv vm ⟨c0,[],0,0,0,0,s6,0,[],0,false,Uw,W0,D,z,E,U3,E9,Oi,Mg⟩ k.1 k.2.1 k.2.2 many f;have Zn:∃c∈A1,c.name=s6:=⟨c,V,i⟩;replace U:=(hU U)
  replace K:=(hU K)
  clear htb hv;(repeat' (first|refine wk ?_|((with_reducible apply M5);exact hT _ _ tqA om;intro vv d ee Q I R;(try simp only[C9]at Q I);obtain⟨jj,rfl,j0,j1⟩:=R)|(refine zqq ?_ ?_<;>intro hc<;>(try (exfalso;omega)))|fail))
  .obtain rfl:c0=3:=by assumption
   exact zr (Ed _) ⟨tqA,⟨_,[],_,_,_,_,_,_,[],_,_,_,_,_,_,_,_,E9,_,_⟩,.Bv,.Bv,A2 ..,⟨rfl,λ_ _ _=>⟨rfl,rfl,rfl⟩,λd=>by simp at d,λ_=>⟨rfl,rfl⟩,λd=>by simp at d,λd=>by simp at d,λ_ _ _=>Zn,λ_=>rfl,by simp,λ_=>⟨rfl,rfl⟩,λd=>by simp at d,λd=>by simp at d⟩,.inl ⟨rfl,rfl⟩,by simp,Fm.nil ..⟩
  .obtain rfl:c0=7:=by assumption
   exact zr (Ed _) ⟨tqA,⟨_,[],_,_,_,_,_,_,[],_,_,_,_,_,_,_,_,E9,_,_⟩,.Bv,.Bv,A2 ..,⟨rfl,λ_ _ _=>⟨rfl,rfl,rfl⟩,λd=>by simp at d,λ_=>⟨rfl,rfl⟩,λd=>by simp at d,λd=>by simp at d,λ_ _ _=>Zn,λd=>by simp at d,by simp;omega,λ_=>⟨rfl,rfl⟩,λd=>by simp at d,λ_=>rfl⟩,.inl ⟨rfl,rfl⟩,by simp,Fm.nil ..⟩
  .obtain rfl:c0=10:=by assumption
   have o:TQ tk vl bq h d:=tqA;have gA:=(I bq om hn).trans n;refine Ah.mono ((gw U) (1+jj) om (1+jj).toNat 0 N d _ [] .Bv om om om o gA rfl (λr hr=>by cases hr) (Fm.nil ..)) λv h1 _ q1=>?_
   obtain⟨p1,ord,c9,vo,p2,p3,p4,p5,p7,p6⟩:=q1;refine⟨p1,_,.Bv,vo,p2,⟨rfl,λ_ _ _=>⟨rfl,rfl,rfl⟩,λd=>by simp at d,λ_=>⟨rfl,rfl⟩,λd=>by simp at d,λd=>by simp at d,λ_ _ _=>Zn,λ_=>rfl,by simp,λd=>by simp at d,λ_=>⟨λd=>?_,?_,p5,p7,c,V,i,p4⟩,λ_=>rfl⟩,.inl ⟨rfl,rfl⟩,?_,p6⟩
   .replace d:ord=[]:=d;rw[d]at p3;simp at p3;omega
   .show ord.length<=4;omega
   .show ord.length<=4;omega
  .have x3:c0≠3:=by assumption
   have x7:c0≠7:=by assumption
   have x10:c0≠10:=by assumption
   exact zr (Ed _) ⟨tqA,⟨c0,[],_,_,_,_,_,_,[],_,_,_,_,_,_,_,_,E9,_,_⟩,.Bv,.Bv,n,⟨rfl,λ_ _ _=>⟨rfl,rfl,rfl⟩,λd=>by(replace d:c0=2\/c0=4\/c0=5:=d);omega,λ_=>⟨rfl,rfl⟩,λd=>absurd d n5,λd=>by(replace d:c0=1\/c0=2\/c0=5:=d);omega,λ_ _ _=>Zn,λ_=>rfl,by simp,λ_=>⟨rfl,rfl⟩,λd=>absurd d x10,λ_=>rfl⟩,.inl ⟨rfl,rfl⟩,by simp,Fm.nil ..⟩
 .have P:c0=2\/c0=4\/c0=5:=htb.1 rfl;clear htb hv;refine Zx ?_;refine M5 hO λv1 h1 e1 l1 A q1=>?_;obtain⟨t,y1,s1,n1⟩:=q1;obtain⟨o1,o2⟩:=n1.one;have g1:=(A bq l hn).trans n;have t1:TQ tk vl bq h h1:=t0.tg e1;have C:=e1.at w;have B:=t1.isc hn l;have M:TQ tk vl bq h1 h1:=TQ.refl C B hn;have S:=λg q f0=>A9w Z N Fg tk vl L bq g q v1 .Bv vm f0;have hK:∀g,TQ tk vl bq h g->QIn tk vl L bq g:=λg e=>K.tq e;replace S:=(hU S)
  replace hK:=(hU hK)
  clear K hO;(repeat' (first|refine wd ?_|((with_reducible apply M5);exact hT _ _ tqA om;intro vv d ee Q I R;(try simp only[C9]at Q I);obtain⟨jj,rfl,j0,j1⟩:=R)));refine Acx tk bq h1.nx ?_ λY Wp=>?_
  .simp only[Tl,Ww,Pl,G4,Jj];repeat' (refine And.intro ?_ ?_)
   all_goals first|(left;simp;done)|(left;rfl)|(refine .inr ⟨λx g=>?_,?_⟩;(focus first|exact .inl (TG.wrote (by assumption) x g)|(refine .inr (.inl ?_);have hz:=(D4 _ _ _ g).1;simp at hz;exact hz));(repeat' (refine And.intro ?_ ?_));all_goals first|(exact Ar ..)|(refine Ax _ _ _ _ _ _ _ _ _ _ _ _ ?_;decide)|exact Ci ..|exact Dk (tk:=tk) (TG.wrote (by assumption)) Ce (.inl rfl)|exact Dk (tk:=tk) (TG.wrote (by assumption)) Ce (.inr ⟨_,_,_,rfl,hn,by simp[B5]⟩))
  .generalize X:Be Y _=hz;have tB:TQ tk vl bq h1 hz:=by rw[<- X];refine TQ.reL ?_ ?_ Wp<;>exact tqA
   have gB:∃d2 d3:Int,(-3<=d2/\d2<=d3/\d3<=20/\d2<=3/\d3<=d2+7)/\hz.m.get bq=cd [iI c0,v1,iI d2,iI d3,iI 0,iI 0,.str s6,iI 0,.Bv,iI 0,ct,.str Uw,iI W0,.str D,.str z,.str E,iI U3,vm,.str Oi,iI Mg] 30:=by rw[<- X];refine⟨_,_,?_,A2 ..⟩;omega
   have o:TQ tk vl bq h hz:=t1.trans tB hn;have nB:Oo h.nx hz v1 t.nodes:=n1.tq C B hn w l tB;clear X Wp g1 n A;obtain⟨d2,d3,dv,gq⟩:=gB;have y:=o.at w;have F:=o.isc hn l;have hlz:=o.lo;have j:∀(hy:H) (s:uw) (f:L2),TQ tk vl bq hz hy->hy.m.get bq=cd (qc ⟨c0,t.nodes,d2,d3,0,0,s,0,[],0,false,Uw,W0,D,z,E,U3,E9,Oi,Mg⟩ v1 .Bv vm) 30->(c0≠4->s=[])->(c0=4->s=s6)->Ah H0 (λ_ h1=>TQ tk vl bq h h1/\Afg bq h.nx A1 ⟨c0,[],0,0,0,0,s6,0,[],0,false,Uw,W0,D,z,E,U3,E9,Oi,Mg⟩ vm h1) (AgA Z N (.ptr tk 0) (.ptr bq 0) f hy):=by
    intro hy s f ty gy b1 b2;have J:TQ tk vl bq h hy:=o.trans ty hn;have ny:Oo h.nx hy v1 t.nodes:=nB.tq y F hn w l ty;refine Ah.mono ((gw S) hy _ f ((gw hK) hy J) gy) λv h2 _ r=>?_
    obtain⟨te,p4,p5,pv,g4⟩:=r;refine⟨J.trans te hn,_,v1,.Bv,g4,⟨rfl,λG T O=>?_,λ_=>⟨Tf t,dv⟩,pv.2,pv.1,λd=>b1 ?_,λx1 G O=>⟨c,V,?_⟩,λ_=>rfl,by simp,λ_=>⟨rfl,rfl⟩,λd=>?_,λ_=>rfl⟩,.inr ⟨t,y1,s1,rfl,ny.tq (J.at w) (J.isc hn l) hn w l te⟩,by simp,Fm.nil ..⟩
    .rcases P with d|d|d
     .exact absurd d G
     .exact absurd d T
     .exact absurd d O
    .replace d:c0=1\/c0=2\/c0=5:=d;omega
    .replace G:c0≠2:=G;replace O:c0≠5:=O;rw[i];exact(b2 om).symm
    .replace d:c0=10:=d;omega
   replace j:=(hU j)
   have tz:TQ tk vl bq hz hz:=TQ.refl y F hn;repeat' (first|refine wk ?_|(refine zqq ?_ ?_<;>intro hc<;>(try (exfalso;omega)))|fail)
   .have T:c0≠4:=by assumption
    exact(gw j) _ [] _ tqA (A2 ..) (λ_=>rfl) (λd=>absurd d T)
   .obtain rfl:c0=4:=by assumption
    exact(gw j) _ s6 _ tz gq (λd=>absurd rfl d) (λ_=>rfl)
def Hu.tq2{tk bq}{vl v}{h h1}{l}(a:Hu bq h v l)(d:Hu tk h v l)(f:H8 h tk vl)(hq:Vu 20 (h.m.get bq)=true)(hn:bq≠tk)(e:TQ tk vl bq h h1):Hu bq h1 v l:=
 ⟨Sl.tq a.sl f d.av a.av hq hn e,a.av,λc b=>⟨(a.ok c b).Mu,Sl.tq (a.ok c b).words f (d.ok c b).av (a.ok c b).av hq hn e,(a.ok c b).av,(a.ok c b).one,(a.ok c b).cell⟩⟩
structure KIn(tk:Nat)(vl:AV)(L:List Int)(bq:Nat)(h:H)(cv:AV)(A1:List Aaw):Prop where
 Q:QIn tk vl L bq h
 c1:Hu tk h cv A1
 c2:Hu bq h cv A1
 ne:A1≠[]
 Mu:A1.length<=30
 val:∀c∈A1,AdD c.a c.b c.ws
def KIn.tq{tk}{vl}{L}{bq}{h h1}{cv}{A1}(K:KIn tk vl L bq h cv A1)(e:TQ tk vl bq h h1):KIn tk vl L bq h1 cv A1:=
 ⟨K.Q.tq e,K.c1.tq K.c2 K.Q.hi.at' K.Q.hq K.Q.hn e,K.c2.tq2 K.c1 K.Q.hi.at' K.Q.hq K.Q.hn e,K.ne,K.Mu,K.val⟩
def Afg.s6{bq lo}{A1}{q0}{s}{vm}{h1}(a:Afg bq lo A1 { q0 with s6:=s } vm h1):Afg bq lo A1 q0 vm h1:=by have⟨q,_,_,a1,a2,b⟩:=a;exact⟨q,_,_,a1,⟨a2.same,a2.A47,a2.AyG,a2.pq1,a2.pq2,a2.Bcp,a2.Bcq,a2.bd1,a2.bd2,a2.Bdd,a2.Bde,a2.con⟩,b⟩
def R42:=∀tk vl L bq h cv A1 q vm,KIn tk vl L bq h cv A1->h.m.get bq=cd (qc q .Bv .Bv vm) 30->QZ q ->
 Ah H0 (λ_ h1=>TQ tk vl bq h h1/\Afg bq h.nx A1 q vm h1) (Z.call 34 [.ptr tk 0,.ptr bq 0,cv] h)
set_option maxHeartbeats 2000000 in
def Auk(Fg:R38 Z)(y:R79 Z)(t:R80 Z 3)(hN:100<N)(tk:Nat)(vl:AV)(L:List Int)(bq:Nat)(h:H)(cv:AV)(A1:List Aaw)(q:Qr)(vm:AV)(K:KIn tk vl L bq h cv A1)(hz:QZ q):
 ∀(k:Nat) (i:Int) (n:Nat) (hd:H) (f0:L2),(k:Int)=i->i<(A1.length:Int)->k<n->TQ tk vl bq h hd->hd.m.get bq=cd (qc q .Bv .Bv vm) 30->Ah H0 (λ_ h1=>TQ tk vl bq h h1/\Afg bq h.nx A1 q vm h1) (Alm Z N n (.ptr tk 0) (.ptr bq 0) cv (iI i) f0 hd):=by
 have B6:=K.Q.hi.at'.lt;have G8:=K.Q.lt;have hn:=K.Q.hn;have A82:=K.Mu;obtain⟨c0,code,c2,c3,c4,c5,s6,c7,ord,c9,Wz,Uw,W0,x,p,u,U3,E9,Oi,Mg⟩:=q;obtain⟨S,P,z3,R,O,U,M,W,T⟩:=hz;simp only at S P z3 R O U M W T;subst S;subst P;subst z3;subst R;subst O;subst U;subst M;subst W;subst T;intro k;induction k using Nat.strongRecOn with
 |ind k G=>
  intro i n hd f0 hk hi S3 e A;obtain⟨n1,rfl⟩:=mg n;replace A:hd.m.get bq=cd [iI c0,.Bv,iI 0,iI 0,iI 0,iI 0,.str s6,iI 0,.Bv,iI 0,ct,.str Uw,iI W0,.str x,.str p,.str u,iI U3,vm,.str Oi,iI Mg] 30:=A;have g:=K.tq e;have V:((i.toNat:Nat):Int)=i:=Tb om;obtain⟨c,d⟩:∃c,A1[i.toNat]?=some c:=⟨_,Yq om⟩;obtain⟨b,o,el⟩:=R0.elem (f:=Hx) (s:=4) (λ_=>rfl) g.c1.sl d;have D:=g.c1.ok c (Vl d);have x1:=el.ia;rw[V]at x1;have x2:=el.all;have w1:=D.one;have w2:=D.cell;have F:∀(hy:H) (s:uw) (w:Bool) (l:Nat) (f:L2),s=c.name->c0≠1->(w=true ↔ c0=2\/c0=4\/c0=5)->TQ tk vl bq h hy->hy.m.get l=cd (Hx c) 100->l<hy.nx->l≠tk->l≠bq->hy.m.get bq=cd (qc ⟨c0,[],0,0,0,0,s,0,[],0,false,Uw,W0,x,p,u,U3,E9,Oi,Mg⟩ .Bv .Bv vm) 30->Ah H0 (λ_ h1=>TQ tk vl bq h h1/\Afg bq h.nx A1 ⟨c0,[],0,0,0,0,s6,0,[],0,false,Uw,W0,x,p,u,U3,E9,Oi,Mg⟩ vm h1) (Aee Z N (.ptr tk 0) (.ptr bq 0) cv (.ptr l 0) (iI c0) (.bool w) f hy):=by intro hy s w l f hs J I ty g7 l7 n7 m7 Y;have a:=K.tq ty;have B:=ty.lo;exact Ah.mono (A9v Z N Fg hN tk vl L bq hy a.Q cv l c g7 l7 n7 m7 vm ⟨c0,[],0,0,0,0,s,0,[],0,false,Uw,W0,x,p,u,U3,E9,Oi,Mg⟩ Y ⟨rfl,rfl,rfl,rfl,rfl,rfl,rfl,rfl,rfl⟩ A1 (Vl d) hs.symm (a.val c (Vl d)) J (t tk vl L cv A1 3 hy rfl a.Q.hi a.c1 a.ne a.Mu) w I f) λv h1 _ r=>⟨ty.trans r.1 hn,(Afg.s6 (q0:=⟨c0,[],0,0,0,0,s6,0,[],0,false,Uw,W0,x,p,u,U3,E9,Oi,Mg⟩) r.2).mono B⟩
  have z:Ah hd (λr _=>∃b:Bool,r=.bool b/\(i=0->b=true)) (Z.call 76 [cv,iI i] hd):=y tk A1 cv i hd g.c1 g.Mu om hi;have Kf:=e.lo;clear el V d D K g t y;replace F:=(hU F)
  replace G:=(hU G)
  rw[AwZ];refine Fj z λv1 h1 e1 l1 C X=>?_;clear z;obtain⟨bb,rfl,E⟩:=X;have t1:TQ tk vl bq h h1:=e.gr e1;have g1:=(C bq om).trans A;cases bb
  .have H4:i≠0:=λj=>by have:=E j;cases this
   refine wk ?_;exact(gw G) (k-1) om (i-1) n1 h1 _ om om om t1 g1
  .repeat' (first|refine wk ?_|(refine zqq ?_ ?_<;>intro hc<;>(try (exfalso;omega)))|fail)
   .obtain rfl:c0=1:=by assumption
    exact zr (Ed _) ⟨tqA,⟨_,[],_,_,_,_,_,_,[],_,_,_,_,_,_,_,_,E9,_,_⟩,.Bv,.Bv,A2 ..,⟨rfl,λ_ _ _=>⟨rfl,rfl,rfl⟩,λj=>by simp at j,λ_=>⟨rfl,rfl⟩,λj=>by simp at j,λ_=>rfl,λj=>absurd rfl j,λ_=>rfl,by simp,λ_=>⟨rfl,rfl⟩,λj=>by simp at j,λ_=>rfl⟩,.inl ⟨rfl,rfl⟩,by simp,Fm.nil ..⟩
   all_goals
    refine(gw F) _ c.name _ h1.nx _ rfl om (by simp;omega) tqA ?_ Ce om om (A2 ..)
    show(H.put _ _ _).m.get _=_;rw[Aq _ _ _ (show h1.nx≠bq by omega)]
    exact A2 ..
def r42(d:R38 Z)(b:R79 Z)(c:R80 Z 3)(l:100<N) tk vl L bq h cv A1 q vm(K:KIn tk vl L bq h cv A1)(j:h.m.get bq=cd (qc q .Bv .Bv vm) 30)(hz:QZ q):
 Ah H0 (λ_ h1=>TQ tk vl bq h h1/\Afg bq h.nx A1 q vm h1) (Ay prog Z N false 34 [.ptr tk 0,.ptr bq 0,cv] h):=by rw[e42];have e:=K.Mu;have k:=Kd.2 K.ne;refine Ey ((λ_=>K.c1.sl.Gs:∀f,Fo _ f=.ok ..) _) (M5 (K.Q.Adl Z d _ h (TQ.refl K.Q.hi.at' K.Q.hq K.Q.hn) om) λv1 h1 e1 l1 a g=>?_);obtain⟨i,rfl,n,i1⟩:=g;exact Auk Z N d b c l _ _ L _ h _ _ q _ K hz i.toNat i N _ _ om om om ((TQ.refl K.Q.hi.at' K.Q.hq K.Q.hn).tg e1) ((a _ K.Q.lt K.Q.hn).trans j)
def Hu.tg2{tk k}{h h1}{v vl}{l}(b:Hu k h v l)(d:Hu tk h v l)(f:H8 h tk vl)(e:TG tk vl h h1):Hu k h1 v l:=
 ⟨Sl.tg d.sl f d.av e,b.av,λc a=>⟨(b.ok c a).Mu,Sl.tg (d.ok c a).words f (d.ok c a).av e,(b.ok c a).av,(b.ok c a).one,(b.ok c a).cell⟩⟩
def Hu.tq3{tk bq k}{h h1}{v vl}{l}(b:Hu k h v l)(d:Hu tk h v l)(hb:Hu bq h v l)(f:H8 h tk vl)(hq:Vu 20 (h.m.get bq)=true)(hn:bq≠tk)(e:TQ tk vl bq h h1):Hu k h1 v l:=
 ⟨Sl.tq d.sl f d.av hb.av hq hn e,b.av,λc a=>⟨(b.ok c a).Mu,Sl.tq (d.ok c a).words f (d.ok c a).av (hb.ok c a).av hq hn e,(b.ok c a).av,(b.ok c a).one,(b.ok c a).cell⟩⟩
structure SIn(tk:Nat)(vl:AV)(L:List Int)(sv:AV)(ss:List Abn)(lo:Nat)(h:H):Prop where
 hi:H9 tk vl L h
 lt:lo<=tk
 av:∀k,lo<=k->T6 k vl
 all:∀k,lo<=k->W9 k h sv ss
 cz:∀s∈ss,∀b off len cap z ex,s.cv=.sl b off len cap z ex->0<len->b<lo/\∀k,B5 (h.m.get b)=some k->k<lo
def SIn.tg{tk lo}{vl sv}{L}{i}{h h1}(S:SIn tk vl L sv i lo h)(e:TG tk vl h h1):SIn tk vl L sv i lo h1:=by
 have j:=S.hi.at';have l:∀s∈i,∀b off len cap z ex,s.cv=.sl b off len cap z ex->0<len->b<lo/\∀k,B5 (h1.m.get b)=some k->k<lo:=by intro s f b off len cap z ex n h0;have⟨o,p⟩:=S.cz s f b _ _ _ z _ n h0;have:=S.lt;have:=j.lt;refine⟨o,λk g=>p k ?_⟩;rw[<- g,e.Cf b om om]
 refine⟨S.hi.tg e,S.lt,S.av,λk g=>?_,l⟩;have a:=S.all k g;have c:=S.all _ S.lt;refine⟨a.ne,a.Mu,Sl.tg a.sl j c.av e,a.av,λs f=>?_⟩;have d:=a.ok s f;refine⟨d.nn,d.ne,d.Mu,d.A1.tg2 (c.ok s f).A1 j e,d.one,d.cell,λb off len cap z ex n h0=>?_⟩;grind
def SIn.gr{tk lo}{vl sv}{L}{a}{h h1}(S:SIn tk vl L sv a lo h)(e:Ai h h1):SIn tk vl L sv a lo h1:=S.tg ((TG.refl S.hi.at').gr e)
def SIn.tq{tk lo bq}{vl sv}{L}{j}{h h1}(S:SIn tk vl L sv j lo h)(hb:lo<=bq)(hq:Vu 20 (h.m.get bq)=true)(hn:bq≠tk)(e:TQ tk vl bq h h1):SIn tk vl L sv j lo h1:=by
 have l:=S.hi.at';have n:∀s∈j,∀b off len cap z ex,s.cv=.sl b off len cap z ex->0<len->b<lo/\∀k,B5 (h1.m.get b)=some k->k<lo:=by intro s g b off len cap z ex o h0;have⟨p,q⟩:=S.cz s g b _ _ _ z _ o h0;have:=S.lt;have:=l.lt;refine⟨p,λk i=>q k ?_⟩;rw[<- i,e.Cf b om om om]
 refine⟨S.hi.tq (S.av _ hb) hq hn e,S.lt,S.av,λk i=>?_,n⟩;have a:=S.all k i;have c:=S.all _ S.lt;have d:=S.all _ hb;refine⟨a.ne,a.Mu,Sl.tq a.sl l c.av d.av hq hn e,a.av,λs g=>?_⟩;have f:=a.ok s g;refine⟨f.nn,f.ne,f.Mu,f.A1.tq3 (c.ok s g).A1 (d.ok s g).A1 l hq hn e,f.one,f.cell,λb off len cap z ex o h0=>?_⟩;grind
def SIn.q{tk lo bq}{vl sv}{L}{b}{h}(S:SIn tk vl L sv b lo h)(hb:lo<=bq)(hq:Vu 20 (h.m.get bq)=true)(hn:bq≠tk)(a:bq<h.nx):QIn tk vl L bq h:=⟨S.hi,S.av _ hb,hn,a,hq⟩
def TQ.ApZ{tk bq}{vl}{h0 h h1}(e:TQ tk vl bq h h1)(g:Ai h0 h)(a:h0.nx<=tk)(hb:h0.nx<=bq):Ai h0 h1:=by have⟨o,_,m,_,e⟩:=e;exact((g.put _ o hb).put _ _ a).trans e
def Sb{tk}{vl}{h0 h h1}(e:TG tk vl h h1)(g:Ai h0 h)(a:h0.nx<=tk):Ai h0 h1:=by have⟨m,_,e⟩:=e;exact(g.put _ _ a).trans e
def AvI{d}{l}{k}{cv sv}{h h1}(e:∀c∈l,∃s∈d,c∈s.A1)(a:Fm 4 h.nx 100 h1 cv l.length (l.flatMap Hx))(i:W9 k h sv d)(m:k<h.nx)(g:Ai h h1):Hu k h1 cv l:=by
 refine⟨a.sl,λb off len cap z ex f h0=>?_,λc j=>?_⟩;. have:=W7.own a b _ _ _ z _ f h0;omega
 .have⟨s,h1,h2⟩:=e c j;exact((i.ok s h1).A1.ok c h2).By g.keeps
def Sw:=[[50],tx,uy,[51],uj]
structure Aqh(ss:List Abn)(q:Qr):Prop where
 tbl:∃a∈ss,a.name=q.Uw/\(q.W0=0\/a.pub=false/\1<=q.W0/\q.W0<=4)/\(q.Wu=[]/\q.s14=[]/\q.s15=[]/\q.c16=0\/∃b∈ss,b.name=q.Wu/\(a.pub=true->b.pub=true)/\(∃c∈a.A1,c.name=q.s14)/\(∃c∈b.A1,c.name=q.s15)/\q.s14=q.s15/\1<=q.c16/\q.c16<=3)
 kind:1<=q.c0/\q.c0<=10
 fac:q.Oi∈Sw
 bits:1<=q.Mg/\q.Mg<=20
def AaF ss(q:Qr):=Ab1 ss q.Uw++Ab1 ss q.Wu
structure QOk(ss:List Abn)(q:Qr):Prop where
 pre:Aqh ss q
 kv:∃q0,KV (AaF ss q) q0 q
 code:q.code=[]\/∃t,E7 (AaR (AaF ss q)) false t/\wt t<=Abo 3/\q.code=t.nodes
 E9:q.E9=[]\/∃t,E7 (AaR (AaF ss q)) true t/\wt t<=Abo 3/\q.E9=t.nodes
 ord:q.ord.length<=4
def Aqh.kv{b}{q a}{A1}(h:Aqh b q)(k:KV A1 q a):Aqh b a:=by
 have e:=k.same;have c:a.c0=q.c0:=by grind
 have f:a.Mg=q.Mg:=by rw[e]
 have⟨h1,h2,g,d⟩:=h;exact⟨by grind,by omega,by grind,by omega⟩
def AgH ss(r:AV) h1:=∃(q:Qr) (vc vo vm:AV),r=.agg (qc q vc vo vm)/\QV h1 q vc vo vm/\QOk ss q/\q.Mg<=12
def Ag3 D lo h vm l:=l=[]/\vm=.Bv\/∃t,E7 D true t/\wt t<=Abo 3/\l=t.nodes/\Oo lo h vm t.nodes
def A3a{h0 h}(g:Ai h0 h) bq rb lo q vc vo vm(u:h.m.get bq=cd (qc q vc vo vm) 30)(z:h.m.get rb=cd zq 30)(s:h0.nx<=rb)(b:rb<lo)(v:rb≠bq){D}{i}(l:AoM D lo h vc q.code)(k:Ag3 D lo h vm q.E9)(n:QOk i q)(j:Fm 2 lo 48 h vo q.ord.length (q.ord.flatMap Zd))(f:q.Mg<=12):
 Ah h0 (AgH i) (Aa (Ae (some (some 20)) (.ptr bq 0) h) λe o=>Aa (A4 20 (.ptr rb 0) e o) λy r=>Vk [.c (some (some 20)) (.ptr rb 0)] r):=by
 have⟨x,w⟩:=B2 j.sl;have W0:Ge vc=true/\cellsOf vc=some [vc]:=by
  rcases l with⟨_,rfl⟩|⟨t,_,_,_,d⟩;. simp
  .exact d.one
 have p:Ge vm=true/\cellsOf vm=some [vm]:=by
  rcases k with⟨_,rfl⟩|⟨t,_,_,_,d⟩;. simp
  .exact d.one
 have a:Vu (qc q vc vo vm).length (h.m.get rb)=true:=by simp_all
 refine wk ?_;refine zr Ex ⟨q,_,_,_,rfl,⟨?_,?_,?_⟩,n,f⟩
 .rcases l with⟨h1,rfl⟩|⟨t,_,_,h1,d⟩;. rw[h1];exact .inl ⟨rfl,rfl,rfl⟩
  .rw[h1];exact(d.To b a).sl
 .exact(Fm.To j b a).sl
 .rcases k with⟨h1,rfl⟩|⟨t,_,_,h1,d⟩;. rw[h1];exact .inl ⟨rfl,rfl,rfl⟩
  .rw[h1];exact(d.To b a).sl
end Go.Proofs

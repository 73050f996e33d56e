/- Queries that numbers select: joined. -/
import Derived.Test.YtecikbfimlolcaaGreatDoorEvTc
set_option linter.all false
set_option maxRecDepth 100000
noncomputable section
namespace Go.Proofs
open Go Go.Ev Go.Nm Tryz Go.Ev.Sx
attribute [local irreducible] Aa Al Af Ad
variable (Z:Ac)(N:Nat)
def Als:∀{e},e<=2->4<=Sd e/\Sd e<=40
|0,_=>by decide
|1,_=>by decide
|2,_=>by decide
|e+3,h=>by omega
def j80(Y:R38 Z){D:Dom}(e:Nat)(hd:e<=2)(tk:Nat)(vl:AV)(L:List Int)(cv:AV)(m:Int)(hm1:-100<=m)(hm2:m<=100)(h:H)(hi:H9 tk vl L h)
 (hO:∀a,TG tk vl h a->D6 tk vl a (Se D false (Sd e) a.nx) (Z.call 80 [.ptr tk 0,cv,iI (m-1)] a))
 (hC:∀a,TG tk vl h a->D6 tk vl a (Se D true (Sd e) a.nx) (Z.call 41 [.ptr tk 0,cv,iI (m-1)] a))
 (j:Int) (hj0:0<=j) (hj6:j<6) (tb:Bool) (htb:tb=true ↔ j<=2) (f:L2) (a:H) (he:TG tk vl h a):
 Ah H0 (λv h1=>TG tk vl h h1/\Se D false (Sd (e+1)) h.nx v h1) (AgB Z N (.ptr tk 0) cv (iI m) (iI j) (iI j) (.bool tb) f a):=by
 have d:=hi.at'.lt;obtain⟨hs3,hs⟩:=Als hd;have hT:∀(k:Int) (a:H),TG tk vl h a->k<=9223372036854775807->D6 tk vl a (Below k) (Z.call 38 [.ptr tk 0,iI k] a):=λk a e hk=>Y tk vl L k a (hi.tg e).at' (hi.tg e).ints hi.av hi.len hk;rw[AwY];cases tb
 .have S:3<=j:=by
   rcases Int.lt_or_le 2 j with h1|h1
   .omega
   .have:=htb.2 h1;cases this
  (repeat' (first|refine wk ?_|((with_reducible apply M5);exact hT _ _ L5 om;intro vv W ee E8 Bu qq;(try simp only[C9]at E8 Bu);obtain⟨E,rfl,j0,j1⟩:=qq)|(refine zqq ?_ ?_<;>intro hc<;>(try (exfalso;omega)))|fail))
  .refine M5 (hO _ he) λO h1 e1 l1 _ x=>?_;obtain⟨t1,t,P,l⟩:=x;have J:=Af3 t1;have c:=he.trans e1;refine wk ?_;obtain⟨K,Q,g,y,i,R⟩:=Ut ⟨7,0,[]⟩ c (l.Y5 he.lo) (by rw[Ao];omega);refine Ey g (zr (Ed _) ⟨y,.one 7 t1,.inl ⟨rfl,rfl,t⟩,by simp only[wt,Sd];omega,by simpa[Tr.nodes]using i⟩)
  .have X4:((E.toNat:Nat):Int)=E:=Qy j0;have r:R0 1 (λn:Int=>[iI n]) (a.new (.cells [iI 0,iI 1,iI 2,iI 1000000,iI 1000000000] 3 .exact)) (.sl a.nx 0 5 5 1 true) [0,1,2,1000000,1000000000]:=Sl.lit (h:=a) (Bf _) rfl rfl;have X6:=he.lo;have u:=Sl.tg r ((he.new _).at d) (λb off len cap z ex hv h0=>by cases hv;omega) ee;obtain⟨n,hn⟩:∃n,[(0:Int),1,2,1000000,1000000000][E.toNat]?=some n:=⟨_,Xs (by simp;omega)⟩;obtain⟨b,o,F⟩:=R0.elem (f:=λn:Int=>[AV.int .i64 n]) (s:=1) (λ_=>rfl) u hn;have U:=F.ia;rw[X4]at U;have x2:=F.part 0 _ rfl;rw[Mz]at x2;have M:0<=n/\n<=1000000000:=by have:=Vl hn;simp at this;omega
   clear F r u hn;refine wk ?_;have t1:TG tk vl h W:=L5;have:=t1.lo;exact zr (Ed _) ⟨t1.new _,.leaf ⟨1,n,[]⟩,Acz M.1 M.2,by simp only[wt,Sd];omega,Wl [⟨1,n,[]⟩] 1 rfl (Bf _) rfl this⟩
  .refine M5 (hC _ he) λO h1 e1 l1 _ x=>?_;obtain⟨t1,t,P,l⟩:=x;have J:=Af3 t1;have c:=he.trans e1;refine wk ?_;refine M5 (hO _ c) λv2 h2 q l2 _ B=>?_;obtain⟨t2,C,s2,A⟩:=B;have z2:=Af3 t2;have I:=c.trans q;obtain⟨v3,h3,w,p,p3,T⟩:=Z8 I ((l.Y5 he.lo).tg (c.at d) d q) A.sl (Tf t2) (by rw[Ao,Ao];omega);refine Ey w ?_;clear w;refine wk ?_;refine M5 (hO _ p) λK Q e4 l4 _ q4=>?_;obtain⟨t4,X,s4,n4⟩:=q4;have z4:=Af3 t4;have G:=p.trans e4;obtain⟨v5,h5,g,y,i,R⟩:=Z8 G (p3.tg (p.at d) d e4) n4.sl (Tf t4) (by rw[X8,Ao,Ao,Ao];omega);refine Ey g ?_;clear g;refine wk ?_;obtain⟨v6,h6,r5,r6,V,r8⟩:=Ut ⟨8,0,[]⟩ y i (by rw[X8,X8,Ao,Ao,Ao];omega);refine Ey r5 (zr (Ed _) ⟨r6,.three t1 t2 t4,⟨rfl,t,C,X⟩,by simp only[wt,Sd];omega,by simpa[Tr.nodes]using V⟩)
 .have hj2:j<=2:=htb.1 rfl;refine wk ?_;refine M5 (hO _ he) λO h1 e1 l1 _ x=>?_;obtain⟨t1,t,P,l⟩:=x;have J:=Af3 t1;have c:=he.trans e1;refine wk ?_;refine M5 (hO _ c) λv2 h2 q l2 _ B=>?_;obtain⟨t2,C,s2,A⟩:=B;have z2:=Af3 t2;have I:=c.trans q;obtain⟨v3,h3,w,p,p3,T⟩:=Z8 I ((l.Y5 he.lo).tg (c.at d) d q) A.sl (Tf t2) (by rw[Ao,Ao];omega);refine Ey w ?_;clear w;refine wk ?_;obtain⟨K,Q,g,y,i,R⟩:=Ut ⟨4+j,0,[]⟩ p p3 (by rw[X8,Ao,Ao];omega);refine Ey g (zr (Ed _) ⟨y,.two (4+j) t1 t2,.inl ⟨rfl,by omega,t,C⟩,by simp only[wt,Sd];omega,by simpa[Tr.nodes]using i⟩)
def r80(y:R38 Z)(d:Nat)(hd:d<=3)(D:∀e,d=e+1->R80 Z e/\R41 Z e)(tk:Nat)(vl:AV)(L:List Int)(cv:AV)(A1:List Cl)(m:Int)(h:H)(Q:(d:Int)=m)(hi:H9 tk vl L h)(n:Hu tk h cv A1)(q:A1≠[])(z:A1.length<=30):
 D6 tk vl h (Se (AaR A1) false (Sd d) h.nx) (Ay prog Z N false 80 [.ptr tk 0,cv,iI m] h):=by
 refine Qk ?_;rw[e80];have p:=hi.at';have P:=p.lt;have J:0<A1.length:=Kd.2 q;have C:∀(k:Int) (a:H),TG tk vl h a->k<=9223372036854775807->D6 tk vl a (Below k) (Z.call 38 [.ptr tk 0,iI k] a):=λk a e K=>y tk vl L k a (hi.tg e).at' (hi.tg e).ints hi.av hi.len K;have g:∀l,Fo cv l=.ok (iI (A1.length:Int)) l:=λ_=>n.sl.Gs;repeat' (first|with_reducible (first|apply A7|apply A8|apply A9|apply Ba)|((with_reducible apply M5);exact C _ _ L5 om;intro E l A t r w;(try simp only[C9]at t r);obtain⟨i,rfl,j0,I⟩:=w)|(with_reducible (first|apply Cy|apply Cz|apply C0|apply C1);(conv=>lhs;simp(disch:=first|exact dA|fail) [lw, *,g]);with_reducible (first|apply A7|apply A8|apply A9|apply Ba|apply Cu|(refine Cv (by simp) ?_)|(apply Cw<;>intro hc<;>(try simp only[Bt]at hc)<;>(try (exfalso;omega)))))|(with_reducible (first|apply C2|apply C3|apply C4|apply C5)<;>intro hc<;>(try simp only[Bt]at hc)<;>(try (exfalso;omega))))
 have B:((i.toNat:Nat):Int)=i:=Qy j0;obtain⟨c,j⟩:∃s,A1[i.toNat]?=some s:=⟨_,Xs om⟩;obtain⟨b,o,u⟩:=R0.elem (f:=Hx) (s:=4) (λ_=>rfl) (n.tg p A).sl j;have v:=Vl j;have F:=n.ok c v;have x:=u.ia;rw[B]at x;have G:=u.all;obtain⟨R,O⟩:=B2 F.words;clear u B g j;repeat' (first|with_reducible (first|apply A7|apply A8|apply A9|apply Ba)|((with_reducible apply M5);exact C _ _ L5 om;intro E l A t r w;(try simp only[C9]at t r);obtain⟨i,rfl,j0,I⟩:=w)|(with_reducible (first|apply Cy|apply Cz|apply C0|apply C1);(conv=>lhs;simp(disch:=first|exact dA|fail) [lw, *,x,G]);with_reducible (first|apply A7|apply A8|apply A9|apply Ba|apply Cu|(refine Cv (by simp) ?_)|(apply Cw<;>intro hc<;>(try simp only[Bt]at hc)<;>(try (exfalso;omega)))))|(with_reducible (first|apply C2|apply C3|apply C4|apply C5)<;>intro hc<;>(try simp only[Bt]at hc)<;>(try (exfalso;omega))))
 rotate_left 4;iterate 3
  .obtain⟨e,rfl⟩:∃e,d=e+1:=⟨d-1,by omega⟩;obtain⟨i1,i2⟩:=D e rfl;exact j80 Z N y e om tk vl L cv m om om h hi (λa e=>i1 tk vl L cv A1 _ a om (hi.tg e) (n.tg p e) q z) (λa e=>i2 tk vl L cv A1 _ a om (hi.tg e) (n.tg p e) q z) _ om om _ (by simp;omega) _ _ L5
 all_goals (have t1:TG tk vl h l:=L5;have:=t1.lo);all_goals (have M:4<=Sd d:=by cases d with|zero=>decide|succ e=>exact Vr (Als (e:=e) om).1 (by simp only[Sd];omega))
 .exact zr (Ed _) ⟨t1.new _,.leaf ⟨1,i,[]⟩,Acz om om,by simp only[wt];omega,Wl [⟨1,i,[]⟩] 1 rfl (Bf _) rfl this⟩
 .exact zr (Ed _) ⟨t1.new _,.leaf ⟨2,0,c.name⟩,⟨rfl,.inr ⟨rfl,rfl,c,v,rfl⟩⟩,by simp only[wt];omega,Wl [⟨2,0,c.name⟩] 1 rfl (Bf _) rfl this⟩
 .exact zr (Ed _) ⟨t1.new _,.leaf ⟨1,i,[]⟩,Acz om om,by simp only[wt];omega,Wl [⟨1,i,[]⟩] 1 rfl (Bf _) rfl this⟩
 .exact zr (Ed _) ⟨t1.new _,.leaf ⟨2,0,c.name⟩,⟨rfl,.inr ⟨rfl,rfl,c,v,rfl⟩⟩,by simp only[wt];omega,Wl [⟨2,0,c.name⟩] 1 rfl (Bf _) rfl this⟩
def j41(K:R38 Z){D:Dom}(e:Nat)(hd:e<=2)(tk:Nat)(vl:AV)(L:List Int)(cv:AV)(m:Int)(S:-100<=m)(W:m<=100)(h:H)(hi:H9 tk vl L h)
 (hO:∀a,TG tk vl h a->D6 tk vl a (Se D false (Sd e) a.nx) (Z.call 80 [.ptr tk 0,cv,iI (m-1)] a))
 (hC:∀a,TG tk vl h a->D6 tk vl a (Se D true (Sd e) a.nx) (Z.call 41 [.ptr tk 0,cv,iI (m-1)] a))
 (j:Int) (hj0:0<=j) (hj6:j<4) (tb:Bool) (htb:tb=true ↔ j<=1) (f:L2) (a:H) (he:TG tk vl h a):
 Ah H0 (λv h1=>TG tk vl h h1/\Se D true (Sd (e+1)) h.nx v h1) (AkY Z N (.ptr tk 0) cv (iI m) (iI j) (iI j) (.bool tb) f a):=by
 have c:=hi.at'.lt;obtain⟨Y,hs⟩:=Als hd;have hT:∀(k:Int) (a:H),TG tk vl h a->k<=9223372036854775807->D6 tk vl a (Below k) (Z.call 38 [.ptr tk 0,iI k] a):=λk a e V=>K tk vl L k a (hi.tg e).at' (hi.tg e).ints hi.av hi.len V;rw[AwP];cases tb
 .have I:2<=j:=by
   rcases Int.lt_or_le 1 j with h1|h1
   .omega
   .have:=htb.2 h1;cases this
  repeat' (first|with_reducible (first|apply A7|apply A8|apply A9|apply Ba)|(with_reducible (first|apply Cy|apply Cz|apply C0|apply C1);(conv=>lhs;simp(disch:=first|exact dA|fail) [lw, *]);with_reducible (first|apply A7|apply A8|apply A9|apply Ba|apply Cu|(refine Cv (by simp) ?_)|(apply Cw<;>intro hc<;>(try simp only[Bt]at hc)<;>(try (exfalso;omega)))))|(with_reducible (first|apply C2|apply C3|apply C4|apply C5)<;>intro hc<;>(try simp only[Bt]at hc)<;>(try (exfalso;omega))))
  .refine M5 (hC _ he) λB h1 e1 l1 _ p=>?_;obtain⟨t1,l,C,g⟩:=p;have y:=Af3 t1;have b:=he.trans e1;repeat' (first|with_reducible (first|apply A7|apply A8|apply A9|apply Ba)|(with_reducible (first|apply Cy|apply Cz|apply C0|apply C1);(conv=>lhs;simp(disch:=first|exact dA|fail) [lw, *]);with_reducible (first|apply A7|apply A8|apply A9|apply Ba|apply Cu|(refine Cv (by simp) ?_)|(apply Cw<;>intro hc<;>(try simp only[Bt]at hc)<;>(try (exfalso;omega)))))|(with_reducible (first|apply C2|apply C3|apply C4|apply C5)<;>intro hc<;>(try simp only[Bt]at hc)<;>(try (exfalso;omega))))
   obtain⟨z,E,o,q,d,F⟩:=Ut ⟨17,0,[]⟩ b (g.Y5 he.lo) (by rw[Ao];omega);refine Ey o (zr (Ed _) ⟨q,.one 17 t1,.inr ⟨rfl,rfl,l⟩,by simp only[wt,Sd];omega,by simpa[Tr.nodes]using d⟩)
  .refine M5 (hO _ he) λB h1 e1 l1 _ p=>?_;obtain⟨t1,l,C,g⟩:=p;have y:=Af3 t1;have b:=he.trans e1;repeat' (first|with_reducible (first|apply A7|apply A8|apply A9|apply Ba)|(with_reducible (first|apply Cy|apply Cz|apply C0|apply C1);(conv=>lhs;simp(disch:=first|exact dA|fail) [lw, *]);with_reducible (first|apply A7|apply A8|apply A9|apply Ba|apply Cu|(refine Cv (by simp) ?_)|(apply Cw<;>intro hc<;>(try simp only[Bt]at hc)<;>(try (exfalso;omega)))))|(with_reducible (first|apply C2|apply C3|apply C4|apply C5)<;>intro hc<;>(try simp only[Bt]at hc)<;>(try (exfalso;omega))));refine M5 (hO _ b) λQ h2 i O _ t=>?_;obtain⟨t2,u,s2,s⟩:=t;have T:=Af3 t2;have x:=b.trans i;obtain⟨U,h3,n,r,p3,J⟩:=Z8 x ((g.Y5 he.lo).tg (b.at c) c i) s.sl (Tf t2) (by rw[Ao,Ao];omega);refine Ey n ?_;clear n;repeat' (first|with_reducible (first|apply A7|apply A8|apply A9|apply Ba)|((with_reducible apply M5);exact hT _ _ L5 om;intro vv hh A P M X;(try simp only[C9]at P M);obtain⟨G,rfl,j0,j1⟩:=X)|(with_reducible (first|apply Cy|apply Cz|apply C0|apply C1);(conv=>lhs;simp(disch:=first|exact dA|fail) [lw, *]);with_reducible (first|apply A7|apply A8|apply A9|apply Ba|apply Cu|(refine Cv (by simp) ?_)|(apply Cw<;>intro hc<;>(try simp only[Bt]at hc)<;>(try (exfalso;omega)))))|(with_reducible (first|apply C2|apply C3|apply C4|apply C5)<;>intro hc<;>(try simp only[Bt]at hc)<;>(try (exfalso;omega))))
   have w:=r.trans A;obtain⟨z,E,o,q,d,F⟩:=Ut ⟨9+G,0,[]⟩ w (p3.tg (r.at c) c A) (by rw[X8,Ao,Ao];omega);refine Ey o (zr (Ed _) ⟨q,.two (9+G) t1 t2,.inr (.inl ⟨rfl,by omega,l,u⟩),by simp only[wt,Sd];omega,by simpa[Tr.nodes]using d⟩)
 .have R:j<=1:=htb.1 rfl;repeat' (first|with_reducible (first|apply A7|apply A8|apply A9|apply Ba)|(with_reducible (first|apply Cy|apply Cz|apply C0|apply C1);(conv=>lhs;simp(disch:=first|exact dA|fail) [lw, *]);with_reducible (first|apply A7|apply A8|apply A9|apply Ba|apply Cu|(refine Cv (by simp) ?_)|(apply Cw<;>intro hc<;>(try simp only[Bt]at hc)<;>(try (exfalso;omega)))))|(with_reducible (first|apply C2|apply C3|apply C4|apply C5)<;>intro hc<;>(try simp only[Bt]at hc)<;>(try (exfalso;omega))))
  refine M5 (hC _ he) λB h1 e1 l1 _ p=>?_;obtain⟨t1,l,C,g⟩:=p;have y:=Af3 t1;have b:=he.trans e1;repeat' (first|with_reducible (first|apply A7|apply A8|apply A9|apply Ba)|(with_reducible (first|apply Cy|apply Cz|apply C0|apply C1);(conv=>lhs;simp(disch:=first|exact dA|fail) [lw, *]);with_reducible (first|apply A7|apply A8|apply A9|apply Ba|apply Cu|(refine Cv (by simp) ?_)|(apply Cw<;>intro hc<;>(try simp only[Bt]at hc)<;>(try (exfalso;omega)))))|(with_reducible (first|apply C2|apply C3|apply C4|apply C5)<;>intro hc<;>(try simp only[Bt]at hc)<;>(try (exfalso;omega))));refine M5 (hC _ b) λQ h2 i O _ t=>?_;obtain⟨t2,u,s2,s⟩:=t;have T:=Af3 t2;have x:=b.trans i;obtain⟨U,h3,n,r,p3,J⟩:=Z8 x ((g.Y5 he.lo).tg (b.at c) c i) s.sl (Tf t2) (by rw[Ao,Ao];omega);refine Ey n ?_;clear n;repeat' (first|with_reducible (first|apply A7|apply A8|apply A9|apply Ba)|(with_reducible (first|apply Cy|apply Cz|apply C0|apply C1);(conv=>lhs;simp(disch:=first|exact dA|fail) [lw, *]);with_reducible (first|apply A7|apply A8|apply A9|apply Ba|apply Cu|(refine Cv (by simp) ?_)|(apply Cw<;>intro hc<;>(try simp only[Bt]at hc)<;>(try (exfalso;omega)))))|(with_reducible (first|apply C2|apply C3|apply C4|apply C5)<;>intro hc<;>(try simp only[Bt]at hc)<;>(try (exfalso;omega))))
  obtain⟨z,E,o,q,d,F⟩:=Ut ⟨15+j,0,[]⟩ r p3 (by rw[X8,Ao,Ao];omega);refine Ey o (zr (Ed _) ⟨q,.two (15+j) t1 t2,.inr (.inr (.inr ⟨rfl,by omega,l,u⟩)),by simp only[wt,Sd];omega,by simpa[Tr.nodes]using d⟩)
def Atu{tk}{vl cv}{h}{A1}{i:Int}(hc:Hu tk h cv A1)(p:H8 h tk vl)(i0:0<=i)(i1:i<A1.length):
 ∃c b o,c∈A1/\(∀l,Gc 4 cv (iI i) l=.ok (.ptr b o) l)/\∀g,TG tk vl h g->Ae (some (some 4)) (.ptr b o) g=.ok (.agg (Hx c)) g:=by have k:=Qy i0;have⟨c,a⟩:∃s,A1[i.toNat]?=some s:=⟨_,Xs om⟩;have⟨b,o,n⟩:=R0.elem (f:=Hx) (λ_=>rfl) hc.sl a;have j:=n.ia;rw[k]at j;refine⟨c,b,o,Vl a,j,λg e=>?_⟩;have⟨_,_,d⟩:=R0.elem (f:=Hx) (λ_=>rfl) (hc.tg p e).sl a;have m:=d.ia h;rw[k,j]at m;cases m;exact d.all _ (Bi.refl _)
set_option maxHeartbeats 2000000 in
def r41(P:R38 Z)(F:R79 Z)(d:Nat)(hd:d<=3)(T:∀e,d=e+1->R80 Z e/\R41 Z e)(tk:Nat)(vl:AV)(L:List Int)(cv:AV)(A1:List Cl)(m:Int)(h:H)(hm:(d:Int)=m)(hi:H9 tk vl L h)(n:Hu tk h cv A1)(B:A1≠[])(Q:A1.length<=30):
 D6 tk vl h (Se (AaR A1) true (Sd d) h.nx) (Ay prog Z N false 41 [.ptr tk 0,cv,iI m] h):=by
 refine Qk ?_;rw[e41];have j:=hi.at';have B6:=j.lt;have hlp:0<A1.length:=Kd.2 B;have z:∀(k:Int) (g:H),TG tk vl h g->k<=9223372036854775807->D6 tk vl g (Below k) (Z.call 38 [.ptr tk 0,iI k] g):=λk g e hk=>P tk vl L k g (hi.tg e).at' (hi.tg e).ints hi.av hi.len hk;have v:∀a,Fo cv a=.ok (iI (A1.length:Int)) a:=λ_=>n.sl.Gs;refine Ey (v _) ?_;refine M5 (z _ _ (TG.refl j) om) λv1 g e1 l1 _ q1=>?_;obtain⟨i,rfl,i0,i1⟩:=q1;obtain⟨c,b,o,A,U,hL⟩:=Atu n j i0 om;have u:=n.ok c A;obtain⟨o1,o2⟩:=B2 u.words;have K:∀a,Fo c.w a=.ok (iI (c.ws.length:Int)) a:=λ_=>u.words.Gs;refine M5 (z 8 _ e1 om) λv8 h8 e8 l8 BfJ q8=>?_;obtain⟨k8,rfl,Y,k81⟩:=q8;repeat' (first|with_reducible (first|apply A7|apply A8|apply A9|apply Ba)|((with_reducible apply M5);exact z _ _ L5 om;intro O a D r q y;(try simp only[C9]at r q);obtain⟨t,rfl,j0,j1⟩:=y)|(with_reducible (first|apply Cy|apply Cz|apply C0|apply C1);(conv=>lhs;simp(disch:=first|exact dA|fail) [lw, *,U]);with_reducible (first|apply A7|apply A8|apply A9|apply Ba|apply Cu|(refine Cv (by simp) ?_)|(apply Cw<;>intro hc<;>(try simp only[Bt]at hc)<;>(try (exfalso;omega)))))|(with_reducible (first|apply C2|apply C3|apply C4|apply C5)<;>intro hc<;>(try simp only[Bt]at hc)<;>(try (exfalso;omega))))
 rotate_left 2;iterate 2
  .obtain⟨e,rfl⟩:∃e,d=e+1:=⟨d-1,by omega⟩;obtain⟨i3,i2⟩:=T e rfl;exact j41 Z N P e om tk vl L cv m om om h hi (λg e=>i3 tk vl L cv A1 _ g om (hi.tg e) (n.tg j e) B Q) (λg e=>i2 tk vl L cv A1 _ g om (hi.tg e) (n.tg j e) B Q) _ om om _ (by simp;omega) _ _ L5
 all_goals (have hw5:=u.Mu)
 all_goals (have hs3:4<=Sd d:=by cases d with|zero=>decide|succ e=>exact Vr (Als (e:=e) om).1 (by simp only[Sd];omega))
 iterate 2
  .have W:=hL h8 L5;repeat' (first|with_reducible (first|apply A7|apply A8|apply A9|apply Ba)|(with_reducible (first|apply Cy|apply Cz|apply C0|apply C1);(conv=>lhs;simp(disch:=first|exact dA|fail) [lw, *,W]);with_reducible (first|apply A7|apply A8|apply A9|apply Ba|apply Cu|(refine Cv (by simp) ?_)|(apply Cw<;>intro hc<;>(try simp only[Bt]at hc)<;>(try (exfalso;omega)))))|(with_reducible (first|apply C2|apply C3|apply C4|apply C5)<;>intro hc<;>(try simp only[Bt]at hc)<;>(try (exfalso;omega))))
   refine M5 (z 6 _ L5 om) λv2 hy e2 l2 C V=>?_;obtain⟨p,rfl,p0,p1⟩:=V;simp only[C9]at l2 C;obtain⟨w,hw,M⟩:∃w,E1 .i64 (9+(9+p).tmod 2)=w/\(w=9\/w=10):=by
    have h1:=Int.tmod_nonneg 2 (show 0<=9+p by omega)
    have h2:=Int.tmod_lt_of_pos (9+p) (show(0:Int)<2 by omega)
    exact⟨9+(9+p).tmod 2,Cr _ om om,by omega⟩
   repeat' (first|with_reducible (first|apply A7|apply A8|apply A9|apply Ba)|((with_reducible apply M5);exact z _ _ L5 om;intro O a D r q y;(try simp only[C9]at r q);obtain⟨t,rfl,j0,j1⟩:=y)|((with_reducible (first|apply Fj|apply zc2));exact F _ _ _ _ _ (n.tg j L5) om i0 om;intro O a D r q y;(first|(have G:=Ai.quiet D;try simp only[C9]at r q G)|(try simp only[C9]at r q));obtain⟨bb,rfl,X⟩:=y)|(with_reducible (first|apply Cy|apply Cz|apply C0|apply C1);(conv=>lhs;simp(disch:=first|exact dA|fail) [lw, *,K,hw]);with_reducible (first|apply A7|apply A8|apply A9|apply Ba|apply Cu|(refine Cv (by simp) ?_)|(apply Cw<;>intro hc<;>(try simp only[Bt]at hc)<;>(try (exfalso;omega)))))|(with_reducible (first|apply C2|apply C3|apply C4|apply C5)<;>intro hc<;>(try simp only[Bt]at hc)<;>(try (exfalso;omega)))|(refine B8 ?_ ?_;(focus (simp(disch:=first|decide|omega|(simp only[C9];omega)) [Aw,Am,Ar,Ax, *];done));(try simp(disch:=first|exact Ce|fail) only[Aw,Am,Bx,Ap,At,I3,Ia,B9,Dp,Dn,C9,Ca, *])))
   .have X4:((t.toNat:Nat):Int)=t:=Qy j0;obtain⟨wd,l⟩:∃s,c.ws[t.toNat]?=some s:=⟨_,Xs om⟩;obtain⟨b3,o3,J⟩:=R0.elem (f:=Aeb) (s:=1) (λ_=>rfl) (Sl.tg u.words j u.av (show TG tk vl h a from L5)) l
    have S:=J.ia;rw[X4]at S;have R:=J.part 0 _ rfl;rw[Mz]at R;have E:=Vl l;clear J l;repeat' (first|with_reducible (first|apply A7|apply A8|apply A9|apply Ba)|(with_reducible (first|apply Cy|apply Cz|apply C0|apply C1);(conv=>lhs;simp(disch:=first|exact dA|fail) [lw, *,S,R]);with_reducible (first|apply A7|apply A8|apply A9|apply Ba|apply Cu|(refine Cv (by simp) ?_)|(apply Cw<;>intro hc<;>(try simp only[Bt]at hc)<;>(try (exfalso;omega)))))|(with_reducible (first|apply C2|apply C3|apply C4|apply C5)<;>intro hc<;>(try simp only[Bt]at hc)<;>(try (exfalso;omega)))|(refine B8 ?_ ?_;(focus (simp(disch:=first|decide|omega|(simp only[C9];omega)) [Aw,Am,Ar,Ax, *];done));(try simp(disch:=first|exact Ce|fail) only[Aw,Am,Bx,Ap,At,I3,Ia,B9,Dp,Dn,C9,Ca, *])))
    refine Pu tk h.nx ?_ λLz Wp=>?_
    .simp only[Tl,Pl,Ju,G4,Jj];repeat' (refine And.intro ?_ ?_)
     all_goals first|(left;simp;done)|(left;rfl)|(refine .inr ⟨λx g=>.inl (TG.wrote (by assumption) x g),?_⟩;(repeat' (refine And.intro ?_ ?_));all_goals first|(exact Ar ..)|(refine Ax _ _ _ _ _ _ _ _ _ _ _ _ ?_;decide)|exact Ci ..|exact Dk (tk:=tk) (TG.wrote (by assumption)) Ce (.inl rfl)|exact Dk (tk:=tk) (TG.wrote (by assumption)) Ce (.inr ⟨_,_,_,rfl,by omega,Jh B5 (show _=AO.cells (Hx c) 96 .exact from N4)⟩)|exact Dk (tk:=tk) (TG.wrote (by assumption)) Ce (.inr ⟨_,_,_,rfl,by omega,Jh B5 (show _=AO.cells [iI (w),iI 0,.str []] 32 .exact from N4)⟩))
    .repeat' (first|with_reducible (first|apply A7|apply A8|apply A9|apply Ba)|(with_reducible (first|apply Cy|apply Cz|apply C0|apply C1);(conv=>lhs;simp(disch:=first|exact dA|fail) [lw, *]);with_reducible (first|apply A7|apply A8|apply A9|apply Ba|apply Cu|(refine Cv (by simp) ?_)|(apply Cw<;>intro hc<;>(try simp only[Bt]at hc)<;>(try (exfalso;omega)))))|(with_reducible (first|apply C2|apply C3|apply C4|apply C5)<;>intro hc<;>(try simp only[Bt]at hc)<;>(try (exfalso;omega))))
     have t1:TG tk vl h a:=L5;have I:=t1.lo;exact zr (Ed _) ⟨L5,.two w (.leaf ⟨2,0,c.name⟩) (.leaf ⟨3,0,wd⟩),.inr (.inr (.inl ⟨rfl,M,⟨rfl,rfl,c,A,rfl⟩,rfl,rfl,c,A,rfl,E⟩)),by simp only[wt];omega,Wl (h:=a) [⟨2,0,c.name⟩,⟨3,0,wd⟩,⟨w,0,[]⟩] 3 rfl (Bf (h:=Ab a) _) rfl I⟩
   iterate 3
    .skip;refine Pu tk h.nx ?_ λLz Wp=>?_
     .simp only[Tl,Pl,Ju,G4,Jj];repeat' (refine And.intro ?_ ?_)
      all_goals first|(left;simp;done)|(left;rfl)|(refine .inr ⟨λx g=>.inl (TG.wrote (by assumption) x g),?_⟩;(repeat' (refine And.intro ?_ ?_));all_goals first|(exact Ar ..)|(refine Ax _ _ _ _ _ _ _ _ _ _ _ _ ?_;decide)|exact Ci ..|exact Dk (tk:=tk) (TG.wrote (by assumption)) Ce (.inl rfl)|exact Dk (tk:=tk) (TG.wrote (by assumption)) Ce (.inr ⟨_,_,_,rfl,by omega,Jh B5 (show _=AO.cells (Hx c) 96 .exact from N4)⟩)|exact Dk (tk:=tk) (TG.wrote (by assumption)) Ce (.inr ⟨_,_,_,rfl,by omega,Jh B5 (show _=AO.cells [iI (9+p),iI 0,.str []] 32 .exact from N4)⟩))
     .repeat' (first|with_reducible (first|apply A7|apply A8|apply A9|apply Ba)|(with_reducible (first|apply Cy|apply Cz|apply C0|apply C1);(conv=>lhs;simp(disch:=first|exact dA|fail) [lw, *]);with_reducible (first|apply A7|apply A8|apply A9|apply Ba|apply Cu|(refine Cv (by simp) ?_)|(apply Cw<;>intro hc<;>(try simp only[Bt]at hc)<;>(try (exfalso;omega)))))|(with_reducible (first|apply C2|apply C3|apply C4|apply C5)<;>intro hc<;>(try simp only[Bt]at hc)<;>(try (exfalso;omega))))
      have t1:TG tk vl h a:=L5;have I:=t1.lo;exact zr (Ed _) ⟨L5,.two (9+p) (.leaf ⟨2,0,c.name⟩) (.leaf ⟨1,t,[]⟩),.inr (.inl ⟨rfl,by omega,⟨rfl,.inr ⟨rfl,rfl,c,A,rfl⟩⟩,Acz om om⟩),by simp only[wt];omega,Wl (h:=a) [⟨2,0,c.name⟩,⟨1,t,[]⟩,⟨9+p,0,[]⟩] 3 rfl (Bf (h:=Ab a) _) rfl I⟩
variable {h h1 h2:H}{tk bq:Nat}{vl:AV}
def TQ(tk:Nat)(vl:AV)(bq:Nat)(h h1:H):Prop:=∃o,Vu 20 o=true/\TG tk vl (h.put bq o) h1
def TQ.refl(d:H8 h tk vl)(a:Vu 20 (h.m.get bq)=true)(hn:bq≠tk):TQ tk vl bq h h:=by
 refine⟨_,a,?_⟩;have⟨m,c,_⟩:=d.cell;refine⟨m,c,Yw _,λb a=>?_,λx f=>.inl (Vo _ (Vo _ f))⟩;by_cases e:b=tk;. simp_all
 .by_cases g:b=bq;. simp_all
  simp_all
def TQ.tg(e:TQ tk vl bq h h1)(g:TG tk vl h1 h2):TQ tk vl bq h h2:=by have⟨o,a,e⟩:=e;exact⟨o,a,e.trans g⟩
def TQ.gr(e:TQ tk vl bq h h1)(g:Ai h1 h2):TQ tk vl bq h h2:=by have⟨o,a,e⟩:=e;exact⟨o,a,e.gr g⟩
def TQ.nl(e:TQ tk vl bq h h1):TQ tk vl bq h (Ab h1):=e.gr (Ai.refl _).nl
def TQ.new(e:TQ tk vl bq h h1) o:TQ tk vl bq h (h1.new o):=e.gr ((Ai.refl _).new o)
def TQ.lo(e:TQ tk vl bq h h1):h.nx<=h1.nx:=by have⟨o,_,e⟩:=e;exact e.lo
def TQ.Cf(e:TQ tk vl bq h h1) b(a:b<h.nx)(d:b≠tk)(c:b≠bq):h1.m.get b=h.m.get b:=by have⟨o,_,e⟩:=e;rw[e.Cf b a d,Aq _ _ _ c]
def TQ.at(e:TQ tk vl bq h h1)(a:tk<h.nx):H8 h1 tk vl:=by have⟨o,_,e⟩:=e;exact e.at a
def TQ.Aiq(e:TQ tk vl bq h h1) c o(hc:h.nx<=c):TQ tk vl bq h (h1.put c o):=by have⟨_,a,e⟩:=e;exact⟨_,a,e.Aiq c o hc⟩
def TQ.put(e:TQ tk vl bq h h1) o(i:Vu 20 o=true)(hn:bq≠tk):TQ tk vl bq h (h1.put bq o):=by
 have⟨_,_,m,g,a⟩:=e;refine⟨o,i,m,g,a.lo,λb d=>?_,λx c=>?_⟩
 .by_cases f:b=bq;. simp_all
  .rw[Aq _ _ _ f,a.Cf b d];by_cases e:b=tk;. simp_all
   simp_all
 .rcases Tu.1 c with rfl|c;. simp
  .exact a.lg x c
def TQ.reL{b}{L}(e1:TQ tk vl bq h b)(e:TQ tk vl bq h h1)(f:∀z∈L,z∈b.lg\/z=tk\/z=bq\/h.nx<=z):TQ tk vl bq h (Be L h1):=by
 have⟨o,i,m,g,c⟩:=e;have⟨_,_,_,_,a⟩:=e1;refine⟨o,i,m,g,c.lo,c.Cf,λz j=>?_⟩;rcases f z j with d|rfl|rfl|d;. exact a.lg z d
 .simp
 .simp_all
 simp_all
def Sl.tq{s len}{v}{c}(g:Sl s h v len c)(f:H8 h tk vl)(l:Av tk v)(j:Av bq v)(hq:Vu 20 (h.m.get bq)=true)(hn:bq≠tk)(e:TQ tk vl bq h h1):Sl s h1 v len c:=by
 have⟨o,r,e⟩:=e;have⟨_,_,a,_⟩:=Pb hq;obtain⟨l1,e1,rfl,y⟩:=Pb r;have d:H8 (h.put bq (.cells l1 e1 .exact)) tk vl:=by have⟨m,q,_⟩:=f.cell;exact⟨f.lt,m,q,by rw[Aq _ _ _ λp=>hn p.symm];omega⟩
 refine Sl.tg (Sl.AnO g a om λh0 b off n cap z ex t=>?_) d l e;subst t;rcases g with⟨i,_⟩|⟨u,w,x,k,cs,i,_⟩;. omega
 .cases i;exact j _ _ _ _ _ _ rfl h0
def ClR.tq{c}(hc:ClR tk h c)(a:ClR bq h c)(b:H8 h tk vl)(hq:Vu 20 (h.m.get bq)=true)(hn:bq≠tk)(e:TQ tk vl bq h h1):ClR tk h1 c:=⟨hc.Mu,Sl.tq hc.words b hc.av a.av hq hn e,hc.av,hc.one,hc.cell⟩
def Hu.tq{v}{l}(hc:Hu tk h v l)(a:Hu bq h v l)(b:H8 h tk vl)(hq:Vu 20 (h.m.get bq)=true)(hn:bq≠tk)(e:TQ tk vl bq h h1):Hu tk h1 v l:=⟨Sl.tq hc.sl b hc.av a.av hq hn e,hc.av,λc d=>(hc.ok c d).tq (a.ok c d) b hq hn e⟩
def H9.tq{L}(hi:H9 tk vl L h)(a:Av bq vl)(hq:Vu 20 (h.m.get bq)=true)(hn:bq≠tk)(e:TQ tk vl bq h h1):H9 tk vl L h1:=⟨e.at hi.at'.lt,Sl.tq hi.ints hi.at' hi.av a hq hn e,hi.av,hi.len⟩
def Acx{Q}{h0 f}{b}{lg}{k} tk bq lo(g:∀e∈b,e.w=[]\/(∀x∈e.w,x=tk\/x=bq\/lo<=x)/\∀a∈b,Jo e a=true)(d:∀L,(∀z∈L,z∈lg\/z=tk\/z=bq\/lo<=z)->Ah h0 Q (k (Be L f))):Ah h0 Q (Ff lg b f k):=by
 have c:=V9 _ _ λe h1=>by
  rcases g e h1 with i|i;. simp_all
  .exact .inr (V4 e _ i.2)
 rw[So c];apply d _;have n:∀e∈b,∀x∈e.w,x=tk\/x=bq\/lo<=x:=λe h1 x m=>by grind
 clear g c d;induction b with
 |nil=>simp_all
 |cons e es l=>intro z j;rw[Ap]at j;grind
def tqA(q:TQ tk vl bq h h1:=by first|((repeat' (first|assumption|with_reducible apply TQ.nl|with_reducible apply TQ.new|((with_reducible refine TQ.put ?_ _ ?_ ?_);rotate_left;(focus (first|rfl|assumption));(focus (first|assumption|omega)))|(with_reducible refine TQ.Aiq ?_ _ _ ?_)|(refine TQ.tg ?_ (by assumption))|(refine TQ.gr ?_ (by assumption))|(refine TQ.reL ?_ ?_ (by assumption))|omega|(simp only[C9];omega)));done)|fail):TQ tk vl bq h h1:=q
def Ahb{tk}{e}{j o b off}{i}{c n}(a:∀x∈e.w,x=tk)(g:tk<c.nx)(f:b≠tk)(hc:∀k,B5 (c.m.get b)=some k->k≠tk):Jo e ⟨j,o,[],.blk b off i,c,n⟩=true:=by cases d:B5 _ with
|none=>exact Dk a g (.inr ⟨b,_,_,rfl,f,d⟩)
|some k=>
 unfold Jo;have l:clear (.blk b off i) e.w c e.h e.h1=true:=by show @Bool.rec (λ_=>Bool) _ ..=true;rw[Ab8 b _ a f,d];show Ib _=true;rw[Ab8 k _ a (hc k d)];rfl
 rw[Zq _,Wo _ _ g _ a,l];cases M4 _<;>cases Nat.beq ..<;>rfl
def AlW{tk bq}{vl}{h}{s}{i:Int}(l:ScR tk h s)(j:ScR bq h s)(v:H8 h tk vl)(hq:Vu 20 (h.m.get bq)=true)(hn:bq≠tk)(i0:0<=i)(i1:i<s.A1.length):
 ∃(nm:List _) (b o:Nat),(∃c∈s.A1,c.name=nm)/\b<tk/\b<bq/\(∀k,B5 (h.m.get b)=some k->k<tk)/\(∀d,Gc 4 s.cv (iI i) d=.ok (.ptr b o) d)/\∀p,TQ tk vl bq h p->∀d,Bi p d->Ae (some none) (.ptr b o) d=.ok (.str nm) d:=by have q:=Qy i0;have⟨c,a⟩:∃c,s.A1[i.toNat]?=some c:=⟨_,Xs om⟩;have⟨b,o,r⟩:=R0.elem (f:=Hx) (λ_=>rfl) l.A1.sl a;have n:=r.ia;rw[q]at n;have⟨_,_,_,t⟩:=Acg l.A1.sl om r;have⟨x,w⟩:=l.cz b _ _ _ 4 _ t om;have⟨p3,_⟩:=j.cz b _ _ _ 4 _ t om;refine⟨_,b,o,⟨c,Vl a,rfl⟩,x,p3,w,n,λp e=>?_⟩;have⟨b2,y,g⟩:=R0.elem (f:=Hx) (λ_=>rfl) (l.A1.tq j.A1 v hq hn e).sl a;have u:=g.ia h;rw[q,n]at u;cases u;exact g.part 0 _ rfl
def JV(a b:Sc)(q:Qr)(Wu s14 s15:List Nat)(c16:Int):Prop:=(Wu=q.Wu/\s14=q.s14/\s15=q.s15/\c16=q.c16)\/(Wu=b.name/\(∃c∈a.A1,c.name=s14)/\(∃c∈b.A1,c.name=s15)/\s14=s15/\1<=c16/\c16<=3)
def JQ(a b:Sc)(q:Qr)(d c e:AV)(bq:Nat)(h1:H):Prop:=∃(Wu s14 s15:List Nat) (c16:Int),JV a b q Wu s14 s15 c16/\h1.m.get bq=.cells (qc { q with Wu:=Wu,s14:=s14,s15:=s15,c16:=c16 } d c e) 26 .exact
structure JIn(tk:Nat)(vl:AV)(L:List Int)(bq:Nat)(h:H)(q:Qr)(vc vo vm:AV)(a b:Sc):Prop where
 hi:H9 tk vl L h
 av:Av bq vl
 hn:bq≠tk
 lt:bq<h.nx
 c1:Ge vc=true/\cellsOf vc=some [vc]
 c2:Ge vo=true/\cellsOf vo=some [vo]
 c3:Ge vm=true/\cellsOf vm=some [vm]
 hq:Vu 20 (h.m.get bq)=true
 a1:ScR tk h a
 a2:ScR bq h a
 b1:ScR tk h b
 b2:ScR bq h b
set_option maxHeartbeats 2000000 in
def AlO(I:R38 Z){Q:AV->H->Prop}(tk:Nat)(vl:AV)(L:List Int)(bq:Nat)(h:H)(q:Qr)(y v A:AV)(a b:Sc)(J:JIn tk vl L bq h q y v A a b)(D:Nat)(i:Int)(i0:0<=i)(i1:i<(a.A1.length:Int))
 (Qz:∀(hd:H) (f:L2),TQ tk vl bq h hd->h.nx+2<=hd.nx->hd.m.get h.nx=.cells (Ze a) 73 .exact->hd.m.get (h.nx+1)=.cells (Ze b) 73 .exact->JQ a b q y v A bq hd->Ah H0 Q (AgC Z N D (.ptr tk 0) (.ptr bq 0) (.ptr h.nx 0) (.ptr (h.nx+1) 0) (iI (i+1)) f hd)):
 ∀(k:Nat) (m:Int) (n:Nat) (hd:H) (f0:L2),m+(k:Int)=(b.A1.length:Int)->0<=m->k<n->TQ tk vl bq h hd->h.nx+2<=hd.nx->hd.m.get h.nx=.cells (Ze a) 73 .exact->hd.m.get (h.nx+1)=.cells (Ze b) 73 .exact->JQ a b q y v A bq hd->Ah H0 Q (Alk Z N D n (.ptr tk 0) (.ptr bq 0) (.ptr h.nx 0) (.ptr (h.nx+1) 0) (iI i) (iI m) f0 hd)
 |0,m,n,hd,f0,F,u,X,e,l,g6,g7,hj=>by obtain⟨o,rfl⟩:∃o,n=o+1:=⟨n-1,by omega⟩;have T:decide (m<(b.A1.length:Int))=false:=df;have t:∀d,Fo b.cv d=.ok (iI (b.A1.length:Int)) d:=λ_=>J.b1.A1.sl.Gs;have C:=J.a1.Mu;rw[Ape];refine wk ?_;exact Qz hd _ e l g6 g7 hj
 |k+1,m,n,hd,f0,F,u,X,e,l,g6,g7,hj=>by
  obtain⟨o,rfl⟩:∃o,n=o+1:=⟨n-1,by omega⟩;have G:=AlO I tk vl L bq h q y v A a b J D i i0 i1 Qz k (m+1) o;have C:=J.a1.Mu;have O:=J.b1.Mu;have B6:=J.hi.at'.lt;have G8:=J.lt;have hn:=J.hn;have T:decide (m<(b.A1.length:Int))=true:=dt;have t:∀d,Fo b.cv d=.ok (iI (b.A1.length:Int)) d:=λ_=>J.b1.A1.sl.Gs;have hT:∀(k:Int) (g:H),TQ tk vl bq h g->k<=9223372036854775807->D6 tk vl g (Below k) (Z.call 38 [.ptr tk 0,iI k] g):=λk g e j=>I tk vl L k g (J.hi.tq J.av J.hq hn e).at' (J.hi.tq J.av J.hq hn e).ints J.hi.av J.hi.len j;obtain⟨na,K,oa,ca,R,S,s,J4,J1⟩:=AlW J.a1 J.a2 J.hi.at' J.hq hn i0 i1;obtain⟨nb,bb,ob,cb,pb1,U,r,Wx,Vz⟩:=AlW J.b1 J.b2 J.hi.at' J.hq hn u (show m<(b.A1.length:Int)by omega)
  have J5:=J1 hd e;have Wy:=Vz hd e;obtain⟨W,oa2⟩:Ge a.cv=true/\cellsOf a.cv=some [a.cv]:=⟨J.a1.one,J.a1.cell⟩;obtain⟨Wu,s14,s15,c16,E,hq⟩:=hj;have ka:∀k,B5 (hd.m.get K)=some k->k≠tk:=λk j=>by rw[e.Cf K om om om]at j;have:=s k j;omega
  have kb:∀k,B5 (hd.m.get bb)=some k->k≠tk:=λk j=>by rw[e.Cf bb om om om]at j;have:=r k j;omega
  clear Qz J1 Vz s r J;rw[Ape];repeat' (first|refine wd ?_|(refine zqq ?_ ?_<;>intro hc<;>(try (exfalso;omega)))|fail)
  .refine M5 (hT 3 _ tqA om) λv2 d V E8 w P=>?_;obtain⟨jj,rfl,j0,j1⟩:=P;have p:=TG.wrote (show TG tk vl (Ab (Ab hd)) d from V)
   simp only[C9]at E8 w;obtain⟨c0,code,c2,c3,c4,c5,s6,c7,ord,c9,Wz,Uw,W0,Yc,Sk,Uo,U3,E9,Oi,Mg⟩:=q;simp only at hq;have hq2:=(w bq (by have:=e.lo;omega) hn).trans hq
   have te:TQ tk vl bq h d:=tqA;refine wd ?_;refine Acx tk bq h.nx ?_ λLz Y=>?_
   .simp only[Tl,Pl,Ju,G4,Jj];repeat' (refine And.intro ?_ ?_)
    all_goals first|(left;simp;done)|(left;rfl)|(refine .inr ⟨λx g=>?_,?_⟩;(focus first|exact .inl (p x g)|(refine .inr (.inl ?_);have M:=(D4 _ _ _ g).1;simp at M;exact M));(repeat' (refine And.intro ?_ ?_));all_goals first|(exact Ar ..)|(refine Ax _ _ _ _ _ _ _ _ _ _ _ _ ?_;decide)|exact Ci ..|exact Dk (tk:=tk) p Ce (.inl rfl)|exact Dk (tk:=tk) p Ce (.inr ⟨_,_,_,rfl,by omega,Jh B5 g6⟩)|exact Dk (tk:=tk) p Ce (.inr ⟨_,_,_,rfl,by omega,Jh B5 g7⟩)|exact Ahb (tk:=tk) p Ce om ka|exact Ahb (tk:=tk) p Ce om kb)
   .rw[AoQ];refine wk ?_;have z:h.nx≠bq:=by omega
    have B:h.nx+1≠bq:=by omega
    have w6:=(w h.nx om om).trans g6;have w7:=(w (h.nx+1) om om).trans g7;refine G _ _ om om om ?_ Ce ?_ ?_ ⟨_,_,_,_,?_,A2 ..⟩
    .exact TQ.reL e ((((te.nl.put _ rfl hn).nl.put _ rfl hn).nl.put _ rfl hn).nl.put _ rfl hn) Y
    .show(H.put _ _ _).m.get _=_;rw[Aq _ _ _ z];show(H.put _ _ _).m.get _=_;rw[Aq _ _ _ z];show(H.put _ _ _).m.get _=_;rw[Aq _ _ _ z];show(H.put _ _ _).m.get _=_;rw[Aq _ _ _ z];exact w6
    .show(H.put _ _ _).m.get _=_;rw[Aq _ _ _ B];show(H.put _ _ _).m.get _=_;rw[Aq _ _ _ B];show(H.put _ _ _).m.get _=_;rw[Aq _ _ _ B];show(H.put _ _ _).m.get _=_;rw[Aq _ _ _ B];exact w7
    .have c:na=nb:=by assumption
     exact .inr ⟨rfl,by first|exact ca|(rw[<- c];exact ca)|(rw[c]at ca;exact ca),by first|exact cb|(rw[c];exact cb)|(rw[<- c]at cb;exact cb),by first|rfl|exact c|exact c.symm,by omega,by omega⟩
  .rw[AoQ];refine wk ?_;exact G hd _ om om om e l g6 g7 ⟨Wu,s14,s15,c16,E,hq⟩
def AlN(r:R38 Z)(w:100<N)(tk:Nat)(vl:AV)(L:List Int)(bq:Nat)(h:H)(q:Qr)(o j p:AV)(a b:Sc)(J:JIn tk vl L bq h q o j p a b):
 ∀(k:Nat) (i:Int) (n:Nat) (hd:H) (f0:L2),i+(k:Int)=(a.A1.length:Int)->0<=i->k<n->TQ tk vl bq h hd->h.nx+2<=hd.nx->hd.m.get h.nx=.cells (Ze a) 73 .exact->hd.m.get (h.nx+1)=.cells (Ze b) 73 .exact->JQ a b q o j p bq hd->Ah H0 (λ_ h1=>TQ tk vl bq h h1/\JQ a b q o j p bq h1) (AgC Z N n (.ptr tk 0) (.ptr bq 0) (.ptr h.nx 0) (.ptr (h.nx+1) 0) (iI i) f0 hd)
 |0,i,n,hd,f0,x,s,u,e,g,g6,g7,hj=>by obtain⟨c,rfl⟩:∃c,n=c+1:=⟨n-1,by omega⟩;have y:decide (i<(a.A1.length:Int))=false:=df;have d:∀l,Fo a.cv l=.ok (iI (a.A1.length:Int)) l:=λ_=>J.a1.A1.sl.Gs;rw[Apd];refine wk ?_;exact zr (Ed _) ⟨e,hj⟩
 |k+1,i,n,hd,f0,x,s,u,e,g,g6,g7,hj=>by obtain⟨c,rfl⟩:∃c,n=c+1:=⟨n-1,by omega⟩;have t:=AlN r w tk vl L bq h q o j p a b J k (i+1) c;have v:=J.b1.Mu;have y:decide (i<(a.A1.length:Int))=true:=dt;have d:∀l,Fo a.cv l=.ok (iI a.A1.length) _:=λ_=>J.a1.A1.sl.Gs;rw[Apd];exact wk (AlO Z N r _ _ L _ h q _ _ _ a b J _ i s om (λhd f=>t _ f om om om) b.A1.length 0 N _ _ om om om e g g6 g7 hj)
def R39:Prop:=∀(tk:Nat) (vl:AV) (L:List Int) (bq:Nat) (h:H) (q:Qr) (d c e:AV) (a b:Sc),JIn tk vl L bq h q d c e a b->h.m.get bq=.cells (qc q d c e) 26 .exact->Ah H0 (λ_ h1=>TQ tk vl bq h h1/\JQ a b q d c e bq h1) (Z.call 39 [.ptr tk 0,.ptr bq 0,.agg (Ze a),.agg (Ze b)] h)
def r39(e:R38 Z)(d:100<N) tk vl L bq h q vc vo vm a b(J:JIn tk vl L bq h q vc vo vm a b)(g:h.m.get bq=.cells (qc q vc vo vm) 26 .exact):Ah H0 (λ_ h1=>TQ tk vl bq h h1/\JQ a b q vc vo vm bq h1) (Ay prog Z N false 39 [.ptr tk 0,.ptr bq 0,.agg (Ze a),.agg (Ze b)] h):=by
 rw[e39];have c:=J.a1.Mu;have f:=J.lt;refine wk (AlN Z N e d _ _ L _ h q _ _ _ a b J a.A1.length 0 N _ _ om om om (((TQ.refl J.hi.at' J.hq J.hn).new _).new _) (Yw _) ?_ (Bf _) ⟨_,_,_,_,.inl ⟨rfl,rfl,rfl,rfl⟩,?_⟩);. rw[Cq _ _ (by simp)];simp
 .rw[Cq _ _ (by show bq≠h.nx+1;omega),Cq _ _ om];omega
end Go.Proofs

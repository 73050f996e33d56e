/- Swap: a whole expression. -/
import Derived.Test.YtecikbfimlolcaaGreatDoorEvTm
set_option maxRecDepth 100000
set_option linter.unusedSimpArgs false
set_option linter.unusedVariables false
noncomputable section
namespace Go.Proofs
open Go Go.Ev Go.Nm
attribute [local irreducible] Aa Al Af Ad
variable (ctx:Ac) (N:Nat)
def nx0:List Nd->Int
 |y::_=>y.op
 |[]=>0
theorem Auv (pre post:List Nd) (x:Nd):AdT (pre++x::post) pre.length=nx0 post:=by
 unfold AdT
 have:(pre++x::post)[pre.length+1]?=post[0]?:=by
  rw [List.getElem?_append_right (by omega)]
  simp
 rw [this]
 cases post<;>rfl
structure C17 (ctx:Ac) (N tk:Nat) (vl:AV) (L:List Int) (h:H) (lv:AV) (l:List Nd):Prop where
 Fg:R38 ctx
 h44:R44 ctx
 h45:R45 ctx
 hN:100<N
 hi:H9 tk vl L h
 hl:Ue h lv l
 hav:Sx.Av tk lv
 S4:l.length<=1000
theorem s17 {ctx:Ac} {N tk:Nat} {vl:AV} {L:List Int} {h:H} {lv:AV} {l:List Nd} (C:C17 ctx N tk vl L h lv l) (pre post:List Nd) (x:Nd) (hl:l=pre++x::post) (S0 A:List (AV × List Nd)) (hA:(A.length:Int)=arI x.op) (v:AV) (hx:H) (f0:L2) (n:Nat) (hn:post.length+1<n) (he:Sx.TG tk vl h hx) (st:St tk h.nx hx v (S0++A)) (hS:S0.length<=1000) (hW:((A.map (·.2)).flatten).length<=880) {Q:AV->H->Prop}
 (hK:∀(R:List Nd) (w v':AV) (hy:H) (f:L2) (n':Nat),Step (A.map (·.2)) x (nx0 post=3) R->Sx.TG tk vl h hy->St tk h.nx hy v' (S0++[(w,R)])->post.length<n'->Sx.Ah Sx.H0 Q (O0 ctx N n' (.ptr tk 0) lv v' (.int .i64 (((pre++[x]).length:Nat):Int)) f hy)):
 Sx.Ah Sx.H0 Q (O0 ctx N n (.ptr tk 0) lv v (.int .i64 (pre.length:Int)) f0 hx):=by
 obtain ⟨n1,rfl⟩:∃n1,n=n1+1:=⟨n - 1,by omega⟩
 have Gb:l[pre.length]?=some x:=by rw [hl];simp
 refine AzN ctx N C.Fg C.h44 C.h45 C.hN tk vl L h C.hi lv v l C.S4 S0 A x pre.length Gb hA n1 f0 hx he (Sx.Sl.tg C.hl C.hi.at' C.hav he) C.hav st hS hW λR w v' hy f h1 h2 h3=>?_
 rw [show (pre.length:Int)+1=(((pre++[x]).length:Nat):Int) by simp]
 refine hK R w v' hy f n1 ?_ h2 h3 (by omega)
 rw [hl,Auv] at h1
 exact h1
theorem Wu {ctx:Ac} {N tk:Nat} {vl:AV} {L:List Int} {h:H} {lv:AV} {l:List Nd} (C:C17 ctx N tk vl L h lv l) {Q:AV->H->Prop}:∀(t:Tr) (k:Bool),Ty k t->size t<=94->∀(pre post:List Nd),l=pre++(t.nodes++post)->∀(S0:List (AV × List Nd)) (v:AV) (hx:H) (f0:L2) (n:Nat),post.length+size t<n->Sx.TG tk vl h hx->St tk h.nx hx v S0->S0.length+size t<=1000 ->
 (∀(t':Tr) (w v':AV) (hy:H) (f:L2) (n':Nat),Sw t t'->size t'<=3 * size t->Sx.TG tk vl h hy->St tk h.nx hy v' (S0++[(w,t'.nodes)])->post.length<n'->Sx.Ah Sx.H0 Q (O0 ctx N n' (.ptr tk 0) lv v' (.int .i64 (((pre++t.nodes).length:Nat):Int)) f hy)) ->
 Sx.Ah Sx.H0 Q (O0 ctx N n (.ptr tk 0) lv v (.int .i64 (pre.length:Int)) f0 hx)
 |.leaf x,k,ht,hs,pre,post,hl,S0,v,hx,f0,n,hn,he,st,hS,hK=>by
  have ha:arI x.op=0:=by
   obtain ⟨_,⟨h1,_⟩|⟨h1,_⟩⟩:=ht<;>rw [h1]<;>rfl
  refine s17 C pre post x hl S0 [] (by rw [ha];rfl) v hx f0 n (by simp [size] at hn;omega) he (by rw [List.append_nil];exact st) (by omega) (by simp) λR w v' hy f n' h1 h2 h3 h4=>?_
  obtain ⟨t',rfl,e2,e3⟩:=(Aao h1).2 k ht
  exact hK t' w v' hy f n' e2 (by simpa [size] using e3) h2 h3 h4
 |.one o a,k,ht,hs,pre,post,hl,S0,v,hx,f0,n,hn,he,st,hS,hK=>by
  have hta:∃j,Ty j a:=by rcases ht with ⟨_,_,h⟩|⟨_,_,h⟩<;>exact ⟨_,h⟩
  obtain ⟨j,hta⟩:=hta
  have ho:arI o=1:=by rcases ht with ⟨_,h,_⟩|⟨_,h,_⟩<;>rw [h]<;>rfl
  simp only [size] at hs hn hS
  have hnl:=Ao a
  refine Wu C a j hta (by omega) pre (⟨o,0,[]⟩::post) (by rw [hl];simp [Tr.nodes]) S0 v hx f0 n (by simp only [List.length_cons];omega) he st (by omega) λa' wa va ha fa na s1 s2 s3 s4 s5=>?_
  refine s17 C (pre++a.nodes) post ⟨o,0,[]⟩ (by rw [hl];simp [Tr.nodes]) S0 [(wa,a'.nodes)] (by rw [ho];rfl) va ha fa na (by simpa using s5) s3 s4 (by omega) (by simp [Ao];omega) λR w v' hy f n' h1 h2 h3 h4=>?_
  obtain ⟨t',rfl,e2,e3⟩:=Ash (a:=a) (a':=a') h1 ht s1
  have:=hK t' w v' hy f n' e2 (by simp only [size];omega) h2 h3 h4
  simpa [Tr.nodes] using this
 |.three p a c,k,ht,hs,pre,post,hl,S0,v,hx,f0,n,hn,he,st,hS,hK=>by
  obtain ⟨hk,tp,ta,tc⟩:=ht
  simp only [size] at hs hn hS
  have n1:=Ao p
  have n2:=Ao a
  have n3:=Ao c
  have q1:=size_pos p
  have q2:=size_pos a
  have q3:=size_pos c
  refine Wu C p true tp (by omega) pre (a.nodes++(c.nodes++(⟨8,0,[]⟩::post))) (by rw [hl];simp [Tr.nodes]) S0 v hx f0 n (by simp only [List.length_cons,List.length_append];omega) he st (by omega) λp' wp vp hp fp np s1 s2 s3 s4 s5=>?_
  simp only [List.length_append,List.length_cons] at s5
  refine Wu C a false ta (by omega) (pre++p.nodes) (c.nodes++(⟨8,0,[]⟩::post)) (by rw [hl];simp [Tr.nodes]) _ vp hp fp np (by simp only [List.length_cons,List.length_append];omega) s3 s4 (by simp;omega) λa' wa va ha fa na r1 r2 r3 r4 r5=>?_
  simp only [List.length_append,List.length_cons] at r5
  refine Wu C c false tc (by omega) (pre++p.nodes++a.nodes) (⟨8,0,[]⟩::post) (by rw [hl];simp [Tr.nodes]) _ va ha fa na (by simp only [List.length_cons];omega) r3 r4 (by simp;omega) λc' wc vc hc fc nc u1 u2 u3 u4 u5=>?_
  simp only [List.length_cons] at u5
  refine s17 C (pre++p.nodes++a.nodes++c.nodes) post ⟨8,0,[]⟩ (by rw [hl];simp [Tr.nodes]) S0 [(wp,p'.nodes),(wa,a'.nodes),(wc,c'.nodes)] rfl vc hc fc nc (by omega) u3 (by simpa using u4) (by omega) (by simp [Ao];omega) λR w v' hy f n' h1 h2 h3 h4=>?_
  obtain ⟨t',rfl,e2,e3⟩:=AkG (p:=p) (a:=a) (c:=c) (p':=p') (a':=a') (c':=c') h1 (b:=k) ⟨hk,tp,ta,tc⟩ s1 r1 u1
  have:=hK t' w v' hy f n' e2 (by simp only [size];omega) h2 h3 h4
  simpa [Tr.nodes] using this
 |.two o a c,k,ht,hs,pre,post,hl,S0,v,hx,f0,n,hn,he,st,hS,hK=>by
  have ho:arI o=2:=by
   have:4<=o/\o<=16/\o≠7/\o≠8:=by
    rcases ht with ⟨_,h,_⟩|⟨_,h,_⟩|⟨_,h,_⟩|⟨_,h,_⟩<;>omega
   unfold arI
   rw [if_neg (by omega),if_neg (by omega),if_neg (by omega)]
  simp only [size] at hs hn hS
  have n1:=Ao a
  have n2:=Ao c
  have q1:=size_pos a
  have q2:=size_pos c
  have fin:∀(a' c':Tr) (wa wc vc:AV) (hc:H) (fc:L2) (nc:Nat),(Wd a c/\a'=a/\c'=c)\/(c.op≠3/\Sw a a'/\Sw c c')->size a'<=3 * size a->size c'<=3 * size c->Sx.TG tk vl h hc->St tk h.nx hc vc (S0++[(wa,a'.nodes),(wc,c'.nodes)])->post.length+1<nc->Sx.Ah Sx.H0 Q (O0 ctx N nc (.ptr tk 0) lv vc (.int .i64 (((pre++a.nodes++c.nodes).length:Nat):Int)) fc hc):=by
   intro a' c' wa wc vc hc fc nc hsw z1 z2 u3 u4 u5
   refine s17 C (pre++a.nodes++c.nodes) post ⟨o,0,[]⟩ (by rw [hl];simp [Tr.nodes]) S0 [(wa,a'.nodes),(wc,c'.nodes)] (by rw [ho];rfl) vc hc fc nc u5 u3 u4 (by omega) (by simp [Ao];omega) λR w v' hy f n' h1 h2 h3 h4=>?_
   obtain ⟨t',rfl,e2,e3⟩:=Asi (a:=a) (c:=c) (a':=a') (c':=c') h1 ht hsw
   have:=hK t' w v' hy f n' e2 (by simp only [size];omega) h2 h3 h4
   simpa [Tr.nodes] using this
  have typed:∀j,Ty j a->Ty j c->Sx.Ah Sx.H0 Q (O0 ctx N n (.ptr tk 0) lv v (.int .i64 (pre.length:Int)) f0 hx):=by
   intro j ta tc
   refine Wu C a j ta (by omega) pre (c.nodes++(⟨o,0,[]⟩::post)) (by rw [hl];simp [Tr.nodes]) S0 v hx f0 n (by simp only [List.length_cons,List.length_append];omega) he st (by omega) λa' wa va ha fa na r1 r2 r3 r4 r5=>?_
   simp only [List.length_append,List.length_cons] at r5
   refine Wu C c j tc (by omega) (pre++a.nodes) (⟨o,0,[]⟩::post) (by rw [hl];simp [Tr.nodes]) _ va ha fa na (by simp only [List.length_cons];omega) r3 r4 (by simp;omega) λc' wc vc hc fc nc u1 u2 u3 u4 u5=>?_
   simp only [List.length_cons] at u5
   have h3:c.op≠3:=by
    cases c with
    |leaf y=>obtain ⟨_,⟨q,_⟩|⟨q,_⟩⟩:=tc<;>(show y.op≠3;omega)
    |one o b=>rcases tc with ⟨_,q,_⟩|⟨_,q,_⟩<;>(show o≠3;omega)
    |two o b d=>rcases tc with ⟨_,q,_⟩|⟨_,q,_⟩|⟨_,q,_⟩|⟨_,q,_⟩<;>(show o≠3;omega)
    |three b d e=>show (8:Int)≠3;decide
   exact fin a' c' wa wc vc hc fc nc (.inr ⟨h3,r1,u1⟩) r2 u2 u3 (by simpa using u4) u5
  rcases ht with ⟨_,_,ta,tc⟩|⟨_,_,ta,tc⟩|⟨_,_,hw⟩|⟨_,_,ta,tc⟩
  . exact typed false ta tc
  . exact typed false ta tc
  . obtain ⟨x,y,rfl,rfl,hx2,hy3⟩:=Pr hw
    refine s17 C pre (y::⟨o,0,[]⟩::post) x (by rw [hl];simp [Tr.nodes]) S0 [] (by rw [hx2];rfl) v hx f0 n (by simp [size] at hn ⊢;omega) he (by rw [List.append_nil];exact st) (by omega) (by simp) λR w v' hy f n' h1 h2 h3 h4=>?_
    obtain rfl:=(Aao h1).1 (.inl hy3)
    refine s17 C (pre++[x]) (⟨o,0,[]⟩::post) y (by rw [hl];simp [Tr.nodes]) (S0++[(w,[x])]) [] (by rw [hy3];rfl) v' hy f n' (by simpa using h4) h2 (by rw [List.append_nil];exact h3) (by simp;omega) (by simp) λR2 w2 v2 hy2 f2 n2 j1 j2 j3 j4=>?_
    obtain rfl:=(Aao j1).1 (.inr hy3)
    exact fin (.leaf x) (.leaf y) w w2 v2 hy2 f2 n2 (.inl ⟨hw,rfl,rfl⟩) (by simp [size]) (by simp [size]) j2 (by simpa [Tr.nodes] using j3) (by simpa using j4)
  . exact typed true ta tc
termination_by t=>size t
decreasing_by all_goals (simp only [size];omega)
def Alt (lo:Nat) (t:Tr) (r:AV) (h1:H):Prop:=∃t',Sw t t'/\size t'<=3 * size t/\Ue h1 r t'.nodes/\W7 3 lo r
def R17:Prop:=∀(tk:Nat) (vl:AV) (L:List Int) (h:H) (lv:AV) (t:Tr) (k:Bool),H9 tk vl L h->Ue h lv t.nodes->Sx.Av tk lv->Ty k t->size t<=94->Sx.D6 tk vl h (Alt h.nx t) (ctx.call 17 [.ptr tk 0,lv] h)
theorem r17 (Fg:R38 ctx) (h44:R44 ctx) (h45:R45 ctx) (hN:100<N) (tk:Nat) (vl:AV) (L:List Int) (h:H) (lv:AV) (t:Tr) (k:Bool) (hi:H9 tk vl L h) (hl:Ue h lv t.nodes) (hav:Sx.Av tk lv) (ht:Ty k t) (hs:size t<=94):Sx.D6 tk vl h (Alt h.nx t) (Ay Tryz.prog ctx N false 17 [.ptr tk 0,lv] h):=by
 refine Sx.Qk ?_
 rw [e17]
 have hnl:=Ao t
 have C:C17 ctx N tk vl L h lv t.nodes:=⟨Fg,h44,h45,hN,hi,hl,hav,by omega⟩
 refine Wu C t k ht hs [] [] (by simp) [] .Bv h _ N (by simp;omega) (Sx.TG.refl hi.at') ⟨.inl ⟨rfl,rfl,rfl⟩,Sx.Av.Bv tk,λp hp=>by cases hp⟩ (by simp;omega) λt' w v' hy f n' s1 s2 s3 s4 s5=>?_
 obtain ⟨n1,rfl⟩:∃n1,n'=n1+1:=⟨n' - 1,by omega⟩
 obtain ⟨b,o,x1,x2⟩:=Uo s4.sl 0 (w,t'.nodes) rfl
 replace x1:∀hh,Gc 1 v' (.int .i64 0) hh=.ok (.ptr b o) hh:=x1
 obtain ⟨e1,e2,e3⟩:=s4.el (w,t'.nodes) (by simp)
 have hlen:∀hh,Fo lv hh=.ok (.int .i64 (t.nodes.length:Int)) hh:=λ_=>hl.Gs
 rw [show []++t.nodes=t.nodes from rfl]
 obtain ⟨ll,S4⟩:∃ll:Int,(t.nodes.length:Int)=ll:=⟨_,rfl⟩
 rw [S4] at hlen ⊢
 have k1:decide (ll<ll)=false:=decide_eq_false (by omega)
 rw [Apb]
 repeat' (first|with_reducible (first|apply A7|apply A8|apply A9|apply Ba)|(with_reducible (first|apply Cy|apply Cz|apply C0|apply C1);(conv=>lhs;simp (disch:=first|exact dA|fail) [lw, *,hlen,k1,x1,x2]);with_reducible (first|apply A7|apply A8|apply A9|apply Ba|apply Cu|(refine Cv (by simp) ?_)|(apply Cw<;>intro hc<;>(try simp only [Bt] at hc)<;>(try (exfalso;omega)))))|(with_reducible (first|apply Kl|apply Km);(conv=>lhs;simp only [zw,k1]))|(with_reducible (first|apply C2|apply C3|apply C4|apply C5)<;>intro hc<;>(try simp only [Bt] at hc)<;>(try (exfalso;omega))))
 exact zr (Sx.Ed _) ⟨s3,t',s1,s2,e1,e2.2⟩
end Go.Proofs

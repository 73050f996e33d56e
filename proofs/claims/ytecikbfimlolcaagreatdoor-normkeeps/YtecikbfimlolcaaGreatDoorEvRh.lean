/- The plain law of the normal forms: one normal form. -/
import Derived.Test.YtecikbfimlolcaaGreatDoorEvRa
set_option maxRecDepth 100000
noncomputable section
namespace Go.Proofs
open Go Go.Ev Go.Nm
def Tz:List Tr->Nat
 |[]=>0
 |t::l=>size t+Tz l
theorem Adi:∀l m,Tz (l++m)=Tz l+Tz m
 |[],m=>by simp [Tz]
 |t::l,m=>by simp [Tz,Adi l m];omega
theorem Asr {x:Nd} (h1:1<=x.op) (h2:x.op<=17):(Pz x.op).length=0/\x.op<=3\/(Pz x.op).length=1/\(x.op=7\/x.op=17)\/(Pz x.op).length=3/\x.op=8\/(Pz x.op).length=2/\4<=x.op/\x.op<=16/\x.op≠7/\x.op≠8:=by unfold Pz;grind
theorem Azi {x:Nd} {qs:List Tr} (hb:Qt x=false) (hl:qs.length=(Pz x.op).length) (hr:∀t∈qs,Kq t):Kq (mkT x qs)/\size (mkT x qs)=Tz qs+1/\(mkT x qs).nodes=qs.flatMap Tr.nodes++[x]:=by
 obtain ⟨h1,h2,h3,h4⟩:=Alw hb;have hx:∀o,x.op=o->o≠1->o≠2->o≠3->(⟨o,0,[]⟩:Nd)=x:=λo ho a b c=>by obtain ⟨xo,xn,xc⟩:=x;grind
 rcases Asr h1 h2 with ⟨e1,e2⟩|⟨e1,e2⟩|⟨e1,e2⟩|⟨e1,e2⟩;. rw [e1] at hl;obtain rfl:=List.length_eq_zero_iff.1 hl;exact ⟨⟨h1,e2⟩,rfl,rfl⟩
 . rw [e1] at hl;obtain ⟨a,rfl⟩:=List.length_eq_one_iff.1 hl;refine ⟨⟨e2,hr a (by simp)⟩,rfl,?_⟩;simp [mkT,Tr.nodes,hx x.op _ om om om]
 . rw [e1] at hl;match qs,hl with
   |[c,a,b],_=>refine ⟨⟨hr c (by simp),hr a (by simp),hr b (by simp)⟩,by simp [mkT,size,Tz]<;>omega,?_⟩;simp [mkT,Tr.nodes,hx 8 e2 _]
 . rw [e1] at hl;match qs,hl with
   |[a,b],_=>refine ⟨⟨e2,hr a (by simp),hr b (by simp)⟩,rfl,?_⟩;simp [mkT,Tr.nodes,hx x.op _ om om om]
theorem AbS (l:List Nd):∀(rest:List Nd) (st:List Tr) (i:Nat) (U0:List Tr),Dm l st i rest=some U0->(∀t∈st,Kq t)->(∀t∈U0,Kq t)/\Tz U0=Tz st+rest.length/\U0.flatMap Tr.nodes=st.flatMap Tr.nodes++rest
 |[],st,i,U0,h,hr=>by
  simp only [Dm,Option.some.injEq] at h
  subst h
  exact ⟨hr,rfl,by simp⟩
 |x::rest,st,i,U0,h,hr=>by
  cases hb:Qt x||Ou l i x with
  |true=>simp [Dm,hb] at h
  |false=>
   obtain ⟨Qy,Wg⟩:=Bool.or_eq_false_iff.1 hb
   obtain ⟨o1,o2,-,-⟩:=Alw Qy
   have Lp:=Apq (st:=st) o1 o2
   by_cases hc:(Pz x.op).length<=st.length/\(st.drop (st.length - (Pz x.op).length)).map ty=Pz x.op
   . rw [if_pos hc] at Lp
     rw [AgV Qy Wg Lp] at h
     generalize hk:st.length - (Pz x.op).length=k at Lp h
     have hlen:(st.drop k).length=(Pz x.op).length:=by rw [List.length_drop];omega
     obtain ⟨m1,m2,m3⟩:=Azi Qy hlen (λt ht=>hr t (List.mem_of_mem_drop ht))
     obtain ⟨q1,q2,q3⟩:=AbS l rest _ _ U0 h (λt ht=>by
      rcases List.mem_append.1 ht with ht|ht
      . exact hr t (List.mem_of_mem_take ht)
      . rcases List.mem_singleton.1 ht with rfl
        exact m1)
     have hs:Tz st=Tz (st.take k)+Tz (st.drop k):=by rw [<- Adi,List.take_append_drop]
     have hn:st.flatMap Tr.nodes=(st.take k).flatMap Tr.nodes++(st.drop k).flatMap Tr.nodes:=by rw [<- List.flatMap_append,List.take_append_drop]
     refine ⟨q1,?_,?_⟩
     . rw [q2,Adi,hs]
       simp only [Tz,m2,List.length_cons]
       omega
     . rw [q3,List.flatMap_append,hn]
       simp [m3]
   . rw [if_neg hc] at Lp
     rw [AgU Qy Wg Lp] at h
     cases h
theorem Ui {l:List Nd} {c:Bool} {t:Tr} (h:Je l c=some t):size t=l.length/\Kq t/\t.nodes=l:=by
 unfold Je at h
 cases hb:Dm l [] 0 l with
 |none=>rw [hb] at h;cases h
 |some st=>
  rw [hb] at h
  obtain ⟨q1,q2,q3⟩:=AbS l l [] 0 st hb (λt ht=>by cases ht)
  match st,h with
  |[a],h=>
   simp only at h
   split at h
   . cases h
     refine ⟨by simpa [Tz] using q2,q1 _ (by simp),by simpa using q3⟩
   . cases h
theorem Qj:∀l:List Nat,Gn l l=false
 |[]=>rfl
 |x::l=>by rw [Rg,Qj l];simp
theorem AeS (a b:List Nat):(Gn a b=true/\Gn b a=false/\a≠b)\/(Gn a b=false/\Gn b a=true/\a≠b)\/(Gn a b=false/\Gn b a=false/\a=b):=by
 have h:=Pm a b
 by_cases he:a=b
 . subst he
   exact .inr (.inr ⟨Qj a,Qj a,rfl⟩)
 . have hb:(a == b)=false:=by simpa using he
   rw [hb,Bool.or_false] at h
   cases h1:Gn a b<;>rw [h1] at h<;>simp only [Bool.not_eq_true',Bool.not_eq_false'] at h
   . exact .inr (.inl ⟨rfl,by simpa using h,he⟩)
   . exact .inl ⟨rfl,by simpa using h,he⟩
theorem ApF (a b:List Nat):(Abg a b=0 ↔ a=b)/\(Abg a b<0 ↔ Gn a b=true):=by
 unfold Abg
 rcases AeS a b with ⟨h1,h2,h3⟩|⟨h1,h2,h3⟩|⟨h1,h2,h3⟩<;>simp [h1,h2,h3,Qj]
theorem Ahf (a b:Int):(V5 a b=0 ↔ a=b)/\(V5 a b<0 ↔ a<b):=by
 unfold V5
 by_cases h1:a<b
 . simp [h1];omega
 . by_cases h2:b<a
   . simp [h1,h2];omega
   . simp [h1,h2];omega
def Aif (x y:Nd):Bool:=if x.op=y.op then (if x.n=y.n then Gn x.Zn y.Zn else decide (x.n<y.n)) else decide (x.op<y.op)
theorem ApE (x y:Nd):(V6 x y=0 ↔ x=y)/\(V6 x y<0 ↔ Aif x y=true):=by
 obtain ⟨a,b,c⟩:=x
 obtain ⟨a',b',c'⟩:=y
 obtain ⟨h1,h2⟩:=Ahf a a'
 obtain ⟨h3,h4⟩:=Ahf b b'
 obtain ⟨h5,h6⟩:=ApF c c'
 simp only [V6,orI,Aif,Nd.mk.injEq]
 by_cases e1:a=a'
 . rw [if_pos (h1.2 e1),if_pos e1]
   by_cases e2:b=b'
   . rw [if_pos (h3.2 e2),if_pos e2]
     by_cases e3:c=c'
     . rw [if_pos (h5.2 e3)]
       subst e3
       simp [e1,e2,Qj]
     . rw [if_neg (λhh=>e3 (h5.1 hh))]
       exact ⟨⟨λhh=>absurd (h5.1 hh) e3,λhh=>absurd hh.2.2 e3⟩,h6⟩
   . rw [if_neg (λhh=>e2 (h3.1 hh)),if_neg e2,decide_eq_true_eq]
     exact ⟨⟨λhh=>absurd (h3.1 hh) e2,λhh=>absurd hh.2.1 e2⟩,h4⟩
 . rw [if_neg (λhh=>e1 (h1.1 hh)),if_neg e1,decide_eq_true_eq]
   exact ⟨⟨λhh=>absurd (h1.1 hh) e1,λhh=>absurd hh.1 e1⟩,h2⟩
theorem Ye (x y:Nd) (l m:List Nd):ltN (x::l) (y::m)=if x=y then ltN l m else Aif x y:=by
 obtain ⟨a,b,c⟩:=x
 obtain ⟨a',b',c'⟩:=y
 simp only [ltN,Aif,Nd.mk.injEq]
 by_cases e1:a=a'
 . by_cases e2:b=b'
   . by_cases e3:c=c'<;>simp [e1,e2,e3]
   . simp [e1,e2]
 . simp [e1]
theorem AbZ:∀l m:List Nd,(cmpL l m=0 ↔ l=m)/\(cmpL l m<0 ↔ ltN l m=true)
 |[],[]=>by simp [cmpL,ltN]
 |[],y::m=>by simp [cmpL,ltN]
 |x::l,[]=>by simp [cmpL,ltN]
 |x::l,y::m=>by
  obtain ⟨h1,h2⟩:=ApE x y
  obtain ⟨h3,h4⟩:=AbZ l m
  rw [Ye]
  simp only [cmpL]
  by_cases e:x=y
  . rw [if_pos (h1.2 e),if_pos e]
    exact ⟨⟨λhh=>by rw [e,h3.1 hh],λhh=>h3.2 (List.cons.inj hh).2⟩,h4⟩
  . rw [if_neg (λhh=>e (h1.1 hh)),if_neg e]
    exact ⟨⟨λhh=>absurd (h1.1 hh) e,λhh=>absurd (List.cons.inj hh).1 e⟩,h2⟩
theorem Mq (a b:Tr):same a b=decide (a.nodes=b.nodes):=by
 unfold same Nm.compare
 rw [decide_eq_decide]
 exact (AbZ _ _).1
theorem Wm:∀t:Tr,∃p,t.nodes=p++[hd t]
 |.leaf x=>⟨[],rfl⟩
 |.one o a=>⟨a.nodes,rfl⟩
 |.two o a b=>⟨a.nodes++b.nodes,by simp [Tr.nodes,hd]⟩
 |.three c a b=>⟨c.nodes++a.nodes++b.nodes,by simp [Tr.nodes,hd]⟩
theorem AnC:∀(a b:Tr) (l m:List Nd),Kq a->Kq b->l++a.nodes=m++b.nodes->a=b/\l=m:=by
 intro a
 induction a with
 |leaf x=>
  intro b l m ha hb h
  cases b with
  |leaf y=>
   have:=List.append_inj' h rfl
   simp only [Tr.nodes,List.cons.injEq,and_true] at this
   exact ⟨by rw [this.2],this.1⟩
  |one o b=>
   have h2:=(List.append_inj' (by simpa [Tr.nodes] using h:l++[x]=(m++b.nodes)++[⟨o,0,[]⟩]) rfl).2
   simp only [List.cons.injEq,and_true] at h2
   have:=ha.1;have:=ha.2;have h3:=hb.1;rw [h2] at *;simp only at *;omega
  |two o b c=>
   have h2:=(List.append_inj' (by simpa [Tr.nodes] using h:l++[x]=(m++(b.nodes++c.nodes))++[⟨o,0,[]⟩]) rfl).2
   simp only [List.cons.injEq,and_true] at h2
   have:=ha.1;have:=ha.2;have h3:=hb.1;rw [h2] at *;simp only at *;omega
  |three d b c=>
   have h2:=(List.append_inj' (by simpa [Tr.nodes] using h:l++[x]=(m++(d.nodes++(b.nodes++c.nodes)))++[⟨8,0,[]⟩]) rfl).2
   simp only [List.cons.injEq,and_true] at h2
   have:=ha.1;have:=ha.2;rw [h2] at *;simp only at *;omega
 |one o a ih=>
  intro b l m ha hb h
  cases b with
  |leaf y=>
   have h2:=(List.append_inj' (by simpa [Tr.nodes] using h:(l++a.nodes)++[⟨o,0,[]⟩]=m++[y]) rfl).2
   simp only [List.cons.injEq,and_true] at h2
   have:=hb.1;have:=hb.2;have h3:=ha.1;rw [<- h2] at *;simp only at *;omega
  |one o' b=>
   have h2:=(List.append_inj' (by simpa [Tr.nodes] using h:(l++a.nodes)++[⟨o,0,[]⟩]=(m++b.nodes)++[⟨o',0,[]⟩]) rfl)
   obtain ⟨h3,h4⟩:=h2
   simp only [List.cons.injEq,and_true,Nd.mk.injEq] at h4
   obtain ⟨rfl,rfl⟩:=ih b l m ha.2 hb.2 h3
   exact ⟨by rw [h4],rfl⟩
  |two o' b c=>
   have h2:=(List.append_inj' (by simpa [Tr.nodes] using h:(l++a.nodes)++[⟨o,0,[]⟩]=(m++(b.nodes++c.nodes))++[⟨o',0,[]⟩]) rfl).2
   simp only [List.cons.injEq,and_true,Nd.mk.injEq] at h2
   have:=ha.1;have:=hb.1;omega
  |three d b c=>
   have h2:=(List.append_inj' (by simpa [Tr.nodes] using h:(l++a.nodes)++[⟨o,0,[]⟩]=(m++(d.nodes++(b.nodes++c.nodes)))++[⟨8,0,[]⟩]) rfl).2
   simp only [List.cons.injEq,and_true,Nd.mk.injEq] at h2
   have:=ha.1;omega
 |two o a c Rs ihc=>
  intro b l m ha hb h
  cases b with
  |leaf y=>
   have h2:=(List.append_inj' (by simpa [Tr.nodes] using h:(l++(a.nodes++c.nodes))++[⟨o,0,[]⟩]=m++[y]) rfl).2
   simp only [List.cons.injEq,and_true] at h2
   have:=hb.1;have:=hb.2;have h3:=ha.1;rw [<- h2] at *;simp only at *;omega
  |one o' b=>
   have h2:=(List.append_inj' (by simpa [Tr.nodes] using h:(l++(a.nodes++c.nodes))++[⟨o,0,[]⟩]=(m++b.nodes)++[⟨o',0,[]⟩]) rfl).2
   simp only [List.cons.injEq,and_true,Nd.mk.injEq] at h2
   have:=ha.1;have:=hb.1;omega
  |two o' b d=>
   obtain ⟨h3,h4⟩:=(List.append_inj' (by simpa [Tr.nodes] using h:((l++a.nodes)++c.nodes)++[⟨o,0,[]⟩]=((m++b.nodes)++d.nodes)++[⟨o',0,[]⟩]) rfl)
   simp only [List.cons.injEq,and_true,Nd.mk.injEq] at h4
   obtain ⟨rfl,h5⟩:=ihc d _ _ ha.2.2 hb.2.2 h3
   obtain ⟨rfl,rfl⟩:=Rs b _ _ ha.2.1 hb.2.1 h5
   exact ⟨by rw [h4],rfl⟩
  |three e b d=>
   have h2:=(List.append_inj' (by simpa [Tr.nodes] using h:(l++(a.nodes++c.nodes))++[⟨o,0,[]⟩]=(m++(e.nodes++(b.nodes++d.nodes)))++[⟨8,0,[]⟩]) rfl).2
   simp only [List.cons.injEq,and_true,Nd.mk.injEq] at h2
   have:=ha.1;omega
 |three e a c ihe Rs ihc=>
  intro b l m ha hb h
  cases b with
  |leaf y=>
   have h2:=(List.append_inj' (by simpa [Tr.nodes] using h:(l++(e.nodes++(a.nodes++c.nodes)))++[⟨8,0,[]⟩]=m++[y]) rfl).2
   simp only [List.cons.injEq,and_true] at h2
   have:=hb.1;have:=hb.2;rw [<- h2] at *;simp only at *;omega
  |one o' b=>
   have h2:=(List.append_inj' (by simpa [Tr.nodes] using h:(l++(e.nodes++(a.nodes++c.nodes)))++[⟨8,0,[]⟩]=(m++b.nodes)++[⟨o',0,[]⟩]) rfl).2
   simp only [List.cons.injEq,and_true,Nd.mk.injEq] at h2
   have:=hb.1;omega
  |two o' b d=>
   have h2:=(List.append_inj' (by simpa [Tr.nodes] using h:(l++(e.nodes++(a.nodes++c.nodes)))++[⟨8,0,[]⟩]=(m++(b.nodes++d.nodes))++[⟨o',0,[]⟩]) rfl).2
   simp only [List.cons.injEq,and_true,Nd.mk.injEq] at h2
   have:=hb.1;omega
  |three f b d=>
   obtain ⟨h3,h4⟩:=(List.append_inj' (by simpa [Tr.nodes] using h:(((l++e.nodes)++a.nodes)++c.nodes)++[⟨8,0,[]⟩]=(((m++f.nodes)++b.nodes)++d.nodes)++[⟨8,0,[]⟩]) rfl)
   obtain ⟨rfl,h5⟩:=ihc d _ _ ha.2.2 hb.2.2 h3
   obtain ⟨rfl,h6⟩:=Rs b _ _ ha.2.1 hb.2.1 h5
   obtain ⟨rfl,rfl⟩:=ihe f _ _ ha.1 hb.1 h6
   exact ⟨rfl,rfl⟩
theorem Uy {a b:Tr} (ha:Kq a) (hb:Kq b) (h:same a b=true):a=b:=by
 rw [Mq,decide_eq_true_eq] at h
 exact (AnC a b [] [] ha hb (by simpa using h)).1
theorem Qf (b:Bool):Kq (fixed b):=by cases b<;>exact ⟨⟨by decide,by decide,by decide,by decide⟩,⟨by decide,by decide⟩,⟨by decide,by decide⟩⟩
def RS (n:Nat) (t:Tr):Prop:=Kq t/\size t<=n
theorem Ak2 (n:Int) (k:Nat) (hk:1<=k):RS k (num n):=⟨⟨Int.le_refl 1,(by decide:(1:Int)<=3)⟩,hk⟩
theorem Ai0 {v:Int} {t:Tr} (h:constant v=some t) (k:Nat) (hk:2<=k):RS k t:=by
 unfold constant at h
 split at h
 . cases h
 . split at h
   . cases h
     exact ⟨⟨.inl rfl,Int.le_refl 1,(by decide:(1:Int)<=3)⟩,hk⟩
   . cases h
     exact Ak2 _ _ om
theorem Ts (b:Bool) (k:Nat) (hk:3<=k):RS k (fixed b):=⟨Qf b,hk⟩
theorem Qg {a b:Tr} (h:same a b=true):size a=size b:=by
 rw [Mq,decide_eq_true_eq] at h
 rw [<- Ao,h,Ao]
theorem Wq {o:Int} {a b:Tr} (ho:4<=o/\o<=16/\o≠7/\o≠8) (ha:Kq a) (hb:Kq b) (k:Nat) (hk:size a+size b+1<=k):RS k (ordered o a b):=by
 unfold ordered
 split
 . exact ⟨⟨ho,hb,ha⟩,by simp only [size];omega⟩
 . exact ⟨⟨ho,ha,hb⟩,by simp only [size];omega⟩
theorem ArS {a:Tr} (ha:Kq a):RS (size a+1) (neg a):=by
 unfold neg
 have hp:=size_pos a
 split
 . rename_i t ht
   split at ht
   . exact Ai0 ht _ om
   . cases ht
 . split
   . rename_i o x
     obtain ⟨h1,h2⟩:=ha
     split
     . exact ⟨h2,by simp only [size];omega⟩
     . exact ⟨⟨.inl rfl,h1,h2⟩,by simp only [size];omega⟩
   . exact ⟨⟨.inl rfl,ha⟩,by simp only [size];omega⟩
theorem Au8 {a:Tr} (ha:Kq a):RS (size a+1) (Jl a):=by
 unfold Jl
 split
 . rename_i h
   have:=Qg h
   rw [Ct] at this
   exact Ts _ _ om
 split
 . rename_i h
   have:=Qg h
   rw [Ct] at this
   exact Ts _ _ om
 split
 . rename_i o x
   obtain ⟨h1,h2⟩:=ha
   split
   . exact ⟨h2,by simp only [size];omega⟩
   . exact ⟨⟨.inr rfl,h1,h2⟩,by simp only [size];omega⟩
 . rename_i o x y
   obtain ⟨h1,h2,h3⟩:=ha
   split
   . exact ⟨⟨by omega,h2,h3⟩,by simp only [size];omega⟩
   split
   . exact ⟨⟨by omega,h2,h3⟩,by simp only [size];omega⟩
   split
   . exact ⟨⟨by omega,h3,h2⟩,by simp only [size];omega⟩
   split
   . exact ⟨⟨by omega,h3,h2⟩,by simp only [size];omega⟩
   . exact ⟨⟨.inr rfl,h1,h2,h3⟩,by simp only [size];omega⟩
 . exact ⟨⟨.inr rfl,ha⟩,by simp only [size];omega⟩
theorem AuA {o:Int} {a b:Tr} (ho:o=4\/o=5\/o=6) (ha:Kq a) (hb:Kq b):RS (size a+size b+1) (Mw o a b):=by
 have h1:=size_pos a
 have h2:=size_pos b
 unfold Mw
 split
 . rename_i t ht
   unfold arith at ht
   split at ht
   . exact Ai0 ht _ om
   . cases ht
 . split
   . exact ⟨ha,by omega⟩
   split
   . exact Ak2 _ _ om
   split
   . obtain ⟨q1,q2⟩:=ArS hb
     exact ⟨q1,by omega⟩
   split
   . exact ⟨⟨by omega,ha,hb⟩,Nat.le_refl _⟩
   split
   . exact ⟨hb,by omega⟩
   split
   . exact ⟨ha,by omega⟩
   split
   . exact Ak2 _ _ om
   . exact Wq om ha hb _ (Nat.le_refl _)
theorem ArR {o:Int} {a b:Tr} (ho:o=15\/o=16) (ha:Kq a) (hb:Kq b):RS (size a+size b+1) (Kg o a b):=by
 have h1:=size_pos a
 have h2:=size_pos b
 unfold Kg
 split
 . exact Ts _ _ om
 split
 . exact ⟨hb,by omega⟩
 split
 . exact ⟨ha,by omega⟩
 . exact Wq om ha hb _ (Nat.le_refl _)
theorem Rd {o:Int} {a b:Tr} (ho:9<=o/\o<=14) (ha:Kq a) (hb:Kq b) (k:Nat) (hk:size a+size b+1<=k):RS k (Dg o a b):=by
 have h1:=size_pos a
 have h2:=size_pos b
 unfold Dg
 split
 . exact Ts _ _ om
 split
 . exact Ts _ _ om
 split
 . exact Wq om ha hb _ hk
 . exact ⟨⟨by omega,ha,hb⟩,by simp only [size];omega⟩
theorem Aiz {o:Int} {a b:Tr} (ho:9<=o/\o<=14) (ha:Kq a) (hb:Kq b):RS (size a+size b+1) (Ek o a b):=by
 unfold Ek
 split
 . exact Rd om hb ha _ om
 split
 . exact Rd om hb ha _ om
 . exact Rd ho ha hb _ (Nat.le_refl _)
theorem ArT {c a b:Tr} (hc:Kq c) (ha:Kq a) (hb:Kq b):RS (size c+size a+size b+1) (three c a b):=by
 unfold three
 split
 . exact ⟨ha,by omega⟩
 split
 . exact ⟨hb,by omega⟩
 . exact ⟨⟨hc,ha,hb⟩,Nat.le_refl _⟩
theorem Au9 {o:Int} {a b:Tr} (ho:4<=o/\o<=16/\o≠7/\o≠8) (ha:Kq a) (hb:Kq b):RS (size a+size b+1) (L0 o a b):=by
 unfold L0
 split
 . exact AuA (by assumption) ha hb
 split
 . exact ArR (by assumption) ha hb
 . exact Aiz om ha hb
theorem Hi:∀t:Tr,Kq t->RS (size t) (normal t)
 |.leaf x,h=>⟨h,Nat.le_refl _⟩
 |.one o a,h=>by
  obtain ⟨q1,q2⟩:=Hi a h.2
  simp only [normal,size]
  split
  . obtain ⟨r1,r2⟩:=ArS q1
    exact ⟨r1,by omega⟩
  . obtain ⟨r1,r2⟩:=Au8 q1
    exact ⟨r1,by omega⟩
 |.two o a b,h=>by
  obtain ⟨q1,q2⟩:=Hi a h.2.1
  obtain ⟨p1,p2⟩:=Hi b h.2.2
  obtain ⟨r1,r2⟩:=Au9 h.1 q1 p1
  exact ⟨r1,by simp only [size];exact Nat.le_trans r2 om⟩
 |.three c a b,h=>by
  obtain ⟨q1,q2⟩:=Hi c h.1
  obtain ⟨q3,q4⟩:=Hi a h.2.1
  obtain ⟨q5,q6⟩:=Hi b h.2.2
  obtain ⟨r1,r2⟩:=ArT q1 q3 q5
  exact ⟨r1,by simp only [size];exact Nat.le_trans r2 om⟩
end Go.Proofs

/- Typed expressions are built from their nodes. -/
import Derived.Test.YtecikbfimlolcaaGreatDoorEvRh
noncomputable section
namespace Go.Proofs
open Go Go.Ev Go.Nm
theorem Ab5 {a:Tr} {v:Int} (h:isV a v=true):(value a).2=true/\(value a).1=v:=by
 unfold isV at h
 simpa using h
theorem AuK {a b:Tr} (h:same a b=true):hd a=hd b:=by
 rw [Mq,decide_eq_true_eq] at h
 obtain ⟨p,hp⟩:=Wm a
 obtain ⟨q,hq⟩:=Wm b
 rw [hp,hq] at h
 have:=(List.append_inj' h rfl).2
 simpa using this
theorem Pj {a b:Tr} (h:(hd a).op≠(hd b).op):same a b=false:=by
 cases hs:same a b with
 |false=>rfl
 |true=>exact absurd (congrArg Nd.op (AuK hs)) h
def Wd:Tr->Tr->Prop
 |.leaf x,.leaf y=>(x.op=2/\x.n=0)/\y.op=3/\y.n=0
 |_,_=>False
def Ty:Bool->Tr->Prop
 |b,.leaf x=>b=false/\((x.op=1/\x.Zn=[])\/x.op=2/\x.n=0)
 |b,.one o a=>(b=false/\o=7/\Ty false a)\/(b=true/\o=17/\Ty true a)
 |b,.two o a c=>(b=false/\(o=4\/o=5\/o=6)/\Ty false a/\Ty false c)\/(b=true/\(9<=o/\o<=14)/\Ty false a/\Ty false c)\/(b=true/\(o=9\/o=10)/\Wd a c)\/(b=true/\(o=15\/o=16)/\Ty true a/\Ty true c)
 |b,.three p a c=>b=false/\Ty true p/\Ty false a/\Ty false c
theorem Pr:∀{a c:Tr},Wd a c->∃x y,a=.leaf x/\c=.leaf y/\x.op=2/\y.op=3
 |.leaf x,.leaf y,h=>⟨x,y,rfl,rfl,h.1.1,h.2.1⟩
 |.leaf _,.one _ _,h=>h.elim
 |.leaf _,.two _ _ _,h=>h.elim
 |.leaf _,.three _ _ _,h=>h.elim
 |.one _ _,_,h=>h.elim
 |.two _ _ _,_,h=>h.elim
 |.three _ _ _,_,h=>h.elim
theorem Mx:∀{t:Tr} {b:Bool},Ty b t->Kq t
 |.leaf x,b,h=>by obtain ⟨_,⟨h,_⟩|h⟩:=h<;>(constructor<;>omega)
 |.one o a,b,h=>by
  rcases h with ⟨_,h1,h2⟩|⟨_,h1,h2⟩
  . exact ⟨.inl h1,Mx h2⟩
  . exact ⟨.inr h1,Mx h2⟩
 |.two o a c,b,h=>by
  rcases h with ⟨_,h1,h2,h3⟩|⟨_,h1,h2,h3⟩|⟨_,h1,h2⟩|⟨_,h1,h2,h3⟩
  . exact ⟨by omega,Mx h2,Mx h3⟩
  . exact ⟨by omega,Mx h2,Mx h3⟩
  . obtain ⟨x,y,rfl,rfl,h3,h4⟩:=Pr h2
    exact ⟨by omega,⟨by omega,by omega⟩,⟨by omega,by omega⟩⟩
  . exact ⟨by omega,Mx h2,Mx h3⟩
 |.three p a c,b,h=>⟨Mx h.2.1,Mx h.2.2.1,Mx h.2.2.2⟩
def dbl (o:Int):Int:=if 9<=o then 17 else 7
theorem Ast {b:Bool} {t:Tr} (h:Ty b t):dbl t.op=if b then 17 else 7:=by
 unfold dbl
 cases t with
 |leaf x=>
  obtain ⟨rfl,⟨q,_⟩|q⟩:=h
  . rw [if_neg (by show ¬ (9<=x.op);omega)];rfl
  . rw [if_neg (by show ¬ (9<=x.op);omega)];rfl
 |one o a=>
  rcases h with ⟨rfl,q,_⟩|⟨rfl,q,_⟩
  . rw [if_neg (by show ¬ (9<=o);omega)];rfl
  . rw [if_pos (by show (9<=o);omega)];rfl
 |two o a c=>
  rcases h with ⟨rfl,q,_⟩|⟨rfl,q,_⟩|⟨rfl,q,_⟩|⟨rfl,q,_⟩
  . rw [if_neg (by show ¬ (9<=o);omega)];rfl
  . rw [if_pos (by show (9<=o);omega)];rfl
  . rw [if_pos (by show (9<=o);omega)];rfl
  . rw [if_pos (by show (9<=o);omega)];rfl
 |three a c d=>rw [if_neg (by show ¬ ((9:Int)<=8);omega),h.1];rfl
theorem Oj {b:Bool} {t:Tr} (h:Ty b t):F4 t=b:=by
 have:=Ast h
 unfold dbl at this
 unfold F4
 by_cases h9:9<=t.op
 . rw [if_pos h9] at this
   rw [decide_eq_true h9]
   cases b
   . cases this
   . rfl
 . rw [if_neg h9] at this
   rw [decide_eq_false h9]
   cases b
   . rfl
   . cases this
theorem Agb (st ts:List Tr) (bs:List Bool) (h:ts.map F4=bs):Gf (st++ts) bs=some (st,ts):=by
 subst h
 unfold Gf
 rw [List.length_map,List.length_append,Nat.add_sub_cancel,List.drop_left,List.take_left]
 rw [if_pos ⟨by omega,rfl⟩]
theorem Aws (pre post:List Nd) (x:Nd):AcU (pre++x::post) pre.length=x.op:=by
 unfold AcU
 simp
theorem Jf {l:List Nd} {st U0:List Tr} {i:Nat} {x:Nd} {rest:List Nd} (h1:Qt x=false) (h2:Ou l i x=false) (h3:Fa st x=some U0):Dm l st i (x::rest)=Dm l U0 (i+1) rest:=by
 show (if (Qt x||Ou l i x)=true then none else match Fa st x with|some U0=>Dm l U0 (i+1) rest|none=>none)=_
 rw [h1,h2,h3]
 rfl
theorem Abv {o:Int} (h:1<=o) (h2:o<=17):Qt ⟨o,0,[]⟩=false:=by
 have e1:decide (o<1)=false:=df
 have e2:decide (17<o)=false:=df
 simp [Qt,e1,e2]
theorem Uh {l:List Nd} {i:Nat} {x:Nd} (h:x.op≠3):Ou l i x=false:=by simp [Ou,h]
theorem Jg:∀(t:Tr) (k:Bool),Ty k t->∀(l pre post:List Nd) (st:List Tr),l=pre++(t.nodes++post)->Dm l st pre.length (t.nodes++post)=Dm l (st++[t]) (pre++t.nodes).length post
 |.leaf x,k,ht,l,pre,post,st,hl=>by
  obtain ⟨_,h⟩:=ht
  have h1:Qt x=false:=by
   rcases h with ⟨h1,h2⟩|⟨h1,h2⟩<;>simp [Qt,h1,h2]
  have h3:x.op≠3:=by rcases h with ⟨h1,_⟩|⟨h1,_⟩<;>omega
  have h4:Fa st x=some (st++[.leaf x]):=by
   unfold Fa
   rw [if_pos (by rcases h with ⟨h1,_⟩|⟨h1,_⟩<;>omega)]
  show Dm l st pre.length (x::post)=_
  rw [Jf h1 (Uh h3) h4]
  simp [Tr.nodes]
 |.one o a,k,ht,l,pre,post,st,hl=>by
  obtain ⟨j,ta,ho⟩:∃j,Ty j a/\((o=7/\j=false)\/(o=17/\j=true)):=by
   rcases ht with ⟨_,h1,h2⟩|⟨_,h1,h2⟩
   . exact ⟨_,h2,.inl ⟨h1,rfl⟩⟩
   . exact ⟨_,h2,.inr ⟨h1,rfl⟩⟩
  have h0:=Jg a j ta l pre (⟨o,0,[]⟩::post) st (by rw [hl];simp [Tr.nodes])
  have e:(Tr.one o a).nodes++post=a.nodes++(⟨o,0,[]⟩::post):=by simp [Tr.nodes]
  rw [e,h0]
  have h4:Fa (st++[a]) ⟨o,0,[]⟩=some (st++[.one o a]):=by
   unfold Fa
   rw [if_neg (by show ¬ (o<=3);omega),if_pos (by show o=7\/o=17;omega),Agb st [a] _ (by
    rw [List.map_cons,List.map_nil,Oj ta]
    rcases ho with ⟨rfl,rfl⟩|⟨rfl,rfl⟩<;>rfl)]
  rw [Jf (Abv om om) (Uh (by show o≠3;omega)) h4]
  simp [Tr.nodes]
  rfl
 |.three p a c,k,ht,l,pre,post,st,hl=>by
  obtain ⟨_,tp,ta,tc⟩:=ht
  have h0:=Jg p true tp l pre (a.nodes++(c.nodes++(⟨8,0,[]⟩::post))) st (by rw [hl];simp [Tr.nodes])
  have h1:=Jg a false ta l (pre++p.nodes) (c.nodes++(⟨8,0,[]⟩::post)) (st++[p]) (by rw [hl];simp [Tr.nodes])
  have h2:=Jg c false tc l (pre++p.nodes++a.nodes) (⟨8,0,[]⟩::post) (st++[p]++[a]) (by rw [hl];simp [Tr.nodes])
  have e:(Tr.three p a c).nodes++post=p.nodes++(a.nodes++(c.nodes++(⟨8,0,[]⟩::post))):=by simp [Tr.nodes]
  rw [e,h0,h1,h2]
  have h4:Fa (st++[p]++[a]++[c]) ⟨8,0,[]⟩=some (st++[.three p a c]):=by
   unfold Fa
   rw [if_neg (by show ¬ ((8:Int)<=3);decide),if_neg (by show ¬ ((8:Int)=7\/(8:Int)=17);decide),if_pos rfl,show st++[p]++[a]++[c]=st++[p,a,c] by simp,Agb st [p,a,c] _ (by
    simp only [List.map_cons,List.map_nil,Oj tp,Oj ta,Oj tc])]
  rw [Jf (Abv om om) (Uh (by show (8:Int)≠3;decide)) h4]
  simp [Tr.nodes]
  rfl
 |.two o a c,k,ht,l,pre,post,st,hl=>by
  have hoo:4<=o/\o<=16/\o≠7/\o≠8:=by
   rcases ht with ⟨_,h,_⟩|⟨_,h,_⟩|⟨_,h,_⟩|⟨_,h,_⟩<;>omega
  have Lp:F4 a=(decide (o=15)||decide (o=16))->F4 c=(decide (o=15)||decide (o=16))->Fa (st++[a]++[c]) ⟨o,0,[]⟩=some (st++[.two o a c]):=by
   intro h1 h2
   unfold Fa
   rw [if_neg (by show ¬ (o<=3);omega),if_neg (by show ¬ (o=7\/o=17);omega),if_neg (by show ¬ (o=8);omega),show st++[a]++[c]=st++[a,c] by simp,Agb st [a,c] _ (by
    simp only [List.map_cons,List.map_nil,h1,h2])]
  have e:(Tr.two o a c).nodes++post=a.nodes++(c.nodes++(⟨o,0,[]⟩::post)):=by simp [Tr.nodes]
  have typed:∀j,Ty j a->Ty j c->j=(decide (o=15)||decide (o=16))->Dm l st pre.length ((Tr.two o a c).nodes++post)=Dm l (st++[.two o a c]) (pre++(Tr.two o a c).nodes).length post:=by
   intro j ta tc hj
   have h0:=Jg a j ta l pre (c.nodes++(⟨o,0,[]⟩::post)) st (by rw [hl];simp [Tr.nodes])
   have h1:=Jg c j tc l (pre++a.nodes) (⟨o,0,[]⟩::post) (st++[a]) (by rw [hl];simp [Tr.nodes])
   rw [e,h0,h1,Jf (Abv om om) (Uh (by show o≠3;omega)) (Lp (by rw [Oj ta];exact hj) (by rw [Oj tc];exact hj))]
   simp [Tr.nodes]
   rfl
  rcases ht with ⟨_,h,ta,tc⟩|⟨_,h,ta,tc⟩|⟨_,h,hw⟩|⟨_,h,ta,tc⟩
  . exact typed false ta tc (by
   have h1:o≠15:=by omega
   have h2:o≠16:=by omega
   simp [h1,h2])
  . exact typed false ta tc (by
   have h1:o≠15:=by omega
   have h2:o≠16:=by omega
   simp [h1,h2])
  . have hw2:=hw
    obtain ⟨x,y,rfl,rfl,hx,hy⟩:=Pr hw
    obtain ⟨⟨_,xn⟩,_,yn⟩:=hw2
    have b1:Qt x=false:=by simp [Qt,hx,xn]
    have b2:Qt y=false:=by simp [Qt,hy,yn]
    have b3:Ou l (pre.length+1) y=false:=by
     have e1:AcU l pre.length=2:=by
      rw [hl,show pre++((Tr.two o (.leaf x) (.leaf y)).nodes++post)=pre++x::(y::⟨o,0,[]⟩::post) by simp [Tr.nodes],Aws,hx]
     have e2:AcU l (pre.length+1+1)=o:=by
      have:=Aws (pre++[x,y]) post ⟨o,0,[]⟩
      rw [hl,show pre++((Tr.two o (.leaf x) (.leaf y)).nodes++post)=(pre++[x,y])++(⟨o,0,[]⟩::post) by simp [Tr.nodes]]
      simpa using this
     have e3:¬ l.length<=pre.length+1+1:=by rw [hl];simp [Tr.nodes];omega
     rcases h with rfl|rfl<;>simp [Ou,hy,e1,e2,e3]
    have a1:Fa st x=some (st++[.leaf x]):=by unfold Fa;rw [if_pos om]
    have a2:Fa (st++[.leaf x]) y=some (st++[.leaf x]++[.leaf y]):=by unfold Fa;rw [if_pos om]
    have tx:F4 (.leaf x)=false:=decide_eq_false (by show ¬ (9<=x.op);omega)
    have ty:F4 (.leaf y)=false:=decide_eq_false (by show ¬ (9<=y.op);omega)
    have hj:false=(decide (o=15)||decide (o=16)):=by
     have h1:o≠15:=by omega
     have h2:o≠16:=by omega
     simp [h1,h2]
    rw [show (Tr.two o (.leaf x) (.leaf y)).nodes++post=x::y::⟨o,0,[]⟩::post by simp [Tr.nodes],Jf b1 (Uh om) a1,Jf b2 b3 a2,Jf (Abv om om) (Uh (by show o≠3;omega)) (Lp (by rw [tx];exact hj) (by rw [ty];exact hj))]
    simp [Tr.nodes]
  . exact typed true ta tc (by rcases h with h|h<;>simp [h])
theorem Y3 {k:Bool} {t:Tr} (h:Ty k t):Je t.nodes k=some t:=by
 unfold Je
 have:=Jg t k h t.nodes [] [] [] (by simp)
 simp only [List.append_nil,List.length_nil,List.nil_append] at this
 rw [this]
 show (if F4 t=k then some t else none)=some t
 rw [if_pos (Oj h)]
end Go.Proofs

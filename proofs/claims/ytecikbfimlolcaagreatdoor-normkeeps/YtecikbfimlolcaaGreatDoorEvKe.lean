/- The nodes of an expression are accepted one by one. -/
import Derived.Test.YtecikbfimlolcaaGreatDoorEvKb
set_option linter.all false
set_option maxRecDepth 100000
noncomputable section
namespace Go.Proofs
open Go Go.Ev Go.Nm Tryz Go.Ev.Sx
attribute [local irreducible] Aa Al Af Ad
variable (ctx:Ac) (N:Nat)
variable {ss:List Sc} {q:Qr} {vc vo vm sv:AV} {x:Nat} {a b:Sc} {cv:AV} {h:H}
theorem AiV {ss:List Sc} (hV:SsV ss) {s t:Sc} (hs:s∈ss) (ht:t∈ss) {c d:Cl} (hc:c∈s.A1) (hd:d∈t.A1) (hn:c.name=d.name):Px c=Px d:=by
 obtain ⟨all,h1,_,_,h4⟩:=hV
 have hnd:(all.map Cl.name).Nodup:=by rw [h1];decide
 have key:∀(s:Sc) (c:Cl),s∈ss->c∈s.A1->∃e∈all,Px e=Px c:=by
  intro s c hs hc
  obtain ⟨_,sub,q1,q2⟩:=h4 s hs
  have h5:Px c∈sub.map Px:=q2 ▸ List.mem_map_of_mem hc
  obtain ⟨e,h6,h7⟩:=List.mem_map.1 h5
  exact ⟨e,List.mem_of_mem_take (q1.subset h6),h7⟩
 obtain ⟨e,he,Cs⟩:=key s c hs hc
 obtain ⟨f,hf,hf2⟩:=key t d ht hd
 have hef:e.name=f.name:=by
  have a1:=congrArg Prod.fst Cs
  have a2:=congrArg Prod.fst hf2
  simp only [Px] at a1 a2
  rw [a1,a2,hn]
 have:e=f:=by
  obtain ⟨i,hi⟩:=List.getElem?_of_mem he
  obtain ⟨j,hj⟩:=List.getElem?_of_mem hf
  have b1:(all.map Cl.name)[i]?=some e.name:=by rw [List.getElem?_map,hi];rfl
  have b2:(all.map Cl.name)[j]?=some e.name:=by rw [List.getElem?_map,hj,hef];rfl
  have b3:=List.getElem?_eq_some_iff.1 b1
  have b4:=List.getElem?_eq_some_iff.1 b2
  have b5:=(List.getElem_inj hnd).1 (b3.2.trans b4.2.symm)
  subst b5
  rw [hi] at hj
  exact Option.some.inj hj
 rw [<- Cs,<- hf2,this]
theorem AdL {α β:Type} {f:α->β}:∀{l:List α},(l.map f).Nodup->∀{x y:α},x∈l->y∈l->f x=f y->x=y
 |[],_,x,y,hx,_,_=>by cases hx
 |z::l,hn,x,y,hx,hy,he=>by
  rw [List.map_cons,List.nodup_cons] at hn
  rcases List.mem_cons.1 hx with h1|h1
  . rcases List.mem_cons.1 hy with h2|h2
    . rw [h1,h2]
    . exact absurd (List.mem_map.2 ⟨y,h2,by rw [<- he,h1]⟩) hn.1
  . rcases List.mem_cons.1 hy with h2|h2
    . exact absurd (List.mem_map.2 ⟨x,h1,by rw [he,h2]⟩) hn.1
    . exact AdL hn.2 h1 h2 he
theorem Agu:∀{ss:List Sc},(ss.map Sc.name).Nodup->∀{a:Sc},a∈ss->Ab1 ss a.name=a.A1
 |[],_,a,h=>by cases h
 |s::ss,hn,a,h=>by
  rw [List.map_cons,List.nodup_cons] at hn
  rcases List.mem_cons.1 h with rfl|h
  . have:(ss.filter λt=>decide (t.name=a.name))=[]:=List.filter_eq_nil_iff.2 λt ht=>by
     have:t.name≠a.name:=λe=>hn.1 (List.mem_map.2 ⟨t,ht,e⟩)
     simp [this]
    simp [Ab1,this]
  . have h1:s.name≠a.name:=λe=>hn.1 (List.mem_map.2 ⟨a,h,e.symm⟩)
    have ih:=Agu hn.2 h
    simp only [Ab1] at ih ⊢
    rw [List.filter_cons,if_neg (by simp [h1])]
    exact ih
theorem Qst.A1 (K:Qst ss q vc vo vm sv x a b cv h):a.A1++b.A1=AaF ss q:=by
 rw [AaF,<- K.hn,Agu K.sd.nd K.ha]
 rcases K.hb with ⟨h1,rfl⟩|⟨_,h2,h3⟩
 . rw [h1,Ajm λs hs hh=>by
    have:=(K.sd.d s hs).nm
    rw [hh] at this
    revert this
    decide]
   rfl
 . rw [<- h3,Agu K.sd.nd h2]
theorem Qst.Zn (K:Qst ss q vc vo vm sv x a b cv h) {c:Cl} (hc:c∈a.A1++b.A1):∃s∈ss,c∈s.A1:=by
 rcases List.mem_append.1 hc with hc|hc
 . exact ⟨a,K.ha,hc⟩
 . rcases K.hb with ⟨_,rfl⟩|⟨_,h2,_⟩
   . cases hc
   . exact ⟨b,h2,hc⟩
def Bez:Prop:=∀(c:Cl) (h:H),S0 h->Ig h c.w c.ws->c.name∈N1/\AdD c.a c.b c.ws->Ah h (λr _=>r=.bool true) (ctx.call 145 [.agg (Hx c)] h)
theorem Bli (Aw5:A7R ctx) (c:Cl) (h:H) (hk:S0 h) (hw:Ig h c.w c.ws) (hv:c.name∈N1/\AdD c.a c.b c.ws):Ah h (λr _=>r=.bool true) (Ay prog ctx N true 145 [.agg (Hx c)] h):=by
 rw [Bjt]
 obtain ⟨o1,o2⟩:=B2 hw
 have g0:Ai h (h.new (.cells (Hx c) 96 .exact)):=(Ai.refl h).new _
 have g1:=g0.new (.cells (Hx c) 96 .exact)
 have h1:Ah ((h.new (.cells (Hx c) 96 .exact)).new (.cells (Hx c) 96 .exact)) (λr _=>r=.int .i64 0) (ctx.call 195 [.sl (h.nx+1) 0 1 1 4 true,.int .i64 0] ((h.new (.cells (Hx c) 96 .exact)).new (.cells (Hx c) 96 .exact))):=by
  refine Aw5 _ [c] 0 _ ⟨⟨Sl.lit (h:=h.new (.cells (Hx c) 96 .exact)) (Bf _) rfl rfl,λd hd=>?_,by simp⟩,λd hd=>?_,λd hd=>?_,hk.By g1.keeps⟩ (by simp) om (by simp)
  . rw [List.mem_singleton.1 hd];exact ⟨o1,o2⟩
  . rw [List.mem_singleton.1 hd];exact Sl.By hw g1.keeps
  . rw [List.mem_singleton.1 hd];exact hv
 replace h1:=(show F5 _ from h1)
 clear Aw5 hw hv
 refine wk ?_
 refine Fj (show Ah ((h.new (.cells (Hx c) 96 .exact)).new (.cells (Hx c) 96 .exact)) _ (ctx.call 195 [.sl (h.nx+1) 0 1 1 4 true,.int .i64 0] ((h.new (.cells (Hx c) 96 .exact)).new (.cells (Hx c) 96 .exact))) from h1) λv1 h2 e2 l2 Aae q2=>?_
 subst q2
 clear h1
 refine wk ?_
 exact zr Ex rfl
def R91:Prop:=∀(c:Cl) (h:H),S0 h->Ig h c.w c.ws->c.name∈N1/\AdD c.a c.b c.ws->Ah h (λr _=>r=.int .i64 (c.b - c.a+1)) (ctx.call 91 [.agg (Hx c)] h)
theorem AsC {a b:Int} {ws:List (List Nat)} (h:AdD a b ws):-3<=a/\a<=b/\b<=20:=by
 rcases h with ⟨_,h⟩|⟨u,h1,h2,_,h3,h4⟩
 . exact h
 . omega
theorem r91 (BfP:Bez ctx) (c:Cl) (h:H) (hk:S0 h) (hw:Ig h c.w c.ws) (hv:c.name∈N1/\AdD c.a c.b c.ws):Ah h (λr _=>r=.int .i64 (c.b - c.a+1)) (Ay prog ctx N true 91 [.agg (Hx c)] h):=by
 rw [e91]
 obtain ⟨o1,o2⟩:=B2 hw
 obtain ⟨y1,y2,y3⟩:=AsC hv.2
 have h1:=λhx e=>BfP c hx (hk.By e) (Sl.By hw e) hv
 replace h1:=(show F5 _ from h1)
 clear hw hv BfP
 refine wk ?_
 refine Fj ((show ∀(hx:H) (e:Bi h hx),_ from h1) _ M0) λv1 h2 e2 l2 Aae q2=>?_
 subst q2
 try simp only [C9] at l2 Aae
 have g2:=(Aae h.nx om).trans (Bf _)
 clear h1
 refine wk ?_
 exact zr Ex rfl
theorem r55 (h86:R86 ctx) (h87:R87 ctx) (h91:R91 ctx) (K:Qst ss q vc vo vm sv x a b cv h) {q0:Qr} (kv:KV (AaF ss q) q0 q):Ah h ok0 (Ay prog ctx N false 55 [.ptr x 0] h):=by
 rw [e55]
 have hg:=K.get
 have hx:=K.lt
 have hI:=is3 ctx (q:=q) h86 hg hx 1 2 5
 by_cases hv:q.c0=1\/q.c0=2\/q.c0=5
 . rw [decide_eq_true hv] at hI
   clear K kv
   (repeat' (first|refine wk ?_|((with_reducible (first|apply Fj|apply zc2));exact hI _ Ex;intro vv hh ee E8 Bu qq;(try simp only [C9] at E8 Bu);subst qq)))
   exact zr Ex rfl
 . rw [decide_eq_false hv] at hI
   have hc:=kv.Bcq om om om
   rw [<- K.A1] at hc
   have AiT:=λhx e=>h87 cv _ q.s6 hx (K.cs.By e) hc
   replace AiT:=(show F5 _ from AiT)
   have Ajt:=λc hc=>K.Zn (c:=c) hc
   have hsd:=K.sd
   replace Ajt:=(show F5 _ from Ajt)
   clear K kv hc hv
   (repeat' (first|refine wd ?_|((with_reducible (first|apply Fj|apply zc2));exact hI _ Ex;intro vv hh ee E8 Bu qq;(first|(have eqt:=Ai.quiet ee;try simp only [C9] at E8 Bu eqt)|(try simp only [C9] at E8 Bu));subst qq)))
   refine Fj ((show ∀(hx:H) (e:Bi h hx),_ from AiT) _ M0) λv1 h1 e1 l1 Aad q1=>?_
   obtain ⟨c,hc,hcn,rfl⟩:=q1
   obtain ⟨s,hs,X3⟩:=(show ∀(c:Cl) (hc:c∈a.A1++b.A1),_ from Ajt) c hc
   have hcd:=((hsd.d s hs).cs)
   have hw:=hcd.w c X3
   have hv:=hcd.ok c X3
   have hvi:=AsC hv.2
   obtain ⟨o1,o2⟩:=B2 hw
   have k1:decide ((64:Int)<c.b - c.a+1)=false:=df
   have eqt:=Ai.quiet e1
   try simp only [C9] at l1 Aad eqt
   have h2:=λhx e=>h91 c hx (hcd.gk.By e) (Sl.By hw e) hv
   replace h2:=(show F5 _ from h2)
   clear hcd Ajt hsd AiT hw hv h91 hI h86 h87 hcn
   have gr1:Ai h h1:=Ex
   refine wd ?_
   refine Pu (h.nx) (h.nx) (by (simp only [List.forall_mem_cons,List.not_mem_nil,false_imp_iff,implies_true,and_true]);(repeat' (refine And.intro ?_ ?_));all_goals first|(left;simp;done)|(left;assumption)|(left;simp [*];done)|(refine .inr ⟨λx hx=>.inr ?_,?_⟩;(focus first|(have hz:=(D4 _ _ _ hx).1;simp at hz;omega));(repeat' (refine And.intro ?_ ?_));all_goals first|(exact Ar ..)|(refine Ax _ _ _ _ _ _ _ _ _ _ _ _ ?_;decide)|exact Ci ..)) λLz Wp=>?_
   generalize hE:Be Lz _=hz
   have grz:Ai h hz:=by rw [<- hE];exact Ab3 (hA:=hh) Ex Ex Wp (Nat.le_refl _) (Nat.le_refl _)
   have gz:hz.m.get h1.nx=.cells (Hx c) 96 .exact:=by rw [<- hE];exact A2 ..
   clear hE Wp
   refine wk ?_
   refine Fj ((show ∀(hx:H) (e:Bi h hx),_ from h2) _ grz.keeps) λv2 h3 e3 l3 Ary q3=>?_
   subst q3
   have gr3:=grz.trans e3
   refine wk ?_
   exact zr gr3 rfl
theorem Bds {h:H} {b:Nat} (i:Int) (h0:0<=i) (h1:i<2):AxM 2 1 (.ptr b 0) (.int .i64 i) h=.ok (.ptr b i.toNat) h:=by
 have:i=0\/i=1:=by omega
 rcases this with rfl|rfl<;>rfl
theorem A5L (b7:Nat) (c:Cl) (hq:0<=q.c9/\q.c9<=2) (hg:h.m.get x=.cells (qsC q vc vo vm sv a b cv) 93 .exact) (hx:x<h.nx) (hg7:h.m.get b7=.cells (Hx c) 96 .exact) (hb7:b7<h.nx) (v:AV) (l:List (Int × Int)) (hv:OkS h v l) (hl:l.length<=4) (hR:∀r∈l,c.a<=r.1/\r.1<=r.2/\r.2<=c.b):
 ∀(k:Nat) (i:Int) (n:Nat) (hd:H) (f0:L2),i+(k:Int)=(l.length:Int)->0<=i->k<n->Ai h hd->Ah h ok0 (Ay7 ctx N n (.ptr x 0) (.ptr b7 0) v (.int .i64 (l.length:Int)) (.int .i64 i) f0 hd)
 |0,i,n,hd,f0,Qd,H4,Zo,hg0=>by
  obtain ⟨n1,rfl⟩:∃n1,n=n1+1:=⟨n - 1,by omega⟩
  have k1:decide (i<(l.length:Int))=false:=df
  have g1:=(hg0.Cf x hx).trans hg
  have k2:decide (q.c9<0)=false:=df
  have k3:decide ((2:Int)<q.c9)=false:=df
  clear hg hv
  rw [A3S]
  refine wk ?_
  exact zr hg0 rfl
 |k+1,i,n,hd,f0,Qd,H4,Zo,hg0=>by
  obtain ⟨n1,rfl⟩:∃n1,n=n1+1:=⟨n - 1,by omega⟩
  have ih:=A5L b7 c hq hg hx hg7 hb7 v l hv hl hR k (i+1) n1
  have k1:decide (i<(l.length:Int))=true:=dt
  have X4:((i.toNat:Nat):Int)=i:=Int.toNat_of_nonneg H4
  obtain ⟨r,hr⟩:∃x,l[i.toNat]?=some x:=⟨_,List.getElem?_eq_getElem om⟩
  obtain ⟨b1,o1,el⟩:=R0.elem (f:=Zd) (s:=2) (λ_=>rfl) (Sl.By hv hg0.keeps) hr
  have x1:=el.ia
  rw [X4] at x1
  have x2:=el.all
  obtain ⟨y1,y2,y3⟩:=hR r (List.mem_of_getElem? hr)
  have g7:=(hg0.Cf b7 hb7).trans hg7
  have Kf:=hg0.lo
  have Bqz:=Nat.lt_of_lt_of_le hb7 Kf
  have Hr:b7≠hd.nx:=by omega
  have k2:decide (r.1<c.a)=false:=df
  have k3:decide (c.b<r.2)=false:=df
  have k4:decide (r.2<r.1)=false:=df
  replace ih:=(show F5 _ from ih)
  clear el X4 hr hg hv hR hg7
  rw [A3S]
  (have zz0:=@Bds;refine wk ?_)
  exact (show ∀(hd:H) (f0:L2),_ from ih) _ _ om om om Ex
theorem r56 (hN:100<N) (h86:R86 ctx) (h87:R87 ctx) (K:Qst ss q vc vo vm sv x a b cv h) (hV:SsV ss) {q0:Qr} (kv:KV (AaF ss q) q0 q):Ah h ok0 (Ay prog ctx N false 56 [.ptr x 0] h):=by
 rw [e56]
 have hg:=K.get
 have hx:=K.lt
 have hI:=is1 ctx (q:=q) h86 hg hx 10
 have hlen:∀hh,Fo vo hh=.ok (.int .i64 (q.ord.length:Int)) hh:=λ_=>K.o.Gs
 by_cases hv:q.c0=10
 . rw [decide_eq_true hv] at hI
   obtain ⟨z1,z2,z3,z4,c',Wh,BfX,hR⟩:=kv.Bde hv
   rw [<- K.A1] at Wh
   have AiT:=λhx e=>h87 cv _ q.s6 hx (K.cs.By e) ⟨c',Wh,BfX⟩
   replace AiT:=(show F5 _ from AiT)
   have AhE:=List.length_pos_iff.2 z1
   have k1:decide ((q.ord.length:Int)=0)=false:=df
   have k2:decide ((64:Int)<(q.ord.length:Int))=false:=df
   have Ajt:=λc hc=>K.Zn (c:=c) hc
   have hsd:=K.sd
   have ho:=K.o
   have hz:∀c∈a.A1++b.A1,c.name=q.s6->∀r∈q.ord,c.a<=r.1/\r.1<=r.2/\r.2<=c.b:=by
    intro c hc hcn r hr
    obtain ⟨s,hs,X3⟩:=Ajt c hc
    obtain ⟨t,ht,hct⟩:=Ajt c' Wh
    have he:=AiV hV hs ht X3 hct (hcn.trans BfX.symm)
    simp only [Px,Prod.mk.injEq] at he
    rw [he.2.1,he.2.2.1]
    exact hR r hr
   have AdM:∀c∈a.A1++b.A1,Ge c.w=true/\cellsOf c.w=some [c.w]:=K.cs.one
   replace hz:=(show F5 _ from hz)
   replace AdM:=(show F5 _ from AdM)
   clear K kv hv hR Ajt hsd
   have Hr:decide (q.ord=[])=false:=decide_eq_false z1
   (repeat' (first|refine wd ?_|((with_reducible (first|apply Fj|apply zc2));exact hI _ Ex;intro vv hh ee E8 Bu qq;(first|(have eqt:=Ai.quiet ee;try simp only [C9] at E8 Bu eqt)|(try simp only [C9] at E8 Bu));subst qq)))
   refine Fj ((show ∀(hx:H) (e:Bi h hx),_ from AiT) _ M0) λv1 h1 e1 l1 Aad q1=>?_
   obtain ⟨c,hc,hcn,rfl⟩:=q1
   have hR2:=(show ∀c∈a.A1++b.A1,c.name=q.s6->_ from hz) c hc hcn
   obtain ⟨o1,o2⟩:=(show ∀c∈a.A1++b.A1,Ge c.w=true/\cellsOf c.w=some [c.w] from AdM) c hc
   have eqt:=Ai.quiet e1
   have gr1:Ai h h1:=Ex
   try simp only [C9] at l1 Aad eqt
   clear AiT hz AdM hcn hc
   replace hR2:=(show F5 _ from hR2)
   refine wd ?_
   refine Pu (h.nx) (h.nx) (by (simp only [List.forall_mem_cons,List.not_mem_nil,false_imp_iff,implies_true,and_true]);(repeat' (refine And.intro ?_ ?_));all_goals first|(left;simp;done)|(left;assumption)|(left;simp [*];done)|(refine .inr ⟨λx hx=>.inr ?_,?_⟩;(focus first|(have hz:=(D4 _ _ _ hx).1;simp at hz;omega));(repeat' (refine And.intro ?_ ?_));all_goals first|(exact Ar ..)|(refine Ax _ _ _ _ _ _ _ _ _ _ _ _ ?_;decide)|exact Ci ..)) λLz Wp=>?_
   generalize hE:Be Lz _=hz
   have grz:Ai h hz:=by rw [<- hE];exact Ab3 (hA:=hh) Ex Ex Wp (Nat.le_refl _) (Nat.le_refl _)
   have gz:hz.m.get h1.nx=.cells (Hx c) 96 .exact:=by rw [<- hE];exact A2 ..
   have xz:hz.nx=h1.nx+1:=by rw [<- hE];rfl
   clear hE Wp
   refine wk ?_
   refine Ah.of grz (A5L ctx N h1.nx c ⟨z3,z4⟩ ((grz.Cf x hx).trans hg) (Nat.lt_of_lt_of_le hx grz.lo) gz om vo q.ord (Sl.By ho grz.keeps) om hR2 q.ord.length 0 N hz _ om om om (Ai.refl _))
 . rw [decide_eq_false hv] at hI
   clear K kv
   (repeat' (first|refine wk ?_|((with_reducible (first|apply Fj|apply zc2));exact hI _ Ex;intro vv hh ee E8 Bu qq;(try simp only [C9] at E8 Bu);subst qq)))
   exact zr Ex rfl
def R88:Prop:=∀(v w:AV) (l:List (List Nat)) (h:H),Ig h v l->Ig h w l->l.length<=5->Ah h (λr _=>r=.bool true) (ctx.call 88 [v,w] h)
theorem A5O (v w:AV) (l:List (List Nat)) (h:H) (hv:Ig h v l) (hw:Ig h w l) (hl:l.length<=5):
 ∀(k:Nat) (i:Int) (n:Nat) (hd:H) (f0:L2),i+(k:Int)=(l.length:Int)->0<=i->k<n->Ai h hd->Ah h (λr _=>r=.bool true) (AyD ctx N n v w (.int .i64 (l.length:Int)) (.int .i64 i) f0 hd)
 |0,i,n,hd,f0,Qd,H4,Zo,hg=>by
  obtain ⟨n1,rfl⟩:∃n1,n=n1+1:=⟨n - 1,by omega⟩
  have k1:decide (i<(l.length:Int))=false:=df
  rw [A4c]
  refine wk ?_
  exact zr hg rfl
 |k+1,i,n,hd,f0,Qd,H4,Zo,hg=>by
  obtain ⟨n1,rfl⟩:∃n1,n=n1+1:=⟨n - 1,by omega⟩
  have ih:=A5O v w l h hv hw hl k (i+1) n1
  have k1:decide (i<(l.length:Int))=true:=dt
  have X4:((i.toNat:Nat):Int)=i:=Int.toNat_of_nonneg H4
  obtain ⟨y,hy⟩:∃x,l[i.toNat]?=some x:=⟨_,List.getElem?_eq_getElem om⟩
  obtain ⟨b1,o1,el⟩:=R0.elem (f:=Aeb) (s:=1) (λ_=>rfl) (Sl.By hv hg.keeps) hy
  obtain ⟨b2,o2,el2⟩:=R0.elem (f:=Aeb) (s:=1) (λ_=>rfl) (Sl.By hw hg.keeps) hy
  have x1:=el.ia
  have y1:=el2.ia
  rw [X4] at x1 y1
  have x2:=el.part 0 _ rfl
  have y2:=el2.part 0 _ rfl
  rw [Nat.add_zero] at x2 y2
  clear el el2 X4 hv hw
  rw [A4c]
  refine wk ?_
  exact ih _ _ om om om Ex
theorem r88 (hN:100<N) (v w:AV) (l:List (List Nat)) (h:H) (hv:Ig h v l) (hw:Ig h w l) (hl:l.length<=5):Ah h (λr _=>r=.bool true) (Ay prog ctx N true 88 [v,w] h):=by
 rw [e88]
 have x1:∀hh,Fo v hh=.ok (.int .i64 (l.length:Int)) hh:=λ_=>hv.Gs
 have x2:∀hh,Fo w hh=.ok (.int .i64 (l.length:Int)) hh:=λ_=>hw.Gs
 have Kf:=A5O ctx N v w l h hv hw hl l.length 0 N h
 replace Kf:=(show F5 _ from Kf)
 clear hv hw
 refine wk ?_
 exact (show ∀(f0:L2),_ from Kf) _ om om om (Ai.refl _)
set_option maxHeartbeats 2000000 in
theorem r51 (h84:R84 ctx) (h87:R87 ctx) (h88:R88 ctx) (K:Qst ss q vc vo vm sv x a b cv h) (hV:SsV ss) (hP:Aqh ss q):Ah h ok0 (Ay prog ctx N false 51 [.ptr x 0] h):=by
 rw [e51]
 have hg:=K.get
 have hx:=K.lt
 obtain ⟨o1,o2⟩:=B2 K.c
 obtain ⟨o3,o4⟩:=B2 K.o
 obtain ⟨o5,o6⟩:=B2 K.m
 obtain ⟨a',ha',BfW,_,hj⟩:=hP.tbl
 obtain rfl:a'=a:=AdL K.sd.nd ha' K.ha (BfW.trans K.hn.symm)
 have hfn:=λnm hx e=>h84 sv ss nm hx (K.sd.r.By e)
 replace hfn:=(show F5 _ from hfn)
 have hsd:=K.sd
 have hb:=K.hb
 have had:=(hsd.d a' ha').cs
 have AdM:=had.r.one
 obtain ⟨u1,u2⟩:=(hsd.d a' ha').one
 have hca:=λnm hx e hm=>h87 a'.cv a'.A1 nm hx (had.r.By e) hm
 replace hca:=(show F5 _ from hca)
 clear K h84 BfW
 rcases hj with ⟨y1,y2,y3,y4⟩|⟨b',hb',hbn,Bgr,⟨c,hc,hcn⟩,⟨d,hd,hdn⟩,hcd,l1,l2⟩
 . obtain ⟨c0,code,d2,d3,c4,c5,s6,c7,ord,c9,Wz,Uw,W0,Yc,Sk,Uo,U3,E9,Oi,Mg⟩:=q
   simp only at y1 y2 y3 y4
   subst y1
   subst y2
   subst y3
   subst y4
   clear hb hP hsd had hca hfn h87 h88 AdM hV
   refine wk ?_
   exact zr Ex rfl
 . have BcD:b'.name≠[]:=by
    have:=(hsd.d b' hb').nm
    intro hh
    rw [hh] at this
    revert this
    decide
   obtain rfl:b'=b:=by
    rcases hb with ⟨h1,_⟩|⟨_,h2,h3⟩
    . exact absurd (hbn.trans h1) BcD
    . exact AdL hsd.nd hb' h2 (hbn.trans h3.symm)
   have hbd:=(hsd.d b' hb').cs
   obtain ⟨u3,u4⟩:=(hsd.d b' hb').one
   have hcb:=λnm hx e hm=>h87 b'.cv b'.A1 nm hx (hbd.r.By e) hm
   replace hcb:=(show F5 _ from hcb)
   have k1:decide (q.Wu=[])=false:=decide_eq_false (hbn ▸ BcD)
   have k2:decide (q.c16<1)=false:=df
   have k3:decide ((50:Int)<q.c16)=false:=df
   have hws:∀e∈a'.A1,e.name=q.s14->∀f∈b'.A1,f.name=q.s15->e.ws=f.ws/\∀hx,Bi h hx->Ig hx e.w e.ws/\Ig hx f.w e.ws/\e.ws.length<=5:=by
    intro e he hen f hf A9a
    have h1:=AiV hV ha' hb' he hf (hen.trans (hcd.trans A9a.symm))
    simp only [Px,Prod.mk.injEq] at h1
    refine ⟨h1.2.2.2,λhx ek=>⟨Sl.By (had.w e he) ek,?_,(had.ok e he).2.Mu⟩⟩
    rw [h1.2.2.2]
    exact Sl.By (hbd.w f hf) ek
   have AyK:=hbd.r.one
   replace hws:=(show F5 _ from hws)
   replace AdM:=(show F5 _ from AdM)
   replace AyK:=(show F5 _ from AyK)
   have hmb:∃s∈ss,s.name=q.Wu:=⟨b',hb',hbn⟩
   have hm1:∃c∈a'.A1,c.name=q.s14:=⟨c,hc,hcn⟩
   have hm2:∃c∈b'.A1,c.name=q.s15:=⟨d,hd,hdn⟩
   replace hmb:=(show F5 _ from hmb)
   replace hm1:=(show F5 _ from hm1)
   replace hm2:=(show F5 _ from hm2)
   obtain ⟨c0,code,d2,d3,c4,c5,s6,c7,ord,c9,Wz,Uw,W0,Yc,Sk,Uo,U3,E9,Oi,Mg⟩:=q
   simp only at k1 k2 k3
   clear hb hP hsd had hbd h87 hV hcd hcn hdn hc hd hbn BcD l1 l2
   refine wd ?_
   refine Fj ((show ∀(nm:List Nat) (hx:H) (e:Bi h hx),_ from hfn) Yc _ M0) λv1 h1 e1 l1 Aad q1=>?_
   obtain ⟨i,s,_,_,rfl⟩:=q1.2 hmb
   have eq1:=Ai.quiet e1
   have gr1:Ai h h1:=Ex
   simp only [C9] at l1 Aad eq1
   have g4:=(Aad h.nx om).trans (A2 ..)
   have gx:=(gr1.Cf x hx).trans hg
   clear Aad q1 hfn hmb
   refine wd ?_
   refine Fj ((show ∀(nm:List Nat) (hx:H) (e:Bi h hx),_ from hca) Sk _ M0 hm1) λv2 h2 e2 l2 Aae q2=>?_
   obtain ⟨e,he,hen,rfl⟩:=q2
   obtain ⟨w1,w2⟩:=(show ∀c∈a'.A1,Ge c.w=true/\cellsOf c.w=some [c.w] from AdM) e he
   have eq2:=Ai.quiet e2
   have gr2:Ai h h2:=Ex
   simp only [C9] at l2 Aae eq2
   have g5:=(Aae h.nx om).trans g4
   have gy:=(gr2.Cf x hx).trans hg
   clear Aae hca hm1 AdM g4 gx e1
   replace hen:=(show F5 _ from hen)
   refine wd ?_
   refine Pu (h.nx) (h.nx) (by (simp only [List.forall_mem_cons,List.not_mem_nil,false_imp_iff,implies_true,and_true]);(repeat' (refine And.intro ?_ ?_));all_goals first|(left;simp;done)|(left;assumption)|(left;simp [*];done)|(refine .inr ⟨λx hx=>.inr ?_,?_⟩;(focus first|(have hz:=(D4 _ _ _ hx).1;simp at hz;omega));(repeat' (refine And.intro ?_ ?_));all_goals first|(exact Ar ..)|(refine Ax _ _ _ _ _ _ _ _ _ _ _ _ ?_;decide)|exact Ci ..)) λLz Wp=>?_
   generalize hE:Be Lz _=hz
   have grz:Ai h hz:=by rw [<- hE];exact Ab3 (hA:=h.put h.nx (.map [])) ((Ai.refl h).put _ _ (Nat.le_refl _)) Ex Wp (Nat.le_refl _) (Nat.le_refl _)
   have ge:hz.m.get h2.nx=.cells (Hx e) 96 .exact:=by rw [<- hE];exact A2 ..
   have g6:hz.m.get h.nx=h2.m.get h.nx:=by
    rw [<- hE]
    exact (Aq _ _ _ om).trans (Cq (h:=Ab h2) _ _ (by show h.nx≠h2.nx;omega))
   rw [g5] at g6
   have xz:hz.nx=h2.nx+1:=by rw [<- hE];rfl
   have gz:=(grz.Cf x hx).trans hg
   clear hE Wp g5 gy e2 eq1 eq2 gr1 gr2
   refine wd ?_
   refine Fj ((show ∀(nm:List Nat) (hx:H) (e:Bi h hx),_ from hcb) Uo _ M0 hm2) λv3 h3 e3 l3 Ary q3=>?_
   obtain ⟨f,hf,A9a,rfl⟩:=q3
   obtain ⟨w3,w4⟩:=(show ∀c∈b'.A1,Ge c.w=true/\cellsOf c.w=some [c.w] from AyK) f hf
   obtain ⟨hwe,hww⟩:=(show ∀e∈a'.A1,e.name=Sk->∀f∈b'.A1,f.name=Uo->e.ws=f.ws/\∀hx,Bi h hx->Ig hx e.w e.ws/\Ig hx f.w e.ws/\e.ws.length<=5 from hws) e he hen f hf A9a
   have eq3:=Ai.quiet e3
   have gr3:Ai h h3:=Ex
   simp only [C9] at l3 Ary eq3
   have g7:=(Ary h.nx om).trans g6
   have ge2:=(Ary h2.nx om).trans ge
   clear Ary hcb hm2 AyK g6 gz hws hwe A9a hen
   replace hww:=(show F5 _ from hww)
   refine wd ?_
   refine Pu (h.nx) (h.nx) (by (simp only [List.forall_mem_cons,List.not_mem_nil,false_imp_iff,implies_true,and_true]);(repeat' (refine And.intro ?_ ?_));all_goals first|(left;simp;done)|(left;assumption)|(left;simp [*];done)|(refine .inr ⟨λx hx=>.inr ?_,?_⟩;(focus first|(have hz:=(D4 _ _ _ hx).1;simp at hz;omega));(repeat' (refine And.intro ?_ ?_));all_goals first|(exact Ar ..)|(refine Ax _ _ _ _ _ _ _ _ _ _ _ _ ?_;decide)|exact Ci ..)) λLz Wp=>?_
   generalize hE:Be Lz _=hy
   have gry:Ai h hy:=by rw [<- hE];exact Ab3 (hA:=hz) Ex Ex Wp (Nat.le_refl _) (Nat.le_refl _)
   have gf:hy.m.get h3.nx=.cells (Hx f) 96 .exact:=by rw [<- hE];exact A2 ..
   have g8:hy.m.get h.nx=h3.m.get h.nx:=by
    rw [<- hE]
    exact (Aq _ _ _ om).trans (Cq (h:=Ab h3) _ _ (by show h.nx≠h3.nx;omega))
   rw [g7] at g8
   have ge3:hy.m.get h2.nx=h3.m.get h2.nx:=by
    rw [<- hE]
    exact (Aq _ _ _ om).trans (Cq (h:=Ab h3) _ _ (by show h2.nx≠h3.nx;omega))
   rw [ge2] at ge3
   have gz:=(gry.Cf x hx).trans hg
   have xy:hy.nx=h3.nx+1:=by rw [<- hE];rfl
   clear hE Wp g7 ge2 ge e3 eq3 gr3 grz
   have A8X:∀hx,Bi h hx->Ah hx (λr _=>r=.bool true) (ctx.call 88 [e.w,f.w] hx):=λhx ek=>by
    obtain ⟨q1,q2,q3⟩:=(show ∀hx,Bi h hx->Ig hx e.w e.ws/\Ig hx f.w e.ws/\e.ws.length<=5 from hww) hx ek
    exact h88 _ _ _ hx q1 q2 q3
   replace A8X:=(show F5 _ from A8X)
   clear h88 hww
   have fin:∀hx,Bi h hx->hx.m.get h.nx=hy.m.get h.nx->Ai h hx->True:=λ_ _ _ _=>trivial
   obtain ⟨an,ap,am,acv,acs⟩:=a'
   obtain ⟨bn,bp,bm,bcv,bcs⟩:=b'
   simp only at Bgr u1 u2 u3 u4
   cases ap
   . refine wk ?_
     refine Fj ((show ∀hx,Bi h hx->_ from A8X) _ gry.keeps) λv4 h4 e4 l4 A9W q4=>?_
     subst q4
     have g9:=(A9W h.nx om).trans g8
     have gr4:=gry.trans e4
     refine wk ?_
     exact zr gr4 rfl
   . obtain rfl:=Bgr rfl
     refine wk ?_
     refine Fj ((show ∀hx,Bi h hx->_ from A8X) _ gry.keeps) λv4 h4 e4 l4 A9W q4=>?_
     subst q4
     have g9:=(A9W h.nx om).trans g8
     have gr4:=gry.trans e4
     refine wk ?_
     exact zr gr4 rfl
theorem A5K (v:AV) (h:H) (hv:Sl 1 h v 6 [.bool false,.bool false,.bool false,.bool false,.bool false,.bool false]):
 ∀(k:Nat) (i:Int) (n:Nat) (hd:H) (f0:L2),i+(k:Int)=6->0<=i->k<n->Ai h hd->Ah h ok0 (Ay2 ctx N n v (.int .i64 6) (.int .i64 i) f0 hd)
 |0,i,n,hd,f0,Qd,H4,Zo,hg=>by
  obtain ⟨n1,rfl⟩:∃n1,n=n1+1:=⟨n - 1,by omega⟩
  have k1:decide (i<(6:Int))=false:=df
  rw [A3N]
  repeat' (first|with_reducible (first|apply A7|apply A8|apply A9|apply Ba)|(with_reducible (first|apply Cy|apply Cz|apply C0|apply C1);(conv=>lhs;simp (disch:=first|exact dA|fail) [lw, *,k1]);with_reducible (first|apply A7|apply A8|apply A9|apply Ba|apply Cu|(refine Cv (by simp) ?_)|apply Cx))|(with_reducible (first|apply Kl|apply Km);(conv=>lhs;simp only [zw,k1]))|(refine zqq ?_ ?_<;>intro hc<;>(try (exfalso;omega)))|fail)
  exact zr hg rfl
 |k+1,i,n,hd,f0,Qd,H4,Zo,hg=>by
  obtain ⟨n1,rfl⟩:∃n1,n=n1+1:=⟨n - 1,by omega⟩
  have ih:=A5K v h hv k (i+1) n1
  have k1:decide (i<(6:Int))=true:=dt
  have X4:((i.toNat:Nat):Int)=i:=Int.toNat_of_nonneg H4
  have hv2:R0 1 (λy:AV=>[y]) hd v [.bool false,.bool false,.bool false,.bool false,.bool false,.bool false]:=Sl.By hv hg.keeps
  have hel:∀i:Nat,i<6->[AV.bool false,.bool false,.bool false,.bool false,.bool false,.bool false][i]?=some (.bool false):=by
   intro i hi
   have:i=0\/i=1\/i=2\/i=3\/i=4\/i=5:=by omega
   rcases this with rfl|rfl|rfl|rfl|rfl|rfl<;>rfl
  obtain ⟨b1,o1,el⟩:=R0.elem (f:=λy:AV=>[y]) (s:=1) (λ_=>rfl) hv2 (hel i.toNat om)
  have x1:=el.ia
  rw [X4] at x1
  have x2:=el.part 0 _ rfl
  rw [Nat.add_zero] at x2
  clear el X4 hv hv2 hel
  rw [A3N]
  repeat' (first|with_reducible (first|apply A7|apply A8|apply A9|apply Ba)|(with_reducible (first|apply Cy|apply Cz|apply C0|apply C1);(conv=>lhs;simp (disch:=first|exact dA|fail) [lw, *,k1,x1,x2]);with_reducible (first|apply A7|apply A8|apply A9|apply Ba|apply Cu|(refine Cv (by simp) ?_)|apply Cx))|(with_reducible (first|apply Kl|apply Km);(conv=>lhs;simp only [zw,k1]))|(refine zqq ?_ ?_<;>intro hc<;>(try (exfalso;omega)))|fail)
  exact ih _ _ om om om Ex
theorem BkM (h86:R86 ctx) (hg:h.m.get x=.cells (qsC q vc vo vm sv a b cv) 93 .exact) (hx:x<h.nx) (n:Int) (c:Bool) (hc:decide (q.c0=n)=c) (b1:Nat) (hy:H) (hb:hy.nx=b1) (e:Ai h hy):Ah (hy.new (.cells [.int .i64 n] 3 .exact)) (λr _=>r=.bool c) (ctx.call 86 [.ptr x 0,.sl b1 0 1 1 1 true] (hy.new (.cells [.int .i64 n] 3 .exact))):=by
 subst hb
 subst hc
 exact is1 ctx h86 hg hx n hy e
theorem BkN (h86:R86 ctx) (hg:h.m.get x=.cells (qsC q vc vo vm sv a b cv) 93 .exact) (hx:x<h.nx) (n m k:Int) (c:Bool) (hc:decide (q.c0=n\/q.c0=m\/q.c0=k)=c) (b1:Nat) (hy:H) (hb:hy.nx=b1) (e:Ai h hy):Ah (hy.new (.cells [.int .i64 n,.int .i64 m,.int .i64 k] 3 .exact)) (λr _=>r=.bool c) (ctx.call 86 [.ptr x 0,.sl b1 0 3 3 1 true] (hy.new (.cells [.int .i64 n,.int .i64 m,.int .i64 k] 3 .exact))):=by
 subst hb
 subst hc
 exact is3 ctx h86 hg hx n m k hy e
set_option maxHeartbeats 4000000 in
theorem r48 (hN:100<N) (h85:R85 ctx) (h86:R86 ctx) (K:Qst ss q vc vo vm sv x a b cv h) (hk:1<=q.c0/\q.c0<=10) {A1:List Cl} {q0:Qr} (kv:KV A1 q0 q):Ah h ok0 (Ay prog ctx N true 48 [.ptr x 0] h):=by
 rw [e48]
 have hg:=K.get
 have hx:=K.lt
 obtain ⟨o1,o2⟩:=B2 K.c
 obtain ⟨o3,o4⟩:=B2 K.o
 obtain ⟨o5,o6⟩:=B2 K.m
 have hI:=BkM ctx (q:=q) h86 hg hx
 have hJ:=BkN ctx (q:=q) h86 hg hx
 have hV:=A6m ctx (q:=q) h85 hg hx
 have l1:∀hh,Fo vc hh=.ok (.int .i64 (q.code.length:Int)) hh:=λ_=>K.c.Gs
 have l2:∀hh,Fo vo hh=.ok (.int .i64 (q.ord.length:Int)) hh:=λ_=>K.o.Gs
 have p1:=kv.A47
 have p2:=kv.pq1
 have p3:=kv.Bcp
 have p4:=kv.bd1
 have p5:=kv.Bdd
 have p6:=kv.con
 clear kv
 clear K h85 h86
 obtain ⟨c0,code,d2,d3,c4,c5,s6,c7,ord,c9,Wz,Uw,W0,Yc,Sk,Uo,U3,E9,Oi,Mg⟩:=q
 simp only at hk p1 p2 p3 p4 p5 p6 hI hJ hV l1 l2 hg
 have sp:∀p:Prop,(False->p)=True:=λp=>eq_true False.elim
 have hI5:=hI 5
 have hI7:=hI 7
 have A8T:=hI 10
 have hI3:=hI 3
 have hJ1:=hJ 1 2 5
 clear hI hJ
 rcases A9y hk with rfl|rfl|rfl|rfl|rfl|rfl|rfl|rfl|rfl|rfl
 all_goals
  simp only [ne_eq,Int.reduceEq,not_true_eq_false,not_false_eq_true,sp,forall_const,or_self,or_true,true_or,or_false,false_or] at p1 p2 p3 p4 p5 p6
  try (obtain ⟨rfl,rfl,rfl⟩:=p1)
  try (obtain ⟨rfl,rfl⟩:=p2)
  try (obtain rfl:=p3)
  try (obtain rfl:=p4)
  try (obtain ⟨rfl,rfl⟩:=p5)
  try (obtain rfl:=p6)
  simp only [Int.reduceEq,or_self,or_true,true_or,or_false,false_or,decide_true,decide_false] at hV hI5 hI7 A8T hI3 hJ1
  replace hI5:=hI5 _ rfl
  replace hI7:=hI7 _ rfl
  replace A8T:=A8T _ rfl
  replace hI3:=hI3 _ rfl
  replace hJ1:=hJ1 _ rfl
  clear sp hk
  repeat' (first|with_reducible (first|apply A7|apply A8|apply A9|apply Ba)|((with_reducible (first|apply Fj|apply zc2));exact hV _ Ex;intro vv hh ee E8 Bu qq;(try simp only [C9] at E8 Bu);subst qq)|((with_reducible (first|apply Fj|apply zc2));exact hI5 _ _ rfl Ex;intro vv hh ee E8 Bu qq;(try simp only [C9] at E8 Bu);subst qq)|((with_reducible (first|apply Fj|apply zc2));exact hI7 _ _ rfl Ex;intro vv hh ee E8 Bu qq;(try simp only [C9] at E8 Bu);subst qq)|((with_reducible (first|apply Fj|apply zc2));exact A8T _ _ rfl Ex;intro vv hh ee E8 Bu qq;(try simp only [C9] at E8 Bu);subst qq)|((with_reducible (first|apply Fj|apply zc2));exact hI3 _ _ rfl Ex;intro vv hh ee E8 Bu qq;(try simp only [C9] at E8 Bu);subst qq)|((with_reducible (first|apply Fj|apply zc2));exact hJ1 _ _ rfl Ex;intro vv hh ee E8 Bu qq;(try simp only [C9] at E8 Bu);subst qq)|(with_reducible (first|apply Cy|apply Cz|apply C0|apply C1);(conv=>lhs;simp (disch:=first|exact dA|fail) [lw, *,hg,l1,l2]);with_reducible (first|apply A7|apply A8|apply A9|apply Ba|apply Cu|(refine Cv (by simp) ?_)|apply Cx))|(with_reducible (first|apply Kl|apply Km);(conv=>lhs;simp only [zw,Int.reduceEq,Int.reduceLT,decide_true,decide_false,Bool.not_true,Bool.not_false]))|(refine zqq ?_ ?_<;>intro hc<;>(try (exfalso;omega)))|fail)
  refine Ah.of ?_ (A5K ctx N _ _ ?_ 6 0 N _ _ rfl om om (Ai.refl _))
  . exact Ex
  . exact Sl.lit (Bf _) rfl rfl
end Go.Proofs
namespace Go.Proofs
open Go Go.Ev Go.Nm Go.Ev.Sx
variable {lo:Nat} {et:TypeId} {h:H} {sv y:AV} {st:List Int} {x:Int}
abbrev ints (l:List Int):List AV:=l.map (AV.int .i64)
def Aa4 (lo:Nat) (et:TypeId) (h:H) (sv:AV) (st:List Int):Prop:=(st=[]/\sv=.Bv)\/∃b cap c k n,sv=.sl b 0 st.length cap 1 false/\h.m.get b=.cells c et (.Gt k)/\h.m.get k=.Fb n/\c.length=cap/\st.length<=cap/\0<cap/\c.take st.length=ints st/\lo<=b/\lo<=k/\b<h.nx/\k<h.nx/\b≠k
theorem Aa4.nil (lo:Nat) (et:TypeId) (h:H):Aa4 lo et h .Bv []:=.inl ⟨rfl,rfl⟩
theorem Aa4.gr {h1:H} (hb:Aa4 lo et h sv st) (e:Ai h h1):Aa4 lo et h1 sv st:=by
 rcases hb with hb|⟨b,cap,c,k,n,r1,r2,r3,r4,r5,r6,r7,r8,r9,r10,r11,r12⟩
 . exact .inl hb
 . exact .inr ⟨b,cap,c,k,n,r1,by rw [e.Cf b r10];exact r2,by rw [e.Cf k r11];exact r3,r4,r5,r6,r7,r8,r9,Nat.lt_of_lt_of_le r10 e.lo,Nat.lt_of_lt_of_le r11 e.lo,r12⟩
theorem Aa4.put (hb:Aa4 lo et h sv st) (c:Nat) (o:AO) (hc:c<lo):Aa4 lo et (h.put c o) sv st:=by
 rcases hb with hb|⟨b,cap,d,k,n,r1,r2,r3,r4,r5,r6,r7,r8,r9,r10⟩
 . exact .inl hb
 . exact .inr ⟨b,cap,d,k,n,r1,by rw [Aq _ _ _ om];exact r2,by rw [Aq _ _ _ om];exact r3,r4,r5,r6,r7,r8,r9,r10⟩
theorem Aa4.rl {lg:List Nat} (hb:Aa4 lo et h sv st):Aa4 lo et (Be lg h) sv st:=hb
theorem Aa4.sl (hb:Aa4 lo et h sv st):R0 1 (λn:Int=>[AV.int .i64 n]) h sv st:=by
 have e:st.flatMap (λn:Int=>[AV.int .i64 n])=ints st:=by
  clear hb
  induction st with
  |nil=>rfl
  |cons a l ih=>rw [List.flatMap_cons,ih];rfl
 show Sl 1 h sv st.length _
 rw [e]
 rcases hb with ⟨rfl,rfl⟩|⟨b,cap,c,k,n,rfl,r2,r3,r4,r5,r6,r7,r8,r9,r10,r11,r12⟩
 . exact .inl ⟨rfl,rfl,rfl⟩
 . refine .inr ⟨b,0,cap,false,c,rfl,r5,⟨r10,et,.Gt k,r2,trivial⟩,by omega,?_⟩
   rw [List.drop_zero,Nat.mul_one,r7]
theorem Aa4.push (hb:Aa4 lo et h sv st) (hy:Hd h 1 y=some (1,[.int .i64 x])) (Kf:lo<=h.nx) (Fc:st.length<=1000):
 ∃v h',Ds et 1 8 sv y h=.ok v h'/\Aa4 lo et h' v (st++[x])/\h.nx<=h'.nx/\(∀c,c<lo->h'.m.get c=h.m.get c)/\(∀z∈h'.lg,z∈h.lg\/lo<=z)/\∀h0,h0.nx<=lo->Ai h0 h->Ai h0 h':=by
 have own:∀(c:List AV),Fm 1 lo et h sv st.length c->c=ints st->∃v h',Ds et 1 8 sv y h=.ok v h'/\Aa4 lo et h' v (st++[x])/\h.nx<=h'.nx/\(∀c,c<lo->h'.m.get c=h.m.get c)/\(∀z∈h'.lg,z∈h.lg\/lo<=z)/\∀h0,h0.nx<=lo->Ai h0 h->Ai h0 h':=by
  intro c ho hc
  obtain ⟨v',h',q1,q2,q3,q4,q5⟩:=Fm.AbQ (bytes:=8) (lo:=lo) ho hy (by rfl) om (by rfl) Kf
  refine ⟨v',h',q1,?_,q2.lo,q5,?_,q3⟩
  . rcases q4 with ⟨h1,_⟩|⟨h1,_⟩|⟨b,k,s,h1,p2,p3,p4,p5,p6,p7,p8,p9⟩
    . omega
    . omega
    . refine .inr ⟨b,st.length+1,_,k,s,by rw [List.length_append];exact h1,p2,p3,by rw [p9];omega,by rw [List.length_append];exact Nat.le_refl _,by omega,?_,p4,p5,p6,p7,p8⟩
      rw [List.length_append,hc,List.take_of_length_le (by simp)]
      simp
  . intro z hz
    have g:=q3 ⟨h.m,lo,h.lg⟩ (Nat.le_refl _) ⟨Kf,λb hb=>rfl,λx hx=>.inl hx⟩
    exact g.lg z hz
 rcases hb with ⟨rfl,rfl⟩|⟨b,cap,c,k,n,rfl,r2,r3,r4,r5,r6,r7,r8,r9,r10,r11,r12⟩
 . exact own [] (Fm.nil ..) rfl
 . by_cases hc:st.length+1<=cap
   . have Du:Ds et 1 8 (.sl b 0 st.length cap 1 false) y h=.ok (.sl b 0 (st.length+1) cap 1 false) ((h.put b (.cells (c.take st.length++[.int .i64 x]++c.drop (st.length+1)) et (.Gt k))).put k (.Fb (n+1))):=by
      show (match Hd h 1 y with
       |some (n,new)=>C6 (.bad 121) (C6 (.bad 121) (C6 (.bad 121) (Lg ⟨et,1,8⟩ b 0 st.length cap 1 false n new h) (Nat.beq 1 1)) (Bm new)) (Gj ((st.length+n) * (8+1)))
       |none=>.bad 123)=_
      rw [hy]
      have h3:Nat.ble (Nat.add st.length 1) cap=true:=Nat.ble_eq_true_of_le (by simpa using hc)
      simp only [show Bm [AV.int .i64 x]=true from rfl,Fi,decide_eq_true (show (st.length+1) * (8+1)<1000000000000 by omega),Nat.beq_refl]
      show (C6 _ _ (Nat.ble (Nat.add st.length 1) cap):OR)=_
      rw [h3]
      show AgN b 0 st.length cap (Nat.add st.length 1) 1 false [.int .i64 x] h=_
      unfold AgN
      rw [As0,r2,AuX,r3,Sn,Kh]
      simp only [Nat.zero_add,Nat.mul_one,List.length_cons,List.length_nil]
      rw [if_pos om,Asz]
     refine ⟨_,_,Du,.inr ⟨b,cap,c.take st.length++[.int .i64 x]++c.drop (st.length+1),k,n+1,by simp,?_,A2 ..,?_,by simpa using hc,r6,?_,r8,r9,r10,r11,r12⟩,Nat.le_refl _,λd hd=>?_,λz hz=>?_,λh0 a1 a2=>(a2.put b _ (Nat.le_trans a1 r8)).put k _ (Nat.le_trans a1 r9)⟩
     . rw [Aq _ _ _ r12,A2]
     . simp [List.length_take,List.length_drop];omega
     . rw [List.length_append,List.length_singleton,ints,List.map_append,<- ints,<- r7,List.take_append_of_le_length (by simp [List.length_take];omega),List.take_of_length_le (by simp [List.length_take];omega)]
       rfl
     . rw [Aq _ _ _ om,Aq _ _ _ om]
     . rcases List.mem_cons.1 hz with rfl|hz
       . exact .inr r9
       . rcases List.mem_cons.1 hz with rfl|hz
         . exact .inr r8
         . exact .inl hz
   . have Ox:st.length=cap:=by omega
     subst Ox
     exact own c (.inr (.inr ⟨b,k,n,rfl,r2,r3,r8,r9,r10,r11,r12,by omega⟩)) (by rw [<- r7,List.take_of_length_le om])
theorem Aa4.cut {P:Program} {t e:TypeId} {bytes m:Nat} (hx:Hp P t=.sl ⟨e,1,bytes⟩) (hb:Aa4 lo et h sv st) (hm:m<=st.length):∃v,(∀hh:H,xSl P t sv none (some (.int .i64 (m:Int))) hh=.ok v hh)/\Aa4 lo et h v (st.take m):=by
 rcases hb with ⟨rfl,rfl⟩|⟨b,cap,c,k,n,rfl,r2,r3,r4,r5,r6,r7,r8⟩
 . obtain rfl:m=0:=by simpa using hm
   exact ⟨.Bv,λhh=>Ads hx,.inl ⟨rfl,rfl⟩⟩
 . refine ⟨.sl b 0 m cap 1 false,λhh=>?_,.inr ⟨b,cap,c,k,n,by rw [List.length_take,Nat.min_eq_left hm],r2,r3,r4,by rw [List.length_take];omega,r6,?_,r8⟩⟩
   . rw [Aau hx,Nn om om,if_pos r6]
     simp
   . rw [List.length_take,Nat.min_eq_left hm,ints,List.map_take,<- ints,<- r7,List.take_take,Nat.min_eq_left hm]
theorem Aa4.tail {P:Program} {t e:TypeId} {bytes m:Nat} (hx:Hp P t=.sl ⟨e,1,bytes⟩) (hb:Aa4 lo et h sv st) (hm:m<=st.length):∃v,(∀hh:H,xSl P t sv (some (.int .i64 (m:Int))) none hh=.ok v hh)/\(∀hh,Fo v hh=.ok (.int .i64 ((st.drop m).length:Int)) hh)/\(st.drop m≠[]->R0 1 (λn:Int=>[AV.int .i64 n]) h v (st.drop m)):=by
 have e:∀l:List Int,l.flatMap (λn:Int=>[AV.int .i64 n])=ints l:=by
  intro l
  induction l with
  |nil=>rfl
  |cons a l ih=>rw [List.flatMap_cons,ih];rfl
 rcases hb with ⟨rfl,rfl⟩|⟨b,cap,c,k,n,rfl,r2,r3,r4,r5,r6,r7,r8,r9,r10,r11,r12⟩
 . obtain rfl:m=0:=by simpa using hm
   exact ⟨.Bv,λhh=>AkN hx,λhh=>rfl,λhh=>absurd rfl hh⟩
 . by_cases hc:m<cap
   . refine ⟨.sl b (0+m * 1) (st.length - m) (cap - m) 1 false,λhh=>?_,λhh=>by rw [List.length_drop];rfl,λHr=>?_⟩
     . rw [Aav hx,Nn hm r5,if_pos hc]
     . show Sl 1 h _ (st.drop m).length _
       rw [e,List.length_drop]
       refine .inr ⟨b,0+m * 1,cap - m,false,c,rfl,by omega,⟨r10,et,.Gt k,r2,trivial⟩,by omega,?_⟩
       rw [Nat.zero_add,Nat.mul_one,Nat.mul_one,ints,List.map_drop,<- ints,<- r7,List.drop_take]
   . have hml:m=st.length:=by omega
     subst hml
     refine ⟨.sl b (0+1) 0 0 0 false,λhh=>?_,λhh=>by simp,λHr=>absurd (by simp) Hr⟩
     rw [Aav hx,Nn hm r5,if_neg hc,if_neg (by decide),if_neg om]
theorem Aa4.set {i:Nat} {z:Int} (hb:Aa4 lo et h sv st) (hi:i<st.length):∃b h',(∀hh,Gc 1 sv (.int .i64 (i:Int)) hh=.ok (.ptr b i) hh)/\A4 1 (.ptr b i) (.int .i64 z) h=.ok (.Bj []) h'/\Aa4 lo et h' sv (st.set i z)/\h'.nx=h.nx/\(∀c,c<lo->h'.m.get c=h.m.get c)/\∀h0,h0.nx<=lo->Ai h0 h->Ai h0 h':=by
 rcases hb with ⟨rfl,rfl⟩|⟨b,cap,c,k,n,rfl,r2,r3,r4,r5,r6,r7,r8,r9,r10,r11,r12⟩
 . cases hi
 . have Du:A4 1 (.ptr b i) (.int .i64 z) h=.ok (.Bj []) ((h.put b (.cells (c.take i++[.int .i64 z]++c.drop (i+1)) et (.Gt k))).put k (.Fb (n+1))):=by
    have h1:i+1<=c.length:=by omega
    simp [r2,r3,Kh,h1]
   refine ⟨b,_,λhh=>?_,Du,.inr ⟨b,cap,c.take i++[.int .i64 z]++c.drop (i+1),k,n+1,by rw [List.length_set],?_,A2 ..,?_,by rw [List.length_set];exact r5,r6,?_,r8,r9,r10,r11,r12⟩,rfl,λd hd=>?_,λh0 a1 a2=>(a2.put b _ (Nat.le_trans a1 r8)).put k _ (Nat.le_trans a1 r9)⟩
   . rw [Agr 1 b 0 st.length cap 1 false i hi]
     simp
   . rw [Aq _ _ _ r12,A2]
   . simp [List.length_take,List.length_drop];omega
   . have h1:c.take i++[AV.int .i64 z]++c.drop (i+1)=c.set i (.int .i64 z):=by
      rw [List.set_eq_take_append_cons_drop,if_pos om]
      simp
     rw [h1,List.length_set,ints,List.map_set,<- ints,<- r7,List.take_set]
   . rw [Aq _ _ _ om,Aq _ _ _ om]
end Go.Proofs
namespace Go.Proofs
open Go Go.Ev Go.Nm Tryz Go.Ev.Sx
attribute [local irreducible] Aa Al Af Ad
variable (ctx:Ac) (N:Nat)
abbrev IsS (h:H) (v:AV) (l:List Int):Prop:=R0 1 (λn:Int=>[AV.int .i64 n]) h v l
structure IsL (h:H) (v:AV) (l:List Int):Prop where
 len:∀hh,Fo v hh=.ok (.int .i64 (l.length:Int)) hh
 el:l≠[]->IsS h v l
theorem IsL.of {h:H} {v:AV} {l:List Int} (hs:IsS h v l):IsL h v l:=⟨λ_=>hs.Gs,λ_=>hs⟩
theorem IsL.nil (h:H):IsL h .Bv []:=⟨λ_=>rfl,λhh=>absurd rfl hh⟩
theorem AzM (v w:AV) (l:List Int) (h:H) (hv:l≠[]->IsS h v l) (hw:l≠[]->IsS h w l) (hl:l.length<=500):
 ∀(k:Nat) (i:Int) (n:Nat) (hd:H) (f0:L2),i+(k:Int)=(l.length:Int)->0<=i->k<n->Ai h hd->Ah h (λr _=>r=.bool true) (ArD ctx N n v w (.int .i64 (l.length:Int)) (.int .i64 i) f0 hd)
 |0,i,n,hd,f0,Qd,H4,Zo,hg=>by
  obtain ⟨n1,rfl⟩:∃n1,n=n1+1:=⟨n - 1,by omega⟩
  have k1:decide (i<(l.length:Int))=false:=df
  rw [AxY]
  refine wk ?_
  exact zr hg rfl
 |k+1,i,n,hd,f0,Qd,H4,Zo,hg=>by
  obtain ⟨n1,rfl⟩:∃n1,n=n1+1:=⟨n - 1,by omega⟩
  have ih:=AzM v w l h hv hw hl k (i+1) n1
  have k1:decide (i<(l.length:Int))=true:=dt
  have X4:((i.toNat:Nat):Int)=i:=Int.toNat_of_nonneg H4
  obtain ⟨y,hy⟩:∃x,l[i.toNat]?=some x:=⟨_,List.getElem?_eq_getElem om⟩
  have Hr:l≠[]:=by rintro rfl;cases hy
  obtain ⟨b1,o1,el⟩:=R0.elem (f:=λn:Int=>[AV.int .i64 n]) (s:=1) (λ_=>rfl) (Sl.By (hv Hr) hg.keeps) hy
  obtain ⟨b2,o2,el2⟩:=R0.elem (f:=λn:Int=>[AV.int .i64 n]) (s:=1) (λ_=>rfl) (Sl.By (hw Hr) hg.keeps) hy
  have x1:=el.ia
  have y1:=el2.ia
  rw [X4] at x1 y1
  have x2:=el.part 0 _ rfl
  have y2:=el2.part 0 _ rfl
  rw [Nat.add_zero] at x2 y2
  clear el el2 X4 hv hw Hr
  rw [AxY]
  refine wd ?_
  exact ih _ _ om om om Ex
def A7H:Prop:=∀(v w:AV) (l:List Int) (h:H),IsL h v l->IsL h w l->l.length<=500->Ah h (λr _=>r=.bool true) (ctx.call 144 [v,w] h)
theorem Blh (hN:1000<N) (v w:AV) (l:List Int) (h:H) (hv:IsL h v l) (hw:IsL h w l) (hl:l.length<=500):Ah h (λr _=>r=.bool true) (Ay prog ctx N false 144 [v,w] h):=by
 rw [Bjs]
 have x1:=hv.len
 have x2:=hw.len
 have Kf:=AzM ctx N v w l h hv.el hw.el hl l.length 0 N h
 replace Kf:=(show F5 _ from Kf)
 clear hv hw
 refine wk ?_
 exact (show ∀(f0:L2),_ from Kf) _ om om om (Ai.refl _)
structure AhD (lo bs:Nat) (h:H) (st:List Int):Prop where
 lt:bs<lo
 nx:lo<=h.nx
 at':∃sv,h.m.get bs=.cells [sv] 215 .exact/\Aa4 lo 208 h sv st
theorem AhD.gr {lo bs:Nat} {h h1:H} {st:List Int} (hb:AhD lo bs h st) (e:Ai h h1):AhD lo bs h1 st:=by
 obtain ⟨sv,q1,q2⟩:=hb.at'
 exact ⟨hb.lt,Nat.le_trans hb.nx e.lo,sv,(e.Cf bs (Nat.lt_of_lt_of_le hb.lt hb.nx)).trans q1,q2.gr e⟩
def A7y:Prop:=∀(lo bs:Nat) (h hB:H) (st:List Int) (x:Int),AhD lo bs h st->Ai hB h->hB.nx<=bs->st.length<=900->Ah hB (λ_ h1=>h.nx<=h1.nx/\AhD lo bs h1 (st++[x])) (ctx.call 143 [.ptr bs 0,.int .i64 x] h)
theorem AsN {lo:Nat} {et:TypeId} {h:H} {sv:AV} {st:List Int} (hs:Aa4 lo et h sv st):Ge sv=true/\cellsOf sv=some [sv]:=B2 hs.sl
theorem Blg (lo bs:Nat) (h hB:H) (st:List Int) (x:Int) (hb:AhD lo bs h st) (e:Ai hB h) (hB0:hB.nx<=bs) (hl:st.length<=900):Ah hB (λ_ h1=>h.nx<=h1.nx/\AhD lo bs h1 (st++[x])) (Ay prog ctx N false 143 [.ptr bs 0,.int .i64 x] h):=by
 rw [Bjr]
 obtain ⟨sv,q1,q2⟩:=hb.at'
 have h1:=hb.lt
 have h2:=hb.nx
 have g1:Ai h (h.new (.cells [.int .i64 x] 208 .exact)):=(Ai.refl h).new _
 have hy:Hd (h.new (.cells [.int .i64 x] 208 .exact)) 1 (.sl h.nx 0 1 1 1 true)=some (1,[.int .i64 x]):=(Sl.lit (h:=h) (len:=1) (s:=1) (cs:=[.int .i64 x]) (Bf _) rfl rfl).src
 obtain ⟨v,h3,p1,p2,p3,p4,p5,p6⟩:=(q2.gr g1).push hy (by show lo<=h.nx+1;omega) om
 obtain ⟨w1,w2⟩:=AsN p2
 have g3:h3.m.get bs=.cells [sv] 215 .exact:=by rw [p4 bs h1,g1.Cf bs om];exact q1
 have e3:=p6 hB om (e.trans g1)
 have l3:h.nx<=h3.nx:=Nat.le_trans (Nat.le_succ _) p3
 clear hb
 clear p4 p5 p6 hy
 refine wk ?_
 exact zr (e3.put bs _ hB0) ⟨l3,h1,Nat.le_trans h2 l3,v,A2 ..,p2.put bs _ h1⟩
def A7x:Prop:=∀(lo bs:Nat) (h hB:H) (st ts:List Int) (w:AV),AhD lo bs h (st++ts)->IsL h w ts->Ai hB h->hB.nx<=bs->(st++ts).length<=400->Ah hB (λr h1=>r=.bool true/\h.nx<=h1.nx/\AhD lo bs h1 st/\∀c,c<h.nx->c≠bs->h1.m.get c=h.m.get c) (ctx.call 142 [.ptr bs 0,w] h)
theorem Blf (A0t:A7H ctx) (lo bs:Nat) (h hB:H) (st ts:List Int) (w:AV) (hb:AhD lo bs h (st++ts)) (hw:IsL h w ts) (e:Ai hB h) (hB0:hB.nx<=bs) (hl:(st++ts).length<=400):Ah hB (λr h1=>r=.bool true/\h.nx<=h1.nx/\AhD lo bs h1 st/\∀c,c<h.nx->c≠bs->h1.m.get c=h.m.get c) (Ay prog ctx N false 142 [.ptr bs 0,w] h):=by
 rw [Bjq]
 obtain ⟨sv,q1,q2⟩:=hb.at'
 have h1:=hb.lt
 have h2:=hb.nx
 rw [List.length_append] at hl
 obtain ⟨v1,a1,a2,a3⟩:=q2.tail (P:=prog) (t:=207) (e:=208) (bytes:=8) (m:=st.length) (by kernel_rfl) (by simp)
 obtain ⟨v2,b1,b2⟩:=q2.cut (P:=prog) (t:=207) (e:=208) (bytes:=8) (m:=st.length) (by kernel_rfl) (by simp)
 rw [List.drop_left] at a2 a3
 rw [List.take_left] at b2
 have x1:∀hh,Fo sv hh=.ok (.int .i64 ((st.length:Int)+(ts.length:Int))) hh:=λhh=>by
  have:=q2.sl.Gs (h1:=hh)
  rw [List.length_append] at this
  exact this
 have x2:=hw.len
 have k1:decide ((st.length:Int)+(ts.length:Int) - (ts.length:Int)<0)=false:=df
 have k2:(st.length:Int)+(ts.length:Int) - (ts.length:Int)=(st.length:Int):=by omega
 have k3:decide ((st.length:Int)<0)=false:=df
 have h3:=A0t v1 w ts h ⟨a2,a3⟩ hw om
 obtain ⟨w1,w2⟩:=AsN b2
 replace h3:=(show F5 _ from h3)
 clear hb hw a2 a3
 refine wk ?_
 refine Fj (show Ah h _ (ctx.call 144 [v1,w] h) from h3) λv h5 e5 l5 Az4 q5=>?_
 subst q5
 have g5:=(Az4 bs om).trans q1
 have b5:=b2.gr e5
 have e6:=e.trans e5
 clear q2 b2
 refine wk ?_
 exact zr (e6.put bs _ hB0) ⟨rfl,l5,⟨h1,Nat.le_trans h2 l5,v2,A2 ..,b5.put bs _ h1⟩,λc hc hn=>(Aq _ _ _ hn).trans (Az4 c hc)⟩
structure CsE (h:H) (cv:AV) (A1:List Cl):Prop where
 r:CsR h cv A1
 w:∀c∈A1,Ig h c.w c.ws/\c.ws.length<=5
 same:∀c∈A1,∀d∈A1,c.name=d.name->c.ws=d.ws
theorem CsE.By {h h1:H} {cv:AV} {A1:List Cl} (hc:CsE h cv A1) (e:Bi h h1):CsE h1 cv A1:=⟨hc.r.By e,λc hh=>⟨Sl.By (hc.w c hh).1 e,(hc.w c hh).2⟩,hc.same⟩
theorem Af8 {h:H} {v:AV} {l:List Nd} (hv:Ue h v l) {i:Int} {x:Nd} (h0:0<=i) (hx:l[i.toNat]?=some x):∃b o,(∀hh,Gc 3 v (.int .i64 i) hh=.ok (.ptr b o) hh)/\(∀hh,Bi h hh->Ae (some (some 3)) (.ptr b o) hh=.ok (.agg (Bw x)) hh)/\(∀hh,Bi h hh->Ae (some none) (.ptr b o) hh=.ok (.int .i64 x.op) hh)/\∀hh,Bi h hh->Ae (some none) (.ptr b (o+2)) hh=.ok (.str x.Zn) hh:=by
 obtain ⟨b,o,el⟩:=R0.elem (f:=Bw) (s:=3) (λ_=>rfl) hv hx
 have x1:=el.ia
 rw [Int.toNat_of_nonneg h0] at x1
 have x2:=el.part 0 _ rfl
 rw [Nat.add_zero] at x2
 exact ⟨b,o,x1,el.all,x2,el.part 2 _ rfl⟩
def Be6:Prop:=∀(v cv:AV) (l:List Nd) (A1:List Cl) (i:Int) (x y z:Nd) (h:H),Ue h v l->CsE h cv A1->l.length<=200->1<=i->l[(i - 1).toNat]?=some x->l[i.toNat]?=some y->l[(i+1).toNat]?=some z->x.op=2->(z.op=9\/z.op=10)->(∃c∈A1,c.name=x.Zn/\y.Zn∈c.ws)->Ah h ok0 (ctx.call 194 [v,.int .i64 i,cv] h)
set_option maxHeartbeats 1000000 in
theorem Blo (h87:R87 ctx) (BjT:Be2 ctx) (v cv:AV) (l:List Nd) (A1:List Cl) (i:Int) (x y z:Nd) (h:H) (hv:Ue h v l) (hc:CsE h cv A1) (hl:l.length<=200) (hi:1<=i) (hx:l[(i - 1).toNat]?=some x) (hy:l[i.toNat]?=some y) (hz:l[(i+1).toNat]?=some z) (hx2:x.op=2) (hz9:z.op=9\/z.op=10) (hw:∃c∈A1,c.name=x.Zn/\y.Zn∈c.ws):Ah h ok0 (Ay prog ctx N false 194 [v,.int .i64 i,cv] h):=by
 rw [Bcr]
 obtain ⟨b1,o1,x1,_,x2,x3⟩:=Af8 hv om hx
 obtain ⟨b2,o2,y1,_,_,y3⟩:=Af8 hv om hy
 obtain ⟨b3,o3,z1,_,z2,_⟩:=Af8 hv om hz
 have hi2:=(List.getElem?_eq_some_iff.1 hz).1
 have hlen:∀hh,Fo v hh=.ok (.int .i64 (l.length:Int)) hh:=λ_=>hv.Gs
 have k1:decide (i=0)=false:=df
 have k2:decide ((l.length:Int)<=i+1)=false:=df
 obtain ⟨c0,hc0,BcF,BfY⟩:=hw
 have AiT:=λhx e=>h87 cv A1 x.Zn hx (hc.r.By e) ⟨c0,hc0,BcF⟩
 have Ajt:∀c∈A1,c.name=x.Zn->y.Zn∈c.ws/\c.ws.length<=5/\∀hx,Bi h hx->Ig hx c.w c.ws:=λc Hq hcn=>⟨hc.same c0 hc0 c Hq (BcF.trans hcn.symm) ▸ BfY,(hc.w c Hq).2,λhx e=>Sl.By (hc.w c Hq).1 e⟩
 replace AiT:=(show F5 _ from AiT)
 replace Ajt:=(show F5 _ from Ajt)
 rw [hx2] at x2
 clear hv hc hx hy hz BfY hc0 BcF h87 hx2
 have go:∀k:Int,(k=9\/k=10)->z.op=k->Ah h ok0 (Ay prog ctx N false 194 [v,.int .i64 i,cv] h):=by
  intro k hk hzk
  rw [Bcr]
  rw [hzk] at z2
  have k3:decide (k=9)=decide (k=9):=rfl
  clear hz9 hzk
  have tail:∀hd,Ai h hd->True:=λ_ _=>trivial
  rcases hk with rfl|rfl
  all_goals
   refine wk ?_
   refine Fj ((show ∀(hx:H) (e:Bi h hx),_ from AiT) _ (Bi.refl _)) λv1 h1 e1 l1 Aad q1=>?_
   obtain ⟨c,Hq,hcn,rfl⟩:=q1
   obtain ⟨hcw,hc5,X3⟩:=(show ∀c∈A1,c.name=x.Zn->y.Zn∈c.ws/\c.ws.length<=5/\∀hx,Bi h hx->Ig hx c.w c.ws from Ajt) c Hq hcn
   obtain ⟨w1,w2⟩:=B2 (X3 h (Bi.refl _))
   have hwl:∀hh,Fo c.w hh=.ok (.int .i64 (c.ws.length:Int)) hh:=λ_=>(X3 h (Bi.refl _)).Gs
   have Hr:c.ws≠[]:=λhh=>by rw [hh] at hcw;cases hcw
   have k4:decide (c.ws=[])=false:=decide_eq_false Hr
   replace X3:=(show F5 _ from X3)
   replace hcw:=(show F5 _ from hcw)
   clear hcn AiT Ajt
   refine wd ?_
   refine Fj (BjT y.Zn c.w c.ws _ ((show ∀hx,Bi h hx->Ig hx c.w c.ws from X3) _ M0) om) λv2 h2 e2 l2 Aae q2=>?_
   rw [decide_eq_true (show y.Zn∈c.ws from hcw)] at q2
   subst q2
   have eq2:=Ai.quiet e2
   simp only [C9] at l2 Aae eq2
   refine wd ?_
   exact zr Ex rfl
 have:=go z.op hz9 rfl
 rw [Bcr] at this
 exact this
end Go.Proofs

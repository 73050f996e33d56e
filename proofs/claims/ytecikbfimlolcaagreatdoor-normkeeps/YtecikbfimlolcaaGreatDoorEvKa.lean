/- Valid schemas are accepted: names, words, columns. -/
import Derived.Test.YtecikbfimlolcaaGreatDoorEvTg
set_option linter.all false
set_option maxRecDepth 100000
noncomputable section
namespace Go.Proofs
open Go Go.Ev Go.Nm Tryz Go.Ev.Sx
attribute [local irreducible] Aa Al Af Ad
variable (ctx:Ac) (N:Nat)
def Abs {α:Type} (p:α->Bool):List α->Int->Int
 |[],_=>-1
 |x::l,i=>if p x=true then i else Abs p l (i+1)
theorem Amt {α:Type} {l:List α} {i:Int} {x:α} (h0:0<=i) (h:l[i.toNat]?=some x):l.drop i.toNat=x::l.drop (i+1).toNat:=by
 rw [show (i+1).toNat=i.toNat+1 by omega]
 obtain ⟨h1,h2⟩:=List.getElem?_eq_some_iff.1 h
 rw [List.drop_eq_getElem_cons h1,h2]
theorem AjH {α:Type} {p:α->Bool}:∀{l:List α} {i:Int},(∀x∈l,p x=false)->Abs p l i=-1
 |[],i,h=>rfl
 |x::l,i,h=>by
  unfold Abs
  rw [if_neg (by rw [h x (List.mem_cons_self ..)];decide)]
  exact AjH λy hy=>h y (List.mem_cons_of_mem _ hy)
theorem Agx {α:Type} {p:α->Bool}:∀{l:List α} {i:Int},(∃x∈l,p x=true)->∃(m:Nat) (x:α),Abs p l i=i+m/\l[m]?=some x/\p x=true
 |[],i,h=>by
  obtain ⟨x,hx,_⟩:=h
  cases hx
 |y::l,i,h=>by
  unfold Abs
  by_cases hy:p y=true
  . rw [if_pos hy]
    exact ⟨0,y,by omega,rfl,hy⟩
  . rw [if_neg hy]
    obtain ⟨x,hx,hp⟩:=h
    rcases List.mem_cons.1 hx with rfl|hx
    . exact absurd hp hy
    . obtain ⟨m,z,h1,h2,h3⟩:=Agx (l:=l) (i:=i+1) ⟨x,hx,hp⟩
      exact ⟨m+1,z,by omega,h2,h3⟩
def Bbq:Prop:=∀(s:Sc) (nm:List Nat) (b:Nat) (h:H),Ge s.cv=true->cellsOf s.cv=some [s.cv]->h.m.get b=.cells [.str nm] 9 .exact->b<h.nx->Ah h (λr _=>r=.bool (decide (s.name=nm))) (ctx.call 137 [.agg (Ze s),.ptr b 0] h)
theorem Bla (s:Sc) (nm:List Nat) (b:Nat) (h:H) (h1:Ge s.cv=true) (h2:cellsOf s.cv=some [s.cv]) (hg:h.m.get b=.cells [.str nm] 9 .exact) (hb:b<h.nx):Ah h (λr _=>r=.bool (decide (s.name=nm))) (Ay prog ctx N true 137 [.agg (Ze s),.ptr b 0] h):=by
 rw [Bjl]
 have Wg:b≠h.nx:=by omega
 refine wk ?_
 exact zr Ex rfl
def Bbr:Prop:=∀(c:Cl) (nm:List Nat) (b:Nat) (h:H),Ge c.w=true->cellsOf c.w=some [c.w]->h.m.get b=.cells [.str nm] 9 .exact->b<h.nx->Ah h (λr _=>r=.bool (decide (c.name=nm))) (ctx.call 193 [.agg (Hx c),.ptr b 0] h)
theorem Bln (c:Cl) (nm:List Nat) (b:Nat) (h:H) (h1:Ge c.w=true) (h2:cellsOf c.w=some [c.w]) (hg:h.m.get b=.cells [.str nm] 9 .exact) (hb:b<h.nx):Ah h (λr _=>r=.bool (decide (c.name=nm))) (Ay prog ctx N true 193 [.agg (Hx c),.ptr b 0] h):=by
 rw [Bjx]
 have Wg:b≠h.nx:=by omega
 refine wk ?_
 exact zr Ex rfl
theorem AeY {P:Program} {ctx:Ac} {h:H} (g:FuncId) (a c args:List AV):cvV (.fn (.func g) a c) args P ctx h=if Bg P g=true then ctx.call g ((a++args)++c) h else AgK (Uk P g) ((a++args)++c) h:=by
 show (Bool.rec (motive:=λ_=>OR) (AgK (Uk P g) (J0 (J0 a args) c) h) (ctx.call g (J0 (J0 a args) c) h) (Bg P g):OR)=_
 rw [Dl,Dl]
 cases Bg P g<;>rfl
theorem A5S {h:H} {k k':IntKind} (a b:Int):mm true [.int k a,.int k' b] h=.ok (.int k (if b<a then b else a)) h:=by
 show (.ok (.int k (Bool.rec (motive:=λ_=>Int) a b (ilt b a))) h:OR)=_
 rw [Il]
 by_cases hb:b<a
 . rw [if_pos hb,decide_eq_true hb]
 . rw [if_neg hb,decide_eq_false hb]
theorem AoA {h:H} {k k':IntKind} (a b:Int):mm false [.int k a,.int k' b] h=.ok (.int k (if a<b then b else a)) h:=by
 show (.ok (.int k (Bool.rec (motive:=λ_=>Int) a b (ilt a b))) h:OR)=_
 rw [Il]
 by_cases hb:a<b
 . rw [if_pos hb,decide_eq_true hb]
 . rw [if_neg hb,decide_eq_false hb]
theorem BfA (x w:AV) (h:H):cvV (.fn (.func 137) [] [w]) [x] prog ctx h=ctx.call 137 [x,w] h:=by
 rw [AeY,if_pos (by kernel_rfl)]
 rfl
theorem BfB (x w:AV) (h:H):cvV (.fn (.func 193) [] [w]) [x] prog ctx h=ctx.call 193 [x,w] h:=by
 rw [AeY,if_pos (by kernel_rfl)]
 rfl
theorem AzK (A88:Bbq ctx) (nm:List Nat) (b:Nat) (v:AV) (l:List Sc) (h:H) (hs:R0 4 Ze h v l) (ho:∀s∈l,Ge s.cv=true/\cellsOf s.cv=some [s.cv]) (hg0:h.m.get b=.cells [.str nm] 9 .exact) (hb:b<h.nx) (hl:l.length<=1000000000):
 ∀(k:Nat) (i:Int) (n:Nat) (hd:H) (f0:L2),i+(k:Int)=(l.length:Int)->0<=i->k<n->Ai h hd->Ah h (λr _=>r=.int .i64 (Abs (λs:Sc=>decide (s.name=nm)) (l.drop i.toNat) i)) (ArC ctx N n v (.fn (.func 137) [] [.ptr b 0]) (.int .i64 (l.length:Int)) (.int .i64 i) f0 hd)
 |0,i,n,hd,f0,Qd,H4,hn,hg=>by
  obtain ⟨n1,rfl⟩:∃n1,n=n1+1:=⟨n - 1,by omega⟩
  have k1:decide (i<(l.length:Int))=false:=df
  rw [AxX]
  refine wk ?_
  exact zr hg (by rw [List.drop_of_length_le om];rfl)
 |k+1,i,n,hd,f0,Qd,H4,hn,hg=>by
  obtain ⟨n1,rfl⟩:∃n1,n=n1+1:=⟨n - 1,by omega⟩
  have ih:=AzK A88 nm b v l h hs ho hg0 hb hl k (i+1) n1
  have k1:decide (i<(l.length:Int))=true:=dt
  have X4:((i.toNat:Nat):Int)=i:=Int.toNat_of_nonneg H4
  obtain ⟨x,hx⟩:∃x,l[i.toNat]?=some x:=⟨_,List.getElem?_eq_getElem om⟩
  obtain ⟨b1,o1,el⟩:=R0.elem (f:=Ze) (s:=4) (λ_=>rfl) (Sl.By hs hg.keeps) hx
  have hxm:=List.mem_of_getElem? hx
  have hdr:=Amt H4 hx
  have x1:=el.ia
  rw [X4] at x1
  have x2:=el.all
  have hg1:=(hg.Cf b hb).trans hg0
  have Qy:=Nat.lt_of_lt_of_le hb hg.lo
  obtain ⟨w1,w2⟩:=ho x hxm
  clear el X4 hx hs
  rw [AxX,hdr,Abs]
  simp only [mM,mL,mC,BfA]
  (repeat' (first|refine wk ?_|(refine Pd (A88 x nm b _ w1 w2 hg1 Qy) ?_;intro vv hh ee E8 Bu qq;subst qq)|(refine zqq ?_ ?_<;>intro hc<;>(try (exfalso;omega)))|fail))
  . refine zr Ex ?_
    rw [if_pos (by simp [*])]
  . rw [if_neg (by simp [*])]
    exact ih _ _ om om om Ex
def Bev:Prop:=∀(nm:List Nat) (b:Nat) (v:AV) (l:List Sc) (h:H),R0 4 Ze h v l->(∀s∈l,Ge s.cv=true/\cellsOf s.cv=some [s.cv])->h.m.get b=.cells [.str nm] 9 .exact->b<h.nx->l.length<=50->Ah h (λr _=>r=.int .i64 (Abs (λs:Sc=>decide (s.name=nm)) l 0)) (ctx.call 136 [v,.fn (.func 137) [] [.ptr b 0]] h)
theorem BkZ (hN:100<N) (A88:Bbq ctx) (nm:List Nat) (b:Nat) (v:AV) (l:List Sc) (h:H) (hs:R0 4 Ze h v l) (ho:∀s∈l,Ge s.cv=true/\cellsOf s.cv=some [s.cv]) (hg:h.m.get b=.cells [.str nm] 9 .exact) (hb:b<h.nx) (hl:l.length<=50):Ah h (λr _=>r=.int .i64 (Abs (λs:Sc=>decide (s.name=nm)) l 0)) (Ay prog ctx N true 136 [v,.fn (.func 137) [] [.ptr b 0]] h):=by
 rw [Bjk]
 refine Ey (hs.Gs) ?_
 exact AzK ctx N A88 nm b v l h hs ho hg hb om l.length 0 N h _ om om om (Ai.refl h)
theorem AzR (A89:Bbr ctx) (nm:List Nat) (b:Nat) (v:AV) (l:List Cl) (h:H) (hs:R0 4 Hx h v l) (ho:∀s∈l,Ge s.w=true/\cellsOf s.w=some [s.w]) (hg0:h.m.get b=.cells [.str nm] 9 .exact) (hb:b<h.nx) (hl:l.length<=1000000000):
 ∀(k:Nat) (i:Int) (n:Nat) (hd:H) (f0:L2),i+(k:Int)=(l.length:Int)->0<=i->k<n->Ai h hd->Ah h (λr _=>r=.int .i64 (Abs (λs:Cl=>decide (s.name=nm)) (l.drop i.toNat) i)) (AmY ctx N n v (.fn (.func 193) [] [.ptr b 0]) (.int .i64 (l.length:Int)) (.int .i64 i) f0 hd)
 |0,i,n,hd,f0,Qd,H4,hn,hg=>by
  obtain ⟨n1,rfl⟩:∃n1,n=n1+1:=⟨n - 1,by omega⟩
  have k1:decide (i<(l.length:Int))=false:=df
  rw [AlG]
  refine wk ?_
  exact zr hg (by rw [List.drop_of_length_le om];rfl)
 |k+1,i,n,hd,f0,Qd,H4,hn,hg=>by
  obtain ⟨n1,rfl⟩:∃n1,n=n1+1:=⟨n - 1,by omega⟩
  have ih:=AzR A89 nm b v l h hs ho hg0 hb hl k (i+1) n1
  have k1:decide (i<(l.length:Int))=true:=dt
  have X4:((i.toNat:Nat):Int)=i:=Int.toNat_of_nonneg H4
  obtain ⟨x,hx⟩:∃x,l[i.toNat]?=some x:=⟨_,List.getElem?_eq_getElem om⟩
  obtain ⟨b1,o1,el⟩:=R0.elem (f:=Hx) (s:=4) (λ_=>rfl) (Sl.By hs hg.keeps) hx
  have hxm:=List.mem_of_getElem? hx
  have hdr:=Amt H4 hx
  have x1:=el.ia
  rw [X4] at x1
  have x2:=el.all
  have hg1:=(hg.Cf b hb).trans hg0
  have Qy:=Nat.lt_of_lt_of_le hb hg.lo
  obtain ⟨w1,w2⟩:=ho x hxm
  clear el X4 hx hs
  rw [AlG,hdr,Abs]
  simp only [mM,mL,mC,BfB]
  (repeat' (first|refine wk ?_|(refine Pd (A89 x nm b _ w1 w2 hg1 Qy) ?_;intro vv hh ee E8 Bu qq;subst qq)|(refine zqq ?_ ?_<;>intro hc<;>(try (exfalso;omega)))|fail))
  . refine zr Ex ?_
    rw [if_pos (by simp [*])]
  . rw [if_neg (by simp [*])]
    exact ih _ _ om om om Ex
def Be4:Prop:=∀(nm:List Nat) (b:Nat) (v:AV) (l:List Cl) (h:H),R0 4 Hx h v l->(∀s∈l,Ge s.w=true/\cellsOf s.w=some [s.w])->h.m.get b=.cells [.str nm] 9 .exact->b<h.nx->l.length<=50->Ah h (λr _=>r=.int .i64 (Abs (λs:Cl=>decide (s.name=nm)) l 0)) (ctx.call 192 [v,.fn (.func 193) [] [.ptr b 0]] h)
theorem Blm (hN:100<N) (A89:Bbr ctx) (nm:List Nat) (b:Nat) (v:AV) (l:List Cl) (h:H) (hs:R0 4 Hx h v l) (ho:∀s∈l,Ge s.w=true/\cellsOf s.w=some [s.w]) (hg:h.m.get b=.cells [.str nm] 9 .exact) (hb:b<h.nx) (hl:l.length<=50):Ah h (λr _=>r=.int .i64 (Abs (λs:Cl=>decide (s.name=nm)) l 0)) (Ay prog ctx N true 192 [v,.fn (.func 193) [] [.ptr b 0]] h):=by
 rw [BfH]
 refine Ey (hs.Gs) ?_
 exact AzR ctx N A89 nm b v l h hs ho hg hb om l.length 0 N h _ om om om (Ai.refl h)
theorem AzO (y:Int) (v:AV) (l:List Int) (h:H) (hs:R0 1 (λn:Int=>[AV.int .i64 n]) h v l) (hl:l.length<=1000000000):
 ∀(k:Nat) (i:Int) (n:Nat) (hd:H) (f0:L2),i+(k:Int)=(l.length:Int)->0<=i->k<n->Ai h hd->Ah h (λr _=>r=.int .i64 (Abs (λx:Int=>decide (y=x)) (l.drop i.toNat) i)) (ArK ctx N n v (.int .i64 y) (.int .i64 (l.length:Int)) (.int .i64 i) f0 hd)
 |0,i,n,hd,f0,Qd,H4,hn,hg=>by
  obtain ⟨n1,rfl⟩:∃n1,n=n1+1:=⟨n - 1,by omega⟩
  have k1:decide (i<(l.length:Int))=false:=df
  rw [Ayl]
  refine wk ?_
  exact zr hg (by rw [List.drop_of_length_le om];rfl)
 |k+1,i,n,hd,f0,Qd,H4,hn,hg=>by
  obtain ⟨n1,rfl⟩:∃n1,n=n1+1:=⟨n - 1,by omega⟩
  have ih:=AzO y v l h hs hl k (i+1) n1
  have k1:decide (i<(l.length:Int))=true:=dt
  have X4:((i.toNat:Nat):Int)=i:=Int.toNat_of_nonneg H4
  obtain ⟨x,hx⟩:∃x,l[i.toNat]?=some x:=⟨_,List.getElem?_eq_getElem om⟩
  obtain ⟨b1,o1,el⟩:=R0.elem (f:=λn:Int=>[AV.int .i64 n]) (s:=1) (λ_=>rfl) (Sl.By hs hg.keeps) hx
  have hxm:=List.mem_of_getElem? hx
  have hdr:=Amt H4 hx
  have x1:=el.ia
  rw [X4] at x1
  have x2:=el.part 0 _ rfl
  rw [Nat.add_zero] at x2
  clear el X4 hx hs
  rw [Ayl,hdr,Abs]
  repeat' (first|refine wk ?_|(refine zqq ?_ ?_<;>intro hc<;>(try (exfalso;omega)))|fail)
  . refine zr Ex ?_
    rw [if_pos (by simp [*])]
  . rw [if_neg (by simp [*])]
    exact ih _ _ om om om Ex
def Bew:Prop:=∀(y:Int) (v:AV) (l:List Int) (h:H),R0 1 (λn:Int=>[AV.int .i64 n]) h v l->l.length<=50->Ah h (λr _=>r=.bool (decide (y∈l))) (ctx.call 138 [v,.int .i64 y] h)
def Be3:Prop:=∀(y:Int) (v:AV) (l:List Int) (h:H),R0 1 (λn:Int=>[AV.int .i64 n]) h v l->l.length<=50->Ah h (λr _=>r=.int .i64 (Abs (λx:Int=>decide (y=x)) l 0)) (ctx.call 191 [v,.int .i64 y] h)
theorem Bll (hN:100<N) (y:Int) (v:AV) (l:List Int) (h:H) (hs:R0 1 (λn:Int=>[AV.int .i64 n]) h v l) (hl:l.length<=50):Ah h (λr _=>r=.int .i64 (Abs (λx:Int=>decide (y=x)) l 0)) (Ay prog ctx N true 191 [v,.int .i64 y] h):=by
 rw [Bjw]
 refine Ey (hs.Gs) ?_
 exact AzO ctx N y v l h hs om l.length 0 N h _ om om om (Ai.refl h)
theorem AuZ {α:Type} {p:α->Bool} {l:List α}:decide (0<=Abs p l 0)=decide (∃x∈l,p x=true):=by
 rw [decide_eq_decide]
 constructor
 . intro h
   apply Classical.byContradiction
   intro hn
   have:=AjH (p:=p) (l:=l) (i:=0) λx hx=>by
    cases hp:p x with
    |false=>rfl
    |true=>exact absurd ⟨x,hx,hp⟩ hn
   omega
 . intro h
   obtain ⟨m,x,h1,_⟩:=Agx (i:=0) h
   omega
theorem Blb (BjU:Be3 ctx) (y:Int) (v:AV) (l:List Int) (h:H) (hs:R0 1 (λn:Int=>[AV.int .i64 n]) h v l) (hl:l.length<=50):Ah h (λr _=>r=.bool (decide (y∈l))) (Ay prog ctx N true 138 [v,.int .i64 y] h):=by
 rw [Bjm]
 (repeat' (first|refine wk ?_|(refine Pd (BjU y v l _ hs hl) ?_;intro vv hh ee E8 Bu qq;subst qq)|fail))
 refine zr Ex ?_
 rw [AuZ]
 congr 1
 rw [decide_eq_decide]
 simp
theorem AzY (y:List Nat) (v:AV) (l:List (List Nat)) (h:H) (hs:Ig h v l) (hl:l.length<=1000000000):
 ∀(k:Nat) (i:Int) (n:Nat) (hd:H) (f0:L2),i+(k:Int)=(l.length:Int)->0<=i->k<n->Ai h hd->Ah h (λr _=>r=.int .i64 (Abs (λx:List Nat=>decide (y=x)) (l.drop i.toNat) i)) (Asv ctx N n v (.str y) (.int .i64 (l.length:Int)) (.int .i64 i) f0 hd)
 |0,i,n,hd,f0,Qd,H4,hn,hg=>by
  obtain ⟨n1,rfl⟩:∃n1,n=n1+1:=⟨n - 1,by omega⟩
  have k1:decide (i<(l.length:Int))=false:=df
  rw [Ays]
  refine wk ?_
  exact zr hg (by rw [List.drop_of_length_le om];rfl)
 |k+1,i,n,hd,f0,Qd,H4,hn,hg=>by
  obtain ⟨n1,rfl⟩:∃n1,n=n1+1:=⟨n - 1,by omega⟩
  have ih:=AzY y v l h hs hl k (i+1) n1
  have k1:decide (i<(l.length:Int))=true:=dt
  have X4:((i.toNat:Nat):Int)=i:=Int.toNat_of_nonneg H4
  obtain ⟨x,hx⟩:∃x,l[i.toNat]?=some x:=⟨_,List.getElem?_eq_getElem om⟩
  obtain ⟨b1,o1,el⟩:=R0.elem (f:=Aeb) (s:=1) (λ_=>rfl) (Sl.By hs hg.keeps) hx
  have hxm:=List.mem_of_getElem? hx
  have hdr:=Amt H4 hx
  have x1:=el.ia
  rw [X4] at x1
  have x2:=el.part 0 _ rfl
  rw [Nat.add_zero] at x2
  clear el X4 hx hs
  rw [Ays,hdr,Abs]
  repeat' (first|refine wk ?_|(refine zqq ?_ ?_<;>intro hc<;>(try (exfalso;omega)))|fail)
  . refine zr Ex ?_
    rw [if_pos (by simp [*])]
  . rw [if_neg (by simp [*])]
    exact ih _ _ om om om Ex
def Be2:Prop:=∀(y:List Nat) (v:AV) (l:List (List Nat)) (h:H),Ig h v l->l.length<=50->Ah h (λr _=>r=.bool (decide (y∈l))) (ctx.call 185 [v,.str y] h)
def BeF:Prop:=∀(y:List Nat) (v:AV) (l:List (List Nat)) (h:H),Ig h v l->l.length<=50->Ah h (λr _=>r=.int .i64 (Abs (λx:List Nat=>decide (y=x)) l 0)) (ctx.call 235 [v,.str y] h)
theorem Bly (hN:100<N) (y:List Nat) (v:AV) (l:List (List Nat)) (h:H) (hs:Ig h v l) (hl:l.length<=50):Ah h (λr _=>r=.int .i64 (Abs (λx:List Nat=>decide (y=x)) l 0)) (Ay prog ctx N true 235 [v,.str y] h):=by
 rw [Bj7]
 refine Ey (hs.Gs) ?_
 exact AzY ctx N y v l h hs om l.length 0 N h _ om om om (Ai.refl h)
theorem Blk (BjV:BeF ctx) (y:List Nat) (v:AV) (l:List (List Nat)) (h:H) (hs:Ig h v l) (hl:l.length<=50):Ah h (λr _=>r=.bool (decide (y∈l))) (Ay prog ctx N true 185 [v,.str y] h):=by
 rw [Bjv]
 (repeat' (first|refine wk ?_|(refine Pd (BjV y v l _ hs hl) ?_;intro vv hh ee E8 Bu qq;subst qq)|fail))
 refine zr Ex ?_
 rw [AuZ]
 congr 1
 rw [decide_eq_decide]
 simp
def Bbp:Prop:=∀(i:Int) (h:H),Ah h (λr _=>r=.Bj [.int .i64 (if i<0 then 0 else i),.bool (decide (0<=i))]) (ctx.call 135 [.int .i64 i] h)
theorem BkY (i:Int) (h:H):Ah h (λr _=>r=.Bj [.int .i64 (if i<0 then 0 else i),.bool (decide (0<=i))]) (Ay prog ctx N true 135 [.int .i64 i] h):=by
 rw [Bjj]
 (have zz0:=@AoA;refine wk ?_)
 refine zr Ex ?_
 rfl
theorem Awa {h:H} (e:TypeId) (s:List Nat):Oy e (.str s) h=.ok (.ptr h.nx 0) (h.new (.cells [.str s] e .exact)):=rfl
theorem A6q {h:H} (e:TypeId) (k:IntKind) (n:Int):Oy e (.int k n) h=.ok (.ptr h.nx 0) (h.new (.cells [.int k n] e .exact)):=rfl
theorem Ba2 {h:H} (e:TypeId) (f:Fn) (a c:List AV):Oy e (.fn f a c) h=.ok (.ptr h.nx 0) (h.new (.cells [.fn f a c] e .exact)):=rfl
structure SsR (h:H) (v:AV) (l:List Sc):Prop where
 sl:R0 4 Ze h v l
 one:∀s∈l,Ge s.cv=true/\cellsOf s.cv=some [s.cv]
 Mu:l.length<=50
structure CsR (h:H) (v:AV) (l:List Cl):Prop where
 sl:R0 4 Hx h v l
 one:∀c∈l,Ge c.w=true/\cellsOf c.w=some [c.w]
 Mu:l.length<=50
theorem SsR.By {h h1:H} {v:AV} {l:List Sc} (hs:SsR h v l) (e:Bi h h1):SsR h1 v l:=⟨Sl.By hs.sl e,hs.one,hs.Mu⟩
theorem CsR.By {h h1:H} {v:AV} {l:List Cl} (hs:CsR h v l) (e:Bi h h1):CsR h1 v l:=⟨Sl.By hs.sl e,hs.one,hs.Mu⟩
def Awt (l:List Sc) (nm:List Nat) (r:AV):Prop:=((∀s∈l,s.name≠nm)->r=.Bj [.int .i64 0,.bool false])/\((∃s∈l,s.name=nm)->∃(i:Nat) (s:Sc),l[i]?=some s/\s.name=nm/\r=.Bj [.int .i64 i,.bool true])
theorem A83 (l:List Sc) (nm:List Nat):Awt l nm (.Bj [.int .i64 (if Abs (λs:Sc=>decide (s.name=nm)) l 0<0 then 0 else Abs (λs:Sc=>decide (s.name=nm)) l 0),.bool (decide (0<=Abs (λs:Sc=>decide (s.name=nm)) l 0))]):=by
 constructor
 . intro hn
   rw [AjH λs hs=>decide_eq_false (hn s hs)]
   rfl
 . rintro ⟨s,hs,hn⟩
   obtain ⟨m,x,h1,h2,h3⟩:=Agx (p:=λs:Sc=>decide (s.name=nm)) (l:=l) (i:=0) ⟨s,hs,decide_eq_true hn⟩
   refine ⟨m,x,h2,of_decide_eq_true h3,?_⟩
   rw [h1,if_neg om,decide_eq_true om,Int.zero_add]
def R84:Prop:=∀(v:AV) (l:List Sc) (nm:List Nat) (h:H),SsR h v l->Ah h (λr _=>Awt l nm r) (ctx.call 84 [v,.str nm] h)
theorem r84 (BjO:Bev ctx) (Bcy:Bbp ctx) (v:AV) (l:List Sc) (nm:List Nat) (h:H) (hs:SsR h v l):Ah h (λr _=>Awt l nm r) (Ay prog ctx N true 84 [v,.str nm] h):=by
 rw [e84]
 have h1:=BjO nm h.nx v l _ (Sl.By hs.sl ((Ai.refl h).new (.cells [.str nm] 9 .exact)).keeps) hs.one (Bf _) (Nat.lt_succ_self _) hs.Mu
 (have zz0:=@Awa;refine wk ?_)
 refine Fj h1 λv1 h2 e2 l2 Aae q2=>?_
 subst q2
 (repeat' (first|refine wk ?_|(refine Pd (Bcy _ _) ?_;intro vv hh ee E8 Bu qq;subst qq)|fail))
 exact zr Ex (A83 l nm)
def Bex:Prop:=∀(s:Sc) (nm:List Nat) (h:H),CsR h s.cv s.A1->Ge s.cv=true->cellsOf s.cv=some [s.cv]->Ah h (λr _=>r=.Bj [.int .i64 (if Abs (λs:Cl=>decide (s.name=nm)) s.A1 0<0 then 0 else Abs (λs:Cl=>decide (s.name=nm)) s.A1 0),.bool (decide (0<=Abs (λs:Cl=>decide (s.name=nm)) s.A1 0))]) (ctx.call 139 [.agg (Ze s),.str nm] h)
theorem Blc (Bc0:Be4 ctx) (Bcy:Bbp ctx) (s:Sc) (nm:List Nat) (h:H) (hs:CsR h s.cv s.A1) (o1:Ge s.cv=true) (o2:cellsOf s.cv=some [s.cv]):Ah h (λr _=>r=.Bj [.int .i64 (if Abs (λs:Cl=>decide (s.name=nm)) s.A1 0<0 then 0 else Abs (λs:Cl=>decide (s.name=nm)) s.A1 0),.bool (decide (0<=Abs (λs:Cl=>decide (s.name=nm)) s.A1 0))]) (Ay prog ctx N true 139 [.agg (Ze s),.str nm] h):=by
 rw [Bjn]
 obtain ⟨sn,sp,sm,cv,A1⟩:=s
 simp only at hs o1 o2 ⊢
 (have zz0:=@Awa;refine wk ?_)
 have g1:Ai h ((h.new (.cells [.str sn,.bool sp,.int .i64 sm,cv] 73 .exact)).new (.cells [.str nm] 9 .exact)):=((Ai.refl h).new _).new _
 have h1:=Bc0 nm (h.nx+1) cv A1 _ (Sl.By hs.sl g1.keeps) hs.one (Bf (h:=h.new _) _) (Nat.lt_succ_self _) hs.Mu
 refine Fj h1 λv1 h2 e2 l2 Aae q2=>?_
 subst q2
 (repeat' (first|refine wk ?_|(refine Pd (Bcy _ _) ?_;intro vv hh ee E8 Bu qq;subst qq)|fail))
 exact zr Ex rfl
def Ba5 (l:List Cl) (nm:List Nat) (r:AV):Prop:=∃c∈l,c.name=nm/\r=.Bj [.agg (Hx c),.bool true]
def R87:Prop:=∀(v:AV) (l:List Cl) (nm:List Nat) (h:H),CsR h v l->(∃c∈l,c.name=nm)->Ah h (λr _=>Ba5 l nm r) (ctx.call 87 [v,.str nm] h)
theorem r87 (BjQ:Bex ctx) (v:AV) (l:List Cl) (nm:List Nat) (h:H) (hs:CsR h v l) (hc:∃c∈l,c.name=nm):Ah h (λr _=>Ba5 l nm r) (Ay prog ctx N true 87 [v,.str nm] h):=by
 rw [e87]
 obtain ⟨o1,o2⟩:=B2 hs.sl
 obtain ⟨c,hc1,hc2⟩:=hc
 obtain ⟨m,x,y1,y2,y3⟩:=Agx (p:=λs:Cl=>decide (s.name=nm)) (l:=l) (i:=0) ⟨c,hc1,decide_eq_true hc2⟩
 have hx:=of_decide_eq_true y3
 have hxm:=List.mem_of_getElem? y2
 obtain ⟨w1,w2⟩:=hs.one x hxm
 have h1:=λhh e=>BjQ ⟨[],false,0,v,l⟩ nm hh (hs.By e) o1 o2
 simp only [y1,Int.zero_add] at h1
 obtain ⟨b1,p1,el⟩:=R0.elem (f:=Hx) (s:=4) (λ_=>rfl) hs.sl y2
 have x1:=el.ia
 have x2:=el.all
 have n1:¬ ((m:Int)<0):=by omega
 have n2:(0:Int)<=(m:Int):=by omega
 simp only [if_neg n1,decide_eq_true n2] at h1
 clear el y1 y2 y3
 refine wk ?_
 refine Fj (h1 _ ((Ai.refl h).new _).keeps) λv1 h2 e2 l2 Aae q2=>?_
 subst q2
 simp only [C9] at l2 Aae
 have g2:=(Aae h.nx om).trans (Bf _)
 clear h1
 refine wk ?_
 exact zr Ex ⟨x,hxm,hx,by simp [hx]⟩
theorem r90 (n:Int) (h:H):Ah h (λr _=>r=.bool (decide (n < -1000000)||decide (1000000<n))) (Ay prog ctx N true 90 [.int .i64 n] h):=by
 rw [e90]
 cases k1:decide (n < -1000000)
 . refine wk ?_
   exact zr Ex rfl
 . refine wk ?_
   exact zr Ex rfl
theorem r99 (b:Bool) (h:H):Ah h (λr _=>r=.int .i64 (Yg b)) (Ay prog ctx N true 99 [.bool b] h):=by
 rw [e99]
 cases b
 . refine wk ?_
   exact zr Ex rfl
 . refine wk ?_
   exact zr Ex rfl
theorem r97 (n:Int) (h:H):Ah h (λr _=>r=.int .i64 (Abb n)) (Ay prog ctx N true 97 [.int .i64 n] h):=by
 rw [e97]
 (have zz0:=@A5S;have zz1:=@AoA;refine wk ?_)
 refine zr Ex ?_
 unfold Abb
 congr 1
 repeat' split
 all_goals omega
def W35:List (List Nat):=[[97,98,111,118,101],[97,110,100],[98,97,116,99,104],[98,101,116,119,101,101,110],[98,105,116,115],[98,121],[99,111,110,115,105,115,116,101,110,116],[99,111,117,110,116],[101,108,115,101],[102,97,99,116,111,114],[102,114,111,109],[104,105,115,116,111,103,114,97,109],[105,100,101,110,116,105,116,121],[105,102],[106,111,105,110],[107,101,101,112],[108,97,116,101],[108,105,109,105,116],[109,111,100,101],[110,111,110,101],[110,111,116],[111,102],[111,110],[111,114],[112,101,97,107],[112,114,101,102,105,120],[113,117,97,110,116,105,108,101],[114,117,110,110,105,110,103],[115,117,109],[116,104,101,110],[116,111,116,97,108],[116,114,101,101],[117,115,105,110,103],[119,104,101,114,101],[119,105,116,104]]
def S0 (h:H):Prop:=Nv h 0 (W35.flatMap Aeb)
theorem S0.By {h h1:H} (g:S0 h) (e:Bi h h1):S0 h1:=e.cont 0 _ g
theorem S0.ws {h:H} (g:S0 h):Ig h (.sl 0 0 35 35 1 true) W35:=.inr ⟨0,0,35,true,_,rfl,by decide,g,by decide,rfl⟩
def Be1:Prop:=∀(s:List Nat) (h:H),Ah h (λr _=>r=.bool false) (ctx.call 178 [.str s] h)
def Bbx:Prop:=∀(s:List Nat) (h:H),Ah h (λr _=>r=.bool false) (ctx.call 285 [.str s] h)
theorem Bl7 (s:List Nat) (h:H):Ah h (λr _=>r=.bool false) (Ay prog ctx N true 285 [.str s] h):=by
 rw [BjG]
 refine wk ?_
 exact zr Ex (by simp)
def Bbw:Prop:=∀(s t:List Nat) (h:H),Ah h (λr _=>∃b,r=.bool b) (ctx.call 284 [.str s,.str t] h)
theorem Bl6 (Ayi:Be1 ctx) (s t:List Nat) (h:H):Ah h (λr _=>∃b,r=.bool b) (Ay prog ctx N true 284 [.str s,.str t] h):=by
 rw [BjF]
 refine Fj (Ayi s h) λv1 h1 e1 l1 Aad q1=>?_
 subst q1
 refine wk ?_
 exact zr Ex ⟨_,rfl⟩
theorem Awb {h:H} (k k':IntKind) (n:Int):A6r k (.int k' n) h=.ok (.int k (E1 k n)) h:=rfl
theorem A1c (n:Int) (h1:0<=n) (h2:n<=1000):E1 .u64 n=n:=by
 unfold E1 fits
 rw [Il,Il]
 have e1:¬ (n<IntKind.min .u64):=by show ¬ (n<0);omega
 have e2:¬ (IntKind.max .u64<n):=by show ¬ ((18446744073709551615:Int)<n);omega
 rw [decide_eq_false e1,decide_eq_false e2]
theorem BlC {h:H} (m:Nat):Aj prog .shr 337 true (.int .u64 (m:Int)) (.int .u64 1) h=.ok (.int .u64 ((m / 2:Nat):Int)) h:=by kernel_rfl
abbrev Bbo (r:AV) (_:H):Prop:=∃i,r=.Bj [.int .i64 i,.bool false]
def Bbu:Prop:=∀(v:AV) (ws:List (List Nat)) (s:List Nat) (h:H),Ig h v ws->ws.length<=50->s ∉ ws->Ah h Bbo (ctx.call 250 [v,.str s] h)
theorem A9A (Bc3:Bbw ctx) (Bc4:Bbx ctx) (v:AV) (ws:List (List Nat)) (s:List Nat) (h:H) (hv:Ig h v ws) (hl:ws.length<=50) (hs:s ∉ ws):
 ∀(u:Nat) (a b:Nat) (n:Nat) (hd:H) (f0:L2),b=a+u->b<=ws.length->u<n->Ai h hd->Ah h Bbo (Anb ctx N n v (.str s) (.int .i64 (ws.length:Int)) (.int .i64 (a:Int)) (.int .i64 (b:Int)) f0 hd):=by
 intro u
 induction u using Nat.strongRecOn with
 |_ u ih=>
 intro a b n hd f0 hab hb hn hg
 obtain ⟨n1,rfl⟩:∃n1,n=n1+1:=⟨n - 1,by omega⟩
 have Kf:=hg.lo
 obtain ⟨x,hx⟩:∃x:Int,x=(a:Int):=⟨_,rfl⟩
 obtain ⟨y,hy⟩:∃x:Int,x=(b:Int):=⟨_,rfl⟩
 obtain ⟨z,hz⟩:∃x:Int,x=(ws.length:Int):=⟨_,rfl⟩
 rw [<- hx,<- hy,<- hz]
 cases u with
 |zero=>
  have k1:decide (x<y)=false:=df
  rw [Ayt]
  by_cases hal:a<ws.length
  . have k2:decide (x<z)=true:=dt
    obtain ⟨w,hw⟩:∃w,ws[a]?=some w:=⟨_,List.getElem?_eq_getElem hal⟩
    obtain ⟨b1,o1,el⟩:=R0.elem (f:=Aeb) (s:=1) (λ_=>rfl) (Sl.By hv hg.keeps) hw
    have x1:=el.ia
    rw [<- hx] at x1
    have x2:=el.part 0 _ rfl
    rw [Nat.add_zero] at x2
    have k3:decide (w=s)=false:=decide_eq_false λhh=>hs (hh ▸ List.mem_of_getElem? hw)
    clear el hw hv ih hx hy hz hab
    refine wk ?_
    refine Fj (Bc4 w _) λv1 h1 e1 l1 Aad q1=>?_
    subst q1
    refine wk ?_
    exact zr Ex ⟨_,rfl⟩
  . have k2:decide (x<z)=false:=df
    have xt:∀(w:Bool) (r:OR) (hh:H),Ad (.Bj []) w r hh=.ok (.Bj []) hh:=λ_ _ _=>by kernel_rfl
    clear hv ih hx hy hz hab
    refine wk ?_
    exact zr Ex ⟨_,rfl⟩
 |succ u=>
  have k1:decide (x<y)=true:=dt
  obtain ⟨m,hm⟩:∃m:Nat,m=(a+b) / 2:=⟨_,rfl⟩
  obtain ⟨mi,hmi⟩:∃x:Int,x=(m:Int):=⟨_,rfl⟩
  obtain ⟨w,hw⟩:∃w,ws[m]?=some w:=⟨_,List.getElem?_eq_getElem om⟩
  obtain ⟨b1,o1,el⟩:=R0.elem (f:=Aeb) (s:=1) (λ_=>rfl) (Sl.By hv hg.keeps) hw
  have x1:=el.ia
  rw [<- hmi] at x1
  have x2:=el.part 0 _ rfl
  rw [Nat.add_zero] at x2
  have y1:∀hh:H,A6r .u64 (.int .i64 (x+y)) hh=.ok (.int .u64 (x+y)) hh:=λhh=>by rw [Awb,A1c _ om om]
  have y2:∀hh:H,Aj prog .shr 337 true (.int .u64 (x+y)) (.int .u64 1) hh=.ok (.int .u64 mi) hh:=λhh=>by
   rw [show x+y=((a+b:Nat):Int) by omega,BlC,<- hm,<- hmi]
  have y3:∀hh:H,A6r .i64 (.int .u64 mi) hh=.ok (.int .i64 mi) hh:=λhh=>by rw [Awb,lw.2.2 _ om om]
  have r1:0<=x:=by omega
  have r2:x<y:=by omega
  have r3:y<=50:=by omega
  have r4:0<=mi:=by omega
  have r5:mi<=50:=by omega
  have go1:=λhd f0=>ih (b - (m+1)) om (m+1) b n1 hd f0 om hb om
  have go2:=λhd f0=>ih (m - a) om a m n1 hd f0 om om om
  rw [show ((m+1:Nat):Int)=mi+1 by omega,<- hy,<- hz] at go1
  rw [<- hx,<- hmi,<- hz] at go2
  replace go1:=(show F5 _ from go1)
  replace go2:=(show F5 _ from go2)
  clear el hw hv ih hx hy hz hab hm hmi
  rw [Ayt]
  refine wk ?_
  refine Fj (Bc3 w s _) λv1 h1 e1 l1 Aad q1=>?_
  obtain ⟨bb,rfl⟩:=q1
  cases bb
  . refine wk ?_
    exact (show ∀(hd:H) (f0:L2),_ from go2) _ _ Ex
  . refine wk ?_
    exact (show ∀(hd:H) (f0:L2),_ from go1) _ _ Ex
theorem Bl2 (hN:100<N) (Bc3:Bbw ctx) (Bc4:Bbx ctx) (v:AV) (ws:List (List Nat)) (s:List Nat) (h:H) (hv:Ig h v ws) (hl:ws.length<=50) (hs:s ∉ ws):Ah h Bbo (Ay prog ctx N true 250 [v,.str s] h):=by
 rw [BjB]
 refine Ey hv.Gs ?_
 exact A9A ctx N Bc3 Bc4 v ws s h hv hl hs ws.length 0 ws.length N h _ om (Nat.le_refl _) om (Ai.refl h)
theorem A0l {h:H} {s:List Nat} {i:Nat} {c:Nat} (hc:s[i]?=some c):xIx prog .str (.str s) (.int .i64 (i:Int)) h=.ok (.int .u8 (c:Int)) h:=by
 show Uv (AuN s i) h=_
 rw [AuO,hc]
 rfl
theorem BlD (h:H):xSl prog 310 (.ptr 0 0) none none h=.ok (.sl 0 0 35 35 1 true) h:=by kernel_rfl
def A7Y:Prop:=∀(s:List Nat) (h:H),S0 h->s∈R2++N1++R9->Ah h (λr _=>r=.bool true) (ctx.call 210 [.str s] h)
theorem AzS (A8K:Bbu ctx) (s:List Nat) (h:H) (hk:S0 h) (hc:∀c∈s,97<=c/\c<=122) (hl:s.length<=20) (hw:s ∉ W35):
 ∀(u i:Nat) (ii:Int) (n:Nat) (f0:L2),i+u=s.length->ii=(i:Int)->u<n->Ah h (λr _=>r=.bool true) (ArU ctx N n (.str s) (.int .i64 (s.length:Int)) (.int .i64 ii) f0 h)
 |0,i,ii,n,f0,hu,hii,hn=>by
  obtain ⟨n1,rfl⟩:∃n1,n=n1+1:=⟨n - 1,by omega⟩
  have k1:decide (ii<(s.length:Int))=false:=df
  have x1:=BlD h
  clear hu hii
  rw [Ayn]
  refine wk ?_
  refine Fj (A8K _ W35 s h hk.ws (by decide) hw) λv1 h1 e1 l1 Aad q1=>?_
  obtain ⟨j,rfl⟩:=q1
  refine wk ?_
  exact zr Ex rfl
 |u+1,i,ii,n,f0,hu,hii,hn=>by
  obtain ⟨n1,rfl⟩:∃n1,n=n1+1:=⟨n - 1,by omega⟩
  have ih:=AzS A8K s h hk hc hl hw u (i+1) (ii+1) n1
  have k1:decide (ii<(s.length:Int))=true:=dt
  obtain ⟨c,O0⟩:∃c,s[i]?=some c:=⟨_,List.getElem?_eq_getElem om⟩
  obtain ⟨c1,c2⟩:=hc c (List.mem_of_getElem? O0)
  have x1:∀hh:H,xIx prog .str (.str s) (.int .i64 ii) hh=.ok (.int .u8 (c:Int)) hh:=λhh=>by rw [hii];exact A0l O0
  obtain ⟨ci,hci⟩:∃x:Int,x=(c:Int):=⟨_,rfl⟩
  rw [<- hci] at x1
  have y1:∀hh:H,Aj prog .lss 5 true (.int .u8 ci) (.int .u8 97) hh=.ok (.bool false) hh:=λhh=>by
   show OR.ok (.bool (ilt ci 97)) hh=_
   rw [Il,decide_eq_false om]
  have y2:∀hh:H,Aj prog .gtr 5 true (.int .u8 ci) (.int .u8 122) hh=.ok (.bool false) hh:=λhh=>by
   show OR.ok (.bool (ilt 122 ci)) hh=_
   rw [Il,decide_eq_false om]
  have xt:∀(w:Bool) (r:OR) (hh:H),Ad (.Bj []) w r hh=.ok (.Bj []) hh:=λ_ _ _=>by kernel_rfl
  have r1:0<=ii:=by omega
  have r2:ii<=20:=by omega
  have go:=λf0=>ih f0 om om om
  replace go:=(show F5 _ from go)
  clear hu hii O0 hci ih hc
  rw [Ayn]
  refine wk ?_
  exact (show ∀(f0:L2),_ from go) _
theorem Bg7:∀s∈R2++N1++R9,(∀c∈s,97<=c/\c<=122)/\s.length<=20/\s ∉ W35/\s≠[]:=by decide
theorem Blt (hN:100<N) (A8K:Bbu ctx) (s:List Nat) (h:H) (hk:S0 h) (hs:s∈R2++N1++R9):Ah h (λr _=>r=.bool true) (Ay prog ctx N true 210 [.str s] h):=by
 obtain ⟨hc,hl,hw,Hr⟩:=Bg7 s hs
 have lp:=AzS ctx N A8K s h hk hc hl hw s.length 0 0 N
 have hp:0<s.length:=List.length_pos_iff.2 Hr
 obtain ⟨c,O0⟩:∃c,s[0]?=some c:=⟨_,List.getElem?_eq_getElem hp⟩
 obtain ⟨c1,c2⟩:=hc c (List.mem_of_getElem? O0)
 have x1:∀hh:H,xIx prog .str (.str s) (.int .i64 0) hh=.ok (.int .u8 (c:Int)) hh:=λhh=>A0l O0
 obtain ⟨ci,hci⟩:∃x:Int,x=(c:Int):=⟨_,rfl⟩
 rw [<- hci] at x1
 have y1:∀hh:H,Aj prog .lss 5 true (.int .u8 ci) (.int .u8 97) hh=.ok (.bool false) hh:=λhh=>by
  show OR.ok (.bool (ilt ci 97)) hh=_
  rw [Il,decide_eq_false om]
 have y2:∀hh:H,Aj prog .gtr 5 true (.int .u8 ci) (.int .u8 122) hh=.ok (.bool false) hh:=λhh=>by
  show OR.ok (.bool (ilt 122 ci)) hh=_
  rw [Il,decide_eq_false om]
 obtain ⟨sl,Z3⟩:∃x:Int,x=(s.length:Int):=⟨_,rfl⟩
 have x2:∀hh:H,lnS (.str s) hh=.ok (.int .i64 sl) hh:=λhh=>by rw [Z3];exact A63 s
 have k1:decide (sl<1)=false:=df
 have k2:decide (20<sl)=false:=df
 have go:=λf0=>lp f0 om rfl om
 rw [<- Z3] at go
 replace go:=(show F5 _ from go)
 clear hc O0 hci lp Z3
 rw [Bj2]
 refine wk ?_
 exact (show ∀(f0:L2),_ from go) _
def Bbv:Prop:=∀(s:List Nat) (h:H),S0 h->s∈R2++N1++R9->Ah h (λr _=>r=.bool false) (ctx.call 267 [.str s] h)
theorem Bl4 (A5n:A7Y ctx) (s:List Nat) (h:H) (hk:S0 h) (hs:s∈R2++N1++R9):Ah h (λr _=>r=.bool false) (Ay prog ctx N true 267 [.str s] h):=by
 rw [BjD]
 (repeat' (first|refine wk ?_|((with_reducible (first|apply Fj|apply zc2));exact A5n _ _ (hk.By M0) hs;intro vv hh ee E8 Bu qq;(try simp only [C9] at E8 Bu);subst qq)))
 exact zr Ex rfl
theorem BfF (x:AV) (h:H):cvV (.fn (.func 267) [] []) [x] prog ctx h=ctx.call 267 [x] h:=by
 rw [AeY,if_pos (by kernel_rfl)]
 rfl
theorem A0a (A8N:Bbv ctx) (v:AV) (l:List (List Nat)) (h:H) (hk:S0 h) (hs:Ig h v l) (hm:∀s∈l,s∈R2++N1++R9) (hl:l.length<=1000):
 ∀(k:Nat) (i:Int) (n:Nat) (hd:H) (f0:L2),i+(k:Int)=(l.length:Int)->0<=i->k<n->Ai h hd->Ah h (λr _=>r=.int .i64 (-1)) (As9 ctx N n v (.fn (.func 267) [] []) (.int .i64 (l.length:Int)) (.int .i64 i) f0 hd)
 |0,i,n,hd,f0,Qd,H4,hn,hg=>by
  obtain ⟨n1,rfl⟩:∃n1,n=n1+1:=⟨n - 1,by omega⟩
  have k1:decide (i<(l.length:Int))=false:=df
  rw [Ayz]
  refine wk ?_
  exact zr hg rfl
 |k+1,i,n,hd,f0,Qd,H4,hn,hg=>by
  obtain ⟨n1,rfl⟩:∃n1,n=n1+1:=⟨n - 1,by omega⟩
  have ih:=A0a A8N v l h hk hs hm hl k (i+1) n1
  have k1:decide (i<(l.length:Int))=true:=dt
  have X4:((i.toNat:Nat):Int)=i:=Int.toNat_of_nonneg H4
  obtain ⟨x,hx⟩:∃x,l[i.toNat]?=some x:=⟨_,List.getElem?_eq_getElem om⟩
  obtain ⟨b1,o1,el⟩:=R0.elem (f:=Aeb) (s:=1) (λ_=>rfl) (Sl.By hs hg.keeps) hx
  have hxm:=hm x (List.mem_of_getElem? hx)
  have x1:=el.ia
  rw [X4] at x1
  have x2:=el.part 0 _ rfl
  rw [Nat.add_zero] at x2
  clear el X4 hx hs
  rw [Ayz]
  simp only [mM,mL,mC,BfF]
  (repeat' (first|refine wk ?_|((with_reducible (first|apply Fj|apply zc2));exact A8N _ _ (hk.By M0) hxm;intro vv hh ee E8 Bu qq;(try simp only [C9] at E8 Bu);subst qq)))
  exact ih _ _ om om om Ex
def BeI:Prop:=∀(v:AV) (l:List (List Nat)) (h:H),S0 h->Ig h v l->(∀s∈l,s∈R2++N1++R9)->l.length<=5->Ah h (λr _=>r=.bool false) (ctx.call 266 [v,.fn (.func 267) [] []] h)
def BeK:Prop:=∀(v:AV) (l:List (List Nat)) (h:H),S0 h->Ig h v l->(∀s∈l,s∈R2++N1++R9)->l.length<=5->Ah h (λr _=>r=.int .i64 (-1)) (ctx.call 300 [v,.fn (.func 267) [] []] h)
theorem Bl8 (hN:100<N) (A8N:Bbv ctx) (v:AV) (l:List (List Nat)) (h:H) (hk:S0 h) (hs:Ig h v l) (hm:∀s∈l,s∈R2++N1++R9) (hl:l.length<=5):Ah h (λr _=>r=.int .i64 (-1)) (Ay prog ctx N true 300 [v,.fn (.func 267) [] []] h):=by
 rw [BjH]
 refine Ey hs.Gs ?_
 exact A0a ctx N A8N v l h hk hs hm om l.length 0 N h _ om om om (Ai.refl h)
theorem Bl3 (Bka:BeK ctx) (v:AV) (l:List (List Nat)) (h:H) (hk:S0 h) (hs:Ig h v l) (hm:∀s∈l,s∈R2++N1++R9) (hl:l.length<=5):Ah h (λr _=>r=.bool false) (Ay prog ctx N true 266 [v,.fn (.func 267) [] []] h):=by
 rw [BjC]
 (repeat' (first|refine wk ?_|((with_reducible (first|apply Fj|apply zc2));exact Bka _ _ _ (hk.By M0) hs hm hl;intro vv hh ee E8 Bu qq;(try simp only [C9] at E8 Bu);subst qq)))
 exact zr Ex rfl
def Bbt:Prop:=∀(c d:Cl) (b:Nat) (h:H),Ge c.w=true->cellsOf c.w=some [c.w]->h.m.get b=.cells (Hx d) 96 .exact->b<h.nx->Ah h (λr _=>r=.bool (decide (c.name=d.name))) (ctx.call 240 [.agg (Hx c),.ptr b 0] h)
theorem Bl0 (c d:Cl) (b:Nat) (h:H) (h1:Ge c.w=true) (h2:cellsOf c.w=some [c.w]) (hg:h.m.get b=.cells (Hx d) 96 .exact) (hb:b<h.nx):Ah h (λr _=>r=.bool (decide (c.name=d.name))) (Ay prog ctx N true 240 [.agg (Hx c),.ptr b 0] h):=by
 rw [Bj9]
 have Wg:b≠h.nx:=by omega
 refine wk ?_
 exact zr Ex rfl
theorem BfE (x w:AV) (h:H):cvV (.fn (.func 240) [] [w]) [x] prog ctx h=ctx.call 240 [x,w] h:=by
 rw [AeY,if_pos (by kernel_rfl)]
 rfl
theorem AvO (A8I:Bbt ctx) (d:Cl) (b:Nat) (v:AV) (l:List Cl) (h:H) (hs:CsR h v l) (hn:∀c∈l,c.name≠d.name) (hg0:h.m.get b=.cells (Hx d) 96 .exact) (hb:b<h.nx):
 ∀(k:Nat) (i:Int) (n:Nat) (hd:H) (f0:L2),i+(k:Int)=(l.length:Int)->0<=i->k<n->Ai h hd->Ah h (λr _=>r=.int .i64 (-1)) (AmY ctx N n v (.fn (.func 240) [] [.ptr b 0]) (.int .i64 (l.length:Int)) (.int .i64 i) f0 hd)
 |0,i,n,hd,f0,Qd,H4,Zo,hg=>by
  obtain ⟨n1,rfl⟩:∃n1,n=n1+1:=⟨n - 1,by omega⟩
  have k1:decide (i<(l.length:Int))=false:=df
  rw [AlG]
  refine wk ?_
  exact zr hg rfl
 |k+1,i,n,hd,f0,Qd,H4,Zo,hg=>by
  obtain ⟨n1,rfl⟩:∃n1,n=n1+1:=⟨n - 1,by omega⟩
  have ih:=AvO A8I d b v l h hs hn hg0 hb k (i+1) n1
  have hl:=hs.Mu
  have k1:decide (i<(l.length:Int))=true:=dt
  have X4:((i.toNat:Nat):Int)=i:=Int.toNat_of_nonneg H4
  obtain ⟨x,hx⟩:∃x,l[i.toNat]?=some x:=⟨_,List.getElem?_eq_getElem om⟩
  obtain ⟨b1,o1,el⟩:=R0.elem (f:=Hx) (s:=4) (λ_=>rfl) (Sl.By hs.sl hg.keeps) hx
  have hxm:=List.mem_of_getElem? hx
  obtain ⟨w1,w2⟩:=hs.one x hxm
  have hxn:=decide_eq_false (hn x hxm)
  have x1:=el.ia
  rw [X4] at x1
  have x2:=el.all
  have hg1:=(hg.Cf b hb).trans hg0
  have Qy:=Nat.lt_of_lt_of_le hb hg.lo
  clear el X4 hx hs hn
  rw [AlG]
  simp only [mM,mL,mC,BfE]
  (repeat' (first|refine wk ?_|(refine Pd (A8I _ _ _ _ w1 w2 hg1 Qy) ?_;intro vv hh ee E8 Bu qq;subst qq)|fail))
  exact ih _ _ om om om Ex
def BeG:Prop:=∀(d:Cl) (b:Nat) (v:AV) (l:List Cl) (h:H),CsR h v l->(∀c∈l,c.name≠d.name)->h.m.get b=.cells (Hx d) 96 .exact->b<h.nx->Ah h (λr _=>r=.bool false) (ctx.call 239 [v,.fn (.func 240) [] [.ptr b 0]] h)
def Ba7:Prop:=∀(d:Cl) (b:Nat) (v:AV) (l:List Cl) (h:H),CsR h v l->(∀c∈l,c.name≠d.name)->h.m.get b=.cells (Hx d) 96 .exact->b<h.nx->Ah h (λr _=>r=.int .i64 (-1)) (ctx.call 192 [v,.fn (.func 240) [] [.ptr b 0]] h)
theorem BgD (hN:100<N) (A8I:Bbt ctx) (d:Cl) (b:Nat) (v:AV) (l:List Cl) (h:H) (hs:CsR h v l) (hn:∀c∈l,c.name≠d.name) (hg:h.m.get b=.cells (Hx d) 96 .exact) (hb:b<h.nx):Ah h (λr _=>r=.int .i64 (-1)) (Ay prog ctx N true 192 [v,.fn (.func 240) [] [.ptr b 0]] h):=by
 rw [BfH]
 refine Ey hs.sl.Gs ?_
 have:=hs.Mu
 exact AvO ctx N A8I d b v l h hs hn hg hb l.length 0 N h _ om om om (Ai.refl h)
theorem Blz (Bc0:Ba7 ctx) (d:Cl) (b:Nat) (v:AV) (l:List Cl) (h:H) (hs:CsR h v l) (hn:∀c∈l,c.name≠d.name) (hg:h.m.get b=.cells (Hx d) 96 .exact) (hb:b<h.nx):Ah h (λr _=>r=.bool false) (Ay prog ctx N true 239 [v,.fn (.func 240) [] [.ptr b 0]] h):=by
 rw [Bj8]
 (repeat' (first|refine wk ?_|(refine Pd (Bc0 _ _ _ _ _ hs hn hg hb) ?_;intro vv hh ee E8 Bu qq;subst qq)|fail))
 exact zr Ex rfl
end Go.Proofs

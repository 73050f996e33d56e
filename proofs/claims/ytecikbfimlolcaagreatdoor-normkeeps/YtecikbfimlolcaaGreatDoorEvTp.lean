/- The contract of the row of NormKeeps: in every world that fits the row the call returns true, and what was there is as it was. -/
import Derived.Test.YtecikbfimlolcaaGreatDoorEvKl
import Derived.Test.YtecikbfimlolcaaGreatDoorEvR4
import Derived.Test.YtecikbfimlolcaaGreatDoorEvFK
import Derived.Deep.DeepHandedRow
set_option maxRecDepth 100000
noncomputable section
namespace Go.Proofs
open Go Go.Ev Go.Nm Go.Ev.Sx
theorem Xy {h h1:H} (g:Ai h h1):∀(gl:List GE),(∀e∈gl,e.g<h.nx)->Hj gl h=true->Hj gl h1=true
 |[],_,_=>rfl
 |e::gl,B6,ho=>by
  have hg:=g.Cf e.g (B6 e (List.mem_cons_self ..))
  unfold Hj at ho ⊢
  rw [hg]
  revert ho
  cases h.m.get e.g with
  |cells l t k=>
   cases k with
   |exact=>
    intro ho
    dsimp only at ho ⊢
    rcases Bool.eq_false_or_eq_true (Sh l e.l) with a1|a1
    . rw [a1] at ho ⊢
      rcases Bool.eq_false_or_eq_true (Nat.beq t e.t) with a2|a2
      . rw [a2] at ho ⊢
        exact Xy g gl (λe he=>B6 e (List.mem_cons_of_mem _ he)) ho
      . rw [a2] at ho;cases ho
    . rw [a1] at ho;cases ho
   |fz c=>intro ho;cases ho
   |Gt c=>intro ho;cases ho
   |Cf c st=>intro ho;cases ho
  |_=>intro ho;cases ho
def AeV:Tab:=⟨8192,[⟨13,[],.bool true⟩]⟩
abbrev CK (gl:List GE) (d:Nat):Ac:=ApJ gl AeV (C d)
theorem Sj {gl:List GE} {d:Nat} {g:FuncId} (hg:Nat.beq (Nat.land 8192 (Nat.pow 2 g)) 0=true) (args:List AV) (h:H):(CK gl d).call g args h=(C d).call g args h:=by
 have e:Hl AeV g args=none:=by
  unfold Hl
  rw [show AeV.Azg=8192 from rfl,hg]
 show (Option.rec (motive:=λ_=>OR) ((C d).call g args h) (λv=>Abq gl v h) (Hl AeV g args):OR)=_
 rw [e]
theorem ApD {gl:List GE} {d:Nat} {h:H} (ho:Hj gl h=true):(CK gl d).call 13 [] h=.ok (.bool true) h:=by
 have e:Hl AeV 13 []=some (.bool true):=rfl
 show (Option.rec (motive:=λ_=>OR) ((C d).call 13 [] h) (λv=>Abq gl v h) (Hl AeV 13 []):OR)=_
 rw [e]
 show Abq gl (.bool true) h=_
 unfold Abq
 rw [ho]
theorem A0O (gl:List GE) (d:Nat) (hd:2001<=d) (va vb vc:AV) (La Lb Lc:List Int) (h:H) (hG:S0 h) (hgl:∀e∈gl,e.g<h.nx) (ho:Hj gl h=true) (ha:Lf h va La) (hb:Lf h vb Lb) (hc:Lf h vc Lc) (la:(La.length:Int)<=9223372036854775807) (lb:(Lb.length:Int)<=9223372036854775807) (lc:(Lc.length:Int)<=9223372036854775807):
 Ah h (λr _=>r=.bool true) (Fy PP (CK gl d) 6 [va,vb,vc] h):=by
 refine Ah0 (r6 (CK gl d) 1048576 ?_ ?_ ?_ ?_ ?_ ?_ ?_ va vb vc La Lb Lc h hG ?_ ha hb hc la lb lc)
 . intro vl sv L ss h h1 h2 h3 h4
   rw [Sj rfl]
   exact c14 d om vl sv L ss h h1 h2 h3 h4
 . intro vl L h h1 h2
   rw [Sj rfl]
   exact c15 d om vl L h h1 h2
 . intro q vc vo vm h h1 h2 h3 h4
   rw [Sj rfl]
   exact c10 d om q vc vo vm h h1 h2 h3 h4
 . intro x1 x2 x3 x4 x5 x6 x7 x8 x9 y1 y2 y3
   rw [Sj rfl]
   exact c18 d om x1 x2 x3 x4 x5 x6 x7 x8 x9 y1 y2 y3
 . intro x1 x2 x3 x4 x5 x6 x7 x8 x9 y1 y2 y3
   rw [Sj rfl]
   exact Mg d om x1 x2 x3 x4 x5 x6 x7 x8 x9 y1 y2 y3
 . intro x1 x2 x3 x4 x5 x6 x7 x8 x9 y1 y2
   rw [Sj rfl]
   exact c20 d om x1 x2 x3 x4 x5 x6 x7 x8 x9 y1 y2
 . intro x1 x2 x3 x4 x5 x6 x7 x8 x9 y1 y2 y3 y4 y5 y6 y7 y8
   rw [Sj rfl]
   exact c21 d om x1 x2 x3 x4 x5 x6 x7 x8 x9 y1 y2 y3 y4 y5 y6 y7 y8
 . intro h1 g
   rw [ApD (Xy g gl hgl ho)]
   exact Lo (Ai.refl h1) rfl
end Go.Proofs
namespace Go.Proofs
open Go Go.Ev Go.Nm Go.Ev.Sx
open Go.Proofs.YtecikbfimlolcaaGreatDoor (Um gl0 AhM mixed Nk Jq)
theorem bo6:Bg PP 6=true:=by kernel_rfl
theorem Aou {σ:Dx} {v:Value} (h:Au σ (.bool true) v):v=.bool true:=by cases h;rfl
theorem Axj (va vb vc:AV) (La Lb Lc:List Int) {An:Array Value} {h:H} {σ:Dx} {w:World}
 (hgl:∀e∈Um,e.g<h.nx) (ho:Hj Um h=true) (ha:Lf h va La) (hb:Lf h vb Lb) (hc:Lf h vc Lc) (la:(La.length:Int)<=9223372036854775807) (lb:(Lb.length:Int)<=9223372036854775807) (lc:(Lc.length:Int)<=9223372036854775807)
 (hlg:h.lg=[]) (hσ:∀b,h.nx<=b->σ b=none) (Ow:Bk σ [va,vb,vc] An.toList) (hms:∀i:Ii,h.nx<=@Bq i->@Ms i PP.globals.size σ h w) (hg:Vm PP.globals.size σ):
 Calls PP 6 An w λe w'=>e=.returned (.bool true)/\Kept w w':=by
 have hG:S0 h:=by
  have h1:(⟨0,gl0,310⟩:GE)∈Um:=by simp [Um]
  exact ⟨hgl _ h1,310,.exact,AjB ho _ h1,trivial⟩
 have Du:=A0O Um 2001 (Nat.le_refl _) va vb vc La Lb Lc h hG hgl ho ha hb hc la lb lc
 have X3:∀i:Ii,@Bd i PP PP.globals.size (CK Um 2001):=λi=>Ahj (Xh mixed Nk t29 2001) Jq (λo ho=>by
  rcases List.mem_singleton.1 ho with rfl
  exact AhM)
 refine (AgZ mixed Nk X3 bo6 Du hlg hσ Ow hms hg).mono λe w' hh=>?_
 obtain ⟨v,v',σ',rfl,⟨h',rfl⟩,hv,hk⟩:=hh
 rw [Aou hv]
 exact ⟨rfl,hk⟩
end Go.Proofs
namespace Go.Proofs
open Go Go.Ev Go.Nm Go.Ev.Sx
section
variable {H:Type} {enc:TypeId × Value->H} {W:World} {gl:List GE} {B:List Nat}
theorem ce3:PP.cellsOf 3=1:=by kernel_rfl
def Vn:Value->List Nat
 |.slice (some a) _ _=>[a.block]
 |_=>[]
def Kin (gl:List GE) (B:List Nat) (v:Value):Prop:=∀b∈Vn v,b∈B\/∃e∈gl,e.g=b
theorem AfE (hw:WOk PP gl W) (Ga:P8 PP.globals.size gl=true) (hB:Qn gl W B) {v:Value} {d:DataW H} {p:List MemPlace} (hk:Kin gl B v) {base:Nat} (S7:Value.okWide PP W .any base 34 v)
 (h:DataW.Trod enc PP W 0 (λ_=>true) true 34 v d p):
 ∃(u:AV) (L:List Int),Lf (Adk gl W B) u L/\Au (Pn PP.globals.size W B) u v/\(L.length:Int)<=9223372036854775807:=by
 have hc:Cell.okWide PP W .any base 34 v:=by
  unfold Value.okWide at S7
  rw [Tryz.underlying34] at S7
  exact S7
 have hld:∀a len cap,v=.slice (some a) len cap->Ams W a:=λa len cap hv=>Yl (hv ▸ hc)
 have AjJ:v.cells.toList=[v]:=by
  cases v with
  |agg l=>
   unfold Cell.okWide at hc
   rw [Tryz.underlying34] at hc
   unfold Cell.ok at hc
   rw [Tryz.underlying34] at hc
   exact hc.elim
  |_=>rfl
 obtain ⟨Me,h⟩:=h
 rw [AjJ] at h
 have h':=h
 rcases Deep.open_slice Tryz.underlying34 h' with ⟨h1,_⟩|⟨a,len,cap,m,n,D,Pl,h1,_,hle,Ah8,hm,_,hx⟩
 . simp only [List.cons.injEq,and_true] at h1
   subst h1
   exact ⟨.Bv,[],.inl ⟨rfl,rfl,rfl⟩,.Bv,by simp⟩
 . simp only [List.cons.injEq,and_true] at h1
   subst h1
   have hmc:m=cap:=by simpa using hm
   subst hmc
   rw [ce3] at hx
   obtain ⟨L,hl,h2,h3⟩:=Aon (α:=Int) (f:=λn:Int=>[AV.int .i64 n]) (s:=1) om hw Ga hB (hld a len m rfl) (hk a.block (by simp [Vn])) hle (λi hi=>by
    obtain ⟨cs,q1,q2⟩:=hx i hi
    obtain ⟨n0,e0,_,_⟩:=DataW.trod_int Tryz.underlying3 q2
    exact ⟨n0,cs,q1,by rw [e0];rfl⟩)
   refine ⟨_,L,h2,h3,?_⟩
   have:maxLen=9223372036854775807:=rfl
   omega
end
end Go.Proofs
namespace Go.Proofs.YtecikbfimlolcaaGreatDoor
open Go Go.Ev Go.Ev.Sx
open Go.ChangeShapes Go.WideShapes Go.ChangeAt Go.RowKit
theorem At2:Hj Um (glH Um Tryz.prog.globals.size)=true:=by kernel_rfl
theorem ApY:(Rows.normKeepsRow.laid.filter λx=>x.2.handleName?.isSome)=[]:=by kernel_rfl
theorem BlB:Tryz.f6.resultTypes=#[4]:=by kernel_rfl
theorem AfI {W:World} {base:Nat} {v:Value} (h:Value.okWide Tryz.prog W .any base 34 v):∀a len cap,v=.slice (some a) len cap->Ams W a:=by
 unfold Value.okWide at h
 rw [Tryz.underlying34] at h
 exact λa len cap hv=>Yl (hv ▸ h)
theorem AbR {W:World} {v:Value} (hc:∀a len cap,v=.slice (some a) len cap->Ams W a):∀b∈Vn v,∃(arr:Array Value) (t:TypeId) (lo hi:Nat),W.heap[b]?=some (.cells arr t (lo,hi)):=by
 intro b hb
 unfold Vn at hb
 split at hb
 . rename_i a len cap
   obtain ⟨_,arr,t,lo,hi,hg,_⟩:=hc a len cap rfl
   rw [List.mem_singleton.1 hb]
   exact ⟨arr,t,lo,hi,hg⟩
 . cases hb
theorem Ao9 (H:Type) (enc:TypeId × Value->H) (W:World) (base:Nat) (args:Array Value) (ds gs:List (DataW H)) (before:List MemPlace)
 (S7:∀(j:Nat) t v,Tryz.f6.params[j]?=some t->args[j]?=some v->Value.okWide Tryz.prog W .any base t v)
 (hW:DataW.Whole enc Tryz.prog Tryz.f6.params.toList Rows.normKeepsSpec.vars false W args.toList ds gs before)
 (hL:laidMetH Tryz.prog Rows.normKeepsRow.laid W) (hsh:W.ShapedOpen Tryz.prog):
 Calls Tryz.prog 6 args W λe W'=>∃v,e=.returned v/\Rows.normKeepsSpec.post enc Tryz.prog Tryz.f6 false true false false W args v W':=by
 have hW':=hW
 obtain ⟨p,q,hA,hV,A8p,_,_⟩:=hW
 have hA0:=hA
 have A4l:Tryz.f6.params.toList=[34,34,34]:=by rw [Tryz.params6]
 rw [A4l] at hA
 obtain ⟨v1,v2,v3,d1,d2,d3,p1,p2,p3,rfl,rfl,hp,hT1,hT2,hT3⟩:=trodAll_three hA
 obtain ⟨rfl,rfl⟩:=trodVars_none hV
 have hw:WOk Tryz.prog Um W:=AiJ hsh At3 (laidMetH.plain ApY hL) AxZ
 have Fc:=hw.size
 have o1:Value.okWide Tryz.prog W .any base 34 v1:=S7 0 34 v1 (by rw [Tryz.params6];rfl) rfl
 have o2:Value.okWide Tryz.prog W .any base 34 v2:=S7 1 34 v2 (by rw [Tryz.params6];rfl) rfl
 have o3:Value.okWide Tryz.prog W .any base 34 v3:=S7 2 34 v3 (by rw [Tryz.params6];rfl) rfl
 let B:List Nat:=(Vn v1++Vn v2++Vn v3).filter λb=>Um.all λe=>!(e.g == b)
 have hB:Qn Um W B:=by
  intro b hb
  obtain ⟨h1,h2⟩:=List.mem_filter.1 hb
  refine ⟨?_,λe he hh=>?_⟩
  . rcases List.mem_append.1 h1 with h1|h1
    . rcases List.mem_append.1 h1 with h1|h1
      . exact AbR (AfI o1) b h1
      . exact AbR (AfI o2) b h1
    . exact AbR (AfI o3) b h1
  . have:=List.all_eq_true.1 h2 e he
    simp [hh] at this
 have Aq3:∀b,b∈Vn v1++Vn v2++Vn v3->b∈B\/∃e∈Um,e.g=b:=by
  intro b hb
  by_cases h1:∃e∈Um,e.g=b
  . exact .inr h1
  . refine .inl (List.mem_filter.2 ⟨hb,List.all_eq_true.2 λe he=>?_⟩)
    have h2:¬ e.g=b:=λhh=>h1 ⟨e,he,hh⟩
    simp [h2]
 obtain ⟨u1,L1,a1,r1,n1⟩:=AfE (B:=B) hw Jq hB (λb hb=>Aq3 b (by simp [hb])) o1 hT1
 obtain ⟨u2,L2,a2,r2,n2⟩:=AfE (B:=B) hw Jq hB (λb hb=>Aq3 b (by simp [hb])) o2 hT2
 obtain ⟨u3,L3,a3,r3,n3⟩:=AfE (B:=B) hw Jq hB (λb hb=>Aq3 b (by simp [hb])) o3 hT3
 have Rq:=Axj u1 u2 u3 L1 L2 L3 (An:=#[v1,v2,v3]) (h:=Adk Um W B) (σ:=Pn Tryz.prog.globals.size W B) (w:=W)
  (λe he=>by have:=(Mf Jq e he).1;show e.g<W.heap.size+W.heap.size;omega)
  (Aom hw Jq hB At2) a1 a2 a3 n1 n2 n3 rfl (λb hb=>Aol Fc hB b hb) (.cons r1 (.cons r2 (.cons r3 (.nil _)))) (λi hi=>@AuS _ _ _ _ i hw Jq hB hi) Aso
 refine Rq.mono λe W' ⟨he,hkp⟩=>?_
 subst he
 have hp:p=before:=by rw [A8p,List.append_nil]
 refine ⟨_,rfl,[d1,d2,d3],[],before,[],p,[],hW',?_,?_,?_,World.keptBut_mono (λ_ hh=>hh.elim) hkp.but,λhh=>by cases hh⟩
 . rw [BlB]
   exact trodAll_mk1 (shut_bool Tryz.underlying4 true)
 . exact Amy A43 A44 A94 hkp (λt ht=>by
    rw [A4l] at ht
    have:t=34:=by simpa using ht
    rw [this]
    exact of_decide_eq_true (by kernel_rfl)) hA0
 . rfl
end Go.Proofs.YtecikbfimlolcaaGreatDoor

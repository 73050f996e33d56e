/- The contract of the row of NormSwaps: in every world that fits the row the call returns true, and what was there is as it was. -/
import Derived.Test.YtecikbfimlolcaaGreatDoorEvTp
import Derived.Test.YtecikbfimlolcaaGreatDoorEvFK
import Derived.Deep.DeepHandedRow
set_option maxRecDepth 100000
set_option linter.unusedVariables false
noncomputable section
namespace Go.Proofs.YtecikbfimlolcaaGreatDoor
open Go Go.Ev
open Go.ChangeShapes Go.WideShapes Go.ChangeAt Go.RowKit
theorem At2:Hj Um (glH Um Tryz.prog.globals.size)=true:=by kernel_rfl
theorem ApY:(Rows.normSwapsRow.laid.filter λx=>x.2.handleName?.isSome)=[]:=by kernel_rfl
theorem Baa:Tryz.f5.resultTypes=#[4]:=by kernel_rfl
theorem AfI {W:World} {base:Nat} {v:Value} (h:Value.okWide Tryz.prog W .any base 34 v):∀a len cap,v=.slice (some a) len cap->Ams W a:=by
 unfold Value.okWide at h
 rw [Tryz.underlying34] at h
 exact λa len cap hv=>Yl (hv ▸ h)
theorem AbR {W:World} {v:Value} (hc:∀a len cap,v=.slice (some a) len cap->Ams W a):∀b∈Vn v,∃(arr:Array Value) (t:TypeId) (lo hi:Nat),W.heap[b]?=some (.cells arr t (lo,hi)):=by
 intro b hb
 unfold Vn at hb
 split at hb
 . rename_i a len cap
   obtain ⟨_,arr,t,lo,hi,hg,_⟩:=hc a len cap rfl
   rw [List.mem_singleton.1 hb]
   exact ⟨arr,t,lo,hi,hg⟩
 . cases hb
theorem Adj (H:Type) (enc:TypeId × Value->H) (W:World) (base:Nat) (args:Array Value) (ds gs:List (DataW H)) (before:List MemPlace)
 (S7:∀(j:Nat) t v,Tryz.f5.params[j]?=some t->args[j]?=some v->Value.okWide Tryz.prog W .any base t v)
 (hW:DataW.Whole enc Tryz.prog Tryz.f5.params.toList Rows.normSwapsSpec.vars false W args.toList ds gs before)
 (hL:laidMetH Tryz.prog Rows.normSwapsRow.laid W) (hsh:W.ShapedOpen Tryz.prog):
 Calls Tryz.prog 5 args W λe W'=>∃v,e=.returned v/\Rows.normSwapsSpec.post enc Tryz.prog Tryz.f5 false true false false W args v W':=by
 have hW':=hW
 obtain ⟨p,q,hA,hV,A8p,_,_⟩:=hW
 have hA0:=hA
 have A4l:Tryz.f5.params.toList=[34,34,34]:=by rw [Tryz.params5]
 rw [A4l] at hA
 obtain ⟨v1,v2,v3,d1,d2,d3,p1,p2,p3,rfl,rfl,hp,hT1,hT2,hT3⟩:=trodAll_three hA
 obtain ⟨rfl,rfl⟩:=trodVars_none hV
 have hw:WOk Tryz.prog Um W:=AiJ hsh At3 (laidMetH.plain ApY hL) AxZ
 have Fc:=hw.size
 have o1:Value.okWide Tryz.prog W .any base 34 v1:=S7 0 34 v1 (by rw [Tryz.params5];rfl) rfl
 have o2:Value.okWide Tryz.prog W .any base 34 v2:=S7 1 34 v2 (by rw [Tryz.params5];rfl) rfl
 have o3:Value.okWide Tryz.prog W .any base 34 v3:=S7 2 34 v3 (by rw [Tryz.params5];rfl) rfl
 let B:List Nat:=(Vn v1++Vn v2++Vn v3).filter λb=>Um.all λe=>!(e.g == b)
 have hB:Qn Um W B:=by
  intro b hb
  obtain ⟨h1,h2⟩:=List.mem_filter.1 hb
  refine ⟨?_,λe he hh=>?_⟩
  . rcases List.mem_append.1 h1 with h1|h1
    . rcases List.mem_append.1 h1 with h1|h1
      . exact AbR (AfI o1) b h1
      . exact AbR (AfI o2) b h1
    . exact AbR (AfI o3) b h1
  . have:=List.all_eq_true.1 h2 e he
    simp [hh] at this
 have Aq3:∀b,b∈Vn v1++Vn v2++Vn v3->b∈B\/∃e∈Um,e.g=b:=by
  intro b hb
  by_cases h1:∃e∈Um,e.g=b
  . exact .inr h1
  . refine .inl (List.mem_filter.2 ⟨hb,List.all_eq_true.2 λe he=>?_⟩)
    have h2:¬ e.g=b:=λhh=>h1 ⟨e,he,hh⟩
    simp [h2]
 obtain ⟨u1,L1,a1,r1,n1⟩:=AfE (B:=B) hw Jq hB (λb hb=>Aq3 b (by simp [hb])) o1 hT1
 obtain ⟨u2,L2,a2,r2,n2⟩:=AfE (B:=B) hw Jq hB (λb hb=>Aq3 b (by simp [hb])) o2 hT2
 obtain ⟨u3,L3,a3,r3,n3⟩:=AfE (B:=B) hw Jq hB (λb hb=>Aq3 b (by simp [hb])) o3 hT3
 have Rq:=AkH u1 u2 u3 L1 L2 L3 (An:=#[v1,v2,v3]) (h:=Adk Um W B) (σ:=Pn Tryz.prog.globals.size W B) (w:=W)
  (λe he=>by have:=(Mf Jq e he).1;show e.g<W.heap.size+W.heap.size;omega)
  (Aom hw Jq hB At2) a1 a2 a3 n1 n2 n3 rfl (λb hb=>Aol Fc hB b hb) (.cons r1 (.cons r2 (.cons r3 (.nil _)))) (λi hi=>@AuS _ _ _ _ i hw Jq hB hi) Aso
 refine Rq.mono λe W' ⟨he,hkp⟩=>?_
 subst he
 have hp:p=before:=by rw [A8p,List.append_nil]
 refine ⟨_,rfl,[d1,d2,d3],[],before,[],p,[],hW',?_,?_,?_,World.keptBut_mono (λ_ hh=>hh.elim) hkp.but,λhh=>by cases hh⟩
 . rw [Baa]
   exact trodAll_mk1 (shut_bool Tryz.underlying4 true)
 . exact Amy A43 A44 A94 hkp (λt ht=>by
    rw [A4l] at ht
    have:t=34:=by simpa using ht
    rw [this]
    exact of_decide_eq_true (by kernel_rfl)) hA0
 . rfl
end Go.Proofs.YtecikbfimlolcaaGreatDoor

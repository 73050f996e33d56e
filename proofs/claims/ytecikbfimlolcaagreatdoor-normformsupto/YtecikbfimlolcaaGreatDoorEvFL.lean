/- The contract of the row of NormForms: in every world that fits the row the call returns true, and what was there is as it was. -/
import Derived.Test.YtecikbfimlolcaaGreatDoorEvRi
import Derived.Test.YtecikbfimlolcaaGreatDoorEvG
import Derived.Test.YtecikbfimlolcaaGreatDoorEvFK
import Derived.Deep.DeepHandedRow
set_option maxRecDepth 100000
set_option linter.unusedVariables false
namespace Go.Proofs.YtecikbfimlolcaaGreatDoor
open Go Go.Ev
open Go.ChangeShapes Go.WideShapes Go.ChangeAt Go.RowKit
theorem gl_here:Gs gls (glH gls Tryz.prog.globals.size)=true:=by kernel_rfl
theorem gl_plain:(Rows.normFormsUptoRow.laid.filter fun x=>x.2.handleName?.isSome)=[]:=by kernel_rfl
theorem res3:Tryz.f3.resultTypes=#[4]:=by kernel_rfl
theorem forms_contract (H:Type) (enc:TypeId × Value->H) (W:World) (base:Nat) (args:Array Value) (ds gs:List (DataW H)) (before:List MemPlace)
 (hval:∀ (j:Nat) t v,Tryz.f3.params[j]?=some t->args[j]?=some v->Value.okWide Tryz.prog W .any base t v)
 (hW:DataW.Whole enc Tryz.prog Tryz.f3.params.toList Rows.normFormsSpec.vars false W args.toList ds gs before) (hk:Rows.uptoSmall H (ds++gs)=true)
 (hL:laidMetH Tryz.prog Rows.normFormsUptoRow.laid W) (hsh:W.ShapedOpen Tryz.prog):
 Calls Tryz.prog 3 args W fun e W'=>∃ v,e=.returned v/\Rows.normFormsSpec.post enc Tryz.prog Tryz.f3 false true false false W args v W':=by
 have hW':=hW
 obtain ⟨p,q,hA,hV,hbef,_,_⟩:=hW
 have hA0:=hA
 have hpar:Tryz.f3.params.toList=[26]:=by rw [Tryz.params3]
 rw [hpar] at hA
 obtain ⟨v,d,rfl,rfl,hT⟩:=trodAll_one hA
 obtain ⟨rfl,rfl⟩:=trodVars_none hV
 have hp0:Tryz.f3.params[0]?=some 26:=by rw [Tryz.params3];rfl
 have hw:WOk Tryz.prog gls W:=wok_of_laid hsh gl_rows (laidMetH.plain gl_plain hL) gl_tie
 have hsz:=hw.size
 have hb:Rows.uptoBulk d<=1048576:=by
  have h:Rows.uptoBulkAll ([d]++[])<=1048576:=of_decide_eq_true hk
  simp only [List.append_nil,Rows.uptoBulkAll] at h
  omega
 obtain ⟨q,vc,vo,vm,B,hB,ht,hq,l1,l3,hrel⟩:=query_in hw gl_ok (hval 0 26 v hp0 rfl) hT hb
 have hcall:=forms_here q vc vo vm (args':=#[v]) (h:=takeH gls W B) (σ:=takeS Tryz.prog.globals.size W B) (w:=W)
  (fun e he=>by have:=(glOk_get gl_ok e he).1;show e.g<W.heap.size+W.heap.size;omega)
  (take_glob hw gl_ok hB gl_here) ht hq l1 l3 rfl (fun b hb=>take_free hsz hB b hb) (.cons hrel (.nil _)) (fun i hi=>@take_ms _ _ _ _ i hw gl_ok hB hi) take_gok
 refine hcall.mono fun e W' ⟨he,hkp⟩=>?_
 subst he
 have hp:p=before:=by rw [hbef,List.append_nil]
 refine ⟨_,rfl,[d],[],before,[],p,[],hW',?_,?_,?_,World.keptBut_mono (fun _ hh=>hh.elim) hkp.but,fun hh=>by cases hh⟩
 . rw [res3]
   exact trodAll_mk1 (shut_bool Tryz.underlying4 true)
 . exact args_kept k_lo k_mr k_sl hkp (fun t ht=>by
    rw [hpar] at ht
    rw [List.mem_singleton.1 ht]
    exact of_decide_eq_true (by kernel_rfl)) hA0
 . rfl
end Go.Proofs.YtecikbfimlolcaaGreatDoor

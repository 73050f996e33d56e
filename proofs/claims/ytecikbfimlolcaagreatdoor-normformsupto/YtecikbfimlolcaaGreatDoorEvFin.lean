/- NormForms is true at every query whose strings and lists are together of bulk at most 1048576, in every world in which the listed package-level variables hold what the program's text lays: package norm's normal form of the query is the reference's, and the query is not changed. -/
import Derived.Test.YtecikbfimlolcaaGreatDoorEvFL
import Derived.Test.YtecikbfimlolcaaGreatDoorTie
import Derived.Test.YtecikbfimlolcaaGreatDoorCards
import Derived.JoinedCond
set_option maxRecDepth 100000
namespace Go.Proofs.YtecikbfimlolcaaGreatDoor
open Go Go.Ev
theorem own:ownKnob Tryz.prog.godebug=none:=by kernel_rfl
def noQuery:Value:=.agg #[.int .i64 0,.slice none 0 0,.int .i64 0,.int .i64 0,.int .i64 0,.int .i64 0,.string .empty,.int .i64 0,.slice none 0 0,.int .i64 0,.bool false,.string .empty,.int .i64 0,.string .empty,.string .empty,.string .empty,.int .i64 0,.slice none 0 0,.string .empty,.int .i64 0]
def noQueryD (H:Type):DataW H:=.agg [.lit (.int .i64 0),.nil,.lit (.int .i64 0),.lit (.int .i64 0),.lit (.int .i64 0),.lit (.int .i64 0),.lit (.string []),.lit (.int .i64 0),.nil,.lit (.int .i64 0),.lit (.bool false),.lit (.string []),.lit (.int .i64 0),.lit (.string []),.lit (.string []),.lit (.string []),.lit (.int .i64 0),.nil,.lit (.string []),.lit (.int .i64 0)]
noncomputable def w0 (os:Os):World:=World.laidAll Tryz.prog os Rows.normFormsUptoRow.laid
noncomputable def m0 (os:Os):World:=((w0 os).forCall (fun _ _=>0) ⟨#[],#[noQuery],[]⟩)
theorem w0_shaped (os:Os):(m0 os).Shaped Tryz.prog:=World.shaped_of_ZipB (by kernel_rfl) (by kernel_rfl)
theorem w0_ok (os:Os):Input.okWideB Tryz.prog (m0 os) 3 ⟨#[],#[noQuery],[]⟩=true:=by kernel_rfl
theorem w0_reads (os:Os) (H:Type) (enc:TypeId × Value->H):DataW.whole enc Tryz.prog (m0 os).memory Tryz.f3.params.toList Rows.normFormsSpec.vars false #[noQuery].toList 8=some ([noQueryD H],[],[]):=by kernel_rfl
theorem w0_sized (os:Os) (H:Type) (enc:TypeId × Value->H):(Rows.OpenSpec.upto Rows.normFormsSpec).bare.sizedB enc Tryz.prog Tryz.f3 false (m0 os).memory #[noQuery] 8=true:=by kernel_rfl
theorem w0_laid (os:Os):laidMetH Tryz.prog Rows.normFormsUptoRow.laid (m0 os).memory:=laidMetH_of_parts (laidMet_laidAll _ (by kernel_rfl) (by kernel_rfl)) (by kernel_rfl)
theorem w0_row (os:Os) (H:Type) (enc:TypeId × Value->H):(Rows.OpenSpec.upto Rows.normFormsSpec).preRow enc Tryz.prog Tryz.f3 Rows.normFormsUptoRow.domain false Rows.normFormsUptoRow.laid (m0 os).memory #[noQuery]:=
 OpenSpec.preRow_of_cond 8 (w0_reads os H enc) (by kernel_rfl) (fun k hk=>by cases hk;kernel_rfl) (w0_sized os H enc) (w0_laid os)
theorem law_lifted (os:Os) (started:os.Started) (H:Type) (enc:TypeId × Value->H) (F:Stop.Interp):
 ReturnsInHanded {} Tryz.checked os 3 .any ((Rows.OpenSpec.upto Rows.normFormsSpec).preRow enc Tryz.prog Tryz.f3 Rows.normFormsUptoRow.domain false Rows.normFormsUptoRow.laid) (((Rows.OpenSpec.upto Rows.normFormsSpec).at F).post enc Tryz.prog Tryz.f3 false true false false):=by
 refine returnsInHanded_of_row (C:=Tryz.checked) (s:=Rows.OpenSpec.upto Rows.normFormsSpec) own started (by kernel_rfl) Tryz.func3
  ⟨w0 os,fun _ _=>0,⟨#[],#[noQuery],[]⟩,World.laidAll_os _ _ _,w0_shaped os,(Input.okWide_of_okWideB (base:=0) (w0_ok os)).1,(Input.okWide_of_okWideB (w0_ok os)).2,w0_row os H enc,by
   simp only [Assume.holds]
   exact ⟨by simp,by simp,fun _=>Modest.zero,by simp,by simp⟩⟩ ?_
 intro W base args ds gs before hval hW _ hk _ hL hsh _
 exact forms_contract H enc W base args ds gs before hval hW (hk _ rfl) hL hsh
theorem c_stand:Tryz.prog.wantsStandIn 26=false:=by kernel_rfl
theorem law_holds:Rows.NormFormsUptoSaid:=
 OpenClaim.holds_of_cond 3 Tryz.f3 rfl rfl rfl rfl rfl rfl rfl ⟨rfl,rfl,rfl,rfl,rfl⟩ rfl rfl rfl rfl rfl c_named Tryz.func3 k_all
  (of_decide_eq_true (by kernel_rfl)) (by unfold Func.isWrapper;first|(rw [if_pos (by decide +kernel)];kernel_rfl)|(rw [if_neg (by decide +kernel)];exact ⟨rfl,rfl⟩))
  (fun os started H enc _ F=>by rw [OpenClaim.pre_eq_preRow];exact law_lifted os started H enc F)
theorem law_card:Rows.NormFormsUptoCardSaid:=
 Claim7.holds_tied_plain_at .later [] [.data,.data,.data,.data,.sentinel,.sentinel,.widerDeep,.pinned] true (true, "eaa63d36a4756ab171d9f41ac1cb8f127ae839051b7c6ec3a22ab476161f1177") true law_holds (fun _ h=>by cases h) c_wf (fun _ h=>by cases h) normFormsUpto_row_tie rfl ⟨rfl,rfl⟩ c_main rfl
  (fun f fn hf hfn=>by
   obtain rfl:f=3:=Option.some.inj (c_named.symm.trans hf) |>.symm
   obtain rfl:fn=Tryz.f3:=(Option.some.inj (Tryz.func3.symm.trans hfn)).symm
   exact ⟨c_looks,fun j t ht=>by
    have hp:Tryz.f3.params=#[26]:=by kernel_rfl
    rw [hp] at ht
    cases j with
    |zero=>
     have hq:t=26:=by simpa using ht.symm
     rw [hq]
     exact c_stand
    |succ j=>simp at ht⟩)
  (goesBy_none rfl c_goes)
#print axioms law_card
end Go.Proofs.YtecikbfimlolcaaGreatDoor

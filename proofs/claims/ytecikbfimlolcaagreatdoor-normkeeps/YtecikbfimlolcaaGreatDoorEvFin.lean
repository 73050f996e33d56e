/- NormKeeps is true at every three lists of numbers, in every world in which the listed package-level variables hold what the program's text lays: the normal form of a query that numbers select is valid, has no more nodes, and has expressions of the same values at the row that numbers select. No condition beside what the row itself lists. -/
import Derived.Test.YtecikbfimlolcaaGreatDoorEvFA
import Derived.Test.YtecikbfimlolcaaGreatDoorEvTp
import Derived.Test.YtecikbfimlolcaaGreatDoorTie
import Derived.Test.YtecikbfimlolcaaGreatDoorCards
import Derived.JoinedCond
set_option maxRecDepth 100000
noncomputable section
namespace Go.Proofs.YtecikbfimlolcaaGreatDoor
open Go Go.Ev
theorem A45:Tryz.prog.recurses 6=Rows.normKeepsRow.recurses:=by unfold Program.recurses;rw [Awn];rfl
theorem A42:joinedFacts Tryz.prog 6 Tryz.f6 (OpenSpec.ofChange Rows.normKeepsSpec).bare Rows.normKeepsRow=true:=by unfold joinedFacts;rw [A90,Awn,A45,AyX,A43,A44,A95,A93,A92,A91];kernel_rfl
theorem own:ownKnob Tryz.prog.godebug=none:=by kernel_rfl
def Aaa:Array Value:=#[.slice none 0 0,.slice none 0 0,.slice none 0 0]
def w0 (os:Os):World:=World.laidAll Tryz.prog os Rows.normKeepsRow.laid
def m0 (os:Os):World:=((w0 os).forCall (λ_ _=>0) ⟨#[],Aaa,[]⟩)
theorem Aov (os:Os):(m0 os).Shaped Tryz.prog:=World.shaped_of_ZipB (by kernel_rfl) (by kernel_rfl)
theorem Aw9 (os:Os):Input.okWideB Tryz.prog (m0 os) 6 ⟨#[],Aaa,[]⟩=true:=by kernel_rfl
theorem Asw (os:Os) (H:Type) (enc:TypeId × Value->H):DataW.whole enc Tryz.prog (m0 os).memory Tryz.f6.params.toList Rows.normKeepsSpec.vars false Aaa.toList 8=some ([.nil,.nil,.nil],[],[]):=by kernel_rfl
theorem Asx (os:Os) (H:Type) (enc:TypeId × Value->H):(OpenSpec.ofChange Rows.normKeepsSpec).bare.sizedB enc Tryz.prog Tryz.f6 false (m0 os).memory Aaa 8=true:=by kernel_rfl
theorem AuW (os:Os):laidMetH Tryz.prog Rows.normKeepsRow.laid (m0 os).memory:=laidMetH_of_parts (laidMet_laidAll _ (by kernel_rfl) (by kernel_rfl)) (by kernel_rfl)
theorem AzT (os:Os) (H:Type) (enc:TypeId × Value->H):(OpenSpec.ofChange Rows.normKeepsSpec).preRow enc Tryz.prog Tryz.f6 Rows.normKeepsRow.domain false Rows.normKeepsRow.laid (m0 os).memory Aaa:=
 OpenSpec.preRow_of_cond 8 (Asw os H enc) (by kernel_rfl) (λk hk=>by cases hk) (Asx os H enc) (AuW os)
theorem Akb (os:Os) (started:os.Started) (H:Type) (enc:TypeId × Value->H) (F:Stop.Interp):
 ReturnsInHanded {} Tryz.checked os 6 .any ((OpenSpec.ofChange Rows.normKeepsSpec).preRow enc Tryz.prog Tryz.f6 Rows.normKeepsRow.domain false Rows.normKeepsRow.laid) (((OpenSpec.ofChange Rows.normKeepsSpec).at F).post enc Tryz.prog Tryz.f6 false true false false):=by
 refine returnsInHanded_of_row (C:=Tryz.checked) (s:=OpenSpec.ofChange Rows.normKeepsSpec) own started (by kernel_rfl) Tryz.func6
  ⟨w0 os,λ_ _=>0,⟨#[],Aaa,[]⟩,World.laidAll_os _ _ _,Aov os,(Input.okWide_of_okWideB (base:=0) (Aw9 os)).1,(Input.okWide_of_okWideB (Aw9 os)).2,AzT os H enc,by
   simp only [Assume.holds]
   exact ⟨by simp,by simp,λ_=>Modest.zero,by simp,by simp⟩⟩ ?_
 intro W base args ds gs before S7 hW _ _ _ hL hsh _
 exact Ao9 H enc W base args ds gs before S7 hW hL hsh
theorem Afq:Tryz.prog.wantsStandIn 34=false:=by kernel_rfl
theorem law_holds:Rows.NormKeepsSaid:=
 OpenClaim.holds_of_cond 6 Tryz.f6 rfl rfl rfl rfl rfl rfl rfl ⟨rfl,rfl,rfl,rfl,rfl⟩ rfl rfl rfl rfl rfl Al0 Tryz.func6 A42
  (of_decide_eq_true (by kernel_rfl)) (by unfold Func.isWrapper;first|(rw [if_pos (by decide +kernel)];kernel_rfl)|(rw [if_neg (by decide +kernel)];exact ⟨rfl,rfl⟩))
  (λos started H enc _ F=>by rw [OpenClaim.pre_eq_preRow];exact Akb os started H enc F)
theorem law_card:Rows.NormKeepsCardSaid:=
 Claim7.holds_tied_plain_at .later [] [.data,.data,.data,.data,.sentinel,.sentinel,.widerDeep,.pinned] true (true, "eaa63d36a4756ab171d9f41ac1cb8f127ae839051b7c6ec3a22ab476161f1177") true law_holds (λ_ h=>by cases h) A70 (λ_ h=>by cases h) normKeeps_row_tie rfl ⟨rfl,rfl⟩ AxF rfl
  (λf fn hf hfn=>by
   obtain rfl:f=6:=Option.some.inj (Al0.symm.trans hf) |>.symm
   obtain rfl:fn=Tryz.f6:=(Option.some.inj (Tryz.func6.symm.trans hfn)).symm
   exact ⟨Atg,λj t ht=>by
    have hp:Tryz.f6.params=#[34,34,34]:=by kernel_rfl
    rw [hp] at ht
    match j with
    |0=>
     have hq:t=34:=by simpa using ht.symm
     rw [hq];exact Afq
    |1=>
     have hq:t=34:=by simpa using ht.symm
     rw [hq];exact Afq
    |2=>
     have hq:t=34:=by simpa using ht.symm
     rw [hq];exact Afq
    |j+3=>simp at ht⟩)
  (Ah2 rfl AxE)
#print axioms law_card
end Go.Proofs.YtecikbfimlolcaaGreatDoor

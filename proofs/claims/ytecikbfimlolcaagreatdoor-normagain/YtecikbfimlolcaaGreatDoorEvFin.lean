/- NormAgain is true at every two lists of numbers, in every world in which the listed package-level variables hold what the program's text lays: the normal form of a query that numbers select is its own normal form, and has the same key. No condition beside what the row itself lists. -/
import Derived.Test.YtecikbfimlolcaaGreatDoorEvFA
import Derived.Test.YtecikbfimlolcaaGreatDoorEvTp
import Derived.Test.YtecikbfimlolcaaGreatDoorTie
import Derived.Test.YtecikbfimlolcaaGreatDoorCards
import Derived.JoinedCond
set_option linter.all false
set_option maxRecDepth 100000
noncomputable section
namespace Go.Proofs.YtecikbfimlolcaaGreatDoor
open Go Go.Ev
def A45:Tryz.prog.recurses 4=Rows.normAgainRow.recurses:=by unfold Program.recurses;rw[Awn];rfl
def A42:joinedFacts Tryz.prog 4 Tryz.f4 (OpenSpec.ofChange Rows.normAgainSpec).bare Rows.normAgainRow=true:=by unfold joinedFacts;rw[A90,Awn,A45,AyX,A43,A44,A95,A93,A92,A91];kernel_rfl
def own:ownKnob Tryz.prog.godebug=none:=by kernel_rfl
def Aaa:Array Value:=#[.slice none 0 0,.slice none 0 0]
def w0(a:Os):World:=World.laidAll Tryz.prog a Rows.normAgainRow.laid
def m0(a:Os):World:=((w0 a).forCall (λ_ _=>0) ⟨#[],Aaa,[]⟩)
def Aov(a:Os):(m0 a).Shaped Tryz.prog:=World.shaped_of_ZipB (by kernel_rfl) (by kernel_rfl)
def Aw9(a:Os):Input.okWideB Tryz.prog (m0 a) 4 ⟨#[],Aaa,[]⟩=true:=by kernel_rfl
def Asw(a:Os)(H:Type)(enc:TypeId × Value->H):DataW.whole enc Tryz.prog (m0 a).memory Tryz.f4.params.toList Rows.normAgainSpec.vars false Aaa.toList 8=some ([.nil,.nil],[],[]):=by kernel_rfl
def Asx(a:Os)(H:Type)(enc:TypeId × Value->H):(OpenSpec.ofChange Rows.normAgainSpec).bare.sizedB enc Tryz.prog Tryz.f4 false (m0 a).memory Aaa 8=true:=by kernel_rfl
def AuW(a:Os):laidMetH Tryz.prog Rows.normAgainRow.laid (m0 a).memory:=laidMetH_of_parts (laidMet_laidAll _ (by kernel_rfl) (by kernel_rfl)) (by kernel_rfl)
def AzT(a:Os)(H:Type)(enc:TypeId × Value->H):(OpenSpec.ofChange Rows.normAgainSpec).preRow enc Tryz.prog Tryz.f4 Rows.normAgainRow.domain false Rows.normAgainRow.laid (m0 a).memory Aaa:=
 OpenSpec.preRow_of_cond 8 (Asw a H enc) (by kernel_rfl) (λk b=>by cases b) (Asx a H enc) (AuW a)
def Akb(c:Os)(a:c.Started)(H:Type)(enc:TypeId × Value->H)(F:Stop.Interp):
 ReturnsInHanded {} Tryz.checked c 4 .any ((OpenSpec.ofChange Rows.normAgainSpec).preRow enc Tryz.prog Tryz.f4 Rows.normAgainRow.domain false Rows.normAgainRow.laid) (((OpenSpec.ofChange Rows.normAgainSpec).at F).post enc Tryz.prog Tryz.f4 false true false false):=by
 refine returnsInHanded_of_row (C:=Tryz.checked) (s:=OpenSpec.ofChange Rows.normAgainSpec) own a (by kernel_rfl) Tryz.func4
  ⟨w0 c,λ_ _=>0,⟨#[],Aaa,[]⟩,World.laidAll_os _ _ _,Aov c,(Input.okWide_of_okWideB (base:=0) (Aw9 c)).1,(Input.okWide_of_okWideB (Aw9 c)).2,AzT c H enc,by simp only[Assume.holds];exact⟨by simp,by simp,λ_=>Modest.zero,by simp,by simp⟩⟩ ?_
 intro W base args ds h b e g _ _ _ f d _;exact AwV H enc W base args ds h b e g f d
def Afq:Tryz.prog.wantsStandIn 34=false:=by kernel_rfl
def law_holds:Rows.NormAgainSaid:=
 OpenClaim.holds_of_cond 4 Tryz.f4 rfl rfl rfl rfl rfl rfl rfl ⟨rfl,rfl,rfl,rfl,rfl⟩ rfl rfl rfl rfl rfl Al0 Tryz.func4 A42
  (az (by kernel_rfl)) (by unfold Func.isWrapper;first|(rw[W5 (by decide +kernel)];kernel_rfl)|(rw[X2 (by decide +kernel)];exact⟨rfl,rfl⟩))
  (λb a H enc _ F=>by rw[OpenClaim.pre_eq_preRow];exact Akb b a H enc F)
theorem law_card:Rows.NormAgainCardSaid:=
 Claim7.holds_tied_plain_at .later [] [.data,.data,.data,.data,.sentinel,.sentinel,.widerDeep,.pinned] true (true, "eaa63d36a4756ab171d9f41ac1cb8f127ae839051b7c6ec3a22ab476161f1177") true law_holds (λ_ h=>by cases h) A70 (λ_ h=>by cases h) normAgain_row_tie rfl ⟨rfl,rfl⟩ AxF rfl
  (λf fn c b=>by
   obtain rfl:f=4:=Ck (Al0.symm.trans c) |>.symm
   obtain rfl:fn=Tryz.f4:=(Ck (Tryz.func4.symm.trans b)).symm;exact⟨Atg,λj t a=>by
    have d:Tryz.f4.params=#[34,34]:=by kernel_rfl
    rw[d]at a;match j with
    |0=>
     have hq:t=34:=by simpa using a.symm
     rw[hq];exact Afq
    |1=>
     have hq:t=34:=by simpa using a.symm
     rw[hq];exact Afq
    |j+2=>simp at a⟩)
  (Ah2 rfl AxE)
#print axioms law_card
end Go.Proofs.YtecikbfimlolcaaGreatDoor

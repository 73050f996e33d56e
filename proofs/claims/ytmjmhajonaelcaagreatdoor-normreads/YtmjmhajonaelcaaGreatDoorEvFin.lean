/- NormReads is true at every string, in every world in which the listed package-level variables hold what the program's text lays: what Text writes of a query that was read is read as the same query, and written the same. No condition beside what the row itself lists. -/
import Derived.Test.YtmjmhajonaelcaaGreatDoorEvFA
import Derived.Test.YtmjmhajonaelcaaGreatDoorEvTp
import Derived.Test.YtmjmhajonaelcaaGreatDoorTie
import Derived.Test.YtmjmhajonaelcaaGreatDoorCards
import Derived.JoinedCond
set_option linter.all false
set_option maxRecDepth 100000
noncomputable section
namespace Go.Proofs.YtmjmhajonaelcaaGreatDoor
open Go Go.Ev
def A45:Tryz.prog.recurses 3=Rows.normReadsRow.recurses:=by unfold Program.recurses;rw[Awn];rfl
def A42:joinedFacts Tryz.prog 3 Tryz.f3 (OpenSpec.ofChange Rows.normReadsSpec).bare Rows.normReadsRow=true:=by unfold joinedFacts;rw[A90,Awn,A45,AyX,A43,A44,A95,A93,A92,A91];kernel_rfl
def own:ownKnob Tryz.prog.godebug=none:=by kernel_rfl
def Aaa:Array Value:=#[.string ⟨#[]⟩]
def w0(a:Os):World:=World.laidAll Tryz.prog a Rows.normReadsRow.laid
def m0(a:Os):World:=((w0 a).forCall (λ_ _=>0) ⟨#[],Aaa,[]⟩)
def Aov(a:Os):(m0 a).Shaped Tryz.prog:=World.shaped_of_ZipB (by kernel_rfl) (by kernel_rfl)
def Aw9(a:Os):Input.okWideB Tryz.prog (m0 a) 3 ⟨#[],Aaa,[]⟩=true:=by kernel_rfl
def Asw(a:Os)(H:Type)(enc:TypeId × Value->H):DataW.whole enc Tryz.prog (m0 a).memory Tryz.f3.params.toList Rows.normReadsSpec.vars false Aaa.toList 8=some ([.lit (.string [])],[],[]):=by kernel_rfl
def Asx(a:Os)(H:Type)(enc:TypeId × Value->H):(OpenSpec.ofChange Rows.normReadsSpec).bare.sizedB enc Tryz.prog Tryz.f3 false (m0 a).memory Aaa 8=true:=by kernel_rfl
def AuW(a:Os):laidMetH Tryz.prog Rows.normReadsRow.laid (m0 a).memory:=laidMetH_of_parts (laidMet_laidAll _ (by kernel_rfl) (by kernel_rfl)) (by kernel_rfl)
def AzT(a:Os)(H:Type)(enc:TypeId × Value->H):(OpenSpec.ofChange Rows.normReadsSpec).preRow enc Tryz.prog Tryz.f3 Rows.normReadsRow.domain false Rows.normReadsRow.laid (m0 a).memory Aaa:=
 OpenSpec.preRow_of_cond 8 (Asw a H enc) (by kernel_rfl) (λk b=>by cases b) (Asx a H enc) (AuW a)
def Akb(c:Os)(a:c.Started)(H:Type)(enc:TypeId × Value->H)(F:Stop.Interp):
 ReturnsInHanded {} Tryz.checked c 3 .any ((OpenSpec.ofChange Rows.normReadsSpec).preRow enc Tryz.prog Tryz.f3 Rows.normReadsRow.domain false Rows.normReadsRow.laid) (((OpenSpec.ofChange Rows.normReadsSpec).at F).post enc Tryz.prog Tryz.f3 false true false false):=by
 refine returnsInHanded_of_row (C:=Tryz.checked) (s:=OpenSpec.ofChange Rows.normReadsSpec) own a (by kernel_rfl) Tryz.func3
  ⟨w0 c,λ_ _=>0,⟨#[],Aaa,[]⟩,World.laidAll_os _ _ _,Aov c,(Input.okWide_of_okWideB (base:=0) (Aw9 c)).1,(Input.okWide_of_okWideB (Aw9 c)).2,AzT c H enc,by simp only[Assume.holds];exact⟨by simp,by simp,λ_=>Modest.zero,by simp,by simp⟩⟩ ?_
 intro W base args ds g b e f _ _ _ h d _;exact A1E H enc W base args ds g b e f h d
def Afq:Tryz.prog.wantsStandIn 9=false:=by kernel_rfl
def law_holds:Rows.NormReadsSaid:=
 OpenClaim.holds_of_cond 3 Tryz.f3 rfl rfl rfl rfl rfl rfl rfl ⟨rfl,rfl,rfl,rfl,rfl⟩ rfl rfl rfl rfl rfl Al0 Tryz.func3 A42
  (az (by kernel_rfl)) (by unfold Func.isWrapper;first|(rw[Xo (by decide +kernel)];kernel_rfl)|(rw[X2 (by decide +kernel)];exact⟨rfl,rfl⟩))
  (λb a H enc _ F=>by rw[OpenClaim.pre_eq_preRow];exact Akb b a H enc F)
theorem law_card:Rows.NormReadsCardSaid:=
 Claim7.holds_tied_plain_at .later [] [.data,.data,.data,.data,.sentinel,.sentinel,.widerDeep,.pinned] true (true, "67c5c6ee0a3df85e4865d1496b1fd04fc9e89a1a11c99a94be9ccd754e69efd6") true law_holds (λ_ h=>by cases h) A70 (λ_ h=>by cases h) normReads_row_tie rfl ⟨rfl,rfl⟩ AxF rfl
  (λf fn d a=>by
   obtain rfl:f=3:=Ck (Al0.symm.trans d) |>.symm
   obtain rfl:fn=Tryz.f3:=(Ck (Tryz.func3.symm.trans a)).symm;exact⟨Atg,λj t b=>by
    have c:Tryz.f3.params=#[9]:=by kernel_rfl
    rw[c]at b;match j with
    |0=>
     have hq:t=9:=by simpa using b.symm
     rw[hq];exact Afq
    |j+1=>simp at b⟩)
  (Ah2 rfl AxE)
#print axioms law_card
end Go.Proofs.YtmjmhajonaelcaaGreatDoor

/- PlanBits is true at every two lists of numbers and every number, in every world in which the listed package-level variables hold what the program's text lays: with more bits a plan of a query that numbers select is not later and costs no more, takes more steps if it is private, and is the same otherwise. No condition beside what the row itself lists. -/
import Derived.Test.YtahaaiadlgfchaaGreatDoorEvFA
import Derived.Test.YtahaaiadlgfchaaGreatDoorEvTp
import Derived.Test.YtahaaiadlgfchaaGreatDoorTie
import Derived.Test.YtahaaiadlgfchaaGreatDoorCards
import Derived.JoinedCond
set_option linter.all false
set_option maxRecDepth 100000
noncomputable section
namespace Go.Proofs.YtahaaiadlgfchaaGreatDoor
open Go Go.Ev
def A45:Tryz.prog.recurses 4=Rows.planBitsRow.recurses:=by unfold Program.recurses;rw[Awn];rfl
def A42:joinedFacts Tryz.prog 4 Tryz.f4 (OpenSpec.ofChange Rows.planBitsSpec).bare Rows.planBitsRow=true:=by unfold joinedFacts;rw[A90,Awn,A45,AyX,A43,A44,A95,A93,A92,A91];kernel_rfl
def own:ownKnob Tryz.prog.godebug=none:=by kernel_rfl
def Aaa:Array Value:=#[.slice none 0 0,.slice none 0 0,.int .i64 0]
def w0(a:Os):World:=World.laidAll Tryz.prog a Rows.planBitsRow.laid
def m0(a:Os):World:=((w0 a).forCall (λ_ _=>0) ⟨#[],Aaa,[]⟩)
def Aov(a:Os):(m0 a).Shaped Tryz.prog:=World.shaped_of_ZipB (by kernel_rfl) (by kernel_rfl)
def Aw9(a:Os):Input.okWideB Tryz.prog (m0 a) 4 ⟨#[],Aaa,[]⟩=true:=by kernel_rfl
def Asw(b:Os)(H:Type)(a:TypeId × Value->H):DataW.whole a Tryz.prog (m0 b).memory Tryz.f4.params.toList Rows.planBitsSpec.vars false Aaa.toList 8=some ([.nil,.nil,.lit (.int .i64 0)],[],[]):=by kernel_rfl
def Asx(b:Os)(H:Type)(a:TypeId × Value->H):(OpenSpec.ofChange Rows.planBitsSpec).bare.sizedB a Tryz.prog Tryz.f4 false (m0 b).memory Aaa 8=true:=by kernel_rfl
def AuW(a:Os):laidMetH Tryz.prog Rows.planBitsRow.laid (m0 a).memory:=laidMetH_of_parts (laidMet_laidAll _ (by kernel_rfl) (by kernel_rfl)) (by kernel_rfl)
def AzT(b:Os)(H:Type)(a:TypeId × Value->H):(OpenSpec.ofChange Rows.planBitsSpec).preRow a Tryz.prog Tryz.f4 Rows.planBitsRow.domain false Rows.planBitsRow.laid (m0 b).memory Aaa:=
 OpenSpec.preRow_of_cond 8 (Asw b H a) (by kernel_rfl) (λk c=>by cases c) (Asx b H a) (AuW b)
def Akb(d:Os)(a:d.Started)(H:Type)(c:TypeId × Value->H)(F:Stop.Interp):
 ReturnsInHanded {} Tryz.checked d 4 .any ((OpenSpec.ofChange Rows.planBitsSpec).preRow c Tryz.prog Tryz.f4 Rows.planBitsRow.domain false Rows.planBitsRow.laid) (((OpenSpec.ofChange Rows.planBitsSpec).at F).post c Tryz.prog Tryz.f4 false true false false):=by
 refine returnsInHanded_of_row (C:=Tryz.checked) (s:=OpenSpec.ofChange Rows.planBitsSpec) own a (by kernel_rfl) Tryz.func4
  ⟨w0 d,λ_ _=>0,⟨#[],Aaa,[]⟩,World.laidAll_os _ _ _,Aov d,(Input.okWide_of_okWideB (base:=0) (Aw9 d)).1,(Input.okWide_of_okWideB (Aw9 d)).2,AzT d H c,by simp only[Assume.holds];exact⟨by simp,by simp,λ_=>Modest.zero,by simp,by simp⟩⟩ ?_
 intro W base args ds h b f g _ _ _ i e _;exact Bgt H c W base args ds h b f g i e
def Afq:Tryz.prog.wantsStandIn 22=false:=by kernel_rfl
def B6v:Tryz.prog.wantsStandIn 3=false:=by kernel_rfl
def law_holds:Rows.PlanBitsSaid:=
 OpenClaim.holds_of_cond 4 Tryz.f4 rfl rfl rfl rfl rfl rfl rfl ⟨rfl,rfl,rfl,rfl,rfl⟩ rfl rfl rfl rfl rfl Al0 Tryz.func4 A42
  (az (by kernel_rfl)) (by unfold Func.isWrapper;first|(rw[Xo (by decide +kernel)];kernel_rfl)|(rw[X2 (by decide +kernel)];exact⟨rfl,rfl⟩))
  (λc a H b _ F=>by rw[OpenClaim.pre_eq_preRow];exact Akb c a H b F)
theorem law_card:Rows.PlanBitsCardSaid:=
 Claim7.holds_tied_plain_at .later [] [.data,.data,.data,.data,.sentinel,.sentinel,.widerDeep,.pinned] true (true, "a1f4ae0999a9daa4263d31fae4c7be58b1a559feead825257ab3aa4ec644e607") true law_holds (λ_ h=>by cases h) A70 (λ_ h=>by cases h) planBits_row_tie rfl ⟨rfl,rfl⟩ AxF rfl
  (λf fn d b=>by
   obtain rfl:f=4:=Ck (Al0.symm.trans d) |>.symm
   obtain rfl:fn=Tryz.f4:=(Ck (Tryz.func4.symm.trans b)).symm;exact⟨Atg,λj t a=>by
    have c:Tryz.f4.params=#[22,22,3]:=by kernel_rfl
    rw[c]at a;match j with
    |0=>
     have hq:t=22:=by simpa using a.symm
     rw[hq];exact Afq
    |1=>
     have hq:t=22:=by simpa using a.symm
     rw[hq];exact Afq
    |2=>
     have hq:t=3:=by simpa using a.symm
     rw[hq];exact B6v
    |j+3=>simp at a⟩)
  (Ah2 rfl AxE)
#print axioms law_card
end Go.Proofs.YtahaaiadlgfchaaGreatDoor

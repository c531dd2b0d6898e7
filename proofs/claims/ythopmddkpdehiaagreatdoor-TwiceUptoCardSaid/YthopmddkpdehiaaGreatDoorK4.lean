/-
  What the proof stands on, part 4: the logic of walks, the walks through the functions, the plain laws. Conditions: as each theorem says. (Merged and shortened by a program.)
-/
import Derived.Test.YthopmddkpdehiaaGreatDoorTie
import Derived.Test.YthopmddkpdehiaaGreatDoorCards
import Derived.Test.YthopmddkpdehiaaGreatDoorK1
import Derived.Test.YthopmddkpdehiaaGreatDoorK2
import Derived.Test.YthopmddkpdehiaaGreatDoorK3
set_option linter.unusedVariables false
set_option linter.unusedSimpArgs false
section
set_option maxRecDepth 100000
namespace Go.Proofs.YthopmddkpdehiaaGreatDoor.twice
open Go Go.ChangeShapes Go.WideShapes Go.ChangeAt Go.RowKit
theorem j_wf : Rows.twiceUptoRow.wf (OpenSpec.ofChange (Rows.OpenSpec.upto Rows.twiceSpec).bare) = true := by kernel_rfl
theorem zD : (Tryz.f9.params.all (Tryz.prog.readableRec ·)) = true := by kernel_rfl
theorem aAM : namedTie Tryz.prog Rows.twiceUptoRow.named (Rows.OpenSpec.upto Rows.twiceSpec).bare.vars = true := by kernel_rfl
theorem aAN : (Rows.twiceUptoRow.unfollowed == Tryz.prog.unfollowed 9) = true := by kernel_rfl
theorem aAK : (Rows.twiceUptoRow.inPlace == Tryz.prog.inPlace 9) = true := by kernel_rfl
theorem aAL : (Rows.twiceUptoRow.recurses == Tryz.prog.recurses 9) = true := by kernel_rfl
theorem w2 : (Rows.twiceUptoRow.named == Tryz.prog.varsNamed 9) = true := by kernel_rfl
theorem zA : (Rows.twiceUptoRow.plainKeys == Tryz.prog.plainKeys) = true := by kernel_rfl
theorem zB : (Rows.twiceUptoRow.lifted == Tryz.prog.liftsFinal) = true := by kernel_rfl
theorem zC : (Tryz.prog.make == some Rows.twiceUptoRow.make) = true := by kernel_rfl
theorem uF : joinedFacts Tryz.prog 9 Tryz.f9 (Rows.OpenSpec.upto Rows.twiceSpec).bare Rows.twiceUptoRow = true := by
 unfold joinedFacts;rw [j_wf, TzRow.laidOut, TzRow.j_maps, zD, aAM, aAK, aAN, aAL, w2, zA, zB, TzRow.j_heard, TzRow.j_enter, zC, TzRow.j_stops, TzRow.j_knobs]
 kernel_rfl
theorem rD : Tryz.prog.funcNamed "mailsieve/mailsievekeep.Twice" = some 9 := by kernel_rfl
theorem y4 : Tryz.f9.isInstance Tryz.prog Rows.twiceUptoRow.origin Rows.twiceUptoRow.targs := of_decide_eq_true aT
theorem y5 : Tryz.f9.isWrapper Tryz.prog Rows.twiceUptoRow.wrapper Rows.twiceUptoRow.mainSum := by
 unfold Func.isWrapper; first | (rw [if_pos (by decide +kernel)]; kernel_rfl) | (rw [if_neg (by decide +kernel)]; exact ⟨rfl, rfl⟩)
theorem c_wf : Rows.twiceUptoRow.wfByText (Rows.OpenSpec.upto Rows.twiceSpec) = true := by kernel_rfl
theorem yW : false = Rows.twiceUptoRow.goesBy Tryz.prog := by kernel_rfl
theorem wG : ([9, 29, 9].all fun u => !Tryz.prog.wantsStandIn u) = true := by kernel_rfl
end Go.Proofs.YthopmddkpdehiaaGreatDoor.twice
end

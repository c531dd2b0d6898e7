/-
  What the proof stands on, part 4: the logic of walks, the walks through the functions, the plain laws. Conditions: as each theorem says. (Merged and shortened by a program.)
-/
import Derived.Test.YthopmddkpdehiaaGreatDoorTie
import Derived.Test.YthopmddkpdehiaaGreatDoorCards
import Derived.Test.YthopmddkpdehiaaGreatDoorK1
import Derived.Test.YthopmddkpdehiaaGreatDoorK2
import Derived.Test.YthopmddkpdehiaaGreatDoorK3
set_option linter.unusedVariables false
set_option linter.unusedSimpArgs false
section
set_option maxRecDepth 100000
namespace Go.Proofs.YthopmddkpdehiaaGreatDoor.delivered
open Go Go.ChangeShapes Go.WideShapes Go.ChangeAt Go.RowKit
theorem j_wf : Rows.deliveredRow.wf (OpenSpec.ofChange Rows.deliveredSpec) = true := by kernel_rfl
theorem aED : (Tryz.f10.params.all (Tryz.prog.readableRec ·)) = true := by kernel_rfl
theorem aFF : namedTie Tryz.prog Rows.deliveredRow.named Rows.deliveredSpec.vars = true := by kernel_rfl
theorem aFG : (Rows.deliveredRow.unfollowed == Tryz.prog.unfollowed 10) = true := by kernel_rfl
theorem aFD : (Rows.deliveredRow.inPlace == Tryz.prog.inPlace 10) = true := by kernel_rfl
theorem aFE : (Rows.deliveredRow.recurses == Tryz.prog.recurses 10) = true := by kernel_rfl
theorem aCA : (Rows.deliveredRow.named == Tryz.prog.varsNamed 10) = true := by kernel_rfl
theorem aEA : (Rows.deliveredRow.plainKeys == Tryz.prog.plainKeys) = true := by kernel_rfl
theorem aEB : (Rows.deliveredRow.lifted == Tryz.prog.liftsFinal) = true := by kernel_rfl
theorem aEC : (Tryz.prog.make == some Rows.deliveredRow.make) = true := by kernel_rfl
theorem zO : joinedFacts Tryz.prog 10 Tryz.f10 Rows.deliveredSpec Rows.deliveredRow = true := by
 unfold joinedFacts;rw [j_wf, TzRow.laidOut, TzRow.j_maps, aED, aFF, aFD, aFG, aFE, aCA, aEA, aEB, TzRow.j_heard, TzRow.j_enter, aEC, TzRow.j_stops, TzRow.j_knobs]
 kernel_rfl
theorem vL : Tryz.prog.funcNamed "mailsieve/mailsievelaw.Delivered" = some 10 := by kernel_rfl
theorem aD3 : Tryz.f10.isInstance Tryz.prog Rows.deliveredRow.origin Rows.deliveredRow.targs := of_decide_eq_true aY
theorem aD4 : Tryz.f10.isWrapper Tryz.prog Rows.deliveredRow.wrapper Rows.deliveredRow.mainSum := by
 unfold Func.isWrapper; first | (rw [if_pos (by decide +kernel)]; kernel_rfl) | (rw [if_neg (by decide +kernel)]; exact ⟨rfl, rfl⟩)
theorem c_wf : Rows.deliveredRow.wfByText (OpenSpec.ofChange Rows.deliveredSpec) = true := by kernel_rfl
theorem aDU : false = Rows.deliveredRow.goesBy Tryz.prog := by kernel_rfl
theorem aBO : ([68].all fun u => !Tryz.prog.wantsStandIn u) = true := by kernel_rfl
end Go.Proofs.YthopmddkpdehiaaGreatDoor.delivered
end

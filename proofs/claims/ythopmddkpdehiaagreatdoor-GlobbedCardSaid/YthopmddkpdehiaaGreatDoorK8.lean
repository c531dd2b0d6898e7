/-
  What the proof stands on, part 8: the logic of walks, the walks through the functions, the plain laws. Conditions: as each theorem says. (Merged and shortened by a program.)
-/
import Derived.Test.YthopmddkpdehiaaGreatDoorTie
import Derived.Test.YthopmddkpdehiaaGreatDoorCards
import Derived.Test.YthopmddkpdehiaaGreatDoorK1
import Derived.Test.YthopmddkpdehiaaGreatDoorK2
import Derived.Test.YthopmddkpdehiaaGreatDoorK3
import Derived.Test.YthopmddkpdehiaaGreatDoorK4
import Derived.Test.YthopmddkpdehiaaGreatDoorK5
import Derived.Test.YthopmddkpdehiaaGreatDoorK6
import Derived.Test.YthopmddkpdehiaaGreatDoorK7
set_option linter.unusedVariables false
set_option linter.unusedSimpArgs false
section
set_option maxRecDepth 100000
namespace Go.Proofs.YthopmddkpdehiaaGreatDoor.globbed
open Go Go.ChangeShapes Go.WideShapes Go.ChangeAt Go.RowKit
theorem j_wf : Rows.globbedRow.wf (OpenSpec.ofChange Rows.globbedSpec) = true := by kernel_rfl
theorem aPJ : (Tryz.f3.params.all (Tryz.prog.readableRec ·)) = true := by kernel_rfl
theorem aQN : namedTie Tryz.prog Rows.globbedRow.named Rows.globbedSpec.vars = true := by kernel_rfl
theorem aQO : (Rows.globbedRow.unfollowed == Tryz.prog.unfollowed 3) = true := by kernel_rfl
theorem aQL : (Rows.globbedRow.inPlace == Tryz.prog.inPlace 3) = true := by kernel_rfl
theorem aQM : (Rows.globbedRow.recurses == Tryz.prog.recurses 3) = true := by kernel_rfl
theorem aMY : (Rows.globbedRow.named == Tryz.prog.varsNamed 3) = true := by kernel_rfl
theorem aPG : (Rows.globbedRow.plainKeys == Tryz.prog.plainKeys) = true := by kernel_rfl
theorem aPH : (Rows.globbedRow.lifted == Tryz.prog.liftsFinal) = true := by kernel_rfl
theorem aPI : (Tryz.prog.make == some Rows.globbedRow.make) = true := by kernel_rfl
theorem aJ1 : joinedFacts Tryz.prog 3 Tryz.f3 Rows.globbedSpec Rows.globbedRow = true := by
 unfold joinedFacts;rw [j_wf, TzRow.laidOut, TzRow.j_maps, aPJ, aQN, aQL, aQO, aQM, aMY, aPG, aPH, TzRow.j_heard, TzRow.j_enter, aPI, TzRow.j_stops, TzRow.j_knobs]
 kernel_rfl
theorem aFH : Tryz.prog.funcNamed "mailsieve/mailsievekeep.Globbed" = some 3 := by kernel_rfl
theorem aPC : Tryz.f3.isInstance Tryz.prog Rows.globbedRow.origin Rows.globbedRow.targs := of_decide_eq_true cJ
theorem aPD : Tryz.f3.isWrapper Tryz.prog Rows.globbedRow.wrapper Rows.globbedRow.mainSum := by
 unfold Func.isWrapper; first | (rw [if_pos (by decide +kernel)]; kernel_rfl) | (rw [if_neg (by decide +kernel)]; exact ⟨rfl, rfl⟩)
theorem c_wf : Rows.globbedRow.wfByText (OpenSpec.ofChange Rows.globbedSpec) = true := by kernel_rfl
theorem aO5 : false = Rows.globbedRow.goesBy Tryz.prog := by kernel_rfl
theorem aMK : ([9, 3, 3].all fun u => !Tryz.prog.wantsStandIn u) = true := by kernel_rfl
end Go.Proofs.YthopmddkpdehiaaGreatDoor.globbed
end

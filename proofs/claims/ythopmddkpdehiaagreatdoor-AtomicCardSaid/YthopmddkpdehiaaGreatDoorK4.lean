/-
  What the proof stands on, part 4: the logic of walks, the walks through the functions, the plain laws. Conditions: as each theorem says. (Merged and shortened by a program.)
-/
import Derived.Test.YthopmddkpdehiaaGreatDoorTie
import Derived.Test.YthopmddkpdehiaaGreatDoorCards
import Derived.Test.YthopmddkpdehiaaGreatDoorK1
import Derived.Test.YthopmddkpdehiaaGreatDoorK2
import Derived.Test.YthopmddkpdehiaaGreatDoorK3
set_option linter.unusedVariables false
set_option linter.unusedSimpArgs false
section
set_option maxRecDepth 100000
namespace Go.Proofs.YthopmddkpdehiaaGreatDoor.atomic
open Go Go.ChangeShapes Go.WideShapes Go.ChangeAt Go.RowKit
theorem j_wf : Rows.atomicRow.wf (OpenSpec.ofChange Rows.atomicSpec) = true := by kernel_rfl
theorem aEE : (Tryz.f11.params.all (Tryz.prog.readableRec ·)) = true := by kernel_rfl
theorem aFH : namedTie Tryz.prog Rows.atomicRow.named Rows.atomicSpec.vars = true := by kernel_rfl
theorem aFI : (Rows.atomicRow.unfollowed == Tryz.prog.unfollowed 11) = true := by kernel_rfl
theorem aFF : (Rows.atomicRow.inPlace == Tryz.prog.inPlace 11) = true := by kernel_rfl
theorem aFG : (Rows.atomicRow.recurses == Tryz.prog.recurses 11) = true := by kernel_rfl
theorem aCB : (Rows.atomicRow.named == Tryz.prog.varsNamed 11) = true := by kernel_rfl
theorem aEB : (Rows.atomicRow.plainKeys == Tryz.prog.plainKeys) = true := by kernel_rfl
theorem aEC : (Rows.atomicRow.lifted == Tryz.prog.liftsFinal) = true := by kernel_rfl
theorem aED : (Tryz.prog.make == some Rows.atomicRow.make) = true := by kernel_rfl
theorem zO : joinedFacts Tryz.prog 11 Tryz.f11 Rows.atomicSpec Rows.atomicRow = true := by
 unfold joinedFacts;rw [j_wf, TzRow.laidOut, TzRow.j_maps, aEE, aFH, aFF, aFI, aFG, aCB, aEB, aEC, TzRow.j_heard, TzRow.j_enter, aED, TzRow.j_stops, TzRow.j_knobs]
 kernel_rfl
theorem vL : Tryz.prog.funcNamed "mailsieve/mailsievelaw.Atomic" = some 11 := by kernel_rfl
theorem aD4 : Tryz.f11.isInstance Tryz.prog Rows.atomicRow.origin Rows.atomicRow.targs := of_decide_eq_true aY
theorem aD5 : Tryz.f11.isWrapper Tryz.prog Rows.atomicRow.wrapper Rows.atomicRow.mainSum := by
 unfold Func.isWrapper; first | (rw [if_pos (by decide +kernel)]; kernel_rfl) | (rw [if_neg (by decide +kernel)]; exact ⟨rfl, rfl⟩)
theorem c_wf : Rows.atomicRow.wfByText (OpenSpec.ofChange Rows.atomicSpec) = true := by kernel_rfl
theorem aDV : false = Rows.atomicRow.goesBy Tryz.prog := by kernel_rfl
theorem aBP : ([68].all fun u => !Tryz.prog.wantsStandIn u) = true := by kernel_rfl
end Go.Proofs.YthopmddkpdehiaaGreatDoor.atomic
end

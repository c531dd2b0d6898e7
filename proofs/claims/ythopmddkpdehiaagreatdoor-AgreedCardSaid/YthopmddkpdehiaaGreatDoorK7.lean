/-
  What the proof stands on, part 7: the logic of walks, the walks through the functions, the plain laws. Conditions: as each theorem says. (Merged and shortened by a program.)
-/
import Derived.Test.YthopmddkpdehiaaGreatDoorTie
import Derived.Test.YthopmddkpdehiaaGreatDoorCards
import Derived.ProofKit
import Derived.Test.YthopmddkpdehiaaGreatDoorK1
import Derived.Test.YthopmddkpdehiaaGreatDoorK2
import Derived.Test.YthopmddkpdehiaaGreatDoorK3
import Derived.Test.YthopmddkpdehiaaGreatDoorK4
import Derived.Test.YthopmddkpdehiaaGreatDoorK5
import Derived.Test.YthopmddkpdehiaaGreatDoorK6
set_option linter.unusedVariables false
set_option linter.unusedSimpArgs false
section
set_option maxRecDepth 100000
namespace Go.Proofs.YthopmddkpdehiaaGreatDoor.agreed
open Go Go.SL Go.Syn Go.Mach Go.ChangeShapes Go.WideShapes Go.ChangeAt Go.RowKit
theorem j_wf : Rows.agreedRow.wf (OpenSpec.ofChange Rows.agreedSpec) = true := by kernel_rfl
theorem aOD : mapsRowed Tryz.prog = true := by kernel_rfl
theorem aOE : (Tryz.f4.params.all (Tryz.prog.readableRec ·)) = true := by kernel_rfl
theorem aPH : namedTie Tryz.prog Rows.agreedRow.named Rows.agreedSpec.vars = true := by kernel_rfl
theorem aPI : (Rows.agreedRow.unfollowed == Tryz.prog.unfollowed 4) = true := by kernel_rfl
theorem aPF : (Rows.agreedRow.inPlace == Tryz.prog.inPlace 4) = true := by kernel_rfl
theorem aPG : (Rows.agreedRow.recurses == Tryz.prog.recurses 4) = true := by kernel_rfl
theorem aL0 : (Rows.agreedRow.named == Tryz.prog.varsNamed 4) = true := by kernel_rfl
theorem aOA : (Rows.agreedRow.plainKeys == Tryz.prog.plainKeys) = true := by kernel_rfl
theorem aOB : (Rows.agreedRow.lifted == Tryz.prog.liftsFinal) = true := by kernel_rfl
theorem aLY : Tryz.prog.stopsHeard = true := by kernel_rfl
theorem aLX : Tryz.prog.mayEnter = true := by kernel_rfl
theorem aOC : (Tryz.prog.make == some Rows.agreedRow.make) = true := by kernel_rfl
theorem aL1 : (Tryz.prog.stops == []) = true := by kernel_rfl
theorem aLZ : (Tryz.prog.stopKnobs == []) = true := by kernel_rfl
theorem aJA : joinedFacts Tryz.prog 4 Tryz.f4 Rows.agreedSpec Rows.agreedRow = true := by
 unfold joinedFacts;rw [j_wf, TzRow.laidOut, aOD, aOE, aPH, aPF, aPI, aPG, aL0, aOA, aOB, aLY, aLX, aOC, aL1, aLZ]
 kernel_rfl
theorem aES : Tryz.prog.funcNamed "mailsieve/mailsievekeep.Agreed" = some 4 := by kernel_rfl
theorem aN5 : Tryz.f4.isInstance Tryz.prog Rows.agreedRow.origin Rows.agreedRow.targs := of_decide_eq_true cK
theorem aN6 : Tryz.f4.isWrapper Tryz.prog Rows.agreedRow.wrapper Rows.agreedRow.mainSum := by
 unfold Func.isWrapper; first | (rw [if_pos (by decide +kernel)]; kernel_rfl) | (rw [if_neg (by decide +kernel)]; exact ⟨rfl, rfl⟩)
theorem c_wf : Rows.agreedRow.wfByText (OpenSpec.ofChange Rows.agreedSpec) = true := by kernel_rfl
theorem aN1 : Tryz.prog.mainIs = some (true, "ea7e164c6fe4da811baffb4706d2ea567aa0efc47f88008a5c64f868f8fc8469".toList) := by kernel_rfl
theorem aN0 : false = Rows.agreedRow.goesBy Tryz.prog := by kernel_rfl
theorem aLJ : true = Tryz.prog.looks [] := by kernel_rfl
theorem aLK : ([9, 28].all fun u => !Tryz.prog.wantsStandIn u) = true := by kernel_rfl
end Go.Proofs.YthopmddkpdehiaaGreatDoor.agreed
end

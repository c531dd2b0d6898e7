/-
  What the proof stands on, part 60: the logic of walks, the walks through the functions, the plain laws. Conditions: as each theorem says. (Merged and shortened by a program.)
-/
import Derived.ProofKit
import GoSem.ClaimSeven
import Derived.Test.YthopmddkpdehiaaGreatDoorK38
set_option linter.unusedVariables false
set_option linter.unusedSimpArgs false
set_option maxRecDepth 4000
set_option maxHeartbeats 1000000
section
set_option maxRecDepth 100000
namespace Go.Proofs.TzRow
open Go Go.ChangeShapes Go.WideShapes Go.ChangeAt Go.RowKit
theorem j_maps:mapsRowed Tryz.prog=true:=by kernel_rfl
theorem j_heard:Tryz.prog.stopsHeard=true:=by kernel_rfl
theorem j_enter:Tryz.prog.mayEnter=true:=by kernel_rfl
theorem j_stops:(Tryz.prog.stops==[])=true:=by kernel_rfl
theorem j_knobs:(Tryz.prog.stopKnobs==[])=true:=by kernel_rfl
theorem c_main:Tryz.prog.mainIs=some (true,"ea7e164c6fe4da811baffb4706d2ea567aa0efc47f88008a5c64f868f8fc8469".toList):=by kernel_rfl
theorem c_looks:true=Tryz.prog.looks []:=by kernel_rfl
end Go.Proofs.TzRow
end

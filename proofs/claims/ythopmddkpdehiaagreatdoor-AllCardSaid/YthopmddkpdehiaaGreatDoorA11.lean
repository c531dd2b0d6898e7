/- Part 11 of what the proof stands on: walks and plain laws. Conditions: as each theorem says. -/
import GoSem.ClaimSeven
import Derived.Test.YthopmddkpdehiaaGreatDoorA10
set_option linter.unusedVariables false
set_option linter.unusedSimpArgs false
set_option linter.defProp false
set_option maxRecDepth 4000
set_option maxHeartbeats 1000000
section
attribute [local irreducible] Go.SL.T Go.SL.OL Go.SL.D Go.SL.DL Go.SL.Ev Go.SL.Ef Go.SL.EfS
section
set_option maxRecDepth 100000
namespace Go.Proofs.TzRow
open Go Go.ChangeShapes Go.WideShapes Go.ChangeAt Go.RowKit
def j_maps:mapsRowed Tryz.prog=true:=cV
def j_heard:Tryz.prog.stopsHeard=true:=cV
def j_enter:Tryz.prog.mayEnter=true:=cV
def j_stops:(Tryz.prog.stops==[])=true:=cV
def j_knobs:(Tryz.prog.stopKnobs==[])=true:=cV
def c_main:Tryz.prog.mainIs=some (true,"ea7e164c6fe4da811baffb4706d2ea567aa0efc47f88008a5c64f868f8fc8469".toList):=cV
def c_looks:true=Tryz.prog.looks []:=cV
end Go.Proofs.TzRow
end
end

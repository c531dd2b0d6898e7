/-
  What the proof stands on, part 35: the logic of walks, the walks through the functions, the plain laws. Conditions: as each theorem says. (Merged and shortened by a program.)
-/
import GoSem.ClaimSeven
import Derived.Test.YthopmddkpdehiabGreatDoorK21
set_option linter.unusedVariables false
set_option linter.unusedSimpArgs false
set_option linter.defProp false
set_option maxRecDepth 4000
set_option maxHeartbeats 1000000
section
set_option maxRecDepth 100000
namespace Go.Proofs.TzRow
open Go Go.ChangeShapes Go.WideShapes Go.ChangeAt Go.RowKit
def j_maps:mapsRowed Tryz.prog=true:=cY
def j_heard:Tryz.prog.stopsHeard=true:=cY
def j_enter:Tryz.prog.mayEnter=true:=cY
def j_stops:(Tryz.prog.stops==[])=true:=cY
def j_knobs:(Tryz.prog.stopKnobs==[])=true:=cY
def c_main:Tryz.prog.mainIs=some (true,"d30d2dbc2ce46fac6bac593c0733b9376cf6309d789444a9794083a1c5b1f0df".toList):=cY
def c_looks:true=Tryz.prog.looks []:=cY
end Go.Proofs.TzRow
end

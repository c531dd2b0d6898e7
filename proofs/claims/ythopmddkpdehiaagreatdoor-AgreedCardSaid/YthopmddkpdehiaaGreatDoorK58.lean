/-
  What the proof stands on, part 58: the logic of walks, the walks through the functions, the plain laws. Conditions: as each theorem says. (Merged and shortened by a program.)
-/
import Derived.Test.YthopmddkpdehiaaGreatDoorTie
import Derived.Test.YthopmddkpdehiaaGreatDoorCards
import Derived.Test.YthopmddkpdehiaaGreatDoorK56
import Derived.Test.YthopmddkpdehiaaGreatDoorK57
set_option linter.unusedVariables false
set_option linter.unusedSimpArgs false
set_option maxRecDepth 4000
set_option maxHeartbeats 1000000
section
set_option maxRecDepth 100000
namespace Go.Proofs.YthopmddkpdehiaaGreatDoor.agreed
open Go Go.SL Go.Syn Go.Mach Go.ChangeShapes Go.WideShapes Go.ChangeAt Go.RowKit
theorem aCK:Rows.agreedRow.wf (OpenSpec.ofChange Rows.agreedSpec)=true:=by kernel_rfl
theorem j_maps:mapsRowed Tryz.prog=true:=by kernel_rfl
theorem o8:(Tryz.f4.params.all (Tryz.prog.readableRec ·))=true:=by kernel_rfl
theorem tL:namedTie Tryz.prog Rows.agreedRow.named Rows.agreedSpec.vars=true:=by kernel_rfl
theorem tQ:(Rows.agreedRow.unfollowed==Tryz.prog.unfollowed 4)=true:=by kernel_rfl
theorem tJ:(Rows.agreedRow.inPlace==Tryz.prog.inPlace 4)=true:=by kernel_rfl
theorem tK:(Rows.agreedRow.recurses==Tryz.prog.recurses 4)=true:=by kernel_rfl
theorem mM:(Rows.agreedRow.named==Tryz.prog.varsNamed 4)=true:=by kernel_rfl
theorem o5:(Rows.agreedRow.plainKeys==Tryz.prog.plainKeys)=true:=by kernel_rfl
theorem o6:(Rows.agreedRow.lifted==Tryz.prog.liftsFinal)=true:=by kernel_rfl
theorem j_heard:Tryz.prog.stopsHeard=true:=by kernel_rfl
theorem j_enter:Tryz.prog.mayEnter=true:=by kernel_rfl
theorem o7:(Tryz.prog.make==some Rows.agreedRow.make)=true:=by kernel_rfl
theorem j_stops:(Tryz.prog.stops==[])=true:=by kernel_rfl
theorem j_knobs:(Tryz.prog.stopKnobs==[])=true:=by kernel_rfl
theorem kU:joinedFacts Tryz.prog 4 Tryz.f4 Rows.agreedSpec Rows.agreedRow=true:=by
 unfold joinedFacts;rw[aCK,TzRow.laidOut,j_maps,o8,tL,tJ,tQ,tK,mM,o5,o6,j_heard,j_enter,o7,j_stops,j_knobs]
 kernel_rfl
theorem iX:Tryz.prog.funcNamed "mailsieve/mailsievekeep.Agreed"=some 4:=by kernel_rfl
theorem o1:Tryz.f4.isInstance Tryz.prog Rows.agreedRow.origin Rows.agreedRow.targs:=of_decide_eq_true bJ
theorem o3:Tryz.f4.isWrapper Tryz.prog Rows.agreedRow.wrapper Rows.agreedRow.mainSum:=by
 unfold Func.isWrapper;first|(rw[if_pos gAH];kernel_rfl)|(rw[if_neg gAH];exact⟨rfl,rfl⟩)
theorem aCA:Rows.agreedRow.wfByText (OpenSpec.ofChange Rows.agreedSpec)=true:=by kernel_rfl
theorem c_main:Tryz.prog.mainIs=some (true,"ea7e164c6fe4da811baffb4706d2ea567aa0efc47f88008a5c64f868f8fc8469".toList):=by kernel_rfl
theorem oZ:false=Rows.agreedRow.goesBy Tryz.prog:=by kernel_rfl
theorem c_looks:true=Tryz.prog.looks []:=by kernel_rfl
theorem mH:([9,28].all fun u=>!Tryz.prog.wantsStandIn u)=true:=by kernel_rfl
end Go.Proofs.YthopmddkpdehiaaGreatDoor.agreed
end

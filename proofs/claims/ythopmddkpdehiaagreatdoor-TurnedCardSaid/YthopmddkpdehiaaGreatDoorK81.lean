/-
  What the proof stands on, part 88: the logic of walks, the walks through the functions, the plain laws. Conditions: as each theorem says. (Merged and shortened by a program.)
-/
import Derived.Test.YthopmddkpdehiaaGreatDoorTie
import Derived.Test.YthopmddkpdehiaaGreatDoorCards
import Derived.Test.YthopmddkpdehiaaGreatDoorK24
import Derived.Test.YthopmddkpdehiaaGreatDoorK55
import Derived.Test.YthopmddkpdehiaaGreatDoorK57
import Derived.Test.YthopmddkpdehiaaGreatDoorK59
set_option linter.unusedVariables false
set_option linter.unusedSimpArgs false
set_option maxRecDepth 4000
set_option maxHeartbeats 1000000
section
set_option maxRecDepth 100000
namespace Go.Proofs.YthopmddkpdehiaaGreatDoor.turned
open Go Go.ChangeShapes Go.WideShapes Go.ChangeAt Go.RowKit
theorem aCK:Rows.turnedRow.wf (OpenSpec.ofChange Rows.turnedSpec)=true:=by kernel_rfl
theorem o8:(Tryz.f13.params.all (Tryz.prog.readableRec ·))=true:=by kernel_rfl
theorem tL:namedTie Tryz.prog Rows.turnedRow.named Rows.turnedSpec.vars=true:=by kernel_rfl
theorem tQ:(Rows.turnedRow.unfollowed==Tryz.prog.unfollowed 13)=true:=by kernel_rfl
theorem tJ:(Rows.turnedRow.inPlace==Tryz.prog.inPlace 13)=true:=by kernel_rfl
theorem tK:(Rows.turnedRow.recurses==Tryz.prog.recurses 13)=true:=by kernel_rfl
theorem mM:(Rows.turnedRow.named==Tryz.prog.varsNamed 13)=true:=by kernel_rfl
theorem o5:(Rows.turnedRow.plainKeys==Tryz.prog.plainKeys)=true:=by kernel_rfl
theorem o6:(Rows.turnedRow.lifted==Tryz.prog.liftsFinal)=true:=by kernel_rfl
theorem o7:(Tryz.prog.make==some Rows.turnedRow.make)=true:=by kernel_rfl
theorem kU:joinedFacts Tryz.prog 13 Tryz.f13 Rows.turnedSpec Rows.turnedRow=true:=by
 unfold joinedFacts;rw[aCK,TzRow.laidOut,TzRow.j_maps,o8,tL,tJ,tQ,tK,mM,o5,o6,TzRow.j_heard,TzRow.j_enter,o7,TzRow.j_stops,TzRow.j_knobs]
 kernel_rfl
theorem iX:Tryz.prog.funcNamed "mailsieve/mailsievekeep.Turned"=some 13:=by kernel_rfl
theorem o1:Tryz.f13.isInstance Tryz.prog Rows.turnedRow.origin Rows.turnedRow.targs:=of_decide_eq_true bJ
theorem o3:Tryz.f13.isWrapper Tryz.prog Rows.turnedRow.wrapper Rows.turnedRow.mainSum:=by
 unfold Func.isWrapper;first|(rw[if_pos gAH];kernel_rfl)|(rw[if_neg gAH];exact⟨rfl,rfl⟩)
theorem aCA:Rows.turnedRow.wfByText (OpenSpec.ofChange Rows.turnedSpec)=true:=by kernel_rfl
theorem oZ:false=Rows.turnedRow.goesBy Tryz.prog:=by kernel_rfl
theorem mH:([9,9,9,28].all fun u=>!Tryz.prog.wantsStandIn u)=true:=by kernel_rfl
end Go.Proofs.YthopmddkpdehiaaGreatDoor.turned
end

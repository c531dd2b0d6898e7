/-
  What the proof stands on, part 83: the logic of walks, the walks through the functions, the plain laws. Conditions: as each theorem says. (Merged and shortened by a program.)
-/
import Derived.Test.YthopmddkpdehiaaGreatDoorTie
import Derived.Test.YthopmddkpdehiaaGreatDoorCards
import Derived.Test.YthopmddkpdehiaaGreatDoorK24
import Derived.Test.YthopmddkpdehiaaGreatDoorK55
import Derived.Test.YthopmddkpdehiaaGreatDoorK57
import Derived.Test.YthopmddkpdehiaaGreatDoorK59
set_option linter.unusedVariables false
set_option linter.unusedSimpArgs false
set_option maxRecDepth 4000
set_option maxHeartbeats 1000000
section
set_option maxRecDepth 100000
namespace Go.Proofs.YthopmddkpdehiaaGreatDoor.same
open Go Go.ChangeShapes Go.WideShapes Go.ChangeAt Go.RowKit
theorem aCK:Rows.sameRow.wf (OpenSpec.ofChange Rows.sameSpec)=true:=by kernel_rfl
theorem o8:(Tryz.f12.params.all (Tryz.prog.readableRec ·))=true:=by kernel_rfl
theorem tL:namedTie Tryz.prog Rows.sameRow.named Rows.sameSpec.vars=true:=by kernel_rfl
theorem tQ:(Rows.sameRow.unfollowed==Tryz.prog.unfollowed 12)=true:=by kernel_rfl
theorem tJ:(Rows.sameRow.inPlace==Tryz.prog.inPlace 12)=true:=by kernel_rfl
theorem tK:(Rows.sameRow.recurses==Tryz.prog.recurses 12)=true:=by kernel_rfl
theorem mM:(Rows.sameRow.named==Tryz.prog.varsNamed 12)=true:=by kernel_rfl
theorem o5:(Rows.sameRow.plainKeys==Tryz.prog.plainKeys)=true:=by kernel_rfl
theorem o6:(Rows.sameRow.lifted==Tryz.prog.liftsFinal)=true:=by kernel_rfl
theorem o7:(Tryz.prog.make==some Rows.sameRow.make)=true:=by kernel_rfl
theorem kU:joinedFacts Tryz.prog 12 Tryz.f12 Rows.sameSpec Rows.sameRow=true:=by
 unfold joinedFacts;rw[aCK,TzRow.laidOut,TzRow.j_maps,o8,tL,tJ,tQ,tK,mM,o5,o6,TzRow.j_heard,TzRow.j_enter,o7,TzRow.j_stops,TzRow.j_knobs]
 kernel_rfl
theorem iX:Tryz.prog.funcNamed "mailsieve/mailsievekeep.Same"=some 12:=by kernel_rfl
theorem o1:Tryz.f12.isInstance Tryz.prog Rows.sameRow.origin Rows.sameRow.targs:=of_decide_eq_true bJ
theorem o3:Tryz.f12.isWrapper Tryz.prog Rows.sameRow.wrapper Rows.sameRow.mainSum:=by
 unfold Func.isWrapper;first|(rw[if_pos gAH];kernel_rfl)|(rw[if_neg gAH];exact⟨rfl,rfl⟩)
theorem aCA:Rows.sameRow.wfByText (OpenSpec.ofChange Rows.sameSpec)=true:=by kernel_rfl
theorem oZ:false=Rows.sameRow.goesBy Tryz.prog:=by kernel_rfl
theorem mH:([9,28].all fun u=>!Tryz.prog.wantsStandIn u)=true:=by kernel_rfl
end Go.Proofs.YthopmddkpdehiaaGreatDoor.same
end

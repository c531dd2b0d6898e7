/-
  What the proof stands on, part 81: the logic of walks, the walks through the functions, the plain laws. Conditions: as each theorem says. (Merged and shortened by a program.)
-/
import Derived.Test.YthopmddkpdehiaaGreatDoorTie
import Derived.Test.YthopmddkpdehiaaGreatDoorCards
import Derived.Test.YthopmddkpdehiaaGreatDoorK49
import Derived.Test.YthopmddkpdehiaaGreatDoorK59
set_option linter.unusedVariables false
set_option linter.unusedSimpArgs false
set_option maxRecDepth 4000
set_option maxHeartbeats 1000000
section
set_option maxRecDepth 100000
namespace Go.Proofs.YthopmddkpdehiaaGreatDoor.atomic
open Go Go.ChangeShapes Go.WideShapes Go.ChangeAt Go.RowKit
theorem aCK:Rows.atomicRow.wf (OpenSpec.ofChange Rows.atomicSpec)=true:=by kernel_rfl
theorem o8:(Tryz.f11.params.all (Tryz.prog.readableRec ·))=true:=by kernel_rfl
theorem tL:namedTie Tryz.prog Rows.atomicRow.named Rows.atomicSpec.vars=true:=by kernel_rfl
theorem tQ:(Rows.atomicRow.unfollowed==Tryz.prog.unfollowed 11)=true:=by kernel_rfl
theorem tJ:(Rows.atomicRow.inPlace==Tryz.prog.inPlace 11)=true:=by kernel_rfl
theorem tK:(Rows.atomicRow.recurses==Tryz.prog.recurses 11)=true:=by kernel_rfl
theorem mM:(Rows.atomicRow.named==Tryz.prog.varsNamed 11)=true:=by kernel_rfl
theorem o5:(Rows.atomicRow.plainKeys==Tryz.prog.plainKeys)=true:=by kernel_rfl
theorem o6:(Rows.atomicRow.lifted==Tryz.prog.liftsFinal)=true:=by kernel_rfl
theorem o7:(Tryz.prog.make==some Rows.atomicRow.make)=true:=by kernel_rfl
theorem kU:joinedFacts Tryz.prog 11 Tryz.f11 Rows.atomicSpec Rows.atomicRow=true:=by
 unfold joinedFacts;rw[aCK,TzRow.laidOut,TzRow.j_maps,o8,tL,tJ,tQ,tK,mM,o5,o6,TzRow.j_heard,TzRow.j_enter,o7,TzRow.j_stops,TzRow.j_knobs]
 kernel_rfl
theorem iX:Tryz.prog.funcNamed "mailsieve/mailsievelaw.Atomic"=some 11:=by kernel_rfl
theorem o1:Tryz.f11.isInstance Tryz.prog Rows.atomicRow.origin Rows.atomicRow.targs:=of_decide_eq_true bJ
theorem o3:Tryz.f11.isWrapper Tryz.prog Rows.atomicRow.wrapper Rows.atomicRow.mainSum:=by
 unfold Func.isWrapper;first|(rw[if_pos gAH];kernel_rfl)|(rw[if_neg gAH];exact⟨rfl,rfl⟩)
theorem aCA:Rows.atomicRow.wfByText (OpenSpec.ofChange Rows.atomicSpec)=true:=by kernel_rfl
theorem oZ:false=Rows.atomicRow.goesBy Tryz.prog:=by kernel_rfl
theorem mH:([68].all fun u=>!Tryz.prog.wantsStandIn u)=true:=by kernel_rfl
end Go.Proofs.YthopmddkpdehiaaGreatDoor.atomic
end

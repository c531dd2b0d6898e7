/-
  What the proof stands on, part 73: the logic of walks, the walks through the functions, the plain laws. Conditions: as each theorem says. (Merged and shortened by a program.)
-/
import Derived.Test.YthopmddkpdehiaaGreatDoorTie
import Derived.Test.YthopmddkpdehiaaGreatDoorCards
import Derived.Test.YthopmddkpdehiaaGreatDoorK11
import Derived.Test.YthopmddkpdehiaaGreatDoorK54
import Derived.Test.YthopmddkpdehiaaGreatDoorK59
set_option linter.unusedVariables false
set_option linter.unusedSimpArgs false
set_option maxRecDepth 4000
set_option maxHeartbeats 1000000
section
set_option maxRecDepth 100000
namespace Go.Proofs.YthopmddkpdehiaaGreatDoor.through
open Go Go.ChangeShapes Go.WideShapes Go.ChangeAt Go.RowKit
theorem aCK:Rows.throughRow.wf (OpenSpec.ofChange Rows.throughSpec)=true:=by kernel_rfl
theorem o8:(Tryz.f8.params.all (Tryz.prog.readableRec ·))=true:=by kernel_rfl
theorem tL:namedTie Tryz.prog Rows.throughRow.named Rows.throughSpec.vars=true:=by kernel_rfl
theorem tQ:(Rows.throughRow.unfollowed==Tryz.prog.unfollowed 8)=true:=by kernel_rfl
theorem tJ:(Rows.throughRow.inPlace==Tryz.prog.inPlace 8)=true:=by kernel_rfl
theorem tK:(Rows.throughRow.recurses==Tryz.prog.recurses 8)=true:=by kernel_rfl
theorem mM:(Rows.throughRow.named==Tryz.prog.varsNamed 8)=true:=by kernel_rfl
theorem o5:(Rows.throughRow.plainKeys==Tryz.prog.plainKeys)=true:=by kernel_rfl
theorem o6:(Rows.throughRow.lifted==Tryz.prog.liftsFinal)=true:=by kernel_rfl
theorem o7:(Tryz.prog.make==some Rows.throughRow.make)=true:=by kernel_rfl
theorem kU:joinedFacts Tryz.prog 8 Tryz.f8 Rows.throughSpec Rows.throughRow=true:=by
 unfold joinedFacts;rw[aCK,TzRow.laidOut,TzRow.j_maps,o8,tL,tJ,tQ,tK,mM,o5,o6,TzRow.j_heard,TzRow.j_enter,o7,TzRow.j_stops,TzRow.j_knobs]
 kernel_rfl
theorem iX:Tryz.prog.funcNamed "mailsieve/mailsievekeep.Through"=some 8:=by kernel_rfl
theorem o1:Tryz.f8.isInstance Tryz.prog Rows.throughRow.origin Rows.throughRow.targs:=of_decide_eq_true bJ
theorem o3:Tryz.f8.isWrapper Tryz.prog Rows.throughRow.wrapper Rows.throughRow.mainSum:=by
 unfold Func.isWrapper;first|(rw[if_pos gAH];kernel_rfl)|(rw[if_neg gAH];exact⟨rfl,rfl⟩)
theorem aCA:Rows.throughRow.wfByText (OpenSpec.ofChange Rows.throughSpec)=true:=by kernel_rfl
theorem oZ:false=Rows.throughRow.goesBy Tryz.prog:=by kernel_rfl
theorem mH:([9,28,3,3,3].all fun u=>!Tryz.prog.wantsStandIn u)=true:=by kernel_rfl
end Go.Proofs.YthopmddkpdehiaaGreatDoor.through
end

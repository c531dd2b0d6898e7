/-
  What the proof stands on, part 77: the logic of walks, the walks through the functions, the plain laws. Conditions: as each theorem says. (Merged and shortened by a program.)
-/
import Derived.Test.YthopmddkpdehiaaGreatDoorTie
import Derived.Test.YthopmddkpdehiaaGreatDoorCards
import Derived.Test.YthopmddkpdehiaaGreatDoorK49
import Derived.Test.YthopmddkpdehiaaGreatDoorK59
set_option linter.unusedVariables false
set_option linter.unusedSimpArgs false
set_option maxRecDepth 4000
set_option maxHeartbeats 1000000
section
set_option maxRecDepth 100000
namespace Go.Proofs.YthopmddkpdehiaaGreatDoor.delivered
open Go Go.ChangeShapes Go.WideShapes Go.ChangeAt Go.RowKit
theorem aCK:Rows.deliveredRow.wf (OpenSpec.ofChange Rows.deliveredSpec)=true:=by kernel_rfl
theorem o8:(Tryz.f10.params.all (Tryz.prog.readableRec ·))=true:=by kernel_rfl
theorem tL:namedTie Tryz.prog Rows.deliveredRow.named Rows.deliveredSpec.vars=true:=by kernel_rfl
theorem tQ:(Rows.deliveredRow.unfollowed==Tryz.prog.unfollowed 10)=true:=by kernel_rfl
theorem tJ:(Rows.deliveredRow.inPlace==Tryz.prog.inPlace 10)=true:=by kernel_rfl
theorem tK:(Rows.deliveredRow.recurses==Tryz.prog.recurses 10)=true:=by kernel_rfl
theorem mM:(Rows.deliveredRow.named==Tryz.prog.varsNamed 10)=true:=by kernel_rfl
theorem o5:(Rows.deliveredRow.plainKeys==Tryz.prog.plainKeys)=true:=by kernel_rfl
theorem o6:(Rows.deliveredRow.lifted==Tryz.prog.liftsFinal)=true:=by kernel_rfl
theorem o7:(Tryz.prog.make==some Rows.deliveredRow.make)=true:=by kernel_rfl
theorem kU:joinedFacts Tryz.prog 10 Tryz.f10 Rows.deliveredSpec Rows.deliveredRow=true:=by
 unfold joinedFacts;rw[aCK,TzRow.laidOut,TzRow.j_maps,o8,tL,tJ,tQ,tK,mM,o5,o6,TzRow.j_heard,TzRow.j_enter,o7,TzRow.j_stops,TzRow.j_knobs]
 kernel_rfl
theorem iX:Tryz.prog.funcNamed "mailsieve/mailsievelaw.Delivered"=some 10:=by kernel_rfl
theorem o1:Tryz.f10.isInstance Tryz.prog Rows.deliveredRow.origin Rows.deliveredRow.targs:=of_decide_eq_true bJ
theorem o3:Tryz.f10.isWrapper Tryz.prog Rows.deliveredRow.wrapper Rows.deliveredRow.mainSum:=by
 unfold Func.isWrapper;first|(rw[if_pos gAH];kernel_rfl)|(rw[if_neg gAH];exact⟨rfl,rfl⟩)
theorem aCA:Rows.deliveredRow.wfByText (OpenSpec.ofChange Rows.deliveredSpec)=true:=by kernel_rfl
theorem oZ:false=Rows.deliveredRow.goesBy Tryz.prog:=by kernel_rfl
theorem mH:([68].all fun u=>!Tryz.prog.wantsStandIn u)=true:=by kernel_rfl
end Go.Proofs.YthopmddkpdehiaaGreatDoor.delivered
end

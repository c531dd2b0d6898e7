/-
  What the proof stands on, part 61: the logic of walks, the walks through the functions, the plain laws. Conditions: as each theorem says. (Merged and shortened by a program.)
-/
import Derived.Test.YthopmddkpdehiaaGreatDoorTie
import Derived.Test.YthopmddkpdehiaaGreatDoorCards
import Derived.Test.YthopmddkpdehiaaGreatDoorK57
import Derived.Test.YthopmddkpdehiaaGreatDoorK59
set_option linter.unusedVariables false
set_option linter.unusedSimpArgs false
set_option maxRecDepth 4000
set_option maxHeartbeats 1000000
section
set_option maxRecDepth 100000
namespace Go.Proofs.YthopmddkpdehiaaGreatDoor.globbed
open Go Go.ChangeShapes Go.WideShapes Go.ChangeAt Go.RowKit
theorem aCK:Rows.globbedRow.wf (OpenSpec.ofChange Rows.globbedSpec)=true:=by kernel_rfl
theorem o8:(Tryz.f3.params.all (Tryz.prog.readableRec ·))=true:=by kernel_rfl
theorem tL:namedTie Tryz.prog Rows.globbedRow.named Rows.globbedSpec.vars=true:=by kernel_rfl
theorem tQ:(Rows.globbedRow.unfollowed==Tryz.prog.unfollowed 3)=true:=by kernel_rfl
theorem tJ:(Rows.globbedRow.inPlace==Tryz.prog.inPlace 3)=true:=by kernel_rfl
theorem tK:(Rows.globbedRow.recurses==Tryz.prog.recurses 3)=true:=by kernel_rfl
theorem mM:(Rows.globbedRow.named==Tryz.prog.varsNamed 3)=true:=by kernel_rfl
theorem o5:(Rows.globbedRow.plainKeys==Tryz.prog.plainKeys)=true:=by kernel_rfl
theorem o6:(Rows.globbedRow.lifted==Tryz.prog.liftsFinal)=true:=by kernel_rfl
theorem o7:(Tryz.prog.make==some Rows.globbedRow.make)=true:=by kernel_rfl
theorem kU:joinedFacts Tryz.prog 3 Tryz.f3 Rows.globbedSpec Rows.globbedRow=true:=by
 unfold joinedFacts;rw[aCK,TzRow.laidOut,TzRow.j_maps,o8,tL,tJ,tQ,tK,mM,o5,o6,TzRow.j_heard,TzRow.j_enter,o7,TzRow.j_stops,TzRow.j_knobs]
 kernel_rfl
theorem iX:Tryz.prog.funcNamed "mailsieve/mailsievekeep.Globbed"=some 3:=by kernel_rfl
theorem o1:Tryz.f3.isInstance Tryz.prog Rows.globbedRow.origin Rows.globbedRow.targs:=of_decide_eq_true bJ
theorem o3:Tryz.f3.isWrapper Tryz.prog Rows.globbedRow.wrapper Rows.globbedRow.mainSum:=by
 unfold Func.isWrapper;first|(rw[if_pos gAH];kernel_rfl)|(rw[if_neg gAH];exact⟨rfl,rfl⟩)
theorem aCA:Rows.globbedRow.wfByText (OpenSpec.ofChange Rows.globbedSpec)=true:=by kernel_rfl
theorem oZ:false=Rows.globbedRow.goesBy Tryz.prog:=by kernel_rfl
theorem mH:([9,3,3].all fun u=>!Tryz.prog.wantsStandIn u)=true:=by kernel_rfl
end Go.Proofs.YthopmddkpdehiaaGreatDoor.globbed
end

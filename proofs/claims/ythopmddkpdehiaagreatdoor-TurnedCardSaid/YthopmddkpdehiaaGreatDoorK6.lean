/-
  What the proof stands on, part 6: the logic of walks, the walks through the functions, the plain laws. Conditions: as each theorem says. (Merged and shortened by a program.)
-/
import Derived.Test.YthopmddkpdehiaaGreatDoorTie
import Derived.Test.YthopmddkpdehiaaGreatDoorCards
import Derived.Test.YthopmddkpdehiaaGreatDoorK1
import Derived.Test.YthopmddkpdehiaaGreatDoorK2
import Derived.Test.YthopmddkpdehiaaGreatDoorK3
import Derived.Test.YthopmddkpdehiaaGreatDoorK4
import Derived.Test.YthopmddkpdehiaaGreatDoorK5
set_option linter.unusedVariables false
set_option linter.unusedSimpArgs false
set_option maxRecDepth 4000
set_option maxHeartbeats 1000000
section
set_option maxRecDepth 100000
namespace Go.Proofs.YthopmddkpdehiaaGreatDoor.turned
open Go Go.ChangeShapes Go.WideShapes Go.ChangeAt Go.RowKit
theorem j_wf:Rows.turnedRow.wf (OpenSpec.ofChange Rows.turnedSpec)=true:=by kernel_rfl
theorem bAS:(Tryz.f13.params.all (Tryz.prog.readableRec ·))=true:=by kernel_rfl
theorem bCG:namedTie Tryz.prog Rows.turnedRow.named Rows.turnedSpec.vars=true:=by kernel_rfl
theorem bCH:(Rows.turnedRow.unfollowed==Tryz.prog.unfollowed 13)=true:=by kernel_rfl
theorem bCE:(Rows.turnedRow.inPlace==Tryz.prog.inPlace 13)=true:=by kernel_rfl
theorem bCF:(Rows.turnedRow.recurses==Tryz.prog.recurses 13)=true:=by kernel_rfl
theorem aXF:(Rows.turnedRow.named==Tryz.prog.varsNamed 13)=true:=by kernel_rfl
theorem bAP:(Rows.turnedRow.plainKeys==Tryz.prog.plainKeys)=true:=by kernel_rfl
theorem bAQ:(Rows.turnedRow.lifted==Tryz.prog.liftsFinal)=true:=by kernel_rfl
theorem bAR:(Tryz.prog.make==some Rows.turnedRow.make)=true:=by kernel_rfl
theorem aTB:joinedFacts Tryz.prog 13 Tryz.f13 Rows.turnedSpec Rows.turnedRow=true:=by
 unfold joinedFacts;rw[j_wf,TzRow.laidOut,TzRow.j_maps,bAS,bCG,bCE,bCH,bCF,aXF,bAP,bAQ,TzRow.j_heard,TzRow.j_enter,bAR,TzRow.j_stops,TzRow.j_knobs]
 kernel_rfl
theorem aNO:Tryz.prog.funcNamed "mailsieve/mailsievekeep.Turned"=some 13:=by kernel_rfl
theorem bAK:Tryz.f13.isInstance Tryz.prog Rows.turnedRow.origin Rows.turnedRow.targs:=of_decide_eq_true b0
theorem bAL:Tryz.f13.isWrapper Tryz.prog Rows.turnedRow.wrapper Rows.turnedRow.mainSum:=by
 unfold Func.isWrapper;first|(rw[if_pos gBP];kernel_rfl)|(rw[if_neg gBP];exact⟨rfl,rfl⟩)
theorem c_wf:Rows.turnedRow.wfByText (OpenSpec.ofChange Rows.turnedSpec)=true:=by kernel_rfl
theorem bAC:false=Rows.turnedRow.goesBy Tryz.prog:=by kernel_rfl
theorem aWP:([9,9,9,28].all fun u=>!Tryz.prog.wantsStandIn u)=true:=by kernel_rfl
end Go.Proofs.YthopmddkpdehiaaGreatDoor.turned
end

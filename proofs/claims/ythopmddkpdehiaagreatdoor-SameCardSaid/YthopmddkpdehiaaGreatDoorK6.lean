/-
  What the proof stands on, part 6: the logic of walks, the walks through the functions, the plain laws. Conditions: as each theorem says. (Merged and shortened by a program.)
-/
import Derived.Test.YthopmddkpdehiaaGreatDoorTie
import Derived.Test.YthopmddkpdehiaaGreatDoorCards
import Derived.Test.YthopmddkpdehiaaGreatDoorK1
import Derived.Test.YthopmddkpdehiaaGreatDoorK2
import Derived.Test.YthopmddkpdehiaaGreatDoorK3
import Derived.Test.YthopmddkpdehiaaGreatDoorK4
import Derived.Test.YthopmddkpdehiaaGreatDoorK5
set_option linter.unusedVariables false
set_option linter.unusedSimpArgs false
set_option maxRecDepth 4000
set_option maxHeartbeats 1000000
section
set_option maxRecDepth 100000
namespace Go.Proofs.YthopmddkpdehiaaGreatDoor.same
open Go Go.ChangeShapes Go.WideShapes Go.ChangeAt Go.RowKit
theorem j_wf:Rows.sameRow.wf (OpenSpec.ofChange Rows.sameSpec)=true:=by kernel_rfl
theorem aYX:(Tryz.f12.params.all (Tryz.prog.readableRec ·))=true:=by kernel_rfl
theorem bAD:namedTie Tryz.prog Rows.sameRow.named Rows.sameSpec.vars=true:=by kernel_rfl
theorem bAE:(Rows.sameRow.unfollowed==Tryz.prog.unfollowed 12)=true:=by kernel_rfl
theorem bAB:(Rows.sameRow.inPlace==Tryz.prog.inPlace 12)=true:=by kernel_rfl
theorem bAC:(Rows.sameRow.recurses==Tryz.prog.recurses 12)=true:=by kernel_rfl
theorem aVN:(Rows.sameRow.named==Tryz.prog.varsNamed 12)=true:=by kernel_rfl
theorem aYU:(Rows.sameRow.plainKeys==Tryz.prog.plainKeys)=true:=by kernel_rfl
theorem aYV:(Rows.sameRow.lifted==Tryz.prog.liftsFinal)=true:=by kernel_rfl
theorem aYW:(Tryz.prog.make==some Rows.sameRow.make)=true:=by kernel_rfl
theorem aRN:joinedFacts Tryz.prog 12 Tryz.f12 Rows.sameSpec Rows.sameRow=true:=by
 unfold joinedFacts;rw[j_wf,TzRow.laidOut,TzRow.j_maps,aYX,bAD,bAB,bAE,bAC,aVN,aYU,aYV,TzRow.j_heard,TzRow.j_enter,aYW,TzRow.j_stops,TzRow.j_knobs]
 kernel_rfl
theorem aL0:Tryz.prog.funcNamed "mailsieve/mailsievekeep.Same"=some 12:=by kernel_rfl
theorem aYP:Tryz.f12.isInstance Tryz.prog Rows.sameRow.origin Rows.sameRow.targs:=of_decide_eq_true b0
theorem aYQ:Tryz.f12.isWrapper Tryz.prog Rows.sameRow.wrapper Rows.sameRow.mainSum:=by
 unfold Func.isWrapper;first|(rw[if_pos gBO];kernel_rfl)|(rw[if_neg gBO];exact⟨rfl,rfl⟩)
theorem c_wf:Rows.sameRow.wfByText (OpenSpec.ofChange Rows.sameSpec)=true:=by kernel_rfl
theorem aYI:false=Rows.sameRow.goesBy Tryz.prog:=by kernel_rfl
theorem aU2:([9,28].all fun u=>!Tryz.prog.wantsStandIn u)=true:=by kernel_rfl
end Go.Proofs.YthopmddkpdehiaaGreatDoor.same
end

/-
  What the proof stands on, part 7: the logic of walks, the walks through the functions, the plain laws. Conditions: as each theorem says. (Merged and shortened by a program.)
-/
import Derived.Test.YthopmddkpdehiaaGreatDoorTie
import Derived.Test.YthopmddkpdehiaaGreatDoorCards
import Derived.Test.YthopmddkpdehiaaGreatDoorK1
import Derived.Test.YthopmddkpdehiaaGreatDoorK2
import Derived.Test.YthopmddkpdehiaaGreatDoorK3
import Derived.Test.YthopmddkpdehiaaGreatDoorK4
import Derived.Test.YthopmddkpdehiaaGreatDoorK5
import Derived.Test.YthopmddkpdehiaaGreatDoorK6
set_option linter.unusedVariables false
set_option linter.unusedSimpArgs false
section
set_option maxRecDepth 100000
namespace Go.Proofs.YthopmddkpdehiaaGreatDoor.through
open Go Go.ChangeShapes Go.WideShapes Go.ChangeAt Go.RowKit
theorem j_wf:Rows.throughRow.wf (OpenSpec.ofChange Rows.throughSpec)=true:=by kernel_rfl
theorem aWU:(Tryz.f8.params.all (Tryz.prog.readableRec ·))=true:=by kernel_rfl
theorem aX8:namedTie Tryz.prog Rows.throughRow.named Rows.throughSpec.vars=true:=by kernel_rfl
theorem aX9:(Rows.throughRow.unfollowed==Tryz.prog.unfollowed 8)=true:=by kernel_rfl
theorem aX6:(Rows.throughRow.inPlace==Tryz.prog.inPlace 8)=true:=by kernel_rfl
theorem aX7:(Rows.throughRow.recurses==Tryz.prog.recurses 8)=true:=by kernel_rfl
theorem aTX:(Rows.throughRow.named==Tryz.prog.varsNamed 8)=true:=by kernel_rfl
theorem aWR:(Rows.throughRow.plainKeys==Tryz.prog.plainKeys)=true:=by kernel_rfl
theorem aWS:(Rows.throughRow.lifted==Tryz.prog.liftsFinal)=true:=by kernel_rfl
theorem aWT:(Tryz.prog.make==some Rows.throughRow.make)=true:=by kernel_rfl
theorem aQE:joinedFacts Tryz.prog 8 Tryz.f8 Rows.throughSpec Rows.throughRow=true:=by
 unfold joinedFacts;rw[j_wf,TzRow.laidOut,TzRow.j_maps,aWU,aX8,aX6,aX9,aX7,aTX,aWR,aWS,TzRow.j_heard,TzRow.j_enter,aWT,TzRow.j_stops,TzRow.j_knobs]
 kernel_rfl
theorem aKP:Tryz.prog.funcNamed "mailsieve/mailsievekeep.Through"=some 8:=by kernel_rfl
theorem aWM:Tryz.f8.isInstance Tryz.prog Rows.throughRow.origin Rows.throughRow.targs:=of_decide_eq_true bR
theorem aWN:Tryz.f8.isWrapper Tryz.prog Rows.throughRow.wrapper Rows.throughRow.mainSum:=by
 unfold Func.isWrapper;first|(rw[if_pos (by decide+kernel)];kernel_rfl)|(rw[if_neg (by decide+kernel)];exact⟨rfl,rfl⟩)
theorem c_wf:Rows.throughRow.wfByText (OpenSpec.ofChange Rows.throughSpec)=true:=by kernel_rfl
theorem aWE:false=Rows.throughRow.goesBy Tryz.prog:=by kernel_rfl
theorem aTC:([9,28,3,3,3].all fun u=>!Tryz.prog.wantsStandIn u)=true:=by kernel_rfl
end Go.Proofs.YthopmddkpdehiaaGreatDoor.through
end

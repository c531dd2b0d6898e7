/-
  What the proof stands on, part 67: the logic of walks, the walks through the functions, the plain laws. Conditions: as each theorem says. (Merged and shortened by a program.)
-/
import Derived.Test.YthopmddkpdehiaaGreatDoorTie
import Derived.Test.YthopmddkpdehiaaGreatDoorCards
import Derived.Test.YthopmddkpdehiaaGreatDoorK36
import Derived.Test.YthopmddkpdehiaaGreatDoorK37
import Derived.Test.YthopmddkpdehiaaGreatDoorK59
set_option linter.unusedVariables false
set_option linter.unusedSimpArgs false
set_option maxRecDepth 4000
set_option maxHeartbeats 1000000
section
set_option maxRecDepth 100000
namespace Go.Proofs.YthopmddkpdehiaaGreatDoor.twice
open Go Go.ChangeShapes Go.WideShapes Go.ChangeAt Go.RowKit
theorem aCK:Rows.twiceUptoRow.wf (OpenSpec.ofChange (Rows.OpenSpec.upto Rows.twiceSpec).bare)=true:=by kernel_rfl
theorem o8:(Tryz.f9.params.all (Tryz.prog.readableRec ·))=true:=by kernel_rfl
theorem tL:namedTie Tryz.prog Rows.twiceUptoRow.named (Rows.OpenSpec.upto Rows.twiceSpec).bare.vars=true:=by kernel_rfl
theorem tQ:(Rows.twiceUptoRow.unfollowed==Tryz.prog.unfollowed 9)=true:=by kernel_rfl
theorem tJ:(Rows.twiceUptoRow.inPlace==Tryz.prog.inPlace 9)=true:=by kernel_rfl
theorem tK:(Rows.twiceUptoRow.recurses==Tryz.prog.recurses 9)=true:=by kernel_rfl
theorem mM:(Rows.twiceUptoRow.named==Tryz.prog.varsNamed 9)=true:=by kernel_rfl
theorem o5:(Rows.twiceUptoRow.plainKeys==Tryz.prog.plainKeys)=true:=by kernel_rfl
theorem o6:(Rows.twiceUptoRow.lifted==Tryz.prog.liftsFinal)=true:=by kernel_rfl
theorem o7:(Tryz.prog.make==some Rows.twiceUptoRow.make)=true:=by kernel_rfl
theorem kU:joinedFacts Tryz.prog 9 Tryz.f9 (Rows.OpenSpec.upto Rows.twiceSpec).bare Rows.twiceUptoRow=true:=by
 unfold joinedFacts;rw[aCK,TzRow.laidOut,TzRow.j_maps,o8,tL,tJ,tQ,tK,mM,o5,o6,TzRow.j_heard,TzRow.j_enter,o7,TzRow.j_stops,TzRow.j_knobs]
 kernel_rfl
theorem iX:Tryz.prog.funcNamed "mailsieve/mailsievekeep.Twice"=some 9:=by kernel_rfl
theorem o1:Tryz.f9.isInstance Tryz.prog Rows.twiceUptoRow.origin Rows.twiceUptoRow.targs:=of_decide_eq_true bJ
theorem o3:Tryz.f9.isWrapper Tryz.prog Rows.twiceUptoRow.wrapper Rows.twiceUptoRow.mainSum:=by
 unfold Func.isWrapper;first|(rw[if_pos gAH];kernel_rfl)|(rw[if_neg gAH];exact⟨rfl,rfl⟩)
theorem aCA:Rows.twiceUptoRow.wfByText (Rows.OpenSpec.upto Rows.twiceSpec)=true:=by kernel_rfl
theorem oZ:false=Rows.twiceUptoRow.goesBy Tryz.prog:=by kernel_rfl
theorem mH:([9,29,9].all fun u=>!Tryz.prog.wantsStandIn u)=true:=by kernel_rfl
end Go.Proofs.YthopmddkpdehiaaGreatDoor.twice
end

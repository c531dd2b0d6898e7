/-
  What the proof stands on, part 51: the logic of walks, the walks through the functions, the plain laws. Conditions: as each theorem says. (Merged and shortened by a program.)
-/
import Derived.Test.YthopmddkpdehiabGreatDoorTie
import Derived.Test.YthopmddkpdehiabGreatDoorCards
import Derived.Test.YthopmddkpdehiabGreatDoorK34
import Derived.Test.YthopmddkpdehiabGreatDoorK35
set_option linter.unusedVariables false
set_option linter.unusedSimpArgs false
set_option linter.defProp false
set_option maxRecDepth 4000
set_option maxHeartbeats 1000000
section
set_option maxRecDepth 100000
namespace Go.Proofs.YthopmddkpdehiabGreatDoor.executed
open Go Go.ChangeShapes Go.WideShapes Go.ChangeAt Go.RowKit
def aS3:Rows.executedRow.wf (OpenSpec.ofChange Rows.executedSpec)=true:=cY
def aAT:(Tryz.f6.params.all (x3.readableRec ·))=true:=cY
def aG7:namedTie x3 Rows.executedRow.named Rows.executedSpec.vars=true:=cY
def aG8:(Rows.executedRow.unfollowed==x3.unfollowed 6)=true:=cY
def aG5:(Rows.executedRow.inPlace==x3.inPlace 6)=true:=cY
def aG6:(Rows.executedRow.recurses==x3.recurses 6)=true:=cY
def vY:(Rows.executedRow.named==x3.varsNamed 6)=true:=cY
def aAQ:(Rows.executedRow.plainKeys==x3.plainKeys)=true:=cY
def aAR:(Rows.executedRow.lifted==x3.liftsFinal)=true:=cY
def aAS:(x3.make==some Rows.executedRow.make)=true:=cY
def sW:joinedFacts x3 6 Tryz.f6 Rows.executedSpec Rows.executedRow=true:=by
 unfold joinedFacts;rw[aS3,TzRow.laidOut,TzRow.j_maps,aAT,aG7,aG5,aG8,aG6,vY,aAQ,aAR,TzRow.j_heard,TzRow.j_enter,aAS,TzRow.j_stops,TzRow.j_knobs]
 kernel_rfl
def o9:x3.funcNamed "mailsieve/mailsievelaw.Executed"=some 6:=cY
def aAL:Tryz.f6.isInstance x3 Rows.executedRow.origin Rows.executedRow.targs:=xAH cY
def aAM:Tryz.f6.isWrapper x3 Rows.executedRow.wrapper Rows.executedRow.mainSum:=by
 unfold Func.isWrapper;first|(rw[x7 gC5];kernel_rfl)|(rw[x5 gC5];exact⟨Y,Y⟩)
def aR2:Rows.executedRow.wfByText (OpenSpec.ofChange Rows.executedSpec)=true:=cY
def aAE:false=Rows.executedRow.goesBy x3:=cY
def vQ:([22].all fun u=>!x3.wantsStandIn u)=true:=cY
end Go.Proofs.YthopmddkpdehiabGreatDoor.executed
end

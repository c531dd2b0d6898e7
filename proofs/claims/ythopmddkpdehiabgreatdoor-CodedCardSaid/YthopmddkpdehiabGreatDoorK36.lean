/-
  What the proof stands on, part 36: the logic of walks, the walks through the functions, the plain laws. Conditions: as each theorem says. (Merged and shortened by a program.)
-/
import Derived.Test.YthopmddkpdehiabGreatDoorTie
import Derived.Test.YthopmddkpdehiabGreatDoorCards
import Derived.Test.YthopmddkpdehiabGreatDoorK33
import Derived.Test.YthopmddkpdehiabGreatDoorK35
set_option linter.unusedVariables false
set_option linter.unusedSimpArgs false
set_option linter.defProp false
set_option maxRecDepth 4000
set_option maxHeartbeats 1000000
section
set_option maxRecDepth 100000
namespace Go.Proofs.YthopmddkpdehiabGreatDoor.coded
open Go Go.ChangeShapes Go.WideShapes Go.ChangeAt Go.RowKit
def aS3:Rows.codedRow.wf (OpenSpec.ofChange Rows.codedSpec)=true:=cY
def aAT:(Tryz.f5.params.all (x3.readableRec ·))=true:=cY
def aG7:namedTie x3 Rows.codedRow.named Rows.codedSpec.vars=true:=cY
def aG8:(Rows.codedRow.unfollowed==x3.unfollowed 5)=true:=cY
def aG5:(Rows.codedRow.inPlace==x3.inPlace 5)=true:=cY
def aG6:(Rows.codedRow.recurses==x3.recurses 5)=true:=cY
def vY:(Rows.codedRow.named==x3.varsNamed 5)=true:=cY
def aAQ:(Rows.codedRow.plainKeys==x3.plainKeys)=true:=cY
def aAR:(Rows.codedRow.lifted==x3.liftsFinal)=true:=cY
def aAS:(x3.make==some Rows.codedRow.make)=true:=cY
def sW:joinedFacts x3 5 Tryz.f5 Rows.codedSpec Rows.codedRow=true:=by
 unfold joinedFacts;rw[aS3,TzRow.laidOut,TzRow.j_maps,aAT,aG7,aG5,aG8,aG6,vY,aAQ,aAR,TzRow.j_heard,TzRow.j_enter,aAS,TzRow.j_stops,TzRow.j_knobs]
 kernel_rfl
def o9:x3.funcNamed "mailsieve/mailsievelaw.Coded"=some 5:=cY
def aAL:Tryz.f5.isInstance x3 Rows.codedRow.origin Rows.codedRow.targs:=xAH cY
def aAM:Tryz.f5.isWrapper x3 Rows.codedRow.wrapper Rows.codedRow.mainSum:=by
 unfold Func.isWrapper;first|(rw[x7 gC5];kernel_rfl)|(rw[x5 gC5];exact⟨Y,Y⟩)
def aR2:Rows.codedRow.wfByText (OpenSpec.ofChange Rows.codedSpec)=true:=cY
def aAE:false=Rows.codedRow.goesBy x3:=cY
def vQ:([22].all fun u=>!x3.wantsStandIn u)=true:=cY
end Go.Proofs.YthopmddkpdehiabGreatDoor.coded
end

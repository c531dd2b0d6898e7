/-
  What the proof stands on, part 54: the logic of walks, the walks through the functions, the plain laws. Conditions: as each theorem says. (Merged and shortened by a program.)
-/
import Derived.Test.YthopmddkpdehiabGreatDoorTie
import Derived.Test.YthopmddkpdehiabGreatDoorCards
import Derived.Test.YthopmddkpdehiabGreatDoorK31
import Derived.Test.YthopmddkpdehiabGreatDoorK35
set_option linter.unusedVariables false
set_option linter.unusedSimpArgs false
set_option linter.defProp false
set_option maxRecDepth 4000
set_option maxHeartbeats 1000000
section
set_option maxRecDepth 100000
namespace Go.Proofs.YthopmddkpdehiabGreatDoor.ran
open Go Go.ChangeShapes Go.WideShapes Go.ChangeAt Go.RowKit
def aS3:Rows.ranRow.wf (OpenSpec.ofChange Rows.ranSpec)=true:=cY
def aAT:(Tryz.f4.params.all (x3.readableRec ·))=true:=cY
def aG7:namedTie x3 Rows.ranRow.named Rows.ranSpec.vars=true:=cY
def aG8:(Rows.ranRow.unfollowed==x3.unfollowed 4)=true:=cY
def aG5:(Rows.ranRow.inPlace==x3.inPlace 4)=true:=cY
def aG6:(Rows.ranRow.recurses==x3.recurses 4)=true:=cY
def vY:(Rows.ranRow.named==x3.varsNamed 4)=true:=cY
def aAQ:(Rows.ranRow.plainKeys==x3.plainKeys)=true:=cY
def aAR:(Rows.ranRow.lifted==x3.liftsFinal)=true:=cY
def aAS:(x3.make==some Rows.ranRow.make)=true:=cY
def sW:joinedFacts x3 4 Tryz.f4 Rows.ranSpec Rows.ranRow=true:=by
 unfold joinedFacts;rw[aS3,TzRow.laidOut,TzRow.j_maps,aAT,aG7,aG5,aG8,aG6,vY,aAQ,aAR,TzRow.j_heard,TzRow.j_enter,aAS,TzRow.j_stops,TzRow.j_knobs]
 kernel_rfl
def o9:x3.funcNamed "mailsieve/mailsievelaw.Ran"=some 4:=cY
def aAL:Tryz.f4.isInstance x3 Rows.ranRow.origin Rows.ranRow.targs:=xAH cY
def aAM:Tryz.f4.isWrapper x3 Rows.ranRow.wrapper Rows.ranRow.mainSum:=by
 unfold Func.isWrapper;first|(rw[x7 gC5];kernel_rfl)|(rw[x5 gC5];exact⟨Y,Y⟩)
def aR2:Rows.ranRow.wfByText (OpenSpec.ofChange Rows.ranSpec)=true:=cY
def aAE:false=Rows.ranRow.goesBy x3:=cY
def vQ:([22].all fun u=>!x3.wantsStandIn u)=true:=cY
end Go.Proofs.YthopmddkpdehiabGreatDoor.ran
end

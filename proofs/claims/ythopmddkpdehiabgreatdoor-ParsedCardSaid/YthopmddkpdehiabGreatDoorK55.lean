/-
  What the proof stands on, part 58: the logic of walks, the walks through the functions, the plain laws. Conditions: as each theorem says. (Merged and shortened by a program.)
-/
import Derived.Test.YthopmddkpdehiabGreatDoorTie
import Derived.Test.YthopmddkpdehiabGreatDoorCards
import Derived.Test.YthopmddkpdehiabGreatDoorK24
import Derived.Test.YthopmddkpdehiabGreatDoorK30
import Derived.Test.YthopmddkpdehiabGreatDoorK35
set_option linter.unusedVariables false
set_option linter.unusedSimpArgs false
set_option linter.defProp false
set_option maxRecDepth 4000
set_option maxHeartbeats 1000000
section
set_option maxRecDepth 100000
namespace Go.Proofs.YthopmddkpdehiabGreatDoor.parsed
open Go Go.ChangeShapes Go.WideShapes Go.ChangeAt Go.RowKit
def aS3:Rows.parsedRow.wf (OpenSpec.ofChange Rows.parsedSpec)=true:=cY
def aAT:(Tryz.f3.params.all (x3.readableRec ·))=true:=cY
def aG7:namedTie x3 Rows.parsedRow.named Rows.parsedSpec.vars=true:=cY
def aG8:(Rows.parsedRow.unfollowed==x3.unfollowed 3)=true:=cY
def aG5:(Rows.parsedRow.inPlace==x3.inPlace 3)=true:=cY
def aG6:(Rows.parsedRow.recurses==x3.recurses 3)=true:=cY
def vY:(Rows.parsedRow.named==x3.varsNamed 3)=true:=cY
def aAQ:(Rows.parsedRow.plainKeys==x3.plainKeys)=true:=cY
def aAR:(Rows.parsedRow.lifted==x3.liftsFinal)=true:=cY
def aAS:(x3.make==some Rows.parsedRow.make)=true:=cY
def sW:joinedFacts x3 3 Tryz.f3 Rows.parsedSpec Rows.parsedRow=true:=by
 unfold joinedFacts;rw[aS3,TzRow.laidOut,TzRow.j_maps,aAT,aG7,aG5,aG8,aG6,vY,aAQ,aAR,TzRow.j_heard,TzRow.j_enter,aAS,TzRow.j_stops,TzRow.j_knobs]
 kernel_rfl
def o9:x3.funcNamed "mailsieve/mailsievelaw.Parsed"=some 3:=cY
def aAL:Tryz.f3.isInstance x3 Rows.parsedRow.origin Rows.parsedRow.targs:=xAH cY
def aAM:Tryz.f3.isWrapper x3 Rows.parsedRow.wrapper Rows.parsedRow.mainSum:=by
 unfold Func.isWrapper;first|(rw[x7 gC5];kernel_rfl)|(rw[x5 gC5];exact⟨Y,Y⟩)
def aR2:Rows.parsedRow.wfByText (OpenSpec.ofChange Rows.parsedSpec)=true:=cY
def aAE:false=Rows.parsedRow.goesBy x3:=cY
def vQ:([22].all fun u=>!x3.wantsStandIn u)=true:=cY
end Go.Proofs.YthopmddkpdehiabGreatDoor.parsed
end

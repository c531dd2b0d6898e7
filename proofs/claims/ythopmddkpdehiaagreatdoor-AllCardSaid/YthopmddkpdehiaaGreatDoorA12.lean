/- Part 12 of what the proof stands on: walks and plain laws. Conditions: as each theorem says. -/
import Derived.Test.YthopmddkpdehiaaGreatDoorTie
import Derived.Test.YthopmddkpdehiaaGreatDoorCards
import Derived.Test.YthopmddkpdehiaaGreatDoorA11
set_option linter.unusedVariables false
set_option linter.unusedSimpArgs false
set_option linter.defProp false
set_option maxRecDepth 4000
set_option maxHeartbeats 1000000
section
attribute [local irreducible] Go.SL.T Go.SL.OL Go.SL.D Go.SL.DL Go.SL.Ev Go.SL.Ef Go.SL.EfS
section
set_option maxRecDepth 100000
namespace Go.Proofs.YthopmddkpdehiaaGreatDoor.all
open Go Go.ChangeShapes Go.WideShapes Go.ChangeAt Go.RowKit
def aB4:Rows.allRow.wf (OpenSpec.ofChange Rows.allSpec)=true:=cV
def X5:(Tryz.f6.params.all (x3.readableRec ·))=true:=cV
def YP:namedTie x3 Rows.allRow.named Rows.allSpec.vars=true:=cV
def YQ:(Rows.allRow.unfollowed==x3.unfollowed 6)=true:=cV
def YN:(Rows.allRow.inPlace==x3.inPlace 6)=true:=cV
def YO:(Rows.allRow.recurses==x3.recurses 6)=true:=cV
def UY:(Rows.allRow.named==x3.varsNamed 6)=true:=cV
def X2:(Rows.allRow.plainKeys==x3.plainKeys)=true:=cV
def X3:(Rows.allRow.lifted==x3.liftsFinal)=true:=cV
def X4:(x3.make==some Rows.allRow.make)=true:=cV
def Rp:joinedFacts x3 6 Tryz.f6 Rows.allSpec Rows.allRow=true:=by
 unfold joinedFacts;rw[aB4,TzRow.laidOut,TzRow.j_maps,X5,YP,YN,YQ,YO,UY,X2,X3,TzRow.j_heard,TzRow.j_enter,X4,TzRow.j_stops,TzRow.j_knobs]
 kernel_rfl
def My:x3.funcNamed "mailsieve/mailsievelaw.All"=some 6:=cV
def Xw:Tryz.f6.isInstance x3 Rows.allRow.origin Rows.allRow.targs:=xAX cV
def Xx:Tryz.f6.isWrapper x3 Rows.allRow.wrapper Rows.allRow.mainSum:=by
 unfold Func.isWrapper;first|(rw[x7 gAD];kernel_rfl)|(rw[x6 gAD];exact⟨Y,Y⟩)
def aBZ:Rows.allRow.wfByText (OpenSpec.ofChange Rows.allSpec)=true:=cV
def Xq:false=Rows.allRow.goesBy x3:=cV
def U1:([53].all fun u=>!x3.wantsStandIn u)=true:=cV
end Go.Proofs.YthopmddkpdehiaaGreatDoor.all
end
end

/-
  What the proof stands on, part 11: the logic of walks, the walks through the functions, the plain laws. Conditions: as each theorem says. (Merged and shortened by a program.)
-/
import Derived.Test.YthopmddkpdehiabGreatDoorK1
set_option linter.unusedVariables false
set_option linter.unusedSimpArgs false
set_option linter.defProp false
set_option maxRecDepth 4000
set_option maxHeartbeats 1000000
namespace Go
def gA0{p:Prop}(h:p:=by refine cS (eO (m:=m) (c:=d)) ?_;exact eV _ (d,true,0,0) ⟨Hl.le_refl _,⟨Y,Y,Y,Y⟩,iT hd⟩ aS Y (fun _ h=>h)):p:=h
def gA1{p:Prop}(h:p:=by refine gO fun d6 en6 e6 p6 hS=>?_;exact eV _ (d6,en6,e6,p6) ⟨Hl.le_refl _,hS,qS hd⟩ aS Y (fun _ h=>h)):p:=h
def gAE{p:Prop}(h:p:=by refine gO fun d6 en6 e6 p6 hS=>?_;exact eV _ (d6,en6,e6,p6) ⟨Hl.le_trans leB le6,by rw[show Say.cmd nm m (.iff bs) d=Say.brs nm m bs d from rfl,←hB4];exact hS,by rw[show Say.cmd nm m (.iff bs) d=Say.brs nm m bs d from rfl,←hB4];exact fun q hq=>⟨(hsk q hq).1,by have:=(hsk q hq).2;omega⟩⟩ aS Y (fun _ h=>h)):p:=h
def gAS{p:Prop}(h:p:=by refine cS (eO (m:=m) (c:={d with keep:=false})) ?_;exact eV _ ({d with keep:=false},false,0,0) ⟨Hl.le_refl _,⟨Y,Y,Y,Y⟩,iT hd⟩ aS Y (fun _ h=>h)):p:=h
def gAV{p:Prop}(h:p:=by refine gO fun d6 en6 e6 p6 hS=>?_;exact eV _ (d6,en6,e6,p6) ⟨Hl.le_refl _,hS,qT hd (by have:=mR hwy;omega)⟩ aS Y (fun _ h=>h)):p:=h
def gBW{p:Prop}(h:p:=by refine gO fun d6 en6 e6 p6 hS=>?_;exact fH (k+1) _ (Say.holds nm m pr.1 d4).1 (d6,en6,e6,p6) ⟨Hl.le_trans leB (Hl.le_trans le5 le6),by omega,.inr ⟨h133,by rw[←hB4];exact hS,by rw[←hB4];exact fun q hq=>⟨(hsk q hq).1,by have:=(hsk q hq).2;omega⟩⟩⟩ aH aS Y (fun _ h=>h)):p:=h
def gFA{p:Prop}(h:p:=by first|(rw[decide_eq_true (show k < xs.length by omega)];rfl)|(rw[decide_eq_false (show ¬k < xs.length by omega)];rfl)):p:=h
def gFB{p:Prop}(h:p:=by first|(rw[decide_eq_true (show i < us.length by omega)];rfl)|(rw[decide_eq_false (show ¬i < us.length by omega)];rfl)):p:=h
def gFF{p:Prop}(h:p:=by rw[g145];first|rfl|(refine congrArg (fun x=>some (Value.bool x)) ?_;rw[Bool.true_and,decide_eq_decide];omega)):p:=h
def gFV{p:Prop}(h:p:=by simp only;omega):p:=h
end Go

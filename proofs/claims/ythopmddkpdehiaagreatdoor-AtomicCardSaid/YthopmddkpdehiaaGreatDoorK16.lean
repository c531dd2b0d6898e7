/-
  What the proof stands on, part 16: the logic of walks, the walks through the functions, the plain laws. Conditions: as each theorem says. (Merged and shortened by a program.)
-/
import Derived.Test.YthopmddkpdehiaaGreatDoorK2
import Derived.Test.YthopmddkpdehiaaGreatDoorK11
set_option linter.unusedVariables false
set_option linter.unusedSimpArgs false
set_option maxRecDepth 4000
set_option maxHeartbeats 1000000
namespace Go
theorem gA2{p:Prop}(h:p:=by simp only[eQ];rw[if_neg h66,if_neg h68,if_neg h82,if_pos h96]):p:=h
theorem gAL{p:Prop}(h:p:=by unfold fW;rw[←pX];simp only[Bool.or_eq_true,Bool.and_eq_true,decide_eq_true_eq];first|(left;left;left;simpa using g22;done)|(left;left;right;simpa using g26;done)|(left;right;omega)|(right;omega)):p:=h
theorem gAY{p:Prop}(h:p:=by simp only[eQ];rw[if_neg h66,if_pos h68,if_pos (by simpa using h74)]):p:=h
theorem gB7{p:Prop}(h:p:=by simp only[eQ];rw[if_pos h66]):p:=h
theorem gBA{p:Prop}(h:p:=by simp only[eQ];rw[if_neg h66,if_neg h68,if_pos h82]):p:=h
theorem gBC{p:Prop}(h:p:=by first|exact Hl.le_refl _|exact Hl.le_trans le1 leL):p:=h
theorem gBH{p:Prop}(h:p:=by show ((out.take k++[x]).length+(out.drop k).length)*32≤140737488355328;rw[List.length_append,List.length_singleton];omega):p:=h
theorem gBI{p:Prop}(h:p:=by show (out.take k++[x]).length+(out.drop k).length≤9223372036854775807;rw[List.length_append,List.length_singleton];omega):p:=h
theorem gBN{p:Prop}(h:p:=by intro z hz;first|(have:=jF hz;omega)|(have h1:=hnl z hz;rw[hyy]at hz;cases hz;exact⟨h1,by assumption⟩)):p:=h
theorem gBS{p:Prop}(h:p:=by rw[←pX];simp only[Bool.or_eq_true];first|(left;simpa using g41;done)|(right;simpa using h44;done)):p:=h
end Go
section
namespace Go.SL
section
variable{E:Env}{fr:Fr}{K:Hl}{L:List Asn}{Q:Post}{dst:Option Tmp}{ty:TypeId}{pos:String}{aft:Array Edge}{g:Option (Nat×Bool)}
variable{x y:Operand}{t t':TypeId}{m n:Int}{k:IntKind}
variable{l l':List UInt8}
theorem bQ0(hx:fr.ev x=some (str l))(hy:fr.ev y=some (str l')):Ev E fr K L ⟨dst,.binOp .lss t x y t',ty,pos,aft,g⟩ (.bool (Op.bytesLess l l')):=
 gT hx hy aA5 fun w=>by simp only[binOp,Op.stringOp,wS];rfl
end
def aHP(e:TypeId):El Int:={e:=e,sz:=1,enc:=fun n=>[i64 n],len:=fun _=>rfl,one:=fun _ u h=>by simp at h;subst h;rfl}
end Go.SL
end

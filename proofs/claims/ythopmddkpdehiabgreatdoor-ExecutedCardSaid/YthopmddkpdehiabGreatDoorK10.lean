/-
  What the proof stands on, part 10: the logic of walks, the walks through the functions, the plain laws. Conditions: as each theorem says. (Merged and shortened by a program.)
-/
import Derived.Test.YthopmddkpdehiabGreatDoorK7
set_option linter.unusedVariables false
set_option linter.unusedSimpArgs false
set_option linter.defProp false
set_option maxRecDepth 4000
set_option maxHeartbeats 1000000
namespace Go
def gAA{p:Prop}(h:p:=by refine aQ (aM cI (aM cI (aM cI bF))) ?_;refine cS (eM (gZ (m:=stk.length - 1) aH)) ?_;rw[←List.dropLast_eq_take];exact a8 (⟨c,stk.dropLast,pc+o.n.toNat+1,st+1,false,0,0⟩,_) (hA.next aH ((Say.step_if h45 (Say.getLast_of hx) (by rw[←hlen];omega)).trans (by rw[if_pos (beq_iff_eq.1 h97)])) hci Y  gC7 ) (.cons 0 Y (.cons 1 Y (.cons 6 Y (.cons 8 Y (.cons 9 Y (.cons 10 Y (.cons 13 (by refine congrArg (fun z:Int=>some (Value.int .i64 z)) ?_;show ((pc:Int)+1+o.n)=((pc+o.n.toNat+1:Nat):Int);omega) .nil))))))) Y (fun _ h=>h)):p:=h
def gAB{p:Prop}(h:p:=by refine aQ (aM cI (aM cI (aM cI bF))) ?_;exact a8 (⟨c,stk,pc+o.n.toNat+1,st+1,false,0,0⟩,_) (hA.next aH (Say.step_jmp h81 (by rw[←hlen];omega)) hci Y h8) (.cons 0 Y (.cons 1 Y (.cons 6 Y (.cons 8 Y (.cons 9 Y (.cons 10 Y (.cons 13 (by refine congrArg (fun z:Int=>some (Value.int .i64 z)) ?_;show ((pc:Int)+1+o.n)=((pc+o.n.toNat+1:Nat):Int);omega) .nil))))))) Y (fun _ h=>h)):p:=h
def gAC{p:Prop}(h:p:=by refine aQ (aM cI (aM cI (aM cI bF))) ?_;refine cS (eM (gZ (m:=stk.length - 1) aH)) ?_;rw[←List.dropLast_eq_take];exact a8 (⟨c,stk.dropLast,pc+1,st+1,false,0,0⟩,_) (hA.next aH ((Say.step_if h45 (Say.getLast_of hx) (by rw[←hlen];omega)).trans (by rw[if_neg (fun e=>absurd (beq_iff_eq.2 e) (by rw[h97];decide))])) hci Y  gC7 ) aS Y (fun _ h=>h)):p:=h
def gAD{p:Prop}(h:p:=by refine cS (eO (m:=m) (c:={c with keep:=false})) ?_;refine aQ (aM cI (aM bW (aM bW bF))) ?_;exact a8 (⟨{c with keep:=false},stk,pc+1,st+1,false,0,0⟩,_) (hA.next aH (Say.step_dis h148) ⟨hci.vn,hci.vars,hci.parts,hci.acts,fun h=>by cases h⟩ Y h8) aS Y (fun _ h=>h)):p:=h
def gAF{p:Prop}(h:p:=by refine aQ (aM bW (aM cI (aM e7 bF))) ?_;exact a8 (⟨(Say.asksV nm m o c).2,stk++[(Say.asksV nm m o c).1],pc+1,st+1,false,0,0⟩,_) (hA.next aH (Say.step_ask aH hs6.1 hs6.2.1 aH) hca hva2  gC7 ) aS Y (fun _ h=>h)):p:=h
def gAG{p:Prop}(h:p:=by rw[Say.set_last hx];(refine aQ (aM cI (aM cI (aM cI bF))) ?_;exact a8 (⟨c,stk.dropLast++[!x],pc+1,st+1,false,0,0⟩,_) (hA.next aH (Say.step_two h71 (Say.getLast_of hx) h8) hci Y  gC7 ) aS Y (fun _ h=>h))):p:=h
def gAH{p:Prop}(h:p:=by rw[Say.cmd_act0];refine gO fun d6 en6 e6 p6 hS=>?_;refine aQ (aM e7 (aM bW (aM cI bF))) ?_;exact a8 (⟨d6,stk,pc+1,st+1,en6,e6,p6⟩,_) ⟨hA.act h118 hs11 hS,Y,.inr (Nat.lt_succ_self pc)⟩ aS Y (fun _ h=>h)):p:=h
def gAI{p:Prop}(h:p:=by refine gO fun d6 en6 e6 p6 hS=>?_;refine aQ (aM e7 (aM bW (aM cI bF))) ?_;exact a8 (⟨d6,stk,pc+1,st+1,en6,e6,p6⟩,_) ⟨hA.set h134 hs12.1.1 hxa hyb aH hS,Y,.inr (Nat.lt_succ_self pc)⟩ aS Y (fun _ h=>h)):p:=h
def gAJ{p:Prop}(h:p:=by refine aQ (aM bW (aM e7 (aM e7 bF))) ?_;exact a8 (⟨c,stk++[decide (o.n=1)],pc+1,st+1,false,0,0⟩,_) (hA.next aH (Say.step_one h63 ⟨hs1.1,by omega⟩) hci Y  gC7 ) aS Y (fun _ h=>h)):p:=h
def gAM{p:Prop}(h:p:=by refine cS (eO (m:=m) (c:=c)) ?_;refine aQ (aM cI (aM bW (aM bW bF))) ?_;exact a8 (⟨c,stk,pc+1,st+1,true,0,0⟩,_) (hA.last h153) aS Y (fun _ h=>h)):p:=h
def gDJ{p:Prop}(h:p:=by first|(rw[decide_eq_true (show 6≤o.op∧o.op≤10 by omega)];rfl)|(rw[decide_eq_decide.2 (show (6≤o.op∧o.op≤10)↔o.op=10 by omega)];rfl)):p:=h
def gEV{p:Prop}(h:p:=by rw[hrun2];intro y hy;cases r with|error z=>cases hy;exact hb _ Y|ok z=>cases hy):p:=h
def gFT{p:Prop}(h:p:=by first|(rw[if_pos (show o.tag=1 by omega)];rfl)|(rw[if_neg (show ¬o.tag=1 by omega),hx];rfl)):p:=h
end Go
section
namespace Go.SL
section
variable{E:Env}{fr:Fr}{K:Hl}{L L':List Asn}{Q:Post}{dst:Option Tmp}{ty:TypeId}{pos:String}{aft:Array Edge}{g:Option (Nat×Bool)}{x y:Operand}{t t' s e sz i off b:Nat}{α:Type}{k:El α}{v u:Value}{xs:List α}
def aVR{p q:Bool}(hu:E.P.underlying t=some .bool)(hx:fr.ev x=some (.bool p))(hy:fr.ev y=some (.bool q)):Ev E fr K L ⟨dst,.binOp .eql t x y t',ty,pos,aft,g⟩ (.bool (p==q)):=
 jN hx hy (fun w=>rfl) fun w=>by
  have h:(Op.equal t (.bool p) (.bool q)).run E.P w=.ok (p==q) w:=aJ0 9999 hu w
  show (do pure (Value.bool (←Op.equal t (.bool p) (.bool q))):Sem Value).run E.P w=_
  rw[bJ h];rfl
end
end Go.SL
end

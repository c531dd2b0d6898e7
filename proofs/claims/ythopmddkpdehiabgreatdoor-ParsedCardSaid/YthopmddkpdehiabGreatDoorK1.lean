/-
  What the proof stands on, part 1: the logic of walks, the walks through the functions, the plain laws. Conditions: as each theorem says. (Merged and shortened by a program.)
-/
import Derived.KernelRfl
import Derived.WalkKit
import Derived.Defers
import Derived.Orders
import Derived.RangeFuncRecord
import Derived.OrdersIn
import Derived.TacticsIn
set_option linter.unusedVariables false
set_option linter.unusedSimpArgs false
set_option linter.defProp false
set_option maxRecDepth 4000
set_option maxHeartbeats 1000000
universe u
namespace Go
def x4:=@List.getElem?_eq_getElem
def x5:=@if_neg
def x7:=@if_pos
def x8:=@List.mem_of_getElem?
def x9:=@Nat.zero_le
def xAA:=@Nat.le_refl
def xAC:=@Nat.lt_or_ge
def xAD:=@List.getElem?_eq_none
def xAE:=@congrArg
def xAF:=@List.length_append
def xAG:=@List.getElem?_eq_some_iff
def xAH:=@of_decide_eq_true
def xAI:=@List.take_of_length_le
def xAJ:=@decide_eq_false
def xAK:=@List.take_length
def xAL:=@List.append_nil
def xAM:=@decide_eq_true
def xAN:=@List.take_succ_eq_append_getElem
def xAO:=@UInt8.toNat_inj
def xAP:=@Bool.eq_iff_iff
def xAQ:=@List.getElem?_map
def xAR:=@List.drop_eq_getElem_cons
def xAS:=@List.length_map
def xAT:=@List.mem_append
def xAU:=@List.drop_of_length_le
def xAV:=@Nat.le_trans
def xAW:=@Nat.mul_le_mul_right
def xAX:=@List.take_add_one
def xAY:=@Option.some.inj
def xAZ:=@Classical.byContradiction
def xA0:=@List.append_assoc
def xA1:=@of_decide_eq_false
def xA2:=@List.getElem?_drop
def xA3:=@List.getElem?_of_mem
def xA4:=@List.length_take
def xA5:=@List.getElem?_append_left
def xA6:=@List.length_singleton
def xA7:=@Array.getD_eq_getD_getElem?
def xA8:=@List.findIdx?_eq_some_iff_getElem
def xA9:=@List.length_eq_zero_iff
def xBA:=@List.length_drop
def xBB:=@Nat.le_of_ble_eq_true
def xBC:=@List.length_set
def xBD:=@Classical.not_not
def xBE:=@Array.getElem?_setIfInBounds_ne
def xBF:=@List.mem_map
def xBG:=@List.drop_zero
def xBH:=@Array.getElem?_eq_some_iff
def xBI:=@List.length_cons
def xBJ:=@List.takeWhile_cons
def xBK:=@List.getElem?_append_right
def xBL:=@List.nil_append
def xBM:=@List.flatMap_cons
def xBN:=@List.all_eq_true
def Y{α:Sort u}{a:α}:a=a:=rfl
structure Wq (q:Prop):Prop where
 w:q
def b0{p:Prop}(h:p:=by assumption):p:=h
def dF{p:Prop}(h:p:=by repeat (first|exact .nil|(apply Go.SL.Fill.cons;exact rfl;exact rfl;exact rfl;repeat (first|exact .nil|apply Go.SL.Spl.cons|apply Go.SL.Spl.skip)))):p:=h
def bR{p:Prop}(h:p:=by first|exact .here|exact .there .here|exact .there (.there .here)|exact .there (.there (.there .here))|exact .there (.there (.there (.there .here)))|exact .there (.there (.there (.there (.there .here))))|exact .there (.there (.there (.there (.there (.there .here)))))|exact .there (.there (.there (.there (.there (.there (.there .here))))))|exact .there (.there (.there (.there (.there (.there (.there (.there .here)))))))):p:=h
def cV{p:Prop}(h:p:=by exact fun _ h=>h):p:=h
def aS{p:Prop}(h:p:=by repeat (first|exact .nil|refine .cons _ rfl ?_)):p:=h
def cY{p:Prop}(h:p:=by kernel_rfl):p:=h
def bG{p:Prop}(h:p:=by first|exact aOQ rfl|exact aGS rfl|exact aGR rfl):p:=h
def aH{p:Prop}(h:p:=by omega):p:=h
def dA{p:Prop}(h:p:=by first|rfl|assumption):p:=h
def aL{p:Prop}(h:p:=by first|exact .own .here|exact .own (.there .here)|exact .own (.there (.there .here))|exact .own (.there (.there (.there .here)))|exact .own (.there (.there (.there (.there .here))))|exact .own (.there (.there (.there (.there (.there .here)))))|exact .own (.there (.there (.there (.there (.there (.there .here))))))|exact .own (.there (.there (.there (.there (.there (.there (.there .here)))))))|exact .own (.there (.there (.there (.there (.there (.there (.there (.there .here))))))))|exact .known (by assumption)):p:=h
def bS{p:Prop}(h:p:=by repeat (first|exact .nil|(apply Go.SL.Tks.cons;repeat (first|exact .here|apply Go.SL.Tk.there)))):p:=h
end Go
namespace Go
def gA2{p:Prop}(h:p:=by refine aQ (aM bW (aM cI bF)) ?_;exact eF (i+1) _ W2 ⟨Hl.le_trans leK le4,by omega,hwf2,hxs2⟩ aH aS Y (fun _ h=>h)):p:=h
def gA3{p:Prop}(h:p:=by refine aQ (aM cI (aM cI (aM cI (aM cI (aM cI (aM cI (aM cI (aM cI (aM cI (aM bW bF)))))))))) ?_;refine cS (pI (P:=actP p) (fun _ h=>h)) ?_;refine cS (uG (k:=k) (p':=p) hp Y Y hM2) ?_;exact a8 {W with al:=W.al.set k p} ⟨Y,hw.setA hpl⟩ aS Y (fun _ h=>h)):p:=h
def gA4{p:Prop}(h:p:=by refine aQ (aM cI (aM cI bF)) ?_;exact eF (i+1) _ W ⟨leK,by omega,hwf.up,hxs⟩ aH aS Y (fun _ h=>h)):p:=h
def gAL{p:Prop}(h:p:=by rw[show ((i:Int)+(2+Lib.index (s.drop (min (i+2) s.length)) [42,47]+2))=((i+2+(Lib.index (s.drop (min (i+2) s.length)) [42,47]).toNat+2:Nat):Int)from by omega];refine cM (i+2+(Lib.index (s.drop (min (i+2) s.length)) [42,47]).toNat+2) ⟨by omega,by omega,f - 1,by omega,by rw[hi4,kF hc aH aH aH];congr 1;omega⟩ aH aS Y (fun _ h=>h)):p:=h
def gAP{p:Prop}(h:p:=by refine aQ (aM e7 (aM e7 (aM bW (aM bW (aM nC (aM cI (aM e7 (aM e7 (aM e7 (aM e7 (aM cI bF))))))))))) ?_;refine cS (oG (P:=cdP {p with rs:=rs2,ws:=ws2,os:=p.os.set i (rV a b s o)}) (fun _ h=>h)) ?_;refine cS (uH (W:=W1) (k:=k) (p':={p with rs:=rs2,ws:=ws2,os:=p.os.set i (rV a b s o)}) hp Y Y hM2) ?_;refine dK Y (Hl.le_refl _) ?_;exact⟨_,Y,Y,Y,{W1 with cl:=W1.cl.set k {p with rs:=rs2,ws:=ws2,os:=p.os.set i (rV a b s o)}},hx1,hw1.setC (aB2 hpl ho),Y⟩):p:=h
def gAT{p:Prop}(h:p:=by refine aQ (aM cI (aM cI (aM cI (aM cI (aM cI (aM cI (aM cI (aM cI (aM cI (aM bW bF)))))))))) ?_;refine cS (pI (P:=actP {p with l:=p.l.set i (a,s)}) (fun _ h=>h)) ?_;refine cS (uG (k:=k) (p':={p with l:=p.l.set i (a,s)}) hp Y Y hM2) ?_;exact a8 {W with al:=W.al.set k {p with l:=p.l.set i (a,s)}} ⟨Y,hw.setA (by show (p.l.set i _).length≤_;rw[List.length_set];exact hpl)⟩ aS Y (fun _ h=>h)):p:=h
def gAW{p:Prop}(h:p:=by have hh:=pB hc aH;refine cM (i+((s.drop i).takeWhile fun c=>decide (¬c.toNat=10)).length) ⟨by omega,by omega,f - 1,by omega,by rw[hi4,mM hc aH];congr 1;omega⟩ aH aS Y (fun _ h=>h)):p:=h
def gAZ{p:Prop}(h:p:=by refine aQ (aM nC (aM nC (aM nC (aM nC (aM nC (aM cI (aM e7 (aM e7 (aM e7 (aM e7 (aM cI bF))))))))))) ?_;refine cS (oG (P:=cdP p) (fun _ h=>h)) ?_;refine cS (uH (W:=W1) (k:=k) (p':=p) hp Y Y hM2) ?_;refine dK Y (Hl.le_refl _) ?_;exact⟨_,Y,Y,Y,{W1 with cl:=W1.cl.set k p},hx1,hw1.setC hpl,Y⟩):p:=h
def gB1{p:Prop}(h:p:=by have h3:=aRD hi1 hi2 hk58 aH aH aH;refine aQ (aM cI (aM cI (aM bW bF))) ?_;rw[show k=1+dW eT (rS r3)from by omega];exact cW (nx s r3) ⟨h.cmp,1+dW eT (rS r3),h.oct⟩ ⟨lE hi1,h3.1,by simp only;omega,by simp only;omega⟩ h3.2 aS Y (fun _ h=>h)):p:=h
def gB9{p:Prop}(h:p:=by refine cS (mW (W:=W)) ?_;exact a8 W ⟨Y,hw⟩ aS Y (fun _ h=>h)):p:=h
def gBB{p:Prop}(h:p:=by refine fB fun K7 leS hS=>?_;refine aQ (aM e7 (aM bW (aM bW bF))) ?_;exact a8 (_,r4,_,tg,K7) ⟨leS,by rw[hq];exact hvs,hr4,fun K2 b le h=>aT0 (.inr ⟨b150,0,2,[str (eD xa),str xb],(0,0),Y,⟨_,le _ _ hS⟩,Y⟩) (by rw[←hc];exact h)⟩ aS Y (fun _ h=>h)):p:=h
def gBG{p:Prop}(h:p:=by refine aQ (aM bW (aM bW (aM bW (aM bW (aM bW (aM bW (aM bW bF))))))) ?_;refine cS (mW (W:=W1)) ?_;refine dK Y (Hl.le_refl _) ?_;exact⟨_,Y,Y,Y,W1,hx1,hw1,Y⟩):p:=h
def gBH{p:Prop}(h:p:=by simp only[RT,hx,hO,lC,if_neg gc,if_neg gd];exact⟨_,Y,⟨_,_,Y,us,sv,hrp.mono leS,hS,Y⟩,Y⟩):p:=h
def gBK{p:Prop}(h:p:=by refine fB fun K7 leS hS=>?_;refine aQ (aM e7 (aM bW (aM bW bF))) ?_;exact a8 (_,r3,_,0,K7) ⟨leS,by rw[hq];exact hva,hr3,fun K2 b le h=>aTZ hc (.inr ⟨b86,0,1,[str xa],(0,0),Y,⟨_,le _ _ hS⟩,Y⟩) h⟩ aS Y (fun _ h=>h)):p:=h
def gBP{p:Prop}(h:p:=by refine aQ (aM cI (aM cI (aM bW bF))) ?_;exact a8 (c,nx s (.ok st),nilS,0,K) ⟨Hl.le_refl _,by rw[hq];exact aDW (r:=.ok st) hr,hr2,fun K2 b _ h=>hcr K2 b (by rw[←hws];exact h)⟩ aS Y (fun _ h=>h)):p:=h
def gBR{p:Prop}(h:p:=by have hf:∃f0,f=f0+1:=⟨f - 1,by omega⟩;obtain⟨f0,rfl⟩:=hf;exact cM (i+1) ⟨by omega,by omega,f0,by omega,by rw[hi4,lV hc (by simpa[fS]using h26)]⟩ aH aS Y (fun _ h=>h)):p:=h
def gBX{p:Prop}(h:p:=by have hh:=pB hc aH;rw[hjT]at hh;exact cM j ⟨by omega,by omega,f - 1,by omega,by rw[hi4,mM hc aH,hjT];congr 1;omega⟩ aH aS Y (fun _ h=>h)):p:=h
def gC0{p:Prop}(h:p:=by rw[h196];exact a8 () trivial aS Y (fun _ h=>h)):p:=h
def gC1{p:Prop}(h:p:=by first|(simp[Value.oneCell'];done)|exact fun c hc=>El.one _ _ c hc):p:=h
def gC3{p:Prop}(h:p:=by first|exact dV Y|exact d8 Y):p:=h
def gC5{p:Prop}(h:p:=by decide+kernel):p:=h
def gC6{p:Prop}(h:p:=by rintro _ _ ⟨_,h,_⟩;cases h):p:=h
def gC7{p:Prop}(h:p:=by simp;omega):p:=h
def gC8{p:Prop}(h:p:=by intro j hj;simp):p:=h
def gC9{p:Prop}(h:p:=by first|(simp;omega)|omega):p:=h
def gCC{p:Prop}(h:p:=by rw[h196,h220];refine aQ (aM cI (aM cI (aM bW bF))) ?_;exact a8 () trivial aS Y (fun _ h=>h)):p:=h
def gCE{p:Prop}(h:p:=by refine aQ (aM cI (aM bW (aM cI bF))) ?_;exact eF (i+1) (ms++[e]) _ ⟨by omega,by rw[kU he,←hms];unfold addN;rw[if_neg (by simpa using h76)],by simp;omega⟩ aH aS Y cV):p:=h
def gCG{p:Prop}(h:p:=by have h3:=aRC hi1 hi2 hk58 hix h75;refine aQ (aM e7 (aM bW (aM bW bF))) ?_;exact cW _ ⟨true,h.tag,_⟩ ⟨(pF (lE hi1)).1,h3.1,hi3,hi4⟩ h3.2 aS Y (fun _ h=>h)):p:=h
def gCH{p:Prop}(h:p:=by rw[if_pos ⟨by omega,h23⟩,hr];exact⟨_,Y,by rw[decide_eq_true h23],rfl,rfl⟩):p:=h
def gCL{p:Prop}(h:p:=by rw[if_neg (fun h=>h23 h.2)];exact⟨_,Y,by rw[decide_eq_false h23],rfl,rfl⟩):p:=h
def gCO{p:Prop}(h:p:=by rw[aQ2 (show rK r1=58 by omega)];refine aQ (aM cI (aM cI (aM bW bF))) ?_;exact a8 () trivial aS Y (fun _ h=>h)):p:=h
def gCQ{p:Prop}(h:p:=by rw[if_neg (show ¬rK r2=0 by omega)];refine aQ (aM cI (aM bW bF)) ?_;exact a8 () trivial aS Y (fun _ h=>h)):p:=h
def gCR{p:Prop}(h:p:=by rw[aWO (show ¬rK r1=58 by omega),aWM (show ¬rK r1=58 by omega)];exact a8 () trivial aS Y (fun _ h=>h)):p:=h
def gCU{p:Prop}(h:p:=by rw[h196,h220];exact a8 () trivial aS Y (fun _ h=>h)):p:=h
def gCV{p:Prop}(h:p:=by rw[if_pos h123];refine aQ (aM cI (aM cI (aM bW bF))) ?_;exact a8 () trivial aS Y (fun _ h=>h)):p:=h
def gCX{p:Prop}(h:p:=by rw[aP5 hc h70];refine aQ (aM e7 (aM bW (aM bW bF))) ?_;exact a8 () trivial aS Y (fun _ h=>h)):p:=h
def gCY{p:Prop}(h:p:=by rw[aWD h19];refine aQ (aM e7 (aM bW (aM bW bF))) ?_;exact a8 () trivial aS Y (fun _ h=>h)):p:=h
def gCZ{p:Prop}(h:p:=by rw[aWB h12];refine aQ (aM e7 (aM bW (aM bW bF))) ?_;exact a8 () trivial aS Y (fun _ h=>h)):p:=h
def gD1{p:Prop}(h:p:=by refine congrArg (fun x=>some (Value.bool x)) ?_;first|(symm;exact decide_eq_true aH)|(symm;exact decide_eq_false aH)|(rw[decide_eq_decide];omega)):p:=h
def gD3{p:Prop}(h:p:=by (unfold numN; rw [if_neg aH, if_pos aH])):p:=h
def gD4{p:Prop}(h:p:=by (unfold numN; rw [if_neg aH, if_neg aH])):p:=h
def gD6{p:Prop}(h:p:=by rw[List.length_drop];omega):p:=h
def gD8{p:Prop}(h:p:=by (unfold numA;rw[if_pos aH])):p:=h
def gD9{p:Prop}(h:p:=by intro h;rw[if_pos h]at hu;cases hu):p:=h
def gDA{p:Prop}(h:p:=by first|exact bo1 b0|exact bo2 b0 Y|exact bo2 b0 (bo1 b0)|exact bo2 b0 (bo2 b0 Y)):p:=h
def gDB{p:Prop}(h:p:=by first|assumption|omega):p:=h
def gDC{p:Prop}(h:p:=by unfold dD; simp only [decide_eq_true_eq]; omega):p:=h
def gDG{p:Prop}(h:p:=by rcases hW2 with rfl|⟨q,hq,rfl⟩;exact fun x hx=>(hxs1 x hx).mono le1;exact fun x hx=>by rcases List.mem_append.1 hx with hx|hx;exact(hxs1 x hx).mono le1;(have hx:=List.mem_singleton.1 hx;subst hx;exact hq)):p:=h
def gDI{p:Prop}(h:p:=by unfold dD; rw [decide_eq_decide]; omega):p:=h
def gDL{p:Prop}(h:p:=by simpa using e):p:=h
def gDM{p:Prop}(h:p:=by rw[eA];exact fun _ h=>h):p:=h
def gDN{p:Prop}(h:p:=by refine congrArg (fun x=>some (Value.bool x)) ?_;first|(have hz:=oR g44;symm;exact decide_eq_true (fun h=>absurd h.1 aH))|(symm;exact decide_eq_true (fun h=>absurd h.1 aH))|(rw[decide_eq_decide];exact⟨fun h h2=>h h2.2,fun h h2=>h ⟨by omega,h2⟩⟩)):p:=h
def gDO{p:Prop}(h:p:=by refine congrArg (fun x=>some (Value.bool x)) ?_;first|(have hz:=oR g79;symm;exact decide_eq_false (fun h=>absurd h.1 aH))|(symm;exact decide_eq_false (fun h=>absurd h.1 aH))|(rw[decide_eq_decide];exact⟨fun h=>⟨by omega,h⟩,fun h=>h.2⟩)):p:=h
def gDP{p:Prop}(h:p:=by refine congrArg (fun x=>some (Value.bool x)) ?_;first|(have hz:=oR g31;symm;exact decide_eq_false (fun h=>absurd h.1 aH))|(symm;exact decide_eq_false (fun h=>absurd h.1 aH))|(rw[decide_eq_decide];exact⟨fun h=>⟨by omega,h⟩,fun h=>h.2⟩)):p:=h
def gDR{p:Prop}(h:p:=by refine congrArg (fun x=>some (Value.bool x)) ?_;first|(rw[g22];rfl)|(rw[g22,g25];rfl)|(rw[g22,g25];show decide ((i:Int)=0)=(true&&(false||decide (i=0)));rw[Bool.true_and,Bool.false_or,decide_eq_decide];omega)):p:=h
def gDS{p:Prop}(h:p:=by rintro(⟨a,b⟩|⟨a,b⟩) <;> first|omega|(simp_all;done)):p:=h
def gDT{p:Prop}(h:p:=by rw[hb];rfl):p:=h
def gDU{p:Prop}(h:p:=by first|exact Hl.le_trans le2 (Hl.le_trans leK6 leS)|exact Hl.le_trans le2 leS):p:=h
def gDW{p:Prop}(h:p:=by unfold dD; simp only [decide_eq_false_iff_not]; omega):p:=h
def gDY{p:Prop}(h:p:=by first|exact gC (xs:=[c+32]) Tryz.underlying142 Tryz.underlying5 Tryz.underlying9 Y (.blk aL Y Y)|exact gC (xs:=[c]) Tryz.underlying142 Tryz.underlying5 Tryz.underlying9 Y (.blk aL Y Y)):p:=h
def gDZ{p:Prop}(h:p:=by first|(rw[decide_eq_true (show c.toNat=47 by omega),hd aH];rfl)|(rw[decide_eq_true (show c.toNat=47 by omega),hd];rfl)|(rw[decide_eq_false (show ¬c.toNat=47 by omega)];rfl)):p:=h
def gE0{p:Prop}(h:p:=by rw[hcg];omega):p:=h
def gE4{p:Prop}(h:p:=by refine congrArg (fun x=>some (Value.bool x)) ?_;first|(have hz:=oR g35;symm;exact decide_eq_false aH)|(rw[decide_eq_decide];omega)):p:=h
def gE5{p:Prop}(h:p:=by refine congrArg (fun x=>some (Value.bool x)) ?_;first|(have hz:=oR g15;symm;exact decide_eq_false aH)|(rw[decide_eq_decide];omega)):p:=h
def gE6{p:Prop}(h:p:=by refine congrArg (fun x=>some (Value.bool x)) ?_;first|(have hz:=oR g139;symm;exact decide_eq_true aH)|(rw[decide_eq_decide];omega)):p:=h
def gE7{p:Prop}(h:p:=by rw[h19];rfl):p:=h
def gE8{p:Prop}(h:p:=by unfold und;first|(rw[decide_eq_true (show rK r2=58 by omega)];rfl)|(rw[decide_eq_false (show ¬rK r2=58 by omega)];rfl)):p:=h
def gE9{p:Prop}(h:p:=by unfold ovr;first|(rw[decide_eq_true (show rK r2=58 by omega)];rfl)|(rw[decide_eq_false (show ¬rK r2=58 by omega)];rfl)):p:=h
def gEA{p:Prop}(h:p:=by first | exact (fun h => (show ¬ all = tn from by simpa using h59) h.1) | exact (fun h => by have := hnil.1 h.2; omega)):p:=h
def gEC{p:Prop}(h:p:=by rw[hsl];simp only[List.length_singleton];omega):p:=h
def gED{p:Prop}(h:p:=by rw[eN];rfl):p:=h
def gEE{p:Prop}(h:p:=by rw[hk];first|rfl|(refine congrArg (fun x=>some (Value.bool x)) ?_;show _=eW k;unfold eW;rw[←nO,←qP,g157];rfl)):p:=h
def gEG{p:Prop}(h:p:=by (unfold numN; rw [if_pos aH])):p:=h
def gEI{p:Prop}(h:p:=by have:=congrArg List.length h2;simp at this;exact List.length_eq_zero_iff.1 (by simpa using this)):p:=h
def gEK{p:Prop}(h:p:=by rw[hk];simp only[optB];first|rfl|(rw[decide_eq_true g113];rfl)|(rw[decide_eq_false g113];rfl)):p:=h
def gEL{p:Prop}(h:p:=by rcases hW2 with rfl|⟨q,hq,rfl⟩;exact hw1.up;exact hw1.addX):p:=h
def gEM{p:Prop}(h:p:=by first|exact aL|exact aL):p:=h
def gEO{p:Prop}(h:p:=by rw[hk];simp only[optB];first|rfl|(rw[decide_eq_true g70];rfl)|(rw[decide_eq_false g70];rfl)):p:=h
def gEQ{p:Prop}(h:p:=by split <;> omega):p:=h
def gEU{p:Prop}(h:p:=by first|exact .inl ⟨by omega,by assumption⟩|exact .inr ⟨by omega,by omega⟩):p:=h
def gEW{p:Prop}(h:p:=by rw[List.length_take];omega):p:=h
def gEX{p:Prop}(h:p:=by (unfold numA;rw[if_pos aH,hL2])):p:=h
def gEY{p:Prop}(h:p:=by first|exact aBU (fW (m:=i) (n:=i+1) Tryz.underlying9 Y Y Y Y aH aH aH) hc|exact aBU (fW (m:=i+1) (n:=i+1+1) Tryz.underlying9 Y Y Y Y aH aH aH) hd):p:=h
def gEZ{p:Prop}(h:p:=by intro m c2 hm1 hm2 hc2;rcases Nat.lt_or_ge m i with h|h;exact hi3 m c2 hm1 h hc2;(have e:m=i:=by omega);subst e;rw[hc]at hc2;cases hc2;exact hcd):p:=h
def gF5{p:Prop}(h:p:=by rw[o0 hc,ht];rfl):p:=h
def gF7{p:Prop}(h:p:=by simp only[hx,reqF,jP,if_neg gc,hbb,if_neg g84,if_true,if_false,↓reduceIte]):p:=h
def gF8{p:Prop}(h:p:=by simpa using h56):p:=h
def gF9{p:Prop}(h:p:=by simpa using h14):p:=h
def gFC{p:Prop}(h:p:=by simpa using h):p:=h
def gFG{p:Prop}(h:p:=by (unfold numA;rw[if_neg aH])):p:=h
def gFJ{p:Prop}(h:p:=by unfold eW;rw[←nO,←qP,Bool.or_eq_true];first|(left;simpa using g42;done)|(right;simpa using h45;done)):p:=h
def gFK{p:Prop}(h:p:=by intro hs;have:=sL hs;omega):p:=h
def gFL{p:Prop}(h:p:=by first|exact leZ|exact Hl.le_refl _):p:=h
def gFN{p:Prop}(h:p:=by rw[UInt8.toNat_ofNat'];unfold IntKind.wrap IntKind.bits IntKind.signed;simp only[Bool.false_and];simp):p:=h
def gFU{p:Prop}(h:p:=by simp only[cnt]at hb;simp;omega):p:=h
def gFX{p:Prop}(h:p:=by rw[k.len];exact Nat.le_refl _):p:=h
def gFZ{p:Prop}(h:p:=by first|exact Hl.le_refl _|exact Hl.le_trans leK (Hl.le_trans leN (Hl.le_trans le7 le8))):p:=h
def gGA{p:Prop}(h:p:=by rw[List.length_append,hvl];simp;omega):p:=h
def gGB{p:Prop}(h:p:=by rw[e];rfl):p:=h
def gGC{p:Prop}(h:p:=by rw[List.take_of_length_le aH,List.take_of_length_le aH]at hi1;exact hi1):p:=h
def gGD{p:Prop}(h:p:=by simpa using hk):p:=h
def gGH{p:Prop}(h:p:=by rw[hd];first|rfl|(show _=some (Value.bool (!(gP d)));rw[←nO];rfl)):p:=h
end Go
section
namespace Go.SL
abbrev Hl:=Nat→Option Obj
def Hl.emp:Hl:=fun _=>none
def Hl.one(b:Nat)(o:Obj):Hl:=fun x=>if x=b then some o else none
def Hl.join(h k:Hl):Hl:=fun x=>(h x).or (k x)
def Hl.dj(h k:Hl):Prop:=∀x,h x=none∨k x=none
def Hl.le(h k:Hl):Prop:=∀x o,h x=some o→k x=some o
def Hl.le_refl(h:Hl):h.le h:=fun _ _ e=>e
def Hl.le_trans{a b c:Hl}(h:a.le b)(k:b.le c):a.le c:=fun x o e=>k x o (h x o e)
def Hl.dj.symm{a b:Hl}(h:a.dj b):b.dj a:=fun x=>(h x).symm
def Hl.dj_join{a b c:Hl}:a.dj (b.join c)↔a.dj b∧a.dj c:=by
 constructor
 ·intro h;refine⟨fun x=>?_,fun x=>?_⟩ <;> rcases h x with h|h <;> first|exact .inl h|(simp[Hl.join]at h;simp[h])
 rintro⟨h1,h2⟩ x;rcases h1 x with h|h
 ·exact .inl h
 rcases h2 x with k|k
 ·exact .inl k
 exact .inr (by simp[Hl.join,h,k])
def Hl.join_dj{a b c:Hl}:(b.join c).dj a↔b.dj a∧c.dj a:=
 ⟨fun h=>let ⟨x,y⟩:=Hl.dj_join.1 h.symm;⟨x.symm,y.symm⟩,fun⟨x,y⟩=>(Hl.dj_join.2 ⟨x.symm,y.symm⟩).symm⟩
def Hl.dj_emp(a:Hl):a.dj .emp:=fun _=>.inr rfl
def Hl.le_join_left{a b c:Hl}:(a.join b).le c→a.le c:=fun h x o e=>h x o (by simp[Hl.join,e])
def Hl.le_join_right {a b c : Hl} (hd : a.dj b) : (a.join b).le c → b.le c := fun h x o e => h x o (by
 rcases hd x with k|k
 ·simp[Hl.join,k,e]
 rw[k]at e;cases e)
def Hl.join_le{a b c:Hl}(h:a.le c)(k:b.le c):(a.join b).le c:=by
 intro x o e;unfold Hl.join at e;cases ha:a x with
 |some y=>rw[ha]at e;simp at e;subst e;exact h x _ ha
 |none=>rw[ha]at e;simp at e;exact k x o e
def Hl.join_assoc(a b c:Hl):(a.join b).join c=a.join (b.join c):=by
 funext x;simp[Hl.join,Option.or_assoc]
def Hl.join_emp(a:Hl):a.join .emp=a:=by funext x;simp[Hl.join,Hl.emp]
def Hl.emp_join(a:Hl):Hl.emp.join a=a:=by funext x;simp[Hl.join,Hl.emp]
def Hl.join_comm{a b:Hl}(h:a.dj b):a.join b=b.join a:=by
 funext x
 rcases h x with k|k
 ·simp[Hl.join,k]
 cases ha:a x <;> simp[Hl.join,k,ha]
abbrev Asn:=Hl→Prop
def pt(b:Nat)(o:Obj):Asn:=fun h=>h=Hl.one b o
def Sat:List Asn→Hl→Prop
 | [],h=>h=.emp
 |A::L,h=>∃h1 h2,A h1∧Sat L h2∧h1.dj h2∧h=h1.join h2
def eY{L M:List Asn}{h:Hl}:Sat (L++M) h↔∃h1 h2,Sat L h1∧Sat M h2∧h1.dj h2∧h=h1.join h2:=by
 induction L generalizing h with
 |nil=>
  constructor
  ·intro k;exact⟨.emp,h,Y,k,(Hl.dj_emp h).symm,(Hl.emp_join h).symm⟩
  rintro⟨h1,h2,rfl,k,_,rfl⟩;simpa[Hl.emp_join]using k
 |cons A L ih=>
  constructor
  ·rintro⟨a,r,ha,hr,hd,rfl⟩;obtain⟨x,y,hx,hy,hd2,rfl⟩:=ih.1 hr;have:=Hl.dj_join.1 hd;exact⟨a.join x,y,⟨a,x,ha,hx,this.1,Y⟩,hy,Hl.join_dj.2 ⟨this.2,hd2⟩,(Hl.join_assoc _ _ _).symm⟩
  rintro⟨_,y,⟨a,x,ha,hx,hax,rfl⟩,hy,hd,rfl⟩;have:=Hl.join_dj.1 hd;exact⟨a,x.join y,ha,ih.2 ⟨x,y,hx,hy,this.2,Y⟩,Hl.dj_join.2 ⟨hax,this.1⟩,Hl.join_assoc _ _ _⟩
def iM{A B:Asn}{L:List Asn}{h:Hl}:Sat (A::B::L) h→Sat (B::A::L) h:=by
 rintro⟨a,_,ha,⟨b,l,hb,hl,hbl,rfl⟩,hd,rfl⟩;have:=Hl.dj_join.1 hd;refine⟨b,a.join l,hb,⟨a,l,ha,hl,this.2,Y⟩,Hl.dj_join.2 ⟨this.1.symm,hbl⟩,?_⟩
 rw[←Hl.join_assoc,Hl.join_comm this.1,Hl.join_assoc]
def eR{A:Asn}{L M:List Asn}(k:∀h,Sat L h→Sat M h){h:Hl}:Sat (A::L) h→Sat (A::M) h:=
 fun⟨a,l,ha,hl,hd,e⟩=>⟨a,l,ha,k _ hl,hd,e⟩
inductive Fnd (A A':Asn):List Asn→List Asn→Prop where
 |here {L}:Fnd A A' (A::L) (A'::L)
 |there {B L L'}:Fnd A A' L L'→Fnd A A' (B::L) (B::L')
def Fnd.split{A A':Asn}{L L':List Asn}(f:Fnd A A' L L'):∃M,(∀h,Sat L h→Sat (A::M) h)∧(∀h,Sat (A'::M) h→Sat L' h):=by
 induction f with
 |here=>exact⟨_,fun _ h=>h,fun _ h=>h⟩
 | @there B L L' f ih=>
  obtain⟨M,h1,h2⟩:=ih;exact⟨B::M,fun h k=>iM (eR h1 k),fun h k=>eR h2 (iM k)⟩
inductive Hs (A:Asn):List Asn→Prop where
 |here {L}:Hs A (A::L)
 |there {B L}:Hs A L→Hs A (B::L)
def Hs.fnd{A:Asn}{L:List Asn}(f:Hs A L)(A':Asn):∃L',Fnd A A' L L':=by
 induction f with
 |here=>exact⟨_,.here⟩
 |there _ ih=>obtain⟨L',h⟩:=ih;exact⟨_,.there h⟩
def Hs.split{A:Asn}{L:List Asn}(f:Hs A L):∃M,∀h,Sat L h→Sat (A::M) h:=
 let ⟨_,g⟩:=f.fnd A;let ⟨M,h1,_⟩:=g.split;⟨M,h1⟩
inductive Tk (A:Asn):List Asn→List Asn→Prop where
 |here {L}:Tk A (A::L) L
 |there {B L M}:Tk A L M→Tk A (B::L) (B::M)
def Tk.sat{A:Asn}{L M:List Asn}(f:Tk A L M):∀h,Sat L h→Sat (A::M) h:=by
 induction f with
 |here=>exact fun _ h=>h
 |there f ih=>exact fun h k=>iM (eR ih k)
inductive Tks:List Asn→List Asn→List Asn→Prop where
 |nil {L}:Tks [] L L
 |cons {A As L M N}:Tk A L M→Tks As M N→Tks (A::As) L N
def Tks.sat{As L N:List Asn}(f:Tks As L N):∀h,Sat L h→Sat (As++N) h:=by
 induction f with
 |nil=>exact fun _ h=>h
 |cons t _ ih=>exact fun h k=>eR ih (t.sat h k)
def hp(w:World):Hl:=fun b=>w.heap[b]?
structure In (w0:World) (F K:Hl) (L:List Asn) (w:World):Prop where
 os:w.os=w0.os
 tape:w.tape=w0.tape
 output:w.output=w0.output
 size:w0.heap.size≤w.heap.size
 rep:∃h,Sat L h∧F.dj K∧F.dj h∧K.dj h∧F.le (hp w)∧K.le (hp w)∧h.le (hp w)
def In.imp{w0 w:World}{F K:Hl}{L M:List Asn}(k:∀h,Sat L h→Sat M h)(i:In w0 F K L w):In w0 F K M w:=
 let ⟨h,hs,r⟩:=i.rep
 ⟨i.os,i.tape,i.output,i.size,h,k h hs,r⟩
def In.drop{w0 w:World}{F K:Hl}{A:Asn}{L:List Asn}(i:In w0 F K (A::L) w):In w0 F K L w:=by
 obtain⟨h,⟨a,l,ha,hl,hal,rfl⟩,d1,d2,d3,l1,l2,l3⟩:=i.rep;exact⟨i.os,i.tape,i.output,i.size,l,hl,d1,(Hl.dj_join.1 d2).2,(Hl.dj_join.1 d3).2,l1,l2,Hl.le_join_right hal l3⟩
def In.known{w0 w:World}{F K:Hl}{L:List Asn}(i:In w0 F K L w){b:Nat}{o:Obj}(h:K b=some o):w.heap[b]?=some o:=by
 obtain⟨_,_,_,_,_,_,l2,_⟩:=i.rep;exact l2 b o h
def In.piece{w0 w:World}{F K:Hl}{b:Nat}{o:Obj}{L:List Asn}(i:In w0 F K (pt b o::L) w):w.heap[b]?=some o:=by
 obtain⟨h,⟨a,l,ha,hl,hal,rfl⟩,d1,d2,d3,l1,l2,l3⟩:=i.rep;exact l3 b o (by simp only[pt]at ha;subst ha;simp[Hl.join,Hl.one])
def In.mem{w0 w:World}{F K:Hl}{b:Nat}{o:Obj}{A':Asn}{L L':List Asn}(f:Fnd (pt b o) A' L L')(i:In w0 F K L w):w.heap[b]?=some o:=
 let ⟨_,h1,_⟩:=f.split;(i.imp h1).piece
def In.settle{w0 w:World}{F K:Hl}{b:Nat}{o:Obj}{L:List Asn}(i:In w0 F K (pt b o::L) w):
  K.le (K.join (Hl.one b o))∧(K.join (Hl.one b o)) b=some o∧In w0 F (K.join (Hl.one b o)) L w:=by
 obtain⟨h,⟨a,l,ha,hl,hal,rfl⟩,d1,d2,d3,l1,l2,l3⟩:=i.rep;simp only[pt]at ha;subst ha
 have hd2:=Hl.dj_join.1 d2;have hd3:=Hl.dj_join.1 d3;have hKb:K b=none:=by rcases hd3.1 b with h|h;exact h;simp[Hl.one]at h
 refine⟨fun x o e=>by simp[Hl.join,e],by simp[Hl.join,hKb,Hl.one],⟨i.os,i.tape,i.output,i.size,l,hl,Hl.dj_join.2 ⟨d1,hd2.1⟩,hd2.2,Hl.join_dj.2 ⟨hd3.2,hal⟩,l1,?_,Hl.le_join_right hal l3⟩⟩
 exact Hl.join_le l2 (Hl.le_join_left l3)
def In.drew{w0 w:World}{F K:Hl}{L:List Asn}(i:In w0 F K L w)(n:Nat):In w0 F K L {w with drawn:=n}:=
 ⟨i.os,i.tape,i.output,i.size,i.rep⟩
def In.alloc{w0 w:World}{F K:Hl}{L:List Asn}(i:In w0 F K L w)(o:Obj):
  In w0 F K (pt w.heap.size o::L) {w with heap:=w.heap.push o}:=by
 obtain⟨h,hl,d1,d2,d3,l1,l2,l3⟩:=i.rep;have fresh:∀ {k:Hl},k.le (hp w)→k w.heap.size=none:=by
  intro k hk;cases e:k w.heap.size with
  |none=>rfl
  |some o'=>have:=hk _ _ e;simp[hp]at this
 have up:∀ {k:Hl},k.le (hp w)→k.le (hp {w with heap:=w.heap.push o}):=by
  intro k hk x o' e;have:=hk x o' e;simp only[hp]at this ⊢;have hx:x < w.heap.size:=by
   rcases xAC x w.heap.size with h|h
   ·exact h
   simp[Array.getElem?_eq_none h]at this
  rw[Array.getElem?_push,x5 aH];exact this
 have djo:∀ {k:Hl},k.le (hp w)→k.dj (Hl.one w.heap.size o):=by
  intro k hk x
  by_cases hx:x=w.heap.size
  ·subst hx;exact .inl (fresh hk)
  exact .inr (by simp[Hl.one,hx])
 refine⟨i.os,i.tape,i.output,by simpa using Nat.le_succ_of_le i.size,(Hl.one w.heap.size o).join h,⟨_,h,rfl,hl,(djo l3).symm,rfl⟩,d1,Hl.dj_join.2 ⟨djo l1,d2⟩,Hl.dj_join.2 ⟨djo l2,d3⟩,up l1,up l2,Hl.join_le ?_ (up l3)⟩
 intro x o' e
 by_cases hx:x=w.heap.size
 ·subst hx;simp[Hl.one]at e;subst e;simp[hp]
 simp[Hl.one,hx]at e
def In.write{w0 w:World}{F K:Hl}{L:List Asn}{b:Nat}{o o':Obj}(i:In w0 F K (pt b o::L) w){H:Array Obj}
  (hs:H.size=w.heap.size) (hb:H[b]?=some o') (ho:∀x,x≠b→H[x]?=w.heap[x]?):
  In w0 F K (pt b o'::L) {w with heap:=H}:=by
 obtain⟨h,⟨a,l,ha,hl,hal,rfl⟩,d1,d2,d3,l1,l2,l3⟩:=i.rep;simp only[pt]at ha;subst ha
 have hd2:=Hl.dj_join.1 d2;have hd3:=Hl.dj_join.1 d3;have no:∀ {k:Hl},k.dj (Hl.one b o)→k b=none:=by
  intro k hk;rcases hk b with h|h;exact h;simp[Hl.one]at h
 have up:∀ {k:Hl},k.le (hp w)→k b=none→k.le (hp {w with heap:=H}):=by
  intro k hk hn x o'' e;have hx:x≠b:=by rintro rfl;rw[hn]at e;cases e
  simp only[hp,ho x hx];exact hk x o'' e
 have djo:∀ {k:Hl},k b=none→k.dj (Hl.one b o'):=by
  intro k hk x
  by_cases hx:x=b
  ·subst hx;exact .inl hk
  exact .inr (by simp[Hl.one,hx])
 have nl:l b=none:=no hal.symm;refine⟨i.os,i.tape,i.output,by simpa[hs]using i.size,(Hl.one b o').join l,⟨_,l,rfl,hl,(djo nl).symm,rfl⟩,d1,Hl.dj_join.2 ⟨djo (no hd2.1),hd2.2⟩,Hl.dj_join.2 ⟨djo (no hd3.1),hd3.2⟩,up l1 (no hd2.1),up l2 (no hd3.1),Hl.join_le ?_ (up (Hl.le_join_right hal l3) nl)⟩
 intro x o'' e
 by_cases hx:x=b
 ·subst hx;simp[Hl.one]at e;subst e;simpa[hp]using hb
 simp[Hl.one,hx]at e
def In.writeAt{w0 w:World}{F K:Hl}{L L':List Asn}{b:Nat}{o o':Obj}(f:Fnd (pt b o) (pt b o') L L')(i:In w0 F K L w){H:Array Obj}
  (hs:H.size=w.heap.size) (hb:H[b]?=some o') (ho:∀x,x≠b→H[x]?=w.heap[x]?):
  In w0 F K L' {w with heap:=H}:=
 let ⟨_,h1,h2⟩:=f.split;((i.imp h1).write hs hb ho).imp h2
def In.hide{w0 w:World}{F K:Hl}{L N:List Asn}(i:In w0 F K (L++N) w):
  ∃F',In w F' K L w∧∀ {K':Hl} {L':List Asn} {w':World},In w F' K' L' w'→In w0 F K' (L'++N) w':=by
 obtain⟨h,hs,d1,d2,d3,l1,l2,l3⟩:=i.rep;obtain⟨a,n,ha,hn,han,rfl⟩:=eY.1 hs;have hd2:=Hl.dj_join.1 d2;have hd3:=Hl.dj_join.1 d3;refine⟨F.join n,⟨Y,Y,Y,xAA _,a,ha,Hl.join_dj.2 ⟨d1,hd3.2.symm⟩,Hl.join_dj.2 ⟨hd2.1,han.symm⟩,hd3.1,Hl.join_le l1 (Hl.le_join_right han l3),l2,Hl.le_join_left l3⟩,?_⟩
 intro K' L' w' j;obtain⟨h',hs',e1,e2,e3,m1,m2,m3⟩:=j.rep;have x1:=Hl.join_dj.1 e1;have x2:=Hl.join_dj.1 e2;refine⟨j.os.trans i.os,j.tape.trans i.tape,j.output.trans i.output,xAV i.size j.size,h'.join n,eY.2 ⟨h',n,hs',hn,x2.2.symm,Y⟩,x1.1,Hl.dj_join.2 ⟨x2.1,hd2.2⟩,Hl.dj_join.2 ⟨e3,x1.2.symm⟩,Hl.le_join_left m1,m2,Hl.join_le m3 (Hl.le_join_right hd2.2 m1)⟩
abbrev Fr:=List (Nat×Value)
def Fr.get:Fr→Nat→Option Value
 | [],_=>none
 |(k,v)::r,j=>bif Nat.beq k j then some v else Fr.get r j
def Fr.ev(fr:Fr):Operand→Option Value
 | .tmp t=>fr.get t
 | .const v=>some v
 | .global g=>some (.pointer (some ⟨g,0,none⟩))
 | .func f=>some (.func (.func f) #[] #[])
def Fr.evs(fr:Fr):List Operand→Option (List Value)
 | []=>some []
 |x::xs=>match fr.ev x,fr.evs xs with|some v,some vs=>some (v::vs)|_,_=>none
structure FrOk (n:Nat) (ds:List Deferred) (fr:Fr) (a:Act):Prop where
 defers:a.defers=ds
 size:a.tmps.size=n
 get:∀k v,fr.get k=some v→a.tmps[k]?=some v
def FrOk.ev{n:Nat}{ds:List Deferred}{fr:Fr}{a:Act}(h:FrOk n ds fr a){x:Operand}{v:Value}(e:fr.ev x=some v):a.eval x=v:=by
 cases x <;> simp only[Fr.ev]at e
 case tmp t=>simp[Act.eval,h.get _ _ e]
 all_goals (cases e;rfl)
def FrOk.evs{n:Nat}{ds:List Deferred}{fr:Fr}{a:Act}(h:FrOk n ds fr a):∀ {xs:List Operand} {vs:List Value},fr.evs xs=some vs→xs.map a.eval=vs
 | [],vs,e=>by simp only[Fr.evs]at e;cases e;rfl
 |x::xs,vs,e=>by
  simp only[Fr.evs]at e;cases hx:fr.ev x <;> cases hs:fr.evs xs <;> simp[hx,hs]at e
  subst e;simp[h.ev hx,h.evs hs]
def aRT{a b:Nat}(h:¬a=b):Nat.beq a b=false:=by
 cases e:Nat.beq a b with
 |false=>rfl
 |true=>exact absurd (Nat.eq_of_beq_eq_true e) h
def bN0{a b:Nat}(h:Nat.beq a b=false):¬a=b:=fun e=>by subst e;rw[Nat.beq_refl]at h;cases h
def FrOk.put{n:Nat}{ds:List Deferred}{fr:Fr}{a:Act}(h:FrOk n ds fr a){d:Nat}(hd:Nat.blt d n=true)(v:Value):FrOk n ds ((d,v)::fr) (a.put (some d) v):=by
 have hd':d < n:=by simp[Nat.blt]at hd;omega
 refine⟨h.defers,by simp[Act.put,h.size],fun k u e=>?_⟩
 simp only[Fr.get]at e;simp only[Act.put,Array.getElem?_setIfInBounds,h.size]
 by_cases hk:d=k
 ·subst hk;simp at e;subst e;simp[hd']
 rw[x5 hk];have:Nat.beq d k=false:=aRT hk;rw[this]at e;exact h.get _ _ e
inductive Kp (fr:Fr):Fr→Prop where
 |nil:Kp fr []
 |cons (k:Nat) {v:Value} {fr':Fr}:fr.get k=some v→Kp fr fr'→Kp fr ((k,v)::fr')
def Kp.get{fr fr':Fr}(h:Kp fr fr'):∀k v,fr'.get k=some v→fr.get k=some v:=by
 induction h with
 |nil=>intro k v e;cases e
 | @cons k v fr' e _ ih=>
  intro j u hj;simp only[Fr.get]at hj
  by_cases hk:k=j
  ·subst hk;simp at hj;subst hj;exact e
  have:Nat.beq k j=false:=aRT hk;rw[this]at hj;exact ih _ _ hj
def FrOk.keep{n:Nat}{ds:List Deferred}{fr fr':Fr}{a:Act}(h:FrOk n ds fr a)(k:Kp fr fr'):FrOk n ds fr' a:=
 ⟨h.defers,h.size,fun j v e=>h.get j v (k.get j v e)⟩
structure Env where
 P:Program
 n:Nat
 ds:List Deferred
 w0:World
 F:Hl
abbrev Post:=Exit→Act→World→Prop
def T(E:Env)(c:Code)(fr:Fr)(K:Hl)(L:List Asn)(Q:Post):Prop:=
 ∀a w,FrOk E.n E.ds fr a→In E.w0 E.F K L w→c.wp E.P Q a w
def OL(E:Env)(ops:Array Oper)(l:List Oper)(fr:Fr)(K:Hl)(L:List Asn)(Q:Post):Prop:=
 ∀a w,FrOk E.n E.ds fr a→In E.w0 E.F K L w→wpList E.P ops Q l a w
def D(E:Env)(x:Exit)(fr:Fr)(K:Hl)(L:List Asn)(Q:Post):Prop:=
 ∀a w,FrOk E.n E.ds fr a→In E.w0 E.F K L w→Q x a w
def Ev(E:Env)(fr:Fr)(K:Hl)(L:List Asn)(o:Oper)(v:Value):Prop:=
 ∀a w,FrOk E.n E.ds fr a→In E.w0 E.F K L w→(execOp a.eval o).run E.P w=.ok (.value v) w
def Ef(E:Env)(fr:Fr)(K:Hl)(L:List Asn)(o:Oper)(Q:Post)(N:Value→Hl→List Asn→Prop):Prop:=
 ∀a w (k:Act→World→Prop),FrOk E.n E.ds fr a→In E.w0 E.F K L w→
  (∀v K' L' w',N v K' L'→K.le K'→In E.w0 E.F K' L' w'→k (a.put o.dst v) w')→o.wp E.P a w k Q∨(o.asks E.P a w∧LetsOut Q)
def EfS(E:Env)(fr:Fr)(K:Hl)(L:List Asn)(o:Oper)(N:Value→Hl→List Asn→Prop):Prop:=
 ∀a w,FrOk E.n E.ds fr a→In E.w0 E.F K L w→∃u w' K' L',((execOp a.eval o).run E.P w=.ok (.value u) w'∨((execOp a.eval o).run E.P w=.ok .skip w'∧u=undef))∧N u K' L'∧K.le K'∧In E.w0 E.F K' L' w'
def aVL{E:Env}{fr:Fr}{K:Hl}{L:List Asn}{o:Oper}{Q:Post}{N:Value→Hl→List Asn→Prop}(h:EfS E fr K L o N):Ef E fr K L o Q N:=by
 intro a w k f i hk;obtain⟨u,w',K',L',hr,hn,le,j⟩:=h a w f i;refine .inl ?_;unfold Oper.wp;rcases hr with hr|⟨hr,rfl⟩ <;> rw[hr]
 ·exact hk _ _ _ _ hn le j
 exact hk _ _ _ _ hn le j
def Sp(P:Program)(f:FuncId)(args:List Value)(K:Hl)(L:List Asn)(R:Ending→Hl→List Asn→Prop):Prop:=
 (∃fn,P.funcs[f]?=some fn∧(fn.name== "runtime.NumGoroutine")=false∧fn.body.isSome=true)∧
 ∀F w,In w F K L w→Calls P f args.toArray w fun e w'=>∃K' L',R e K' L'∧K.le K'∧In w F K' L' w'
def Ret(N:Value→Hl→List Asn→Prop):Ending→Hl→List Asn→Prop:=fun e K L=>∃v,e=.returned v∧N v K L
def Sp.mono{P:Program}{f:FuncId}{args:List Value}{K:Hl}{L:List Asn}{R R':Ending→Hl→List Asn→Prop}(h:Sp P f args K L R)
  (k:∀e K' L',R e K' L'→R' e K' L'):Sp P f args K L R':=
 ⟨h.1,fun F w i=>(h.2 F w i).mono fun _ _ ⟨K',L',r,le,j⟩=>⟨K',L',k _ _ _ r,le,j⟩⟩
section
variable{E:Env}{fr:Fr}{K:Hl}{L:List Asn}{Q:Post}{c x y:Code}{ops:Array Oper}{rest:List Oper}
def jJ{L':List Asn}(k:∀h,Sat L h→Sat L' h)(h:T E c fr K L' Q):T E c fr K L Q:=fun a w f i=>h a w f (i.imp k)
def aI(h:T E x fr K L (Exit.then (fun a w=>y.wp E.P Q a w) Q)):T E (.seq x y) fr K L Q:=fun a w f i=>wp_seq (h a w f i)
def aW(h:D E .normal fr K L Q):T E .skip fr K L Q:=fun a w f i=>wp_skip (h a w f i)
def cR{id:Nat}(h:D E (.exit id) fr K L Q):T E (.exit id) fr K L Q:=fun a w f i=>wp_exit (h a w f i)
def bK(h:D E .ret fr K L Q):T E .ret fr K L Q:=fun a w f i=>wp_ret (h a w f i)
def bD{id:Nat}(h:T E c fr K L (Exit.inBlock id Q)):T E (.block id c) fr K L Q:=fun a w f i=>wp_block (h a w f i)
def FrOk.known{n:Nat}{ds:List Deferred}{a:Act}(f:FrOk n ds fr a){d:Nat}{b c:Bool}(e:fr.get d=some (.bool b))(hc:b=c):FrOk n ds ((d,.bool c)::fr) a:=
 ⟨f.defers, f.size, fun k v h => by
  simp only[Fr.get]at h
  by_cases hk:d=k
  ·subst hk;simp at h;subst h;rw[←hc];exact f.get _ _ e
  rw[aRT hk]at h;exact f.get _ _ h⟩
def d9(d:Nat){b:Bool}(e:fr.get d=some (.bool b))(ht:b=true→T E x ((d,.bool true)::fr) K L Q)(hf:b=false→T E y ((d,.bool false)::fr) K L Q):T E (.cond (.tmp d) x y) fr K L Q:=by
 intro a w f i;have ev:fr.ev (.tmp d)=some (.bool b):=e;cases b
 ·exact wp_cond_false (f.ev ev) (hf Y a w (f.known e Y) i)
 exact wp_cond_true (f.ev ev) (ht Y a w (f.known e Y) i)
def aY(d:Nat){p:Prop}[Decidable p](e:fr.get d=some (.bool (decide p)))(ht:p→T E x ((d,.bool true)::fr) K L Q)(hf:¬p→T E y ((d,.bool false)::fr) K L Q):T E (.cond (.tmp d) x y) fr K L Q:=
 d9 d e (fun h=>ht (xAH h)) (fun h=>hf (xA1 h))
def fL{o:Operand}(e:fr.ev o=some (.bool true))(h:T E x fr K L Q):T E (.cond o x y) fr K L Q:=fun a w f i=>wp_cond_true (f.ev e) (h a w f i)
def dO{o:Operand}(e:fr.ev o=some (.bool false))(h:T E y fr K L Q):T E (.cond o x y) fr K L Q:=fun a w f i=>wp_cond_false (f.ev e) (h a w f i)
def aF(h:T E y fr K L Q):D E .normal fr K L (Exit.then (fun a w=>y.wp E.P Q a w) Q):=h
def aR{id:Nat}{next:Act→World→Prop}(h:D E (.exit id) fr K L Q):D E (.exit id) fr K L (Exit.then next Q):=h
def aU{next:Act→World→Prop}(h:D E .ret fr K L Q):D E .ret fr K L (Exit.then next Q):=h
def aV{ch:List PanicEntry}{next:Act→World→Prop}(h:D E (.panic ch) fr K L Q):D E (.panic ch) fr K L (Exit.then next Q):=h
def aN{id:Nat}(h:D E .normal fr K L Q):D E .normal fr K L (Exit.inBlock id Q):=h
def aZ{id:Nat}(h:D E .ret fr K L Q):D E .ret fr K L (Exit.inBlock id Q):=h
def bP{id:Nat}{ch:List PanicEntry}(h:D E (.panic ch) fr K L Q):D E (.panic ch) fr K L (Exit.inBlock id Q):=h
def bE{id:Nat}(h:D E .normal fr K L Q):D E (.exit id) fr K L (Exit.inBlock id Q):=fun a w f i=>by
 show (if id=id then Q .normal a w else _);rw[x7 rfl];exact h a w f i
def gK{id id':Nat}(hne:Nat.beq id' id=false)(h:D E (.exit id') fr K L Q):D E (.exit id') fr K L (Exit.inBlock id Q):=fun a w f i=>by
 show (if id'=id then _ else Q (.exit id') a w);rw[x5 (bN0 hne)];exact h a w f i
def Mid(E:Env){ι:Type}(I:ι→Prop)(fr:ι→Fr)(K:ι→Hl)(L:ι→List Asn):Act→World→Prop:=fun a w=>∃i,I i∧FrOk E.n E.ds (fr i) a∧In E.w0 E.F (K i) (L i) w
def dX{ι:Type}(I:ι→Prop)(fr':ι→Fr)(K':ι→Hl)(L':ι→List Asn)(h1:T E x fr K L (Exit.then (Mid E I fr' K' L') Q))(h2:∀i,I i→T E y (fr' i) (K' i) (L' i) Q):
  T E (.seq x y) fr K L Q:=by
 intro a w f i;refine wp_seq (Code.wp_mono (fun e a w q=>?_) (h1 a w f i))
 cases e <;> first|exact q|(obtain⟨j,hj,fj,ij⟩:=q;exact h2 j hj _ _ fj ij)
def a8{ι:Type}{I:ι→Prop}{fr':ι→Fr}{K':ι→Hl}{L':ι→List Asn}(i:ι)(hi:I i)(k:Kp fr (fr' i))(hK:K' i=K)(hL:∀h,Sat L h→Sat (L' i) h):
  D E .normal fr K L (Exit.then (Mid E I fr' K' L') Q):=fun a w f j=>⟨i,hi,f.keep k,by rw[hK];exact j.imp hL⟩
def eH{ι:Type}(I:ι→Prop)(fr':ι→Fr)(K':ι→Hl)(L':ι→List Asn)(μ:ι→Nat)(i0:ι)(h0:I i0)(k:Kp fr (fr' i0))(hK:K' i0=K)(hL:∀h,Sat L h→Sat (L' i0) h)
  (round:∀i,I i→T E c (fr' i) (K' i) (L' i) (Exit.then (fun a w=>∃j,I j∧μ j < μ i∧FrOk E.n E.ds (fr' j) a∧In E.w0 E.F (K' j) (L' j) w) Q)):T E (.loop c) fr K L Q:=by
 intro a w f i b kk cs;have key:∀n j,μ j=n→I j→∀a w,FrOk E.n E.ds (fr' j) a→In E.w0 E.F (K' j) (L' j) w→
   ∃e a' w',Q e a' w'∧Arrives E.P (lone (b.at a (.code c::.inLoop c::kk)) cs w) b kk cs e a' w':=by
  intro n;induction n using Nat.strongRecOn with
  |_ n ih=>
   intro j hj hIj a w f i;obtain⟨e,a₁,w₁,hq,harr⟩:=round j hIj a w f i b (.inLoop c::kk) cs;cases e with
   |normal=>
    obtain⟨j',hI',hlt,f',i'⟩:=hq;obtain⟨e₂,a₂,w₂,hq₂,harr₂⟩:=ih _ (hj▸hlt) j' rfl hI' _ _ f' i';exact⟨e₂,a₂,w₂,hq₂,.of_steps (Steps.trans harr (.one step_inLoop)) harr₂⟩
   |exit id=>exact⟨_,a₁,w₁,hq,.pass (x:=.inLoop c) Y (fun _ _=>.inl (by simp)) harr⟩
   |goto l=>exact⟨_,a₁,w₁,hq,.pass (x:=.inLoop c) Y (fun _ _=>.inl (by simp)) harr⟩
   |ret=>exact⟨_,a₁,w₁,hq,.pass (x:=.inLoop c) Y (fun _ _=>.inl (by simp)) harr⟩
   |panic ch=>exact⟨_,a₁,w₁,hq,.pass (x:=.inLoop c) Y (fun _ _=>.inl (by simp)) harr⟩
   |outgrown=>exact⟨_,a₁,w₁,hq,.pass (x:=.inLoop c) Y (fun _ _=>.inl (by simp)) harr⟩
 obtain⟨e,a',w',hq,harr⟩:=key _ i0 rfl h0 a w (f.keep k) (by rw[hK];exact i.imp hL);exact⟨e,a',w',hq,.of_steps (.one step_loop) harr⟩
def cM{ι:Type}{I:ι→Prop}{fr':ι→Fr}{K':ι→Hl}{L':ι→List Asn}{μ:ι→Nat}{m:Nat}(j:ι)(hj:I j)(hlt:μ j < m)(k:Kp fr (fr' j))(hK:K' j=K)(hL:∀h,Sat L h→Sat (L' j) h):
  D E .normal fr K L (Exit.then (fun a w=>∃j,I j∧μ j < m∧FrOk E.n E.ds (fr' j) a∧In E.w0 E.F (K' j) (L' j) w) Q):=
 fun a w f i=>⟨j,hj,hlt,f.keep k,by rw[hK];exact i.imp hL⟩
def aC{id:Nat}{l:List Oper}(h:OL E l.toArray l fr K L Q):T E (.region id l.toArray false) fr K L Q:=fun a w f i=>wp_region_lit (h a w f i)
def aG(h:D E .normal fr K L Q):OL E ops [] fr K L Q:=fun a w f i=>wpList_nil (h a w f i)
def j4{l:List Oper}{L':List Asn}(k:∀h,Sat L h→Sat L' h)(h:OL E ops l fr K L' Q):OL E ops l fr K L Q:=fun a w f i=>h a w f (i.imp k)
def aA{d:Nat}{op:Op}{ty:TypeId}{pos:String}{aft:Array Edge}{v:Value}(hv:Ev E fr K L ⟨some d,op,ty,pos,aft,none⟩ v)(hd:Nat.blt d E.n=true)
  (h:OL E ops rest ((d,v)::fr) K L Q):OL E ops (⟨some d,op,ty,pos,aft,none⟩::rest) fr K L Q:=by
 intro a w f i;refine wpList_plain Y fun k hk=>?_;unfold Oper.wp;rw[hv a w f i];exact hk _ _ (h _ _ (f.put hd v) i)
def aKD{d:Nat}{op:Op}{ty:TypeId}{pos:String}{aft:Array Edge}{N:Value→Hl→List Asn→Prop}(hv:Ef E fr K L ⟨some d,op,ty,pos,aft,none⟩ Q N)(hd:Nat.blt d E.n=true)
  (h:∀v K' L',N v K' L'→K.le K'→OL E ops rest ((d,v)::fr) K' L' Q):OL E ops (⟨some d,op,ty,pos,aft,none⟩::rest) fr K L Q:=by
 intro a w f i;unfold wpList;rw[x7 (show Region.wanted _ _=true from rfl)];exact hv a w _ f i fun v K' L' w' n le j=>h v K' L' n le _ _ (f.put hd v) j
def bMJ{op:Op}{ty:TypeId}{pos:String}{aft:Array Edge}{N:Value→Hl→List Asn→Prop}(hv:Ef E fr K L ⟨none,op,ty,pos,aft,none⟩ Q N)
  (h:∀v K' L',N v K' L'→K.le K'→OL E ops rest fr K' L' Q):OL E ops (⟨none,op,ty,pos,aft,none⟩::rest) fr K L Q:=by
 intro a w f i;unfold wpList;rw[x7 (show Region.wanted _ _=true from rfl)];exact hv a w _ f i fun v K' L' w' n le j=>h v K' L' n le _ _ f j
def cJ{d:Nat}{op:Op}{ty:TypeId}{pos:String}{aft:Array Edge}{N:Value→Hl→List Asn→Prop}(hv:EfS E fr K L ⟨some d,op,ty,pos,aft,none⟩ N)(hd:Nat.blt d E.n=true)
  (h:∀v K' L',N v K' L'→K.le K'→OL E ops rest ((d,v)::fr) K' L' Q):OL E ops (⟨some d,op,ty,pos,aft,none⟩::rest) fr K L Q:=aKD (aVL hv) hd h
def cD{op:Op}{ty:TypeId}{pos:String}{aft:Array Edge}{N:Value→Hl→List Asn→Prop}(hv:EfS E fr K L ⟨none,op,ty,pos,aft,none⟩ N)
  (h:∀v K' L',N v K' L'→K.le K'→OL E ops rest fr K' L' Q):OL E ops (⟨none,op,ty,pos,aft,none⟩::rest) fr K L Q:=bMJ (aVL hv) h
def oU{p:Prop}(k:∀h,Sat L h→p)(h:p→T E c fr K L Q):T E c fr K L Q:=fun a w f i=>h (let ⟨x,hx,_⟩:=i.rep;k x hx) a w f i
def kL{l:List Oper}{b:Nat}{o:Obj}(h:∀K',K.le K'→K' b=some o→OL E ops l fr K' L Q):OL E ops l fr K (pt b o::L) Q:=fun a w f i=>let ⟨h1,h2,h3⟩:=i.settle;h _ h1 h2 a w f h3
def exA{ι:Type}(Ls:ι→List Asn):Asn:=fun h=>∃i,Sat (Ls i) h
def oL{ι:Type}{Ls:ι→List Asn}{M:List Asn}{h:Hl}:Sat (exA Ls::M) h↔∃i,Sat (Ls i++M) h:=by
 constructor
 ·rintro⟨a,m,⟨i,hi⟩,hm,hd,rfl⟩;exact⟨i,eY.2 ⟨a,m,hi,hm,hd,Y⟩⟩
 rintro⟨i,hi⟩;obtain⟨a,m,ha,hm,hd,rfl⟩:=eY.1 hi;exact⟨a,m,⟨i,ha⟩,hm,hd,Y⟩
def In.ex{ι:Type}{Ls:ι→List Asn}{M:List Asn}{w0 w:World}{F:Hl}(j:In w0 F K (exA Ls::M) w):∃i,In w0 F K (Ls i++M) w:=
 let ⟨h,hs,r⟩:=j.rep;let ⟨i,hi⟩:=oL.1 hs;⟨i,j.os,j.tape,j.output,j.size,h,hi,r⟩
def u5{ι:Type}{Ls:ι→List Asn}(h:∀i,T E c fr K (Ls i++L) Q):T E c fr K (exA Ls::L) Q:=fun a w f j=>let ⟨i,ji⟩:=j.ex;h i a w f ji
def bOK{ι:Type}{l:List Oper}{Ls:ι→List Asn}(h:∀i,OL E ops l fr K (Ls i++L) Q):OL E ops l fr K (exA Ls::L) Q:=fun a w f j=>let ⟨i,ji⟩:=j.ex;h i a w f ji
def kN{l:List Oper}(d:Nat){b:Bool}(e:fr.get d=some (.bool b))(ht:b=true→OL E ops l ((d,.bool true)::fr) K L Q)(hf:b=false→OL E ops l ((d,.bool false)::fr) K L Q):OL E ops l fr K L Q:=by
 intro a w f i;have key : ∀ c, b = c → FrOk E.n E.ds ((d, .bool c) :: fr) a := fun c hc => ⟨f.defers, f.size, fun k v h => by
  simp only[Fr.get]at h
  by_cases hk:d=k
  ·subst hk;simp at h;subst h;rw[←hc];exact f.get _ _ e
  rw[aRT hk]at h;exact f.get _ _ h⟩
 cases b
 ·exact hf Y a w (key _ Y) i
 exact ht Y a w (key _ Y) i
def bV{l:List Oper}(d:Nat){p:Prop}[Decidable p](e:fr.get d=some (.bool (decide p)))(ht:p→OL E ops l ((d,.bool true)::fr) K L Q)(hf:¬p→OL E ops l ((d,.bool false)::fr) K L Q):OL E ops l fr K L Q:=
 kN d e (fun h=>ht (xAH h)) (fun h=>hf (xA1 h))
def aT{dst:Option Tmp}{op:Op}{ty:TypeId}{pos:String}{aft:Array Edge}{g dg:Nat}{b:Bool}(hg:(ops[g]?).bind (·.dst)=some dg)(hb:fr.get dg=some (.bool b))
  (h:OL E ops (⟨dst,op,ty,pos,aft,none⟩::rest) fr K L Q):OL E ops (⟨dst,op,ty,pos,aft,some (g,b)⟩::rest) fr K L Q:=by
 intro a w f i;have:=h a w f i;have hw:Region.wanted ⟨dst,op,ty,pos,aft,some (g,b)⟩ (yielded ops a.tmps)=true:=by
  simp[Region.wanted,yielded,hg,f.get _ _ hb]
 unfold wpList at this ⊢;rw[x7 hw];rw[x7 (by rfl)]at this;exact this
def aO{d:Nat}{op:Op}{ty:TypeId}{pos:String}{aft:Array Edge}{g dg:Nat}{b:Bool}(hg:(ops[g]?).bind (·.dst)=some dg)(hb:fr.get dg=some (.bool (!b)))(hd:Nat.blt d E.n=true)
  (h:OL E ops rest ((d,undef)::fr) K L Q):OL E ops (⟨some d,op,ty,pos,aft,some (g,b)⟩::rest) fr K L Q:=by
 intro a w f i;have hw:Region.wanted ⟨some d,op,ty,pos,aft,some (g,b)⟩ (yielded ops a.tmps)=false:=by
  simp[Region.wanted,yielded,hg,f.get _ _ hb]
 exact wpList_skip hw (h _ _ (f.put hd undef) i)
def fY{d:Nat}{op:Op}{ty:TypeId}{pos:String}{aft:Array Edge}{g dg:Nat}{b:Bool}(hg:(ops[g]?).bind (·.dst)=some dg)(hb:fr.get dg=some undef)(hd:Nat.blt d E.n=true)
  (h:OL E ops rest ((d,undef)::fr) K L Q):OL E ops (⟨some d,op,ty,pos,aft,some (g,b)⟩::rest) fr K L Q:=by
 intro a w f i;have hw:Region.wanted ⟨some d,op,ty,pos,aft,some (g,b)⟩ (yielded ops a.tmps)=false:=by
  simp[Region.wanted,yielded,hg,f.get _ _ hb,undef]
 exact wpList_skip hw (h _ _ (f.put hd undef) i)
def aPP{dst:Option Tmp}{ty:TypeId}{pos:String}{aft:Array Edge}{x:Operand}{t:TypeId}{v:Value}(hx:fr.ev x=some (.iface t v))(h:D E (.panic [{v:=.iface t v,recovered:=false}]) fr K L Q):
  OL E ops (⟨dst,.panic x,ty,pos,aft,none⟩::rest) fr K L Q:=by
 intro a w f i;refine wpList_plain Y fun k hk=>?_;unfold Oper.wp;have:(execOp a.eval ⟨dst,.panic x,ty,pos,aft,none⟩).run E.P w=.halt (.panic (.iface t v)) w:=by
  simp only[execOp,f.ev hx];rfl
 rw[this];exact h a w f i
def aDC{P:Program}{f:FuncId}{vs:Array Value}{fn:Func}(hf:P.funcs[f]?=some fn)(hn:(fn.name== "runtime.NumGoroutine")=false)(hb:fn.body.isSome=true)(w:World):
  (callFunc f vs).run P w=.ok (.enter f vs) w:=by
 have hb':fn.body.isNone=false:=by cases h:fn.body <;> simp_all
 show Sem.run P (match P.funcs[f]? with|none=>_|some fn=>_) w=_
 rw[hf];simp only[hn,hb',Bool.false_eq_true,if_false]
 rfl
def uS{fv:Operand}{xs:List Operand}{ats:Array TypeId}{f:FuncId}{caps:Array Value}{vs:List Value}{dst:Option Tmp}{ty:TypeId}{pos:String}{aft:Array Edge}{g:Option (Nat×Bool)}{R:Ending→Hl→List Asn→Prop}{L1:List Asn}
  (hf:fr.ev fv=some (.func (.func f) #[] caps)) (hx:fr.evs xs=some vs) (hs:Sp E.P f (vs++caps.toList) K L1 R) {a:Act} (fo:FrOk E.n E.ds fr a) (w:World):
  (execOp a.eval ⟨dst,.call ⟨.value fv,xs.toArray,ats⟩,ty,pos,aft,g⟩).run E.P w=.ok (.enter f (vs++caps.toList).toArray) w:=by
 obtain⟨⟨fn,h1,h2,h3⟩,hs⟩:=hs;have e1:Array.map a.eval xs.toArray=vs.toArray:=by simp[fo.evs hx]
 have e2:([]++vs).toArray++caps=(vs++caps.toList).toArray:=by simp
 simp only[execOp,resolve,e1,fo.ev hf,Deferred.ofValue,bind,pure,Sem.bind,invoke,List.append_toArray];rw[e2];exact aDC h1 h2 h3 w
def aL0{dst:Option Tmp}{ty:TypeId}{pos:String}{aft:Array Edge}{g:Option (Nat×Bool)}{fv:Operand}{xs:List Operand}{ats:Array TypeId}{f:FuncId}{caps:Array Value}{vs:List Value}{L1 L2:List Asn}
  {R:Ending→Hl→List Asn→Prop} {N:Value→Hl→List Asn→Prop}
  (hf:fr.ev fv=some (.func (.func f) #[] caps)) (hx:fr.evs xs=some vs) (hL:Tks L1 L L2)
  (hs:Sp E.P f (vs++caps.toList) K L1 R)
  (hret:∀v K' L',R (.returned v) K' L'→N v K' (L'++L2))
  (hpan:∀ch K' L',R (.panicked ch) K' L'→K.le K'→D E (.panic ch) fr K' (L'++L2) Q)
  (hout:∀K' L',R .outgrown K' L'→LetsOut Q):
  Ef E fr K L ⟨dst,.call ⟨.value fv,xs.toArray,ats⟩,ty,pos,aft,g⟩ Q N:=by
 intro a w k fo i hk;obtain⟨F',i1,back⟩:=(i.imp hL.sat).hide;refine .inl ?_;unfold Oper.wp;rw[uS hf hx hs fo w];refine(hs.2 F' w i1).mono fun e w' ⟨K',L',r,le,j⟩=>?_;cases e with
 |returned v=>exact hk _ _ _ _ (hret _ _ _ r) le (back j)
 |panicked ch=>exact hpan _ _ _ r le _ _ fo (back j)
 |outgrown=>exact hout _ _ r
def bA{d:Nat}{ty:TypeId}{pos:String}{aft:Array Edge}{fv:Operand}{xs:List Operand}{ats:Array TypeId}{f:FuncId}{caps:Array Value}{vs:List Value}{L1 L2:List Asn}{N:Value→Hl→List Asn→Prop}
  (hf:fr.ev fv=some (.func (.func f) #[] caps)) (hx:fr.evs xs=some vs) (hs:Sp E.P f (vs++caps.toList) K L1 (Ret N)) (hL:Tks L1 L L2) (hd:Nat.blt d E.n=true)
  (h:∀v K' L',N v K' L'→K.le K'→OL E ops rest ((d,v)::fr) K' (L'++L2) Q):OL E ops (⟨some d,.call ⟨.value fv,xs.toArray,ats⟩,ty,pos,aft,none⟩::rest) fr K L Q:=
 aKD (aL0 (N:=fun v K' L''=>∃L',L''=L'++L2∧N v K' L') hf hx hL hs (fun v K' L' ⟨u,e,n⟩=>by cases e;exact⟨L',Y,n⟩) (fun ch K' L' ⟨u,e,n⟩=>by cases e) (fun K' L' ⟨u,e,n⟩=>by cases e)) hd
  (fun v K' L'' ⟨L',e,n⟩ le=>by subst e;exact h v K' L' n le)
def Val(v:Value)(K:Hl):Ending→Hl→List Asn→Prop:=fun e K' L'=>e=.returned v∧K'=K∧L'=[]
def cN{d:Nat}{ty:TypeId}{pos:String}{aft:Array Edge}{fv:Operand}{xs:List Operand}{ats:Array TypeId}{f:FuncId}{caps:Array Value}{vs:List Value}{v:Value}
  (hf:fr.ev fv=some (.func (.func f) #[] caps)) (hx:fr.evs xs=some vs) (hs:Sp E.P f (vs++caps.toList) K [] (Val v K)) (hd:Nat.blt d E.n=true)
  (h:OL E ops rest ((d,v)::fr) K L Q):OL E ops (⟨some d,.call ⟨.value fv,xs.toArray,ats⟩,ty,pos,aft,none⟩::rest) fr K L Q:=
 aKD (aL0 (N:=fun u K' L''=>u=v∧K'=K∧L''=L) hf hx .nil hs (fun u K' L' ⟨e,e2,e3⟩=>by cases e;subst e3;exact⟨Y,e2,Y⟩) (fun ch K' L' ⟨e,_⟩=>by cases e) (fun K' L' ⟨e,_⟩=>by cases e)) hd
  (fun u K' L'' ⟨e1,e2,e3⟩ _=>by subst e1;subst e2;subst e3;exact h)
def cA{d:Nat}{ty:TypeId}{pos:String}{aft:Array Edge}{fv:Operand}{xs:List Operand}{ats:Array TypeId}{f:FuncId}{caps:Array Value}{vs:List Value}{L1 L2:List Asn}{R:Ending→Hl→List Asn→Prop}
  (hf:fr.ev fv=some (.func (.func f) #[] caps)) (hx:fr.evs xs=some vs) (hs:Sp E.P f (vs++caps.toList) K L1 R) (hL:Tks L1 L L2) (hd:Nat.blt d E.n=true)
  (hout:∀K' L',¬R .outgrown K' L')
  (hpan:∀ch K' L',R (.panicked ch) K' L'→K.le K'→D E (.panic ch) fr K' (L'++L2) Q)
  (h:∀v K' L',R (.returned v) K' L'→K.le K'→OL E ops rest ((d,v)::fr) K' (L'++L2) Q):OL E ops (⟨some d,.call ⟨.value fv,xs.toArray,ats⟩,ty,pos,aft,none⟩::rest) fr K L Q:=
 aKD (aL0 (N:=fun v K' L''=>∃L',L''=L'++L2∧R (.returned v) K' L') hf hx hL hs (fun v K' L' n=>⟨L',rfl,n⟩) hpan (fun K' L' n=>absurd n (hout _ _))) hd
  (fun v K' L'' ⟨L',e,n⟩ le=>by subst e;exact h v K' L' n le)
def wO(P:Program)(fn:Func)(w0:World)(F K0:Hl)(R:Ending→Hl→List Asn→Prop):Post:=
 bodyPost P fn fun e w'=>∃K' L',R e K' L'∧K0.le K'∧In w0 F K' L' w'
def Fr.init:Nat→List Value→Nat→Fr
 |i,v::vs,n=>(i,v)::Fr.init (i+1) vs n
 |_,[],_=>[]
def xJ{vs:List Value}:∀ {i n:Nat} {k:Nat} {v:Value},(Fr.init i vs n).get k=some v→i≤k∧vs[k - i]?=some v:=by
 induction vs with
 |nil=>intro i n k v e;simp[Fr.init,Fr.get]at e
 |cons u vs ih=>
  intro i n k v e;simp only[Fr.init,Fr.get]at e
  by_cases hk:i=k
  ·subst hk;simp at e;subst e;simp
  rw[aRT hk]at e;obtain⟨h1,h2⟩:=ih e;refine⟨by omega,?_⟩
  have:k - i=(k - (i+1))+1:=by omega
  rw[this];simpa using h2
def bN{P:Program}{f:FuncId}{fn:Func}{c:Code}{args:List Value}{n:Nat}{K:Hl}{L:List Asn}{R:Ending→Hl→List Asn→Prop}
  (hf:P.funcs[f]?=some fn) (hb:fn.body=some c) (hn:fn.ntmps=n) (hl:Nat.ble args.length n=true) (hname:(fn.name== "runtime.NumGoroutine")=false)
  (h:∀(F:Hl) (w:World),T ⟨P,n,[],w,F⟩ c (Fr.init 0 args n) K L (wO P fn w F K R)):Sp P f args K L R:=by
 refine⟨⟨fn,hf,hname,by simp[hb]⟩,fun F w i=>calls_of_wp hf hb (h F w _ _ ⟨Y,?_,?_⟩ i)⟩
 ·have:args.length≤n:=xBB hl;simp[hn];omega
 intro k v e;obtain⟨_,h2⟩:=xJ e;have hk:k < args.length:=by
  rcases xAC k args.length with h|h
  ·exact h
  simp[List.getElem?_eq_none h]at h2
 show (args.toArray++Array.replicate _ _)[k]?=some v
 rw[Array.getElem?_append_left gGD]
 simpa using h2
section
variable{P:Program}{fn:Func}{n:Nat}{w0:World}{F K0 K:Hl}{fr:Fr}{L:List Asn}{R:Ending→Hl→List Asn→Prop}
def dK(hr:fn.results= #[])(le:K0.le K)(h:R (.returned (.tuple #[])) K L):D ⟨P,n,[],w0,F⟩ .normal fr K L (wO P fn w0 F K0 R):=
 fun a w f i=>⟨f.defers,_,results_none hr _ _ _,K,L,h,le,i⟩
def jZ(hr:fn.results= #[])(le:K0.le K)(h:R (.returned (.tuple #[])) K L):D ⟨P,n,[],w0,F⟩ .ret fr K L (wO P fn w0 F K0 R):=
 fun a w f i=>⟨f.defers,_,results_none hr _ _ _,K,L,h,le,i⟩
def bI{t:Nat}{v:Value}(hr:fn.results= #[.tmp t])(ht:fr.get t=some v)(le:K0.le K)(h:R (.returned v) K L):D ⟨P,n,[],w0,F⟩ .ret fr K L (wO P fn w0 F K0 R):=
 fun a w f i=>⟨f.defers,v,by rw[results_tmp hr];simp[f.get _ _ ht],K,L,h,le,i⟩
def j1{t u:Nat}{v x:Value}(hr:fn.results= #[.tmp t,.tmp u])(ht:fr.get t=some v)(hu:fr.get u=some x)(le:K0.le K)(h:R (.returned (.tuple #[v,x])) K L):
  D ⟨P,n,[],w0,F⟩ .ret fr K L (wO P fn w0 F K0 R):=
 fun a w f i=>⟨f.defers,_,by rw[results_tmp2 hr];simp[f.get _ _ ht,f.get _ _ hu],K,L,h,le,i⟩
def cK{ch:List PanicEntry}(le:K0.le K)(h:R (.panicked ch) K L):D ⟨P,n,[],w0,F⟩ (.panic ch) fr K L (wO P fn w0 F K0 R):=
 fun a w f i=>⟨f.defers,K,L,h,le,i⟩
end
end
abbrev str(l:List UInt8):Value:=.string ⟨l.toArray⟩
abbrev i64(n:Int):Value:=.int .i64 n
abbrev ptr(b:Nat)(o:Nat:=0):Value:=.pointer (some ⟨b,o,none⟩)
abbrev bL(l:List Value)(t:TypeId)(f:Nat×Nat:=(0,0)):Obj:=.cells l.toArray t f
def fP(P:Program)(t:TypeId):Bool:=
 match P.underlying t,P.info? t with
 |some (.struct _),_=>false
 |some (.array _ _),_=>false
 |some _,some i=>i.size==1
 |_,_=>false
def aggB(P:Program)(t n:Nat):Bool:=
 match P.underlying t,P.info? t with
 |some (.struct _),some i=>i.size==n
 |some (.array _ _),some i=>i.size==n
 |_,_=>false
def dB(P:Program)(s i off:Nat):Bool:=
 match P.underlying s with
 |some (.struct fs)=>match fs[i]? with
  |some f=>f.offset==off&&(match P.info? f.type with|some ti=>ti.size !=0|none=>false)
  |none=>false
 |_=>false
def i8(P:Program)(t e sz:Nat):Bool:=
 match P.underlying t,P.info? e with
 |some (.slice e'),some i=>e'==e&&i.size==sz
 |_,_=>false
def rB{P:Program}{t:TypeId}(h:fP P t=true)(w:World):(isAgg t).run P w=.ok false w∧(sizeOf t).run P w=.ok 1 w:=by
 unfold fP at h;unfold isAgg sizeOf typeInfo underlying program;cases hu:P.underlying t with
 |none=>simp[hu]at h
 |some d=>cases hi:P.info? t with
  |none=>cases d <;> simp[hu,hi]at h
  |some i=>cases d <;> simp[hu,hi]at h <;> simp[Sem.run,hu,hi,bind,Sem.bind,pure,h]
def aBD{P:Program}{t n:Nat}(h:aggB P t n=true)(w:World):(isAgg t).run P w=.ok true w∧(sizeOf t).run P w=.ok n w:=by
 unfold aggB at h;unfold isAgg sizeOf typeInfo underlying program;cases hu:P.underlying t with
 |none=>simp[hu]at h
 |some d=>cases hi:P.info? t with
  |none=>cases d <;> simp[hu,hi]at h
  |some i=>cases d <;> simp[hu,hi]at h <;> simp[Sem.run,hu,hi,bind,Sem.bind,pure,h]
def run_bind{α β:Type}{P:Program}(m:Sem α)(f:α→Sem β)(w:World):(m>>=f).run P w=match m.run P w with| .ok a w'=>(f a).run P w'| .halt h w'=>.halt h w':=by
 show (Sem.bind m f).run P w=_
 induction m generalizing w with
 |pure a=>rfl
 |load md a k ih=>
  simp only[Sem.bind,Sem.run];cases w.cell? a with
  |some v=>exact ih v w
  |none=>cases w.farLoad P a (md==.atomic)with
   |ok r=>exact ih r.1 w
   |error e=>rfl
 |store md a v k ih=>
  cases v <;> simp only[Sem.bind,Sem.run] <;> (first|rfl|skip) <;>
   (cases w.cell? a with
    |some u=>(by_cases hf:w.frozen? a=true <;> simp only[hf,if_true,if_false,Bool.false_eq_true] <;> first|rfl|exact ih _)
    |none=>(simp only[];split <;> first|exact ih _|rfl))
 |new o k ih=>exact ih _ _
 |shape r k ih=>exact ih _ _
 |freeze a n k ih=>exact ih _
 |frozen a k ih=>exact ih _ _
 |getObj r k ih=>
  simp only[Sem.bind,Sem.run];cases w.heap[r]? with
  |none=>rfl
  |some o=>cases o <;> first|rfl|exact ih _ _
 |setObj r o k ih=>
  simp only[Sem.bind,Sem.run];cases w.heap[r]? with
  |none=>rfl
  |some o=>cases o <;> first|rfl|exact ih _
 |choose q k ih=>
  simp only[Sem.bind,Sem.run];split <;> exact ih _ _
 |sys c k ih=>exact ih _ _
 |program k ih=>exact ih _ _
 |mark m k ih=>exact ih _
 |halt h=>rfl
def bJ{α β:Type}{P:Program}{m:Sem α}{f:α→Sem β}{w w':World}{x:α}(h:m.run P w=.ok x w'):(m>>=f).run P w=(f x).run P w':=by
 rw[run_bind,h]
def uY{α:Type}{P:Program}(x:α)(w:World):(pure x:Sem α).run P w=.ok x w:=rfl
section
variable{E:Env}{fr:Fr}{K:Hl}{L:List Asn}{Q:Post}{dst:Option Tmp}{ty:TypeId}{pos:String}{aft:Array Edge}{g:Option (Nat×Bool)}
def fO{P:Program}{m:Sem Value}{v:Value}{w w':World}(h:m.run P w=.ok v w'):(do pure (Next.value (←m)):Sem Next).run P w=.ok (.value v) w':=by
 rw[bJ h];rfl
def aB{x:Operand}{v:Value}(h:fr.ev x=some v):Ev E fr K L ⟨dst,.move x,ty,pos,aft,g⟩ v:=fun a w f _=>by simp only[execOp,f.ev h];rfl
def aE{x:Operand}{v:Value}(h:fr.ev x=some v):Ev E fr K L ⟨dst,.assign x,ty,pos,aft,g⟩ v:=fun a w f _=>by simp only[execOp,f.ev h];rfl
def bH{c x y:Operand}{v:Value}(hc:fr.ev c=some (.bool true))(h:fr.ev x=some v):Ev E fr K L ⟨dst,.pick c x y,ty,pos,aft,g⟩ v:=fun a w f _=>by
 simp only[execOp,f.ev h,f.ev hc];rfl
def bC{c x y:Operand}{v:Value}(hc:fr.ev c=some (.bool false))(h:fr.ev y=some v):Ev E fr K L ⟨dst,.pick c x y,ty,pos,aft,g⟩ v:=fun a w f _=>by
 simp only[execOp,f.ev h,f.ev hc];rfl
def jN{op:BinOp}{x y:Operand}{t t':TypeId}{u v r:Value}(hx:fr.ev x=some u)(hy:fr.ev y=some v)
  (hg:∀w,(eqGuard op t x y u v).run E.P w=.ok () w) (hr:∀w,(binOp op t u v).run E.P w=.ok r w):Ev E fr K L ⟨dst,.binOp op t x y t',ty,pos,aft,g⟩ r:=by
 intro a w f _;simp only[execOp,f.ev hx,f.ev hy];refine fO ?_;rw[bJ (hg w)];exact hr w
def lP{op:BinOp}{t:TypeId}{x y:Operand}{k k':IntKind}{m n:Int}{P:Program}(w:World):(eqGuard op t x y (.int k m) (.int k' n)).run P w=.ok () w:=by
 unfold eqGuard;cases op <;> rfl
def aDI{op:BinOp}{t:TypeId}{x y:Operand}{m n:ByteArray}{P:Program}(w:World):(eqGuard op t x y (.string m) (.string n)).run P w=.ok () w:=by
 unfold eqGuard;cases op <;> rfl
def vH{n:Int}(h1: -9223372036854775808≤n)(h2:n≤9223372036854775807):IntKind.i64.wrap n=n:=by
 unfold IntKind.wrap IntKind.bits IntKind.signed;simp only[Bool.true_and];split <;> simp_all <;> omega
variable{x y:Operand}{t t':TypeId}{m n:Int}{k:IntKind}
def aVQ(hx:fr.ev x=some (.int k m))(hy:fr.ev y=some (.int k n)):Ev E fr K L ⟨dst,.binOp .add t x y t',ty,pos,aft,g⟩ (.int k (k.wrap (m+n))):=
 jN hx hy lP fun w=>by simp[binOp,Op.intArith,pure]
def aVS(hx:fr.ev x=some (.int k m))(hy:fr.ev y=some (.int k n)):Ev E fr K L ⟨dst,.binOp .sub t x y t',ty,pos,aft,g⟩ (.int k (k.wrap (m - n))):=
 jN hx hy lP fun w=>by simp[binOp,Op.intArith,pure]
def bIC(hx:fr.ev x=some (.int k m))(hy:fr.ev y=some (.int k n)):Ev E fr K L ⟨dst,.binOp .mul t x y t',ty,pos,aft,g⟩ (.int k (k.wrap (m*n))):=
 jN hx hy lP fun w=>by simp[binOp,Op.intArith,pure]
def bT(hx:fr.ev x=some (i64 m))(hy:fr.ev y=some (i64 n))(h1: -9223372036854775808≤m+n)(h2:m+n≤9223372036854775807):
  Ev E fr K L ⟨dst,.binOp .add t x y t',ty,pos,aft,g⟩ (i64 (m+n)):=by have:=aVQ (E:=E) (K:=K) (L:=L) (dst:=dst) (ty:=ty) (pos:=pos) (aft:=aft) (g:=g) (t:=t) (t':=t') hx hy;rwa [vH h1 h2]at this
def hU(hx:fr.ev x=some (i64 m))(hy:fr.ev y=some (i64 n))(h1: -9223372036854775808≤m - n)(h2:m - n≤9223372036854775807):
  Ev E fr K L ⟨dst,.binOp .sub t x y t',ty,pos,aft,g⟩ (i64 (m - n)):=by have:=aVS (E:=E) (K:=K) (L:=L) (dst:=dst) (ty:=ty) (pos:=pos) (aft:=aft) (g:=g) (t:=t) (t':=t') hx hy;rwa [vH h1 h2]at this
def oM(hx:fr.ev x=some (i64 m))(hy:fr.ev y=some (i64 n))(h1: -9223372036854775808≤m*n)(h2:m*n≤9223372036854775807):
  Ev E fr K L ⟨dst,.binOp .mul t x y t',ty,pos,aft,g⟩ (i64 (m*n)):=by have:=bIC (E:=E) (K:=K) (L:=L) (dst:=dst) (ty:=ty) (pos:=pos) (aft:=aft) (g:=g) (t:=t) (t':=t') hx hy;rwa [vH h1 h2]at this
def cU(hx:fr.ev x=some (.int k m))(hy:fr.ev y=some (.int k n)):Ev E fr K L ⟨dst,.binOp .lss t x y t',ty,pos,aft,g⟩ (.bool (decide (m < n))):=
 jN hx hy lP fun w=>by simp[binOp,Op.intCmp,pure]
def gM(hx:fr.ev x=some (.int k m))(hy:fr.ev y=some (.int k n)):Ev E fr K L ⟨dst,.binOp .leq t x y t',ty,pos,aft,g⟩ (.bool (decide (m≤n))):=
 jN hx hy lP fun w=>by simp[binOp,Op.intCmp,pure]
def fI(hx:fr.ev x=some (.int k m))(hy:fr.ev y=some (.int k n)):Ev E fr K L ⟨dst,.binOp .gtr t x y t',ty,pos,aft,g⟩ (.bool (decide (n < m))):=
 jN hx hy lP fun w=>by simp[binOp,Op.intCmp,pure]
def gJ(hx:fr.ev x=some (.int k m))(hy:fr.ev y=some (.int k n)):Ev E fr K L ⟨dst,.binOp .geq t x y t',ty,pos,aft,g⟩ (.bool (decide (n≤m))):=
 jN hx hy lP fun w=>by simp[binOp,Op.intCmp,pure]
def bHV(m n:Int):(m==n)=decide (m=n):=by by_cases h:m=n <;> simp[h]
def bQ(hx:fr.ev x=some (.int k m))(hy:fr.ev y=some (.int k n)):Ev E fr K L ⟨dst,.binOp .eql t x y t',ty,pos,aft,g⟩ (.bool (decide (m=n))):=
 jN hx hy lP fun w=>by simp[binOp,Op.intCmp,←bHV,pure]
def eK(hx:fr.ev x=some (.int k m))(hy:fr.ev y=some (.int k n)):Ev E fr K L ⟨dst,.binOp .neq t x y t',ty,pos,aft,g⟩ (.bool (decide (¬m=n))):=
 jN hx hy lP fun w=>by
  have:(m !=n)=decide (¬m=n):=by by_cases h:m=n <;> simp[h]
  simp[binOp,Op.intCmp,←this,pure]
def d8{b:Bool}(hx:fr.ev x=some (.bool b)):Ev E fr K L ⟨dst,.unOp .not t x,ty,pos,aft,g⟩ (.bool (!b)):=fun a w f _=>by
 simp only[execOp,f.ev hx];rfl
def dV{p:Prop}[Decidable p](hx:fr.ev x=some (.bool (decide p))):Ev E fr K L ⟨dst,.unOp .not t x,ty,pos,aft,g⟩ (.bool (decide (¬p))):=fun a w f _=>by
 simp only[execOp,f.ev hx,decide_not];rfl
def q5{s d:TypeId}{k':IntKind}{ds:TypeDesc}(hd:E.P.underlying d=some (.int k'))(hs:E.P.underlying s=some ds)(hx:fr.ev x=some (.int k m)):
  Ev E fr K L ⟨dst,.convert s d x,ty,pos,aft,g⟩ (.int k' (k'.wrap m)):=fun a w f _=>by
 simp only[execOp,f.ev hx];refine fO ?_;unfold convert;simp only[underlying,program,bind,Sem.bind,pure,Sem.run,hd,hs,Conv.intToInt]
variable{l l':List UInt8}
def aBG(l:List UInt8):(⟨l.toArray⟩:ByteArray).toList=l:=by rw[ByteArray.toList_eq]
def pX(l:List UInt8):(⟨l.toArray⟩:ByteArray).size=l.length:=by simp[ByteArray.size]
def aLU(l m:List UInt8):(⟨l.toArray⟩:ByteArray)++⟨m.toArray⟩=⟨(l++m).toArray⟩:=by
 apply Go.WideShapes.bytes_inj;simp
def eJ(hx:fr.ev x=some (str l))(hy:fr.ev y=some (str l'))(h:l.length+l'.length≤9223372036854775807):
  Ev E fr K L ⟨dst,.binOp .add t x y t',ty,pos,aft,g⟩ (str (l++l')):=
 jN hx hy aDI fun w=>by
  simp only[binOp,Op.stringOp,pX,aLU];rw[x5 (by simp[IntKind.max,IntKind.bits,IntKind.signed];omega)];rfl
def d7(hx:fr.ev x=some (str l))(hy:fr.ev y=some (str l')):Ev E fr K L ⟨dst,.binOp .eql t x y t',ty,pos,aft,g⟩ (.bool (decide (l=l'))):=
 jN hx hy aDI fun w=>by
  have:(l==l')=decide (l=l'):=by by_cases h:l=l' <;> simp[h]
  simp only[binOp,Op.stringOp,aBG,this];rfl
def uM(hx:fr.ev x=some (str l))(hy:fr.ev y=some (str l')):Ev E fr K L ⟨dst,.binOp .neq t x y t',ty,pos,aft,g⟩ (.bool (decide (¬l=l'))):=
 jN hx hy aDI fun w=>by
  have:(!(l==l'))=decide (¬l=l'):=by by_cases h:l=l' <;> simp[h]
  simp only[binOp,Op.stringOp,aBG,this];rfl
def bZ{ats:Array TypeId}(ha:ats[0]?=some t)(hu:E.P.underlying t=some .string)(hx:fr.ev x=some (str l)):
  Ev E fr K L ⟨dst,.call ⟨.builtin .len,#[x],ats⟩,ty,pos,aft,g⟩ (i64 l.length):=fun a w f _=>by
 have e:Array.map a.eval #[x]= #[str l]:=by simp[f.ev hx]
 simp only[execOp,resolve,e,bind,pure,Sem.bind,invoke,builtin];simp[Builtin.len_,ha,underlying,program,bind,Sem.bind,pure,Sem.run,hu,goInt,pX]
def cP{c:UInt8}{j:Nat}{jv:Int}(hu:E.P.underlying t=some .string)(hx:fr.ev x=some (str l))(hy:fr.ev y=some (.int k jv))(hjv:jv=(j:Int))(hc:l[j]?=some c):
  Ev E fr K L ⟨dst,.index t x y,ty,pos,aft,g⟩ (.int .u8 c.toNat):=fun a w f _=>by
 subst hjv;simp only[execOp,f.ev hx,f.ev hy];refine fO ?_;have hj:j < l.length:=by
  rcases xAC j l.length with h|h
  ·exact h
  simp[List.getElem?_eq_none h]at hc
 have hc':l[j]=c:=by simpa[List.getElem?_eq_getElem hj]using hc
 have e:(⟨l.toArray⟩:ByteArray)[j]?=some c:=by
  rw[getElem?_pos (⟨l.toArray⟩:ByteArray) j (by simpa[ByteArray.size]using hj)];simp[ByteArray.getElem_eq_getElem_data,hc']
 unfold Instr.index;simp[asIntOf,underlying,program,bind,Sem.bind,pure,Sem.run,hu,e]
def qN(l:List UInt8)(i j:Nat):(⟨l.toArray⟩:ByteArray).extract i j=⟨((l.take j).drop i).toArray⟩:=by
 apply Go.WideShapes.bytes_inj
 simp[ByteArray.data_extract,List.drop_take]
end
section
variable{E:Env}{fr:Fr}{K:Hl}{L L':List Asn}{Q:Post}{dst:Option Tmp}{ty:TypeId}{pos:String}{aft:Array Edge}{g:Option (Nat×Bool)}{x y:Operand}{t s e sz i off b:Nat}
def fW{l:List UInt8}{lo hi:Operand}{k k':IntKind}{m n:Nat}{mv nv:Int}(hu:E.P.underlying t=some .string)(hx:fr.ev x=some (str l))(hl:fr.ev lo=some (.int k mv))(hh:fr.ev hi=some (.int k' nv))(hm:mv=(m:Int))(hn:nv=(n:Int))
  (h1:m≤n) (h2:n≤l.length):Ev E fr K L ⟨dst,.slice t x (some lo) (some hi) none,ty,pos,aft,g⟩ (str ((l.take n).drop m)):=fun a w f _=>by
 subst hm;subst hn
 simp only[execOp,f.ev hx,f.ev hl,f.ev hh,Option.map];refine fO ?_;unfold Instr.sliceAt;simp only[underlying,program,bind,Sem.bind,pure,Sem.run,hu,Instr.slice];simp[Instr.sliceBounds,Instr.sliceBound,asIntOf,bind,Sem.bind,pure,pX,h1,h2,qN]
def l6{l:List UInt8}{lo:Operand}{k:IntKind}{m:Nat}{mv:Int}(hu:E.P.underlying t=some .string)(hx:fr.ev x=some (str l))(hl:fr.ev lo=some (.int k mv))(hm:mv=(m:Int))
  (h1:m≤l.length):Ev E fr K L ⟨dst,.slice t x (some lo) none none,ty,pos,aft,g⟩ (str (l.drop m)):=fun a w f _=>by
 subst hm;simp only[execOp,f.ev hx,f.ev hl,Option.map];refine fO ?_;unfold Instr.sliceAt;simp only[underlying,program,bind,Sem.bind,pure,Sem.run,hu,Instr.slice];simp[Instr.sliceBounds,Instr.sliceBound,asIntOf,bind,Sem.bind,pure,pX,h1,qN]
def gL{l:List UInt8}{hi:Operand}{k:IntKind}{n:Nat}{nv:Int}(hu:E.P.underlying t=some .string)(hx:fr.ev x=some (str l))(hh:fr.ev hi=some (.int k nv))(hn:nv=(n:Int))
  (h2:n≤l.length):Ev E fr K L ⟨dst,.slice t x none (some hi) none,ty,pos,aft,g⟩ (str (l.take n)):=fun a w f _=>by
 subst hn;simp only[execOp,f.ev hx,f.ev hh,Option.map];refine fO ?_;unfold Instr.sliceAt;simp only[underlying,program,bind,Sem.bind,pure,Sem.run,hu,Instr.slice];simp[Instr.sliceBounds,Instr.sliceBound,asIntOf,bind,Sem.bind,pure,pX,h2,qN]
def aOQ{a:Addr}(hx:fr.ev x=some (.pointer (some a))):Ev E fr K L ⟨dst,.nilCheck x,ty,pos,aft,g⟩ (.pointer (some a)):=fun a w f _=>by
 simp only[execOp,f.ev hx];rfl
def aGS{u:TypeId}{v:Value}(hx:fr.ev x=some (.iface u v)):Ev E fr K L ⟨dst,.nilCheck x,ty,pos,aft,g⟩ (.iface u v):=fun a w f _=>by
 simp only[execOp,f.ev hx];rfl
def aGR{u:FuncId}{p q:Array Value}(hx:fr.ev x=some (.func (.func u) p q)):Ev E fr K L ⟨dst,.nilCheck x,ty,pos,aft,g⟩ (.func (.func u) p q):=fun a w f _=>by
 simp only[execOp,f.ev hx];rfl
def lI(b o n:Nat):(⟨b,o,none⟩:Addr).add n=⟨b,o+n,none⟩:=by
 unfold Addr.add;split <;> simp_all
def aD{o o':Nat}(ht:dB E.P s i off=true)(hx:fr.ev x=some (ptr b o))(ho':o+off=o'):Ev E fr K L ⟨dst,.fieldAddr s x i,ty,pos,aft,g⟩ (ptr b o'):=fun a w f _=>by
 subst ho';simp only[execOp,f.ev hx];refine fO ?_;unfold dB at ht;unfold Instr.fieldAt;cases hu:E.P.underlying s with
 |none=>simp[hu]at ht
 |some d=>
  cases d <;> simp[hu]at ht
  rename_i fs;cases hf:fs[i]? with
  |none=>simp[hf]at ht
  |some fl=>
   simp[hf]at ht;obtain⟨h1,h2⟩:=ht;cases hi:E.P.info? fl.type with
   |none=>simp[hi]at h2
   |some ti=>
    simp[hi]at h2;simp only[underlying,program,bind,Sem.bind,pure,Sem.run,hu,hf,Instr.sureAddr,fieldPlace,sizeOf,typeInfo,hi,h2,if_false,h1,lI]
def oH{w:World}{l:List Value}{u:TypeId}{f:Nat×Nat}{o:Nat}{v:Value}(h:w.heap[b]?=some (bL l u f))(hv:l[o]?=some v):w.cell? ⟨b,o,none⟩=some v:=by
 simp[World.cell?,h,hv]
def xL{P:Program}{w:World}{l:List Value}{u:TypeId}{f:Nat×Nat}{o:Nat}{v:Value}(h:w.heap[b]?=some (bL l u f))(hv:l[o]?=some v):(load ⟨b,o,none⟩).run P w=.ok v w:=by
 simp[load,Sem.run,oH h hv]
inductive Sees (K:Hl) (L:List Asn) (b:Nat) (o:Obj):Prop where
 |own:Hs (pt b o) L→Sees K L b o
 |known:K b=some o→Sees K L b o
def Sees.at{w0 w:World}{F:Hl}{o:Obj}(h:Sees K L b o)(j:In w0 F K L w):w.heap[b]?=some o:=by
 cases h with
 |own f=>obtain⟨_,g⟩:=f.fnd (pt b o);exact j.mem g
 |known h=>exact j.known h
def aK{o:Nat}{l:List Value}{u:TypeId}{fz:Nat×Nat}{v:Value}(ht:fP E.P t=true)(hx:fr.ev x=some (ptr b o))(hs:Sees K L b (bL l u fz))(hv:l[o]?=some v):
  Ev E fr K L ⟨dst,.load t x,ty,pos,aft,g⟩ v:=fun a w f j=>by
 simp only[execOp,f.ev hx];refine fO ?_;obtain⟨h1,h2⟩:=rB ht w
 show (loadVar t _).run E.P w=_
 unfold loadVar;rw[bJ h1];exact xL (hs.at j) hv
def l8{P:Program}{w:World}{l:List Value}{u:TypeId}{fz:Nat×Nat}(h:w.heap[b]?=some (bL l u fz)):
  ∀(n:Nat) (vs:List Value) (o k:Nat) (acc:List Value),(l.drop (o+k)).take n=vs→vs.length=n→(loadCellsFrom ⟨b,o,none⟩ k n acc.toArray).run P w=.ok (acc++vs).toArray w:=by
 intro n;induction n with
 |zero=>intro vs o k acc h1 h2;have:vs=[]:=xA9.1 h2;subst this;simp[loadCellsFrom,pure,Sem.run]
 |succ n ih=>
  intro vs o k acc h1 h2;cases vs with
  |nil=>simp at h2
  |cons v vs=>
   have hv:l[o+k]?=some v:=by
    have:=xAE (·[0]?) h1
    simpa[List.getElem?_take,List.getElem?_drop]using this
   unfold loadCellsFrom;rw[lI,bJ (xL h hv)];have e:acc.toArray.push v=(acc++[v]).toArray:=by simp
   rw[e,ih vs o (k+1) (acc++[v]) ?_ (by simpa using h2)]
   ·simp
   have:=xAE List.tail h1;simp only[List.tail_cons]at this;rw[←this];have h3:(l.drop (o+k))=v::l.drop (o+(k+1)):=by
    have hlt:o+k < l.length:=by
     rcases xAC (o+k) l.length with h|h
     ·exact h
     simp[List.getElem?_eq_none h]at hv
    rw[xAR hlt];have:l[o+k]=v:=by simpa[List.getElem?_eq_getElem hlt]using hv
    rw[this];rfl
   rw[h3];simp
def cO{o n:Nat}{l vs:List Value}{u:TypeId}{fz:Nat×Nat}(ht:aggB E.P t n=true)(hx:fr.ev x=some (ptr b o))(hs:Sees K L b (bL l u fz))(hv:(l.drop o).take n=vs)(hn:vs.length=n):
  Ev E fr K L ⟨dst,.load t x,ty,pos,aft,g⟩ (.agg vs.toArray):=fun a w f j=>by
 simp only[execOp,f.ev hx];refine fO ?_;obtain⟨h1,h2⟩:=aBD ht w
 show (loadVar t _).run E.P w=_
 unfold loadVar;rw[bJ h1];simp only[if_true];rw[bJ h2];have:=l8 (P:=E.P) (hs.at j) n vs o 0 [] hv hn;simp only[List.nil_append]at this;unfold loadCells;rw[bJ this];rfl
def newb(b:Nat)(o:Obj)(K:Hl)(L:List Asn):Value→Hl→List Asn→Prop:=fun v K' L'=>v=ptr b∧K'=K∧L'=pt b o::L
def eZ{v:Value}{l:List Value}(hx:fr.ev x=some v)(hl:v.cells=l.toArray):EfS E fr K L ⟨dst,.box e x,ty,pos,aft,g⟩ (fun u K' L'=>∃b,newb b (bL l e) K L u K' L'):=by
 intro a w f j;have:(execOp a.eval ⟨dst,.box e x,ty,pos,aft,g⟩).run E.P w=.ok (.value (ptr w.heap.size)) {w with heap:=w.heap.push (bL l e)}:=by
  simp only[execOp,f.ev hx,Instr.box,newVar,newRow,hl];rfl
 exact⟨_,_,_,_,.inl this,⟨_,Y,Y,Y⟩,Hl.le_refl _,j.alloc _⟩
def dI(P:Program)(e:TypeId):Option (List Value):=(P.info? e).bind fun i=>i.zero.map fun z=>z.cells.toList
def aEH{P:Program}{e:TypeId}{l:List Value}(h:dI P e=some l):∃inf v,P.info? e=some inf∧inf.zero=some v∧v.cells=l.toArray:=by
 unfold dI at h;cases hi:P.info? e with
 |none=>simp[hi]at h
 |some inf=>
  cases hz:inf.zero with
  |none=>simp[hi,hz]at h
  |some v=>simp[hi,hz]at h;exact⟨inf,v,Y,hz,by rw[←h]⟩
def dR{l:List Value}(hz:dI E.P e=some l):EfS E fr K L ⟨dst,.alloc e,ty,pos,aft,g⟩ (fun u K' L'=>∃b,newb b (bL l e) K L u K' L'):=by
 intro a w f j;obtain⟨inf,v,hi,hz,hl⟩:=aEH hz;have:(execOp a.eval ⟨dst,.alloc e,ty,pos,aft,g⟩).run E.P w=.ok (.value (ptr w.heap.size)) {w with heap:=w.heap.push (bL l e)}:=by
  simp only[execOp,Instr.alloc,zeroValue,typeInfo,program,bind,Sem.bind,pure,Sem.run,hi,hz,newVar,newRow,hl];rfl
 exact⟨_,_,_,_,.inl this,⟨_,Y,Y,Y⟩,Hl.le_refl _,j.alloc _⟩
inductive SetAt:List Value→Nat→Value→List Value→Prop where
 |zero {a:Value} {l:List Value} {v:Value}:SetAt (a::l) 0 v (v::l)
 |succ {a:Value} {l:List Value} {n:Nat} {v:Value} {l':List Value}:SetAt l n v l'→SetAt (a::l) (n+1) v (a::l')
def SetAt.eq{l:List Value}{n:Nat}{v:Value}{l':List Value}(h:SetAt l n v l'):l.set n v=l'∧n < l.length:=by
 induction h with
 |zero=>exact⟨Y,by simp⟩
 |succ _ ih=>exact⟨by simp[ih.1],by simp;exact ih.2⟩
def sA{w:World}{l:List Value}{u:TypeId}{fz:Nat×Nat}{o:Nat}(v:Value)(h:w.heap[b]?=some (bL l u fz)):
  (w.setCell ⟨b,o,none⟩ v).heap.size=w.heap.size∧(w.setCell ⟨b,o,none⟩ v).heap[b]?=some (bL (l.set o v) u fz)∧∀z,z≠b→(w.setCell ⟨b,o,none⟩ v).heap[z]?=w.heap[z]?:=by
 refine⟨by simp[World.setCell],?_,fun z hz=>?_⟩
 ·simp[World.setCell,Array.getElem?_modify,h]
 simp[World.setCell,Array.getElem?_modify,Ne.symm hz]
def aD3{P:Program}{w:World}{l:List Value}{u:TypeId}{fz:Nat×Nat}{o:Nat}{v:Value}(h:w.heap[b]?=some (bL l u fz))(ho:o < l.length)
  (hf:(fz.1≤o&&o < fz.2)=false) (h1:v.oneCell'=true):(store ⟨b,o,none⟩ v).run P w=.ok () (w.setCell ⟨b,o,none⟩ v):=by
 have hc:w.cell? ⟨b,o,none⟩=some l[o]:=oH h (by simp[ho]);have hz:w.frozen? ⟨b,o,none⟩=false:=by
  obtain⟨lo,hi⟩:=fz;simp only[World.frozen?,h];exact hf
 cases v <;> simp[Value.oneCell']at h1 <;> simp[store,Sem.run,hc,hz,pure]
def bX{o:Nat}{l:List Value}{u:TypeId}{fz:Nat×Nat}{v:Value}(ht:fP E.P t=true)(hx:fr.ev x=some (ptr b o))(hy:fr.ev y=some v)(h1:v.oneCell'=true)
  {l':List Value} (hs:Fnd (pt b (bL l u fz)) (pt b (bL l' u fz)) L L') (hset:SetAt l o v l') (hf:(fz.1≤o&&o < fz.2)=false):
  EfS E fr K L ⟨dst,.store t x y,ty,pos,aft,g⟩ (fun _ K' L''=>K'=K∧L''=L'):=by
 intro a w f j;have hb:=j.mem hs;obtain⟨rfl,ho'⟩:=hset.eq;have hc:v.cells= #[v]:=by cases v <;> simp[Value.oneCell']at h1 <;> rfl
 have hr:(execOp a.eval ⟨dst,.store t x y,ty,pos,aft,g⟩).run E.P w=.ok .skip (w.setCell ⟨b,o,none⟩ v):=by
  simp only[execOp,f.ev hx,f.ev hy];have:(Instr.storeAt t (ptr b o) v).run E.P w=.ok () (w.setCell ⟨b,o,none⟩ v):=by
   show (storeVar t _ v).run E.P w=_
   unfold storeVar;rw[bJ (rB ht w).2];simp only[hc];rw[x5 (by simp)];simp only[storeCells,lI,Nat.add_zero]
   show (store _ _>>=fun _=>pure ()).run E.P w=_
   rw[bJ (aD3 hb ho' hf h1)];rfl
  rw[bJ this];rfl
 obtain⟨s1,s2,s3⟩:=sA (o:=o) v hb;exact⟨_,_,_,_,.inr ⟨hr,Y⟩,⟨Y,Y⟩,Hl.le_refl _,j.writeAt hs s1 s2 s3⟩
end
structure El (α:Type) where
 e:TypeId
 sz:Nat
 enc:α→List Value
 len:∀x,(enc x).length=sz
 one:∀x,∀u∈enc x,u.oneCell'=true
def El.cs{α:Type}(k:El α)(xs:List α):List Value:=xs.flatMap k.enc
def El.cs_one{α:Type}(k:El α)(xs:List α):∀u∈k.cs xs,u.oneCell'=true:=by
 intro u hu;obtain⟨x,_,hx⟩:=List.mem_flatMap.1 hu;exact k.one x u hx
def El.cs_length{α:Type}(k:El α)(xs:List α):(k.cs xs).length=xs.length*k.sz:=by
 induction xs with
 |nil=>simp[El.cs]
 |cons x xs ih=>simp only[El.cs,List.flatMap_cons,List.length_append,k.len]at*;rw[ih,xBI,Nat.succ_mul];omega
def El.cs_append{α:Type}(k:El α)(xs ys:List α):k.cs (xs++ys)=k.cs xs++k.cs ys:=by simp[El.cs]
def El.cs_drop{α:Type}(k:El α)(xs:List α)(i:Nat):(k.cs xs).drop (i*k.sz)=k.cs (xs.drop i):=by
 induction i generalizing xs with
 |zero=>simp
 |succ i ih=>
  cases xs with
  |nil=>simp[El.cs]
  |cons x xs=>
   have:(i+1)*k.sz=k.sz+i*k.sz:=by rw[Nat.succ_mul];omega
   rw[this,←List.drop_drop];have h2:(k.cs (x::xs)).drop k.sz=k.cs xs:=by
    simp only[El.cs,List.flatMap_cons];rw[List.drop_append_of_le_length gFX,xAU gFX];rfl
   rw[h2,ih];rfl
def El.cs_take{α:Type}(k:El α)(xs:List α)(i:Nat):(k.cs xs).take (i*k.sz)=k.cs (xs.take i):=by
 induction i generalizing xs with
 |zero=>simp[El.cs]
 |succ i ih=>
  cases xs with
  |nil=>simp[El.cs]
  |cons x xs=>
   have:(i+1)*k.sz=k.sz+i*k.sz:=by rw[Nat.succ_mul];omega
   rw[this];simp only[El.cs,List.flatMap_cons,List.take_succ_cons];rw[List.take_append,k.len,Nat.add_sub_cancel_left,xAI (by rw[k.len];omega)];have:=ih xs;simp only[El.cs]at this;rw[this]
def El.cs_at{α:Type}(k:El α){xs:List α}{i:Nat}{x:α}(h:xs[i]?=some x){r:List Value}:((k.cs xs++r).drop (i*k.sz)).take k.sz=k.enc x:=by
 have hi:i < xs.length:=by
  rcases xAC i xs.length with h'|h'
  ·exact h'
  simp[List.getElem?_eq_none h']at h
 have hx:xs[i]=x:=by simpa[List.getElem?_eq_getElem hi]using h
 rw[List.drop_append_of_le_length (by rw[k.cs_length];exact xAW _ (Nat.le_of_lt hi)),k.cs_drop,xAR hi,hx];simp only[El.cs,List.flatMap_cons];rw[xA0,List.take_append_of_le_length gFX,xAI gFX]
def FzOk(n:Nat)(fz:Nat×Nat):Prop:=fz.2≤fz.1∨n≤fz.1
def FzOk.at{n o:Nat}{fz:Nat×Nat}(h:FzOk n fz)(ho:o < n):(fz.1≤o&&o < fz.2)=false:=by
 unfold FzOk at h;simp only[Bool.and_eq_false_iff,decide_eq_false_iff_not];omega
def sl{α:Type}(z:Bool)(k:El α)(v:Value)(xs:List α):Asn:=fun h=>
 (v=.slice none 0 0∧xs=[]∧h=.emp)∨
 (∃b cap junk fz,v=.slice (some ⟨b,0,none⟩) xs.length cap∧(z=true→xs≠[])∧xs.length≤cap∧junk.length=(cap - xs.length)*k.sz∧FzOk (cap*k.sz) fz∧h=Hl.one b (bL (k.cs xs++junk) k.e fz))
def Ksl{α:Type}(k:El α)(K:Hl)(v:Value)(xs:List α):Prop:=
 (∃a c,v=.slice a 0 c∧xs=[])∨
 (∃b off cap cells fz,v=.slice (some ⟨b,off,none⟩) xs.length cap∧(∃u,K b=some (bL cells u fz))∧(cells.drop off).take (xs.length*k.sz)=k.cs xs)
def Ksl.mono{α:Type}{k:El α}{K K':Hl}{v:Value}{xs:List α}(h:Ksl k K v xs)(le:K.le K'):Ksl k K' v xs:=by
 rcases h with h|⟨b,off,cap,cells,fz,h1,h2,h3⟩
 ·exact .inl h
 obtain⟨u,h2⟩:=h2;exact .inr ⟨b,off,cap,cells,fz,h1,⟨u,le _ _ h2⟩,h3⟩
def SlAt{α:Type}(k:El α)(w:World)(v:Value)(xs:List α):Prop:=
 (∃a c,v=.slice a 0 c∧xs=[])∨
 (∃b off cap cells fz,v=.slice (some ⟨b,off,none⟩) xs.length cap∧(∃u,w.heap[b]?=some (bL cells u fz))∧(cells.drop off).take (xs.length*k.sz)=k.cs xs)
inductive SeesSl {α:Type} (k:El α) (K:Hl) (L:List Asn) (v:Value) (xs:List α):Prop where
 |own {z}:Hs (sl z k v xs) L→SeesSl k K L v xs
 |known:Ksl k K v xs→SeesSl k K L v xs
 |blk {b:Nat} {cells:List Value} {fz:Nat×Nat} {cap off:Nat}:Sees K L b (bL cells k.e fz)→v=.slice (some ⟨b,off,none⟩) xs.length cap→(cells.drop off).take (xs.length*k.sz)=k.cs xs→SeesSl k K L v xs
def In.slice{α:Type}{z:Bool}{k:El α}{w0 w:World}{F K:Hl}{v:Value}{xs:List α}{L:List Asn}(i:In w0 F K (sl z k v xs::L) w):SlAt k w v xs:=by
 obtain⟨h,⟨a,l,ha,hl,hal,rfl⟩,d1,d2,d3,l1,l2,l3⟩:=i.rep;rcases ha with ⟨rfl,rfl,rfl⟩|⟨b,cap,junk,fz,rfl,hz,hc,hj,hf,rfl⟩
 ·exact .inl ⟨none,0,Y,Y⟩
 refine .inr ⟨b,0,cap,k.cs xs++junk,fz,Y,⟨k.e,l3 b _ (by simp[Hl.join,Hl.one])⟩,?_⟩
 rw[xBG,←k.cs_length,List.take_left]
def SeesSl.at{α:Type}{k:El α}{w0 w:World}{F K:Hl}{v:Value}{xs:List α}{L:List Asn}(h:SeesSl k K L v xs)(i:In w0 F K L w):SlAt k w v xs:=by
 cases h with
 |own f=>obtain⟨_,h1⟩:=f.split;exact(i.imp h1).slice
 |known h=>
  rcases h with h|⟨b,off,cap,cells,fz,h1,h2,h3⟩
  ·exact .inl h
  obtain⟨u,h2⟩:=h2;exact .inr ⟨b,off,cap,cells,fz,h1,⟨u,i.known h2⟩,h3⟩
 |blk hs h2 h3=>exact .inr ⟨_,_,_,_,_,h2,⟨_,hs.at i⟩,h3⟩
def nG(v:Value)(n:Nat):Value:=
 match v with
 | .slice (some a) _ _=>.pointer (some (a.add n))
 |_=>undef
section
variable{E:Env}{fr:Fr}{K:Hl}{L L':List Asn}{Q:Post}{dst:Option Tmp}{ty:TypeId}{pos:String}{aft:Array Edge}{g:Option (Nat×Bool)}{x y:Operand}{t s e sz i off b:Nat}{α:Type}{k:El α}{v:Value}{xs:List α}
def bU{ats:Array TypeId}{u:TypeId}(ha:ats[0]?=some t)(hu:E.P.underlying t=some (.slice u))(hx:fr.ev x=some v)(hs:SeesSl k K L v xs):
  Ev E fr K L ⟨dst,.call ⟨.builtin .len,#[x],ats⟩,ty,pos,aft,g⟩ (i64 xs.length):=fun a w f j=>by
 have e:Array.map a.eval #[x]= #[v]:=by simp[f.ev hx]
 simp only[execOp,resolve,e,bind,pure,Sem.bind,invoke,builtin];rcases hs.at j with ⟨a0,c,rfl,rfl⟩|⟨b,off,cap,cells,fz,rfl,⟨u0,h2⟩,h3⟩ <;>
  simp[Builtin.len_,ha,underlying,program,bind,Sem.bind,pure,Sem.run,hu,goInt]
def nH{P:Program}{t e sz:Nat}(h:i8 P t e sz=true):∃inf,P.underlying t=some (.slice e)∧P.info? e=some inf∧inf.size=sz:=by
 unfold i8 at h;cases hu:P.underlying t with
 |none=>simp[hu]at h
 |some d=>
  cases hi:P.info? e with
  |none=>cases d <;> simp[hu,hi]at h
  |some i=>cases d <;> simp[hu,hi]at h;obtain⟨rfl,h2⟩:=h;exact⟨i,Y,Y,h2⟩
def aX{j:Nat}{jv:Int}{kk:IntKind}(ht:i8 E.P t k.e k.sz=true)(hx:fr.ev x=some v)(hs:SeesSl k K L v xs)(hy:fr.ev y=some (.int kk jv))(hjv:jv=(j:Int))(hj:j < xs.length):
  Ev E fr K L ⟨dst,.indexAddr t x y,ty,pos,aft,g⟩ (nG v (j*k.sz)):=fun a w f i=>by
 subst hjv;obtain⟨inf,h1,h2,h3⟩:=nH ht;simp only[execOp,f.ev hx,f.ev hy];refine fO ?_;rcases hs.at i with ⟨a0,c,rfl,rfl⟩|⟨b,off,cap,cells,fz,rfl,⟨u0,h4⟩,h5⟩
 ·simp at hj
 unfold Instr.indexAt;simp[asIntOf,underlying,program,bind,Sem.bind,pure,Sem.run,h1,hj,sizeOf,typeInfo,h2,h3,nG]
def cE{j o:Nat}{u:α}{c:Value}(ht:fP E.P t=true)(hx:fr.ev x=some (nG v (j*k.sz)))(hs:SeesSl k K L v xs)(hj:xs[j]?=some u)(hc:k.enc u=[c]):
  Ev E fr K L ⟨dst,.load t x,ty,pos,aft,g⟩ c:=fun a w f i=>by
 simp only[execOp,f.ev hx];refine fO ?_;have hjl:j < xs.length:=by
  rcases xAC j xs.length with h'|h'
  ·exact h'
  simp[List.getElem?_eq_none h']at hj
 rcases hs.at i with ⟨a0,c,rfl,rfl⟩|⟨b,off,cap,cells,fz,rfl,⟨u0,h4⟩,h5⟩
 ·simp at hj
 obtain⟨q1,q2⟩:=rB ht w;have hat:=k.cs_at hj (r:=[]);rw[xAL,←h5]at hat;have hsz:k.sz=1:=by have:=k.len u;simpa[hc]using this.symm
 show (loadVar t (Addr.add ⟨b,off,none⟩ (j*k.sz))).run E.P w=_
 rw[lI];unfold loadVar;rw[bJ q1];refine xL h4 ?_;have:=xAE (·[0]?) hat;simp only[hc,List.getElem?_take,List.getElem?_drop,hsz]at this ⊢;simp at this ⊢
 simpa[hjl]using this
def fA{j n:Nat}{u:α}(ht:aggB E.P t k.sz=true)(hx:fr.ev x=some (nG v (j*k.sz)))(hs:SeesSl k K L v xs)(hj:xs[j]?=some u):
  Ev E fr K L ⟨dst,.load t x,ty,pos,aft,g⟩ (.agg (k.enc u).toArray):=fun a w f i=>by
 simp only[execOp,f.ev hx];refine fO ?_;have hjl:j < xs.length:=by
  rcases xAC j xs.length with h'|h'
  ·exact h'
  simp[List.getElem?_eq_none h']at hj
 rcases hs.at i with ⟨a0,c,rfl,rfl⟩|⟨b,off,cap,cells,fz,rfl,⟨u0,h4⟩,h5⟩
 ·simp at hj
 obtain⟨h1,h2⟩:=aBD ht w;have hat:=k.cs_at hj (r:=[]);rw[xAL,←h5]at hat
 show (loadVar t (Addr.add ⟨b,off,none⟩ (j*k.sz))).run E.P w=_
 rw[lI];unfold loadVar;rw[bJ h1];simp only[if_true];rw[bJ h2];have hle:(j+1)*k.sz≤xs.length*k.sz:=xAW _ hjl;rw[Nat.succ_mul]at hle;have hcells:(cells.drop (off+j*k.sz+0)).take k.sz=k.enc u:=by
  rw[←hat,Nat.add_zero,←List.drop_drop,List.drop_take,List.take_take]
  congr 1
  omega
 have:=l8 (P:=E.P) h4 k.sz (k.enc u) (off+j*k.sz) 0 [] hcells (k.len u);simp only[List.nil_append]at this;unfold loadCells;rw[bJ this];rfl
end
def m7(ops:Array Oper)(a' a:Act):Prop:=a'.defers=a.defers∧a'.tmps.size=a.tmps.size∧∀k,(∀o∈ops.toList,o.dst≠some k)→a'.tmps[k]?=a.tmps[k]?
def m7.refl(ops:Array Oper)(a:Act):m7 ops a a:=⟨rfl,rfl,fun _ _=>rfl⟩
def m7.trans{ops:Array Oper}{a b c:Act}(h:m7 ops a b)(k:m7 ops b c):m7 ops a c:=⟨h.1.trans k.1,h.2.1.trans k.2.1,fun i hi=>(h.2.2 i hi).trans (k.2.2 i hi)⟩
def m7.symm{ops:Array Oper}{a b:Act}(h:m7 ops a b):m7 ops b a:=⟨h.1.symm,h.2.1.symm,fun i hi=>(h.2.2 i hi).symm⟩
def m7.put{ops:Array Oper}{i:Nat}{o:Oper}(h:ops[i]?=some o)(a:Act)(v:Value):m7 ops (a.put o.dst v) a:=by
 have hm:o∈ops.toList:=by simpa using Array.mem_of_getElem? h
 cases hd:o.dst with
 |none=>exact m7.refl _ _
 |some d=>
  refine⟨Y,by simp[Act.put],fun k hk=>?_⟩
  have hne:d≠k:=fun e=>hk o hm (by rw[hd,e])
  simp only[Act.put];rw[xBE hne]
def Eff(P:Program)(ops:Array Oper)(o:Oper)(a:Act)(w:World)(Q:Post)(next:Value→World→Prop):Prop:=
 (∃u w',(execOp a.eval o).run P w=.ok (.value u) w'∧next u w')∨(∃w',(execOp a.eval o).run P w=.ok .skip w'∧next undef w')∨
 (∃ f args w1, (execOp a.eval o).run P w = .ok (.enter f args) w1 ∧ Calls P f args w1 fun e w' => match e with
  | .returned u=>next u w'
  | .panicked ch=>∀a',m7 ops a' a→Q (.panic ch) a' w'
  | .outgrown=>LetsOut Q)∨
 (∃ l f tmps assign body w1, (execOp a.eval o).run P w = .ok (.round l f tmps assign body) w1 ∧ RoundIn Fence.wide 0 P l f tmps assign body w1 fun e w' => match e with
  | .returned u=>next u w'
  | .panicked ch=>∀a',m7 ops a' a→Q (.panic ch) a' w'
  | .outgrown=>LetsOut Q)
def Eff.mono{P:Program}{ops:Array Oper}{o:Oper}{a:Act}{w:World}{Q:Post}{n n':Value→World→Prop}(h:Eff P ops o a w Q n)(k:∀u w',n u w'→n' u w'):Eff P ops o a w Q n':=by
 rcases h with ⟨u,w',h,hn⟩|⟨w',h,hn⟩|⟨f,args,w1,h,hc⟩|⟨l,f,t,x,y,w1,h,hc⟩
 ·exact .inl ⟨u,w',h,k _ _ hn⟩
 ·exact .inr (.inl ⟨w',h,k _ _ hn⟩)
 ·exact .inr (.inr (.inl ⟨f,args,w1,h,hc.mono fun e w' q=>by cases e <;> first|exact k _ _ q|exact q⟩))
 exact .inr (.inr (.inr ⟨l,f,t,x,y,w1,h,hc.mono fun e w' q=>by cases e <;> first|exact k _ _ q|exact q⟩))
def Eff.congr{P:Program}{ops:Array Oper}{o:Oper}{a a':Act}{w:World}{Q:Post}{n:Value→World→Prop}(h:Eff P ops o a w Q n)(he:execOp a'.eval o=execOp a.eval o)(hd:m7 ops a' a):Eff P ops o a' w Q n:=by
 unfold Eff at*;rw[he];rcases h with h|h|⟨f,args,w1,h,hc⟩|⟨l,f,t,x,y,w1,h,hc⟩
 ·exact .inl h
 ·exact .inr (.inl h)
 ·refine .inr (.inr (.inl ⟨f,args,w1,h,hc.mono fun e w' q=>?_⟩))
  cases e <;> first|exact q|exact fun a'' ha=>q a'' (ha.trans hd)
 refine .inr (.inr (.inr ⟨l,f,t,x,y,w1,h,hc.mono fun e w' q=>?_⟩))
 cases e <;> first|exact q|exact fun a'' ha=>q a'' (ha.trans hd)
def bF4(ρ:Operand→Value)(o:Oper):o.semAt Fence.wide.round ρ=execOp ρ o:=rfl
def Eff.wp{P:Program}{ops:Array Oper}{o:Oper}{a:Act}{w:World}{Q:Post}{n:Value→World→Prop}{K:Act→World→Prop}(h:Eff P ops o a w Q n)(k:∀u w',n u w'→K (a.put o.dst u) w'):o.wpIn Fence.wide 0 P a w K Q:=by
 refine⟨fun _ _=>trivial,?_⟩
 rw[bF4];have hd:Fence.wide.depth.isSome=true→1≤0:=fun h=>by cases h
 rcases h with ⟨u,w',h,hn⟩|⟨w',h,hn⟩|⟨f,args,w1,h,hc⟩|⟨l,f,t,x,y,w1,h,hc⟩
 ·rw[h];exact k _ _ hn
 ·rw[h];exact k _ _ hn
 ·rw[h];refine⟨hd,callsIn_wide.2 (hc.mono fun e w' q=>?_)⟩
  cases e with
  |returned u=>exact k _ _ q
  |panicked ch=>exact q _ (m7.refl _ _)
  |outgrown=>exact q
 rw[h];refine⟨hd,hc.mono fun e w' q=>?_⟩
 cases e with
 |returned u=>exact k _ _ q
 |panicked ch=>exact q _ (m7.refl _ _)
 |outgrown=>exact q
def DX(E:Env)(ops:Array Oper)(eff stg:List Nat)(Q:Post):List Nat→List Asn→Hl→List Asn→Act→Prop
 | [],S,K,M,a=>∀w,In E.w0 E.F K (S++M) w→Q .normal a w
 |i::r,S,K,M,a=>
  match ops[i]? with
  |none=>False
  |some o=>
   if Region.wanted o (yielded ops a.tmps)then
    if stg.contains i then
     ∀w,In E.w0 E.F K (S++M) w→Eff E.P ops o a w Q fun u w'=>∃K' S' M',K.le K'∧In E.w0 E.F K' (S'++M') w'∧DX E ops eff stg Q r S' K' M' (a.put o.dst u)
    else if eff.contains i then
     ∀w,In E.w0 E.F K (S++M) w→Eff E.P ops o a w Q fun u w'=>∃K' M',K.le K'∧In E.w0 E.F K' (S++M') w'∧DX E ops eff stg Q r S K' M' (a.put o.dst u)
    else ∃v,(∀K' M' w,K.le K'→In E.w0 E.F K' (S++M') w→Eff E.P ops o a w Q fun u w'=>u=v∧In E.w0 E.F K' (S++M') w')∧DX E ops eff stg Q r S K M (a.put o.dst v)
   else DX E ops eff stg Q r S K M (a.put o.dst undef)
def aKB(o:Oper):Bool:=match o.op with| .select _ _=>false|_=>true
def aHO{o:Oper}(h:aKB o=true):∀cs b,o.op≠.select cs b:=by
 intro cs b e;simp[aKB,e]at h
def bH8{E:Env}{ops:Array Oper}{eff stg:List Nat}{S:List Asn}{Q:Post}{x i:Nat}{r:List Nat}{K:Hl}{M:List Asn}{a:Act}{ox oi:Oper}
  (hx:ops[x]?=some ox) (hi:ops[i]?=some oi) (hap:ox.apart ops oi=true) (hsx:aKB ox=true) (hsi:aKB oi=true) (hne:eff.contains x=false) (hnx:stg.contains x=false) (hni:stg.contains i=false)
  (h:DX E ops eff stg Q (x::i::r) S K M a):DX E ops eff stg Q (i::x::r) S K M a:=by
 obtain⟨h1,h2,h3⟩:=Oper.apart_spec hap;have sx:=aHO hsx;have si:=aHO hsi;have goX:∀(v u:Value),((a.put ox.dst v).put oi.dst u)=((a.put oi.dst u).put ox.dst v):=fun v u=>Act.put_comm a v u h2
 have wx:∀(u:Value),Region.wanted ox (yielded ops (a.put oi.dst u).tmps)=Region.wanted ox (yielded ops a.tmps):=fun u=>wanted_put ox a oi.dst u h3
 have wi:∀(u:Value),Region.wanted oi (yielded ops (a.put ox.dst u).tmps)=Region.wanted oi (yielded ops a.tmps):=fun u=>wanted_put oi a ox.dst u h1
 have ex:∀(u:Value),execOp (a.put oi.dst u).eval ox=execOp a.eval ox:=fun u=>execOp_put ox sx a oi.dst u h3
 have ei:∀(u:Value),execOp (a.put ox.dst u).eval oi=execOp a.eval oi:=fun u=>execOp_put oi si a ox.dst u h1
 simp only[DX,hx,hi,hne,hnx,hni,Bool.false_eq_true,if_false]at h ⊢
 by_cases cx:Region.wanted ox (yielded ops a.tmps)=true
 ·simp only[cx,if_true]at h;obtain⟨v,hv,h⟩:=h;rw[wi v]at h;have back:∀(u:Value) (K':Hl) (M':List Asn),K.le K'→DX E ops eff stg Q r S K' M' ((a.put ox.dst v).put oi.dst u)→
    (if Region.wanted ox (yielded ops (a.put oi.dst u).tmps) = true then
     ∃v,(∀K'' M'' w,K'.le K''→In E.w0 E.F K'' (S++M'') w→Eff E.P ops ox (a.put oi.dst u) w Q fun u w'=>u=v∧In E.w0 E.F K'' (S++M'') w')∧DX E ops eff stg Q r S K' M' ((a.put oi.dst u).put ox.dst v)
     else DX E ops eff stg Q r S K' M' ((a.put oi.dst u).put ox.dst undef)):=by
   intro u K' M' le hr;rw[wx u,x7 cx];refine⟨v,fun K'' M'' w le' j=>?_,?_⟩
   ·exact(hv K'' M'' w (Hl.le_trans le le') j).congr (ex u) (m7.put hi a u)
   rw[←goX];exact hr
  by_cases ci:Region.wanted oi (yielded ops a.tmps)=true
  ·simp only[ci,if_true]at h ⊢
   by_cases ce:eff.contains i=true
   ·simp only[ce,if_true]at h ⊢;intro w j;refine((h w j).congr (ei v).symm (m7.put hx a v).symm).mono fun u w' ⟨K',M',le,j',hr⟩=>⟨K',M',le,j',back u K' M' le hr⟩
   simp only[ce,Bool.false_eq_true,if_false]at h ⊢;obtain⟨u,hu,hr⟩:=h;refine⟨u,fun K' M' w le j=>?_,back u K M (Hl.le_refl _) hr⟩
   exact(hu K' M' w le j).congr (ei v).symm (m7.put hx a v).symm
  simp only[ci,if_false,Bool.false_eq_true]at h ⊢;exact back undef K M (Hl.le_refl _) h
 simp only[cx,if_false,Bool.false_eq_true]at h;rw[wi undef]at h;have back:∀(u:Value) (K':Hl) (M':List Asn),K.le K'→DX E ops eff stg Q r S K' M' ((a.put ox.dst undef).put oi.dst u)→
   (if Region.wanted ox (yielded ops (a.put oi.dst u).tmps) = true then
    ∃v,(∀K'' M'' w,K'.le K''→In E.w0 E.F K'' (S++M'') w→Eff E.P ops ox (a.put oi.dst u) w Q fun u w'=>u=v∧In E.w0 E.F K'' (S++M'') w')∧DX E ops eff stg Q r S K' M' ((a.put oi.dst u).put ox.dst v)
    else DX E ops eff stg Q r S K' M' ((a.put oi.dst u).put ox.dst undef)):=by
  intro u K' M' le hr;rw[wx u,x5 cx,←goX];exact hr
 by_cases ci:Region.wanted oi (yielded ops a.tmps)=true
 ·simp only[ci,if_true]at h ⊢
  by_cases ce:eff.contains i=true
  ·simp only[ce,if_true]at h ⊢;intro w j;refine((h w j).congr (ei undef).symm (m7.put hx a undef).symm).mono fun u w' ⟨K',M',le,j',hr⟩=>⟨K',M',le,j',back u K' M' le hr⟩
  simp only[ce,Bool.false_eq_true,if_false]at h ⊢;obtain⟨u,hu,hr⟩:=h;refine⟨u,fun K' M' w le j=>?_,back u K M (Hl.le_refl _) hr⟩
  exact(hu K' M' w le j).congr (ei undef).symm (m7.put hx a undef).symm
 simp only[ci,if_false,Bool.false_eq_true]at h ⊢;exact back undef K M (Hl.le_refl _) h
def aQY(ops:Array Oper)(eff stg:List Nat)(x i:Nat):Bool:=
 match ops[x]?,ops[i]? with
 |some ox,some oi=>!stg.contains x&&!stg.contains i&&!eff.contains x&&ox.apart ops oi&&aKB ox&&aKB oi
 |_,_=>false
def aLZ{E:Env}{ops:Array Oper}{eff stg:List Nat}{S:List Asn}{Q:Post}{x:Nat}{r r':List Nat}(k:∀S K M a,DX E ops eff stg Q r S K M a→DX E ops eff stg Q r' S K M a){K:Hl}{M:List Asn}{a:Act}
  (h:DX E ops eff stg Q (x::r) S K M a):DX E ops eff stg Q (x::r') S K M a:=by
 unfold DX at h ⊢;cases hx:ops[x]? with
 |none=>simp[hx]at h
 |some o=>
  simp only[hx]at h ⊢;split
  ·rename_i c;rw[x7 c]at h;split
   ·rename_i c0;rw[x7 c0]at h;exact fun w j=>(h w j).mono fun u w' ⟨K',S',M',le,j',hr⟩=>⟨K',S',M',le,j',k _ _ _ _ hr⟩
   rename_i c0;rw[x5 c0]at h;split
   ·rename_i c';rw[x7 c']at h;exact fun w j=>(h w j).mono fun u w' ⟨K',M',le,j',hr⟩=>⟨K',M',le,j',k _ _ _ _ hr⟩
   rename_i c';rw[x5 c']at h;obtain⟨v,hv,hr⟩:=h;exact⟨v,hv,k _ _ _ _ hr⟩
  rename_i c;rw[x5 c]at h;exact k _ _ _ _ h
def aOJ{E:Env}{ops:Array Oper}{eff stg:List Nat}{Q:Post}{i:Nat}{r2:List Nat}:∀(r1:List Nat) {S:List Asn} {K:Hl} {M:List Asn} {a:Act},
  (∀x∈r1,aQY ops eff stg x i=true)→DX E ops eff stg Q (r1++i::r2) S K M a→DX E ops eff stg Q (i::(r1++r2)) S K M a
 | [],_,_,_,_,_,h=>h
 |x::r1,S,K,M,a,hs,h=>by
  have h1:DX E ops eff stg Q (x::i::(r1++r2)) S K M a:=aLZ (fun _ _ _ _=>aOJ r1 fun y hy=>hs y (List.mem_cons_of_mem _ hy)) h;have hb:=hs x (List.mem_cons_self ..);unfold aQY at hb;cases hx:ops[x]? with
  |none=>simp[hx]at hb
  |some ox=>
   cases hi:ops[i]? with
   |none=>simp[hx,hi]at hb
   |some oi=>
    simp only[hx,hi,Bool.and_eq_true,Bool.not_eq_true']at hb;exact bH8 hx hi hb.1.1.2 hb.1.2 hb.2 hb.1.1.1.2 hb.1.1.1.1.1 hb.1.1.1.1.2 h1
def upto(anc:List Nat):List Edge→Nat
 | []=>0
 |e::es=>if Region.binds .any e then (2 ^ e.on|||anc.getD e.on 0)|||upto anc es else upto anc es
def aJM(anc:List Nat):List Oper→Nat→Bool
 | [],_=>true
 |o::os,i=>(o.after.toList.all fun e=>!Region.binds .any e||Nat.blt e.on i)&&((anc.getD i 0|||upto anc o.after.toList)==upto anc o.after.toList)&&aJM anc os (i+1)
def pwB(ops:Array Oper)(eff stg anc:List Nat):List Nat→Bool
 | []=>true
 |x::r=>(r.all fun i=>(anc.getD i 0).testBit x||aQY ops eff stg x i)&&!r.contains x&&pwB ops eff stg anc r
def bEN(l:List Oper)(eff stg anc ord:List Nat):Bool:=
 aJM anc l 0&&pwB l.toArray eff stg anc ord&&(List.range l.length).all ord.contains&&ord.all (Nat.blt · l.length)&&Nat.beq ord.length l.length
def aIX{anc:List Nat}{x:Nat}:∀ {es:List Edge},(upto anc es).testBit x=true→∃e∈es,Region.binds .any e=true∧(x=e.on∨(anc.getD e.on 0).testBit x=true)
 | [],h=>by simp[upto]at h
 |e::es,h=>by
  unfold upto at h;split at h
  ·rename_i hb;rw[Nat.testBit_or,Nat.testBit_or]at h;simp only[Bool.or_eq_true,Nat.testBit_two_pow,decide_eq_true_eq]at h;rcases h with (h|h)|h
   ·exact⟨e,List.mem_cons_self ..,hb,.inl h.symm⟩
   ·exact⟨e,List.mem_cons_self ..,hb,.inr h⟩
   obtain⟨e',he,h'⟩:=aIX h;exact⟨e',List.mem_cons_of_mem _ he,h'⟩
  obtain⟨e',he,h'⟩:=aIX h;exact⟨e',List.mem_cons_of_mem _ he,h'⟩
def aGB{anc:List Nat}:∀ {os:List Oper} {j:Nat},aJM anc os j=true→∀ {i:Nat} {o:Oper},os[i]?=some o→
  (∀e∈o.after.toList,Region.binds .any e=true→e.on < j+i)∧∀x,(anc.getD (j+i) 0).testBit x=true→(upto anc o.after.toList).testBit x=true
 | [],_,_,_,_,h=>by simp at h
 |o::os,j,h,i,o',ho=>by
  simp only[aJM,Bool.and_eq_true,List.all_eq_true,Bool.or_eq_true,Bool.not_eq_true',beq_iff_eq]at h;obtain⟨⟨h1,h2⟩,h3⟩:=h;cases i with
  |zero=>
   simp at ho;subst ho
   refine⟨fun e he hb=>?_,fun x hx=>?_⟩
   ·rcases h1 e he with q|q
    ·rw[hb]at q;cases q
    simp[Nat.blt]at q;omega
   rw[←h2,Nat.testBit_or];simp only[Nat.add_zero]at hx;rw[hx];rfl
  |succ i=>
   have:=aGB (j:=j+1) h3 (i:=i) (o:=o') (by simpa using ho);have e:j+(i+1)=j+1+i:=by omega
   rw[e];exact this
def Down(ops:Array Oper)(listed:Array Bool):Prop:=
 ∀(i:Nat) (o:Oper),listed.getD i true=true→ops[i]?=some o→∀e∈o.after.toList,Region.binds .any e=true→listed.getD e.on false=true
def aDT{ops:Array Oper}{listed:Array Bool}{i:Nat}:i∈Region.ready .any ops listed↔
  i < ops.size∧listed.getD i true=false∧∃o,ops[i]?=some o∧∀e∈o.after.toList,Region.binds .any e=true→listed.getD e.on false=true:=by
 unfold Region.ready;simp only[List.mem_filter,List.mem_range,Bool.and_eq_true,Bool.not_eq_true']
 constructor
 ·rintro⟨h1,h2,h3⟩;refine⟨h1,h2,?_⟩
  cases ho:ops[i]? with
  |none=>simp[ho]at h3
  |some o=>
   refine⟨o,Y,fun e he hb=>?_⟩
   simp only[ho,Option.map_some,Option.getD_some,Array.all_eq_true_iff_forall_mem]at h3;have:=h3 e (by simpa using he)
   simpa[hb]using this
 rintro⟨h1,h2,o,ho,h3⟩;refine⟨h1,h2,?_⟩
 simp only[ho,Option.map_some,Option.getD_some,Array.all_eq_true_iff_forall_mem];intro e he
 by_cases hb:Region.binds .any e=true
 ·simp[hb,h3 e (by simpa using he) hb]
 simp[hb]
def aRQ{l:List Oper}{anc:List Nat}(hA:aJM anc l 0=true){listed:Array Bool}(hsz:listed.size=l.length)(hd:Down l.toArray listed){i:Nat}{o:Oper}(ho:l[i]?=some o)
  (hr:∀e∈o.after.toList,Region.binds .any e=true→listed.getD e.on false=true) {x:Nat} (hx:(anc.getD i 0).testBit x=true):listed.getD x false=true:=by
 have key:∀(n i:Nat) (o:Oper),i=n→l[i]?=some o→(∀e∈o.after.toList,Region.binds .any e=true→listed.getD e.on false=true)→(anc.getD i 0).testBit x=true→listed.getD x false=true:=by
  intro n;induction n using Nat.strongRecOn with
  |_ n ih=>
   rintro i o rfl ho hr hx;obtain⟨h1,h2⟩:=aGB hA ho;simp only[Nat.zero_add]at h1 h2;obtain⟨e,he,hb,hxe⟩:=aIX (h2 x hx);rcases hxe with rfl|hxe
   ·exact hr e he hb
   have hlt:=h1 e he hb;have hil:i < l.length:=by
    rcases xAC i l.length with h|h
    ·exact h
    simp[List.getElem?_eq_none h]at ho
   have hel:l[e.on]?=some l[e.on]:=by simp[List.getElem?_eq_getElem (Nat.lt_trans hlt hil)]
   have hle:=hr e he hb;refine ih e.on hlt e.on l[e.on] Y hel ?_ hxe
   refine hd e.on l[e.on] ?_ (by simp[Array.getElem?_eq_getElem,Nat.lt_trans hlt hil])
   rw[xA7]at hle ⊢;have:e.on < listed.size:=by rw[hsz];exact Nat.lt_trans hlt hil
   simpa[Array.getElem?_eq_getElem this]using hle
 exact key i i o Y ho hr hx
def aKG{ops:Array Oper}{eff stg anc:List Nat}:∀ {r:List Nat},pwB ops eff stg anc r=true→r.Nodup∧∀(r1:List Nat) (i:Nat) (r2:List Nat),r=r1++i::r2→∀x∈r1,(anc.getD i 0).testBit x=true∨aQY ops eff stg x i=true
 | [],_=>⟨List.nodup_nil,fun r1 i r2 e=>by simp at e⟩
 |y::r,h=>by
  simp only[pwB,Bool.and_eq_true,List.all_eq_true,Bool.or_eq_true,Bool.not_eq_true']at h;obtain⟨⟨h1,h2⟩,h3⟩:=h;obtain⟨n,q⟩:=aKG h3;refine⟨List.nodup_cons.2 ⟨by simpa using h2,n⟩,?_⟩
  intro r1 i r2 e x hx;cases r1 with
  |nil=>simp at hx
  |cons z r1=>
   simp only[List.cons_append,List.cons.injEq]at e;obtain⟨rfl,rfl⟩:=e;rcases List.mem_cons.1 hx with rfl|hx
   ·exact h1 i (by simp)
   exact q r1 i r2 Y x hx
def aHQ{ops:Array Oper}{eff stg anc:List Nat}(p:Nat→Bool):∀ {r:List Nat},pwB ops eff stg anc r=true→pwB ops eff stg anc (r.filter p)=true
 | [],_=>rfl
 |y::r,h=>by
  simp only[pwB,Bool.and_eq_true,List.all_eq_true,Bool.or_eq_true,Bool.not_eq_true']at h;obtain⟨⟨h1,h2⟩,h3⟩:=h;have ih:=aHQ p h3;simp only[List.filter_cons];split
  ·simp only[pwB,Bool.and_eq_true,List.all_eq_true,Bool.or_eq_true,Bool.not_eq_true',ih,and_true];refine⟨fun i hi=>h1 i (List.mem_filter.1 hi).1,?_⟩
   simp at h2 ⊢;exact fun h=>absurd h h2
  exact ih
def aJJ{E:Env}{l:List Oper}{eff stg anc ord:List Nat}{Q:Post}(hA:aJM anc l 0=true)(hP:pwB l.toArray eff stg anc ord=true)(hcov:∀i,i < l.length→i∈ord)(hin:∀i∈ord,i < l.length):
  ∀(fuel:Nat) (listed:Array Bool) (r:List Nat) (S:List Asn) (K:Hl) (M:List Asn) (a:Act) (w:World),listed.size=l.length→r=ord.filter (fun i=>!listed.getD i true)→fuel=r.length→Down l.toArray listed→
   DX E l.toArray eff stg Q r S K M a→In E.w0 E.F K (S++M) w→wpAnyIn Fence.wide 0 E.P .any l.toArray Q fuel listed a w:=by
 intro fuel;induction fuel with
 |zero=>
  intro listed r S K M a w hsz hr hf hd h j;have hr0:r=[]:=xA9.1 hf.symm;subst hr0;have hall:∀i,i < l.length→listed.getD i true=true:=by
   intro i hi;cases hb:listed.getD i true with
   |true=>rfl
   |false=>
    have:i∈ord.filter (fun i=>!listed.getD i true):=List.mem_filter.2 ⟨hcov i hi,by rw[hb];rfl⟩;rw[←hr]at this;simp at this
  refine⟨?_,h w j⟩
  refine List.eq_nil_iff_forall_not_mem.2 fun i hi=>?_;obtain⟨h1,h2,_⟩:=aDT.1 hi;rw[hall i (by simpa using h1)]at h2;cases h2
 |succ fuel ih=>
  intro listed r S K M a w hsz hr hf hd h j;have hne:r≠[]:=by rintro rfl;simp at hf
  refine⟨fun h0=>?_,fun i hi=>?_⟩
  ·exfalso
   have key:∀(n i:Nat),i=n→i < l.length→listed.getD i true=false→False:=by
    intro n;induction n using Nat.strongRecOn with
    |_ n ihn=>
     rintro i rfl hil hb;have hi:i∈Region.ready .any l.toArray listed:=by
      refine aDT.2 ⟨by simpa using hil,hb,l[i],by simp[List.getElem?_eq_getElem hil],fun e he hbd=>?_⟩
      have hlt:=(aGB hA (i:=i) (o:=l[i]) (by simp[List.getElem?_eq_getElem hil])).1 e he hbd;simp only[Nat.zero_add]at hlt;have hel:e.on < listed.size:=by rw[hsz];exact Nat.lt_trans hlt hil
      cases hc:listed.getD e.on true with
      |false=>exact absurd hc (fun hc=>ihn e.on hlt e.on Y (Nat.lt_trans hlt hil) hc)
      |true=>
       rw[xA7]at hc ⊢
       simpa[Array.getElem?_eq_getElem hel]using hc
     rw[h0]at hi;simp at hi
   obtain⟨i,hi⟩:=List.exists_mem_of_ne_nil r hne;rw[hr]at hi;obtain⟨h1,h2⟩:=List.mem_filter.1 hi;exact key i i Y (hin i h1) (by simpa using h2)
  obtain⟨h1,h2,o,ho,h3⟩:=aDT.1 hi;have hil:i < l.length:=by simpa using h1
  have hol:l[i]?=some o:=by simpa using ho
  have hmem:i∈r:=by rw[hr];exact List.mem_filter.2 ⟨hcov i hil,by rw[h2];rfl⟩
  obtain⟨r1,r2,hsplit⟩:=List.append_of_mem hmem;have hPr:pwB l.toArray eff stg anc r=true:=by rw[hr];exact aHQ _ hP
  obtain⟨hnd,hq⟩:=aKG hPr;have hsw:∀x∈r1,aQY l.toArray eff stg x i=true:=by
   intro x hx;rcases hq r1 i r2 hsplit x hx with hb|hb
   ·exfalso
    have hxl:=aRQ hA hsz hd hol h3 hb;have hxr:x∈r:=by rw[hsplit];simp[hx]
    rw[hr]at hxr;obtain⟨hxo,hxn⟩:=List.mem_filter.1 hxr;have hxs:x < listed.size:=by rw[hsz];exact hin x hxo
    rw[xA7]at hxl;simp[Array.getElem?_eq_getElem hxs]at hxl hxn;rw[hxl]at hxn;cases hxn
   exact hb
  rw[hsplit]at h;have hfront:=aOJ r1 hsw h;have his:i < listed.size:=by rw[hsz];exact hil
  have hr':r1++r2=ord.filter (fun k=>!(listed.setIfInBounds i true).getD k true):=by
   have hset:∀k,(listed.setIfInBounds i true).getD k true=(if k=i then true else listed.getD k true):=by
    intro k;rw[xA7,xA7,Array.getElem?_setIfInBounds]
    by_cases hk:i=k
    ·subst hk;simp[his]
    simp[hk,Ne.symm hk]
   have e1:ord.filter (fun k=>!(listed.setIfInBounds i true).getD k true)=r.filter (fun k=>k !=i):=by
    rw[hr,List.filter_filter];refine List.filter_congr fun k _=>?_;rw[hset k]
    by_cases hk:k=i
    ·subst hk;simp
    simp[hk]
   rw[e1,hsplit,List.filter_append,List.filter_cons];rw[hsplit]at hnd;have hn:=List.nodup_append.1 hnd;have hn2:=List.nodup_cons.1 hn.2.1;simp only[bne_self_eq_false,Bool.false_eq_true,if_false];rw[List.filter_eq_self.2,List.filter_eq_self.2]
   ·intro k hk;simp only[bne_iff_ne];rintro rfl;exact hn2.1 hk
   intro k hk;simp only[bne_iff_ne];rintro rfl;exact hn.2.2 k hk k (List.mem_cons_self ..) Y
  have hd':Down l.toArray (listed.setIfInBounds i true):=by
   intro k ok hk hok e he hb;have up:listed.getD e.on false=true→(listed.setIfInBounds i true).getD e.on false=true:=by
    intro q;rw[xA7]at q ⊢;rw[Array.getElem?_setIfInBounds]
    by_cases hk:i=e.on
    ·subst hk;simp[his]
    simpa[hk]using q
   by_cases hki:k=i
   ·subst hki;rw[ho]at hok;cases hok
    exact up (h3 e he hb)
   refine up (hd k ok ?_ hok e he hb)
   rw[xA7]at hk ⊢;rw[Array.getElem?_setIfInBounds,x5 (Ne.symm hki)]at hk;exact hk
  have hlen:fuel=(r1++r2).length:=by
   have:=xAE List.length hsplit;simp at this hf ⊢;omega
  have step:∀S' K' M' a' w',DX E l.toArray eff stg Q (r1++r2) S' K' M' a'→In E.w0 E.F K' (S'++M') w'→wpAnyIn Fence.wide 0 E.P .any l.toArray Q fuel (listed.setIfInBounds i true) a' w':=
   fun S' K' M' a' w' hdx j'=>ih _ (r1++r2) S' K' M' a' w' (by simp[hsz]) hr' hlen hd' hdx j'
  unfold wpOpIn;simp only[ho];unfold DX at hfront;simp only[ho]at hfront
  by_cases hw:Region.wanted o (yielded l.toArray a.tmps)=true
  ·simp only[hw,if_true]at hfront ⊢
   by_cases hg:stg.contains i=true
   ·simp only[hg,if_true]at hfront;exact((hfront w j).wp fun u w' ⟨K',S',M',le,j',hr⟩=>step S' K' M' _ w' hr j')
   simp only[hg,if_false,Bool.false_eq_true]at hfront
   by_cases he:eff.contains i=true
   ·simp only[he,if_true]at hfront;exact((hfront w j).wp fun u w' ⟨K',M',le,j',hr⟩=>step S K' M' _ w' hr j')
   simp only[he,if_false,Bool.false_eq_true]at hfront;obtain⟨v,hv,hr⟩:=hfront;exact((hv K M w (Hl.le_refl _) j).wp fun u w' ⟨e,j'⟩=>by subst e;exact step S K M _ w' hr j')
  simp only[hw,if_false,Bool.false_eq_true]at hfront ⊢;exact⟨fun _ _=>trivial,step S K M _ w hfront j⟩
def aSH{E:Env}{l:List Oper}{eff stg anc ord:List Nat}{S M:List Asn}{Q:Post}{id:Nat}{K:Hl}{a:Act}{w:World}(hm:E.P.follows .mixedOrders=true)(hok:bEN l eff stg anc ord=true)
  (h:DX E l.toArray eff stg Q ord S K M a) (j:In E.w0 E.F K (S++M) w):(Code.region id l.toArray true).wp E.P Q a w:=by
 simp only[bEN,Bool.and_eq_true,List.all_eq_true]at hok;obtain⟨⟨⟨⟨hA,hP⟩,hcov⟩,hin⟩,hle⟩:=hok;refine wpIn_wide.1 (wpIn_region_any (n:=0) hm ?_)
 have hfil:ord.filter (fun i=>!(Array.replicate l.toArray.size false).getD i true)=ord:=by
  refine List.filter_eq_self.2 fun i hi=>?_;have:i < l.length:=by have:=hin i hi;simp[Nat.blt]at this;omega
  rw[xA7];simp[this]
 have hlen:ord.length=l.toArray.size:=by simpa using Nat.eq_of_beq_eq_true hle
 refine aJJ (E:=E) (eff:=eff) (stg:=stg) (anc:=anc) (ord:=ord) hA hP (fun i hi=>by have:=hcov i (List.mem_range.2 hi);simpa using this) (fun i hi=>by have:=hin i hi;simp[Nat.blt]at this;omega) l.toArray.size _ ord S K M a _ (by simp) hfil.symm hlen.symm ?_ h (j.drew _)
 intro k ok hk hok;rw[xA7]at hk;have:k < l.toArray.size:=by
  rcases xAC k l.toArray.size with h|h
  ·exact h
  rw[Array.getElem?_eq_none h]at hok;cases hok
 simp at this;simp[this]at hk
def In.weaken{w0 w:World}{F K K':Hl}{L:List Asn}(le:K.le K')(i:In w0 F K' L w):In w0 F K L w:=by
 obtain⟨h,hs,d1,d2,d3,l1,l2,l3⟩:=i.rep;have sub:∀x,K' x=none→K x=none:=by
  intro x hx;cases e:K x with
  |none=>rfl
  |some o=>rw[le x o e]at hx;cases hx
 exact⟨i.os,i.tape,i.output,i.size,h,hs,fun x=>(d1 x).imp_right (sub x),d2,fun x=>(d3 x).imp_left (sub x),l1,Hl.le_trans le l2,l3⟩
def In.left{w0 w:World}{F K:Hl}{S M:List Asn}(i:In w0 F K (S++M) w):In w0 F K S w:=by
 obtain⟨h,hs,d1,d2,d3,l1,l2,l3⟩:=i.rep;obtain⟨a,n,ha,hn,han,rfl⟩:=eY.1 hs;exact⟨i.os,i.tape,i.output,i.size,a,ha,d1,(Hl.dj_join.1 d2).1,(Hl.dj_join.1 d3).1,l1,l2,Hl.le_join_left l3⟩
def aQ{E:Env}{x:Exit}{fr:Fr}{K:Hl}{As L M:List Asn}{Q:Post}(hL:Tks As L M)(h:D E x fr K As Q):D E x fr K L Q:=fun a w f i=>h a w f (i.imp hL.sat).left
def mV{E:Env}{c:Code}{fr:Fr}{K:Hl}{As L M:List Asn}{Q:Post}(hL:Tks As L M)(h:T E c fr K As Q):T E c fr K L Q:=fun a w f i=>h a w f (i.imp hL.sat).left
def aTF{E:Env}{ops:Array Oper}{l:List Oper}{fr:Fr}{K:Hl}{As L M:List Asn}{Q:Post}(hL:Tks As L M)(h:OL E ops l fr K As Q):OL E ops l fr K L Q:=fun a w f i=>h a w f (i.imp hL.sat).left
def DL(E:Env)(ops:Array Oper)(eff stg:List Nat)(S:List Asn)(r:List Nat)(fr:Fr)(K:Hl)(M:List Asn)(Q:Post):Prop:=
 ∀a,FrOk E.n E.ds fr a→DX E ops eff stg Q r S K M a
inductive GOk (ops:Array Oper) (fr:Fr) (o:Oper):Bool→Prop where
 |none:o.guard=.none→GOk ops fr o true
 |on {g dg:Nat} {c:Bool}:o.guard=some (g,c)→(ops[g]?).bind (·.dst)=some dg→fr.get dg=some (.bool c)→GOk ops fr o true
 |off {g dg:Nat} {c:Bool}:o.guard=some (g,c)→(ops[g]?).bind (·.dst)=some dg→fr.get dg=some (.bool (!c))→GOk ops fr o false
 |offu {g dg:Nat} {c:Bool}:o.guard=some (g,c)→(ops[g]?).bind (·.dst)=some dg→fr.get dg=some undef→GOk ops fr o false
def GOk.wanted{ops:Array Oper}{fr:Fr}{o:Oper}{b:Bool}(h:GOk ops fr o b){n:Nat}{ds:List Deferred}{a:Act}(f:FrOk n ds fr a):Region.wanted o (yielded ops a.tmps)=b:=by
 cases h with
 |none h=>simp[Region.wanted,h]
 |on h1 h2 h3=>simp[Region.wanted,h1,yielded,h2,f.get _ _ h3]
 |off h1 h2 h3=>simp[Region.wanted,h1,yielded,h2,f.get _ _ h3]
 |offu h1 h2 h3=>simp[Region.wanted,h1,yielded,h2,f.get _ _ h3,undef]
section
variable{E:Env}{ops:Array Oper}{eff stg:List Nat}{S:List Asn}{r:List Nat}{fr:Fr}{K:Hl}{M L:List Asn}{Q:Post}{i:Nat}{o:Oper}
def cZ{l:List Oper}{anc ord:List Nat}{id:Nat}(eff stg:List Nat)(hm:E.P.follows .mixedOrders=true)(hok:bEN l eff stg anc ord=true)(hL:Tks S L M)
  (h:DL E l.toArray eff stg S ord fr K M Q):T E (.region id l.toArray true) fr K L Q:=
 fun a w f j=>aSH hm hok (h a f) (j.imp hL.sat)
def cL(h:D E .normal fr K (S++M) Q):DL E ops eff stg S [] fr K M Q:=fun a f w j=>h a w f j
def aJ{d:Nat}{v:Value}(ho:ops[i]?=some o)(hd:o.dst=some d)(hg:GOk ops fr o true)(hg0:stg.contains i=false)(he:eff.contains i=false)(hv:Ev E fr K S o v)(hn:Nat.blt d E.n=true)
  (h:DL E ops eff stg S r ((d,v)::fr) K M Q):DL E ops eff stg S (i::r) fr K M Q:=by
 intro a f;unfold DX;simp only[ho,hg.wanted f,if_true,hg0,he,Bool.false_eq_true,if_false];refine⟨v,fun K' M' w le j=>.inl ⟨v,w,hv a w f (j.left.weaken le),Y,j⟩,?_⟩
 rw[hd];exact h _ (f.put hn v)
def bB{d:Nat}(ho:ops[i]?=some o)(hd:o.dst=some d)(hg:GOk ops fr o false)(hn:Nat.blt d E.n=true)(h:DL E ops eff stg S r ((d,undef)::fr) K M Q):DL E ops eff stg S (i::r) fr K M Q:=by
 intro a f;unfold DX;simp only[ho,hg.wanted f,Bool.false_eq_true,if_false];rw[hd];exact h _ (f.put hn undef)
def uK{d:Nat}{N:Value→Hl→List Asn→Prop}(ho:ops[i]?=some o)(hd:o.dst=some d)(hg:GOk ops fr o true)(hg0:stg.contains i=false)(he:eff.contains i=true)(hv:EfS E fr K (S++M) o N)(hn:Nat.blt d E.n=true)
  (h:∀v K' L',N v K' L'→K.le K'→∃M',(∀x,Sat L' x→Sat (S++M') x)∧DL E ops eff stg S r ((d,v)::fr) K' M' Q):DL E ops eff stg S (i::r) fr K M Q:=by
 intro a f;unfold DX;simp only[ho,hg.wanted f,if_true,hg0,he,Bool.false_eq_true,if_false];intro w j;obtain⟨u,w',K',L',hr,hN,le,j'⟩:=hv a w f j;obtain⟨M',hM,hD⟩:=h u K' L' hN le;rcases hr with hr|⟨hr,rfl⟩
 ·exact .inl ⟨u,w',hr,K',M',le,j'.imp hM,by rw[hd];exact hD _ (f.put hn u)⟩
 exact .inr (.inl ⟨w',hr,K',M',le,j'.imp hM,by rw[hd];exact hD _ (f.put hn undef)⟩)
def iL{d:Nat}{ty:TypeId}{pos:String}{aft:Array Edge}{g:Option (Nat×Bool)}{fv:Operand}{xs:List Operand}{ats:Array TypeId}{f:FuncId}{caps:Array Value}{vs:List Value}{v:Value}
  (ho:ops[i]?=some ⟨some d,.call ⟨.value fv,xs.toArray,ats⟩,ty,pos,aft,g⟩) (hg:GOk ops fr ⟨some d,.call ⟨.value fv,xs.toArray,ats⟩,ty,pos,aft,g⟩ true) (hg0:stg.contains i=false) (he:eff.contains i=true)
  (hf:fr.ev fv=some (.func (.func f) #[] caps)) (hx:fr.evs xs=some vs) (hs:Sp E.P f (vs++caps.toList) K [] (Val v K)) (hn:Nat.blt d E.n=true)
  (h:DL E ops eff stg S r ((d,v)::fr) K M Q):DL E ops eff stg S (i::r) fr K M Q:=by
 intro a fo;unfold DX;simp only[ho,hg.wanted fo,if_true,hg0,he,Bool.false_eq_true,if_false];intro w j;obtain⟨F',i1,back⟩:=In.hide (L:=[]) (N:=S++M) j;refine .inr (.inr (.inl ⟨f,_,w,uS hf hx hs fo w,(hs.2 F' w i1).mono fun e w' ⟨K',L',⟨q1,q2,q3⟩,le,j'⟩=>?_⟩))
 subst q1;subst q2;subst q3
 exact⟨_,M,Hl.le_refl _,back j',h _ (fo.put hn v)⟩
def aBP{d:Nat}{ty:TypeId}{pos:String}{aft:Array Edge}{g:Option (Nat×Bool)}{fv:Operand}{xs:List Operand}{ats:Array TypeId}{f:FuncId}{caps:Array Value}{vs:List Value}{L1 L2:List Asn}{R:Ending→Hl→List Asn→Prop}
  (ho:ops[i]?=some ⟨some d,.call ⟨.value fv,xs.toArray,ats⟩,ty,pos,aft,g⟩) (hg:GOk ops fr ⟨some d,.call ⟨.value fv,xs.toArray,ats⟩,ty,pos,aft,g⟩ true) (hg0:stg.contains i=false) (he:eff.contains i=true)
  (hf:fr.ev fv=some (.func (.func f) #[] caps)) (hx:fr.evs xs=some vs) (hs:Sp E.P f (vs++caps.toList) K L1 R) (hL:Tks L1 (S++M) L2) (hn:Nat.blt d E.n=true)
  (hout:∀K' L',¬R .outgrown K' L')
  (hpan:∀ch K' L',R (.panicked ch) K' L'→K.le K'→∀a w,a.defers=E.ds→In E.w0 E.F K' (L'++L2) w→Q (.panic ch) a w)
  (h:∀v K' L',R (.returned v) K' L'→K.le K'→∃M',(∀x,Sat (L'++L2) x→Sat (S++M') x)∧DL E ops eff stg S r ((d,v)::fr) K' M' Q):DL E ops eff stg S (i::r) fr K M Q:=by
 intro a fo;unfold DX;simp only[ho,hg.wanted fo,if_true,hg0,he,Bool.false_eq_true,if_false];intro w j;obtain⟨F',i1,back⟩:=(j.imp hL.sat).hide;refine .inr (.inr (.inl ⟨f,_,w,uS hf hx hs fo w,(hs.2 F' w i1).mono fun e w' ⟨K',L',q,le,j'⟩=>?_⟩))
 cases e with
 |returned v=>
  obtain⟨M',hM,hD⟩:=h v K' L' q le;exact⟨K',M',le,(back j').imp hM,hD _ (fo.put hn v)⟩
 |panicked ch=>exact fun a' ha'=>hpan ch K' L' q le a' w' (ha'.1.trans fo.defers) (back j')
 |outgrown=>exact absurd q (hout _ _)
def aXM{d:Nat}{N:Value→Hl→List Asn→Prop}(ho:ops[i]?=some o)(hd:o.dst=some d)(hg:GOk ops fr o true)(he:stg.contains i=true)(hv:EfS E fr K (S++M) o N)(hn:Nat.blt d E.n=true)
  (h:∀v K' L',N v K' L'→K.le K'→DL E ops eff stg L' r ((d,v)::fr) K' [] Q):DL E ops eff stg S (i::r) fr K M Q:=by
 intro a f;unfold DX;simp only[ho,hg.wanted f,if_true,he];intro w j;obtain⟨u,w',K',L',hr,hN,le,j'⟩:=hv a w f j;have hD:=h u K' L' hN le;rcases hr with hr|⟨hr,rfl⟩
 ·exact .inl ⟨u,w',hr,K',L',[],le,by simpa using j',by rw[hd];exact hD _ (f.put hn u)⟩
 exact .inr (.inl ⟨w',hr,K',L',[],le,by simpa using j',by rw[hd];exact hD _ (f.put hn undef)⟩)
def mT{N:Value→Hl→List Asn→Prop}(ho:ops[i]?=some o)(hd:o.dst=none)(hg:GOk ops fr o true)(he:stg.contains i=true)(hv:EfS E fr K (S++M) o N)
  (h:∀v K' L',N v K' L'→K.le K'→DL E ops eff stg L' r fr K' [] Q):DL E ops eff stg S (i::r) fr K M Q:=by
 intro a f;unfold DX;simp only[ho,hg.wanted f,if_true,he];intro w j;obtain⟨u,w',K',L',hr,hN,le,j'⟩:=hv a w f j;have hD:=h u K' L' hN le;rcases hr with hr|⟨hr,rfl⟩
 ·exact .inl ⟨u,w',hr,K',L',[],le,by simpa using j',by rw[hd];exact hD _ f⟩
 exact .inr (.inl ⟨w',hr,K',L',[],le,by simpa using j',by rw[hd];exact hD _ f⟩)
def kZ{d:Nat}{ty:TypeId}{pos:String}{aft:Array Edge}{g:Option (Nat×Bool)}{fv:Operand}{xs:List Operand}{ats:Array TypeId}{f:FuncId}{caps:Array Value}{vs:List Value}{L1 L2:List Asn}{R:Ending→Hl→List Asn→Prop}
  (ho:ops[i]?=some ⟨some d,.call ⟨.value fv,xs.toArray,ats⟩,ty,pos,aft,g⟩) (hg:GOk ops fr ⟨some d,.call ⟨.value fv,xs.toArray,ats⟩,ty,pos,aft,g⟩ true) (he:stg.contains i=true)
  (hf:fr.ev fv=some (.func (.func f) #[] caps)) (hx:fr.evs xs=some vs) (hs:Sp E.P f (vs++caps.toList) K L1 R) (hL:Tks L1 (S++M) L2) (hn:Nat.blt d E.n=true)
  (hout:∀K' L',¬R .outgrown K' L')
  (hpan:∀ch K' L',R (.panicked ch) K' L'→K.le K'→∀a w,a.defers=E.ds→In E.w0 E.F K' (L'++L2) w→Q (.panic ch) a w)
  (h:∀v K' L',R (.returned v) K' L'→K.le K'→DL E ops eff stg (L'++L2) r ((d,v)::fr) K' [] Q):DL E ops eff stg S (i::r) fr K M Q:=by
 intro a fo;unfold DX;simp only[ho,hg.wanted fo,if_true,he];intro w j;obtain⟨F',i1,back⟩:=(j.imp hL.sat).hide;refine .inr (.inr (.inl ⟨f,_,w,uS hf hx hs fo w,(hs.2 F' w i1).mono fun e w' ⟨K',L',q,le,j'⟩=>?_⟩))
 cases e with
 |returned v=>exact⟨K',L'++L2,[],le,by simpa using back j',h v K' L' q le _ (fo.put hn v)⟩
 |panicked ch=>exact fun a' ha'=>hpan ch K' L' q le a' w' (ha'.1.trans fo.defers) (back j')
 |outgrown=>exact absurd q (hout _ _)
def eQ{d:Nat}{ty:TypeId}{pos:String}{aft:Array Edge}{g:Option (Nat×Bool)}{fv:Operand}{xs:List Operand}{ats:Array TypeId}{f:FuncId}{caps:Array Value}{vs:List Value}{L1 L2:List Asn}{N:Value→Hl→List Asn→Prop}
  (ho:ops[i]?=some ⟨some d,.call ⟨.value fv,xs.toArray,ats⟩,ty,pos,aft,g⟩) (hg:GOk ops fr ⟨some d,.call ⟨.value fv,xs.toArray,ats⟩,ty,pos,aft,g⟩ true) (he:stg.contains i=true)
  (hf:fr.ev fv=some (.func (.func f) #[] caps)) (hx:fr.evs xs=some vs) (hs:Sp E.P f (vs++caps.toList) K L1 (Ret N)) (hL:Tks L1 (S++M) L2) (hn:Nat.blt d E.n=true)
  (h:∀v K' L',N v K' L'→K.le K'→DL E ops eff stg (L'++L2) r ((d,v)::fr) K' [] Q):DL E ops eff stg S (i::r) fr K M Q:=
 kZ ho hg he hf hx hs hL hn (fun K' L' ⟨u,e,n⟩=>by cases e) (fun ch K' L' ⟨u,e,n⟩=>by cases e) (fun v K' L' ⟨u,e,n⟩ le=>by cases e;exact h v K' L' n le)
def cQ:∀(L:List Asn),Tks L L []
 | []=>.nil
 |_::L=>.cons .here (cQ L)
def qY(d:Nat){b:Bool}(e:fr.get d=some (.bool b))(ht:b=true→DL E ops eff stg S r ((d,.bool true)::fr) K M Q)(hf:b=false→DL E ops eff stg S r ((d,.bool false)::fr) K M Q):DL E ops eff stg S r fr K M Q:=by
 intro a f;have key : ∀ c, b = c → FrOk E.n E.ds ((d, .bool c) :: fr) a := fun c hc => ⟨f.defers, f.size, fun k v h => by
  simp only[Fr.get]at h
  by_cases hk:d=k
  ·subst hk;simp at h;subst h;rw[←hc];exact f.get _ _ e
  rw[aRT hk]at h;exact f.get _ _ h⟩
 cases b
 ·exact hf Y a (key _ Y)
 exact ht Y a (key _ Y)
def fC(d:Nat){p:Prop}[Decidable p](e:fr.get d=some (.bool (decide p)))(ht:p→DL E ops eff stg S r ((d,.bool true)::fr) K M Q)(hf:¬p→DL E ops eff stg S r ((d,.bool false)::fr) K M Q):DL E ops eff stg S r fr K M Q:=
 qY d e (fun h=>ht (xAH h)) (fun h=>hf (xA1 h))
end
end Go.SL
end

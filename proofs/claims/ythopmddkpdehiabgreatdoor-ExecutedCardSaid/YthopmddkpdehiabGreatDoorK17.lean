/-
  What the proof stands on, part 17: the logic of walks, the walks through the functions, the plain laws. Conditions: as each theorem says. (Merged and shortened by a program.)
-/
import Derived.Test.YthopmddkpdehiabGreatDoorK7
import Derived.Test.YthopmddkpdehiabGreatDoorK16
set_option linter.unusedVariables false
set_option linter.unusedSimpArgs false
set_option linter.defProp false
set_option maxRecDepth 4000
set_option maxHeartbeats 1000000
section
namespace Go.Proofs
open Go Go.SL
def eE:El Bool:={e:=4,sz:=1,enc:=fun b=>[.bool b],len:=fun _=>rfl,one:=fun _ u h=>by simp at h;subst h;rfl}
end Go.Proofs
end
section
namespace Go.Proofs
open Go Go.SL Go.Syn Go.Mach
def p8{vars:List (List UInt8×List UInt8)}{parts:List (List UInt8)}{d:UInt8}(h:48≤d.toNat∧d.toNat≤57):held vars parts [d]=((parts[d.toNat - 48]?).getD [],true):=by
 unfold held;simp only[];rw[x7 (by simp[gD,h.1,h.2])]
def p9{vars:List (List UInt8×List UInt8)}{parts:List (List UInt8)}{name:List UInt8}(h:¬(∃d,name=[d]∧48≤d.toNat∧d.toNat≤57)):held vars parts name=(vget vars (eD name),named name):=by
 unfold held;split
 ·rename_i d;rw[x5 (by intro e;simp[gD]at e;exact h ⟨d,Y,e⟩)]
 rfl
def pW(vars:List (List UInt8×List UInt8))(parts:List (List UInt8)):Prop:=∀name,(held vars parts name).1.length≤100000
def gG(s:List UInt8):sT s=true↔(∀i c,s[i]?=some c→hZ i c=true)∧s≠[]∧s.length≤16:=by
 unfold sT;simp only[Bool.and_eq_true,List.all_eq_true,List.mem_range,decide_eq_true_eq]
 constructor
 ·rintro⟨⟨h1,h2⟩,h3⟩;refine⟨fun i c hc=>?_,h2,h3⟩
  have hi:i < s.length:=by
   rcases xAC i s.length with h'|h'
   ·exact h'
   simp[List.getElem?_eq_none h']at hc
  have:=h1 i hi;rw[hc]at this;exact this
 rintro⟨h1,h2,h3⟩;refine⟨⟨fun i hi=>?_,h2⟩,h3⟩
 rw[x4 hi];exact h1 i _ (x4 hi)
def aJ1{n:Nat}{ds:List Deferred}{w0:World}{F:Hl}{fr:Fr}{K:Hl}{L:List Asn}{dst:Option Tmp}{ty t':TypeId}{pos:String}{aft:Array Edge}{g:Option (Nat×Bool)}{x y:Operand}{a c:gA}(hx:fr.ev x=some (.agg #[i64 a.1,str a.2]))(hy:fr.ev y=some (.agg #[i64 c.1,str c.2])):
  Ev ⟨x3,n,ds,w0,F⟩ fr K L ⟨dst,.binOp .eql 75 x y t',ty,pos,aft,g⟩ (.bool (decide (a=c))):=
 jN hx hy (fun w=>run_eqGuard_agg w _ _ _ _ _ _ Tryz.eqGuardType75) fun w=>by
  rw[run_eql_struct,bC8];rfl
end Go.Proofs
end
section
namespace Go.Proofs
open Go Go.SL Go.Syn Go.Mach
open R (Yl)
def jF:∀(As:List Asn) (B:Asn),Tks As (B::As) [B]
 | [],_=>.nil
 |_::As,B=>.cons (.there .here) (jF As B)
def aE1{α:Type}{z:Bool}{k:El α}{v:Value}{xs:List α}{L:List Asn}{h:Hl}(hs:Sat (sl z k v xs::L) h):∃a n c,v=.slice a n c:=by
 obtain⟨a,l,ha,_⟩:=hs;rcases ha with ⟨rfl,_⟩|⟨b,cap,junk,fz,rfl,_⟩ <;> exact⟨_,_,_,Y⟩
end Go.Proofs
end
section
namespace Go.Proofs
open Go Go.SL Go.Syn Go.Mach
def sH(oct:Bool)(s:List UInt8):(f7 oct s).length=s.length:=by unfold f7;split <;> simp[eD]
def o8{α:Type}{l:List α}{i:Nat}{x:α}(hx:l[i]?=some x):l.drop i=x::l.drop (i+1):=by
 have hi:i < l.length:=by
  rcases xAC i l.length with h'|h'
  ·exact h'
  simp[List.getElem?_eq_none h']at hx
 have hc:l[i]=x:=by simpa[List.getElem?_eq_getElem hi]using hx
 rw[xAR hi,hc]
def MInv.small{s:MS}(h:MInv s):pW s.vars s.parts:=by
 intro name;unfold held;split
 ·split
  ·rename_i c _;simp only[];cases hp:s.parts[c.toNat - 48]? with
   |none=>simp
   |some x=>exact h.parts x (x8 hp)
  exact h.vars _
 exact h.vars _
end Go.Proofs
end
section
namespace Go.Proofs
open Go Go.SL Go.Syn Go.Mach Go.Cmp
def step_bad{nm:Bool}{m:Msg}{n:Nat}{o:Ins}{s:MS}(h:¬(1≤o.op∧o.op≤13)):Mach.step nm m n o s=.error (12,s.pc):=by
 unfold Mach.step;rw[x5 aH,x5 aH,x5 aH,x5 aH,x5 aH,x5 aH,x5 aH,x5 aH,x5 aH,x5 aH,x5 aH]
 rfl
structure RI where
 st:Nat
 s:MS
 pv:Value
 K:Hl
abbrev msgV(m:Msg)(hv:Value):Value:=.agg #[str m.from_,str m.to_,i64 m.size,hv]
end Go.Proofs
end
section
namespace Go.Say
open Go.Syn Go.Mach Go.Cmp
section
variable{nm:Bool}{m:Msg}{C:List Ins}
def last{ops:List Ins}{o:Ins}(hA:Agr C (ops++[o]) ops.length []):C[ops.length]?=some o:=by
 rw[hA ops.length (xAA _) (by simp) (by simp)];simp
end
end Go.Say
end

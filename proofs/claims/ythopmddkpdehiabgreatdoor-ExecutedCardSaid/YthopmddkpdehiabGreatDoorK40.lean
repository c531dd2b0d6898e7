/-
  What the proof stands on, part 40: the logic of walks, the walks through the functions, the plain laws. Conditions: as each theorem says. (Merged and shortened by a program.)
-/
import Derived.Test.YthopmddkpdehiabGreatDoorK10
import Derived.Test.YthopmddkpdehiabGreatDoorK39
set_option linter.unusedVariables false
set_option linter.unusedSimpArgs false
set_option linter.defProp false
set_option maxRecDepth 4000
set_option maxHeartbeats 1000000
section
namespace Go.Say
open Go.Syn Go.Mach Go.SL Go.Proofs
def mat_V{nm:Bool}{m:Msg}{o:Ins}{c:Co}:mat nm m o c=matV nm o.tag o.oct (jA (dH nm c.vars c.parts) m o) o.b c:=rfl
end Go.Say
end
section
namespace Go.Say
open Go.Syn Go.Mach Go.Cmp
def asksV(nm:Bool)(m:Msg)(o:Ins)(c:Co):Bool×Co:=
 if o.op=9 then (mE m (o.a.map (dH nm c.vars c.parts)),c)
 else if o.op=10 then (if o.tag=1 then decide (o.n < m.size)else decide (m.size < o.n),c)
 else mat nm m o c
section
variable{nm:Bool}{m:Msg}{o:Ins}{c:Co}{stk:List Bool}{pc n:Nat}
def tA{b:Bool}(h:stk.length < 8):Mach.push (c.mx stk pc) b=.ok (c.mx (stk++[b]) pc):=x7 h
def aHB{by_:Int}{yes:Bool}(h:0≤by_∧by_≤(n:Int) - pc - 1):Mach.jump (c.mx stk pc) by_ n yes=.ok (c.mx stk (if yes=true then pc+by_.toNat else pc)):=by
 unfold Mach.jump;rw[x7 (by show 0≤by_∧by_ < (n:Int) - pc;omega)];cases yes <;> rfl
def getLast_of{b:Bool}(h:stk[stk.length - 1]?=some b):stk.getLast?=some b:=by rw[List.getLast?_eq_getElem?];exact h
def step_one(h:o.op=1)(hn:(o.n=0∨o.n=1)∧stk.length < 8):Mach.step nm m n o (c.mx stk pc)=.ok (c.mx (stk++[decide (o.n=1)]) pc):=by
 unfold Mach.step;rw[x7 h,x7 hn.1,tA hn.2]
def step_two{b:Bool}(h:o.op=2)(hl:stk.getLast?=some b)(h8:stk.length≤8):Mach.step nm m n o (c.mx stk pc)=.ok (c.mx (stk.dropLast++[!b]) pc):=by
 have h0:0 < stk.length:=by cases stk with|nil=>cases hl|cons x l=>simp
 unfold Mach.step;rw[x5 aH,x7 h,aFS hl]
 exact tA (by rw[List.length_dropLast];omega)
def step_jmp(h:o.op=3)(hn:0≤o.n∧o.n≤(n:Int) - pc - 1):Mach.step nm m n o (c.mx stk pc)=.ok (c.mx stk (pc+o.n.toNat)):=by
 unfold Mach.step;rw[x5 aH,x5 aH,x7 h,aHB hn];rfl
def step_if{b:Bool}(h:o.op=4∨o.op=5)(hl:stk.getLast?=some b)(hn:0≤o.n∧o.n≤(n:Int) - pc - 1):Mach.step nm m n o (c.mx stk pc)=.ok (c.mx stk.dropLast (if b=decide (o.op=4)then pc+o.n.toNat else pc)):=by
 unfold Mach.step;rw[x5 aH,x5 aH,x5 aH]
 rcases h with h|h
 ·rw[x7 h,aFS hl,xAM h];exact aHB hn
 rw[x5 aH,x7 h,aFS hl,xAJ aH];refine(aHB hn).trans ?_;cases b <;> rfl
def step_ask(h:6≤o.op∧o.op≤10)(ht:o.op≤8→1≤o.tag∧o.tag≤3)(h10:o.op=10→o.tag=1∨o.tag=2)(h8:stk.length < 8):Mach.step nm m n o (c.mx stk pc)=.ok ((asksV nm m o c).2.mx (stk++[(asksV nm m o c).1]) pc):=by
 unfold Mach.step;rw[x5 aH,x5 aH,x5 aH,x5 aH,x5 aH]
 by_cases h6:o.op=6∨o.op=7∨o.op=8
 ·rw[x7 h6];have e:asksV nm m o c=mat nm m o c:=by unfold asksV;rw[x5 aH,x5 aH]
  rw[e];have ht:=ht aH;unfold matchI;rw[x7 (show 1≤o.tag∧o.tag≤3∧(c.mx stk pc).stack.length < 8 from ⟨ht.1,ht.2,h8⟩)];unfold mat matR
  show (match iZ o (jA (dH nm c.vars c.parts) m o) (o.b.map (dH nm c.vars c.parts))with|some ps=>Mach.push (if o.tag=3∧nm=true then {(c.mx stk pc)with parts:=ps}else c.mx stk pc) true|none=>Mach.push (c.mx stk pc) false)=_
  cases iZ o (jA (dH nm c.vars c.parts) m o) (o.b.map (dH nm c.vars c.parts))with
  |none=>exact tA h8
  |some ps=>
   by_cases hq:o.tag=3∧nm=true
   ·simp only[if_pos hq];exact tA (c:={c with parts:=ps}) h8
   simp only[if_neg hq];exact tA h8
 rw[x5 h6]
 by_cases h9:o.op=9
 ·rw[x7 h9];unfold asksV;rw[x7 h9];exact tA h8
 rw[x5 h9,x7 aH];have hx:=h10 aH;rw[x7 hx];unfold asksV;rw[x5 h9,x7 aH];refine(tA h8).trans ?_;rcases hx with hx|hx
 ·simp[hx]
 simp[hx]
def step_dis(h:o.op=13):Mach.step nm m n o (c.mx stk pc)=.ok (({c with keep:=false}:Co).mx stk pc):=by
 unfold Mach.step;rw[x5 aH,x5 aH,x5 aH,x5 aH,x5 aH,x5 aH,x5 aH,x5 aH,x5 aH,x5 aH,x7 h];rfl
end
section
variable{o:Ins}{pc n d:Int}
def snd_1(hs:snd o pc n d=true)(h:o.op=1):(o.n=0∨o.n=1)∧d < 8:=by
 unfold snd at hs;rw[x7 h]at hs;exact xAH hs
def snd_2(hs:snd o pc n d=true)(h:o.op=2):0 < d:=by
 unfold snd at hs;rw[x5 aH,x7 h]at hs;exact xAH hs
def snd_3(hs:snd o pc n d=true)(h:o.op=3):0≤o.n∧o.n≤n - pc - 1:=by
 unfold snd at hs;rw[x5 aH,x5 aH,x7 h]at hs;exact xAH hs
def snd_4(hs:snd o pc n d=true)(h:o.op=4∨o.op=5):(0 < d∧0≤o.n)∧o.n≤n - pc - 1:=by
 unfold snd at hs;rw[x5 aH,x5 aH,x5 aH,x7 h]at hs;exact xAH hs
def snd_6(hs:snd o pc n d=true)(h:6≤o.op∧o.op≤10):(o.op≤8→1≤o.tag∧o.tag≤3)∧(o.op=10→o.tag=1∨o.tag=2)∧d < 8:=by
 unfold snd at hs;rw[x5 aH,x5 aH,x5 aH,x5 aH]at hs
 split at hs
 ·have:=xAH hs;exact⟨fun _=>this.1,by omega,this.2⟩
 split at hs
 ·have:=xAH hs;exact⟨by omega,by omega,this⟩
 split at hs
 ·have:=xAH hs;exact⟨by omega,fun _=>this.1,this.2⟩
 omega
def snd_11(hs:snd o pc n d=true)(h:o.op=11):o.tag=1∨(2≤o.tag∧o.tag≤4)∧0 < o.a.length:=by
 unfold snd at hs;rw[x5 aH,x5 aH,x5 aH,x5 aH,x5 aH,x5 aH,x5 aH,x7 h]at hs;exact xAH hs
def snd_12(hs:snd o pc n d=true)(h:o.op=12):((0≤o.tag∧o.tag≤3)∧0 < o.a.length)∧0 < o.b.length:=by
 unfold snd at hs;rw[x5 aH,x5 aH,x5 aH,x5 aH,x5 aH,x5 aH,x5 aH,x5 aH,x7 h]at hs;exact xAH hs
def snd_13(hs:snd o pc n d=true)(h:¬(1≤o.op∧o.op≤12)):o.op=13∨o.op=14:=by
 unfold snd at hs;rw[x5 aH,x5 aH,x5 aH,x5 aH,x5 aH,x5 aH,x5 aH,x5 aH,x5 aH]at hs;exact xAH hs
def set_last{l:List Bool}{x b:Bool}(h:l[l.length - 1]?=some x):l.set (l.length - 1) b=l.dropLast++[b]:=by
 have hl:l≠[]:=by rintro rfl;cases h
 obtain⟨l',y,rfl⟩:∃l' y,l=l'++[y]:=⟨l.dropLast,l.getLast hl,(List.dropLast_concat_getLast hl).symm⟩;rw[List.dropLast_concat,xAF,xA6,Nat.add_sub_cancel,List.set_append_right _ _ (xAA _),Nat.sub_self]
 rfl
def cmd_act0{nm:Bool}{m:Msg}{k p:Int}{x:aP}{c:Co}:cmd nm m (.act k (if k=1 then []else x) p) c=cmd nm m (.act k x p) c:=by
 by_cases h:k=1
 ·subst h;rfl
 rw[x5 h]
end
end Go.Say
end
section
attribute [local irreducible] Go.SL.T Go.SL.OL Go.SL.D Go.SL.DL Go.SL.Ev Go.SL.Ef Go.SL.EfS
namespace Go.Proofs
open Go Go.SL Go.Syn Go.Mach
open Go.Say (Co)
open Go.Cmp (cnt)
def aQV(o:Go.Mach.Ins)(va vb:Value)(pc n d:Int)(hp:0≤pc∧pc≤n)(hn:n≤1000000)(K:Hl)(hva:Ksl (a7 9) K va o.a)(hvb:Ksl (a7 9) K vb o.b):Sp x3 35 [.agg #[i64 o.op,i64 o.n,i64 o.tag,.bool o.oct,va,vb,i64 o.at_],i64 pc,i64 n,i64 d] K [] (Val (.bool (Say.snd o pc n d)) K):=by
 refine bN Tryz.func35 Y Tryz.ntmps35 Y Y fun F w=>?_;refine zz3 ?_;rintro _ K _ ⟨b4,rfl,rfl,rfl⟩ -;refine zz17 ?_;refine aY 11 Y (fun h11=>?_) (fun h11=>?_)
 ·refine zz6 ?_;refine bV 16 Y (fun g16=>?_) (fun g16=>?_)
  ·refine zz16 ?_;refine uAf ?_;refine zz1 ?_;refine⟨xAE (fun b=>Ending.returned (Value.bool b)) ?_,Y,Y⟩
   first|(simp_all[Say.snd];done)|(simp_all[Say.snd];omega)
  refine zz8 ?_;refine bV 21 Y (fun g21=>?_) (fun g21=>?_)
  ·refine zz11 ?_;refine uAf ?_;refine zz1 ?_;refine⟨xAE (fun b=>Ending.returned (Value.bool b)) ?_,Y,Y⟩
   first|(simp_all[Say.snd];done)|(simp_all[Say.snd];omega)
  refine zz9 ?_;refine uAf ?_;refine zz1 ?_;refine⟨xAE (fun b=>Ending.returned (Value.bool b)) ?_,Y,Y⟩
  first|(simp_all[Say.snd];done)|(simp_all[Say.snd];omega)
 refine zz6 ?_;refine aY 25 Y (fun h25=>?_) (fun h25=>?_)
 ·refine zz10 ?_;refine uAf ?_;refine zz1 ?_;refine⟨xAE (fun b=>Ending.returned (Value.bool b)) ?_,Y,Y⟩
  first|(simp_all[Say.snd];done)|(simp_all[Say.snd];omega)
 refine zz6 ?_;refine aY 29 Y (fun h29=>?_) (fun h29=>?_)
 ·refine zz6 ?_;refine bV 34 Y (fun g34=>?_) (fun g34=>?_)
  ·refine zz21 ?_;refine uAf ?_;refine zz1 ?_;refine⟨xAE (fun b=>Ending.returned (Value.bool b)) ?_,Y,Y⟩
   first|(simp_all[Say.snd];done)|(simp_all[Say.snd];omega)
  refine zz14 ?_;refine uAf ?_;refine zz1 ?_;refine⟨xAE (fun b=>Ending.returned (Value.bool b)) ?_,Y,Y⟩
  first|(simp_all[Say.snd];done)|(simp_all[Say.snd];omega)
 refine zz7 ?_;refine aY 43 Y (fun h43=>?_) (fun h43=>?_)
 ·refine zz8 ?_;refine bV 48 Y (fun g48=>?_) (fun g48=>?_)
  ·refine zz8 ?_;refine bV 53 Y (fun g53=>?_) (fun g53=>?_)
   ·refine zz21 ?_;refine uAf ?_;refine zz1 ?_;refine⟨xAE (fun b=>Ending.returned (Value.bool b)) ?_,Y,Y⟩
    first|(simp_all[Say.snd];done)|(simp_all[Say.snd];omega)
   refine zz14 ?_;refine uAf ?_;refine zz1 ?_;refine⟨xAE (fun b=>Ending.returned (Value.bool b)) ?_,Y,Y⟩
   first|(simp_all[Say.snd];done)|(simp_all[Say.snd];omega)
  refine zz19 ?_;refine uAf ?_;refine zz1 ?_;refine⟨xAE (fun b=>Ending.returned (Value.bool b)) ?_,Y,Y⟩
  first|(simp_all[Say.snd];done)|(simp_all[Say.snd];omega)
 refine zz5 ?_;refine aY 43 Y (fun h43=>?_) (fun h43=>?_)
 ·refine zz5 ?_;refine bV 48 Y (fun g48=>?_) (fun g48=>?_)
  ·refine zz8 ?_;refine bV 53 Y (fun g53=>?_) (fun g53=>?_)
   ·refine zz21 ?_;refine uAf ?_;refine zz1 ?_;refine⟨xAE (fun b=>Ending.returned (Value.bool b)) ?_,Y,Y⟩
    first|(simp_all[Say.snd];done)|(simp_all[Say.snd];omega)
   refine zz14 ?_;refine uAf ?_;refine zz1 ?_;refine⟨xAE (fun b=>Ending.returned (Value.bool b)) ?_,Y,Y⟩
   first|(simp_all[Say.snd];done)|(simp_all[Say.snd];omega)
  refine zz19 ?_;refine uAf ?_;refine zz1 ?_;refine⟨xAE (fun b=>Ending.returned (Value.bool b)) ?_,Y,Y⟩
  first|(simp_all[Say.snd];done)|(simp_all[Say.snd];omega)
 refine zz7 ?_;refine aY 62 Y (fun h62=>?_) (fun h62=>?_)
 ·refine zz9 ?_;refine bV 69 Y (fun g69=>?_) (fun g69=>?_)
  ·refine zz8 ?_;refine bV 74 Y (fun g74=>?_) (fun g74=>?_)
   ·refine zz11 ?_;refine uAf ?_;refine zz1 ?_;refine⟨xAE (fun b=>Ending.returned (Value.bool b)) ?_,Y,Y⟩
    first|(simp_all[Say.snd];done)|(simp_all[Say.snd];omega)
   refine zz9 ?_;refine uAf ?_;refine zz1 ?_;refine⟨xAE (fun b=>Ending.returned (Value.bool b)) ?_,Y,Y⟩
   first|(simp_all[Say.snd];done)|(simp_all[Say.snd];omega)
  refine zz14 ?_;refine uAf ?_;refine zz1 ?_;refine⟨xAE (fun b=>Ending.returned (Value.bool b)) ?_,Y,Y⟩
  first|(simp_all[Say.snd];done)|(simp_all[Say.snd];omega)
 refine zz6 ?_;refine aY 62 Y (fun h62=>?_) (fun h62=>?_)
 ·refine zz9 ?_;refine bV 69 Y (fun g69=>?_) (fun g69=>?_)
  ·refine zz8 ?_;refine bV 74 Y (fun g74=>?_) (fun g74=>?_)
   ·refine zz11 ?_;refine uAf ?_;refine zz1 ?_;refine⟨xAE (fun b=>Ending.returned (Value.bool b)) ?_,Y,Y⟩
    first|(simp_all[Say.snd];done)|(simp_all[Say.snd];omega)
   refine zz9 ?_;refine uAf ?_;refine zz1 ?_;refine⟨xAE (fun b=>Ending.returned (Value.bool b)) ?_,Y,Y⟩
   first|(simp_all[Say.snd];done)|(simp_all[Say.snd];omega)
  refine zz14 ?_;refine uAf ?_;refine zz1 ?_;refine⟨xAE (fun b=>Ending.returned (Value.bool b)) ?_,Y,Y⟩
  first|(simp_all[Say.snd];done)|(simp_all[Say.snd];omega)
 refine zz5 ?_;refine aY 62 Y (fun h62=>?_) (fun h62=>?_)
 ·refine zz6 ?_;refine bV 69 Y (fun g69=>?_) (fun g69=>?_)
  ·refine zz8 ?_;refine bV 74 Y (fun g74=>?_) (fun g74=>?_)
   ·refine zz11 ?_;refine uAf ?_;refine zz1 ?_;refine⟨xAE (fun b=>Ending.returned (Value.bool b)) ?_,Y,Y⟩
    first|(simp_all[Say.snd];done)|(simp_all[Say.snd];omega)
   refine zz9 ?_;refine uAf ?_;refine zz1 ?_;refine⟨xAE (fun b=>Ending.returned (Value.bool b)) ?_,Y,Y⟩
   first|(simp_all[Say.snd];done)|(simp_all[Say.snd];omega)
  refine zz14 ?_;refine uAf ?_;refine zz1 ?_;refine⟨xAE (fun b=>Ending.returned (Value.bool b)) ?_,Y,Y⟩
  first|(simp_all[Say.snd];done)|(simp_all[Say.snd];omega)
 refine zz6 ?_;refine aY 78 Y (fun h78=>?_) (fun h78=>?_)
 ·refine zz10 ?_;refine uAf ?_;refine zz1 ?_;refine⟨xAE (fun b=>Ending.returned (Value.bool b)) ?_,Y,Y⟩
  first|(simp_all[Say.snd];done)|(simp_all[Say.snd];omega)
 refine zz6 ?_;refine aY 82 Y (fun h82=>?_) (fun h82=>?_)
 ·refine zz6 ?_;refine bV 87 Y (fun g87=>?_) (fun g87=>?_)
  ·refine zz16 ?_;refine uAf ?_;refine zz1 ?_;refine⟨xAE (fun b=>Ending.returned (Value.bool b)) ?_,Y,Y⟩
   first|(simp_all[Say.snd];done)|(simp_all[Say.snd];omega)
  refine zz8 ?_;refine bV 92 Y (fun g92=>?_) (fun g92=>?_)
  ·refine zz11 ?_;refine uAf ?_;refine zz1 ?_;refine⟨xAE (fun b=>Ending.returned (Value.bool b)) ?_,Y,Y⟩
   first|(simp_all[Say.snd];done)|(simp_all[Say.snd];omega)
  refine zz9 ?_;refine uAf ?_;refine zz1 ?_;refine⟨xAE (fun b=>Ending.returned (Value.bool b)) ?_,Y,Y⟩
  first|(simp_all[Say.snd];done)|(simp_all[Say.snd];omega)
 refine zz6 ?_;refine aY 96 Y (fun h96=>?_) (fun h96=>?_)
 ·refine zz6 ?_;refine bV 101 Y (fun g101=>?_) (fun g101=>?_)
  ·refine zz21 ?_;refine uAf ?_;refine zz1 ?_;refine⟨xAE (fun b=>Ending.returned (Value.bool b)) ?_,Y,Y⟩
   first|(simp_all[Say.snd];done)|(simp_all[Say.snd];omega)
  refine zz8 ?_;refine bV 105 Y (fun g105=>?_) (fun g105=>?_)
  ·refine zz10 ?_;refine bV 110 Y (fun g110=>?_) (fun g110=>?_)
   ·refine zz5 ?_;refine uAc ?_;refine zz11 ?_;refine uAf ?_;refine zz1 ?_;refine⟨xAE (fun b=>Ending.returned (Value.bool b)) ?_,Y,Y⟩
    first|(simp_all[Say.snd];done)|(simp_all[Say.snd];omega)
   refine zz13 ?_;refine uAf ?_;refine zz1 ?_;refine⟨xAE (fun b=>Ending.returned (Value.bool b)) ?_,Y,Y⟩
   first|(simp_all[Say.snd];done)|(simp_all[Say.snd];omega)
  refine zz20 ?_;refine uAf ?_;refine zz1 ?_;refine⟨xAE (fun b=>Ending.returned (Value.bool b)) ?_,Y,Y⟩
  first|(simp_all[Say.snd];done)|(simp_all[Say.snd];omega)
 refine zz6 ?_;refine aY 117 Y (fun h117=>?_) (fun h117=>?_)
 ·refine zz6 ?_;refine bV 122 Y (fun g122=>?_) (fun g122=>?_)
  ·refine zz8 ?_;refine bV 127 Y (fun g127=>?_) (fun g127=>?_)
   ·refine zz5 ?_;refine uAc ?_;refine zz4 ?_;refine bV 133 Y (fun g133=>?_) (fun g133=>?_)
    ·refine zz5 ?_;refine uAc ?_;refine zz9 ?_;refine uAf ?_;refine zz1 ?_;refine⟨xAE (fun b=>Ending.returned (Value.bool b)) ?_,Y,Y⟩
     first|(simp_all[Say.snd];done)|(simp_all[Say.snd];omega)
    refine zz11 ?_;refine uAf ?_;refine zz1 ?_;refine⟨xAE (fun b=>Ending.returned (Value.bool b)) ?_,Y,Y⟩
    first|(simp_all[Say.snd];done)|(simp_all[Say.snd];omega)
   refine zz17 ?_;refine uAf ?_;refine zz1 ?_;refine⟨xAE (fun b=>Ending.returned (Value.bool b)) ?_,Y,Y⟩
   first|(simp_all[Say.snd];done)|(simp_all[Say.snd];omega)
  refine zz22 ?_;refine uAf ?_;refine zz1 ?_;refine⟨xAE (fun b=>Ending.returned (Value.bool b)) ?_,Y,Y⟩
  first|(simp_all[Say.snd];done)|(simp_all[Say.snd];omega)
 refine zz7 ?_;refine aY 139 Y (fun h139=>?_) (fun h139=>?_)
 ·refine zz11 ?_;refine uAf ?_;refine zz1 ?_;refine⟨xAE (fun b=>Ending.returned (Value.bool b)) ?_,Y,Y⟩
  first|(simp_all[Say.snd];done)|(simp_all[Say.snd];omega)
 refine zz5 ?_;refine aY 139 Y (fun h139=>?_) (fun h139=>?_)
 ·refine zz8 ?_;refine uAf ?_;refine zz1 ?_;refine⟨xAE (fun b=>Ending.returned (Value.bool b)) ?_,Y,Y⟩
  first|(simp_all[Say.snd];done)|(simp_all[Say.snd];omega)
 refine zz9 ?_;refine uAf ?_;refine zz1 ?_;refine⟨xAE (fun b=>Ending.returned (Value.bool b)) ?_,Y,Y⟩
 first|(simp_all[Say.snd];done)|(simp_all[Say.snd];omega)
def aT6(sb:Nat)(m:Msg)(hv:Value)(nm:Bool)(c:Co)(hc:CInv c)(hm:MsgOk m)(o:Go.Mach.Ins)(ho:InsOk o)(hr:6≤o.op∧o.op≤10)(ht:o.op≤8→1≤o.tag∧o.tag≤3)(va vb:Value)(hf:o.op=9→lB va)(K:Hl)(hva:Ksl (a7 9) K va o.a)(hvb:Ksl (a7 9) K vb o.b)(hh:Ksl hdEl K hv m.hs):Sp x3 36 [ptr sb,.agg #[i64 o.op,i64 o.n,i64 o.tag,.bool o.oct,va,vb,i64 o.at_]] K [stq sb m hv nm c false 0 0] (Ret fun v K' L'=>v=.bool (Say.asksV nm m o c).1∧K'=K∧CInv (Say.asksV nm m o c).2∧(Say.asksV nm m o c).2.vars=c.vars∧L'=[stq sb m hv nm (Say.asksV nm m o c).2 false 0 0]):=by
 have hmn:=hm.hn;have hoan:=ho.an;refine bN Tryz.func36 Y Tryz.ntmps36 Y Y fun F w=>?_;refine zz3 ?_;rintro _ K _ ⟨b3,rfl,rfl,rfl⟩ -;refine zz17 ?_;refine aY 12 Y (fun h12=>?_) (fun h12=>?_)
 ·have hop:=h12;have hml:=tQ (N:=1000) (nm:=nm) (c:=c) hm (names:=o.a);refine zz5 ?_;refine bA Y Y (wI sb m hv nm c false 0 0 hc hm o.a va ho.an ho.a _ hva hh) bS Y ?_;rintro v17 K _ ⟨rfl,rfl⟩ -;refine zz13 ?_;refine bA Y Y (mZ sb m hv nm c hc v17 vb (j7 nm m c o.a) o.b o.tag o.oct (ht aH) aH ho.bn (vX hm) ho.b _ hvb) bS Y ?_;rintro _ K _ ⟨rfl,rfl,rfl⟩ -;refine zz6 ?_;refine uAa ?_;refine zz1 ?_;have e:Say.asksV nm m o c=Say.matV nm o.tag o.oct (j7 nm m c o.a) o.b c:=by simp only[Say.asksV,hop];rw[x5 aH,x5 aH,Say.mat_V];exact xAE (fun z=>Say.matV nm o.tag o.oct z o.b c) (by simp[jA,hop,j7])
  exact⟨_,Y,by rw[e],rfl,by rw[e];exact hc.matV (vX hm),by rw[e];exact sJ,by rw[e]⟩
 refine zz6 ?_;refine aY 27 Y (fun h27=>?_) (fun h27=>?_)
 ·have hop:=h27;have hel:=aGN (m:=m) (names:=o.a);refine zz5 ?_;refine bA Y Y (aE3 sb m hv nm c false 0 0 o.a va ho.an ho.a _ hva) bS Y ?_;rintro v32 K _ ⟨rfl,rfl⟩ -;refine zz13 ?_;refine bA Y Y (mZ sb m hv nm c hc v32 vb (o.a.flatMap (jL m)) o.b o.tag o.oct (ht aH) aH ho.bn (aFO hm) ho.b _ hvb) bS Y ?_;rintro _ K _ ⟨rfl,rfl,rfl⟩ -;refine zz6 ?_;refine uAa ?_;refine zz1 ?_;have e:Say.asksV nm m o c=Say.matV nm o.tag o.oct (o.a.flatMap (jL m)) o.b c:=by simp only[Say.asksV,hop];rw[x5 aH,x5 aH,Say.mat_V];exact xAE (fun z=>Say.matV nm o.tag o.oct z o.b c) (by simp[jA,hop,j7])
  exact⟨_,Y,by rw[e],rfl,by rw[e];exact hc.matV (aFO hm),by rw[e];exact sJ,by rw[e]⟩
 refine zz6 ?_;refine aY 42 Y (fun h42=>?_) (fun h42=>?_)
 ·have hop:=h42;have hfit:=hf h42;refine zz5 ?_;refine bA Y Y (aCO sb m hv nm c false 0 0 hc hm o.a va hfit ho.an ho.a _ hva hh) bS Y ?_;rintro _ K _ ⟨rfl,rfl,rfl⟩ -;refine zz6 ?_;refine uAa ?_;refine zz1 ?_;exact⟨_,Y,by simp only[Say.asksV,hop];rfl,rfl,by simp only[Say.asksV,hop];exact hc,by simp only[Say.asksV,hop];rfl,by simp only[Say.asksV,hop];rfl⟩
 refine zz6 ?_;refine aY 48 Y (fun h48=>?_) (fun h48=>?_)
 ·have hop:=h48;refine mV (aM cI (aM bW bF)) ?_;refine rT fun nv vv cv av2=>?_;refine aI ?_;refine cZ (anc:=[0,1,3,7,15,0,32,0,128,511,1023]) (ord:=[0,1,2,3,4,5,6,7,8,9,10]) [9] [] mixed gC5 (cQ _) (zz9 ?_);refine iL Y (.none Y) Y Y Y Y (aE4 m.size o.n o.tag _) Y (zz6 ?_);refine cS (eO (m:=m) (c:=c)) ?_;refine uAa ?_;refine zz1 ?_;exact⟨_,Y,by simp only[Say.asksV,hop];rfl,rfl,by simp only[Say.asksV,hop];exact hc,by simp only[Say.asksV,hop];rfl,by simp only[Say.asksV,hop];rfl⟩
 have hop:o.op=8:=by omega
 refine zz15 ?_;refine iR (fun(i:Nat) (sv:Value)=>i≤o.a.length) (fun i sv=>[(0,ptr sb),(3,ptr b3),(7,sv),(8,i64 i)]) (fun _ _=>K) (fun i sv=>[sl false (a7 9) sv ((o.a.take i).map (dH nm c.vars c.parts)),stq sb m hv nm c false 0 0,pt b3 (bL [i64 o.op,i64 o.n,i64 o.tag,.bool o.oct,va,vb,i64 o.at_] 45)]) (fun i _=>o.a.length - i) 0 (.slice none 0 0) (x9 _) aS Y (fun h hh=>fF (Tks.sat (show Tks [stq sb m hv nm c false 0 0,pt b3 (bL [i64 o.op,i64 o.n,i64 o.tag,.bool o.oct,va,vb,i64 o.at_] 45)] _ _ from (aM cI (aM bW bF))) h hh)) ?_;intro i sv hi0;refine zz6 ?_;refine aA (bU (k:=a7 9) Y Tryz.underlying43 Y (.known hva)) Y (zz3 ?_);refine aY 64 Y (fun h64=>?_) (fun h64=>?_)
 ·have hil:i < o.a.length:=by omega
  obtain⟨x,hx⟩:∃x,o.a[i]?=some x:=⟨o.a[i]'hil,x4 hil⟩;have hxl:=ho.a x (x8 hx);refine zz10 ?_;refine aA (aX (k:=a7 9) (j:=i) cB Y (.known hva) Y Y hil) Y ?_;refine aA (cE (o:=0) (k:=a7 9) ts9 Y (.known hva) hx Y) Y ?_;refine bA Y Y (aKP sb m hv nm c false 0 0 hc x hxl _) bS Y ?_;rintro _ K _ ⟨rfl,rfl,rfl⟩ -;refine zz6 ?_;refine cJ (bM (z0:=[(str [])]) cB tz9 Y Y Y Y dF) Y ?_;rintro _ K _ ⟨b76,rfl,rfl,rfl⟩ -;refine cJ (dQ (k:=(a7 9)) (ys:=[dH nm c.vars c.parts x]) eI Y Y (.there (.there .here)) (fun w j=>dJ Tryz.underlying43 (SeesSl.at (.blk aL Y Y) j)) gC7 gC7) Y ?_;rintro v77 K _ ⟨rfl,rfl,ho77⟩ -;refine zz9 ?_;refine uAy ?_;exact cW (i+1) _ aH aH aS Y (fun _ h=>by rw[show (o.a.take (i+1)).map (dH nm c.vars c.parts)=(o.a.take i).map (dH nm c.vars c.parts)++[dH nm c.vars c.parts x]from by rw[xAX,hx];simp];exact h)
 rw[xAI aH];refine zz15 ?_;refine bA Y Y (mZ sb m hv nm c hc sv vb (o.a.map (dH nm c.vars c.parts)) o.b o.tag o.oct (ht aH) (by rw[xAS];omega) ho.bn (fun y hy=>by obtain⟨z,hz,rfl⟩:=xBF.1 hy;exact gX (ho.a z hz)) ho.b _ hvb) bS Y ?_;rintro _ K _ ⟨rfl,rfl,rfl⟩ -;refine zz4 ?_;refine uAa ?_;refine zz1 ?_;have e:Say.asksV nm m o c=Say.matV nm o.tag o.oct (o.a.map (dH nm c.vars c.parts)) o.b c:=by simp only[Say.asksV,hop];rw[x5 aH,x5 aH,Say.mat_V];exact xAE (fun z=>Say.matV nm o.tag o.oct z o.b c) (by simp[jA,hop,j7])
 exact⟨_,Y,by rw[e],rfl,by rw[e];exact hc.matV (fun y hy=>by obtain⟨z,hz,rfl⟩:=xBF.1 hy;exact gX (ho.a z hz)),by rw[e];exact sJ,by rw[e]⟩
end Go.Proofs
end
section
attribute [local irreducible] Go.SL.T Go.SL.OL Go.SL.D Go.SL.DL Go.SL.Ev Go.SL.Ef Go.SL.EfS
namespace Go.Proofs
open Go Go.SL Go.Syn Go.Mach
open Go.Say (Co ExI XInv XEnd XAt)
open Go.Cmp (cnt cT RIs InsV)
def aTO{P:Program}{fn:Func}{t1 t2:Tmp}{T1:TypeId}(h:fn.results= #[.cell t1 T1,.tmp t2])(tmps:Array Value)(w:World){a1:Addr}{v1 v2:Value}(e1:tmps.getD t1 undef=.pointer (some a1))(e2:tmps.getD t2 undef=v2)(l1:(loadVar T1 a1).run P w=.ok v1 w):(results fn tmps).run P w=.ok (.tuple #[v1,v2]) w:=by
 have e1:tmps[t1]?.getD undef=.pointer (some a1):=by simpa using e1
 have e2:tmps[t2]?.getD undef=v2:=by simpa using e2
 simp[results,h,e1,e2,asAddr,Sem.run_bind,Result.andThen,l1]
attribute [local semireducible] Go.SL.T Go.SL.OL Go.SL.D Go.SL.DL Go.SL.Ev Go.SL.Ef Go.SL.EfS in
def aAF{P:Program}{fn:Func}{n:Nat}{w0:World}{F K0 K:Hl}{fr:Fr}{L L1 M:List Asn}{R:Ending→Hl→List Asn→Prop}{t t2 b m:Nat}{T u:TypeId}{l vs:List Value}{fz:Nat×Nat}{v2:Value}
  (hr:fn.results= #[.cell t T,.tmp t2]) (hx:fr.get t=some (ptr b)) (hx2:fr.get t2=some v2) (hT:aggB P T m=true) (hs:Sees K L b (bL l u fz)) (hv:l.take m=vs) (hn:vs.length=m) (le:K0.le K) (hL:Tks L1 L M) (h:R (.returned (.tuple #[.agg vs.toArray,v2])) K L1):
  D ⟨P,n,[],w0,F⟩ .ret fr K L (wO P fn w0 F K0 R):=fun a w f i=>by
 refine⟨f.defers,.tuple #[.agg vs.toArray,v2],?_,K,L1,h,le,(i.imp hL.sat).left⟩
 refine aTO hr _ _ (a1:=⟨b,0,none⟩) (by simp[f.get _ _ hx]) (by simp[f.get _ _ hx2]) ?_;obtain⟨h1,h2⟩:=aBD hT w;unfold loadVar;rw[bJ h1];simp only[if_true];rw[bJ h2];have:=l8 (P:=P) (hs.at i) m vs 0 0 [] (by simpa using hv) hn;simp only[List.nil_append]at this;unfold loadCells;rw[bJ this];rfl
section
variable{nm:Bool}{m:Msg}{code:List Mach.Ins}{c:Co}{stk:List Bool}{pc st:Nat}{en:Bool}{e p:Int}
def aWZ(h:¬400 < code.length):XInv nm m code ⟨Say.start,[],0,0,false,0,0⟩:=⟨x9 _,xAA _,x9 _,.inl ⟨rfl,rfl,rfl,aKV,xAA _,code.length,by show _≤code.length+0;omega,by unfold Mach.run;rw[x5 h];rfl⟩⟩
def bHL(h:400 < code.length):XInv nm m code ⟨Say.start,[],0,0,true,12,400⟩:=⟨x9 _,xAA _,x9 _,.inr ⟨rfl,.error (12,400),⟨rfl,rfl,rfl⟩,(fun y hy=>by cases hy;decide),(fun x hx=>by cases hx),by unfold Mach.run;rw[x7 h];rfl⟩⟩
def aVA(h:XInv nm m code ⟨c,stk,pc,st,en,e,p⟩)(hp:¬pc < code.length):XEnd nm m code c st en e p:=by
 obtain⟨h1,h2,h3,h4⟩:=h;rcases h4 with ⟨rfl,rfl,rfl,hc,hv,f,hf,hr⟩|⟨rfl,h⟩
 ·have hp2:pc=code.length:=by have h3:pc≤code.length:=h3;omega
  refine⟨.ok (false,c),⟨Y,Y,Y,Y⟩,(fun y hy=>by cases hy),(fun x hx=>by cases hx;exact hc),?_⟩
  rw[hr]
  show Mach.loop nm m code (f+1) st (c.mx stk pc)=_
  rw[Mach.loop,show (c.mx stk pc).pc=pc from rfl,xAD aH]
  rfl
 exact h
def bNV(h:XInv nm m code ⟨c,stk,pc,st,en,e,p⟩)(he:en=true):XEnd nm m code c st en e p:=by
 rcases h.2.2.2 with h|h
 ·exact absurd (he.symm.trans h.1) (by decide)
 subst he;exact h.2
end
def aH9(nm:Bool)(cv hv:Value)(vs:List InsV)(code:List Mach.Ins)(m:Msg)(K:Hl)(hcv:Ksl cT K cv vs)(hR:RIs K vs code)(hf:∀v∈vs,v.op=9→lB v.a.1)(hh:Ksl hdEl K hv m.hs)(hm:MsgOk m)(hc:∀o∈code,InsOk o)(hcl:code.length≤100000):
  Sp x3 17 [.bool nm,cv,.agg #[str m.from_,str m.to_,i64 m.size,hv]] K [] (Ret fun v K' L'=>∃av,(∃x n c,av=.slice x n c)∧v=.tuple #[OutV (Mach.run nm code m) av,i64 (Mach.run nm code m).steps]∧(∀y,(Mach.run nm code m).err=some y→y.1≠0)∧K'=K∧L'=[sl false dP av (Mach.run nm code m).acts]):=by
 have hlen:vs.length=code.length:=hR.length;obtain⟨ha,hn,hcp,rfl⟩:=hh.isSlice;refine bN Tryz.func17 Y Tryz.ntmps17 Y Y fun F w=>?_
 generalize hhv:Value.slice ha hn hcp=hv at*
 refine zz3 ?_;rintro _ K _ ⟨b5,rfl,rfl,rfl⟩ -;refine zz1 ?_;rintro _ K _ ⟨b6,rfl,rfl,rfl⟩ -;refine zz7 ?_;refine aA (dG bPI tb91f dF) Y (zz1 ?_);rintro _ K _ ⟨b21,rfl,rfl,rfl⟩ -;refine zz3 ?_;refine dX (fun(q:Bool×Int×Int)=>XInv nm m code ⟨Say.start,[],0,0,q.1,q.2.1,q.2.2⟩) (fun q=>[(0,.bool nm),(1,cv),(6,ptr b6),(8,ptr b21)]) (fun _=>K) (fun q=>[stq b21 m hv nm Say.start q.1 q.2.1 q.2.2,pt b6 (bL [.slice none 0 0,i64 0,i64 0] 54)]) ?_ ?_
 ·refine aI ?_;refine jJ (aKX (m:=m) (hv:=hv) (nm:=nm)) ?_;refine mV (aM bW (aM bW bF)) (zz2 ?_);refine aA (bU (k:=cT) Y Tryz.underlying36 Y aL) Y (zz3 ?_);refine aY 24 Y (fun h24=>?_) (fun h24=>?_)
  ·refine rT fun nv vv cv2 av=>?_;refine zz2 ?_;refine bA Y Y (qI b21 m hv nm nv vv cv2 av true false 0 12 400 _) bS Y ?_;rintro _ K _ ⟨rfl,rfl,rfl⟩ -;refine aG ?_
   first
    |exact a8 (true,12,400) (bHL aH) aS Y (fun h hh=>eO h hh)
    |exact a8 (false,0,0) (aWZ aH) aS Y (fun _ h=>h)
  refine aW ?_
  first
   |exact a8 (true,12,400) (bHL aH) aS Y (fun h hh=>eO h hh)
   |exact a8 (false,0,0) (aWZ aH) aS Y (fun _ h=>h)
 intro ⟨en0,e0,p0⟩ hX0;refine zz17 ?_;refine iR (fun(q:ExI) (sv:Value)=>XInv nm m code q) (fun q sv=>[(0,.bool nm),(1,cv),(6,ptr b6),(8,ptr b21),(9,sv),(10,i64 q.st),(11,i64 q.pc)]) (fun _ _=>K) (fun q sv=>[sl false eE sv q.stk,stq b21 m hv nm q.c q.en q.e q.p,pt b6 (bL [.slice none 0 0,i64 0,i64 0] 54)]) (fun q _=>if q.en=true then 0 else code.length+1 - q.pc) ⟨Say.start,[],0,0,en0,e0,p0⟩ (.slice none 0 0) hX0 aS Y (fun _ h=>fF h) ?_;intro ⟨c,stk,pc,st,en,e,p⟩ sv hX;dsimp only;have hpcN:pc≤code.length:=hX.2.2.1;have hstp:st≤pc:=hX.2.1;refine mV (aM cI (aM bW (aM bW bF))) ?_;refine rT fun nv vv cv2 av=>?_;refine zz5 ?_;refine aA (bU (k:=cT) Y Tryz.underlying36 Y aL) Y (zz2 ?_);refine bV 31 Y (fun g31=>?_) (fun g31=>?_)
 ·refine zz9 ?_;refine aA gC3 Y (zz3 ?_);refine d9 37 Y (fun h37=>?_) (fun h37=>?_)
  ·have hen:en=false:=by simpa using h37
   refine jJ (eO (m:=m) (c:=c)) ?_;refine mV (aM cI (aM bW (aM bW bF))) ?_;have h8:stk.length≤8:=hX.1;obtain⟨_,_,_,hX⟩:=hX;obtain⟨rfl,rfl,rfl,hci,hvn,hrun⟩:en=false∧e=0∧p=0∧CInv c∧c.vars.length≤st∧_:=(hX.resolve_right fun h=>absurd (hen.symm.trans h.1) (by decide));have hlt:pc < code.length:=by omega
   obtain⟨v,hvv⟩:∃v,vs[pc]?=some v:=⟨vs[pc]'(by omega),x4 aH⟩;obtain⟨o,ho,hro⟩:=hR.get hvv;obtain⟨vop,vn,vtag,voct,⟨va,hva⟩,⟨vb,hvb⟩,vat⟩:=v;obtain⟨rfl,rfl,rfl,rfl,rfl,hra,hrb⟩:=hro;dsimp only at hra hrb;have hfit:=hf _ (x8 hvv);obtain⟨sa,sn,sc,rfl⟩:=hra.isSlice;obtain⟨ta,tn,tc,rfl⟩:=hrb.isSlice;have hoo:=hc o (x8 ho);have hA:XAt nm m code c stk pc st o:=⟨hci,hvn,h8,hstp,ho,hrun⟩;refine zz7 ?_;refine aA (aX (k:=cT) eU Y aL Y Y gDB) Y ?_;refine aA (fA (n:=0) (k:=cT) iF Y aL b0) Y (zz1 ?_);rintro _ K _ ⟨b12,rfl,rfl,rfl⟩ -;refine cD (cX iF Y Y Y bR gC1 (.cons (.cons (.cons (.cons (.cons (.cons (.cons .nil))))))) gC8) ?_;rintro _ K _ ⟨rfl,rfl⟩ -;refine zz3 ?_;refine jJ (L':=[pt b12 (bL [i64 o.op,i64 o.n,i64 o.tag,.bool o.oct,.slice sa sn sc,.slice ta tn tc,i64 o.at_] 45),sl false eE sv stk,stq b21 m hv nm c false 0 0,pt b6 (bL [.slice none 0 0,i64 0,i64 0] 54)]) (fun _ h=>h) (zz16 ?_);refine aA (bU (k:=eE) Y Tryz.underlying93 Y aL) Y (zz9 ?_);refine aA (bU (k:=cT) Y Tryz.underlying36 Y aL) Y (zz2 ?_);refine cN Y Y (aQV o (.slice sa sn sc) (.slice ta tn tc) pc vs.length _ ⟨by omega,by omega⟩ aH _ hra hrb) Y (zz7 ?_);refine aA gC3 Y (zz2 ?_);refine d9 57 Y (fun h57=>?_) (fun h57=>?_)
   ·have hsn:Say.snd o pc code.length stk.length=false:=by rw[←hlen,←show (stk.length:Int) - 1+1=stk.length by omega];simpa using h57
    refine mV (aM e7 (aM e7 bF)) ?_;refine rT fun nv2 vv2 cv3 av2=>?_;obtain⟨hq14,hstep⟩:=Say.step_bad (nm:=nm) (m:=m) (c:=c) hsn;have hE:XEnd nm m code c (st+1) true 12 pc:=hA.err hq14 hstep (by show (12:Int)≠0;decide);refine zz4 ?_;refine bA Y Y (qI b21 m hv nm nv2 vv2 cv3 av2 c.keep false 0 12 pc _) bS Y ?_;rintro _ K _ ⟨rfl,rfl,rfl⟩ -;refine zz9 ?_
    first|refine jJ (eO (m:=m) (c:=c)) ?_|skip
    first
     |(have hE2:=hE;skip)
     |(have hE:=aVA hX aH)
    obtain⟨r,hs,hb,hk,hrun2⟩:=hE;refine zz2 ?_;refine bA Y Y (sB b21 m hv nm r hb hk _ _ _ _ hs _) bS Y ?_;rintro _ K _ ⟨av9,⟨ax,nx,cx,rfl⟩,rfl,rfl,rfl⟩ -;refine zz1 ?_;refine cD (cX ta54_3 Y Y Y bR gC1 (.cons (.cons (.cons .nil))) gC8) ?_;rintro _ K _ ⟨rfl,rfl⟩ -;refine zz4 ?_;refine aAF Y Y Y ta54_3 aL Y Y (xAB _) (aM bW bF) ?_;exact⟨_,Y,_,⟨_,_,_,Y⟩,(by rw[hrun2];cases r <;> rfl),gEV,Y,by rw[hrun2]⟩
   have hsn:Say.snd o pc code.length stk.length=true:=by rw[←hlen,←show (stk.length:Int) - 1+1=stk.length by omega];simpa using h57
   refine zz2 ?_;refine dX (fun(q:ExI×Value)=>Say.XNext nm m code pc st q.1) (fun q=>[(0,.bool nm),(1,cv),(6,ptr b6),(8,ptr b21),(9,q.2),(10,i64 ((st:Int)+1)),(13,i64 q.1.pc)]) (fun _=>K) (fun q=>[sl false eE q.2 q.1.stk,stq b21 m hv nm q.1.c q.1.en q.1.e q.1.p,pt b6 (bL [.slice none 0 0,i64 0,i64 0] 54)]) ?_ ?_
   ·refine zz13 ?_;refine aY 63 Y (fun h63=>?_) (fun h63=>?_)
    ·have hs1:=Say.snd_1 hsn h63;refine zz5 ?_;refine cJ (bM (z0:=[.bool false]) gI tz4 Y Y Y Y dF) Y ?_;rintro _ K _ ⟨b69,rfl,rfl,rfl⟩ -;refine cJ (dQ (k:=eE) (ys:=[decide (o.n=1)]) wL Y Y (.there (.there .here)) (fun w j=>dJ Tryz.underlying93 (SeesSl.at (.blk aL Y Y) j)) gC7 gC7) Y ?_;rintro v70 K _ ⟨rfl,rfl,ho70⟩ -;refine zz3 ?_
     first
      |exact gAJ
      |exact gAG
      |exact gAB
      |exact gAA
      |exact gAC
      |exact gAF
      |exact gAH
      |exact gAI
      |exact gAD
      |exact gAM
    refine zz6 ?_;refine aY 71 Y (fun h71=>?_) (fun h71=>?_)
    ·have hs2:=Say.snd_2 hsn h71;obtain⟨x,hx⟩:∃x,stk[stk.length - 1]?=some x:=⟨stk[stk.length - 1]'(by omega),x4 aH⟩;refine zz5 ?_;refine aA (aX (k:=eE) (j:=stk.length - 1) gI Y aL Y aH aH) Y ?_;refine aA (cE (o:=0) (k:=eE) ts4 Y aL b0 Y) Y ?_;refine aA gC3 Y ?_;refine aA (aX (k:=eE) (j:=stk.length - 1) gI Y aL Y aH aH) Y ?_;have hlt1:stk.length - 1 < stk.length:=by omega
     refine cD (jG (k:=eE) (y0:=!x) ts4 Y Y Y Y gDB bR) ?_;rintro _ K _ ⟨rfl,rfl⟩ -;refine zz2 ?_
     first
      |exact gAJ
      |exact gAG
      |exact gAB
      |exact gAA
      |exact gAC
      |exact gAF
      |exact gAH
      |exact gAI
      |exact gAD
      |exact gAM
    refine zz6 ?_;refine aY 81 Y (fun h81=>?_) (fun h81=>?_)
    ·have hs3:=Say.snd_3 hsn h81;refine zz8 ?_
     first
      |exact gAJ
      |exact gAG
      |exact gAB
      |exact gAA
      |exact gAC
      |exact gAF
      |exact gAH
      |exact gAI
      |exact gAD
      |exact gAM
    refine zz7 ?_;refine aY 87 Y (fun h87=>?_) (fun h87=>?_)
    ·have h45:o.op=4∨o.op=5:=by omega
     have hs4:=Say.snd_4 hsn h45;obtain⟨x,hx⟩:∃x,stk[stk.length - 1]?=some x:=⟨stk[stk.length - 1]'(by omega),x4 aH⟩;refine zz5 ?_;refine cZ (anc:=[0,0,3,7,0,16,48,127]) (ord:=[0,1,2,3,4,5,6,7]) [] [] mixed gC5 (cQ _) (zz2 ?_);refine aJ Y Y (.none Y) Y Y (aX (k:=eE) (j:=stk.length - 1) gI Y aL Y aH aH) Y ?_;refine aJ Y Y (.none Y) Y Y (cE (o:=0) (k:=eE) ts4 Y aL b0 Y) Y (zz3 ?_);refine aJ Y Y (.none Y) Y Y (aVR Tryz.underlying4 Y Y) Y (zz2 ?_);refine d9 97 Y (fun h97=>?_) (fun h97=>?_)
     ·refine zz11 ?_;refine aA (nB (k:=eE) (m:=stk.length - 1) gI Y (.there .here) (.there .here) Y aH aH) Y (zz3 ?_)
      first
       |exact gAJ
       |exact gAG
       |exact gAB
       |exact gAA
       |exact gAC
       |exact gAF
       |exact gAH
       |exact gAI
       |exact gAD
       |exact gAM
     refine zz5 ?_;refine aA (nB (k:=eE) (m:=stk.length - 1) gI Y (.there .here) (.there .here) Y aH aH) Y (zz3 ?_)
     first
      |exact gAJ
      |exact gAG
      |exact gAB
      |exact gAA
      |exact gAC
      |exact gAF
      |exact gAH
      |exact gAI
      |exact gAD
      |exact gAM
    refine zz5 ?_;refine aY 87 Y (fun h87=>?_) (fun h87=>?_)
    ·have h45:o.op=4∨o.op=5:=by omega
     have hs4:=Say.snd_4 hsn h45;obtain⟨x,hx⟩:∃x,stk[stk.length - 1]?=some x:=⟨stk[stk.length - 1]'(by omega),x4 aH⟩;refine zz2 ?_;refine cZ (anc:=[0,0,3,7,0,16,48,127]) (ord:=[0,1,2,3,4,5,6,7]) [] [] mixed gC5 (cQ _) (zz2 ?_);refine aJ Y Y (.none Y) Y Y (aX (k:=eE) (j:=stk.length - 1) gI Y aL Y aH aH) Y ?_;refine aJ Y Y (.none Y) Y Y (cE (o:=0) (k:=eE) ts4 Y aL b0 Y) Y (zz3 ?_);refine aJ Y Y (.none Y) Y Y (aVR Tryz.underlying4 Y Y) Y (zz2 ?_);refine d9 97 Y (fun h97=>?_) (fun h97=>?_)
     ·refine zz11 ?_;refine aA (nB (k:=eE) (m:=stk.length - 1) gI Y (.there .here) (.there .here) Y aH aH) Y (zz3 ?_)
      first
       |exact gAJ
       |exact gAG
       |exact gAB
       |exact gAA
       |exact gAC
       |exact gAF
       |exact gAH
       |exact gAI
       |exact gAD
       |exact gAM
     refine zz5 ?_;refine aA (nB (k:=eE) (m:=stk.length - 1) gI Y (.there .here) (.there .here) Y aH aH) Y (zz3 ?_)
     first
      |exact gAJ
      |exact gAG
      |exact gAB
      |exact gAA
      |exact gAC
      |exact gAF
      |exact gAH
      |exact gAI
      |exact gAD
      |exact gAM
    refine dX (fun(_:Unit)=>True) (fun _=>[(0,.bool nm),(1,cv),(6,ptr b6),(8,ptr b21),(9,sv),(10,i64 ((st:Int)+1)),(12,ptr b12),(13,i64 ((pc:Int)+1)),(62,i64 o.op),(105,.bool (decide (6≤o.op∧o.op≤10)))]) (fun _=>K) (fun _=>[pt b12 (bL [i64 o.op,i64 o.n,i64 o.tag,.bool o.oct,.slice sa sn sc,.slice ta tn tc,i64 o.at_] 45),sl false eE sv stk,stq b21 m hv nm c false 0 0,pt b6 (bL [.slice none 0 0,i64 0,i64 0] 54)]) ?_ ?_
    ·refine zz6 ?_;refine aY 105 Y (fun h105=>?_) (fun h105=>?_)
     ·have hs6:=Say.snd_6 hsn aH;refine aW ?_;exact a8 () trivial (.cons 0 Y (.cons 1 Y (.cons 6 Y (.cons 8 Y (.cons 9 Y (.cons 10 Y (.cons 12 Y (.cons 13 Y (.cons 62 Y (.cons 105 gDJ .nil)))))))))) Y (fun _ h=>h)
     refine zz6 ?_;refine aY 105 Y (fun h105=>?_) (fun h105=>?_)
     ·have hs6:=Say.snd_6 hsn aH;refine aW ?_;exact a8 () trivial (.cons 0 Y (.cons 1 Y (.cons 6 Y (.cons 8 Y (.cons 9 Y (.cons 10 Y (.cons 12 Y (.cons 13 Y (.cons 62 Y (.cons 105 gDJ .nil)))))))))) Y (fun _ h=>h)
     refine zz6 ?_;refine aY 105 Y (fun h105=>?_) (fun h105=>?_)
     ·have hs6:=Say.snd_6 hsn aH;refine aW ?_;exact a8 () trivial (.cons 0 Y (.cons 1 Y (.cons 6 Y (.cons 8 Y (.cons 9 Y (.cons 10 Y (.cons 12 Y (.cons 13 Y (.cons 62 Y (.cons 105 gDJ .nil)))))))))) Y (fun _ h=>h)
     refine zz6 ?_;refine aY 105 Y (fun h105=>?_) (fun h105=>?_)
     ·have hs6:=Say.snd_6 hsn aH;refine aW ?_;exact a8 () trivial (.cons 0 Y (.cons 1 Y (.cons 6 Y (.cons 8 Y (.cons 9 Y (.cons 10 Y (.cons 12 Y (.cons 13 Y (.cons 62 Y (.cons 105 gDJ .nil)))))))))) Y (fun _ h=>h)
     refine zz4 ?_;exact a8 () trivial (.cons 0 Y (.cons 1 Y (.cons 6 Y (.cons 8 Y (.cons 9 Y (.cons 10 Y (.cons 12 Y (.cons 13 Y (.cons 62 Y (.cons 105 gDJ .nil)))))))))) Y (fun _ h=>h)
    intro _ _;refine aY 105 Y (fun h105=>?_) (fun h105=>?_)
    ·have hs6:=Say.snd_6 hsn aH;refine zz4 ?_;refine bA Y Y (aT6 b21 m hv nm c hci hm o hoo aH hs6.1 (.slice sa sn sc) (.slice ta tn tc) hfit _ hra hrb hh) bS Y ?_;rintro _ K _ ⟨rfl,rfl,hca,hva2,rfl⟩ -;refine zz6 ?_;refine cJ (bM (z0:=[.bool false]) gI tz4 Y Y Y Y dF) Y ?_;rintro _ K _ ⟨b116,rfl,rfl,rfl⟩ -;refine cJ (dQ (k:=eE) (ys:=[(Say.asksV nm m o c).1]) wL Y Y (.there (.there (.there .here))) (fun w j=>dJ Tryz.underlying93 (SeesSl.at (.blk aL Y Y) j)) gC7 gC7) Y ?_;rintro v117 K _ ⟨rfl,rfl,ho117⟩ -;refine zz3 ?_
     first
      |exact gAJ
      |exact gAG
      |exact gAB
      |exact gAA
      |exact gAC
      |exact gAF
      |exact gAH
      |exact gAI
      |exact gAD
      |exact gAM
    refine zz6 ?_;refine aY 118 Y (fun h118=>?_) (fun h118=>?_)
    ·have hs11:=Say.snd_11 hsn h118;refine zz5 ?_;refine dX (fun(_:Unit)=>True) (fun _=>[(0,.bool nm),(1,cv),(6,ptr b6),(8,ptr b21),(9,sv),(10,i64 ((st:Int)+1)),(12,ptr b12),(13,i64 ((pc:Int)+1)),(17,str (if o.tag=1 then []else (o.a[0]?).getD []))]) (fun _=>K) (fun _=>[pt b12 (bL [i64 o.op,i64 o.n,i64 o.tag,.bool o.oct,.slice sa sn sc,.slice ta tn tc,i64 o.at_] 45),sl false eE sv stk,stq b21 m hv nm c false 0 0,pt b6 (bL [.slice none 0 0,i64 0,i64 0] 54)]) ?_ ?_
     ·refine zz7 ?_;refine aY 122 Y (fun h122=>?_) (fun h122=>?_)
      ·obtain⟨x,hx⟩:∃x,o.a[0]?=some x:=⟨o.a[0]'(by omega),x4 aH⟩;refine zz3 ?_;refine aA (aX (k:=a7 9) (j:=0) cB Y (.known hra) Y Y aH) Y ?_;refine aA (cE (o:=0) (k:=a7 9) ts9 Y (.known hra) hx Y) Y (zz2 ?_);exact a8 () trivial (.cons 0 Y (.cons 1 Y (.cons 6 Y (.cons 8 Y (.cons 9 Y (.cons 10 Y (.cons 12 Y (.cons 13 Y (.cons 17 gFT .nil))))))))) Y (fun _ h=>h)
      refine aW ?_;exact a8 () trivial (.cons 0 Y (.cons 1 Y (.cons 6 Y (.cons 8 Y (.cons 9 Y (.cons 10 Y (.cons 12 Y (.cons 13 Y (.cons 17 gFT .nil))))))))) Y (fun _ h=>h)
     intro _ _;refine zz7 ?_;refine bA Y Y (u3 b21 m hv nm c o.tag _ o.at_ hci aH (by split;simp;cases hx0:o.a[0]? with|none=>simp|some y=>exact hoo.a y (x8 hx0)) _) bS Y ?_;rintro _ K _ ⟨rfl,rfl,rfl⟩ -;refine zz2 ?_
     first
      |exact gAJ
      |exact gAG
      |exact gAB
      |exact gAA
      |exact gAC
      |exact gAF
      |exact gAH
      |exact gAI
      |exact gAD
      |exact gAM
    refine zz6 ?_;refine aY 134 Y (fun h134=>?_) (fun h134=>?_)
    ·have hs12:=Say.snd_12 hsn h134;obtain⟨x,as_,hxa⟩:∃x l,o.a=x::l:=by cases ha0:o.a with|nil=>rw[ha0]at hs12;simp at hs12|cons x l=>exact⟨x,l,Y⟩
     obtain⟨y,bs_,hyb⟩:∃x l,o.b=x::l:=by cases ha0:o.b with|nil=>rw[ha0]at hs12;simp at hs12|cons x l=>exact⟨x,l,Y⟩
     have hx:o.a[0]?=some x:=by rw[hxa];rfl
     have hy:o.b[0]?=some y:=by rw[hyb];rfl
     refine cZ (anc:=[0,0,2,6,14,0,32,96,224,0,512,2047]) (ord:=[0,1,2,3,4,5,6,7,8,9,10,11]) [11] [11] mixed gC5 (cQ _) (zz3 ?_);refine aJ Y Y (.none Y) Y Y (aX (k:=a7 9) (j:=0) cB Y (.known hra) Y Y aH) Y ?_;refine aJ Y Y (.none Y) Y Y (cE (o:=0) (k:=a7 9) ts9 Y (.known hra) hx Y) Y (zz2 ?_);refine aJ Y Y (.none Y) Y Y (aX (k:=a7 9) (j:=0) cB Y (.known hrb) Y Y aH) Y ?_;refine aJ Y Y (.none Y) Y Y (cE (o:=0) (k:=a7 9) ts9 Y (.known hrb) hy Y) Y (zz2 ?_);refine eQ Y (.none Y) Y Y Y (aKU b21 m hv nm c x y o.tag hci (hoo.b y (x8 hy)) _) bS Y ?_;rintro _ K _ ⟨rfl,rfl,rfl⟩ -;refine zz2 ?_
     first
      |exact gAJ
      |exact gAG
      |exact gAB
      |exact gAA
      |exact gAC
      |exact gAF
      |exact gAH
      |exact gAI
      |exact gAD
      |exact gAM
    have hs13:=Say.snd_13 hsn aH;refine zz6 ?_;refine aY 148 Y (fun h148=>?_) (fun h148=>?_)
    ·refine mV (aM e7 (aM cI (aM cI bF))) ?_;refine rT fun nv2 vv2 cv3 av2=>?_;refine zz4 ?_;refine uAk ?_;rintro _ K _ ⟨rfl,rfl⟩ -;refine zz2 ?_
     first
      |exact gAJ
      |exact gAG
      |exact gAB
      |exact gAA
      |exact gAC
      |exact gAF
      |exact gAH
      |exact gAI
      |exact gAD
      |exact gAM
    refine zz6 ?_;refine aY 153 Y (fun h153=>?_) (fun h153=>?_)
    ·refine mV (aM e7 (aM cI (aM cI bF))) ?_;refine rT fun nv2 vv2 cv3 av2=>?_;refine zz4 ?_;refine uAk ?_;rintro _ K _ ⟨rfl,rfl⟩ -;refine zz2 ?_
     first
      |exact gAJ
      |exact gAG
      |exact gAB
      |exact gAA
      |exact gAC
      |exact gAF
      |exact gAH
      |exact gAI
      |exact gAD
      |exact gAM
    omega
   intro ⟨⟨c2,stk2,pc2,st2,en2,e2,p2⟩,sv2⟩ ⟨hX2,hst2,hlt2⟩;dsimp only at hX2 hst2 hlt2 ⊢;subst hst2;refine zz5 ?_;refine uAz ?_;exact cW ⟨c2,stk2,pc2,st+1,en2,e2,p2⟩ sv2 hX2 (by dsimp only;rw[x5 (by decide:¬false=true)];rcases hlt2 with h|h;rw[x7 h];omega;split <;> omega) aS Y (fun _ h=>h)
  have hE:=bNV hX (by simpa using h37);refine zz6 ?_
  first|refine jJ (eO (m:=m) (c:=c)) ?_|skip
  first
   |(have hE2:=hE;skip)
   |(have hE:=aVA hX aH)
  obtain⟨r,hs,hb,hk,hrun2⟩:=hE;refine zz2 ?_;refine bA Y Y (sB b21 m hv nm r hb hk _ _ _ _ hs _) bS Y ?_;rintro _ K _ ⟨av9,⟨ax,nx,cx,rfl⟩,rfl,rfl,rfl⟩ -;refine zz1 ?_;refine cD (cX ta54_3 Y Y Y bR gC1 (.cons (.cons (.cons .nil))) gC8) ?_;rintro _ K _ ⟨rfl,rfl⟩ -;refine zz4 ?_;refine aAF Y Y Y ta54_3 aL Y Y (xAB _) (aM bW bF) ?_;exact⟨_,Y,_,⟨_,_,_,Y⟩,(by rw[hrun2];cases r <;> rfl),gEV,Y,by rw[hrun2]⟩
 refine zz15 ?_
 first|refine jJ (eO (m:=m) (c:=c)) ?_|skip
 first
  |(have hE2:=hE;skip)
  |(have hE:=aVA hX aH)
 obtain⟨r,hs,hb,hk,hrun2⟩:=hE;refine zz2 ?_;refine bA Y Y (sB b21 m hv nm r hb hk _ _ _ _ hs _) bS Y ?_;rintro _ K _ ⟨av9,⟨ax,nx,cx,rfl⟩,rfl,rfl,rfl⟩ -;refine zz1 ?_;refine cD (cX ta54_3 Y Y Y bR gC1 (.cons (.cons (.cons .nil))) gC8) ?_;rintro _ K _ ⟨rfl,rfl⟩ -;refine zz4 ?_;refine aAF Y Y Y ta54_3 aL Y Y (xAB _) (aM bW bF) ?_;exact⟨_,Y,_,⟨_,_,_,Y⟩,(by rw[hrun2];cases r <;> rfl),gEV,Y,by rw[hrun2]⟩
end Go.Proofs
end

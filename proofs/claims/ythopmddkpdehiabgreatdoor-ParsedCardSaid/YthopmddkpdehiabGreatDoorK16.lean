/-
  What the proof stands on, part 16: the logic of walks, the walks through the functions, the plain laws. Conditions: as each theorem says. (Merged and shortened by a program.)
-/
import Derived.Test.YthopmddkpdehiabGreatDoorK15
set_option linter.unusedVariables false
set_option linter.unusedSimpArgs false
set_option linter.defProp false
set_option maxRecDepth 4000
set_option maxHeartbeats 1000000
section
namespace Go.Cmp
open Go.Syn Go.Mach
def IFit(n:Nat)(o:Ins):Prop:=(∀x∈o.a,x.length≤n)∧(∀x∈o.b,x.length≤n)∧o.a.length≤2*n+1∧o.b.length≤2*n+1
def AFit(n:Nat)(ops:List Ins):Prop:=∀o∈ops,IFit n o
def AFit.setN{n:Nat}{k:Nat}{m:Int}:∀ {ops:List Ins},AFit n ops→AFit n (setN ops k m):=by
 intro ops h o ho;unfold Cmp.setN at ho;obtain⟨i,hi⟩:=xA3 ho;rw[List.getElem?_modify]at hi;cases hx:ops[i]? with
 |none=>rw[hx]at hi;cases hi
 |some x=>
  rw[hx]at hi;have hxo:=h x (x8 hx);simp only[Option.map_eq_map,Option.map_some,Option.some.injEq]at hi
  by_cases hki:k=i
  ·rw[x7 hki]at hi;subst hi;exact hxo
  rw[x5 hki]at hi;subst hi;exact hxo
def AFit.fold{n:Nat}{m:Int}:∀(ps:List Nat) {ops:List Ins},AFit n ops→AFit n (ps.foldl (fun o k=>Cmp.setN o k (m - 1 - k)) ops)
 | [],_,h=>h
 |p::ps,_,h=>AFit.fold ps h.setN
def AFit.land{n:Nat}{ops:List Ins}{ps:List Nat}(h:AFit n ops):AFit n (land ops ps):=AFit.fold ps h
def AFit.app{n:Nat}{a b:List Ins}(h:AFit n a)(k:AFit n b):AFit n (a++b):=fun o ho=>(xAT.1 ho).elim (h o) (k o)
def AFit.jmp{n:Nat}{ops:List Ins}{op:Int}(h:AFit n ops):AFit n (ops++[Cmp.jmp op]):=h.app fun o ho=>by
 rw[List.mem_singleton]at ho;subst ho;exact⟨by simp[Cmp.jmp],by simp[Cmp.jmp],by simp[Cmp.jmp],by simp[Cmp.jmp]⟩
def AFit.two{n:Nat}{ops:List Ins}{o:Ins}{op:Int}(h:AFit n ops)(k:IFit n o):AFit n (ops++[o,Cmp.jmp op]):=by
 have:=(h.app (b:=[o]) (fun x hx=>by rw[List.mem_singleton]at hx;subst hx;exact k)).jmp (op:=op)
 simpa using this
end Go.Cmp
end
section
namespace Go.Syn
open Go.Mach
def t1:aP:=[105,102,32,104,101,97,100,101,114,32,34,83,117,98,106,101,99,116,34,32,34,120,34,32,123,32,100,105,115,99,97,114,100,59,32,125,32,101,108,115,101,32,123,32,107,101,101,112,59,32,125]
def t2:aP:=[105,102,32,104,101,97,100,101,114,32,58,99,111,109,112,97,114,97,116,111,114,32,34,105,59,111,99,116,101,116,34,32,34,83,117,98,106,101,99,116,34,32,34,120,34,32,123,32,100,105,115,99,97,114,100,59,32,125,32,101,108,115,101,32,123,32,114,101,100,105,114,101,99,116,32,34,97,64,98,34,59,32,125]
def tb:aP:=[107,101,101,112,59,32,105,102,32,123,32,125]
def m1:Msg:=⟨[],[],0,[([115,117,98,106,101,99,116],[88])]⟩
def pc(s:aP):Int×Int:=if 600 < s.length then (1,-1)else match gN s with| .ok _=>(0,-1)| .error e=>e
end Go.Syn
end
section
attribute [local irreducible] Go.SL.T Go.SL.OL Go.SL.D Go.SL.DL Go.SL.Ev Go.SL.Ef Go.SL.EfS
namespace Go.Proofs
open Go Go.SL Go.Syn Go.Mach Go.Cmp
def ScriptAt.mono{K K':Hl}{b:Nat}{needs:List (List UInt8)}{t:Tree}(h:ScriptAt K b needs t)(le:K.le K'):ScriptAt K' b needs t:=
 let ⟨l,nv,bv,ys,fz,h1,h2,h3,h4,h5,h6,h7⟩:=h.at_
 ⟨l,nv,bv,ys,fz,le _ _ h1,h2,h3,h4.mono le,h5.mono le,h6.mono le,h7⟩
def wS(K:Hl)(b:Nat)(r:List aP×Tree):Prop:=∃tb cv vs fz,K b=some (bL [ptr tb 6,cv] 102 fz)∧ScriptAt K tb r.1 r.2∧Ksl cT K cv vs∧RIs K vs (Cmp.script r.2)
def wS.mono{K K':Hl}{b:Nat}{r:List aP×Tree}(h:wS K b r)(le:K.le K'):wS K' b r:=
 let ⟨tb,cv,vs,fz,h1,h2,h3,h4⟩:=h
 ⟨tb,cv,vs,fz,le _ _ h1,h2.mono le,h3.mono le,h4.mono le⟩
def bLX(s:aP)(x y:Value)(K:Hl):Prop:=
 (600 < s.length∧x=.pointer none∧y=.iface 50 (i64 1))∨
 (s.length≤600∧∃b r,gN s=.ok r∧x=ptr b∧y=.nilIface∧wS K b r)∨
 (s.length≤600∧∃fb e p,gN s=.error (e,p)∧x=.pointer none∧y=.iface 126 (ptr fb)∧K fb=some (bL [i64 e,i64 p] 131))
def aPK(s:aP)(K:Hl)(hg:Glob K):Sp x3 49 [str s] K [] (Ret fun v K' L'=>∃x y,v=.tuple #[x,y]∧bLX s x y K'∧L'=[]):=by
 refine bN Tryz.func49 Y Tryz.ntmps49 Y Y fun F w=>?_;refine zz9 ?_;refine bA Y Y (aTJ s _ hg) .nil Y ?_;rintro v8 K1 _ ⟨hP,rfl⟩ le1;obtain⟨x,y,rfl,hxy⟩:∃x y,v8=.tuple #[x,y]∧((600 < s.length∧x=.pointer none∧y=.iface 50 (i64 1))∨(s.length≤600∧∃b r,gN s=.ok r∧x=ptr b 6∧y=.nilIface∧ScriptAt K1 b r.1 r.2)∨(s.length≤600∧∃fb e p,gN s=.error (e,p)∧x=.pointer none∧y=.iface 126 (ptr fb)∧K1 fb=some (bL [i64 e,i64 p] 131))):=(by rcases hP with ⟨h6,rfl⟩|⟨h6,⟨b,r,hr,rfl,hat⟩|⟨fb,e,p,hr,rfl,hfb⟩⟩;exact⟨_,_,Y,.inl ⟨h6,Y,Y⟩⟩;exact⟨_,_,Y,.inr (.inl ⟨h6,b,r,hr,Y,Y,hat⟩)⟩;exact⟨_,_,Y,.inr (.inr ⟨h6,fb,e,p,hr,Y,Y,hfb⟩)⟩);refine zz7 ?_;rcases hxy with ⟨h6,rfl,rfl⟩|⟨h6,b,r,hr,rfl,rfl,hat⟩|⟨h6,fb,e,p,hr,rfl,rfl,hfb⟩
 ·refine zz17 ?_;refine uAf ?_;refine j1 Y Y Y le1 ?_;exact⟨_,Y,_,_,Y,.inl ⟨h6,Y,Y⟩,Y⟩
 ·have hfit:=nP hr;refine zz14 ?_;refine bA Y Y (aQI b r.1 r.2 _ hat hfit.1 aH) .nil Y ?_;rintro cv K2 _ ⟨vs,hvs,rfl⟩ le2;refine fZ fun K3 le3 hcv=>?_;obtain⟨ca,cn,cc,rfl⟩:=hcv.isSlice;refine aA (dG bO1 bNB dF) Y (zz1 ?_);rintro _ K _ ⟨b18,rfl,rfl,rfl⟩ -;refine zz5 ?_;refine fB fun K4 le4 hb=>?_;refine uAf ?_;refine j1 Y Y Y (x6 le1 (x6 le2 (x6 le3 le4))) ?_;exact⟨_,Y,_,_,Y,.inr (.inl ⟨h6,b18,r,hr,Y,Y,b,_,vs,_,hb,hat.mono (x6 le2 (x6 le3 le4)),hcv.mono le4,hvs.mono (x6 le3 le4)⟩),Y⟩
 refine zz17 ?_;refine uAf ?_;refine j1 Y Y Y le1 ?_;exact⟨_,Y,_,_,Y,.inr (.inr ⟨h6,fb,e,p,hr,Y,Y,hfb⟩),Y⟩
def aC1(s:aP)(x:Value)(K:Hl):Prop:=(∃b r,s.length≤600∧gN s=.ok r∧x=ptr b∧wS K b r)∨(x=.pointer none∧(600 < s.length∨∃e,gN s=.error e))
def aPY(s:aP)(K:Hl)(hg:Glob K)(hE:ErrT K):Sp x3 28 [str s] K [] (Ret fun v K' L'=>∃x,v=.tuple #[x,i64 (pc s).1,i64 (pc s).2]∧aC1 s x K'∧L'=[]):=by
 refine bN Tryz.func28 Y Tryz.ntmps28 Y Y fun F w=>?_;refine zz10 ?_;refine bA Y Y (aPK s _ hg) .nil Y ?_;rintro _ K1 _ ⟨x,y,rfl,hP,rfl⟩ le1;refine zz7 ?_;rcases hP with ⟨h6,rfl,rfl⟩|⟨h6,b,r,hr,rfl,rfl,hat⟩|⟨h6,fb,e,p,hr,rfl,rfl,hfb⟩
 ·refine zz3 ?_;refine bA Y Y (bNP 1 _ (hE.mono le1)) .nil Y ?_;rintro _ K _ ⟨rfl,rfl,rfl⟩ -;refine zz18 ?_;refine uAf ?_;refine vS Y Y Y Y le1 ?_;have hpc:pc s=(1,-1):=(by unfold pc;rw[x7 h6]);exact⟨_,Y,_,by rw[hpc],.inr ⟨rfl,.inl h6⟩,rfl⟩
 ·refine zz3 ?_;refine cN Y Y (aIP _) Y (zz18 ?_);refine uAf ?_;refine vS Y Y Y Y le1 ?_;have hpc:pc s=(0,-1):=(by unfold pc;rw[x5 aH,hr]);exact⟨_,Y,_,by rw[hpc],.inl ⟨b,r,h6,hr,rfl,hat⟩,rfl⟩
 refine zz3 ?_;refine bA Y Y (aNS fb e p _ [] (hE.mono le1) (.known hfb)) .nil Y ?_;rintro _ K _ ⟨rfl,rfl,rfl⟩ -;refine zz18 ?_;refine uAf ?_;refine vS Y Y Y Y le1 ?_;have hpc:pc s=(e,p):=(by unfold pc;rw[x5 aH,hr]);exact⟨_,Y,_,by rw[hpc],.inr ⟨rfl,.inr ⟨_,hr⟩⟩,rfl⟩
end Go.Proofs
end
section
namespace Go.Say
open Go.Syn Go.Mach Go.Cmp
structure Co where
 acts:List gA
 keep:Bool
 vars:List (aP×aP)
 parts:List aP
def Co.ms(c:Co)(pc:Nat):MS:=⟨c.acts,c.keep,c.vars,c.parts,[],pc⟩
def matO(tag:Int)(oct:Bool)(op:Int)(a b:List aP):Ins:=⟨op,0,tag,oct,a,b,0⟩
def matR(nm:Bool)(m:Msg)(o:Ins)(c:Co):Option (List aP):=iZ o (jA (dH nm c.vars c.parts) m o) (o.b.map (dH nm c.vars c.parts))
def mat(nm:Bool)(m:Msg)(o:Ins)(c:Co):Bool×Co:=
 match matR nm m o c with
 |some ps=>(true,if o.tag=3∧nm=true then {c with parts:=ps}else c)
 |none=>(false,c)
section
variable(nm:Bool)(m:Msg)
mutual
def holds:Tree→Co→Bool×Co
 | .const b,c=>(b,c)
 | .not_ t,c=>(!(holds t c).1,(holds t c).2)
 | .many all l,c=>rQ all l c
 | .mat tag oct op a b,c=>mat nm m (matO tag oct op a b) c
 | .exi a,c=>(mE m (a.map (dH nm c.vars c.parts)),c)
 | .siz tag n,c=>(decide (tag=1∧n < m.size∨tag=2∧m.size < n),c)
 |_,c=>(true,c)
def rQ(all:Bool):Tree→Co→Bool×Co
 | .tcons t l,c=>if (holds t c).1=all then rQ all l (holds t c).2 else holds t c
 |_,c=>(all,c)
end
def actX(k:Int)(arg:aP):gA:=(k,if k=4 then arg.take 48 else arg)
def addX(x:gA)(p:Int)(c:Co):Res Co:=
 if x∈c.acts then .ok {c with keep:=false}
 else if ∃b∈c.acts,x.1=4∨b.1=4 then .error (10,p)
 else if c.acts.length=6 then .error (11,p)
 else .ok {c with keep:=false,acts:=c.acts++[x]}
def act(k:Int)(arg:aP)(p:Int)(c:Co):Res Co:=
 if k=2∧sT arg=false then .error (8,p)
 else if k=3∧fM arg=false then .error (9,p)
 else addX (actX k arg) p c
def actArg(k:Int)(a:aP)(c:Co):aP:=if k=1 then []else dH nm c.vars c.parts a
def setV(t:Int)(v:aP):aP:=(if t=1 then eD v else if t=2 then rO v else if t=3 then Lib.itoa v.length else v).take 48
mutual
def run:Tree→Co→Res (Bool×Co)
 | .ccons x l,c=>match cmd x c with
  | .error e=>.error e
  | .ok r=>if r.1=true then .ok r else run l r.2
 |_,c=>.ok (false,c)
def cmd:Tree→Co→Res (Bool×Co)
 | .plain op,c=>if op=14 then .ok (true,c)else .ok (false,{c with keep:=false})
 | .act k a p,c=>match act k (actArg nm k a c) p c with
  | .error e=>.error e
  | .ok d=>.ok (false,d)
 | .set_ n v t,c=>.ok (false,{c with vars:=vput c.vars n (setV t (dH nm c.vars c.parts v))})
 | .iff bs,c=>brs bs c
 |_,c=>.ok (false,c)
def brs:Tree→Co→Res (Bool×Co)
 | .bcons t b l,c=>if (holds nm m t c).1=true then run b (holds nm m t c).2 else brs l (holds nm m t c).2
 | .belse b _,c=>run b c
 |_,c=>.ok (false,c)
end
end
def start:Co:=⟨[],true,[],[]⟩
def done(c:Co):List gA:=if c.keep=true then c.acts++[(1,[])]else c.acts
def out(r:Res (Bool×Co)):List gA×Option (Int×Int):=match r with
 | .error e=>([(1,[])],some e)
 | .ok r=>(done r.2,none)
section
variable{nm:Bool}{m:Msg}{C:List Ins}
def fin(nm:Bool)(m:Msg)(C:List Ins)(s:MS):List gA×Option (Int×Int):=((loop nm m C (C.length+1 - s.pc) 0 s).acts,(loop nm m C (C.length+1 - s.pc) 0 s).err)
end
def Agr(C new:List Ins)(a:Nat)(ps:List Nat):Prop:=∀i,a≤i→i < new.length→i∉ps→C[i]?=new[i]?
def Jmp(C new:List Ins)(a:Nat)(ps:List Nat)(T:Nat):Prop:=∀k∈ps,a≤k→C[k]?=(new[k]?).map fun o=>{o with n:=(T:Int) - 1 - k}
section
variable{nm:Bool}{m:Msg}{C:List Ins}
def two{ops:List Ins}{o j:Ins}{T:Nat}(hA:Agr C (ops++[o,j]) ops.length [ops.length+1])(hJ:Jmp C (ops++[o,j]) ops.length [ops.length+1] T):
  C[ops.length]?=some o∧C[ops.length+1]?=some {j with n:=(T:Int) - 1 - (ops.length+1:Nat)}:=by
 constructor
 ·rw[hA ops.length (xAA _) (by simp) (by simp)];simp
 rw[hJ (ops.length+1) (by simp) aH];simp
end
end Go.Say
end

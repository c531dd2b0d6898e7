/-
  What the proof stands on, part 15: the logic of walks, the walks through the functions, the plain laws. Conditions: as each theorem says. (Merged and shortened by a program.)
-/
import Derived.Stop.Asserts
import Derived.RowKitTokens
import Derived.LaidEql
import Derived.Test.YthopmddkpdehiabGreatDoorK6
set_option linter.unusedVariables false
set_option linter.unusedSimpArgs false
set_option linter.defProp false
set_option maxRecDepth 4000
set_option maxHeartbeats 1000000
section
namespace Go.Proofs
open Go Go.SL Go.Extern
abbrev hd(t:Nat):Value:=.pointer (some ⟨5,t,none⟩)
def rlm(z:Sem Value)(f:TypeId→Addr→Nat→Nat→Sem Value)(v:Value):
  ReflectliteValue.method z f #[v]=(do match ←ReflectliteValue.parts v with|none=>z|some (t,a,fl)=>f t a fl (fl % 32)):=rfl
def rls (v x : Value) : ReflectliteValue.set #[v, x] = (do
  let (some (dst,a,fl),some (src,b,_)):=(←ReflectliteValue.parts v,←ReflectliteValue.parts x)
   |unsupported (.noEntry "extern/(internal/reflectlite.Value).Set.zeroValue")
  if fl / ReflectliteValue.flagAddr % 2==0 then unsupported (.noEntry "extern/(internal/reflectlite.Value).Set.unaddressable")
  let val ←loadVar src b
  if ←Rtype.directlyAssignable dst src then storeVar dst a val
  else if ←Rtype.implements dst src then
   if (←Rtype.kind src)==20 then
    match val with
    | .nilIface=>unsupported (.noEntry "extern/reflectlite: a nil value of one interface type handed on as a value of another")
    |_=>storeVar dst a val
   else storeVar dst a (.iface src val)
  else panicString ("reflectlite.Set: value of type "++(←Rtype.spelt src)++ " is not assignable to type "++(←Rtype.spelt dst))
  pure (.tuple #[])):=rfl
def aIY(t:Nat)(w:World):(ReflectliteValue.unpack (.iface 128 (ptr t))).run x3 w=.ok (.agg #[hd 128,ptr w.heap.size,.int .u64 150]) (w.alloc (.cells #[ptr t] 128)):=cY
def aWS(a:Addr)(w:World):(ReflectliteValue.methodAny (ReflectliteValue.valueError "reflectlite.Value.Type" 0) (fun t _ _ _=>ReflectliteType.toType t) #[.agg #[hd 128,.pointer (some a),.int .u64 150]]).run x3 w=.ok (.iface 229 (.agg #[hd 128])) w:=cY
def aV0(w:World):((ReflectliteType.abiMethod fun t=>Functor.map (fun a:Nat=>Value.int IntKind.u8 (a:Int)) (Rtype.kind t)) #[hd 128]).run x3 w=.ok (.int .u8 22) w:=cY
def aVZ(w:World):((ReflectliteType.abiMethod fun t=>Functor.map (fun a:Nat=>Value.int IntKind.u8 (a:Int)) (Rtype.kind t)) #[hd 126]).run x3 w=.ok (.int .u8 22) w:=cY
def aPR(a:Addr)(w:World):(ReflectliteValue.parts (.agg #[hd 128,.pointer (some a),.int .u64 150])).run x3 w=.ok (some (128,a,150)) w:=cY
def aO7(a p:Addr)(W:World)(ha:W.cell? a=some (.pointer (some p))):
  (ReflectliteValue.method (ReflectliteValue.valueError "reflectlite.Value.IsNil" 0) ReflectliteValue.isNil #[.agg #[hd 128,.pointer (some a),.int .u64 150]]).run x3 W=.ok (.bool false) W:=by
 rw[rlm];simp only[Sem.run_bind,aPR,Result.andThen];simp[ReflectliteValue.isNil,loadVar,isAgg,underlying,Tryz.underlying128,ha,Result.andThen]
def aVM(w:World):(ReflectliteType.method ReflectliteType.elem #[.agg #[hd 128]]).run x3 w=.ok (.iface 229 (.agg #[hd 126])) w:=cY
def zT(w:World):(ReflectliteType.relation "Implements" ReflectliteType.implements_ #[.agg #[hd 126],.iface 229 (.agg #[hd 83])]).run x3 w=.ok (.bool true) w:=cY
def bBE(v:Value)(w:World):(ReflectliteType.typeOf #[.iface 126 v]).run x3 w=.ok (.iface 229 (.agg #[hd 126])) w:=cY
def aI4(w:World):(ReflectliteType.relation "AssignableTo" ReflectliteType.assignableTo #[.agg #[hd 126],.iface 229 (.agg #[hd 126])]).run x3 w=.ok (.bool true) w:=cY
def aUW(e:Nat)(w:World):(ReflectliteValue.unpack (.iface 126 (ptr e))).run x3 w=.ok (.agg #[hd 126,ptr w.heap.size,.int .u64 150]) (w.alloc (.cells #[(ptr e)] 126)):=cY
def aXT(w:World):(Rtype.elem? 128).run x3 w=.ok (some 126) w:=cY
def bOG(p:Addr)(w:World):(ReflectliteValue.mk 126 p ReflectliteValue.flagAddr).run x3 w=.ok (.agg #[hd 126,.pointer (some p),.int .u64 406]) w:=cY
def bC3(a p:Addr)(W:World)(ha:W.cell? a=some (.pointer (some p))):
  (ReflectliteValue.method (ReflectliteValue.valueError "reflectlite.Value.Elem" 0) ReflectliteValue.elem #[.agg #[hd 128,.pointer (some a),.int .u64 150]]).run x3 W=.ok (.agg #[hd 126,.pointer (some p),.int .u64 406]) W:=by
 rw[rlm];simp only[Sem.run_bind,aPR,Result.andThen];simp[ReflectliteValue.elem,loadVar,isAgg,underlying,Tryz.underlying128,ha,Result.andThen,aXT,bOG]
def aZL(a:Addr)(w:World):(ReflectliteValue.parts (.agg #[hd 126,.pointer (some a),.int .u64 406])).run x3 w=.ok (some (126,a,406)) w:=cY
def bEQ(a:Addr)(w:World):(ReflectliteValue.parts (.agg #[hd 126,.pointer (some a),.int .u64 150])).run x3 w=.ok (some (126,a,150)) w:=cY
def aXL(w:World):(Rtype.directlyAssignable 126 126).run x3 w=.ok true w:=cY
def bM6(ta b:Addr)(e:Nat)(old:Value)(W:World)(hb:W.cell? b=some (ptr e))(ht:W.cell? ta=some old)(hf:W.frozen? ta=false):
  (ReflectliteValue.set #[.agg #[hd 126,.pointer (some ta),.int .u64 406],.agg #[hd 126,.pointer (some b),.int .u64 150]]).run x3 W=.ok (.tuple #[]) (W.setCell ta (ptr e)):=by
 rw[rls];simp only[Sem.run_bind,aZL,bEQ,Result.andThen];simp[ReflectliteValue.flagAddr,loadVar,isAgg,underlying,Tryz.underlying126,hb,Result.andThen,aXL,storeVar,Value.cells,storeCells,Addr.add];rw[run_store x3 W ta _ _ (by rfl)];simp[ht,hf]
def aUX(t:Nat)(w:World):(ReflectliteValue.unpack (.iface 132 (ptr t))).run x3 w=.ok (.agg #[hd 132,ptr w.heap.size,.int .u64 150]) (w.alloc (.cells #[ptr t] 132)):=cY
def bKH(a:Addr)(w:World):(ReflectliteValue.methodAny (ReflectliteValue.valueError "reflectlite.Value.Type" 0) (fun t _ _ _=>ReflectliteType.toType t) #[.agg #[hd 132,.pointer (some a),.int .u64 150]]).run x3 w=.ok (.iface 229 (.agg #[hd 132])) w:=cY
def bIQ(w:World):((ReflectliteType.abiMethod fun t=>Functor.map (fun a:Nat=>Value.int IntKind.u8 (a:Int)) (Rtype.kind t)) #[hd 132]).run x3 w=.ok (.int .u8 22) w:=cY
def bMD(w:World):((ReflectliteType.abiMethod fun t=>Functor.map (fun a:Nat=>Value.int IntKind.u8 (a:Int)) (Rtype.kind t)) #[hd 50]).run x3 w=.ok (.int .u8 2) w:=cY
def aPS(a:Addr)(w:World):(ReflectliteValue.parts (.agg #[hd 132,.pointer (some a),.int .u64 150])).run x3 w=.ok (some (132,a,150)) w:=cY
def bDN(a p:Addr)(W:World)(ha:W.cell? a=some (.pointer (some p))):
  (ReflectliteValue.method (ReflectliteValue.valueError "reflectlite.Value.IsNil" 0) ReflectliteValue.isNil #[.agg #[hd 132,.pointer (some a),.int .u64 150]]).run x3 W=.ok (.bool false) W:=by
 rw[rlm];simp only[Sem.run_bind,aPS,Result.andThen];simp[ReflectliteValue.isNil,loadVar,isAgg,underlying,Tryz.underlying132,ha,Result.andThen]
def bIA(w:World):(ReflectliteType.method ReflectliteType.elem #[.agg #[hd 132]]).run x3 w=.ok (.iface 229 (.agg #[hd 50])) w:=cY
def aMJ(w:World):(ReflectliteType.relation "Implements" ReflectliteType.implements_ #[.agg #[hd 50],.iface 229 (.agg #[hd 83])]).run x3 w=.ok (.bool true) w:=cY
def aCZ(v:Value)(w:World):(ReflectliteType.typeOf #[.iface 50 v]).run x3 w=.ok (.iface 229 (.agg #[hd 50])) w:=cY
def aLQ(w:World):(ReflectliteType.relation "AssignableTo" ReflectliteType.assignableTo #[.agg #[hd 50],.iface 229 (.agg #[hd 50])]).run x3 w=.ok (.bool true) w:=cY
def bBH(e:Int)(w:World):(ReflectliteValue.unpack (.iface 50 (i64 e))).run x3 w=.ok (.agg #[hd 50,ptr w.heap.size,.int .u64 130]) (w.alloc (.cells #[(i64 e)] 50)):=cY
def aXU(w:World):(Rtype.elem? 132).run x3 w=.ok (some 50) w:=cY
def bQF(p:Addr)(w:World):(ReflectliteValue.mk 50 p ReflectliteValue.flagAddr).run x3 w=.ok (.agg #[hd 50,.pointer (some p),.int .u64 386]) w:=cY
def bC4(a p:Addr)(W:World)(ha:W.cell? a=some (.pointer (some p))):
  (ReflectliteValue.method (ReflectliteValue.valueError "reflectlite.Value.Elem" 0) ReflectliteValue.elem #[.agg #[hd 132,.pointer (some a),.int .u64 150]]).run x3 W=.ok (.agg #[hd 50,.pointer (some p),.int .u64 386]) W:=by
 rw[rlm];simp only[Sem.run_bind,aPS,Result.andThen];simp[ReflectliteValue.elem,loadVar,isAgg,underlying,Tryz.underlying132,ha,Result.andThen,aXU,bQF]
def bER(a:Addr)(w:World):(ReflectliteValue.parts (.agg #[hd 50,.pointer (some a),.int .u64 386])).run x3 w=.ok (some (50,a,386)) w:=cY
def bI2(a:Addr)(w:World):(ReflectliteValue.parts (.agg #[hd 50,.pointer (some a),.int .u64 130])).run x3 w=.ok (some (50,a,130)) w:=cY
def bCR(w:World):(Rtype.directlyAssignable 50 50).run x3 w=.ok true w:=cY
def bOZ(ta b:Addr)(e:Int)(old:Value)(W:World)(hb:W.cell? b=some (i64 e))(ht:W.cell? ta=some old)(hf:W.frozen? ta=false):
  (ReflectliteValue.set #[.agg #[hd 50,.pointer (some ta),.int .u64 386],.agg #[hd 50,.pointer (some b),.int .u64 130]]).run x3 W=.ok (.tuple #[]) (W.setCell ta (i64 e)):=by
 rw[rls];simp only[Sem.run_bind,bER,bI2,Result.andThen];simp[ReflectliteValue.flagAddr,loadVar,isAgg,underlying,Tryz.underlying50,hb,Result.andThen,bCR,storeVar,Value.cells,storeCells,Addr.add];rw[run_store x3 W ta _ _ (by rfl)];simp[ht,hf]
def qD(h:Value)(w:World):(Go.method (x3.types.size+Made.depth) 229 (.agg #[h]) "Kind").run x3 w=.ok (305,h) w:=cY
def aA0(h:Value)(w:World):(Go.method (x3.types.size+Made.depth) 229 (.agg #[h]) "Elem").run x3 w=.ok (318,.agg #[h]) w:=cY
def qC(h:Value)(w:World):(Go.method (x3.types.size+Made.depth) 229 (.agg #[h]) "Implements").run x3 w=.ok (319,.agg #[h]) w:=cY
def oO(h:Value)(w:World):(Go.method (x3.types.size+Made.depth) 229 (.agg #[h]) "AssignableTo").run x3 w=.ok (316,.agg #[h]) w:=cY
def uX(h:Value)(w:World):(Go.method (x3.types.size+Made.depth) 229 (.agg #[h]) "Comparable").run x3 w=.ok (317,.agg #[h]) w:=cY
def aMR(fb:Nat)(w:World):(Go.method (x3.types.size+Made.depth) 126 (ptr fb) "Unwrap").run x3 w=.ok (310,ptr fb) w:=cY
def aC2(w:World):(ReflectliteType.relation "AssignableTo" ReflectliteType.assignableTo #[.agg #[hd 50],.iface 229 (.agg #[hd 126])]).run x3 w=.ok (.bool false) w:=cY
def aBK(w:World):(ReflectliteType.method (fun t=>do Rtype.noPackHeld "Comparable" t;pure (.bool (←typeInfo t).comparable)) #[.agg #[hd 50]]).run x3 w=.ok (.bool true) w:=cY
def bMI(v:Value)(w:World):(Instr.typeAssert (.iface 50 v) 83 233 true).run x3 w=.ok (.tuple #[.nilIface,.bool false]) w:=run_typeAssert_lacksB Tryz.underlying233 cY cY v 83 w
def aTE(v:Value)(w:World):(Instr.typeAssert (.iface 50 v) 83 236 true).run x3 w=.ok (.tuple #[.nilIface,.bool false]) w:=run_typeAssert_lacksB Tryz.underlying236 cY cY v 83 w
def aPM(v:Value)(w:World):(Instr.typeAssert (.iface 50 v) 83 238 true).run x3 w=.ok (.tuple #[.nilIface,.bool false]) w:=run_typeAssert_lacksB Tryz.underlying238 cY cY v 83 w
def aMI(v:Value)(w:World):(Instr.typeAssert (.iface 126 v) 83 236 true).run x3 w=.ok (.tuple #[.iface 126 v,.bool true]) w:=run_typeAssert_hasB Tryz.underlying236 cY v 83 w
def bI0(v:Value)(w:World):(Instr.typeAssert (.iface 126 v) 83 241 true).run x3 w=.ok (.tuple #[.nilIface,.bool false]) w:=run_typeAssert_lacksB Tryz.underlying241 cY cY v 83 w
def bC6(fb:Nat)(e:Int)(w:World):(binOp .eql 83 (.iface 126 (ptr fb)) (.iface 50 (i64 e))).run x3 w=.ok (.bool false) w:=cY
def bN4(e:Int)(w:World):(binOp .eql 83 (.iface 50 (i64 e)) (.iface 50 (i64 e))).run x3 w=.ok (.bool true) w:=by
 have h:(binOp .eql 83 (.iface 50 (i64 e)) (.iface 50 (i64 e))).run x3 w=.ok (.bool (decide (e=e))) w:=cY
 rw[h];simp
end Go.Proofs
end
section
attribute [local irreducible] Go.SL.T Go.SL.OL Go.SL.D Go.SL.DL Go.SL.Ev Go.SL.Ef Go.SL.EfS
namespace Go.Proofs
open Go Go.SL Go.Extern
def vI:(Tryz.f93.name== "runtime.NumGoroutine")=false:=cY
def vJ:Tryz.f93.body.isNone=true:=cY
def vK:Go.Extern.findNext Tryz.f93=none:=cY
def vL:Go.Extern.find Tryz.f93=some (fun args=>ReflectliteValue.unpack (args.getD 0 (.tuple #[]))):=cY
def aU6:(Tryz.f94.name== "runtime.NumGoroutine")=false:=cY
def aU7:Tryz.f94.body.isNone=true:=cY
def aU8:Go.Extern.findNext Tryz.f94=none:=cY
def aU9:Go.Extern.find Tryz.f94=some (ReflectliteValue.methodAny (ReflectliteValue.valueError "reflectlite.Value.Type" 0) (fun t _ _ _=>ReflectliteType.toType t)):=cY
def aN1:(Tryz.f95.name== "runtime.NumGoroutine")=false:=cY
def aN2:Tryz.f95.body.isNone=true:=cY
def aN3:Go.Extern.findNext Tryz.f95=none:=cY
def aN4:Go.Extern.find Tryz.f95=some (ReflectliteValue.method (ReflectliteValue.valueError "reflectlite.Value.IsNil" 0) ReflectliteValue.isNil):=cY
def yM:(Tryz.f97.name== "runtime.NumGoroutine")=false:=cY
def yN:Tryz.f97.body.isNone=true:=cY
def yO:Go.Extern.findNext Tryz.f97=none:=cY
def yP:Go.Extern.find Tryz.f97=some ReflectliteType.typeOf:=cY
def aWV:(Tryz.f136.name== "runtime.NumGoroutine")=false:=cY
def aWW:Tryz.f136.body.isNone=true:=cY
def aWX:Go.Extern.findNext Tryz.f136=none:=cY
def aWY:Go.Extern.find Tryz.f136=some (ReflectliteValue.method (ReflectliteValue.valueError "reflectlite.Value.Elem" 0) ReflectliteValue.elem):=cY
def bLR:(Tryz.f137.name== "runtime.NumGoroutine")=false:=cY
def bLS:Tryz.f137.body.isNone=true:=cY
def bLT:Go.Extern.findNext Tryz.f137=none:=cY
def bLU:Go.Extern.find Tryz.f137=some ReflectliteValue.set:=cY
def aED:(Tryz.f305.name== "runtime.NumGoroutine")=false:=cY
def aEE:Tryz.f305.body.isNone=true:=cY
def aEF:Go.Extern.findNext Tryz.f305=none:=cY
def aEG:Go.Extern.find Tryz.f305=some (ReflectliteType.abiMethod fun t=>do pure (.int .u8 (←Rtype.kind t))):=cY
def aI0:(Tryz.f316.name== "runtime.NumGoroutine")=false:=cY
def aI1:Tryz.f316.body.isNone=true:=cY
def aI2:Go.Extern.findNext Tryz.f316=none:=cY
def aI3:Go.Extern.find Tryz.f316=some (ReflectliteType.relation "AssignableTo" ReflectliteType.assignableTo):=cY
def bHH:(Tryz.f317.name== "runtime.NumGoroutine")=false:=cY
def bHI:Tryz.f317.body.isNone=true:=cY
def bHJ:Go.Extern.findNext Tryz.f317=none:=cY
def bHK:Go.Extern.find Tryz.f317=some (ReflectliteType.method fun t=>do Rtype.noPackHeld "Comparable" t;pure (.bool (←typeInfo t).comparable)):=cY
def aNX:(Tryz.f318.name== "runtime.NumGoroutine")=false:=cY
def aNY:Tryz.f318.body.isNone=true:=cY
def aNZ:Go.Extern.findNext Tryz.f318=none:=cY
def aN0:Go.Extern.find Tryz.f318=some (ReflectliteType.method ReflectliteType.elem):=cY
def aU2:(Tryz.f319.name== "runtime.NumGoroutine")=false:=cY
def aU3:Tryz.f319.body.isNone=true:=cY
def aU4:Go.Extern.findNext Tryz.f319=none:=cY
def aU5:Go.Extern.find Tryz.f319=some (ReflectliteType.relation "Implements" ReflectliteType.implements_):=cY
def ErrT(K:Hl):Prop:=∃T fz,K 0=some (bL [.iface 229 (.agg #[hd 83])] T fz)
def ErrT.mono{K K':Hl}(h:ErrT K)(le:K.le K'):ErrT K':=let ⟨T,fz,h⟩:=h;⟨T,fz,le _ _ h⟩
def sU{w0 w:World}{F K:Hl}{L:List Asn}{b:Nat}{v:Value}{T:TypeId}(i:In w0 F K L w)(h:Hs (pt b (bL [v] T)) L):w.cell? ⟨b,0,none⟩=some v∧w.frozen? ⟨b,0,none⟩=false:=by
 have:=(Sees.own (K:=K) h).at i;exact⟨oH this Y,by simp[World.frozen?,this]⟩
def aG1{w0 w:World}{F K:Hl}{L L':List Asn}{b:Nat}{v v':Value}{T:TypeId}(i:In w0 F K L w)(hT:Fnd (pt b (bL [v] T)) (pt b (bL [v'] T)) L L'):In w0 F K L' (w.setCell ⟨b,0,none⟩ v'):=by
 have hb:=i.mem hT;have hlt:b < w.heap.size:=(xBH.1 hb).1;have e:w.setCell ⟨b,0,none⟩ v'={w with heap:=(w.setCell ⟨b,0,none⟩ v').heap}:=by
  unfold World.setCell;rfl
 rw[e];refine i.writeAt hT (by simp[World.setCell]) ?_ ?_
 ·show (w.heap.modify b _)[b]?=_
  rw[Array.getElem?_modify,x7 rfl,hb];rfl
 intro x hx;exact RowKit.Below.heap_setCell w ⟨b,0,none⟩ v' x hx
def bBU(e:Nat)(t bv:Nat)(old:Value)(K:Hl):Sp x3 96 [.iface 126 (ptr e),.iface 128 (ptr t),.agg #[hd 128,ptr bv,.int .u64 150],.iface 229 (.agg #[hd 126])] K [pt bv (bL [ptr t] 128),pt t (bL [old] 126)] (Ret fun r K' L'=>r=.bool true∧K'=K∧L'=[pt t (bL [(ptr e)] 126)]):=by
 refine bN Tryz.func96 Y Tryz.ntmps96 Y Y fun F w=>?_;refine zz3 ?_;rintro _ K _ ⟨b6,rfl,rfl,rfl⟩ -;refine zz4 ?_;refine eH (fun(u:Unit)=>True) (fun _=>[(0,.iface 126 (ptr e)),(1,.iface 128 (ptr t)),(3,.iface 229 (.agg #[hd 126])),(6,ptr b6)]) (fun _=>K) (fun _=>[pt b6 (bL [hd 128,ptr bv,.int .u64 150] 179),pt bv (bL [ptr t] 128),pt t (bL [old] 126)]) (fun _=>0) () trivial aS Y (fun _ h=>h) ?_;intro _ _;refine zz5 ?_;refine aA (n8 Y Y Tryz.func97 yM yN yO yP (fun w _=>bBE _ w)) Y (zz1 ?_);refine aA (iC Y Y (oO _) Tryz.func316 aI0 aI1 aI2 aI3 (fun w _=>aI4 w)) Y (zz6 ?_);refine aA (n8 Y Y Tryz.func136 aWV aWW aWX aWY (fun w j=>bC3 _ _ w (sU j (.there .here)).1)) Y (zz1 ?_);refine cJ (aE0 (N:=fun v K' L'=>∃bn,v=.agg #[hd 126,ptr bn,.int .u64 150]∧K'=K∧L'=[pt bn (bL [(ptr e)] 126),pt b6 (bL [hd 128,ptr bv,.int .u64 150] 179),pt bv (bL [ptr t] 128),pt t (bL [old] 126)]) Y Y Tryz.func93 vI vJ vK vL (fun w j=>⟨_,_,K,_,aUW e w,⟨_,Y,Y,Y⟩,xAB _,j.alloc _⟩)) Y ?_;rintro _ K _ ⟨bn,rfl,rfl,rfl⟩ -;refine cJ (aE0 (N:=fun v K' L'=>v=.tuple #[]∧K'=K∧L'=[pt bn (bL [(ptr e)] 126),pt b6 (bL [hd 128,ptr bv,.int .u64 150] 179),pt bv (bL [ptr t] 128),pt t (bL [(ptr e)] 126)]) Y Y Tryz.func137 bLR bLS bLT bLU (fun w j=>⟨_,_,K,_,bM6 ⟨t,0,none⟩ ⟨bn,0,none⟩ e old w (sU j .here).1 (sU j (.there (.there (.there .here)))).1 (sU j (.there (.there (.there .here)))).2,⟨Y,Y,Y⟩,xAB _,aG1 j (.there (.there (.there .here)))⟩)) Y ?_;rintro _ K _ ⟨rfl,rfl,rfl⟩ -;refine zz12 ?_;refine aQ (aM nC bF) (zz1 ?_);exact⟨_,Y,Y,Y,Y⟩
def bHT(e:Int)(t bv:Nat)(old:Value)(K:Hl):Sp x3 96 [.iface 50 (i64 e),.iface 132 (ptr t),.agg #[hd 132,ptr bv,.int .u64 150],.iface 229 (.agg #[hd 50])] K [pt bv (bL [ptr t] 132),pt t (bL [old] 50)] (Ret fun r K' L'=>r=.bool true∧K'=K∧L'=[pt t (bL [(i64 e)] 50)]):=by
 refine bN Tryz.func96 Y Tryz.ntmps96 Y Y fun F w=>?_;refine zz3 ?_;rintro _ K _ ⟨b6,rfl,rfl,rfl⟩ -;refine zz4 ?_;refine eH (fun(u:Unit)=>True) (fun _=>[(0,.iface 50 (i64 e)),(1,.iface 132 (ptr t)),(3,.iface 229 (.agg #[hd 50])),(6,ptr b6)]) (fun _=>K) (fun _=>[pt b6 (bL [hd 132,ptr bv,.int .u64 150] 179),pt bv (bL [ptr t] 132),pt t (bL [old] 50)]) (fun _=>0) () trivial aS Y (fun _ h=>h) ?_;intro _ _;refine zz5 ?_;refine aA (n8 Y Y Tryz.func97 yM yN yO yP (fun w _=>aCZ _ w)) Y (zz1 ?_);refine aA (iC Y Y (oO _) Tryz.func316 aI0 aI1 aI2 aI3 (fun w _=>aLQ w)) Y (zz6 ?_);refine aA (n8 Y Y Tryz.func136 aWV aWW aWX aWY (fun w j=>bC4 _ _ w (sU j (.there .here)).1)) Y (zz1 ?_);refine cJ (aE0 (N:=fun v K' L'=>∃bn,v=.agg #[hd 50,ptr bn,.int .u64 130]∧K'=K∧L'=[pt bn (bL [(i64 e)] 50),pt b6 (bL [hd 132,ptr bv,.int .u64 150] 179),pt bv (bL [ptr t] 132),pt t (bL [old] 50)]) Y Y Tryz.func93 vI vJ vK vL (fun w j=>⟨_,_,K,_,bBH e w,⟨_,Y,Y,Y⟩,xAB _,j.alloc _⟩)) Y ?_;rintro _ K _ ⟨bn,rfl,rfl,rfl⟩ -;refine cJ (aE0 (N:=fun v K' L'=>v=.tuple #[]∧K'=K∧L'=[pt bn (bL [(i64 e)] 50),pt b6 (bL [hd 132,ptr bv,.int .u64 150] 179),pt bv (bL [ptr t] 132),pt t (bL [(i64 e)] 50)]) Y Y Tryz.func137 bLR bLS bLT bLU (fun w j=>⟨_,_,K,_,bOZ ⟨t,0,none⟩ ⟨bn,0,none⟩ e old w (sU j .here).1 (sU j (.there (.there (.there .here)))).1 (sU j (.there (.there (.there .here)))).2,⟨Y,Y,Y⟩,xAB _,aG1 j (.there (.there (.there .here)))⟩)) Y ?_;rintro _ K _ ⟨rfl,rfl,rfl⟩ -;refine zz12 ?_;refine aQ (aM nC bF) (zz1 ?_);exact⟨_,Y,Y,Y,Y⟩
def bL1(e:Int)(t bv:Nat)(old:Value)(K:Hl):Sp x3 96 [.iface 50 (i64 e),.iface 128 (ptr t),.agg #[hd 128,ptr bv,.int .u64 150],.iface 229 (.agg #[hd 126])] K [pt bv (bL [ptr t] 128),pt t (bL [old] 126)] (Ret fun r K' L'=>r=.bool false∧K'=K∧L'=[pt t (bL [old] 126)]):=by
 refine bN Tryz.func96 Y Tryz.ntmps96 Y Y fun F w=>?_;refine zz3 ?_;rintro _ K _ ⟨b6,rfl,rfl,rfl⟩ -;refine zz4 ?_;refine eH (fun(u:Unit)=>True) (fun _=>[(0,.iface 50 (i64 e)),(1,.iface 128 (ptr t)),(3,.iface 229 (.agg #[hd 126])),(6,ptr b6)]) (fun _=>K) (fun _=>[pt b6 (bL [hd 128,ptr bv,.int .u64 150] 179),pt bv (bL [ptr t] 128),pt t (bL [old] 126)]) (fun _=>0) () trivial aS Y (fun _ h=>h) ?_;intro _ _;refine zz5 ?_;refine aA (n8 Y Y Tryz.func97 yM yN yO yP (fun w _=>aCZ _ w)) Y (zz1 ?_);refine aA (iC Y Y (oO _) Tryz.func316 aI0 aI1 aI2 aI3 (fun w _=>aC2 w)) Y (zz9 ?_);refine aA (aOR Y (bMI _)) Y (zz28 ?_);refine aA (aOR Y (aTE _)) Y (zz7 ?_);refine aA (aOR Y (aPM _)) Y (zz20 ?_);refine aQ (aM e7 bF) (zz1 ?_);exact⟨_,Y,Y,Y,Y⟩
def bNZ(e:Nat)(t:Nat)(old:Value)(K:Hl)(hE:ErrT K):Sp x3 56 [.iface 126 (ptr e),.iface 128 (ptr t)] K [pt t (bL [old] 126)] (Ret fun r K' L'=>r=.bool true∧K'=K∧L'=[pt t (bL [ptr e] 126)]):=by
 obtain⟨ET,Efz,hE⟩:=hE;refine bN Tryz.func56 Y Tryz.ntmps56 Y Y fun F w=>?_;refine zz28 ?_;refine cJ (aE0 (N:=fun v K' L'=>∃bv,v=.agg #[hd 128,ptr bv,.int .u64 150]∧K'=K∧L'=[pt bv (bL [ptr t] 128),pt t (bL [old] 126)]) Y Y Tryz.func93 vI vJ vK vL (fun w j=>⟨_,_,K,_,aIY t w,⟨_,Y,Y,Y⟩,xAB _,j.alloc _⟩)) Y ?_;rintro _ K _ ⟨bv,rfl,rfl,rfl⟩ -;refine zz1 ?_;rintro _ K _ ⟨b5,rfl,rfl,rfl⟩ -;refine cD (cX m6 Y Y Y bR gC1 (.cons (.cons (.cons .nil))) gC8) ?_;rintro _ K _ ⟨rfl,rfl⟩ -;refine zz5 ?_;refine aA (n8 Y Y Tryz.func94 aU6 aU7 aU8 aU9 (fun w _=>aWS _ w)) Y (zz7 ?_);refine aA (iC Y Y (qD _) Tryz.func305 aED aEE aEF aEG (fun w _=>aV0 w)) Y (zz5 ?_);refine aA (n8 Y Y Tryz.func95 aN1 aN2 aN3 aN4 (fun w j=>aO7 _ ⟨t,0,none⟩ w (sU j (.there .here)).1)) Y (zz9 ?_);refine aA (iC Y Y (aA0 _) Tryz.func318 aNX aNY aNZ aN0 (fun w _=>aVM w)) Y (zz7 ?_);refine aA (iC Y Y (qD _) Tryz.func305 aED aEE aEF aEG (fun w _=>aVZ w)) Y (zz5 ?_);refine aA (aK bG4 Y (.known hE) Y) Y (zz1 ?_);refine aA (iC Y Y (qC _) Tryz.func319 aU2 aU3 aU4 aU5 (fun w _=>zT w)) Y (zz1 ?_);refine aA gC3 Y (zz12 ?_);refine bA Y Y (bBU e t bv old _) bS Y ?_;rintro _ K _ ⟨rfl,rfl,rfl⟩ -;refine zz4 ?_;refine uAa ?_;refine zz1 ?_;exact⟨_,Y,Y,Y,Y⟩
def bP7(e:Int)(t:Nat)(old:Value)(K:Hl)(hE:ErrT K):Sp x3 56 [.iface 50 (i64 e),.iface 132 (ptr t)] K [pt t (bL [old] 50)] (Ret fun r K' L'=>r=.bool true∧K'=K∧L'=[pt t (bL [i64 e] 50)]):=by
 obtain⟨ET,Efz,hE⟩:=hE;refine bN Tryz.func56 Y Tryz.ntmps56 Y Y fun F w=>?_;refine zz28 ?_;refine cJ (aE0 (N:=fun v K' L'=>∃bv,v=.agg #[hd 132,ptr bv,.int .u64 150]∧K'=K∧L'=[pt bv (bL [ptr t] 132),pt t (bL [old] 50)]) Y Y Tryz.func93 vI vJ vK vL (fun w j=>⟨_,_,K,_,aUX t w,⟨_,Y,Y,Y⟩,xAB _,j.alloc _⟩)) Y ?_;rintro _ K _ ⟨bv,rfl,rfl,rfl⟩ -;refine zz1 ?_;rintro _ K _ ⟨b5,rfl,rfl,rfl⟩ -;refine cD (cX m6 Y Y Y bR gC1 (.cons (.cons (.cons .nil))) gC8) ?_;rintro _ K _ ⟨rfl,rfl⟩ -;refine zz5 ?_;refine aA (n8 Y Y Tryz.func94 aU6 aU7 aU8 aU9 (fun w _=>bKH _ w)) Y (zz7 ?_);refine aA (iC Y Y (qD _) Tryz.func305 aED aEE aEF aEG (fun w _=>bIQ w)) Y (zz5 ?_);refine aA (n8 Y Y Tryz.func95 aN1 aN2 aN3 aN4 (fun w j=>bDN _ ⟨t,0,none⟩ w (sU j (.there .here)).1)) Y (zz9 ?_);refine aA (iC Y Y (aA0 _) Tryz.func318 aNX aNY aNZ aN0 (fun w _=>bIA w)) Y (zz7 ?_);refine aA (iC Y Y (qD _) Tryz.func305 aED aEE aEF aEG (fun w _=>bMD w)) Y (zz5 ?_);refine aA (aK bG4 Y (.known hE) Y) Y (zz1 ?_);refine aA (iC Y Y (qC _) Tryz.func319 aU2 aU3 aU4 aU5 (fun w _=>aMJ w)) Y (zz1 ?_);refine aA gC3 Y (zz12 ?_);refine bA Y Y (bHT e t bv old _) bS Y ?_;rintro _ K _ ⟨rfl,rfl,rfl⟩ -;refine zz4 ?_;refine uAa ?_;refine zz1 ?_;exact⟨_,Y,Y,Y,Y⟩
def bL0(e:Int)(t:Nat)(old:Value)(K:Hl)(hE:ErrT K):Sp x3 56 [.iface 50 (i64 e),.iface 128 (ptr t)] K [pt t (bL [old] 126)] (Ret fun r K' L'=>r=.bool false∧K'=K∧L'=[pt t (bL [old] 126)]):=by
 obtain⟨ET,Efz,hE⟩:=hE;refine bN Tryz.func56 Y Tryz.ntmps56 Y Y fun F w=>?_;refine zz28 ?_;refine cJ (aE0 (N:=fun v K' L'=>∃bv,v=.agg #[hd 128,ptr bv,.int .u64 150]∧K'=K∧L'=[pt bv (bL [ptr t] 128),pt t (bL [old] 126)]) Y Y Tryz.func93 vI vJ vK vL (fun w j=>⟨_,_,K,_,aIY t w,⟨_,Y,Y,Y⟩,xAB _,j.alloc _⟩)) Y ?_;rintro _ K _ ⟨bv,rfl,rfl,rfl⟩ -;refine zz1 ?_;rintro _ K _ ⟨b5,rfl,rfl,rfl⟩ -;refine cD (cX m6 Y Y Y bR gC1 (.cons (.cons (.cons .nil))) gC8) ?_;rintro _ K _ ⟨rfl,rfl⟩ -;refine zz5 ?_;refine aA (n8 Y Y Tryz.func94 aU6 aU7 aU8 aU9 (fun w _=>aWS _ w)) Y (zz7 ?_);refine aA (iC Y Y (qD _) Tryz.func305 aED aEE aEF aEG (fun w _=>aV0 w)) Y (zz5 ?_);refine aA (n8 Y Y Tryz.func95 aN1 aN2 aN3 aN4 (fun w j=>aO7 _ ⟨t,0,none⟩ w (sU j (.there .here)).1)) Y (zz9 ?_);refine aA (iC Y Y (aA0 _) Tryz.func318 aNX aNY aNZ aN0 (fun w _=>aVM w)) Y (zz7 ?_);refine aA (iC Y Y (qD _) Tryz.func305 aED aEE aEF aEG (fun w _=>aVZ w)) Y (zz5 ?_);refine aA (aK bG4 Y (.known hE) Y) Y (zz1 ?_);refine aA (iC Y Y (qC _) Tryz.func319 aU2 aU3 aU4 aU5 (fun w _=>zT w)) Y (zz1 ?_);refine aA gC3 Y (zz12 ?_);refine bA Y Y (bL1 e t bv old _) bS Y ?_;rintro _ K _ ⟨rfl,rfl,rfl⟩ -;refine zz4 ?_;refine uAa ?_;refine zz1 ?_;exact⟨_,Y,Y,Y,Y⟩
def aDZ{K:Hl}{L:List Asn}{b:Nat}{o:Obj}{A:Asn}(h:Sees K L b o):Sees K (A::L) b o:=by
 cases h with
 |own f=>exact .own (.there f)
 |known h=>exact .known h
def aRJ(fb:Nat)(e at_:Int)(K:Hl)(L:List Asn)(hs:Sees K L fb (bL [i64 e,i64 at_] 131)):Sp x3 310 [ptr fb] K L (Ret fun v K' L'=>v=.iface 50 (i64 e)∧K'=K∧L'=L):=by
 refine bN Tryz.func310 Y Tryz.ntmps310 Y Y fun F w=>?_;refine zz10 ?_;refine aA (aK n6 Y hs Y) Y ?_;refine aA (fE Tryz.underlying50 (fun _ h=>by cases h) Y) Y (zz5 ?_);exact⟨_,Y,Y,Y,Y⟩
def bN9(fb:Nat)(e at_:Int)(K:Hl)(L:List Asn)(hs:Sees K L fb (bL [i64 e,i64 at_] 131)):Sp x3 98 [.iface 126 (ptr fb),.iface 50 (i64 e),.bool true] K L (Ret fun v K' L'=>v=.bool true∧K'=K∧L'=L):=by
 refine bN Tryz.func98 Y Tryz.ntmps98 Y Y fun F w=>?_;refine zz6 ?_;refine eH (fun(u:Bool)=>True) (fun u=>[(0,if u=true then .iface 126 (ptr fb)else .iface 50 (i64 e)),(1,.iface 50 (i64 e)),(2,.bool true)]) (fun _=>K) (fun _=>L) (fun u=>if u=true then 1 else 0) true trivial aS Y (fun _ h=>h) ?_;intro u _;refine bD ?_;cases u
 ·show T _ _ [(0,.iface 50 (i64 e)),(1,.iface 50 (i64 e)),(2,.bool true)] _ _ _
  refine zz10 ?_;refine aA (aAG Y Y (fun _=>Y) (fun w=>bN4 e w)) Y (zz15 ?_);exact⟨_,Y,Y,Y,Y⟩
 show T _ _ [(0,.iface 126 (ptr fb)),(1,.iface 50 (i64 e)),(2,.bool true)] _ _ _
 refine zz10 ?_;refine aA (aAG Y Y (fun _=>Y) (fun w=>bC6 fb e w)) Y (zz10 ?_);refine aA (aOR Y (bI0 _)) Y (zz28 ?_);refine aA (aOR Y (aMI _)) Y (zz13 ?_);refine oP Y Y (aMR fb) (aRJ fb e at_ _ _ hs) (cQ _) Y ?_;rintro _ K _ ⟨rfl,rfl,rfl⟩ -;rw[xAL];refine zz13 ?_;exact cM false trivial (by decide) aS Y (fun _ h=>h)
attribute [local semireducible] Go.SL.T Go.SL.OL Go.SL.D Go.SL.DL Go.SL.Ev Go.SL.Ef Go.SL.EfS in
def aVJ{E:Env}{x:Exit}{fr:Fr}{K:Hl}{L:List Asn}{A:Asn}{Q:Post}(h:D E x fr K L Q):D E x fr K (A::L) Q:=fun a w f i=>h a w f i.drop
def bQB(e:Int)(K:Hl):Sp x3 98 [.iface 50 (i64 e),.iface 50 (i64 e),.bool true] K [] (Val (.bool true) K):=by
 refine bN Tryz.func98 Y Tryz.ntmps98 Y Y fun F w=>?_;refine zz6 ?_;refine eH (fun(u:Unit)=>True) (fun u=>[(0,.iface 50 (i64 e)),(1,.iface 50 (i64 e)),(2,.bool true)]) (fun _=>K) (fun _=>[]) (fun u=>0) () trivial aS Y (fun _ h=>h) ?_;intro u _;refine zz11 ?_;refine aA (aAG Y Y (fun _=>Y) (fun w=>bN4 e w)) Y (zz15 ?_);exact⟨Y,Y,Y⟩
def bBX(fb:Nat)(e at_:Int)(K:Hl)(L:List Asn)(hs:Sees K L fb (bL [i64 e,i64 at_] 131)):Sp x3 57 [.iface 126 (ptr fb),.iface 50 (i64 e)] K L (Ret fun v K' L'=>v=.bool true∧K'=K∧L'=L):=by
 refine bN Tryz.func57 Y Tryz.ntmps57 Y Y fun F w=>?_;refine zz24 ?_;refine aA (n8 Y Y Tryz.func97 yM yN yO yP (fun w _=>aCZ _ w)) Y ?_;refine aA (iC Y Y (uX _) Tryz.func317 bHH bHI bHJ bHK (fun w _=>aBK w)) Y (zz8 ?_);refine bA Y Y (bN9 fb e at_ _ L hs) (cQ _) Y ?_;rintro _ K _ ⟨rfl,rfl,rfl⟩ -;rw[xAL];refine zz5 ?_;exact⟨_,Y,Y,Y,Y⟩
def bHW(e:Int)(K:Hl):Sp x3 57 [.iface 50 (i64 e),.iface 50 (i64 e)] K [] (Val (.bool true) K):=by
 refine bN Tryz.func57 Y Tryz.ntmps57 Y Y fun F w=>?_;refine zz24 ?_;refine aA (n8 Y Y Tryz.func97 yM yN yO yP (fun w _=>aCZ _ w)) Y ?_;refine aA (iC Y Y (uX _) Tryz.func317 bHH bHI bHJ bHK (fun w _=>aBK w)) Y (zz8 ?_);refine cN Y Y (bQB e _) Y (zz5 ?_);exact⟨Y,Y,Y⟩
def aIP(K:Hl):Sp x3 33 [.nilIface] K [] (Val (.tuple #[i64 0,i64 (-1)]) K):=by
 refine bN Tryz.func33 Y Tryz.ntmps33 Y Y fun F w=>?_;refine zz9 ?_;rintro _ K _ ⟨b4,rfl,rfl,rfl⟩ -;refine zz5 ?_;rintro _ K _ ⟨b5,rfl,rfl,rfl⟩ -;refine zz21 ?_;refine uAf ?_;refine j1 Y Y Y (xAB _) ?_;exact⟨Y,Y,Y⟩
def aNS(fb:Nat)(e at_:Int)(K:Hl)(L:List Asn)(hE:ErrT K)(hs:Sees K L fb (bL [i64 e,i64 at_] 131)):Sp x3 33 [.iface 126 (ptr fb)] K L (Ret fun v K' L'=>v=.tuple #[i64 e,i64 at_]∧K'=K∧L'=L):=by
 have hsA:∀A:Asn,Sees K (A::L) fb (bL [i64 e,i64 at_] 131):=fun A=>aDZ hs
 refine bN Tryz.func33 Y Tryz.ntmps33 Y Y fun F w=>?_;refine zz9 ?_;rintro _ K _ ⟨b4,rfl,rfl,rfl⟩ -;refine zz5 ?_;rintro _ K _ ⟨b5,rfl,rfl,rfl⟩ -;refine zz15 ?_;refine aA (fE Tryz.underlying128 (fun _ h=>by cases h) Y) Y ?_;refine bA Y Y (bNZ fb b4 _ _ hE) bS Y ?_;rintro _ K _ ⟨rfl,rfl,rfl⟩ -;have hs2:=aDZ (A:=pt b4 (bL [ptr fb] 126)) (aDZ (A:=pt b5 (bL [i64 0] 50)) hs);refine zz10 ?_;refine aA (aK n6 Y hs2 Y) Y (zz1 ?_);refine aA (fE Tryz.underlying50 (fun _ h=>by cases h) Y) Y (zz1 ?_);refine bA Y Y (bBX fb e at_ _ _ hs2) (cQ _) Y ?_;rintro _ K _ ⟨rfl,rfl,rfl⟩ -;rw[xAL];refine zz6 ?_;refine cZ (anc:=[0,1,3,7,0,16,48,112,15,511]) (ord:=[0,1,2,3,4,5,6,7,8,9]) [] [] mixed gC5 (cQ _) (zz3 ?_);refine aJ Y Y (.none Y) Y Y (aK n6 Y hs2 Y) Y (zz3 ?_);refine aJ Y Y (.none Y) Y Y (aK ts3 Y hs2 Y) Y (zz7 ?_);refine aVJ (aVJ ?_)
 refine j1 Y Y Y (xAB _) ?_;exact⟨_,Y,Y,Y,xAL L⟩
def bNP(e:Int)(K:Hl)(hE:ErrT K):Sp x3 33 [.iface 50 (i64 e)] K [] (Ret fun v K' L'=>v=.tuple #[i64 e,i64 (-1)]∧K'=K∧L'=[]):=by
 refine bN Tryz.func33 Y Tryz.ntmps33 Y Y fun F w=>?_;refine zz9 ?_;rintro _ K _ ⟨b4,rfl,rfl,rfl⟩ -;refine zz5 ?_;rintro _ K _ ⟨b5,rfl,rfl,rfl⟩ -;refine zz15 ?_;refine aA (fE Tryz.underlying128 (fun _ h=>by cases h) Y) Y ?_;refine bA Y Y (bL0 e b4 _ _ hE) bS Y ?_;rintro _ K _ ⟨rfl,rfl,rfl⟩ -;refine zz16 ?_;refine aA (fE Tryz.underlying132 (fun _ h=>by cases h) Y) Y ?_;refine bA Y Y (bP7 e b5 _ _ hE) bS Y ?_;rintro _ K _ ⟨rfl,rfl,rfl⟩ -;refine zz6 ?_;refine aA (fE Tryz.underlying50 (fun _ h=>by cases h) Y) Y (zz1 ?_);refine cN Y Y (bHW e _) Y (zz15 ?_);refine uAf ?_;refine j1 Y Y Y (xAB _) ?_;exact⟨_,Y,Y,Y,Y⟩
end Go.Proofs
end

/- Part 8 of what the proof stands on: walks and plain laws. Conditions: as each theorem says. -/
import Derived.Stop.Asserts
import Derived.RowKitTokens
import Derived.LaidEql
import Derived.Test.YthopmddkpdehiaaGreatDoorA7
set_option linter.unusedVariables false
set_option linter.unusedSimpArgs false
set_option linter.defProp false
set_option maxRecDepth 4000
set_option maxHeartbeats 1000000
section
attribute [local irreducible] Go.SL.T Go.SL.OL Go.SL.D Go.SL.DL Go.SL.Ev Go.SL.Ef Go.SL.EfS
section
namespace Go.Proofs
open Go Go.SL Go.Extern Tryz
abbrev hd(t:Nat):Value:=.pointer (some ⟨7,t,none⟩)
def rlm(z:Sem Value)(f:TypeId->Addr->Nat->Nat->Sem Value)(v:Value):
  ReflectliteValue.method z f #[v]=(do match <-ReflectliteValue.parts v with|none=>z|some (t,a,g)=>f t a g (g%32)):=rfl
def rls (v x : Value) : ∃ r1 W r3 : String, ∃ s : String -> String -> Sem Unit, ReflectliteValue.set #[v, x] = (do
  let (some (dst,a,g),some (c,b,_)):=(<-ReflectliteValue.parts v,<-ReflectliteValue.parts x)
   |unsupported (.noEntry r1)
  if g/ReflectliteValue.flagAddr%2==0 then unsupported (.noEntry W)
  let d <-loadVar c b
  if <-Rtype.directlyAssignable dst c then storeVar dst a d
  else if <-Rtype.implements dst c then
   if (<-Rtype.kind c)==20 then
    match d with
    | .nilIface=>unsupported (.noEntry r3)
    |_=>storeVar dst a d
   else storeVar dst a (.iface c d)
  else s (<-Rtype.spelt c) (<-Rtype.spelt dst)
  pure (.tuple #[])):=⟨_,_,_,fun a b=>panicString (_++a++_++b),rfl⟩
def E4(t:Nat)(w:World):(ReflectliteValue.unpack (.iface 120 (ptr t))).run x3 w=.ok (.agg #[hd 120,ptr w.heap.size,.int .u64 150]) (w.alloc (.cells #[ptr t] 120)):=cV
def MY(a:Addr)(w:World):(ReflectliteValue.methodAny (ReflectliteValue.valueError "reflectlite.Value.Type" 0) (fun t _ _ _=>ReflectliteType.toType t) #[.agg #[hd 120,.pointer (some a),.int .u64 150]]).run x3 w=.ok (.iface 265 (.agg #[hd 120])) w:=cV
def M8(w:World):((ReflectliteType.abiMethod fun t=>Functor.map (fun a:Nat=>Value.int IntKind.u8 (a:Int)) (Rtype.kind t)) #[hd 120]).run x3 w=.ok (.int .u8 22) w:=cV
def M7(w:World):((ReflectliteType.abiMethod fun t=>Functor.map (fun a:Nat=>Value.int IntKind.u8 (a:Int)) (Rtype.kind t)) #[hd 118]).run x3 w=.ok (.int .u8 22) w:=cV
def IE(a:Addr)(w:World):(ReflectliteValue.parts (.agg #[hd 120,.pointer (some a),.int .u64 150])).run x3 w=.ok (some (120,a,150)) w:=cV
def Is(a p:Addr)(W:World)(s:W.cell? a=some (.pointer (some p))):
  (ReflectliteValue.method (ReflectliteValue.valueError "reflectlite.Value.IsNil" 0) ReflectliteValue.isNil #[.agg #[hd 120,.pointer (some a),.int .u64 150]]).run x3 W=.ok (.bool false) W:=by
 rw[rlm];simp only[Sem.run_bind,IE,Result.andThen];simp[ReflectliteValue.isNil,loadVar,isAgg,underlying,underlying120,s,Result.andThen]
def Mr(w:World):(ReflectliteType.method ReflectliteType.elem #[.agg #[hd 120]]).run x3 w=.ok (.iface 265 (.agg #[hd 118])) w:=cV
def yI(w:World):(ReflectliteType.relation "Implements" ReflectliteType.implements_ #[.agg #[hd 118],.iface 265 (.agg #[hd 79])]).run x3 w=.ok (.bool true) w:=cV
def Qf(v:Value)(w:World):(ReflectliteType.typeOf #[.iface 118 v]).run x3 w=.ok (.iface 265 (.agg #[hd 118])) w:=cV
def EA(w:World):(ReflectliteType.relation "AssignableTo" ReflectliteType.assignableTo #[.agg #[hd 118],.iface 265 (.agg #[hd 118])]).run x3 w=.ok (.bool true) w:=cV
def LS(e:Nat)(w:World):(ReflectliteValue.unpack (.iface 118 (ptr e))).run x3 w=.ok (.agg #[hd 118,ptr w.heap.size,.int .u64 150]) (w.alloc (.cells #[(ptr e)] 118)):=cV
def NG(w:World):(Rtype.elem? 120).run x3 w=.ok (some 118) w:=cV
def YX(p:Addr)(w:World):(ReflectliteValue.mk 118 p ReflectliteValue.flagAddr).run x3 w=.ok (.agg #[hd 118,.pointer (some p),.int .u64 406]) w:=cV
def Rh(a p:Addr)(W:World)(s:W.cell? a=some (.pointer (some p))):
  (ReflectliteValue.method (ReflectliteValue.valueError "reflectlite.Value.Elem" 0) ReflectliteValue.elem #[.agg #[hd 120,.pointer (some a),.int .u64 150]]).run x3 W=.ok (.agg #[hd 118,.pointer (some p),.int .u64 406]) W:=by
 rw[rlm];simp only[Sem.run_bind,IE,Result.andThen];simp[ReflectliteValue.elem,loadVar,isAgg,underlying,underlying120,s,Result.andThen,NG,YX]
def OO(a:Addr)(w:World):(ReflectliteValue.parts (.agg #[hd 118,.pointer (some a),.int .u64 406])).run x3 w=.ok (some (118,a,406)) w:=cV
def Sq(a:Addr)(w:World):(ReflectliteValue.parts (.agg #[hd 118,.pointer (some a),.int .u64 150])).run x3 w=.ok (some (118,a,150)) w:=cV
def N7(w:World):(Rtype.directlyAssignable 118 118).run x3 w=.ok true w:=cV
def Yg(x b:Addr)(e:Nat)(a:Value)(W:World)(r:W.cell? b=some (ptr e))(I:W.cell? x=some a)(c:W.frozen? x=false):
  (ReflectliteValue.set #[.agg #[hd 118,.pointer (some x),.int .u64 406],.agg #[hd 118,.pointer (some b),.int .u64 150]]).run x3 W=.ok (.tuple #[]) (W.setCell x (ptr e)):=by
 obtain⟨_,_,_,_,h⟩:=rls (.agg #[hd 118,.pointer (some x),.int .u64 406]) (.agg #[hd 118,.pointer (some b),.int .u64 150]);rw[h];simp only[Sem.run_bind,OO,Sq,Result.andThen];simp[ReflectliteValue.flagAddr,loadVar,isAgg,underlying,underlying118,r,Result.andThen,N7,storeVar,Value.cells,storeCells,Addr.add];exact gHW
def LU(t:Nat)(w:World):(ReflectliteValue.unpack (.iface 124 (ptr t))).run x3 w=.ok (.agg #[hd 124,ptr w.heap.size,.int .u64 150]) (w.alloc (.cells #[ptr t] 124)):=cV
def Wk(a:Addr)(w:World):(ReflectliteValue.methodAny (ReflectliteValue.valueError "reflectlite.Value.Type" 0) (fun t _ _ _=>ReflectliteType.toType t) #[.agg #[hd 124,.pointer (some a),.int .u64 150]]).run x3 w=.ok (.iface 265 (.agg #[hd 124])) w:=cV
def Va(w:World):((ReflectliteType.abiMethod fun t=>Functor.map (fun a:Nat=>Value.int IntKind.u8 (a:Int)) (Rtype.kind t)) #[hd 124]).run x3 w=.ok (.int .u8 22) w:=cV
def X8(w:World):((ReflectliteType.abiMethod fun t=>Functor.map (fun a:Nat=>Value.int IntKind.u8 (a:Int)) (Rtype.kind t)) #[hd 30]).run x3 w=.ok (.int .u8 2) w:=cV
def IF(a:Addr)(w:World):(ReflectliteValue.parts (.agg #[hd 124,.pointer (some a),.int .u64 150])).run x3 w=.ok (some (124,a,150)) w:=cV
def R5(a p:Addr)(W:World)(s:W.cell? a=some (.pointer (some p))):
  (ReflectliteValue.method (ReflectliteValue.valueError "reflectlite.Value.IsNil" 0) ReflectliteValue.isNil #[.agg #[hd 124,.pointer (some a),.int .u64 150]]).run x3 W=.ok (.bool false) W:=by
 rw[rlm];simp only[Sem.run_bind,IF,Result.andThen];simp[ReflectliteValue.isNil,loadVar,isAgg,underlying,underlying124,s,Result.andThen]
def UE(w:World):(ReflectliteType.method ReflectliteType.elem #[.agg #[hd 124]]).run x3 w=.ok (.iface 265 (.agg #[hd 30])) w:=cV
def GI(w:World):(ReflectliteType.relation "Implements" ReflectliteType.implements_ #[.agg #[hd 30],.iface 265 (.agg #[hd 79])]).run x3 w=.ok (.bool true) w:=cV
def AO(v:Value)(w:World):(ReflectliteType.typeOf #[.iface 30 v]).run x3 w=.ok (.iface 265 (.agg #[hd 30])) w:=cV
def Gr(w:World):(ReflectliteType.relation "AssignableTo" ReflectliteType.assignableTo #[.agg #[hd 30],.iface 265 (.agg #[hd 30])]).run x3 w=.ok (.bool true) w:=cV
def Qi(e:Int)(w:World):(ReflectliteValue.unpack (.iface 30 (i64 e))).run x3 w=.ok (.agg #[hd 30,ptr w.heap.size,.int .u64 130]) (w.alloc (.cells #[(i64 e)] 30)):=cV
def NH(w:World):(Rtype.elem? 124).run x3 w=.ok (some 30) w:=cV
def aB9(p:Addr)(w:World):(ReflectliteValue.mk 30 p ReflectliteValue.flagAddr).run x3 w=.ok (.agg #[hd 30,.pointer (some p),.int .u64 386]) w:=cV
def Ri(a p:Addr)(W:World)(s:W.cell? a=some (.pointer (some p))):
  (ReflectliteValue.method (ReflectliteValue.valueError "reflectlite.Value.Elem" 0) ReflectliteValue.elem #[.agg #[hd 124,.pointer (some a),.int .u64 150]]).run x3 W=.ok (.agg #[hd 30,.pointer (some p),.int .u64 386]) W:=by
 rw[rlm];simp only[Sem.run_bind,IF,Result.andThen];simp[ReflectliteValue.elem,loadVar,isAgg,underlying,underlying124,s,Result.andThen,NH,aB9]
def Sr(a:Addr)(w:World):(ReflectliteValue.parts (.agg #[hd 30,.pointer (some a),.int .u64 386])).run x3 w=.ok (some (30,a,386)) w:=cV
def Vo(a:Addr)(w:World):(ReflectliteValue.parts (.agg #[hd 30,.pointer (some a),.int .u64 130])).run x3 w=.ok (some (30,a,130)) w:=cV
def QV(w:World):(Rtype.directlyAssignable 30 30).run x3 w=.ok true w:=cV
def aAS(x b:Addr)(e:Int)(a:Value)(W:World)(r:W.cell? b=some (i64 e))(I:W.cell? x=some a)(c:W.frozen? x=false):
  (ReflectliteValue.set #[.agg #[hd 30,.pointer (some x),.int .u64 386],.agg #[hd 30,.pointer (some b),.int .u64 130]]).run x3 W=.ok (.tuple #[]) (W.setCell x (i64 e)):=by
 obtain⟨_,_,_,_,h⟩:=rls (.agg #[hd 30,.pointer (some x),.int .u64 386]) (.agg #[hd 30,.pointer (some b),.int .u64 130]);rw[h];simp only[Sem.run_bind,Sr,Vo,Result.andThen];simp[ReflectliteValue.flagAddr,loadVar,isAgg,underlying,underlying30,r,Result.andThen,QV,storeVar,Value.cells,storeCells,Addr.add];exact gHW
def o7(h:Value)(w:World):(Go.method (x3.types.size+Made.depth) 265 (.agg #[h]) "Kind").run x3 w=.ok (396,h) w:=cV
def zI(h:Value)(w:World):(Go.method (x3.types.size+Made.depth) 265 (.agg #[h]) "Elem").run x3 w=.ok (416,.agg #[h]) w:=cV
def o6(h:Value)(w:World):(Go.method (x3.types.size+Made.depth) 265 (.agg #[h]) "Implements").run x3 w=.ok (417,.agg #[h]) w:=cV
def nR(h:Value)(w:World):(Go.method (x3.types.size+Made.depth) 265 (.agg #[h]) "AssignableTo").run x3 w=.ok (414,.agg #[h]) w:=cV
def tJ(h:Value)(w:World):(Go.method (x3.types.size+Made.depth) 265 (.agg #[h]) "Comparable").run x3 w=.ok (415,.agg #[h]) w:=cV
def GQ(a:Nat)(w:World):(Go.method (x3.types.size+Made.depth) 118 (ptr a) "Unwrap").run x3 w=.ok (407,ptr a) w:=cV
def AT(w:World):(ReflectliteType.relation "AssignableTo" ReflectliteType.assignableTo #[.agg #[hd 30],.iface 265 (.agg #[hd 118])]).run x3 w=.ok (.bool false) w:=cV
def Ab(w:World):(ReflectliteType.method (fun t=>do Rtype.noPackHeld "Comparable" t;pure (.bool (<-typeInfo t).comparable)) #[.agg #[hd 30]]).run x3 w=.ok (.bool true) w:=cV
def XE(v:Value)(w:World):(Instr.typeAssert (.iface 30 v) 79 269 true).run x3 w=.ok (.tuple #[.nilIface,.bool false]) w:=run_typeAssert_lacksB underlying269 cV cV v 79 w
def La(v:Value)(w:World):(Instr.typeAssert (.iface 30 v) 79 272 true).run x3 w=.ok (.tuple #[.nilIface,.bool false]) w:=run_typeAssert_lacksB underlying272 cV cV v 79 w
def I9(v:Value)(w:World):(Instr.typeAssert (.iface 30 v) 79 273 true).run x3 w=.ok (.tuple #[.nilIface,.bool false]) w:=run_typeAssert_lacksB underlying273 cV cV v 79 w
def GH(v:Value)(w:World):(Instr.typeAssert (.iface 118 v) 79 272 true).run x3 w=.ok (.tuple #[.iface 118 v,.bool true]) w:=run_typeAssert_hasB underlying272 cV v 79 w
def Vm(v:Value)(w:World):(Instr.typeAssert (.iface 118 v) 79 276 true).run x3 w=.ok (.tuple #[.nilIface,.bool false]) w:=run_typeAssert_lacksB underlying276 cV cV v 79 w
def Rk(a:Nat)(e:Int)(w:World):(binOp .eql 79 (.iface 118 (ptr a)) (.iface 30 (i64 e))).run x3 w=.ok (.bool false) w:=cV
def YH(e:Int)(w:World):(binOp .eql 79 (.iface 30 (i64 e)) (.iface 30 (i64 e))).run x3 w=.ok (.bool true) w:=by
 have h:(binOp .eql 79 (.iface 30 (i64 e)) (.iface 30 (i64 e))).run x3 w=.ok (.bool (decide (e=e))) w:=cV
 rw[h];simp
section
variable{F K:Hl}{L:List Asn}{b:Nat}{v:Value}{w w0:World}
def tZ:(Tryz.f93.name== "runtime.NumGoroutine")=false:=cV
def t6:Tryz.f93.body.isNone=true:=cV
def t7:Go.Extern.findNext Tryz.f93=none:=cV
def t8:Go.Extern.find Tryz.f93=some (fun args=>ReflectliteValue.unpack (args.getD 0 (.tuple #[]))):=cV
def Md:(Tryz.f94.name== "runtime.NumGoroutine")=false:=cV
def Me:Tryz.f94.body.isNone=true:=cV
def Mf:Go.Extern.findNext Tryz.f94=none:=cV
def Mg:Go.Extern.find Tryz.f94=some (ReflectliteValue.methodAny (ReflectliteValue.valueError "reflectlite.Value.Type" 0) (fun t _ _ _=>ReflectliteType.toType t)):=cV
def HA:(Tryz.f95.name== "runtime.NumGoroutine")=false:=cV
def HB:Tryz.f95.body.isNone=true:=cV
def HC:Go.Extern.findNext Tryz.f95=none:=cV
def HD:Go.Extern.find Tryz.f95=some (ReflectliteValue.method (ReflectliteValue.valueError "reflectlite.Value.IsNil" 0) ReflectliteValue.isNil):=cV
def wY:(Tryz.f97.name== "runtime.NumGoroutine")=false:=cV
def wZ:Tryz.f97.body.isNone=true:=cV
def w8:Go.Extern.findNext Tryz.f97=none:=cV
def w9:Go.Extern.find Tryz.f97=some ReflectliteType.typeOf:=cV
def Nf:(Tryz.f156.name== "runtime.NumGoroutine")=false:=cV
def Ng:Tryz.f156.body.isNone=true:=cV
def Nh:Go.Extern.findNext Tryz.f156=none:=cV
def Ni:Go.Extern.find Tryz.f156=some (ReflectliteValue.method (ReflectliteValue.valueError "reflectlite.Value.Elem" 0) ReflectliteValue.elem):=cV
def Xd:(Tryz.f157.name== "runtime.NumGoroutine")=false:=cV
def Xe:Tryz.f157.body.isNone=true:=cV
def Xf:Go.Extern.findNext Tryz.f157=none:=cV
def Xg:Go.Extern.find Tryz.f157=some ReflectliteValue.set:=cV
def BE:(Tryz.f396.name== "runtime.NumGoroutine")=false:=cV
def BF:Tryz.f396.body.isNone=true:=cV
def BG:Go.Extern.findNext Tryz.f396=none:=cV
def BH:Go.Extern.find Tryz.f396=some (ReflectliteType.abiMethod fun t=>do pure (.int .u8 (<-Rtype.kind t))):=cV
def E6:(Tryz.f414.name== "runtime.NumGoroutine")=false:=cV
def E7:Tryz.f414.body.isNone=true:=cV
def E8:Go.Extern.findNext Tryz.f414=none:=cV
def E9:Go.Extern.find Tryz.f414=some (ReflectliteType.relation "AssignableTo" ReflectliteType.assignableTo):=cV
def Uj:(Tryz.f415.name== "runtime.NumGoroutine")=false:=cV
def Uk:Tryz.f415.body.isNone=true:=cV
def Ul:Go.Extern.findNext Tryz.f415=none:=cV
def Um:Go.Extern.find Tryz.f415=some (ReflectliteType.method fun t=>do Rtype.noPackHeld "Comparable" t;pure (.bool (<-typeInfo t).comparable)):=cV
def H6:(Tryz.f416.name== "runtime.NumGoroutine")=false:=cV
def H7:Tryz.f416.body.isNone=true:=cV
def H8:Go.Extern.findNext Tryz.f416=none:=cV
def H9:Go.Extern.find Tryz.f416=some (ReflectliteType.method ReflectliteType.elem):=cV
def LZ:(Tryz.f417.name== "runtime.NumGoroutine")=false:=cV
def Ma:Tryz.f417.body.isNone=true:=cV
def Mb:Go.Extern.findNext Tryz.f417=none:=cV
def Mc:Go.Extern.find Tryz.f417=some (ReflectliteType.relation "Implements" ReflectliteType.implements_):=cV
def ErrT(K:Hl):Prop:=∃T w,K 0=some (bK [.iface 265 (.agg #[hd 79])] T w)
def ErrT.mono{a:Hl}(h:ErrT K)(le:K.le a):ErrT a:=let ⟨T,w,h⟩:=h;⟨T,w,le _ _ h⟩
def rM{T:TypeId}(i:In w0 F K L w)(h:Hs (pt b (bK [v] T)) L):w.cell? ⟨b,0,none⟩=some v/\w.frozen? ⟨b,0,none⟩=false:=by
 have:=(Sees.own (K:=K) h).at i;exact⟨nK this Y,by simp[World.frozen?,this]⟩
def Dr{L':List Asn}{v':Value}{T:TypeId}(i:In w0 F K L w)(a:Fnd (pt b (bK [v] T)) (pt b (bK [v'] T)) L L'):In w0 F K L' (w.setCell ⟨b,0,none⟩ v'):=by
 have r:=i.mem a;have G:b<w.heap.size:=(xBR.1 r).1;have e:w.setCell ⟨b,0,none⟩ v'={w with heap:=(w.setCell ⟨b,0,none⟩ v').heap}:=by
  unfold World.setCell;rfl
 rw[e];refine i.writeAt a (by simp[World.setCell]) ?_ ?_
 ·show (w.heap.modify b _)[b]?=_
  rw[Array.getElem?_modify,x7 rfl,r];rfl
 intro x c;exact RowKit.Below.heap_setCell w ⟨b,0,none⟩ v' x c
def Qw(e:Nat)(t P:Nat)(a:Value)(K:Hl):Sp x3 96 [.iface 118 (ptr e),.iface 120 (ptr t),.agg #[hd 120,ptr P,.int .u64 150],.iface 265 (.agg #[hd 118])] K [pt P (bK [ptr t] 120),pt t (bK [a] 118)] (Ret fun r b L'=>r=.bool true/\b=K/\L'=[pt t (bK [(ptr e)] 118)]):=by
 refine bL func96 Y ntmps96 Y Y fun F w=>Z3 ?_;refine aCJ fun h=>Z4 ?_;refine eD (fun(u:Unit)=>True) (fun _=>[(0,.iface 118 (ptr e)),(1,.iface 120 (ptr t)),(3,.iface 265 (.agg #[hd 118])),(6,ptr h)]) (fun _=>K) (fun _=>[pt h (bK [hd 120,ptr P,.int .u64 150] 188),pt P (bK [ptr t] 120),pt t (bK [a] 118)]) (fun _=>0) () trivial bM Y a7 ?_;intro _ _;refine Z5 ?_;refine aA (nH Y Y func97 wY wZ w8 w9 (fun w _=>Qf _ w)) Y (Z1 ?_);refine aA (gP Y Y (nR _) func414 E6 E7 E8 E9 (fun w _=>EA w)) Y (Z6 ?_);refine aA (nH Y Y func156 Nf Ng Nh Ni (fun w j=>Rh _ _ w (rM j (.there .here)).1)) Y (Z1 ?_);refine cG (Cb (N:=fun v b L'=>∃c,v=.agg #[hd 118,ptr c,.int .u64 150]/\b=K/\L'=[pt c (bK [(ptr e)] 118),pt h (bK [hd 120,ptr P,.int .u64 150] 188),pt P (bK [ptr t] 120),pt t (bK [a] 118)]) Y Y func93 tZ t6 t7 t8 (fun w j=>⟨_,_,K,_,LS e w,⟨_,Y,Y,Y⟩,xAB _,j.alloc _⟩)) Y (aCJ fun c=>cG (Cb (N:=fun v b L'=>v=.tuple #[]/\b=K/\L'=[pt c (bK [(ptr e)] 118),pt h (bK [hd 120,ptr P,.int .u64 150] 188),pt P (bK [ptr t] 120),pt t (bK [(ptr e)] 118)]) Y Y func157 Xd Xe Xf Xg (fun w j=>⟨_,_,K,_,Yg ⟨t,0,none⟩ ⟨c,0,none⟩ e a w (rM j .here).1 (rM j (.there (.there (.there .here)))).1 (rM j (.there (.there (.there .here)))).2,⟨Y,Y,Y⟩,xAB _,Dr j (.there (.there (.there .here)))⟩)) Y (aCL (ZC ?_)));refine aV (aQ AR bT) (Z1 ?_);exact gDF
def Uu(e:Int)(t P:Nat)(a:Value)(K:Hl):Sp x3 96 [.iface 30 (i64 e),.iface 124 (ptr t),.agg #[hd 124,ptr P,.int .u64 150],.iface 265 (.agg #[hd 30])] K [pt P (bK [ptr t] 124),pt t (bK [a] 30)] (Ret fun r b L'=>r=.bool true/\b=K/\L'=[pt t (bK [(i64 e)] 30)]):=by
 refine bL func96 Y ntmps96 Y Y fun F w=>Z3 ?_;refine aCJ fun h=>Z4 ?_;refine eD (fun(u:Unit)=>True) (fun _=>[(0,.iface 30 (i64 e)),(1,.iface 124 (ptr t)),(3,.iface 265 (.agg #[hd 30])),(6,ptr h)]) (fun _=>K) (fun _=>[pt h (bK [hd 124,ptr P,.int .u64 150] 188),pt P (bK [ptr t] 124),pt t (bK [a] 30)]) (fun _=>0) () trivial bM Y a7 ?_;intro _ _;refine Z5 ?_;refine aA (nH Y Y func97 wY wZ w8 w9 (fun w _=>AO _ w)) Y (Z1 ?_);refine aA (gP Y Y (nR _) func414 E6 E7 E8 E9 (fun w _=>Gr w)) Y (Z6 ?_);refine aA (nH Y Y func156 Nf Ng Nh Ni (fun w j=>Ri _ _ w (rM j (.there .here)).1)) Y (Z1 ?_);refine cG (Cb (N:=fun v b L'=>∃c,v=.agg #[hd 30,ptr c,.int .u64 130]/\b=K/\L'=[pt c (bK [(i64 e)] 30),pt h (bK [hd 124,ptr P,.int .u64 150] 188),pt P (bK [ptr t] 124),pt t (bK [a] 30)]) Y Y func93 tZ t6 t7 t8 (fun w j=>⟨_,_,K,_,Qi e w,⟨_,Y,Y,Y⟩,xAB _,j.alloc _⟩)) Y (aCJ fun c=>cG (Cb (N:=fun v b L'=>v=.tuple #[]/\b=K/\L'=[pt c (bK [(i64 e)] 30),pt h (bK [hd 124,ptr P,.int .u64 150] 188),pt P (bK [ptr t] 124),pt t (bK [(i64 e)] 30)]) Y Y func157 Xd Xe Xf Xg (fun w j=>⟨_,_,K,_,aAS ⟨t,0,none⟩ ⟨c,0,none⟩ e a w (rM j .here).1 (rM j (.there (.there (.there .here)))).1 (rM j (.there (.there (.there .here)))).2,⟨Y,Y,Y⟩,xAB _,Dr j (.there (.there (.there .here)))⟩)) Y (aCL (ZC ?_)));refine aV (aQ AR bT) (Z1 ?_);exact gDF
def Xn(e:Int)(t P:Nat)(a:Value)(K:Hl):Sp x3 96 [.iface 30 (i64 e),.iface 120 (ptr t),.agg #[hd 120,ptr P,.int .u64 150],.iface 265 (.agg #[hd 118])] K [pt P (bK [ptr t] 120),pt t (bK [a] 118)] (Ret fun r b L'=>r=.bool false/\b=K/\L'=[pt t (bK [a] 118)]):=by
 refine bL func96 Y ntmps96 Y Y fun F w=>Z3 ?_;refine aCJ fun h=>Z4 ?_;refine eD (fun(u:Unit)=>True) (fun _=>[(0,.iface 30 (i64 e)),(1,.iface 120 (ptr t)),(3,.iface 265 (.agg #[hd 118])),(6,ptr h)]) (fun _=>K) (fun _=>[pt h (bK [hd 120,ptr P,.int .u64 150] 188),pt P (bK [ptr t] 120),pt t (bK [a] 118)]) (fun _=>0) () trivial bM Y a7 ?_;intro _ _;refine Z5 ?_;refine aA (nH Y Y func97 wY wZ w8 w9 (fun w _=>AO _ w)) Y (Z1 ?_);refine aA (gP Y Y (nR _) func414 E6 E7 E8 E9 (fun w _=>AT w)) Y (Z9 ?_);refine aA (HZ Y (XE _)) Y (ZS ?_);refine aA (HZ Y (La _)) Y (Z7 ?_);refine aA (HZ Y (I9 _)) Y (ZK ?_);refine aV (aQ jS bT) (Z1 ?_);exact gDF
def YC(e:Nat)(t:Nat)(a:Value)(K:Hl)(d:ErrT K):Sp x3 55 [.iface 118 (ptr e),.iface 120 (ptr t)] K [pt t (bK [a] 118)] (Ret fun r b L'=>r=.bool true/\b=K/\L'=[pt t (bK [ptr e] 118)]):=by
 obtain⟨h,f,d⟩:=d;refine bL func55 Y ntmps55 Y Y fun F w=>ZS ?_;refine cG (Cb (N:=fun v b L'=>∃P,v=.agg #[hd 120,ptr P,.int .u64 150]/\b=K/\L'=[pt P (bK [ptr t] 120),pt t (bK [a] 118)]) Y Y func93 tZ t6 t7 t8 (fun w j=>⟨_,_,K,_,E4 t w,⟨_,Y,Y,Y⟩,xAB _,j.alloc _⟩)) Y (aCJ fun P=>Z1 ?_);refine aCJ fun i=>cA (cQ mI Y Y Y bP gA5 (.cons (.cons (.cons .nil))) gBA) ?_;refine aCK (Z5 ?_);refine aA (nH Y Y func94 Md Me Mf Mg (fun w _=>MY _ w)) Y (Z7 ?_);refine aA (gP Y Y (o7 _) func396 BE BF BG BH (fun w _=>M8 w)) Y (Z5 ?_);refine aA (nH Y Y func95 HA HB HC HD (fun w j=>Is _ ⟨t,0,none⟩ w (rM j (.there .here)).1)) Y (Z9 ?_);refine aA (gP Y Y (zI _) func416 H6 H7 H8 H9 (fun w _=>Mr w)) Y (Z7 ?_);refine aA (gP Y Y (o7 _) func396 BE BF BG BH (fun w _=>M7 w)) Y (Z5 ?_);refine aA (aK TU Y (.known d) Y) Y (Z1 ?_);refine aA (gP Y Y (o6 _) func417 LZ Ma Mb Mc (fun w _=>yI w)) Y (Z1 ?_);refine aA gAB Y (ZC ?_);refine bA Y Y (Qw e t P a _) bQ Y ?_;exact gGL
def aBX(e:Int)(t:Nat)(a:Value)(K:Hl)(d:ErrT K):Sp x3 55 [.iface 30 (i64 e),.iface 124 (ptr t)] K [pt t (bK [a] 30)] (Ret fun r b L'=>r=.bool true/\b=K/\L'=[pt t (bK [i64 e] 30)]):=by
 obtain⟨h,f,d⟩:=d;refine bL func55 Y ntmps55 Y Y fun F w=>ZS ?_;refine cG (Cb (N:=fun v b L'=>∃P,v=.agg #[hd 124,ptr P,.int .u64 150]/\b=K/\L'=[pt P (bK [ptr t] 124),pt t (bK [a] 30)]) Y Y func93 tZ t6 t7 t8 (fun w j=>⟨_,_,K,_,LU t w,⟨_,Y,Y,Y⟩,xAB _,j.alloc _⟩)) Y (aCJ fun P=>Z1 ?_);refine aCJ fun i=>cA (cQ mI Y Y Y bP gA5 (.cons (.cons (.cons .nil))) gBA) ?_;refine aCK (Z5 ?_);refine aA (nH Y Y func94 Md Me Mf Mg (fun w _=>Wk _ w)) Y (Z7 ?_);refine aA (gP Y Y (o7 _) func396 BE BF BG BH (fun w _=>Va w)) Y (Z5 ?_);refine aA (nH Y Y func95 HA HB HC HD (fun w j=>R5 _ ⟨t,0,none⟩ w (rM j (.there .here)).1)) Y (Z9 ?_);refine aA (gP Y Y (zI _) func416 H6 H7 H8 H9 (fun w _=>UE w)) Y (Z7 ?_);refine aA (gP Y Y (o7 _) func396 BE BF BG BH (fun w _=>X8 w)) Y (Z5 ?_);refine aA (aK TU Y (.known d) Y) Y (Z1 ?_);refine aA (gP Y Y (o6 _) func417 LZ Ma Mb Mc (fun w _=>GI w)) Y (Z1 ?_);refine aA gAB Y (ZC ?_);refine bA Y Y (Uu e t P a _) bQ Y ?_;exact gGL
def Xm(e:Int)(t:Nat)(a:Value)(K:Hl)(d:ErrT K):Sp x3 55 [.iface 30 (i64 e),.iface 120 (ptr t)] K [pt t (bK [a] 118)] (Ret fun r b L'=>r=.bool false/\b=K/\L'=[pt t (bK [a] 118)]):=by
 obtain⟨h,f,d⟩:=d;refine bL func55 Y ntmps55 Y Y fun F w=>ZS ?_;refine cG (Cb (N:=fun v b L'=>∃P,v=.agg #[hd 120,ptr P,.int .u64 150]/\b=K/\L'=[pt P (bK [ptr t] 120),pt t (bK [a] 118)]) Y Y func93 tZ t6 t7 t8 (fun w j=>⟨_,_,K,_,E4 t w,⟨_,Y,Y,Y⟩,xAB _,j.alloc _⟩)) Y (aCJ fun P=>Z1 ?_);refine aCJ fun i=>cA (cQ mI Y Y Y bP gA5 (.cons (.cons (.cons .nil))) gBA) ?_;refine aCK (Z5 ?_);refine aA (nH Y Y func94 Md Me Mf Mg (fun w _=>MY _ w)) Y (Z7 ?_);refine aA (gP Y Y (o7 _) func396 BE BF BG BH (fun w _=>M8 w)) Y (Z5 ?_);refine aA (nH Y Y func95 HA HB HC HD (fun w j=>Is _ ⟨t,0,none⟩ w (rM j (.there .here)).1)) Y (Z9 ?_);refine aA (gP Y Y (zI _) func416 H6 H7 H8 H9 (fun w _=>Mr w)) Y (Z7 ?_);refine aA (gP Y Y (o7 _) func396 BE BF BG BH (fun w _=>M7 w)) Y (Z5 ?_);refine aA (aK TU Y (.known d) Y) Y (Z1 ?_);refine aA (gP Y Y (o6 _) func417 LZ Ma Mb Mc (fun w _=>yI w)) Y (Z1 ?_);refine aA gAB Y (ZC ?_);refine bA Y Y (Xn e t P a _) bQ Y ?_;exact gGL
def B0{o:Obj}{A:Asn}(h:Sees K L b o):Sees K (A::L) b o:=by
 cases h with
 |own f=>exact .own (.there f)
 |known h=>exact .known h
def JC(b:Nat)(e a:Int)(K:Hl)(L:List Asn)(d:Sees K L b (bK [i64 e,i64 a] 123)):Sp x3 407 [ptr b] K L (Ret fun v c L'=>v=.iface 30 (i64 e)/\c=K/\L'=L):=by
 refine bL func407 Y ntmps407 Y Y fun F w=>ZA ?_;refine aA (aK nD Y d Y) Y (aA (eX xCM (fun _ h=>by cases h) Y) Y (Z5 ?_));exact gDF
def YM(a:Nat)(e b:Int)(K:Hl)(L:List Asn)(d:Sees K L a (bK [i64 e,i64 b] 123)):Sp x3 98 [.iface 118 (ptr a),.iface 30 (i64 e),.bool true] K L (Ret fun v c L'=>v=.bool true/\c=K/\L'=L):=by
 refine bL func98 Y ntmps98 Y Y fun F w=>Z6 ?_;refine eD (fun(u:Bool)=>True) (fun u=>[(0,if u=true then .iface 118 (ptr a)else .iface 30 (i64 e)),(1,.iface 30 (i64 e)),(2,.bool true)]) (fun _=>K) (fun _=>L) (fun u=>if u=true then 1 else 0) true trivial bM Y a7 ?_;intro u _;refine bC ?_;cases u
 ·show T _ _ [(0,.iface 30 (i64 e)),(1,.iface 30 (i64 e)),(2,.bool true)] _ _ _
  refine ZA ?_;refine aA (yV Y Y (fun _=>Y) (fun w=>YH e w)) Y (ZF ?_);exact gDF
 show T _ _ [(0,.iface 118 (ptr a)),(1,.iface 30 (i64 e)),(2,.bool true)] _ _ _
 refine ZA ?_;refine aA (yV Y Y (fun _=>Y) (fun w=>Rk a e w)) Y (ZA ?_);refine aA (HZ Y (Vm _)) Y (ZS ?_);refine aA (HZ Y (GH _)) Y (ZD ?_);refine nS Y Y (GQ a) (JC a e b _ _ d) (cM _) Y (aCL ?_);rw[xAL];refine ZD ?_;exact cX false trivial dD bM Y a7
end
attribute [local semireducible] Go.SL.T Go.SL.OL Go.SL.D Go.SL.DL Go.SL.Ev Go.SL.Ef Go.SL.EfS in
def Mo{E:Env}{x:Exit}{g:Fr}{K:Hl}{L:List Asn}{A:Asn}{Q:Post}(h:D E x g K L Q):D E x g K (A::L) Q:=fun a w f i=>h a w f i.drop
def aB3(e:Int)(K:Hl):Sp x3 98 [.iface 30 (i64 e),.iface 30 (i64 e),.bool true] K [] (Val (.bool true) K):=by
 refine bL func98 Y ntmps98 Y Y fun F w=>Z6 ?_;refine eD (fun(u:Unit)=>True) (fun u=>[(0,.iface 30 (i64 e)),(1,.iface 30 (i64 e)),(2,.bool true)]) (fun _=>K) (fun _=>[]) (fun u=>0) () trivial bM Y a7 ?_;intro u _;refine ZB ?_;refine aA (yV Y Y (fun _=>Y) (fun w=>YH e w)) Y (ZF ?_);exact gDP
def Qz(b:Nat)(e a:Int)(K:Hl)(L:List Asn)(d:Sees K L b (bK [i64 e,i64 a] 123)):Sp x3 56 [.iface 118 (ptr b),.iface 30 (i64 e)] K L (Ret fun v c L'=>v=.bool true/\c=K/\L'=L):=by
 refine bL func56 Y ntmps56 Y Y fun F w=>ZO ?_;refine aA (nH Y Y func97 wY wZ w8 w9 (fun w _=>AO _ w)) Y (aA (gP Y Y (tJ _) func415 Uj Uk Ul Um (fun w _=>Ab w)) Y (Z8 ?_));refine bA Y Y (YM b e a _ L d) (cM _) Y (aCL ?_);rw[xAL];exact gHT
def Ux(e:Int)(K:Hl):Sp x3 56 [.iface 30 (i64 e),.iface 30 (i64 e)] K [] (Val (.bool true) K):=by
 refine bL func56 Y ntmps56 Y Y fun F w=>ZO ?_;refine aA (nH Y Y func97 wY wZ w8 w9 (fun w _=>AO _ w)) Y (aA (gP Y Y (tJ _) func415 Uj Uk Ul Um (fun w _=>Ab w)) Y (Z8 ?_));refine cH Y Y (aB3 e _) Y (Z5 ?_);exact gDP
def Et(K:Hl):Sp x3 37 [.nilIface] K [] (Val (.tuple #[i64 0,i64 (-1)]) K):=by
 refine bL func37 Y ntmps37 Y Y fun F w=>Z9 ?_;refine aCJ fun j=>Z5 ?_;refine aCJ fun h=>ZL ?_;refine uAd ?_;refine jK Y Y Y (xAB _) ?_;exact gDP
def H1(b:Nat)(e a:Int)(K:Hl)(L:List Asn)(g:ErrT K)(c:Sees K L b (bK [i64 e,i64 a] 123)):Sp x3 37 [.iface 118 (ptr b)] K L (Ret fun v d L'=>v=.tuple #[i64 e,i64 a]/\d=K/\L'=L):=by
 have i:∀A:Asn,Sees K (A::L) b (bK [i64 e,i64 a] 123):=fun A=>B0 c
 refine bL func37 Y ntmps37 Y Y fun F w=>Z9 ?_;refine aCJ fun j=>Z5 ?_;refine aCJ fun f=>ZF ?_;refine aA (eX underlying120 (fun _ h=>by cases h) Y) Y (bA Y Y (YC b j _ _ g) bQ Y ?_);refine aCL ?_;have t:=B0 (A:=pt j (bK [ptr b] 118)) (B0 (A:=pt f (bK [i64 0] 30)) c);refine ZA ?_;refine aA (aK nD Y t Y) Y (Z1 ?_);refine aA (eX xCM (fun _ h=>by cases h) Y) Y (Z1 ?_);refine bA Y Y (Qz b e a _ _ t) (cM _) Y (aCL ?_);rw[xAL];refine Z6 ?_;refine cN [] [] mixed gAD (cM _) (Z3 ?_);refine aJ Y Y (.none Y) Y Y (aK nD Y t Y) Y (Z3 ?_);refine aJ Y Y (.none Y) Y Y (aK ts3 Y t Y) Y (Z7 ?_);refine Mo (Mo ?_)
 refine jK Y Y Y (xAB _) ?_;exact⟨_,Y,Y,Y,xAL L⟩
def Yz(e:Int)(K:Hl)(a:ErrT K):Sp x3 37 [.iface 30 (i64 e)] K [] (Ret fun v b L'=>v=.tuple #[i64 e,i64 (-1)]/\b=K/\L'=[]):=by
 refine bL func37 Y ntmps37 Y Y fun F w=>Z9 ?_;refine aCJ fun j=>Z5 ?_;refine aCJ fun c=>ZF ?_;refine aA (eX underlying120 (fun _ h=>by cases h) Y) Y (bA Y Y (Xm e j _ _ a) bQ Y ?_);refine aCL (ZG ?_);refine aA (eX underlying124 (fun _ h=>by cases h) Y) Y (bA Y Y (aBX e c _ _ a) bQ Y ?_);refine aCL (Z6 ?_);refine aA (eX xCM (fun _ h=>by cases h) Y) Y (Z1 ?_);refine cH Y Y (Ux e _) Y (ZF ?_);refine uAd ?_;refine jK Y Y Y (xAB _) ?_;exact gDF
end Go.Proofs
end
end

/-
  What the proof stands on, part 19: the logic of walks, the walks through the functions, the plain laws. Conditions: as each theorem says. (Merged and shortened by a program.)
-/
import Derived.Stop.Asserts
import Derived.RowKitTokens
import Derived.LaidEql
import Derived.Test.YthopmddkpdehiaaGreatDoorK7
set_option linter.unusedVariables false
set_option linter.unusedSimpArgs false
set_option maxRecDepth 4000
set_option maxHeartbeats 1000000
section
namespace Go.Proofs
open Go Go.SL Go.Extern
abbrev hd(t:Nat):Value:=.pointer (some ⟨7,t,none⟩)
theorem rlm(z:Sem Value)(f:TypeId→Addr→Nat→Nat→Sem Value)(v:Value):
  ReflectliteValue.method z f #[v]=(do match ←ReflectliteValue.parts v with|none=>z|some (t,a,fl)=>f t a fl (fl % 32)):=rfl
theorem rls (v x : Value) : ∃ r1 r2 r3 : String, ∃ r4 : String → String → Sem Unit, ReflectliteValue.set #[v, x] = (do
  let (some (dst,a,fl),some (src,b,_)):=(←ReflectliteValue.parts v,←ReflectliteValue.parts x)
   |unsupported (.noEntry r1)
  if fl / ReflectliteValue.flagAddr % 2==0 then unsupported (.noEntry r2)
  let val ←loadVar src b
  if ←Rtype.directlyAssignable dst src then storeVar dst a val
  else if ←Rtype.implements dst src then
   if (←Rtype.kind src)==20 then
    match val with
    | .nilIface=>unsupported (.noEntry r3)
    |_=>storeVar dst a val
   else storeVar dst a (.iface src val)
  else r4 (←Rtype.spelt src) (←Rtype.spelt dst)
  pure (.tuple #[])):=⟨_,_,_,fun a b=>panicString (_++a++_++b),rfl⟩
theorem aL6(t:Nat)(w:World):(ReflectliteValue.unpack (.iface 120 (ptr t))).run Tryz.prog w=.ok (.agg #[hd 120,ptr w.heap.size,.int .u64 150]) (w.alloc (.cells #[ptr t] 120)):=by kernel_rfl
theorem bAT(a:Addr)(w:World):(ReflectliteValue.methodAny (ReflectliteValue.valueError "reflectlite.Value.Type" 0) (fun t _ _ _=>ReflectliteType.toType t) #[.agg #[hd 120,.pointer (some a),.int .u64 150]]).run Tryz.prog w=.ok (.iface 265 (.agg #[hd 120])) w:=by kernel_rfl
theorem aZ2(w:World):((ReflectliteType.abiMethod fun t=>Functor.map (fun a:Nat=>Value.int IntKind.u8 (a:Int)) (Rtype.kind t)) #[hd 120]).run Tryz.prog w=.ok (.int .u8 22) w:=by kernel_rfl
theorem aZ1(w:World):((ReflectliteType.abiMethod fun t=>Functor.map (fun a:Nat=>Value.int IntKind.u8 (a:Int)) (Rtype.kind t)) #[hd 118]).run Tryz.prog w=.ok (.int .u8 22) w:=by kernel_rfl
theorem aT4(a:Addr)(w:World):(ReflectliteValue.parts (.agg #[hd 120,.pointer (some a),.int .u64 150])).run Tryz.prog w=.ok (some (120,a,150)) w:=by kernel_rfl
theorem aTA(a p:Addr)(W:World)(ha:W.cell? a=some (.pointer (some p))):
  (ReflectliteValue.method (ReflectliteValue.valueError "reflectlite.Value.IsNil" 0) ReflectliteValue.isNil #[.agg #[hd 120,.pointer (some a),.int .u64 150]]).run Tryz.prog W=.ok (.bool false) W:=by
 rw[rlm];simp only[Sem.run_bind,aT4,Result.andThen];simp[ReflectliteValue.isNil,loadVar,isAgg,underlying,Tryz.underlying120,ha,Result.andThen]
theorem aZL(w:World):(ReflectliteType.method ReflectliteType.elem #[.agg #[hd 120]]).run Tryz.prog w=.ok (.iface 265 (.agg #[hd 118])) w:=by kernel_rfl
theorem aBZ(w:World):(ReflectliteType.relation "Implements" ReflectliteType.implements_ #[.agg #[hd 118],.iface 265 (.agg #[hd 79])]).run Tryz.prog w=.ok (.bool true) w:=by kernel_rfl
theorem aYX(t:Nat)(w:World):(ReflectliteValue.unpack (.iface 124 (ptr t))).run Tryz.prog w=.ok (.agg #[hd 124,ptr w.heap.size,.int .u64 150]) (w.alloc (.cells #[ptr t] 124)):=by kernel_rfl
theorem bOY(a:Addr)(w:World):(ReflectliteValue.methodAny (ReflectliteValue.valueError "reflectlite.Value.Type" 0) (fun t _ _ _=>ReflectliteType.toType t) #[.agg #[hd 124,.pointer (some a),.int .u64 150]]).run Tryz.prog w=.ok (.iface 265 (.agg #[hd 124])) w:=by kernel_rfl
theorem bM9(w:World):((ReflectliteType.abiMethod fun t=>Functor.map (fun a:Nat=>Value.int IntKind.u8 (a:Int)) (Rtype.kind t)) #[hd 124]).run Tryz.prog w=.ok (.int .u8 22) w:=by kernel_rfl
theorem bQ5(w:World):((ReflectliteType.abiMethod fun t=>Functor.map (fun a:Nat=>Value.int IntKind.u8 (a:Int)) (Rtype.kind t)) #[hd 30]).run Tryz.prog w=.ok (.int .u8 2) w:=by kernel_rfl
theorem aT5(a:Addr)(w:World):(ReflectliteValue.parts (.agg #[hd 124,.pointer (some a),.int .u64 150])).run Tryz.prog w=.ok (some (124,a,150)) w:=by kernel_rfl
theorem bH6(a p:Addr)(W:World)(ha:W.cell? a=some (.pointer (some p))):
  (ReflectliteValue.method (ReflectliteValue.valueError "reflectlite.Value.IsNil" 0) ReflectliteValue.isNil #[.agg #[hd 124,.pointer (some a),.int .u64 150]]).run Tryz.prog W=.ok (.bool false) W:=by
 rw[rlm];simp only[Sem.run_bind,aT5,Result.andThen];simp[ReflectliteValue.isNil,loadVar,isAgg,underlying,Tryz.underlying124,ha,Result.andThen]
theorem bMG(w:World):(ReflectliteType.method ReflectliteType.elem #[.agg #[hd 124]]).run Tryz.prog w=.ok (.iface 265 (.agg #[hd 30])) w:=by kernel_rfl
theorem aP8(w:World):(ReflectliteType.relation "Implements" ReflectliteType.implements_ #[.agg #[hd 30],.iface 265 (.agg #[hd 79])]).run Tryz.prog w=.ok (.bool true) w:=by kernel_rfl
theorem aFD(v:Value)(w:World):(ReflectliteType.typeOf #[.iface 30 v]).run Tryz.prog w=.ok (.iface 265 (.agg #[hd 30])) w:=by kernel_rfl
theorem aPA(w:World):(ReflectliteType.relation "AssignableTo" ReflectliteType.assignableTo #[.agg #[hd 30],.iface 265 (.agg #[hd 30])]).run Tryz.prog w=.ok (.bool true) w:=by kernel_rfl
theorem bFG(e:Int)(w:World):(ReflectliteValue.unpack (.iface 30 (i64 e))).run Tryz.prog w=.ok (.agg #[hd 30,ptr w.heap.size,.int .u64 130]) (w.alloc (.cells #[(i64 e)] 30)):=by kernel_rfl
theorem bBQ(w:World):(Rtype.elem? 124).run Tryz.prog w=.ok (some 30) w:=by kernel_rfl
theorem bVS(p:Addr)(w:World):(ReflectliteValue.mk 30 p ReflectliteValue.flagAddr).run Tryz.prog w=.ok (.agg #[hd 30,.pointer (some p),.int .u64 386]) w:=by kernel_rfl
theorem bG9(a p:Addr)(W:World)(ha:W.cell? a=some (.pointer (some p))):
  (ReflectliteValue.method (ReflectliteValue.valueError "reflectlite.Value.Elem" 0) ReflectliteValue.elem #[.agg #[hd 124,.pointer (some a),.int .u64 150]]).run Tryz.prog W=.ok (.agg #[hd 30,.pointer (some p),.int .u64 386]) W:=by
 rw[rlm];simp only[Sem.run_bind,aT5,Result.andThen];simp[ReflectliteValue.elem,loadVar,isAgg,underlying,Tryz.underlying124,ha,Result.andThen,bBQ,bVS]
theorem bI9(a:Addr)(w:World):(ReflectliteValue.parts (.agg #[hd 30,.pointer (some a),.int .u64 386])).run Tryz.prog w=.ok (some (30,a,386)) w:=by kernel_rfl
theorem bNK(a:Addr)(w:World):(ReflectliteValue.parts (.agg #[hd 30,.pointer (some a),.int .u64 130])).run Tryz.prog w=.ok (some (30,a,130)) w:=by kernel_rfl
theorem bGV(w:World):(Rtype.directlyAssignable 30 30).run Tryz.prog w=.ok true w:=by kernel_rfl
theorem bUF(ta b:Addr)(e:Int)(old:Value)(W:World)(hb:W.cell? b=some (i64 e))(ht:W.cell? ta=some old)(hf:W.frozen? ta=false):
  (ReflectliteValue.set #[.agg #[hd 30,.pointer (some ta),.int .u64 386],.agg #[hd 30,.pointer (some b),.int .u64 130]]).run Tryz.prog W=.ok (.tuple #[]) (W.setCell ta (i64 e)):=by
 obtain⟨_,_,_,_,h⟩:=rls (.agg #[hd 30,.pointer (some ta),.int .u64 386]) (.agg #[hd 30,.pointer (some b),.int .u64 130]);rw[h];simp only[Sem.run_bind,bI9,bNK,Result.andThen];simp[ReflectliteValue.flagAddr,loadVar,isAgg,underlying,Tryz.underlying30,hb,Result.andThen,bGV,storeVar,Value.cells,storeCells,Addr.add];rw[run_store Tryz.prog W ta _ _ (by rfl)];simp[ht,hf]
theorem qR(h:Value)(w:World):(Go.method (Tryz.prog.types.size+Made.depth) 265 (.agg #[h]) "Kind").run Tryz.prog w=.ok (396,h) w:=by kernel_rfl
theorem aCT(h:Value)(w:World):(Go.method (Tryz.prog.types.size+Made.depth) 265 (.agg #[h]) "Elem").run Tryz.prog w=.ok (416,.agg #[h]) w:=by kernel_rfl
theorem qQ(h:Value)(w:World):(Go.method (Tryz.prog.types.size+Made.depth) 265 (.agg #[h]) "Implements").run Tryz.prog w=.ok (417,.agg #[h]) w:=by kernel_rfl
theorem o9(h:Value)(w:World):(Go.method (Tryz.prog.types.size+Made.depth) 265 (.agg #[h]) "AssignableTo").run Tryz.prog w=.ok (414,.agg #[h]) w:=by kernel_rfl
theorem vO(h:Value)(w:World):(Go.method (Tryz.prog.types.size+Made.depth) 265 (.agg #[h]) "Comparable").run Tryz.prog w=.ok (415,.agg #[h]) w:=by kernel_rfl
theorem aFG(w:World):(ReflectliteType.relation "AssignableTo" ReflectliteType.assignableTo #[.agg #[hd 30],.iface 265 (.agg #[hd 118])]).run Tryz.prog w=.ok (.bool false) w:=by kernel_rfl
theorem aDQ(w:World):(ReflectliteType.method (fun t=>do Rtype.noPackHeld "Comparable" t;pure (.bool (←typeInfo t).comparable)) #[.agg #[hd 30]]).run Tryz.prog w=.ok (.bool true) w:=by kernel_rfl
theorem bRG(v:Value)(w:World):(Instr.typeAssert (.iface 30 v) 79 269 true).run Tryz.prog w=.ok (.tuple #[.nilIface,.bool false]) w:=run_typeAssert_lacksB Tryz.underlying269 bJ bJ v 79 w
theorem aXW(v:Value)(w:World):(Instr.typeAssert (.iface 30 v) 79 272 true).run Tryz.prog w=.ok (.tuple #[.nilIface,.bool false]) w:=run_typeAssert_lacksB Tryz.underlying272 bJ bJ v 79 w
theorem aTW(v:Value)(w:World):(Instr.typeAssert (.iface 30 v) 79 273 true).run Tryz.prog w=.ok (.tuple #[.nilIface,.bool false]) w:=run_typeAssert_lacksB Tryz.underlying273 bJ bJ v 79 w
theorem bTC(e:Int)(w:World):(binOp .eql 79 (.iface 30 (i64 e)) (.iface 30 (i64 e))).run Tryz.prog w=.ok (.bool true) w:=by
 have h:(binOp .eql 79 (.iface 30 (i64 e)) (.iface 30 (i64 e))).run Tryz.prog w=.ok (.bool (decide (e=e))) w:=by kernel_rfl
 rw[h];simp
end Go.Proofs
end
section
attribute [local irreducible] Go.SL.T Go.SL.OL Go.SL.D Go.SL.DL Go.SL.Ev Go.SL.Ef Go.SL.EfS
namespace Go.Proofs
open Go Go.SL Go.Extern
theorem wK:(Tryz.f93.name== "runtime.NumGoroutine")=false:=by kernel_rfl
theorem wL:Tryz.f93.body.isNone=true:=by kernel_rfl
theorem wM:Go.Extern.findNext Tryz.f93=none:=by kernel_rfl
theorem wN:Go.Extern.find Tryz.f93=some (fun args=>ReflectliteValue.unpack (args.getD 0 (.tuple #[]))):=by kernel_rfl
theorem aY4:(Tryz.f94.name== "runtime.NumGoroutine")=false:=by kernel_rfl
theorem aY5:Tryz.f94.body.isNone=true:=by kernel_rfl
theorem aY6:Go.Extern.findNext Tryz.f94=none:=by kernel_rfl
theorem aY7:Go.Extern.find Tryz.f94=some (ReflectliteValue.methodAny (ReflectliteValue.valueError "reflectlite.Value.Type" 0) (fun t _ _ _=>ReflectliteType.toType t)):=by kernel_rfl
theorem aRW:(Tryz.f95.name== "runtime.NumGoroutine")=false:=by kernel_rfl
theorem aRX:Tryz.f95.body.isNone=true:=by kernel_rfl
theorem aRY:Go.Extern.findNext Tryz.f95=none:=by kernel_rfl
theorem aRZ:Go.Extern.find Tryz.f95=some (ReflectliteValue.method (ReflectliteValue.valueError "reflectlite.Value.IsNil" 0) ReflectliteValue.isNil):=by kernel_rfl
theorem aAK:(Tryz.f97.name== "runtime.NumGoroutine")=false:=by kernel_rfl
theorem aAL:Tryz.f97.body.isNone=true:=by kernel_rfl
theorem aAM:Go.Extern.findNext Tryz.f97=none:=by kernel_rfl
theorem aAN:Go.Extern.find Tryz.f97=some ReflectliteType.typeOf:=by kernel_rfl
theorem bAX:(Tryz.f156.name== "runtime.NumGoroutine")=false:=by kernel_rfl
theorem bAY:Tryz.f156.body.isNone=true:=by kernel_rfl
theorem bAZ:Go.Extern.findNext Tryz.f156=none:=by kernel_rfl
theorem bA0:Go.Extern.find Tryz.f156=some (ReflectliteValue.method (ReflectliteValue.valueError "reflectlite.Value.Elem" 0) ReflectliteValue.elem):=by kernel_rfl
theorem bQF:(Tryz.f157.name== "runtime.NumGoroutine")=false:=by kernel_rfl
theorem bQG:Tryz.f157.body.isNone=true:=by kernel_rfl
theorem bQH:Go.Extern.findNext Tryz.f157=none:=by kernel_rfl
theorem bQI:Go.Extern.find Tryz.f157=some ReflectliteValue.set:=by kernel_rfl
theorem aG2:(Tryz.f396.name== "runtime.NumGoroutine")=false:=by kernel_rfl
theorem aG3:Tryz.f396.body.isNone=true:=by kernel_rfl
theorem aG4:Go.Extern.findNext Tryz.f396=none:=by kernel_rfl
theorem aG5:Go.Extern.find Tryz.f396=some (ReflectliteType.abiMethod fun t=>do pure (.int .u8 (←Rtype.kind t))):=by kernel_rfl
theorem aL8:(Tryz.f414.name== "runtime.NumGoroutine")=false:=by kernel_rfl
theorem aL9:Tryz.f414.body.isNone=true:=by kernel_rfl
theorem aMA:Go.Extern.findNext Tryz.f414=none:=by kernel_rfl
theorem aMB:Go.Extern.find Tryz.f414=some (ReflectliteType.relation "AssignableTo" ReflectliteType.assignableTo):=by kernel_rfl
theorem bLP:(Tryz.f415.name== "runtime.NumGoroutine")=false:=by kernel_rfl
theorem bLQ:Tryz.f415.body.isNone=true:=by kernel_rfl
theorem bLR:Go.Extern.findNext Tryz.f415=none:=by kernel_rfl
theorem bLS:Go.Extern.find Tryz.f415=some (ReflectliteType.method fun t=>do Rtype.noPackHeld "Comparable" t;pure (.bool (←typeInfo t).comparable)):=by kernel_rfl
theorem aRS:(Tryz.f416.name== "runtime.NumGoroutine")=false:=by kernel_rfl
theorem aRT:Tryz.f416.body.isNone=true:=by kernel_rfl
theorem aRU:Go.Extern.findNext Tryz.f416=none:=by kernel_rfl
theorem aRV:Go.Extern.find Tryz.f416=some (ReflectliteType.method ReflectliteType.elem):=by kernel_rfl
theorem aY0:(Tryz.f417.name== "runtime.NumGoroutine")=false:=by kernel_rfl
theorem aY1:Tryz.f417.body.isNone=true:=by kernel_rfl
theorem aY2:Go.Extern.findNext Tryz.f417=none:=by kernel_rfl
theorem aY3:Go.Extern.find Tryz.f417=some (ReflectliteType.relation "Implements" ReflectliteType.implements_):=by kernel_rfl
def ErrT(K:Hl):Prop:=∃T fz,K 0=some (aZ [.iface 265 (.agg #[hd 79])] T fz)
theorem ErrT.mono{K K':Hl}(h:ErrT K)(le:K.le K'):ErrT K':=let ⟨T,fz,h⟩:=h;⟨T,fz,le _ _ h⟩
theorem sW{w0 w:World}{F K:Hl}{L:List Asn}{b:Nat}{v:Value}{T:TypeId}(i:In w0 F K L w)(h:Hs (pt b (aZ [v] T)) L):w.cell? ⟨b,0,none⟩=some v∧w.frozen? ⟨b,0,none⟩=false:=by
 have:=(Sees.own (K:=K) h).at i;exact⟨mI this rfl,by simp[World.frozen?,this]⟩
theorem aJ4{w0 w:World}{F K:Hl}{L L':List Asn}{b:Nat}{v v':Value}{T:TypeId}(i:In w0 F K L w)(hT:Fnd (pt b (aZ [v] T)) (pt b (aZ [v'] T)) L L'):In w0 F K L' (w.setCell ⟨b,0,none⟩ v'):=by
 have hb:=i.mem hT;have hlt:b < w.heap.size:=(Array.getElem?_eq_some_iff.1 hb).1;have e:w.setCell ⟨b,0,none⟩ v'={w with heap:=(w.setCell ⟨b,0,none⟩ v').heap}:=by
  unfold World.setCell;rfl
 rw[e];refine i.writeAt hT (by simp[World.setCell]) ?_ ?_
 ·show (w.heap.modify b _)[b]?=_
  rw[Array.getElem?_modify,if_pos rfl,hb];rfl
 intro x hx;exact RowKit.Below.heap_setCell w ⟨b,0,none⟩ v' x hx
theorem bLX(e:Int)(t bv:Nat)(old:Value)(K:Hl):Sp Tryz.prog 96 [.iface 30 (i64 e),.iface 124 (ptr t),.agg #[hd 124,ptr bv,.int .u64 150],.iface 265 (.agg #[hd 30])] K [pt bv (aZ [ptr t] 124),pt t (aZ [old] 30)] (Ret fun r K' L'=>r=.bool true∧K'=K∧L'=[pt t (aZ [(i64 e)] 30)]):=by
 refine a8 Tryz.func96 rfl Tryz.ntmps96 rfl rfl fun F w=>?_;refine zz3 ?_;rintro _ K _ ⟨b6,rfl,rfl,rfl⟩ -;refine zz4 ?_;refine eJ (fun(u:Unit)=>True) (fun _=>[(0,.iface 30 (i64 e)),(1,.iface 124 (ptr t)),(3,.iface 265 (.agg #[hd 30])),(6,ptr b6)]) (fun _=>K) (fun _=>[pt b6 (aZ [hd 124,ptr bv,.int .u64 150] 188),pt bv (aZ [ptr t] 124),pt t (aZ [old] 30)]) (fun _=>0) () trivial (.cons 0 rfl (.cons 1 rfl (.cons 3 rfl (.cons 6 rfl .nil)))) rfl (fun _ h=>h) ?_;intro _ _;refine zz5 ?_;refine aA (oK rfl rfl Tryz.func97 aAK aAL aAM aAN (fun w _=>aFD _ w)) rfl ?_;refine zz1 ?_;refine aA (gM rfl rfl (o9 _) Tryz.func414 aL8 aL9 aMA aMB (fun w _=>aPA w)) rfl ?_;refine zz6 ?_;refine aA (oK rfl rfl Tryz.func156 bAX bAY bAZ bA0 (fun w j=>bG9 _ _ w (sW j (.there .here)).1)) rfl ?_;refine zz1 ?_;refine cC (aHY (N:=fun v K' L'=>∃bn,v=.agg #[hd 30,ptr bn,.int .u64 130]∧K'=K∧L'=[pt bn (aZ [(i64 e)] 30),pt b6 (aZ [hd 124,ptr bv,.int .u64 150] 188),pt bv (aZ [ptr t] 124),pt t (aZ [old] 30)]) rfl rfl Tryz.func93 wK wL wM wN (fun w j=>⟨_,_,K,_,bFG e w,⟨_,rfl,rfl,rfl⟩,Hl.le_refl _,j.alloc _⟩)) rfl ?_;rintro _ K _ ⟨bn,rfl,rfl,rfl⟩ -;refine cC (aHY (N:=fun v K' L'=>v=.tuple #[]∧K'=K∧L'=[pt bn (aZ [(i64 e)] 30),pt b6 (aZ [hd 124,ptr bv,.int .u64 150] 188),pt bv (aZ [ptr t] 124),pt t (aZ [(i64 e)] 30)]) rfl rfl Tryz.func157 bQF bQG bQH bQI (fun w j=>⟨_,_,K,_,bUF ⟨t,0,none⟩ ⟨bn,0,none⟩ e old w (sW j .here).1 (sW j (.there (.there (.there .here)))).1 (sW j (.there (.there (.there .here)))).2,⟨rfl,rfl,rfl⟩,Hl.le_refl _,aJ4 j (.there (.there (.there .here)))⟩)) rfl ?_;rintro _ K _ ⟨rfl,rfl,rfl⟩ -;refine zz12 ?_;refine aU (.cons (.there (.there (.there .here))) .nil) ?_;refine zz1 ?_;exact⟨_,rfl,rfl,rfl,rfl⟩
theorem bQQ(e:Int)(t bv:Nat)(old:Value)(K:Hl):Sp Tryz.prog 96 [.iface 30 (i64 e),.iface 120 (ptr t),.agg #[hd 120,ptr bv,.int .u64 150],.iface 265 (.agg #[hd 118])] K [pt bv (aZ [ptr t] 120),pt t (aZ [old] 118)] (Ret fun r K' L'=>r=.bool false∧K'=K∧L'=[pt t (aZ [old] 118)]):=by
 refine a8 Tryz.func96 rfl Tryz.ntmps96 rfl rfl fun F w=>?_;refine zz3 ?_;rintro _ K _ ⟨b6,rfl,rfl,rfl⟩ -;refine zz4 ?_;refine eJ (fun(u:Unit)=>True) (fun _=>[(0,.iface 30 (i64 e)),(1,.iface 120 (ptr t)),(3,.iface 265 (.agg #[hd 118])),(6,ptr b6)]) (fun _=>K) (fun _=>[pt b6 (aZ [hd 120,ptr bv,.int .u64 150] 188),pt bv (aZ [ptr t] 120),pt t (aZ [old] 118)]) (fun _=>0) () trivial (.cons 0 rfl (.cons 1 rfl (.cons 3 rfl (.cons 6 rfl .nil)))) rfl (fun _ h=>h) ?_;intro _ _;refine zz5 ?_;refine aA (oK rfl rfl Tryz.func97 aAK aAL aAM aAN (fun w _=>aFD _ w)) rfl ?_;refine zz1 ?_;refine aA (gM rfl rfl (o9 _) Tryz.func414 aL8 aL9 aMA aMB (fun w _=>aFG w)) rfl ?_;refine zz9 ?_;refine aA (aST rfl (bRG _)) rfl ?_;refine zz28 ?_;refine aA (aST rfl (aXW _)) rfl ?_;refine zz7 ?_;refine aA (aST rfl (aTW _)) rfl ?_;refine zz20 ?_;refine aU (.cons (.there (.there .here)) .nil) ?_;refine zz1 ?_;exact⟨_,rfl,rfl,rfl,rfl⟩
theorem bVM(e:Int)(t:Nat)(old:Value)(K:Hl)(hE:ErrT K):Sp Tryz.prog 55 [.iface 30 (i64 e),.iface 124 (ptr t)] K [pt t (aZ [old] 30)] (Ret fun r K' L'=>r=.bool true∧K'=K∧L'=[pt t (aZ [i64 e] 30)]):=by
 obtain⟨ET,Efz,hE⟩:=hE;refine a8 Tryz.func55 rfl Tryz.ntmps55 rfl rfl fun F w=>?_;refine zz28 ?_;refine cC (aHY (N:=fun v K' L'=>∃bv,v=.agg #[hd 124,ptr bv,.int .u64 150]∧K'=K∧L'=[pt bv (aZ [ptr t] 124),pt t (aZ [old] 30)]) rfl rfl Tryz.func93 wK wL wM wN (fun w j=>⟨_,_,K,_,aYX t w,⟨_,rfl,rfl,rfl⟩,Hl.le_refl _,j.alloc _⟩)) rfl ?_;rintro _ K _ ⟨bv,rfl,rfl,rfl⟩ -;refine zz1 ?_;rintro _ K _ ⟨b5,rfl,rfl,rfl⟩ -;refine cA (cK nB rfl rfl rfl bF gAA (.cons (.cons (.cons .nil))) gAJ) ?_;rintro _ K _ ⟨rfl,rfl⟩ -;refine zz5 ?_;refine aA (oK rfl rfl Tryz.func94 aY4 aY5 aY6 aY7 (fun w _=>bOY _ w)) rfl ?_;refine zz7 ?_;refine aA (gM rfl rfl (qR _) Tryz.func396 aG2 aG3 aG4 aG5 (fun w _=>bM9 w)) rfl ?_;refine zz5 ?_;refine aA (oK rfl rfl Tryz.func95 aRW aRX aRY aRZ (fun w j=>bH6 _ ⟨t,0,none⟩ w (sW j (.there .here)).1)) rfl ?_;refine zz9 ?_;refine aA (gM rfl rfl (aCT _) Tryz.func416 aRS aRT aRU aRV (fun w _=>bMG w)) rfl ?_;refine zz7 ?_;refine aA (gM rfl rfl (qR _) Tryz.func396 aG2 aG3 aG4 aG5 (fun w _=>bQ5 w)) rfl ?_;refine zz5 ?_;refine aA (aL bK7 rfl (.known hE) rfl) rfl ?_;refine zz1 ?_;refine aA (gM rfl rfl (qQ _) Tryz.func417 aY0 aY1 aY2 aY3 (fun w _=>aP8 w)) rfl ?_;refine zz1 ?_;refine aA gAF rfl ?_;refine zz12 ?_;refine aX rfl rfl (bLX e t bv old _) (.cons (.there .here) (.cons (.there .here) .nil)) rfl ?_;rintro _ K _ ⟨rfl,rfl,rfl⟩ -;refine zz4 ?_;refine uAa ?_;refine zz1 ?_;exact⟨_,rfl,rfl,rfl,rfl⟩
theorem bQP(e:Int)(t:Nat)(old:Value)(K:Hl)(hE:ErrT K):Sp Tryz.prog 55 [.iface 30 (i64 e),.iface 120 (ptr t)] K [pt t (aZ [old] 118)] (Ret fun r K' L'=>r=.bool false∧K'=K∧L'=[pt t (aZ [old] 118)]):=by
 obtain⟨ET,Efz,hE⟩:=hE;refine a8 Tryz.func55 rfl Tryz.ntmps55 rfl rfl fun F w=>?_;refine zz28 ?_;refine cC (aHY (N:=fun v K' L'=>∃bv,v=.agg #[hd 120,ptr bv,.int .u64 150]∧K'=K∧L'=[pt bv (aZ [ptr t] 120),pt t (aZ [old] 118)]) rfl rfl Tryz.func93 wK wL wM wN (fun w j=>⟨_,_,K,_,aL6 t w,⟨_,rfl,rfl,rfl⟩,Hl.le_refl _,j.alloc _⟩)) rfl ?_;rintro _ K _ ⟨bv,rfl,rfl,rfl⟩ -;refine zz1 ?_;rintro _ K _ ⟨b5,rfl,rfl,rfl⟩ -;refine cA (cK nB rfl rfl rfl bF gAA (.cons (.cons (.cons .nil))) gAJ) ?_;rintro _ K _ ⟨rfl,rfl⟩ -;refine zz5 ?_;refine aA (oK rfl rfl Tryz.func94 aY4 aY5 aY6 aY7 (fun w _=>bAT _ w)) rfl ?_;refine zz7 ?_;refine aA (gM rfl rfl (qR _) Tryz.func396 aG2 aG3 aG4 aG5 (fun w _=>aZ2 w)) rfl ?_;refine zz5 ?_;refine aA (oK rfl rfl Tryz.func95 aRW aRX aRY aRZ (fun w j=>aTA _ ⟨t,0,none⟩ w (sW j (.there .here)).1)) rfl ?_;refine zz9 ?_;refine aA (gM rfl rfl (aCT _) Tryz.func416 aRS aRT aRU aRV (fun w _=>aZL w)) rfl ?_;refine zz7 ?_;refine aA (gM rfl rfl (qR _) Tryz.func396 aG2 aG3 aG4 aG5 (fun w _=>aZ1 w)) rfl ?_;refine zz5 ?_;refine aA (aL bK7 rfl (.known hE) rfl) rfl ?_;refine zz1 ?_;refine aA (gM rfl rfl (qQ _) Tryz.func417 aY0 aY1 aY2 aY3 (fun w _=>aBZ w)) rfl ?_;refine zz1 ?_;refine aA gAF rfl ?_;refine zz12 ?_;refine aX rfl rfl (bQQ e t bv old _) (.cons (.there .here) (.cons (.there .here) .nil)) rfl ?_;rintro _ K _ ⟨rfl,rfl,rfl⟩ -;refine zz4 ?_;refine uAa ?_;refine zz1 ?_;exact⟨_,rfl,rfl,rfl,rfl⟩
theorem bVQ(e:Int)(K:Hl):Sp Tryz.prog 98 [.iface 30 (i64 e),.iface 30 (i64 e),.bool true] K [] (Val (.bool true) K):=by
 refine a8 Tryz.func98 rfl Tryz.ntmps98 rfl rfl fun F w=>?_;refine zz6 ?_;refine eJ (fun(u:Unit)=>True) (fun u=>[(0,.iface 30 (i64 e)),(1,.iface 30 (i64 e)),(2,.bool true)]) (fun _=>K) (fun _=>[]) (fun u=>0) () trivial (.cons 0 rfl (.cons 1 rfl (.cons 2 rfl .nil))) rfl (fun _ h=>h) ?_;intro u _;refine zz11 ?_;refine aA (vD rfl rfl (fun _=>rfl) (fun w=>bTC e w)) rfl ?_;refine zz15 ?_;exact⟨rfl,rfl,rfl⟩
theorem bLZ(e:Int)(K:Hl):Sp Tryz.prog 56 [.iface 30 (i64 e),.iface 30 (i64 e)] K [] (Val (.bool true) K):=by
 refine a8 Tryz.func56 rfl Tryz.ntmps56 rfl rfl fun F w=>?_;refine zz24 ?_;refine aA (oK rfl rfl Tryz.func97 aAK aAL aAM aAN (fun w _=>aFD _ w)) rfl ?_;refine aA (gM rfl rfl (vO _) Tryz.func415 bLP bLQ bLR bLS (fun w _=>aDQ w)) rfl ?_;refine zz8 ?_;refine cF rfl rfl (bVQ e _) rfl ?_;refine zz5 ?_;exact⟨rfl,rfl,rfl⟩
theorem aFA(K:Hl):Sp Tryz.prog 37 [.nilIface] K [] (Val (.tuple #[i64 0,i64 (-1)]) K):=by
 refine a8 Tryz.func37 rfl Tryz.ntmps37 rfl rfl fun F w=>?_;refine zz9 ?_;rintro _ K _ ⟨b4,rfl,rfl,rfl⟩ -;refine zz5 ?_;rintro _ K _ ⟨b5,rfl,rfl,rfl⟩ -;refine zz21 ?_;refine uAl ?_;refine fA rfl rfl rfl (Hl.le_refl _) ?_;exact⟨rfl,rfl,rfl⟩
theorem bK4(e:Int)(K:Hl)(hE:ErrT K):Sp Tryz.prog 37 [.iface 30 (i64 e)] K [] (Ret fun v K' L'=>v=.tuple #[i64 e,i64 (-1)]∧K'=K∧L'=[]):=by
 refine a8 Tryz.func37 rfl Tryz.ntmps37 rfl rfl fun F w=>?_;refine zz9 ?_;rintro _ K _ ⟨b4,rfl,rfl,rfl⟩ -;refine zz5 ?_;rintro _ K _ ⟨b5,rfl,rfl,rfl⟩ -;refine zz15 ?_;refine aA (cY Tryz.underlying120 (fun _ h=>by cases h) rfl) rfl ?_;refine aX rfl rfl (bQP e b4 _ _ hE) (.cons (.there .here) .nil) rfl ?_;rintro _ K _ ⟨rfl,rfl,rfl⟩ -;refine zz16 ?_;refine aA (cY Tryz.underlying124 (fun _ h=>by cases h) rfl) rfl ?_;refine aX rfl rfl (bVM e b5 _ _ hE) (.cons (.there .here) .nil) rfl ?_;rintro _ K _ ⟨rfl,rfl,rfl⟩ -;refine zz6 ?_;refine aA (cY Tryz.underlying30 (fun _ h=>by cases h) rfl) rfl ?_;refine zz1 ?_;refine cF rfl rfl (bLZ e _) rfl ?_;refine zz15 ?_;refine uAl ?_;refine fA rfl rfl rfl (Hl.le_refl _) ?_;exact⟨_,rfl,rfl,rfl,rfl⟩
end Go.Proofs
end

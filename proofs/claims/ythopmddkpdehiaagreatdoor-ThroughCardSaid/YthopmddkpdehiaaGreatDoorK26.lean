/-
  What the proof stands on, part 26: the logic of walks, the walks through the functions, the plain laws. Conditions: as each theorem says. (Merged and shortened by a program.)
-/
import Derived.Test.YthopmddkpdehiaaGreatDoorK13
import Derived.Test.YthopmddkpdehiaaGreatDoorK19
set_option linter.unusedVariables false
set_option linter.unusedSimpArgs false
set_option maxRecDepth 4000
set_option maxHeartbeats 1000000
section
namespace Go.Proofs
open Go Go.SL Go.Extern
theorem bE9(v:Value)(w:World):(ReflectliteType.typeOf #[.iface 118 v]).run Tryz.prog w=.ok (.iface 265 (.agg #[hd 118])) w:=by kernel_rfl
theorem aMD(w:World):(ReflectliteType.relation "AssignableTo" ReflectliteType.assignableTo #[.agg #[hd 118],.iface 265 (.agg #[hd 118])]).run Tryz.prog w=.ok (.bool true) w:=by kernel_rfl
theorem aYW(e:Nat)(w:World):(ReflectliteValue.unpack (.iface 118 (ptr e))).run Tryz.prog w=.ok (.agg #[hd 118,ptr w.heap.size,.int .u64 150]) (w.alloc (.cells #[(ptr e)] 118)):=by kernel_rfl
theorem bBP(w:World):(Rtype.elem? 120).run Tryz.prog w=.ok (some 118) w:=by kernel_rfl
theorem bTL(p:Addr)(w:World):(ReflectliteValue.mk 118 p ReflectliteValue.flagAddr).run Tryz.prog w=.ok (.agg #[hd 118,.pointer (some p),.int .u64 406]) w:=by kernel_rfl
theorem bG8(a p:Addr)(W:World)(ha:W.cell? a=some (.pointer (some p))):
  (ReflectliteValue.method (ReflectliteValue.valueError "reflectlite.Value.Elem" 0) ReflectliteValue.elem #[.agg #[hd 120,.pointer (some a),.int .u64 150]]).run Tryz.prog W=.ok (.agg #[hd 118,.pointer (some p),.int .u64 406]) W:=by
 rw[rlm];simp only[Sem.run_bind,aT4,Result.andThen];simp[ReflectliteValue.elem,loadVar,isAgg,underlying,Tryz.underlying120,ha,Result.andThen,bBP,bTL]
theorem bDJ(a:Addr)(w:World):(ReflectliteValue.parts (.agg #[hd 118,.pointer (some a),.int .u64 406])).run Tryz.prog w=.ok (some (118,a,406)) w:=by kernel_rfl
theorem bI8(a:Addr)(w:World):(ReflectliteValue.parts (.agg #[hd 118,.pointer (some a),.int .u64 150])).run Tryz.prog w=.ok (some (118,a,150)) w:=by kernel_rfl
theorem bBK(w:World):(Rtype.directlyAssignable 118 118).run Tryz.prog w=.ok true w:=by kernel_rfl
theorem bR3(ta b:Addr)(e:Nat)(old:Value)(W:World)(hb:W.cell? b=some (ptr e))(ht:W.cell? ta=some old)(hf:W.frozen? ta=false):
  (ReflectliteValue.set #[.agg #[hd 118,.pointer (some ta),.int .u64 406],.agg #[hd 118,.pointer (some b),.int .u64 150]]).run Tryz.prog W=.ok (.tuple #[]) (W.setCell ta (ptr e)):=by
 obtain⟨_,_,_,_,h⟩:=rls (.agg #[hd 118,.pointer (some ta),.int .u64 406]) (.agg #[hd 118,.pointer (some b),.int .u64 150]);rw[h];simp only[Sem.run_bind,bDJ,bI8,Result.andThen];simp[ReflectliteValue.flagAddr,loadVar,isAgg,underlying,Tryz.underlying118,hb,Result.andThen,bBK,storeVar,Value.cells,storeCells,Addr.add];rw[run_store Tryz.prog W ta _ _ (by rfl)];simp[ht,hf]
theorem aQI(fb:Nat)(w:World):(Go.method (Tryz.prog.types.size+Made.depth) 118 (ptr fb) "Unwrap").run Tryz.prog w=.ok (407,ptr fb) w:=by kernel_rfl
theorem aP5(v:Value)(w:World):(Instr.typeAssert (.iface 118 v) 79 272 true).run Tryz.prog w=.ok (.tuple #[.iface 118 v,.bool true]) w:=run_typeAssert_hasB Tryz.underlying272 bJ v 79 w
theorem bNI(v:Value)(w:World):(Instr.typeAssert (.iface 118 v) 79 276 true).run Tryz.prog w=.ok (.tuple #[.nilIface,.bool false]) w:=run_typeAssert_lacksB Tryz.underlying276 bJ bJ v 79 w
theorem bHB(fb:Nat)(e:Int)(w:World):(binOp .eql 79 (.iface 118 (ptr fb)) (.iface 30 (i64 e))).run Tryz.prog w=.ok (.bool false) w:=by kernel_rfl
end Go.Proofs
end
section
attribute [local irreducible] Go.SL.T Go.SL.OL Go.SL.D Go.SL.DL Go.SL.Ev Go.SL.Ef Go.SL.EfS
namespace Go.Proofs
open Go Go.SL Go.Extern
theorem bFR(e:Nat)(t bv:Nat)(old:Value)(K:Hl):Sp Tryz.prog 96 [.iface 118 (ptr e),.iface 120 (ptr t),.agg #[hd 120,ptr bv,.int .u64 150],.iface 265 (.agg #[hd 118])] K [pt bv (aZ [ptr t] 120),pt t (aZ [old] 118)] (Ret fun r K' L'=>r=.bool true∧K'=K∧L'=[pt t (aZ [(ptr e)] 118)]):=by
 refine a8 Tryz.func96 rfl Tryz.ntmps96 rfl rfl fun F w=>?_;refine zz3 ?_;rintro _ K _ ⟨b6,rfl,rfl,rfl⟩ -;refine zz4 ?_;refine eJ (fun(u:Unit)=>True) (fun _=>[(0,.iface 118 (ptr e)),(1,.iface 120 (ptr t)),(3,.iface 265 (.agg #[hd 118])),(6,ptr b6)]) (fun _=>K) (fun _=>[pt b6 (aZ [hd 120,ptr bv,.int .u64 150] 188),pt bv (aZ [ptr t] 120),pt t (aZ [old] 118)]) (fun _=>0) () trivial (.cons 0 rfl (.cons 1 rfl (.cons 3 rfl (.cons 6 rfl .nil)))) rfl (fun _ h=>h) ?_;intro _ _;refine zz5 ?_;refine aA (oK rfl rfl Tryz.func97 aAK aAL aAM aAN (fun w _=>bE9 _ w)) rfl ?_;refine zz1 ?_;refine aA (gM rfl rfl (o9 _) Tryz.func414 aL8 aL9 aMA aMB (fun w _=>aMD w)) rfl ?_;refine zz6 ?_;refine aA (oK rfl rfl Tryz.func156 bAX bAY bAZ bA0 (fun w j=>bG8 _ _ w (sW j (.there .here)).1)) rfl ?_;refine zz1 ?_;refine cC (aHY (N:=fun v K' L'=>∃bn,v=.agg #[hd 118,ptr bn,.int .u64 150]∧K'=K∧L'=[pt bn (aZ [(ptr e)] 118),pt b6 (aZ [hd 120,ptr bv,.int .u64 150] 188),pt bv (aZ [ptr t] 120),pt t (aZ [old] 118)]) rfl rfl Tryz.func93 wK wL wM wN (fun w j=>⟨_,_,K,_,aYW e w,⟨_,rfl,rfl,rfl⟩,Hl.le_refl _,j.alloc _⟩)) rfl ?_;rintro _ K _ ⟨bn,rfl,rfl,rfl⟩ -;refine cC (aHY (N:=fun v K' L'=>v=.tuple #[]∧K'=K∧L'=[pt bn (aZ [(ptr e)] 118),pt b6 (aZ [hd 120,ptr bv,.int .u64 150] 188),pt bv (aZ [ptr t] 120),pt t (aZ [(ptr e)] 118)]) rfl rfl Tryz.func157 bQF bQG bQH bQI (fun w j=>⟨_,_,K,_,bR3 ⟨t,0,none⟩ ⟨bn,0,none⟩ e old w (sW j .here).1 (sW j (.there (.there (.there .here)))).1 (sW j (.there (.there (.there .here)))).2,⟨rfl,rfl,rfl⟩,Hl.le_refl _,aJ4 j (.there (.there (.there .here)))⟩)) rfl ?_;rintro _ K _ ⟨rfl,rfl,rfl⟩ -;refine zz12 ?_;refine aU (.cons (.there (.there (.there .here))) .nil) ?_;refine zz1 ?_;exact⟨_,rfl,rfl,rfl,rfl⟩
theorem bS6(e:Nat)(t:Nat)(old:Value)(K:Hl)(hE:ErrT K):Sp Tryz.prog 55 [.iface 118 (ptr e),.iface 120 (ptr t)] K [pt t (aZ [old] 118)] (Ret fun r K' L'=>r=.bool true∧K'=K∧L'=[pt t (aZ [ptr e] 118)]):=by
 obtain⟨ET,Efz,hE⟩:=hE;refine a8 Tryz.func55 rfl Tryz.ntmps55 rfl rfl fun F w=>?_;refine zz28 ?_;refine cC (aHY (N:=fun v K' L'=>∃bv,v=.agg #[hd 120,ptr bv,.int .u64 150]∧K'=K∧L'=[pt bv (aZ [ptr t] 120),pt t (aZ [old] 118)]) rfl rfl Tryz.func93 wK wL wM wN (fun w j=>⟨_,_,K,_,aL6 t w,⟨_,rfl,rfl,rfl⟩,Hl.le_refl _,j.alloc _⟩)) rfl ?_;rintro _ K _ ⟨bv,rfl,rfl,rfl⟩ -;refine zz1 ?_;rintro _ K _ ⟨b5,rfl,rfl,rfl⟩ -;refine cA (cK nB rfl rfl rfl bF gAA (.cons (.cons (.cons .nil))) gAJ) ?_;rintro _ K _ ⟨rfl,rfl⟩ -;refine zz5 ?_;refine aA (oK rfl rfl Tryz.func94 aY4 aY5 aY6 aY7 (fun w _=>bAT _ w)) rfl ?_;refine zz7 ?_;refine aA (gM rfl rfl (qR _) Tryz.func396 aG2 aG3 aG4 aG5 (fun w _=>aZ2 w)) rfl ?_;refine zz5 ?_;refine aA (oK rfl rfl Tryz.func95 aRW aRX aRY aRZ (fun w j=>aTA _ ⟨t,0,none⟩ w (sW j (.there .here)).1)) rfl ?_;refine zz9 ?_;refine aA (gM rfl rfl (aCT _) Tryz.func416 aRS aRT aRU aRV (fun w _=>aZL w)) rfl ?_;refine zz7 ?_;refine aA (gM rfl rfl (qR _) Tryz.func396 aG2 aG3 aG4 aG5 (fun w _=>aZ1 w)) rfl ?_;refine zz5 ?_;refine aA (aL bK7 rfl (.known hE) rfl) rfl ?_;refine zz1 ?_;refine aA (gM rfl rfl (qQ _) Tryz.func417 aY0 aY1 aY2 aY3 (fun w _=>aBZ w)) rfl ?_;refine zz1 ?_;refine aA gAF rfl ?_;refine zz12 ?_;refine aX rfl rfl (bFR e t bv old _) (.cons (.there .here) (.cons (.there .here) .nil)) rfl ?_;rintro _ K _ ⟨rfl,rfl,rfl⟩ -;refine zz4 ?_;refine uAa ?_;refine zz1 ?_;exact⟨_,rfl,rfl,rfl,rfl⟩
theorem aGH{K:Hl}{L:List Asn}{b:Nat}{o:Obj}{A:Asn}(h:Sees K L b o):Sees K (A::L) b o:=by
 cases h with
 |own f=>exact .own (.there f)
 |known h=>exact .known h
theorem aVZ(fb:Nat)(e at_:Int)(K:Hl)(L:List Asn)(hs:Sees K L fb (aZ [i64 e,i64 at_] 123)):Sp Tryz.prog 407 [ptr fb] K L (Ret fun v K' L'=>v=.iface 30 (i64 e)∧K'=K∧L'=L):=by
 refine a8 Tryz.func407 rfl Tryz.ntmps407 rfl rfl fun F w=>?_;refine zz10 ?_;refine aA (aL bE7 rfl hs rfl) rfl ?_;refine aA (cY Tryz.underlying30 (fun _ h=>by cases h) rfl) rfl ?_;refine zz5 ?_;exact⟨_,rfl,rfl,rfl,rfl⟩
theorem bTH(fb:Nat)(e at_:Int)(K:Hl)(L:List Asn)(hs:Sees K L fb (aZ [i64 e,i64 at_] 123)):Sp Tryz.prog 98 [.iface 118 (ptr fb),.iface 30 (i64 e),.bool true] K L (Ret fun v K' L'=>v=.bool true∧K'=K∧L'=L):=by
 refine a8 Tryz.func98 rfl Tryz.ntmps98 rfl rfl fun F w=>?_;refine zz6 ?_;refine eJ (fun(u:Bool)=>True) (fun u=>[(0,if u=true then .iface 118 (ptr fb)else .iface 30 (i64 e)),(1,.iface 30 (i64 e)),(2,.bool true)]) (fun _=>K) (fun _=>L) (fun u=>if u=true then 1 else 0) true trivial (.cons 0 rfl (.cons 1 rfl (.cons 2 rfl .nil))) rfl (fun _ h=>h) ?_;intro u _;refine bB ?_;cases u
 ·show T _ _ [(0,.iface 30 (i64 e)),(1,.iface 30 (i64 e)),(2,.bool true)] _ _ _
  refine zz10 ?_;refine aA (vD rfl rfl (fun _=>rfl) (fun w=>bTC e w)) rfl ?_;refine zz15 ?_;exact⟨_,rfl,rfl,rfl,rfl⟩
 show T _ _ [(0,.iface 118 (ptr fb)),(1,.iface 30 (i64 e)),(2,.bool true)] _ _ _
 refine zz10 ?_;refine aA (vD rfl rfl (fun _=>rfl) (fun w=>bHB fb e w)) rfl ?_;refine zz10 ?_;refine aA (aST rfl (bNI _)) rfl ?_;refine zz28 ?_;refine aA (aST rfl (aP5 _)) rfl ?_;refine zz13 ?_;refine jA rfl rfl (aQI fb) (aVZ fb e at_ _ _ hs) (dI _) rfl ?_;rintro _ K _ ⟨rfl,rfl,rfl⟩ -;rw[List.append_nil];refine zz13 ?_;exact dF false trivial (by decide) (.cons 0 rfl (.cons 1 rfl (.cons 2 rfl .nil))) rfl (fun _ h=>h)
attribute [local semireducible] Go.SL.T Go.SL.OL Go.SL.D Go.SL.DL Go.SL.Ev Go.SL.Ef Go.SL.EfS in
theorem aZE{E:Env}{x:Exit}{fr:Fr}{K:Hl}{L:List Asn}{A:Asn}{Q:Post}(h:D E x fr K L Q):D E x fr K (A::L) Q:=fun a w f i=>h a w f i.drop
theorem bFW(fb:Nat)(e at_:Int)(K:Hl)(L:List Asn)(hs:Sees K L fb (aZ [i64 e,i64 at_] 123)):Sp Tryz.prog 56 [.iface 118 (ptr fb),.iface 30 (i64 e)] K L (Ret fun v K' L'=>v=.bool true∧K'=K∧L'=L):=by
 refine a8 Tryz.func56 rfl Tryz.ntmps56 rfl rfl fun F w=>?_;refine zz24 ?_;refine aA (oK rfl rfl Tryz.func97 aAK aAL aAM aAN (fun w _=>aFD _ w)) rfl ?_;refine aA (gM rfl rfl (vO _) Tryz.func415 bLP bLQ bLR bLS (fun w _=>aDQ w)) rfl ?_;refine zz8 ?_;refine aX rfl rfl (bTH fb e at_ _ L hs) (dI _) rfl ?_;rintro _ K _ ⟨rfl,rfl,rfl⟩ -;rw[List.append_nil];refine zz5 ?_;exact⟨_,rfl,rfl,rfl,rfl⟩
theorem aRJ(fb:Nat)(e at_:Int)(K:Hl)(L:List Asn)(hE:ErrT K)(hs:Sees K L fb (aZ [i64 e,i64 at_] 123)):Sp Tryz.prog 37 [.iface 118 (ptr fb)] K L (Ret fun v K' L'=>v=.tuple #[i64 e,i64 at_]∧K'=K∧L'=L):=by
 have hsA:∀A:Asn,Sees K (A::L) fb (aZ [i64 e,i64 at_] 123):=fun A=>aGH hs
 refine a8 Tryz.func37 rfl Tryz.ntmps37 rfl rfl fun F w=>?_;refine zz9 ?_;rintro _ K _ ⟨b4,rfl,rfl,rfl⟩ -;refine zz5 ?_;rintro _ K _ ⟨b5,rfl,rfl,rfl⟩ -;refine zz15 ?_;refine aA (cY Tryz.underlying120 (fun _ h=>by cases h) rfl) rfl ?_;refine aX rfl rfl (bS6 fb b4 _ _ hE) (.cons (.there .here) .nil) rfl ?_;rintro _ K _ ⟨rfl,rfl,rfl⟩ -;have hs2:=aGH (A:=pt b4 (aZ [ptr fb] 118)) (aGH (A:=pt b5 (aZ [i64 0] 30)) hs);refine zz10 ?_;refine aA (aL bE7 rfl hs2 rfl) rfl ?_;refine zz1 ?_;refine aA (cY Tryz.underlying30 (fun _ h=>by cases h) rfl) rfl ?_;refine zz1 ?_;refine aX rfl rfl (bFW fb e at_ _ _ hs2) (dI _) rfl ?_;rintro _ K _ ⟨rfl,rfl,rfl⟩ -;rw[List.append_nil];refine zz6 ?_;refine dD (anc:=[0,1,3,7,0,16,48,112,15,511]) (ord:=[0,1,2,3,4,5,6,7,8,9]) [] [] mixed gAH (dI _) ?_;refine zz3 ?_;refine aK rfl rfl (.none rfl) rfl rfl (aL bE7 rfl hs2 rfl) rfl ?_;refine zz3 ?_;refine aK rfl rfl (.none rfl) rfl rfl (aL ts3 rfl hs2 rfl) rfl ?_;refine zz7 ?_;refine aZE (aZE ?_)
 refine fA rfl rfl rfl (Hl.le_refl _) ?_;exact⟨_,rfl,rfl,rfl,List.append_nil L⟩
end Go.Proofs
end

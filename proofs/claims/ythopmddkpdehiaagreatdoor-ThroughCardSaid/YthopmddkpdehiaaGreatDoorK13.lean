/-
  What the proof stands on, part 13: the logic of walks, the walks through the functions, the plain laws. Conditions: as each theorem says. (Merged and shortened by a program.)
-/
import Derived.ChangeKeysEq
import Derived.Test.YthopmddkpdehiaaGreatDoorK12
set_option linter.unusedVariables false
set_option linter.unusedSimpArgs false
set_option maxRecDepth 4000
set_option maxHeartbeats 1000000
section
attribute [local irreducible] Go.SL.T Go.SL.OL Go.SL.D Go.SL.DL Go.SL.Ev Go.SL.Ef Go.SL.EfS
namespace Go.Proofs
open Go Go.SL Go.Syn
theorem vF(c:UInt8)(K:Hl):Sp Tryz.prog 183 [.int .u8 c.toNat] K [] (Val (.bool (jE c)) K):=by
 refine a8 Tryz.func183 rfl Tryz.ntmps183 rfl rfl fun F w=>?_;refine zz8 ?_;refine aA (aPS c 32 rfl rfl) rfl ?_;refine zz2 ?_;refine cH 6 rfl (fun g6=>?_) (fun g6=>?_)
 ·refine zz3 ?_;refine aA (aPS c 32 rfl rfl) rfl ?_;refine zz4 ?_;refine cH 11 rfl (fun g11=>?_) (fun g11=>?_)
  ·refine zz8 ?_;refine lN ?_ _
   unfold jE
   generalize (c|||32).toNat=x at*
   generalize c.toNat=y at*
   rw[Bool.eq_iff_iff];simp;omega
  refine zz10 ?_;refine lN ?_ _
  unfold jE
  generalize (c|||32).toNat=x at*
  generalize c.toNat=y at*
  rw[Bool.eq_iff_iff];simp;omega
 refine zz15 ?_;refine lN ?_ _
 unfold jE
 generalize (c|||32).toNat=x at*
 generalize c.toNat=y at*
 rw[Bool.eq_iff_iff];simp;omega
theorem sC(c:UInt8)(K:Hl):Sp Tryz.prog 188 [.int .u8 c.toNat] K [] (Val (.bool (eL c)) K):=by
 refine a8 Tryz.func188 rfl Tryz.ntmps188 rfl rfl fun F w=>?_;refine zz10 ?_;refine cH 5 rfl (fun g5=>?_) (fun g5=>?_)
 ·refine zz10 ?_;refine lN ?_ _
  unfold eL
  generalize c.toNat=y at*
  rw[Bool.eq_iff_iff];simp;omega
 refine zz8 ?_;refine lN ?_ _
 unfold eL
 generalize c.toNat=y at*
 rw[Bool.eq_iff_iff];simp;omega
theorem uO(c:UInt8)(K:Hl):Sp Tryz.prog 187 [.int .u8 c.toNat] K [] (Val (.bool (dO c)) K):=by
 refine a8 Tryz.func187 rfl Tryz.ntmps187 rfl rfl fun F w=>?_;refine zz8 ?_;refine cF rfl rfl (vF _ _) rfl ?_;refine zz1 ?_;refine lE 5 rfl (fun g5=>?_) (fun g5=>?_)
 ·refine zz8 ?_;refine lN ?_ _
  simp[dO,g5]
 refine zz3 ?_;refine cF rfl rfl (sC _ _) rfl ?_;refine zz6 ?_;refine lN ?_ _
 simp[dO,g5]
abbrev lxb(b:Nat)(T:TypeId)(s:List UInt8)(at_:Int)(wk:Value)(ws:Value)(wn:Value)(wa:Value)(rest:List Value):Asn:=pt b (aZ (str s::i64 at_::wk::ws::wn::wa::rest) T)
theorem n4(b:Nat)(T:TypeId)(s:List UInt8)(a n:Nat)(wk ws wn wa:Value)(rest:List Value)(hs:s.length≤600)(ha:a≤600)(hn:n≤2)(K:Hl):
  Sp Tryz.prog 181 [ptr b,i64 n] K [lxb b T s a wk ws wn wa rest] (Ret fun v K' L'=>v=.int .u8 ((s[a+n]?).getD 0).toNat∧K'=K∧L'=[lxb b T s a wk ws wn wa rest]):=by
 refine a8 Tryz.func181 rfl Tryz.ntmps181 rfl rfl fun F w=>?_;refine zz7 ?_;refine dD (anc:=[0,1,3,7,0,31,0,64,192,448,960,2047]) (ord:=[0,1,2,3,4,5,6,7,8,9,10,11]) [] [] mixed gAH (dI _) ?_;refine zz14 ?_;refine bK 16 rfl (fun h16=>?_) (fun h16=>?_)
 ·obtain⟨c,hc⟩:∃c,s[a+n]?=some c:=⟨s[a+n],List.getElem?_eq_getElem aI⟩;refine aH ?_;refine dD (anc:=[0,1,3,7,0,16,48,112,0,496,1023,2047]) (ord:=[0,1,2,3,4,5,6,7,8,9,10,11]) [] [] mixed gAH (dI _) ?_;refine zz10 ?_;refine aK rfl rfl (.none rfl) rfl rfl (cZ Tryz.underlying9 rfl (j:=a+n) rfl aI hc) rfl ?_;refine zz6 ?_;exact⟨_,rfl,by rw[hc];rfl,rfl,rfl⟩
 have hc:s[a+n]?=none:=List.getElem?_eq_none aI;refine zz9 ?_;exact⟨_,rfl,by rw[hc];rfl,rfl,rfl⟩
theorem yA(b:Nat)(T:TypeId)(s:List UInt8)(a:Nat)(wk ws wn wa:Value)(rest:List Value)(fn:FuncId)(pf:UInt8→Bool)(hs:s.length≤600)(ha:a≤s.length)(K:Hl)
  (hf:∀c,Sp Tryz.prog fn [.int .u8 (c:UInt8).toNat] K [] (Val (.bool (pf c)) K)):
  Sp Tryz.prog 186 [ptr b,.func (.func fn) #[] #[]] K [lxb b T s a wk ws wn wa rest]
   (Ret fun v K' L'=>v=str ((s.drop a).takeWhile pf)∧K'=K∧L'=[lxb b T s (a+((s.drop a).takeWhile pf).length:Nat) wk ws wn wa rest]):=by
 refine a8 Tryz.func186 rfl Tryz.ntmps186 rfl rfl fun F w=>?_;refine zz16 ?_;refine eJ (fun(i:Nat)=>a≤i∧i≤s.length∧((s.drop a).take (i - a)).all pf=true) (fun i=>[(0,ptr b),(1,.func (.func fn) #[] #[]),(5,i64 a)]) (fun _=>K) (fun i=>[lxb b T s i wk ws wn wa rest]) (fun i=>s.length - i) a ⟨Nat.le_refl _,ha,by simp⟩ (.cons 0 rfl (.cons 1 rfl (.cons 5 rfl .nil))) rfl (fun _ h=>h) ?_;intro i ⟨hi1,hi2,hi3⟩;refine zz2 ?_;refine dD (anc:=[0,1,3,7,0,16,48,112,240,511,1023,2047,2047,6143,14335,30719,2047,67583,198655,460799,1046527,2097151,4194303]) (ord:=[0,1,2,3,4,5,6,7,8,9,10,11,12,13,14,15,16,17,18,19,20,21,22]) [21] [] mixed gAH (dI _) ?_;refine zz11 ?_;refine jD 20 rfl (fun g20=>?_) (fun g20=>?_)
 ·obtain⟨c,hc⟩:∃c,s[i]?=some c:=⟨s[i],List.getElem?_eq_getElem aI⟩;refine zz10 ?_;refine lC rfl (.on rfl rfl rfl) rfl rfl rfl rfl (hf c) rfl ?_;refine zz3 ?_;refine eO 32 rfl (fun h32=>?_) (fun h32=>?_)
  ·refine zz11 ?_;refine uAb ?_;rintro _ K _ ⟨rfl,rfl⟩ -;refine zz2 ?_;refine dF (i+1) ⟨by omega,by omega,?_⟩ aI (.cons 0 rfl (.cons 1 rfl (.cons 5 rfl .nil))) rfl (fun _ h=>h)
   have e:i+1 - a=i - a+1:=by omega
   have e2:a+(i - a)=i:=by omega
   rw[e];exact Plain.take_all_succ (c:=c) (by rw[List.getElem?_drop,e2];exact hc) hi3 h32
  refine zz6 ?_;refine dD (anc:=[0,1,3,7,0,0,32,96,224,511,1023]) (ord:=[0,1,2,3,4,5,6,7,8,9,10]) [] [] mixed gAH (dI _) ?_;refine zz9 ?_;refine aK rfl rfl (.none rfl) rfl rfl (nY Tryz.underlying9 rfl rfl rfl rfl rfl aI aI) rfl ?_;refine zz5 ?_;have hstop:∀c1,s[i]?=some c1→pf c1=false:=by first|(intro c1 hc1;rw[hc]at hc1;cases hc1;exact h32)|(intro c1 hc1;rw[List.getElem?_eq_none aI]at hc1;cases hc1)
  have e2:a+(i - a)=i:=by omega
  have hT:(s.drop a).takeWhile pf=(s.drop a).take (i - a):=Plain.takeWhile_stop pf _ _ gAI hi3 (fun c1 hc1=>hstop c1 (by rw[List.getElem?_drop,e2]at hc1;exact hc1));have hL:a+((s.drop a).takeWhile pf).length=i:=by rw[hT];simp;omega
  refine⟨_,rfl,?_,rfl,?_⟩
  ·rw[hT,List.drop_take]
  rw[hL];rfl
 refine zz21 ?_;refine dD (anc:=[0,1,3,7,0,0,32,96,224,511,1023]) (ord:=[0,1,2,3,4,5,6,7,8,9,10]) [] [] mixed gAH (dI _) ?_;refine zz9 ?_;refine aK rfl rfl (.none rfl) rfl rfl (nY Tryz.underlying9 rfl rfl rfl rfl rfl aI aI) rfl ?_;refine zz5 ?_;have hstop:∀c1,s[i]?=some c1→pf c1=false:=by first|(intro c1 hc1;rw[hc]at hc1;cases hc1;exact h32)|(intro c1 hc1;rw[List.getElem?_eq_none aI]at hc1;cases hc1)
 have e2:a+(i - a)=i:=by omega
 have hT:(s.drop a).takeWhile pf=(s.drop a).take (i - a):=Plain.takeWhile_stop pf _ _ gAI hi3 (fun c1 hc1=>hstop c1 (by rw[List.getElem?_drop,e2]at hc1;exact hc1));have hL:a+((s.drop a).takeWhile pf).length=i:=by rw[hT];simp;omega
 refine⟨_,rfl,?_,rfl,?_⟩
 ·rw[hT,List.drop_take]
 rw[hL];rfl
end Go.Proofs
end
section
namespace Go.Proofs
open Go.Shelf
def Tryz.lays143_ren:Go.Shelf.Ren:=⟨fun|143=>267|219=>311|217=>335|225=>324|224=>323|267=>336|266=>353|314=>354|n=>n,fun|9=>9|3=>3|4=>4|5=>5|46=>257|146=>402|51=>350|n=>n,fun|1=>1|n=>n⟩
theorem Tryz.lays143 : Go.Proofs.Lays.n143 Tryz.prog Tryz.lays143_ren := {
 mixed:=by kernel_rfl
 f143:=Tryz.func267.trans (congrArg some bJ)
 f217:=Tryz.func335.trans (congrArg some bJ)
 f219:=Tryz.func311.trans (congrArg some bJ)
 f224:=Tryz.func323.trans (congrArg some bJ)
 f225:=Tryz.func324.trans (congrArg some bJ)
 f266:=Tryz.func353.trans (congrArg some bJ)
 f267:=Tryz.func336.trans (congrArg some bJ)
 f314:=Tryz.func354.trans (congrArg some bJ)
 t3:=Tryz.underlying3
 a3:=Tryz.isAgg3
 z3:=Tryz.sizeOf3
 v3:=Tryz.zeroValue3
 t4:=Tryz.underlying4
 a4:=Tryz.isAgg4
 z4:=Tryz.sizeOf4
 v4:=Tryz.zeroValue4
 t5:=Tryz.underlying5
 a5:=Tryz.isAgg5
 z5:=Tryz.sizeOf5
 v5:=Tryz.zeroValue5
 t9:=Tryz.underlying9
 a9:=Tryz.isAgg9
 z9:=Tryz.sizeOf9
 v9:=Tryz.zeroValue9
 t46:=Tryz.underlying257
 a46:=Tryz.isAgg257
 z46:=Tryz.sizeOf257
 v46:=Tryz.zeroValue257
 t51:=Tryz.underlying350
 a51:=Tryz.isAgg350
 z51:=Tryz.sizeOf350
 v51:=Tryz.zeroValue350
 t146:=Tryz.underlying402
 a146:=Tryz.isAgg402
 z146:=Tryz.sizeOf402
 v146:=Tryz.zeroValue402
 g1:=by kernel_rfl}
open Go.RowKit Go.Lib in
theorem Tryz.strings_Index(s sub:ByteArray)(m:Int)(w:World)(hs:s.size < 4294967281)(hm:w.cell? ⟨1,0,none⟩=some (.int .i64 m)):
  Calls Tryz.prog 267 #[.string s,.string sub] w fun e w'=>e=.returned (.int .i64 (Lib.index s.data.toList sub.data.toList))∧w'=w:=Any.strings_Index Tryz.lays143 s sub m w hs hm
def Tryz.lays144_ren:Go.Shelf.Ren:=⟨fun|144=>305|143=>267|219=>311|217=>335|225=>324|224=>323|267=>336|266=>353|314=>354|n=>n,fun|9=>9|4=>4|3=>3|5=>5|46=>257|146=>402|51=>350|n=>n,fun|1=>1|n=>n⟩
theorem Tryz.lays144 : Go.Proofs.Lays.n144 Tryz.prog Tryz.lays144_ren := {
 mixed:=by kernel_rfl
 f143:=Tryz.func267.trans (congrArg some bJ)
 f144:=Tryz.func305.trans (congrArg some bJ)
 f217:=Tryz.func335.trans (congrArg some bJ)
 f219:=Tryz.func311.trans (congrArg some bJ)
 f224:=Tryz.func323.trans (congrArg some bJ)
 f225:=Tryz.func324.trans (congrArg some bJ)
 f266:=Tryz.func353.trans (congrArg some bJ)
 f267:=Tryz.func336.trans (congrArg some bJ)
 f314:=Tryz.func354.trans (congrArg some bJ)
 t3:=Tryz.underlying3
 a3:=Tryz.isAgg3
 z3:=Tryz.sizeOf3
 v3:=Tryz.zeroValue3
 t4:=Tryz.underlying4
 a4:=Tryz.isAgg4
 z4:=Tryz.sizeOf4
 v4:=Tryz.zeroValue4
 t5:=Tryz.underlying5
 a5:=Tryz.isAgg5
 z5:=Tryz.sizeOf5
 v5:=Tryz.zeroValue5
 t9:=Tryz.underlying9
 a9:=Tryz.isAgg9
 z9:=Tryz.sizeOf9
 v9:=Tryz.zeroValue9
 t46:=Tryz.underlying257
 a46:=Tryz.isAgg257
 z46:=Tryz.sizeOf257
 v46:=Tryz.zeroValue257
 t51:=Tryz.underlying350
 a51:=Tryz.isAgg350
 z51:=Tryz.sizeOf350
 v51:=Tryz.zeroValue350
 t146:=Tryz.underlying402
 a146:=Tryz.isAgg402
 z146:=Tryz.sizeOf402
 v146:=Tryz.zeroValue402
 g1:=by kernel_rfl}
open Go.RowKit Go.Lib in
theorem Tryz.strings_Contains(s sub:ByteArray)(m:Int)(w:World)(hs:s.size < 4294967281)(hm:w.cell? ⟨1,0,none⟩=some (.int .i64 m)):
  Calls Tryz.prog 305 #[.string s,.string sub] w fun e w'=>e=.returned (.bool (Lib.contains s.data.toList sub.data.toList))∧w'=w:=Any.strings_Contains Tryz.lays144 s sub m w hs hm
def Tryz.lays153_ren:Go.Shelf.Ren:=⟨fun|153=>221|152=>289|226=>290|227=>291|228=>292|137=>308|119=>322|224=>323|225=>324|217=>335|266=>353|n=>n,fun|9=>9|3=>3|4=>4|5=>5|21=>21|117=>416|116=>415|0=>0|46=>257|124=>443|n=>n,fun|n=>n⟩
theorem Tryz.lays153 : Go.Proofs.Lays.n153 Tryz.prog Tryz.lays153_ren := {
 mixed:=by kernel_rfl
 f119:=Tryz.func322.trans (congrArg some bJ)
 f137:=Tryz.func308.trans (congrArg some bJ)
 f152:=Tryz.func289.trans (congrArg some bJ)
 f153:=Tryz.func221.trans (congrArg some bJ)
 f217:=Tryz.func335.trans (congrArg some bJ)
 f224:=Tryz.func323.trans (congrArg some bJ)
 f225:=Tryz.func324.trans (congrArg some bJ)
 f226:=Tryz.func290.trans (congrArg some bJ)
 f227:=Tryz.func291.trans (congrArg some bJ)
 f228:=Tryz.func292.trans (congrArg some bJ)
 f266:=Tryz.func353.trans (congrArg some bJ)
 t0:=Tryz.underlying0
 a0:=Tryz.isAgg0
 z0:=Tryz.sizeOf0
 v0:=Tryz.zeroValue0
 t3:=Tryz.underlying3
 a3:=Tryz.isAgg3
 z3:=Tryz.sizeOf3
 v3:=Tryz.zeroValue3
 t4:=Tryz.underlying4
 a4:=Tryz.isAgg4
 z4:=Tryz.sizeOf4
 v4:=Tryz.zeroValue4
 t5:=Tryz.underlying5
 a5:=Tryz.isAgg5
 z5:=Tryz.sizeOf5
 v5:=Tryz.zeroValue5
 t9:=Tryz.underlying9
 a9:=Tryz.isAgg9
 z9:=Tryz.sizeOf9
 v9:=Tryz.zeroValue9
 t21:=Tryz.underlying21
 a21:=Tryz.isAgg21
 z21:=Tryz.sizeOf21
 v21:=Tryz.zeroValue21
 t46:=Tryz.underlying257
 a46:=Tryz.isAgg257
 z46:=Tryz.sizeOf257
 v46:=Tryz.zeroValue257
 t116:=Tryz.underlying415
 a116:=Tryz.isAgg415
 z116:=Tryz.sizeOf415
 t117:=Tryz.underlying416
 a117:=Tryz.isAgg416
 z117:=Tryz.sizeOf416
 v117:=Tryz.zeroValue416
 t124:=Tryz.underlying443
 a124:=Tryz.isAgg443
 z124:=Tryz.sizeOf443
 v124:=Tryz.zeroValue443}
open Go.RowKit Go.Lib in
theorem Tryz.strings_IndexAny_long(hv116:∀w,(zeroValue 415).run Tryz.prog w=.ok (.agg (Array.replicate 256 (.bool false))) w)(s chars:ByteArray)(w:World)(h2:2≤chars.size)(h8:8 < s.size)(hs:s.size < 4294967281)(hcs:chars.size < 4294967281)(hascii:∀(j:Nat) b,chars.data.toList[j]?=some b→b.toNat < 128):
  Calls Tryz.prog 221 #[.string s,.string chars] w fun e w'=>e=.returned (.int .i64 (Lib.indexAny s.data.toList chars.data.toList))∧w'=((w.alloc (.cells (Lib.setCells chars.data.toList) 415)).alloc (.cells (Lib.setCells chars.data.toList) 415)):=Any.strings_IndexAny_long Tryz.lays153 hv116 bJ s chars w h2 h8 hs hcs hascii
end Go.Proofs
end
section
attribute [local irreducible] Go.SL.T Go.SL.OL Go.SL.D Go.SL.DL Go.SL.Ev Go.SL.Ef Go.SL.EfS
namespace Go.Proofs
open Go Go.SL Go.Syn
def Flt(e at_:Int):Ending→Hl→List Asn→Prop:=fun en K' L'=>
 ∃b,en=.panicked [{v:=.iface 118 (ptr b),recovered:=false}]∧L'=[pt b (aZ [i64 e,i64 at_] 123)]
def jX{β:Type}(r:Res β)(N:β→Value→Hl→List Asn→Prop):Ending→Hl→List Asn→Prop:=fun en K' L'=>
 match r with
 | .ok x=>Ret (N x) en K' L'
 | .error (e,p)=>Flt e p en K' L'
theorem bQ{β:Type}{r:Res β}{N:β→Value→Hl→List Asn→Prop}(K':Hl)(L':List Asn):¬jX r N .outgrown K' L':=by
 unfold jX;cases r with
 |ok x=>rintro⟨_,h,_⟩;cases h
 |error p=>rintro⟨_,h,_⟩;cases h
theorem bS{β:Type}{r:Res β}{N:β→Value→Hl→List Asn→Prop}{v:Value}{K':Hl}{L':List Asn}(h:jX r N (.returned v) K' L'):∃x,r=.ok x∧N x v K' L':=by
 unfold jX at h;cases r with
 |ok x=>obtain⟨u,e,h⟩:=h;cases e;exact⟨x,rfl,h⟩
 |error p=>obtain⟨_,e,_⟩:=h;cases e
theorem bR{β:Type}{r:Res β}{N:β→Value→Hl→List Asn→Prop}{ch:List PanicEntry}{K':Hl}{L':List Asn}(h:jX r N (.panicked ch) K' L'):∃e p,r=.error (e,p)∧Flt e p (.panicked ch) K' L':=by
 unfold jX at h;cases r with
 |ok x=>obtain⟨u,e,h⟩:=h;cases e
 |error p=>exact⟨p.1,p.2,rfl,h⟩
theorem gO(e at_:Int)(K:Hl):Sp Tryz.prog 184 [i64 e,i64 at_] K [] (Flt e at_):=by
 refine a8 Tryz.func184 rfl Tryz.ntmps184 rfl rfl fun F w=>?_;refine zz3 ?_;refine aA (cL bPU bKS (.cons rfl rfl rfl (.cons .nil) (.cons rfl rfl rfl (.skip (.cons .nil)) .nil))) rfl ?_;refine zz1 ?_;rintro _ K _ ⟨b7,rfl,rfl,rfl⟩ -;refine aA (cY Tryz.underlying118 (fun _ h=>by cases h) rfl) rfl ?_;refine aT1 rfl ?_;refine bX (Hl.le_refl _) ?_;exact⟨_,rfl,rfl⟩
theorem aYL(c:UInt8)(K:Hl):Sp Tryz.prog 266 [.int .u8 c.toNat] K [] (Val (.bool (decide (¬c.toNat=10))) K):=by
 refine a8 Tryz.func266 rfl Tryz.ntmps266 rfl rfl fun F w=>?_;refine zz14 ?_;refine lN ?_ _
 rw[Bool.eq_iff_iff];simp;omega
theorem aKA(s sub:List UInt8)(K:Hl)(hg:Glob K)(hs:s.length < 4294967281):Sp Tryz.prog 267 [str s,str sub] K [] (Val (i64 (Lib.index s sub)) K):=by
 refine pD ⟨_,Tryz.func267,rfl,rfl⟩ fun w hw=>?_;obtain⟨m,T,fz,hm⟩:=hg.maxLen;have:=Tryz.strings_Index ⟨s.toArray⟩ ⟨sub.toArray⟩ m w gB3 (mI (hw _ _ hm) rfl);exact this
theorem zH(s sub:List UInt8):Lib.index s sub≤(s.length:Int) - sub.length∨Lib.index s sub= -1:=by
 induction s with
 |nil=>cases sub <;> simp[Lib.index]
 |cons b l ih=>
  simp only[Lib.index];split
  ·rename_i hp;have:=List.IsPrefix.length_le (List.isPrefixOf_iff_prefix.1 hp);simp at this ⊢;omega
  split
  ·exact .inr rfl
  rename_i h;simp at h;rcases ih with ih|ih
  ·left;simp;omega
  exact absurd ih h
theorem bEH(b:Nat)(T:TypeId)(s:List UInt8)(a:Nat)(wk ws wn wa:Value)(rest:List Value)(hs:s.length≤600)(ha:a≤s.length)(K:Hl)(hg:Glob K):
  Sp Tryz.prog 180 [ptr b] K [lxb b T s a wk ws wn wa rest]
   (jX (skip s a) fun a' v K' L'=>v=.tuple #[]∧K'=K∧L'=[lxb b T s a' wk ws wn wa rest]):=by
 refine a8 Tryz.func180 rfl Tryz.ntmps180 rfl rfl fun F w=>?_;refine bB ?_;refine eJ (fun(i:Nat)=>a≤i∧i≤s.length∧∃f,s.length < i+(f+1)∧skip s a=l6 s (f+1) i) (fun i=>[(0,ptr b)]) (fun _=>K) (fun i=>[lxb b T s i wk ws wn wa rest]) (fun i=>s.length - i) a ⟨Nat.le_refl _,ha,s.length - a,by omega,by unfold skip;congr 1;omega⟩ (.cons 0 rfl .nil) rfl (fun _ h=>h) ?_;intro i ⟨hi1,hi2,f,hi3,hi4⟩;refine zz2 ?_;refine dD (anc:=[0,1,3,7,0,16,48,112,240,511]) (ord:=[0,1,2,3,4,5,6,7,8,9]) [] [] mixed gAH (dI _) ?_;refine zz12 ?_;refine bK 13 rfl (fun h13=>?_) (fun h13=>?_)
 ·obtain⟨c,hc⟩:∃c,s[i]?=some c:=⟨s[i],List.getElem?_eq_getElem aI⟩;have hp0:((s[i+0]?).getD 0)=c:=by rw[Nat.add_zero,hc];rfl
  refine zz6 ?_;refine aX rfl rfl (n4 b T s i 0 wk ws wn wa rest hs aI aI K) (.cons .here .nil) rfl ?_;rintro _ K _ ⟨rfl,rfl,rfl⟩ -;rw[hp0];refine zz16 ?_;refine bK 17 rfl (fun h17=>?_) (fun h17=>?_)
  ·refine zz11 ?_;refine uAb ?_;rintro _ K _ ⟨rfl,rfl⟩ -;refine zz3 ?_
   (have hf:∃f0,f=f0+1:=⟨f - 1,by omega⟩;obtain⟨f0,rfl⟩:=hf;refine dF (i+1) ⟨by omega,by omega,f0,by omega,by rw[hi4,nN hc aI]⟩ aI (.cons 0 rfl .nil) rfl (fun _ h=>h))
  refine zz6 ?_;refine bK 17 rfl (fun h17=>?_) (fun h17=>?_)
  ·refine zz11 ?_;refine uAb ?_;rintro _ K _ ⟨rfl,rfl⟩ -;refine zz3 ?_
   (have hf:∃f0,f=f0+1:=⟨f - 1,by omega⟩;obtain⟨f0,rfl⟩:=hf;refine dF (i+1) ⟨by omega,by omega,f0,by omega,by rw[hi4,nN hc aI]⟩ aI (.cons 0 rfl .nil) rfl (fun _ h=>h))
  refine zz6 ?_;refine bK 17 rfl (fun h17=>?_) (fun h17=>?_)
  ·refine zz11 ?_;refine uAb ?_;rintro _ K _ ⟨rfl,rfl⟩ -;refine zz3 ?_
   (have hf:∃f0,f=f0+1:=⟨f - 1,by omega⟩;obtain⟨f0,rfl⟩:=hf;refine dF (i+1) ⟨by omega,by omega,f0,by omega,by rw[hi4,nN hc aI]⟩ aI (.cons 0 rfl .nil) rfl (fun _ h=>h))
  refine zz5 ?_;refine bK 17 rfl (fun h17=>?_) (fun h17=>?_)
  ·refine zz8 ?_;refine uAb ?_;rintro _ K _ ⟨rfl,rfl⟩ -;refine zz3 ?_
   (have hf:∃f0,f=f0+1:=⟨f - 1,by omega⟩;obtain⟨f0,rfl⟩:=hf;refine dF (i+1) ⟨by omega,by omega,f0,by omega,by rw[hi4,nN hc aI]⟩ aI (.cons 0 rfl .nil) rfl (fun _ h=>h))
  refine zz6 ?_;refine bK 29 rfl (fun h29=>?_) (fun h29=>?_)
  ·refine zz2 ?_;refine aX rfl rfl (yA b T s i wk ws wn wa rest 266 (fun c=>decide (¬c.toNat=10)) hs aI _ (fun c=>aYL c _)) (.cons .here .nil) rfl ?_;rintro _ K _ ⟨rfl,rfl,rfl⟩ -;refine zz3 ?_
   (have hh:=aJ1 hc aI;refine dF (i+((s.drop i).takeWhile fun c=>decide (¬c.toNat=10)).length) ⟨by omega,by omega,f - 1,by omega,by rw[hi4,xQ hc aI];congr 1;omega⟩ aI (.cons 0 rfl .nil) rfl (fun _ h=>h))
  refine zz6 ?_;refine bK 33 rfl (fun h33=>?_) (fun h33=>?_)
  ·refine aH ?_;refine dD (anc:=[0,1,3,7,0,16,48,112,240,0,512,1536,3584,7680,16368,32767,65535,131071]) (ord:=[0,1,2,3,4,5,6,7,8,9,10,11,12,13,14,15,16,17]) [16] [] mixed gAH (dI _) ?_;refine zz15 ?_;refine aK rfl rfl (.none rfl) rfl rfl (iT (m:=min (i+2) s.length) Tryz.underlying9 rfl rfl gA6 aI) rfl ?_;refine lC rfl (.none rfl) rfl rfl rfl rfl (aKA _ _ _ hg gAI) rfl ?_;refine zz7 ?_;refine aX rfl rfl (n4 b T s i 1 wk ws wn wa rest hs aI aI _) (.cons .here .nil) rfl ?_;rintro _ K _ ⟨rfl,rfl,rfl⟩ -;have hix:=zH (s.drop (min (i+2) s.length)) [42,47];simp only[List.length_drop,List.length_cons,List.length_nil]at hix;refine zz3 ?_;refine bK 54 rfl (fun h54=>?_) (fun h54=>?_)
   ·refine zz6 ?_;refine wT rfl (Hl.le_refl _) ?_;have hk:skip s a=.ok i:=by rw[hi4];first|exact sO aI|exact nO hc aI aI|exact pN hc aI
    rw[hk];exact⟨_,rfl,rfl,rfl,rfl⟩
   refine zz9 ?_;refine bK 56 rfl (fun h56=>?_) (fun h56=>?_)
   ·refine zz5 ?_;refine bL rfl rfl (gO 2 i _) .nil rfl gAG ?_ ?_
    ·rintro _ _ _ ⟨fb,h,rfl⟩ le1;cases h
     refine uAa ?_;refine zz6 ?_;rw[hi4,aBH hc aI aI h56];exact⟨fb,rfl,rfl⟩
    rintro _ _ _ ⟨_,h,_⟩;cases h
   refine zz13 ?_;refine uAb ?_;rintro _ K _ ⟨rfl,rfl⟩ -;refine zz3 ?_
   (rw[show ((i:Int)+(2+Lib.index (s.drop (min (i+2) s.length)) [42,47]+2))=((i+2+(Lib.index (s.drop (min (i+2) s.length)) [42,47]).toNat+2:Nat):Int)from by omega];refine dF (i+2+(Lib.index (s.drop (min (i+2) s.length)) [42,47]).toNat+2) ⟨by omega,by omega,f - 1,by omega,by rw[hi4,rB hc aI aI aI];congr 1;omega⟩ aI (.cons 0 rfl .nil) rfl (fun _ h=>h))
  refine zz5 ?_;refine wT rfl (Hl.le_refl _) ?_;have hk:skip s a=.ok i:=by rw[hi4];first|exact sO aI|exact nO hc aI aI|exact pN hc aI
  rw[hk];exact⟨_,rfl,rfl,rfl,rfl⟩
 refine zz5 ?_;have hk:skip s a=.ok i:=by rw[hi4];first|exact sO aI|exact nO hc aI aI|exact pN hc aI
 rw[hk];exact⟨_,rfl,rfl,rfl,rfl⟩
theorem aH5(s:List UInt8)(lo hi add:UInt8)(K:Hl)(hs:s.length≤140737488351232):
    Sp Tryz.prog 269 [str s,.int .u8 lo.toNat,.int .u8 hi.toNat,.int .u8 add.toNat] K [] (Val (str (s.map (mG lo hi add))) K):=by
  refine a8 Tryz.func269 rfl Tryz.ntmps269 rfl rfl fun F w=>?_;refine zz8 ?_;refine uAi ?_;rintro v13 K _ ⟨rfl,rfl⟩ -;refine zz7 ?_;refine uAw ?_;refine zz4 ?_;refine eJ (fun(i:Nat)=>i≤s.length) (fun i=>[(1,.int .u8 lo.toNat),(2,.int .u8 hi.toNat),(3,.int .u8 add.toNat),(9,v13),(14,v13),(15,i64 s.length),(16,i64 i)]) (fun _=>_) (fun i=>[sl false (elB 5) v13 (Plain.mp (mG lo hi add) s i)]) (fun i=>s.length - i) 0 (Nat.zero_le _) (.cons 1 rfl (.cons 2 rfl (.cons 3 rfl (.cons 9 rfl (.cons 14 rfl (.cons 15 rfl (.cons 16 rfl .nil))))))) rfl (fun _ h=>by rw[Plain.mp_zero];exact h) ?_;intro i hi0;refine zz6 ?_;refine bK 17 rfl (fun h17=>?_) (fun h17=>?_)
  · obtain⟨c,hc⟩:∃c,s[i]?=some c:=⟨s[i]'(by omega),List.getElem?_eq_getElem aI⟩;have hlen:i < (Plain.mp (mG lo hi add) s i).length:=by rw[Plain.mp_len];omega
    have hget:=(Plain.mp_get (mG lo hi add) s i).trans hc;refine zz7 ?_;refine aA (bE (k:=(elB 5)) kR rfl aM rfl rfl gAD) rfl ?_;refine uBb ?_;refine zz10 ?_;refine cH 24 rfl (fun g24=>?_) (fun g24=>?_)
    · refine zz9 ?_;refine bK 28 rfl (fun h28=>?_) (fun h28=>?_)
      · refine zz5 ?_;refine aA (bML c add rfl rfl) rfl ?_;refine aA (bE (k:=(elB 5)) kR rfl aM rfl rfl gAD) rfl ?_;refine cA (vU (k:=(elB 5)) (y0:=c+add) ts5 rfl rfl rfl rfl gAD bF) ?_;rintro _ K _ ⟨rfl,rfl⟩ -;refine zz7 ?_;refine dF (i+1) aI aI (.cons 1 rfl (.cons 2 rfl (.cons 3 rfl (.cons 9 rfl (.cons 14 rfl (.cons 15 rfl (.cons 16 rfl .nil))))))) rfl ?_
        (have ht : mG lo hi add c = c + add := by (unfold mG; rw [if_pos aI])
         rw[←ht,Plain.mp_set hc];exact fun _ h=>h)
      refine zz7 ?_;refine dF (i+1) aI aI (.cons 1 rfl (.cons 2 rfl (.cons 3 rfl (.cons 9 rfl (.cons 14 rfl (.cons 15 rfl (.cons 16 rfl .nil))))))) rfl ?_
      (have ht : mG lo hi add c = c := by (unfold mG; rw [if_neg aI])
       rw[Plain.mp_same hc ht];exact fun _ h=>h)
    refine zz14 ?_;refine dF (i+1) aI aI (.cons 1 rfl (.cons 2 rfl (.cons 3 rfl (.cons 9 rfl (.cons 14 rfl (.cons 15 rfl (.cons 16 rfl .nil))))))) rfl ?_
    (have ht : mG lo hi add c = c := by (unfold mG; rw [if_neg aI])
     rw[Plain.mp_same hc ht];exact fun _ h=>h)
  have hfin:=Plain.mp_end (mG lo hi add) s (i:=i) aI;refine zz8 ?_;refine uBa ?_;refine zz4 ?_;rw[hfin];refine uAl ?_;refine zz1 ?_;exact⟨rfl,rfl,rfl⟩
theorem jT(s:List UInt8)(K:Hl)(hs:s.length≤140737488351232):Sp Tryz.prog 185 [str s] K [] (Val (str (dG s)) K):=by
 refine a8 Tryz.func185 rfl Tryz.ntmps185 rfl rfl fun F w=>?_;refine zz8 ?_;refine cF rfl rfl (aH5 s 65 90 32 _ hs) rfl ?_;refine zz5 ?_;exact⟨rfl,rfl,rfl⟩
theorem aXE(s:List UInt8)(K:Hl)(hs:s.length≤140737488351232):Sp Tryz.prog 258 [str s] K [] (Val (str (aP3 s)) K):=by
 refine a8 Tryz.func258 rfl Tryz.ntmps258 rfl rfl fun F w=>?_;refine zz8 ?_;refine cF rfl rfl (aH5 s 97 122 224 _ hs) rfl ?_;refine zz5 ?_;exact⟨rfl,rfl,rfl⟩
theorem aTY(b:Nat)(T:TypeId)(s:List UInt8)(a:Nat)(wk ws wn:Value)(wat:Int)(rest:List Value)(hs:s.length≤600)(ha:a≤s.length)(K:Hl):
    Sp Tryz.prog 189 [ptr b] K [lxb b T s a wk ws wn (i64 wat) rest]
      (jX (tV s a wat) fun r v K' L'=>v=.tuple #[]∧K'=K∧L'=[lxb b T s r.1 (.int .u8 4) ws (i64 r.2) (i64 wat) rest]):=by
  have hdl:=aM9 s a ha;refine a8 Tryz.func189 rfl Tryz.ntmps189 rfl rfl fun F w=>?_;refine zz9 ?_;refine aX rfl rfl (yA b T s a wk ws wn (i64 wat) rest 188 eL hs ha _ (fun c=>sC c _)) (.cons .here .nil) rfl ?_;rintro _ K _ ⟨rfl,rfl,rfl⟩ -;rw[show List.takeWhile eL (List.drop a s)=eT s a from rfl];have hvd:mK ((eT s a).take 0)=0:=rfl;refine uAi ?_;rintro v7 K _ ⟨rfl,rfl⟩ -;refine uAw ?_;refine zz4 ?_;refine eJ (fun(i:Nat)=>i≤(eT s a).length) (fun i=>[(0,ptr b),(2,i64 (mK ((eT s a).take i))),(7,v7),(8,i64 (eT s a).length),(9,i64 i)]) (fun _=>_) (fun i=>[sl false (elB 5) v7 (eT s a),lxb b T s (a+(eT s a).length:Nat) wk ws wn (i64 wat) rest]) (fun i=>(eT s a).length - i) 0 (Nat.zero_le _) (.cons 0 rfl (.cons 2 rfl (.cons 7 rfl (.cons 8 rfl (.cons 9 rfl .nil))))) rfl (fun _ h=>h) ?_;intro i hi0;refine zz6 ?_;refine bK 10 rfl (fun h10=>?_) (fun h10=>?_)
  · obtain⟨c,hc⟩:∃c,(eT s a)[i]?=some c:=⟨(eT s a)[i]'(by omega),List.getElem?_eq_getElem aI⟩;have hd:=bGU hc;have hlen:i < (eT s a).length:=by omega
    have hbd:=aAW ((eT s a).take i);refine zz6 ?_;refine aA (bE (k:=(elB 5)) kR rfl aM rfl rfl gAD) rfl ?_;refine uBb ?_;refine zz7 ?_;refine aA (aZT (m:=c.toNat) (n:=48) aI aI rfl rfl) rfl ?_;refine aA (zC Tryz.underlying3 Tryz.underlying5 rfl aI aI) rfl ?_;refine zz10 ?_;have hup:mK ((eT s a).take (i+1))=_:=aSI hc;refine dF (i+1) aI aI (.cons 0 rfl (.cons 2 (by rw[hup];rfl) (.cons 7 rfl (.cons 8 rfl (.cons 9 rfl .nil))))) rfl (fun _ h=>h)
  have hfin:(eT s a).take i=eT s a:=List.take_of_length_le aI;have hbd:=aAW (eT s a);rw[hfin];refine zz5 ?_;refine gV (fun(_:Unit)=>True) (fun _=>[(0,ptr b),(2,i64 (numN s a))]) (fun _=>K) (fun _=>[lxb b T s (numA s a:Nat) wk ws wn (i64 wat) rest]) ?_ ?_
  · refine zz3 ?_;refine aX rfl rfl (n4 b T s (a+(eT s a).length) 0 wk ws wn (i64 wat) rest hs aI aI _) (.cons (.there .here) .nil) rfl ?_;rintro _ K _ ⟨rfl,rfl,rfl⟩ -;have hcc:(((s[a+(eT s a).length+0]?).getD 0).toNat:Int)=(numC s a:Int):=rfl;rw[hcc];clear hcc;refine zz16 ?_;refine bK 23 rfl (fun h23=>?_) (fun h23=>?_)
    · refine zz31 ?_;refine uAb ?_;rintro _ K _ ⟨rfl,rfl⟩ -;refine zz4 ?_
      (have eN : numN s a = mK (eT s a) * 1024 * 1024 := (by (unfold numN; rw [if_pos aI]))
       have eA:numA s a=a+(eT s a).length+1:=gB9;refine uAa ?_;refine cN () trivial (.cons 0 rfl (.cons 2 (by rw[eN];rfl) .nil)) rfl gBW)
    refine zz5 ?_;refine bK 23 rfl (fun h23=>?_) (fun h23=>?_)
    · refine zz28 ?_;refine uAb ?_;rintro _ K _ ⟨rfl,rfl⟩ -;refine zz4 ?_
      (have eN : numN s a = mK (eT s a) * 1024 * 1024 := (by (unfold numN; rw [if_pos aI]))
       have eA:numA s a=a+(eT s a).length+1:=gB9;refine uAa ?_;refine cN () trivial (.cons 0 rfl (.cons 2 (by rw[eN];rfl) .nil)) rfl gBW)
    refine zz9 ?_;refine bK 26 rfl (fun h26=>?_) (fun h26=>?_)
    · refine zz25 ?_;refine uAb ?_;rintro _ K _ ⟨rfl,rfl⟩ -;refine zz4 ?_
      (have eN : numN s a = mK (eT s a) * 1024 := (by (unfold numN; rw [if_neg aI, if_pos aI]))
       have eA:numA s a=a+(eT s a).length+1:=gB9;refine uAa ?_;refine cN () trivial (.cons 0 rfl (.cons 2 (by rw[eN];rfl) .nil)) rfl gBW)
    refine zz5 ?_;refine bK 26 rfl (fun h26=>?_) (fun h26=>?_)
    · refine zz22 ?_;refine uAb ?_;rintro _ K _ ⟨rfl,rfl⟩ -;refine zz4 ?_
      (have eN : numN s a = mK (eT s a) * 1024 := (by (unfold numN; rw [if_neg aI, if_pos aI]))
       have eA:numA s a=a+(eT s a).length+1:=gB9;refine uAa ?_;refine cN () trivial (.cons 0 rfl (.cons 2 (by rw[eN];rfl) .nil)) rfl gBW)
    refine zz8 ?_
    (have eN : numN s a = mK (eT s a) := (by (unfold numN; rw [if_neg aI, if_neg aI]))
     have eA:numA s a=a+(eT s a).length:=(by (unfold numA;rw[if_neg aI]));refine uAa ?_;refine cN () trivial (.cons 0 rfl (.cons 2 (by rw[eN];rfl) .nil)) rfl gBW)
  intro _ _;have hnA:numA s a≤s.length:=bAC s a ha;refine zz4 ?_;refine aX rfl rfl (n4 b T s (numA s a) 0 wk ws wn (i64 wat) rest hs aI aI _) (.cons .here .nil) rfl ?_;rintro _ K _ ⟨rfl,rfl,rfl⟩ -;refine cF rfl rfl (uO ((s[numA s a]?).getD 0) _) rfl ?_;refine zz2 ?_;refine eO 42 rfl (fun h42=>?_) (fun h42=>?_)
  · refine zz6 ?_;refine bL rfl rfl (gO 2 wat _) .nil rfl gAG ?_ ?_
    · rintro _ _ _ ⟨fb,h,rfl⟩ le1;cases h
      refine uAa ?_;refine zz2 ?_;unfold tV;rw[if_pos h42];exact⟨fb,rfl,rfl⟩
    rintro _ _ _ ⟨_,h,_⟩;cases h
  refine zz9 ?_;refine bK 50 rfl (fun h50=>?_) (fun h50=>?_)
  · refine zz6 ?_;refine bL rfl rfl (gO 3 wat _) .nil rfl gAG ?_ ?_
    · rintro _ _ _ ⟨fb,h,rfl⟩ le1;cases h
      refine uAa ?_;refine zz2 ?_;unfold tV;rw[if_neg (by simp[h42]),if_pos h50];exact⟨fb,rfl,rfl⟩
    rintro _ _ _ ⟨_,h,_⟩;cases h
  refine zz9 ?_;refine uBf ?_;rintro _ K _ ⟨rfl,rfl⟩ -;refine zz3 ?_;refine uBc ?_;rintro _ K _ ⟨rfl,rfl⟩ -;refine zz2 ?_;unfold tV;rw[if_neg (by simp[h42]),if_neg aI];exact⟨_,rfl,rfl,rfl,rfl⟩
end Go.Proofs
end
section
attribute [local irreducible] Go.SL.T Go.SL.OL Go.SL.D Go.SL.DL Go.SL.Ev Go.SL.Ef Go.SL.EfS
namespace Go.Proofs
open Go Go.SL
theorem mD(b:Nat)(c:UInt8)(xs:List UInt8)(hn:xs.length≤140737488351232)(K:Hl):Sp Tryz.prog 268 [ptr b,.int .u8 c.toNat] K [bldr b xs] (Ret fun u K' L'=>u=.nilIface∧K'=K∧L'=[bldr b (xs++[c])]):=by
 refine a8 Tryz.func268 rfl Tryz.ntmps268 rfl rfl fun F w=>?_;refine vY fun v=>vY fun q=>?_;refine zz8 ?_;refine aX rfl rfl (pV b q v _) (.cons .here .nil) rfl ?_;rintro _ K _ ⟨rfl,rfl,rfl⟩ -;refine zz10 ?_;refine cC (bH (z0:=[.int .u8 0]) kR tz5 rfl rfl rfl rfl (.cons rfl rfl rfl (.cons .nil) .nil)) rfl ?_;rintro _ K _ ⟨b13,rfl,rfl,rfl⟩ -;refine cC (dN (k:=(elB 5)) (ys:=[c]) rN rfl rfl bF (fun w j=>dE Tryz.underlying130 (SeesSl.at (.blk (.own .here) rfl rfl) j)) gAE gAE) rfl ?_;rintro v14 K _ ⟨rfl,rfl,ho14⟩ -;refine zz2 ?_;refine uBl ?_;rintro _ K _ ⟨rfl,rfl⟩ -;refine zz8 ?_;refine uAf ?_;refine fK (aFH b v14 (xs++[c])) ?_;refine zz1 ?_;exact⟨_,rfl,rfl,rfl,rfl⟩
end Go.Proofs
end
section
attribute [local irreducible] Go.SL.T Go.SL.OL Go.SL.D Go.SL.DL Go.SL.Ev Go.SL.Ef Go.SL.EfS
namespace Go.Proofs
open Go Go.SL Go.Syn
theorem aUA(b:Nat)(T:TypeId)(s:List UInt8)(a:Nat)(wk ws wn:Value)(wat:Int)(rest:List Value)(hs:s.length≤600)(ha:a < s.length)(K:Hl):
  Sp Tryz.prog 182 [ptr b] K [lxb b T s a wk ws wn (i64 wat) rest]
   (jX (Syn.quoted s a wat) fun r v K' L'=>v=.tuple #[]∧K'=K∧L'=[lxb b T s r.1 (.int .u8 3) (str r.2) wn (i64 wat) rest]):=by
 refine a8 Tryz.func182 rfl Tryz.ntmps182 rfl rfl fun F w=>?_;refine zz3 ?_;rintro _ K _ ⟨b2,rfl,rfl,rfl⟩ -;refine zz12 ?_;refine uAb ?_;rintro _ K _ ⟨rfl,rfl⟩ -;refine zz3 ?_;refine rC (fun(i:Nat) (acc:List UInt8)=>a+1≤i∧i≤s.length∧acc.length≤i∧∃f,s.length+2≤i+(f+1)∧Syn.quoted s a wat=iO s wat (f+1) i acc) (fun i acc=>[(0,ptr b),(2,ptr b2)]) (fun _ _=>K) (fun i acc=>[bldr b2 acc,lxb b T s i wk ws wn (i64 wat) rest]) (fun i acc=>s.length - i) (a+1) [] ⟨by omega,by omega,by simp,s.length - a,by omega,by unfold Syn.quoted;congr 1;omega⟩ (.cons 0 rfl (.cons 2 rfl .nil)) rfl (fH (aFI b2)) ?_;intro i acc ⟨hi1,hi2,hi3,f,hi4,hi5⟩;refine zz5 ?_;refine aX rfl rfl (n4 b T s i 0 wk ws wn (i64 wat) rest hs aI aI _) (.cons (.there .here) .nil) rfl ?_;rintro _ K _ ⟨rfl,rfl,rfl⟩ -;rw[Nat.add_zero];have hz:i < s.length∨((s[i]?).getD 0).toNat=0:=(by by_cases h:i < s.length;exact .inl h;right;rw[List.getElem?_eq_none aI];rfl);refine zz5 ?_;refine dD (anc:=[0,1,3,7,0,16,48,112,240,511,1023,2047,4095,8191]) (ord:=[0,1,2,3,4,5,6,7,8,9,10,11,12,13]) [] [] mixed gAH (dI _) ?_;refine zz11 ?_;refine jD 30 rfl (fun g30=>?_) (fun g30=>?_)
 ·refine zz5 ?_;refine bK 33 rfl (fun h33=>?_) (fun h33=>?_)
  ·refine zz16 ?_;refine uAb ?_;rintro _ K _ ⟨rfl,rfl⟩ -;refine zz5 ?_;refine aX rfl rfl (pU b2 acc aI _) (.cons (.there .here) .nil) rfl ?_;rintro _ K _ ⟨rfl,rfl,rfl⟩ -;refine zz3 ?_;refine uBf ?_;rintro _ K _ ⟨rfl,rfl⟩ -;refine zz3 ?_;refine uBj ?_;rintro _ K _ ⟨rfl,rfl⟩ -;refine zz2 ?_;rw[hi5,uS aI aI];exact⟨_,rfl,rfl,rfl,rfl⟩
  refine zz9 ?_;refine bK 35 rfl (fun h35=>?_) (fun h35=>?_)
  ·refine zz9 ?_;refine uAb ?_;rintro _ K _ ⟨rfl,rfl⟩ -;refine zz4 ?_;refine aX rfl rfl (n4 b T s (i+1) 0 wk ws wn (i64 wat) rest hs aI aI _) (.cons .here .nil) rfl ?_;rintro _ K _ ⟨rfl,rfl,rfl⟩ -;rw[Nat.add_zero];refine zz5 ?_;refine dD (anc:=[0,1,3,7,0,16,48,112,240,511]) (ord:=[0,1,2,3,4,5,6,7,8,9]) [] [] mixed gAH (dI _) ?_;refine zz12 ?_;refine bK 54 rfl (fun h54=>?_) (fun h54=>?_)
   ·refine zz6 ?_;refine bL rfl rfl (gO 2 wat _) .nil rfl gAG ?_ ?_
    ·rintro _ _ _ ⟨fb,h,rfl⟩ le1;cases h
     refine uAa ?_;refine zz7 ?_;rw[hi5,xM aI aI aI];exact⟨fb,rfl,rfl⟩
    rintro _ _ _ ⟨_,h,_⟩;cases h
   refine zz4 ?_;refine aX rfl rfl (mD b2 _ acc aI _) (.cons (.there .here) .nil) rfl ?_;rintro _ K _ ⟨rfl,rfl,rfl⟩ -;refine zz11 ?_;refine uAb ?_;rintro _ K _ ⟨rfl,rfl⟩ -;refine aG ?_;obtain⟨f0,rfl⟩:∃f0,f=f0+1:=⟨f - 1,by omega⟩;refine fR (i+2) (acc++[(s[i+1]?).getD 0]) ⟨by omega,by omega,by simp;omega,f0,by omega,by rw[hi5,pL aI aI aI]⟩ aI (.cons 0 rfl (.cons 2 rfl .nil)) rfl (fun _ h=>h)
  refine zz4 ?_;refine dD (anc:=[0,1,3,7,0,16,48,112,240,511]) (ord:=[0,1,2,3,4,5,6,7,8,9]) [] [] mixed gAH (dI _) ?_;refine zz12 ?_;refine bK 54 rfl (fun h54=>?_) (fun h54=>?_)
  ·refine zz6 ?_;refine bL rfl rfl (gO 2 wat _) .nil rfl gAG ?_ ?_
   ·rintro _ _ _ ⟨fb,h,rfl⟩ le1;cases h
    refine uAa ?_;refine zz7 ?_;rw[hi5,rA aI aI aI];exact⟨fb,rfl,rfl⟩
   rintro _ _ _ ⟨_,h,_⟩;cases h
  refine zz4 ?_;refine aX rfl rfl (mD b2 _ acc aI _) (.cons (.there .here) .nil) rfl ?_;rintro _ K _ ⟨rfl,rfl,rfl⟩ -;refine zz11 ?_;refine uAb ?_;rintro _ K _ ⟨rfl,rfl⟩ -;refine aG ?_;obtain⟨f0,rfl⟩:∃f0,f=f0+1:=⟨f - 1,by omega⟩;refine fR (i+1) (acc++[(s[i]?).getD 0]) ⟨by omega,by omega,by simp;omega,f0,by omega,by rw[hi5,n5 aI aI aI]⟩ aI (.cons 0 rfl (.cons 2 rfl .nil)) rfl (fun _ h=>h)
 refine zz15 ?_;refine bK 35 rfl (fun h35=>?_) (fun h35=>?_)
 ·refine zz9 ?_;refine uAb ?_;rintro _ K _ ⟨rfl,rfl⟩ -;refine zz4 ?_;refine aX rfl rfl (n4 b T s (i+1) 0 wk ws wn (i64 wat) rest hs aI aI _) (.cons .here .nil) rfl ?_;rintro _ K _ ⟨rfl,rfl,rfl⟩ -;rw[Nat.add_zero];refine zz5 ?_;refine dD (anc:=[0,1,3,7,0,16,48,112,240,511]) (ord:=[0,1,2,3,4,5,6,7,8,9]) [] [] mixed gAH (dI _) ?_;refine zz12 ?_;refine bK 54 rfl (fun h54=>?_) (fun h54=>?_)
  ·refine zz6 ?_;refine bL rfl rfl (gO 2 wat _) .nil rfl gAG ?_ ?_
   ·rintro _ _ _ ⟨fb,h,rfl⟩ le1;cases h
    refine uAa ?_;refine zz7 ?_;rw[hi5,rA aI aI aI];exact⟨fb,rfl,rfl⟩
   rintro _ _ _ ⟨_,h,_⟩;cases h
  refine zz4 ?_;refine aX rfl rfl (mD b2 _ acc aI _) (.cons (.there .here) .nil) rfl ?_;rintro _ K _ ⟨rfl,rfl,rfl⟩ -;refine zz11 ?_;refine uAb ?_;rintro _ K _ ⟨rfl,rfl⟩ -;refine aG ?_;obtain⟨f0,rfl⟩:∃f0,f=f0+1:=⟨f - 1,by omega⟩;refine fR (i+2) (acc++[(s[i+1]?).getD 0]) ⟨by omega,by omega,by simp;omega,f0,by omega,by rw[hi5,pL aI aI aI]⟩ aI (.cons 0 rfl (.cons 2 rfl .nil)) rfl (fun _ h=>h)
 refine zz4 ?_;refine dD (anc:=[0,1,3,7,0,16,48,112,240,511]) (ord:=[0,1,2,3,4,5,6,7,8,9]) [] [] mixed gAH (dI _) ?_;refine zz12 ?_;refine bK 54 rfl (fun h54=>?_) (fun h54=>?_)
 ·refine zz6 ?_;refine bL rfl rfl (gO 2 wat _) .nil rfl gAG ?_ ?_
  ·rintro _ _ _ ⟨fb,h,rfl⟩ le1;cases h
   refine uAa ?_;refine zz7 ?_;rw[hi5,rA aI aI aI];exact⟨fb,rfl,rfl⟩
  rintro _ _ _ ⟨_,h,_⟩;cases h
 refine zz4 ?_;refine aX rfl rfl (mD b2 _ acc aI _) (.cons (.there .here) .nil) rfl ?_;rintro _ K _ ⟨rfl,rfl,rfl⟩ -;refine zz11 ?_;refine uAb ?_;rintro _ K _ ⟨rfl,rfl⟩ -;refine aG ?_;obtain⟨f0,rfl⟩:∃f0,f=f0+1:=⟨f - 1,by omega⟩;refine fR (i+1) (acc++[(s[i]?).getD 0]) ⟨by omega,by omega,by simp;omega,f0,by omega,by rw[hi5,n5 aI aI aI]⟩ aI (.cons 0 rfl (.cons 2 rfl .nil)) rfl (fun _ h=>h)
theorem lP{α:Type}(p:α→Bool)(s:List α)(i:Nat)(h:i≤s.length):i+((s.drop i).takeWhile p).length≤s.length:=by
 have:=(List.takeWhile_sublist p (l:=s.drop i)).length_le;simp only[List.length_drop]at this;omega
theorem bKD(s:List UInt8):∀(f i j:Nat),i≤s.length→l6 s f i=.ok j→i≤j∧j≤s.length:=by
 intro f;induction f with
 |zero=>intro i j hi h;simp only[l6]at h;cases h;exact⟨Nat.le_refl _,hi⟩
 |succ f ih=>
  intro i j hi h;simp only[l6]at h;split at h
  ·cases h;exact⟨Nat.le_refl _,hi⟩
  rename_i c hc;have hlt:i < s.length:=by
   rcases Nat.lt_or_ge i s.length with h'|h'
   ·exact h'
   simp[List.getElem?_eq_none h']at hc
  split at h
  ·have:=ih _ _ aI h;omega
  split at h
  ·have:=lP (fun c:UInt8=>decide (¬c.toNat=10)) s i hi;have:=ih _ _ aI h;omega
  split at h
  ·split at h
   ·cases h;exact⟨Nat.le_refl _,hi⟩
   split at h
   ·cases h
   rename_i hx;have hix:=zH (s.drop (min (i+2) s.length)) [42,47];simp only[List.length_drop,List.length_cons,List.length_nil]at hix;have:=ih _ _ aI h;omega
  cases h;exact⟨Nat.le_refl _,hi⟩
theorem aEZ{s:List UInt8}{a a1:Nat}(ha:a≤s.length)(h:skip s a=.ok a1):a≤a1∧a1≤s.length:=bKD s _ _ _ ha h
abbrev lxw(b:Nat)(T:TypeId)(s:List UInt8)(a:Nat)(w:Word)(rest:List Value):Asn:=lxb b T s a (.int .u8 w.kind) (str w.s) (i64 w.n) (i64 w.at_) rest
theorem eS(b:Nat)(T:TypeId)(s:List UInt8)(a:Nat)(wk ws wn wa:Value)(rest:List Value)(hs:s.length≤600)(ha:a≤s.length)(K:Hl)(hg:Glob K):
    Sp Tryz.prog 101 [ptr b] K [lxb b T s a wk ws wn wa rest]
      (jX (Syn.next s a) fun r v K' L'=>v=.tuple #[]∧K'=K∧L'=[lxw b T s r.1 r.2 rest]):=by
  refine a8 Tryz.func101 rfl Tryz.ntmps101 rfl rfl fun F w=>?_;refine zz3 ?_;refine bL rfl rfl (bEH b T s a wk ws wn wa rest hs ha _ hg) (.cons .here .nil) rfl (fun _ _=>bQ _ _) ?_ ?_
  · rintro _ _ _ hT le1;obtain⟨e,p,hr,fb,h,rfl⟩:=bR hT;cases h
    refine uAa ?_;refine zz2 ?_;have hn:Syn.next s a=.error (e,p):=(by unfold Syn.next;rw[hr]);rw[hn];exact⟨fb,rfl,rfl⟩
  rintro _ K _ hT -;obtain⟨a1,hr0,rfl,rfl,rfl⟩:=bS hT;have ha1:=(aEZ ha hr0).2;refine zz9 ?_;refine aA (cL bAO aRG (.cons rfl rfl rfl (.skip (.skip (.skip (.cons .nil)))) .nil)) rfl ?_;refine zz2 ?_;refine cA (cK sI rfl rfl rfl bF gAA (.skip (.skip (.cons (.cons (.cons (.cons .nil)))))) gAJ) ?_;rintro _ K _ ⟨rfl,rfl⟩ -;refine zz4 ?_;refine dD (anc:=[0,1,3,7,0,16,48,112,240,511]) (ord:=[0,1,2,3,4,5,6,7,8,9]) [] [] mixed gAH (dI _) ?_;refine zz12 ?_;refine bK 22 rfl (fun h22=>?_) (fun h22=>?_)
  · have hn:Syn.next s a=.ok (a1,⟨0,[],0,a1⟩):=(by simp only[Syn.next,hr0];rw[List.getElem?_eq_none aI]);refine zz2 ?_;refine wT rfl (Hl.le_refl _) ?_;rw[hn];exact⟨_,rfl,rfl,rfl,rfl⟩
  obtain⟨c,hc⟩:∃c,s[a1]?=some c:=⟨s[a1]'(by omega),List.getElem?_eq_getElem aI⟩;have hn:Syn.next s a=mT s a1 c:=(by simp only[Syn.next,hr0,hc]);have hp0:((s[a1+0]?).getD 0)=c:=by rw[Nat.add_zero,hc];rfl
  refine zz5 ?_;refine aX rfl rfl (n4 b T s a1 0 _ _ _ _ rest hs aI aI _) (.cons .here .nil) rfl ?_;rintro _ K _ ⟨rfl,rfl,rfl⟩ -;rw[hp0];refine zz9 ?_;refine gV (fun(_:Unit)=>True) (fun _=>[(0,ptr b),(2,.int .u8 c.toNat),(25,.int .u8 c.toNat),(50,.bool (fO c))]) (fun _=>K) (fun _=>[lxb b T s a1 (.int .u8 0) (str []) (i64 0) (i64 a1) rest]) ?_ ?_
  · refine zz6 ?_;refine bK 50 rfl (fun h50=>?_) (fun h50=>?_)
    · refine aW ?_
      (have hb : fO c = true := gAT
       exact cN () trivial (.cons 0 rfl (.cons 2 rfl (.cons 25 rfl (.cons 50 gCF .nil)))) rfl (fun _ h=>h))
    refine zz6 ?_;refine bK 50 rfl (fun h50=>?_) (fun h50=>?_)
    · refine aW ?_
      (have hb : fO c = true := gAT
       exact cN () trivial (.cons 0 rfl (.cons 2 rfl (.cons 25 rfl (.cons 50 gCF .nil)))) rfl (fun _ h=>h))
    refine zz6 ?_;refine bK 50 rfl (fun h50=>?_) (fun h50=>?_)
    · refine aW ?_
      (have hb : fO c = true := gAT
       exact cN () trivial (.cons 0 rfl (.cons 2 rfl (.cons 25 rfl (.cons 50 gCF .nil)))) rfl (fun _ h=>h))
    refine zz6 ?_;refine bK 50 rfl (fun h50=>?_) (fun h50=>?_)
    · refine aW ?_
      (have hb : fO c = true := gAT
       exact cN () trivial (.cons 0 rfl (.cons 2 rfl (.cons 25 rfl (.cons 50 gCF .nil)))) rfl (fun _ h=>h))
    refine zz6 ?_;refine bK 50 rfl (fun h50=>?_) (fun h50=>?_)
    · refine aW ?_
      (have hb : fO c = true := gAT
       exact cN () trivial (.cons 0 rfl (.cons 2 rfl (.cons 25 rfl (.cons 50 gCF .nil)))) rfl (fun _ h=>h))
    refine zz6 ?_;refine bK 50 rfl (fun h50=>?_) (fun h50=>?_)
    · refine aW ?_
      (have hb : fO c = true := gAT
       exact cN () trivial (.cons 0 rfl (.cons 2 rfl (.cons 25 rfl (.cons 50 gCF .nil)))) rfl (fun _ h=>h))
    refine zz6 ?_;refine bK 50 rfl (fun h50=>?_) (fun h50=>?_)
    · refine aW ?_
      (have hb : fO c = true := gAT
       exact cN () trivial (.cons 0 rfl (.cons 2 rfl (.cons 25 rfl (.cons 50 gCF .nil)))) rfl (fun _ h=>h))
    refine zz4 ?_
    (have hb : fO c = decide ((c.toNat : Int) = 93) := (by unfold fO; rw [decide_eq_decide]; omega)
     exact cN () trivial (.cons 0 rfl (.cons 2 rfl (.cons 25 rfl (.cons 50 gCF .nil)))) rfl (fun _ h=>h))
  intro _ _;refine eO 50 rfl (fun h50=>?_) (fun h50=>?_)
  · refine zz5 ?_;have hc128:=bN6 h50;refine aA (aPQ Tryz.underlying5 Tryz.underlying9 rfl gAD) rfl ?_;refine zz3 ?_;refine uBf ?_;rintro _ K _ ⟨rfl,rfl⟩ -;refine zz3 ?_;refine uBj ?_;rintro _ K _ ⟨rfl,rfl⟩ -;refine zz10 ?_;refine uAb ?_;rintro _ K _ ⟨rfl,rfl⟩ -;refine zz3 ?_;rw[hn];unfold mT;rw[if_pos h50];exact⟨_,rfl,rfl,rfl,rfl⟩
  refine zz6 ?_;refine bK 76 rfl (fun h76=>?_) (fun h76=>?_)
  · refine zz2 ?_;refine bL rfl rfl (aUA b T s a1 _ _ _ a1 rest hs aI _) (.cons .here .nil) rfl (fun _ _=>bQ _ _) ?_ ?_
    · rintro _ _ _ hT2 le1;obtain⟨e,p,hr,fb,h,rfl⟩:=bR hT2;cases h
      refine uAa ?_;refine zz2 ?_;rw[hn];unfold mT;rw[if_neg (by simp[h50]),if_pos aI,hr];exact⟨fb,rfl,rfl⟩
    rintro _ K _ hT2 -;obtain⟨r,hr,rfl,rfl,rfl⟩:=bS hT2;refine zz3 ?_;rw[hn];unfold mT;rw[if_neg (by simp[h50]),if_pos aI,hr];exact⟨_,rfl,rfl,rfl,rfl⟩
  refine zz6 ?_;refine bK 80 rfl (fun h80=>?_) (fun h80=>?_)
  · refine zz4 ?_;refine aX rfl rfl (n4 b T s a1 1 _ _ _ _ rest hs aI aI _) (.cons .here .nil) rfl ?_;rintro _ K _ ⟨rfl,rfl,rfl⟩ -;refine cF rfl rfl (vF _ _) rfl ?_;refine aA gAF rfl ?_;refine zz2 ?_;refine eO 85 rfl (fun h85=>?_) (fun h85=>?_)
    · refine zz5 ?_;refine bL rfl rfl (gO 2 a1 _) .nil rfl gAG ?_ ?_
      · rintro _ _ _ ⟨fb,h,rfl⟩ le1;cases h
        refine uAa ?_;refine zz3 ?_;rw[hn];unfold mT;rw[if_neg (by simp[h50]),if_neg aI,if_pos aI,if_neg (by simpa using h85)];exact⟨fb,rfl,rfl⟩
      rintro _ _ _ ⟨_,h,_⟩;cases h
    refine zz11 ?_;refine uAb ?_;rintro _ K _ ⟨rfl,rfl⟩ -;refine zz8 ?_;refine uBf ?_;rintro _ K _ ⟨rfl,rfl⟩ -;refine zz5 ?_;refine aX rfl rfl (yA b T s (a1+1) _ _ _ _ rest 187 dO hs aI _ (fun c=>uO c _)) (.cons .here .nil) rfl ?_;rintro _ K _ ⟨rfl,rfl,rfl⟩ -;have hwl:=lP dO s (a1+1) aI;refine cF rfl rfl (jT _ _ aI) rfl ?_;refine zz3 ?_;refine uBj ?_;rintro _ K _ ⟨rfl,rfl⟩ -;refine zz3 ?_;rw[hn];unfold mT;rw[if_neg (by simp[h50]),if_neg aI,if_pos aI,if_pos (by simpa using h85)];exact⟨_,rfl,rfl,rfl,rfl⟩
  refine zz4 ?_;refine cF rfl rfl (vF c _) rfl ?_;refine zz3 ?_;refine eO 31 rfl (fun h31=>?_) (fun h31=>?_)
  · refine zz4 ?_;refine aX rfl rfl (yA b T s a1 _ _ _ _ rest 187 dO hs aI _ (fun c=>uO c _)) (.cons .here .nil) rfl ?_;rintro _ K _ ⟨rfl,rfl,rfl⟩ -;have hwl:=lP dO s a1 aI;refine cF rfl rfl (jT _ _ aI) rfl ?_;refine zz3 ?_;refine uBf ?_;rintro _ K _ ⟨rfl,rfl⟩ -;refine zz3 ?_;refine uBj ?_;rintro _ K _ ⟨rfl,rfl⟩ -;refine zz4 ?_;rw[hn];unfold mT;rw[if_neg (by simp[h50]),if_neg aI,if_neg aI,if_pos h31];exact⟨_,rfl,rfl,rfl,rfl⟩
  refine zz3 ?_;refine cF rfl rfl (sC c _) rfl ?_;refine zz3 ?_;refine eO 45 rfl (fun h45=>?_) (fun h45=>?_)
  · refine zz2 ?_;refine bL rfl rfl (aTY b T s a1 _ _ _ a1 rest hs aI _) (.cons .here .nil) rfl (fun _ _=>bQ _ _) ?_ ?_
    · rintro _ _ _ hT2 le1;obtain⟨e,p,hr,fb,h,rfl⟩:=bR hT2;cases h
      refine uAa ?_;refine zz3 ?_;rw[hn];unfold mT;rw[if_neg (by simp[h50]),if_neg aI,if_neg aI,if_neg (by simp[h31]),if_pos h45,hr];exact⟨fb,rfl,rfl⟩
    rintro _ K _ hT2 -;obtain⟨r,hr,rfl,rfl,rfl⟩:=bS hT2;refine zz4 ?_;rw[hn];unfold mT;rw[if_neg (by simp[h50]),if_neg aI,if_neg aI,if_neg (by simp[h31]),if_pos h45,hr];exact⟨_,rfl,rfl,rfl,rfl⟩
  refine zz5 ?_;refine bL rfl rfl (gO 2 a1 _) .nil rfl gAG ?_ ?_
  · rintro _ _ _ ⟨fb,h,rfl⟩ le1;cases h
    refine uAa ?_;refine zz3 ?_;rw[hn];unfold mT;rw[if_neg (by simp[h50]),if_neg aI,if_neg aI,if_neg (by simp[h31]),if_neg (by simp[h45])];exact⟨fb,rfl,rfl⟩
  rintro _ _ _ ⟨_,h,_⟩;cases h
end Go.Proofs
end
section
namespace Go.Syn
open Go.Proofs
theorem aK4{s:aJ}{wat:Int}:∀(f i:Nat) (acc:aJ) (r:Nat×aJ),iO s wat f i acc=.ok r→i < r.1∧r.1≤s.length:=by
 intro f;induction f <;> grind [iO]
theorem aWO{s:aJ}{a:Nat}{c:UInt8}(hc:s[a]?=some c)(h:eL c=true):0 < (eT s a).length:=by
 have hi:a < s.length:=by
  rcases Nat.lt_or_ge a s.length with h|h
  ·exact h
  simp[List.getElem?_eq_none h]at hc
 have e:s[a]=c:=by simpa[List.getElem?_eq_getElem hi]using hc
 unfold eT;rw[List.drop_eq_getElem_cons hi,e,List.takeWhile_cons,if_pos h];simp
theorem bLL{s:aJ}{a:Nat}{c:UInt8}(hc:s[a]?=some c)(h:dO c=true):0 < (kY s a).length:=by
 have hi:a < s.length:=by
  rcases Nat.lt_or_ge a s.length with h|h
  ·exact h
  simp[List.getElem?_eq_none h]at hc
 have e:s[a]=c:=by simpa[List.getElem?_eq_getElem hi]using hc
 unfold kY;rw[List.drop_eq_getElem_cons hi,e,List.takeWhile_cons,if_pos h];simp
theorem bDD{s:aJ}{a:Nat}{wat:Int}{r:Nat×Int}(ha:a≤s.length)(h:tV s a wat=.ok r):a+(eT s a).length≤r.1∧r.1≤s.length:=by
 grind [tV,numA,bAC]
theorem oV{s:aJ}{a:Nat}{r:Nat×Word}(ha:a≤s.length)(h:next s a=.ok r):a≤r.1∧r.1≤s.length∧(r.2.kind≠0→a < r.1):=by
 unfold next at h;split at h
 ·cases h
 rename_i a1 hs;obtain⟨h1,h2⟩:=aEZ ha hs;split at h
 ·cases h;exact⟨h1,h2,fun h=>absurd rfl h⟩
 rename_i c hc;have hi:a1 < s.length:=by
  rcases Nat.lt_or_ge a1 s.length with h|h
  ·exact h
  simp[List.getElem?_eq_none h]at hc
 have key:a1 < r.1∧r.1≤s.length:=by
  unfold mT at h;split at h
  ·cases h;exact⟨by simp,by simp;omega⟩
  split at h
  ·split at h
   ·cases h
   rename_i q hq;cases h
   have:=aK4 _ _ _ _ hq;exact⟨by show a1 < q.1;omega,this.2⟩
  split at h
  ·split at h
   ·cases h
    have:=lP dO s (a1+1) aI;exact⟨by show a1 < a1+1+_;omega,this⟩
   cases h
  split at h
  ·rename_i hl;cases h
   have:=lP dO s a1 aI;have hp:=bLL hc (show dO c=true by simp[dO,hl]);exact⟨by show a1 < a1+_;omega,this⟩
  split at h
  ·rename_i hd;split at h
   ·cases h
   rename_i q hq;cases h
   have:=bDD aI hq;have hp:=aWO hc hd;exact⟨by show a1 < q.1;omega,this.2⟩
  cases h
 exact⟨by omega,key.2,fun _=>by omega⟩
theorem aQM{s:aJ}{a:Nat}{r:St}(ha:a≤s.length)(h:next s a=.ok r):a+wl r.2≤r.1:=by
 have hl:=oV ha h;unfold wl;split
 ·omega
 rename_i h0;have h1:=hl.2.2 h0;split
 ·rename_i hk;unfold next at h;split at h
  ·cases h
  rename_i a1 hs;obtain⟨h2,h3⟩:=aEZ ha hs;split at h <;> grind [mT,dG,aEZ]
 omega
theorem lR{s:aJ}{st r:St}(ha:st.1≤s.length)(hk:st.2.kind≠0)(h:next s st.1=.ok r):mu s r < mu s st∧r.1≤s.length:=by
 obtain⟨h1,h2,h3⟩:=oV ha h;have h4:=aQM ha h;refine⟨?_,h2⟩
 have h5:1≤wl st.2:=by unfold wl;rw[if_neg hk];split <;> omega
 unfold mu;omega
theorem aQL{s:aJ}{st r:St}(ha:st.1≤s.length)(hs:st.2.s.length≤s.length)(hk:st.2.kind=1)(h:next s st.1=.ok r):mu s r+st.2.s.length≤mu s st:=by
 obtain⟨h1,h2,h3⟩:=oV ha h;have h4:=aQM ha h;have h5:wl st.2=max 1 st.2.s.length:=by unfold wl;rw[if_neg aI,if_pos hk]
 unfold mu;omega
theorem bIR{s:aJ}{r:St}(h:next s 0=.ok r):mu s r≤s.length:=by
 have h4:=aQM (Nat.zero_le _) h;have h2:=(oV (Nat.zero_le _) h).2.1;unfold mu;omega
theorem aRF{s:aJ}{st:St}{k:Nat}{texts:List aJ}{r:Word×St}(ha:st.1≤s.length)(hk:k≠0)(h:take s st k texts=.ok r):mu s r.2 < mu s st∧r.2.1≤s.length:=by
 unfold take at h;split at h
 ·cases h
 rename_i hn;have hkk:st.2.kind=k:=by
  rcases Nat.decEq st.2.kind k with h'|h'
  ·exact absurd (.inl h') hn
  exact h'
 split at h
 ·cases h
 rename_i q hq;cases h
 exact lR ha aI hq
theorem yX{s:aJ}{st:St}{x:aJ}{r:Bool×St}(ha:st.1≤s.length)(h:eat s st x=.ok r):r.2.1≤s.length∧mu s r.2≤mu s st∧(r.1=true→mu s r.2 < mu s st):=by
 grind [eat,lR]
theorem oY{s:aJ}{st:St}{ff:aJ→Int}{r:aJ×St}(ha:st.1≤s.length)(h:text s st ff=.ok r):mu s r.2 < mu s st∧r.2.1≤s.length:=by
 unfold text at h;split at h
 ·cases h
 split at h
 ·cases h
 rename_i q hq;cases h
 exact aRF ha (by decide) hq
theorem aBG{s:aJ}{st r:St}{x:aJ}(ha:st.1≤s.length)(h:sign s st x=.ok r):mu s r < mu s st∧r.1≤s.length:=by
 unfold sign at h;split at h
 ·cases h
 rename_i q hq;cases h
 exact aRF ha (by decide) hq
theorem aEJ(s:aJ)(st:St):mu s st≤s.length*2+1:=by unfold mu;omega
theorem bIT{s:aJ}{i:Nat}{c:UInt8}(hc:s[i]?=some c)(h:dO c=false):named s=false:=by
 grind [named]
theorem aT9{s:aJ}{wat:Int}:∀(f i:Nat) (acc:aJ) (r:Nat×aJ),iO s wat f i acc=.ok r→acc.length≤i→r.2.length≤r.1:=by
 intro f;induction f <;> grind [iO]
theorem aC1(s:aJ):(dG s).length=s.length:=by simp[dG]
theorem bIU{s:aJ}{a:Nat}{r:Nat×Word}(ha:a≤s.length)(h:next s a=.ok r):r.2.s.length≤s.length:=by
 unfold next at h;split at h
 ·cases h
 rename_i a1 hs;obtain⟨h1,h2⟩:=aEZ ha hs;split at h
 ·cases h;simp
 rename_i c hc;have hi:a1 < s.length:=by
  rcases Nat.lt_or_ge a1 s.length with h|h
  ·exact h
  simp[List.getElem?_eq_none h]at hc
 unfold mT at h;split at h
 ·cases h;simp;omega
 split at h
 ·split at h
  ·cases h
  rename_i q hq;cases h
  have h3:=aK4 _ _ _ _ hq;have h4:=aT9 _ _ _ _ hq (by simp)
  show q.2.length≤s.length
  omega
 split at h
 ·split at h
  ·cases h
   have:=lP dO s (a1+1) aI
   show (dG (kY s (a1+1))).length≤_
   rw[aC1];unfold kY;omega
  cases h
 split at h
 ·cases h
  have:=lP dO s a1 aI
  show (dG (kY s a1)).length≤_
  rw[aC1];unfold kY;omega
 split at h
 ·split at h
  ·cases h
  cases h;simp
 cases h
theorem gG{s:aJ}{a:Nat}{r:St}(ha:a≤s.length)(h:next s a=.ok r):Ok s r:=⟨(oV ha h).2.1,bIU ha h⟩
theorem aE5{s:aJ}{st:St}{k:Nat}{texts:List aJ}{r:Word×St}(ha:st.1≤s.length)(h:take s st k texts=.ok r):Ok s r.2:=by
 grind [take,Ok,gG]
theorem aFR{s:aJ}{st:St}{x:aJ}{r:Bool×St}(ha:Ok s st)(h:eat s st x=.ok r):Ok s r.2:=by
 grind [eat,Ok,gG]
theorem qE{s:aJ}{st:St}{ff:aJ→Int}{r:aJ×St}(ha:st.1≤s.length)(h:text s st ff=.ok r):Ok s r.2:=by
 unfold text at h;split at h
 ·cases h
 split at h
 ·cases h
 rename_i q hq;cases h
 exact aE5 ha hq
theorem aIU{s:aJ}{st r:St}{x:aJ}(ha:st.1≤s.length)(h:sign s st x=.ok r):Ok s r:=by
 unfold sign at h;split at h
 ·cases h
 rename_i q hq;cases h
 exact aE5 ha hq
end Go.Syn
end
section
namespace Go.Syn
theorem bIF{s:aJ}{ff:aJ→Int}:∀ {f:Nat} {st:St} {acc:List aJ} {r:List aJ×St},Ok s st→pY s ff f st acc=.ok r→Ok s r.2∧mu s r.2 < mu s st:=by
 intro f;induction f with
 |zero=>intro st acc r _ h;cases h
 |succ f ih=>
  intro st acc r hok h;simp only[pY]at h;split at h
  ·cases h
  rename_i q hq;obtain⟨_,hq2,_⟩:=yX hok.1 hq;have hqo:=aFR hok hq;split at h
  ·split at h
   ·cases h
   rename_i x hx;have h1:=oY hqo.1 hx;have h2:=qE hqo.1 hx;have:=ih h2 h;exact⟨this.1,by omega⟩
  split at h
  ·cases h
  rename_i y hy;cases h
  have h1:=aBG hqo.1 hy;exact⟨aIU hqo.1 hy,by simp only[];omega⟩
theorem q8{s:aJ}{st:St}{ff:aJ→Int}{r:List aJ×St}(hok:Ok s st)(h:list s st ff=.ok r):Ok s r.2∧mu s r.2 < mu s st:=by
 unfold list at h;split at h
 ·cases h
 rename_i q hq;obtain⟨_,hq2,_⟩:=yX hok.1 hq;have hqo:=aFR hok hq;split at h
 ·cases h
 rename_i x hx;have h1:=oY hqo.1 hx;have h2:=qE hqo.1 hx;split at h
 ·have:=bIF h2 h;exact⟨this.1,by omega⟩
 cases h;exact⟨h2,by simp only[];omega⟩
end Go.Syn
end
section
namespace Go.Syn
open Go Go.SL
def isTL:Tree→Bool
 | .tnil=>true
 | .tcons _ l=>isTL l
 |_=>false
def isBL:Tree→Bool
 | .bnil=>true
 | .bcons _ _ l=>isBL l
 | .belse _ l=>isBL l
 |_=>false
theorem bDW{K:Hl}{t:Tree}{v:Cell}(ht:Rep K t [(v,u0)]):∀ {l:Tree} {us:List (Cell×Cell)},isTL l=true→Rep K l us→Rep K (l.snocT t) (us++[(v,u0)])∧isTL (l.snocT t)=true:=by
 intro l;induction l with
 |tnil=>intro us _ h;cases (show us=[]from h);exact⟨⟨v,[],ht,rfl,rfl⟩,rfl⟩
 |tcons x l ih1 ih2=>
  rintro us hl ⟨w,xs,h1,h2,rfl⟩;obtain⟨h3,h4⟩:=ih2 hl h2;exact⟨⟨w,_,h1,h3,rfl⟩,h4⟩
 |_=>intro us hl;cases hl
theorem bDV{K:Hl}{t:Tree}{v:Cell}(ht:Rep K t [(v,u0)]):∀ {l:Tree} {us:List (Cell×Cell)},isCL l=true→Rep K l us→Rep K (l.snocC t) (us++[(v,u0)])∧isCL (l.snocC t)=true:=by
 intro l;induction l with
 |cnil=>intro us _ h;cases (show us=[]from h);exact⟨⟨v,[],ht,rfl,rfl⟩,rfl⟩
 |ccons x l ih1 ih2=>
  rintro us hl ⟨w,xs,h1,h2,rfl⟩;obtain⟨h3,h4⟩:=ih2 hl h2;exact⟨⟨w,_,h1,h3,rfl⟩,h4⟩
 |_=>intro us hl;cases hl
def RepO(K:Hl):Option Tree→Cell→Prop
 |none,v=>v=⟨.nilIface,rfl⟩
 |some t,v=>Rep K t [(v,u0)]∧∃ty u,v.1=.iface ty u
theorem bNS{K:Hl}{o:Option Tree}{b l:Tree}{v sv:Cell}{ys xs:List (Cell×Cell)}(ho:RepO K o v)(hb:Rep K b ys)(hs:Ksl (e7 224) K sv.1 (ys.map (·.1)))(hl:Rep K l xs):Rep K (mkB o b l) ((v,sv)::xs):=by
 cases o with
 |none=>cases (show v=_ from ho);exact⟨ys,sv,xs,hb,hs,hl,rfl⟩
 |some t=>exact⟨v,ys,sv,xs,ho.1,ho.2,hb,hs,hl,rfl⟩
theorem aGD{K:Hl}{o:Option Tree}{b:Tree}{v sv:Cell}{ys:List (Cell×Cell)}(ho:RepO K o v)(hb:Rep K b ys)(hs:Ksl (e7 224) K sv.1 (ys.map (·.1))):
  ∀ {l:Tree} {us:List (Cell×Cell)},isBL l=true→Rep K l us→Rep K (l.snocB o b) (us++[(v,sv)])∧isBL (l.snocB o b)=true:=by
 intro l;induction l with
 |bnil=>intro us _ h;cases (show us=[]from h);exact⟨bNS ho hb hs rfl,by cases o <;> rfl⟩
 |bcons x y l ih1 ih2 ih3=>
  rintro us hl ⟨w,zs,tv,xs,h1,h2,h3,h4,h5,rfl⟩;obtain⟨h6,h7⟩:=ih3 hl h5;exact⟨⟨w,zs,tv,_,h1,h2,h3,h4,h6,rfl⟩,h7⟩
 |belse y l ih1 ih2=>
  rintro us hl ⟨zs,tv,xs,h1,h2,h3,rfl⟩;obtain⟨h6,h7⟩:=ih2 hl h3;exact⟨⟨zs,tv,_,h1,h2,h6,rfl⟩,h7⟩
 |_=>intro us hl;cases hl
theorem aGC{K:Hl}{t:Tree}{c d:Cell}(hw:wf t 0=true∨wf t 2=true)(h:Rep K t [(c,d)]):∃ty u,c.1=.iface ty u:=by
 cases t <;> simp only[wf,Rep]at h hw
 case const b=>cases h;exact⟨_,_,rfl⟩
 case not_ t=>obtain⟨v,_,h⟩:=h;cases h;exact⟨_,_,rfl⟩
 case many all l=>obtain⟨xs,sv,_,_,h⟩:=h;cases h;exact⟨_,_,rfl⟩
 case mat tag oct op a b=>obtain⟨va,vb,_,_,h⟩:=h;cases h;exact⟨_,_,rfl⟩
 case exi a=>obtain⟨va,_,h⟩:=h;cases h;exact⟨_,_,rfl⟩
 case siz tag n=>cases h;exact⟨_,_,rfl⟩
 case plain op=>cases h;exact⟨_,_,rfl⟩
 case act k a p=>cases h;exact⟨_,_,rfl⟩
 case set_ n v t=>cases h;exact⟨_,_,rfl⟩
 case iff bs=>obtain⟨xs,sv,_,_,h⟩:=h;cases h;exact⟨_,_,rfl⟩
 all_goals simp at hw
end Go.Syn
end
section
attribute [local irreducible] Go.SL.T Go.SL.OL Go.SL.D Go.SL.DL Go.SL.Ev Go.SL.Ef Go.SL.EfS
namespace Go.Proofs
open Go Go.SL Go.Syn
theorem zX(v:Value)(x:List UInt8)(xs:List (List UInt8))(K:Hl)(L:List Asn)(hv:SeesSl (bN 9) K L v xs)(hn:xs.length≤1000000):
  Sp Tryz.prog 195 [v,str x] K L (Ret fun u K' L'=>u=i64 (dR xs x)∧K'=K∧L'=L):=by
 refine a8 Tryz.func195 rfl Tryz.ntmps195 rfl rfl fun F w=>?_;refine zz9 ?_;refine aA (bO (k:=bN 9) rfl Tryz.underlying39 rfl hv) rfl ?_;refine zz4 ?_;refine eJ (fun(i:Nat)=>i≤xs.length∧∀j:Nat,j < i→xs[j]?≠some x) (fun i=>[(0,v),(1,str x),(7,i64 xs.length),(8,i64 i)]) (fun _=>K) (fun _=>L) (fun i=>xs.length - i) 0 ⟨Nat.zero_le _,fun j h=>by omega⟩ (.cons 0 rfl (.cons 1 rfl (.cons 7 rfl (.cons 8 rfl .nil)))) rfl (fun _ h=>h) ?_;intro i ⟨hi1,hi2⟩;refine zz6 ?_;refine bK 9 rfl (fun h9=>?_) (fun h9=>?_)
 ·obtain⟨y,hy⟩:∃y,xs[i]?=some y:=⟨xs[i]'(by omega),List.getElem?_eq_getElem aI⟩;have hlen:i < xs.length:=by omega
  refine zz15 ?_;refine aA (bE (k:=bN 9) cG rfl hv rfl rfl hlen) rfl ?_;refine aA (dP (o:=0) (k:=bN 9) ts9 rfl hv hy rfl) rfl ?_;refine zz3 ?_;refine bK 16 rfl (fun h16=>?_) (fun h16=>?_)
  ·refine zz13 ?_;exact⟨_,rfl,by rw[bD0 hi2 (h16▸hy)],rfl,rfl⟩
  refine zz7 ?_;refine dF (i+1) ⟨by omega,?_⟩ aI (.cons 0 rfl (.cons 1 rfl (.cons 7 rfl (.cons 8 rfl .nil)))) rfl (fun _ h=>h)
  intro j hj e
  by_cases hji:j=i
  ·subst hji;rw[hy]at e;exact h16 (Option.some.inj e).symm
  exact hi2 j aI e
 refine zz12 ?_;exact⟨_,rfl,by rw[bD2 (fun j hj=>hi2 j aI)],rfl,rfl⟩
theorem qB(v:Value)(x:List UInt8)(xs:List (List UInt8))(K:Hl)(L:List Asn)(hv:SeesSl (bN 9) K L v xs)(hn:xs.length≤1000000):
  Sp Tryz.prog 108 [v,str x] K L (Ret fun u K' L'=>u=.bool (decide (x∈xs))∧K'=K∧L'=L):=by
 refine a8 Tryz.func108 rfl Tryz.ntmps108 rfl rfl fun F w=>?_;refine zz9 ?_;refine aX rfl rfl (zX v x xs _ _ hv hn) (dI _) rfl ?_;rintro _ K _ ⟨rfl,rfl,rfl⟩ -;refine zz5 ?_;rw[List.append_nil];refine zz1 ?_;exact⟨_,rfl,by rw[decide_eq_decide.2 (aYD xs x)],rfl,rfl⟩
abbrev psb(b:Nat)(s:List UInt8)(st:St)(rest:List Value):Asn:=lxw b 208 s st.1 st.2 rest
theorem aS7(b:Nat)(x:List UInt8)(xs:List (List UInt8))(l:List Value)(T:TypeId)(nv:Value)(K:Hl)(L:List Asn)(hb:Sees K L b (aZ l T))(hl:l[6]?=some nv)(hv:SeesSl (bN 9) K L nv xs)(hn:xs.length≤1000000):
  Sp Tryz.prog 59 [ptr b 6,str x] K L (Ret fun u K' L'=>u=.bool (decide (x∈xs))∧K'=K∧L'=L):=by
 refine a8 Tryz.func59 rfl Tryz.ntmps59 rfl rfl fun F w=>?_;refine zz10 ?_;refine aA (aL iS rfl hb hl) rfl ?_;refine zz1 ?_;refine aX rfl rfl (qB nv x xs _ _ hv hn) (dI _) rfl ?_;rintro _ K _ ⟨rfl,rfl,rfl⟩ -;refine zz4 ?_;rw[List.append_nil];refine zz1 ?_;exact⟨_,rfl,rfl,rfl,rfl⟩
theorem lH(b:Nat)(s:List UInt8)(st:St)(rest:List Value)(K:Hl):
  Sp Tryz.prog 106 [ptr b] K [psb b s st rest] (Flt 4 st.2.at_):=by
 refine a8 Tryz.func106 rfl Tryz.ntmps106 rfl rfl fun F w=>?_;refine zz7 ?_;refine bL rfl rfl (gO 4 st.2.at_ _) .nil rfl gAG ?_ ?_
 ·rintro _ _ _ ⟨fb,h,rfl⟩ le1;cases h
  refine uAa ?_;refine zz1 ?_;exact⟨fb,rfl,rfl⟩
 rintro _ _ _ ⟨_,h,_⟩;cases h
theorem aCV(b:Nat)(s:List UInt8)(st:St)(nv:Value)(rest:List Value)(needs:List (List UInt8))(x:List UInt8)(K:Hl)(hv:Ksl (bN 9) K nv needs)(hn:needs.length≤1000000):
  Sp Tryz.prog 261 [ptr b,str x] K [psb b s st (nv::rest)] (jX (if x∈needs then .ok ()else .error (6,st.2.at_)) fun _ v K' L'=>v=.tuple #[]∧K'=K∧L'=[psb b s st (nv::rest)]):=by
 refine a8 Tryz.func261 rfl Tryz.ntmps261 rfl rfl fun F w=>?_;refine zz6 ?_;refine aX rfl rfl (aS7 b x needs _ _ nv _ _ (.own .here) rfl (.known hv) hn) (.cons .here .nil) rfl ?_;rintro _ K _ ⟨rfl,rfl,rfl⟩ -;refine aA gAF rfl ?_;refine zz2 ?_;refine bK 9 rfl (fun h9=>?_) (fun h9=>?_)
 ·refine zz7 ?_;refine bL rfl rfl (gO 6 st.2.at_ _) .nil rfl gAG ?_ ?_
  ·rintro _ _ _ ⟨fb,h,rfl⟩ le1;cases h
   refine uAa ?_;refine zz1 ?_;rw[if_neg h9];exact⟨fb,rfl,rfl⟩
  rintro _ _ _ ⟨_,h,_⟩;cases h
 refine zz2 ?_;rw[if_pos (Classical.not_not.1 h9)];exact⟨_,rfl,rfl,rfl,rfl⟩
abbrev wagg(w:Word):Value:=.agg #[.int .u8 w.kind,str w.s,i64 w.n,i64 w.at_]
theorem bER{s:List UInt8}{st:St}{k:Nat}{texts:List (List UInt8)}(h:¬(st.2.kind:Int)=k):take s st k texts=.error (4,st.2.at_):=by
 unfold take;rw[if_pos (.inl aI)]
theorem bES{s:List UInt8}{st:St}{k:Nat}{texts:List (List UInt8)}(h:0 < (texts.length:Int))(hm:¬st.2.s∈texts):take s st k texts=.error (4,st.2.at_):=by
 unfold take;rw[if_pos (.inr ⟨by rintro rfl;simp at h,hm⟩)]
theorem aIV{s:List UInt8}{st:St}{k:Nat}{texts:List (List UInt8)}(h:¬ ¬(st.2.kind:Int)=k)(hm:¬0 < (texts.length:Int)∨¬ ¬st.2.s∈texts):
  take s st k texts=match Syn.next s st.1 with| .error e=>.error e| .ok r=>.ok (st.2,r):=by
 have hn:¬(st.2.kind≠k∨(texts≠[]∧st.2.s∉texts)):=by
  rintro(h1|⟨h1,h2⟩)
  ·omega
  rcases hm with hm|hm
  ·exact h1 (List.length_eq_zero_iff.1 aI)
  exact hm h2
 unfold take;exact(if_neg hn).trans (by cases Syn.next s st.1 <;> rfl)
theorem qV(b:Nat)(s:List UInt8)(st:St)(rest:List Value)(k:Nat)(tv:Value)(texts:List (List UInt8))(K:Hl)(hs:s.length≤600)(ha:st.1≤s.length)(hg:Glob K)(hv:Ksl (bN 9) K tv texts)(hn:texts.length≤1000000):
  Sp Tryz.prog 179 [ptr b,.int .u8 k,tv] K [psb b s st rest] (jX (take s st k texts) fun r v K' L'=>v=wagg r.1∧K'=K∧L'=[psb b s r.2 rest]):=by
 refine a8 Tryz.func179 rfl Tryz.ntmps179 rfl rfl fun F w=>?_;refine zz3 ?_;rintro _ K _ ⟨b6,rfl,rfl,rfl⟩ -;refine zz10 ?_;rintro _ K _ ⟨b7,rfl,rfl,rfl⟩ -;refine cA (cK sI rfl rfl rfl bF gAA (.cons (.cons (.cons (.cons .nil)))) gAJ) ?_;rintro _ K _ ⟨rfl,rfl⟩ -;refine zz10 ?_;refine cH 17 rfl (fun g17=>?_) (fun g17=>?_)
 ·refine zz16 ?_;refine bL rfl rfl (lH b s st rest _) (.cons (.there (.there .here)) .nil) rfl gAG ?_ ?_
  ·rintro _ _ _ ⟨fb,h,rfl⟩ le1;cases h
   refine uAa ?_;refine zz2 ?_;rw[bER g17];exact⟨fb,rfl,rfl⟩
  rintro _ _ _ ⟨_,h,_⟩;cases h
 refine zz3 ?_;refine aA (bO (k:=bN 9) rfl Tryz.underlying39 rfl (.known hv)) rfl ?_;refine zz4 ?_;refine cH 21 rfl (fun g21=>?_) (fun g21=>?_)
 ·refine zz7 ?_;refine aX rfl rfl (qB tv st.2.s texts _ [] (.known hv) hn) .nil rfl ?_;rintro _ K _ ⟨rfl,rfl,rfl⟩ -;refine zz1 ?_;refine aA gAF rfl ?_;refine zz5 ?_;refine bK 28 rfl (fun h28=>?_) (fun h28=>?_)
  ·refine zz2 ?_;refine bL rfl rfl (lH b s st rest _) (.cons (.there (.there .here)) .nil) rfl gAG ?_ ?_
   ·rintro _ _ _ ⟨fb,h,rfl⟩ le1;cases h
    refine uAa ?_;refine zz2 ?_;rw[bES g21 h28];exact⟨fb,rfl,rfl⟩
   rintro _ _ _ ⟨_,h,_⟩;cases h
  refine zz7 ?_;refine bL rfl rfl (eS b 208 s st.1 _ _ _ _ rest hs ha _ hg) (.cons (.there (.there .here)) .nil) rfl (fun _ _=>bQ _ _) ?_ ?_
  ·rintro _ _ _ hT2 le1;obtain⟨e,p,hr,fb,h,rfl⟩:=bR hT2;cases h
   refine uAa ?_;refine zz2 ?_;rw[aIV g17 (.inr h28),hr];exact⟨fb,rfl,rfl⟩
  rintro _ K _ hT2 -;obtain⟨r,hr,rfl,rfl,rfl⟩:=bS hT2;refine zz5 ?_;refine cA (cK sI rfl rfl rfl bF gAA (.cons (.cons (.cons (.cons .nil)))) gAJ) ?_;rintro _ K _ ⟨rfl,rfl⟩ -;refine zz3 ?_;refine aFP rfl rfl sI aM rfl rfl (Hl.le_refl _) (.cons (by first|exact .here|exact .there .here|exact .there (.there .here)) .nil) ?_;rw[aIV g17 (.inr h28),hr];exact⟨_,rfl,rfl,rfl,rfl⟩
 refine zz18 ?_;refine bL rfl rfl (eS b 208 s st.1 _ _ _ _ rest hs ha _ hg) (.cons (.there (.there .here)) .nil) rfl (fun _ _=>bQ _ _) ?_ ?_
 ·rintro _ _ _ hT2 le1;obtain⟨e,p,hr,fb,h,rfl⟩:=bR hT2;cases h
  refine uAa ?_;refine zz2 ?_;rw[aIV g17 (.inl g21),hr];exact⟨fb,rfl,rfl⟩
 rintro _ K _ hT2 -;obtain⟨r,hr,rfl,rfl,rfl⟩:=bS hT2;refine zz5 ?_;refine cA (cK sI rfl rfl rfl bF gAA (.cons (.cons (.cons (.cons .nil)))) gAJ) ?_;rintro _ K _ ⟨rfl,rfl⟩ -;refine zz3 ?_;refine aFP rfl rfl sI aM rfl rfl (Hl.le_refl _) (.cons (by first|exact .here|exact .there .here|exact .there (.there .here)) .nil) ?_;rw[aIV g17 (.inl g21),hr];exact⟨_,rfl,rfl,rfl,rfl⟩
theorem aOG(b:Nat)(s:List UInt8)(st:St)(rest:List Value)(x:List UInt8)(K:Hl)(hs:s.length≤600)(ha:st.1≤s.length)(hg:Glob K):
  Sp Tryz.prog 104 [ptr b,str x] K [psb b s st rest] (jX (Syn.sign s st x) fun r v _ L'=>v=.tuple #[]∧L'=[psb b s r rest]):=by
 refine a8 Tryz.func104 rfl Tryz.ntmps104 rfl rfl fun F w=>?_;refine zz3 ?_;refine cC (bH (z0:=[(str [])]) cG tz9 rfl rfl rfl rfl (.cons rfl rfl rfl (.cons .nil) .nil)) rfl ?_;rintro _ K _ ⟨b6,rfl,rfl,rfl⟩ -;refine fT fun K1 le1 hK1=>?_;refine bL rfl rfl (qV b s st rest 5 _ [x] _ hs ha (hg.mono le1) (.inr ⟨b6,0,1,[str x],(0,0),rfl,⟨_,hK1⟩,rfl⟩) (by simp)) (.cons .here .nil) rfl (fun _ _=>bQ _ _) ?_ ?_
 ·rintro _ _ _ hT2 le2;obtain⟨e,p,hr,fb,h,rfl⟩:=bR hT2;cases h
  refine uAa ?_;refine bX (Hl.le_trans le1 le2) ?_;unfold Syn.sign;rw[hr];exact⟨fb,rfl,rfl⟩
 rintro _ K2 _ hT2 le2;obtain⟨r,hr,rfl,rfl,rfl⟩:=bS hT2;refine aG ?_;refine dK rfl le1 ?_;unfold Syn.sign;rw[hr];exact⟨_,rfl,rfl,rfl⟩
theorem aJO(b:Nat)(s:List UInt8)(st:St)(rest:List Value)(x:List UInt8)(K:Hl)(hs:s.length≤600)(ha:st.1≤s.length)(hg:Glob K):
  Sp Tryz.prog 190 [ptr b,str x] K [psb b s st rest] (jX (eat s st x) fun r v K' L'=>v=.bool r.1∧K'=K∧L'=[psb b s r.2 rest]):=by
 refine a8 Tryz.func190 rfl Tryz.ntmps190 rfl rfl fun F w=>?_;refine zz15 ?_;refine cH 13 rfl (fun g13=>?_) (fun g13=>?_)
 ·refine zz26 ?_;refine bK 23 rfl (fun h23=>?_) (fun h23=>?_)
  ·refine zz4 ?_;refine bL rfl rfl (eS b 208 s st.1 _ _ _ _ rest hs ha _ hg) (.cons .here .nil) rfl (fun _ _=>bQ _ _) ?_ ?_
   ·rintro _ _ _ hT2 le1;obtain⟨e,p,hr,fb,h,rfl⟩:=bR hT2;cases h
    refine uAa ?_;refine zz2 ?_;unfold eat;rw[if_pos ⟨by omega,h23⟩,hr];exact⟨fb,rfl,rfl⟩
   rintro _ K _ hT2 -;obtain⟨r,hr,rfl,rfl,rfl⟩:=bS hT2;refine zz10 ?_;unfold eat
   (rw[if_pos ⟨by omega,h23⟩,hr];exact⟨_,rfl,by rw[decide_eq_true h23],rfl,rfl⟩)
  refine zz10 ?_;unfold eat
  (rw[if_neg (fun h=>h23 h.2)];exact⟨_,rfl,by rw[decide_eq_false h23],rfl,rfl⟩)
 refine zz29 ?_;unfold eat
 (rw[if_neg aI];exact⟨_,rfl,rfl,rfl,rfl⟩)
theorem n9(b:Nat)(s:List UInt8)(st:St)(rest:List Value)(fn:FuncId)(caps:Array Value)(ff:List UInt8→Int)(K:Hl)(hs:s.length≤600)(ha:st.1≤s.length)(hw:st.2.s.length≤s.length)(hg:Glob K)
  (hf:∀x:List UInt8,x.length≤600→Sp Tryz.prog fn (str x::caps.toList) K [] (Val (i64 (ff x)) K)):
  Sp Tryz.prog 191 [ptr b,.func (.func fn) #[] caps] K [psb b s st rest] (jX (Syn.text s st ff) fun r v K' L'=>v=str r.1∧K'=K∧L'=[psb b s r.2 rest]):=by
 refine a8 Tryz.func191 rfl Tryz.ntmps191 rfl rfl fun F w=>?_;refine zz17 ?_;refine bK 12 rfl (fun h12=>?_) (fun h12=>?_)
 ·refine zz9 ?_;refine cF rfl rfl (hf st.2.s aI) rfl ?_;refine zz9 ?_;refine bK 22 rfl (fun h22=>?_) (fun h22=>?_)
  ·refine zz8 ?_;refine bL rfl rfl (gO (ff st.2.s) st.2.at_ _) .nil rfl gAG ?_ ?_
   ·rintro _ _ _ ⟨fb,h,rfl⟩ le1;cases h
    refine uAa ?_;refine zz2 ?_;unfold Syn.text;rw[if_pos ⟨by omega,by omega⟩];exact⟨fb,rfl,rfl⟩
   rintro _ _ _ ⟨_,h,_⟩;cases h
  refine zz5 ?_;refine bL rfl rfl (qV b s st rest 3 _ [] _ hs ha hg (.inl ⟨none,0,rfl,rfl⟩) (by simp)) (.cons .here .nil) rfl (fun _ _=>bQ _ _) ?_ ?_
  ·rintro _ _ _ hT2 le1;obtain⟨e,p,hr,fb,h,rfl⟩:=bR hT2;cases h
   refine uAa ?_;refine zz2 ?_;unfold Syn.text;rw[if_neg aI,hr];exact⟨fb,rfl,rfl⟩
  rintro _ K _ hT2 -;obtain⟨r,hr,rfl,rfl,rfl⟩:=bS hT2;refine zz6 ?_;unfold Syn.text;rw[if_neg aI,hr];exact⟨_,rfl,rfl,rfl,rfl⟩
 refine zz5 ?_;refine bL rfl rfl (qV b s st rest 3 _ [] _ hs ha hg (.inl ⟨none,0,rfl,rfl⟩) (by simp)) (.cons .here .nil) rfl (fun _ _=>bQ _ _) ?_ ?_
 ·rintro _ _ _ hT2 le1;obtain⟨e,p,hr,fb,h,rfl⟩:=bR hT2;cases h
  refine uAa ?_;refine zz2 ?_;unfold Syn.text;rw[if_neg aI,hr];exact⟨fb,rfl,rfl⟩
 rintro _ K _ hT2 -;obtain⟨r,hr,rfl,rfl,rfl⟩:=bS hT2;refine zz6 ?_;unfold Syn.text;rw[if_neg aI,hr];exact⟨_,rfl,rfl,rfl,rfl⟩
theorem bKH(b:Nat)(x:List UInt8):∀h,pt b (aZ [str x] 9) h→sl false (bN 9) (.slice (some ⟨b,0,none⟩) 1 1) [x] h:=
 aE0 (k:=bN 9) (xs:=[x]) (cells:=[str x]) (Nat.le_refl _) rfl rfl (.inl (Nat.le_refl _)) (fun h=>by cases h)
theorem bCM(b:Nat)(s:List UInt8)(st:St)(rest:List Value)(fn:FuncId)(caps:Array Value)(ff:List UInt8→Int)(K:Hl)(hs:s.length≤600)(hok:Ok s st)(hg:Glob K)
  (hf:∀x:List UInt8,x.length≤600→Sp Tryz.prog fn (str x::caps.toList) K [] (Val (i64 (ff x)) K)):
  Sp Tryz.prog 102 [ptr b,.func (.func fn) #[] caps] K [psb b s st rest] (jX (Syn.list s st ff) fun r v _ L'=>L'=[sl false (bN 9) v r.1,psb b s r.2 rest]):=by
 refine a8 Tryz.func102 rfl Tryz.ntmps102 rfl rfl fun F w=>?_;have ha:=hok.1;refine zz9 ?_;refine bL rfl rfl (aJO b s st rest [91] _ hs ha hg) (.cons .here .nil) rfl (fun _ _=>bQ _ _) ?_ ?_
 ·rintro _ _ _ hT2 le1;obtain⟨e,p,hr,fb,h,rfl⟩:=bR hT2;cases h
  refine uAa ?_;refine zz3 ?_;unfold Syn.list;rw[hr];exact⟨fb,rfl,rfl⟩
 rintro _ K _ hT2 -;obtain⟨r,hr,rfl,rfl,rfl⟩:=bS hT2;obtain⟨hr1,hr2,hr3⟩:=yX ha hr;have hro:=aFR hok hr;refine aA gAF rfl ?_;refine zz2 ?_;refine eO 8 rfl (fun h8=>?_) (fun h8=>?_)
 ·refine zz4 ?_;refine bL rfl rfl (n9 b s r.2 rest fn caps ff _ hs hr1 hro.2 hg hf) (.cons .here .nil) rfl (fun _ _=>bQ _ _) ?_ ?_
  ·rintro _ _ _ hT3 le1;obtain⟨e,p,hq,fb,h,rfl⟩:=bR hT3;cases h
   refine uAa ?_;refine zz3 ?_;unfold Syn.list;rw[hr];simp only[];rw[hq];exact⟨fb,rfl,rfl⟩
  rintro _ K _ hT3 -;obtain⟨q,hq,rfl,rfl,rfl⟩:=bS hT3;obtain⟨hq1,hq2⟩:=oY hr1 hq;refine cC (bH (z0:=[(str [])]) cG tz9 rfl rfl rfl rfl (.cons rfl rfl rfl (.cons .nil) .nil)) rfl ?_;rintro _ K _ ⟨b12,rfl,rfl,rfl⟩ -;refine zz5 ?_;refine fK (fH (bKH b12 q.1)) ?_;refine bD rfl rfl gA8 ?_;have hl:Syn.list s st ff=.ok ([q.1],q.2):=(by unfold Syn.list;rw[hr];simp only[];rw[hq];simp only[];rw[if_neg (by simpa using h8)]);rw[hl];exact⟨_,rfl,rfl⟩
 refine zz6 ?_;refine bL rfl rfl (n9 b s r.2 rest fn caps ff _ hs hr1 hro.2 hg hf) (.cons .here .nil) rfl (fun _ _=>bQ _ _) ?_ ?_
 ·rintro _ _ _ hT3 le1;obtain⟨e,p,hq,fb,h,rfl⟩:=bR hT3;cases h
  refine uAa ?_;refine zz2 ?_;unfold Syn.list;rw[hr];simp only[];rw[hq];exact⟨fb,rfl,rfl⟩
 rintro _ K _ hT3 -;obtain⟨q,hq,rfl,rfl,rfl⟩:=bS hT3;obtain⟨hq1,hq2⟩:=oY hr1 hq;refine cC (bH (z0:=[(str [])]) cG tz9 rfl rfl rfl rfl (.cons rfl rfl rfl (.cons .nil) .nil)) rfl ?_;rintro _ K _ ⟨b16,rfl,rfl,rfl⟩ -;refine zz5 ?_;refine n7 (fun(st2:St) (v:Value) (acc:List (List UInt8))=>Ok s st2∧acc.length+mu s st2≤1300∧∃f,mu s st2≤f∧Syn.list s st ff=pY s ff (f+1) st2 acc) (fun _ v _=>[(0,ptr b),(1,.func (.func fn) #[] caps),(5,v)]) (fun _ _ _=>K) (fun st2 v acc=>[sl false (bN 9) v acc,psb b s st2 rest]) (fun st2 _ _=>mu s st2) q.2 _ [q.1] ⟨qE hr1 hq,by have:=aEJ s q.2;simp;omega,mu s q.2,Nat.le_refl _,by unfold Syn.list;rw[hr];simp only[];rw[hq];simp only[];rw[if_pos (by simpa using h8)]⟩ (.cons 0 rfl (.cons 1 rfl (.cons 5 rfl .nil))) rfl (fH (bKH b16 q.1)) ?_;intro st2 v acc ⟨hi1,hi2,f,hi3,hi4⟩;refine zz4 ?_;refine bL rfl rfl (aJO b s st2 rest [44] _ hs hi1.1 hg) (.cons (.there .here) .nil) rfl (fun _ _=>bQ _ _) ?_ ?_
 ·rintro _ _ _ hT4 le1;obtain⟨e,p,hy,fb,h,rfl⟩:=bR hT4;cases h
  refine uAa ?_;refine zz6 ?_;rw[hi4];simp only[pY];rw[hy];exact⟨fb,rfl,rfl⟩
 rintro _ K _ hT4 -;obtain⟨y,hy,rfl,rfl,rfl⟩:=bS hT4;obtain⟨hy1,hy2,hy3⟩:=yX hi1.1 hy;have hyo:=aFR hi1 hy;refine zz2 ?_;refine eO 18 rfl (fun h18=>?_) (fun h18=>?_)
 ·have hy4:=hy3 h18;refine zz7 ?_;refine bL rfl rfl (n9 b s y.2 rest fn caps ff _ hs hy1 hyo.2 hg hf) (.cons .here .nil) rfl (fun _ _=>bQ _ _) ?_ ?_
  ·rintro _ _ _ hT5 le1;obtain⟨e,p,hz,fb,h,rfl⟩:=bR hT5;cases h
   refine uAa ?_;refine zz5 ?_;rw[hi4];simp only[pY];rw[hy];simp only[];rw[if_pos h18,hz];exact⟨fb,rfl,rfl⟩
  rintro _ K _ hT5 -;obtain⟨z,hz,rfl,rfl,rfl⟩:=bS hT5;obtain⟨hz1,hz2⟩:=oY hy1 hz;refine cC (bH (z0:=[(str [])]) cG tz9 rfl rfl rfl rfl (.cons rfl rfl rfl (.cons .nil) .nil)) rfl ?_;rintro _ K _ ⟨b23,rfl,rfl,rfl⟩ -;refine cC (dN (k:=(bN 9)) (ys:=[z.1]) fS rfl rfl bF (fun w j=>dE Tryz.underlying39 (SeesSl.at (.blk (.own .here) rfl rfl) j)) gAE gAE) rfl ?_;rintro v24 K _ ⟨rfl,rfl,ho24⟩ -;refine zz3 ?_;obtain⟨f0,rfl⟩:∃f0,f=f0+1:=⟨f - 1,by omega⟩;refine uAm ?_;refine iU z.2 _ (acc++[z.1]) ⟨qE hy1 hz,by simp;omega,f0,by omega,?_⟩ aI (.cons 0 rfl (.cons 1 rfl (.cons 5 rfl .nil))) rfl (fun _ h=>h)
  rw[hi4];simp only[pY];rw[hy];simp only[];rw[if_pos h18,hz]
 refine zz8 ?_;refine bL rfl rfl (aOG b s y.2 rest [93] _ hs hy1 hg) (.cons .here .nil) rfl (fun _ _=>bQ _ _) ?_ ?_
 ·rintro _ _ _ hT5 le1;obtain⟨e,p,hz,fb,h,rfl⟩:=bR hT5;cases h
  refine uAa ?_;refine zz2 ?_;rw[hi4];simp only[pY];rw[hy];simp only[];rw[if_neg (by simp[h18]),hz];exact⟨fb,rfl,rfl⟩
 rintro _ K2 _ hT5 le2;obtain⟨z,hz,rfl,rfl⟩:=bS hT5;refine zz9 ?_;refine uAp ?_;refine bD rfl rfl gA8 ?_;have hl:Syn.list s st ff=.ok (acc,z):=(by rw[hi4];simp only[pY];rw[hy];simp only[];rw[if_neg (by simp[h18]),hz]);rw[hl];exact⟨_,rfl,rfl⟩
theorem qZ(x:List UInt8)(K:Hl):Sp Tryz.prog 177 [str x] K [] (Val (i64 0) K):=by
 refine a8 Tryz.func177 rfl Tryz.ntmps177 rfl rfl fun F w=>?_;refine zz12 ?_;exact⟨rfl,rfl,rfl⟩
theorem xI(s:List UInt8)(K:Hl)(hs:s.length≤140737488351232):Sp Tryz.prog 263 [str s] K [] (Val (.bool (named s)) K):=by
 refine a8 Tryz.func263 rfl Tryz.ntmps263 rfl rfl fun F w=>?_;refine zz9 ?_;refine uAi ?_;rintro v6 K _ ⟨rfl,rfl⟩ -;refine uAw ?_;refine zz4 ?_;refine eJ (fun(i:Nat)=>i≤s.length∧(s.take i).all dO=true) (fun i=>[(0,str s),(6,v6),(7,i64 s.length),(8,i64 i)]) (fun _=>_) (fun i=>[sl false (elB 5) v6 s]) (fun i=>s.length - i) 0 ⟨Nat.zero_le _,rfl⟩ (.cons 0 rfl (.cons 6 rfl (.cons 7 rfl (.cons 8 rfl .nil)))) rfl (fun _ h=>h) ?_;intro i ⟨hi0,hi1⟩;refine zz6 ?_;refine bK 9 rfl (fun h9=>?_) (fun h9=>?_)
 ·obtain⟨c,hc⟩:∃c,s[i]?=some c:=⟨s[i]'(by omega),List.getElem?_eq_getElem aI⟩;have hlen:i < s.length:=by omega
  refine zz6 ?_;refine aA (bE (k:=(elB 5)) kR rfl aM rfl rfl gAD) rfl ?_;refine uBb ?_;refine zz6 ?_;refine cF rfl rfl (uO c _) rfl ?_;refine aA gAF rfl ?_;refine zz2 ?_;refine eO 14 rfl (fun h14=>?_) (fun h14=>?_)
  ·refine zz11 ?_;refine uAl ?_;refine zz1 ?_;exact lN (bIT hc (by simpa using h14)).symm _
  refine zz7 ?_;refine dF (i+1) ⟨by omega,Plain.take_all_succ hc hi1 (by simpa using h14)⟩ aI (.cons 0 rfl (.cons 6 rfl (.cons 7 rfl (.cons 8 rfl .nil)))) rfl (fun _ h=>h)
 have hall:s.all dO=true:=(by rw[List.take_of_length_le aI]at hi1;exact hi1);refine zz10 ?_;refine cH 18 rfl (fun g18=>?_) (fun g18=>?_)
 ·refine zz3 ?_;obtain⟨c0,hc0⟩:∃c,s[0]?=some c:=⟨s[0]'(List.length_pos_iff.2 g18),List.getElem?_eq_getElem _⟩;refine aA (cZ Tryz.underlying9 rfl (j:=0) rfl rfl hc0) rfl ?_;refine zz1 ?_;refine cF rfl rfl (sC c0 _) rfl ?_;refine zz1 ?_;refine aA gAF rfl ?_;refine zz5 ?_;refine uAl ?_;refine zz1 ?_;exact lN (by simp[named,hall,g18,hc0]) _
 refine zz9 ?_;refine uAl ?_;refine zz1 ?_;exact lN (by simp only[Classical.not_not]at g18;simp[named,g18]) _
theorem bD7(x:List UInt8)(K:Hl)(hs:x.length≤140737488351232):Sp Tryz.prog 262 [str x] K [] (Val (i64 (if named x=true then 0 else 7)) K):=by
 refine a8 Tryz.func262 rfl Tryz.ntmps262 rfl rfl fun F w=>?_;refine zz9 ?_;refine cF rfl rfl (xI x _ hs) rfl ?_;refine zz2 ?_;refine eO 4 rfl (fun h4=>?_) (fun h4=>?_)
 ·refine zz8 ?_;rw[if_pos h4];exact⟨rfl,rfl,rfl⟩
 refine zz9 ?_;rw[if_neg (by simp[h4])];exact⟨rfl,rfl,rfl⟩
theorem pI(x:List UInt8)(e:Int)(texts:List (List UInt8))(tv:Value)(b1 b2:Nat)(K:Hl)(h1:K b1=some (aZ [tv] 39))(h2:K b2=some (aZ [i64 e] 30))(hv:Ksl (bN 9) K tv texts)(hn:texts.length≤1000000):
  Sp Tryz.prog 192 [str x,ptr b1,ptr b2] K [] (Val (i64 (oneOf e texts x)) K):=by
 refine a8 Tryz.func192 rfl Tryz.ntmps192 rfl rfl fun F w=>?_;refine zz8 ?_;refine aA (aL iS rfl (.known h1) rfl) rfl ?_;refine zz1 ?_;refine aX rfl rfl (qB tv x texts _ [] (.known hv) hn) .nil rfl ?_;rintro _ K _ ⟨rfl,rfl,rfl⟩ -;refine zz2 ?_;refine bK 7 rfl (fun h7=>?_) (fun h7=>?_)
 ·refine zz8 ?_;unfold oneOf;rw[if_pos h7];exact⟨rfl,rfl,rfl⟩
 refine zz4 ?_;refine aA (aL bE7 rfl (.known h2) rfl) rfl ?_;refine zz5 ?_;unfold oneOf;rw[if_neg h7];exact⟨rfl,rfl,rfl⟩
theorem qS(e:Int)(tv:Value)(K:Hl)(htv:tv.cells= #[tv]):Sp Tryz.prog 103 [i64 e,tv] K [] (Ret fun v K' L'=>∃b1 b2,v=.func (.func 192) #[] #[ptr b1,ptr b2]∧K' b1=some (aZ [tv] 39)∧K' b2=some (aZ [i64 e] 30)∧L'=[]):=by
 refine a8 Tryz.func103 rfl Tryz.ntmps103 rfl rfl fun F w=>?_;refine zz3 ?_;rintro _ K _ ⟨b2,rfl,rfl,rfl⟩ -;refine cC (eH (l:=[tv]) rfl htv) rfl ?_;rintro _ K _ ⟨b3,rfl,rfl,rfl⟩ -;refine zz10 ?_;refine kE fun K1 le1 hK1=>?_;refine kE fun K2 le2 hK2=>?_;refine bD rfl rfl (Hl.le_trans le1 le2) ?_;exact⟨_,rfl,b3,b2,rfl,le2 _ _ hK1,hK2,rfl⟩
abbrev aL2:List UInt8:=[102,114,111,109]
abbrev txTo:List UInt8:=[116,111]
theorem aTM(x:List UInt8)(K:Hl)(hs:x.length≤140737488351232):Sp Tryz.prog 265 [str x] K [] (Val (i64 (oneOf 7 [aL2,txTo] (dG x))) K):=by
 refine(aQ5 (R:=fun e L'=>e=.returned (i64 (oneOf 7 [aL2,txTo] (dG x)))∧L'=[]) ?_).mono fun e K' L' ⟨h1,h2,h3⟩=>⟨h2,h1,h3⟩
 refine a8 Tryz.func265 rfl Tryz.ntmps265 rfl rfl fun F w=>?_;refine zz7 ?_;refine cC (bH (z0:=[(str []),(str [])]) cG tz9 rfl rfl rfl rfl (.cons rfl rfl rfl (.cons .nil) (.cons rfl rfl rfl (.skip (.cons .nil)) .nil))) rfl ?_;rintro _ K _ ⟨b3,rfl,rfl,rfl⟩ -;refine fT fun K1 le1 hK1=>?_;refine aX rfl rfl (qS 7 _ _ rfl) .nil rfl ?_;rintro _ K2 _ ⟨c1,c2,rfl,hc1,hc2,rfl⟩ le2;refine zz1 ?_;refine cF rfl rfl (jT x _ hs) rfl ?_;refine cF rfl rfl (pI (dG x) 7 [aL2,txTo] _ c1 c2 _ hc1 hc2 (.inr ⟨b3,0,2,[str aL2,str txTo],(0,0),rfl,⟨_,le2 _ _ hK1⟩,rfl⟩) (by simp)) rfl ?_;refine zz4 ?_;refine uAl ?_;refine bD rfl rfl (Hl.le_trans le1 le2) ?_;exact⟨rfl,rfl⟩
theorem aC7{β:Type}{P:Program}{f:FuncId}{args:List Value}{K:Hl}{L:List Asn}{r:Res β}{N:β→Value→List Asn→Prop}(h:Sp P f args K L (jX r fun x v _ L'=>N x v L')):
  Sp P f args K L (jX r fun x v K' L'=>K'=K∧N x v L'):=by
 refine(aQ5 (R:=fun e L'=>jX r (fun x v _ L'=>N x v L') e K L') (h.mono fun e K' L' h1=>?_)).mono fun e K' L' ⟨h1,h2⟩=>?_
 ·unfold jX at h1 ⊢;cases r with
  |ok x=>exact h1
  |error p=>exact h1
 unfold jX at h2 ⊢;cases r with
 |ok x=>obtain⟨v,e1,e2⟩:=h2;exact⟨v,e1,h1,e2⟩
 |error p=>exact h2
theorem nM(b:Nat)(s:List UInt8)(st:St)(rest:List Value)(x:List UInt8)(K:Hl)(hs:s.length≤600)(ha:st.1≤s.length)(hg:Glob K):
  Sp Tryz.prog 104 [ptr b,str x] K [psb b s st rest] (jX (Syn.sign s st x) fun r v K' L'=>K'=K∧v=.tuple #[]∧L'=[psb b s r rest]):=
 aC7 (N:=fun(r:St) v L'=>v=.tuple #[]∧L'=[psb b s r rest]) (aOG b s st rest x K hs ha hg)
theorem xG(b:Nat)(s:List UInt8)(st:St)(rest:List Value)(fn:FuncId)(caps:Array Value)(ff:List UInt8→Int)(K:Hl)(hs:s.length≤600)(hok:Ok s st)(hg:Glob K)
  (hf:∀x:List UInt8,x.length≤600→Sp Tryz.prog fn (str x::caps.toList) K [] (Val (i64 (ff x)) K)):
  Sp Tryz.prog 102 [ptr b,.func (.func fn) #[] caps] K [psb b s st rest] (jX (Syn.list s st ff) fun r v K' L'=>K'=K∧L'=[sl false (bN 9) v r.1,psb b s r.2 rest]):=
 aC7 (N:=fun(r:List (List UInt8)×St) v L'=>L'=[sl false (bN 9) v r.1,psb b s r.2 rest]) (bCM b s st rest fn caps ff K hs hok hg hf)
theorem bKR{s:List UInt8}{st:St}{k:Nat}{texts:List (List UInt8)}{r:Word×St}(hok:Ok s st)(h:take s st k texts=.ok r):r.1.s.length≤s.length:=by
 unfold take at h;split at h
 ·cases h
 split at h
 ·cases h
 cases h;exact hok.2
theorem bK0{s:List UInt8}{st:St}{ff:List UInt8→Int}{r:List UInt8×St}(hok:Ok s st)(h:Syn.text s st ff=.ok r):r.1.length≤s.length:=by
 unfold Syn.text at h;split at h
 ·cases h
 split at h
 ·cases h
 rename_i q hq;cases h
 exact bKR hok hq
theorem bD1(xs:List (List UInt8))(x:List UInt8): -1≤dR xs x∧dR xs x≤xs.length:=by
 unfold dR;cases h:xs.findIdx? (fun y=>decide (x=y))with
 |some i=>rw[List.findIdx?_eq_some_iff_getElem]at h;obtain⟨hi,_⟩:=h;exact⟨by show -1≤(i:Int);omega,by show (i:Int)≤_;omega⟩
 |none=>exact⟨by show (-1:Int)≤ -1;omega,by show (-1:Int)≤_;omega⟩
theorem bKB(b:Nat)(s:List UInt8)(st:St)(at_ dp:Int)(nv:Value)(rest:List Value)(needs:List (List UInt8))(K:Hl)(hs:s.length≤600)(hok:Ok s st)(hg:Glob K)(hv:Ksl (bN 9) K nv needs)(hn:needs.length≤1000000):
    Sp Tryz.prog 163 [ptr b,i64 at_,i64 dp] K [psb b s st (nv::rest)]
      (jX (setC s needs st) fun r v K' L'=>K'=K∧v=.iface 308 (.agg #[str r.1.name,str r.1.value,i64 r.1.tag])∧L'=[psb b s r.2 (nv::rest)]):=by
  refine aC7 (N:=fun(r:SetC×St) v L'=>v=.iface 308 (.agg #[str r.1.name,str r.1.value,i64 r.1.tag])∧L'=[psb b s r.2 (nv::rest)]) ?_;have ha:=hok.1;refine a8 Tryz.func163 rfl Tryz.ntmps163 rfl rfl fun F w=>?_;refine zz8 ?_;refine bL rfl rfl (aCV b s st nv rest needs dB _ hv hn) (.cons .here .nil) rfl (fun _ _=>bQ _ _) ?_ ?_
  · rintro _ _ _ hT le1;obtain⟨e,p,hr,fb,h,rfl⟩:=bR hT;cases h
    refine uAa ?_;refine zz2 ?_;have hm:¬dB∈needs:=(by intro h;rw[if_pos h]at hr;cases hr);rw[if_neg hm]at hr;cases hr
    unfold setC;rw[if_neg hm];exact⟨fb,rfl,rfl⟩
  rintro _ K _ hT -;obtain⟨u0,hu,rfl,rfl,rfl⟩:=bS hT;have hm:dB∈needs:=Classical.byContradiction (fun h=>by rw[if_neg h]at hu;cases hu);refine zz7 ?_;refine bL rfl rfl (eS b 208 s st.1 _ _ _ _ (nv::rest) hs ha _ hg) (.cons .here .nil) rfl (fun _ _=>bQ _ _) ?_ ?_
  · rintro _ _ _ hT2 le1;obtain⟨e,p,hr,fb,h,rfl⟩:=bR hT2;cases h
    refine uAa ?_;refine zz2 ?_;unfold setC;rw[if_pos hm,hr];exact⟨fb,rfl,rfl⟩
  rintro _ K _ hT2 -;obtain⟨r,hr,rfl,rfl,rfl⟩:=bS hT2;have hro:=gG ha hr;refine zz4 ?_;refine aA (cL bUR bSI .nil) rfl ?_;refine zz1 ?_;rintro _ K _ ⟨b7,rfl,rfl,rfl⟩ -;refine cA (cK aRB rfl rfl rfl bF gAA (.cons (.cons (.cons .nil))) gAJ) ?_;rintro _ K _ ⟨rfl,rfl⟩ -;refine zz2 ?_;refine xU (fun(tag:Int) (st2:St)=>pB s r=.ok (tag,st2)∧Ok s st2) (fun _ _=>[(0,ptr b),(7,ptr b7)]) (fun _ _=>K) (fun tag st2=>[pt b7 (aZ [str [],str [],i64 tag] 308),psb b s st2 (nv::rest)]) ?_ ?_
  · refine zz11 ?_;refine bK 21 rfl (fun h21=>?_) (fun h21=>?_)
    · refine zz2 ?_;refine cC (bH (z0:=[(str []),(str []),(str [])]) cG tz9 rfl rfl rfl rfl (.cons rfl rfl rfl (.cons .nil) (.cons rfl rfl rfl (.skip (.cons .nil)) (.cons rfl rfl rfl (.skip (.skip (.cons .nil))) .nil)))) rfl ?_;rintro _ K _ ⟨b22,rfl,rfl,rfl⟩ -;refine zz6 ?_;refine aX rfl rfl (zX _ r.2.s [mO,mR,kV] _ [pt b22 (aZ [str mO,str mR,str kV] 9)] (.blk (.own .here) rfl rfl) (by simp)) (.cons .here .nil) rfl ?_;rintro _ K _ ⟨rfl,rfl,rfl⟩ -;have hix: -1≤dR [mO,mR,kV] r.2.s∧dR [mO,mR,kV] r.2.s≤3:=bD1 _ _;refine zz2 ?_;refine cA (bP ts3 rfl rfl cJ bF (.succ (.succ .zero)) rfl) ?_;rintro _ K _ ⟨rfl,rfl⟩ -;refine zz10 ?_;refine bK 34 rfl (fun h34=>?_) (fun h34=>?_)
      · refine zz2 ?_;refine bL rfl rfl (lH b s r (nv::rest) _) (.cons (.there (.there .here)) .nil) rfl gAG ?_ ?_
        · rintro _ _ _ ⟨fb,h,rfl⟩ le1;cases h
          refine uAa ?_;refine zz3 ?_;have hst:pB s r=.error (4,r.2.at_):=(by unfold pB;rw[if_pos aI,if_pos aI]);unfold setC;rw[if_pos hm,hr];simp only[hst];exact⟨fb,rfl,rfl⟩
        rintro _ _ _ ⟨_,h,_⟩;cases h
      refine zz6 ?_;refine bL rfl rfl (eS b 208 s r.1 _ _ _ _ (nv::rest) hs hro.1 _ hg) (.cons (.there (.there .here)) .nil) rfl (fun _ _=>bQ _ _) ?_ ?_
      · rintro _ _ _ hT2 le1;obtain⟨e,p,hr2,fb,h,rfl⟩:=bR hT2;cases h
        refine uAa ?_;refine zz2 ?_;have hst:pB s r=.error (e,p):=(by unfold pB;rw[if_pos aI,if_neg aI,hr2]);unfold setC;rw[if_pos hm,hr];simp only[hst];exact⟨fb,rfl,rfl⟩
      rintro _ K _ hT2 -;obtain⟨r2,hr2,rfl,rfl,rfl⟩:=bS hT2;refine aG ?_
      (have hst : pB s r = .ok (1 + dR [mO, mR, kV] r.2.s, r2) := (by unfold pB; rw [if_pos aI, if_neg aI, hr2])
       refine uAf ?_;exact iP _ r2 ⟨hst,gG hro.1 hr2⟩ (.cons 0 rfl (.cons 7 rfl .nil)) rfl (fun _ h=>h))
    refine aW ?_
    (have hst : pB s r = .ok (0, r) := (by unfold pB; rw [if_neg aI])
     exact iP 0 r ⟨hst,hro⟩ (.cons 0 rfl (.cons 7 rfl .nil)) rfl (fun _ h=>h))
  intro tag st2 ⟨ht,hok2⟩;have hsc:setC s needs st=oX s (tag,st2):=(by unfold setC;rw[if_pos hm,hr];simp only[ht]);refine zz3 ?_;refine bL rfl rfl (n9 b s st2 (nv::rest) 262 #[] (fun x=>if named x=true then 0 else 7) _ hs hok2.1 hok2.2 hg (fun x hx=>bD7 x _ aI)) (.cons (.there .here) .nil) rfl (fun _ _=>bQ _ _) ?_ ?_
  · rintro _ _ _ hT3 le1;obtain⟨e,p,h3,fb,h,rfl⟩:=bR hT3;cases h
    refine uAa ?_;refine zz2 ?_;rw[hsc];unfold oX;rw[h3];exact⟨fb,rfl,rfl⟩
  rintro _ K _ hT3 -;obtain⟨n,h3,rfl,rfl,rfl⟩:=bS hT3;have hok3:=qE hok2.1 h3;refine cF rfl rfl (jT _ _ (by have:=bK0 hok2 h3;omega)) rfl ?_;refine zz1 ?_;refine uAy ?_;rintro _ K _ ⟨rfl,rfl⟩ -;refine zz5 ?_;refine bL rfl rfl (n9 b s n.2 (nv::rest) 177 #[] (fun _=>0) _ hs hok3.1 hok3.2 hg (fun x hx=>qZ x _)) (.cons .here .nil) rfl (fun _ _=>bQ _ _) ?_ ?_
  · rintro _ _ _ hT4 le1;obtain⟨e,p,h4,fb,h,rfl⟩:=bR hT4;cases h
    refine uAa ?_;refine zz2 ?_;rw[hsc];unfold oX;simp only[h3,h4];exact⟨fb,rfl,rfl⟩
  rintro _ K _ hT4 -;obtain⟨v,h4,rfl,rfl,rfl⟩:=bS hT4;have hok4:=qE hok3.1 h4;refine zz1 ?_;refine uAh ?_;rintro _ K _ ⟨rfl,rfl⟩ -;refine zz5 ?_;refine bL rfl rfl (nM b s v.2 (nv::rest) [59] _ hs hok4.1 hg) (.cons .here .nil) rfl (fun _ _=>bQ _ _) ?_ ?_
  · rintro _ _ _ hT5 le1;obtain⟨e,p,h5,fb,h,rfl⟩:=bR hT5;cases h
    refine uAa ?_;refine zz2 ?_;rw[hsc];unfold oX;simp only[h3,h4,h5];exact⟨fb,rfl,rfl⟩
  rintro _ K _ hT5 -;obtain⟨q,h5,rfl,rfl,rfl⟩:=bS hT5;refine zz5 ?_;refine aA (cY Tryz.underlying308 (fun _ h=>by cases h) rfl) rfl ?_;refine zz4 ?_;refine uAa ?_;refine zz1 ?_;have hfin:oX s (tag,st2)=.ok (⟨dG n.1,v.1,tag⟩,q):=(by unfold oX;simp only[h3,h4,h5]);rw[hsc,hfin];exact⟨_,rfl,rfl,rfl⟩
theorem sM(xs:List (List UInt8))(x:List UInt8): -1≤dR xs x∧dR xs x < xs.length:=by
 unfold dR;cases h:xs.findIdx? (fun y=>decide (x=y))with
 |some i=>rw[List.findIdx?_eq_some_iff_getElem]at h;obtain⟨hi,_⟩:=h;exact⟨by show -1≤(i:Int);omega,by show (i:Int) < _;omega⟩
 |none=>exact⟨by show (-1:Int)≤ -1;omega,by show (-1:Int) < _;omega⟩
theorem bTX{op:Int}(h:op=7)(x:List UInt8):qA op x=Syn.oneOf 7 [aL2,txTo] (dG x):=by unfold qA;rw[if_pos h]
theorem bTW{op:Int}(h:¬op=7)(x:List UInt8):qA op x=0:=by unfold qA;rw[if_neg h]
theorem aCS(b:Nat)(s:List UInt8)(st:St)(op:Int)(ext:List UInt8)(nv:Value)(rest:List Value)(needs:List (List UInt8))(K:Hl)(hs:s.length≤600)(hok:Ok s st)(hg:Glob K)(hv:Ksl (bN 9) K nv needs)(hn:needs.length≤1000000):
    Sp Tryz.prog 173 [ptr b,i64 op,str ext] K [psb b s st (nv::rest)]
      (jX (mN s needs op ext st) fun r v K' L'=>Rep1 K' r.1 v∧L'=[psb b s r.2 (nv::rest)]):=by
  have ha:=hok.1;refine a8 Tryz.func173 rfl Tryz.ntmps173 rfl rfl fun F w=>?_;refine zz5 ?_;refine gV (fun(_:Unit)=>¬(ext≠[]∧ext∉needs)) (fun _=>[(0,ptr b),(1,i64 op),(2,str ext)]) (fun _=>K) (fun _=>[psb b s st (nv::rest)]) ?_ ?_
  · refine zz6 ?_;refine bK 12 rfl (fun h12=>?_) (fun h12=>?_)
    · refine zz3 ?_;refine bL rfl rfl (aCV b s st nv rest needs ext _ hv hn) (.cons .here .nil) rfl (fun _ _=>bQ _ _) ?_ ?_
      · rintro _ _ _ hTr le1;obtain⟨e,p,hu,fb,h,rfl⟩:=bR hTr;cases h
        refine uAa ?_;refine zz2 ?_;have hm:¬ext∈needs:=gAW;rw[if_neg hm]at hu;cases hu
        unfold mN;rw[if_pos ⟨h12,hm⟩];exact⟨fb,rfl,rfl⟩
      rintro _ K _ hTr -;obtain⟨u0,hu,rfl,rfl,rfl⟩:=bS hTr;clear hTr;have hm:ext∈needs:=Classical.byContradiction (fun h=>by rw[if_neg h]at hu;cases hu);have hne:¬(ext≠[]∧ext∉needs):=fun h=>h.2 hm
      refine aG ?_;exact cN () hne (.cons 0 rfl (.cons 1 rfl (.cons 2 rfl .nil))) rfl (fun _ h=>h)
    have hne:¬(ext≠[]∧ext∉needs):=fun h=>h12 h.1
    refine aW ?_;exact cN () hne (.cons 0 rfl (.cons 1 rfl (.cons 2 rfl .nil))) rfl (fun _ h=>h)
  intro _ hne;refine zz5 ?_;refine bL rfl rfl (eS b 208 s st.1 _ _ _ _ (nv::rest) hs ha _ hg) (.cons .here .nil) rfl (fun _ _=>bQ _ _) ?_ ?_
  · rintro _ _ _ hTr le1;obtain⟨e,p,hr,fb,h,rfl⟩:=bR hTr;cases h
    refine uAa ?_;refine zz2 ?_;simp only[mN,hne,hr,↓reduceIte];exact⟨fb,rfl,rfl⟩
  rintro _ K _ hTr -;obtain⟨r,hr,rfl,rfl,rfl⟩:=bS hTr;clear hTr;have hro:=gG ha hr;refine zz5 ?_;refine aA (cL bUV bSM (.cons rfl rfl rfl (.skip (.skip (.cons .nil))) .nil)) rfl ?_;refine zz1 ?_;rintro _ K _ ⟨b7,rfl,rfl,rfl⟩ -;refine cA (cK aRD rfl rfl rfl bF gAA (.cons (.cons (.cons (.cons (.cons .nil))))) gAJ) ?_;rintro _ K _ ⟨rfl,rfl⟩ -;refine zz9 ?_;refine rC (fun(hw:How) (st2:St)=>Ok s st2∧(0≤hw.tag∧hw.tag≤3)∧∃f,mu s st2≤f∧mN s needs op ext st=pZ s op (iL s (f+1) hw st2)) (fun hw _=>[(0,ptr b),(1,i64 op),(7,ptr b7),(8,.bool hw.cmp)]) (fun _ _=>K) (fun hw st2=>[pt b7 (aZ [i64 hw.tag,.bool hw.oct,i64 op,.slice none 0 0,.slice none 0 0] 380),psb b s st2 (nv::rest)]) (fun _ st2=>mu s st2) ⟨false,0,false⟩ r ⟨hro,⟨Int.le_refl 0,by decide⟩,mu s r,Nat.le_refl _,by simp only[mN,hne,if_false,hr]⟩ (.cons 0 rfl (.cons 1 rfl (.cons 7 rfl (.cons 8 rfl .nil)))) rfl (fun _ h=>h) ?_;intro hw st2 ⟨hok2,ht,f,hf,hx⟩;refine zz12 ?_;refine bK 28 rfl (fun h28=>?_) (fun h28=>?_)
  · have g28:st2.2.kind=2:=by omega
    refine zz5 ?_;refine cC (bH (z0:=[(str []),(str []),(str []),(str [])]) cG tz9 rfl rfl rfl rfl (.cons rfl rfl rfl (.cons .nil) (.cons rfl rfl rfl (.skip (.cons .nil)) (.cons rfl rfl rfl (.skip (.skip (.cons .nil))) (.cons rfl rfl rfl (.skip (.skip (.skip (.cons .nil)))) .nil))))) rfl ?_;rintro _ K _ ⟨b29,rfl,rfl,rfl⟩ -;refine zz6 ?_;refine aX rfl rfl (zX _ st2.2.s eG _ [pt b29 (aZ [str txIs,str nT,str lB,str lJ] 9)] (.blk (.own .here) rfl rfl) (by simp[eG])) (.cons .here .nil) rfl ?_;rintro _ K _ ⟨rfl,rfl,rfl⟩ -;have hix: -1≤dR eG st2.2.s∧dR eG st2.2.s < 4:=sM _ _;refine zz12 ?_;refine bK 49 rfl (fun h49=>?_) (fun h49=>?_)
    · have g49:dR eG st2.2.s= -1:=by omega
      refine zz2 ?_;refine bL rfl rfl (lH b s st2 (nv::rest) _) (.cons (.there (.there .here)) .nil) rfl gAG ?_ ?_
      · rintro _ _ _ ⟨fb,h,rfl⟩ le1;cases h
        refine uAa ?_;refine zz6 ?_;simp only[hx,iL,g28,g49,↓reduceIte];exact⟨fb,rfl,rfl⟩
      rintro _ _ _ ⟨_,h,_⟩;cases h
    have g49:¬dR eG st2.2.s= -1:=by omega
    refine zz6 ?_;refine cH 57 rfl (fun g57=>?_) (fun g57=>?_)
    · refine zz6 ?_
      first|refine bK 54 rfl (fun h54=>?_) (fun h54=>?_)|refine eO 54 rfl (fun h54=>?_) (fun h54=>?_)
      · refine zz10 ?_;have hcond:(dR eG st2.2.s=3∧hw.cmp=true)∨(dR eG st2.2.s < 3∧hw.tag≠0):=gA9;refine bL rfl rfl (gO 7 st2.2.at_ _) .nil rfl gAG ?_ ?_
        · rintro _ _ _ ⟨fb,h,rfl⟩ le1;cases h
          refine uAa ?_;refine zz6 ?_;simp only[hx,iL,g28,g49,if_pos hcond,if_true,if_false];exact⟨fb,rfl,rfl⟩
        rintro _ _ _ ⟨_,h,_⟩;cases h
      refine zz4 ?_;refine cH 62 rfl (fun g62=>?_) (fun g62=>?_)
      · refine zz12 ?_
        first|refine bK 54 rfl (fun h54=>?_) (fun h54=>?_)|refine eO 54 rfl (fun h54=>?_) (fun h54=>?_)
        · refine zz7 ?_;have hcond:(dR eG st2.2.s=3∧hw.cmp=true)∨(dR eG st2.2.s < 3∧hw.tag≠0):=gA9;refine bL rfl rfl (gO 7 st2.2.at_ _) .nil rfl gAG ?_ ?_
          · rintro _ _ _ ⟨fb,h,rfl⟩ le1;cases h
            refine uAa ?_;refine zz6 ?_;simp only[hx,iL,g28,g49,if_pos hcond,if_true,if_false];exact⟨fb,rfl,rfl⟩
          rintro _ _ _ ⟨_,h,_⟩;cases h
        refine zz7 ?_;refine bK 75 rfl (fun h75=>?_) (fun h75=>?_)
        · have g75:dR eG st2.2.s < 3:=by omega
          have hcond:¬((dR eG st2.2.s=3∧hw.cmp=true)∨(dR eG st2.2.s < 3∧hw.tag≠0)):=gAM;refine zz5 ?_;refine uAs ?_;rintro _ K _ ⟨rfl,rfl⟩ -;refine zz6 ?_;refine bL rfl rfl (eS b 208 s st2.1 _ _ _ _ (nv::rest) hs hok2.1 _ hg) (.cons (.there (.there .here)) .nil) rfl (fun _ _=>bQ _ _) ?_ ?_
          · rintro _ _ _ hTr le1;obtain⟨e,p,hr2,fb,h,rfl⟩:=bR hTr;cases h
            refine uAa ?_;refine zz6 ?_;simp only[hx,iL,g28,g49,if_neg hcond,if_pos g75,hr2,↓reduceIte];exact⟨fb,rfl,rfl⟩
          rintro _ K _ hTr -;obtain⟨r2,hr2,rfl,rfl,rfl⟩:=bS hTr;clear hTr;have hok3:=gG hok2.1 hr2;refine zz3 ?_
          (have hm2 := lR hok2.1 aI hr2; obtain ⟨f0, rfl⟩ : ∃ f0, f = f0 + 1 := ⟨f - 1, by omega⟩
           refine uAf ?_;refine fR ⟨hw.cmp,1+dR eG st2.2.s,hw.oct⟩ r2 ⟨hok3,⟨by simp only[];omega,by simp only[];omega⟩,f0,by omega,?_⟩ aI (.cons 0 rfl (.cons 1 rfl (.cons 7 rfl (.cons 8 rfl .nil)))) rfl (fun _ h=>h)
           simp only[hx,iL,g28,g49,if_neg hcond,if_pos g75,hr2,↓reduceIte])
        have g75:¬dR eG st2.2.s < 3:=by omega
        have hcond:¬((dR eG st2.2.s=3∧hw.cmp=true)∨(dR eG st2.2.s < 3∧hw.tag≠0)):=gAM;refine zz10 ?_;refine bL rfl rfl (eS b 208 s st2.1 _ _ _ _ (nv::rest) hs hok2.1 _ hg) (.cons (.there (.there .here)) .nil) rfl (fun _ _=>bQ _ _) ?_ ?_
        · rintro _ _ _ hTr le1;obtain⟨e,p,hr3,fb,h,rfl⟩:=bR hTr;cases h
          refine uAa ?_;refine zz7 ?_;simp only[hx,iL,g28,g49,if_neg hcond,if_neg g75,hr3,↓reduceIte];exact⟨fb,rfl,rfl⟩
        rintro _ K _ hTr -;obtain⟨r3,hr3,rfl,rfl,rfl⟩:=bS hTr;clear hTr;have hok3:=gG hok2.1 hr3;refine zz4 ?_;refine cC (bH (z0:=[(str []),(str [])]) cG tz9 rfl rfl rfl rfl (.cons rfl rfl rfl (.cons .nil) (.cons rfl rfl rfl (.skip (.cons .nil)) .nil))) rfl ?_;rintro _ K _ ⟨b43,rfl,rfl,rfl⟩ -;refine fT fun K1 leA hK1=>?_;refine aX rfl rfl (qS 7 _ _ rfl) .nil rfl ?_;rintro _ K2 _ ⟨c1,c2,rfl,hc1,hc2,rfl⟩ leB;refine bL rfl rfl (n9 b s r3 (nv::rest) 192 #[ptr c1,ptr c2] (Syn.oneOf 7 [gY,jH]) _ hs hok3.1 hok3.2 (hg.mono (Hl.le_trans leA leB)) (fun x hx=>pI x 7 [gY,jH] _ c1 c2 _ hc1 hc2 (.inr ⟨b43,0,2,[str gY,str jH],(0,0),rfl,⟨_,leB _ _ hK1⟩,rfl⟩) (by simp))) (.cons .here .nil) rfl (fun _ _=>bQ _ _) ?_ ?_
        · rintro _ _ _ hTr le1;obtain⟨e,p,hx4,fb,h,rfl⟩:=bR hTr;cases h
          refine uAa ?_;refine zz5 ?_;refine bX (Hl.le_trans leA (Hl.le_trans leB le1)) ?_;simp only[hx,iL,g28,g49,if_neg hcond,if_neg g75,hr3,hx4,↓reduceIte];exact⟨fb,rfl,rfl⟩
        rintro _ K _ hTr -;obtain⟨x,hx4,rfl,rfl,rfl⟩:=bS hTr;clear hTr;have hok4:=qE hok3.1 hx4;refine zz3 ?_;refine uBv ?_;rintro _ K _ ⟨rfl,rfl⟩ -;refine zz3 ?_
        (have hm2 := lR hok2.1 aI hr3; have hm3 := oY hok3.1 hx4; obtain ⟨f0, rfl⟩ : ∃ f0, f = f0 + 1 := ⟨f - 1, by omega⟩
         refine uAf ?_;refine yT (Hl.le_trans leA leB) ?_;refine fR ⟨true,hw.tag,decide (x.1=gY)⟩ x.2 ⟨hok4,ht,f0,by omega,?_⟩ aI (.cons 0 rfl (.cons 1 rfl (.cons 7 rfl (.cons 8 rfl .nil)))) rfl (fun _ h=>h)
         simp only[hx,iL,g28,g49,if_neg hcond,if_neg g75,hr3,hx4,↓reduceIte])
      refine zz16 ?_;refine bK 75 rfl (fun h75=>?_) (fun h75=>?_)
      · have g75:dR eG st2.2.s < 3:=by omega
        have hcond:¬((dR eG st2.2.s=3∧hw.cmp=true)∨(dR eG st2.2.s < 3∧hw.tag≠0)):=gAM;refine zz5 ?_;refine uAs ?_;rintro _ K _ ⟨rfl,rfl⟩ -;refine zz6 ?_;refine bL rfl rfl (eS b 208 s st2.1 _ _ _ _ (nv::rest) hs hok2.1 _ hg) (.cons (.there (.there .here)) .nil) rfl (fun _ _=>bQ _ _) ?_ ?_
        · rintro _ _ _ hTr le1;obtain⟨e,p,hr2,fb,h,rfl⟩:=bR hTr;cases h
          refine uAa ?_;refine zz6 ?_;simp only[hx,iL,g28,g49,if_neg hcond,if_pos g75,hr2,↓reduceIte];exact⟨fb,rfl,rfl⟩
        rintro _ K _ hTr -;obtain⟨r2,hr2,rfl,rfl,rfl⟩:=bS hTr;clear hTr;have hok3:=gG hok2.1 hr2;refine zz3 ?_
        (have hm2 := lR hok2.1 aI hr2; obtain ⟨f0, rfl⟩ : ∃ f0, f = f0 + 1 := ⟨f - 1, by omega⟩
         refine uAf ?_;refine fR ⟨hw.cmp,1+dR eG st2.2.s,hw.oct⟩ r2 ⟨hok3,⟨by simp only[];omega,by simp only[];omega⟩,f0,by omega,?_⟩ aI (.cons 0 rfl (.cons 1 rfl (.cons 7 rfl (.cons 8 rfl .nil)))) rfl (fun _ h=>h)
         simp only[hx,iL,g28,g49,if_neg hcond,if_pos g75,hr2,↓reduceIte])
      have g75:¬dR eG st2.2.s < 3:=by omega
      have hcond:¬((dR eG st2.2.s=3∧hw.cmp=true)∨(dR eG st2.2.s < 3∧hw.tag≠0)):=gAM;refine zz10 ?_;refine bL rfl rfl (eS b 208 s st2.1 _ _ _ _ (nv::rest) hs hok2.1 _ hg) (.cons (.there (.there .here)) .nil) rfl (fun _ _=>bQ _ _) ?_ ?_
      · rintro _ _ _ hTr le1;obtain⟨e,p,hr3,fb,h,rfl⟩:=bR hTr;cases h
        refine uAa ?_;refine zz7 ?_;simp only[hx,iL,g28,g49,if_neg hcond,if_neg g75,hr3,↓reduceIte];exact⟨fb,rfl,rfl⟩
      rintro _ K _ hTr -;obtain⟨r3,hr3,rfl,rfl,rfl⟩:=bS hTr;clear hTr;have hok3:=gG hok2.1 hr3;refine zz4 ?_;refine cC (bH (z0:=[(str []),(str [])]) cG tz9 rfl rfl rfl rfl (.cons rfl rfl rfl (.cons .nil) (.cons rfl rfl rfl (.skip (.cons .nil)) .nil))) rfl ?_;rintro _ K _ ⟨b43,rfl,rfl,rfl⟩ -;refine fT fun K1 leA hK1=>?_;refine aX rfl rfl (qS 7 _ _ rfl) .nil rfl ?_;rintro _ K2 _ ⟨c1,c2,rfl,hc1,hc2,rfl⟩ leB;refine bL rfl rfl (n9 b s r3 (nv::rest) 192 #[ptr c1,ptr c2] (Syn.oneOf 7 [gY,jH]) _ hs hok3.1 hok3.2 (hg.mono (Hl.le_trans leA leB)) (fun x hx=>pI x 7 [gY,jH] _ c1 c2 _ hc1 hc2 (.inr ⟨b43,0,2,[str gY,str jH],(0,0),rfl,⟨_,leB _ _ hK1⟩,rfl⟩) (by simp))) (.cons .here .nil) rfl (fun _ _=>bQ _ _) ?_ ?_
      · rintro _ _ _ hTr le1;obtain⟨e,p,hx4,fb,h,rfl⟩:=bR hTr;cases h
        refine uAa ?_;refine zz5 ?_;refine bX (Hl.le_trans leA (Hl.le_trans leB le1)) ?_;simp only[hx,iL,g28,g49,if_neg hcond,if_neg g75,hr3,hx4,↓reduceIte];exact⟨fb,rfl,rfl⟩
      rintro _ K _ hTr -;obtain⟨x,hx4,rfl,rfl,rfl⟩:=bS hTr;clear hTr;have hok4:=qE hok3.1 hx4;refine zz3 ?_;refine uBv ?_;rintro _ K _ ⟨rfl,rfl⟩ -;refine zz3 ?_
      (have hm2 := lR hok2.1 aI hr3; have hm3 := oY hok3.1 hx4; obtain ⟨f0, rfl⟩ : ∃ f0, f = f0 + 1 := ⟨f - 1, by omega⟩
       refine uAf ?_;refine yT (Hl.le_trans leA leB) ?_;refine fR ⟨true,hw.tag,decide (x.1=gY)⟩ x.2 ⟨hok4,ht,f0,by omega,?_⟩ aI (.cons 0 rfl (.cons 1 rfl (.cons 7 rfl (.cons 8 rfl .nil)))) rfl (fun _ h=>h)
       simp only[hx,iL,g28,g49,if_neg hcond,if_neg g75,hr3,hx4,↓reduceIte])
    refine zz10 ?_;refine cH 62 rfl (fun g62=>?_) (fun g62=>?_)
    · refine zz12 ?_
      first|refine bK 54 rfl (fun h54=>?_) (fun h54=>?_)|refine eO 54 rfl (fun h54=>?_) (fun h54=>?_)
      · refine zz7 ?_;have hcond:(dR eG st2.2.s=3∧hw.cmp=true)∨(dR eG st2.2.s < 3∧hw.tag≠0):=gA9;refine bL rfl rfl (gO 7 st2.2.at_ _) .nil rfl gAG ?_ ?_
        · rintro _ _ _ ⟨fb,h,rfl⟩ le1;cases h
          refine uAa ?_;refine zz6 ?_;simp only[hx,iL,g28,g49,if_pos hcond,if_true,if_false];exact⟨fb,rfl,rfl⟩
        rintro _ _ _ ⟨_,h,_⟩;cases h
      refine zz7 ?_;refine bK 75 rfl (fun h75=>?_) (fun h75=>?_)
      · have g75:dR eG st2.2.s < 3:=by omega
        have hcond:¬((dR eG st2.2.s=3∧hw.cmp=true)∨(dR eG st2.2.s < 3∧hw.tag≠0)):=gAM;refine zz5 ?_;refine uAs ?_;rintro _ K _ ⟨rfl,rfl⟩ -;refine zz6 ?_;refine bL rfl rfl (eS b 208 s st2.1 _ _ _ _ (nv::rest) hs hok2.1 _ hg) (.cons (.there (.there .here)) .nil) rfl (fun _ _=>bQ _ _) ?_ ?_
        · rintro _ _ _ hTr le1;obtain⟨e,p,hr2,fb,h,rfl⟩:=bR hTr;cases h
          refine uAa ?_;refine zz6 ?_;simp only[hx,iL,g28,g49,if_neg hcond,if_pos g75,hr2,↓reduceIte];exact⟨fb,rfl,rfl⟩
        rintro _ K _ hTr -;obtain⟨r2,hr2,rfl,rfl,rfl⟩:=bS hTr;clear hTr;have hok3:=gG hok2.1 hr2;refine zz3 ?_
        (have hm2 := lR hok2.1 aI hr2; obtain ⟨f0, rfl⟩ : ∃ f0, f = f0 + 1 := ⟨f - 1, by omega⟩
         refine uAf ?_;refine fR ⟨hw.cmp,1+dR eG st2.2.s,hw.oct⟩ r2 ⟨hok3,⟨by simp only[];omega,by simp only[];omega⟩,f0,by omega,?_⟩ aI (.cons 0 rfl (.cons 1 rfl (.cons 7 rfl (.cons 8 rfl .nil)))) rfl (fun _ h=>h)
         simp only[hx,iL,g28,g49,if_neg hcond,if_pos g75,hr2,↓reduceIte])
      have g75:¬dR eG st2.2.s < 3:=by omega
      have hcond:¬((dR eG st2.2.s=3∧hw.cmp=true)∨(dR eG st2.2.s < 3∧hw.tag≠0)):=gAM;refine zz10 ?_;refine bL rfl rfl (eS b 208 s st2.1 _ _ _ _ (nv::rest) hs hok2.1 _ hg) (.cons (.there (.there .here)) .nil) rfl (fun _ _=>bQ _ _) ?_ ?_
      · rintro _ _ _ hTr le1;obtain⟨e,p,hr3,fb,h,rfl⟩:=bR hTr;cases h
        refine uAa ?_;refine zz7 ?_;simp only[hx,iL,g28,g49,if_neg hcond,if_neg g75,hr3,↓reduceIte];exact⟨fb,rfl,rfl⟩
      rintro _ K _ hTr -;obtain⟨r3,hr3,rfl,rfl,rfl⟩:=bS hTr;clear hTr;have hok3:=gG hok2.1 hr3;refine zz4 ?_;refine cC (bH (z0:=[(str []),(str [])]) cG tz9 rfl rfl rfl rfl (.cons rfl rfl rfl (.cons .nil) (.cons rfl rfl rfl (.skip (.cons .nil)) .nil))) rfl ?_;rintro _ K _ ⟨b43,rfl,rfl,rfl⟩ -;refine fT fun K1 leA hK1=>?_;refine aX rfl rfl (qS 7 _ _ rfl) .nil rfl ?_;rintro _ K2 _ ⟨c1,c2,rfl,hc1,hc2,rfl⟩ leB;refine bL rfl rfl (n9 b s r3 (nv::rest) 192 #[ptr c1,ptr c2] (Syn.oneOf 7 [gY,jH]) _ hs hok3.1 hok3.2 (hg.mono (Hl.le_trans leA leB)) (fun x hx=>pI x 7 [gY,jH] _ c1 c2 _ hc1 hc2 (.inr ⟨b43,0,2,[str gY,str jH],(0,0),rfl,⟨_,leB _ _ hK1⟩,rfl⟩) (by simp))) (.cons .here .nil) rfl (fun _ _=>bQ _ _) ?_ ?_
      · rintro _ _ _ hTr le1;obtain⟨e,p,hx4,fb,h,rfl⟩:=bR hTr;cases h
        refine uAa ?_;refine zz5 ?_;refine bX (Hl.le_trans leA (Hl.le_trans leB le1)) ?_;simp only[hx,iL,g28,g49,if_neg hcond,if_neg g75,hr3,hx4,↓reduceIte];exact⟨fb,rfl,rfl⟩
      rintro _ K _ hTr -;obtain⟨x,hx4,rfl,rfl,rfl⟩:=bS hTr;clear hTr;have hok4:=qE hok3.1 hx4;refine zz3 ?_;refine uBv ?_;rintro _ K _ ⟨rfl,rfl⟩ -;refine zz3 ?_
      (have hm2 := lR hok2.1 aI hr3; have hm3 := oY hok3.1 hx4; obtain ⟨f0, rfl⟩ : ∃ f0, f = f0 + 1 := ⟨f - 1, by omega⟩
       refine uAf ?_;refine yT (Hl.le_trans leA leB) ?_;refine fR ⟨true,hw.tag,decide (x.1=gY)⟩ x.2 ⟨hok4,ht,f0,by omega,?_⟩ aI (.cons 0 rfl (.cons 1 rfl (.cons 7 rfl (.cons 8 rfl .nil)))) rfl (fun _ h=>h)
       simp only[hx,iL,g28,g49,if_neg hcond,if_neg g75,hr3,hx4,↓reduceIte])
    refine zz16 ?_;refine bK 75 rfl (fun h75=>?_) (fun h75=>?_)
    · have g75:dR eG st2.2.s < 3:=by omega
      have hcond:¬((dR eG st2.2.s=3∧hw.cmp=true)∨(dR eG st2.2.s < 3∧hw.tag≠0)):=gAM;refine zz5 ?_;refine uAs ?_;rintro _ K _ ⟨rfl,rfl⟩ -;refine zz6 ?_;refine bL rfl rfl (eS b 208 s st2.1 _ _ _ _ (nv::rest) hs hok2.1 _ hg) (.cons (.there (.there .here)) .nil) rfl (fun _ _=>bQ _ _) ?_ ?_
      · rintro _ _ _ hTr le1;obtain⟨e,p,hr2,fb,h,rfl⟩:=bR hTr;cases h
        refine uAa ?_;refine zz6 ?_;simp only[hx,iL,g28,g49,if_neg hcond,if_pos g75,hr2,↓reduceIte];exact⟨fb,rfl,rfl⟩
      rintro _ K _ hTr -;obtain⟨r2,hr2,rfl,rfl,rfl⟩:=bS hTr;clear hTr;have hok3:=gG hok2.1 hr2;refine zz3 ?_
      (have hm2 := lR hok2.1 aI hr2; obtain ⟨f0, rfl⟩ : ∃ f0, f = f0 + 1 := ⟨f - 1, by omega⟩
       refine uAf ?_;refine fR ⟨hw.cmp,1+dR eG st2.2.s,hw.oct⟩ r2 ⟨hok3,⟨by simp only[];omega,by simp only[];omega⟩,f0,by omega,?_⟩ aI (.cons 0 rfl (.cons 1 rfl (.cons 7 rfl (.cons 8 rfl .nil)))) rfl (fun _ h=>h)
       simp only[hx,iL,g28,g49,if_neg hcond,if_pos g75,hr2,↓reduceIte])
    have g75:¬dR eG st2.2.s < 3:=by omega
    have hcond:¬((dR eG st2.2.s=3∧hw.cmp=true)∨(dR eG st2.2.s < 3∧hw.tag≠0)):=gAM;refine zz10 ?_;refine bL rfl rfl (eS b 208 s st2.1 _ _ _ _ (nv::rest) hs hok2.1 _ hg) (.cons (.there (.there .here)) .nil) rfl (fun _ _=>bQ _ _) ?_ ?_
    · rintro _ _ _ hTr le1;obtain⟨e,p,hr3,fb,h,rfl⟩:=bR hTr;cases h
      refine uAa ?_;refine zz7 ?_;simp only[hx,iL,g28,g49,if_neg hcond,if_neg g75,hr3,↓reduceIte];exact⟨fb,rfl,rfl⟩
    rintro _ K _ hTr -;obtain⟨r3,hr3,rfl,rfl,rfl⟩:=bS hTr;clear hTr;have hok3:=gG hok2.1 hr3;refine zz4 ?_;refine cC (bH (z0:=[(str []),(str [])]) cG tz9 rfl rfl rfl rfl (.cons rfl rfl rfl (.cons .nil) (.cons rfl rfl rfl (.skip (.cons .nil)) .nil))) rfl ?_;rintro _ K _ ⟨b43,rfl,rfl,rfl⟩ -;refine fT fun K1 leA hK1=>?_;refine aX rfl rfl (qS 7 _ _ rfl) .nil rfl ?_;rintro _ K2 _ ⟨c1,c2,rfl,hc1,hc2,rfl⟩ leB;refine bL rfl rfl (n9 b s r3 (nv::rest) 192 #[ptr c1,ptr c2] (Syn.oneOf 7 [gY,jH]) _ hs hok3.1 hok3.2 (hg.mono (Hl.le_trans leA leB)) (fun x hx=>pI x 7 [gY,jH] _ c1 c2 _ hc1 hc2 (.inr ⟨b43,0,2,[str gY,str jH],(0,0),rfl,⟨_,leB _ _ hK1⟩,rfl⟩) (by simp))) (.cons .here .nil) rfl (fun _ _=>bQ _ _) ?_ ?_
    · rintro _ _ _ hTr le1;obtain⟨e,p,hx4,fb,h,rfl⟩:=bR hTr;cases h
      refine uAa ?_;refine zz5 ?_;refine bX (Hl.le_trans leA (Hl.le_trans leB le1)) ?_;simp only[hx,iL,g28,g49,if_neg hcond,if_neg g75,hr3,hx4,↓reduceIte];exact⟨fb,rfl,rfl⟩
    rintro _ K _ hTr -;obtain⟨x,hx4,rfl,rfl,rfl⟩:=bS hTr;clear hTr;have hok4:=qE hok3.1 hx4;refine zz3 ?_;refine uBv ?_;rintro _ K _ ⟨rfl,rfl⟩ -;refine zz3 ?_
    (have hm2 := lR hok2.1 aI hr3; have hm3 := oY hok3.1 hx4; obtain ⟨f0, rfl⟩ : ∃ f0, f = f0 + 1 := ⟨f - 1, by omega⟩
     refine uAf ?_;refine yT (Hl.le_trans leA leB) ?_;refine fR ⟨true,hw.tag,decide (x.1=gY)⟩ x.2 ⟨hok4,ht,f0,by omega,?_⟩ aI (.cons 0 rfl (.cons 1 rfl (.cons 7 rfl (.cons 8 rfl .nil)))) rfl (fun _ h=>h)
     simp only[hx,iL,g28,g49,if_neg hcond,if_neg g75,hr3,hx4,↓reduceIte])
  have g28:¬st2.2.kind=2:=by omega
  refine zz13 ?_;refine uAs ?_;rintro _ K _ ⟨rfl,rfl⟩ -;refine zz7 ?_;refine gV (fun(fn:FuncId)=>∀x:List UInt8,x.length≤600→Sp Tryz.prog fn [str x] K [] (Val (i64 (qA op x)) K)) (fun fn=>[(0,ptr b),(7,ptr b7),(10,.func (.func fn) #[] #[])]) (fun _=>K) (fun _=>[pt b7 (aZ [i64 (if 1>hw.tag then 1 else hw.tag),.bool hw.oct,i64 op,.slice none 0 0,.slice none 0 0] 380),psb b s st2 (nv::rest)]) ?_ ?_
  · refine zz6 ?_;refine bK 92 rfl (fun h92=>?_) (fun h92=>?_)
    · refine zz3 ?_;exact cN 265 (fun x hx=>by rw[bTX h92];exact aTM x _ aI) (.cons 0 rfl (.cons 7 rfl (.cons 10 rfl .nil))) rfl (fun _ h=>h)
    refine aW ?_;exact cN 177 (fun x hx=>by rw[bTW h92];exact qZ x _) (.cons 0 rfl (.cons 7 rfl (.cons 10 rfl .nil))) rfl (fun _ h=>h)
  intro fn hfn;refine zz4 ?_;refine bL rfl rfl (xG b s st2 (nv::rest) fn #[] (qA op) _ hs hok2 hg hfn) (.cons (.there .here) .nil) rfl (fun _ _=>bQ _ _) ?_ ?_
  · rintro _ _ _ hTr le1;obtain⟨e,p,ha1,fb,h,rfl⟩:=bR hTr;cases h
    refine uAa ?_;refine zz2 ?_;simp only[hx,iL,pZ,g28,ha1,↓reduceIte];exact⟨fb,rfl,rfl⟩
  rintro _ K _ hTr -;obtain⟨va,ha1,rfl,rfl⟩:=bS hTr;clear hTr;have hok3:=(q8 hok2 ha1).1;refine gX fun K1 leA hA=>?_;have oA:=hA.one;refine zz1 ?_;refine cA (bP iS rfl rfl cJ bF (.succ (.succ (.succ .zero))) rfl) ?_;rintro _ K _ ⟨rfl,rfl⟩ -;refine zz5 ?_;refine bL rfl rfl (xG b s va.2 (nv::rest) 177 #[] (fun _=>0) _ hs hok3 (hg.mono leA) (fun x hx=>qZ x _)) (.cons .here .nil) rfl (fun _ _=>bQ _ _) ?_ ?_
  · rintro _ _ _ hTr le1;obtain⟨e,p,hb1,fb,h,rfl⟩:=bR hTr;cases h
    refine uAa ?_;refine aP ?_;refine bX (Hl.le_trans leA le1) ?_;simp only[hx,iL,pZ,g28,ha1,hb1,↓reduceIte];exact⟨fb,rfl,rfl⟩
  rintro _ K _ hTr -;obtain⟨vb,hb1,rfl,rfl⟩:=bS hTr;clear hTr;refine gX fun K2 leB hB=>?_;have oB:=hB.one;refine zz1 ?_;refine uBe ?_;rintro _ K _ ⟨rfl,rfl⟩ -;refine zz5 ?_;refine aA (cY Tryz.underlying380 (fun _ h=>by cases h) rfl) rfl ?_;refine zz4 ?_;refine uAa ?_;refine bD rfl rfl (Hl.le_trans leA leB) ?_;simp only[hx,iL,pZ,g28,ha1,hb1,↓reduceIte];exact⟨_,rfl,⟨_,_,rfl,_,_,hA.mono leB,hB,rfl⟩,rfl⟩
end Go.Proofs
end
section
namespace Go.Syn
def AdvE{α:Type}(s:aJ)(T:St→Res (α×St)):Prop:=∀st r,Ok s st→T st=.ok r→Ok s r.2∧mu s r.2≤mu s st
variable{s:aJ}
theorem i8{st r:St}(hok:Ok s st)(hk:st.2.kind≠0)(h:next s st.1=.ok r):Ok s r∧mu s r < mu s st:=⟨gG hok.1 h,(lR hok.1 hk h).1⟩
theorem vZ{st:St}{k:Nat}{texts:List aJ}{r:Word×St}(hok:Ok s st)(hk:k≠0)(h:take s st k texts=.ok r):Ok s r.2∧mu s r.2 < mu s st:=⟨aE5 hok.1 h,(aRF hok.1 hk h).1⟩
theorem jO{st r:St}{x:aJ}(hok:Ok s st)(h:sign s st x=.ok r):Ok s r∧mu s r < mu s st:=⟨aIU hok.1 h,(aBG hok.1 h).1⟩
theorem aAY{st:St}{x:aJ}{r:Bool×St}(hok:Ok s st)(h:eat s st x=.ok r):Ok s r.2∧mu s r.2≤mu s st:=⟨aFR hok h,(yX hok.1 h).2.1⟩
theorem oQ{st:St}{ff:aJ→Int}{r:aJ×St}(hok:Ok s st)(h:text s st ff=.ok r):Ok s r.2∧mu s r.2 < mu s st:=⟨qE hok.1 h,(oY hok.1 h).1⟩
theorem aON:∀ {f:Nat} {h:How} {st:St} {r:How×St},Ok s st→iL s f h st=.ok r→Ok s r.2∧mu s r.2≤mu s st:=by
 intro f;induction f with
 |zero=>intro h st r _ e;cases e
 |succ f ih=>
  intro h st r hok e;simp only[iL]at e;split at e
  ·rename_i hk;split at e
   ·cases e
   split at e
   ·cases e
   split at e
   ·grind [Ok,i8]
   split at e
   ·cases e
   rename_i q hq;have h1:=i8 hok aI hq;split at e <;> grind [Ok,i8,oQ]
  cases e;exact⟨hok,Nat.le_refl _⟩
theorem aCP{needs:List aJ}{op:Int}{ext:aJ}:AdvN s (mN s needs op ext):=by
 intro st r hok hk e;unfold mN at e;split at e
 ·cases e
 split at e
 ·cases e
 rename_i q hq;have h1:=i8 hok hk hq;unfold pZ at e;split at e
 ·cases e
 rename_i h hh;have h2:=aON h1.1 hh;split at e
 ·cases e
 rename_i a ha;have h3:=q8 h2.1 ha;split at e
 ·cases e
 rename_i b hb;have h4:=q8 h3.1 hb;cases e
 exact⟨h4.1,by simp only[];omega⟩
theorem zU{c:Tree}:AdvN s (lG s c):=by
 intro st r hok hk e;unfold lG at e;split at e
 ·cases e
 rename_i q hq;have h1:=i8 hok hk hq;split at e
 ·cases e
 rename_i x hx;have h2:=jO h1.1 hx;cases e
 exact⟨h2.1,by simp only[];omega⟩
theorem aI0{needs:List aJ}{k:Int}{ext:aJ}{p:Int}:AdvN s (actC s needs k ext p):=by
 intro st r hok hk e;unfold actC at e;split at e
 ·cases e
 split at e
 ·cases e
 rename_i q hq;have h1:=i8 hok hk hq;split at e
 ·cases e
 rename_i x hx;have h2:=vZ h1.1 (by decide) hx;split at e
 ·cases e
 rename_i y hy;have h3:=jO h2.1 hy;cases e
 exact⟨h3.1,by simp only[];omega⟩
theorem aJF{b:Bool}:AdvN s (oI s b):=by
 intro st r hok hk e;unfold oI at e;split at e
 ·cases e
 rename_i q hq;have h1:=i8 hok hk hq;cases e
 exact⟨h1.1,by simp only[];omega⟩
theorem aSV:AdvN s (oU s):=by
 intro st r hok hk e;unfold oU at e;split at e
 ·cases e
 rename_i q hq;have h1:=i8 hok hk hq;split at e
 ·cases e
 rename_i a ha;have h3:=q8 h1.1 ha;cases e
 exact⟨h3.1,by simp only[];omega⟩
theorem bEE:AdvN s (tY s):=by
 intro st r hok hk e;unfold tY at e;split at e
 ·cases e
 rename_i q hq;have h1:=i8 hok hk hq;split at e
 ·cases e
 rename_i x hx;have h2:=vZ h1.1 (by decide) hx;split at e
 ·cases e
 rename_i y hy;have h3:=vZ h2.1 (by decide) hy;cases e
 exact⟨h3.1,by simp only[];omega⟩
theorem bIW{T:St→Res (Tree×St)}(hT:Adv s T):AdvN s (notC s T):=by
 intro st r hok hk e;unfold notC at e;split at e
 ·cases e
 rename_i q hq;have h1:=i8 hok hk hq;split at e
 ·cases e
 rename_i t ht;have h2:=hT _ _ h1.1 ht;cases e
 exact⟨h2.1,by simp only[];omega⟩
theorem bC0{T:St→Res (Tree×St)}(hT:Adv s T):∀ {f:Nat} {acc:Tree} {st:St} {r:Tree×St},Ok s st→rK s T f acc st=.ok r→Ok s r.2∧mu s r.2≤mu s st:=by
 intro f;induction f with
 |zero=>intro acc st r _ e;cases e
 |succ f ih=>
  intro acc st r hok e;simp only[rK]at e;split at e
  ·cases e
  rename_i q hq;have h1:=aAY hok hq;split at e
  ·grind [Adv,Ok]
  grind [Adv,Ok,jO]
theorem aNQ{T:St→Res (Tree×St)}{all:Bool}(hT:Adv s T):AdvN s (qH s T all):=by
 intro st r hok hk e;unfold qH at e;split at e
 ·cases e
 rename_i q hq;have h1:=i8 hok hk hq;split at e
 ·cases e
 rename_i x hx;have h2:=jO h1.1 hx;split at e
 ·cases e
 rename_i t ht;have h3:=hT _ _ h2.1 ht;unfold aA8 at e;split at e
 ·cases e
 rename_i l hl;have h4:=bC0 hT h3.1 hl;cases e
 exact⟨h4.1,by simp only[];omega⟩
theorem bEW{needs:List aJ}{T:St→Res (Tree×St)}(hT:Adv s T){st:St}{r:Tree×St}(hok:Ok s st)(hk:st.2.kind≠0)(e:qI s needs T st=some (.ok r)):Ok s r.2∧mu s r.2 < mu s st:=by
 unfold qI at e;simp only[]at e;split at e
 ·exact aJF _ _ hok hk gAK
 split at e
 ·exact aJF _ _ hok hk gAK
 split at e
 ·exact bIW hT _ _ hok hk gAK
 split at e
 ·exact aNQ hT _ _ hok hk gAK
 split at e
 ·exact aNQ hT _ _ hok hk gAK
 split at e
 ·exact aCP _ _ hok hk gAK
 split at e
 ·exact aCP _ _ hok hk gAK
 split at e
 ·exact aCP _ _ hok hk gAK
 split at e
 ·exact aSV _ _ hok hk gAK
 split at e
 ·exact bEE _ _ hok hk gAK
 cases e
theorem rO{needs:List aJ}:∀n,Adv s (test s needs n):=by
 intro n;induction n with
 |zero=>intro st r hok e;simp only[test]at e;split at e <;> cases e
 |succ n ih=>
  intro st r hok e;simp only[test]at e;split at e <;> grind [test,Adv,bEW]
theorem pF{B:St→Res (Tree×St)}(hB:AdvE s B):Adv s (bodyC s B):=by
 intro st r hok e;unfold bodyC at e;split at e
 ·cases e
 rename_i q hq;have h1:=jO hok hq;split at e
 ·cases e
 rename_i b hb;have h2:=hB _ _ h1.1 hb;split at e
 ·cases e
 rename_i y hy;have h3:=jO h2.1 hy;cases e
 exact⟨h3.1,by simp only[];omega⟩
theorem bBR{B:St→Res (Tree×St)}(hB:AdvE s B){acc:Tree}:AdvE s (nH s B acc):=by
 intro st r hok e;unfold nH at e;split at e
 ·rename_i hk;split at e
  ·cases e
  rename_i q hq;have h1:=i8 hok aI hq;split at e
  ·cases e
  rename_i b hb;have h2:=pF hB _ _ h1.1 hb;cases e
  exact⟨h2.1,by simp only[];omega⟩
 cases e;exact⟨hok,Nat.le_refl _⟩
theorem aWU{T B:St→Res (Tree×St)}(hT:Adv s T)(hB:AdvE s B):∀ {f:Nat} {acc:Tree} {st:St} {r:Tree×St},Ok s st→iV s T B f acc st=.ok r→Ok s r.2∧mu s r.2≤mu s st:=by
 intro f;induction f with
 |zero=>intro acc st r _ e;cases e
 |succ f ih=>
  intro acc st r hok e;simp only[iV]at e;split at e <;> grind [iV,Adv,AdvE,Ok,i8,pF,bBR]
theorem bM2{T B:St→Res (Tree×St)}(hT:Adv s T)(hB:AdvE s B):AdvN s (ifC s T B):=by
 intro st r hok hk e;unfold ifC at e;split at e
 ·cases e
 rename_i q hq;have h1:=i8 hok hk hq;split at e
 ·cases e
 rename_i t ht;have h2:=hT _ _ h1.1 ht;split at e
 ·cases e
 rename_i b hb;have h3:=pF hB _ _ h2.1 hb;have:=aWU hT hB h3.1 e;exact⟨this.1,by omega⟩
theorem aUT{needs:List aJ}:AdvN s (setC s needs):=by
 intro st r hok hk e;unfold setC at e;split at e
 ·split at e
  ·cases e
  rename_i q hq;have h1:=i8 hok hk hq;split at e
  ·cases e
  rename_i t ht;have h2:Ok s t.2∧mu s t.2≤mu s q:=by
   unfold pB at ht;split at ht
   ·rename_i hk2;split at ht
    ·cases ht
    split at ht
    ·cases ht
    rename_i x hx;cases ht
    have:=i8 h1.1 aI hx;exact⟨this.1,by simp only[];omega⟩
   cases ht;exact⟨h1.1,Nat.le_refl _⟩
  unfold oX at e;split at e
  ·cases e
  rename_i n hn;have h3:=oQ h2.1 hn;split at e
  ·cases e
  rename_i v hv;have h4:=oQ h3.1 hv;split at e
  ·cases e
  rename_i y hy;have h5:=jO h4.1 hy;cases e
  exact⟨h5.1,by simp only[];omega⟩
 cases e
theorem bD8{needs:List aJ}:AdvN s (yF s needs):=by
 grind [yF,AdvN,aUT]
theorem aJE{needs:List aJ}{T B:St→Res (Tree×St)}(hT:Adv s T)(hB:AdvE s B){st:St}{r:Tree×St}(hok:Ok s st)(hk:st.2.kind≠0)(e:cmdD s needs T B st=some (.ok r)):Ok s r.2∧mu s r.2 < mu s st:=by
 unfold cmdD at e;simp only[]at e;split at e
 ·exact zU _ _ hok hk gAK
 split at e
 ·exact zU _ _ hok hk gAK
 split at e
 ·exact zU _ _ hok hk gAK
 split at e
 ·exact aI0 _ _ hok hk gAK
 split at e
 ·exact aI0 _ _ hok hk gAK
 split at e
 ·exact aI0 _ _ hok hk gAK
 split at e
 ·exact bD8 _ _ hok hk gAK
 split at e
 ·exact bM2 hT hB _ _ hok hk gAK
 cases e
theorem aWB{C:St→Option (Res (Tree×St))}(hC:∀ {st r},Ok s st→st.2.kind≠0→C st=some (.ok r)→Ok s r.2∧mu s r.2 < mu s st):∀ {f:Nat} {acc:Tree} {st:St} {r:Tree×St},Ok s st→kI s C f acc st=.ok r→Ok s r.2∧mu s r.2≤mu s st:=by
 intro f;induction f <;> grind [kI,Ok]
theorem aAQ{needs:List aJ}:∀n,AdvE s (block s needs n):=by
 intro n;induction n with
 |zero=>grind [block,AdvE]
 |succ n ih=>
  intro st r hok e;simp only[block]at e;exact aWB (fun h1 h2 h3=>aJE (rO n) ih h1 h2 h3) hok e
end Go.Syn
namespace Go.Syn
variable{s:aJ}
theorem bCJ{ff:aJ→Int}:∀ {f:Nat} {st:St} {acc:List aJ} {r:List aJ×St},Ok s st→pY s ff f st acc=.ok r→r.1.length+mu s r.2≤acc.length+mu s st:=by
 intro f;induction f with
 |zero=>intro st acc r _ h;cases h
 |succ f ih=>
  intro st acc r hok h;simp only[pY]at h;split at h
  ·cases h
  rename_i q hq;have h1:=aAY hok hq;split at h
  ·split at h
   ·cases h
   rename_i x hx;have h2:=oQ h1.1 hx;have:=ih h2.1 h;simp at this;omega
  split at h
  ·cases h
  rename_i y hy;have h2:=jO h1.1 hy;cases h
  simp only[];omega
theorem zJ{ff:aJ→Int}{st:St}{r:List aJ×St}(hok:Ok s st)(h:list s st ff=.ok r):r.1.length+mu s r.2≤mu s st:=by
 unfold list at h;split at h
 ·cases h
 rename_i q hq;have h1:=aAY hok hq;split at h
 ·cases h
 rename_i x hx;have h2:=oQ h1.1 hx;split at h
 ·have:=bCJ h2.1 h;simp at this;omega
 cases h;simp only[List.length_singleton];omega
theorem bFO(ns:List aJ)(e:aJ):(addN ns e).length≤ns.length+1:=by unfold addN;split <;> simp
theorem aBW{ns l:List aJ}{i:Nat}{e:aJ}(h:l[i]?=some e):gL ns (l.take (i+1))=addN (gL ns (l.take i)) e:=by
 have hi:i < l.length:=by
  rcases Nat.lt_or_ge i l.length with h'|h'
  ·exact h'
  simp[List.getElem?_eq_none h']at h
 have hc:l[i]=e:=by simpa[List.getElem?_eq_getElem hi]using h
 rw[List.take_succ_eq_append_getElem hi,hc];simp[gL]
theorem aO9{ns l:List aJ}{i:Nat}(h:l.length≤i):gL ns (l.take i)=gL ns l:=by rw[List.take_of_length_le h]
end Go.Syn
end
section
attribute [local irreducible] Go.SL.T Go.SL.OL Go.SL.D Go.SL.DL Go.SL.Ev Go.SL.Ef Go.SL.EfS
namespace Go.Proofs
open Go Go.SL Go.Syn
def RT(s:List UInt8)(b:Nat)(rest:List Value)(r:Res (Tree×St)):Ending→Hl→List Asn→Prop:=jX r fun r v K' L'=>Rep1 K' r.1 v∧L'=[psb b s r.2 rest]
theorem aUG(K:Hl)(k:Int)(a:List UInt8)(p:Int):Rep1 K (.act k a p) (.iface 282 (.agg #[i64 k,str a,i64 p])):=⟨_,_,rfl,rfl⟩
theorem aK9(K:Hl)(op:Int):Rep1 K (.plain op) (.iface 285 (.agg #[i64 op])):=⟨_,_,rfl,rfl⟩
theorem bOG(at_:Int)(K:Hl):Sp Tryz.prog 159 [i64 at_] K [] (Val (.iface 282 (.agg #[i64 1,str [],i64 at_])) K):=by
 refine a8 Tryz.func159 rfl Tryz.ntmps159 rfl rfl fun F w=>?_;refine zz8 ?_;refine aA (cL bPW bKV (.cons rfl rfl rfl (.cons .nil) (.cons rfl rfl rfl (.skip (.skip (.cons .nil))) .nil))) rfl ?_;refine aA (cY Tryz.underlying282 (fun _ h=>by cases h) rfl) rfl ?_;refine zz5 ?_;exact⟨rfl,rfl,rfl⟩
theorem bOH(at_:Int)(K:Hl):Sp Tryz.prog 160 [i64 at_] K [] (Val (.iface 285 (.agg #[i64 13])) K):=by
 refine a8 Tryz.func160 rfl Tryz.ntmps160 rfl rfl fun F w=>?_;refine zz7 ?_;refine aA (cL bPX bKW (.cons rfl rfl rfl (.cons .nil) .nil)) rfl ?_;refine aA (cY Tryz.underlying285 (fun _ h=>by cases h) rfl) rfl ?_;refine zz5 ?_;exact⟨rfl,rfl,rfl⟩
theorem bOI(at_:Int)(K:Hl):Sp Tryz.prog 161 [i64 at_] K [] (Val (.iface 285 (.agg #[i64 14])) K):=by
 refine a8 Tryz.func161 rfl Tryz.ntmps161 rfl rfl fun F w=>?_;refine zz7 ?_;refine aA (cL bPX bKW (.cons rfl rfl rfl (.cons .nil) .nil)) rfl ?_;refine aA (cY Tryz.underlying285 (fun _ h=>by cases h) rfl) rfl ?_;refine zz5 ?_;exact⟨rfl,rfl,rfl⟩
theorem xP(b:Nat)(s:List UInt8)(st:St)(at_ dp:Int)(rest:List Value)(b1:Nat)(fn:FuncId)(v:Value)(c:Tree)(K:Hl)(hs:s.length≤600)(hok:Ok s st)(hg:Glob K)
  (h1:K b1=some (aZ [.func (.func fn) #[] #[]] 283)) (hfn:∀K,Sp Tryz.prog fn [i64 at_] K [] (Val v K)) (hc:∀K,Rep1 K c v):
  Sp Tryz.prog 259 [ptr b,i64 at_,i64 dp,ptr b1] K [psb b s st rest] (RT s b rest (lG s c st)):=by
 have ha:=hok.1;refine a8 Tryz.func259 rfl Tryz.ntmps259 rfl rfl fun F w=>?_;refine zz10 ?_;refine bL rfl rfl (eS b 208 s st.1 _ _ _ _ rest hs ha _ hg) (.cons .here .nil) rfl (fun _ _=>bQ _ _) ?_ ?_
 ·rintro _ _ _ hTr le1;obtain⟨e,p,hr,fb,h,rfl⟩:=bR hTr;cases h
  refine uAa ?_;refine zz2 ?_;simp only[RT,lG,hr];exact⟨fb,rfl,rfl⟩
 rintro _ K _ hTr -;obtain⟨r,hr,rfl,rfl,rfl⟩:=bS hTr;clear hTr;have hro:=gG ha hr;refine zz5 ?_;refine bL rfl rfl (nM b s r rest [59] _ hs hro.1 hg) (.cons .here .nil) rfl (fun _ _=>bQ _ _) ?_ ?_
 ·rintro _ _ _ hTr le1;obtain⟨e,p,hq,fb,h,rfl⟩:=bR hTr;cases h
  refine uAa ?_;refine zz2 ?_;simp only[RT,lG,hr,hq];exact⟨fb,rfl,rfl⟩
 rintro _ K _ hTr -;obtain⟨q,hq,rfl,rfl,rfl⟩:=bS hTr;clear hTr;refine zz6 ?_;refine cF rfl rfl (hfn _) rfl ?_;refine zz4 ?_;refine uAa ?_;refine zz1 ?_;simp only[RT,lG,hr,hq];exact⟨_,rfl,hc _,rfl⟩
theorem wO(b:Nat)(s:List UInt8)(st:St)(at_ dp:Int)(nv:Value)(rest:List Value)(needs:List (List UInt8))(b1 b2:Nat)(kd:Int)(ext:List UInt8)(K:Hl)(hs:s.length≤600)(hok:Ok s st)(hg:Glob K)(hv:Ksl (bN 9) K nv needs)(hn:needs.length≤1000000)
  (h1:K b1=some (aZ [str ext] 9)) (h2:K b2=some (aZ [i64 kd] 3)):
  Sp Tryz.prog 260 [ptr b,i64 at_,i64 dp,ptr b1,ptr b2] K [psb b s st (nv::rest)] (RT s b (nv::rest) (actC s needs kd ext at_ st)):=by
 have ha:=hok.1;refine a8 Tryz.func260 rfl Tryz.ntmps260 rfl rfl fun F w=>?_;refine zz5 ?_;refine gV (fun(_:Unit)=>¬(ext≠[]∧ext∉needs)) (fun _=>[(0,ptr b),(1,i64 at_),(4,ptr b2)]) (fun _=>K) (fun _=>[psb b s st (nv::rest)]) ?_ ?_
 ·refine zz2 ?_;refine aA (aL ts9 rfl (.known h1) rfl) rfl ?_;refine zz3 ?_;refine bK 11 rfl (fun h11=>?_) (fun h11=>?_)
  ·refine zz2 ?_;refine aA (aL ts9 rfl (.known h1) rfl) rfl ?_;refine bL rfl rfl (aCV b s st nv rest needs ext _ hv hn) (.cons .here .nil) rfl (fun _ _=>bQ _ _) ?_ ?_
   ·rintro _ _ _ hTr le1;obtain⟨e,p,hu,fb,h,rfl⟩:=bR hTr;cases h
    refine uAa ?_;refine zz2 ?_;have hm:¬ext∈needs:=gAW;rw[if_neg hm]at hu;cases hu
    unfold RT actC;rw[if_pos ⟨h11,hm⟩];exact⟨fb,rfl,rfl⟩
   rintro _ K _ hTr -;obtain⟨u0,hu,rfl,rfl,rfl⟩:=bS hTr;clear hTr;have hm:ext∈needs:=Classical.byContradiction (fun h=>by rw[if_neg h]at hu;cases hu);have hne:¬(ext≠[]∧ext∉needs):=fun h=>h.2 hm
   refine aG ?_;exact cN () hne (.cons 0 rfl (.cons 1 rfl (.cons 4 rfl .nil))) rfl (fun _ h=>h)
  have hne:¬(ext≠[]∧ext∉needs):=fun h=>h11 h.1
  refine aW ?_;exact cN () hne (.cons 0 rfl (.cons 1 rfl (.cons 4 rfl .nil))) rfl (fun _ h=>h)
 intro _ hne;refine zz5 ?_;refine bL rfl rfl (eS b 208 s st.1 _ _ _ _ (nv::rest) hs ha _ hg) (.cons .here .nil) rfl (fun _ _=>bQ _ _) ?_ ?_
 ·rintro _ _ _ hTr le1;obtain⟨e,p,hr,fb,h,rfl⟩:=bR hTr;cases h
  refine uAa ?_;refine zz2 ?_;simp only[RT,actC,if_neg hne,hr];exact⟨fb,rfl,rfl⟩
 rintro _ K _ hTr -;obtain⟨r,hr,rfl,rfl,rfl⟩:=bS hTr;clear hTr;have hro:=gG ha hr;refine zz5 ?_;refine bL rfl rfl (qV b s r (nv::rest) 3 _ [] _ hs hro.1 hg (.inl ⟨none,0,rfl,rfl⟩) (by simp)) (.cons .here .nil) rfl (fun _ _=>bQ _ _) ?_ ?_
 ·rintro _ _ _ hTr le1;obtain⟨e,p,hx,fb,h,rfl⟩:=bR hTr;cases h
  refine uAa ?_;refine zz2 ?_;simp only[RT,actC,if_neg hne,hr,hx];exact⟨fb,rfl,rfl⟩
 rintro _ K _ hTr -;obtain⟨x,hx,rfl,rfl,rfl⟩:=bS hTr;clear hTr;have hxo:=aE5 hro.1 hx;refine zz7 ?_;refine bL rfl rfl (nM b s x.2 (nv::rest) [59] _ hs hxo.1 hg) (.cons .here .nil) rfl (fun _ _=>bQ _ _) ?_ ?_
 ·rintro _ _ _ hTr le1;obtain⟨e,p,hq,fb,h,rfl⟩:=bR hTr;cases h
  refine uAa ?_;refine zz2 ?_;simp only[RT,actC,if_neg hne,hr,hx,hq];exact⟨fb,rfl,rfl⟩
 rintro _ K _ hTr -;obtain⟨q,hq,rfl,rfl,rfl⟩:=bS hTr;clear hTr;refine zz4 ?_;refine aA (aL ts3 rfl (.known h2) rfl) rfl ?_;refine zz2 ?_;refine aA (cL bPW bKV (.cons rfl rfl rfl (.cons .nil) (.cons rfl rfl rfl (.skip (.cons .nil)) (.cons rfl rfl rfl (.skip (.skip (.cons .nil))) .nil)))) rfl ?_;refine aA (cY Tryz.underlying282 (fun _ h=>by cases h) rfl) rfl ?_;refine zz4 ?_;refine uAa ?_;refine zz1 ?_;simp only[RT,actC,if_neg hne,hr,hx,hq];exact⟨_,rfl,aUG _ _ _ _,rfl⟩
theorem bE6(b:Nat)(s:List UInt8)(st:St)(dp:Int)(rest:List Value)(K:Hl)(hs:s.length≤600)(hok:Ok s st)(hg:Glob K):Sp Tryz.prog 165 [ptr b,i64 dp] K [psb b s st rest] (RT s b rest (oI s true st)):=by
 have ha:=hok.1;refine a8 Tryz.func165 rfl Tryz.ntmps165 rfl rfl fun F w=>?_;refine zz10 ?_;refine bL rfl rfl (eS b 208 s st.1 _ _ _ _ rest hs ha _ hg) (.cons .here .nil) rfl (fun _ _=>bQ _ _) ?_ ?_
 ·rintro _ _ _ hTr le1;obtain⟨e,p,hr,fb,h,rfl⟩:=bR hTr;cases h
  refine uAa ?_;refine zz2 ?_;simp only[RT,oI,hr];exact⟨fb,rfl,rfl⟩
 rintro _ K _ hTr -;obtain⟨r,hr,rfl,rfl,rfl⟩:=bS hTr;clear hTr;refine zz4 ?_;refine aA (cY Tryz.underlying289 (fun _ h=>by cases h) rfl) rfl ?_;refine zz4 ?_;refine uAa ?_;refine zz1 ?_;simp only[RT,oI,hr];exact⟨_,rfl,⟨_,_,rfl,rfl⟩,rfl⟩
theorem aW6(b:Nat)(s:List UInt8)(st:St)(dp:Int)(rest:List Value)(K:Hl)(hs:s.length≤600)(hok:Ok s st)(hg:Glob K):Sp Tryz.prog 166 [ptr b,i64 dp] K [psb b s st rest] (RT s b rest (oI s false st)):=by
 have ha:=hok.1;refine a8 Tryz.func166 rfl Tryz.ntmps166 rfl rfl fun F w=>?_;refine zz10 ?_;refine bL rfl rfl (eS b 208 s st.1 _ _ _ _ rest hs ha _ hg) (.cons .here .nil) rfl (fun _ _=>bQ _ _) ?_ ?_
 ·rintro _ _ _ hTr le1;obtain⟨e,p,hr,fb,h,rfl⟩:=bR hTr;cases h
  refine uAa ?_;refine zz2 ?_;simp only[RT,oI,hr];exact⟨fb,rfl,rfl⟩
 rintro _ K _ hTr -;obtain⟨r,hr,rfl,rfl,rfl⟩:=bS hTr;clear hTr;refine zz4 ?_;refine aA (cY Tryz.underlying289 (fun _ h=>by cases h) rfl) rfl ?_;refine zz4 ?_;refine uAa ?_;refine zz1 ?_;simp only[RT,oI,hr];exact⟨_,rfl,⟨_,_,rfl,rfl⟩,rfl⟩
theorem aSX(b:Nat)(s:List UInt8)(st:St)(dp:Int)(rest:List Value)(K:Hl)(hs:s.length≤600)(hok:Ok s st)(hg:Glob K):Sp Tryz.prog 176 [ptr b,i64 dp] K [psb b s st rest] (RT s b rest (oU s st)):=by
 have ha:=hok.1;refine a8 Tryz.func176 rfl Tryz.ntmps176 rfl rfl fun F w=>?_;refine zz10 ?_;refine bL rfl rfl (eS b 208 s st.1 _ _ _ _ rest hs ha _ hg) (.cons .here .nil) rfl (fun _ _=>bQ _ _) ?_ ?_
 ·rintro _ _ _ hTr le1;obtain⟨e,p,hr,fb,h,rfl⟩:=bR hTr;cases h
  refine uAa ?_;refine zz2 ?_;simp only[RT,oU,hr];exact⟨fb,rfl,rfl⟩
 rintro _ K _ hTr -;obtain⟨r,hr,rfl,rfl,rfl⟩:=bS hTr;clear hTr;have hro:=gG ha hr;refine zz5 ?_;refine bL rfl rfl (xG b s r rest 177 #[] (fun _=>0) _ hs hro hg (fun x hx=>qZ x _)) (.cons .here .nil) rfl (fun _ _=>bQ _ _) ?_ ?_
 ·rintro _ _ _ hTr le1;obtain⟨e,p,ha1,fb,h,rfl⟩:=bR hTr;cases h
  refine uAa ?_;refine zz2 ?_;simp only[RT,oU,hr,ha1];exact⟨fb,rfl,rfl⟩
 rintro _ K _ hTr -;obtain⟨va,ha1,rfl,rfl⟩:=bS hTr;clear hTr;refine gX fun K1 leA hA=>?_;obtain⟨sa,sn,sc,rfl⟩:=hA.isSlice;refine aA (cL bUQ bSH (.cons rfl rfl rfl (.cons .nil) .nil)) rfl ?_;refine aA (cY Tryz.underlying297 (fun _ h=>by cases h) rfl) rfl ?_;refine zz4 ?_;refine uAa ?_;refine bD rfl rfl (by first|exact leA|exact Hl.le_refl _) ?_;simp only[RT,oU,hr,ha1];exact⟨_,rfl,⟨_,_,rfl,_,hA,rfl⟩,rfl⟩
theorem bEG(b:Nat)(s:List UInt8)(st:St)(dp:Int)(rest:List Value)(K:Hl)(hs:s.length≤600)(hok:Ok s st)(hg:Glob K):Sp Tryz.prog 178 [ptr b,i64 dp] K [psb b s st rest] (RT s b rest (tY s st)):=by
 have ha:=hok.1;refine a8 Tryz.func178 rfl Tryz.ntmps178 rfl rfl fun F w=>?_;refine zz10 ?_;refine bL rfl rfl (eS b 208 s st.1 _ _ _ _ rest hs ha _ hg) (.cons .here .nil) rfl (fun _ _=>bQ _ _) ?_ ?_
 ·rintro _ _ _ hTr le1;obtain⟨e,p,hr,fb,h,rfl⟩:=bR hTr;cases h
  refine uAa ?_;refine zz2 ?_;simp only[RT,tY,hr];exact⟨fb,rfl,rfl⟩
 rintro _ K _ hTr -;obtain⟨r,hr,rfl,rfl,rfl⟩:=bS hTr;clear hTr;have hro:=gG ha hr;refine zz11 ?_;refine cC (bH (z0:=[(str []),(str [])]) cG tz9 rfl rfl rfl rfl (.cons rfl rfl rfl (.cons .nil) (.cons rfl rfl rfl (.skip (.cons .nil)) .nil))) rfl ?_;rintro _ K _ ⟨b11,rfl,rfl,rfl⟩ -;refine fT fun K1 leA hK1=>?_;refine bL rfl rfl (qV b s r rest 2 _ [uF,mQ] _ hs hro.1 (hg.mono leA) (.inr ⟨b11,0,2,[str uF,str mQ],(0,0),rfl,⟨_,hK1⟩,rfl⟩) (by simp)) (.cons .here .nil) rfl (fun _ _=>bQ _ _) ?_ ?_
 ·rintro _ _ _ hTr le1;obtain⟨e,p,hx,fb,h,rfl⟩:=bR hTr;cases h
  refine uAa ?_;refine zz2 ?_;refine bX (Hl.le_trans leA le1) ?_;simp only[RT,tY,hr,hx];exact⟨fb,rfl,rfl⟩
 rintro _ K _ hTr -;obtain⟨x,hx,rfl,rfl,rfl⟩:=bS hTr;clear hTr;have hxo:=aE5 hro.1 hx;refine zz4 ?_;refine bK 14 rfl (fun h14=>?_) (fun h14=>?_)
 ·have g14:x.1.s=mQ:=h14;refine zz8 ?_;refine bL rfl rfl (qV b s x.2 rest 4 _ [] _ hs hxo.1 (hg.mono leA) (.inl ⟨none,0,rfl,rfl⟩) (by simp)) (.cons .here .nil) rfl (fun _ _=>bQ _ _) ?_ ?_
  ·rintro _ _ _ hTr le1;obtain⟨e,p,hy,fb,h,rfl⟩:=bR hTr;cases h
   refine uAa ?_;refine aP ?_;refine bX (Hl.le_trans leA le1) ?_;simp only[RT,tY,hr,hx,hy];exact⟨fb,rfl,rfl⟩
  rintro _ K _ hTr -;obtain⟨y,hy,rfl,rfl,rfl⟩:=bS hTr;clear hTr;refine zz1 ?_;refine aA (cL bPZ bKX (.cons rfl rfl rfl (.cons .nil) (.cons rfl rfl rfl (.skip (.cons .nil)) .nil))) rfl ?_;refine aA (cY Tryz.underlying300 (fun _ h=>by cases h) rfl) rfl ?_;refine zz4 ?_;refine uAa ?_;refine bD rfl rfl leA ?_;simp only[RT,tY,hr,hx,if_pos g14,hy];exact⟨_,rfl,⟨_,_,rfl,rfl⟩,rfl⟩
 have g14:¬x.1.s=mQ:=h14;refine zz6 ?_;refine bL rfl rfl (qV b s x.2 rest 4 _ [] _ hs hxo.1 (hg.mono leA) (.inl ⟨none,0,rfl,rfl⟩) (by simp)) (.cons .here .nil) rfl (fun _ _=>bQ _ _) ?_ ?_
 ·rintro _ _ _ hTr le1;obtain⟨e,p,hy,fb,h,rfl⟩:=bR hTr;cases h
  refine uAa ?_;refine aP ?_;refine bX (Hl.le_trans leA le1) ?_;simp only[RT,tY,hr,hx,hy];exact⟨fb,rfl,rfl⟩
 rintro _ K _ hTr -;obtain⟨y,hy,rfl,rfl,rfl⟩:=bS hTr;clear hTr;refine zz1 ?_;refine aA (cL bPZ bKX (.cons rfl rfl rfl (.cons .nil) (.cons rfl rfl rfl (.skip (.cons .nil)) .nil))) rfl ?_;refine aA (cY Tryz.underlying300 (fun _ h=>by cases h) rfl) rfl ?_;refine zz4 ?_;refine uAa ?_;refine bD rfl rfl leA ?_;simp only[RT,tY,hr,hx,if_neg g14,hy];exact⟨_,rfl,⟨_,_,rfl,rfl⟩,rfl⟩
theorem aS8(b:Nat)(s:List UInt8)(st:St)(dp:Int)(nv:Value)(rest:List Value)(needs:List (List UInt8))(K:Hl)(hok:Ok s st)(hp:PK s needs nv K):Sp Tryz.prog 172 [ptr b,i64 dp] K [psb b s st (nv::rest)] (RT s b (nv::rest) (mN s needs 6 [] st)):=by
 refine a8 Tryz.func172 rfl Tryz.ntmps172 rfl rfl fun F w=>?_;refine zz8 ?_;refine bL rfl rfl (aCS b s st 6 [] nv rest needs _ hp.hs hok hp.hg hp.hv hp.hn) (.cons .here .nil) rfl (fun _ _=>bQ _ _) ?_ ?_
 ·rintro _ _ _ hTr le1;obtain⟨e,p,hr,fb,h,rfl⟩:=bR hTr;cases h
  refine uAa ?_;refine zz2 ?_;simp only[RT,hr];exact⟨fb,rfl,rfl⟩
 rintro _ K1 _ hTr leK1;obtain⟨r,hr,hrep,rfl⟩:=bS hTr;clear hTr;refine zz4 ?_;refine uAa ?_;refine bD rfl rfl leK1 ?_;simp only[RT,hr];exact⟨_,rfl,hrep,rfl⟩
theorem aMH(b:Nat)(s:List UInt8)(st:St)(dp:Int)(nv:Value)(rest:List Value)(needs:List (List UInt8))(K:Hl)(hok:Ok s st)(hp:PK s needs nv K):Sp Tryz.prog 174 [ptr b,i64 dp] K [psb b s st (nv::rest)] (RT s b (nv::rest) (mN s needs 7 fF st)):=by
 refine a8 Tryz.func174 rfl Tryz.ntmps174 rfl rfl fun F w=>?_;refine zz8 ?_;refine bL rfl rfl (aCS b s st 7 fF nv rest needs _ hp.hs hok hp.hg hp.hv hp.hn) (.cons .here .nil) rfl (fun _ _=>bQ _ _) ?_ ?_
 ·rintro _ _ _ hTr le1;obtain⟨e,p,hr,fb,h,rfl⟩:=bR hTr;cases h
  refine uAa ?_;refine zz2 ?_;simp only[RT,hr];exact⟨fb,rfl,rfl⟩
 rintro _ K1 _ hTr leK1;obtain⟨r,hr,hrep,rfl⟩:=bS hTr;clear hTr;refine zz4 ?_;refine uAa ?_;refine bD rfl rfl leK1 ?_;simp only[RT,hr];exact⟨_,rfl,hrep,rfl⟩
theorem aU7(b:Nat)(s:List UInt8)(st:St)(dp:Int)(nv:Value)(rest:List Value)(needs:List (List UInt8))(K:Hl)(hok:Ok s st)(hp:PK s needs nv K):Sp Tryz.prog 175 [ptr b,i64 dp] K [psb b s st (nv::rest)] (RT s b (nv::rest) (mN s needs 8 dB st)):=by
 refine a8 Tryz.func175 rfl Tryz.ntmps175 rfl rfl fun F w=>?_;refine zz8 ?_;refine bL rfl rfl (aCS b s st 8 dB nv rest needs _ hp.hs hok hp.hg hp.hv hp.hn) (.cons .here .nil) rfl (fun _ _=>bQ _ _) ?_ ?_
 ·rintro _ _ _ hTr le1;obtain⟨e,p,hr,fb,h,rfl⟩:=bR hTr;cases h
  refine uAa ?_;refine zz2 ?_;simp only[RT,hr];exact⟨fb,rfl,rfl⟩
 rintro _ K1 _ hTr leK1;obtain⟨r,hr,hrep,rfl⟩:=bS hTr;clear hTr;refine zz4 ?_;refine uAa ?_;refine bD rfl rfl leK1 ?_;simp only[RT,hr];exact⟨_,rfl,hrep,rfl⟩
def aBV(s:List UInt8)(b:Nat)(rest:List Value)(K:Hl)(dp:Int)(Tf:St→Res (Tree×St)):Prop:=
 ∀(st:St) (K':Hl),K.le K'→Ok s st→Sp Tryz.prog 168 [ptr b,i64 dp] K' [psb b s st rest] (RT s b rest (Tf st))
theorem bIY(b:Nat)(s:List UInt8)(st:St)(dp:Int)(rest:List Value)(K:Hl)(Tf:St→Res (Tree×St))(hs:s.length≤600)(hok:Ok s st)(hg:Glob K)(hd:0≤dp∧dp≤6)(hT:aBV s b rest K (dp+1) Tf):
  Sp Tryz.prog 167 [ptr b,i64 dp] K [psb b s st rest] (RT s b rest (notC s Tf st)):=by
 have ha:=hok.1;refine a8 Tryz.func167 rfl Tryz.ntmps167 rfl rfl fun F w=>?_;refine zz10 ?_;refine bL rfl rfl (eS b 208 s st.1 _ _ _ _ rest hs ha _ hg) (.cons .here .nil) rfl (fun _ _=>bQ _ _) ?_ ?_
 ·rintro _ _ _ hTr le1;obtain⟨e,p,hr,fb,h,rfl⟩:=bR hTr;cases h
  refine uAa ?_;refine zz2 ?_;simp only[RT,notC,hr];exact⟨fb,rfl,rfl⟩
 rintro _ K _ hTr -;obtain⟨r,hr,rfl,rfl,rfl⟩:=bS hTr;clear hTr;have hro:=gG ha hr;refine zz7 ?_;refine bL rfl rfl (hT r _ (Hl.le_refl _) hro) (.cons .here .nil) rfl (fun _ _=>bQ _ _) ?_ ?_
 ·rintro _ _ _ hTr le1;obtain⟨e,p,ht,fb,h,rfl⟩:=bR hTr;cases h
  refine uAa ?_;refine zz2 ?_;simp only[RT,notC,hr,ht];exact⟨fb,rfl,rfl⟩
 rintro _ K1 _ hTr leK1;obtain⟨t,ht,⟨ty,u,rfl,hrep⟩,rfl⟩:=bS hTr;clear hTr;refine aA (cL bUP bSG (.cons rfl rfl rfl (.cons .nil) .nil)) rfl ?_;refine aA (cY Tryz.underlying293 (fun _ h=>by cases h) rfl) rfl ?_;refine zz4 ?_;refine uAa ?_;refine bD rfl rfl leK1 ?_;simp only[RT,notC,hr,ht];exact⟨_,rfl,⟨_,_,rfl,_,hrep,rfl⟩,rfl⟩
theorem bF5(b:Nat)(e:TypeId)(c:Cell):∀h,pt b (aZ [c.1] e) h→sl false (e7 e) (.slice (some ⟨b,0,none⟩) 1 1) [c] h:=
 aE0 (k:=e7 e) (xs:=[c]) (cells:=[c.1]) (Nat.le_refl _) rfl rfl (.inl (Nat.le_refl _)) (fun h=>by cases h)
theorem aNT(b:Nat)(s:List UInt8)(st:St)(all:Bool)(dp:Int)(rest:List Value)(K:Hl)(Tf:St→Res (Tree×St))(hs:s.length≤600)(hok:Ok s st)(hg:Glob K)(hd:0≤dp∧dp≤6)(hTa:Adv s Tf)(hT:aBV s b rest K (dp+1) Tf):
  Sp Tryz.prog 170 [ptr b,.bool all,i64 dp] K [psb b s st rest] (RT s b rest (qH s Tf all st)):=by
 have ha:=hok.1;refine a8 Tryz.func170 rfl Tryz.ntmps170 rfl rfl fun F w=>?_;refine zz10 ?_;refine bL rfl rfl (eS b 208 s st.1 _ _ _ _ rest hs ha _ hg) (.cons .here .nil) rfl (fun _ _=>bQ _ _) ?_ ?_
 ·rintro _ _ _ hTr le1;obtain⟨e,p,hr,fb,h,rfl⟩:=bR hTr;cases h
  refine uAa ?_;refine zz2 ?_;simp only[RT,qH,hr];exact⟨fb,rfl,rfl⟩
 rintro _ K _ hTr -;obtain⟨r,hr,rfl,rfl,rfl⟩:=bS hTr;clear hTr;have hro:=gG ha hr;refine zz5 ?_;refine bL rfl rfl (nM b s r rest [40] _ hs hro.1 hg) (.cons .here .nil) rfl (fun _ _=>bQ _ _) ?_ ?_
 ·rintro _ _ _ hTr le1;obtain⟨e,p,hq,fb,h,rfl⟩:=bR hTr;cases h
  refine uAa ?_;refine zz2 ?_;simp only[RT,qH,hr,hq];exact⟨fb,rfl,rfl⟩
 rintro _ K _ hTr -;obtain⟨q,hq,rfl,rfl,rfl⟩:=bS hTr;clear hTr;have hqo:=aIU hro.1 hq;refine zz8 ?_;refine bL rfl rfl (hT q _ (Hl.le_refl _) hqo) (.cons .here .nil) rfl (fun _ _=>bQ _ _) ?_ ?_
 ·rintro _ _ _ hTr le1;obtain⟨e,p,ht,fb,h,rfl⟩:=bR hTr;cases h
  refine uAa ?_;refine zz2 ?_;simp only[RT,qH,hr,hq,ht];exact⟨fb,rfl,rfl⟩
 rintro _ K1 _ hTr leK1;obtain⟨t,ht,⟨ty,u,rfl,hrep⟩,rfl⟩:=bS hTr;clear hTr;have hto:=(hTa _ _ hqo ht).1;refine cC (bH (z0:=[.nilIface]) u6 bP7 rfl rfl rfl rfl (.cons rfl rfl rfl (.cons .nil) .nil)) rfl ?_;rintro _ K _ ⟨b19,rfl,rfl,rfl⟩ -;refine aA (cL bUU bSL (.cons rfl rfl rfl (.cons .nil) (.cons rfl rfl rfl (.skip (.cons .nil)) .nil))) rfl ?_;refine zz1 ?_;rintro _ K _ ⟨b7,rfl,rfl,rfl⟩ -;refine cA (cK aRC rfl rfl rfl bF gAA (.cons (.cons .nil)) gAJ) ?_;rintro _ K _ ⟨rfl,rfl⟩ -;refine zz4 ?_;refine n8 (fun(K2:Hl) (st2:St) (us:List (Cell×Cell)) (sv:Value)=>K.le K2∧Ok s st2∧us.length+mu s st2≤1300∧∃acc f,isTL acc=true∧Rep K2 acc us∧mu s st2≤f∧qH s Tf all st=aA8 all (rK s Tf (f+1) acc st2)) (fun _ _ _ _=>[(0,ptr b),(2,i64 dp),(7,ptr b7)]) (fun K2 _ _ _=>K2) (fun _ st2 us sv=>[pt b7 (aZ [.bool all,sv] 376),sl false (e7 288) sv (us.map Prod.fst),psb b s st2 rest]) (fun _ st2 _ _=>mu s st2) _ t.2 [(⟨.iface ty u,rfl⟩,u0)] (.slice (some ⟨b19,0,none⟩) 1 1) ⟨Hl.le_refl _,hto,by have:=aEJ s t.2;simp;omega,.tcons t.1 .tnil,mu s t.2,rfl,⟨_,[],hrep,rfl,rfl⟩,Nat.le_refl _,by simp only[qH,hr,hq,ht]⟩ (.cons 0 rfl (.cons 2 rfl (.cons 7 rfl .nil))) rfl (fun h hh=>fL (fH (bF5 b19 288 ⟨.iface ty u,rfl⟩) h (fL hh))) ?_;intro K2 st2 us sv ⟨leK,hok2,hus,acc,f,hacc,hrp,hf,hx⟩;refine zz4 ?_;refine bL rfl rfl (aJO b s st2 rest [44] _ hs hok2.1 (hg.mono (Hl.le_trans leK1 leK))) (.cons (.there (.there .here)) .nil) rfl (fun _ _=>bQ _ _) ?_ ?_
 ·rintro _ _ _ hTr le1;obtain⟨e,p,hy,fb,h,rfl⟩:=bR hTr;cases h
  refine uAa ?_;refine zz5 ?_;refine bX (Hl.le_trans leK1 (Hl.le_trans leK le1)) ?_;simp only[RT,hx,rK,hy];exact⟨fb,rfl,rfl⟩
 rintro _ K _ hTr -;obtain⟨y,hy,rfl,rfl,rfl⟩:=bS hTr;clear hTr;obtain⟨hy1,hy2,hy3⟩:=yX hok2.1 hy;have hyo:=aFR hok2 hy;refine zz2 ?_;refine eO 22 rfl (fun h22=>?_) (fun h22=>?_)
 ·refine zz3 ?_;refine dD (anc:=[0,1,0,0,8,28,60,127,255,511]) (ord:=[0,1,2,3,4,5,6,7,8,9]) [5,6,7,9] [9] mixed gAH (.cons (.there .here) .nil) ?_;refine zz5 ?_;refine aDX rfl (.none rfl) rfl rfl rfl rfl (hT y.2 _ (Hl.le_trans leK1 leK) hyo) (.cons (.there .here) .nil) rfl (fun _ _=>bQ _ _) ?_ ?_
  ·rintro _ _ _ hTr le1;obtain⟨e,p,ht2,fb,h,rfl⟩:=bR hTr;cases h
   intro a0 w0 hd0 hi0;refine⟨hd0,_,_,?_,(Hl.le_trans leK1 (Hl.le_trans leK le1)),hi0.left⟩
   simp only[RT,hx,rK,hy,if_pos h22,ht2];exact⟨fb,rfl,rfl⟩
  rintro _ K3 _ hTr leK3;obtain⟨t2,ht2,⟨ty2,u2,rfl,hrep2⟩,rfl⟩:=bS hTr;clear hTr;refine⟨_,(show Tks _ _ _ from (.cons (.there .here) .nil)).sat,?_⟩
  refine sY rfl rfl (.none rfl) rfl rfl (bH (z0:=[.nilIface]) u6 bP7 rfl rfl rfl rfl (.cons rfl rfl rfl (.cons .nil) .nil)) rfl ?_;rintro _ K _ ⟨b29,rfl,rfl,rfl⟩ -;refine⟨_,(show Tks _ _ _ from (.cons (.there .here) .nil)).sat,?_⟩
  refine sY rfl rfl (.none rfl) rfl rfl (dN (k:=(e7 288)) (ys:=[⟨.iface ty2 u2,rfl⟩]) aLV rfl rfl bF (fun w j=>dE Tryz.underlying374 (SeesSl.at (.blk (.own (.there .here)) rfl rfl) j)) gAI gAE) rfl ?_;rintro v30 K _ ⟨rfl,rfl,ho30⟩ -;refine⟨_,(show Tks _ _ _ from (.cons (.there .here) .nil)).sat,?_⟩
  refine zz1 ?_;refine mS rfl rfl (.none rfl) rfl (bP aVV rfl rfl cJ bF (.succ .zero) rfl) ?_;rintro _ K _ ⟨rfl,rfl⟩ -;refine zz2 ?_;have hm:=hy3 h22;have hm2:=hTa _ _ hyo ht2;obtain⟨f0,rfl⟩:∃f0,f=f0+1:=⟨f - 1,by omega⟩;refine aU (.cons .here (.cons .here (.cons (.there .here) .nil))) ?_;obtain⟨hr3,hr4⟩:=bDW hrep2 hacc (hrp.mono leK3);refine gS K t2.2 (us++[(⟨.iface ty2 u2,rfl⟩,u0)]) v30 ⟨Hl.le_trans leK leK3,hm2.1,by simp;omega,acc.snocT t2.1,f0,hr4,hr3,by omega,?_⟩ aI (.cons 0 rfl (.cons 2 rfl (.cons 7 rfl .nil))) rfl (by rw[List.map_append];exact fun _ h=>h)
  simp only[hx,rK,hy,if_pos h22,ht2]
 have g22:¬y.1=true:=by simp[h22]
 refine zz8 ?_;refine bL rfl rfl (nM b s y.2 rest [41] _ hs hyo.1 (hg.mono (Hl.le_trans leK1 leK))) (.cons .here .nil) rfl (fun _ _=>bQ _ _) ?_ ?_
 ·rintro _ _ _ hTr le1;obtain⟨e,p,hz,fb,h,rfl⟩:=bR hTr;cases h
  refine uAa ?_;refine aP ?_;refine bX (Hl.le_trans leK1 (Hl.le_trans leK le1)) ?_;simp only[RT,hx,rK,hy,if_neg g22,hz];exact⟨fb,rfl,rfl⟩
 rintro _ K _ hTr -;obtain⟨z,hz,rfl,rfl,rfl⟩:=bS hTr;clear hTr;refine zz5 ?_;refine aA (cY Tryz.underlying376 (fun _ h=>by cases h) rfl) rfl ?_;refine zz4 ?_;refine uAf ?_;refine mJ fun K4 leS hS=>?_;refine uAa ?_;refine bD rfl rfl (Hl.le_trans leK1 (Hl.le_trans leK leS)) ?_;simp only[RT,hx,rK,hy,if_neg g22,hz];simp only[aA8];exact⟨_,rfl,⟨_,_,rfl,us,sv,hrp.mono leS,hS,rfl⟩,rfl⟩
end Go.Proofs
end
section
attribute [local irreducible] Go.SL.T Go.SL.OL Go.SL.D Go.SL.DL Go.SL.Ev Go.SL.Ef Go.SL.EfS
set_option maxRecDepth 4000
namespace Go.Proofs
open Go Go.SL Go.Syn
theorem zW(fn:FuncId)(K:Hl):Sp Tryz.prog 158 [.func (.func fn) #[] #[]] K [] (Ret fun v K' L'=>∃b1,v=.func (.func 259) #[] #[ptr b1]∧K' b1=some (aZ [.func (.func fn) #[] #[]] 283)∧L'=[]):=by
 refine a8 Tryz.func158 rfl Tryz.ntmps158 rfl rfl fun F w=>?_;refine zz3 ?_;rintro _ K _ ⟨b1,rfl,rfl,rfl⟩ -;refine zz10 ?_;refine kE fun K1 le1 hK1=>?_;refine bD rfl rfl le1 ?_;exact⟨_,rfl,b1,rfl,hK1,rfl⟩
theorem yP(kd:Int)(ext:List UInt8)(K:Hl):Sp Tryz.prog 162 [i64 kd,str ext] K [] (Ret fun v K' L'=>∃b1 b2,v=.func (.func 260) #[] #[ptr b1,ptr b2]∧K' b1=some (aZ [str ext] 9)∧K' b2=some (aZ [i64 kd] 3)∧L'=[]):=by
 refine a8 Tryz.func162 rfl Tryz.ntmps162 rfl rfl fun F w=>?_;refine zz3 ?_;rintro _ K _ ⟨b2,rfl,rfl,rfl⟩ -;refine zz1 ?_;rintro _ K _ ⟨b3,rfl,rfl,rfl⟩ -;refine zz10 ?_;refine kE fun K1 le1 hK1=>?_;refine kE fun K2 le2 hK2=>?_;refine bD rfl rfl (Hl.le_trans le1 le2) ?_;exact⟨_,rfl,b3,b2,rfl,le2 _ _ hK1,hK2,rfl⟩
theorem aVB(b:Nat)(s:List UInt8)(st:St)(n0 n1:Value)(K:Hl):Sp Tryz.prog 100 [ptr b] K [psb b s st [n0,n1,.map none,.map none]]
  (Ret fun v K' L'=>v=.tuple #[]∧∃cb tb,Tabs K' cb tb∧L'=[psb b s st [n0,n1,.map (some cb),.map (some tb)]]):=by
 refine a8 Tryz.func100 rfl Tryz.ntmps100 rfl rfl fun F w=>?_;refine zz3 ?_;refine cC qT rfl ?_;rintro _ K _ ⟨b3,rfl,rfl,rfl⟩ -;refine aX rfl rfl (zW _ _) .nil rfl ?_;rintro _ K1 _ ⟨c1,rfl,h1,rfl⟩ le1;refine cA (jN Tryz.underlying205 Tryz.underlying9 rfl rfl rfl ?_ bF) ?_
 ·rfl
 rintro _ K _ ⟨rfl,rfl⟩ -;refine aX rfl rfl (zW _ _) .nil rfl ?_;rintro _ K2 _ ⟨c2,rfl,h2,rfl⟩ le2;refine cA (jN Tryz.underlying205 Tryz.underlying9 rfl rfl rfl ?_ bF) ?_
 ·rfl
 rintro _ K _ ⟨rfl,rfl⟩ -;refine aX rfl rfl (zW _ _) .nil rfl ?_;rintro _ K3 _ ⟨c3,rfl,h3,rfl⟩ le3;refine cA (jN Tryz.underlying205 Tryz.underlying9 rfl rfl rfl ?_ bF) ?_
 ·rfl
 rintro _ K _ ⟨rfl,rfl⟩ -;refine aX rfl rfl (yP 2 fG _) .nil rfl ?_;rintro _ K4 _ ⟨d1,e1,rfl,h4,h5,rfl⟩ le4;refine cA (jN Tryz.underlying205 Tryz.underlying9 rfl rfl rfl ?_ bF) ?_
 ·rfl
 rintro _ K _ ⟨rfl,rfl⟩ -;refine aX rfl rfl (yP 3 [] _) .nil rfl ?_;rintro _ K5 _ ⟨d2,e2,rfl,h6,h7,rfl⟩ le5;refine cA (jN Tryz.underlying205 Tryz.underlying9 rfl rfl rfl ?_ bF) ?_
 ·rfl
 rintro _ K _ ⟨rfl,rfl⟩ -;refine aX rfl rfl (yP 4 eW _) .nil rfl ?_;rintro _ K6 _ ⟨d3,e3,rfl,h8,h9,rfl⟩ le6;refine cA (jN Tryz.underlying205 Tryz.underlying9 rfl rfl rfl ?_ bF) ?_
 ·rfl
 rintro _ K _ ⟨rfl,rfl⟩ -;refine cA (jN Tryz.underlying205 Tryz.underlying9 rfl rfl rfl ?_ bF) ?_
 ·rfl
 rintro _ K _ ⟨rfl,rfl⟩ -;refine cA (jN Tryz.underlying205 Tryz.underlying9 rfl rfl rfl ?_ bF) ?_
 ·rfl
 rintro _ K _ ⟨rfl,rfl⟩ -;refine zz3 ?_;refine cA (bP bP1 rfl rfl cJ bF (.succ (.succ (.succ (.succ (.succ (.succ (.succ (.succ .zero)))))))) rfl) ?_;rintro _ K _ ⟨rfl,rfl⟩ -;refine zz4 ?_;refine cC qT rfl ?_;rintro _ K _ ⟨b14,rfl,rfl,rfl⟩ -;refine cA (jN Tryz.underlying206 Tryz.underlying9 rfl rfl rfl ?_ bF) ?_
 ·rfl
 rintro _ K _ ⟨rfl,rfl⟩ -;refine cA (jN Tryz.underlying206 Tryz.underlying9 rfl rfl rfl ?_ bF) ?_
 ·rfl
 rintro _ K _ ⟨rfl,rfl⟩ -;refine cA (jN Tryz.underlying206 Tryz.underlying9 rfl rfl rfl ?_ bF) ?_
 ·rfl
 rintro _ K _ ⟨rfl,rfl⟩ -;refine cA (jN Tryz.underlying206 Tryz.underlying9 rfl rfl rfl ?_ bF) ?_
 ·rfl
 rintro _ K _ ⟨rfl,rfl⟩ -;refine cA (jN Tryz.underlying206 Tryz.underlying9 rfl rfl rfl ?_ bF) ?_
 ·rfl
 rintro _ K _ ⟨rfl,rfl⟩ -;refine cA (jN Tryz.underlying206 Tryz.underlying9 rfl rfl rfl ?_ bF) ?_
 ·rfl
 rintro _ K _ ⟨rfl,rfl⟩ -;refine cA (jN Tryz.underlying206 Tryz.underlying9 rfl rfl rfl ?_ bF) ?_
 ·rfl
 rintro _ K _ ⟨rfl,rfl⟩ -;refine cA (jN Tryz.underlying206 Tryz.underlying9 rfl rfl rfl ?_ bF) ?_
 ·rfl
 rintro _ K _ ⟨rfl,rfl⟩ -;refine cA (jN Tryz.underlying206 Tryz.underlying9 rfl rfl rfl ?_ bF) ?_
 ·rfl
 rintro _ K _ ⟨rfl,rfl⟩ -;refine cA (jN Tryz.underlying206 Tryz.underlying9 rfl rfl rfl ?_ bF) ?_
 ·rfl
 rintro _ K _ ⟨rfl,rfl⟩ -;refine zz3 ?_;refine cA (bP bP2 rfl rfl cJ bF (.succ (.succ (.succ (.succ (.succ (.succ (.succ (.succ (.succ .zero))))))))) rfl) ?_;rintro _ K _ ⟨rfl,rfl⟩ -;refine aG ?_;refine uAq ?_;refine kE fun K7 le7 hT=>?_;refine kE fun K8 le8 hC=>?_;refine dK rfl (Hl.le_trans le1 (Hl.le_trans le2 (Hl.le_trans le3 (Hl.le_trans le4 (Hl.le_trans le5 (Hl.le_trans le6 (Hl.le_trans le7 le8))))))) ?_;have g7:=Hl.le_trans le7 le8;have g6:=Hl.le_trans le6 g7;have g5:=Hl.le_trans le5 g6;have g4:=Hl.le_trans le4 g5;have g3:=Hl.le_trans le3 g4;have g2:=Hl.le_trans le2 g3;exact⟨_,rfl,rfl,_,_,⟨⟨c1,c2,c3,d1,e1,d2,e2,d3,e3,hC,g2 _ _ h1,g3 _ _ h2,g4 _ _ h3,g5 _ _ h4,g5 _ _ h5,g6 _ _ h6,g6 _ _ h7,g7 _ _ h8,g7 _ _ h9⟩,le8 _ _ hT⟩,rfl⟩
end Go.Proofs
end
section
attribute [local irreducible] Go.SL.T Go.SL.OL Go.SL.D Go.SL.DL Go.SL.Ev Go.SL.Ef Go.SL.EfS
namespace Go.Proofs
open Go Go.SL Go.Syn
def RB(s:List UInt8)(b:Nat)(rest:List Value)(r:Res (Tree×St)):Ending→Hl→List Asn→Prop:=jX r fun r v K' L'=>∃ys,Rep K' r.1 ys∧isCL r.1=true∧L'=[sl false (e7 224) v (ys.map Prod.fst),psb b s r.2 rest]
def aIX(s:List UInt8)(b:Nat)(rest:List Value)(K:Hl)(dp:Int)(Bf:St→Res (Tree×St)):Prop:=
 ∀(st:St) (K':Hl),K.le K'→Ok s st→Sp Tryz.prog 105 [ptr b,i64 dp] K' [psb b s st rest] (RB s b rest (Bf st))
theorem aM4{v:Value}(h:v.oneCell'=true):v.cells=[v].toArray:=by cases v <;> simp[Value.oneCell']at h <;> rfl
theorem aAS(b:Nat)(s:List UInt8)(st:St)(rest:List Value)(bp bd bi:Nat)(dp:Int)(tv sv:Value)(tv1:tv.oneCell'=true)(us:List (Cell×Cell))(K:Hl)(Bf:St→Res (Tree×St))(hs:s.length≤600)(hok:Ok s st)(hg:Glob K)(hd:0≤dp∧dp≤6)(hu:us.length≤1300)
  (hBa:AdvE s Bf) (hB:aIX s b rest K (dp+1) Bf) (h1:K bp=some (aZ [ptr b] 199)) (h2:K bd=some (aZ [i64 dp] 3)):
  Sp Tryz.prog 264 [tv,ptr bp,ptr bd,ptr bi] K [pt bi (aZ [sv] 311),sl false (kJ 371) sv us,psb b s st rest]
   (jX (bodyC s Bf st) fun r v K' L'=>v=.tuple #[]∧∃(bv:Cell) (ys:List (Cell×Cell)) (sv':Value),Rep K' r.1 ys∧Ksl (e7 224) K' bv.1 (ys.map (·.1))∧L'=[pt bi (aZ [sv'] 311),sl false (kJ 371) sv' (us++[(⟨tv,tv1⟩,bv)]),psb b s r.2 rest]):=by
 have ha:=hok.1;refine a8 Tryz.func264 rfl Tryz.ntmps264 rfl rfl fun F w=>?_;refine zz3 ?_;refine bL rfl rfl (nM b s st rest [123] _ hs ha hg) (.cons (.there (.there .here)) .nil) rfl (fun _ _=>bQ _ _) ?_ ?_
 ·rintro _ _ _ hTr le1;obtain⟨e,p,hq,fb,h,rfl⟩:=bR hTr;cases h
  refine uAa ?_;refine zz2 ?_;simp only[bodyC,hq];exact⟨fb,rfl,rfl⟩
 rintro _ K _ hTr -;obtain⟨q,hq,rfl,rfl,rfl⟩:=bS hTr;clear hTr;have hqo:=aIU ha hq;refine zz7 ?_;refine bL rfl rfl (hB q _ (Hl.le_refl _) hqo) (.cons .here .nil) rfl (fun _ _=>bQ _ _) ?_ ?_
 ·rintro _ _ _ hTr le1;obtain⟨e,p,hb,fb,h,rfl⟩:=bR hTr;cases h
  refine uAa ?_;refine zz2 ?_;simp only[bodyC,hq,hb];exact⟨fb,rfl,rfl⟩
 rintro _ K1 _ hTr leK1;obtain⟨bb,hb,⟨ys,hrep,hcl,rfl⟩⟩:=bS hTr;clear hTr;have hbo:=(hBa _ _ hqo hb).1;have h1:=leK1 _ _ h1;refine gX fun K2 leS hS=>?_;obtain⟨sa,sn,sc,rfl⟩:=hS.isSlice;have h1:=leS _ _ h1;have hrep:=hrep.mono leS;refine zz6 ?_;refine bL rfl rfl (nM b s bb.2 rest [125] _ hs hbo.1 (hg.mono (Hl.le_trans leK1 leS))) (.cons .here .nil) rfl (fun _ _=>bQ _ _) ?_ ?_
 ·rintro _ _ _ hTr le1;obtain⟨e,p,hz,fb,h,rfl⟩:=bR hTr;cases h
  refine uAa ?_;refine aP ?_;refine bX (Hl.le_trans leK1 (Hl.le_trans leS le1)) ?_;simp only[bodyC,hq,hb,hz];exact⟨fb,rfl,rfl⟩
 rintro _ K _ hTr -;obtain⟨z,hz,rfl,rfl,rfl⟩:=bS hTr;clear hTr;refine zz7 ?_;refine aA (cL bUT bSK (.cons rfl (aM4 tv1) rfl (.cons .nil) (.cons rfl rfl rfl (.skip (.cons .nil)) .nil))) rfl ?_;refine cC (bH (z0:=[.nilIface,.slice none 0 0]) uY bAV rfl rfl rfl rfl (.cons rfl rfl rfl (.cons (.cons .nil)) .nil)) rfl ?_;rintro _ K _ ⟨b19,rfl,rfl,rfl⟩ -;refine cC (dN (k:=(kJ 371)) (ys:=[(⟨tv,tv1⟩,⟨.slice sa sn sc,rfl⟩)]) aLU rfl rfl (.there (.there (.there .here))) (fun w j=>dE Tryz.underlying309 (SeesSl.at (.blk (.own .here) rfl rfl) j)) gAE gAE) rfl ?_;rintro v20 K _ ⟨rfl,rfl,ho20⟩ -;refine zz1 ?_;refine cA (bP aVU rfl rfl cJ bF .zero rfl) ?_;rintro _ K _ ⟨rfl,rfl⟩ -;refine aG ?_;refine aU (.cons (.there (.there (.there .here))) (.cons .here (.cons (.there .here) .nil))) ?_;refine dK rfl (Hl.le_trans leK1 leS) ?_;simp only[bodyC,hq,hb,hz];exact⟨_,rfl,rfl,_,ys,_,hrep,hS,rfl⟩
theorem aME(b:Nat)(s:List UInt8)(st:St)(rest:List Value)(at_ dp:Int)(K:Hl)(Tf Bf:St→Res (Tree×St))(hs:s.length≤600)(hok:Ok s st)(hg:Glob K)(hd:0≤dp∧dp≤6)(hTa:Adv s Tf)(hBa:AdvE s Bf)(hT:aBV s b rest K (dp+1) Tf)(hB:aIX s b rest K (dp+1) Bf):
    Sp Tryz.prog 164 [ptr b,i64 at_,i64 dp] K [psb b s st rest] (RT s b rest (ifC s Tf Bf st)):=by
  have ha:=hok.1;refine a8 Tryz.func164 rfl Tryz.ntmps164 rfl rfl fun F w=>?_;refine zz3 ?_;rintro _ K _ ⟨b3,rfl,rfl,rfl⟩ -;refine zz1 ?_;rintro _ K _ ⟨b5,rfl,rfl,rfl⟩ -;refine zz5 ?_;refine fT fun Ka leA hbd=>?_;refine fT fun Kb leB hbp=>?_;have hbd:=leB _ _ hbd;have le0:=Hl.le_trans leA leB;refine zz3 ?_;refine bL rfl rfl (eS b 208 s st.1 _ _ _ _ rest hs ha _ (hg.mono le0)) (.cons .here .nil) rfl (fun _ _=>bQ _ _) ?_ ?_
  · rintro _ _ _ hTr le1;obtain⟨e,p,hr,fb,h,rfl⟩:=bR hTr;cases h
    refine uAa ?_;refine aP ?_;refine bX (Hl.le_trans le0 le1) ?_;simp only[RT,ifC,hr];exact⟨fb,rfl,rfl⟩
  rintro _ K _ hTr -;obtain⟨r,hr,rfl,rfl,rfl⟩:=bS hTr;clear hTr;have hro:=gG ha hr;refine zz5 ?_;rintro _ K _ ⟨b7,rfl,rfl,rfl⟩ -;refine zz14 ?_;refine bL rfl rfl (hT r _ le0 hro) (.cons (.there .here) .nil) rfl (fun _ _=>bQ _ _) ?_ ?_
  · rintro _ _ _ hTr le1;obtain⟨e,p,ht,fb,h,rfl⟩:=bR hTr;cases h
    refine uAa ?_;refine aP ?_;refine bX (Hl.le_trans le0 le1) ?_;simp only[RT,ifC,hr,ht];exact⟨fb,rfl,rfl⟩
  rintro _ K1 _ hTr leK1;obtain⟨t,ht,⟨ty,u,rfl,hrep⟩,rfl⟩:=bS hTr;clear hTr;have hto:=(hTa _ _ hro ht).1;have hbd:=leK1 _ _ hbd;have hbp:=leK1 _ _ hbp;have le01:=Hl.le_trans le0 leK1;refine kB (eF (kJ 371)) ?_;refine bL rfl rfl (aAS b s t.2 rest b3 b5 b7 dp (.iface ty u) _ rfl [] _ Bf hs hto (hg.mono le01) hd (by simp) hBa (fun st2 K2 le2 ho=>hB st2 K2 (Hl.le_trans le01 le2) ho) hbp hbd) (.cons (.there (.there .here)) (.cons .here (.cons .here .nil))) rfl (fun _ _=>bQ _ _) ?_ ?_
  · rintro _ _ _ hTr le1;obtain⟨e,p,hb,fb,h,rfl⟩:=bR hTr;cases h
    refine uAa ?_;refine aP ?_;refine bX (Hl.le_trans le01 le1) ?_;simp only[RT,ifC,hr,ht,hb];exact⟨fb,rfl,rfl⟩
  rintro _ K3 _ hTr leK3;obtain⟨bb,hb,rfl,bv,ys,sv1,hrb,hsb,rfl⟩:=bS hTr;clear hTr;have hbo:=(pF hBa _ _ hto hb).1;have hbd:=leK3 _ _ hbd;have hbp:=leK3 _ _ hbp;have le03:=Hl.le_trans le01 leK3;refine zz4 ?_;refine n8 (fun(K2:Hl) (st2:St) (us:List (Cell×Cell)) (sv:Value)=>K3.le K2∧Ok s st2∧us.length+mu s st2≤1300∧∃acc f,isBL acc=true∧Rep K2 acc us∧mu s st2≤f∧ifC s Tf Bf st=iV s Tf Bf (f+1) acc st2) (fun _ _ _ _=>[(3,ptr b3),(5,ptr b5),(7,ptr b7),(8,.func (.func 264) #[] #[ptr b3,ptr b5,ptr b7])]) (fun K2 _ _ _=>K2) (fun _ st2 us sv=>[pt b7 (aZ [sv] 311),sl false (kJ 371) sv us,psb b s st2 rest]) (fun _ st2 _ _=>mu s st2) _ bb.2 [(⟨.iface ty u,rfl⟩,bv)] sv1 ⟨Hl.le_refl _,hbo,by have:=aEJ s bb.2;simp;omega,.bcons t.1 bb.1 .bnil,mu s bb.2,rfl,⟨_,ys,bv,[],hrep.mono leK3,⟨_,_,rfl⟩,hrb,hsb,rfl,rfl⟩,Nat.le_refl _,by simp only[ifC,hr,ht,hb]⟩ (.cons 3 rfl (.cons 5 rfl (.cons 7 rfl (.cons 8 rfl .nil)))) rfl (fun _ h=>h) ?_;intro K2 st2 us sv ⟨leL,hok2,hus,acc,f,hacc,hrp,hf,hx⟩;have hbd:=leL _ _ hbd;have hbp:=leL _ _ hbp;have le2:=Hl.le_trans le03 leL;refine zz11 ?_;refine cH 27 rfl (fun g27=>?_) (fun g27=>?_)
  · have g27:st2.2.kind=1:=by omega
    refine zz17 ?_;refine bK 35 rfl (fun h35=>?_) (fun h35=>?_)
    · have gc:st2.2.kind=1∧st2.2.s=nE:=⟨by omega,h35⟩;refine zz8 ?_;refine bL rfl rfl (eS b 208 s st2.1 _ _ _ _ rest hs hok2.1 _ (hg.mono le2)) (.cons (.there (.there .here)) .nil) rfl (fun _ _=>bQ _ _) ?_ ?_
      · rintro _ _ _ hTr le1;obtain⟨e,p,hr2,fb,h,rfl⟩:=bR hTr;cases h
        refine uAa ?_;refine zz5 ?_;refine bX (Hl.le_trans le2 le1) ?_;simp only[RT,hx,iV,nH,if_pos gc,hr2];exact⟨fb,rfl,rfl⟩
      rintro _ K _ hTr -;obtain⟨r2,hr2,rfl,rfl,rfl⟩:=bS hTr;clear hTr;have hro2:=gG hok2.1 hr2;refine zz7 ?_;refine bL rfl rfl (hT r2 _ le2 hro2) (.cons .here .nil) rfl (fun _ _=>bQ _ _) ?_ ?_
      · rintro _ _ _ hTr le1;obtain⟨e,p,ht2,fb,h,rfl⟩:=bR hTr;cases h
        refine uAa ?_;refine zz4 ?_;refine bX (Hl.le_trans le2 le1) ?_;simp only[RT,hx,iV,nH,if_pos gc,hr2,ht2];exact⟨fb,rfl,rfl⟩
      rintro _ K4 _ hTr leK4;obtain⟨t2,ht2,⟨ty2,u2,rfl,hrep2⟩,rfl⟩:=bS hTr;clear hTr;have hto2:=(hTa _ _ hro2 ht2).1;have hbd:=leK4 _ _ hbd;have hbp:=leK4 _ _ hbp;have le4:=Hl.le_trans le2 leK4;refine bL rfl rfl (aAS b s t2.2 rest b3 b5 b7 dp (.iface ty2 u2) _ rfl us _ Bf hs hto2 (hg.mono le4) hd aI hBa (fun st2 K2 lx ho=>hB st2 K2 (Hl.le_trans le4 lx) ho) hbp hbd) (.cons (.there .here) (.cons (.there .here) (.cons .here .nil))) rfl (fun _ _=>bQ _ _) ?_ ?_
      · rintro _ _ _ hTr le1;obtain⟨e,p,hb2,fb,h,rfl⟩:=bR hTr;cases h
        refine uAa ?_;refine zz4 ?_;refine bX (Hl.le_trans le4 le1) ?_;simp only[RT,hx,iV,nH,if_pos gc,hr2,ht2,hb2];exact⟨fb,rfl,rfl⟩
      rintro _ K5 _ hTr leK5;obtain⟨bb2,hb2,rfl,bv2,ys2,sv2,hrb2,hsb2,rfl⟩:=bS hTr;clear hTr;have hbo2:=(pF hBa _ _ hto2 hb2).1;refine zz2 ?_;have hm1:=lR hok2.1 aI hr2;have hm2:=hTa _ _ hro2 ht2;have hm3:=pF hBa _ _ hto2 hb2;obtain⟨f0,rfl⟩:∃f0,f=f0+1:=⟨f - 1,by omega⟩;obtain⟨hr3,hr4⟩:=aGD (o:=some t2.1) ⟨hrep2.mono leK5,_,_,rfl⟩ hrb2 hsb2 hacc (hrp.mono (Hl.le_trans leK4 leK5));refine gS _ bb2.2 (us++[(⟨.iface ty2 u2,rfl⟩,bv2)]) sv2 ⟨Hl.le_trans leL (Hl.le_trans leK4 leK5),hbo2,by simp;omega,acc.snocB (some t2.1) bb2.1,f0,hr4,hr3,by omega,?_⟩ aI (.cons 3 rfl (.cons 5 rfl (.cons 7 rfl (.cons 8 rfl .nil)))) rfl fM
      simp only[hx,iV,nH,if_pos gc,hr2,ht2,hb2]
    have gc:¬(st2.2.kind=1∧st2.2.s=nE):=(fun h=>h35 h.2);refine zz16 ?_;refine cH 53 rfl (fun g53=>?_) (fun g53=>?_)
    · refine zz17 ?_;refine bK 61 rfl (fun h61=>?_) (fun h61=>?_)
      · have gd:st2.2.kind=1∧st2.2.s=mC:=⟨by omega,h61⟩;refine zz5 ?_;refine bL rfl rfl (eS b 208 s st2.1 _ _ _ _ rest hs hok2.1 _ (hg.mono le2)) (.cons (.there (.there .here)) .nil) rfl (fun _ _=>bQ _ _) ?_ ?_
        · rintro _ _ _ hTr le1;obtain⟨e,p,hr3,fb,h,rfl⟩:=bR hTr;cases h
          refine uAa ?_;refine zz2 ?_;refine bX (Hl.le_trans le2 le1) ?_;simp only[RT,hx,iV,nH,if_neg gc,if_pos gd,hr3];exact⟨fb,rfl,rfl⟩
        rintro _ K _ hTr -;obtain⟨r3,hr3,rfl,rfl,rfl⟩:=bS hTr;clear hTr;have hro3:=gG hok2.1 hr3;refine zz4 ?_;refine bL rfl rfl (aAS b s r3 rest b3 b5 b7 dp .nilIface _ rfl us _ Bf hs hro3 (hg.mono le2) hd aI hBa (fun st2 K2 lx ho=>hB st2 K2 (Hl.le_trans le2 lx) ho) hbp hbd) (.cons (.there .here) (.cons (.there .here) (.cons .here .nil))) rfl (fun _ _=>bQ _ _) ?_ ?_
        · rintro _ _ _ hTr le1;obtain⟨e,p,hb3,fb,h,rfl⟩:=bR hTr;cases h
          refine uAa ?_;refine aP ?_;refine bX (Hl.le_trans le2 le1) ?_;simp only[RT,hx,iV,nH,if_neg gc,if_pos gd,hr3,hb3];exact⟨fb,rfl,rfl⟩
        rintro _ K6 _ hTr leK6;obtain⟨bb3,hb3,rfl,bv3,ys3,sv3,hrb3,hsb3,rfl⟩:=bS hTr;clear hTr;refine zz5 ?_;refine aA (cY Tryz.underlying311 (fun _ h=>by cases h) rfl) rfl ?_;refine zz4 ?_;refine uAt ?_;refine mJ fun K9 leS hS=>?_;refine bD rfl rfl gAN ?_
        (simp only [RT, hx, iV, nH, if_neg gc, if_pos gd, hr3, hb3]
         obtain⟨hr6,hr7⟩:=aGD (o:=none) rfl hrb3 hsb3 hacc (hrp.mono leK6);exact⟨_,rfl,⟨_,_,rfl,_,_,hr6.mono leS,hS,rfl⟩,rfl⟩)
      have gd:¬(st2.2.kind=1∧st2.2.s=mC):=(fun h=>h61 h.2);refine zz5 ?_;refine aA (cY Tryz.underlying311 (fun _ h=>by cases h) rfl) rfl ?_;refine zz4 ?_;refine uAt ?_;refine mJ fun K9 leS hS=>?_;refine bD rfl rfl gAN ?_
      (simp only[RT,hx,iV,nH,if_neg gc,if_neg gd];exact⟨_,rfl,⟨_,_,rfl,us,sv,hrp.mono leS,hS,rfl⟩,rfl⟩)
    have gd:¬(st2.2.kind=1∧st2.2.s=mC):=(fun h=>by omega);refine zz16 ?_;refine aA (cY Tryz.underlying311 (fun _ h=>by cases h) rfl) rfl ?_;refine zz4 ?_;refine uAt ?_;refine mJ fun K9 leS hS=>?_;refine bD rfl rfl gAN ?_
    (simp only[RT,hx,iV,nH,if_neg gc,if_neg gd];exact⟨_,rfl,⟨_,_,rfl,us,sv,hrp.mono leS,hS,rfl⟩,rfl⟩)
  have gc:¬(st2.2.kind=1∧st2.2.s=nE):=(fun h=>by omega);refine zz27 ?_;refine cH 53 rfl (fun g53=>?_) (fun g53=>?_)
  · refine zz17 ?_;refine bK 61 rfl (fun h61=>?_) (fun h61=>?_)
    · have gd:st2.2.kind=1∧st2.2.s=mC:=⟨by omega,h61⟩;refine zz5 ?_;refine bL rfl rfl (eS b 208 s st2.1 _ _ _ _ rest hs hok2.1 _ (hg.mono le2)) (.cons (.there (.there .here)) .nil) rfl (fun _ _=>bQ _ _) ?_ ?_
      · rintro _ _ _ hTr le1;obtain⟨e,p,hr3,fb,h,rfl⟩:=bR hTr;cases h
        refine uAa ?_;refine zz2 ?_;refine bX (Hl.le_trans le2 le1) ?_;simp only[RT,hx,iV,nH,if_neg gc,if_pos gd,hr3];exact⟨fb,rfl,rfl⟩
      rintro _ K _ hTr -;obtain⟨r3,hr3,rfl,rfl,rfl⟩:=bS hTr;clear hTr;have hro3:=gG hok2.1 hr3;refine zz4 ?_;refine bL rfl rfl (aAS b s r3 rest b3 b5 b7 dp .nilIface _ rfl us _ Bf hs hro3 (hg.mono le2) hd aI hBa (fun st2 K2 lx ho=>hB st2 K2 (Hl.le_trans le2 lx) ho) hbp hbd) (.cons (.there .here) (.cons (.there .here) (.cons .here .nil))) rfl (fun _ _=>bQ _ _) ?_ ?_
      · rintro _ _ _ hTr le1;obtain⟨e,p,hb3,fb,h,rfl⟩:=bR hTr;cases h
        refine uAa ?_;refine aP ?_;refine bX (Hl.le_trans le2 le1) ?_;simp only[RT,hx,iV,nH,if_neg gc,if_pos gd,hr3,hb3];exact⟨fb,rfl,rfl⟩
      rintro _ K6 _ hTr leK6;obtain⟨bb3,hb3,rfl,bv3,ys3,sv3,hrb3,hsb3,rfl⟩:=bS hTr;clear hTr;refine zz5 ?_;refine aA (cY Tryz.underlying311 (fun _ h=>by cases h) rfl) rfl ?_;refine zz4 ?_;refine uAt ?_;refine mJ fun K9 leS hS=>?_;refine bD rfl rfl gAN ?_
      (simp only [RT, hx, iV, nH, if_neg gc, if_pos gd, hr3, hb3]
       obtain⟨hr6,hr7⟩:=aGD (o:=none) rfl hrb3 hsb3 hacc (hrp.mono leK6);exact⟨_,rfl,⟨_,_,rfl,_,_,hr6.mono leS,hS,rfl⟩,rfl⟩)
    have gd:¬(st2.2.kind=1∧st2.2.s=mC):=(fun h=>h61 h.2);refine zz5 ?_;refine aA (cY Tryz.underlying311 (fun _ h=>by cases h) rfl) rfl ?_;refine zz4 ?_;refine uAt ?_;refine mJ fun K9 leS hS=>?_;refine bD rfl rfl gAN ?_
    (simp only[RT,hx,iV,nH,if_neg gc,if_neg gd];exact⟨_,rfl,⟨_,_,rfl,us,sv,hrp.mono leS,hS,rfl⟩,rfl⟩)
  have gd:¬(st2.2.kind=1∧st2.2.s=mC):=(fun h=>by omega);refine zz16 ?_;refine aA (cY Tryz.underlying311 (fun _ h=>by cases h) rfl) rfl ?_;refine zz4 ?_;refine uAt ?_;refine mJ fun K9 leS hS=>?_;refine bD rfl rfl gAN ?_
  (simp only[RT,hx,iV,nH,if_neg gc,if_neg gd];exact⟨_,rfl,⟨_,_,rfl,us,sv,hrp.mono leS,hS,rfl⟩,rfl⟩)
theorem aV6(b:Nat)(s:List UInt8)(st:St)(dp:Int)(rest:List Value)(K:Hl)(Tf:St→Res (Tree×St))(hs:s.length≤600)(hok:Ok s st)(hg:Glob K)(hd:0≤dp∧dp≤6)(hTa:Adv s Tf)(hT:aBV s b rest K (dp+1) Tf):
  Sp Tryz.prog 169 [ptr b,i64 dp] K [psb b s st rest] (RT s b rest (qH s Tf true st)):=by
 refine a8 Tryz.func169 rfl Tryz.ntmps169 rfl rfl fun F w=>?_;refine zz9 ?_;refine bL rfl rfl (aNT b s st true dp rest _ Tf hs hok hg hd hTa hT) (.cons .here .nil) rfl (fun _ _=>bQ _ _) ?_ ?_
 ·rintro _ _ _ hTr le1;obtain⟨e,p,hr,fb,h,rfl⟩:=bR hTr;cases h
  refine uAa ?_;refine zz2 ?_;simp only[RT,hr];exact⟨fb,rfl,rfl⟩
 rintro _ K1 _ hTr leK1;obtain⟨r,hr,hrep,rfl⟩:=bS hTr;clear hTr;refine zz4 ?_;refine uAa ?_;refine bD rfl rfl leK1 ?_;simp only[RT,hr];exact⟨_,rfl,hrep,rfl⟩
theorem aV8(b:Nat)(s:List UInt8)(st:St)(dp:Int)(rest:List Value)(K:Hl)(Tf:St→Res (Tree×St))(hs:s.length≤600)(hok:Ok s st)(hg:Glob K)(hd:0≤dp∧dp≤6)(hTa:Adv s Tf)(hT:aBV s b rest K (dp+1) Tf):
  Sp Tryz.prog 171 [ptr b,i64 dp] K [psb b s st rest] (RT s b rest (qH s Tf false st)):=by
 refine a8 Tryz.func171 rfl Tryz.ntmps171 rfl rfl fun F w=>?_;refine zz9 ?_;refine bL rfl rfl (aNT b s st false dp rest _ Tf hs hok hg hd hTa hT) (.cons .here .nil) rfl (fun _ _=>bQ _ _) ?_ ?_
 ·rintro _ _ _ hTr le1;obtain⟨e,p,hr,fb,h,rfl⟩:=bR hTr;cases h
  refine uAa ?_;refine zz2 ?_;simp only[RT,hr];exact⟨fb,rfl,rfl⟩
 rintro _ K1 _ hTr leK1;obtain⟨r,hr,hrep,rfl⟩:=bS hTr;clear hTr;refine zz4 ?_;refine uAa ?_;refine bD rfl rfl leK1 ?_;simp only[RT,hr];exact⟨_,rfl,hrep,rfl⟩
theorem aTQ(k:List UInt8):mget [] k=none:=rfl
theorem bEY(b:Nat)(s:List UInt8)(st:St)(dp:Int)(nv:Value)(rest:List Value)(needs:List (List UInt8))(K:Hl)(Tf:St→Res (Tree×St))(hp:PK s needs nv K)(hok:Ok s st)(hd:0≤dp∧dp≤6)(hTa:Adv s Tf)(hT:aBV s b (nv::rest) K (dp+1) Tf)
  {es:List Ent} (he:es=[(rZ,fnV 165,0),(lT,fnV 166,1),(yH,fnV 167,2),(nC,fnV 169,3),(nD,fnV 171,4),(oT,fnV 172,5),(fF,fnV 174,6),(uG,fnV 175,7),(wI,fnV 176,8),(xY,fnV 178,9)]):
  (mget es st.2.s=none∧qI s needs Tf st=none)∨∃fn r,mget es st.2.s=some (fnV fn)∧qI s needs Tf st=some r∧Sp Tryz.prog fn [ptr b,i64 dp] K [psb b s st (nv::rest)] (RT s b (nv::rest) r):=by
 subst he;unfold qI;simp only[j7,aTQ]
 by_cases h1:st.2.s=rZ
 ·simp only[if_pos h1];exact .inr ⟨_,_,rfl,rfl,bE6 b s st dp _ K hp.hs hok hp.hg⟩
 simp only[if_neg h1]
 by_cases h2:st.2.s=lT
 ·simp only[if_pos h2];exact .inr ⟨_,_,rfl,rfl,aW6 b s st dp _ K hp.hs hok hp.hg⟩
 simp only[if_neg h2]
 by_cases h3:st.2.s=yH
 ·simp only[if_pos h3];exact .inr ⟨_,_,rfl,rfl,bIY b s st dp _ K Tf hp.hs hok hp.hg hd hT⟩
 simp only[if_neg h3]
 by_cases h4:st.2.s=nC
 ·simp only[if_pos h4];exact .inr ⟨_,_,rfl,rfl,aV6 b s st dp _ K Tf hp.hs hok hp.hg hd hTa hT⟩
 simp only[if_neg h4]
 by_cases h5:st.2.s=nD
 ·simp only[if_pos h5];exact .inr ⟨_,_,rfl,rfl,aV8 b s st dp _ K Tf hp.hs hok hp.hg hd hTa hT⟩
 simp only[if_neg h5]
 by_cases h6:st.2.s=oT
 ·simp only[if_pos h6];exact .inr ⟨_,_,rfl,rfl,aS8 b s st dp nv rest needs K hok hp⟩
 simp only[if_neg h6]
 by_cases h7:st.2.s=fF
 ·simp only[if_pos h7];exact .inr ⟨_,_,rfl,rfl,aMH b s st dp nv rest needs K hok hp⟩
 simp only[if_neg h7]
 by_cases h8:st.2.s=uG
 ·simp only[if_pos h8];exact .inr ⟨_,_,rfl,rfl,aU7 b s st dp nv rest needs K hok hp⟩
 simp only[if_neg h8]
 by_cases h9:st.2.s=wI
 ·simp only[if_pos h9];exact .inr ⟨_,_,rfl,rfl,aSX b s st dp _ K hp.hs hok hp.hg⟩
 simp only[if_neg h9]
 by_cases h10:st.2.s=xY
 ·simp only[if_pos h10];exact .inr ⟨_,_,rfl,rfl,bEG b s st dp _ K hp.hs hok hp.hg⟩
 simp only[if_neg h10];exact .inl (by simp)
def aB7(s:List UInt8)(needs:List (List UInt8))(dp:Int)(Tf:St→Res (Tree×St))(st:St):Res (Tree×St):=
 if st.2.kind=1 then (if 6 < dp then .error (5,st.2.at_)else match qI s needs Tf st with|some r=>r|none=>.error (4,st.2.at_))else .error (4,st.2.at_)
theorem aOP(b:Nat)(s:List UInt8)(st:St)(dp:Int)(nv n1:Value)(cb tb:Nat)(needs:List (List UInt8))(K:Hl)(Tf:St→Res (Tree×St))(hp:PE s needs nv cb tb K)(hok:Ok s st)(hd:0≤dp∧dp≤7)(hTa:Adv s Tf)
  (hT:dp≤6→aBV s b [nv,n1,.map (some cb),.map (some tb)] K (dp+1) Tf):
  Sp Tryz.prog 168 [ptr b,i64 dp] K [psb b s st [nv,n1,.map (some cb),.map (some tb)]] (RT s b [nv,n1,.map (some cb),.map (some tb)] (aB7 s needs dp Tf st)):=by
 have ha:=hok.1;obtain⟨hpk,hcm,htm⟩:=hp;refine a8 Tryz.func168 rfl Tryz.ntmps168 rfl rfl fun F w=>?_;refine zz17 ?_;refine bK 13 rfl (fun h13=>?_) (fun h13=>?_)
 ·have g13:¬st.2.kind=1:=by omega
  refine zz2 ?_;refine bL rfl rfl (lH b s st _ _) (.cons .here .nil) rfl gAG ?_ ?_
  ·rintro _ _ _ ⟨fb,h,rfl⟩ le1;cases h
   refine uAa ?_;refine zz2 ?_;simp only[RT,aB7,if_neg g13];exact⟨fb,rfl,rfl⟩
  rintro _ _ _ ⟨_,h,_⟩;cases h
 have g13:st.2.kind=1:=by omega
 refine zz9 ?_;refine bK 17 rfl (fun h17=>?_) (fun h17=>?_)
 ·have g17:6 < dp:=by omega
  refine zz7 ?_;refine bL rfl rfl (gO 5 st.2.at_ _) .nil rfl gAG ?_ ?_
  ·rintro _ _ _ ⟨fb,h,rfl⟩ le1;cases h
   refine uAa ?_;refine zz2 ?_;simp only[RT,aB7,if_pos g13,if_pos g17];exact⟨fb,rfl,rfl⟩
  rintro _ _ _ ⟨_,h,_⟩;cases h
 have g17:¬6 < dp:=by omega
 have hdisp:=bEY b s st dp nv _ needs _ Tf hpk hok ⟨hd.1,by omega⟩ hTa (hT aI) rfl;refine zz3 ?_;refine dD (anc:=[0,1,3,7,0,16,48,112,240,496,1023,2047,4095,4095,8191,32767]) (ord:=[0,1,2,3,4,5,6,7,8,9,10,11,12,13,14,15]) [] [] mixed gAH (dI _) ?_;refine zz10 ?_;refine aK rfl rfl (.none rfl) rfl rfl (wZ Tryz.underlying206 Tryz.underlying9 bU2 rfl rfl (.known htm)) rfl ?_;refine zz11 ?_;refine aA gAF rfl ?_;refine zz2 ?_;refine eO 40 rfl (fun h40=>?_) (fun h40=>?_)
 ·rcases hdisp with ⟨hm,hdn⟩|⟨fn,r,hm,hds,hsp⟩
  case inr=>exact absurd h40 (by rw[hm];simp)
  refine zz2 ?_;refine bL rfl rfl (lH b s st _ _) (.cons .here .nil) rfl gAG ?_ ?_
  ·rintro _ _ _ ⟨fb,h,rfl⟩ le1;cases h
   refine uAa ?_;refine zz2 ?_;simp only[RT,aB7,if_pos g13,if_neg g17,hdn];exact⟨fb,rfl,rfl⟩
  rintro _ _ _ ⟨_,h,_⟩;cases h
 rcases hdisp with ⟨hm,hdn⟩|⟨fn,r,hm,hds,hsp⟩
 case inl=>exact absurd h40 (by rw[hm];simp)
 refine zz7 ?_;refine bL (congrArg some (by rw[hm];rfl)) rfl hsp (.cons .here .nil) rfl (fun _ _=>bQ _ _) ?_ ?_
 ·rintro _ _ _ hTr le1;obtain⟨e,p,ht,fb,h,rfl⟩:=bR hTr;cases h
  refine uAa ?_;refine zz2 ?_;simp only[RT,aB7,if_pos g13,if_neg g17,hds,ht];exact⟨fb,rfl,rfl⟩
 rintro _ K1 _ hTr leK1;obtain⟨t,ht,hrep,rfl⟩:=bS hTr;clear hTr;refine zz4 ?_;refine uAa ?_;refine bD rfl rfl leK1 ?_;simp only[RT,aB7,if_pos g13,if_neg g17,hds,ht];exact⟨_,rfl,hrep,rfl⟩
theorem aYQ(s:List UInt8)(needs:List (List UInt8))(Tf:St→Res (Tree×St))(st:St):aB7 s needs 7 Tf st=Syn.test s needs 0 st:=by
 unfold aB7 Syn.test;simp
theorem aYP(s:List UInt8)(needs:List (List UInt8))(n:Nat)(dp:Int)(h:dp≤6)(st:St):aB7 s needs dp (Syn.test s needs n) st=Syn.test s needs (n+1) st:=by
 unfold aB7;rw[Syn.test,if_neg (show ¬6 < dp by omega)] <;> split <;> first|rfl|(cases qI s needs (Syn.test s needs n) st <;> rfl)
theorem bEZ(b:Nat)(s:List UInt8)(nv n1:Value)(cb tb:Nat)(needs:List (List UInt8)):∀(n:Nat),n≤7→∀(K:Hl),PE s needs nv cb tb K→aBV s b [nv,n1,.map (some cb),.map (some tb)] K (7 - n) (Syn.test s needs n):=by
 intro n;induction n with
 |zero=>
  intro _ K hp st K' le hok;have h:=aOP b s st 7 nv n1 cb tb needs K' (Syn.test s needs 0) (hp.mono le) hok ⟨by decide,by decide⟩ (rO 0) (fun h=>absurd h (by decide));rw[aYQ]at h;exact h
 |succ n ih=>
  intro hn K hp st K' le hok;have h := aOP b s st (7 - (n + 1 : Nat)) nv n1 cb tb needs K' (Syn.test s needs n) (hp.mono le) hok ⟨by omega, by omega⟩ (rO n) (fun _ => by
   have:=ih aI K' (hp.mono le);rw[show ((7:Int) - ((n+1:Nat):Int)+1)=7 - (n:Nat)from by omega];exact this)
  rw[aYP s needs n _ aI]at h;exact h
theorem aYH(b:Nat)(s:List UInt8)(st:St)(at_ dp:Int)(nv:Value)(rest:List Value)(needs:List (List UInt8))(K:Hl)(hp:PK s needs nv K)(hok:Ok s st):
  Sp Tryz.prog 163 [ptr b,i64 at_,i64 dp] K [psb b s st (nv::rest)] (RT s b (nv::rest) (yF s needs st)):=by
 refine(bKB b s st at_ dp nv rest needs K hp.hs hok hp.hg hp.hv hp.hn).mono fun e K' L' h=>?_;unfold RT yF;cases hs:setC s needs st with
 |error p=>rw[hs]at h;exact h
 |ok r=>
  rw[hs]at h;obtain⟨v,rfl,_,rfl,rfl⟩:=h;exact⟨_,rfl,⟨_,_,rfl,rfl⟩,rfl⟩
theorem bGB(b:Nat)(s:List UInt8)(st:St)(dp:Int)(nv:Value)(rest:List Value)(needs:List (List UInt8))(K:Hl)(Tf Bf:St→Res (Tree×St))(hp:PK s needs nv K)(hok:Ok s st)(hd:0≤dp∧dp≤6)(hTa:Adv s Tf)(hBa:AdvE s Bf)(hT:aBV s b (nv::rest) K (dp+1) Tf)(hB:aIX s b (nv::rest) K (dp+1) Bf)
  {cb tb:Nat} (ht:Tabs K cb tb):∃es c,K cb=some (mapO es c)∧
  ((mget es st.2.s=none∧cmdD s needs Tf Bf st=none)∨∃fn caps r,mget es st.2.s=some (.func (.func fn) #[] caps)∧cmdD s needs Tf Bf st=some r∧Sp Tryz.prog fn ([ptr b,i64 st.2.at_,i64 dp]++caps.toList) K [psb b s st (nv::rest)] (RT s b (nv::rest) r)):=by
 obtain⟨c1,c2,c3,d1,e1,d2,e2,d3,e3,h0,k1,k2,k3,k4,k5,k6,k7,k8,k9⟩:=ht.cmds;refine⟨_,_,h0,?_⟩
 unfold cmdD;simp only[j7,aTQ]
 by_cases h1:st.2.s=vG
 ·simp only[if_pos h1];exact .inr ⟨_,_,_,rfl,rfl,xP b s st st.2.at_ dp _ c1 _ _ _ K hp.hs hok hp.hg k1 (fun K=>bOG _ K) (fun K=>aUG K _ _ _)⟩
 simp only[if_neg h1]
 by_cases h2:st.2.s=kS
 ·simp only[if_pos h2];exact .inr ⟨_,_,_,rfl,rfl,xP b s st st.2.at_ dp _ c2 _ _ _ K hp.hs hok hp.hg k2 (fun K=>bOH _ K) (fun K=>aK9 K _)⟩
 simp only[if_neg h2]
 by_cases h3:st.2.s=mP
 ·simp only[if_pos h3];exact .inr ⟨_,_,_,rfl,rfl,xP b s st st.2.at_ dp _ c3 _ _ _ K hp.hs hok hp.hg k3 (fun K=>bOI _ K) (fun K=>aK9 K _)⟩
 simp only[if_neg h3]
 by_cases h4:st.2.s=fG
 ·simp only[if_pos h4];exact .inr ⟨_,_,_,rfl,rfl,wO b s st st.2.at_ dp nv rest needs d1 e1 _ _ K hp.hs hok hp.hg hp.hv hp.hn k4 k5⟩
 simp only[if_neg h4]
 by_cases h5:st.2.s=nU
 ·simp only[if_pos h5];exact .inr ⟨_,_,_,rfl,rfl,wO b s st st.2.at_ dp nv rest needs d2 e2 _ _ K hp.hs hok hp.hg hp.hv hp.hn k6 k7⟩
 simp only[if_neg h5]
 by_cases h6:st.2.s=eW
 ·simp only[if_pos h6];exact .inr ⟨_,_,_,rfl,rfl,wO b s st st.2.at_ dp nv rest needs d3 e3 _ _ K hp.hs hok hp.hg hp.hv hp.hn k8 k9⟩
 simp only[if_neg h6]
 by_cases h7:st.2.s=aH6
 ·simp only[if_pos h7];exact .inr ⟨_,_,_,rfl,rfl,aYH b s st st.2.at_ dp nv rest needs K hp hok⟩
 simp only[if_neg h7]
 by_cases h8:st.2.s=txIf
 ·simp only[if_pos h8];exact .inr ⟨_,_,_,rfl,rfl,aME b s st _ st.2.at_ dp K Tf Bf hp.hs hok hp.hg hd hTa hBa hT hB⟩
 simp only[if_neg h8];exact .inl (by simp)
def cmdG(s:List UInt8)(needs:List (List UInt8))(dp:Int)(Tf Bf:St→Res (Tree×St))(st:St):Option (Res (Tree×St)):=if 6 < dp then some (.error (5,st.2.at_))else cmdD s needs Tf Bf st
theorem aI9(b:Nat)(s:List UInt8)(st:St)(dp:Int)(nv n1:Value)(cb tb:Nat)(needs:List (List UInt8))(K:Hl)(Tf Bf:St→Res (Tree×St))(hp:PE s needs nv cb tb K)(hok:Ok s st)(hd:0≤dp∧dp≤7)(hTa:Adv s Tf)(hBa:AdvE s Bf)
  (hT:dp≤6→aBV s b [nv,n1,.map (some cb),.map (some tb)] K (dp+1) Tf) (hB:dp≤6→aIX s b [nv,n1,.map (some cb),.map (some tb)] K (dp+1) Bf) (r0:Res (Tree×St)) (hr0:kI s (cmdG s needs dp Tf Bf) (mu s st+1) .cnil st=r0):
  Sp Tryz.prog 105 [ptr b,i64 dp] K [psb b s st [nv,n1,.map (some cb),.map (some tb)]] (RB s b [nv,n1,.map (some cb),.map (some tb)] r0):=by
 have ha:=hok.1;obtain⟨hpk,htabs⟩:=hp;refine a8 Tryz.func105 rfl Tryz.ntmps105 rfl rfl fun F w=>?_;refine zz12 ?_;refine n8 (fun(K2:Hl) (st2:St) (us:List (Cell×Cell)) (v:Value)=>K.le K2∧Ok s st2∧us.length+mu s st2≤1300∧∃acc f,isCL acc=true∧Rep K2 acc us∧mu s st2≤f∧r0=kI s (cmdG s needs dp Tf Bf) (f+1) acc st2) (fun _ _ _ v=>[(0,ptr b),(1,i64 dp),(5,v)]) (fun K2 _ _ _=>K2) (fun _ st2 us v=>[sl false (e7 224) v (us.map Prod.fst),psb b s st2 [nv,n1,.map (some cb),.map (some tb)]]) (fun _ st2 _ _=>mu s st2) K st [] (.slice none 0 0) ⟨Hl.le_refl _,hok,by have:=aEJ s st;have:=hpk.hs;simp;omega,.cnil,mu s st,rfl,rfl,Nat.le_refl _,hr0.symm⟩ (.cons 0 rfl (.cons 1 rfl (.cons 5 rfl .nil))) rfl (eF (e7 224)) ?_;intro K2 st2 us v ⟨leL,hok2,hus,acc,f,hacc,hrp,hf,hx⟩;refine zz12 ?_;refine bK 15 rfl (fun h15=>?_) (fun h15=>?_)
 ·have g15:st2.2.kind=1:=by omega
  refine zz21 ?_;refine bK 23 rfl (fun h23=>?_) (fun h23=>?_)
  ·have g23:cmdG s needs dp Tf Bf st2=some (.error (5,st2.2.at_)):=if_pos aI;refine zz2 ?_;refine bL rfl rfl (gO 5 st2.2.at_ _) .nil rfl gAG ?_ ?_
   ·rintro _ _ _ ⟨fb,h,rfl⟩ le1;cases h
    refine uAa ?_;refine zz5 ?_;refine bX (Hl.le_trans leL le1) ?_;simp only[RB,hx,kI,if_pos g15,g23];exact⟨fb,rfl,rfl⟩
   rintro _ _ _ ⟨_,h,_⟩;cases h
  have g23:cmdG s needs dp Tf Bf st2=cmdD s needs Tf Bf st2:=if_neg aI;obtain⟨es,ec,hes,hdisp⟩:=bGB b s st2 dp nv _ needs _ Tf Bf (hpk.mono leL) hok2 ⟨hd.1,by omega⟩ hTa hBa (fun st3 K3 lx ho=>hT aI st3 K3 (Hl.le_trans leL lx) ho) (fun st3 K3 lx ho=>hB aI st3 K3 (Hl.le_trans leL lx) ho) (htabs.mono leL);refine zz3 ?_;refine dD (anc:=[0,1,3,7,0,16,48,112,240,496,1023,2047,4095,4095,8191,32767]) (ord:=[0,1,2,3,4,5,6,7,8,9,10,11,12,13,14,15]) [] [] mixed gAH (dI _) ?_;refine zz10 ?_;refine aK rfl rfl (.none rfl) rfl rfl (wZ Tryz.underlying205 Tryz.underlying9 bU1 rfl rfl (.known hes)) rfl ?_;refine zz11 ?_;refine aA gAF rfl ?_;refine zz2 ?_;refine eO 41 rfl (fun h41=>?_) (fun h41=>?_)
  ·rcases hdisp with ⟨hm,hdn⟩|⟨fn,caps,r,hm,hds,hsp⟩
   case inr=>exact absurd h41 (by rw[hm];simp)
   refine zz2 ?_;refine bL rfl rfl (lH b s st2 _ _) (.cons (.there .here) .nil) rfl gAG ?_ ?_
   ·rintro _ _ _ ⟨fb,h,rfl⟩ le1;cases h
    refine uAa ?_;refine zz5 ?_;refine bX (Hl.le_trans leL le1) ?_;simp only[RB,hx,kI,if_pos g15,g23,hdn];exact⟨fb,rfl,rfl⟩
   rintro _ _ _ ⟨_,h,_⟩;cases h
  rcases hdisp with ⟨hm,hdn⟩|⟨fn,caps,r,hm,hds,hsp⟩
  case inl=>exact absurd h41 (by rw[hm];simp)
  refine zz8 ?_;refine bL (congrArg some (by rw[hm];rfl)) rfl hsp (.cons (.there .here) .nil) rfl (fun _ _=>bQ _ _) ?_ ?_
  ·rintro _ _ _ hTr le1;obtain⟨e,p,hc2,fb,h,rfl⟩:=bR hTr;cases h
   refine uAa ?_;refine zz4 ?_;refine bX (Hl.le_trans leL le1) ?_;simp only[RB,hx,kI,if_pos g15,g23,hds,hc2];exact⟨fb,rfl,rfl⟩
  rintro _ K3 _ hTr leK3;obtain⟨c2,hc2,⟨ty2,u2,rfl,hrep2⟩,rfl⟩:=bS hTr;clear hTr;have hm2:=aJE hTa hBa hok2 aI (by rw[hds,hc2]);refine cC (bH (z0:=[.nilIface]) aAG bU8 rfl rfl rfl rfl (.cons rfl rfl rfl (.cons .nil) .nil)) rfl ?_;rintro _ K _ ⟨b50,rfl,rfl,rfl⟩ -;refine cC (dN (k:=(e7 224)) (ys:=[⟨.iface ty2 u2,rfl⟩]) aLT rfl rfl (.there (.there .here)) (fun w j=>dE Tryz.underlying135 (SeesSl.at (.blk (.own .here) rfl rfl) j)) gAI gAE) rfl ?_;rintro v51 K _ ⟨rfl,rfl,ho51⟩ -;refine zz3 ?_;obtain⟨f0,rfl⟩:∃f0,f=f0+1:=⟨f - 1,by omega⟩;obtain⟨hr3,hr4⟩:=bDV hrep2 hacc (hrp.mono leK3);refine uAm ?_;refine gS _ c2.2 (us++[(⟨.iface ty2 u2,rfl⟩,u0)]) _ ⟨Hl.le_trans leL leK3,hm2.1,by simp;omega,acc.snocC c2.1,f0,hr4,hr3,by omega,?_⟩ aI (.cons 0 rfl (.cons 1 rfl (.cons 5 rfl .nil))) rfl (by rw[List.map_append];exact fun _ h=>h)
  simp only[hx,kI,if_pos g15,g23,hds,hc2]
 have g15:¬st2.2.kind=1:=by omega
 refine zz12 ?_;refine uAj ?_;refine bD rfl rfl leL ?_;simp only[RB,hx,kI,if_neg g15];exact⟨_,rfl,us,hrp,hacc,rfl⟩
theorem bBD(s:List UInt8)(needs:List (List UInt8))(Tf Bf:St→Res (Tree×St))(st:St):kI s (cmdG s needs 7 Tf Bf) (mu s st+1) .cnil st=Syn.block s needs 0 st:=by
 unfold kI Syn.block
 by_cases h:st.2.kind=1
 ·rw[if_pos h,if_pos h];rfl
 rw[if_neg h,if_neg h]
theorem bBC(s:List UInt8)(needs:List (List UInt8))(dp:Int)(h:dp≤6)(Tf Bf:St→Res (Tree×St)):cmdG s needs dp Tf Bf=cmdD s needs Tf Bf:=by
 funext st;unfold cmdG;rw[if_neg aI]
theorem aWF(b:Nat)(s:List UInt8)(nv n1:Value)(cb tb:Nat)(needs:List (List UInt8)):∀(n:Nat),n≤7→∀(K:Hl),PE s needs nv cb tb K→aIX s b [nv,n1,.map (some cb),.map (some tb)] K (7 - n) (Syn.block s needs n):=by
 intro n;induction n with
 |zero=>
  intro _ K hp st K' le hok;have h:=aI9 b s st 7 nv n1 cb tb needs K' (Syn.test s needs 0) (Syn.block s needs 0) (hp.mono le) hok ⟨by decide,by decide⟩ (rO 0) (aAQ 0) (fun h=>absurd h (by decide)) (fun h=>absurd h (by decide)) _ (bBD s needs _ _ st);exact h
 |succ n ih=>
  intro hn K hp st K' le hok;have e:((7:Int) - ((n+1:Nat):Int)+1)=7 - (n:Nat):=by omega
  have h:=aI9 b s st (7 - (n+1:Nat)) nv n1 cb tb needs K' (Syn.test s needs n) (Syn.block s needs n) (hp.mono le) hok ⟨by omega,by omega⟩ (rO n) (aAQ n)
   (fun _=>by rw[e];exact bEZ b s nv n1 cb tb needs n aI K' (hp.mono le)) (fun _=>by rw[e];exact ih aI K' (hp.mono le)) _ (by rw[bBC s needs _ aI])
  exact h
theorem aXZ(b2 b3:Nat)(K:Hl)(L:List Asn):SpD Tryz.prog 99 [ptr b2,ptr b3] K L .returning fun e u' K' L'=>u'=.returning∧(e=.returned (.tuple #[])∧K'=K∧L'=L):=by
 refine aQ3 (rv:=.nilIface) (u':=.returning) Tryz.func99 rfl Tryz.ntmps99 rfl rfl rfl rfl aB3 fun F w=>?_;refine zz9 ?_;exact⟨rfl,rfl,rfl⟩
theorem aXY(b2 b3 fb:Nat)(v1 v2:Value)(K:Hl):SpD Tryz.prog 99 [ptr b2,ptr b3] K [pt b3 (aZ [v2] 79),pt b2 (aZ [v1] 87)] (.panicking [{v:=.iface 118 (ptr fb),recovered:=false}])
  fun e u' K' L'=>u'=.panicking [{v:=.iface 118 (ptr fb),recovered:=true}]∧(e=.returned (.tuple #[])∧K'=K∧L'=[pt b3 (aZ [.iface 118 (ptr fb)] 79),pt b2 (aZ [.pointer none] 87)]):=by
 refine aQ3 (rv:=.iface 118 (ptr fb)) (u':=.panicking [{v:=.iface 118 (ptr fb),recovered:=true}]) Tryz.func99 rfl Tryz.ntmps99 rfl rfl rfl rfl aB2 fun F w=>?_;refine zz10 ?_;refine aA (jI Tryz.underlying118 (fun _ h=>by cases h) rfl) rfl ?_;refine zz11 ?_;refine aA gAF rfl ?_;refine zz7 ?_;refine aA (cY Tryz.underlying118 (fun _ h=>by cases h) rfl) rfl ?_;refine cA (bP aRM rfl rfl cJ bF .zero rfl) ?_;rintro _ K _ ⟨rfl,rfl⟩ -;refine uAx ?_;rintro _ K _ ⟨rfl,rfl⟩ -;refine zz2 ?_;exact⟨rfl,rfl,rfl⟩
def bQM(s:List UInt8)(v:Value)(K:Hl):Prop:=
 (600 < s.length∧v=.tuple #[.pointer none,.iface 30 (i64 1)])∨
 (s.length≤600∧((∃b r,eD s=.ok r∧v=.tuple #[ptr b 6,.nilIface]∧ScriptAt K b r.1 r.2)∨(∃fb e p,eD s=.error (e,p)∧v=.tuple #[.pointer none,.iface 118 (ptr fb)]∧K fb=some (aZ [i64 e,i64 p] 123))))
abbrev aV3(s:List UInt8):Ending→Hl→List Asn→Prop:=Ret fun v K' L'=>bQM s v K'∧L'=[]
theorem pJ{n:Nat}{w:World}{F K0 K:Hl}{fr:Fr}{b2 b3 fb:Nat}{v1 v2:Value}{e p:Int}{s:List UInt8}(g2:fr.get 2=some (ptr b2))(g3:fr.get 3=some (ptr b3))(le:K0.le K)(hs:s.length≤600)(h:eD s=.error (e,p)):
  D ⟨Tryz.prog,n,[dfr 99 #[ptr b2,ptr b3]],w,F⟩ (.panic [{v:=.iface 118 (ptr fb),recovered:=false}]) fr K [pt fb (aZ [i64 e,i64 p] 123),pt b3 (aZ [v2] 79),pt b2 (aZ [v1] 87)] (aDA Tryz.prog Tryz.f57 w F K0 (aV3 s)):=by
 refine kE fun K1 le1 hfb=>?_;refine bGL (.pan _) rfl aRM aFC g2 g3 (.cons .here (.cons .here .nil)) (aXY b2 b3 fb v1 v2 K1) rfl ?_;rintro _ _ _ ⟨rfl,rfl,rfl⟩;exact⟨⟨_,rfl⟩,fun le2=>⟨_,_,[],fun _ hh=>fL hh,⟨_,rfl,.inr ⟨hs,.inr ⟨fb,e,p,h,rfl,hfb⟩⟩,rfl⟩,Hl.le_trans le le1⟩⟩
theorem aN3{n:Nat}{w:World}{F K0 K:Hl}{fr:Fr}{b2 b3 b:Nat}{s:List UInt8}{r:List (List UInt8)×Tree}(g2:fr.get 2=some (ptr b2))(g3:fr.get 3=some (ptr b3))(le:K0.le K)(hs:s.length≤600)(h:eD s=.ok r)(hat:ScriptAt K b r.1 r.2):
  D ⟨Tryz.prog,n,[dfr 99 #[ptr b2,ptr b3]],w,F⟩ .ret fr K [pt b3 (aZ [.nilIface] 79),pt b2 (aZ [ptr b 6] 87)] (aDA Tryz.prog Tryz.f57 w F K0 (aV3 s)):=by
 refine bGL .ret rfl aRM aFC g2 g3 (.cons .here (.cons .here .nil)) (aXZ b2 b3 K _) rfl ?_;rintro _ _ _ ⟨rfl,rfl,rfl⟩;exact⟨⟨_,rfl⟩,fun le2=>⟨_,_,[],fun _ hh=>fL hh,⟨_,rfl,.inr ⟨hs,.inl ⟨b,r,h,rfl,hat⟩⟩,rfl⟩,le⟩⟩
theorem aHA(b:Nat)(s:List UInt8)(nv n1:Value)(cb tb:Nat)(needs:List (List UInt8))(K:Hl)(hp:PE s needs nv cb tb K)(st:St)(hok:Ok s st):Sp Tryz.prog 105 [ptr b,i64 0] K [psb b s st [nv,n1,.map (some cb),.map (some tb)]] (RB s b [nv,n1,.map (some cb),.map (some tb)] (Syn.block s needs 7 st)):=
 aWF b s nv n1 cb tb needs 7 (Nat.le_refl _) K hp st K (Hl.le_refl _) hok
theorem aX1(s:List UInt8)(K:Hl)(hg:Glob K):Sp Tryz.prog 57 [str s] K [] (aV3 s):=by
  refine aLN Tryz.func57 rfl Tryz.ntmps57 rfl rfl fun F w=>?_;refine zz3 ?_;rintro _ K _ ⟨b2,rfl,rfl,rfl⟩ -;refine zz1 ?_;rintro _ K _ ⟨b3,rfl,rfl,rfl⟩ -;refine zz10 ?_;refine bK 9 rfl (fun h9=>?_) (fun h9=>?_)
  · refine zz2 ?_;refine aA (cY Tryz.underlying30 (fun _ h=>by cases h) rfl) rfl ?_;refine cA (bP aRM rfl rfl cJ bF .zero rfl) ?_;rintro _ K _ ⟨rfl,rfl⟩ -;refine uAx ?_;rintro _ K _ ⟨rfl,rfl⟩ -;refine zz4 ?_;refine bL9 rfl aRM aFC rfl rfl (.cons (.there .here) (.cons .here .nil)) (Hl.le_refl _) ?_;exact⟨_,rfl,.inl ⟨by omega,rfl⟩,rfl⟩
  have hs:s.length≤600:=by omega
  refine zz5 ?_;refine aT0 rfl ?_;refine zz5 ?_;refine aA (cL bUL bSC (.cons rfl rfl rfl (.cons .nil) .nil)) rfl ?_;refine aA (cL bUM bSD (.cons rfl rfl rfl (.cons (.cons (.cons (.cons (.cons (.cons .nil)))))) .nil)) rfl ?_;refine zz1 ?_;rintro _ K _ ⟨b15,rfl,rfl,rfl⟩ -;refine zz6 ?_;refine aX rfl rfl (aVB b15 s (0,⟨0,[],0,0⟩) _ _ _) (.cons .here .nil) rfl ?_;rintro _ K1 _ ⟨rfl,cb,tb,htab,rfl⟩ leT;refine zz7 ?_;refine bL rfl rfl (eS b15 208 s 0 _ _ _ _ _ hs (Nat.zero_le _) _ (hg.mono leT)) (.cons .here .nil) rfl (fun _ _=>bQ _ _) ?_ ?_
  · rintro _ _ _ hTr le1;obtain⟨e,p,hr,fb,h,rfl⟩:=bR hTr;cases h
    refine uAq ?_;refine aP ?_;exact pJ rfl rfl (Hl.le_trans leT le1) hs (by simp only[eD,hr])
  rintro _ K _ hTr -;obtain⟨r,hr,rfl,rfl,rfl⟩:=bS hTr;clear hTr;have hro:=gG (Nat.zero_le _) hr;refine zz4 ?_;refine n7 (fun(st2:St) (ns:List (List UInt8)) (sv:Value)=>Ok s st2∧ns.length+mu s st2≤1300∧∃f,mu s st2≤f∧eD s=jL s (reqF s (f+1) ns st2)) (fun _ _ _=>[(2,ptr b2),(3,ptr b3),(4,ptr b15)]) (fun _ _ _=>K) (fun st2 ns sv=>[sl false (bN 9) sv ns,psb b15 s st2 [sv,.slice none 0 0,.map (some cb),.map (some tb)],pt b3 (aZ [.nilIface] 79),pt b2 (aZ [.pointer none] 87)]) (fun st2 _ _=>mu s st2) r [] (.slice none 0 0) ⟨hro,by have:=aEJ s r;simp;omega,mu s r,Nat.le_refl _,by simp only[eD,hr]⟩ (.cons 2 rfl (.cons 3 rfl (.cons 4 rfl .nil))) rfl (eF (bN 9)) ?_;intro st2 ns sv ⟨hok2,hns,f,hf,hx⟩;refine zz11 ?_;refine cH 29 rfl (fun g29=>?_) (fun g29=>?_)
  · have g29:st2.2.kind=1:=by omega
    refine zz17 ?_;refine bK 37 rfl (fun h37=>?_) (fun h37=>?_)
    · have gc:st2.2.kind=1∧st2.2.s=dY:=⟨by omega,h37⟩;refine zz8 ?_;refine bL rfl rfl (eS b15 208 s st2.1 _ _ _ _ _ hs hok2.1 _ (hg.mono leT)) (.cons (.there .here) .nil) rfl (fun _ _=>bQ _ _) ?_ ?_
      · rintro _ _ _ hTr le1;obtain⟨e,p,hr2,fb,h,rfl⟩:=bR hTr;cases h
        refine uAr ?_;refine zz5 ?_;exact pJ rfl rfl (Hl.le_trans leT le1) hs (by simp only[hx,reqF,jL,if_pos gc,hr2])
      rintro _ K _ hTr -;obtain⟨r2,hr2,rfl,rfl,rfl⟩:=bS hTr;clear hTr;have hm2:=lR hok2.1 aI hr2;have hro2:=gG hok2.1 hr2;refine zz6 ?_;refine cC (bH (z0:=[(str []),(str []),(str []),(str [])]) cG tz9 rfl rfl rfl rfl (.cons rfl rfl rfl (.cons .nil) (.cons rfl rfl rfl (.skip (.cons .nil)) (.cons rfl rfl rfl (.skip (.skip (.cons .nil))) (.cons rfl rfl rfl (.skip (.skip (.skip (.cons .nil)))) .nil))))) rfl ?_;rintro _ K _ ⟨b43,rfl,rfl,rfl⟩ -;refine fT fun Ka leA hKa=>?_;refine aX rfl rfl (qS 6 _ _ rfl) .nil rfl ?_;rintro _ Kb _ ⟨c1,c2,rfl,hc1,hc2,rfl⟩ leB;refine bL rfl rfl (xG b15 s r2 _ 192 #[ptr c1,ptr c2] (Syn.oneOf 6 rY) _ hs hro2 (hg.mono (Hl.le_trans leT (Hl.le_trans leA leB))) (fun x hx=>pI x 6 rY _ c1 c2 _ hc1 hc2 (.inr ⟨b43,0,4,[str fF,str fG,str eW,str dB],(0,0),rfl,⟨_,leB _ _ hKa⟩,rfl⟩) (by simp[rY]))) (.cons .here .nil) rfl (fun _ _=>bQ _ _) ?_ ?_
      · rintro _ _ _ hTr le1;obtain⟨e,p,hl,fb,h,rfl⟩:=bR hTr;cases h
        refine uAr ?_;refine zz6 ?_;exact pJ rfl rfl (Hl.le_trans leT (Hl.le_trans leA (Hl.le_trans leB le1))) hs (by simp only[hx,reqF,jL,if_pos gc,hr2,hl])
      rintro v45 K _ hTr -;obtain⟨l,hl,rfl,rfl⟩:=bS hTr;clear hTr;have hlo:=q8 hro2 hl;have hll:=zJ hro2 hl;refine uAd ?_;refine zz4 ?_;refine n7 (fun(i:Nat) (ms:List (List UInt8)) (sw:Value)=>i≤l.1.length∧ms=gL ns (l.1.take i)∧ms.length≤ns.length+i) (fun i _ _=>[(2,ptr b2),(3,ptr b3),(4,ptr b15),(45,v45),(46,i64 l.1.length),(47,i64 i)]) (fun _ _ _=>_) (fun i ms sw=>[sl false (bN 9) v45 l.1,psb b15 s l.2 [sw,.slice none 0 0,.map (some cb),.map (some tb)],sl false (bN 9) sw ms,pt b3 (aZ [.nilIface] 79),pt b2 (aZ [.pointer none] 87)]) (fun i _ _=>l.1.length - i) 0 ns sv ⟨Nat.zero_le _,rfl,Nat.le_refl _⟩ (.cons 2 rfl (.cons 3 rfl (.cons 4 rfl (.cons 45 rfl (.cons 46 rfl (.cons 47 rfl .nil)))))) rfl (fun _ h=>h) ?_;intro i ms sw ⟨hi0,hms,hml⟩;refine zz6 ?_;refine bK 48 rfl (fun h48=>?_) (fun h48=>?_)
      · have hilt:i < l.1.length:=by omega
        obtain⟨e,he⟩:∃e,l.1[i]?=some e:=⟨l.1[i]'hilt,List.getElem?_eq_getElem hilt⟩;refine zz6 ?_;refine aA (bE (k:=(bN 9)) cG rfl aM rfl rfl gAD) rfl ?_;refine uAg ?_;refine zz9 ?_;refine aX rfl rfl (aS7 b15 e ms _ 208 sw _ [psb b15 s l.2 [sw,.slice none 0 0,.map (some cb),.map (some tb)],sl false (bN 9) sw ms] (.own .here) rfl (.own (.there .here)) (by have:=aEJ s r2;omega)) (.cons (.there .here) (.cons (.there .here) .nil)) rfl ?_;rintro _ K _ ⟨rfl,rfl,rfl⟩ -;refine aA gAF rfl ?_;refine zz2 ?_;refine eO 56 rfl (fun h56=>?_) (fun h56=>?_)
        · refine zz8 ?_;refine cC (bH (z0:=[(str [])]) cG tz9 rfl rfl rfl rfl (.cons rfl rfl rfl (.cons .nil) .nil)) rfl ?_;rintro _ K _ ⟨b64,rfl,rfl,rfl⟩ -;refine cC (dN (k:=(bN 9)) (ys:=[e]) fS rfl rfl (.there (.there .here)) (fun w j=>dE Tryz.underlying39 (SeesSl.at (.blk (.own .here) rfl rfl) j)) gAI gAE) rfl ?_;rintro v65 K _ ⟨rfl,rfl,ho65⟩ -;refine zz3 ?_;refine cA (bP iS rfl rfl cJ bF (.succ (.succ (.succ (.succ (.succ (.succ .zero)))))) rfl) ?_;rintro _ K _ ⟨rfl,rfl⟩ -;refine zz7 ?_
          (refine aU (.cons (.there (.there (.there .here))) (.cons (.there (.there .here)) (.cons .here (.cons (.there .here) (.cons (.there .here) .nil))))) ?_
           refine iU (i+1) (ms++[e]) _ ⟨by omega,by rw[aBW he,←hms];unfold addN;rw[if_neg (by simpa using h56)],by simp;omega⟩ aI (.cons 2 rfl (.cons 3 rfl (.cons 4 rfl (.cons 45 rfl (.cons 46 rfl (.cons 47 rfl .nil)))))) rfl fM)
        refine zz7 ?_
        (refine aU (.cons (.there (.there .here)) (.cons .here (.cons .here (.cons .here (.cons .here .nil))))) ?_
         refine iU (i+1) ms _ ⟨by omega,by rw[aBW he,←hms];unfold addN;rw[if_pos (by simpa using h56)],by omega⟩ aI (.cons 2 rfl (.cons 3 rfl (.cons 4 rfl (.cons 45 rfl (.cons 46 rfl (.cons 47 rfl .nil)))))) rfl fM)
      have hms2:ms=gL ns l.1:=(by rw[hms,aO9 aI]);subst hms2;refine zz7 ?_;refine bL rfl rfl (nM b15 s l.2 _ [59] _ hs hlo.1.1 (hg.mono (Hl.le_trans leT (Hl.le_trans leA leB)))) (.cons (.there .here) .nil) rfl (fun _ _=>bQ _ _) ?_ ?_
      · rintro _ _ _ hTr le1;obtain⟨e,p,hq4,fb,h,rfl⟩:=bR hTr;cases h
        refine aU (.cons .here (.cons (.there (.there .here)) (.cons (.there (.there .here)) .nil))) ?_;refine zz4 ?_;exact pJ rfl rfl (Hl.le_trans leT (Hl.le_trans leA (Hl.le_trans leB le1))) hs (by simp only[hx,reqF,jL,if_pos gc,hr2,hl,hq4])
      rintro _ K _ hTr -;obtain⟨q4,hq4,rfl,rfl,rfl⟩:=bS hTr;clear hTr;refine zz2 ?_;obtain⟨f0,rfl⟩:∃f0,f=f0+1:=⟨f - 1,by omega⟩;have hm4:=jO hlo.1 hq4;refine aU (.cons (.there (.there .here)) (.cons .here (.cons (.there .here) (.cons (.there .here) .nil)))) ?_;refine yT (Hl.le_trans leA leB) ?_;refine iU q4 (gL ns l.1) _ ⟨hm4.1,by omega,f0,by omega,?_⟩ aI (.cons 2 rfl (.cons 3 rfl (.cons 4 rfl .nil))) rfl fM
      simp only[hx,reqF,jL,if_pos gc,hr2,hl,hq4]
    have gc:¬(st2.2.kind=1∧st2.2.s=dY):=(fun h=>h37 h.2);refine zz7 ?_;refine gX fun K5 leN hN=>?_;have leN2:=Hl.le_trans leT leN;refine zz2 ?_;refine bL rfl rfl (aHA b15 s sv _ cb tb ns _ ⟨⟨hs,hg.mono leN2,hN,by omega⟩,htab.mono leN⟩ st2 hok2) (.cons .here .nil) rfl (fun _ _=>bQ _ _) ?_ ?_
    · rintro _ _ _ hTr le1;obtain⟨e,p,hbb,fb,h,rfl⟩:=bR hTr;cases h
      refine uAq ?_;refine aP ?_;exact pJ rfl rfl (Hl.le_trans leN2 le1) hs (by simp only[hx,reqF,jL,if_neg gc,hbb])
    rintro _ K6 _ hTr leK6;obtain⟨bb,hbb,⟨ys,hrep,hcl,rfl⟩⟩:=bS hTr;clear hTr;refine gX fun K7 leS hS=>?_;obtain⟨sa,sn,sc,rfl⟩:=hS.isSlice;have leS2:=Hl.le_trans leN2 (Hl.le_trans leK6 leS);refine zz3 ?_;refine cA (bP aL0 rfl rfl cJ bF (.succ (.succ (.succ (.succ (.succ (.succ (.succ .zero))))))) rfl) ?_;rintro _ K _ ⟨rfl,rfl⟩ -;refine zz14 ?_;refine bK 84 rfl (fun h84=>?_) (fun h84=>?_)
    · have g84:¬bb.2.2.kind=0:=by omega
      refine zz2 ?_;refine bL rfl rfl (lH b15 s bb.2 _ _) (.cons .here .nil) rfl gAG ?_ ?_
      · rintro _ _ _ ⟨fb,h,rfl⟩ le1;cases h
        refine uAq ?_;refine aP ?_;exact pJ rfl rfl (Hl.le_trans leS2 le1) hs (by simp only[hx,reqF,jL,if_neg gc,hbb,if_neg g84])
      rintro _ _ _ ⟨_,h,_⟩;cases h
    have g84:bb.2.2.kind=0:=by omega
    refine zz7 ?_;refine cA (bP aRM rfl rfl cJ bF .zero rfl) ?_;rintro _ K _ ⟨rfl,rfl⟩ -;refine uAx ?_;rintro _ K _ ⟨rfl,rfl⟩ -;refine zz3 ?_;refine kE fun K8 leP hP=>?_;refine aN3 (r:=(ns,bb.1)) rfl rfl (Hl.le_trans leS2 leP) hs ?_ ⟨_,_,_,ys,_,hP,rfl,rfl,hN.mono (Hl.le_trans leK6 (Hl.le_trans leS leP)),hS.mono leP,hrep.mono (Hl.le_trans leS leP),hcl⟩
    simp only[hx,reqF,jL,if_neg gc,hbb,if_pos g84]
  have gc:¬(st2.2.kind=1∧st2.2.s=dY):=(fun h=>by omega);refine zz18 ?_;refine gX fun K5 leN hN=>?_;have leN2:=Hl.le_trans leT leN;refine zz2 ?_;refine bL rfl rfl (aHA b15 s sv _ cb tb ns _ ⟨⟨hs,hg.mono leN2,hN,by omega⟩,htab.mono leN⟩ st2 hok2) (.cons .here .nil) rfl (fun _ _=>bQ _ _) ?_ ?_
  · rintro _ _ _ hTr le1;obtain⟨e,p,hbb,fb,h,rfl⟩:=bR hTr;cases h
    refine uAq ?_;refine aP ?_;exact pJ rfl rfl (Hl.le_trans leN2 le1) hs (by simp only[hx,reqF,jL,if_neg gc,hbb])
  rintro _ K6 _ hTr leK6;obtain⟨bb,hbb,⟨ys,hrep,hcl,rfl⟩⟩:=bS hTr;clear hTr;refine gX fun K7 leS hS=>?_;obtain⟨sa,sn,sc,rfl⟩:=hS.isSlice;have leS2:=Hl.le_trans leN2 (Hl.le_trans leK6 leS);refine zz3 ?_;refine cA (bP aL0 rfl rfl cJ bF (.succ (.succ (.succ (.succ (.succ (.succ (.succ .zero))))))) rfl) ?_;rintro _ K _ ⟨rfl,rfl⟩ -;refine zz14 ?_;refine bK 84 rfl (fun h84=>?_) (fun h84=>?_)
  · have g84:¬bb.2.2.kind=0:=by omega
    refine zz2 ?_;refine bL rfl rfl (lH b15 s bb.2 _ _) (.cons .here .nil) rfl gAG ?_ ?_
    · rintro _ _ _ ⟨fb,h,rfl⟩ le1;cases h
      refine uAq ?_;refine aP ?_;exact pJ rfl rfl (Hl.le_trans leS2 le1) hs (by simp only[hx,reqF,jL,if_neg gc,hbb,if_neg g84])
    rintro _ _ _ ⟨_,h,_⟩;cases h
  have g84:bb.2.2.kind=0:=by omega
  refine zz7 ?_;refine cA (bP aRM rfl rfl cJ bF .zero rfl) ?_;rintro _ K _ ⟨rfl,rfl⟩ -;refine uAx ?_;rintro _ K _ ⟨rfl,rfl⟩ -;refine zz3 ?_;refine kE fun K8 leP hP=>?_;refine aN3 (r:=(ns,bb.1)) rfl rfl (Hl.le_trans leS2 leP) hs ?_ ⟨_,_,_,ys,_,hP,rfl,rfl,hN.mono (Hl.le_trans leK6 (Hl.le_trans leS leP)),hS.mono leP,hrep.mono (Hl.le_trans leS leP),hcl⟩
  simp only[hx,reqF,jL,if_neg gc,hbb,if_pos g84]
end Go.Proofs
end
section
namespace Go.SL.R
theorem dl_round{E:Env}{ops:Array Oper}{eff stg:List Nat}{S:List Asn}{r:List Nat}{fr:Fr}{K:Hl}{M:List Asn}{Q:Post}{i:Nat}{d:Nat}{ty:TypeId}{pos:String}{aft:Array Edge}{g:Option (Nat×Bool)}{fv:Operand}{xs:List Operand}{ats:Array TypeId}{l:Nat}{vs:List Value}{L1 L2:List Asn}{R:Bool→Hl→List Asn→Prop}
  (ho:ops[i]?=some ⟨some d,.call ⟨.value fv,xs.toArray,ats⟩,ty,pos,aft,g⟩) (hg:GOk ops fr ⟨some d,.call ⟨.value fv,xs.toArray,ats⟩,ty,pos,aft,g⟩ true) (he:stg.contains i=true)
  (hf:fr.ev fv=some (.func (.yield l) #[] #[])) (hx:fr.evs xs=some vs) (hs:Yl E.P l vs K L1 R) (hL:Tks L1 (S++M) L2) (hn:Nat.blt d E.n=true)
  (h:∀b K' L',R b K' L'→K.le K'→DL E ops eff stg (L'++L2) r ((d,.bool b)::fr) K' [] Q):DL E ops eff stg S (i::r) fr K M Q:=by
 intro a fo;unfold DX;simp only[ho,hg.wanted fo,if_true,he];intro w j;obtain⟨F',i1,back⟩:=(j.imp hL.sat).hide;obtain⟨fn,tm,x,y,hy,hr⟩:=hs F' w i1;refine .inr (.inr (.inr ⟨l,fn,tm,x,y,w,?_,hr.mono fun e w' ⟨b,K',L',q1,q,le,j'⟩=>?_⟩))
 ·have e1:Array.map a.eval xs.toArray=vs.toArray:=by simp[fo.evs hx]
  simp only[execOp,resolve,e1,fo.ev hf,Deferred.ofValue,bind,pure,Sem.bind,invoke,Array.empty_append];exact hy
 subst q1;exact⟨K',L'++L2,[],le,by simpa using back j',h b K' L' q le _ (fo.put hn _)⟩
end Go.SL.R
end
section
namespace Go.SL
open R (Yl)
abbrev dblk(D:Nat):Asn:=pt D (.deferred (some []))
def bPC(P:Program)(fn:Func)(w0:World)(F K0:Hl)(R:Ending→Hl→List Asn→Prop):Post:=
 bodyPostM Fence.wide 0 P fn fun e w'=>∃K' L',R e K' L'∧K0.le K'∧In w0 F K' L' w'
theorem aU4{P:Program}{f:FuncId}{fn:Func}{c:Code}{args:List Value}{n:Nat}{K:Hl}{L:List Asn}{R:Ending→Hl→List Asn→Prop}
  (hf:P.funcs[f]?=some fn) (hb:fn.body=some c) (hn:fn.ntmps=n) (hl:Nat.ble args.length n=true) (hname:(fn.name== "runtime.NumGoroutine")=false)
  (h:∀(F:Hl) (w:World),T ⟨P,n,[],w,F⟩ c (Fr.init 0 args n) K L (bPC P fn w F K R)):Sp P f args K L R:=by
 refine⟨⟨fn,hf,hname,by simp[hb]⟩,fun F w i=>callsIn_wide.1 (callsIn_of_wp_marks (n:=0) hf hb trivial (wpIn_wide.2 (h F w _ _ ⟨rfl,?_,?_⟩ i)))⟩
 ·have:args.length≤n:=Nat.le_of_ble_eq_true hl;simp[hn];omega
 intro k v e;obtain⟨_,h2⟩:=zI e;have hk:k < args.length:=by
  rcases Nat.lt_or_ge k args.length with h|h
  ·exact h
  simp[List.getElem?_eq_none h]at h2
 show (args.toArray++Array.replicate _ _)[k]?=some v
 rw[Array.getElem?_append_left gCE]
 simpa using h2
theorem aZ4{P:Program}{fn:Func}{tmps:Array Value}{R:Ending→World→Prop}{u:FrameMode}(hu:u≠.run){w0:World}{F K:Hl}{L:List Asn}(fin:∀w',In w0 F K L w'→LeavesIn Fence.wide 0 P fn tmps R [] u w'):
  ∀(ds:List Nat) (w:World),In w0 F K (ds.map dblk++L) w→LeavesInM Fence.wide 0 P fn tmps R (ds.map mrk) u w
 | [],w,i=>fin w i
 |d::ds,w,i=>by
  have hp:=i.piece;refine⟨hu,.inl ⟨d,_,rfl,run_takeDeferred hp,aZ4 hu fin ds _ ?_⟩⟩
  have hlt:d < w.heap.size:=(Array.getElem?_eq_some_iff.1 hp).1;exact(i.write (o':=.deferred none) (H:=w.heap.setIfInBounds d (.deferred none)) (by simp) (by simp[hlt]) (fun x hx=>by rw[Array.getElem?_setIfInBounds_ne (Ne.symm hx)])).drop
section
variable{P:Program}{fn:Func}{n:Nat}{w0:World}{F K0 K:Hl}{fr:Fr}{L:List Asn}{R:Ending→Hl→List Asn→Prop}
theorem aPI{t:Nat}{v:Value}{L0:List Asn}(ds:List Nat)(hr:fn.results= #[.tmp t])(ht:fr.get t=some v)(hL:∀h,Sat L0 h→Sat (ds.map dblk++L) h)(le:K0.le K)(h:R (.returned v) K L):
  D ⟨P,n,ds.map mrk,w0,F⟩ .ret fr K L0 (bPC P fn w0 F K0 R):=fun a w f i=>by
 show LeavesInM Fence.wide 0 P fn a.tmps _ a.defers .returning w
 rw[f.defers];refine aZ4 (by simp) (fun w' j=>?_) ds w (i.imp hL)
 exact⟨v,by rw[results_tmp hr];simp[f.get _ _ ht],K,L,h,le,j⟩
end
section
variable{E:Env}{fr:Fr}{K:Hl}{L L1 L2:List Asn}{Q:Post}
theorem bAM{g:Operand}{ps:Array Tmp}{assign body:Code}{f:FuncId}{caps:Array Value}{RR:Loop→Nat→Nat→Ending→Hl→List Asn→Prop}(hg:fr.ev g=some (.func (.func f) #[] caps))(hL:Tks L1 L L2)
  (hs : ∀ (r : Loop) (l d : Nat), r.state = .ready → r.pending = none → r.params = ps → r.assign = assign → r.body = body → r.tmps.size = E.n → (∀ k v, fr.get k = some v → r.tmps[k]? = some v) →
   Sp E.P f (.func (.yield l) #[] #[]::caps.toList) K (pt l (.loop r)::dblk d::L1) (RR r l d))
  (hend : ∀ r l d e K' L', RR r l d e K' L' → K.le K' → ∃ v r' M, e = .returned v ∧ (∀ h, Sat L' h → Sat (pt l (.loop r') :: M) h) ∧ r'.state ≠ .busy ∧
   match r'.pending with
   |none=>D (E.mark d) .normal fr K' (M++L2) Q
   |some c=>T (E.mark d) c fr K' (M++L2) Q):
  T E (.rangeFunc g ps assign body) fr K L Q:=by
 intro a w fo i;refine(wpIn_wide (n:=0)).1 (wpIn_rangeFunc fun fn _=>?_)
 let r:Loop:={state:=.ready,pending:=none,fn,tmps:=a.tmps,params:=ps,assign,body,defers:=w.heap.size}
 have i3:=(i.alloc (.deferred (some []))).alloc (.loop r);have hsz:({w with heap:=w.heap.push (.deferred (some []))}:World).heap.size=w.heap.size+1:=by simp
 rw[hsz]at i3;obtain⟨F',i1,back⟩:=(i3.imp (M:=(pt (w.heap.size+1) (.loop r)::dblk w.heap.size::L1)++L2) (fun h=>fE fun h=>fE fun h k=>hL.sat h k)).hide;have hs':=hs r (w.heap.size+1) w.heap.size rfl rfl rfl rfl rfl fo.size fo.get;obtain⟨⟨fd,g1,g2,g3⟩,hcall⟩:=hs';have ev:∀x:Value,a.eval (.const x)=x:=fun _=>rfl
 refine⟨w.heap.size+1,[mrk w.heap.size],_,{target:=.fn (.func f) caps,args:= #[.func (.yield (w.heap.size+1)) #[] #[]]},(w.alloc (.deferred (some []))).alloc (.loop r),f,(.func (.yield (w.heap.size+1)) #[] #[]::caps.toList).toArray,(w.alloc (.deferred (some []))).alloc (.loop r),run_enterLoop_outer fn a.tmps ps assign body,?_,fun _ _=>trivial,?_,fun h=>Bool.noConfusion h,callsIn_wide.2 ((hcall F' _ i1).mono fun e w' ⟨K',L',q,le,j⟩=>?_)⟩
 ·simp only[resolve,rangeCall,fo.ev hg,Deferred.ofValue,bind,pure,Sem.bind,List.map_toArray,List.map_cons,List.map_nil,ev,Array.empty_append]
  rfl
 ·have e2: #[Value.func (.yield (w.heap.size+1)) #[] #[]]++caps=(.func (.yield (w.heap.size+1)) #[] #[]::caps.toList).toArray:=by simp
  simp only[invoke];rw[e2];exact yY g1 g2 g3 _
 obtain⟨v,r',M,rfl,hM,hst,hgo⟩:=hend _ _ _ _ _ _ q le;have j2:In E.w0 E.F K' (pt (w.heap.size+1) (.loop r')::(M++L2)) w':=(back j).imp fun h k=>by
  obtain⟨x,y,hx,hy,hd,rfl⟩:=gE.1 k;exact gE (L:=pt (w.heap.size+1) (.loop r')::M).2 ⟨x,y,hM _ hx,hy,hd,rfl⟩
 have hp:=j2.piece;have hlt:w.heap.size+1 < w'.heap.size:=(Array.getElem?_eq_some_iff.1 hp).1;have j3:In E.w0 E.F K' (M++L2) (w'.putObj (w.heap.size+1) (.loop {r' with state:=.exhausted})):=
  (j2.write (o':=.loop {r' with state:=.exhausted}) (H:=w'.heap.setIfInBounds (w.heap.size+1) (.loop {r' with state:=.exhausted})) (by simp) (by simp[hlt]) (fun x hx=>by rw[Array.getElem?_setIfInBounds_ne (Ne.symm hx)])).drop
 have fo':FrOk E.n (mrk w.heap.size::E.ds) fr {a with defers:=[mrk w.heap.size]++a.defers}:=⟨by simp[fo.defers],fo.size,fo.get⟩;refine⟨r'.pending,_,run_endLoop hp hst,?_⟩
 generalize w'.putObj (w.heap.size+1) (.loop {r' with state:=.exhausted})=W at j3 ⊢
 cases hpe:r'.pending with
 |none=>rw[hpe]at hgo;exact hgo _ _ fo' j3
 |some c=>rw[hpe]at hgo;exact wpIn_wide.2 (hgo _ _ fo' j3)
end
def TR(E:Env)(l:Nat)(c:Code)(fr:Fr)(K:Hl)(L:List Asn)(Q:Post):Prop:=
 ∀a w,FrOk E.n E.ds fr a→In E.w0 E.F K L w→c.wpIn (Fence.wide.inRound l) 0 E.P Q a w
def OR(E:Env)(l:Nat)(ops:Array Oper)(os:List Oper)(fr:Fr)(K:Hl)(L:List Asn)(Q:Post):Prop:=
 ∀a w,FrOk E.n E.ds fr a→In E.w0 E.F K L w→wpListIn (Fence.wide.inRound l) 0 E.P ops Q os a w
section
variable{E:Env}{fr:Fr}{K:Hl}{L:List Asn}{Q:Post}{c x y:Code}{ops:Array Oper}{rest:List Oper}{l:Nat}
theorem bOX(h:D E .normal fr K L Q):TR E l .skip fr K L Q:=fun a w f i=>wpIn_skip (h a w f i)
theorem bOW{id:Nat}(h:D E (.exit id) fr K L Q):TR E l (.exit id) fr K L Q:=fun a w f i=>wpIn_exit (h a w f i)
theorem aVS{id:Nat}(h:TR E l c fr K L (Exit.inBlock id Q)):TR E l (.block id c) fr K L Q:=fun a w f i=>wpIn_block (h a w f i)
theorem aO1{id:Nat}{os:List Oper}(h:OR E l os.toArray os fr K L Q):TR E l (.region id os.toArray false) fr K L Q:=fun a w f i=>wpIn_region_lit (h a w f i)
theorem bI4(h:D E .normal fr K L Q):OR E l ops [] fr K L Q:=fun a w f i=>wpListIn_nil (h a w f i)
def bAB:Op→Bool| .defer _=>false|_=>true
theorem aCX{o:Oper}(h:bAB o.op=true):∀c,o.op≠.defer c:=fun c e=>by rw[e]at h;cases h
theorem bI3{d:Nat}{op:Op}{ty:TypeId}{pos:String}{aft:Array Edge}{v:Value}(hv:Ev E fr K L ⟨some d,op,ty,pos,aft,none⟩ v)(hd:Nat.blt d E.n=true)(ho:bAB op=true)
  (h:OR E l ops rest ((d,v)::fr) K L Q):OR E l ops (⟨some d,op,ty,pos,aft,none⟩::rest) fr K L Q:=by
 intro a w f i;refine wpListIn_plain rfl fun k hk=>⟨fun _ _=>trivial,?_⟩
 rw[Oper.semAt_eq _ _ _ (aCX ho),hv a w f i];exact hk _ _ (h _ _ (f.put hd v) i)
theorem bTU{d:Nat}{op:Op}{ty:TypeId}{pos:String}{aft:Array Edge}{N:Value→Hl→List Asn→Prop}(hv:EfS E fr K L ⟨some d,op,ty,pos,aft,none⟩ N)(hd:Nat.blt d E.n=true)(ho:bAB op=true)
  (h:∀v K' L',N v K' L'→K.le K'→OR E l ops rest ((d,v)::fr) K' L' Q):OR E l ops (⟨some d,op,ty,pos,aft,none⟩::rest) fr K L Q:=by
 intro a w f i;refine wpListIn_plain rfl fun k hk=>⟨fun _ _=>trivial,?_⟩
 rw[Oper.semAt_eq _ _ _ (aCX ho)];obtain⟨u,w',K',L',hr,hN,le,j⟩:=hv a w f i;rcases hr with hr|⟨hr,rfl⟩
 ·rw[hr];exact hk _ _ (h _ _ _ hN le _ _ (f.put hd u) j)
 rw[hr];exact hk _ _ (h _ _ _ hN le _ _ (f.put hd _) j)
theorem bTV{op:Op}{ty:TypeId}{pos:String}{aft:Array Edge}{N:Value→Hl→List Asn→Prop}(hv:EfS E fr K L ⟨none,op,ty,pos,aft,none⟩ N)(ho:bAB op=true)
  (h:∀v K' L',N v K' L'→K.le K'→OR E l ops rest fr K' L' Q):OR E l ops (⟨none,op,ty,pos,aft,none⟩::rest) fr K L Q:=by
 intro a w f i;refine wpListIn_plain rfl fun k hk=>⟨fun _ _=>trivial,?_⟩
 rw[Oper.semAt_eq _ _ _ (aCX ho)];obtain⟨u,w',K',L',hr,hN,le,j⟩:=hv a w f i;rcases hr with hr|⟨hr,rfl⟩
 ·rw[hr];exact hk _ _ (h _ _ _ hN le _ _ f j)
 rw[hr];exact hk _ _ (h _ _ _ hN le _ _ f j)
end
end Go.SL
namespace Go.Loop
abbrev bz(r:Loop):Loop:={r with state:=.busy}
end Go.Loop
namespace Go.SL
open R (Yl)
def bS3(P:Program)(l:Nat)(r:Loop)(w0:World)(F K0:Hl)(R:Bool→Hl→List Asn→Prop):Post
 | .normal,_,w=>∃K' M,In w0 F K' (pt l (.loop r.bz)::M) w∧K0.le K'∧R true K' (pt l (.loop r.on)::M)
 | .exit id,_,w=>∃K' M,In w0 F K' (pt l (.loop r.bz)::M) w∧K0.le K'∧R false K' (pt l (.loop (r.off (.exit id)))::M)
 |_,_,_=>False
theorem bQJ{P:Program}{l p n:Nat}{r:Loop}{v:Value}{fr0 fr1:Fr}{K:Hl}{L:List Asn}{R:Bool→Hl→List Asn→Prop}(hr:r.state=.ready)(hp:r.params= #[p])(hpn:Nat.blt p n=true)(hsz:r.tmps.size=n)
  (hfr:∀k v,fr0.get k=some v→r.tmps[k]?=some v)
  (hA:∀(F:Hl) (w:World) (Q:Post),D ⟨P,n,[],w,F⟩ .normal fr1 K (pt l (.loop r)::L) Q→TR ⟨P,n,[],w,F⟩ l r.assign ((p,v)::fr0) K (pt l (.loop r)::L) Q)
  (hB:∀(F:Hl) (w:World),TR ⟨P,n,[],w,F⟩ l r.body fr1 K (pt l (.loop r.bz)::L) (bS3 P l r w F K R)):Yl P l [v] K (pt l (.loop r)::L) R:=by
 intro F w i;have hc:=i.piece;refine⟨r.fn,_,r.assign,r.body,run_yield hc (by simp[hp]),roundIn_of_wpIn trivial ?_⟩
 have f0:FrOk n [] ((p,v)::fr0) {tmps:=r.tmps.setIfInBounds p v,defers:=[]}:=FrOk.put (a:={tmps:=r.tmps,defers:=[]}) ⟨rfl,hsz,hfr⟩ hpn v;have e0:(r.params.zip [v].toArray).foldl (fun tmps (t,a)=>tmps.setIfInBounds t a) r.tmps=r.tmps.setIfInBounds p v:=by simp[hp]
 rw[e0];refine hA F w _ (fun a₁ w₁ f₁ j=>?_) _ _ f0 i
 have hc1:=j.piece;refine⟨_,run_beginRound hc1 hr,?_⟩
 have hlt:l < w₁.heap.size:=(Array.getElem?_eq_some_iff.1 hc1).1;have j2:In w F K (pt l (.loop r.bz)::L) (w₁.putObj l (.loop r.bz)):=
  j.write (o':=.loop r.bz) (H:=w₁.heap.setIfInBounds l (.loop r.bz)) (by simp) (by simp[hlt]) (fun x hx=>by rw[Array.getElem?_setIfInBounds_ne (Ne.symm hx)])
 refine wpIn_mono (hB F w _ _ f₁ j2) fun e a w' q=>?_;have fin:∀(jump:Option Code) (K':Hl) (M:List Asn) (r':Loop),In w F K' (pt l (.loop r.bz)::M) w'→K.le K'→r'={r.bz with state:=if jump.isNone then .ready else .done,pending:=jump}→R jump.isNone K' (pt l (.loop r')::M)→
   ∃v w'',(Instr.endRound l jump).run P w'=.ok v w''∧∃b K' L',Ending.returned v=.returned (.bool b)∧R b K' L'∧K.le K'∧In w F K' L' w'':=by
  intro jump K' M r' j le er hR;have hc2:=j.piece;have hlt2:l < w'.heap.size:=(Array.getElem?_eq_some_iff.1 hc2).1;refine⟨_,_,run_endRound jump hc2,jump.isNone,K',_,rfl,hR,le,?_⟩
  subst er;exact j.write (H:=w'.heap.setIfInBounds l _) (by simp) (by simp[hlt2]) (fun x hx=>by rw[Array.getElem?_setIfInBounds_ne (Ne.symm hx)])
 cases e with
 |normal=>obtain⟨K',M,j,le,hR⟩:=q;exact fin none K' M _ j le rfl hR
 |exit id=>obtain⟨K',M,j,le,hR⟩:=q;exact fin (some (.exit id)) K' M _ j le rfl hR
 |goto t=>exact q.elim
 |ret=>exact q.elim
 |panic ch=>exact q.elim
 |outgrown=>exact q.elim
theorem bLT{P:Program}{l:Nat}{vs:List Value}{K:Hl}{L L':List Asn}{R:Bool→Hl→List Asn→Prop}(k:∀h,Sat L h→Sat L' h)(h:Yl P l vs K L' R):Yl P l vs K L R:=
 fun F w i=>h F w (i.imp k)
theorem bA1{P:Program}{l:Nat}{vs:List Value}{K:Hl}{L:List Asn}{R R':Bool→Hl→List Asn→Prop}(h:Yl P l vs K L R)(k:∀b K' L',R b K' L'→∃L'',(∀h,Sat L' h→Sat L'' h)∧R' b K' L''):Yl P l vs K L R':=by
 intro F w i;obtain⟨fn,t,x,y,e,hr⟩:=h F w i;refine⟨fn,t,x,y,e,hr.mono fun en w' ⟨b,K',L',e1,r,le,j⟩=>?_⟩
 obtain⟨L'',hs,r'⟩:=k _ _ _ r;exact⟨b,K',L'',e1,r',le,j.imp hs⟩
theorem bTS{r:Loop}(h1:r.state=.ready)(h2:r.pending=none):r.on=r:=by cases r;simp_all
theorem aUP{A B:List Asn}{h:Hl}(k:Sat (A++B) h):Sat (B++A) h:=by
 obtain⟨a,b,ha,hb,hd,rfl⟩:=gE.1 k;exact gE.2 ⟨b,a,hb,ha,hd.symm,Hl.join_comm hd⟩
section
variable{E:Env}{fr:Fr}{K:Hl}{L:List Asn}{Q:Post}{c:Code}
theorem bOK{ι:Type}(I:ι→Prop)(ds':ι→List Deferred)(fr':ι→Fr)(K':ι→Hl)(L':ι→List Asn)(μ:ι→Nat)(i0:ι)(h0:I i0)(hd:ds' i0=E.ds)(k:Kp fr (fr' i0))(hK:K' i0=K)(hL:∀h,Sat L h→Sat (L' i0) h)
  (round:∀i,I i→T ⟨E.P,E.n,ds' i,E.w0,E.F⟩ c (fr' i) (K' i) (L' i) (Exit.then (fun a w=>∃j,I j∧μ j < μ i∧FrOk E.n (ds' j) (fr' j) a∧In E.w0 E.F (K' j) (L' j) w) Q)):T E (.loop c) fr K L Q:=by
 intro a w f i b kk cs;have key:∀n j,μ j=n→I j→∀a w,FrOk E.n (ds' j) (fr' j) a→In E.w0 E.F (K' j) (L' j) w→
   ∃e a' w',Q e a' w'∧Arrives E.P (lone (b.at a (.code c::.inLoop c::kk)) cs w) b kk cs e a' w':=by
  intro n;induction n using Nat.strongRecOn with
  |_ n ih=>
   intro j hj hIj a w f i;obtain⟨e,a₁,w₁,hq,harr⟩:=round j hIj a w f i b (.inLoop c::kk) cs;cases e with
   |normal=>
    obtain⟨j',hI',hlt,f',i'⟩:=hq;obtain⟨e₂,a₂,w₂,hq₂,harr₂⟩:=ih _ (hj▸hlt) j' rfl hI' _ _ f' i';exact⟨e₂,a₂,w₂,hq₂,.of_steps (Steps.trans harr (.one step_inLoop)) harr₂⟩
   |exit id=>exact⟨_,a₁,w₁,hq,.pass (x:=.inLoop c) rfl (fun _ _=>.inl (by simp)) harr⟩
   |goto l=>exact⟨_,a₁,w₁,hq,.pass (x:=.inLoop c) rfl (fun _ _=>.inl (by simp)) harr⟩
   |ret=>exact⟨_,a₁,w₁,hq,.pass (x:=.inLoop c) rfl (fun _ _=>.inl (by simp)) harr⟩
   |panic ch=>exact⟨_,a₁,w₁,hq,.pass (x:=.inLoop c) rfl (fun _ _=>.inl (by simp)) harr⟩
   |outgrown=>exact⟨_,a₁,w₁,hq,.pass (x:=.inLoop c) rfl (fun _ _=>.inl (by simp)) harr⟩
 have f0:FrOk E.n (ds' i0) (fr' i0) a:=by rw[hd];exact f.keep k
 obtain⟨e,a',w',hq,harr⟩:=key _ i0 rfl h0 a w f0 (by rw[hK];exact i.imp hL);exact⟨e,a',w',hq,.of_steps (.one step_loop) harr⟩
theorem bGO{ι:Type}{P:Program}{n:Nat}{ds:List Deferred}{w0:World}{F:Hl}{I:ι→Prop}{ds':ι→List Deferred}{fr':ι→Fr}{K':ι→Hl}{L':ι→List Asn}{μ:ι→Nat}{m:Nat}(j:ι)(hj:I j)(hlt:μ j < m)(hd:ds' j=ds)(k:Kp fr (fr' j))(hK:K' j=K)(hL:∀h,Sat L h→Sat (L' j) h):
  D ⟨P,n,ds,w0,F⟩ .normal fr K L (Exit.then (fun a w=>∃j,I j∧μ j < m∧FrOk n (ds' j) (fr' j) a∧In w0 F (K' j) (L' j) w) Q):=
 fun a w f i=>⟨j,hj,hlt,by rw[hd];exact f.keep k,by rw[hK];exact i.imp hL⟩
end
end Go.SL
end
section
namespace Go.SL
open Go.MapKept
abbrev keyA(i j:Nat):Value:=.agg #[i64 i,i64 j]
abbrev EntA:=(Nat×Nat)×Nat
def entA(p:EntA):MapEntry:={key:=keyA p.1.1 p.1.2,val:=i64 1,born:=p.2}
abbrev mapA(es:List EntA)(c:Nat):Obj:=.map (es.map entA).toArray c
structure KeyA (P:Program) (kt:TypeId):Prop where
 arr:∃e,P.underlying kt=some (.array 2 e)∧P.underlying e=some (.int .i64)∧P.plainKey e=true∧P.cellsOf e=1∧∃i,P.info? e=some i
section
variable{P:Program}{w:World}{kt:TypeId}
theorem eqA(h:KeyA P kt)(a b c d:Nat):(Op.equal kt (keyA a b) (keyA c d)).run P w=.ok (decide ((a,b)=(c,d))) w:=by
 obtain⟨e,h1,h2,h3,h4,i,h5⟩:=h.arr
 show (Op.equalIn (9999+1) kt _ _).run P w=_
 rw[run_equalIn_array w 9999 _ _ h1 h5,h4];have p:∀(x y:Nat) (o:Nat) (v:Value),(#[i64 x,i64 y]:Array Value)[o]?=some v→(part e #[i64 x,i64 y] o).run P w=.ok v w:=fun x y o v h=>run_part_plain w h3 h
 have q:∀(x y:Nat),(Op.equalIn 9999 e (i64 x) (i64 y)).run P w=.ok ((x:Int)==y) w:=fun x y=>run_equalIn_int w 9998 e .i64 .i64 x y h2
 show (Op.eqItems 9999 e 1 _ _ [0,1]).run P w=_
 unfold Op.eqItems;rw[aV (p a b 0 (i64 a) rfl),aV (p c d 0 (i64 c) rfl),aV (q a c)]
 by_cases h:a=c
 ·subst h;rw[if_neg (by simp)];unfold Op.eqItems;rw[aV (p a b 1 (i64 b) rfl),aV (p a d 1 (i64 d) rfl),aV (q b d)]
  by_cases h2:b=d
  ·subst h2;simp[Op.eqItems,pure,Sem.run]
  rw[if_pos gAI];simp[h2,pure,Sem.run]
 rw[if_pos gAI];simp[h,pure,Sem.run]
theorem bF6(h:KeyA P kt)(b:Bool)(i j:Nat):(Instr.checkKey b 10000 kt (keyA i j)).run P w=.ok () w:=by
 obtain⟨e,h1,h2,h3,h4,inf,h5⟩:=h.arr;have p:∀(o:Nat) (v:Value),(#[i64 i,i64 j]:Array Value)[o]?=some v→(part e #[i64 i,i64 j] o).run P w=.ok v w:=fun o v h=>run_part_plain w h3 h
 have c:∀(n:Nat),(Instr.checkKey b 9999 e (i64 n)).run P w=.ok () w:=fun n=>run_checkKey h2 (d:=.int .i64) (k:=i64 n) (by trivial) b 9998
 have s:(sizeOf e).run P w=.ok 1 w:=by rw[run_sizeOf w h5,h4]
 show (Instr.checkKey b (9999+1) kt _).run P w=_
 unfold Instr.checkKey;rw[aV (run_underlying h1 w)];simp only[Std.Legacy.Range.forIn_eq_forIn_range',Std.Legacy.Range.size];simp[List.range'_succ,Sem.run_bind,s,Result.andThen,p 0 (i64 i) rfl,p 1 (i64 j) rfl,c]
def yQ(k:Nat×Nat):List EntA→Nat→Option (Nat×Value)
 | [],_=>none
 |e::es,i=>if k=e.1 then some (i,i64 1)else yQ k es (i+1)
theorem bVN(h:KeyA P kt)(k:Nat×Nat):∀(es:List EntA) (i:Nat),(Instr.findAsking kt (keyA k.1 k.2) (es.map entA) i).run P w=.ok (yQ k es i) w:=by
 intro es;induction es with
 |nil=>intro i;rfl
 |cons e es ih=>
  intro i
  show (Instr.findAsking kt (keyA k.1 k.2) (entA e::es.map entA) i).run P w=_
  unfold Instr.findAsking yQ;rw[show (entA e).key=keyA e.1.1 e.1.2 from rfl,aV (eqA h k.1 k.2 e.1.1 e.1.2)]
  by_cases hk:k=e.1
  ·rw[if_pos (decide_eq_true (show (k.1,k.2)=(e.1.1,e.1.2)from hk)),if_pos hk];rfl
  rw[if_neg (fun h=>hk (of_decide_eq_true h)),if_neg hk];exact ih _
theorem bPI(h:KeyA P kt)(k:Nat×Nat)(es:List EntA):(Instr.findKey kt (keyA k.1 k.2) (es.map entA)).run P w=.ok (yQ k es 0) w:=by
 obtain⟨e,h1,_⟩:=h.arr;unfold Instr.findKey;rw[aV (run_underlying h1 w)];cases es with
 |nil=>rfl
 |cons x xs=>exact bVN h k (x::xs) 0
theorem aMP(k:Nat×Nat):∀(es:List EntA) (i:Nat),(yQ k es i).isSome=decide (k∈es.map (·.1)):=by
 intro es;induction es with
 |nil=>intro i;simp[yQ]
 |cons e es ih=>
  intro i;unfold yQ
  by_cases hk:k=e.1
  ·simp[hk]
  rw[if_neg hk,ih];simp[hk]
end
section
variable{E:Env}{fr:Fr}{K:Hl}{L L':List Asn}{Q:Post}{dst:Option Tmp}{ty:TypeId}{pos:String}{aft:Array Edge}{g:Option (Nat×Bool)}{x y m:Operand}{t kt et b c i j:Nat}{v z:Value}{es:List EntA}
theorem aW0(hm:E.P.underlying t=some (.map kt et))(hk:KeyA E.P kt)(hz:gH E.P et=some z)(hx:fr.ev x=some (.map (some b)))(hy:fr.ev y=some (keyA i j))(hs:Sees K L b (mapA es c)):
  Ev E fr K L ⟨dst,.lookup t x y true,ty,pos,aft,g⟩ (.tuple #[if (i,j)∈es.map (·.1)then i64 1 else z,.bool (decide ((i,j)∈es.map (·.1)))]):=fun a w f q=>by
 simp only[execOp,f.ev hx,f.ev hy];refine eR ?_;have hb:=hs.at q;have h1:(Instr.checkKey (es.map entA).toArray.isEmpty 10000 kt (keyA i j)).run E.P w=.ok () w:=bF6 hk _ i j;have h2:(Instr.findKey kt (keyA i j) (es.map entA)).run E.P w=_:=bPI (w:=w) hk (i,j) es;have h3:(zeroValue et).run E.P w=.ok z w:=by
  unfold gH at hz;cases hi:E.P.info? et with
  |none=>simp[hi]at hz
  |some inf=>simp[hi]at hz;simp only[zeroValue,typeInfo,program,bind,Sem.bind,pure,Sem.run,hi,hz]
 have h4:=aMP (i,j) es 0;have h5:∀(es:List EntA) (o:Nat) (p:Nat×Value),yQ (i,j) es o=some p→p.2=i64 1:=by
  intro es;induction es with
  |nil=>intro o p h;cases h
  |cons e es ih=>
   intro o p h;unfold yQ at h;split at h
   ·cases h;rfl
   exact ih _ _ h
 unfold Instr.lookup;rw[aV (run_underlying hm w)];simp only[]
 show ((getObj b)>>=fun _=>_).run E.P w=_
 rw[aV (MapKept.run_getObj_map hb)];simp only[];rw[aV (vS _ _),aV h1]
 show ((Instr.findKey kt (keyA i j) (es.map entA))>>=fun _=>_).run E.P w=_
 rw[aV h2];cases hf:yQ (i,j) es 0 with
 |some p=>
  rw[hf]at h4;have hm:(i,j)∈es.map (·.1):=by simpa using h4.symm
  rw[if_pos hm,decide_eq_true hm,←h5 es 0 p hf];rfl
 |none=>
  rw[hf]at h4;have hm:¬(i,j)∈es.map (·.1):=by simpa using h4.symm
  rw[if_neg hm,decide_eq_false hm]
  show ((zeroValue et)>>=fun _=>_).run E.P w=_
  rw[aV h3];rfl
theorem bR2(hm:E.P.underlying t=some (.map kt et))(hk:KeyA E.P kt)(hx:fr.ev m=some (.map (some b)))(hy:fr.ev x=some (keyA i j))(hv:fr.ev y=some (i64 1))(hn:(i,j)∉es.map (·.1))
  (hF:Fnd (pt b (mapA es c)) (pt b (mapA (es++[((i,j),c)]) (c+1))) L L'):EfS E fr K L ⟨dst,.mapUpdate t m x y,ty,pos,aft,g⟩ (fun _ K' L''=>K'=K∧L''=L'):=by
 intro a w f q;have hb:=q.mem hF;have h1:(Instr.checkKey false 10000 kt (keyA i j)).run E.P w=.ok () w:=bF6 hk _ i j;have h2:(Instr.findKey kt (keyA i j) (es.map entA)).run E.P w=_:=bPI (w:=w) hk (i,j) es;have hf:yQ (i,j) es 0=none:=by
  have:=aMP (i,j) es 0;rw[decide_eq_false hn]at this
  simpa using this
 have hr:(execOp a.eval ⟨dst,.mapUpdate t m x y,ty,pos,aft,g⟩).run E.P w=.ok .skip {w with heap:=w.heap.setIfInBounds b (mapA (es++[((i,j),c)]) (c+1))}:=by
  simp only[execOp,f.ev hx,f.ev hy,f.ev hv];have:(Instr.mapUpdate t (.map (some b)) (keyA i j) (i64 1)).run E.P w=.ok () {w with heap:=w.heap.setIfInBounds b (mapA (es++[((i,j),c)]) (c+1))}:=by
   unfold Instr.mapUpdate;rw[aV (run_underlying hm w)];simp only[]
   show ((getObj b)>>=fun _=>_).run E.P w=_
   rw[aV (MapKept.run_getObj_map hb)];simp only[];rw[aV h1]
   show ((Instr.findKey kt (keyA i j) (es.map entA))>>=fun _=>_).run E.P w=_
   rw[aV h2,hf]
   show (setObj b _).run E.P w=_
   rw[MapKept.run_setObj_map _ hb];have e1:(es.map entA).toArray.push {key:=keyA i j,val:=i64 1,born:=c}=((es++[((i,j),c)]).map entA).toArray:=by simp[entA]
   rw[e1]
  rw[aV this];rfl
 have hs:=MapKept.heap_set (o':=mapA (es++[((i,j),c)]) (c+1)) hb;exact⟨_,_,_,_,.inr ⟨hr,rfl⟩,⟨rfl,rfl⟩,Hl.le_refl _,q.writeAt hF (by simp) hs.1 hs.2⟩
end
theorem bBW{E:Env}{fr:Fr}{K:Hl}{L:List Asn}{dst:Option Tmp}{ty:TypeId}{pos:String}{aft:Array Edge}{g:Option (Nat×Bool)}{x y:Operand}{t:TypeId}{a b:Int}(hk:KeyA E.P t)(hz:gH E.P t=some (.agg #[i64 0,i64 0]))(hx:fr.ev x=some (i64 a))(hy:fr.ev y=some (i64 b)):
  Ev E fr K L ⟨dst,.build t #[(0,x),(1,y)],ty,pos,aft,g⟩ (.agg #[i64 a,i64 b]):=fun ac w f j=>by
 obtain⟨e,h1,h2,h3,h4,inf,h5⟩:=hk.arr;have hz3:(zeroValue t).run E.P w=.ok (.agg #[i64 0,i64 0]) w:=by
  unfold gH at hz;cases hi:E.P.info? t with
  |none=>simp[hi]at hz
  |some inf=>simp[hi]at hz;simp only[zeroValue,typeInfo,program,bind,Sem.bind,pure,Sem.run,hi,hz]
 have s:(sizeOf e).run E.P w=.ok 1 w:=by rw[run_sizeOf w h5,h4]
 simp only[execOp];refine eR ?_;have em:Array.map (fun(p:Nat×Operand)=>(p.1,ac.eval p.2)) #[(0,x),(1,y)]= #[(0,i64 a),(1,i64 b)]:=by simp[f.ev hx,f.ev hy]
 show (Instr.build t (Array.map (fun(p:Nat×Operand)=>(p.1,ac.eval p.2)) #[(0,x),(1,y)])).run E.P w=_
 rw[em];unfold Instr.build;rw[aV hz3,aV (run_underlying h1 w)];simp only[];rw[aV s]
 rfl
theorem bMF{E:Env}{fr:Fr}{K:Hl}{L L':List Asn}{o:Oper}{N:Value→Hl→List Asn→Prop}(k:∀h,Sat L h→Sat L' h)(h:EfS E fr K L' o N):EfS E fr K L o N:=fun a w f i=>h a w f (i.imp k)
section
variable{E:Env}{c x y:Code}{fr:Fr}{K:Hl}{L:List Asn}{Q:Post}{α1 α2 α3 α4 α5:Type}
def Mid5(E:Env)(I:α1→α2→α3→α4→α5→Prop)(fr:α1→α2→α3→α4→α5→Fr)(K:α1→α2→α3→α4→α5→Hl)(L:α1→α2→α3→α4→α5→List Asn):Act→World→Prop:=fun a w=>∃i1 i2 i3 i4 i5,I i1 i2 i3 i4 i5∧FrOk E.n E.ds (fr i1 i2 i3 i4 i5) a∧In E.w0 E.F (K i1 i2 i3 i4 i5) (L i1 i2 i3 i4 i5) w
theorem bOL(I:α1→α2→α3→α4→α5→Prop)(fr':α1→α2→α3→α4→α5→Fr)(K':α1→α2→α3→α4→α5→Hl)(L':α1→α2→α3→α4→α5→List Asn)(h1:T E x fr K L (Exit.then (Mid5 E I fr' K' L') Q))(h2:∀i1 i2 i3 i4 i5,I i1 i2 i3 i4 i5→T E y (fr' i1 i2 i3 i4 i5) (K' i1 i2 i3 i4 i5) (L' i1 i2 i3 i4 i5) Q):
  T E (.seq x y) fr K L Q:=by
 intro a w f i;refine wp_seq (Code.wp_mono (fun e a w q=>?_) (h1 a w f i))
 cases e <;> first|exact q|(obtain⟨i1,i2,i3,i4,i5,hj,fj,ij⟩:=q;exact h2 i1 i2 i3 i4 i5 hj _ _ fj ij)
theorem oJ{I:α1→α2→α3→α4→α5→Prop}{fr':α1→α2→α3→α4→α5→Fr}{K':α1→α2→α3→α4→α5→Hl}{L':α1→α2→α3→α4→α5→List Asn}(i1:α1)(i2:α2)(i3:α3)(i4:α4)(i5:α5)(hi:I i1 i2 i3 i4 i5)(k:Kp fr (fr' i1 i2 i3 i4 i5))(hK:K' i1 i2 i3 i4 i5=K)(hL:∀h,Sat L h→Sat (L' i1 i2 i3 i4 i5) h):
  D E .normal fr K L (Exit.then (Mid5 E I fr' K' L') Q):=fun a w f q=>⟨i1,i2,i3,i4,i5,hi,f.keep k,by rw[hK];exact q.imp hL⟩
end
end Go.SL
end

/-
  What the proof stands on, part 9: the logic of walks, the walks through the functions, the plain laws. Conditions: as each theorem says. (Merged and shortened by a program.)
-/
import Derived.Test.YthopmddkpdehiabGreatDoorK3
set_option linter.unusedVariables false
set_option linter.unusedSimpArgs false
set_option linter.defProp false
set_option maxRecDepth 4000
set_option maxHeartbeats 1000000
namespace Go
def gES{p:Prop}(h:p:=by rw[List.length_append];omega):p:=h
end Go
section
namespace Go.SL
def aA5{P:Program}{w:World}{e t2:TypeId}{l:List UInt8}(ht:P.underlying t2=some .string):Src P t2 1 l.length (str l) ((wW e).cs l) w:=by
 refine⟨.inl ht,?_,?_,(by rw[El.cs_length];rfl),?_⟩
 ·show Result.ok _ _=_;rw[pX]
 ·intro d
  show Result.ok _ _=_
  rw[aC7,qN];simp
 intro u hu;rw[aC7]at hu;obtain⟨c,_,rfl⟩:=xBF.1 hu
 rfl
end Go.SL
end
section
namespace Go.Proofs
open Go.Shelf
def Tryz.laysM171_ren:Go.Shelf.Ren:=⟨fun|171=>199|243=>232|246=>241|283=>256|284=>257|285=>258|286=>259|129=>269|317=>268|318=>270|319=>271|320=>272|337=>282|338=>283|n=>n,fun|3=>3|9=>9|2=>2|4=>4|171=>377|0=>0|53=>320|37=>142|5=>5|173=>380|212=>400|51=>304|20=>20|213=>401|46=>249|232=>415|233=>416|n=>n,fun|17=>2|18=>3|19=>4|n=>n⟩
def Tryz.laysM171 : Go.Proofs.LaysM.n171 x3 Tryz.laysM171_ren := {
 mixed:=cY
 f129:=Tryz.func269.trans (xAE some cY)
 f171:=Tryz.func199.trans (xAE some cY)
 f243:=Tryz.func232.trans (xAE some cY)
 f246:=Tryz.func241.trans (xAE some cY)
 f283:=Tryz.func256.trans (xAE some cY)
 f284:=Tryz.func257.trans (xAE some cY)
 f285:=Tryz.func258.trans (xAE some cY)
 f286:=Tryz.func259.trans (xAE some cY)
 f317:=Tryz.func268.trans (xAE some cY)
 f318:=Tryz.func270.trans (xAE some cY)
 f319:=Tryz.func271.trans (xAE some cY)
 f320:=Tryz.func272.trans (xAE some cY)
 f337:=Tryz.func282.trans (xAE some cY)
 f338:=Tryz.func283.trans (xAE some cY)
 t0:=Tryz.underlying0
 a0:=Tryz.isAgg0
 z0:=Tryz.sizeOf0
 v0:=Tryz.zeroValue0
 t2:=Tryz.underlying2
 a2:=Tryz.isAgg2
 z2:=Tryz.sizeOf2
 v2:=Tryz.zeroValue2
 t3:=Tryz.underlying3
 a3:=Tryz.isAgg3
 z3:=Tryz.sizeOf3
 v3:=Tryz.zeroValue3
 t4:=Tryz.underlying4
 a4:=Tryz.isAgg4
 z4:=Tryz.sizeOf4
 v4:=Tryz.zeroValue4
 t5:=Tryz.underlying5
 a5:=Tryz.isAgg5
 z5:=Tryz.sizeOf5
 v5:=Tryz.zeroValue5
 t9:=Tryz.underlying9
 a9:=Tryz.isAgg9
 z9:=Tryz.sizeOf9
 v9:=Tryz.zeroValue9
 t20:=Tryz.underlying20
 a20:=Tryz.isAgg20
 z20:=Tryz.sizeOf20
 v20:=Tryz.zeroValue20
 t37:=Tryz.underlying142
 a37:=Tryz.isAgg142
 z37:=Tryz.sizeOf142
 v37:=Tryz.zeroValue142
 t46:=Tryz.underlying249
 a46:=Tryz.isAgg249
 z46:=Tryz.sizeOf249
 v46:=Tryz.zeroValue249
 t51:=Tryz.underlying304
 a51:=Tryz.isAgg304
 z51:=Tryz.sizeOf304
 v51:=Tryz.zeroValue304
 t53:=Tryz.underlying320
 a53:=Tryz.isAgg320
 z53:=Tryz.sizeOf320
 v53:=Tryz.zeroValue320
 t171:=Tryz.underlying377
 a171:=Tryz.isAgg377
 z171:=Tryz.sizeOf377
 v171:=Tryz.zeroValue377
 t173:=Tryz.underlying380
 a173:=Tryz.isAgg380
 z173:=Tryz.sizeOf380
 v173:=Tryz.zeroValue380
 t212:=Tryz.underlying400
 a212:=Tryz.isAgg400
 z212:=Tryz.sizeOf400
 v212:=Tryz.zeroValue400
 t213:=Tryz.underlying401
 a213:=Tryz.isAgg401
 z213:=Tryz.sizeOf401
 t232:=Tryz.underlying415
 a232:=Tryz.isAgg415
 z232:=Tryz.sizeOf415
 v232:=Tryz.zeroValue415
 t233:=Tryz.underlying416
 a233:=Tryz.isAgg416
 z233:=Tryz.sizeOf416
 v233:=Tryz.zeroValue416
 g17:=cY
 g18:=cY
 g19:=cY
 i0:=cY
 i2:=cY
 i3:=cY
 i4:=cY
 i5:=cY
 i9:=cY
 i20:=cY
 i37:=cY
 i46:=cY
 i51:=cY
 i53:=cY
 i171:=cY
 i173:=cY
 i212:=cY
 i232:=cY
 i233:=cY
 m17:=cY
 m18:=cY
 m19:=by kernel_rfl}
open Go.RowKit Go.Sort Go.Lib in
def Tryz.strconv_Itoa(n:Int)(h0: -9223372036854775808≤n)(h1:n≤9223372036854775807)(w:World)(htab:Lib.TabIs x3 w "internal/strconv.uint64pow10" .u64 Lib.pow10Tab):
  Calls x3 199 #[.int .i64 n] w fun e w'=>e=.returned (.string ⟨(Lib.itoa n).toArray⟩)∧∃k os,w'=grow (w.drewN k) os:=Any.strconv_Itoa Tryz.laysM171 n h0 h1 w htab
end Go.Proofs
end
section
attribute [local irreducible] Go.SL.T Go.SL.OL Go.SL.D Go.SL.DL Go.SL.Ev Go.SL.Ef Go.SL.EfS
namespace Go.Proofs
open Go Go.SL
def n7(b:Nat)(s:List UInt8)(xs:List UInt8)(hn:xs.length+s.length≤140737488351232)(K:Hl):Sp x3 102 [ptr b,str s] K [bldr b xs] (Ret fun u K' L'=>u=.tuple #[i64 s.length,.nilIface]∧K'=K∧L'=[bldr b (xs++s)]):=by
 refine bN Tryz.func102 Y Tryz.ntmps102 Y Y fun F w=>?_;refine u5 fun v=>u5 fun q=>?_;refine zz9 ?_;refine bA Y Y (o6 b q v _) bS Y ?_;rintro _ K _ ⟨rfl,rfl,rfl⟩ -;refine zz10 ?_;refine cJ (dQ (k:=(elB 5)) (ys:=s) rF Y Y bR (fun _ _=>aA5 Tryz.underlying9) aH aH) Y ?_;rintro v14 K _ ⟨rfl,rfl,ho14⟩ -;refine zz2 ?_;refine cD (bX kE Y Y dA bR aZe Y) ?_;rintro _ K _ ⟨rfl,rfl⟩ -;refine zz11 ?_;refine uAw ?_;refine cS (aC3 b v14 (xs++s)) ?_;refine j1 Y Y Y (xAB _) ?_;exact⟨_,Y,Y,Y,Y⟩
end Go.Proofs
end

/- Part 4 of what the proof stands on: walks and plain laws. Conditions: as each theorem says. -/
import Derived.Below
import Derived.Shelf.Strings.Builder1
import Derived.Shelf.Strings.Builder2
import Derived.Shelf.Small.Utf8
import Derived.Shelf.Small.Bits
import Derived.Shelf.Small.Strs
import Derived.Shelf.Utf8.RuneCount
import Derived.Shelf.Strconv.Itoa0
import Derived.Shelf.Strconv.Itoa1
import Derived.Shelf.LaysM
import Derived.Shelf.Strconv.Itoa2
import Derived.Shelf.Strconv.Itoa3
import Derived.Shelf.Strings.Search1
import Derived.Shelf.Strings.Search2
import Derived.Shelf.Strings.Search3
import Derived.Shelf.Strings.Cut
import Derived.Shelf.Strings.Count
import Derived.Shelf.Strings.Shaped
import Derived.Shelf.Strings.Split
import Derived.Shelf.Strings.Runes
import Derived.Shelf.Strings.RuneCount
import Derived.Shelf.Strings.IndexAny
import Derived.Shelf.Strings.AsciiSet
import Derived.Shelf.Strings.IndexAnyAll
import Derived.Shelf.Bits.Mul64
import Derived.Ground.Names2Prog
import Derived.Shelf.Slices.Clone
import Derived.Ground.SlgnProg
import Derived.Shelf.SlicesE.Clone
import Derived.Test.YthopmddkpdehiaaGreatDoorA3
set_option linter.unusedVariables false
set_option linter.unusedSimpArgs false
set_option linter.defProp false
set_option maxRecDepth 4000
set_option maxHeartbeats 1000000
section
attribute [local irreducible] Go.SL.T Go.SL.OL Go.SL.D Go.SL.DL Go.SL.Ev Go.SL.Ef Go.SL.EfS
section
namespace Go.Proofs
open Go Go.SL Go.Syn Tryz
def j4{b c:Bool}(h:b=c)(K:Hl):Val (.bool c) K (.returned (.bool b)) K []:=⟨by rw[h],rfl,rfl⟩
def tC(c:UInt8)(K:Hl):Sp x3 183 [.int .u8 c.toNat] K [] (Val (.bool (gE c)) K):=by
 refine bL func183 Y ntmps183 Y Y fun F w=>Z8 ?_;refine aA (G3 c 32 Y Y) Y (Z2 ?_);refine bV 6 Y (fun s=>Z3 ?_) (fun s=>ZF ?_)
 ·refine aA (G3 c 32 Y Y) Y (Z4 ?_);refine bV 11 Y (fun t=>Z8 ?_) (fun t=>ZA ?_)
  ·refine j4 ?_ _
   unfold gE
   generalize (c|||32).toNat=x at*
   generalize c.toNat=y at*
   exact gDI
  refine j4 ?_ _
  unfold gE
  generalize (c|||32).toNat=x at*
  generalize c.toNat=y at*
  exact gDI
 refine j4 ?_ _
 unfold gE
 generalize (c|||32).toNat=x at*
 generalize c.toNat=y at*
 exact gDI
def qS(c:UInt8)(K:Hl):Sp x3 188 [.int .u8 c.toNat] K [] (Val (.bool (fX c)) K):=by
 refine bL func188 Y ntmps188 Y Y fun F w=>ZA ?_;refine bV 5 Y (fun a=>ZA ?_) (fun a=>Z8 ?_)
 ·refine j4 ?_ _
  unfold fX
  generalize c.toNat=y at*
  exact gDI
 refine j4 ?_ _
 unfold fX
 generalize c.toNat=y at*
 exact gDI
def sL(c:UInt8)(K:Hl):Sp x3 187 [.int .u8 c.toNat] K [] (Val (.bool (eS c)) K):=by
 refine bL func187 Y ntmps187 Y Y fun F w=>Z8 ?_;refine cH Y Y (tC _ _) Y (Z1 ?_);refine kH 5 Y (fun a=>Z8 ?_) (fun a=>Z3 ?_)
 ·refine j4 ?_ _
  simp[eS,a]
 refine cH Y Y (qS _ _) Y (Z6 ?_);refine j4 ?_ _
 simp[eS,a]
abbrev lxb(b:Nat)(T:TypeId)(s:List UInt8)(e:Int)(I:Value)(ws:Value)(x:Value)(P:Value)(rest:List Value):Asn:=pt b (bK (str s::i64 e::I::ws::x::P::rest) T)
def m4(b:Nat)(T:TypeId)(s:List UInt8)(a n:Nat)(I ws x P:Value)(rest:List Value)(g:s.length<=600)(f:a<=600)(u:n<=2)(K:Hl):
  Sp x3 181 [ptr b,i64 n] K [lxb b T s a I ws x P rest] (Ret fun v e L'=>v=.int .u8 ((s[a+n]?).getD 0).toNat/\e=K/\L'=[lxb b T s a I ws x P rest]):=by
 refine bL func181 Y ntmps181 Y Y fun F w=>Z7 ?_;refine cN [] [] mixed gAD (cM _) (ZE ?_);refine aX 16 Y (fun L=>?_) (fun L=>?_)
 ·obtain⟨c,d⟩:∃c,s[a+n]?=some c:=⟨s[a+n],x4 aH⟩;refine aI (cN [] [] mixed gAD (cM _) (ZA ?_));refine aJ Y Y (.none Y) Y Y (cJ x9 Y (j:=a+n) Y aH d) Y (Z6 ?_);exact⟨_,Y,by rw[d];rfl,rfl,rfl⟩
 have d:s[a+n]?=none:=xAH aH;refine Z9 ?_;exact⟨_,Y,by rw[d];rfl,rfl,rfl⟩
def uX(b:Nat)(T:TypeId)(s:List UInt8)(a:Nat)(I ws x P:Value)(rest:List Value)(fn:FuncId)(p:UInt8->Bool)(z:s.length<=600)(u:a<=s.length)(K:Hl)
  (y:∀c,Sp x3 fn [.int .u8 (c:UInt8).toNat] K [] (Val (.bool (p c)) K)):
  Sp x3 186 [ptr b,.func (.func fn) #[] #[]] K [lxb b T s a I ws x P rest]
   (Ret fun v q L'=>v=str ((s.drop a).takeWhile p)/\q=K/\L'=[lxb b T s (a+((s.drop a).takeWhile p).length:Nat) I ws x P rest]):=by
 refine bL func186 Y ntmps186 Y Y fun F w=>ZG ?_;refine eD (fun(i:Nat)=>a<=i/\i<=s.length/\((s.drop a).take (i-a)).all p=true) (fun i=>[(0,ptr b),(1,.func (.func fn) #[] #[]),(5,i64 a)]) (fun _=>K) (fun i=>[lxb b T s i I ws x P rest]) (fun i=>s.length-i) a ⟨xAG _,u,cD⟩ bM Y a7 ?_;intro i ⟨G,C,S⟩;refine Z2 ?_;refine cN [21] [] mixed gAD (cM _) (ZB ?_);refine eV 20 Y (fun g=>?_) (fun g=>ZL ?_)
 ·obtain⟨c,l⟩:∃c,s[i]?=some c:=⟨s[i],x4 aH⟩;refine ZA ?_;refine gY Y (.on Y Y Y) Y Y Y Y (y c) Y (Z3 ?_);refine dZ 32 Y (fun d=>ZE ?_) (fun d=>Z6 ?_)
  ·refine cX (i+1) ⟨aH,aH,?_⟩ aH bM Y a7
   have e:i+1-a=i-a+1:=aH;have O:a+(i-a)=i:=aH;rw[e];exact Plain.take_all_succ (c:=c) (by rw[xBB,O];exact l) S d
  refine cN [] [] mixed gAD (cM _) (Z9 ?_);refine uAl ?_;refine Z5 ?_;have h:∀r,s[i]?=some r->p r=false:=by first|(intro r t;rw[l]at t;cases t;exact d)|(intro r t;rw[xAH aH]at t;cases t)
  have O:a+(i-a)=i:=aH;have f:(s.drop a).takeWhile p=(s.drop a).take (i-a):=Plain.takeWhile_stop p _ _ gAG S (fun r t=>h r (by rw[xBB,O]at t;exact t));have j:a+((s.drop a).takeWhile p).length=i:=by rw[f];simp;omega
  refine⟨_,Y,?_,Y,?_⟩
  ·rw[f,List.drop_take]
  rw[j];rfl
 refine cN [] [] mixed gAD (cM _) (Z9 ?_);refine uAl ?_;refine Z5 ?_;have h:∀r,s[i]?=some r->p r=false:=by first|(intro r t;rw[l]at t;cases t;exact d)|(intro r t;rw[xAH aH]at t;cases t)
 have O:a+(i-a)=i:=aH;have f:(s.drop a).takeWhile p=(s.drop a).take (i-a):=Plain.takeWhile_stop p _ _ gAG S (fun r t=>h r (by rw[xBB,O]at t;exact t));have j:a+((s.drop a).takeWhile p).length=i:=by rw[f];simp;omega
 refine⟨_,Y,?_,Y,?_⟩
 ·rw[f,List.drop_take]
 rw[j];rfl
end Go.Proofs
end
end
section
namespace Go.SL
section
variable{f:FuncId}{K:Hl}{args:List Value}{P:Program}{v:Value}{w:World}
def In.start(w:World):In w .emp (hp w) [] w:=
 ⟨rfl,rfl,rfl,xAG _,.emp,rfl,(Hl.dj_emp _).symm,Hl.dj_emp _,Hl.dj_emp _,(fun _ _ e=>by cases e),xAB _,(fun _ _ e=>by cases e)⟩
def In.below{w':World}{K:Hl}{L:List Asn}(le:(hp w).le K)(i:In w .emp K L w'):RowKit.Below w.heap.size w w':=by
 refine⟨i.os,i.tape,i.output,i.size,fun k j=>?_⟩
 have h:=le k w.heap[k] (by simp[hp,j]);rw[i.known h];simp[j]
def ED(h:Sp P f args (hp w) [] (Ret fun u _ _=>u=v)):
  Calls P f args.toArray w fun e w'=>e=.returned v/\RowKit.Below w.heap.size w w':=
 (h.2 .emp w (In.start w)).mono fun _ _ ⟨_,_,⟨u,A,C⟩,le,j⟩=>⟨by rw[A,C],j.below le⟩
def p9(r:∃fn,P.funcs[f]?=some fn/\(fn.name== "runtime.NumGoroutine")=false/\fn.body.isSome=true)
  (h:∀w,K.le (hp w)->Calls P f args.toArray w fun e w'=>e=.returned v/\RowKit.Below w.heap.size w w'):Sp P f args K [] (Val v K):=by
 refine⟨r,fun F w i=>?_⟩
 obtain⟨x,g,a,c,S,l,H,p⟩:=i.rep;refine(h w H).mono fun e w' ⟨d,A⟩=>?_;have up:∀ {k:Hl},k.le (hp w)->k.le (hp w'):=by
  intro k j b o e;have G:b<w.heap.size:=by
   have:=j b o e;simp only[hp]at this;rcases xAD b w.heap.size with h|h
   ·exact h
   simp[Array.getElem?_eq_none h]at this
  have:=j b o e;simp only[hp]at this ⊢;rw[A.block b G];exact this
 exact⟨K,[],⟨d,Y,Y⟩,xAB _,A.os,A.tape,A.output,A.size,x,g,a,c,S,up l,up H,up p⟩
def nW(r:∃fn,P.funcs[f]?=some fn/\(fn.name== "runtime.NumGoroutine")=false/\fn.body.isSome=true)
  (h:∀w,K.le (hp w)->Calls P f args.toArray w fun e w'=>e=.returned v/\w'=w):Sp P f args K [] (Val v K):=
 p9 r fun w a=>(h w a).mono fun e w' ⟨A,g⟩=>⟨A,by subst g;exact RowKit.Below.refl _ _⟩
end
end Go.SL
end
section
namespace Go.Proofs
open Go.Shelf
def Tryz.lays119_ren:Go.Shelf.Ren:=⟨fun|119=>322|n=>n,fun|21=>21|4=>4|n=>n,fun|n=>n⟩
def Tryz.lays119:Go.Proofs.Lays.n119 x3 Tryz.lays119_ren := {
 mixed:=cV
 f119:=Tryz.func322.trans (xAF some cV)
 t4:=xBC
 a4:=Tryz.isAgg4
 z4:=Tryz.sizeOf4
 v4:=Tryz.zeroValue4
 t21:=xCL
 a21:=Tryz.isAgg21
 z21:=Tryz.sizeOf21
 v21:=Tryz.zeroValue21}
def Tryz.utf8_ValidRune(r:Int)(w:World):
  Calls x3 322 #[.int .i32 r] w fun e w'=>e=.returned (.bool (Lib.validRune r))/\w'=w:=Any.utf8_ValidRune Tryz.lays119 r w
def Tryz.lays137_ren:Go.Shelf.Ren:=⟨fun|137=>308|217=>335|266=>353|n=>n,fun|9=>9|5=>5|3=>3|n=>n,fun|n=>n⟩
def Tryz.lays137:Go.Proofs.Lays.n137 x3 Tryz.lays137_ren := {
 mixed:=cV
 f137:=Tryz.func308.trans (xAF some cV)
 f217:=Tryz.func335.trans (xAF some cV)
 f266:=Tryz.func353.trans (xAF some cV)
 t3:=xAM
 a3:=Tryz.isAgg3
 z3:=Tryz.sizeOf3
 v3:=Tryz.zeroValue3
 t5:=xAZ
 a5:=Tryz.isAgg5
 z5:=Tryz.sizeOf5
 v5:=Tryz.zeroValue5
 t9:=x9
 a9:=Tryz.isAgg9
 z9:=Tryz.sizeOf9
 v9:=Tryz.zeroValue9}
open Go.RowKit in
def Tryz.strings_IndexByte(s:ByteArray)(c:Int)(w:World):
  Calls x3 308 #[.string s,.int .u8 c] w fun e w'=>e=.returned (.int .i64 (Lib.indexByte s.data.toList c.toNat.toUInt8))/\w'=w:=Any.strings_IndexByte Tryz.lays137 s c w
def Tryz.laysM171_ren:Go.Shelf.Ren:=⟨fun|171=>129|243=>223|246=>293|283=>325|284=>326|285=>327|286=>328|129=>240|317=>346|318=>347|319=>348|320=>349|337=>362|338=>363|n=>n,fun|3=>3|9=>9|2=>2|4=>4|171=>444|0=>0|53=>345|37=>130|5=>5|173=>446|212=>475|51=>350|20=>20|213=>476|46=>257|232=>510|233=>511|n=>n,fun|17=>2|18=>5|19=>6|n=>n⟩
def Tryz.laysM171:Go.Proofs.LaysM.n171 x3 Tryz.laysM171_ren := {
 mixed:=cV
 f129:=Tryz.func240.trans (xAF some cV)
 f171:=Tryz.func129.trans (xAF some cV)
 f243:=Tryz.func223.trans (xAF some cV)
 f246:=Tryz.func293.trans (xAF some cV)
 f283:=Tryz.func325.trans (xAF some cV)
 f284:=Tryz.func326.trans (xAF some cV)
 f285:=Tryz.func327.trans (xAF some cV)
 f286:=Tryz.func328.trans (xAF some cV)
 f317:=Tryz.func346.trans (xAF some cV)
 f318:=Tryz.func347.trans (xAF some cV)
 f319:=Tryz.func348.trans (xAF some cV)
 f320:=Tryz.func349.trans (xAF some cV)
 f337:=Tryz.func362.trans (xAF some cV)
 f338:=Tryz.func363.trans (xAF some cV)
 t0:=xCX
 a0:=Tryz.isAgg0
 z0:=Tryz.sizeOf0
 v0:=Tryz.zeroValue0
 t2:=Tryz.underlying2
 a2:=Tryz.isAgg2
 z2:=Tryz.sizeOf2
 v2:=Tryz.zeroValue2
 t3:=xAM
 a3:=Tryz.isAgg3
 z3:=Tryz.sizeOf3
 v3:=Tryz.zeroValue3
 t4:=xBC
 a4:=Tryz.isAgg4
 z4:=Tryz.sizeOf4
 v4:=Tryz.zeroValue4
 t5:=xAZ
 a5:=Tryz.isAgg5
 z5:=Tryz.sizeOf5
 v5:=Tryz.zeroValue5
 t9:=x9
 a9:=Tryz.isAgg9
 z9:=Tryz.sizeOf9
 v9:=Tryz.zeroValue9
 t20:=Tryz.underlying20
 a20:=Tryz.isAgg20
 z20:=Tryz.sizeOf20
 v20:=Tryz.zeroValue20
 t37:=xAP
 a37:=Tryz.isAgg130
 z37:=Tryz.sizeOf130
 v37:=Tryz.zeroValue130
 t46:=xBN
 a46:=Tryz.isAgg257
 z46:=Tryz.sizeOf257
 v46:=Tryz.zeroValue257
 t51:=xB7
 a51:=Tryz.isAgg350
 z51:=Tryz.sizeOf350
 v51:=Tryz.zeroValue350
 t53:=xCQ
 a53:=Tryz.isAgg345
 z53:=Tryz.sizeOf345
 v53:=Tryz.zeroValue345
 t171:=Tryz.underlying444
 a171:=Tryz.isAgg444
 z171:=Tryz.sizeOf444
 v171:=Tryz.zeroValue444
 t173:=Tryz.underlying446
 a173:=Tryz.isAgg446
 z173:=Tryz.sizeOf446
 v173:=Tryz.zeroValue446
 t212:=Tryz.underlying475
 a212:=Tryz.isAgg475
 z212:=Tryz.sizeOf475
 v212:=Tryz.zeroValue475
 t213:=Tryz.underlying476
 a213:=Tryz.isAgg476
 z213:=Tryz.sizeOf476
 t232:=Tryz.underlying510
 a232:=Tryz.isAgg510
 z232:=Tryz.sizeOf510
 v232:=Tryz.zeroValue510
 t233:=Tryz.underlying511
 a233:=Tryz.isAgg511
 z233:=Tryz.sizeOf511
 v233:=Tryz.zeroValue511
 g17:=cV
 g18:=cV
 g19:=cV
 i0:=cV
 i2:=cV
 i3:=cV
 i4:=cV
 i5:=cV
 i9:=cV
 i20:=cV
 i37:=cV
 i46:=cV
 i51:=cV
 i53:=cV
 i171:=cV
 i173:=cV
 i212:=cV
 i232:=cV
 i233:=cV
 m17:=cV
 m18:=cV
 m19:=by kernel_rfl}
open Go.RowKit Go.Sort Go.Lib in
def Tryz.strconv_Itoa(n:Int)(P: -9223372036854775808<=n)(h:n<=9223372036854775807)(w:World)(f:Lib.TabIs x3 w "internal/strconv.uint64pow10" .u64 Lib.pow10Tab):
  Calls x3 129 #[.int .i64 n] w fun e w'=>e=.returned (.string ⟨(Lib.itoa n).toArray⟩)/\∃k os,w'=grow (w.drewN k) os:=Any.strconv_Itoa Tryz.laysM171 n P h w f
def Tryz.lays143_ren:Go.Shelf.Ren:=⟨fun|143=>267|219=>311|217=>335|225=>324|224=>323|267=>336|266=>353|314=>354|n=>n,fun|9=>9|3=>3|4=>4|5=>5|46=>257|146=>402|51=>350|n=>n,fun|1=>1|n=>n⟩
def Tryz.lays143:Go.Proofs.Lays.n143 x3 Tryz.lays143_ren := {
 mixed:=cV
 f143:=Tryz.func267.trans (xAF some cV)
 f217:=Tryz.func335.trans (xAF some cV)
 f219:=Tryz.func311.trans (xAF some cV)
 f224:=Tryz.func323.trans (xAF some cV)
 f225:=Tryz.func324.trans (xAF some cV)
 f266:=Tryz.func353.trans (xAF some cV)
 f267:=Tryz.func336.trans (xAF some cV)
 f314:=Tryz.func354.trans (xAF some cV)
 t3:=xAM
 a3:=Tryz.isAgg3
 z3:=Tryz.sizeOf3
 v3:=Tryz.zeroValue3
 t4:=xBC
 a4:=Tryz.isAgg4
 z4:=Tryz.sizeOf4
 v4:=Tryz.zeroValue4
 t5:=xAZ
 a5:=Tryz.isAgg5
 z5:=Tryz.sizeOf5
 v5:=Tryz.zeroValue5
 t9:=x9
 a9:=Tryz.isAgg9
 z9:=Tryz.sizeOf9
 v9:=Tryz.zeroValue9
 t46:=xBN
 a46:=Tryz.isAgg257
 z46:=Tryz.sizeOf257
 v46:=Tryz.zeroValue257
 t51:=xB7
 a51:=Tryz.isAgg350
 z51:=Tryz.sizeOf350
 v51:=Tryz.zeroValue350
 t146:=xCD
 a146:=Tryz.isAgg402
 z146:=Tryz.sizeOf402
 v146:=Tryz.zeroValue402
 g1:=by kernel_rfl}
open Go.RowKit Go.Lib in
def Tryz.strings_Index(s a:ByteArray)(m:Int)(w:World)(c:s.size<4294967281)(B:w.cell? ⟨1,0,none⟩=some (.int .i64 m)):
  Calls x3 267 #[.string s,.string a] w fun e w'=>e=.returned (.int .i64 (Lib.index s.data.toList a.data.toList))/\w'=w:=Any.strings_Index Tryz.lays143 s a m w c B
def Tryz.lays144_ren:Go.Shelf.Ren:=⟨fun|144=>305|143=>267|219=>311|217=>335|225=>324|224=>323|267=>336|266=>353|314=>354|n=>n,fun|9=>9|4=>4|3=>3|5=>5|46=>257|146=>402|51=>350|n=>n,fun|1=>1|n=>n⟩
def Tryz.lays144:Go.Proofs.Lays.n144 x3 Tryz.lays144_ren := {
 mixed:=cV
 f143:=Tryz.func267.trans (xAF some cV)
 f144:=Tryz.func305.trans (xAF some cV)
 f217:=Tryz.func335.trans (xAF some cV)
 f219:=Tryz.func311.trans (xAF some cV)
 f224:=Tryz.func323.trans (xAF some cV)
 f225:=Tryz.func324.trans (xAF some cV)
 f266:=Tryz.func353.trans (xAF some cV)
 f267:=Tryz.func336.trans (xAF some cV)
 f314:=Tryz.func354.trans (xAF some cV)
 t3:=xAM
 a3:=Tryz.isAgg3
 z3:=Tryz.sizeOf3
 v3:=Tryz.zeroValue3
 t4:=xBC
 a4:=Tryz.isAgg4
 z4:=Tryz.sizeOf4
 v4:=Tryz.zeroValue4
 t5:=xAZ
 a5:=Tryz.isAgg5
 z5:=Tryz.sizeOf5
 v5:=Tryz.zeroValue5
 t9:=x9
 a9:=Tryz.isAgg9
 z9:=Tryz.sizeOf9
 v9:=Tryz.zeroValue9
 t46:=xBN
 a46:=Tryz.isAgg257
 z46:=Tryz.sizeOf257
 v46:=Tryz.zeroValue257
 t51:=xB7
 a51:=Tryz.isAgg350
 z51:=Tryz.sizeOf350
 v51:=Tryz.zeroValue350
 t146:=xCD
 a146:=Tryz.isAgg402
 z146:=Tryz.sizeOf402
 v146:=Tryz.zeroValue402
 g1:=by kernel_rfl}
open Go.RowKit Go.Lib in
def Tryz.strings_Contains(s a:ByteArray)(m:Int)(w:World)(c:s.size<4294967281)(B:w.cell? ⟨1,0,none⟩=some (.int .i64 m)):
  Calls x3 305 #[.string s,.string a] w fun e w'=>e=.returned (.bool (Lib.contains s.data.toList a.data.toList))/\w'=w:=Any.strings_Contains Tryz.lays144 s a m w c B
def Tryz.lays145_ren:Go.Shelf.Ren:=⟨fun|145=>228|220=>295|219=>311|217=>335|225=>324|224=>323|267=>336|266=>353|314=>354|n=>n,fun|9=>9|4=>4|59=>347|3=>3|5=>5|46=>257|146=>402|51=>350|n=>n,fun|1=>1|n=>n⟩
def Tryz.lays145:Go.Proofs.Lays.n145 x3 Tryz.lays145_ren := {
 mixed:=cV
 f145:=Tryz.func228.trans (xAF some cV)
 f217:=Tryz.func335.trans (xAF some cV)
 f219:=Tryz.func311.trans (xAF some cV)
 f220:=Tryz.func295.trans (xAF some cV)
 f224:=Tryz.func323.trans (xAF some cV)
 f225:=Tryz.func324.trans (xAF some cV)
 f266:=Tryz.func353.trans (xAF some cV)
 f267:=Tryz.func336.trans (xAF some cV)
 f314:=Tryz.func354.trans (xAF some cV)
 t3:=xAM
 a3:=Tryz.isAgg3
 z3:=Tryz.sizeOf3
 v3:=Tryz.zeroValue3
 t4:=xBC
 a4:=Tryz.isAgg4
 z4:=Tryz.sizeOf4
 v4:=Tryz.zeroValue4
 t5:=xAZ
 a5:=Tryz.isAgg5
 z5:=Tryz.sizeOf5
 v5:=Tryz.zeroValue5
 t9:=x9
 a9:=Tryz.isAgg9
 z9:=Tryz.sizeOf9
 v9:=Tryz.zeroValue9
 t46:=xBN
 a46:=Tryz.isAgg257
 z46:=Tryz.sizeOf257
 v46:=Tryz.zeroValue257
 t51:=xB7
 a51:=Tryz.isAgg350
 z51:=Tryz.sizeOf350
 v51:=Tryz.zeroValue350
 t59:=Tryz.underlying347
 a59:=Tryz.isAgg347
 z59:=Tryz.sizeOf347
 v59:=Tryz.zeroValue347
 t146:=xCD
 a146:=Tryz.isAgg402
 z146:=Tryz.sizeOf402
 v146:=Tryz.zeroValue402
 g1:=by kernel_rfl}
open Go.RowKit Go.Lib in
def Tryz.strings_Cut(s sep:ByteArray)(m:Int)(w:World)(c:s.size<4294967281)(B:w.cell? ⟨1,0,none⟩=some (.int .i64 m)):
  Calls x3 228 #[.string s,.string sep] w fun e w'=>e=.returned (.tuple #[.string ⟨(Lib.cut s.data.toList sep.data.toList).1.toArray⟩,.string ⟨(Lib.cut s.data.toList sep.data.toList).2.1.toArray⟩,.bool (Lib.cut s.data.toList sep.data.toList).2.2])/\∃n,w'=w.drewN n:=Any.strings_Cut Tryz.lays145 s sep m w c B
def Tryz.lays152_ren:Go.Shelf.Ren:=⟨fun|152=>289|137=>308|119=>322|224=>323|225=>324|217=>335|266=>353|n=>n,fun|9=>9|21=>21|3=>3|4=>4|5=>5|0=>0|46=>257|n=>n,fun|n=>n⟩
def Tryz.lays152:Go.Proofs.Lays.n152 x3 Tryz.lays152_ren := {
 mixed:=cV
 f119:=Tryz.func322.trans (xAF some cV)
 f137:=Tryz.func308.trans (xAF some cV)
 f152:=Tryz.func289.trans (xAF some cV)
 f217:=Tryz.func335.trans (xAF some cV)
 f224:=Tryz.func323.trans (xAF some cV)
 f225:=Tryz.func324.trans (xAF some cV)
 f266:=Tryz.func353.trans (xAF some cV)
 t0:=xCX
 a0:=Tryz.isAgg0
 z0:=Tryz.sizeOf0
 v0:=Tryz.zeroValue0
 t3:=xAM
 a3:=Tryz.isAgg3
 z3:=Tryz.sizeOf3
 v3:=Tryz.zeroValue3
 t4:=xBC
 a4:=Tryz.isAgg4
 z4:=Tryz.sizeOf4
 v4:=Tryz.zeroValue4
 t5:=xAZ
 a5:=Tryz.isAgg5
 z5:=Tryz.sizeOf5
 v5:=Tryz.zeroValue5
 t9:=x9
 a9:=Tryz.isAgg9
 z9:=Tryz.sizeOf9
 v9:=Tryz.zeroValue9
 t21:=xCL
 a21:=Tryz.isAgg21
 z21:=Tryz.sizeOf21
 v21:=Tryz.zeroValue21
 t46:=xBN
 a46:=Tryz.isAgg257
 z46:=Tryz.sizeOf257
 v46:=Tryz.zeroValue257}
open Go.RowKit Go.Lib in
def Tryz.strings_IndexRune_ascii(s:ByteArray)(r:Int)(w:World)(P:0<=r)(h:r<128):
  Calls x3 289 #[.string s,.int .i32 r] w fun e w'=>e=.returned (.int .i64 (Lib.indexByte s.data.toList r.toNat.toUInt8))/\w'=w:=Any.strings_IndexRune_ascii Tryz.lays152 s r w P h
def Tryz.lays226_ren:Go.Shelf.Ren:=⟨fun|226=>290|n=>n,fun|3=>3|4=>4|n=>n,fun|n=>n⟩
def Tryz.lays226:Go.Proofs.Lays.n226 x3 Tryz.lays226_ren := {
 mixed:=cV
 f226:=Tryz.func290.trans (xAF some cV)
 t3:=xAM
 a3:=Tryz.isAgg3
 z3:=Tryz.sizeOf3
 v3:=Tryz.zeroValue3
 t4:=xBC
 a4:=Tryz.isAgg4
 z4:=Tryz.sizeOf4
 v4:=Tryz.zeroValue4}
open Go.RowKit Go.Lib in
def Tryz.strings_shouldUseASCIISet(n:Int)(w:World):
  Calls x3 290 #[.int .i64 n] w fun e w'=>e=.returned (.bool (decide (8<n)))/\w'=w:=Any.strings_shouldUseASCIISet Tryz.lays226 n w
def Tryz.lays153_ren:Go.Shelf.Ren:=⟨fun|153=>221|152=>289|226=>290|227=>291|228=>292|137=>308|119=>322|224=>323|225=>324|217=>335|266=>353|n=>n,fun|9=>9|3=>3|4=>4|5=>5|21=>21|117=>416|116=>415|0=>0|46=>257|124=>443|n=>n,fun|n=>n⟩
def Tryz.lays153:Go.Proofs.Lays.n153 x3 Tryz.lays153_ren := {
 mixed:=cV
 f119:=Tryz.func322.trans (xAF some cV)
 f137:=Tryz.func308.trans (xAF some cV)
 f152:=Tryz.func289.trans (xAF some cV)
 f153:=Tryz.func221.trans (xAF some cV)
 f217:=Tryz.func335.trans (xAF some cV)
 f224:=Tryz.func323.trans (xAF some cV)
 f225:=Tryz.func324.trans (xAF some cV)
 f226:=Tryz.func290.trans (xAF some cV)
 f227:=Tryz.func291.trans (xAF some cV)
 f228:=Tryz.func292.trans (xAF some cV)
 f266:=Tryz.func353.trans (xAF some cV)
 t0:=xCX
 a0:=Tryz.isAgg0
 z0:=Tryz.sizeOf0
 v0:=Tryz.zeroValue0
 t3:=xAM
 a3:=Tryz.isAgg3
 z3:=Tryz.sizeOf3
 v3:=Tryz.zeroValue3
 t4:=xBC
 a4:=Tryz.isAgg4
 z4:=Tryz.sizeOf4
 v4:=Tryz.zeroValue4
 t5:=xAZ
 a5:=Tryz.isAgg5
 z5:=Tryz.sizeOf5
 v5:=Tryz.zeroValue5
 t9:=x9
 a9:=Tryz.isAgg9
 z9:=Tryz.sizeOf9
 v9:=Tryz.zeroValue9
 t21:=xCL
 a21:=Tryz.isAgg21
 z21:=Tryz.sizeOf21
 v21:=Tryz.zeroValue21
 t46:=xBN
 a46:=Tryz.isAgg257
 z46:=Tryz.sizeOf257
 v46:=Tryz.zeroValue257
 t116:=Tryz.underlying415
 a116:=Tryz.isAgg415
 z116:=Tryz.sizeOf415
 t117:=Tryz.underlying416
 a117:=Tryz.isAgg416
 z117:=Tryz.sizeOf416
 v117:=Tryz.zeroValue416
 t124:=Tryz.underlying443
 a124:=Tryz.isAgg443
 z124:=Tryz.sizeOf443
 v124:=Tryz.zeroValue443}
open Go.RowKit Go.Lib in
def Tryz.strings_IndexAny_long(d:∀w,(zeroValue 415).run x3 w=.ok (.agg (Array.replicate 256 (.bool false))) w)(s a:ByteArray)(w:World)(c:2<=a.size)(f:8<s.size)(g:s.size<4294967281)(H:a.size<4294967281)(h:∀(j:Nat) b,a.data.toList[j]?=some b->b.toNat<128):
  Calls x3 221 #[.string s,.string a] w fun e w'=>e=.returned (.int .i64 (Lib.indexAny s.data.toList a.data.toList))/\w'=((w.alloc (.cells (Lib.setCells a.data.toList) 415)).alloc (.cells (Lib.setCells a.data.toList) 415)):=Any.strings_IndexAny_long Tryz.lays153 d cV s a w c f g H h
def Tryz.lays212_ren:Go.Shelf.Ren:=⟨fun|212=>200|263=>276|264=>277|n=>n,fun|46=>257|51=>350|146=>402|53=>345|148=>404|n=>n,fun|n=>n⟩
def Tryz.lays212:Go.Proofs.Lays.n212 x3 Tryz.lays212_ren := {
 mixed:=cV
 f212:=Tryz.func200.trans (xAF some cV)
 f263:=Tryz.func276.trans (xAF some cV)
 f264:=Tryz.func277.trans (xAF some cV)
 t46:=xBN
 a46:=Tryz.isAgg257
 z46:=Tryz.sizeOf257
 v46:=Tryz.zeroValue257
 t51:=xB7
 a51:=Tryz.isAgg350
 z51:=Tryz.sizeOf350
 v51:=Tryz.zeroValue350
 t53:=xCQ
 a53:=Tryz.isAgg345
 z53:=Tryz.sizeOf345
 v53:=Tryz.zeroValue345
 t146:=xCD
 a146:=Tryz.isAgg402
 z146:=Tryz.sizeOf402
 v146:=Tryz.zeroValue402
 t148:=Tryz.underlying404
 a148:=Tryz.isAgg404
 z148:=Tryz.sizeOf404
 v148:=Tryz.zeroValue404}
open Go.RowKit Go.Lib in
def Tryz.bits_Mul(x y:Nat)(a:x<18446744073709551616)(t:y<18446744073709551616)(w:World):
  Calls x3 200 #[.int .u64 x,.int .u64 y] w fun e w'=>e=.returned (.tuple #[.int .u64 ((x*y/18446744073709551616:Nat):Int),.int .u64 ((x*y%18446744073709551616:Nat):Int)])/\w'=w:=Any.bits_Mul Tryz.lays212 x y a t w
end Go.Proofs
end
section
attribute [local irreducible] Go.SL.T Go.SL.OL Go.SL.D Go.SL.DL Go.SL.Ev Go.SL.Ef Go.SL.EfS
section
namespace Go.Proofs
open Go Go.SL Go.Syn Tryz
section
variable{K':Hl}{L':List Asn}{β:Type}{r:Res β}{N:β->Value->Hl->List Asn->Prop}
def Flt(e a:Int):Ending->Hl->List Asn->Prop:=fun A K' L'=>
 ∃b,A=.panicked [{v:=.iface 118 (ptr b),recovered:=false}]/\L'=[pt b (bK [i64 e,i64 a] 123)]
def jY{β:Type}(r:Res β)(N:β->Value->Hl->List Asn->Prop):Ending->Hl->List Asn->Prop:=fun A K' L'=>
 match r with
 | .ok x=>Ret (N x) A K' L'
 | .error (e,p)=>Flt e p A K' L'
def eI(K':Hl)(L':List Asn):¬jY r N .outgrown K' L':=by
 unfold jY;cases r with
 |ok x=>rintro⟨_,h,_⟩;cases h
 |error p=>rintro⟨_,h,_⟩;cases h
def eK{v:Value}(h:jY r N (.returned v) K' L'):∃x,r=.ok x/\N x v K' L':=by
 unfold jY at h;cases r with
 |ok x=>obtain⟨u,e,h⟩:=h;cases e;exact⟨x,Y,h⟩
 |error p=>obtain⟨_,e,_⟩:=h;cases e
def eJ{a:List PanicEntry}(h:jY r N (.panicked a) K' L'):∃e p,r=.error (e,p)/\Flt e p (.panicked a) K' L':=by
 unfold jY at h;cases r with
 |ok x=>obtain⟨u,e,h⟩:=h;cases e
 |error p=>exact⟨p.1,p.2,Y,h⟩
def eC{E:Env}{a:Array Oper}{rest:List Oper}{g:Fr}{K:Hl}{L:List Asn}{Q:Post}{d:Nat}{ty:TypeId}{pos:String}{aft:Array Edge}{c:Operand}{xs:List Operand}{j:Array TypeId}{f:FuncId}{y:Array Value}{vs:List Value}{L1 B:List Asn}
  (q:g.ev c=some (.func (.func f) #[] y)) (b:g.evs xs=some vs) (z:Sp E.P f (vs++y.toList) K L1 (jY r N)) (l:Tks L1 L B) (hd:Nat.blt d E.n=true)
  (P:∀e p,r=.error (e,p)->∀w K',K.le K'->D E (.panic [{v:=.iface 118 (ptr w),recovered:=false}]) g K' ([pt w (bK [i64 e,i64 p] 123)]++B) Q)
  (i:∀x,r=.ok x->∀v K' L',N x v K' L'->K.le K'->OL E a rest ((d,v)::g) K' (L'++B) Q):OL E a (⟨some d,.call ⟨.value c,xs.toArray,j⟩,ty,pos,aft,none⟩::rest) g K L Q:=
 dB q b z l hd (fun _ _=>eI _ _) (fun A K' L' t le=>by obtain⟨e,p,s,w,h,rfl⟩:=eJ t;cases h;exact P e p s w K' le) (fun v K' L' t le=>by obtain⟨x,b,u⟩:=eK t;exact i x b v K' L' u le)
def gQ(e a:Int)(K:Hl):Sp x3 184 [i64 e,i64 a] K [] (Flt e a):=by
 refine bL func184 Y ntmps184 Y Y fun F w=>Z3 ?_;refine aA (dA WH TE cW) Y (Z1 ?_);refine aCJ fun M=>aA (eX xBZ (fun _ h=>by cases h) Y) Y (IC Y (cF (xAB _) ?_));exact⟨_,Y,Y⟩
def LF(c:UInt8)(K:Hl):Sp x3 266 [.int .u8 c.toNat] K [] (Val (.bool (decide (¬c.toNat=10))) K):=by
 refine bL func266 Y ntmps266 Y Y fun F w=>ZE ?_;refine j4 ?_ _
 exact gDI
structure Glob (K:Hl):Prop where
 maxLen:∃m T fz,K 1=some (bK [i64 m] T fz)
 pow10:∀w,K.le (hp w)->Lib.TabIs x3 w "internal/strconv.uint64pow10" .u64 Lib.pow10Tab
def index_spec(s a:List UInt8)(K:Hl)(H:Glob K)(c:s.length<4294967281):Sp x3 267 [str s,str a] K [] (Val (i64 (Lib.index s a)) K):=by
 refine nW ⟨_,func267,Y,Y⟩ fun w e=>?_;obtain⟨m,T,b,B⟩:=H.maxLen;have:=Tryz.strings_Index ⟨s.toArray⟩ ⟨a.toArray⟩ m w (by simpa[ByteArray.size]using c) (nK (e _ _ B) rfl);exact this
def vR(s a:List UInt8):Lib.index s a<=(s.length:Int)-a.length\/Lib.index s a= -1:=by
 induction s with
 |nil=>cases a<;>simp[Lib.index]
 |cons b l w=>
  simp only[Lib.index];split
  ·rename_i hp;have:=List.IsPrefix.length_le (List.isPrefixOf_iff_prefix.1 hp);simp at this ⊢;omega
  split
  ·exact .inr Y
  rename_i h;simp at h;rcases w with w|w
  ·left;simp;omega
  exact absurd w h
def P6(b:Nat)(T:TypeId)(s:List UInt8)(a:Nat)(I ws x P:Value)(rest:List Value)(y:s.length<=600)(A:a<=s.length)(K:Hl)(H:Glob K):
  Sp x3 180 [ptr b] K [lxb b T s a I ws x P rest]
   (jY (skip s a) fun O v K' L'=>v=.tuple #[]/\K'=K/\L'=[lxb b T s O I ws x P rest]):=by
 refine bL func180 Y ntmps180 Y Y fun F w=>bC (eD (fun(i:Nat)=>a<=i/\i<=s.length/\∃f,s.length<i+(f+1)/\skip s a=lN s (f+1) i) (fun i=>[(0,ptr b)]) (fun _=>K) (fun i=>[lxb b T s i I ws x P rest]) (fun i=>s.length-i) a ⟨xAG _,A,s.length-a,aH,by unfold skip;congr 1;omega⟩ bM Y a7 ?_);intro i ⟨G,C,f,S,q⟩;refine Z2 ?_;refine cN [] [] mixed gAD (cM _) (ZC ?_);refine aX 13 Y (fun M=>?_) (fun M=>Z5 ?_)
 ·obtain⟨c,e⟩:∃c,s[i]?=some c:=⟨s[i],x4 aH⟩;have u:((s[i+0]?).getD 0)=c:=by rw[Nat.add_zero,e];rfl
  refine Z6 ?_;refine bA Y Y (m4 b T s i 0 I ws x P rest y aH aH K) bQ Y ?_;refine aCL ?_;rw[u];refine ZG ?_;refine aX 17 Y (fun d=>?_) (fun d=>Z6 ?_)
  ·refine ZF ?_
   (have g:∃l,f=l+1:=⟨f-1,aH⟩;obtain⟨l,rfl⟩:=g;refine cX (i+1) ⟨aH,aH,l,aH,by rw[q,p8 e aH]⟩ aH bM Y a7)
  refine aX 17 Y (fun d=>?_) (fun d=>Z6 ?_)
  ·refine ZF ?_
   (have g:∃l,f=l+1:=⟨f-1,aH⟩;obtain⟨l,rfl⟩:=g;refine cX (i+1) ⟨aH,aH,l,aH,by rw[q,p8 e aH]⟩ aH bM Y a7)
  refine aX 17 Y (fun d=>?_) (fun d=>Z5 ?_)
  ·refine ZF ?_
   (have g:∃l,f=l+1:=⟨f-1,aH⟩;obtain⟨l,rfl⟩:=g;refine cX (i+1) ⟨aH,aH,l,aH,by rw[q,p8 e aH]⟩ aH bM Y a7)
  refine aX 17 Y (fun d=>?_) (fun d=>Z6 ?_)
  ·refine ZC ?_
   (have g:∃l,f=l+1:=⟨f-1,aH⟩;obtain⟨l,rfl⟩:=g;refine cX (i+1) ⟨aH,aH,l,aH,by rw[q,p8 e aH]⟩ aH bM Y a7)
  refine aX 29 Y (fun p=>Z2 ?_) (fun p=>Z6 ?_)
  ·refine bA Y Y (uX b T s i I ws x P rest 266 (fun c=>decide (¬c.toNat=10)) y aH _ (fun c=>LF c _)) bQ Y ?_;refine aCL (Z3 ?_)
   (have N:=Ip e aH;refine cX (i+((s.drop i).takeWhile fun c=>decide (¬c.toNat=10)).length) ⟨aH,aH,f-1,aH,by rw[q,DW e aH];congr 1;omega⟩ aH bM Y a7)
  refine aX 33 Y (fun B=>?_) (fun B=>Z5 ?_)
  ·refine aI (cN [16] [] mixed gAD (cM _) (ZF ?_));refine aJ Y Y (.none Y) Y Y (lH (m:=min (i+2) s.length) x9 Y Y gBN aH) Y (gY Y (.none Y) Y Y Y Y (index_spec _ _ _ H gAG) Y (Z7 ?_));refine bA Y Y (m4 b T s i 1 I ws x P rest y aH aH _) bQ Y ?_;refine aCL ?_;have t:=vR (s.drop (min (i+2) s.length)) [42,47];simp only[List.length_drop,List.length_cons,List.length_nil]at t;refine Z3 ?_;refine aX 54 Y (fun r=>Z6 ?_) (fun r=>Z9 ?_)
   ·refine jJ Y (xAB _) ?_;have j:skip s a=.ok i:=by rw[q];first|exact tQ aH|exact sT e aH aH|exact sS e aH
    rw[j];exact gDF
   refine aX 56 Y (fun L=>Z5 ?_) (fun L=>?_)
   ·refine dB Y Y (gQ 2 i _) .nil Y gAE ?_ ?_
    ·rintro _ _ _ ⟨z,h,rfl⟩ E;cases h
     refine uAa ?_;refine Z6 ?_;rw[q,FK e aH aH L];exact⟨z,Y,Y⟩
    exact gDD
   refine ZH ?_
   (rw[show ((i:Int)+(2+Lib.index (s.drop (min (i+2) s.length)) [42,47]+2))=((i+2+(Lib.index (s.drop (min (i+2) s.length)) [42,47]).toNat+2:Nat):Int)from aH];refine cX (i+2+(Lib.index (s.drop (min (i+2) s.length)) [42,47]).toNat+2) ⟨aH,aH,f-1,aH,by rw[q,yP e aH aH aH];congr 1;omega⟩ aH bM Y a7)
  refine jJ Y (xAB _) ?_;have j:skip s a=.ok i:=by rw[q];first|exact tQ aH|exact sT e aH aH|exact sS e aH
  rw[j];exact gDF
 have j:skip s a=.ok i:=by rw[q];first|exact tQ aH|exact sT e aH aH|exact sS e aH
 rw[j];exact gDF
end
def Cl(s:List UInt8)(j p a:UInt8)(K:Hl)(l:s.length<=140737488351232):
    Sp x3 269 [str s,.int .u8 j.toNat,.int .u8 p.toNat,.int .u8 a.toNat] K [] (Val (str (s.map (mA j p a))) K):=by
  refine bL func269 Y ntmps269 Y Y fun F w=>Z8 ?_;refine uAh ?_;rintro v K _ ⟨rfl,rfl⟩ -;refine Z7 ?_;refine uAt ?_;refine Z4 ?_;refine eD (fun(i:Nat)=>i<=s.length) (fun i=>[(1,.int .u8 j.toNat),(2,.int .u8 p.toNat),(3,.int .u8 a.toNat),(9,v),(14,v),(15,i64 s.length),(16,i64 i)]) (fun _=>_) (fun i=>[sl false (elB 5) v (Plain.mp (mA j p a) s i)]) (fun i=>s.length-i) 0 (xAA _) bM Y (fun _ h=>by rw[Plain.mp_zero];exact h) ?_;intro i O;refine Z6 ?_;refine aX 17 Y (fun f=>?_) (fun f=>?_)
  · obtain⟨c,d⟩:∃c,s[i]?=some c:=⟨s[i]'(by omega),x4 aH⟩;have S:i<(Plain.mp (mA j p a) s i).length:=by rw[Plain.mp_len];omega
    have g:=(Plain.mp_get (mA j p a) s i).trans d;refine Z7 ?_;refine aA (aW (k:=(elB 5)) iG Y aL Y Y gAJ) Y (uAu ?_);refine ZA ?_;refine bV 24 Y (fun e=>?_) (fun e=>?_)
    · refine Z9 ?_;refine aX 28 Y (fun q=>Z5 ?_) (fun q=>Z7 ?_)
      · refine aA (Mu c a Y Y) Y (aA (aW (k:=(elB 5)) iG Y aL Y Y gAJ) Y ?_);refine cA (iS (k:=(elB 5)) (y0:=c+a) ts5 Y Y Y Y gAJ bP) ?_;refine aCK (Z7 ?_);refine cX (i+1) aH aH bM Y ?_
        (have I : mA j p a c = c + a := by (unfold mA; rw [x7 aH])
         rw[<-I,Plain.mp_set d];exact fun _ h=>h)
      refine cX (i+1) aH aH bM Y ?_
      (have I : mA j p a c = c := by (unfold mA; rw [x6 aH])
       rw[Plain.mp_same d I];exact fun _ h=>h)
    refine ZE ?_;refine cX (i+1) aH aH bM Y ?_
    (have I : mA j p a c = c := by (unfold mA; rw [x6 aH])
     rw[Plain.mp_same d I];exact fun _ h=>h)
  have b:=Plain.mp_end (mA j p a) s (i:=i) aH;refine Z8 ?_;refine aA (fV xAP xAZ x9 Y aL) Y (Z4 ?_);rw[b];exact gD3
def jU(s:List UInt8)(K:Hl)(c:s.length<=140737488351232):Sp x3 185 [str s] K [] (Val (str (dY s)) K):=by
 refine bL func185 Y ntmps185 Y Y fun F w=>Z8 ?_;refine cH Y Y (Cl s 65 90 32 _ c) Y (Z5 ?_);exact gDP
def KI(s:List UInt8)(K:Hl)(c:s.length<=140737488351232):Sp x3 258 [str s] K [] (Val (str (qI s)) K):=by
 refine bL func258 Y ntmps258 Y Y fun F w=>Z8 ?_;refine cH Y Y (Cl s 97 122 224 _ c) Y (Z5 ?_);exact gDP
def IA(b:Nat)(T:TypeId)(s:List UInt8)(a:Nat)(I ws x:Value)(e:Int)(rest:List Value)(q:s.length<=600)(p:a<=s.length)(K:Hl):
    Sp x3 189 [ptr b] K [lxb b T s a I ws x (i64 e) rest]
      (jY (number s a e) fun r v H L'=>v=.tuple #[]/\H=K/\L'=[lxb b T s r.1 (.int .u8 4) ws (i64 r.2) (i64 e) rest]):=by
  have L:=Fo s a p;refine bL func189 Y ntmps189 Y Y fun F w=>Z9 ?_;refine bA Y Y (uX b T s a I ws x (i64 e) rest 188 fX q p _ (fun c=>qS c _)) bQ Y ?_;refine aCL ?_;rw[show List.takeWhile fX (List.drop a s)=fG s a from rfl];have N:j7 ((fG s a).take 0)=0:=rfl;refine uAh ?_;rintro G K _ ⟨rfl,rfl⟩ -;refine uAt ?_;refine Z4 ?_;refine eD (fun(i:Nat)=>i<=(fG s a).length) (fun i=>[(0,ptr b),(2,i64 (j7 ((fG s a).take i))),(7,G),(8,i64 (fG s a).length),(9,i64 i)]) (fun _=>_) (fun i=>[sl false (elB 5) G (fG s a),lxb b T s (a+(fG s a).length:Nat) I ws x (i64 e) rest]) (fun i=>(fG s a).length-i) 0 (xAA _) bM Y a7 ?_;intro i O;refine Z6 ?_;refine aX 10 Y (fun C=>?_) (fun C=>?_)
  · obtain⟨c,E⟩:∃c,(fG s a)[i]?=some c:=⟨(fG s a)[i]'(by omega),x4 aH⟩;have hd:=QU E;have S:i<(fG s a).length:=aH;have z:=tG ((fG s a).take i);refine Z6 ?_;refine aA (aW (k:=(elB 5)) iG Y aL Y Y gAJ) Y (uAu ?_);refine Z7 ?_;refine aA (Ao (m:=c.toNat) (n:=48) aH aH Y Y) Y (aA (pT xAM xAZ Y aH aH) Y (ZA ?_));have t:j7 ((fG s a).take (i+1))=_:=vD E;refine cX (i+1) aH aH (.cons 0 Y (.cons 2 (by rw[t];rfl) bM)) Y a7
  have j:(fG s a).take i=fG s a:=xAJ aH;have z:=tG (fG s a);rw[j];refine Z5 ?_;refine dU (fun(_:Unit)=>True) (fun _=>[(0,ptr b),(2,i64 (numN s a))]) (fun _=>K) (fun _=>[lxb b T s (numA s a:Nat) I ws x (i64 e) rest]) ?_ ?_
  · refine Z3 ?_;refine bA Y Y (m4 b T s (a+(fG s a).length) 0 I ws x (i64 e) rest q aH aH _) bQ Y ?_;refine aCL ?_;have B:(((s[a+(fG s a).length+0]?).getD 0).toNat:Int)=(numC s a:Int):=rfl;rw[B];clear B;refine ZG ?_;refine aX 23 Y (fun u=>?_) (fun u=>Z5 ?_)
    · refine ZW ?_
      (have A : numN s a = j7 (fG s a) * 1024 * 1024 := (by (unfold numN; rw [x7 aH]))
       have Q:numA s a=a+(fG s a).length+1:=gC0;refine uAa ?_;refine cB () trivial (.cons 0 Y (.cons 2 (by rw[A];rfl) .nil)) Y gCT)
    refine aX 23 Y (fun u=>?_) (fun u=>Z9 ?_)
    · refine ZV ?_
      (have A : numN s a = j7 (fG s a) * 1024 * 1024 := (by (unfold numN; rw [x7 aH]))
       have Q:numA s a=a+(fG s a).length+1:=gC0;refine uAa ?_;refine cB () trivial (.cons 0 Y (.cons 2 (by rw[A];rfl) .nil)) Y gCT)
    refine aX 26 Y (fun f=>?_) (fun f=>Z5 ?_)
    · refine ZU ?_
      (have A : numN s a = j7 (fG s a) * 1024 := gC1
       have Q:numA s a=a+(fG s a).length+1:=gC0;refine uAa ?_;refine cB () trivial (.cons 0 Y (.cons 2 (by rw[A];rfl) .nil)) Y gCT)
    refine aX 26 Y (fun f=>?_) (fun f=>?_)
    · refine ZR ?_
      (have A : numN s a = j7 (fG s a) * 1024 := gC1
       have Q:numA s a=a+(fG s a).length+1:=gC0;refine uAa ?_;refine cB () trivial (.cons 0 Y (.cons 2 (by rw[A];rfl) .nil)) Y gCT)
    refine Z8 ?_
    (have A : numN s a = j7 (fG s a) := (by (unfold numN; rw [x6 aH, x6 aH]))
     have Q:numA s a=a+(fG s a).length:=(by (unfold numA;rw[x6 aH]));refine uAa ?_;refine cB () trivial (.cons 0 Y (.cons 2 (by rw[A];rfl) .nil)) Y gCT)
  intro _ _;have M:numA s a<=s.length:=GU s a p;refine Z4 ?_;refine bA Y Y (m4 b T s (numA s a) 0 I ws x (i64 e) rest q aH aH _) bQ Y ?_;refine aCL (cH Y Y (sL ((s[numA s a]?).getD 0) _) Y (Z2 ?_));refine dZ 42 Y (fun d=>Z6 ?_) (fun d=>Z9 ?_)
  · refine dB Y Y (gQ 2 e _) .nil Y gAE ?_ ?_
    · rintro _ _ _ ⟨l,h,rfl⟩ y;cases h
      refine uAa ?_;refine Z2 ?_;unfold number;rw[x7 d];exact gFO
    exact gDD
  refine aX 50 Y (fun g=>Z6 ?_) (fun g=>ZG ?_)
  · refine dB Y Y (gQ 3 e _) .nil Y gAE ?_ ?_
    · rintro _ _ _ ⟨l,h,rfl⟩ y;cases h
      refine uAa ?_;refine Z2 ?_;unfold number;rw[x6 (by simp[d]),x7 g];exact gFO
    exact gDD
  unfold number;rw[x6 (by simp[d]),x6 aH];exact gDF
end Go.Proofs
end
section
namespace Go.Proofs
open Go Go.SL Tryz
def uW:unsB x3 132 2=true:=cV
def Fh:x3.cellsOf 5=1:=cV
abbrev zW(b:Nat)(q:Bool)(v:Value):Asn:=pt b (bK [if q then ptr b else .pointer none,v] 132)
abbrev bldr(b:Nat)(xs:List UInt8):Asn:=exA fun v:Value=>[exA fun q:Bool=>[zW b q v],sl true (elB 5) v xs]
def Q1(b:Nat):∀h,pt b (bK [.pointer none,.slice none 0 0] 132) h->Sat [bldr b []] h:=by
 intro h y;refine nO.2 ⟨.slice none 0 0,nO.2 ⟨false,h,.emp,y,⟨.emp,.emp,.inl ⟨Y,Y,Y⟩,Y,Hl.dj_emp _,(Hl.join_emp _).symm⟩,Hl.dj_emp _,(Hl.join_emp _).symm⟩⟩
def AU(b:Nat)(v:Value)(xs:List UInt8):∀h,Sat [zW b true v,sl true (elB 5) v xs] h->Sat [bldr b xs] h:=by
 intro h y;exact nO.2 ⟨v,nO.2 ⟨true,y⟩⟩
def Fb(b:Nat):∀h,pt b (bK [.pointer none,.slice none 0 0] 132) h->bldr b [] h:=by
 intro h y;obtain⟨a,l,s,v,hd,A⟩:=Q1 b h y;rw[A,show l=.emp from v,Hl.join_emp];exact s
def gS{A B:Asn}{M:List Asn}(k:∀h,A h->B h):∀h,Sat (A::M) h->Sat (B::M) h:=fun h ⟨a,l,s,v,hd,b⟩=>⟨a,l,k a s,v,hd,b⟩
def n8(b:Nat)(q:Bool)(v:Value)(K:Hl):Sp x3 196 [ptr b] K [zW b q v] (Ret fun u a L'=>u=.tuple #[]/\a=K/\L'=[zW b true v]):=by
 cases q with
 |true=>
  refine bL func196 Y ntmps196 Y Y fun F w=>?_;refine ZH ?_;refine aA (BO xBU uW Y Y) Y ?_;exact gHT
 |false=>
  refine bL func196 Y ntmps196 Y Y fun F w=>?_;refine ZD ?_;refine aA (Ia xBU xB0 Y (.own .here) uW) Y ?_;refine aA (nH Y Y func272 cV cV cV (ex:=Extern.AbiNoEscape.same) cV (fun _ _=>Y)) Y ?_;refine aA (EF xB0 xBU Y (.own .here) uW) Y ?_;exact gHT
def lZ(b:Nat)(c:UInt8)(xs:List UInt8)(f:xs.length<=140737488351232)(K:Hl):Sp x3 268 [ptr b,.int .u8 c.toNat] K [bldr b xs] (Ret fun u d L'=>u=.nilIface/\d=K/\L'=[bldr b (xs++[c])]):=by
 refine bL func268 Y ntmps268 Y Y fun F w=>tR fun v=>tR fun q=>Z8 ?_;refine bA Y Y (n8 b q v _) bQ Y ?_;refine aCL (ZA ?_);refine cG (bJ (z0:=[.int .u8 0]) iG tz5 Y Y Y Y cW) Y ?_;refine aCJ fun e=>cG (dJ (k:=(elB 5)) (ys:=[c]) qA Y Y bP (fun w j=>dC xAP (SeesSl.at (.blk aL Y Y) j)) gAH gAH) Y ?_;rintro a K _ ⟨rfl,rfl,h⟩ -;refine ZB ?_;refine uAi ?_;refine d8 (AU b a (xs++[c])) (Z1 ?_);exact gDF
def nF(b:Nat)(s:List UInt8)(xs:List UInt8)(d:xs.length+s.length<=140737488351232)(K:Hl):Sp x3 109 [ptr b,str s] K [bldr b xs] (Ret fun u c L'=>u=.tuple #[i64 s.length,.nilIface]/\c=K/\L'=[bldr b (xs++s)]):=by
 refine bL func109 Y ntmps109 Y Y fun F w=>tR fun v=>tR fun q=>Z9 ?_;refine bA Y Y (n8 b q v _) bQ Y ?_;refine aCL (ZA ?_);refine cG (dJ (k:=(elB 5)) (ys:=s) qA Y Y bP (fun _ _=>zL x9) aH aH) Y ?_;rintro a K _ ⟨rfl,rfl,h⟩ -;refine ZE ?_;refine uAn ?_;refine d8 (AU b a (xs++s)) (jK Y Y Y (xAB _) ?_);exact gDF
def qR(b:Nat)(xs:List UInt8)(c:xs.length<=140737488351232)(K:Hl):Sp x3 63 [ptr b] K [bldr b xs] (Ret fun u a L'=>u=str xs/\a=K/\L'=[]):=by
 exact gDN
end Go.Proofs
end
section
namespace Go.Proofs
open Go Go.SL Go.Syn Tryz
def IK(b:Nat)(T:TypeId)(s:List UInt8)(a:Nat)(I ws x:Value)(e:Int)(rest:List Value)(t:s.length<=600)(z:a<s.length)(K:Hl):
  Sp x3 182 [ptr b] K [lxb b T s a I ws x (i64 e) rest]
   (jY (Syn.quoted s a e) fun r v u L'=>v=.tuple #[]/\u=K/\L'=[lxb b T s r.1 (.int .u8 3) (str r.2) x (i64 e) rest]):=by
 refine bL func182 Y ntmps182 Y Y fun F w=>Z3 ?_;refine aCJ fun M=>ZG ?_;refine jC (fun(i:Nat) (c:List UInt8)=>a+1<=i/\i<=s.length/\c.length<=i/\∃f,s.length+2<=i+(f+1)/\Syn.quoted s a e=jA s e (f+1) i c) (fun i c=>[(0,ptr b),(2,ptr M)]) (fun _ _=>K) (fun i c=>[bldr M c,lxb b T s i I ws x (i64 e) rest]) (fun i c=>s.length-i) (a+1) [] ⟨aH,aH,cD,s.length-a,aH,by unfold Syn.quoted;congr 1;omega⟩ bM Y (gS (Fb M)) ?_;intro i c ⟨G,C,S,f,y,d⟩;refine Z5 ?_;refine bA Y Y (m4 b T s i 0 I ws x (i64 e) rest t aH aH _) bQ Y ?_;refine aCL ?_;rw[Nat.add_zero];have N:i<s.length\/((s[i]?).getD 0).toNat=0:=(by by_cases h:i<s.length;exact .inl h;right;rw[xAH aH];rfl);refine Z5 ?_;refine cN [] [] mixed gAD (cM _) (ZB ?_);refine eV 30 Y (fun E=>Z5 ?_) (fun E=>ZF ?_)
 ·refine aX 33 Y (fun B=>ZM ?_) (fun B=>Z9 ?_)
  ·refine bA Y Y (qR M c aH _) bQ Y ?_;refine aCL (ZA ?_);rw[d,BX aH aH];exact gDF
  refine aX 35 Y (fun p=>ZE ?_) (fun p=>Z4 ?_)
  ·refine bA Y Y (m4 b T s (i+1) 0 I ws x (i64 e) rest t aH aH _) bQ Y ?_;refine aCL ?_;rw[Nat.add_zero];refine Z5 ?_;refine cN [] [] mixed gAD (cM _) (ZC ?_);refine aX 54 Y (fun g=>Z6 ?_) (fun g=>Z4 ?_)
   ·refine dB Y Y (gQ 2 e _) .nil Y gAE ?_ ?_
    ·rintro _ _ _ ⟨j,h,rfl⟩ q;cases h
     refine uAa ?_;refine Z7 ?_;rw[d,uR aH aH aH];exact⟨j,Y,Y⟩
    exact gDD
   refine bA Y Y (lZ M _ c aH _) bQ Y ?_;refine aCL (ZD ?_);obtain⟨l,rfl⟩:∃l,f=l+1:=⟨f-1,aH⟩;refine d9 (i+2) (c++[(s[i+1]?).getD 0]) ⟨aH,aH,by simp;omega,l,aH,by rw[d,wB aH aH aH]⟩ aH bM Y a7
  refine cN [] [] mixed gAD (cM _) (ZC ?_);refine aX 54 Y (fun g=>Z6 ?_) (fun g=>Z4 ?_)
  ·refine dB Y Y (gQ 2 e _) .nil Y gAE ?_ ?_
   ·rintro _ _ _ ⟨j,h,rfl⟩ q;cases h
    exact gE4
   exact gDD
  refine bA Y Y (lZ M _ c aH _) bQ Y ?_;refine aCL (ZD ?_);obtain⟨l,rfl⟩:∃l,f=l+1:=⟨f-1,aH⟩;refine d9 (i+1) (c++[(s[i]?).getD 0]) ⟨aH,aH,by simp;omega,l,aH,by rw[d,uQ aH aH aH]⟩ aH bM Y a7
 refine aX 35 Y (fun p=>ZE ?_) (fun p=>Z4 ?_)
 ·refine bA Y Y (m4 b T s (i+1) 0 I ws x (i64 e) rest t aH aH _) bQ Y ?_;refine aCL ?_;rw[Nat.add_zero];refine Z5 ?_;refine cN [] [] mixed gAD (cM _) (ZC ?_);refine aX 54 Y (fun g=>Z6 ?_) (fun g=>Z4 ?_)
  ·refine dB Y Y (gQ 2 e _) .nil Y gAE ?_ ?_
   ·rintro _ _ _ ⟨j,h,rfl⟩ q;cases h
    exact gE4
   exact gDD
  refine bA Y Y (lZ M _ c aH _) bQ Y ?_;refine aCL (ZD ?_);obtain⟨l,rfl⟩:∃l,f=l+1:=⟨f-1,aH⟩;refine d9 (i+2) (c++[(s[i+1]?).getD 0]) ⟨aH,aH,by simp;omega,l,aH,by rw[d,wB aH aH aH]⟩ aH bM Y a7
 refine cN [] [] mixed gAD (cM _) (ZC ?_);refine aX 54 Y (fun g=>Z6 ?_) (fun g=>Z4 ?_)
 ·refine dB Y Y (gQ 2 e _) .nil Y gAE ?_ ?_
  ·rintro _ _ _ ⟨j,h,rfl⟩ q;cases h
   exact gE4
  exact gDD
 refine bA Y Y (lZ M _ c aH _) bQ Y ?_;refine aCL (ZD ?_);obtain⟨l,rfl⟩:∃l,f=l+1:=⟨f-1,aH⟩;refine d9 (i+1) (c++[(s[i]?).getD 0]) ⟨aH,aH,by simp;omega,l,aH,by rw[d,uQ aH aH aH]⟩ aH bM Y a7
def j5{α:Type}(p:α->Bool)(s:List α)(i:Nat)(h:i<=s.length):i+((s.drop i).takeWhile p).length<=s.length:=by
 have:=(List.takeWhile_sublist p (l:=s.drop i)).length_le;simp only[List.length_drop]at this;omega
def Tr(s:List UInt8):∀(f i j:Nat),i<=s.length->lN s f i=.ok j->i<=j/\j<=s.length:=by
 intro f;induction f with
 |zero=>intro i j p h;simp only[lN]at h;cases h;exact⟨xAG _,p⟩
 |succ f w=>
  intro i j p h;simp only[lN]at h;split at h
  ·exact gHG
  rename_i c d;have G:i<s.length:=by
   rcases xAD i s.length with e|e
   ·exact e
   simp[List.getElem?_eq_none e]at d
  split at h
  ·have:=w _ _ aH h;omega
  split at h
  ·have:=j5 (fun c:UInt8=>decide (¬c.toNat=10)) s i p;have:=w _ _ aH h;omega
  split at h
  ·split at h
   ·exact gHG
   split at h
   ·cases h
   rename_i a;have t:=vR (s.drop (min (i+2) s.length)) [42,47];simp only[List.length_drop,List.length_cons,List.length_nil]at t;have:=w _ _ aH h;omega
  exact gHG
theorem xX{s:List UInt8}{a a1:Nat}(b:a<=s.length)(h:skip s a=.ok a1):a<=a1/\a1<=s.length:=Tr s _ _ _ b h
abbrev lxw(b:Nat)(T:TypeId)(s:List UInt8)(a:Nat)(w:Word)(rest:List Value):Asn:=lxb b T s a (.int .u8 w.kind) (str w.s) (i64 w.n) (i64 w.at_) rest
def fE(b:Nat)(T:TypeId)(s:List UInt8)(a:Nat)(L ws Q P:Value)(rest:List Value)(y:s.length<=600)(I:a<=s.length)(K:Hl)(hg:Glob K):
    Sp x3 101 [ptr b] K [lxb b T s a L ws Q P rest]
      (jY (Syn.next s a) fun r v S L'=>v=.tuple #[]/\S=K/\L'=[lxw b T s r.1 r.2 rest]):=by
  refine bL func101 Y ntmps101 Y Y fun F w=>Z3 ?_;refine dB Y Y (P6 b T s a L ws Q P rest y I _ hg) bQ Y (fun _ _=>eI _ _) ?_ ?_
  · rintro _ _ _ E t;obtain⟨e,p,q,l,h,rfl⟩:=eJ E;cases h
    refine uAa ?_;refine Z2 ?_;have u:Syn.next s a=.error (e,p):=(by unfold Syn.next;rw[q]);rw[u];exact gFO
  rintro _ K _ E -;obtain⟨f,x,rfl,rfl,rfl⟩:=eK E;have W:=(xX I x).2;refine Z9 ?_;refine aA (dA MT Hy cW) Y (Z2 ?_);refine cA (cQ qZ Y Y Y bP (by first|(simp[Value.oneCell'];done)|exact fun c z=>El.one _ _ c z) (.skip (.skip (.cons (.cons (.cons (.cons .nil)))))) gAQ) ?_;refine aCK (Z4 ?_);refine cN [] [] mixed gAD (cM _) (ZC ?_);refine aX 22 Y (fun A=>?_) (fun A=>?_)
  · have u:Syn.next s a=.ok (f,⟨0,[],0,f⟩):=(by simp only[Syn.next,x];rw[xAH aH]);refine Z2 ?_;refine jJ Y (xAB _) ?_;rw[u];exact⟨_,Y,Y,Y,Y⟩
  obtain⟨c,z⟩:∃c,s[f]?=some c:=⟨s[f]'(by omega),x4 aH⟩;have u:Syn.next s a=kM s f c:=(by simp only[Syn.next,x,z]);have H:((s[f+0]?).getD 0)=c:=by rw[Nat.add_zero,z];rfl
  refine Z5 ?_;refine bA Y Y (m4 b T s f 0 _ _ _ _ rest y aH aH _) bQ Y ?_;refine aCL ?_;rw[H];refine Z9 ?_;refine dU (fun(_:Unit)=>True) (fun _=>[(0,ptr b),(2,.int .u8 c.toNat),(25,.int .u8 c.toNat),(50,.bool (eF c))]) (fun _=>K) (fun _=>[lxb b T s f (.int .u8 0) (str []) (i64 0) (i64 f) rest]) ?_ ?_
  · refine Z6 ?_;refine aX 50 Y (fun d=>?_) (fun d=>Z6 ?_)
    · refine aU ?_
      (have g : eF c = true := gAL
       exact cB () trivial (.cons 0 Y (.cons 2 Y (.cons 25 Y (.cons 50 (by rw[g];rfl) .nil)))) Y a7)
    refine aX 50 Y (fun d=>?_) (fun d=>Z6 ?_)
    · refine aU ?_
      (have g : eF c = true := gAL
       exact cB () trivial (.cons 0 Y (.cons 2 Y (.cons 25 Y (.cons 50 (by rw[g];rfl) .nil)))) Y a7)
    refine aX 50 Y (fun d=>?_) (fun d=>Z6 ?_)
    · refine aU ?_
      (have g : eF c = true := gAL
       exact cB () trivial (.cons 0 Y (.cons 2 Y (.cons 25 Y (.cons 50 (by rw[g];rfl) .nil)))) Y a7)
    refine aX 50 Y (fun d=>?_) (fun d=>Z6 ?_)
    · refine aU ?_
      (have g : eF c = true := gAL
       exact cB () trivial (.cons 0 Y (.cons 2 Y (.cons 25 Y (.cons 50 (by rw[g];rfl) .nil)))) Y a7)
    refine aX 50 Y (fun d=>?_) (fun d=>Z6 ?_)
    · refine aU ?_
      (have g : eF c = true := gAL
       exact cB () trivial (.cons 0 Y (.cons 2 Y (.cons 25 Y (.cons 50 (by rw[g];rfl) .nil)))) Y a7)
    refine aX 50 Y (fun d=>?_) (fun d=>Z6 ?_)
    · refine aU ?_
      (have g : eF c = true := gAL
       exact cB () trivial (.cons 0 Y (.cons 2 Y (.cons 25 Y (.cons 50 (by rw[g];rfl) .nil)))) Y a7)
    refine aX 50 Y (fun d=>?_) (fun d=>?_)
    · refine aU ?_
      (have g : eF c = true := gAL
       exact cB () trivial (.cons 0 Y (.cons 2 Y (.cons 25 Y (.cons 50 (by rw[g];rfl) .nil)))) Y a7)
    refine Z4 ?_
    (have g : eF c = decide ((c.toNat : Int) = 93) := (by unfold eF; rw [decide_eq_decide]; omega)
     exact cB () trivial (.cons 0 Y (.cons 2 Y (.cons 25 Y (.cons 50 (by rw[g];rfl) .nil)))) Y a7)
  intro _ _;refine dZ 50 Y (fun d=>Z5 ?_) (fun d=>Z6 ?_)
  · have G:=VK d;refine aA (G2 xAZ x9 Y gAJ) Y (ZM ?_);rw[u];unfold kM;rw[x7 d];exact⟨_,Y,Y,Y,Y⟩
  refine aX 76 Y (fun B=>Z2 ?_) (fun B=>Z6 ?_)
  · refine dB Y Y (IK b T s f _ _ _ f rest y aH _) bQ Y (fun _ _=>eI _ _) ?_ ?_
    · rintro _ _ _ hT2 t;obtain⟨e,p,q,l,h,rfl⟩:=eJ hT2;cases h
      refine uAa ?_;refine Z2 ?_;rw[u];unfold kM;rw[x6 (by simp[d]),x7 aH,q];exact gFO
    rintro _ K _ hT2 -;obtain⟨r,q,rfl,rfl,rfl⟩:=eK hT2;refine Z3 ?_;rw[u];unfold kM;rw[x6 (by simp[d]),x7 aH,q];exact gDF
  refine aX 80 Y (fun C=>Z4 ?_) (fun C=>Z4 ?_)
  · refine bA Y Y (m4 b T s f 1 _ _ _ _ rest y aH aH _) bQ Y ?_;refine aCL (cH Y Y (tC _ _) Y (aA gAB Y (Z2 ?_)));refine dZ 85 Y (fun O=>?_) (fun O=>?_)
    · refine Z5 ?_;refine dB Y Y (gQ 2 f _) .nil Y gAE ?_ ?_
      · rintro _ _ _ ⟨l,h,rfl⟩ t;cases h
        refine uAa ?_;refine Z3 ?_;rw[u];unfold kM;rw[x6 (by simp[d]),x6 aH,x7 aH,x6 (by simpa using O)];exact gFO
      exact gDD
    refine ZQ ?_;refine bA Y Y (uX b T s (f+1) _ _ _ _ rest 187 eS y aH _ (fun c=>sL c _)) bQ Y ?_;refine aCL ?_;have N:=j5 eS s (f+1) aH;refine cH Y Y (jU _ _ aH) Y (Z7 ?_);rw[u];unfold kM;rw[x6 (by simp[d]),x6 aH,x7 aH,x7 (by simpa using O)];exact gDF
  refine cH Y Y (tC c _) Y (Z3 ?_);refine dZ 31 Y (fun i=>Z4 ?_) (fun i=>Z3 ?_)
  · refine bA Y Y (uX b T s f _ _ _ _ rest 187 eS y aH _ (fun c=>sL c _)) bQ Y ?_;refine aCL ?_;have N:=j5 eS s f aH;refine cH Y Y (jU _ _ aH) Y (ZC ?_);rw[u];unfold kM;rw[x6 (by simp[d]),x6 aH,x6 aH,x7 i];exact⟨_,Y,Y,Y,Y⟩
  refine cH Y Y (qS c _) Y (Z3 ?_);refine dZ 45 Y (fun M=>Z2 ?_) (fun M=>Z5 ?_)
  · refine dB Y Y (IA b T s f _ _ _ f rest y aH _) bQ Y (fun _ _=>eI _ _) ?_ ?_
    · rintro _ _ _ hT2 t;obtain⟨e,p,q,l,h,rfl⟩:=eJ hT2;cases h
      refine uAa ?_;refine Z3 ?_;rw[u];unfold kM;rw[x6 (by simp[d]),x6 aH,x6 aH,x6 (by simp[i]),x7 M,q];exact gFO
    rintro _ K _ hT2 -;obtain⟨r,q,rfl,rfl,rfl⟩:=eK hT2;refine Z4 ?_;rw[u];unfold kM;rw[x6 (by simp[d]),x6 aH,x6 aH,x6 (by simp[i]),x7 M,q];exact gDF
  refine dB Y Y (gQ 2 f _) .nil Y gAE ?_ ?_
  · rintro _ _ _ ⟨l,h,rfl⟩ t;cases h
    refine uAa ?_;refine Z3 ?_;rw[u];unfold kM;rw[x6 (by simp[d]),x6 aH,x6 aH,x6 (by simp[i]),x6 (by simp[M])];exact gFO
  exact gDD
end Go.Proofs
end
section
namespace Go.Syn
open Go.Proofs
section
variable{s x:aP}{wat:Int}{a:Nat}{r st:St}{c:UInt8}
theorem DE:∀(f i:Nat) (acc:aP) (r:Nat×aP),jA s wat f i acc=.ok r->i<r.1/\r.1<=s.length:=by
 intro f;induction f<;>grind [jA]
def Ki(d:s[a]?=some c)(h:fX c=true):0<(fG s a).length:=by
 have p:a<s.length:=by
  rcases xAD a s.length with h|h
  ·exact h
  simp[List.getElem?_eq_none h]at d
 have e:s[a]=c:=by simpa[List.getElem?_eq_getElem p]using d
 unfold fG;exact gGX
def Ui(d:s[a]?=some c)(h:eS c=true):0<(lM s a).length:=by
 have p:a<s.length:=by
  rcases xAD a s.length with h|h
  ·exact h
  simp[List.getElem?_eq_none h]at d
 have e:s[a]=c:=by simpa[List.getElem?_eq_getElem p]using d
 unfold lM;exact gGX
theorem OJ{r:Nat×Int}(b:a<=s.length)(h:number s a wat=.ok r):a+(fG s a).length<=r.1/\r.1<=s.length:=by
 grind [number,numA,GU]
def A2{r:Nat×Word}(i:a<=s.length)(h:next s a=.ok r):a<=r.1/\r.1<=s.length/\(r.2.kind≠0->a<r.1):=by
 unfold next at h;split at h
 ·cases h
 rename_i b j;obtain⟨e,f⟩:=xX i j;split at h
 ·cases h;exact⟨e,f,fun h=>absurd Y h⟩
 rename_i c d;have p:b<s.length:=by
  rcases xAD b s.length with h|h
  ·exact h
  simp[List.getElem?_eq_none h]at d
 have L:b<r.1/\r.1<=s.length:=by
  unfold kM at h;split at h
  ·cases h;exact⟨cD,by simp;omega⟩
  split at h
  ·split at h
   ·cases h
   rename_i q g;cases h
   have:=DE _ _ _ _ g;exact⟨by show b<q.1;omega,this.2⟩
  split at h
  ·split at h
   ·cases h
    have:=j5 eS s (b+1) aH;exact⟨by show b<b+1+_;omega,this⟩
   cases h
  split at h
  ·rename_i v;cases h
   have:=j5 eS s b aH;have hp:=Ui d (show eS c=true by simp[eS,v]);exact⟨by show b<b+_;omega,this⟩
  split at h
  ·rename_i hd;split at h
   ·cases h
   rename_i q g;cases h
   have:=OJ aH g;have hp:=Ki d hd;exact⟨by show b<q.1;omega,this.2⟩
  cases h
 exact⟨aH,L.2,fun _=>by omega⟩
def wl(w:Word):Nat:=if w.kind=0 then 0 else if w.kind=1 then max 1 w.s.length else 1
def mu(s:aP)(st:St):Nat:=(s.length-st.1)+min (wl st.2) (s.length+1)
theorem GS(b:a<=s.length)(h:next s a=.ok r):a+wl r.2<=r.1:=by
 have v:=A2 b h;unfold wl;split
 ·omega
 rename_i P;have e:=v.2.2 P;split
 ·rename_i j;unfold next at h;split at h
  ·cases h
  rename_i d c;obtain⟨f,l⟩:=xX b c;split at h<;>grind [kM,dY,xX]
 omega
theorem j1(a:st.1<=s.length)(j:st.2.kind≠0)(h:next s st.1=.ok r):mu s r<mu s st/\r.1<=s.length:=by
 obtain⟨c,b,l⟩:=A2 a h;have z:=GS a h;refine⟨?_,b⟩
 have F:1<=wl st.2:=by unfold wl;rw[x6 j];split<;>omega
 unfold mu;omega
def GR(a:st.1<=s.length)(d:st.2.s.length<=s.length)(j:st.2.kind=1)(h:next s st.1=.ok r):mu s r+st.2.s.length<=mu s st:=by
 obtain⟨b,c,l⟩:=A2 a h;have z:=GS a h;have F:wl st.2=max 1 st.2.s.length:=by unfold wl;rw[x6 aH,x7 j]
 unfold mu;omega
def RO(h:next s 0=.ok r):mu s r<=s.length:=by
 have z:=GS (xAA _) h;have b:=(A2 (xAA _) h).2.1;unfold mu;omega
def Hx{k:Nat}{d:List aP}{r:Word×St}(a:st.1<=s.length)(j:k≠0)(h:take s st k d=.ok r):mu s r.2<mu s st/\r.2.1<=s.length:=by
 unfold take at h;split at h
 ·cases h
 rename_i u;have c:st.2.kind=k:=by
  rcases Nat.decEq st.2.kind k with e|e
  ·exact absurd (.inl e) u
  exact e
 split at h
 ·cases h
 rename_i q g;cases h
 exact j1 a aH g
theorem AY{r:Bool×St}(a:st.1<=s.length)(h:eat s st x=.ok r):r.2.1<=s.length/\mu s r.2<=mu s st/\(r.1=true->mu s r.2<mu s st):=by
 grind [eat,j1]
def nA{ff:aP->Int}{r:aP×St}(a:st.1<=s.length)(h:text s st ff=.ok r):mu s r.2<mu s st/\r.2.1<=s.length:=by
 unfold text at h;split at h
 ·cases h
 split at h
 ·cases h
 rename_i q g;cases h
 exact Hx a dD g
def Hh(a:st.1<=s.length)(h:sign s st x=.ok r):mu s r<mu s st/\r.1<=s.length:=by
 unfold sign at h;split at h
 ·cases h
 rename_i q g;cases h
 exact Hx a dD g
def vY(s:aP)(st:St):mu s st<=s.length*2+1:=by unfold mu;omega
def oD(s:aP)(ff:aP->Int):Nat->St->List aP->Res (List aP×St)
 |0,_,_=>.error (0,0)
 |f+1,st,F=>
  match eat s st [44]with
  | .error e=>.error e
  | .ok r=>
   if r.1=true then
    match text s r.2 ff with
    | .error e=>.error e
    | .ok x=>oD s ff f x.2 (F++[x.1])
   else
    match sign s r.2 [93]with
    | .error e=>.error e
    | .ok q=>.ok (F,q)
def list(s:aP)(st:St)(ff:aP->Int):Res (List aP×St):=
 match eat s st [91]with
 | .error e=>.error e
 | .ok r=>
  match text s r.2 ff with
  | .error e=>.error e
  | .ok x=>if r.1=true then oD s ff (mu s x.2+1) x.2 [x.1]else .ok ([x.1],x.2)
def named(s:aP):Bool:=s.all eS&&(decide (s≠[])&&!fX ((s[0]?).getD 0))
def oneOf(e:Int)(d:List aP)(x:aP):Int:=if x∈d then 0 else e
theorem D6{i:Nat}(d:s[i]?=some c)(h:eS c=false):named s=false:=by
 grind [named]
structure SetC where
 name:aP
 value:aP
 tag:Int
def fR:aP:=[108,111,119,101,114]
def gD:aP:=[117,112,112,101,114]
def fZ:aP:=[108,101,110,103,116,104]
def dS:aP:=[118,97,114,105,97,98,108,101,115]
def lW(s:aP)(st:St):Res (Int×St):=
 if st.2.kind=2 then
  if dT [fR,gD,fZ] st.2.s= -1 then .error (4,st.2.at_)
  else match next s st.1 with
   | .error e=>.error e
   | .ok r=>.ok (1+dT [fR,gD,fZ] st.2.s,r)
 else .ok (0,st)
def m7(s:aP)(t:Int×St):Res (SetC×St):=
 match text s t.2 (fun x=>if named x=true then 0 else 7)with
 | .error e=>.error e
 | .ok n=>
  match text s n.2 (fun _=>0)with
  | .error e=>.error e
  | .ok v=>
   match sign s v.2 [59]with
   | .error e=>.error e
   | .ok q=>.ok (⟨dY n.1,v.1,t.1⟩,q)
def setC(s:aP)(needs:List aP)(st:St):Res (SetC×St):=
 if dS∈needs then
  match next s st.1 with
  | .error e=>.error e
  | .ok r=>
   match lW s r with
   | .error e=>.error e
   | .ok t=>m7 s t
 else .error (6,st.2.at_)
end
section
variable{s x:aP}{a:Nat}{r st:St}
theorem IJ{e:Int}:∀(f i:Nat) (acc:aP) (r:Nat×aP),jA s e f i acc=.ok r->acc.length<=i->r.2.length<=r.1:=by
 intro f;induction f<;>grind [jA]
def pB(s:aP):(dY s).length=s.length:=by simp[dY]
def RU{r:Nat×Word}(d:a<=s.length)(h:next s a=.ok r):r.2.s.length<=s.length:=by
 unfold next at h;split at h
 ·cases h
 rename_i b f;obtain⟨i,j⟩:=xX d f;split at h
 ·cases h;simp
 rename_i c e;have p:b<s.length:=by
  rcases xAD b s.length with h|h
  ·exact h
  simp[List.getElem?_eq_none h]at e
 unfold kM at h;split at h
 ·cases h;simp;omega
 split at h
 ·split at h
  ·cases h
  rename_i q g;cases h
  have l:=DE _ _ _ _ g;have z:=IJ _ _ _ _ g cD
  show q.2.length<=s.length
  omega
 split at h
 ·split at h
  ·cases h
   have:=j5 eS s (b+1) aH
   show (dY (lM s (b+1))).length<=_
   rw[pB];unfold lM;omega
  cases h
 split at h
 ·cases h
  have:=j5 eS s b aH
  show (dY (lM s b)).length<=_
  rw[pB];unfold lM;omega
 split at h
 ·split at h
  ·cases h
  cases h;simp
 cases h
def Ok(s:aP)(st:St):Prop:=st.1<=s.length/\st.2.s.length<=s.length
theorem fU(b:a<=s.length)(h:next s a=.ok r):Ok s r:=⟨(A2 b h).2.1,RU b h⟩
theorem AL{k:Nat}{d:List aP}{r:Word×St}(a:st.1<=s.length)(h:take s st k d=.ok r):Ok s r.2:=by
 grind [take,Ok,fU]
theorem AZ{r:Bool×St}(a:Ok s st)(h:eat s st x=.ok r):Ok s r.2:=by
 grind [eat,Ok,fU]
def oQ{ff:aP->Int}{r:aP×St}(a:st.1<=s.length)(h:text s st ff=.ok r):Ok s r.2:=by
 unfold text at h;split at h
 ·cases h
 split at h
 ·cases h
 rename_i q g;cases h
 exact AL a g
def CC(a:st.1<=s.length)(h:sign s st x=.ok r):Ok s r:=by
 unfold sign at h;split at h
 ·cases h
 rename_i q g;cases h
 exact AL a g
end
end Go.Syn
end
section
namespace Go.Syn
section
variable{s:aP}{ff:aP->Int}
def RC:∀ {f:Nat} {st:St} {acc:List aP} {r:List aP×St},Ok s st->oD s ff f st acc=.ok r->Ok s r.2/\mu s r.2<mu s st:=by
 intro f;induction f with
 |zero=>intro st acc r _ h;cases h
 |succ f w=>
  intro st acc r a h;simp only[oD]at h;split at h
  ·cases h
  rename_i q g;obtain⟨_,I,_⟩:=AY a.1 g;have z:=AZ a g;split at h
  ·split at h
   ·cases h
   rename_i x b;have c:=nA z.1 b;have d:=oQ z.1 b;have:=w d h;exact⟨this.1,aH⟩
  split at h
  ·cases h
  rename_i y t;cases h
  have c:=Hh z.1 t;exact⟨CC z.1 t,by simp only[];omega⟩
def nN{st:St}{r:List aP×St}(f:Ok s st)(h:list s st ff=.ok r):Ok s r.2/\mu s r.2<mu s st:=by
 unfold list at h;split at h
 ·cases h
 rename_i q g;obtain⟨_,I,_⟩:=AY f.1 g;have z:=AZ f g;split at h
 ·cases h
 rename_i x a;have c:=nA z.1 a;have b:=oQ z.1 a;split at h
 ·have:=RC b h;exact⟨this.1,aH⟩
 cases h;exact⟨b,by simp only[];omega⟩
inductive Tree where
 |const (b:Bool)
 |not_ (t:Tree)
 |many (all:Bool) (l:Tree)
 |mat (tag:Int) (octet:Bool) (op:Int) (a b:List aP)
 |exi (a:List aP)
 |siz (tag n:Int)
 |tnil
 |tcons (t l:Tree)
 |plain (op:Int)
 |act (kind:Int) (arg:aP) (at_:Int)
 |set_ (name value:aP) (tag:Int)
 |iff (bs:Tree)
 |cnil
 |ccons (c l:Tree)
 |bnil
 |bcons (t body l:Tree)
 |belse (body l:Tree)
def wf:Tree->Nat->Bool
 | .const _,k=>k==0
 | .not_ t,k=>k==0&&wf t 0
 | .many _ l,k=>k==0&&wf l 1
 | .mat _ _ _ _ _,k=>k==0
 | .exi _,k=>k==0
 | .siz _ _,k=>k==0
 | .tnil,k=>k==1
 | .tcons t l,k=>k==1&&(wf t 0&&wf l 1)
 | .plain _,k=>k==2
 | .act _ _ _,k=>k==2
 | .set_ _ _ _,k=>k==2
 | .iff s,k=>k==2&&wf s 4
 | .cnil,k=>k==3
 | .ccons c l,k=>k==3&&(wf c 2&&wf l 3)
 | .bnil,k=>k==4
 | .bcons t b l,k=>k==4&&(wf t 0&&(wf b 3&&wf l 4))
 | .belse b l,k=>k==4&&(wf b 3&&wf l 4)
def Tree.snocT:Tree->Tree->Tree
 | .tcons t l,x=>.tcons t (l.snocT x)
 |_,x=>.tcons x .tnil
def Tree.snocC:Tree->Tree->Tree
 | .ccons t l,x=>.ccons t (l.snocC x)
 |_,x=>.ccons x .cnil
def mkB(t:Option Tree)(body l:Tree):Tree:=match t with
 |some t=>.bcons t body l
 |none=>.belse body l
def Tree.snocB:Tree->Option Tree->Tree->Tree
 | .bcons t b l,x,y=>.bcons t b (l.snocB x y)
 | .belse b l,x,y=>.belse b (l.snocB x y)
 |_,x,y=>mkB x y .bnil
def txIs:aP:=[105,115]
def pH:aP:=[99,111,110,116,97,105,110,115]
def rJ:aP:=[109,97,116,99,104,101,115]
def nE:aP:=[99,111,109,112,97,114,97,116,111,114]
def dH:aP:=[105,59,111,99,116,101,116]
def cU:aP:=[105,59,97,115,99,105,105,45,99,97,115,101,109,97,112]
def dK:aP:=[101,110,118,101,108,111,112,101]
def wX:aP:=[111,118,101,114]
def lR:aP:=[117,110,100,101,114]
def eQ:List aP:=[txIs,pH,rJ,nE]
structure How where
 cmp:Bool
 tag:Int
 oct:Bool
def iB(s:aP):Nat->How->St->Res (How×St)
 |0,_,_=>.error (0,0)
 |f+1,h,a=>
  if a.2.kind=2 then
   if dT eQ a.2.s= -1 then .error (4,a.2.at_)
   else if (dT eQ a.2.s=3/\h.cmp=true)\/(dT eQ a.2.s<3/\h.tag≠0)then .error (7,a.2.at_)
   else if dT eQ a.2.s<3 then
    match next s a.1 with
    | .error e=>.error e
    | .ok r=>iB s f ⟨h.cmp,1+dT eQ a.2.s,h.oct⟩ r
   else
    match next s a.1 with
    | .error e=>.error e
    | .ok r=>
     match text s r (oneOf 7 [dH,cU])with
     | .error e=>.error e
     | .ok x=>iB s f ⟨true,h.tag,decide (x.1=dH)⟩ x.2
  else .ok (h,a)
def mO(op:Int):aP->Int:=if op=7 then fun x=>oneOf 7 [[102,114,111,109],[116,111]] (dY x)else fun _=>0
def lV(s:aP)(op:Int)(h:Res (How×St)):Res (Tree×St):=
 match h with
 | .error e=>.error e
 | .ok h=>
  match list s h.2 (mO op)with
  | .error e=>.error e
  | .ok a=>
   match list s a.2 (fun _=>0)with
   | .error e=>.error e
   | .ok b=>.ok (.mat (if 1>h.1.tag then 1 else h.1.tag) h.1.oct op a.1 b.1,b.2)
def kW(s:aP)(needs:List aP)(op:Int)(ext:aP)(st:St):Res (Tree×St):=
 if ext≠[]/\ext∉needs then .error (6,st.2.at_)
 else match next s st.1 with
  | .error e=>.error e
  | .ok r=>lV s op (iB s (mu s r+1) ⟨false,0,false⟩ r)
def kT(s:aP)(c:Tree)(st:St):Res (Tree×St):=
 match next s st.1 with
 | .error e=>.error e
 | .ok r=>
  match sign s r [59]with
  | .error e=>.error e
  | .ok q=>.ok (c,q)
def actC(s:aP)(needs:List aP)(a:Int)(ext:aP)(b:Int)(st:St):Res (Tree×St):=
 if ext≠[]/\ext∉needs then .error (6,st.2.at_)
 else match next s st.1 with
  | .error e=>.error e
  | .ok r=>
   match take s r 3 []with
   | .error e=>.error e
   | .ok x=>
    match sign s x.2 [59]with
    | .error e=>.error e
    | .ok q=>.ok (.act a x.1.s b,q)
def mL(s:aP)(b:Bool)(st:St):Res (Tree×St):=
 match next s st.1 with
 | .error e=>.error e
 | .ok r=>.ok (.const b,r)
def nL(s:aP)(st:St):Res (Tree×St):=
 match next s st.1 with
 | .error e=>.error e
 | .ok r=>
  match list s r (fun _=>0)with
  | .error e=>.error e
  | .ok a=>.ok (.exi a.1,a.2)
def p7(s:aP)(st:St):Res (Tree×St):=
 match next s st.1 with
 | .error e=>.error e
 | .ok r=>
  match take s r 2 [wX,lR]with
  | .error e=>.error e
  | .ok x=>
   match take s x.2 4 []with
   | .error e=>.error e
   | .ok y=>.ok (.siz (if x.1.s=lR then 2 else 1) y.1.n,y.2)
def notC(s:aP)(T:St->Res (Tree×St))(st:St):Res (Tree×St):=
 match next s st.1 with
 | .error e=>.error e
 | .ok r=>
  match T r with
  | .error e=>.error e
  | .ok t=>.ok (.not_ t.1,t.2)
def oT(s:aP)(T:St->Res (Tree×St)):Nat->Tree->St->Res (Tree×St)
 |0,_,_=>.error (0,0)
 |f+1,F,a=>
  match eat s a [44]with
  | .error e=>.error e
  | .ok r=>
   if r.1=true then
    match T r.2 with
    | .error e=>.error e
    | .ok t=>oT s T f (F.snocT t.1) t.2
   else
    match sign s r.2 [41]with
    | .error e=>.error e
    | .ok q=>.ok (F,q)
def qU(all:Bool)(l:Res (Tree×St)):Res (Tree×St):=
 match l with
 | .error e=>.error e
 | .ok l=>.ok (.many all l.1,l.2)
def oE(s:aP)(T:St->Res (Tree×St))(all:Bool)(st:St):Res (Tree×St):=
 match next s st.1 with
 | .error e=>.error e
 | .ok r=>
  match sign s r [40]with
  | .error e=>.error e
  | .ok q=>
   match T q with
   | .error e=>.error e
   | .ok t=>
    qU all (oT s T (mu s t.2+1) (.tcons t.1 .tnil) t.2)
def jO:aP:=[116,114,117,101]
def gO:aP:=[102,97,108,115,101]
def qF:aP:=[110,111,116]
def lE:aP:=[97,108,108,111,102]
def lF:aP:=[97,110,121,111,102]
def gK:aP:=[104,101,97,100,101,114]
def gL:aP:=[115,116,114,105,110,103]
def kJ:aP:=[101,120,105,115,116,115]
def mW:aP:=[115,105,122,101]
def oP(s:aP)(needs:List aP)(T:St->Res (Tree×St))(st:St):Option (Res (Tree×St)):=
 let w:=st.2.s
 if w=jO then some (mL s true st)
 else if w=gO then some (mL s false st)
 else if w=qF then some (notC s T st)
 else if w=lE then some (oE s T true st)
 else if w=lF then some (oE s T false st)
 else if w=gK then some (kW s needs 6 [] st)
 else if w=dK then some (kW s needs 7 dK st)
 else if w=gL then some (kW s needs 8 dS st)
 else if w=kJ then some (nL s st)
 else if w=mW then some (p7 s st)
 else none
def test(s:aP)(needs:List aP):Nat->St->Res (Tree×St)
 |0,e=>if e.2.kind=1 then .error (5,e.2.at_)else .error (4,e.2.at_)
 |n+1,e=>
  if e.2.kind=1 then
   match oP s needs (test s needs n) e with
   |some r=>r
   |none=>.error (4,e.2.at_)
  else .error (4,e.2.at_)
def kU(s:aP)(B:St->Res (Tree×St))(st:St):Res (Tree×St):=
 match sign s st [123]with
 | .error e=>.error e
 | .ok q=>
  match B q with
  | .error e=>.error e
  | .ok b=>
   match sign s b.2 [125]with
   | .error e=>.error e
   | .ok r=>.ok (b.1,r)
def oR:aP:=[101,108,115,105,102]
def qL:aP:=[101,108,115,101]
def l4(s:aP)(B:St->Res (Tree×St))(acc:Tree)(st:St):Res (Tree×St):=
 if st.2.kind=1/\st.2.s=qL then
  match next s st.1 with
  | .error e=>.error e
  | .ok r=>
   match kU s B r with
   | .error e=>.error e
   | .ok b=>.ok (.iff (acc.snocB none b.1),b.2)
 else .ok (.iff acc,st)
def iH(s:aP)(T B:St->Res (Tree×St)):Nat->Tree->St->Res (Tree×St)
 |0,_,_=>.error (0,0)
 |f+1,F,a=>
  if a.2.kind=1/\a.2.s=oR then
   match next s a.1 with
   | .error e=>.error e
   | .ok r=>
    match T r with
    | .error e=>.error e
    | .ok t=>
     match kU s B t.2 with
     | .error e=>.error e
     | .ok b=>iH s T B f (F.snocB (some t.1) b.1) b.2
  else l4 s B F a
def ifC(s:aP)(T B:St->Res (Tree×St))(st:St):Res (Tree×St):=
 match next s st.1 with
 | .error e=>.error e
 | .ok r=>
  match T r with
  | .error e=>.error e
  | .ok t=>
   match kU s B t.2 with
   | .error e=>.error e
   | .ok b=>iH s T B (mu s b.2+1) (.bcons t.1 b.1 .bnil) b.2
def pI:aP:=[107,101,101,112]
def jH:aP:=[100,105,115,99,97,114,100]
def l6:aP:=[115,116,111,112]
def fO:aP:=[102,105,108,101,105,110,116,111]
def gH:aP:=[114,101,100,105,114,101,99,116]
def hU:aP:=[114,101,106,101,99,116]
def sE:aP:=[115,101,116]
def txIf:aP:=[105,102]
def sR(s:aP)(needs:List aP)(st:St):Res (Tree×St):=
 match setC s needs st with
 | .error e=>.error e
 | .ok r=>.ok (.set_ r.1.name r.1.value r.1.tag,r.2)
def cmdD(s:aP)(needs:List aP)(T B:St->Res (Tree×St))(st:St):Option (Res (Tree×St)):=
 let w:=st.2.s
 if w=pI then some (kT s (.act 1 [] st.2.at_) st)
 else if w=jH then some (kT s (.plain 13) st)
 else if w=l6 then some (kT s (.plain 14) st)
 else if w=fO then some (actC s needs 2 fO st.2.at_ st)
 else if w=gH then some (actC s needs 3 [] st.2.at_ st)
 else if w=hU then some (actC s needs 4 hU st.2.at_ st)
 else if w=sE then some (sR s needs st)
 else if w=txIf then some (ifC s T B st)
 else none
def j6(s:aP)(C:St->Option (Res (Tree×St))):Nat->Tree->St->Res (Tree×St)
 |0,_,_=>.error (0,0)
 |f+1,F,a=>
  if a.2.kind=1 then
   match C a with
   |none=>.error (4,a.2.at_)
   |some (.error e)=>.error e
   |some (.ok c)=>j6 s C f (F.snocC c.1) c.2
  else .ok (F,a)
def block(s:aP)(needs:List aP):Nat->St->Res (Tree×St)
 |0,e=>if e.2.kind=1 then .error (5,e.2.at_)else .ok (.cnil,e)
 |n+1,e=>j6 s (cmdD s needs (test s needs n) (block s needs n)) (mu s e+1) .cnil e
end
end Go.Syn
end
section
namespace Go.Syn
open Go Go.SL
section
variable{sv v:Cell}{K K':Hl}{ys:List (Cell×Cell)}{o:Option Tree}{b t:Tree}
def u0:Cell:=⟨.nilIface,rfl⟩
def Rep(K:Hl):Tree->List (Cell×Cell)->Prop
 | .const b,L=>L=[(⟨.iface 289 (.bool b),rfl⟩,u0)]
 | .not_ t,L=>∃v,Rep K t [(v,u0)]/\L=[(⟨.iface 293 (.agg #[v.1]),rfl⟩,u0)]
 | .many c l,L=>∃x sv,Rep K l x/\Ksl (cC 288) K sv (x.map (·.1))/\L=[(⟨.iface 376 (.agg #[.bool c,sv]),rfl⟩,u0)]
 | .mat S d B a b,L=>∃C f,Ksl (aZ 9) K C a/\Ksl (aZ 9) K f b/\L=[(⟨.iface 380 (.agg #[i64 S,.bool d,i64 B,C,f]),rfl⟩,u0)]
 | .exi a,L=>∃C,Ksl (aZ 9) K C a/\L=[(⟨.iface 297 (.agg #[C]),rfl⟩,u0)]
 | .siz S n,L=>L=[(⟨.iface 300 (.agg #[i64 S,i64 n]),rfl⟩,u0)]
 | .tnil,L=>L=[]
 | .tcons t l,L=>∃v x,Rep K t [(v,u0)]/\Rep K l x/\L=(v,u0)::x
 | .plain B,L=>L=[(⟨.iface 285 (.agg #[i64 B]),rfl⟩,u0)]
 | .act k a p,L=>L=[(⟨.iface 282 (.agg #[i64 k,str a,i64 p]),rfl⟩,u0)]
 | .set_ n v t,L=>L=[(⟨.iface 308 (.agg #[str n,str v,i64 t]),rfl⟩,u0)]
 | .iff s,L=>∃x sv,Rep K s x/\Ksl (dM 371) K sv x/\L=[(⟨.iface 311 (.agg #[sv]),rfl⟩,u0)]
 | .cnil,L=>L=[]
 | .ccons t l,L=>∃v x,Rep K t [(v,u0)]/\Rep K l x/\L=(v,u0)::x
 | .bnil,L=>L=[]
 | .bcons t b l,L=>∃v ys sv x,Rep K t [(v,u0)]/\(∃P u,v.1=.iface P u)/\Rep K b ys/\Ksl (cC 224) K sv.1 (ys.map (·.1))/\Rep K l x/\L=(v,sv)::x
 | .belse b l,L=>∃ys sv x,Rep K b ys/\Ksl (cC 224) K sv.1 (ys.map (·.1))/\Rep K l x/\L=(⟨.nilIface,rfl⟩,sv)::x
def Rep.mono(le:K.le K'):∀ {t:Tree} {L:List (Cell×Cell)},Rep K t L->Rep K' t L:=by
 intro t;induction t with
 |const b=>intro L h;exact h
 |not_ t w=>rintro L ⟨v,h,e⟩;exact⟨v,w h,e⟩
 |many g l w=>rintro L ⟨x,sv,c,d,e⟩;exact⟨x,sv,w c,d.mono le,e⟩
 |mat S j B a b=>rintro L ⟨C,q,c,d,e⟩;exact⟨C,q,c.mono le,d.mono le,e⟩
 |exi a=>rintro L ⟨C,c,e⟩;exact⟨C,c.mono le,e⟩
 |siz S n=>intro L h;exact h
 |tnil=>intro L h;exact h
 |tcons t l A i=>rintro L ⟨v,x,c,d,e⟩;exact⟨v,x,A c,i d,e⟩
 |plain B=>intro L h;exact h
 |act k a p=>intro L h;exact h
 |set_ n v t=>intro L h;exact h
 |iff s w=>rintro L ⟨x,sv,c,d,e⟩;exact⟨x,sv,w c,d.mono le,e⟩
 |cnil=>intro L h;exact h
 |ccons t l A i=>rintro L ⟨v,x,c,d,e⟩;exact⟨v,x,A c,i d,e⟩
 |bnil=>intro L h;exact h
 |bcons t b l A i N=>rintro L ⟨v,ys,sv,x,c,d,f,z,F,e⟩;exact⟨v,ys,sv,x,A c,d,i f,z.mono le,N F,e⟩
 |belse b l A i=>rintro L ⟨ys,sv,x,c,d,f,e⟩;exact⟨ys,sv,x,A c,d.mono le,i f,e⟩
def Rep1(K:Hl)(t:Tree)(v:Value):Prop:=∃P u,v=.iface P u/\Rep K t [(⟨.iface P u,rfl⟩,u0)]
def Rep1.mono{v:Value}(h:Rep1 K t v)(le:K.le K'):Rep1 K' t v:=let ⟨a,b,e,r⟩:=h;⟨a,b,e,r.mono le⟩
def isTL:Tree->Bool
 | .tnil=>true
 | .tcons _ l=>isTL l
 |_=>false
def isCL:Tree->Bool
 | .cnil=>true
 | .ccons _ l=>isCL l
 |_=>false
def isBL:Tree->Bool
 | .bnil=>true
 | .bcons _ _ l=>isBL l
 | .belse _ l=>isBL l
 |_=>false
def Pb(I:Rep K t [(v,u0)]):∀ {l:Tree} {L:List (Cell×Cell)},isTL l=true->Rep K l L->Rep K (l.snocT t) (L++[(v,u0)])/\isTL (l.snocT t)=true:=by
 intro l;induction l with
 |tnil=>intro L _ h;cases (show L=[]from h);exact⟨⟨v,[],I,Y,Y⟩,Y⟩
 |tcons x l A i=>
  rintro L a ⟨w,e,b,c,rfl⟩;obtain⟨d,z⟩:=i a c;exact⟨⟨w,_,b,d,Y⟩,z⟩
 |_=>intro L a;cases a
def Pa(I:Rep K t [(v,u0)]):∀ {l:Tree} {L:List (Cell×Cell)},isCL l=true->Rep K l L->Rep K (l.snocC t) (L++[(v,u0)])/\isCL (l.snocC t)=true:=by
 intro l;induction l with
 |cnil=>intro L _ h;cases (show L=[]from h);exact⟨⟨v,[],I,Y,Y⟩,Y⟩
 |ccons x l A i=>
  rintro L a ⟨w,e,b,c,rfl⟩;obtain⟨d,z⟩:=i a c;exact⟨⟨w,_,b,d,Y⟩,z⟩
 |_=>intro L a;cases a
def RepO(K:Hl):Option Tree->Cell->Prop
 |none,v=>v=⟨.nilIface,rfl⟩
 |some t,v=>Rep K t [(v,u0)]/\∃P u,v.1=.iface P u
def Vv{l:Tree}{xs:List (Cell×Cell)}(q:RepO K o v)(r:Rep K b ys)(c:Ksl (cC 224) K sv.1 (ys.map (·.1)))(a:Rep K l xs):Rep K (mkB o b l) ((v,sv)::xs):=by
 cases o with
 |none=>cases (show v=_ from q);exact⟨ys,sv,xs,r,c,a,Y⟩
 |some t=>exact⟨v,ys,sv,xs,q.1,q.2,r,c,a,Y⟩
def Bw(q:RepO K o v)(r:Rep K b ys)(j:Ksl (cC 224) K sv.1 (ys.map (·.1))):
  ∀ {l:Tree} {L:List (Cell×Cell)},isBL l=true->Rep K l L->Rep K (l.snocB o b) (L++[(v,sv)])/\isBL (l.snocB o b)=true:=by
 intro l;induction l with
 |bnil=>intro L _ h;cases (show L=[]from h);exact⟨Vv q r j Y,by cases o<;>rfl⟩
 |bcons x y l A i N=>
  rintro L a ⟨w,g,f,p,c,d,e,z,F,rfl⟩;obtain⟨G,B⟩:=N a F;exact⟨⟨w,g,f,_,c,d,e,z,G,Y⟩,B⟩
 |belse y l A i=>
  rintro L a ⟨g,f,p,c,d,e,rfl⟩;obtain⟨G,B⟩:=i a e;exact⟨⟨g,f,_,c,d,G,Y⟩,B⟩
 |_=>intro L a;cases a
def Bv{c d:Cell}(e:wf t 0=true\/wf t 2=true)(h:Rep K t [(c,d)]):∃ty u,c.1=.iface ty u:=by
 cases t<;>simp only[wf,Rep]at h e
 case const b=>cases h;exact⟨_,_,Y⟩
 case not_ t=>obtain⟨v,_,h⟩:=h;cases h;exact⟨_,_,Y⟩
 case many f l=>obtain⟨x,sv,_,_,h⟩:=h;cases h;exact⟨_,_,Y⟩
 case mat S g B a b=>obtain⟨C,i,_,_,h⟩:=h;cases h;exact⟨_,_,Y⟩
 case exi a=>obtain⟨C,_,h⟩:=h;cases h;exact⟨_,_,Y⟩
 case siz S n=>cases h;exact⟨_,_,Y⟩
 case plain B=>cases h;exact⟨_,_,Y⟩
 case act k a p=>cases h;exact⟨_,_,Y⟩
 case set_ n v t=>cases h;exact⟨_,_,Y⟩
 case iff s=>obtain⟨x,sv,_,_,h⟩:=h;cases h;exact⟨_,_,Y⟩
 all_goals simp at e
end
end Go.Syn
end
section
namespace Go.Proofs
open Go Go.SL Go.Syn Tryz
section
variable{texts:List (List UInt8)}{s:List UInt8}{k:Nat}{st:St}
def wM(v:Value)(x:List UInt8)(xs:List (List UInt8))(K:Hl)(L:List Asn)(hv:SeesSl (aZ 9) K L v xs)(f:xs.length<=1000000):
  Sp x3 195 [v,str x] K L (Ret fun u c L'=>u=i64 (dT xs x)/\c=K/\L'=L):=by
 refine bL func195 Y ntmps195 Y Y fun F w=>Z9 ?_;refine aA (bU (k:=aZ 9) Y xAC Y hv) Y (Z4 ?_);refine eD (fun(i:Nat)=>i<=xs.length/\∀j:Nat,j<i->xs[j]?≠some x) (fun i=>[(0,v),(1,str x),(7,i64 xs.length),(8,i64 i)]) (fun _=>K) (fun _=>L) (fun i=>xs.length-i) 0 ⟨xAA _,fun j h=>by omega⟩ bM Y a7 ?_;intro i ⟨G,C⟩;refine Z6 ?_;refine aX 9 Y (fun d=>?_) (fun d=>ZC ?_)
 ·obtain⟨y,t⟩:∃y,xs[i]?=some y:=⟨xs[i]'(by omega),x4 aH⟩;have S:i<xs.length:=aH;refine ZF ?_;refine aA (aW (k:=aZ 9) b0 Y hv Y Y S) Y (aA (cE (o:=0) (k:=aZ 9) ts9 Y hv t Y) Y (Z3 ?_));refine aX 16 Y (fun a=>ZD ?_) (fun a=>Z7 ?_)
  ·exact⟨_,Y,by rw[Pk C (a▸t)],rfl,rfl⟩
  refine cX (i+1) ⟨aH,?_⟩ aH bM Y a7
  intro j E e
  by_cases b:j=i
  ·subst b;rw[t]at e;exact a (xA0 e).symm
  exact C j aH e
 exact⟨_,Y,by rw[Pm (fun j E=>C j aH)],rfl,rfl⟩
def oK(v:Value)(x:List UInt8)(xs:List (List UInt8))(K:Hl)(L:List Asn)(hv:SeesSl (aZ 9) K L v xs)(b:xs.length<=1000000):
  Sp x3 108 [v,str x] K L (Ret fun u a L'=>u=.bool (decide (x∈xs))/\a=K/\L'=L):=by
 refine bL func108 Y ntmps108 Y Y fun F w=>Z9 ?_;refine bA Y Y (wM v x xs _ _ hv b) (cM _) Y (aCL (Z5 ?_));rw[xAL];refine Z1 ?_;exact⟨_,Y,by rw[decide_eq_decide.2 (Ly xs x)],rfl,rfl⟩
abbrev psb(b:Nat)(s:List UInt8)(st:St)(rest:List Value):Asn:=lxw b 208 s st.1 st.2 rest
def Io(b:Nat)(x:List UInt8)(xs:List (List UInt8))(l:List Value)(T:TypeId)(nv:Value)(K:Hl)(L:List Asn)(r:Sees K L b (bK l T))(v:l[6]?=some nv)(hv:SeesSl (aZ 9) K L nv xs)(c:xs.length<=1000000):
  Sp x3 59 [ptr b 6,str x] K L (Ret fun u a L'=>u=.bool (decide (x∈xs))/\a=K/\L'=L):=by
 refine bL func59 Y ntmps59 Y Y fun F w=>ZA ?_;refine aA (aK eL Y r v) Y (Z1 ?_);refine bA Y Y (oK nv x xs _ _ hv c) (cM _) Y (aCL (Z4 ?_));rw[xAL];exact gEN
def lD(b:Nat)(s:List UInt8)(st:St)(rest:List Value)(K:Hl):
  Sp x3 106 [ptr b] K [psb b s st rest] (Flt 4 st.2.at_):=by
 refine bL func106 Y ntmps106 Y Y fun F w=>Z7 ?_;refine dB Y Y (gQ 4 st.2.at_ _) .nil Y gAE ?_ ?_
 ·rintro _ _ _ ⟨a,h,rfl⟩ p;cases h
  refine uAa ?_;refine Z1 ?_;exact⟨a,Y,Y⟩
 exact gDD
def zJ(b:Nat)(s:List UInt8)(st:St)(nv:Value)(rest:List Value)(needs:List (List UInt8))(x:List UInt8)(K:Hl)(hv:Ksl (aZ 9) K nv needs)(u:needs.length<=1000000):
  Sp x3 261 [ptr b,str x] K [psb b s st (nv::rest)] (jY (if x∈needs then .ok ()else .error (6,st.2.at_)) fun _ v a L'=>v=.tuple #[]/\a=K/\L'=[psb b s st (nv::rest)]):=by
 refine bL func261 Y ntmps261 Y Y fun F w=>?_;refine Z6 ?_;refine bA Y Y (Io b x needs _ _ nv _ _ (.own .here) Y (.known hv) u) (.cons .here .nil) Y ?_;refine aCL ?_;refine aA gAB Y ?_;refine Z2 ?_;refine aX 9 Y (fun j=>?_) (fun j=>?_)
 ·refine Z7 ?_;refine dB Y Y (gQ 6 st.2.at_ _) .nil Y gAE ?_ ?_
  ·rintro _ _ _ ⟨c,h,rfl⟩ p;cases h
   refine uAr ?_;refine Z1 ?_;rw[x6 j];exact gFF
  exact gDD
 refine Z2 ?_;rw[x7 (xBH.1 j)];exact gDF
abbrev wagg(w:Word):Value:=.agg #[.int .u8 w.kind,str w.s,i64 w.n,i64 w.at_]
def PN(h:¬(st.2.kind:Int)=k):take s st k texts=.error (4,st.2.at_):=by
 unfold take;rw[x7 (.inl aH)]
def PO(h:0<(texts.length:Int))(B:¬st.2.s∈texts):take s st k texts=.error (4,st.2.at_):=by
 unfold take;rw[x7 (.inr ⟨by rintro rfl;simp at h,B⟩)]
def CF(h:¬ ¬(st.2.kind:Int)=k)(B:¬0<(texts.length:Int)\/¬ ¬st.2.s∈texts):
  take s st k texts=match Syn.next s st.1 with| .error e=>.error e| .ok r=>.ok (st.2,r):=by
 have u:¬(st.2.kind≠k\/(texts≠[]/\st.2.s∉texts)):=by
  rintro(a|⟨a,b⟩)
  ·omega
  rcases B with B|B
  ·exact a (xA7.1 aH)
  exact B b
 unfold take;exact(x6 u).trans (by cases Syn.next s st.1<;>rfl)
def pC(b:Nat)(s:List UInt8)(st:St)(rest:List Value)(k:Nat)(y:Value)(texts:List (List UInt8))(K:Hl)(t:s.length<=600)(l:st.1<=s.length)(H:Glob K)(hv:Ksl (aZ 9) K y texts)(x:texts.length<=1000000):
  Sp x3 179 [ptr b,.int .u8 k,y] K [psb b s st rest] (jY (take s st k texts) fun r v u L'=>v=wagg r.1/\u=K/\L'=[psb b s r.2 rest]):=by
 refine bL func179 Y ntmps179 Y Y fun F w=>Z3 ?_;refine aCJ fun z=>ZA ?_;refine aCJ fun M=>cA (cQ qZ Y Y Y bP gA5 (.cons (.cons (.cons (.cons .nil)))) gBA) ?_;refine aCK (ZA ?_);refine bV 17 Y (fun N=>?_) (fun N=>?_)
 ·refine ZG ?_;refine dB Y Y (lD b s st rest _) bQ Y gAE ?_ ?_
  ·rintro _ _ _ ⟨d,h,rfl⟩ f;cases h
   refine uAa ?_;refine Z2 ?_;rw[PN N];exact gEM
  exact gDD
 refine Z3 ?_;refine aA (bU (k:=aZ 9) Y xAC Y (.known hv)) Y (Z4 ?_);refine bV 21 Y (fun a=>Z7 ?_) (fun a=>ZI ?_)
 ·refine bA Y Y (oK y st.2.s texts _ [] (.known hv) x) .nil Y (aCL (Z1 ?_));refine aA gAB Y (Z5 ?_);refine aX 28 Y (fun q=>?_) (fun q=>?_)
  ·refine Z2 ?_;refine dB Y Y (lD b s st rest _) bQ Y gAE ?_ ?_
   ·rintro _ _ _ ⟨d,h,rfl⟩ f;cases h
    refine uAa ?_;refine Z2 ?_;rw[PO a q];exact gEM
   exact gDD
  refine Z7 ?_;refine dB Y Y (fE b 208 s st.1 _ _ _ _ rest t l _ H) bQ Y (fun _ _=>eI _ _) ?_ ?_
  ·rintro _ _ _ hT2 f;obtain⟨e,p,i,d,h,rfl⟩:=eJ hT2;cases h
   refine uAa ?_;refine Z2 ?_;rw[CF N (.inr q),i];exact gEM
  rintro _ K _ hT2 -;obtain⟨r,i,rfl,rfl,rfl⟩:=eK hT2;refine Z5 ?_;refine cA (cQ qZ Y Y Y bP gA5 (.cons (.cons (.cons (.cons .nil)))) gBA) ?_;refine aCK (Z3 ?_);refine o0 Y Y qZ aL Y Y (xAB _) (.cons (by first|exact .here|exact .there .here|exact .there (.there .here)) .nil) ?_;rw[CF N (.inr q),i];exact gDF
 refine dB Y Y (fE b 208 s st.1 _ _ _ _ rest t l _ H) bQ Y (fun _ _=>eI _ _) ?_ ?_
 ·rintro _ _ _ hT2 f;obtain⟨e,p,i,d,h,rfl⟩:=eJ hT2;cases h
  refine uAa ?_;refine Z2 ?_;rw[CF N (.inl a),i];exact gEM
 rintro _ K _ hT2 -;obtain⟨r,i,rfl,rfl,rfl⟩:=eK hT2;refine Z5 ?_;refine cA (cQ qZ Y Y Y bP gA5 (.cons (.cons (.cons (.cons .nil)))) gBA) ?_;refine aCK (Z3 ?_);refine o0 Y Y qZ aL Y Y (xAB _) (.cons (by first|exact .here|exact .there .here|exact .there (.there .here)) .nil) ?_;rw[CF N (.inl a),i];exact gDF
def Glob.mono{K a:Hl}(h:Glob K)(le:K.le a):Glob a:=⟨let ⟨m,T,b,e⟩:=h.maxLen;⟨m,T,b,le _ _ e⟩,fun w l=>h.pow10 w (x5 le l)⟩
def FJ(b:Nat)(s:List UInt8)(st:St)(rest:List Value)(x:List UInt8)(K:Hl)(g:s.length<=600)(f:st.1<=s.length)(H:Glob K):
  Sp x3 104 [ptr b,str x] K [psb b s st rest] (jY (Syn.sign s st x) fun r v _ L'=>v=.tuple #[]/\L'=[psb b s r rest]):=by
 refine bL func104 Y ntmps104 Y Y fun F w=>Z3 ?_;refine cG (bJ (z0:=[(str [])]) b0 tz9 Y Y Y Y cW) Y ?_;refine aCJ fun c=>kE fun L a hK1=>?_;refine dB Y Y (pC b s st rest 5 _ [x] _ g f (H.mono a) (.inr ⟨c,0,1,[str x],(0,0),Y,⟨_,hK1⟩,Y⟩) cD) bQ Y (fun _ _=>eI _ _) ?_ ?_
 ·rintro _ _ _ hT2 A;obtain⟨e,p,i,d,h,rfl⟩:=eJ hT2;cases h
  refine uAa ?_;refine cF (x5 a A) ?_;unfold Syn.sign;rw[i];exact gEM
 rintro _ S _ hT2 A;obtain⟨r,i,rfl,rfl,rfl⟩:=eK hT2;refine aG (dG Y a ?_);unfold Syn.sign;rw[i];exact gEO
def Db(b:Nat)(s:List UInt8)(st:St)(rest:List Value)(x:List UInt8)(K:Hl)(g:s.length<=600)(f:st.1<=s.length)(H:Glob K):
  Sp x3 190 [ptr b,str x] K [psb b s st rest] (jY (eat s st x) fun r v c L'=>v=.bool r.1/\c=K/\L'=[psb b s r.2 rest]):=by
 refine bL func190 Y ntmps190 Y Y fun F w=>ZF ?_;refine bV 13 Y (fun a=>ZQ ?_) (fun a=>ZT ?_)
 ·refine aX 23 Y (fun u=>Z4 ?_) (fun u=>ZA ?_)
  ·refine dB Y Y (fE b 208 s st.1 _ _ _ _ rest g f _ H) bQ Y (fun _ _=>eI _ _) ?_ ?_
   ·rintro _ _ _ hT2 j;obtain⟨e,p,i,d,h,rfl⟩:=eJ hT2;cases h
    refine uAa ?_;refine Z2 ?_;unfold eat;rw[x7 ⟨aH,u⟩,i];exact gEM
   rintro _ K _ hT2 -;obtain⟨r,i,rfl,rfl,rfl⟩:=eK hT2;refine ZA ?_;unfold eat
   (rw[x7 ⟨aH,u⟩,i];exact⟨_,Y,by rw[xAO u],rfl,rfl⟩)
  unfold eat
  (rw[x6 (fun h=>u h.2)];exact⟨_,Y,by rw[xAQ u],rfl,rfl⟩)
 unfold eat
 (rw[x6 aH];exact⟨_,Y,Y,Y,Y⟩)
def nB(b:Nat)(s:List UInt8)(st:St)(rest:List Value)(fn:FuncId)(y:Array Value)(ff:List UInt8->Int)(K:Hl)(g:s.length<=600)(f:st.1<=s.length)(t:st.2.s.length<=s.length)(H:Glob K)
  (l:∀x:List UInt8,x.length<=600->Sp x3 fn (str x::y.toList) K [] (Val (i64 (ff x)) K)):
  Sp x3 191 [ptr b,.func (.func fn) #[] y] K [psb b s st rest] (jY (Syn.text s st ff) fun r v j L'=>v=str r.1/\j=K/\L'=[psb b s r.2 rest]):=by
 refine bL func191 Y ntmps191 Y Y fun F w=>ZH ?_;refine aX 12 Y (fun d=>Z9 ?_) (fun d=>Z5 ?_)
 ·refine cH Y Y (l st.2.s aH) Y (Z9 ?_);refine aX 22 Y (fun q=>Z8 ?_) (fun q=>Z5 ?_)
  ·refine dB Y Y (gQ (ff st.2.s) st.2.at_ _) .nil Y gAE ?_ ?_
   ·rintro _ _ _ ⟨a,h,rfl⟩ c;cases h
    refine uAa ?_;refine Z2 ?_;unfold Syn.text;rw[x7 ⟨aH,aH⟩];exact⟨a,Y,Y⟩
   exact gDD
  refine dB Y Y (pC b s st rest 3 _ [] _ g f H (.inl ⟨none,0,Y,Y⟩) cD) bQ Y (fun _ _=>eI _ _) ?_ ?_
  ·rintro _ _ _ hT2 c;obtain⟨e,p,i,a,h,rfl⟩:=eJ hT2;cases h
   exact gGM
  exact gE9
 refine dB Y Y (pC b s st rest 3 _ [] _ g f H (.inl ⟨none,0,Y,Y⟩) cD) bQ Y (fun _ _=>eI _ _) ?_ ?_
 ·rintro _ _ _ hT2 c;obtain⟨e,p,i,a,h,rfl⟩:=eJ hT2;cases h
  exact gGM
 exact gE9
end
def LG(b:Nat)(x:List UInt8):∀h,pt b (bK [str x] 9) h->sl false (aZ 9) (.slice (some ⟨b,0,none⟩) 1 1) [x] h:=
 AH (k:=aZ 9) (xs:=[x]) (cells:=[str x]) (xAG _) rfl rfl (.inl (xAG _)) (fun h=>by cases h)
def Oj(b:Nat)(s:List UInt8)(st:St)(rest:List Value)(fn:FuncId)(c:Array Value)(ff:List UInt8->Int)(K:Hl)(I:s.length<=600)(L:Ok s st)(H:Glob K)
  (S:∀x:List UInt8,x.length<=600->Sp x3 fn (str x::c.toList) K [] (Val (i64 (ff x)) K)):
  Sp x3 102 [ptr b,.func (.func fn) #[] c] K [psb b s st rest] (jY (Syn.list s st ff) fun r v _ L'=>L'=[sl false (aZ 9) v r.1,psb b s r.2 rest]):=by
 refine bL func102 Y ntmps102 Y Y fun F w=>?_;have ha:=L.1;refine Z9 ?_;refine dB Y Y (Db b s st rest [91] _ I ha H) bQ Y (fun _ _=>eI _ _) ?_ ?_
 ·rintro _ _ _ hT2 u;obtain⟨e,p,C,i,h,rfl⟩:=eJ hT2;cases h
  refine uAa ?_;refine Z3 ?_;unfold Syn.list;rw[C];exact gHI
 rintro _ K _ hT2 -;obtain⟨r,C,rfl,rfl,rfl⟩:=eK hT2;obtain⟨t,ji,jj⟩:=AY ha C;have M:=AZ L C;refine aA gAB Y (Z2 ?_);refine dZ 8 Y (fun Q=>?_) (fun Q=>?_)
 ·refine Z4 ?_;refine dB Y Y (nB b s r.2 rest fn c ff _ I t M.2 H S) bQ Y (fun _ _=>eI _ _) ?_ ?_
  ·rintro _ _ _ hT3 u;obtain⟨e,p,A,i,h,rfl⟩:=eJ hT3;cases h
   refine uAa ?_;refine Z3 ?_;exact gHY
  rintro _ K _ hT3 -;obtain⟨q,A,rfl,rfl,rfl⟩:=eK hT3;obtain⟨ja,jb⟩:=nA t A;refine cG (bJ (z0:=[(str [])]) b0 tz9 Y Y Y Y cW) Y ?_;refine aCJ fun P=>Z5 ?_;refine d8 (gS (LG P q.1)) (bG Y Y (by first|exact xAB _|assumption) ?_);have hl:Syn.list s st ff=.ok ([q.1],q.2):=(by unfold Syn.list;rw[C];simp only[];rw[A];simp only[];rw[x6 (by simpa using Q)]);rw[hl];exact⟨_,Y,Y⟩
 refine Z6 ?_;refine dB Y Y (nB b s r.2 rest fn c ff _ I t M.2 H S) bQ Y (fun _ _=>eI _ _) ?_ ?_
 ·rintro _ _ _ hT3 u;obtain⟨e,p,A,i,h,rfl⟩:=eJ hT3;cases h
  refine uAa ?_;refine Z2 ?_;exact gHY
 rintro _ K _ hT3 -;obtain⟨q,A,rfl,rfl,rfl⟩:=eK hT3;obtain⟨ja,jb⟩:=nA t A;refine cG (bJ (z0:=[(str [])]) b0 tz9 Y Y Y Y cW) Y ?_;refine aCJ fun W=>Z5 ?_;refine l5 (fun(a:St) (v:Value) (d:List (List UInt8))=>Ok s a/\d.length+mu s a<=1300/\∃f,mu s a<=f/\Syn.list s st ff=oD s ff (f+1) a d) (fun _ v _=>[(0,ptr b),(1,.func (.func fn) #[] c),(5,v)]) (fun _ _ _=>K) (fun a v d=>[sl false (aZ 9) v d,psb b s a rest]) (fun a _ _=>mu s a) q.2 _ [q.1] ⟨oQ t A,by have:=vY s q.2;simp;omega,mu s q.2,xAG _,by unfold Syn.list;rw[C];simp only[];rw[A];simp only[];rw[x7 (by simpa using Q)]⟩ bM Y (gS (LG W q.1)) ?_;intro a v d ⟨G,jg,f,jh,l⟩;refine Z4 ?_;refine dB Y Y (Db b s a rest [44] _ I G.1 H) bQ Y (fun _ _=>eI _ _) ?_ ?_
 ·rintro _ _ _ hT4 u;obtain⟨e,p,E,i,h,rfl⟩:=eJ hT4;cases h
  refine uAa ?_;refine Z6 ?_;rw[l];simp only[oD];rw[E];exact gHI
 rintro _ K _ hT4 -;obtain⟨y,E,rfl,rfl,rfl⟩:=eK hT4;obtain⟨B,jk,jc⟩:=AY G.1 E;have jd:=AZ G E;refine Z2 ?_;refine dZ 18 Y (fun g=>?_) (fun g=>Z8 ?_)
 ·have jl:=jc g;refine Z7 ?_;refine dB Y Y (nB b s y.2 rest fn c ff _ I B jd.2 H S) bQ Y (fun _ _=>eI _ _) ?_ ?_
  ·rintro _ _ _ hT5 u;obtain⟨e,p,N,i,h,rfl⟩:=eJ hT5;cases h
   refine uAa ?_;refine Z5 ?_;rw[l];simp only[oD];rw[E];simp only[];rw[x7 g,N];exact gHI
  rintro _ K _ hT5 -;obtain⟨z,N,rfl,rfl,rfl⟩:=eK hT5;obtain⟨jp,jq⟩:=nA B N;refine cG (bJ (z0:=[(str [])]) b0 tz9 Y Y Y Y cW) Y ?_;refine aCJ fun jf=>cG (dJ (k:=(aZ 9)) (ys:=[z.1]) eE Y Y bP (fun w j=>dC xAC (SeesSl.at (.blk aL Y Y) j)) gAH gAH) Y ?_;rintro js K _ ⟨rfl,rfl,je⟩ -;refine Z3 ?_;obtain⟨O,rfl⟩:∃O,f=O+1:=⟨f-1,aH⟩;refine aV (aQ cL (aQ dQ bT)) ?_;refine gJ z.2 _ (d++[z.1]) ⟨oQ B N,by simp;omega,O,aH,?_⟩ aH bM Y a7
  rw[l];simp only[oD];rw[E];simp only[];rw[x7 g,N]
 refine dB Y Y (FJ b s y.2 rest [93] _ I B H) bQ Y (fun _ _=>eI _ _) ?_ ?_
 ·rintro _ _ _ hT5 u;obtain⟨e,p,N,i,h,rfl⟩:=eJ hT5;cases h
  refine uAa ?_;refine Z2 ?_;rw[l];simp only[oD];rw[E];simp only[];rw[x6 (by simp[g]),N];exact gHI
 rintro _ K2 _ hT5 jr;obtain⟨z,N,rfl,rfl⟩:=eK hT5;refine Z9 ?_;refine uAn ?_;refine bG Y Y (by first|exact xAB _|assumption) ?_;have hl:Syn.list s st ff=.ok (d,z):=(by rw[l];simp only[oD];rw[E];simp only[];rw[x6 (by simp[g]),N]);rw[hl];exact⟨_,Y,Y⟩
def pK(x:List UInt8)(K:Hl):Sp x3 177 [str x] K [] (Val (i64 0) K):=by
 refine bL func177 Y ntmps177 Y Y fun F w=>ZC ?_;exact gDP
def uP(s:List UInt8)(K:Hl)(f:s.length<=140737488351232):Sp x3 263 [str s] K [] (Val (.bool (named s)) K):=by
 refine bL func263 Y ntmps263 Y Y fun F w=>Z9 ?_;refine uAh ?_;rintro u K _ ⟨rfl,rfl⟩ -;refine uAt ?_;refine Z4 ?_;refine eD (fun(i:Nat)=>i<=s.length/\(s.take i).all eS=true) (fun i=>[(0,str s),(6,u),(7,i64 s.length),(8,i64 i)]) (fun _=>_) (fun i=>[sl false (elB 5) u s]) (fun i=>s.length-i) 0 ⟨xAA _,Y⟩ bM Y a7 ?_;intro i ⟨O,G⟩;refine Z6 ?_;refine aX 9 Y (fun e=>?_) (fun e=>?_)
 ·obtain⟨c,d⟩:∃c,s[i]?=some c:=⟨s[i]'(by omega),x4 aH⟩;have S:i<s.length:=aH;refine Z6 ?_;refine aA (aW (k:=(elB 5)) iG Y aL Y Y gAJ) Y (uAu ?_);refine Z6 ?_;refine cH Y Y (sL c _) Y (aA gAB Y (Z2 ?_));refine dZ 14 Y (fun h=>?_) (fun h=>?_)
  ·refine ZB ?_;refine uAd ?_;refine Z1 ?_;exact j4 (D6 d gBW).symm _
  refine Z7 ?_;refine cX (i+1) ⟨aH,Plain.take_all_succ d G gBW⟩ aH bM Y a7
 have B:s.all eS=true:=(by rw[xAJ aH]at G;exact G);refine ZA ?_;refine bV 18 Y (fun a=>Z3 ?_) (fun a=>Z9 ?_)
 ·obtain⟨W,b⟩:∃c,s[0]?=some c:=⟨s[0]'(List.length_pos_iff.2 a),x4 _⟩;refine aA (cJ x9 Y (j:=0) Y Y b) Y (Z1 ?_);refine cH Y Y (qS W _) Y (Z1 ?_);refine aA gAB Y (Z5 ?_);refine uAd ?_;refine Z1 ?_;exact j4 (by simp[named,B,a,b]) _
 refine uAd ?_;refine Z1 ?_;exact j4 (by simp only[Classical.not_not]at a;simp[named,a]) _
def Ps(x:List UInt8)(K:Hl)(c:x.length<=140737488351232):Sp x3 262 [str x] K [] (Val (i64 (if named x=true then 0 else 7)) K):=by
 refine bL func262 Y ntmps262 Y Y fun F w=>Z9 ?_;refine cH Y Y (uP x _ c) Y (Z2 ?_);refine dZ 4 Y (fun z=>Z8 ?_) (fun z=>Z9 ?_)
 ·rw[x7 z];exact gDP
 rw[x6 (by simp[z])];exact gDP
def n3(x:List UInt8)(e:Int)(d:List (List UInt8))(y:Value)(j M:Nat)(K:Hl)(h:K j=some (bK [y] 39))(b:K M=some (bK [i64 e] 30))(hv:Ksl (aZ 9) K y d)(u:d.length<=1000000):
  Sp x3 192 [str x,ptr j,ptr M] K [] (Val (i64 (oneOf e d x)) K):=by
 refine bL func192 Y ntmps192 Y Y fun F w=>Z8 ?_;refine aA (aK eL Y (.known h) Y) Y (Z1 ?_);refine bA Y Y (oK y x d _ [] (.known hv) u) .nil Y (aCL (Z2 ?_));refine aX 7 Y (fun B=>Z8 ?_) (fun B=>Z4 ?_)
 ·unfold oneOf;rw[x7 B];exact gDP
 refine aA (aK nD Y (.known b) Y) Y (Z5 ?_);unfold oneOf;rw[x6 B];exact gDP
def o8(e:Int)(y:Value)(K:Hl)(q:y.cells= #[y]):Sp x3 103 [i64 e,y] K [] (Ret fun v a L'=>∃j M,v=.func (.func 192) #[] #[ptr j,ptr M]/\a j=some (bK [y] 39)/\a M=some (bK [i64 e] 30)/\L'=[]):=by
 refine bL func103 Y ntmps103 Y Y fun F w=>Z3 ?_;refine aCJ fun M=>cG (eZ (l:=[y]) Y q) Y (aCJ fun N=>ZA ?_);exact gFK
abbrev E0:List UInt8:=[102,114,111,109]
abbrev txTo:List UInt8:=[116,111]
def I1(x:List UInt8)(K:Hl)(c:x.length<=140737488351232):Sp x3 265 [str x] K [] (Val (i64 (oneOf 7 [E0,txTo] (dY x))) K):=by
 refine(MO (R:=fun e g=>e=.returned (i64 (oneOf 7 [E0,txTo] (dY x)))/\g=[]) ?_).mono fun e d g ⟨h,b,l⟩=>⟨b,h,l⟩
 refine bL func265 Y ntmps265 Y Y fun F w=>Z7 ?_;refine cG (bJ (z0:=[(str []),(str [])]) b0 tz9 Y Y Y Y cW) Y ?_;refine aCJ fun N=>kE fun L p hK1=>bA Y Y (o8 7 _ _ Y) .nil Y ?_;rintro _ S _ ⟨r,a,rfl,t,z,rfl⟩ A;refine Z1 ?_;refine cH Y Y (jU x _ c) Y (cH Y Y (n3 (dY x) 7 [E0,txTo] _ r a _ t z (.inr ⟨N,0,2,[str E0,str txTo],(0,0),Y,⟨_,A _ _ hK1⟩,Y⟩) cD) Y (Z4 ?_));refine uAd ?_;refine bG Y Y (x5 p A) ?_;exact⟨Y,Y⟩
def zN{β:Type}{P:Program}{f:FuncId}{args:List Value}{K:Hl}{L:List Asn}{r:Res β}{N:β->Value->List Asn->Prop}(h:Sp P f args K L (jY r fun x v _ L'=>N x v L')):
  Sp P f args K L (jY r fun x v b L'=>b=K/\N x v L'):=by
 refine(MO (R:=fun e L'=>jY r (fun x v _ L'=>N x v L') e K L') (h.mono fun e b L' a=>?_)).mono fun e b L' ⟨a,c⟩=>?_
 ·unfold jY at a ⊢;cases r with
  |ok x=>exact a
  |error p=>exact a
 unfold jY at c ⊢;cases r with
 |ok x=>obtain⟨v,M,O⟩:=c;exact⟨v,M,a,O⟩
 |error p=>exact c
def mQ(b:Nat)(s:List UInt8)(st:St)(rest:List Value)(x:List UInt8)(K:Hl)(d:s.length<=600)(c:st.1<=s.length)(H:Glob K):
  Sp x3 104 [ptr b,str x] K [psb b s st rest] (jY (Syn.sign s st x) fun r v a L'=>a=K/\v=.tuple #[]/\L'=[psb b s r rest]):=
 zN (N:=fun(r:St) v L'=>v=.tuple #[]/\L'=[psb b s r rest]) (FJ b s st rest x K d c H)
def uM(b:Nat)(s:List UInt8)(st:St)(rest:List Value)(fn:FuncId)(y:Array Value)(ff:List UInt8->Int)(K:Hl)(d:s.length<=600)(f:Ok s st)(H:Glob K)
  (c:∀x:List UInt8,x.length<=600->Sp x3 fn (str x::y.toList) K [] (Val (i64 (ff x)) K)):
  Sp x3 102 [ptr b,.func (.func fn) #[] y] K [psb b s st rest] (jY (Syn.list s st ff) fun r v a L'=>a=K/\L'=[sl false (aZ 9) v r.1,psb b s r.2 rest]):=
 zN (N:=fun(r:List (List UInt8)×St) v L'=>L'=[sl false (aZ 9) v r.1,psb b s r.2 rest]) (Oj b s st rest fn y ff K d f H c)
section
variable{s:List UInt8}{st:St}
def TD{k:Nat}{d:List (List UInt8)}{r:Word×St}(f:Ok s st)(h:take s st k d=.ok r):r.1.s.length<=s.length:=by
 unfold take at h;split at h
 ·cases h
 split at h
 ·cases h
 cases h;exact f.2
def TM{ff:List UInt8->Int}{r:List UInt8×St}(f:Ok s st)(h:Syn.text s st ff=.ok r):r.1.length<=s.length:=by
 unfold Syn.text at h;split at h
 ·cases h
 split at h
 ·cases h
 rename_i q g;cases h
 exact TD f g
def Pl(xs:List (List UInt8))(x:List UInt8): -1<=dT xs x/\dT xs x<=xs.length:=by
 unfold dT;cases h:xs.findIdx? (fun y=>decide (x=y))with
 |some i=>rw[xBE]at h;obtain⟨p,_⟩:=h;exact⟨by show -1<=(i:Int);omega,by show (i:Int)<=_;omega⟩
 |none=>exact⟨by show (-1:Int)<= -1;omega,by show (-1:Int)<=_;omega⟩
def To(b:Nat)(s:List UInt8)(st:St)(G dp:Int)(nv:Value)(rest:List Value)(needs:List (List UInt8))(K:Hl)(E:s.length<=600)(ja:Ok s st)(H:Glob K)(hv:Ksl (aZ 9) K nv needs)(hn:needs.length<=1000000):
    Sp x3 163 [ptr b,i64 G,i64 dp] K [psb b s st (nv::rest)]
      (jY (setC s needs st) fun r v K' L'=>K'=K/\v=.iface 308 (.agg #[str r.1.name,str r.1.value,i64 r.1.tag])/\L'=[psb b s r.2 (nv::rest)]):=by
  refine zN (N:=fun(r:SetC×St) v L'=>v=.iface 308 (.agg #[str r.1.name,str r.1.value,i64 r.1.tag])/\L'=[psb b s r.2 (nv::rest)]) ?_;have ha:=ja.1;refine bL func163 Y ntmps163 Y Y fun F w=>Z8 ?_;refine dB Y Y (zJ b s st nv rest needs dS _ hv hn) bQ Y (fun _ _=>eI _ _) ?_ ?_
  · rintro _ _ _ P g;obtain⟨e,p,l,f,h,rfl⟩:=eJ P;cases h
    refine uAa ?_;refine Z2 ?_;have B:¬dS∈needs:=(by intro h;rw[x7 h]at l;cases l);rw[x6 B]at l;cases l
    unfold setC;rw[x6 B];exact gGT
  rintro _ K _ P -;obtain⟨u0,hu,rfl,rfl,rfl⟩:=eK P;have B:dS∈needs:=xA3 (fun h=>by rw[x6 h]at hu;cases hu);refine Z7 ?_;refine dB Y Y (fE b 208 s st.1 _ _ _ _ (nv::rest) E ha _ H) bQ Y (fun _ _=>eI _ _) ?_ ?_
  · rintro _ _ _ hT2 g;obtain⟨e,p,l,f,h,rfl⟩:=eJ hT2;cases h
    refine uAa ?_;refine Z2 ?_;unfold setC;rw[x7 B,l];exact gGT
  rintro _ K _ hT2 -;obtain⟨r,l,rfl,rfl,rfl⟩:=eK hT2;have A:=fU ha l;refine Z4 ?_;refine aA (dA aA2 Yt .nil) Y (Z1 ?_);refine aCJ fun b7=>cA (cQ Ht Y Y Y bP gAF (.cons (.cons (.cons .nil))) gAQ) ?_;refine aCK (Z2 ?_);refine Hq (fun(S:Int) (a:St)=>lW s r=.ok (S,a)/\Ok s a) (fun _ _=>[(0,ptr b),(7,ptr b7)]) (fun _ _=>K) (fun S a=>[pt b7 (bK [str [],str [],i64 S] 308),psb b s a (nv::rest)]) ?_ ?_
  · refine ZB ?_;refine aX 21 Y (fun L=>Z2 ?_) (fun L=>?_)
    · refine cG (bJ (z0:=[(str []),(str []),(str [])]) b0 tz9 Y Y Y Y cW) Y ?_;refine aCJ fun I=>Z6 ?_;refine bA Y Y (wM _ r.2.s [fR,gD,fZ] _ [pt I (bK [str fR,str gD,str fZ] 9)] (.blk aL Y Y) cD) bQ Y ?_;refine aCL ?_;have jb: -1<=dT [fR,gD,fZ] r.2.s/\dT [fR,gD,fZ] r.2.s<=3:=Pl _ _;refine ZD ?_;refine aX 34 Y (fun M=>Z2 ?_) (fun M=>Z6 ?_)
      · refine dB Y Y (lD b s r (nv::rest) _) bQ Y gAE ?_ ?_
        · rintro _ _ _ ⟨f,h,rfl⟩ g;cases h
          refine uAa ?_;refine Z3 ?_;have W:lW s r=.error (4,r.2.at_):=(by unfold lW;rw[x7 aH,x7 aH]);exact gHX
        exact gDD
      refine dB Y Y (fE b 208 s r.1 _ _ _ _ (nv::rest) E A.1 _ H) bQ Y (fun _ _=>eI _ _) ?_ ?_
      · rintro _ _ _ hT2 g;obtain⟨e,p,Q,f,h,rfl⟩:=eJ hT2;cases h
        refine uAa ?_;refine Z2 ?_;have W:lW s r=.error (e,p):=(by unfold lW;rw[x7 aH,x6 aH,Q]);exact gHX
      rintro _ K _ hT2 -;obtain⟨r2,Q,rfl,rfl,rfl⟩:=eK hT2;refine aG ?_
      (have W : lW s r = .ok (1 + dT [fR, gD, fZ] r.2.s, r2) := (by unfold lW; rw [x7 aH, x6 aH, Q])
       refine uAi ?_;exact oZ _ r2 ⟨W,fU A.1 Q⟩ bM Y a7)
    refine aU ?_
    (have W : lW s r = .ok (0, r) := (by unfold lW; rw [x6 aH])
     exact oZ 0 r ⟨W,A⟩ bM Y a7)
  intro S a ⟨ht,d⟩;have t:setC s needs st=m7 s (S,a):=(by unfold setC;rw[x7 B,l];simp only[ht]);refine Z3 ?_;refine dB Y Y (nB b s a (nv::rest) 262 #[] (fun x=>if named x=true then 0 else 7) _ E d.1 d.2 H (fun x hx=>Ps x _ aH)) bQ Y (fun _ _=>eI _ _) ?_ ?_
  · rintro _ _ _ hT3 g;obtain⟨e,p,u,f,h,rfl⟩:=eJ hT3;cases h
    refine uAa ?_;refine Z2 ?_;rw[t];unfold m7;rw[u];exact gGT
  rintro _ K _ hT3 -;obtain⟨n,u,rfl,rfl,rfl⟩:=eK hT3;have i:=oQ d.1 u;refine cH Y Y (jU _ _ (by have:=TM d u;omega)) Y (Z7 ?_);refine dB Y Y (nB b s n.2 (nv::rest) 177 #[] (fun _=>0) _ E i.1 i.2 H (fun x hx=>pK x _)) bQ Y (fun _ _=>eI _ _) ?_ ?_
  · rintro _ _ _ hT4 g;obtain⟨e,p,z,f,h,rfl⟩:=eJ hT4;cases h
    refine uAa ?_;refine Z2 ?_;rw[t];unfold m7;simp only[u,z];exact gGT
  rintro _ K _ hT4 -;obtain⟨v,z,rfl,rfl,rfl⟩:=eK hT4;have C:=oQ i.1 z;refine Z7 ?_;refine dB Y Y (mQ b s v.2 (nv::rest) [59] _ E C.1 H) bQ Y (fun _ _=>eI _ _) ?_ ?_
  · rintro _ _ _ hT5 g;obtain⟨e,p,O,f,h,rfl⟩:=eJ hT5;cases h
    refine uAa ?_;refine Z2 ?_;rw[t];unfold m7;simp only[u,z,O];exact gGT
  rintro _ K _ hT5 -;obtain⟨q,O,rfl,rfl,rfl⟩:=eK hT5;refine Z5 ?_;refine aA (eX xCR (fun _ h=>by cases h) Y) Y (Z4 ?_);refine uAa ?_;refine Z1 ?_;have y:m7 s (S,a)=.ok (⟨dY n.1,v.1,S⟩,q):=(by unfold m7;simp only[u,z,O]);rw[t,y];exact gEO
end
def xU(xs:List (List UInt8))(x:List UInt8): -1<=dT xs x/\dT xs x<xs.length:=by
 unfold dT;cases h:xs.findIdx? (fun y=>decide (x=y))with
 |some i=>rw[xBE]at h;obtain⟨p,_⟩:=h;exact⟨by show -1<=(i:Int);omega,by show (i:Int)<_;omega⟩
 |none=>exact⟨by show (-1:Int)<= -1;omega,by show (-1:Int)<_;omega⟩
def aAH{op:Int}(h:op=7)(x:List UInt8):mO op x=Syn.oneOf 7 [E0,txTo] (dY x):=by unfold mO;rw[x7 h]
def aAG{op:Int}(h:¬op=7)(x:List UInt8):mO op x=0:=by unfold mO;rw[x6 h]
def zH(b:Nat)(s:List UInt8)(st:St)(op:Int)(ext:List UInt8)(nv:Value)(rest:List Value)(needs:List (List UInt8))(K:Hl)(hs:s.length<=600)(jq:Ok s st)(W:Glob K)(hv:Ksl (aZ 9) K nv needs)(hn:needs.length<=1000000):
    Sp x3 173 [ptr b,i64 op,str ext] K [psb b s st (nv::rest)]
      (jY (kW s needs op ext st) fun r v K' L'=>Rep1 K' r.1 v/\L'=[psb b s r.2 (nv::rest)]):=by
  have ha:=jq.1;refine bL func173 Y ntmps173 Y Y fun F w=>Z5 ?_;refine dU (fun(_:Unit)=>¬(ext≠[]/\ext∉needs)) (fun _=>[(0,ptr b),(1,i64 op),(2,str ext)]) (fun _=>K) (fun _=>[psb b s st (nv::rest)]) ?_ ?_
  · refine Z6 ?_;refine aX 12 Y (fun je=>Z3 ?_) (fun je=>?_)
    · refine eC Y Y (zJ b s st nv rest needs ext _ hv hn) bQ Y (fun e p hu z _ t=>?_) (fun u0 hu=>?_)
      · refine uAa ?_;refine Z2 ?_;have hm:¬ext∈needs:=gC8;rw[x6 hm]at hu;cases hu
        unfold kW;rw[x7 ⟨je,hm⟩];exact⟨z,Y,Y⟩
      refine aCL ?_;have hm:ext∈needs:=xA3 (fun h=>by rw[x6 h]at hu;cases hu);have jb:¬(ext≠[]/\ext∉needs):=fun h=>h.2 hm
      refine aG ?_;exact cB () jb bM Y a7
    have jb:¬(ext≠[]/\ext∉needs):=fun h=>je h.1
    refine aU ?_;exact cB () jb bM Y a7
  intro _ jb;refine Z5 ?_;refine eC Y Y (fE b 208 s st.1 _ _ _ _ (nv::rest) hs ha _ W) bQ Y (fun e p hr z _ t=>?_) (fun r hr=>?_)
  · refine uAa ?_;refine Z2 ?_;simp only[kW,jb,hr,↓reduceIte];exact⟨z,Y,Y⟩
  refine aCL ?_;have jr:=fU ha hr;refine Z5 ?_;refine aA (dA aA8 Yx cW) Y (Z1 ?_);refine aCJ fun b7=>cA (cQ Hv Y Y Y bP gAF (.cons (.cons (.cons (.cons (.cons .nil))))) gAQ) ?_;refine aCK (Z9 ?_);refine jC (fun(u:How) (g:St)=>Ok s g/\(0<=u.tag/\u.tag<=3)/\∃f,mu s g<=f/\kW s needs op ext st=lV s op (iB s (f+1) u g)) (fun u _=>[(0,ptr b),(1,i64 op),(7,ptr b7),(8,.bool u.cmp)]) (fun _ _=>K) (fun u g=>[pt b7 (bK [i64 u.tag,.bool u.oct,i64 op,.slice none 0 0,.slice none 0 0] 380),psb b s g (nv::rest)]) (fun _ g=>mu s g) ⟨false,0,false⟩ r ⟨jr,⟨Int.le_refl 0,by decide⟩,mu s r,xAG _,by simp only[kW,jb,if_false,hr]⟩ bM Y a7 ?_;intro u g ⟨l,ht,f,hf,A⟩;refine ZC ?_;refine aX 28 Y (fun jk=>?_) (fun jk=>?_)
  · have y:g.2.kind=2:=aH;refine Z5 ?_;refine cG (bJ (z0:=[(str []),(str []),(str []),(str [])]) b0 tz9 Y Y Y Y cW) Y ?_;refine aCJ fun ji=>Z6 ?_;refine bA Y Y (wM _ g.2.s eQ _ [pt ji (bK [str txIs,str pH,str rJ,str nE] 9)] (.blk aL Y Y) (by simp[eQ])) bQ Y ?_;refine aCL ?_;have js: -1<=dT eQ g.2.s/\dT eQ g.2.s<4:=xU _ _;refine ZC ?_;refine aX 49 Y (fun jl=>?_) (fun jl=>?_)
    · have M:dT eQ g.2.s= -1:=aH;refine Z2 ?_;refine dB Y Y (lD b s g (nv::rest) _) bQ Y gAE ?_ ?_
      · rintro _ _ _ ⟨z,h,rfl⟩ t;cases h
        refine uAa ?_;refine Z6 ?_;simp only[A,iB,y,M,↓reduceIte];exact⟨z,Y,Y⟩
      exact gDD
    have M:¬dT eQ g.2.s= -1:=aH;refine Z6 ?_;refine bV 57 Y (fun jj=>?_) (fun jj=>ZA ?_)
    · refine Z6 ?_
      first|refine aX 54 Y (fun C=>?_) (fun C=>?_)|refine dZ 54 Y (fun C=>?_) (fun C=>?_)
      · refine ZA ?_;have d:(dT eQ g.2.s=3/\u.cmp=true)\/(dT eQ g.2.s<3/\u.tag≠0):=gB6;refine dB Y Y (gQ 7 g.2.at_ _) .nil Y gAE ?_ ?_
        · rintro _ _ _ ⟨z,h,rfl⟩ t;cases h
          exact gEA
        exact gDD
      refine Z4 ?_;refine bV 62 Y (fun jd=>?_) (fun jd=>ZG ?_)
      · refine ZC ?_
        first|refine aX 54 Y (fun C=>?_) (fun C=>?_)|refine dZ 54 Y (fun C=>?_) (fun C=>?_)
        · refine Z7 ?_;have d:(dT eQ g.2.s=3/\u.cmp=true)\/(dT eQ g.2.s<3/\u.tag≠0):=gB6;refine dB Y Y (gQ 7 g.2.at_ _) .nil Y gAE ?_ ?_
          · rintro _ _ _ ⟨z,h,rfl⟩ t;cases h
            exact gEA
          exact gDD
        refine Z7 ?_;refine aX 75 Y (fun L=>?_) (fun L=>?_)
        · have q:dT eQ g.2.s<3:=aH;have d:¬((dT eQ g.2.s=3/\u.cmp=true)\/(dT eQ g.2.s<3/\u.tag≠0)):=gAW;refine ZC ?_;refine eC Y Y (fE b 208 s g.1 _ _ _ _ (nv::rest) hs l.1 _ W) bQ Y (fun e p Q z _ t=>?_) (fun r2 Q=>?_)
          · refine uAa ?_;refine Z6 ?_;simp only[A,iB,y,M,if_neg d,if_pos q,Q,↓reduceIte];exact⟨z,Y,Y⟩
          refine aCL ?_;have i:=fU l.1 Q;refine Z3 ?_
          (have ja := j1 l.1 aH Q; obtain ⟨B, rfl⟩ : ∃ B, f = B + 1 := ⟨f - 1, aH⟩
           refine uAi ?_;refine d9 ⟨u.cmp,1+dT eQ g.2.s,u.oct⟩ r2 ⟨i,⟨by simp only[];omega,by simp only[];omega⟩,B,aH,?_⟩ aH bM Y a7
           simp only[A,iB,y,M,if_neg d,if_pos q,Q,↓reduceIte])
        have q:¬dT eQ g.2.s<3:=aH;have d:¬((dT eQ g.2.s=3/\u.cmp=true)\/(dT eQ g.2.s<3/\u.tag≠0)):=gAW;refine ZA ?_;refine eC Y Y (fE b 208 s g.1 _ _ _ _ (nv::rest) hs l.1 _ W) bQ Y (fun e p G z _ t=>?_) (fun r3 G=>?_)
        · refine uAa ?_;refine Z7 ?_;simp only[A,iB,y,M,if_neg d,if_neg q,G,↓reduceIte];exact⟨z,Y,Y⟩
        refine aCL ?_;have i:=fU l.1 G;refine Z4 ?_;refine cG (bJ (z0:=[(str []),(str [])]) b0 tz9 Y Y Y Y cW) Y ?_;refine aCJ fun I=>kE fun K1 O hK1=>bA Y Y (o8 7 _ _ Y) .nil Y ?_;rintro _ K2 _ ⟨c1,c2,rfl,N,S,rfl⟩ E;refine eC Y Y (nB b s r3 (nv::rest) 192 #[ptr c1,ptr c2] (Syn.oneOf 7 [dH,cU]) _ hs i.1 i.2 (W.mono (x5 O E)) (fun x A=>n3 x 7 [dH,cU] _ c1 c2 _ N S (.inr ⟨I,0,2,[str dH,str cU],(0,0),Y,⟨_,E _ _ hK1⟩,Y⟩) cD)) bQ Y (fun e p P z _ t=>?_) (fun x P=>?_)
        · refine uAa ?_;refine Z5 ?_;refine cF (x5 O (x5 E t)) ?_;simp only[A,iB,y,M,if_neg d,if_neg q,G,P,↓reduceIte];exact⟨z,Y,Y⟩
        refine aCL ?_;have H:=oQ i.1 P;refine Z7 ?_
        (have ja := j1 l.1 aH G; have jh := nA i.1 P; obtain ⟨B, rfl⟩ : ∃ B, f = B + 1 := ⟨f - 1, aH⟩
         refine uAi ?_;refine vC (x5 O E) ?_;refine d9 ⟨true,u.tag,decide (x.1=dH)⟩ x.2 ⟨H,ht,B,aH,?_⟩ aH bM Y a7
         simp only[A,iB,y,M,if_neg d,if_neg q,G,P,↓reduceIte])
      refine aX 75 Y (fun L=>?_) (fun L=>?_)
      · have q:dT eQ g.2.s<3:=aH;have d:¬((dT eQ g.2.s=3/\u.cmp=true)\/(dT eQ g.2.s<3/\u.tag≠0)):=gAW;refine ZC ?_;refine eC Y Y (fE b 208 s g.1 _ _ _ _ (nv::rest) hs l.1 _ W) bQ Y (fun e p Q z _ t=>?_) (fun r2 Q=>?_)
        · refine uAa ?_;refine Z6 ?_;simp only[A,iB,y,M,if_neg d,if_pos q,Q,↓reduceIte];exact⟨z,Y,Y⟩
        refine aCL ?_;have i:=fU l.1 Q;refine Z3 ?_
        (have ja := j1 l.1 aH Q; obtain ⟨B, rfl⟩ : ∃ B, f = B + 1 := ⟨f - 1, aH⟩
         refine uAi ?_;refine d9 ⟨u.cmp,1+dT eQ g.2.s,u.oct⟩ r2 ⟨i,⟨by simp only[];omega,by simp only[];omega⟩,B,aH,?_⟩ aH bM Y a7
         simp only[A,iB,y,M,if_neg d,if_pos q,Q,↓reduceIte])
      have q:¬dT eQ g.2.s<3:=aH;have d:¬((dT eQ g.2.s=3/\u.cmp=true)\/(dT eQ g.2.s<3/\u.tag≠0)):=gAW;refine ZA ?_;refine eC Y Y (fE b 208 s g.1 _ _ _ _ (nv::rest) hs l.1 _ W) bQ Y (fun e p G z _ t=>?_) (fun r3 G=>?_)
      · refine uAa ?_;refine Z7 ?_;simp only[A,iB,y,M,if_neg d,if_neg q,G,↓reduceIte];exact⟨z,Y,Y⟩
      refine aCL ?_;have i:=fU l.1 G;refine Z4 ?_;refine cG (bJ (z0:=[(str []),(str [])]) b0 tz9 Y Y Y Y cW) Y ?_;refine aCJ fun I=>kE fun K1 O hK1=>bA Y Y (o8 7 _ _ Y) .nil Y ?_;rintro _ K2 _ ⟨c1,c2,rfl,N,S,rfl⟩ E;refine eC Y Y (nB b s r3 (nv::rest) 192 #[ptr c1,ptr c2] (Syn.oneOf 7 [dH,cU]) _ hs i.1 i.2 (W.mono (x5 O E)) (fun x A=>n3 x 7 [dH,cU] _ c1 c2 _ N S (.inr ⟨I,0,2,[str dH,str cU],(0,0),Y,⟨_,E _ _ hK1⟩,Y⟩) cD)) bQ Y (fun e p P z _ t=>?_) (fun x P=>?_)
      · refine uAa ?_;refine Z5 ?_;refine cF (x5 O (x5 E t)) ?_;simp only[A,iB,y,M,if_neg d,if_neg q,G,P,↓reduceIte];exact⟨z,Y,Y⟩
      refine aCL ?_;have H:=oQ i.1 P;refine Z7 ?_
      (have ja := j1 l.1 aH G; have jh := nA i.1 P; obtain ⟨B, rfl⟩ : ∃ B, f = B + 1 := ⟨f - 1, aH⟩
       refine uAi ?_;refine vC (x5 O E) ?_;refine d9 ⟨true,u.tag,decide (x.1=dH)⟩ x.2 ⟨H,ht,B,aH,?_⟩ aH bM Y a7
       simp only[A,iB,y,M,if_neg d,if_neg q,G,P,↓reduceIte])
    refine bV 62 Y (fun jd=>?_) (fun jd=>ZG ?_)
    · refine ZC ?_
      first|refine aX 54 Y (fun C=>?_) (fun C=>?_)|refine dZ 54 Y (fun C=>?_) (fun C=>?_)
      · refine Z7 ?_;have d:(dT eQ g.2.s=3/\u.cmp=true)\/(dT eQ g.2.s<3/\u.tag≠0):=gB6;refine dB Y Y (gQ 7 g.2.at_ _) .nil Y gAE ?_ ?_
        · rintro _ _ _ ⟨z,h,rfl⟩ t;cases h
          exact gEA
        exact gDD
      refine Z7 ?_;refine aX 75 Y (fun L=>?_) (fun L=>?_)
      · have q:dT eQ g.2.s<3:=aH;have d:¬((dT eQ g.2.s=3/\u.cmp=true)\/(dT eQ g.2.s<3/\u.tag≠0)):=gAW;refine ZC ?_;refine eC Y Y (fE b 208 s g.1 _ _ _ _ (nv::rest) hs l.1 _ W) bQ Y (fun e p Q z _ t=>?_) (fun r2 Q=>?_)
        · refine uAa ?_;refine Z6 ?_;simp only[A,iB,y,M,if_neg d,if_pos q,Q,↓reduceIte];exact⟨z,Y,Y⟩
        refine aCL ?_;have i:=fU l.1 Q;refine Z3 ?_
        (have ja := j1 l.1 aH Q; obtain ⟨B, rfl⟩ : ∃ B, f = B + 1 := ⟨f - 1, aH⟩
         refine uAi ?_;refine d9 ⟨u.cmp,1+dT eQ g.2.s,u.oct⟩ r2 ⟨i,⟨by simp only[];omega,by simp only[];omega⟩,B,aH,?_⟩ aH bM Y a7
         simp only[A,iB,y,M,if_neg d,if_pos q,Q,↓reduceIte])
      have q:¬dT eQ g.2.s<3:=aH;have d:¬((dT eQ g.2.s=3/\u.cmp=true)\/(dT eQ g.2.s<3/\u.tag≠0)):=gAW;refine ZA ?_;refine eC Y Y (fE b 208 s g.1 _ _ _ _ (nv::rest) hs l.1 _ W) bQ Y (fun e p G z _ t=>?_) (fun r3 G=>?_)
      · refine uAa ?_;refine Z7 ?_;simp only[A,iB,y,M,if_neg d,if_neg q,G,↓reduceIte];exact⟨z,Y,Y⟩
      refine aCL ?_;have i:=fU l.1 G;refine Z4 ?_;refine cG (bJ (z0:=[(str []),(str [])]) b0 tz9 Y Y Y Y cW) Y ?_;refine aCJ fun I=>kE fun K1 O hK1=>bA Y Y (o8 7 _ _ Y) .nil Y ?_;rintro _ K2 _ ⟨c1,c2,rfl,N,S,rfl⟩ E;refine eC Y Y (nB b s r3 (nv::rest) 192 #[ptr c1,ptr c2] (Syn.oneOf 7 [dH,cU]) _ hs i.1 i.2 (W.mono (x5 O E)) (fun x A=>n3 x 7 [dH,cU] _ c1 c2 _ N S (.inr ⟨I,0,2,[str dH,str cU],(0,0),Y,⟨_,E _ _ hK1⟩,Y⟩) cD)) bQ Y (fun e p P z _ t=>?_) (fun x P=>?_)
      · refine uAa ?_;refine Z5 ?_;refine cF (x5 O (x5 E t)) ?_;simp only[A,iB,y,M,if_neg d,if_neg q,G,P,↓reduceIte];exact⟨z,Y,Y⟩
      refine aCL ?_;have H:=oQ i.1 P;refine Z7 ?_
      (have ja := j1 l.1 aH G; have jh := nA i.1 P; obtain ⟨B, rfl⟩ : ∃ B, f = B + 1 := ⟨f - 1, aH⟩
       refine uAi ?_;refine vC (x5 O E) ?_;refine d9 ⟨true,u.tag,decide (x.1=dH)⟩ x.2 ⟨H,ht,B,aH,?_⟩ aH bM Y a7
       simp only[A,iB,y,M,if_neg d,if_neg q,G,P,↓reduceIte])
    refine aX 75 Y (fun L=>?_) (fun L=>?_)
    · have q:dT eQ g.2.s<3:=aH;have d:¬((dT eQ g.2.s=3/\u.cmp=true)\/(dT eQ g.2.s<3/\u.tag≠0)):=gAW;refine ZC ?_;refine eC Y Y (fE b 208 s g.1 _ _ _ _ (nv::rest) hs l.1 _ W) bQ Y (fun e p Q z _ t=>?_) (fun r2 Q=>?_)
      · refine uAa ?_;refine Z6 ?_;simp only[A,iB,y,M,if_neg d,if_pos q,Q,↓reduceIte];exact⟨z,Y,Y⟩
      refine aCL ?_;have i:=fU l.1 Q;refine Z3 ?_
      (have ja := j1 l.1 aH Q; obtain ⟨B, rfl⟩ : ∃ B, f = B + 1 := ⟨f - 1, aH⟩
       refine uAi ?_;refine d9 ⟨u.cmp,1+dT eQ g.2.s,u.oct⟩ r2 ⟨i,⟨by simp only[];omega,by simp only[];omega⟩,B,aH,?_⟩ aH bM Y a7
       simp only[A,iB,y,M,if_neg d,if_pos q,Q,↓reduceIte])
    have q:¬dT eQ g.2.s<3:=aH;have d:¬((dT eQ g.2.s=3/\u.cmp=true)\/(dT eQ g.2.s<3/\u.tag≠0)):=gAW;refine ZA ?_;refine eC Y Y (fE b 208 s g.1 _ _ _ _ (nv::rest) hs l.1 _ W) bQ Y (fun e p G z _ t=>?_) (fun r3 G=>?_)
    · refine uAa ?_;refine Z7 ?_;simp only[A,iB,y,M,if_neg d,if_neg q,G,↓reduceIte];exact⟨z,Y,Y⟩
    refine aCL ?_;have i:=fU l.1 G;refine Z4 ?_;refine cG (bJ (z0:=[(str []),(str [])]) b0 tz9 Y Y Y Y cW) Y ?_;refine aCJ fun I=>kE fun K1 O hK1=>bA Y Y (o8 7 _ _ Y) .nil Y ?_;rintro _ K2 _ ⟨c1,c2,rfl,N,S,rfl⟩ E;refine eC Y Y (nB b s r3 (nv::rest) 192 #[ptr c1,ptr c2] (Syn.oneOf 7 [dH,cU]) _ hs i.1 i.2 (W.mono (x5 O E)) (fun x A=>n3 x 7 [dH,cU] _ c1 c2 _ N S (.inr ⟨I,0,2,[str dH,str cU],(0,0),Y,⟨_,E _ _ hK1⟩,Y⟩) cD)) bQ Y (fun e p P z _ t=>?_) (fun x P=>?_)
    · refine uAa ?_;refine Z5 ?_;refine cF (x5 O (x5 E t)) ?_;simp only[A,iB,y,M,if_neg d,if_neg q,G,P,↓reduceIte];exact⟨z,Y,Y⟩
    refine aCL ?_;have H:=oQ i.1 P;refine Z7 ?_
    (have ja := j1 l.1 aH G; have jh := nA i.1 P; obtain ⟨B, rfl⟩ : ∃ B, f = B + 1 := ⟨f - 1, aH⟩
     refine uAi ?_;refine vC (x5 O E) ?_;refine d9 ⟨true,u.tag,decide (x.1=dH)⟩ x.2 ⟨H,ht,B,aH,?_⟩ aH bM Y a7
     simp only[A,iB,y,M,if_neg d,if_neg q,G,P,↓reduceIte])
  have y:¬g.2.kind=2:=aH;refine ZL ?_;refine dU (fun(fn:FuncId)=>∀x:List UInt8,x.length<=600->Sp x3 fn [str x] K [] (Val (i64 (mO op x)) K)) (fun fn=>[(0,ptr b),(7,ptr b7),(10,.func (.func fn) #[] #[])]) (fun _=>K) (fun _=>[pt b7 (bK [i64 (if 1>u.tag then 1 else u.tag),.bool u.oct,i64 op,.slice none 0 0,.slice none 0 0] 380),psb b s g (nv::rest)]) ?_ ?_
  · refine Z6 ?_;refine aX 92 Y (fun jf=>Z3 ?_) (fun jf=>?_)
    · exact cB 265 (fun x A=>by rw[aAH jf];exact I1 x _ aH) bM Y a7
    refine aU ?_;exact cB 177 (fun x A=>by rw[aAG jf];exact pK x _) bM Y a7
  intro fn jp;refine Z4 ?_;refine eC Y Y (uM b s g (nv::rest) fn #[] (mO op) _ hs l W jp) bQ Y (fun e p jc z _ t=>?_) (fun va jc=>?_)
  · refine uAa ?_;refine Z2 ?_;simp only[A,iB,lV,y,jc,↓reduceIte];exact⟨z,Y,Y⟩
  rintro _ K _ ⟨rfl,rfl⟩ -;have i:=(nN l jc).1;refine fS fun K1 O hA=>?_;have oA:=hA.one;refine Z7 ?_;refine eC Y Y (uM b s va.2 (nv::rest) 177 #[] (fun _=>0) _ hs i (W.mono O) (fun x A=>pK x _)) bQ Y (fun e p jg z _ t=>?_) (fun vb jg=>?_)
  · refine uAa ?_;refine aT (cF (x5 O t) ?_);simp only[A,iB,lV,y,jc,jg,↓reduceIte];exact⟨z,Y,Y⟩
  rintro _ K _ ⟨rfl,rfl⟩ -;refine fS fun K2 E hB=>?_;have oB:=hB.one;refine Z7 ?_;refine aA (eX xCE (fun _ h=>by cases h) Y) Y (Z4 ?_);refine uAa ?_;refine bG Y Y (x5 O E) ?_;simp only[A,iB,lV,y,jc,jg,↓reduceIte];exact⟨_,Y,⟨_,_,Y,_,_,hA.mono E,hB,Y⟩,Y⟩
end Go.Proofs
end
section
namespace Go.Syn
def Adv{α:Type}(s:aP)(T:St->Res (α×St)):Prop:=∀e r,Ok s e->T e=.ok r->Ok s r.2/\mu s r.2<mu s e
def AdvE{α:Type}(s:aP)(T:St->Res (α×St)):Prop:=∀e r,Ok s e->T e=.ok r->Ok s r.2/\mu s r.2<=mu s e
def AdvN{α:Type}(s:aP)(T:St->Res (α×St)):Prop:=∀e r,Ok s e->e.2.kind≠0->T e=.ok r->Ok s r.2/\mu s r.2<mu s e
def Adv.n{α:Type}{s:aP}{T:St->Res (α×St)}(h:Adv s T):AdvN s T:=fun a r f _ e=>h a r f e
variable{s:aP}
theorem iR{st r:St}(f:Ok s st)(j:st.2.kind≠0)(h:next s st.1=.ok r):Ok s r/\mu s r<mu s st:=⟨fU f.1 h,(j1 f.1 j h).1⟩
def tS{st:St}{k:Nat}{d:List aP}{r:Word×St}(f:Ok s st)(j:k≠0)(h:take s st k d=.ok r):Ok s r.2/\mu s r.2<mu s st:=⟨AL f.1 h,(Hx f.1 j h).1⟩
theorem jB{st r:St}{x:aP}(f:Ok s st)(h:sign s st x=.ok r):Ok s r/\mu s r<mu s st:=⟨CC f.1 h,(Hh f.1 h).1⟩
def xF{st:St}{x:aP}{r:Bool×St}(f:Ok s st)(h:eat s st x=.ok r):Ok s r.2/\mu s r.2<=mu s st:=⟨AZ f h,(AY f.1 h).2.1⟩
theorem nJ{st:St}{ff:aP->Int}{r:aP×St}(f:Ok s st)(h:text s st ff=.ok r):Ok s r.2/\mu s r.2<mu s st:=⟨oQ f.1 h,(nA f.1 h).1⟩
theorem FT:∀ {f:Nat} {h:How} {st:St} {r:How×St},Ok s st->iB s f h st=.ok r->Ok s r.2/\mu s r.2<=mu s st:=by
 intro f;induction f with
 |zero=>intro h st r _ e;cases e
 |succ f w=>
  intro h st r a e;simp only[iB]at e;split at e
  ·rename_i j;split at e
   ·cases e
   split at e
   ·cases e
   split at e
   ·grind [Ok,iR]
   split at e
   ·cases e
   rename_i q g;have b:=iR a aH g;split at e<;>grind [Ok,iR,nJ]
  cases e;exact⟨a,xAG _⟩
def zF{needs:List aP}{op:Int}{ext:aP}:AdvN s (kW s needs op ext):=by
 intro t r f j e;unfold kW at e;split at e
 ·cases e
 split at e
 ·cases e
 rename_i q p;have c:=iR f j p;unfold lV at e;split at e
 ·cases e
 rename_i h y;have d:=FT c.1 y;split at e
 ·cases e
 rename_i a g;have l:=nN d.1 g;split at e
 ·cases e
 rename_i b i;have z:=nN l.1 i;cases e
 exact⟨z.1,by simp only[];omega⟩
def wJ{c:Tree}:AdvN s (kT s c):=by
 intro d r f j e;unfold kT at e;split at e
 ·cases e
 rename_i q g;have h:=iR f j g;split at e
 ·cases e
 rename_i x a;have b:=jB h.1 a;cases e
 exact⟨b.1,by simp only[];omega⟩
def CM{needs:List aP}{k:Int}{ext:aP}{p:Int}:AdvN s (actC s needs k ext p):=by
 intro c r f j e;unfold actC at e;split at e
 ·cases e
 split at e
 ·cases e
 rename_i q g;have h:=iR f j g;split at e
 ·cases e
 rename_i x a;have b:=tS h.1 dD a;split at e
 ·cases e
 rename_i y t;have l:=jB b.1 t;cases e
 exact gFZ
def CX{b:Bool}:AdvN s (mL s b):=by
 intro a r f j e;unfold mL at e;split at e
 ·cases e
 rename_i q g;have h:=iR f j g;cases e
 exact⟨h.1,by simp only[];omega⟩
def Ib:AdvN s (nL s):=by
 intro c r f j e;unfold nL at e;split at e
 ·cases e
 rename_i q g;have h:=iR f j g;split at e
 ·cases e
 rename_i a b;have l:=nN h.1 b;cases e
 exact gFZ
def P1:AdvN s (p7 s):=by
 intro c r f j e;unfold p7 at e;split at e
 ·cases e
 rename_i q g;have h:=iR f j g;split at e
 ·cases e
 rename_i x a;have b:=tS h.1 dD a;split at e
 ·cases e
 rename_i y t;have l:=tS b.1 dD t;cases e
 exact gFZ
def Sc{T:St->Res (Tree×St)}(a:Adv s T):AdvN s (notC s T):=by
 intro c r f j e;unfold notC at e;split at e
 ·cases e
 rename_i q g;have h:=iR f j g;split at e
 ·cases e
 rename_i t I;have b:=a _ _ h.1 I;cases e
 exact⟨b.1,by simp only[];omega⟩
theorem O1{T:St->Res (Tree×St)}(b:Adv s T):∀ {f:Nat} {acc:Tree} {st:St} {r:Tree×St},Ok s st->oT s T f acc st=.ok r->Ok s r.2/\mu s r.2<=mu s st:=by
 intro f;induction f with
 |zero=>intro acc st r _ e;cases e
 |succ f w=>
  intro acc st r a e;simp only[oT]at e;split at e
  ·cases e
  rename_i q g;have h:=xF a g;split at e
  ·grind [Adv,Ok]
  grind [Adv,Ok,jB]
def Fz{T:St->Res (Tree×St)}{all:Bool}(a:Adv s T):AdvN s (oE s T all):=by
 intro i r f j e;unfold oE at e;split at e
 ·cases e
 rename_i q g;have h:=iR f j g;split at e
 ·cases e
 rename_i x d;have b:=jB h.1 d;split at e
 ·cases e
 rename_i t I;have c:=a _ _ b.1 I;unfold qU at e;split at e
 ·cases e
 rename_i l v;have z:=O1 a c.1 v;cases e
 exact⟨z.1,by simp only[];omega⟩
theorem PP{needs:List aP}{T:St->Res (Tree×St)}(a:Adv s T){st:St}{r:Tree×St}(f:Ok s st)(j:st.2.kind≠0)(e:oP s needs T st=some (.ok r)):Ok s r.2/\mu s r.2<mu s st:=by
 unfold oP at e;simp only[]at e;split at e
 ·exact CX _ _ f j gAO
 split at e
 ·exact CX _ _ f j gAO
 split at e
 ·exact Sc a _ _ f j gAO
 split at e
 ·exact Fz a _ _ f j gAO
 split at e
 ·exact Fz a _ _ f j gAO
 split at e
 ·exact zF _ _ f j gAO
 split at e
 ·exact zF _ _ f j gAO
 split at e
 ·exact zF _ _ f j gAO
 split at e
 ·exact Ib _ _ f j gAO
 split at e
 ·exact P1 _ _ f j gAO
 cases e
theorem mT{needs:List aP}:∀n,Adv s (test s needs n):=by
 intro n;induction n with
 |zero=>intro a r f e;simp only[test]at e;split at e<;>cases e
 |succ n w=>
  intro a r f e;simp only[test]at e;split at e<;>grind [test,Adv,PP]
theorem mB{B:St->Res (Tree×St)}(W:AdvE s B):Adv s (kU s B):=by
 intro d r f e;unfold kU at e;split at e
 ·cases e
 rename_i q g;have h:=jB f g;split at e
 ·cases e
 rename_i b c;have a:=W _ _ h.1 c;split at e
 ·cases e
 rename_i y t;have l:=jB a.1 t;cases e
 exact gFZ
theorem NJ{B:St->Res (Tree×St)}(W:AdvE s B){acc:Tree}:AdvE s (l4 s B acc):=by
 intro d r f e;unfold l4 at e;split at e
 ·rename_i j;split at e
  ·cases e
  rename_i q g;have h:=iR f aH g;split at e
  ·cases e
  rename_i b c;have a:=mB W _ _ h.1 c;cases e
  exact⟨a.1,by simp only[];omega⟩
 cases e;exact⟨f,xAG _⟩
theorem Ko{T B:St->Res (Tree×St)}(b:Adv s T)(W:AdvE s B):∀ {f:Nat} {acc:Tree} {st:St} {r:Tree×St},Ok s st->iH s T B f acc st=.ok r->Ok s r.2/\mu s r.2<=mu s st:=by
 intro f;induction f with
 |zero=>intro acc st r _ e;cases e
 |succ f w=>
  intro acc st r a e;simp only[iH]at e;split at e<;>grind [iH,Adv,AdvE,Ok,iR,mB,NJ]
def UU{T B:St->Res (Tree×St)}(a:Adv s T)(W:AdvE s B):AdvN s (ifC s T B):=by
 intro i r f j e;unfold ifC at e;split at e
 ·cases e
 rename_i q g;have h:=iR f j g;split at e
 ·cases e
 rename_i t I;have c:=a _ _ h.1 I;split at e
 ·cases e
 rename_i b d;have l:=mB W _ _ c.1 d;have:=Ko a W l.1 e;exact⟨this.1,aH⟩
theorem Jc{needs:List aP}:AdvN s (setC s needs):=by
 intro i r f j e;unfold setC at e;split at e
 ·split at e
  ·cases e
  rename_i q g;have h:=iR f j g;split at e
  ·cases e
  rename_i t I;have b:Ok s t.2/\mu s t.2<=mu s q:=by
   unfold lW at I;split at I
   ·rename_i H;split at I
    ·cases I
    split at I
    ·cases I
    rename_i x c;cases I
    have:=iR h.1 aH c;exact⟨this.1,by simp only[];omega⟩
   cases I;exact⟨h.1,xAG _⟩
  unfold m7 at e;split at e
  ·cases e
  rename_i n u;have l:=nJ b.1 u;split at e
  ·cases e
  rename_i v a;have z:=nJ l.1 a;split at e
  ·cases e
  rename_i y d;have F:=jB z.1 d;cases e
  exact⟨F.1,by simp only[];omega⟩
 cases e
theorem Pt{needs:List aP}:AdvN s (sR s needs):=by
 grind [sR,AdvN,Jc]
def zZ{needs:List aP}{T B:St->Res (Tree×St)}(a:Adv s T)(W:AdvE s B){st:St}{r:Tree×St}(f:Ok s st)(j:st.2.kind≠0)(e:cmdD s needs T B st=some (.ok r)):Ok s r.2/\mu s r.2<mu s st:=by
 unfold cmdD at e;simp only[]at e;split at e
 ·exact wJ _ _ f j gAO
 split at e
 ·exact wJ _ _ f j gAO
 split at e
 ·exact wJ _ _ f j gAO
 split at e
 ·exact CM _ _ f j gAO
 split at e
 ·exact CM _ _ f j gAO
 split at e
 ·exact CM _ _ f j gAO
 split at e
 ·exact Pt _ _ f j gAO
 split at e
 ·exact UU a W _ _ f j gAO
 cases e
theorem JP{C:St->Option (Res (Tree×St))}(E:∀ {st r},Ok s st->st.2.kind≠0->C st=some (.ok r)->Ok s r.2/\mu s r.2<mu s st):∀ {f:Nat} {acc:Tree} {st:St} {r:Tree×St},Ok s st->j6 s C f acc st=.ok r->Ok s r.2/\mu s r.2<=mu s st:=by
 intro f;induction f<;>grind [j6,Ok]
theorem q6{needs:List aP}:∀n,AdvE s (block s needs n):=by
 intro n;induction n with
 |zero=>grind [block,AdvE]
 |succ n w=>
  intro a r f e;simp only[block]at e;exact JP (fun h b l=>zZ (mT n) w h b l) f e
end Go.Syn
namespace Go.Syn
variable{s:aP}
def Og{ff:aP->Int}:∀ {f:Nat} {st:St} {acc:List aP} {r:List aP×St},Ok s st->oD s ff f st acc=.ok r->r.1.length+mu s r.2<=acc.length+mu s st:=by
 intro f;induction f with
 |zero=>intro st acc r _ h;cases h
 |succ f w=>
  intro st acc r a h;simp only[oD]at h;split at h
  ·cases h
  rename_i q g;have b:=xF a g;split at h
  ·split at h
   ·cases h
   rename_i x d;have c:=nJ b.1 d;have:=w c.1 h;simp at this;omega
  split at h
  ·cases h
  rename_i y t;have c:=jB b.1 t;cases h
  simp only[];omega
def vT{ff:aP->Int}{st:St}{r:List aP×St}(f:Ok s st)(h:list s st ff=.ok r):r.1.length+mu s r.2<=mu s st:=by
 unfold list at h;split at h
 ·cases h
 rename_i q g;have a:=xF f g;split at h
 ·cases h
 rename_i x c;have b:=nJ a.1 c;split at h
 ·have:=Og b.1 h;simp at this;omega
 cases h;simp only[List.length_singleton];omega
def mG:aP:=[114,101,113,117,105,114,101]
def sD:List aP:=[dK,fO,hU,dS]
def addN(s:List aP)(e:aP):List aP:=if e∈s then s else s++[e]
def iW(s l:List aP):List aP:=l.foldl addN s
def Qq(s:List aP)(e:aP):(addN s e).length<=s.length+1:=by unfold addN;split<;>simp
def pJ{s l:List aP}{i:Nat}{e:aP}(h:l[i]?=some e):iW s (l.take (i+1))=addN (iW s (l.take i)) e:=by
 have p:i<l.length:=by
  rcases xAD i l.length with a|a
  ·exact a
  simp[List.getElem?_eq_none a]at h
 have d:l[i]=e:=by simpa[List.getElem?_eq_getElem p]using h
 rw[xAK p,d];simp[iW]
def zS{s l:List aP}{i:Nat}(h:l.length<=i):iW s (l.take i)=iW s l:=by rw[xAJ h]
def reqF(s:aP):Nat->List aP->St->Res (List aP×St)
 |0,_,_=>.error (0,0)
 |f+1,b,a=>
  if a.2.kind=1/\a.2.s=mG then
   match next s a.1 with
   | .error e=>.error e
   | .ok r=>
    match list s r (oneOf 6 sD)with
    | .error e=>.error e
    | .ok l=>
     match sign s l.2 [59]with
     | .error e=>.error e
     | .ok q=>reqF s f (iW b l.1) q
  else .ok (b,a)
def i8(s:aP)(n:Res (List aP×St)):Res (List aP×Tree):=
 match n with
 | .error e=>.error e
 | .ok n=>
  match block s n.1 7 n.2 with
  | .error e=>.error e
  | .ok b=>if b.2.2.kind=0 then .ok (n.1,b.1)else .error (4,b.2.2.at_)
def gG(s:aP):Res (List aP×Tree):=
 match next s 0 with
 | .error e=>.error e
 | .ok r=>i8 s (reqF s (mu s r+1) [] r)
end Go.Syn
end
section
namespace Go.Proofs
open Go Go.SL Go.Syn Tryz
def RT(s:List UInt8)(b:Nat)(rest:List Value)(r:Res (Tree×St)):Ending->Hl->List Asn->Prop:=jY r fun r v K g=>Rep1 K r.1 v/\g=[psb b s r.2 rest]
def IP(K:Hl)(k:Int)(a:List UInt8)(p:Int):Rep1 K (.act k a p) (.iface 282 (.agg #[i64 k,str a,i64 p])):=⟨_,_,rfl,rfl⟩
def DI(K:Hl)(op:Int):Rep1 K (.plain op) (.iface 285 (.agg #[i64 op])):=⟨_,_,rfl,rfl⟩
def VP(e:Int)(K:Hl):Sp x3 159 [i64 e] K [] (Val (.iface 282 (.agg #[i64 1,str [],i64 e])) K):=by
 refine bL func159 Y ntmps159 Y Y fun F w=>Z8 ?_;refine aA (dA WJ TF cW) Y ?_;refine aA (eX xB8 (fun _ h=>by cases h) Y) Y (Z5 ?_);exact gDP
def VQ(e:Int)(K:Hl):Sp x3 160 [i64 e] K [] (Val (.iface 285 (.agg #[i64 13])) K):=by
 refine bL func160 Y ntmps160 Y Y fun F w=>Z7 ?_;exact gFE
def VR(e:Int)(K:Hl):Sp x3 161 [i64 e] K [] (Val (.iface 285 (.agg #[i64 14])) K):=by
 refine bL func161 Y ntmps161 Y Y fun F w=>Z7 ?_;exact gFE
def uU(b:Nat)(s:List UInt8)(st:St)(d z:Int)(rest:List Value)(u:Nat)(fn:FuncId)(v:Value)(c:Tree)(K:Hl)(y:s.length<=600)(g:Ok s st)(H:Glob K)
  (C:K u=some (bK [.func (.func fn) #[] #[]] 283)) (l:∀K,Sp x3 fn [i64 d] K [] (Val v K)) (B:∀K,Rep1 K c v):
  Sp x3 259 [ptr b,i64 d,i64 z,ptr u] K [psb b s st rest] (RT s b rest (kT s c st)):=by
 have x:=g.1;refine bL func259 Y ntmps259 Y Y fun F w=>?_;refine ZA ?_;refine dB Y Y (fE b 208 s st.1 _ _ _ _ rest y x _ H) (.cons .here .nil) Y (fun _ _=>eI _ _) ?_ ?_
 ·rintro _ _ _ a t;obtain⟨e,p,i,f,h,rfl⟩:=eJ a;cases h
  refine uAr ?_;refine Z2 ?_;simp only[RT,kT,i];exact⟨f,Y,Y⟩
 rintro _ K _ a -;obtain⟨r,i,rfl,rfl,rfl⟩:=eK a;clear a;have A:=fU x i;refine Z5 ?_;refine dB Y Y (mQ b s r rest [59] _ y A.1 H) (.cons .here .nil) Y (fun _ _=>eI _ _) ?_ ?_
 ·rintro _ _ _ a t;obtain⟨e,p,j,f,h,rfl⟩:=eJ a;cases h
  refine uAr ?_;refine Z2 ?_;simp only[RT,kT,i,j];exact⟨f,Y,Y⟩
 rintro _ K _ a -;obtain⟨q,j,rfl,rfl,rfl⟩:=eK a;clear a;refine Z6 ?_;refine cH Y Y (l _) Y ?_;refine Z4 ?_;refine uAr ?_;refine Z1 ?_;simp only[RT,kT,i,j];exact⟨_,Y,B _,Y⟩
def uC(b:Nat)(s:List UInt8)(st:St)(c I:Int)(nv:Value)(rest:List Value)(needs:List (List UInt8))(v M:Nat)(G:Int)(ext:List UInt8)(K:Hl)(t:s.length<=600)(j:Ok s st)(H:Glob K)(hv:Ksl (aZ 9) K nv needs)(N:needs.length<=1000000)
  (y:K v=some (bK [str ext] 9)) (L:K M=some (bK [i64 G] 3)):
  Sp x3 260 [ptr b,i64 c,i64 I,ptr v,ptr M] K [psb b s st (nv::rest)] (RT s b (nv::rest) (actC s needs G ext c st)):=by
 have z:=j.1;refine bL func260 Y ntmps260 Y Y fun F w=>Z5 ?_;refine dU (fun(_:Unit)=>¬(ext≠[]/\ext∉needs)) (fun _=>[(0,ptr b),(1,i64 c),(4,ptr M)]) (fun _=>K) (fun _=>[psb b s st (nv::rest)]) ?_ ?_
 ·refine Z2 ?_;refine aA (aK ts9 Y (.known y) Y) Y (Z3 ?_);refine aX 11 Y (fun E=>Z2 ?_) (fun E=>?_)
  ·refine aA (aK ts9 Y (.known y) Y) Y ?_;refine eC Y Y (zJ b s st nv rest needs ext _ hv N) bQ Y (fun e p C d _ f=>?_) (fun u0 C=>?_)
   ·refine uAa ?_;refine Z2 ?_;have B:¬ext∈needs:=gB1;rw[x6 B]at C;cases C
    unfold RT actC;rw[x7 ⟨E,B⟩];exact gEM
   rintro _ K _ ⟨rfl,rfl,rfl⟩ -;have B:ext∈needs:=xA3 (fun h=>by rw[x6 h]at C;cases C);have a:¬(ext≠[]/\ext∉needs):=fun h=>h.2 B
   refine aG ?_;exact cB () a bM Y a7
  have a:¬(ext≠[]/\ext∉needs):=fun h=>E h.1
  refine aU ?_;exact cB () a bM Y a7
 intro _ a;refine Z5 ?_;refine eC Y Y (fE b 208 s st.1 _ _ _ _ (nv::rest) t z _ H) bQ Y (fun e p i d _ f=>?_) (fun r i=>?_)
 ·refine uAa ?_;refine Z2 ?_;simp only[RT,actC,if_neg a,i];exact gEM
 rintro _ K _ ⟨rfl,rfl,rfl⟩ -;have A:=fU z i;refine Z5 ?_;refine eC Y Y (pC b s r (nv::rest) 3 _ [] _ t A.1 H (.inl ⟨none,0,Y,Y⟩) cD) bQ Y (fun e p g d _ f=>?_) (fun x g=>?_)
 ·refine uAa ?_;refine Z2 ?_;simp only[RT,actC,if_neg a,i,g];exact gEM
 rintro _ K _ ⟨rfl,rfl,rfl⟩ -;have u:=AL A.1 g;refine Z7 ?_;refine eC Y Y (mQ b s x.2 (nv::rest) [59] _ t u.1 H) bQ Y (fun e p l d _ f=>?_) (fun q l=>?_)
 ·refine uAa ?_;refine Z2 ?_;simp only[RT,actC,if_neg a,i,g,l];exact gEM
 rintro _ K _ ⟨rfl,rfl,rfl⟩ -;refine Z4 ?_;refine aA (aK ts3 Y (.known L) Y) Y (Z2 ?_);refine aA (dA WJ TF cW) Y ?_;refine aA (eX xB8 (fun _ h=>by cases h) Y) Y (Z4 ?_);refine uAa ?_;refine Z1 ?_;simp only[RT,actC,if_neg a,i,g,l];exact⟨_,Y,IP _ _ _ _,Y⟩
def Qe(b:Nat)(s:List UInt8)(st:St)(x:Int)(rest:List Value)(K:Hl)(d:s.length<=600)(f:Ok s st)(H:Glob K):Sp x3 165 [ptr b,i64 x] K [psb b s st rest] (RT s b rest (mL s true st)):=by
 have c:=f.1;refine bL func165 Y ntmps165 Y Y fun F w=>ZA ?_;refine eC Y Y (fE b 208 s st.1 _ _ _ _ rest d c _ H) bQ Y (fun e p i a _ g=>?_) (fun r i=>?_)
 ·exact gG5
 exact gEC
def Kz(b:Nat)(s:List UInt8)(st:St)(x:Int)(rest:List Value)(K:Hl)(d:s.length<=600)(f:Ok s st)(H:Glob K):Sp x3 166 [ptr b,i64 x] K [psb b s st rest] (RT s b rest (mL s false st)):=by
 have c:=f.1;refine bL func166 Y ntmps166 Y Y fun F w=>ZA ?_;refine eC Y Y (fE b 208 s st.1 _ _ _ _ rest d c _ H) bQ Y (fun e p i a _ g=>?_) (fun r i=>?_)
 ·exact gG5
 exact gEC
def Ie(b:Nat)(s:List UInt8)(st:St)(q:Int)(rest:List Value)(K:Hl)(l:s.length<=600)(f:Ok s st)(H:Glob K):Sp x3 176 [ptr b,i64 q] K [psb b s st rest] (RT s b rest (nL s st)):=by
 have j:=f.1;refine bL func176 Y ntmps176 Y Y fun F w=>ZA ?_;refine eC Y Y (fE b 208 s st.1 _ _ _ _ rest l j _ H) bQ Y (fun e p i c _ d=>?_) (fun r i=>?_)
 ·refine uAa ?_;refine Z2 ?_;simp only[RT,nL,i];exact gFF
 refine aCL ?_;have A:=fU j i;refine Z5 ?_;refine eC Y Y (uM b s r rest 177 #[] (fun _=>0) _ l A H (fun x t=>pK x _)) bQ Y (fun e p a c _ d=>?_) (fun C a=>?_)
 ·refine uAa ?_;refine Z2 ?_;simp only[RT,nL,i,a];exact gFF
 rintro _ K _ ⟨rfl,rfl⟩ -;refine fS fun L O g=>?_;obtain⟨I,Q,u,rfl⟩:=g.isSlice;refine aA (dA aA1 Ys cW) Y ?_;refine aA (eX xCS (fun _ h=>by cases h) Y) Y (Z4 ?_);refine uAa ?_;refine bG Y Y (by first|exact O|exact xAB _) ?_;simp only[RT,nL,i,a];exact⟨_,Y,⟨_,_,Y,_,g,Y⟩,Y⟩
def P3(b:Nat)(s:List UInt8)(st:St)(u:Int)(rest:List Value)(K:Hl)(j:s.length<=600)(l:Ok s st)(H:Glob K):Sp x3 178 [ptr b,i64 u] K [psb b s st rest] (RT s b rest (p7 s st)):=by
 have q:=l.1;refine bL func178 Y ntmps178 Y Y fun F w=>ZA ?_;refine eC Y Y (fE b 208 s st.1 _ _ _ _ rest j q _ H) bQ Y (fun e p i c _ a=>?_) (fun r i=>?_)
 ·refine uAa ?_;refine Z2 ?_;simp only[RT,p7,i];exact gFF
 refine aCL ?_;have A:=fU q i;refine ZB ?_;refine cG (bJ (z0:=[(str []),(str [])]) b0 tz9 Y Y Y Y cW) Y ?_;refine aCJ fun B=>kE fun L O hK1=>?_;refine eC Y Y (pC b s r rest 2 _ [wX,lR] _ j A.1 (H.mono O) (.inr ⟨B,0,2,[str wX,str lR],(0,0),Y,⟨_,hK1⟩,Y⟩) cD) bQ Y (fun e p f c _ a=>?_) (fun x f=>?_)
 ·refine uAa ?_;refine Z2 ?_;refine cF (x5 O a) ?_;simp only[RT,p7,i,f];exact gFF
 refine aCL ?_;have g:=AL A.1 f;refine Z4 ?_;refine aX 14 Y (fun d=>?_) (fun d=>?_)
 ·have v:x.1.s=lR:=d;refine Z8 ?_;refine eC Y Y (pC b s x.2 rest 4 _ [] _ j g.1 (H.mono O) (.inl ⟨none,0,Y,Y⟩) cD) bQ Y (fun e p t c _ a=>?_) (fun y t=>?_)
  ·exact gF6
  refine aCL (Z1 ?_);refine aA (dA WL TH cW) Y ?_;refine aA (eX xCT (fun _ h=>by cases h) Y) Y (Z4 ?_);refine uAa ?_;refine bG Y Y O ?_;simp only[RT,p7,i,f,if_pos v,t];exact gHV
 have v:¬x.1.s=lR:=d;refine Z6 ?_;refine eC Y Y (pC b s x.2 rest 4 _ [] _ j g.1 (H.mono O) (.inl ⟨none,0,Y,Y⟩) cD) bQ Y (fun e p t c _ a=>?_) (fun y t=>?_)
 ·exact gF6
 refine aCL (Z1 ?_);refine aA (dA WL TH cW) Y ?_;refine aA (eX xCT (fun _ h=>by cases h) Y) Y (Z4 ?_);refine uAa ?_;refine bG Y Y O ?_;simp only[RT,p7,i,f,if_neg v,t];exact gHV
structure PK (s:List UInt8) (needs:List (List UInt8)) (nv:Value) (K:Hl):Prop where
 hs:s.length<=600
 hg:Glob K
 hv:Ksl (aZ 9) K nv needs
 hn:needs.length<=1000000
def PK.mono{s:List UInt8}{needs:List (List UInt8)}{nv:Value}{K a:Hl}(h:PK s needs nv K)(le:K.le a):PK s needs nv a:=⟨h.hs,h.hg.mono le,h.hv.mono le,h.hn⟩
def Iq(b:Nat)(s:List UInt8)(st:St)(x:Int)(nv:Value)(rest:List Value)(needs:List (List UInt8))(K:Hl)(f:Ok s st)(hp:PK s needs nv K):Sp x3 172 [ptr b,i64 x] K [psb b s st (nv::rest)] (RT s b (nv::rest) (kW s needs 6 [] st)):=by
 refine bL func172 Y ntmps172 Y Y fun F w=>Z8 ?_;refine eC Y Y (zH b s st 6 [] nv rest needs _ hp.hs f hp.hg hp.hv hp.hn) bQ Y (fun e p i a _ c=>?_) (fun r i=>?_)
 ·exact gE7
 exact gDO
def EE(b:Nat)(s:List UInt8)(st:St)(x:Int)(nv:Value)(rest:List Value)(needs:List (List UInt8))(K:Hl)(f:Ok s st)(hp:PK s needs nv K):Sp x3 174 [ptr b,i64 x] K [psb b s st (nv::rest)] (RT s b (nv::rest) (kW s needs 7 dK st)):=by
 refine bL func174 Y ntmps174 Y Y fun F w=>Z8 ?_;refine eC Y Y (zH b s st 7 dK nv rest needs _ hp.hs f hp.hg hp.hv hp.hn) bQ Y (fun e p i a _ c=>?_) (fun r i=>?_)
 ·exact gE7
 exact gDO
def Jr(b:Nat)(s:List UInt8)(st:St)(x:Int)(nv:Value)(rest:List Value)(needs:List (List UInt8))(K:Hl)(f:Ok s st)(hp:PK s needs nv K):Sp x3 175 [ptr b,i64 x] K [psb b s st (nv::rest)] (RT s b (nv::rest) (kW s needs 8 dS st)):=by
 refine bL func175 Y ntmps175 Y Y fun F w=>Z8 ?_;refine eC Y Y (zH b s st 8 dS nv rest needs _ hp.hs f hp.hg hp.hv hp.hn) bQ Y (fun e p i a _ c=>?_) (fun r i=>?_)
 ·exact gE7
 exact gDO
def yG(s:List UInt8)(b:Nat)(rest:List Value)(K:Hl)(x:Int)(E:St->Res (Tree×St)):Prop:=
 ∀(e:St) (a:Hl),K.le a->Ok s e->Sp x3 168 [ptr b,i64 x] a [psb b s e rest] (RT s b rest (E e))
def Se(b:Nat)(s:List UInt8)(st:St)(x:Int)(rest:List Value)(K:Hl)(E:St->Res (Tree×St))(j:s.length<=600)(f:Ok s st)(H:Glob K)(hd:0<=x/\x<=6)(g:yG s b rest K (x+1) E):
  Sp x3 167 [ptr b,i64 x] K [psb b s st rest] (RT s b rest (notC s E st)):=by
 have d:=f.1;refine bL func167 Y ntmps167 Y Y fun F w=>ZA ?_;refine eC Y Y (fE b 208 s st.1 _ _ _ _ rest j d _ H) bQ Y (fun e p i a _ c=>?_) (fun r i=>?_)
 ·refine uAa ?_;refine Z2 ?_;simp only[RT,notC,i];exact⟨a,Y,Y⟩
 refine aCL ?_;have A:=fU d i;refine Z7 ?_;refine eC Y Y (g r _ (xAB _) A) bQ Y (fun e p I a _ c=>?_) (fun t I=>?_)
 ·refine uAa ?_;refine Z2 ?_;simp only[RT,notC,i,I];exact⟨a,Y,Y⟩
 rintro _ L _ ⟨⟨P,u,rfl,C⟩,rfl⟩ v;refine aA (dA aA0 Yr cW) Y ?_;refine aA (eX xBV (fun _ h=>by cases h) Y) Y (Z4 ?_);refine uAa ?_;refine bG Y Y v ?_;simp only[RT,notC,i,I];exact⟨_,Y,⟨_,_,Y,_,C,Y⟩,Y⟩
def Q9(b:Nat)(e:TypeId)(c:Cell):∀h,pt b (bK [c.1] e) h->sl false (cC e) (.slice (some ⟨b,0,none⟩) 1 1) [c] h:=
 AH (k:=cC e) (xs:=[c]) (cells:=[c.1]) (xAG _) rfl rfl (.inl (xAG _)) (fun h=>by cases h)
def F1(b:Nat)(s:List UInt8)(st:St)(all:Bool)(M:Int)(rest:List Value)(K:Hl)(I:St->Res (Tree×St))(hs:s.length<=600)(jk:Ok s st)(hg:Glob K)(hd:0<=M/\M<=6)(P:Adv s I)(hT:yG s b rest K (M+1) I):
  Sp x3 170 [ptr b,.bool all,i64 M] K [psb b s st rest] (RT s b rest (oE s I all st)):=by
 have ha:=jk.1;refine bL func170 Y ntmps170 Y Y fun F w=>ZA ?_;refine eC Y Y (fE b 208 s st.1 _ _ _ _ rest hs ha _ hg) bQ Y (fun e p H l _ d=>?_) (fun r H=>?_)
 ·refine uAa ?_;refine Z2 ?_;simp only[RT,oE,H];exact gFO
 rintro _ K _ ⟨rfl,rfl,rfl⟩ -;have jd:=fU ha H;refine Z5 ?_;refine eC Y Y (mQ b s r rest [40] _ hs jd.1 hg) bQ Y (fun e p hq l _ d=>?_) (fun q hq=>?_)
 ·refine uAa ?_;refine Z2 ?_;simp only[RT,oE,H,hq];exact gFO
 rintro _ K _ ⟨rfl,rfl,rfl⟩ -;have jb:=CC jd.1 hq;refine Z8 ?_;refine eC Y Y (hT q _ (xAB _) jb) bQ Y (fun e p ht l _ d=>?_) (fun t ht=>?_)
 ·refine uAa ?_;refine Z2 ?_;simp only[RT,oE,H,hq,ht];exact gFO
 rintro _ K1 _ ⟨⟨ty,u,rfl,jc⟩,rfl⟩ v;have jq:=(P _ _ jb ht).1;refine cG (bJ (z0:=[.nilIface]) sZ WW Y Y Y Y cW) Y ?_;rintro _ K _ ⟨W,rfl,rfl,rfl⟩ -;refine aA (dA aA7 Yw cW) Y (Z1 ?_);rintro _ K _ ⟨b7,rfl,rfl,rfl⟩ -;refine cA (cQ Hu Y Y Y bP gAF (.cons (.cons .nil)) gAQ) ?_;rintro _ K _ ⟨rfl,rfl⟩ -;refine Z4 ?_;refine m8 (fun(S:Hl) (a:St) (L:List (Cell×Cell)) (sv:Value)=>K.le S/\Ok s a/\L.length+mu s a<=1300/\∃i f,isTL i=true/\Rep S i L/\mu s a<=f/\oE s I all st=qU all (oT s I (f+1) i a)) (fun _ _ _ _=>[(0,ptr b),(2,i64 M),(7,ptr b7)]) (fun S _ _ _=>S) (fun _ a L sv=>[pt b7 (bK [.bool all,sv] 376),sl false (cC 288) sv (L.map Prod.fst),psb b s a rest]) (fun _ a _ _=>mu s a) _ t.2 [(⟨.iface ty u,Y⟩,u0)] (.slice (some ⟨W,0,none⟩) 1 1) ⟨xAB _,jq,by have:=vY s t.2;simp;omega,.tcons t.1 .tnil,mu s t.2,rfl,⟨_,[],jc,rfl,rfl⟩,xAG _,by simp only[oE,H,hq,ht]⟩ bM Y (fun h hh=>hO (gS (Q9 W 288 ⟨.iface ty u,Y⟩) h (hO hh))) ?_;intro S a L sv ⟨g,A,jv,i,f,ja,je,hf,hx⟩;refine Z4 ?_;refine eC Y Y (Db b s a rest [44] _ hs A.1 (hg.mono (x5 v g))) bQ Y (fun e p C l _ d=>?_) (fun y C=>?_)
 ·refine uAa ?_;refine Z5 ?_;refine cF (x5 v (x5 g d)) ?_;simp only[RT,hx,oT,C];exact gFO
 rintro _ K _ ⟨rfl,rfl,rfl⟩ -;obtain⟨jw,jx,jr⟩:=AY A.1 C;have O:=AZ A C;refine Z2 ?_;refine dZ 22 Y (fun x=>Z3 ?_) (fun x=>?_)
 ·refine cN [5,6,7,9] [9] mixed gAD (aQ dQ bT) (Z5 ?_);refine Ah Y (.none Y) Y Y Y Y (hT y.2 _ (x5 v g) O) (aQ dQ bT) Y (fun _ _=>eI _ _) ?_ ?_
  ·rintro _ _ _ B d;obtain⟨e,p,Q,l,h,rfl⟩:=eJ B;cases h
   intro a0 w0 jh ji;refine⟨jh,_,_,?_,(x5 v (x5 g d)),ji.left⟩
   simp only[RT,hx,oT,C,if_pos x,Q];exact gFO
  rintro _ K3 _ B E;obtain⟨t2,Q,⟨jg,u2,rfl,G⟩,rfl⟩:=eK B;clear B;refine⟨_,(show Tks _ _ _ from (aQ dQ bT)).sat,?_⟩
  refine s6 Y Y (.none Y) Y Y (bJ (z0:=[.nilIface]) sZ WW Y Y Y Y cW) Y ?_;rintro _ K _ ⟨ju,rfl,rfl,rfl⟩ -;refine⟨_,(show Tks _ _ _ from (aQ dQ bT)).sat,?_⟩
  refine s6 Y Y (.none Y) Y Y (dJ (k:=(cC 288)) (ys:=[⟨.iface jg u2,Y⟩]) Ei Y Y bP (fun w j=>dC xCF (SeesSl.at (.blk aL Y Y) j)) gAG gAH) Y ?_;rintro js K _ ⟨rfl,rfl,jt⟩ -;refine⟨_,(show Tks _ _ _ from (aQ dQ bT)).sat,?_⟩
  refine Z1 ?_;refine l7 Y Y (.none Y) Y (bW J9 Y Y cR bP aZe Y) ?_;rintro _ K _ ⟨rfl,rfl⟩ -;refine Z2 ?_;have hm:=jr x;have jj:=P _ _ O Q;obtain⟨f0,rfl⟩:∃f0,f=f0+1:=⟨f-1,aH⟩;refine aV (aQ cL (aQ cL (aQ dQ bT))) ?_;obtain⟨jl,jp⟩:=Pb G ja (je.mono E);refine jQ K t2.2 (L++[(⟨.iface jg u2,Y⟩,u0)]) js ⟨x5 g E,jj.1,by simp;omega,i.snocT t2.1,f0,jp,jl,aH,?_⟩ aH bM Y (by rw[List.map_append];exact fun _ h=>h)
  simp only[hx,oT,C,if_pos x,Q]
 have N:¬y.1=true:=by simp[x]
 refine Z8 ?_;refine eC Y Y (mQ b s y.2 rest [41] _ hs O.1 (hg.mono (x5 v g))) bQ Y (fun e p hz l _ d=>?_) (fun z hz=>?_)
 ·refine uAa ?_;refine aT (cF (x5 v (x5 g d)) ?_);simp only[RT,hx,oT,C,if_neg N,hz];exact gFO
 rintro _ K _ ⟨rfl,rfl,rfl⟩ -;refine Z5 ?_;refine aA (eX xB9 (fun _ h=>by cases h) Y) Y (Z4 ?_);refine uAi ?_;refine iX fun K4 jf hS=>uAa ?_;refine bG Y Y (x5 v (x5 g jf)) ?_;simp only[RT,hx,oT,C,if_neg N,hz];simp only[qU];exact⟨_,Y,⟨_,_,Y,L,sv,je.mono jf,hS,Y⟩,Y⟩
end Go.Proofs
end
section
set_option maxRecDepth 4000
namespace Go.Proofs
open Go Go.SL Go.Syn
def wL(fn:FuncId)(K:Hl):Sp x3 158 [.func (.func fn) #[] #[]] K [] (Ret fun v a L'=>∃j,v=.func (.func 259) #[] #[ptr j]/\a j=some (bK [.func (.func fn) #[] #[]] 283)/\L'=[]):=by
 refine bL Tryz.func158 Y Tryz.ntmps158 Y Y fun F w=>Z3 ?_;refine aCJ fun j=>ZA ?_;refine fC fun L p hK1=>bG Y Y p ?_;exact⟨_,Y,j,Y,hK1,Y⟩
def u7(b:Int)(ext:List UInt8)(K:Hl):Sp x3 162 [i64 b,str ext] K [] (Ret fun v a L'=>∃j M,v=.func (.func 260) #[] #[ptr j,ptr M]/\a j=some (bK [str ext] 9)/\a M=some (bK [i64 b] 3)/\L'=[]):=by
 refine bL Tryz.func162 Y Tryz.ntmps162 Y Y fun F w=>Z3 ?_;refine aCJ fun M=>Z1 ?_;refine aCJ fun N=>ZA ?_;exact gFK
abbrev fnV(f:FuncId):Value:=.func (.func f) #[] #[]
abbrev simV(c:Nat):Value:=.func (.func 259) #[] #[ptr c]
abbrev actV(c d:Nat):Value:=.func (.func 260) #[] #[ptr c,ptr d]
structure Tabs (K:Hl) (cb tb:Nat):Prop where
 cmds:∃c1 c2 c3 d1 e1 d2 e2 d3 e3,K cb=some (mapO [(pI,simV c1,0),(jH,simV c2,1),(l6,simV c3,2),(fO,actV d1 e1,3),(gH,actV d2 e2,4),(hU,actV d3 e3,5),(sE,fnV 163,6),(txIf,fnV 164,7)] 8)/\
  K c1=some (bK [fnV 159] 283)/\K c2=some (bK [fnV 160] 283)/\K c3=some (bK [fnV 161] 283)/\
  K d1=some (bK [str fO] 9)/\K e1=some (bK [i64 2] 3)/\K d2=some (bK [str []] 9)/\K e2=some (bK [i64 3] 3)/\K d3=some (bK [str hU] 9)/\K e3=some (bK [i64 4] 3)
 tests:K tb=some (mapO [(jO,fnV 165,0),(gO,fnV 166,1),(qF,fnV 167,2),(lE,fnV 169,3),(lF,fnV 171,4),(gK,fnV 172,5),(dK,fnV 174,6),(gL,fnV 175,7),(kJ,fnV 176,8),(mW,fnV 178,9)] 10)
def Tabs.mono{K a:Hl}{d tb:Nat}(h:Tabs K d tb)(le:K.le a):Tabs a d tb:=
 ⟨let ⟨r,N,Q,w,M,b,O,S,C,P,c,e,l,z,F,G,B,f,j⟩:=h.cmds;⟨r,N,Q,w,M,b,O,S,C,le _ _ P,le _ _ c,le _ _ e,le _ _ l,le _ _ z,le _ _ F,le _ _ G,le _ _ B,le _ _ f,le _ _ j⟩,le _ _ h.tests⟩
def Ju(b:Nat)(s:List UInt8)(st:St)(q P:Value)(K:Hl):Sp x3 100 [ptr b] K [psb b s st [q,P,.map none,.map none]]
  (Ret fun v i L'=>v=.tuple #[]/\∃h tb,Tabs i h tb/\L'=[psb b s st [q,P,.map (some h),.map (some tb)]]):=by
 refine bL Tryz.func100 Y Tryz.ntmps100 Y Y fun F w=>Z3 ?_;refine cG tN Y (aCJ fun b3=>bA Y Y (wL _ _) .nil Y ?_);rintro _ K1 _ ⟨r,rfl,z,rfl⟩ p;refine cA (jR xBQ x9 Y Y Y ?_ bP) ?_
 ·rfl
 rintro _ K _ ⟨rfl,rfl⟩ -;refine bA Y Y (wL _ _) .nil Y ?_;rintro _ K2 _ ⟨N,rfl,B,rfl⟩ A;refine cA (jR xBQ x9 Y Y Y ?_ bP) ?_
 ·rfl
 rintro _ K _ ⟨rfl,rfl⟩ -;refine bA Y Y (wL _ _) .nil Y ?_;rintro _ K3 _ ⟨Q,rfl,E,rfl⟩ g;refine cA (jR xBQ x9 Y Y Y ?_ bP) ?_
 ·rfl
 rintro _ K _ ⟨rfl,rfl⟩ -;refine bA Y Y (u7 2 fO _) .nil Y ?_;rintro _ K4 _ ⟨l,M,rfl,G,W,rfl⟩ d;refine cA (jR xBQ x9 Y Y Y ?_ bP) ?_
 ·rfl
 rintro _ K _ ⟨rfl,rfl⟩ -;refine bA Y Y (u7 3 [] _) .nil Y ?_;rintro _ K5 _ ⟨u,O,rfl,h6,h7,rfl⟩ c;refine cA (jR xBQ x9 Y Y Y ?_ bP) ?_
 ·rfl
 rintro _ K _ ⟨rfl,rfl⟩ -;refine bA Y Y (u7 4 hU _) .nil Y ?_;rintro _ K6 _ ⟨S,C,rfl,h8,h9,rfl⟩ t;refine cA (jR xBQ x9 Y Y Y ?_ bP) ?_
 ·rfl
 rintro _ K _ ⟨rfl,rfl⟩ -;refine cA (jR xBQ x9 Y Y Y ?_ bP) ?_
 ·rfl
 rintro _ K _ ⟨rfl,rfl⟩ -;refine cA (jR xBQ x9 Y Y Y ?_ bP) ?_
 ·rfl
 rintro _ K _ ⟨rfl,rfl⟩ -;refine Z8 ?_;refine cG tN Y (aCJ fun j=>?_);refine cA (jR xBK x9 Y Y Y ?_ bP) ?_
 ·rfl
 rintro _ K _ ⟨rfl,rfl⟩ -;refine cA (jR xBK x9 Y Y Y ?_ bP) ?_
 ·rfl
 rintro _ K _ ⟨rfl,rfl⟩ -;refine cA (jR xBK x9 Y Y Y ?_ bP) ?_
 ·rfl
 rintro _ K _ ⟨rfl,rfl⟩ -;refine cA (jR xBK x9 Y Y Y ?_ bP) ?_
 ·rfl
 rintro _ K _ ⟨rfl,rfl⟩ -;refine cA (jR xBK x9 Y Y Y ?_ bP) ?_
 ·rfl
 rintro _ K _ ⟨rfl,rfl⟩ -;refine cA (jR xBK x9 Y Y Y ?_ bP) ?_
 ·rfl
 rintro _ K _ ⟨rfl,rfl⟩ -;refine cA (jR xBK x9 Y Y Y ?_ bP) ?_
 ·rfl
 rintro _ K _ ⟨rfl,rfl⟩ -;refine cA (jR xBK x9 Y Y Y ?_ bP) ?_
 ·rfl
 rintro _ K _ ⟨rfl,rfl⟩ -;refine cA (jR xBK x9 Y Y Y ?_ bP) ?_
 ·rfl
 rintro _ K _ ⟨rfl,rfl⟩ -;refine cA (jR xBK x9 Y Y Y ?_ bP) ?_
 ·rfl
 rintro _ K _ ⟨rfl,rfl⟩ -;refine Z5 ?_;refine uAq ?_;refine fC fun K7 L hT=>fC fun K8 a hC=>dG Y (x5 p (x5 A (x5 g (x5 d (x5 c (x5 t (x5 L a))))))) ?_;have H:=x5 L a;have f:=x5 t H;have e:=x5 c f;have y:=x5 d e;have I:=x5 g y;have x:=x5 A I;exact⟨_,Y,Y,_,_,⟨⟨r,N,Q,l,M,u,O,S,C,hC,x _ _ z,I _ _ B,y _ _ E,e _ _ G,e _ _ W,f _ _ h6,f _ _ h7,H _ _ h8,H _ _ h9⟩,a _ _ hT⟩,Y⟩
end Go.Proofs
end
end

/-
  What the proof stands on, part 3: the logic of walks, the walks through the functions, the plain laws. Conditions: as each theorem says. (Merged and shortened by a program.)
-/
import Derived.Below
import Derived.Shelf.Strings.Builder1
import Derived.Shelf.Strings.Builder2
import Derived.Shelf.Small.Utf8
import Derived.Shelf.Small.Bits
import Derived.Shelf.Small.Strs
import Derived.Shelf.Utf8.RuneCount
import Derived.Shelf.Strconv.Itoa0
import Derived.Shelf.Strconv.Itoa1
import Derived.Shelf.LaysM
import Derived.Shelf.Strconv.Itoa2
import Derived.Shelf.Strconv.Itoa3
import Derived.Shelf.Strings.Search1
import Derived.Shelf.Strings.Search2
import Derived.Shelf.Strings.Search3
import Derived.Shelf.Strings.Cut
import Derived.Shelf.Strings.Count
import Derived.Shelf.Strings.Shaped
import Derived.Shelf.Strings.Split
import Derived.Shelf.Strings.Runes
import Derived.Shelf.Strings.RuneCount
import Derived.Shelf.Strings.IndexAny
import Derived.Shelf.Strings.AsciiSet
import Derived.Shelf.Strings.IndexAnyAll
import Derived.Shelf.Bits.Mul64
import Derived.Ground.Names2Prog
import Derived.Shelf.Slices.Clone
import Derived.Ground.SlgnProg
import Derived.Shelf.SlicesE.Clone
import Derived.Test.YthopmddkpdehiabGreatDoorK2
set_option linter.unusedVariables false
set_option linter.unusedSimpArgs false
set_option linter.defProp false
set_option maxRecDepth 4000
set_option maxHeartbeats 1000000
section
namespace Go.SL
def In.start(w:World):In w .emp (hp w) [] w:=
 ⟨rfl,rfl,rfl,xAA _,.emp,rfl,(Hl.dj_emp _).symm,Hl.dj_emp _,Hl.dj_emp _,(fun _ _ e=>by cases e),xAB _,(fun _ _ e=>by cases e)⟩
def In.below{w w':World}{K':Hl}{L:List Asn}(le:(hp w).le K')(i:In w .emp K' L w'):RowKit.Below w.heap.size w w':=by
 refine⟨i.os,i.tape,i.output,i.size,fun k hk=>?_⟩
 have h:=le k w.heap[k] (by simp[hp,hk]);rw[i.known h];simp[hk]
def qO{P:Program}{f:FuncId}{args:List Value}{w:World}{v:Value}(h:Sp P f args (hp w) [] (Ret fun u _ _=>u=v)):
  Calls P f args.toArray w fun e w'=>e=.returned v∧RowKit.Below w.heap.size w w':=
 (h.2 .emp w (In.start w)).mono fun _ _ ⟨_,_,⟨u,he,hu⟩,le,j⟩=>⟨by rw[he,hu],j.below le⟩
def rD{P:Program}{f:FuncId}{args:List Value}{K:Hl}{v:Value}(hb:∃fn,P.funcs[f]?=some fn∧(fn.name== "runtime.NumGoroutine")=false∧fn.body.isSome=true)
  (h:∀w,K.le (hp w)→Calls P f args.toArray w fun e w'=>e=.returned v∧RowKit.Below w.heap.size w w'):Sp P f args K [] (Val v K):=by
 refine⟨hb,fun F w i=>?_⟩
 obtain⟨x,hs,d1,d2,d3,l1,l2,l3⟩:=i.rep;refine(h w l2).mono fun e w' ⟨he,hbl⟩=>?_;have up:∀ {k:Hl},k.le (hp w)→k.le (hp w'):=by
  intro k hk b o e;have hlt:b < w.heap.size:=by
   have:=hk b o e;simp only[hp]at this;rcases xAC b w.heap.size with h|h
   ·exact h
   simp[Array.getElem?_eq_none h]at this
  have:=hk b o e;simp only[hp]at this ⊢;rw[hbl.block b hlt];exact this
 exact⟨K,[],⟨he,Y,Y⟩,xAB _,hbl.os,hbl.tape,hbl.output,hbl.size,x,hs,d1,d2,d3,up l1,up l2,up l3⟩
def oT{P:Program}{f:FuncId}{args:List Value}{K:Hl}{v:Value}(hb:∃fn,P.funcs[f]?=some fn∧(fn.name== "runtime.NumGoroutine")=false∧fn.body.isSome=true)
  (h:∀w,K.le (hp w)→Calls P f args.toArray w fun e w'=>e=.returned v∧w'=w):Sp P f args K [] (Val v K):=
 rD hb fun w hw=>(h w hw).mono fun e w' ⟨he,hw'⟩=>⟨he,by subst hw';exact RowKit.Below.refl _ _⟩
end Go.SL
end
section
namespace Go.Proofs
open Go.Shelf
def Tryz.lays143_ren:Go.Shelf.Ren:=⟨fun|143=>215|219=>237|217=>238|225=>248|224=>249|267=>250|266=>251|314=>266|n=>n,fun|9=>9|3=>3|4=>4|5=>5|46=>249|146=>318|51=>304|n=>n,fun|1=>1|n=>n⟩
def Tryz.lays143 : Go.Proofs.Lays.n143 x3 Tryz.lays143_ren := {
 mixed:=cY
 f143:=Tryz.func215.trans (xAE some cY)
 f217:=Tryz.func238.trans (xAE some cY)
 f219:=Tryz.func237.trans (xAE some cY)
 f224:=Tryz.func249.trans (xAE some cY)
 f225:=Tryz.func248.trans (xAE some cY)
 f266:=Tryz.func251.trans (xAE some cY)
 f267:=Tryz.func250.trans (xAE some cY)
 f314:=Tryz.func266.trans (xAE some cY)
 t3:=Tryz.underlying3
 a3:=Tryz.isAgg3
 z3:=Tryz.sizeOf3
 v3:=Tryz.zeroValue3
 t4:=Tryz.underlying4
 a4:=Tryz.isAgg4
 z4:=Tryz.sizeOf4
 v4:=Tryz.zeroValue4
 t5:=Tryz.underlying5
 a5:=Tryz.isAgg5
 z5:=Tryz.sizeOf5
 v5:=Tryz.zeroValue5
 t9:=Tryz.underlying9
 a9:=Tryz.isAgg9
 z9:=Tryz.sizeOf9
 v9:=Tryz.zeroValue9
 t46:=Tryz.underlying249
 a46:=Tryz.isAgg249
 z46:=Tryz.sizeOf249
 v46:=Tryz.zeroValue249
 t51:=Tryz.underlying304
 a51:=Tryz.isAgg304
 z51:=Tryz.sizeOf304
 v51:=Tryz.zeroValue304
 t146:=Tryz.underlying318
 a146:=Tryz.isAgg318
 z146:=Tryz.sizeOf318
 v146:=Tryz.zeroValue318
 g1:=by kernel_rfl}
open Go.RowKit Go.Lib in
def Tryz.strings_Index(s sub:ByteArray)(m:Int)(w:World)(hs:s.size < 4294967281)(hm:w.cell? ⟨1,0,none⟩=some (.int .i64 m)):
  Calls x3 215 #[.string s,.string sub] w fun e w'=>e=.returned (.int .i64 (Lib.index s.data.toList sub.data.toList))∧w'=w:=Any.strings_Index Tryz.lays143 s sub m w hs hm
end Go.Proofs
end
section
attribute [local irreducible] Go.SL.T Go.SL.OL Go.SL.D Go.SL.DL Go.SL.Ev Go.SL.Ef Go.SL.EfS
namespace Go.Proofs
open Go Go.SL Go.Syn
def Flt(e at_:Int):Ending→Hl→List Asn→Prop:=fun en K' L'=>
 ∃b,en=.panicked [{v:=.iface 126 (ptr b),recovered:=false}]∧L'=[pt b (bL [i64 e,i64 at_] 131)]
def kH{β:Type}(r:Res β)(N:β→Value→Hl→List Asn→Prop):Ending→Hl→List Asn→Prop:=fun en K' L'=>
 match r with
 | .ok x=>Ret (N x) en K' L'
 | .error (e,p)=>Flt e p en K' L'
def cF{β:Type}{r:Res β}{N:β→Value→Hl→List Asn→Prop}(K':Hl)(L':List Asn):¬kH r N .outgrown K' L':=by
 unfold kH;cases r with
 |ok x=>rintro⟨_,h,_⟩;cases h
 |error p=>rintro⟨_,h,_⟩;cases h
def cH{β:Type}{r:Res β}{N:β→Value→Hl→List Asn→Prop}{v:Value}{K':Hl}{L':List Asn}(h:kH r N (.returned v) K' L'):∃x,r=.ok x∧N x v K' L':=by
 unfold kH at h;cases r with
 |ok x=>obtain⟨u,e,h⟩:=h;cases e;exact⟨x,Y,h⟩
 |error p=>obtain⟨_,e,_⟩:=h;cases e
def cG{β:Type}{r:Res β}{N:β→Value→Hl→List Asn→Prop}{ch:List PanicEntry}{K':Hl}{L':List Asn}(h:kH r N (.panicked ch) K' L'):∃e p,r=.error (e,p)∧Flt e p (.panicked ch) K' L':=by
 unfold kH at h;cases r with
 |ok x=>obtain⟨u,e,h⟩:=h;cases e
 |error p=>exact⟨p.1,p.2,Y,h⟩
def iD(e at_:Int)(K:Hl):Sp x3 174 [i64 e,i64 at_] K [] (Flt e at_):=by
 refine bN Tryz.func174 Y Tryz.ntmps174 Y Y fun F w=>?_;refine zz3 ?_;refine aA (dG bK8 bGS dF) Y (zz1 ?_);rintro _ K _ ⟨b7,rfl,rfl,rfl⟩ -;refine aA (fE Tryz.underlying126 (fun _ h=>by cases h) Y) Y ?_;refine aPP Y ?_;refine cK (xAB _) ?_;exact⟨_,Y,Y⟩
def aUE(c:UInt8)(K:Hl):Sp x3 214 [.int .u8 c.toNat] K [] (Val (.bool (decide (¬c.toNat=10))) K):=by
 refine bN Tryz.func214 Y Tryz.ntmps214 Y Y fun F w=>?_;refine zz14 ?_;refine jW ?_ _
 rw[xAP];simp;omega
structure Glob (K:Hl):Prop where
 maxLen:∃m T fz,K 1=some (bL [i64 m] T fz)
 pow10:∀w,K.le (hp w)→Lib.TabIs x3 w "internal/strconv.uint64pow10" .u64 Lib.pow10Tab
def index_spec(s sub:List UInt8)(K:Hl)(hg:Glob K)(hs:s.length < 4294967281):Sp x3 215 [str s,str sub] K [] (Val (i64 (Lib.index s sub)) K):=by
 refine oT ⟨_,Tryz.func215,Y,Y⟩ fun w hw=>?_;obtain⟨m,T,fz,hm⟩:=hg.maxLen;have:=Tryz.strings_Index ⟨s.toArray⟩ ⟨sub.toArray⟩ m w (by simpa[ByteArray.size]using hs) (oH (hw _ _ hm) rfl);exact this
def xI(s sub:List UInt8):Lib.index s sub≤(s.length:Int) - sub.length∨Lib.index s sub= -1:=by
 induction s with
 |nil=>cases sub <;> simp[Lib.index]
 |cons b l ih=>
  simp only[Lib.index];split
  ·rename_i hp;have:=List.IsPrefix.length_le (List.isPrefixOf_iff_prefix.1 hp);simp at this ⊢;omega
  split
  ·exact .inr Y
  rename_i h;simp at h;rcases ih with ih|ih
  ·left;simp;omega
  exact absurd ih h
def bAN(b:Nat)(T:TypeId)(s:List UInt8)(a:Nat)(wk ws wn wa:Value)(rest:List Value)(hs:s.length≤600)(ha:a≤s.length)(K:Hl)(hg:Glob K):
  Sp x3 170 [ptr b] K [lxb b T s a wk ws wn wa rest]
   (kH (skip s a) fun a' v K' L'=>v=.tuple #[]∧K'=K∧L'=[lxb b T s a' wk ws wn wa rest]):=by
 refine bN Tryz.func170 Y Tryz.ntmps170 Y Y fun F w=>?_;refine bD ?_;refine eH (fun(i:Nat)=>a≤i∧i≤s.length∧∃f,s.length < i+(f+1)∧skip s a=mC s (f+1) i) (fun i=>[(0,ptr b)]) (fun _=>K) (fun i=>[lxb b T s i wk ws wn wa rest]) (fun i=>s.length - i) a ⟨xAA _,ha,s.length - a,by omega,by unfold skip;congr 1;omega⟩ aS Y (fun _ h=>h) ?_;intro i ⟨hi1,hi2,f,hi3,hi4⟩;refine zz2 ?_;refine cZ (anc:=[0,1,3,7,0,16,48,112,240,511]) (ord:=[0,1,2,3,4,5,6,7,8,9]) [] [] mixed gC5 (cQ _) (zz12 ?_);refine aY 13 Y (fun h13=>?_) (fun h13=>?_)
 ·obtain⟨c,hc⟩:∃c,s[i]?=some c:=⟨s[i],x4 aH⟩;have hp0:((s[i+0]?).getD 0)=c:=by rw[Nat.add_zero,hc];rfl
  refine zz6 ?_;refine bA Y Y (nQ b T s i 0 wk ws wn wa rest hs aH aH K) bS Y ?_;rintro _ K _ ⟨rfl,rfl,rfl⟩ -;rw[hp0];refine zz16 ?_;refine aY 17 Y (fun h17=>?_) (fun h17=>?_)
  ·refine zz11 ?_;refine uAb ?_;rintro _ K _ ⟨rfl,rfl⟩ -;refine zz3 ?_
   first
    |(have hf:∃f0,f=f0+1:=⟨f - 1,by omega⟩;obtain⟨f0,rfl⟩:=hf;refine cM (i+1) ⟨by omega,by omega,f0,by omega,by rw[hi4,lV hc aH]⟩ aH aS Y (fun _ h=>h))
    |exact gAW
    |exact gAL
  refine zz6 ?_;refine aY 17 Y (fun h17=>?_) (fun h17=>?_)
  ·refine zz11 ?_;refine uAb ?_;rintro _ K _ ⟨rfl,rfl⟩ -;refine zz3 ?_
   first
    |(have hf:∃f0,f=f0+1:=⟨f - 1,by omega⟩;obtain⟨f0,rfl⟩:=hf;refine cM (i+1) ⟨by omega,by omega,f0,by omega,by rw[hi4,lV hc aH]⟩ aH aS Y (fun _ h=>h))
    |exact gAW
    |exact gAL
  refine zz6 ?_;refine aY 17 Y (fun h17=>?_) (fun h17=>?_)
  ·refine zz11 ?_;refine uAb ?_;rintro _ K _ ⟨rfl,rfl⟩ -;refine zz3 ?_
   first
    |(have hf:∃f0,f=f0+1:=⟨f - 1,by omega⟩;obtain⟨f0,rfl⟩:=hf;refine cM (i+1) ⟨by omega,by omega,f0,by omega,by rw[hi4,lV hc aH]⟩ aH aS Y (fun _ h=>h))
    |exact gAW
    |exact gAL
  refine zz5 ?_;refine aY 17 Y (fun h17=>?_) (fun h17=>?_)
  ·refine zz8 ?_;refine uAb ?_;rintro _ K _ ⟨rfl,rfl⟩ -;refine zz3 ?_
   first
    |(have hf:∃f0,f=f0+1:=⟨f - 1,by omega⟩;obtain⟨f0,rfl⟩:=hf;refine cM (i+1) ⟨by omega,by omega,f0,by omega,by rw[hi4,lV hc aH]⟩ aH aS Y (fun _ h=>h))
    |exact gAW
    |exact gAL
  refine zz6 ?_;refine aY 29 Y (fun h29=>?_) (fun h29=>?_)
  ·refine zz2 ?_;refine bA Y Y (wN b T s i wk ws wn wa rest 214 (fun c=>decide (¬c.toNat=10)) hs aH _ (fun c=>aUE c _)) bS Y ?_;rintro _ K _ ⟨rfl,rfl,rfl⟩ -;refine zz3 ?_
   first
    |(have hf:∃f0,f=f0+1:=⟨f - 1,by omega⟩;obtain⟨f0,rfl⟩:=hf;refine cM (i+1) ⟨by omega,by omega,f0,by omega,by rw[hi4,lV hc aH]⟩ aH aS Y (fun _ h=>h))
    |exact gAW
    |exact gAL
  refine zz6 ?_;refine aY 33 Y (fun h33=>?_) (fun h33=>?_)
  ·refine aI ?_;refine cZ (anc:=[0,1,3,7,0,16,48,112,240,0,512,1536,3584,7680,16368,32767,65535,131071]) (ord:=[0,1,2,3,4,5,6,7,8,9,10,11,12,13,14,15,16,17]) [16] [] mixed gC5 (cQ _) (zz15 ?_);refine aJ Y Y (.none Y) Y Y (l6 (m:=min (i+2) s.length) Tryz.underlying9 Y Y gEQ aH) Y ?_;refine iL Y (.none Y) Y Y Y Y (index_spec _ _ _ hg gC7) Y (zz7 ?_);refine bA Y Y (nQ b T s i 1 wk ws wn wa rest hs aH aH _) bS Y ?_;rintro _ K _ ⟨rfl,rfl,rfl⟩ -;have hix:=xI (s.drop (min (i+2) s.length)) [42,47];simp only[List.length_drop,List.length_cons,List.length_nil]at hix;refine zz3 ?_;refine aY 54 Y (fun h54=>?_) (fun h54=>?_)
   ·refine zz6 ?_;refine jZ Y (xAB _) ?_;have hk:skip s a=.ok i:=by rw[hi4];first|exact u4 aH|exact t8 hc aH aH|exact t7 hc aH
    rw[hk];exact⟨_,Y,Y,Y,Y⟩
   refine zz9 ?_;refine aY 56 Y (fun h56=>?_) (fun h56=>?_)
   ·refine zz5 ?_;refine cA Y Y (iD 2 i _) .nil Y gC6 ?_ ?_
    ·rintro _ _ _ ⟨fb,h,rfl⟩ le1;cases h
     refine uAa ?_;refine zz6 ?_;rw[hi4,aKR hc aH aH h56];exact⟨fb,Y,Y⟩
    rintro _ _ _ ⟨_,h,_⟩;cases h
   refine zz13 ?_;refine uAb ?_;rintro _ K _ ⟨rfl,rfl⟩ -;refine zz3 ?_
   first
    |(have hf:∃f0,f=f0+1:=⟨f - 1,by omega⟩;obtain⟨f0,rfl⟩:=hf;refine cM (i+1) ⟨by omega,by omega,f0,by omega,by rw[hi4,lV hc aH]⟩ aH aS Y (fun _ h=>h))
    |exact gAW
    |exact gAL
  refine zz5 ?_;refine jZ Y (xAB _) ?_;have hk:skip s a=.ok i:=by rw[hi4];first|exact u4 aH|exact t8 hc aH aH|exact t7 hc aH
  rw[hk];exact⟨_,Y,Y,Y,Y⟩
 refine zz5 ?_;have hk:skip s a=.ok i:=by rw[hi4];first|exact u4 aH|exact t8 hc aH aH|exact t7 hc aH
 rw[hk];exact⟨_,Y,Y,Y,Y⟩
def aE9(s:List UInt8)(lo hi add:UInt8)(K:Hl)(hs:s.length≤140737488351232):
    Sp x3 217 [str s,.int .u8 lo.toNat,.int .u8 hi.toNat,.int .u8 add.toNat] K [] (Val (str (s.map (kA lo hi add))) K):=by
  refine bN Tryz.func217 Y Tryz.ntmps217 Y Y fun F w=>?_;refine zz8 ?_;refine uAp ?_;rintro v13 K _ ⟨rfl,rfl⟩ -;refine zz7 ?_;refine uBc ?_;refine zz4 ?_;refine eH (fun(i:Nat)=>i≤s.length) (fun i=>[(1,.int .u8 lo.toNat),(2,.int .u8 hi.toNat),(3,.int .u8 add.toNat),(9,v13),(14,v13),(15,i64 s.length),(16,i64 i)]) (fun _=>_) (fun i=>[sl false (elB 5) v13 (Plain.mp (kA lo hi add) s i)]) (fun i=>s.length - i) 0 (x9 _) aS Y (fun _ h=>by rw[Plain.mp_zero];exact h) ?_;intro i hi0;refine zz6 ?_;refine aY 17 Y (fun h17=>?_) (fun h17=>?_)
  · obtain⟨c,hc⟩:∃c,s[i]?=some c:=⟨s[i]'(by omega),x4 aH⟩;have hlen:i < (Plain.mp (kA lo hi add) s i).length:=by rw[Plain.mp_len];omega
    have hget:=(Plain.mp_get (kA lo hi add) s i).trans hc;refine zz7 ?_;refine aA (aX (k:=(elB 5)) iX Y aL Y Y gDB) Y ?_;refine uBe ?_;refine zz10 ?_;refine bV 24 Y (fun g24=>?_) (fun g24=>?_)
    · refine zz9 ?_;refine aY 28 Y (fun h28=>?_) (fun h28=>?_)
      · refine zz5 ?_;refine aA (aVP c add Y Y) Y ?_;refine aA (aX (k:=(elB 5)) iX Y aL Y Y gDB) Y ?_;refine cD (jG (k:=(elB 5)) (y0:=c+add) ts5 Y Y Y Y gDB bR) ?_;rintro _ K _ ⟨rfl,rfl⟩ -;refine zz7 ?_;refine cM (i+1) aH aH aS Y ?_
        first
          | (have ht : kA lo hi add c = c + add := by (unfold kA; rw [x7 aH])
             rw[←ht,Plain.mp_set hc];exact fun _ h=>h)
          | (have ht : kA lo hi add c = c := by (unfold kA; rw [x5 aH])
             rw[Plain.mp_same hc ht];exact fun _ h=>h)
      refine zz7 ?_;refine cM (i+1) aH aH aS Y ?_
      first
        | (have ht : kA lo hi add c = c + add := by (unfold kA; rw [x7 aH])
           rw[←ht,Plain.mp_set hc];exact fun _ h=>h)
        | (have ht : kA lo hi add c = c := by (unfold kA; rw [x5 aH])
           rw[Plain.mp_same hc ht];exact fun _ h=>h)
    refine zz14 ?_;refine cM (i+1) aH aH aS Y ?_
    first
      | (have ht : kA lo hi add c = c + add := by (unfold kA; rw [x7 aH])
         rw[←ht,Plain.mp_set hc];exact fun _ h=>h)
      | (have ht : kA lo hi add c = c := by (unfold kA; rw [x5 aH])
         rw[Plain.mp_same hc ht];exact fun _ h=>h)
  have hfin:=Plain.mp_end (kA lo hi add) s (i:=i) aH;refine zz8 ?_;refine aA (gC Tryz.underlying142 Tryz.underlying5 Tryz.underlying9 Y aL) Y (zz4 ?_);rw[hfin];refine uAf ?_;refine zz1 ?_;exact⟨Y,Y,Y⟩
def kB(s:List UInt8)(K:Hl)(hs:s.length≤140737488351232):Sp x3 175 [str s] K [] (Val (str (eD s)) K):=by
 refine bN Tryz.func175 Y Tryz.ntmps175 Y Y fun F w=>?_;refine zz8 ?_;refine cN Y Y (aE9 s 65 90 32 _ hs) Y (zz5 ?_);exact⟨Y,Y,Y⟩
def aPN(b:Nat)(T:TypeId)(s:List UInt8)(a:Nat)(wk ws wn:Value)(wat:Int)(rest:List Value)(hs:s.length≤600)(ha:a≤s.length)(K:Hl):
    Sp x3 179 [ptr b] K [lxb b T s a wk ws wn (i64 wat) rest]
      (kH (number s a wat) fun r v K' L'=>v=.tuple #[]∧K'=K∧L'=[lxb b T s r.1 (.int .u8 4) ws (i64 r.2) (i64 wat) rest]):=by
  have hdl:=aJY s a ha;refine bN Tryz.func179 Y Tryz.ntmps179 Y Y fun F w=>?_;refine zz9 ?_;refine bA Y Y (wN b T s a wk ws wn (i64 wat) rest 178 gD hs ha _ (fun c=>r6 c _)) bS Y ?_;rintro _ K _ ⟨rfl,rfl,rfl⟩ -;rw[show List.takeWhile gD (List.drop a s)=eG s a from rfl];have hvd:gB ((eG s a).take 0)=0:=rfl;refine uAp ?_;rintro v7 K _ ⟨rfl,rfl⟩ -;refine uBc ?_;refine zz4 ?_;refine eH (fun(i:Nat)=>i≤(eG s a).length) (fun i=>[(0,ptr b),(2,i64 (gB ((eG s a).take i))),(7,v7),(8,i64 (eG s a).length),(9,i64 i)]) (fun _=>_) (fun i=>[sl false (elB 5) v7 (eG s a),lxb b T s (a+(eG s a).length:Nat) wk ws wn (i64 wat) rest]) (fun i=>(eG s a).length - i) 0 (x9 _) aS Y (fun _ h=>h) ?_;intro i hi0;refine zz6 ?_;refine aY 10 Y (fun h10=>?_) (fun h10=>?_)
  · obtain⟨c,hc⟩:∃c,(eG s a)[i]?=some c:=⟨(eG s a)[i]'(by omega),x4 aH⟩;have hd:=bCQ hc;have hlen:i < (eG s a).length:=by omega
    have hbd:=yU ((eG s a).take i);refine zz6 ?_;refine aA (aX (k:=(elB 5)) iX Y aL Y Y gDB) Y ?_;refine uBe ?_;refine zz7 ?_;refine aA (aBW (m:=c.toNat) (n:=48) aH aH Y Y) Y ?_;refine aA (qZ Tryz.underlying3 Tryz.underlying5 Y aH aH) Y (zz10 ?_);have hup:gB ((eG s a).take (i+1))=_:=wY hc;refine cM (i+1) aH aH (.cons 0 Y (.cons 2 (by rw[hup];rfl) aS)) Y (fun _ h=>h)
  have hfin:(eG s a).take i=eG s a:=xAI aH;have hbd:=yU (eG s a);rw[hfin];refine zz5 ?_;refine dX (fun(_:Unit)=>True) (fun _=>[(0,ptr b),(2,i64 (numN s a))]) (fun _=>K) (fun _=>[lxb b T s (numA s a:Nat) wk ws wn (i64 wat) rest]) ?_ ?_
  · refine zz3 ?_;refine bA Y Y (nQ b T s (a+(eG s a).length) 0 wk ws wn (i64 wat) rest hs aH aH _) bS Y ?_;rintro _ K _ ⟨rfl,rfl,rfl⟩ -;have hcc:(((s[a+(eG s a).length+0]?).getD 0).toNat:Int)=(numC s a:Int):=rfl;rw[hcc];clear hcc;refine zz16 ?_;refine aY 23 Y (fun h23=>?_) (fun h23=>?_)
    · refine zz31 ?_;refine uAb ?_;rintro _ K _ ⟨rfl,rfl⟩ -;refine zz4 ?_
      first
        | (have eN : numN s a = gB (eG s a) * 1024 * 1024 := gEG
           have eA:numA s a=a+(eG s a).length+1:=gD8;refine uAa ?_;refine a8 () trivial (.cons 0 Y (.cons 2 gED .nil)) Y gDM)
        | (have eN : numN s a = gB (eG s a) * 1024 := gD3
           have eA:numA s a=a+(eG s a).length+1:=gD8;refine uAa ?_;refine a8 () trivial (.cons 0 Y (.cons 2 gED .nil)) Y gDM)
        | (have eN : numN s a = gB (eG s a) := gD4
           have eA:numA s a=a+(eG s a).length:=gFG;refine uAa ?_;refine a8 () trivial (.cons 0 Y (.cons 2 gED .nil)) Y gDM)
    refine zz5 ?_;refine aY 23 Y (fun h23=>?_) (fun h23=>?_)
    · refine zz28 ?_;refine uAb ?_;rintro _ K _ ⟨rfl,rfl⟩ -;refine zz4 ?_
      first
        | (have eN : numN s a = gB (eG s a) * 1024 * 1024 := gEG
           have eA:numA s a=a+(eG s a).length+1:=gD8;refine uAa ?_;refine a8 () trivial (.cons 0 Y (.cons 2 gED .nil)) Y gDM)
        | (have eN : numN s a = gB (eG s a) * 1024 := gD3
           have eA:numA s a=a+(eG s a).length+1:=gD8;refine uAa ?_;refine a8 () trivial (.cons 0 Y (.cons 2 gED .nil)) Y gDM)
        | (have eN : numN s a = gB (eG s a) := gD4
           have eA:numA s a=a+(eG s a).length:=gFG;refine uAa ?_;refine a8 () trivial (.cons 0 Y (.cons 2 gED .nil)) Y gDM)
    refine zz9 ?_;refine aY 26 Y (fun h26=>?_) (fun h26=>?_)
    · refine zz25 ?_;refine uAb ?_;rintro _ K _ ⟨rfl,rfl⟩ -;refine zz4 ?_
      first
        | (have eN : numN s a = gB (eG s a) * 1024 * 1024 := gEG
           have eA:numA s a=a+(eG s a).length+1:=gD8;refine uAa ?_;refine a8 () trivial (.cons 0 Y (.cons 2 gED .nil)) Y gDM)
        | (have eN : numN s a = gB (eG s a) * 1024 := gD3
           have eA:numA s a=a+(eG s a).length+1:=gD8;refine uAa ?_;refine a8 () trivial (.cons 0 Y (.cons 2 gED .nil)) Y gDM)
        | (have eN : numN s a = gB (eG s a) := gD4
           have eA:numA s a=a+(eG s a).length:=gFG;refine uAa ?_;refine a8 () trivial (.cons 0 Y (.cons 2 gED .nil)) Y gDM)
    refine zz5 ?_;refine aY 26 Y (fun h26=>?_) (fun h26=>?_)
    · refine zz22 ?_;refine uAb ?_;rintro _ K _ ⟨rfl,rfl⟩ -;refine zz4 ?_
      first
        | (have eN : numN s a = gB (eG s a) * 1024 * 1024 := gEG
           have eA:numA s a=a+(eG s a).length+1:=gD8;refine uAa ?_;refine a8 () trivial (.cons 0 Y (.cons 2 gED .nil)) Y gDM)
        | (have eN : numN s a = gB (eG s a) * 1024 := gD3
           have eA:numA s a=a+(eG s a).length+1:=gD8;refine uAa ?_;refine a8 () trivial (.cons 0 Y (.cons 2 gED .nil)) Y gDM)
        | (have eN : numN s a = gB (eG s a) := gD4
           have eA:numA s a=a+(eG s a).length:=gFG;refine uAa ?_;refine a8 () trivial (.cons 0 Y (.cons 2 gED .nil)) Y gDM)
    refine zz8 ?_
    first
      | (have eN : numN s a = gB (eG s a) * 1024 * 1024 := gEG
         have eA:numA s a=a+(eG s a).length+1:=gD8;refine uAa ?_;refine a8 () trivial (.cons 0 Y (.cons 2 gED .nil)) Y gDM)
      | (have eN : numN s a = gB (eG s a) * 1024 := gD3
         have eA:numA s a=a+(eG s a).length+1:=gD8;refine uAa ?_;refine a8 () trivial (.cons 0 Y (.cons 2 gED .nil)) Y gDM)
      | (have eN : numN s a = gB (eG s a) := gD4
         have eA:numA s a=a+(eG s a).length:=gFG;refine uAa ?_;refine a8 () trivial (.cons 0 Y (.cons 2 gED .nil)) Y gDM)
  intro _ _;have hnA:numA s a≤s.length:=aMU s a ha;refine zz4 ?_;refine bA Y Y (nQ b T s (numA s a) 0 wk ws wn (i64 wat) rest hs aH aH _) bS Y ?_;rintro _ K _ ⟨rfl,rfl,rfl⟩ -;refine cN Y Y (tT ((s[numA s a]?).getD 0) _) Y (zz2 ?_);refine d9 42 Y (fun h42=>?_) (fun h42=>?_)
  · refine zz6 ?_;refine cA Y Y (iD 2 wat _) .nil Y gC6 ?_ ?_
    · rintro _ _ _ ⟨fb,h,rfl⟩ le1;cases h
      refine uAa ?_;refine zz2 ?_;unfold number;rw[x7 h42];exact⟨fb,Y,Y⟩
    rintro _ _ _ ⟨_,h,_⟩;cases h
  refine zz9 ?_;refine aY 50 Y (fun h50=>?_) (fun h50=>?_)
  · refine zz6 ?_;refine cA Y Y (iD 3 wat _) .nil Y gC6 ?_ ?_
    · rintro _ _ _ ⟨fb,h,rfl⟩ le1;cases h
      refine uAa ?_;refine zz2 ?_;unfold number;rw[x5 (by simp[h42]),x7 h50];exact⟨fb,Y,Y⟩
    rintro _ _ _ ⟨_,h,_⟩;cases h
  refine zz9 ?_;refine cD (bX pV Y Y dA bR aZe Y) ?_;rintro _ K _ ⟨rfl,rfl⟩ -;refine zz3 ?_;refine uAb ?_;rintro _ K _ ⟨rfl,rfl⟩ -;refine zz2 ?_;unfold number;rw[x5 (by simp[h42]),x5 aH];exact⟨_,Y,Y,Y,Y⟩
end Go.Proofs
end
section
attribute [local irreducible] Go.SL.T Go.SL.OL Go.SL.D Go.SL.DL Go.SL.Ev Go.SL.Ef Go.SL.EfS
namespace Go.Proofs
open Go Go.SL
def wM:unsB x3 144 2=true:=cY
def aJS:x3.cellsOf 5=1:=cY
abbrev aBF(b:Nat)(q:Bool)(v:Value):Asn:=pt b (bL [if q then ptr b else .pointer none,v] 144)
abbrev bldr(b:Nat)(xs:List UInt8):Asn:=exA fun v:Value=>[exA fun q:Bool=>[aBF b q v],sl true (elB 5) v xs]
def bBZ(b:Nat):∀h,pt b (bL [.pointer none,.slice none 0 0] 144) h→Sat [bldr b []] h:=by
 intro h hh;refine oL.2 ⟨.slice none 0 0,oL.2 ⟨false,h,.emp,hh,⟨.emp,.emp,.inl ⟨Y,Y,Y⟩,Y,Hl.dj_emp _,(Hl.join_emp _).symm⟩,Hl.dj_emp _,(Hl.join_emp _).symm⟩⟩
def aC3(b:Nat)(v:Value)(xs:List UInt8):∀h,Sat [aBF b true v,sl true (elB 5) v xs] h→Sat [bldr b xs] h:=by
 intro h hh;exact oL.2 ⟨v,oL.2 ⟨true,hh⟩⟩
def aJO(b:Nat):∀h,pt b (bL [.pointer none,.slice none 0 0] 144) h→bldr b [] h:=by
 intro h hh;obtain⟨a,l,ha,hl,hd,he⟩:=bBZ b h hh;rw[he,show l=.emp from hl,Hl.join_emp];exact ha
def eM{A B:Asn}{M:List Asn}(k:∀h,A h→B h):∀h,Sat (A::M) h→Sat (B::M) h:=fun h ⟨a,l,ha,hl,hd,he⟩=>⟨a,l,k a ha,hl,hd,he⟩
def o6(b:Nat)(q:Bool)(v:Value)(K:Hl):Sp x3 140 [ptr b] K [aBF b q v] (Ret fun u K' L'=>u=.tuple #[]∧K'=K∧L'=[aBF b true v]):=by
 cases q with
 |true=>
  refine bN Tryz.func140 Y Tryz.ntmps140 Y Y fun F w=>?_;refine zz17 ?_;refine aA (aEN Tryz.underlying141 wM Y Y) Y (zz5 ?_);exact⟨_,Y,Y,Y,Y⟩
 |false=>
  refine bN Tryz.func140 Y Tryz.ntmps140 Y Y fun F w=>?_;refine zz13 ?_;refine aA (aOS Tryz.underlying141 Tryz.underlying176 Y (.own .here) wM) Y ?_;refine aA (n8 Y Y Tryz.func200 cY cY cY (ex:=Extern.AbiNoEscape.same) cY (fun _ _=>Y)) Y ?_;refine aA (aI8 Tryz.underlying176 Tryz.underlying141 Y (.own .here) wM) Y (zz2 ?_);refine cD (bX aE8 Y Y dA bR .zero Y) ?_;rintro _ K _ ⟨rfl,rfl⟩ -;refine zz2 ?_;exact⟨_,Y,Y,Y,Y⟩
def mL(b:Nat)(c:UInt8)(xs:List UInt8)(hn:xs.length≤140737488351232)(K:Hl):Sp x3 216 [ptr b,.int .u8 c.toNat] K [bldr b xs] (Ret fun u K' L'=>u=.nilIface∧K'=K∧L'=[bldr b (xs++[c])]):=by
 refine bN Tryz.func216 Y Tryz.ntmps216 Y Y fun F w=>?_;refine u5 fun v=>u5 fun q=>?_;refine zz8 ?_;refine bA Y Y (o6 b q v _) bS Y ?_;rintro _ K _ ⟨rfl,rfl,rfl⟩ -;refine zz10 ?_;refine cJ (bM (z0:=[.int .u8 0]) iX tz5 Y Y Y Y dF) Y ?_;rintro _ K _ ⟨b13,rfl,rfl,rfl⟩ -;refine cJ (dQ (k:=(elB 5)) (ys:=[c]) rF Y Y bR (fun w j=>dJ Tryz.underlying142 (SeesSl.at (.blk aL Y Y) j)) gC9 gC9) Y ?_;rintro v14 K _ ⟨rfl,rfl,ho14⟩ -;refine zz2 ?_;refine cD (bX kE Y Y dA bR aZe Y) ?_;rintro _ K _ ⟨rfl,rfl⟩ -;refine zz8 ?_;refine uAj ?_;refine cS (aC3 b v14 (xs++[c])) (zz1 ?_);exact⟨_,Y,Y,Y,Y⟩
def rY(b:Nat)(xs:List UInt8)(hn:xs.length≤140737488351232)(K:Hl):Sp x3 73 [ptr b] K [bldr b xs] (Ret fun u K' L'=>u=str xs∧K'=K∧L'=[]):=by
 refine bN Tryz.func73 Y Tryz.ntmps73 Y Y fun F w=>?_;refine u5 fun v=>u5 fun q=>?_;refine zz6 ?_;refine cZ (anc:=[0,1,3,7,15,0,32,96,224,480,1023,2047]) (ord:=[0,1,2,3,4,5,6,7,8,9,10,11]) [10] [10] mixed gC5 (cQ _) (zz4 ?_);refine aJ Y Y (.none Y) Y Y (aBV (e:=5) Y (.there .here)) Y (zz4 ?_);refine aJ Y Y (.none Y) Y Y (bU (k:=(elB 5)) Y Tryz.underlying142 Y aL) Y ?_;refine aXM Y Y (.none Y) Y (xX (e:=5) Y Tryz.underlying201 aJS aH Y Y (.there .here)) Y ?_;rintro _ K _ ⟨rfl,rfl,rfl⟩ -;refine zz4 ?_;refine uAf ?_;refine zz1 ?_;exact⟨_,Y,Y,Y,Y⟩
end Go.Proofs
end
section
attribute [local irreducible] Go.SL.T Go.SL.OL Go.SL.D Go.SL.DL Go.SL.Ev Go.SL.Ef Go.SL.EfS
namespace Go.Proofs
open Go Go.SL Go.Syn
def aP0(b:Nat)(T:TypeId)(s:List UInt8)(a:Nat)(wk ws wn:Value)(wat:Int)(rest:List Value)(hs:s.length≤600)(ha:a < s.length)(K:Hl):
  Sp x3 172 [ptr b] K [lxb b T s a wk ws wn (i64 wat) rest]
   (kH (Syn.quoted s a wat) fun r v K' L'=>v=.tuple #[]∧K'=K∧L'=[lxb b T s r.1 (.int .u8 3) (str r.2) wn (i64 wat) rest]):=by
 refine bN Tryz.func172 Y Tryz.ntmps172 Y Y fun F w=>?_;refine zz3 ?_;rintro _ K _ ⟨b2,rfl,rfl,rfl⟩ -;refine zz12 ?_;refine uAb ?_;rintro _ K _ ⟨rfl,rfl⟩ -;refine zz3 ?_;refine iR (fun(i:Nat) (acc:List UInt8)=>a+1≤i∧i≤s.length∧acc.length≤i∧∃f,s.length+2≤i+(f+1)∧Syn.quoted s a wat=jC s wat (f+1) i acc) (fun i acc=>[(0,ptr b),(2,ptr b2)]) (fun _ _=>K) (fun i acc=>[bldr b2 acc,lxb b T s i wk ws wn (i64 wat) rest]) (fun i acc=>s.length - i) (a+1) [] ⟨by omega,by omega,by simp,s.length - a,by omega,by unfold Syn.quoted;congr 1;omega⟩ aS Y (eM (aJO b2)) ?_;intro i acc ⟨hi1,hi2,hi3,f,hi4,hi5⟩;refine zz5 ?_;refine bA Y Y (nQ b T s i 0 wk ws wn (i64 wat) rest hs aH aH _) bS Y ?_;rintro _ K _ ⟨rfl,rfl,rfl⟩ -;rw[Nat.add_zero];have hz:i < s.length∨((s[i]?).getD 0).toNat=0:=(by by_cases h:i < s.length;exact .inl h;right;rw[xAD aH];rfl);refine zz5 ?_;refine cZ (anc:=[0,1,3,7,0,16,48,112,240,511,1023,2047,4095,8191]) (ord:=[0,1,2,3,4,5,6,7,8,9,10,11,12,13]) [] [] mixed gC5 (cQ _) (zz11 ?_);refine fC 30 Y (fun g30=>?_) (fun g30=>?_)
 ·refine zz5 ?_;refine aY 33 Y (fun h33=>?_) (fun h33=>?_)
  ·refine zz16 ?_;refine uAb ?_;rintro _ K _ ⟨rfl,rfl⟩ -;refine zz5 ?_;refine bA Y Y (rY b2 acc aH _) bS Y ?_;rintro _ K _ ⟨rfl,rfl,rfl⟩ -;refine zz3 ?_;refine cD (bX pV Y Y dA bR aZe Y) ?_;rintro _ K _ ⟨rfl,rfl⟩ -;refine zz3 ?_;refine uAi ?_;rintro _ K _ ⟨rfl,rfl⟩ -;refine zz2 ?_;rw[hi5,aEW aH aH];exact⟨_,Y,Y,Y,Y⟩
  refine zz9 ?_;refine aY 35 Y (fun h35=>?_) (fun h35=>?_)
  ·refine zz9 ?_;refine uAb ?_;rintro _ K _ ⟨rfl,rfl⟩ -;refine zz4 ?_;refine bA Y Y (nQ b T s (i+1) 0 wk ws wn (i64 wat) rest hs aH aH _) bS Y ?_;rintro _ K _ ⟨rfl,rfl,rfl⟩ -;rw[Nat.add_zero];refine zz5 ?_;refine cZ (anc:=[0,1,3,7,0,16,48,112,240,511]) (ord:=[0,1,2,3,4,5,6,7,8,9]) [] [] mixed gC5 (cQ _) (zz12 ?_);refine aY 54 Y (fun h54=>?_) (fun h54=>?_)
   ·refine zz6 ?_;refine cA Y Y (iD 2 wat _) .nil Y gC6 ?_ ?_
    ·rintro _ _ _ ⟨fb,h,rfl⟩ le1;cases h
     refine uAa ?_;refine zz7 ?_
     first
      |rw[hi5,oE aH aH aH]
      |rw[hi5,nT aH aH aH]
     exact⟨fb,Y,Y⟩
    rintro _ _ _ ⟨_,h,_⟩;cases h
   refine zz4 ?_;refine bA Y Y (mL b2 _ acc aH _) bS Y ?_;rintro _ K _ ⟨rfl,rfl,rfl⟩ -;refine zz11 ?_;refine uAb ?_;rintro _ K _ ⟨rfl,rfl⟩ -;refine aG ?_;obtain⟨f0,rfl⟩:∃f0,f=f0+1:=⟨f - 1,by omega⟩
   first
    |refine cW (i+1) (acc++[(s[i]?).getD 0]) ⟨by omega,by omega,by simp;omega,f0,by omega,by rw[hi5,nS aH aH aH]⟩ aH aS Y (fun _ h=>h)
    |refine cW (i+2) (acc++[(s[i+1]?).getD 0]) ⟨by omega,by omega,by simp;omega,f0,by omega,by rw[hi5,oZ aH aH aH]⟩ aH aS Y (fun _ h=>h)
  refine zz4 ?_;refine cZ (anc:=[0,1,3,7,0,16,48,112,240,511]) (ord:=[0,1,2,3,4,5,6,7,8,9]) [] [] mixed gC5 (cQ _) (zz12 ?_);refine aY 54 Y (fun h54=>?_) (fun h54=>?_)
  ·refine zz6 ?_;refine cA Y Y (iD 2 wat _) .nil Y gC6 ?_ ?_
   ·rintro _ _ _ ⟨fb,h,rfl⟩ le1;cases h
    refine uAa ?_;refine zz7 ?_
    first
     |rw[hi5,oE aH aH aH]
     |rw[hi5,nT aH aH aH]
    exact⟨fb,Y,Y⟩
   rintro _ _ _ ⟨_,h,_⟩;cases h
  refine zz4 ?_;refine bA Y Y (mL b2 _ acc aH _) bS Y ?_;rintro _ K _ ⟨rfl,rfl,rfl⟩ -;refine zz11 ?_;refine uAb ?_;rintro _ K _ ⟨rfl,rfl⟩ -;refine aG ?_;obtain⟨f0,rfl⟩:∃f0,f=f0+1:=⟨f - 1,by omega⟩
  first
   |refine cW (i+1) (acc++[(s[i]?).getD 0]) ⟨by omega,by omega,by simp;omega,f0,by omega,by rw[hi5,nS aH aH aH]⟩ aH aS Y (fun _ h=>h)
   |refine cW (i+2) (acc++[(s[i+1]?).getD 0]) ⟨by omega,by omega,by simp;omega,f0,by omega,by rw[hi5,oZ aH aH aH]⟩ aH aS Y (fun _ h=>h)
 refine zz15 ?_;refine aY 35 Y (fun h35=>?_) (fun h35=>?_)
 ·refine zz9 ?_;refine uAb ?_;rintro _ K _ ⟨rfl,rfl⟩ -;refine zz4 ?_;refine bA Y Y (nQ b T s (i+1) 0 wk ws wn (i64 wat) rest hs aH aH _) bS Y ?_;rintro _ K _ ⟨rfl,rfl,rfl⟩ -;rw[Nat.add_zero];refine zz5 ?_;refine cZ (anc:=[0,1,3,7,0,16,48,112,240,511]) (ord:=[0,1,2,3,4,5,6,7,8,9]) [] [] mixed gC5 (cQ _) (zz12 ?_);refine aY 54 Y (fun h54=>?_) (fun h54=>?_)
  ·refine zz6 ?_;refine cA Y Y (iD 2 wat _) .nil Y gC6 ?_ ?_
   ·rintro _ _ _ ⟨fb,h,rfl⟩ le1;cases h
    refine uAa ?_;refine zz7 ?_
    first
     |rw[hi5,oE aH aH aH]
     |rw[hi5,nT aH aH aH]
    exact⟨fb,Y,Y⟩
   rintro _ _ _ ⟨_,h,_⟩;cases h
  refine zz4 ?_;refine bA Y Y (mL b2 _ acc aH _) bS Y ?_;rintro _ K _ ⟨rfl,rfl,rfl⟩ -;refine zz11 ?_;refine uAb ?_;rintro _ K _ ⟨rfl,rfl⟩ -;refine aG ?_;obtain⟨f0,rfl⟩:∃f0,f=f0+1:=⟨f - 1,by omega⟩
  first
   |refine cW (i+1) (acc++[(s[i]?).getD 0]) ⟨by omega,by omega,by simp;omega,f0,by omega,by rw[hi5,nS aH aH aH]⟩ aH aS Y (fun _ h=>h)
   |refine cW (i+2) (acc++[(s[i+1]?).getD 0]) ⟨by omega,by omega,by simp;omega,f0,by omega,by rw[hi5,oZ aH aH aH]⟩ aH aS Y (fun _ h=>h)
 refine zz4 ?_;refine cZ (anc:=[0,1,3,7,0,16,48,112,240,511]) (ord:=[0,1,2,3,4,5,6,7,8,9]) [] [] mixed gC5 (cQ _) (zz12 ?_);refine aY 54 Y (fun h54=>?_) (fun h54=>?_)
 ·refine zz6 ?_;refine cA Y Y (iD 2 wat _) .nil Y gC6 ?_ ?_
  ·rintro _ _ _ ⟨fb,h,rfl⟩ le1;cases h
   refine uAa ?_;refine zz7 ?_
   first
    |rw[hi5,oE aH aH aH]
    |rw[hi5,nT aH aH aH]
   exact⟨fb,Y,Y⟩
  rintro _ _ _ ⟨_,h,_⟩;cases h
 refine zz4 ?_;refine bA Y Y (mL b2 _ acc aH _) bS Y ?_;rintro _ K _ ⟨rfl,rfl,rfl⟩ -;refine zz11 ?_;refine uAb ?_;rintro _ K _ ⟨rfl,rfl⟩ -;refine aG ?_;obtain⟨f0,rfl⟩:∃f0,f=f0+1:=⟨f - 1,by omega⟩
 first
  |refine cW (i+1) (acc++[(s[i]?).getD 0]) ⟨by omega,by omega,by simp;omega,f0,by omega,by rw[hi5,nS aH aH aH]⟩ aH aS Y (fun _ h=>h)
  |refine cW (i+2) (acc++[(s[i+1]?).getD 0]) ⟨by omega,by omega,by simp;omega,f0,by omega,by rw[hi5,oZ aH aH aH]⟩ aH aS Y (fun _ h=>h)
def kG{α:Type}(p:α→Bool)(s:List α)(i:Nat)(h:i≤s.length):i+((s.drop i).takeWhile p).length≤s.length:=by
 have:=(List.takeWhile_sublist p (l:=s.drop i)).length_le;simp only[List.length_drop]at this;omega
def bF9(s:List UInt8):∀(f i j:Nat),i≤s.length→mC s f i=.ok j→i≤j∧j≤s.length:=by
 intro f;induction f with
 |zero=>intro i j hi h;simp only[mC]at h;cases h;exact⟨xAA _,hi⟩
 |succ f ih=>
  intro i j hi h;simp only[mC]at h;split at h
  ·cases h;exact⟨xAA _,hi⟩
  rename_i c hc;have hlt:i < s.length:=by
   rcases xAC i s.length with h'|h'
   ·exact h'
   simp[List.getElem?_eq_none h']at hc
  split at h
  ·have:=ih _ _ aH h;omega
  split at h
  ·have:=kG (fun c:UInt8=>decide (¬c.toNat=10)) s i hi;have:=ih _ _ aH h;omega
  split at h
  ·split at h
   ·cases h;exact⟨xAA _,hi⟩
   split at h
   ·cases h
   rename_i hx;have hix:=xI (s.drop (min (i+2) s.length)) [42,47];simp only[List.length_drop,List.length_cons,List.length_nil]at hix;have:=ih _ _ aH h;omega
  cases h;exact⟨xAA _,hi⟩
def aCP{s:List UInt8}{a a1:Nat}(ha:a≤s.length)(h:skip s a=.ok a1):a≤a1∧a1≤s.length:=bF9 s _ _ _ ha h
abbrev lxw(b:Nat)(T:TypeId)(s:List UInt8)(a:Nat)(w:Word)(rest:List Value):Asn:=lxb b T s a (.int .u8 w.kind) (str w.s) (i64 w.n) (i64 w.at_) rest
def fN(b:Nat)(T:TypeId)(s:List UInt8)(a:Nat)(wk ws wn wa:Value)(rest:List Value)(hs:s.length≤600)(ha:a≤s.length)(K:Hl)(hg:Glob K):
    Sp x3 110 [ptr b] K [lxb b T s a wk ws wn wa rest]
      (kH (Syn.next s a) fun r v K' L'=>v=.tuple #[]∧K'=K∧L'=[lxw b T s r.1 r.2 rest]):=by
  refine bN Tryz.func110 Y Tryz.ntmps110 Y Y fun F w=>?_;refine zz3 ?_;refine cA Y Y (bAN b T s a wk ws wn wa rest hs ha _ hg) bS Y (fun _ _=>cF _ _) ?_ ?_
  · rintro _ _ _ hT le1;obtain⟨e,p,hr,fb,h,rfl⟩:=cG hT;cases h
    refine uAa ?_;refine zz2 ?_;have hn:Syn.next s a=.error (e,p):=(by unfold Syn.next;rw[hr]);rw[hn];exact⟨fb,Y,Y⟩
  rintro _ K _ hT -;obtain⟨a1,hr0,rfl,rfl,rfl⟩:=cH hT;have ha1:=(aCP ha hr0).2;refine zz9 ?_;refine aA (dG aWP aNO dF) Y (zz2 ?_);refine cD (cX sC Y Y Y bR gC1 (.skip (.skip (.cons (.cons (.cons (.cons .nil)))))) gC8) ?_;rintro _ K _ ⟨rfl,rfl⟩ -;refine zz4 ?_;refine cZ (anc:=[0,1,3,7,0,16,48,112,240,511]) (ord:=[0,1,2,3,4,5,6,7,8,9]) [] [] mixed gC5 (cQ _) (zz12 ?_);refine aY 22 Y (fun h22=>?_) (fun h22=>?_)
  · have hn:Syn.next s a=.ok (a1,⟨0,[],0,a1⟩):=(by simp only[Syn.next,hr0];rw[xAD aH]);refine zz2 ?_;refine jZ Y (xAB _) ?_;rw[hn];exact⟨_,Y,Y,Y,Y⟩
  obtain⟨c,hc⟩:∃c,s[a1]?=some c:=⟨s[a1]'(by omega),x4 aH⟩;have hn:Syn.next s a=kX s a1 c:=(by simp only[Syn.next,hr0,hc]);have hp0:((s[a1+0]?).getD 0)=c:=by rw[Nat.add_zero,hc];rfl
  refine zz5 ?_;refine bA Y Y (nQ b T s a1 0 _ _ _ _ rest hs aH aH _) bS Y ?_;rintro _ K _ ⟨rfl,rfl,rfl⟩ -;rw[hp0];refine zz9 ?_;refine dX (fun(_:Unit)=>True) (fun _=>[(0,ptr b),(2,.int .u8 c.toNat),(25,.int .u8 c.toNat),(50,.bool (dD c))]) (fun _=>K) (fun _=>[lxb b T s a1 (.int .u8 0) (str []) (i64 0) (i64 a1) rest]) ?_ ?_
  · refine zz6 ?_;refine aY 50 Y (fun h50=>?_) (fun h50=>?_)
    · refine aW ?_
      first
        | (have hb : dD c = decide ((c.toNat : Int) = 93) := gDI
           exact a8 () trivial (.cons 0 Y (.cons 2 Y (.cons 25 Y (.cons 50 gDT .nil)))) Y (fun _ h=>h))
        | (have hb : dD c = true := gDC
           exact a8 () trivial (.cons 0 Y (.cons 2 Y (.cons 25 Y (.cons 50 gDT .nil)))) Y (fun _ h=>h))
        | (have hb : dD c = false := gDW
           exact a8 () trivial (.cons 0 Y (.cons 2 Y (.cons 25 Y (.cons 50 gDT .nil)))) Y (fun _ h=>h))
    refine zz6 ?_;refine aY 50 Y (fun h50=>?_) (fun h50=>?_)
    · refine aW ?_
      first
        | (have hb : dD c = decide ((c.toNat : Int) = 93) := gDI
           exact a8 () trivial (.cons 0 Y (.cons 2 Y (.cons 25 Y (.cons 50 gDT .nil)))) Y (fun _ h=>h))
        | (have hb : dD c = true := gDC
           exact a8 () trivial (.cons 0 Y (.cons 2 Y (.cons 25 Y (.cons 50 gDT .nil)))) Y (fun _ h=>h))
        | (have hb : dD c = false := gDW
           exact a8 () trivial (.cons 0 Y (.cons 2 Y (.cons 25 Y (.cons 50 gDT .nil)))) Y (fun _ h=>h))
    refine zz6 ?_;refine aY 50 Y (fun h50=>?_) (fun h50=>?_)
    · refine aW ?_
      first
        | (have hb : dD c = decide ((c.toNat : Int) = 93) := gDI
           exact a8 () trivial (.cons 0 Y (.cons 2 Y (.cons 25 Y (.cons 50 gDT .nil)))) Y (fun _ h=>h))
        | (have hb : dD c = true := gDC
           exact a8 () trivial (.cons 0 Y (.cons 2 Y (.cons 25 Y (.cons 50 gDT .nil)))) Y (fun _ h=>h))
        | (have hb : dD c = false := gDW
           exact a8 () trivial (.cons 0 Y (.cons 2 Y (.cons 25 Y (.cons 50 gDT .nil)))) Y (fun _ h=>h))
    refine zz6 ?_;refine aY 50 Y (fun h50=>?_) (fun h50=>?_)
    · refine aW ?_
      first
        | (have hb : dD c = decide ((c.toNat : Int) = 93) := gDI
           exact a8 () trivial (.cons 0 Y (.cons 2 Y (.cons 25 Y (.cons 50 gDT .nil)))) Y (fun _ h=>h))
        | (have hb : dD c = true := gDC
           exact a8 () trivial (.cons 0 Y (.cons 2 Y (.cons 25 Y (.cons 50 gDT .nil)))) Y (fun _ h=>h))
        | (have hb : dD c = false := gDW
           exact a8 () trivial (.cons 0 Y (.cons 2 Y (.cons 25 Y (.cons 50 gDT .nil)))) Y (fun _ h=>h))
    refine zz6 ?_;refine aY 50 Y (fun h50=>?_) (fun h50=>?_)
    · refine aW ?_
      first
        | (have hb : dD c = decide ((c.toNat : Int) = 93) := gDI
           exact a8 () trivial (.cons 0 Y (.cons 2 Y (.cons 25 Y (.cons 50 gDT .nil)))) Y (fun _ h=>h))
        | (have hb : dD c = true := gDC
           exact a8 () trivial (.cons 0 Y (.cons 2 Y (.cons 25 Y (.cons 50 gDT .nil)))) Y (fun _ h=>h))
        | (have hb : dD c = false := gDW
           exact a8 () trivial (.cons 0 Y (.cons 2 Y (.cons 25 Y (.cons 50 gDT .nil)))) Y (fun _ h=>h))
    refine zz6 ?_;refine aY 50 Y (fun h50=>?_) (fun h50=>?_)
    · refine aW ?_
      first
        | (have hb : dD c = decide ((c.toNat : Int) = 93) := gDI
           exact a8 () trivial (.cons 0 Y (.cons 2 Y (.cons 25 Y (.cons 50 gDT .nil)))) Y (fun _ h=>h))
        | (have hb : dD c = true := gDC
           exact a8 () trivial (.cons 0 Y (.cons 2 Y (.cons 25 Y (.cons 50 gDT .nil)))) Y (fun _ h=>h))
        | (have hb : dD c = false := gDW
           exact a8 () trivial (.cons 0 Y (.cons 2 Y (.cons 25 Y (.cons 50 gDT .nil)))) Y (fun _ h=>h))
    refine zz6 ?_;refine aY 50 Y (fun h50=>?_) (fun h50=>?_)
    · refine aW ?_
      first
        | (have hb : dD c = decide ((c.toNat : Int) = 93) := gDI
           exact a8 () trivial (.cons 0 Y (.cons 2 Y (.cons 25 Y (.cons 50 gDT .nil)))) Y (fun _ h=>h))
        | (have hb : dD c = true := gDC
           exact a8 () trivial (.cons 0 Y (.cons 2 Y (.cons 25 Y (.cons 50 gDT .nil)))) Y (fun _ h=>h))
        | (have hb : dD c = false := gDW
           exact a8 () trivial (.cons 0 Y (.cons 2 Y (.cons 25 Y (.cons 50 gDT .nil)))) Y (fun _ h=>h))
    refine zz4 ?_
    first
      | (have hb : dD c = decide ((c.toNat : Int) = 93) := gDI
         exact a8 () trivial (.cons 0 Y (.cons 2 Y (.cons 25 Y (.cons 50 gDT .nil)))) Y (fun _ h=>h))
      | (have hb : dD c = true := gDC
         exact a8 () trivial (.cons 0 Y (.cons 2 Y (.cons 25 Y (.cons 50 gDT .nil)))) Y (fun _ h=>h))
      | (have hb : dD c = false := gDW
         exact a8 () trivial (.cons 0 Y (.cons 2 Y (.cons 25 Y (.cons 50 gDT .nil)))) Y (fun _ h=>h))
  intro _ _;refine d9 50 Y (fun h50=>?_) (fun h50=>?_)
  · refine zz5 ?_;have hc128:=bJT h50;refine aA (aL5 Tryz.underlying5 Tryz.underlying9 Y gDB) Y (zz3 ?_);refine cD (bX pV Y Y dA bR aZe Y) ?_;rintro _ K _ ⟨rfl,rfl⟩ -;refine zz3 ?_;refine uAi ?_;rintro _ K _ ⟨rfl,rfl⟩ -;refine zz10 ?_;refine uAb ?_;rintro _ K _ ⟨rfl,rfl⟩ -;refine zz3 ?_;rw[hn];unfold kX;rw[x7 h50];exact⟨_,Y,Y,Y,Y⟩
  refine zz6 ?_;refine aY 76 Y (fun h76=>?_) (fun h76=>?_)
  · refine zz2 ?_;refine cA Y Y (aP0 b T s a1 _ _ _ a1 rest hs aH _) bS Y (fun _ _=>cF _ _) ?_ ?_
    · rintro _ _ _ hT2 le1;obtain⟨e,p,hr,fb,h,rfl⟩:=cG hT2;cases h
      refine uAa ?_;refine zz2 ?_;rw[hn];unfold kX;rw[x5 (by simp[h50]),x7 aH,hr];exact⟨fb,Y,Y⟩
    rintro _ K _ hT2 -;obtain⟨r,hr,rfl,rfl,rfl⟩:=cH hT2;refine zz3 ?_;rw[hn];unfold kX;rw[x5 (by simp[h50]),x7 aH,hr];exact⟨_,Y,Y,Y,Y⟩
  refine zz6 ?_;refine aY 80 Y (fun h80=>?_) (fun h80=>?_)
  · refine zz4 ?_;refine bA Y Y (nQ b T s a1 1 _ _ _ _ rest hs aH aH _) bS Y ?_;rintro _ K _ ⟨rfl,rfl,rfl⟩ -;refine cN Y Y (uO _ _) Y ?_;refine aA gC3 Y (zz2 ?_);refine d9 85 Y (fun h85=>?_) (fun h85=>?_)
    · refine zz5 ?_;refine cA Y Y (iD 2 a1 _) .nil Y gC6 ?_ ?_
      · rintro _ _ _ ⟨fb,h,rfl⟩ le1;cases h
        refine uAa ?_;refine zz3 ?_;rw[hn];unfold kX;rw[x5 (by simp[h50]),x5 aH,x7 aH,x5 (by simpa using h85)];exact⟨fb,Y,Y⟩
      rintro _ _ _ ⟨_,h,_⟩;cases h
    refine zz11 ?_;refine uAb ?_;rintro _ K _ ⟨rfl,rfl⟩ -;refine zz8 ?_;refine cD (bX pV Y Y dA bR aZe Y) ?_;rintro _ K _ ⟨rfl,rfl⟩ -;refine zz5 ?_;refine bA Y Y (wN b T s (a1+1) _ _ _ _ rest 177 eW hs aH _ (fun c=>tT c _)) bS Y ?_;rintro _ K _ ⟨rfl,rfl,rfl⟩ -;have hwl:=kG eW s (a1+1) aH;refine cN Y Y (kB _ _ aH) Y (zz3 ?_);refine uAi ?_;rintro _ K _ ⟨rfl,rfl⟩ -;refine zz3 ?_;rw[hn];unfold kX;rw[x5 (by simp[h50]),x5 aH,x7 aH,x7 (by simpa using h85)];exact⟨_,Y,Y,Y,Y⟩
  refine zz4 ?_;refine cN Y Y (uO c _) Y (zz3 ?_);refine d9 31 Y (fun h31=>?_) (fun h31=>?_)
  · refine zz4 ?_;refine bA Y Y (wN b T s a1 _ _ _ _ rest 177 eW hs aH _ (fun c=>tT c _)) bS Y ?_;rintro _ K _ ⟨rfl,rfl,rfl⟩ -;have hwl:=kG eW s a1 aH;refine cN Y Y (kB _ _ aH) Y (zz3 ?_);refine cD (bX pV Y Y dA bR aZe Y) ?_;rintro _ K _ ⟨rfl,rfl⟩ -;refine zz3 ?_;refine uAi ?_;rintro _ K _ ⟨rfl,rfl⟩ -;refine zz4 ?_;rw[hn];unfold kX;rw[x5 (by simp[h50]),x5 aH,x5 aH,x7 h31];exact⟨_,Y,Y,Y,Y⟩
  refine zz3 ?_;refine cN Y Y (r6 c _) Y (zz3 ?_);refine d9 45 Y (fun h45=>?_) (fun h45=>?_)
  · refine zz2 ?_;refine cA Y Y (aPN b T s a1 _ _ _ a1 rest hs aH _) bS Y (fun _ _=>cF _ _) ?_ ?_
    · rintro _ _ _ hT2 le1;obtain⟨e,p,hr,fb,h,rfl⟩:=cG hT2;cases h
      refine uAa ?_;refine zz3 ?_;rw[hn];unfold kX;rw[x5 (by simp[h50]),x5 aH,x5 aH,x5 (by simp[h31]),x7 h45,hr];exact⟨fb,Y,Y⟩
    rintro _ K _ hT2 -;obtain⟨r,hr,rfl,rfl,rfl⟩:=cH hT2;refine zz4 ?_;rw[hn];unfold kX;rw[x5 (by simp[h50]),x5 aH,x5 aH,x5 (by simp[h31]),x7 h45,hr];exact⟨_,Y,Y,Y,Y⟩
  refine zz5 ?_;refine cA Y Y (iD 2 a1 _) .nil Y gC6 ?_ ?_
  · rintro _ _ _ ⟨fb,h,rfl⟩ le1;cases h
    refine uAa ?_;refine zz3 ?_;rw[hn];unfold kX;rw[x5 (by simp[h50]),x5 aH,x5 aH,x5 (by simp[h31]),x5 (by simp[h45])];exact⟨fb,Y,Y⟩
  rintro _ _ _ ⟨_,h,_⟩;cases h
end Go.Proofs
end
section
namespace Go.Syn
open Go.Proofs
def aHS{s:aP}{wat:Int}:∀(f i:Nat) (acc:aP) (r:Nat×aP),jC s wat f i acc=.ok r→i < r.1∧r.1≤s.length:=by
 intro f;induction f with
 |zero=>intro i acc r h;simp only[jC]at h;cases h
 |succ f ih=>
  intro i acc r h;simp only[jC]at h;split at h
  ·rename_i h1;cases h;exact⟨by simp,by simp;omega⟩
  split at h
  ·split at h
   ·cases h
   have:=ih _ _ _ h;omega
  split at h
  ·cases h
  have:=ih _ _ _ h;omega
def aSC{s:aP}{a:Nat}{c:UInt8}(hc:s[a]?=some c)(h:gD c=true):0 < (eG s a).length:=by
 have hi:a < s.length:=by
  rcases xAC a s.length with h|h
  ·exact h
  simp[List.getElem?_eq_none h]at hc
 have e:s[a]=c:=by simpa[List.getElem?_eq_getElem hi]using hc
 unfold eG;rw[xAR hi,e,xBJ,x7 h];simp
def bHG{s:aP}{a:Nat}{c:UInt8}(hc:s[a]?=some c)(h:eW c=true):0 < (lO s a).length:=by
 have hi:a < s.length:=by
  rcases xAC a s.length with h|h
  ·exact h
  simp[List.getElem?_eq_none h]at hc
 have e:s[a]=c:=by simpa[List.getElem?_eq_getElem hi]using hc
 unfold lO;rw[xAR hi,e,xBJ,x7 h];simp
def aZH{s:aP}{a:Nat}{wat:Int}{r:Nat×Int}(ha:a≤s.length)(h:number s a wat=.ok r):a+(eG s a).length≤r.1∧r.1≤s.length:=by
 unfold number at h;split at h
 ·cases h
 split at h
 ·cases h
 cases h
 refine⟨?_,aMU s a ha⟩
 show _≤numA s a
 unfold numA;split <;> omega
def aCD{s:aP}{a:Nat}{r:Nat×Word}(ha:a≤s.length)(h:next s a=.ok r):a≤r.1∧r.1≤s.length∧(r.2.kind≠0→a < r.1):=by
 unfold next at h;split at h
 ·cases h
 rename_i a1 hs;obtain⟨h1,h2⟩:=aCP ha hs;split at h
 ·cases h;exact⟨h1,h2,fun h=>absurd Y h⟩
 rename_i c hc;have hi:a1 < s.length:=by
  rcases xAC a1 s.length with h|h
  ·exact h
  simp[List.getElem?_eq_none h]at hc
 have key:a1 < r.1∧r.1≤s.length:=by
  unfold kX at h;split at h
  ·cases h;exact⟨by simp,by simp;omega⟩
  split at h
  ·split at h
   ·cases h
   rename_i q hq;cases h
   have:=aHS _ _ _ _ hq;exact⟨by show a1 < q.1;omega,this.2⟩
  split at h
  ·split at h
   ·cases h
    have:=kG eW s (a1+1) aH;exact⟨by show a1 < a1+1+_;omega,this⟩
   cases h
  split at h
  ·rename_i hl;cases h
   have:=kG eW s a1 aH;have hp:=bHG hc (show eW c=true by simp[eW,hl]);exact⟨by show a1 < a1+_;omega,this⟩
  split at h
  ·rename_i hd;split at h
   ·cases h
   rename_i q hq;cases h
   have:=aZH aH hq;have hp:=aSC hc hd;exact⟨by show a1 < q.1;omega,this.2⟩
  cases h
 exact⟨by omega,key.2,fun _=>by omega⟩
def wl(w:Word):Nat:=if w.kind=0 then 0 else if w.kind=1 then max 1 w.s.length else 1
def mu(s:aP)(st:St):Nat:=(s.length - st.1)+min (wl st.2) (s.length+1)
def aMT{s:aP}{a:Nat}{r:St}(ha:a≤s.length)(h:next s a=.ok r):a+wl r.2≤r.1:=by
 have hl:=aCD ha h;unfold wl;split
 ·omega
 rename_i h0;have h1:=hl.2.2 h0;split
 ·rename_i hk;unfold next at h;split at h
  ·cases h
  rename_i a1 hs;obtain⟨h2,h3⟩:=aCP ha hs;split at h
  ·cases h;simp at hk
  rename_i c hc;unfold kX at h;split at h
  ·cases h;simp at hk
  split at h
  ·split at h
   ·cases h
   cases h;simp at hk
  split at h
  ·split at h
   ·cases h;simp at hk
   cases h
  split at h
  ·cases h
   have:(eD (lO s a1)).length=(lO s a1).length:=by simp[eD]
   simp only[]at h1 ⊢;omega
  split at h
  ·split at h
   ·cases h
   cases h;simp at hk
  cases h
 omega
def gY{s:aP}{st r:St}(ha:st.1≤s.length)(hk:st.2.kind≠0)(h:next s st.1=.ok r):mu s r < mu s st∧r.1≤s.length:=by
 obtain⟨h1,h2,h3⟩:=aCD ha h;have h4:=aMT ha h;refine⟨?_,h2⟩
 have h5:1≤wl st.2:=by unfold wl;rw[x5 hk];split <;> omega
 unfold mu;omega
def aMS{s:aP}{st r:St}(ha:st.1≤s.length)(hs:st.2.s.length≤s.length)(hk:st.2.kind=1)(h:next s st.1=.ok r):mu s r+st.2.s.length≤mu s st:=by
 obtain⟨h1,h2,h3⟩:=aCD ha h;have h4:=aMT ha h;have h5:wl st.2=max 1 st.2.s.length:=by unfold wl;rw[x5 aH,x7 hk]
 unfold mu;omega
def bD3{s:aP}{r:St}(h:next s 0=.ok r):mu s r≤s.length:=by
 have h4:=aMT (x9 _) h;have h2:=(aCD (x9 _) h).2.1;unfold mu;omega
def aNN{s:aP}{st:St}{k:Nat}{texts:List aP}{r:Word×St}(ha:st.1≤s.length)(hk:k≠0)(h:take s st k texts=.ok r):mu s r.2 < mu s st∧r.2.1≤s.length:=by
 unfold take at h;split at h
 ·cases h
 rename_i hn;have hkk:st.2.kind=k:=by
  rcases Nat.decEq st.2.kind k with h'|h'
  ·exact absurd (.inl h') hn
  exact h'
 split at h
 ·cases h
 rename_i q hq;cases h
 exact gY ha aH hq
def aC8{s:aP}{st:St}{x:aP}{r:Bool×St}(ha:st.1≤s.length)(h:eat s st x=.ok r):r.2.1≤s.length∧mu s r.2≤mu s st∧(r.1=true→mu s r.2 < mu s st):=by
 unfold eat at h;split at h
 ·rename_i hk;split at h
  ·cases h
  rename_i q hq;cases h
  have:=gY ha aH hq;exact⟨this.2,Nat.le_of_lt this.1,fun _=>this.1⟩
 cases h;exact⟨ha,xAA _,fun h=>by cases h⟩
def lX{s:aP}{st:St}{ff:aP→Int}{r:aP×St}(ha:st.1≤s.length)(h:text s st ff=.ok r):mu s r.2 < mu s st∧r.2.1≤s.length:=by
 unfold text at h;split at h
 ·cases h
 split at h
 ·cases h
 rename_i q hq;cases h
 exact aNN ha (by decide) hq
def aM7{s:aP}{st r:St}{x:aP}(ha:st.1≤s.length)(h:sign s st x=.ok r):mu s r < mu s st∧r.1≤s.length:=by
 unfold sign at h;split at h
 ·cases h
 rename_i q hq;cases h
 exact aNN ha (by decide) hq
def xP(s:aP)(st:St):mu s st≤s.length*2+1:=by unfold mu;omega
def pR(s:aP)(ff:aP→Int):Nat→St→List aP→Res (List aP×St)
 |0,_,_=>.error (0,0)
 |f+1,st,acc=>
  match eat s st [44]with
  | .error e=>.error e
  | .ok r=>
   if r.1=true then
    match text s r.2 ff with
    | .error e=>.error e
    | .ok x=>pR s ff f x.2 (acc++[x.1])
   else
    match sign s r.2 [93]with
    | .error e=>.error e
    | .ok q=>.ok (acc,q)
def list(s:aP)(st:St)(ff:aP→Int):Res (List aP×St):=
 match eat s st [91]with
 | .error e=>.error e
 | .ok r=>
  match text s r.2 ff with
  | .error e=>.error e
  | .ok x=>if r.1=true then pR s ff (mu s x.2+1) x.2 [x.1]else .ok ([x.1],x.2)
def named(s:aP):Bool:=s.all eW&&(decide (s≠[])&&!gD ((s[0]?).getD 0))
def oneOf(e:Int)(texts:List aP)(x:aP):Int:=if x∈texts then 0 else e
def aHM{s:aP}{i:Nat}{c:UInt8}(hc:s[i]?=some c)(h:eW c=false):named s=false:=by
 have:s.all eW=false:=List.all_eq_false.2 ⟨c,x8 hc,by simp[h]⟩;simp[named,this]
structure SetC where
 name:aP
 value:aP
 tag:Int
def fU:aP:=[108,111,119,101,114]
def gH:aP:=[117,112,112,101,114]
def gE:aP:=[108,101,110,103,116,104]
def eB:aP:=[118,97,114,105,97,98,108,101,115]
def lF(s:aP)(st:St):Res (Int×St):=
 if st.2.kind=2 then
  if dW [fU,gH,gE] st.2.s= -1 then .error (4,st.2.at_)
  else match next s st.1 with
   | .error e=>.error e
   | .ok r=>.ok (1+dW [fU,gH,gE] st.2.s,r)
 else .ok (0,st)
def nW(s:aP)(t:Int×St):Res (SetC×St):=
 match text s t.2 (fun x=>if named x=true then 0 else 7)with
 | .error e=>.error e
 | .ok n=>
  match text s n.2 (fun _=>0)with
  | .error e=>.error e
  | .ok v=>
   match sign s v.2 [59]with
   | .error e=>.error e
   | .ok q=>.ok (⟨eD n.1,v.1,t.1⟩,q)
def setC(s:aP)(needs:List aP)(st:St):Res (SetC×St):=
 if eB∈needs then
  match next s st.1 with
  | .error e=>.error e
  | .ok r=>
   match lF s r with
   | .error e=>.error e
   | .ok t=>nW s t
 else .error (6,st.2.at_)
def aPZ{s:aP}{wat:Int}:∀(f i:Nat) (acc:aP) (r:Nat×aP),jC s wat f i acc=.ok r→acc.length≤i→r.2.length≤r.1:=by
 intro f;induction f with
 |zero=>intro i acc r h;simp only[jC]at h;cases h
 |succ f ih=>
  intro i acc r h hi;simp only[jC]at h;split at h
  ·cases h;show acc.length≤i+1;omega
  split at h
  ·split at h
   ·cases h
   exact ih _ _ _ h gC7
  split at h
  ·cases h
  exact ih _ _ _ h gC7
def mN(s:aP):(eD s).length=s.length:=by simp[eD]
def bD7{s:aP}{a:Nat}{r:Nat×Word}(ha:a≤s.length)(h:next s a=.ok r):r.2.s.length≤s.length:=by
 unfold next at h;split at h
 ·cases h
 rename_i a1 hs;obtain⟨h1,h2⟩:=aCP ha hs;split at h
 ·cases h;simp
 rename_i c hc;have hi:a1 < s.length:=by
  rcases xAC a1 s.length with h|h
  ·exact h
  simp[List.getElem?_eq_none h]at hc
 unfold kX at h;split at h
 ·cases h;simp;omega
 split at h
 ·split at h
  ·cases h
  rename_i q hq;cases h
  have h3:=aHS _ _ _ _ hq;have h4:=aPZ _ _ _ _ hq (by simp)
  show q.2.length≤s.length
  omega
 split at h
 ·split at h
  ·cases h
   have:=kG eW s (a1+1) aH
   show (eD (lO s (a1+1))).length≤_
   rw[mN];unfold lO;omega
  cases h
 split at h
 ·cases h
  have:=kG eW s a1 aH
  show (eD (lO s a1)).length≤_
  rw[mN];unfold lO;omega
 split at h
 ·split at h
  ·cases h
  cases h;simp
 cases h
def Ok(s:aP)(st:St):Prop:=st.1≤s.length∧st.2.s.length≤s.length
def fX{s:aP}{a:Nat}{r:St}(ha:a≤s.length)(h:next s a=.ok r):Ok s r:=⟨(aCD ha h).2.1,bD7 ha h⟩
def aCU{s:aP}{st:St}{k:Nat}{texts:List aP}{r:Word×St}(ha:st.1≤s.length)(h:take s st k texts=.ok r):Ok s r.2:=by
 unfold take at h;split at h
 ·cases h
 split at h
 ·cases h
 rename_i q hq;cases h
 exact fX ha hq
def aC9{s:aP}{st:St}{x:aP}{r:Bool×St}(ha:Ok s st)(h:eat s st x=.ok r):Ok s r.2:=by
 unfold eat at h;split at h
 ·split at h
  ·cases h
  rename_i q hq;cases h
  exact fX ha.1 hq
 cases h;exact ha
def pP{s:aP}{st:St}{ff:aP→Int}{r:aP×St}(ha:st.1≤s.length)(h:text s st ff=.ok r):Ok s r.2:=by
 unfold text at h;split at h
 ·cases h
 split at h
 ·cases h
 rename_i q hq;cases h
 exact aCU ha hq
def aFZ{s:aP}{st r:St}{x:aP}(ha:st.1≤s.length)(h:sign s st x=.ok r):Ok s r:=by
 unfold sign at h;split at h
 ·cases h
 rename_i q hq;cases h
 exact aCU ha hq
end Go.Syn
end
section
namespace Go.Syn
def bDV{s:aP}{ff:aP→Int}:∀ {f:Nat} {st:St} {acc:List aP} {r:List aP×St},Ok s st→pR s ff f st acc=.ok r→Ok s r.2∧mu s r.2 < mu s st:=by
 intro f;induction f with
 |zero=>intro st acc r _ h;cases h
 |succ f ih=>
  intro st acc r hok h;simp only[pR]at h;split at h
  ·cases h
  rename_i q hq;obtain⟨_,hq2,_⟩:=aC8 hok.1 hq;have hqo:=aC9 hok hq;split at h
  ·split at h
   ·cases h
   rename_i x hx;have h1:=lX hqo.1 hx;have h2:=pP hqo.1 hx;have:=ih h2 h;exact⟨this.1,by omega⟩
  split at h
  ·cases h
  rename_i y hy;cases h
  have h1:=aM7 hqo.1 hy;exact⟨aFZ hqo.1 hy,by simp only[];omega⟩
def oK{s:aP}{st:St}{ff:aP→Int}{r:List aP×St}(hok:Ok s st)(h:list s st ff=.ok r):Ok s r.2∧mu s r.2 < mu s st:=by
 unfold list at h;split at h
 ·cases h
 rename_i q hq;obtain⟨_,hq2,_⟩:=aC8 hok.1 hq;have hqo:=aC9 hok hq;split at h
 ·cases h
 rename_i x hx;have h1:=lX hqo.1 hx;have h2:=pP hqo.1 hx;split at h
 ·have:=bDV h2 h;exact⟨this.1,by omega⟩
 cases h;exact⟨h2,by simp only[];omega⟩
inductive Tree where
 |const (b:Bool)
 |not_ (t:Tree)
 |many (all:Bool) (l:Tree)
 |mat (tag:Int) (octet:Bool) (op:Int) (a b:List aP)
 |exi (a:List aP)
 |siz (tag n:Int)
 |tnil
 |tcons (t l:Tree)
 |plain (op:Int)
 |act (kind:Int) (arg:aP) (at_:Int)
 |set_ (name value:aP) (tag:Int)
 |iff (bs:Tree)
 |cnil
 |ccons (c l:Tree)
 |bnil
 |bcons (t body l:Tree)
 |belse (body l:Tree)
def wf:Tree→Nat→Bool
 | .const _,k=>k==0
 | .not_ t,k=>k==0&&wf t 0
 | .many _ l,k=>k==0&&wf l 1
 | .mat _ _ _ _ _,k=>k==0
 | .exi _,k=>k==0
 | .siz _ _,k=>k==0
 | .tnil,k=>k==1
 | .tcons t l,k=>k==1&&(wf t 0&&wf l 1)
 | .plain _,k=>k==2
 | .act _ _ _,k=>k==2
 | .set_ _ _ _,k=>k==2
 | .iff bs,k=>k==2&&wf bs 4
 | .cnil,k=>k==3
 | .ccons c l,k=>k==3&&(wf c 2&&wf l 3)
 | .bnil,k=>k==4
 | .bcons t b l,k=>k==4&&(wf t 0&&(wf b 3&&wf l 4))
 | .belse b l,k=>k==4&&(wf b 3&&wf l 4)
def Tree.snocT:Tree→Tree→Tree
 | .tcons t l,x=>.tcons t (l.snocT x)
 |_,x=>.tcons x .tnil
def Tree.snocC:Tree→Tree→Tree
 | .ccons t l,x=>.ccons t (l.snocC x)
 |_,x=>.ccons x .cnil
def mkB(t:Option Tree)(body l:Tree):Tree:=match t with
 |some t=>.bcons t body l
 |none=>.belse body l
def Tree.snocB:Tree→Option Tree→Tree→Tree
 | .bcons t b l,x,y=>.bcons t b (l.snocB x y)
 | .belse b l,x,y=>.belse b (l.snocB x y)
 |_,x,y=>mkB x y .bnil
def txIs:aP:=[105,115]
def mP:aP:=[99,111,110,116,97,105,110,115]
def o4:aP:=[109,97,116,99,104,101,115]
def mO:aP:=[99,111,109,112,97,114,97,116,111,114]
def dN:aP:=[105,59,111,99,116,101,116]
def dE:aP:=[105,59,97,115,99,105,105,45,99,97,115,101,109,97,112]
def dS:aP:=[101,110,118,101,108,111,112,101]
def yL:aP:=[111,118,101,114]
def mG:aP:=[117,110,100,101,114]
def eT:List aP:=[txIs,mP,o4,mO]
structure How where
 cmp:Bool
 tag:Int
 oct:Bool
def gT(s:aP):Nat→How→St→Res (How×St)
 |0,_,_=>.error (0,0)
 |f+1,h,st=>
  if st.2.kind=2 then
   if dW eT st.2.s= -1 then .error (4,st.2.at_)
   else if (dW eT st.2.s=3∧h.cmp=true)∨(dW eT st.2.s < 3∧h.tag≠0)then .error (7,st.2.at_)
   else if dW eT st.2.s < 3 then
    match next s st.1 with
    | .error e=>.error e
    | .ok r=>gT s f ⟨h.cmp,1+dW eT st.2.s,h.oct⟩ r
   else
    match next s st.1 with
    | .error e=>.error e
    | .ok r=>
     match text s r (oneOf 7 [dN,dE])with
     | .error e=>.error e
     | .ok x=>gT s f ⟨true,h.tag,decide (x.1=dN)⟩ x.2
  else .ok (h,st)
def nD(op:Int):aP→Int:=if op=7 then fun x=>oneOf 7 [[102,114,111,109],[116,111]] (eD x)else fun _=>0
def mI(s:aP)(op:Int)(h:Res (How×St)):Res (Tree×St):=
 match h with
 | .error e=>.error e
 | .ok h=>
  match list s h.2 (nD op)with
  | .error e=>.error e
  | .ok a=>
   match list s a.2 (fun _=>0)with
   | .error e=>.error e
   | .ok b=>.ok (.mat (if 1>h.1.tag then 1 else h.1.tag) h.1.oct op a.1 b.1,b.2)
def l9(s:aP)(needs:List aP)(op:Int)(ext:aP)(st:St):Res (Tree×St):=
 if ext≠[]∧ext∉needs then .error (6,st.2.at_)
 else match next s st.1 with
  | .error e=>.error e
  | .ok r=>mI s op (gT s (mu s r+1) ⟨false,0,false⟩ r)
def lJ(s:aP)(c:Tree)(st:St):Res (Tree×St):=
 match next s st.1 with
 | .error e=>.error e
 | .ok r=>
  match sign s r [59]with
  | .error e=>.error e
  | .ok q=>.ok (c,q)
def actC(s:aP)(needs:List aP)(kind:Int)(ext:aP)(at_:Int)(st:St):Res (Tree×St):=
 if ext≠[]∧ext∉needs then .error (6,st.2.at_)
 else match next s st.1 with
  | .error e=>.error e
  | .ok r=>
   match take s r 3 []with
   | .error e=>.error e
   | .ok x=>
    match sign s x.2 [59]with
    | .error e=>.error e
    | .ok q=>.ok (.act kind x.1.s at_,q)
def m9(s:aP)(b:Bool)(st:St):Res (Tree×St):=
 match next s st.1 with
 | .error e=>.error e
 | .ok r=>.ok (.const b,r)
def oI(s:aP)(st:St):Res (Tree×St):=
 match next s st.1 with
 | .error e=>.error e
 | .ok r=>
  match list s r (fun _=>0)with
  | .error e=>.error e
  | .ok a=>.ok (.exi a.1,a.2)
def tE(s:aP)(st:St):Res (Tree×St):=
 match next s st.1 with
 | .error e=>.error e
 | .ok r=>
  match take s r 2 [yL,mG]with
  | .error e=>.error e
  | .ok x=>
   match take s x.2 4 []with
   | .error e=>.error e
   | .ok y=>.ok (.siz (if x.1.s=mG then 2 else 1) y.1.n,y.2)
def notC(s:aP)(T:St→Res (Tree×St))(st:St):Res (Tree×St):=
 match next s st.1 with
 | .error e=>.error e
 | .ok r=>
  match T r with
  | .error e=>.error e
  | .ok t=>.ok (.not_ t.1,t.2)
def pS(s:aP)(T:St→Res (Tree×St)):Nat→Tree→St→Res (Tree×St)
 |0,_,_=>.error (0,0)
 |f+1,acc,st=>
  match eat s st [44]with
  | .error e=>.error e
  | .ok r=>
   if r.1=true then
    match T r.2 with
    | .error e=>.error e
    | .ok t=>pS s T f (acc.snocT t.1) t.2
   else
    match sign s r.2 [41]with
    | .error e=>.error e
    | .ok q=>.ok (acc,q)
def r8(all:Bool)(l:Res (Tree×St)):Res (Tree×St):=
 match l with
 | .error e=>.error e
 | .ok l=>.ok (.many all l.1,l.2)
def pD(s:aP)(T:St→Res (Tree×St))(all:Bool)(st:St):Res (Tree×St):=
 match next s st.1 with
 | .error e=>.error e
 | .ok r=>
  match sign s r [40]with
  | .error e=>.error e
  | .ok q=>
   match T q with
   | .error e=>.error e
   | .ok t=>
    r8 all (pS s T (mu s t.2+1) (.tcons t.1 .tnil) t.2)
def j6:aP:=[116,114,117,101]
def iB:aP:=[102,97,108,115,101]
def rJ:aP:=[110,111,116]
def lZ:aP:=[97,108,108,111,102]
def l4:aP:=[97,110,121,111,102]
def gU:aP:=[104,101,97,100,101,114]
def gV:aP:=[115,116,114,105,110,103]
def kP:aP:=[101,120,105,115,116,115]
def nL:aP:=[115,105,122,101]
def pN(s:aP)(needs:List aP)(T:St→Res (Tree×St))(st:St):Option (Res (Tree×St)):=
 let w:=st.2.s
 if w=j6 then some (m9 s true st)
 else if w=iB then some (m9 s false st)
 else if w=rJ then some (notC s T st)
 else if w=lZ then some (pD s T true st)
 else if w=l4 then some (pD s T false st)
 else if w=gU then some (l9 s needs 6 [] st)
 else if w=dS then some (l9 s needs 7 dS st)
 else if w=gV then some (l9 s needs 8 eB st)
 else if w=kP then some (oI s st)
 else if w=nL then some (tE s st)
 else none
def test(s:aP)(needs:List aP):Nat→St→Res (Tree×St)
 |0,st=>if st.2.kind=1 then .error (5,st.2.at_)else .error (4,st.2.at_)
 |n+1,st=>
  if st.2.kind=1 then
   match pN s needs (test s needs n) st with
   |some r=>r
   |none=>.error (4,st.2.at_)
  else .error (4,st.2.at_)
def kV(s:aP)(B:St→Res (Tree×St))(st:St):Res (Tree×St):=
 match sign s st [123]with
 | .error e=>.error e
 | .ok q=>
  match B q with
  | .error e=>.error e
  | .ok b=>
   match sign s b.2 [125]with
   | .error e=>.error e
   | .ok r=>.ok (b.1,r)
def sE:aP:=[101,108,115,105,102]
def tK:aP:=[101,108,115,101]
def lC(s:aP)(B:St→Res (Tree×St))(acc:Tree)(st:St):Res (Tree×St):=
 if st.2.kind=1∧st.2.s=tK then
  match next s st.1 with
  | .error e=>.error e
  | .ok r=>
   match kV s B r with
   | .error e=>.error e
   | .ok b=>.ok (.iff (acc.snocB none b.1),b.2)
 else .ok (.iff acc,st)
def hO(s:aP)(T B:St→Res (Tree×St)):Nat→Tree→St→Res (Tree×St)
 |0,_,_=>.error (0,0)
 |f+1,acc,st=>
  if st.2.kind=1∧st.2.s=sE then
   match next s st.1 with
   | .error e=>.error e
   | .ok r=>
    match T r with
    | .error e=>.error e
    | .ok t=>
     match kV s B t.2 with
     | .error e=>.error e
     | .ok b=>hO s T B f (acc.snocB (some t.1) b.1) b.2
  else lC s B acc st
def ifC(s:aP)(T B:St→Res (Tree×St))(st:St):Res (Tree×St):=
 match next s st.1 with
 | .error e=>.error e
 | .ok r=>
  match T r with
  | .error e=>.error e
  | .ok t=>
   match kV s B t.2 with
   | .error e=>.error e
   | .ok b=>hO s T B (mu s b.2+1) (.bcons t.1 b.1 .bnil) b.2
def qL:aP:=[107,101,101,112]
def jV:aP:=[100,105,115,99,97,114,100]
def mQ:aP:=[115,116,111,112]
def fV:aP:=[102,105,108,101,105,110,116,111]
def gR:aP:=[114,101,100,105,114,101,99,116]
def iO:aP:=[114,101,106,101,99,116]
def tM:aP:=[115,101,116]
def txIf:aP:=[105,102]
def rC(s:aP)(needs:List aP)(st:St):Res (Tree×St):=
 match setC s needs st with
 | .error e=>.error e
 | .ok r=>.ok (.set_ r.1.name r.1.value r.1.tag,r.2)
def cmdD(s:aP)(needs:List aP)(T B:St→Res (Tree×St))(st:St):Option (Res (Tree×St)):=
 let w:=st.2.s
 if w=qL then some (lJ s (.act 1 [] st.2.at_) st)
 else if w=jV then some (lJ s (.plain 13) st)
 else if w=mQ then some (lJ s (.plain 14) st)
 else if w=fV then some (actC s needs 2 fV st.2.at_ st)
 else if w=gR then some (actC s needs 3 [] st.2.at_ st)
 else if w=iO then some (actC s needs 4 iO st.2.at_ st)
 else if w=tM then some (rC s needs st)
 else if w=txIf then some (ifC s T B st)
 else none
def kQ(s:aP)(C:St→Option (Res (Tree×St))):Nat→Tree→St→Res (Tree×St)
 |0,_,_=>.error (0,0)
 |f+1,acc,st=>
  if st.2.kind=1 then
   match C st with
   |none=>.error (4,st.2.at_)
   |some (.error e)=>.error e
   |some (.ok c)=>kQ s C f (acc.snocC c.1) c.2
  else .ok (acc,st)
def block(s:aP)(needs:List aP):Nat→St→Res (Tree×St)
 |0,st=>if st.2.kind=1 then .error (5,st.2.at_)else .ok (.cnil,st)
 |n+1,st=>kQ s (cmdD s needs (test s needs n) (block s needs n)) (mu s st+1) .cnil st
end Go.Syn
end
section
namespace Go.Syn
open Go Go.SL
def u0:Cell:=⟨.nilIface,rfl⟩
def Rep(K:Hl):Tree→List (Cell×Cell)→Prop
 | .const b,us=>us=[(⟨.iface 265 (.bool b),rfl⟩,u0)]
 | .not_ t,us=>∃v,Rep K t [(v,u0)]∧us=[(⟨.iface 269 (.agg #[v.1]),rfl⟩,u0)]
 | .many all l,us=>∃xs sv,Rep K l xs∧Ksl (cC 264) K sv (xs.map (·.1))∧us=[(⟨.iface 329 (.agg #[.bool all,sv]),rfl⟩,u0)]
 | .mat tag oct op a b,us=>∃va vb,Ksl (a7 9) K va a∧Ksl (a7 9) K vb b∧us=[(⟨.iface 333 (.agg #[i64 tag,.bool oct,i64 op,va,vb]),rfl⟩,u0)]
 | .exi a,us=>∃va,Ksl (a7 9) K va a∧us=[(⟨.iface 273 (.agg #[va]),rfl⟩,u0)]
 | .siz tag n,us=>us=[(⟨.iface 276 (.agg #[i64 tag,i64 n]),rfl⟩,u0)]
 | .tnil,us=>us=[]
 | .tcons t l,us=>∃v xs,Rep K t [(v,u0)]∧Rep K l xs∧us=(v,u0)::xs
 | .plain op,us=>us=[(⟨.iface 261 (.agg #[i64 op]),rfl⟩,u0)]
 | .act k a p,us=>us=[(⟨.iface 258 (.agg #[i64 k,str a,i64 p]),rfl⟩,u0)]
 | .set_ n v t,us=>us=[(⟨.iface 284 (.agg #[str n,str v,i64 t]),rfl⟩,u0)]
 | .iff bs,us=>∃xs sv,Rep K bs xs∧Ksl (dT 324) K sv xs∧us=[(⟨.iface 287 (.agg #[sv]),rfl⟩,u0)]
 | .cnil,us=>us=[]
 | .ccons t l,us=>∃v xs,Rep K t [(v,u0)]∧Rep K l xs∧us=(v,u0)::xs
 | .bnil,us=>us=[]
 | .bcons t b l,us=>∃v ys sv xs,Rep K t [(v,u0)]∧(∃ty u,v.1=.iface ty u)∧Rep K b ys∧Ksl (cC 198) K sv.1 (ys.map (·.1))∧Rep K l xs∧us=(v,sv)::xs
 | .belse b l,us=>∃ys sv xs,Rep K b ys∧Ksl (cC 198) K sv.1 (ys.map (·.1))∧Rep K l xs∧us=(⟨.nilIface,rfl⟩,sv)::xs
def Rep.mono{K K':Hl}(le:K.le K'):∀ {t:Tree} {us:List (Cell×Cell)},Rep K t us→Rep K' t us:=by
 intro t;induction t with
 |const b=>intro us h;exact h
 |not_ t ih=>rintro us ⟨v,h,e⟩;exact⟨v,ih h,e⟩
 |many all l ih=>rintro us ⟨xs,sv,h1,h2,e⟩;exact⟨xs,sv,ih h1,h2.mono le,e⟩
 |mat tag oct op a b=>rintro us ⟨va,vb,h1,h2,e⟩;exact⟨va,vb,h1.mono le,h2.mono le,e⟩
 |exi a=>rintro us ⟨va,h1,e⟩;exact⟨va,h1.mono le,e⟩
 |siz tag n=>intro us h;exact h
 |tnil=>intro us h;exact h
 |tcons t l ih1 ih2=>rintro us ⟨v,xs,h1,h2,e⟩;exact⟨v,xs,ih1 h1,ih2 h2,e⟩
 |plain op=>intro us h;exact h
 |act k a p=>intro us h;exact h
 |set_ n v t=>intro us h;exact h
 |iff bs ih=>rintro us ⟨xs,sv,h1,h2,e⟩;exact⟨xs,sv,ih h1,h2.mono le,e⟩
 |cnil=>intro us h;exact h
 |ccons t l ih1 ih2=>rintro us ⟨v,xs,h1,h2,e⟩;exact⟨v,xs,ih1 h1,ih2 h2,e⟩
 |bnil=>intro us h;exact h
 |bcons t b l ih1 ih2 ih3=>rintro us ⟨v,ys,sv,xs,h1,h2,h3,h4,h5,e⟩;exact⟨v,ys,sv,xs,ih1 h1,h2,ih2 h3,h4.mono le,ih3 h5,e⟩
 |belse b l ih1 ih2=>rintro us ⟨ys,sv,xs,h1,h2,h3,e⟩;exact⟨ys,sv,xs,ih1 h1,h2.mono le,ih2 h3,e⟩
def Rep1(K:Hl)(t:Tree)(v:Value):Prop:=∃ty u,v=.iface ty u∧Rep K t [(⟨.iface ty u,rfl⟩,u0)]
def Rep1.mono{K K':Hl}{t:Tree}{v:Value}(h:Rep1 K t v)(le:K.le K'):Rep1 K' t v:=let ⟨a,b,e,r⟩:=h;⟨a,b,e,r.mono le⟩
def isTL:Tree→Bool
 | .tnil=>true
 | .tcons _ l=>isTL l
 |_=>false
def isCL:Tree→Bool
 | .cnil=>true
 | .ccons _ l=>isCL l
 |_=>false
def isBL:Tree→Bool
 | .bnil=>true
 | .bcons _ _ l=>isBL l
 | .belse _ l=>isBL l
 |_=>false
def aZX{K:Hl}{t:Tree}{v:Cell}(ht:Rep K t [(v,u0)]):∀ {l:Tree} {us:List (Cell×Cell)},isTL l=true→Rep K l us→Rep K (l.snocT t) (us++[(v,u0)])∧isTL (l.snocT t)=true:=by
 intro l;induction l with
 |tnil=>intro us _ h;cases (show us=[]from h);exact⟨⟨v,[],ht,Y,Y⟩,Y⟩
 |tcons x l ih1 ih2=>
  rintro us hl ⟨w,xs,h1,h2,rfl⟩;obtain⟨h3,h4⟩:=ih2 hl h2;exact⟨⟨w,_,h1,h3,Y⟩,h4⟩
 |_=>intro us hl;cases hl
def aZW{K:Hl}{t:Tree}{v:Cell}(ht:Rep K t [(v,u0)]):∀ {l:Tree} {us:List (Cell×Cell)},isCL l=true→Rep K l us→Rep K (l.snocC t) (us++[(v,u0)])∧isCL (l.snocC t)=true:=by
 intro l;induction l with
 |cnil=>intro us _ h;cases (show us=[]from h);exact⟨⟨v,[],ht,Y,Y⟩,Y⟩
 |ccons x l ih1 ih2=>
  rintro us hl ⟨w,xs,h1,h2,rfl⟩;obtain⟨h3,h4⟩:=ih2 hl h2;exact⟨⟨w,_,h1,h3,Y⟩,h4⟩
 |_=>intro us hl;cases hl
def RepO(K:Hl):Option Tree→Cell→Prop
 |none,v=>v=⟨.nilIface,rfl⟩
 |some t,v=>Rep K t [(v,u0)]∧∃ty u,v.1=.iface ty u
def bI9{K:Hl}{o:Option Tree}{b l:Tree}{v sv:Cell}{ys xs:List (Cell×Cell)}(ho:RepO K o v)(hb:Rep K b ys)(hs:Ksl (cC 198) K sv.1 (ys.map (·.1)))(hl:Rep K l xs):Rep K (mkB o b l) ((v,sv)::xs):=by
 cases o with
 |none=>cases (show v=_ from ho);exact⟨ys,sv,xs,hb,hs,hl,Y⟩
 |some t=>exact⟨v,ys,sv,xs,ho.1,ho.2,hb,hs,hl,Y⟩
def qF{K:Hl}{o:Option Tree}{b:Tree}{v sv:Cell}{ys:List (Cell×Cell)}(ho:RepO K o v)(hb:Rep K b ys)(hs:Ksl (cC 198) K sv.1 (ys.map (·.1))):
  ∀ {l:Tree} {us:List (Cell×Cell)},isBL l=true→Rep K l us→Rep K (l.snocB o b) (us++[(v,sv)])∧isBL (l.snocB o b)=true:=by
 intro l;induction l with
 |bnil=>intro us _ h;cases (show us=[]from h);exact⟨bI9 ho hb hs Y,by cases o <;> rfl⟩
 |bcons x y l ih1 ih2 ih3=>
  rintro us hl ⟨w,zs,tv,xs,h1,h2,h3,h4,h5,rfl⟩;obtain⟨h6,h7⟩:=ih3 hl h5;exact⟨⟨w,zs,tv,_,h1,h2,h3,h4,h6,Y⟩,h7⟩
 |belse y l ih1 ih2=>
  rintro us hl ⟨zs,tv,xs,h1,h2,h3,rfl⟩;obtain⟨h6,h7⟩:=ih2 hl h3;exact⟨⟨zs,tv,_,h1,h2,h6,Y⟩,h7⟩
 |_=>intro us hl;cases hl
def aDU{K:Hl}{t:Tree}{c d:Cell}(hw:wf t 0=true∨wf t 2=true)(h:Rep K t [(c,d)]):∃ty u,c.1=.iface ty u:=by
 cases t <;> simp only[wf,Rep]at h hw
 case const b=>cases h;exact⟨_,_,Y⟩
 case not_ t=>obtain⟨v,_,h⟩:=h;cases h;exact⟨_,_,Y⟩
 case many all l=>obtain⟨xs,sv,_,_,h⟩:=h;cases h;exact⟨_,_,Y⟩
 case mat tag oct op a b=>obtain⟨va,vb,_,_,h⟩:=h;cases h;exact⟨_,_,Y⟩
 case exi a=>obtain⟨va,_,h⟩:=h;cases h;exact⟨_,_,Y⟩
 case siz tag n=>cases h;exact⟨_,_,Y⟩
 case plain op=>cases h;exact⟨_,_,Y⟩
 case act k a p=>cases h;exact⟨_,_,Y⟩
 case set_ n v t=>cases h;exact⟨_,_,Y⟩
 case iff bs=>obtain⟨xs,sv,_,_,h⟩:=h;cases h;exact⟨_,_,Y⟩
 all_goals simp at hw
end Go.Syn
end
section
attribute [local irreducible] Go.SL.T Go.SL.OL Go.SL.D Go.SL.DL Go.SL.Ev Go.SL.Ef Go.SL.EfS
namespace Go.Proofs
open Go Go.SL Go.Syn
def yD(v:Value)(x:List UInt8)(xs:List (List UInt8))(K:Hl)(L:List Asn)(hv:SeesSl (a7 9) K L v xs)(hn:xs.length≤1000000):
  Sp x3 147 [v,str x] K L (Ret fun u K' L'=>u=i64 (dW xs x)∧K'=K∧L'=L):=by
 refine bN Tryz.func147 Y Tryz.ntmps147 Y Y fun F w=>?_;refine zz9 ?_;refine aA (bU (k:=a7 9) Y Tryz.underlying43 Y hv) Y (zz4 ?_);refine eH (fun(i:Nat)=>i≤xs.length∧∀j:Nat,j < i→xs[j]?≠some x) (fun i=>[(0,v),(1,str x),(7,i64 xs.length),(8,i64 i)]) (fun _=>K) (fun _=>L) (fun i=>xs.length - i) 0 ⟨x9 _,fun j h=>by omega⟩ aS Y (fun _ h=>h) ?_;intro i ⟨hi1,hi2⟩;refine zz6 ?_;refine aY 9 Y (fun h9=>?_) (fun h9=>?_)
 ·obtain⟨y,hy⟩:∃y,xs[i]?=some y:=⟨xs[i]'(by omega),x4 aH⟩;have hlen:i < xs.length:=by omega
  refine zz15 ?_;refine aA (aX (k:=a7 9) cB Y hv Y Y hlen) Y ?_;refine aA (cE (o:=0) (k:=a7 9) ts9 Y hv hy Y) Y (zz3 ?_);refine aY 16 Y (fun h16=>?_) (fun h16=>?_)
  ·refine zz13 ?_;exact⟨_,Y,by rw[aZ4 hi2 (h16▸hy)],rfl,rfl⟩
  refine zz7 ?_;refine cM (i+1) ⟨by omega,?_⟩ aH aS Y (fun _ h=>h)
  intro j hj e
  by_cases hji:j=i
  ·subst hji;rw[hy]at e;exact h16 (xAY e).symm
  exact hi2 j aH e
 refine zz12 ?_;exact⟨_,Y,by rw[aZ6 (fun j hj=>hi2 j aH)],rfl,rfl⟩
def pJ(v:Value)(x:List UInt8)(xs:List (List UInt8))(K:Hl)(L:List Asn)(hv:SeesSl (a7 9) K L v xs)(hn:xs.length≤1000000):
  Sp x3 107 [v,str x] K L (Ret fun u K' L'=>u=.bool (decide (x∈xs))∧K'=K∧L'=L):=by
 refine bN Tryz.func107 Y Tryz.ntmps107 Y Y fun F w=>?_;refine zz9 ?_;refine bA Y Y (yD v x xs _ _ hv hn) (cQ _) Y ?_;rintro _ K _ ⟨rfl,rfl,rfl⟩ -;refine zz5 ?_;rw[xAL];refine zz1 ?_;exact⟨_,Y,by rw[decide_eq_decide.2 (aT4 xs x)],rfl,rfl⟩
abbrev psb(b:Nat)(s:List UInt8)(st:St)(rest:List Value):Asn:=lxw b 213 s st.1 st.2 rest
def aO3(b:Nat)(x:List UInt8)(xs:List (List UInt8))(l:List Value)(T:TypeId)(nv:Value)(K:Hl)(L:List Asn)(hb:Sees K L b (bL l T))(hl:l[6]?=some nv)(hv:SeesSl (a7 9) K L nv xs)(hn:xs.length≤1000000):
  Sp x3 76 [ptr b 6,str x] K L (Ret fun u K' L'=>u=.bool (decide (x∈xs))∧K'=K∧L'=L):=by
 refine bN Tryz.func76 Y Tryz.ntmps76 Y Y fun F w=>?_;refine zz10 ?_;refine aA (aK eP Y hb hl) Y (zz1 ?_);refine bA Y Y (pJ nv x xs _ _ hv hn) (cQ _) Y ?_;rintro _ K _ ⟨rfl,rfl,rfl⟩ -;refine zz4 ?_;rw[xAL];refine zz1 ?_;exact⟨_,Y,Y,Y,Y⟩
def lW(b:Nat)(s:List UInt8)(st:St)(rest:List Value)(K:Hl):
  Sp x3 115 [ptr b] K [psb b s st rest] (Flt 4 st.2.at_):=by
 refine bN Tryz.func115 Y Tryz.ntmps115 Y Y fun F w=>?_;refine zz7 ?_;refine cA Y Y (iD 4 st.2.at_ _) .nil Y gC6 ?_ ?_
 ·rintro _ _ _ ⟨fb,h,rfl⟩ le1;cases h
  refine uAa ?_;refine zz1 ?_;exact⟨fb,Y,Y⟩
 rintro _ _ _ ⟨_,h,_⟩;cases h
def aA1(b:Nat)(s:List UInt8)(st:St)(nv:Value)(rest:List Value)(needs:List (List UInt8))(x:List UInt8)(K:Hl)(hv:Ksl (a7 9) K nv needs)(hn:needs.length≤1000000):
  Sp x3 209 [ptr b,str x] K [psb b s st (nv::rest)] (kH (if x∈needs then .ok ()else .error (6,st.2.at_)) fun _ v K' L'=>v=.tuple #[]∧K'=K∧L'=[psb b s st (nv::rest)]):=by
 refine bN Tryz.func209 Y Tryz.ntmps209 Y Y fun F w=>?_;refine zz6 ?_;refine bA Y Y (aO3 b x needs _ _ nv _ _ (.own .here) Y (.known hv) hn) (.cons .here .nil) Y ?_;rintro _ K _ ⟨rfl,rfl,rfl⟩ -;refine aA gC3 Y (zz2 ?_);refine aY 9 Y (fun h9=>?_) (fun h9=>?_)
 ·refine zz7 ?_;refine cA Y Y (iD 6 st.2.at_ _) .nil Y gC6 ?_ ?_
  ·rintro _ _ _ ⟨fb,h,rfl⟩ le1;cases h
   refine uBa ?_;refine zz1 ?_;rw[x5 h9];exact⟨fb,Y,Y⟩
  rintro _ _ _ ⟨_,h,_⟩;cases h
 refine zz2 ?_;rw[x7 (xBD.1 h9)];exact⟨_,Y,Y,Y,Y⟩
abbrev wagg(w:Word):Value:=.agg #[.int .u8 w.kind,str w.s,i64 w.n,i64 w.at_]
def aKZ{s:List UInt8}{st:St}{k:Nat}{texts:List (List UInt8)}(h:¬(st.2.kind:Int)=k):take s st k texts=.error (4,st.2.at_):=by
 unfold take;rw[x7 (.inl aH)]
def aK0{s:List UInt8}{st:St}{k:Nat}{texts:List (List UInt8)}(h:0 < (texts.length:Int))(hm:¬st.2.s∈texts):take s st k texts=.error (4,st.2.at_):=by
 unfold take;rw[x7 (.inr ⟨by rintro rfl;simp at h,hm⟩)]
def uB{s:List UInt8}{st:St}{k:Nat}{texts:List (List UInt8)}(h:¬ ¬(st.2.kind:Int)=k)(hm:¬0 < (texts.length:Int)∨¬ ¬st.2.s∈texts):
  take s st k texts=match Syn.next s st.1 with| .error e=>.error e| .ok r=>.ok (st.2,r):=by
 have hn:¬(st.2.kind≠k∨(texts≠[]∧st.2.s∉texts)):=by
  rintro(h1|⟨h1,h2⟩)
  ·omega
  rcases hm with hm|hm
  ·exact h1 (xA9.1 aH)
  exact hm h2
 unfold take;exact(x5 hn).trans (by cases Syn.next s st.1 <;> rfl)
def qJ(b:Nat)(s:List UInt8)(st:St)(rest:List Value)(k:Nat)(tv:Value)(texts:List (List UInt8))(K:Hl)(hs:s.length≤600)(ha:st.1≤s.length)(hg:Glob K)(hv:Ksl (a7 9) K tv texts)(hn:texts.length≤1000000):
  Sp x3 169 [ptr b,.int .u8 k,tv] K [psb b s st rest] (kH (take s st k texts) fun r v K' L'=>v=wagg r.1∧K'=K∧L'=[psb b s r.2 rest]):=by
 refine bN Tryz.func169 Y Tryz.ntmps169 Y Y fun F w=>?_;refine zz3 ?_;rintro _ K _ ⟨b6,rfl,rfl,rfl⟩ -;refine zz10 ?_;rintro _ K _ ⟨b7,rfl,rfl,rfl⟩ -;refine cD (cX sC Y Y Y bR gC1 (.cons (.cons (.cons (.cons .nil)))) gC8) ?_;rintro _ K _ ⟨rfl,rfl⟩ -;refine zz10 ?_;refine bV 17 Y (fun g17=>?_) (fun g17=>?_)
 ·refine zz16 ?_;refine cA Y Y (lW b s st rest _) bS Y gC6 ?_ ?_
  ·rintro _ _ _ ⟨fb,h,rfl⟩ le1;cases h
   refine uAa ?_;refine zz2 ?_
   first
    |rw[aKZ g17]
    |rw[aK0 g21 h28]
   exact⟨fb,Y,Y⟩
  rintro _ _ _ ⟨_,h,_⟩;cases h
 refine zz3 ?_;refine aA (bU (k:=a7 9) Y Tryz.underlying43 Y (.known hv)) Y (zz4 ?_);refine bV 21 Y (fun g21=>?_) (fun g21=>?_)
 ·refine zz7 ?_;refine bA Y Y (pJ tv st.2.s texts _ [] (.known hv) hn) .nil Y ?_;rintro _ K _ ⟨rfl,rfl,rfl⟩ -;refine zz1 ?_;refine aA gC3 Y (zz5 ?_);refine aY 28 Y (fun h28=>?_) (fun h28=>?_)
  ·refine zz2 ?_;refine cA Y Y (lW b s st rest _) bS Y gC6 ?_ ?_
   ·rintro _ _ _ ⟨fb,h,rfl⟩ le1;cases h
    refine uAa ?_;refine zz2 ?_
    first
     |rw[aKZ g17]
     |rw[aK0 g21 h28]
    exact⟨fb,Y,Y⟩
   rintro _ _ _ ⟨_,h,_⟩;cases h
  refine zz7 ?_;refine cA Y Y (fN b 213 s st.1 _ _ _ _ rest hs ha _ hg) bS Y (fun _ _=>cF _ _) ?_ ?_
  ·rintro _ _ _ hT2 le1;obtain⟨e,p,hr,fb,h,rfl⟩:=cG hT2;cases h
   refine uAa ?_;refine zz2 ?_
   first
    |rw[uB g17 (.inr h28),hr]
    |rw[uB g17 (.inl g21),hr]
   exact⟨fb,Y,Y⟩
  rintro _ K _ hT2 -;obtain⟨r,hr,rfl,rfl,rfl⟩:=cH hT2;refine zz5 ?_;refine cD (cX sC Y Y Y bR gC1 (.cons (.cons (.cons (.cons .nil)))) gC8) ?_;rintro _ K _ ⟨rfl,rfl⟩ -;refine zz3 ?_;refine pY Y Y sC aL Y Y (xAB _) (.cons (by first|exact .here|exact .there .here|exact .there (.there .here)) .nil) ?_
  first
   |rw[uB g17 (.inr h28),hr]
   |rw[uB g17 (.inl g21),hr]
  exact⟨_,Y,Y,Y,Y⟩
 refine zz18 ?_;refine cA Y Y (fN b 213 s st.1 _ _ _ _ rest hs ha _ hg) bS Y (fun _ _=>cF _ _) ?_ ?_
 ·rintro _ _ _ hT2 le1;obtain⟨e,p,hr,fb,h,rfl⟩:=cG hT2;cases h
  refine uAa ?_;refine zz2 ?_
  first
   |rw[uB g17 (.inr h28),hr]
   |rw[uB g17 (.inl g21),hr]
  exact⟨fb,Y,Y⟩
 rintro _ K _ hT2 -;obtain⟨r,hr,rfl,rfl,rfl⟩:=cH hT2;refine zz5 ?_;refine cD (cX sC Y Y Y bR gC1 (.cons (.cons (.cons (.cons .nil)))) gC8) ?_;rintro _ K _ ⟨rfl,rfl⟩ -;refine zz3 ?_;refine pY Y Y sC aL Y Y (xAB _) (.cons (by first|exact .here|exact .there .here|exact .there (.there .here)) .nil) ?_
 first
  |rw[uB g17 (.inr h28),hr]
  |rw[uB g17 (.inl g21),hr]
 exact⟨_,Y,Y,Y,Y⟩
def Glob.mono{K K':Hl}(h:Glob K)(le:K.le K'):Glob K':=⟨let ⟨m,T,fz,e⟩:=h.maxLen;⟨m,T,fz,le _ _ e⟩,fun w l=>h.pow10 w (x6 le l)⟩
def aKQ(b:Nat)(s:List UInt8)(st:St)(rest:List Value)(x:List UInt8)(K:Hl)(hs:s.length≤600)(ha:st.1≤s.length)(hg:Glob K):
  Sp x3 113 [ptr b,str x] K [psb b s st rest] (kH (Syn.sign s st x) fun r v _ L'=>v=.tuple #[]∧L'=[psb b s r rest]):=by
 refine bN Tryz.func113 Y Tryz.ntmps113 Y Y fun F w=>?_;refine zz3 ?_;refine cJ (bM (z0:=[(str [])]) cB tz9 Y Y Y Y dF) Y ?_;rintro _ K _ ⟨b6,rfl,rfl,rfl⟩ -;refine kL fun K1 le1 hK1=>?_;refine cA Y Y (qJ b s st rest 5 _ [x] _ hs ha (hg.mono le1) (.inr ⟨b6,0,1,[str x],(0,0),Y,⟨_,hK1⟩,Y⟩) (by simp)) bS Y (fun _ _=>cF _ _) ?_ ?_
 ·rintro _ _ _ hT2 le2;obtain⟨e,p,hr,fb,h,rfl⟩:=cG hT2;cases h
  refine uAa ?_;refine cK (x6 le1 le2) ?_;unfold Syn.sign;rw[hr];exact⟨fb,Y,Y⟩
 rintro _ K2 _ hT2 le2;obtain⟨r,hr,rfl,rfl,rfl⟩:=cH hT2;refine aG ?_;refine dK Y le1 ?_;unfold Syn.sign;rw[hr];exact⟨_,Y,Y,Y⟩
def aGL(b:Nat)(s:List UInt8)(st:St)(rest:List Value)(x:List UInt8)(K:Hl)(hs:s.length≤600)(ha:st.1≤s.length)(hg:Glob K):
  Sp x3 180 [ptr b,str x] K [psb b s st rest] (kH (eat s st x) fun r v K' L'=>v=.bool r.1∧K'=K∧L'=[psb b s r.2 rest]):=by
 refine bN Tryz.func180 Y Tryz.ntmps180 Y Y fun F w=>?_;refine zz15 ?_;refine bV 13 Y (fun g13=>?_) (fun g13=>?_)
 ·refine zz26 ?_;refine aY 23 Y (fun h23=>?_) (fun h23=>?_)
  ·refine zz4 ?_;refine cA Y Y (fN b 213 s st.1 _ _ _ _ rest hs ha _ hg) bS Y (fun _ _=>cF _ _) ?_ ?_
   ·rintro _ _ _ hT2 le1;obtain⟨e,p,hr,fb,h,rfl⟩:=cG hT2;cases h
    refine uAa ?_;refine zz2 ?_;unfold eat;rw[x7 ⟨by omega,h23⟩,hr];exact⟨fb,Y,Y⟩
   rintro _ K _ hT2 -;obtain⟨r,hr,rfl,rfl,rfl⟩:=cH hT2;refine zz10 ?_;unfold eat
   first
    |exact gCH
    |exact gCL
    |(rw[x5 aH];exact⟨_,Y,Y,Y,Y⟩)
  refine zz10 ?_;unfold eat
  first
   |exact gCH
   |exact gCL
   |(rw[x5 aH];exact⟨_,Y,Y,Y,Y⟩)
 refine zz29 ?_;unfold eat
 first
  |exact gCH
  |exact gCL
  |(rw[x5 aH];exact⟨_,Y,Y,Y,Y⟩)
def n4(b:Nat)(s:List UInt8)(st:St)(rest:List Value)(fn:FuncId)(caps:Array Value)(ff:List UInt8→Int)(K:Hl)(hs:s.length≤600)(ha:st.1≤s.length)(hw:st.2.s.length≤s.length)(hg:Glob K)
  (hf:∀x:List UInt8,x.length≤600→Sp x3 fn (str x::caps.toList) K [] (Val (i64 (ff x)) K)):
  Sp x3 181 [ptr b,.func (.func fn) #[] caps] K [psb b s st rest] (kH (Syn.text s st ff) fun r v K' L'=>v=str r.1∧K'=K∧L'=[psb b s r.2 rest]):=by
 refine bN Tryz.func181 Y Tryz.ntmps181 Y Y fun F w=>?_;refine zz17 ?_;refine aY 12 Y (fun h12=>?_) (fun h12=>?_)
 ·refine zz9 ?_;refine cN Y Y (hf st.2.s aH) Y (zz9 ?_);refine aY 22 Y (fun h22=>?_) (fun h22=>?_)
  ·refine zz8 ?_;refine cA Y Y (iD (ff st.2.s) st.2.at_ _) .nil Y gC6 ?_ ?_
   ·rintro _ _ _ ⟨fb,h,rfl⟩ le1;cases h
    refine uAa ?_;refine zz2 ?_;unfold Syn.text;rw[x7 ⟨by omega,by omega⟩];exact⟨fb,Y,Y⟩
   rintro _ _ _ ⟨_,h,_⟩;cases h
  refine zz5 ?_;refine cA Y Y (qJ b s st rest 3 _ [] _ hs ha hg (.inl ⟨none,0,Y,Y⟩) (by simp)) bS Y (fun _ _=>cF _ _) ?_ ?_
  ·rintro _ _ _ hT2 le1;obtain⟨e,p,hr,fb,h,rfl⟩:=cG hT2;cases h
   refine uAa ?_;refine zz2 ?_;unfold Syn.text;rw[x5 aH,hr];exact⟨fb,Y,Y⟩
  rintro _ K _ hT2 -;obtain⟨r,hr,rfl,rfl,rfl⟩:=cH hT2;refine zz6 ?_;unfold Syn.text;rw[x5 aH,hr];exact⟨_,Y,Y,Y,Y⟩
 refine zz5 ?_;refine cA Y Y (qJ b s st rest 3 _ [] _ hs ha hg (.inl ⟨none,0,Y,Y⟩) (by simp)) bS Y (fun _ _=>cF _ _) ?_ ?_
 ·rintro _ _ _ hT2 le1;obtain⟨e,p,hr,fb,h,rfl⟩:=cG hT2;cases h
  refine uAa ?_;refine zz2 ?_;unfold Syn.text;rw[x5 aH,hr];exact⟨fb,Y,Y⟩
 rintro _ K _ hT2 -;obtain⟨r,hr,rfl,rfl,rfl⟩:=cH hT2;refine zz6 ?_;unfold Syn.text;rw[x5 aH,hr];exact⟨_,Y,Y,Y,Y⟩
def aUF(b:Nat)(x:List UInt8):∀h,pt b (bL [str x] 9) h→sl false (a7 9) (.slice (some ⟨b,0,none⟩) 1 1) [x] h:=
 aCQ (k:=a7 9) (xs:=[x]) (cells:=[str x]) (xAA _) rfl rfl (.inl (xAA _)) (fun h=>by cases h)
def aYL(b:Nat)(s:List UInt8)(st:St)(rest:List Value)(fn:FuncId)(caps:Array Value)(ff:List UInt8→Int)(K:Hl)(hs:s.length≤600)(hok:Ok s st)(hg:Glob K)
  (hf:∀x:List UInt8,x.length≤600→Sp x3 fn (str x::caps.toList) K [] (Val (i64 (ff x)) K)):
  Sp x3 111 [ptr b,.func (.func fn) #[] caps] K [psb b s st rest] (kH (Syn.list s st ff) fun r v _ L'=>L'=[sl false (a7 9) v r.1,psb b s r.2 rest]):=by
 refine bN Tryz.func111 Y Tryz.ntmps111 Y Y fun F w=>?_;have ha:=hok.1;refine zz9 ?_;refine cA Y Y (aGL b s st rest [91] _ hs ha hg) bS Y (fun _ _=>cF _ _) ?_ ?_
 ·rintro _ _ _ hT2 le1;obtain⟨e,p,hr,fb,h,rfl⟩:=cG hT2;cases h
  refine uAa ?_;refine zz3 ?_;unfold Syn.list;rw[hr];exact⟨fb,Y,Y⟩
 rintro _ K _ hT2 -;obtain⟨r,hr,rfl,rfl,rfl⟩:=cH hT2;obtain⟨hr1,hr2,hr3⟩:=aC8 ha hr;have hro:=aC9 hok hr;refine aA gC3 Y (zz2 ?_);refine d9 8 Y (fun h8=>?_) (fun h8=>?_)
 ·refine zz4 ?_;refine cA Y Y (n4 b s r.2 rest fn caps ff _ hs hr1 hro.2 hg hf) bS Y (fun _ _=>cF _ _) ?_ ?_
  ·rintro _ _ _ hT3 le1;obtain⟨e,p,hq,fb,h,rfl⟩:=cG hT3;cases h
   refine uAa ?_;refine zz3 ?_;unfold Syn.list;rw[hr];simp only[];rw[hq];exact⟨fb,Y,Y⟩
  rintro _ K _ hT3 -;obtain⟨q,hq,rfl,rfl,rfl⟩:=cH hT3;obtain⟨hq1,hq2⟩:=lX hr1 hq;refine cJ (bM (z0:=[(str [])]) cB tz9 Y Y Y Y dF) Y ?_;rintro _ K _ ⟨b12,rfl,rfl,rfl⟩ -;refine zz5 ?_;refine cS (eM (aUF b12 q.1)) ?_;refine bI Y Y (by first|exact xAB _|assumption) ?_;have hl:Syn.list s st ff=.ok ([q.1],q.2):=(by unfold Syn.list;rw[hr];simp only[];rw[hq];simp only[];rw[x5 (by simpa using h8)]);rw[hl];exact⟨_,Y,Y⟩
 refine zz6 ?_;refine cA Y Y (n4 b s r.2 rest fn caps ff _ hs hr1 hro.2 hg hf) bS Y (fun _ _=>cF _ _) ?_ ?_
 ·rintro _ _ _ hT3 le1;obtain⟨e,p,hq,fb,h,rfl⟩:=cG hT3;cases h
  refine uAa ?_;refine zz2 ?_;unfold Syn.list;rw[hr];simp only[];rw[hq];exact⟨fb,Y,Y⟩
 rintro _ K _ hT3 -;obtain⟨q,hq,rfl,rfl,rfl⟩:=cH hT3;obtain⟨hq1,hq2⟩:=lX hr1 hq;refine cJ (bM (z0:=[(str [])]) cB tz9 Y Y Y Y dF) Y ?_;rintro _ K _ ⟨b16,rfl,rfl,rfl⟩ -;refine zz5 ?_;refine lK (fun(st2:St) (v:Value) (acc:List (List UInt8))=>Ok s st2∧acc.length+mu s st2≤1300∧∃f,mu s st2≤f∧Syn.list s st ff=pR s ff (f+1) st2 acc) (fun _ v _=>[(0,ptr b),(1,.func (.func fn) #[] caps),(5,v)]) (fun _ _ _=>K) (fun st2 v acc=>[sl false (a7 9) v acc,psb b s st2 rest]) (fun st2 _ _=>mu s st2) q.2 _ [q.1] ⟨pP hr1 hq,by have:=xP s q.2;simp;omega,mu s q.2,xAA _,by unfold Syn.list;rw[hr];simp only[];rw[hq];simp only[];rw[x7 (by simpa using h8)]⟩ aS Y (eM (aUF b16 q.1)) ?_;intro st2 v acc ⟨hi1,hi2,f,hi3,hi4⟩;refine zz4 ?_;refine cA Y Y (aGL b s st2 rest [44] _ hs hi1.1 hg) bS Y (fun _ _=>cF _ _) ?_ ?_
 ·rintro _ _ _ hT4 le1;obtain⟨e,p,hy,fb,h,rfl⟩:=cG hT4;cases h
  refine uAa ?_;refine zz6 ?_;rw[hi4];simp only[pR];rw[hy];exact⟨fb,Y,Y⟩
 rintro _ K _ hT4 -;obtain⟨y,hy,rfl,rfl,rfl⟩:=cH hT4;obtain⟨hy1,hy2,hy3⟩:=aC8 hi1.1 hy;have hyo:=aC9 hi1 hy;refine zz2 ?_;refine d9 18 Y (fun h18=>?_) (fun h18=>?_)
 ·have hy4:=hy3 h18;refine zz7 ?_;refine cA Y Y (n4 b s y.2 rest fn caps ff _ hs hy1 hyo.2 hg hf) bS Y (fun _ _=>cF _ _) ?_ ?_
  ·rintro _ _ _ hT5 le1;obtain⟨e,p,hz,fb,h,rfl⟩:=cG hT5;cases h
   refine uAa ?_;refine zz5 ?_;rw[hi4];simp only[pR];rw[hy];simp only[];rw[x7 h18,hz];exact⟨fb,Y,Y⟩
  rintro _ K _ hT5 -;obtain⟨z,hz,rfl,rfl,rfl⟩:=cH hT5;obtain⟨hz1,hz2⟩:=lX hy1 hz;refine cJ (bM (z0:=[(str [])]) cB tz9 Y Y Y Y dF) Y ?_;rintro _ K _ ⟨b23,rfl,rfl,rfl⟩ -;refine cJ (dQ (k:=(a7 9)) (ys:=[z.1]) eI Y Y bR (fun w j=>dJ Tryz.underlying43 (SeesSl.at (.blk aL Y Y) j)) gC9 gC9) Y ?_;rintro v24 K _ ⟨rfl,rfl,ho24⟩ -;refine zz3 ?_;obtain⟨f0,rfl⟩:∃f0,f=f0+1:=⟨f - 1,by omega⟩;refine aQ (aM bW (aM cI bF)) ?_;refine eF z.2 _ (acc++[z.1]) ⟨pP hy1 hz,by simp;omega,f0,by omega,?_⟩ aH aS Y (fun _ h=>h)
  rw[hi4];simp only[pR];rw[hy];simp only[];rw[x7 h18,hz]
 refine zz8 ?_;refine cA Y Y (aKQ b s y.2 rest [93] _ hs hy1 hg) bS Y (fun _ _=>cF _ _) ?_ ?_
 ·rintro _ _ _ hT5 le1;obtain⟨e,p,hz,fb,h,rfl⟩:=cG hT5;cases h
  refine uAa ?_;refine zz2 ?_;rw[hi4];simp only[pR];rw[hy];simp only[];rw[x5 (by simp[h18]),hz];exact⟨fb,Y,Y⟩
 rintro _ K2 _ hT5 le2;obtain⟨z,hz,rfl,rfl⟩:=cH hT5;refine zz9 ?_;refine uAw ?_;refine bI Y Y (by first|exact xAB _|assumption) ?_;have hl:Syn.list s st ff=.ok (acc,z):=(by rw[hi4];simp only[pR];rw[hy];simp only[];rw[x5 (by simp[h18]),hz]);rw[hl];exact⟨_,Y,Y⟩
def n9(x:List UInt8)(K:Hl):Sp x3 167 [str x] K [] (Val (i64 0) K):=by
 refine bN Tryz.func167 Y Tryz.ntmps167 Y Y fun F w=>?_;refine zz12 ?_;exact⟨Y,Y,Y⟩
def wF(s:List UInt8)(K:Hl)(hs:s.length≤140737488351232):Sp x3 211 [str s] K [] (Val (.bool (named s)) K):=by
 refine bN Tryz.func211 Y Tryz.ntmps211 Y Y fun F w=>?_;refine zz9 ?_;refine uAp ?_;rintro v6 K _ ⟨rfl,rfl⟩ -;refine uBc ?_;refine zz4 ?_;refine eH (fun(i:Nat)=>i≤s.length∧(s.take i).all eW=true) (fun i=>[(0,str s),(6,v6),(7,i64 s.length),(8,i64 i)]) (fun _=>_) (fun i=>[sl false (elB 5) v6 s]) (fun i=>s.length - i) 0 ⟨x9 _,Y⟩ aS Y (fun _ h=>h) ?_;intro i ⟨hi0,hi1⟩;refine zz6 ?_;refine aY 9 Y (fun h9=>?_) (fun h9=>?_)
 ·obtain⟨c,hc⟩:∃c,s[i]?=some c:=⟨s[i]'(by omega),x4 aH⟩;have hlen:i < s.length:=by omega
  refine zz6 ?_;refine aA (aX (k:=(elB 5)) iX Y aL Y Y gDB) Y ?_;refine uBe ?_;refine zz6 ?_;refine cN Y Y (tT c _) Y ?_;refine aA gC3 Y (zz2 ?_);refine d9 14 Y (fun h14=>?_) (fun h14=>?_)
  ·refine zz11 ?_;refine uAf ?_;refine zz1 ?_;exact jW (aHM hc gF9).symm _
  refine zz7 ?_;refine cM (i+1) ⟨by omega,Plain.take_all_succ hc hi1 gF9⟩ aH aS Y (fun _ h=>h)
 have hall:s.all eW=true:=(by rw[xAI aH]at hi1;exact hi1);refine zz10 ?_;refine bV 18 Y (fun g18=>?_) (fun g18=>?_)
 ·refine zz3 ?_;obtain⟨c0,hc0⟩:∃c,s[0]?=some c:=⟨s[0]'(List.length_pos_iff.2 g18),x4 _⟩;refine aA (cP Tryz.underlying9 Y (j:=0) Y Y hc0) Y (zz1 ?_);refine cN Y Y (r6 c0 _) Y (zz1 ?_);refine aA gC3 Y (zz5 ?_);refine uAf ?_;refine zz1 ?_;exact jW (by simp[named,hall,g18,hc0]) _
 refine zz9 ?_;refine uAf ?_;refine zz1 ?_;exact jW (by simp only[Classical.not_not]at g18;simp[named,g18]) _
def bAC(x:List UInt8)(K:Hl)(hs:x.length≤140737488351232):Sp x3 210 [str x] K [] (Val (i64 (if named x=true then 0 else 7)) K):=by
 refine bN Tryz.func210 Y Tryz.ntmps210 Y Y fun F w=>?_;refine zz9 ?_;refine cN Y Y (wF x _ hs) Y (zz2 ?_);refine d9 4 Y (fun h4=>?_) (fun h4=>?_)
 ·refine zz8 ?_;rw[x7 h4];exact⟨Y,Y,Y⟩
 refine zz9 ?_;rw[x5 (by simp[h4])];exact⟨Y,Y,Y⟩
def oW(x:List UInt8)(e:Int)(texts:List (List UInt8))(tv:Value)(b1 b2:Nat)(K:Hl)(h1:K b1=some (bL [tv] 43))(h2:K b2=some (bL [i64 e] 50))(hv:Ksl (a7 9) K tv texts)(hn:texts.length≤1000000):
  Sp x3 182 [str x,ptr b1,ptr b2] K [] (Val (i64 (oneOf e texts x)) K):=by
 refine bN Tryz.func182 Y Tryz.ntmps182 Y Y fun F w=>?_;refine zz8 ?_;refine aA (aK eP Y (.known h1) Y) Y (zz1 ?_);refine bA Y Y (pJ tv x texts _ [] (.known hv) hn) .nil Y ?_;rintro _ K _ ⟨rfl,rfl,rfl⟩ -;refine zz2 ?_;refine aY 7 Y (fun h7=>?_) (fun h7=>?_)
 ·refine zz8 ?_;unfold oneOf;rw[x7 h7];exact⟨Y,Y,Y⟩
 refine zz4 ?_;refine aA (aK n6 Y (.known h2) Y) Y (zz5 ?_);unfold oneOf;rw[x5 h7];exact⟨Y,Y,Y⟩
def qE(e:Int)(tv:Value)(K:Hl)(htv:tv.cells= #[tv]):Sp x3 112 [i64 e,tv] K [] (Ret fun v K' L'=>∃b1 b2,v=.func (.func 182) #[] #[ptr b1,ptr b2]∧K' b1=some (bL [tv] 43)∧K' b2=some (bL [i64 e] 50)∧L'=[]):=by
 refine bN Tryz.func112 Y Tryz.ntmps112 Y Y fun F w=>?_;refine zz3 ?_;rintro _ K _ ⟨b2,rfl,rfl,rfl⟩ -;refine cJ (eZ (l:=[tv]) Y htv) Y ?_;rintro _ K _ ⟨b3,rfl,rfl,rfl⟩ -;refine zz10 ?_;refine fB fun K1 le1 hK1=>?_;refine fB fun K2 le2 hK2=>?_;refine bI Y Y (x6 le1 le2) ?_;exact⟨_,Y,b3,b2,Y,le2 _ _ hK1,hK2,Y⟩
abbrev aIU:List UInt8:=[102,114,111,109]
abbrev txTo:List UInt8:=[116,111]
def aET(x:List UInt8)(K:Hl)(hs:x.length≤140737488351232):Sp x3 213 [str x] K [] (Val (i64 (oneOf 7 [aIU,txTo] (eD x))) K):=by
 refine(aWJ (R:=fun e L'=>e=.returned (i64 (oneOf 7 [aIU,txTo] (eD x)))∧L'=[]) ?_).mono fun e K' L' ⟨h1,h2,h3⟩=>⟨h2,h1,h3⟩
 refine bN Tryz.func213 Y Tryz.ntmps213 Y Y fun F w=>?_;refine zz7 ?_;refine cJ (bM (z0:=[(str []),(str [])]) cB tz9 Y Y Y Y dF) Y ?_;rintro _ K _ ⟨b3,rfl,rfl,rfl⟩ -;refine kL fun K1 le1 hK1=>?_;refine bA Y Y (qE 7 _ _ Y) .nil Y ?_;rintro _ K2 _ ⟨c1,c2,rfl,hc1,hc2,rfl⟩ le2;refine zz1 ?_;refine cN Y Y (kB x _ hs) Y ?_;refine cN Y Y (oW (eD x) 7 [aIU,txTo] _ c1 c2 _ hc1 hc2 (.inr ⟨b3,0,2,[str aIU,str txTo],(0,0),Y,⟨_,le2 _ _ hK1⟩,Y⟩) (by simp)) Y (zz4 ?_);refine uAf ?_;refine bI Y Y (x6 le1 le2) ?_;exact⟨Y,Y⟩
def aA7{β:Type}{P:Program}{f:FuncId}{args:List Value}{K:Hl}{L:List Asn}{r:Res β}{N:β→Value→List Asn→Prop}(h:Sp P f args K L (kH r fun x v _ L'=>N x v L')):
  Sp P f args K L (kH r fun x v K' L'=>K'=K∧N x v L'):=by
 refine(aWJ (R:=fun e L'=>kH r (fun x v _ L'=>N x v L') e K L') (h.mono fun e K' L' h1=>?_)).mono fun e K' L' ⟨h1,h2⟩=>?_
 ·unfold kH at h1 ⊢;cases r with
  |ok x=>exact h1
  |error p=>exact h1
 unfold kH at h2 ⊢;cases r with
 |ok x=>obtain⟨v,e1,e2⟩:=h2;exact⟨v,e1,h1,e2⟩
 |error p=>exact h2
def nF(b:Nat)(s:List UInt8)(st:St)(rest:List Value)(x:List UInt8)(K:Hl)(hs:s.length≤600)(ha:st.1≤s.length)(hg:Glob K):
  Sp x3 113 [ptr b,str x] K [psb b s st rest] (kH (Syn.sign s st x) fun r v K' L'=>K'=K∧v=.tuple #[]∧L'=[psb b s r rest]):=
 aA7 (N:=fun(r:St) v L'=>v=.tuple #[]∧L'=[psb b s r rest]) (aKQ b s st rest x K hs ha hg)
def wA(b:Nat)(s:List UInt8)(st:St)(rest:List Value)(fn:FuncId)(caps:Array Value)(ff:List UInt8→Int)(K:Hl)(hs:s.length≤600)(hok:Ok s st)(hg:Glob K)
  (hf:∀x:List UInt8,x.length≤600→Sp x3 fn (str x::caps.toList) K [] (Val (i64 (ff x)) K)):
  Sp x3 111 [ptr b,.func (.func fn) #[] caps] K [psb b s st rest] (kH (Syn.list s st ff) fun r v K' L'=>K'=K∧L'=[sl false (a7 9) v r.1,psb b s r.2 rest]):=
 aA7 (N:=fun(r:List (List UInt8)×St) v L'=>L'=[sl false (a7 9) v r.1,psb b s r.2 rest]) (aYL b s st rest fn caps ff K hs hok hg hf)
def bGR{s:List UInt8}{st:St}{k:Nat}{texts:List (List UInt8)}{r:Word×St}(hok:Ok s st)(h:take s st k texts=.ok r):r.1.s.length≤s.length:=by
 unfold take at h;split at h
 ·cases h
 split at h
 ·cases h
 cases h;exact hok.2
def bGZ{s:List UInt8}{st:St}{ff:List UInt8→Int}{r:List UInt8×St}(hok:Ok s st)(h:Syn.text s st ff=.ok r):r.1.length≤s.length:=by
 unfold Syn.text at h;split at h
 ·cases h
 split at h
 ·cases h
 rename_i q hq;cases h
 exact bGR hok hq
def aZ5(xs:List (List UInt8))(x:List UInt8): -1≤dW xs x∧dW xs x≤xs.length:=by
 unfold dW;cases h:xs.findIdx? (fun y=>decide (x=y))with
 |some i=>rw[xA8]at h;obtain⟨hi,_⟩:=h;exact⟨by show -1≤(i:Int);omega,by show (i:Int)≤_;omega⟩
 |none=>exact⟨by show (-1:Int)≤ -1;omega,by show (-1:Int)≤_;omega⟩
def bF6(b:Nat)(s:List UInt8)(st:St)(at_ dp:Int)(nv:Value)(rest:List Value)(needs:List (List UInt8))(K:Hl)(hs:s.length≤600)(hok:Ok s st)(hg:Glob K)(hv:Ksl (a7 9) K nv needs)(hn:needs.length≤1000000):
    Sp x3 153 [ptr b,i64 at_,i64 dp] K [psb b s st (nv::rest)]
      (kH (setC s needs st) fun r v K' L'=>K'=K∧v=.iface 284 (.agg #[str r.1.name,str r.1.value,i64 r.1.tag])∧L'=[psb b s r.2 (nv::rest)]):=by
  refine aA7 (N:=fun(r:SetC×St) v L'=>v=.iface 284 (.agg #[str r.1.name,str r.1.value,i64 r.1.tag])∧L'=[psb b s r.2 (nv::rest)]) ?_;have ha:=hok.1;refine bN Tryz.func153 Y Tryz.ntmps153 Y Y fun F w=>?_;refine zz8 ?_;refine cA Y Y (aA1 b s st nv rest needs eB _ hv hn) bS Y (fun _ _=>cF _ _) ?_ ?_
  · rintro _ _ _ hT le1;obtain⟨e,p,hr,fb,h,rfl⟩:=cG hT;cases h
    refine uAa ?_;refine zz2 ?_;have hm:¬eB∈needs:=(by intro h;rw[x7 h]at hr;cases hr);rw[x5 hm]at hr;cases hr
    unfold setC;rw[x5 hm];exact⟨fb,Y,Y⟩
  rintro _ K _ hT -;obtain⟨u0,hu,rfl,rfl,rfl⟩:=cH hT;have hm:eB∈needs:=xAZ (fun h=>by rw[x5 h]at hu;cases hu);refine zz7 ?_;refine cA Y Y (fN b 213 s st.1 _ _ _ _ (nv::rest) hs ha _ hg) bS Y (fun _ _=>cF _ _) ?_ ?_
  · rintro _ _ _ hT2 le1;obtain⟨e,p,hr,fb,h,rfl⟩:=cG hT2;cases h
    refine uAa ?_;refine zz2 ?_;unfold setC;rw[x7 hm,hr];exact⟨fb,Y,Y⟩
  rintro _ K _ hT2 -;obtain⟨r,hr,rfl,rfl,rfl⟩:=cH hT2;have hro:=fX ha hr;refine zz4 ?_;refine aA (dG bPC bNJ .nil) Y (zz1 ?_);rintro _ K _ ⟨b7,rfl,rfl,rfl⟩ -;refine cD (cX aNI Y Y Y bR gC1 (.cons (.cons (.cons .nil))) gC8) ?_;rintro _ K _ ⟨rfl,rfl⟩ -;refine zz2 ?_;refine aNF (fun(tag:Int) (st2:St)=>lF s r=.ok (tag,st2)∧Ok s st2) (fun _ _=>[(0,ptr b),(7,ptr b7)]) (fun _ _=>K) (fun tag st2=>[pt b7 (bL [str [],str [],i64 tag] 284),psb b s st2 (nv::rest)]) ?_ ?_
  · refine zz11 ?_;refine aY 21 Y (fun h21=>?_) (fun h21=>?_)
    · refine zz2 ?_;refine cJ (bM (z0:=[(str []),(str []),(str [])]) cB tz9 Y Y Y Y dF) Y ?_;rintro _ K _ ⟨b22,rfl,rfl,rfl⟩ -;refine zz6 ?_;refine bA Y Y (yD _ r.2.s [fU,gH,gE] _ [pt b22 (bL [str fU,str gH,str gE] 9)] (.blk aL Y Y) (by simp)) bS Y ?_;rintro _ K _ ⟨rfl,rfl,rfl⟩ -;have hix: -1≤dW [fU,gH,gE] r.2.s∧dW [fU,gH,gE] r.2.s≤3:=aZ5 _ _;refine zz2 ?_;refine uAb ?_;rintro _ K _ ⟨rfl,rfl⟩ -;refine zz10 ?_;refine aY 34 Y (fun h34=>?_) (fun h34=>?_)
      · refine zz2 ?_;refine cA Y Y (lW b s r (nv::rest) _) bS Y gC6 ?_ ?_
        · rintro _ _ _ ⟨fb,h,rfl⟩ le1;cases h
          refine uAa ?_;refine zz3 ?_;have hst:lF s r=.error (4,r.2.at_):=(by unfold lF;rw[x7 aH,x7 aH]);unfold setC;rw[x7 hm,hr];simp only[hst];exact⟨fb,Y,Y⟩
        rintro _ _ _ ⟨_,h,_⟩;cases h
      refine zz6 ?_;refine cA Y Y (fN b 213 s r.1 _ _ _ _ (nv::rest) hs hro.1 _ hg) bS Y (fun _ _=>cF _ _) ?_ ?_
      · rintro _ _ _ hT2 le1;obtain⟨e,p,hr2,fb,h,rfl⟩:=cG hT2;cases h
        refine uAa ?_;refine zz2 ?_;have hst:lF s r=.error (e,p):=(by unfold lF;rw[x7 aH,x5 aH,hr2]);unfold setC;rw[x7 hm,hr];simp only[hst];exact⟨fb,Y,Y⟩
      rintro _ K _ hT2 -;obtain⟨r2,hr2,rfl,rfl,rfl⟩:=cH hT2;refine aG ?_
      first
        | (have hst : lF s r = .ok (1 + dW [fU, gH, gE] r.2.s, r2) := (by unfold lF; rw [x7 aH, x5 aH, hr2])
           refine uAj ?_;exact eV _ r2 ⟨hst,fX hro.1 hr2⟩ aS Y (fun _ h=>h))
        | (have hst : lF s r = .ok (0, r) := (by unfold lF; rw [x5 aH])
           exact eV 0 r ⟨hst,hro⟩ aS Y (fun _ h=>h))
    refine aW ?_
    first
      | (have hst : lF s r = .ok (1 + dW [fU, gH, gE] r.2.s, r2) := (by unfold lF; rw [x7 aH, x5 aH, hr2])
         refine uAj ?_;exact eV _ r2 ⟨hst,fX hro.1 hr2⟩ aS Y (fun _ h=>h))
      | (have hst : lF s r = .ok (0, r) := (by unfold lF; rw [x5 aH])
         exact eV 0 r ⟨hst,hro⟩ aS Y (fun _ h=>h))
  intro tag st2 ⟨ht,hok2⟩;have hsc:setC s needs st=nW s (tag,st2):=(by unfold setC;rw[x7 hm,hr];simp only[ht]);refine zz3 ?_;refine cA Y Y (n4 b s st2 (nv::rest) 210 #[] (fun x=>if named x=true then 0 else 7) _ hs hok2.1 hok2.2 hg (fun x hx=>bAC x _ aH)) bS Y (fun _ _=>cF _ _) ?_ ?_
  · rintro _ _ _ hT3 le1;obtain⟨e,p,h3,fb,h,rfl⟩:=cG hT3;cases h
    refine uAa ?_;refine zz2 ?_;rw[hsc];unfold nW;rw[h3];exact⟨fb,Y,Y⟩
  rintro _ K _ hT3 -;obtain⟨n,h3,rfl,rfl,rfl⟩:=cH hT3;have hok3:=pP hok2.1 h3;refine cN Y Y (kB _ _ (by have:=bGZ hok2 h3;omega)) Y (zz1 ?_);refine cD (bX ts9 Y Y dA bR .zero Y) ?_;rintro _ K _ ⟨rfl,rfl⟩ -;refine zz5 ?_;refine cA Y Y (n4 b s n.2 (nv::rest) 167 #[] (fun _=>0) _ hs hok3.1 hok3.2 hg (fun x hx=>n9 x _)) bS Y (fun _ _=>cF _ _) ?_ ?_
  · rintro _ _ _ hT4 le1;obtain⟨e,p,h4,fb,h,rfl⟩:=cG hT4;cases h
    refine uAa ?_;refine zz2 ?_;rw[hsc];unfold nW;simp only[h3,h4];exact⟨fb,Y,Y⟩
  rintro _ K _ hT4 -;obtain⟨v,h4,rfl,rfl,rfl⟩:=cH hT4;have hok4:=pP hok3.1 h4;refine zz1 ?_;refine uAi ?_;rintro _ K _ ⟨rfl,rfl⟩ -;refine zz5 ?_;refine cA Y Y (nF b s v.2 (nv::rest) [59] _ hs hok4.1 hg) bS Y (fun _ _=>cF _ _) ?_ ?_
  · rintro _ _ _ hT5 le1;obtain⟨e,p,h5,fb,h,rfl⟩:=cG hT5;cases h
    refine uAa ?_;refine zz2 ?_;rw[hsc];unfold nW;simp only[h3,h4,h5];exact⟨fb,Y,Y⟩
  rintro _ K _ hT5 -;obtain⟨q,h5,rfl,rfl,rfl⟩:=cH hT5;refine zz5 ?_;refine aA (fE Tryz.underlying284 (fun _ h=>by cases h) Y) Y (zz4 ?_);refine uAa ?_;refine zz1 ?_;have hfin:nW s (tag,st2)=.ok (⟨eD n.1,v.1,tag⟩,q):=(by unfold nW;simp only[h3,h4,h5]);rw[hsc,hfin];exact⟨_,Y,Y,Y⟩
def zG(xs:List (List UInt8))(x:List UInt8): -1≤dW xs x∧dW xs x < xs.length:=by
 unfold dW;cases h:xs.findIdx? (fun y=>decide (x=y))with
 |some i=>rw[xA8]at h;obtain⟨hi,_⟩:=h;exact⟨by show -1≤(i:Int);omega,by show (i:Int) < _;omega⟩
 |none=>exact⟨by show (-1:Int)≤ -1;omega,by show (-1:Int) < _;omega⟩
def bK3{op:Int}(h:op=7)(x:List UInt8):nD op x=Syn.oneOf 7 [aIU,txTo] (eD x):=by unfold nD;rw[x7 h]
def bK2{op:Int}(h:¬op=7)(x:List UInt8):nD op x=0:=by unfold nD;rw[x5 h]
def aAZ(b:Nat)(s:List UInt8)(st:St)(op:Int)(ext:List UInt8)(nv:Value)(rest:List Value)(needs:List (List UInt8))(K:Hl)(hs:s.length≤600)(hok:Ok s st)(hg:Glob K)(hv:Ksl (a7 9) K nv needs)(hn:needs.length≤1000000):
    Sp x3 163 [ptr b,i64 op,str ext] K [psb b s st (nv::rest)]
      (kH (l9 s needs op ext st) fun r v K' L'=>Rep1 K' r.1 v∧L'=[psb b s r.2 (nv::rest)]):=by
  have ha:=hok.1;refine bN Tryz.func163 Y Tryz.ntmps163 Y Y fun F w=>?_;refine zz5 ?_;refine dX (fun(_:Unit)=>¬(ext≠[]∧ext∉needs)) (fun _=>[(0,ptr b),(1,i64 op),(2,str ext)]) (fun _=>K) (fun _=>[psb b s st (nv::rest)]) ?_ ?_
  · refine zz6 ?_;refine aY 12 Y (fun h12=>?_) (fun h12=>?_)
    · refine zz3 ?_;refine cA Y Y (aA1 b s st nv rest needs ext _ hv hn) bS Y (fun _ _=>cF _ _) ?_ ?_
      · rintro _ _ _ hTr le1;obtain⟨e,p,hu,fb,h,rfl⟩:=cG hTr;cases h
        refine uAa ?_;refine zz2 ?_;have hm:¬ext∈needs:=gD9;rw[x5 hm]at hu;cases hu
        unfold l9;rw[x7 ⟨h12,hm⟩];exact⟨fb,Y,Y⟩
      rintro _ K _ hTr -;obtain⟨u0,hu,rfl,rfl,rfl⟩:=cH hTr;clear hTr;have hm:ext∈needs:=xAZ (fun h=>by rw[x5 h]at hu;cases hu);have hne:¬(ext≠[]∧ext∉needs):=fun h=>h.2 hm
      refine aG ?_;exact a8 () hne aS Y (fun _ h=>h)
    have hne:¬(ext≠[]∧ext∉needs):=fun h=>h12 h.1
    refine aW ?_;exact a8 () hne aS Y (fun _ h=>h)
  intro _ hne;refine zz5 ?_;refine cA Y Y (fN b 213 s st.1 _ _ _ _ (nv::rest) hs ha _ hg) bS Y (fun _ _=>cF _ _) ?_ ?_
  · rintro _ _ _ hTr le1;obtain⟨e,p,hr,fb,h,rfl⟩:=cG hTr;cases h
    refine uAa ?_;refine zz2 ?_;simp only[l9,hne,hr,if_true,if_false,↓reduceIte];exact⟨fb,Y,Y⟩
  rintro _ K _ hTr -;obtain⟨r,hr,rfl,rfl,rfl⟩:=cH hTr;clear hTr;have hro:=fX ha hr;refine zz5 ?_;refine aA (dG bPG bNN dF) Y (zz1 ?_);rintro _ K _ ⟨b7,rfl,rfl,rfl⟩ -;refine cD (cX aNK Y Y Y bR gC1 (.cons (.cons (.cons (.cons (.cons .nil))))) gC8) ?_;rintro _ K _ ⟨rfl,rfl⟩ -;refine zz9 ?_;refine iR (fun(hw:How) (st2:St)=>Ok s st2∧(0≤hw.tag∧hw.tag≤3)∧∃f,mu s st2≤f∧l9 s needs op ext st=mI s op (gT s (f+1) hw st2)) (fun hw _=>[(0,ptr b),(1,i64 op),(7,ptr b7),(8,.bool hw.cmp)]) (fun _ _=>K) (fun hw st2=>[pt b7 (bL [i64 hw.tag,.bool hw.oct,i64 op,.slice none 0 0,.slice none 0 0] 333),psb b s st2 (nv::rest)]) (fun _ st2=>mu s st2) ⟨false,0,false⟩ r ⟨hro,⟨Int.le_refl 0,by decide⟩,mu s r,xAA _,by simp only[l9,hne,if_false,hr]⟩ aS Y (fun _ h=>h) ?_;intro hw st2 ⟨hok2,ht,f,hf,hx⟩;refine zz12 ?_;refine aY 28 Y (fun h28=>?_) (fun h28=>?_)
  · have g28:st2.2.kind=2:=by omega
    refine zz5 ?_;refine cJ (bM (z0:=[(str []),(str []),(str []),(str [])]) cB tz9 Y Y Y Y dF) Y ?_;rintro _ K _ ⟨b29,rfl,rfl,rfl⟩ -;refine zz6 ?_;refine bA Y Y (yD _ st2.2.s eT _ [pt b29 (bL [str txIs,str mP,str o4,str mO] 9)] (.blk aL Y Y) (by simp[eT])) bS Y ?_;rintro _ K _ ⟨rfl,rfl,rfl⟩ -;have hix: -1≤dW eT st2.2.s∧dW eT st2.2.s < 4:=zG _ _;refine zz12 ?_;refine aY 49 Y (fun h49=>?_) (fun h49=>?_)
    · have g49:dW eT st2.2.s= -1:=by omega
      refine zz2 ?_;refine cA Y Y (lW b s st2 (nv::rest) _) bS Y gC6 ?_ ?_
      · rintro _ _ _ ⟨fb,h,rfl⟩ le1;cases h
        refine uAa ?_;refine zz6 ?_;simp only[hx,gT,g28,g49,if_true,if_false,↓reduceIte];exact⟨fb,Y,Y⟩
      rintro _ _ _ ⟨_,h,_⟩;cases h
    have g49:¬dW eT st2.2.s= -1:=by omega
    refine zz6 ?_;refine bV 57 Y (fun g57=>?_) (fun g57=>?_)
    · refine zz6 ?_
      first|refine aY 54 Y (fun h54=>?_) (fun h54=>?_)|refine d9 54 Y (fun h54=>?_) (fun h54=>?_)
      · refine zz10 ?_;have hcond:(dW eT st2.2.s=3∧hw.cmp=true)∨(dW eT st2.2.s < 3∧hw.tag≠0):=gEU;refine cA Y Y (iD 7 st2.2.at_ _) .nil Y gC6 ?_ ?_
        · rintro _ _ _ ⟨fb,h,rfl⟩ le1;cases h
          refine uAa ?_;refine zz6 ?_;simp only[hx,gT,g28,g49,if_pos hcond,if_true,if_false];exact⟨fb,Y,Y⟩
        rintro _ _ _ ⟨_,h,_⟩;cases h
      refine zz4 ?_;refine bV 62 Y (fun g62=>?_) (fun g62=>?_)
      · refine zz12 ?_
        first|refine aY 54 Y (fun h54=>?_) (fun h54=>?_)|refine d9 54 Y (fun h54=>?_) (fun h54=>?_)
        · refine zz7 ?_;have hcond:(dW eT st2.2.s=3∧hw.cmp=true)∨(dW eT st2.2.s < 3∧hw.tag≠0):=gEU;refine cA Y Y (iD 7 st2.2.at_ _) .nil Y gC6 ?_ ?_
          · rintro _ _ _ ⟨fb,h,rfl⟩ le1;cases h
            refine uAa ?_;refine zz6 ?_;simp only[hx,gT,g28,g49,if_pos hcond,if_true,if_false];exact⟨fb,Y,Y⟩
          rintro _ _ _ ⟨_,h,_⟩;cases h
        refine zz7 ?_;refine aY 75 Y (fun h75=>?_) (fun h75=>?_)
        · have g75:dW eT st2.2.s < 3:=by omega
          have hcond:¬((dW eT st2.2.s=3∧hw.cmp=true)∨(dW eT st2.2.s < 3∧hw.tag≠0)):=gDS;refine zz5 ?_;refine uAm ?_;rintro _ K _ ⟨rfl,rfl⟩ -;refine zz6 ?_;refine cA Y Y (fN b 213 s st2.1 _ _ _ _ (nv::rest) hs hok2.1 _ hg) bS Y (fun _ _=>cF _ _) ?_ ?_
          · rintro _ _ _ hTr le1;obtain⟨e,p,hr2,fb,h,rfl⟩:=cG hTr;cases h
            refine uAa ?_;refine zz6 ?_;simp only[hx,gT,g28,g49,if_neg hcond,if_pos g75,hr2,if_true,if_false,↓reduceIte];exact⟨fb,Y,Y⟩
          rintro _ K _ hTr -;obtain⟨r2,hr2,rfl,rfl,rfl⟩:=cH hTr;clear hTr;have hok3:=fX hok2.1 hr2;refine zz3 ?_
          first
            | (have hm2 := gY hok2.1 aH hr2; obtain ⟨f0, rfl⟩ : ∃ f0, f = f0 + 1 := ⟨f - 1, by omega⟩
               refine uAj ?_;refine cW ⟨hw.cmp,1+dW eT st2.2.s,hw.oct⟩ r2 ⟨hok3,⟨by simp only[];omega,by simp only[];omega⟩,f0,by omega,?_⟩ aH aS Y (fun _ h=>h)
               simp only[hx,gT,g28,g49,if_neg hcond,if_pos g75,hr2,if_true,if_false,↓reduceIte])
            | (have hm2 := gY hok2.1 aH hr3; have hm3 := lX hok3.1 hx4; obtain ⟨f0, rfl⟩ : ∃ f0, f = f0 + 1 := ⟨f - 1, by omega⟩
               refine uAj ?_;refine o7 (x6 leA leB) ?_;refine cW ⟨true,hw.tag,decide (x.1=dN)⟩ x.2 ⟨hok4,ht,f0,by omega,?_⟩ aH aS Y (fun _ h=>h)
               simp only[hx,gT,g28,g49,if_neg hcond,if_pos g75,hr2,if_true,if_false,↓reduceIte])
        have g75:¬dW eT st2.2.s < 3:=by omega
        have hcond:¬((dW eT st2.2.s=3∧hw.cmp=true)∨(dW eT st2.2.s < 3∧hw.tag≠0)):=gDS;refine zz10 ?_;refine cA Y Y (fN b 213 s st2.1 _ _ _ _ (nv::rest) hs hok2.1 _ hg) bS Y (fun _ _=>cF _ _) ?_ ?_
        · rintro _ _ _ hTr le1;obtain⟨e,p,hr3,fb,h,rfl⟩:=cG hTr;cases h
          refine uAa ?_;refine zz7 ?_;simp only[hx,gT,g28,g49,if_neg hcond,if_neg g75,hr3,if_true,if_false,↓reduceIte];exact⟨fb,Y,Y⟩
        rintro _ K _ hTr -;obtain⟨r3,hr3,rfl,rfl,rfl⟩:=cH hTr;clear hTr;have hok3:=fX hok2.1 hr3;refine zz4 ?_;refine cJ (bM (z0:=[(str []),(str [])]) cB tz9 Y Y Y Y dF) Y ?_;rintro _ K _ ⟨b43,rfl,rfl,rfl⟩ -;refine kL fun K1 leA hK1=>?_;refine bA Y Y (qE 7 _ _ Y) .nil Y ?_;rintro _ K2 _ ⟨c1,c2,rfl,hc1,hc2,rfl⟩ leB;refine cA Y Y (n4 b s r3 (nv::rest) 182 #[ptr c1,ptr c2] (Syn.oneOf 7 [dN,dE]) _ hs hok3.1 hok3.2 (hg.mono (x6 leA leB)) (fun x hx=>oW x 7 [dN,dE] _ c1 c2 _ hc1 hc2 (.inr ⟨b43,0,2,[str dN,str dE],(0,0),Y,⟨_,leB _ _ hK1⟩,Y⟩) (by simp))) bS Y (fun _ _=>cF _ _) ?_ ?_
        · rintro _ _ _ hTr le1;obtain⟨e,p,hx4,fb,h,rfl⟩:=cG hTr;cases h
          refine uAa ?_;refine zz5 ?_;refine cK (x6 leA (x6 leB le1)) ?_;simp only[hx,gT,g28,g49,if_neg hcond,if_neg g75,hr3,hx4,if_true,if_false,↓reduceIte];exact⟨fb,Y,Y⟩
        rintro _ K _ hTr -;obtain⟨x,hx4,rfl,rfl,rfl⟩:=cH hTr;clear hTr;have hok4:=pP hok3.1 hx4;refine zz3 ?_;refine uAk ?_;rintro _ K _ ⟨rfl,rfl⟩ -;refine zz3 ?_
        first
          | (have hm2 := gY hok2.1 aH hr2; obtain ⟨f0, rfl⟩ : ∃ f0, f = f0 + 1 := ⟨f - 1, by omega⟩
             refine uAj ?_;refine cW ⟨hw.cmp,1+dW eT st2.2.s,hw.oct⟩ r2 ⟨hok3,⟨by simp only[];omega,by simp only[];omega⟩,f0,by omega,?_⟩ aH aS Y (fun _ h=>h)
             simp only[hx,gT,g28,g49,if_neg hcond,if_neg g75,hr3,hx4,if_true,if_false,↓reduceIte])
          | (have hm2 := gY hok2.1 aH hr3; have hm3 := lX hok3.1 hx4; obtain ⟨f0, rfl⟩ : ∃ f0, f = f0 + 1 := ⟨f - 1, by omega⟩
             refine uAj ?_;refine o7 (x6 leA leB) ?_;refine cW ⟨true,hw.tag,decide (x.1=dN)⟩ x.2 ⟨hok4,ht,f0,by omega,?_⟩ aH aS Y (fun _ h=>h)
             simp only[hx,gT,g28,g49,if_neg hcond,if_neg g75,hr3,hx4,if_true,if_false,↓reduceIte])
      refine zz16 ?_;refine aY 75 Y (fun h75=>?_) (fun h75=>?_)
      · have g75:dW eT st2.2.s < 3:=by omega
        have hcond:¬((dW eT st2.2.s=3∧hw.cmp=true)∨(dW eT st2.2.s < 3∧hw.tag≠0)):=gDS;refine zz5 ?_;refine uAm ?_;rintro _ K _ ⟨rfl,rfl⟩ -;refine zz6 ?_;refine cA Y Y (fN b 213 s st2.1 _ _ _ _ (nv::rest) hs hok2.1 _ hg) bS Y (fun _ _=>cF _ _) ?_ ?_
        · rintro _ _ _ hTr le1;obtain⟨e,p,hr2,fb,h,rfl⟩:=cG hTr;cases h
          refine uAa ?_;refine zz6 ?_;simp only[hx,gT,g28,g49,if_neg hcond,if_pos g75,hr2,if_true,if_false,↓reduceIte];exact⟨fb,Y,Y⟩
        rintro _ K _ hTr -;obtain⟨r2,hr2,rfl,rfl,rfl⟩:=cH hTr;clear hTr;have hok3:=fX hok2.1 hr2;refine zz3 ?_
        first
          | (have hm2 := gY hok2.1 aH hr2; obtain ⟨f0, rfl⟩ : ∃ f0, f = f0 + 1 := ⟨f - 1, by omega⟩
             refine uAj ?_;refine cW ⟨hw.cmp,1+dW eT st2.2.s,hw.oct⟩ r2 ⟨hok3,⟨by simp only[];omega,by simp only[];omega⟩,f0,by omega,?_⟩ aH aS Y (fun _ h=>h)
             simp only[hx,gT,g28,g49,if_neg hcond,if_pos g75,hr2,if_true,if_false,↓reduceIte])
          | (have hm2 := gY hok2.1 aH hr3; have hm3 := lX hok3.1 hx4; obtain ⟨f0, rfl⟩ : ∃ f0, f = f0 + 1 := ⟨f - 1, by omega⟩
             refine uAj ?_;refine o7 (x6 leA leB) ?_;refine cW ⟨true,hw.tag,decide (x.1=dN)⟩ x.2 ⟨hok4,ht,f0,by omega,?_⟩ aH aS Y (fun _ h=>h)
             simp only[hx,gT,g28,g49,if_neg hcond,if_pos g75,hr2,if_true,if_false,↓reduceIte])
      have g75:¬dW eT st2.2.s < 3:=by omega
      have hcond:¬((dW eT st2.2.s=3∧hw.cmp=true)∨(dW eT st2.2.s < 3∧hw.tag≠0)):=gDS;refine zz10 ?_;refine cA Y Y (fN b 213 s st2.1 _ _ _ _ (nv::rest) hs hok2.1 _ hg) bS Y (fun _ _=>cF _ _) ?_ ?_
      · rintro _ _ _ hTr le1;obtain⟨e,p,hr3,fb,h,rfl⟩:=cG hTr;cases h
        refine uAa ?_;refine zz7 ?_;simp only[hx,gT,g28,g49,if_neg hcond,if_neg g75,hr3,if_true,if_false,↓reduceIte];exact⟨fb,Y,Y⟩
      rintro _ K _ hTr -;obtain⟨r3,hr3,rfl,rfl,rfl⟩:=cH hTr;clear hTr;have hok3:=fX hok2.1 hr3;refine zz4 ?_;refine cJ (bM (z0:=[(str []),(str [])]) cB tz9 Y Y Y Y dF) Y ?_;rintro _ K _ ⟨b43,rfl,rfl,rfl⟩ -;refine kL fun K1 leA hK1=>?_;refine bA Y Y (qE 7 _ _ Y) .nil Y ?_;rintro _ K2 _ ⟨c1,c2,rfl,hc1,hc2,rfl⟩ leB;refine cA Y Y (n4 b s r3 (nv::rest) 182 #[ptr c1,ptr c2] (Syn.oneOf 7 [dN,dE]) _ hs hok3.1 hok3.2 (hg.mono (x6 leA leB)) (fun x hx=>oW x 7 [dN,dE] _ c1 c2 _ hc1 hc2 (.inr ⟨b43,0,2,[str dN,str dE],(0,0),Y,⟨_,leB _ _ hK1⟩,Y⟩) (by simp))) bS Y (fun _ _=>cF _ _) ?_ ?_
      · rintro _ _ _ hTr le1;obtain⟨e,p,hx4,fb,h,rfl⟩:=cG hTr;cases h
        refine uAa ?_;refine zz5 ?_;refine cK (x6 leA (x6 leB le1)) ?_;simp only[hx,gT,g28,g49,if_neg hcond,if_neg g75,hr3,hx4,if_true,if_false,↓reduceIte];exact⟨fb,Y,Y⟩
      rintro _ K _ hTr -;obtain⟨x,hx4,rfl,rfl,rfl⟩:=cH hTr;clear hTr;have hok4:=pP hok3.1 hx4;refine zz3 ?_;refine uAk ?_;rintro _ K _ ⟨rfl,rfl⟩ -;refine zz3 ?_
      first
        | (have hm2 := gY hok2.1 aH hr2; obtain ⟨f0, rfl⟩ : ∃ f0, f = f0 + 1 := ⟨f - 1, by omega⟩
           refine uAj ?_;refine cW ⟨hw.cmp,1+dW eT st2.2.s,hw.oct⟩ r2 ⟨hok3,⟨by simp only[];omega,by simp only[];omega⟩,f0,by omega,?_⟩ aH aS Y (fun _ h=>h)
           simp only[hx,gT,g28,g49,if_neg hcond,if_neg g75,hr3,hx4,if_true,if_false,↓reduceIte])
        | (have hm2 := gY hok2.1 aH hr3; have hm3 := lX hok3.1 hx4; obtain ⟨f0, rfl⟩ : ∃ f0, f = f0 + 1 := ⟨f - 1, by omega⟩
           refine uAj ?_;refine o7 (x6 leA leB) ?_;refine cW ⟨true,hw.tag,decide (x.1=dN)⟩ x.2 ⟨hok4,ht,f0,by omega,?_⟩ aH aS Y (fun _ h=>h)
           simp only[hx,gT,g28,g49,if_neg hcond,if_neg g75,hr3,hx4,if_true,if_false,↓reduceIte])
    refine zz10 ?_;refine bV 62 Y (fun g62=>?_) (fun g62=>?_)
    · refine zz12 ?_
      first|refine aY 54 Y (fun h54=>?_) (fun h54=>?_)|refine d9 54 Y (fun h54=>?_) (fun h54=>?_)
      · refine zz7 ?_;have hcond:(dW eT st2.2.s=3∧hw.cmp=true)∨(dW eT st2.2.s < 3∧hw.tag≠0):=gEU;refine cA Y Y (iD 7 st2.2.at_ _) .nil Y gC6 ?_ ?_
        · rintro _ _ _ ⟨fb,h,rfl⟩ le1;cases h
          refine uAa ?_;refine zz6 ?_;simp only[hx,gT,g28,g49,if_pos hcond,if_true,if_false];exact⟨fb,Y,Y⟩
        rintro _ _ _ ⟨_,h,_⟩;cases h
      refine zz7 ?_;refine aY 75 Y (fun h75=>?_) (fun h75=>?_)
      · have g75:dW eT st2.2.s < 3:=by omega
        have hcond:¬((dW eT st2.2.s=3∧hw.cmp=true)∨(dW eT st2.2.s < 3∧hw.tag≠0)):=gDS;refine zz5 ?_;refine uAm ?_;rintro _ K _ ⟨rfl,rfl⟩ -;refine zz6 ?_;refine cA Y Y (fN b 213 s st2.1 _ _ _ _ (nv::rest) hs hok2.1 _ hg) bS Y (fun _ _=>cF _ _) ?_ ?_
        · rintro _ _ _ hTr le1;obtain⟨e,p,hr2,fb,h,rfl⟩:=cG hTr;cases h
          refine uAa ?_;refine zz6 ?_;simp only[hx,gT,g28,g49,if_neg hcond,if_pos g75,hr2,if_true,if_false,↓reduceIte];exact⟨fb,Y,Y⟩
        rintro _ K _ hTr -;obtain⟨r2,hr2,rfl,rfl,rfl⟩:=cH hTr;clear hTr;have hok3:=fX hok2.1 hr2;refine zz3 ?_
        first
          | (have hm2 := gY hok2.1 aH hr2; obtain ⟨f0, rfl⟩ : ∃ f0, f = f0 + 1 := ⟨f - 1, by omega⟩
             refine uAj ?_;refine cW ⟨hw.cmp,1+dW eT st2.2.s,hw.oct⟩ r2 ⟨hok3,⟨by simp only[];omega,by simp only[];omega⟩,f0,by omega,?_⟩ aH aS Y (fun _ h=>h)
             simp only[hx,gT,g28,g49,if_neg hcond,if_pos g75,hr2,if_true,if_false,↓reduceIte])
          | (have hm2 := gY hok2.1 aH hr3; have hm3 := lX hok3.1 hx4; obtain ⟨f0, rfl⟩ : ∃ f0, f = f0 + 1 := ⟨f - 1, by omega⟩
             refine uAj ?_;refine o7 (x6 leA leB) ?_;refine cW ⟨true,hw.tag,decide (x.1=dN)⟩ x.2 ⟨hok4,ht,f0,by omega,?_⟩ aH aS Y (fun _ h=>h)
             simp only[hx,gT,g28,g49,if_neg hcond,if_pos g75,hr2,if_true,if_false,↓reduceIte])
      have g75:¬dW eT st2.2.s < 3:=by omega
      have hcond:¬((dW eT st2.2.s=3∧hw.cmp=true)∨(dW eT st2.2.s < 3∧hw.tag≠0)):=gDS;refine zz10 ?_;refine cA Y Y (fN b 213 s st2.1 _ _ _ _ (nv::rest) hs hok2.1 _ hg) bS Y (fun _ _=>cF _ _) ?_ ?_
      · rintro _ _ _ hTr le1;obtain⟨e,p,hr3,fb,h,rfl⟩:=cG hTr;cases h
        refine uAa ?_;refine zz7 ?_;simp only[hx,gT,g28,g49,if_neg hcond,if_neg g75,hr3,if_true,if_false,↓reduceIte];exact⟨fb,Y,Y⟩
      rintro _ K _ hTr -;obtain⟨r3,hr3,rfl,rfl,rfl⟩:=cH hTr;clear hTr;have hok3:=fX hok2.1 hr3;refine zz4 ?_;refine cJ (bM (z0:=[(str []),(str [])]) cB tz9 Y Y Y Y dF) Y ?_;rintro _ K _ ⟨b43,rfl,rfl,rfl⟩ -;refine kL fun K1 leA hK1=>?_;refine bA Y Y (qE 7 _ _ Y) .nil Y ?_;rintro _ K2 _ ⟨c1,c2,rfl,hc1,hc2,rfl⟩ leB;refine cA Y Y (n4 b s r3 (nv::rest) 182 #[ptr c1,ptr c2] (Syn.oneOf 7 [dN,dE]) _ hs hok3.1 hok3.2 (hg.mono (x6 leA leB)) (fun x hx=>oW x 7 [dN,dE] _ c1 c2 _ hc1 hc2 (.inr ⟨b43,0,2,[str dN,str dE],(0,0),Y,⟨_,leB _ _ hK1⟩,Y⟩) (by simp))) bS Y (fun _ _=>cF _ _) ?_ ?_
      · rintro _ _ _ hTr le1;obtain⟨e,p,hx4,fb,h,rfl⟩:=cG hTr;cases h
        refine uAa ?_;refine zz5 ?_;refine cK (x6 leA (x6 leB le1)) ?_;simp only[hx,gT,g28,g49,if_neg hcond,if_neg g75,hr3,hx4,if_true,if_false,↓reduceIte];exact⟨fb,Y,Y⟩
      rintro _ K _ hTr -;obtain⟨x,hx4,rfl,rfl,rfl⟩:=cH hTr;clear hTr;have hok4:=pP hok3.1 hx4;refine zz3 ?_;refine uAk ?_;rintro _ K _ ⟨rfl,rfl⟩ -;refine zz3 ?_
      first
        | (have hm2 := gY hok2.1 aH hr2; obtain ⟨f0, rfl⟩ : ∃ f0, f = f0 + 1 := ⟨f - 1, by omega⟩
           refine uAj ?_;refine cW ⟨hw.cmp,1+dW eT st2.2.s,hw.oct⟩ r2 ⟨hok3,⟨by simp only[];omega,by simp only[];omega⟩,f0,by omega,?_⟩ aH aS Y (fun _ h=>h)
           simp only[hx,gT,g28,g49,if_neg hcond,if_neg g75,hr3,hx4,if_true,if_false,↓reduceIte])
        | (have hm2 := gY hok2.1 aH hr3; have hm3 := lX hok3.1 hx4; obtain ⟨f0, rfl⟩ : ∃ f0, f = f0 + 1 := ⟨f - 1, by omega⟩
           refine uAj ?_;refine o7 (x6 leA leB) ?_;refine cW ⟨true,hw.tag,decide (x.1=dN)⟩ x.2 ⟨hok4,ht,f0,by omega,?_⟩ aH aS Y (fun _ h=>h)
           simp only[hx,gT,g28,g49,if_neg hcond,if_neg g75,hr3,hx4,if_true,if_false,↓reduceIte])
    refine zz16 ?_;refine aY 75 Y (fun h75=>?_) (fun h75=>?_)
    · have g75:dW eT st2.2.s < 3:=by omega
      have hcond:¬((dW eT st2.2.s=3∧hw.cmp=true)∨(dW eT st2.2.s < 3∧hw.tag≠0)):=gDS;refine zz5 ?_;refine uAm ?_;rintro _ K _ ⟨rfl,rfl⟩ -;refine zz6 ?_;refine cA Y Y (fN b 213 s st2.1 _ _ _ _ (nv::rest) hs hok2.1 _ hg) bS Y (fun _ _=>cF _ _) ?_ ?_
      · rintro _ _ _ hTr le1;obtain⟨e,p,hr2,fb,h,rfl⟩:=cG hTr;cases h
        refine uAa ?_;refine zz6 ?_;simp only[hx,gT,g28,g49,if_neg hcond,if_pos g75,hr2,if_true,if_false,↓reduceIte];exact⟨fb,Y,Y⟩
      rintro _ K _ hTr -;obtain⟨r2,hr2,rfl,rfl,rfl⟩:=cH hTr;clear hTr;have hok3:=fX hok2.1 hr2;refine zz3 ?_
      first
        | (have hm2 := gY hok2.1 aH hr2; obtain ⟨f0, rfl⟩ : ∃ f0, f = f0 + 1 := ⟨f - 1, by omega⟩
           refine uAj ?_;refine cW ⟨hw.cmp,1+dW eT st2.2.s,hw.oct⟩ r2 ⟨hok3,⟨by simp only[];omega,by simp only[];omega⟩,f0,by omega,?_⟩ aH aS Y (fun _ h=>h)
           simp only[hx,gT,g28,g49,if_neg hcond,if_pos g75,hr2,if_true,if_false,↓reduceIte])
        | (have hm2 := gY hok2.1 aH hr3; have hm3 := lX hok3.1 hx4; obtain ⟨f0, rfl⟩ : ∃ f0, f = f0 + 1 := ⟨f - 1, by omega⟩
           refine uAj ?_;refine o7 (x6 leA leB) ?_;refine cW ⟨true,hw.tag,decide (x.1=dN)⟩ x.2 ⟨hok4,ht,f0,by omega,?_⟩ aH aS Y (fun _ h=>h)
           simp only[hx,gT,g28,g49,if_neg hcond,if_pos g75,hr2,if_true,if_false,↓reduceIte])
    have g75:¬dW eT st2.2.s < 3:=by omega
    have hcond:¬((dW eT st2.2.s=3∧hw.cmp=true)∨(dW eT st2.2.s < 3∧hw.tag≠0)):=gDS;refine zz10 ?_;refine cA Y Y (fN b 213 s st2.1 _ _ _ _ (nv::rest) hs hok2.1 _ hg) bS Y (fun _ _=>cF _ _) ?_ ?_
    · rintro _ _ _ hTr le1;obtain⟨e,p,hr3,fb,h,rfl⟩:=cG hTr;cases h
      refine uAa ?_;refine zz7 ?_;simp only[hx,gT,g28,g49,if_neg hcond,if_neg g75,hr3,if_true,if_false,↓reduceIte];exact⟨fb,Y,Y⟩
    rintro _ K _ hTr -;obtain⟨r3,hr3,rfl,rfl,rfl⟩:=cH hTr;clear hTr;have hok3:=fX hok2.1 hr3;refine zz4 ?_;refine cJ (bM (z0:=[(str []),(str [])]) cB tz9 Y Y Y Y dF) Y ?_;rintro _ K _ ⟨b43,rfl,rfl,rfl⟩ -;refine kL fun K1 leA hK1=>?_;refine bA Y Y (qE 7 _ _ Y) .nil Y ?_;rintro _ K2 _ ⟨c1,c2,rfl,hc1,hc2,rfl⟩ leB;refine cA Y Y (n4 b s r3 (nv::rest) 182 #[ptr c1,ptr c2] (Syn.oneOf 7 [dN,dE]) _ hs hok3.1 hok3.2 (hg.mono (x6 leA leB)) (fun x hx=>oW x 7 [dN,dE] _ c1 c2 _ hc1 hc2 (.inr ⟨b43,0,2,[str dN,str dE],(0,0),Y,⟨_,leB _ _ hK1⟩,Y⟩) (by simp))) bS Y (fun _ _=>cF _ _) ?_ ?_
    · rintro _ _ _ hTr le1;obtain⟨e,p,hx4,fb,h,rfl⟩:=cG hTr;cases h
      refine uAa ?_;refine zz5 ?_;refine cK (x6 leA (x6 leB le1)) ?_;simp only[hx,gT,g28,g49,if_neg hcond,if_neg g75,hr3,hx4,if_true,if_false,↓reduceIte];exact⟨fb,Y,Y⟩
    rintro _ K _ hTr -;obtain⟨x,hx4,rfl,rfl,rfl⟩:=cH hTr;clear hTr;have hok4:=pP hok3.1 hx4;refine zz3 ?_;refine uAk ?_;rintro _ K _ ⟨rfl,rfl⟩ -;refine zz3 ?_
    first
      | (have hm2 := gY hok2.1 aH hr2; obtain ⟨f0, rfl⟩ : ∃ f0, f = f0 + 1 := ⟨f - 1, by omega⟩
         refine uAj ?_;refine cW ⟨hw.cmp,1+dW eT st2.2.s,hw.oct⟩ r2 ⟨hok3,⟨by simp only[];omega,by simp only[];omega⟩,f0,by omega,?_⟩ aH aS Y (fun _ h=>h)
         simp only[hx,gT,g28,g49,if_neg hcond,if_neg g75,hr3,hx4,if_true,if_false,↓reduceIte])
      | (have hm2 := gY hok2.1 aH hr3; have hm3 := lX hok3.1 hx4; obtain ⟨f0, rfl⟩ : ∃ f0, f = f0 + 1 := ⟨f - 1, by omega⟩
         refine uAj ?_;refine o7 (x6 leA leB) ?_;refine cW ⟨true,hw.tag,decide (x.1=dN)⟩ x.2 ⟨hok4,ht,f0,by omega,?_⟩ aH aS Y (fun _ h=>h)
         simp only[hx,gT,g28,g49,if_neg hcond,if_neg g75,hr3,hx4,if_true,if_false,↓reduceIte])
  have g28:¬st2.2.kind=2:=by omega
  refine zz13 ?_;refine uAm ?_;rintro _ K _ ⟨rfl,rfl⟩ -;refine zz7 ?_;refine dX (fun(fn:FuncId)=>∀x:List UInt8,x.length≤600→Sp x3 fn [str x] K [] (Val (i64 (nD op x)) K)) (fun fn=>[(0,ptr b),(7,ptr b7),(10,.func (.func fn) #[] #[])]) (fun _=>K) (fun _=>[pt b7 (bL [i64 (if 1>hw.tag then 1 else hw.tag),.bool hw.oct,i64 op,.slice none 0 0,.slice none 0 0] 333),psb b s st2 (nv::rest)]) ?_ ?_
  · refine zz6 ?_;refine aY 92 Y (fun h92=>?_) (fun h92=>?_)
    · refine zz3 ?_
      first
        |exact a8 213 (fun x hx=>by rw[bK3 h92];exact aET x _ aH) aS Y (fun _ h=>h)
        |exact a8 167 (fun x hx=>by rw[bK2 h92];exact n9 x _) aS Y (fun _ h=>h)
    refine aW ?_
    first
      |exact a8 213 (fun x hx=>by rw[bK3 h92];exact aET x _ aH) aS Y (fun _ h=>h)
      |exact a8 167 (fun x hx=>by rw[bK2 h92];exact n9 x _) aS Y (fun _ h=>h)
  intro fn hfn;refine zz4 ?_;refine cA Y Y (wA b s st2 (nv::rest) fn #[] (nD op) _ hs hok2 hg hfn) bS Y (fun _ _=>cF _ _) ?_ ?_
  · rintro _ _ _ hTr le1;obtain⟨e,p,ha1,fb,h,rfl⟩:=cG hTr;cases h
    refine uAa ?_;refine zz2 ?_;simp only[hx,gT,mI,g28,ha1,if_true,if_false,↓reduceIte];exact⟨fb,Y,Y⟩
  rintro _ K _ hTr -;obtain⟨va,ha1,rfl,rfl⟩:=cH hTr;clear hTr;have hok3:=(oK hok2 ha1).1;refine fZ fun K1 leA hA=>?_;have oA:=hA.one;refine zz1 ?_;refine uAh ?_;rintro _ K _ ⟨rfl,rfl⟩ -;refine zz5 ?_;refine cA Y Y (wA b s va.2 (nv::rest) 167 #[] (fun _=>0) _ hs hok3 (hg.mono leA) (fun x hx=>n9 x _)) bS Y (fun _ _=>cF _ _) ?_ ?_
  · rintro _ _ _ hTr le1;obtain⟨e,p,hb1,fb,h,rfl⟩:=cG hTr;cases h
    refine uAa ?_;refine aV ?_;refine cK (x6 leA le1) ?_;simp only[hx,gT,mI,g28,ha1,hb1,if_true,if_false,↓reduceIte];exact⟨fb,Y,Y⟩
  rintro _ K _ hTr -;obtain⟨vb,hb1,rfl,rfl⟩:=cH hTr;clear hTr;refine fZ fun K2 leB hB=>?_;have oB:=hB.one;refine zz1 ?_;refine uAh ?_;rintro _ K _ ⟨rfl,rfl⟩ -;refine zz5 ?_;refine aA (fE Tryz.underlying333 (fun _ h=>by cases h) Y) Y (zz4 ?_);refine uAa ?_;refine bI Y Y (x6 leA leB) ?_;simp only[hx,gT,mI,g28,ha1,hb1,if_true,if_false,↓reduceIte];exact⟨_,Y,⟨_,_,Y,_,_,hA.mono leB,hB,Y⟩,Y⟩
end Go.Proofs
end
section
namespace Go.Syn
def Adv{α:Type}(s:aP)(T:St→Res (α×St)):Prop:=∀st r,Ok s st→T st=.ok r→Ok s r.2∧mu s r.2 < mu s st
def AdvE{α:Type}(s:aP)(T:St→Res (α×St)):Prop:=∀st r,Ok s st→T st=.ok r→Ok s r.2∧mu s r.2≤mu s st
def AdvN{α:Type}(s:aP)(T:St→Res (α×St)):Prop:=∀st r,Ok s st→st.2.kind≠0→T st=.ok r→Ok s r.2∧mu s r.2 < mu s st
def Adv.n{α:Type}{s:aP}{T:St→Res (α×St)}(h:Adv s T):AdvN s T:=fun st r hok _ e=>h st r hok e
variable{s:aP}
def jO{st r:St}(hok:Ok s st)(hk:st.2.kind≠0)(h:next s st.1=.ok r):Ok s r∧mu s r < mu s st:=⟨fX hok.1 h,(gY hok.1 hk h).1⟩
def u6{st:St}{k:Nat}{texts:List aP}{r:Word×St}(hok:Ok s st)(hk:k≠0)(h:take s st k texts=.ok r):Ok s r.2∧mu s r.2 < mu s st:=⟨aCU hok.1 h,(aNN hok.1 hk h).1⟩
def jQ{st r:St}{x:aP}(hok:Ok s st)(h:sign s st x=.ok r):Ok s r∧mu s r < mu s st:=⟨aFZ hok.1 h,(aM7 hok.1 h).1⟩
def yV{st:St}{x:aP}{r:Bool×St}(hok:Ok s st)(h:eat s st x=.ok r):Ok s r.2∧mu s r.2≤mu s st:=⟨aC9 hok h,(aC8 hok.1 h).2.1⟩
def pO{st:St}{ff:aP→Int}{r:aP×St}(hok:Ok s st)(h:text s st ff=.ok r):Ok s r.2∧mu s r.2 < mu s st:=⟨pP hok.1 h,(lX hok.1 h).1⟩
def aKY:∀ {f:Nat} {h:How} {st:St} {r:How×St},Ok s st→gT s f h st=.ok r→Ok s r.2∧mu s r.2≤mu s st:=by
 intro f;induction f with
 |zero=>intro h st r _ e;cases e
 |succ f ih=>
  intro h st r hok e;simp only[gT]at e;split at e
  ·rename_i hk;split at e
   ·cases e
   split at e
   ·cases e
   split at e
   ·split at e
    ·cases e
    rename_i q hq;have h1:=jO hok aH hq;have:=ih h1.1 e;exact⟨this.1,by omega⟩
   split at e
   ·cases e
   rename_i q hq;have h1:=jO hok aH hq;split at e
   ·cases e
   rename_i x hx;have h2:=pO h1.1 hx;have:=ih h2.1 e;exact⟨this.1,by omega⟩
  cases e;exact⟨hok,xAA _⟩
def aAX{needs:List aP}{op:Int}{ext:aP}:AdvN s (l9 s needs op ext):=by
 intro st r hok hk e;unfold l9 at e;split at e
 ·cases e
 split at e
 ·cases e
 rename_i q hq;have h1:=jO hok hk hq;unfold mI at e;split at e
 ·cases e
 rename_i h hh;have h2:=aKY h1.1 hh;split at e
 ·cases e
 rename_i a ha;have h3:=oK h2.1 ha;split at e
 ·cases e
 rename_i b hb;have h4:=oK h3.1 hb;cases e
 exact⟨h4.1,by simp only[];omega⟩
def yA{c:Tree}:AdvN s (lJ s c):=by
 intro st r hok hk e;unfold lJ at e;split at e
 ·cases e
 rename_i q hq;have h1:=jO hok hk hq;split at e
 ·cases e
 rename_i x hx;have h2:=jQ h1.1 hx;cases e
 exact⟨h2.1,by simp only[];omega⟩
def aF6{needs:List aP}{k:Int}{ext:aP}{p:Int}:AdvN s (actC s needs k ext p):=by
 intro st r hok hk e;unfold actC at e;split at e
 ·cases e
 split at e
 ·cases e
 rename_i q hq;have h1:=jO hok hk hq;split at e
 ·cases e
 rename_i x hx;have h2:=u6 h1.1 (by decide) hx;split at e
 ·cases e
 rename_i y hy;have h3:=jQ h2.1 hy;cases e
 exact⟨h3.1,by simp only[];omega⟩
def aGH{b:Bool}:AdvN s (m9 s b):=by
 intro st r hok hk e;unfold m9 at e;split at e
 ·cases e
 rename_i q hq;have h1:=jO hok hk hq;cases e
 exact⟨h1.1,by simp only[];omega⟩
def aOT:AdvN s (oI s):=by
 intro st r hok hk e;unfold oI at e;split at e
 ·cases e
 rename_i q hq;have h1:=jO hok hk hq;split at e
 ·cases e
 rename_i a ha;have h3:=oK h1.1 ha;cases e
 exact⟨h3.1,by simp only[];omega⟩
def bAK:AdvN s (tE s):=by
 intro st r hok hk e;unfold tE at e;split at e
 ·cases e
 rename_i q hq;have h1:=jO hok hk hq;split at e
 ·cases e
 rename_i x hx;have h2:=u6 h1.1 (by decide) hx;split at e
 ·cases e
 rename_i y hy;have h3:=u6 h2.1 (by decide) hy;cases e
 exact⟨h3.1,by simp only[];omega⟩
def bEC{T:St→Res (Tree×St)}(hT:Adv s T):AdvN s (notC s T):=by
 intro st r hok hk e;unfold notC at e;split at e
 ·cases e
 rename_i q hq;have h1:=jO hok hk hq;split at e
 ·cases e
 rename_i t ht;have h2:=hT _ _ h1.1 ht;cases e
 exact⟨h2.1,by simp only[];omega⟩
def aYZ{T:St→Res (Tree×St)}(hT:Adv s T):∀ {f:Nat} {acc:Tree} {st:St} {r:Tree×St},Ok s st→pS s T f acc st=.ok r→Ok s r.2∧mu s r.2≤mu s st:=by
 intro f;induction f with
 |zero=>intro acc st r _ e;cases e
 |succ f ih=>
  intro acc st r hok e;simp only[pS]at e;split at e
  ·cases e
  rename_i q hq;have h1:=yV hok hq;split at e
  ·split at e
   ·cases e
   rename_i t ht;have h2:=hT _ _ h1.1 ht;have:=ih h2.1 e;exact⟨this.1,by omega⟩
  split at e
  ·cases e
  rename_i y hy;have h2:=jQ h1.1 hy;cases e
  exact⟨h2.1,by simp only[];omega⟩
def aJ7{T:St→Res (Tree×St)}{all:Bool}(hT:Adv s T):AdvN s (pD s T all):=by
 intro st r hok hk e;unfold pD at e;split at e
 ·cases e
 rename_i q hq;have h1:=jO hok hk hq;split at e
 ·cases e
 rename_i x hx;have h2:=jQ h1.1 hx;split at e
 ·cases e
 rename_i t ht;have h3:=hT _ _ h2.1 ht;unfold r8 at e;split at e
 ·cases e
 rename_i l hl;have h4:=aYZ hT h3.1 hl;cases e
 exact⟨h4.1,by simp only[];omega⟩
def bAY{needs:List aP}{T:St→Res (Tree×St)}(hT:Adv s T){st:St}{r:Tree×St}(hok:Ok s st)(hk:st.2.kind≠0)(e:pN s needs T st=some (.ok r)):Ok s r.2∧mu s r.2 < mu s st:=by
 unfold pN at e;simp only[]at e;split at e
 ·exact aGH _ _ hok hk gDL
 split at e
 ·exact aGH _ _ hok hk gDL
 split at e
 ·exact bEC hT _ _ hok hk gDL
 split at e
 ·exact aJ7 hT _ _ hok hk gDL
 split at e
 ·exact aJ7 hT _ _ hok hk gDL
 split at e
 ·exact aAX _ _ hok hk gDL
 split at e
 ·exact aAX _ _ hok hk gDL
 split at e
 ·exact aAX _ _ hok hk gDL
 split at e
 ·exact aOT _ _ hok hk gDL
 split at e
 ·exact bAK _ _ hok hk gDL
 cases e
def nI{needs:List aP}:∀n,Adv s (test s needs n):=by
 intro n;induction n with
 |zero=>intro st r hok e;simp only[test]at e;split at e <;> cases e
 |succ n ih=>
  intro st r hok e;simp only[test]at e;split at e
  ·rename_i hk;split at e
   ·rename_i x hx;subst e;exact bAY ih hok aH hx
   cases e
  cases e
def mX{B:St→Res (Tree×St)}(hB:AdvE s B):Adv s (kV s B):=by
 intro st r hok e;unfold kV at e;split at e
 ·cases e
 rename_i q hq;have h1:=jQ hok hq;split at e
 ·cases e
 rename_i b hb;have h2:=hB _ _ h1.1 hb;split at e
 ·cases e
 rename_i y hy;have h3:=jQ h2.1 hy;cases e
 exact⟨h3.1,by simp only[];omega⟩
def aXW{B:St→Res (Tree×St)}(hB:AdvE s B){acc:Tree}:AdvE s (lC s B acc):=by
 intro st r hok e;unfold lC at e;split at e
 ·rename_i hk;split at e
  ·cases e
  rename_i q hq;have h1:=jO hok aH hq;split at e
  ·cases e
  rename_i b hb;have h2:=mX hB _ _ h1.1 hb;cases e
  exact⟨h2.1,by simp only[];omega⟩
 cases e;exact⟨hok,xAA _⟩
def aSI{T B:St→Res (Tree×St)}(hT:Adv s T)(hB:AdvE s B):∀ {f:Nat} {acc:Tree} {st:St} {r:Tree×St},Ok s st→hO s T B f acc st=.ok r→Ok s r.2∧mu s r.2≤mu s st:=by
 intro f;induction f with
 |zero=>intro acc st r _ e;cases e
 |succ f ih=>
  intro acc st r hok e;simp only[hO]at e;split at e
  ·rename_i hk;split at e
   ·cases e
   rename_i q hq;have h1:=jO hok aH hq;split at e
   ·cases e
   rename_i t ht;have h2:=hT _ _ h1.1 ht;split at e
   ·cases e
   rename_i b hb;have h3:=mX hB _ _ h2.1 hb;have:=ih h3.1 e;exact⟨this.1,by omega⟩
  exact aXW hB _ _ hok e
def bIL{T B:St→Res (Tree×St)}(hT:Adv s T)(hB:AdvE s B):AdvN s (ifC s T B):=by
 intro st r hok hk e;unfold ifC at e;split at e
 ·cases e
 rename_i q hq;have h1:=jO hok hk hq;split at e
 ·cases e
 rename_i t ht;have h2:=hT _ _ h1.1 ht;split at e
 ·cases e
 rename_i b hb;have h3:=mX hB _ _ h2.1 hb;have:=aSI hT hB h3.1 e;exact⟨this.1,by omega⟩
def aQJ{needs:List aP}:AdvN s (setC s needs):=by
 intro st r hok hk e;unfold setC at e;split at e
 ·split at e
  ·cases e
  rename_i q hq;have h1:=jO hok hk hq;split at e
  ·cases e
  rename_i t ht;have h2:Ok s t.2∧mu s t.2≤mu s q:=by
   unfold lF at ht;split at ht
   ·rename_i hk2;split at ht
    ·cases ht
    split at ht
    ·cases ht
    rename_i x hx;cases ht
    have:=jO h1.1 aH hx;exact⟨this.1,by simp only[];omega⟩
   cases ht;exact⟨h1.1,xAA _⟩
  unfold nW at e;split at e
  ·cases e
  rename_i n hn;have h3:=pO h2.1 hn;split at e
  ·cases e
  rename_i v hv;have h4:=pO h3.1 hv;split at e
  ·cases e
  rename_i y hy;have h5:=jQ h4.1 hy;cases e
  exact⟨h5.1,by simp only[];omega⟩
 cases e
def bAD{needs:List aP}:AdvN s (rC s needs):=by
 intro st r hok hk e;unfold rC at e;split at e
 ·cases e
 rename_i q hq;have h1:=aQJ _ _ hok hk hq;cases e
 exact⟨h1.1,by simp only[];omega⟩
def aBI{needs:List aP}{T B:St→Res (Tree×St)}(hT:Adv s T)(hB:AdvE s B){st:St}{r:Tree×St}(hok:Ok s st)(hk:st.2.kind≠0)(e:cmdD s needs T B st=some (.ok r)):Ok s r.2∧mu s r.2 < mu s st:=by
 unfold cmdD at e;simp only[]at e;split at e
 ·exact yA _ _ hok hk gDL
 split at e
 ·exact yA _ _ hok hk gDL
 split at e
 ·exact yA _ _ hok hk gDL
 split at e
 ·exact aF6 _ _ hok hk gDL
 split at e
 ·exact aF6 _ _ hok hk gDL
 split at e
 ·exact aF6 _ _ hok hk gDL
 split at e
 ·exact bAD _ _ hok hk gDL
 split at e
 ·exact bIL hT hB _ _ hok hk gDL
 cases e
def aRV{C:St→Option (Res (Tree×St))}(hC:∀ {st r},Ok s st→st.2.kind≠0→C st=some (.ok r)→Ok s r.2∧mu s r.2 < mu s st):∀ {f:Nat} {acc:Tree} {st:St} {r:Tree×St},Ok s st→kQ s C f acc st=.ok r→Ok s r.2∧mu s r.2≤mu s st:=by
 intro f;induction f with
 |zero=>intro acc st r _ e;cases e
 |succ f ih=>
  intro acc st r hok e;simp only[kQ]at e;split at e
  ·rename_i hk;split at e
   ·cases e
   ·cases e
   rename_i c hc;have h1:=hC hok aH hc;have:=ih h1.1 e;exact⟨this.1,by omega⟩
  cases e;exact⟨hok,xAA _⟩
def sF{needs:List aP}:∀n,AdvE s (block s needs n):=by
 intro n;induction n with
 |zero=>intro st r hok e;simp only[block]at e;split at e <;> cases e;exact⟨hok,xAA _⟩
 |succ n ih=>
  intro st r hok e;simp only[block]at e;exact aRV (fun h1 h2 h3=>aBI (nI n) ih h1 h2 h3) hok e
end Go.Syn
namespace Go.Syn
variable{s:aP}
def aYI{ff:aP→Int}:∀ {f:Nat} {st:St} {acc:List aP} {r:List aP×St},Ok s st→pR s ff f st acc=.ok r→r.1.length+mu s r.2≤acc.length+mu s st:=by
 intro f;induction f with
 |zero=>intro st acc r _ h;cases h
 |succ f ih=>
  intro st acc r hok h;simp only[pR]at h;split at h
  ·cases h
  rename_i q hq;have h1:=yV hok hq;split at h
  ·split at h
   ·cases h
   rename_i x hx;have h2:=pO h1.1 hx;have:=ih h2.1 h;simp at this;omega
  split at h
  ·cases h
  rename_i y hy;have h2:=jQ h1.1 hy;cases h
  simp only[];omega
def xK{ff:aP→Int}{st:St}{r:List aP×St}(hok:Ok s st)(h:list s st ff=.ok r):r.1.length+mu s r.2≤mu s st:=by
 unfold list at h;split at h
 ·cases h
 rename_i q hq;have h1:=yV hok hq;split at h
 ·cases h
 rename_i x hx;have h2:=pO h1.1 hx;split at h
 ·have:=aYI h2.1 h;simp at this;omega
 cases h;simp only[List.length_singleton];omega
def o5:aP:=[114,101,113,117,105,114,101]
def tL:List aP:=[dS,fV,iO,eB]
def addN(ns:List aP)(e:aP):List aP:=if e∈ns then ns else ns++[e]
def jK(ns l:List aP):List aP:=l.foldl addN ns
def kU{ns l:List aP}{i:Nat}{e:aP}(h:l[i]?=some e):jK ns (l.take (i+1))=addN (jK ns (l.take i)) e:=by
 have hi:i < l.length:=by
  rcases xAC i l.length with h'|h'
  ·exact h'
  simp[List.getElem?_eq_none h']at h
 have hc:l[i]=e:=by simpa[List.getElem?_eq_getElem hi]using h
 rw[xAN hi,hc];simp[jK]
def aBB{ns l:List aP}{i:Nat}(h:l.length≤i):jK ns (l.take i)=jK ns l:=by rw[xAI h]
def reqF(s:aP):Nat→List aP→St→Res (List aP×St)
 |0,_,_=>.error (0,0)
 |f+1,ns,st=>
  if st.2.kind=1∧st.2.s=o5 then
   match next s st.1 with
   | .error e=>.error e
   | .ok r=>
    match list s r (oneOf 6 tL)with
    | .error e=>.error e
    | .ok l=>
     match sign s l.2 [59]with
     | .error e=>.error e
     | .ok q=>reqF s f (jK ns l.1) q
  else .ok (ns,st)
def jP(s:aP)(n:Res (List aP×St)):Res (List aP×Tree):=
 match n with
 | .error e=>.error e
 | .ok n=>
  match block s n.1 7 n.2 with
  | .error e=>.error e
  | .ok b=>if b.2.2.kind=0 then .ok (n.1,b.1)else .error (4,b.2.2.at_)
def gN(s:aP):Res (List aP×Tree):=
 match next s 0 with
 | .error e=>.error e
 | .ok r=>jP s (reqF s (mu s r+1) [] r)
end Go.Syn
end

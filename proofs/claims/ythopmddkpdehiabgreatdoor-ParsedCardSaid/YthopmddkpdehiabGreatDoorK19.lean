/-
  What the proof stands on, part 19: the logic of walks, the walks through the functions, the plain laws. Conditions: as each theorem says. (Merged and shortened by a program.)
-/
import Derived.Lib.ItoaLen
import Derived.Test.YthopmddkpdehiabGreatDoorK16
set_option linter.unusedVariables false
set_option linter.unusedSimpArgs false
set_option linter.defProp false
set_option maxRecDepth 4000
set_option maxHeartbeats 1000000
section
namespace Go.Mach
open Go.Syn Go.Proofs
def aC0(vars:List (aP×aP))(k u:aP):(vput vars k u).length≤vars.length+1:=by
 induction vars with
 |nil=>simp[vput]
 |cons a r ih=>unfold vput;split <;> simp;omega
end Go.Mach
end
section
attribute [local irreducible] Go.SL.T Go.SL.OL Go.SL.D Go.SL.DL Go.SL.Ev Go.SL.Ef Go.SL.EfS
namespace Go.Proofs
open Go Go.SL Go.Syn Go.Mach
def letB(c:UInt8):Bool:=(decide (97≤c.toNat)&&decide (c.toNat≤122))||(decide (65≤c.toNat)&&decide (c.toNat≤90))||decide (c.toNat=95)
def digB(c:UInt8):Bool:=decide (48≤c.toNat)&&decide (c.toNat≤57)
def nU(c:UInt8)(K:Hl):Sp x3 82 [.int .u8 c.toNat] K [] (Val (.bool (letB c)) K):=by
 refine bN Tryz.func82 Y Tryz.ntmps82 Y Y fun F w=>?_;refine zz10 ?_;refine bV 5 Y (fun g5=>?_) (fun g5=>?_)
 ·refine zz6 ?_;refine bV 9 Y (fun g9=>?_) (fun g9=>?_)
  ·refine zz16 ?_;refine jW ?_ _
   unfold letB
   generalize c.toNat=y at*
   rw[xAP];simp;omega
  refine zz6 ?_;refine bV 12 Y (fun g12=>?_) (fun g12=>?_)
  ·refine zz8 ?_;refine bV 17 Y (fun g17=>?_) (fun g17=>?_)
   ·refine zz8 ?_;refine jW ?_ _
    unfold letB
    generalize c.toNat=y at*
    rw[xAP];simp;omega
   refine zz10 ?_;refine jW ?_ _
   unfold letB
   generalize c.toNat=y at*
   rw[xAP];simp;omega
  refine zz16 ?_;refine jW ?_ _
  unfold letB
  generalize c.toNat=y at*
  rw[xAP];simp;omega
 refine zz10 ?_;refine bV 12 Y (fun g12=>?_) (fun g12=>?_)
 ·refine zz8 ?_;refine bV 17 Y (fun g17=>?_) (fun g17=>?_)
  ·refine zz8 ?_;refine jW ?_ _
   unfold letB
   generalize c.toNat=y at*
   rw[xAP];simp;omega
  refine zz10 ?_;refine jW ?_ _
  unfold letB
  generalize c.toNat=y at*
  rw[xAP];simp;omega
 refine zz16 ?_;refine jW ?_ _
 unfold letB
 generalize c.toNat=y at*
 rw[xAP];simp;omega
def nE(c:UInt8)(K:Hl):Sp x3 83 [.int .u8 c.toNat] K [] (Val (.bool (digB c)) K):=by
 refine bN Tryz.func83 Y Tryz.ntmps83 Y Y fun F w=>?_;refine zz10 ?_;refine bV 5 Y (fun g5=>?_) (fun g5=>?_)
 ·refine zz10 ?_;refine jW ?_ _
  unfold digB
  generalize c.toNat=y at*
  rw[xAP];simp;omega
 refine zz8 ?_;refine jW ?_ _
 unfold digB
 generalize c.toNat=y at*
 rw[xAP];simp;omega
def nO(c:UInt8):letB c=gP c:=by
 have h:∀n:Fin 256,letB (UInt8.ofNat n.1)=gP (UInt8.ofNat n.1):=by decide+kernel
 simpa using h ⟨c.toNat,c.toNat_lt⟩
def qP(c:UInt8):digB c=gD c:=rfl
def aD0{c:UInt8}(h1:65≤c.toNat)(h2:c.toNat≤90):kA 65 90 32 c=c+32:=x7 ⟨h1,h2⟩
def aIA{c:UInt8}(h:¬(65≤c.toNat∧c.toNat≤90)):kA 65 90 32 c=c:=x5 h
def o0{s:aP}{i:Nat}{c:UInt8}(hc:s[i]?=some c):eD (s.take (i+1))=eD (s.take i)++[kA 65 90 32 c]:=by
 rw[xAX,hc];simp[eD]
def kI(s:List UInt8)(K:Hl)(hs:s.length≤140737488351232):Sp x3 67 [str s] K [] (Val (str (eD s)) K):=by
  refine bN Tryz.func67 Y Tryz.ntmps67 Y Y fun F w=>?_;refine zz17 ?_;refine eH (fun(i:Nat)=>i≤s.length) (fun i=>[(0,str s),(3,str (eD (s.take i))),(4,i64 i)]) (fun _=>K) (fun _=>[]) (fun i=>s.length - i) 0 (x9 _) aS Y (fun _ h=>h) ?_;intro i hi;refine zz9 ?_;refine aY 9 Y (fun h9=>?_) (fun h9=>?_)
  · have hilt:i < s.length:=by omega
    obtain⟨c,hc⟩:∃c,s[i]?=some c:=⟨s[i]'hilt,x4 hilt⟩;have hsl:(eD (s.take i)).length=i:=by rw[mN,xA4];omega
    refine zz18 ?_;refine bV 17 Y (fun g17=>?_) (fun g17=>?_)
    · refine zz7 ?_;refine aY 20 Y (fun h20=>?_) (fun h20=>?_)
      · refine zz2 ?_;refine aA (aVP c 32 Y Y) Y (zz6 ?_);refine cJ (bM (z0:=[.int .u8 0]) iX tz5 Y Y Y Y dF) Y ?_;rintro _ K _ ⟨b25,rfl,rfl,rfl⟩ -;refine aA gDY Y ?_;refine aA (eJ Y Y gEC) Y (zz9 ?_);refine uAf ?_
        first
          | (have ht : kA 65 90 32 c = c + 32 := aD0 aH aH
             exact cM (i+1) aH aH (.cons 0 Y (.cons 3 gF5 aS)) Y (fun _ h=>h))
          | (have ht : kA 65 90 32 c = c := aIA aH
             exact cM (i+1) aH aH (.cons 0 Y (.cons 3 gF5 aS)) Y (fun _ h=>h))
      refine zz5 ?_;refine cJ (bM (z0:=[.int .u8 0]) iX tz5 Y Y Y Y dF) Y ?_;rintro _ K _ ⟨b25,rfl,rfl,rfl⟩ -;refine aA gDY Y ?_;refine aA (eJ Y Y gEC) Y (zz9 ?_);refine uAf ?_
      first
        | (have ht : kA 65 90 32 c = c + 32 := aD0 aH aH
           exact cM (i+1) aH aH (.cons 0 Y (.cons 3 gF5 aS)) Y (fun _ h=>h))
        | (have ht : kA 65 90 32 c = c := aIA aH
           exact cM (i+1) aH aH (.cons 0 Y (.cons 3 gF5 aS)) Y (fun _ h=>h))
    refine zz11 ?_;refine cJ (bM (z0:=[.int .u8 0]) iX tz5 Y Y Y Y dF) Y ?_;rintro _ K _ ⟨b25,rfl,rfl,rfl⟩ -;refine aA gDY Y ?_;refine aA (eJ Y Y gEC) Y (zz9 ?_);refine uAf ?_
    first
      | (have ht : kA 65 90 32 c = c + 32 := aD0 aH aH
         exact cM (i+1) aH aH (.cons 0 Y (.cons 3 gF5 aS)) Y (fun _ h=>h))
      | (have ht : kA 65 90 32 c = c := aIA aH
         exact cM (i+1) aH aH (.cons 0 Y (.cons 3 gF5 aS)) Y (fun _ h=>h))
  have hfin:s.take i=s:=xAI aH;rw[hfin];refine zz12 ?_;refine uAf ?_;refine zz1 ?_;exact⟨Y,Y,Y⟩
def aEX(c:UInt8)(K:Hl):Sp x3 101 [.int .u8 c.toNat] K [] (Val (.bool (fS c)) K):=by
 refine bN Tryz.func101 Y Tryz.ntmps101 Y Y fun F w=>?_;refine zz10 ?_;refine bV 5 Y (fun g5=>?_) (fun g5=>?_)
 ·refine zz16 ?_;refine jW ?_ _
  unfold fS
  generalize c.toNat=y at*
  rw[xAP];simp;omega
 refine zz6 ?_;refine bV 9 Y (fun g9=>?_) (fun g9=>?_)
 ·refine zz12 ?_;refine jW ?_ _
  unfold fS
  generalize c.toNat=y at*
  rw[xAP];simp;omega
 refine zz6 ?_;refine bV 13 Y (fun g13=>?_) (fun g13=>?_)
 ·refine zz8 ?_;refine jW ?_ _
  unfold fS
  generalize c.toNat=y at*
  rw[xAP];simp;omega
 refine zz10 ?_;refine jW ?_ _
 unfold fS
 generalize c.toNat=y at*
 rw[xAP];simp;omega
def aCL:∀(n:Nat),n≤4294967296→∀(K:Hl),Sp x3 69 [i64 n] K [] (Val (str (Lib.decDigits n)) K):=by
 intro n;induction n using Nat.strongRecOn with
 |ind n ih=>
 intro hn K;refine bN Tryz.func69 Y Tryz.ntmps69 Y Y fun F w=>?_;refine zz12 ?_;refine aY 5 Y (fun h5=>?_) (fun h5=>?_)
 ·have hlt:n < 10:=by omega
  have e:Lib.decDigits n=[UInt8.ofNat (48+n)]:=Lib.decDigits_one hlt;refine zz4 ?_;refine aA (kK (v:=.int .u8 ((UInt8.ofNat (48+n)).toNat:Int)) (q5 Tryz.underlying5 Tryz.underlying3 Y) gFN) Y ?_;refine cJ (bM (z0:=[.int .u8 0]) iX tz5 Y Y Y Y dF) Y ?_;rintro _ K _ ⟨b9,rfl,rfl,rfl⟩ -;refine aA (gC (xs:=[UInt8.ofNat (48+n)]) Tryz.underlying142 Tryz.underlying5 Tryz.underlying9 Y (.blk aL Y Y)) Y (zz5 ?_);refine uAf ?_;refine zz1 ?_;rw[e];exact⟨Y,Y,Y⟩
 have hge:¬n < 10:=by omega
 have e:Lib.decDigits n=Lib.decDigits (n / 10)++[UInt8.ofNat (48+n % 10)]:=(by rw[Lib.decDigits,dif_neg hge]);have hm:n % 10 < 10:=Nat.mod_lt _ aH;have hl:(Lib.decDigits (n / 10)).length≤21:=(by rw[←Lib.itoa_nonneg];exact Lib.itoa_length_le _ aH aH);refine zz5 ?_;refine aA (kK (v:=i64 (n / 10:Nat)) (aSP (n:=10) Y Y (by decide)) (by rw[Int.tdiv_eq_ediv_of_nonneg aH,vH aH aH];rfl)) Y ?_;refine cN Y Y (ih (n / 10) aH aH _) Y (zz7 ?_);refine aA (kK (v:=i64 (n % 10:Nat)) (aL7 (n:=10) Y Y (by decide)) (by rw[Int.tmod_eq_emod_of_nonneg aH];rfl)) Y (zz1 ?_);refine aA (kK (v:=.int .u8 ((UInt8.ofNat (48+n % 10)).toNat:Int)) (q5 Tryz.underlying5 Tryz.underlying3 Y) gFN) Y ?_;refine cJ (bM (z0:=[.int .u8 0]) iX tz5 Y Y Y Y dF) Y ?_;rintro _ K _ ⟨b19,rfl,rfl,rfl⟩ -;refine aA (gC (xs:=[UInt8.ofNat (48+n % 10)]) Tryz.underlying142 Tryz.underlying5 Tryz.underlying9 Y (.blk aL Y Y)) Y ?_;refine aA (eJ Y Y gC9) Y (zz4 ?_);refine uAf ?_;refine zz1 ?_;rw[e];exact⟨Y,Y,Y⟩
end Go.Proofs
end
section
namespace Go.Syn
open Go.Proofs
def aNU{s:aP}{p:UInt8→Bool}{i j:Nat}(hij:i≤j)(hj:j≤s.length)(hall:∀m c,i≤m→m < j→s[m]?=some c→p c=true)(hstop:∀c,s[j]?=some c→p c=false):(s.drop i).takeWhile p=(s.drop i).take (j - i):=by
 have e2:i+(j - i)=j:=by omega
 refine Plain.takeWhile_stop p _ _ gC7 ?_ (fun c hc=>hstop c (by rw[xA2,e2]at hc;exact hc))
 rw[xBN];intro x hx;obtain⟨k,hk,e⟩:=List.mem_iff_getElem.1 hx;rw[xA4,xBA]at hk;have:s[i+k]?=some x:=by
  rw[←e,List.getElem_take,List.getElem_drop];exact x4 aH
 exact hall (i+k) x aH aH this
def aF2{s:aP}{p:UInt8→Bool}{i j:Nat}(hij:i≤j)(hj:j≤s.length)(hall:∀m c,i≤m→m < j→s[m]?=some c→p c=true)(hstop:∀c,s[j]?=some c→p c=false):i+((s.drop i).takeWhile p).length=j:=by
 rw[aNU hij hj hall hstop,xA4,xBA];omega
def optB(o:Option UInt8)(f:UInt8→Bool):Bool:=match o with|some c=>f c|none=>false
def s9{o:Option UInt8}{f:UInt8→Bool}(h:optB o f=true):∃c,o=some c∧f c=true:=by
 cases o with
 |none=>cases h
 |some c=>exact⟨c,Y,h⟩
def zA{o:Option UInt8}{f:UInt8→Bool}(h:optB o f=false):∀c,o=some c→f c=false:=by
 rintro c rfl;exact h
def NoC(s:aP)(lo j:Nat):Prop:=∀m,lo≤m→m < j→¬(((s[m]?).getD 0).toNat=42∧((s[m+1]?).getD 0).toNat=47)
def aV2{s:aP}{a j:Nat}(h:NoC s (a+2) j)(ha:a+2≤s.length):Lib.NoOcc (s.drop (min (a+2) s.length)) [42,47] (j - (a+2)):=by
 intro k hk;rw[Nat.min_eq_left ha];cases ho:Lib.occAt (s.drop (a+2)) [42,47] k with
 |false=>rfl
 |true=>
  exfalso
  have h0:=Lib.occAt_head rfl ho;have h1:=Lib.occAt_second rfl ho;rw[xA2]at h0 h1;refine h (a+2+k) aH aH ⟨?_,?_⟩
  ·rw[h0];rfl
  rw[show a+2+k+1=a+2+(k+1)from rfl,h1];rfl
def aLV{s:aP}{a j:Nat}(h:NoC s (a+2) j)(ha:a+2≤j)(hj:j+1 < s.length)(h0:((s[j]?).getD 0).toNat=42)(h1:((s[j+1]?).getD 0).toNat=47):Lib.index (s.drop (min (a+2) s.length)) [42,47]=((j - (a+2):Nat):Int):=by
 refine Lib.index_hit (aV2 h aH) gD6 ?_;rw[Nat.min_eq_left aH];unfold Lib.occAt;rw[List.drop_drop,show a+2+(j - (a+2))=j from by omega];rw[xAR aH,xAR aH];rw[x4 aH]at h0 h1;have e0:s[j]=42:=xAO.1 (by simpa using h0);have e1:s[j+1]=47:=xAO.1 (by simpa using h1);rw[e0,e1];simp
def bCD{s:aP}{a j:Nat}(h:NoC s (a+2) j)(ha:a+2≤s.length)(hj:s.length≤j+1):Lib.index (s.drop (min (a+2) s.length)) [42,47]= -1:=by
 have hk:=aV2 h ha;rcases Lib.index_spec (s.drop (min (a+2) s.length)) [42,47]with ⟨e,_⟩|⟨i,e,hi,ho,_⟩
 ·exact e
 exfalso
 have hr:=Lib.occAt_room ho;rw[xBA]at hr hi;rw[Nat.min_eq_left ha]at hr hi;simp at hr;have:=hk i aH;rw[ho]at this;cases this
def bEB{s:aP}{a:Nat}:NoC s a a:=fun m h1 h2=>by omega
def bEA{s:aP}{a j:Nat}(h:NoC s a j)(hn:¬(((s[j]?).getD 0).toNat=42∧((s[j+1]?).getD 0).toNat=47)):NoC s a (j+1):=fun m h1 h2=>by
 rcases xAC m j with h3|h3
 ·exact h m h1 h3
 have:m=j:=by omega
 subst this;exact hn
end Go.Syn
end
section
attribute [local irreducible] Go.SL.T Go.SL.OL Go.SL.D Go.SL.DL Go.SL.Ev Go.SL.Ef Go.SL.EfS
namespace Go.Proofs
open Go Go.SL Go.Syn Go.Mach
abbrev rtc(b:Nat)(s:List UInt8)(at_ err bad:Int)(wk ws wn wa:Value):Asn:=pt b (bL [str s,i64 at_,i64 err,i64 bad,wk,ws,wn,wa] 120)
abbrev aKK(b:Nat)(s:List UInt8)(e p:Int):Asn:=rtc b s s.length e p (.int .u8 0) (str []) (i64 0) (i64 s.length)
def oS(b:Nat)(s:List UInt8)(at_:Int)(wk ws wn wa:Value)(e p:Int)(K:Hl)(hs:s.length≤140737488351232):Sp x3 54 [ptr b,i64 e,i64 p] K [rtc b s at_ 0 0 wk ws wn wa]
  (Ret fun v K' L'=>v=.tuple #[]∧K'=K∧L'=[aKK b s e p]):=by
 refine bN Tryz.func54 Y Tryz.ntmps54 Y Y fun F w=>?_;refine zz9 ?_;refine aY 10 Y (fun h10=>?_) (fun h10=>?_)
 ·refine zz6 ?_;refine cD (bX n6 Y Y dA bR aZe Y) ?_;rintro _ K _ ⟨rfl,rfl⟩ -;refine zz8 ?_;refine uAb ?_;rintro _ K _ ⟨rfl,rfl⟩ -;refine zz10 ?_;refine aA (dG tb118 tb118f dF) Y (zz2 ?_);refine cD (cX ta118_4 Y Y Y bR gC1 (.skip (.skip (.skip (.skip (.cons (.cons (.cons (.cons .nil)))))))) gC8) ?_;rintro _ K _ ⟨rfl,rfl⟩ -;refine zz11 ?_;refine uAb ?_;rintro _ K _ ⟨rfl,rfl⟩ -;refine zz2 ?_;exact⟨_,Y,Y,Y,Y⟩
 omega
def bFH(b:Nat)(s:List UInt8)(at_ err bad:Int)(wk ws wn wa:Value)(e p:Int)(K:Hl)(he:err≠0):Sp x3 54 [ptr b,i64 e,i64 p] K [rtc b s at_ err bad wk ws wn wa]
  (Ret fun v K' L'=>v=.tuple #[]∧K'=K∧L'=[rtc b s at_ err bad wk ws wn wa]):=by
 refine bN Tryz.func54 Y Tryz.ntmps54 Y Y fun F w=>?_;refine zz9 ?_;refine aY 10 Y (fun h10=>?_) (fun h10=>?_)
 ·omega
 refine zz2 ?_;exact⟨_,Y,Y,Y,Y⟩
def aH0(b:Nat)(s:List UInt8)(a:Nat)(err bad:Int)(wk ws wn wa:Value)(hs:s.length≤1000000)(ha:a≤s.length)(K:Hl):
  Sp x3 84 [ptr b] K [rtc b s a err bad wk ws wn wa] (Ret fun v K' L'=>v=str (eD (lO s a))∧K'=K∧L'=[rtc b s (a+(lO s a).length:Nat) err bad wk ws wn wa]):=by
 refine bN Tryz.func84 Y Tryz.ntmps84 Y Y fun F w=>?_;refine zz16 ?_;refine eH (fun(i:Nat)=>a≤i∧i≤s.length∧∀m c,a≤m→m < i→s[m]?=some c→eW c=true) (fun i=>[(0,ptr b),(3,i64 a)]) (fun _=>K) (fun i=>[rtc b s i err bad wk ws wn wa]) (fun i=>s.length - i) a ⟨xAA _,ha,fun m c _ _=>by omega⟩ aS Y (fun _ h=>h) ?_;intro i ⟨hi1,hi2,hi3⟩;refine zz2 ?_;refine cZ (anc:=[0,1,3,7,0,16,48,112,240,511]) (ord:=[0,1,2,3,4,5,6,7,8,9]) [] [] mixed gC5 (cQ _) (zz12 ?_);refine aY 19 Y (fun h19=>?_) (fun h19=>?_)
 ·have hilt:i < s.length:=by omega
  obtain⟨c,hc⟩:∃c,s[i]?=some c:=⟨s[i]'hilt,x4 hilt⟩;refine zz4 ?_;refine cZ (anc:=[0,1,3,7,0,16,48,112,255,511,1023]) (ord:=[0,1,2,3,4,5,6,7,8,9,10]) [9] [] mixed gC5 (cQ _) (zz9 ?_);refine iL Y (.none Y) Y Y Y Y (nU c _) Y (zz4 ?_);refine cZ (anc:=[0,1,3,7,0,16,48,112,255,511,1023]) (ord:=[0,1,2,3,4,5,6,7,8,9,10]) [9] [] mixed gC5 (cQ _) (zz9 ?_);refine iL Y (.none Y) Y Y Y Y (nE c _) Y (zz7 ?_);refine aA gC3 Y (zz1 ?_);refine kN 42 Y (fun g42=>?_) (fun g42=>?_)
  ·refine zz3 ?_;refine aA gC3 Y (zz3 ?_);refine d9 45 Y (fun h45=>?_) (fun h45=>?_)
   ·have hst:∀c2,s[i]?=some c2→eW c2=false:=(by intro c2 h2;rw[hc]at h2;cases h2;unfold eW;rw[←nO,←qP,Bool.or_eq_false_iff];exact⟨by simpa using g42,by simpa using h45⟩);refine zz7 ?_;refine cZ (anc:=[0,1,3,7,0,0,32,96,224,511,1023,2047]) (ord:=[0,1,2,3,4,5,6,7,8,9,10,11]) [10] [] mixed gC5 (cQ _) (zz9 ?_);refine uAu ?_;refine iL Y (.none Y) Y Y Y Y (kI _ _ gC7) Y (zz5 ?_);have hT:=aNU (p:=eW) hi1 hi2 hi3 hst;have hL:=aF2 (p:=eW) hi1 hi2 hi3 hst;refine⟨_,Y,?_,Y,?_⟩
    ·unfold lO;rw[hT,List.drop_take]
    unfold lO;rw[hL];rfl
   refine zz10 ?_;refine uAb ?_;rintro _ K _ ⟨rfl,rfl⟩ -;refine zz2 ?_;have hb:eW c=true:=gFJ;refine cM (i+1) ⟨by omega,by omega,fun m c2 hm1 hm2 hc2=>?_⟩ aH aS Y (fun _ h=>h)
   rcases xAC m i with h|h
   ·exact hi3 m c2 hm1 h hc2
   have e:m=i:=by omega
   subst e;rw[hc]at hc2;cases hc2;exact hb
  refine zz16 ?_;refine uAb ?_;rintro _ K _ ⟨rfl,rfl⟩ -;refine zz2 ?_;have hb:eW c=true:=gFJ;refine cM (i+1) ⟨by omega,by omega,fun m c2 hm1 hm2 hc2=>?_⟩ aH aS Y (fun _ h=>h)
  rcases xAC m i with h|h
  ·exact hi3 m c2 hm1 h hc2
  have e:m=i:=by omega
  subst e;rw[hc]at hc2;cases hc2;exact hb
 have hst:∀c,s[i]?=some c→eW c=false:=fun c hc=>by rw[xAD aH]at hc;cases hc
 refine zz6 ?_;refine cZ (anc:=[0,1,3,7,0,0,32,96,224,511,1023,2047]) (ord:=[0,1,2,3,4,5,6,7,8,9,10,11]) [10] [] mixed gC5 (cQ _) (zz9 ?_);refine uAu ?_;refine iL Y (.none Y) Y Y Y Y (kI _ _ gC7) Y (zz5 ?_);have hT:=aNU (p:=eW) hi1 hi2 hi3 hst;have hL:=aF2 (p:=eW) hi1 hi2 hi3 hst;refine⟨_,Y,?_,Y,?_⟩
 ·unfold lO;rw[hT,List.drop_take]
 unfold lO;rw[hL];rfl
def aH3(b:Nat)(s:List UInt8)(a:Nat)(err bad:Int)(wk ws wn wa:Value)(hs:s.length≤1000000)(ha:a≤s.length)(he:(err=0∧bad=0)∨a=s.length)(K:Hl):
  Sp x3 81 [ptr b] K [rtc b s a err bad wk ws wn wa] (Ret fun v K' L'=>v=.tuple #[]∧K'=K∧L'=[match skip s a with| .ok a'=>rtc b s a' err bad wk ws wn wa| .error e=>aKK b s e.1 e.2]):=by
 refine bN Tryz.func81 Y Tryz.ntmps81 Y Y fun F w=>?_;refine bD ?_;refine eH (fun(i:Nat)=>a≤i∧i≤s.length∧∃f,s.length < i+(f+1)∧skip s a=mC s (f+1) i) (fun i=>[(0,ptr b)]) (fun _=>K) (fun i=>[rtc b s i err bad wk ws wn wa]) (fun i=>s.length - i) a ⟨xAA _,ha,s.length - a,by omega,by unfold skip;congr 1;omega⟩ aS Y (fun _ h=>h) ?_;intro i ⟨hi1,hi2,f,hi3,hi4⟩;refine zz2 ?_;refine cZ (anc:=[0,1,3,7,0,16,48,112,240,511]) (ord:=[0,1,2,3,4,5,6,7,8,9]) [] [] mixed gC5 (cQ _) (zz12 ?_);refine aY 14 Y (fun h14=>?_) (fun h14=>?_)
 ·have hilt:i < s.length:=by omega
  obtain⟨c,hc⟩:∃c,s[i]?=some c:=⟨s[i]'hilt,x4 hilt⟩;obtain⟨rfl,rfl⟩:err=0∧bad=0:=he.elim id (fun h=>absurd h aH);refine zz4 ?_;refine cZ (anc:=[0,1,3,7,0,16,48,112,255,511]) (ord:=[0,1,2,3,4,5,6,7,8,9]) [] [] mixed gC5 (cQ _) (zz15 ?_);refine cN Y Y (aEX c _) Y (zz10 ?_);refine d9 26 Y (fun h26=>?_) (fun h26=>?_)
  ·refine zz8 ?_;refine uAb ?_;rintro _ K _ ⟨rfl,rfl⟩ -;refine zz3 ?_
   first
    |exact gBR
    |exact gBX
    |(have hx:=aLV hj3 hj1 aH aH aH;exact cM (j+2) ⟨by omega,by omega,f - 1,by omega,by rw[hi4,kF hc aH aH aH,hx];congr 1 <;> omega⟩ aH aS Y (fun _ h=>h))
  have hnb:¬(c.toNat=32∨c.toNat=9∨c.toNat=13∨c.toNat=10):=by simpa[fS]using h26
  refine zz7 ?_;refine aY 35 Y (fun h35=>?_) (fun h35=>?_)
  ·refine bD ?_;refine eH (fun(j:Nat)=>i≤j∧j≤s.length∧∀m c2,i≤m→m < j→s[m]?=some c2→decide (¬c2.toNat=10)=true) (fun j=>[(0,ptr b)]) (fun _=>K) (fun j=>[rtc b s j 0 0 wk ws wn wa]) (fun j=>s.length - j) i ⟨xAA _,by omega,fun m c _ _=>by omega⟩ aS Y (fun _ h=>h) ?_;intro j ⟨hj1,hj2,hj3⟩;refine aI ?_;refine dX (fun(_:Unit)=>True) (fun _=>[(0,ptr b),(59,.bool (optB (s[j]?) fun c=>decide (¬(c.toNat:Int)=10)))]) (fun _=>K) (fun _=>[rtc b s j 0 0 wk ws wn wa]) ?_ ?_
   ·refine cZ (anc:=[0,1,3,7,0,16,48,112,240,511,1023,2047,4095,8191,16383,2047,34815,100351,231423,524287,1048575,2097151]) (ord:=[0,1,2,3,4,5,6,7,8,9,10,11,12,13,14,15,16,17,18,19,20,21]) [] [] mixed gC5 (cQ _) (zz11 ?_);refine fC 48 Y (fun g48=>?_) (fun g48=>?_)
    ·obtain⟨c2,hc2⟩:∃c2,s[j]?=some c2:=⟨s[j]'(by omega),x4 aH⟩;refine zz12 ?_;exact a8 () trivial (.cons 0 Y (.cons 59 (by rw[hc2];rfl) .nil)) Y (fun _ h=>h)
    have hc2:s[j]?=none:=xAD aH;refine zz12 ?_;exact a8 () trivial (.cons 0 Y (.cons 59 (by rw[hc2];rfl) .nil)) Y (fun _ h=>h)
   intro _ _;refine d9 59 Y (fun h59=>?_) (fun h59=>?_)
   ·obtain⟨c2,hc2,hcn⟩:=s9 h59;have hcn:=xAH hcn;have hjlt:=lA hc2;refine zz11 ?_;refine uAb ?_;rintro _ K _ ⟨rfl,rfl⟩ -;refine zz2 ?_;refine cM (j+1) ⟨by omega,by omega,fun m c3 hm1 hm2 hc3=>?_⟩ aH aS Y (fun _ h=>h)
    rcases xAC m j with h|h
    ·exact hj3 m c3 hm1 h hc3
    have e:m=j:=by omega
    subst e;rw[hc2]at hc3;cases hc3;exact xAM aH
   have hjT:=aF2 (p:=fun c:UInt8=>decide (¬c.toNat=10)) hj1 hj2 hj3 (fun c hc=>by have:=zA h59 c hc;simp only[decide_eq_false_iff_not]at this ⊢;omega);refine zz6 ?_
   first
    |exact gBR
    |exact gBX
    |(have hx:=aLV hj3 hj1 aH aH aH;exact cM (j+2) ⟨by omega,by omega,f - 1,by omega,by rw[hi4,kF hc aH aH aH,hx];congr 1 <;> omega⟩ aH aS Y (fun _ h=>h))
  refine dX (fun(_:Unit)=>True) (fun _=>[(0,ptr b),(67,.bool (decide (c.toNat=47)&&optB (s[i+1]?) fun d=>decide ((d.toNat:Int)=42)))]) (fun _=>K) (fun _=>[rtc b s i 0 0 wk ws wn wa]) ?_ ?_
  ·refine cZ (anc:=[0,1,3,7,15,31,63,127,7,263,775,1799,3847,8191,16383,32767,65535,131071,262143,524287,65535,1114111,3211263,7405567,15794175,33554431,67108863,134217727,268435455]) (ord:=[0,1,2,3,4,5,6,7,8,9,10,11,12,13,14,15,16,17,18,19,20,21,22,23,24,25,26,27,28]) [] [] mixed gC5 (cQ _) (zz3 ?_);refine fC 70 Y (fun g70=>?_) (fun g70=>?_)
   ·refine zz13 ?_;refine fC 83 Y (fun g83=>?_) (fun g83=>?_)
    ·obtain⟨d,hd⟩:∃d,s[i+1]?=some d:=⟨s[i+1]'(by omega),x4 aH⟩;refine zz14 ?_;exact a8 () trivial (.cons 0 Y (.cons 67 gDZ .nil)) Y (fun _ h=>h)
    have hd:c.toNat=47→s[i+1]?=none:=(fun h47=>xAD aH);refine zz14 ?_;exact a8 () trivial (.cons 0 Y (.cons 67 gDZ .nil)) Y (fun _ h=>h)
   refine zz27 ?_;exact a8 () trivial (.cons 0 Y (.cons 67 gDZ .nil)) Y (fun _ h=>h)
  intro _ _;refine d9 67 Y (fun h67=>?_) (fun h67=>?_)
  ·rw[Bool.and_eq_true,decide_eq_true_eq]at h67;obtain⟨h47,hd⟩:=h67;obtain⟨d,hd,hd2⟩:=s9 hd;have hd2:=xAH hd2;have hi1lt:=lA hd;have hdg:((s[i+1]?).getD 0).toNat=d.toNat:=by rw[hd];rfl
   refine zz19 ?_;refine uAb ?_;rintro _ K _ ⟨rfl,rfl⟩ -;refine zz4 ?_;refine eH (fun(j:Nat)=>i+2≤j∧j≤s.length∧NoC s (i+2) j) (fun j=>[(0,ptr b),(4,i64 i)]) (fun _=>K) (fun j=>[rtc b s j 0 0 wk ws wn wa]) (fun j=>s.length - j) (i+2) ⟨xAA _,by omega,bEB⟩ aS Y (fun _ h=>h) ?_;intro j ⟨hj1,hj2,hj3⟩;refine aI ?_;refine dX (fun(_:Unit)=>True) (fun _=>[(0,ptr b),(4,i64 i),(143,.bool (decide (j+1 < s.length∧¬(((s[j]?).getD 0).toNat=42∧((s[j+1]?).getD 0).toNat=47))))]) (fun _=>K) (fun _=>[rtc b s j 0 0 wk ws wn wa]) ?_ ?_
   ·refine cZ (anc:=[0,1,3,7,15,0,32,96,224,480,1023,2047,4095,8191,16383,32767,4095,69631,200703,462847,1048575,2097151,4194303,8388607,16777215,33554431,67108863,8388607,142606335,411041791,947912703,2021654527,4294967295,8589934591,17179869183,34359738367]) (ord:=[0,1,2,3,4,5,6,7,8,9,10,11,12,13,14,15,16,17,18,19,20,21,22,23,24,25,26,27,28,29,30,31,32,33,34,35]) [] [] mixed gC5 (cQ _) (zz12 ?_);refine fC 119 Y (fun g119=>?_) (fun g119=>?_)
    ·obtain⟨p,hp⟩:∃p,s[j]?=some p:=⟨s[j]'(by omega),x4 aH⟩;obtain⟨q,hq⟩:∃q,s[j+1]?=some q:=⟨s[j+1]'(by omega),x4 aH⟩;have hpg:((s[j]?).getD 0).toNat=p.toNat:=by rw[hp];rfl
     have hqg:((s[j+1]?).getD 0).toNat=q.toNat:=by rw[hq];rfl
     refine zz11 ?_;refine fC 130 Y (fun g130=>?_) (fun g130=>?_)
     ·refine zz14 ?_;exact a8 () trivial (.cons 0 Y (.cons 4 Y (.cons 143 gD1 .nil))) Y (fun _ h=>h)
     refine zz14 ?_;exact a8 () trivial (.cons 0 Y (.cons 4 Y (.cons 143 gD1 .nil))) Y (fun _ h=>h)
    refine zz11 ?_;refine bB Y Y (.offu Y Y Y) Y ?_;refine bB Y Y (.offu Y Y Y) Y ?_;refine bB Y Y (.offu Y Y Y) Y ?_;refine bB Y Y (.offu Y Y Y) Y ?_;refine bB Y Y (.offu Y Y Y) Y ?_;refine bB Y Y (.offu Y Y Y) Y ?_;refine bB Y Y (.offu Y Y Y) Y ?_;refine bB Y Y (.offu Y Y Y) Y ?_;refine bB Y Y (.offu Y Y Y) Y ?_;refine bB Y Y (.offu Y Y Y) Y ?_;refine bB Y Y (.offu Y Y Y) Y (zz3 ?_);exact a8 () trivial (.cons 0 Y (.cons 4 Y (.cons 143 gD1 .nil))) Y (fun _ h=>h)
   intro _ _;refine d9 143 Y (fun h143=>?_) (fun h143=>?_)
   ·have h143:=xAH h143;refine zz11 ?_;refine uAb ?_;rintro _ K _ ⟨rfl,rfl⟩ -;refine zz2 ?_;exact cM (j+1) ⟨by omega,by omega,bEA hj3 h143.2⟩ aH aS Y (fun _ h=>h)
   have h143:=xA1 h143;refine zz7 ?_;refine cZ (anc:=[0,1,3,7,15,0,32,96,224,480,1023]) (ord:=[0,1,2,3,4,5,6,7,8,9,10]) [] [] mixed gC5 (cQ _) (zz13 ?_);refine aY 161 Y (fun h161=>?_) (fun h161=>?_)
   ·have hk:skip s a=.error (2,(i:Int)):=(by have hx:=bCD hj3 aH aH;rw[hi4];exact aKR hc aH aH (by rw[hx];decide));refine zz4 ?_;refine bA Y Y (oS b s j wk ws wn wa 2 i _ aH) bS Y ?_;rintro _ K _ ⟨rfl,rfl,rfl⟩ -;refine zz8 ?_;refine jZ Y (xAB _) ?_;rw[hk];exact⟨_,Y,Y,Y,Y⟩
   refine zz11 ?_;refine uAb ?_;rintro _ K _ ⟨rfl,rfl⟩ -;refine zz3 ?_
   first
    |exact gBR
    |exact gBX
    |(have hx:=aLV hj3 hj1 aH aH aH;exact cM (j+2) ⟨by omega,by omega,f - 1,by omega,by rw[hi4,kF hc aH aH aH,hx];congr 1 <;> omega⟩ aH aS Y (fun _ h=>h))
  have hk:skip s a=.ok i:=(by rw[hi4];by_cases h47:c.toNat=47;exact t8 hc h47 (by rw[xAM h47,Bool.true_and]at h67;cases hx:s[i+1]? with|none=>decide|some d=>have:=xA1 (zA h67 d hx);show ¬d.toNat=42;omega);exact t7 hc aH);refine zz5 ?_;refine jZ Y (xAB _) ?_;rw[hk];exact⟨_,Y,Y,Y,Y⟩
 have hk:skip s a=.ok i:=(by rw[hi4];exact u4 aH);refine zz5 ?_;rw[hk];exact⟨_,Y,Y,Y,Y⟩
end Go.Proofs
end
section
namespace Go.Syn
open Go.Proofs
def bAQ{s:aP}{i:Nat}{c:UInt8}(hc:s[i]?=some c):(s.take (i+1)).drop i=[c]:=by
 rw[xAX,hc];have hi:i < s.length:=by
  rcases xAC i s.length with h|h
  ·exact h
  rw[xAD h]at hc;cases hc
 rw[List.drop_append,xAU gEW,xA4,show i - min i s.length=0 from by omega]
 rfl
def rk(w:Word):Nat:=if w.kind=1 then 119 else if w.kind=2 then 58 else if w.kind=3 then 34 else if w.kind=4 then 48 else if w.kind=5 then ((w.s[0]?).getD 0).toNat else 0
def rs(w:Word):aP:=if w.kind=5 then []else w.s
def WOk(w:Word):Prop:=w.kind≤5∧(w.kind=5→∃c,w.s=[c]∧dD c=true)∧w.kind=5∨w.kind≤4
def qQ{w:Word}(h:WOk w):rk w=119↔w.kind=1:=by
 unfold rk;rcases h with ⟨_,h,h5⟩|h4
 ·obtain⟨c,e,hc⟩:=h h5;rw[h5,e];unfold dD at hc;simp at hc ⊢;omega
 constructor
 ·intro h;split at h
  ·assumption
  split at h
  ·omega
  split at h
  ·omega
  split at h
  ·omega
  split at h <;> omega
 intro h;rw[x7 h]
def aM1{w:Word}(h:WOk w):rk w=58↔w.kind=2:=by
 unfold rk;rcases h with ⟨_,h,h5⟩|h4
 ·obtain⟨c,e,hc⟩:=h h5;rw[h5,e];unfold dD at hc;simp at hc ⊢;omega
 constructor
 ·intro h
  by_cases h1:w.kind=1
  ·rw[x7 h1]at h;omega
  rw[x5 h1]at h
  by_cases h2:w.kind=2
  ·exact h2
  rw[x5 h2]at h;split at h
  ·omega
  split at h
  ·omega
  split at h <;> omega
 intro h;rw[x5 aH,x7 h]
def bJC{w:Word}(h:WOk w):rk w=34↔w.kind=3:=by
 unfold rk;rcases h with ⟨_,h,h5⟩|h4
 ·obtain⟨c,e,hc⟩:=h h5;rw[h5,e];unfold dD at hc;simp at hc ⊢;omega
 constructor
 ·intro h
  by_cases h1:w.kind=1
  ·rw[x7 h1]at h;omega
  rw[x5 h1]at h
  by_cases h2:w.kind=2
  ·rw[x7 h2]at h;omega
  rw[x5 h2]at h;split at h
  ·assumption
  split at h
  ·omega
  split at h <;> omega
 intro h;rw[x5 aH,x5 aH,x7 h]
def bMU{w:Word}(h:WOk w):rk w=48↔w.kind=4:=by
 unfold rk;rcases h with ⟨_,h,h5⟩|h4
 ·obtain⟨c,e,hc⟩:=h h5;rw[h5,e];unfold dD at hc;simp at hc ⊢;omega
 constructor
 ·intro h
  by_cases h1:w.kind=1
  ·rw[x7 h1]at h;omega
  rw[x5 h1]at h
  by_cases h2:w.kind=2
  ·rw[x7 h2]at h;omega
  rw[x5 h2]at h;split at h
  ·omega
  split at h
  ·assumption
  split at h <;> omega
 intro h;rw[x5 aH,x5 aH,x5 aH,x7 h]
def bJD{w:Word}(h:WOk w):rk w=0↔w.kind=0:=by
 unfold rk;rcases h with ⟨_,h,h5⟩|h4
 ·obtain⟨c,e,hc⟩:=h h5;rw[h5,e];unfold dD at hc;simp at hc ⊢;omega
 constructor
 ·intro h
  by_cases h1:w.kind=1
  ·rw[x7 h1]at h;omega
  rw[x5 h1]at h
  by_cases h2:w.kind=2
  ·rw[x7 h2]at h;omega
  rw[x5 h2]at h;split at h
  ·omega
  split at h
  ·omega
  omega
 intro h;rw[x5 aH,x5 aH,x5 aH,x5 aH,x5 aH]
def wG{w:Word}{c:UInt8}(h:WOk w)(hc:dD c=true):rk w=c.toNat↔w.kind=5∧w.s=[c]:=by
 have hcs:c.toNat≠119∧c.toNat≠58∧c.toNat≠34∧c.toNat≠48∧c.toNat≠0:=by unfold dD at hc;simp at hc;omega
 rcases h with ⟨_,h,h5⟩|h4
 ·obtain⟨d,e,hd⟩:=h h5;unfold rk;rw[h5,e];simp only[if_neg (show ¬(5=1)from by decide),if_neg (show ¬(5=2)from by decide),if_neg (show ¬(5=3)from by decide),if_neg (show ¬(5=4)from by decide),if_true]
  show d.toNat=c.toNat↔_
  constructor
  ·intro e2;exact⟨trivial,by rw[xAO.1 e2]⟩
  rintro⟨_,e2⟩;cases e2;rfl
 constructor
 ·intro h;unfold rk at h;split at h
  ·omega
  split at h
  ·omega
  split at h
  ·omega
  split at h
  ·omega
  split at h <;> omega
 rintro⟨h,_⟩;omega
def aPL{s:aP}{a:Nat}{r:St}(h:next s a=.ok r):WOk r.2:=by
 unfold next at h;split at h
 ·cases h
 split at h
 ·cases h;exact .inr (xBB Y)
 rename_i c hc;unfold kX at h;split at h
 ·rename_i hs;cases h;exact .inl ⟨xAA 5,fun _=>⟨c,Y,hs⟩,Y⟩
 split at h
 ·split at h
  ·cases h
  cases h;exact .inr (xBB Y)
 split at h
 ·split at h
  ·cases h;exact .inr (xBB Y)
  cases h
 split at h
 ·cases h;exact .inr (xBB Y)
 split at h
 ·split at h
  ·cases h
  cases h;exact .inr (xBB Y)
 cases h
def tG{s:aP}:∀ {f i:Nat} {e:Int×Int},mC s f i=.error e→e.1=2
 |0,i,e,h=>by cases h
 |f+1,i,e,h=>by
  simp only[mC]at h;split at h
  ·cases h
  split at h
  ·exact tG h
  split at h
  ·exact tG h
  split at h
  ·split at h
   ·cases h
   split at h
   ·cases h;rfl
   exact tG h
  cases h
def xS{s:aP}{w:Int}:∀ {f i:Nat} {acc:aP} {e:Int×Int},jC s w f i acc=.error e→e.1=2
 |0,i,acc,e,h=>by cases h;rfl
 |f+1,i,acc,e,h=>by
  simp only[jC]at h;split at h
  ·cases h
  split at h
  ·split at h
   ·cases h;rfl
   exact xS h
  split at h
  ·cases h;rfl
  exact xS h
def bD6{s:aP}{a:Nat}{e:Int×Int}(h:next s a=.error e):e.1≠0:=by
 unfold next at h;split at h
 ·rename_i e2 h2;cases h
  rw[tG h2];decide
 split at h
 ·cases h
 unfold kX at h;split at h
 ·cases h
 split at h
 ·split at h
  ·rename_i e2 h2;cases h;rw[xS h2];decide
  cases h
 split at h
 ·split at h
  ·cases h
  cases h;exact fun h=>by cases h
 split at h
 ·cases h
 split at h
 ·split at h
  ·rename_i e2 h2;cases h
   unfold number at h2;split at h2
   ·cases h2;exact fun h=>by cases h
   split at h2
   ·cases h2;exact fun h=>by cases h
   cases h2
  cases h
 cases h;exact fun h=>by cases h
section
variable{s:aP}{a:Nat}{c:UInt8}
def sL(h:dD c=true):c.toNat=59∨c.toNat=44∨c.toNat=40∨c.toNat=41∨c.toNat=123∨c.toNat=125∨c.toNat=91∨c.toNat=93:=by unfold dD at h;exact xAH h
def aHD(h:gP c=true):(65≤c.toNat∧c.toNat≤90)∨(97≤c.toNat∧c.toNat≤122)∨c.toNat=95:=by
 have k:∀n:Fin 256,(gP (UInt8.ofNat n.1)=true→(65≤(UInt8.ofNat n.1).toNat∧(UInt8.ofNat n.1).toNat≤90)∨(97≤(UInt8.ofNat n.1).toNat∧(UInt8.ofNat n.1).toNat≤122)∨(UInt8.ofNat n.1).toNat=95):=by decide+kernel
 have:=k ⟨c.toNat,c.toNat_lt⟩;simp only[UInt8.ofNat_toNat]at this;exact this h
def aZD(h:gP c=true):kX s a c=.ok (a+(lO s a).length,⟨1,eD (lO s a),0,a⟩):=by
 have hc:=aHD h;unfold kX;rw[x5 gFK,x5 aH,x5 aH,x7 h]
def aZF(h:c.toNat=58)(hl:gP ((s[a+1]?).getD 0)=true):kX s a c=.ok (a+1+(lO s (a+1)).length,⟨2,eD (lO s (a+1)),0,a⟩):=by
 unfold kX;rw[x5 gFK,x5 aH,x7 h,x7 hl]
def aTC(h:c.toNat=58)(hl:gP ((s[a+1]?).getD 0)=false):kX s a c=.error (2,a):=by
 unfold kX;rw[x5 gFK,x5 aH,x7 h,x5 (by simp[hl])]
def aOI(h:gD c=true):48≤c.toNat∧c.toNat≤57:=by unfold gD at h;simpa using h
def aZC(h:gD c=true):kX s a c=match number s a a with| .error e=>.error e| .ok r=>.ok (r.1,⟨4,[],r.2,a⟩):=by
 have hc:=aOI h;unfold kX;rw[x5 gFK,x5 aH,x5 aH,x5 (by intro hl;have:=aHD hl;omega),x7 h] <;> cases number s a a <;> rfl
def aZE(h:c.toNat=34):kX s a c=match quoted s a a with| .error e=>.error e| .ok r=>.ok (r.1,⟨3,r.2,0,a⟩):=by
 unfold kX;rw[x5 gFK,x7 h] <;> cases quoted s a a <;> rfl
def aTB(h:dD c=true):kX s a c=.ok (a+1,⟨5,[c],0,a⟩):=by
 unfold kX;rw[x7 h]
def aZB(h1:gP c=false)(h2:¬c.toNat=58)(h3:gD c=false)(h4:¬c.toNat=34)(h5:dD c=false):kX s a c=.error (2,a):=by
 unfold kX;rw[x5 (by simp[h5]),x5 h4,x5 h2,x5 (by simp[h1]),x5 (by simp[h3])]
def bD5{a1:Nat}(h:skip s a=.ok a1)(hl:s.length≤a1):next s a=.ok (a1,⟨0,[],0,a1⟩):=by
 unfold next;rw[h];simp only[];rw[xAD hl]
def bIX{a1:Nat}(h:skip s a=.ok a1)(hc:s[a1]?=some c):next s a=kX s a1 c:=by
 unfold next;rw[h];simp only[];rw[hc]
def bD9{e:Int×Int}(h:skip s a=.error e):next s a=.error e:=by
 unfold next;rw[h]
end
def rA(s:aP):Res St→Nat| .ok st=>st.1| .error _=>s.length
def rE:Res St→Int| .ok _=>0| .error e=>e.1
def rP:Res St→Int| .ok _=>0| .error e=>e.2
def rK:Res St→Nat| .ok st=>rk st.2| .error _=>0
def rS:Res St→aP| .ok st=>rs st.2| .error _=>[]
def rN:Res St→Int| .ok st=>st.2.n| .error _=>0
def rW(s:aP):Res St→Int| .ok st=>st.2.at_| .error _=>s.length
def ROk(s:aP):Res St→Prop| .ok st=>Ok s st∧WOk st.2| .error e=>e.1≠0
def nx(s:aP):Res St→Res St| .ok st=>next s st.1| .error e=>.error e
def rf(e:Int×Int):Res St→Res St| .ok _=>.error e| .error x=>.error x
def lE{s:aP}{r:Res St}(h:ROk s r):ROk s (nx s r):=by
 cases r with
 |error e=>exact h
 |ok st=>
  show ROk s (next s st.1)
  cases hn:next s st.1 with
  |error e=>exact bD6 hn
  |ok q=>exact⟨fX h.1.1 hn,aPL hn⟩
def aKI{s:aP}{r:Res St}{e:Int×Int}(h:ROk s r)(he:e.1≠0):ROk s (rf e r):=by
 cases r with
 |error x=>exact h
 |ok st=>exact he
def bK5{s:aP}{r:Res St}(h:ROk s r):(rS r).length≤s.length:=by
 cases r with
 |error e=>exact x9 _
 |ok st=>show (rs st.2).length≤_;unfold rs;split;exact x9 _;exact h.1.2
end Go.Syn
end
section
attribute [local irreducible] Go.SL.T Go.SL.OL Go.SL.D Go.SL.DL Go.SL.Ev Go.SL.Ef Go.SL.EfS
namespace Go.Proofs
open Go Go.SL Go.Syn Go.Mach
def aBU{E:Env}{fr:Fr}{K:Hl}{L:List Asn}{o:_}{s:aP}{i:Nat}{c:UInt8}(h:Ev E fr K L o (str ((s.take (i+1)).drop i)))(hc:s[i]?=some c):Ev E fr K L o (str [c]):=by rw[bAQ hc]at h;exact h
def aM2(b:Nat)(s:List UInt8)(a:Nat)(wk ws wn wa:Value)(hs:s.length≤1000000)(ha:a < s.length)(K:Hl):
  Sp x3 86 [ptr b] K [rtc b s a 0 0 wk ws wn wa] (Ret fun v K' L'=>v=.tuple #[]∧K'=K∧L'=[match Syn.quoted s a a with| .ok r=>rtc b s r.1 0 0 (.int .u8 34) (str r.2) (i64 0) (i64 a)| .error e=>aKK b s e.1 e.2]):=by
 refine bN Tryz.func86 Y Tryz.ntmps86 Y Y fun F w=>?_;refine zz23 ?_;refine uAb ?_;rintro _ K _ ⟨rfl,rfl⟩ -;refine zz2 ?_;refine dX (fun(p:Nat×List UInt8)=>p.1≤s.length∧(p.1 < s.length→Syn.quoted s a a=.ok (p.1+1,p.2))∧(¬p.1 < s.length→Syn.quoted s a a=.error (2,(a:Int)))) (fun p=>[(0,ptr b),(2,i64 a),(3,str p.2)]) (fun _=>K) (fun p=>[rtc b s p.1 0 0 wk ws wn wa]) ?_ ?_
 ·refine bD ?_;refine iR (fun(i:Nat) (acc:List UInt8)=>a+1≤i∧i≤s.length∧acc.length≤i∧∃f,s.length+2≤i+(f+1)∧Syn.quoted s a a=jC s a (f+1) i acc) (fun i acc=>[(0,ptr b),(2,i64 a),(3,str acc)]) (fun _ _=>K) (fun i acc=>[rtc b s i 0 0 wk ws wn wa]) (fun i acc=>s.length - i) (a+1) [] ⟨by omega,by omega,by simp,s.length - a,by omega,by unfold Syn.quoted;congr 1;omega⟩ aS Y (fun _ h=>h) ?_;intro i acc ⟨hi1,hi2,hi3,f,hi4,hi5⟩;refine aI ?_;refine dX (fun(_:Unit)=>True) (fun _=>[(0,ptr b),(2,i64 a),(3,str acc),(36,.bool (optB (s[i]?) fun c=>decide (¬(c.toNat:Int)=34)))]) (fun _=>K) (fun _=>[rtc b s i 0 0 wk ws wn wa]) ?_ ?_
  ·refine cZ (anc:=[0,1,3,7,0,16,48,112,240,511,1023,2047,4095,8191,16383,2047,34815,100351,231423,524287,1048575,2097151]) (ord:=[0,1,2,3,4,5,6,7,8,9,10,11,12,13,14,15,16,17,18,19,20,21]) [] [] mixed gC5 (cQ _) (zz11 ?_);refine fC 25 Y (fun g25=>?_) (fun g25=>?_)
   ·obtain⟨c,hc⟩:∃c,s[i]?=some c:=⟨s[i]'(by omega),x4 aH⟩;refine zz12 ?_;exact a8 () trivial (.cons 0 Y (.cons 2 Y (.cons 3 Y (.cons 36 (by rw[hc];rfl) .nil)))) Y (fun _ h=>h)
   have hc:s[i]?=none:=xAD aH;refine zz12 ?_;exact a8 () trivial (.cons 0 Y (.cons 2 Y (.cons 3 Y (.cons 36 (by rw[hc];rfl) .nil)))) Y (fun _ h=>h)
  intro _ _;refine d9 36 Y (fun h36=>?_) (fun h36=>?_)
  ·obtain⟨c,hc,hcq⟩:=s9 h36;have hcq:=xAH hcq;have hilt:=lA hc;have hcg:((s[i]?).getD 0)=c:=by rw[hc];rfl
   refine zz5 ?_;refine cZ (anc:=[0,1,3,7,0,16,48,112,255,511]) (ord:=[0,1,2,3,4,5,6,7,8,9]) [] [] mixed gC5 (cQ _) (zz12 ?_);refine aY 46 Y (fun h46=>?_) (fun h46=>?_)
   ·refine zz9 ?_;refine uAb ?_;rintro _ K _ ⟨rfl,rfl⟩ -;refine zz3 ?_;refine cZ (anc:=[0,1,3,7,0,16,48,112,240,511]) (ord:=[0,1,2,3,4,5,6,7,8,9]) [] [] mixed gC5 (cQ _) (zz12 ?_);refine aY 63 Y (fun h63=>?_) (fun h63=>?_)
    ·refine zz5 ?_
     first|exact a8 (i,acc) ⟨by omega,hqi,hqn⟩ aS Y (fun _ h=>h)|exact a8 (i+1,acc) ⟨by omega,fun h=>absurd h aH,fun _=>by rw[hi5];exact nT gE0 gE0 aH⟩ aS Y (fun _ h=>h)
    have hi1lt:i+1 < s.length:=by omega
    obtain⟨d,hd⟩:∃d,s[i+1]?=some d:=⟨s[i+1]'hi1lt,x4 hi1lt⟩;have hdg:((s[i+1]?).getD 0)=d:=by rw[hd];rfl
    refine zz3 ?_;refine cZ (anc:=[0,0,2,6,14,0,32,96,224,0,512,1536,3584,7680,16382,32767,65535]) (ord:=[0,1,2,3,4,5,6,7,8,9,10,11,12,13,14,15,16]) [] [] mixed gC5 (cQ _) (zz14 ?_);refine aJ Y Y (.none Y) Y Y gEY Y ?_;refine aJ Y Y (.none Y) Y Y (eJ Y Y gC9) Y (zz11 ?_);refine uAb ?_;rintro _ K _ ⟨rfl,rfl⟩ -;refine zz2 ?_;obtain⟨f0,rfl⟩:∃f0,f=f0+1:=⟨f - 1,by omega⟩
    first
     |exact cW (i+1) (acc++[c]) ⟨by omega,by omega,by simp;omega,f0,by omega,by rw[hi5,nS gE0 gE0 aH,hcg]⟩ aH aS Y (fun _ h=>h)
     |exact cW (i+2) (acc++[d]) ⟨by omega,by omega,by simp;omega,f0,by omega,by rw[hi5,oZ gE0 gE0 aH,hdg]⟩ aH aS Y (fun _ h=>h)
   refine zz3 ?_;refine cZ (anc:=[0,0,2,6,14,0,32,96,224,0,512,1536,3584,7680,16382,32767,65535]) (ord:=[0,1,2,3,4,5,6,7,8,9,10,11,12,13,14,15,16]) [] [] mixed gC5 (cQ _) (zz14 ?_);refine aJ Y Y (.none Y) Y Y gEY Y ?_;refine aJ Y Y (.none Y) Y Y (eJ Y Y gC9) Y (zz11 ?_);refine uAb ?_;rintro _ K _ ⟨rfl,rfl⟩ -;refine zz2 ?_;obtain⟨f0,rfl⟩:∃f0,f=f0+1:=⟨f - 1,by omega⟩
   first
    |exact cW (i+1) (acc++[c]) ⟨by omega,by omega,by simp;omega,f0,by omega,by rw[hi5,nS gE0 gE0 aH,hcg]⟩ aH aS Y (fun _ h=>h)
    |exact cW (i+2) (acc++[d]) ⟨by omega,by omega,by simp;omega,f0,by omega,by rw[hi5,oZ gE0 gE0 aH,hdg]⟩ aH aS Y (fun _ h=>h)
  have hqi:i < s.length→Syn.quoted s a a=.ok (i+1,acc):=(fun hl=>by rw[hi5];refine aEW hl ?_;have:=zA h36 _ (x4 hl);rw[x4 hl];simp only[decide_eq_false_iff_not,Classical.not_not]at this;show (s[i]).toNat=34;omega);have hqn:¬i < s.length→Syn.quoted s a a=.error (2,(a:Int)):=(fun hl=>by have hcz:((s[i]?).getD 0).toNat=0:=(by rw[xAD aH];rfl);rw[hi5];exact oE aH aH aH);refine zz4 ?_
  first|exact a8 (i,acc) ⟨by omega,hqi,hqn⟩ aS Y (fun _ h=>h)|exact a8 (i+1,acc) ⟨by omega,fun h=>absurd h aH,fun _=>by rw[hi5];exact nT gE0 gE0 aH⟩ aS Y (fun _ h=>h)
 intro p ⟨hp1,hp2,hp3⟩;refine zz2 ?_;refine cZ (anc:=[0,1,3,7,0,16,48,112,240,511]) (ord:=[0,1,2,3,4,5,6,7,8,9]) [] [] mixed gC5 (cQ _) (zz12 ?_);refine aY 96 Y (fun h96=>?_) (fun h96=>?_)
 ·have hq:=hp3 aH;refine zz4 ?_;refine bA Y Y (oS b s _ wk ws wn wa 2 a _ aH) bS Y ?_;rintro _ K _ ⟨rfl,rfl,rfl⟩ -;refine zz4 ?_;refine jZ Y (xAB _) ?_;rw[hq];exact⟨_,Y,Y,Y,Y⟩
 have hq:=hp2 aH;refine zz11 ?_;refine uAb ?_;rintro _ K _ ⟨rfl,rfl⟩ -;refine zz6 ?_;refine aA (dG tb118 tb118f dF) Y (zz2 ?_);refine cD (cX ta118_4 Y Y Y bR gC1 (.skip (.skip (.skip (.skip (.cons (.cons (.cons (.cons .nil)))))))) gC8) ?_;rintro _ K _ ⟨rfl,rfl⟩ -;refine zz2 ?_;rw[hq];exact⟨_,Y,Y,Y,Y⟩
def aJE(b:Nat)(s:List UInt8)(a:Nat)(wk ws wn:Value)(wat:Int)(hs:s.length≤1000000)(ha:a≤s.length)(K:Hl):
    Sp x3 85 [ptr b] K [rtc b s a 0 0 wk ws wn (i64 wat)] (Ret fun v K' L'=>v=.tuple #[]∧K'=K∧L'=[match Syn.number s a wat with| .ok r=>rtc b s r.1 0 0 (.int .u8 48) (str []) (i64 r.2) (i64 wat)| .error e=>aKK b s e.1 e.2]):=by
  refine bN Tryz.func85 Y Tryz.ntmps85 Y Y fun F w=>?_;refine zz12 ?_;refine iR (fun(i:Nat) (big:Bool)=>a≤i∧i≤s.length∧(∀m c,a≤m→m < i→s[m]?=some c→gD c=true)∧(big=true→gB ((s.drop a).take (i - a))=2147483648)) (fun i big=>[(0,ptr b),(2,i64 (gB ((s.drop a).take (i - a)))),(3,.bool big)]) (fun _ _=>K) (fun i _=>[rtc b s i 0 0 wk ws wn (i64 wat)]) (fun i _=>s.length - i) a false ⟨xAA _,ha,fun m c _ _=>by omega,fun h=>by cases h⟩ (.cons 0 Y (.cons 2 (by rw[Nat.sub_self];rfl) aS)) Y (fun _ h=>h) ?_;intro i big ⟨hi1,hi2,hi3,hi4⟩;have hbd:=yU ((s.drop a).take (i - a));refine aI ?_;refine dX (fun(_:Unit)=>True) (fun _=>[(0,ptr b),(2,i64 (gB ((s.drop a).take (i - a)))),(3,.bool big),(25,.bool (optB (s[i]?) digB))]) (fun _=>K) (fun _=>[rtc b s i 0 0 wk ws wn (i64 wat)]) ?_ ?_
  · refine cZ (anc:=[0,1,3,7,0,16,48,112,240,511,1023,2047,4095,8191,16383,2047,34815,100351,231423,524287,1048575,2097151]) (ord:=[0,1,2,3,4,5,6,7,8,9,10,11,12,13,14,15,16,17,18,19,20,21]) [20] [] mixed gC5 (cQ _) (zz11 ?_);refine fC 14 Y (fun g14=>?_) (fun g14=>?_)
    · obtain⟨c,hc⟩:∃c,s[i]?=some c:=⟨s[i]'(by omega),x4 aH⟩;refine zz9 ?_;refine iL Y (.on Y Y Y) Y Y Y Y (nE c _) Y (zz2 ?_);exact a8 () trivial (.cons 0 Y (.cons 2 Y (.cons 3 Y (.cons 25 (by rw[hc];rfl) .nil)))) Y (fun _ h=>h)
    have hc:s[i]?=none:=xAD aH;refine zz12 ?_;exact a8 () trivial (.cons 0 Y (.cons 2 Y (.cons 3 Y (.cons 25 (by rw[hc];rfl) .nil)))) Y (fun _ h=>h)
  intro _ _;refine d9 25 Y (fun h25=>?_) (fun h25=>?_)
  · obtain⟨c,hc,hcd⟩:=s9 h25;have hilt:=lA hc;have hdd:48≤c.toNat∧c.toNat≤57:=by simpa[digB]using hcd
    refine zz4 ?_;refine cZ (anc:=[0,1,0,4,12,28,0,64,192,448,1020,2044,4092,8191,16383]) (ord:=[0,1,2,3,4,5,6,7,8,9,10,11,12,13,14]) [] [] mixed gC5 (cQ _) (zz11 ?_);refine aJ Y Y (.none Y) Y Y (aBW (m:=c.toNat) (n:=48) aH aH Y Y) Y ?_;refine aJ Y Y (.none Y) Y Y (qZ Tryz.underlying3 Tryz.underlying5 Y aH aH) Y (zz11 ?_);refine aY 41 Y (fun h41=>?_) (fun h41=>?_)
    · refine zz17 ?_;refine uAb ?_;rintro _ K _ ⟨rfl,rfl⟩ -;refine zz2 ?_;have hall:∀m c2,a≤m→m < i+1→s[m]?=some c2→gD c2=true:=gEZ;have hup:=wY (ds:=s.drop a) (i:=i - a) (c:=c) (by rw[xA2,show a+(i - a)=i from by omega];exact hc);rw[show i - a+1=i+1 - a from by omega]at hup;unfold aBO at hup
      first
        | (have hv : gB ((s.drop a).take (i + 1 - a)) = 2147483648 := (by rw [hup]; split <;> omega)
           exact cW (i+1) true ⟨by omega,by omega,hall,fun _=>hv⟩ aH (.cons 0 Y (.cons 2 (by rw[hv];rfl) aS)) Y (fun _ h=>h))
        | (rw [x5 aH] at hup
           have hb2:big=true→gB ((s.drop a).take (i+1 - a))=2147483648:=(fun hb=>by have:=hi4 hb;omega);exact cW (i+1) big ⟨by omega,by omega,hall,hb2⟩ aH (.cons 0 Y (.cons 2 (by rw[hup];rfl) aS)) Y (fun _ h=>h))
    refine zz10 ?_;refine uAb ?_;rintro _ K _ ⟨rfl,rfl⟩ -;refine zz2 ?_;have hall:∀m c2,a≤m→m < i+1→s[m]?=some c2→gD c2=true:=gEZ;have hup:=wY (ds:=s.drop a) (i:=i - a) (c:=c) (by rw[xA2,show a+(i - a)=i from by omega];exact hc);rw[show i - a+1=i+1 - a from by omega]at hup;unfold aBO at hup
    first
      | (have hv : gB ((s.drop a).take (i + 1 - a)) = 2147483648 := (by rw [hup]; split <;> omega)
         exact cW (i+1) true ⟨by omega,by omega,hall,fun _=>hv⟩ aH (.cons 0 Y (.cons 2 (by rw[hv];rfl) aS)) Y (fun _ h=>h))
      | (rw [x5 aH] at hup
         have hb2:big=true→gB ((s.drop a).take (i+1 - a))=2147483648:=(fun hb=>by have:=hi4 hb;omega);exact cW (i+1) big ⟨by omega,by omega,hall,hb2⟩ aH (.cons 0 Y (.cons 2 (by rw[hup];rfl) aS)) Y (fun _ h=>h))
  have hst:=zA h25;have hT2:(s.drop a).take (i - a)=eG s a:=(aNU (p:=gD) hi1 hi2 hi3 hst).symm;rw[hT2]at hi4 hbd ⊢;have hL2:a+(eG s a).length=i:=aF2 (p:=gD) hi1 hi2 hi3 hst;have hnC:numC s a=((s[i]?).getD 0).toNat:=(by unfold numC;rw[hL2]);clear hT2 hst;refine zz5 ?_;refine dX (fun(_:Unit)=>True) (fun _=>[(0,ptr b),(2,i64 (numN s a)),(3,.bool big)]) (fun _=>K) (fun _=>[rtc b s (numA s a:Nat) 0 0 wk ws wn (i64 wat)]) ?_ ?_
  · refine dX (fun(_:Unit)=>True) (fun _=>[(0,ptr b),(2,i64 (gB (eG s a))),(3,.bool big),(82,.bool (optB (s[i]?) fun k=>decide ((k.toNat:Int)=75)||decide ((k.toNat:Int)=107)))]) (fun _=>K) (fun _=>[rtc b s i 0 0 wk ws wn (i64 wat)]) ?_ ?_
    · refine cZ (anc:=[0,1,3,7,0,16,48,112,240,511,1023,2047,4095,8191,16383,2047,34815,100351,231423,524287,1048575,2097151,4194303,8388607,16777215,33554431,4194303,71303167,205520895,473956351,1073741823,2147483647,4294967295,8589934591]) (ord:=[0,1,2,3,4,5,6,7,8,9,10,11,12,13,14,15,16,17,18,19,20,21,22,23,24,25,26,27,28,29,30,31,32,33]) [] [] mixed gC5 (cQ _) (zz11 ?_);refine fC 59 Y (fun g59=>?_) (fun g59=>?_)
      · obtain⟨k,hk⟩:∃k,s[i]?=some k:=⟨s[i]'(by omega),x4 aH⟩;refine zz11 ?_;refine fC 70 Y (fun g70=>?_) (fun g70=>?_)
        · refine zz13 ?_;exact a8 () trivial (.cons 0 Y (.cons 2 Y (.cons 3 Y (.cons 82 gEO .nil)))) Y (fun _ h=>h)
        refine zz13 ?_;exact a8 () trivial (.cons 0 Y (.cons 2 Y (.cons 3 Y (.cons 82 gEO .nil)))) Y (fun _ h=>h)
      have hk:s[i]?=none:=xAD aH;refine zz11 ?_;refine bB Y Y (.offu Y Y Y) Y ?_;refine bB Y Y (.offu Y Y Y) Y ?_;refine bB Y Y (.offu Y Y Y) Y ?_;refine bB Y Y (.offu Y Y Y) Y ?_;refine bB Y Y (.offu Y Y Y) Y ?_;refine bB Y Y (.offu Y Y Y) Y ?_;refine bB Y Y (.offu Y Y Y) Y ?_;refine bB Y Y (.offu Y Y Y) Y ?_;refine bB Y Y (.offu Y Y Y) Y ?_;refine bB Y Y (.offu Y Y Y) Y (zz3 ?_);exact a8 () trivial (.cons 0 Y (.cons 2 Y (.cons 3 Y (.cons 82 gEO .nil)))) Y (fun _ h=>h)
    intro _ _;refine d9 82 Y (fun h82=>?_) (fun h82=>?_)
    · obtain⟨k,hk,hkk⟩:=s9 h82;have hilt:=lA hk;rw[hk]at hnC;have hnC2:numC s a=k.toNat:=hnC;simp only[Bool.or_eq_true,decide_eq_true_eq]at hkk;refine zz15 ?_;refine uAb ?_;rintro _ K _ ⟨rfl,rfl⟩ -;refine aG ?_
      first
        | (have eN : numN s a = gB (eG s a) * 1024 := gD3
           have eA:numA s a=i+1:=gEX;exact a8 () trivial (.cons 0 Y (.cons 2 gED aS)) Y gDM)
        | (have eN : numN s a = gB (eG s a) * 1024 * 1024 := gEG
           have eA:numA s a=i+1:=gEX;exact a8 () trivial (.cons 0 Y (.cons 2 gED aS)) Y gDM)
        | (have eN : numN s a = gB (eG s a) := gD4
           have eA:numA s a=i:=(by (unfold numA;rw[x5 aH,hL2]));exact a8 () trivial (.cons 0 Y (.cons 2 gED aS)) Y gDM)
    have hnk:numC s a≠75∧numC s a≠107:=(by rw[hnC];cases hx:s[i]? with|none=>exact⟨by decide,by decide⟩|some k=>have h2:=zA h82 k hx;simp only[Bool.or_eq_false_iff,decide_eq_false_iff_not]at h2;exact⟨fun e=>h2.1 (by have e2:k.toNat=75:=e;omega),fun e=>h2.2 (by have e2:k.toNat=107:=e;omega)⟩);refine dX (fun(_:Unit)=>True) (fun _=>[(0,ptr b),(2,i64 (gB (eG s a))),(3,.bool big),(125,.bool (optB (s[i]?) fun k=>decide ((k.toNat:Int)=77)||decide ((k.toNat:Int)=109)))]) (fun _=>K) (fun _=>[rtc b s i 0 0 wk ws wn (i64 wat)]) ?_ ?_
    · refine cZ (anc:=[0,1,3,7,0,16,48,112,240,511,1023,2047,4095,8191,16383,2047,34815,100351,231423,524287,1048575,2097151,4194303,8388607,16777215,33554431,4194303,71303167,205520895,473956351,1073741823,2147483647,4294967295,8589934591]) (ord:=[0,1,2,3,4,5,6,7,8,9,10,11,12,13,14,15,16,17,18,19,20,21,22,23,24,25,26,27,28,29,30,31,32,33]) [] [] mixed gC5 (cQ _) (zz11 ?_);refine fC 102 Y (fun g102=>?_) (fun g102=>?_)
      · obtain⟨k,hk⟩:∃k,s[i]?=some k:=⟨s[i]'(by omega),x4 aH⟩;refine zz11 ?_;refine fC 113 Y (fun g113=>?_) (fun g113=>?_)
        · refine zz13 ?_;exact a8 () trivial (.cons 0 Y (.cons 2 Y (.cons 3 Y (.cons 125 gEK .nil)))) Y (fun _ h=>h)
        refine zz13 ?_;exact a8 () trivial (.cons 0 Y (.cons 2 Y (.cons 3 Y (.cons 125 gEK .nil)))) Y (fun _ h=>h)
      have hk:s[i]?=none:=xAD aH;refine zz11 ?_;refine bB Y Y (.offu Y Y Y) Y ?_;refine bB Y Y (.offu Y Y Y) Y ?_;refine bB Y Y (.offu Y Y Y) Y ?_;refine bB Y Y (.offu Y Y Y) Y ?_;refine bB Y Y (.offu Y Y Y) Y ?_;refine bB Y Y (.offu Y Y Y) Y ?_;refine bB Y Y (.offu Y Y Y) Y ?_;refine bB Y Y (.offu Y Y Y) Y ?_;refine bB Y Y (.offu Y Y Y) Y ?_;refine bB Y Y (.offu Y Y Y) Y (zz3 ?_);exact a8 () trivial (.cons 0 Y (.cons 2 Y (.cons 3 Y (.cons 125 gEK .nil)))) Y (fun _ h=>h)
    intro _ _;refine d9 125 Y (fun h125=>?_) (fun h125=>?_)
    · obtain⟨k,hk,hkk⟩:=s9 h125;have hilt:=lA hk;rw[hk]at hnC;have hnC2:numC s a=k.toNat:=hnC;simp only[Bool.or_eq_true,decide_eq_true_eq]at hkk;refine zz16 ?_;refine uAb ?_;rintro _ K _ ⟨rfl,rfl⟩ -;refine aG ?_
      first
        | (have eN : numN s a = gB (eG s a) * 1024 := gD3
           have eA:numA s a=i+1:=gEX;exact a8 () trivial (.cons 0 Y (.cons 2 gED aS)) Y gDM)
        | (have eN : numN s a = gB (eG s a) * 1024 * 1024 := gEG
           have eA:numA s a=i+1:=gEX;exact a8 () trivial (.cons 0 Y (.cons 2 gED aS)) Y gDM)
        | (have eN : numN s a = gB (eG s a) := gD4
           have eA:numA s a=i:=(by (unfold numA;rw[x5 aH,hL2]));exact a8 () trivial (.cons 0 Y (.cons 2 gED aS)) Y gDM)
    have hnm:numC s a≠77∧numC s a≠109:=(by rw[hnC];cases hx:s[i]? with|none=>exact⟨by decide,by decide⟩|some k=>have h2:=zA h125 k hx;simp only[Bool.or_eq_false_iff,decide_eq_false_iff_not]at h2;exact⟨fun e=>h2.1 (by have e2:k.toNat=77:=e;omega),fun e=>h2.2 (by have e2:k.toNat=109:=e;omega)⟩);refine aW ?_
    first
      | (have eN : numN s a = gB (eG s a) * 1024 := gD3
         have eA:numA s a=i+1:=gEX;exact a8 () trivial (.cons 0 Y (.cons 2 gED aS)) Y gDM)
      | (have eN : numN s a = gB (eG s a) * 1024 * 1024 := gEG
         have eA:numA s a=i+1:=gEX;exact a8 () trivial (.cons 0 Y (.cons 2 gED aS)) Y gDM)
      | (have eN : numN s a = gB (eG s a) := gD4
         have eA:numA s a=i:=(by (unfold numA;rw[x5 aH,hL2]));exact a8 () trivial (.cons 0 Y (.cons 2 gED aS)) Y gDM)
  intro _ _;have hnA:numA s a≤s.length:=aMU s a ha;have hbig:big=true→2147483647 < numN s a:=(by intro hb;have:=hi4 hb;unfold numN;split;omega;split <;> omega);refine aI ?_;refine dX (fun(_:Unit)=>True) (fun _=>[(0,ptr b),(2,i64 (numN s a)),(3,.bool big),(169,.bool (eW ((s[numA s a]?).getD 0)))]) (fun _=>K) (fun _=>[rtc b s (numA s a:Nat) 0 0 wk ws wn (i64 wat)]) ?_ ?_
  · refine cZ (anc:=[0,1,3,7,0,16,48,112,240,511,1023,2047,4095,8191,16383,2047,34815,100351,231423,524287,1048575,2097151,4194303,8388607,16777215,33554431,4194303,71303167,205520895,473956351,1073741823,2147483647,4294967295,8589934591]) (ord:=[0,1,2,3,4,5,6,7,8,9,10,11,12,13,14,15,16,17,18,19,20,21,22,23,24,25,26,27,28,29,30,31,32,33]) [20,31] [] mixed gC5 (cQ _) (zz11 ?_);refine fC 146 Y (fun g146=>?_) (fun g146=>?_)
    · obtain⟨k,hk⟩:∃k,s[numA s a]?=some k:=⟨s[numA s a]'(by omega),x4 aH⟩;refine zz9 ?_;refine iL Y (.on Y Y Y) Y Y Y Y (nU k _) Y (zz1 ?_);refine qY 157 Y (fun g157=>?_) (fun g157=>?_)
      · refine zz13 ?_;exact a8 () trivial (.cons 0 Y (.cons 2 Y (.cons 3 Y (.cons 169 gEE .nil)))) Y (fun _ h=>h)
      refine zz9 ?_;refine iL Y (.on Y Y Y) Y Y Y Y (nE k _) Y (zz3 ?_);exact a8 () trivial (.cons 0 Y (.cons 2 Y (.cons 3 Y (.cons 169 gEE .nil)))) Y (fun _ h=>h)
    have hk:s[numA s a]?=none:=xAD aH;refine zz11 ?_;refine bB Y Y (.offu Y Y Y) Y ?_;refine bB Y Y (.offu Y Y Y) Y ?_;refine bB Y Y (.offu Y Y Y) Y ?_;refine bB Y Y (.offu Y Y Y) Y ?_;refine bB Y Y (.offu Y Y Y) Y ?_;refine bB Y Y (.offu Y Y Y) Y ?_;refine bB Y Y (.offu Y Y Y) Y ?_;refine bB Y Y (.offu Y Y Y) Y ?_;refine bB Y Y (.offu Y Y Y) Y ?_;refine bB Y Y (.offu Y Y Y) Y (zz3 ?_);exact a8 () trivial (.cons 0 Y (.cons 2 Y (.cons 3 Y (.cons 169 gEE .nil)))) Y (fun _ h=>h)
  intro _ _;refine d9 169 Y (fun h169=>?_) (fun h169=>?_)
  · have hq:Syn.number s a wat=.error (2,wat):=by unfold Syn.number;rw[x7 h169]
    refine zz8 ?_;refine bA Y Y (oS b s _ wk ws wn (i64 wat) 2 wat _ aH) bS Y ?_;rintro _ K _ ⟨rfl,rfl,rfl⟩ -;refine zz4 ?_;refine jZ Y (xAB _) ?_;rw[hq];exact⟨_,Y,Y,Y,Y⟩
  refine zz3 ?_;refine dX (fun(_:Unit)=>True) (fun _=>[(0,ptr b),(2,i64 (numN s a)),(181,.bool (decide (2147483647 < numN s a)))]) (fun _=>K) (fun _=>[rtc b s (numA s a:Nat) 0 0 wk ws wn (i64 wat)]) ?_ ?_
  · refine zz3 ?_;refine kN 178 Y (fun g178=>?_) (fun g178=>?_)
    · refine zz4 ?_;exact a8 () trivial (.cons 0 Y (.cons 2 Y (.cons 181 (by first|rfl|(rw[xAM (hbig g178)];rfl)) .nil))) Y (fun _ h=>h)
    refine zz6 ?_;exact a8 () trivial (.cons 0 Y (.cons 2 Y (.cons 181 (by first|rfl|(rw[xAM (hbig g178)];rfl)) .nil))) Y (fun _ h=>h)
  intro _ _;refine d9 181 Y (fun h181=>?_) (fun h181=>?_)
  · have hq:Syn.number s a wat=.error (3,wat):=(by unfold Syn.number;rw[x5 (by simp[h169]),x7 (xAH h181)]);refine zz8 ?_;refine bA Y Y (oS b s _ wk ws wn (i64 wat) 3 wat _ aH) bS Y ?_;rintro _ K _ ⟨rfl,rfl,rfl⟩ -;refine zz4 ?_;refine jZ Y (xAB _) ?_;rw[hq];exact⟨_,Y,Y,Y,Y⟩
  have hq:Syn.number s a wat=.ok (numA s a,numN s a):=(by unfold Syn.number;rw[x5 (by simp[h169]),x5 (xA1 h181)]);refine zz10 ?_;refine aA (dG tb118 tb118f dF) Y (zz2 ?_);refine cD (cX ta118_4 Y Y Y bR gC1 (.skip (.skip (.skip (.skip (.cons (.cons (.cons (.cons .nil)))))))) gC8) ?_;rintro _ K _ ⟨rfl,rfl⟩ -;refine zz2 ?_;rw[hq];exact⟨_,Y,Y,Y,Y⟩
abbrev rtx(b:Nat)(s:List UInt8)(r:Res St):Asn:=rtc b s (rA s r) (rE r) (rP r) (.int .u8 (rK r)) (str (rS r)) (i64 (rN r)) (i64 (rW s r))
def aH1(b:Nat)(s:List UInt8)(a:Nat)(wk ws wn wa:Value)(hs:s.length≤1000000)(ha:a≤s.length)(K:Hl):
    Sp x3 50 [ptr b] K [rtc b s a 0 0 wk ws wn wa] (Ret fun v K' L'=>v=.tuple #[]∧K'=K∧L'=[rtx b s (Syn.next s a)]):=by
  refine bN Tryz.func50 Y Tryz.ntmps50 Y Y fun F w=>?_;refine zz3 ?_;refine bA Y Y (aH3 b s a 0 0 wk ws wn wa hs ha (.inl ⟨Y,Y⟩) _) bS Y ?_;rintro _ K _ ⟨rfl,rfl,rfl⟩ -;refine zz2 ?_;rcases hsk:skip s a with e|a1
  · dsimp only;have hn:=bD9 hsk;have hne:=tG hsk;refine zz10 ?_;refine aY 13 Y (fun h13=>?_) (fun h13=>?_)
    · refine zz2 ?_;refine jZ Y (xAB _) ?_;rw[hn];exact⟨_,Y,Y,Y,Y⟩
    omega
  dsimp only;have ha1:=(aCP ha hsk).2;refine zz10 ?_;refine aY 13 Y (fun h13=>?_) (fun h13=>?_)
  · omega
  refine zz9 ?_;refine aA (dG tb118 tb118f dF) Y (zz2 ?_);refine cD (cX ta118_4 Y Y Y bR gC1 (.skip (.skip (.skip (.skip (.cons (.cons (.cons (.cons .nil)))))))) gC8) ?_;rintro _ K _ ⟨rfl,rfl⟩ -;refine zz4 ?_;refine cZ (anc:=[0,1,3,7,0,16,48,112,240,511]) (ord:=[0,1,2,3,4,5,6,7,8,9]) [] [] mixed gC5 (cQ _) (zz12 ?_);refine aY 31 Y (fun h31=>?_) (fun h31=>?_)
  · have hn:=bD5 hsk aH;refine zz2 ?_;refine jZ Y (xAB _) ?_;rw[hn]
    first|exact⟨_,Y,Y,Y,Y⟩|(cases Syn.number s a1 a1 <;> exact⟨_,Y,Y,Y,Y⟩)|(cases Syn.quoted s a1 a1 <;> exact⟨_,Y,Y,Y,Y⟩)
  obtain⟨c,hc⟩:∃c,s[a1]?=some c:=⟨s[a1]'(by omega),x4 aH⟩;have hal:=lA hc;have hn:=bIX hsk hc;refine zz3 ?_;refine cZ (anc:=[0,1,3,7,0,16,48,112,255,511]) (ord:=[0,1,2,3,4,5,6,7,8,9]) [] [] mixed gC5 (cQ _) (zz15 ?_);refine cN Y Y (nU c _) Y (zz6 ?_);refine cN Y Y (nE c _) Y (zz10 ?_);refine d9 51 Y (fun h51=>?_) (fun h51=>?_)
  · rw[aZD ((nO c).symm.trans h51)]at hn;have hwl:=kG eW s a1 aH;refine zz3 ?_;refine bA Y Y (aH0 b s a1 0 0 _ _ _ _ hs aH _) bS Y ?_;rintro _ K _ ⟨rfl,rfl,rfl⟩ -;refine zz11 ?_;refine aA (dG tb118 tb118f dF) Y (zz2 ?_);refine cD (cX ta118_4 Y Y Y bR gC1 (.skip (.skip (.skip (.skip (.cons (.cons (.cons (.cons .nil)))))))) gC8) ?_;rintro _ K _ ⟨rfl,rfl⟩ -;refine zz3 ?_;rw[hn]
    first|exact⟨_,Y,Y,Y,Y⟩|(cases Syn.number s a1 a1 <;> exact⟨_,Y,Y,Y,Y⟩)|(cases Syn.quoted s a1 a1 <;> exact⟨_,Y,Y,Y,Y⟩)
  refine zz7 ?_;refine aY 65 Y (fun h65=>?_) (fun h65=>?_)
  · refine zz9 ?_;refine uAb ?_;rintro _ K _ ⟨rfl,rfl⟩ -;refine zz3 ?_;refine dX (fun(_:Unit)=>True) (fun _=>[(0,ptr b),(97,.bool (!(gP ((s[a1+1]?).getD 0))))]) (fun _=>K) (fun _=>[rtc b s (a1+1:Nat) 0 0 (.int .u8 0) (str []) (i64 0) (i64 a1)]) ?_ ?_
    · refine cZ (anc:=[0,1,3,7,0,16,48,112,240,511,1023,2047,4095,8191,16383,2047,34815,100351,231423,524287,1048575,2097151,4194303]) (ord:=[0,1,2,3,4,5,6,7,8,9,10,11,12,13,14,15,16,17,18,19,20,21,22]) [20] [] mixed gC5 (cQ _) (zz11 ?_);refine fC 85 Y (fun g85=>?_) (fun g85=>?_)
      · have hd:s[a1+1]?=none:=xAD aH;refine zz13 ?_;exact a8 () trivial (.cons 0 Y (.cons 97 gGH .nil)) Y (fun _ h=>h)
      obtain⟨d,hd⟩:∃d,s[a1+1]?=some d:=⟨s[a1+1]'(by omega),x4 aH⟩;refine zz9 ?_;refine iL Y (.on Y Y Y) Y Y Y Y (nU d _) Y ?_;refine aJ Y Y (.on Y Y Y) Y Y gC3 Y (zz2 ?_);exact a8 () trivial (.cons 0 Y (.cons 97 gGH .nil)) Y (fun _ h=>h)
    intro _ _;refine d9 97 Y (fun h97=>?_) (fun h97=>?_)
    · rw[aTC aH (by simpa using h97)]at hn;refine zz8 ?_;refine bA Y Y (oS b s _ _ _ _ _ 2 a1 _ aH) bS Y ?_;rintro _ K _ ⟨rfl,rfl,rfl⟩ -;refine zz5 ?_;refine jZ Y (xAB _) ?_;rw[hn]
      first|exact⟨_,Y,Y,Y,Y⟩|(cases Syn.number s a1 a1 <;> exact⟨_,Y,Y,Y,Y⟩)|(cases Syn.quoted s a1 a1 <;> exact⟨_,Y,Y,Y,Y⟩)
    rw[aZF aH (by simpa using h97)]at hn;have hal2:a1+1 < s.length:=(by rcases xAC (a1+1) s.length with h|h;exact h;(rw[xAD h]at h97;cases h97));have hwl:=kG eW s (a1+1) aH;refine zz5 ?_;refine bA Y Y (aH0 b s (a1+1) 0 0 _ _ _ _ hs aH _) bS Y ?_;rintro _ K _ ⟨rfl,rfl,rfl⟩ -;refine zz11 ?_;refine aA (dG tb118 tb118f dF) Y (zz2 ?_);refine cD (cX ta118_4 Y Y Y bR gC1 (.skip (.skip (.skip (.skip (.cons (.cons (.cons (.cons .nil)))))))) gC8) ?_;rintro _ K _ ⟨rfl,rfl⟩ -;refine zz3 ?_;rw[hn]
    first|exact⟨_,Y,Y,Y,Y⟩|(cases Syn.number s a1 a1 <;> exact⟨_,Y,Y,Y,Y⟩)|(cases Syn.quoted s a1 a1 <;> exact⟨_,Y,Y,Y,Y⟩)
  refine zz6 ?_;refine d9 117 Y (fun h117=>?_) (fun h117=>?_)
  · refine zz2 ?_;refine bA Y Y (aJE b s a1 _ _ _ a1 hs aH _) bS Y ?_;rintro _ K _ ⟨rfl,rfl,rfl⟩ -;rw[aZC ((qP c).symm.trans h117)]at hn;refine zz3 ?_;rw[hn]
    first|exact⟨_,Y,Y,Y,Y⟩|(cases Syn.number s a1 a1 <;> exact⟨_,Y,Y,Y,Y⟩)|(cases Syn.quoted s a1 a1 <;> exact⟨_,Y,Y,Y,Y⟩)
  refine zz7 ?_;refine aY 121 Y (fun h121=>?_) (fun h121=>?_)
  · refine zz2 ?_;refine bA Y Y (aM2 b s a1 _ _ _ _ hs aH _) bS Y ?_;rintro _ K _ ⟨rfl,rfl,rfl⟩ -;rw[aZE aH]at hn;refine zz3 ?_;rw[hn]
    first|exact⟨_,Y,Y,Y,Y⟩|(cases Syn.number s a1 a1 <;> exact⟨_,Y,Y,Y,Y⟩)|(cases Syn.quoted s a1 a1 <;> exact⟨_,Y,Y,Y,Y⟩)
  refine dX (fun(_:Unit)=>True) (fun _=>[(0,ptr b),(2,.int .u8 c.toNat),(126,.bool (dD c))]) (fun _=>K) (fun _=>[rtc b s a1 0 0 (.int .u8 0) (str []) (i64 0) (i64 a1)]) ?_ ?_
  · refine zz4 ?_;refine bV 129 Y (fun g129=>?_) (fun g129=>?_)
    · refine zz29 ?_
      first
        | (have hb : dD c = decide ((c.toNat : Int) = 93) := gDI
           exact a8 () trivial (.cons 0 Y (.cons 2 Y (.cons 126 gDT .nil))) Y (fun _ h=>h))
        | (have hb : dD c = true := gDC
           exact a8 () trivial (.cons 0 Y (.cons 2 Y (.cons 126 gDT .nil))) Y (fun _ h=>h))
    refine zz6 ?_;refine bV 133 Y (fun g133=>?_) (fun g133=>?_)
    · refine zz25 ?_
      first
        | (have hb : dD c = decide ((c.toNat : Int) = 93) := gDI
           exact a8 () trivial (.cons 0 Y (.cons 2 Y (.cons 126 gDT .nil))) Y (fun _ h=>h))
        | (have hb : dD c = true := gDC
           exact a8 () trivial (.cons 0 Y (.cons 2 Y (.cons 126 gDT .nil))) Y (fun _ h=>h))
    refine zz6 ?_;refine bV 137 Y (fun g137=>?_) (fun g137=>?_)
    · refine zz21 ?_
      first
        | (have hb : dD c = decide ((c.toNat : Int) = 93) := gDI
           exact a8 () trivial (.cons 0 Y (.cons 2 Y (.cons 126 gDT .nil))) Y (fun _ h=>h))
        | (have hb : dD c = true := gDC
           exact a8 () trivial (.cons 0 Y (.cons 2 Y (.cons 126 gDT .nil))) Y (fun _ h=>h))
    refine zz6 ?_;refine bV 141 Y (fun g141=>?_) (fun g141=>?_)
    · refine zz17 ?_
      first
        | (have hb : dD c = decide ((c.toNat : Int) = 93) := gDI
           exact a8 () trivial (.cons 0 Y (.cons 2 Y (.cons 126 gDT .nil))) Y (fun _ h=>h))
        | (have hb : dD c = true := gDC
           exact a8 () trivial (.cons 0 Y (.cons 2 Y (.cons 126 gDT .nil))) Y (fun _ h=>h))
    refine zz6 ?_;refine bV 145 Y (fun g145=>?_) (fun g145=>?_)
    · refine zz13 ?_
      first
        | (have hb : dD c = decide ((c.toNat : Int) = 93) := gDI
           exact a8 () trivial (.cons 0 Y (.cons 2 Y (.cons 126 gDT .nil))) Y (fun _ h=>h))
        | (have hb : dD c = true := gDC
           exact a8 () trivial (.cons 0 Y (.cons 2 Y (.cons 126 gDT .nil))) Y (fun _ h=>h))
    refine zz6 ?_;refine bV 149 Y (fun g149=>?_) (fun g149=>?_)
    · refine zz9 ?_
      first
        | (have hb : dD c = decide ((c.toNat : Int) = 93) := gDI
           exact a8 () trivial (.cons 0 Y (.cons 2 Y (.cons 126 gDT .nil))) Y (fun _ h=>h))
        | (have hb : dD c = true := gDC
           exact a8 () trivial (.cons 0 Y (.cons 2 Y (.cons 126 gDT .nil))) Y (fun _ h=>h))
    refine zz6 ?_;refine bV 153 Y (fun g153=>?_) (fun g153=>?_)
    · refine zz5 ?_
      first
        | (have hb : dD c = decide ((c.toNat : Int) = 93) := gDI
           exact a8 () trivial (.cons 0 Y (.cons 2 Y (.cons 126 gDT .nil))) Y (fun _ h=>h))
        | (have hb : dD c = true := gDC
           exact a8 () trivial (.cons 0 Y (.cons 2 Y (.cons 126 gDT .nil))) Y (fun _ h=>h))
    refine zz7 ?_
    first
      | (have hb : dD c = decide ((c.toNat : Int) = 93) := gDI
         exact a8 () trivial (.cons 0 Y (.cons 2 Y (.cons 126 gDT .nil))) Y (fun _ h=>h))
      | (have hb : dD c = true := gDC
         exact a8 () trivial (.cons 0 Y (.cons 2 Y (.cons 126 gDT .nil))) Y (fun _ h=>h))
  intro _ _;refine d9 126 Y (fun h126=>?_) (fun h126=>?_)
  · rw[aTB h126]at hn;refine zz9 ?_;refine uAb ?_;rintro _ K _ ⟨rfl,rfl⟩ -;refine zz8 ?_;refine cD (bX ts5 Y Y dA bR aZe Y) ?_;rintro _ K _ ⟨rfl,rfl⟩ -;refine zz3 ?_;rw[hn]
    first|exact⟨_,Y,Y,Y,Y⟩|(cases Syn.number s a1 a1 <;> exact⟨_,Y,Y,Y,Y⟩)|(cases Syn.quoted s a1 a1 <;> exact⟨_,Y,Y,Y,Y⟩)
  rw[aZB ((nO c).symm.trans h51) aH ((qP c).symm.trans h117) aH h126]at hn;refine zz6 ?_;refine bA Y Y (oS b s _ _ _ _ _ 2 a1 _ aH) bS Y ?_;rintro _ K _ ⟨rfl,rfl,rfl⟩ -;refine zz3 ?_;rw[hn]
  first|exact⟨_,Y,Y,Y,Y⟩|(cases Syn.number s a1 a1 <;> exact⟨_,Y,Y,Y,Y⟩)|(cases Syn.quoted s a1 a1 <;> exact⟨_,Y,Y,Y,Y⟩)
def aZ1(b:Nat)(s:List UInt8)(e p:Int)(he:e≠0)(hs:s.length≤1000000)(K:Hl):
  Sp x3 50 [ptr b] K [aKK b s e p] (Ret fun v K' L'=>v=.tuple #[]∧K'=K∧L'=[aKK b s e p]):=by
 have hsk:skip s s.length=.ok s.length:=(by unfold skip;rw[show s.length+1 - s.length=0+1 by omega];exact u4 (xAA _));refine bN Tryz.func50 Y Tryz.ntmps50 Y Y fun F w=>?_;refine zz3 ?_;refine bA Y Y (aH3 b s s.length e p _ _ _ _ hs (xAA _) (.inr Y) _) bS Y ?_;rintro _ K _ ⟨rfl,rfl,rfl⟩ -;rw[hsk];dsimp only;refine zz12 ?_;refine aY 13 Y (fun h13=>?_) (fun h13=>?_)
 ·refine zz2 ?_;refine jZ Y (xAB _) ?_;exact⟨_,Y,Y,Y,Y⟩
 omega
def gF(b:Nat)(s:List UInt8)(r:Res St)(hr:ROk s r)(hs:s.length≤1000000)(K:Hl):
  Sp x3 50 [ptr b] K [rtx b s r] (Ret fun v K' L'=>v=.tuple #[]∧K'=K∧L'=[rtx b s (nx s r)]):=by
 cases r with
 |error e=>exact aZ1 b s e.1 e.2 hr hs K
 |ok st=>exact aH1 b s st.1 _ _ _ _ hs hr.1.1 K
def m5(b:Nat)(s:List UInt8)(r:Res St)(e p:Int)(hr:ROk s r)(hs:s.length≤1000000)(K:Hl):
  Sp x3 54 [ptr b,i64 e,i64 p] K [rtx b s r] (Ret fun v K' L'=>v=.tuple #[]∧K'=K∧L'=[rtx b s (rf (e,p) r)]):=by
 cases r with
 |error x=>exact bFH b s _ _ _ _ _ _ _ e p K hr
 |ok st=>exact oS b s _ _ _ _ _ e p K aH
end Go.Proofs
end
section
namespace Go.Syn
open Go.Proofs
def bd{β:Type}(r:Res St)(F:St→Res β):Res β:=match r with| .ok st=>F st| .error e=>.error e
def RV{α:Type}(x:Res (α×St))(a:α)(r:Res St):Prop:=match x with| .ok p=>p.1=a∧r=.ok p.2| .error e=>r=.error e
def RV.err{α:Type}{e:Int×Int}{a:α}{r:Res St}(h:RV (.error e) a r):r=.error e:=h
def RV.ok{α:Type}{p:α×St}{a:α}{r:Res St}(h:RV (.ok p) a r):p.1=a∧r=.ok p.2:=h
def RV.bad{α:Type}{x:Res (α×St)}{a:α}{e:Int×Int}(h:RV x a (.error e)):x=.error e:=by
 cases x with
 |error e2=>cases (show Except.error e=.error e2 from h);rfl
 |ok p=>obtain⟨_,e⟩:=h;cases e
def bK4{s:aP}{r:Res St}(h:ROk s r)(he:rE r=0):∃st,r=.ok st:=by
 cases r with
 |ok st=>exact⟨st,Y⟩
 |error e=>exact absurd he h
def zW{r:Res St}(h:rK r≠0):∃st,r=.ok st:=by
 cases r with
 |ok st=>exact⟨st,Y⟩
 |error e=>exact absurd Y h
def rsig(s:aP)(c:Nat)(r:Res St):Res St:=if rK r=c then nx s r else rf (4,rW s r) r
def aH2{s:aP}{c:Nat}{r:Res St}(h:rK r=c):rsig s c r=nx s r:=x7 h
def aM3{s:aP}{c:Nat}{r:Res St}(h:¬rK r=c):rsig s c r=rf (4,rW s r) r:=x5 h
def r9{s:aP}{c:Nat}{r:Res St}(h:ROk s r):ROk s (rsig s c r):=by
 unfold rsig;split
 ·exact lE h
 exact aKI h (fun h=>by cases h)
def kO{s:aP}{c:Nat}{e:Int×Int}(hc:c≠0):rsig s c (.error e)=.error e:=by
 exact x5 (show ¬(0=c) by omega)
def bJU{c:UInt8}(hc:dD c=true):c.toNat≠0:=by have:=sL hc;omega
def qG{s:aP}{c:UInt8}{r:Res St}(hc:dD c=true)(h:ROk s r):rsig s c.toNat r=bd r (fun st=>sign s st [c]):=by
 cases r with
 |error e=>exact kO (bJU hc)
 |ok st=>
  have hk:=wG h.2 hc
  show _=sign s st [c]
  unfold sign take
  by_cases hy:rk st.2=c.toNat
  ·obtain⟨h5,hs⟩:=hk.1 hy;rw[aH2 (show rK (.ok st)=_ from hy),x5 (by rintro(h|⟨_,h⟩);exact h h5;exact h (by simp[hs]))]
   show next s st.1=_
   cases next s st.1 <;> rfl
  rw [aM3 (show ¬ rK (.ok st) = _ from hy), x7 (by
   by_cases h5:st.2.kind=5
   ·refine .inr ⟨by simp,fun hm=>hy (hk.2 ⟨h5,by simpa using hm⟩)⟩
   exact .inl h5)]
  rfl
def aKJ{s:aP}{c k:Nat}{st:St}(hk:rk st.2=c↔st.2.kind=k):RV (take s st k []) st.2 (rsig s c (.ok st)):=by
 unfold take
 by_cases hy:rk st.2=c
 ·rw[aH2 (show rK (.ok st)=_ from hy),x5 (by rintro(h|⟨h,_⟩);exact h (hk.1 hy);exact h Y)]
  show RV _ _ (next s st.1)
  cases next s st.1 with
  |error e=>rfl
  |ok q=>exact⟨Y,Y⟩
 rw[aM3 (show ¬rK (.ok st)=_ from hy),x7 (.inl fun h=>hy (hk.2 h))]
 rfl
def rone(s:aP)(ff:aP→Int)(r:Res St):aP×Res St:=if rK r=34∧ff (rS r)≠0 then ([],rf (ff (rS r),rW s r) r)else (rS r,rsig s 34 r)
def pF{s:aP}{ff:aP→Int}{r:Res St}(h:ROk s r):ROk s (rone s ff r).2∧(rone s ff r).1.length≤s.length:=by
 unfold rone
 by_cases hc:rK r=34∧ff (rS r)≠0
 ·rw[x7 hc];exact⟨aKI h hc.2,x9 _⟩
 rw[x5 hc];exact⟨r9 h,bK5 h⟩
def zE{s:aP}{ff:aP→Int}{r:Res St}(h:ROk s r):RV (bd r fun st=>text s st ff) (rone s ff r).1 (rone s ff r).2:=by
 cases r with
 |error e=>
  unfold rone;rw[x5 (by rintro⟨h,_⟩;cases h)];exact kO (s:=s) (c:=34) (by decide)
 |ok st=>
  have hk:=bJC h.2
  show RV (text s st ff) _ _
  unfold rone text
  by_cases hc:rk st.2=34∧ff (rs st.2)≠0
  ·have h3:=hk.1 hc.1;have hs:rs st.2=st.2.s:=by unfold rs;rw[x5 aH]
   rw[x7 (show rK (.ok st)=34∧ff (rS (.ok st))≠0 from hc),x7 ⟨h3,hs▸hc.2⟩]
   show Except.error (ff (rs st.2),st.2.at_)=_
   rw[hs]
  rw[x5 (show ¬(rK (.ok st)=34∧ff (rS (.ok st))≠0)from hc)];have hc2:¬(st.2.kind=3∧ff st.2.s≠0):=by
   rintro⟨h3,hf⟩;have hs:rs st.2=st.2.s:=by unfold rs;rw[x5 aH]
   exact hc ⟨hk.2 h3,hs▸hf⟩
  rw[x5 hc2];have ht:=aKJ (s:=s) hk
  show RV _ (rs st.2) (rsig s 34 (.ok st))
  cases hx:take s st 3 []with
  |error e=>rw[hx]at ht;exact ht
  |ok q=>
   rw[hx]at ht;obtain⟨h1,h2⟩:=ht.ok;refine⟨?_,h2⟩
   have h3:st.2.kind=3:=by
    unfold take at hx;split at hx
    ·cases hx
    rename_i hn;exact xAZ fun hh=>hn (.inl hh)
   show q.1.s=rs st.2
   rw[h1];unfold rs;rw[x5 aH]
def muR(s:aP)(r:Res St):Nat:=match r with| .ok st=>mu s st+1| .error _=>0
def LInv(s:aP)(ff:aP→Int)(T:Res (List aP×St))(r:Res St)(acc:List aP):Prop:=match r with
 | .ok st=>∃f,mu s st≤f∧T=pR s ff (f+1) st acc
 | .error e=>T=.error e
def HInv(s:aP)(ff:aP→Int)(T:Res (List aP×St))(r:Res St)(acc:List aP):Prop:=match r with
 | .ok st=>match text s st ff with| .error e=>T=.error e| .ok x=>∃f,mu s x.2≤f∧T=pR s ff (f+1) x.2 (acc++[x.1])
 | .error e=>T=.error e
def bDJ{s:aP}{ff:aP→Int}{T:Res (List aP×St)}{r:Res St}{acc:List aP}(h:ROk s r)(hi:HInv s ff T r acc):LInv s ff T (rone s ff r).2 (acc++[(rone s ff r).1])∧muR s (rone s ff r).2≤muR s r:=by
 have hv:=zE (ff:=ff) h;cases r with
 |error e=>
  have:(rone s ff (.error e)).2=.error e:=hv;rw[this];exact⟨hi,xAA _⟩
 |ok st=>
  have hv2:RV (text s st ff) _ _:=hv;unfold HInv at hi;simp only[]at hi;cases hx:text s st ff with
  |error e=>
   rw[hx]at hv2 hi;have:(rone s ff (.ok st)).2=.error e:=hv2;rw[this];exact⟨hi,x9 _⟩
  |ok x=>
   rw[hx]at hv2 hi;obtain⟨f,hf,hT⟩:=hi;obtain⟨h1,h2⟩:=hv2.ok;have hm:=lX h.1.1 hx;rw[h2,←h1];exact⟨⟨f,hf,hT⟩,by show mu s x.2+1≤mu s st+1;omega⟩
def vR:dD 44=true:=by decide
def aYG{s:aP}{ff:aP→Int}{T:Res (List aP×St)}{r:Res St}{acc:List aP}(h:ROk s r)(hi:LInv s ff T r acc)(hk:rK r=44):HInv s ff T (nx s r) acc∧muR s (nx s r) < muR s r:=by
 obtain⟨st,rfl⟩:=zW (by rw[hk];decide);obtain⟨f,hf,hT⟩:=hi;obtain⟨h5,hs⟩:=(wG h.2 vR).1 hk;simp only[pR,eat]at hT;rw[x7 ⟨h5,hs⟩]at hT
 show HInv s ff T (next s st.1) acc∧muR s (next s st.1) < _
 cases hn:next s st.1 with
 |error e=>rw[hn]at hT;exact⟨hT,Nat.succ_pos _⟩
 |ok q=>
  rw[hn]at hT;have hm:=(gY h.1.1 aH hn).1;obtain⟨g,rfl⟩:∃g,f=g+1:=⟨f - 1,by omega⟩;refine⟨?_,by show mu s q+1 < mu s st+1;omega⟩
  simp only[if_true]at hT;unfold HInv;simp only[];cases hx:text s q ff with
  |error e=>rw[hx]at hT;exact hT
  |ok x=>
   rw[hx]at hT;have hm2:=(lX (fX h.1.1 hn).1 hx).1;exact⟨g,by omega,hT⟩
def aR3:dD 93=true:=by decide
def bDU{s:aP}{ff:aP→Int}{T:Res (List aP×St)}{r:Res St}{acc:List aP}(h:ROk s r)(hi:LInv s ff T r acc)(hk:rK r≠44):RV T acc (rsig s 93 r):=by
 cases r with
 |error e=>rw[show T=.error e from hi];exact kO (by decide)
 |ok st=>
  obtain⟨f,hf,hT⟩:=hi;have hn:¬(st.2.kind=5∧st.2.s=[44]):=fun hh=>hk ((wG h.2 vR).2 hh)
  simp only[pR,eat]at hT;rw[x5 hn]at hT;simp only[]at hT;rw[x5 (by decide)]at hT;have:=qG (s:=s) aR3 h;rw[show (93:UInt8).toNat=93 from rfl]at this;rw[this]
  show RV T acc (sign s st [93])
  rw[hT];cases sign s st [93]with
  |error e=>rfl
  |ok q=>exact⟨Y,Y⟩
def aKE:dD 91=true:=by decide
def bDW{s:aP}{ff:aP→Int}{r:Res St}(h:ROk s r)(hk:rK r≠91):RV (bd r fun st=>list s st ff) [(rone s ff r).1] (rone s ff r).2:=by
 have hv:=zE (ff:=ff) h;cases r with
 |error e=>exact hv
 |ok st=>
  have hn:¬(st.2.kind=5∧st.2.s=[91]):=fun hh=>hk ((wG h.2 aKE).2 hh)
  show RV (list s st ff) _ _
  unfold list eat;rw[x5 hn];simp only[];have hv2:RV (text s st ff) _ _:=hv;cases hx:text s st ff with
  |error e=>rw[hx]at hv2;exact hv2
  |ok x=>
   rw[hx]at hv2;obtain⟨h1,h2⟩:=hv2.ok;simp only[];rw[x5 (by decide)];exact⟨by rw[h1],h2⟩
def aYK{s:aP}{ff:aP→Int}{r:Res St}(h:ROk s r)(hk:rK r=91):HInv s ff (bd r fun st=>list s st ff) (nx s r) []∧muR s (nx s r) < muR s r:=by
 obtain⟨st,rfl⟩:=zW (by rw[hk];decide);obtain⟨h5,hs⟩:=(wG h.2 aKE).1 hk
 show HInv s ff (list s st ff) (next s st.1) []∧muR s (next s st.1) < _
 unfold list eat;rw[x7 ⟨h5,hs⟩];cases hn:next s st.1 with
 |error e=>exact⟨Y,Nat.succ_pos _⟩
 |ok q=>
  have hm:=(gY h.1.1 aH hn).1;refine⟨?_,by show mu s q+1 < mu s st+1;omega⟩
  simp only[if_true];unfold HInv;simp only[];cases hx:text s q ff with
  |error e=>rfl
  |ok x=>exact⟨mu s x.2,xAA _,Y⟩
end Go.Syn
end
section
attribute [local irreducible] Go.SL.T Go.SL.OL Go.SL.D Go.SL.DL Go.SL.Ev Go.SL.Ef Go.SL.EfS
namespace Go.Proofs
open Go Go.SL Go.Syn Go.Mach
def q8(v:Value)(x:List UInt8)(xs:List (List UInt8))(K:Hl)(L:List Asn)(hv:SeesSl (a7 9) K L v xs)(hn:xs.length≤10000000):Sp x3 45 [v,str x] K L (Ret fun u K' L'=>u=.bool (decide (x∈xs))∧K'=K∧L'=L):=by
 refine bN Tryz.func45 Y Tryz.ntmps45 Y Y fun F w=>?_;refine zz12 ?_;refine eH (fun(i:Nat)=>i≤xs.length∧∀j:Nat,j < i→xs[j]?≠some x) (fun i=>[(0,v),(1,str x),(5,i64 i)]) (fun _=>K) (fun _=>L) (fun i=>xs.length - i) 0 ⟨x9 _,fun j h=>by omega⟩ aS Y (fun _ h=>h) ?_;intro i ⟨hi1,hi2⟩;refine zz5 ?_;refine aA (bU (k:=a7 9) Y Tryz.underlying43 Y hv) Y (zz3 ?_);refine aY 9 Y (fun h9=>?_) (fun h9=>?_)
 ·obtain⟨y,hy⟩:∃y,xs[i]?=some y:=⟨xs[i]'(by omega),x4 aH⟩;have hlen:i < xs.length:=by omega
  refine zz8 ?_;refine aA (aX (k:=a7 9) cB Y hv Y Y hlen) Y ?_;refine aA (cE (o:=0) (k:=a7 9) ts9 Y hv hy Y) Y (zz4 ?_);refine aY 17 Y (fun h17=>?_) (fun h17=>?_)
  ·refine zz12 ?_;have hm:x∈xs:=x8 (h17▸hy);exact⟨_,Y,by rw[xAM hm],rfl,rfl⟩
  refine zz8 ?_;refine cM (i+1) ⟨by omega,?_⟩ aH aS Y (fun _ h=>h)
  intro j hj e
  by_cases hji:j=i
  ·subst hji;rw[hy]at e;exact h17 (xAY e)
  exact hi2 j aH e
 refine zz12 ?_;have hm:¬x∈xs:=(fun hm=>by obtain⟨j,hj,e⟩:=List.getElem_of_mem hm;exact hi2 j aH (by rw[x4 hj,e]));exact⟨_,Y,by rw[xAJ hm],rfl,rfl⟩
def aZZ(K:Hl):Sp x3 185 [] K [] (Ret fun u K' L'=>K'=K∧∃b,u=.slice (some ⟨b,0,none⟩) 4 4∧L'=[pt b (bL [str dS,str fV,str iO,str eB] 9)]):=by
 refine bN Tryz.func185 Y Tryz.ntmps185 Y Y fun F w=>?_;refine zz7 ?_;refine cJ (bM (z0:=[(str []),(str []),(str []),(str [])]) cB tz9 Y Y Y Y dF) Y ?_;rintro _ K _ ⟨b1,rfl,rfl,rfl⟩ -;refine zz5 ?_;exact⟨_,Y,Y,_,Y,Y⟩
def aZA{s:aP}(h:∀m c,s[m]?=some c→eW c=true∧(m=0→gP c=true)):named s=decide (0 < s.length):=by
 cases s with
 |nil=>rfl
 |cons c t=>
  have h0:=h 0 c rfl;have ha:(c::t).all eW=true:=xBN.2 fun x hx=>by
   obtain⟨m,hm,e⟩:=List.getElem_of_mem hx;exact(h m x (by rw[x4 hm,e])).1
  have hd:gD c=false:=by
   have h1:=aHD (h0.2 rfl);cases hx:gD c with
   |false=>rfl
   |true=>have:=aOI hx;omega
  unfold named;rw[ha]
  show (true&&(decide (c::t≠[])&&!gD c))=_
  rw[hd];simp
def aTA{s:aP}{c:UInt8}(hc:s[0]?=some c)(h:gP c=false):named s=false:=by
 cases hd:gD c with
 |false=>exact aHM hc (by unfold eW;rw[h,hd];rfl)
 |true=>unfold named;rw[hc];simp[hd]
def aEZ(s:List UInt8)(K:Hl)(hs:s.length≤140737488355328):Sp x3 139 [str s] K [] (Val (.bool (named s)) K):=by
 refine bN Tryz.func139 Y Tryz.ntmps139 Y Y fun F w=>?_;refine zz12 ?_;refine eH (fun(i:Nat)=>i≤s.length∧∀m c,m < i→s[m]?=some c→eW c=true∧(m=0→gP c=true)) (fun i=>[(0,str s),(3,i64 i)]) (fun _=>K) (fun i=>[]) (fun i=>s.length - i) 0 ⟨x9 _,fun m c h _=>by omega⟩ aS Y (fun _ h=>h) ?_;intro i ⟨hi0,hi1⟩;refine zz9 ?_;refine aY 9 Y (fun h9=>?_) (fun h9=>?_)
 ·have hilt:i < s.length:=by omega
  obtain⟨c,hc⟩:∃c,s[i]?=some c:=⟨s[i]'hilt,x4 hilt⟩;refine zz9 ?_;refine cN Y Y (nU c _) Y (zz8 ?_);refine cN Y Y (nE c _) Y (zz3 ?_);refine dX (fun(_:Unit)=>True) (fun _=>[(0,str s),(3,i64 i),(29,.bool (!(letB c)&&(!(digB c)||decide (i=0))))]) (fun _=>K) (fun _=>[]) ?_ ?_
  ·refine zz2 ?_;refine aA gC3 Y (zz1 ?_);refine kN 22 Y (fun g22=>?_) (fun g22=>?_)
   ·refine zz3 ?_;refine aA gC3 Y (zz2 ?_);refine kN 25 Y (fun g25=>?_) (fun g25=>?_)
    ·refine zz6 ?_;exact a8 () trivial (.cons 0 Y (.cons 3 Y (.cons 29 gDR .nil))) Y (fun _ h=>h)
    refine zz8 ?_;exact a8 () trivial (.cons 0 Y (.cons 3 Y (.cons 29 gDR .nil))) Y (fun _ h=>h)
   refine zz8 ?_;exact a8 () trivial (.cons 0 Y (.cons 3 Y (.cons 29 gDR .nil))) Y (fun _ h=>h)
  intro _ _;refine d9 29 Y (fun h29=>?_) (fun h29=>?_)
  ·have hq:named s=false:=(by cases hl:letB c with|true=>rw[hl]at h29;cases h29|false=>cases hd:digB c with|false=>exact aHM hc (by unfold eW;rw[←nO,←qP,hl,hd];rfl)|true=>rw[hl,hd]at h29;exact aTA ((show i=0 by simpa using h29)▸hc) ((nO c).symm.trans hl));refine zz11 ?_;refine uAf ?_;refine zz1 ?_
   first
    |exact jW hq.symm _
    |(refine jW ?_ _;rw[hq,decide_eq_decide];omega)
  refine zz8 ?_;have hb:eW c=true∧(i=0→gP c=true):=(by unfold eW;rw[←nO,←qP];cases hl:letB c with|true=>exact⟨Y,fun _=>Y⟩|false=>cases hd:digB c with|true=>exact⟨Y,fun h0=>by simp[hl,hd,h0]at h29⟩|false=>simp[hl,hd]at h29);refine cM (i+1) ⟨by omega,fun m c2 hm hc2=>?_⟩ aH aS Y (fun _ h=>h)
  rcases xAC m i with h|h
  ·exact hi1 m c2 h hc2
  have e:m=i:=by omega
  subst e;rw[hc]at hc2;cases hc2;exact hb
 have hq:named s=decide (0 < s.length):=aZA fun m c hc=>hi1 m c (by have:=lA hc;omega) hc
 refine zz14 ?_;refine uAf ?_;refine zz1 ?_
 first
  |exact jW hq.symm _
  |(refine jW ?_ _;rw[hq,decide_eq_decide];omega)
def ffit(what:Nat):aP→Int:=if what=1 then oneOf 6 tL else if what=2 then oneOf 7 [dN,dE]else if what=3 then fun x=>oneOf 7 [[102,114,111,109],[116,111]] (eD x)else if what=4 then fun x=>if named x=true then 0 else 7 else fun _=>0
def aFF{x:aP}:ffit 0 x=0:=rfl
def aFG{x:aP}:ffit 1 x=if decide (x∈tL)=true then 0 else 6:=by show (if x∈tL then (0:Int)else 6)=_;simp only[decide_eq_true_eq]
def aFH{x:aP}:ffit 2 x=if (decide (x=dN)||decide (x=dE))=true then 0 else 7:=by
 show (if x∈[dN,dE]then (0:Int)else 7)=_
 simp only[List.mem_cons,List.not_mem_nil,or_false,Bool.or_eq_true,decide_eq_true_eq]
def aFI{x:aP}:ffit 3 x=if (decide (eD x=[102,114,111,109])||decide (eD x=[116,111]))=true then 0 else 7:=by
 show (if eD x∈[[102,114,111,109],[116,111]]then (0:Int)else 7)=_
 simp only[List.mem_cons,List.not_mem_nil,or_false,Bool.or_eq_true,decide_eq_true_eq]
def aFJ{x:aP}:ffit 4 x=if named x=true then 0 else 7:=rfl
def oJ{e:Int}{what:Nat}{x:aP}{K:Hl}(h:ffit what x=e):Val (i64 (ffit what x)) K (.returned (i64 e)) K []:=⟨by rw[h],rfl,rfl⟩
def aTR(x:List UInt8)(what:Nat)(K:Hl)(hw:what≤4)(hx:x.length≤1000000):Sp x3 117 [str x,i64 what] K [] (Val (i64 (ffit what x)) K):=by
 refine bN Tryz.func117 Y Tryz.ntmps117 Y Y fun F w=>?_;refine zz23 ?_;refine aY 8 Y (fun h8=>?_) (fun h8=>?_)
 ·obtain rfl:what=1:=by omega
  refine zz2 ?_;refine bA Y Y (aZZ _) .nil Y ?_;rintro _ K _ ⟨rfl,b10,rfl,rfl⟩ -;refine zz1 ?_;refine bA Y Y (q8 _ x tL _ [pt b10 (bL [str dS,str fV,str iO,str eB] 9)] (.blk aL Y Y) (by decide)) bS Y ?_;rintro _ K _ ⟨rfl,rfl,rfl⟩ -;refine zz6 ?_;refine aA gC3 Y (zz2 ?_);refine d9 14 Y (fun h14=>?_) (fun h14=>?_)
  ·refine zz8 ?_;refine uAf ?_;refine zz1 ?_;refine oJ ?_
   first|exact aFF|(rw[aFG];simp_all[dN,dE];done)|(rw[aFH];simp_all[dN,dE];done)|(rw[aFI];simp_all[dN,dE];done)|(rw[aFJ];simp_all[dN,dE];done)
  refine zz7 ?_;refine aA gC3 Y (zz2 ?_)
  first|refine aY 38 Y (fun h38=>?_) (fun h38=>?_)|refine d9 38 Y (fun h38=>?_) (fun h38=>?_)
  ·refine zz7 ?_;refine uAf ?_;refine zz1 ?_;refine oJ ?_
   first|exact aFF|(rw[aFG];simp_all[dN,dE];done)|(rw[aFH];simp_all[dN,dE];done)|(rw[aFI];simp_all[dN,dE];done)|(rw[aFJ];simp_all[dN,dE];done)
  refine zz8 ?_;refine uAf ?_;refine zz1 ?_;refine oJ ?_
  first|exact aFF|(rw[aFG];simp_all[dN,dE];done)|(rw[aFH];simp_all[dN,dE];done)|(rw[aFI];simp_all[dN,dE];done)|(rw[aFJ];simp_all[dN,dE];done)
 refine zz6 ?_;refine aY 15 Y (fun h15=>?_) (fun h15=>?_)
 ·obtain rfl:what=2:=by omega
  refine zz4 ?_;refine kN 19 Y (fun g19=>?_) (fun g19=>?_)
  ·refine zz23 ?_;refine uAf ?_;refine zz1 ?_;refine oJ ?_
   first|exact aFF|(rw[aFG];simp_all[dN,dE];done)|(rw[aFH];simp_all[dN,dE];done)|(rw[aFI];simp_all[dN,dE];done)|(rw[aFJ];simp_all[dN,dE];done)
  refine zz13 ?_;refine aA gC3 Y (zz2 ?_)
  first|refine aY 38 Y (fun h38=>?_) (fun h38=>?_)|refine d9 38 Y (fun h38=>?_) (fun h38=>?_)
  ·refine zz7 ?_;refine uAf ?_;refine zz1 ?_;refine oJ ?_
   first|exact aFF|(rw[aFG];simp_all[dN,dE];done)|(rw[aFH];simp_all[dN,dE];done)|(rw[aFI];simp_all[dN,dE];done)|(rw[aFJ];simp_all[dN,dE];done)
  refine zz8 ?_;refine uAf ?_;refine zz1 ?_;refine oJ ?_
  first|exact aFF|(rw[aFG];simp_all[dN,dE];done)|(rw[aFH];simp_all[dN,dE];done)|(rw[aFI];simp_all[dN,dE];done)|(rw[aFJ];simp_all[dN,dE];done)
 refine zz6 ?_;refine aY 23 Y (fun h23=>?_) (fun h23=>?_)
 ·obtain rfl:what=3:=by omega
  refine zz3 ?_;refine cN Y Y (kI _ _ aH) Y (zz7 ?_);refine kN 29 Y (fun g29=>?_) (fun g29=>?_)
  ·refine zz23 ?_;refine uAf ?_;refine zz1 ?_;refine oJ ?_
   first|exact aFF|(rw[aFG];simp_all[dN,dE];done)|(rw[aFH];simp_all[dN,dE];done)|(rw[aFI];simp_all[dN,dE];done)|(rw[aFJ];simp_all[dN,dE];done)
  refine zz13 ?_;refine aA gC3 Y (zz2 ?_)
  first|refine aY 38 Y (fun h38=>?_) (fun h38=>?_)|refine d9 38 Y (fun h38=>?_) (fun h38=>?_)
  ·refine zz7 ?_;refine uAf ?_;refine zz1 ?_;refine oJ ?_
   first|exact aFF|(rw[aFG];simp_all[dN,dE];done)|(rw[aFH];simp_all[dN,dE];done)|(rw[aFI];simp_all[dN,dE];done)|(rw[aFJ];simp_all[dN,dE];done)
  refine zz8 ?_;refine uAf ?_;refine zz1 ?_;refine oJ ?_
  first|exact aFF|(rw[aFG];simp_all[dN,dE];done)|(rw[aFH];simp_all[dN,dE];done)|(rw[aFI];simp_all[dN,dE];done)|(rw[aFJ];simp_all[dN,dE];done)
 refine zz6 ?_;refine aY 33 Y (fun h33=>?_) (fun h33=>?_)
 ·obtain rfl:what=4:=by omega
  refine zz2 ?_;refine cN Y Y (aEZ _ _ aH) Y (zz8 ?_);refine aA gC3 Y (zz2 ?_)
  first|refine aY 38 Y (fun h38=>?_) (fun h38=>?_)|refine d9 38 Y (fun h38=>?_) (fun h38=>?_)
  ·refine zz7 ?_;refine uAf ?_;refine zz1 ?_;refine oJ ?_
   first|exact aFF|(rw[aFG];simp_all[dN,dE];done)|(rw[aFH];simp_all[dN,dE];done)|(rw[aFI];simp_all[dN,dE];done)|(rw[aFJ];simp_all[dN,dE];done)
  refine zz8 ?_;refine uAf ?_;refine zz1 ?_;refine oJ ?_
  first|exact aFF|(rw[aFG];simp_all[dN,dE];done)|(rw[aFH];simp_all[dN,dE];done)|(rw[aFI];simp_all[dN,dE];done)|(rw[aFJ];simp_all[dN,dE];done)
 obtain rfl:what=0:=by omega
 refine zz19 ?_;refine uAf ?_;refine zz1 ?_;refine oJ ?_
 first|exact aFF|(rw[aFG];simp_all[dN,dE];done)|(rw[aFH];simp_all[dN,dE];done)|(rw[aFI];simp_all[dN,dE];done)|(rw[aFJ];simp_all[dN,dE];done)
end Go.Proofs
end
section
namespace Go.Proofs
open Go Go.SL Go.Syn Go.Mach
open Go.Say (Co)
structure CInv (c:Co):Prop where
 vn:c.vars.length≤1000000
 vars:∀name,(vget c.vars name).length≤100000
 parts:∀x∈c.parts,x.length≤100000
 acts:c.acts.length≤6
 keep:c.keep=true→c.acts=[]
end Go.Proofs
end
section
namespace Go.Syn
open Go.Proofs
def reqx(s:aP)(needs:List aP)(ext:aP)(r:Res St):Res St:=if ext=[]∨ext∈needs then r else rf (6,rW s r) r
def zD{s:aP}{needs:List aP}{ext:aP}{r:Res St}(h:ROk s r):ROk s (reqx s needs ext r):=by
 unfold reqx;split
 ·exact h
 exact aKI h (fun h=>by cases h)
def extW(w:aP):aP:=if w=dS then dS else if w=gV then eB else []
def opW(w:aP):Int:=if w=gU then 6 else if w=dS then 7 else 8
def aQ4(s:aP)(r:Res St):Res (How×St):=bd r fun st=>gT s (mu s st+1) ⟨false,0,false⟩ st
def TInv(s:aP)(T:Res (How×St))(r:Res St)(h:How):Prop:=match r with
 | .ok st=>∃f,mu s st≤f∧T=gT s (f+1) h st
 | .error e=>T=.error e
def bAX(s:aP)(r:Res St):TInv s (aQ4 s r) r ⟨false,0,false⟩:=by
 cases r with
 |error e=>rfl
 |ok st=>exact⟨mu s st,xAA _,Y⟩
def aY2{s:aP}{needs:List aP}{op:Int}{ext:aP}{r:Res St}:bd r (l9 s needs op ext)=mI s op (aQ4 s (nx s (reqx s needs ext r))):=by
 cases r with
 |error e=>
  unfold reqx;split <;> rfl
 |ok st=>
  show l9 s needs op ext st=_
  unfold l9 reqx
  by_cases h:ext=[]∨ext∈needs
  ·rw[x7 h,x5 (by rintro⟨h1,h2⟩;rcases h with h|h;exact h1 h;exact h2 h)]
   show _=mI s op (aQ4 s (next s st.1))
   cases next s st.1 <;> rfl
  rw[x5 h,x7 ⟨fun e=>h (.inl e),fun e=>h (.inr e)⟩];rfl
def bG1{s:aP}{T:Res (How×St)}{r:Res St}{h:How}(hr:ROk s r)(hi:TInv s T r h)(hk:rK r≠58):RV T h r:=by
 cases r with
 |error e=>rw[show T=.error e from hi];rfl
 |ok st=>
  obtain⟨f,_,hT⟩:=hi;have hn:¬st.2.kind=2:=fun hh=>hk ((aM1 hr.2).2 hh)
  simp only[gT]at hT;rw[x5 hn]at hT;rw[hT];exact⟨Y,Y⟩
def aF1{s:aP}{T:Res (How×St)}{r:Res St}{h:How}(hr:ROk s r)(hi:TInv s T r h)(hk:rK r=58):∃st f,r=.ok st∧mu s st≤f∧rS r=st.2.s∧rW s r=st.2.at_∧T=gT s (f+1) h st∧st.2.kind=2:=by
 obtain⟨st,rfl⟩:=zW (r:=r) aH;obtain⟨f,hf,hT⟩:=hi;have h2:=(aM1 hr.2).1 hk;exact⟨st,f,Y,hf,by show rs st.2=_;unfold rs;rw[x5 aH],rfl,hT,h2⟩
def bGQ(x:aP):dW eT x=if x=txIs then 0 else if x=mP then 1 else if x=o4 then 2 else if x=mO then 3 else -1:=by
 unfold dW eT;rw[List.findIdx?_cons,List.findIdx?_cons,List.findIdx?_cons,List.findIdx?_cons]
 by_cases h1:x=txIs
 ·simp[h1]
 by_cases h2:x=mP
 ·simp[h2,txIs,mP]
 by_cases h3:x=o4
 ·simp[h3,txIs,mP,o4]
 by_cases h4:x=mO
 ·simp[h4,txIs,mP,o4,mO]
 simp[h1,h2,h3,h4]
def bG0{s:aP}{T:Res (How×St)}{r:Res St}{h:How}(hr:ROk s r)(hi:TInv s T r h)(hk:rK r=58)(hx:dW eT (rS r)= -1):T=.error (4,rW s r)∧rf (4,rW s r) r=.error (4,rW s r):=by
 obtain⟨st,f,rfl,_,h1,h2,hT,h5⟩:=aF1 hr hi hk;rw[h1]at hx;simp only[gT]at hT;rw[x7 h5,x7 hx]at hT;exact⟨hT,Y⟩
def aIO{s:aP}{T:Res (How×St)}{r:Res St}{h:How}(hr:ROk s r)(hi:TInv s T r h)(hk:rK r=58)(hx0:dW eT (rS r)≠ -1)(hx:(dW eT (rS r)=3∧h.cmp=true)∨(dW eT (rS r) < 3∧h.tag≠0)):T=.error (7,rW s r)∧rf (7,rW s r) r=.error (7,rW s r):=by
 obtain⟨st,f,rfl,_,h1,h2,hT,h5⟩:=aF1 hr hi hk;rw[h1]at hx hx0;simp only[gT]at hT;rw[x7 h5,x5 hx0,x7 hx]at hT;exact⟨hT,Y⟩
def aRD{s:aP}{T:Res (How×St)}{r:Res St}{h:How}(hr:ROk s r)(hi:TInv s T r h)(hk:rK r=58)(hx0:dW eT (rS r)≠ -1)(hx:dW eT (rS r) < 3)(ht:h.tag=0):TInv s T (nx s r) ⟨h.cmp,1+dW eT (rS r),h.oct⟩∧muR s (nx s r) < muR s r:=by
 obtain⟨st,f,rfl,hf,h1,h2,hT,h5⟩:=aF1 hr hi hk;rw[h1]at hx hx0 ⊢;simp only[gT]at hT;rw[x7 h5,x5 hx0,x5 (by rintro(⟨h,_⟩|⟨_,h⟩);omega;exact h ht),x7 hx]at hT
 show TInv s T (next s st.1) _∧muR s (next s st.1) < _
 cases hn:next s st.1 with
 |error e=>rw[hn]at hT;exact⟨hT,Nat.succ_pos _⟩
 |ok q=>
  rw[hn]at hT;have hm:=(gY hr.1.1 aH hn).1;obtain⟨g,rfl⟩:∃g,f=g+1:=⟨f - 1,by omega⟩;exact⟨⟨g,by omega,hT⟩,by show mu s q+1 < mu s st+1;omega⟩
def aRC{s:aP}{T:Res (How×St)}{r:Res St}{h:How}(hr:ROk s r)(hi:TInv s T r h)(hk:rK r=58)(hx:dW eT (rS r)=3)(hc:h.cmp=false):TInv s T (rone s (oneOf 7 [dN,dE]) (nx s r)).2 ⟨true,h.tag,decide ((rone s (oneOf 7 [dN,dE]) (nx s r)).1=dN)⟩∧muR s (rone s (oneOf 7 [dN,dE]) (nx s r)).2 < muR s r:=by
 have hro:=lE hr;have hv:=zE (ff:=oneOf 7 [dN,dE]) hro;obtain⟨st,f,rfl,hf,h1,h2,hT,h5⟩:=aF1 hr hi hk;rw[h1]at hx;simp only[gT]at hT;rw[x7 h5,x5 aH,x5 (by rintro(⟨_,h⟩|⟨h,_⟩);rw[hc]at h;cases h;omega),x5 aH]at hT;have hnx:nx s (.ok st)=next s st.1:=rfl;rw[hnx]at hv hro ⊢;cases hn:next s st.1 with
 |error e=>
  rw[hn]at hT hv;have:(rone s (oneOf 7 [dN,dE]) (.error e)).2=.error e:=hv;rw[this];exact⟨hT,Nat.succ_pos _⟩
 |ok q=>
  rw[hn]at hT hv;have hm:=(gY hr.1.1 aH hn).1;have hqo:=fX hr.1.1 hn;simp only[]at hT;have hv2:RV (text s q (oneOf 7 [dN,dE])) _ _:=hv;cases hx2:text s q (oneOf 7 [dN,dE])with
  |error e=>
   rw[hx2]at hT hv2;have:(rone s (oneOf 7 [dN,dE]) (.ok q)).2=.error e:=hv2;rw[this];exact⟨hT,Nat.succ_pos _⟩
  |ok x=>
   rw[hx2]at hT hv2;obtain⟨e1,e2⟩:=hv2.ok;have hm2:=(lX hqo.1 hx2).1;rw[e2,←e1];obtain⟨g,rfl⟩:∃g,f=g+1:=⟨f - 1,by omega⟩;exact⟨⟨g,by omega,hT⟩,by show mu s x.2+1 < mu s st+1;omega⟩
def aPF{s:aP}{op:Int}{T:Res (How×St)}{h:How}{r r2 r3:Res St}{xs ys:List aP}(h1:RV T h r)(h2:RV (bd r fun st=>list s st (nD op)) xs r2)(h3:RV (bd r2 fun st=>list s st (fun _=>0)) ys r3):RV (mI s op T) (.mat (if 1>h.tag then 1 else h.tag) h.oct op xs ys) r3:=by
 cases T with
 |error e=>
  cases (show r=.error e from h1)
  cases (show r2=.error e from h2)
  exact h3
 |ok p=>
  obtain⟨rfl,rfl⟩:=h1.ok;unfold mI;simp only[];have h2':RV (list s p.2 (nD op)) xs r2:=h2;cases hl:list s p.2 (nD op)with
  |error e=>
   rw[hl]at h2';cases (show r2=.error e from h2')
   exact h3
  |ok a=>
   rw[hl]at h2';obtain⟨rfl,rfl⟩:=h2'.ok;have h3':RV (list s a.2 (fun _=>0)) ys r3:=h3;simp only[];cases hm:list s a.2 (fun _=>0)with
   |error e=>rw[hm]at h3';exact h3'
   |ok b=>rw[hm]at h3';obtain⟨rfl,e⟩:=h3'.ok;exact⟨Y,e⟩
def wD{s:aP}{op:Int}{T:Res (How×St)}{t:Tree}{e:Int×Int}(h:T=.error e):RV (mI s op T) t (.error e):=by rw[h];rfl
end Go.Syn
end
section
namespace Go.Syn
open Go Go.SL Go.Proofs
abbrev nilS:Value:=.slice none 0 0
abbrev tsO(w:aP)(tv av bv:Value)(tag:Int)(oct:Bool)(n:Int):Obj:=bL [str w,tv,av,bv,i64 tag,.bool oct,i64 n] 203
abbrev cmO(w:aP)(av:Value)(tag:Int)(tv bv:Value)(p:Int):Obj:=bL [str w,av,i64 tag,tv,bv,i64 p] 156
abbrev pcl(b:Nat):Cell:=⟨ptr b,rfl⟩
def xM(all:Bool):aP:=if all=true then lZ else l4
def matW(op:Int):aP:=if op=6 then gU else if op=7 then dS else gV
def actW(k:Int):aP:=if k=1 then qL else if k=2 then fV else if k=3 then gR else iO
def RR(K:Hl):Tree→List Cell→List Cell→Prop
 | .const c,us,ws=>ws=[]∧∃b,us=[pcl b]∧K b=some (tsO (if c=true then j6 else iB) nilS nilS nilS 0 false 0)
 | .not_ t,us,ws=>ws=[]∧∃b v tv,us=[pcl b]∧RR K t [v] []∧Ksl (cC 159) K tv [v]∧K b=some (tsO rJ tv nilS nilS 0 false 0)
 | .many all l,us,ws=>ws=[]∧∃b xs tv,us=[pcl b]∧RR K l xs []∧Ksl (cC 159) K tv xs∧K b=some (tsO (xM all) tv nilS nilS 0 false 0)
 | .mat tag oct op x y,us,ws=>ws=[]∧∃b va vb,us=[pcl b]∧Ksl (a7 9) K va x∧Ksl (a7 9) K vb y∧K b=some (tsO (matW op) nilS va vb tag oct 0)
 | .exi x,us,ws=>ws=[]∧∃b va,us=[pcl b]∧Ksl (a7 9) K va x∧lB va∧K b=some (tsO kP nilS va nilS 0 false 0)
 | .siz tag n,us,ws=>ws=[]∧∃b,us=[pcl b]∧K b=some (tsO nL nilS nilS nilS tag false n)
 | .plain op,us,ws=>ws=[]∧∃b p,us=[pcl b]∧K b=some (cmO (if op=14 then mQ else jV) nilS 0 nilS nilS p)
 | .act k a p,us,ws=>ws=[]∧∃b av,us=[pcl b]∧Ksl (a7 9) K av (if k=1 then []else [a])∧K b=some (cmO (actW k) av 0 nilS nilS p)
 | .set_ n v t,us,ws=>ws=[]∧∃b av p,us=[pcl b]∧Ksl (a7 9) K av [n,v]∧K b=some (cmO tM av t nilS nilS p)
 | .iff bs,us,ws=>ws=[]∧∃b xs ys tv bv p,us=[pcl b]∧RR K bs xs ys∧Ksl (cC 159) K tv xs∧Ksl (cC 103) K bv ys∧K b=some (cmO txIf nilS 0 tv bv p)
 | .tnil,us,ws=>us=[]∧ws=[]
 | .cnil,us,ws=>us=[]∧ws=[]
 | .bnil,us,ws=>us=[]∧ws=[]
 | .tcons t l,us,ws=>ws=[]∧∃v xs,us=v::xs∧RR K t [v] []∧RR K l xs []
 | .ccons t l,us,ws=>ws=[]∧∃v xs,us=v::xs∧RR K t [v] []∧RR K l xs []
 | .bcons t b l,us,ws=>∃v xs sv ys zs,us=v::xs∧ws=sv::ys∧RR K t [v] []∧RR K b zs []∧Ksl (cC 152) K sv.1 zs∧RR K l xs ys
 | .belse b l,us,ws=>l=.bnil∧us=[]∧∃sv zs,ws=[sv]∧RR K b zs []∧Ksl (cC 152) K sv.1 zs
def RR.mono{K K':Hl}(le:K.le K'):∀ {t:Tree} {us ws:List Cell},RR K t us ws→RR K' t us ws:=by
 intro t;induction t with
 |const c=>rintro us ws ⟨h,b,e,hk⟩;exact⟨h,b,e,le _ _ hk⟩
 |not_ t ih=>rintro us ws ⟨h,b,v,tv,e,h1,h2,hk⟩;exact⟨h,b,v,tv,e,ih h1,h2.mono le,le _ _ hk⟩
 |many all l ih=>rintro us ws ⟨h,b,xs,tv,e,h1,h2,hk⟩;exact⟨h,b,xs,tv,e,ih h1,h2.mono le,le _ _ hk⟩
 |mat tag oct op x y=>rintro us ws ⟨h,b,va,vb,e,h1,h2,hk⟩;exact⟨h,b,va,vb,e,h1.mono le,h2.mono le,le _ _ hk⟩
 |exi x=>rintro us ws ⟨h,b,va,e,h1,hf,hk⟩;exact⟨h,b,va,e,h1.mono le,hf,le _ _ hk⟩
 |siz tag n=>rintro us ws ⟨h,b,e,hk⟩;exact⟨h,b,e,le _ _ hk⟩
 |plain op=>rintro us ws ⟨h,b,p,e,hk⟩;exact⟨h,b,p,e,le _ _ hk⟩
 |act k a p=>rintro us ws ⟨h,b,av,e,h1,hk⟩;exact⟨h,b,av,e,h1.mono le,le _ _ hk⟩
 |set_ n v t=>rintro us ws ⟨h,b,av,p,e,h1,hk⟩;exact⟨h,b,av,p,e,h1.mono le,le _ _ hk⟩
 |iff bs ih=>rintro us ws ⟨h,b,xs,ys,tv,bv,p,e,h1,h2,h3,hk⟩;exact⟨h,b,xs,ys,tv,bv,p,e,ih h1,h2.mono le,h3.mono le,le _ _ hk⟩
 |tnil=>intro us ws h;exact h
 |cnil=>intro us ws h;exact h
 |bnil=>intro us ws h;exact h
 |tcons t l ih1 ih2=>rintro us ws ⟨h,v,xs,e,h1,h2⟩;exact⟨h,v,xs,e,ih1 h1,ih2 h2⟩
 |ccons t l ih1 ih2=>rintro us ws ⟨h,v,xs,e,h1,h2⟩;exact⟨h,v,xs,e,ih1 h1,ih2 h2⟩
 |bcons t b l ih1 ih2 ih3=>rintro us ws ⟨v,xs,sv,ys,zs,e1,e2,h1,h2,h3,h4⟩;exact⟨v,xs,sv,ys,zs,e1,e2,ih1 h1,ih2 h2,h3.mono le,ih3 h4⟩
 |belse b l ih1 ih2=>rintro us ws ⟨e0,e1,sv,zs,e2,h1,h2⟩;exact⟨e0,e1,sv,zs,e2,ih1 h1,h2.mono le⟩
def bFM{K:Hl}{t:Tree}{v:Cell}(ht:RR K t [v] []):∀ {l:Tree} {us:List Cell},isTL l=true→RR K l us []→RR K (l.snocT t) (us++[v]) []∧isTL (l.snocT t)=true:=by
 intro l;induction l with
 |tnil=>rintro us _ ⟨rfl,_⟩;exact⟨⟨Y,v,[],Y,ht,Y,Y⟩,Y⟩
 |tcons x l ih1 ih2=>
  rintro us hl ⟨_,w,xs,rfl,h1,h2⟩;obtain⟨h3,h4⟩:=ih2 hl h2;exact⟨⟨Y,w,_,Y,h1,h3⟩,h4⟩
 |_=>intro us hl;cases hl
def bFK{K:Hl}{t:Tree}{v:Cell}(ht:RR K t [v] []):∀ {l:Tree} {us:List Cell},isCL l=true→RR K l us []→RR K (l.snocC t) (us++[v]) []∧isCL (l.snocC t)=true:=by
 intro l;induction l with
 |cnil=>rintro us _ ⟨rfl,_⟩;exact⟨⟨Y,v,[],Y,ht,Y,Y⟩,Y⟩
 |ccons x l ih1 ih2=>
  rintro us hl ⟨_,w,xs,rfl,h1,h2⟩;obtain⟨h3,h4⟩:=ih2 hl h2;exact⟨⟨Y,w,_,Y,h1,h3⟩,h4⟩
 |_=>intro us hl;cases hl
def isOB:Tree→Bool
 | .bnil=>true
 | .bcons _ _ l=>isOB l
 |_=>false
def bFJ{K:Hl}{t b:Tree}{v sv:Cell}{zs:List Cell}(ht:RR K t [v] [])(hb:RR K b zs [])(hs:Ksl (cC 152) K sv.1 zs):∀ {l:Tree} {us ws:List Cell},isOB l=true→RR K l us ws→RR K (l.snocB (some t) b) (us++[v]) (ws++[sv])∧isOB (l.snocB (some t) b)=true:=by
 intro l;induction l with
 |bnil=>rintro us ws _ ⟨rfl,rfl⟩;exact⟨⟨v,[],sv,[],zs,Y,Y,ht,hb,hs,Y,Y⟩,Y⟩
 |bcons x y l ih1 ih2 ih3=>
  rintro us ws hl ⟨w,xs,tv,ys,qs,rfl,rfl,h1,h2,h3,h4⟩;obtain⟨h5,h6⟩:=ih3 hl h4;exact⟨⟨w,_,tv,_,qs,Y,Y,h1,h2,h3,h5⟩,h6⟩
 |_=>intro us ws hl;cases hl
def bFL{K:Hl}{b:Tree}{sv:Cell}{zs:List Cell}(hb:RR K b zs [])(hs:Ksl (cC 152) K sv.1 zs):∀ {l:Tree} {us ws:List Cell},isOB l=true→RR K l us ws→RR K (l.snocB none b) us (ws++[sv]):=by
 intro l;induction l with
 |bnil=>rintro us ws _ ⟨rfl,rfl⟩;exact⟨Y,Y,sv,zs,Y,hb,hs⟩
 |bcons x y l ih1 ih2 ih3=>
  rintro us ws hl ⟨w,xs,tv,ys,qs,rfl,rfl,h1,h2,h3,h4⟩;exact⟨w,xs,tv,_,qs,Y,Y,h1,h2,h3,ih3 hl h4⟩
 |_=>intro us ws hl;cases hl
def RX(K:Hl)(r:Res St)(t:Tree)(us ws:List Cell):Prop:=match r with| .ok _=>RR K t us ws| .error _=>True
def RX.mono{K K':Hl}{r:Res St}{t:Tree}{us ws:List Cell}(h:RX K r t us ws)(le:K.le K'):RX K' r t us ws:=by
 cases r with
 |ok st=>exact RR.mono le h
 |error e=>trivial
def xW{K:Hl}{r:Res St}{t:Tree}{us ws:List Cell}(h:RR K t us ws):RX K r t us ws:=by
 cases r with
 |ok st=>exact h
 |error e=>trivial
section
variable{s:aP}{needs:List aP}
def RV.map{α β:Type}{f:α→β}{x:Res (α×St)}{y:Res (β×St)}{a:α}{r:Res St}(h:RV x a r)(e1:∀e,x=.error e→y=.error e)(e2:∀p,x=.ok p→y=.ok (f p.1,p.2)):RV y (f a) r:=by
 cases x with
 |error e=>rw[e1 e rfl];exact h
 |ok p=>obtain⟨h1,h2⟩:=h.ok;rw[e2 p rfl];exact⟨by rw[h1],h2⟩
def bK6{α:Type}{r:Res St}{a:α}:RV (bd r fun q=>.ok (a,q)) a r:=by cases r <;> first|rfl|exact⟨Y,Y⟩
def aGC{β:Type}{r:Res St}{F:St→Res β}{G:St→Res β}(h:∀st,F st=match next s st.1 with| .error e=>.error e| .ok q=>G q):bd r F=bd (nx s r) G:=by
 cases r with
 |error e=>rfl
 |ok st=>show F st=bd (next s st.1) G;rw[h];cases next s st.1 <;> rfl
def aRS{β:Type}{c:UInt8}{r:Res St}{F:St→Res β}{G:St→Res β}(hc:dD c=true)(hr:ROk s r)(h:∀st,F st=match sign s st [c]with| .error e=>.error e| .ok q=>G q):bd r F=bd (rsig s c.toNat r) G:=by
 rw[qG hc hr];cases r with
 |error e=>rfl
 |ok st=>show F st=bd (sign s st [c]) G;rw[h];cases sign s st [c] <;> rfl
def bFS{b:Bool}{r:Res St}:RV (bd r (m9 s b)) (.const b) (nx s r):=by
 rw[aGC (s:=s) (F:=m9 s b) (G:=fun q=>.ok (.const b,q)) fun st=>rfl];exact bK6
def bMX{T:St→Res (Tree×St)}{r r2:Res St}{t:Tree}(h:RV (bd (nx s r) T) t r2):RV (bd r (notC s T)) (.not_ t) r2:=by
 rw[aGC (s:=s) (F:=notC s T) (G:=fun q=>match T q with| .error e=>.error e| .ok t=>.ok (.not_ t.1,t.2)) fun st=>rfl]
 generalize nx s r=q at*
 cases q with
 |error e=>exact h
 |ok q=>exact RV.map (f:=Tree.not_) h (fun e he=>by show (match T q with| .error e=>_| .ok t=>_)=_;rw[show T q=_ from he]) (fun e he=>by show (match T q with| .error e=>_| .ok t=>_)=_;rw[show T q=_ from he])
def aZ3{r r2:Res St}{a:List aP}(h:RV (bd (nx s r) fun st=>list s st fun _=>0) a r2):RV (bd r (oI s)) (.exi a) r2:=by
 rw[aGC (s:=s) (F:=oI s) (G:=fun q=>match list s q (fun _=>0)with| .error e=>.error e| .ok a=>.ok (.exi a.1,a.2)) fun st=>rfl]
 generalize nx s r=q at*
 cases q with
 |error e=>exact h
 |ok q=>exact RV.map (f:=Tree.exi) h (fun e he=>by show (match list s q (fun _=>0)with| .error e=>_| .ok t=>_)=_;rw[show list s q (fun _=>0)=_ from he]) (fun e he=>by show (match list s q (fun _=>0)with| .error e=>_| .ok t=>_)=_;rw[show list s q (fun _=>0)=_ from he])
def ovr(r:Res St):Bool:=decide (rK r=58)&&decide (rS r=yL)
def und(r:Res St):Bool:=decide (rK r=58)&&decide (rS r=mG)
def bF8(s:aP)(r:St):Res (Tree×St):=match take s r 2 [yL,mG]with| .error e=>.error e| .ok x=>match take s x.2 4 []with| .error e=>.error e| .ok y=>.ok (.siz (if x.1.s=mG then 2 else 1) y.1.n,y.2)
def bJK{r:Res St}(hr:ROk s r){r3:Res St}(h3:r3=if (ovr (nx s r)||und (nx s r))=true then nx s r else rf (4,rW s (nx s r)) (nx s r)):RV (bd r (tE s)) (.siz (if ovr (nx s r)=true then 1 else 2) (rN (nx s r3))) (rsig s 48 (nx s r3)):=by
 rw[aGC (s:=s) (F:=tE s) (G:=bF8 s) fun st=>rfl];have ho:=lE hr
 generalize nx s r=r2 at*
 cases r2 with
 |error e=>
  subst h3;have:rsig s 48 (nx s (if (ovr (.error e)||und (.error e))=true then Except.error e else rf (4,rW s (.error e)) (.error e)))=.error e:=by split <;> exact kO (by decide)
  rw[this];rfl
 |ok st=>
  have hk:=aM1 ho.2
  show RV (bF8 s st) _ _
  unfold bF8
  by_cases hc:(ovr (.ok st)||und (.ok st))=true
  ·rw[x7 hc]at h3;subst h3;have hK:rk st.2=58:=by
    unfold ovr und at hc;simp only[Bool.or_eq_true,Bool.and_eq_true,decide_eq_true_eq]at hc;rcases hc with ⟨h,_⟩|⟨h,_⟩ <;> exact h
   have h2:=hk.1 hK;have hs:rs st.2=st.2.s:=by unfold rs;rw[x5 aH]
   have hm:st.2.s∈[yL,mG]:=by
    unfold ovr und at hc;simp only[Bool.or_eq_true,Bool.and_eq_true,decide_eq_true_eq]at hc;have e:rS (.ok st)=st.2.s:=hs;rw[e]at hc;rcases hc with ⟨_,h⟩|⟨_,h⟩ <;> simp[h]
   have ht:take s st 2 [yL,mG]=match next s st.1 with| .error e=>.error e| .ok q=>.ok (st.2,q):=by
    unfold take;rw[x5 (by rintro(h|⟨_,h⟩);exact h h2;exact h hm)] <;> cases next s st.1 <;> rfl
   rw[ht]
   show RV _ _ (rsig s 48 (next s st.1))
   cases hn:next s st.1 with
   |error e=>exact kO (by decide)
   |ok q=>
    simp only[];have hw:=aPL hn;have hq:=aKJ (s:=s) (st:=q) (k:=4) (c:=48) (bMU hw);have:=RV.map (y:=match take s q 4 []with| .error e=>.error e| .ok y=>.ok (Tree.siz (if st.2.s=mG then 2 else 1) y.1.n,y.2)) (f:=fun y:Word=>Tree.siz (if st.2.s=mG then 2 else 1) y.n) hq (fun e he=>by rw[he]) (fun e he=>by rw[he]);have e:(if st.2.s=mG then (2:Int)else 1)=if ovr (.ok st)=true then 1 else 2:=by
     unfold ovr;rw[show rK (.ok st)=58 from hK,show rS (.ok st)=st.2.s from hs];rcases List.mem_cons.1 hm with h|h
     ·rw[h,x5 (by decide),x7 (by simp)]
     have h:st.2.s=mG:=by simpa using h
     rw[h,x7 rfl,x5 (by decide)]
    rw[←e,show rN (nx s (.ok st))=q.2.n from by rw[show nx s (.ok st)=.ok q from hn];rfl];exact this
  rw[x5 hc]at h3;subst h3;have ht:take s st 2 [yL,mG]=.error (4,st.2.at_):=by
   unfold take;rw[x7]
   by_cases h2:st.2.kind=2
   ·refine .inr ⟨by simp,fun hm=>hc ?_⟩
    have hs:rs st.2=st.2.s:=by unfold rs;rw[x5 aH]
    unfold ovr und;rw[show rK (.ok st)=58 from hk.2 h2,show rS (.ok st)=st.2.s from hs]
    simpa using hm
   exact .inl h2
  rw[ht];exact kO (by decide)
def MInv(s:aP)(T:St→Res (Tree×St))(all:Bool)(W:Res (Tree×St))(r:Res St)(acc:Tree):Prop:=match r with
 | .ok st=>∃f,mu s st≤f∧W=r8 all (pS s T (f+1) acc st)
 | .error e=>W=.error e
def NInv(s:aP)(T:St→Res (Tree×St))(all:Bool)(W:Res (Tree×St))(r:Res St)(acc:Tree):Prop:=match bd r T with
 | .error e=>W=.error e
 | .ok t=>∃f,mu s t.2≤f∧W=r8 all (pS s T (f+1) (acc.snocT t.1) t.2)
def aTD{T:St→Res (Tree×St)}{all:Bool}{r:Res St}(hr:ROk s r):NInv s T all (bd r (pD s T all)) (rsig s 40 (nx s r)) .tnil:=by
 rw[aGC (s:=s) (F:=pD s T all) (G:=fun r=>match sign s r [40]with| .error e=>.error e| .ok q=>match T q with| .error e=>.error e| .ok t=>r8 all (pS s T (mu s t.2+1) (.tcons t.1 .tnil) t.2)) fun st=>rfl];rw[aRS (c:=40) (G:=fun q=>match T q with| .error e=>.error e| .ok t=>r8 all (pS s T (mu s t.2+1) (.tcons t.1 .tnil) t.2)) (by decide) (lE hr) fun st=>rfl]
 show NInv s T all (bd (rsig s 40 (nx s r)) _) (rsig s 40 (nx s r)) .tnil
 generalize rsig s 40 (nx s r)=q
 unfold NInv;cases q with
 |error e=>rfl
 |ok st=>
  show match T st with| .error e=>_| .ok t=>_
  simp only[bd];cases T st with
  |error e=>rfl
  |ok t=>exact⟨_,xAA _,Y⟩
def aZG{T:St→Res (Tree×St)}(hT:Adv s T){all:Bool}{W:Res (Tree×St)}{r r2:Res St}{acc t:Tree}(hr:ROk s r)(hi:NInv s T all W r acc)(h:RV (bd r T) t r2):MInv s T all W r2 (acc.snocT t)∧muR s r2≤muR s r:=by
 unfold NInv at hi;cases hx:bd r T with
 |error e=>
  rw[hx]at hi h;cases (show r2=.error e from h)
  exact⟨hi,x9 _⟩
 |ok p=>
  rw[hx]at hi h;obtain⟨rfl,rfl⟩:=h.ok;cases r with
  |error e=>cases hx
  |ok st=>exact⟨hi,by have:=(hT st p hr.1 hx).2;show mu s p.2+1≤mu s st+1;omega⟩
def aY6{T:St→Res (Tree×St)}{all:Bool}{W:Res (Tree×St)}{r:Res St}{acc:Tree}(h:ROk s r)(hi:MInv s T all W r acc)(hk:rK r=44)(hT:Adv s T):NInv s T all W (nx s r) acc∧muR s (nx s r) < muR s r:=by
 obtain⟨st,rfl⟩:=zW (r:=r) (by rw[hk];decide);obtain⟨f,hf,hW⟩:=hi;obtain⟨h5,hs⟩:=(wG h.2 vR).1 hk;simp only[pS,eat]at hW;rw[x7 ⟨h5,hs⟩]at hW
 show NInv s T all W (next s st.1) acc∧muR s (next s st.1) < _
 cases hn:next s st.1 with
 |error e=>rw[hn]at hW;exact⟨hW,Nat.succ_pos _⟩
 |ok q=>
  rw[hn]at hW;have hm:=(gY h.1.1 aH hn).1;obtain⟨g,rfl⟩:∃g,f=g+1:=⟨f - 1,by omega⟩;refine⟨?_,by show mu s q+1 < mu s st+1;omega⟩
  simp only[if_true]at hW;unfold NInv;simp only[bd];cases hx:T q with
  |error e=>rw[hx]at hW;exact hW
  |ok x=>
   rw[hx]at hW;have hm2:=(hT q x (fX h.1.1 hn) hx).2;exact⟨g,by omega,hW⟩
def bAI:dD 41=true:=by decide
def bD2{T:St→Res (Tree×St)}{all:Bool}{W:Res (Tree×St)}{r:Res St}{acc:Tree}(h:ROk s r)(hi:MInv s T all W r acc)(hk:rK r≠44):RV W (.many all acc) (rsig s 41 r):=by
 cases r with
 |error e=>rw[show W=.error e from hi];exact kO (by decide)
 |ok st=>
  obtain⟨f,hf,hW⟩:=hi;have hn:¬(st.2.kind=5∧st.2.s=[44]):=fun hh=>hk ((wG h.2 vR).2 hh)
  simp only[pS,eat]at hW;rw[x5 hn]at hW;simp only[]at hW;rw[x5 (by decide)]at hW;have:=qG (s:=s) bAI h;rw[show (41:UInt8).toNat=41 from rfl]at this;rw[this]
  show RV W _ (sign s st [41])
  rw[hW];cases sign s st [41]with
  |error e=>rfl
  |ok q=>exact⟨Y,Y⟩
def bA2{n:Nat}{st:St}(h:¬st.2.kind=1):test s needs n st=.error (4,st.2.at_):=by cases n <;> exact x5 h
def bA0{st:St}(h:st.2.kind=1):test s needs 0 st=.error (5,st.2.at_):=x7 h
def uC{n:Nat}{st:St}(h:st.2.kind=1):test s needs (n+1) st=match pN s needs (test s needs n) st with|some r=>r|none=>.error (4,st.2.at_):=x7 h
section
variable{n:Nat}{st:St}(h:st.2.kind=1)
include h
def bA6(w:st.2.s=j6):test s needs (n+1) st=m9 s true st:=by rw[uC h];unfold pN;rw[w];rfl
def aUR(w:st.2.s=iB):test s needs (n+1) st=m9 s false st:=by rw[uC h];unfold pN;rw[w];rfl
def bGY(w:st.2.s=rJ):test s needs (n+1) st=notC s (test s needs n) st:=by rw[uC h];unfold pN;rw[w];rfl
def aK2{all:Bool}(w:st.2.s=xM all):test s needs (n+1) st=pD s (test s needs n) all st:=by rw[uC h];unfold pN;rw[w];cases all <;> rfl
def bGX(w:st.2.s=gU∨st.2.s=dS∨st.2.s=gV):test s needs (n+1) st=l9 s needs (opW st.2.s) (extW st.2.s) st:=by
 rw[uC h];unfold pN
 rcases w with w|w|w <;> rw[w] <;> rfl
def aQ9(w:st.2.s=kP):test s needs (n+1) st=oI s st:=by rw[uC h];unfold pN;rw[w];rfl
def bA4(w:st.2.s=nL):test s needs (n+1) st=tE s st:=by rw[uC h];unfold pN;rw[w];rfl
def aUT(h1:¬st.2.s=j6)(h2:¬st.2.s=iB)(h3:¬st.2.s=rJ)(h4:¬st.2.s=lZ)(h5:¬st.2.s=l4)(h6:¬st.2.s=gU)(h7:¬st.2.s=dS)(h8:¬st.2.s=gV)(h9:¬st.2.s=kP)(h10:¬st.2.s=nL):test s needs (n+1) st=.error (4,st.2.at_):=by
 rw[uC h];unfold pN
 simp only[if_neg h1,if_neg h2,if_neg h3,if_neg h4,if_neg h5,if_neg h6,if_neg h7,if_neg h8,if_neg h9,if_neg h10]
end
end
end Go.Syn
end
section
attribute [local irreducible] Go.SL.T Go.SL.OL Go.SL.D Go.SL.DL Go.SL.Ev Go.SL.Ef Go.SL.EfS
namespace Go.Proofs
open Go Go.SL Go.Syn Go.Mach
def bKB(x:aP):dW [fU,gH,gE] x=if x=fU then 0 else if x=gH then 1 else if x=gE then 2 else -1:=by
 unfold dW;rw[List.findIdx?_cons,List.findIdx?_cons,List.findIdx?_cons]
 by_cases h1:x=fU
 ·simp[h1]
 by_cases h2:x=gH
 ·simp[h2,gH,fU]
 by_cases h3:x=gE
 ·simp[h3,gH,fU,gE]
 simp[h1,h2,h3]
def aT2(x:List UInt8)(K:Hl):Sp x3 119 [str x] K [] (Val (i64 (1+dW [fU,gH,gE] x)) K):=by
 refine bN Tryz.func119 Y Tryz.ntmps119 Y Y fun F w=>?_;rw[bKB];refine zz18 ?_;refine aY 4 Y (fun h4=>?_) (fun h4=>?_)
 ·refine zz9 ?_;refine⟨?_,Y,Y⟩
  first|(rw[x7 (show x=fU from h4)];rfl)|(rw[x5 (show ¬x=fU from h4),x7 (show x=gH from h6)];rfl)|(rw[x5 (show ¬x=fU from h4),x5 (show ¬x=gH from h6),x7 (show x=gE from h8)];rfl)|(rw[x5 (show ¬x=fU from h4),x5 (show ¬x=gH from h6),x5 (show ¬x=gE from h8)];rfl)
 refine zz6 ?_;refine aY 6 Y (fun h6=>?_) (fun h6=>?_)
 ·refine zz9 ?_;refine⟨?_,Y,Y⟩
  first|(rw[x7 (show x=fU from h4)];rfl)|(rw[x5 (show ¬x=fU from h4),x7 (show x=gH from h6)];rfl)|(rw[x5 (show ¬x=fU from h4),x5 (show ¬x=gH from h6),x7 (show x=gE from h8)];rfl)|(rw[x5 (show ¬x=fU from h4),x5 (show ¬x=gH from h6),x5 (show ¬x=gE from h8)];rfl)
 refine zz6 ?_;refine aY 8 Y (fun h8=>?_) (fun h8=>?_)
 ·refine zz9 ?_;refine⟨?_,Y,Y⟩
  first|(rw[x7 (show x=fU from h4)];rfl)|(rw[x5 (show ¬x=fU from h4),x7 (show x=gH from h6)];rfl)|(rw[x5 (show ¬x=fU from h4),x5 (show ¬x=gH from h6),x7 (show x=gE from h8)];rfl)|(rw[x5 (show ¬x=fU from h4),x5 (show ¬x=gH from h6),x5 (show ¬x=gE from h8)];rfl)
 refine zz10 ?_;refine⟨?_,Y,Y⟩
 first|(rw[x7 (show x=fU from h4)];rfl)|(rw[x5 (show ¬x=fU from h4),x7 (show x=gH from h6)];rfl)|(rw[x5 (show ¬x=fU from h4),x5 (show ¬x=gH from h6),x7 (show x=gE from h8)];rfl)|(rw[x5 (show ¬x=fU from h4),x5 (show ¬x=gH from h6),x5 (show ¬x=gE from h8)];rfl)
abbrev rdb(rb tb:Nat)(nv:Value):Asn:=pt rb (bL [ptr tb,nv] 122)
def wH(rb tb:Nat)(s:List UInt8)(nv:Value)(needs:List (List UInt8))(x:List UInt8)(r:Res St)(hr:ROk s r)(hs:s.length≤1000000)(K:Hl)(hv:Ksl (a7 9) K nv needs)(hn:needs.length≤10000000):
  Sp x3 118 [ptr rb,str x] K [rdb rb tb nv,rtx tb s r] (Ret fun v K' L'=>v=.tuple #[]∧K'=K∧L'=[rdb rb tb nv,rtx tb s (if x∈needs then r else rf (6,rW s r) r)]):=by
 refine bN Tryz.func118 Y Tryz.ntmps118 Y Y fun F w=>?_;refine zz7 ?_;refine bA Y Y (q8 nv x needs _ [] (.known hv) aH) .nil Y ?_;rintro _ K _ ⟨rfl,rfl,rfl⟩ -;refine zz6 ?_;refine aA gC3 Y (zz2 ?_)
 first|refine aY 12 Y (fun h12=>?_) (fun h12=>?_)|refine d9 12 Y (fun h12=>?_) (fun h12=>?_)
 ·refine cZ (anc:=[0,1,3,7,0,16,48,112,240,496,1008,2032,4095]) (ord:=[0,1,2,3,4,5,6,7,8,9,10,11,12]) [12] [12] mixed gC5 (cQ _) (zz12 ?_);refine eQ Y (.none Y) Y Y Y (m5 tb s r 6 (rW s r) hr hs _) bS Y ?_;rintro _ K _ ⟨rfl,rfl,rfl⟩ -;refine cL ?_;refine uAw ?_;refine zz1 ?_;rw[x5 h12];exact⟨_,Y,Y,Y,Y⟩
 refine zz2 ?_;rw[x7 (xBD.1 h12)];exact⟨_,Y,Y,Y,Y⟩
def mB(rb tb:Nat)(s:List UInt8)(nv:Value)(r:Res St)(c:UInt8)(hr:ROk s r)(hs:s.length≤1000000)(K:Hl):
  Sp x3 52 [ptr rb,.int .u8 c.toNat] K [rdb rb tb nv,rtx tb s r] (Ret fun v K' L'=>v=.tuple #[]∧K'=K∧L'=[rdb rb tb nv,rtx tb s (rsig s c.toNat r)]):=by
 refine bN Tryz.func52 Y Tryz.ntmps52 Y Y fun F w=>?_;refine zz15 ?_;refine aY 13 Y (fun h13=>?_) (fun h13=>?_)
 ·refine aI ?_;refine cZ (anc:=[0,1,3,7,0,16,48,112,240,496,1008,2032,4095]) (ord:=[0,1,2,3,4,5,6,7,8,9,10,11,12]) [12] [12] mixed gC5 (cQ _) (zz12 ?_);refine eQ Y (.none Y) Y Y Y (m5 tb s r 4 (rW s r) hr hs _) bS Y ?_;rintro _ K _ ⟨rfl,rfl,rfl⟩ -;refine zz4 ?_;refine uAw ?_;refine jZ Y (xAB _) ?_;rw[aM3 aH];exact⟨_,Y,Y,Y,Y⟩
 refine zz7 ?_;refine bA Y Y (gF tb s r hr hs _) bS Y ?_;rintro _ K _ ⟨rfl,rfl,rfl⟩ -;refine aG ?_;refine uAw ?_;refine zz1 ?_;rw[aH2 aH];exact⟨_,Y,Y,Y,Y⟩
def sK(rb tb:Nat)(s:List UInt8)(nv:Value)(what:Nat)(r:Res St)(hw:what≤4)(hr:ROk s r)(hs:s.length≤1000000)(K:Hl):
  Sp x3 87 [ptr rb,i64 what] K [rdb rb tb nv,rtx tb s r] (Ret fun v K' L'=>v=str (rone s (ffit what) r).1∧K'=K∧L'=[rdb rb tb nv,rtx tb s (rone s (ffit what) r).2]):=by
 have hsl:=bK5 hr;refine bN Tryz.func87 Y Tryz.ntmps87 Y Y fun F w=>?_;refine zz15 ?_;rintro _ K _ ⟨b5,rfl,rfl,rfl⟩ -;refine cD (cX ta118_4 Y Y Y bR gC1 (.cons (.cons (.cons (.cons .nil)))) gC8) ?_;rintro _ K _ ⟨rfl,rfl⟩ -;refine zz10 ?_;refine aY 16 Y (fun h16=>?_) (fun h16=>?_)
 ·refine zz5 ?_;refine cN Y Y (aTR (rS r) what _ hw aH) Y (zz9 ?_);refine aY 22 Y (fun h22=>?_) (fun h22=>?_)
  ·have hq:rone s (ffit what) r=([],rf (ffit what (rS r),rW s r) r):=x7 ⟨by omega,h22⟩;refine aI ?_;refine cZ (anc:=[0,1,3,7,0,0,32,127]) (ord:=[0,1,2,3,4,5,6,7]) [7] [7] mixed gC5 (cQ _) (zz7 ?_);refine eQ Y (.none Y) Y Y Y (m5 tb s r (ffit what (rS r)) (rW s r) hr hs _) bS Y ?_;rintro _ K _ ⟨rfl,rfl,rfl⟩ -;refine zz9 ?_;refine uAj ?_;refine zz1 ?_;rw[hq];exact⟨_,Y,Y,Y,Y⟩
  have hq:rone s (ffit what) r=(rS r,rsig s 34 r):=x5 (fun h=>h22 h.2);refine zz5 ?_;refine bA Y Y (mB rb tb s nv r 34 hr hs _) bS Y ?_;rintro _ K _ ⟨rfl,rfl,rfl⟩ -;refine zz10 ?_;refine uAo ?_;refine zz1 ?_;rw[hq];exact⟨_,Y,Y,Y,Y⟩
 have hq:rone s (ffit what) r=(rS r,rsig s 34 r):=x5 (fun h=>absurd h.1 aH);refine zz5 ?_;refine bA Y Y (mB rb tb s nv r 34 hr hs _) bS Y ?_;rintro _ K _ ⟨rfl,rfl,rfl⟩ -;refine zz10 ?_;refine uAo ?_;refine zz1 ?_;rw[hq];exact⟨_,Y,Y,Y,Y⟩
def qR(rb tb:Nat)(s:List UInt8)(nv:Value)(what:Nat)(r:Res St)(hw:what≤4)(hr:ROk s r)(hs:s.length≤600)(K:Hl):
  Sp x3 51 [ptr rb,i64 what] K [rdb rb tb nv,rtx tb s r] (Ret fun v K' L'=>∃xs r',RV (bd r fun st=>Syn.list s st (ffit what)) xs r'∧ROk s r'∧xs.length≤1400∧(∀x∈xs,x.length≤s.length)∧L'=[sl false (a7 9) v xs,rdb rb tb nv,rtx tb s r']):=by
 refine bN Tryz.func51 Y Tryz.ntmps51 Y Y fun F w=>?_;refine zz19 ?_;refine aY 16 Y (fun h16=>?_) (fun h16=>?_)
 ·refine zz4 ?_;refine bA Y Y (sK rb tb s nv what r hw hr aH _) bS Y ?_;rintro _ K _ ⟨rfl,rfl,rfl⟩ -;refine zz6 ?_;refine cJ (bM (z0:=[(str [])]) cB tz9 Y Y Y Y dF) Y ?_;rintro _ K _ ⟨b21,rfl,rfl,rfl⟩ -;refine zz5 ?_;refine cS (eM (aUF b21 _)) (zz1 ?_);have h1:=pF (ff:=ffit what) hr;exact⟨_,Y,_,_,bDW hr aH,h1.1,by simp,fun x hx=>by rw[List.mem_singleton.1 hx];exact h1.2,Y⟩
 refine zz8 ?_;refine bA Y Y (gF tb s r hr aH _) bS Y ?_;rintro _ K _ ⟨rfl,rfl,rfl⟩ -;have hl:=aYK (ff:=ffit what) hr aH;have hmu:muR s (nx s r)≤1202:=(by have h1:=hl.2;obtain⟨st,rfl⟩:=zW (r:=r) aH;have:=xP s st;have h2:muR s (.ok st)=mu s st+1:=rfl;omega);refine zz9 ?_;refine jJ (eL (a7 9)) ?_;refine lK (fun(r2:Res St) (v:Value) (acc:List (List UInt8))=>ROk s r2∧HInv s (ffit what) (bd r fun st=>Syn.list s st (ffit what)) r2 acc∧acc.length+muR s r2≤1202∧(∀x∈acc,x.length≤s.length)) (fun _ v _=>[(0,ptr rb),(1,i64 what),(6,v)]) (fun _ _ _=>K) (fun r2 v acc=>[sl false (a7 9) v acc,rdb rb tb nv,rtx tb s r2]) (fun r2 _ _=>muR s r2) (nx s r) (.slice none 0 0) [] ⟨lE hr,hl.1,by simpa using hmu,by simp⟩ aS Y (fun h hh=>by simpa using Tks.sat (N:=[]) (aM bW (aM cI (aM bW bF))) h hh) ?_;intro r2 v acc ⟨hi1,hi2,hi3,hi4⟩;have h1:=pF (ff:=ffit what) hi1;have h2:=bDJ hi1 hi2;have hax:∀x∈acc++[(rone s (ffit what) r2).1],x.length≤s.length:=(by intro x hx;rcases xAT.1 hx with h|h;exact hi4 x h;rw[List.mem_singleton.1 h];exact h1.2);refine zz5 ?_;refine bA Y Y (sK rb tb s nv what r2 hw hi1 aH _) bS Y ?_;rintro _ K _ ⟨rfl,rfl,rfl⟩ -
 generalize rone s (ffit what) r2=q at*
 refine zz7 ?_;refine cJ (bM (z0:=[(str [])]) cB tz9 Y Y Y Y dF) Y ?_;rintro _ K _ ⟨b32,rfl,rfl,rfl⟩ -;refine cJ (dQ (k:=(a7 9)) (ys:=[q.1]) eI Y Y bR (fun w j=>dJ Tryz.underlying43 (SeesSl.at (.blk aL Y Y) j)) gC9 gC9) Y ?_;rintro v33 K _ ⟨rfl,rfl,ho33⟩ -;refine zz16 ?_;refine bV 43 Y (fun g43=>?_) (fun g43=>?_)
 ·have hk44:rK q.2≠44:=by omega
  refine zz21 ?_;refine bA Y Y (mB rb tb s nv q.2 93 h1.1 aH _) bS Y ?_;rintro _ K _ ⟨rfl,rfl,rfl⟩ -;refine zz9 ?_;refine uAx ?_;refine zz1 ?_;exact⟨_,Y,_,_,bDU h1.1 h2.1 hk44,r9 h1.1,by simp;omega,hax,rfl⟩
 have hk44:rK q.2=44:=by omega
 have hre:rE q.2=0:=(by obtain⟨st,e⟩:=zW (r:=q.2) aH;rw[e];rfl);refine zz19 ?_;refine aY 52 Y (fun h52=>?_) (fun h52=>?_)
 ·exact absurd hre b0
 refine zz7 ?_;refine bA Y Y (gF tb s q.2 h1.1 aH _) bS Y ?_;rintro _ K _ ⟨rfl,rfl,rfl⟩ -;refine zz2 ?_;refine aQ (aM cI (aM e7 (aM bW bF))) ?_;have h3:=aYG h1.1 h2.1 aH;exact eF (nx s q.2) _ (acc++[q.1]) ⟨lE h1.1,h3.1,by simp;omega,hax⟩ aH aS Y (fun _ h=>h)
abbrev kY:Value:=.slice none 0 0
def yZ{α:Type}(k:El α)(K:Hl):Ksl k K kY []:=.inl ⟨none,0,rfl,rfl⟩
abbrev tsb(bt:Nat)(w:List UInt8)(tv av bv:Value)(tag:Int)(oct:Bool)(n:Int):Asn:=pt bt (bL [str w,tv,av,bv,i64 tag,.bool oct,i64 n] 203)
def oR{r:Res St}(h:¬rE r=0):rK r=0:=by
 cases r with
 |ok st=>exact absurd Y h
 |error e=>rfl
def bFG{s:aP}{p:Prop}[Decidable p]{e:Int×Int}{r:Res St}(h:ROk s r)(he:e.1≠0):ROk s (if p then r else rf e r):=by
 split
 ·exact h
 exact aKI h he
def aFV{s:aP}{needs:List aP}{ext:aP}{r:Res St}(h:ext≠[]):reqx s needs ext r=if ext∈needs then r else rf (6,rW s r) r:=by
 unfold reqx
 by_cases h2:ext∈needs
 ·rw[x7 h2,x7 (.inr h2)]
 rw[x5 h2,x5 (by rintro(h3|h3);exact h h3;exact h2 h3)]
def xU{s:aP}{needs:List aP}{r:Res St}:reqx s needs [] r=r:=x7 (.inl rfl)
def bEP{w:aP}(hw:w=gU∨w=dS∨w=gV):nD (opW w)=ffit (if w=dS then 3 else 0):=by
 rcases hw with rfl|rfl|rfl
 ·rfl
 ·rfl
 rfl
def t6{s:aP}{e p:Int}(h:e≠0):ROk s (.error (e,p)):=h
def extE(w:aP):aP:=if w=dS then dS else []
def extS(w:aP):aP:=if w=gV then eB else []
def bFE{s:aP}{needs:List aP}{w:aP}{r:Res St}:reqx s needs (extW w) r=reqx s needs (extS w) (reqx s needs (extE w) r):=by
 unfold extW extS extE
 by_cases h1:w=dS
 ·subst h1;rw[x7 rfl,x7 rfl,x5 (by decide),xU]
 rw[x5 h1,x5 h1,xU]
def aWB{s:aP}{needs:List aP}{w:aP}{r:Res St}(h:w=dS):reqx s needs (extE w) r=if dS∈needs then r else rf (6,rW s r) r:=by unfold extE;rw[x7 h];exact aFV (by decide)
def aWA{s:aP}{needs:List aP}{w:aP}{r:Res St}(h:¬w=dS):reqx s needs (extE w) r=r:=by unfold extE;rw[x5 h];exact xU
def aWD{s:aP}{needs:List aP}{w:aP}{r:Res St}(h:w=gV):reqx s needs (extS w) r=if eB∈needs then r else rf (6,rW s r) r:=by unfold extS;rw[x7 h];exact aFV (by decide)
def aWC{s:aP}{needs:List aP}{w:aP}{r:Res St}(h:¬w=gV):reqx s needs (extS w) r=r:=by unfold extS;rw[x5 h];exact xU
def aHZ(rb tb bt:Nat)(s:List UInt8)(nv:Value)(needs:List (List UInt8))(w1:List UInt8)(r:Res St)(hw:w1=gU∨w1=dS∨w1=gV)(hr:ROk s r)(hs:s.length≤600)(K:Hl)(hv:Ksl (a7 9) K nv needs)(hn:needs.length≤10000000):
  Sp x3 220 [ptr rb,ptr bt] K [tsb bt w1 kY kY kY 0 false 0,rdb rb tb nv,rtx tb s r] (Ret fun v K' L'=>v=.tuple #[]∧∃av bv xs ys tag oct r',RV (bd r (l9 s needs (opW w1) (extW w1))) (.mat tag oct (opW w1) xs ys) r'∧ROk s r'∧Ksl (a7 9) K' av xs∧Ksl (a7 9) K' bv ys∧L'=[tsb bt w1 kY av bv tag oct 0,rdb rb tb nv,rtx tb s r']):=by
 refine bN Tryz.func220 Y Tryz.ntmps220 Y Y fun F w=>?_;refine dX (fun(_:Unit)=>True) (fun _=>[(0,ptr rb),(1,ptr bt)]) (fun _=>K) (fun _=>[tsb bt w1 kY kY kY 0 false 0,rdb rb tb nv,rtx tb s (reqx s needs (extE w1) r)]) ?_ ?_
 ·refine zz9 ?_;refine aY 12 Y (fun h12=>?_) (fun h12=>?_)
  ·refine zz2 ?_;refine bA Y Y (wH rb tb s nv needs dS r hr aH _ hv hn) bS Y ?_;rintro _ K _ ⟨rfl,rfl,rfl⟩ -;refine aG ?_
   first
    |exact gCZ
    |(rw[aWA h12];exact a8 () trivial aS Y (fun _ h=>h))
  refine aW ?_
  first
   |exact gCZ
   |(rw[aWA h12];exact a8 () trivial aS Y (fun _ h=>h))
 intro _ _;have hrE:=zD (needs:=needs) (ext:=extE w1) hr;rw[aY2,bFE]
 generalize reqx s needs (extE w1) r=r0 at*
 refine dX (fun(_:Unit)=>True) (fun _=>[(0,ptr rb),(1,ptr bt)]) (fun _=>K) (fun _=>[tsb bt w1 kY kY kY 0 false 0,rdb rb tb nv,rtx tb s (reqx s needs (extS w1) r0)]) ?_ ?_
 ·refine zz9 ?_;refine aY 19 Y (fun h19=>?_) (fun h19=>?_)
  ·refine zz2 ?_;refine bA Y Y (wH rb tb s nv needs eB r0 hrE aH _ hv hn) bS Y ?_;rintro _ K _ ⟨rfl,rfl,rfl⟩ -;refine aG ?_
   first
    |exact gCY
    |(rw[aWC h19];exact a8 () trivial aS Y (fun _ h=>h))
  refine aW ?_
  first
   |exact gCY
   |(rw[aWC h19];exact a8 () trivial aS Y (fun _ h=>h))
 intro _ _;have hro:=zD (needs:=needs) (ext:=extS w1) hrE
 generalize reqx s needs (extS w1) r0=r1 at*
 refine zz6 ?_;refine bA Y Y (gF tb s r1 hro aH _) bS Y ?_;rintro _ K _ ⟨rfl,rfl,rfl⟩ -;have hro2:=lE hro
 generalize nx s r1=r2 at*
 refine zz9 ?_;refine iR (fun(r3:Res St) (h:How)=>ROk s r3∧TInv s (aQ4 s r2) r3 h∧0≤h.tag∧h.tag≤3) (fun r3 h=>[(0,ptr rb),(1,ptr bt),(4,.bool h.cmp)]) (fun _ _=>K) (fun r3 h=>[tsb bt w1 kY kY kY h.tag h.oct 0,rdb rb tb nv,rtx tb s r3]) (fun r3 _=>muR s r3) r2 ⟨false,0,false⟩ ⟨hro2,bAX s r2,by decide,by decide⟩ aS Y (fun h hh=>by simpa using Tks.sat (N:=[]) (aM cI (aM cI (aM bW bF))) h hh) ?_;intro r3 h ⟨hi1,hi2,hi3,hi4⟩;refine aI ?_;refine dX (fun(_:Unit)=>True) (fun _=>[(0,ptr rb),(1,ptr bt),(4,.bool h.cmp),(45,.bool (decide (rK r3=58)))]) (fun _=>K) (fun _=>[tsb bt w1 kY kY kY h.tag h.oct 0,rdb rb tb nv,rtx tb s r3]) ?_ ?_
 ·refine zz10 ?_;refine bV 35 Y (fun g35=>?_) (fun g35=>?_)
  ·refine zz20 ?_;exact a8 () trivial (.cons 0 Y (.cons 1 Y (.cons 4 Y (.cons 45 gE4 .nil)))) Y (fun _ h=>h)
  refine zz11 ?_;exact a8 () trivial (.cons 0 Y (.cons 1 Y (.cons 4 Y (.cons 45 gE4 .nil)))) Y (fun _ h=>h)
 intro _ _;refine d9 45 Y (fun h45=>?_) (fun h45=>?_)
 ·have hk58:rK r3=58:=by simpa using h45
  have htx:=bGQ (rS r3);refine zz8 ?_;refine dX (fun(k:Int)=>dW eT (rS r3)=k - 1∧1≤k∧k≤3) (fun k=>[(0,ptr rb),(1,ptr bt),(4,.bool h.cmp),(5,i64 k)]) (fun _=>K) (fun _=>[tsb bt w1 kY kY kY h.tag h.oct 0,rdb rb tb nv,rtx tb s r3]) ?_ ?_
  ·refine zz19 ?_;refine aY 67 Y (fun h67=>?_) (fun h67=>?_)
   ·rw[x7 (show rS r3=txIs from h67)]at htx;refine zz4 ?_
    first|exact a8 1 ⟨by omega,by decide,by decide⟩ aS Y (fun _ h=>h)|exact a8 2 ⟨by omega,by decide,by decide⟩ aS Y (fun _ h=>h)|exact a8 3 ⟨by omega,by decide,by decide⟩ aS Y (fun _ h=>h)
   rw[x5 (show ¬rS r3=txIs from h67)]at htx;refine zz6 ?_;refine aY 69 Y (fun h69=>?_) (fun h69=>?_)
   ·rw[x7 (show rS r3=mP from h69)]at htx;refine zz4 ?_
    first|exact a8 1 ⟨by omega,by decide,by decide⟩ aS Y (fun _ h=>h)|exact a8 2 ⟨by omega,by decide,by decide⟩ aS Y (fun _ h=>h)|exact a8 3 ⟨by omega,by decide,by decide⟩ aS Y (fun _ h=>h)
   rw[x5 (show ¬rS r3=mP from h69)]at htx;refine zz6 ?_;refine aY 71 Y (fun h71=>?_) (fun h71=>?_)
   ·rw[x7 (show rS r3=o4 from h71)]at htx;refine zz4 ?_
    first|exact a8 1 ⟨by omega,by decide,by decide⟩ aS Y (fun _ h=>h)|exact a8 2 ⟨by omega,by decide,by decide⟩ aS Y (fun _ h=>h)|exact a8 3 ⟨by omega,by decide,by decide⟩ aS Y (fun _ h=>h)
   rw[x5 (show ¬rS r3=o4 from h71)]at htx;refine zz6 ?_;refine aY 73 Y (fun h73=>?_) (fun h73=>?_)
   ·rw[x7 (show rS r3=mO from h73)]at htx;have hix:=htx;refine zz6 ?_;refine d9 75 Y (fun h75=>?_) (fun h75=>?_)
    ·have hE:=aIO hi1 hi2 hk58 aH (.inl ⟨hix,h75⟩);refine aI ?_;refine cZ (anc:=[0,1,3,7,0,16,48,112,240,496,1008,2032,4095]) (ord:=[0,1,2,3,4,5,6,7,8,9,10,11,12]) [12] [12] mixed gC5 (cQ _) (zz12 ?_);refine eQ Y (.none Y) Y Y Y (m5 tb s r3 7 (rW s r3) hi1 aH _) bS Y ?_;rintro _ K _ ⟨rfl,rfl,rfl⟩ -;refine zz10 ?_;refine uAv ?_;refine jZ Y gFL ?_;rw[hE.2];exact⟨_,Y,Y,kY,kY,[],[],_,_,_,wD hE.1,t6 (by decide),yZ _ _,yZ _ _,Y⟩
    refine zz13 ?_;refine bA Y Y (gF tb s r3 hi1 aH _) bS Y ?_;rintro _ K _ ⟨rfl,rfl,rfl⟩ -;refine zz5 ?_;refine bA Y Y (sK rb tb s nv 2 (nx s r3) (by decide) (lE hi1) aH _) bS Y ?_;rintro _ K _ ⟨rfl,rfl,rfl⟩ -;rw[show ffit 2=oneOf 7 [dN,dE]from rfl];refine zz10 ?_;refine uAk ?_;rintro _ K _ ⟨rfl,rfl⟩ -;refine zz6 ?_
    first
     |exact gB1
     |exact gCG
   rw[x5 (show ¬rS r3=mO from h73)]at htx;have hE:=bG0 hi1 hi2 hk58 htx;refine aI ?_;refine cZ (anc:=[0,1,3,7,0,16,48,112,240,496,1008,2032,4095]) (ord:=[0,1,2,3,4,5,6,7,8,9,10,11,12]) [12] [12] mixed gC5 (cQ _) (zz12 ?_);refine eQ Y (.none Y) Y Y Y (m5 tb s r3 4 (rW s r3) hi1 aH _) bS Y ?_;rintro _ K _ ⟨rfl,rfl,rfl⟩ -;refine zz9 ?_;refine uAv ?_;refine jZ Y gFL ?_;rw[hE.2];exact⟨_,Y,Y,kY,kY,[],[],_,_,_,wD hE.1,t6 (by decide),yZ _ _,yZ _ _,Y⟩
  intro k ⟨hk1,hk2,hk3⟩;refine zz10 ?_;refine aY 105 Y (fun h105=>?_) (fun h105=>?_)
  ·have hE:=aIO hi1 hi2 hk58 aH (.inr ⟨by omega,h105⟩);refine aI ?_;refine cZ (anc:=[0,1,3,7,0,16,48,112,240,496,1008,2032,4095]) (ord:=[0,1,2,3,4,5,6,7,8,9,10,11,12]) [12] [12] mixed gC5 (cQ _) (zz12 ?_);refine eQ Y (.none Y) Y Y Y (m5 tb s r3 7 (rW s r3) hi1 aH _) bS Y ?_;rintro _ K _ ⟨rfl,rfl,rfl⟩ -;refine zz8 ?_;refine uAv ?_;refine jZ Y gFL ?_;rw[hE.2];exact⟨_,Y,Y,kY,kY,[],[],_,_,_,wD hE.1,t6 (by decide),yZ _ _,yZ _ _,Y⟩
  have ht0:h.tag=0:=by omega
  refine zz8 ?_;refine uAb ?_;rintro _ K _ ⟨rfl,rfl⟩ -;refine zz7 ?_;refine bA Y Y (gF tb s r3 hi1 aH _) bS Y ?_;rintro _ K _ ⟨rfl,rfl,rfl⟩ -;refine zz2 ?_
  first
   |exact gB1
   |exact gCG
 have hk58:rK r3≠58:=by simpa using h45
 have hT:=bG1 hi1 hi2 hk58;refine zz5 ?_;refine dX (fun(_:Unit)=>True) (fun _=>[(0,ptr rb),(1,ptr bt)]) (fun _=>K) (fun _=>[tsb bt w1 kY kY kY (if 1>h.tag then 1 else h.tag) h.oct 0,rdb rb tb nv,rtx tb s r3]) ?_ ?_
 ·refine zz9 ?_;refine aY 132 Y (fun h132=>?_) (fun h132=>?_)
  ·refine zz4 ?_;refine uAb ?_;rintro _ K _ ⟨rfl,rfl⟩ -;refine aG ?_
   first|(rw[x7 (show 1>h.tag by omega)];exact a8 () trivial aS Y (fun _ h=>h))|(rw[x5 (show ¬1>h.tag by omega)];exact a8 () trivial aS Y (fun _ h=>h))
  refine aW ?_
  first|(rw[x7 (show 1>h.tag by omega)];exact a8 () trivial aS Y (fun _ h=>h))|(rw[x5 (show ¬1>h.tag by omega)];exact a8 () trivial aS Y (fun _ h=>h))
 intro _ _;refine zz5 ?_;refine dX (fun(_:Unit)=>True) (fun _=>[(0,ptr rb),(1,ptr bt),(7,i64 ((if w1=dS then 3 else 0:Nat):Int))]) (fun _=>K) (fun _=>[tsb bt w1 kY kY kY (if 1>h.tag then 1 else h.tag) h.oct 0,rdb rb tb nv,rtx tb s r3]) ?_ ?_
 ·refine zz9 ?_;refine aY 140 Y (fun h140=>?_) (fun h140=>?_)
  ·refine zz3 ?_
   first|exact a8 () trivial (.cons 0 Y (.cons 1 Y (.cons 7 (by rw[x7 (show w1=dS from h140)];rfl) .nil))) Y (fun _ h=>h)|exact a8 () trivial (.cons 0 Y (.cons 1 Y (.cons 7 (by rw[x5 (show ¬w1=dS from h140)];rfl) .nil))) Y (fun _ h=>h)
  refine aW ?_
  first|exact a8 () trivial (.cons 0 Y (.cons 1 Y (.cons 7 (by rw[x7 (show w1=dS from h140)];rfl) .nil))) Y (fun _ h=>h)|exact a8 () trivial (.cons 0 Y (.cons 1 Y (.cons 7 (by rw[x5 (show ¬w1=dS from h140)];rfl) .nil))) Y (fun _ h=>h)
 intro _ _;refine zz5 ?_;refine bA Y Y (qR rb tb s nv (if w1=dS then 3 else 0) r3 (by split <;> decide) hi1 hs _) bS Y ?_;rintro va K1 _ ⟨xs,r4,hv4,hr4,hx4,hx4b,rfl⟩ le1;refine fZ fun K2 le2 hk2=>?_;have ho2:=hk2.one;refine zz2 ?_;refine uAh ?_;rintro _ K _ ⟨rfl,rfl⟩ -;refine zz5 ?_;refine bA Y Y (qR rb tb s nv 0 r4 (by decide) hr4 hs _) bS Y ?_;rintro vb K3 _ ⟨ys,r5,hv5,hr5,hx5,hx5b,rfl⟩ le3;refine fZ fun K4 le4 hk4=>?_;have ho4:=hk4.one;have leZ:=x6 le1 (x6 le2 (x6 le3 le4));have hfin:RV (mI s (opW w1) (aQ4 s r2)) _ _:=aPF hT (by rw[bEP hw];exact hv4) hv5;refine zz2 ?_;refine uAh ?_;rintro _ K _ ⟨rfl,rfl⟩ -;refine aG ?_;refine uAx ?_;refine dK Y gFL ?_;exact⟨_,Y,Y,va,vb,xs,ys,_,_,r5,hfin,hr5,hk2.mono (x6 le3 le4),hk4,Y⟩
end Go.Proofs
end

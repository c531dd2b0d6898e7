/-
  What the proof stands on, part 28: the logic of walks, the walks through the functions, the plain laws. Conditions: as each theorem says. (Merged and shortened by a program.)
-/
import Derived.Lib.Bytealg
import Derived.Test.YthopmddkpdehiaaGreatDoorK24
import Derived.Test.YthopmddkpdehiaaGreatDoorK27
set_option linter.unusedVariables false
set_option linter.unusedSimpArgs false
set_option maxRecDepth 4000
set_option maxHeartbeats 1000000
section
namespace Go.Syn
def nL(c:UInt8):aJ:=if c=92 then [92,92]else if c=34 then [92,34]else [c]
def iI(s:aJ):aJ:=[34]++s.flatMap nL++[34]
def yD(sep:aJ):List aJ→aJ
 | []=>[]
 | [x]=>x
 |x::y::r=>x++sep++yD sep (y::r)
def oE:List aJ→aJ
 | [x]=>iI x
 |l=>[91]++yD [44,32] (l.map iI)++[93]
def indC:Nat→aJ
 |0=>[]
 |n+1=>[32,32]++indC n
def rV(op:Int):aJ:=if op=6 then [104,101,97,100,101,114]else if op=7 then [101,110,118,101,108,111,112,101]else if op=8 then [115,116,114,105,110,103]else []
def aBK(tag:Int):aJ:=if tag=2 then [32,58,99,111,110,116,97,105,110,115]else if tag=3 then [32,58,109,97,116,99,104,101,115]else []
def xO(tag:Int):aJ:=if tag=1 then [32,58,108,111,119,101,114]else if tag=2 then [32,58,117,112,112,101,114]else if tag=3 then [32,58,108,101,110,103,116,104]else []
def vW(tag:Int):aJ:=if tag=1 then [111,118,101,114]else if tag=2 then [117,110,100,101,114]else []
def uJ(k:Int):aJ:=if k=2 then [102,105,108,101,105,110,116,111,32]else if k=3 then [114,101,100,105,114,101,99,116,32]else if k=4 then [114,101,106,101,99,116,32]else []
def aBC:aJ:=[32,58,99,111,109,112,97,114,97,116,111,114,32,34,105,59,111,99,116,101,116,34]
def prn:Tree→Nat→Bool→aJ
 | .const b,_,_=>if b=true then [116,114,117,101]else [102,97,108,115,101]
 | .not_ t,d,_=>[110,111,116,32]++prn t d true
 | .many all l,d,_=>(if all=true then [97,108,108,111,102,32,40]else [97,110,121,111,102,32,40])++prn l d true++[41]
 | .mat tag oct op a b,_,_=>rV op++(if oct=true then aBC else [])++(aBK tag++[32]++oE a++[32]++oE b)
 | .exi a,_,_=>[101,120,105,115,116,115,32]++oE a
 | .siz tag n,_,_=>[115,105,122,101,32,58]++vW tag++[32]++Lib.itoa n
 | .tnil,_,_=>[]
 | .tcons t l,d,f=>(if f=true then []else [44,32])++prn t d true++prn l d false
 | .plain op,_,_=>if op=14 then [115,116,111,112,59]else [100,105,115,99,97,114,100,59]
 | .act k a _,_,_=>if k=1 then [107,101,101,112,59]else uJ k++(iI a++[59])
 | .set_ n v tag,_,_=>[115,101,116]++xO tag++[32]++iI n++[32]++iI v++[59]
 | .iff bs,d,_=>prn bs d true
 | .cnil,_,_=>[]
 | .ccons c l,d,_=>indC d++prn c d true++[10]++prn l d true
 | .bnil,_,_=>[]
 | .bcons t b l,d,f=>(if f=true then [105,102,32]else [32,101,108,115,105,102,32])++prn t d true++[32,123,10]++prn b (d+1) true++(indC d++[125])++prn l d false
 | .belse b l,d,_=>[32,101,108,115,101]++[32,123,10]++prn b (d+1) true++(indC d++[125])++prn l d false
def mF(r:List aJ×Tree):aJ:=(if r.1=[]then []else [114,101,113,117,105,114,101,32]++oE r.1++[59,10])++prn r.2 0 true
end Go.Syn
end
section
namespace Go.Proofs
open Go Go.SL Go.Syn
abbrev nilS:Value:=.slice none 0 0
def rcs(f:Nat→Value)(tv:Value):List Value:=(List.range 256).map f++[tv]
theorem aIQ(f:Nat→Value)(tv:Value):(rcs f tv).length=257:=by simp[rcs]
theorem uT{f:Nat→Value}{tv:Value}{j:Nat}(h:j < 256):(rcs f tv)[j]?=some (f j):=by
 unfold rcs;rw[List.getElem?_append_left gBZ];simp[h]
theorem aK5(f:Nat→Value)(tv:Value):(rcs f tv)[256]?=some tv:=by
 unfold rcs;rw[List.getElem?_append_right (by simp)];simp
def upd(f:Nat→Value)(j:Nat)(v:Value):Nat→Value:=fun i=>if i=j then v else f i
theorem bNP{f:Nat→Value}{tv v:Value}{j:Nat}(h:j < 256):SetAt (rcs f tv) j v (rcs (upd f j v) tv):=by
 have e:(rcs f tv).set j v=rcs (upd f j v) tv:=by
  unfold rcs;rw[List.set_append_left _ _ gBZ]
  congr 1
  apply List.ext_getElem?
  intro i;rw[List.getElem?_set]
  by_cases hi:j=i
  ·subst hi;simp[h,upd]
  simp only[if_neg hi,List.getElem?_map];rcases Nat.lt_or_ge i 256 with hl|hl
  ·rw[List.getElem?_range hl];simp[upd,Ne.symm hi]
  rw[List.getElem?_eq_none (by simpa using hl)];rfl
 rw[←e];exact sN (by rw[aIQ];omega)
theorem aUD{f:Nat→Value}{tv v:Value}:SetAt (rcs f tv) 256 v (rcs f v):=by
 have e:(rcs f tv).set 256 v=rcs f v:=by
  unfold rcs;rw[List.set_append_right _ _ (by simp)];simp
 rw[←e];exact sN (by rw[aIQ];omega)
theorem bHK(v:Value)(n:Nat):Spl (List.replicate (n+1) nilS) n [v] ((List.range n).map (fun _=>nilS)++[v]):=by
 have h:=aLO (o:=n) (l:=List.replicate (n+1) nilS) (cs:=[v]) (by simp);have e:(List.replicate (n+1) nilS).take n++[v]++(List.replicate (n+1) nilS).drop (n+[v].length)=(List.range n).map (fun _=>nilS)++[v]:=by
  rw[List.take_replicate,List.drop_replicate,List.length_singleton,Nat.min_eq_left (Nat.le_succ n),Nat.sub_self,List.map_const',List.length_range];simp
 rw[e]at h;exact h
theorem bJK(v:Value):Spl (List.replicate 257 nilS) 256 [v] (rcs (fun _=>nilS) v):=bHK v 256
theorem bKK{l cs:List Value}(h:l.length=cs.length):Spl l 0 cs cs:=by
 have h2:=aLO (o:=0) (l:=l) (cs:=cs) aI;rw[List.take_zero,List.nil_append,List.drop_eq_nil_of_le aI,List.append_nil]at h2;exact h2
theorem bNO{f:Nat→Value}{tv:Value}(hf:∀j,(f j).oneCell'=true)(ht:tv.oneCell'=true):∀c∈rcs f tv,c.oneCell'=true:=by
 intro c hc;unfold rcs at hc;rcases List.mem_append.1 hc with h|h
 ·obtain⟨j,_,rfl⟩:=List.mem_map.1 h;exact hf j
 simp at h;subst h;exact ht
def kk(s:Nat):UInt8:=if s=0 then 34 else 92
def nn(s:Nat):List UInt8:=if s=0 then [92,34]else [92,92]
def olds:List (List UInt8):=[[92],[92,92],[34],[92,34]]
def aED(s:Nat):List (List UInt8):=[[34],[92]].take s
theorem bI1{s:Nat}(h:s≤1):olds[2 - 2*s]?=some [kk s]∧olds[3 - 2*s]?=some (nn s)∧aED (s+1)=aED s++[[kk s]]:=by
 rcases Nat.le_one_iff_eq_zero_or_eq_one.1 h with rfl|rfl <;> exact⟨rfl,rfl,rfl⟩
theorem bI2{s:Nat}(h:s < 2):∃c x,olds[2*s]?=some [c]∧olds[2*s+1]?=some x∧x.length=2:=by
 rcases Nat.le_one_iff_eq_zero_or_eq_one.1 (Nat.le_of_lt_succ h)with rfl|rfl
 ·exact⟨92,[92,92],rfl,rfl,rfl⟩
 exact⟨34,[92,34],rfl,rfl,rfl⟩
def isz:Nat→Bool
 |0=>true
 |_+1=>false
def Done(K:Hl)(s:Nat)(f:Nat→Value):Prop:=∀j,(∃i,i < s∧j=(kk i).toNat∧(∃a c,f j=.slice (some a) 2 c)∧Ksl (elB 5) K (f j) (nn i))∨((∀i,i < s→j≠(kk i).toNat)∧f j=nilS)
theorem bBM{K K':Hl}{s:Nat}{f:Nat→Value}(h:Done K s f)(le:K.le K'):Done K' s f:=fun j=>(h j).imp_left fun⟨i,h1,h2,h3,h4⟩=>⟨i,h1,h2,h3,h4.mono le⟩
theorem bBO(K:Hl):Done K 0 (fun _=>nilS):=fun j=>.inr ⟨fun i h=>by omega,rfl⟩
theorem bRF(s:Nat):(nn s).length=2:=by unfold nn;split <;> rfl
theorem bID{e:TypeId}{K:Hl}{v:Value}{xs:List UInt8}(h:Ksl (elB e) K v xs)(h0:xs.length=2):∃a c,v=.slice (some a) 2 c:=by
 rcases h with ⟨a,c,rfl,rfl⟩|⟨b,off,cap,cells,fz,rfl,_⟩
 ·simp at h0
 rw[h0];exact⟨_,_,rfl⟩
theorem bG7{K:Hl}{s:Nat}{f:Nat→Value}(h:Done K s f)(hs:s≤1):f (kk s).toNat=nilS:=by
 rcases h (kk s).toNat with ⟨i,h1,h2,_⟩|⟨_,h⟩
 ·have:i=0∧s=1:=by omega
  obtain⟨rfl,rfl⟩:=this;exact absurd h2 (by decide)
 exact h
theorem bBN{K K':Hl}{s:Nat}{f:Nat→Value}{v:Value}(h:Done K s f)(le:K.le K')(hv:Ksl (elB 5) K' v (nn s)):Done K' (s+1) (upd f (kk s).toNat v):=by
 intro j
 by_cases hj:j=(kk s).toNat
 ·refine .inl ⟨s,by omega,hj,?_⟩
  unfold upd;rw[if_pos hj];exact⟨bID hv (bRF s),hv⟩
 unfold upd;rw[if_neg hj];rcases h j with ⟨i,h1,h2,h3,h4⟩|⟨h1,h2⟩
 ·exact .inl ⟨i,by omega,h2,h3,h4.mono le⟩
 refine .inr ⟨fun i hi=>?_,h2⟩
 rcases Nat.lt_or_ge i s with h|h
 ·exact h1 i h
 have:i=s:=by omega
 subst this;exact hj
def isQ(c:UInt8):Bool:=decide (c=34∨c=92)
theorem aWR{K:Hl}{f:Nat→Value}(h:Done K 2 f)(c:UInt8):(isQ c=true∧(∃a n,f c.toNat=.slice (some a) 2 n)∧Ksl (elB 5) K (f c.toNat) (nL c)∧(nL c).length=2)∨(isQ c=false∧f c.toNat=nilS∧nL c=[c]):=by
 have h34:c.toNat=34→c=34:=fun e=>UInt8.toNat_inj.1 e
 have h92:c.toNat=92→c=92:=fun e=>UInt8.toNat_inj.1 e
 rcases h c.toNat with ⟨i,h1,h2,h3,h4⟩|⟨h1,h2⟩
 ·have hi:i=0∨i=1:=by omega
  rcases hi with rfl|rfl
  ·have e:=h34 h2;subst e;exact .inl ⟨by decide,h3,h4,rfl⟩
  have e:=h92 h2;subst e;exact .inl ⟨by decide,h3,h4,rfl⟩
 have n34:c≠34:=fun e=>h1 0 aI (by rw[e];rfl)
 have n92:c≠92:=fun e=>h1 1 aI (by rw[e];rfl)
 refine .inr ⟨by simp[isQ,n34,n92],h2,by unfold nL;rw[if_neg n92,if_neg n34]⟩
def cntQ(s:aJ):Nat:=s.countP isQ
def encQ(s:aJ):aJ:=s.flatMap nL
theorem aDZ:∀s:aJ,(encQ s).length=s.length+cntQ s
 | []=>rfl
 |c::s=>by
  have ih:=aDZ s;unfold encQ cntQ at ih ⊢;rw[List.flatMap_cons,List.length_append,ih,List.countP_cons,List.length_cons];have:(nL c).length=1+if isQ c=true then 1 else 0:=by
   unfold nL isQ
   by_cases h1:c=92
   ·simp[h1]
   by_cases h2:c=34 <;> simp[h1,h2]
  omega
theorem aDO(s:aJ):cntQ s≤s.length:=List.countP_le_length
theorem bBT{s:aJ}(h:cntQ s=0):encQ s=s:=by
 induction s with
 |nil=>rfl
 |cons c s ih=>
  unfold cntQ at h;rw[List.countP_cons]at h;have h2:isQ c=false:=by
   cases hq:isQ c with
   |false=>rfl
   |true=>rw[hq]at h;simp at h
  have h3:cntQ s=0:=by unfold cntQ;omega
  have ih:=ih h3;unfold encQ at ih ⊢;rw[List.flatMap_cons,ih];unfold isQ at h2;simp at h2;unfold nL;rw[if_neg h2.2,if_neg h2.1];rfl
theorem bGC(s:aJ):cntQ s=Lib.countByte s 34+Lib.countByte s 92:=by
 induction s with
 |nil=>rfl
 |cons c s ih=>
  unfold cntQ Lib.countByte at ih ⊢;rw[List.countP_cons,List.count_cons,List.count_cons,ih];unfold isQ
  by_cases h1:c=34
  ·subst h1;simp;omega
  by_cases h2:c=92
  ·subst h2;simp;omega
  simp[h1,h2]
theorem aDS(s:aJ)(c:UInt8):Lib.countByte s c≤s.length:=List.count_le_length
def cntU(s:aJ)(i:Nat):Nat:=if i=0 then 0 else if i=1 then Lib.countByte s 34 else cntQ s
theorem aM6{s:aJ}{i:Nat}(h:i < 2):cntU s (i+1)=cntU s i+Lib.countByte s (kk i):=by
 rcases Nat.le_one_iff_eq_zero_or_eq_one.1 (Nat.le_of_lt_succ h)with rfl|rfl
 ·simp[cntU,kk]
 simp[cntU,kk];exact bGC s
theorem bL5(s:aJ)(i:Nat):cntU s i≤s.length:=by
 unfold cntU;split
 ·omega
 split
 ·exact aDS _ _
 exact aDO _
theorem aOO{s:aJ}{i:Nat}{c:UInt8}(h:s[i]?=some c):s.take (i+1)=s.take i++[c]:=by
 have hi:i < s.length:=by
  rcases Nat.lt_or_ge i s.length with h'|h'
  ·exact h'
  rw[List.getElem?_eq_none h']at h;cases h
 rw[List.getElem?_eq_getElem hi]at h;cases h
 rw[List.take_succ_eq_append_getElem hi]
theorem bBE{s:aJ}{i:Nat}{c:UInt8}(h:s[i]?=some c):cntQ (s.take (i+1))=cntQ (s.take i)+if isQ c=true then 1 else 0:=by
 rw[aOO h];unfold cntQ;rw[List.countP_append];simp[List.countP_cons]
theorem aAZ{s:aJ}{i:Nat}{c:UInt8}(h:s[i]?=some c):encQ (s.take (i+1))=encQ (s.take i)++nL c:=by
 rw[aOO h];unfold encQ;rw[List.flatMap_append];simp
theorem aD0(s:aJ)(i:Nat):(encQ (s.take i)).length≤(encQ s).length:=by
 have:s=s.take i++s.drop i:=(List.take_append_drop i s).symm;have e:encQ s=encQ (s.take i)++encQ (s.drop i):=by
  conv=>lhs;rw[this]
  unfold encQ;rw[List.flatMap_append]
 rw[e,List.length_append];omega
def posB:Nat→Bool
 |0=>false
 |_+1=>true
theorem aK0{n:Nat}(h:0 < n):posB n=true:=by cases n with|zero=>omega|succ n=>rfl
theorem bIA{i:Nat}(h:i < 2):(aED 2)[i]?=some [kk i]:=by
 rcases Nat.le_one_iff_eq_zero_or_eq_one.1 (Nat.le_of_lt_succ h)with rfl|rfl <;> rfl
theorem bVR(i:Nat):isQ (kk i)=true:=by unfold kk;split <;> rfl
theorem aSC(s:aJ):cntU s 2=cntQ s:=rfl
def bufQ(s:aJ)(i:Nat):aJ:=encQ (s.take i)++List.replicate ((encQ s).length - (encQ (s.take i)).length) 0
theorem aR9(s:aJ)(i:Nat):(bufQ s i).length=(encQ s).length:=by
 have:=aD0 s i;unfold bufQ;rw[List.length_append,List.length_replicate];omega
theorem bA9(s:aJ):bufQ s 0=List.replicate (encQ s).length 0:=by simp[bufQ,encQ]
theorem bF2(s:aJ):bufQ s s.length=encQ s:=by unfold bufQ;rw[List.take_length,Nat.sub_self];simp
theorem aM0{s:aJ}{i:Nat}{c:UInt8}(h:s[i]?=some c):(bufQ s i).take (encQ (s.take i)).length++nL c++(bufQ s i).drop ((encQ (s.take i)).length+(nL c).length)=bufQ s (i+1):=by
 have h1:=aD0 s (i+1);have h2:=aAZ h;rw[h2,List.length_append]at h1;unfold bufQ;rw[h2,List.take_left,←List.drop_drop,List.drop_left,List.drop_replicate,List.length_append,Nat.sub_sub]
theorem aMZ{s:aJ}{i:Nat}{c:UInt8}(h:s[i]?=some c):(encQ (s.take i)).length+(nL c).length≤(encQ s).length:=by
 have h1:=aD0 s (i+1);rw[aAZ h,List.length_append]at h1;exact h1
theorem bF3{s:aJ}{i:Nat}{c:UInt8}(h:s[i]?=some c)(hq:nL c=[c]):(bufQ s i).set (encQ (s.take i)).length c=bufQ s (i+1):=by
 have h0:=aM0 h;have h1:=aMZ h;rw[hq]at h0 h1;simp only[List.length_singleton]at h0 h1;rw[←h0,List.set_eq_take_append_cons_drop,if_pos (by rw[aR9];omega)];simp
end Go.Proofs
end
section
attribute [local irreducible] Go.SL.T Go.SL.OL Go.SL.D Go.SL.DL Go.SL.Ev Go.SL.Ef Go.SL.EfS
namespace Go.Proofs
open Go Go.SL
abbrev rplL(dn st:Int)(x2 rv ov:Value):List Value:=[.int .u32 dn,.int .i32 st,x2,rv,ov]
abbrev rpl(b:Nat)(dn st:Int)(x2 rv ov:Value):Asn:=pt b (aZ (rplL dn st x2 rv ov) 400)
section
variable{b:Nat}{dn st:Int}{x2 rv ov:Value}
theorem aR7(K:Hl):Sp Tryz.prog 312 [ptr b 0] K [rpl b dn st x2 rv ov] (Ret fun r K' L'=>r=.bool (decide (dn≠0))∧K'=K∧L'=[rpl b dn st x2 rv ov]):=by
 refine a8 Tryz.func312 rfl Tryz.ntmps312 rfl rfl fun F w=>?_;refine zz10 ?_;refine aA (sZ rfl rfl (fun w j=>run_call_load Tryz.func337 bJ bJ bJ .u32 bJ (mI j.piece rfl))) rfl ?_;refine zz6 ?_;exact⟨_,rfl,rfl,rfl,rfl⟩
theorem bFS(v:Bool)(K:Hl):Sp Tryz.prog 358 [.bool v] K [] (Val (.int .u32 (if v=true then 1 else 0)) K):=by
 refine a8 Tryz.func358 rfl Tryz.ntmps358 rfl rfl fun F w=>?_;refine zz11 ?_;refine eO 3 rfl (fun h3=>?_) (fun h3=>?_)
 ·refine zz8 ?_;rw[h3];exact⟨rfl,rfl,rfl⟩
 refine zz9 ?_;rw[h3];exact⟨rfl,rfl,rfl⟩
abbrev Lv(N:Hl→List Asn→Prop):Ending→Hl→List Asn→Prop:=fun e K' L'=>(∃v,e=.returned v)∧N K' L'
theorem bA8(K:Hl)(w0:World):SpD Tryz.prog 340 [ptr b 0,.bool true] K [rpl b dn st x2 rv ov] .returning fun e u K' L'=>u=.returning∧Lv (fun K' L'=>K'=K∧L'=[rpl b 1 st x2 rv ov]) e K' L':=by
 refine aU2 Tryz.func340 rfl Tryz.ntmps340 rfl rfl fun F w=>?_;refine dD (anc:=[0,1,3,0,8,31]) (ord:=[0,1,2,3,4,5]) [4,5] [5] mixed gAH (dI _) ?_;refine zz4 ?_;refine lC rfl (.none rfl) rfl rfl rfl rfl (bFS true _) rfl ?_;refine aSJ rfl rfl (.none rfl) rfl (aGE (x:=.int .u32 1) rfl rfl (fun w h=>run_call_store Tryz.func357 bJ bJ bJ bJ (mI h rfl) (aFX h)) .here .zero) rfl ?_;rintro _ K _ ⟨rfl,rfl,rfl⟩ -;refine zz2 ?_;exact⟨⟨_,rfl⟩,rfl,rfl⟩
theorem bH2(K:Hl):Sp Tryz.prog 355 [ptr b 1] K [rpl b dn 0 x2 rv ov] (Ret fun r K' L'=>r=.tuple #[]∧K'=K∧L'=[rpl b dn 1 x2 rv ov]):=by
 refine a8 Tryz.func355 rfl Tryz.ntmps355 rfl rfl fun F w=>?_;refine zz2 ?_;refine aA (sZ rfl (vs:=[]) rfl (fun w j=>run_call_mark0 Tryz.func366 bJ bJ bJ .disable bJ w)) rfl ?_;refine zz8 ?_;refine cC (aGE (x:=.int .i32 1) rfl rfl (fun w h=>run_call_cas_hit Tryz.func367 bJ bJ bJ .i32 bJ (mI h rfl) (aFX h)) .here (.succ .zero)) rfl ?_;rintro _ K _ ⟨rfl,rfl,rfl⟩ -;refine zz7 ?_;refine aA (sZ rfl (vs:=[]) rfl (fun w j=>run_call_mark0 Tryz.func368 bJ bJ bJ .enable bJ w)) rfl ?_;refine zz4 ?_;refine aA (aD5 Tryz.underlying501 Tryz.underlying185 bJ rfl (.own .here) rfl) rfl ?_;refine aA (sZ rfl rfl (fun w j=>run_call_marked Tryz.func369 bJ bJ bJ .acquire bJ _ w)) rfl ?_;refine zz4 ?_;refine wT rfl (Hl.le_refl _) ?_;exact⟨_,rfl,rfl,rfl,rfl⟩
theorem aXI(K:Hl):Sp Tryz.prog 356 [ptr b 1] K [rpl b dn 1 x2 rv ov] (Ret fun r K' L'=>r=.tuple #[]∧K'=K∧L'=[rpl b dn 0 x2 rv ov]):=by
 refine a8 Tryz.func356 rfl Tryz.ntmps356 rfl rfl fun F w=>?_;refine zz13 ?_;refine aA (aD5 Tryz.underlying501 Tryz.underlying185 bJ rfl (.own .here) rfl) rfl ?_;refine aA (sZ rfl rfl (fun w j=>run_call_marked Tryz.func371 bJ bJ bJ .releaseMerge bJ _ w)) rfl ?_;refine zz3 ?_;refine aA (sZ rfl (vs:=[]) rfl (fun w j=>run_call_mark0 Tryz.func366 bJ bJ bJ .disable bJ w)) rfl ?_;refine zz7 ?_;refine cC (aGE (x:=.int .i32 0) rfl rfl (fun w h=>run_call_add Tryz.func372 bJ bJ bJ .i32 bJ (mI h rfl) (aFX h) rfl) .here (.succ .zero)) rfl ?_;rintro _ K _ ⟨rfl,rfl,rfl⟩ -;refine zz7 ?_;refine aA (vJ (eB rfl rfl) (by decide)) rfl ?_;refine zz6 ?_;refine aA (sZ rfl (vs:=[]) rfl (fun w j=>run_call_mark0 Tryz.func368 bJ bJ bJ .enable bJ w)) rfl ?_;refine zz2 ?_;exact⟨_,rfl,rfl,rfl,rfl⟩
theorem bNB(K:Hl):Sp Tryz.prog 338 [ptr b 1] K [rpl b dn 0 x2 rv ov] (Ret fun r K' L'=>r=.tuple #[]∧K'=K∧L'=[rpl b dn 1 x2 rv ov]):=by
 refine a8 Tryz.func338 rfl Tryz.ntmps338 rfl rfl fun F w=>?_;refine zz4 ?_;refine aX rfl rfl (bH2 _) (.cons .here .nil) rfl ?_;rintro _ K _ ⟨rfl,rfl,rfl⟩ -;refine zz2 ?_;exact⟨_,rfl,rfl,rfl,rfl⟩
theorem bFC(K:Hl):SpD Tryz.prog 339 [ptr b 1] K [rpl b dn 1 x2 rv ov] .returning fun e u K' L'=>u=.returning∧Lv (fun K' L'=>K'=K∧L'=[rpl b dn 0 x2 rv ov]) e K' L':=by
 refine aU2 Tryz.func339 rfl Tryz.ntmps339 rfl rfl fun F w=>?_;refine zz4 ?_;refine aX rfl rfl (aXI _) (.cons .here .nil) rfl ?_;rintro _ K _ ⟨rfl,rfl,rfl⟩ -;refine zz2 ?_;exact⟨⟨_,rfl⟩,rfl,rfl⟩
theorem bBL(f:FuncId)(hf:∃fn,Tryz.prog.funcs[f]?=some fn∧(fn.name== "runtime.NumGoroutine")=false∧fn.body.isSome=true)(K:Hl)(N:Hl→Value→Value→Prop)(hb:∀K',K.le K'→Sp Tryz.prog f [ptr b] K' [rpl b 0 1 x2 rv ov] (Ret fun r K'' L'=>r=.tuple #[]∧∃rv' ov',N K'' rv' ov'∧L'=[rpl b 0 1 x2 rv' ov'])):
  Sp Tryz.prog 313 [ptr b 0,.func (.func f) #[ptr b] #[]] K [rpl b 0 0 x2 rv ov] (Ret fun r K' L'=>r=.tuple #[]∧∃rv' ov',N K' rv' ov'∧L'=[rpl b 1 0 x2 rv' ov']):=by
 refine aLN Tryz.func313 rfl Tryz.ntmps313 rfl rfl fun F w=>?_;refine zz5 ?_;refine aX rfl rfl (bNB _) (.cons .here .nil) rfl ?_;rintro _ K _ ⟨rfl,rfl,rfl⟩ -;refine zz7 ?_;refine aN0 rfl rfl ?_;refine zz7 ?_;refine aX rfl rfl (aR7 _) (.cons .here .nil) rfl ?_;rintro _ K _ ⟨rfl,rfl,rfl⟩ -;refine aA gAF rfl ?_;refine zz8 ?_;refine aN0 rfl rfl ?_;refine zz4 ?_;refine aKV rfl (aPP hf) (hb _ (Hl.le_refl _)) (.cons .here .nil) rfl ?_;rintro _ K2 _ ⟨rfl,rv2,ov2,hN,rfl⟩ le2;refine aG ?_;refine bGK (N1:=fun K3 L3=>K3=K2∧L3=[rpl b 1 1 x2 rv2 ov2]) (N2:=fun K4 L4=>K4=K2∧L4=[rpl b 1 0 x2 rv2 ov2]) .norm rfl (.cons .here .nil) (bA8 K2 w) ?_;rintro K3 L3 ⟨rfl,rfl⟩ le3;refine⟨_,_,.cons .here .nil,bFC _,?_⟩
 rintro K4 L4 ⟨rfl,rfl⟩ le4;exact⟨⟨_,rfl,rfl,rv2,ov2,hN,rfl⟩,le2⟩
theorem bTB(f:FuncId)(hf:∃fn,Tryz.prog.funcs[f]?=some fn∧(fn.name== "runtime.NumGoroutine")=false∧fn.body.isSome=true)(K:Hl)(N:Hl→Value→Value→Prop)(hb:∀K',K.le K'→Sp Tryz.prog f [ptr b] K' [rpl b 0 1 x2 rv ov] (Ret fun r K'' L'=>r=.tuple #[]∧∃rv' ov',N K'' rv' ov'∧L'=[rpl b 0 1 x2 rv' ov'])):
  Sp Tryz.prog 273 [ptr b 0,.func (.func f) #[ptr b] #[]] K [rpl b 0 0 x2 rv ov] (Ret fun r K' L'=>r=.tuple #[]∧∃rv' ov',N K' rv' ov'∧L'=[rpl b 1 0 x2 rv' ov']):=by
 refine a8 Tryz.func273 rfl Tryz.ntmps273 rfl rfl fun F w=>?_;refine zz5 ?_;refine aX rfl rfl (aR7 _) (.cons .here .nil) rfl ?_;rintro _ K _ ⟨rfl,rfl,rfl⟩ -;refine aA gAF rfl ?_;refine zz6 ?_;refine aX rfl rfl (bBL f hf _ N hb) (.cons .here .nil) rfl ?_;rintro _ K2 _ ⟨rfl,rv2,ov2,hN,rfl⟩ le2;refine aG ?_;refine dK rfl le2 ?_;exact⟨_,rfl,rfl,rv2,ov2,hN,rfl⟩
end
end Go.Proofs
end
section
attribute [local irreducible] Go.SL.T Go.SL.OL Go.SL.D Go.SL.DL Go.SL.Ev Go.SL.Ef Go.SL.EfS
namespace Go.Proofs
open Go Go.SL Go.Syn
set_option maxRecDepth 100000 in
theorem bSX:cU Tryz.prog 470=some (List.replicate 257 nilS):=by kernel_rfl
set_option maxRecDepth 100000 in
theorem bSN:fQ Tryz.prog 470=some (List.replicate 257 nilS,[(0,256),(256,1)]):=by kernel_rfl
set_option maxRecDepth 100000 in
theorem bOT:fN Tryz.prog 470=true:=by kernel_rfl
set_option maxRecDepth 100000 in
theorem bIG(b:Nat)(w:World):(Go.method (Tryz.prog.types.size+Made.depth) 471 (ptr b) "Replace").run Tryz.prog w=.ok (448,ptr b) w:=by kernel_rfl
def bFL(K:Hl)(rv ov:Value):Prop:=∃br f tv,rv=.iface 471 (ptr br)∧K br=some (aZ (rcs f tv) 470)∧Done K 2 f∧Ksl (bN 9) K tv (aED 2)
theorem bDR(b:Nat)(dn st:Int)(x2 rv ov:Value)(K:Hl)(hov:Ksl (bN 9) K ov olds):Sp Tryz.prog 314 [ptr b] K [rpl b dn st x2 rv ov]
  (Ret fun r K' L'=>bFL K' r nilS∧L'=[rpl b dn st x2 rv ov]):=by
 refine a8 Tryz.func314 rfl Tryz.ntmps314 rfl rfl fun F w=>?_;refine zz18 ?_;refine aA (bO (k:=bN 9) rfl Tryz.underlying39 rfl (.known hov)) rfl ?_;refine aA (vJ (bZ rfl rfl) (by decide)) rfl ?_;refine zz24 ?_;refine eJ (fun(s:Nat)=>s≤2) (fun s=>[(0,ptr b),(2,.nilIface),(3,ov),(4,.bool (isz s)),(5,i64 ((2*s:Nat):Int))]) (fun _=>K) (fun _=>[rpl b dn st x2 rv ov]) (fun s=>2 - s) 0 (Nat.zero_le _) (.cons 0 rfl (.cons 2 rfl (.cons 3 rfl (.cons 4 rfl (.cons 5 rfl .nil))))) rfl (fun _ h=>h) ?_;intro s hs;refine zz5 ?_;refine aA (bO (k:=bN 9) rfl Tryz.underlying39 rfl (.known hov)) rfl ?_;refine zz3 ?_;refine bK 40 rfl (fun h40=>?_) (fun h40=>?_)
 ·have hs2:s < 2:=gB5;obtain⟨c0,x0,hc0,hx0,hl0⟩:=bI2 hs2;refine zz9 ?_;refine aA (bE (k:=bN 9) (j:=2*s) cG rfl (.known hov) rfl rfl gB5) rfl ?_;refine aA (dP (o:=0) (k:=bN 9) ts9 rfl (.known hov) hc0 rfl) rfl ?_;refine zz1 ?_;refine aA (vJ (eB rfl rfl) (by simp)) rfl ?_;refine zz10 ?_;refine aA (bE (k:=bN 9) (j:=2*s+1) cG rfl (.known hov) rfl aI gB5) rfl ?_;refine aA (dP (o:=0) (k:=bN 9) ts9 rfl (.known hov) hx0 rfl) rfl ?_;refine zz1 ?_;refine aA (zB (eB rfl rfl) aI) rfl ?_;refine zz13 ?_;exact dF (s+1) aI aI (.cons 0 rfl (.cons 2 rfl (.cons 3 rfl (.cons 4 rfl (.cons 5 (by exact congrArg (fun x:Int=>some (i64 x)) aI) .nil))))) rfl (fun _ h=>h)
 have hs2:s=2:=gB5;subst hs2;refine zz17 ?_;refine aA (bO (k:=bN 9) rfl Tryz.underlying39 rfl (.known hov)) rfl ?_;refine aA (gN (v:=i64 2) (aW2 rfl rfl (by decide)) rfl) rfl ?_;refine cC (bNX (k:=bN 9) (n:=2) fS tv9 rfl rfl rfl rfl rfl rfl aI aI) rfl ?_;rintro v94 K _ ⟨rfl,rfl,ho94⟩ -;refine aA (cL bSN bOT (.cons rfl (aM4 ho94) rfl (bJK _) .nil)) rfl ?_;refine cC (cX bSX) rfl ?_;rintro _ K _ ⟨b11,rfl,rfl,rfl⟩ -;refine cA (cK (cs:=rcs (fun _=>nilS) v94) ta470_257 rfl rfl (aIQ _ _) .here (bNO (fun _=>rfl) ho94) (bKK (by rw[aIQ,List.length_replicate])) gAJ) ?_;rintro _ K _ ⟨rfl,rfl⟩ -;refine zz6 ?_;refine aA (bO (k:=bN 9) rfl Tryz.underlying39 rfl (.known hov)) rfl ?_;refine zz5 ?_;refine n8 (fun(K2:Hl) (s:Nat) (f:Nat→Value) (tv:Value)=>K.le K2∧s≤2∧Done K2 s f) (fun _ s _ _=>[(0,ptr b),(2,.nilIface),(3,ov),(11,ptr b11),(12,i64 (2 - 2*(s:Int)))]) (fun K2 _ _ _=>K2) (fun _ s f tv=>[pt b11 (aZ (rcs f tv) 470),sl false (bN 9) tv (aED s),rpl b dn st x2 rv ov]) (fun _ s _ _=>2 - s) _ 0 _ v94 ⟨Hl.le_refl _,Nat.zero_le _,bBO K⟩ (.cons 0 rfl (.cons 2 rfl (.cons 3 rfl (.cons 11 rfl (.cons 12 rfl .nil))))) rfl (fun _ h=>h) ?_;intro K2 s f tv ⟨le2,hs,hD⟩;have hov:=hov.mono le2;refine zz7 ?_;refine bK 100 rfl (fun h100=>?_) (fun h100=>?_)
 ·have hs1:s≤1:=aI;obtain⟨hk1,hk2,hk3⟩:=bI1 hs1;have hkl:(kk s).toNat < 256:=(kk s).toNat_lt;have hol:olds.length=4:=rfl;have hfn:=bG7 hD hs1;refine zz8 ?_;refine aA (bE (k:=bN 9) (j:=2 - 2*s) cG rfl (.known hov) rfl aI aI) rfl ?_;refine aA (dP (o:=0) (k:=bN 9) ts9 rfl (.known hov) hk1 rfl) rfl ?_;refine aA (cZ (c:=kk s) Tryz.underlying9 rfl rfl rfl rfl) rfl ?_;refine zz8 ?_;refine aA (bE (k:=bN 9) (j:=3 - 2*s) cG rfl (.known hov) rfl aI aI) rfl ?_;refine aA (dP (o:=0) (k:=bN 9) ts9 rfl (.known hov) hk2 rfl) rfl ?_;refine zz8 ?_;refine aA (fJ (j:=(kk s).toNat) Tryz.underlying468 jW rfl rfl rfl hkl) rfl ?_;refine aA (gN (aL jW rfl (.own .here) (uT hkl)) hfn) rfl ?_;refine aA (aSQ Tryz.underlying130 rfl) rfl ?_;refine zz5 ?_;refine aA (aL iS rfl (.own .here) (aK5 _ _)) rfl ?_;refine zz1 ?_;refine cC (bH (z0:=[.int .u8 0]) kR tz5 rfl rfl rfl rfl (.cons rfl rfl rfl (.cons .nil) .nil)) rfl ?_;rintro _ K _ ⟨b121,rfl,rfl,rfl⟩ -;refine aA (lD (xs:=[kk s]) Tryz.underlying130 Tryz.underlying5 Tryz.underlying9 rfl (.blk (.own .here) rfl rfl)) rfl ?_;refine cC (bH (z0:=[(str [])]) cG tz9 rfl rfl rfl rfl (.cons rfl rfl rfl (.cons .nil) .nil)) rfl ?_;rintro _ K _ ⟨b123,rfl,rfl,rfl⟩ -;refine cC (dN (k:=(bN 9)) (ys:=[[kk s]]) fS rfl rfl bF (fun w j=>dE Tryz.underlying39 (SeesSl.at (.blk (.own .here) rfl rfl) j)) (by simp[aED];omega) (by simp[aED];omega)) rfl ?_;rintro v124 K _ ⟨rfl,rfl,ho124⟩ -;refine zz1 ?_;refine cA (bP (fz:=(0,0)) iS rfl rfl ho124 (.there (.there (.there .here))) aUD rfl) ?_;rintro _ K _ ⟨rfl,rfl⟩ -;refine zz5 ?_;refine uAi ?_;rintro v128 K _ ⟨rfl,rfl⟩ -;refine gX fun K3 le3 hS=>?_;obtain⟨sa,sn,sc,rfl⟩:=hS.isSlice;refine zz1 ?_;refine aA (fJ (j:=(kk s).toNat) Tryz.underlying468 jW rfl rfl rfl hkl) rfl ?_;refine cA (bP (fz:=(0,0)) jW rfl rfl rfl (.there (.there (.there .here))) (bNP hkl) rfl) ?_;rintro _ K _ ⟨rfl,rfl⟩ -;refine zz8 ?_;refine aU (.cons (.there (.there (.there .here))) (.cons .here (.cons (.there (.there .here)) .nil))) ?_;refine gS _ (s+1) _ v124 ⟨Hl.le_trans le2 le3,by omega,bBN hD le3 hS⟩ aI (.cons 0 rfl (.cons 2 rfl (.cons 3 rfl (.cons 11 rfl (.cons 12 (by exact congrArg (fun x:Int=>some (i64 x)) aI) .nil))))) rfl (by rw[hk3];exact fun _ h=>h)
 have hs2:s=2:=aI;subst hs2;refine zz7 ?_;refine aA (cY Tryz.underlying471 (fun _ h=>by cases h) rfl) rfl ?_;refine zz4 ?_;refine aU (.cons (.there .here) (.cons .here (.cons .here .nil))) ?_;refine mJ fun K3 le3 hS=>?_;refine kE fun K4 le4 hb11=>?_;refine bD rfl rfl (Hl.le_trans le2 (Hl.le_trans le3 le4)) ?_;exact⟨_,rfl,⟨b11,f,tv,rfl,hb11,bBM hD (Hl.le_trans le3 le4),hS.mono le4⟩,rfl⟩
end Go.Proofs
end
section
attribute [local irreducible] Go.SL.T Go.SL.OL Go.SL.D Go.SL.DL Go.SL.Ev Go.SL.Ef Go.SL.EfS
set_option maxRecDepth 4000
namespace Go.Proofs
open Go Go.SL Go.Syn
theorem bGF(s:aJ)(c:UInt8)(K:Hl):Sp Tryz.prog 450 [str s,str [c]] K [] (Val (i64 (Lib.countByte s c)) K):=by
 refine a8 Tryz.func450 rfl Tryz.ntmps450 rfl rfl fun F w=>?_;refine zz10 ?_;refine aA (vJ (bZ rfl rfl) (by simp)) rfl ?_;refine zz10 ?_;refine aA (zB (bZ rfl rfl) (by simp)) rfl ?_;refine zz7 ?_;refine aA (cZ (c:=c) Tryz.underlying9 rfl rfl rfl rfl) rfl ?_;refine aA (oK (v:=i64 (Lib.countByte s c)) rfl rfl Tryz.func452 bJ bJ bJ (ex:=Extern.BytealgCount.count) bJ (fun w _=>(Lib.run_countString (P:=Tryz.prog) ⟨s.toArray⟩ c.toNat w).trans (by simp))) rfl ?_;refine zz6 ?_;exact⟨rfl,rfl,rfl⟩
theorem aPD(br:Nat)(f:Nat→Value)(tv:Value)(s:aJ)(K:Hl)(hs:s.length≤1000000)(hb:K br=some (aZ (rcs f tv) 470))(hD:Done K 2 f)(ht:Ksl (bN 9) K tv (aED 2)):
    Sp Tryz.prog 448 [ptr br,str s] K [] (Ret fun r K' L'=>r=str (encQ s)∧L'=[]):=by
  have hel:=aDZ s;have hcl:=aDO s;have htl:(aED 2).length=2:=rfl;refine a8 Tryz.func448 rfl Tryz.ntmps448 rfl rfl fun F w=>?_;refine zz17 ?_;refine gV (fun(u:Unit)=>True) (fun _=>[(0,ptr br),(1,str s),(4,str []),(5,i64 (encQ s).length),(6,.bool (posB (cntQ s)))]) (fun _=>K) (fun _=>[]) ?_ ?_
  · refine zz5 ?_;refine aA (aL iS rfl (.known hb) (aK5 _ _)) rfl ?_;refine aA (bO (k:=bN 9) rfl Tryz.underlying39 rfl (.known ht)) rfl ?_;refine zz6 ?_;refine bK 26 rfl (fun h26=>?_) (fun h26=>?_)
    · refine zz5 ?_;refine aA (aL iS rfl (.known hb) (aK5 _ _)) rfl ?_;refine aA (bO (k:=bN 9) rfl Tryz.underlying39 rfl (.known ht)) rfl ?_;refine zz4 ?_;refine eJ (fun(i:Nat)=>i≤2) (fun i=>[(0,ptr br),(1,str s),(4,str []),(5,i64 ((s.length+cntU s i:Nat):Int)),(6,.bool (posB (cntU s i))),(30,tv),(31,i64 2),(32,i64 i)]) (fun _=>K) (fun _=>[]) (fun i=>2 - i) 0 (Nat.zero_le _) (.cons 0 rfl (.cons 1 rfl (.cons 4 rfl (.cons 5 rfl (.cons 6 rfl (.cons 30 rfl (.cons 31 rfl (.cons 32 rfl .nil)))))))) rfl (fun _ h=>h) ?_;intro i hi;refine zz6 ?_;refine bK 33 rfl (fun h33=>?_) (fun h33=>?_)
      · have hi2:i < 2:=aI;have hkg:=bIA hi2;have hkl:(kk i).toNat < 256:=(kk i).toNat_lt;have hcb:=aDS s (kk i);have hcu:=bL5 s i;obtain⟨a0,n0,hfe⟩:∃a n,f (kk i).toNat=.slice (some a) 2 n:=(by rcases aWR hD (kk i)with ⟨_,h,_⟩|⟨h,_⟩;exact h;(rw[bVR]at h;cases h));refine zz6 ?_;refine aA (bE (k:=bN 9) (j:=i) cG rfl (.known ht) rfl rfl aI) rfl ?_;refine aA (dP (o:=0) (k:=bN 9) ts9 rfl (.known ht) hkg rfl) rfl ?_;refine zz7 ?_;refine cF rfl rfl (bGF s (kk i) _) rfl ?_;refine zz9 ?_;refine bK 40 rfl (fun h40=>?_) (fun h40=>?_)
        · refine aH ?_;refine dD (anc:=[0,0,0,0,8,4,36,124,252,508,1020,2046,4095,8191]) (ord:=[0,1,2,3,4,5,6,7,8,9,10,11,12,13]) [] [] mixed gAH (dI _) ?_;refine zz4 ?_;refine aK rfl rfl (.none rfl) rfl rfl (cZ (c:=kk i) Tryz.underlying9 rfl rfl rfl rfl) rfl ?_;refine zz2 ?_;refine aK rfl rfl (.none rfl) rfl rfl (fJ (j:=(kk i).toNat) Tryz.underlying468 jW rfl rfl rfl hkl) rfl ?_;refine aK rfl rfl (.none rfl) rfl rfl (gN (aL jW rfl (.known hb) (uT hkl)) hfe) rfl ?_;refine aK rfl rfl (.none rfl) rfl rfl (wY rfl Tryz.underlying130 rfl) rfl ?_;refine zz15 ?_;have hst:=aM6 (s:=s) hi2
          (refine dF (i + 1) aI aI (.cons 0 rfl (.cons 1 rfl (.cons 4 rfl (.cons 5 ?_ (.cons 6 ?_ (.cons 30 rfl (.cons 31 rfl (.cons 32 rfl .nil)))))))) rfl (fun _ h => h)
           · exact congrArg (fun x:Int=>some (i64 x)) (show _=((s.length+cntU s (i+1):Nat):Int) by rw[hst];omega)
           exact congrArg (fun x:Bool=>some (Value.bool x)) (aK0 aI).symm)
        refine zz7 ?_;have hst:=aM6 (s:=s) hi2
        (refine dF (i + 1) aI aI (.cons 0 rfl (.cons 1 rfl (.cons 4 rfl (.cons 5 ?_ (.cons 6 ?_ (.cons 30 rfl (.cons 31 rfl (.cons 32 rfl .nil)))))))) rfl (fun _ h => h)
         · exact congrArg (fun x:Int=>some (i64 x)) (show _=((s.length+cntU s (i+1):Nat):Int) by rw[hst];omega)
         rw[show cntU s (i+1)=cntU s i from by omega];rfl)
      have hie:i=2:=aI;subst hie;refine zz4 ?_
      (exact cN () trivial (.cons 0 rfl (.cons 1 rfl (.cons 4 rfl (.cons 5 gBV (.cons 6 rfl .nil))))) rfl (fun _ h=>h))
    refine zz6 ?_;refine eJ (fun(i:Nat)=>i≤s.length) (fun i=>[(0,ptr br),(1,str s),(4,str []),(5,i64 ((s.length+cntQ (s.take i):Nat):Int)),(6,.bool (posB (cntQ (s.take i)))),(10,i64 i)]) (fun _=>K) (fun _=>[]) (fun i=>s.length - i) 0 (Nat.zero_le _) (.cons 0 rfl (.cons 1 rfl (.cons 4 rfl (.cons 5 rfl (.cons 6 rfl (.cons 10 rfl .nil)))))) rfl (fun _ h=>h) ?_;intro i hi;refine zz9 ?_;refine bK 58 rfl (fun h58=>?_) (fun h58=>?_)
    · have hlt:i < s.length:=aI;obtain⟨c,hc⟩:∃c,s[i]?=some c:=⟨s[i]'hlt,List.getElem?_eq_getElem hlt⟩;have hkl:c.toNat < 256:=c.toNat_lt;have hst:=bBE hc;have hcq:=aDO (s.take i);rw[List.length_take]at hcq;refine zz12 ?_;rcases aWR hD c with ⟨hq,⟨a0,n0,hfe⟩,_,_⟩|⟨hq,hfe,_⟩
      · refine zz6 ?_;refine aA (fJ (j:=c.toNat) Tryz.underlying468 jW rfl rfl rfl hkl) rfl ?_;refine aA (gN (aL jW rfl (.known hb) (uT hkl)) hfe) rfl ?_;refine aA (uL Tryz.underlying130 rfl) rfl ?_;refine zz10 ?_;refine aA (fJ (j:=c.toNat) Tryz.underlying468 jW rfl rfl rfl hkl) rfl ?_;refine aA (gN (aL jW rfl (.known hb) (uT hkl)) hfe) rfl ?_;refine aA (wY rfl Tryz.underlying130 rfl) rfl ?_;refine zz15 ?_
        (refine dF (i + 1) aI aI (.cons 0 rfl (.cons 1 rfl (.cons 4 rfl (.cons 5 ?_ (.cons 6 ?_ (.cons 10 rfl .nil)))))) rfl (fun _ h => h)
         · exact congrArg (fun x:Int=>some (i64 x)) (show _=((s.length+cntQ (s.take (i+1)):Nat):Int) by rw[hst,if_pos hq];omega)
         exact congrArg (fun x:Bool=>some (Value.bool x)) (aK0 (by rw[hst,if_pos hq];omega)).symm)
      refine zz6 ?_;refine aA (fJ (j:=c.toNat) Tryz.underlying468 jW rfl rfl rfl hkl) rfl ?_;refine aA (gN (aL jW rfl (.known hb) (uT hkl)) hfe) rfl ?_;refine aA (uL Tryz.underlying130 rfl) rfl ?_;refine zz11 ?_
      (refine dF (i + 1) aI aI (.cons 0 rfl (.cons 1 rfl (.cons 4 rfl (.cons 5 ?_ (.cons 6 ?_ (.cons 10 rfl .nil)))))) rfl (fun _ h => h)
       · exact congrArg (fun x:Int=>some (i64 x)) (show _=((s.length+cntQ (s.take (i+1)):Nat):Int) by rw[hst,if_neg (by rw[hq];simp)];omega)
       rw[show cntQ (s.take (i+1))=cntQ (s.take i)from by rw[hst,if_neg (by rw[hq];simp)];rfl];rfl)
    have hie:i=s.length:=aI;subst hie;rw[List.take_length];refine zz4 ?_
    (exact cN () trivial (.cons 0 rfl (.cons 1 rfl (.cons 4 rfl (.cons 5 gBV (.cons 6 rfl .nil))))) rfl (fun _ h=>h))
  intro u _;refine zz4 ?_;refine aA gAF rfl ?_;refine zz2 ?_;refine eO 82 rfl (fun h82=>?_) (fun h82=>?_)
  · have hz:encQ s=s:=bBT (by rcases Nat.eq_zero_or_pos (cntQ s)with h|h;exact h;(rw[aK0 h]at h82;cases h82));refine zz9 ?_;rw[hz];exact⟨_,rfl,rfl,rfl⟩
  refine zz5 ?_;refine cC (bNY (k:=elB 5) (x0:=0) (n:=(encQ s).length) rN tv5 rfl rfl rfl rfl rfl rfl aI aI) rfl ?_;rintro _ K _ ⟨b85,rfl,rfl,rfl⟩ -;refine zz15 ?_;refine eJ (fun(i:Nat)=>i≤s.length) (fun i=>[(0,ptr br),(1,str s),(4,str []),(12,.slice (some ⟨b85,0,none⟩) (encQ s).length (encQ s).length),(13,i64 (encQ (s.take i)).length),(14,i64 i)]) (fun _=>K) (fun i=>[sl false (elB 5) (.slice (some ⟨b85,0,none⟩) (encQ s).length (encQ s).length) (bufQ s i)]) (fun i=>s.length - i) 0 (Nat.zero_le _) (.cons 0 rfl (.cons 1 rfl (.cons 4 rfl (.cons 12 rfl (.cons 13 rfl (.cons 14 rfl .nil)))))) rfl (by rw[bA9];exact fun _ h=>h) ?_;intro i hi;refine zz9 ?_;refine bK 89 rfl (fun h89=>?_) (fun h89=>?_)
  · have hlt:i < s.length:=aI;obtain⟨c,hc⟩:∃c,s[i]?=some c:=⟨s[i]'hlt,List.getElem?_eq_getElem hlt⟩;have hkl:c.toNat < 256:=c.toNat_lt;have hbl:=aR9 s i;have hbr:=aMZ hc;have hbp:=aD0 s i;refine zz12 ?_;rcases aWR hD c with ⟨hq,⟨a0,n0,hfe⟩,hqk,hql⟩|⟨hq,hfe,hqb⟩
    · refine zz6 ?_;refine aA (fJ (j:=c.toNat) Tryz.underlying468 jW rfl rfl rfl hkl) rfl ?_;refine aA (gN (aL jW rfl (.known hb) (uT hkl)) hfe) rfl ?_;refine aA (uL Tryz.underlying130 rfl) rfl ?_;refine zz3 ?_;refine dD (anc:=[0,0,0,6,0,0,16,80,240,496,1022,2047,4095]) (ord:=[0,1,2,3,4,5,6,7,8,9,10,11,12]) [10] [] mixed gAH .nil ?_;refine zz3 ?_;refine aK rfl rfl (.none rfl) rfl rfl (aJU (m:=(encQ (s.take i)).length) kR rfl rfl rfl aI) rfl ?_;refine zz4 ?_;refine aK rfl rfl (.none rfl) rfl rfl (fJ (j:=c.toNat) Tryz.underlying468 jW rfl rfl rfl hkl) rfl ?_;refine aK rfl rfl (.none rfl) rfl rfl (aL jW rfl (.known hb) (uT hkl)) rfl ?_;refine sY rfl rfl (.none rfl) rfl rfl (bJ1 (k:=elB 5) (j:=(encQ (s.take i)).length) (ys:=nL c) Tryz.underlying130 bJ rfl rfl .here (.known hqk) (by intro h;rw[h]at hql;simp at hql) aI) rfl ?_;rintro _ K _ ⟨rfl,rfl,rfl⟩ -;refine⟨_,(show Tks _ _ _ from .nil).sat,?_⟩
      refine zz10 ?_
      (refine dF (i + 1) aI aI (.cons 0 rfl (.cons 1 rfl (.cons 4 rfl (.cons 12 rfl (.cons 13 ?_ (.cons 14 rfl .nil)))))) rfl (by rw [← aM0 hc]; exact fun _ h => h)
       exact congrArg (fun x:Int=>some (i64 x)) (show _=((encQ (s.take (i+1))).length:Int) by rw[aAZ hc,List.length_append];omega))
    refine zz6 ?_;refine aA (fJ (j:=c.toNat) Tryz.underlying468 jW rfl rfl rfl hkl) rfl ?_;refine aA (gN (aL jW rfl (.known hb) (uT hkl)) hfe) rfl ?_;refine aA (uL Tryz.underlying130 rfl) rfl ?_;refine zz8 ?_;refine aA (bE (k:=elB 5) (j:=(encQ (s.take i)).length) kR rfl (.own .here) rfl rfl (by rw[hqb]at hbr;simp at hbr;omega)) rfl ?_;refine cA (vU (k:=elB 5) (j:=(encQ (s.take i)).length) (y0:=c) (xs:=bufQ s i) ts5 rfl rfl rfl rfl (by rw[hqb]at hbr;simp at hbr;omega) .here) ?_;rintro _ K _ ⟨rfl,rfl⟩ -;refine zz14 ?_
    (refine dF (i + 1) aI aI (.cons 0 rfl (.cons 1 rfl (.cons 4 rfl (.cons 12 rfl (.cons 13 ?_ (.cons 14 rfl .nil)))))) rfl (by rw [← bF3 hc hqb]; exact fun _ h => h)
     exact congrArg (fun x:Int=>some (i64 x)) (show _=((encQ (s.take (i+1))).length:Int) by rw[aAZ hc,List.length_append,hqb,List.length_singleton];omega))
  have hie:i=s.length:=aI;subst hie;rw[bF2];refine zz8 ?_;refine uBa ?_;refine zz4 ?_;refine uAl ?_;refine zz1 ?_;exact⟨_,rfl,rfl,rfl⟩
end Go.Proofs
end
section
attribute [local irreducible] Go.SL.T Go.SL.OL Go.SL.D Go.SL.DL Go.SL.Ev Go.SL.Ef Go.SL.EfS
namespace Go.Proofs
open Go Go.SL
theorem aL3:aVY Tryz.prog 134 3 132=true:=by kernel_rfl
abbrev aT7(b:Nat)(dp:Int)(q:Bool)(v:Value):Asn:=pt b (aZ [if q then ptr b else .pointer none,v,i64 dp] 134)
abbrev pbl(b:Nat)(dp:Int)(xs:List UInt8):Asn:=exA fun v:Value=>[exA fun q:Bool=>[aT7 b dp q v],sl true (elB 5) v xs]
theorem bNL(b:Nat)(dp:Int):∀h,pt b (aZ [.pointer none,.slice none 0 0,i64 dp] 134) h→Sat [pbl b dp []] h:=by
 intro h hh;refine oW.2 ⟨.slice none 0 0,oW.2 ⟨false,h,.emp,hh,⟨.emp,.emp,.inl ⟨rfl,rfl,rfl⟩,rfl,Hl.dj_emp _,(Hl.join_emp _).symm⟩,Hl.dj_emp _,(Hl.join_emp _).symm⟩⟩
theorem bJA(b:Nat)(dp:Int)(v:Value)(xs:List UInt8):∀h,Sat [aT7 b dp true v,sl true (elB 5) v xs] h→Sat [pbl b dp xs] h:=by
 intro h hh;exact oW.2 ⟨v,oW.2 ⟨true,hh⟩⟩
theorem bJB(b:Nat)(dp:Int):∀h,pt b (aZ [.pointer none,.slice none 0 0,i64 dp] 134) h→pbl b dp [] h:=by
 intro h hh;obtain⟨a,l,ha,hl,hd,he⟩:=bNL b dp h hh;rw[he,show l=.emp from hl,Hl.join_emp];exact ha
theorem aIA(b:Nat)(dp:Int)(q:Bool)(v:Value)(K:Hl):Sp Tryz.prog 196 [ptr b] K [aT7 b dp q v] (Ret fun u K' L'=>u=.tuple #[]∧K'=K∧L'=[aT7 b dp true v]):=by
 cases q with
 |true=>
  refine a8 Tryz.func196 rfl Tryz.ntmps196 rfl rfl fun F w=>?_;refine zz17 ?_;refine aA (aHF Tryz.underlying129 xZ rfl rfl) rfl ?_;refine zz5 ?_;exact⟨_,rfl,rfl,rfl,rfl⟩
 |false=>
  refine a8 Tryz.func196 rfl Tryz.ntmps196 rfl rfl fun F w=>?_;refine zz13 ?_;refine aA (aMJ Tryz.underlying129 Tryz.underlying185 rfl (.own .here) aL3) rfl ?_;refine aA (oK rfl rfl Tryz.func272 bJ bJ bJ (ex:=Extern.AbiNoEscape.same) bJ (fun _ _=>rfl)) rfl ?_;refine aA (aH8 Tryz.underlying185 Tryz.underlying129 rfl (.own .here) aL3) rfl ?_;refine zz2 ?_;refine cA (bP aH4 rfl rfl cJ bF .zero rfl) ?_;rintro _ K _ ⟨rfl,rfl⟩ -;refine zz2 ?_;exact⟨_,rfl,rfl,rfl,rfl⟩
theorem aEP(b:Nat)(dp:Int)(s:List UInt8)(xs:List UInt8)(hn:xs.length+s.length≤140737488351232)(K:Hl):Sp Tryz.prog 109 [ptr b,str s] K [pbl b dp xs] (Ret fun u K' L'=>u=.tuple #[i64 s.length,.nilIface]∧K'=K∧L'=[pbl b dp (xs++s)]):=by
 refine a8 Tryz.func109 rfl Tryz.ntmps109 rfl rfl fun F w=>?_;refine vY fun v=>vY fun q=>?_;refine zz9 ?_;refine aX rfl rfl (aIA b dp q v _) (.cons .here .nil) rfl ?_;rintro _ K _ ⟨rfl,rfl,rfl⟩ -;refine zz10 ?_;refine cC (dN (k:=(elB 5)) (ys:=s) rN rfl rfl bF (fun _ _=>aC2 Tryz.underlying9) aI aI) rfl ?_;rintro v14 K _ ⟨rfl,rfl,ho14⟩ -;refine zz2 ?_;refine uBl ?_;rintro _ K _ ⟨rfl,rfl⟩ -;refine zz11 ?_;refine uAp ?_;refine fK (bJA b dp v14 (xs++s)) ?_;refine fA rfl rfl rfl (Hl.le_refl _) ?_;exact⟨_,rfl,rfl,rfl,rfl⟩
theorem aQS(b:Nat)(dp:Int)(xs:List UInt8)(hn:xs.length≤140737488351232)(K:Hl):Sp Tryz.prog 63 [ptr b] K [pbl b dp xs] (Ret fun u K' L'=>u=str xs∧K'=K∧L'=[]):=by
 refine a8 Tryz.func63 rfl Tryz.ntmps63 rfl rfl fun F w=>?_;refine vY fun v=>vY fun q=>?_;refine zz6 ?_;refine dD (anc:=[0,1,3,7,15,0,32,96,224,480,1023,2047]) (ord:=[0,1,2,3,4,5,6,7,8,9,10,11]) [10] [10] mixed gAH (dI _) ?_;refine zz4 ?_;refine aK rfl rfl (.none rfl) rfl rfl (aD3 (e:=5) rfl (.there .here)) rfl ?_;refine zz4 ?_;refine aK rfl rfl (.none rfl) rfl rfl (bO (k:=(elB 5)) rfl Tryz.underlying130 rfl aM) rfl ?_;refine aSJ rfl rfl (.none rfl) rfl (zS (e:=5) rfl Tryz.underlying227 aM3 aI rfl rfl (.there .here)) rfl ?_;rintro _ K _ ⟨rfl,rfl,rfl⟩ -;refine zz4 ?_;refine uAl ?_;refine zz1 ?_;exact⟨_,rfl,rfl,rfl,rfl⟩
end Go.Proofs
end
section
attribute [local irreducible] Go.SL.T Go.SL.OL Go.SL.D Go.SL.DL Go.SL.Ev Go.SL.Ef Go.SL.EfS
namespace Go.Proofs
open Go Go.SL Go.Syn
theorem bMR{texts:List aJ}{i:Nat}:((texts.take i).flatten).length≤texts.flatten.length:=by
 have:texts.flatten=(texts.take i).flatten++(texts.drop i).flatten:=by rw[←List.flatten_append,List.take_append_drop]
 rw[this,List.length_append];omega
theorem aNH{texts:List aJ}{i:Nat}{s:aJ}(h:texts[i]?=some s):(texts.take (i+1)).flatten=(texts.take i).flatten++s:=by
 have hi:=jF h;rw[List.getElem?_eq_getElem hi]at h;cases h
 rw[List.take_succ_eq_append_getElem hi,List.flatten_append];simp
theorem bDM(b:Nat)(dp:Int)(v:Value)(xs:aJ)(texts:List aJ)(K:Hl)(hv:Ksl (bN 9) K v texts)(hn:xs.length+texts.flatten.length≤140737488351232)(hl:texts.length≤1000000):
  Sp Tryz.prog 60 [ptr b,v] K [pbl b dp xs] (Ret fun r K' L'=>r=.tuple #[]∧K'=K∧L'=[pbl b dp (xs++texts.flatten)]):=by
 refine a8 Tryz.func60 rfl Tryz.ntmps60 rfl rfl fun F w=>?_;refine zz3 ?_;refine aA (bO (k:=bN 9) rfl Tryz.underlying39 rfl (.known hv)) rfl ?_;refine zz4 ?_;refine eJ (fun(i:Nat)=>i≤texts.length) (fun i=>[(0,ptr b),(6,v),(7,i64 texts.length),(8,i64 i)]) (fun _=>K) (fun i=>[pbl b dp (xs++(texts.take i).flatten)]) (fun i=>texts.length - i) 0 (Nat.zero_le _) (.cons 0 rfl (.cons 6 rfl (.cons 7 rfl (.cons 8 rfl .nil)))) rfl (fun _ h=>by simpa using h) ?_;intro i hi;refine zz6 ?_;refine bK 9 rfl (fun h9=>?_) (fun h9=>?_)
 ·have hlt:i < texts.length:=by omega
  obtain⟨s,hs⟩:∃s,texts[i]?=some s:=⟨texts[i]'hlt,List.getElem?_eq_getElem hlt⟩;have hfl:((texts.take (i+1)).flatten).length≤texts.flatten.length:=bMR;rw[aNH hs,List.length_append]at hfl;refine zz6 ?_;refine aA (bE (k:=bN 9) (j:=i) cG rfl (.known hv) rfl rfl hlt) rfl ?_;refine aA (dP (o:=0) (k:=bN 9) ts9 rfl (.known hv) hs rfl) rfl ?_;refine zz8 ?_;refine aX rfl rfl (aEP b dp s _ gAU _) (.cons .here .nil) rfl ?_;rintro _ K _ ⟨rfl,rfl,rfl⟩ -;refine zz7 ?_;refine dF (i+1) aI aI (.cons 0 rfl (.cons 6 rfl (.cons 7 rfl (.cons 8 rfl .nil)))) rfl (fun _ h=>by rw[aNH hs,←List.append_assoc];exact h)
 have hie:i=texts.length:=by omega
 subst hie;rw[List.take_length];refine zz5 ?_;exact⟨_,rfl,rfl,rfl,rfl⟩
theorem bOE(texts:List aJ):(bN 9).cs texts=texts.map str:=by
 induction texts with
 |nil=>rfl
 |cons x r ih=>show str x::(bN 9).cs r=_;rw[ih];rfl
theorem gR(b bs n:Nat)(dp:Int)(xs:aJ)(texts:List aJ)(cells:List Value)(K:Hl)(fz:Nat×Nat)(hc:cells=texts.map str)(hn2:n=texts.length)(hn:xs.length+texts.flatten.length≤140737488351232)(hl:texts.length≤1000000):
  Sp Tryz.prog 60 [ptr b,.slice (some ⟨bs,0,none⟩) n n] K [pt bs (aZ cells 9 fz),pbl b dp xs] (Ret fun r K' L'=>r=.tuple #[]∧L'=[pbl b dp (xs++texts.flatten)]):=by
 subst hc hn2;refine aGK ⟨_,Tryz.func60,rfl,rfl⟩ fun K' le' hk=>?_;refine(bDM b dp _ xs texts K' (.inr ⟨bs,0,texts.length,_,fz,rfl,⟨_,hk⟩,?_⟩) hn hl).mono fun e K2 L2 ⟨v,h1,h2,h3,h4⟩=>⟨v,h1,h2,h4⟩
 rw[bOE];exact List.take_of_length_le (by simp[bN])
end Go.Proofs
end
section
attribute [local irreducible] Go.SL.T Go.SL.OL Go.SL.D Go.SL.DL Go.SL.Ev Go.SL.Ef Go.SL.EfS
set_option maxRecDepth 4000
namespace Go.Proofs
open Go Go.SL Go.Syn
theorem aPE(b:Nat)(dn st:Int)(x2 rv ov:Value)(K:Hl)(hov:Ksl (bN 9) K ov olds):Sp Tryz.prog 274 [ptr b] K [rpl b dn st x2 rv ov]
  (Ret fun r K' L'=>r=.tuple #[]∧∃rv' ov',bFL K' rv' ov'∧L'=[rpl b dn st x2 rv' ov']):=by
 refine a8 Tryz.func274 rfl Tryz.ntmps274 rfl rfl fun F w=>?_;refine zz4 ?_;refine aX rfl rfl (bDR b dn st x2 rv ov _ hov) (.cons .here .nil) rfl ?_;rintro _ K2 _ ⟨⟨br,f,tv,rfl,h1,h2,h3⟩,rfl⟩ le2;refine zz2 ?_;refine cA (bP ts398 rfl rfl cJ bF (.succ (.succ (.succ .zero))) rfl) ?_;rintro _ K _ ⟨rfl,rfl⟩ -;refine zz6 ?_;refine uBe ?_;rintro _ K _ ⟨rfl,rfl⟩ -;refine aG ?_;refine dK rfl le2 ?_;exact⟨_,rfl,rfl,_,_,⟨br,f,tv,rfl,h1,h2,h3⟩,rfl⟩
theorem aKR(v:Value)(K:Hl)(hv:Ksl (bN 9) K v olds):Sp Tryz.prog 197 [v] K [] (Ret fun r K' L'=>∃b ov,r=ptr b∧Ksl (bN 9) K' ov olds∧L'=[rpl b 0 0 (.int .u32 0) .nilIface ov]):=by
 refine a8 Tryz.func197 rfl Tryz.ntmps197 rfl rfl fun F w=>?_;refine zz9 ?_;refine aA (bO (k:=bN 9) rfl Tryz.underlying39 rfl (.known hv)) rfl ?_;refine aA (gN (v:=i64 0) (aPT rfl rfl (by decide)) rfl) rfl ?_;refine aA (vJ (bZ rfl rfl) (by decide)) rfl ?_;refine zz8 ?_;refine kB (eF (bN 9)) ?_;refine cC (dN (k:=(bN 9)) (ys:=olds) fS rfl rfl bF (fun w j=>dE Tryz.underlying39 (SeesSl.at (k:=bN 9) (.known hv) j)) (by show (0+4)*16≤_;decide) (by show 0+4≤_;decide)) rfl ?_;rintro v9 K _ ⟨rfl,rfl,ho9⟩ -;refine gX fun K2 le2 hS=>?_;obtain⟨sa,sn,sc,rfl⟩:=hS.isSlice;refine aA (cL tb400 tb400f (.cons rfl rfl rfl (.skip (.skip (.skip (.skip (.cons .nil))))) .nil)) rfl ?_;refine zz1 ?_;rintro _ K _ ⟨b11,rfl,rfl,rfl⟩ -;refine zz4 ?_;refine bD rfl rfl le2 ?_;exact⟨_,rfl,_,_,rfl,hS,rfl⟩
theorem bBU:∃fn,Tryz.prog.funcs[274]?=some fn∧(fn.name== "runtime.NumGoroutine")=false∧fn.body.isSome=true:=⟨_,Tryz.func274,rfl,rfl⟩
theorem aUB(b:Nat)(ov:Value)(s:aJ)(K:Hl)(hs:s.length≤1000000)(hov:Ksl (bN 9) K ov olds):Sp Tryz.prog 198 [ptr b,str s] K [rpl b 0 0 (.int .u32 0) .nilIface ov] (Ret fun r K' L'=>r=str (encQ s)):=by
 refine a8 Tryz.func198 rfl Tryz.ntmps198 rfl rfl fun F w=>?_;refine zz12 ?_;refine aX rfl rfl (bTB _ bBU _ bFL (fun K1 le=>aPE b 0 1 _ _ _ K1 (hov.mono le))) (.cons .here .nil) rfl ?_;rintro _ K2 _ ⟨rfl,rv2,ov2,⟨br,f,tv,rfl,h1,h2,h3⟩,rfl⟩ le2;refine zz9 ?_;refine jA rfl rfl (bIG br) (aPD br f tv s _ hs h1 h2 h3) .nil rfl ?_;rintro _ K3 _ ⟨rfl,rfl⟩ le3;refine zz4 ?_;refine bD rfl rfl (Hl.le_trans le2 le3) ?_;exact⟨_,rfl,rfl⟩
theorem aEQ(s:aJ)(K:Hl)(hs:s.length≤1000000):Sp Tryz.prog 110 [str s] K [] (Ret fun r K' L'=>r=str (iI s)∧L'=[]):=by
 have hel:=aDZ s;have hcl:=aDO s;refine a8 Tryz.func110 rfl Tryz.ntmps110 rfl rfl fun F w=>?_;refine zz7 ?_;refine cC (bH (z0:=[(str []),(str []),(str []),(str [])]) cG tz9 rfl rfl rfl rfl (.cons rfl rfl rfl (.cons .nil) (.cons rfl rfl rfl (.skip (.cons .nil)) (.cons rfl rfl rfl (.skip (.skip (.cons .nil))) (.cons rfl rfl rfl (.skip (.skip (.skip (.cons .nil)))) .nil))))) rfl ?_;rintro _ K _ ⟨b3,rfl,rfl,rfl⟩ -;refine fT fun K1 le1 hb=>?_;refine aX rfl rfl (aKR _ _ (.inr ⟨b3,0,4,_,_,rfl,⟨_,hb⟩,rfl⟩)) .nil rfl ?_;rintro _ K2 _ ⟨b4,ov,rfl,hov,rfl⟩ le2;refine zz1 ?_;refine aX rfl rfl (aUB b4 ov s _ hs hov) (.cons .here .nil) rfl ?_;rintro _ K3 L3 rfl le3;refine aA (cW rfl rfl gAE) rfl ?_;refine aA (cW rfl rfl gAE) rfl ?_;refine zz4 ?_;refine uAl ?_;refine bD rfl rfl (Hl.le_trans le1 (Hl.le_trans le2 le3)) ?_;exact⟨_,rfl,rfl,rfl⟩
end Go.Proofs
end
section
attribute [local irreducible] Go.SL.T Go.SL.OL Go.SL.D Go.SL.DL Go.SL.Ev Go.SL.Ef Go.SL.EfS
set_option maxRecDepth 4000
namespace Go.Proofs
open Go Go.SL Go.Syn
theorem bRB(x y:Nat)(K:Hl)(hx:x < 18446744073709551616)(hy:y < 18446744073709551616):Sp Tryz.prog 200 [.int .u64 x,.int .u64 y] K [] (Val (.tuple #[.int .u64 ((x*y / 18446744073709551616:Nat):Int),.int .u64 ((x*y % 18446744073709551616:Nat):Int)]) K):=
 nQ ⟨_,Tryz.func200,rfl,rfl⟩ fun w hw=>(Tryz.bits_Mul x y hx hy w).mono fun e w' ⟨he,hw'⟩=>⟨he,by rw[hw'];exact RowKit.Below.refl _ _⟩
theorem aP4(s p:aJ)(K:Hl)(h:p.length≤s.length)(he:s.take p.length=p):Sp Tryz.prog 201 [str s,str p] K [] (Val (.bool true) K):=by
 have tH:∀K,Sp Tryz.prog 278 [str s,str p] K [] (Val (.bool true) K):=by
  intro K;refine a8 Tryz.func278 rfl Tryz.ntmps278 rfl rfl fun F w=>?_;refine zz11 ?_;refine aA (zB (iQ rfl rfl) aI) rfl ?_;refine zz8 ?_;refine aA (fB (n:=p.length) Tryz.underlying9 rfl rfl rfl aI) rfl ?_;refine zz3 ?_;refine aA (zB (lX rfl rfl) he) rfl ?_;refine zz6 ?_;exact⟨rfl,rfl,rfl⟩
 refine a8 Tryz.func201 rfl Tryz.ntmps201 rfl rfl fun F w=>?_;refine zz9 ?_;refine cF rfl rfl (tH _) rfl ?_;refine zz5 ?_;exact⟨rfl,rfl,rfl⟩
def aLM:aJ:=List.replicate 128 32
theorem aJ6:∀d,indC d=List.replicate (2*d) 32
 |0=>rfl
 |d+1=>by rw[indC,aJ6 d,show 2*(d+1)=(2*d+1)+1 from by omega,List.replicate_succ,List.replicate_succ];rfl
theorem aU3{d:Nat}(h:d≤64):aLM.take (2*d)=indC d:=by rw[aJ6,aLM,List.take_replicate,Nat.min_eq_left aI]
theorem aOB(d:Nat)(hd:d≤64)(K:Hl):Sp Tryz.prog 112 [str [32,32],i64 d] K [] (Val (str (indC d)) K):=by
 refine a8 Tryz.func112 rfl Tryz.ntmps112 rfl rfl fun F w=>?_;refine zz18 ?_;refine bK 12 rfl (fun h12=>?_) (fun h12=>?_)
 ·refine zz9 ?_;rw[show d=0 from by omega];exact⟨rfl,rfl,rfl⟩
 refine zz6 ?_;refine bK 14 rfl (fun h14=>?_) (fun h14=>?_)
 ·refine zz10 ?_;rw[show d=1 from by omega];exact⟨rfl,rfl,rfl⟩
 refine zz7 ?_;refine aA (vJ (cP rfl rfl) aI) rfl ?_;refine zz9 ?_;refine aA (gN (v:=.int .u64 ((2:Nat):Int)) (kO Tryz.underlying257 Tryz.underlying3 rfl) (by rfl)) rfl ?_;refine zz1 ?_;refine aA (gN (v:=.int .u64 (d:Int)) (kO Tryz.underlying257 Tryz.underlying3 rfl) (by congr 1;unfold IntKind.wrap IntKind.bits IntKind.signed;simp;omega)) rfl ?_;refine cF rfl rfl (bRB 2 d _ (by decide) aI) rfl ?_;refine zz11 ?_;refine aA (vJ (gD rfl rfl) (by have:2*d / 18446744073709551616=0:=Nat.div_eq_of_lt aI;omega)) rfl ?_;refine zz4 ?_;refine aA (vJ (gD rfl rfl) (by have:=Nat.mod_lt (2*d) (show 0 < 18446744073709551616 by decide);have:=Nat.mod_le (2*d) 18446744073709551616;omega)) rfl ?_;refine zz9 ?_;refine aA (gN (v:=i64 ((2*d:Nat):Int)) (zC Tryz.underlying3 Tryz.underlying257 rfl aI (by have:=Nat.mod_le (2*d) 18446744073709551616;omega)) (by rw[Nat.mod_eq_of_lt aI])) rfl ?_;refine zz8 ?_;refine aA (vJ (bZ rfl rfl) (by decide)) rfl ?_;refine zz9 ?_;refine aA (cZ (c:=32) Tryz.underlying9 rfl rfl rfl rfl) rfl ?_;refine zz6 ?_;refine aA (zB (bZ rfl rfl) (by decide)) rfl ?_;refine zz11 ?_;refine aA (zB (iW rfl rfl) aI) rfl ?_;refine zz4 ?_;refine cF rfl rfl (aP4 aLM [32,32] _ (by decide) rfl) rfl ?_;refine zz8 ?_;refine aA (fB (n:=2*d) (l:=aLM) Tryz.underlying9 rfl rfl rfl (by simp[aLM];omega)) rfl ?_;refine zz8 ?_;rw[aU3 hd];exact⟨rfl,rfl,rfl⟩
end Go.Proofs
end
section
attribute [local irreducible] Go.SL.T Go.SL.OL Go.SL.D Go.SL.DL Go.SL.Ev Go.SL.Ef Go.SL.EfS
set_option maxRecDepth 4000
namespace Go.Proofs
open Go Go.SL Go.Syn
theorem bHS(b n:Nat)(K:Hl)(hn:n≤140737488351232):Sp Tryz.prog 275 [ptr b,i64 n] K [aDH b true nilS] (Ret fun u K' L'=>u=.tuple #[]∧K'=K∧∃c cs,L'=[aDH b true (.slice (some ⟨c,0,none⟩) 0 (List.length cs)),pt c (aZ cs 5)]):=by
 refine a8 Tryz.func275 rfl Tryz.ntmps275 rfl rfl fun F w=>?_;refine aH ?_;refine dD (anc:=[0,1,3,7,15,31,0,127,255,0,512,1536,3584,7680,16383,32767]) (ord:=[0,1,2,3,4,5,6,7,9,10,11,12,13,8,14,15]) [8] [] mixed gAH (.cons .here .nil) ?_;refine zz4 ?_;refine aK rfl rfl (.none rfl) rfl rfl (aJP rfl Tryz.underlying130 rfl) rfl ?_;refine aK rfl rfl (.none rfl) rfl rfl (gN (v:=i64 0) (s6 rfl rfl (by decide) (by decide)) rfl) rfl ?_;refine zz1 ?_;refine aK rfl rfl (.none rfl) rfl rfl (gN (v:=i64 n) (bW rfl rfl aI aI) (by rw[Int.zero_add])) rfl ?_;refine zz4 ?_;refine aK rfl rfl (.none rfl) rfl rfl (wY rfl Tryz.underlying130 rfl) rfl ?_;refine sY rfl rfl (.none rfl) rfl rfl (bUD (n:=n) (ps:= #[3]) (t:=130) rfl rfl Tryz.func315 bJ bJ bJ bJ Tryz.underlying130 aI) rfl ?_;rintro _ K _ ⟨c,cs,hcs,rfl,rfl,rfl⟩ -;refine⟨_,(show Tks _ _ _ from .cons (.there .here) .nil).sat,?_⟩
 refine aK rfl rfl (.none rfl) rfl rfl (aPV (m:=0) kR rfl rfl rfl aI) rfl ?_;refine zz10 ?_;refine aA (aWY Tryz.underlying130 bJ rfl rfl) rfl ?_;refine zz7 ?_;refine uBl ?_;rintro _ K _ ⟨rfl,rfl⟩ -;refine zz2 ?_;exact⟨_,rfl,rfl,rfl,c,cs,rfl⟩
def bldg(b:Nat)(L:List Asn):Prop:=∃c cs,L=[aDH b true (.slice (some ⟨c,0,none⟩) 0 (List.length cs)),pt c (aZ cs 5)]
theorem bHR(b n:Nat)(K:Hl)(hn:n≤140737488351232)(h0:0 < n):Sp Tryz.prog 199 [ptr b,i64 n] K [aDH b false nilS] (Ret fun u K' L'=>u=.tuple #[]∧K'=K∧bldg b L'):=by
 refine a8 Tryz.func199 rfl Tryz.ntmps199 rfl rfl fun F w=>?_;refine zz3 ?_;refine aX rfl rfl (pV b false nilS _) (.cons .here .nil) rfl ?_;rintro _ K _ ⟨rfl,rfl,rfl⟩ -;refine zz6 ?_;refine aA (vJ (cP rfl rfl) aI) rfl ?_;refine zz6 ?_;refine dD (anc:=[0,1,3,7,15,0,32,96,224,480,1023,0,4095]) (ord:=[0,1,2,3,4,5,6,7,8,9,10,11,12]) [] [] mixed gAH (dI _) ?_;refine zz4 ?_;refine aK rfl rfl (.none rfl) rfl rfl (aJP rfl Tryz.underlying130 rfl) rfl ?_;refine zz4 ?_;refine aK rfl rfl (.none rfl) rfl rfl (wY rfl Tryz.underlying130 rfl) rfl ?_;refine zz2 ?_;refine aK rfl rfl (.none rfl) rfl rfl (zB (cP rfl rfl) aI) rfl ?_;refine zz6 ?_;refine aX rfl rfl (bHS b n _ hn) (.cons .here .nil) rfl ?_;rintro _ K _ ⟨rfl,rfl,c,cs,rfl⟩ -;refine zz2 ?_;exact⟨_,rfl,rfl,rfl,c,cs,rfl⟩
theorem bN7{e:TypeId}{c:Nat}{cs:List Value}{L:List Asn}:∀h,Sat (pt c (aZ cs e)::L) h→Sat (sl false (elB e) (.slice (some ⟨c,0,none⟩) 0 cs.length) []::L) h:=by
 rintro h ⟨a,l,ha,hl,hd,he⟩;refine⟨a,l,?_,hl,hd,he⟩
 exact .inr ⟨c,cs.length,cs,(0,0),rfl,(fun h=>by cases h),Nat.zero_le _,by simp[wR],.inl (Nat.le_refl _),by simpa[El.cs,pt,wR]using ha⟩
theorem bEJ{e:TypeId}{v:Value}{xs:aJ}{L:List Asn}(h0:xs≠[]):∀h,Sat (sl false (elB e) v xs::L) h→Sat (sl true (elB e) v xs::L) h:=by
 rintro h ⟨a,l,ha,hl,hd,he⟩;refine⟨a,l,?_,hl,hd,he⟩
 rcases ha with ⟨_,h1,_⟩|⟨b,cap,junk,fz,h1,h2,h3⟩
 ·exact absurd h1 h0
 exact .inr ⟨b,cap,junk,fz,h1,fun _=>h0,h3⟩
theorem bCB(b c:Nat)(cs:List Value)(s:aJ)(K:Hl)(h0:s≠[])(hn:s.length≤140737488351232):Sp Tryz.prog 109 [ptr b,str s] K [aDH b true (.slice (some ⟨c,0,none⟩) 0 cs.length),pt c (aZ cs 5)] (Ret fun u K' L'=>u=.tuple #[i64 s.length,.nilIface]∧K'=K∧L'=[bldr b s]):=by
 refine a8 Tryz.func109 rfl Tryz.ntmps109 rfl rfl fun F w=>?_;refine kF (fun h hh=>bN7 h (fL hh)) ?_;refine zz9 ?_;refine aX rfl rfl (pV b true _ _) (.cons (.there .here) .nil) rfl ?_;rintro _ K _ ⟨rfl,rfl,rfl⟩ -;refine zz10 ?_;refine cC (dN (k:=(elB 5)) (ys:=s) rN rfl rfl bF (fun _ _=>aC2 Tryz.underlying9) gAI gAI) rfl ?_;rintro v14 K _ ⟨rfl,rfl,ho14⟩ -;refine zz2 ?_;refine uBl ?_;rintro _ K _ ⟨rfl,rfl⟩ -;refine zz11 ?_;rw[List.nil_append];refine fK (bEJ h0) ?_;refine uAp ?_;refine fK (aFH b v14 s) ?_;refine fA rfl rfl rfl (Hl.le_refl _) ?_;exact⟨_,rfl,rfl,rfl,rfl⟩
def aB0(sep x:aJ)(r:List aJ):aJ:=x++r.flatMap (sep++ ·)
theorem aKE(sep:aJ):∀(x:aJ) (r:List aJ),yD sep (x::r)=aB0 sep x r
 |x,[]=>by simp[yD,aB0]
 |x,y::r=>by rw[yD,aKE sep y r];simp[aB0,List.append_assoc]
theorem aXK{sep x:aJ}{r:List aJ}{i:Nat}{y:aJ}(h:r[i]?=some y):aB0 sep x (r.take (i+1))=aB0 sep x (r.take i)++sep++y:=by
 have hi:i < r.length:=by
  rcases Nat.lt_or_ge i r.length with h'|h'
  ·exact h'
  rw[List.getElem?_eq_none h']at h;cases h
 rw[List.getElem?_eq_getElem hi]at h;cases h
 rw[List.take_succ_eq_append_getElem hi];unfold aB0;rw[List.flatMap_append];simp only[List.flatMap_cons,List.flatMap_nil,List.append_nil,List.append_assoc]
def lenT(texts:List aJ):Nat:=(texts.map List.length).sum
theorem aF1{texts:List aJ}{i:Nat}{y:aJ}(h:texts[i]?=some y):lenT (texts.take (i+1))=lenT (texts.take i)+y.length:=by
 have hi:i < texts.length:=by
  rcases Nat.lt_or_ge i texts.length with h'|h'
  ·exact h'
  rw[List.getElem?_eq_none h']at h;cases h
 rw[List.getElem?_eq_getElem hi]at h;cases h
 rw[List.take_succ_eq_append_getElem hi];unfold lenT;rw[List.map_append,List.sum_append];simp
theorem aTI(texts:List aJ)(i:Nat):lenT (texts.take i)≤lenT texts:=by
 have:lenT texts=lenT (texts.take i)+lenT (texts.drop i):=by
  conv=>lhs;rw[←List.take_append_drop i texts]
  unfold lenT;rw[List.map_append,List.sum_append]
 omega
theorem aF0(sep x:aJ)(r:List aJ):(aB0 sep x r).length=x.length+lenT r+sep.length*r.length:=by
 unfold aB0 lenT;rw[List.length_append];induction r with
 |nil=>simp
 |cons y r ih=>
  rw[List.flatMap_cons,List.length_append,List.length_append,List.map_cons,List.sum_cons,List.length_cons,Nat.mul_succ];omega
theorem bM7(v:Value)(texts:List aJ)(sep:aJ)(K:Hl)(hv:Ksl (bN 9) K v texts)(hf:aIZ v)(h0:∀x∈texts,x≠[])(hs:0 < sep.length∧sep.length≤1000)(hl:texts.length≤100000)(ht:lenT texts≤1000000000):
  Sp Tryz.prog 111 [v,str sep] K [] (Ret fun r K' L'=>r=str (yD sep texts)∧K'=K∧L'=[]):=by
 refine a8 Tryz.func111 rfl Tryz.ntmps111 rfl rfl fun F w=>?_;refine zz9 ?_;refine aA (bO (k:=bN 9) rfl Tryz.underlying39 rfl (.known hv)) rfl ?_;refine zz9 ?_;refine bK 13 rfl (fun h13=>?_) (fun h13=>?_)
 ·refine zz9 ?_;have e:texts=[]:=List.length_eq_zero_iff.1 aI;rw[e];exact⟨_,rfl,rfl,rfl,rfl⟩
 refine zz6 ?_;refine bK 15 rfl (fun h15=>?_) (fun h15=>?_)
 ·obtain⟨x,hx⟩:∃x,texts=[x]:=List.length_eq_one_iff.1 aI;have hx0:texts[0]?=some x:=by rw[hx];rfl
  refine zz3 ?_;refine aA (bE (k:=bN 9) (j:=0) cG rfl (.known hv) rfl rfl aI) rfl ?_;refine aA (dP (o:=0) (k:=bN 9) ts9 rfl (.known hv) hx0 rfl) rfl ?_;refine zz7 ?_;rw[hx];exact⟨_,rfl,rfl,rfl,rfl⟩
 refine zz13 ?_;refine aA (zB (gD rfl rfl) aI) rfl ?_;refine zz9 ?_;refine aA (bO (k:=bN 9) rfl Tryz.underlying39 rfl (.known hv)) rfl ?_;refine zz1 ?_;refine aA (gN (v:=i64 (9223372036854775807 / ((texts.length:Int) - 1))) (aW2 rfl rfl aI) (by rw[Int.tdiv_eq_ediv_of_nonneg (by decide)];unfold IntKind.wrap IntKind.bits IntKind.signed;have h1:0≤(9223372036854775807:Int) / ((texts.length:Int) - 1):=Int.ediv_nonneg (by decide) aI;have h2:(9223372036854775807:Int) / ((texts.length:Int) - 1)≤9223372036854775807:=Int.ediv_le_self _ (by decide);congr 1;simp;omega)) rfl ?_;refine aA (vJ (iQ rfl rfl) (by have h1:(1001:Int)≤9223372036854775807 / ((texts.length:Int) - 1):=Int.le_ediv_of_mul_le aI aI;omega)) rfl ?_;refine zz10 ?_;refine aA (bO (k:=bN 9) rfl Tryz.underlying39 rfl (.known hv)) rfl ?_;refine zz1 ?_;have hm1:(sep.length:Int)*((texts.length:Int) - 1)=((sep.length*(texts.length - 1):Nat):Int):=(by rw[Int.natCast_mul,Int.natCast_sub aI];rfl);have hm2:sep.length*(texts.length - 1)≤1000*100000:=Nat.mul_le_mul hs.2 aI;refine aA (gN (v:=i64 ((sep.length*(texts.length - 1):Nat):Int)) (s6 rfl rfl aI aI) (by rw[←hm1])) rfl ?_;refine zz8 ?_;refine aA (bO (k:=bN 9) rfl Tryz.underlying39 rfl (.known hv)) rfl ?_;refine zz4 ?_;refine eJ (fun(i:Nat)=>i≤texts.length) (fun i=>[(0,v),(1,str sep),(5,i64 ((sep.length*(texts.length - 1)+lenT (texts.take i):Nat):Int)),(39,v),(40,i64 texts.length),(41,i64 i)]) (fun _=>K) (fun _=>[]) (fun i=>texts.length - i) 0 (Nat.zero_le _) (.cons 0 rfl (.cons 1 rfl (.cons 5 (by exact congrArg (fun x:Int=>some (i64 x)) (by simp[lenT])) (.cons 39 rfl (.cons 40 rfl (.cons 41 rfl .nil)))))) rfl (fun _ h=>h) ?_;intro i hi;refine zz6 ?_;refine bK 42 rfl (fun h42=>?_) (fun h42=>?_)
 ·have hlt:i < texts.length:=aI;obtain⟨x,hx⟩:∃x,texts[i]?=some x:=⟨texts[i]'hlt,List.getElem?_eq_getElem hlt⟩;have hl1:=aTI texts (i+1);rw[aF1 hx]at hl1;refine zz6 ?_;refine aA (bE (k:=bN 9) (j:=i) cG rfl (.known hv) rfl rfl hlt) rfl ?_;refine aA (dP (o:=0) (k:=bN 9) ts9 rfl (.known hv) hx rfl) rfl ?_;refine zz10 ?_;refine aA (vJ (gD rfl rfl) aI) rfl ?_;refine zz18 ?_;exact dF (i+1) aI aI (.cons 0 rfl (.cons 1 rfl (.cons 5 (by exact congrArg (fun x:Int=>some (i64 x)) (by rw[aF1 hx];omega)) (.cons 39 rfl (.cons 40 rfl (.cons 41 rfl .nil)))))) rfl (fun _ h=>h)
 have hie:i=texts.length:=aI;subst hie;rw[List.take_length];obtain⟨x,r,hxr⟩:∃x r,texts=x::r:=(by cases texts with|nil=>simp at h15 h13|cons x r=>exact⟨x,r,rfl⟩);have hx0:texts[0]?=some x:=by rw[hxr];rfl
 have hrl:r.length=texts.length - 1:=by rw[hxr];simp
 have hlx:lenT texts=x.length+lenT r:=by rw[hxr];simp[lenT]
 have hxn:=h0 x (by rw[hxr];simp);have hdr:texts.drop 1=r:=by rw[hxr];rfl
 have hjl:=aF0 sep x r;rw[hrl]at hjl;refine zz8 ?_;rintro _ K _ ⟨b8,rfl,rfl,rfl⟩ -;refine zz5 ?_;refine aX rfl rfl (bHR b8 (sep.length*(texts.length - 1)+lenT texts) _ aI (by have:=Nat.mul_pos hs.1 (show 0 < texts.length - 1 by omega);omega)) (.cons .here .nil) rfl ?_;rintro _ K _ ⟨rfl,rfl,c,cs,rfl⟩ -;refine zz5 ?_;refine aA (bE (k:=bN 9) (j:=0) cG rfl (.known hv) rfl rfl aI) rfl ?_;refine aA (dP (o:=0) (k:=bN 9) ts9 rfl (.known hv) hx0 rfl) rfl ?_;refine aX rfl rfl (bCB b8 c cs x _ hxn aI) (.cons .here (.cons .here .nil)) rfl ?_;rintro _ K _ ⟨rfl,rfl,rfl⟩ -;refine zz6 ?_;refine aA (rU (k:=bN 9) (m:=1) cG rfl (.known hv) rfl rfl aI) rfl ?_;have hv2:=aKF hv (show 1≤texts.length by omega) hf;rw[hdr]at hv2;refine aA (bO (k:=bN 9) rfl Tryz.underlying39 rfl (.known hv2)) rfl ?_;refine zz4 ?_;refine eJ (fun(i:Nat)=>i≤r.length) (fun i=>[(1,str sep),(8,ptr b8),(63,rX v 1 1),(64,i64 r.length),(65,i64 i)]) (fun _=>K) (fun i=>[bldr b8 (aB0 sep x (r.take i))]) (fun i=>r.length - i) 0 (Nat.zero_le _) (.cons 1 rfl (.cons 8 rfl (.cons 63 rfl (.cons 64 rfl (.cons 65 rfl .nil))))) rfl (by simp only[aB0,List.take_zero,List.flatMap_nil,List.append_nil];exact fun _ h=>h) ?_;intro i hi;refine zz6 ?_;refine bK 66 rfl (fun h66=>?_) (fun h66=>?_)
 ·have hlt:i < r.length:=aI;obtain⟨y,hy⟩:∃y,r[i]?=some y:=⟨r[i]'hlt,List.getElem?_eq_getElem hlt⟩;have hl1:=aTI r (i+1);rw[aF1 hy]at hl1;have hj1:=aF0 sep x (r.take i);rw[List.length_take,Nat.min_eq_left aI]at hj1;have hm3:sep.length*i≤sep.length*(texts.length - 1):=Nat.mul_le_mul_left _ aI;refine zz6 ?_;refine aA (bE (k:=bN 9) (j:=i) cG rfl (.known hv2) rfl rfl hlt) rfl ?_;refine aA (dP (o:=0) (k:=bN 9) ts9 rfl (.known hv2) hy rfl) rfl ?_;refine zz6 ?_;refine aX rfl rfl (mE b8 sep _ aI _) (.cons .here .nil) rfl ?_;rintro _ K _ ⟨rfl,rfl,rfl⟩ -;refine zz4 ?_;refine aX rfl rfl (mE b8 y _ gAU _) (.cons .here .nil) rfl ?_;rintro _ K _ ⟨rfl,rfl,rfl⟩ -;refine zz7 ?_;exact dF (i+1) aI aI (.cons 1 rfl (.cons 8 rfl (.cons 63 rfl (.cons 64 rfl (.cons 65 rfl .nil))))) rfl (by rw[aXK hy];exact fun _ h=>h)
 have hie:i=r.length:=aI;subst hie;rw[List.take_length];refine zz7 ?_;refine aX rfl rfl (pU b8 _ aI _) (.cons .here .nil) rfl ?_;rintro _ K _ ⟨rfl,rfl,rfl⟩ -;refine zz5 ?_;rw[hxr,aKE];exact⟨_,rfl,rfl,rfl,rfl⟩
end Go.Proofs
end
section
attribute [local irreducible] Go.SL.T Go.SL.OL Go.SL.D Go.SL.DL Go.SL.Ev Go.SL.Ef Go.SL.EfS
set_option maxRecDepth 4000
namespace Go.Proofs
open Go Go.SL Go.Syn
theorem aK3(s:aJ):(iI s).length=s.length+cntQ s+2:=by
 have:=aDZ s;unfold encQ at this;unfold iI;simp only[List.length_append,List.length_singleton,this];omega
theorem sL(s:aJ):(iI s).length≤2*s.length+2:=by have:=aK3 s;have:=aDO s;omega
theorem bDQ(s:aJ):iI s≠[]:=by intro h;have:=aK3 s;rw[h]at this;simp at this
theorem aCN{n:Nat}:∀ {l:List aJ},(∀x∈l,x.length≤n)→lenT (l.map iI)≤l.length*(2*n+2)
 | [],_=>by simp[lenT]
 |x::l,h=>by
  have ih:=aCN (l:=l) fun y hy=>h y (by simp[hy])
  have h1:=sL x;have h2:=h x (by simp);unfold lenT at ih ⊢;rw[List.map_cons,List.map_cons,List.sum_cons,List.length_cons,Nat.succ_mul];omega
theorem aNL{l:List aJ}:(yD [44,32] l).length≤lenT l+2*l.length:=by
 cases l with
 |nil=>simp[yD]
 |cons x r=>
  rw[aKE,aF0];simp[lenT];omega
theorem aKK{l:List aJ}(h:l.length≠1):oE l=[91]++yD [44,32] (l.map iI)++[93]:=by
 cases l with
 |nil=>rfl
 |cons x r=>
  cases r with
  |nil=>simp at h
  |cons y r=>rfl
theorem bCI{n:Nat}{l:List aJ}(h:∀x∈l,x.length≤n):(oE l).length≤l.length*(2*n+4)+2:=by
 by_cases h1:l.length=1
 ·obtain⟨x,rfl⟩:=List.length_eq_one_iff.1 h1;have:=sL x;have:=h x (by simp);simp[oE];omega
 have h2:=aCN h;have h3:=aNL (l:=l.map iI);rw[List.length_map]at h3;rw[aKK h1];simp only[List.length_append,List.length_singleton];have:l.length*(2*n+4)=l.length*(2*n+2)+2*l.length:=by rw[show 2*n+4=(2*n+2)+2 from rfl,Nat.mul_add];omega
 omega
theorem bC3{l:List aJ}{i:Nat}{x:aJ}(h:l[i]?=some x):(l.take (i+1)).map iI=(l.take i).map iI++[iI x]:=by
 have hi:i < l.length:=by
  rcases Nat.lt_or_ge i l.length with h'|h'
  ·exact h'
  rw[List.getElem?_eq_none h']at h;cases h
 rw[List.getElem?_eq_getElem hi]at h;cases h
 rw[List.take_succ_eq_append_getElem hi,List.map_append];rfl
attribute [local semireducible] Go.SL.T Go.SL.OL Go.SL.D Go.SL.DL Go.SL.Ev Go.SL.Ef Go.SL.EfS in
theorem bDE{E:Env}{ops:Array Oper}{rest:List Oper}{fr:Fr}{K:Hl}{L:List Asn}{Q:Post}{α:Type}{k:El α}{v:Value}{xs:List α}{z:Bool}(h:aIZ v→OL E ops rest fr K (sl z k v xs::L) Q):OL E ops rest fr K (sl z k v xs::L) Q:=fun a w f i=>h (bKG .here i) a w f i
theorem aEO(v:Value)(l:List aJ)(K:Hl)(hv:Ksl (bN 9) K v l)(hx:∀x∈l,x.length≤1000)(hl:l.length≤100000):Sp Tryz.prog 61 [v] K [] (Ret fun r K' L'=>r=str (oE l)∧L'=[]):=by
 have hlt:=aCN hx;have hjl:=aNL (l:=l.map iI);rw[List.length_map]at hjl;refine a8 Tryz.func61 rfl Tryz.ntmps61 rfl rfl fun F w=>?_;refine kF (eF (bN 9)) ?_;refine zz14 ?_;refine aA (bO (k:=bN 9) rfl Tryz.underlying39 rfl (.known hv)) rfl ?_;refine zz4 ?_;refine n7 (fun(K2:Hl) (i:Nat) (u:Value)=>K.le K2∧i≤l.length) (fun _ i u=>[(3,u),(6,v),(7,i64 l.length),(8,i64 i)]) (fun K2 _ _=>K2) (fun _ i u=>[sl false (bN 9) u ((l.take i).map iI)]) (fun _ i _=>l.length - i) _ 0 _ ⟨Hl.le_refl _,Nat.zero_le _⟩ (.cons 3 rfl (.cons 6 rfl (.cons 7 rfl (.cons 8 rfl .nil)))) rfl (fun _ h=>h) ?_;intro K2 i u ⟨le2,hi⟩;have hv2:=hv.mono le2;refine zz6 ?_;refine bK 9 rfl (fun h9=>?_) (fun h9=>?_)
 ·have hlt2:i < l.length:=aI;obtain⟨x,hxx⟩:∃x,l[i]?=some x:=⟨l[i]'hlt2,List.getElem?_eq_getElem hlt2⟩;have hxl:=hx x (List.mem_of_getElem? hxx);refine zz6 ?_;refine aA (bE (k:=bN 9) (j:=i) cG rfl (.known hv2) rfl rfl hlt2) rfl ?_;refine aA (dP (o:=0) (k:=bN 9) ts9 rfl (.known hv2) hxx rfl) rfl ?_;refine zz6 ?_;refine aX rfl rfl (aEQ x _ aI) .nil rfl ?_;rintro _ K3 _ ⟨rfl,rfl⟩ le3;refine cC (bH (z0:=[(str [])]) cG tz9 rfl rfl rfl rfl (.cons rfl rfl rfl (.cons .nil) .nil)) rfl ?_;rintro _ K _ ⟨b15,rfl,rfl,rfl⟩ -;refine cC (dN (k:=(bN 9)) (ys:=[iI x]) fS rfl rfl bF (fun w j=>dE Tryz.underlying39 (SeesSl.at (.blk (.own .here) rfl rfl) j)) gAI gAI) rfl ?_;rintro v16 K _ ⟨rfl,rfl,ho16⟩ -;refine zz8 ?_;refine uAa ?_;exact iU _ (i+1) v16 ⟨Hl.le_trans le2 le3,by omega⟩ aI (.cons 3 rfl (.cons 6 rfl (.cons 7 rfl (.cons 8 rfl .nil)))) rfl (by rw[bC3 hxx];exact fun _ h=>h)
 have hie:i=l.length:=aI;subst hie;rw[List.take_length];refine zz9 ?_;refine aA (bO (k:=bN 9) rfl Tryz.underlying39 rfl (.own .here)) rfl ?_;refine zz3 ?_;refine bK 20 rfl (fun h20=>?_) (fun h20=>?_)
 ·have hl1:l.length=1:=(by have:=h20;simp at this;omega);obtain⟨x,hxe⟩:=List.length_eq_one_iff.1 hl1;subst hxe;refine zz3 ?_;refine aA (bE (k:=bN 9) (j:=0) cG rfl (.own .here) rfl rfl (by simp)) rfl ?_;refine aA (dP (o:=0) (k:=bN 9) (u:=iI x) ts9 rfl (.own .here) rfl rfl) rfl ?_;refine zz5 ?_;refine uAl ?_;refine bD rfl rfl (by first|exact le2|exact Hl.le_trans le2 le3) ?_;exact⟨_,rfl,rfl,rfl⟩
 have hl1:l.length≠1:=(by have:=h20;simp at this;omega);refine zz4 ?_;refine bDE fun hfit=>?_;refine gX fun K3 le3 hS=>?_;refine zz1 ?_;refine aX rfl rfl (bM7 _ _ [44,32] _ hS hfit (fun y hy=>by obtain⟨x,_,rfl⟩:=List.mem_map.1 hy;exact bDQ x) ⟨by decide,by decide⟩ (by simpa using hl) aI) .nil rfl ?_;rintro _ K _ ⟨rfl,rfl,rfl⟩ -;refine aA (cW rfl rfl (by simp only[List.length_cons,List.length_nil];omega)) rfl ?_;refine aA (cW rfl rfl (by simp only[List.length_append,List.length_cons,List.length_nil];omega)) rfl ?_;refine zz4 ?_;refine uAl ?_;refine bD rfl rfl (by first|exact le2|exact Hl.le_trans le2 le3) ?_;rw[aKK hl1];exact⟨_,rfl,rfl,rfl⟩
end Go.Proofs
end
section
attribute [local irreducible] Go.SL.T Go.SL.OL Go.SL.D Go.SL.DL Go.SL.Ev Go.SL.Ef Go.SL.EfS
set_option maxRecDepth 4000
namespace Go.Proofs
open Go Go.SL Go.Syn
def PSp(K:Hl)(v:Value)(t:Tree)(d:Nat):Prop:=∃ty u f,v=.iface ty u∧(∀w,(Go.method (Tryz.prog.types.size+Made.depth) ty u "mailsieve/syntax.print").run Tryz.prog w=.ok (f,u) w)∧
 ∀(b:Nat) (xs:aJ) (K':Hl),K.le K'→xs.length+(prn t d true).length≤100000000000→Sp Tryz.prog f [u,ptr b] K' [pbl b d xs] (Ret fun q K'' L'=>q=.tuple #[]∧L'=[pbl b d (xs++prn t d true)])
theorem bCQ(u:Value)(w:World):(Go.method (Tryz.prog.types.size+Made.depth) 282 u "mailsieve/syntax.print").run Tryz.prog w=.ok (424,u) w:=by kernel_rfl
theorem bCR(u:Value)(w:World):(Go.method (Tryz.prog.types.size+Made.depth) 285 u "mailsieve/syntax.print").run Tryz.prog w=.ok (425,u) w:=by kernel_rfl
theorem bCS(u:Value)(w:World):(Go.method (Tryz.prog.types.size+Made.depth) 289 u "mailsieve/syntax.print").run Tryz.prog w=.ok (426,u) w:=by kernel_rfl
theorem bCT(u:Value)(w:World):(Go.method (Tryz.prog.types.size+Made.depth) 293 u "mailsieve/syntax.print").run Tryz.prog w=.ok (429,u) w:=by kernel_rfl
theorem bCU(u:Value)(w:World):(Go.method (Tryz.prog.types.size+Made.depth) 297 u "mailsieve/syntax.print").run Tryz.prog w=.ok (430,u) w:=by kernel_rfl
theorem bCV(u:Value)(w:World):(Go.method (Tryz.prog.types.size+Made.depth) 300 u "mailsieve/syntax.print").run Tryz.prog w=.ok (431,u) w:=by kernel_rfl
theorem bCW(u:Value)(w:World):(Go.method (Tryz.prog.types.size+Made.depth) 308 u "mailsieve/syntax.print").run Tryz.prog w=.ok (432,u) w:=by kernel_rfl
theorem bCX(u:Value)(w:World):(Go.method (Tryz.prog.types.size+Made.depth) 311 u "mailsieve/syntax.print").run Tryz.prog w=.ok (433,u) w:=by kernel_rfl
theorem bCY(u:Value)(w:World):(Go.method (Tryz.prog.types.size+Made.depth) 376 u "mailsieve/syntax.print").run Tryz.prog w=.ok (434,u) w:=by kernel_rfl
theorem bCZ(u:Value)(w:World):(Go.method (Tryz.prog.types.size+Made.depth) 380 u "mailsieve/syntax.print").run Tryz.prog w=.ok (435,u) w:=by kernel_rfl
theorem bHH(v:Bool)(K:Hl):Sp Tryz.prog 427 [.bool v] K [] (Val (str (if v=true then rZ else lT)) K):=by
 have tH:∀K,Sp Tryz.prog 428 [.bool v] K [] (Val (str (if v=true then rZ else lT)) K):=by
  intro K;refine a8 Tryz.func428 rfl Tryz.ntmps428 rfl rfl fun F w=>?_;refine zz11 ?_;refine eO 3 rfl (fun h3=>?_) (fun h3=>?_)
  ·refine zz8 ?_;rw[if_pos h3];exact⟨rfl,rfl,rfl⟩
  refine zz9 ?_;rw[if_neg (by rw[h3];simp)];exact⟨rfl,rfl,rfl⟩
 refine a8 Tryz.func427 rfl Tryz.ntmps427 rfl rfl fun F w=>?_;refine zz8 ?_;refine cF rfl rfl (tH _) rfl ?_;refine zz5 ?_;exact⟨rfl,rfl,rfl⟩
theorem bJC(K:Hl)(v:Bool)(d:Nat):PSp K (.iface 289 (.bool v)) (.const v) d:=by
 refine⟨_,_,_,rfl,bCS _,fun b xs K' le hx=>?_⟩
 simp only[prn]at hx ⊢;refine a8 Tryz.func426 rfl Tryz.ntmps426 rfl rfl fun F w=>?_;refine zz3 ?_;refine cF rfl rfl (bHH v _) rfl ?_;refine cC (bH (z0:=[(str [])]) cG tz9 rfl rfl rfl rfl (.cons rfl rfl rfl (.cons .nil) .nil)) rfl ?_;rintro _ K _ ⟨b7,rfl,rfl,rfl⟩ -;refine aX rfl rfl (gR b b7 1 d xs [if v=true then rZ else lT] _ _ _ rfl rfl (by simp only[List.flatten_cons,List.flatten_nil,List.append_nil];simp only[rZ,lT];omega) (by simp)) (.cons .here (.cons .here .nil)) rfl ?_;rintro _ K2 _ ⟨rfl,rfl⟩ le2;refine aG ?_;refine dK rfl le2 ?_;exact⟨_,rfl,rfl,by simp[rZ,lT]⟩
theorem bJF(K:Hl)(op:Int)(d:Nat):PSp K (.iface 285 (.agg #[i64 op])) (.plain op) d:=by
 refine⟨_,_,_,rfl,bCR _,fun b xs K' le hx=>?_⟩
 simp only[prn]at hx ⊢;refine a8 Tryz.func425 rfl Tryz.ntmps425 rfl rfl fun F w=>?_;refine zz3 ?_;rintro _ K _ ⟨b2,rfl,rfl,rfl⟩ -;refine zz9 ?_;refine bK 6 rfl (fun h6=>?_) (fun h6=>?_)
 ·refine zz2 ?_;refine cC (bH (z0:=[(str [])]) cG tz9 rfl rfl rfl rfl (.cons rfl rfl rfl (.cons .nil) .nil)) rfl ?_;rintro _ K _ ⟨b8,rfl,rfl,rfl⟩ -;refine aX rfl rfl (gR b b8 1 d xs [[115,116,111,112,59]] _ _ _ rfl rfl gAI (by simp)) (.cons .here (.cons (.there .here) .nil)) rfl ?_;rintro _ K2 _ ⟨rfl,rfl⟩ le2;refine uAz ?_;refine dK rfl le2 ?_;exact⟨_,rfl,rfl,by rw[if_pos h6];simp⟩
 refine zz2 ?_;refine cC (bH (z0:=[(str [])]) cG tz9 rfl rfl rfl rfl (.cons rfl rfl rfl (.cons .nil) .nil)) rfl ?_;rintro _ K _ ⟨b11,rfl,rfl,rfl⟩ -;refine aX rfl rfl (gR b b11 1 d xs [[100,105,115,99,97,114,100,59]] _ _ _ rfl rfl gAI (by simp)) (.cons .here (.cons (.there .here) .nil)) rfl ?_;rintro _ K2 _ ⟨rfl,rfl⟩ le2;refine uAz ?_;refine dK rfl le2 ?_;exact⟨_,rfl,rfl,by rw[if_neg h6];simp⟩
theorem bRM(K:Hl)(va:Value)(a:List aJ)(d:Nat)(ha:Ksl (bN 9) K va a)(hx1:∀x∈a,x.length≤1000)(hl1:a.length≤100000):PSp K (.iface 297 (.agg #[va])) (.exi a) d:=by
 refine⟨_,_,_,rfl,bCU _,fun b xs K' le hx=>?_⟩
 have ha:=ha.mono le;simp only[prn,List.length_append]at hx ⊢;obtain⟨sa,sn,sc,rfl⟩:=ha.isSlice;refine a8 Tryz.func430 rfl Tryz.ntmps430 rfl rfl fun F w=>?_;refine zz3 ?_;rintro _ K _ ⟨b2,rfl,rfl,rfl⟩ -;refine zz6 ?_;refine aX rfl rfl (aEO _ a _ ha hx1 hl1) .nil rfl ?_;rintro _ K1 _ ⟨rfl,rfl⟩ le1;refine cC (bH (z0:=[(str []),(str [])]) cG tz9 rfl rfl rfl rfl (.cons rfl rfl rfl (.cons .nil) (.cons rfl rfl rfl (.skip (.cons .nil)) .nil))) rfl ?_;rintro _ K _ ⟨b8,rfl,rfl,rfl⟩ -;refine aX rfl rfl (gR b b8 2 d xs [[101,120,105,115,116,115,32],oE a] _ _ _ rfl rfl (by simp at hx ⊢;omega) (by simp)) (.cons .here (.cons (.there .here) .nil)) rfl ?_;rintro _ K2 _ ⟨rfl,rfl⟩ le2;refine uAz ?_;refine dK rfl (Hl.le_trans le1 le2) ?_;exact⟨_,rfl,rfl,by simp⟩
theorem bRL(K:Hl)(k:Int)(a:aJ)(p:Int)(d:Nat)(hk:1≤k∧k≤4)(ha:a.length≤1000):PSp K (.iface 282 (.agg #[i64 k,str a,i64 p])) (.act k a p) d:=by
 refine⟨_,_,_,rfl,bCQ _,fun b xs K' le hx=>?_⟩
 have hq:=sL a;refine a8 Tryz.func424 rfl Tryz.ntmps424 rfl rfl fun F w=>?_;refine zz3 ?_;rintro _ K _ ⟨b2,rfl,rfl,rfl⟩ -;refine zz2 ?_;refine gV (fun(K2:Hl)=>K.le K2∧k≠1) (fun _=>[(1,ptr b),(2,ptr b2)]) (fun K2=>K2) (fun _=>[pt b2 (aZ [i64 k,str a,i64 p] 282),pbl b d (xs++uJ k)]) ?_ ?_
 ·refine zz13 ?_;refine bK 6 rfl (fun h6=>?_) (fun h6=>?_)
  ·refine zz3 ?_;refine cC (bH (z0:=[(str [])]) cG tz9 rfl rfl rfl rfl (.cons rfl rfl rfl (.cons .nil) .nil)) rfl ?_;rintro _ K _ ⟨b9,rfl,rfl,rfl⟩ -;refine aX rfl rfl (gR b b9 1 d xs [[107,101,101,112,59]] _ _ _ rfl rfl gAI (by simp)) (.cons .here (.cons (.there .here) .nil)) rfl ?_;rintro _ K2 _ ⟨rfl,rfl⟩ le2;refine zz5 ?_;refine uAa ?_;refine wT rfl (by first|exact le2|exact Hl.le_trans le2 (Hl.le_trans le3 le4)) ?_;exact⟨_,rfl,rfl,by simp only[prn,if_pos h6];simp⟩
  refine zz6 ?_;refine bK 11 rfl (fun h11=>?_) (fun h11=>?_)
  ·refine zz2 ?_;refine cC (bH (z0:=[(str [])]) cG tz9 rfl rfl rfl rfl (.cons rfl rfl rfl (.cons .nil) .nil)) rfl ?_;rintro _ K _ ⟨b14,rfl,rfl,rfl⟩ -;refine aX rfl rfl (gR b b14 1 d xs [[102,105,108,101,105,110,116,111,32]] _ _ _ rfl rfl gAI (by simp)) (.cons .here (.cons (.there .here) .nil)) rfl ?_;rintro _ K2 _ ⟨rfl,rfl⟩ le2;refine zz2 ?_
   (refine aU (.cons (.there .here) (.cons .here .nil)) ?_;exact cN _ ⟨by assumption,by omega⟩ (.cons 1 rfl (.cons 2 rfl .nil)) rfl (by rw[show k=2 by omega];exact fun _ h=>h))
  refine zz6 ?_;refine bK 16 rfl (fun h16=>?_) (fun h16=>?_)
  ·refine zz2 ?_;refine cC (bH (z0:=[(str [])]) cG tz9 rfl rfl rfl rfl (.cons rfl rfl rfl (.cons .nil) .nil)) rfl ?_;rintro _ K _ ⟨b19,rfl,rfl,rfl⟩ -;refine aX rfl rfl (gR b b19 1 d xs [[114,101,100,105,114,101,99,116,32]] _ _ _ rfl rfl gAI (by simp)) (.cons .here (.cons (.there .here) .nil)) rfl ?_;rintro _ K2 _ ⟨rfl,rfl⟩ le2;refine zz2 ?_
   (refine aU (.cons (.there .here) (.cons .here .nil)) ?_;exact cN _ ⟨by assumption,by omega⟩ (.cons 1 rfl (.cons 2 rfl .nil)) rfl (by rw[show k=3 by omega];exact fun _ h=>h))
  refine zz6 ?_;refine bK 21 rfl (fun h21=>?_) (fun h21=>?_)
  ·refine zz2 ?_;refine cC (bH (z0:=[(str [])]) cG tz9 rfl rfl rfl rfl (.cons rfl rfl rfl (.cons .nil) .nil)) rfl ?_;rintro _ K _ ⟨b24,rfl,rfl,rfl⟩ -;refine aX rfl rfl (gR b b24 1 d xs [[114,101,106,101,99,116,32]] _ _ _ rfl rfl gAI (by simp)) (.cons .here (.cons (.there .here) .nil)) rfl ?_;rintro _ K2 _ ⟨rfl,rfl⟩ le2;refine zz2 ?_
   (refine aU (.cons (.there .here) (.cons .here .nil)) ?_;exact cN _ ⟨by assumption,by omega⟩ (.cons 1 rfl (.cons 2 rfl .nil)) rfl (by rw[show k=4 by omega];exact fun _ h=>h))
  refine zz2 ?_
  (exfalso;omega)
 intro K2 ⟨le2,hk1⟩;refine aC ?_;have han:(uJ k).length≤9:=(by unfold uJ;split;decide;split;decide;split <;> decide);have hxl:xs.length≤100000000000:=aI;refine zz3 ?_;refine aX rfl rfl (aEQ a _ aI) .nil rfl ?_;rintro _ K3 _ ⟨rfl,rfl⟩ le3;refine cC (bH (z0:=[(str []),(str [])]) cG tz9 rfl rfl rfl rfl (.cons rfl rfl rfl (.cons .nil) (.cons rfl rfl rfl (.skip (.cons .nil)) .nil))) rfl ?_;rintro _ K _ ⟨b30,rfl,rfl,rfl⟩ -;refine aX rfl rfl (gR b b30 2 d _ [iI a,[59]] _ _ _ rfl rfl (by simp at*;omega) (by simp)) (.cons .here (.cons (.there .here) .nil)) rfl ?_;rintro _ K4 _ ⟨rfl,rfl⟩ le4;refine uAz ?_;refine dK rfl (by first|exact le2|exact Hl.le_trans le2 (Hl.le_trans le3 le4)) ?_;exact⟨_,rfl,rfl,by simp only[prn,if_neg hk1];simp⟩
end Go.Proofs
end
section
attribute [local irreducible] Go.SL.T Go.SL.OL Go.SL.D Go.SL.DL Go.SL.Ev Go.SL.Ef Go.SL.EfS
set_option maxRecDepth 4000
namespace Go.Proofs
open Go Go.SL Go.Syn
def aQ1:List aJ:=[[],[111,118,101,114],[117,110,100,101,114]]
theorem aYK{t:Int}(h:t=1∨t=2):aQ1[t.toNat]?=some (vW t):=by rcases h with rfl|rfl <;> rfl
def bAI:List aJ:=[[],[32,58,108,111,119,101,114],[32,58,117,112,112,101,114],[32,58,108,101,110,103,116,104]]
theorem bEB{t:Int}(h:0≤t∧t≤3):bAI[t.toNat]?=some (xO t):=by
 have:t=0∨t=1∨t=2∨t=3:=by omega
 rcases this with rfl|rfl|rfl|rfl <;> rfl
def bAN:List aJ:=[[],[],[32,58,99,111,110,116,97,105,110,115],[32,58,109,97,116,99,104,101,115]]
theorem bEN{t:Int}(h:1≤t∧t≤3):bAN[t.toNat]?=some (aBK t):=by
 have:t=1∨t=2∨t=3:=by omega
 rcases this with rfl|rfl|rfl <;> rfl
theorem bRT(K:Hl)(tag n:Int)(d:Nat)(hg:Glob K)(ht:tag=1∨tag=2)(hn:0≤n∧n≤2147483647):PSp K (.iface 300 (.agg #[i64 tag,i64 n])) (.siz tag n) d:=by
 refine⟨_,_,_,rfl,bCV _,fun b xs K' le hx=>?_⟩
 have hg:=hg.mono le;have hnm:=aYK ht;have hsl:aQ1.length=3:=rfl;simp only[prn,List.length_append]at hx ⊢;refine a8 Tryz.func431 rfl Tryz.ntmps431 rfl rfl fun F w=>?_;refine zz3 ?_;rintro _ K _ ⟨b2,rfl,rfl,rfl⟩ -;refine zz2 ?_;refine dD (anc:=[0,0,0,4,14,30,0,64,192,510,1023]) (ord:=[0,2,3,6,7,8,1,4,5,9,10]) [1,9,10] [10] mixed gAH (.cons .here .nil) ?_;refine zz5 ?_;refine yW rfl (.none rfl) rfl rfl rfl rfl (fun K1 le1=>(qO n aI aI _ (hg.mono le1))) rfl ?_;refine sY rfl rfl (.none rfl) rfl rfl (aFS (f:=fun b=>.slice (some ⟨b,0,none⟩) 3 3) (bH (z0:=[(str []),(str []),(str [])]) cG tz9 rfl rfl rfl rfl (.cons rfl rfl rfl (.cons .nil) (.cons rfl rfl rfl (.skip (.cons .nil)) (.cons rfl rfl rfl (.skip (.skip (.cons .nil))) .nil)))) (fun _ _ _ h=>h)) rfl ?_;rintro _ K5 _ ⟨b5,rfl,hb5,rfl⟩ le5;refine⟨_,(show Tks _ _ _ from (.cons .here .nil)).sat,?_⟩
 refine aK rfl rfl (.none rfl) rfl rfl (bE (k:=bN 9) (xs:=aQ1) (j:=tag.toNat) cG rfl (.known (.inr ⟨b5,0,3,_,_,rfl,⟨_,hb5⟩,rfl⟩)) rfl aI aI) rfl ?_;refine aK rfl rfl (.none rfl) rfl rfl (dP (o:=0) (k:=bN 9) (xs:=aQ1) (v:=.slice (some ⟨b5,0,none⟩) 3 3) ts9 rfl (.known (.inr ⟨b5,0,3,_,_,rfl,⟨_,hb5⟩,rfl⟩)) hnm rfl) rfl ?_;refine sY rfl rfl (.none rfl) rfl rfl (bH (z0:=[(str []),(str []),(str []),(str [])]) cG tz9 rfl rfl rfl rfl (.cons rfl rfl rfl (.cons .nil) (.cons rfl rfl rfl (.skip (.cons .nil)) (.cons rfl rfl rfl (.skip (.skip (.cons .nil))) (.cons rfl rfl rfl (.skip (.skip (.skip (.cons .nil)))) .nil))))) rfl ?_;rintro _ K _ ⟨b13,rfl,rfl,rfl⟩ -;refine⟨_,(show Tks _ _ _ from (.cons (.there .here) .nil)).sat,?_⟩
 refine iJ rfl (.none rfl) rfl rfl rfl (gR b b13 4 d xs [[115,105,122,101,32,58],vW tag,[32],Lib.itoa n] _ _ _ rfl rfl (by simp at hx ⊢;omega) (by simp)) (.cons (.there .here) (.cons (.there .here) .nil)) rfl ?_;rintro _ K2 _ ⟨rfl,rfl⟩ le2;refine uBg ?_;refine dK rfl (Hl.le_trans le5 le2) ?_;exact⟨_,rfl,rfl,by simp⟩
theorem bRS(K:Hl)(n v:aJ)(t:Int)(d:Nat)(ht:0≤t∧t≤3)(hn:n.length≤1000)(hv:v.length≤1000):PSp K (.iface 308 (.agg #[str n,str v,i64 t])) (.set_ n v t) d:=by
 refine⟨_,_,_,rfl,bCW _,fun b xs K' le hx=>?_⟩
 have hnm:=bEB ht;have hsl:bAI.length=4:=rfl;simp only[prn,List.length_append]at hx ⊢;refine a8 Tryz.func432 rfl Tryz.ntmps432 rfl rfl fun F w=>?_;refine zz3 ?_;rintro _ K _ ⟨b2,rfl,rfl,rfl⟩ -;refine zz2 ?_;refine dD (anc:=[0,0,0,4,14,30,0,64,192,0,512,1984,4094,8191]) (ord:=[0,2,3,6,7,8,9,10,11,1,4,5,12,13]) [1,12,13] [13] mixed gAH (.cons .here .nil) ?_;refine zz5 ?_;refine yW rfl (.none rfl) rfl rfl rfl rfl (fun K1 le1=>(aQ7 (aEQ n _ aI))) rfl ?_;refine zz2 ?_;refine yW rfl (.none rfl) rfl rfl rfl rfl (fun K1 le1=>(aQ7 (aEQ v _ aI))) rfl ?_;refine sY rfl rfl (.none rfl) rfl rfl (aFS (f:=fun b=>.slice (some ⟨b,0,none⟩) 4 4) (bH (z0:=[(str []),(str []),(str []),(str [])]) cG tz9 rfl rfl rfl rfl (.cons rfl rfl rfl (.cons .nil) (.cons rfl rfl rfl (.skip (.cons .nil)) (.cons rfl rfl rfl (.skip (.skip (.cons .nil))) (.cons rfl rfl rfl (.skip (.skip (.skip (.cons .nil)))) .nil))))) (fun _ _ _ h=>h)) rfl ?_;rintro _ K5 _ ⟨b5,rfl,hb5,rfl⟩ le5;refine⟨_,(show Tks _ _ _ from (.cons .here .nil)).sat,?_⟩
 refine aK rfl rfl (.none rfl) rfl rfl (bE (k:=bN 9) (xs:=bAI) (j:=t.toNat) cG rfl (.known (.inr ⟨b5,0,4,_,_,rfl,⟨_,hb5⟩,rfl⟩)) rfl aI aI) rfl ?_;refine aK rfl rfl (.none rfl) rfl rfl (dP (o:=0) (k:=bN 9) (xs:=bAI) (v:=.slice (some ⟨b5,0,none⟩) 4 4) ts9 rfl (.known (.inr ⟨b5,0,4,_,_,rfl,⟨_,hb5⟩,rfl⟩)) hnm rfl) rfl ?_;refine sY rfl rfl (.none rfl) rfl rfl (bH (z0:=[(str []),(str []),(str []),(str []),(str []),(str []),(str [])]) cG tz9 rfl rfl rfl rfl (.cons rfl rfl rfl (.cons .nil) (.cons rfl rfl rfl (.skip (.cons .nil)) (.cons rfl rfl rfl (.skip (.skip (.cons .nil))) (.cons rfl rfl rfl (.skip (.skip (.skip (.cons .nil)))) (.cons rfl rfl rfl (.skip (.skip (.skip (.skip (.cons .nil))))) (.cons rfl rfl rfl (.skip (.skip (.skip (.skip (.skip (.cons .nil)))))) (.cons rfl rfl rfl (.skip (.skip (.skip (.skip (.skip (.skip (.cons .nil))))))) .nil)))))))) rfl ?_;rintro _ K _ ⟨b16,rfl,rfl,rfl⟩ -;refine⟨_,(show Tks _ _ _ from (.cons (.there .here) .nil)).sat,?_⟩
 refine iJ rfl (.none rfl) rfl rfl rfl (gR b b16 7 d xs [[115,101,116],xO t,[32],iI n,[32],iI v,[59]] _ _ _ rfl rfl (by simp at hx ⊢;omega) (by simp)) (.cons (.there .here) (.cons (.there .here) .nil)) rfl ?_;rintro _ K2 _ ⟨rfl,rfl⟩ le2;refine uBg ?_;refine dK rfl (Hl.le_trans le5 le2) ?_;exact⟨_,rfl,rfl,by simp⟩
theorem bRN(K:Hl)(tag:Int)(oct:Bool)(op:Int)(va vb:Value)(a c:List aJ)(d:Nat)(ht:1≤tag∧tag≤3)(hop:op=6∨op=7∨op=8)(ha:Ksl (bN 9) K va a)(hb:Ksl (bN 9) K vb c)(hxa:∀x∈a,x.length≤1000)(hla:a.length≤100000)(hxb:∀x∈c,x.length≤1000)(hlb:c.length≤100000):
  PSp K (.iface 380 (.agg #[i64 tag,.bool oct,i64 op,va,vb])) (.mat tag oct op a c) d:=by
 refine⟨_,_,_,rfl,bCZ _,fun b xs K' le hx=>?_⟩
 have ha:=ha.mono le;have hb:=hb.mono le;obtain⟨sa,sn,sc,rfl⟩:=ha.isSlice;obtain⟨ta,tn,tc,rfl⟩:=hb.isSlice;have hnm:=bEN ht;have hsl:bAN.length=4:=rfl;simp only[prn,List.length_append]at hx ⊢;have hon:(rV op).length≤8:=(by rcases hop with rfl|rfl|rfl <;> decide);refine a8 Tryz.func435 rfl Tryz.ntmps435 rfl rfl fun F w=>?_;refine zz3 ?_;rintro _ K _ ⟨b2,rfl,rfl,rfl⟩ -;refine zz5 ?_;refine cC aYE rfl ?_;rintro _ K _ ⟨b5,rfl,rfl,rfl⟩ -;refine uBs ?_;refine cA (aGF Tryz.underlying535 Tryz.underlying3 rfl rfl rfl ?_ bF) ?_
 ·rfl
 rintro _ K _ ⟨rfl,rfl⟩ -;refine uBs ?_;refine cA (aGF Tryz.underlying535 Tryz.underlying3 rfl rfl rfl ?_ bF) ?_
 ·rfl
 rintro _ K _ ⟨rfl,rfl⟩ -;refine uBs ?_;refine cA (aGF Tryz.underlying535 Tryz.underlying3 rfl rfl rfl ?_ bF) ?_
 ·rfl
 rintro _ K _ ⟨rfl,rfl⟩ -;refine zz3 ?_;refine aA (gN (v:=.agg #[.int .u8 0,str (rV op),i64 0,i64 0]) (aSR (k:=op) Tryz.underlying535 Tryz.underlying3 tv202 rfl rfl (.own (.here))) (by rcases hop with rfl|rfl|rfl <;> rfl)) rfl ?_;refine zz1 ?_;refine cC (bH (z0:=[(str [])]) cG tz9 rfl rfl rfl rfl (.cons rfl rfl rfl (.cons .nil) .nil)) rfl ?_;rintro _ K _ ⟨b14,rfl,rfl,rfl⟩ -;refine aX rfl rfl (gR b b14 1 d xs [rV op] _ _ _ rfl rfl gAI (by simp)) (.cons .here (.cons (.there (.there .here)) .nil)) rfl ?_;rintro _ K2 _ ⟨rfl,rfl⟩ le2;refine zz2 ?_;refine gV (fun(K3:Hl)=>K2.le K3) (fun _=>[(1,ptr b),(2,ptr b2)]) (fun K3=>K3) (fun _=>[pt b2 (aZ [i64 tag,.bool oct,i64 op,.slice sa sn sc,.slice ta tn tc] 380),pbl b d (xs++rV op++(if oct=true then aBC else []))]) ?_ ?_
 ·refine zz7 ?_;refine eO 18 rfl (fun h18=>?_) (fun h18=>?_)
  ·refine zz2 ?_;refine cC (bH (z0:=[(str [])]) cG tz9 rfl rfl rfl rfl (.cons rfl rfl rfl (.cons .nil) .nil)) rfl ?_;rintro _ K _ ⟨b20,rfl,rfl,rfl⟩ -;refine aX rfl rfl (gR b b20 1 d _ [aBC] _ _ _ rfl rfl (by simp only[List.flatten_cons,List.flatten_nil,List.append_nil,List.length_append];simp only[aBC,List.length_cons,List.length_nil];omega) (by simp)) (.cons .here (.cons .here .nil)) rfl ?_;rintro _ K3 _ ⟨rfl,rfl⟩ le3;refine aG ?_
   (refine aU (.cons (.there (.there .here)) (.cons .here .nil)) ?_;exact cN K3 le3 (.cons 1 rfl (.cons 2 rfl .nil)) rfl (by rw[if_pos h18];simp only[List.flatten_cons,List.flatten_nil,List.append_nil];exact fun _ h=>h))
  refine aW ?_
  (refine aU (.cons (.there (.there .here)) (.cons .here .nil)) ?_;exact cN _ (Hl.le_refl _) (.cons 1 rfl (.cons 2 rfl .nil)) rfl (by rw[if_neg (by rw[h18];simp)];simp only[List.flatten_cons,List.flatten_nil,List.append_nil];exact fun _ h=>h))
 intro K3 le3;refine dD (anc:=[0,0,0,4,12,30,62,0,128,384,0,1024,3968,8190,16383]) (ord:=[0,2,3,4,7,8,9,10,11,12,1,5,6,13,14]) [1,13,14] [14] mixed gAH (.cons .here .nil) ?_;refine zz6 ?_;refine yW rfl (.none rfl) rfl rfl rfl rfl (fun K1 le1=>(aQ7 (aEO _ a _ (ha.mono (Hl.le_trans le2 (Hl.le_trans le3 le1))) hxa hla))) rfl ?_;refine zz2 ?_;refine yW rfl (.none rfl) rfl rfl rfl rfl (fun K1 le1=>(aQ7 (aEO _ c _ (hb.mono (Hl.le_trans le2 (Hl.le_trans le3 le1))) hxb hlb))) rfl ?_;refine sY rfl rfl (.none rfl) rfl rfl (aFS (f:=fun b=>.slice (some ⟨b,0,none⟩) 4 4) (bH (z0:=[(str []),(str []),(str []),(str [])]) cG tz9 rfl rfl rfl rfl (.cons rfl rfl rfl (.cons .nil) (.cons rfl rfl rfl (.skip (.cons .nil)) (.cons rfl rfl rfl (.skip (.skip (.cons .nil))) (.cons rfl rfl rfl (.skip (.skip (.skip (.cons .nil)))) .nil))))) (fun _ _ _ h=>h)) rfl ?_;rintro _ K23 _ ⟨b23,rfl,hb23,rfl⟩ le23;refine⟨_,(show Tks _ _ _ from (.cons .here .nil)).sat,?_⟩
 refine aK rfl rfl (.none rfl) rfl rfl (bE (k:=bN 9) (xs:=bAN) (j:=tag.toNat) cG rfl (.known (.inr ⟨b23,0,4,_,_,rfl,⟨_,hb23⟩,rfl⟩)) rfl aI aI) rfl ?_;refine aK rfl rfl (.none rfl) rfl rfl (dP (o:=0) (k:=bN 9) (xs:=bAN) (v:=.slice (some ⟨b23,0,none⟩) 4 4) ts9 rfl (.known (.inr ⟨b23,0,4,_,_,rfl,⟨_,hb23⟩,rfl⟩)) hnm rfl) rfl ?_;refine sY rfl rfl (.none rfl) rfl rfl (bH (z0:=[(str []),(str []),(str []),(str []),(str [])]) cG tz9 rfl rfl rfl rfl (.cons rfl rfl rfl (.cons .nil) (.cons rfl rfl rfl (.skip (.cons .nil)) (.cons rfl rfl rfl (.skip (.skip (.cons .nil))) (.cons rfl rfl rfl (.skip (.skip (.skip (.cons .nil)))) (.cons rfl rfl rfl (.skip (.skip (.skip (.skip (.cons .nil))))) .nil)))))) rfl ?_;rintro _ K _ ⟨b35,rfl,rfl,rfl⟩ -;refine⟨_,(show Tks _ _ _ from (.cons (.there .here) .nil)).sat,?_⟩
 refine iJ rfl (.none rfl) rfl rfl rfl (gR b b35 5 d _ [aBK tag,[32],oE a,[32],oE c] _ _ _ rfl rfl (by simp only[List.flatten_cons,List.flatten_nil,List.append_nil,List.length_append,List.length_cons,List.length_nil]at hx ⊢;omega) (by simp)) (.cons (.there .here) (.cons (.there .here) .nil)) rfl ?_;rintro _ K4 _ ⟨rfl,rfl⟩ le4;refine uBg ?_;refine dK rfl (Hl.le_trans le2 (Hl.le_trans le3 (Hl.le_trans le23 le4))) ?_;exact⟨_,rfl,rfl,by simp⟩
theorem bRO(K:Hl)(v:Value)(t:Tree)(d:Nat)(hv:PSp K v t d):PSp K (.iface 293 (.agg #[v])) (.not_ t) d:=by
 obtain⟨ty,u,f,rfl,hm,hs⟩:=hv;refine⟨_,_,_,rfl,bCT _,fun b xs K' le hx=>?_⟩
 simp only[prn,List.length_append,List.length_cons,List.length_nil]at hx ⊢;refine a8 Tryz.func429 rfl Tryz.ntmps429 rfl rfl fun F w=>?_;refine zz3 ?_;rintro _ K _ ⟨b2,rfl,rfl,rfl⟩ -;refine zz5 ?_;refine cC (bH (z0:=[(str [])]) cG tz9 rfl rfl rfl rfl (.cons rfl rfl rfl (.cons .nil) .nil)) rfl ?_;rintro _ K _ ⟨b5,rfl,rfl,rfl⟩ -;refine aX rfl rfl (gR b b5 1 d xs [[110,111,116,32]] _ _ _ rfl rfl gAI (by simp)) (.cons .here (.cons (.there .here) .nil)) rfl ?_;rintro _ K2 _ ⟨rfl,rfl⟩ le2;refine zz6 ?_;refine jA rfl rfl hm (hs b _ _ (Hl.le_trans le le2) gAI) (.cons .here .nil) rfl ?_;rintro _ K3 _ ⟨rfl,rfl⟩ le3;refine uAz ?_;refine dK rfl (Hl.le_trans le2 le3) ?_;exact⟨_,rfl,rfl,by simp⟩
end Go.Proofs
end
section
attribute [local irreducible] Go.SL.T Go.SL.OL Go.SL.D Go.SL.DL Go.SL.Ev Go.SL.Ef Go.SL.EfS
set_option maxRecDepth 4000
namespace Go.Proofs
open Go Go.SL Go.Syn
theorem PSp.mono{K K':Hl}{v:Value}{t:Tree}{d:Nat}(h:PSp K v t d)(le:K.le K'):PSp K' v t d:=let ⟨ty,u,f,h1,h2,h3⟩:=h;⟨ty,u,f,h1,h2,fun b xs K2 le2=>h3 b xs K2 (Hl.le_trans le le2)⟩
def BdS(K:Hl)(sv:Value)(t:Tree)(d:Nat):Prop:=∀(b:Nat) (xs:aJ) (K':Hl),K.le K'→xs.length+(prn t d true).length≤100000000000→Sp Tryz.prog 62 [ptr b,sv] K' [pbl b d xs] (Ret fun q K'' L'=>q=.tuple #[]∧L'=[pbl b d (xs++prn t d true)])
def PrA(K:Hl):Tree→Nat→List (Cell×Cell)→Prop
 | .tnil,_,us=>us=[]
 | .tcons t l,d,us=>∃v xs,us=(v,u0)::xs∧PSp K v.1 t d∧PrA K l d xs
 | .cnil,_,us=>us=[]
 | .ccons t l,d,us=>∃v xs,us=(v,u0)::xs∧PSp K v.1 t d∧PrA K l d xs
 | .bnil,_,us=>us=[]
 | .bcons t b l,d,us=>∃v sv xs,us=(v,sv)::xs∧(PSp K v.1 t d)∧BdS K sv.1 b (d+1)∧PrA K l d xs
 | .belse b l,d,us=>∃sv xs,us=(⟨.nilIface,rfl⟩,sv)::xs∧BdS K sv.1 b (d+1)∧PrA K l d xs
 |t,d,us=>∃v,us=[(v,u0)]∧PSp K v.1 t d
theorem BdS.mono{K K':Hl}{v:Value}{t:Tree}{d:Nat}(h:BdS K v t d)(le:K.le K'):BdS K' v t d:=fun b xs K2 le2=>h b xs K2 (Hl.le_trans le le2)
theorem PrA.mono{K K':Hl}(le:K.le K'):∀ {t:Tree} {d:Nat} {us:List (Cell×Cell)},PrA K t d us→PrA K' t d us:=by
 intro t;induction t with
 |tcons t l ih1 ih2=>rintro d us ⟨v,xs,e,h1,h2⟩;exact⟨v,xs,e,h1.mono le,ih2 h2⟩
 |ccons t l ih1 ih2=>rintro d us ⟨v,xs,e,h1,h2⟩;exact⟨v,xs,e,h1.mono le,ih2 h2⟩
 |bcons t b l ih1 ih2 ih3=>rintro d us ⟨v,sv,xs,e,h1,h2,h3⟩;exact⟨v,sv,xs,e,h1.mono le,h2.mono le,ih3 h3⟩
 |belse b l ih1 ih2=>rintro d us ⟨sv,xs,e,h2,h3⟩;exact⟨sv,xs,e,h2.mono le,ih2 h3⟩
 |tnil=>intro d us h;exact h
 |cnil=>intro d us h;exact h
 |bnil=>intro d us h;exact h
 |_=>rintro d us ⟨v,e,h1⟩;exact⟨v,e,h1.mono le⟩
def sepB(i:Nat):aJ:=if isz i=true then []else [44,32]
theorem bT3{K:Hl}{rest:Tree}{d i:Nat}{us:List (Cell×Cell)}(hw:wf rest 1=true)(h:PrA K rest d (us.drop i))(hi:i < us.length):∃t l v,rest=.tcons t l∧(us.map (·.1))[i]?=some v∧PSp K v.1 t d∧PrA K l d (us.drop (i+1))∧wf l 1=true∧
  prn rest d (isz i)=sepB i++prn t d true++prn l d false:=by
 have hd:us.drop i=us[i]::us.drop (i+1):=List.drop_eq_getElem_cons hi;cases rest <;> simp only[wf]at hw <;> try (simp at hw;done)
 case tnil=>rw[hd]at h;cases h
 case tcons t l=>
  obtain⟨v,xs,e,h1,h2⟩:=h;rw[hd]at e
  injection e with e1 e2
  subst e2;simp at hw;refine⟨t,l,v,rfl,by simp[List.getElem?_eq_getElem hi,e1],h1,h2,hw.2,?_⟩
  simp only[prn,sepB]
theorem bJI{K:Hl}{rest:Tree}{d i:Nat}{us:List (Cell×Cell)}(hw:wf rest 1=true)(h:PrA K rest d (us.drop i))(hi:us.length≤i)(f:Bool):prn rest d f=[]:=by
 rw[List.drop_of_length_le hi]at h;cases rest <;> simp only[wf]at hw <;> try (simp at hw;done)
 case tnil=>rfl
 case tcons t l=>obtain⟨v,xs,e,_⟩:=h;cases e
theorem bNM(K:Hl)(all:Bool)(l:Tree)(xs0:List (Cell×Cell))(sv:Value)(d:Nat)(hp:PrA K l d xs0)(hw:wf l 1=true)(hs:Ksl (e7 288) K sv (xs0.map (·.1)))(hxl:xs0.length≤1000000):PSp K (.iface 376 (.agg #[.bool all,sv])) (.many all l) d:=by
 refine⟨_,_,_,rfl,bCY _,fun b xs K' le hx=>?_⟩
 have hs:=hs.mono le;have hp:=hp.mono le;obtain⟨sa,sn,sc,rfl⟩:=hs.isSlice;have hml:(xs0.map (·.1)).length=xs0.length:=List.length_map ..;simp only[prn,List.length_append,List.length_cons,List.length_nil]at hx ⊢;have hh:(if all=true then [97,108,108,111,102,32,40]else [97,110,121,111,102,32,40]:aJ).length=7:=by split <;> rfl
 refine a8 Tryz.func434 rfl Tryz.ntmps434 rfl rfl fun F w=>?_;refine zz3 ?_;rintro _ K _ ⟨b2,rfl,rfl,rfl⟩ -;refine zz2 ?_;refine gV (fun(K3:Hl)=>K.le K3) (fun _=>[(1,ptr b),(2,ptr b2)]) (fun K3=>K3) (fun _=>[pt b2 (aZ [.bool all,.slice sa sn sc] 376),pbl b d (xs++(if all=true then [97,108,108,111,102,32,40]else [97,110,121,111,102,32,40]))]) ?_ ?_
 ·refine zz6 ?_;refine eO 7 rfl (fun h7=>?_) (fun h7=>?_)
  ·refine zz2 ?_;refine cC (bH (z0:=[(str [])]) cG tz9 rfl rfl rfl rfl (.cons rfl rfl rfl (.cons .nil) .nil)) rfl ?_;rintro _ K _ ⟨b9,rfl,rfl,rfl⟩ -;refine aX rfl rfl (gR b b9 1 d _ [[97,108,108,111,102,32,40]] _ _ _ rfl rfl gAI (by simp)) (.cons .here (.cons (.there .here) .nil)) rfl ?_;rintro _ K2 _ ⟨rfl,rfl⟩ le2;refine aG ?_;refine uAp ?_;exact cN _ le2 (.cons 1 rfl (.cons 2 rfl .nil)) rfl (by rw[if_pos h7];simp only[List.flatten_cons,List.flatten_nil,List.append_nil];exact fun _ h=>h)
  refine zz2 ?_;refine cC (bH (z0:=[(str [])]) cG tz9 rfl rfl rfl rfl (.cons rfl rfl rfl (.cons .nil) .nil)) rfl ?_;rintro _ K _ ⟨b12,rfl,rfl,rfl⟩ -;refine aX rfl rfl (gR b b12 1 d _ [[97,110,121,111,102,32,40]] _ _ _ rfl rfl gAI (by simp)) (.cons .here (.cons (.there .here) .nil)) rfl ?_;rintro _ K2 _ ⟨rfl,rfl⟩ le2;refine aG ?_;refine uAp ?_;exact cN _ le2 (.cons 1 rfl (.cons 2 rfl .nil)) rfl (by rw[if_neg (by rw[h7];simp)];simp only[List.flatten_cons,List.flatten_nil,List.append_nil];exact fun _ h=>h)
 intro K3 le3;have hs:=hs.mono le3;have hp:=hp.mono le3;refine zz5 ?_;refine aA (bO (k:=e7 288) rfl Tryz.underlying374 rfl (.known hs)) rfl ?_;refine zz4 ?_;refine n8 (fun(K4:Hl) (i:Nat) (rest:Tree) (acc:aJ)=>K3.le K4∧i≤xs0.length∧(wf rest 1=true∧PrA K4 rest d (xs0.drop i))∧acc++prn rest d (isz i)=xs++(if all=true then [97,108,108,111,102,32,40]else [97,110,121,111,102,32,40])++prn l d true) (fun _ i _ _=>[(1,ptr b),(2,ptr b2),(15,.slice sa sn sc),(16,i64 (xs0.map (·.1)).length),(17,i64 i)]) (fun K4 _ _ _=>K4) (fun _ _ _ acc=>[pt b2 (aZ [.bool all,.slice sa sn sc] 376),pbl b d acc]) (fun _ i _ _=>xs0.length - i) _ 0 l _ ⟨Hl.le_refl _,Nat.zero_le _,⟨hw,hp⟩,rfl⟩ (.cons 1 rfl (.cons 2 rfl (.cons 15 rfl (.cons 16 rfl (.cons 17 rfl .nil))))) rfl (fun _ h=>h) ?_;intro K4 i rest acc ⟨le4,hi,⟨hwr,hpr⟩,htx⟩;have hs4:=hs.mono le4;refine zz6 ?_;refine bK 18 rfl (fun h18=>?_) (fun h18=>?_)
 ·have hlt:i < xs0.length:=aI;obtain⟨t2,l2,v2,rfl,hv2,⟨ty2,u2,f2,hve,hm2,hps⟩,hpl,hwl,hpn⟩:=bT3 hwr hpr hlt;have htl:=congrArg List.length htx;rw[hpn]at htl;simp only[List.length_append,hh]at htl;refine zz7 ?_;refine aA (bE (k:=e7 288) (j:=i) u6 rfl (.known hs4) rfl rfl aI) rfl ?_;refine aA (gN (v:=.iface ty2 u2) (dP (o:=0) (k:=e7 288) aAI rfl (.known hs4) hv2 rfl) hve) rfl ?_;refine zz4 ?_;refine gV (fun(K5:Hl)=>K4.le K5) (fun _=>[(1,ptr b),(2,ptr b2),(5,.iface ty2 u2),(15,.slice sa sn sc),(16,i64 (xs0.map (·.1)).length),(17,i64 i)]) (fun K5=>K5) (fun _=>[pt b2 (aZ [.bool all,.slice sa sn sc] 376),pbl b d (acc++sepB i)]) ?_ ?_
  ·refine zz6 ?_;refine bK 23 rfl (fun h23=>?_) (fun h23=>?_)
   ·refine zz2 ?_;refine cC (bH (z0:=[(str [])]) cG tz9 rfl rfl rfl rfl (.cons rfl rfl rfl (.cons .nil) .nil)) rfl ?_;rintro _ K _ ⟨b25,rfl,rfl,rfl⟩ -;refine aX rfl rfl (gR b b25 1 d _ [[44,32]] _ _ _ rfl rfl gAI (by simp)) (.cons .here (.cons (.there .here) .nil)) rfl ?_;rintro _ K25 _ ⟨rfl,rfl⟩ le25;refine aG ?_
    (refine aU (.cons (.there .here) (.cons .here .nil)) ?_;exact cN _ le25 (.cons 1 rfl (.cons 2 rfl (.cons 5 rfl (.cons 15 rfl (.cons 16 rfl (.cons 17 rfl .nil)))))) rfl (by rw[show sepB i=[44,32]from by obtain⟨j,rfl⟩:∃j,i=j+1:=⟨i - 1,by omega⟩;rfl];simp only[List.flatten_cons,List.flatten_nil,List.append_nil];exact fun _ h=>h))
   refine aW ?_;exact cN _ (Hl.le_refl _) (.cons 1 rfl (.cons 2 rfl (.cons 5 rfl (.cons 15 rfl (.cons 16 rfl (.cons 17 rfl .nil)))))) rfl (by rw[show sepB i=[]from by rw[show i=0 by omega];rfl,List.append_nil];exact fun _ h=>h)
  intro K5 le5;refine zz3 ?_;refine jA rfl rfl hm2 (hps b _ _ le5 gAU) (.cons (.there .here) .nil) rfl ?_;rintro _ K6 _ ⟨rfl,rfl⟩ le6;refine zz7 ?_;refine uAp ?_;exact gS _ (i+1) l2 _ ⟨Hl.le_trans le4 (Hl.le_trans le5 le6),by omega,⟨hwl,hpl.mono (Hl.le_trans le5 le6)⟩,by rw[←htx,hpn];simp only[List.append_assoc];rfl⟩ aI (.cons 1 rfl (.cons 2 rfl (.cons 15 rfl (.cons 16 rfl (.cons 17 rfl .nil))))) rfl (fun _ h=>h)
 have hie:i=xs0.length:=aI;subst hie;rw[bJI hwr hpr (Nat.le_refl _),List.append_nil]at htx;subst htx;refine zz7 ?_;refine cC (bH (z0:=[(str [])]) cG tz9 rfl rfl rfl rfl (.cons rfl rfl rfl (.cons .nil) .nil)) rfl ?_;rintro _ K _ ⟨b32,rfl,rfl,rfl⟩ -;refine aX rfl rfl (gR b b32 1 d _ [[41]] _ _ _ rfl rfl (by simp only[List.length_append,hh,List.flatten_cons,List.flatten_nil,List.append_nil,List.length_cons,List.length_nil];omega) (by simp)) (.cons .here (.cons (.there .here) .nil)) rfl ?_;rintro _ K7 _ ⟨rfl,rfl⟩ le7;refine uAz ?_;refine dK rfl (Hl.le_trans le3 (Hl.le_trans le4 le7)) ?_;exact⟨_,rfl,rfl,by simp[List.append_assoc]⟩
theorem bT2{K:Hl}{rest:Tree}{d i:Nat}{us:List (Cell×Cell)}(hw:wf rest 3=true)(h:PrA K rest d (us.drop i))(hi:i < us.length):∃t l v,rest=.ccons t l∧(us.map (·.1))[i]?=some v∧PSp K v.1 t d∧PrA K l d (us.drop (i+1))∧wf l 3=true:=by
 have hd:us.drop i=us[i]::us.drop (i+1):=List.drop_eq_getElem_cons hi;cases rest <;> simp only[wf]at hw <;> try (simp at hw;done)
 case cnil=>rw[hd]at h;cases h
 case ccons t l=>
  obtain⟨v,xs,e,h1,h2⟩:=h;rw[hd]at e
  injection e with e1 e2
  subst e2;simp at hw;exact⟨t,l,v,rfl,by simp[List.getElem?_eq_getElem hi,e1],h1,h2,hw.2⟩
theorem bJH{K:Hl}{rest:Tree}{d i:Nat}{us:List (Cell×Cell)}(hw:wf rest 3=true)(h:PrA K rest d (us.drop i))(hi:us.length≤i):prn rest d true=[]:=by
 rw[List.drop_of_length_le hi]at h;cases rest <;> simp only[wf]at hw <;> try (simp at hw;done)
 case cnil=>rfl
 case ccons t l=>obtain⟨v,xs,e,_⟩:=h;cases e
theorem aEM(b:Nat)(dp:Int)(q:Bool)(v:Value)(xs:aJ){L:List Asn}:∀h,Sat (aT7 b dp q v::sl true (elB 5) v xs::L) h→Sat (pbl b dp xs::L) h:=fun h hh=>oW.2 ⟨v,oW.2 ⟨q,hh⟩⟩
theorem aQR(K:Hl)(l:Tree)(xs0:List (Cell×Cell))(sv:Value)(d:Nat)(hp:PrA K l d xs0)(hw:wf l 3=true)(hs:Ksl (e7 224) K sv (xs0.map (·.1)))(hxl:xs0.length≤1000000)(hd:d≤64):BdS K sv l d:=by
 intro b xs K' le hx;have hs:=hs.mono le;have hp:=hp.mono le;have hml:(xs0.map (·.1)).length=xs0.length:=List.length_map ..;refine a8 Tryz.func62 rfl Tryz.ntmps62 rfl rfl fun F w=>?_;refine zz3 ?_;refine aA (bO (k:=e7 224) rfl Tryz.underlying135 rfl (.known hs)) rfl ?_;refine zz4 ?_;refine n8 (fun(K4:Hl) (i:Nat) (rest:Tree) (acc:aJ)=>K'.le K4∧i≤xs0.length∧(wf rest 3=true∧PrA K4 rest d (xs0.drop i))∧acc++prn rest d true=xs++prn l d true) (fun _ i _ _=>[(0,ptr b),(6,sv),(7,i64 (xs0.map (·.1)).length),(8,i64 i)]) (fun K4 _ _ _=>K4) (fun _ _ _ acc=>[pbl b d acc]) (fun _ i _ _=>xs0.length - i) _ 0 l _ ⟨Hl.le_refl _,Nat.zero_le _,⟨hw,hp⟩,rfl⟩ (.cons 0 rfl (.cons 6 rfl (.cons 7 rfl (.cons 8 rfl .nil)))) rfl (fun _ h=>h) ?_;intro K4 i rest acc ⟨le4,hi,⟨hwr,hpr⟩,htx⟩;have hs4:=hs.mono le4;refine zz6 ?_;refine bK 9 rfl (fun h9=>?_) (fun h9=>?_)
 ·have hlt:i < xs0.length:=aI;obtain⟨t2,l2,v2,rfl,hv2,⟨ty2,u2,f2,hve,hm2,hps⟩,hpl,hwl⟩:=bT2 hwr hpr hlt;have htl:=congrArg List.length htx;simp only[prn,List.length_append,List.length_cons,List.length_nil]at htl;refine zz6 ?_;refine aA (bE (k:=e7 224) (j:=i) aAG rfl (.known hs4) rfl rfl aI) rfl ?_;refine aA (gN (v:=.iface ty2 u2) (dP (o:=0) (k:=e7 224) bP3 rfl (.known hs4) hv2 rfl) hve) rfl ?_;refine zz4 ?_;refine vY fun vb=>vY fun qb=>?_;refine zz6 ?_;refine cF rfl rfl (aOB d hd _) rfl ?_;refine kB (aEM b d qb vb acc) ?_;refine cC (bH (z0:=[(str [])]) cG tz9 rfl rfl rfl rfl (.cons rfl rfl rfl (.cons .nil) .nil)) rfl ?_;rintro _ K _ ⟨b18,rfl,rfl,rfl⟩ -;refine aX rfl rfl (gR b b18 1 d _ [indC d] _ _ _ rfl rfl (by simp only[List.flatten_cons,List.flatten_nil,List.append_nil];omega) (by simp)) (.cons .here (.cons .here .nil)) rfl ?_;rintro _ K5 _ ⟨rfl,rfl⟩ le5;refine zz6 ?_;refine jA rfl rfl hm2 (hps b _ _ le5 (by simp only[List.length_append,List.flatten_cons,List.flatten_nil,List.append_nil];omega)) (.cons .here .nil) rfl ?_;rintro _ K6 _ ⟨rfl,rfl⟩ le6;refine zz4 ?_;refine cC (bH (z0:=[(str [])]) cG tz9 rfl rfl rfl rfl (.cons rfl rfl rfl (.cons .nil) .nil)) rfl ?_;rintro _ K _ ⟨b24,rfl,rfl,rfl⟩ -;refine aX rfl rfl (gR b b24 1 d _ [[10]] _ _ _ rfl rfl (by simp only[List.length_append,List.flatten_cons,List.flatten_nil,List.append_nil,List.length_cons,List.length_nil];omega) (by simp)) (.cons .here (.cons .here .nil)) rfl ?_;rintro _ K7 _ ⟨rfl,rfl⟩ le7;refine zz7 ?_;refine uAa ?_;exact gS _ (i+1) l2 _ ⟨Hl.le_trans le4 (Hl.le_trans le5 (Hl.le_trans le6 le7)),by omega,⟨hwl,hpl.mono (Hl.le_trans le5 (Hl.le_trans le6 le7))⟩,by rw[←htx];simp only[prn,List.append_assoc,List.flatten_cons,List.flatten_nil,List.append_nil]⟩ aI (.cons 0 rfl (.cons 6 rfl (.cons 7 rfl (.cons 8 rfl .nil)))) rfl (fun _ h=>h)
 have hie:i=xs0.length:=aI;subst hie;rw[bJH hwr hpr (Nat.le_refl _),List.append_nil]at htx;subst htx;refine zz4 ?_;refine dK rfl le4 ?_;exact⟨_,rfl,rfl,rfl⟩
def aHN(o:Option Tree)(d i:Nat):aJ:=match o with
 |some t=>(if isz i=true then [105,102,32]else [32,101,108,115,105,102,32])++prn t d true
 |none=>[32,101,108,115,101]
theorem bT1{K:Hl}{rest:Tree}{d i:Nat}{us:List (Cell×Cell)}(hw:wf rest 4=true)(h:PrA K rest d (us.drop i))(hi:i < us.length):∃o bt l x,us[i]?=some x∧(match o with|some t=>PSp K x.1.1 t d|none=>x.1.1=.nilIface)∧BdS K x.2.1 bt (d+1)∧PrA K l d (us.drop (i+1))∧wf l 4=true∧
  prn rest d (isz i)=aHN o d i++[32,123,10]++prn bt (d+1) true++(indC d++[125])++prn l d false:=by
 have hd:us.drop i=us[i]::us.drop (i+1):=List.drop_eq_getElem_cons hi;cases rest <;> simp only[wf]at hw <;> try (simp at hw;done)
 case bnil=>rw[hd]at h;cases h
 case bcons t b l=>
  obtain⟨v,sv,xs,e,h1,h2,h3⟩:=h;rw[hd]at e
  injection e with e1 e2
  subst e2;simp at hw;exact⟨some t,b,l,_,List.getElem?_eq_getElem hi,by rw[e1];exact h1,by rw[e1];exact h2,h3,hw.2.2,by simp only[prn,aHN]⟩
 case belse b l=>
  obtain⟨sv,xs,e,h2,h3⟩:=h;rw[hd]at e
  injection e with e1 e2
  subst e2;simp at hw;exact⟨none,b,l,_,List.getElem?_eq_getElem hi,by rw[e1],by rw[e1];exact h2,h3,hw.2,by simp only[prn,aHN]⟩
theorem bJG{K:Hl}{rest:Tree}{d i:Nat}{us:List (Cell×Cell)}(hw:wf rest 4=true)(h:PrA K rest d (us.drop i))(hi:us.length≤i)(f:Bool):prn rest d f=[]:=by
 rw[List.drop_of_length_le hi]at h;cases rest <;> simp only[wf]at hw <;> try (simp at hw;done)
 case bnil=>rfl
 case bcons t b l=>obtain⟨v,sv,xs,e,_⟩:=h;cases e
 case belse b l=>obtain⟨sv,xs,e,_⟩:=h;cases e
end Go.Proofs
end
section
attribute [local irreducible] Go.SL.T Go.SL.OL Go.SL.D Go.SL.DL Go.SL.Ev Go.SL.Ef Go.SL.EfS
set_option maxRecDepth 4000
namespace Go.Proofs
open Go Go.SL Go.Syn
theorem bT0(K:Hl)(bs:Tree)(xs0:List (Cell×Cell))(sv:Value)(d:Nat)(hp:PrA K bs d xs0)(hw:wf bs 4=true)(hs:Ksl (kJ 371) K sv xs0)(hxl:xs0.length≤1000000)(hd:d≤64):PSp K (.iface 311 (.agg #[sv])) (.iff bs) d:=by
 refine⟨_,_,_,rfl,bCX _,fun b xs K' le hx=>?_⟩
 have hs:=hs.mono le;have hp:=hp.mono le;obtain⟨sa,sn,sc,rfl⟩:=hs.isSlice;simp only[prn]at hx ⊢;refine a8 Tryz.func433 rfl Tryz.ntmps433 rfl rfl fun F w=>?_;refine zz3 ?_;rintro _ K _ ⟨b2,rfl,rfl,rfl⟩ -;refine zz6 ?_;refine aA (bO (k:=kJ 371) rfl Tryz.underlying309 rfl (.known hs)) rfl ?_;refine zz4 ?_;refine z8 (.cons (.there .here) .nil) ?_;refine n8 (fun(K4:Hl) (i:Nat) (rest:Tree) (acc:aJ)=>K.le K4∧i≤xs0.length∧(wf rest 4=true∧PrA K4 rest d (xs0.drop i))∧acc++prn rest d (isz i)=xs++prn bs d true) (fun _ i _ _=>[(1,ptr b),(7,.slice sa sn sc),(8,i64 xs0.length),(9,i64 i)]) (fun K4 _ _ _=>K4) (fun _ _ _ acc=>[pbl b d acc]) (fun _ i _ _=>xs0.length - i) _ 0 bs _ ⟨Hl.le_refl _,Nat.zero_le _,⟨hw,hp⟩,rfl⟩ (.cons 1 rfl (.cons 7 rfl (.cons 8 rfl (.cons 9 rfl .nil)))) rfl (fun _ h=>h) ?_;intro K4 i rest acc ⟨le4,hi,⟨hwr,hpr⟩,htx⟩;have hs4:=hs.mono le4;refine zz6 ?_;refine bK 10 rfl (fun h10=>?_) (fun h10=>?_)
 ·have hlt:i < xs0.length:=aI;obtain⟨o2,b2,l2,x2,hx2,ho2,hbd,hpl,hwl,hpn⟩:=bT1 hwr hpr hlt;have htl:=congrArg List.length htx;rw[hpn]at htl;simp only[List.length_append,List.length_cons,List.length_nil]at htl;obtain⟨⟨c0,hc0⟩,⟨s0,hs0⟩⟩:=x2;simp only at ho2 hbd;refine zz7 ?_;refine aA (bE (k:=kJ 371) (j:=i) uY rfl (.known hs4) rfl rfl aI) rfl ?_;refine aA (dC (n:=0) (k:=kJ 371) aBJ rfl (.known hs4) hx2) rfl ?_;refine zz1 ?_;rintro _ K _ ⟨b5,rfl,rfl,rfl⟩ -;refine zz1 ?_;refine cA (cK aBJ rfl rfl rfl bF gAA (.cons (.cons .nil)) gAJ) ?_;rintro _ K _ ⟨rfl,rfl⟩ -;refine zz2 ?_;refine gV (fun(K5:Hl)=>K.le K5) (fun _=>[(1,ptr b),(5,ptr b5),(7,.slice sa sn sc),(8,i64 xs0.length),(9,i64 i)]) (fun K5=>K5) (fun _=>[pt b5 (aZ [c0,s0] 371),pbl b d (acc++aHN o2 d i)]) ?_ ?_
  ·refine bB ?_;rcases o2 with _|t2
   ·have ho2:c0=.nilIface:=ho2;subst ho2;refine zz11 ?_;refine cC (bH (z0:=[(str [])]) cG tz9 rfl rfl rfl rfl (.cons rfl rfl rfl (.cons .nil) .nil)) rfl ?_;rintro _ K _ ⟨b26,rfl,rfl,rfl⟩ -;refine aX rfl rfl (gR b b26 1 d _ [[32,101,108,115,101]] _ _ _ rfl rfl gAI (by simp)) (.cons .here (.cons (.there .here) .nil)) rfl ?_;rintro _ K15 _ ⟨rfl,rfl⟩ le15;refine zz2 ?_
    (refine aU (.cons (.there .here) (.cons .here .nil)) ?_;exact cN _ le15 (.cons 1 rfl (.cons 5 rfl (.cons 7 rfl (.cons 8 rfl (.cons 9 rfl .nil))))) rfl (by simp only[aHN,List.flatten_cons,List.flatten_nil,List.append_nil];exact fun _ h=>h))
   obtain⟨ty2,u2,f2,rfl,hm2,hps⟩:=ho2;simp only[aHN,List.length_append]at htl;refine zz16 ?_;refine bK 28 rfl (fun h28=>?_) (fun h28=>?_)
   ·have hzi:isz i=false:=(by obtain⟨j,rfl⟩:∃j,i=j+1:=⟨i - 1,by omega⟩;rfl);rw[hzi]at htl;refine zz3 ?_;refine cC (bH (z0:=[(str [])]) cG tz9 rfl rfl rfl rfl (.cons rfl rfl rfl (.cons .nil) .nil)) rfl ?_;rintro _ K _ ⟨b32,rfl,rfl,rfl⟩ -;refine aX rfl rfl (gR b b32 1 d _ [[32,101,108,115,105,102,32]] _ _ _ rfl rfl gAI (by simp)) (.cons .here (.cons (.there .here) .nil)) rfl ?_;rintro _ K15 _ ⟨rfl,rfl⟩ le15;refine zz6 ?_;refine jA rfl rfl hm2 (hps b _ _ le15 (by simp at htl ⊢;omega)) (.cons .here .nil) rfl ?_;rintro _ K16 _ ⟨rfl,rfl⟩ le16;refine zz2 ?_
    (refine aU (.cons (.there .here) (.cons .here .nil)) ?_;exact cN _ (Hl.le_trans le15 le16) (.cons 1 rfl (.cons 5 rfl (.cons 7 rfl (.cons 8 rfl (.cons 9 rfl .nil))))) rfl (by simp only[aHN,hzi,if_false,Bool.false_eq_true,List.flatten_cons,List.flatten_nil,List.append_nil,List.append_assoc];exact fun _ h=>h))
   have hzi:isz i=true:=(by rw[show i=0 by omega];rfl);rw[hzi]at htl;refine zz3 ?_;refine cC (bH (z0:=[(str [])]) cG tz9 rfl rfl rfl rfl (.cons rfl rfl rfl (.cons .nil) .nil)) rfl ?_;rintro _ K _ ⟨b15,rfl,rfl,rfl⟩ -;refine aX rfl rfl (gR b b15 1 d _ [[105,102,32]] _ _ _ rfl rfl gAI (by simp)) (.cons .here (.cons (.there .here) .nil)) rfl ?_;rintro _ K15 _ ⟨rfl,rfl⟩ le15;refine zz6 ?_;refine jA rfl rfl hm2 (hps b _ _ le15 (by simp at htl ⊢;omega)) (.cons .here .nil) rfl ?_;rintro _ K16 _ ⟨rfl,rfl⟩ le16;refine zz2 ?_
   (refine aU (.cons (.there .here) (.cons .here .nil)) ?_;exact cN _ (Hl.le_trans le15 le16) (.cons 1 rfl (.cons 5 rfl (.cons 7 rfl (.cons 8 rfl (.cons 9 rfl .nil))))) rfl (by simp only[aHN,hzi,if_true,List.flatten_cons,List.flatten_nil,List.append_nil,List.append_assoc];exact fun _ h=>h))
  intro K5 le5;refine zz3 ?_;refine cC (bH (z0:=[(str [])]) cG tz9 rfl rfl rfl rfl (.cons rfl rfl rfl (.cons .nil) .nil)) rfl ?_;rintro _ K _ ⟨b39,rfl,rfl,rfl⟩ -;refine aX rfl rfl (gR b b39 1 d _ [[32,123,10]] _ _ _ rfl rfl gAI (by simp)) (.cons .here (.cons (.there .here) .nil)) rfl ?_;rintro _ K6 _ ⟨rfl,rfl⟩ le6;refine zz3 ?_;refine vY fun vb=>vY fun qb=>?_;refine zz8 ?_;refine cA (bP ts3 rfl rfl cJ bF (.succ (.succ .zero)) rfl) ?_;rintro _ K _ ⟨rfl,rfl⟩ -;refine zz7 ?_;refine kB (aEM b (d+1:Nat) qb vb _) ?_;refine aX rfl rfl (hbd b _ _ (Hl.le_trans le5 le6) gAI) (.cons .here .nil) rfl ?_;rintro _ K7 _ ⟨rfl,rfl⟩ le7;refine zz3 ?_;refine vY fun vc=>vY fun qc=>?_;refine zz5 ?_;refine aA (gN (v:=i64 d) (kT rfl rfl aI aI) (by congr 1;omega)) rfl ?_;refine zz2 ?_;refine cA (bP ts3 rfl rfl cJ bF (.succ (.succ .zero)) rfl) ?_;rintro _ K _ ⟨rfl,rfl⟩ -;refine zz2 ?_;refine kF (aEM b d qc vc _) ?_;refine vY fun vd=>vY fun qd=>?_;refine zz6 ?_;refine cF rfl rfl (aOB d hd _) rfl ?_;refine kB (aEM b d qd vd _) ?_;refine cC (bH (z0:=[(str []),(str [])]) cG tz9 rfl rfl rfl rfl (.cons rfl rfl rfl (.cons .nil) (.cons rfl rfl rfl (.skip (.cons .nil)) .nil))) rfl ?_;rintro _ K _ ⟨b65,rfl,rfl,rfl⟩ -;refine aX rfl rfl (gR b b65 2 d _ [indC d,[125]] _ _ _ rfl rfl gAI (by simp)) (.cons .here (.cons .here .nil)) rfl ?_;rintro _ K8 _ ⟨rfl,rfl⟩ le8;refine zz7 ?_;refine uAa ?_;exact gS _ (i+1) l2 _ ⟨Hl.le_trans le4 (Hl.le_trans le5 (Hl.le_trans le6 (Hl.le_trans le7 le8))),by omega,⟨hwl,hpl.mono (Hl.le_trans le5 (Hl.le_trans le6 (Hl.le_trans le7 le8)))⟩,by rw[←htx,hpn];simp only[List.append_assoc,List.flatten_cons,List.flatten_nil,List.append_nil];rfl⟩ aI (.cons 1 rfl (.cons 7 rfl (.cons 8 rfl (.cons 9 rfl .nil)))) rfl (fun _ h=>h)
 have hie:i=xs0.length:=aI;subst hie;rw[bJG hwr hpr (Nat.le_refl _),List.append_nil]at htx;subst htx;refine zz4 ?_;refine dK rfl le4 ?_;exact⟨_,rfl,rfl,rfl⟩
theorem aET{K:Hl}:∀ {t:Tree} {us:List (Cell×Cell)} {k:Nat},wf t k=true→Rep K t us→us.length≤Cmp.cnt t+1:=by
 intro t;induction t with
 |tnil=>intro us k _ h;rw[show us=[]from h];simp
 |cnil=>intro us k _ h;rw[show us=[]from h];simp
 |bnil=>intro us k _ h;rw[show us=[]from h];simp
 |tcons t l ih1 ih2=>
  rintro us k hw ⟨v,xs,h1,h2,rfl⟩;simp[wf]at hw;have:=ih2 hw.2.2 h2;have hc:1≤Cmp.cnt t:=by cases t <;> simp[wf]at hw <;> simp[Cmp.cnt]
  simp only[List.length_cons,Cmp.cnt];omega
 |ccons t l ih1 ih2=>
  rintro us k hw ⟨v,xs,h1,h2,rfl⟩;simp[wf]at hw;have:=ih2 hw.2.2 h2;have hc:1≤Cmp.cnt t:=by cases t <;> simp[wf]at hw <;> simp[Cmp.cnt]
  simp only[List.length_cons,Cmp.cnt];omega
 |bcons t b l ih1 ih2 ih3=>
  rintro us k hw ⟨v,ys,sv,xs,h1,_,h2,_,h3,rfl⟩;simp[wf]at hw;have:=ih3 hw.2.2.2 h3;simp only[List.length_cons,Cmp.cnt];omega
 |belse b l ih1 ih2=>
  rintro us k hw ⟨ys,sv,xs,h2,_,h3,rfl⟩;simp[wf]at hw;have:=ih2 hw.2.2 h3;simp only[List.length_cons,Cmp.cnt];omega
 |const b=>intro us k _ h;rw[show us=_ from h];simp
 |not_ t ih=>rintro us k _ ⟨v,_,rfl⟩;simp
 |many all l ih=>rintro us k _ ⟨xs,sv,_,_,rfl⟩;simp
 |mat tag oct op a b=>rintro us k _ ⟨va,vb,_,_,rfl⟩;simp
 |exi a=>rintro us k _ ⟨va,_,rfl⟩;simp
 |siz tag n=>intro us k _ h;rw[show us=_ from h];simp
 |plain op=>intro us k _ h;rw[show us=_ from h];simp
 |act k a p=>intro us k _ h;rw[show us=_ from h];simp
 |set_ n v t=>intro us k _ h;rw[show us=_ from h];simp
 |iff bs ih=>rintro us k _ ⟨xs,sv,_,_,rfl⟩;simp
theorem aIP{K:Hl}{t:Tree}{d:Nat}{v:Cell}(hw:wf t 0=true∨wf t 2=true)(h:PrA K t d [(v,u0)]):PSp K v.1 t d:=by
 cases t <;> simp only[wf,PrA]at h hw <;> first|(obtain⟨v',e,hp⟩:=h;injection e with e1 _;injection e1 with e2 _;rw[e2];exact hp)|(simp at hw;done)
theorem bNN{K:Hl}(hg:Glob K){n:Nat}(hn:n≤1000):∀ {t:Tree} {d k:Nat} {us:List (Cell×Cell)},Rep K t us→wf t k=true→okT t=true→sOk n t→Cmp.cnt t≤100000→d+dpt t≤64→PrA K t d us:=by
 intro t;induction t with
 |const b=>intro d k us h _ _ _ _ _;exact⟨_,h,bJC K b d⟩
 |not_ t ih=>
  rintro d k us ⟨v,h,rfl⟩ hw ho hs hc hd;simp[wf]at hw;simp only[okT]at ho;simp only[Cmp.cnt]at hc;have hd0:dpt t=0:=by cases t <;> simp[wf]at hw <;> rfl
  exact⟨_,rfl,bRO K v.1 t d (aIP (.inl hw.2) (ih h hw.2 ho hs aI (by rw[hd0];simp only[dpt]at hd;omega)))⟩
 |many all l ih=>
  rintro d k us ⟨xs,sv,h,h2,rfl⟩ hw ho hs hc hd;simp[wf]at hw;simp[okT]at ho;simp only[Cmp.cnt]at hc;have hd0:dpt l=0:=by cases l <;> simp[wf]at hw <;> rfl
  have:=aET hw.2 h;exact⟨_,rfl,bNM K all l xs sv d (ih h hw.2 ho.2 hs aI (by rw[hd0];simp only[dpt]at hd;omega)) hw.2 h2 aI⟩
 |mat tag oct op a b=>
  rintro d k us ⟨va,vb,h1,h2,rfl⟩ hw ho hs hc hd;simp only[okT,decide_eq_true_eq]at ho;exact⟨_,rfl,bRN K tag oct op va vb a b d ⟨ho.1,ho.2.1⟩ aI h1 h2 (fun x hx=>by have:=hs.1 x hx;omega) (by have:=hs.2.2.1;omega) (fun x hx=>by have:=hs.2.1 x hx;omega) (by have:=hs.2.2.2;omega)⟩
 |exi a=>
  rintro d k us ⟨va,h1,rfl⟩ hw ho hs hc hd;exact⟨_,rfl,bRM K va a d h1 (fun x hx=>by have:=hs.1 x hx;omega) (by have:=hs.2;omega)⟩
 |siz tag m=>
  intro d k us h hw ho hs hc hd;simp only[okT,decide_eq_true_eq]at ho;exact⟨_,h,bRT K tag m d hg ho hs⟩
 |tnil=>intro d k us h _ _ _ _ _;exact h
 |cnil=>intro d k us h _ _ _ _ _;exact h
 |bnil=>intro d k us h _ _ _ _ _;exact h
 |tcons t l ih1 ih2=>
  rintro d k us ⟨v,xs,h1,h2,rfl⟩ hw ho hs hc hd;simp[wf]at hw;simp[okT]at ho;simp only[Cmp.cnt]at hc;have hd0:dpt t=0:=by cases t <;> simp[wf]at hw <;> rfl
  have hd1:dpt l=0:=by cases l <;> simp[wf]at hw <;> rfl
  simp only[dpt]at hd;exact⟨v,xs,rfl,aIP (.inl hw.2.1) (ih1 h1 hw.2.1 ho.1 hs.1 aI aI),ih2 h2 hw.2.2 ho.2 hs.2 aI aI⟩
 |plain op=>intro d k us h hw ho _ _ _;exact⟨_,h,bJF K op d⟩
 |act kd a p=>
  intro d k us h hw ho hs _ _;simp only[okT,decide_eq_true_eq]at ho;exact⟨_,h,bRL K kd a p d ho (Nat.le_trans hs hn)⟩
 |set_ m v t=>
  intro d k us h hw ho hs _ _;simp only[okT,decide_eq_true_eq]at ho;exact⟨_,h,bRS K m v t d ho (Nat.le_trans hs.1 hn) (Nat.le_trans hs.2 hn)⟩
 |iff bs ih=>
  rintro d k us ⟨xs,sv,h1,h2,rfl⟩ hw ho hs hc hd;simp[wf]at hw;simp only[okT]at ho;simp only[Cmp.cnt]at hc;simp only[dpt]at hd;have:=aET hw.2 h1;exact⟨_,rfl,bT0 K bs xs sv d (ih h1 hw.2 ho hs aI hd) hw.2 h2 aI aI⟩
 |ccons t l ih1 ih2=>
  rintro d k us ⟨v,xs,h1,h2,rfl⟩ hw ho hs hc hd;simp[wf]at hw;simp[okT]at ho;simp only[Cmp.cnt]at hc;simp only[dpt]at hd;exact⟨v,xs,rfl,aIP (.inr hw.2.1) (ih1 h1 hw.2.1 ho.1 hs.1 aI aI),ih2 h2 hw.2.2 ho.2 hs.2 aI aI⟩
 |bcons t b l ih1 ih2 ih3=>
  rintro d k us ⟨v,ys,sv,xs,h1,hi,h2,h3,h4,rfl⟩ hw ho hs hc hd;simp[wf]at hw;simp[okT]at ho;simp only[Cmp.cnt]at hc;simp only[dpt]at hd;have hd0:dpt t=0:=by cases t <;> simp[wf]at hw <;> rfl
  have:=aET hw.2.2.1 h2;exact⟨v,sv,xs,rfl,aIP (.inl hw.2.1) (ih1 h1 hw.2.1 ho.1 hs.1 aI aI),aQR K b ys sv.1 (d+1) (ih2 h2 hw.2.2.1 ho.2.1 hs.2.1 aI aI) hw.2.2.1 h3 aI aI,ih3 h4 hw.2.2.2 ho.2.2 hs.2.2 aI aI⟩
 |belse b l ih1 ih2=>
  rintro d k us ⟨ys,sv,xs,h2,h3,h4,rfl⟩ hw ho hs hc hd;simp[wf]at hw;simp[okT]at ho;simp only[Cmp.cnt]at hc;simp only[dpt]at hd;have:=aET hw.2.1 h2;exact⟨sv,xs,rfl,aQR K b ys sv.1 (d+1) (ih1 h2 hw.2.1 ho.1 hs.1 aI aI) hw.2.1 h3 aI aI,ih2 h4 hw.2.2 ho.2.2 hs.2 aI aI⟩
end Go.Proofs
end
section
namespace Go.Syn
open Go.Cmp Go.Proofs
theorem aJ5(d:Nat):(indC d).length=2*d:=by rw[aJ6,List.length_replicate]
theorem aEE{n:Nat}{l:List aJ}(hn:n≤1000)(h:∀x∈l,x.length≤n)(hl:l.length≤2*n+1):(oE l).length≤4010006:=by
 have h1:=bCI h;have h2:l.length*(2*n+4)≤2001*2004:=Nat.mul_le_mul aI aI;omega
theorem bRR{n:Nat}(hn:n≤1000):∀ {t:Tree} {d:Nat} {f:Bool},sOk n t→d+dpt t≤64→
  ((wf t 0=true∨wf t 2=true)→(prn t d f).length+1000≤10000000*cnt t)∧((wf t 1=true∨wf t 3=true∨wf t 4=true)→(prn t d f).length≤10000000*cnt t):=by
 intro t;induction t with
 |const b=>intro d f _ _;refine⟨fun _=>?_,fun h=>by simp[wf]at h⟩;simp only[prn,cnt];split <;> simp
 |not_ t ih=>
  intro d f hs hd;refine⟨fun h=>?_,fun h=>by simp[wf]at h⟩
  simp[wf]at h;have hd0:dpt t=0:=by cases t <;> simp[wf]at h <;> rfl
  simp only[dpt]at hd;have:=(ih (d:=d) (f:=true) hs aI).1 (.inl h);simp only[prn,cnt,List.length_append,List.length_cons,List.length_nil];omega
 |many all l ih=>
  intro d f hs hd;refine⟨fun h=>?_,fun h=>by simp[wf]at h⟩
  simp[wf]at h;have hd0:dpt l=0:=by cases l <;> simp[wf]at h <;> rfl
  simp only[dpt]at hd;have:=(ih (d:=d) (f:=true) hs aI).2 (.inl h);have hh:(if all=true then [97,108,108,111,102,32,40]else [97,110,121,111,102,32,40]:aJ).length=7:=by split <;> rfl
  simp only[prn,cnt,List.length_append,List.length_cons,List.length_nil,hh];omega
 |mat tag oct op a b=>
  intro d f hs hd;refine⟨fun h=>?_,fun h=>by simp[wf]at h⟩
  have h1:=aEE hn hs.1 hs.2.2.1;have h2:=aEE hn hs.2.1 hs.2.2.2;have h3:(rV op).length≤8:=by unfold rV;split;decide;split;decide;split <;> decide
  have h4:(aBK tag).length≤10:=by unfold aBK;split;decide;split <;> decide
  have h5:(if oct=true then aBC else []).length≤22:=by split <;> decide
  simp only[prn,cnt,List.length_append,List.length_cons,List.length_nil];omega
 |exi a=>
  intro d f hs hd;refine⟨fun h=>?_,fun h=>by simp[wf]at h⟩
  have h1:=aEE hn hs.1 hs.2;simp only[prn,cnt,List.length_append,List.length_cons,List.length_nil];omega
 |siz tag m=>
  intro d f hs hd;refine⟨fun h=>?_,fun h=>by simp[wf]at h⟩
  have h1:=Lib.itoa_length_le m (by have:=hs.1;omega) (by have:=hs.2;omega);have h2:(vW tag).length≤5:=by unfold vW;split;decide;split <;> decide
  simp only[prn,cnt,List.length_append,List.length_cons,List.length_nil];omega
 |tnil=>intro d f _ _;refine⟨fun h=>by simp[wf]at h,fun _=>by simp[prn]⟩
 |cnil=>intro d f _ _;refine⟨fun h=>by simp[wf]at h,fun _=>by simp[prn]⟩
 |bnil=>intro d f _ _;refine⟨fun h=>by simp[wf]at h,fun _=>by simp[prn]⟩
 |tcons t l ih1 ih2=>
  intro d f hs hd;refine⟨fun h=>by simp[wf]at h,fun h=>?_⟩
  simp[wf]at h;have hd0:dpt t=0:=by cases t <;> simp[wf]at h <;> rfl
  have hd1:dpt l=0:=by cases l <;> simp[wf]at h <;> rfl
  simp only[dpt]at hd;have h1:=(ih1 (d:=d) (f:=true) hs.1 aI).1 (.inl h.1);have h2:=(ih2 (d:=d) (f:=false) hs.2 aI).2 (.inl h.2);have h3:(if f=true then []else [44,32]:aJ).length≤2:=by split <;> simp
  simp only[prn,cnt,List.length_append];omega
 |plain op=>intro d f _ _;refine⟨fun _=>?_,fun h=>by simp[wf]at h⟩;simp only[prn,cnt];split <;> simp
 |act k a p=>
  intro d f hs _;refine⟨fun _=>?_,fun h=>by simp[wf]at h⟩
  have h1:=sL a;have h0:a.length≤n:=hs;have h2:(uJ k).length≤9:=by unfold uJ;split;decide;split;decide;split <;> decide
  simp only[prn,cnt];split
  ·simp
  simp only[List.length_append,List.length_singleton];omega
 |set_ m v t=>
  intro d f hs _;refine⟨fun _=>?_,fun h=>by simp[wf]at h⟩
  have h1:=sL m;have h2:=sL v;have h3:=hs.1;have h4:=hs.2;have h5:(xO t).length≤8:=by unfold xO;split;decide;split;decide;split <;> decide
  simp only[prn,cnt,List.length_append,List.length_cons,List.length_nil];omega
 |iff bs ih=>
  intro d f hs hd;refine⟨fun h=>?_,fun h=>by simp[wf]at h⟩
  simp[wf]at h;simp only[dpt]at hd;have:=(ih (d:=d) (f:=true) hs hd).2 (.inr (.inr h));simp only[prn,cnt];omega
 |ccons c l ih1 ih2=>
  intro d f hs hd;refine⟨fun h=>by simp[wf]at h,fun h=>?_⟩
  simp[wf]at h;simp only[dpt]at hd;have h1:=(ih1 (d:=d) (f:=true) hs.1 aI).1 (.inr h.1);have h2:=(ih2 (d:=d) (f:=true) hs.2 aI).2 (.inr (.inl h.2));simp only[prn,cnt,List.length_append,List.length_cons,List.length_nil,aJ5];omega
 |bcons t b l ih1 ih2 ih3=>
  intro d f hs hd;refine⟨fun h=>by simp[wf]at h,fun h=>?_⟩
  simp[wf]at h;have hd0:dpt t=0:=by cases t <;> simp[wf]at h <;> rfl
  simp only[dpt]at hd;have h1:=(ih1 (d:=d) (f:=true) hs.1 aI).1 (.inl h.1);have h2:=(ih2 (d:=d+1) (f:=true) hs.2.1 aI).2 (.inr (.inl h.2.1));have h3:=(ih3 (d:=d) (f:=false) hs.2.2 aI).2 (.inr (.inr h.2.2));have h4:(if f=true then [105,102,32]else [32,101,108,115,105,102,32]:aJ).length≤7:=by split <;> simp
  simp only[prn,cnt,List.length_append,List.length_cons,List.length_nil,aJ5];omega
 |belse b l ih1 ih2=>
  intro d f hs hd;refine⟨fun h=>by simp[wf]at h,fun h=>?_⟩
  simp[wf]at h;simp only[dpt]at hd;have h2:=(ih1 (d:=d+1) (f:=true) hs.1 aI).2 (.inr (.inl h.1));have h3:=(ih2 (d:=d) (f:=false) hs.2 aI).2 (.inr (.inr h.2));simp only[prn,cnt,List.length_append,List.length_cons,List.length_nil,aJ5];omega
end Go.Syn
end
section
attribute [local irreducible] Go.SL.T Go.SL.OL Go.SL.D Go.SL.DL Go.SL.Ev Go.SL.Ef Go.SL.EfS
set_option maxRecDepth 4000
namespace Go.Proofs
open Go Go.SL Go.Syn
structure TextFit (r:List aJ×Tree):Prop where
 wf:wf r.2 3=true
 ok:okT r.2=true
 strs:sOk 600 r.2
 cnt:Cmp.cnt r.2≤1201
 dpt:dpt r.2≤7
 needs:r.1.length≤1201
 need:∀x∈r.1,x.length≤600
theorem aGQ{r:List aJ×Tree}(h:TextFit r):(prn r.2 0 true).length≤12010000000∧(oE r.1).length≤4010006∧(mF r).length≤12020000000:=by
 have h1:=(bRR (n:=600) (by decide) (d:=0) (f:=true) h.strs (by have:=h.dpt;omega)).2 (.inr (.inl h.wf));have h2:=aEE (n:=600) (by decide) h.need h.needs;have h3:=h.cnt;refine⟨by omega,h2,?_⟩
 unfold mF;split <;> simp only[List.length_append,List.length_cons,List.length_nil] <;> omega
theorem bOU(tb:Nat)(r:List aJ×Tree)(K:Hl)(hg:Glob K)(hf:TextFit r)(hat:ScriptAt K tb r.1 r.2):Sp Tryz.prog 41 [ptr tb 6] K [] (Ret fun v K' L'=>v=str (mF r)∧L'=[]):=by
 obtain⟨l,nv,bv,ys,fz,hb,hl6,hl7,hnv,hbv,hrep,_⟩:=hat.at_;have htl:=aGQ hf;have hpa:=bNN hg (n:=600) (by decide) (d:=0) hrep hf.wf hf.ok hf.strs (by have:=hf.cnt;omega) (by have:=hf.dpt;omega);have hyl:=aET hf.wf hrep;have hbd:=aQR K r.2 ys bv 0 hpa hf.wf hbv (by have:=hf.cnt;omega) (by decide);have hnl:=hf.needs;obtain⟨na,nn0,nc,rfl⟩:=hnv.isSlice;obtain⟨ba,bn,bc,rfl⟩:=hbv.isSlice;refine a8 Tryz.func41 rfl Tryz.ntmps41 rfl rfl fun F w=>?_;refine zz7 ?_;refine aA (cL tb134 tb134f .nil) rfl ?_;refine zz1 ?_;rintro _ K _ ⟨b5,rfl,rfl,rfl⟩ -;refine zz3 ?_;refine gV (fun(K3:Hl)=>K.le K3) (fun _=>[(0,ptr tb 6),(3,ptr b5)]) (fun K3=>K3) (fun _=>[pbl b5 (0:Nat) (if r.1=[]then []else [114,101,113,117,105,114,101,32]++oE r.1++[59,10])]) ?_ ?_
 ·refine aH ?_;refine kF (fH (bJB b5 (0:Nat))) ?_;refine zz4 ?_;refine aA (aL iS rfl (.known hb) hl6) rfl ?_;refine aA (bO (k:=bN 9) rfl Tryz.underlying39 rfl (.known hnv)) rfl ?_;refine zz3 ?_;refine bK 11 rfl (fun h11=>?_) (fun h11=>?_)
  ·have hne:r.1≠[]:=(by intro h;rw[h]at h11;simp at h11);refine zz5 ?_;refine aA (aL iS rfl (.known hb) hl6) rfl ?_;refine aX rfl rfl (aEO _ r.1 _ hnv (fun x hx=>by have:=hf.need x hx;omega) aI) .nil rfl ?_;rintro _ K2 _ ⟨rfl,rfl⟩ le2;refine cC (bH (z0:=[(str []),(str []),(str [])]) cG tz9 rfl rfl rfl rfl (.cons rfl rfl rfl (.cons .nil) (.cons rfl rfl rfl (.skip (.cons .nil)) (.cons rfl rfl rfl (.skip (.skip (.cons .nil))) .nil)))) rfl ?_;rintro _ K _ ⟨b18,rfl,rfl,rfl⟩ -;refine aX rfl rfl (gR b5 b18 3 (0:Nat) [] [[114,101,113,117,105,114,101,32],oE r.1,[59,10]] _ _ _ rfl rfl gAI (by simp)) (.cons .here (.cons .here .nil)) rfl ?_;rintro _ K18 _ ⟨rfl,rfl⟩ le18;refine aG ?_
   (exact cN _ (Hl.le_trans le2 le18) (.cons 0 rfl (.cons 3 rfl .nil)) rfl (by rw[if_neg hne];simp only[List.flatten_cons,List.flatten_nil,List.append_nil,List.nil_append,List.append_assoc];exact fun _ h=>h))
  have hee:r.1=[]:=List.length_eq_zero_iff.1 aI;refine aW ?_
  (exact cN _ (Hl.le_refl _) (.cons 0 rfl (.cons 3 rfl .nil)) rfl (by rw[if_pos hee];exact fun _ h=>h))
 intro K3 le3;have hb:=le3 _ _ hb;refine zz6 ?_;refine aA (aL aL0 rfl (.known hb) hl7) rfl ?_;refine aX rfl rfl (hbd b5 _ _ le3 (by split <;> simp <;> omega)) (.cons .here .nil) rfl ?_;rintro _ K4 _ ⟨rfl,rfl⟩ le4;refine zz7 ?_;refine aX rfl rfl (aQS b5 (0:Nat) _ (by rw[List.length_append];split <;> simp <;> omega) _) (.cons .here .nil) rfl ?_;rintro _ K _ ⟨rfl,rfl,rfl⟩ -;refine zz4 ?_;refine bD rfl rfl (Hl.le_trans le3 le4) ?_;exact⟨_,rfl,rfl,rfl⟩
theorem aU6(b:Nat)(r:List aJ×Tree)(K:Hl)(hg:Glob K)(hf:TextFit r)(hat:aBU K b r):Sp Tryz.prog 24 [ptr b] K [] (Ret fun v K' L'=>v=str (mF r)∧L'=[]):=by
 obtain⟨tb,cv,vs,fz,hb,hs,_,_⟩:=hat;refine a8 Tryz.func24 rfl Tryz.ntmps24 rfl rfl fun F w=>?_;refine zz10 ?_;refine aA (aL aRM rfl (.known hb) rfl) rfl ?_;refine aX rfl rfl (bOU tb r _ hg hf hs) .nil rfl ?_;rintro _ K2 _ ⟨rfl,rfl⟩ le2;refine zz4 ?_;refine bD rfl rfl le2 ?_;exact⟨_,rfl,rfl,rfl⟩
end Go.Proofs
end

/-
  What the proof stands on, part 59: the logic of walks, the walks through the functions, the plain laws. Conditions: as each theorem says. (Merged and shortened by a program.)
-/
import Derived.Lib.ItoaLen
import Derived.Lib.Bytealg
import Derived.Test.YthopmddkpdehiabGreatDoorK14
set_option linter.unusedVariables false
set_option linter.unusedSimpArgs false
set_option linter.defProp false
set_option maxRecDepth 4000
set_option maxHeartbeats 1000000
section
namespace Go.Syn
def jE(c:UInt8):aP:=if c=92 then [92,92]else if c=34 then [92,34]else [c]
def iE(s:aP):aP:=[34]++s.flatMap jE++[34]
def pC(sep:aP):List aP→aP
 | []=>[]
 | [x]=>x
 |x::y::r=>x++sep++pC sep (y::r)
def pQ:List aP→aP
 | [x]=>iE x
 |l=>[91]++pC [44,32] (l.map iE)++[93]
def indC:Nat→aP
 |0=>[]
 |n+1=>[32,32]++indC n
def xQ(op:Int):aP:=if op=6 then [104,101,97,100,101,114]else if op=7 then [101,110,118,101,108,111,112,101]else if op=8 then [115,116,114,105,110,103]else []
def zJ(tag:Int):aP:=if tag=2 then [32,58,99,111,110,116,97,105,110,115]else if tag=3 then [32,58,109,97,116,99,104,101,115]else []
def nV(tag:Int):aP:=if tag=1 then [32,58,108,111,119,101,114]else if tag=2 then [32,58,117,112,112,101,114]else if tag=3 then [32,58,108,101,110,103,116,104]else []
def tF(tag:Int):aP:=if tag=1 then [111,118,101,114]else if tag=2 then [117,110,100,101,114]else []
def vN(k:Int):aP:=if k=2 then [102,105,108,101,105,110,116,111,32]else if k=3 then [114,101,100,105,114,101,99,116,32]else if k=4 then [114,101,106,101,99,116,32]else []
def y9:aP:=[32,58,99,111,109,112,97,114,97,116,111,114,32,34,105,59,111,99,116,101,116,34]
def prn:Tree→Nat→Bool→aP
 | .const b,_,_=>if b=true then [116,114,117,101]else [102,97,108,115,101]
 | .not_ t,d,_=>[110,111,116,32]++prn t d true
 | .many all l,d,_=>(if all=true then [97,108,108,111,102,32,40]else [97,110,121,111,102,32,40])++prn l d true++[41]
 | .mat tag oct op a b,_,_=>xQ op++(if oct=true then y9 else [])++(zJ tag++[32]++pQ a++[32]++pQ b)
 | .exi a,_,_=>[101,120,105,115,116,115,32]++pQ a
 | .siz tag n,_,_=>[115,105,122,101,32,58]++tF tag++[32]++Lib.itoa n
 | .tnil,_,_=>[]
 | .tcons t l,d,f=>(if f=true then []else [44,32])++prn t d true++prn l d false
 | .plain op,_,_=>if op=14 then [115,116,111,112,59]else [100,105,115,99,97,114,100,59]
 | .act k a _,_,_=>if k=1 then [107,101,101,112,59]else vN k++(iE a++[59])
 | .set_ n v tag,_,_=>[115,101,116]++nV tag++[32]++iE n++[32]++iE v++[59]
 | .iff bs,d,_=>prn bs d true
 | .cnil,_,_=>[]
 | .ccons c l,d,_=>indC d++prn c d true++[10]++prn l d true
 | .bnil,_,_=>[]
 | .bcons t b l,d,f=>(if f=true then [105,102,32]else [32,101,108,115,105,102,32])++prn t d true++[32,123,10]++prn b (d+1) true++(indC d++[125])++prn l d false
 | .belse b l,d,_=>[32,101,108,115,101]++[32,123,10]++prn b (d+1) true++(indC d++[125])++prn l d false
def aIK(r:List aP×Tree):aP:=(if r.1=[]then []else [114,101,113,117,105,114,101,32]++pQ r.1++[59,10])++prn r.2 0 true
end Go.Syn
end
section
namespace Go.Proofs
open Go Go.SL Go.Syn
abbrev nilS:Value:=.slice none 0 0
def rcs(f:Nat→Value)(tv:Value):List Value:=(List.range 256).map f++[tv]
def aFU(f:Nat→Value)(tv:Value):(rcs f tv).length=257:=by simp[rcs]
def tZ{f:Nat→Value}{tv:Value}{j:Nat}(h:j < 256):(rcs f tv)[j]?=some (f j):=by
 unfold rcs;rw[xA5 gFC];simp[h]
def aHV(f:Nat→Value)(tv:Value):(rcs f tv)[256]?=some tv:=by
 unfold rcs;rw[xBK (by simp)];simp
def upd(f:Nat→Value)(j:Nat)(v:Value):Nat→Value:=fun i=>if i=j then v else f i
def bI7{f:Nat→Value}{tv v:Value}{j:Nat}(h:j < 256):SetAt (rcs f tv) j v (rcs (upd f j v) tv):=by
 have e:(rcs f tv).set j v=rcs (upd f j v) tv:=by
  unfold rcs;rw[List.set_append_left _ _ gFC]
  congr 1
  apply List.ext_getElem?
  intro i;rw[List.getElem?_set]
  by_cases hi:j=i
  ·subst hi;simp[h,upd]
  simp only[if_neg hi,List.getElem?_map];rcases xAC i 256 with hl|hl
  ·rw[List.getElem?_range hl];simp[upd,Ne.symm hi]
  rw[xAD (by simpa using hl)];rfl
 rw[←e];exact zH (by rw[aFU];omega)
def aP3{f:Nat→Value}{tv v:Value}:SetAt (rcs f tv) 256 v (rcs f v):=by
 have e:(rcs f tv).set 256 v=rcs f v:=by
  unfold rcs;rw[List.set_append_right _ _ (by simp)];simp
 rw[←e];exact zH (by rw[aFU];omega)
def bDC(v:Value)(n:Nat):Spl (List.replicate (n+1) nilS) n [v] ((List.range n).map (fun _=>nilS)++[v]):=by
 have h:=aIE (o:=n) (l:=List.replicate (n+1) nilS) (cs:=[v]) (by simp);have e:(List.replicate (n+1) nilS).take n++[v]++(List.replicate (n+1) nilS).drop (n+[v].length)=(List.range n).map (fun _=>nilS)++[v]:=by
  rw[List.take_replicate,List.drop_replicate,xA6,Nat.min_eq_left (Nat.le_succ n),Nat.sub_self,List.map_const',List.length_range];simp
 rw[e]at h;exact h
def bE3(v:Value):Spl (List.replicate 257 nilS) 256 [v] (rcs (fun _=>nilS) v):=bDC v 256
def bGF{l cs:List Value}(h:l.length=cs.length):Spl l 0 cs cs:=by
 have h2:=aIE (o:=0) (l:=l) (cs:=cs) aH;rw[List.take_zero,xBL,List.drop_eq_nil_of_le aH,xAL]at h2;exact h2
def bI6{f:Nat→Value}{tv:Value}(hf:∀j,(f j).oneCell'=true)(ht:tv.oneCell'=true):∀c∈rcs f tv,c.oneCell'=true:=by
 intro c hc;unfold rcs at hc;rcases xAT.1 hc with h|h
 ·obtain⟨j,_,rfl⟩:=xBF.1 h;exact hf j
 simp at h;subst h;exact ht
def kk(s:Nat):UInt8:=if s=0 then 34 else 92
def nn(s:Nat):List UInt8:=if s=0 then [92,34]else [92,92]
def olds:List (List UInt8):=[[92],[92,92],[34],[92,34]]
def aB6(s:Nat):List (List UInt8):=[[34],[92]].take s
def bEJ{s:Nat}(h:s≤1):olds[2 - 2*s]?=some [kk s]∧olds[3 - 2*s]?=some (nn s)∧aB6 (s+1)=aB6 s++[[kk s]]:=by
 rcases Nat.le_one_iff_eq_zero_or_eq_one.1 h with rfl|rfl <;> exact⟨Y,Y,Y⟩
def bEK{s:Nat}(h:s < 2):∃c x,olds[2*s]?=some [c]∧olds[2*s+1]?=some x∧x.length=2:=by
 rcases Nat.le_one_iff_eq_zero_or_eq_one.1 (Nat.le_of_lt_succ h)with rfl|rfl
 ·exact⟨92,[92,92],Y,Y,Y⟩
 exact⟨34,[92,34],Y,Y,Y⟩
def isz:Nat→Bool
 |0=>true
 |_+1=>false
def Done(K:Hl)(s:Nat)(f:Nat→Value):Prop:=∀j,(∃i,i < s∧j=(kk i).toNat∧(∃a c,f j=.slice (some a) 2 c)∧Ksl (elB 5) K (f j) (nn i))∨((∀i,i < s→j≠(kk i).toNat)∧f j=nilS)
def aXO{K K':Hl}{s:Nat}{f:Nat→Value}(h:Done K s f)(le:K.le K'):Done K' s f:=fun j=>(h j).imp_left fun⟨i,h1,h2,h3,h4⟩=>⟨i,h1,h2,h3,h4.mono le⟩
def aXQ(K:Hl):Done K 0 (fun _=>nilS):=fun j=>.inr ⟨fun i h=>by omega,rfl⟩
def bMH(s:Nat):(nn s).length=2:=by unfold nn;split <;> rfl
def bDT{e:TypeId}{K:Hl}{v:Value}{xs:List UInt8}(h:Ksl (elB e) K v xs)(h0:xs.length=2):∃a c,v=.slice (some a) 2 c:=by
 rcases h with ⟨a,c,rfl,rfl⟩|⟨b,off,cap,cells,fz,rfl,_⟩
 ·simp at h0
 rw[h0];exact⟨_,_,Y⟩
def bC1{K:Hl}{s:Nat}{f:Nat→Value}(h:Done K s f)(hs:s≤1):f (kk s).toNat=nilS:=by
 rcases h (kk s).toNat with ⟨i,h1,h2,_⟩|⟨_,h⟩
 ·have:i=0∧s=1:=by omega
  obtain⟨rfl,rfl⟩:=this;exact absurd h2 (by decide)
 exact h
def aXP{K K':Hl}{s:Nat}{f:Nat→Value}{v:Value}(h:Done K s f)(le:K.le K')(hv:Ksl (elB 5) K' v (nn s)):Done K' (s+1) (upd f (kk s).toNat v):=by
 intro j
 by_cases hj:j=(kk s).toNat
 ·refine .inl ⟨s,by omega,hj,?_⟩
  unfold upd;rw[x7 hj];exact⟨bDT hv (bMH s),hv⟩
 unfold upd;rw[x5 hj];rcases h j with ⟨i,h1,h2,h3,h4⟩|⟨h1,h2⟩
 ·exact .inl ⟨i,by omega,h2,h3,h4.mono le⟩
 refine .inr ⟨fun i hi=>?_,h2⟩
 rcases xAC i s with h|h
 ·exact h1 i h
 have:i=s:=by omega
 subst this;exact hj
def isQ(c:UInt8):Bool:=decide (c=34∨c=92)
def aSF{K:Hl}{f:Nat→Value}(h:Done K 2 f)(c:UInt8):(isQ c=true∧(∃a n,f c.toNat=.slice (some a) 2 n)∧Ksl (elB 5) K (f c.toNat) (jE c)∧(jE c).length=2)∨(isQ c=false∧f c.toNat=nilS∧jE c=[c]):=by
 have h34:c.toNat=34→c=34:=fun e=>xAO.1 e
 have h92:c.toNat=92→c=92:=fun e=>xAO.1 e
 rcases h c.toNat with ⟨i,h1,h2,h3,h4⟩|⟨h1,h2⟩
 ·have hi:i=0∨i=1:=by omega
  rcases hi with rfl|rfl
  ·have e:=h34 h2;subst e;exact .inl ⟨by decide,h3,h4,rfl⟩
  have e:=h92 h2;subst e;exact .inl ⟨by decide,h3,h4,rfl⟩
 have n34:c≠34:=fun e=>h1 0 aH gGB
 have n92:c≠92:=fun e=>h1 1 aH gGB
 refine .inr ⟨by simp[isQ,n34,n92],h2,by unfold jE;rw[x5 n92,x5 n34]⟩
def cntQ(s:aP):Nat:=s.countP isQ
def encQ(s:aP):aP:=s.flatMap jE
def aBQ:∀s:aP,(encQ s).length=s.length+cntQ s
 | []=>rfl
 |c::s=>by
  have ih:=aBQ s;unfold encQ cntQ at ih ⊢;rw[xBM,xAF,ih,List.countP_cons,xBI];have:(jE c).length=1+if isQ c=true then 1 else 0:=by
   unfold jE isQ
   by_cases h1:c=92
   ·simp[h1]
   by_cases h2:c=34 <;> simp[h1,h2]
  omega
def aBJ(s:aP):cntQ s≤s.length:=List.countP_le_length
def aXY{s:aP}(h:cntQ s=0):encQ s=s:=by
 induction s with
 |nil=>rfl
 |cons c s ih=>
  unfold cntQ at h;rw[List.countP_cons]at h;have h2:isQ c=false:=by
   cases hq:isQ c with
   |false=>rfl
   |true=>rw[hq]at h;simp at h
  have h3:cntQ s=0:=by unfold cntQ;omega
  have ih:=ih h3;unfold encQ at ih ⊢;rw[xBM,ih];unfold isQ at h2;simp at h2;unfold jE;rw[x5 h2.2,x5 h2.1];rfl
def bCE(s:aP):cntQ s=Lib.countByte s 34+Lib.countByte s 92:=by
 induction s with
 |nil=>rfl
 |cons c s ih=>
  unfold cntQ Lib.countByte at ih ⊢;rw[List.countP_cons,List.count_cons,List.count_cons,ih];unfold isQ
  by_cases h1:c=34
  ·subst h1;simp;omega
  by_cases h2:c=92
  ·subst h2;simp;omega
  simp[h1,h2]
def aBM(s:aP)(c:UInt8):Lib.countByte s c≤s.length:=List.count_le_length
def cntU(s:aP)(i:Nat):Nat:=if i=0 then 0 else if i=1 then Lib.countByte s 34 else cntQ s
def aJU{s:aP}{i:Nat}(h:i < 2):cntU s (i+1)=cntU s i+Lib.countByte s (kk i):=by
 rcases Nat.le_one_iff_eq_zero_or_eq_one.1 (Nat.le_of_lt_succ h)with rfl|rfl
 ·simp[cntU,kk]
 simp[cntU,kk];exact bCE s
def bH3(s:aP)(i:Nat):cntU s i≤s.length:=by
 unfold cntU;split
 ·omega
 split
 ·exact aBM _ _
 exact aBJ _
def aK1{s:aP}{i:Nat}{c:UInt8}(h:s[i]?=some c):s.take (i+1)=s.take i++[c]:=by
 have hi:i < s.length:=by
  rcases xAC i s.length with h'|h'
  ·exact h'
  rw[xAD h']at h;cases h
 rw[x4 hi]at h;cases h
 rw[xAN hi]
def aXH{s:aP}{i:Nat}{c:UInt8}(h:s[i]?=some c):cntQ (s.take (i+1))=cntQ (s.take i)+if isQ c=true then 1 else 0:=by
 rw[aK1 h];unfold cntQ;rw[List.countP_append];simp[List.countP_cons]
def sG{s:aP}{i:Nat}{c:UInt8}(h:s[i]?=some c):encQ (s.take (i+1))=encQ (s.take i)++jE c:=by
 rw[aK1 h];unfold encQ;rw[List.flatMap_append];simp
def aBR(s:aP)(i:Nat):(encQ (s.take i)).length≤(encQ s).length:=by
 have:s=s.take i++s.drop i:=(List.take_append_drop i s).symm;have e:encQ s=encQ (s.take i)++encQ (s.drop i):=by
  conv=>lhs;rw[this]
  unfold encQ;rw[List.flatMap_append]
 rw[e,xAF];omega
def posB:Nat→Bool
 |0=>false
 |_+1=>true
def xR{n:Nat}(h:0 < n):posB n=true:=by cases n with|zero=>omega|succ n=>rfl
def bDR{i:Nat}(h:i < 2):(aB6 2)[i]?=some [kk i]:=by
 rcases Nat.le_one_iff_eq_zero_or_eq_one.1 (Nat.le_of_lt_succ h)with rfl|rfl <;> rfl
def bQE(i:Nat):isQ (kk i)=true:=by unfold kk;split <;> rfl
def aOE(s:aP):cntU s 2=cntQ s:=rfl
def bufQ(s:aP)(i:Nat):aP:=encQ (s.take i)++List.replicate ((encQ s).length - (encQ (s.take i)).length) 0
def aOC(s:aP)(i:Nat):(bufQ s i).length=(encQ s).length:=by
 have:=aBR s i;unfold bufQ;rw[xAF,List.length_replicate];omega
def aXB(s:aP):bufQ s 0=List.replicate (encQ s).length 0:=by simp[bufQ,encQ]
def bB5(s:aP):bufQ s s.length=encQ s:=by unfold bufQ;rw[xAK,Nat.sub_self];simp
def aC6{s:aP}{i:Nat}{c:UInt8}(h:s[i]?=some c):(bufQ s i).take (encQ (s.take i)).length++jE c++(bufQ s i).drop ((encQ (s.take i)).length+(jE c).length)=bufQ s (i+1):=by
 have h1:=aBR s (i+1);have h2:=sG h;rw[h2,xAF]at h1;unfold bufQ;rw[h2,List.take_left,←List.drop_drop,List.drop_left,List.drop_replicate,xAF,Nat.sub_sub]
def aJQ{s:aP}{i:Nat}{c:UInt8}(h:s[i]?=some c):(encQ (s.take i)).length+(jE c).length≤(encQ s).length:=by
 have h1:=aBR s (i+1);rw[sG h,xAF]at h1;exact h1
def aOD{s:aP}{i:Nat}{c:UInt8}(h:s[i]?=some c)(hq:jE c=[c]):(bufQ s i).set (encQ (s.take i)).length c=bufQ s (i+1):=by
 have h0:=aC6 h;have h1:=aJQ h;rw[hq]at h0 h1;simp only[List.length_singleton]at h0 h1;rw[←h0,List.set_eq_take_append_cons_drop,x7 (by rw[aOC];omega)];simp
end Go.Proofs
end
section
attribute [local irreducible] Go.SL.T Go.SL.OL Go.SL.D Go.SL.DL Go.SL.Ev Go.SL.Ef Go.SL.EfS
namespace Go.Proofs
open Go Go.SL
abbrev rplL(dn st:Int)(x2 rv ov:Value):List Value:=[.int .u32 dn,.int .i32 st,x2,rv,ov]
abbrev rpl(b:Nat)(dn st:Int)(x2 rv ov:Value):Asn:=pt b (bL (rplL dn st x2 rv ov) 316)
section
variable{b:Nat}{dn st:Int}{x2 rv ov:Value}
def aN9(K:Hl):Sp x3 233 [ptr b 0] K [rpl b dn st x2 rv ov] (Ret fun r K' L'=>r=.bool (decide (dn≠0))∧K'=K∧L'=[rpl b dn st x2 rv ov]):=by
 refine bN Tryz.func233 Y Tryz.ntmps233 Y Y fun F w=>?_;refine zz10 ?_;refine aA (sV Y Y (fun w j=>run_call_load Tryz.func242 cY cY cY .u32 cY (oH j.piece Y))) Y (zz6 ?_);exact⟨_,Y,Y,Y,Y⟩
def bBV(v:Bool)(K:Hl):Sp x3 263 [.bool v] K [] (Val (.int .u32 (if v=true then 1 else 0)) K):=by
 refine bN Tryz.func263 Y Tryz.ntmps263 Y Y fun F w=>?_;refine zz11 ?_;refine d9 3 Y (fun h3=>?_) (fun h3=>?_)
 ·refine zz8 ?_;rw[h3];exact⟨Y,Y,Y⟩
 refine zz9 ?_;rw[h3];exact⟨Y,Y,Y⟩
abbrev Lv(N:Hl→List Asn→Prop):Ending→Hl→List Asn→Prop:=fun e K' L'=>(∃v,e=.returned v)∧N K' L'
def aXA(K:Hl)(w0:World):SpD x3 245 [ptr b 0,.bool true] K [rpl b dn st x2 rv ov] .returning fun e u K' L'=>u=.returning∧Lv (fun K' L'=>K'=K∧L'=[rpl b 1 st x2 rv ov]) e K' L':=by
 refine aQS Tryz.func245 Y Tryz.ntmps245 Y Y fun F w=>?_;refine cZ (anc:=[0,1,3,0,8,31]) (ord:=[0,1,2,3,4,5]) [4,5] [5] mixed gC5 (cQ _) (zz4 ?_);refine iL Y (.none Y) Y Y Y Y (bBV true _) Y ?_;refine aXM Y Y (.none Y) Y (aDX (x:=.int .u32 1) Y Y (fun w h=>run_call_store Tryz.func262 cY cY cY cY (oH h Y) (aDE h)) .here .zero) Y ?_;rintro _ K _ ⟨rfl,rfl,rfl⟩ -;refine zz2 ?_;exact⟨⟨_,Y⟩,Y,Y⟩
def bDL(K:Hl):Sp x3 260 [ptr b 1] K [rpl b dn 0 x2 rv ov] (Ret fun r K' L'=>r=.tuple #[]∧K'=K∧L'=[rpl b dn 1 x2 rv ov]):=by
 refine bN Tryz.func260 Y Tryz.ntmps260 Y Y fun F w=>?_;refine zz2 ?_;refine aA (sV Y (vs:=[]) Y (fun w j=>run_call_mark0 Tryz.func273 cY cY cY .disable cY w)) Y (zz8 ?_);refine cJ (aDX (x:=.int .i32 1) Y Y (fun w h=>run_call_cas_hit Tryz.func274 cY cY cY .i32 cY (oH h Y) (aDE h)) .here (.succ .zero)) Y ?_;rintro _ K _ ⟨rfl,rfl,rfl⟩ -;refine zz7 ?_;refine aA (sV Y (vs:=[]) Y (fun w j=>run_call_mark0 Tryz.func275 cY cY cY .enable cY w)) Y (zz4 ?_);refine aA (aBX Tryz.underlying403 Tryz.underlying176 cY Y aL Y) Y ?_;refine aA (sV Y Y (fun w j=>run_call_marked Tryz.func276 cY cY cY .acquire cY _ w)) Y (zz4 ?_);refine jZ Y (xAB _) ?_;exact⟨_,Y,Y,Y,Y⟩
def aS2(K:Hl):Sp x3 261 [ptr b 1] K [rpl b dn 1 x2 rv ov] (Ret fun r K' L'=>r=.tuple #[]∧K'=K∧L'=[rpl b dn 0 x2 rv ov]):=by
 refine bN Tryz.func261 Y Tryz.ntmps261 Y Y fun F w=>?_;refine zz13 ?_;refine aA (aBX Tryz.underlying403 Tryz.underlying176 cY Y aL Y) Y ?_;refine aA (sV Y Y (fun w j=>run_call_marked Tryz.func278 cY cY cY .releaseMerge cY _ w)) Y (zz3 ?_);refine aA (sV Y (vs:=[]) Y (fun w j=>run_call_mark0 Tryz.func273 cY cY cY .disable cY w)) Y (zz7 ?_);refine cJ (aDX (x:=.int .i32 0) Y Y (fun w h=>run_call_add Tryz.func279 cY cY cY .i32 cY (oH h Y) (aDE h) Y) .here (.succ .zero)) Y ?_;rintro _ K _ ⟨rfl,rfl,rfl⟩ -;refine zz7 ?_;refine aA (uL (eK Y Y) (by decide)) Y (zz6 ?_);refine aA (sV Y (vs:=[]) Y (fun w j=>run_call_mark0 Tryz.func275 cY cY cY .enable cY w)) Y (zz2 ?_);exact⟨_,Y,Y,Y,Y⟩
def bIT(K:Hl):Sp x3 243 [ptr b 1] K [rpl b dn 0 x2 rv ov] (Ret fun r K' L'=>r=.tuple #[]∧K'=K∧L'=[rpl b dn 1 x2 rv ov]):=by
 refine bN Tryz.func243 Y Tryz.ntmps243 Y Y fun F w=>?_;refine zz4 ?_;refine bA Y Y (bDL _) bS Y ?_;rintro _ K _ ⟨rfl,rfl,rfl⟩ -;refine zz2 ?_;exact⟨_,Y,Y,Y,Y⟩
def bBG(K:Hl):SpD x3 244 [ptr b 1] K [rpl b dn 1 x2 rv ov] .returning fun e u K' L'=>u=.returning∧Lv (fun K' L'=>K'=K∧L'=[rpl b dn 0 x2 rv ov]) e K' L':=by
 refine aQS Tryz.func244 Y Tryz.ntmps244 Y Y fun F w=>?_;refine zz4 ?_;refine bA Y Y (aS2 _) bS Y ?_;rintro _ K _ ⟨rfl,rfl,rfl⟩ -;refine zz2 ?_;exact⟨⟨_,Y⟩,Y,Y⟩
def aXN(f:FuncId)(hf:∃fn,x3.funcs[f]?=some fn∧(fn.name== "runtime.NumGoroutine")=false∧fn.body.isSome=true)(K:Hl)(N:Hl→Value→Value→Prop)(hb:∀K',K.le K'→Sp x3 f [ptr b] K' [rpl b 0 1 x2 rv ov] (Ret fun r K'' L'=>r=.tuple #[]∧∃rv' ov',N K'' rv' ov'∧L'=[rpl b 0 1 x2 rv' ov'])):
  Sp x3 234 [ptr b 0,.func (.func f) #[ptr b] #[]] K [rpl b 0 0 x2 rv ov] (Ret fun r K' L'=>r=.tuple #[]∧∃rv' ov',N K' rv' ov'∧L'=[rpl b 1 0 x2 rv' ov']):=by
 refine aID Tryz.func234 Y Tryz.ntmps234 Y Y fun F w=>?_;refine zz5 ?_;refine bA Y Y (bIT _) bS Y ?_;rintro _ K _ ⟨rfl,rfl,rfl⟩ -;refine zz7 ?_;refine aKC Y Y (zz7 ?_);refine bA Y Y (aN9 _) bS Y ?_;rintro _ K _ ⟨rfl,rfl,rfl⟩ -;refine aA gC3 Y (zz8 ?_);refine aKC Y Y (zz4 ?_);refine bEH Y (aL1 hf) (hb _ (xAB _)) (aM bW bF) Y ?_;rintro _ K2 _ ⟨rfl,rv2,ov2,hN,rfl⟩ le2;refine aG ?_;refine bCJ (N1:=fun K3 L3=>K3=K2∧L3=[rpl b 1 1 x2 rv2 ov2]) (N2:=fun K4 L4=>K4=K2∧L4=[rpl b 1 0 x2 rv2 ov2]) .norm Y (aM bW bF) (aXA K2 w) ?_;rintro K3 L3 ⟨rfl,rfl⟩ le3;refine⟨_,_,.cons .here .nil,bBG _,?_⟩
 rintro K4 L4 ⟨rfl,rfl⟩ le4;exact⟨⟨_,Y,Y,rv2,ov2,hN,Y⟩,le2⟩
def bN3(f:FuncId)(hf:∃fn,x3.funcs[f]?=some fn∧(fn.name== "runtime.NumGoroutine")=false∧fn.body.isSome=true)(K:Hl)(N:Hl→Value→Value→Prop)(hb:∀K',K.le K'→Sp x3 f [ptr b] K' [rpl b 0 1 x2 rv ov] (Ret fun r K'' L'=>r=.tuple #[]∧∃rv' ov',N K'' rv' ov'∧L'=[rpl b 0 1 x2 rv' ov'])):
  Sp x3 201 [ptr b 0,.func (.func f) #[ptr b] #[]] K [rpl b 0 0 x2 rv ov] (Ret fun r K' L'=>r=.tuple #[]∧∃rv' ov',N K' rv' ov'∧L'=[rpl b 1 0 x2 rv' ov']):=by
 refine bN Tryz.func201 Y Tryz.ntmps201 Y Y fun F w=>?_;refine zz5 ?_;refine bA Y Y (aN9 _) bS Y ?_;rintro _ K _ ⟨rfl,rfl,rfl⟩ -;refine aA gC3 Y (zz6 ?_);refine bA Y Y (aXN f hf _ N hb) bS Y ?_;rintro _ K2 _ ⟨rfl,rv2,ov2,hN,rfl⟩ le2;refine aG ?_;refine dK Y le2 ?_;exact⟨_,Y,Y,rv2,ov2,hN,Y⟩
end
end Go.Proofs
end
section
attribute [local irreducible] Go.SL.T Go.SL.OL Go.SL.D Go.SL.DL Go.SL.Ev Go.SL.Ef Go.SL.EfS
namespace Go.Proofs
open Go Go.SL Go.Syn
set_option maxRecDepth 100000 in
def bNR:dI x3 368=some (List.replicate 257 nilS):=cY
set_option maxRecDepth 100000 in
def bNO:fT x3 368=some (List.replicate 257 nilS,[(0,256),(256,1)]):=cY
set_option maxRecDepth 100000 in
def bKC:fR x3 368=true:=cY
set_option maxRecDepth 100000 in
def bDX(b:Nat)(w:World):(Go.method (x3.types.size+Made.depth) 369 (ptr b) "Replace").run x3 w=.ok (347,ptr b) w:=cY
def bBL(K:Hl)(rv ov:Value):Prop:=∃br f tv,rv=.iface 369 (ptr br)∧K br=some (bL (rcs f tv) 368)∧Done K 2 f∧Ksl (a7 9) K tv (aB6 2)
def aZU(b:Nat)(dn st:Int)(x2 rv ov:Value)(K:Hl)(hov:Ksl (a7 9) K ov olds):Sp x3 235 [ptr b] K [rpl b dn st x2 rv ov]
  (Ret fun r K' L'=>bBL K' r nilS∧L'=[rpl b dn st x2 rv ov]):=by
 refine bN Tryz.func235 Y Tryz.ntmps235 Y Y fun F w=>?_;refine zz18 ?_;refine aA (bU (k:=a7 9) Y Tryz.underlying43 Y (.known hov)) Y ?_;refine aA (uL (bQ Y Y) (by decide)) Y (zz24 ?_);refine eH (fun(s:Nat)=>s≤2) (fun s=>[(0,ptr b),(2,.nilIface),(3,ov),(4,.bool (isz s)),(5,i64 ((2*s:Nat):Int))]) (fun _=>K) (fun _=>[rpl b dn st x2 rv ov]) (fun s=>2 - s) 0 (x9 _) aS Y (fun _ h=>h) ?_;intro s hs;refine zz5 ?_;refine aA (bU (k:=a7 9) Y Tryz.underlying43 Y (.known hov)) Y (zz3 ?_);refine aY 40 Y (fun h40=>?_) (fun h40=>?_)
 ·have hs2:s < 2:=gFY;obtain⟨c0,x0,hc0,hx0,hl0⟩:=bEK hs2;refine zz9 ?_;refine aA (aX (k:=a7 9) (j:=2*s) cB Y (.known hov) Y Y gFY) Y ?_;refine aA (cE (o:=0) (k:=a7 9) ts9 Y (.known hov) hc0 Y) Y (zz1 ?_);refine aA (uL (eK Y Y) (by simp)) Y (zz10 ?_);refine aA (aX (k:=a7 9) (j:=2*s+1) cB Y (.known hov) Y aH gFY) Y ?_;refine aA (cE (o:=0) (k:=a7 9) ts9 Y (.known hov) hx0 Y) Y (zz1 ?_);refine aA (xA (eK Y Y) aH) Y (zz13 ?_);exact cM (s+1) aH aH (.cons 0 Y (.cons 2 Y (.cons 3 Y (.cons 4 Y (.cons 5 (by exact xAE (fun x:Int=>some (i64 x)) aH) .nil))))) Y (fun _ h=>h)
 have hs2:s=2:=gFY;subst hs2;refine zz17 ?_;refine aA (bU (k:=a7 9) Y Tryz.underlying43 Y (.known hov)) Y ?_;refine aA (kK (v:=i64 2) (aSP Y Y (by decide)) Y) Y ?_;refine cJ (bJO (k:=a7 9) (n:=2) eI tv9 Y Y Y Y Y Y aH aH) Y ?_;rintro v94 K _ ⟨rfl,rfl,ho94⟩ -;refine aA (dG bNO bKC (.cons Y (aJT ho94) Y (bE3 _) .nil)) Y ?_;refine cJ (dR bNR) Y ?_;rintro _ K _ ⟨b11,rfl,rfl,rfl⟩ -;refine cD (cX (cs:=rcs (fun _=>nilS) v94) ta368_257 Y Y (aFU _ _) .here (bI6 (fun _=>Y) ho94) (bGF (by rw[aFU,List.length_replicate])) gC8) ?_;rintro _ K _ ⟨rfl,rfl⟩ -;refine zz6 ?_;refine aA (bU (k:=a7 9) Y Tryz.underlying43 Y (.known hov)) Y (zz5 ?_);refine nZ (fun(K2:Hl) (s:Nat) (f:Nat→Value) (tv:Value)=>K.le K2∧s≤2∧Done K2 s f) (fun _ s _ _=>[(0,ptr b),(2,.nilIface),(3,ov),(11,ptr b11),(12,i64 (2 - 2*(s:Int)))]) (fun K2 _ _ _=>K2) (fun _ s f tv=>[pt b11 (bL (rcs f tv) 368),sl false (a7 9) tv (aB6 s),rpl b dn st x2 rv ov]) (fun _ s _ _=>2 - s) _ 0 _ v94 ⟨xAB _,x9 _,aXQ K⟩ aS Y (fun _ h=>h) ?_;intro K2 s f tv ⟨le2,hs,hD⟩;have hov:=hov.mono le2;refine zz7 ?_;refine aY 100 Y (fun h100=>?_) (fun h100=>?_)
 ·have hs1:s≤1:=aH;obtain⟨hk1,hk2,hk3⟩:=bEJ hs1;have hkl:(kk s).toNat < 256:=(kk s).toNat_lt;have hol:olds.length=4:=rfl;have hfn:=bC1 hD hs1;refine zz8 ?_;refine aA (aX (k:=a7 9) (j:=2 - 2*s) cB Y (.known hov) Y aH aH) Y ?_;refine aA (cE (o:=0) (k:=a7 9) ts9 Y (.known hov) hk1 Y) Y ?_;refine aA (cP (c:=kk s) Tryz.underlying9 Y Y Y Y) Y (zz8 ?_);refine aA (aX (k:=a7 9) (j:=3 - 2*s) cB Y (.known hov) Y aH aH) Y ?_;refine aA (cE (o:=0) (k:=a7 9) ts9 Y (.known hov) hk2 Y) Y (zz8 ?_);refine aA (jB (j:=(kk s).toNat) Tryz.underlying366 kE Y Y Y hkl) Y ?_;refine aA (kK (aK kE Y aL (tZ hkl)) hfn) Y ?_;refine aA (aOO Tryz.underlying142 Y) Y (zz5 ?_);refine aA (aK eP Y aL (aHV _ _)) Y (zz1 ?_);refine cJ (bM (z0:=[.int .u8 0]) iX tz5 Y Y Y Y dF) Y ?_;rintro _ K _ ⟨b121,rfl,rfl,rfl⟩ -;refine aA (gC (xs:=[kk s]) Tryz.underlying142 Tryz.underlying5 Tryz.underlying9 Y (.blk aL Y Y)) Y ?_;refine cJ (bM (z0:=[(str [])]) cB tz9 Y Y Y Y dF) Y ?_;rintro _ K _ ⟨b123,rfl,rfl,rfl⟩ -;refine cJ (dQ (k:=(a7 9)) (ys:=[[kk s]]) eI Y Y bR (fun w j=>dJ Tryz.underlying43 (SeesSl.at (.blk aL Y Y) j)) (by simp[aB6];omega) (by simp[aB6];omega)) Y ?_;rintro v124 K _ ⟨rfl,rfl,ho124⟩ -;refine zz1 ?_;refine cD (bX (fz:=(0,0)) eP Y Y ho124 (.there (.there (.there .here))) aP3 Y) ?_;rintro _ K _ ⟨rfl,rfl⟩ -;refine zz5 ?_;refine uAp ?_;rintro v128 K _ ⟨rfl,rfl⟩ -;refine fZ fun K3 le3 hS=>?_;obtain⟨sa,sn,sc,rfl⟩:=hS.isSlice;refine zz1 ?_;refine aA (jB (j:=(kk s).toNat) Tryz.underlying366 kE Y Y Y hkl) Y ?_;refine cD (bX (fz:=(0,0)) kE Y Y Y (.there (.there (.there .here))) (bI7 hkl) Y) ?_;rintro _ K _ ⟨rfl,rfl⟩ -;refine zz8 ?_;refine aQ (aM nC (aM bW (aM e7 bF))) ?_;refine fH _ (s+1) _ v124 ⟨x6 le2 le3,by omega,aXP hD le3 hS⟩ aH (.cons 0 Y (.cons 2 Y (.cons 3 Y (.cons 11 Y (.cons 12 (by exact xAE (fun x:Int=>some (i64 x)) aH) .nil))))) Y (by rw[hk3];exact fun _ h=>h)
 have hs2:s=2:=aH;subst hs2;refine zz7 ?_;refine aA (fE Tryz.underlying369 (fun _ h=>by cases h) Y) Y (zz4 ?_);refine aQ (aM cI (aM bW (aM bW bF))) ?_;refine gW fun K3 le3 hS=>?_;refine fB fun K4 le4 hb11=>?_;refine bI Y Y (x6 le2 (x6 le3 le4)) ?_;exact⟨_,Y,⟨b11,f,tv,Y,hb11,aXO hD (x6 le3 le4),hS.mono le4⟩,Y⟩
end Go.Proofs
end
section
attribute [local irreducible] Go.SL.T Go.SL.OL Go.SL.D Go.SL.DL Go.SL.Ev Go.SL.Ef Go.SL.EfS
set_option maxRecDepth 4000
namespace Go.Proofs
open Go Go.SL Go.Syn
def bCG(s:aP)(c:UInt8)(K:Hl):Sp x3 349 [str s,str [c]] K [] (Val (i64 (Lib.countByte s c)) K):=by
 refine bN Tryz.func349 Y Tryz.ntmps349 Y Y fun F w=>?_;refine zz10 ?_;refine aA (uL (bQ Y Y) (by simp)) Y (zz10 ?_);refine aA (xA (bQ Y Y) (by simp)) Y (zz7 ?_);refine aA (cP (c:=c) Tryz.underlying9 Y Y Y Y) Y ?_;refine aA (n8 (v:=i64 (Lib.countByte s c)) Y Y Tryz.func351 cY cY cY (ex:=Extern.BytealgCount.count) cY (fun w _=>(Lib.run_countString (P:=x3) ⟨s.toArray⟩ c.toNat w).trans (by simp))) Y (zz6 ?_);exact⟨Y,Y,Y⟩
def aLS(br:Nat)(f:Nat→Value)(tv:Value)(s:aP)(K:Hl)(hs:s.length≤1000000)(hb:K br=some (bL (rcs f tv) 368))(hD:Done K 2 f)(ht:Ksl (a7 9) K tv (aB6 2)):
    Sp x3 347 [ptr br,str s] K [] (Ret fun r K' L'=>r=str (encQ s)∧L'=[]):=by
  have hel:=aBQ s;have hcl:=aBJ s;have htl:(aB6 2).length=2:=rfl;refine bN Tryz.func347 Y Tryz.ntmps347 Y Y fun F w=>?_;refine zz17 ?_;refine dX (fun(u:Unit)=>True) (fun _=>[(0,ptr br),(1,str s),(4,str []),(5,i64 (encQ s).length),(6,.bool (posB (cntQ s)))]) (fun _=>K) (fun _=>[]) ?_ ?_
  · refine zz5 ?_;refine aA (aK eP Y (.known hb) (aHV _ _)) Y ?_;refine aA (bU (k:=a7 9) Y Tryz.underlying43 Y (.known ht)) Y (zz6 ?_);refine aY 26 Y (fun h26=>?_) (fun h26=>?_)
    · refine zz5 ?_;refine aA (aK eP Y (.known hb) (aHV _ _)) Y ?_;refine aA (bU (k:=a7 9) Y Tryz.underlying43 Y (.known ht)) Y (zz4 ?_);refine eH (fun(i:Nat)=>i≤2) (fun i=>[(0,ptr br),(1,str s),(4,str []),(5,i64 ((s.length+cntU s i:Nat):Int)),(6,.bool (posB (cntU s i))),(30,tv),(31,i64 2),(32,i64 i)]) (fun _=>K) (fun _=>[]) (fun i=>2 - i) 0 (x9 _) aS Y (fun _ h=>h) ?_;intro i hi;refine zz6 ?_;refine aY 33 Y (fun h33=>?_) (fun h33=>?_)
      · have hi2:i < 2:=aH;have hkg:=bDR hi2;have hkl:(kk i).toNat < 256:=(kk i).toNat_lt;have hcb:=aBM s (kk i);have hcu:=bH3 s i;obtain⟨a0,n0,hfe⟩:∃a n,f (kk i).toNat=.slice (some a) 2 n:=(by rcases aSF hD (kk i)with ⟨_,h,_⟩|⟨h,_⟩;exact h;(rw[bQE]at h;cases h));refine zz6 ?_;refine aA (aX (k:=a7 9) (j:=i) cB Y (.known ht) Y Y aH) Y ?_;refine aA (cE (o:=0) (k:=a7 9) ts9 Y (.known ht) hkg Y) Y (zz7 ?_);refine cN Y Y (bCG s (kk i) _) Y (zz9 ?_);refine aY 40 Y (fun h40=>?_) (fun h40=>?_)
        · refine aI ?_;refine cZ (anc:=[0,0,0,0,8,4,36,124,252,508,1020,2046,4095,8191]) (ord:=[0,1,2,3,4,5,6,7,8,9,10,11,12,13]) [] [] mixed gC5 (cQ _) (zz4 ?_);refine aJ Y Y (.none Y) Y Y (cP (c:=kk i) Tryz.underlying9 Y Y Y Y) Y (zz2 ?_);refine aJ Y Y (.none Y) Y Y (jB (j:=(kk i).toNat) Tryz.underlying366 kE Y Y Y hkl) Y ?_;refine aJ Y Y (.none Y) Y Y (kK (aK kE Y (.known hb) (tZ hkl)) hfe) Y ?_;refine aJ Y Y (.none Y) Y Y (vU Y Tryz.underlying142 Y) Y (zz15 ?_);have hst:=aJU (s:=s) hi2
          first
            | (refine cM (i + 1) aH aH (.cons 0 Y (.cons 1 Y (.cons 4 Y (.cons 5 ?_ (.cons 6 ?_ aS))))) Y (fun _ h => h)
               · exact xAE (fun x:Int=>some (i64 x)) (show _=((s.length+cntU s (i+1):Nat):Int) by rw[hst];omega)
               exact xAE (fun x:Bool=>some (Value.bool x)) (xR aH).symm)
            | (refine cM (i + 1) aH aH (.cons 0 Y (.cons 1 Y (.cons 4 Y (.cons 5 ?_ (.cons 6 ?_ aS))))) Y (fun _ h => h)
               · exact xAE (fun x:Int=>some (i64 x)) (show _=((s.length+cntU s (i+1):Nat):Int) by rw[hst];omega)
               rw[show cntU s (i+1)=cntU s i from by omega];rfl)
        refine zz7 ?_;have hst:=aJU (s:=s) hi2
        first
          | (refine cM (i + 1) aH aH (.cons 0 Y (.cons 1 Y (.cons 4 Y (.cons 5 ?_ (.cons 6 ?_ aS))))) Y (fun _ h => h)
             · exact xAE (fun x:Int=>some (i64 x)) (show _=((s.length+cntU s (i+1):Nat):Int) by rw[hst];omega)
             exact xAE (fun x:Bool=>some (Value.bool x)) (xR aH).symm)
          | (refine cM (i + 1) aH aH (.cons 0 Y (.cons 1 Y (.cons 4 Y (.cons 5 ?_ (.cons 6 ?_ aS))))) Y (fun _ h => h)
             · exact xAE (fun x:Int=>some (i64 x)) (show _=((s.length+cntU s (i+1):Nat):Int) by rw[hst];omega)
             rw[show cntU s (i+1)=cntU s i from by omega];rfl)
      have hie:i=2:=aH;subst hie;refine zz4 ?_
      first
        |exact gCA
        |exact gCT
    refine zz6 ?_;refine eH (fun(i:Nat)=>i≤s.length) (fun i=>[(0,ptr br),(1,str s),(4,str []),(5,i64 ((s.length+cntQ (s.take i):Nat):Int)),(6,.bool (posB (cntQ (s.take i)))),(10,i64 i)]) (fun _=>K) (fun _=>[]) (fun i=>s.length - i) 0 (x9 _) aS Y (fun _ h=>h) ?_;intro i hi;refine zz9 ?_;refine aY 58 Y (fun h58=>?_) (fun h58=>?_)
    · have hlt:i < s.length:=aH;obtain⟨c,hc⟩:∃c,s[i]?=some c:=⟨s[i]'hlt,x4 hlt⟩;have hkl:c.toNat < 256:=c.toNat_lt;have hst:=aXH hc;have hcq:=aBJ (s.take i);rw[xA4]at hcq;refine zz12 ?_;rcases aSF hD c with ⟨hq,⟨a0,n0,hfe⟩,_,_⟩|⟨hq,hfe,_⟩
      · refine zz6 ?_;refine aA (jB (j:=c.toNat) Tryz.underlying366 kE Y Y Y hkl) Y ?_;refine aA (kK (aK kE Y (.known hb) (tZ hkl)) hfe) Y ?_;refine aA (q6 Tryz.underlying142 Y) Y (zz10 ?_);refine aA (jB (j:=c.toNat) Tryz.underlying366 kE Y Y Y hkl) Y ?_;refine aA (kK (aK kE Y (.known hb) (tZ hkl)) hfe) Y ?_;refine aA (vU Y Tryz.underlying142 Y) Y (zz15 ?_)
        first
          | (refine cM (i + 1) aH aH (.cons 0 Y (.cons 1 Y (.cons 4 Y (.cons 5 ?_ (.cons 6 ?_ aS))))) Y (fun _ h => h)
             · exact xAE (fun x:Int=>some (i64 x)) (show _=((s.length+cntQ (s.take (i+1)):Nat):Int) by rw[hst,x7 hq];omega)
             exact xAE (fun x:Bool=>some (Value.bool x)) (xR (by rw[hst,x7 hq];omega)).symm)
          | (refine cM (i + 1) aH aH (.cons 0 Y (.cons 1 Y (.cons 4 Y (.cons 5 ?_ (.cons 6 ?_ aS))))) Y (fun _ h => h)
             · exact xAE (fun x:Int=>some (i64 x)) (show _=((s.length+cntQ (s.take (i+1)):Nat):Int) by rw[hst,x5 (by rw[hq];simp)];omega)
             rw[show cntQ (s.take (i+1))=cntQ (s.take i)from by rw[hst,x5 (by rw[hq];simp)];rfl];rfl)
      refine zz6 ?_;refine aA (jB (j:=c.toNat) Tryz.underlying366 kE Y Y Y hkl) Y ?_;refine aA (kK (aK kE Y (.known hb) (tZ hkl)) hfe) Y ?_;refine aA (q6 Tryz.underlying142 Y) Y (zz11 ?_)
      first
        | (refine cM (i + 1) aH aH (.cons 0 Y (.cons 1 Y (.cons 4 Y (.cons 5 ?_ (.cons 6 ?_ aS))))) Y (fun _ h => h)
           · exact xAE (fun x:Int=>some (i64 x)) (show _=((s.length+cntQ (s.take (i+1)):Nat):Int) by rw[hst,x7 hq];omega)
           exact xAE (fun x:Bool=>some (Value.bool x)) (xR (by rw[hst,x7 hq];omega)).symm)
        | (refine cM (i + 1) aH aH (.cons 0 Y (.cons 1 Y (.cons 4 Y (.cons 5 ?_ (.cons 6 ?_ aS))))) Y (fun _ h => h)
           · exact xAE (fun x:Int=>some (i64 x)) (show _=((s.length+cntQ (s.take (i+1)):Nat):Int) by rw[hst,x5 (by rw[hq];simp)];omega)
           rw[show cntQ (s.take (i+1))=cntQ (s.take i)from by rw[hst,x5 (by rw[hq];simp)];rfl];rfl)
    have hie:i=s.length:=aH;subst hie;rw[xAK];refine zz4 ?_
    first
      |exact gCA
      |exact gCT
  intro u _;refine zz4 ?_;refine aA gC3 Y (zz2 ?_);refine d9 82 Y (fun h82=>?_) (fun h82=>?_)
  · have hz:encQ s=s:=aXY (by rcases Nat.eq_zero_or_pos (cntQ s)with h|h;exact h;(rw[xR h]at h82;cases h82));refine zz9 ?_;rw[hz];exact⟨_,Y,Y,Y⟩
  refine zz5 ?_;refine cJ (aWE (k:=elB 5) (x0:=0) (n:=(encQ s).length) rF tv5 Y Y Y Y Y Y aH aH) Y ?_;rintro _ K _ ⟨b85,rfl,rfl,rfl⟩ -;refine zz15 ?_;refine eH (fun(i:Nat)=>i≤s.length) (fun i=>[(0,ptr br),(1,str s),(4,str []),(12,.slice (some ⟨b85,0,none⟩) (encQ s).length (encQ s).length),(13,i64 (encQ (s.take i)).length),(14,i64 i)]) (fun _=>K) (fun i=>[sl false (elB 5) (.slice (some ⟨b85,0,none⟩) (encQ s).length (encQ s).length) (bufQ s i)]) (fun i=>s.length - i) 0 (x9 _) aS Y (by rw[aXB];exact fun _ h=>h) ?_;intro i hi;refine zz9 ?_;refine aY 89 Y (fun h89=>?_) (fun h89=>?_)
  · have hlt:i < s.length:=aH;obtain⟨c,hc⟩:∃c,s[i]?=some c:=⟨s[i]'hlt,x4 hlt⟩;have hkl:c.toNat < 256:=c.toNat_lt;have hbl:=aOC s i;have hbr:=aJQ hc;have hbp:=aBR s i;refine zz12 ?_;rcases aSF hD c with ⟨hq,⟨a0,n0,hfe⟩,hqk,hql⟩|⟨hq,hfe,hqb⟩
    · refine zz6 ?_;refine aA (jB (j:=c.toNat) Tryz.underlying366 kE Y Y Y hkl) Y ?_;refine aA (kK (aK kE Y (.known hb) (tZ hkl)) hfe) Y ?_;refine aA (q6 Tryz.underlying142 Y) Y (zz3 ?_);refine cZ (anc:=[0,0,0,6,0,0,16,80,240,496,1022,2047,4095]) (ord:=[0,1,2,3,4,5,6,7,8,9,10,11,12]) [10] [] mixed gC5 .nil (zz3 ?_);refine aJ Y Y (.none Y) Y Y (aGT (m:=(encQ (s.take i)).length) iX Y Y Y aH) Y (zz4 ?_);refine aJ Y Y (.none Y) Y Y (jB (j:=c.toNat) Tryz.underlying366 kE Y Y Y hkl) Y ?_;refine aJ Y Y (.none Y) Y Y (aK kE Y (.known hb) (tZ hkl)) Y ?_;refine uK Y Y (.none Y) Y Y (bFY (k:=elB 5) (j:=(encQ (s.take i)).length) (ys:=jE c) Tryz.underlying142 cY Y Y .here (.known hqk) (by intro h;rw[h]at hql;simp at hql) aH) Y ?_;rintro _ K _ ⟨rfl,rfl,rfl⟩ -;refine⟨_,(show Tks _ _ _ from .nil).sat,?_⟩
      refine zz10 ?_
      first
        | (refine cM (i + 1) aH aH (.cons 0 Y (.cons 1 Y (.cons 4 Y (.cons 12 Y (.cons 13 ?_ aS))))) Y (by rw [← aC6 hc]; exact fun _ h => h)
           exact xAE (fun x:Int=>some (i64 x)) (show _=((encQ (s.take (i+1))).length:Int) by rw[sG hc,xAF];omega))
        | (refine cM (i + 1) aH aH (.cons 0 Y (.cons 1 Y (.cons 4 Y (.cons 12 Y (.cons 13 ?_ aS))))) Y (by rw [← aOD hc hqb]; exact fun _ h => h)
           exact xAE (fun x:Int=>some (i64 x)) (show _=((encQ (s.take (i+1))).length:Int) by rw[sG hc,xAF,hqb,xA6];omega))
    refine zz6 ?_;refine aA (jB (j:=c.toNat) Tryz.underlying366 kE Y Y Y hkl) Y ?_;refine aA (kK (aK kE Y (.known hb) (tZ hkl)) hfe) Y ?_;refine aA (q6 Tryz.underlying142 Y) Y (zz8 ?_);refine aA (aX (k:=elB 5) (j:=(encQ (s.take i)).length) iX Y aL Y Y (by rw[hqb]at hbr;simp at hbr;omega)) Y ?_;refine cD (jG (k:=elB 5) (j:=(encQ (s.take i)).length) (y0:=c) (xs:=bufQ s i) ts5 Y Y Y Y (by rw[hqb]at hbr;simp at hbr;omega) .here) ?_;rintro _ K _ ⟨rfl,rfl⟩ -;refine zz14 ?_
    first
      | (refine cM (i + 1) aH aH (.cons 0 Y (.cons 1 Y (.cons 4 Y (.cons 12 Y (.cons 13 ?_ aS))))) Y (by rw [← aC6 hc]; exact fun _ h => h)
         exact xAE (fun x:Int=>some (i64 x)) (show _=((encQ (s.take (i+1))).length:Int) by rw[sG hc,xAF];omega))
      | (refine cM (i + 1) aH aH (.cons 0 Y (.cons 1 Y (.cons 4 Y (.cons 12 Y (.cons 13 ?_ aS))))) Y (by rw [← aOD hc hqb]; exact fun _ h => h)
         exact xAE (fun x:Int=>some (i64 x)) (show _=((encQ (s.take (i+1))).length:Int) by rw[sG hc,xAF,hqb,xA6];omega))
  have hie:i=s.length:=aH;subst hie;rw[bB5];refine zz8 ?_;refine aA (gC Tryz.underlying142 Tryz.underlying5 Tryz.underlying9 Y aL) Y (zz4 ?_);refine uAf ?_;refine zz1 ?_;exact⟨_,Y,Y,Y⟩
end Go.Proofs
end
section
attribute [local irreducible] Go.SL.T Go.SL.OL Go.SL.D Go.SL.DL Go.SL.Ev Go.SL.Ef Go.SL.EfS
namespace Go.Proofs
open Go Go.SL
def aIW:aRI x3 146 3 144=true:=cY
abbrev aPT(b:Nat)(dp:Int)(q:Bool)(v:Value):Asn:=pt b (bL [if q then ptr b else .pointer none,v,i64 dp] 146)
abbrev pbl(b:Nat)(dp:Int)(xs:List UInt8):Asn:=exA fun v:Value=>[exA fun q:Bool=>[aPT b dp q v],sl true (elB 5) v xs]
def bI3(b:Nat)(dp:Int):∀h,pt b (bL [.pointer none,.slice none 0 0,i64 dp] 146) h→Sat [pbl b dp []] h:=by
 intro h hh;refine oL.2 ⟨.slice none 0 0,oL.2 ⟨false,h,.emp,hh,⟨.emp,.emp,.inl ⟨Y,Y,Y⟩,Y,Hl.dj_emp _,(Hl.join_emp _).symm⟩,Hl.dj_emp _,(Hl.join_emp _).symm⟩⟩
def bES(b:Nat)(dp:Int)(v:Value)(xs:List UInt8):∀h,Sat [aPT b dp true v,sl true (elB 5) v xs] h→Sat [pbl b dp xs] h:=by
 intro h hh;exact oL.2 ⟨v,oL.2 ⟨true,hh⟩⟩
def bET(b:Nat)(dp:Int):∀h,pt b (bL [.pointer none,.slice none 0 0,i64 dp] 146) h→pbl b dp [] h:=by
 intro h hh;obtain⟨a,l,ha,hl,hd,he⟩:=bI3 b dp h hh;rw[he,show l=.emp from hl,Hl.join_emp];exact ha
def aFK(b:Nat)(dp:Int)(q:Bool)(v:Value)(K:Hl):Sp x3 140 [ptr b] K [aPT b dp q v] (Ret fun u K' L'=>u=.tuple #[]∧K'=K∧L'=[aPT b dp true v]):=by
 cases q with
 |true=>
  refine bN Tryz.func140 Y Tryz.ntmps140 Y Y fun F w=>?_;refine zz17 ?_;refine aA (aEN Tryz.underlying141 wM Y Y) Y (zz5 ?_);exact⟨_,Y,Y,Y,Y⟩
 |false=>
  refine bN Tryz.func140 Y Tryz.ntmps140 Y Y fun F w=>?_;refine zz13 ?_;refine aA (aJA Tryz.underlying141 Tryz.underlying176 Y aL aIW) Y ?_;refine aA (n8 Y Y Tryz.func200 cY cY cY (ex:=Extern.AbiNoEscape.same) cY (fun _ _=>Y)) Y ?_;refine aA (aFD Tryz.underlying176 Tryz.underlying141 Y aL aIW) Y (zz2 ?_);refine cD (bX aE8 Y Y dA bR .zero Y) ?_;rintro _ K _ ⟨rfl,rfl⟩ -;refine zz2 ?_;exact⟨_,Y,Y,Y,Y⟩
def aCH(b:Nat)(dp:Int)(s:List UInt8)(xs:List UInt8)(hn:xs.length+s.length≤140737488351232)(K:Hl):Sp x3 102 [ptr b,str s] K [pbl b dp xs] (Ret fun u K' L'=>u=.tuple #[i64 s.length,.nilIface]∧K'=K∧L'=[pbl b dp (xs++s)]):=by
 refine bN Tryz.func102 Y Tryz.ntmps102 Y Y fun F w=>?_;refine u5 fun v=>u5 fun q=>?_;refine zz9 ?_;refine bA Y Y (aFK b dp q v _) bS Y ?_;rintro _ K _ ⟨rfl,rfl,rfl⟩ -;refine zz10 ?_;refine cJ (dQ (k:=(elB 5)) (ys:=s) rF Y Y bR (fun _ _=>aA5 Tryz.underlying9) aH aH) Y ?_;rintro v14 K _ ⟨rfl,rfl,ho14⟩ -;refine zz2 ?_;refine cD (bX kE Y Y dA bR aZe Y) ?_;rintro _ K _ ⟨rfl,rfl⟩ -;refine zz11 ?_;refine uAw ?_;refine cS (bES b dp v14 (xs++s)) ?_;refine j1 Y Y Y (xAB _) ?_;exact⟨_,Y,Y,Y,Y⟩
def aMY(b:Nat)(dp:Int)(xs:List UInt8)(hn:xs.length≤140737488351232)(K:Hl):Sp x3 73 [ptr b] K [pbl b dp xs] (Ret fun u K' L'=>u=str xs∧K'=K∧L'=[]):=by
 refine bN Tryz.func73 Y Tryz.ntmps73 Y Y fun F w=>?_;refine u5 fun v=>u5 fun q=>?_;refine zz6 ?_;refine cZ (anc:=[0,1,3,7,15,0,32,96,224,480,1023,2047]) (ord:=[0,1,2,3,4,5,6,7,8,9,10,11]) [10] [10] mixed gC5 (cQ _) (zz4 ?_);refine aJ Y Y (.none Y) Y Y (aBV (e:=5) Y (.there .here)) Y (zz4 ?_);refine aJ Y Y (.none Y) Y Y (bU (k:=(elB 5)) Y Tryz.underlying142 Y aL) Y ?_;refine aXM Y Y (.none Y) Y (xX (e:=5) Y Tryz.underlying201 aJS aH Y Y (.there .here)) Y ?_;rintro _ K _ ⟨rfl,rfl,rfl⟩ -;refine zz4 ?_;refine uAf ?_;refine zz1 ?_;exact⟨_,Y,Y,Y,Y⟩
end Go.Proofs
end
section
attribute [local irreducible] Go.SL.T Go.SL.OL Go.SL.D Go.SL.DL Go.SL.Ev Go.SL.Ef Go.SL.EfS
namespace Go.Proofs
open Go Go.SL Go.Syn
def bIF{texts:List aP}{i:Nat}:((texts.take i).flatten).length≤texts.flatten.length:=by
 have:texts.flatten=(texts.take i).flatten++(texts.drop i).flatten:=by rw[←List.flatten_append,List.take_append_drop]
 rw[this,xAF];omega
def aJ3{texts:List aP}{i:Nat}{s:aP}(h:texts[i]?=some s):(texts.take (i+1)).flatten=(texts.take i).flatten++s:=by
 have hi:=lA h;rw[x4 hi]at h;cases h
 rw[xAN hi,List.flatten_append];simp
def aZO(b:Nat)(dp:Int)(v:Value)(xs:aP)(texts:List aP)(K:Hl)(hv:Ksl (a7 9) K v texts)(hn:xs.length+texts.flatten.length≤140737488351232)(hl:texts.length≤1000000):
  Sp x3 70 [ptr b,v] K [pbl b dp xs] (Ret fun r K' L'=>r=.tuple #[]∧K'=K∧L'=[pbl b dp (xs++texts.flatten)]):=by
 refine bN Tryz.func70 Y Tryz.ntmps70 Y Y fun F w=>?_;refine zz3 ?_;refine aA (bU (k:=a7 9) Y Tryz.underlying43 Y (.known hv)) Y (zz4 ?_);refine eH (fun(i:Nat)=>i≤texts.length) (fun i=>[(0,ptr b),(6,v),(7,i64 texts.length),(8,i64 i)]) (fun _=>K) (fun i=>[pbl b dp (xs++(texts.take i).flatten)]) (fun i=>texts.length - i) 0 (x9 _) (.cons 0 Y (.cons 6 Y (.cons 7 Y (.cons 8 Y .nil)))) Y (fun _ h=>by simpa using h) ?_;intro i hi;refine zz6 ?_;refine aY 9 Y (fun h9=>?_) (fun h9=>?_)
 ·have hlt:i < texts.length:=by omega
  obtain⟨s,hs⟩:∃s,texts[i]?=some s:=⟨texts[i]'hlt,x4 hlt⟩;have hfl:((texts.take (i+1)).flatten).length≤texts.flatten.length:=bIF;rw[aJ3 hs,xAF]at hfl;refine zz6 ?_;refine aA (aX (k:=a7 9) (j:=i) cB Y (.known hv) Y Y hlt) Y ?_;refine aA (cE (o:=0) (k:=a7 9) ts9 Y (.known hv) hs Y) Y (zz8 ?_);refine bA Y Y (aCH b dp s _ gES _) (.cons .here .nil) Y ?_;rintro _ K _ ⟨rfl,rfl,rfl⟩ -;refine zz7 ?_;refine cM (i+1) aH aH (.cons 0 Y (.cons 6 Y (.cons 7 Y (.cons 8 Y .nil)))) Y (fun _ h=>by rw[aJ3 hs,←xA0];exact h)
 have hie:i=texts.length:=by omega
 subst hie;rw[xAK];refine zz5 ?_;exact⟨_,Y,Y,Y,Y⟩
def bJX(texts:List aP):(a7 9).cs texts=texts.map str:=by
 induction texts with
 |nil=>rfl
 |cons x r ih=>show str x::(a7 9).cs r=_;rw[ih];rfl
def iI(b bs n:Nat)(dp:Int)(xs:aP)(texts:List aP)(cells:List Value)(K:Hl)(fz:Nat×Nat)(hc:cells=texts.map str)(hn2:n=texts.length)(hn:xs.length+texts.flatten.length≤140737488351232)(hl:texts.length≤1000000):
  Sp x3 70 [ptr b,.slice (some ⟨bs,0,none⟩) n n] K [pt bs (bL cells 9 fz),pbl b dp xs] (Ret fun r K' L'=>r=.tuple #[]∧L'=[pbl b dp (xs++texts.flatten)]):=by
 subst hc hn2;refine bAS ⟨_,Tryz.func70,Y,Y⟩ fun K' le' hk=>?_;refine(aZO b dp _ xs texts K' (.inr ⟨bs,0,texts.length,_,fz,Y,⟨_,hk⟩,?_⟩) hn hl).mono fun e K2 L2 ⟨v,h1,h2,h3,h4⟩=>⟨v,h1,h2,h4⟩
 rw[bJX];exact xAI (by simp[a7])
end Go.Proofs
end
section
attribute [local irreducible] Go.SL.T Go.SL.OL Go.SL.D Go.SL.DL Go.SL.Ev Go.SL.Ef Go.SL.EfS
set_option maxRecDepth 4000
namespace Go.Proofs
open Go Go.SL Go.Syn
def aLT(b:Nat)(dn st:Int)(x2 rv ov:Value)(K:Hl)(hov:Ksl (a7 9) K ov olds):Sp x3 202 [ptr b] K [rpl b dn st x2 rv ov]
  (Ret fun r K' L'=>r=.tuple #[]∧∃rv' ov',bBL K' rv' ov'∧L'=[rpl b dn st x2 rv' ov']):=by
 refine bN Tryz.func202 Y Tryz.ntmps202 Y Y fun F w=>?_;refine zz4 ?_;refine bA Y Y (aZU b dn st x2 rv ov _ hov) bS Y ?_;rintro _ K2 _ ⟨⟨br,f,tv,rfl,h1,h2,h3⟩,rfl⟩ le2;refine zz2 ?_;refine cD (bX ts314 Y Y dA bR aZe Y) ?_;rintro _ K _ ⟨rfl,rfl⟩ -;refine zz6 ?_;refine uAh ?_;rintro _ K _ ⟨rfl,rfl⟩ -;refine aG ?_;refine dK Y le2 ?_;exact⟨_,Y,Y,_,_,⟨br,f,tv,Y,h1,h2,h3⟩,Y⟩
def aHN(v:Value)(K:Hl)(hv:Ksl (a7 9) K v olds):Sp x3 141 [v] K [] (Ret fun r K' L'=>∃b ov,r=ptr b∧Ksl (a7 9) K' ov olds∧L'=[rpl b 0 0 (.int .u32 0) .nilIface ov]):=by
 refine bN Tryz.func141 Y Tryz.ntmps141 Y Y fun F w=>?_;refine zz9 ?_;refine aA (bU (k:=a7 9) Y Tryz.underlying43 Y (.known hv)) Y ?_;refine aA (kK (v:=i64 0) (aL7 Y Y (by decide)) Y) Y ?_;refine aA (uL (bQ Y Y) (by decide)) Y (zz8 ?_);refine j4 (eL (a7 9)) ?_;refine cJ (dQ (k:=(a7 9)) (ys:=olds) eI Y Y bR (fun w j=>dJ Tryz.underlying43 (SeesSl.at (k:=a7 9) (.known hv) j)) (by show (0+4)*16≤_;decide) (by show 0+4≤_;decide)) Y ?_;rintro v9 K _ ⟨rfl,rfl,ho9⟩ -;refine fZ fun K2 le2 hS=>?_;obtain⟨sa,sn,sc,rfl⟩:=hS.isSlice;refine aA (dG tb316 tb316f dF) Y (zz1 ?_);rintro _ K _ ⟨b11,rfl,rfl,rfl⟩ -;refine zz4 ?_;refine bI Y Y le2 ?_;exact⟨_,Y,_,_,Y,hS,Y⟩
def aXZ:∃fn,x3.funcs[202]?=some fn∧(fn.name== "runtime.NumGoroutine")=false∧fn.body.isSome=true:=⟨_,Tryz.func202,rfl,rfl⟩
def aP1(b:Nat)(ov:Value)(s:aP)(K:Hl)(hs:s.length≤1000000)(hov:Ksl (a7 9) K ov olds):Sp x3 142 [ptr b,str s] K [rpl b 0 0 (.int .u32 0) .nilIface ov] (Ret fun r K' L'=>r=str (encQ s)):=by
 refine bN Tryz.func142 Y Tryz.ntmps142 Y Y fun F w=>?_;refine zz12 ?_;refine bA Y Y (bN3 _ aXZ _ bBL (fun K1 le=>aLT b 0 1 _ _ _ K1 (hov.mono le))) bS Y ?_;rintro _ K2 _ ⟨rfl,rv2,ov2,⟨br,f,tv,rfl,h1,h2,h3⟩,rfl⟩ le2;refine zz9 ?_;refine oP Y Y (bDX br) (aLS br f tv s _ hs h1 h2 h3) .nil Y ?_;rintro _ K3 _ ⟨rfl,rfl⟩ le3;refine zz4 ?_;refine bI Y Y (x6 le2 le3) ?_;exact⟨_,Y,Y⟩
def aCI(s:aP)(K:Hl)(hs:s.length≤1000000):Sp x3 103 [str s] K [] (Ret fun r K' L'=>r=str (iE s)∧L'=[]):=by
 have hel:=aBQ s;have hcl:=aBJ s;refine bN Tryz.func103 Y Tryz.ntmps103 Y Y fun F w=>?_;refine zz7 ?_;refine cJ (bM (z0:=[(str []),(str []),(str []),(str [])]) cB tz9 Y Y Y Y dF) Y ?_;rintro _ K _ ⟨b3,rfl,rfl,rfl⟩ -;refine kL fun K1 le1 hb=>?_;refine bA Y Y (aHN _ _ (.inr ⟨b3,0,4,_,_,Y,⟨_,hb⟩,Y⟩)) .nil Y ?_;rintro _ K2 _ ⟨b4,ov,rfl,hov,rfl⟩ le2;refine zz1 ?_;refine bA Y Y (aP1 b4 ov s _ hs hov) bS Y ?_;rintro _ K3 L3 rfl le3;refine aA (eJ Y Y gC9) Y ?_;refine aA (eJ Y Y gC9) Y (zz4 ?_);refine uAf ?_;refine bI Y Y (x6 le1 (x6 le2 le3)) ?_;exact⟨_,Y,Y,Y⟩
end Go.Proofs
end
section
attribute [local irreducible] Go.SL.T Go.SL.OL Go.SL.D Go.SL.DL Go.SL.Ev Go.SL.Ef Go.SL.EfS
set_option maxRecDepth 4000
namespace Go.Proofs
open Go Go.SL Go.Syn
def bMG(x y:Nat)(K:Hl)(hx:x < 18446744073709551616)(hy:y < 18446744073709551616):Sp x3 144 [.int .u64 x,.int .u64 y] K [] (Val (.tuple #[.int .u64 ((x*y / 18446744073709551616:Nat):Int),.int .u64 ((x*y % 18446744073709551616:Nat):Int)]) K):=
 rD ⟨_,Tryz.func144,rfl,rfl⟩ fun w hw=>(Tryz.bits_Mul x y hx hy w).mono fun e w' ⟨he,hw'⟩=>⟨he,by rw[hw'];exact RowKit.Below.refl _ _⟩
def aMH(s p:aP)(K:Hl)(h:p.length≤s.length)(he:s.take p.length=p):Sp x3 145 [str s,str p] K [] (Val (.bool true) K):=by
 have s5:∀K,Sp x3 206 [str s,str p] K [] (Val (.bool true) K):=by
  intro K;refine bN Tryz.func206 Y Tryz.ntmps206 Y Y fun F w=>?_;refine zz11 ?_;refine aA (xA (gJ Y Y) aH) Y (zz8 ?_);refine aA (gL (n:=p.length) Tryz.underlying9 Y Y Y aH) Y (zz3 ?_);refine aA (xA (d7 Y Y) he) Y (zz6 ?_);exact⟨Y,Y,Y⟩
 refine bN Tryz.func145 Y Tryz.ntmps145 Y Y fun F w=>?_;refine zz9 ?_;refine cN Y Y (s5 _) Y (zz5 ?_);exact⟨Y,Y,Y⟩
def aIC:aP:=List.replicate 128 32
def xG:∀d,indC d=List.replicate (2*d) 32
 |0=>rfl
 |d+1=>by rw[indC,xG d,show 2*(d+1)=(2*d+1)+1 from by omega,List.replicate_succ,List.replicate_succ];rfl
def aQT{d:Nat}(h:d≤64):aIC.take (2*d)=indC d:=by rw[xG,aIC,List.take_replicate,Nat.min_eq_left aH]
def aKH(d:Nat)(hd:d≤64)(K:Hl):Sp x3 105 [str [32,32],i64 d] K [] (Val (str (indC d)) K):=by
 refine bN Tryz.func105 Y Tryz.ntmps105 Y Y fun F w=>?_;refine zz18 ?_;refine aY 12 Y (fun h12=>?_) (fun h12=>?_)
 ·refine zz9 ?_;rw[show d=0 from by omega];exact⟨Y,Y,Y⟩
 refine zz6 ?_;refine aY 14 Y (fun h14=>?_) (fun h14=>?_)
 ·refine zz10 ?_;rw[show d=1 from by omega];exact⟨Y,Y,Y⟩
 refine zz7 ?_;refine aA (uL (cU Y Y) aH) Y (zz9 ?_);refine aA (kK (v:=.int .u64 ((2:Nat):Int)) (q5 Tryz.underlying249 Tryz.underlying3 Y) (by rfl)) Y (zz1 ?_);refine aA (kK (v:=.int .u64 (d:Int)) (q5 Tryz.underlying249 Tryz.underlying3 Y) (by congr 1;unfold IntKind.wrap IntKind.bits IntKind.signed;simp;omega)) Y ?_;refine cN Y Y (bMG 2 d _ (by decide) aH) Y (zz11 ?_);refine aA (uL (fI Y Y) (by have:2*d / 18446744073709551616=0:=Nat.div_eq_of_lt aH;omega)) Y (zz4 ?_);refine aA (uL (fI Y Y) (by have:=Nat.mod_lt (2*d) (show 0 < 18446744073709551616 by decide);have:=Nat.mod_le (2*d) 18446744073709551616;omega)) Y (zz9 ?_);refine aA (kK (v:=i64 ((2*d:Nat):Int)) (qZ Tryz.underlying3 Tryz.underlying249 Y aH (by have:=Nat.mod_le (2*d) 18446744073709551616;omega)) (by rw[Nat.mod_eq_of_lt aH])) Y (zz8 ?_);refine aA (uL (bQ Y Y) (by decide)) Y (zz9 ?_);refine aA (cP (c:=32) Tryz.underlying9 Y Y Y Y) Y (zz6 ?_);refine aA (xA (bQ Y Y) (by decide)) Y (zz11 ?_);refine aA (xA (gM Y Y) aH) Y (zz4 ?_);refine cN Y Y (aMH aIC [32,32] _ (by decide) Y) Y (zz8 ?_);refine aA (gL (n:=2*d) (l:=aIC) Tryz.underlying9 Y Y Y (by simp[aIC];omega)) Y (zz8 ?_);rw[aQT hd];exact⟨Y,Y,Y⟩
end Go.Proofs
end
section
attribute [local irreducible] Go.SL.T Go.SL.OL Go.SL.D Go.SL.DL Go.SL.Ev Go.SL.Ef Go.SL.EfS
set_option maxRecDepth 4000
namespace Go.Proofs
open Go Go.SL Go.Syn
def bDH(b n:Nat)(K:Hl)(hn:n≤140737488351232):Sp x3 203 [ptr b,i64 n] K [aBF b true nilS] (Ret fun u K' L'=>u=.tuple #[]∧K'=K∧∃c cs,L'=[aBF b true (.slice (some ⟨c,0,none⟩) 0 (List.length cs)),pt c (bL cs 5)]):=by
 refine bN Tryz.func203 Y Tryz.ntmps203 Y Y fun F w=>?_;refine aI ?_;refine cZ (anc:=[0,1,3,7,15,31,0,127,255,0,512,1536,3584,7680,16383,32767]) (ord:=[0,1,2,3,4,5,6,7,9,10,11,12,13,8,14,15]) [8] [] mixed gC5 (aM bW bF) (zz4 ?_);refine aJ Y Y (.none Y) Y Y (aGO Y Tryz.underlying142 Y) Y ?_;refine aJ Y Y (.none Y) Y Y (kK (v:=i64 0) (oM Y Y (by decide) (by decide)) Y) Y (zz1 ?_);refine aJ Y Y (.none Y) Y Y (kK (v:=i64 n) (bT Y Y aH aH) (by rw[Int.zero_add])) Y (zz4 ?_);refine aJ Y Y (.none Y) Y Y (vU Y Tryz.underlying142 Y) Y ?_;refine uK Y Y (.none Y) Y Y (bOX (n:=n) (ps:= #[3]) (t:=142) Y Y Tryz.func236 cY cY cY cY Tryz.underlying142 aH) Y ?_;rintro _ K _ ⟨c,cs,hcs,rfl,rfl,rfl⟩ -;refine⟨_,(show Tks _ _ _ from .cons (.there .here) .nil).sat,?_⟩
 refine aJ Y Y (.none Y) Y Y (aMA (m:=0) iX Y Y Y aH) Y (zz10 ?_);refine aA (aSL Tryz.underlying142 cY Y Y) Y (zz7 ?_);refine cD (bX kE Y Y dA bR aZe Y) ?_;rintro _ K _ ⟨rfl,rfl⟩ -;refine zz2 ?_;exact⟨_,Y,Y,Y,c,cs,Y⟩
def bldg(b:Nat)(L:List Asn):Prop:=∃c cs,L=[aBF b true (.slice (some ⟨c,0,none⟩) 0 (List.length cs)),pt c (bL cs 5)]
def bDG(b n:Nat)(K:Hl)(hn:n≤140737488351232)(h0:0 < n):Sp x3 143 [ptr b,i64 n] K [aBF b false nilS] (Ret fun u K' L'=>u=.tuple #[]∧K'=K∧bldg b L'):=by
 refine bN Tryz.func143 Y Tryz.ntmps143 Y Y fun F w=>?_;refine zz3 ?_;refine bA Y Y (o6 b false nilS _) bS Y ?_;rintro _ K _ ⟨rfl,rfl,rfl⟩ -;refine zz6 ?_;refine aA (uL (cU Y Y) aH) Y (zz6 ?_);refine cZ (anc:=[0,1,3,7,15,0,32,96,224,480,1023,0,4095]) (ord:=[0,1,2,3,4,5,6,7,8,9,10,11,12]) [] [] mixed gC5 (cQ _) (zz4 ?_);refine aJ Y Y (.none Y) Y Y (aGO Y Tryz.underlying142 Y) Y (zz4 ?_);refine aJ Y Y (.none Y) Y Y (vU Y Tryz.underlying142 Y) Y (zz2 ?_);refine aJ Y Y (.none Y) Y Y (xA (cU Y Y) aH) Y (zz6 ?_);refine bA Y Y (bDH b n _ hn) bS Y ?_;rintro _ K _ ⟨rfl,rfl,c,cs,rfl⟩ -;refine zz2 ?_;exact⟨_,Y,Y,Y,c,cs,Y⟩
def bJW{e:TypeId}{c:Nat}{cs:List Value}{L:List Asn}:∀h,Sat (pt c (bL cs e)::L) h→Sat (sl false (elB e) (.slice (some ⟨c,0,none⟩) 0 cs.length) []::L) h:=by
 rintro h ⟨a,l,ha,hl,hd,he⟩;refine⟨a,l,?_,hl,hd,he⟩
 exact .inr ⟨c,cs.length,cs,(0,0),Y,(fun h=>by cases h),x9 _,by simp[wW],.inl (xAA _),by simpa[El.cs,pt,wW]using ha⟩
def bAP{e:TypeId}{v:Value}{xs:aP}{L:List Asn}(h0:xs≠[]):∀h,Sat (sl false (elB e) v xs::L) h→Sat (sl true (elB e) v xs::L) h:=by
 rintro h ⟨a,l,ha,hl,hd,he⟩;refine⟨a,l,?_,hl,hd,he⟩
 rcases ha with ⟨_,h1,_⟩|⟨b,cap,junk,fz,h1,h2,h3⟩
 ·exact absurd h1 h0
 exact .inr ⟨b,cap,junk,fz,h1,fun _=>h0,h3⟩
def aX9(b c:Nat)(cs:List Value)(s:aP)(K:Hl)(h0:s≠[])(hn:s.length≤140737488351232):Sp x3 102 [ptr b,str s] K [aBF b true (.slice (some ⟨c,0,none⟩) 0 cs.length),pt c (bL cs 5)] (Ret fun u K' L'=>u=.tuple #[i64 s.length,.nilIface]∧K'=K∧L'=[bldr b s]):=by
 refine bN Tryz.func102 Y Tryz.ntmps102 Y Y fun F w=>?_;refine jJ (fun h hh=>bJW h (iM hh)) (zz9 ?_);refine bA Y Y (o6 b true _ _) bS Y ?_;rintro _ K _ ⟨rfl,rfl,rfl⟩ -;refine zz10 ?_;refine cJ (dQ (k:=(elB 5)) (ys:=s) rF Y Y bR (fun _ _=>aA5 Tryz.underlying9) gC7 gC7) Y ?_;rintro v14 K _ ⟨rfl,rfl,ho14⟩ -;refine zz2 ?_;refine cD (bX kE Y Y dA bR aZe Y) ?_;rintro _ K _ ⟨rfl,rfl⟩ -;refine zz11 ?_;rw[xBL];refine cS (bAP h0) ?_;refine uAw ?_;refine cS (aC3 b v14 s) ?_;refine j1 Y Y Y (xAB _) ?_;exact⟨_,Y,Y,Y,Y⟩
def zU(sep x:aP)(r:List aP):aP:=x++r.flatMap (sep++ ·)
def aG9(sep:aP):∀(x:aP) (r:List aP),pC sep (x::r)=zU sep x r
 |x,[]=>by simp[pC,zU]
 |x,y::r=>by rw[pC,aG9 sep y r];simp[zU,List.append_assoc]
def aS4{sep x:aP}{r:List aP}{i:Nat}{y:aP}(h:r[i]?=some y):zU sep x (r.take (i+1))=zU sep x (r.take i)++sep++y:=by
 have hi:i < r.length:=by
  rcases xAC i r.length with h'|h'
  ·exact h'
  rw[xAD h']at h;cases h
 rw[x4 hi]at h;cases h
 rw[xAN hi];unfold zU;rw[List.flatMap_append];simp only[List.flatMap_cons,List.flatMap_nil,List.append_nil,List.append_assoc]
def lenT(texts:List aP):Nat:=(texts.map List.length).sum
def aDO{texts:List aP}{i:Nat}{y:aP}(h:texts[i]?=some y):lenT (texts.take (i+1))=lenT (texts.take i)+y.length:=by
 have hi:i < texts.length:=by
  rcases xAC i texts.length with h'|h'
  ·exact h'
  rw[xAD h']at h;cases h
 rw[x4 hi]at h;cases h
 rw[xAN hi];unfold lenT;rw[List.map_append,List.sum_append];simp
def aPA(texts:List aP)(i:Nat):lenT (texts.take i)≤lenT texts:=by
 have:lenT texts=lenT (texts.take i)+lenT (texts.drop i):=by
  conv=>lhs;rw[←List.take_append_drop i texts]
  unfold lenT;rw[List.map_append,List.sum_append]
 omega
def aDN(sep x:aP)(r:List aP):(zU sep x r).length=x.length+lenT r+sep.length*r.length:=by
 unfold zU lenT;rw[xAF];induction r with
 |nil=>simp
 |cons y r ih=>
  rw[xBM,xAF,xAF,List.map_cons,List.sum_cons,xBI,Nat.mul_succ];omega
def bIP(v:Value)(texts:List aP)(sep:aP)(K:Hl)(hv:Ksl (a7 9) K v texts)(hf:lB v)(h0:∀x∈texts,x≠[])(hs:0 < sep.length∧sep.length≤1000)(hl:texts.length≤100000)(ht:lenT texts≤1000000000):
  Sp x3 104 [v,str sep] K [] (Ret fun r K' L'=>r=str (pC sep texts)∧K'=K∧L'=[]):=by
 refine bN Tryz.func104 Y Tryz.ntmps104 Y Y fun F w=>?_;refine zz9 ?_;refine aA (bU (k:=a7 9) Y Tryz.underlying43 Y (.known hv)) Y (zz9 ?_);refine aY 13 Y (fun h13=>?_) (fun h13=>?_)
 ·refine zz9 ?_;have e:texts=[]:=xA9.1 aH;rw[e];exact⟨_,Y,Y,Y,Y⟩
 refine zz6 ?_;refine aY 15 Y (fun h15=>?_) (fun h15=>?_)
 ·obtain⟨x,hx⟩:∃x,texts=[x]:=List.length_eq_one_iff.1 aH;have hx0:texts[0]?=some x:=by rw[hx];rfl
  refine zz3 ?_;refine aA (aX (k:=a7 9) (j:=0) cB Y (.known hv) Y Y aH) Y ?_;refine aA (cE (o:=0) (k:=a7 9) ts9 Y (.known hv) hx0 Y) Y (zz7 ?_);rw[hx];exact⟨_,Y,Y,Y,Y⟩
 refine zz13 ?_;refine aA (xA (fI Y Y) aH) Y (zz9 ?_);refine aA (bU (k:=a7 9) Y Tryz.underlying43 Y (.known hv)) Y (zz1 ?_);refine aA (kK (v:=i64 (9223372036854775807 / ((texts.length:Int) - 1))) (aSP Y Y aH) (by rw[Int.tdiv_eq_ediv_of_nonneg (by decide)];unfold IntKind.wrap IntKind.bits IntKind.signed;have h1:0≤(9223372036854775807:Int) / ((texts.length:Int) - 1):=Int.ediv_nonneg (by decide) aH;have h2:(9223372036854775807:Int) / ((texts.length:Int) - 1)≤9223372036854775807:=Int.ediv_le_self _ (by decide);congr 1;simp;omega)) Y ?_;refine aA (uL (gJ Y Y) (by have h1:(1001:Int)≤9223372036854775807 / ((texts.length:Int) - 1):=Int.le_ediv_of_mul_le aH aH;omega)) Y (zz10 ?_);refine aA (bU (k:=a7 9) Y Tryz.underlying43 Y (.known hv)) Y (zz1 ?_);have hm1:(sep.length:Int)*((texts.length:Int) - 1)=((sep.length*(texts.length - 1):Nat):Int):=(by rw[Int.natCast_mul,Int.natCast_sub aH];rfl);have hm2:sep.length*(texts.length - 1)≤1000*100000:=Nat.mul_le_mul hs.2 aH;refine aA (kK (v:=i64 ((sep.length*(texts.length - 1):Nat):Int)) (oM Y Y aH aH) (by rw[←hm1])) Y (zz8 ?_);refine aA (bU (k:=a7 9) Y Tryz.underlying43 Y (.known hv)) Y (zz4 ?_);refine eH (fun(i:Nat)=>i≤texts.length) (fun i=>[(0,v),(1,str sep),(5,i64 ((sep.length*(texts.length - 1)+lenT (texts.take i):Nat):Int)),(39,v),(40,i64 texts.length),(41,i64 i)]) (fun _=>K) (fun _=>[]) (fun i=>texts.length - i) 0 (x9 _) (.cons 0 Y (.cons 1 Y (.cons 5 (by exact xAE (fun x:Int=>some (i64 x)) (by simp[lenT])) (.cons 39 Y (.cons 40 Y (.cons 41 Y .nil)))))) Y (fun _ h=>h) ?_;intro i hi;refine zz6 ?_;refine aY 42 Y (fun h42=>?_) (fun h42=>?_)
 ·have hlt:i < texts.length:=aH;obtain⟨x,hx⟩:∃x,texts[i]?=some x:=⟨texts[i]'hlt,x4 hlt⟩;have hl1:=aPA texts (i+1);rw[aDO hx]at hl1;refine zz6 ?_;refine aA (aX (k:=a7 9) (j:=i) cB Y (.known hv) Y Y hlt) Y ?_;refine aA (cE (o:=0) (k:=a7 9) ts9 Y (.known hv) hx Y) Y (zz10 ?_);refine aA (uL (fI Y Y) aH) Y (zz18 ?_);exact cM (i+1) aH aH (.cons 0 Y (.cons 1 Y (.cons 5 (by exact xAE (fun x:Int=>some (i64 x)) (by rw[aDO hx];omega)) (.cons 39 Y (.cons 40 Y (.cons 41 Y .nil)))))) Y (fun _ h=>h)
 have hie:i=texts.length:=aH;subst hie;rw[xAK];obtain⟨x,r,hxr⟩:∃x r,texts=x::r:=(by cases texts with|nil=>simp at h15 h13|cons x r=>exact⟨x,r,Y⟩);have hx0:texts[0]?=some x:=by rw[hxr];rfl
 have hrl:r.length=texts.length - 1:=by rw[hxr];simp
 have hlx:lenT texts=x.length+lenT r:=by rw[hxr];simp[lenT]
 have hxn:=h0 x (by rw[hxr];simp);have hdr:texts.drop 1=r:=by rw[hxr];rfl
 have hjl:=aDN sep x r;rw[hrl]at hjl;refine zz8 ?_;rintro _ K _ ⟨b8,rfl,rfl,rfl⟩ -;refine zz5 ?_;refine bA Y Y (bDG b8 (sep.length*(texts.length - 1)+lenT texts) _ aH (by have:=Nat.mul_pos hs.1 (show 0 < texts.length - 1 by omega);omega)) (.cons .here .nil) Y ?_;rintro _ K _ ⟨rfl,rfl,c,cs,rfl⟩ -;refine zz5 ?_;refine aA (aX (k:=a7 9) (j:=0) cB Y (.known hv) Y Y aH) Y ?_;refine aA (cE (o:=0) (k:=a7 9) ts9 Y (.known hv) hx0 Y) Y ?_;refine bA Y Y (aX9 b8 c cs x _ hxn aH) (.cons .here (.cons .here .nil)) Y ?_;rintro _ K _ ⟨rfl,rfl,rfl⟩ -;refine zz6 ?_;refine aA (aFE (k:=a7 9) (m:=1) cB Y (.known hv) Y Y aH) Y ?_;have hv2:=aO9 hv (show 1≤texts.length by omega) hf;rw[hdr]at hv2;refine aA (bU (k:=a7 9) Y Tryz.underlying43 Y (.known hv2)) Y (zz4 ?_);refine eH (fun(i:Nat)=>i≤r.length) (fun i=>[(1,str sep),(8,ptr b8),(63,pL v 1 1),(64,i64 r.length),(65,i64 i)]) (fun _=>K) (fun i=>[bldr b8 (zU sep x (r.take i))]) (fun i=>r.length - i) 0 (x9 _) (.cons 1 Y (.cons 8 Y (.cons 63 Y (.cons 64 Y (.cons 65 Y .nil))))) Y (by simp only[zU,List.take_zero,List.flatMap_nil,List.append_nil];exact fun _ h=>h) ?_;intro i hi;refine zz6 ?_;refine aY 66 Y (fun h66=>?_) (fun h66=>?_)
 ·have hlt:i < r.length:=aH;obtain⟨y,hy⟩:∃y,r[i]?=some y:=⟨r[i]'hlt,x4 hlt⟩;have hl1:=aPA r (i+1);rw[aDO hy]at hl1;have hj1:=aDN sep x (r.take i);rw[xA4,Nat.min_eq_left aH]at hj1;have hm3:sep.length*i≤sep.length*(texts.length - 1):=Nat.mul_le_mul_left _ aH;refine zz6 ?_;refine aA (aX (k:=a7 9) (j:=i) cB Y (.known hv2) Y Y hlt) Y ?_;refine aA (cE (o:=0) (k:=a7 9) ts9 Y (.known hv2) hy Y) Y (zz6 ?_);refine bA Y Y (n7 b8 sep _ aH _) (.cons .here .nil) Y ?_;rintro _ K _ ⟨rfl,rfl,rfl⟩ -;refine zz4 ?_;refine bA Y Y (n7 b8 y _ gES _) (.cons .here .nil) Y ?_;rintro _ K _ ⟨rfl,rfl,rfl⟩ -;refine zz7 ?_;exact cM (i+1) aH aH (.cons 1 Y (.cons 8 Y (.cons 63 Y (.cons 64 Y (.cons 65 Y .nil))))) Y (by rw[aS4 hy];exact fun _ h=>h)
 have hie:i=r.length:=aH;subst hie;rw[xAK];refine zz7 ?_;refine bA Y Y (rY b8 _ aH _) (.cons .here .nil) Y ?_;rintro _ K _ ⟨rfl,rfl,rfl⟩ -;refine zz5 ?_;rw[hxr,aG9];exact⟨_,Y,Y,Y,Y⟩
end Go.Proofs
end
section
attribute [local irreducible] Go.SL.T Go.SL.OL Go.SL.D Go.SL.DL Go.SL.Ev Go.SL.Ef Go.SL.EfS
set_option maxRecDepth 4000
namespace Go.Proofs
open Go Go.SL Go.Syn
def aHR(s:aP):(iE s).length=s.length+cntQ s+2:=by
 have:=aBQ s;unfold encQ at this;unfold iE;simp only[List.length_append,List.length_singleton,this];omega
def nR(s:aP):(iE s).length≤2*s.length+2:=by have:=aHR s;have:=aBJ s;omega
def aZT(s:aP):iE s≠[]:=by intro h;have:=aHR s;rw[h]at this;simp at this
def vZ{n:Nat}:∀ {l:List aP},(∀x∈l,x.length≤n)→lenT (l.map iE)≤l.length*(2*n+2)
 | [],_=>by simp[lenT]
 |x::l,h=>by
  have ih:=vZ (l:=l) fun y hy=>h y (by simp[hy])
  have h1:=nR x;have h2:=h x (by simp);unfold lenT at ih ⊢;rw[List.map_cons,List.map_cons,List.sum_cons,xBI,Nat.succ_mul];omega
def aDM{l:List aP}:(pC [44,32] l).length≤lenT l+2*l.length:=by
 cases l with
 |nil=>simp[pC]
 |cons x r=>
  rw[aG9,aDN];simp[lenT];omega
def aAW{l:List aP}(h:l.length≠1):pQ l=[91]++pC [44,32] (l.map iE)++[93]:=by
 cases l with
 |nil=>rfl
 |cons x r=>
  cases r with
  |nil=>simp at h
  |cons y r=>rfl
def aYH{n:Nat}{l:List aP}(h:∀x∈l,x.length≤n):(pQ l).length≤l.length*(2*n+4)+2:=by
 by_cases h1:l.length=1
 ·obtain⟨x,rfl⟩:=List.length_eq_one_iff.1 h1;have:=nR x;have:=h x (by simp);simp[pQ];omega
 have h2:=vZ h;have h3:=aDM (l:=l.map iE);rw[xAS]at h3;rw[aAW h1];simp only[List.length_append,List.length_singleton];have:l.length*(2*n+4)=l.length*(2*n+2)+2*l.length:=by rw[show 2*n+4=(2*n+2)+2 from rfl,Nat.mul_add];omega
 omega
def aY1{l:List aP}{i:Nat}{x:aP}(h:l[i]?=some x):(l.take (i+1)).map iE=(l.take i).map iE++[iE x]:=by
 have hi:i < l.length:=by
  rcases xAC i l.length with h'|h'
  ·exact h'
  rw[xAD h']at h;cases h
 rw[x4 hi]at h;cases h
 rw[xAN hi,List.map_append];rfl
attribute [local semireducible] Go.SL.T Go.SL.OL Go.SL.D Go.SL.DL Go.SL.Ev Go.SL.Ef Go.SL.EfS in
def aZJ{E:Env}{ops:Array Oper}{rest:List Oper}{fr:Fr}{K:Hl}{L:List Asn}{Q:Post}{α:Type}{k:El α}{v:Value}{xs:List α}{z:Bool}(h:lB v→OL E ops rest fr K (sl z k v xs::L) Q):OL E ops rest fr K (sl z k v xs::L) Q:=fun a w f i=>h (bGA .here i) a w f i
def aCG(v:Value)(l:List aP)(K:Hl)(hv:Ksl (a7 9) K v l)(hx:∀x∈l,x.length≤1000)(hl:l.length≤100000):Sp x3 71 [v] K [] (Ret fun r K' L'=>r=str (pQ l)∧L'=[]):=by
 have hlt:=vZ hx;have hjl:=aDM (l:=l.map iE);rw[xAS]at hjl;refine bN Tryz.func71 Y Tryz.ntmps71 Y Y fun F w=>?_;refine jJ (eL (a7 9)) (zz14 ?_);refine aA (bU (k:=a7 9) Y Tryz.underlying43 Y (.known hv)) Y (zz4 ?_);refine lK (fun(K2:Hl) (i:Nat) (u:Value)=>K.le K2∧i≤l.length) (fun _ i u=>[(3,u),(6,v),(7,i64 l.length),(8,i64 i)]) (fun K2 _ _=>K2) (fun _ i u=>[sl false (a7 9) u ((l.take i).map iE)]) (fun _ i _=>l.length - i) _ 0 _ ⟨xAB _,x9 _⟩ aS Y (fun _ h=>h) ?_;intro K2 i u ⟨le2,hi⟩;have hv2:=hv.mono le2;refine zz6 ?_;refine aY 9 Y (fun h9=>?_) (fun h9=>?_)
 ·have hlt2:i < l.length:=aH;obtain⟨x,hxx⟩:∃x,l[i]?=some x:=⟨l[i]'hlt2,x4 hlt2⟩;have hxl:=hx x (x8 hxx);refine zz6 ?_;refine aA (aX (k:=a7 9) (j:=i) cB Y (.known hv2) Y Y hlt2) Y ?_;refine aA (cE (o:=0) (k:=a7 9) ts9 Y (.known hv2) hxx Y) Y (zz6 ?_);refine bA Y Y (aCI x _ aH) .nil Y ?_;rintro _ K3 _ ⟨rfl,rfl⟩ le3;refine cJ (bM (z0:=[(str [])]) cB tz9 Y Y Y Y dF) Y ?_;rintro _ K _ ⟨b15,rfl,rfl,rfl⟩ -;refine cJ (dQ (k:=(a7 9)) (ys:=[iE x]) eI Y Y bR (fun w j=>dJ Tryz.underlying43 (SeesSl.at (.blk aL Y Y) j)) gC7 gC7) Y ?_;rintro v16 K _ ⟨rfl,rfl,ho16⟩ -;refine zz8 ?_;refine uAa ?_;exact eF _ (i+1) v16 ⟨x6 le2 le3,by omega⟩ aH aS Y (by rw[aY1 hxx];exact fun _ h=>h)
 have hie:i=l.length:=aH;subst hie;rw[xAK];refine zz9 ?_;refine uAr ?_;refine zz3 ?_;refine aY 20 Y (fun h20=>?_) (fun h20=>?_)
 ·have hl1:l.length=1:=(by have:=h20;simp at this;omega);obtain⟨x,hxe⟩:=List.length_eq_one_iff.1 hl1;subst hxe;refine zz3 ?_;refine aA (aX (k:=a7 9) (j:=0) cB Y aL Y Y (by simp)) Y ?_;refine aA (cE (o:=0) (k:=a7 9) (u:=iE x) ts9 Y aL Y Y) Y (zz5 ?_);refine uAf ?_;refine bI Y Y (by first|exact le2|exact x6 le2 le3) ?_;exact⟨_,Y,Y,Y⟩
 have hl1:l.length≠1:=(by have:=h20;simp at this;omega);refine zz4 ?_;refine aZJ fun hfit=>?_;refine fZ fun K3 le3 hS=>?_;refine zz1 ?_;refine bA Y Y (bIP _ _ [44,32] _ hS hfit (fun y hy=>by obtain⟨x,_,rfl⟩:=xBF.1 hy;exact aZT x) ⟨by decide,by decide⟩ (by simpa using hl) aH) .nil Y ?_;rintro _ K _ ⟨rfl,rfl,rfl⟩ -;refine aA (eJ Y Y (by simp only[List.length_cons,List.length_nil];omega)) Y ?_;refine aA (eJ Y Y (by simp only[List.length_append,List.length_cons,List.length_nil];omega)) Y (zz4 ?_);refine uAf ?_;refine bI Y Y (by first|exact le2|exact x6 le2 le3) ?_;rw[aAW hl1];exact⟨_,Y,Y,Y⟩
end Go.Proofs
end
section
namespace Go.Syn
open Go.Cmp Go.Proofs
def xF(d:Nat):(indC d).length=2*d:=by rw[xG,List.length_replicate]
def s6{n:Nat}{l:List aP}(hn:n≤1000)(h:∀x∈l,x.length≤n)(hl:l.length≤2*n+1):(pQ l).length≤4010006:=by
 have h1:=aYH h;have h2:l.length*(2*n+4)≤2001*2004:=Nat.mul_le_mul aH aH;omega
def aMX{n:Nat}(hn:n≤1000):∀ {t:Tree} {d:Nat} {f:Bool},sOk n t→d+dpt t≤64→
  ((wf t 0=true∨wf t 2=true)→(prn t d f).length+1000≤10000000*cnt t)∧((wf t 1=true∨wf t 3=true∨wf t 4=true)→(prn t d f).length≤10000000*cnt t):=by
 intro t;induction t with
 |const b=>intro d f _ _;refine⟨fun _=>?_,fun h=>by simp[wf]at h⟩;simp only[prn,cnt];split <;> simp
 |not_ t ih=>
  intro d f hs hd;refine⟨fun h=>?_,fun h=>by simp[wf]at h⟩
  simp[wf]at h;have hd0:dpt t=0:=by cases t <;> simp[wf]at h <;> rfl
  simp only[dpt]at hd;have:=(ih (d:=d) (f:=true) hs aH).1 (.inl h);simp only[prn,cnt,List.length_append,List.length_cons,List.length_nil];omega
 |many all l ih=>
  intro d f hs hd;refine⟨fun h=>?_,fun h=>by simp[wf]at h⟩
  simp[wf]at h;have hd0:dpt l=0:=by cases l <;> simp[wf]at h <;> rfl
  simp only[dpt]at hd;have:=(ih (d:=d) (f:=true) hs aH).2 (.inl h);have hh:(if all=true then [97,108,108,111,102,32,40]else [97,110,121,111,102,32,40]:aP).length=7:=by split <;> rfl
  simp only[prn,cnt,List.length_append,List.length_cons,List.length_nil,hh];omega
 |mat tag oct op a b=>
  intro d f hs hd;refine⟨fun h=>?_,fun h=>by simp[wf]at h⟩
  have h1:=s6 hn hs.1 hs.2.2.1;have h2:=s6 hn hs.2.1 hs.2.2.2;have h3:(xQ op).length≤8:=by unfold xQ;split;decide;split;decide;split <;> decide
  have h4:(zJ tag).length≤10:=by unfold zJ;split;decide;split <;> decide
  have h5:(if oct=true then y9 else []).length≤22:=by split <;> decide
  simp only[prn,cnt,List.length_append,List.length_cons,List.length_nil];omega
 |exi a=>
  intro d f hs hd;refine⟨fun h=>?_,fun h=>by simp[wf]at h⟩
  have h1:=s6 hn hs.1 hs.2;simp only[prn,cnt,List.length_append,List.length_cons,List.length_nil];omega
 |siz tag m=>
  intro d f hs hd;refine⟨fun h=>?_,fun h=>by simp[wf]at h⟩
  have h1:=Lib.itoa_length_le m (by have:=hs.1;omega) (by have:=hs.2;omega);have h2:(tF tag).length≤5:=by unfold tF;split;decide;split <;> decide
  simp only[prn,cnt,List.length_append,List.length_cons,List.length_nil];omega
 |tnil=>intro d f _ _;refine⟨fun h=>by simp[wf]at h,fun _=>by simp[prn]⟩
 |cnil=>intro d f _ _;refine⟨fun h=>by simp[wf]at h,fun _=>by simp[prn]⟩
 |bnil=>intro d f _ _;refine⟨fun h=>by simp[wf]at h,fun _=>by simp[prn]⟩
 |tcons t l ih1 ih2=>
  intro d f hs hd;refine⟨fun h=>by simp[wf]at h,fun h=>?_⟩
  simp[wf]at h;have hd0:dpt t=0:=by cases t <;> simp[wf]at h <;> rfl
  have hd1:dpt l=0:=by cases l <;> simp[wf]at h <;> rfl
  simp only[dpt]at hd;have h1:=(ih1 (d:=d) (f:=true) hs.1 aH).1 (.inl h.1);have h2:=(ih2 (d:=d) (f:=false) hs.2 aH).2 (.inl h.2);have h3:(if f=true then []else [44,32]:aP).length≤2:=by split <;> simp
  simp only[prn,cnt,List.length_append];omega
 |plain op=>intro d f _ _;refine⟨fun _=>?_,fun h=>by simp[wf]at h⟩;simp only[prn,cnt];split <;> simp
 |act k a p=>
  intro d f hs _;refine⟨fun _=>?_,fun h=>by simp[wf]at h⟩
  have h1:=nR a;have h0:a.length≤n:=hs;have h2:(vN k).length≤9:=by unfold vN;split;decide;split;decide;split <;> decide
  simp only[prn,cnt];split
  ·simp
  simp only[List.length_append,List.length_singleton];omega
 |set_ m v t=>
  intro d f hs _;refine⟨fun _=>?_,fun h=>by simp[wf]at h⟩
  have h1:=nR m;have h2:=nR v;have h3:=hs.1;have h4:=hs.2;have h5:(nV t).length≤8:=by unfold nV;split;decide;split;decide;split <;> decide
  simp only[prn,cnt,List.length_append,List.length_cons,List.length_nil];omega
 |iff bs ih=>
  intro d f hs hd;refine⟨fun h=>?_,fun h=>by simp[wf]at h⟩
  simp[wf]at h;simp only[dpt]at hd;have:=(ih (d:=d) (f:=true) hs hd).2 (.inr (.inr h));simp only[prn,cnt];omega
 |ccons c l ih1 ih2=>
  intro d f hs hd;refine⟨fun h=>by simp[wf]at h,fun h=>?_⟩
  simp[wf]at h;simp only[dpt]at hd;have h1:=(ih1 (d:=d) (f:=true) hs.1 aH).1 (.inr h.1);have h2:=(ih2 (d:=d) (f:=true) hs.2 aH).2 (.inr (.inl h.2));simp only[prn,cnt,List.length_append,List.length_cons,List.length_nil,xF];omega
 |bcons t b l ih1 ih2 ih3=>
  intro d f hs hd;refine⟨fun h=>by simp[wf]at h,fun h=>?_⟩
  simp[wf]at h;have hd0:dpt t=0:=by cases t <;> simp[wf]at h <;> rfl
  simp only[dpt]at hd;have h1:=(ih1 (d:=d) (f:=true) hs.1 aH).1 (.inl h.1);have h2:=(ih2 (d:=d+1) (f:=true) hs.2.1 aH).2 (.inr (.inl h.2.1));have h3:=(ih3 (d:=d) (f:=false) hs.2.2 aH).2 (.inr (.inr h.2.2));have h4:(if f=true then [105,102,32]else [32,101,108,115,105,102,32]:aP).length≤7:=by split <;> simp
  simp only[prn,cnt,List.length_append,List.length_cons,List.length_nil,xF];omega
 |belse b l ih1 ih2=>
  intro d f hs hd;refine⟨fun h=>by simp[wf]at h,fun h=>?_⟩
  simp[wf]at h;simp only[dpt]at hd;have h2:=(ih1 (d:=d+1) (f:=true) hs.1 aH).2 (.inr (.inl h.1));have h3:=(ih2 (d:=d) (f:=false) hs.2 aH).2 (.inr (.inr h.2));simp only[prn,cnt,List.length_append,List.length_cons,List.length_nil,xF];omega
end Go.Syn
end

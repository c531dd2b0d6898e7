/- Part 15 of what the proof stands on: walks and plain laws. Conditions: as each theorem says. -/
import Derived.Lib.ItoaLen
import Derived.Lib.Bytealg
import Derived.Test.YthopmddkpdehiaaGreatDoorA7
set_option linter.unusedVariables false
set_option linter.unusedSimpArgs false
set_option linter.defProp false
set_option maxRecDepth 4000
set_option maxHeartbeats 1000000
section
attribute [local irreducible] Go.SL.T Go.SL.OL Go.SL.D Go.SL.DL Go.SL.Ev Go.SL.Ef Go.SL.EfS
section
namespace Go.Syn
def jL(c:UInt8):aP:=if c=92 then [92,92]else if c=34 then [92,34]else [c]
def gR(s:aP):aP:=[34]++s.flatMap jL++[34]
def oC(sep:aP):List aP->aP
 | []=>[]
 | [x]=>x
 |x::y::r=>x++sep++oC sep (y::r)
def oS:List aP->aP
 | [x]=>gR x
 |l=>[91]++oC [44,32] (l.map gR)++[93]
def indC:Nat->aP
 |0=>[]
 |n+1=>[32,32]++indC n
def vZ(op:Int):aP:=if op=6 then [104,101,97,100,101,114]else if op=7 then [101,110,118,101,108,111,112,101]else if op=8 then [115,116,114,105,110,103]else []
def xZ(tag:Int):aP:=if tag=2 then [32,58,99,111,110,116,97,105,110,115]else if tag=3 then [32,58,109,97,116,99,104,101,115]else []
def lQ(tag:Int):aP:=if tag=1 then [32,58,108,111,119,101,114]else if tag=2 then [32,58,117,112,112,101,114]else if tag=3 then [32,58,108,101,110,103,116,104]else []
def r8(tag:Int):aP:=if tag=1 then [111,118,101,114]else if tag=2 then [117,110,100,101,114]else []
def uA(k:Int):aP:=if k=2 then [102,105,108,101,105,110,116,111,32]else if k=3 then [114,101,100,105,114,101,99,116,32]else if k=4 then [114,101,106,101,99,116,32]else []
def xN:aP:=[32,58,99,111,109,112,97,114,97,116,111,114,32,34,105,59,111,99,116,101,116,34]
def prn:Tree->Nat->Bool->aP
 | .const b,_,_=>if b=true then [116,114,117,101]else [102,97,108,115,101]
 | .not_ t,d,_=>[110,111,116,32]++prn t d true
 | .many e l,d,_=>(if e=true then [97,108,108,111,102,32,40]else [97,110,121,111,102,32,40])++prn l d true++[41]
 | .mat S g B a b,_,_=>vZ B++(if g=true then xN else [])++(xZ S++[32]++oS a++[32]++oS b)
 | .exi a,_,_=>[101,120,105,115,116,115,32]++oS a
 | .siz S n,_,_=>[115,105,122,101,32,58]++r8 S++[32]++Lib.itoa n
 | .tnil,_,_=>[]
 | .tcons t l,d,f=>(if f=true then []else [44,32])++prn t d true++prn l d false
 | .plain B,_,_=>if B=14 then [115,116,111,112,59]else [100,105,115,99,97,114,100,59]
 | .act k a _,_,_=>if k=1 then [107,101,101,112,59]else uA k++(gR a++[59])
 | .set_ n v S,_,_=>[115,101,116]++lQ S++[32]++gR n++[32]++gR v++[59]
 | .iff s,d,_=>prn s d true
 | .cnil,_,_=>[]
 | .ccons c l,d,_=>indC d++prn c d true++[10]++prn l d true
 | .bnil,_,_=>[]
 | .bcons t b l,d,f=>(if f=true then [105,102,32]else [32,101,108,115,105,102,32])++prn t d true++[32,123,10]++prn b (d+1) true++(indC d++[125])++prn l d false
 | .belse b l,d,_=>[32,101,108,115,101]++[32,123,10]++prn b (d+1) true++(indC d++[125])++prn l d false
def Ek(r:List aP×Tree):aP:=(if r.1=[]then []else [114,101,113,117,105,114,101,32]++oS r.1++[59,10])++prn r.2 0 true
end Go.Syn
end
section
namespace Go.Proofs
open Go Go.SL Go.Syn
section
variable{s:aP}{K K':Hl}{i j:Nat}{f:Nat->Value}{c:UInt8}{tv v:Value}
abbrev nilS:Value:=.slice none 0 0
def rcs(f:Nat->Value)(tv:Value):List Value:=(List.range 256).map f++[tv]
def C6(f:Nat->Value)(tv:Value):(rcs f tv).length=257:=by simp[rcs]
def sP(h:j<256):(rcs f tv)[j]?=some (f j):=by
 unfold rcs;rw[xA8 gBW];simp[h]
def DH(f:Nat->Value)(tv:Value):(rcs f tv)[256]?=some tv:=by
 unfold rcs;rw[xBY cD];simp
def upd(f:Nat->Value)(j:Nat)(v:Value):Nat->Value:=fun i=>if i=j then v else f i
def Vt(h:j<256):SetAt (rcs f tv) j v (rcs (upd f j v) tv):=by
 have e:(rcs f tv).set j v=rcs (upd f j v) tv:=by
  unfold rcs;rw[List.set_append_left _ _ gBW]
  congr 1
  apply List.ext_getElem?
  intro i;rw[List.getElem?_set]
  by_cases p:j=i
  ·subst p;simp[h,upd]
  simp only[if_neg p,List.getElem?_map];rcases xAD i 256 with a|a
  ·rw[List.getElem?_range a];simp[upd,Ne.symm p]
  rw[xAH (by simpa using a)];rfl
 rw[<-e];exact xW (by rw[C6];omega)
def IN:SetAt (rcs f tv) 256 v (rcs f v):=by
 have e:(rcs f tv).set 256 v=rcs f v:=by
  unfold rcs;rw[List.set_append_right _ _ cD];simp
 rw[<-e];exact xW (by rw[C6];omega)
def Rr(v:Value)(n:Nat):Spl (List.replicate (n+1) nilS) n [v] ((List.range n).map (fun _=>nilS)++[v]):=by
 have h:=Eb (o:=n) (l:=List.replicate (n+1) nilS) (cs:=[v]) cD;have e:(List.replicate (n+1) nilS).take n++[v]++(List.replicate (n+1) nilS).drop (n+[v].length)=(List.range n).map (fun _=>nilS)++[v]:=by
  rw[List.take_replicate,List.drop_replicate,xBI,Nat.min_eq_left (Nat.le_succ n),Nat.sub_self,List.map_const',List.length_range];simp
 rw[e]at h;exact h
def S4(v:Value):Spl (List.replicate 257 nilS) 256 [v] (rcs (fun _=>nilS) v):=Rr v 256
def Tx{l cs:List Value}(h:l.length=cs.length):Spl l 0 cs cs:=by
 have b:=Eb (o:=0) (l:=l) (cs:=cs) aH;rw[List.take_zero,xB1,List.drop_eq_nil_of_le aH,xAL]at b;exact b
def Vs(a:∀j,(f j).oneCell'=true)(I:tv.oneCell'=true):∀c∈rcs f tv,c.oneCell'=true:=by
 intro c d;unfold rcs at d;rcases xA5.1 d with h|h
 ·obtain⟨j,_,rfl⟩:=xBM.1 h;exact a j
 simp at h;subst h;exact I
def kk(s:Nat):UInt8:=if s=0 then 34 else 92
def nn(s:Nat):List UInt8:=if s=0 then [92,34]else [92,92]
def olds:List (List UInt8):=[[92],[92,92],[34],[92,34]]
def Az(s:Nat):List (List UInt8):=[[34],[92]].take s
def Sj{s:Nat}(h:s<=1):olds[2-2*s]?=some [kk s]/\olds[3-2*s]?=some (nn s)/\Az (s+1)=Az s++[[kk s]]:=by
 rcases Nat.le_one_iff_eq_zero_or_eq_one.1 h with rfl|rfl<;>exact⟨Y,Y,Y⟩
def Sk{s:Nat}(h:s<2):∃c x,olds[2*s]?=some [c]/\olds[2*s+1]?=some x/\x.length=2:=by
 rcases Nat.le_one_iff_eq_zero_or_eq_one.1 (Nat.le_of_lt_succ h)with rfl|rfl
 ·exact⟨92,[92,92],Y,Y,Y⟩
 exact⟨34,[92,34],Y,Y,Y⟩
def isz:Nat->Bool
 |0=>true
 |_+1=>false
def Done(K:Hl)(s:Nat)(f:Nat->Value):Prop:=∀j,(∃i,i<s/\j=(kk i).toNat/\(∃a c,f j=.slice (some a) 2 c)/\Ksl (elB 5) K (f j) (nn i))\/((∀i,i<s->j≠(kk i).toNat)/\f j=nilS)
def NA{s:Nat}(h:Done K s f)(le:K.le K'):Done K' s f:=fun j=>(h j).imp_left fun⟨i,a,b,l,z⟩=>⟨i,a,b,l,z.mono le⟩
def NC(K:Hl):Done K 0 (fun _=>nilS):=fun j=>.inr ⟨fun i h=>by omega,rfl⟩
def XD(s:Nat):(nn s).length=2:=by unfold nn;split<;>rfl
def R9{e:TypeId}{xs:List UInt8}(h:Ksl (elB e) K v xs)(P:xs.length=2):∃a c,v=.slice (some a) 2 c:=by
 rcases h with ⟨a,c,rfl,rfl⟩|⟨b,off,f,g,w,rfl,_⟩
 ·simp at P
 rw[P];exact⟨_,_,Y⟩
def Rf{s:Nat}(h:Done K s f)(c:s<=1):f (kk s).toNat=nilS:=by
 rcases h (kk s).toNat with ⟨i,a,b,_⟩|⟨_,h⟩
 ·have:i=0/\s=1:=aH;obtain⟨rfl,rfl⟩:=this;exact absurd b dD
 exact h
def NB{s:Nat}(h:Done K s f)(le:K.le K')(hv:Ksl (elB 5) K' v (nn s)):Done K' (s+1) (upd f (kk s).toNat v):=by
 intro j
 by_cases E:j=(kk s).toNat
 ·refine .inl ⟨s,aH,E,?_⟩
  unfold upd;rw[x7 E];exact⟨R9 hv (XD s),hv⟩
 unfold upd;rw[x6 E];rcases h j with ⟨i,a,b,l,z⟩|⟨a,b⟩
 ·exact .inl ⟨i,aH,b,l,z.mono le⟩
 refine .inr ⟨fun i p=>?_,b⟩
 rcases xAD i s with h|h
 ·exact a i h
 have:i=s:=aH;subst this;exact E
def isQ(c:UInt8):Bool:=decide (c=34\/c=92)
def Kl(h:Done K 2 f)(c:UInt8):(isQ c=true/\(∃a n,f c.toNat=.slice (some a) 2 n)/\Ksl (elB 5) K (f c.toNat) (jL c)/\(jL c).length=2)\/(isQ c=false/\f c.toNat=nilS/\jL c=[c]):=by
 have r:c.toNat=34->c=34:=fun e=>xBJ.1 e
 have u:c.toNat=92->c=92:=fun e=>xBJ.1 e
 rcases h c.toNat with ⟨i,j,g,l,z⟩|⟨j,g⟩
 ·have p:i=0\/i=1:=aH;rcases p with rfl|rfl
  ·have e:=r g;subst e;exact .inl ⟨by decide,l,z,rfl⟩
  have e:=u g;subst e;exact .inl ⟨by decide,l,z,rfl⟩
 have b:c≠34:=fun e=>j 0 aH gC4
 have d:c≠92:=fun e=>j 1 aH gC4
 refine .inr ⟨by simp[isQ,b,d],g,by unfold jL;rw[x6 d,x6 b]⟩
def cntQ(s:aP):Nat:=s.countP isQ
def encQ(s:aP):aP:=s.flatMap jL
def Ai:∀s:aP,(encQ s).length=s.length+cntQ s
 | []=>rfl
 |c::s=>by
  have w:=Ai s;unfold encQ cntQ at w ⊢;rw[xB4,xAE,w,List.countP_cons,xBT];have:(jL c).length=1+if isQ c=true then 1 else 0:=by
   unfold jL isQ
   by_cases h:c=92
   ·simp[h]
   by_cases b:c=34<;>simp[h,b]
  omega
def z8(s:aP):cntQ s<=s.length:=List.countP_le_length
def NL(h:cntQ s=0):encQ s=s:=by
 induction s with
 |nil=>rfl
 |cons c s w=>
  unfold cntQ at h;rw[List.countP_cons]at h;have b:isQ c=false:=by
   cases g:isQ c with
   |false=>rfl
   |true=>rw[g]at h;simp at h
  have l:cntQ s=0:=by unfold cntQ;omega
  have w:=w l;unfold encQ at w ⊢;rw[xB4,w];unfold isQ at b;simp at b;unfold jL;rw[x6 b.2,x6 b.1];rfl
def QH(s:aP):cntQ s=Lib.countByte s 34+Lib.countByte s 92:=by
 induction s with
 |nil=>rfl
 |cons c s w=>
  unfold cntQ Lib.countByte at w ⊢;rw[List.countP_cons,List.count_cons,List.count_cons,w];unfold isQ
  by_cases h:c=34
  ·subst h;simp;omega
  by_cases b:c=92
  ·subst b;simp;omega
  simp[h,b]
def Ad(s:aP)(c:UInt8):Lib.countByte s c<=s.length:=List.count_le_length
def cntU(s:aP)(i:Nat):Nat:=if i=0 then 0 else if i=1 then Lib.countByte s 34 else cntQ s
def Fj(h:i<2):cntU s (i+1)=cntU s i+Lib.countByte s (kk i):=by
 rcases Nat.le_one_iff_eq_zero_or_eq_one.1 (Nat.le_of_lt_succ h)with rfl|rfl
 ·simp[cntU,kk]
 simp[cntU,kk];exact QH s
def U6(s:aP)(i:Nat):cntU s i<=s.length:=by
 unfold cntU;split
 ·omega
 split
 ·exact Ad _ _
 exact z8 _
def FU(h:s[i]?=some c):s.take (i+1)=s.take i++[c]:=by
 have p:i<s.length:=by
  rcases xAD i s.length with e|e
  ·exact e
  exact gFQ
 rw[x4 p]at h;cases h
 rw[xAK p]
def N3(h:s[i]?=some c):cntQ (s.take (i+1))=cntQ (s.take i)+if isQ c=true then 1 else 0:=by
 rw[FU h];unfold cntQ;rw[List.countP_append];simp[List.countP_cons]
def xG(h:s[i]?=some c):encQ (s.take (i+1))=encQ (s.take i)++jL c:=by
 rw[FU h];unfold encQ;rw[List.flatMap_append];simp
def Aj(s:aP)(i:Nat):(encQ (s.take i)).length<=(encQ s).length:=by
 have:s=s.take i++s.drop i:=(List.take_append_drop i s).symm;have e:encQ s=encQ (s.take i)++encQ (s.drop i):=by
  conv=>lhs;rw[this]
  unfold encQ;rw[List.flatMap_append]
 rw[e,xAE];omega
def posB:Nat->Bool
 |0=>false
 |_+1=>true
def DA{n:Nat}(h:0<n):posB n=true:=by cases n with|zero=>omega|succ n=>rfl
def R7(h:i<2):(Az 2)[i]?=some [kk i]:=by
 rcases Nat.le_one_iff_eq_zero_or_eq_one.1 (Nat.le_of_lt_succ h)with rfl|rfl<;>rfl
def aB8(i:Nat):isQ (kk i)=true:=by unfold kk;split<;>rfl
def HM(s:aP):cntU s 2=cntQ s:=rfl
def bufQ(s:aP)(i:Nat):aP:=encQ (s.take i)++List.replicate ((encQ s).length-(encQ (s.take i)).length) 0
def HL(s:aP)(i:Nat):(bufQ s i).length=(encQ s).length:=by
 have:=Aj s i;unfold bufQ;rw[xAE,List.length_replicate];omega
def Nv(s:aP):bufQ s 0=List.replicate (encQ s).length 0:=by simp[bufQ,encQ]
def Q7(s:aP):bufQ s s.length=encQ s:=by unfold bufQ;rw[xBG,Nat.sub_self];simp
def Ff(h:s[i]?=some c):(bufQ s i).take (encQ (s.take i)).length++jL c++(bufQ s i).drop ((encQ (s.take i)).length+(jL c).length)=bufQ s (i+1):=by
 have a:=Aj s (i+1);have b:=xG h;rw[b,xAE]at a;unfold bufQ;rw[b,List.take_left,<-List.drop_drop,List.drop_left,List.drop_replicate,xAE,Nat.sub_sub]
def Fe(h:s[i]?=some c):(encQ (s.take i)).length+(jL c).length<=(encQ s).length:=by
 have a:=Aj s (i+1);rw[xG h,xAE]at a;exact a
def Q8(h:s[i]?=some c)(g:jL c=[c]):(bufQ s i).set (encQ (s.take i)).length c=bufQ s (i+1):=by
 have P:=Ff h;have a:=Fe h;rw[g]at P a;simp only[List.length_singleton]at P a;rw[<-P,List.set_eq_take_append_cons_drop,x7 (by rw[HL];omega)];simp
end
end Go.Proofs
end
section
namespace Go.Proofs
open Go Go.SL Tryz
abbrev rplL(dn st:Int)(x2 rv ov:Value):List Value:=[.int .u32 dn,.int .i32 st,x2,rv,ov]
abbrev rpl(b:Nat)(dn st:Int)(x2 rv ov:Value):Asn:=pt b (bK (rplL dn st x2 rv ov) 400)
section
variable{b:Nat}{dn st:Int}{x2 rv ov:Value}
def HI(K:Hl):Sp x3 312 [ptr b 0] K [rpl b dn st x2 rv ov] (Ret fun r a L'=>r=.bool (decide (dn≠0))/\a=K/\L'=[rpl b dn st x2 rv ov]):=by
 refine bL func312 Y ntmps312 Y Y fun F w=>ZA ?_;refine aA (rR Y Y (fun w j=>run_call_load func337 cV cV cV .u32 cV (nK j.piece Y))) Y (Z6 ?_);exact gDF
def Qx(v:Bool)(K:Hl):Sp x3 358 [.bool v] K [] (Val (.int .u32 (if v=true then 1 else 0)) K):=by
 refine bL func358 Y ntmps358 Y Y fun F w=>ZB ?_;refine dZ 3 Y (fun l=>Z8 ?_) (fun l=>Z9 ?_)
 ·rw[l];exact gDP
 rw[l];exact gDP
abbrev Lv(N:Hl->List Asn->Prop):Ending->Hl->List Asn->Prop:=fun e K g=>(∃v,e=.returned v)/\N K g
def Nu(K:Hl)(q:World):SpD x3 340 [ptr b 0,.bool true] K [rpl b dn st x2 rv ov] .returning fun e u a L'=>u=.returning/\Lv (fun a L'=>a=K/\L'=[rpl b 1 st x2 rv ov]) e a L':=by
 refine Jm func340 Y ntmps340 Y Y fun F w=>cN [4,5] [5] mixed gAD (cM _) (Z4 ?_);refine gY Y (.none Y) Y Y Y Y (Qx true _) Y (N8 Y Y (.none Y) Y (By (x:=.int .u32 1) Y Y (fun w h=>run_call_store func357 cV cV cV cV (nK h Y) (Be h)) .here .zero) Y (aCL (Z2 ?_)));exact⟨⟨_,Y⟩,Y,Y⟩
def R3(K:Hl):Sp x3 355 [ptr b 1] K [rpl b dn 0 x2 rv ov] (Ret fun r a L'=>r=.tuple #[]/\a=K/\L'=[rpl b dn 1 x2 rv ov]):=by
 refine bL func355 Y ntmps355 Y Y fun F w=>Z2 ?_;refine aA (rR Y (vs:=[]) Y (fun w j=>run_call_mark0 func366 cV cV cV .disable cV w)) Y (Z8 ?_);refine cG (By (x:=.int .i32 1) Y Y (fun w h=>run_call_cas_hit func367 cV cV cV .i32 cV (nK h Y) (Be h)) .here (.succ .zero)) Y (aCL (Z7 ?_));refine aA (rR Y (vs:=[]) Y (fun w j=>run_call_mark0 func368 cV cV cV .enable cV w)) Y (Z4 ?_);refine aA (Ap underlying501 xB0 cV Y aL Y) Y ?_;refine aA (rR Y Y (fun w j=>run_call_marked func369 cV cV cV .acquire cV _ w)) Y (Z4 ?_);refine jJ Y (xAB _) ?_;exact gDF
def KM(K:Hl):Sp x3 356 [ptr b 1] K [rpl b dn 1 x2 rv ov] (Ret fun r a L'=>r=.tuple #[]/\a=K/\L'=[rpl b dn 0 x2 rv ov]):=by
 refine bL func356 Y ntmps356 Y Y fun F w=>ZD ?_;refine aA (Ap underlying501 xB0 cV Y aL Y) Y ?_;refine aA (rR Y Y (fun w j=>run_call_marked func371 cV cV cV .releaseMerge cV _ w)) Y (Z3 ?_);refine aA (rR Y (vs:=[]) Y (fun w j=>run_call_mark0 func366 cV cV cV .disable cV w)) Y (Z7 ?_);refine cG (By (x:=.int .i32 0) Y Y (fun w h=>run_call_add func372 cV cV cV .i32 cV (nK h Y) (Be h) Y) .here (.succ .zero)) Y (aCL (Z7 ?_));refine aA (s7 (eH Y Y) dD) Y (Z6 ?_);refine aA (rR Y (vs:=[]) Y (fun w j=>run_call_mark0 func368 cV cV cV .enable cV w)) Y (Z2 ?_);exact gDF
def Vd(K:Hl):Sp x3 338 [ptr b 1] K [rpl b dn 0 x2 rv ov] (Ret fun r a L'=>r=.tuple #[]/\a=K/\L'=[rpl b dn 1 x2 rv ov]):=by
 refine bL func338 Y ntmps338 Y Y fun F w=>Z4 ?_;refine bA Y Y (R3 _) bQ Y ?_;refine aCL (Z2 ?_);exact gDF
def Qh(K:Hl):SpD x3 339 [ptr b 1] K [rpl b dn 1 x2 rv ov] .returning fun e u a L'=>u=.returning/\Lv (fun a L'=>a=K/\L'=[rpl b dn 0 x2 rv ov]) e a L':=by
 refine Jm func339 Y ntmps339 Y Y fun F w=>Z4 ?_;refine bA Y Y (KM _) bQ Y ?_;refine aCL (Z2 ?_);exact⟨⟨_,Y⟩,Y,Y⟩
def N9(f:FuncId)(l:∃fn,x3.funcs[f]?=some fn/\(fn.name== "runtime.NumGoroutine")=false/\fn.body.isSome=true)(K:Hl)(N:Hl->Value->Value->Prop)(h:∀a,K.le a->Sp x3 f [ptr b] a [rpl b 0 1 x2 rv ov] (Ret fun r j L'=>r=.tuple #[]/\∃e p,N j e p/\L'=[rpl b 0 1 x2 e p])):
  Sp x3 313 [ptr b 0,.func (.func f) #[ptr b] #[]] K [rpl b 0 0 x2 rv ov] (Ret fun r a L'=>r=.tuple #[]/\∃e p,N a e p/\L'=[rpl b 1 0 x2 e p]):=by
 refine Ea func313 Y ntmps313 Y Y fun F w=>Z5 ?_;refine bA Y Y (Vd _) bQ Y ?_;refine aCL (Z7 ?_);refine F4 Y Y (Z7 ?_);refine bA Y Y (HI _) bQ Y ?_;refine aCL (aA gAB Y (Z8 ?_));refine F4 Y Y (Z4 ?_);refine Sh Y (G1 l) (h _ (xAB _)) (aQ cL bT) Y ?_;rintro _ S _ ⟨rfl,q,s,g,rfl⟩ A;refine aG (QN (N1:=fun c d=>c=S/\d=[rpl b 1 1 x2 q s]) (N2:=fun i P=>i=S/\P=[rpl b 1 0 x2 q s]) .norm Y (aQ cL bT) (Nu S w) ?_);rintro c d ⟨rfl,rfl⟩ t;refine⟨_,_,.cons .here .nil,Qh _,?_⟩
 rintro i P ⟨rfl,rfl⟩ u;exact⟨⟨_,Y,Y,q,s,g,Y⟩,A⟩
def YG(f:FuncId)(d:∃fn,x3.funcs[f]?=some fn/\(fn.name== "runtime.NumGoroutine")=false/\fn.body.isSome=true)(K:Hl)(N:Hl->Value->Value->Prop)(c:∀a,K.le a->Sp x3 f [ptr b] a [rpl b 0 1 x2 rv ov] (Ret fun r j L'=>r=.tuple #[]/\∃e p,N j e p/\L'=[rpl b 0 1 x2 e p])):
  Sp x3 273 [ptr b 0,.func (.func f) #[ptr b] #[]] K [rpl b 0 0 x2 rv ov] (Ret fun r a L'=>r=.tuple #[]/\∃e p,N a e p/\L'=[rpl b 1 0 x2 e p]):=by
 refine bL func273 Y ntmps273 Y Y fun F w=>Z5 ?_;refine bA Y Y (HI _) bQ Y ?_;refine aCL (aA gAB Y (Z6 ?_));refine bA Y Y (N9 f d _ N c) bQ Y ?_;rintro _ S _ ⟨rfl,q,s,g,rfl⟩ A;refine aG (dG Y A ?_);exact⟨_,Y,Y,q,s,g,Y⟩
end
end Go.Proofs
end
section
namespace Go.Proofs
open Go Go.SL Go.Syn Tryz
set_option maxRecDepth 100000 in
def Y2:cZ x3 470=some (List.replicate 257 nilS):=cV
set_option maxRecDepth 100000 in
def Yy:fN x3 470=some (List.replicate 257 nilS,[(0,256),(256,1)]):=cV
set_option maxRecDepth 100000 in
def Wf:fM x3 470=true:=cV
set_option maxRecDepth 100000 in
def RF(b:Nat)(w:World):(Go.method (x3.types.size+Made.depth) 471 (ptr b) "Replace").run x3 w=.ok (448,ptr b) w:=cV
def Ql(K:Hl)(rv O:Value):Prop:=∃j f y,rv=.iface 471 (ptr j)/\K j=some (bK (rcs f y) 470)/\Done K 2 f/\Ksl (aZ 9) K y (Az 2)
def OY(b:Nat)(u st:Int)(H rv O:Value)(K:Hl)(a:Ksl (aZ 9) K O olds):Sp x3 314 [ptr b] K [rpl b u st H rv O]
  (Ret fun r K' L'=>Ql K' r nilS/\L'=[rpl b u st H rv O]):=by
 refine bL func314 Y ntmps314 Y Y fun F w=>ZI ?_;refine aA (bU (k:=aZ 9) Y xAC Y (.known a)) Y (aA (s7 (bS Y Y) dD) Y (ZO ?_));refine eD (fun(s:Nat)=>s<=2) (fun s=>[(0,ptr b),(2,.nilIface),(3,O),(4,.bool (isz s)),(5,i64 ((2*s:Nat):Int))]) (fun _=>K) (fun _=>[rpl b u st H rv O]) (fun s=>2-s) 0 (xAA _) bM Y a7 ?_;intro s hs;refine Z5 ?_;refine aA (bU (k:=aZ 9) Y xAC Y (.known a)) Y (Z3 ?_);refine aX 40 Y (fun I=>?_) (fun I=>?_)
 ·have t:s<2:=gCX;obtain⟨c0,x0,M,ja,je⟩:=Sk t;refine Z9 ?_;refine aA (aW (k:=aZ 9) (j:=2*s) b0 Y (.known a) Y Y gCX) Y (aA (cE (o:=0) (k:=aZ 9) ts9 Y (.known a) M Y) Y (Z1 ?_));refine aA (s7 (eH Y Y) cD) Y (ZA ?_);refine aA (aW (k:=aZ 9) (j:=2*s+1) b0 Y (.known a) Y aH gCX) Y (aA (cE (o:=0) (k:=aZ 9) ts9 Y (.known a) ja Y) Y (Z1 ?_));refine aA (vI (eH Y Y) aH) Y (ZD ?_);exact cX (s+1) aH aH (.cons 0 Y (.cons 2 Y (.cons 3 Y (.cons 4 Y (.cons 5 (by exact xAF (fun x:Int=>some (i64 x)) aH) .nil))))) Y a7
 have t:s=2:=gCX;subst t;refine ZH ?_;refine aA (bU (k:=aZ 9) Y xAC Y (.known a)) Y (aA (kD (v:=i64 2) (Kw Y Y dD) Y) Y (cG (VF (k:=aZ 9) (n:=2) eE tv9 Y Y Y Y Y Y aH aH) Y ?_));rintro q K _ ⟨rfl,rfl,d⟩ -;refine aA (dA Yy Wf (.cons Y (Fi d) Y (S4 _) .nil)) Y (cG (dP Y2) Y (aCJ fun B=>cA (cQ (cs:=rcs (fun _=>nilS) q) ta470_257 Y Y (C6 _ _) .here (Vs (fun _=>Y) d) (Tx (by rw[C6,List.length_replicate])) gAQ) (aCK (Z6 ?_))));refine aA (bU (k:=aZ 9) Y xAC Y (.known a)) Y (Z5 ?_);refine m8 (fun(S:Hl) (s:Nat) (f:Nat->Value) (y:Value)=>K.le S/\s<=2/\Done S s f) (fun _ s _ _=>[(0,ptr b),(2,.nilIface),(3,O),(11,ptr B),(12,i64 (2-2*(s:Int)))]) (fun S _ _ _=>S) (fun _ s f y=>[pt B (bK (rcs f y) 470),sl false (aZ 9) y (Az s),rpl b u st H rv O]) (fun _ s _ _=>2-s) _ 0 _ q ⟨xAB _,xAA _,NC K⟩ bM Y a7 ?_;intro S s f y ⟨A,hs,L⟩;have a:=a.mono A;refine Z7 ?_;refine aX 100 Y (fun G=>?_) (fun G=>?_)
 ·have E:s<=1:=aH;obtain⟨P,Q,W⟩:=Sj E;have z:(kk s).toNat<256:=(kk s).toNat_lt;have jf:olds.length=4:=rfl;have N:=Rf L E;refine Z8 ?_;refine aA (aW (k:=aZ 9) (j:=2-2*s) b0 Y (.known a) Y aH aH) Y (aA (cE (o:=0) (k:=aZ 9) ts9 Y (.known a) P Y) Y (aA (cJ (c:=kk s) x9 Y Y Y Y) Y (Z8 ?_)));refine aA (aW (k:=aZ 9) (j:=3-2*s) b0 Y (.known a) Y aH aH) Y (aA (cE (o:=0) (k:=aZ 9) ts9 Y (.known a) Q Y) Y (Z8 ?_));refine aA (iM (j:=(kk s).toNat) xBS jZ Y Y Y z) Y (aA (kD (aK jZ Y aL (sP z)) N) Y ?_);refine aA (HW xAP Y) Y (Z5 ?_);refine aA (aK eL Y aL (DH _ _)) Y (Z1 ?_);refine cG (bJ (z0:=[.int .u8 0]) iG tz5 Y Y Y Y cW) Y ?_;refine aCJ fun jb=>aA (fV (xs:=[kk s]) xAP xAZ x9 Y (.blk aL Y Y)) Y ?_;refine cG (bJ (z0:=[(str [])]) b0 tz9 Y Y Y Y cW) Y ?_;refine aCJ fun jc=>cG (dJ (k:=(aZ 9)) (ys:=[[kk s]]) eE Y Y bP (fun w j=>dC xAC (SeesSl.at (.blk aL Y Y) j)) (by simp[Az];omega) (by simp[Az];omega)) Y ?_;rintro p K _ ⟨rfl,rfl,e⟩ -;refine Z1 ?_;refine cA (bW (fz:=(0,0)) eL Y Y e (.there (.there (.there .here))) IN Y) (aCK (Z5 ?_));refine uAh ?_;rintro jd K _ ⟨rfl,rfl⟩ -;refine fS fun K3 g C=>?_;obtain⟨sa,sn,sc,rfl⟩:=C.isSlice;refine Z1 ?_;refine aA (iM (j:=(kk s).toNat) xBS jZ Y Y Y z) Y (cA (bW (fz:=(0,0)) jZ Y Y Y (.there (.there (.there .here))) (Vt z) Y) (aCK (Z8 ?_)));refine aV (aQ AR (aQ cL (aQ jS bT))) ?_;refine jQ _ (s+1) _ p ⟨x5 A g,aH,NB L g C⟩ aH (.cons 0 Y (.cons 2 Y (.cons 3 Y (.cons 11 Y (.cons 12 (by exact xAF (fun x:Int=>some (i64 x)) aH) .nil))))) Y (by rw[W];exact fun _ h=>h)
 have t:s=2:=aH;subst t;refine Z7 ?_;refine aA (eX underlying471 (fun _ h=>by cases h) Y) Y (Z4 ?_);refine aV (aQ dQ (aQ cL (aQ cL bT))) (iX fun K3 g C=>fC fun K4 i l=>bG Y Y (x5 A (x5 g i)) ?_);exact⟨_,Y,⟨B,f,y,Y,l,NA L (x5 g i),C.mono i⟩,Y⟩
end Go.Proofs
end
section
set_option maxRecDepth 4000
namespace Go.Proofs
open Go Go.SL Go.Syn
def QJ(s:aP)(c:UInt8)(K:Hl):Sp x3 450 [str s,str [c]] K [] (Val (i64 (Lib.countByte s c)) K):=by
 refine bL Tryz.func450 Y Tryz.ntmps450 Y Y fun F w=>ZA ?_;refine aA (s7 (bS Y Y) cD) Y (ZA ?_);refine aA (vI (bS Y Y) cD) Y (Z7 ?_);refine aA (cJ (c:=c) x9 Y Y Y Y) Y (aA (nH (v:=i64 (Lib.countByte s c)) Y Y Tryz.func452 cV cV cV (ex:=Extern.BytealgCount.count) cV (fun w _=>(Lib.run_countString (P:=x3) ⟨s.toArray⟩ c.toNat w).trans cD)) Y (Z6 ?_));exact gDP
def Gt(v:Nat)(f:Nat->Value)(tv:Value)(s:aP)(K:Hl)(hs:s.length<=1000000)(e:K v=some (bK (rcs f tv) 470))(N:Done K 2 f)(I:Ksl (aZ 9) K tv (Az 2)):
    Sp x3 448 [ptr v,str s] K [] (Ret fun r K' L'=>r=str (encQ s)/\L'=[]):=by
  have y:=Ai s;have jd:=z8 s;have jf:(Az 2).length=2:=rfl;refine bL Tryz.func448 Y Tryz.ntmps448 Y Y fun F w=>ZH ?_;refine dU (fun(u:Unit)=>True) (fun _=>[(0,ptr v),(1,str s),(4,str []),(5,i64 (encQ s).length),(6,.bool (posB (cntQ s)))]) (fun _=>K) (fun _=>[]) ?_ ?_
  · refine Z5 ?_;refine aA (aK eL Y (.known e) (DH _ _)) Y (aA (bU (k:=aZ 9) Y xAC Y (.known I)) Y (Z6 ?_));refine aX 26 Y (fun B=>Z5 ?_) (fun B=>Z6 ?_)
    · refine aA (aK eL Y (.known e) (DH _ _)) Y (aA (bU (k:=aZ 9) Y xAC Y (.known I)) Y (Z4 ?_));refine eD (fun(i:Nat)=>i<=2) (fun i=>[(0,ptr v),(1,str s),(4,str []),(5,i64 ((s.length+cntU s i:Nat):Int)),(6,.bool (posB (cntU s i))),(30,tv),(31,i64 2),(32,i64 i)]) (fun _=>K) (fun _=>[]) (fun i=>2-i) 0 (xAA _) bM Y a7 ?_;intro i hi;refine Z6 ?_;refine aX 33 Y (fun E=>?_) (fun E=>?_)
      · have C:i<2:=aH;have Q:=R7 C;have z:(kk i).toNat<256:=(kk i).toNat_lt;have jc:=Ad s (kk i);have je:=U6 s i;obtain⟨a0,n0,b⟩:∃a n,f (kk i).toNat=.slice (some a) 2 n:=(by rcases Kl N (kk i)with ⟨_,h,_⟩|⟨h,_⟩;exact h;(rw[aB8]at h;cases h));refine Z6 ?_;refine aA (aW (k:=aZ 9) (j:=i) b0 Y (.known I) Y Y aH) Y (aA (cE (o:=0) (k:=aZ 9) ts9 Y (.known I) Q Y) Y (Z7 ?_));refine cH Y Y (QJ s (kk i) _) Y (Z9 ?_);refine aX 40 Y (fun H=>?_) (fun H=>?_)
        · refine aI (cN [] [] mixed gAD (cM _) (Z4 ?_));refine aJ Y Y (.none Y) Y Y (cJ (c:=kk i) x9 Y Y Y Y) Y (Z2 ?_);refine aJ Y Y (.none Y) Y Y (iM (j:=(kk i).toNat) xBS jZ Y Y Y z) Y (aJ Y Y (.none Y) Y Y (kD (aK jZ Y (.known e) (sP z)) b) Y (aJ Y Y (.none Y) Y Y (uF Y xAP Y) Y (ZF ?_)));have W:=Fj (s:=s) C
          (refine cX (i+1) aH aH (.cons 0 Y (.cons 1 Y (.cons 4 Y (.cons 5 ?_ (.cons 6 ?_ bM))))) Y a7
           · exact xAF (fun x:Int=>some (i64 x)) (show _=((s.length+cntU s (i+1):Nat):Int) by rw[W];omega)
           exact xAF (fun x:Bool=>some (Value.bool x)) (DA aH).symm)
        refine Z7 ?_;have W:=Fj (s:=s) C
        (refine cX (i+1) aH aH (.cons 0 Y (.cons 1 Y (.cons 4 Y (.cons 5 ?_ (.cons 6 ?_ bM))))) Y a7
         · exact xAF (fun x:Int=>some (i64 x)) (show _=((s.length+cntU s (i+1):Nat):Int) by rw[W];omega)
         rw[show cntU s (i+1)=cntU s i from aH];rfl)
      have d:i=2:=aH;subst d;refine Z4 ?_
      (exact cB () trivial (.cons 0 Y (.cons 1 Y (.cons 4 Y (.cons 5 gCR bM)))) Y a7)
    refine eD (fun(i:Nat)=>i<=s.length) (fun i=>[(0,ptr v),(1,str s),(4,str []),(5,i64 ((s.length+cntQ (s.take i):Nat):Int)),(6,.bool (posB (cntQ (s.take i)))),(10,i64 i)]) (fun _=>K) (fun _=>[]) (fun i=>s.length-i) 0 (xAA _) bM Y a7 ?_;intro i hi;refine Z9 ?_;refine aX 58 Y (fun L=>?_) (fun L=>?_)
    · have G:i<s.length:=aH;obtain⟨c,q⟩:∃c,s[i]?=some c:=⟨s[i]'G,x4 G⟩;have z:c.toNat<256:=c.toNat_lt;have W:=N3 q;have P:=z8 (s.take i);rw[xA6]at P;refine ZC ?_;rcases Kl N c with ⟨t,⟨a0,n0,b⟩,_,_⟩|⟨t,b,_⟩
      · refine Z6 ?_;refine aA (iM (j:=c.toNat) xBS jZ Y Y Y z) Y (aA (kD (aK jZ Y (.known e) (sP z)) b) Y (aA (pV xAP Y) Y (ZA ?_)));refine aA (iM (j:=c.toNat) xBS jZ Y Y Y z) Y (aA (kD (aK jZ Y (.known e) (sP z)) b) Y (aA (uF Y xAP Y) Y (ZF ?_)))
        (refine cX (i+1) aH aH (.cons 0 Y (.cons 1 Y (.cons 4 Y (.cons 5 ?_ (.cons 6 ?_ bM))))) Y a7
         · exact xAF (fun x:Int=>some (i64 x)) (show _=((s.length+cntQ (s.take (i+1)):Nat):Int) by rw[W,x7 t];omega)
         exact xAF (fun x:Bool=>some (Value.bool x)) (DA (by rw[W,x7 t];omega)).symm)
      refine Z6 ?_;refine aA (iM (j:=c.toNat) xBS jZ Y Y Y z) Y (aA (kD (aK jZ Y (.known e) (sP z)) b) Y (aA (pV xAP Y) Y (ZB ?_)))
      (refine cX (i+1) aH aH (.cons 0 Y (.cons 1 Y (.cons 4 Y (.cons 5 ?_ (.cons 6 ?_ bM))))) Y a7
       · exact xAF (fun x:Int=>some (i64 x)) (show _=((s.length+cntQ (s.take (i+1)):Nat):Int) by rw[W,x6 (by rw[t];simp)];omega)
       rw[show cntQ (s.take (i+1))=cntQ (s.take i)from by rw[W,x6 (by rw[t];simp)];rfl];rfl)
    have d:i=s.length:=aH;subst d;rw[xBG];refine Z4 ?_
    (exact cB () trivial (.cons 0 Y (.cons 1 Y (.cons 4 Y (.cons 5 gCR bM)))) Y a7)
  intro u _;refine Z4 ?_;refine aA gAB Y (Z2 ?_);refine dZ 82 Y (fun p=>?_) (fun p=>?_)
  · have hz:encQ s=s:=NL (by rcases Nat.eq_zero_or_pos (cntQ s)with h|h;exact h;(rw[DA h]at p;cases p));refine Z9 ?_;rw[hz];exact⟨_,Y,Y,Y⟩
  refine Z5 ?_;refine cG (MG (k:=elB 5) (x0:=0) (n:=(encQ s).length) qA tv5 Y Y Y Y Y Y aH aH) Y (aCJ fun O=>ZF ?_);refine eD (fun(i:Nat)=>i<=s.length) (fun i=>[(0,ptr v),(1,str s),(4,str []),(12,.slice (some ⟨O,0,none⟩) (encQ s).length (encQ s).length),(13,i64 (encQ (s.take i)).length),(14,i64 i)]) (fun _=>K) (fun i=>[sl false (elB 5) (.slice (some ⟨O,0,none⟩) (encQ s).length (encQ s).length) (bufQ s i)]) (fun i=>s.length-i) 0 (xAA _) bM Y (by rw[Nv];exact fun _ h=>h) ?_;intro i hi;refine Z9 ?_;refine aX 89 Y (fun M=>?_) (fun M=>?_)
  · have G:i<s.length:=aH;obtain⟨c,q⟩:∃c,s[i]?=some c:=⟨s[i]'G,x4 G⟩;have z:c.toNat<256:=c.toNat_lt;have ja:=HL s i;have g:=Fe q;have jb:=Aj s i;refine ZC ?_;rcases Kl N c with ⟨t,⟨a0,n0,b⟩,S,A⟩|⟨t,b,l⟩
    · refine Z6 ?_;refine aA (iM (j:=c.toNat) xBS jZ Y Y Y z) Y (aA (kD (aK jZ Y (.known e) (sP z)) b) Y (aA (pV xAP Y) Y (Z3 ?_)));refine cN [10] [] mixed gAD .nil (Z3 ?_);refine aJ Y Y (.none Y) Y Y (Dk (m:=(encQ (s.take i)).length) iG Y Y Y aH) Y (Z4 ?_);refine aJ Y Y (.none Y) Y Y (iM (j:=c.toNat) xBS jZ Y Y Y z) Y (aJ Y Y (.none Y) Y Y (aK jZ Y (.known e) (sP z)) Y (s6 Y Y (.none Y) Y Y (Te (k:=elB 5) (j:=(encQ (s.take i)).length) (ys:=jL c) xAP cV Y Y .here (.known S) (by intro h;rw[h]at A;simp at A) aH) Y (aCL ?_)));refine⟨_,(show Tks _ _ _ from .nil).sat,?_⟩
      refine ZA ?_
      (refine cX (i + 1) aH aH (.cons 0 Y (.cons 1 Y (.cons 4 Y (.cons 12 Y (.cons 13 ?_ bM))))) Y (by rw [<- Ff q]; exact fun _ h => h)
       exact xAF (fun x:Int=>some (i64 x)) (show _=((encQ (s.take (i+1))).length:Int) by rw[xG q,xAE];omega))
    refine Z6 ?_;refine aA (iM (j:=c.toNat) xBS jZ Y Y Y z) Y (aA (kD (aK jZ Y (.known e) (sP z)) b) Y (aA (pV xAP Y) Y (Z8 ?_)));refine aA (aW (k:=elB 5) (j:=(encQ (s.take i)).length) iG Y aL Y Y (by rw[l]at g;simp at g;omega)) Y ?_;refine cA (iS (k:=elB 5) (j:=(encQ (s.take i)).length) (y0:=c) (xs:=bufQ s i) ts5 Y Y Y Y (by rw[l]at g;simp at g;omega) .here) (aCK (ZE ?_))
    (refine cX (i + 1) aH aH (.cons 0 Y (.cons 1 Y (.cons 4 Y (.cons 12 Y (.cons 13 ?_ bM))))) Y (by rw [<- Q8 q l]; exact fun _ h => h)
     exact xAF (fun x:Int=>some (i64 x)) (show _=((encQ (s.take (i+1))).length:Int) by rw[xG q,xAE,l,xBI];omega))
  have d:i=s.length:=aH;subst d;rw[Q7];refine Z8 ?_;refine aA (fV xAP xAZ x9 Y aL) Y (Z4 ?_);refine uAd ?_;refine Z1 ?_;exact gEO
end Go.Proofs
end
section
namespace Go.Proofs
open Go Go.SL Tryz
def E2:JB x3 134 3 132=true:=cV
abbrev IG(b:Nat)(x:Int)(q:Bool)(v:Value):Asn:=pt b (bK [if q then ptr b else .pointer none,v,i64 x] 134)
abbrev pbl(b:Nat)(x:Int)(xs:List UInt8):Asn:=exA fun v:Value=>[exA fun q:Bool=>[IG b x q v],sl true (elB 5) v xs]
def Vp(b:Nat)(x:Int):∀h,pt b (bK [.pointer none,.slice none 0 0,i64 x] 134) h->Sat [pbl b x []] h:=by
 intro h y;refine nO.2 ⟨.slice none 0 0,nO.2 ⟨false,h,.emp,y,⟨.emp,.emp,.inl ⟨Y,Y,Y⟩,Y,Hl.dj_emp _,(Hl.join_emp _).symm⟩,Hl.dj_emp _,(Hl.join_emp _).symm⟩⟩
def Ss(b:Nat)(x:Int)(v:Value)(xs:List UInt8):∀h,Sat [IG b x true v,sl true (elB 5) v xs] h->Sat [pbl b x xs] h:=by
 intro h y;exact nO.2 ⟨v,nO.2 ⟨true,y⟩⟩
def Su(b:Nat)(x:Int):∀h,pt b (bK [.pointer none,.slice none 0 0,i64 x] 134) h->pbl b x [] h:=by
 intro h y;obtain⟨a,l,s,v,hd,A⟩:=Vp b x h y;rw[A,show l=.emp from v,Hl.join_emp];exact s
def Cx(b:Nat)(x:Int)(q:Bool)(v:Value)(K:Hl):Sp x3 196 [ptr b] K [IG b x q v] (Ret fun u a L'=>u=.tuple #[]/\a=K/\L'=[IG b x true v]):=by
 cases q with
 |true=>
  refine bL func196 Y ntmps196 Y Y fun F w=>ZH ?_;refine aA (BO xBU uW Y Y) Y (Z5 ?_);exact gDF
 |false=>
  refine bL func196 Y ntmps196 Y Y fun F w=>ZD ?_;refine aA (EH xBU xB0 Y aL E2) Y ?_;refine aA (nH Y Y func272 cV cV cV (ex:=Extern.AbiNoEscape.same) cV (fun _ _=>Y)) Y (aA (Cq xB0 xBU Y aL E2) Y (Z5 ?_));exact gDF
def A6(b:Nat)(x:Int)(s:List UInt8)(xs:List UInt8)(d:xs.length+s.length<=140737488351232)(K:Hl):Sp x3 109 [ptr b,str s] K [pbl b x xs] (Ret fun u c L'=>u=.tuple #[i64 s.length,.nilIface]/\c=K/\L'=[pbl b x (xs++s)]):=by
 refine bL func109 Y ntmps109 Y Y fun F w=>tR fun v=>tR fun q=>Z9 ?_;refine bA Y Y (Cx b x q v _) bQ Y ?_;refine aCL (ZA ?_);refine cG (dJ (k:=(elB 5)) (ys:=s) qA Y Y bP (fun _ _=>zL x9) aH aH) Y ?_;rintro a K _ ⟨rfl,rfl,h⟩ -;refine ZE ?_;refine uAn ?_;refine d8 (Ss b x a (xs++s)) (jK Y Y Y (xAB _) ?_);exact gDF
def GY(b:Nat)(x:Int)(xs:List UInt8)(c:xs.length<=140737488351232)(K:Hl):Sp x3 63 [ptr b] K [pbl b x xs] (Ret fun u a L'=>u=str xs/\a=K/\L'=[]):=by
 exact gDN
end Go.Proofs
end
section
namespace Go.Proofs
open Go Go.SL Go.Syn Tryz
section
variable{texts:List aP}{i:Nat}
def UN:((texts.take i).flatten).length<=texts.flatten.length:=by
 have:texts.flatten=(texts.take i).flatten++(texts.drop i).flatten:=by rw[<-List.flatten_append,List.take_append_drop]
 rw[this,xAE];omega
def Fu{s:aP}(h:texts[i]?=some s):(texts.take (i+1)).flatten=(texts.take i).flatten++s:=by
 have p:=kP h;rw[x4 p]at h;cases h
 rw[xAK p,List.flatten_append];simp
def OS(b:Nat)(x:Int)(v:Value)(xs:aP)(texts:List aP)(K:Hl)(hv:Ksl (aZ 9) K v texts)(u:xs.length+texts.flatten.length<=140737488351232)(g:texts.length<=1000000):
  Sp x3 60 [ptr b,v] K [pbl b x xs] (Ret fun r e L'=>r=.tuple #[]/\e=K/\L'=[pbl b x (xs++texts.flatten)]):=by
 refine bL func60 Y ntmps60 Y Y fun F w=>?_;refine Z3 ?_;refine aA (bU (k:=aZ 9) Y xAC Y (.known hv)) Y ?_;refine Z4 ?_;refine eD (fun(i:Nat)=>i<=texts.length) (fun i=>[(0,ptr b),(6,v),(7,i64 texts.length),(8,i64 i)]) (fun _=>K) (fun i=>[pbl b x (xs++(texts.take i).flatten)]) (fun i=>texts.length-i) 0 (xAA _) (.cons 0 Y (.cons 6 Y (.cons 7 Y (.cons 8 Y .nil)))) Y (fun _ h=>by simpa using h) ?_;intro i p;refine Z6 ?_;refine aX 9 Y (fun f=>?_) (fun f=>?_)
 ·have G:i<texts.length:=aH;obtain⟨s,d⟩:∃s,texts[i]?=some s:=⟨texts[i]'G,x4 G⟩;have a:((texts.take (i+1)).flatten).length<=texts.flatten.length:=UN;rw[Fu d,xAE]at a;refine Z6 ?_;refine aA (aW (k:=aZ 9) (j:=i) b0 Y (.known hv) Y Y G) Y ?_;refine aA (cE (o:=0) (k:=aZ 9) ts9 Y (.known hv) d Y) Y ?_;refine Z8 ?_;refine bA Y Y (A6 b x s _ gBT _) (.cons .here .nil) Y ?_;refine aCL ?_;refine Z7 ?_;refine cX (i+1) aH aH (.cons 0 Y (.cons 6 Y (.cons 7 Y (.cons 8 Y .nil)))) Y (fun _ h=>by rw[Fu d,<-xA1];exact h)
 have c:i=texts.length:=aH;subst c;rw[xBG];exact gHT
def VO(texts:List aP):(aZ 9).cs texts=texts.map str:=by
 induction texts with
 |nil=>rfl
 |cons x r w=>show str x::(aZ 9).cs r=_;rw[w];rfl
def gW(b s n:Nat)(x:Int)(xs:aP)(texts:List aP)(cells:List Value)(K:Hl)(fz:Nat×Nat)(d:cells=texts.map str)(I:n=texts.length)(u:xs.length+texts.flatten.length<=140737488351232)(f:texts.length<=1000000):
  Sp x3 60 [ptr b,.slice (some ⟨s,0,none⟩) n n] K [pt s (bK cells 9 fz),pbl b x xs] (Ret fun r a L'=>r=.tuple #[]/\L'=[pbl b x (xs++texts.flatten)]):=by
 subst d I;refine PC ⟨_,func60,Y,Y⟩ fun a g j=>?_;refine(OS b x _ xs texts a (.inr ⟨s,0,texts.length,_,fz,Y,⟨_,j⟩,?_⟩) u f).mono fun e S B ⟨v,h,c,l,z⟩=>⟨v,h,c,z⟩
 rw[VO];exact xAJ (by simp[aZ])
end
end Go.Proofs
end
section
set_option maxRecDepth 4000
namespace Go.Proofs
open Go Go.SL Go.Syn
def Gu(b:Nat)(c st:Int)(d rv O:Value)(K:Hl)(a:Ksl (aZ 9) K O olds):Sp x3 274 [ptr b] K [rpl b c st d rv O]
  (Ret fun r g L'=>r=.tuple #[]/\∃e p,Ql g e p/\L'=[rpl b c st d e p]):=by
 refine bL Tryz.func274 Y Tryz.ntmps274 Y Y fun F w=>Z4 ?_;refine bA Y Y (OY b c st d rv O _ a) bQ Y ?_;rintro _ S _ ⟨⟨j,f,y,rfl,h,i,l⟩,rfl⟩ A;refine ZB ?_;refine dG Y A ?_;exact⟨_,Y,Y,_,_,⟨j,f,y,Y,h,i,l⟩,Y⟩
def D7(v:Value)(K:Hl)(hv:Ksl (aZ 9) K v olds):Sp x3 197 [v] K [] (Ret fun r a L'=>∃b O,r=ptr b/\Ksl (aZ 9) a O olds/\L'=[rpl b 0 0 (.int .u32 0) .nilIface O]):=by
 refine bL Tryz.func197 Y Tryz.ntmps197 Y Y fun F w=>Z9 ?_;refine aA (bU (k:=aZ 9) Y xAC Y (.known hv)) Y (aA (kD (v:=i64 0) (G4 Y Y dD) Y) Y (aA (s7 (bS Y Y) dD) Y (Z8 ?_)));refine kG (eO (aZ 9)) (cG (dJ (k:=(aZ 9)) (ys:=olds) eE Y Y bP (fun w j=>dC xAC (SeesSl.at (k:=aZ 9) (.known hv) j)) (by show (0+4)*16<=_;decide) (by show 0+4<=_;decide)) Y ?_);rintro c K _ ⟨rfl,rfl,h⟩ -;refine fS fun S A u=>?_;obtain⟨I,Q,q,rfl⟩:=u.isSlice;refine aA (dA tb400 tb400f cW) Y (Z1 ?_);refine aCJ fun B=>Z4 ?_;refine bG Y Y A ?_;exact⟨_,Y,_,_,Y,u,Y⟩
def NM:∃fn,x3.funcs[274]?=some fn/\(fn.name== "runtime.NumGoroutine")=false/\fn.body.isSome=true:=⟨_,Tryz.func274,rfl,rfl⟩
def IL(b:Nat)(O:Value)(s:aP)(K:Hl)(d:s.length<=1000000)(a:Ksl (aZ 9) K O olds):Sp x3 198 [ptr b,str s] K [rpl b 0 0 (.int .u32 0) .nilIface O] (Ret fun r i L'=>r=str (encQ s)):=by
 refine bL Tryz.func198 Y Tryz.ntmps198 Y Y fun F w=>ZC ?_;refine bA Y Y (YG _ NM _ Ql (fun L le=>Gu b 0 1 _ _ _ L (a.mono le))) bQ Y ?_;rintro _ S _ ⟨rfl,q,e,⟨j,f,y,rfl,h,c,l⟩,rfl⟩ A;refine Z9 ?_;refine nS Y Y (RF j) (Gt j f y s _ d h c l) .nil Y ?_;rintro _ p _ ⟨rfl,rfl⟩ g;refine Z4 ?_;refine bG Y Y (x5 A g) ?_;exact⟨_,Y,Y⟩
def A7(s:aP)(K:Hl)(d:s.length<=1000000):Sp x3 110 [str s] K [] (Ret fun r e L'=>r=str (gR s)/\L'=[]):=by
 have v:=Ai s;have c:=z8 s;refine bL Tryz.func110 Y Tryz.ntmps110 Y Y fun F w=>Z7 ?_;refine cG (bJ (z0:=[(str []),(str []),(str []),(str [])]) b0 tz9 Y Y Y Y cW) Y ?_;refine aCJ fun N=>kE fun L p b=>bA Y Y (D7 _ _ (.inr ⟨N,0,4,_,_,Y,⟨_,b⟩,Y⟩)) .nil Y ?_;rintro _ S _ ⟨j,O,rfl,a,rfl⟩ A;refine Z1 ?_;refine bA Y Y (IL j O s _ d a) bQ Y ?_;rintro _ f h rfl g;refine aA (eG Y Y gAH) Y (aA (eG Y Y gAH) Y (Z4 ?_));refine uAd ?_;refine bG Y Y (x5 p (x5 A g)) ?_;exact gEO
end Go.Proofs
end
section
set_option maxRecDepth 4000
namespace Go.Proofs
open Go Go.SL Go.Syn
def XC(x y:Nat)(K:Hl)(a:x<18446744073709551616)(t:y<18446744073709551616):Sp x3 200 [.int .u64 x,.int .u64 y] K [] (Val (.tuple #[.int .u64 ((x*y/18446744073709551616:Nat):Int),.int .u64 ((x*y%18446744073709551616:Nat):Int)]) K):=
 p9 ⟨_,Tryz.func200,rfl,rfl⟩ fun w b=>(Tryz.bits_Mul x y a t w).mono fun e c ⟨A,g⟩=>⟨A,by rw[g];exact RowKit.Below.refl _ _⟩
def GG(s p:aP)(K:Hl)(h:p.length<=s.length)(A:s.take p.length=p):Sp x3 201 [str s,str p] K [] (Val (.bool true) K):=by
 have rT:∀K,Sp x3 278 [str s,str p] K [] (Val (.bool true) K):=by
  intro K;refine bL Tryz.func278 Y Tryz.ntmps278 Y Y fun F w=>ZB ?_;refine aA (vI (gA Y Y) aH) Y (Z8 ?_);refine aA (gC (n:=p.length) x9 Y Y Y aH) Y (Z3 ?_);refine aA (vI (dV Y Y) A) Y (Z6 ?_);exact gDP
 refine bL Tryz.func201 Y Tryz.ntmps201 Y Y fun F w=>Z9 ?_;refine cH Y Y (rT _) Y (Z5 ?_);exact gDP
def DZ:aP:=List.replicate 128 32
def vP:∀d,indC d=List.replicate (2*d) 32
 |0=>rfl
 |d+1=>by rw[indC,vP d,show 2*(d+1)=(2*d+1)+1 from by omega,List.replicate_succ,List.replicate_succ];rfl
def Jn{d:Nat}(h:d<=64):DZ.take (2*d)=indC d:=by rw[vP,DZ,List.take_replicate,Nat.min_eq_left aH]
def F9(d:Nat)(hd:d<=64)(K:Hl):Sp x3 112 [str [32,32],i64 d] K [] (Val (str (indC d)) K):=by
 refine bL Tryz.func112 Y Tryz.ntmps112 Y Y fun F w=>ZI ?_;refine aX 12 Y (fun x=>Z9 ?_) (fun x=>Z6 ?_)
 ·rw[show d=0 from aH];exact gDP
 refine aX 14 Y (fun h=>ZA ?_) (fun h=>Z7 ?_)
 ·rw[show d=1 from aH];exact gDP
 refine aA (s7 (cP Y Y) aH) Y (Z9 ?_);refine aA (kD (v:=.int .u64 ((2:Nat):Int)) (pU xBN xAM Y) (by rfl)) Y (Z1 ?_);refine aA (kD (v:=.int .u64 (d:Int)) (pU xBN xAM Y) (by congr 1;unfold IntKind.wrap IntKind.bits IntKind.signed;simp;omega)) Y (cH Y Y (XC 2 d _ dD aH) Y (ZB ?_));refine aA (s7 (e7 Y Y) (by have:2*d/18446744073709551616=0:=Nat.div_eq_of_lt aH;omega)) Y (Z4 ?_);refine aA (s7 (e7 Y Y) (by have:=Nat.mod_lt (2*d) (show 0<18446744073709551616 by decide);have:=Nat.mod_le (2*d) 18446744073709551616;omega)) Y (Z9 ?_);refine aA (kD (v:=i64 ((2*d:Nat):Int)) (pT xAM xBN Y aH (by have:=Nat.mod_le (2*d) 18446744073709551616;omega)) (by rw[Nat.mod_eq_of_lt aH])) Y (Z8 ?_);refine aA (s7 (bS Y Y) dD) Y (Z9 ?_);refine aA (cJ (c:=32) x9 Y Y Y Y) Y (Z6 ?_);refine aA (vI (bS Y Y) dD) Y (ZB ?_);refine aA (vI (gF Y Y) aH) Y (Z4 ?_);refine cH Y Y (GG DZ [32,32] _ dD Y) Y (Z8 ?_);refine aA (gC (n:=2*d) (l:=DZ) x9 Y Y Y (by simp[DZ];omega)) Y (Z8 ?_);rw[Jn hd];exact gDP
end Go.Proofs
end
section
set_option maxRecDepth 4000
namespace Go.Proofs
open Go Go.SL Go.Syn
def Ry(b n:Nat)(K:Hl)(d:n<=140737488351232):Sp x3 275 [ptr b,i64 n] K [zW b true nilS] (Ret fun u a L'=>u=.tuple #[]/\a=K/\∃c cs,L'=[zW b true (.slice (some ⟨c,0,none⟩) 0 (List.length cs)),pt c (bK cs 5)]):=by
 refine bL Tryz.func275 Y Tryz.ntmps275 Y Y fun F w=>aI (qK (anc:=[0,1,3,7,15,31,0,127,255,0,512,1536,3584,7680,16383,32767]) (ord:=[0,1,2,3,4,5,6,7,9,10,11,12,13,8,14,15]) [8] [] mixed gAD (aQ cL bT) (Z4 ?_));refine aJ Y Y (.none Y) Y Y (Df Y xAP Y) Y (aJ Y Y (.none Y) Y Y (kD (v:=i64 0) (nP Y Y dD dD) Y) Y (Z1 ?_));refine aJ Y Y (.none Y) Y Y (kD (v:=i64 n) (bR Y Y aH aH) (by rw[Int.zero_add])) Y (Z4 ?_);refine aJ Y Y (.none Y) Y Y (uF Y xAP Y) Y (s6 Y Y (.none Y) Y Y (aAQ (n:=n) (ps:= #[3]) (t:=130) Y Y Tryz.func315 cV cV cV cV xAP aH) Y ?_);rintro _ K _ ⟨c,cs,H,rfl,rfl,rfl⟩ -;refine⟨_,(show Tks _ _ _ from .cons (.there .here) .nil).sat,?_⟩
 refine aJ Y Y (.none Y) Y Y (G7 (m:=0) iG Y Y Y aH) Y (ZA ?_);refine aA (Ks xAP cV Y Y) Y (ZA ?_);exact⟨_,Y,Y,Y,c,cs,Y⟩
def bldg(b:Nat)(L:List Asn):Prop:=∃c cs,L=[zW b true (.slice (some ⟨c,0,none⟩) 0 (List.length cs)),pt c (bK cs 5)]
def Rx(b n:Nat)(K:Hl)(d:n<=140737488351232)(P:0<n):Sp x3 199 [ptr b,i64 n] K [zW b false nilS] (Ret fun u a L'=>u=.tuple #[]/\a=K/\bldg b L'):=by
 refine bL Tryz.func199 Y Tryz.ntmps199 Y Y fun F w=>Z3 ?_;refine bA Y Y (n8 b false nilS _) bQ Y ?_;refine aCL (Z6 ?_);refine aA (s7 (cP Y Y) aH) Y (Z6 ?_);refine cN [] [] mixed gAD (cM _) (Z4 ?_);refine aJ Y Y (.none Y) Y Y (Df Y xAP Y) Y (Z4 ?_);refine aJ Y Y (.none Y) Y Y (uF Y xAP Y) Y (Z2 ?_);refine aJ Y Y (.none Y) Y Y (vI (cP Y Y) aH) Y (Z6 ?_);refine bA Y Y (Ry b n _ d) bQ Y ?_;rintro _ K _ ⟨rfl,rfl,c,cs,rfl⟩ -;refine Z2 ?_;exact⟨_,Y,Y,Y,c,cs,Y⟩
def VN{e:TypeId}{c:Nat}{cs:List Value}{L:List Asn}:∀h,Sat (pt c (bK cs e)::L) h->Sat (sl false (elB e) (.slice (some ⟨c,0,none⟩) 0 cs.length) []::L) h:=by
 rintro h ⟨a,l,s,v,hd,A⟩;refine⟨a,l,?_,v,hd,A⟩
 exact .inr ⟨c,cs.length,cs,(0,0),Y,(fun h=>by cases h),xAA _,by simp[vA],.inl (xAG _),by simpa[El.cs,pt,vA]using s⟩
def P8{e:TypeId}{v:Value}{xs:aP}{L:List Asn}(P:xs≠[]):∀h,Sat (sl false (elB e) v xs::L) h->Sat (sl true (elB e) v xs::L) h:=by
 rintro h ⟨a,l,s,g,hd,A⟩;refine⟨a,l,?_,g,hd,A⟩
 rcases s with ⟨_,c,_⟩|⟨b,f,j,w,c,i,d⟩
 ·exact absurd c P
 exact .inr ⟨b,f,j,w,c,fun _=>P,d⟩
def NX(b c:Nat)(cs:List Value)(s:aP)(K:Hl)(P:s≠[])(e:s.length<=140737488351232):Sp x3 109 [ptr b,str s] K [zW b true (.slice (some ⟨c,0,none⟩) 0 cs.length),pt c (bK cs 5)] (Ret fun u d L'=>u=.tuple #[i64 s.length,.nilIface]/\d=K/\L'=[bldr b s]):=by
 refine bL Tryz.func109 Y Tryz.ntmps109 Y Y fun F w=>kQ (fun h y=>VN h (hO y)) (Z9 ?_);refine bA Y Y (n8 b true _ _) bQ Y ?_;refine aCL (ZA ?_);refine cG (dJ (k:=(elB 5)) (ys:=s) qA Y Y bP (fun _ _=>zL x9) gAG gAG) Y ?_;rintro v K _ ⟨rfl,rfl,a⟩ -;refine ZE ?_;rw[xB1];refine d8 (P8 P) (uAn ?_);refine d8 (AU b v s) (jK Y Y Y (xAB _) ?_);exact gDF
def yJ(sep x:aP)(r:List aP):aP:=x++r.flatMap (sep++ ·)
def Dv(sep:aP):∀(x:aP) (r:List aP),oC sep (x::r)=yJ sep x r
 |x,[]=>by simp[oC,yJ]
 |x,y::r=>by rw[oC,Dv sep y r];simp[yJ,List.append_assoc]
def KN{sep x:aP}{r:List aP}{i:Nat}{y:aP}(h:r[i]?=some y):yJ sep x (r.take (i+1))=yJ sep x (r.take i)++sep++y:=by
 have p:i<r.length:=by
  rcases xAD i r.length with e|e
  ·exact e
  exact gFQ
 rw[x4 p]at h;cases h
 rw[xAK p];unfold yJ;rw[List.flatMap_append];simp only[List.flatMap_cons,List.flatMap_nil,List.append_nil,List.append_assoc]
def lenT(d:List aP):Nat:=(d.map List.length).sum
def Bo{d:List aP}{i:Nat}{y:aP}(h:d[i]?=some y):lenT (d.take (i+1))=lenT (d.take i)+y.length:=by
 have p:i<d.length:=by
  rcases xAD i d.length with e|e
  ·exact e
  exact gFQ
 rw[x4 p]at h;cases h
 rw[xAK p];unfold lenT;rw[List.map_append,List.sum_append];simp
def Iv(d:List aP)(i:Nat):lenT (d.take i)<=lenT d:=by
 have:lenT d=lenT (d.take i)+lenT (d.drop i):=by
  conv=>lhs;rw[<-List.take_append_drop i d]
  unfold lenT;rw[List.map_append,List.sum_append]
 omega
def Bn(sep x:aP)(r:List aP):(yJ sep x r).length=x.length+lenT r+sep.length*r.length:=by
 unfold yJ lenT;rw[xAE];induction r with
 |nil=>simp
 |cons y r w=>
  rw[xB4,xAE,xAE,List.map_cons,List.sum_cons,xBT,Nat.mul_succ];omega
def UZ(v:Value)(d:List aP)(sep:aP)(K:Hl)(hv:Ksl (aZ 9) K v d)(Q:lT v)(P:∀x∈d,x≠[])(L:0<sep.length/\sep.length<=1000)(hl:d.length<=100000)(ht:lenT d<=1000000000):
  Sp x3 111 [v,str sep] K [] (Ret fun r N L'=>r=str (oC sep d)/\N=K/\L'=[]):=by
 refine bL Tryz.func111 Y Tryz.ntmps111 Y Y fun F w=>?_;refine Z9 ?_;refine aA (bU (k:=aZ 9) Y xAC Y (.known hv)) Y ?_;refine Z9 ?_;refine aX 13 Y (fun M=>Z9 ?_) (fun M=>Z6 ?_)
 ·have e:d=[]:=xA7.1 aH;rw[e];exact gDF
 refine aX 15 Y (fun l=>?_) (fun l=>ZD ?_)
 ·obtain⟨x,g⟩:∃x,d=[x]:=List.length_eq_one_iff.1 aH;have C:d[0]?=some x:=by rw[g];rfl
  refine Z3 ?_;refine aA (aW (k:=aZ 9) (j:=0) b0 Y (.known hv) Y Y aH) Y ?_;refine aA (cE (o:=0) (k:=aZ 9) ts9 Y (.known hv) C Y) Y ?_;refine Z7 ?_;rw[g];exact gDF
 refine aA (vI (e7 Y Y) aH) Y ?_;refine Z9 ?_;refine aA (bU (k:=aZ 9) Y xAC Y (.known hv)) Y ?_;refine Z1 ?_;refine aA (kD (v:=i64 (9223372036854775807/((d.length:Int)-1))) (Kw Y Y aH) (by rw[Int.tdiv_eq_ediv_of_nonneg dD];unfold IntKind.wrap IntKind.bits IntKind.signed;have O:0<=(9223372036854775807:Int)/((d.length:Int)-1):=Int.ediv_nonneg dD aH;have h2:(9223372036854775807:Int)/((d.length:Int)-1)<=9223372036854775807:=Int.ediv_le_self _ dD;congr 1;simp;omega)) Y ?_;refine aA (s7 (gA Y Y) (by have O:(1001:Int)<=9223372036854775807/((d.length:Int)-1):=Int.le_ediv_of_mul_le aH aH;omega)) Y ?_;refine ZA ?_;refine aA (bU (k:=aZ 9) Y xAC Y (.known hv)) Y ?_;refine Z1 ?_;have t:(sep.length:Int)*((d.length:Int)-1)=((sep.length*(d.length-1):Nat):Int):=(by rw[Int.natCast_mul,Int.natCast_sub aH];rfl);have ja:sep.length*(d.length-1)<=1000*100000:=Nat.mul_le_mul L.2 aH;refine aA (kD (v:=i64 ((sep.length*(d.length-1):Nat):Int)) (nP Y Y aH aH) (by rw[<-t])) Y ?_;refine Z8 ?_;refine aA (bU (k:=aZ 9) Y xAC Y (.known hv)) Y ?_;refine Z4 ?_;refine eD (fun(i:Nat)=>i<=d.length) (fun i=>[(0,v),(1,str sep),(5,i64 ((sep.length*(d.length-1)+lenT (d.take i):Nat):Int)),(39,v),(40,i64 d.length),(41,i64 i)]) (fun _=>K) (fun _=>[]) (fun i=>d.length-i) 0 (xAA _) (.cons 0 Y (.cons 1 Y (.cons 5 (by exact xAF (fun x:Int=>some (i64 x)) (by simp[lenT])) (.cons 39 Y (.cons 40 Y (.cons 41 Y .nil)))))) Y a7 ?_;intro i S;refine Z6 ?_;refine aX 42 Y (fun p=>?_) (fun p=>?_)
 ·have G:i<d.length:=aH;obtain⟨x,g⟩:∃x,d[i]?=some x:=⟨d[i]'G,x4 G⟩;have f:=Iv d (i+1);rw[Bo g]at f;refine Z6 ?_;refine aA (aW (k:=aZ 9) (j:=i) b0 Y (.known hv) Y Y G) Y ?_;refine aA (cE (o:=0) (k:=aZ 9) ts9 Y (.known hv) g Y) Y ?_;refine ZA ?_;refine aA (s7 (e7 Y Y) aH) Y ?_;refine ZI ?_;exact cX (i+1) aH aH (.cons 0 Y (.cons 1 Y (.cons 5 (by exact xAF (fun x:Int=>some (i64 x)) (by rw[Bo g];omega)) (.cons 39 Y (.cons 40 Y (.cons 41 Y .nil)))))) Y a7
 have b:i=d.length:=aH;subst b;rw[xBG];obtain⟨x,r,E⟩:∃x r,d=x::r:=(by cases d with|nil=>simp at l M|cons x r=>exact⟨x,r,Y⟩);have C:d[0]?=some x:=by rw[E];rfl
 have A:r.length=d.length-1:=by rw[E];simp
 have W:lenT d=x.length+lenT r:=by rw[E];simp[lenT]
 have H:=P x (by rw[E];simp);have q:d.drop 1=r:=by rw[E];rfl
 have s:=Bn sep x r;rw[A]at s;refine Z8 ?_;refine aCJ fun a=>?_;refine Z5 ?_;refine bA Y Y (Rx a (sep.length*(d.length-1)+lenT d) _ aH (by have:=Nat.mul_pos L.1 (show 0<d.length-1 by omega);omega)) (.cons .here .nil) Y ?_;rintro _ K _ ⟨rfl,rfl,c,cs,rfl⟩ -;refine Z5 ?_;refine aA (aW (k:=aZ 9) (j:=0) b0 Y (.known hv) Y Y aH) Y ?_;refine aA (cE (o:=0) (k:=aZ 9) ts9 Y (.known hv) C Y) Y ?_;refine bA Y Y (NX a c cs x _ H aH) (.cons .here (.cons .here .nil)) Y ?_;refine aCL ?_;refine Z6 ?_;refine aA (Cr (k:=aZ 9) (m:=1) b0 Y (.known hv) Y Y aH) Y ?_;have z:=Iu hv (show 1<=d.length by omega) Q;rw[q]at z;refine aA (bU (k:=aZ 9) Y xAC Y (.known z)) Y ?_;refine Z4 ?_;refine eD (fun(i:Nat)=>i<=r.length) (fun i=>[(1,str sep),(8,ptr a),(63,oM v 1 1),(64,i64 r.length),(65,i64 i)]) (fun _=>K) (fun i=>[bldr a (yJ sep x (r.take i))]) (fun i=>r.length-i) 0 (xAA _) (.cons 1 Y (.cons 8 Y (.cons 63 Y (.cons 64 Y (.cons 65 Y .nil))))) Y (by simp only[yJ,List.take_zero,List.flatMap_nil,List.append_nil];exact fun _ h=>h) ?_;intro i S;refine Z6 ?_;refine aX 66 Y (fun u=>?_) (fun u=>?_)
 ·have G:i<r.length:=aH;obtain⟨y,I⟩:∃y,r[i]?=some y:=⟨r[i]'G,x4 G⟩;have f:=Iv r (i+1);rw[Bo I]at f;have B:=Bn sep x (r.take i);rw[xA6,Nat.min_eq_left aH]at B;have jb:sep.length*i<=sep.length*(d.length-1):=Nat.mul_le_mul_left _ aH;refine Z6 ?_;refine aA (aW (k:=aZ 9) (j:=i) b0 Y (.known z) Y Y G) Y ?_;refine aA (cE (o:=0) (k:=aZ 9) ts9 Y (.known z) I Y) Y ?_;refine Z6 ?_;refine bA Y Y (nF a sep _ aH _) (.cons .here .nil) Y ?_;refine aCL ?_;refine Z4 ?_;refine bA Y Y (nF a y _ gBT _) (.cons .here .nil) Y ?_;refine aCL ?_;refine Z7 ?_;exact cX (i+1) aH aH (.cons 1 Y (.cons 8 Y (.cons 63 Y (.cons 64 Y (.cons 65 Y .nil))))) Y (by rw[KN I];exact fun _ h=>h)
 have b:i=r.length:=aH;subst b;rw[xBG];refine Z7 ?_;refine bA Y Y (qR a _ aH _) (.cons .here .nil) Y ?_;refine aCL ?_;refine Z5 ?_;rw[E,Dv];exact gDF
end Go.Proofs
end
section
set_option maxRecDepth 4000
namespace Go.Proofs
open Go Go.SL Go.Syn
def DD(s:aP):(gR s).length=s.length+cntQ s+2:=by
 have:=Ai s;unfold encQ at this;unfold gR;simp only[List.length_append,List.length_singleton,this];omega
def m5(s:aP):(gR s).length<=2*s.length+2:=by have:=DD s;have:=z8 s;omega
def OX(s:aP):gR s≠[]:=by intro h;have:=DD s;rw[h]at this;simp at this
def uL{n:Nat}:∀ {l:List aP},(∀x∈l,x.length<=n)->lenT (l.map gR)<=l.length*(2*n+2)
 | [],_=>by simp[lenT]
 |x::l,h=>by
  have w:=uL (l:=l) fun y t=>h y (by simp[t])
  have a:=m5 x;have b:=h x cD;unfold lenT at w ⊢;rw[List.map_cons,List.map_cons,List.sum_cons,xBT,Nat.succ_mul];omega
def Bm{l:List aP}:(oC [44,32] l).length<=lenT l+2*l.length:=by
 cases l with
 |nil=>simp[oC]
 |cons x r=>
  rw[Dv,Bn];simp[lenT];omega
def zE{l:List aP}(h:l.length≠1):oS l=[91]++oC [44,32] (l.map gR)++[93]:=by
 cases l with
 |nil=>rfl
 |cons x r=>
  cases r with
  |nil=>simp at h
  |cons y r=>rfl
def Of{n:Nat}{l:List aP}(h:∀x∈l,x.length<=n):(oS l).length<=l.length*(2*n+4)+2:=by
 by_cases a:l.length=1
 ·obtain⟨x,rfl⟩:=List.length_eq_one_iff.1 a;have:=m5 x;have:=h x cD;simp[oS];omega
 have c:=uL h;have b:=Bm (l:=l.map gR);rw[xAW]at b;rw[zE a];simp only[List.length_append,List.length_singleton];have:l.length*(2*n+4)=l.length*(2*n+2)+2*l.length:=by rw[show 2*n+4=(2*n+2)+2 from rfl,Nat.mul_add];omega
 omega
def O3{l:List aP}{i:Nat}{x:aP}(h:l[i]?=some x):(l.take (i+1)).map gR=(l.take i).map gR++[gR x]:=by
 have p:i<l.length:=by
  rcases xAD i l.length with e|e
  ·exact e
  exact gFQ
 rw[x4 p]at h;cases h
 rw[xAK p,List.map_append];rfl
attribute [local semireducible] Go.SL.T Go.SL.OL Go.SL.D Go.SL.DL Go.SL.Ev Go.SL.Ef Go.SL.EfS in
def OM{E:Env}{b:Array Oper}{rest:List Oper}{g:Fr}{K:Hl}{L:List Asn}{Q:Post}{α:Type}{k:El α}{v:Value}{xs:List α}{z:Bool}(h:lT v->OL E b rest g K (sl z k v xs::L) Q):OL E b rest g K (sl z k v xs::L) Q:=fun a w f i=>h (Ts .here i) a w f i
def A5(v:Value)(l:List aP)(K:Hl)(hv:Ksl (aZ 9) K v l)(B:∀x∈l,x.length<=1000)(H:l.length<=100000):Sp x3 61 [v] K [] (Ret fun r N L'=>r=str (oS l)/\L'=[]):=by
 have I:=uL B;have f:=Bm (l:=l.map gR);rw[xAW]at f;refine bL Tryz.func61 Y Tryz.ntmps61 Y Y fun F w=>kQ (eO (aZ 9)) (ZE ?_);refine aA (bU (k:=aZ 9) Y xAC Y (.known hv)) Y (Z4 ?_);refine l5 (fun(S:Hl) (i:Nat) (u:Value)=>K.le S/\i<=l.length) (fun _ i u=>[(3,u),(6,v),(7,i64 l.length),(8,i64 i)]) (fun S _ _=>S) (fun _ i u=>[sl false (aZ 9) u ((l.take i).map gR)]) (fun _ i _=>l.length-i) _ 0 _ ⟨xAB _,xAA _⟩ bM Y a7 ?_;intro S i u ⟨A,O⟩;have z:=hv.mono A;refine Z6 ?_;refine aX 9 Y (fun E=>?_) (fun E=>?_)
 ·have s:i<l.length:=aH;obtain⟨x,c⟩:∃x,l[i]?=some x:=⟨l[i]'s,x4 s⟩;have L:=B x (x8 c);refine Z6 ?_;refine aA (aW (k:=aZ 9) (j:=i) b0 Y (.known z) Y Y s) Y (aA (cE (o:=0) (k:=aZ 9) ts9 Y (.known z) c Y) Y (Z6 ?_));refine bA Y Y (A7 x _ aH) .nil Y ?_;rintro _ C _ ⟨rfl,rfl⟩ g;refine cG (bJ (z0:=[(str [])]) b0 tz9 Y Y Y Y cW) Y ?_;refine aCJ fun P=>cG (dJ (k:=(aZ 9)) (ys:=[gR x]) eE Y Y bP (fun w j=>dC xAC (SeesSl.at (.blk aL Y Y) j)) gAG gAG) Y ?_;rintro q K _ ⟨rfl,rfl,t⟩ -;refine Z8 ?_;refine uAa ?_;exact gJ _ (i+1) q ⟨x5 A g,aH⟩ aH bM Y (by rw[O3 c];exact fun _ h=>h)
 have e:i=l.length:=aH;subst e;rw[xBG];refine Z9 ?_;refine uAj ?_;refine Z3 ?_;refine aX 20 Y (fun a=>?_) (fun a=>?_)
 ·have b:l.length=1:=(by have:=a;simp at this;omega);obtain⟨x,p⟩:=List.length_eq_one_iff.1 b;subst p;refine Z3 ?_;refine aA (aW (k:=aZ 9) (j:=0) b0 Y aL Y Y cD) Y ?_;refine aA (cE (o:=0) (k:=aZ 9) (u:=gR x) ts9 Y aL Y Y) Y (Z5 ?_);refine uAd ?_;refine bG Y Y (by first|exact A|exact x5 A g) ?_;exact gEO
 have b:l.length≠1:=(by have:=a;simp at this;omega);refine Z4 ?_;refine OM fun d=>fS fun C g G=>Z1 ?_;refine bA Y Y (UZ _ _ [44,32] _ G d (fun y M=>by obtain⟨x,_,rfl⟩:=xBM.1 M;exact OX x) ⟨by decide,by decide⟩ (by simpa using H) aH) .nil Y (aCL (aA (eG Y Y (by simp only[List.length_cons,List.length_nil];omega)) Y (aA (eG Y Y (by simp only[List.length_append,List.length_cons,List.length_nil];omega)) Y (Z4 ?_))));refine uAd ?_;refine bG Y Y (by first|exact A|exact x5 A g) ?_;rw[zE b];exact gEO
end Go.Proofs
end
section
namespace Go.Syn
open Go.Cmp Go.Proofs
def vO(d:Nat):(indC d).length=2*d:=by rw[vP,List.length_replicate]
def rU{n:Nat}{l:List aP}(u:n<=1000)(h:∀x∈l,x.length<=n)(v:l.length<=2*n+1):(oS l).length<=4010006:=by
 have a:=Of h;have b:l.length*(2*n+4)<=2001*2004:=Nat.mul_le_mul aH aH;omega
def GX{n:Nat}(u:n<=1000):∀ {t:Tree} {d:Nat} {f:Bool},sOk n t->d+dpt t<=64->
  ((wf t 0=true\/wf t 2=true)->(prn t d f).length+1000<=10000000*cnt t)/\((wf t 1=true\/wf t 3=true\/wf t 4=true)->(prn t d f).length<=10000000*cnt t):=by
 intro t;induction t with
 |const b=>intro d f _ _;refine⟨fun _=>?_,fun h=>by simp[wf]at h⟩;simp only[prn,cnt];split<;>simp
 |not_ t w=>
  intro d f e hd;refine⟨fun h=>?_,fun h=>by simp[wf]at h⟩
  simp[wf]at h;have M:dpt t=0:=by cases t<;>simp[wf]at h<;>rfl
  simp only[dpt]at hd;have:=(w (d:=d) (f:=true) e aH).1 (.inl h);exact gDR
 |many r l w=>
  intro d f e hd;refine⟨fun h=>?_,fun h=>by simp[wf]at h⟩
  simp[wf]at h;have M:dpt l=0:=by cases l<;>simp[wf]at h<;>rfl
  simp only[dpt]at hd;have:=(w (d:=d) (f:=true) e aH).2 (.inl h);have y:(if r=true then [97,108,108,111,102,32,40]else [97,110,121,111,102,32,40]:aP).length=7:=by split<;>rfl
  simp only[prn,cnt,List.length_append,List.length_cons,List.length_nil,y];omega
 |mat S s B a b=>
  intro d f e hd;refine⟨fun h=>?_,fun h=>by simp[wf]at h⟩
  have g:=rU u e.1 e.2.2.1;have j:=rU u e.2.1 e.2.2.2;have q:(vZ B).length<=8:=by unfold vZ;split;decide;split;decide;split<;>decide
  have z:(xZ S).length<=10:=by unfold xZ;split;decide;split<;>decide
  have F:(if s=true then xN else []).length<=22:=by split<;>decide
  exact gDR
 |exi a=>
  intro d f e hd;refine⟨fun h=>?_,fun h=>by simp[wf]at h⟩
  have g:=rU u e.1 e.2;exact gDR
 |siz S m=>
  intro d f e hd;refine⟨fun h=>?_,fun h=>by simp[wf]at h⟩
  have g:=Lib.itoa_length_le m (by have:=e.1;omega) (by have:=e.2;omega);have j:(r8 S).length<=5:=by unfold r8;split;decide;split<;>decide
  exact gDR
 |tnil=>intro d f _ _;refine⟨fun h=>by simp[wf]at h,fun _=>by simp[prn]⟩
 |cnil=>intro d f _ _;refine⟨fun h=>by simp[wf]at h,fun _=>by simp[prn]⟩
 |bnil=>intro d f _ _;refine⟨fun h=>by simp[wf]at h,fun _=>by simp[prn]⟩
 |tcons t l A i=>
  intro d f e hd;refine⟨fun h=>by simp[wf]at h,fun h=>?_⟩
  simp[wf]at h;have M:dpt t=0:=by cases t<;>simp[wf]at h<;>rfl
  have E:dpt l=0:=by cases l<;>simp[wf]at h<;>rfl
  simp only[dpt]at hd;have g:=(A (d:=d) (f:=true) e.1 aH).1 (.inl h.1);have j:=(i (d:=d) (f:=false) e.2 aH).2 (.inl h.2);have q:(if f=true then []else [44,32]:aP).length<=2:=by split<;>simp
  simp only[prn,cnt,List.length_append];omega
 |plain B=>intro d f _ _;refine⟨fun _=>?_,fun h=>by simp[wf]at h⟩;simp only[prn,cnt];split<;>simp
 |act k a p=>
  intro d f e _;refine⟨fun _=>?_,fun h=>by simp[wf]at h⟩
  have g:=m5 a;have P:a.length<=n:=e;have j:(uA k).length<=9:=by unfold uA;split;decide;split;decide;split<;>decide
  simp only[prn,cnt];split
  ·simp
  simp only[List.length_append,List.length_singleton];omega
 |set_ m v t=>
  intro d f e _;refine⟨fun _=>?_,fun h=>by simp[wf]at h⟩
  have g:=m5 m;have j:=m5 v;have q:=e.1;have z:=e.2;have F:(lQ t).length<=8:=by unfold lQ;split;decide;split;decide;split<;>decide
  exact gDR
 |iff x w=>
  intro d f e hd;refine⟨fun h=>?_,fun h=>by simp[wf]at h⟩
  simp[wf]at h;simp only[dpt]at hd;have:=(w (d:=d) (f:=true) e hd).2 (.inr (.inr h));simp only[prn,cnt];omega
 |ccons c l A i=>
  intro d f e hd;refine⟨fun h=>by simp[wf]at h,fun h=>?_⟩
  simp[wf]at h;simp only[dpt]at hd;have g:=(A (d:=d) (f:=true) e.1 aH).1 (.inr h.1);have j:=(i (d:=d) (f:=true) e.2 aH).2 (.inr (.inl h.2));exact gEI
 |bcons t b l A i N=>
  intro d f e hd;refine⟨fun h=>by simp[wf]at h,fun h=>?_⟩
  simp[wf]at h;have M:dpt t=0:=by cases t<;>simp[wf]at h<;>rfl
  simp only[dpt]at hd;have g:=(A (d:=d) (f:=true) e.1 aH).1 (.inl h.1);have j:=(i (d:=d+1) (f:=true) e.2.1 aH).2 (.inr (.inl h.2.1));have q:=(N (d:=d) (f:=false) e.2.2 aH).2 (.inr (.inr h.2.2));have z:(if f=true then [105,102,32]else [32,101,108,115,105,102,32]:aP).length<=7:=by split<;>simp
  exact gEI
 |belse b l A i=>
  intro d f e hd;refine⟨fun h=>by simp[wf]at h,fun h=>?_⟩
  simp[wf]at h;simp only[dpt]at hd;have j:=(A (d:=d+1) (f:=true) e.1 aH).2 (.inr (.inl h.1));have q:=(i (d:=d) (f:=false) e.2 aH).2 (.inr (.inr h.2));exact gEI
end Go.Syn
end
end

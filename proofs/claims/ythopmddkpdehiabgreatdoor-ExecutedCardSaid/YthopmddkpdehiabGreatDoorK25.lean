/-
  What the proof stands on, part 25: the logic of walks, the walks through the functions, the plain laws. Conditions: as each theorem says. (Merged and shortened by a program.)
-/
import Derived.Test.YthopmddkpdehiabGreatDoorK23
import Derived.Test.YthopmddkpdehiabGreatDoorK24
set_option linter.unusedVariables false
set_option linter.unusedSimpArgs false
set_option linter.defProp false
set_option maxRecDepth 4000
set_option maxHeartbeats 1000000
section
namespace Go.Mach
open Go Go.SL Go.Syn
def l5:List (aP×aP)→(Nat→Nat)→List Ent
 | [],_=>[]
 |(k,v)::r,f=>(k,.agg #[str v],f 0)::l5 r (fun n=>f (n+1))
def bBI(k:aP):∀(vars:List (aP×aP)) (f:Nat→Nat),(mget (l5 vars f) k).getD (.agg #[str []])=.agg #[str (vget vars k)]:=by
 intro vars;induction vars with
 |nil=>intro f;rfl
 |cons p r ih=>
  obtain⟨j,v⟩:=p;intro f;unfold l5 vget mget;rw[List.find?_cons]
  by_cases h:k=j
  ·subst h;simp
  rw[x5 (fun e=>h e.symm),xAJ h];exact ih _
def bBJ(k v:aP)(c:Nat):∀(vars:List (aP×aP)) (f:Nat→Nat),∃f',mset k (.agg #[str v]) c (l5 vars f)=l5 (vput vars k v) f':=by
 intro vars;induction vars with
 |nil=>intro f;exact⟨fun _=>c,Y⟩
 |cons p r ih=>
  obtain⟨j,u⟩:=p;intro f;unfold l5 vput mset
  by_cases h:k=j
  ·subst h;rw[x7 rfl,x7 rfl];exact⟨f,Y⟩
  rw[x5 h,x5 (fun e=>h e.symm)];obtain⟨f',hf⟩:=ih (fun n=>f (n+1));refine⟨fun n=>match n with|0=>f 0|n+1=>f' n,?_⟩
  rw[hf]
def aMK(s:aP)(c:UInt8): -1≤Lib.indexByte s c∧Lib.indexByte s c < s.length:=by
 refine⟨Lib.indexByte_ge s c,?_⟩
 by_cases h:Lib.indexByte s c < 0
 ·omega
 have e:Lib.indexByte s c=((Lib.indexByte s c).toNat:Nat):=by omega
 obtain⟨h1,_⟩:=Lib.indexByte_some e;rcases xAC (Lib.indexByte s c).toNat s.length with h'|h'
 ·omega
 rw[xAD h']at h1;cases h1
end Go.Mach
end
section
attribute [local irreducible] Go.SL.T Go.SL.OL Go.SL.D Go.SL.DL Go.SL.Ev Go.SL.Ef Go.SL.EfS
namespace Go.Proofs
open Go Go.SL Go.Syn Go.Mach
def aG2(s:List UInt8)(c:UInt8)(K:Hl):Sp x3 226 [str s,.int .u8 c.toNat] K [] (Val (i64 (Lib.indexByte s c)) K):=by
 refine oT ⟨_,Tryz.func226,Y,Y⟩ fun w hw=>?_;have:=Tryz.strings_IndexByte ⟨s.toArray⟩ (c.toNat:Int) w
 simpa using this
def vV{E:Env}{fr:Fr}{K:Hl}{L:List Asn}{dst:Option Tmp}{ty:TypeId}{pos:String}{aft:Array Edge}{g:Option (Nat×Bool)}{x y:Operand}{t kt et b c:Nat}{k:List UInt8}{vars:List (List UInt8×List UInt8)}{f:Nat→Nat}
  (hm:E.P.underlying t=some (.map kt et)) (hk:E.P.underlying kt=some .string) (hz:iK E.P et=some (.agg #[str []])) (hx:fr.ev x=some (.map (some b))) (hy:fr.ev y=some (str k)) (hs:Sees K L b (mapO (l5 vars f) c)):
  Ev E fr K L ⟨dst,.lookup t x y false,ty,pos,aft,g⟩ (.agg #[str (vget vars k)]):=by
 have:=aSM (dst:=dst) (ty:=ty) (pos:=pos) (aft:=aft) (g:=g) hm hk hz hx hy hs;rw[bBI]at this;exact this
def aYA(b mb:Nat)(c0 c1 c2 c3 c4 c5 c6 pv c9:Value)(pc:Int)(vars:List (List UInt8×List UInt8))(f:Nat→Nat)(c:Nat)(parts:List (List UInt8))(name:List UInt8)(K:Hl)(hpv:Ksl (a7 9) K pv parts)(hn:name.length≤100000000):
  Sp x3 227 [ptr b,str name] K [mblk b c0 c1 c2 c3 c4 c5 c6 (.map (some mb)) pv c9 pc,pt mb (mapO (l5 vars f) c)]
   (Ret fun v K' L'=>v=.tuple #[str (held vars parts name).1,.bool (held vars parts name).2]∧K'=K∧L'=[mblk b c0 c1 c2 c3 c4 c5 c6 (.map (some mb)) pv c9 pc,pt mb (mapO (l5 vars f) c)]):=by
 refine bN Tryz.func227 Y Tryz.ntmps227 Y Y fun F w=>?_;refine zz13 ?_;refine bV 10 Y (fun g10=>?_) (fun g10=>?_)
 ·obtain⟨d,rfl⟩:∃d,name=[d]:=List.length_eq_one_iff.1 aH;have hd0:([d]:List UInt8)[0]?=some d:=rfl;refine zz8 ?_;refine bV 15 Y (fun g15=>?_) (fun g15=>?_)
  ·refine zz9 ?_;refine aY 19 Y (fun h19=>?_) (fun h19=>?_)
   ·refine zz5 ?_;refine aA (aBW (m:=d.toNat) (n:=48) aH aH Y Y) Y ?_;refine aA (qZ Tryz.underlying3 Tryz.underlying5 Y aH aH) Y (zz10 ?_);refine uAc ?_;refine zz3 ?_;refine aY 30 Y (fun h30=>?_) (fun h30=>?_)
    ·obtain⟨p,hp⟩:∃p,parts[d.toNat - 48]?=some p:=⟨parts[d.toNat - 48]'(by omega),x4 aH⟩;refine zz7 ?_;refine aA (aX (k:=(a7 9)) cB Y aL Y Y gDB) Y ?_;refine uAg ?_;refine zz7 ?_;refine uAo ?_;refine j1 Y Y Y (xAB _) ?_
     first
      |exact gCM
      |exact gCP
    have hp:parts[d.toNat - 48]?=none:=xAD aH;refine zz10 ?_;refine uAo ?_;refine j1 Y Y Y (xAB _) ?_
    first
     |exact gCM
     |exact gCP
   have hno:¬(∃e,[d]=[e]∧48≤e.toNat∧e.toNat≤57):=(by rintro⟨e,h1,h2,h3⟩;cases h1;omega);refine zz3 ?_;refine cZ (anc:=[0,1,3,7,0,16,63,127,0,304,1023,2047]) (ord:=[0,1,2,3,4,8,5,6,7,9,10,11]) [5,9] [] mixed gC5 (cQ _) (zz6 ?_);refine iL Y (.none Y) Y Y Y Y (kB _ _ gER) Y ?_;refine aJ Y Y (.none Y) Y Y (vV Tryz.underlying168 Tryz.underlying9 bG7 Y Y aL) Y (zz1 ?_);refine iL Y (.none Y) Y Y Y Y (wF _ _ gER) Y (zz5 ?_);refine uAo ?_;refine j1 Y Y Y (xAB _) ?_
   first
    |exact gCM
    |exact gCP
  have hno:¬(∃e,[d]=[e]∧48≤e.toNat∧e.toNat≤57):=(by rintro⟨e,h1,h2,h3⟩;cases h1;omega);refine zz10 ?_;refine cZ (anc:=[0,1,3,7,0,16,63,127,0,304,1023,2047]) (ord:=[0,1,2,3,4,8,5,6,7,9,10,11]) [5,9] [] mixed gC5 (cQ _) (zz6 ?_);refine iL Y (.none Y) Y Y Y Y (kB _ _ gER) Y ?_;refine aJ Y Y (.none Y) Y Y (vV Tryz.underlying168 Tryz.underlying9 bG7 Y Y aL) Y (zz1 ?_);refine iL Y (.none Y) Y Y Y Y (wF _ _ gER) Y (zz5 ?_);refine uAo ?_;refine j1 Y Y Y (xAB _) ?_
  first
   |exact gCM
   |exact gCP
 have hno:¬(∃d,name=[d]∧48≤d.toNat∧d.toNat≤57):=(by rintro⟨d,rfl,_⟩;exact g10 Y);refine zz15 ?_;refine cZ (anc:=[0,1,3,7,0,16,63,127,0,304,1023,2047]) (ord:=[0,1,2,3,4,8,5,6,7,9,10,11]) [5,9] [] mixed gC5 (cQ _) (zz6 ?_);refine iL Y (.none Y) Y Y Y Y (kB _ _ gER) Y ?_;refine aJ Y Y (.none Y) Y Y (vV Tryz.underlying168 Tryz.underlying9 bG7 Y Y aL) Y (zz1 ?_);refine iL Y (.none Y) Y Y Y Y (wF _ _ gER) Y (zz5 ?_);refine uAo ?_;refine j1 Y Y Y (xAB _) ?_
 first
  |exact gCM
  |exact gCP
def aOW(vars:List (List UInt8×List UInt8))(parts:List (List UInt8))(f:Nat)(acc:List UInt8):kR vars parts (f+1) [] acc=acc++[]:=by simp[kR]
def aSR{vars:List (List UInt8×List UInt8)}{parts:List (List UInt8)}{f:Nat}{s acc:List UInt8}(h0:s≠[])(h:Lib.index s [36,123] < 0):kR vars parts (f+1) s acc=acc++s:=by
 simp only[kR];rw[x5 h0,x7 h]
def aOX{vars:List (List UInt8×List UInt8)}{parts:List (List UInt8)}{f i:Nat}{s acc:List UInt8}{e:Int}{hd:List UInt8×Bool}(h0:s≠[])(h:Lib.index s [36,123]=(i:Int))(he:Lib.indexByte (s.drop i) 125=e)(hh:held vars parts (((s.drop i).take (max e 2).toNat).drop 2)=hd):
  kR vars parts (f+1) s acc=if 0 < e∧hd.2=true then kR vars parts f ((s.drop i).drop (e.toNat+1)) (acc++s.take i++hd.1)else kR vars parts f ((s.drop i).drop 1) (acc++s.take i++[36]):=by
 simp only[kR];rw[x5 h0,x5 aH]
 have:(Lib.index s [36,123]).toNat=i:=by omega
 rw[this,he,hh]
def tP(b mb:Nat)(c0 c1 c2 c3 c4 c5 pv c9:Value)(pc:Int)(nm:Bool)(vars:List (List UInt8×List UInt8))(f:Nat→Nat)(c:Nat)(parts:List (List UInt8))(s:List UInt8)(K:Hl)(hg:Glob K)(hpv:Ksl (a7 9) K pv parts)(hs:s.length≤100000)(hsm:pW vars parts):
  Sp x3 194 [ptr b,str s] K [mblk b c0 c1 c2 c3 c4 c5 (.bool nm) (.map (some mb)) pv c9 pc,pt mb (mapO (l5 vars f) c)]
   (Ret fun v K' L'=>v=str (dH nm vars parts s)∧K'=K∧L'=[mblk b c0 c1 c2 c3 c4 c5 (.bool nm) (.map (some mb)) pv c9 pc,pt mb (mapO (l5 vars f) c)]):=by
 refine bN Tryz.func194 Y Tryz.ntmps194 Y Y fun F w=>?_;refine zz12 ?_;refine aA gC3 Y (zz2 ?_);refine d9 15 Y (fun h15=>?_) (fun h15=>?_)
 ·refine zz8 ?_;refine uAo ?_;refine zz1 ?_;have hnm:nm=false:=by simpa using h15
  unfold dH;rw[x5 (by simp[hnm])];exact⟨_,Y,Y,Y,Y⟩
 refine zz5 ?_;rintro _ K _ ⟨b5,rfl,rfl,rfl⟩ -;refine zz4 ?_;refine jJ (eM (aJO b5)) ?_;refine iR (fun(s2 acc:List UInt8)=>s2.length≤s.length∧acc.length+100001*s2.length≤100001*s.length∧∃f2,s2.length≤f2∧kR vars parts (s.length+1) s []=kR vars parts (f2+1) s2 acc) (fun s2 _=>[(0,ptr b),(1,str s2),(5,ptr b5)]) (fun _ _=>K) (fun _ acc=>[bldr b5 acc,mblk b c0 c1 c2 c3 c4 c5 (.bool nm) (.map (some mb)) pv c9 pc,pt mb (mapO (l5 vars f) c)]) (fun s2 _=>s2.length) s [] ⟨xAA _,by simp,s.length,xAA _,rfl⟩ aS Y (fun _ h=>h) ?_;intro s2 acc ⟨hi1,hi2,f2,hi3,hx⟩;refine zz7 ?_;refine aY 18 Y (fun h18=>?_) (fun h18=>?_)
 ·have hne:s2≠[]:=h18;have hib:=xI s2 [36,123];refine zz6 ?_;refine cN Y Y (index_spec s2 [36,123] _ hg aH) Y (zz10 ?_);refine aY 22 Y (fun h22=>?_) (fun h22=>?_)
  ·have hout:kR vars parts (s.length+1) s []=acc++s2:=(by rw[hx];exact aSR hne h22);refine zz8 ?_;refine bA Y Y (rY b5 acc aH _) bS Y ?_;rintro _ K _ ⟨rfl,rfl,rfl⟩ -;have hla:(acc++s2).length=acc.length+s2.length:=xAF;refine zz1 ?_;refine aA (eJ Y Y gC9) Y (zz9 ?_);refine aA (gL (n:=min (acc++s2).length 1024) Tryz.underlying9 Y Y gEQ aH) Y (zz4 ?_);refine uAo ?_;refine zz1 ?_;have hnm:nm=true:=by simpa using h15
   have ht:(acc++s2).take (min (acc++s2).length 1024)=(acc++s2).take 1024:=gE1;unfold dH;rw[x7 hnm,hout,ht];exact⟨_,Y,Y,Y,Y⟩
  obtain⟨i,hii⟩:∃i:Nat,Lib.index s2 [36,123]=(i:Int):=⟨(Lib.index s2 [36,123]).toNat,by omega⟩;have hi5:i+2≤s2.length:=(by simp only[List.length_cons,List.length_nil]at hib;omega);refine zz6 ?_;refine aA (gL (n:=i) Tryz.underlying9 Y Y hii aH) Y ?_;refine bA Y Y (n7 b5 (s2.take i) acc (by have:(s2.take i).length≤s2.length:=List.length_take_le' _ _;omega) _) bS Y ?_;rintro _ K _ ⟨rfl,rfl,rfl⟩ -;refine zz6 ?_;refine aA (l6 (m:=i) Tryz.underlying9 Y Y hii aH) Y (zz6 ?_);refine cN Y Y (aG2 (s2.drop i) 125 _) Y ?_;have hib2:=aMK (s2.drop i) 125;obtain⟨e,hee⟩:∃e,Lib.indexByte (s2.drop i) 125=e:=⟨_,rfl⟩;rw[hee]at hib2 ⊢;have hdl:(s2.drop i).length=s2.length - i:=xBA;have htl:(s2.take i).length=i:=List.length_take_of_le aH;refine zz10 ?_;refine aA (fW (m:=2) (n:=(max e 2).toNat) Tryz.underlying9 Y Y Y Y gEQ aH aH) Y ?_;refine bA Y Y (aYA b mb c0 c1 c2 c3 c4 c5 (.bool nm) pv c9 pc vars f c parts _ _ hpv (by have:=xBA (l:=(s2.drop i).take (max e 2).toNat) (i:=2);have:=List.length_take_le (max e 2).toNat (s2.drop i);omega)) bS Y ?_;rintro _ K _ ⟨rfl,rfl,rfl⟩ -;obtain⟨hd,hhd⟩:∃hd,held vars parts (((s2.drop i).take (max e 2).toNat).drop 2)=hd:=⟨_,rfl⟩;have hhl:=hsm (((s2.drop i).take (max e 2).toNat).drop 2);rw[hhd]at hhl ⊢;have hey:=aOX (acc:=acc) (f:=f2) hne hii hee hhd;refine zz12 ?_;refine bV 43 Y (fun g43=>?_) (fun g43=>?_)
  ·refine zz5 ?_;refine d9 45 Y (fun h45=>?_) (fun h45=>?_)
   ·have hcc:0 < e∧hd.2=true:=⟨g43,h45⟩;refine zz3 ?_;refine bA Y Y (n7 b5 hd.1 (acc++s2.take i) gES _) bS Y ?_;rintro _ K _ ⟨rfl,rfl,rfl⟩ -;refine zz7 ?_;refine aA (l6 (m:=e.toNat+1) Tryz.underlying9 Y Y aH aH) Y (zz6 ?_);have hdd:((s2.drop i).drop (e.toNat+1)).length≤s2.length - 1 - i:=gD6;have hd1:((s2.drop i).drop 1).length≤s2.length - 1 - i:=gD6;have hf2:f2=(f2 - 1)+1:=by omega
    first
     |exact gBO
     |exact gBM
   have hcc:¬(0 < e∧hd.2=true):=fun h=>by rw[h45]at h;exact absurd h.2 (by decide)
   refine zz4 ?_;refine bA Y Y (mL b5 36 (acc++s2.take i) gES _) bS Y ?_;rintro _ K _ ⟨rfl,rfl,rfl⟩ -;refine zz4 ?_;refine aA (l6 (m:=1) Tryz.underlying9 Y Y Y aH) Y (zz3 ?_);have hdd:((s2.drop i).drop (e.toNat+1)).length≤s2.length - 1 - i:=gD6;have hd1:((s2.drop i).drop 1).length≤s2.length - 1 - i:=gD6;have hf2:f2=(f2 - 1)+1:=by omega
   first
    |exact gBO
    |exact gBM
  have hcc:¬(0 < e∧hd.2=true):=fun h=>g43 h.1
  refine zz9 ?_;refine bA Y Y (mL b5 36 (acc++s2.take i) gES _) bS Y ?_;rintro _ K _ ⟨rfl,rfl,rfl⟩ -;refine zz4 ?_;refine aA (l6 (m:=1) Tryz.underlying9 Y Y Y aH) Y (zz3 ?_);have hdd:((s2.drop i).drop (e.toNat+1)).length≤s2.length - 1 - i:=gD6;have hd1:((s2.drop i).drop 1).length≤s2.length - 1 - i:=gD6;have hf2:f2=(f2 - 1)+1:=by omega
  first
   |exact gBO
   |exact gBM
 have hout:kR vars parts (s.length+1) s []=acc++s2:=(by rw[hx,show s2=[]from xBD.1 h18];exact aOW _ _ _ _);refine zz7 ?_;refine bA Y Y (rY b5 acc aH _) bS Y ?_;rintro _ K _ ⟨rfl,rfl,rfl⟩ -;have hla:(acc++s2).length=acc.length+s2.length:=xAF;refine zz1 ?_;refine aA (eJ Y Y gC9) Y (zz9 ?_);refine aA (gL (n:=min (acc++s2).length 1024) Tryz.underlying9 Y Y gEQ aH) Y (zz4 ?_);refine uAo ?_;refine zz1 ?_;have hnm:nm=true:=by simpa using h15
 have ht:(acc++s2).take (min (acc++s2).length 1024)=(acc++s2).take 1024:=gE1;unfold dH;rw[x7 hnm,hout,ht];exact⟨_,Y,Y,Y,Y⟩
def aJB{α β:Type}(g:α→β){l:List α}{i:Nat}{x:α}(h:l[i]?=some x):(l.take (i+1)).map g=(l.take i).map g++[g x]:=by
 have hi:i < l.length:=by
  rcases xAC i l.length with h'|h'
  ·exact h'
  simp[List.getElem?_eq_none h']at h
 have hc:l[i]=x:=by simpa[List.getElem?_eq_getElem hi]using h
 rw[xAN hi,hc];simp
def bBT(b mb:Nat)(c0 c1 c2 c3 c4 c5 pv c9:Value)(pc:Int)(nm:Bool)(vars:List (List UInt8×List UInt8))(f:Nat→Nat)(c:Nat)(parts:List (List UInt8))(lv:Value)(l:List (List UInt8))(K:Hl)(hg:Glob K)(hpv:Ksl (a7 9) K pv parts)(hlv:Ksl (a7 9) K lv l)(hl:l.length≤1000000)(hs:∀s∈l,s.length≤100000)(hsm:pW vars parts):
  Sp x3 189 [ptr b,lv] K [mblk b c0 c1 c2 c3 c4 c5 (.bool nm) (.map (some mb)) pv c9 pc,pt mb (mapO (l5 vars f) c)]
   (Ret fun v K' L'=>K'=K∧L'=[sl false (a7 9) v (l.map (dH nm vars parts)),mblk b c0 c1 c2 c3 c4 c5 (.bool nm) (.map (some mb)) pv c9 pc,pt mb (mapO (l5 vars f) c)]):=by
 refine bN Tryz.func189 Y Tryz.ntmps189 Y Y fun F w=>?_;refine zz14 ?_;refine uAc ?_;refine zz4 ?_;refine iR (fun(i:Nat) (v:Value)=>i≤l.length) (fun i v=>[(0,ptr b),(5,v),(8,lv),(9,i64 l.length),(10,i64 i)]) (fun _ _=>K) (fun i v=>[sl false (a7 9) v ((l.take i).map (dH nm vars parts)),mblk b c0 c1 c2 c3 c4 c5 (.bool nm) (.map (some mb)) pv c9 pc,pt mb (mapO (l5 vars f) c)]) (fun i _=>l.length - i) 0 (.slice none 0 0) (x9 _) aS Y (eL (a7 9)) ?_;intro i v hi0;have hml:((l.take i).map (dH nm vars parts)).length=i:=(by rw[xAS,List.length_take_of_le hi0]);refine zz6 ?_;refine aY 11 Y (fun h11=>?_) (fun h11=>?_)
 ·have hilt:i < l.length:=by omega
  obtain⟨x,hx⟩:∃x,l[i]?=some x:=⟨l[i]'hilt,x4 hilt⟩;refine zz6 ?_;refine aA (aX (k:=(a7 9)) cB Y aL Y Y gDB) Y ?_;refine uAg ?_;refine zz7 ?_;refine bA Y Y (tP b mb c0 c1 c2 c3 c4 c5 pv c9 pc nm vars f c parts x _ hg hpv (hs x (x8 hx)) hsm) bS Y ?_;rintro _ K _ ⟨rfl,rfl,rfl⟩ -;refine cJ (bM (z0:=[(str [])]) cB tz9 Y Y Y Y dF) Y ?_;rintro _ K _ ⟨b18,rfl,rfl,rfl⟩ -;refine cJ (dQ (k:=(a7 9)) (ys:=[dH nm vars parts x]) eI Y Y (.there (.there (.there .here))) (fun w j=>dJ Tryz.underlying43 (SeesSl.at (.blk aL Y Y) j)) (by rw[hml];simp;omega) (by rw[hml];simp;omega)) Y ?_;rintro v19 K _ ⟨rfl,rfl,ho19⟩ -;refine zz8 ?_;refine uAy ?_;refine cW (i+1) _ aH aH aS Y (by rw[aJB _ hx];exact fun _ h=>h)
 have hfin:(l.take i).map (dH nm vars parts)=l.map (dH nm vars parts):=(by rw[xAI aH]);refine zz12 ?_;refine uAz ?_;refine zz1 ?_;rw[hfin];exact⟨_,Y,Y,Y⟩
def aZ7(s:List UInt8)(K:Hl):Sp x3 221 [str s] K [] (Val (str s) K):=by
 refine bN Tryz.func221 Y Tryz.ntmps221 Y Y fun F w=>?_;refine zz13 ?_;exact⟨Y,Y,Y⟩
abbrev aGX(oct:Bool):FuncId:=if oct=true then 221 else 175
def aMG(oct:Bool)(K:Hl):Sp x3 188 [.bool oct] K [] (Val (.func (.func (aGX oct)) #[] #[]) K):=by
 refine bN Tryz.func188 Y Tryz.ntmps188 Y Y fun F w=>?_;refine zz11 ?_;refine d9 3 Y (fun h3=>?_) (fun h3=>?_)
 ·refine zz8 ?_;subst h3;exact⟨Y,Y,Y⟩
 refine zz9 ?_;subst h3;exact⟨Y,Y,Y⟩
def p7(oct:Bool)(s:List UInt8)(K:Hl)(hs:s.length≤100000000):Sp x3 (aGX oct) [str s] K [] (Val (str (f7 oct s)) K):=by
 cases oct
 ·exact kB s K aH
 exact aZ7 s K
def aBL(s sub:List UInt8)(K:Hl)(hg:Glob K)(hs:s.length < 4294967281):Sp x3 223 [str s,str sub] K [] (Val (.bool (decide (0≤Lib.index s sub))) K):=by
 refine oT ⟨_,Tryz.func223,Y,Y⟩ fun w hw=>?_;obtain⟨m,T,fz,hm⟩:=hg.maxLen;exact Tryz.strings_Contains ⟨s.toArray⟩ ⟨sub.toArray⟩ m w (by simpa[ByteArray.size]using hs) (oH (hw _ _ hm) Y)
def aHG(v k:List UInt8)(oct:Bool)(K:Hl)(hg:Glob K)(hv:v.length≤100000000)(hk:k.length≤100000000):Sp x3 191 [str v,str k,.func (.func (aGX oct)) #[] #[]] K [] (Val (.bool (decide (0≤Lib.index (f7 oct v) (f7 oct k)))) K):=by
 have hfl:∀s:List UInt8,(f7 oct s).length=s.length:=by intro s;unfold f7;split <;> simp[eD]
 refine bN Tryz.func191 Y Tryz.ntmps191 Y Y fun F w=>?_;refine zz9 ?_;refine cN Y Y (p7 oct v _ hv) Y (zz2 ?_);refine cN Y Y (p7 oct k _ hk) Y ?_;refine cN Y Y (aBL _ _ _ hg (by rw[hfl];omega)) Y (zz5 ?_);exact⟨Y,Y,Y⟩
def aMQ(c:UInt8)(K:Hl):Sp x3 228 [.int .u8 c.toNat] K [] (Val (.bool (iH c)) K):=by
 refine bN Tryz.func228 Y Tryz.ntmps228 Y Y fun F w=>?_;refine zz8 ?_;refine aA (aL6 c 32 Y Y) Y (zz2 ?_);refine bV 6 Y (fun g6=>?_) (fun g6=>?_)
 ·refine zz3 ?_;refine aA (aL6 c 32 Y Y) Y (zz4 ?_);refine bV 11 Y (fun g11=>?_) (fun g11=>?_)
  ·refine zz16 ?_;refine jW ?_ _
   unfold iH
   generalize (c|||32).toNat=x at*
   generalize c.toNat=y at*
   rw[xAP];simp;omega
  refine zz6 ?_;refine bV 14 Y (fun g14=>?_) (fun g14=>?_)
  ·refine zz8 ?_;refine bV 19 Y (fun g19=>?_) (fun g19=>?_)
   ·refine zz8 ?_;refine jW ?_ _
    unfold iH
    generalize (c|||32).toNat=x at*
    generalize c.toNat=y at*
    rw[xAP];simp;omega
   refine zz10 ?_;refine jW ?_ _
   unfold iH
   generalize (c|||32).toNat=x at*
   generalize c.toNat=y at*
   rw[xAP];simp;omega
  refine zz16 ?_;refine jW ?_ _
  unfold iH
  generalize (c|||32).toNat=x at*
  generalize c.toNat=y at*
  rw[xAP];simp;omega
 refine zz11 ?_;refine bV 14 Y (fun g14=>?_) (fun g14=>?_)
 ·refine zz8 ?_;refine bV 19 Y (fun g19=>?_) (fun g19=>?_)
  ·refine zz8 ?_;refine jW ?_ _
   unfold iH
   generalize (c|||32).toNat=x at*
   generalize c.toNat=y at*
   rw[xAP];simp;omega
  refine zz10 ?_;refine jW ?_ _
  unfold iH
  generalize (c|||32).toNat=x at*
  generalize c.toNat=y at*
  rw[xAP];simp;omega
 refine zz16 ?_;refine jW ?_ _
 unfold iH
 generalize (c|||32).toNat=x at*
 generalize c.toNat=y at*
 rw[xAP];simp;omega
def aGE(s:List UInt8)(K:Hl)(hs:s.length≤140737488355328):Sp x3 195 [str s] K [] (Val (.bool (sT s)) K):=by
  refine bN Tryz.func195 Y Tryz.ntmps195 Y Y fun F w=>?_;refine zz9 ?_;refine uAp ?_;rintro v6 K _ ⟨rfl,rfl⟩ -;refine uBc ?_;refine zz4 ?_;refine eH (fun(i:Nat)=>i≤s.length∧∀j c,j < i→s[j]?=some c→hZ j c=true) (fun i=>[(0,str s),(6,v6),(7,i64 s.length),(8,i64 i)]) (fun _=>_) (fun i=>[sl false (elB 5) v6 s]) (fun i=>s.length - i) 0 ⟨x9 _,fun j c h _=>by omega⟩ aS Y (fun _ h=>h) ?_;intro i ⟨hi0,hi1⟩;refine zz6 ?_;refine aY 9 Y (fun h9=>?_) (fun h9=>?_)
  · have hilt:i < s.length:=by omega
    obtain⟨c,hc⟩:∃c,s[i]?=some c:=⟨s[i]'hilt,x4 hilt⟩;refine zz7 ?_;refine aA (aX (k:=(elB 5)) iX Y aL Y Y gDB) Y ?_;refine uBe ?_;refine zz7 ?_;refine cN Y Y (aMQ c _) Y ?_;refine aA gC3 Y (zz1 ?_);refine kN 16 Y (fun g16=>?_) (fun g16=>?_)
    · refine zz6 ?_;refine bV 20 Y (fun g20=>?_) (fun g20=>?_)
      · refine zz6 ?_;refine bV 23 Y (fun g23=>?_) (fun g23=>?_)
        · refine zz19 ?_;refine uAf ?_;refine zz1 ?_;refine jW ?_ _
          first
            | (rw [xAP, gG]
               simp only[decide_eq_true_eq];exact⟨fun h=>⟨hall,by assumption,by omega⟩,fun h=>by omega⟩)
            |exact gB6
            | (symm; rw [Bool.eq_false_iff]; intro hbx
               have:=((gG s).1 hbx).1 i c hc;unfold hZ at this;simp only[Bool.or_eq_true,Bool.and_eq_true,decide_eq_true_eq]at this;have hl:iH c=false:=by simpa using g16
               rw[hl]at this;simp at this;omega)
        refine zz9 ?_;refine aY 27 Y (fun h27=>?_) (fun h27=>?_)
        · refine zz11 ?_;refine uAf ?_;refine zz1 ?_;refine jW ?_ _
          first
            | (rw [xAP, gG]
               simp only[decide_eq_true_eq];exact⟨fun h=>⟨hall,by assumption,by omega⟩,fun h=>by omega⟩)
            |exact gB6
            | (symm; rw [Bool.eq_false_iff]; intro hbx
               have:=((gG s).1 hbx).1 i c hc;unfold hZ at this;simp only[Bool.or_eq_true,Bool.and_eq_true,decide_eq_true_eq]at this;have hl:iH c=false:=by simpa using g16
               rw[hl]at this;simp at this;omega)
        refine zz7 ?_;have hb:hZ i c=true:=gD2;refine cM (i+1) ⟨by omega,fun j c2 hj hc2=>?_⟩ aH aS Y (fun _ h=>h)
        rcases xAC j i with h|h
        · exact hi1 j c2 h hc2
        have e:j=i:=by omega
        subst e;rw[hc]at hc2;cases hc2;exact hb
      refine zz17 ?_;have hb:hZ i c=true:=gD2;refine cM (i+1) ⟨by omega,fun j c2 hj hc2=>?_⟩ aH aS Y (fun _ h=>h)
      rcases xAC j i with h|h
      · exact hi1 j c2 h hc2
      have e:j=i:=by omega
      subst e;rw[hc]at hc2;cases hc2;exact hb
    refine zz21 ?_;have hb:hZ i c=true:=gD2;refine cM (i+1) ⟨by omega,fun j c2 hj hc2=>?_⟩ aH aS Y (fun _ h=>h)
    rcases xAC j i with h|h
    · exact hi1 j c2 h hc2
    have e:j=i:=by omega
    subst e;rw[hc]at hc2;cases hc2;exact hb
  have hall:∀j c,s[j]?=some c→hZ j c=true:=fun j c hc=>hi1 j c gFW hc
  refine zz10 ?_;refine bV 31 Y (fun g31=>?_) (fun g31=>?_)
  · refine zz11 ?_;refine uAf ?_;refine zz1 ?_;refine jW ?_ _
    first
      | (rw [xAP, gG]
         simp only[decide_eq_true_eq];exact⟨fun h=>⟨hall,by assumption,by omega⟩,fun h=>by omega⟩)
      |exact gB6
      | (symm; rw [Bool.eq_false_iff]; intro hbx
         have:=((gG s).1 hbx).1 i c hc;unfold hZ at this;simp only[Bool.or_eq_true,Bool.and_eq_true,decide_eq_true_eq]at this;have hl:iH c=false:=by simpa using g16
         rw[hl]at this;simp at this;omega)
  refine zz8 ?_;refine uAf ?_;refine zz1 ?_;refine jW ?_ _
  first
    | (rw [xAP, gG]
       simp only[decide_eq_true_eq];exact⟨fun h=>⟨hall,by assumption,by omega⟩,fun h=>by omega⟩)
    |exact gB6
    | (symm; rw [Bool.eq_false_iff]; intro hbx
       have:=((gG s).1 hbx).1 i c hc;unfold hZ at this;simp only[Bool.or_eq_true,Bool.and_eq_true,decide_eq_true_eq]at this;have hl:iH c=false:=by simpa using g16
       rw[hl]at this;simp at this;omega)
def mch(b mb:Nat)(m:Msg)(hv pv:Value)(nm:Bool)(s:MS):Asn:=fun h=>∃av sv f c,Sat [mblk b (str m.from_) (str m.to_) (i64 m.size) hv av (.bool s.keep) (.bool nm) (.map (some mb)) pv sv s.pc,sl true dP av s.acts,sl false eE sv s.stack,pt mb (mapO (l5 s.vars f) c)] h
section
variable{E:Env}{c0:Code}{x0:Exit}{fr:Fr}{K:Hl}{L:List Asn}{Q:Post}{b mb:Nat}{m:Msg}{hv pv:Value}{nm:Bool}{s:MS}
def aM5{h:Hl}:Sat (mch b mb m hv pv nm s::L) h↔∃av sv f c,Sat ([mblk b (str m.from_) (str m.to_) (i64 m.size) hv av (.bool s.keep) (.bool nm) (.map (some mb)) pv sv s.pc,sl true dP av s.acts,sl false eE sv s.stack,pt mb (mapO (l5 s.vars f) c)]++L) h:=by
 constructor
 ·rintro⟨a,l,⟨av,sv,f,c,hs⟩,hl,hd,rfl⟩;exact⟨av,sv,f,c,eY.2 ⟨a,l,hs,hl,hd,Y⟩⟩
 rintro⟨av,sv,f,c,hs⟩;obtain⟨a,l,ha,hl,hd,rfl⟩:=eY.1 hs;exact⟨a,l,⟨av,sv,f,c,ha⟩,hl,hd,Y⟩
attribute [local semireducible] Go.SL.T Go.SL.OL Go.SL.D Go.SL.DL Go.SL.Ev Go.SL.Ef Go.SL.EfS in
def wQ(h:∀av sv f c,T E c0 fr K ([mblk b (str m.from_) (str m.to_) (i64 m.size) hv av (.bool s.keep) (.bool nm) (.map (some mb)) pv sv s.pc,sl true dP av s.acts,sl false eE sv s.stack,pt mb (mapO (l5 s.vars f) c)]++L) Q):T E c0 fr K (mch b mb m hv pv nm s::L) Q:=fun a w f i=>by
 obtain⟨x,hs,r⟩:=i.rep;obtain⟨av,sv,f1,c,hs⟩:=aM5.1 hs;exact h av sv f1 c a w f ⟨i.os,i.tape,i.output,i.size,x,hs,r⟩
def f9{av sv:Value}{f:Nat→Nat}{c:Nat}:∀h,Sat (mblk b (str m.from_) (str m.to_) (i64 m.size) hv av (.bool s.keep) (.bool nm) (.map (some mb)) pv sv s.pc::sl true dP av s.acts::sl false eE sv s.stack::pt mb (mapO (l5 s.vars f) c)::L) h→Sat (mch b mb m hv pv nm s::L) h:=fun h hs=>aM5.2 ⟨av,sv,f,c,hs⟩
end
def MI(b mb:Nat)(m:Msg)(hv:Value)(nm:Bool)(r:Res MS):Ending→Hl→List Asn→Prop:=kH r fun s' v K' L'=>v=.tuple #[]∧∃pv',Ksl (a7 9) K' pv' s'.parts∧L'=[mch b mb m hv pv' nm s']
def aIB{P:Program}{f:FuncId}{args:List Value}{K:Hl}{L:List Asn}{R R':Ending→Hl→List Asn→Prop}(h:Sp P f args K L R)(k:∀e K' L',R e K' L'→∃S M,L'=S++M∧R' e K' S):Sp P f args K L R':=
 ⟨h.1,fun F w i=>(h.2 F w i).mono fun e w' ⟨K',L',r,le,j⟩=>let ⟨S,M,e1,r'⟩:=k _ _ _ r;⟨K',S,r',le,by subst e1;exact j.left⟩⟩
def s7(p:Prop)[Decidable p](b:Nat)(c0 c1 c2 c3 c4 c5 c6 c7 c8 c9:Value)(pc:Int)(K:Hl):Sp x3 92 [ptr b,.bool (decide p)] K [mblk b c0 c1 c2 c3 c4 c5 c6 c7 c8 c9 pc]
  (kH (if p then .ok ()else .error (12,pc)) fun _ v K' L'=>v=.tuple #[]∧K'=K∧L'=[mblk b c0 c1 c2 c3 c4 c5 c6 c7 c8 c9 pc]):=by
 refine aIB (aDQ p b c0 c1 c2 c3 c4 c5 c6 c7 c8 c9 pc K) fun e K' L' h=>?_;rcases h with ⟨hp,v,rfl,rfl,rfl,rfl⟩|⟨hp,fb,rfl,rfl,rfl⟩
 ·rw[x7 hp];exact⟨_,[],(xAL _).symm,_,Y,Y,Y,Y⟩
 rw[x5 hp];exact⟨[_],_,Y,fb,Y,Y⟩
def tV(b:Nat)(c0 c1 c2 c3 c4 c5 c6 c7 c8 c9:Value)(pc:Int)(K:Hl):Sp x3 92 [ptr b,.bool false] K [mblk b c0 c1 c2 c3 c4 c5 c6 c7 c8 c9 pc] (Flt 12 pc):=by
 refine aIB (aHL b c0 c1 c2 c3 c4 c5 c6 c7 c8 c9 pc K) fun e K' L' h=>?_;obtain⟨fb,rfl,rfl,rfl⟩:=h;exact⟨[_],_,Y,fb,Y,Y⟩
def mJ(x:Value)(e at_:Int)(K:Hl):Sp x3 90 [x,i64 e,i64 at_] K [] (Flt e at_):=by
 refine aIB (aKW x e at_ K) fun en K' L' h=>?_;obtain⟨fb,rfl,rfl,rfl⟩:=h;exact⟨[_],[],Y,fb,Y,Y⟩
def kJ(l:List UInt8)(n:Nat):l.take (min l.length n)=l.take n:=by
 rcases Nat.le_total l.length n with h|h
 ·rw[Nat.min_eq_left h,xAK,xAI h]
 rw[Nat.min_eq_right h]
abbrev qA(o:Ins)(av bv:Value):Value:=.agg #[i64 o.op,i64 o.n,i64 o.tag,.bool o.oct,av,bv,i64 o.at_]
def bJP{nm:Bool}{o:Ins}{s:MS}{a b:List UInt8}(ht:0≤o.tag∧o.tag≤3)(ha:o.a[0]?=some a)(hb:o.b[0]?=some b):setI nm o s=.ok {s with vars:=vput s.vars a ((if o.tag=1 then eD (dH nm s.vars s.parts b)else if o.tag=2 then rO (dH nm s.vars s.parts b)else if o.tag=3 then Lib.itoa (dH nm s.vars s.parts b).length else dH nm s.vars s.parts b).take 48)}:=by
 obtain⟨op,n,tag,oct,oa,ob,p⟩:=o;cases oa with
 |nil=>cases ha
 |cons x xs=>
  cases ob with
  |nil=>cases hb
  |cons y ys=>
   cases ha;cases hb
   unfold setI;rw[x7 ht]
def aFY{nm:Bool}{o:Ins}{s:MS}(h:¬(0≤o.tag∧o.tag≤3∧0 < o.a.length∧0 < o.b.length)):setI nm o s=.error (12,s.pc):=by
 obtain⟨op,n,tag,oct,oa,ob,p⟩:=o;unfold setI;split
 ·rename_i ht;split
  ·rename_i h1 h2;simp only at h1 h2;subst h1;subst h2;exact absurd ⟨ht.1,ht.2,by simp,by simp⟩ h
  rfl
 rfl
def bAH(b mb:Nat)(m:Msg)(hv pv:Value)(nm:Bool)(s:MS)(o:Ins)(av bv:Value)(n:Int)(K:Hl)(hg:Glob K)(hpv:Ksl (a7 9) K pv s.parts)(ha:Ksl (a7 9) K av o.a)(hb:Ksl (a7 9) K bv o.b)(hs:∀x∈o.b,x.length≤100000)(hsm:pW s.vars s.parts):
  Sp x3 134 [ptr b,qA o av bv,i64 n] K [mch b mb m hv pv nm s] (MI b mb m hv nm (setI nm o s)):=by
 obtain⟨sa,sn,sc,rfl⟩:=ha.isSlice;obtain⟨ta,tn,tc,rfl⟩:=hb.isSlice;refine bN Tryz.func134 Y Tryz.ntmps134 Y Y fun F w=>?_;refine wQ fun av sv f c=>?_;refine zz3 ?_;rintro _ K _ ⟨b4,rfl,rfl,rfl⟩ -;refine zz9 ?_;refine bV 11 Y (fun g11=>?_) (fun g11=>?_)
 ·refine zz8 ?_;refine bV 16 Y (fun g16=>?_) (fun g16=>?_)
  ·refine zz5 ?_;refine uAc ?_;refine zz4 ?_;refine bV 22 Y (fun g22=>?_) (fun g22=>?_)
   ·refine zz5 ?_;refine uAc ?_;refine zz3 ?_;refine cA Y Y (s7 (0 < (o.b.length:Int)) _ _ _ _ _ _ _ _ _ _ _ _ _) bS Y (fun _ _=>cF _ _) ?_ ?_
    ·rintro _ _ _ hTr le1;obtain⟨e,p,hu,fb,h,rfl⟩:=cG hTr;cases h
     refine uAa ?_;refine zz2 ?_;have hbl:¬(0 < (o.b.length:Int)):=gD9;rw[x5 hbl]at hu;cases hu
     have hno:=aFY (nm:=nm) (s:=s) (o:=o) aH;unfold MI;rw[hno];exact⟨fb,Y,Y⟩
    rintro _ K _ hTr -;obtain⟨u0,hu,rfl,rfl,rfl⟩:=cH hTr;clear hTr;have hbl:0 < (o.b.length:Int):=xAZ (fun h=>by rw[x5 h]at hu;cases hu);obtain⟨xa,hxa⟩:∃x,o.a[0]?=some x:=⟨o.a[0]'(by omega),x4 aH⟩;obtain⟨xb,hxb⟩:∃x,o.b[0]?=some x:=⟨o.b[0]'(by omega),x4 aH⟩;have hok:=bJP (nm:=nm) (s:=s) (show 0≤o.tag∧o.tag≤3 by omega) hxa hxb;have hel:(dH nm s.vars s.parts xb).length≤100000:=gX (hs xb (x8 hxb));refine zz7 ?_;refine aA (aX (k:=a7 9) (j:=0) cB Y (.known hb) Y Y aH) Y ?_;refine uAg ?_;refine bA Y Y (tP b mb _ _ _ _ _ _ pv _ _ nm s.vars f c s.parts xb _ hg hpv (hs xb (x8 hxb)) hsm) bS Y ?_;rintro _ K _ ⟨rfl,rfl,rfl⟩ -;refine zz3 ?_;refine dX (fun(u:List UInt8)=>setI nm o s=.ok {s with vars:=vput s.vars xa (u.take 48)}) (fun u=>[(0,ptr b),(4,ptr b4),(6,str u)]) (fun _=>K) (fun _=>[mblk b (str m.from_) (str m.to_) (i64 m.size) hv av (.bool s.keep) (.bool nm) (.map (some mb)) pv sv s.pc,sl true dP av s.acts,sl false eE sv s.stack,pt mb (mapO (l5 s.vars f) c),pt b4 (bL [i64 o.op,i64 o.n,i64 o.tag,.bool o.oct,.slice sa sn sc,.slice ta tn tc,i64 o.at_] 45)]) ?_ ?_
    ·refine zz13 ?_;refine aY 37 Y (fun h37=>?_) (fun h37=>?_)
     ·refine zz2 ?_;refine cN Y Y (kB _ _ aH) Y (zz3 ?_);refine uBf ?_;refine a8 _ ?_ aS Y (fun _ h=>h)
      first
       |(rw[hok,x7 h37];done)
       |(rw[hok,x5 h37,x7 h41];done)
       |(rw[hok,x5 h37,x5 h41,x7 h45];done)
       |(rw[hok,x5 h37,x5 h41,x5 h45];done)
     refine zz6 ?_;refine aY 41 Y (fun h41=>?_) (fun h41=>?_)
     ·refine zz2 ?_;refine cN Y Y (aSY _ _ aH) Y (zz3 ?_);refine uBf ?_;refine a8 _ ?_ aS Y (fun _ h=>h)
      first
       |(rw[hok,x7 h37];done)
       |(rw[hok,x5 h37,x7 h41];done)
       |(rw[hok,x5 h37,x5 h41,x7 h45];done)
       |(rw[hok,x5 h37,x5 h41,x5 h45];done)
     refine zz6 ?_;refine aY 45 Y (fun h45=>?_) (fun h45=>?_)
     ·refine zz3 ?_;refine cN Y Y (aJ5 _ aH aH _ hg) Y (zz3 ?_);refine uBf ?_;refine a8 _ ?_ aS Y (fun _ h=>h)
      first
       |(rw[hok,x7 h37];done)
       |(rw[hok,x5 h37,x7 h41];done)
       |(rw[hok,x5 h37,x5 h41,x7 h45];done)
       |(rw[hok,x5 h37,x5 h41,x5 h45];done)
     refine zz2 ?_;refine uBf ?_;refine a8 _ ?_ aS Y (fun _ h=>h)
     first
      |(rw[hok,x7 h37];done)
      |(rw[hok,x5 h37,x7 h41];done)
      |(rw[hok,x5 h37,x5 h41,x7 h45];done)
      |(rw[hok,x5 h37,x5 h41,x5 h45];done)
    intro u hok;refine cZ (anc:=[0,1,3,7,0,16,48,112,0,0,512,1536,3840,7936,16383]) (ord:=[0,1,2,3,4,5,6,7,8,9,10,11,12,13,14]) [14] [14] mixed gC5 (cQ _) (zz6 ?_);refine aJ Y Y (.none Y) Y Y (aX (k:=a7 9) (j:=0) cB Y (.known ha) Y Y aH) Y ?_;refine aJ Y Y (.none Y) Y Y (cE (o:=0) (k:=(a7 9)) ts9 Y aL b0 Y) Y (zz4 ?_);refine aJ Y Y (.none Y) Y Y (gL (n:=min u.length 48) Tryz.underlying9 Y Y gEQ aH) Y ?_;refine aJ Y Y (.none Y) Y Y (dG bPD bNK dF) Y ?_;refine mT Y Y (.none Y) Y (bOY Tryz.underlying168 Tryz.underlying9 Y Y Y bR) ?_;rintro _ K _ ⟨rfl,rfl⟩ -;refine cL ?_;obtain⟨f',hf'⟩:=bBJ xa (u.take (min u.length 48)) c s.vars f;rw[hf',kJ];refine aQ (aM bW (aM bW (aM bW (aM bW bF)))) ?_;refine cS (f9 (m:=m) (hv:=hv) (pv:=pv) (nm:=nm) (s:={s with vars:=vput s.vars xa (u.take 48)})) (zz1 ?_);unfold MI;rw[hok];exact⟨_,Y,Y,pv,hpv,Y⟩
   have hno:=aFY (nm:=nm) (s:=s) (o:=o) aH;refine zz5 ?_;refine cA Y Y (tV _ _ _ _ _ _ _ _ _ _ _ _ _) bS Y gC6 ?_ ?_
   ·rintro _ _ _ ⟨fb,h,rfl⟩ le1;cases h
    refine uAa ?_;refine zz2 ?_;simp only[MI,hno,if_true,if_false,↓reduceIte];exact⟨fb,Y,Y⟩
   rintro _ _ _ ⟨_,h,_⟩;cases h
  have hno:=aFY (nm:=nm) (s:=s) (o:=o) aH;refine zz11 ?_;refine cA Y Y (tV _ _ _ _ _ _ _ _ _ _ _ _ _) bS Y gC6 ?_ ?_
  ·rintro _ _ _ ⟨fb,h,rfl⟩ le1;cases h
   refine uAa ?_;refine zz2 ?_;simp only[MI,hno,if_true,if_false,↓reduceIte];exact⟨fb,Y,Y⟩
  rintro _ _ _ ⟨_,h,_⟩;cases h
 have hno:=aFY (nm:=nm) (s:=s) (o:=o) aH;refine zz16 ?_;refine cA Y Y (tV _ _ _ _ _ _ _ _ _ _ _ _ _) bS Y gC6 ?_ ?_
 ·rintro _ _ _ ⟨fb,h,rfl⟩ le1;cases h
  refine uAa ?_;refine zz2 ?_;simp only[MI,hno,if_true,if_false,↓reduceIte];exact⟨fb,Y,Y⟩
 rintro _ _ _ ⟨_,h,_⟩;cases h
def aUG{P:Program}{g:FuncId}{args:List Value}{K:Hl}{L:List Asn}{R:Ending→Hl→List Asn→Prop}{b mb:Nat}{m:Msg}{hv pv:Value}{nm:Bool}{s:MS}(hb:∃fn,P.funcs[g]?=some fn∧(fn.name== "runtime.NumGoroutine")=false∧fn.body.isSome=true)
  (h:∀av sv f c,Sp P g args K ([mblk b (str m.from_) (str m.to_) (i64 m.size) hv av (.bool s.keep) (.bool nm) (.map (some mb)) pv sv s.pc,sl true dP av s.acts,sl false eE sv s.stack,pt mb (mapO (l5 s.vars f) c)]++L) R):Sp P g args K (mch b mb m hv pv nm s::L) R:=
 ⟨hb, fun F w j => by
  obtain⟨x,hs,r⟩:=j.rep;obtain⟨av,sv,f,c,hs⟩:=aM5.1 hs;exact(h av sv f c).2 F w ⟨j.os,j.tape,j.output,j.size,x,hs,r⟩⟩
def aNA{P:Program}{f:FuncId}{args:List Value}{K:Hl}{L:List Asn}{R R':Ending→Hl→List Asn→Prop}(h:Sp P f args K L R)(k:∀e K' L',R e K' L'→∃S M,(∀h,Sat L' h→Sat (S++M) h)∧R' e K' S):Sp P f args K L R':=
 ⟨h.1,fun F w i=>(h.2 F w i).mono fun e w' ⟨K',L',r,le,j⟩=>let ⟨S,M,e1,r'⟩:=k _ _ _ r;⟨K',S,r',le,(j.imp e1).left⟩⟩
def oQ(b mb:Nat)(m:Msg)(hv pv:Value)(nm:Bool)(s:MS)(v:Bool)(K:Hl):Sp x3 122 [ptr b,.bool v] K [mch b mb m hv pv nm s] (kH (push s v) fun s' r K' L'=>r=.tuple #[]∧K'=K∧L'=[mch b mb m hv pv nm s']):=by
 refine aUG ⟨_,Tryz.func122,Y,Y⟩ fun av sv f c=>?_;refine aD1 (show Tks [_,_] _ _ from .cons .here (aM cI bF)).sat (aNA (yE _ (aZQ b _ _ _ _ _ _ _ _ _ sv s.pc s.stack v K)) ?_)
 rintro e K' L' ⟨N,h,rfl⟩;unfold push;rcases h with ⟨hp,r,rfl,rfl,rfl,sv',rfl⟩|⟨hp,fb,rfl,rfl,rfl⟩
 ·rw[x7 aH];refine⟨[mch b mb m hv pv nm {s with stack:=s.stack++[v]}],[],fun h hh=>?_,_,Y,Y,Y,Y⟩
  refine f9 (s:={s with stack:=s.stack++[v]}) h ((show Tks [_,_,_,_] _ []from .cons .here (aM cI (aM bW (aM bW bF)))).sat h hh)
 rw[x5 aH];exact⟨[_],_,fun h hh=>hh,fb,Y,Y⟩
def aAU(b mb:Nat)(m:Msg)(hv pv:Value)(nm:Bool)(s:MS)(by_:Int)(n:Nat)(yes:Bool)(K:Hl)(hp:s.pc < 1000)(hn:n < 1000):Sp x3 126 [ptr b,i64 by_,i64 n,.bool yes] K [mch b mb m hv pv nm s] (kH (jump s by_ n yes) fun s' r K' L'=>r=.tuple #[]∧K'=K∧L'=[mch b mb m hv pv nm s']):=by
 refine aUG ⟨_,Tryz.func126,Y,Y⟩ fun av sv f c=>?_;refine aD1 (show Tks [_] _ _ from .cons .here .nil).sat (aNA (yE _ (aYF b _ _ _ _ _ _ _ _ _ _ s.pc by_ n yes K ⟨by omega,by omega⟩ ⟨by omega,by omega⟩)) ?_)
 rintro e K' L' ⟨N,h,rfl⟩;unfold jump;rcases h with ⟨hq,r,rfl,rfl,rfl,rfl⟩|⟨hq,fb,rfl,rfl,rfl⟩
 ·rw[x7 hq];refine⟨[mch b mb m hv pv nm (if yes=true then {s with pc:=s.pc+by_.toNat}else s)],[],fun h hh=>?_,_,Y,Y,Y,Y⟩
  cases yes
  ·exact f9 h hh
  refine f9 (av:=av) (sv:=sv) (f:=f) (c:=c) (s:={s with pc:=s.pc+by_.toNat}) h ?_;have e:((s.pc+by_.toNat:Nat):Int)=(s.pc:Int)+by_:=by omega
  show Sat (mblk b _ _ _ _ _ _ _ _ _ _ ((s.pc+by_.toNat:Nat):Int)::_) h
  rw[e];exact hh
 rw[x5 hq];exact⟨[_],_,fun h hh=>hh,fb,Y,Y⟩
def aQL{α:Type}{z:Bool}{k:El α}{v:Value}{xs:List α}:∀h,sl z k v xs h→∃a n c,v=.slice a n c:=by
 rintro h (⟨rfl,_⟩|⟨b,cap,junk,fz,rfl,_⟩) <;> exact⟨_,_,_,Y⟩
def aDR(b mb:Nat)(m:Msg)(hv pv:Value)(nm:Bool)(s:MS)(K:Hl)(hl:s.stack.length≤100):Sp x3 124 [ptr b] K [mch b mb m hv pv nm s] (kH (pop s) fun r v K' L'=>v=.bool r.1∧K'=K∧L'=[mch b mb m hv pv nm r.2]):=by
 refine bN Tryz.func124 Y Tryz.ntmps124 Y Y fun F w=>?_;refine wQ fun av sv f c=>?_;refine oU (p:=∃a n c,sv=.slice a n c) (fun h hs=>?_) ?_
 ·obtain⟨_,l,_,hl,_,_⟩:=hs;obtain⟨_,l2,_,hl2,_,_⟩:=hl;obtain⟨x,_,hx,_,_,_⟩:=hl2;exact aQL x hx
 rintro⟨sa,sn,sc,rfl⟩;refine zz12 ?_;refine aA (bU (k:=eE) Y Tryz.underlying93 Y aL) Y (zz1 ?_);refine cA Y Y (s7 (0 < (s.stack.length:Int)) _ _ _ _ _ _ _ _ _ _ _ _ _) bS Y (fun _ _=>cF _ _) ?_ ?_
 ·rintro _ _ _ hTr le1;obtain⟨e,p,hu,fb,h,rfl⟩:=cG hTr;cases h
  refine uAa ?_;refine zz2 ?_;have hbl:¬(0 < (s.stack.length:Int)):=gD9;rw[x5 hbl]at hu;cases hu
  have hg:s.stack.getLast?=none:=(by rw[List.getLast?_eq_none_iff];exact List.eq_nil_of_length_eq_zero aH);unfold pop;rw[hg];exact⟨fb,Y,Y⟩
 rintro _ K _ hTr -;obtain⟨u0,hu,rfl,rfl,rfl⟩:=cH hTr;clear hTr;have hbl:0 < (s.stack.length:Int):=xAZ (fun h=>by rw[x5 h]at hu;cases hu);obtain⟨x,hx⟩:∃x,s.stack[s.stack.length - 1]?=some x:=⟨s.stack[s.stack.length - 1]'(by omega),x4 aH⟩;have hg:s.stack.getLast?=some x:=(by rw[List.getLast?_eq_getElem?];exact hx);refine zz3 ?_;refine cZ (anc:=[0,1,3,7,0,16,48,112,240,496,1023,2047,4095]) (ord:=[0,1,2,3,4,5,6,7,8,9,10,11,12]) [] [] mixed gC5 (cQ _) (zz8 ?_);refine aJ Y Y (.none Y) Y Y (bU (k:=eE) Y Tryz.underlying93 Y aL) Y (zz1 ?_);refine aJ Y Y (.none Y) Y Y (aX (k:=eE) (j:=s.stack.length - 1) gI Y aL Y aH aH) Y ?_;refine aJ Y Y (.none Y) Y Y (cE (o:=0) (k:=eE) ts4 Y aL b0 Y) Y (zz4 ?_);refine cZ (anc:=[0,0,2,6,14,0,32,96,224,480,992,2046,4095,8191,16383]) (ord:=[0,1,2,3,4,5,6,7,8,9,10,11,12,13,14]) [14] [14] mixed gC5 (cQ _) (zz9 ?_);refine aJ Y Y (.none Y) Y Y (bU (k:=eE) Y Tryz.underlying93 Y aL) Y (zz1 ?_);refine aJ Y Y (.none Y) Y Y (nB (k:=eE) (m:=s.stack.length - 1) gI Y (.there (.there .here)) (.there (.there .here)) Y aH aH) Y (zz2 ?_);refine mT Y Y (.none Y) Y (bX vG Y Y dA bR aZe Y) ?_;rintro _ K _ ⟨rfl,rfl⟩ -;refine zz9 ?_;refine aQ (aM e7 (aM bW (aM bW (aM bW bF)))) ?_;refine cS (eM (gZ (m:=s.stack.length - 1) aH)) ?_;refine aQ (aM cI (aM cI (aM bW (aM bW bF)))) ?_;rw[←List.dropLast_eq_take];refine cS (f9 (m:=m) (hv:=hv) (pv:=pv) (nm:=nm) (s:={s with stack:=s.stack.dropLast})) (zz1 ?_);unfold pop;rw[hg];exact⟨_,Y,Y,Y,Y⟩
def iP{s t:MS}{v:Bool}(h:push s v=.ok t):t.parts=s.parts:=by unfold push at h;split at h <;> cases h;rfl
def aDS{s:MS}{r:Bool×MS}(h:pop s=.ok r):r.2.parts=s.parts:=by unfold pop at h;split at h <;> cases h;rfl
def aAV{s t:MS}{by_:Int}{n:Nat}{yes:Bool}(h:jump s by_ n yes=.ok t):t.parts=s.parts:=by
 unfold jump at h;split at h
 ·cases h;split <;> rfl
 cases h
def bCT(b mb:Nat)(m:Msg)(hv pv:Value)(nm:Bool)(s:MS)(o:Ins)(av bv:Value)(n:Nat)(K:Hl)(hpv:Ksl (a7 9) K pv s.parts)(ha:Ksl (a7 9) K av o.a)(hb:Ksl (a7 9) K bv o.b)(hp:s.pc < 1000)(hn:n < 1000)(hst:s.stack.length≤100):
  Sp x3 123 [ptr b,qA o av bv,i64 n] K [mch b mb m hv pv nm s] (MI b mb m hv nm (match pop s with| .error e=>.error e| .ok r=>push r.2 (!r.1))):=by
 obtain⟨sa,sn,sc,rfl⟩:=ha.isSlice;obtain⟨ta,tn,tc,rfl⟩:=hb.isSlice;refine bN Tryz.func123 Y Tryz.ntmps123 Y Y fun F w=>?_;refine zz3 ?_;rintro _ K _ ⟨b4,rfl,rfl,rfl⟩ -;refine zz5 ?_;refine cA Y Y (aDR b mb m hv pv nm s _ hst) bS Y (fun _ _=>cF _ _) ?_ ?_
 ·rintro _ _ _ hTr le1;obtain⟨e,p,hr,fb,h,rfl⟩:=cG hTr;cases h
  refine uAa ?_;refine zz1 ?_;simp only[MI,hr,if_true,if_false,↓reduceIte];exact⟨fb,Y,Y⟩
 rintro _ K _ hTr -;obtain⟨r,hr,rfl,rfl,rfl⟩:=cH hTr;clear hTr;have hpp:=aDS hr;refine aA gC3 Y ?_;refine cA Y Y (oQ b mb m hv pv nm r.2 (!r.1) _) bS Y (fun _ _=>cF _ _) ?_ ?_
 ·rintro _ _ _ hTr le1;obtain⟨e,p,hq,fb,h,rfl⟩:=cG hTr;cases h
  refine uAa ?_;refine zz1 ?_;simp only[MI,hr,hq,if_true,if_false,↓reduceIte];exact⟨fb,Y,Y⟩
 rintro _ K _ hTr -;obtain⟨q,hq,rfl,rfl,rfl⟩:=cH hTr;clear hTr;have hqp:=iP hq;refine aG ?_;refine uAa ?_;refine zz1 ?_;simp only[MI,hr,hq,if_true,if_false,↓reduceIte];exact⟨_,Y,Y,pv,by rw[hqp,hpp];exact hpv,Y⟩
def bCU(b mb:Nat)(m:Msg)(hv pv:Value)(nm:Bool)(s:MS)(o:Ins)(av bv:Value)(n:Nat)(K:Hl)(hpv:Ksl (a7 9) K pv s.parts)(ha:Ksl (a7 9) K av o.a)(hb:Ksl (a7 9) K bv o.b)(hp:s.pc < 1000)(hn:n < 1000)(hst:s.stack.length≤100):
  Sp x3 125 [ptr b,qA o av bv,i64 n] K [mch b mb m hv pv nm s] (MI b mb m hv nm (jump s o.n n true)):=by
 obtain⟨sa,sn,sc,rfl⟩:=ha.isSlice;obtain⟨ta,tn,tc,rfl⟩:=hb.isSlice;refine bN Tryz.func125 Y Tryz.ntmps125 Y Y fun F w=>?_;refine zz3 ?_;rintro _ K _ ⟨b4,rfl,rfl,rfl⟩ -;refine zz7 ?_;refine cA Y Y (aAU b mb m hv pv nm s o.n n true _ hp hn) bS Y (fun _ _=>cF _ _) ?_ ?_
 ·rintro _ _ _ hTr le1;obtain⟨e,p,hq,fb,h,rfl⟩:=cG hTr;cases h
  refine uAa ?_;refine zz1 ?_;simp only[MI,hq,if_true,if_false,↓reduceIte];exact⟨fb,Y,Y⟩
 rintro _ K _ hTr -;obtain⟨q,hq,rfl,rfl,rfl⟩:=cH hTr;clear hTr;have hqp:=aAV hq;refine aG ?_;refine uAa ?_;refine zz1 ?_;simp only[MI,hq,if_true,if_false,↓reduceIte];exact⟨_,Y,Y,pv,by rw[hqp];exact hpv,Y⟩
def bCV(b mb:Nat)(m:Msg)(hv pv:Value)(nm:Bool)(s:MS)(o:Ins)(av bv:Value)(n:Nat)(K:Hl)(hpv:Ksl (a7 9) K pv s.parts)(ha:Ksl (a7 9) K av o.a)(hb:Ksl (a7 9) K bv o.b)(hp:s.pc < 1000)(hn:n < 1000)(hst:s.stack.length≤100):
  Sp x3 127 [ptr b,qA o av bv,i64 n] K [mch b mb m hv pv nm s] (MI b mb m hv nm (match pop s with| .error e=>.error e| .ok r=>jump r.2 o.n n (r.1))):=by
 obtain⟨sa,sn,sc,rfl⟩:=ha.isSlice;obtain⟨ta,tn,tc,rfl⟩:=hb.isSlice;refine bN Tryz.func127 Y Tryz.ntmps127 Y Y fun F w=>?_;refine zz3 ?_;rintro _ K _ ⟨b4,rfl,rfl,rfl⟩ -;refine zz2 ?_;refine cZ (anc:=[0,0,2,0,0,16,63]) (ord:=[0,1,2,3,4,5,6]) [5,6] [6] mixed gC5 (aM bW bF) (zz5 ?_);refine aBP Y (.none Y) Y Y Y Y (aDR b mb m hv pv nm s _ hst) (aM cI bF) Y (fun _ _=>cF _ _) ?_ ?_
 ·rintro _ _ _ hTr le1;obtain⟨e,p,hr,fb,h,rfl⟩:=cG hTr;cases h
  intro a0 w0 hd0 hi0;refine⟨hd0,_,_,?_,b0,hi0.left⟩
  simp only[MI,hr,if_true,if_false,↓reduceIte];exact⟨fb,Y,Y⟩
 rintro _ K _ hTr -;obtain⟨r,hr,rfl,rfl,rfl⟩:=cH hTr;clear hTr;have hpp:=aDS hr;have hpc:=aHP hr;refine⟨_,(show Tks _ _ _ from (aM cI bF)).sat,?_⟩
 refine kZ Y (.none Y) Y Y Y (aAU b mb m hv pv nm r.2 o.n n (r.1) _ aH hn) bS Y (fun _ _=>cF _ _) ?_ ?_
 ·rintro _ _ _ hTr le1;obtain⟨e,p,hq,fb,h,rfl⟩:=cG hTr;cases h
  intro a0 w0 hd0 hi0;refine⟨hd0,_,_,?_,b0,hi0.left⟩
  simp only[MI,hr,hq,if_true,if_false,↓reduceIte];exact⟨fb,Y,Y⟩
 rintro _ K _ hTr -;obtain⟨q,hq,rfl,rfl,rfl⟩:=cH hTr;clear hTr;have hqp:=aAV hq;refine uBb ?_;refine zz1 ?_;simp only[MI,hr,hq,if_true,if_false,↓reduceIte];exact⟨_,Y,Y,pv,by rw[hqp,hpp];exact hpv,Y⟩
def bCW(b mb:Nat)(m:Msg)(hv pv:Value)(nm:Bool)(s:MS)(o:Ins)(av bv:Value)(n:Nat)(K:Hl)(hpv:Ksl (a7 9) K pv s.parts)(ha:Ksl (a7 9) K av o.a)(hb:Ksl (a7 9) K bv o.b)(hp:s.pc < 1000)(hn:n < 1000)(hst:s.stack.length≤100):
  Sp x3 128 [ptr b,qA o av bv,i64 n] K [mch b mb m hv pv nm s] (MI b mb m hv nm (match pop s with| .error e=>.error e| .ok r=>jump r.2 o.n n (!r.1))):=by
 obtain⟨sa,sn,sc,rfl⟩:=ha.isSlice;obtain⟨ta,tn,tc,rfl⟩:=hb.isSlice;refine bN Tryz.func128 Y Tryz.ntmps128 Y Y fun F w=>?_;refine zz3 ?_;rintro _ K _ ⟨b4,rfl,rfl,rfl⟩ -;refine zz2 ?_;refine cZ (anc:=[0,0,2,0,0,16,48,127]) (ord:=[0,1,2,3,4,5,6,7]) [5,7] [7] mixed gC5 (aM bW bF) (zz5 ?_);refine aBP Y (.none Y) Y Y Y Y (aDR b mb m hv pv nm s _ hst) (aM cI bF) Y (fun _ _=>cF _ _) ?_ ?_
 ·rintro _ _ _ hTr le1;obtain⟨e,p,hr,fb,h,rfl⟩:=cG hTr;cases h
  intro a0 w0 hd0 hi0;refine⟨hd0,_,_,?_,b0,hi0.left⟩
  simp only[MI,hr,if_true,if_false,↓reduceIte];exact⟨fb,Y,Y⟩
 rintro _ K _ hTr -;obtain⟨r,hr,rfl,rfl,rfl⟩:=cH hTr;clear hTr;have hpp:=aDS hr;have hpc:=aHP hr;refine⟨_,(show Tks _ _ _ from (aM cI bF)).sat,?_⟩
 refine aJ Y Y (.none Y) Y Y gC3 Y ?_;refine kZ Y (.none Y) Y Y Y (aAU b mb m hv pv nm r.2 o.n n (!r.1) _ aH hn) bS Y (fun _ _=>cF _ _) ?_ ?_
 ·rintro _ _ _ hTr le1;obtain⟨e,p,hq,fb,h,rfl⟩:=cG hTr;cases h
  intro a0 w0 hd0 hi0;refine⟨hd0,_,_,?_,b0,hi0.left⟩
  simp only[MI,hr,hq,if_true,if_false,↓reduceIte];exact⟨fb,Y,Y⟩
 rintro _ K _ hTr -;obtain⟨q,hq,rfl,rfl,rfl⟩:=cH hTr;clear hTr;have hqp:=aAV hq;refine uBb ?_;refine zz1 ?_;simp only[MI,hr,hq,if_true,if_false,↓reduceIte];exact⟨_,Y,Y,pv,by rw[hqp,hpp];exact hpv,Y⟩
def bCZ(b mb:Nat)(m:Msg)(hv pv:Value)(nm:Bool)(s:MS)(o:Ins)(av bv:Value)(n:Nat)(K:Hl)(hpv:Ksl (a7 9) K pv s.parts)(ha:Ksl (a7 9) K av o.a)(hb:Ksl (a7 9) K bv o.b):
  Sp x3 135 [ptr b,qA o av bv,i64 n] K [mch b mb m hv pv nm s] (MI b mb m hv nm (.ok {s with keep:=false})):=by
 obtain⟨sa,sn,sc,rfl⟩:=ha.isSlice;obtain⟨ta,tn,tc,rfl⟩:=hb.isSlice;refine bN Tryz.func135 Y Tryz.ntmps135 Y Y fun F w=>?_;refine zz3 ?_;rintro _ K _ ⟨b4,rfl,rfl,rfl⟩ -;refine zz2 ?_;refine z8 (aM cI (aM bW bF)) ?_;refine wQ fun av sv f c=>?_;refine zz5 ?_;refine uAk ?_;rintro _ K _ ⟨rfl,rfl⟩ -;refine aG ?_;refine aQ (aM bW (aM bW (aM bW (aM bW bF)))) ?_;refine cS (f9 (m:=m) (hv:=hv) (pv:=pv) (nm:=nm) (s:={s with keep:=false})) (zz1 ?_);exact⟨_,Y,Y,pv,hpv,Y⟩
def bCS(b mb:Nat)(m:Msg)(hv pv:Value)(nm:Bool)(s:MS)(o:Ins)(av bv:Value)(n:Nat)(K:Hl)(hpv:Ksl (a7 9) K pv s.parts)(ha:Ksl (a7 9) K av o.a)(hb:Ksl (a7 9) K bv o.b):
  Sp x3 121 [ptr b,qA o av bv,i64 n] K [mch b mb m hv pv nm s] (MI b mb m hv nm (if o.n=0∨o.n=1 then push s (decide (o.n=1))else .error (rM s.pc))):=by
 obtain⟨sa,sn,sc,rfl⟩:=ha.isSlice;obtain⟨ta,tn,tc,rfl⟩:=hb.isSlice;refine bN Tryz.func121 Y Tryz.ntmps121 Y Y fun F w=>?_;refine zz3 ?_;rintro _ K _ ⟨b4,rfl,rfl,rfl⟩ -;refine zz3 ?_;refine z8 (aM cI (aM bW bF)) ?_;refine wQ fun av sv f c=>?_;refine zz6 ?_;refine bV 10 Y (fun g10=>?_) (fun g10=>?_)
 ·refine zz4 ?_;refine cN Y Y (aFQ _ _) Y ?_;have hcc:o.n=0∨o.n=1:=.inl g10;refine j4 f9 (zz7 ?_);refine cA Y Y (oQ b mb m hv pv nm s (decide (o.n=1)) _) bS Y (fun _ _=>cF _ _) ?_ ?_
  ·rintro _ _ _ hTr le1;obtain⟨e,p,hq,fb,h,rfl⟩:=cG hTr;cases h
   refine uAa ?_;refine zz1 ?_;unfold MI;rw[x7 hcc,hq];exact⟨fb,Y,Y⟩
  rintro _ K _ hTr -;obtain⟨q,hq,rfl,rfl,rfl⟩:=cH hTr;clear hTr;have hqp:=iP hq;refine aG ?_;refine uAa ?_;refine zz1 ?_;unfold MI;rw[x7 hcc,hq];exact⟨_,Y,Y,pv,by rw[hqp];exact hpv,Y⟩
 refine zz7 ?_;refine cA Y Y (s7 (o.n=1) _ _ _ _ _ _ _ _ _ _ _ _ _) bS Y (fun _ _=>cF _ _) ?_ ?_
 ·rintro _ _ _ hTr le1;obtain⟨e,p,hu,fb,h,rfl⟩:=cG hTr;cases h
  refine uAa ?_;refine zz2 ?_;have hbl:¬(o.n=1):=gD9;rw[x5 hbl]at hu;cases hu
  unfold MI;rw[x5 aH];exact⟨fb,Y,Y⟩
 rintro _ K _ hTr -;obtain⟨u0,hu,rfl,rfl,rfl⟩:=cH hTr;clear hTr;have hbl:o.n=1:=xAZ (fun h=>by rw[x5 h]at hu;cases hu);have hcc:o.n=0∨o.n=1:=.inr hbl;refine j4 f9 (zz7 ?_);refine cA Y Y (oQ b mb m hv pv nm s (decide (o.n=1)) _) bS Y (fun _ _=>cF _ _) ?_ ?_
 ·rintro _ _ _ hTr le1;obtain⟨e,p,hq,fb,h,rfl⟩:=cG hTr;cases h
  refine uAa ?_;refine zz1 ?_;unfold MI;rw[x7 hcc,hq];exact⟨fb,Y,Y⟩
 rintro _ K _ hTr -;obtain⟨q,hq,rfl,rfl,rfl⟩:=cH hTr;clear hTr;have hqp:=iP hq;refine aG ?_;refine uAa ?_;refine zz1 ?_;unfold MI;rw[x7 hcc,hq];exact⟨_,Y,Y,pv,by rw[hqp];exact hpv,Y⟩
def aTL(b mb:Nat)(m:Msg)(hv pv:Value)(nm:Bool)(s:MS)(av sv:Value)(f:Nat→Nat)(c:Nat)(v:Bool)(K:Hl):Sp x3 122 [ptr b,.bool v] K [mblk b (str m.from_) (str m.to_) (i64 m.size) hv av (.bool s.keep) (.bool nm) (.map (some mb)) pv sv s.pc,sl true dP av s.acts,sl false eE sv s.stack,pt mb (mapO (l5 s.vars f) c)] (kH (push s v) fun s' r K' L'=>r=.tuple #[]∧K'=K∧L'=[mch b mb m hv pv nm s']):=
 aD1 (fun h hh=>f9 h hh) (oQ b mb m hv pv nm s v K)
abbrev bF7(o:Ins)(m:Msg):Bool:=decide (o.tag=1∧o.n < m.size∨o.tag=2∧m.size < o.n)
def mA(b mb:Nat)(m:Msg)(hv pv:Value)(nm:Bool)(s:MS)(av sv:Value)(f:Nat→Nat)(c:Nat)(q:Bool)(o:Ins)(K:Hl)(hq:q=bF7 o m):Sp x3 122 [ptr b,.bool q] K [mblk b (str m.from_) (str m.to_) (i64 m.size) hv av (.bool s.keep) (.bool nm) (.map (some mb)) pv sv s.pc,sl true dP av s.acts,sl false eE sv s.stack,pt mb (mapO (l5 s.vars f) c)] (kH (push s (bF7 o m)) fun s' r K' L'=>r=.tuple #[]∧K'=K∧L'=[mch b mb m hv pv nm s']):=by
 subst hq;exact aTL b mb m hv pv nm s av sv f c _ K
def bCY(b mb:Nat)(m:Msg)(hv pv:Value)(nm:Bool)(s:MS)(o:Ins)(av bv:Value)(n:Nat)(K:Hl)(hpv:Ksl (a7 9) K pv s.parts)(ha:Ksl (a7 9) K av o.a)(hb:Ksl (a7 9) K bv o.b):
  Sp x3 132 [ptr b,qA o av bv,i64 n] K [mch b mb m hv pv nm s] (MI b mb m hv nm (if o.tag=1∨o.tag=2 then push s (bF7 o m)else .error (rM s.pc))):=by
 obtain⟨sa,sn,sc,rfl⟩:=ha.isSlice;obtain⟨ta,tn,tc,rfl⟩:=hb.isSlice;refine bN Tryz.func132 Y Tryz.ntmps132 Y Y fun F w=>?_;refine zz3 ?_;rintro _ K _ ⟨b4,rfl,rfl,rfl⟩ -;refine zz3 ?_;refine z8 (aM cI (aM bW bF)) ?_;refine wQ fun av sv f c=>?_;refine zz6 ?_;refine bV 10 Y (fun g10=>?_) (fun g10=>?_)
 ·refine zz4 ?_;refine cN Y Y (aFQ _ _) Y ?_;have hcc:o.tag=1∨o.tag=2:=.inl g10;refine zz2 ?_;refine cZ (anc:=[0,0,2,6,14,30,62,126,254,510,1022,30,2078,8190,16382,32766,65534,131070,262142,524286,1048574,2097150,4194302,8388606,16777214,33554430,1048574,68157438,268435454,536870910,1073741822,2147483647]) (ord:=[0,1,2,3,4,5,6,7,8,9,10,11,12,13,14,15,16,17,18,19,20,21,22,23,24,25,26,27,28,29,30,31]) [31] [31] mixed gC5 (cQ _) (zz5 ?_);refine fC 20 Y (fun s20=>?_) (fun s20=>?_)
  ·refine zz11 ?_;refine fC 31 Y (fun s31=>?_) (fun s31=>?_)
   ·refine zz4 ?_;refine bB Y Y (.offu Y Y Y) Y ?_;refine bB Y Y (.offu Y Y Y) Y ?_;refine bB Y Y (.offu Y Y Y) Y ?_;refine bB Y Y (.offu Y Y Y) Y ?_;refine bB Y Y (.offu Y Y Y) Y ?_;refine bB Y Y (.offu Y Y Y) Y ?_;refine bB Y Y (.offu Y Y Y) Y ?_;refine bB Y Y (.offu Y Y Y) Y ?_;refine bB Y Y (.offu Y Y Y) Y (zz2 ?_);refine kZ Y (.none Y) Y Y Y (mA b mb m hv pv nm s av sv f c _ o _ gD5) bS Y (fun _ _=>cF _ _) ?_ ?_
    ·rintro _ _ _ hTr le1;obtain⟨e,p,hq,fb,h,rfl⟩:=cG hTr;cases h
     intro a0 w0 hd0 hi0;refine⟨hd0,_,_,?_,b0,hi0.left⟩
     unfold MI;rw[x7 hcc,hq];exact⟨fb,Y,Y⟩
    rintro _ K _ hTr -;obtain⟨q,hq,rfl,rfl,rfl⟩:=cH hTr;clear hTr;have hqp:=iP hq;refine uBb ?_;refine zz1 ?_;unfold MI;rw[x7 hcc,hq];exact⟨_,Y,Y,pv,by rw[hqp];exact hpv,Y⟩
   refine zz4 ?_;refine fC 35 Y (fun s35=>?_) (fun s35=>?_)
   ·refine zz11 ?_;refine kZ Y (.none Y) Y Y Y (mA b mb m hv pv nm s av sv f c _ o _ gD5) bS Y (fun _ _=>cF _ _) ?_ ?_
    ·rintro _ _ _ hTr le1;obtain⟨e,p,hq,fb,h,rfl⟩:=cG hTr;cases h
     intro a0 w0 hd0 hi0;refine⟨hd0,_,_,?_,b0,hi0.left⟩
     unfold MI;rw[x7 hcc,hq];exact⟨fb,Y,Y⟩
    rintro _ K _ hTr -;obtain⟨q,hq,rfl,rfl,rfl⟩:=cH hTr;clear hTr;have hqp:=iP hq;refine uBb ?_;refine zz1 ?_;unfold MI;rw[x7 hcc,hq];exact⟨_,Y,Y,pv,by rw[hqp];exact hpv,Y⟩
   refine zz11 ?_;refine kZ Y (.none Y) Y Y Y (mA b mb m hv pv nm s av sv f c _ o _ gD5) bS Y (fun _ _=>cF _ _) ?_ ?_
   ·rintro _ _ _ hTr le1;obtain⟨e,p,hq,fb,h,rfl⟩:=cG hTr;cases h
    intro a0 w0 hd0 hi0;refine⟨hd0,_,_,?_,b0,hi0.left⟩
    unfold MI;rw[x7 hcc,hq];exact⟨fb,Y,Y⟩
   rintro _ K _ hTr -;obtain⟨q,hq,rfl,rfl,rfl⟩:=cH hTr;clear hTr;have hqp:=iP hq;refine uBb ?_;refine zz1 ?_;unfold MI;rw[x7 hcc,hq];exact⟨_,Y,Y,pv,by rw[hqp];exact hpv,Y⟩
  refine zz15 ?_;refine fC 35 Y (fun s35=>?_) (fun s35=>?_)
  ·refine zz11 ?_;refine kZ Y (.none Y) Y Y Y (mA b mb m hv pv nm s av sv f c _ o _ gD5) bS Y (fun _ _=>cF _ _) ?_ ?_
   ·rintro _ _ _ hTr le1;obtain⟨e,p,hq,fb,h,rfl⟩:=cG hTr;cases h
    intro a0 w0 hd0 hi0;refine⟨hd0,_,_,?_,b0,hi0.left⟩
    unfold MI;rw[x7 hcc,hq];exact⟨fb,Y,Y⟩
   rintro _ K _ hTr -;obtain⟨q,hq,rfl,rfl,rfl⟩:=cH hTr;clear hTr;have hqp:=iP hq;refine uBb ?_;refine zz1 ?_;unfold MI;rw[x7 hcc,hq];exact⟨_,Y,Y,pv,by rw[hqp];exact hpv,Y⟩
  refine zz11 ?_;refine kZ Y (.none Y) Y Y Y (mA b mb m hv pv nm s av sv f c _ o _ gD5) bS Y (fun _ _=>cF _ _) ?_ ?_
  ·rintro _ _ _ hTr le1;obtain⟨e,p,hq,fb,h,rfl⟩:=cG hTr;cases h
   intro a0 w0 hd0 hi0;refine⟨hd0,_,_,?_,b0,hi0.left⟩
   unfold MI;rw[x7 hcc,hq];exact⟨fb,Y,Y⟩
  rintro _ K _ hTr -;obtain⟨q,hq,rfl,rfl,rfl⟩:=cH hTr;clear hTr;have hqp:=iP hq;refine uBb ?_;refine zz1 ?_;unfold MI;rw[x7 hcc,hq];exact⟨_,Y,Y,pv,by rw[hqp];exact hpv,Y⟩
 refine zz7 ?_;refine cA Y Y (s7 (o.tag=2) _ _ _ _ _ _ _ _ _ _ _ _ _) bS Y (fun _ _=>cF _ _) ?_ ?_
 ·rintro _ _ _ hTr le1;obtain⟨e,p,hu,fb,h,rfl⟩:=cG hTr;cases h
  refine uAa ?_;refine zz2 ?_;have hbl:¬(o.tag=2):=gD9;rw[x5 hbl]at hu;cases hu
  unfold MI;rw[x5 aH];exact⟨fb,Y,Y⟩
 rintro _ K _ hTr -;obtain⟨u0,hu,rfl,rfl,rfl⟩:=cH hTr;clear hTr;have hbl:o.tag=2:=xAZ (fun h=>by rw[x5 h]at hu;cases hu);have hcc:o.tag=1∨o.tag=2:=.inr hbl;refine zz2 ?_;refine cZ (anc:=[0,0,2,6,14,30,62,126,254,510,1022,30,2078,8190,16382,32766,65534,131070,262142,524286,1048574,2097150,4194302,8388606,16777214,33554430,1048574,68157438,268435454,536870910,1073741822,2147483647]) (ord:=[0,1,2,3,4,5,6,7,8,9,10,11,12,13,14,15,16,17,18,19,20,21,22,23,24,25,26,27,28,29,30,31]) [31] [31] mixed gC5 (cQ _) (zz5 ?_);refine fC 20 Y (fun s20=>?_) (fun s20=>?_)
 ·refine zz11 ?_;refine fC 31 Y (fun s31=>?_) (fun s31=>?_)
  ·refine zz4 ?_;refine bB Y Y (.offu Y Y Y) Y ?_;refine bB Y Y (.offu Y Y Y) Y ?_;refine bB Y Y (.offu Y Y Y) Y ?_;refine bB Y Y (.offu Y Y Y) Y ?_;refine bB Y Y (.offu Y Y Y) Y ?_;refine bB Y Y (.offu Y Y Y) Y ?_;refine bB Y Y (.offu Y Y Y) Y ?_;refine bB Y Y (.offu Y Y Y) Y ?_;refine bB Y Y (.offu Y Y Y) Y (zz2 ?_);refine kZ Y (.none Y) Y Y Y (mA b mb m hv pv nm s av sv f c _ o _ gD5) bS Y (fun _ _=>cF _ _) ?_ ?_
   ·rintro _ _ _ hTr le1;obtain⟨e,p,hq,fb,h,rfl⟩:=cG hTr;cases h
    intro a0 w0 hd0 hi0;refine⟨hd0,_,_,?_,b0,hi0.left⟩
    unfold MI;rw[x7 hcc,hq];exact⟨fb,Y,Y⟩
   rintro _ K _ hTr -;obtain⟨q,hq,rfl,rfl,rfl⟩:=cH hTr;clear hTr;have hqp:=iP hq;refine uBb ?_;refine zz1 ?_;unfold MI;rw[x7 hcc,hq];exact⟨_,Y,Y,pv,by rw[hqp];exact hpv,Y⟩
  refine zz4 ?_;refine fC 35 Y (fun s35=>?_) (fun s35=>?_)
  ·refine zz11 ?_;refine kZ Y (.none Y) Y Y Y (mA b mb m hv pv nm s av sv f c _ o _ gD5) bS Y (fun _ _=>cF _ _) ?_ ?_
   ·rintro _ _ _ hTr le1;obtain⟨e,p,hq,fb,h,rfl⟩:=cG hTr;cases h
    intro a0 w0 hd0 hi0;refine⟨hd0,_,_,?_,b0,hi0.left⟩
    unfold MI;rw[x7 hcc,hq];exact⟨fb,Y,Y⟩
   rintro _ K _ hTr -;obtain⟨q,hq,rfl,rfl,rfl⟩:=cH hTr;clear hTr;have hqp:=iP hq;refine uBb ?_;refine zz1 ?_;unfold MI;rw[x7 hcc,hq];exact⟨_,Y,Y,pv,by rw[hqp];exact hpv,Y⟩
  refine zz11 ?_;refine kZ Y (.none Y) Y Y Y (mA b mb m hv pv nm s av sv f c _ o _ gD5) bS Y (fun _ _=>cF _ _) ?_ ?_
  ·rintro _ _ _ hTr le1;obtain⟨e,p,hq,fb,h,rfl⟩:=cG hTr;cases h
   intro a0 w0 hd0 hi0;refine⟨hd0,_,_,?_,b0,hi0.left⟩
   unfold MI;rw[x7 hcc,hq];exact⟨fb,Y,Y⟩
  rintro _ K _ hTr -;obtain⟨q,hq,rfl,rfl,rfl⟩:=cH hTr;clear hTr;have hqp:=iP hq;refine uBb ?_;refine zz1 ?_;unfold MI;rw[x7 hcc,hq];exact⟨_,Y,Y,pv,by rw[hqp];exact hpv,Y⟩
 refine zz15 ?_;refine fC 35 Y (fun s35=>?_) (fun s35=>?_)
 ·refine zz11 ?_;refine kZ Y (.none Y) Y Y Y (mA b mb m hv pv nm s av sv f c _ o _ gD5) bS Y (fun _ _=>cF _ _) ?_ ?_
  ·rintro _ _ _ hTr le1;obtain⟨e,p,hq,fb,h,rfl⟩:=cG hTr;cases h
   intro a0 w0 hd0 hi0;refine⟨hd0,_,_,?_,b0,hi0.left⟩
   unfold MI;rw[x7 hcc,hq];exact⟨fb,Y,Y⟩
  rintro _ K _ hTr -;obtain⟨q,hq,rfl,rfl,rfl⟩:=cH hTr;clear hTr;have hqp:=iP hq;refine uBb ?_;refine zz1 ?_;unfold MI;rw[x7 hcc,hq];exact⟨_,Y,Y,pv,by rw[hqp];exact hpv,Y⟩
 refine zz11 ?_;refine kZ Y (.none Y) Y Y Y (mA b mb m hv pv nm s av sv f c _ o _ gD5) bS Y (fun _ _=>cF _ _) ?_ ?_
 ·rintro _ _ _ hTr le1;obtain⟨e,p,hq,fb,h,rfl⟩:=cG hTr;cases h
  intro a0 w0 hd0 hi0;refine⟨hd0,_,_,?_,b0,hi0.left⟩
  unfold MI;rw[x7 hcc,hq];exact⟨fb,Y,Y⟩
 rintro _ K _ hTr -;obtain⟨q,hq,rfl,rfl,rfl⟩:=cH hTr;clear hTr;have hqp:=iP hq;refine uBb ?_;refine zz1 ?_;unfold MI;rw[x7 hcc,hq];exact⟨_,Y,Y,pv,by rw[hqp];exact hpv,Y⟩
def aN6(av:Value)(l:List gA)(a:gA)(K:Hl)(hl:l.length≤100):Sp x3 231 [av,.agg #[i64 a.1,str a.2]] K [sl true dP av l] (Ret fun v K' L'=>∃i:Int,v=i64 i∧(0≤i↔a∈l)∧K'=K∧L'=[sl true dP av l]):=by
 refine bN Tryz.func231 Y Tryz.ntmps231 Y Y fun F w=>?_;refine zz3 ?_;rintro _ K _ ⟨b3,rfl,rfl,rfl⟩ -;refine zz7 ?_;refine aA (bU (k:=dP) Y Tryz.underlying49 Y aL) Y (zz4 ?_);refine eH (fun(i:Nat)=>i≤l.length∧a∉l.take i) (fun i=>[(0,av),(3,ptr b3),(7,i64 l.length),(8,i64 i)]) (fun _=>_) (fun i=>[pt b3 (bL [i64 a.1,str a.2] 75),sl true dP av l]) (fun i=>l.length - i) 0 ⟨x9 _,by simp⟩ aS Y (fun _ h=>h) ?_;intro i ⟨hi0,hi1⟩;refine zz6 ?_;refine aY 9 Y (fun h9=>?_) (fun h9=>?_)
 ·have hilt:i < l.length:=by omega
  obtain⟨x,hx⟩:∃x,l[i]?=some x:=⟨l[i]'hilt,x4 hilt⟩;refine zz11 ?_;refine cZ (anc:=[0,0,0,6,14,31]) (ord:=[0,1,2,3,4,5]) [] [] mixed gC5 (cQ _) (zz3 ?_);refine aJ Y Y (.none Y) Y Y (aX (k:=dP) jU Y aL Y Y gDB) Y ?_;refine aJ Y Y (.none Y) Y Y (fA (n:=0) (k:=dP) mK Y aL b0) Y ?_;refine aJ Y Y (.none Y) Y Y (aJ1 (a:=a) (c:=x) Y Y) Y (zz2 ?_);refine aY 16 Y (fun h16=>?_) (fun h16=>?_)
  ·refine zz12 ?_;refine aQ (aM cI bF) (zz1 ?_);exact⟨_,Y,i,Y,⟨fun _=>by rw[h16];exact x8 hx,fun _=>by omega⟩,Y,Y⟩
  refine zz7 ?_;refine cM (i+1) ⟨by omega,?_⟩ aH aS Y (fun _ h=>h)
  have hxe:l[i]'hilt=x:=by simpa[List.getElem?_eq_getElem hilt]using hx
  rw[xAN hilt,hxe];intro hm;rcases xAT.1 hm with h|h
  ·exact hi1 h
  simp at h;exact h16 h
 have hno:a∉l:=(by rw[xAI aH]at hi1;exact hi1);refine zz11 ?_;refine aQ (aM cI bF) (zz1 ?_);exact⟨_,Y,-1,Y,⟨fun h=>by omega,fun h=>absurd h hno⟩,Y,Y⟩
def wT(av:Value)(l:List gA)(a:gA)(K:Hl)(hl:l.length≤100):Sp x3 197 [av,.agg #[i64 a.1,str a.2]] K [sl true dP av l] (Ret fun v K' L'=>v=.bool (decide (a∈l))∧K'=K∧L'=[sl true dP av l]):=by
 refine bN Tryz.func197 Y Tryz.ntmps197 Y Y fun F w=>?_;refine zz3 ?_;rintro _ K _ ⟨b3,rfl,rfl,rfl⟩ -;refine zz7 ?_;refine bA Y Y (aN6 av l a _ hl) bS Y ?_;rintro _ K _ ⟨i,rfl,hi,rfl,rfl⟩ -;refine zz5 ?_;refine uAa ?_;refine zz1 ?_;have e:decide (0≤i)=decide (a∈l):=decide_eq_decide.2 hi;rw[e];exact⟨_,Y,Y,Y,Y⟩
def actB(o:Ins)(s:MS)(arg:List UInt8):Res MS:=
 if o.tag=2∧sT arg=false then .error (8,o.at_)
 else if o.tag=3∧fM arg=false then .error (9,o.at_)
 else actC o s (Mach.actV o arg)
def bHN{nm:Bool}{o:Ins}{s:MS}(h:o.tag=1∨(2≤o.tag∧o.tag≤4∧o.a≠[])):actI nm o s=actB o s (actA nm o s):=by
 unfold actI;rw[x7 h];rfl
def bHO{nm:Bool}{o:Ins}{s:MS}(h:¬(o.tag=1∨(2≤o.tag∧o.tag≤4∧o.a≠[]))):actI nm o s=.error (12,s.pc):=by
 unfold actI;rw[x5 h];rfl
def aF8{nm:Bool}{o:Ins}{s:MS}(h:¬(o.tag=1∨(2≤o.tag∧o.tag≤4∧0 < o.a.length))):actI nm o s=.error (12,s.pc):=
 bHO fun h'=>h (h'.imp_right fun⟨a,b,c⟩=>⟨a,b,List.length_pos_iff.2 c⟩)
def qV{nm:Bool}{o:Ins}{s:MS}(h:o.tag=1∨(2≤o.tag∧o.tag≤4∧0 < o.a.length)):actI nm o s=actB o s (actA nm o s):=bHN (h.imp_right fun⟨a,b,c⟩=>⟨a,b,List.length_pos_iff.1 c⟩)
def aLO{nm:Bool}{o:Ins}{s:MS}(h:o.tag=1):actA nm o s=[]:=by unfold actA;rw[x7 h]
def aLP{nm:Bool}{o:Ins}{s:MS}{x:List UInt8}(h:¬o.tag=1)(hx:o.a[0]?=some x):actA nm o s=dH nm s.vars s.parts x:=by unfold actA;rw[x5 h,hx];rfl
def aW1(b mb:Nat)(m:Msg)(hv pv:Value)(nm:Bool)(s:MS)(o:Ins)(av0 bv:Value)(n:Int)(K:Hl)(hg:Glob K)(hpv:Ksl (a7 9) K pv s.parts)(ha:Ksl (a7 9) K av0 o.a)(hb:Ksl (a7 9) K bv o.b)(hs:∀x∈o.a,x.length≤100000)(hsm:pW s.vars s.parts)(hl:s.acts.length≤6)
  (hadr:∀(x:List UInt8) (K:Hl),Glob K→x.length≤100000→Sp x3 196 [str x] K [] (Val (.bool (fM x)) K)):
  Sp x3 133 [ptr b,qA o av0 bv,i64 n] K [mch b mb m hv pv nm s] (MI b mb m hv nm (actI nm o s)):=by
 obtain⟨sa,sn,sc,rfl⟩:=ha.isSlice;obtain⟨ta,tn,tc,rfl⟩:=hb.isSlice;refine bN Tryz.func133 Y Tryz.ntmps133 Y Y fun F w=>?_;refine wQ fun av sv f c=>?_;refine zz3 ?_;rintro _ K _ ⟨b4,rfl,rfl,rfl⟩ -;refine zz9 ?_;refine bV 13 Y (fun g13=>?_) (fun g13=>?_)
 ·refine zz15 ?_;refine cN Y Y (aFQ _ _) Y ?_;have hcc:o.tag=1∨(2≤o.tag∧o.tag≤4∧0 < o.a.length):=.inl g13;refine bEI (aM cI (aM bW bF)) (zz6 ?_);refine aA (dG aJG aAB dF) Y (zz1 ?_);rintro _ K _ ⟨b6,rfl,rfl,rfl⟩ -;refine cD (cX mK Y Y Y bR gC1 (.cons (.cons .nil)) gC8) ?_;rintro _ K _ ⟨rfl,rfl⟩ -;refine zz2 ?_;refine dX (fun(u:List UInt8)=>u.length≤100000∧actI nm o s=actB o s u) (fun u=>[(0,ptr b),(4,ptr b4),(6,ptr b6)]) (fun _=>K) (fun u=>[pt b6 (bL [i64 o.tag,str u] 75),mblk b (str m.from_) (str m.to_) (i64 m.size) hv av (.bool s.keep) (.bool nm) (.map (some mb)) pv sv s.pc,sl true dP av s.acts,sl false eE sv s.stack,pt mb (mapO (l5 s.vars f) c),pt b4 (bL [i64 o.op,i64 o.n,i64 o.tag,.bool o.oct,.slice sa sn sc,.slice ta tn tc,i64 o.at_] 45)]) ?_ ?_
  ·refine zz7 ?_;refine aY 35 Y (fun h35=>?_) (fun h35=>?_)
   ·obtain⟨xa,hxa⟩:∃x,o.a[0]?=some x:=⟨o.a[0]'(by omega),x4 aH⟩;refine zz4 ?_;refine aA (aX (k:=a7 9) (j:=0) cB Y (.known ha) Y Y aH) Y ?_;refine uAg ?_;refine bA Y Y (tP b mb _ _ _ _ _ _ pv _ _ nm s.vars f c s.parts xa _ hg hpv (hs xa (x8 hxa)) hsm) bS Y ?_;rintro _ K _ ⟨rfl,rfl,rfl⟩ -;refine zz1 ?_;refine uAi ?_;rintro _ K _ ⟨rfl,rfl⟩ -;refine aG ?_
    first
     |exact gBI
     |exact gBN
   refine aW ?_
   first
    |exact gBI
    |exact gBN
  intro u ⟨hul,hok⟩;refine dX (fun(a:gA)=>actI nm o s=actC o s a) (fun _=>[(0,ptr b),(4,ptr b4),(6,ptr b6)]) (fun _=>K) (fun a=>[pt b6 (bL [i64 a.1,str a.2] 75),mblk b (str m.from_) (str m.to_) (i64 m.size) hv av (.bool s.keep) (.bool nm) (.map (some mb)) pv sv s.pc,sl true dP av s.acts,sl false eE sv s.stack,pt mb (mapO (l5 s.vars f) c),pt b4 (bL [i64 o.op,i64 o.n,i64 o.tag,.bool o.oct,.slice sa sn sc,.slice ta tn tc,i64 o.at_] 45)]) ?_ ?_
  ·refine zz7 ?_;refine bV 47 Y (fun g47=>?_) (fun g47=>?_)
   ·refine zz5 ?_;refine cN Y Y (aGE u _ aH) Y (zz1 ?_);refine aA gC3 Y (zz4 ?_);refine d9 43 Y (fun h43=>?_) (fun h43=>?_)
    ·have hB:actB o s u=.error (8,o.at_):=(by unfold actB;rw[x7 ⟨g47,by simpa using h43⟩]);refine zz4 ?_;refine cA Y Y (mJ _ 8 o.at_ _) .nil Y gC6 ?_ ?_
     ·rintro _ _ _ ⟨fb,h,rfl⟩ le1;cases h
      refine uAa ?_;refine zz3 ?_;unfold MI;rw[hok,hB];exact⟨fb,Y,Y⟩
     rintro _ _ _ ⟨_,h,_⟩;cases h
    refine zz6 ?_;refine bV 61 Y (fun g61=>?_) (fun g61=>?_)
    ·refine zz5 ?_;refine cN Y Y (hadr u _ hg hul) Y (zz1 ?_);refine aA gC3 Y (zz4 ?_);refine d9 57 Y (fun h57=>?_) (fun h57=>?_)
     ·have hB:actB o s u=.error (9,o.at_):=gEN;refine zz4 ?_;refine cA Y Y (mJ _ 9 o.at_ _) .nil Y gC6 ?_ ?_
      ·rintro _ _ _ ⟨fb,h,rfl⟩ le1;cases h
       refine uAa ?_;refine zz3 ?_;unfold MI;rw[hok,hB];exact⟨fb,Y,Y⟩
      rintro _ _ _ ⟨_,h,_⟩;cases h
     refine zz8 ?_;refine aY 71 Y (fun h71=>?_) (fun h71=>?_)
     ·refine zz7 ?_;refine aA (gL (n:=min u.length 48) Tryz.underlying9 Y Y gEQ aH) Y (zz1 ?_);refine uAi ?_;rintro _ K _ ⟨rfl,rfl⟩ -;refine zz2 ?_;have hB:actB o s u=actC o s (Mach.actV o u):=gC4
      first
       |(exact a8 (o.tag,u.take (min u.length 48)) gDD aS Y cV)
       |(exact a8 (o.tag,u) gDF aS Y cV)
     refine zz2 ?_;have hB:actB o s u=actC o s (Mach.actV o u):=gC4
     first
      |(exact a8 (o.tag,u.take (min u.length 48)) gDD aS Y cV)
      |(exact a8 (o.tag,u) gDF aS Y cV)
    refine zz17 ?_;refine aY 71 Y (fun h71=>?_) (fun h71=>?_)
    ·refine zz7 ?_;refine aA (gL (n:=min u.length 48) Tryz.underlying9 Y Y gEQ aH) Y (zz1 ?_);refine uAi ?_;rintro _ K _ ⟨rfl,rfl⟩ -;refine zz2 ?_;have hB:actB o s u=actC o s (Mach.actV o u):=gC4
     first
      |(exact a8 (o.tag,u.take (min u.length 48)) gDD aS Y cV)
      |(exact a8 (o.tag,u) gDF aS Y cV)
    refine zz2 ?_;have hB:actB o s u=actC o s (Mach.actV o u):=gC4
    first
     |(exact a8 (o.tag,u.take (min u.length 48)) gDD aS Y cV)
     |(exact a8 (o.tag,u) gDF aS Y cV)
   refine zz15 ?_;refine bV 61 Y (fun g61=>?_) (fun g61=>?_)
   ·refine zz5 ?_;refine cN Y Y (hadr u _ hg hul) Y (zz1 ?_);refine aA gC3 Y (zz4 ?_);refine d9 57 Y (fun h57=>?_) (fun h57=>?_)
    ·have hB:actB o s u=.error (9,o.at_):=gEN;refine zz4 ?_;refine cA Y Y (mJ _ 9 o.at_ _) .nil Y gC6 ?_ ?_
     ·rintro _ _ _ ⟨fb,h,rfl⟩ le1;cases h
      refine uAa ?_;refine zz3 ?_;unfold MI;rw[hok,hB];exact⟨fb,Y,Y⟩
     rintro _ _ _ ⟨_,h,_⟩;cases h
    refine zz8 ?_;refine aY 71 Y (fun h71=>?_) (fun h71=>?_)
    ·refine zz7 ?_;refine aA (gL (n:=min u.length 48) Tryz.underlying9 Y Y gEQ aH) Y (zz1 ?_);refine uAi ?_;rintro _ K _ ⟨rfl,rfl⟩ -;refine zz2 ?_;have hB:actB o s u=actC o s (Mach.actV o u):=gC4
     first
      |(exact a8 (o.tag,u.take (min u.length 48)) gDD aS Y cV)
      |(exact a8 (o.tag,u) gDF aS Y cV)
    refine zz2 ?_;have hB:actB o s u=actC o s (Mach.actV o u):=gC4
    first
     |(exact a8 (o.tag,u.take (min u.length 48)) gDD aS Y cV)
     |(exact a8 (o.tag,u) gDF aS Y cV)
   refine zz17 ?_;refine aY 71 Y (fun h71=>?_) (fun h71=>?_)
   ·refine zz7 ?_;refine aA (gL (n:=min u.length 48) Tryz.underlying9 Y Y gEQ aH) Y (zz1 ?_);refine uAi ?_;rintro _ K _ ⟨rfl,rfl⟩ -;refine zz2 ?_;have hB:actB o s u=actC o s (Mach.actV o u):=gC4
    first
     |(exact a8 (o.tag,u.take (min u.length 48)) gDD aS Y cV)
     |(exact a8 (o.tag,u) gDF aS Y cV)
   refine zz2 ?_;have hB:actB o s u=actC o s (Mach.actV o u):=gC4
   first
    |(exact a8 (o.tag,u.take (min u.length 48)) gDD aS Y cV)
    |(exact a8 (o.tag,u) gDF aS Y cV)
  intro a hok;refine zz6 ?_;refine uAk ?_;rintro _ K _ ⟨rfl,rfl⟩ -;refine zz4 ?_;refine cZ (anc:=[0,1,3,7,15,0,63]) (ord:=[0,1,2,3,4,5,6]) [6] [6] mixed gC5 (cQ _) (zz6 ?_);refine eQ Y (.none Y) Y Y Y (wT av s.acts a _ aH) bS Y ?_;rintro _ K _ ⟨rfl,rfl,rfl⟩ -;refine zz2 ?_;refine aY 93 Y (fun h93=>?_) (fun h93=>?_)
  ·refine zz2 ?_
   first
    |(refine aQ (aM e7 (aM bW (aM cI (aM cI bF)))) ?_;refine cS (f9 (m:=m) (hv:=hv) (pv:=pv) (nm:=nm) (s:={s with keep:=false})) ?_)
    |(refine aQ (aM cI (aM cI (aM e7 (aM e7 bF)))) ?_;refine cS (f9 (m:=m) (hv:=hv) (pv:=pv) (nm:=nm) (s:={s with keep:=false,acts:=s.acts++[a]})) ?_)
   refine jZ Y (xAB _) ?_;unfold MI;rw[hok];unfold actC
   first
    |exact gCN
    |exact gCD
  refine zz10 ?_;refine aA (bU (k:=dP) Y Tryz.underlying49 Y aL) Y (zz4 ?_);refine eH (fun(i:Nat)=>i≤s.acts.length∧∀(j:Nat) (x:gA),j < i→s.acts[j]?=some x→¬(a.1=4∨x.1=4)) (fun i=>[(0,ptr b),(4,ptr b4),(6,ptr b6),(98,av),(99,i64 s.acts.length),(100,i64 i)]) (fun _=>K) (fun i=>[sl true dP av s.acts,pt b6 (bL [i64 a.1,str a.2] 75),mblk b (str m.from_) (str m.to_) (i64 m.size) hv av (.bool false) (.bool nm) (.map (some mb)) pv sv s.pc,sl false eE sv s.stack,pt mb (mapO (l5 s.vars f) c),pt b4 (bL [i64 o.op,i64 o.n,i64 o.tag,.bool o.oct,.slice sa sn sc,.slice ta tn tc,i64 o.at_] 45)]) (fun i=>s.acts.length - i) 0 ⟨x9 _,fun j x h _=>by omega⟩ aS Y (fun _ h=>h) ?_;intro i ⟨hi0,hi1⟩;refine zz6 ?_;refine aY 101 Y (fun h101=>?_) (fun h101=>?_)
  ·have hilt:i < s.acts.length:=by omega
   obtain⟨x,hx⟩:∃x,s.acts[i]?=some x:=⟨s.acts[i]'hilt,x4 hilt⟩;refine zz6 ?_;refine aA (aX (k:=dP) jU Y aL Y Y gDB) Y ?_;refine aA (fA (n:=0) (k:=dP) mK Y aL b0) Y (zz1 ?_);rintro _ K _ ⟨b8,rfl,rfl,rfl⟩ -;refine cD (cX mK Y Y Y bR gC1 (.cons (.cons .nil)) gC8) ?_;rintro _ K _ ⟨rfl,rfl⟩ -;refine zz8 ?_;refine bV 107 Y (fun g107=>?_) (fun g107=>?_)
   ·refine zz11 ?_;refine cA Y Y (mJ _ 10 o.at_ _) .nil Y gC6 ?_ ?_
    ·rintro _ _ _ ⟨fb,h,rfl⟩ le1;cases h
     refine uAa ?_;refine zz6 ?_;have hco:∃b∈s.acts,a.1=4∨b.1=4:=⟨x,x8 hx,by omega⟩;unfold MI;rw[hok];unfold actC;rw[x5 h93,x7 hco]
     exact⟨fb,Y,Y⟩
    rintro _ _ _ ⟨_,h,_⟩;cases h
   refine zz9 ?_;refine aY 111 Y (fun h111=>?_) (fun h111=>?_)
   ·refine zz4 ?_;refine cA Y Y (mJ _ 10 o.at_ _) .nil Y gC6 ?_ ?_
    ·rintro _ _ _ ⟨fb,h,rfl⟩ le1;cases h
     refine uAa ?_;refine zz6 ?_;have hco:∃b∈s.acts,a.1=4∨b.1=4:=⟨x,x8 hx,by omega⟩;unfold MI;rw[hok];unfold actC;rw[x5 h93,x7 hco]
     exact⟨fb,Y,Y⟩
    rintro _ _ _ ⟨_,h,_⟩;cases h
   refine zz7 ?_;refine aQ (aM cI (aM cI (aM cI (aM cI (aM cI (aM cI bF)))))) ?_;refine cM (i+1) ⟨by omega,fun j y hj hy=>?_⟩ aH aS Y cV
   rcases xAC j i with h|h
   ·exact hi1 j y h hy
   have e:j=i:=by omega
   subst e;rw[hx]at hy;cases hy;intro hh;omega
  have hnc:¬ ∃b∈s.acts,a.1=4∨b.1=4:=gEP;refine zz13 ?_;refine aA (bU (k:=dP) Y Tryz.underlying49 Y aL) Y (zz3 ?_);refine aY 123 Y (fun h123=>?_) (fun h123=>?_)
  ·refine zz4 ?_;refine cA Y Y (mJ _ 11 o.at_ _) .nil Y gC6 ?_ ?_
   ·rintro _ _ _ ⟨fb,h,rfl⟩ le1;cases h
    refine uAa ?_;refine zz2 ?_;unfold MI;rw[hok];unfold actC;rw[x5 h93,x5 hnc,x7 aH]
    exact⟨fb,Y,Y⟩
   rintro _ _ _ ⟨_,h,_⟩;cases h
  refine zz2 ?_;refine cZ (anc:=[0,0,2,6,14,30,0,64,254,511,1023,2047,4095]) (ord:=[0,1,2,3,4,5,6,7,8,9,10,11,12]) [7,8,12] [12] mixed gC5 (aM cI (aM cI bF)) (zz7 ?_);refine uK Y Y (.none Y) Y Y (bM (z0:=[.int .i64 0,(str [])]) jU aIV Y Y Y Y dF) Y ?_;rintro _ K _ ⟨b135,rfl,rfl,rfl⟩ -;refine⟨_,(show Tks _ _ _ from (aM cI (aM cI bF))).sat,?_⟩
  refine uK Y Y (.none Y) Y Y (dQ (k:=dP) (ys:=[a]) n3 Y Y (.there (.there (.there .here))) (fun w j=>dJ Tryz.underlying49 (SeesSl.at (k:=dP) (.blk aL Y Y) j)) gC7 gC9) Y ?_;rintro v136 K _ ⟨rfl,rfl,ho136⟩ -;refine⟨_,(show Tks _ _ _ from (aM cI (aM cI bF))).sat,?_⟩
  refine zz3 ?_;refine mT Y Y (.none Y) Y (bX lN Y Y dA bR aZe Y) ?_;rintro _ K _ ⟨rfl,rfl⟩ -;refine cL ?_
  first
   |(refine aQ (aM e7 (aM bW (aM cI (aM cI bF)))) ?_;refine cS (f9 (m:=m) (hv:=hv) (pv:=pv) (nm:=nm) (s:={s with keep:=false})) ?_)
   |(refine aQ (aM cI (aM cI (aM e7 (aM e7 bF)))) ?_;refine cS (f9 (m:=m) (hv:=hv) (pv:=pv) (nm:=nm) (s:={s with keep:=false,acts:=s.acts++[a]})) ?_)
  refine zz1 ?_;unfold MI;rw[hok];unfold actC
  first
   |exact gCN
   |exact gCD
 refine zz8 ?_;refine bV 17 Y (fun g17=>?_) (fun g17=>?_)
 ·refine zz10 ?_;refine bV 22 Y (fun g22=>?_) (fun g22=>?_)
  ·refine zz5 ?_;refine uAc ?_;refine zz5 ?_;refine cA Y Y (s7 (0 < (o.a.length:Int)) _ _ _ _ _ _ _ _ _ _ _ _ _) bS Y (fun _ _=>cF _ _) ?_ ?_
   ·rintro _ _ _ hTr le1;obtain⟨e,p,hu,fb,h,rfl⟩:=cG hTr;cases h
    refine uAa ?_;refine zz2 ?_;have hbl:¬(0 < (o.a.length:Int)):=gD9;rw[x5 hbl]at hu;cases hu
    have hno:=aF8 (nm:=nm) (s:=s) (o:=o) aH;unfold MI;rw[hno];exact⟨fb,Y,Y⟩
   rintro _ K _ hTr -;obtain⟨u0,hu,rfl,rfl,rfl⟩:=cH hTr;clear hTr;have hbl:0 < (o.a.length:Int):=xAZ (fun h=>by rw[x5 h]at hu;cases hu);have hcc:o.tag=1∨(2≤o.tag∧o.tag≤4∧0 < o.a.length):=.inr ⟨by omega,by omega,by omega⟩;refine zz6 ?_;refine aA (dG aJG aAB dF) Y (zz1 ?_);rintro _ K _ ⟨b6,rfl,rfl,rfl⟩ -;refine cD (cX mK Y Y Y bR gC1 (.cons (.cons .nil)) gC8) ?_;rintro _ K _ ⟨rfl,rfl⟩ -;refine zz2 ?_;refine dX (fun(u:List UInt8)=>u.length≤100000∧actI nm o s=actB o s u) (fun u=>[(0,ptr b),(4,ptr b4),(6,ptr b6)]) (fun _=>K) (fun u=>[pt b6 (bL [i64 o.tag,str u] 75),mblk b (str m.from_) (str m.to_) (i64 m.size) hv av (.bool s.keep) (.bool nm) (.map (some mb)) pv sv s.pc,sl true dP av s.acts,sl false eE sv s.stack,pt mb (mapO (l5 s.vars f) c),pt b4 (bL [i64 o.op,i64 o.n,i64 o.tag,.bool o.oct,.slice sa sn sc,.slice ta tn tc,i64 o.at_] 45)]) ?_ ?_
   ·refine zz7 ?_;refine aY 35 Y (fun h35=>?_) (fun h35=>?_)
    ·obtain⟨xa,hxa⟩:∃x,o.a[0]?=some x:=⟨o.a[0]'(by omega),x4 aH⟩;refine zz4 ?_;refine aA (aX (k:=a7 9) (j:=0) cB Y (.known ha) Y Y aH) Y ?_;refine uAg ?_;refine bA Y Y (tP b mb _ _ _ _ _ _ pv _ _ nm s.vars f c s.parts xa _ hg hpv (hs xa (x8 hxa)) hsm) bS Y ?_;rintro _ K _ ⟨rfl,rfl,rfl⟩ -;refine zz1 ?_;refine uAi ?_;rintro _ K _ ⟨rfl,rfl⟩ -;refine aG ?_
     first
      |exact gBI
      |exact gBN
    refine aW ?_
    first
     |exact gBI
     |exact gBN
   intro u ⟨hul,hok⟩;refine dX (fun(a:gA)=>actI nm o s=actC o s a) (fun _=>[(0,ptr b),(4,ptr b4),(6,ptr b6)]) (fun _=>K) (fun a=>[pt b6 (bL [i64 a.1,str a.2] 75),mblk b (str m.from_) (str m.to_) (i64 m.size) hv av (.bool s.keep) (.bool nm) (.map (some mb)) pv sv s.pc,sl true dP av s.acts,sl false eE sv s.stack,pt mb (mapO (l5 s.vars f) c),pt b4 (bL [i64 o.op,i64 o.n,i64 o.tag,.bool o.oct,.slice sa sn sc,.slice ta tn tc,i64 o.at_] 45)]) ?_ ?_
   ·refine zz7 ?_;refine bV 47 Y (fun g47=>?_) (fun g47=>?_)
    ·refine zz5 ?_;refine cN Y Y (aGE u _ aH) Y (zz1 ?_);refine aA gC3 Y (zz4 ?_);refine d9 43 Y (fun h43=>?_) (fun h43=>?_)
     ·have hB:actB o s u=.error (8,o.at_):=(by unfold actB;rw[x7 ⟨g47,by simpa using h43⟩]);refine zz4 ?_;refine cA Y Y (mJ _ 8 o.at_ _) .nil Y gC6 ?_ ?_
      ·rintro _ _ _ ⟨fb,h,rfl⟩ le1;cases h
       refine uAa ?_;refine zz3 ?_;unfold MI;rw[hok,hB];exact⟨fb,Y,Y⟩
      rintro _ _ _ ⟨_,h,_⟩;cases h
     refine zz6 ?_;refine bV 61 Y (fun g61=>?_) (fun g61=>?_)
     ·refine zz5 ?_;refine cN Y Y (hadr u _ hg hul) Y (zz1 ?_);refine aA gC3 Y (zz4 ?_);refine d9 57 Y (fun h57=>?_) (fun h57=>?_)
      ·have hB:actB o s u=.error (9,o.at_):=gEN;refine zz4 ?_;refine cA Y Y (mJ _ 9 o.at_ _) .nil Y gC6 ?_ ?_
       ·rintro _ _ _ ⟨fb,h,rfl⟩ le1;cases h
        refine uAa ?_;refine zz3 ?_;unfold MI;rw[hok,hB];exact⟨fb,Y,Y⟩
       rintro _ _ _ ⟨_,h,_⟩;cases h
      refine zz8 ?_;refine aY 71 Y (fun h71=>?_) (fun h71=>?_)
      ·refine zz7 ?_;refine aA (gL (n:=min u.length 48) Tryz.underlying9 Y Y gEQ aH) Y (zz1 ?_);refine uAi ?_;rintro _ K _ ⟨rfl,rfl⟩ -;refine zz2 ?_;have hB:actB o s u=actC o s (Mach.actV o u):=gC4
       first
        |(exact a8 (o.tag,u.take (min u.length 48)) gDD aS Y cV)
        |(exact a8 (o.tag,u) gDF aS Y cV)
      refine zz2 ?_;have hB:actB o s u=actC o s (Mach.actV o u):=gC4
      first
       |(exact a8 (o.tag,u.take (min u.length 48)) gDD aS Y cV)
       |(exact a8 (o.tag,u) gDF aS Y cV)
     refine zz17 ?_;refine aY 71 Y (fun h71=>?_) (fun h71=>?_)
     ·refine zz7 ?_;refine aA (gL (n:=min u.length 48) Tryz.underlying9 Y Y gEQ aH) Y (zz1 ?_);refine uAi ?_;rintro _ K _ ⟨rfl,rfl⟩ -;refine zz2 ?_;have hB:actB o s u=actC o s (Mach.actV o u):=gC4
      first
       |(exact a8 (o.tag,u.take (min u.length 48)) gDD aS Y cV)
       |(exact a8 (o.tag,u) gDF aS Y cV)
     refine zz2 ?_;have hB:actB o s u=actC o s (Mach.actV o u):=gC4
     first
      |(exact a8 (o.tag,u.take (min u.length 48)) gDD aS Y cV)
      |(exact a8 (o.tag,u) gDF aS Y cV)
    refine zz15 ?_;refine bV 61 Y (fun g61=>?_) (fun g61=>?_)
    ·refine zz5 ?_;refine cN Y Y (hadr u _ hg hul) Y (zz1 ?_);refine aA gC3 Y (zz4 ?_);refine d9 57 Y (fun h57=>?_) (fun h57=>?_)
     ·have hB:actB o s u=.error (9,o.at_):=gEN;refine zz4 ?_;refine cA Y Y (mJ _ 9 o.at_ _) .nil Y gC6 ?_ ?_
      ·rintro _ _ _ ⟨fb,h,rfl⟩ le1;cases h
       refine uAa ?_;refine zz3 ?_;unfold MI;rw[hok,hB];exact⟨fb,Y,Y⟩
      rintro _ _ _ ⟨_,h,_⟩;cases h
     refine zz8 ?_;refine aY 71 Y (fun h71=>?_) (fun h71=>?_)
     ·refine zz7 ?_;refine aA (gL (n:=min u.length 48) Tryz.underlying9 Y Y gEQ aH) Y (zz1 ?_);refine uAi ?_;rintro _ K _ ⟨rfl,rfl⟩ -;refine zz2 ?_;have hB:actB o s u=actC o s (Mach.actV o u):=gC4
      first
       |(exact a8 (o.tag,u.take (min u.length 48)) gDD aS Y cV)
       |(exact a8 (o.tag,u) gDF aS Y cV)
     refine zz2 ?_;have hB:actB o s u=actC o s (Mach.actV o u):=gC4
     first
      |(exact a8 (o.tag,u.take (min u.length 48)) gDD aS Y cV)
      |(exact a8 (o.tag,u) gDF aS Y cV)
    refine zz17 ?_;refine aY 71 Y (fun h71=>?_) (fun h71=>?_)
    ·refine zz7 ?_;refine aA (gL (n:=min u.length 48) Tryz.underlying9 Y Y gEQ aH) Y (zz1 ?_);refine uAi ?_;rintro _ K _ ⟨rfl,rfl⟩ -;refine zz2 ?_;have hB:actB o s u=actC o s (Mach.actV o u):=gC4
     first
      |(exact a8 (o.tag,u.take (min u.length 48)) gDD aS Y cV)
      |(exact a8 (o.tag,u) gDF aS Y cV)
    refine zz2 ?_;have hB:actB o s u=actC o s (Mach.actV o u):=gC4
    first
     |(exact a8 (o.tag,u.take (min u.length 48)) gDD aS Y cV)
     |(exact a8 (o.tag,u) gDF aS Y cV)
   intro a hok;refine zz6 ?_;refine uAk ?_;rintro _ K _ ⟨rfl,rfl⟩ -;refine zz4 ?_;refine cZ (anc:=[0,1,3,7,15,0,63]) (ord:=[0,1,2,3,4,5,6]) [6] [6] mixed gC5 (cQ _) (zz6 ?_);refine eQ Y (.none Y) Y Y Y (wT av s.acts a _ aH) bS Y ?_;rintro _ K _ ⟨rfl,rfl,rfl⟩ -;refine zz2 ?_;refine aY 93 Y (fun h93=>?_) (fun h93=>?_)
   ·refine zz2 ?_
    first
     |(refine aQ (aM e7 (aM bW (aM cI (aM cI bF)))) ?_;refine cS (f9 (m:=m) (hv:=hv) (pv:=pv) (nm:=nm) (s:={s with keep:=false})) ?_)
     |(refine aQ (aM cI (aM cI (aM e7 (aM e7 bF)))) ?_;refine cS (f9 (m:=m) (hv:=hv) (pv:=pv) (nm:=nm) (s:={s with keep:=false,acts:=s.acts++[a]})) ?_)
    refine jZ Y (xAB _) ?_;unfold MI;rw[hok];unfold actC
    first
     |exact gCN
     |exact gCD
   refine zz10 ?_;refine aA (bU (k:=dP) Y Tryz.underlying49 Y aL) Y (zz4 ?_);refine eH (fun(i:Nat)=>i≤s.acts.length∧∀(j:Nat) (x:gA),j < i→s.acts[j]?=some x→¬(a.1=4∨x.1=4)) (fun i=>[(0,ptr b),(4,ptr b4),(6,ptr b6),(98,av),(99,i64 s.acts.length),(100,i64 i)]) (fun _=>K) (fun i=>[sl true dP av s.acts,pt b6 (bL [i64 a.1,str a.2] 75),mblk b (str m.from_) (str m.to_) (i64 m.size) hv av (.bool false) (.bool nm) (.map (some mb)) pv sv s.pc,sl false eE sv s.stack,pt mb (mapO (l5 s.vars f) c),pt b4 (bL [i64 o.op,i64 o.n,i64 o.tag,.bool o.oct,.slice sa sn sc,.slice ta tn tc,i64 o.at_] 45)]) (fun i=>s.acts.length - i) 0 ⟨x9 _,fun j x h _=>by omega⟩ aS Y (fun _ h=>h) ?_;intro i ⟨hi0,hi1⟩;refine zz6 ?_;refine aY 101 Y (fun h101=>?_) (fun h101=>?_)
   ·have hilt:i < s.acts.length:=by omega
    obtain⟨x,hx⟩:∃x,s.acts[i]?=some x:=⟨s.acts[i]'hilt,x4 hilt⟩;refine zz6 ?_;refine aA (aX (k:=dP) jU Y aL Y Y gDB) Y ?_;refine aA (fA (n:=0) (k:=dP) mK Y aL b0) Y (zz1 ?_);rintro _ K _ ⟨b8,rfl,rfl,rfl⟩ -;refine cD (cX mK Y Y Y bR gC1 (.cons (.cons .nil)) gC8) ?_;rintro _ K _ ⟨rfl,rfl⟩ -;refine zz8 ?_;refine bV 107 Y (fun g107=>?_) (fun g107=>?_)
    ·refine zz11 ?_;refine cA Y Y (mJ _ 10 o.at_ _) .nil Y gC6 ?_ ?_
     ·rintro _ _ _ ⟨fb,h,rfl⟩ le1;cases h
      refine uAa ?_;refine zz6 ?_;have hco:∃b∈s.acts,a.1=4∨b.1=4:=⟨x,x8 hx,by omega⟩;unfold MI;rw[hok];unfold actC;rw[x5 h93,x7 hco]
      exact⟨fb,Y,Y⟩
     rintro _ _ _ ⟨_,h,_⟩;cases h
    refine zz9 ?_;refine aY 111 Y (fun h111=>?_) (fun h111=>?_)
    ·refine zz4 ?_;refine cA Y Y (mJ _ 10 o.at_ _) .nil Y gC6 ?_ ?_
     ·rintro _ _ _ ⟨fb,h,rfl⟩ le1;cases h
      refine uAa ?_;refine zz6 ?_;have hco:∃b∈s.acts,a.1=4∨b.1=4:=⟨x,x8 hx,by omega⟩;unfold MI;rw[hok];unfold actC;rw[x5 h93,x7 hco]
      exact⟨fb,Y,Y⟩
     rintro _ _ _ ⟨_,h,_⟩;cases h
    refine zz7 ?_;refine aQ (aM cI (aM cI (aM cI (aM cI (aM cI (aM cI bF)))))) ?_;refine cM (i+1) ⟨by omega,fun j y hj hy=>?_⟩ aH aS Y cV
    rcases xAC j i with h|h
    ·exact hi1 j y h hy
    have e:j=i:=by omega
    subst e;rw[hx]at hy;cases hy;intro hh;omega
   have hnc:¬ ∃b∈s.acts,a.1=4∨b.1=4:=gEP;refine zz13 ?_;refine aA (bU (k:=dP) Y Tryz.underlying49 Y aL) Y (zz3 ?_);refine aY 123 Y (fun h123=>?_) (fun h123=>?_)
   ·refine zz4 ?_;refine cA Y Y (mJ _ 11 o.at_ _) .nil Y gC6 ?_ ?_
    ·rintro _ _ _ ⟨fb,h,rfl⟩ le1;cases h
     refine uAa ?_;refine zz2 ?_;unfold MI;rw[hok];unfold actC;rw[x5 h93,x5 hnc,x7 aH]
     exact⟨fb,Y,Y⟩
    rintro _ _ _ ⟨_,h,_⟩;cases h
   refine zz2 ?_;refine cZ (anc:=[0,0,2,6,14,30,0,64,254,511,1023,2047,4095]) (ord:=[0,1,2,3,4,5,6,7,8,9,10,11,12]) [7,8,12] [12] mixed gC5 (aM cI (aM cI bF)) (zz7 ?_);refine uK Y Y (.none Y) Y Y (bM (z0:=[.int .i64 0,(str [])]) jU aIV Y Y Y Y dF) Y ?_;rintro _ K _ ⟨b135,rfl,rfl,rfl⟩ -;refine⟨_,(show Tks _ _ _ from (aM cI (aM cI bF))).sat,?_⟩
   refine uK Y Y (.none Y) Y Y (dQ (k:=dP) (ys:=[a]) n3 Y Y (.there (.there (.there .here))) (fun w j=>dJ Tryz.underlying49 (SeesSl.at (k:=dP) (.blk aL Y Y) j)) gC7 gC9) Y ?_;rintro v136 K _ ⟨rfl,rfl,ho136⟩ -;refine⟨_,(show Tks _ _ _ from (aM cI (aM cI bF))).sat,?_⟩
   refine zz3 ?_;refine mT Y Y (.none Y) Y (bX lN Y Y dA bR aZe Y) ?_;rintro _ K _ ⟨rfl,rfl⟩ -;refine cL ?_
   first
    |(refine aQ (aM e7 (aM bW (aM cI (aM cI bF)))) ?_;refine cS (f9 (m:=m) (hv:=hv) (pv:=pv) (nm:=nm) (s:={s with keep:=false})) ?_)
    |(refine aQ (aM cI (aM cI (aM e7 (aM e7 bF)))) ?_;refine cS (f9 (m:=m) (hv:=hv) (pv:=pv) (nm:=nm) (s:={s with keep:=false,acts:=s.acts++[a]})) ?_)
   refine zz1 ?_;unfold MI;rw[hok];unfold actC
   first
    |exact gCN
    |exact gCD
  have hno:=aF8 (nm:=nm) (s:=s) (o:=o) aH;refine zz7 ?_;refine cA Y Y (tV _ _ _ _ _ _ _ _ _ _ _ _ _) bS Y gC6 ?_ ?_
  ·rintro _ _ _ ⟨fb,h,rfl⟩ le1;cases h
   refine uAa ?_;refine zz2 ?_;simp only[MI,hno,if_true,if_false,↓reduceIte];exact⟨fb,Y,Y⟩
  rintro _ _ _ ⟨_,h,_⟩;cases h
 have hno:=aF8 (nm:=nm) (s:=s) (o:=o) aH;refine zz14 ?_;refine cA Y Y (tV _ _ _ _ _ _ _ _ _ _ _ _ _) bS Y gC6 ?_ ?_
 ·rintro _ _ _ ⟨fb,h,rfl⟩ le1;cases h
  refine uAa ?_;refine zz2 ?_;simp only[MI,hno,if_true,if_false,↓reduceIte];exact⟨fb,Y,Y⟩
 rintro _ _ _ ⟨_,h,_⟩;cases h
end Go.Proofs
end
section
attribute [local irreducible] Go.SL.T Go.SL.OL Go.SL.D Go.SL.DL Go.SL.Ev Go.SL.Ef Go.SL.EfS
namespace Go.Proofs
open Go Go.SL Go.Syn Go.Mach
open R (Yl)
def zO:∀(As M:List Asn),Tks As (As++M) M
 | [],_=>.nil
 |_::As,M=>.cons .here (zO As M)
def lD(m:Msg)(name:aP)(i:Nat):List aP:=((m.hs.take i).filter fun h=>decide (eD h.1=name)).map (·.2)
def aMD(m:Msg)(name:aP){i:Nat}(h:m.hs.length≤i):lD m name i=iG m name:=by unfold lD iG;rw[xAI h]
def oD{m:Msg}{name:aP}{i:Nat}{x:aP×aP}(hx:m.hs[i]?=some x):lD m name (i+1)=if eD x.1=name then lD m name i++[x.2]else lD m name i:=by
 have hi:i < m.hs.length:=by
  rcases xAC i m.hs.length with h'|h'
  ·exact h'
  simp[List.getElem?_eq_none h']at hx
 have hc:m.hs[i]=x:=by simpa[List.getElem?_eq_getElem hi]using hx
 unfold lD;rw[xAN hi,hc,List.filter_append]
 by_cases h:eD x.1=name
 ·simp[h]
 simp[h]
def aME(m:Msg)(name:aP)(i:Nat):lD m name i<+:iG m name:=by
 unfold lD iG;refine List.IsPrefix.map _ (List.IsPrefix.filter _ (List.take_prefix _ _))
def aBZ(l bx by_ b mb:Nat)(m:Msg)(hv pv:Value)(nm:Bool)(s:MS)(name:aP)(K0:Hl)(L0:List Asn)(J Jx:List aP→Hl→List Asn→Prop)
  (hbx:K0 bx=some (bL [ptr b] 165)) (hy:K0 by_=some (bL [str name] 9)) (hh:Ksl hdEl K0 hv m.hs) (hln:m.hs.length≤1000000) (hs:∀h∈m.hs,h.1.length≤1000000)
  (hJ0:J [] K0 (mch b mb m hv pv nm s::L0))
  (hY:∀pre x K' L',K0.le K'→J pre K' L'→(pre++[x])<+:iG m name→Yl x3 l [str x] K' L' fun t K'' L''=>(t=true∧J (pre++[x]) K'' L'')∨(t=false∧Jx (pre++[x]) K'' L'')):
  Sp x3 225 [.func (.yield l) #[] #[],ptr bx,ptr by_] K0 (mch b mb m hv pv nm s::L0)
   (Ret fun v K' L'=>v=.tuple #[]∧K0.le K'∧(J (iG m name) K' L'∨∃pre,pre<+:iG m name∧Jx pre K' L')):=by
 refine bN Tryz.func225 Y Tryz.ntmps225 Y Y fun F w=>?_;refine wQ fun av sv f c=>?_;refine zz8 ?_;refine aA (bU (k:=hdEl) Y Tryz.underlying33 Y aL) Y (zz4 ?_);refine jJ (f9 (m:=m) (hv:=hv) (pv:=pv) (nm:=nm) (s:=s)) ?_;refine eH (fun(q:FI)=>q.i≤m.hs.length∧K0.le q.K∧J (lD m name q.i) q.K q.L) (fun q=>[(0,.func (.yield l) #[] #[]),(2,ptr by_),(11,hv),(12,i64 m.hs.length),(13,i64 q.i)]) (fun q=>q.K) (fun q=>q.L) (fun q=>m.hs.length - q.i) ⟨0,K0,mch b mb m hv pv nm s::L0⟩ ⟨x9 _,xAB _,hJ0⟩ aS Y (fun _ h=>h) ?_;intro ⟨i,K1,L1⟩ ⟨hi0,hle,hJ⟩;dsimp only at hi0 hle hJ ⊢;have hh1:=hh.mono hle;have hy1:=hle _ _ hy;refine zz6 ?_;refine aY 14 Y (fun h14=>?_) (fun h14=>?_)
 ·have hilt:i < m.hs.length:=by omega
  obtain⟨x,hx⟩:∃x,m.hs[i]?=some x:=⟨m.hs[i]'hilt,x4 hilt⟩;refine zz6 ?_;refine aA (aX (k:=hdEl) sR Y aL Y Y gDB) Y ?_;refine aA (fA (n:=0) (k:=hdEl) aUN Y aL b0) Y (zz1 ?_);rintro _ K _ ⟨b5,rfl,rfl,rfl⟩ -;refine cD (cX aUN Y Y Y bR gC1 (.cons (.cons .nil)) gC8) ?_;rintro _ K _ ⟨rfl,rfl⟩ -;refine zz3 ?_;refine cZ (anc:=[0,1,3,0,15,31,63,63,191,511,1023,2047]) (ord:=[0,1,3,2,4,5,6,7,8,9,10,11]) [2,9] [9] mixed gC5 (aM bW bF) (zz3 ?_);refine iL Y (.none Y) Y Y Y Y (kB _ _ (by have:=hs x (x8 hx);omega)) Y (zz2 ?_);refine fC 22 Y (fun g22=>?_) (fun g22=>?_)
  ·refine zz3 ?_;have hpre:lD m name i++[x.2]<+:iG m name:=(by have:=aME m name (i+1);rwa [oD hx,x7 g22]at this);refine R.dl_round Y (.on Y Y Y) Y Y Y (hY (lD m name i) x.2 _ _ hle hJ hpre) (jF _ _) Y ?_;rintro t K2 M2 hR le2;refine aJ Y Y (.on Y Y Y) Y Y gC3 Y (zz3 ?_);refine d9 28 Y (fun h28=>?_) (fun h28=>?_)
   ·refine zz5 ?_;refine aQ (by rw[xAL];exact zO M2 _) ?_;refine jZ Y (by first|exact x6 hle le2|exact hle) ?_;refine⟨_,Y,Y,x6 hle le2,.inr ⟨_,hpre,?_⟩⟩
    rcases hR with ⟨h,_⟩|⟨_,h⟩
    ·exfalso;subst h;simp at h28
    exact h
   refine zz7 ?_
   first
    |exact gBS
    |exact gB4
  refine zz16 ?_
  first
   |exact gBS
   |exact gB4
 refine zz4 ?_;refine dK Y (by first|exact x6 hle le2|exact hle) ?_;refine⟨_,Y,Y,hle,.inl ?_⟩
 have:=aMD m name (i:=i) aH;rw[←this];exact hJ
def aEP(b:Nat)(name:List UInt8)(K:Hl):Sp x3 193 [ptr b,str name] K []
  (Ret fun v K' L'=>∃bx by_,v=.func (.func 225) #[] #[ptr bx,ptr by_]∧K' bx=some (bL [ptr b] 165)∧K' by_=some (bL [str name] 9)∧L'=[]):=by
 refine bN Tryz.func193 Y Tryz.ntmps193 Y Y fun F w=>?_;refine zz3 ?_;rintro _ K _ ⟨b2,rfl,rfl,rfl⟩ -;refine zz1 ?_;rintro _ K _ ⟨b3,rfl,rfl,rfl⟩ -;refine zz10 ?_;refine fB fun K1 le1 hK1=>?_;refine fB fun K2 le2 hK2=>?_;refine bI Y Y (x6 le1 le2) ?_;exact⟨_,Y,b2,b3,Y,hK2,le2 _ _ hK1,Y⟩
def aAN(m:Msg)(name:aP):(iG m name).length≤m.hs.length:=by
 unfold iG;rw[xAS];exact List.length_filter_le _ _
attribute [local semireducible] Go.SL.T Go.SL.OL Go.SL.D Go.SL.DL Go.SL.Ev Go.SL.Ef Go.SL.EfS in
def aW4(bx by_ b mb:Nat)(m:Msg)(hv pv:Value)(nm:Bool)(s:MS)(name:aP)(sv:Value)(xs:List aP)(K0:Hl)
  (hbx:K0 bx=some (bL [ptr b] 165)) (hy:K0 by_=some (bL [str name] 9)) (hh:Ksl hdEl K0 hv m.hs) (hln:m.hs.length≤1000000) (hs:∀h∈m.hs,h.1.length≤1000000) (hxs:xs.length≤4000000000000):
  Sp x3 222 [sv,.func (.func 225) #[] #[ptr bx,ptr by_]] K0 [sl false (a7 9) sv xs,mch b mb m hv pv nm s]
   (Ret fun v K' L'=>L'=[sl false (a7 9) v (xs++iG m name),mch b mb m hv pv nm s]):=by
 refine aQU Tryz.func222 Y Tryz.ntmps222 Y Y fun F w=>?_;refine oU (fun h hs=>aE1 hs) ?_;rintro⟨sa,sn,sc,rfl⟩;refine aI (aC ?_);refine cJ (eZ Y Y) Y ?_;rintro _ K _ ⟨b2,rfl,rfl,rfl⟩ -;refine aA (aE Y) Y ?_;refine aG (aF ?_);refine aI (aI ?_);refine aC ?_;refine aA (aB Y) Y ?_;refine aG (aF ?_);refine bD ?_;refine aWK (RR:=fun r l d e K1 L1=>e=.returned (.tuple #[])∧r.state=.ready∧r.pending=none∧∃v,v.oneCell'=true∧L1=[mch b mb m hv pv nm s,pt l (.loop r),dblk d,pt b2 (bL [v] 43),sl false (a7 9) v (xs++iG m name)]) Y (cQ _) (fun r l d hr0 hr1 hr2 hr3 hr4 hsz hfr=>?_) (fun r l d e K1 L1 hR le=>?_)
 ·refine aD1 (M:=mch b mb m hv pv nm s::[pt l (.loop r),dblk d,pt b2 (bL [.slice sa sn sc] 43),sl false (a7 9) (.slice sa sn sc) xs]) (Tks.sat (N:=[]) (.cons (.there (.there (.there (.there .here)))) (.cons .here (.cons .here (.cons .here (.cons .here .nil)))))) ?_;refine(aBZ l bx by_ b mb m hv pv nm s name _ _ (fun pre K1 L1=>∃v,v.oneCell'=true∧L1=[mch b mb m hv pv nm s,pt l (.loop r),dblk d,pt b2 (bL [v] 43),sl false (a7 9) v (xs++pre)]) (fun _ _ _=>False) hbx hy hh hln hs ⟨.slice sa sn sc,Y,by rw[xAL]⟩ ?_).mono ?_
  ·rintro pre x K1 _ le1 ⟨v,hv1,rfl⟩ hpre;have hlen:(pre++[x]).length≤1000000:=xAV hpre.length_le (xAV (aAN m name) hln);simp only[List.length_append,List.length_singleton]at hlen;refine bHM (Tks.sat (N:=[]) (.cons (.there .here) (.cons .here (.cons .here (.cons .here (.cons .here .nil)))))) ?_;refine aW0 (bLV (n:=13) (fr1:=(5,str x)::(7,str x)::(6,.func (.func 225) #[] #[ptr bx,ptr by_])::(4,.slice none 0 0)::(2,ptr b2)::Fr.init 0 [.slice sa sn sc,.func (.func 225) #[] #[ptr bx,ptr by_]] 13) (R:=fun t K2 L2=>t=true∧∃v,v.oneCell'=true∧L2=[pt l (.loop r.on),mch b mb m hv pv nm s,dblk d,pt b2 (bL [v] 43),sl false (a7 9) v (xs++(pre++[x]))]) hr0 hr2 Y hsz hfr (fun F w Q hQ=>?_) (fun F w=>?_)) ?_
   ·rw[hr3];exact aLJ (bEL (aE Y) Y Y (bEM hQ))
   ·rw[hr4];refine aRE ?_;refine aLJ ?_
    refine bEL (aK eP Y (.own (.there (.there (.there .here)))) Y) Y Y ?_;refine bEL (aB Y) Y Y ?_;refine bON (bM (z0:=[(str [])]) cB tz9 Y Y Y Y (.cons Y Y Y (.cons .nil) .nil)) Y Y ?_;rintro _ K _ ⟨b10,rfl,rfl,rfl⟩ -;refine bON (dQ (k:=a7 9) (ys:=[x]) eI Y Y (.there (.there (.there (.there (.there .here))))) (fun w j=>dJ Tryz.underlying43 (SeesSl.at (.blk (.own .here) Y Y) j)) gC7 gC7) Y Y ?_;rintro v11 K _ ⟨rfl,rfl,ho11⟩ -;refine bOO (bX eP Y Y ho11 (.there (.there (.there (.there (.there .here))))) .zero Y) Y ?_;rintro _ K _ ⟨rfl,rfl⟩ -;refine bEM ?_;refine aN ?_;intro a w fo i;exact⟨_,[mch b mb m hv pv nm s,dblk d,pt b2 (bL [v11] 43),sl false (a7 9) v11 (xs++(pre++[x]))],(i.imp (Tks.sat (.cons (.there (.there .here)) (.cons (.there (.there .here)) (.cons (.there (.there .here)) (.cons (.there (.there .here)) (.cons .here .nil))))))).left.imp (fun h k=>by rw[←xA0];exact k),xAB _,Y,v11,ho11,Y⟩
   rintro t K2 _ ⟨rfl,v2,hv2,rfl⟩;rw[bOL hr0 hr1];exact⟨_,Tks.sat (N:=[]) (.cons (.there .here) (.cons .here (.cons .here (.cons .here (.cons .here .nil))))),.inl ⟨Y,v2,hv2,Y⟩⟩
  rintro e K1 L1 ⟨v,rfl,rfl,le,h|⟨_,_,h⟩⟩
  ·obtain⟨v,hv1,rfl⟩:=h;exact⟨Y,hr0,hr1,v,hv1,Y⟩
  exact h.elim
 obtain⟨rfl,hr0,hr1,v,hv1,rfl⟩:=hR;refine⟨_,r,[mch b mb m hv pv nm s,dblk d,pt b2 (bL [v] 43),sl false (a7 9) v (xs++iG m name)],Y,Tks.sat (N:=[]) (.cons (.there .here) (.cons .here (.cons .here (.cons .here (.cons .here .nil))))),by rw[hr0];simp,?_⟩
 rw[hr1]
 show D ⟨x3,13,[mrk d],w,F⟩ _ _ _ _ _
 refine aN (aF ?_);refine aI (aC ?_);refine aA (aK eP Y aL Y) Y ?_;refine aA (aE Y) Y ?_;refine aG (aF ?_);refine bK ?_;refine aQ (.cons (.there .here) (.cons (.there (.there .here)) (.cons .here .nil))) ?_;exact aLY [d] (L:=[sl false (a7 9) v (xs++iG m name),mch b mb m hv pv nm s]) Y Y (fun _ h=>h) le ⟨_,Y,Y⟩
end Go.Proofs
end
section
attribute [local irreducible] Go.SL.T Go.SL.OL Go.SL.D Go.SL.DL Go.SL.Ev Go.SL.Ef Go.SL.EfS
namespace Go.Proofs
open Go Go.SL Go.Syn Go.Mach
def yR(b mb:Nat)(m:Msg)(hv pv:Value)(nm:Bool)(s:MS)(lv:Value)(l:List (List UInt8))(K:Hl)(hg:Glob K)(hpv:Ksl (a7 9) K pv s.parts)(hlv:Ksl (a7 9) K lv l)(hl:l.length≤1000000)(hs:∀x∈l,x.length≤100000)(hsm:pW s.vars s.parts):
  Sp x3 189 [ptr b,lv] K [mch b mb m hv pv nm s] (Ret fun v K' L'=>K'=K∧L'=[sl false (a7 9) v (l.map (dH nm s.vars s.parts)),mch b mb m hv pv nm s]):=by
 refine aUG ⟨_,Tryz.func189,Y,Y⟩ fun av sv f c=>?_;refine aD1 (show Tks [_,_] _ _ from .cons .here (aM e7 bF)).sat (aNA (yE _ (bBT b mb _ _ _ _ _ _ pv sv s.pc nm s.vars f c s.parts lv l K hg hpv hlv hl hs hsm)) ?_)
 rintro e K' L' ⟨N,⟨v,rfl,rfl,rfl⟩,rfl⟩;exact⟨[_,mch b mb m hv pv nm s],[],fun h hh=>eR (fun h hh=>f9 (s:=s) h hh) ((show Tks [_,_,_,_,_] _ []from .cons .here (aM bW (aM cI (aM cI (aM bW bF))))).sat h hh),_,Y,Y,Y⟩
def mY{α β:Type}(g:α→List β){l:List α}{i:Nat}{x:α}(h:l[i]?=some x):(l.take (i+1)).flatMap g=(l.take i).flatMap g++g x:=by
 have hi:i < l.length:=by
  rcases xAC i l.length with h'|h'
  ·exact h'
  simp[List.getElem?_eq_none h']at h
 have hc:l[i]=x:=by simpa[List.getElem?_eq_getElem hi]using h
 rw[xAN hi,hc];simp
def xC{α β:Type}{g:α→List β}{n:Nat}(h:∀x,(g x).length≤n):∀l:List α,(l.flatMap g).length≤l.length*n
 | []=>by simp
 |x::l=>by simp only[List.flatMap_cons,List.length_append,List.length_cons,Nat.succ_mul];have:=xC h l;have:=h x;omega
def aVN(m:Msg)(n:aP):(jL m n).length≤1:=by unfold jL;split;simp;split <;> simp
def bKQ{ex:aP→aP}{m:Msg}{o:Ins}(h:o.op=8):jA ex m o=o.a.map ex:=by unfold jA;rw[x7 h]
def bKO{ex:aP→aP}{m:Msg}{o:Ins}(h:o.op=6):jA ex m o=(o.a.map ex).flatMap fun n=>iG m (eD n):=by unfold jA;rw[x5 aH,x7 h]
def bKP{ex:aP→aP}{m:Msg}{o:Ins}(h:o.op=7):jA ex m o=o.a.flatMap (jL m):=by unfold jA;rw[x5 aH,x5 aH,x7 h]
def aNV{ex:aP→aP}{m:Msg}{o:Ins}(h8:¬o.op=8)(h6:¬o.op=6)(h7:¬o.op=7):jA ex m o=[]:=by unfold jA;rw[x5 h8,x5 h6,x5 h7]
def aL2{m:Msg}{n:aP}(h:eD n=[102,114,111,109]):jL m n=[m.from_]:=by unfold jL;rw[x7 h]
def aL4{m:Msg}{n:aP}(h0:¬eD n=[102,114,111,109])(h:eD n=[116,111]):jL m n=[m.to_]:=by unfold jL;rw[x5 h0,x7 h]
def aL3{m:Msg}{n:aP}(h0:¬eD n=[102,114,111,109])(h:¬eD n=[116,111]):jL m n=[]:=by unfold jL;rw[x5 h0,x5 h]
structure MV where
 v:Value
 K:Hl
structure MW where
 i:Nat
 v:Value
 K:Hl
def aRK(b mb:Nat)(m:Msg)(hv pv:Value)(nm:Bool)(s:MS)(o:Ins)(av bv:Value)(K0:Hl)(hg:Glob K0)(hpv:Ksl (a7 9) K0 pv s.parts)(ha:Ksl (a7 9) K0 av o.a)(hb:Ksl (a7 9) K0 bv o.b)(hh:Ksl hdEl K0 hv m.hs)(hln:m.hs.length≤1000000)(hhs:∀h∈m.hs,h.1.length≤1000000)(hl:o.a.length≤1000000)(hs:∀x∈o.a,x.length≤100000)(hsm:pW s.vars s.parts):
  Sp x3 190 [ptr b,qA o av bv] K0 [mch b mb m hv pv nm s] (Ret fun v K' L'=>L'=[sl false (a7 9) v (jA (dH nm s.vars s.parts) m o),mch b mb m hv pv nm s]):=by
 obtain⟨sa,sn,sc,rfl⟩:=ha.isSlice;obtain⟨ta,tn,tc,rfl⟩:=hb.isSlice;refine bN Tryz.func190 Y Tryz.ntmps190 Y Y fun F w=>?_;refine zz3 ?_;rintro _ K _ ⟨b3,rfl,rfl,rfl⟩ -;refine zz8 ?_;refine dX (fun(q:MV)=>K.le q.K) (fun q=>[(5,q.v)]) (fun q=>q.K) (fun q=>[sl false (a7 9) q.v (jA (dH nm s.vars s.parts) m o),mch b mb m hv pv nm s]) ?_ ?_
 ·refine zz13 ?_;refine aY 12 Y (fun h12=>?_) (fun h12=>?_)
  ·refine zz5 ?_;refine bA Y Y (yR b mb m hv pv nm s _ o.a _ hg hpv ha hl hs hsm) (.cons (.there .here) .nil) Y ?_;rintro _ K _ ⟨rfl,rfl⟩ -;refine zz6 ?_;refine aQ (.cons .here (.cons .here .nil)) ?_;refine bI Y Y (by first|exact hle|exact xAB _) ?_;rw[←bKQ (ex:=dH nm s.vars s.parts) (m:=m) h12];exact⟨_,Y,Y⟩
  refine zz6 ?_;refine aY 18 Y (fun h18=>?_) (fun h18=>?_)
  ·refine zz5 ?_;refine bA Y Y (yR b mb m hv pv nm s _ o.a _ hg hpv ha hl hs hsm) (.cons (.there .here) .nil) Y ?_;rintro nv K _ ⟨rfl,rfl⟩ -;have hnl:∀x∈o.a.map (dH nm s.vars s.parts),x.length≤100000:=gGE;have hnn:(o.a.map (dH nm s.vars s.parts)).length≤1000000:=(by simpa using hl)
   generalize hnames:o.a.map (dH nm s.vars s.parts)=names at*
   refine uAc ?_;refine zz4 ?_;refine mV (.cons .here (.cons .here .nil)) ?_;refine eH (fun(q:MW)=>q.i≤names.length∧K.le q.K) (fun q=>[(0,ptr b),(5,q.v),(23,nv),(24,i64 names.length),(25,i64 q.i)]) (fun q=>q.K) (fun q=>[sl false (a7 9) q.v ((names.take q.i).flatMap fun n=>iG m (eD n)),sl false (a7 9) nv names,mch b mb m hv pv nm s]) (fun q=>names.length - q.i) ⟨0,.slice none 0 0,K⟩ ⟨x9 _,xAB _⟩ (.cons 0 Y (.cons 5 Y (.cons 23 Y (.cons 24 Y (.cons 25 Y .nil))))) Y (eL (a7 9)) ?_;intro ⟨i,v,K1⟩ ⟨hi0,hle⟩;dsimp only at hi0 hle ⊢;have hh1:=hh.mono hle;have hfl:((names.take i).flatMap fun n=>iG m (eD n)).length≤1000000*1000000:=xAV (xC (n:=1000000) (fun x=>xAV (aAN m _) hln) _) (xAW _ gEW);refine zz6 ?_;refine aY 26 Y (fun h26=>?_) (fun h26=>?_)
   ·have hilt:i < names.length:=by omega
    obtain⟨x,hx⟩:∃x,names[i]?=some x:=⟨names[i]'hilt,x4 hilt⟩;refine zz6 ?_;refine aA (aX (k:=(a7 9)) cB Y aL Y Y gDB) Y ?_;refine uAg ?_;refine zz7 ?_;refine cN Y Y (kB _ _ (by have:=hnl x (x8 hx);omega)) Y ?_;refine bA Y Y (aEP b (eD x) _) .nil Y ?_;rintro _ K2 _ ⟨bx,bY,rfl,hbx,hbY,rfl⟩ le2;refine bA Y Y (aW4 bx bY b mb m hv pv nm s (eD x) _ _ _ hbx hbY (hh1.mono le2) hln hhs aH) (.cons .here (.cons (.there .here) .nil)) Y ?_;rintro v34 K3 _ rfl le3;refine zz8 ?_;refine aQ (.cons .here (.cons (.there .here) (.cons .here .nil))) ?_;refine cM ⟨i+1,_,_⟩ ⟨by (show i+1≤names.length);omega,x6 hle (x6 le2 le3)⟩ (by (show names.length - (i+1) < names.length - i);omega) (.cons 0 Y (.cons 5 Y (.cons 23 Y (.cons 24 Y (.cons 25 Y .nil))))) Y ?_;dsimp only;rw[mY _ hx];exact fun _ h=>h
   have hfin:((names.take i).flatMap fun n=>iG m (eD n))=jA (dH nm s.vars s.parts) m o:=(by rw[xAI aH,bKO h18,hnames]);refine zz5 ?_
   first
    |exact gBY
    |exact gBF
    |exact gBV
  refine zz6 ?_;refine aY 36 Y (fun h36=>?_) (fun h36=>?_)
  ·refine zz4 ?_;refine uAc ?_;refine zz4 ?_;refine eH (fun(q:Nat×Value)=>q.1≤o.a.length) (fun q=>[(0,ptr b),(5,q.2),(39,.slice sa sn sc),(40,i64 o.a.length),(41,i64 q.1)]) (fun _=>K) (fun q=>[mch b mb m hv pv nm s,sl false (a7 9) q.2 ((o.a.take q.1).flatMap (jL m)),pt b3 (bL [i64 o.op,i64 o.n,i64 o.tag,.bool o.oct,.slice sa sn sc,.slice ta tn tc,i64 o.at_] 45)]) (fun q=>o.a.length - q.1) ⟨0,.slice none 0 0⟩ (x9 _) (.cons 0 Y (.cons 5 Y (.cons 39 Y (.cons 40 Y (.cons 41 Y .nil))))) Y (fun h hh=>iM (eL (a7 9) h (iM hh))) ?_;intro ⟨i,v⟩ hi0;dsimp only at hi0 ⊢;refine wQ fun av sv f c=>?_;have hfl:((o.a.take i).flatMap (jL m)).length≤1000000*1:=xAV (xC (n:=1) (aVN m) _) (xAW _ gEW);refine zz6 ?_;refine aY 42 Y (fun h42=>?_) (fun h42=>?_)
   ·have hilt:i < o.a.length:=by omega
    obtain⟨x,hx⟩:∃x,o.a[i]?=some x:=⟨o.a[i]'hilt,x4 hilt⟩;refine zz6 ?_;refine aA (aX (k:=(a7 9)) cB Y aL Y Y gDB) Y ?_;refine uAg ?_;refine zz6 ?_;refine cN Y Y (kB _ _ (by have:=hs x (x8 hx);omega)) Y (zz9 ?_);refine aY 47 Y (fun h47=>?_) (fun h47=>?_)
    ·refine zz8 ?_;refine cJ (bM (z0:=[(str [])]) cB tz9 Y Y Y Y (.cons Y Y Y (.cons .nil) .nil)) Y ?_;rintro _ K _ ⟨b56,rfl,rfl,rfl⟩ -;refine cJ (dQ (k:=(a7 9)) (ys:=[m.from_]) eI Y Y (.there (.there (.there (.there (.there .here))))) (fun w j=>dJ Tryz.underlying43 (SeesSl.at (k:=a7 9) (.blk (.own .here) Y Y) j)) gEJ gEJ) Y ?_;rintro v57 K _ ⟨rfl,rfl,ho57⟩ -;refine zz9 ?_
     first
      |exact gAY
      |exact gAX
      |exact gBA
    refine zz6 ?_;refine aY 58 Y (fun h58=>?_) (fun h58=>?_)
    ·refine zz8 ?_;refine cJ (bM (z0:=[(str [])]) cB tz9 Y Y Y Y (.cons Y Y Y (.cons .nil) .nil)) Y ?_;rintro _ K _ ⟨b67,rfl,rfl,rfl⟩ -;refine cJ (dQ (k:=(a7 9)) (ys:=[m.to_]) eI Y Y (.there (.there (.there (.there (.there .here))))) (fun w j=>dJ Tryz.underlying43 (SeesSl.at (k:=a7 9) (.blk (.own .here) Y Y) j)) gEJ gEJ) Y ?_;rintro v68 K _ ⟨rfl,rfl,ho68⟩ -;refine zz9 ?_
     first
      |exact gAY
      |exact gAX
      |exact gBA
    refine zz8 ?_
    first
     |exact gAY
     |exact gAX
     |exact gBA
   have hfin:((o.a.take i).flatMap (jL m))=jA (dH nm s.vars s.parts) m o:=(by rw[xAI aH,bKP h36]);refine zz5 ?_
   first
    |exact gBY
    |exact gBF
    |exact gBV
  refine zz2 ?_
  first
   |exact gBY
   |exact gBF
   |exact gBV
 intro ⟨v,K1⟩ hle;dsimp only at hle ⊢;refine zz7 ?_;refine bI Y Y (by first|exact hle|exact xAB _) ?_;exact⟨_,Y,Y⟩
end Go.Proofs
end
section
attribute [local irreducible] Go.SL.T Go.SL.OL Go.SL.D Go.SL.DL Go.SL.Ev Go.SL.Ef Go.SL.EfS
namespace Go.Proofs
open Go Go.SL Go.Syn Go.Mach
open R (Yl)
attribute [local semireducible] Go.SL.T Go.SL.OL Go.SL.D Go.SL.DL Go.SL.Ev Go.SL.Ef Go.SL.EfS in
def bCI{E:Env}{x:Exit}{fr:Fr}{K:Hl}{L:List Asn}{A:Asn}{Q:Post}(h:D E x fr K L Q):D E x fr K (A::L) Q:=fun a w f i=>h a w f i.drop
def aX1{m:Msg}{l:List aP}{x:aP}(hx:x∈l)(h:iG m (eD x)=[]):mE m l=false:=by
 unfold mE;rw[List.all_eq_false];exact⟨x,hx,by simp[h]⟩
def aSQ{m:Msg}{l:List aP}(h:∀x∈l,iG m (eD x)≠[]):mE m l=true:=by
 unfold mE;rw[xBN];exact fun x hx=>by simpa using h x hx
attribute [local semireducible] Go.SL.T Go.SL.OL Go.SL.D Go.SL.DL Go.SL.Ev Go.SL.Ef Go.SL.EfS in
def aMB(b mb:Nat)(m:Msg)(hv pv:Value)(nm:Bool)(s:MS)(lv:Value)(l:List aP)(K0:Hl)(hg:Glob K0)(hpv:Ksl (a7 9) K0 pv s.parts)(hlv:Ksl (a7 9) K0 lv l)(hh:Ksl hdEl K0 hv m.hs)(hln:m.hs.length≤1000000)(hhs:∀h∈m.hs,h.1.length≤1000000)(hl:l.length≤1000000)(hs:∀x∈l,x.length≤100000)(hsm:pW s.vars s.parts):
  Sp x3 131 [ptr b,lv] K0 [mch b mb m hv pv nm s] (Ret fun v K' L'=>v=.bool (mE m (l.map (dH nm s.vars s.parts)))∧L'=[mch b mb m hv pv nm s]):=by
 have hnl:∀x∈l.map (dH nm s.vars s.parts),x.length≤100000:=gGE;have hnn:(l.map (dH nm s.vars s.parts)).length≤1000000:=by simpa using hl
 have hall:=yR b mb m hv pv nm s lv l K0 hg hpv hlv hl hs hsm
 generalize l.map (dH nm s.vars s.parts)=names at*
 refine aQU Tryz.func131 Y Tryz.ntmps131 Y Y fun F w=>?_;refine aI (aC ?_);refine aA (aE Y) Y ?_;refine aG (aF ?_);refine aNG ?_;refine aI ?_;refine bJ1 ?_;refine aF (aI ?_);refine aI (aC ?_);refine aA (aB Y) Y ?_;refine aA (aB Y) Y ?_;refine bA Y Y hall (.cons .here .nil) Y ?_;rintro nv K _ ⟨rfl,rfl⟩ -;refine uAc ?_;refine aA (aB Y) Y ?_;refine aG (aF ?_);refine bD ?_;refine bJ2 (fun(q:XI)=>q.i≤names.length∧K.le q.K∧∀y∈names.take q.i,iG m (eD y)≠[]) (fun q=>q.ds.map mrk) (fun q=>[(0,ptr b),(9,nv),(10,i64 names.length),(11,i64 q.i)]) (fun q=>q.K) (fun q=>sl false (a7 9) nv names::mch b mb m hv pv nm s::q.ds.map dblk) (fun q=>names.length - q.i) ⟨0,[],K⟩ ⟨x9 _,xAB _,by simp⟩ Y (.cons 0 Y (.cons 9 Y (.cons 10 Y (.cons 11 Y .nil)))) Y (fun _ h=>h) ?_;intro ⟨i,ds,K1⟩ ⟨hi0,hle,hall⟩;dsimp only at hi0 hle hall ⊢;have hh1:=hh.mono hle;refine aI (aC ?_);refine aA (cU Y Y) Y ?_;refine aG (aF ?_);refine aI ?_;refine aY 12 Y (fun h12=>?_) (fun h12=>?_)
 ·have hilt:i < names.length:=by omega
  obtain⟨x,hx⟩:∃x,names[i]?=some x:=⟨names[i]'hilt,x4 hilt⟩;refine aW ?_;refine aF (aI ?_);refine bD (aI ?_);refine aC ?_;refine aA (aX (k:=(a7 9)) cB Y aL Y Y gDB) Y ?_;refine uAg ?_;refine aA (aE Y) Y ?_;refine aG (aF ?_);refine aI (aI ?_);refine aC ?_;refine aA (aB Y) Y ?_;refine aA (aB Y) Y ?_;refine cN Y Y (kB _ _ (by have:=hnl x (x8 hx);omega)) Y ?_;refine bA Y Y (aEP b (eD x) _) .nil Y ?_;rintro _ K2 _ ⟨bx,bY,rfl,hbx,hbY,rfl⟩ le2;refine aG (aF ?_);refine bD ?_;refine aWK (RR:=fun r l d e K4 L4=>e=.returned (.tuple #[])∧((iG m (eD x)=[]∧r.state=.ready∧r.pending=none∧L4=mch b mb m hv pv nm s::pt l (.loop r)::dblk d::sl false (a7 9) nv names::ds.map dblk)∨(iG m (eD x)≠[]∧L4=pt l (.loop (r.off (.exit 1)))::mch b mb m hv pv nm s::dblk d::sl false (a7 9) nv names::ds.map dblk))) Y (cQ _) (fun r l d hr0 hr1 hr2 hr3 hr4 hsz hfr=>?_) (fun r l d e K3 L3 hR le3=>?_)
  ·refine aD1 (M:=mch b mb m hv pv nm s::pt l (.loop r)::dblk d::sl false (a7 9) nv names::ds.map dblk) (Tks.sat (As:=[_,_,_,_]) (.cons (.there (.there (.there .here))) (.cons .here (.cons .here (.cons .here .nil))))) ?_;refine(aBZ l bx bY b mb m hv pv nm s (eD x) _ _ (fun pre K4 L4=>pre=[]∧L4=mch b mb m hv pv nm s::pt l (.loop r)::dblk d::sl false (a7 9) nv names::ds.map dblk) (fun pre K4 L4=>pre≠[]∧L4=pt l (.loop (r.off (.exit 1)))::mch b mb m hv pv nm s::dblk d::sl false (a7 9) nv names::ds.map dblk) hbx hbY (hh1.mono le2) hln hhs ⟨Y,Y⟩ ?_).mono ?_
   ·rintro pre x1 K4 _ le4 ⟨rfl,rfl⟩ hpre;refine bHM (Tks.sat (As:=[_,_]) (.cons (.there .here) (.cons .here .nil))) ?_;refine aW0 (bLV (n:=21) (fr1:=[]) (R:=fun t K5 L5=>t=false∧L5=pt l (.loop (r.off (.exit 1)))::mch b mb m hv pv nm s::dblk d::sl false (a7 9) nv names::ds.map dblk) hr0 hr2 Y hsz hfr (fun F w Q hQ=>?_) (fun F w=>?_)) ?_
    ·rw[hr3];exact fun a w f i=>bKG hQ a w (f.keep .nil) i
    ·rw[hr4];refine aRE ?_;refine bKF ?_;refine gK Y ?_
     intro a w fo i;exact⟨_,_,i,xAB _,Y,Y⟩
    rintro t K5 _ ⟨rfl,rfl⟩;exact⟨_,fun _ h=>h,.inr ⟨Y,by simp,rfl⟩⟩
   rintro e K4 L4 ⟨v,rfl,rfl,le,h|⟨pre,h1,h2,h3⟩⟩
   ·exact⟨Y,.inl ⟨h.1,hr0,hr1,h.2⟩⟩
   exact⟨Y,.inr ⟨fun e=>h2 (by rw[e]at h1;exact List.prefix_nil.1 h1),h3⟩⟩
  obtain⟨rfl,hR⟩:=hR;rcases hR with ⟨hne,hr0,hr1,rfl⟩|⟨hne,rfl⟩
  ·refine⟨_,r,mch b mb m hv pv nm s::dblk d::sl false (a7 9) nv names::ds.map dblk,Y,fun h=>iM,by rw[hr0];simp,?_⟩
   rw[hr1,xAL]
   show D ⟨x3,21,mrk d::ds.map mrk,w,F⟩ _ _ _ _ _
   refine aN (aF ?_);refine aI (aC ?_);refine aA (aE Y) Y ?_;refine aG (aF ?_);refine bK ?_;refine aZ ?_;refine aU ?_;refine aU ?_;refine aZ ?_;refine aU ?_;refine qX ?_;refine cS (Tks.sat (As:=[_,_]) (.cons (.there (.there .here)) (.cons .here .nil))) ?_;refine bCI ?_;exact aLY (d::ds) (L:=[mch b mb m hv pv nm s]) Y Y (fun _ h=>aCN (A:=[_]) h) (x6 hle (x6 le2 le3)) ⟨_,Y,by rw[aX1 (x8 hx) hne],rfl⟩
  refine⟨_,r.off (.exit 1),mch b mb m hv pv nm s::dblk d::sl false (a7 9) nv names::ds.map dblk,Y,fun h k=>k,by simp,?_⟩
  rw[xAL]
  show T ⟨x3,21,mrk d::ds.map mrk,w,F⟩ (.exit 1) _ _ _ _
  refine cR ?_;refine gK Y ?_;refine aR ?_;refine bE ?_;refine aF (aC ?_);refine aA (bT Y Y aH aH) Y ?_;refine aA (aB Y) Y ?_;refine aG ?_;exact bCN ⟨i+1,d::ds,_⟩ ⟨by (show i+1≤names.length);omega,x6 hle (x6 le2 le3),take_all_succ hall hx hne⟩ (by (show names.length - (i+1) < names.length - i);omega) Y (.cons 0 Y (.cons 9 Y (.cons 10 Y (.cons 11 Y .nil)))) Y (Tks.sat (As:=[_,_]) (.cons (.there (.there .here)) (.cons .here .nil)))
 refine cR ?_;refine aR ?_;refine aR ?_;refine bE ?_;refine aF (aI ?_);refine aC ?_;refine aA (aE Y) Y ?_;refine aG (aF ?_);refine bK ?_;refine qX ?_;refine bCI ?_;exact aLY ds (L:=[mch b mb m hv pv nm s]) Y Y (fun _ h=>aCN (A:=[_]) h) hle ⟨_,Y,by rw[aSQ (by rw[xAI aH]at hall;exact hall)],rfl⟩
def bCX(b mb:Nat)(m:Msg)(hv pv:Value)(nm:Bool)(s:MS)(o:Ins)(av bv:Value)(n:Int)(K0:Hl)(hg:Glob K0)(hpv:Ksl (a7 9) K0 pv s.parts)(ha:Ksl (a7 9) K0 av o.a)(hb:Ksl (a7 9) K0 bv o.b)(hh:Ksl hdEl K0 hv m.hs)(hln:m.hs.length≤1000000)(hhs:∀h∈m.hs,h.1.length≤1000000)(hl:o.a.length≤1000000)(hs:∀x∈o.a,x.length≤100000)(hsm:pW s.vars s.parts):
  Sp x3 130 [ptr b,qA o av bv,i64 n] K0 [mch b mb m hv pv nm s] (MI b mb m hv nm (push s (mE m (o.a.map (dH nm s.vars s.parts))))):=by
 obtain⟨sa,sn,sc,rfl⟩:=ha.isSlice;obtain⟨ta,tn,tc,rfl⟩:=hb.isSlice;refine bN Tryz.func130 Y Tryz.ntmps130 Y Y fun F w=>?_;refine zz3 ?_;rintro _ K _ ⟨b4,rfl,rfl,rfl⟩ -;refine zz7 ?_;refine bA Y Y (aMB b mb m hv pv nm s _ o.a _ hg hpv ha hh hln hhs hl hs hsm) bS Y ?_;rintro _ K2 _ ⟨rfl,rfl⟩ le2;have hpv2:=hpv.mono le2;refine cA Y Y (oQ b mb m hv pv nm s (mE m (o.a.map (dH nm s.vars s.parts))) _) bS Y (fun _ _=>cF _ _) ?_ ?_
 ·rintro _ _ _ hTr le1;obtain⟨e,p,hq,fb,h,rfl⟩:=cG hTr;cases h
  refine uAa ?_;refine cK (x6 le2 le1) ?_;unfold MI;rw[hq];exact⟨fb,Y,Y⟩
 rintro _ K _ hTr -;obtain⟨q,hq,rfl,rfl,rfl⟩:=cH hTr;clear hTr;have hqp:=iP hq;refine aG ?_;refine uAa ?_;refine dK Y le2 ?_;unfold MI;rw[hq];exact⟨_,Y,Y,pv,by rw[hqp];exact hpv2,Y⟩
end Go.Proofs
end
section
namespace Go.Mach
open Go.Syn
def aB1{α:Type}{f g:Nat→Option α}(h:∀e,f e=g e):∀n e,kS f n e=kS g n e:=by
 intro n;induction n with
 |zero=>intro e;rfl
 |succ n ih=>intro e;simp only[kS,h,ih]
def aX7(w v k:aP):∀(f f' i j:Nat),k.length+1 - j≤f→k.length+1 - j≤f'→j≤k.length+1→iY w v k f i j=iY w v k f' i j∨k.length < j:=by
 intro f;induction f with
 |zero=>intro f' i j h1 h2 h3;right;omega
 |succ f ih=>
  intro f' i j h1 h2 h3;rcases xAC k.length j with hj|hj
  ·exact .inr hj
  cases f' with
  |zero=>right;omega
  |succ f'=>
   left
   have e1:∀i',j+1≤k.length→iY w v k f i' (j+1)=iY w v k f' i' (j+1):=fun i' hh=>by
    rcases ih f' i' (j+1) aH aH aH with h|h
    ·exact h
    omega
   have e2:∀i',j+2≤k.length→iY w v k f i' (j+2)=iY w v k f' i' (j+2):=fun i' hh=>by
    rcases ih f' i' (j+2) aH aH aH with h|h
    ·exact h
    omega
   unfold iY;cases hk:k[j]? with
   |none=>rfl
   |some c=>
    have hjl:j < k.length:=by
     rcases xAC j k.length with h'|h'
     ·exact h'
     simp[List.getElem?_eq_none h']at hk
    simp only[];split
    ·exact aB1 (fun e=>by rw[e1 e aH]) _ _
    cases v[i]? with
    |none=>rfl
    |some x=>
     simp only[];split
     ·rw[e1 _ aH]
     split
     ·rename_i d hd;split
      ·split at hd
       ·have:j+1 < k.length:=by
         rcases xAC (j+1) k.length with h'|h'
         ·exact h'
         simp[List.getElem?_eq_none h']at hd
        rw[e2 _ aH]
       cases hd
      rfl
     split
     ·rw[e1 _ aH]
     rfl
def gl(w v k:aP)(i j:Nat):Option (List aP):=iY w v k (k.length+1 - j) i j
variable{w v k:aP}{i j:Nat}{c d x:UInt8}
def sX(h:j=k.length):gl w v k i j=if i=v.length then some []else none:=by
 unfold gl;subst h
 rw[show k.length+1 - k.length=0+1 from by omega];unfold iY;rw[xAD (xAA _)]
def aB4(h:j < k.length):gl w v k i j=iY w v k ((k.length - (j+1)+1)+1) i j:=by
 unfold gl;congr 1;omega
def bIH(hc:k[j]?=some c)(h:j < k.length)(h42:c.toNat=42):gl w v k i j=kS (fun e=>(gl w v k e (j+1)).map fun ps=>((w.take e).drop i)::ps) (v.length+1 - i) i:=by
 rw[aB4 h];unfold iY;simp only[hc];rw[x7 h42]
 refine aB1 (fun e=>?_) _ _
 unfold gl;congr 2;omega
def pA(hc:k[j]?=some c)(h:j < k.length)(h42:¬c.toNat=42)(hi:v.length≤i):gl w v k i j=none:=by
 rw[aB4 h];unfold iY;simp only[hc];rw[x5 h42,xAD hi]
def aGY(hc:k[j]?=some c)(h:j < k.length)(hx:v[i]?=some x)(h63:c.toNat=63):gl w v k i j=(gl w v k (i+1) (j+1)).map fun ps=>((w.take (i+1)).drop i)::ps:=by
 rw[aB4 h];unfold iY;simp only[hc,hx];rw[x5 aH,x7 h63]
 unfold gl;congr 2;omega
def lL(hc:k[j]?=some c)(h:j+1 < k.length)(hx:v[i]?=some x)(h92:c.toNat=92)(hd:k[j+1]?=some d):gl w v k i j=if x=d then gl w v k (i+1) (j+2)else none:=by
 rw[aB4 aH];unfold iY;simp only[hc,hx];rw[x5 aH,x5 aH,x7 h92,hd]
 simp only[];split
 ·unfold gl;rcases aX7 w v k (k.length - (j+1)+1) (k.length+1 - (j+2)) (i+1) (j+2) aH aH aH with h'|h'
  ·exact h'
  omega
 rfl
def lM(hc:k[j]?=some c)(h:j < k.length)(hx:v[i]?=some x)(h42:¬c.toNat=42)(h63:¬c.toNat=63)(h92:¬(c.toNat=92∧j+1 < k.length)):gl w v k i j=if x=c then gl w v k (i+1) (j+1)else none:=by
 rw[aB4 h];unfold iY;simp only[hc,hx];rw[x5 h42,x5 h63]
 have e:(if c.toNat=92 then k[j+1]? else none)=none:=by
  split
  ·exact xAD aH
  rfl
 rw[e];simp only[];split
 ·unfold gl;congr 1;omega
 rfl
end Go.Mach
end

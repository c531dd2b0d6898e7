/-
  What the proof stands on, part 4: the logic of walks, the walks through the functions, the plain laws. Conditions: as each theorem says. (Merged and shortened by a program.)
-/
import Derived.Scope
import Derived.Lib.OthersKept
import Derived.Test.YthopmddkpdehiabGreatDoorK3
set_option linter.unusedVariables false
set_option linter.unusedSimpArgs false
set_option linter.defProp false
set_option maxRecDepth 4000
set_option maxHeartbeats 1000000
section
attribute [local irreducible] Go.SL.T Go.SL.OL Go.SL.D Go.SL.DL Go.SL.Ev Go.SL.Ef Go.SL.EfS
namespace Go.Proofs
open Go Go.SL Go.Syn
def RT(s:List UInt8)(b:Nat)(rest:List Value)(r:Res (Tree×St)):Ending→Hl→List Asn→Prop:=kH r fun r v K' L'=>Rep1 K' r.1 v∧L'=[psb b s r.2 rest]
def aP4(K:Hl)(k:Int)(a:List UInt8)(p:Int):Rep1 K (.act k a p) (.iface 258 (.agg #[i64 k,str a,i64 p])):=⟨_,_,rfl,rfl⟩
def aHW(K:Hl)(op:Int):Rep1 K (.plain op) (.iface 261 (.agg #[i64 op])):=⟨_,_,rfl,rfl⟩
def bJY(at_:Int)(K:Hl):Sp x3 149 [i64 at_] K [] (Val (.iface 258 (.agg #[i64 1,str [],i64 at_])) K):=by
 refine bN Tryz.func149 Y Tryz.ntmps149 Y Y fun F w=>?_;refine zz8 ?_;refine aA (dG bK9 bGT dF) Y ?_;refine aA (fE Tryz.underlying258 (fun _ h=>by cases h) Y) Y (zz5 ?_);exact⟨Y,Y,Y⟩
def bJZ(at_:Int)(K:Hl):Sp x3 150 [i64 at_] K [] (Val (.iface 261 (.agg #[i64 13])) K):=by
 refine bN Tryz.func150 Y Tryz.ntmps150 Y Y fun F w=>?_;refine zz7 ?_;refine aA (dG bLA bGU dF) Y ?_;refine aA (fE Tryz.underlying261 (fun _ h=>by cases h) Y) Y (zz5 ?_);exact⟨Y,Y,Y⟩
def bJ0(at_:Int)(K:Hl):Sp x3 151 [i64 at_] K [] (Val (.iface 261 (.agg #[i64 14])) K):=by
 refine bN Tryz.func151 Y Tryz.ntmps151 Y Y fun F w=>?_;refine zz7 ?_;refine aA (dG bLA bGU dF) Y ?_;refine aA (fE Tryz.underlying261 (fun _ h=>by cases h) Y) Y (zz5 ?_);exact⟨Y,Y,Y⟩
def wJ(b:Nat)(s:List UInt8)(st:St)(at_ dp:Int)(rest:List Value)(b1:Nat)(fn:FuncId)(v:Value)(c:Tree)(K:Hl)(hs:s.length≤600)(hok:Ok s st)(hg:Glob K)
  (h1:K b1=some (bL [.func (.func fn) #[] #[]] 259)) (hfn:∀K,Sp x3 fn [i64 at_] K [] (Val v K)) (hc:∀K,Rep1 K c v):
  Sp x3 207 [ptr b,i64 at_,i64 dp,ptr b1] K [psb b s st rest] (RT s b rest (lJ s c st)):=by
 have ha:=hok.1;refine bN Tryz.func207 Y Tryz.ntmps207 Y Y fun F w=>?_;refine zz10 ?_;refine cA Y Y (fN b 213 s st.1 _ _ _ _ rest hs ha _ hg) bS Y (fun _ _=>cF _ _) ?_ ?_
 ·rintro _ _ _ hTr le1;obtain⟨e,p,hr,fb,h,rfl⟩:=cG hTr;cases h
  refine uAa ?_;refine zz2 ?_;simp only[RT,lJ,hr,if_true,if_false,↓reduceIte];exact⟨fb,Y,Y⟩
 rintro _ K _ hTr -;obtain⟨r,hr,rfl,rfl,rfl⟩:=cH hTr;clear hTr;have hro:=fX ha hr;refine zz5 ?_;refine cA Y Y (nF b s r rest [59] _ hs hro.1 hg) bS Y (fun _ _=>cF _ _) ?_ ?_
 ·rintro _ _ _ hTr le1;obtain⟨e,p,hq,fb,h,rfl⟩:=cG hTr;cases h
  refine uAa ?_;refine zz2 ?_;simp only[RT,lJ,hr,hq,if_true,if_false,↓reduceIte];exact⟨fb,Y,Y⟩
 rintro _ K _ hTr -;obtain⟨q,hq,rfl,rfl,rfl⟩:=cH hTr;clear hTr;refine zz6 ?_;refine cN Y Y (hfn _) Y (zz4 ?_);refine uAa ?_;refine zz1 ?_;simp only[RT,lJ,hr,hq,if_true,if_false,↓reduceIte];exact⟨_,Y,hc _,Y⟩
def vP(b:Nat)(s:List UInt8)(st:St)(at_ dp:Int)(nv:Value)(rest:List Value)(needs:List (List UInt8))(b1 b2:Nat)(kd:Int)(ext:List UInt8)(K:Hl)(hs:s.length≤600)(hok:Ok s st)(hg:Glob K)(hv:Ksl (a7 9) K nv needs)(hn:needs.length≤1000000)
  (h1:K b1=some (bL [str ext] 9)) (h2:K b2=some (bL [i64 kd] 3)):
  Sp x3 208 [ptr b,i64 at_,i64 dp,ptr b1,ptr b2] K [psb b s st (nv::rest)] (RT s b (nv::rest) (actC s needs kd ext at_ st)):=by
 have ha:=hok.1;refine bN Tryz.func208 Y Tryz.ntmps208 Y Y fun F w=>?_;refine zz5 ?_;refine dX (fun(_:Unit)=>¬(ext≠[]∧ext∉needs)) (fun _=>[(0,ptr b),(1,i64 at_),(4,ptr b2)]) (fun _=>K) (fun _=>[psb b s st (nv::rest)]) ?_ ?_
 ·refine zz2 ?_;refine aA (aK ts9 Y (.known h1) Y) Y (zz3 ?_);refine aY 11 Y (fun h11=>?_) (fun h11=>?_)
  ·refine zz2 ?_;refine aA (aK ts9 Y (.known h1) Y) Y ?_;refine cA Y Y (aA1 b s st nv rest needs ext _ hv hn) bS Y (fun _ _=>cF _ _) ?_ ?_
   ·rintro _ _ _ hTr le1;obtain⟨e,p,hu,fb,h,rfl⟩:=cG hTr;cases h
    refine uAa ?_;refine zz2 ?_;have hm:¬ext∈needs:=gD9;rw[x5 hm]at hu;cases hu
    unfold RT actC;rw[x7 ⟨h11,hm⟩];exact⟨fb,Y,Y⟩
   rintro _ K _ hTr -;obtain⟨u0,hu,rfl,rfl,rfl⟩:=cH hTr;clear hTr;have hm:ext∈needs:=xAZ (fun h=>by rw[x5 h]at hu;cases hu);have hne:¬(ext≠[]∧ext∉needs):=fun h=>h.2 hm
   refine aG ?_;exact a8 () hne aS Y (fun _ h=>h)
  have hne:¬(ext≠[]∧ext∉needs):=fun h=>h11 h.1
  refine aW ?_;exact a8 () hne aS Y (fun _ h=>h)
 intro _ hne;refine zz5 ?_;refine cA Y Y (fN b 213 s st.1 _ _ _ _ (nv::rest) hs ha _ hg) bS Y (fun _ _=>cF _ _) ?_ ?_
 ·rintro _ _ _ hTr le1;obtain⟨e,p,hr,fb,h,rfl⟩:=cG hTr;cases h
  refine uAa ?_;refine zz2 ?_;simp only[RT,actC,if_neg hne,hr,if_true,if_false,↓reduceIte];exact⟨fb,Y,Y⟩
 rintro _ K _ hTr -;obtain⟨r,hr,rfl,rfl,rfl⟩:=cH hTr;clear hTr;have hro:=fX ha hr;refine zz5 ?_;refine cA Y Y (qJ b s r (nv::rest) 3 _ [] _ hs hro.1 hg (.inl ⟨none,0,Y,Y⟩) (by simp)) bS Y (fun _ _=>cF _ _) ?_ ?_
 ·rintro _ _ _ hTr le1;obtain⟨e,p,hx,fb,h,rfl⟩:=cG hTr;cases h
  refine uAa ?_;refine zz2 ?_;simp only[RT,actC,if_neg hne,hr,hx,if_true,if_false,↓reduceIte];exact⟨fb,Y,Y⟩
 rintro _ K _ hTr -;obtain⟨x,hx,rfl,rfl,rfl⟩:=cH hTr;clear hTr;have hxo:=aCU hro.1 hx;refine zz7 ?_;refine cA Y Y (nF b s x.2 (nv::rest) [59] _ hs hxo.1 hg) bS Y (fun _ _=>cF _ _) ?_ ?_
 ·rintro _ _ _ hTr le1;obtain⟨e,p,hq,fb,h,rfl⟩:=cG hTr;cases h
  refine uAa ?_;refine zz2 ?_;simp only[RT,actC,if_neg hne,hr,hx,hq,if_true,if_false,↓reduceIte];exact⟨fb,Y,Y⟩
 rintro _ K _ hTr -;obtain⟨q,hq,rfl,rfl,rfl⟩:=cH hTr;clear hTr;refine zz4 ?_;refine aA (aK ts3 Y (.known h2) Y) Y (zz2 ?_);refine aA (dG bK9 bGT dF) Y ?_;refine aA (fE Tryz.underlying258 (fun _ h=>by cases h) Y) Y (zz4 ?_);refine uAa ?_;refine zz1 ?_;simp only[RT,actC,if_neg hne,hr,hx,hq,if_true,if_false,↓reduceIte];exact⟨_,Y,aP4 _ _ _ _,Y⟩
def bBD(b:Nat)(s:List UInt8)(st:St)(dp:Int)(rest:List Value)(K:Hl)(hs:s.length≤600)(hok:Ok s st)(hg:Glob K):Sp x3 155 [ptr b,i64 dp] K [psb b s st rest] (RT s b rest (m9 s true st)):=by
 have ha:=hok.1;refine bN Tryz.func155 Y Tryz.ntmps155 Y Y fun F w=>?_;refine zz10 ?_;refine cA Y Y (fN b 213 s st.1 _ _ _ _ rest hs ha _ hg) bS Y (fun _ _=>cF _ _) ?_ ?_
 ·rintro _ _ _ hTr le1;obtain⟨e,p,hr,fb,h,rfl⟩:=cG hTr;cases h
  refine uAa ?_;refine zz2 ?_;simp only[RT,m9,hr,if_true,if_false,↓reduceIte];exact⟨fb,Y,Y⟩
 rintro _ K _ hTr -;obtain⟨r,hr,rfl,rfl,rfl⟩:=cH hTr;clear hTr;refine zz4 ?_;refine aA (fE Tryz.underlying265 (fun _ h=>by cases h) Y) Y (zz4 ?_);refine uAa ?_;refine zz1 ?_;simp only[RT,m9,hr,if_true,if_false,↓reduceIte];exact⟨_,Y,⟨_,_,Y,Y⟩,Y⟩
def aSS(b:Nat)(s:List UInt8)(st:St)(dp:Int)(rest:List Value)(K:Hl)(hs:s.length≤600)(hok:Ok s st)(hg:Glob K):Sp x3 156 [ptr b,i64 dp] K [psb b s st rest] (RT s b rest (m9 s false st)):=by
 have ha:=hok.1;refine bN Tryz.func156 Y Tryz.ntmps156 Y Y fun F w=>?_;refine zz10 ?_;refine cA Y Y (fN b 213 s st.1 _ _ _ _ rest hs ha _ hg) bS Y (fun _ _=>cF _ _) ?_ ?_
 ·rintro _ _ _ hTr le1;obtain⟨e,p,hr,fb,h,rfl⟩:=cG hTr;cases h
  refine uAa ?_;refine zz2 ?_;simp only[RT,m9,hr,if_true,if_false,↓reduceIte];exact⟨fb,Y,Y⟩
 rintro _ K _ hTr -;obtain⟨r,hr,rfl,rfl,rfl⟩:=cH hTr;clear hTr;refine zz4 ?_;refine aA (fE Tryz.underlying265 (fun _ h=>by cases h) Y) Y (zz4 ?_);refine uAa ?_;refine zz1 ?_;simp only[RT,m9,hr,if_true,if_false,↓reduceIte];exact⟨_,Y,⟨_,_,Y,Y⟩,Y⟩
def aOV(b:Nat)(s:List UInt8)(st:St)(dp:Int)(rest:List Value)(K:Hl)(hs:s.length≤600)(hok:Ok s st)(hg:Glob K):Sp x3 166 [ptr b,i64 dp] K [psb b s st rest] (RT s b rest (oI s st)):=by
 have ha:=hok.1;refine bN Tryz.func166 Y Tryz.ntmps166 Y Y fun F w=>?_;refine zz10 ?_;refine cA Y Y (fN b 213 s st.1 _ _ _ _ rest hs ha _ hg) bS Y (fun _ _=>cF _ _) ?_ ?_
 ·rintro _ _ _ hTr le1;obtain⟨e,p,hr,fb,h,rfl⟩:=cG hTr;cases h
  refine uAa ?_;refine zz2 ?_;simp only[RT,oI,hr,if_true,if_false,↓reduceIte];exact⟨fb,Y,Y⟩
 rintro _ K _ hTr -;obtain⟨r,hr,rfl,rfl,rfl⟩:=cH hTr;clear hTr;have hro:=fX ha hr;refine zz5 ?_;refine cA Y Y (wA b s r rest 167 #[] (fun _=>0) _ hs hro hg (fun x hx=>n9 x _)) bS Y (fun _ _=>cF _ _) ?_ ?_
 ·rintro _ _ _ hTr le1;obtain⟨e,p,ha1,fb,h,rfl⟩:=cG hTr;cases h
  refine uAa ?_;refine zz2 ?_;simp only[RT,oI,hr,ha1,if_true,if_false,↓reduceIte];exact⟨fb,Y,Y⟩
 rintro _ K _ hTr -;obtain⟨va,ha1,rfl,rfl⟩:=cH hTr;clear hTr;refine fZ fun K1 leA hA=>?_;obtain⟨sa,sn,sc,rfl⟩:=hA.isSlice;refine aA (dG bPB bNI dF) Y ?_;refine aA (fE Tryz.underlying273 (fun _ h=>by cases h) Y) Y (zz4 ?_);refine uAa ?_;refine bI Y Y (by first|exact leA|exact xAB _) ?_;simp only[RT,oI,hr,ha1,if_true,if_false,↓reduceIte];exact⟨_,Y,⟨_,_,Y,_,hA,Y⟩,Y⟩
def bAM(b:Nat)(s:List UInt8)(st:St)(dp:Int)(rest:List Value)(K:Hl)(hs:s.length≤600)(hok:Ok s st)(hg:Glob K):Sp x3 168 [ptr b,i64 dp] K [psb b s st rest] (RT s b rest (tE s st)):=by
 have ha:=hok.1;refine bN Tryz.func168 Y Tryz.ntmps168 Y Y fun F w=>?_;refine zz10 ?_;refine cA Y Y (fN b 213 s st.1 _ _ _ _ rest hs ha _ hg) bS Y (fun _ _=>cF _ _) ?_ ?_
 ·rintro _ _ _ hTr le1;obtain⟨e,p,hr,fb,h,rfl⟩:=cG hTr;cases h
  refine uAa ?_;refine zz2 ?_;simp only[RT,tE,hr,if_true,if_false,↓reduceIte];exact⟨fb,Y,Y⟩
 rintro _ K _ hTr -;obtain⟨r,hr,rfl,rfl,rfl⟩:=cH hTr;clear hTr;have hro:=fX ha hr;refine zz11 ?_;refine cJ (bM (z0:=[(str []),(str [])]) cB tz9 Y Y Y Y dF) Y ?_;rintro _ K _ ⟨b11,rfl,rfl,rfl⟩ -;refine kL fun K1 leA hK1=>?_;refine cA Y Y (qJ b s r rest 2 _ [yL,mG] _ hs hro.1 (hg.mono leA) (.inr ⟨b11,0,2,[str yL,str mG],(0,0),Y,⟨_,hK1⟩,Y⟩) (by simp)) bS Y (fun _ _=>cF _ _) ?_ ?_
 ·rintro _ _ _ hTr le1;obtain⟨e,p,hx,fb,h,rfl⟩:=cG hTr;cases h
  refine uAa ?_;refine zz2 ?_;refine cK (x6 leA le1) ?_;simp only[RT,tE,hr,hx,if_true,if_false,↓reduceIte];exact⟨fb,Y,Y⟩
 rintro _ K _ hTr -;obtain⟨x,hx,rfl,rfl,rfl⟩:=cH hTr;clear hTr;have hxo:=aCU hro.1 hx;refine zz4 ?_;refine aY 14 Y (fun h14=>?_) (fun h14=>?_)
 ·have g14:x.1.s=mG:=h14;refine zz8 ?_;refine cA Y Y (qJ b s x.2 rest 4 _ [] _ hs hxo.1 (hg.mono leA) (.inl ⟨none,0,Y,Y⟩) (by simp)) bS Y (fun _ _=>cF _ _) ?_ ?_
  ·rintro _ _ _ hTr le1;obtain⟨e,p,hy,fb,h,rfl⟩:=cG hTr;cases h
   refine uAa ?_;refine aV ?_;refine cK (x6 leA le1) ?_;simp only[RT,tE,hr,hx,if_pos g14,hy,if_true,if_false,↓reduceIte];exact⟨fb,Y,Y⟩
  rintro _ K _ hTr -;obtain⟨y,hy,rfl,rfl,rfl⟩:=cH hTr;clear hTr;refine zz1 ?_;refine aA (dG bLB bGV dF) Y ?_;refine aA (fE Tryz.underlying276 (fun _ h=>by cases h) Y) Y (zz4 ?_);refine uAa ?_;refine bI Y Y leA ?_;simp only[RT,tE,hr,hx,if_pos g14,hy,if_true,if_false,↓reduceIte];exact⟨_,Y,⟨_,_,Y,Y⟩,Y⟩
 have g14:¬x.1.s=mG:=h14;refine zz6 ?_;refine cA Y Y (qJ b s x.2 rest 4 _ [] _ hs hxo.1 (hg.mono leA) (.inl ⟨none,0,Y,Y⟩) (by simp)) bS Y (fun _ _=>cF _ _) ?_ ?_
 ·rintro _ _ _ hTr le1;obtain⟨e,p,hy,fb,h,rfl⟩:=cG hTr;cases h
  refine uAa ?_;refine aV ?_;refine cK (x6 leA le1) ?_;simp only[RT,tE,hr,hx,if_neg g14,hy,if_true,if_false,↓reduceIte];exact⟨fb,Y,Y⟩
 rintro _ K _ hTr -;obtain⟨y,hy,rfl,rfl,rfl⟩:=cH hTr;clear hTr;refine zz1 ?_;refine aA (dG bLB bGV dF) Y ?_;refine aA (fE Tryz.underlying276 (fun _ h=>by cases h) Y) Y (zz4 ?_);refine uAa ?_;refine bI Y Y leA ?_;simp only[RT,tE,hr,hx,if_neg g14,hy,if_true,if_false,↓reduceIte];exact⟨_,Y,⟨_,_,Y,Y⟩,Y⟩
structure PK (s:List UInt8) (needs:List (List UInt8)) (nv:Value) (K:Hl):Prop where
 hs:s.length≤600
 hg:Glob K
 hv:Ksl (a7 9) K nv needs
 hn:needs.length≤1000000
def PK.mono{s:List UInt8}{needs:List (List UInt8)}{nv:Value}{K K':Hl}(h:PK s needs nv K)(le:K.le K'):PK s needs nv K':=⟨h.hs,h.hg.mono le,h.hv.mono le,h.hn⟩
def aO4(b:Nat)(s:List UInt8)(st:St)(dp:Int)(nv:Value)(rest:List Value)(needs:List (List UInt8))(K:Hl)(hok:Ok s st)(hp:PK s needs nv K):Sp x3 162 [ptr b,i64 dp] K [psb b s st (nv::rest)] (RT s b (nv::rest) (l9 s needs 6 [] st)):=by
 refine bN Tryz.func162 Y Tryz.ntmps162 Y Y fun F w=>?_;refine zz8 ?_;refine cA Y Y (aAZ b s st 6 [] nv rest needs _ hp.hs hok hp.hg hp.hv hp.hn) bS Y (fun _ _=>cF _ _) ?_ ?_
 ·rintro _ _ _ hTr le1;obtain⟨e,p,hr,fb,h,rfl⟩:=cG hTr;cases h
  refine uAa ?_;refine zz2 ?_;simp only[RT,hr,if_true,if_false,↓reduceIte];exact⟨fb,Y,Y⟩
 rintro _ K1 _ hTr leK1;obtain⟨r,hr,hrep,rfl⟩:=cH hTr;clear hTr;refine zz4 ?_;refine uAa ?_;refine bI Y Y leK1 ?_;simp only[RT,hr,if_true,if_false,↓reduceIte];exact⟨_,Y,hrep,Y⟩
def aI7(b:Nat)(s:List UInt8)(st:St)(dp:Int)(nv:Value)(rest:List Value)(needs:List (List UInt8))(K:Hl)(hok:Ok s st)(hp:PK s needs nv K):Sp x3 164 [ptr b,i64 dp] K [psb b s st (nv::rest)] (RT s b (nv::rest) (l9 s needs 7 dS st)):=by
 refine bN Tryz.func164 Y Tryz.ntmps164 Y Y fun F w=>?_;refine zz8 ?_;refine cA Y Y (aAZ b s st 7 dS nv rest needs _ hp.hs hok hp.hg hp.hv hp.hn) bS Y (fun _ _=>cF _ _) ?_ ?_
 ·rintro _ _ _ hTr le1;obtain⟨e,p,hr,fb,h,rfl⟩:=cG hTr;cases h
  refine uAa ?_;refine zz2 ?_;simp only[RT,hr,if_true,if_false,↓reduceIte];exact⟨fb,Y,Y⟩
 rintro _ K1 _ hTr leK1;obtain⟨r,hr,hrep,rfl⟩:=cH hTr;clear hTr;refine zz4 ?_;refine uAa ?_;refine bI Y Y leK1 ?_;simp only[RT,hr,if_true,if_false,↓reduceIte];exact⟨_,Y,hrep,Y⟩
def aQX(b:Nat)(s:List UInt8)(st:St)(dp:Int)(nv:Value)(rest:List Value)(needs:List (List UInt8))(K:Hl)(hok:Ok s st)(hp:PK s needs nv K):Sp x3 165 [ptr b,i64 dp] K [psb b s st (nv::rest)] (RT s b (nv::rest) (l9 s needs 8 eB st)):=by
 refine bN Tryz.func165 Y Tryz.ntmps165 Y Y fun F w=>?_;refine zz8 ?_;refine cA Y Y (aAZ b s st 8 eB nv rest needs _ hp.hs hok hp.hg hp.hv hp.hn) bS Y (fun _ _=>cF _ _) ?_ ?_
 ·rintro _ _ _ hTr le1;obtain⟨e,p,hr,fb,h,rfl⟩:=cG hTr;cases h
  refine uAa ?_;refine zz2 ?_;simp only[RT,hr,if_true,if_false,↓reduceIte];exact⟨fb,Y,Y⟩
 rintro _ K1 _ hTr leK1;obtain⟨r,hr,hrep,rfl⟩:=cH hTr;clear hTr;refine zz4 ?_;refine uAa ?_;refine bI Y Y leK1 ?_;simp only[RT,hr,if_true,if_false,↓reduceIte];exact⟨_,Y,hrep,Y⟩
def zR(s:List UInt8)(b:Nat)(rest:List Value)(K:Hl)(dp:Int)(Tf:St→Res (Tree×St)):Prop:=
 ∀(st:St) (K':Hl),K.le K'→Ok s st→Sp x3 158 [ptr b,i64 dp] K' [psb b s st rest] (RT s b rest (Tf st))
def bEE(b:Nat)(s:List UInt8)(st:St)(dp:Int)(rest:List Value)(K:Hl)(Tf:St→Res (Tree×St))(hs:s.length≤600)(hok:Ok s st)(hg:Glob K)(hd:0≤dp∧dp≤6)(hT:zR s b rest K (dp+1) Tf):
  Sp x3 157 [ptr b,i64 dp] K [psb b s st rest] (RT s b rest (notC s Tf st)):=by
 have ha:=hok.1;refine bN Tryz.func157 Y Tryz.ntmps157 Y Y fun F w=>?_;refine zz10 ?_;refine cA Y Y (fN b 213 s st.1 _ _ _ _ rest hs ha _ hg) bS Y (fun _ _=>cF _ _) ?_ ?_
 ·rintro _ _ _ hTr le1;obtain⟨e,p,hr,fb,h,rfl⟩:=cG hTr;cases h
  refine uAa ?_;refine zz2 ?_;simp only[RT,notC,hr,if_true,if_false,↓reduceIte];exact⟨fb,Y,Y⟩
 rintro _ K _ hTr -;obtain⟨r,hr,rfl,rfl,rfl⟩:=cH hTr;clear hTr;have hro:=fX ha hr;refine zz7 ?_;refine cA Y Y (hT r _ (xAB _) hro) bS Y (fun _ _=>cF _ _) ?_ ?_
 ·rintro _ _ _ hTr le1;obtain⟨e,p,ht,fb,h,rfl⟩:=cG hTr;cases h
  refine uAa ?_;refine zz2 ?_;simp only[RT,notC,hr,ht,if_true,if_false,↓reduceIte];exact⟨fb,Y,Y⟩
 rintro _ K1 _ hTr leK1;obtain⟨t,ht,⟨ty,u,rfl,hrep⟩,rfl⟩:=cH hTr;clear hTr;refine aA (dG bPA bNH dF) Y ?_;refine aA (fE Tryz.underlying269 (fun _ h=>by cases h) Y) Y (zz4 ?_);refine uAa ?_;refine bI Y Y leK1 ?_;simp only[RT,notC,hr,ht,if_true,if_false,↓reduceIte];exact⟨_,Y,⟨_,_,Y,_,hrep,Y⟩,Y⟩
def bB6(b:Nat)(e:TypeId)(c:Cell):∀h,pt b (bL [c.1] e) h→sl false (cC e) (.slice (some ⟨b,0,none⟩) 1 1) [c] h:=
 aCQ (k:=cC e) (xs:=[c]) (cells:=[c.1]) (xAA _) rfl rfl (.inl (xAA _)) (fun h=>by cases h)
def aJ9(b:Nat)(s:List UInt8)(st:St)(all:Bool)(dp:Int)(rest:List Value)(K:Hl)(Tf:St→Res (Tree×St))(hs:s.length≤600)(hok:Ok s st)(hg:Glob K)(hd:0≤dp∧dp≤6)(hTa:Adv s Tf)(hT:zR s b rest K (dp+1) Tf):
  Sp x3 160 [ptr b,.bool all,i64 dp] K [psb b s st rest] (RT s b rest (pD s Tf all st)):=by
 have ha:=hok.1;refine bN Tryz.func160 Y Tryz.ntmps160 Y Y fun F w=>?_;refine zz10 ?_;refine cA Y Y (fN b 213 s st.1 _ _ _ _ rest hs ha _ hg) bS Y (fun _ _=>cF _ _) ?_ ?_
 ·rintro _ _ _ hTr le1;obtain⟨e,p,hr,fb,h,rfl⟩:=cG hTr;cases h
  refine uAa ?_;refine zz2 ?_;simp only[RT,pD,hr,if_true,if_false,↓reduceIte];exact⟨fb,Y,Y⟩
 rintro _ K _ hTr -;obtain⟨r,hr,rfl,rfl,rfl⟩:=cH hTr;clear hTr;have hro:=fX ha hr;refine zz5 ?_;refine cA Y Y (nF b s r rest [40] _ hs hro.1 hg) bS Y (fun _ _=>cF _ _) ?_ ?_
 ·rintro _ _ _ hTr le1;obtain⟨e,p,hq,fb,h,rfl⟩:=cG hTr;cases h
  refine uAa ?_;refine zz2 ?_;simp only[RT,pD,hr,hq,if_true,if_false,↓reduceIte];exact⟨fb,Y,Y⟩
 rintro _ K _ hTr -;obtain⟨q,hq,rfl,rfl,rfl⟩:=cH hTr;clear hTr;have hqo:=aFZ hro.1 hq;refine zz8 ?_;refine cA Y Y (hT q _ (xAB _) hqo) bS Y (fun _ _=>cF _ _) ?_ ?_
 ·rintro _ _ _ hTr le1;obtain⟨e,p,ht,fb,h,rfl⟩:=cG hTr;cases h
  refine uAa ?_;refine zz2 ?_;simp only[RT,pD,hr,hq,ht,if_true,if_false,↓reduceIte];exact⟨fb,Y,Y⟩
 rintro _ K1 _ hTr leK1;obtain⟨t,ht,⟨ty,u,rfl,hrep⟩,rfl⟩:=cH hTr;clear hTr;have hto:=(hTa _ _ hqo ht).1;refine cJ (bM (z0:=[.nilIface]) uE bLK Y Y Y Y dF) Y ?_;rintro _ K _ ⟨b19,rfl,rfl,rfl⟩ -;refine aA (dG bPF bNM dF) Y (zz1 ?_);rintro _ K _ ⟨b7,rfl,rfl,rfl⟩ -;refine cD (cX aNJ Y Y Y bR gC1 (.cons (.cons .nil)) gC8) ?_;rintro _ K _ ⟨rfl,rfl⟩ -;refine zz4 ?_;refine nZ (fun(K2:Hl) (st2:St) (us:List (Cell×Cell)) (sv:Value)=>K.le K2∧Ok s st2∧us.length+mu s st2≤1300∧∃acc f,isTL acc=true∧Rep K2 acc us∧mu s st2≤f∧pD s Tf all st=r8 all (pS s Tf (f+1) acc st2)) (fun _ _ _ _=>[(0,ptr b),(2,i64 dp),(7,ptr b7)]) (fun K2 _ _ _=>K2) (fun _ st2 us sv=>[pt b7 (bL [.bool all,sv] 329),sl false (cC 264) sv (us.map Prod.fst),psb b s st2 rest]) (fun _ st2 _ _=>mu s st2) _ t.2 [(⟨.iface ty u,Y⟩,u0)] (.slice (some ⟨b19,0,none⟩) 1 1) ⟨xAB _,hto,by have:=xP s t.2;simp;omega,.tcons t.1 .tnil,mu s t.2,rfl,⟨_,[],hrep,rfl,rfl⟩,xAA _,by simp only[pD,hr,hq,ht]⟩ aS Y (fun h hh=>iM (eM (bB6 b19 264 ⟨.iface ty u,Y⟩) h (iM hh))) ?_;intro K2 st2 us sv ⟨leK,hok2,hus,acc,f,hacc,hrp,hf,hx⟩;refine zz4 ?_;refine cA Y Y (aGL b s st2 rest [44] _ hs hok2.1 (hg.mono (x6 leK1 leK))) bS Y (fun _ _=>cF _ _) ?_ ?_
 ·rintro _ _ _ hTr le1;obtain⟨e,p,hy,fb,h,rfl⟩:=cG hTr;cases h
  refine uAa ?_;refine zz5 ?_;refine cK (x6 leK1 (x6 leK le1)) ?_;simp only[RT,hx,pS,hy,if_true,if_false,↓reduceIte];exact⟨fb,Y,Y⟩
 rintro _ K _ hTr -;obtain⟨y,hy,rfl,rfl,rfl⟩:=cH hTr;clear hTr;obtain⟨hy1,hy2,hy3⟩:=aC8 hok2.1 hy;have hyo:=aC9 hok2 hy;refine zz2 ?_;refine d9 22 Y (fun h22=>?_) (fun h22=>?_)
 ·refine zz3 ?_;refine cZ (anc:=[0,1,0,0,8,28,60,127,255,511]) (ord:=[0,1,2,3,4,5,6,7,8,9]) [5,6,7,9] [9] mixed gC5 (aM cI bF) (zz5 ?_);refine aBP Y (.none Y) Y Y Y Y (hT y.2 _ (x6 leK1 leK) hyo) (aM cI bF) Y (fun _ _=>cF _ _) ?_ ?_
  ·rintro _ _ _ hTr le1;obtain⟨e,p,ht2,fb,h,rfl⟩:=cG hTr;cases h
   intro a0 w0 hd0 hi0;refine⟨hd0,_,_,?_,(x6 leK1 (x6 leK le1)),hi0.left⟩
   simp only[RT,hx,pS,hy,if_pos h22,ht2,if_true,if_false,↓reduceIte];exact⟨fb,Y,Y⟩
  rintro _ K3 _ hTr leK3;obtain⟨t2,ht2,⟨ty2,u2,rfl,hrep2⟩,rfl⟩:=cH hTr;clear hTr;refine⟨_,(show Tks _ _ _ from (aM cI bF)).sat,?_⟩
  refine uK Y Y (.none Y) Y Y (bM (z0:=[.nilIface]) uE bLK Y Y Y Y dF) Y ?_;rintro _ K _ ⟨b29,rfl,rfl,rfl⟩ -;refine⟨_,(show Tks _ _ _ from (aM cI bF)).sat,?_⟩
  refine uK Y Y (.none Y) Y Y (dQ (k:=(cC 264)) (ys:=[⟨.iface ty2 u2,Y⟩]) aIJ Y Y bR (fun w j=>dJ Tryz.underlying327 (SeesSl.at (.blk aL Y Y) j)) gC7 gC9) Y ?_;rintro v30 K _ ⟨rfl,rfl,ho30⟩ -;refine⟨_,(show Tks _ _ _ from (aM cI bF)).sat,?_⟩
  refine zz1 ?_;refine mT Y Y (.none Y) Y (bX aRG Y Y dA bR aZe Y) ?_;rintro _ K _ ⟨rfl,rfl⟩ -;refine zz2 ?_;have hm:=hy3 h22;have hm2:=hTa _ _ hyo ht2;obtain⟨f0,rfl⟩:∃f0,f=f0+1:=⟨f - 1,by omega⟩;refine aQ (aM bW (aM bW (aM cI bF))) ?_;obtain⟨hr3,hr4⟩:=aZX hrep2 hacc (hrp.mono leK3);refine fH K t2.2 (us++[(⟨.iface ty2 u2,Y⟩,u0)]) v30 ⟨x6 leK leK3,hm2.1,by simp;omega,acc.snocT t2.1,f0,hr4,hr3,by omega,?_⟩ aH aS Y (by rw[List.map_append];exact fun _ h=>h)
  simp only[RT,hx,pS,hy,if_pos h22,ht2,if_true,if_false,↓reduceIte]
 have g22:¬y.1=true:=by simp[h22]
 refine zz8 ?_;refine cA Y Y (nF b s y.2 rest [41] _ hs hyo.1 (hg.mono (x6 leK1 leK))) bS Y (fun _ _=>cF _ _) ?_ ?_
 ·rintro _ _ _ hTr le1;obtain⟨e,p,hz,fb,h,rfl⟩:=cG hTr;cases h
  refine uAa ?_;refine aV ?_;refine cK (x6 leK1 (x6 leK le1)) ?_;simp only[RT,hx,pS,hy,if_neg g22,hz,if_true,if_false,↓reduceIte];exact⟨fb,Y,Y⟩
 rintro _ K _ hTr -;obtain⟨z,hz,rfl,rfl,rfl⟩:=cH hTr;clear hTr;refine zz5 ?_;refine aA (fE Tryz.underlying329 (fun _ h=>by cases h) Y) Y (zz4 ?_);refine uAj ?_;refine gW fun K4 leS hS=>?_;refine uAa ?_;refine bI Y Y (x6 leK1 (x6 leK leS)) ?_;simp only[RT,hx,pS,hy,if_neg g22,hz,if_true,if_false,↓reduceIte];simp only[r8];exact⟨_,Y,⟨_,_,Y,us,sv,hrp.mono leS,hS,Y⟩,Y⟩
end Go.Proofs
end
section
attribute [local irreducible] Go.SL.T Go.SL.OL Go.SL.D Go.SL.DL Go.SL.Ev Go.SL.Ef Go.SL.EfS
set_option maxRecDepth 4000
namespace Go.Proofs
open Go Go.SL Go.Syn
def yC(fn:FuncId)(K:Hl):Sp x3 148 [.func (.func fn) #[] #[]] K [] (Ret fun v K' L'=>∃b1,v=.func (.func 207) #[] #[ptr b1]∧K' b1=some (bL [.func (.func fn) #[] #[]] 259)∧L'=[]):=by
 refine bN Tryz.func148 Y Tryz.ntmps148 Y Y fun F w=>?_;refine zz3 ?_;rintro _ K _ ⟨b1,rfl,rfl,rfl⟩ -;refine zz10 ?_;refine fB fun K1 le1 hK1=>?_;refine bI Y Y le1 ?_;exact⟨_,Y,b1,Y,hK1,Y⟩
def wU(kd:Int)(ext:List UInt8)(K:Hl):Sp x3 152 [i64 kd,str ext] K [] (Ret fun v K' L'=>∃b1 b2,v=.func (.func 208) #[] #[ptr b1,ptr b2]∧K' b1=some (bL [str ext] 9)∧K' b2=some (bL [i64 kd] 3)∧L'=[]):=by
 refine bN Tryz.func152 Y Tryz.ntmps152 Y Y fun F w=>?_;refine zz3 ?_;rintro _ K _ ⟨b2,rfl,rfl,rfl⟩ -;refine zz1 ?_;rintro _ K _ ⟨b3,rfl,rfl,rfl⟩ -;refine zz10 ?_;refine fB fun K1 le1 hK1=>?_;refine fB fun K2 le2 hK2=>?_;refine bI Y Y (x6 le1 le2) ?_;exact⟨_,Y,b3,b2,Y,le2 _ _ hK1,hK2,Y⟩
abbrev fnV(f:FuncId):Value:=.func (.func f) #[] #[]
abbrev simV(c:Nat):Value:=.func (.func 207) #[] #[ptr c]
abbrev actV(c d:Nat):Value:=.func (.func 208) #[] #[ptr c,ptr d]
structure Tabs (K:Hl) (cb tb:Nat):Prop where
 cmds:∃c1 c2 c3 d1 e1 d2 e2 d3 e3,K cb=some (mapO [(qL,simV c1,0),(jV,simV c2,1),(mQ,simV c3,2),(fV,actV d1 e1,3),(gR,actV d2 e2,4),(iO,actV d3 e3,5),(tM,fnV 153,6),(txIf,fnV 154,7)] 8)∧
  K c1=some (bL [fnV 149] 259)∧K c2=some (bL [fnV 150] 259)∧K c3=some (bL [fnV 151] 259)∧
  K d1=some (bL [str fV] 9)∧K e1=some (bL [i64 2] 3)∧K d2=some (bL [str []] 9)∧K e2=some (bL [i64 3] 3)∧K d3=some (bL [str iO] 9)∧K e3=some (bL [i64 4] 3)
 tests:K tb=some (mapO [(j6,fnV 155,0),(iB,fnV 156,1),(rJ,fnV 157,2),(lZ,fnV 159,3),(l4,fnV 161,4),(gU,fnV 162,5),(dS,fnV 164,6),(gV,fnV 165,7),(kP,fnV 166,8),(nL,fnV 168,9)] 10)
def Tabs.mono{K K':Hl}{cb tb:Nat}(h:Tabs K cb tb)(le:K.le K'):Tabs K' cb tb:=
 ⟨let ⟨c1,c2,c3,d1,e1,d2,e2,d3,e3,h0,h1,h2,h3,h4,h5,h6,h7,h8,h9⟩:=h.cmds;⟨c1,c2,c3,d1,e1,d2,e2,d3,e3,le _ _ h0,le _ _ h1,le _ _ h2,le _ _ h3,le _ _ h4,le _ _ h5,le _ _ h6,le _ _ h7,le _ _ h8,le _ _ h9⟩,le _ _ h.tests⟩
def aQ0(b:Nat)(s:List UInt8)(st:St)(n0 n1:Value)(K:Hl):Sp x3 109 [ptr b] K [psb b s st [n0,n1,.map none,.map none]]
  (Ret fun v K' L'=>v=.tuple #[]∧∃cb tb,Tabs K' cb tb∧L'=[psb b s st [n0,n1,.map (some cb),.map (some tb)]]):=by
 refine bN Tryz.func109 Y Tryz.ntmps109 Y Y fun F w=>?_;refine zz3 ?_;refine cJ uZ Y ?_;rintro _ K _ ⟨b3,rfl,rfl,rfl⟩ -;refine bA Y Y (yC _ _) .nil Y ?_;rintro _ K1 _ ⟨c1,rfl,h1,rfl⟩ le1;refine cD (j9 Tryz.underlying210 Tryz.underlying9 Y Y Y ?_ bR) ?_
 ·rfl
 rintro _ K _ ⟨rfl,rfl⟩ -;refine bA Y Y (yC _ _) .nil Y ?_;rintro _ K2 _ ⟨c2,rfl,h2,rfl⟩ le2;refine cD (j9 Tryz.underlying210 Tryz.underlying9 Y Y Y ?_ bR) ?_
 ·rfl
 rintro _ K _ ⟨rfl,rfl⟩ -;refine bA Y Y (yC _ _) .nil Y ?_;rintro _ K3 _ ⟨c3,rfl,h3,rfl⟩ le3;refine cD (j9 Tryz.underlying210 Tryz.underlying9 Y Y Y ?_ bR) ?_
 ·rfl
 rintro _ K _ ⟨rfl,rfl⟩ -;refine bA Y Y (wU 2 fV _) .nil Y ?_;rintro _ K4 _ ⟨d1,e1,rfl,h4,h5,rfl⟩ le4;refine cD (j9 Tryz.underlying210 Tryz.underlying9 Y Y Y ?_ bR) ?_
 ·rfl
 rintro _ K _ ⟨rfl,rfl⟩ -;refine bA Y Y (wU 3 [] _) .nil Y ?_;rintro _ K5 _ ⟨d2,e2,rfl,h6,h7,rfl⟩ le5;refine cD (j9 Tryz.underlying210 Tryz.underlying9 Y Y Y ?_ bR) ?_
 ·rfl
 rintro _ K _ ⟨rfl,rfl⟩ -;refine bA Y Y (wU 4 iO _) .nil Y ?_;rintro _ K6 _ ⟨d3,e3,rfl,h8,h9,rfl⟩ le6;refine cD (j9 Tryz.underlying210 Tryz.underlying9 Y Y Y ?_ bR) ?_
 ·rfl
 rintro _ K _ ⟨rfl,rfl⟩ -;refine cD (j9 Tryz.underlying210 Tryz.underlying9 Y Y Y ?_ bR) ?_
 ·rfl
 rintro _ K _ ⟨rfl,rfl⟩ -;refine cD (j9 Tryz.underlying210 Tryz.underlying9 Y Y Y ?_ bR) ?_
 ·rfl
 rintro _ K _ ⟨rfl,rfl⟩ -;refine zz3 ?_;refine cD (bX bLF Y Y dA bR aZe Y) ?_;rintro _ K _ ⟨rfl,rfl⟩ -;refine zz4 ?_;refine cJ uZ Y ?_;rintro _ K _ ⟨b14,rfl,rfl,rfl⟩ -;refine cD (j9 Tryz.underlying211 Tryz.underlying9 Y Y Y ?_ bR) ?_
 ·rfl
 rintro _ K _ ⟨rfl,rfl⟩ -;refine cD (j9 Tryz.underlying211 Tryz.underlying9 Y Y Y ?_ bR) ?_
 ·rfl
 rintro _ K _ ⟨rfl,rfl⟩ -;refine cD (j9 Tryz.underlying211 Tryz.underlying9 Y Y Y ?_ bR) ?_
 ·rfl
 rintro _ K _ ⟨rfl,rfl⟩ -;refine cD (j9 Tryz.underlying211 Tryz.underlying9 Y Y Y ?_ bR) ?_
 ·rfl
 rintro _ K _ ⟨rfl,rfl⟩ -;refine cD (j9 Tryz.underlying211 Tryz.underlying9 Y Y Y ?_ bR) ?_
 ·rfl
 rintro _ K _ ⟨rfl,rfl⟩ -;refine cD (j9 Tryz.underlying211 Tryz.underlying9 Y Y Y ?_ bR) ?_
 ·rfl
 rintro _ K _ ⟨rfl,rfl⟩ -;refine cD (j9 Tryz.underlying211 Tryz.underlying9 Y Y Y ?_ bR) ?_
 ·rfl
 rintro _ K _ ⟨rfl,rfl⟩ -;refine cD (j9 Tryz.underlying211 Tryz.underlying9 Y Y Y ?_ bR) ?_
 ·rfl
 rintro _ K _ ⟨rfl,rfl⟩ -;refine cD (j9 Tryz.underlying211 Tryz.underlying9 Y Y Y ?_ bR) ?_
 ·rfl
 rintro _ K _ ⟨rfl,rfl⟩ -;refine cD (j9 Tryz.underlying211 Tryz.underlying9 Y Y Y ?_ bR) ?_
 ·rfl
 rintro _ K _ ⟨rfl,rfl⟩ -;refine zz3 ?_;refine cD (bX bLG Y Y dA bR aZe Y) ?_;rintro _ K _ ⟨rfl,rfl⟩ -;refine aG ?_;refine uAz ?_;refine fB fun K7 le7 hT=>?_;refine fB fun K8 le8 hC=>?_;refine dK Y (x6 le1 (x6 le2 (x6 le3 (x6 le4 (x6 le5 (x6 le6 (x6 le7 le8))))))) ?_;have g7:=x6 le7 le8;have g6:=x6 le6 g7;have g5:=x6 le5 g6;have g4:=x6 le4 g5;have g3:=x6 le3 g4;have g2:=x6 le2 g3;exact⟨_,Y,Y,_,_,⟨⟨c1,c2,c3,d1,e1,d2,e2,d3,e3,hC,g2 _ _ h1,g3 _ _ h2,g4 _ _ h3,g5 _ _ h4,g5 _ _ h5,g6 _ _ h6,g6 _ _ h7,g7 _ _ h8,g7 _ _ h9⟩,le8 _ _ hT⟩,Y⟩
end Go.Proofs
end
section
attribute [local irreducible] Go.SL.T Go.SL.OL Go.SL.D Go.SL.DL Go.SL.Ev Go.SL.Ef Go.SL.EfS
namespace Go.Proofs
open Go Go.SL Go.Syn
def RB(s:List UInt8)(b:Nat)(rest:List Value)(r:Res (Tree×St)):Ending→Hl→List Asn→Prop:=kH r fun r v K' L'=>∃ys,Rep K' r.1 ys∧isCL r.1=true∧L'=[sl false (cC 198) v (ys.map Prod.fst),psb b s r.2 rest]
def aF3(s:List UInt8)(b:Nat)(rest:List Value)(K:Hl)(dp:Int)(Bf:St→Res (Tree×St)):Prop:=
 ∀(st:St) (K':Hl),K.le K'→Ok s st→Sp x3 114 [ptr b,i64 dp] K' [psb b s st rest] (RB s b rest (Bf st))
def aJT{v:Value}(h:v.oneCell'=true):v.cells=[v].toArray:=by cases v <;> simp[Value.oneCell']at h <;> rfl
def yS(b:Nat)(s:List UInt8)(st:St)(rest:List Value)(bp bd bi:Nat)(dp:Int)(tv sv:Value)(tv1:tv.oneCell'=true)(us:List (Cell×Cell))(K:Hl)(Bf:St→Res (Tree×St))(hs:s.length≤600)(hok:Ok s st)(hg:Glob K)(hd:0≤dp∧dp≤6)(hu:us.length≤1300)
  (hBa:AdvE s Bf) (hB:aF3 s b rest K (dp+1) Bf) (h1:K bp=some (bL [ptr b] 204)) (h2:K bd=some (bL [i64 dp] 3)):
  Sp x3 212 [tv,ptr bp,ptr bd,ptr bi] K [pt bi (bL [sv] 287),sl false (dT 324) sv us,psb b s st rest]
   (kH (kV s Bf st) fun r v K' L'=>v=.tuple #[]∧∃(bv:Cell) (ys:List (Cell×Cell)) (sv':Value),Rep K' r.1 ys∧Ksl (cC 198) K' bv.1 (ys.map (·.1))∧L'=[pt bi (bL [sv'] 287),sl false (dT 324) sv' (us++[(⟨tv,tv1⟩,bv)]),psb b s r.2 rest]):=by
 have ha:=hok.1;refine bN Tryz.func212 Y Tryz.ntmps212 Y Y fun F w=>?_;refine zz3 ?_;refine cA Y Y (nF b s st rest [123] _ hs ha hg) bS Y (fun _ _=>cF _ _) ?_ ?_
 ·rintro _ _ _ hTr le1;obtain⟨e,p,hq,fb,h,rfl⟩:=cG hTr;cases h
  refine uAa ?_;refine zz2 ?_;simp only[kV,hq,if_true,if_false,↓reduceIte];exact⟨fb,Y,Y⟩
 rintro _ K _ hTr -;obtain⟨q,hq,rfl,rfl,rfl⟩:=cH hTr;clear hTr;have hqo:=aFZ ha hq;refine zz7 ?_;refine cA Y Y (hB q _ (xAB _) hqo) bS Y (fun _ _=>cF _ _) ?_ ?_
 ·rintro _ _ _ hTr le1;obtain⟨e,p,hb,fb,h,rfl⟩:=cG hTr;cases h
  refine uAa ?_;refine zz2 ?_;simp only[kV,hq,hb,if_true,if_false,↓reduceIte];exact⟨fb,Y,Y⟩
 rintro _ K1 _ hTr leK1;obtain⟨bb,hb,⟨ys,hrep,hcl,rfl⟩⟩:=cH hTr;clear hTr;have hbo:=(hBa _ _ hqo hb).1;have h1:=leK1 _ _ h1;refine fZ fun K2 leS hS=>?_;obtain⟨sa,sn,sc,rfl⟩:=hS.isSlice;have h1:=leS _ _ h1;have hrep:=hrep.mono leS;refine zz6 ?_;refine cA Y Y (nF b s bb.2 rest [125] _ hs hbo.1 (hg.mono (x6 leK1 leS))) bS Y (fun _ _=>cF _ _) ?_ ?_
 ·rintro _ _ _ hTr le1;obtain⟨e,p,hz,fb,h,rfl⟩:=cG hTr;cases h
  refine uAa ?_;refine aV ?_;refine cK (x6 leK1 (x6 leS le1)) ?_;simp only[kV,hq,hb,hz,if_true,if_false,↓reduceIte];exact⟨fb,Y,Y⟩
 rintro _ K _ hTr -;obtain⟨z,hz,rfl,rfl,rfl⟩:=cH hTr;clear hTr;refine zz7 ?_;refine aA (dG bPE bNL (.cons Y (aJT tv1) Y (.cons .nil) dF)) Y ?_;refine cJ (bM (z0:=[.nilIface,.slice none 0 0]) uD aWT Y Y Y Y dF) Y ?_;rintro _ K _ ⟨b19,rfl,rfl,rfl⟩ -;refine cJ (dQ (k:=(dT 324)) (ys:=[(⟨tv,tv1⟩,⟨.slice sa sn sc,Y⟩)]) aII Y Y (.there (.there (.there .here))) (fun w j=>dJ Tryz.underlying285 (SeesSl.at (.blk aL Y Y) j)) gC9 gC9) Y ?_;rintro v20 K _ ⟨rfl,rfl,ho20⟩ -;refine zz1 ?_;refine cD (bX aRF Y Y dA bR .zero Y) ?_;rintro _ K _ ⟨rfl,rfl⟩ -;refine aG ?_;refine aQ (aM nC (aM bW (aM cI bF))) ?_;refine dK Y (x6 leK1 leS) ?_;simp only[kV,hq,hb,hz,if_true,if_false,↓reduceIte];exact⟨_,Y,Y,_,ys,_,hrep,hS,Y⟩
def aI5(b:Nat)(s:List UInt8)(st:St)(rest:List Value)(at_ dp:Int)(K:Hl)(Tf Bf:St→Res (Tree×St))(hs:s.length≤600)(hok:Ok s st)(hg:Glob K)(hd:0≤dp∧dp≤6)(hTa:Adv s Tf)(hBa:AdvE s Bf)(hT:zR s b rest K (dp+1) Tf)(hB:aF3 s b rest K (dp+1) Bf):
    Sp x3 154 [ptr b,i64 at_,i64 dp] K [psb b s st rest] (RT s b rest (ifC s Tf Bf st)):=by
  have ha:=hok.1;refine bN Tryz.func154 Y Tryz.ntmps154 Y Y fun F w=>?_;refine zz3 ?_;rintro _ K _ ⟨b3,rfl,rfl,rfl⟩ -;refine zz1 ?_;rintro _ K _ ⟨b5,rfl,rfl,rfl⟩ -;refine zz5 ?_;refine kL fun Ka leA hbd=>?_;refine kL fun Kb leB hbp=>?_;have hbd:=leB _ _ hbd;have le0:=x6 leA leB;refine zz3 ?_;refine cA Y Y (fN b 213 s st.1 _ _ _ _ rest hs ha _ (hg.mono le0)) bS Y (fun _ _=>cF _ _) ?_ ?_
  · rintro _ _ _ hTr le1;obtain⟨e,p,hr,fb,h,rfl⟩:=cG hTr;cases h
    refine uAa ?_;refine aV ?_;refine cK (x6 le0 le1) ?_;simp only[RT,ifC,hr,if_true,if_false,↓reduceIte];exact⟨fb,Y,Y⟩
  rintro _ K _ hTr -;obtain⟨r,hr,rfl,rfl,rfl⟩:=cH hTr;clear hTr;have hro:=fX ha hr;refine zz5 ?_;rintro _ K _ ⟨b7,rfl,rfl,rfl⟩ -;refine zz14 ?_;refine cA Y Y (hT r _ le0 hro) bS Y (fun _ _=>cF _ _) ?_ ?_
  · rintro _ _ _ hTr le1;obtain⟨e,p,ht,fb,h,rfl⟩:=cG hTr;cases h
    refine uAa ?_;refine aV ?_;refine cK (x6 le0 le1) ?_;simp only[RT,ifC,hr,ht,if_true,if_false,↓reduceIte];exact⟨fb,Y,Y⟩
  rintro _ K1 _ hTr leK1;obtain⟨t,ht,⟨ty,u,rfl,hrep⟩,rfl⟩:=cH hTr;clear hTr;have hto:=(hTa _ _ hro ht).1;have hbd:=leK1 _ _ hbd;have hbp:=leK1 _ _ hbp;have le01:=x6 le0 leK1;refine j4 (eL (dT 324)) ?_;refine cA Y Y (yS b s t.2 rest b3 b5 b7 dp (.iface ty u) _ Y [] _ Bf hs hto (hg.mono le01) hd (by simp) hBa (fun st2 K2 le2 ho=>hB st2 K2 (x6 le01 le2) ho) hbp hbd) bS Y (fun _ _=>cF _ _) ?_ ?_
  · rintro _ _ _ hTr le1;obtain⟨e,p,hb,fb,h,rfl⟩:=cG hTr;cases h
    refine uAa ?_;refine aV ?_;refine cK (x6 le01 le1) ?_;simp only[RT,ifC,hr,ht,hb,if_true,if_false,↓reduceIte];exact⟨fb,Y,Y⟩
  rintro _ K3 _ hTr leK3;obtain⟨bb,hb,rfl,bv,ys,sv1,hrb,hsb,rfl⟩:=cH hTr;clear hTr;have hbo:=(mX hBa _ _ hto hb).1;have hbd:=leK3 _ _ hbd;have hbp:=leK3 _ _ hbp;have le03:=x6 le01 leK3;refine zz4 ?_;refine nZ (fun(K2:Hl) (st2:St) (us:List (Cell×Cell)) (sv:Value)=>K3.le K2∧Ok s st2∧us.length+mu s st2≤1300∧∃acc f,isBL acc=true∧Rep K2 acc us∧mu s st2≤f∧ifC s Tf Bf st=hO s Tf Bf (f+1) acc st2) (fun _ _ _ _=>[(3,ptr b3),(5,ptr b5),(7,ptr b7),(8,.func (.func 212) #[] #[ptr b3,ptr b5,ptr b7])]) (fun K2 _ _ _=>K2) (fun _ st2 us sv=>[pt b7 (bL [sv] 287),sl false (dT 324) sv us,psb b s st2 rest]) (fun _ st2 _ _=>mu s st2) _ bb.2 [(⟨.iface ty u,Y⟩,bv)] sv1 ⟨xAB _,hbo,by have:=xP s bb.2;simp;omega,.bcons t.1 bb.1 .bnil,mu s bb.2,rfl,⟨_,ys,bv,[],hrep.mono leK3,⟨_,_,rfl⟩,hrb,hsb,rfl,rfl⟩,xAA _,by simp only[ifC,hr,ht,hb]⟩ aS Y (fun _ h=>h) ?_;intro K2 st2 us sv ⟨leL,hok2,hus,acc,f,hacc,hrp,hf,hx⟩;have hbd:=leL _ _ hbd;have hbp:=leL _ _ hbp;have le2:=x6 le03 leL;refine zz11 ?_;refine bV 27 Y (fun g27=>?_) (fun g27=>?_)
  · have g27:st2.2.kind=1:=by omega
    refine zz17 ?_;refine aY 35 Y (fun h35=>?_) (fun h35=>?_)
    · have gc:st2.2.kind=1∧st2.2.s=sE:=⟨by omega,h35⟩;refine zz8 ?_;refine cA Y Y (fN b 213 s st2.1 _ _ _ _ rest hs hok2.1 _ (hg.mono le2)) bS Y (fun _ _=>cF _ _) ?_ ?_
      · rintro _ _ _ hTr le1;obtain⟨e,p,hr2,fb,h,rfl⟩:=cG hTr;cases h
        refine uAa ?_;refine zz5 ?_;refine cK (x6 le2 le1) ?_;simp only[RT,hx,hO,lC,if_pos gc,hr2,if_true,if_false,↓reduceIte];exact⟨fb,Y,Y⟩
      rintro _ K _ hTr -;obtain⟨r2,hr2,rfl,rfl,rfl⟩:=cH hTr;clear hTr;have hro2:=fX hok2.1 hr2;refine zz7 ?_;refine cA Y Y (hT r2 _ le2 hro2) bS Y (fun _ _=>cF _ _) ?_ ?_
      · rintro _ _ _ hTr le1;obtain⟨e,p,ht2,fb,h,rfl⟩:=cG hTr;cases h
        refine uAa ?_;refine zz4 ?_;refine cK (x6 le2 le1) ?_;simp only[RT,hx,hO,lC,if_pos gc,hr2,ht2,if_true,if_false,↓reduceIte];exact⟨fb,Y,Y⟩
      rintro _ K4 _ hTr leK4;obtain⟨t2,ht2,⟨ty2,u2,rfl,hrep2⟩,rfl⟩:=cH hTr;clear hTr;have hto2:=(hTa _ _ hro2 ht2).1;have hbd:=leK4 _ _ hbd;have hbp:=leK4 _ _ hbp;have le4:=x6 le2 leK4;refine cA Y Y (yS b s t2.2 rest b3 b5 b7 dp (.iface ty2 u2) _ Y us _ Bf hs hto2 (hg.mono le4) hd aH hBa (fun st2 K2 lx ho=>hB st2 K2 (x6 le4 lx) ho) hbp hbd) bS Y (fun _ _=>cF _ _) ?_ ?_
      · rintro _ _ _ hTr le1;obtain⟨e,p,hb2,fb,h,rfl⟩:=cG hTr;cases h
        refine uAa ?_;refine zz4 ?_;refine cK (x6 le4 le1) ?_;simp only[RT,hx,hO,lC,if_pos gc,hr2,ht2,hb2,if_true,if_false,↓reduceIte];exact⟨fb,Y,Y⟩
      rintro _ K5 _ hTr leK5;obtain⟨bb2,hb2,rfl,bv2,ys2,sv2,hrb2,hsb2,rfl⟩:=cH hTr;clear hTr;have hbo2:=(mX hBa _ _ hto2 hb2).1;refine zz2 ?_;have hm1:=gY hok2.1 aH hr2;have hm2:=hTa _ _ hro2 ht2;have hm3:=mX hBa _ _ hto2 hb2;obtain⟨f0,rfl⟩:∃f0,f=f0+1:=⟨f - 1,by omega⟩;obtain⟨hr3,hr4⟩:=qF (o:=some t2.1) ⟨hrep2.mono leK5,_,_,rfl⟩ hrb2 hsb2 hacc (hrp.mono (x6 leK4 leK5));refine fH _ bb2.2 (us++[(⟨.iface ty2 u2,Y⟩,bv2)]) sv2 ⟨x6 leL (x6 leK4 leK5),hbo2,by simp;omega,acc.snocB (some t2.1) bb2.1,f0,hr4,hr3,by omega,?_⟩ aH aS Y cV
      simp only[RT,hx,hO,lC,if_pos gc,hr2,ht2,hb2,if_true,if_false,↓reduceIte]
    have gc:¬(st2.2.kind=1∧st2.2.s=sE):=(fun h=>h35 h.2);refine zz16 ?_;refine bV 53 Y (fun g53=>?_) (fun g53=>?_)
    · refine zz17 ?_;refine aY 61 Y (fun h61=>?_) (fun h61=>?_)
      · have gd:st2.2.kind=1∧st2.2.s=tK:=⟨by omega,h61⟩;refine zz5 ?_;refine cA Y Y (fN b 213 s st2.1 _ _ _ _ rest hs hok2.1 _ (hg.mono le2)) bS Y (fun _ _=>cF _ _) ?_ ?_
        · rintro _ _ _ hTr le1;obtain⟨e,p,hr3,fb,h,rfl⟩:=cG hTr;cases h
          refine uAa ?_;refine zz2 ?_;refine cK (x6 le2 le1) ?_;simp only[RT,hx,hO,lC,if_neg gc,if_pos gd,hr3,if_true,if_false,↓reduceIte];exact⟨fb,Y,Y⟩
        rintro _ K _ hTr -;obtain⟨r3,hr3,rfl,rfl,rfl⟩:=cH hTr;clear hTr;have hro3:=fX hok2.1 hr3;refine zz4 ?_;refine cA Y Y (yS b s r3 rest b3 b5 b7 dp .nilIface _ Y us _ Bf hs hro3 (hg.mono le2) hd aH hBa (fun st2 K2 lx ho=>hB st2 K2 (x6 le2 lx) ho) hbp hbd) bS Y (fun _ _=>cF _ _) ?_ ?_
        · rintro _ _ _ hTr le1;obtain⟨e,p,hb3,fb,h,rfl⟩:=cG hTr;cases h
          refine uAa ?_;refine aV ?_;refine cK (x6 le2 le1) ?_;simp only[RT,hx,hO,lC,if_neg gc,if_pos gd,hr3,hb3,if_true,if_false,↓reduceIte];exact⟨fb,Y,Y⟩
        rintro _ K6 _ hTr leK6;obtain⟨bb3,hb3,rfl,bv3,ys3,sv3,hrb3,hsb3,rfl⟩:=cH hTr;clear hTr;refine zz5 ?_;refine aA (fE Tryz.underlying287 (fun _ h=>by cases h) Y) Y (zz4 ?_);refine uBg ?_;refine gW fun K9 leS hS=>?_;refine bI Y Y gDU ?_
        first
          | (simp only [RT, hx, hO, lC, if_neg gc, if_pos gd, hr3, hb3]
             obtain⟨hr6,hr7⟩:=qF (o:=none) rfl hrb3 hsb3 hacc (hrp.mono leK6);exact⟨_,Y,⟨_,_,Y,_,_,hr6.mono leS,hS,Y⟩,Y⟩)
          |exact gBH
      have gd:¬(st2.2.kind=1∧st2.2.s=tK):=(fun h=>h61 h.2);refine zz5 ?_;refine aA (fE Tryz.underlying287 (fun _ h=>by cases h) Y) Y (zz4 ?_);refine uBg ?_;refine gW fun K9 leS hS=>?_;refine bI Y Y gDU ?_
      first
        | (simp only [RT, hx, hO, lC, if_neg gc, if_pos gd, hr3, hb3]
           obtain⟨hr6,hr7⟩:=qF (o:=none) rfl hrb3 hsb3 hacc (hrp.mono leK6);exact⟨_,Y,⟨_,_,Y,_,_,hr6.mono leS,hS,Y⟩,Y⟩)
        |exact gBH
    have gd:¬(st2.2.kind=1∧st2.2.s=tK):=(fun h=>by omega);refine zz16 ?_;refine aA (fE Tryz.underlying287 (fun _ h=>by cases h) Y) Y (zz4 ?_);refine uBg ?_;refine gW fun K9 leS hS=>?_;refine bI Y Y gDU ?_
    first
      | (simp only [RT, hx, hO, lC, if_neg gc, if_pos gd, hr3, hb3]
         obtain⟨hr6,hr7⟩:=qF (o:=none) rfl hrb3 hsb3 hacc (hrp.mono leK6);exact⟨_,Y,⟨_,_,Y,_,_,hr6.mono leS,hS,Y⟩,Y⟩)
      |exact gBH
  have gc:¬(st2.2.kind=1∧st2.2.s=sE):=(fun h=>by omega);refine zz27 ?_;refine bV 53 Y (fun g53=>?_) (fun g53=>?_)
  · refine zz17 ?_;refine aY 61 Y (fun h61=>?_) (fun h61=>?_)
    · have gd:st2.2.kind=1∧st2.2.s=tK:=⟨by omega,h61⟩;refine zz5 ?_;refine cA Y Y (fN b 213 s st2.1 _ _ _ _ rest hs hok2.1 _ (hg.mono le2)) bS Y (fun _ _=>cF _ _) ?_ ?_
      · rintro _ _ _ hTr le1;obtain⟨e,p,hr3,fb,h,rfl⟩:=cG hTr;cases h
        refine uAa ?_;refine zz2 ?_;refine cK (x6 le2 le1) ?_;simp only[RT,hx,hO,lC,if_neg gc,if_pos gd,hr3,if_true,if_false,↓reduceIte];exact⟨fb,Y,Y⟩
      rintro _ K _ hTr -;obtain⟨r3,hr3,rfl,rfl,rfl⟩:=cH hTr;clear hTr;have hro3:=fX hok2.1 hr3;refine zz4 ?_;refine cA Y Y (yS b s r3 rest b3 b5 b7 dp .nilIface _ Y us _ Bf hs hro3 (hg.mono le2) hd aH hBa (fun st2 K2 lx ho=>hB st2 K2 (x6 le2 lx) ho) hbp hbd) bS Y (fun _ _=>cF _ _) ?_ ?_
      · rintro _ _ _ hTr le1;obtain⟨e,p,hb3,fb,h,rfl⟩:=cG hTr;cases h
        refine uAa ?_;refine aV ?_;refine cK (x6 le2 le1) ?_;simp only[RT,hx,hO,lC,if_neg gc,if_pos gd,hr3,hb3,if_true,if_false,↓reduceIte];exact⟨fb,Y,Y⟩
      rintro _ K6 _ hTr leK6;obtain⟨bb3,hb3,rfl,bv3,ys3,sv3,hrb3,hsb3,rfl⟩:=cH hTr;clear hTr;refine zz5 ?_;refine aA (fE Tryz.underlying287 (fun _ h=>by cases h) Y) Y (zz4 ?_);refine uBg ?_;refine gW fun K9 leS hS=>?_;refine bI Y Y gDU ?_
      first
        | (simp only [RT, hx, hO, lC, if_neg gc, if_pos gd, hr3, hb3]
           obtain⟨hr6,hr7⟩:=qF (o:=none) rfl hrb3 hsb3 hacc (hrp.mono leK6);exact⟨_,Y,⟨_,_,Y,_,_,hr6.mono leS,hS,Y⟩,Y⟩)
        |exact gBH
    have gd:¬(st2.2.kind=1∧st2.2.s=tK):=(fun h=>h61 h.2);refine zz5 ?_;refine aA (fE Tryz.underlying287 (fun _ h=>by cases h) Y) Y (zz4 ?_);refine uBg ?_;refine gW fun K9 leS hS=>?_;refine bI Y Y gDU ?_
    first
      | (simp only [RT, hx, hO, lC, if_neg gc, if_pos gd, hr3, hb3]
         obtain⟨hr6,hr7⟩:=qF (o:=none) rfl hrb3 hsb3 hacc (hrp.mono leK6);exact⟨_,Y,⟨_,_,Y,_,_,hr6.mono leS,hS,Y⟩,Y⟩)
      |exact gBH
  have gd:¬(st2.2.kind=1∧st2.2.s=tK):=(fun h=>by omega);refine zz16 ?_;refine aA (fE Tryz.underlying287 (fun _ h=>by cases h) Y) Y (zz4 ?_);refine uBg ?_;refine gW fun K9 leS hS=>?_;refine bI Y Y gDU ?_
  first
    | (simp only [RT, hx, hO, lC, if_neg gc, if_pos gd, hr3, hb3]
       obtain⟨hr6,hr7⟩:=qF (o:=none) rfl hrb3 hsb3 hacc (hrp.mono leK6);exact⟨_,Y,⟨_,_,Y,_,_,hr6.mono leS,hS,Y⟩,Y⟩)
    |exact gBH
def aRP(b:Nat)(s:List UInt8)(st:St)(dp:Int)(rest:List Value)(K:Hl)(Tf:St→Res (Tree×St))(hs:s.length≤600)(hok:Ok s st)(hg:Glob K)(hd:0≤dp∧dp≤6)(hTa:Adv s Tf)(hT:zR s b rest K (dp+1) Tf):
  Sp x3 159 [ptr b,i64 dp] K [psb b s st rest] (RT s b rest (pD s Tf true st)):=by
 refine bN Tryz.func159 Y Tryz.ntmps159 Y Y fun F w=>?_;refine zz9 ?_;refine cA Y Y (aJ9 b s st true dp rest _ Tf hs hok hg hd hTa hT) bS Y (fun _ _=>cF _ _) ?_ ?_
 ·rintro _ _ _ hTr le1;obtain⟨e,p,hr,fb,h,rfl⟩:=cG hTr;cases h
  refine uAa ?_;refine zz2 ?_;simp only[RT,hr,if_true,if_false,↓reduceIte];exact⟨fb,Y,Y⟩
 rintro _ K1 _ hTr leK1;obtain⟨r,hr,hrep,rfl⟩:=cH hTr;clear hTr;refine zz4 ?_;refine uAa ?_;refine bI Y Y leK1 ?_;simp only[RT,hr,if_true,if_false,↓reduceIte];exact⟨_,Y,hrep,Y⟩
def aRR(b:Nat)(s:List UInt8)(st:St)(dp:Int)(rest:List Value)(K:Hl)(Tf:St→Res (Tree×St))(hs:s.length≤600)(hok:Ok s st)(hg:Glob K)(hd:0≤dp∧dp≤6)(hTa:Adv s Tf)(hT:zR s b rest K (dp+1) Tf):
  Sp x3 161 [ptr b,i64 dp] K [psb b s st rest] (RT s b rest (pD s Tf false st)):=by
 refine bN Tryz.func161 Y Tryz.ntmps161 Y Y fun F w=>?_;refine zz9 ?_;refine cA Y Y (aJ9 b s st false dp rest _ Tf hs hok hg hd hTa hT) bS Y (fun _ _=>cF _ _) ?_ ?_
 ·rintro _ _ _ hTr le1;obtain⟨e,p,hr,fb,h,rfl⟩:=cG hTr;cases h
  refine uAa ?_;refine zz2 ?_;simp only[RT,hr,if_true,if_false,↓reduceIte];exact⟨fb,Y,Y⟩
 rintro _ K1 _ hTr leK1;obtain⟨r,hr,hrep,rfl⟩:=cH hTr;clear hTr;refine zz4 ?_;refine uAa ?_;refine bI Y Y leK1 ?_;simp only[RT,hr,if_true,if_false,↓reduceIte];exact⟨_,Y,hrep,Y⟩
def aKA(k k':List UInt8)(v:Value)(c:Nat)(es:List Ent):mget ((k',v,c)::es) k=if k=k' then some v else mget es k:=by
 unfold mget;rw[List.find?_cons]
 by_cases h:k=k'
 ·subst h;simp
 simp[h]
def aPJ(k:List UInt8):mget [] k=none:=rfl
structure PE (s:List UInt8) (needs:List (List UInt8)) (nv:Value) (cb tb:Nat) (K:Hl):Prop where
 pk:PK s needs nv K
 tabs:Tabs K cb tb
def PE.mono{s:List UInt8}{needs:List (List UInt8)}{nv:Value}{cb tb:Nat}{K K':Hl}(h:PE s needs nv cb tb K)(le:K.le K'):PE s needs nv cb tb K':=⟨h.pk.mono le,h.tabs.mono le⟩
def bA1(b:Nat)(s:List UInt8)(st:St)(dp:Int)(nv:Value)(rest:List Value)(needs:List (List UInt8))(K:Hl)(Tf:St→Res (Tree×St))(hp:PK s needs nv K)(hok:Ok s st)(hd:0≤dp∧dp≤6)(hTa:Adv s Tf)(hT:zR s b (nv::rest) K (dp+1) Tf)
  {es:List Ent} (he:es=[(j6,fnV 155,0),(iB,fnV 156,1),(rJ,fnV 157,2),(lZ,fnV 159,3),(l4,fnV 161,4),(gU,fnV 162,5),(dS,fnV 164,6),(gV,fnV 165,7),(kP,fnV 166,8),(nL,fnV 168,9)]):
  (mget es st.2.s=none∧pN s needs Tf st=none)∨∃fn r,mget es st.2.s=some (fnV fn)∧pN s needs Tf st=some r∧Sp x3 fn [ptr b,i64 dp] K [psb b s st (nv::rest)] (RT s b (nv::rest) r):=by
 subst he;unfold pN;simp only[aKA,aPJ]
 by_cases h1:st.2.s=j6
 ·simp only[if_pos h1];exact .inr ⟨_,_,Y,Y,bBD b s st dp _ K hp.hs hok hp.hg⟩
 simp only[if_neg h1]
 by_cases h2:st.2.s=iB
 ·simp only[if_pos h2];exact .inr ⟨_,_,Y,Y,aSS b s st dp _ K hp.hs hok hp.hg⟩
 simp only[if_neg h2]
 by_cases h3:st.2.s=rJ
 ·simp only[if_pos h3];exact .inr ⟨_,_,Y,Y,bEE b s st dp _ K Tf hp.hs hok hp.hg hd hT⟩
 simp only[if_neg h3]
 by_cases h4:st.2.s=lZ
 ·simp only[if_pos h4];exact .inr ⟨_,_,Y,Y,aRP b s st dp _ K Tf hp.hs hok hp.hg hd hTa hT⟩
 simp only[if_neg h4]
 by_cases h5:st.2.s=l4
 ·simp only[if_pos h5];exact .inr ⟨_,_,Y,Y,aRR b s st dp _ K Tf hp.hs hok hp.hg hd hTa hT⟩
 simp only[if_neg h5]
 by_cases h6:st.2.s=gU
 ·simp only[if_pos h6];exact .inr ⟨_,_,Y,Y,aO4 b s st dp nv rest needs K hok hp⟩
 simp only[if_neg h6]
 by_cases h7:st.2.s=dS
 ·simp only[if_pos h7];exact .inr ⟨_,_,Y,Y,aI7 b s st dp nv rest needs K hok hp⟩
 simp only[if_neg h7]
 by_cases h8:st.2.s=gV
 ·simp only[if_pos h8];exact .inr ⟨_,_,Y,Y,aQX b s st dp nv rest needs K hok hp⟩
 simp only[if_neg h8]
 by_cases h9:st.2.s=kP
 ·simp only[if_pos h9];exact .inr ⟨_,_,Y,Y,aOV b s st dp _ K hp.hs hok hp.hg⟩
 simp only[if_neg h9]
 by_cases h10:st.2.s=nL
 ·simp only[if_pos h10];exact .inr ⟨_,_,Y,Y,bAM b s st dp _ K hp.hs hok hp.hg⟩
 simp only[if_neg h10];exact .inl (by simp)
def aAD(s:List UInt8)(needs:List (List UInt8))(dp:Int)(Tf:St→Res (Tree×St))(st:St):Res (Tree×St):=
 if st.2.kind=1 then (if 6 < dp then .error (5,st.2.at_)else match pN s needs Tf st with|some r=>r|none=>.error (4,st.2.at_))else .error (4,st.2.at_)
def aK3(b:Nat)(s:List UInt8)(st:St)(dp:Int)(nv n1:Value)(cb tb:Nat)(needs:List (List UInt8))(K:Hl)(Tf:St→Res (Tree×St))(hp:PE s needs nv cb tb K)(hok:Ok s st)(hd:0≤dp∧dp≤7)(hTa:Adv s Tf)
  (hT:dp≤6→zR s b [nv,n1,.map (some cb),.map (some tb)] K (dp+1) Tf):
  Sp x3 158 [ptr b,i64 dp] K [psb b s st [nv,n1,.map (some cb),.map (some tb)]] (RT s b [nv,n1,.map (some cb),.map (some tb)] (aAD s needs dp Tf st)):=by
 have ha:=hok.1;obtain⟨hpk,hcm,htm⟩:=hp;refine bN Tryz.func158 Y Tryz.ntmps158 Y Y fun F w=>?_;refine zz17 ?_;refine aY 13 Y (fun h13=>?_) (fun h13=>?_)
 ·have g13:¬st.2.kind=1:=by omega
  refine zz2 ?_;refine cA Y Y (lW b s st _ _) bS Y gC6 ?_ ?_
  ·rintro _ _ _ ⟨fb,h,rfl⟩ le1;cases h
   refine uAa ?_;refine zz2 ?_;simp only[RT,aAD,if_neg g13,if_true,if_false,↓reduceIte];exact⟨fb,Y,Y⟩
  rintro _ _ _ ⟨_,h,_⟩;cases h
 have g13:st.2.kind=1:=by omega
 refine zz9 ?_;refine aY 17 Y (fun h17=>?_) (fun h17=>?_)
 ·have g17:6 < dp:=by omega
  refine zz7 ?_;refine cA Y Y (iD 5 st.2.at_ _) .nil Y gC6 ?_ ?_
  ·rintro _ _ _ ⟨fb,h,rfl⟩ le1;cases h
   refine uAa ?_;refine zz2 ?_;simp only[RT,aAD,if_pos g13,if_pos g17,if_true,if_false,↓reduceIte];exact⟨fb,Y,Y⟩
  rintro _ _ _ ⟨_,h,_⟩;cases h
 have g17:¬6 < dp:=by omega
 have hdisp:=bA1 b s st dp nv _ needs _ Tf hpk hok ⟨hd.1,by omega⟩ hTa (hT aH) rfl;refine zz3 ?_;refine cZ (anc:=[0,1,3,7,0,16,48,112,240,496,1023,2047,4095,4095,8191,32767]) (ord:=[0,1,2,3,4,5,6,7,8,9,10,11,12,13,14,15]) [] [] mixed gC5 (cQ _) (zz10 ?_);refine aJ Y Y (.none Y) Y Y (aGQ Tryz.underlying211 Tryz.underlying9 bPN Y Y (.known htm)) Y (zz11 ?_);refine aA gC3 Y (zz2 ?_);refine d9 40 Y (fun h40=>?_) (fun h40=>?_)
 ·rcases hdisp with ⟨hm,hdn⟩|⟨fn,r,hm,hds,hsp⟩
  case inr=>exact absurd h40 (by rw[hm];simp)
  refine zz2 ?_;refine cA Y Y (lW b s st _ _) bS Y gC6 ?_ ?_
  ·rintro _ _ _ ⟨fb,h,rfl⟩ le1;cases h
   refine uAa ?_;refine zz2 ?_;simp only[RT,aAD,if_pos g13,if_neg g17,hdn,if_true,if_false,↓reduceIte];exact⟨fb,Y,Y⟩
  rintro _ _ _ ⟨_,h,_⟩;cases h
 rcases hdisp with ⟨hm,hdn⟩|⟨fn,r,hm,hds,hsp⟩
 case inl=>exact absurd h40 (by rw[hm];simp)
 refine zz7 ?_;refine cA (xAE some (by rw[hm];rfl)) Y hsp bS Y (fun _ _=>cF _ _) ?_ ?_
 ·rintro _ _ _ hTr le1;obtain⟨e,p,ht,fb,h,rfl⟩:=cG hTr;cases h
  refine uAa ?_;refine zz2 ?_;simp only[RT,aAD,if_pos g13,if_neg g17,hds,ht,if_true,if_false,↓reduceIte];exact⟨fb,Y,Y⟩
 rintro _ K1 _ hTr leK1;obtain⟨t,ht,hrep,rfl⟩:=cH hTr;clear hTr;refine zz4 ?_;refine uAa ?_;refine bI Y Y leK1 ?_;simp only[RT,aAD,if_pos g13,if_neg g17,hds,ht,if_true,if_false,↓reduceIte];exact⟨_,Y,hrep,Y⟩
def aUP(s:List UInt8)(needs:List (List UInt8))(Tf:St→Res (Tree×St))(st:St):aAD s needs 7 Tf st=Syn.test s needs 0 st:=by
 unfold aAD Syn.test;simp
def aUO(s:List UInt8)(needs:List (List UInt8))(n:Nat)(dp:Int)(h:dp≤6)(st:St):aAD s needs dp (Syn.test s needs n) st=Syn.test s needs (n+1) st:=by
 unfold aAD;rw[Syn.test,x5 (show ¬6 < dp by omega)] <;> split <;> first|rfl|(cases pN s needs (Syn.test s needs n) st <;> rfl)
def bA5(b:Nat)(s:List UInt8)(nv n1:Value)(cb tb:Nat)(needs:List (List UInt8)):∀(n:Nat),n≤7→∀(K:Hl),PE s needs nv cb tb K→zR s b [nv,n1,.map (some cb),.map (some tb)] K (7 - n) (Syn.test s needs n):=by
 intro n;induction n with
 |zero=>
  intro _ K hp st K' le hok;have h:=aK3 b s st 7 nv n1 cb tb needs K' (Syn.test s needs 0) (hp.mono le) hok ⟨by decide,by decide⟩ (nI 0) (fun h=>absurd h (by decide));rw[aUP]at h;exact h
 |succ n ih=>
  intro hn K hp st K' le hok;have h := aK3 b s st (7 - (n + 1 : Nat)) nv n1 cb tb needs K' (Syn.test s needs n) (hp.mono le) hok ⟨by omega, by omega⟩ (nI n) (fun _ => by
   have:=ih aH K' (hp.mono le);rw[show ((7:Int) - ((n+1:Nat):Int)+1)=7 - (n:Nat)from by omega];exact this)
  rw[aUO s needs n _ aH]at h;exact h
def aT9(b:Nat)(s:List UInt8)(st:St)(at_ dp:Int)(nv:Value)(rest:List Value)(needs:List (List UInt8))(K:Hl)(hp:PK s needs nv K)(hok:Ok s st):
  Sp x3 153 [ptr b,i64 at_,i64 dp] K [psb b s st (nv::rest)] (RT s b (nv::rest) (rC s needs st)):=by
 refine(bF6 b s st at_ dp nv rest needs K hp.hs hok hp.hg hp.hv hp.hn).mono fun e K' L' h=>?_;unfold RT rC;cases hs:setC s needs st with
 |error p=>rw[hs]at h;exact h
 |ok r=>
  rw[hs]at h;obtain⟨v,rfl,_,rfl,rfl⟩:=h;exact⟨_,Y,⟨_,_,Y,Y⟩,Y⟩
def bCC(b:Nat)(s:List UInt8)(st:St)(dp:Int)(nv:Value)(rest:List Value)(needs:List (List UInt8))(K:Hl)(Tf Bf:St→Res (Tree×St))(hp:PK s needs nv K)(hok:Ok s st)(hd:0≤dp∧dp≤6)(hTa:Adv s Tf)(hBa:AdvE s Bf)(hT:zR s b (nv::rest) K (dp+1) Tf)(hB:aF3 s b (nv::rest) K (dp+1) Bf)
  {cb tb:Nat} (ht:Tabs K cb tb):∃es c,K cb=some (mapO es c)∧
  ((mget es st.2.s=none∧cmdD s needs Tf Bf st=none)∨∃fn caps r,mget es st.2.s=some (.func (.func fn) #[] caps)∧cmdD s needs Tf Bf st=some r∧Sp x3 fn ([ptr b,i64 st.2.at_,i64 dp]++caps.toList) K [psb b s st (nv::rest)] (RT s b (nv::rest) r)):=by
 obtain⟨c1,c2,c3,d1,e1,d2,e2,d3,e3,h0,k1,k2,k3,k4,k5,k6,k7,k8,k9⟩:=ht.cmds;refine⟨_,_,h0,?_⟩
 unfold cmdD;simp only[aKA,aPJ]
 by_cases h1:st.2.s=qL
 ·simp only[if_pos h1];exact .inr ⟨_,_,_,Y,Y,wJ b s st st.2.at_ dp _ c1 _ _ _ K hp.hs hok hp.hg k1 (fun K=>bJY _ K) (fun K=>aP4 K _ _ _)⟩
 simp only[if_neg h1]
 by_cases h2:st.2.s=jV
 ·simp only[if_pos h2];exact .inr ⟨_,_,_,Y,Y,wJ b s st st.2.at_ dp _ c2 _ _ _ K hp.hs hok hp.hg k2 (fun K=>bJZ _ K) (fun K=>aHW K _)⟩
 simp only[if_neg h2]
 by_cases h3:st.2.s=mQ
 ·simp only[if_pos h3];exact .inr ⟨_,_,_,Y,Y,wJ b s st st.2.at_ dp _ c3 _ _ _ K hp.hs hok hp.hg k3 (fun K=>bJ0 _ K) (fun K=>aHW K _)⟩
 simp only[if_neg h3]
 by_cases h4:st.2.s=fV
 ·simp only[if_pos h4];exact .inr ⟨_,_,_,Y,Y,vP b s st st.2.at_ dp nv rest needs d1 e1 _ _ K hp.hs hok hp.hg hp.hv hp.hn k4 k5⟩
 simp only[if_neg h4]
 by_cases h5:st.2.s=gR
 ·simp only[if_pos h5];exact .inr ⟨_,_,_,Y,Y,vP b s st st.2.at_ dp nv rest needs d2 e2 _ _ K hp.hs hok hp.hg hp.hv hp.hn k6 k7⟩
 simp only[if_neg h5]
 by_cases h6:st.2.s=iO
 ·simp only[if_pos h6];exact .inr ⟨_,_,_,Y,Y,vP b s st st.2.at_ dp nv rest needs d3 e3 _ _ K hp.hs hok hp.hg hp.hv hp.hn k8 k9⟩
 simp only[if_neg h6]
 by_cases h7:st.2.s=tM
 ·simp only[if_pos h7];exact .inr ⟨_,_,_,Y,Y,aT9 b s st st.2.at_ dp nv rest needs K hp hok⟩
 simp only[if_neg h7]
 by_cases h8:st.2.s=txIf
 ·simp only[if_pos h8];exact .inr ⟨_,_,_,Y,Y,aI5 b s st _ st.2.at_ dp K Tf Bf hp.hs hok hp.hg hd hTa hBa hT hB⟩
 simp only[if_neg h8];exact .inl (by simp)
def cmdG(s:List UInt8)(needs:List (List UInt8))(dp:Int)(Tf Bf:St→Res (Tree×St))(st:St):Option (Res (Tree×St)):=if 6 < dp then some (.error (5,st.2.at_))else cmdD s needs Tf Bf st
def aGD(b:Nat)(s:List UInt8)(st:St)(dp:Int)(nv n1:Value)(cb tb:Nat)(needs:List (List UInt8))(K:Hl)(Tf Bf:St→Res (Tree×St))(hp:PE s needs nv cb tb K)(hok:Ok s st)(hd:0≤dp∧dp≤7)(hTa:Adv s Tf)(hBa:AdvE s Bf)
  (hT:dp≤6→zR s b [nv,n1,.map (some cb),.map (some tb)] K (dp+1) Tf) (hB:dp≤6→aF3 s b [nv,n1,.map (some cb),.map (some tb)] K (dp+1) Bf) (r0:Res (Tree×St)) (hr0:kQ s (cmdG s needs dp Tf Bf) (mu s st+1) .cnil st=r0):
  Sp x3 114 [ptr b,i64 dp] K [psb b s st [nv,n1,.map (some cb),.map (some tb)]] (RB s b [nv,n1,.map (some cb),.map (some tb)] r0):=by
 have ha:=hok.1;obtain⟨hpk,htabs⟩:=hp;refine bN Tryz.func114 Y Tryz.ntmps114 Y Y fun F w=>?_;refine zz12 ?_;refine nZ (fun(K2:Hl) (st2:St) (us:List (Cell×Cell)) (v:Value)=>K.le K2∧Ok s st2∧us.length+mu s st2≤1300∧∃acc f,isCL acc=true∧Rep K2 acc us∧mu s st2≤f∧r0=kQ s (cmdG s needs dp Tf Bf) (f+1) acc st2) (fun _ _ _ v=>[(0,ptr b),(1,i64 dp),(5,v)]) (fun K2 _ _ _=>K2) (fun _ st2 us v=>[sl false (cC 198) v (us.map Prod.fst),psb b s st2 [nv,n1,.map (some cb),.map (some tb)]]) (fun _ st2 _ _=>mu s st2) K st [] (.slice none 0 0) ⟨xAB _,hok,by have:=xP s st;have:=hpk.hs;simp;omega,.cnil,mu s st,rfl,rfl,xAA _,hr0.symm⟩ aS Y (eL (cC 198)) ?_;intro K2 st2 us v ⟨leL,hok2,hus,acc,f,hacc,hrp,hf,hx⟩;refine zz12 ?_;refine aY 15 Y (fun h15=>?_) (fun h15=>?_)
 ·have g15:st2.2.kind=1:=by omega
  refine zz21 ?_;refine aY 23 Y (fun h23=>?_) (fun h23=>?_)
  ·have g23:cmdG s needs dp Tf Bf st2=some (.error (5,st2.2.at_)):=x7 aH;refine zz2 ?_;refine cA Y Y (iD 5 st2.2.at_ _) .nil Y gC6 ?_ ?_
   ·rintro _ _ _ ⟨fb,h,rfl⟩ le1;cases h
    refine uAa ?_;refine zz5 ?_;refine cK (x6 leL le1) ?_;simp only[RB,hx,kQ,if_pos g15,g23,if_true,if_false,↓reduceIte];exact⟨fb,Y,Y⟩
   rintro _ _ _ ⟨_,h,_⟩;cases h
  have g23:cmdG s needs dp Tf Bf st2=cmdD s needs Tf Bf st2:=x5 aH;obtain⟨es,ec,hes,hdisp⟩:=bCC b s st2 dp nv _ needs _ Tf Bf (hpk.mono leL) hok2 ⟨hd.1,by omega⟩ hTa hBa (fun st3 K3 lx ho=>hT aH st3 K3 (x6 leL lx) ho) (fun st3 K3 lx ho=>hB aH st3 K3 (x6 leL lx) ho) (htabs.mono leL);refine zz3 ?_;refine cZ (anc:=[0,1,3,7,0,16,48,112,240,496,1023,2047,4095,4095,8191,32767]) (ord:=[0,1,2,3,4,5,6,7,8,9,10,11,12,13,14,15]) [] [] mixed gC5 (cQ _) (zz10 ?_);refine aJ Y Y (.none Y) Y Y (aGQ Tryz.underlying210 Tryz.underlying9 bPM Y Y (.known hes)) Y (zz11 ?_);refine aA gC3 Y (zz2 ?_);refine d9 41 Y (fun h41=>?_) (fun h41=>?_)
  ·rcases hdisp with ⟨hm,hdn⟩|⟨fn,caps,r,hm,hds,hsp⟩
   case inr=>exact absurd h41 (by rw[hm];simp)
   refine zz2 ?_;refine cA Y Y (lW b s st2 _ _) bS Y gC6 ?_ ?_
   ·rintro _ _ _ ⟨fb,h,rfl⟩ le1;cases h
    refine uAa ?_;refine zz5 ?_;refine cK (x6 leL le1) ?_;simp only[RB,hx,kQ,if_pos g15,g23,hdn,if_true,if_false,↓reduceIte];exact⟨fb,Y,Y⟩
   rintro _ _ _ ⟨_,h,_⟩;cases h
  rcases hdisp with ⟨hm,hdn⟩|⟨fn,caps,r,hm,hds,hsp⟩
  case inl=>exact absurd h41 (by rw[hm];simp)
  refine zz8 ?_;refine cA (xAE some (by rw[hm];rfl)) Y hsp bS Y (fun _ _=>cF _ _) ?_ ?_
  ·rintro _ _ _ hTr le1;obtain⟨e,p,hc2,fb,h,rfl⟩:=cG hTr;cases h
   refine uAa ?_;refine zz4 ?_;refine cK (x6 leL le1) ?_;simp only[RB,hx,kQ,if_pos g15,g23,hds,hc2,if_true,if_false,↓reduceIte];exact⟨fb,Y,Y⟩
  rintro _ K3 _ hTr leK3;obtain⟨c2,hc2,⟨ty2,u2,rfl,hrep2⟩,rfl⟩:=cH hTr;clear hTr;have hm2:=aBI hTa hBa hok2 aH (by rw[hds,hc2]);refine cJ (bM (z0:=[.nilIface]) yJ bPT Y Y Y Y dF) Y ?_;rintro _ K _ ⟨b50,rfl,rfl,rfl⟩ -;refine cJ (dQ (k:=(cC 198)) (ys:=[⟨.iface ty2 u2,Y⟩]) aIH Y Y (.there (.there .here)) (fun w j=>dJ Tryz.underlying147 (SeesSl.at (.blk aL Y Y) j)) gC7 gC9) Y ?_;rintro v51 K _ ⟨rfl,rfl,ho51⟩ -;refine zz3 ?_;obtain⟨f0,rfl⟩:∃f0,f=f0+1:=⟨f - 1,by omega⟩;obtain⟨hr3,hr4⟩:=aZW hrep2 hacc (hrp.mono leK3);refine aQ (aM bW (aM cI bF)) ?_;refine fH _ c2.2 (us++[(⟨.iface ty2 u2,Y⟩,u0)]) _ ⟨x6 leL leK3,hm2.1,by simp;omega,acc.snocC c2.1,f0,hr4,hr3,by omega,?_⟩ aH aS Y (by rw[List.map_append];exact fun _ h=>h)
  simp only[RB,hx,kQ,if_pos g15,g23,hds,hc2,if_true,if_false,↓reduceIte]
 have g15:¬st2.2.kind=1:=by omega
 refine zz12 ?_;refine uAo ?_;refine bI Y Y leL ?_;simp only[RB,hx,kQ,if_neg g15,if_true,if_false,↓reduceIte];exact⟨_,Y,us,hrp,hacc,Y⟩
def aXF(s:List UInt8)(needs:List (List UInt8))(Tf Bf:St→Res (Tree×St))(st:St):kQ s (cmdG s needs 7 Tf Bf) (mu s st+1) .cnil st=Syn.block s needs 0 st:=by
 unfold kQ Syn.block
 by_cases h:st.2.kind=1
 ·rw[x7 h,x7 h];rfl
 rw[x5 h,x5 h]
def aXE(s:List UInt8)(needs:List (List UInt8))(dp:Int)(h:dp≤6)(Tf Bf:St→Res (Tree×St)):cmdG s needs dp Tf Bf=cmdD s needs Tf Bf:=by
 funext st;unfold cmdG;rw[x5 aH]
def aRY(b:Nat)(s:List UInt8)(nv n1:Value)(cb tb:Nat)(needs:List (List UInt8)):∀(n:Nat),n≤7→∀(K:Hl),PE s needs nv cb tb K→aF3 s b [nv,n1,.map (some cb),.map (some tb)] K (7 - n) (Syn.block s needs n):=by
 intro n;induction n with
 |zero=>
  intro _ K hp st K' le hok;have h:=aGD b s st 7 nv n1 cb tb needs K' (Syn.test s needs 0) (Syn.block s needs 0) (hp.mono le) hok ⟨by decide,by decide⟩ (nI 0) (sF 0) (fun h=>absurd h (by decide)) (fun h=>absurd h (by decide)) _ (aXF s needs _ _ st);exact h
 |succ n ih=>
  intro hn K hp st K' le hok;have e:((7:Int) - ((n+1:Nat):Int)+1)=7 - (n:Nat):=by omega
  have h:=aGD b s st (7 - (n+1:Nat)) nv n1 cb tb needs K' (Syn.test s needs n) (Syn.block s needs n) (hp.mono le) hok ⟨by omega,by omega⟩ (nI n) (sF n)
   (fun _=>by rw[e];exact bA5 b s nv n1 cb tb needs n aH K' (hp.mono le)) (fun _=>by rw[e];exact ih aH K' (hp.mono le)) _ (by rw[aXE s needs _ aH])
  exact h
def aTI(b2 b3:Nat)(K:Hl)(L:List Asn):SpD x3 108 [ptr b2,ptr b3] K L .returning fun e u' K' L'=>u'=.returning∧(e=.returned (.tuple #[])∧K'=K∧L'=L):=by
 refine aM9 (rv:=.nilIface) (u':=.returning) Tryz.func108 Y Tryz.ntmps108 Y Y Y Y zY fun F w=>?_;refine zz9 ?_;exact⟨Y,Y,Y⟩
def aTH(b2 b3 fb:Nat)(v1 v2:Value)(K:Hl):SpD x3 108 [ptr b2,ptr b3] K [pt b3 (bL [v2] 83),pt b2 (bL [v1] 100)] (.panicking [{v:=.iface 126 (ptr fb),recovered:=false}])
  fun e u' K' L'=>u'=.panicking [{v:=.iface 126 (ptr fb),recovered:=true}]∧(e=.returned (.tuple #[])∧K'=K∧L'=[pt b3 (bL [.iface 126 (ptr fb)] 83),pt b2 (bL [.pointer none] 100)]):=by
 refine aM9 (rv:=.iface 126 (ptr fb)) (u':=.panicking [{v:=.iface 126 (ptr fb),recovered:=true}]) Tryz.func108 Y Tryz.ntmps108 Y Y Y Y zX fun F w=>?_;refine zz10 ?_;refine aA (jX Tryz.underlying126 (fun _ h=>by cases h) Y) Y (zz11 ?_);refine aA gC3 Y (zz7 ?_);refine aA (fE Tryz.underlying126 (fun _ h=>by cases h) Y) Y ?_;refine cD (bX aCX Y Y dA bR .zero Y) ?_;rintro _ K _ ⟨rfl,rfl⟩ -;refine uAq ?_;rintro _ K _ ⟨rfl,rfl⟩ -;refine zz2 ?_;exact⟨Y,Y,Y⟩
structure ScriptAt (K:Hl) (b:Nat) (needs:List (List UInt8)) (t:Tree):Prop where
 at_:∃l nv bv ys fz,K b=some (bL l 213 fz)∧l[6]?=some nv∧l[7]?=some bv∧Ksl (a7 9) K nv needs∧Ksl (cC 198) K bv (ys.map Prod.fst)∧Rep K t ys∧isCL t=true
def bLY(s:List UInt8)(v:Value)(K:Hl):Prop:=
 (600 < s.length∧v=.tuple #[.pointer none,.iface 50 (i64 1)])∨
 (s.length≤600∧((∃b r,gN s=.ok r∧v=.tuple #[ptr b 6,.nilIface]∧ScriptAt K b r.1 r.2)∨(∃fb e p,gN s=.error (e,p)∧v=.tuple #[.pointer none,.iface 126 (ptr fb)]∧K fb=some (bL [i64 e,i64 p] 131))))
abbrev aRN(s:List UInt8):Ending→Hl→List Asn→Prop:=Ret fun v K' L'=>bLY s v K'∧L'=[]
def oX{n:Nat}{w:World}{F K0 K:Hl}{fr:Fr}{b2 b3 fb:Nat}{v1 v2:Value}{e p:Int}{s:List UInt8}(g2:fr.get 2=some (ptr b2))(g3:fr.get 3=some (ptr b3))(le:K0.le K)(hs:s.length≤600)(h:gN s=.error (e,p)):
  D ⟨x3,n,[dfr 108 #[ptr b2,ptr b3]],w,F⟩ (.panic [{v:=.iface 126 (ptr fb),recovered:=false}]) fr K [pt fb (bL [i64 e,i64 p] 131),pt b3 (bL [v2] 83),pt b2 (bL [v1] 100)] (aBA x3 Tryz.f79 w F K0 (aRN s)):=by
 refine fB fun K1 le1 hfb=>?_;refine bCK (.pan _) Y aCX aCY g2 g3 (aM bW (aM bW bF)) (aTH b2 b3 fb v1 v2 K1) Y ?_;rintro _ _ _ ⟨rfl,rfl,rfl⟩;exact⟨⟨_,Y⟩,fun le2=>⟨_,_,[],fun _ hh=>iM hh,⟨_,Y,.inr ⟨hs,.inr ⟨fb,e,p,h,Y,hfb⟩⟩,Y⟩,x6 le le1⟩⟩
def aKF{n:Nat}{w:World}{F K0 K:Hl}{fr:Fr}{b2 b3 b:Nat}{s:List UInt8}{r:List (List UInt8)×Tree}(g2:fr.get 2=some (ptr b2))(g3:fr.get 3=some (ptr b3))(le:K0.le K)(hs:s.length≤600)(h:gN s=.ok r)(hat:ScriptAt K b r.1 r.2):
  D ⟨x3,n,[dfr 108 #[ptr b2,ptr b3]],w,F⟩ .ret fr K [pt b3 (bL [.nilIface] 83),pt b2 (bL [ptr b 6] 100)] (aBA x3 Tryz.f79 w F K0 (aRN s)):=by
 refine bCK .ret Y aCX aCY g2 g3 (aM bW (aM bW bF)) (aTI b2 b3 K _) Y ?_;rintro _ _ _ ⟨rfl,rfl,rfl⟩;exact⟨⟨_,Y⟩,fun le2=>⟨_,_,[],fun _ hh=>iM hh,⟨_,Y,.inr ⟨hs,.inl ⟨b,r,h,Y,hat⟩⟩,Y⟩,le⟩⟩
def aEK(b:Nat)(s:List UInt8)(nv n1:Value)(cb tb:Nat)(needs:List (List UInt8))(K:Hl)(hp:PE s needs nv cb tb K)(st:St)(hok:Ok s st):Sp x3 114 [ptr b,i64 0] K [psb b s st [nv,n1,.map (some cb),.map (some tb)]] (RB s b [nv,n1,.map (some cb),.map (some tb)] (Syn.block s needs 7 st)):=
 aRY b s nv n1 cb tb needs 7 (xAA _) K hp st K (xAB _) hok
def aTJ(s:List UInt8)(K:Hl)(hg:Glob K):Sp x3 79 [str s] K [] (aRN s):=by
  refine aID Tryz.func79 Y Tryz.ntmps79 Y Y fun F w=>?_;refine zz3 ?_;rintro _ K _ ⟨b2,rfl,rfl,rfl⟩ -;refine zz1 ?_;rintro _ K _ ⟨b3,rfl,rfl,rfl⟩ -;refine zz10 ?_;refine aY 9 Y (fun h9=>?_) (fun h9=>?_)
  · refine zz2 ?_;refine aA (fE Tryz.underlying50 (fun _ h=>by cases h) Y) Y ?_;refine cD (bX aCX Y Y dA bR .zero Y) ?_;rintro _ K _ ⟨rfl,rfl⟩ -;refine uAq ?_;rintro _ K _ ⟨rfl,rfl⟩ -;refine zz4 ?_;refine bH7 Y aCX aCY Y Y (aM cI (aM bW bF)) (xAB _) ?_;exact⟨_,Y,.inl ⟨by omega,rfl⟩,Y⟩
  have hs:s.length≤600:=by omega
  refine zz5 ?_;refine aPO Y (zz5 ?_);refine aA (dG bO7 bNE dF) Y ?_;refine aA (dG bO8 bNF dF) Y (zz1 ?_);rintro _ K _ ⟨b15,rfl,rfl,rfl⟩ -;refine zz6 ?_;refine bA Y Y (aQ0 b15 s (0,⟨0,[],0,0⟩) _ _ _) bS Y ?_;rintro _ K1 _ ⟨rfl,cb,tb,htab,rfl⟩ leT;refine zz7 ?_;refine cA Y Y (fN b15 213 s 0 _ _ _ _ _ hs (x9 _) _ (hg.mono leT)) bS Y (fun _ _=>cF _ _) ?_ ?_
  · rintro _ _ _ hTr le1;obtain⟨e,p,hr,fb,h,rfl⟩:=cG hTr;cases h
    refine uAz ?_;refine aV ?_;exact oX Y Y (x6 leT le1) hs (by simp only[gN,hr,if_true,if_false,↓reduceIte])
  rintro _ K _ hTr -;obtain⟨r,hr,rfl,rfl,rfl⟩:=cH hTr;clear hTr;have hro:=fX (x9 _) hr;refine zz4 ?_;refine lK (fun(st2:St) (ns:List (List UInt8)) (sv:Value)=>Ok s st2∧ns.length+mu s st2≤1300∧∃f,mu s st2≤f∧gN s=jP s (reqF s (f+1) ns st2)) (fun _ _ _=>[(2,ptr b2),(3,ptr b3),(4,ptr b15)]) (fun _ _ _=>K) (fun st2 ns sv=>[sl false (a7 9) sv ns,psb b15 s st2 [sv,.slice none 0 0,.map (some cb),.map (some tb)],pt b3 (bL [.nilIface] 83),pt b2 (bL [.pointer none] 100)]) (fun st2 _ _=>mu s st2) r [] (.slice none 0 0) ⟨hro,by have:=xP s r;simp;omega,mu s r,xAA _,by simp only[gN,hr]⟩ aS Y (eL (a7 9)) ?_;intro st2 ns sv ⟨hok2,hns,f,hf,hx⟩;refine zz11 ?_;refine bV 29 Y (fun g29=>?_) (fun g29=>?_)
  · have g29:st2.2.kind=1:=by omega
    refine zz17 ?_;refine aY 37 Y (fun h37=>?_) (fun h37=>?_)
    · have gc:st2.2.kind=1∧st2.2.s=o5:=⟨by omega,h37⟩;refine zz8 ?_;refine cA Y Y (fN b15 213 s st2.1 _ _ _ _ _ hs hok2.1 _ (hg.mono leT)) bS Y (fun _ _=>cF _ _) ?_ ?_
      · rintro _ _ _ hTr le1;obtain⟨e,p,hr2,fb,h,rfl⟩:=cG hTr;cases h
        refine uAy ?_;refine zz5 ?_;exact oX Y Y (x6 leT le1) hs (by simp only[hx,reqF,jP,if_pos gc,hr2,if_true,if_false,↓reduceIte])
      rintro _ K _ hTr -;obtain⟨r2,hr2,rfl,rfl,rfl⟩:=cH hTr;clear hTr;have hm2:=gY hok2.1 aH hr2;have hro2:=fX hok2.1 hr2;refine zz6 ?_;refine cJ (bM (z0:=[(str []),(str []),(str []),(str [])]) cB tz9 Y Y Y Y dF) Y ?_;rintro _ K _ ⟨b43,rfl,rfl,rfl⟩ -;refine kL fun Ka leA hKa=>?_;refine bA Y Y (qE 6 _ _ Y) .nil Y ?_;rintro _ Kb _ ⟨c1,c2,rfl,hc1,hc2,rfl⟩ leB;refine cA Y Y (wA b15 s r2 _ 182 #[ptr c1,ptr c2] (Syn.oneOf 6 tL) _ hs hro2 (hg.mono (x6 leT (x6 leA leB))) (fun x hx=>oW x 6 tL _ c1 c2 _ hc1 hc2 (.inr ⟨b43,0,4,[str dS,str fV,str iO,str eB],(0,0),Y,⟨_,leB _ _ hKa⟩,Y⟩) (by simp[tL]))) bS Y (fun _ _=>cF _ _) ?_ ?_
      · rintro _ _ _ hTr le1;obtain⟨e,p,hl,fb,h,rfl⟩:=cG hTr;cases h
        refine uAy ?_;refine zz6 ?_;exact oX Y Y (x6 leT (x6 leA (x6 leB le1))) hs (by simp only[hx,reqF,jP,if_pos gc,hr2,hl,if_true,if_false,↓reduceIte])
      rintro v45 K _ hTr -;obtain⟨l,hl,rfl,rfl⟩:=cH hTr;clear hTr;have hlo:=oK hro2 hl;have hll:=xK hro2 hl;refine uAc ?_;refine zz4 ?_;refine lK (fun(i:Nat) (ms:List (List UInt8)) (sw:Value)=>i≤l.1.length∧ms=jK ns (l.1.take i)∧ms.length≤ns.length+i) (fun i _ _=>[(2,ptr b2),(3,ptr b3),(4,ptr b15),(45,v45),(46,i64 l.1.length),(47,i64 i)]) (fun _ _ _=>_) (fun i ms sw=>[sl false (a7 9) v45 l.1,psb b15 s l.2 [sw,.slice none 0 0,.map (some cb),.map (some tb)],sl false (a7 9) sw ms,pt b3 (bL [.nilIface] 83),pt b2 (bL [.pointer none] 100)]) (fun i _ _=>l.1.length - i) 0 ns sv ⟨x9 _,Y,xAA _⟩ aS Y (fun _ h=>h) ?_;intro i ms sw ⟨hi0,hms,hml⟩;refine zz6 ?_;refine aY 48 Y (fun h48=>?_) (fun h48=>?_)
      · have hilt:i < l.1.length:=by omega
        obtain⟨e,he⟩:∃e,l.1[i]?=some e:=⟨l.1[i]'hilt,x4 hilt⟩;refine zz6 ?_;refine aA (aX (k:=(a7 9)) cB Y aL Y Y gDB) Y ?_;refine uAg ?_;refine zz9 ?_;refine bA Y Y (aO3 b15 e ms _ 213 sw _ [psb b15 s l.2 [sw,.slice none 0 0,.map (some cb),.map (some tb)],sl false (a7 9) sw ms] aL Y aL (by have:=xP s r2;omega)) bS Y ?_;rintro _ K _ ⟨rfl,rfl,rfl⟩ -;refine aA gC3 Y (zz2 ?_);refine d9 56 Y (fun h56=>?_) (fun h56=>?_)
        · refine zz8 ?_;refine cJ (bM (z0:=[(str [])]) cB tz9 Y Y Y Y dF) Y ?_;rintro _ K _ ⟨b64,rfl,rfl,rfl⟩ -;refine cJ (dQ (k:=(a7 9)) (ys:=[e]) eI Y Y (.there (.there .here)) (fun w j=>dJ Tryz.underlying43 (SeesSl.at (.blk aL Y Y) j)) gC7 gC9) Y ?_;rintro v65 K _ ⟨rfl,rfl,ho65⟩ -;refine zz3 ?_;refine uAh ?_;rintro _ K _ ⟨rfl,rfl⟩ -;refine zz7 ?_
          first
            | (refine aQ (aM nC (aM e7 (aM bW (aM cI (aM cI bF))))) ?_
               refine eF (i+1) (ms++[e]) _ ⟨by omega,by rw[kU he,←hms];unfold addN;rw[x5 gF8],by simp;omega⟩ aH aS Y cV)
            | (refine aQ (aM e7 (aM bW (aM bW (aM bW (aM bW bF))))) ?_
               refine eF (i+1) ms _ ⟨by omega,by rw[kU he,←hms];unfold addN;rw[x7 gF8],by omega⟩ aH aS Y cV)
        refine zz7 ?_
        first
          | (refine aQ (aM nC (aM e7 (aM bW (aM cI (aM cI bF))))) ?_
             refine eF (i+1) (ms++[e]) _ ⟨by omega,by rw[kU he,←hms];unfold addN;rw[x5 gF8],by simp;omega⟩ aH aS Y cV)
          | (refine aQ (aM e7 (aM bW (aM bW (aM bW (aM bW bF))))) ?_
             refine eF (i+1) ms _ ⟨by omega,by rw[kU he,←hms];unfold addN;rw[x7 gF8],by omega⟩ aH aS Y cV)
      have hms2:ms=jK ns l.1:=(by rw[hms,aBB aH]);subst hms2;refine zz7 ?_;refine cA Y Y (nF b15 s l.2 _ [59] _ hs hlo.1.1 (hg.mono (x6 leT (x6 leA leB)))) bS Y (fun _ _=>cF _ _) ?_ ?_
      · rintro _ _ _ hTr le1;obtain⟨e,p,hq4,fb,h,rfl⟩:=cG hTr;cases h
        refine aQ (aM bW (aM e7 (aM e7 bF))) (zz4 ?_);exact oX Y Y (x6 leT (x6 leA (x6 leB le1))) hs (by simp only[hx,reqF,jP,if_pos gc,hr2,hl,hq4,if_true,if_false,↓reduceIte])
      rintro _ K _ hTr -;obtain⟨q4,hq4,rfl,rfl,rfl⟩:=cH hTr;clear hTr;refine zz2 ?_;obtain⟨f0,rfl⟩:∃f0,f=f0+1:=⟨f - 1,by omega⟩;have hm4:=jQ hlo.1 hq4;refine aQ (aM e7 (aM bW (aM cI (aM cI bF)))) ?_;refine o7 (x6 leA leB) ?_;refine eF q4 (jK ns l.1) _ ⟨hm4.1,by omega,f0,by omega,?_⟩ aH aS Y cV
      simp only[hx,reqF,jP,if_pos gc,hr2,hl,hq4,if_true,if_false,↓reduceIte]
    have gc:¬(st2.2.kind=1∧st2.2.s=o5):=(fun h=>h37 h.2);refine zz7 ?_;refine fZ fun K5 leN hN=>?_;have leN2:=x6 leT leN;refine zz2 ?_;refine cA Y Y (aEK b15 s sv _ cb tb ns _ ⟨⟨hs,hg.mono leN2,hN,by omega⟩,htab.mono leN⟩ st2 hok2) bS Y (fun _ _=>cF _ _) ?_ ?_
    · rintro _ _ _ hTr le1;obtain⟨e,p,hbb,fb,h,rfl⟩:=cG hTr;cases h
      refine uAz ?_;refine aV ?_;exact oX Y Y (x6 leN2 le1) hs (by simp only[hx,reqF,jP,if_neg gc,hbb,if_true,if_false,↓reduceIte])
    rintro _ K6 _ hTr leK6;obtain⟨bb,hbb,⟨ys,hrep,hcl,rfl⟩⟩:=cH hTr;clear hTr;refine fZ fun K7 leS hS=>?_;obtain⟨sa,sn,sc,rfl⟩:=hS.isSlice;have leS2:=x6 leN2 (x6 leK6 leS);refine zz3 ?_;refine cD (bX aIQ Y Y dA bR aZe Y) ?_;rintro _ K _ ⟨rfl,rfl⟩ -;refine zz14 ?_;refine aY 84 Y (fun h84=>?_) (fun h84=>?_)
    · have g84:¬bb.2.2.kind=0:=by omega
      refine zz2 ?_;refine cA Y Y (lW b15 s bb.2 _ _) bS Y gC6 ?_ ?_
      · rintro _ _ _ ⟨fb,h,rfl⟩ le1;cases h
        refine uAz ?_;refine aV ?_;exact oX Y Y (x6 leS2 le1) hs gF7
      rintro _ _ _ ⟨_,h,_⟩;cases h
    have g84:bb.2.2.kind=0:=by omega
    refine zz7 ?_;refine cD (bX aCX Y Y dA bR .zero Y) ?_;rintro _ K _ ⟨rfl,rfl⟩ -;refine uAq ?_;rintro _ K _ ⟨rfl,rfl⟩ -;refine zz3 ?_;refine fB fun K8 leP hP=>?_;refine aKF (r:=(ns,bb.1)) Y Y (x6 leS2 leP) hs ?_ ⟨_,_,_,ys,_,hP,Y,Y,hN.mono (x6 leK6 (x6 leS leP)),hS.mono leP,hrep.mono (x6 leS leP),hcl⟩
    simp only[hx,reqF,jP,if_neg gc,hbb,if_pos g84,if_true,if_false,↓reduceIte]
  have gc:¬(st2.2.kind=1∧st2.2.s=o5):=(fun h=>by omega);refine zz18 ?_;refine fZ fun K5 leN hN=>?_;have leN2:=x6 leT leN;refine zz2 ?_;refine cA Y Y (aEK b15 s sv _ cb tb ns _ ⟨⟨hs,hg.mono leN2,hN,by omega⟩,htab.mono leN⟩ st2 hok2) bS Y (fun _ _=>cF _ _) ?_ ?_
  · rintro _ _ _ hTr le1;obtain⟨e,p,hbb,fb,h,rfl⟩:=cG hTr;cases h
    refine uAz ?_;refine aV ?_;exact oX Y Y (x6 leN2 le1) hs (by simp only[hx,reqF,jP,if_neg gc,hbb,if_true,if_false,↓reduceIte])
  rintro _ K6 _ hTr leK6;obtain⟨bb,hbb,⟨ys,hrep,hcl,rfl⟩⟩:=cH hTr;clear hTr;refine fZ fun K7 leS hS=>?_;obtain⟨sa,sn,sc,rfl⟩:=hS.isSlice;have leS2:=x6 leN2 (x6 leK6 leS);refine zz3 ?_;refine cD (bX aIQ Y Y dA bR aZe Y) ?_;rintro _ K _ ⟨rfl,rfl⟩ -;refine zz14 ?_;refine aY 84 Y (fun h84=>?_) (fun h84=>?_)
  · have g84:¬bb.2.2.kind=0:=by omega
    refine zz2 ?_;refine cA Y Y (lW b15 s bb.2 _ _) bS Y gC6 ?_ ?_
    · rintro _ _ _ ⟨fb,h,rfl⟩ le1;cases h
      refine uAz ?_;refine aV ?_;exact oX Y Y (x6 leS2 le1) hs gF7
    rintro _ _ _ ⟨_,h,_⟩;cases h
  have g84:bb.2.2.kind=0:=by omega
  refine zz7 ?_;refine cD (bX aCX Y Y dA bR .zero Y) ?_;rintro _ K _ ⟨rfl,rfl⟩ -;refine uAq ?_;rintro _ K _ ⟨rfl,rfl⟩ -;refine zz3 ?_;refine fB fun K8 leP hP=>?_;refine aKF (r:=(ns,bb.1)) Y Y (x6 leS2 leP) hs ?_ ⟨_,_,_,ys,_,hP,Y,Y,hN.mono (x6 leK6 (x6 leS leP)),hS.mono leP,hrep.mono (x6 leS leP),hcl⟩
  simp only[hx,reqF,jP,if_neg gc,hbb,if_pos g84,if_true,if_false,↓reduceIte]
end Go.Proofs
end
section
namespace Go.SL.R
def Yl(P:Program)(l:Nat)(vs:List Value)(K:Hl)(L:List Asn)(R:Bool→Hl→List Asn→Prop):Prop:=
 ∀F w,In w F K L w→∃fn tmps assign body,(Instr.yield l vs.toArray).run P w=.ok (.round l fn tmps assign body) w∧
  RoundIn Fence.wide 0 P l fn tmps assign body w fun e w'=>∃b K' L',e=.returned (.bool b)∧R b K' L'∧K.le K'∧In w F K' L' w'
end Go.SL.R
end
section
namespace Go.SL
open R (Yl)
abbrev mrk(D:Nat):Deferred:={target:=.collected D,args:= #[]}
section
variable{E:Env}{fr:Fr}{K:Hl}{L L1 L2:List Asn}{Q:Post}
abbrev Env.mark(E:Env)(D:Nat):Env:=⟨E.P,E.n,mrk D::E.ds,E.w0,E.F⟩
end
end Go.SL
namespace Go.Loop
abbrev on(r:Loop):Loop:={r with state:=.ready,pending:=none}
abbrev off(r:Loop)(c:Code):Loop:={r with state:=.done,pending:=some c}
end Go.Loop
end
section
namespace Go.SL
section
variable{E:Env}{fr:Fr}{K:Hl}{L:List Asn}{L':Nat→List Asn}{dst:Option Tmp}{ty:TypeId}{pos:String}{aft:Array Edge}{g:Option (Nat×Bool)}{x:Operand}{t t2:TypeId}{l:List UInt8}{b p:Nat}{c:UInt8}
def lA{α:Type}{l:List α}{p:Nat}{c:α}(hc:l[p]?=some c):p < l.length:=by
 rcases xAC p l.length with h'|h'
 ·exact h'
 rw[xAD h']at hc;cases hc
end
end Go.SL
end

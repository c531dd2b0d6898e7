/-
  What the proof stands on, part 26: the logic of walks, the walks through the functions, the plain laws. Conditions: as each theorem says. (Merged and shortened by a program.)
-/
import Derived.Test.YthopmddkpdehiabGreatDoorK25
set_option linter.unusedVariables false
set_option linter.unusedSimpArgs false
set_option linter.defProp false
set_option maxRecDepth 4000
set_option maxHeartbeats 1000000
section
attribute [local irreducible] Go.SL.T Go.SL.OL Go.SL.D Go.SL.DL Go.SL.Ev Go.SL.Ef Go.SL.EfS
namespace Go.Proofs
open Go Go.SL Go.Syn Go.Mach
def bKX{cs:List UInt8}(hcs:∀c∈cs,c.toNat < 128){i:Nat}(h:i < cs.length):∃c,cs[i]?=some c∧c.toNat < 128:=⟨_,x4 h,hcs _ (List.getElem_mem h)⟩
def bOC{cs:List UInt8}(hcs:∀c∈cs,c.toNat < 128){c:UInt8}(h:128≤c.toNat)(k:Nat):Lib.indexByte (cs.drop k) c= -1:=by
 have h1:=Lib.indexByte_ge (cs.drop k) c
 by_cases hc:Lib.indexByte (cs.drop k) c= -1
 ·exact hc
 obtain⟨h2,_⟩:=Lib.indexByte_some (l:=cs.drop k) (c:=c) (o:=(Lib.indexByte (cs.drop k) c).toNat) aH;rw[xA2]at h2;have:=hcs _ (x8 h2);omega
def aS1(s:List UInt8)(c:UInt8)(K:Hl):Sp x3 226 [str s,.int .u8 c.toNat] K [] (Val (i64 (Lib.indexByte s c)) K):=by
 refine oT ⟨_,Tryz.func226,Y,Y⟩ fun w hw=>?_;have:=Tryz.strings_IndexByte ⟨s.toArray⟩ c.toNat w;have e:((c.toNat:Int).toNat).toUInt8=c:=by simp
 rw[e]at this;exact this
def aQG(cs:List UInt8)(c:UInt8)(hc:c.toNat < 128)(K:Hl):Sp x3 252 [str cs,.int .i32 c.toNat] K [] (Val (i64 (Lib.indexByte cs c)) K):=by
 refine oT ⟨_,Tryz.func252,Y,Y⟩ fun w hw=>?_;have:=Tryz.strings_IndexRune_ascii ⟨cs.toArray⟩ c.toNat w aH aH;have e:((c.toNat:Int).toNat).toUInt8=c:=by simp
 rw[e]at this;exact this
def aUY(r:Int)(K:Hl):Sp x3 267 [.int .i32 r] K [] (Val (.bool (Lib.validRune r)) K):=
 oT ⟨_,Tryz.func267,rfl,rfl⟩ fun w hw=>Tryz.utf8_ValidRune r w
def aQF(cs:List UInt8)(hcs:∀c∈cs,c.toNat < 128)(hl:2≤cs.length)(r:Int)(h1:128≤r)(K:Hl):Sp x3 252 [str cs,.int .i32 r] K [] (Ret fun v K' L'=>v=i64 (-1)∧K'=K∧L'=[]):=by
 obtain⟨q1,q2,cl,q3,q4⟩:=bFR r h1;refine bN Tryz.func252 Y Tryz.ntmps252 Y Y fun F w=>?_;refine zz11 ?_;refine bV 163 Y (fun g163=>?_) (fun g163=>?_)
 ·refine zz8 ?_;refine aY 160 Y (fun h160=>?_) (fun h160=>?_)
  ·exact absurd h160 aH
  refine zz7 ?_;refine aY 171 Y (fun h171=>?_) (fun h171=>?_)
  ·refine zz4 ?_;refine cJ (aH7 Tryz.underlying9 Y) Y ?_;rintro _ K _ ⟨b175,rfl,rfl,rfl⟩ -;refine zz3 ?_;refine eH (fun(i:Nat)=>i≤cs.length) (fun i=>[(0,str cs),(1,.int .i32 r),(175,ptr b175)]) (fun _=>K) (fun i=>[itr b175 cs i]) (fun i=>cs.length - i) 0 (x9 _) aS Y (fun _ h=>h) ?_;intro i hi0;rcases xAC i cs.length with hi|hi
   ·obtain⟨c,hc,hlo⟩:=bKX hcs hi;refine zz2 ?_;refine cJ (aQH (L':=fun n=>[itr b175 cs (i+n)]) hc hlo Y (fun _=>.here)) Y ?_;rintro _ K _ ⟨rfl,rfl,rfl⟩ -;refine zz22 ?_;refine aY 181 Y (fun h181=>?_) (fun h181=>?_)
    ·exact absurd h181 aH
    refine zz2 ?_;exact cM (i+1) aH aH aS Y (fun _ h=>h)
   have hn:¬i < cs.length:=aH;refine zz2 ?_;refine cJ (aKM hn Y .here) Y ?_;rintro _ K _ ⟨rfl,rfl,rfl⟩ -;refine zz17 ?_;refine uAf ?_;refine zz1 ?_;exact⟨_,Y,Y,Y,Y⟩
  refine zz3 ?_;refine cN Y Y (aUY r _) Y ?_;refine aA gC3 Y (zz3 ?_)
  first|refine aY 183 Y (fun h183=>?_) (fun h183=>?_)|refine d9 183 Y (fun h183=>?_) (fun h183=>?_)
  ·refine zz7 ?_;refine uAf ?_;refine zz1 ?_;exact⟨_,Y,Y,Y,Y⟩
  refine aNG (zz3 ?_);refine aA (aL8 Tryz.underlying21 Tryz.underlying9 Y) Y (zz24 ?_);refine eH (fun(u:Unit)=>True) (fun _=>[(0,str cs),(7,str (q9 r)),(8,i64 ((q9 r).length - 1)),(9,i64 ((q9 r).length - 1))]) (fun _=>K) (fun _=>[]) (fun _=>0) () trivial aS Y (fun _ h=>h) ?_;intro _ _;refine zz9 ?_;refine aY 26 Y (fun h26=>?_) (fun h26=>?_)
  ·obtain⟨c,hc,hlo⟩:=bKX hcs (i:=(q9 r).length - 1) aH;refine zz3 ?_;refine aNG (zz2 ?_);refine cZ (anc:=[0,0,3,0,0,24,63]) (ord:=[0,1,2,3,4,5,6]) [] [] mixed gC5 (cQ _) (zz2 ?_);refine aJ Y Y (.none Y) Y Y (cP (j:=(q9 r).length - 1) Tryz.underlying9 Y Y aH hc) Y (zz2 ?_);refine aJ Y Y (.none Y) Y Y (cP (j:=(q9 r).length - 1) Tryz.underlying9 Y Y aH q3) Y (zz3 ?_);refine aY 33 Y (fun h33=>?_) (fun h33=>?_)
   ·refine aI ?_;refine cZ (anc:=[0,0,2,7,0,0,48,127,255]) (ord:=[0,1,2,3,4,5,6,7,8]) [7] [] mixed gC5 (cQ _) (zz3 ?_);refine aJ Y Y (.none Y) Y Y (l6 (m:=(q9 r).length) Tryz.underlying9 Y Y aH aH) Y (zz2 ?_);refine aJ Y Y (.none Y) Y Y (cP (j:=(q9 r).length - 1) Tryz.underlying9 Y Y aH q3) Y ?_;refine iL Y (.none Y) Y Y Y Y (aS1 (cs.drop (q9 r).length) cl _) Y (zz10 ?_);refine aY 43 Y (fun h43=>?_) (fun h43=>?_)
    ·refine zz8 ?_;refine qX (zz4 ?_);refine qX ?_;refine aZ ?_;refine uAf ?_;refine zz1 ?_;exact⟨_,Y,Y,Y,Y⟩
    exact absurd (show Lib.indexByte (cs.drop (q9 r).length) cl < 0 by rw[bOC hcs q4];omega) h43
   exact absurd (show ¬((c.toNat:Int)=cl.toNat) by omega) h33
  refine zz13 ?_;refine qX ?_;refine aZ ?_;refine uAf ?_;refine zz1 ?_;exact⟨_,Y,Y,Y,Y⟩
 exact absurd (show (0:Int)≤r by omega) g163
def aN7(cs:List UInt8)(hcs:∀c∈cs,c.toNat < 128)(hl:2≤cs.length)(s:List UInt8)(h8:s.length≤8)(K:Hl):Sp x3 240 [str s,str cs] K [] (Ret fun v K' L'=>∃n:Int,v=i64 n∧(0≤n↔(s.any fun c=>cs.contains c)=true)∧K'=K∧L'=[]):=by
 have husc:∀(n:Int) (K:Hl),Sp x3 253 [i64 n] K [] (Val (.bool (decide (8 < n))) K):=fun n K=>oT ⟨_,Tryz.func253,rfl,rfl⟩ fun w hw=>Tryz.strings_shouldUseASCIISet n w
 refine bN Tryz.func240 Y Tryz.ntmps240 Y Y fun F w=>?_;refine zz12 ?_;refine aY 12 Y (fun h12=>?_) (fun h12=>?_)
 ·exact absurd h12 (by rintro rfl;simp at hl)
 refine zz10 ?_;refine aY 15 Y (fun h15=>?_) (fun h15=>?_)
 ·exact absurd h15 aH
 refine zz7 ?_;refine cN Y Y (husc _ _) Y (zz2 ?_);refine aY 26 Y (fun h26=>?_) (fun h26=>?_)
 ·exact absurd h26 aH
 refine zz6 ?_;refine cJ (aH7 Tryz.underlying9 Y) Y ?_;rintro _ K _ ⟨b45,rfl,rfl,rfl⟩ -;refine zz3 ?_;refine eH (fun(i:Nat)=>i≤s.length∧∀j d,j < i→s[j]?=some d→cs.contains d=false) (fun i=>[(0,str s),(1,str cs),(45,ptr b45)]) (fun _=>K) (fun i=>[itr b45 s i]) (fun i=>s.length - i) 0 ⟨x9 _,fun j d h _=>by omega⟩ aS Y (fun _ h=>h) ?_;intro i ⟨hi0,hno⟩;rcases xAC i s.length with hi|hi
 ·obtain⟨c,hc⟩:∃c,s[i]?=some c:=⟨s[i]'hi,x4 hi⟩;rcases xAC c.toNat 128 with hlo|hhi
  ·refine zz2 ?_;refine cJ (aQH (L':=fun n=>[itr b45 s (i+n)]) hc hlo Y (fun _=>.here)) Y ?_;rintro _ K _ ⟨rfl,rfl,rfl⟩ -;refine zz20 ?_;refine cN Y Y (aQG cs c hlo _) Y (zz3 ?_);refine aY 53 Y (fun h53=>?_) (fun h53=>?_)
   ·have hbl:cs.contains c=true:=(by rw[Lib.contains_iff_indexByte];exact xAM h53);refine zz11 ?_;refine uAf ?_;refine zz1 ?_
    first
     |exact⟨_,Y,-1,Y,⟨fun h=>by omega,fun h=>by rw[hall]at h;cases h⟩,Y,Y⟩
     |exact⟨_,Y,i,Y,⟨fun _=>List.any_eq_true.2 ⟨c,x8 hc,hbl⟩,fun _=>by omega⟩,Y,Y⟩
   have hbl:cs.contains c=false:=(by rw[Lib.contains_iff_indexByte];exact xAJ h53);refine zz2 ?_
   first
    |exact gCB
    |(exact cM (i+n) ⟨h4,fun j d hj hd=>by rcases xAC j i with h|h;exact hno j d h hd;(have:=h5 j d h hj hd);cases hbd:cs.contains d with|false=>rfl|true=>exact absurd (hcs _ (List.contains_iff_mem.1 hbd)) aH⟩ aH aS Y (fun _ h=>h))
  refine zz2 ?_;refine cJ (bFZ (L':=fun n=>[itr b45 s (i+n)]) hc hhi Y (fun _=>.here)) Y ?_;rintro _ K _ ⟨r,n,rfl,rfl,rfl,h1,h2,h3,h4,h5⟩ -;refine zz20 ?_;refine bA Y Y (aQF cs hcs hl r aH _) .nil Y ?_;rintro _ K _ ⟨rfl,rfl,rfl⟩ -;refine zz3 ?_;refine aY 53 Y (fun h53=>?_) (fun h53=>?_)
  ·exact absurd h53 aH
  refine zz2 ?_
  first
   |exact gCB
   |(exact cM (i+n) ⟨h4,fun j d hj hd=>by rcases xAC j i with h|h;exact hno j d h hd;(have:=h5 j d h hj hd);cases hbd:cs.contains d with|false=>rfl|true=>exact absurd (hcs _ (List.contains_iff_mem.1 hbd)) aH⟩ aH aS Y (fun _ h=>h))
 have hn:¬i < s.length:=aH;have hall:(s.any fun c=>cs.contains c)=false:=(by rw[List.any_eq_false];intro x hx;obtain⟨j,hj⟩:=xA3 hx;have:=hno j x (by have:=lA hj;omega) hj;simpa using this);refine zz2 ?_;refine cJ (aKM hn Y .here) Y ?_;rintro _ K _ ⟨rfl,rfl,rfl⟩ -;refine zz16 ?_;refine uAf ?_;refine zz1 ?_
 first
  |exact⟨_,Y,-1,Y,⟨fun h=>by omega,fun h=>by rw[hall]at h;cases h⟩,Y,Y⟩
  |exact⟨_,Y,i,Y,⟨fun _=>List.any_eq_true.2 ⟨c,x8 hc,hbl⟩,fun _=>by omega⟩,Y,Y⟩
end Go.Proofs
end
section
namespace Go.SL
def Hl.le_less{K K' h:Hl}(le:K.le K')(d:K.dj h):K.le (K'.less h):=by
 intro x o e;unfold Hl.less;rcases d x with q|q
 ·rw[q]at e;cases e
 simp only[q,Option.isSome_none,Bool.false_eq_true,if_false];exact le x o e
def aNB{P:Program}{f:FuncId}{args:List Value}{K:Hl}{L1 L:List Asn}{R:Ending→List Asn→Prop}(hb:∃fn,P.funcs[f]?=some fn∧(fn.name== "runtime.NumGoroutine")=false∧fn.body.isSome=true)
  (h:∀h1,Sat L1 h1→K.dj h1→Sp P f args (K.join h1) L fun e _ L'=>R e L'):Sp P f args K (L1++L) fun e _ L'=>∃L'',R e L''∧L'=L1++L'':=
 ⟨hb, fun F w i => by
  obtain⟨h1,hs,d,i1⟩:=i.freeze;exact((h h1 hs d).2 F w i1).mono fun e w' ⟨K',L',r,le,j⟩=>⟨K'.less h1,L1++L',⟨L',r,Y⟩,Hl.le_less (x6 Hl.le_join_l le) d,j.thaw hs (x6 (Hl.le_join_r d) le)⟩⟩
def aSA{E:Env}{x:Exit}{fr:Fr}{K:Hl}{L M:List Asn}{Q:Post}(h:D E x fr K L Q):D E x fr K (L++M) Q:=fun a w f i=>h a w f i.left
end Go.SL
end

/-
  What the proof stands on, part 2: the logic of walks, the walks through the functions, the plain laws. Conditions: as each theorem says. (Merged and shortened by a program.)
-/
import Derived.Lib.Index
import Derived.Below
import Derived.Shelf.Strings.Builder1
import Derived.Shelf.Strings.Builder2
import Derived.Shelf.Small.Utf8
import Derived.Shelf.Small.Bits
import Derived.Shelf.Small.Strs
import Derived.Shelf.Utf8.RuneCount
import Derived.Shelf.Strconv.Itoa0
import Derived.Shelf.Strconv.Itoa1
import Derived.Shelf.LaysM
import Derived.Shelf.Strconv.Itoa2
import Derived.Shelf.Strconv.Itoa3
import Derived.Shelf.Strings.Search1
import Derived.Shelf.Strings.Search2
import Derived.Shelf.Strings.Search3
import Derived.Shelf.Strings.Cut
import Derived.Shelf.Strings.Count
import Derived.Shelf.Strings.Shaped
import Derived.Shelf.Strings.Split
import Derived.Shelf.Strings.Runes
import Derived.Shelf.Strings.RuneCount
import Derived.Shelf.Strings.IndexAny
import Derived.Shelf.Strings.AsciiSet
import Derived.Shelf.Strings.IndexAnyAll
import Derived.Shelf.Bits.Mul64
import Derived.Ground.Names2Prog
import Derived.Shelf.Slices.Clone
import Derived.Ground.SlgnProg
import Derived.Shelf.SlicesE.Clone
import Derived.Test.YthopmddkpdehiaaGreatDoorProg
import Derived.Lib.ItoaNum
import Derived.Lib.IndexLaws
import Derived.Test.YthopmddkpdehiaaGreatDoorK1
set_option linter.unusedVariables false
set_option linter.unusedSimpArgs false
section
namespace Go.Syn
abbrev aM:=List UInt8
def l5(c:UInt8):Bool:=(decide (97≤(c|||32).toNat)&&decide ((c|||32).toNat≤122))||decide (c.toNat=95)
def gP(c:UInt8):Bool:=decide (48≤c.toNat)&&decide (c.toNat≤57)
def e9(c:UInt8):Bool:=l5 c||gP c
abbrev Res(α:Type):=Except (Int×Int) α
def jC(s:aM):Nat→Nat→Res Nat
 |0,a=>.ok a
 |f+1,a=>
  match s[a]? with
  |none=>.ok a
  |some c=>
   if c.toNat=32∨c.toNat=9∨c.toNat=13∨c.toNat=10 then jC s f (a+1)
   else if c.toNat=35 then jC s f (a+((s.drop a).takeWhile fun c=>decide (¬c.toNat=10)).length)
   else if c.toNat=47 then
    if ((s[a+1]?).getD 0).toNat≠42 then .ok a
    else if Lib.index (s.drop (min (a+2) s.length)) [42,47] < 0 then .error (2,a)
    else jC s f (a+2+(Lib.index (s.drop (min (a+2) s.length)) [42,47]).toNat+2)
   else .ok a
def skip(s:aM)(a:Nat):Res Nat:=jC s (s.length+1 - a) a
section
variable{s:aM}{f i:Nat}{c:UInt8}
theorem wO(h:s.length≤i):jC s (f+1) i=.ok i:=by simp only[jC];rw[List.getElem?_eq_none h]
theorem kX(hc:s[i]?=some c)(h:c.toNat=32∨c.toNat=9∨c.toNat=13∨c.toNat=10):jC s (f+1) i=jC s f (i+1):=by simp only[jC,hc];rw[if_pos h]
theorem mF(hc:s[i]?=some c)(h:c.toNat=35):jC s (f+1) i=jC s f (i+((s.drop i).takeWhile fun c=>decide (¬c.toNat=10)).length):=by
 simp only[jC,hc];rw[if_neg aI,if_pos h]
theorem rO(hc:s[i]?=some c)(h:c.toNat=47)(hn:¬((s[i+1]?).getD 0).toNat=42):jC s (f+1) i=.ok i:=by
 simp only[jC,hc];rw[if_neg aI,if_neg aI,if_pos h,if_pos hn]
theorem aN3(hc:s[i]?=some c)(h:c.toNat=47)(hn:((s[i+1]?).getD 0).toNat=42)(hx:Lib.index (s.drop (min (i+2) s.length)) [42,47] < 0):jC s (f+1) i=.error (2,i):=by
 simp only[jC,hc];rw[if_neg aI,if_neg aI,if_pos h,if_neg (by simpa using hn),if_pos hx]
theorem jH(hc:s[i]?=some c)(h:c.toNat=47)(hn:((s[i+1]?).getD 0).toNat=42)(hx:¬Lib.index (s.drop (min (i+2) s.length)) [42,47] < 0):
  jC s (f+1) i=jC s f (i+2+(Lib.index (s.drop (min (i+2) s.length)) [42,47]).toNat+2):=by
 simp only[jC,hc];rw[if_neg aI,if_neg aI,if_pos h,if_neg (by simpa using hn),if_neg hx]
theorem rN(hc:s[i]?=some c)(h:¬(c.toNat=32∨c.toNat=9∨c.toNat=13∨c.toNat=10∨c.toNat=35∨c.toNat=47)):jC s (f+1) i=.ok i:=by
 simp only[jC,hc];rw[if_neg aI,if_neg aI,if_neg aI]
theorem pB(hc:s[i]?=some c)(h:c.toNat=35):0 < ((s.drop i).takeWhile fun c=>decide (¬c.toNat=10)).length∧i+((s.drop i).takeWhile fun c=>decide (¬c.toNat=10)).length≤s.length:=by
 have hi:i < s.length:=by
  rcases Nat.lt_or_ge i s.length with h|h
  ·exact h
  ·simp[List.getElem?_eq_none h]at hc
 have e:s[i]=c:=by simpa[List.getElem?_eq_getElem hi]using hc
 have h2:=(List.takeWhile_sublist (fun c:UInt8=>decide (¬c.toNat=10)) (l:=s.drop i)).length_le;simp only[List.length_drop]at h2;refine⟨?_,by omega⟩
 rw[List.drop_eq_getElem_cons hi,e,List.takeWhile_cons,if_pos (by simp;omega)];simp
end
def lR(lo hi add c:UInt8):UInt8:=if lo.toNat≤c.toNat∧c.toNat≤hi.toNat then c+add else c
def dH(s:aM):aM:=s.map (lR 65 90 32)
def aIY(s:aM):aM:=s.map (lR 97 122 224)
def y8(n:Int)(c:UInt8):Int:=if 2147483648 < n*10+(c.toNat - 48:Nat)then 2147483648 else n*10+(c.toNat - 48:Nat)
def cW(s:aM)(a:Nat):aM:=(s.drop a).takeWhile gP
def fV(ds:aM):Int:=ds.foldl y8 0
def numC(s:aM)(a:Nat):Nat:=((s[a+(cW s a).length]?).getD 0).toNat
def numN(s:aM)(a:Nat):Int:=if numC s a=77∨numC s a=109 then fV (cW s a)*1024*1024 else if numC s a=75∨numC s a=107 then fV (cW s a)*1024 else fV (cW s a)
def numA(s:aM)(a:Nat):Nat:=if numC s a=77∨numC s a=109∨numC s a=75∨numC s a=107 then a+(cW s a).length+1 else a+(cW s a).length
def tY(s:aM)(a:Nat)(wat:Int):Res (Nat×Int):=
 if e9 ((s[numA s a]?).getD 0)=true then .error (2,wat)
 else if 2147483647 < numN s a then .error (3,wat)
 else .ok (numA s a,numN s a)
theorem aPS{n:Int}{c:UInt8}(h:0≤n∧n≤2147483648):0≤y8 n c∧y8 n c≤2147483648:=by
 unfold y8;split <;> omega
theorem aIF(ds:aM):∀n:Int,0≤n∧n≤2147483648→0≤ds.foldl y8 n∧ds.foldl y8 n≤2147483648:=by
 induction ds with
 |nil=>intro n h;exact h
 |cons c ds ih=>intro n h;exact ih _ (aPS h)
theorem aBV(ds:aM):0≤fV ds∧fV ds≤2147483648:=aIF ds 0 aI
theorem aFW{ds:aM}{i:Nat}{c:UInt8}(h:ds[i]?=some c):fV (ds.take (i+1))=y8 (fV (ds.take i)) c:=by
 have hi:i < ds.length:=by
  rcases Nat.lt_or_ge i ds.length with h'|h'
  ·exact h'
  ·simp[List.getElem?_eq_none h']at h
 have hc:ds[i]=c:=by simpa[List.getElem?_eq_getElem hi]using h
 rw[List.take_succ_eq_append_getElem hi,hc];simp[fV]
theorem aBW(s:aM)(a:Nat)(h:a≤s.length):a+(cW s a).length≤s.length:=by
 have:=(List.takeWhile_sublist gP (l:=s.drop a)).length_le;simp only[List.length_drop]at this;unfold cW;omega
theorem s9{α:Type}{p:α→Bool}:∀ {l:List α} {x:α},x∈l.takeWhile p→p x=true
 | [],x,h=>by simp at h
 |y::l,x,h=>by
  rw[List.takeWhile_cons]at h;split at h
  ·rename_i hy;rcases List.mem_cons.1 h with rfl|h
   ·exact hy
   ·exact s9 h
  ·simp at h
theorem aPT{s:aM}{a i:Nat}{c:UInt8}(h:(cW s a)[i]?=some c):48≤c.toNat∧c.toNat≤57:=by
 have:=s9 (List.mem_of_getElem? h)
 simpa[gP]using this
theorem aK0(s:aM)(a:Nat)(h:a≤s.length):numA s a≤s.length:=by
 have h1:=aBW s a h;unfold numA;split
 ·rename_i hc;rcases Nat.lt_or_ge (a+(cW s a).length) s.length with h'|h'
  ·omega
  ·unfold numC at hc;rw[List.getElem?_eq_none h']at hc;simp at hc
 ·exact h1
def fH(s:aM)(wat:Int):Nat→Nat→aM→Res (Nat×aM)
 |0,_,_=>.error (2,wat)
 |f+1,a,acc=>
  if a < s.length∧((s[a]?).getD 0).toNat=34 then .ok (a+1,acc)
  else if ((s[a]?).getD 0).toNat=92 then
   if s.length≤a+1 then .error (2,wat)else fH s wat f (a+2) (acc++[(s[a+1]?).getD 0])
  else if s.length≤a then .error (2,wat)else fH s wat f (a+1) (acc++[(s[a]?).getD 0])
def quoted(s:aM)(a:Nat)(wat:Int):Res (Nat×aM):=fH s wat (s.length+1 - a) (a+1) []
section
variable{s acc:aM}{wat:Int}{f i:Nat}
theorem aGZ(h:i < s.length)(hc:((s[i]?).getD 0).toNat=34):fH s wat (f+1) i acc=.ok (i+1,acc):=by
 simp only[fH];rw[if_pos ⟨h,hc⟩]
theorem oT(hn:¬(i < s.length∧((s[i]?).getD 0).toNat=34))(hc:((s[i]?).getD 0).toNat=92)(h:¬s.length≤i+1):fH s wat (f+1) i acc=fH s wat f (i+2) (acc++[(s[i+1]?).getD 0]):=by
 simp only[fH];rw[if_neg hn,if_pos hc,if_neg h]
theorem nI(hn:¬(i < s.length∧((s[i]?).getD 0).toNat=34))(hc:((s[i]?).getD 0).toNat=92)(h:s.length≤i+1):fH s wat (f+1) i acc=.error (2,wat):=by
 simp only[fH];rw[if_neg hn,if_pos hc,if_pos h]
theorem nH(hn:¬(i < s.length∧((s[i]?).getD 0).toNat=34))(hc:¬((s[i]?).getD 0).toNat=92)(h:¬s.length≤i):fH s wat (f+1) i acc=fH s wat f (i+1) (acc++[(s[i]?).getD 0]):=by
 simp only[fH];rw[if_neg hn,if_neg hc,if_neg h]
theorem mO(hn:¬(i < s.length∧((s[i]?).getD 0).toNat=34))(hc:¬((s[i]?).getD 0).toNat=92)(h:s.length≤i):fH s wat (f+1) i acc=.error (2,wat):=by
 simp only[fH];rw[if_neg hn,if_neg hc,if_pos h]
end
structure Word where
 kind:Nat
 s:aM
 n:Int
 at_:Int
def cU(c:UInt8):Bool:=decide (c.toNat=59∨c.toNat=44∨c.toNat=40∨c.toNat=41∨c.toNat=123∨c.toNat=125∨c.toNat=91∨c.toNat=93)
def o5(s:aM)(a:Nat):aM:=(s.drop a).takeWhile e9
def pF(s:aM)(a:Nat)(c:UInt8):Res (Nat×Word):=
 if cU c=true then .ok (a+1,⟨5,[c],0,a⟩)
 else if c.toNat=34 then
  match quoted s a a with
  | .error e=>.error e
  | .ok r=>.ok (r.1,⟨3,r.2,0,a⟩)
 else if c.toNat=58 then
  if l5 ((s[a+1]?).getD 0)=true then .ok (a+1+(o5 s (a+1)).length,⟨2,dH (o5 s (a+1)),0,a⟩)
  else .error (2,a)
 else if l5 c=true then .ok (a+(o5 s a).length,⟨1,dH (o5 s a),0,a⟩)
 else if gP c=true then
  match tY s a a with
  | .error e=>.error e
  | .ok r=>.ok (r.1,⟨4,[],r.2,a⟩)
 else .error (2,a)
def next(s:aM)(a:Nat):Res (Nat×Word):=
 match skip s a with
 | .error e=>.error e
 | .ok a1=>
  match s[a1]? with
  |none=>.ok (a1,⟨0,[],0,a1⟩)
  |some c=>pF s a1 c
theorem aUF{c:UInt8}(h:cU c=true):c.toNat < 128:=by
 unfold cU at h;simp at h;omega
def cT(xs:List aM)(x:aM):Int:=match xs.findIdx? (fun y=>decide (x=y))with
 |some i=>i
 |none=> -1
theorem aNN{xs:List aM}{x:aM}{i:Nat}(h:∀j:Nat,j < i→xs[j]?≠some x)(hx:xs[i]?=some x):cT xs x=i:=by
 have hi:i < xs.length:=by
  rcases Nat.lt_or_ge i xs.length with h'|h'
  ·exact h'
  ·simp[List.getElem?_eq_none h']at hx
 have:xs.findIdx? (fun y=>decide (x=y))=some i:=by
  rw[List.findIdx?_eq_some_iff_getElem];refine⟨hi,?_,?_⟩
  ·rw[List.getElem?_eq_getElem hi]at hx;simp at hx;simp[hx]
  ·intro j hj;have:=h j hj;rw[List.getElem?_eq_getElem aI]at this;simp at this ⊢;exact fun e=>this e.symm
 unfold cT;rw[this]
theorem aNQ{xs:List aM}{x:aM}(h:∀j:Nat,j < xs.length→xs[j]?≠some x):cT xs x= -1:=by
 have:xs.findIdx? (fun y=>decide (x=y))=none:=by
  rw[List.findIdx?_eq_none_iff];intro y hy;obtain⟨j,hj,e⟩:=List.getElem_of_mem hy;have:=h j hj;rw[List.getElem?_eq_getElem hj,e]at this;simp at this ⊢;exact fun e=>this e.symm
 unfold cT;rw[this]
theorem aJE(xs:List aM)(x:aM):0≤cT xs x↔x∈xs:=by
 unfold cT;cases h:xs.findIdx? (fun y=>decide (x=y))with
 |some i=>
  rw[List.findIdx?_eq_some_iff_getElem]at h;obtain⟨hi,h1,_⟩:=h;simp at h1;simp only[Int.natCast_nonneg,true_iff];rw[h1];exact List.getElem_mem hi
 |none=>
  rw[List.findIdx?_eq_none_iff]at h
  constructor
  ·intro h0;exact absurd h0 (by decide)
  ·intro hm;have:=h x hm;simp at this
abbrev St:=Nat×Word
def take(s:aM)(st:St)(k:Nat)(texts:List aM):Res (Word×St):=
 if st.2.kind≠k∨(texts≠[]∧st.2.s∉texts)then .error (4,st.2.at_)
 else match next s st.1 with
  | .error e=>.error e
  | .ok r=>.ok (st.2,r)
def eat(s:aM)(st:St)(x:aM):Res (Bool×St):=
 if st.2.kind=5∧st.2.s=x then
  match next s st.1 with
  | .error e=>.error e
  | .ok r=>.ok (true,r)
 else .ok (false,st)
def sign(s:aM)(st:St)(x:aM):Res St:=
 match take s st 5 [x]with
 | .error e=>.error e
 | .ok r=>.ok r.2
def text(s:aM)(st:St)(ff:aM→Int):Res (aM×St):=
 if st.2.kind=3∧ff st.2.s≠0 then .error (ff st.2.s,st.2.at_)
 else match take s st 3 []with
  | .error e=>.error e
  | .ok r=>.ok (r.1.s,r.2)
end Go.Syn
end
section
namespace Go.Proofs
open Go Go.SL Go.Syn
theorem retB{b c:Bool}(h:b=c)(K:Hl):Val (.bool c) K (.returned (.bool b)) K []:=⟨by rw[h],rfl,rfl⟩
theorem o4(c:UInt8)(K:Hl):Sp Tryz.prog 183 [.int .u8 c.toNat] K [] (Val (.bool (l5 c)) K):=by
 refine aZ Tryz.func183 rfl Tryz.ntmps183 rfl rfl fun F w=>?_
 refine aH (aB ?_);refine uAb ?_;refine aG (aE ?_);refine aH (aB ?_);refine uAa ?_;refine aA (aD0 c 32 rfl rfl) rfl ?_;refine uEl ?_;refine uAa ?_;refine cG 6 rfl (fun g6=>?_) (fun g6=>?_)
 ·
  refine uAi ?_;refine aA (aD0 c 32 rfl rfl) rfl ?_;refine uAz ?_;refine uEs ?_;refine uFo ?_;refine cG 11 rfl (fun g11=>?_) (fun g11=>?_)
  ·
   refine uBj ?_;refine uDv ?_;refine aG (aE ?_);refine bI ?_;refine bF rfl rfl (Hl.le_refl _) ?_;refine retB ?_ _
   unfold l5
   generalize (c|||32).toNat=x at*
   generalize c.toNat=y at*
   rw[Bool.eq_iff_iff];simp;omega
  ·
   refine uAi ?_;refine uHe ?_;refine uAb ?_;refine aG (aE ?_);refine bI ?_;refine bF rfl rfl (Hl.le_refl _) ?_;refine retB ?_ _
   unfold l5
   generalize (c|||32).toNat=x at*
   generalize c.toNat=y at*
   rw[Bool.eq_iff_iff];simp;omega
 ·
  refine uFa ?_;refine uDg ?_;refine uHe ?_;refine uAb ?_;refine aG (aE ?_);refine bI ?_;refine bF rfl rfl (Hl.le_refl _) ?_;refine retB ?_ _
  unfold l5
  generalize (c|||32).toNat=x at*
  generalize c.toNat=y at*
  rw[Bool.eq_iff_iff];simp;omega
theorem nG(c:UInt8)(K:Hl):Sp Tryz.prog 188 [.int .u8 c.toNat] K [] (Val (.bool (gP c)) K):=by
 refine aZ Tryz.func188 rfl Tryz.ntmps188 rfl rfl fun F w=>?_
 refine aH (aB ?_);refine uAb ?_;refine aG (aE ?_);refine aH (aB ?_);refine uAa ?_;refine uEl ?_;refine uAa ?_;refine cG 5 rfl (fun g5=>?_) (fun g5=>?_)
 ·
  refine uAi ?_;refine uEs ?_;refine uDv ?_;refine aG (aE ?_);refine bI ?_;refine bF rfl rfl (Hl.le_refl _) ?_;refine retB ?_ _
  unfold gP
  generalize c.toNat=y at*
  rw[Bool.eq_iff_iff];simp;omega
 ·
  refine uGo ?_;refine uAb ?_;refine aG (aE ?_);refine bI ?_;refine bF rfl rfl (Hl.le_refl _) ?_;refine retB ?_ _
  unfold gP
  generalize c.toNat=y at*
  rw[Bool.eq_iff_iff];simp;omega
theorem oN(c:UInt8)(K:Hl):Sp Tryz.prog 187 [.int .u8 c.toNat] K [] (Val (.bool (e9 c)) K):=by
 refine aZ Tryz.func187 rfl Tryz.ntmps187 rfl rfl fun F w=>?_
 refine aH (aB ?_);refine uAb ?_;refine aG (aE ?_);refine aH (aB ?_);refine uAa ?_;refine cA rfl rfl (o4 _ _) rfl ?_;refine uAa ?_;refine mW 5 rfl (fun g5=>?_) (fun g5=>?_)
 ·
  refine uBj ?_;refine uDv ?_;refine aG (aE ?_);refine bI ?_;refine bF rfl rfl (Hl.le_refl _) ?_;refine retB ?_ _
  simp[e9,g5]
 ·
  refine uAi ?_;refine cA rfl rfl (nG _ _) rfl ?_;refine uAt ?_;refine uAb ?_;refine aG (aE ?_);refine bI ?_;refine bF rfl rfl (Hl.le_refl _) ?_;refine retB ?_ _
  simp[e9,g5]
abbrev lxb(b:Nat)(T:TypeId)(s:List UInt8)(at_:Int)(wk:Value)(ws:Value)(wn:Value)(wa:Value)(rest:List Value):Asn:=pt b (aU (str s::i64 at_::wk::ws::wn::wa::rest) T)
theorem j4(b:Nat)(T:TypeId)(s:List UInt8)(a n:Nat)(wk ws wn wa:Value)(rest:List Value)(hs:s.length≤600)(ha:a≤600)(hn:n≤2)(K:Hl):
  Sp Tryz.prog 181 [ptr b,i64 n] K [lxb b T s a wk ws wn wa rest] (Ret fun v K' L'=>v=.int .u8 ((s[a+n]?).getD 0).toNat∧K'=K∧L'=[lxb b T s a wk ws wn wa rest]):=by
 refine aZ Tryz.func181 rfl Tryz.ntmps181 rfl rfl fun F w=>?_
 refine aH (aB ?_);refine uAb ?_;refine aG (aE ?_);refine aH (aH ?_);refine t_draw (anc:=[0,1,3,7,0,31,0,64,192,448,960,2047]) (ord:=[0,1,2,3,4,5,6,7,8,9,10,11]) [] [] mixed (by decide+kernel) (cS _) ?_;refine uCg ?_;refine uAj ?_;refine uCp ?_;refine uCy ?_;refine uDp ?_;refine uHv ?_;refine uDf ?_;refine bK 16 rfl (fun h16=>?_) (fun h16=>?_)
 ·
  obtain⟨c,hc⟩:∃c,s[a+n]?=some c:=⟨s[a+n],List.getElem?_eq_getElem aI⟩;refine aH ?_;refine t_draw (anc:=[0,1,3,7,0,16,48,112,0,496,1023,2047]) (ord:=[0,1,2,3,4,5,6,7,8,9,10,11]) [] [] mixed (by decide+kernel) (cS _) ?_;refine uCy ?_;refine uCg ?_;refine uAj ?_;refine uCp ?_;refine dl_ev rfl rfl (.none rfl) rfl rfl (dJ Tryz.underlying9 rfl (j:=a+n) rfl aI hc) rfl ?_;refine uAv ?_;refine uDf ?_;refine uCk ?_;refine bF rfl rfl (Hl.le_refl _) ?_;exact⟨_,rfl,by rw[hc];rfl,rfl,rfl⟩
 ·
  have hc:s[a+n]?=none:=List.getElem?_eq_none aI;refine aW ?_;refine aE (aH ?_);refine uFr ?_;refine aG (aE ?_);refine bI ?_;refine bF rfl rfl (Hl.le_refl _) ?_;exact⟨_,rfl,by rw[hc];rfl,rfl,rfl⟩
theorem qL(b:Nat)(T:TypeId)(s:List UInt8)(a:Nat)(wk ws wn wa:Value)(rest:List Value)(fn:FuncId)(pf:UInt8→Bool)(hs:s.length≤600)(ha:a≤s.length)(K:Hl)
  (hf:∀c,Sp Tryz.prog fn [.int .u8 (c:UInt8).toNat] K [] (Val (.bool (pf c)) K)):
  Sp Tryz.prog 186 [ptr b,.func (.func fn) #[] #[]] K [lxb b T s a wk ws wn wa rest]
   (Ret fun v K' L'=>v=str ((s.drop a).takeWhile pf)∧K'=K∧L'=[lxb b T s (a+((s.drop a).takeWhile pf).length:Nat) wk ws wn wa rest]):=by
 refine aZ Tryz.func186 rfl Tryz.ntmps186 rfl rfl fun F w=>?_
 refine aH (aB ?_);refine uAb ?_;refine aG (aE ?_);refine aH (aB ?_);refine uBz ?_;refine uFm ?_;refine uAb ?_;refine aG (aE ?_);refine aH (bE ?_);refine eR (fun(i:Nat)=>a≤i∧i≤s.length∧((s.drop a).take (i - a)).all pf=true) (fun i=>[(0,ptr b),(1,.func (.func fn) #[] #[]),(5,i64 a)]) (fun _=>K) (fun i=>[lxb b T s i wk ws wn wa rest]) (fun i=>s.length - i) a ⟨Nat.le_refl _,ha,by simp⟩ (.cons 0 rfl (.cons 1 rfl (.cons 5 rfl .nil))) rfl (fun _ h=>h) ?_;intro i ⟨hi1,hi2,hi3⟩;refine aH (aH ?_);refine t_draw (anc:=[0,1,3,7,0,16,48,112,240,511,1023,2047,2047,6143,14335,30719,2047,67583,198655,460799,1046527,2097151,4194303]) (ord:=[0,1,2,3,4,5,6,7,8,9,10,11,12,13,14,15,16,17,18,19,20,21,22]) [21] [] mixed (by decide+kernel) (cS _) ?_;refine uAl ?_;refine uHv ?_;refine uAj ?_;refine dl_splitp 20 rfl (fun g20=>?_) (fun g20=>?_)
 ·
  obtain⟨c,hc⟩:∃c,s[i]?=some c:=⟨s[i],List.getElem?_eq_getElem aI⟩;refine uHi ?_;refine uHi ?_;refine dl_ev rfl rfl (.on rfl rfl rfl) rfl rfl bM rfl ?_;refine dl_ev rfl rfl (.on rfl rfl rfl) rfl rfl (aD (o':=0) fR rfl rfl) rfl ?_;refine dl_ev rfl rfl (.on rfl rfl rfl) rfl rfl (aJ ts9 rfl aL rfl) rfl ?_;refine uHi ?_;refine dl_ev rfl rfl (.on rfl rfl rfl) rfl rfl bM rfl ?_;refine dl_ev rfl rfl (.on rfl rfl rfl) rfl rfl (aD (o':=1) cE rfl rfl) rfl ?_;refine dl_ev rfl rfl (.on rfl rfl rfl) rfl rfl (aJ ts3 rfl aL rfl) rfl ?_;refine dl_ev rfl rfl (.on rfl rfl rfl) rfl rfl (dJ Tryz.underlying9 rfl rfl rfl bU) rfl ?_;refine dl_callv rfl (.on rfl rfl rfl) rfl rfl rfl rfl (hf c) rfl ?_;refine uDq ?_;refine uDf ?_;refine eJ 32 rfl (fun h32=>?_) (fun h32=>?_)
  ·
   refine aW ?_;refine aE (bE ?_);refine uHc ?_;rintro _ K _ ⟨rfl,rfl⟩ -;refine aG (aN ?_);refine cQ (i+1) ⟨by omega,by omega,?_⟩ aI (.cons 0 rfl (.cons 1 rfl (.cons 5 rfl .nil))) rfl (fun _ h=>h)
   have e:i+1 - a=i - a+1:=by omega
   have e2:a+(i - a)=i:=by omega
   rw[e];exact Plain.take_all_succ (c:=c) (by rw[List.getElem?_drop,e2];exact hc) hi3 h32
  ·
   refine uAp ?_;refine aE (aH ?_);refine t_draw (anc:=[0,1,3,7,0,0,32,96,224,511,1023]) (ord:=[0,1,2,3,4,5,6,7,8,9,10]) [] [] mixed (by decide+kernel) (cS _) ?_;refine uGt ?_;refine bF rfl rfl (Hl.le_refl _) ?_;have hstop:∀c1,s[i]?=some c1→pf c1=false:=by first|(intro c1 hc1;rw[hc]at hc1;cases hc1;exact h32)|(intro c1 hc1;rw[List.getElem?_eq_none aI]at hc1;cases hc1)
   have e2:a+(i - a)=i:=by omega
   have hT:(s.drop a).takeWhile pf=(s.drop a).take (i - a):=Plain.takeWhile_stop pf _ _ (by simp;omega) hi3 (fun c1 hc1=>hstop c1 (by rw[List.getElem?_drop,e2]at hc1;exact hc1));have hL:a+((s.drop a).takeWhile pf).length=i:=by rw[hT];simp;omega
   refine⟨_,rfl,?_,rfl,?_⟩
   ·rw[hT,List.drop_take]
   ·rw[hL];rfl
 ·
  refine dl_off rfl rfl (.off rfl rfl rfl) rfl ?_;refine dl_off rfl rfl (.off rfl rfl rfl) rfl ?_;refine dl_off rfl rfl (.off rfl rfl rfl) rfl ?_;refine dl_off rfl rfl (.off rfl rfl rfl) rfl ?_;refine dl_off rfl rfl (.off rfl rfl rfl) rfl ?_;refine dl_off rfl rfl (.off rfl rfl rfl) rfl ?_;refine dl_off rfl rfl (.off rfl rfl rfl) rfl ?_;refine dl_off rfl rfl (.off rfl rfl rfl) rfl ?_;refine dl_off rfl rfl (.off rfl rfl rfl) rfl ?_;refine dl_off rfl rfl (.off rfl rfl rfl) rfl ?_;refine dl_off rfl rfl (.off rfl rfl rfl) rfl ?_;refine uCb ?_;refine uDf ?_;refine uHq ?_;refine uAp ?_;refine aE (aH ?_);refine t_draw (anc:=[0,1,3,7,0,0,32,96,224,511,1023]) (ord:=[0,1,2,3,4,5,6,7,8,9,10]) [] [] mixed (by decide+kernel) (cS _) ?_;refine uGt ?_;refine bF rfl rfl (Hl.le_refl _) ?_;have hstop:∀c1,s[i]?=some c1→pf c1=false:=by first|(intro c1 hc1;rw[hc]at hc1;cases hc1;exact h32)|(intro c1 hc1;rw[List.getElem?_eq_none aI]at hc1;cases hc1)
  have e2:a+(i - a)=i:=by omega
  have hT:(s.drop a).takeWhile pf=(s.drop a).take (i - a):=Plain.takeWhile_stop pf _ _ (by simp;omega) hi3 (fun c1 hc1=>hstop c1 (by rw[List.getElem?_drop,e2]at hc1;exact hc1));have hL:a+((s.drop a).takeWhile pf).length=i:=by rw[hT];simp;omega
  refine⟨_,rfl,?_,rfl,?_⟩
  ·rw[hT,List.drop_take]
  ·rw[hL];rfl
end Go.Proofs
end
section
namespace Go.SL
theorem In.start(w:World):In w .emp (hp w) [] w:=
 ⟨rfl,rfl,rfl,Nat.le_refl _,.emp,rfl,(Hl.dj_emp _).symm,Hl.dj_emp _,Hl.dj_emp _,(fun _ _ e=>by cases e),Hl.le_refl _,(fun _ _ e=>by cases e)⟩
theorem In.below{w w':World}{K':Hl}{L:List Asn}(le:(hp w).le K')(i:In w .emp K' L w'):RowKit.Below w.heap.size w w':=by
 refine⟨i.os,i.tape,i.output,i.size,fun k hk=>?_⟩
 have h:=le k w.heap[k] (by simp[hp,hk]);rw[i.known h];simp[hk]
theorem aBH{P:Program}{f:FuncId}{args:List Value}{w:World}{v:Value}(h:Sp P f args (hp w) [] (Ret fun u _ _=>u=v)):
  Calls P f args.toArray w fun e w'=>e=.returned v∧RowKit.Below w.heap.size w w':=
 (h.2 .emp w (In.start w)).mono fun _ _ ⟨_,_,⟨u,he,hu⟩,le,j⟩=>⟨by rw[he,hu],j.below le⟩
theorem kY{P:Program}{f:FuncId}{args:List Value}{K:Hl}{v:Value}(hb:∃fn,P.funcs[f]?=some fn∧(fn.name=="runtime.NumGoroutine")=false∧fn.body.isSome=true)
  (h:∀w,K.le (hp w)→Calls P f args.toArray w fun e w'=>e=.returned v∧RowKit.Below w.heap.size w w'):Sp P f args K [] (Val v K):=by
 refine⟨hb,fun F w i=>?_⟩
 obtain⟨x,hs,d1,d2,d3,l1,l2,l3⟩:=i.rep;refine(h w l2).mono fun e w' ⟨he,hbl⟩=>?_
 have up:∀ {k:Hl},k.le (hp w)→k.le (hp w'):=by
  intro k hk b o e;have hlt:b < w.heap.size:=by
   have:=hk b o e;simp only[hp]at this;rcases Nat.lt_or_ge b w.heap.size with h|h
   ·exact h
   ·simp[Array.getElem?_eq_none h]at this
  have:=hk b o e;simp only[hp]at this ⊢;rw[hbl.block b hlt];exact this
 exact⟨K,[],⟨he,rfl,rfl⟩,Hl.le_refl _,hbl.os,hbl.tape,hbl.output,hbl.size,x,hs,d1,d2,d3,up l1,up l2,up l3⟩
theorem kR{P:Program}{f:FuncId}{args:List Value}{K:Hl}{v:Value}(hb:∃fn,P.funcs[f]?=some fn∧(fn.name=="runtime.NumGoroutine")=false∧fn.body.isSome=true)
  (h:∀w,K.le (hp w)→Calls P f args.toArray w fun e w'=>e=.returned v∧w'=w):Sp P f args K [] (Val v K):=
 kY hb fun w hw=>(h w hw).mono fun e w' ⟨he,hw'⟩=>⟨he,by subst hw';exact RowKit.Below.refl _ _⟩
end Go.SL
end
section
namespace Go.Proofs
open Go.Shelf
def Tryz.lays119_ren:Go.Shelf.Ren:=⟨fun|119=>322|n=>n,fun|21=>21|4=>4|n=>n,fun|n=>n⟩
theorem Tryz.lays119 : Go.Proofs.Lays.n119 Tryz.prog Tryz.lays119_ren := {
 mixed:=by kernel_rfl
 f119:=Tryz.func322.trans (congrArg some bR)
 t4:=Tryz.underlying4
 a4:=Tryz.isAgg4
 z4:=Tryz.sizeOf4
 v4:=Tryz.zeroValue4
 t21:=Tryz.underlying21
 a21:=Tryz.isAgg21
 z21:=Tryz.sizeOf21
 v21:=Tryz.zeroValue21}
theorem Tryz.utf8_ValidRune(r:Int)(w:World):
  Calls Tryz.prog 322 #[.int .i32 r] w fun e w'=>e=.returned (.bool (Lib.validRune r))∧w'=w:=Any.utf8_ValidRune Tryz.lays119 r w
def Tryz.lays137_ren:Go.Shelf.Ren:=⟨fun|137=>308|217=>335|266=>353|n=>n,fun|9=>9|5=>5|3=>3|n=>n,fun|n=>n⟩
theorem Tryz.lays137 : Go.Proofs.Lays.n137 Tryz.prog Tryz.lays137_ren := {
 mixed:=by kernel_rfl
 f137:=Tryz.func308.trans (congrArg some bR)
 f217:=Tryz.func335.trans (congrArg some bR)
 f266:=Tryz.func353.trans (congrArg some bR)
 t3:=Tryz.underlying3
 a3:=Tryz.isAgg3
 z3:=Tryz.sizeOf3
 v3:=Tryz.zeroValue3
 t5:=Tryz.underlying5
 a5:=Tryz.isAgg5
 z5:=Tryz.sizeOf5
 v5:=Tryz.zeroValue5
 t9:=Tryz.underlying9
 a9:=Tryz.isAgg9
 z9:=Tryz.sizeOf9
 v9:=Tryz.zeroValue9}
open Go.RowKit in
theorem Tryz.strings_IndexByte(s:ByteArray)(c:Int)(w:World):
  Calls Tryz.prog 308 #[.string s,.int .u8 c] w fun e w'=>e=.returned (.int .i64 (Lib.indexByte s.data.toList c.toNat.toUInt8))∧w'=w:=Any.strings_IndexByte Tryz.lays137 s c w
def Tryz.laysM171_ren:Go.Shelf.Ren:=⟨fun|171=>129|243=>223|246=>293|283=>325|284=>326|285=>327|286=>328|129=>240|317=>346|318=>347|319=>348|320=>349|337=>362|338=>363|n=>n,fun|3=>3|9=>9|2=>2|4=>4|171=>444|0=>0|53=>345|37=>130|5=>5|173=>446|212=>475|51=>350|20=>20|213=>476|46=>257|232=>510|233=>511|n=>n,fun|17=>2|18=>5|19=>6|n=>n⟩
theorem Tryz.laysM171 : Go.Proofs.LaysM.n171 Tryz.prog Tryz.laysM171_ren := {
 mixed:=by kernel_rfl
 f129:=Tryz.func240.trans (congrArg some bR)
 f171:=Tryz.func129.trans (congrArg some bR)
 f243:=Tryz.func223.trans (congrArg some bR)
 f246:=Tryz.func293.trans (congrArg some bR)
 f283:=Tryz.func325.trans (congrArg some bR)
 f284:=Tryz.func326.trans (congrArg some bR)
 f285:=Tryz.func327.trans (congrArg some bR)
 f286:=Tryz.func328.trans (congrArg some bR)
 f317:=Tryz.func346.trans (congrArg some bR)
 f318:=Tryz.func347.trans (congrArg some bR)
 f319:=Tryz.func348.trans (congrArg some bR)
 f320:=Tryz.func349.trans (congrArg some bR)
 f337:=Tryz.func362.trans (congrArg some bR)
 f338:=Tryz.func363.trans (congrArg some bR)
 t0:=Tryz.underlying0
 a0:=Tryz.isAgg0
 z0:=Tryz.sizeOf0
 v0:=Tryz.zeroValue0
 t2:=Tryz.underlying2
 a2:=Tryz.isAgg2
 z2:=Tryz.sizeOf2
 v2:=Tryz.zeroValue2
 t3:=Tryz.underlying3
 a3:=Tryz.isAgg3
 z3:=Tryz.sizeOf3
 v3:=Tryz.zeroValue3
 t4:=Tryz.underlying4
 a4:=Tryz.isAgg4
 z4:=Tryz.sizeOf4
 v4:=Tryz.zeroValue4
 t5:=Tryz.underlying5
 a5:=Tryz.isAgg5
 z5:=Tryz.sizeOf5
 v5:=Tryz.zeroValue5
 t9:=Tryz.underlying9
 a9:=Tryz.isAgg9
 z9:=Tryz.sizeOf9
 v9:=Tryz.zeroValue9
 t20:=Tryz.underlying20
 a20:=Tryz.isAgg20
 z20:=Tryz.sizeOf20
 v20:=Tryz.zeroValue20
 t37:=Tryz.underlying130
 a37:=Tryz.isAgg130
 z37:=Tryz.sizeOf130
 v37:=Tryz.zeroValue130
 t46:=Tryz.underlying257
 a46:=Tryz.isAgg257
 z46:=Tryz.sizeOf257
 v46:=Tryz.zeroValue257
 t51:=Tryz.underlying350
 a51:=Tryz.isAgg350
 z51:=Tryz.sizeOf350
 v51:=Tryz.zeroValue350
 t53:=Tryz.underlying345
 a53:=Tryz.isAgg345
 z53:=Tryz.sizeOf345
 v53:=Tryz.zeroValue345
 t171:=Tryz.underlying444
 a171:=Tryz.isAgg444
 z171:=Tryz.sizeOf444
 v171:=Tryz.zeroValue444
 t173:=Tryz.underlying446
 a173:=Tryz.isAgg446
 z173:=Tryz.sizeOf446
 v173:=Tryz.zeroValue446
 t212:=Tryz.underlying475
 a212:=Tryz.isAgg475
 z212:=Tryz.sizeOf475
 v212:=Tryz.zeroValue475
 t213:=Tryz.underlying476
 a213:=Tryz.isAgg476
 z213:=Tryz.sizeOf476
 t232:=Tryz.underlying510
 a232:=Tryz.isAgg510
 z232:=Tryz.sizeOf510
 v232:=Tryz.zeroValue510
 t233:=Tryz.underlying511
 a233:=Tryz.isAgg511
 z233:=Tryz.sizeOf511
 v233:=Tryz.zeroValue511
 g17:=by kernel_rfl
 g18:=by kernel_rfl
 g19:=by kernel_rfl
 i0:=by kernel_rfl
 i2:=by kernel_rfl
 i3:=by kernel_rfl
 i4:=by kernel_rfl
 i5:=by kernel_rfl
 i9:=by kernel_rfl
 i20:=by kernel_rfl
 i37:=by kernel_rfl
 i46:=by kernel_rfl
 i51:=by kernel_rfl
 i53:=by kernel_rfl
 i171:=by kernel_rfl
 i173:=by kernel_rfl
 i212:=by kernel_rfl
 i232:=by kernel_rfl
 i233:=by kernel_rfl
 m17:=by kernel_rfl
 m18:=by kernel_rfl
 m19:=by kernel_rfl}
open Go.RowKit Go.Sort Go.Lib in
theorem Tryz.strconv_Itoa(n:Int)(h0: -9223372036854775808≤n)(h1:n≤9223372036854775807)(w:World)(htab:Lib.TabIs Tryz.prog w "internal/strconv.uint64pow10" .u64 Lib.pow10Tab):
  Calls Tryz.prog 129 #[.int .i64 n] w fun e w'=>e=.returned (.string ⟨(Lib.itoa n).toArray⟩)∧∃k os,w'=grow (w.drewN k) os:=Any.strconv_Itoa Tryz.laysM171 n h0 h1 w htab
def Tryz.lays143_ren:Go.Shelf.Ren:=⟨fun|143=>267|219=>311|217=>335|225=>324|224=>323|267=>336|266=>353|314=>354|n=>n,fun|9=>9|3=>3|4=>4|5=>5|46=>257|146=>402|51=>350|n=>n,fun|1=>1|n=>n⟩
theorem Tryz.lays143 : Go.Proofs.Lays.n143 Tryz.prog Tryz.lays143_ren := {
 mixed:=by kernel_rfl
 f143:=Tryz.func267.trans (congrArg some bR)
 f217:=Tryz.func335.trans (congrArg some bR)
 f219:=Tryz.func311.trans (congrArg some bR)
 f224:=Tryz.func323.trans (congrArg some bR)
 f225:=Tryz.func324.trans (congrArg some bR)
 f266:=Tryz.func353.trans (congrArg some bR)
 f267:=Tryz.func336.trans (congrArg some bR)
 f314:=Tryz.func354.trans (congrArg some bR)
 t3:=Tryz.underlying3
 a3:=Tryz.isAgg3
 z3:=Tryz.sizeOf3
 v3:=Tryz.zeroValue3
 t4:=Tryz.underlying4
 a4:=Tryz.isAgg4
 z4:=Tryz.sizeOf4
 v4:=Tryz.zeroValue4
 t5:=Tryz.underlying5
 a5:=Tryz.isAgg5
 z5:=Tryz.sizeOf5
 v5:=Tryz.zeroValue5
 t9:=Tryz.underlying9
 a9:=Tryz.isAgg9
 z9:=Tryz.sizeOf9
 v9:=Tryz.zeroValue9
 t46:=Tryz.underlying257
 a46:=Tryz.isAgg257
 z46:=Tryz.sizeOf257
 v46:=Tryz.zeroValue257
 t51:=Tryz.underlying350
 a51:=Tryz.isAgg350
 z51:=Tryz.sizeOf350
 v51:=Tryz.zeroValue350
 t146:=Tryz.underlying402
 a146:=Tryz.isAgg402
 z146:=Tryz.sizeOf402
 v146:=Tryz.zeroValue402
 g1:=by kernel_rfl}
open Go.RowKit Go.Lib in
theorem Tryz.strings_Index(s sub:ByteArray)(m:Int)(w:World)(hs:s.size < 4294967281)(hm:w.cell? ⟨1,0,none⟩=some (.int .i64 m)):
  Calls Tryz.prog 267 #[.string s,.string sub] w fun e w'=>e=.returned (.int .i64 (Lib.index s.data.toList sub.data.toList))∧w'=w:=Any.strings_Index Tryz.lays143 s sub m w hs hm
def Tryz.lays144_ren:Go.Shelf.Ren:=⟨fun|144=>305|143=>267|219=>311|217=>335|225=>324|224=>323|267=>336|266=>353|314=>354|n=>n,fun|9=>9|4=>4|3=>3|5=>5|46=>257|146=>402|51=>350|n=>n,fun|1=>1|n=>n⟩
theorem Tryz.lays144 : Go.Proofs.Lays.n144 Tryz.prog Tryz.lays144_ren := {
 mixed:=by kernel_rfl
 f143:=Tryz.func267.trans (congrArg some bR)
 f144:=Tryz.func305.trans (congrArg some bR)
 f217:=Tryz.func335.trans (congrArg some bR)
 f219:=Tryz.func311.trans (congrArg some bR)
 f224:=Tryz.func323.trans (congrArg some bR)
 f225:=Tryz.func324.trans (congrArg some bR)
 f266:=Tryz.func353.trans (congrArg some bR)
 f267:=Tryz.func336.trans (congrArg some bR)
 f314:=Tryz.func354.trans (congrArg some bR)
 t3:=Tryz.underlying3
 a3:=Tryz.isAgg3
 z3:=Tryz.sizeOf3
 v3:=Tryz.zeroValue3
 t4:=Tryz.underlying4
 a4:=Tryz.isAgg4
 z4:=Tryz.sizeOf4
 v4:=Tryz.zeroValue4
 t5:=Tryz.underlying5
 a5:=Tryz.isAgg5
 z5:=Tryz.sizeOf5
 v5:=Tryz.zeroValue5
 t9:=Tryz.underlying9
 a9:=Tryz.isAgg9
 z9:=Tryz.sizeOf9
 v9:=Tryz.zeroValue9
 t46:=Tryz.underlying257
 a46:=Tryz.isAgg257
 z46:=Tryz.sizeOf257
 v46:=Tryz.zeroValue257
 t51:=Tryz.underlying350
 a51:=Tryz.isAgg350
 z51:=Tryz.sizeOf350
 v51:=Tryz.zeroValue350
 t146:=Tryz.underlying402
 a146:=Tryz.isAgg402
 z146:=Tryz.sizeOf402
 v146:=Tryz.zeroValue402
 g1:=by kernel_rfl}
open Go.RowKit Go.Lib in
theorem Tryz.strings_Contains(s sub:ByteArray)(m:Int)(w:World)(hs:s.size < 4294967281)(hm:w.cell? ⟨1,0,none⟩=some (.int .i64 m)):
  Calls Tryz.prog 305 #[.string s,.string sub] w fun e w'=>e=.returned (.bool (Lib.contains s.data.toList sub.data.toList))∧w'=w:=Any.strings_Contains Tryz.lays144 s sub m w hs hm
def Tryz.lays145_ren:Go.Shelf.Ren:=⟨fun|145=>228|220=>295|219=>311|217=>335|225=>324|224=>323|267=>336|266=>353|314=>354|n=>n,fun|9=>9|4=>4|59=>347|3=>3|5=>5|46=>257|146=>402|51=>350|n=>n,fun|1=>1|n=>n⟩
theorem Tryz.lays145 : Go.Proofs.Lays.n145 Tryz.prog Tryz.lays145_ren := {
 mixed:=by kernel_rfl
 f145:=Tryz.func228.trans (congrArg some bR)
 f217:=Tryz.func335.trans (congrArg some bR)
 f219:=Tryz.func311.trans (congrArg some bR)
 f220:=Tryz.func295.trans (congrArg some bR)
 f224:=Tryz.func323.trans (congrArg some bR)
 f225:=Tryz.func324.trans (congrArg some bR)
 f266:=Tryz.func353.trans (congrArg some bR)
 f267:=Tryz.func336.trans (congrArg some bR)
 f314:=Tryz.func354.trans (congrArg some bR)
 t3:=Tryz.underlying3
 a3:=Tryz.isAgg3
 z3:=Tryz.sizeOf3
 v3:=Tryz.zeroValue3
 t4:=Tryz.underlying4
 a4:=Tryz.isAgg4
 z4:=Tryz.sizeOf4
 v4:=Tryz.zeroValue4
 t5:=Tryz.underlying5
 a5:=Tryz.isAgg5
 z5:=Tryz.sizeOf5
 v5:=Tryz.zeroValue5
 t9:=Tryz.underlying9
 a9:=Tryz.isAgg9
 z9:=Tryz.sizeOf9
 v9:=Tryz.zeroValue9
 t46:=Tryz.underlying257
 a46:=Tryz.isAgg257
 z46:=Tryz.sizeOf257
 v46:=Tryz.zeroValue257
 t51:=Tryz.underlying350
 a51:=Tryz.isAgg350
 z51:=Tryz.sizeOf350
 v51:=Tryz.zeroValue350
 t59:=Tryz.underlying347
 a59:=Tryz.isAgg347
 z59:=Tryz.sizeOf347
 v59:=Tryz.zeroValue347
 t146:=Tryz.underlying402
 a146:=Tryz.isAgg402
 z146:=Tryz.sizeOf402
 v146:=Tryz.zeroValue402
 g1:=by kernel_rfl}
open Go.RowKit Go.Lib in
theorem Tryz.strings_Cut(s sep:ByteArray)(m:Int)(w:World)(hs:s.size < 4294967281)(hm:w.cell? ⟨1,0,none⟩=some (.int .i64 m)):
  Calls Tryz.prog 228 #[.string s,.string sep] w fun e w'=>e=.returned (.tuple #[.string ⟨(Lib.cut s.data.toList sep.data.toList).1.toArray⟩,.string ⟨(Lib.cut s.data.toList sep.data.toList).2.1.toArray⟩,.bool (Lib.cut s.data.toList sep.data.toList).2.2])∧∃n,w'=w.drewN n:=Any.strings_Cut Tryz.lays145 s sep m w hs hm
def Tryz.lays152_ren:Go.Shelf.Ren:=⟨fun|152=>289|137=>308|119=>322|224=>323|225=>324|217=>335|266=>353|n=>n,fun|9=>9|21=>21|3=>3|4=>4|5=>5|0=>0|46=>257|n=>n,fun|n=>n⟩
theorem Tryz.lays152 : Go.Proofs.Lays.n152 Tryz.prog Tryz.lays152_ren := {
 mixed:=by kernel_rfl
 f119:=Tryz.func322.trans (congrArg some bR)
 f137:=Tryz.func308.trans (congrArg some bR)
 f152:=Tryz.func289.trans (congrArg some bR)
 f217:=Tryz.func335.trans (congrArg some bR)
 f224:=Tryz.func323.trans (congrArg some bR)
 f225:=Tryz.func324.trans (congrArg some bR)
 f266:=Tryz.func353.trans (congrArg some bR)
 t0:=Tryz.underlying0
 a0:=Tryz.isAgg0
 z0:=Tryz.sizeOf0
 v0:=Tryz.zeroValue0
 t3:=Tryz.underlying3
 a3:=Tryz.isAgg3
 z3:=Tryz.sizeOf3
 v3:=Tryz.zeroValue3
 t4:=Tryz.underlying4
 a4:=Tryz.isAgg4
 z4:=Tryz.sizeOf4
 v4:=Tryz.zeroValue4
 t5:=Tryz.underlying5
 a5:=Tryz.isAgg5
 z5:=Tryz.sizeOf5
 v5:=Tryz.zeroValue5
 t9:=Tryz.underlying9
 a9:=Tryz.isAgg9
 z9:=Tryz.sizeOf9
 v9:=Tryz.zeroValue9
 t21:=Tryz.underlying21
 a21:=Tryz.isAgg21
 z21:=Tryz.sizeOf21
 v21:=Tryz.zeroValue21
 t46:=Tryz.underlying257
 a46:=Tryz.isAgg257
 z46:=Tryz.sizeOf257
 v46:=Tryz.zeroValue257}
open Go.RowKit Go.Lib in
theorem Tryz.strings_IndexRune_ascii(s:ByteArray)(r:Int)(w:World)(h0:0≤r)(h1:r < 128):
  Calls Tryz.prog 289 #[.string s,.int .i32 r] w fun e w'=>e=.returned (.int .i64 (Lib.indexByte s.data.toList r.toNat.toUInt8))∧w'=w:=Any.strings_IndexRune_ascii Tryz.lays152 s r w h0 h1
def Tryz.lays226_ren:Go.Shelf.Ren:=⟨fun|226=>290|n=>n,fun|3=>3|4=>4|n=>n,fun|n=>n⟩
theorem Tryz.lays226 : Go.Proofs.Lays.n226 Tryz.prog Tryz.lays226_ren := {
 mixed:=by kernel_rfl
 f226:=Tryz.func290.trans (congrArg some bR)
 t3:=Tryz.underlying3
 a3:=Tryz.isAgg3
 z3:=Tryz.sizeOf3
 v3:=Tryz.zeroValue3
 t4:=Tryz.underlying4
 a4:=Tryz.isAgg4
 z4:=Tryz.sizeOf4
 v4:=Tryz.zeroValue4}
open Go.RowKit Go.Lib in
theorem Tryz.strings_shouldUseASCIISet(n:Int)(w:World):
  Calls Tryz.prog 290 #[.int .i64 n] w fun e w'=>e=.returned (.bool (decide (8 < n)))∧w'=w:=Any.strings_shouldUseASCIISet Tryz.lays226 n w
def Tryz.lays153_ren:Go.Shelf.Ren:=⟨fun|153=>221|152=>289|226=>290|227=>291|228=>292|137=>308|119=>322|224=>323|225=>324|217=>335|266=>353|n=>n,fun|9=>9|3=>3|4=>4|5=>5|21=>21|117=>416|116=>415|0=>0|46=>257|124=>443|n=>n,fun|n=>n⟩
theorem Tryz.lays153 : Go.Proofs.Lays.n153 Tryz.prog Tryz.lays153_ren := {
 mixed:=by kernel_rfl
 f119:=Tryz.func322.trans (congrArg some bR)
 f137:=Tryz.func308.trans (congrArg some bR)
 f152:=Tryz.func289.trans (congrArg some bR)
 f153:=Tryz.func221.trans (congrArg some bR)
 f217:=Tryz.func335.trans (congrArg some bR)
 f224:=Tryz.func323.trans (congrArg some bR)
 f225:=Tryz.func324.trans (congrArg some bR)
 f226:=Tryz.func290.trans (congrArg some bR)
 f227:=Tryz.func291.trans (congrArg some bR)
 f228:=Tryz.func292.trans (congrArg some bR)
 f266:=Tryz.func353.trans (congrArg some bR)
 t0:=Tryz.underlying0
 a0:=Tryz.isAgg0
 z0:=Tryz.sizeOf0
 v0:=Tryz.zeroValue0
 t3:=Tryz.underlying3
 a3:=Tryz.isAgg3
 z3:=Tryz.sizeOf3
 v3:=Tryz.zeroValue3
 t4:=Tryz.underlying4
 a4:=Tryz.isAgg4
 z4:=Tryz.sizeOf4
 v4:=Tryz.zeroValue4
 t5:=Tryz.underlying5
 a5:=Tryz.isAgg5
 z5:=Tryz.sizeOf5
 v5:=Tryz.zeroValue5
 t9:=Tryz.underlying9
 a9:=Tryz.isAgg9
 z9:=Tryz.sizeOf9
 v9:=Tryz.zeroValue9
 t21:=Tryz.underlying21
 a21:=Tryz.isAgg21
 z21:=Tryz.sizeOf21
 v21:=Tryz.zeroValue21
 t46:=Tryz.underlying257
 a46:=Tryz.isAgg257
 z46:=Tryz.sizeOf257
 v46:=Tryz.zeroValue257
 t116:=Tryz.underlying415
 a116:=Tryz.isAgg415
 z116:=Tryz.sizeOf415
 t117:=Tryz.underlying416
 a117:=Tryz.isAgg416
 z117:=Tryz.sizeOf416
 v117:=Tryz.zeroValue416
 t124:=Tryz.underlying443
 a124:=Tryz.isAgg443
 z124:=Tryz.sizeOf443
 v124:=Tryz.zeroValue443}
open Go.RowKit Go.Lib in
theorem Tryz.strings_IndexAny_long(hv116:∀w,(zeroValue 415).run Tryz.prog w=.ok (.agg (Array.replicate 256 (.bool false))) w)(s chars:ByteArray)(w:World)(h2:2≤chars.size)(h8:8 < s.size)(hs:s.size < 4294967281)(hcs:chars.size < 4294967281)(hascii:∀(j:Nat) b,chars.data.toList[j]?=some b→b.toNat < 128):
  Calls Tryz.prog 221 #[.string s,.string chars] w fun e w'=>e=.returned (.int .i64 (Lib.indexAny s.data.toList chars.data.toList))∧w'=((w.alloc (.cells (Lib.setCells chars.data.toList) 415)).alloc (.cells (Lib.setCells chars.data.toList) 415)):=Any.strings_IndexAny_long Tryz.lays153 hv116 bR s chars w h2 h8 hs hcs hascii
end Go.Proofs
end
section
namespace Go.Proofs
open Go Go.SL Go.Syn
def Flt(e at_:Int):Ending→Hl→List Asn→Prop:=fun en K' L'=>
 ∃b,en=.panicked [{v:=.iface 118 (ptr b),recovered:=false}]∧L'=[pt b (aU [i64 e,i64 at_] 123)]
def fT{β:Type}(r:Res β)(N:β→Value→Hl→List Asn→Prop):Ending→Hl→List Asn→Prop:=fun en K' L'=>
 match r with
 | .ok x=>Ret (N x) en K' L'
 | .error (e,p)=>Flt e p en K' L'
theorem a8{β:Type}{r:Res β}{N:β→Value→Hl→List Asn→Prop}(K':Hl)(L':List Asn):¬fT r N .outgrown K' L':=by
 unfold fT;cases r with
 |ok x=>rintro⟨_,h,_⟩;cases h
 |error p=>rintro⟨_,h,_⟩;cases h
theorem bB{β:Type}{r:Res β}{N:β→Value→Hl→List Asn→Prop}{v:Value}{K':Hl}{L':List Asn}(h:fT r N (.returned v) K' L'):∃x,r=.ok x∧N x v K' L':=by
 unfold fT at h;cases r with
 |ok x=>obtain⟨u,e,h⟩:=h;cases e;exact⟨x,rfl,h⟩
 |error p=>obtain⟨_,e,_⟩:=h;cases e
theorem bA{β:Type}{r:Res β}{N:β→Value→Hl→List Asn→Prop}{ch:List PanicEntry}{K':Hl}{L':List Asn}(h:fT r N (.panicked ch) K' L'):∃e p,r=.error (e,p)∧Flt e p (.panicked ch) K' L':=by
 unfold fT at h;cases r with
 |ok x=>obtain⟨u,e,h⟩:=h;cases e
 |error p=>exact⟨p.1,p.2,rfl,h⟩
theorem eM(e at_:Int)(K:Hl):Sp Tryz.prog 184 [i64 e,i64 at_] K [] (Flt e at_):=by
 refine aZ Tryz.func184 rfl Tryz.ntmps184 rfl rfl fun F w=>?_
 refine uIq ?_;rintro _ K _ ⟨b7,rfl,rfl,rfl⟩ -;refine aA (cL Tryz.underlying118 (fun _ h=>by cases h) rfl) rfl ?_;refine aGS rfl ?_;refine bJ (Hl.le_refl _) ?_;exact⟨_,rfl,rfl⟩
theorem aJI(c:UInt8)(K:Hl):Sp Tryz.prog 266 [.int .u8 c.toNat] K [] (Val (.bool (decide (¬c.toNat=10))) K):=by
 refine aZ Tryz.func266 rfl Tryz.ntmps266 rfl rfl fun F w=>?_
 refine aH (aB ?_);refine uAb ?_;refine aG (aE ?_);refine aH (aB ?_);refine uAa ?_;refine uDu ?_;refine uAb ?_;refine aG (aE ?_);refine bI ?_;refine bF rfl rfl (Hl.le_refl _) ?_;refine retB ?_ _
 rw[Bool.eq_iff_iff];simp;omega
structure Glob (K:Hl):Prop where
 maxLen:∃m T fz,K 1=some (aU [i64 m] T fz)
 pow10:∀w,K.le (hp w)→Lib.TabIs Tryz.prog w "internal/strconv.uint64pow10" .u64 Lib.pow10Tab
theorem zP(s sub:List UInt8)(K:Hl)(hg:Glob K)(hs:s.length < 4294967281):Sp Tryz.prog 267 [str s,str sub] K [] (Val (i64 (Lib.index s sub)) K):=by
 refine kR ⟨_,Tryz.func267,rfl,rfl⟩ fun w hw=>?_
 obtain⟨m,T,fz,hm⟩:=hg.maxLen;have:=Tryz.strings_Index ⟨s.toArray⟩ ⟨sub.toArray⟩ m w (by simpa[ByteArray.size]using hs) (mM (hw _ _ hm) rfl);exact this
theorem q9(s sub:List UInt8):Lib.index s sub≤(s.length:Int) - sub.length∨Lib.index s sub= -1:=by
 induction s with
 |nil=>cases sub <;> simp[Lib.index]
 |cons b l ih=>
  simp only[Lib.index];split
  ·rename_i hp;have:=List.IsPrefix.length_le (List.isPrefixOf_iff_prefix.1 hp);simp at this ⊢;omega
  ·split
   ·exact .inr rfl
   ·rename_i h;simp at h;rcases ih with ih|ih
    ·left;simp;omega
    ·exact absurd ih h
theorem aN4(b:Nat)(T:TypeId)(s:List UInt8)(a:Nat)(wk ws wn wa:Value)(rest:List Value)(hs:s.length≤600)(ha:a≤s.length)(K:Hl)(hg:Glob K):
  Sp Tryz.prog 180 [ptr b] K [lxb b T s a wk ws wn wa rest]
   (fT (skip s a) fun a' v K' L'=>v=.tuple #[]∧K'=K∧L'=[lxb b T s a' wk ws wn wa rest]):=by
 refine aZ Tryz.func180 rfl Tryz.ntmps180 rfl rfl fun F w=>?_
 refine bE ?_;refine eR (fun(i:Nat)=>a≤i∧i≤s.length∧∃f,s.length < i+(f+1)∧skip s a=jC s (f+1) i) (fun i=>[(0,ptr b)]) (fun _=>K) (fun i=>[lxb b T s i wk ws wn wa rest]) (fun i=>s.length - i) a ⟨Nat.le_refl _,ha,s.length - a,by omega,by unfold skip;congr 1;omega⟩ (.cons 0 rfl .nil) rfl (fun _ h=>h) ?_;intro i ⟨hi1,hi2,f,hi3,hi4⟩;refine aH (aH ?_);refine t_draw (anc:=[0,1,3,7,0,16,48,112,240,511]) (ord:=[0,1,2,3,4,5,6,7,8,9]) [] [] mixed (by decide+kernel) (cS _) ?_;refine uAl ?_;refine uHv ?_;refine uDf ?_;refine bK 13 rfl (fun h13=>?_) (fun h13=>?_)
 ·
  obtain⟨c,hc⟩:∃c,s[i]?=some c:=⟨s[i],List.getElem?_eq_getElem aI⟩;have hp0:((s[i+0]?).getD 0)=c:=by rw[Nat.add_zero,hc];rfl
  refine aW ?_;refine aE (bE ?_);refine aH (aB ?_);refine uAa ?_;refine bC rfl rfl (j4 b T s i 0 wk ws wn wa rest hs aI aI K) (.cons .here .nil) rfl ?_;rintro _ K _ ⟨rfl,rfl,rfl⟩ -;rw[hp0];refine uAb ?_;refine aG (aE ?_);refine aH (aB ?_);refine uAa ?_;refine aG (aE ?_);refine bE (aH ?_);refine aH (aB ?_);refine uCe ?_;refine aG (aE ?_);refine bK 17 rfl (fun h17=>?_) (fun h17=>?_)
  ·
   refine uHp ?_;refine uGe ?_;refine uHc ?_;rintro _ K _ ⟨rfl,rfl⟩ -;refine aG (aN ?_);refine aN ?_
   first
    |(have hf:∃f0,f=f0+1:=⟨f - 1,by omega⟩;obtain⟨f0,rfl⟩:=hf;refine cQ (i+1) ⟨by omega,by omega,f0,by omega,by rw[hi4,kX hc aI]⟩ aI (.cons 0 rfl .nil) rfl (fun _ h=>h))
    |(have hh:=pB hc aI;refine cQ (i+((s.drop i).takeWhile fun c=>decide (¬c.toNat=10)).length) ⟨by omega,by omega,f - 1,by omega,by rw[hi4,mF hc aI];congr 1;omega⟩ aI (.cons 0 rfl .nil) rfl (fun _ h=>h))
    |(rw[show ((i:Int)+(2+Lib.index (s.drop (min (i+2) s.length)) [42,47]+2))=((i+2+(Lib.index (s.drop (min (i+2) s.length)) [42,47]).toNat+2:Nat):Int)from by omega];refine cQ (i+2+(Lib.index (s.drop (min (i+2) s.length)) [42,47]).toNat+2) ⟨by omega,by omega,f - 1,by omega,by rw[hi4,jH hc aI aI aI];congr 1;omega⟩ aI (.cons 0 rfl .nil) rfl (fun _ h=>h))
  ·
   refine aH (aB ?_);refine uCe ?_;refine aG (aE ?_);refine bK 17 rfl (fun h17=>?_) (fun h17=>?_)
   ·
    refine uHp ?_;refine uGe ?_;refine uHc ?_;rintro _ K _ ⟨rfl,rfl⟩ -;refine aG (aN ?_);refine aN ?_
    first
     |(have hf:∃f0,f=f0+1:=⟨f - 1,by omega⟩;obtain⟨f0,rfl⟩:=hf;refine cQ (i+1) ⟨by omega,by omega,f0,by omega,by rw[hi4,kX hc aI]⟩ aI (.cons 0 rfl .nil) rfl (fun _ h=>h))
     |(have hh:=pB hc aI;refine cQ (i+((s.drop i).takeWhile fun c=>decide (¬c.toNat=10)).length) ⟨by omega,by omega,f - 1,by omega,by rw[hi4,mF hc aI];congr 1;omega⟩ aI (.cons 0 rfl .nil) rfl (fun _ h=>h))
     |(rw[show ((i:Int)+(2+Lib.index (s.drop (min (i+2) s.length)) [42,47]+2))=((i+2+(Lib.index (s.drop (min (i+2) s.length)) [42,47]).toNat+2:Nat):Int)from by omega];refine cQ (i+2+(Lib.index (s.drop (min (i+2) s.length)) [42,47]).toNat+2) ⟨by omega,by omega,f - 1,by omega,by rw[hi4,jH hc aI aI aI];congr 1;omega⟩ aI (.cons 0 rfl .nil) rfl (fun _ h=>h))
   ·
    refine aH (aB ?_);refine uCe ?_;refine aG (aE ?_);refine bK 17 rfl (fun h17=>?_) (fun h17=>?_)
    ·
     refine uHp ?_;refine uGe ?_;refine uHc ?_;rintro _ K _ ⟨rfl,rfl⟩ -;refine aG (aN ?_);refine aN ?_
     first
      |(have hf:∃f0,f=f0+1:=⟨f - 1,by omega⟩;obtain⟨f0,rfl⟩:=hf;refine cQ (i+1) ⟨by omega,by omega,f0,by omega,by rw[hi4,kX hc aI]⟩ aI (.cons 0 rfl .nil) rfl (fun _ h=>h))
      |(have hh:=pB hc aI;refine cQ (i+((s.drop i).takeWhile fun c=>decide (¬c.toNat=10)).length) ⟨by omega,by omega,f - 1,by omega,by rw[hi4,mF hc aI];congr 1;omega⟩ aI (.cons 0 rfl .nil) rfl (fun _ h=>h))
      |(rw[show ((i:Int)+(2+Lib.index (s.drop (min (i+2) s.length)) [42,47]+2))=((i+2+(Lib.index (s.drop (min (i+2) s.length)) [42,47]).toNat+2:Nat):Int)from by omega];refine cQ (i+2+(Lib.index (s.drop (min (i+2) s.length)) [42,47]).toNat+2) ⟨by omega,by omega,f - 1,by omega,by rw[hi4,jH hc aI aI aI];congr 1;omega⟩ aI (.cons 0 rfl .nil) rfl (fun _ h=>h))
    ·
     refine aB ?_;refine uCe ?_;refine aG (aE ?_);refine bK 17 rfl (fun h17=>?_) (fun h17=>?_)
     ·
      refine uHc ?_;rintro _ K _ ⟨rfl,rfl⟩ -;refine aG (aN ?_);refine aN ?_
      first
       |(have hf:∃f0,f=f0+1:=⟨f - 1,by omega⟩;obtain⟨f0,rfl⟩:=hf;refine cQ (i+1) ⟨by omega,by omega,f0,by omega,by rw[hi4,kX hc aI]⟩ aI (.cons 0 rfl .nil) rfl (fun _ h=>h))
       |(have hh:=pB hc aI;refine cQ (i+((s.drop i).takeWhile fun c=>decide (¬c.toNat=10)).length) ⟨by omega,by omega,f - 1,by omega,by rw[hi4,mF hc aI];congr 1;omega⟩ aI (.cons 0 rfl .nil) rfl (fun _ h=>h))
       |(rw[show ((i:Int)+(2+Lib.index (s.drop (min (i+2) s.length)) [42,47]+2))=((i+2+(Lib.index (s.drop (min (i+2) s.length)) [42,47]).toNat+2:Nat):Int)from by omega];refine cQ (i+2+(Lib.index (s.drop (min (i+2) s.length)) [42,47]).toNat+2) ⟨by omega,by omega,f - 1,by omega,by rw[hi4,jH hc aI aI aI];congr 1;omega⟩ aI (.cons 0 rfl .nil) rfl (fun _ h=>h))
     ·
      refine aH (aB ?_);refine uCe ?_;refine aG (aE ?_);refine bK 29 rfl (fun h29=>?_) (fun h29=>?_)
      ·
       refine uAf ?_;refine bC rfl rfl (qL b T s i wk ws wn wa rest 266 (fun c=>decide (¬c.toNat=10)) hs aI _ (fun c=>aJI c _)) (.cons .here .nil) rfl ?_;rintro _ K _ ⟨rfl,rfl,rfl⟩ -;refine aG (aN ?_);refine aN ?_
       first
        |(have hf:∃f0,f=f0+1:=⟨f - 1,by omega⟩;obtain⟨f0,rfl⟩:=hf;refine cQ (i+1) ⟨by omega,by omega,f0,by omega,by rw[hi4,kX hc aI]⟩ aI (.cons 0 rfl .nil) rfl (fun _ h=>h))
        |(have hh:=pB hc aI;refine cQ (i+((s.drop i).takeWhile fun c=>decide (¬c.toNat=10)).length) ⟨by omega,by omega,f - 1,by omega,by rw[hi4,mF hc aI];congr 1;omega⟩ aI (.cons 0 rfl .nil) rfl (fun _ h=>h))
        |(rw[show ((i:Int)+(2+Lib.index (s.drop (min (i+2) s.length)) [42,47]+2))=((i+2+(Lib.index (s.drop (min (i+2) s.length)) [42,47]).toNat+2:Nat):Int)from by omega];refine cQ (i+2+(Lib.index (s.drop (min (i+2) s.length)) [42,47]).toNat+2) ⟨by omega,by omega,f - 1,by omega,by rw[hi4,jH hc aI aI aI];congr 1;omega⟩ aI (.cons 0 rfl .nil) rfl (fun _ h=>h))
      ·
       refine aH (aB ?_);refine uCe ?_;refine aG (aE ?_);refine bK 33 rfl (fun h33=>?_) (fun h33=>?_)
       ·
        refine aH ?_;refine t_draw (anc:=[0,1,3,7,0,16,48,112,240,0,512,1536,3584,7680,16368,32767,65535,131071]) (ord:=[0,1,2,3,4,5,6,7,8,9,10,11,12,13,14,15,16,17]) [16] [] mixed (by decide+kernel) (cS _) ?_;refine uCy ?_;refine uCg ?_;refine uCp ?_;refine uCy ?_;refine uDp ?_;refine dl_ev rfl rfl (.none rfl) rfl rfl (lY rfl rfl) rfl ?_;refine dl_ev rfl rfl (.none rfl) rfl rfl (iG (m:=min (i+2) s.length) Tryz.underlying9 rfl rfl (by split <;> omega) aI) rfl ?_;refine dl_callv rfl (.none rfl) rfl rfl rfl rfl (zP _ _ _ hg (by simp;omega)) rfl ?_;refine uGn ?_;refine aE (aH ?_);refine aH (aB ?_);refine uAa ?_;refine bC rfl rfl (j4 b T s i 1 wk ws wn wa rest hs aI aI _) (.cons .here .nil) rfl ?_;rintro _ K _ ⟨rfl,rfl,rfl⟩ -;have hix:=q9 (s.drop (min (i+2) s.length)) [42,47];simp only[List.length_drop,List.length_cons,List.length_nil]at hix;refine uDu ?_;refine aG (aE ?_);refine bK 54 rfl (fun h54=>?_) (fun h54=>?_)
        ·
         refine uCk ?_;refine bS ?_;refine uGj ?_;refine tK rfl (Hl.le_refl _) ?_;have hk:skip s a=.ok i:=by rw[hi4];first|exact wO aI|exact rO hc aI aI|exact rN hc aI
         rw[hk];exact⟨_,rfl,rfl,rfl,rfl⟩
        ·
         refine aW ?_;refine aE (aH ?_);refine aH (aB ?_);refine uAa ?_;refine uBn ?_;refine aG (aE ?_);refine bK 56 rfl (fun h56=>?_) (fun h56=>?_)
         ·
          refine uBv ?_;refine uFm ?_;refine aY rfl rfl (eM 2 i _) .nil rfl (by rintro _ _ ⟨_,h,_⟩;cases h) ?_ ?_
          ·
           rintro _ _ _ ⟨fb,h,rfl⟩ le1;cases h
           refine uEf ?_;refine aR ?_;refine aR ?_;refine aK ?_;refine aR ?_;refine bJ bU ?_;rw[hi4,aN3 hc aI aI h56];exact⟨fb,rfl,rfl⟩
          ·
           rintro _ _ _ ⟨_,h,_⟩;cases h
         ·
          refine aW ?_;refine aE (aB ?_);refine uBz ?_;refine uFm ?_;refine uAa ?_;refine uCj ?_;refine uCj ?_;refine uCj ?_;refine uEw ?_;refine aA (aD (o':=1) cE rfl rfl) rfl ?_;refine bP (bH ts3 rfl rfl cD aX (.succ .zero) rfl) ?_;rintro _ K _ ⟨rfl,rfl⟩ -;refine aG (aN ?_);refine aN ?_
          first
           |(have hf:∃f0,f=f0+1:=⟨f - 1,by omega⟩;obtain⟨f0,rfl⟩:=hf;refine cQ (i+1) ⟨by omega,by omega,f0,by omega,by rw[hi4,kX hc aI]⟩ aI (.cons 0 rfl .nil) rfl (fun _ h=>h))
           |(have hh:=pB hc aI;refine cQ (i+((s.drop i).takeWhile fun c=>decide (¬c.toNat=10)).length) ⟨by omega,by omega,f - 1,by omega,by rw[hi4,mF hc aI];congr 1;omega⟩ aI (.cons 0 rfl .nil) rfl (fun _ h=>h))
           |(rw[show ((i:Int)+(2+Lib.index (s.drop (min (i+2) s.length)) [42,47]+2))=((i+2+(Lib.index (s.drop (min (i+2) s.length)) [42,47]).toNat+2:Nat):Int)from by omega];refine cQ (i+2+(Lib.index (s.drop (min (i+2) s.length)) [42,47]).toNat+2) ⟨by omega,by omega,f - 1,by omega,by rw[hi4,jH hc aI aI aI];congr 1;omega⟩ aI (.cons 0 rfl .nil) rfl (fun _ h=>h))
       ·
        refine bI ?_;refine bS ?_;refine uGj ?_;refine tK rfl (Hl.le_refl _) ?_;have hk:skip s a=.ok i:=by rw[hi4];first|exact wO aI|exact rO hc aI aI|exact rN hc aI
        rw[hk];exact⟨_,rfl,rfl,rfl,rfl⟩
 ·
  refine uAp ?_;refine dD rfl (Hl.le_refl _) ?_;have hk:skip s a=.ok i:=by rw[hi4];first|exact wO aI|exact rO hc aI aI|exact rN hc aI
  rw[hk];exact⟨_,rfl,rfl,rfl,rfl⟩
end Go.Proofs
end
section
namespace Go.Proofs
open Go Go.SL Go.Syn
theorem xU(s:List UInt8)(lo hi add:UInt8)(K:Hl)(hs:s.length≤140737488351232):
    Sp Tryz.prog 269 [str s,.int .u8 lo.toNat,.int .u8 hi.toNat,.int .u8 add.toNat] K [] (Val (str (s.map (lR lo hi add))) K):=by
  refine aZ Tryz.func269 rfl Tryz.ntmps269 rfl rfl fun F w=>?_
  refine aH (aB ?_);refine uAb ?_;refine aG (aE ?_);refine aH (aB ?_);refine uAa ?_;refine uDk ?_;rintro v13 K _ ⟨rfl,rfl⟩ -;refine uAb ?_;refine aG (aE ?_);refine aH (aH ?_);refine uAf ?_;refine uDx ?_;refine aG (aE ?_);refine bE ?_;refine eR (fun(i:Nat)=>i≤s.length) (fun i=>[(1,.int .u8 lo.toNat),(2,.int .u8 hi.toNat),(3,.int .u8 add.toNat),(9,v13),(14,v13),(15,i64 s.length),(16,i64 i)]) (fun _=>_) (fun i=>[sl false (elB 5) v13 (Plain.mp (lR lo hi add) s i)]) (fun i=>s.length - i) 0 (Nat.zero_le _) (.cons 1 rfl (.cons 2 rfl (.cons 3 rfl (.cons 9 rfl (.cons 14 rfl (.cons 15 rfl (.cons 16 rfl .nil))))))) rfl (fun _ h=>by rw[Plain.mp_zero];exact h) ?_;intro i hi0;refine aH (aB ?_);refine uBn ?_;refine aG (aE ?_);refine aH ?_;refine bK 17 rfl (fun h17=>?_) (fun h17=>?_)
  ·
    obtain⟨c,hc⟩:∃c,s[i]?=some c:=⟨s[i]'(by omega),List.getElem?_eq_getElem aI⟩;have hlen:i < (Plain.mp (lR lo hi add) s i).length:=by rw[Plain.mp_len];omega
    have hget:=(Plain.mp_get (lR lo hi add) s i).trans hc;refine aW ?_;refine aE (aH ?_);refine bE (aH ?_);refine uAf ?_;refine aA (b0 (k:=(elB 5)) lD rfl aL rfl rfl (by first|assumption|omega)) rfl ?_;refine uFx ?_;refine uAw ?_;refine aG (aE ?_);refine aH (aB ?_);refine uAx ?_;refine uEl ?_;refine uAa ?_;refine cG 24 rfl (fun g24=>?_) (fun g24=>?_)
    ·
      refine uAi ?_;refine uGq ?_;refine uEs ?_;refine uAy ?_;refine aG (aE ?_);refine bK 28 rfl (fun h28=>?_) (fun h28=>?_)
      ·
        refine uAf ?_;refine uEg ?_;refine aA (aTK c add rfl rfl) rfl ?_;refine aA (b0 (k:=(elB 5)) lD rfl aL rfl rfl (by first|assumption|omega)) rfl ?_;refine bP (aCN (k:=(elB 5)) (y0:=c+add) ts5 rfl rfl rfl rfl (by first|assumption|omega) aX) ?_;rintro _ K _ ⟨rfl,rfl⟩ -;refine aG (aN ?_);refine aE (aB ?_);refine uAo ?_;refine cQ (i+1) aI aI (.cons 1 rfl (.cons 2 rfl (.cons 3 rfl (.cons 9 rfl (.cons 14 rfl (.cons 15 rfl (.cons 16 rfl .nil))))))) rfl ?_
        first
          | (have ht : lR lo hi add c = c + add := by (unfold lR; rw [if_pos aI])
             rw[←ht,Plain.mp_set hc];exact fun _ h=>h)
          | (have ht : lR lo hi add c = c := by (unfold lR; rw [if_neg aI])
             rw[Plain.mp_same hc ht];exact fun _ h=>h)
      ·
        refine aW ?_;refine aN (aE ?_);refine uDj ?_;refine cQ (i+1) aI aI (.cons 1 rfl (.cons 2 rfl (.cons 3 rfl (.cons 9 rfl (.cons 14 rfl (.cons 15 rfl (.cons 16 rfl .nil))))))) rfl ?_
        first
          | (have ht : lR lo hi add c = c + add := by (unfold lR; rw [if_pos aI])
             rw[←ht,Plain.mp_set hc];exact fun _ h=>h)
          | (have ht : lR lo hi add c = c := by (unfold lR; rw [if_neg aI])
             rw[Plain.mp_same hc ht];exact fun _ h=>h)
    ·
      refine uFa ?_;refine aG (aE ?_);refine uBf ?_;refine aN (aE ?_);refine uDj ?_;refine cQ (i+1) aI aI (.cons 1 rfl (.cons 2 rfl (.cons 3 rfl (.cons 9 rfl (.cons 14 rfl (.cons 15 rfl (.cons 16 rfl .nil))))))) rfl ?_
      first
        | (have ht : lR lo hi add c = c + add := by (unfold lR; rw [if_pos aI])
           rw[←ht,Plain.mp_set hc];exact fun _ h=>h)
        | (have ht : lR lo hi add c = c := by (unfold lR; rw [if_neg aI])
           rw[Plain.mp_same hc ht];exact fun _ h=>h)
  ·
    have hfin:=Plain.mp_end (lR lo hi add) s (i:=i) aI;refine uAp ?_;refine aE (aH ?_);refine uGu ?_;refine uAb ?_;refine aG (aE ?_);refine bI ?_;rw[hfin];refine aO .nil ?_;refine bF rfl rfl (Hl.le_refl _) ?_;exact⟨rfl,rfl,rfl⟩
theorem fO(s:List UInt8)(K:Hl)(hs:s.length≤140737488351232):Sp Tryz.prog 185 [str s] K [] (Val (str (dH s)) K):=by
 refine aZ Tryz.func185 rfl Tryz.ntmps185 rfl rfl fun F w=>?_
 refine aH (aB ?_);refine uAb ?_;refine aG (aE ?_);refine aH (aB ?_);refine uAa ?_;refine cA rfl rfl (xU s 65 90 32 _ hs) rfl ?_;refine uAb ?_;refine aG (aE ?_);refine bI ?_;refine bF rfl rfl (Hl.le_refl _) ?_;exact⟨rfl,rfl,rfl⟩
theorem aIZ(s:List UInt8)(K:Hl)(hs:s.length≤140737488351232):Sp Tryz.prog 258 [str s] K [] (Val (str (aIY s)) K):=by
 refine aZ Tryz.func258 rfl Tryz.ntmps258 rfl rfl fun F w=>?_
 refine aH (aB ?_);refine uAb ?_;refine aG (aE ?_);refine aH (aB ?_);refine uAa ?_;refine cA rfl rfl (xU s 97 122 224 _ hs) rfl ?_;refine uAb ?_;refine aG (aE ?_);refine bI ?_;refine bF rfl rfl (Hl.le_refl _) ?_;exact⟨rfl,rfl,rfl⟩
theorem aGP(b:Nat)(T:TypeId)(s:List UInt8)(a:Nat)(wk ws wn:Value)(wat:Int)(rest:List Value)(hs:s.length≤600)(ha:a≤s.length)(K:Hl):
    Sp Tryz.prog 189 [ptr b] K [lxb b T s a wk ws wn (i64 wat) rest]
      (fT (tY s a wat) fun r v K' L'=>v=.tuple #[]∧K'=K∧L'=[lxb b T s r.1 (.int .u8 4) ws (i64 r.2) (i64 wat) rest]):=by
  have hdl:=aBW s a ha;refine aZ Tryz.func189 rfl Tryz.ntmps189 rfl rfl fun F w=>?_
  refine aH (aB ?_);refine uAb ?_;refine aG (aE ?_);refine aH (aH ?_);refine uAf ?_;refine bC rfl rfl (qL b T s a wk ws wn (i64 wat) rest 188 gP hs ha _ (fun c=>nG c _)) (.cons .here .nil) rfl ?_;rintro _ K _ ⟨rfl,rfl,rfl⟩ -;rw[show List.takeWhile gP (List.drop a s)=cW s a from rfl];have hvd:fV ((cW s a).take 0)=0:=rfl;refine uDk ?_;rintro v7 K _ ⟨rfl,rfl⟩ -;refine uDx ?_;refine aG (aE ?_);refine bE ?_;refine eR (fun(i:Nat)=>i≤(cW s a).length) (fun i=>[(0,ptr b),(2,i64 (fV ((cW s a).take i))),(7,v7),(8,i64 (cW s a).length),(9,i64 i)]) (fun _=>_) (fun i=>[sl false (elB 5) v7 (cW s a),lxb b T s (a+(cW s a).length:Nat) wk ws wn (i64 wat) rest]) (fun i=>(cW s a).length - i) 0 (Nat.zero_le _) (.cons 0 rfl (.cons 2 rfl (.cons 7 rfl (.cons 8 rfl (.cons 9 rfl .nil))))) rfl (fun _ h=>h) ?_;intro i hi0;refine aH (aB ?_);refine uBn ?_;refine aG (aE ?_);refine aH ?_;refine bK 10 rfl (fun h10=>?_) (fun h10=>?_)
  ·
    obtain⟨c,hc⟩:∃c,(cW s a)[i]?=some c:=⟨(cW s a)[i]'(by omega),List.getElem?_eq_getElem aI⟩;have hd:=aPT hc;have hlen:i < (cW s a).length:=by omega
    have hbd:=aBV ((cW s a).take i);refine aW ?_;refine aE (aH ?_);refine bE (aH ?_);refine aB ?_;refine aA (b0 (k:=(elB 5)) lD rfl aL rfl rfl (by first|assumption|omega)) rfl ?_;refine uFx ?_;refine uAb ?_;refine aG (aE ?_);refine uAf ?_;refine aA (tN rfl rfl aI aI) rfl ?_;refine uAa ?_;refine aA (aKO (m:=c.toNat) (n:=48) aI aI rfl rfl) rfl ?_;refine aA (xH Tryz.underlying3 Tryz.underlying5 rfl aI aI) rfl ?_;refine uCj ?_;refine aA (lY rfl rfl) rfl ?_;refine uAb ?_;refine aG (aN ?_);refine aE (aB ?_);refine uAo ?_;have hup:fV ((cW s a).take (i+1))=_:=aFW hc;refine cQ (i+1) aI aI (.cons 0 rfl (.cons 2 (by rw[hup];rfl) (.cons 7 rfl (.cons 8 rfl (.cons 9 rfl .nil))))) rfl (fun _ h=>h)
  ·
    have hfin:(cW s a).take i=cW s a:=List.take_of_length_le aI;have hbd:=aBV (cW s a);rw[hfin];refine uAp ?_;refine aE ?_;refine gS (fun(_:Unit)=>True) (fun _=>[(0,ptr b),(2,i64 (numN s a))]) (fun _=>K) (fun _=>[lxb b T s (numA s a:Nat) wk ws wn (i64 wat) rest]) ?_ ?_
    ·
      refine aH (aB ?_);refine uAa ?_;refine bC rfl rfl (j4 b T s (a+(cW s a).length) 0 wk ws wn (i64 wat) rest hs aI aI _) (.cons (.there .here) .nil) rfl ?_;rintro _ K _ ⟨rfl,rfl,rfl⟩ -;have hcc:(((s[a+(cW s a).length+0]?).getD 0).toNat:Int)=(numC s a:Int):=rfl;rw[hcc];clear hcc;refine aG (aE ?_);refine bE (aH ?_);refine bE (aH ?_);refine bE (aH ?_);refine aH (aH ?_);refine aH (aB ?_);refine uCe ?_;refine aG (aE ?_);refine bK 23 rfl (fun h23=>?_) (fun h23=>?_)
      ·
        refine uHp ?_;refine uGe ?_;refine uAp ?_;refine aE (aB ?_);refine uEu ?_;refine aG (aN ?_);refine aE (aH ?_);refine aH (aB ?_);refine uEu ?_;refine aG (aE ?_);refine uHc ?_;rintro _ K _ ⟨rfl,rfl⟩ -;refine aG (aE ?_);refine cR ?_;refine bG ?_
        first
          | (have eN : numN s a = fV (cW s a) * 1024 * 1024 := (by (unfold numN; rw [if_pos aI]))
             have eA:numA s a=a+(cW s a).length+1:=(by (unfold numA;rw[if_pos aI]));refine uAg ?_;refine bZ () trivial (.cons 0 rfl (.cons 2 (by rw[eN];rfl) .nil)) rfl (by rw[eA];exact fun _ h=>h))
          | (have eN : numN s a = fV (cW s a) * 1024 := (by (unfold numN; rw [if_neg aI, if_pos aI]))
             have eA:numA s a=a+(cW s a).length+1:=(by (unfold numA;rw[if_pos aI]));refine uAg ?_;refine bZ () trivial (.cons 0 rfl (.cons 2 (by rw[eN];rfl) .nil)) rfl (by rw[eA];exact fun _ h=>h))
          | (have eN : numN s a = fV (cW s a) := (by (unfold numN; rw [if_neg aI, if_neg aI]))
             have eA:numA s a=a+(cW s a).length:=(by (unfold numA;rw[if_neg aI]));refine uAg ?_;refine bZ () trivial (.cons 0 rfl (.cons 2 (by rw[eN];rfl) .nil)) rfl (by rw[eA];exact fun _ h=>h))
      ·
        refine aB ?_;refine uCe ?_;refine aG (aE ?_);refine bK 23 rfl (fun h23=>?_) (fun h23=>?_)
        ·
          refine uAp ?_;refine aE (aB ?_);refine uEu ?_;refine aG (aN ?_);refine aE (aH ?_);refine aH (aB ?_);refine uEu ?_;refine aG (aE ?_);refine uHc ?_;rintro _ K _ ⟨rfl,rfl⟩ -;refine aG (aE ?_);refine cR ?_;refine bG ?_
          first
            | (have eN : numN s a = fV (cW s a) * 1024 * 1024 := (by (unfold numN; rw [if_pos aI]))
               have eA:numA s a=a+(cW s a).length+1:=(by (unfold numA;rw[if_pos aI]));refine uAg ?_;refine bZ () trivial (.cons 0 rfl (.cons 2 (by rw[eN];rfl) .nil)) rfl (by rw[eA];exact fun _ h=>h))
            | (have eN : numN s a = fV (cW s a) * 1024 := (by (unfold numN; rw [if_neg aI, if_pos aI]))
               have eA:numA s a=a+(cW s a).length+1:=(by (unfold numA;rw[if_pos aI]));refine uAg ?_;refine bZ () trivial (.cons 0 rfl (.cons 2 (by rw[eN];rfl) .nil)) rfl (by rw[eA];exact fun _ h=>h))
            | (have eN : numN s a = fV (cW s a) := (by (unfold numN; rw [if_neg aI, if_neg aI]))
               have eA:numA s a=a+(cW s a).length:=(by (unfold numA;rw[if_neg aI]));refine uAg ?_;refine bZ () trivial (.cons 0 rfl (.cons 2 (by rw[eN];rfl) .nil)) rfl (by rw[eA];exact fun _ h=>h))
        ·
          refine aW ?_;refine aE (aH ?_);refine aH (aB ?_);refine uCe ?_;refine aG (aE ?_);refine bK 26 rfl (fun h26=>?_) (fun h26=>?_)
          ·
            refine uHp ?_;refine uGe ?_;refine uFp ?_;refine bG ?_;refine aE (aH ?_);refine aH (aB ?_);refine uEu ?_;refine aG (aE ?_);refine uHc ?_;rintro _ K _ ⟨rfl,rfl⟩ -;refine aG (aE ?_);refine cR ?_;refine bG ?_
            first
              | (have eN : numN s a = fV (cW s a) * 1024 * 1024 := (by (unfold numN; rw [if_pos aI]))
                 have eA:numA s a=a+(cW s a).length+1:=(by (unfold numA;rw[if_pos aI]));refine uAg ?_;refine bZ () trivial (.cons 0 rfl (.cons 2 (by rw[eN];rfl) .nil)) rfl (by rw[eA];exact fun _ h=>h))
              | (have eN : numN s a = fV (cW s a) * 1024 := (by (unfold numN; rw [if_neg aI, if_pos aI]))
                 have eA:numA s a=a+(cW s a).length+1:=(by (unfold numA;rw[if_pos aI]));refine uAg ?_;refine bZ () trivial (.cons 0 rfl (.cons 2 (by rw[eN];rfl) .nil)) rfl (by rw[eA];exact fun _ h=>h))
              | (have eN : numN s a = fV (cW s a) := (by (unfold numN; rw [if_neg aI, if_neg aI]))
                 have eA:numA s a=a+(cW s a).length:=(by (unfold numA;rw[if_neg aI]));refine uAg ?_;refine bZ () trivial (.cons 0 rfl (.cons 2 (by rw[eN];rfl) .nil)) rfl (by rw[eA];exact fun _ h=>h))
          ·
            refine aB ?_;refine uCe ?_;refine aG (aE ?_);refine bK 26 rfl (fun h26=>?_) (fun h26=>?_)
            ·
              refine uFp ?_;refine bG ?_;refine aE (aH ?_);refine aH (aB ?_);refine uEu ?_;refine aG (aE ?_);refine uHc ?_;rintro _ K _ ⟨rfl,rfl⟩ -;refine aG (aE ?_);refine cR ?_;refine bG ?_
              first
                | (have eN : numN s a = fV (cW s a) * 1024 * 1024 := (by (unfold numN; rw [if_pos aI]))
                   have eA:numA s a=a+(cW s a).length+1:=(by (unfold numA;rw[if_pos aI]));refine uAg ?_;refine bZ () trivial (.cons 0 rfl (.cons 2 (by rw[eN];rfl) .nil)) rfl (by rw[eA];exact fun _ h=>h))
                | (have eN : numN s a = fV (cW s a) * 1024 := (by (unfold numN; rw [if_neg aI, if_pos aI]))
                   have eA:numA s a=a+(cW s a).length+1:=(by (unfold numA;rw[if_pos aI]));refine uAg ?_;refine bZ () trivial (.cons 0 rfl (.cons 2 (by rw[eN];rfl) .nil)) rfl (by rw[eA];exact fun _ h=>h))
                | (have eN : numN s a = fV (cW s a) := (by (unfold numN; rw [if_neg aI, if_neg aI]))
                   have eA:numA s a=a+(cW s a).length:=(by (unfold numA;rw[if_neg aI]));refine uAg ?_;refine bZ () trivial (.cons 0 rfl (.cons 2 (by rw[eN];rfl) .nil)) rfl (by rw[eA];exact fun _ h=>h))
            ·
              refine uHp ?_;refine cR ?_;refine gG rfl ?_;refine aS ?_;refine gG rfl ?_;refine aS ?_;refine bG ?_
              first
                | (have eN : numN s a = fV (cW s a) * 1024 * 1024 := (by (unfold numN; rw [if_pos aI]))
                   have eA:numA s a=a+(cW s a).length+1:=(by (unfold numA;rw[if_pos aI]));refine uAg ?_;refine bZ () trivial (.cons 0 rfl (.cons 2 (by rw[eN];rfl) .nil)) rfl (by rw[eA];exact fun _ h=>h))
                | (have eN : numN s a = fV (cW s a) * 1024 := (by (unfold numN; rw [if_neg aI, if_pos aI]))
                   have eA:numA s a=a+(cW s a).length+1:=(by (unfold numA;rw[if_pos aI]));refine uAg ?_;refine bZ () trivial (.cons 0 rfl (.cons 2 (by rw[eN];rfl) .nil)) rfl (by rw[eA];exact fun _ h=>h))
                | (have eN : numN s a = fV (cW s a) := (by (unfold numN; rw [if_neg aI, if_neg aI]))
                   have eA:numA s a=a+(cW s a).length:=(by (unfold numA;rw[if_neg aI]));refine uAg ?_;refine bZ () trivial (.cons 0 rfl (.cons 2 (by rw[eN];rfl) .nil)) rfl (by rw[eA];exact fun _ h=>h))
    ·
      intro _ _;have hnA:numA s a≤s.length:=aK0 s a ha;refine aH (aH ?_);refine uAf ?_;refine bC rfl rfl (j4 b T s (numA s a) 0 wk ws wn (i64 wat) rest hs aI aI _) (.cons .here .nil) rfl ?_;rintro _ K _ ⟨rfl,rfl,rfl⟩ -;refine cA rfl rfl (oN ((s[numA s a]?).getD 0) _) rfl ?_;refine aG (aE ?_);refine eJ 42 rfl (fun h42=>?_) (fun h42=>?_)
      ·
        refine uBv ?_;refine uBe ?_;refine aY rfl rfl (eM 2 wat _) .nil rfl (by rintro _ _ ⟨_,h,_⟩;cases h) ?_ ?_
        ·
          rintro _ _ _ ⟨fb,h,rfl⟩ le1;cases h
          refine uAr ?_;unfold tY;rw[if_pos h42];exact⟨fb,rfl,rfl⟩
        ·
          rintro _ _ _ ⟨_,h,_⟩;cases h
      ·
        refine aW ?_;refine aE (aH ?_);refine aH (aB ?_);refine uAa ?_;refine uEr ?_;refine aG (aE ?_);refine bK 50 rfl (fun h50=>?_) (fun h50=>?_)
        ·
          refine uBv ?_;refine uBe ?_;refine aY rfl rfl (eM 3 wat _) .nil rfl (by rintro _ _ ⟨_,h,_⟩;cases h) ?_ ?_
          ·
            rintro _ _ _ ⟨fb,h,rfl⟩ le1;cases h
            refine uAr ?_;unfold tY;rw[if_neg (by simp[h42]),if_pos h50];exact⟨fb,rfl,rfl⟩
          ·
            rintro _ _ _ ⟨_,h,_⟩;cases h
        ·
          refine aW ?_;refine aE (aB ?_);refine uAx ?_;refine uBz ?_;refine uCl ?_;rintro _ K _ ⟨rfl,rfl⟩ -;refine uEw ?_;refine aA (aD (o':=2) cM rfl rfl) rfl ?_;refine aA (aD (o':=4) aOE rfl rfl) rfl ?_;refine bP (bH ts3 rfl rfl cD aX (.succ (.succ (.succ (.succ .zero)))) rfl) ?_;rintro _ K _ ⟨rfl,rfl⟩ -;refine aG ?_;refine dD rfl (Hl.le_refl _) ?_;unfold tY;rw[if_neg (by simp[h42]),if_neg aI];exact⟨_,rfl,rfl,rfl,rfl⟩
end Go.Proofs
end
section
namespace Go.Proofs
open Go Go.SL
theorem uE:unsB Tryz.prog 132 2=true:=by kernel_rfl
theorem aLZ:Tryz.prog.cellsOf 5=1:=by kernel_rfl
abbrev aJ8(b:Nat)(q:Bool)(v:Value):Asn:=pt b (aU [if q then ptr b else .pointer none,v] 132)
abbrev bldr(b:Nat)(xs:List UInt8):Asn:=exA fun v:Value=>[exA fun q:Bool=>[aJ8 b q v],sl true (elB 5) v xs]
theorem aO8(b:Nat):∀h,pt b (aU [.pointer none,.slice none 0 0] 132) h→Sat [bldr b []] h:=by
 intro h hh;refine sL.2 ⟨.slice none 0 0,sL.2 ⟨false,h,.emp,hh,⟨.emp,.emp,.inl ⟨rfl,rfl,rfl⟩,rfl,Hl.dj_emp _,(Hl.join_emp _).symm⟩,Hl.dj_emp _,(Hl.join_emp _).symm⟩⟩
theorem aBS(b:Nat)(v:Value)(xs:List UInt8):∀h,Sat [aJ8 b true v,sl true (elB 5) v xs] h→Sat [bldr b xs] h:=by
 intro h hh;exact sL.2 ⟨v,sL.2 ⟨true,hh⟩⟩
theorem vT(b:Nat):∀h,pt b (aU [.pointer none,.slice none 0 0] 132) h→bldr b [] h:=by
 intro h hh;obtain⟨a,l,ha,hl,hd,he⟩:=aO8 b h hh;rw[he,show l=.emp from hl,Hl.join_emp];exact ha
theorem fA{A B:Asn}{M:List Asn}(k:∀h,A h→B h):∀h,Sat (A::M) h→Sat (B::M) h:=fun h ⟨a,l,ha,hl,hd,he⟩=>⟨a,l,k a ha,hl,hd,he⟩
theorem qX(b:Nat)(q:Bool)(v:Value)(K:Hl):Sp Tryz.prog 196 [ptr b] K [aJ8 b q v] (Ret fun u K' L'=>u=.tuple #[]∧K'=K∧L'=[aJ8 b true v]):=by
 cases q with
 |true=>
  refine aZ Tryz.func196 rfl Tryz.ntmps196 rfl rfl fun F w=>?_
  refine aH (aB ?_);refine uGv ?_;refine aA (kN Tryz.underlying129 rfl rfl) rfl ?_;refine aG (aE ?_);refine uHq ?_;refine aH (aB ?_);refine uGv ?_;refine uAa ?_;refine aA (aF0 Tryz.underlying129 uE rfl rfl) rfl ?_;refine aG (aE ?_);refine uBf ?_;refine dD rfl (Hl.le_refl _) ?_;exact⟨_,rfl,rfl,rfl,rfl⟩
 |false=>
  refine aZ Tryz.func196 rfl Tryz.ntmps196 rfl rfl fun F w=>?_
  refine aH (aB ?_);refine uGv ?_;refine aA (kN Tryz.underlying129 rfl rfl) rfl ?_;refine aG (aE ?_);refine uGe ?_;refine uCf ?_;refine aA (aF3 Tryz.underlying129 Tryz.underlying185 rfl (.own .here) uE) rfl ?_;refine aA (lG rfl rfl Tryz.func272 bR bR bR (ex:=Extern.AbiNoEscape.same) bR (fun _ _=>rfl)) rfl ?_;refine aA (aBJ Tryz.underlying185 Tryz.underlying129 rfl (.own .here) uE) rfl ?_;refine uEw ?_;refine aA (aD (o':=0) sO rfl rfl) rfl ?_;refine bP (bH aLF rfl rfl cD aX .zero rfl) ?_;rintro _ K _ ⟨rfl,rfl⟩ -;refine aG ?_;refine dD rfl (Hl.le_refl _) ?_;exact⟨_,rfl,rfl,rfl,rfl⟩
theorem iU(b:Nat)(c:UInt8)(xs:List UInt8)(hn:xs.length≤140737488351232)(K:Hl):Sp Tryz.prog 268 [ptr b,.int .u8 c.toNat] K [bldr b xs] (Ret fun u K' L'=>u=.nilIface∧K'=K∧L'=[bldr b (xs++[c])]):=by
 refine aZ Tryz.func268 rfl Tryz.ntmps268 rfl rfl fun F w=>?_
 refine t_ex fun v=>t_ex fun q=>?_
 refine aH (aB ?_);refine uAb ?_;refine aG (aE ?_);refine aH (aB ?_);refine uAa ?_;refine bC rfl rfl (qX b q v _) (.cons .here .nil) rfl ?_;rintro _ K _ ⟨rfl,rfl,rfl⟩ -;refine aG (aE ?_);refine aH (aB ?_);refine uAx ?_;refine uIi ?_;refine aA (aJ aC7 rfl aL rfl) rfl ?_;refine uAa ?_;refine ol_s (bN (z0:=[.int .u8 0]) lD tz5 rfl rfl rfl rfl (.cons rfl rfl rfl (.cons .nil) .nil)) rfl ?_;rintro _ K _ ⟨b13,rfl,rfl,rfl⟩ -;refine ol_s (dM (k:=(elB 5)) (ys:=[c]) xQ rfl rfl aX (fun w j=>dB Tryz.underlying130 (SeesSl.at (.blk (.own .here) rfl rfl) j)) (by first|(simp;omega)|omega) (by first|(simp;omega)|omega)) rfl ?_;rintro v14 K _ ⟨rfl,rfl,ho14⟩ -;refine uIi ?_;refine bP (bH aC7 rfl rfl cD aX (.succ .zero) rfl) ?_;rintro _ K _ ⟨rfl,rfl⟩ -;refine aG (aE ?_);refine aH (aB ?_);refine uAb ?_;refine aG (aE ?_);refine bI ?_;refine uBh ?_;refine dN (aBS b v14 (xs++[c])) ?_;refine bF rfl rfl (Hl.le_refl _) ?_;exact⟨_,rfl,rfl,rfl,rfl⟩
theorem mI(b:Nat)(s:List UInt8)(xs:List UInt8)(hn:xs.length+s.length≤140737488351232)(K:Hl):Sp Tryz.prog 109 [ptr b,str s] K [bldr b xs] (Ret fun u K' L'=>u=.tuple #[i64 s.length,.nilIface]∧K'=K∧L'=[bldr b (xs++s)]):=by
 refine aZ Tryz.func109 rfl Tryz.ntmps109 rfl rfl fun F w=>?_
 refine t_ex fun v=>t_ex fun q=>?_
 refine aH (aB ?_);refine uAw ?_;refine aG (aE ?_);refine aH (aB ?_);refine uAa ?_;refine bC rfl rfl (qX b q v _) (.cons .here .nil) rfl ?_;rintro _ K _ ⟨rfl,rfl,rfl⟩ -;refine aG (aE ?_);refine aH (aB ?_);refine uAx ?_;refine uIi ?_;refine aA (aJ aC7 rfl aL rfl) rfl ?_;refine uAa ?_;refine ol_s (dM (k:=(elB 5)) (ys:=s) xQ rfl rfl aX (fun _ _=>aJL Tryz.underlying9) aI aI) rfl ?_;rintro v14 K _ ⟨rfl,rfl,ho14⟩ -;refine uIi ?_;refine bP (bH aC7 rfl rfl cD aX (.succ .zero) rfl) ?_;rintro _ K _ ⟨rfl,rfl⟩ -;refine aG (aE ?_);refine aH (aB ?_);refine uAa ?_;refine uBs ?_;refine uAw ?_;refine aG (aE ?_);refine bI ?_;refine uIs ?_;refine dN (aBS b v14 (xs++s)) ?_;refine e7 rfl rfl rfl (Hl.le_refl _) ?_;exact⟨_,rfl,rfl,rfl,rfl⟩
theorem nE(b:Nat)(xs:List UInt8)(hn:xs.length≤140737488351232)(K:Hl):Sp Tryz.prog 63 [ptr b] K [bldr b xs] (Ret fun u K' L'=>u=str xs∧K'=K∧L'=[]):=by
 refine aZ Tryz.func63 rfl Tryz.ntmps63 rfl rfl fun F w=>?_
 refine t_ex fun v=>t_ex fun q=>?_
 refine aH (aB ?_);refine uAb ?_;refine aG (aE ?_);refine aH ?_;refine t_draw (anc:=[0,1,3,7,15,0,32,96,224,480,1023,2047]) (ord:=[0,1,2,3,4,5,6,7,8,9,10,11]) [10] [10] mixed (by decide+kernel) (cS _) ?_;refine uHu ?_;refine dl_ev rfl rfl (.none rfl) rfl rfl (aD2 (e:=5) rfl (.there .here)) rfl ?_;refine uHu ?_;refine dl_ev rfl rfl (.none rfl) rfl rfl (cB (k:=(elB 5)) rfl Tryz.underlying130 rfl aL) rfl ?_;refine dl_g rfl rfl (.none rfl) rfl (aAM (e:=5) rfl Tryz.underlying227 aLZ aI rfl rfl (.there .here)) rfl ?_;rintro _ K _ ⟨rfl,rfl,rfl⟩ -;refine uAv ?_;refine uDf ?_;refine uCx ?_;refine bF rfl rfl (Hl.le_refl _) ?_;exact⟨_,rfl,rfl,rfl,rfl⟩
end Go.Proofs
end
section
namespace Go.Proofs
open Go Go.SL Go.Syn
theorem aG1(b:Nat)(T:TypeId)(s:List UInt8)(a:Nat)(wk ws wn:Value)(wat:Int)(rest:List Value)(hs:s.length≤600)(ha:a < s.length)(K:Hl):
  Sp Tryz.prog 182 [ptr b] K [lxb b T s a wk ws wn (i64 wat) rest]
   (fT (Syn.quoted s a wat) fun r v K' L'=>v=.tuple #[]∧K'=K∧L'=[lxb b T s r.1 (.int .u8 3) (str r.2) wn (i64 wat) rest]):=by
 refine aZ Tryz.func182 rfl Tryz.ntmps182 rfl rfl fun F w=>?_
 refine aH (aB ?_);refine ol_s (cN aSR) rfl ?_;rintro _ K _ ⟨b2,rfl,rfl,rfl⟩ -;refine aG (aE ?_);refine aH (aH ?_);refine uHc ?_;rintro _ K _ ⟨rfl,rfl⟩ -;refine aG (aE ?_);refine bE ?_;refine qE (fun(i:Nat) (acc:List UInt8)=>a+1≤i∧i≤s.length∧acc.length≤i∧∃f,s.length+2≤i+(f+1)∧Syn.quoted s a wat=fH s wat (f+1) i acc) (fun i acc=>[(0,ptr b),(2,ptr b2)]) (fun _ _=>K) (fun i acc=>[bldr b2 acc,lxb b T s i wk ws wn (i64 wat) rest]) (fun i acc=>s.length - i) (a+1) [] ⟨by omega,by omega,by simp,s.length - a,by omega,by unfold Syn.quoted;congr 1;omega⟩ (.cons 0 rfl (.cons 2 rfl .nil)) rfl (fA (vT b2)) ?_;intro i acc ⟨hi1,hi2,hi3,f,hi4,hi5⟩;refine aH (bE ?_);refine aH (aB ?_);refine uAa ?_;refine bC rfl rfl (j4 b T s i 0 wk ws wn (i64 wat) rest hs aI aI _) (.cons (.there .here) .nil) rfl ?_;rintro _ K _ ⟨rfl,rfl,rfl⟩ -;rw[Nat.add_zero];have hz:i < s.length∨((s[i]?).getD 0).toNat=0:=(by by_cases h:i < s.length;exact .inl h;right;rw[List.getElem?_eq_none aI];rfl);refine uAb ?_;refine aG (aE ?_);refine aH (aH ?_);refine t_draw (anc:=[0,1,3,7,0,16,48,112,240,511,1023,2047,4095,8191]) (ord:=[0,1,2,3,4,5,6,7,8,9,10,11,12,13]) [] [] mixed (by decide+kernel) (cS _) ?_;refine uAl ?_;refine uHv ?_;refine uAj ?_;refine dl_splitp 30 rfl (fun g30=>?_) (fun g30=>?_)
 ·
  refine uHi ?_;refine dl_ev rfl rfl (.on rfl rfl rfl) rfl rfl (bW rfl rfl) rfl ?_;refine uDq ?_;refine uDf ?_;refine bK 33 rfl (fun h33=>?_) (fun h33=>?_)
  ·
   refine uFp ?_;refine aS ?_;refine bG ?_;refine aE (aH ?_);refine uHc ?_;rintro _ K _ ⟨rfl,rfl⟩ -;refine aG (aE ?_);refine uCf ?_;refine bC rfl rfl (nE b2 acc aI _) (.cons (.there .here) .nil) rfl ?_;rintro _ K _ ⟨rfl,rfl,rfl⟩ -;refine uEw ?_;refine uCl ?_;rintro _ K _ ⟨rfl,rfl⟩ -;refine uCn ?_;rintro _ K _ ⟨rfl,rfl⟩ -;refine aG ?_;refine dD rfl (Hl.le_refl _) ?_;rw[hi5,aGZ aI aI];exact⟨_,rfl,rfl,rfl,rfl⟩
  ·
   refine aW ?_;refine aE (aH ?_);refine aH (aB ?_);refine uAa ?_;refine uAq ?_;refine aG (aE ?_);refine bK 35 rfl (fun h35=>?_) (fun h35=>?_)
   ·
    refine aH (aB ?_);refine uAe ?_;rintro _ K _ ⟨rfl,rfl⟩ -;refine aG (aE ?_);refine uAf ?_;refine bC rfl rfl (j4 b T s (i+1) 0 wk ws wn (i64 wat) rest hs aI aI _) (.cons .here .nil) rfl ?_;rintro _ K _ ⟨rfl,rfl,rfl⟩ -;rw[Nat.add_zero];refine uAb ?_;refine aG (aE ?_);refine aH (aH ?_);refine t_draw (anc:=[0,1,3,7,0,16,48,112,240,511]) (ord:=[0,1,2,3,4,5,6,7,8,9]) [] [] mixed (by decide+kernel) (cS _) ?_;refine uFh ?_;refine bK 54 rfl (fun h54=>?_) (fun h54=>?_)
    ·
     refine uBv ?_;refine uBe ?_;refine aY rfl rfl (eM 2 wat _) .nil rfl (by rintro _ _ ⟨_,h,_⟩;cases h) ?_ ?_
     ·
      rintro _ _ _ ⟨fb,h,rfl⟩ le1;cases h
      refine uAg ?_;refine uBc ?_;refine uHm ?_
      first
       |rw[hi5,mO aI aI aI]
       |rw[hi5,nI aI aI aI]
      exact⟨fb,rfl,rfl⟩
     ·
      rintro _ _ _ ⟨_,h,_⟩;cases h
    ·
     refine aW ?_;refine aE (aB ?_);refine uAa ?_;refine bC rfl rfl (iU b2 _ acc aI _) (.cons (.there .here) .nil) rfl ?_;rintro _ K _ ⟨rfl,rfl,rfl⟩ -;refine aG (aN ?_);refine aE (aB ?_);refine uAe ?_;rintro _ K _ ⟨rfl,rfl⟩ -;refine aG ?_;obtain⟨f0,rfl⟩:∃f0,f=f0+1:=⟨f - 1,by omega⟩
     first
      |refine dI (i+1) (acc++[(s[i]?).getD 0]) ⟨by omega,by omega,by simp;omega,f0,by omega,by rw[hi5,nH aI aI aI]⟩ aI (.cons 0 rfl (.cons 2 rfl .nil)) rfl (fun _ h=>h)
      |refine dI (i+2) (acc++[(s[i+1]?).getD 0]) ⟨by omega,by omega,by simp;omega,f0,by omega,by rw[hi5,oT aI aI aI]⟩ aI (.cons 0 rfl (.cons 2 rfl .nil)) rfl (fun _ h=>h)
   ·
    refine aW ?_;refine aE (aH ?_);refine aH ?_;refine t_draw (anc:=[0,1,3,7,0,16,48,112,240,511]) (ord:=[0,1,2,3,4,5,6,7,8,9]) [] [] mixed (by decide+kernel) (cS _) ?_;refine uFh ?_;refine bK 54 rfl (fun h54=>?_) (fun h54=>?_)
    ·
     refine uBv ?_;refine uBe ?_;refine aY rfl rfl (eM 2 wat _) .nil rfl (by rintro _ _ ⟨_,h,_⟩;cases h) ?_ ?_
     ·
      rintro _ _ _ ⟨fb,h,rfl⟩ le1;cases h
      refine uAg ?_;refine uBc ?_;refine uHm ?_
      first
       |rw[hi5,mO aI aI aI]
       |rw[hi5,nI aI aI aI]
      exact⟨fb,rfl,rfl⟩
     ·
      rintro _ _ _ ⟨_,h,_⟩;cases h
    ·
     refine aW ?_;refine aE (aB ?_);refine uAa ?_;refine bC rfl rfl (iU b2 _ acc aI _) (.cons (.there .here) .nil) rfl ?_;rintro _ K _ ⟨rfl,rfl,rfl⟩ -;refine aG (aN ?_);refine aE (aB ?_);refine uAe ?_;rintro _ K _ ⟨rfl,rfl⟩ -;refine aG ?_;obtain⟨f0,rfl⟩:∃f0,f=f0+1:=⟨f - 1,by omega⟩
     first
      |refine dI (i+1) (acc++[(s[i]?).getD 0]) ⟨by omega,by omega,by simp;omega,f0,by omega,by rw[hi5,nH aI aI aI]⟩ aI (.cons 0 rfl (.cons 2 rfl .nil)) rfl (fun _ h=>h)
      |refine dI (i+2) (acc++[(s[i+1]?).getD 0]) ⟨by omega,by omega,by simp;omega,f0,by omega,by rw[hi5,oT aI aI aI]⟩ aI (.cons 0 rfl (.cons 2 rfl .nil)) rfl (fun _ h=>h)
 ·
  refine dl_off rfl rfl (.off rfl rfl rfl) rfl ?_;refine dl_off rfl rfl (.off rfl rfl rfl) rfl ?_;refine uCb ?_;refine uDf ?_;refine uBf ?_;refine aE (aH ?_);refine aH (aB ?_);refine uAa ?_;refine uAq ?_;refine aG (aE ?_);refine bK 35 rfl (fun h35=>?_) (fun h35=>?_)
  ·
   refine aH (aB ?_);refine uAe ?_;rintro _ K _ ⟨rfl,rfl⟩ -;refine aG (aE ?_);refine uAf ?_;refine bC rfl rfl (j4 b T s (i+1) 0 wk ws wn (i64 wat) rest hs aI aI _) (.cons .here .nil) rfl ?_;rintro _ K _ ⟨rfl,rfl,rfl⟩ -;rw[Nat.add_zero];refine uAb ?_;refine aG (aE ?_);refine aH (aH ?_);refine t_draw (anc:=[0,1,3,7,0,16,48,112,240,511]) (ord:=[0,1,2,3,4,5,6,7,8,9]) [] [] mixed (by decide+kernel) (cS _) ?_;refine uFh ?_;refine bK 54 rfl (fun h54=>?_) (fun h54=>?_)
   ·
    refine uBv ?_;refine uBe ?_;refine aY rfl rfl (eM 2 wat _) .nil rfl (by rintro _ _ ⟨_,h,_⟩;cases h) ?_ ?_
    ·
     rintro _ _ _ ⟨fb,h,rfl⟩ le1;cases h
     refine uAg ?_;refine uBc ?_;refine uHm ?_
     first
      |rw[hi5,mO aI aI aI]
      |rw[hi5,nI aI aI aI]
     exact⟨fb,rfl,rfl⟩
    ·
     rintro _ _ _ ⟨_,h,_⟩;cases h
   ·
    refine aW ?_;refine aE (aB ?_);refine uAa ?_;refine bC rfl rfl (iU b2 _ acc aI _) (.cons (.there .here) .nil) rfl ?_;rintro _ K _ ⟨rfl,rfl,rfl⟩ -;refine aG (aN ?_);refine aE (aB ?_);refine uAe ?_;rintro _ K _ ⟨rfl,rfl⟩ -;refine aG ?_;obtain⟨f0,rfl⟩:∃f0,f=f0+1:=⟨f - 1,by omega⟩
    first
     |refine dI (i+1) (acc++[(s[i]?).getD 0]) ⟨by omega,by omega,by simp;omega,f0,by omega,by rw[hi5,nH aI aI aI]⟩ aI (.cons 0 rfl (.cons 2 rfl .nil)) rfl (fun _ h=>h)
     |refine dI (i+2) (acc++[(s[i+1]?).getD 0]) ⟨by omega,by omega,by simp;omega,f0,by omega,by rw[hi5,oT aI aI aI]⟩ aI (.cons 0 rfl (.cons 2 rfl .nil)) rfl (fun _ h=>h)
  ·
   refine aW ?_;refine aE (aH ?_);refine aH ?_;refine t_draw (anc:=[0,1,3,7,0,16,48,112,240,511]) (ord:=[0,1,2,3,4,5,6,7,8,9]) [] [] mixed (by decide+kernel) (cS _) ?_;refine uFh ?_;refine bK 54 rfl (fun h54=>?_) (fun h54=>?_)
   ·
    refine uBv ?_;refine uBe ?_;refine aY rfl rfl (eM 2 wat _) .nil rfl (by rintro _ _ ⟨_,h,_⟩;cases h) ?_ ?_
    ·
     rintro _ _ _ ⟨fb,h,rfl⟩ le1;cases h
     refine uAg ?_;refine uBc ?_;refine uHm ?_
     first
      |rw[hi5,mO aI aI aI]
      |rw[hi5,nI aI aI aI]
     exact⟨fb,rfl,rfl⟩
    ·
     rintro _ _ _ ⟨_,h,_⟩;cases h
   ·
    refine aW ?_;refine aE (aB ?_);refine uAa ?_;refine bC rfl rfl (iU b2 _ acc aI _) (.cons (.there .here) .nil) rfl ?_;rintro _ K _ ⟨rfl,rfl,rfl⟩ -;refine aG (aN ?_);refine aE (aB ?_);refine uAe ?_;rintro _ K _ ⟨rfl,rfl⟩ -;refine aG ?_;obtain⟨f0,rfl⟩:∃f0,f=f0+1:=⟨f - 1,by omega⟩
    first
     |refine dI (i+1) (acc++[(s[i]?).getD 0]) ⟨by omega,by omega,by simp;omega,f0,by omega,by rw[hi5,nH aI aI aI]⟩ aI (.cons 0 rfl (.cons 2 rfl .nil)) rfl (fun _ h=>h)
     |refine dI (i+2) (acc++[(s[i+1]?).getD 0]) ⟨by omega,by omega,by simp;omega,f0,by omega,by rw[hi5,oT aI aI aI]⟩ aI (.cons 0 rfl (.cons 2 rfl .nil)) rfl (fun _ h=>h)
end Go.Proofs
end
section
namespace Go.Proofs
open Go Go.SL Go.Syn
theorem iJ{α:Type}(p:α→Bool)(s:List α)(i:Nat)(h:i≤s.length):i+((s.drop i).takeWhile p).length≤s.length:=by
 have:=(List.takeWhile_sublist p (l:=s.drop i)).length_le;simp only[List.length_drop]at this;omega
theorem aRY(s:List UInt8):∀(f i j:Nat),i≤s.length→jC s f i=.ok j→i≤j∧j≤s.length:=by
 intro f;induction f with
 |zero=>intro i j hi h;simp only[jC]at h;cases h;exact⟨Nat.le_refl _,hi⟩
 |succ f ih=>
  intro i j hi h;simp only[jC]at h;split at h
  ·cases h;exact⟨Nat.le_refl _,hi⟩
  ·rename_i c hc;have hlt:i < s.length:=by
    rcases Nat.lt_or_ge i s.length with h'|h'
    ·exact h'
    ·simp[List.getElem?_eq_none h']at hc
   split at h
   ·have:=ih _ _ aI h;omega
   ·split at h
    ·have:=iJ (fun c:UInt8=>decide (¬c.toNat=10)) s i hi;have:=ih _ _ aI h;omega
    ·split at h
     ·split at h
      ·cases h;exact⟨Nat.le_refl _,hi⟩
      ·split at h
       ·cases h
       ·rename_i hx;have hix:=q9 (s.drop (min (i+2) s.length)) [42,47];simp only[List.length_drop,List.length_cons,List.length_nil]at hix;have:=ih _ _ aI h;omega
     ·cases h;exact⟨Nat.le_refl _,hi⟩
theorem aET{s:List UInt8}{a a1:Nat}(ha:a≤s.length)(h:skip s a=.ok a1):a≤a1∧a1≤s.length:=aRY s _ _ _ ha h
abbrev lxw(b:Nat)(T:TypeId)(s:List UInt8)(a:Nat)(w:Word)(rest:List Value):Asn:=lxb b T s a (.int .u8 w.kind) (str w.s) (i64 w.n) (i64 w.at_) rest
theorem dL(b:Nat)(T:TypeId)(s:List UInt8)(a:Nat)(wk ws wn wa:Value)(rest:List Value)(hs:s.length≤600)(ha:a≤s.length)(K:Hl)(hg:Glob K):
    Sp Tryz.prog 101 [ptr b] K [lxb b T s a wk ws wn wa rest]
      (fT (Syn.next s a) fun r v K' L'=>v=.tuple #[]∧K'=K∧L'=[lxw b T s r.1 r.2 rest]):=by
  refine aZ Tryz.func101 rfl Tryz.ntmps101 rfl rfl fun F w=>?_
  refine aH (aB ?_);refine uAa ?_;refine aY rfl rfl (aN4 b T s a wk ws wn wa rest hs ha _ hg) (.cons .here .nil) rfl (fun _ _=>a8 _ _) ?_ ?_
  ·
    rintro _ _ _ hT le1;obtain⟨e,p,hr,fb,h,rfl⟩:=bA hT;cases h
    refine uAr ?_;have hn:Syn.next s a=.error (e,p):=(by unfold Syn.next;rw[hr]);rw[hn];exact⟨fb,rfl,rfl⟩
  rintro _ K _ hT -;obtain⟨a1,hr0,rfl,rfl,rfl⟩:=bB hT;have ha1:=(aET ha hr0).2;refine aG (aE ?_);refine aH (aB ?_);refine uAx ?_;refine uEw ?_;refine uFm ?_;refine aA (cP aYX aXI (.cons rfl rfl rfl (.skip (.skip (.skip (.cons .nil)))) .nil)) rfl ?_;refine uEw ?_;refine aA (aD (o':=2) cM rfl rfl) rfl ?_;refine bP (cJ nL rfl rfl rfl aX (by first|(simp[Value.oneCell'];done)|exact fun c hc=>El.one _ _ c hc) (.skip (.skip (.cons (.cons (.cons (.cons .nil)))))) (by intro j hj;simp)) ?_;rintro _ K _ ⟨rfl,rfl⟩ -;refine aG (aE ?_);refine aH (aH ?_);refine t_draw (anc:=[0,1,3,7,0,16,48,112,240,511]) (ord:=[0,1,2,3,4,5,6,7,8,9]) [] [] mixed (by decide+kernel) (cS _) ?_;refine uAl ?_;refine dl_ev rfl rfl (.none rfl) rfl rfl (bW rfl rfl) rfl ?_;refine uDf ?_;refine bK 22 rfl (fun h22=>?_) (fun h22=>?_)
  ·
    have hn:Syn.next s a=.ok (a1,⟨0,[],0,a1⟩):=(by simp only[Syn.next,hr0];rw[List.getElem?_eq_none aI]);refine uCk ?_;refine tK rfl (Hl.le_refl _) ?_;rw[hn];exact⟨_,rfl,rfl,rfl,rfl⟩
  ·
    obtain⟨c,hc⟩:∃c,s[a1]?=some c:=⟨s[a1]'(by omega),List.getElem?_eq_getElem aI⟩;have hn:Syn.next s a=pF s a1 c:=(by simp only[Syn.next,hr0,hc]);have hp0:((s[a1+0]?).getD 0)=c:=by rw[Nat.add_zero,hc];rfl
    refine aW ?_;refine aE (aH ?_);refine uAf ?_;refine bC rfl rfl (j4 b T s a1 0 _ _ _ _ rest hs aI aI _) (.cons .here .nil) rfl ?_;rintro _ K _ ⟨rfl,rfl,rfl⟩ -;rw[hp0];refine uAb ?_;refine aG (aE ?_);refine aH (aB ?_);refine uAa ?_;refine aG (aE ?_);refine bE ?_;refine gS (fun(_:Unit)=>True) (fun _=>[(0,ptr b),(2,.int .u8 c.toNat),(25,.int .u8 c.toNat),(50,.bool (cU c))]) (fun _=>K) (fun _=>[lxb b T s a1 (.int .u8 0) (str []) (i64 0) (i64 a1) rest]) ?_ ?_
    ·
      refine aH (aB ?_);refine uCe ?_;refine aG (aE ?_);refine bK 50 rfl (fun h50=>?_) (fun h50=>?_)
      ·
        refine aW ?_
        first
          | (have hb : cU c = decide ((c.toNat : Int) = 93) := (by unfold cU; rw [decide_eq_decide]; omega)
             exact bZ () trivial (.cons 0 rfl (.cons 2 rfl (.cons 25 rfl (.cons 50 (by rw[hb];rfl) .nil)))) rfl (fun _ h=>h))
          | (have hb : cU c = true := (by unfold cU; simp only [decide_eq_true_eq]; omega)
             exact bZ () trivial (.cons 0 rfl (.cons 2 rfl (.cons 25 rfl (.cons 50 (by rw[hb];rfl) .nil)))) rfl (fun _ h=>h))
          | (have hb : cU c = false := (by unfold cU; simp only [decide_eq_false_iff_not]; omega)
             exact bZ () trivial (.cons 0 rfl (.cons 2 rfl (.cons 25 rfl (.cons 50 (by rw[hb];rfl) .nil)))) rfl (fun _ h=>h))
      ·
        refine aH (aB ?_);refine uCe ?_;refine aG (aE ?_);refine bK 50 rfl (fun h50=>?_) (fun h50=>?_)
        ·
          refine aW ?_
          first
            | (have hb : cU c = decide ((c.toNat : Int) = 93) := (by unfold cU; rw [decide_eq_decide]; omega)
               exact bZ () trivial (.cons 0 rfl (.cons 2 rfl (.cons 25 rfl (.cons 50 (by rw[hb];rfl) .nil)))) rfl (fun _ h=>h))
            | (have hb : cU c = true := (by unfold cU; simp only [decide_eq_true_eq]; omega)
               exact bZ () trivial (.cons 0 rfl (.cons 2 rfl (.cons 25 rfl (.cons 50 (by rw[hb];rfl) .nil)))) rfl (fun _ h=>h))
            | (have hb : cU c = false := (by unfold cU; simp only [decide_eq_false_iff_not]; omega)
               exact bZ () trivial (.cons 0 rfl (.cons 2 rfl (.cons 25 rfl (.cons 50 (by rw[hb];rfl) .nil)))) rfl (fun _ h=>h))
        ·
          refine aH (aB ?_);refine uCe ?_;refine aG (aE ?_);refine bK 50 rfl (fun h50=>?_) (fun h50=>?_)
          ·
            refine aW ?_
            first
              | (have hb : cU c = decide ((c.toNat : Int) = 93) := (by unfold cU; rw [decide_eq_decide]; omega)
                 exact bZ () trivial (.cons 0 rfl (.cons 2 rfl (.cons 25 rfl (.cons 50 (by rw[hb];rfl) .nil)))) rfl (fun _ h=>h))
              | (have hb : cU c = true := (by unfold cU; simp only [decide_eq_true_eq]; omega)
                 exact bZ () trivial (.cons 0 rfl (.cons 2 rfl (.cons 25 rfl (.cons 50 (by rw[hb];rfl) .nil)))) rfl (fun _ h=>h))
              | (have hb : cU c = false := (by unfold cU; simp only [decide_eq_false_iff_not]; omega)
                 exact bZ () trivial (.cons 0 rfl (.cons 2 rfl (.cons 25 rfl (.cons 50 (by rw[hb];rfl) .nil)))) rfl (fun _ h=>h))
          ·
            refine aH (aB ?_);refine uCe ?_;refine aG (aE ?_);refine bK 50 rfl (fun h50=>?_) (fun h50=>?_)
            ·
              refine aW ?_
              first
                | (have hb : cU c = decide ((c.toNat : Int) = 93) := (by unfold cU; rw [decide_eq_decide]; omega)
                   exact bZ () trivial (.cons 0 rfl (.cons 2 rfl (.cons 25 rfl (.cons 50 (by rw[hb];rfl) .nil)))) rfl (fun _ h=>h))
                | (have hb : cU c = true := (by unfold cU; simp only [decide_eq_true_eq]; omega)
                   exact bZ () trivial (.cons 0 rfl (.cons 2 rfl (.cons 25 rfl (.cons 50 (by rw[hb];rfl) .nil)))) rfl (fun _ h=>h))
                | (have hb : cU c = false := (by unfold cU; simp only [decide_eq_false_iff_not]; omega)
                   exact bZ () trivial (.cons 0 rfl (.cons 2 rfl (.cons 25 rfl (.cons 50 (by rw[hb];rfl) .nil)))) rfl (fun _ h=>h))
            ·
              refine aH (aB ?_);refine uCe ?_;refine aG (aE ?_);refine bK 50 rfl (fun h50=>?_) (fun h50=>?_)
              ·
                refine aW ?_
                first
                  | (have hb : cU c = decide ((c.toNat : Int) = 93) := (by unfold cU; rw [decide_eq_decide]; omega)
                     exact bZ () trivial (.cons 0 rfl (.cons 2 rfl (.cons 25 rfl (.cons 50 (by rw[hb];rfl) .nil)))) rfl (fun _ h=>h))
                  | (have hb : cU c = true := (by unfold cU; simp only [decide_eq_true_eq]; omega)
                     exact bZ () trivial (.cons 0 rfl (.cons 2 rfl (.cons 25 rfl (.cons 50 (by rw[hb];rfl) .nil)))) rfl (fun _ h=>h))
                  | (have hb : cU c = false := (by unfold cU; simp only [decide_eq_false_iff_not]; omega)
                     exact bZ () trivial (.cons 0 rfl (.cons 2 rfl (.cons 25 rfl (.cons 50 (by rw[hb];rfl) .nil)))) rfl (fun _ h=>h))
              ·
                refine aH (aB ?_);refine uCe ?_;refine aG (aE ?_);refine bK 50 rfl (fun h50=>?_) (fun h50=>?_)
                ·
                  refine aW ?_
                  first
                    | (have hb : cU c = decide ((c.toNat : Int) = 93) := (by unfold cU; rw [decide_eq_decide]; omega)
                       exact bZ () trivial (.cons 0 rfl (.cons 2 rfl (.cons 25 rfl (.cons 50 (by rw[hb];rfl) .nil)))) rfl (fun _ h=>h))
                    | (have hb : cU c = true := (by unfold cU; simp only [decide_eq_true_eq]; omega)
                       exact bZ () trivial (.cons 0 rfl (.cons 2 rfl (.cons 25 rfl (.cons 50 (by rw[hb];rfl) .nil)))) rfl (fun _ h=>h))
                    | (have hb : cU c = false := (by unfold cU; simp only [decide_eq_false_iff_not]; omega)
                       exact bZ () trivial (.cons 0 rfl (.cons 2 rfl (.cons 25 rfl (.cons 50 (by rw[hb];rfl) .nil)))) rfl (fun _ h=>h))
                ·
                  refine aH (aB ?_);refine uCe ?_;refine aG (aE ?_);refine bK 50 rfl (fun h50=>?_) (fun h50=>?_)
                  ·
                    refine aW ?_
                    first
                      | (have hb : cU c = decide ((c.toNat : Int) = 93) := (by unfold cU; rw [decide_eq_decide]; omega)
                         exact bZ () trivial (.cons 0 rfl (.cons 2 rfl (.cons 25 rfl (.cons 50 (by rw[hb];rfl) .nil)))) rfl (fun _ h=>h))
                      | (have hb : cU c = true := (by unfold cU; simp only [decide_eq_true_eq]; omega)
                         exact bZ () trivial (.cons 0 rfl (.cons 2 rfl (.cons 25 rfl (.cons 50 (by rw[hb];rfl) .nil)))) rfl (fun _ h=>h))
                      | (have hb : cU c = false := (by unfold cU; simp only [decide_eq_false_iff_not]; omega)
                         exact bZ () trivial (.cons 0 rfl (.cons 2 rfl (.cons 25 rfl (.cons 50 (by rw[hb];rfl) .nil)))) rfl (fun _ h=>h))
                  ·
                    refine aB ?_;refine uCe ?_;refine aG ?_
                    first
                      | (have hb : cU c = decide ((c.toNat : Int) = 93) := (by unfold cU; rw [decide_eq_decide]; omega)
                         exact bZ () trivial (.cons 0 rfl (.cons 2 rfl (.cons 25 rfl (.cons 50 (by rw[hb];rfl) .nil)))) rfl (fun _ h=>h))
                      | (have hb : cU c = true := (by unfold cU; simp only [decide_eq_true_eq]; omega)
                         exact bZ () trivial (.cons 0 rfl (.cons 2 rfl (.cons 25 rfl (.cons 50 (by rw[hb];rfl) .nil)))) rfl (fun _ h=>h))
                      | (have hb : cU c = false := (by unfold cU; simp only [decide_eq_false_iff_not]; omega)
                         exact bZ () trivial (.cons 0 rfl (.cons 2 rfl (.cons 25 rfl (.cons 50 (by rw[hb];rfl) .nil)))) rfl (fun _ h=>h))
    ·
      intro _ _;refine eJ 50 rfl (fun h50=>?_) (fun h50=>?_)
      ·
        refine aH (aB ?_);refine uEg ?_;have hc128:=aUF h50;refine aA (aDY Tryz.underlying5 Tryz.underlying9 rfl (by first|assumption|omega)) rfl ?_;refine uEw ?_;refine uCl ?_;rintro _ K _ ⟨rfl,rfl⟩ -;refine uCn ?_;rintro _ K _ ⟨rfl,rfl⟩ -;refine aG (aE ?_);refine uHc ?_;rintro _ K _ ⟨rfl,rfl⟩ -;refine aG (aN ?_);refine dD rfl (Hl.le_refl _) ?_;rw[hn];unfold pF;rw[if_pos h50];exact⟨_,rfl,rfl,rfl,rfl⟩
      ·
        refine aH (aB ?_);refine uCe ?_;refine aG (aE ?_);refine bK 76 rfl (fun h76=>?_) (fun h76=>?_)
        ·
          refine uAf ?_;refine aY rfl rfl (aG1 b T s a1 _ _ _ a1 rest hs aI _) (.cons .here .nil) rfl (fun _ _=>a8 _ _) ?_ ?_
          ·
            rintro _ _ _ hT2 le1;obtain⟨e,p,hr,fb,h,rfl⟩:=bA hT2;cases h
            refine uEn ?_;refine bJ bU ?_;rw[hn];unfold pF;rw[if_neg (by simp[h50]),if_pos aI,hr];exact⟨fb,rfl,rfl⟩
          rintro _ K _ hT2 -;obtain⟨r,hr,rfl,rfl,rfl⟩:=bB hT2;refine aG (aN ?_);refine dD rfl (Hl.le_refl _) ?_;rw[hn];unfold pF;rw[if_neg (by simp[h50]),if_pos aI,hr];exact⟨_,rfl,rfl,rfl,rfl⟩
        ·
          refine aH (aB ?_);refine uCe ?_;refine aG (aE ?_);refine bK 80 rfl (fun h80=>?_) (fun h80=>?_)
          ·
            refine aH (aH ?_);refine uAf ?_;refine bC rfl rfl (j4 b T s a1 1 _ _ _ _ rest hs aI aI _) (.cons .here .nil) rfl ?_;rintro _ K _ ⟨rfl,rfl,rfl⟩ -;refine cA rfl rfl (o4 _ _) rfl ?_;refine aA (by first|exact dP rfl|exact dO rfl) rfl ?_;refine aG (aE ?_);refine eJ 85 rfl (fun h85=>?_) (fun h85=>?_)
            ·
              refine uBv ?_;refine uFm ?_;refine aY rfl rfl (eM 2 a1 _) .nil rfl (by rintro _ _ ⟨_,h,_⟩;cases h) ?_ ?_
              ·
                rintro _ _ _ ⟨fb,h,rfl⟩ le1;cases h
                refine uEf ?_;refine aR ?_;refine bJ bU ?_;rw[hn];unfold pF;rw[if_neg (by simp[h50]),if_neg aI,if_pos aI,if_neg (by simpa using h85)];exact⟨fb,rfl,rfl⟩
              ·
                rintro _ _ _ ⟨_,h,_⟩;cases h
            ·
              refine aW ?_;refine aE (aH ?_);refine uHc ?_;rintro _ K _ ⟨rfl,rfl⟩ -;refine aG (aE ?_);refine aH (aB ?_);refine uBz ?_;refine uCl ?_;rintro _ K _ ⟨rfl,rfl⟩ -;refine aG (aE ?_);refine uCf ?_;refine bC rfl rfl (qL b T s (a1+1) _ _ _ _ rest 187 e9 hs aI _ (fun c=>oN c _)) (.cons .here .nil) rfl ?_;rintro _ K _ ⟨rfl,rfl,rfl⟩ -;have hwl:=iJ e9 s (a1+1) aI;refine cA rfl rfl (fO _ _ aI) rfl ?_;refine uCn ?_;rintro _ K _ ⟨rfl,rfl⟩ -;refine aG (aN ?_);refine dD rfl (Hl.le_refl _) ?_;rw[hn];unfold pF;rw[if_neg (by simp[h50]),if_neg aI,if_pos aI,if_pos (by simpa using h85)];exact⟨_,rfl,rfl,rfl,rfl⟩
          ·
            refine bE (aH ?_);refine uAf ?_;refine cA rfl rfl (o4 c _) rfl ?_;refine uAb ?_;refine aG (aE ?_);refine eJ 31 rfl (fun h31=>?_) (fun h31=>?_)
            ·
              refine uAf ?_;refine uAx ?_;refine bC rfl rfl (qL b T s a1 _ _ _ _ rest 187 e9 hs aI _ (fun c=>oN c _)) (.cons .here .nil) rfl ?_;rintro _ K _ ⟨rfl,rfl,rfl⟩ -;have hwl:=iJ e9 s a1 aI;refine cA rfl rfl (fO _ _ aI) rfl ?_;refine uEw ?_;refine uCl ?_;rintro _ K _ ⟨rfl,rfl⟩ -;refine uCn ?_;rintro _ K _ ⟨rfl,rfl⟩ -;refine aG (aN ?_);refine aN ?_;refine dD rfl (Hl.le_refl _) ?_;rw[hn];unfold pF;rw[if_neg (by simp[h50]),if_neg aI,if_neg aI,if_pos h31];exact⟨_,rfl,rfl,rfl,rfl⟩
            ·
              refine aH (aB ?_);refine uAa ?_;refine cA rfl rfl (nG c _) rfl ?_;refine uAb ?_;refine aG (aE ?_);refine eJ 45 rfl (fun h45=>?_) (fun h45=>?_)
              ·
                refine uAf ?_;refine aY rfl rfl (aGP b T s a1 _ _ _ a1 rest hs aI _) (.cons .here .nil) rfl (fun _ _=>a8 _ _) ?_ ?_
                ·
                  rintro _ _ _ hT2 le1;obtain⟨e,p,hr,fb,h,rfl⟩:=bA hT2;cases h
                  refine uEn ?_;refine aR ?_;refine bJ bU ?_;rw[hn];unfold pF;rw[if_neg (by simp[h50]),if_neg aI,if_neg aI,if_neg (by simp[h31]),if_pos h45,hr];exact⟨fb,rfl,rfl⟩
                rintro _ K _ hT2 -;obtain⟨r,hr,rfl,rfl,rfl⟩:=bB hT2;refine aG (aN ?_);refine aN ?_;refine dD rfl (Hl.le_refl _) ?_;rw[hn];unfold pF;rw[if_neg (by simp[h50]),if_neg aI,if_neg aI,if_neg (by simp[h31]),if_pos h45,hr];exact⟨_,rfl,rfl,rfl,rfl⟩
              ·
                refine uBv ?_;refine uFm ?_;refine aY rfl rfl (eM 2 a1 _) .nil rfl (by rintro _ _ ⟨_,h,_⟩;cases h) ?_ ?_
                ·
                  rintro _ _ _ ⟨fb,h,rfl⟩ le1;cases h
                  refine uEn ?_;refine aR ?_;refine bJ bU ?_;rw[hn];unfold pF;rw[if_neg (by simp[h50]),if_neg aI,if_neg aI,if_neg (by simp[h31]),if_neg (by simp[h45])];exact⟨fb,rfl,rfl⟩
                ·
                  rintro _ _ _ ⟨_,h,_⟩;cases h
end Go.Proofs
end
section
namespace Go.Syn
open Go.Proofs
theorem aAC{s:aM}{wat:Int}:∀(f i:Nat) (acc:aM) (r:Nat×aM),fH s wat f i acc=.ok r→i < r.1∧r.1≤s.length:=by
 intro f;induction f with
 |zero=>intro i acc r h;simp only[fH]at h;cases h
 |succ f ih=>
  intro i acc r h;simp only[fH]at h;split at h
  ·rename_i h1;cases h;exact⟨by simp,by simp;omega⟩
  ·split at h
   ·split at h
    ·cases h
    ·have:=ih _ _ _ h;omega
   ·split at h
    ·cases h
    ·have:=ih _ _ _ h;omega
theorem aIG{s:aM}{a:Nat}{c:UInt8}(hc:s[a]?=some c)(h:gP c=true):0 < (cW s a).length:=by
 have hi:a < s.length:=by
  rcases Nat.lt_or_ge a s.length with h|h
  ·exact h
  ·simp[List.getElem?_eq_none h]at hc
 have e:s[a]=c:=by simpa[List.getElem?_eq_getElem hi]using hc
 unfold cW;rw[List.drop_eq_getElem_cons hi,e,List.takeWhile_cons,if_pos h];simp
theorem aSY{s:aM}{a:Nat}{c:UInt8}(hc:s[a]?=some c)(h:e9 c=true):0 < (o5 s a).length:=by
 have hi:a < s.length:=by
  rcases Nat.lt_or_ge a s.length with h|h
  ·exact h
  ·simp[List.getElem?_eq_none h]at hc
 have e:s[a]=c:=by simpa[List.getElem?_eq_getElem hi]using hc
 unfold o5;rw[List.drop_eq_getElem_cons hi,e,List.takeWhile_cons,if_pos h];simp
theorem aM8{s:aM}{a:Nat}{wat:Int}{r:Nat×Int}(ha:a≤s.length)(h:tY s a wat=.ok r):a+(cW s a).length≤r.1∧r.1≤s.length:=by
 unfold tY at h;split at h
 ·cases h
 ·split at h
  ·cases h
  ·cases h
   refine⟨?_,aK0 s a ha⟩
   show _≤numA s a
   unfold numA;split <;> omega
theorem aKY{s:aM}{a:Nat}{r:Nat×Word}(ha:a≤s.length)(h:next s a=.ok r):a≤r.1∧r.1≤s.length∧(r.2.kind≠0→a < r.1):=by
 unfold next at h;split at h
 ·cases h
 ·rename_i a1 hs;obtain⟨h1,h2⟩:=aET ha hs;split at h
  ·cases h;exact⟨h1,h2,fun h=>absurd rfl h⟩
  ·rename_i c hc;have hi:a1 < s.length:=by
    rcases Nat.lt_or_ge a1 s.length with h|h
    ·exact h
    ·simp[List.getElem?_eq_none h]at hc
   have key:a1 < r.1∧r.1≤s.length:=by
    unfold pF at h;split at h
    ·cases h;exact⟨by simp,by simp;omega⟩
    ·split at h
     ·split at h
      ·cases h
      ·rename_i q hq;cases h
       have:=aAC _ _ _ _ hq;exact⟨by show a1 < q.1;omega,this.2⟩
     ·split at h
      ·split at h
       ·cases h
        have:=iJ e9 s (a1+1) aI;exact⟨by show a1 < a1+1+_;omega,this⟩
       ·cases h
      ·split at h
       ·rename_i hl;cases h
        have:=iJ e9 s a1 aI;have hp:=aSY hc (show e9 c=true by simp[e9,hl]);exact⟨by show a1 < a1+_;omega,this⟩
       ·split at h
        ·rename_i hd;split at h
         ·cases h
         ·rename_i q hq;cases h
          have:=aM8 aI hq;have hp:=aIG hc hd;exact⟨by show a1 < q.1;omega,this.2⟩
        ·cases h
   exact⟨by omega,key.2,fun _=>by omega⟩
def mu(s:aM)(st:St):Nat:=(s.length - st.1)*2+(if st.2.kind=0 then 0 else 1)
theorem fG{s:aM}{st r:St}(ha:st.1≤s.length)(hk:st.2.kind≠0)(h:next s st.1=.ok r):mu s r < mu s st∧r.1≤s.length:=by
 obtain⟨h1,h2,h3⟩:=aKY ha h;refine⟨?_,h2⟩
 unfold mu;rw[if_neg hk];split
 ·omega
 ·rename_i hr;have:=h3 hr;omega
theorem aE3{s:aM}{st:St}{k:Nat}{texts:List aM}{r:Word×St}(ha:st.1≤s.length)(hk:k≠0)(h:take s st k texts=.ok r):mu s r.2 < mu s st∧r.2.1≤s.length:=by
 unfold take at h;split at h
 ·cases h
 ·rename_i hn;have hkk:st.2.kind=k:=by
   rcases Nat.decEq st.2.kind k with h'|h'
   ·exact absurd (.inl h') hn
   ·exact h'
  split at h
  ·cases h
  ·rename_i q hq;cases h
   exact fG ha aI hq
theorem vY{s:aM}{st:St}{x:aM}{r:Bool×St}(ha:st.1≤s.length)(h:eat s st x=.ok r):r.2.1≤s.length∧mu s r.2≤mu s st∧(r.1=true→mu s r.2 < mu s st):=by
 unfold eat at h;split at h
 ·rename_i hk;split at h
  ·cases h
  ·rename_i q hq;cases h
   have:=fG ha aI hq;exact⟨this.2,Nat.le_of_lt this.1,fun _=>this.1⟩
 ·cases h;exact⟨ha,Nat.le_refl _,fun h=>by cases h⟩
theorem jP{s:aM}{st:St}{ff:aM→Int}{r:aM×St}(ha:st.1≤s.length)(h:text s st ff=.ok r):mu s r.2 < mu s st∧r.2.1≤s.length:=by
 unfold text at h;split at h
 ·cases h
 ·split at h
  ·cases h
  ·rename_i q hq;cases h
   exact aE3 ha (by decide) hq
theorem aK3{s:aM}{st r:St}{x:aM}(ha:st.1≤s.length)(h:sign s st x=.ok r):mu s r < mu s st∧r.1≤s.length:=by
 unfold sign at h;split at h
 ·cases h
 ·rename_i q hq;cases h
  exact aE3 ha (by decide) hq
theorem tA(s:aM)(st:St):mu s st≤s.length*2+1:=by unfold mu;split <;> omega
def oO(s:aM)(ff:aM→Int):Nat→St→List aM→Res (List aM×St)
 |0,_,_=>.error (0,0)
 |f+1,st,acc=>
  match eat s st [44]with
  | .error e=>.error e
  | .ok r=>
   if r.1=true then
    match text s r.2 ff with
    | .error e=>.error e
    | .ok x=>oO s ff f x.2 (acc++[x.1])
   else
    match sign s r.2 [93]with
    | .error e=>.error e
    | .ok q=>.ok (acc,q)
def list(s:aM)(st:St)(ff:aM→Int):Res (List aM×St):=
 match eat s st [91]with
 | .error e=>.error e
 | .ok r=>
  match text s r.2 ff with
  | .error e=>.error e
  | .ok x=>if r.1=true then oO s ff (mu s x.2+1) x.2 [x.1]else .ok ([x.1],x.2)
def named(s:aM):Bool:=s.all e9&&(decide (s≠[])&&!gP ((s[0]?).getD 0))
def oneOf(e:Int)(texts:List aM)(x:aM):Int:=if x∈texts then 0 else e
theorem aQV{s:aM}{i:Nat}{c:UInt8}(hc:s[i]?=some c)(h:e9 c=false):named s=false:=by
 have:s.all e9=false:=List.all_eq_false.2 ⟨c,List.mem_of_getElem? hc,by simp[h]⟩;simp[named,this]
structure SetC where
 name:aM
 value:aM
 tag:Int
def nM:aM:=[108,111,119,101,114]
def nN:aM:=[117,112,112,101,114]
def lS:aM:=[108,101,110,103,116,104]
def eO:aM:=[118,97,114,105,97,98,108,101,115]
def kB(s:aM)(st:St):Res (Int×St):=
 if st.2.kind=2 then
  if cT [nM,nN,lS] st.2.s= -1 then .error (4,st.2.at_)
  else match next s st.1 with
   | .error e=>.error e
   | .ok r=>.ok (1+cT [nM,nN,lS] st.2.s,r)
 else .ok (0,st)
def nJ(s:aM)(t:Int×St):Res (SetC×St):=
 match text s t.2 (fun x=>if named x=true then 0 else 7)with
 | .error e=>.error e
 | .ok n=>
  match text s n.2 (fun _=>0)with
  | .error e=>.error e
  | .ok v=>
   match sign s v.2 [59]with
   | .error e=>.error e
   | .ok q=>.ok (⟨dH n.1,v.1,t.1⟩,q)
def setC(s:aM)(needs:List aM)(st:St):Res (SetC×St):=
 if eO∈needs then
  match next s st.1 with
  | .error e=>.error e
  | .ok r=>
   match kB s r with
   | .error e=>.error e
   | .ok t=>nJ s t
 else .error (6,st.2.at_)
end Go.Syn
end
section
namespace Go.Syn
open Go.Proofs
theorem aG0{s:aM}{wat:Int}:∀(f i:Nat) (acc:aM) (r:Nat×aM),fH s wat f i acc=.ok r→acc.length≤i→r.2.length≤r.1:=by
 intro f;induction f with
 |zero=>intro i acc r h;simp only[fH]at h;cases h
 |succ f ih=>
  intro i acc r h hi;simp only[fH]at h;split at h
  ·cases h;show acc.length≤i+1;omega
  ·split at h
   ·split at h
    ·cases h
    ·exact ih _ _ _ h (by simp;omega)
   ·split at h
    ·cases h
    ·exact ih _ _ _ h (by simp;omega)
theorem t7(s:aM):(dH s).length=s.length:=by simp[dH]
theorem aQW{s:aM}{a:Nat}{r:Nat×Word}(ha:a≤s.length)(h:next s a=.ok r):r.2.s.length≤s.length:=by
 unfold next at h;split at h
 ·cases h
 ·rename_i a1 hs;obtain⟨h1,h2⟩:=aET ha hs;split at h
  ·cases h;simp
  ·rename_i c hc;have hi:a1 < s.length:=by
    rcases Nat.lt_or_ge a1 s.length with h|h
    ·exact h
    ·simp[List.getElem?_eq_none h]at hc
   unfold pF at h;split at h
   ·cases h;simp;omega
   ·split at h
    ·split at h
     ·cases h
     ·rename_i q hq;cases h
      have h3:=aAC _ _ _ _ hq;have h4:=aG0 _ _ _ _ hq (by simp)
      show q.2.length≤s.length
      omega
    ·split at h
     ·split at h
      ·cases h
       have:=iJ e9 s (a1+1) aI
       show (dH (o5 s (a1+1))).length≤_
       rw[t7];unfold o5;omega
      ·cases h
     ·split at h
      ·cases h
       have:=iJ e9 s a1 aI
       show (dH (o5 s a1)).length≤_
       rw[t7];unfold o5;omega
      ·split at h
       ·split at h
        ·cases h
        ·cases h;simp
       ·cases h
def Ok(s:aM)(st:St):Prop:=st.1≤s.length∧st.2.s.length≤s.length
theorem eB{s:aM}{a:Nat}{r:St}(ha:a≤s.length)(h:next s a=.ok r):Ok s r:=⟨(aKY ha h).2.1,aQW ha h⟩
theorem vK{s:aM}{st:St}{k:Nat}{texts:List aM}{r:Word×St}(ha:st.1≤s.length)(h:take s st k texts=.ok r):Ok s r.2:=by
 unfold take at h;split at h
 ·cases h
 ·split at h
  ·cases h
  ·rename_i q hq;cases h
   exact eB ha hq
theorem vZ{s:aM}{st:St}{x:aM}{r:Bool×St}(ha:Ok s st)(h:eat s st x=.ok r):Ok s r.2:=by
 unfold eat at h;split at h
 ·split at h
  ·cases h
  ·rename_i q hq;cases h
   exact eB ha.1 hq
 ·cases h;exact ha
theorem lP{s:aM}{st:St}{ff:aM→Int}{r:aM×St}(ha:st.1≤s.length)(h:text s st ff=.ok r):Ok s r.2:=by
 unfold text at h;split at h
 ·cases h
 ·split at h
  ·cases h
  ·rename_i q hq;cases h
   exact vK ha hq
theorem yH{s:aM}{st r:St}{x:aM}(ha:st.1≤s.length)(h:sign s st x=.ok r):Ok s r:=by
 unfold sign at h;split at h
 ·cases h
 ·rename_i q hq;cases h
  exact vK ha hq
end Go.Syn
end
section
namespace Go.Mach
open Go.Syn
structure Ins where
 op:Int
 n:Int
 tag:Int
 oct:Bool
 a:List aM
 b:List aM
 at_:Int
structure Msg where
 from_:aM
 to_:aM
 size:Int
 hs:List (aM×aM)
abbrev Action:=Int×aM
structure MS where
 acts:List Action
 keep:Bool
 vars:List (aM×aM)
 parts:List aM
 stack:List Bool
 pc:Nat
def vget(vars:List (aM×aM))(k:aM):aM:=match vars with
 | []=>[]
 |(j,v)::r=>if j=k then v else vget r k
def vput(vars:List (aM×aM))(k v:aM):List (aM×aM):=match vars with
 | []=>[(k,v)]
 |(j,u)::r=>if j=k then (j,v)::r else (j,u)::vput r k v
def held(vars:List (aM×aM))(parts:List aM)(name:aM):aM×Bool:=
 match name with
 | [c]=>if gP c=true then ((parts[c.toNat - 48]?).getD [],true)else (vget vars (dH name),named name)
 |_=>(vget vars (dH name),named name)
def iL(vars:List (aM×aM))(parts:List aM):Nat→aM→aM→aM
 |0,s,acc=>acc++s
 |f+1,s,acc=>
  if s=[]then acc
  else if Lib.index s [36,123] < 0 then acc++s
  else
   let i:=(Lib.index s [36,123]).toNat
   let t:=s.drop i
   let e:=Lib.indexByte t 125
   let h:=held vars parts ((t.take (max e 2).toNat).drop 2)
   if 0 < e∧h.2=true then iL vars parts f (t.drop (e.toNat+1)) (acc++s.take i++h.1)
   else iL vars parts f (t.drop 1) (acc++s.take i++[36])
def dF(named:Bool)(vars:List (aM×aM))(parts:List aM)(s:aM):aM:=
 if named=true then (iL vars parts (s.length+1) s []).take 1024 else s
def fW(m:Msg)(name:aM):List aM:=(m.hs.filter fun h=>decide (dH h.1=name)).map (·.2)
def oL(m:Msg)(names:List aM):Bool:=names.all fun n=>decide (fW m (dH n)≠[])
def oK(m:Msg)(n:aM):List aM:=if dH n=[102,114,111,109]then [m.from_]else if dH n=[116,111]then [m.to_]else []
def gF(ex:aM→aM)(m:Msg)(o:Ins):List aM:=
 if o.op=8 then o.a.map ex
 else if o.op=6 then (o.a.map ex).flatMap fun n=>fW m (dH n)
 else if o.op=7 then o.a.flatMap (oK m)
 else []
def eG(oct:Bool)(s:aM):aM:=if oct=true then s else dH s
def kA{α:Type}(f:Nat→Option α):Nat→Nat→Option α
 |0,_=>none
 |n+1,e=>match f e with
  |some x=>some x
  |none=>kA f n (e+1)
def g9(w v k:aM):Nat→Nat→Nat→Option (List aM)
 |0,_,_=>none
 |f+1,i,j=>
  match k[j]? with
  |none=>if i=v.length then some []else none
  |some c=>
   if c.toNat=42 then kA (fun e=>(g9 w v k f e (j+1)).map fun ps=>((w.take e).drop i)::ps) (v.length+1 - i) i
   else match v[i]? with
    |none=>none
    |some x=>
     if c.toNat=63 then (g9 w v k f (i+1) (j+1)).map fun ps=>((w.take (i+1)).drop i)::ps
     else match (if c.toNat=92 then k[j+1]? else none)with
      |some d=>if x=d then g9 w v k f (i+1) (j+2)else none
      |none=>if x=c then g9 w v k f (i+1) (j+1)else none
def glob(w k:aM)(oct:Bool):Option (List aM):=g9 w (eG oct w) (eG oct k) (k.length+1) 0 0
def gU(o:Ins)(v k:aM):Option (List aM):=
 if o.tag=1 then (if eG o.oct v=eG o.oct k then some []else none)
 else if o.tag=2 then (if 0≤Lib.index (eG o.oct v) (eG o.oct k)then some []else none)
 else glob v k o.oct
def o3{α β:Type}(f:α→Option β):List α→Option β
 | []=>none
 |x::l=>match f x with
  |some y=>some y
  |none=>o3 f l
def jB(o:Ins)(vs ks:List aM):Option (List aM):=
 o3 (fun v=>o3 (fun k=>(gU o v k).map fun ps=>v::ps) ks) vs
def m7(pc:Nat):Int×Int:=(12,pc)
def push(s:MS)(b:Bool):Res MS:=if s.stack.length < 8 then .ok {s with stack:=s.stack++[b]}else .error (m7 s.pc)
def pop(s:MS):Res (Bool×MS):=match s.stack.getLast? with
 |some b=>.ok (b,{s with stack:=s.stack.dropLast})
 |none=>.error (m7 s.pc)
def jump(s:MS)(by_:Int)(n:Nat)(yes:Bool):Res MS:=
 if 0≤by_∧by_ < (n:Int) - s.pc then .ok (if yes=true then {s with pc:=s.pc+by_.toNat}else s)else .error (m7 s.pc)
def matchI(nm:Bool)(m:Msg)(o:Ins)(s:MS):Res MS:=
 if 1≤o.tag∧o.tag≤3∧s.stack.length < 8 then
  let ex:=dF nm s.vars s.parts
  match jB o (gF ex m o) (o.b.map ex)with
  |some ps=>push (if o.tag=3∧nm=true then {s with parts:=ps}else s) true
  |none=>push s false
 else .error (m7 s.pc)
def setI(nm:Bool)(o:Ins)(s:MS):Res MS:=
 if 0≤o.tag∧o.tag≤3 then
  match o.a,o.b with
  |a::_,b::_=>
   let v:=dF nm s.vars s.parts b
   let u:=if o.tag=1 then dH v else if o.tag=2 then aIY v else if o.tag=3 then Lib.itoa v.length else v
   .ok {s with vars:=vput s.vars a (u.take 48)}
  |_,_=>.error (m7 s.pc)
 else .error (m7 s.pc)
def f3(c:UInt8):Bool:=(decide (97≤(c|||32).toNat)&&decide ((c|||32).toNat≤122))||(decide (48≤c.toNat)&&decide (c.toNat≤57))||decide (c.toNat=95)
def g0(i:Nat)(c:UInt8):Bool:=f3 c||decide (c.toNat=45)||(decide (c.toNat=46)&&decide (i≠0))
def boxed(s:aM):Bool:=((List.range s.length).all fun i=>g0 i ((s[i]?).getD 0))&&decide (s≠[])&&decide (s.length≤16)
def iY(c:UInt8):Bool:=decide (c.toNat=32∨c.toNat=9∨c.toNat=13∨c.toNat=10)
def jY(s:aM):Bool:=
 match s.findIdx? (fun x=>decide (x=64))with
 |none=>false
 |some i=>decide (s.take i≠[])&&decide (s.drop (i+1)≠[])&&!(s.any iY)&&!((s.drop (i+1)).any fun c=>decide (c=64))&&decide (s.length≤32)
def actA(nm:Bool)(o:Ins)(s:MS):aM:=if o.tag=1 then []else dF nm s.vars s.parts ((o.a[0]?).getD [])
def actV(o:Ins)(arg:aM):Action:=(o.tag,if o.tag=4 then arg.take 48 else arg)
def actI(nm:Bool)(o:Ins)(s:MS):Res MS:=
 if o.tag=1∨(2≤o.tag∧o.tag≤4∧o.a≠[])then
  let arg:=actA nm o s
  if o.tag=2∧boxed arg=false then .error (8,o.at_)
  else if o.tag=3∧jY arg=false then .error (9,o.at_)
  else
   let a:Action:=actV o arg
   if a∈s.acts then .ok {s with keep:=false}
   else if (∃b∈s.acts,a.1=4∨b.1=4)then .error (10,o.at_)
   else if s.acts.length=6 then .error (11,o.at_)
   else .ok {s with keep:=false,acts:=s.acts++[a]}
 else .error (m7 s.pc)
def step(nm:Bool)(m:Msg)(n:Nat)(o:Ins)(s:MS):Res MS:=
 if o.op=1 then (if o.n=0∨o.n=1 then push s (decide (o.n=1))else .error (m7 s.pc))
 else if o.op=2 then (match pop s with| .error e=>.error e| .ok r=>push r.2 (!r.1))
 else if o.op=3 then jump s o.n n true
 else if o.op=4 then (match pop s with| .error e=>.error e| .ok r=>jump r.2 o.n n r.1)
 else if o.op=5 then (match pop s with| .error e=>.error e| .ok r=>jump r.2 o.n n (!r.1))
 else if o.op=6∨o.op=7∨o.op=8 then matchI nm m o s
 else if o.op=9 then push s (oL m (o.a.map (dF nm s.vars s.parts)))
 else if o.op=10 then (if o.tag=1∨o.tag=2 then push s (decide (o.tag=1∧o.n < m.size∨o.tag=2∧m.size < o.n))else .error (m7 s.pc))
 else if o.op=11 then actI nm o s
 else if o.op=12 then setI nm o s
 else if o.op=13 then .ok {s with keep:=false}
 else .error (m7 s.pc)
structure Out where
 acts:List Action
 steps:Nat
 err:Option (Int×Int)
def loop(nm:Bool)(m:Msg)(code:List Ins):Nat→Nat→MS→Out
 |0,st,_=>⟨[],st,none⟩
 |f+1,st,s=>
  match code[s.pc]? with
  |none=>⟨if s.keep=true then s.acts++[(1,[])]else s.acts,st,none⟩
  |some o=>
   if o.op=14 then ⟨if s.keep=true then s.acts++[(1,[])]else s.acts,st+1,none⟩
   else match step nm m code.length o s with
    | .error e=>⟨[(1,[])],st+1,some e⟩
    | .ok t=>loop nm m code f (st+1) {t with pc:=t.pc+1}
def start:MS:=⟨[],true,[],[],[],0⟩
def run(nm:Bool)(code:List Ins)(m:Msg):Out:=
 if 400 < code.length then ⟨[(1,[])],0,some (12,400)⟩else loop nm m code (code.length+1) 0 start
theorem sJ{s t:MS}{b:Bool}(h:push s b=.ok t):t.pc=s.pc:=by
 unfold push at h;split at h <;> cases h;rfl
theorem aAB{s:MS}{r:Bool×MS}(h:pop s=.ok r):r.2.pc=s.pc:=by
 unfold pop at h;split at h <;> cases h;rfl
theorem aED{s t:MS}{by_:Int}{n:Nat}{yes:Bool}(h:jump s by_ n yes=.ok t)(hp:s.pc < n):s.pc≤t.pc∧t.pc < n:=by
 unfold jump at h;split at h
 ·cases h;split
  ·simp only[];omega
  ·exact⟨Nat.le_refl _,hp⟩
 ·cases h
theorem aMZ{nm:Bool}{m:Msg}{o:Ins}{s t:MS}(h:matchI nm m o s=.ok t):t.pc=s.pc:=by
 unfold matchI at h;split at h
 ·simp only[]at h;split at h
  ·have:=sJ h;rw[this];split <;> rfl
  ·exact sJ h
 ·cases h
theorem aUE{nm:Bool}{o:Ins}{s t:MS}(h:setI nm o s=.ok t):t.pc=s.pc:=by
 unfold setI at h;split at h
 ·split at h
  ·cases h;rfl
  ·cases h
 ·cases h
theorem aS8{nm:Bool}{o:Ins}{s t:MS}(h:actI nm o s=.ok t):t.pc=s.pc:=by
 unfold actI at h;split at h
 ·simp only[]at h;split at h
  ·cases h
  split at h
  ·cases h
  split at h
  ·cases h;rfl
  split at h
  ·cases h
  split at h
  ·cases h
  ·cases h;rfl
 ·cases h
theorem aK6{nm:Bool}{m:Msg}{n:Nat}{o:Ins}{s t:MS}(h:step nm m n o s=.ok t)(hp:s.pc < n):s.pc≤t.pc∧t.pc < n:=by
 have key:t.pc=s.pc→s.pc≤t.pc∧t.pc < n:=fun e=>by rw[e];exact⟨Nat.le_refl _,hp⟩
 unfold step at h
 by_cases h0:o.op=1
 ·rw[if_pos h0]at h;split at h
  ·exact key (sJ h)
  ·cases h
 rw[if_neg h0]at h
 by_cases h1:o.op=2
 ·rw[if_pos h1]at h;split at h
  ·cases h
  ·rename_i r hr;exact key ((sJ h).trans (aAB hr))
 rw[if_neg h1]at h
 by_cases h2:o.op=3
 ·rw[if_pos h2]at h;exact aED h hp
 rw[if_neg h2]at h
 by_cases h3:o.op=4
 ·rw[if_pos h3]at h;split at h
  ·cases h
  ·rename_i r hr;have e:=aAB hr;have:=aED h (by rw[e];exact hp);omega
 rw[if_neg h3]at h
 by_cases h4:o.op=5
 ·rw[if_pos h4]at h;split at h
  ·cases h
  ·rename_i r hr;have e:=aAB hr;have:=aED h (by rw[e];exact hp);omega
 rw[if_neg h4]at h
 by_cases h5:o.op=6∨o.op=7∨o.op=8
 ·rw[if_pos h5]at h;exact key (aMZ h)
 rw[if_neg h5]at h
 by_cases h6:o.op=9
 ·rw[if_pos h6]at h;exact key (sJ h)
 rw[if_neg h6]at h
 by_cases h7:o.op=10
 ·rw[if_pos h7]at h;split at h
  ·exact key (sJ h)
  ·cases h
 rw[if_neg h7]at h
 by_cases h8:o.op=11
 ·rw[if_pos h8]at h;exact key (aS8 h)
 rw[if_neg h8]at h
 by_cases h9:o.op=12
 ·rw[if_pos h9]at h;exact key (aUE h)
 rw[if_neg h9]at h
 by_cases h10:o.op=13
 ·rw[if_pos h10]at h;cases h;exact key rfl
 rw[if_neg h10]at h;cases h
end Go.Mach
end
section
namespace Go.Syn
theorem aQP{s:aM}{ff:aM→Int}:∀ {f:Nat} {st:St} {acc:List aM} {r:List aM×St},Ok s st→oO s ff f st acc=.ok r→Ok s r.2∧mu s r.2 < mu s st:=by
 intro f;induction f with
 |zero=>intro st acc r _ h;cases h
 |succ f ih=>
  intro st acc r hok h;simp only[oO]at h;split at h
  ·cases h
  ·rename_i q hq;obtain⟨_,hq2,_⟩:=vY hok.1 hq;have hqo:=vZ hok hq;split at h
   ·split at h
    ·cases h
    ·rename_i x hx;have h1:=jP hqo.1 hx;have h2:=lP hqo.1 hx;have:=ih h2 h;exact⟨this.1,by omega⟩
   ·split at h
    ·cases h
    ·rename_i y hy;cases h
     have h1:=aK3 hqo.1 hy;exact⟨yH hqo.1 hy,by simp only[];omega⟩
theorem mN{s:aM}{st:St}{ff:aM→Int}{r:List aM×St}(hok:Ok s st)(h:list s st ff=.ok r):Ok s r.2∧mu s r.2 < mu s st:=by
 unfold list at h;split at h
 ·cases h
 ·rename_i q hq;obtain⟨_,hq2,_⟩:=vY hok.1 hq;have hqo:=vZ hok hq;split at h
  ·cases h
  ·rename_i x hx;have h1:=jP hqo.1 hx;have h2:=lP hqo.1 hx;split at h
   ·have:=aQP h2 h;exact⟨this.1,by omega⟩
   ·cases h;exact⟨h2,by simp only[];omega⟩
inductive Tree where
 |const (b:Bool)
 |not_ (t:Tree)
 |many (all:Bool) (l:Tree)
 |mat (tag:Int) (octet:Bool) (op:Int) (a b:List aM)
 |exi (a:List aM)
 |siz (tag n:Int)
 |tnil
 |tcons (t l:Tree)
 |plain (op:Int)
 |act (kind:Int) (arg:aM) (at_:Int)
 |set_ (name value:aM) (tag:Int)
 |iff (bs:Tree)
 |cnil
 |ccons (c l:Tree)
 |bnil
 |bcons (t body l:Tree)
 |belse (body l:Tree)
def wf:Tree→Nat→Bool
 | .const _,k=>k==0
 | .not_ t,k=>k==0&&wf t 0
 | .many _ l,k=>k==0&&wf l 1
 | .mat _ _ _ _ _,k=>k==0
 | .exi _,k=>k==0
 | .siz _ _,k=>k==0
 | .tnil,k=>k==1
 | .tcons t l,k=>k==1&&(wf t 0&&wf l 1)
 | .plain _,k=>k==2
 | .act _ _ _,k=>k==2
 | .set_ _ _ _,k=>k==2
 | .iff bs,k=>k==2&&wf bs 4
 | .cnil,k=>k==3
 | .ccons c l,k=>k==3&&(wf c 2&&wf l 3)
 | .bnil,k=>k==4
 | .bcons t b l,k=>k==4&&(wf t 0&&(wf b 3&&wf l 4))
 | .belse b l,k=>k==4&&(wf b 3&&wf l 4)
def Tree.snocT:Tree→Tree→Tree
 | .tcons t l,x=>.tcons t (l.snocT x)
 |_,x=>.tcons x .tnil
def Tree.snocC:Tree→Tree→Tree
 | .ccons t l,x=>.ccons t (l.snocC x)
 |_,x=>.ccons x .cnil
def mkB(t:Option Tree)(body l:Tree):Tree:=match t with
 |some t=>.bcons t body l
 |none=>.belse body l
def Tree.snocB:Tree→Option Tree→Tree→Tree
 | .bcons t b l,x,y=>.bcons t b (l.snocB x y)
 | .belse b l,x,y=>.belse b (l.snocB x y)
 |_,x,y=>mkB x y .bnil
def txIs:aM:=[105,115]
def aA0:aM:=[99,111,110,116,97,105,110,115]
def aDA:aM:=[109,97,116,99,104,101,115]
def qJ:aM:=[99,111,109,112,97,114,97,116,111,114]
def eZ:aM:=[105,59,111,99,116,101,116]
def f9:aM:=[105,59,97,115,99,105,105,45,99,97,115,101,109,97,112]
def gT:aM:=[101,110,118,101,108,111,112,101]
def aE9:aM:=[111,118,101,114]
def oZ:aM:=[117,110,100,101,114]
def dK:List aM:=[txIs,aA0,aDA,qJ]
structure How where
 cmp:Bool
 tag:Int
 oct:Bool
def eY(s:aM):Nat→How→St→Res (How×St)
 |0,_,_=>.error (0,0)
 |f+1,h,st=>
  if st.2.kind=2 then
   if cT dK st.2.s= -1 then .error (4,st.2.at_)
   else if (cT dK st.2.s=3∧h.cmp=true)∨(cT dK st.2.s < 3∧h.tag≠0)then .error (7,st.2.at_)
   else if cT dK st.2.s < 3 then
    match next s st.1 with
    | .error e=>.error e
    | .ok r=>eY s f ⟨h.cmp,1+cT dK st.2.s,h.oct⟩ r
   else
    match next s st.1 with
    | .error e=>.error e
    | .ok r=>
     match text s r (oneOf 7 [eZ,f9])with
     | .error e=>.error e
     | .ok x=>eY s f ⟨true,h.tag,decide (x.1=eZ)⟩ x.2
  else .ok (h,st)
def mX(op:Int):aM→Int:=if op=7 then fun x=>oneOf 7 [[102,114,111,109],[116,111]] (dH x)else fun _=>0
def n5(s:aM)(op:Int)(h:Res (How×St)):Res (Tree×St):=
 match h with
 | .error e=>.error e
 | .ok h=>
  match list s h.2 (mX op)with
  | .error e=>.error e
  | .ok a=>
   match list s a.2 (fun _=>0)with
   | .error e=>.error e
   | .ok b=>.ok (.mat (if 1>h.1.tag then 1 else h.1.tag) h.1.oct op a.1 b.1,b.2)
def kO(s:aM)(needs:List aM)(op:Int)(ext:aM)(st:St):Res (Tree×St):=
 if ext≠[]∧ext∉needs then .error (6,st.2.at_)
 else match next s st.1 with
  | .error e=>.error e
  | .ok r=>n5 s op (eY s (mu s r+1) ⟨false,0,false⟩ r)
def lN(s:aM)(c:Tree)(st:St):Res (Tree×St):=
 match next s st.1 with
 | .error e=>.error e
 | .ok r=>
  match sign s r [59]with
  | .error e=>.error e
  | .ok q=>.ok (c,q)
def actC(s:aM)(needs:List aM)(kind:Int)(ext:aM)(at_:Int)(st:St):Res (Tree×St):=
 if ext≠[]∧ext∉needs then .error (6,st.2.at_)
 else match next s st.1 with
  | .error e=>.error e
  | .ok r=>
   match take s r 3 []with
   | .error e=>.error e
   | .ok x=>
    match sign s x.2 [59]with
    | .error e=>.error e
    | .ok q=>.ok (.act kind x.1.s at_,q)
def m8(s:aM)(b:Bool)(st:St):Res (Tree×St):=
 match next s st.1 with
 | .error e=>.error e
 | .ok r=>.ok (.const b,r)
def nF(s:aM)(st:St):Res (Tree×St):=
 match next s st.1 with
 | .error e=>.error e
 | .ok r=>
  match list s r (fun _=>0)with
  | .error e=>.error e
  | .ok a=>.ok (.exi a.1,a.2)
def qP(s:aM)(st:St):Res (Tree×St):=
 match next s st.1 with
 | .error e=>.error e
 | .ok r=>
  match take s r 2 [aE9,oZ]with
  | .error e=>.error e
  | .ok x=>
   match take s x.2 4 []with
   | .error e=>.error e
   | .ok y=>.ok (.siz (if x.1.s=oZ then 2 else 1) y.1.n,y.2)
def notC(s:aM)(T:St→Res (Tree×St))(st:St):Res (Tree×St):=
 match next s st.1 with
 | .error e=>.error e
 | .ok r=>
  match T r with
  | .error e=>.error e
  | .ok t=>.ok (.not_ t.1,t.2)
def qN(s:aM)(T:St→Res (Tree×St)):Nat→Tree→St→Res (Tree×St)
 |0,_,_=>.error (0,0)
 |f+1,acc,st=>
  match eat s st [44]with
  | .error e=>.error e
  | .ok r=>
   if r.1=true then
    match T r.2 with
    | .error e=>.error e
    | .ok t=>qN s T f (acc.snocT t.1) t.2
   else
    match sign s r.2 [41]with
    | .error e=>.error e
    | .ok q=>.ok (acc,q)
def vC(all:Bool)(l:Res (Tree×St)):Res (Tree×St):=
 match l with
 | .error e=>.error e
 | .ok l=>.ok (.many all l.1,l.2)
def oP(s:aM)(T:St→Res (Tree×St))(all:Bool)(st:St):Res (Tree×St):=
 match next s st.1 with
 | .error e=>.error e
 | .ok r=>
  match sign s r [40]with
  | .error e=>.error e
  | .ok q=>
   match T q with
   | .error e=>.error e
   | .ok t=>
    vC all (qN s T (mu s t.2+1) (.tcons t.1 .tnil) t.2)
def aA4:aM:=[116,114,117,101]
def vQ:aM:=[102,97,108,115,101]
def aH0:aM:=[110,111,116]
def vN:aM:=[97,108,108,111,102]
def vO:aM:=[97,110,121,111,102]
def rY:aM:=[104,101,97,100,101,114]
def rZ:aM:=[115,116,114,105,110,103]
def rX:aM:=[101,120,105,115,116,115]
def aA3:aM:=[115,105,122,101]
def tE(s:aM)(needs:List aM)(T:St→Res (Tree×St))(st:St):Option (Res (Tree×St)):=
 let w:=st.2.s
 if w=aA4 then some (m8 s true st)
 else if w=vQ then some (m8 s false st)
 else if w=aH0 then some (notC s T st)
 else if w=vN then some (oP s T true st)
 else if w=vO then some (oP s T false st)
 else if w=rY then some (kO s needs 6 [] st)
 else if w=gT then some (kO s needs 7 gT st)
 else if w=rZ then some (kO s needs 8 eO st)
 else if w=rX then some (nF s st)
 else if w=aA3 then some (qP s st)
 else none
def test(s:aM)(needs:List aM):Nat→St→Res (Tree×St)
 |0,st=>if st.2.kind=1 then .error (5,st.2.at_)else .error (4,st.2.at_)
 |n+1,st=>
  if st.2.kind=1 then
   match tE s needs (test s needs n) st with
   |some r=>r
   |none=>.error (4,st.2.at_)
  else .error (4,st.2.at_)
def bodyC(s:aM)(B:St→Res (Tree×St))(st:St):Res (Tree×St):=
 match sign s st [123]with
 | .error e=>.error e
 | .ok q=>
  match B q with
  | .error e=>.error e
  | .ok b=>
   match sign s b.2 [125]with
   | .error e=>.error e
   | .ok r=>.ok (b.1,r)
def vP:aM:=[101,108,115,105,102]
def rW:aM:=[101,108,115,101]
def jA(s:aM)(B:St→Res (Tree×St))(acc:Tree)(st:St):Res (Tree×St):=
 if st.2.kind=1∧st.2.s=rW then
  match next s st.1 with
  | .error e=>.error e
  | .ok r=>
   match bodyC s B r with
   | .error e=>.error e
   | .ok b=>.ok (.iff (acc.snocB none b.1),b.2)
 else .ok (.iff acc,st)
def fK(s:aM)(T B:St→Res (Tree×St)):Nat→Tree→St→Res (Tree×St)
 |0,_,_=>.error (0,0)
 |f+1,acc,st=>
  if st.2.kind=1∧st.2.s=vP then
   match next s st.1 with
   | .error e=>.error e
   | .ok r=>
    match T r with
    | .error e=>.error e
    | .ok t=>
     match bodyC s B t.2 with
     | .error e=>.error e
     | .ok b=>fK s T B f (acc.snocB (some t.1) b.1) b.2
  else jA s B acc st
def ifC(s:aM)(T B:St→Res (Tree×St))(st:St):Res (Tree×St):=
 match next s st.1 with
 | .error e=>.error e
 | .ok r=>
  match T r with
  | .error e=>.error e
  | .ok t=>
   match bodyC s B t.2 with
   | .error e=>.error e
   | .ok b=>fK s T B (mu s b.2+1) (.bcons t.1 b.1 .bnil) b.2
def aE8:aM:=[107,101,101,112]
def sY:aM:=[100,105,115,99,97,114,100]
def aFA:aM:=[115,116,111,112]
def iK:aM:=[102,105,108,101,105,110,116,111]
def qK:aM:=[114,101,100,105,114,101,99,116]
def kL:aM:=[114,101,106,101,99,116]
def aH1:aM:=[115,101,116]
def txIf:aM:=[105,102]
def aAN(s:aM)(needs:List aM)(st:St):Res (Tree×St):=
 match setC s needs st with
 | .error e=>.error e
 | .ok r=>.ok (.set_ r.1.name r.1.value r.1.tag,r.2)
def cmdD(s:aM)(needs:List aM)(T B:St→Res (Tree×St))(st:St):Option (Res (Tree×St)):=
 let w:=st.2.s
 if w=aE8 then some (lN s (.act 1 [] st.2.at_) st)
 else if w=sY then some (lN s (.plain 13) st)
 else if w=aFA then some (lN s (.plain 14) st)
 else if w=iK then some (actC s needs 2 iK st.2.at_ st)
 else if w=qK then some (actC s needs 3 [] st.2.at_ st)
 else if w=kL then some (actC s needs 4 kL st.2.at_ st)
 else if w=aH1 then some (aAN s needs st)
 else if w=txIf then some (ifC s T B st)
 else none
def kM(s:aM)(C:St→Option (Res (Tree×St))):Nat→Tree→St→Res (Tree×St)
 |0,_,_=>.error (0,0)
 |f+1,acc,st=>
  if st.2.kind=1 then
   match C st with
   |none=>.error (4,st.2.at_)
   |some (.error e)=>.error e
   |some (.ok c)=>kM s C f (acc.snocC c.1) c.2
  else .ok (acc,st)
def block(s:aM)(needs:List aM):Nat→St→Res (Tree×St)
 |0,st=>if st.2.kind=1 then .error (5,st.2.at_)else .ok (.cnil,st)
 |n+1,st=>kM s (cmdD s needs (test s needs n) (block s needs n)) (mu s st+1) .cnil st
end Go.Syn
end
section
namespace Go.Syn
open Go Go.SL
def u0:Cell:=⟨.nilIface,rfl⟩
def Rep(K:Hl):Tree→List (Cell×Cell)→Prop
 | .const b,us=>us=[(⟨.iface 289 (.bool b),rfl⟩,u0)]
 | .not_ t,us=>∃v,Rep K t [(v,u0)]∧us=[(⟨.iface 293 (.agg #[v.1]),rfl⟩,u0)]
 | .many all l,us=>∃xs sv,Rep K l xs∧Ksl (eD 288) K sv (xs.map (·.1))∧us=[(⟨.iface 376 (.agg #[.bool all,sv]),rfl⟩,u0)]
 | .mat tag oct op a b,us=>∃va vb,Ksl (bT 9) K va a∧Ksl (bT 9) K vb b∧us=[(⟨.iface 380 (.agg #[i64 tag,.bool oct,i64 op,va,vb]),rfl⟩,u0)]
 | .exi a,us=>∃va,Ksl (bT 9) K va a∧us=[(⟨.iface 297 (.agg #[va]),rfl⟩,u0)]
 | .siz tag n,us=>us=[(⟨.iface 300 (.agg #[i64 tag,i64 n]),rfl⟩,u0)]
 | .tnil,us=>us=[]
 | .tcons t l,us=>∃v xs,Rep K t [(v,u0)]∧Rep K l xs∧us=(v,u0)::xs
 | .plain op,us=>us=[(⟨.iface 285 (.agg #[i64 op]),rfl⟩,u0)]
 | .act k a p,us=>us=[(⟨.iface 282 (.agg #[i64 k,str a,i64 p]),rfl⟩,u0)]
 | .set_ n v t,us=>us=[(⟨.iface 308 (.agg #[str n,str v,i64 t]),rfl⟩,u0)]
 | .iff bs,us=>∃xs sv,Rep K bs xs∧Ksl (iW 371) K sv xs∧us=[(⟨.iface 311 (.agg #[sv]),rfl⟩,u0)]
 | .cnil,us=>us=[]
 | .ccons t l,us=>∃v xs,Rep K t [(v,u0)]∧Rep K l xs∧us=(v,u0)::xs
 | .bnil,us=>us=[]
 | .bcons t b l,us=>∃v ys sv xs,Rep K t [(v,u0)]∧(∃ty u,v.1=.iface ty u)∧Rep K b ys∧Ksl (eD 224) K sv.1 (ys.map (·.1))∧Rep K l xs∧us=(v,sv)::xs
 | .belse b l,us=>∃ys sv xs,Rep K b ys∧Ksl (eD 224) K sv.1 (ys.map (·.1))∧Rep K l xs∧us=(⟨.nilIface,rfl⟩,sv)::xs
theorem Rep.mono{K K':Hl}(le:K.le K'):∀ {t:Tree} {us:List (Cell×Cell)},Rep K t us→Rep K' t us:=by
 intro t;induction t with
 |const b=>intro us h;exact h
 |not_ t ih=>rintro us ⟨v,h,e⟩;exact⟨v,ih h,e⟩
 |many all l ih=>rintro us ⟨xs,sv,h1,h2,e⟩;exact⟨xs,sv,ih h1,h2.mono le,e⟩
 |mat tag oct op a b=>rintro us ⟨va,vb,h1,h2,e⟩;exact⟨va,vb,h1.mono le,h2.mono le,e⟩
 |exi a=>rintro us ⟨va,h1,e⟩;exact⟨va,h1.mono le,e⟩
 |siz tag n=>intro us h;exact h
 |tnil=>intro us h;exact h
 |tcons t l ih1 ih2=>rintro us ⟨v,xs,h1,h2,e⟩;exact⟨v,xs,ih1 h1,ih2 h2,e⟩
 |plain op=>intro us h;exact h
 |act k a p=>intro us h;exact h
 |set_ n v t=>intro us h;exact h
 |iff bs ih=>rintro us ⟨xs,sv,h1,h2,e⟩;exact⟨xs,sv,ih h1,h2.mono le,e⟩
 |cnil=>intro us h;exact h
 |ccons t l ih1 ih2=>rintro us ⟨v,xs,h1,h2,e⟩;exact⟨v,xs,ih1 h1,ih2 h2,e⟩
 |bnil=>intro us h;exact h
 |bcons t b l ih1 ih2 ih3=>rintro us ⟨v,ys,sv,xs,h1,h2,h3,h4,h5,e⟩;exact⟨v,ys,sv,xs,ih1 h1,h2,ih2 h3,h4.mono le,ih3 h5,e⟩
 |belse b l ih1 ih2=>rintro us ⟨ys,sv,xs,h1,h2,h3,e⟩;exact⟨ys,sv,xs,ih1 h1,h2.mono le,ih2 h3,e⟩
def Rep1(K:Hl)(t:Tree)(v:Value):Prop:=∃ty u,v=.iface ty u∧Rep K t [(⟨.iface ty u,rfl⟩,u0)]
theorem Rep1.mono{K K':Hl}{t:Tree}{v:Value}(h:Rep1 K t v)(le:K.le K'):Rep1 K' t v:=let ⟨a,b,e,r⟩:=h;⟨a,b,e,r.mono le⟩
def isTL:Tree→Bool
 | .tnil=>true
 | .tcons _ l=>isTL l
 |_=>false
def isCL:Tree→Bool
 | .cnil=>true
 | .ccons _ l=>isCL l
 |_=>false
def isBL:Tree→Bool
 | .bnil=>true
 | .bcons _ _ l=>isBL l
 | .belse _ l=>isBL l
 |_=>false
theorem aNK{K:Hl}{t:Tree}{v:Cell}(ht:Rep K t [(v,u0)]):∀ {l:Tree} {us:List (Cell×Cell)},isTL l=true→Rep K l us→Rep K (l.snocT t) (us++[(v,u0)])∧isTL (l.snocT t)=true:=by
 intro l;induction l with
 |tnil=>intro us _ h;cases (show us=[]from h);exact⟨⟨v,[],ht,rfl,rfl⟩,rfl⟩
 |tcons x l ih1 ih2=>
  rintro us hl ⟨w,xs,h1,h2,rfl⟩;obtain⟨h3,h4⟩:=ih2 hl h2;exact⟨⟨w,_,h1,h3,rfl⟩,h4⟩
 |_=>intro us hl;cases hl
theorem aNJ{K:Hl}{t:Tree}{v:Cell}(ht:Rep K t [(v,u0)]):∀ {l:Tree} {us:List (Cell×Cell)},isCL l=true→Rep K l us→Rep K (l.snocC t) (us++[(v,u0)])∧isCL (l.snocC t)=true:=by
 intro l;induction l with
 |cnil=>intro us _ h;cases (show us=[]from h);exact⟨⟨v,[],ht,rfl,rfl⟩,rfl⟩
 |ccons x l ih1 ih2=>
  rintro us hl ⟨w,xs,h1,h2,rfl⟩;obtain⟨h3,h4⟩:=ih2 hl h2;exact⟨⟨w,_,h1,h3,rfl⟩,h4⟩
 |_=>intro us hl;cases hl
def RepO(K:Hl):Option Tree→Cell→Prop
 |none,v=>v=⟨.nilIface,rfl⟩
 |some t,v=>Rep K t [(v,u0)]∧∃ty u,v.1=.iface ty u
theorem aT9{K:Hl}{o:Option Tree}{b l:Tree}{v sv:Cell}{ys xs:List (Cell×Cell)}(ho:RepO K o v)(hb:Rep K b ys)(hs:Ksl (eD 224) K sv.1 (ys.map (·.1)))(hl:Rep K l xs):Rep K (mkB o b l) ((v,sv)::xs):=by
 cases o with
 |none=>cases (show v=_ from ho);exact⟨ys,sv,xs,hb,hs,hl,rfl⟩
 |some t=>exact⟨v,ys,sv,xs,ho.1,ho.2,hb,hs,hl,rfl⟩
theorem mC{K:Hl}{o:Option Tree}{b:Tree}{v sv:Cell}{ys:List (Cell×Cell)}(ho:RepO K o v)(hb:Rep K b ys)(hs:Ksl (eD 224) K sv.1 (ys.map (·.1))):
  ∀ {l:Tree} {us:List (Cell×Cell)},isBL l=true→Rep K l us→Rep K (l.snocB o b) (us++[(v,sv)])∧isBL (l.snocB o b)=true:=by
 intro l;induction l with
 |bnil=>intro us _ h;cases (show us=[]from h);exact⟨aT9 ho hb hs rfl,by cases o <;> rfl⟩
 |bcons x y l ih1 ih2 ih3=>
  rintro us hl ⟨w,zs,tv,xs,h1,h2,h3,h4,h5,rfl⟩;obtain⟨h6,h7⟩:=ih3 hl h5;exact⟨⟨w,zs,tv,_,h1,h2,h3,h4,h6,rfl⟩,h7⟩
 |belse y l ih1 ih2=>
  rintro us hl ⟨zs,tv,xs,h1,h2,h3,rfl⟩;obtain⟨h6,h7⟩:=ih2 hl h3;exact⟨⟨zs,tv,_,h1,h2,h6,rfl⟩,h7⟩
 |_=>intro us hl;cases hl
theorem wM{K:Hl}{t:Tree}{c d:Cell}(hw:wf t 0=true∨wf t 2=true)(h:Rep K t [(c,d)]):∃ty u,c.1=.iface ty u:=by
 cases t <;> simp only[wf,Rep]at h hw
 case const b=>cases h;exact⟨_,_,rfl⟩
 case not_ t=>obtain⟨v,_,h⟩:=h;cases h;exact⟨_,_,rfl⟩
 case many all l=>obtain⟨xs,sv,_,_,h⟩:=h;cases h;exact⟨_,_,rfl⟩
 case mat tag oct op a b=>obtain⟨va,vb,_,_,h⟩:=h;cases h;exact⟨_,_,rfl⟩
 case exi a=>obtain⟨va,_,h⟩:=h;cases h;exact⟨_,_,rfl⟩
 case siz tag n=>cases h;exact⟨_,_,rfl⟩
 case plain op=>cases h;exact⟨_,_,rfl⟩
 case act k a p=>cases h;exact⟨_,_,rfl⟩
 case set_ n v t=>cases h;exact⟨_,_,rfl⟩
 case iff bs=>obtain⟨xs,sv,_,_,h⟩:=h;cases h;exact⟨_,_,rfl⟩
 all_goals simp at hw
end Go.Syn
end
section
namespace Go.Cmp
open Go.Syn Go.Mach
def jmp(op:Int):Ins:=⟨op,0,0,false,[],[],0⟩
def setN(ops:List Ins)(k:Nat)(n:Int):List Ins:=ops.modify k fun o=>{o with n:=n}
def land(ops:List Ins)(ps:List Nat):List Ins:=ps.foldl (fun o k=>setN o k ((ops.length:Int) - 1 - k)) ops
def gQ:Tree→Bool
 | .tcons _ _=>false
 | .bcons _ _ _=>false
 | .belse _ _=>false
 |_=>true
mutual
def unl:Tree→Bool→List Ins→List Ins×List Nat
 | .not_ t,tn,ops=>unl t (!tn) ops
 | .const b,tn,ops=>if b=tn then (ops++[jmp 3],[ops.length])else (ops,[])
 | .many all l,tn,ops=>(land (unlL all tn l ops [] []).1 (unlL all tn l ops [] []).2.2,(unlL all tn l ops [] []).2.1)
 | .mat tag oct op a b,tn,ops=>(ops++[⟨op,0,tag,oct,a,b,0⟩,jmp (if tn=true then 4 else 5)],[ops.length+1])
 | .exi a,tn,ops=>(ops++[⟨9,0,0,false,a,[],0⟩,jmp (if tn=true then 4 else 5)],[ops.length+1])
 | .siz tag n,tn,ops=>(ops++[⟨10,n,tag,false,[],[],0⟩,jmp (if tn=true then 4 else 5)],[ops.length+1])
 |_,_,ops=>(ops,[])
def unlL(all tn:Bool):Tree→List Ins→List Nat→List Nat→List Ins×List Nat×List Nat
 | .tcons t l,ops,away,here=>
  if all=tn∧gQ l=false then unlL all tn l (unl t (!tn) ops).1 away (here++(unl t (!tn) ops).2)
  else unlL all tn l (unl t tn ops).1 (away++(unl t tn ops).2) here
 |_,ops,away,here=>(ops,away,here)
end
mutual
def body:Tree→List Ins→List Ins
 | .ccons c l,ops=>body l (cmdI c ops)
 |_,ops=>ops
def cmdI:Tree→List Ins→List Ins
 | .plain op,ops=>ops++[jmp op]
 | .act k a p,ops=>ops++[⟨11,0,k,false,if k=1 then []else [a],[],p⟩]
 | .set_ n v t,ops=>ops++[⟨12,0,t,false,[n],[v],0⟩]
 | .iff bs,ops=>dC bs ops []
 |_,ops=>ops
def dC:Tree→List Ins→List Nat→List Ins
 | .belse b l,ops,out=>land (body b ops) out
 | .bcons t b l,ops,out=>
  if gQ l=true then dC l (land (body b (unl t false ops).1) (unl t false ops).2) out
  else dC l (land (body b (unl t false ops).1++[jmp 3]) (unl t false ops).2) (out++[(body b (unl t false ops).1).length])
 |_,ops,out=>land ops out
end
def script(t:Tree):List Ins:=body t []
theorem aHF(ops:List Ins)(k:Nat)(n:Int):(setN ops k n).length=ops.length:=by simp[setN]
theorem aEG(n:Int):∀(ps:List Nat) (o:List Ins),(ps.foldl (fun o k=>setN o k (n - 1 - k)) o).length=o.length:=by
 intro ps;induction ps with
 |nil=>intro o;rfl
 |cons k ps ih=>intro o;rw[List.foldl_cons,ih,aHF]
theorem gH(ops:List Ins)(ps:List Nat):(land ops ps).length=ops.length:=aEG _ ps ops
def cnt:Tree→Nat
 | .const _=>1
 | .not_ t=>cnt t+1
 | .many _ l=>cnt l+1
 | .mat _ _ _ _ _=>1
 | .exi _=>1
 | .siz _ _=>1
 | .tnil=>0
 | .tcons t l=>cnt t+cnt l
 | .plain _=>1
 | .act _ _ _=>1
 | .set_ _ _ _=>1
 | .iff bs=>cnt bs+1
 | .cnil=>0
 | .ccons c l=>cnt c+cnt l
 | .bnil=>0
 | .bcons t b l=>cnt t+cnt b+cnt l+1
 | .belse b l=>cnt b+cnt l+1
theorem yL:∀(t:Tree),(∀tn ops,ops.length≤(unl t tn ops).1.length∧(unl t tn ops).1.length≤ops.length+2*cnt t∧(unl t tn ops).2.length≤cnt t∧∀k∈(unl t tn ops).2,k < (unl t tn ops).1.length)∧
  (∀all tn ops away here,(∀k∈away,k < ops.length)→(∀k∈here,k < ops.length)→ops.length≤(unlL all tn t ops away here).1.length∧(unlL all tn t ops away here).1.length≤ops.length+2*cnt t∧(unlL all tn t ops away here).2.1.length≤away.length+cnt t∧(unlL all tn t ops away here).2.2.length≤here.length+cnt t∧(∀k∈(unlL all tn t ops away here).2.1,k < (unlL all tn t ops away here).1.length)∧(∀k∈(unlL all tn t ops away here).2.2,k < (unlL all tn t ops away here).1.length)):=by
 intro t;induction t with
 |const b=>
  refine⟨fun tn ops=>?_,fun all tn ops away here h1 h2=>?_⟩
  ·simp only[unl,cnt];split <;> simp
  ·simp only[unlL];exact⟨Nat.le_refl _,by simp,by simp,by simp,h1,h2⟩
 |not_ t ih=>
  refine⟨fun tn ops=>?_,fun all tn ops away here h1 h2=>?_⟩
  ·have:=ih.1 (!tn) ops;simp only[unl,cnt];exact⟨this.1,by omega,by omega,this.2.2.2⟩
  ·simp only[unlL];exact⟨Nat.le_refl _,by simp,by simp,by simp,h1,h2⟩
 |many all l ih=>
  refine⟨fun tn ops=>?_,fun all tn ops away here h1 h2=>?_⟩
  ·have:=ih.2 all tn ops [] [] (by simp) (by simp);simp only[unl,cnt,gH];simp only[List.length_nil]at this;exact⟨this.1,by omega,by omega,this.2.2.2.2.1⟩
  ·simp only[unlL];exact⟨Nat.le_refl _,by simp,by simp,by simp,h1,h2⟩
 |mat tag oct op a b=>
  refine⟨fun tn ops=>?_,fun all tn ops away here h1 h2=>?_⟩
  ·simp[unl,cnt]
  ·simp only[unlL];exact⟨Nat.le_refl _,by simp,by simp,by simp,h1,h2⟩
 |exi a=>
  refine⟨fun tn ops=>?_,fun all tn ops away here h1 h2=>?_⟩
  ·simp[unl,cnt]
  ·simp only[unlL];exact⟨Nat.le_refl _,by simp,by simp,by simp,h1,h2⟩
 |siz tag n=>
  refine⟨fun tn ops=>?_,fun all tn ops away here h1 h2=>?_⟩
  ·simp[unl,cnt]
  ·simp only[unlL];exact⟨Nat.le_refl _,by simp,by simp,by simp,h1,h2⟩
 |tcons t l ih1 ih2=>
  refine⟨fun tn ops=>?_,fun all tn ops away here h1 h2=>?_⟩
  ·simp[unl]
  ·simp only[unlL,cnt];split
   ·have h3 := ih1.1 (!tn) ops;have h4 := ih2.2 all tn (unl t (!tn) ops).1 away (here ++ (unl t (!tn) ops).2) (fun k hk => by have := h1 k hk; omega) (fun k hk => by
     rcases List.mem_append.1 hk with h|h
     ·have:=h2 k h;omega
     ·exact h3.2.2.2 k h)
    simp only[List.length_append]at h4;exact⟨by omega,by omega,by omega,by omega,h4.2.2.2.2.1,h4.2.2.2.2.2⟩
   ·have h3 := ih1.1 tn ops;have h4 := ih2.2 all tn (unl t tn ops).1 (away ++ (unl t tn ops).2) here (fun k hk => by
     rcases List.mem_append.1 hk with h|h
     ·have:=h1 k h;omega
     ·exact h3.2.2.2 k h) (fun k hk=>by have:=h2 k hk;omega)
    simp only[List.length_append]at h4;exact⟨by omega,by omega,by omega,by omega,h4.2.2.2.2.1,h4.2.2.2.2.2⟩
 |_=>
  refine⟨fun tn ops=>?_,fun all tn ops away here h1 h2=>?_⟩
  ·simp[unl]
  ·simp only[unlL];exact⟨Nat.le_refl _,by simp,by simp,by simp,h1,h2⟩
theorem uK:∀(t:Tree),(∀ops,ops.length≤(body t ops).length∧(body t ops).length≤ops.length+2*cnt t)∧(∀ops,ops.length≤(cmdI t ops).length∧(cmdI t ops).length≤ops.length+2*cnt t)∧(∀ops out,ops.length≤(dC t ops out).length∧(dC t ops out).length≤ops.length+2*cnt t):=by
 intro t;induction t with
 |plain op=>exact⟨fun ops=>by simp[body],fun ops=>by simp[cmdI,cnt],fun ops out=>by simp[dC,gH]⟩
 |act k a p=>exact⟨fun ops=>by simp[body],fun ops=>by simp[cmdI,cnt],fun ops out=>by simp[dC,gH]⟩
 |set_ n v t=>exact⟨fun ops=>by simp[body],fun ops=>by simp[cmdI,cnt],fun ops out=>by simp[dC,gH]⟩
 |iff bs ih=>exact⟨fun ops=>by simp[body],fun ops=>by have:=ih.2.2 ops [];simp only[cmdI,cnt];omega,fun ops out=>by simp[dC,gH]⟩
 |ccons c l ih1 ih2=>
  refine⟨fun ops=>?_,fun ops=>by simp[cmdI],fun ops out=>by simp[dC,gH]⟩
  have h1:=ih1.2.1 ops;have h2:=ih2.1 (cmdI c ops);simp only[body,cnt];omega
 |belse b l ih1 ih2=>
  refine⟨fun ops=>by simp[body],fun ops=>by simp[cmdI],fun ops out=>?_⟩
  have h1:=ih1.1 ops;simp only[dC,cnt,gH];omega
 |bcons t b l ih1 ih2 ih3=>
  refine⟨fun ops=>by simp[body],fun ops=>by simp[cmdI],fun ops out=>?_⟩
  have h0:=(yL t).1 false ops;have h1:=ih2.1 (unl t false ops).1;simp only[dC,cnt];split
  ·have h2:=ih3.2.2 (land (body b (unl t false ops).1) (unl t false ops).2) out;rw[gH]at h2;omega
  ·have h2:=ih3.2.2 (land (body b (unl t false ops).1++[jmp 3]) (unl t false ops).2) (out++[(body b (unl t false ops).1).length]);rw[gH]at h2;simp only[List.length_append,List.length_singleton]at h2;omega
 |_=>exact⟨fun ops=>by simp[body],fun ops=>by simp[cmdI],fun ops out=>by simp[dC,gH]⟩
end Go.Cmp
end
section
namespace Go.Cmp
open Go Go.SL Go.Syn Go.Mach
structure InsV where
 op:Int
 n:Int
 tag:Int
 oct:Bool
 a:Cell
 b:Cell
 at_:Int
def nilC:Cell:=⟨.slice none 0 0,rfl⟩
def gO:El InsV:={e:=41,sz:=7,enc:=fun v=>[i64 v.op,i64 v.n,i64 v.tag,.bool v.oct,v.a.1,v.b.1,i64 v.at_],len:=fun _=>rfl,one:=fun v u h=>by simp at h;rcases h with rfl|rfl|rfl|rfl|rfl|rfl|rfl;rfl;rfl;rfl;rfl;exact v.a.2;exact v.b.2;rfl}
def jL(e:TypeId):El Nat:={e:=e,sz:=1,enc:=fun n=>[i64 n],len:=fun _=>rfl,one:=fun _ u h=>by simp at h;subst h;rfl}
def RIns(K:Hl)(v:InsV)(o:Ins):Prop:=v.op=o.op∧v.n=o.n∧v.tag=o.tag∧v.oct=o.oct∧v.at_=o.at_∧Ksl (bT 9) K v.a.1 o.a∧Ksl (bT 9) K v.b.1 o.b
def RIs(K:Hl):List InsV→List Ins→Prop
 | [],[]=>True
 |v::vs,o::os=>RIns K v o∧RIs K vs os
 |_,_=>False
theorem RIns.mono{K K':Hl}{v:InsV}{o:Ins}(h:RIns K v o)(le:K.le K'):RIns K' v o:=⟨h.1,h.2.1,h.2.2.1,h.2.2.2.1,h.2.2.2.2.1,h.2.2.2.2.2.1.mono le,h.2.2.2.2.2.2.mono le⟩
theorem RIs.mono{K K':Hl}(le:K.le K'):∀ {vs:List InsV} {os:List Ins},RIs K vs os→RIs K' vs os
 | [],[],_=>trivial
 |_::_,_::_,h=>⟨h.1.mono le,RIs.mono le h.2⟩
theorem RIs.length{K:Hl}:∀ {vs:List InsV} {os:List Ins},RIs K vs os→vs.length=os.length
 | [],[],_=>rfl
 |_::_,_::_,h=>by simp[RIs.length h.2]
theorem RIs.append{K:Hl}{ws:List InsV}{ps:List Ins}(h2:RIs K ws ps):∀ {vs:List InsV} {os:List Ins},RIs K vs os→RIs K (vs++ws) (os++ps)
 | [],[],_=>h2
 |_::_,_::_,h=>⟨h.1,RIs.append h2 h.2⟩
theorem RIs.get{K:Hl}:∀ {vs:List InsV} {os:List Ins} {i:Nat} {v:InsV},RIs K vs os→vs[i]?=some v→∃o,os[i]?=some o∧RIns K v o
 |_::_,o::_,0,_,h,e=>by simp at e;subst e;exact⟨o,rfl,h.1⟩
 |_::_,_::_,i+1,_,h,e=>by simpa using RIs.get h.2 (by simpa using e)
def nC(vs:List InsV)(k:Nat)(n:Int):List InsV:=vs.modify k fun o=>{o with n:=n}
def vB(vs:List InsV)(ps:List Nat):List InsV:=ps.foldl (fun o k=>nC o k ((vs.length:Int) - 1 - k)) vs
theorem RIs.setN{K:Hl}{n:Int}:∀ {vs:List InsV} {os:List Ins} {k:Nat},RIs K vs os→RIs K (nC vs k n) (Cmp.setN os k n)
 | [],[],k,_=>by
  have e1:nC [] k n=[]:=List.eq_nil_of_length_eq_zero (by simp[nC]);have e2:Cmp.setN [] k n=[]:=List.eq_nil_of_length_eq_zero (by simp[Cmp.setN]);rw[e1,e2];trivial
 |v::vs,o::os,0,h=>⟨⟨h.1.1,rfl,h.1.2.2.1,h.1.2.2.2.1,h.1.2.2.2.2.1,h.1.2.2.2.2.2.1,h.1.2.2.2.2.2.2⟩,h.2⟩
 |v::vs,o::os,k+1,h=>⟨h.1,RIs.setN (k:=k) h.2⟩
theorem RIs.land{K:Hl}{vs:List InsV}{os:List Ins}{ps:List Nat}(h:RIs K vs os):RIs K (vB vs ps) (Cmp.land os ps):=by
 unfold vB Cmp.land;rw[←h.length]
 generalize ((vs.length:Nat):Int)=m
 revert vs os
 induction ps with
 |nil=>intro vs os h;exact h
 |cons k ps ih=>intro vs os h;exact ih h.setN
theorem aES(vs:List InsV)(k:Nat)(n:Int):(nC vs k n).length=vs.length:=by simp[nC]
theorem aI3{vs:List InsV}{ps:List Nat}{i p:Nat}{m:Int}(h:ps[i]?=some p):(ps.take (i+1)).foldl (fun o k=>nC o k (m - 1 - k)) vs=nC ((ps.take i).foldl (fun o k=>nC o k (m - 1 - k)) vs) p (m - 1 - p):=by
 have hi:i < ps.length:=by
  rcases Nat.lt_or_ge i ps.length with h'|h'
  ·exact h'
  ·simp[List.getElem?_eq_none h']at h
 have hc:ps[i]=p:=by simpa[List.getElem?_eq_getElem hi]using h
 rw[List.take_succ_eq_append_getElem hi,hc];simp
theorem u6(m:Int):∀(ps:List Nat) (o:List InsV),(ps.foldl (fun o k=>nC o k (m - 1 - k)) o).length=o.length:=by
 intro ps;induction ps with
 |nil=>intro o;rfl
 |cons k ps ih=>intro o;rw[List.foldl_cons,ih,aES]
theorem hO(vs:List InsV)(ps:List Nat):(vB vs ps).length=vs.length:=u6 _ ps vs
theorem aNX{vs:List InsV}{k:Nat}{n:Int}{v:InsV}(h:vs[k]?=some v):nC vs k n=vs.set k {v with n:=n}:=by
 unfold nC;have hi:k < vs.length:=by
  rcases Nat.lt_or_ge k vs.length with h'|h'
  ·exact h'
  ·simp[List.getElem?_eq_none h']at h
 have hc:vs[k]=v:=by simpa[List.getElem?_eq_getElem hi]using h
 apply List.ext_getElem (by simp)
 intro i h1 h2;rw[List.getElem_modify,List.getElem_set];split
 ·rename_i e;subst e;rw[hc]
 ·rfl
def cdr(b:Nat)(vs:List InsV):Asn:=exA fun cv=>[pt b (aU [cv] 217),sl false gO cv vs]
theorem aEQ{b:Nat}{vs:List InsV}{cv:Value}{M:List Asn}:∀h,Sat (pt b (aU [cv] 217)::sl false gO cv vs::M) h→Sat (cdr b vs::M) h:=fun h hh=>sL.2 ⟨cv,hh⟩
end Go.Cmp
end
section
namespace Go.Mach
open Go Go.SL Go.Syn
def iE:List (aM×aM)→(Nat→Nat)→List Ent
 | [],_=>[]
 |(k,v)::r,f=>(k,.agg #[str v],f 0)::iE r (fun n=>f (n+1))
theorem aOY(k:aM):∀(vars:List (aM×aM)) (f:Nat→Nat),(mget (iE vars f) k).getD (.agg #[str []])=.agg #[str (vget vars k)]:=by
 intro vars;induction vars with
 |nil=>intro f;rfl
 |cons p r ih=>
  obtain⟨j,v⟩:=p;intro f;unfold iE vget mget;rw[List.find?_cons]
  by_cases h:k=j
  ·subst h;simp
  ·rw[if_neg (fun e=>h e.symm),decide_eq_false h];exact ih _
theorem aOZ(k v:aM)(c:Nat):∀(vars:List (aM×aM)) (f:Nat→Nat),∃f',mset k (.agg #[str v]) c (iE vars f)=iE (vput vars k v) f':=by
 intro vars;induction vars with
 |nil=>intro f;exact⟨fun _=>c,rfl⟩
 |cons p r ih=>
  obtain⟨j,u⟩:=p;intro f;unfold iE vput mset
  by_cases h:k=j
  ·subst h;rw[if_pos rfl,if_pos rfl];exact⟨f,rfl⟩
  ·rw[if_neg h,if_neg (fun e=>h e.symm)];obtain⟨f',hf⟩:=ih (fun n=>f (n+1));refine⟨fun n=>match n with|0=>f 0|n+1=>f' n,?_⟩
   rw[hf]
theorem aEB(s:aM)(c:UInt8): -1≤Lib.indexByte s c∧Lib.indexByte s c < s.length:=by
 refine⟨Lib.indexByte_ge s c,?_⟩
 by_cases h:Lib.indexByte s c < 0
 ·omega
 ·have e:Lib.indexByte s c=((Lib.indexByte s c).toNat:Nat):=by omega
  obtain⟨h1,_⟩:=Lib.indexByte_some e;rcases Nat.lt_or_ge (Lib.indexByte s c).toNat s.length with h'|h'
  ·omega
  ·rw[List.getElem?_eq_none h']at h1;cases h1
end Go.Mach
end
section
namespace Go.Proofs
open Go Go.SL Go.Syn
theorem rM(v:Value)(x:List UInt8)(xs:List (List UInt8))(K:Hl)(L:List Asn)(hv:SeesSl (bT 9) K L v xs)(hn:xs.length≤1000000):
  Sp Tryz.prog 195 [v,str x] K L (Ret fun u K' L'=>u=i64 (cT xs x)∧K'=K∧L'=L):=by
 refine aZ Tryz.func195 rfl Tryz.ntmps195 rfl rfl fun F w=>?_
 refine aH (aB ?_);refine uAb ?_;refine aG (aE ?_);refine aH (aH ?_);refine uAf ?_;refine aA (cB (k:=bT 9) rfl Tryz.underlying39 rfl hv) rfl ?_;refine uAa ?_;refine aG (aE ?_);refine bE ?_;refine eR (fun(i:Nat)=>i≤xs.length∧∀j:Nat,j < i→xs[j]?≠some x) (fun i=>[(0,v),(1,str x),(7,i64 xs.length),(8,i64 i)]) (fun _=>K) (fun _=>L) (fun i=>xs.length - i) 0 ⟨Nat.zero_le _,fun j h=>by omega⟩ (.cons 0 rfl (.cons 1 rfl (.cons 7 rfl (.cons 8 rfl .nil)))) rfl (fun _ h=>h) ?_;intro i ⟨hi1,hi2⟩;refine aH (aB ?_);refine uBn ?_;refine aG (aE ?_);refine aH ?_;refine bK 9 rfl (fun h9=>?_) (fun h9=>?_)
 ·
  obtain⟨y,hy⟩:∃y,xs[i]?=some y:=⟨xs[i]'(by omega),List.getElem?_eq_getElem aI⟩;have hlen:i < xs.length:=by omega
  refine aW ?_;refine aE (aH ?_);refine bE (aH ?_);refine uFz ?_;refine aG (aE ?_);refine aH (aB ?_);refine uEg ?_;refine aA (b0 (k:=bT 9) cX rfl hv rfl rfl hlen) rfl ?_;refine aA (dW (o:=0) (k:=bT 9) ts9 rfl hv hy rfl) rfl ?_;refine uIl ?_;refine aG (aE ?_);refine bK 16 rfl (fun h16=>?_) (fun h16=>?_)
  ·
   refine aH (aB ?_);refine uEj ?_;refine aG (aE ?_);refine uEk ?_;refine bF rfl rfl (Hl.le_refl _) ?_;exact⟨_,rfl,by rw[aNN hi2 (h16▸hy)],rfl,rfl⟩
  ·
   refine aW ?_;refine aN (aE ?_);refine uDj ?_;refine cQ (i+1) ⟨by omega,?_⟩ aI (.cons 0 rfl (.cons 1 rfl (.cons 7 rfl (.cons 8 rfl .nil)))) rfl (fun _ h=>h)
   intro j hj e
   by_cases hji:j=i
   ·subst hji;rw[hy]at e;exact h16 (Option.some.inj e).symm
   ·exact hi2 j aI e
 ·
  refine uAp ?_;refine aE (aH ?_);refine uFr ?_;refine aG (aE ?_);refine bI ?_;refine bF rfl rfl (Hl.le_refl _) ?_;exact⟨_,rfl,by rw[aNQ (fun j hj=>hi2 j aI)],rfl,rfl⟩
theorem lM(v:Value)(x:List UInt8)(xs:List (List UInt8))(K:Hl)(L:List Asn)(hv:SeesSl (bT 9) K L v xs)(hn:xs.length≤1000000):
  Sp Tryz.prog 108 [v,str x] K L (Ret fun u K' L'=>u=.bool (decide (x∈xs))∧K'=K∧L'=L):=by
 refine aZ Tryz.func108 rfl Tryz.ntmps108 rfl rfl fun F w=>?_
 refine aH (aB ?_);refine uAb ?_;refine aG (aE ?_);refine aH (aB ?_);refine uAx ?_;refine bC rfl rfl (rM v x xs _ _ hv hn) (cS _) rfl ?_;rintro _ K _ ⟨rfl,rfl,rfl⟩ -;refine uEl ?_;refine uAb ?_;refine aG (aE ?_);refine bI ?_;rw[List.append_nil];refine bF rfl rfl (Hl.le_refl _) ?_;exact⟨_,rfl,by rw[decide_eq_decide.2 (aJE xs x)],rfl,rfl⟩
abbrev psb(b:Nat)(s:List UInt8)(st:St)(rest:List Value):Asn:=lxw b 208 s st.1 st.2 rest
theorem aGB(b:Nat)(x:List UInt8)(xs:List (List UInt8))(l:List Value)(T:TypeId)(nv:Value)(K:Hl)(L:List Asn)(hb:Sees K L b (aU l T))(hl:l[6]?=some nv)(hv:SeesSl (bT 9) K L nv xs)(hn:xs.length≤1000000):
  Sp Tryz.prog 59 [ptr b 6,str x] K L (Ret fun u K' L'=>u=.bool (decide (x∈xs))∧K'=K∧L'=L):=by
 refine aZ Tryz.func59 rfl Tryz.ntmps59 rfl rfl fun F w=>?_
 refine aH (aB ?_);refine uAb ?_;refine aG (aE ?_);refine aH (aB ?_);refine uBz ?_;refine aA (aD (o':=6) sP rfl rfl) rfl ?_;refine aA (aJ ts39 rfl hb hl) rfl ?_;refine uAa ?_;refine bC rfl rfl (lM nv x xs _ _ hv hn) (cS _) rfl ?_;rintro _ K _ ⟨rfl,rfl,rfl⟩ -;refine uAb ?_;refine aG (aE ?_);refine bI ?_;rw[List.append_nil];refine bF rfl rfl (Hl.le_refl _) ?_;exact⟨_,rfl,rfl,rfl,rfl⟩
theorem iA(b:Nat)(s:List UInt8)(st:St)(rest:List Value)(K:Hl):
  Sp Tryz.prog 106 [ptr b] K [psb b s st rest] (Flt 4 st.2.at_):=by
 refine aZ Tryz.func106 rfl Tryz.ntmps106 rfl rfl fun F w=>?_
 refine uGp ?_;refine uBe ?_;refine aY rfl rfl (eM 4 st.2.at_ _) .nil rfl (by rintro _ _ ⟨_,h,_⟩;cases h) ?_ ?_
 ·
  rintro _ _ _ ⟨fb,h,rfl⟩ le1;cases h
  refine uAg ?_;refine bJ bU ?_;exact⟨fb,rfl,rfl⟩
 ·
  rintro _ _ _ ⟨_,h,_⟩;cases h
theorem tW(b:Nat)(s:List UInt8)(st:St)(nv:Value)(rest:List Value)(needs:List (List UInt8))(x:List UInt8)(K:Hl)(hv:Ksl (bT 9) K nv needs)(hn:needs.length≤1000000):
  Sp Tryz.prog 261 [ptr b,str x] K [psb b s st (nv::rest)] (fT (if x∈needs then .ok ()else .error (6,st.2.at_)) fun _ v K' L'=>v=.tuple #[]∧K'=K∧L'=[psb b s st (nv::rest)]):=by
 refine aZ Tryz.func261 rfl Tryz.ntmps261 rfl rfl fun F w=>?_
 refine aH (aB ?_);refine uBz ?_;refine uFt ?_;refine uAa ?_;refine bC rfl rfl (aGB b x needs _ _ nv _ _ (.own .here) rfl (.known hv) hn) (.cons .here .nil) rfl ?_;rintro _ K _ ⟨rfl,rfl,rfl⟩ -;refine aA (by first|exact dP rfl|exact dO rfl) rfl ?_;refine aG (aE ?_);refine bK 9 rfl (fun h9=>?_) (fun h9=>?_)
 ·
  refine uGp ?_;refine uBe ?_;refine aY rfl rfl (eM 6 st.2.at_ _) .nil rfl (by rintro _ _ ⟨_,h,_⟩;cases h) ?_ ?_
  ·
   rintro _ _ _ ⟨fb,h,rfl⟩ le1;cases h
   refine uAg ?_;refine bJ bU ?_;rw[if_neg h9];exact⟨fb,rfl,rfl⟩
  ·
   rintro _ _ _ ⟨_,h,_⟩;cases h
 ·
  refine aW ?_;refine dD rfl (Hl.le_refl _) ?_;rw[if_pos (Classical.not_not.1 h9)];exact⟨_,rfl,rfl,rfl,rfl⟩
abbrev wagg(w:Word):Value:=.agg #[.int .u8 w.kind,str w.s,i64 w.n,i64 w.at_]
theorem aCT{s:List UInt8}{st:St}{k:Nat}{texts:List (List UInt8)}(h:¬(st.2.kind:Int)=k):take s st k texts=.error (4,st.2.at_):=by
 unfold take;rw[if_pos (.inl aI)]
theorem aCU{s:List UInt8}{st:St}{k:Nat}{texts:List (List UInt8)}(h:0 < (texts.length:Int))(hm:¬st.2.s∈texts):take s st k texts=.error (4,st.2.at_):=by
 unfold take;rw[if_pos (.inr ⟨by rintro rfl;simp at h,hm⟩)]
theorem oW{s:List UInt8}{st:St}{k:Nat}{texts:List (List UInt8)}(h:¬ ¬(st.2.kind:Int)=k)(hm:¬0 < (texts.length:Int)∨¬ ¬st.2.s∈texts):
  take s st k texts=match Syn.next s st.1 with| .error e=>.error e| .ok r=>.ok (st.2,r):=by
 have hn:¬(st.2.kind≠k∨(texts≠[]∧st.2.s∉texts)):=by
  rintro(h1|⟨h1,h2⟩)
  ·omega
  ·rcases hm with hm|hm
   ·exact h1 (List.length_eq_zero_iff.1 aI)
   ·exact hm h2
 unfold take;exact(if_neg hn).trans (by cases Syn.next s st.1 <;> rfl)
theorem mG(b:Nat)(s:List UInt8)(st:St)(rest:List Value)(k:Nat)(tv:Value)(texts:List (List UInt8))(K:Hl)(hs:s.length≤600)(ha:st.1≤s.length)(hg:Glob K)(hv:Ksl (bT 9) K tv texts)(hn:texts.length≤1000000):
  Sp Tryz.prog 179 [ptr b,.int .u8 k,tv] K [psb b s st rest] (fT (take s st k texts) fun r v K' L'=>v=wagg r.1∧K'=K∧L'=[psb b s r.2 rest]):=by
 refine aZ Tryz.func179 rfl Tryz.ntmps179 rfl rfl fun F w=>?_
 refine aH (aB ?_);refine ol_s (cN aVV) rfl ?_;rintro _ K _ ⟨b6,rfl,rfl,rfl⟩ -;refine aG (aE ?_);refine aH (aB ?_);refine uEi ?_;refine aA (aD (o':=2) cM rfl rfl) rfl ?_;refine aA (bX nL rfl aL rfl rfl) rfl ?_;refine ol_s (cN aVV) rfl ?_;rintro _ K _ ⟨b7,rfl,rfl,rfl⟩ -;refine bP (cJ nL rfl rfl rfl aX (by first|(simp[Value.oneCell'];done)|exact fun c hc=>El.one _ _ c hc) (.cons (.cons (.cons (.cons .nil)))) (by intro j hj;simp)) ?_;rintro _ K _ ⟨rfl,rfl⟩ -;refine aG (aE ?_);refine aH (aH ?_);refine aB ?_;refine aA (aD (o':=0) eU rfl rfl) rfl ?_;refine aA (aJ lV rfl aL rfl) rfl ?_;refine uAa ?_;refine uDu ?_;refine uAa ?_;refine cG 17 rfl (fun g17=>?_) (fun g17=>?_)
 ·
  refine uAc ?_;refine uIt ?_;refine uDm ?_;refine uDm ?_;refine gV rfl rfl rfl ?_;refine uIt ?_;refine uAy ?_;refine aG (aE ?_);refine uGe ?_;refine uAf ?_;refine aY rfl rfl (iA b s st rest _) (.cons (.there (.there .here)) .nil) rfl (by rintro _ _ ⟨_,h,_⟩;cases h) ?_ ?_
  ·
   rintro _ _ _ ⟨fb,h,rfl⟩ le1;cases h
   refine uAr ?_
   first
    |rw[aCT g17]
    |rw[aCU g21 h28]
   exact⟨fb,rfl,rfl⟩
  ·
   rintro _ _ _ ⟨_,h,_⟩;cases h
 ·
  refine uAi ?_;refine aA (cB (k:=bT 9) rfl Tryz.underlying39 rfl (.known hv)) rfl ?_;refine uAz ?_;refine uEr ?_;refine uHx ?_;refine cG 21 rfl (fun g21=>?_) (fun g21=>?_)
  ·
   refine uAi ?_;refine aA (aD (o':=1) fQ rfl rfl) rfl ?_;refine uAz ?_;refine uBl ?_;refine uAz ?_;refine bC rfl rfl (lM tv st.2.s texts _ [] (.known hv) hn) .nil rfl ?_;rintro _ K _ ⟨rfl,rfl,rfl⟩ -;refine uAz ?_;refine aA (by first|exact dP rfl|exact dO rfl) rfl ?_;refine uAz ?_;refine uAy ?_;refine uAt ?_;refine aG (aE ?_);refine bK 28 rfl (fun h28=>?_) (fun h28=>?_)
   ·
    refine uAf ?_;refine aY rfl rfl (iA b s st rest _) (.cons (.there (.there .here)) .nil) rfl (by rintro _ _ ⟨_,h,_⟩;cases h) ?_ ?_
    ·
     rintro _ _ _ ⟨fb,h,rfl⟩ le1;cases h
     refine uAr ?_
     first
      |rw[aCT g17]
      |rw[aCU g21 h28]
     exact⟨fb,rfl,rfl⟩
    ·
     rintro _ _ _ ⟨_,h,_⟩;cases h
   ·
    refine aW ?_;refine aE (aH ?_);refine uGp ?_;refine aY rfl rfl (dL b 208 s st.1 _ _ _ _ rest hs ha _ hg) (.cons (.there (.there .here)) .nil) rfl (fun _ _=>a8 _ _) ?_ ?_
    ·
     rintro _ _ _ hT2 le1;obtain⟨e,p,hr,fb,h,rfl⟩:=bA hT2;cases h
     refine uAr ?_
     first
      |rw[oW g17 (.inr h28),hr]
      |rw[oW g17 (.inl g21),hr]
     exact⟨fb,rfl,rfl⟩
    rintro _ K _ hT2 -;obtain⟨r,hr,rfl,rfl,rfl⟩:=bB hT2;refine aG (aE ?_);refine aH (aB ?_);refine aA (bX nL rfl aL rfl rfl) rfl ?_;refine bP (cJ nL rfl rfl rfl aX (by first|(simp[Value.oneCell'];done)|exact fun c hc=>El.one _ _ c hc) (.cons (.cons (.cons (.cons .nil)))) (by intro j hj;simp)) ?_;rintro _ K _ ⟨rfl,rfl⟩ -;refine aG (aE ?_);refine bI ?_;refine vX rfl rfl nL aL rfl rfl (Hl.le_refl _) (.cons (by first|exact .here|exact .there .here|exact .there (.there .here)) .nil) ?_
    first
     |rw[oW g17 (.inr h28),hr]
     |rw[oW g17 (.inl g21),hr]
    exact⟨_,rfl,rfl,rfl,rfl⟩
  ·
   refine uAc ?_;refine uBj ?_;refine uAz ?_;refine uAt ?_;refine uAt ?_;refine aG (aE ?_);refine uBf ?_;refine aE (aH ?_);refine uGp ?_;refine aY rfl rfl (dL b 208 s st.1 _ _ _ _ rest hs ha _ hg) (.cons (.there (.there .here)) .nil) rfl (fun _ _=>a8 _ _) ?_ ?_
   ·
    rintro _ _ _ hT2 le1;obtain⟨e,p,hr,fb,h,rfl⟩:=bA hT2;cases h
    refine uAr ?_
    first
     |rw[oW g17 (.inr h28),hr]
     |rw[oW g17 (.inl g21),hr]
    exact⟨fb,rfl,rfl⟩
   rintro _ K _ hT2 -;obtain⟨r,hr,rfl,rfl,rfl⟩:=bB hT2;refine aG (aE ?_);refine aH (aB ?_);refine aA (bX nL rfl aL rfl rfl) rfl ?_;refine bP (cJ nL rfl rfl rfl aX (by first|(simp[Value.oneCell'];done)|exact fun c hc=>El.one _ _ c hc) (.cons (.cons (.cons (.cons .nil)))) (by intro j hj;simp)) ?_;rintro _ K _ ⟨rfl,rfl⟩ -;refine aG (aE ?_);refine bI ?_;refine vX rfl rfl nL aL rfl rfl (Hl.le_refl _) (.cons (by first|exact .here|exact .there .here|exact .there (.there .here)) .nil) ?_
   first
    |rw[oW g17 (.inr h28),hr]
    |rw[oW g17 (.inl g21),hr]
   exact⟨_,rfl,rfl,rfl,rfl⟩
theorem Glob.mono{K K':Hl}(h:Glob K)(le:K.le K'):Glob K':=⟨let ⟨m,T,fz,e⟩:=h.maxLen;⟨m,T,fz,le _ _ e⟩,fun w l=>h.pow10 w (Hl.le_trans le l)⟩
theorem aCP(b:Nat)(s:List UInt8)(st:St)(rest:List Value)(x:List UInt8)(K:Hl)(hs:s.length≤600)(ha:st.1≤s.length)(hg:Glob K):
  Sp Tryz.prog 104 [ptr b,str x] K [psb b s st rest] (fT (Syn.sign s st x) fun r v _ L'=>v=.tuple #[]∧L'=[psb b s r rest]):=by
 refine aZ Tryz.func104 rfl Tryz.ntmps104 rfl rfl fun F w=>?_
 refine uCf ?_;refine ol_s (bN (z0:=[(str [])]) cX tz9 rfl rfl rfl rfl (.cons rfl rfl rfl (.cons .nil) .nil)) rfl ?_;rintro _ K _ ⟨b6,rfl,rfl,rfl⟩ -;refine fD fun K1 le1 hK1=>?_
 refine aY rfl rfl (mG b s st rest 5 _ [x] _ hs ha (hg.mono le1) (.inr ⟨b6,0,1,[str x],(0,0),rfl,⟨_,hK1⟩,rfl⟩) (by simp)) (.cons .here .nil) rfl (fun _ _=>a8 _ _) ?_ ?_
 ·
  rintro _ _ _ hT2 le2;obtain⟨e,p,hr,fb,h,rfl⟩:=bA hT2;cases h
  refine uAg ?_;refine bJ (Hl.le_trans le1 le2) ?_;unfold Syn.sign;rw[hr];exact⟨fb,rfl,rfl⟩
 rintro _ K2 _ hT2 le2;obtain⟨r,hr,rfl,rfl,rfl⟩:=bB hT2;refine aG ?_;refine dD rfl le1 ?_;unfold Syn.sign;rw[hr];exact⟨_,rfl,rfl,rfl⟩
theorem zC(b:Nat)(s:List UInt8)(st:St)(rest:List Value)(x:List UInt8)(K:Hl)(hs:s.length≤600)(ha:st.1≤s.length)(hg:Glob K):
  Sp Tryz.prog 190 [ptr b,str x] K [psb b s st rest] (fT (eat s st x) fun r v K' L'=>v=.bool r.1∧K'=K∧L'=[psb b s r.2 rest]):=by
 refine aZ Tryz.func190 rfl Tryz.ntmps190 rfl rfl fun F w=>?_
 refine aH (aB ?_);refine uAb ?_;refine aG (aE ?_);refine aH (aB ?_);refine uAa ?_;refine uBb ?_;refine uHf ?_;refine cG 13 rfl (fun g13=>?_) (fun g13=>?_)
 ·
  refine uAi ?_;refine uBq ?_;refine uAi ?_;refine uIl ?_;refine uDv ?_;refine aG (aE ?_);refine aH (aH ?_);refine uAf ?_;refine aG (aE ?_);refine bK 23 rfl (fun h23=>?_) (fun h23=>?_)
  ·
   refine uGp ?_;refine aY rfl rfl (dL b 208 s st.1 _ _ _ _ rest hs ha _ hg) (.cons .here .nil) rfl (fun _ _=>a8 _ _) ?_ ?_
   ·
    rintro _ _ _ hT2 le1;obtain⟨e,p,hr,fb,h,rfl⟩:=bA hT2;cases h
    refine uAr ?_;unfold eat;rw[if_pos ⟨by omega,h23⟩,hr];exact⟨fb,rfl,rfl⟩
   rintro _ K _ hT2 -;obtain⟨r,hr,rfl,rfl,rfl⟩:=bB hT2;refine aG (aE ?_);refine aH (aB ?_);refine uEj ?_;refine aG (aE ?_);refine bI ?_;refine bF rfl rfl (Hl.le_refl _) ?_;unfold eat
   first
    |(rw[if_pos ⟨by omega,h23⟩,hr];exact⟨_,rfl,by rw[decide_eq_true h23],rfl,rfl⟩)
    |(rw[if_neg (fun h=>h23 h.2)];exact⟨_,rfl,by rw[decide_eq_false h23],rfl,rfl⟩)
    |(rw[if_neg aI];exact⟨_,rfl,rfl,rfl,rfl⟩)
  ·
   refine aW ?_;refine aE (aH ?_);refine uFz ?_;refine aG (aE ?_);refine bI ?_;refine bF rfl rfl (Hl.le_refl _) ?_;unfold eat
   first
    |(rw[if_pos ⟨by omega,h23⟩,hr];exact⟨_,rfl,by rw[decide_eq_true h23],rfl,rfl⟩)
    |(rw[if_neg (fun h=>h23 h.2)];exact⟨_,rfl,by rw[decide_eq_false h23],rfl,rfl⟩)
    |(rw[if_neg aI];exact⟨_,rfl,rfl,rfl,rfl⟩)
 ·
  refine uAc ?_;refine uAc ?_;refine uGo ?_;refine uAb ?_;refine aG (aE ?_);refine aH (aH ?_);refine uAf ?_;refine aG (aE ?_);refine uBf ?_;refine aE (aH ?_);refine uFz ?_;refine aG (aE ?_);refine bI ?_;refine bF rfl rfl (Hl.le_refl _) ?_;unfold eat
  first
   |(rw[if_pos ⟨by omega,h23⟩,hr];exact⟨_,rfl,by rw[decide_eq_true h23],rfl,rfl⟩)
   |(rw[if_neg (fun h=>h23 h.2)];exact⟨_,rfl,by rw[decide_eq_false h23],rfl,rfl⟩)
   |(rw[if_neg aI];exact⟨_,rfl,rfl,rfl,rfl⟩)
theorem j5(b:Nat)(s:List UInt8)(st:St)(rest:List Value)(fn:FuncId)(caps:Array Value)(ff:List UInt8→Int)(K:Hl)(hs:s.length≤600)(ha:st.1≤s.length)(hw:st.2.s.length≤s.length)(hg:Glob K)
  (hf:∀x:List UInt8,x.length≤600→Sp Tryz.prog fn (str x::caps.toList) K [] (Val (i64 (ff x)) K)):
  Sp Tryz.prog 191 [ptr b,.func (.func fn) #[] caps] K [psb b s st rest] (fT (Syn.text s st ff) fun r v K' L'=>v=str r.1∧K'=K∧L'=[psb b s r.2 rest]):=by
 refine aZ Tryz.func191 rfl Tryz.ntmps191 rfl rfl fun F w=>?_
 refine aH (aB ?_);refine uAb ?_;refine aG (aE ?_);refine aH (aH ?_);refine uAf ?_;refine uBb ?_;refine uAq ?_;refine aG (aE ?_);refine bK 12 rfl (fun h12=>?_) (fun h12=>?_)
 ·
  refine aH (aB ?_);refine uAx ?_;refine uAm ?_;refine uGl ?_;refine cA rfl rfl (hf st.2.s aI) rfl ?_;refine uAb ?_;refine aG (aE ?_);refine aH (aB ?_);refine uAa ?_;refine uDu ?_;refine aG (aE ?_);refine bK 22 rfl (fun h22=>?_) (fun h22=>?_)
  ·
   refine uCf ?_;refine uAm ?_;refine uBe ?_;refine aY rfl rfl (eM (ff st.2.s) st.2.at_ _) .nil rfl (by rintro _ _ ⟨_,h,_⟩;cases h) ?_ ?_
   ·
    rintro _ _ _ ⟨fb,h,rfl⟩ le1;cases h
    refine uAr ?_;unfold Syn.text;rw[if_pos ⟨by omega,by omega⟩];exact⟨fb,rfl,rfl⟩
   ·
    rintro _ _ _ ⟨_,h,_⟩;cases h
  ·
   refine aW ?_;refine aE (aH ?_);refine uAf ?_;refine aY rfl rfl (mG b s st rest 3 _ [] _ hs ha hg (.inl ⟨none,0,rfl,rfl⟩) (by simp)) (.cons .here .nil) rfl (fun _ _=>a8 _ _) ?_ ?_
   ·
    rintro _ _ _ hT2 le1;obtain⟨e,p,hr,fb,h,rfl⟩:=bA hT2;cases h
    refine uAr ?_;unfold Syn.text;rw[if_neg aI,hr];exact⟨fb,rfl,rfl⟩
   rintro _ K _ hT2 -;obtain⟨r,hr,rfl,rfl,rfl⟩:=bB hT2;refine uIk ?_;refine uAb ?_;refine aG (aE ?_);refine bI ?_;refine bF rfl rfl (Hl.le_refl _) ?_;unfold Syn.text;rw[if_neg aI,hr];exact⟨_,rfl,rfl,rfl,rfl⟩
 ·
  refine aW ?_;refine aE (aH ?_);refine uAf ?_;refine aY rfl rfl (mG b s st rest 3 _ [] _ hs ha hg (.inl ⟨none,0,rfl,rfl⟩) (by simp)) (.cons .here .nil) rfl (fun _ _=>a8 _ _) ?_ ?_
  ·
   rintro _ _ _ hT2 le1;obtain⟨e,p,hr,fb,h,rfl⟩:=bA hT2;cases h
   refine uAr ?_;unfold Syn.text;rw[if_neg aI,hr];exact⟨fb,rfl,rfl⟩
  rintro _ K _ hT2 -;obtain⟨r,hr,rfl,rfl,rfl⟩:=bB hT2;refine uIk ?_;refine uAb ?_;refine aG (aE ?_);refine bI ?_;refine bF rfl rfl (Hl.le_refl _) ?_;unfold Syn.text;rw[if_neg aI,hr];exact⟨_,rfl,rfl,rfl,rfl⟩
end Go.Proofs
end
section
namespace Go.Proofs
open Go Go.SL Go.Syn
theorem aRZ(b:Nat)(x:List UInt8):∀h,pt b (aU [str x] 9) h→sl false (bT 9) (.slice (some ⟨b,0,none⟩) 1 1) [x] h:=
 vH (k:=bT 9) (xs:=[x]) (cells:=[str x]) (Nat.le_refl _) rfl rfl (.inl (Nat.le_refl _)) (fun h=>by cases h)
theorem aMU(b:Nat)(s:List UInt8)(st:St)(rest:List Value)(fn:FuncId)(caps:Array Value)(ff:List UInt8→Int)(K:Hl)(hs:s.length≤600)(hok:Ok s st)(hg:Glob K)
  (hf:∀x:List UInt8,x.length≤600→Sp Tryz.prog fn (str x::caps.toList) K [] (Val (i64 (ff x)) K)):
  Sp Tryz.prog 102 [ptr b,.func (.func fn) #[] caps] K [psb b s st rest] (fT (Syn.list s st ff) fun r v _ L'=>L'=[sl false (bT 9) v r.1,psb b s r.2 rest]):=by
 refine aZ Tryz.func102 rfl Tryz.ntmps102 rfl rfl fun F w=>?_
 have ha:=hok.1;refine aH (aB ?_);refine uAb ?_;refine aG (aE ?_);refine aH (aH ?_);refine uAf ?_;refine aY rfl rfl (zC b s st rest [91] _ hs ha hg) (.cons .here .nil) rfl (fun _ _=>a8 _ _) ?_ ?_
 ·
  rintro _ _ _ hT2 le1;obtain⟨e,p,hr,fb,h,rfl⟩:=bA hT2;cases h
  refine uEf ?_;refine aK ?_;refine bJ bU ?_;unfold Syn.list;rw[hr];exact⟨fb,rfl,rfl⟩
 rintro _ K _ hT2 -;obtain⟨r,hr,rfl,rfl,rfl⟩:=bB hT2;obtain⟨hr1,hr2,hr3⟩:=vY ha hr;have hro:=vZ hok hr;refine aA (by first|exact dP rfl|exact dO rfl) rfl ?_;refine aG (aE ?_);refine eJ 8 rfl (fun h8=>?_) (fun h8=>?_)
 ·
  refine aH (aB ?_);refine uAx ?_;refine aY rfl rfl (j5 b s r.2 rest fn caps ff _ hs hr1 hro.2 hg hf) (.cons .here .nil) rfl (fun _ _=>a8 _ _) ?_ ?_
  ·
   rintro _ _ _ hT3 le1;obtain⟨e,p,hq,fb,h,rfl⟩:=bA hT3;cases h
   refine uEf ?_;refine aK ?_;refine bJ bU ?_;unfold Syn.list;rw[hr];simp only[];rw[hq];exact⟨fb,rfl,rfl⟩
  rintro _ K _ hT3 -;obtain⟨q,hq,rfl,rfl,rfl⟩:=bB hT3;obtain⟨hq1,hq2⟩:=jP hr1 hq;refine ol_s (bN (z0:=[(str [])]) cX tz9 rfl rfl rfl rfl (.cons rfl rfl rfl (.cons .nil) .nil)) rfl ?_;rintro _ K _ ⟨b12,rfl,rfl,rfl⟩ -;refine uAb ?_;refine aG (aE ?_);refine uCk ?_;refine dN (fA (aRZ b12 q.1)) ?_;refine bF rfl rfl (by first|exact Hl.le_refl _|assumption) ?_;have hl:Syn.list s st ff=.ok ([q.1],q.2):=(by unfold Syn.list;rw[hr];simp only[];rw[hq];simp only[];rw[if_neg (by simpa using h8)]);rw[hl];exact⟨_,rfl,rfl⟩
 ·
  refine aW ?_;refine aE (aH ?_);refine uCf ?_;refine aY rfl rfl (j5 b s r.2 rest fn caps ff _ hs hr1 hro.2 hg hf) (.cons .here .nil) rfl (fun _ _=>a8 _ _) ?_ ?_
  ·
   rintro _ _ _ hT3 le1;obtain⟨e,p,hq,fb,h,rfl⟩:=bA hT3;cases h
   refine uAr ?_;unfold Syn.list;rw[hr];simp only[];rw[hq];exact⟨fb,rfl,rfl⟩
  rintro _ K _ hT3 -;obtain⟨q,hq,rfl,rfl,rfl⟩:=bB hT3;obtain⟨hq1,hq2⟩:=jP hr1 hq;refine ol_s (bN (z0:=[(str [])]) cX tz9 rfl rfl rfl rfl (.cons rfl rfl rfl (.cons .nil) .nil)) rfl ?_;rintro _ K _ ⟨b16,rfl,rfl,rfl⟩ -;refine uAb ?_;refine aG (aE ?_);refine aH (bE ?_);refine mP (fun(st2:St) (v:Value) (acc:List (List UInt8))=>Ok s st2∧acc.length+mu s st2≤1300∧∃f,mu s st2≤f∧Syn.list s st ff=oO s ff (f+1) st2 acc) (fun _ v _=>[(0,ptr b),(1,.func (.func fn) #[] caps),(5,v)]) (fun _ _ _=>K) (fun st2 v acc=>[sl false (bT 9) v acc,psb b s st2 rest]) (fun st2 _ _=>mu s st2) q.2 _ [q.1] ⟨lP hr1 hq,by have:=tA s q.2;simp;omega,mu s q.2,Nat.le_refl _,by unfold Syn.list;rw[hr];simp only[];rw[hq];simp only[];rw[if_pos (by simpa using h8)]⟩ (.cons 0 rfl (.cons 1 rfl (.cons 5 rfl .nil))) rfl (fA (aRZ b16 q.1)) ?_;intro st2 v acc ⟨hi1,hi2,f,hi3,hi4⟩;refine aH (aH ?_);refine uAf ?_;refine aY rfl rfl (zC b s st2 rest [44] _ hs hi1.1 hg) (.cons (.there .here) .nil) rfl (fun _ _=>a8 _ _) ?_ ?_
  ·
   rintro _ _ _ hT4 le1;obtain⟨e,p,hy,fb,h,rfl⟩:=bA hT4;cases h
   refine uEf ?_;refine aK ?_;refine uHm ?_;rw[hi4];simp only[oO];rw[hy];exact⟨fb,rfl,rfl⟩
  rintro _ K _ hT4 -;obtain⟨y,hy,rfl,rfl,rfl⟩:=bB hT4;obtain⟨hy1,hy2,hy3⟩:=vY hi1.1 hy;have hyo:=vZ hi1 hy;refine aG (aE ?_);refine eJ 18 rfl (fun h18=>?_) (fun h18=>?_)
  ·
   have hy4:=hy3 h18;refine aW ?_;refine aE (bE ?_);refine uAf ?_;refine uAx ?_;refine aY rfl rfl (j5 b s y.2 rest fn caps ff _ hs hy1 hyo.2 hg hf) (.cons .here .nil) rfl (fun _ _=>a8 _ _) ?_ ?_
   ·
    rintro _ _ _ hT5 le1;obtain⟨e,p,hz,fb,h,rfl⟩:=bA hT5;cases h
    refine uEn ?_;refine uHm ?_;rw[hi4];simp only[oO];rw[hy];simp only[];rw[if_pos h18,hz];exact⟨fb,rfl,rfl⟩
   rintro _ K _ hT5 -;obtain⟨z,hz,rfl,rfl,rfl⟩:=bB hT5;obtain⟨hz1,hz2⟩:=jP hy1 hz;refine ol_s (bN (z0:=[(str [])]) cX tz9 rfl rfl rfl rfl (.cons rfl rfl rfl (.cons .nil) .nil)) rfl ?_;rintro _ K _ ⟨b23,rfl,rfl,rfl⟩ -;refine ol_s (dM (k:=(bT 9)) (ys:=[z.1]) iC rfl rfl aX (fun w j=>dB Tryz.underlying39 (SeesSl.at (.blk (.own .here) rfl rfl) j)) (by first|(simp;omega)|omega) (by first|(simp;omega)|omega)) rfl ?_;rintro v24 K _ ⟨rfl,rfl,ho24⟩ -;refine uAb ?_;refine aG (aN ?_);obtain⟨f0,rfl⟩:∃f0,f=f0+1:=⟨f - 1,by omega⟩;refine uFs ?_;refine fU z.2 _ (acc++[z.1]) ⟨lP hy1 hz,by simp;omega,f0,by omega,?_⟩ aI (.cons 0 rfl (.cons 1 rfl (.cons 5 rfl .nil))) rfl (fun _ h=>h)
   rw[hi4];simp only[oO];rw[hy];simp only[];rw[if_pos h18,hz]
  ·
   refine uAp ?_;refine aE (aH ?_);refine uAf ?_;refine aY rfl rfl (aCP b s y.2 rest [93] _ hs hy1 hg) (.cons .here .nil) rfl (fun _ _=>a8 _ _) ?_ ?_
   ·
    rintro _ _ _ hT5 le1;obtain⟨e,p,hz,fb,h,rfl⟩:=bA hT5;cases h
    refine uAr ?_;rw[hi4];simp only[oO];rw[hy];simp only[];rw[if_neg (by simp[h18]),hz];exact⟨fb,rfl,rfl⟩
   rintro _ K2 _ hT5 le2;obtain⟨z,hz,rfl,rfl⟩:=bB hT5;refine aG (aE ?_);refine aH (aB ?_);refine uEj ?_;refine aG (aE ?_);refine bI ?_;refine uIs ?_;refine bF rfl rfl (by first|exact Hl.le_refl _|assumption) ?_;have hl:Syn.list s st ff=.ok (acc,z):=(by rw[hi4];simp only[oO];rw[hy];simp only[];rw[if_neg (by simp[h18]),hz]);rw[hl];exact⟨_,rfl,rfl⟩
end Go.Proofs
end
section
namespace Go.Proofs
open Go Go.SL Go.Syn
theorem kG(x:List UInt8)(K:Hl):Sp Tryz.prog 177 [str x] K [] (Val (i64 0) K):=by
 refine aZ Tryz.func177 rfl Tryz.ntmps177 rfl rfl fun F w=>?_
 refine aH (aB ?_);refine uAb ?_;refine aG (aE ?_);refine aH (aB ?_);refine uAb ?_;refine aG (aE ?_);refine bI ?_;refine bF rfl rfl (Hl.le_refl _) ?_;exact⟨rfl,rfl,rfl⟩
theorem qA(s:List UInt8)(K:Hl)(hs:s.length≤140737488351232):Sp Tryz.prog 263 [str s] K [] (Val (.bool (named s)) K):=by
 refine aZ Tryz.func263 rfl Tryz.ntmps263 rfl rfl fun F w=>?_
 refine aH (aB ?_);refine uAb ?_;refine aG (aE ?_);refine aH (aH ?_);refine uAf ?_;refine uDk ?_;rintro v6 K _ ⟨rfl,rfl⟩ -;refine uDx ?_;refine aG (aE ?_);refine bE ?_;refine eR (fun(i:Nat)=>i≤s.length∧(s.take i).all e9=true) (fun i=>[(0,str s),(6,v6),(7,i64 s.length),(8,i64 i)]) (fun _=>_) (fun i=>[sl false (elB 5) v6 s]) (fun i=>s.length - i) 0 ⟨Nat.zero_le _,rfl⟩ (.cons 0 rfl (.cons 6 rfl (.cons 7 rfl (.cons 8 rfl .nil)))) rfl (fun _ h=>h) ?_;intro i ⟨hi0,hi1⟩;refine aH (aB ?_);refine uBn ?_;refine aG (aE ?_);refine aH ?_;refine bK 9 rfl (fun h9=>?_) (fun h9=>?_)
 ·
  obtain⟨c,hc⟩:∃c,s[i]?=some c:=⟨s[i]'(by omega),List.getElem?_eq_getElem aI⟩;have hlen:i < s.length:=by omega
  refine aW ?_;refine aE (aH ?_);refine bE (aH ?_);refine aB ?_;refine aA (b0 (k:=(elB 5)) lD rfl aL rfl rfl (by first|assumption|omega)) rfl ?_;refine uFx ?_;refine uAb ?_;refine aG (aE ?_);refine aH (aB ?_);refine uAa ?_;refine cA rfl rfl (oN c _) rfl ?_;refine aA (by first|exact dP rfl|exact dO rfl) rfl ?_;refine aG (aE ?_);refine eJ 14 rfl (fun h14=>?_) (fun h14=>?_)
  ·
   refine aH (aB ?_);refine uAb ?_;refine aG (aE ?_);refine uEk ?_;refine aO .nil ?_;refine bF rfl rfl (Hl.le_refl _) ?_;exact retB (aQV hc (by simpa using h14)).symm _
  ·
   refine aW ?_;refine aN (aE ?_);refine uDj ?_;refine cQ (i+1) ⟨by omega,Plain.take_all_succ hc hi1 (by simpa using h14)⟩ aI (.cons 0 rfl (.cons 6 rfl (.cons 7 rfl (.cons 8 rfl .nil)))) rfl (fun _ h=>h)
 ·
  have hall:s.all e9=true:=(by rw[List.take_of_length_le aI]at hi1;exact hi1);refine uAp ?_;refine aE (aH ?_);refine uAf ?_;refine aA (o2 rfl rfl) rfl ?_;refine uAa ?_;refine cG 18 rfl (fun g18=>?_) (fun g18=>?_)
  ·
   refine uAi ?_;obtain⟨c0,hc0⟩:∃c,s[0]?=some c:=⟨s[0]'(List.length_pos_iff.2 g18),List.getElem?_eq_getElem _⟩;refine aA (dJ Tryz.underlying9 rfl (j:=0) rfl rfl hc0) rfl ?_;refine uAz ?_;refine cA rfl rfl (nG c0 _) rfl ?_;refine uAz ?_;refine aA (by first|exact dP rfl|exact dO rfl) rfl ?_;refine uDv ?_;refine aG (aE ?_);refine uCx ?_;refine bF rfl rfl (Hl.le_refl _) ?_;exact retB (by simp[named,hall,g18,hc0]) _
  ·
   refine uIo ?_;refine aG (aE ?_);refine uCx ?_;refine bF rfl rfl (Hl.le_refl _) ?_;exact retB (by simp only[Classical.not_not]at g18;simp[named,g18]) _
theorem aNU(x:List UInt8)(K:Hl)(hs:x.length≤140737488351232):Sp Tryz.prog 262 [str x] K [] (Val (i64 (if named x=true then 0 else 7)) K):=by
 refine aZ Tryz.func262 rfl Tryz.ntmps262 rfl rfl fun F w=>?_
 refine aH (aB ?_);refine uAb ?_;refine aG (aE ?_);refine aH (aH ?_);refine uAf ?_;refine cA rfl rfl (qA x _ hs) rfl ?_;refine aG (aE ?_);refine eJ 4 rfl (fun h4=>?_) (fun h4=>?_)
 ·
  refine aH (aB ?_);refine uAb ?_;refine aG (aE ?_);refine uCk ?_;refine bF rfl rfl (Hl.le_refl _) ?_;rw[if_pos h4];exact⟨rfl,rfl,rfl⟩
 ·
  refine aW ?_;refine aE (aH ?_);refine uFr ?_;refine aG (aE ?_);refine bI ?_;refine bF rfl rfl (Hl.le_refl _) ?_;rw[if_neg (by simp[h4])];exact⟨rfl,rfl,rfl⟩
theorem kU(x:List UInt8)(e:Int)(texts:List (List UInt8))(tv:Value)(b1 b2:Nat)(K:Hl)(h1:K b1=some (aU [tv] 39))(h2:K b2=some (aU [i64 e] 30))(hv:Ksl (bT 9) K tv texts)(hn:texts.length≤1000000):
  Sp Tryz.prog 192 [str x,ptr b1,ptr b2] K [] (Val (i64 (oneOf e texts x)) K):=by
 refine aZ Tryz.func192 rfl Tryz.ntmps192 rfl rfl fun F w=>?_
 refine aH (aB ?_);refine uAb ?_;refine aG (aE ?_);refine aH (aH ?_);refine aB ?_;refine aA (aJ ts39 rfl (.known h1) rfl) rfl ?_;refine uAa ?_;refine bC rfl rfl (lM tv x texts _ [] (.known hv) hn) .nil rfl ?_;rintro _ K _ ⟨rfl,rfl,rfl⟩ -;refine aG (aE ?_);refine bK 7 rfl (fun h7=>?_) (fun h7=>?_)
 ·
  refine aH (aB ?_);refine uAb ?_;refine aG (aE ?_);refine uCk ?_;refine bF rfl rfl (Hl.le_refl _) ?_;unfold oneOf;rw[if_pos h7];exact⟨rfl,rfl,rfl⟩
 ·
  refine aW ?_;refine aE (aH ?_);refine aB ?_;refine aA (aJ ts30 rfl (.known h2) rfl) rfl ?_;refine uAb ?_;refine aG (aE ?_);refine bI ?_;refine bF rfl rfl (Hl.le_refl _) ?_;unfold oneOf;rw[if_neg h7];exact⟨rfl,rfl,rfl⟩
theorem mA(e:Int)(tv:Value)(K:Hl)(htv:tv.cells= #[tv]):Sp Tryz.prog 103 [i64 e,tv] K [] (Ret fun v K' L'=>∃b1 b2,v=.func (.func 192) #[] #[ptr b1,ptr b2]∧K' b1=some (aU [tv] 39)∧K' b2=some (aU [i64 e] 30)∧L'=[]):=by
 refine aZ Tryz.func103 rfl Tryz.ntmps103 rfl rfl fun F w=>?_
 refine aH (aB ?_);refine uBk ?_;rintro _ K _ ⟨b2,rfl,rfl,rfl⟩ -;refine ol_s (d6 (l:=[tv]) rfl htv) rfl ?_;rintro _ K _ ⟨b3,rfl,rfl,rfl⟩ -;refine uAb ?_;refine aG (aE ?_);refine aH (aB ?_);refine uGi ?_;refine uAb ?_;refine aG (aE ?_);refine bI ?_;refine gI fun K1 le1 hK1=>?_
 refine gI fun K2 le2 hK2=>?_
 refine bF rfl rfl (Hl.le_trans le1 le2) ?_;exact⟨_,rfl,b3,b2,rfl,le2 _ _ hK1,hK2,rfl⟩
abbrev aA2:List UInt8:=[102,114,111,109]
abbrev txTo:List UInt8:=[116,111]
theorem xM(x:List UInt8)(K:Hl)(hs:x.length≤140737488351232):Sp Tryz.prog 265 [str x] K [] (Val (i64 (oneOf 7 [aA2,txTo] (dH x))) K):=by
 refine(aEW (R:=fun e L'=>e=.returned (i64 (oneOf 7 [aA2,txTo] (dH x)))∧L'=[]) ?_).mono fun e K' L' ⟨h1,h2,h3⟩=>⟨h2,h1,h3⟩
 refine aZ Tryz.func265 rfl Tryz.ntmps265 rfl rfl fun F w=>?_
 refine aH (aB ?_);refine uAb ?_;refine aG (aE ?_);refine aH (aB ?_);refine ol_s (bN (z0:=[(str []),(str [])]) cX tz9 rfl rfl rfl rfl (.cons rfl rfl rfl (.cons .nil) (.cons rfl rfl rfl (.skip (.cons .nil)) .nil))) rfl ?_;rintro _ K _ ⟨b3,rfl,rfl,rfl⟩ -;refine fD fun K1 le1 hK1=>?_
 refine bC rfl rfl (mA 7 _ _ rfl) .nil rfl ?_;rintro _ K2 _ ⟨c1,c2,rfl,hc1,hc2,rfl⟩ le2;refine uAa ?_;refine cA rfl rfl (fO x _ hs) rfl ?_;refine cA rfl rfl (kU (dH x) 7 [aA2,txTo] _ c1 c2 _ hc1 hc2 (.inr ⟨b3,0,2,[str aA2,str txTo],(0,0),rfl,⟨_,le2 _ _ hK1⟩,rfl⟩) (by simp)) rfl ?_;refine uAb ?_;refine aG (aE ?_);refine uCx ?_;refine bF rfl rfl (Hl.le_trans le1 le2) ?_;exact⟨rfl,rfl⟩
theorem uD{β:Type}{P:Program}{f:FuncId}{args:List Value}{K:Hl}{L:List Asn}{r:Res β}{N:β→Value→List Asn→Prop}(h:Sp P f args K L (fT r fun x v _ L'=>N x v L')):
  Sp P f args K L (fT r fun x v K' L'=>K'=K∧N x v L'):=by
 refine(aEW (R:=fun e L'=>fT r (fun x v _ L'=>N x v L') e K L') (h.mono fun e K' L' h1=>?_)).mono fun e K' L' ⟨h1,h2⟩=>?_
 ·unfold fT at h1 ⊢;cases r with
  |ok x=>exact h1
  |error p=>exact h1
 ·unfold fT at h2 ⊢;cases r with
  |ok x=>obtain⟨v,e1,e2⟩:=h2;exact⟨v,e1,h1,e2⟩
  |error p=>exact h2
theorem jU(b:Nat)(s:List UInt8)(st:St)(rest:List Value)(x:List UInt8)(K:Hl)(hs:s.length≤600)(ha:st.1≤s.length)(hg:Glob K):
  Sp Tryz.prog 104 [ptr b,str x] K [psb b s st rest] (fT (Syn.sign s st x) fun r v K' L'=>K'=K∧v=.tuple #[]∧L'=[psb b s r rest]):=
 uD (N:=fun(r:St) v L'=>v=.tuple #[]∧L'=[psb b s r rest]) (aCP b s st rest x K hs ha hg)
theorem p9(b:Nat)(s:List UInt8)(st:St)(rest:List Value)(fn:FuncId)(caps:Array Value)(ff:List UInt8→Int)(K:Hl)(hs:s.length≤600)(hok:Ok s st)(hg:Glob K)
  (hf:∀x:List UInt8,x.length≤600→Sp Tryz.prog fn (str x::caps.toList) K [] (Val (i64 (ff x)) K)):
  Sp Tryz.prog 102 [ptr b,.func (.func fn) #[] caps] K [psb b s st rest] (fT (Syn.list s st ff) fun r v K' L'=>K'=K∧L'=[sl false (bT 9) v r.1,psb b s r.2 rest]):=
 uD (N:=fun(r:List (List UInt8)×St) v L'=>L'=[sl false (bT 9) v r.1,psb b s r.2 rest]) (aMU b s st rest fn caps ff K hs hok hg hf)
end Go.Proofs
end
section
namespace Go.Proofs
open Go Go.SL Go.Syn
theorem aR3{s:List UInt8}{st:St}{k:Nat}{texts:List (List UInt8)}{r:Word×St}(hok:Ok s st)(h:take s st k texts=.ok r):r.1.s.length≤s.length:=by
 unfold take at h;split at h
 ·cases h
 ·split at h
  ·cases h
  ·cases h;exact hok.2
theorem aSB{s:List UInt8}{st:St}{ff:List UInt8→Int}{r:List UInt8×St}(hok:Ok s st)(h:Syn.text s st ff=.ok r):r.1.length≤s.length:=by
 unfold Syn.text at h;split at h
 ·cases h
 ·split at h
  ·cases h
  ·rename_i q hq;cases h
   exact aR3 hok hq
theorem aNO(xs:List (List UInt8))(x:List UInt8): -1≤cT xs x∧cT xs x≤xs.length:=by
 unfold cT;cases h:xs.findIdx? (fun y=>decide (x=y))with
 |some i=>rw[List.findIdx?_eq_some_iff_getElem]at h;obtain⟨hi,_⟩:=h;exact⟨by show -1≤(i:Int);omega,by show (i:Int)≤_;omega⟩
 |none=>exact⟨by show (-1:Int)≤ -1;omega,by show (-1:Int)≤_;omega⟩
theorem aRW(b:Nat)(s:List UInt8)(st:St)(at_ dp:Int)(nv:Value)(rest:List Value)(needs:List (List UInt8))(K:Hl)(hs:s.length≤600)(hok:Ok s st)(hg:Glob K)(hv:Ksl (bT 9) K nv needs)(hn:needs.length≤1000000):
    Sp Tryz.prog 163 [ptr b,i64 at_,i64 dp] K [psb b s st (nv::rest)]
      (fT (setC s needs st) fun r v K' L'=>K'=K∧v=.iface 308 (.agg #[str r.1.name,str r.1.value,i64 r.1.tag])∧L'=[psb b s r.2 (nv::rest)]):=by
  refine uD (N:=fun(r:SetC×St) v L'=>v=.iface 308 (.agg #[str r.1.name,str r.1.value,i64 r.1.tag])∧L'=[psb b s r.2 (nv::rest)]) ?_;have ha:=hok.1;refine aZ Tryz.func163 rfl Tryz.ntmps163 rfl rfl fun F w=>?_
  refine aH (aB ?_);refine uAb ?_;refine aG (aE ?_);refine aH (aB ?_);refine uAa ?_;refine aY rfl rfl (tW b s st nv rest needs eO _ hv hn) (.cons .here .nil) rfl (fun _ _=>a8 _ _) ?_ ?_
  ·
    rintro _ _ _ hT le1;obtain⟨e,p,hr,fb,h,rfl⟩:=bA hT;cases h
    refine uAr ?_;have hm:¬eO∈needs:=(by intro h;rw[if_pos h]at hr;cases hr);rw[if_neg hm]at hr;cases hr
    unfold setC;rw[if_neg hm];exact⟨fb,rfl,rfl⟩
  rintro _ K _ hT -;obtain⟨u0,hu,rfl,rfl,rfl⟩:=bB hT;have hm:eO∈needs:=Classical.byContradiction (fun h=>by rw[if_neg h]at hu;cases hu);refine aG (aE ?_);refine aH (aB ?_);refine uEi ?_;refine aY rfl rfl (dL b 208 s st.1 _ _ _ _ (nv::rest) hs ha _ hg) (.cons .here .nil) rfl (fun _ _=>a8 _ _) ?_ ?_
  ·
    rintro _ _ _ hT2 le1;obtain⟨e,p,hr,fb,h,rfl⟩:=bA hT2;cases h
    refine uAr ?_;unfold setC;rw[if_pos hm,hr];exact⟨fb,rfl,rfl⟩
  rintro _ K _ hT2 -;obtain⟨r,hr,rfl,rfl,rfl⟩:=bB hT2;have hro:=eB ha hr;refine aG (aE ?_);refine aH (aB ?_);refine aA (cP aY4 aXO .nil) rfl ?_;refine ol_s (cN aVX) rfl ?_;rintro _ K _ ⟨b7,rfl,rfl,rfl⟩ -;refine bP (cJ aEZ rfl rfl rfl aX (by first|(simp[Value.oneCell'];done)|exact fun c hc=>El.one _ _ c hc) (.cons (.cons (.cons .nil))) (by intro j hj;simp)) ?_;rintro _ K _ ⟨rfl,rfl⟩ -;refine aG (aE ?_);refine yJ (fun(tag:Int) (st2:St)=>kB s r=.ok (tag,st2)∧Ok s st2) (fun _ _=>[(0,ptr b),(7,ptr b7)]) (fun _ _=>K) (fun tag st2=>[pt b7 (aU [str [],str [],i64 tag] 308),psb b s st2 (nv::rest)]) ?_ ?_
  ·
    refine aH (aB ?_);refine uAa ?_;refine uBb ?_;refine uAq ?_;refine aG (aE ?_);refine bK 21 rfl (fun h21=>?_) (fun h21=>?_)
    ·
      refine aH (aB ?_);refine ol_s (bN (z0:=[(str []),(str []),(str [])]) cX tz9 rfl rfl rfl rfl (.cons rfl rfl rfl (.cons .nil) (.cons rfl rfl rfl (.skip (.cons .nil)) (.cons rfl rfl rfl (.skip (.skip (.cons .nil))) .nil)))) rfl ?_;rintro _ K _ ⟨b22,rfl,rfl,rfl⟩ -;refine uEi ?_;refine uGl ?_;refine bC rfl rfl (rM _ r.2.s [nM,nN,lS] _ [pt b22 (aU [str nM,str nN,str lS] 9)] (.blk (.own .here) rfl rfl) (by simp)) (.cons .here .nil) rfl ?_;rintro _ K _ ⟨rfl,rfl,rfl⟩ -;have hix: -1≤cT [nM,nN,lS] r.2.s∧cT [nM,nN,lS] r.2.s≤3:=aNO _ _;refine uCj ?_;refine aA (aD (o':=2) wX rfl rfl) rfl ?_;refine bP (bH ts3 rfl rfl cD aX (.succ (.succ .zero)) rfl) ?_;rintro _ K _ ⟨rfl,rfl⟩ -;refine aG (aE ?_);refine aH (aH ?_);refine aB ?_;refine aA (aD (o':=2) wX rfl rfl) rfl ?_;refine uAn ?_;refine uAq ?_;refine aG (aE ?_);refine bK 34 rfl (fun h34=>?_) (fun h34=>?_)
      ·
        refine uAf ?_;refine aY rfl rfl (iA b s r (nv::rest) _) (.cons (.there (.there .here)) .nil) rfl (by rintro _ _ ⟨_,h,_⟩;cases h) ?_ ?_
        ·
          rintro _ _ _ ⟨fb,h,rfl⟩ le1;cases h
          refine uEf ?_;refine aK ?_;refine bJ bU ?_;have hst:kB s r=.error (4,r.2.at_):=(by unfold kB;rw[if_pos aI,if_pos aI]);unfold setC;rw[if_pos hm,hr];simp only[hst];exact⟨fb,rfl,rfl⟩
        ·
          rintro _ _ _ ⟨_,h,_⟩;cases h
      ·
        refine aW ?_;refine aE (aB ?_);refine uEi ?_;refine aY rfl rfl (dL b 208 s r.1 _ _ _ _ (nv::rest) hs hro.1 _ hg) (.cons (.there (.there .here)) .nil) rfl (fun _ _=>a8 _ _) ?_ ?_
        ·
          rintro _ _ _ hT2 le1;obtain⟨e,p,hr2,fb,h,rfl⟩:=bA hT2;cases h
          refine uAr ?_;have hst:kB s r=.error (e,p):=(by unfold kB;rw[if_pos aI,if_neg aI,hr2]);unfold setC;rw[if_pos hm,hr];simp only[hst];exact⟨fb,rfl,rfl⟩
        rintro _ K _ hT2 -;obtain⟨r2,hr2,rfl,rfl,rfl⟩:=bB hT2;refine aG ?_
        first
          | (have hst : kB s r = .ok (1 + cT [nM, nN, lS] r.2.s, r2) := (by unfold kB; rw [if_pos aI, if_neg aI, hr2])
             refine uBh ?_;exact gD _ r2 ⟨hst,eB hro.1 hr2⟩ (.cons 0 rfl (.cons 7 rfl .nil)) rfl (fun _ h=>h))
          | (have hst : kB s r = .ok (0, r) := (by unfold kB; rw [if_neg aI])
             exact gD 0 r ⟨hst,hro⟩ (.cons 0 rfl (.cons 7 rfl .nil)) rfl (fun _ h=>h))
    ·
      refine aW ?_
      first
        | (have hst : kB s r = .ok (1 + cT [nM, nN, lS] r.2.s, r2) := (by unfold kB; rw [if_pos aI, if_neg aI, hr2])
           refine uBh ?_;exact gD _ r2 ⟨hst,eB hro.1 hr2⟩ (.cons 0 rfl (.cons 7 rfl .nil)) rfl (fun _ h=>h))
        | (have hst : kB s r = .ok (0, r) := (by unfold kB; rw [if_neg aI])
           exact gD 0 r ⟨hst,hro⟩ (.cons 0 rfl (.cons 7 rfl .nil)) rfl (fun _ h=>h))
  ·
    intro tag st2 ⟨ht,hok2⟩;have hsc:setC s needs st=nJ s (tag,st2):=(by unfold setC;rw[if_pos hm,hr];simp only[ht]);refine aH (aB ?_);refine uAa ?_;refine aY rfl rfl (j5 b s st2 (nv::rest) 262 #[] (fun x=>if named x=true then 0 else 7) _ hs hok2.1 hok2.2 hg (fun x hx=>aNU x _ aI)) (.cons (.there .here) .nil) rfl (fun _ _=>a8 _ _) ?_ ?_
    ·
      rintro _ _ _ hT3 le1;obtain⟨e,p,h3,fb,h,rfl⟩:=bA hT3;cases h
      refine uAr ?_;rw[hsc];unfold nJ;rw[h3];exact⟨fb,rfl,rfl⟩
    rintro _ K _ hT3 -;obtain⟨n,h3,rfl,rfl,rfl⟩:=bB hT3;have hok3:=lP hok2.1 h3;refine cA rfl rfl (fO _ _ (by have:=aSB hok2 h3;omega)) rfl ?_;refine aA (aD (o':=0) aC1 rfl rfl) rfl ?_;refine uGa ?_;rintro _ K _ ⟨rfl,rfl⟩ -;refine aG (aE ?_);refine aH (aB ?_);refine uAa ?_;refine aY rfl rfl (j5 b s n.2 (nv::rest) 177 #[] (fun _=>0) _ hs hok3.1 hok3.2 hg (fun x hx=>kG x _)) (.cons .here .nil) rfl (fun _ _=>a8 _ _) ?_ ?_
    ·
      rintro _ _ _ hT4 le1;obtain⟨e,p,h4,fb,h,rfl⟩:=bA hT4;cases h
      refine uAr ?_;rw[hsc];unfold nJ;simp only[h3,h4];exact⟨fb,rfl,rfl⟩
    rintro _ K _ hT4 -;obtain⟨v,h4,rfl,rfl,rfl⟩:=bB hT4;have hok4:=lP hok3.1 h4;refine aA (aD (o':=1) aC2 rfl rfl) rfl ?_;refine bP (bH ts9 rfl rfl cD aX (.succ .zero) rfl) ?_;rintro _ K _ ⟨rfl,rfl⟩ -;refine aG (aE ?_);refine aH (aB ?_);refine uAa ?_;refine aY rfl rfl (jU b s v.2 (nv::rest) [59] _ hs hok4.1 hg) (.cons .here .nil) rfl (fun _ _=>a8 _ _) ?_ ?_
    ·
      rintro _ _ _ hT5 le1;obtain⟨e,p,h5,fb,h,rfl⟩:=bA hT5;cases h
      refine uAr ?_;rw[hsc];unfold nJ;simp only[h3,h4,h5];exact⟨fb,rfl,rfl⟩
    rintro _ K _ hT5 -;obtain⟨q,h5,rfl,rfl,rfl⟩:=bB hT5;refine aG (aE ?_);refine aH (aB ?_);refine aA (bX aEZ rfl aL rfl rfl) rfl ?_;refine aA (cL Tryz.underlying308 (fun _ h=>by cases h) rfl) rfl ?_;refine uAb ?_;refine aG (aE ?_);refine uDi ?_;refine bF rfl rfl (Hl.le_refl _) ?_;have hfin:nJ s (tag,st2)=.ok (⟨dH n.1,v.1,tag⟩,q):=(by unfold nJ;simp only[h3,h4,h5]);rw[hsc,hfin];exact⟨_,rfl,rfl,rfl⟩
end Go.Proofs
end
section
namespace Go.Proofs
open Go Go.SL Go.Syn
theorem aNP(xs:List (List UInt8))(x:List UInt8): -1≤cT xs x∧cT xs x < xs.length:=by
 unfold cT;cases h:xs.findIdx? (fun y=>decide (x=y))with
 |some i=>rw[List.findIdx?_eq_some_iff_getElem]at h;obtain⟨hi,_⟩:=h;exact⟨by show -1≤(i:Int);omega,by show (i:Int) < _;omega⟩
 |none=>exact⟨by show (-1:Int)≤ -1;omega,by show (-1:Int) < _;omega⟩
theorem aVJ{op:Int}(h:op=7)(x:List UInt8):mX op x=Syn.oneOf 7 [aA2,txTo] (dH x):=by unfold mX;rw[if_pos h]
theorem aVI{op:Int}(h:¬op=7)(x:List UInt8):mX op x=0:=by unfold mX;rw[if_neg h]
theorem tU(b:Nat)(s:List UInt8)(st:St)(op:Int)(ext:List UInt8)(nv:Value)(rest:List Value)(needs:List (List UInt8))(K:Hl)(hs:s.length≤600)(hok:Ok s st)(hg:Glob K)(hv:Ksl (bT 9) K nv needs)(hn:needs.length≤1000000):
    Sp Tryz.prog 173 [ptr b,i64 op,str ext] K [psb b s st (nv::rest)]
      (fT (kO s needs op ext st) fun r v K' L'=>Rep1 K' r.1 v∧L'=[psb b s r.2 (nv::rest)]):=by
  have ha:=hok.1;refine aZ Tryz.func173 rfl Tryz.ntmps173 rfl rfl fun F w=>?_
  refine aH (aB ?_);refine uAb ?_;refine aG (aE ?_);refine gS (fun(_:Unit)=>¬(ext≠[]∧ext∉needs)) (fun _=>[(0,ptr b),(1,i64 op),(2,str ext)]) (fun _=>K) (fun _=>[psb b s st (nv::rest)]) ?_ ?_
  ·
    refine aH (aB ?_);refine uAa ?_;refine aA (o2 rfl rfl) rfl ?_;refine aG (aE ?_);refine bK 12 rfl (fun h12=>?_) (fun h12=>?_)
    ·
      refine uCf ?_;refine aY rfl rfl (tW b s st nv rest needs ext _ hv hn) (.cons .here .nil) rfl (fun _ _=>a8 _ _) ?_ ?_
      ·
        rintro _ _ _ hTr le1;obtain⟨e,p,hu,fb,h,rfl⟩:=bA hTr;cases h
        refine uAr ?_;have hm:¬ext∈needs:=(by intro h;rw[if_pos h]at hu;cases hu);rw[if_neg hm]at hu;cases hu
        unfold kO;rw[if_pos ⟨h12,hm⟩];exact⟨fb,rfl,rfl⟩
      rintro _ K _ hTr -;obtain⟨u0,hu,rfl,rfl,rfl⟩:=bB hTr;clear hTr;have hm:ext∈needs:=Classical.byContradiction (fun h=>by rw[if_neg h]at hu;cases hu);have hne:¬(ext≠[]∧ext∉needs):=fun h=>h.2 hm
      refine aG ?_;exact bZ () hne (.cons 0 rfl (.cons 1 rfl (.cons 2 rfl .nil))) rfl (fun _ h=>h)
    ·
      have hne:¬(ext≠[]∧ext∉needs):=fun h=>h12 h.1
      refine aW ?_;exact bZ () hne (.cons 0 rfl (.cons 1 rfl (.cons 2 rfl .nil))) rfl (fun _ h=>h)
  ·
    intro _ hne;refine aH (aB ?_);refine uEi ?_;refine aY rfl rfl (dL b 208 s st.1 _ _ _ _ (nv::rest) hs ha _ hg) (.cons .here .nil) rfl (fun _ _=>a8 _ _) ?_ ?_
    ·
      rintro _ _ _ hTr le1;obtain⟨e,p,hr,fb,h,rfl⟩:=bA hTr;cases h
      refine uAr ?_;simp only[kO,hne,hr,if_true,if_false,↓reduceIte];exact⟨fb,rfl,rfl⟩
    rintro _ K _ hTr -;obtain⟨r,hr,rfl,rfl,rfl⟩:=bB hTr;clear hTr;have hro:=eB ha hr;refine aG (aE ?_);refine aH (aB ?_);refine uAa ?_;refine aA (cP aY8 aXS (.cons rfl rfl rfl (.skip (.skip (.cons .nil))) .nil)) rfl ?_;refine ol_s (cN aV0) rfl ?_;rintro _ K _ ⟨b7,rfl,rfl,rfl⟩ -;refine bP (cJ aE1 rfl rfl rfl aX (by first|(simp[Value.oneCell'];done)|exact fun c hc=>El.one _ _ c hc) (.cons (.cons (.cons (.cons (.cons .nil))))) (by intro j hj;simp)) ?_;rintro _ K _ ⟨rfl,rfl⟩ -;refine aG (aE ?_);refine aH (aH ?_);refine uFr ?_;refine aG (aE ?_);refine bE ?_;refine qE (fun(hw:How) (st2:St)=>Ok s st2∧(0≤hw.tag∧hw.tag≤3)∧∃f,mu s st2≤f∧kO s needs op ext st=n5 s op (eY s (f+1) hw st2)) (fun hw _=>[(0,ptr b),(1,i64 op),(7,ptr b7),(8,.bool hw.cmp)]) (fun _ _=>K) (fun hw st2=>[pt b7 (aU [i64 hw.tag,.bool hw.oct,i64 op,.slice none 0 0,.slice none 0 0] 380),psb b s st2 (nv::rest)]) (fun _ st2=>mu s st2) ⟨false,0,false⟩ r ⟨hro,⟨Int.le_refl 0,by decide⟩,mu s r,Nat.le_refl _,by simp only[kO,hne,if_false,hr]⟩ (.cons 0 rfl (.cons 1 rfl (.cons 7 rfl (.cons 8 rfl .nil)))) rfl (fun _ h=>h) ?_;intro hw st2 ⟨hok2,ht,f,hf,hx⟩;refine aH (aH ?_);refine uAf ?_;refine uBb ?_;refine uAq ?_;refine aG (aE ?_);refine bK 28 rfl (fun h28=>?_) (fun h28=>?_)
    ·
      have g28:st2.2.kind=2:=by omega
      refine aW ?_;refine aE (bE ?_);refine aH (aB ?_);refine ol_s (bN (z0:=[(str []),(str []),(str []),(str [])]) cX tz9 rfl rfl rfl rfl (.cons rfl rfl rfl (.cons .nil) (.cons rfl rfl rfl (.skip (.cons .nil)) (.cons rfl rfl rfl (.skip (.skip (.cons .nil))) (.cons rfl rfl rfl (.skip (.skip (.skip (.cons .nil)))) .nil))))) rfl ?_;rintro _ K _ ⟨b29,rfl,rfl,rfl⟩ -;refine uEi ?_;refine uGl ?_;refine bC rfl rfl (rM _ st2.2.s dK _ [pt b29 (aU [str txIs,str aA0,str aDA,str qJ] 9)] (.blk (.own .here) rfl rfl) (by simp[dK])) (.cons .here .nil) rfl ?_;rintro _ K _ ⟨rfl,rfl,rfl⟩ -;have hix: -1≤cT dK st2.2.s∧cT dK st2.2.s < 4:=aNP _ _;refine uCj ?_;refine uAb ?_;refine aG (aE ?_);refine bE (aH ?_);refine uAf ?_;refine uCe ?_;refine aG (aE ?_);refine bK 49 rfl (fun h49=>?_) (fun h49=>?_)
      ·
        have g49:cT dK st2.2.s= -1:=by omega
        refine uAf ?_;refine aY rfl rfl (iA b s st2 (nv::rest) _) (.cons (.there (.there .here)) .nil) rfl (by rintro _ _ ⟨_,h,_⟩;cases h) ?_ ?_
        ·
          rintro _ _ _ ⟨fb,h,rfl⟩ le1;cases h
          refine uAg ?_;refine uCs ?_;simp only[hx,eY,g28,g49,if_true,if_false,↓reduceIte];exact⟨fb,rfl,rfl⟩
        ·
          rintro _ _ _ ⟨_,h,_⟩;cases h
      ·
        have g49:¬cT dK st2.2.s= -1:=by omega
        refine aH (aH ?_);refine uAf ?_;refine uHf ?_;refine cG 57 rfl (fun g57=>?_) (fun g57=>?_)
        ·
          refine uHx ?_;refine uDv ?_;refine aG (aE ?_)
          first|refine bK 54 rfl (fun h54=>?_) (fun h54=>?_)|refine eJ 54 rfl (fun h54=>?_) (fun h54=>?_)
          ·
            refine uHp ?_;refine uGe ?_;refine uGp ?_;refine uBe ?_;have hcond:(cT dK st2.2.s=3∧hw.cmp=true)∨(cT dK st2.2.s < 3∧hw.tag≠0):=(by first|exact .inl ⟨by omega,by assumption⟩|exact .inr ⟨by omega,by omega⟩);refine aY rfl rfl (eM 7 st2.2.at_ _) .nil rfl (by rintro _ _ ⟨_,h,_⟩;cases h) ?_ ?_
            ·
              rintro _ _ _ ⟨fb,h,rfl⟩ le1;cases h
              refine uAg ?_;refine uCs ?_;simp only[hx,eY,g28,g49,if_pos hcond,if_true,if_false];exact⟨fb,rfl,rfl⟩
            ·
              rintro _ _ _ ⟨_,h,_⟩;cases h
          ·
            refine uAf ?_;refine uBn ?_;refine uAa ?_;refine cG 62 rfl (fun g62=>?_) (fun g62=>?_)
            ·
              refine uHt ?_;refine aG (aE ?_)
              first|refine bK 54 rfl (fun h54=>?_) (fun h54=>?_)|refine eJ 54 rfl (fun h54=>?_) (fun h54=>?_)
              ·
                refine uGp ?_;refine uBe ?_;have hcond:(cT dK st2.2.s=3∧hw.cmp=true)∨(cT dK st2.2.s < 3∧hw.tag≠0):=(by first|exact .inl ⟨by omega,by assumption⟩|exact .inr ⟨by omega,by omega⟩);refine aY rfl rfl (eM 7 st2.2.at_ _) .nil rfl (by rintro _ _ ⟨_,h,_⟩;cases h) ?_ ?_
                ·
                  rintro _ _ _ ⟨fb,h,rfl⟩ le1;cases h
                  refine uAg ?_;refine uCs ?_;simp only[hx,eY,g28,g49,if_pos hcond,if_true,if_false];exact⟨fb,rfl,rfl⟩
                ·
                  rintro _ _ _ ⟨_,h,_⟩;cases h
              ·
                refine aH (aB ?_);refine uAa ?_;refine uBn ?_;refine uAb ?_;refine aG (aE ?_);refine bK 75 rfl (fun h75=>?_) (fun h75=>?_)
                ·
                  have g75:cT dK st2.2.s < 3:=by omega
                  have hcond:¬((cT dK st2.2.s=3∧hw.cmp=true)∨(cT dK st2.2.s < 3∧hw.tag≠0)):=(by rintro(⟨a,b⟩|⟨a,b⟩) <;> first|omega|(simp_all;done));refine aH (aB ?_);refine uAa ?_;refine uCq ?_;rintro _ K _ ⟨rfl,rfl⟩ -;refine aG (aE ?_);refine uGp ?_;refine aY rfl rfl (dL b 208 s st2.1 _ _ _ _ (nv::rest) hs hok2.1 _ hg) (.cons (.there (.there .here)) .nil) rfl (fun _ _=>a8 _ _) ?_ ?_
                  ·
                    rintro _ _ _ hTr le1;obtain⟨e,p,hr2,fb,h,rfl⟩:=bA hTr;cases h
                    refine uAg ?_;refine uCs ?_;simp only[hx,eY,g28,g49,if_neg hcond,if_pos g75,hr2,if_true,if_false,↓reduceIte];exact⟨fb,rfl,rfl⟩
                  rintro _ K _ hTr -;obtain⟨r2,hr2,rfl,rfl,rfl⟩:=bB hTr;clear hTr;have hok3:=eB hok2.1 hr2;refine aG (aN ?_);refine aN ?_
                  first
                    | (have hm2 := fG hok2.1 aI hr2; obtain ⟨f0, rfl⟩ : ∃ f0, f = f0 + 1 := ⟨f - 1, by omega⟩
                       refine uBh ?_;refine dI ⟨hw.cmp,1+cT dK st2.2.s,hw.oct⟩ r2 ⟨hok3,⟨by simp only[];omega,by simp only[];omega⟩,f0,by omega,?_⟩ aI (.cons 0 rfl (.cons 1 rfl (.cons 7 rfl (.cons 8 rfl .nil)))) rfl (fun _ h=>h)
                       simp only[hx,eY,g28,g49,if_neg hcond,if_pos g75,hr2,if_true,if_false,↓reduceIte])
                    | (have hm2 := fG hok2.1 aI hr3; have hm3 := jP hok3.1 hx4; obtain ⟨f0, rfl⟩ : ∃ f0, f = f0 + 1 := ⟨f - 1, by omega⟩
                       refine uBh ?_;refine lF (Hl.le_trans leA leB) ?_;refine dI ⟨true,hw.tag,decide (x.1=eZ)⟩ x.2 ⟨hok4,ht,f0,by omega,?_⟩ aI (.cons 0 rfl (.cons 1 rfl (.cons 7 rfl (.cons 8 rfl .nil)))) rfl (fun _ h=>h)
                       simp only[hx,eY,g28,g49,if_neg hcond,if_pos g75,hr2,if_true,if_false,↓reduceIte])
                ·
                  have g75:¬cT dK st2.2.s < 3:=by omega
                  have hcond:¬((cT dK st2.2.s=3∧hw.cmp=true)∨(cT dK st2.2.s < 3∧hw.tag≠0)):=(by rintro(⟨a,b⟩|⟨a,b⟩) <;> first|omega|(simp_all;done));refine aH (aB ?_);refine uAb ?_;refine aG (aE ?_);refine aH (aB ?_);refine uEi ?_;refine aY rfl rfl (dL b 208 s st2.1 _ _ _ _ (nv::rest) hs hok2.1 _ hg) (.cons (.there (.there .here)) .nil) rfl (fun _ _=>a8 _ _) ?_ ?_
                  ·
                    rintro _ _ _ hTr le1;obtain⟨e,p,hr3,fb,h,rfl⟩:=bA hTr;cases h
                    refine uEf ?_;refine uCs ?_;simp only[hx,eY,g28,g49,if_neg hcond,if_neg g75,hr3,if_true,if_false,↓reduceIte];exact⟨fb,rfl,rfl⟩
                  rintro _ K _ hTr -;obtain⟨r3,hr3,rfl,rfl,rfl⟩:=bB hTr;clear hTr;have hok3:=eB hok2.1 hr3;refine aG (aE ?_);refine uAf ?_;refine ol_s (bN (z0:=[(str []),(str [])]) cX tz9 rfl rfl rfl rfl (.cons rfl rfl rfl (.cons .nil) (.cons rfl rfl rfl (.skip (.cons .nil)) .nil))) rfl ?_;rintro _ K _ ⟨b43,rfl,rfl,rfl⟩ -;refine fD fun K1 leA hK1=>?_
                  refine bC rfl rfl (mA 7 _ _ rfl) .nil rfl ?_;rintro _ K2 _ ⟨c1,c2,rfl,hc1,hc2,rfl⟩ leB;refine aY rfl rfl (j5 b s r3 (nv::rest) 192 #[ptr c1,ptr c2] (Syn.oneOf 7 [eZ,f9]) _ hs hok3.1 hok3.2 (hg.mono (Hl.le_trans leA leB)) (fun x hx=>kU x 7 [eZ,f9] _ c1 c2 _ hc1 hc2 (.inr ⟨b43,0,2,[str eZ,str f9],(0,0),rfl,⟨_,leB _ _ hK1⟩,rfl⟩) (by simp))) (.cons .here .nil) rfl (fun _ _=>a8 _ _) ?_ ?_
                  ·
                    rintro _ _ _ hTr le1;obtain⟨e,p,hx4,fb,h,rfl⟩:=bA hTr;cases h
                    refine uEn ?_;refine aR ?_;refine uBc ?_;refine bJ (Hl.le_trans leA (Hl.le_trans leB le1)) ?_;simp only[hx,eY,g28,g49,if_neg hcond,if_neg g75,hr3,hx4,if_true,if_false,↓reduceIte];exact⟨fb,rfl,rfl⟩
                  rintro _ K _ hTr -;obtain⟨x,hx4,rfl,rfl,rfl⟩:=bB hTr;clear hTr;have hok4:=lP hok3.1 hx4;refine uCr ?_;rintro _ K _ ⟨rfl,rfl⟩ -;refine aG (aN ?_);refine aN ?_
                  first
                    | (have hm2 := fG hok2.1 aI hr2; obtain ⟨f0, rfl⟩ : ∃ f0, f = f0 + 1 := ⟨f - 1, by omega⟩
                       refine uBh ?_;refine dI ⟨hw.cmp,1+cT dK st2.2.s,hw.oct⟩ r2 ⟨hok3,⟨by simp only[];omega,by simp only[];omega⟩,f0,by omega,?_⟩ aI (.cons 0 rfl (.cons 1 rfl (.cons 7 rfl (.cons 8 rfl .nil)))) rfl (fun _ h=>h)
                       simp only[hx,eY,g28,g49,if_neg hcond,if_neg g75,hr3,hx4,if_true,if_false,↓reduceIte])
                    | (have hm2 := fG hok2.1 aI hr3; have hm3 := jP hok3.1 hx4; obtain ⟨f0, rfl⟩ : ∃ f0, f = f0 + 1 := ⟨f - 1, by omega⟩
                       refine uBh ?_;refine lF (Hl.le_trans leA leB) ?_;refine dI ⟨true,hw.tag,decide (x.1=eZ)⟩ x.2 ⟨hok4,ht,f0,by omega,?_⟩ aI (.cons 0 rfl (.cons 1 rfl (.cons 7 rfl (.cons 8 rfl .nil)))) rfl (fun _ h=>h)
                       simp only[hx,eY,g28,g49,if_neg hcond,if_neg g75,hr3,hx4,if_true,if_false,↓reduceIte])
            ·
              refine uIo ?_;refine aG (aE ?_);refine uHq ?_;refine aH (aB ?_);refine uAa ?_;refine uBn ?_;refine uAb ?_;refine aG (aE ?_);refine bK 75 rfl (fun h75=>?_) (fun h75=>?_)
              ·
                have g75:cT dK st2.2.s < 3:=by omega
                have hcond:¬((cT dK st2.2.s=3∧hw.cmp=true)∨(cT dK st2.2.s < 3∧hw.tag≠0)):=(by rintro(⟨a,b⟩|⟨a,b⟩) <;> first|omega|(simp_all;done));refine aH (aB ?_);refine uAa ?_;refine uCq ?_;rintro _ K _ ⟨rfl,rfl⟩ -;refine aG (aE ?_);refine uGp ?_;refine aY rfl rfl (dL b 208 s st2.1 _ _ _ _ (nv::rest) hs hok2.1 _ hg) (.cons (.there (.there .here)) .nil) rfl (fun _ _=>a8 _ _) ?_ ?_
                ·
                  rintro _ _ _ hTr le1;obtain⟨e,p,hr2,fb,h,rfl⟩:=bA hTr;cases h
                  refine uAg ?_;refine uCs ?_;simp only[hx,eY,g28,g49,if_neg hcond,if_pos g75,hr2,if_true,if_false,↓reduceIte];exact⟨fb,rfl,rfl⟩
                rintro _ K _ hTr -;obtain⟨r2,hr2,rfl,rfl,rfl⟩:=bB hTr;clear hTr;have hok3:=eB hok2.1 hr2;refine aG (aN ?_);refine aN ?_
                first
                  | (have hm2 := fG hok2.1 aI hr2; obtain ⟨f0, rfl⟩ : ∃ f0, f = f0 + 1 := ⟨f - 1, by omega⟩
                     refine uBh ?_;refine dI ⟨hw.cmp,1+cT dK st2.2.s,hw.oct⟩ r2 ⟨hok3,⟨by simp only[];omega,by simp only[];omega⟩,f0,by omega,?_⟩ aI (.cons 0 rfl (.cons 1 rfl (.cons 7 rfl (.cons 8 rfl .nil)))) rfl (fun _ h=>h)
                     simp only[hx,eY,g28,g49,if_neg hcond,if_pos g75,hr2,if_true,if_false,↓reduceIte])
                  | (have hm2 := fG hok2.1 aI hr3; have hm3 := jP hok3.1 hx4; obtain ⟨f0, rfl⟩ : ∃ f0, f = f0 + 1 := ⟨f - 1, by omega⟩
                     refine uBh ?_;refine lF (Hl.le_trans leA leB) ?_;refine dI ⟨true,hw.tag,decide (x.1=eZ)⟩ x.2 ⟨hok4,ht,f0,by omega,?_⟩ aI (.cons 0 rfl (.cons 1 rfl (.cons 7 rfl (.cons 8 rfl .nil)))) rfl (fun _ h=>h)
                     simp only[hx,eY,g28,g49,if_neg hcond,if_pos g75,hr2,if_true,if_false,↓reduceIte])
              ·
                have g75:¬cT dK st2.2.s < 3:=by omega
                have hcond:¬((cT dK st2.2.s=3∧hw.cmp=true)∨(cT dK st2.2.s < 3∧hw.tag≠0)):=(by rintro(⟨a,b⟩|⟨a,b⟩) <;> first|omega|(simp_all;done));refine aH (aB ?_);refine uAb ?_;refine aG (aE ?_);refine aH (aB ?_);refine uEi ?_;refine aY rfl rfl (dL b 208 s st2.1 _ _ _ _ (nv::rest) hs hok2.1 _ hg) (.cons (.there (.there .here)) .nil) rfl (fun _ _=>a8 _ _) ?_ ?_
                ·
                  rintro _ _ _ hTr le1;obtain⟨e,p,hr3,fb,h,rfl⟩:=bA hTr;cases h
                  refine uEf ?_;refine uCs ?_;simp only[hx,eY,g28,g49,if_neg hcond,if_neg g75,hr3,if_true,if_false,↓reduceIte];exact⟨fb,rfl,rfl⟩
                rintro _ K _ hTr -;obtain⟨r3,hr3,rfl,rfl,rfl⟩:=bB hTr;clear hTr;have hok3:=eB hok2.1 hr3;refine aG (aE ?_);refine uAf ?_;refine ol_s (bN (z0:=[(str []),(str [])]) cX tz9 rfl rfl rfl rfl (.cons rfl rfl rfl (.cons .nil) (.cons rfl rfl rfl (.skip (.cons .nil)) .nil))) rfl ?_;rintro _ K _ ⟨b43,rfl,rfl,rfl⟩ -;refine fD fun K1 leA hK1=>?_
                refine bC rfl rfl (mA 7 _ _ rfl) .nil rfl ?_;rintro _ K2 _ ⟨c1,c2,rfl,hc1,hc2,rfl⟩ leB;refine aY rfl rfl (j5 b s r3 (nv::rest) 192 #[ptr c1,ptr c2] (Syn.oneOf 7 [eZ,f9]) _ hs hok3.1 hok3.2 (hg.mono (Hl.le_trans leA leB)) (fun x hx=>kU x 7 [eZ,f9] _ c1 c2 _ hc1 hc2 (.inr ⟨b43,0,2,[str eZ,str f9],(0,0),rfl,⟨_,leB _ _ hK1⟩,rfl⟩) (by simp))) (.cons .here .nil) rfl (fun _ _=>a8 _ _) ?_ ?_
                ·
                  rintro _ _ _ hTr le1;obtain⟨e,p,hx4,fb,h,rfl⟩:=bA hTr;cases h
                  refine uEn ?_;refine aR ?_;refine uBc ?_;refine bJ (Hl.le_trans leA (Hl.le_trans leB le1)) ?_;simp only[hx,eY,g28,g49,if_neg hcond,if_neg g75,hr3,hx4,if_true,if_false,↓reduceIte];exact⟨fb,rfl,rfl⟩
                rintro _ K _ hTr -;obtain⟨x,hx4,rfl,rfl,rfl⟩:=bB hTr;clear hTr;have hok4:=lP hok3.1 hx4;refine uCr ?_;rintro _ K _ ⟨rfl,rfl⟩ -;refine aG (aN ?_);refine aN ?_
                first
                  | (have hm2 := fG hok2.1 aI hr2; obtain ⟨f0, rfl⟩ : ∃ f0, f = f0 + 1 := ⟨f - 1, by omega⟩
                     refine uBh ?_;refine dI ⟨hw.cmp,1+cT dK st2.2.s,hw.oct⟩ r2 ⟨hok3,⟨by simp only[];omega,by simp only[];omega⟩,f0,by omega,?_⟩ aI (.cons 0 rfl (.cons 1 rfl (.cons 7 rfl (.cons 8 rfl .nil)))) rfl (fun _ h=>h)
                     simp only[hx,eY,g28,g49,if_neg hcond,if_neg g75,hr3,hx4,if_true,if_false,↓reduceIte])
                  | (have hm2 := fG hok2.1 aI hr3; have hm3 := jP hok3.1 hx4; obtain ⟨f0, rfl⟩ : ∃ f0, f = f0 + 1 := ⟨f - 1, by omega⟩
                     refine uBh ?_;refine lF (Hl.le_trans leA leB) ?_;refine dI ⟨true,hw.tag,decide (x.1=eZ)⟩ x.2 ⟨hok4,ht,f0,by omega,?_⟩ aI (.cons 0 rfl (.cons 1 rfl (.cons 7 rfl (.cons 8 rfl .nil)))) rfl (fun _ h=>h)
                     simp only[hx,eY,g28,g49,if_neg hcond,if_neg g75,hr3,hx4,if_true,if_false,↓reduceIte])
        ·
          refine uIt ?_;refine uAt ?_;refine uAb ?_;refine aG (aE ?_);refine uHq ?_;refine uAf ?_;refine uBn ?_;refine uAa ?_;refine cG 62 rfl (fun g62=>?_) (fun g62=>?_)
          ·
            refine uHt ?_;refine aG (aE ?_)
            first|refine bK 54 rfl (fun h54=>?_) (fun h54=>?_)|refine eJ 54 rfl (fun h54=>?_) (fun h54=>?_)
            ·
              refine uGp ?_;refine uBe ?_;have hcond:(cT dK st2.2.s=3∧hw.cmp=true)∨(cT dK st2.2.s < 3∧hw.tag≠0):=(by first|exact .inl ⟨by omega,by assumption⟩|exact .inr ⟨by omega,by omega⟩);refine aY rfl rfl (eM 7 st2.2.at_ _) .nil rfl (by rintro _ _ ⟨_,h,_⟩;cases h) ?_ ?_
              ·
                rintro _ _ _ ⟨fb,h,rfl⟩ le1;cases h
                refine uAg ?_;refine uCs ?_;simp only[hx,eY,g28,g49,if_pos hcond,if_true,if_false];exact⟨fb,rfl,rfl⟩
              ·
                rintro _ _ _ ⟨_,h,_⟩;cases h
            ·
              refine aH (aB ?_);refine uAa ?_;refine uBn ?_;refine uAb ?_;refine aG (aE ?_);refine bK 75 rfl (fun h75=>?_) (fun h75=>?_)
              ·
                have g75:cT dK st2.2.s < 3:=by omega
                have hcond:¬((cT dK st2.2.s=3∧hw.cmp=true)∨(cT dK st2.2.s < 3∧hw.tag≠0)):=(by rintro(⟨a,b⟩|⟨a,b⟩) <;> first|omega|(simp_all;done));refine aH (aB ?_);refine uAa ?_;refine uCq ?_;rintro _ K _ ⟨rfl,rfl⟩ -;refine aG (aE ?_);refine uGp ?_;refine aY rfl rfl (dL b 208 s st2.1 _ _ _ _ (nv::rest) hs hok2.1 _ hg) (.cons (.there (.there .here)) .nil) rfl (fun _ _=>a8 _ _) ?_ ?_
                ·
                  rintro _ _ _ hTr le1;obtain⟨e,p,hr2,fb,h,rfl⟩:=bA hTr;cases h
                  refine uAg ?_;refine uCs ?_;simp only[hx,eY,g28,g49,if_neg hcond,if_pos g75,hr2,if_true,if_false,↓reduceIte];exact⟨fb,rfl,rfl⟩
                rintro _ K _ hTr -;obtain⟨r2,hr2,rfl,rfl,rfl⟩:=bB hTr;clear hTr;have hok3:=eB hok2.1 hr2;refine aG (aN ?_);refine aN ?_
                first
                  | (have hm2 := fG hok2.1 aI hr2; obtain ⟨f0, rfl⟩ : ∃ f0, f = f0 + 1 := ⟨f - 1, by omega⟩
                     refine uBh ?_;refine dI ⟨hw.cmp,1+cT dK st2.2.s,hw.oct⟩ r2 ⟨hok3,⟨by simp only[];omega,by simp only[];omega⟩,f0,by omega,?_⟩ aI (.cons 0 rfl (.cons 1 rfl (.cons 7 rfl (.cons 8 rfl .nil)))) rfl (fun _ h=>h)
                     simp only[hx,eY,g28,g49,if_neg hcond,if_pos g75,hr2,if_true,if_false,↓reduceIte])
                  | (have hm2 := fG hok2.1 aI hr3; have hm3 := jP hok3.1 hx4; obtain ⟨f0, rfl⟩ : ∃ f0, f = f0 + 1 := ⟨f - 1, by omega⟩
                     refine uBh ?_;refine lF (Hl.le_trans leA leB) ?_;refine dI ⟨true,hw.tag,decide (x.1=eZ)⟩ x.2 ⟨hok4,ht,f0,by omega,?_⟩ aI (.cons 0 rfl (.cons 1 rfl (.cons 7 rfl (.cons 8 rfl .nil)))) rfl (fun _ h=>h)
                     simp only[hx,eY,g28,g49,if_neg hcond,if_pos g75,hr2,if_true,if_false,↓reduceIte])
              ·
                have g75:¬cT dK st2.2.s < 3:=by omega
                have hcond:¬((cT dK st2.2.s=3∧hw.cmp=true)∨(cT dK st2.2.s < 3∧hw.tag≠0)):=(by rintro(⟨a,b⟩|⟨a,b⟩) <;> first|omega|(simp_all;done));refine aH (aB ?_);refine uAb ?_;refine aG (aE ?_);refine aH (aB ?_);refine uEi ?_;refine aY rfl rfl (dL b 208 s st2.1 _ _ _ _ (nv::rest) hs hok2.1 _ hg) (.cons (.there (.there .here)) .nil) rfl (fun _ _=>a8 _ _) ?_ ?_
                ·
                  rintro _ _ _ hTr le1;obtain⟨e,p,hr3,fb,h,rfl⟩:=bA hTr;cases h
                  refine uEf ?_;refine uCs ?_;simp only[hx,eY,g28,g49,if_neg hcond,if_neg g75,hr3,if_true,if_false,↓reduceIte];exact⟨fb,rfl,rfl⟩
                rintro _ K _ hTr -;obtain⟨r3,hr3,rfl,rfl,rfl⟩:=bB hTr;clear hTr;have hok3:=eB hok2.1 hr3;refine aG (aE ?_);refine uAf ?_;refine ol_s (bN (z0:=[(str []),(str [])]) cX tz9 rfl rfl rfl rfl (.cons rfl rfl rfl (.cons .nil) (.cons rfl rfl rfl (.skip (.cons .nil)) .nil))) rfl ?_;rintro _ K _ ⟨b43,rfl,rfl,rfl⟩ -;refine fD fun K1 leA hK1=>?_
                refine bC rfl rfl (mA 7 _ _ rfl) .nil rfl ?_;rintro _ K2 _ ⟨c1,c2,rfl,hc1,hc2,rfl⟩ leB;refine aY rfl rfl (j5 b s r3 (nv::rest) 192 #[ptr c1,ptr c2] (Syn.oneOf 7 [eZ,f9]) _ hs hok3.1 hok3.2 (hg.mono (Hl.le_trans leA leB)) (fun x hx=>kU x 7 [eZ,f9] _ c1 c2 _ hc1 hc2 (.inr ⟨b43,0,2,[str eZ,str f9],(0,0),rfl,⟨_,leB _ _ hK1⟩,rfl⟩) (by simp))) (.cons .here .nil) rfl (fun _ _=>a8 _ _) ?_ ?_
                ·
                  rintro _ _ _ hTr le1;obtain⟨e,p,hx4,fb,h,rfl⟩:=bA hTr;cases h
                  refine uEn ?_;refine aR ?_;refine uBc ?_;refine bJ (Hl.le_trans leA (Hl.le_trans leB le1)) ?_;simp only[hx,eY,g28,g49,if_neg hcond,if_neg g75,hr3,hx4,if_true,if_false,↓reduceIte];exact⟨fb,rfl,rfl⟩
                rintro _ K _ hTr -;obtain⟨x,hx4,rfl,rfl,rfl⟩:=bB hTr;clear hTr;have hok4:=lP hok3.1 hx4;refine uCr ?_;rintro _ K _ ⟨rfl,rfl⟩ -;refine aG (aN ?_);refine aN ?_
                first
                  | (have hm2 := fG hok2.1 aI hr2; obtain ⟨f0, rfl⟩ : ∃ f0, f = f0 + 1 := ⟨f - 1, by omega⟩
                     refine uBh ?_;refine dI ⟨hw.cmp,1+cT dK st2.2.s,hw.oct⟩ r2 ⟨hok3,⟨by simp only[];omega,by simp only[];omega⟩,f0,by omega,?_⟩ aI (.cons 0 rfl (.cons 1 rfl (.cons 7 rfl (.cons 8 rfl .nil)))) rfl (fun _ h=>h)
                     simp only[hx,eY,g28,g49,if_neg hcond,if_neg g75,hr3,hx4,if_true,if_false,↓reduceIte])
                  | (have hm2 := fG hok2.1 aI hr3; have hm3 := jP hok3.1 hx4; obtain ⟨f0, rfl⟩ : ∃ f0, f = f0 + 1 := ⟨f - 1, by omega⟩
                     refine uBh ?_;refine lF (Hl.le_trans leA leB) ?_;refine dI ⟨true,hw.tag,decide (x.1=eZ)⟩ x.2 ⟨hok4,ht,f0,by omega,?_⟩ aI (.cons 0 rfl (.cons 1 rfl (.cons 7 rfl (.cons 8 rfl .nil)))) rfl (fun _ h=>h)
                     simp only[hx,eY,g28,g49,if_neg hcond,if_neg g75,hr3,hx4,if_true,if_false,↓reduceIte])
          ·
            refine uIo ?_;refine aG (aE ?_);refine uHq ?_;refine aH (aB ?_);refine uAa ?_;refine uBn ?_;refine uAb ?_;refine aG (aE ?_);refine bK 75 rfl (fun h75=>?_) (fun h75=>?_)
            ·
              have g75:cT dK st2.2.s < 3:=by omega
              have hcond:¬((cT dK st2.2.s=3∧hw.cmp=true)∨(cT dK st2.2.s < 3∧hw.tag≠0)):=(by rintro(⟨a,b⟩|⟨a,b⟩) <;> first|omega|(simp_all;done));refine aH (aB ?_);refine uAa ?_;refine uCq ?_;rintro _ K _ ⟨rfl,rfl⟩ -;refine aG (aE ?_);refine uGp ?_;refine aY rfl rfl (dL b 208 s st2.1 _ _ _ _ (nv::rest) hs hok2.1 _ hg) (.cons (.there (.there .here)) .nil) rfl (fun _ _=>a8 _ _) ?_ ?_
              ·
                rintro _ _ _ hTr le1;obtain⟨e,p,hr2,fb,h,rfl⟩:=bA hTr;cases h
                refine uAg ?_;refine uCs ?_;simp only[hx,eY,g28,g49,if_neg hcond,if_pos g75,hr2,if_true,if_false,↓reduceIte];exact⟨fb,rfl,rfl⟩
              rintro _ K _ hTr -;obtain⟨r2,hr2,rfl,rfl,rfl⟩:=bB hTr;clear hTr;have hok3:=eB hok2.1 hr2;refine aG (aN ?_);refine aN ?_
              first
                | (have hm2 := fG hok2.1 aI hr2; obtain ⟨f0, rfl⟩ : ∃ f0, f = f0 + 1 := ⟨f - 1, by omega⟩
                   refine uBh ?_;refine dI ⟨hw.cmp,1+cT dK st2.2.s,hw.oct⟩ r2 ⟨hok3,⟨by simp only[];omega,by simp only[];omega⟩,f0,by omega,?_⟩ aI (.cons 0 rfl (.cons 1 rfl (.cons 7 rfl (.cons 8 rfl .nil)))) rfl (fun _ h=>h)
                   simp only[hx,eY,g28,g49,if_neg hcond,if_pos g75,hr2,if_true,if_false,↓reduceIte])
                | (have hm2 := fG hok2.1 aI hr3; have hm3 := jP hok3.1 hx4; obtain ⟨f0, rfl⟩ : ∃ f0, f = f0 + 1 := ⟨f - 1, by omega⟩
                   refine uBh ?_;refine lF (Hl.le_trans leA leB) ?_;refine dI ⟨true,hw.tag,decide (x.1=eZ)⟩ x.2 ⟨hok4,ht,f0,by omega,?_⟩ aI (.cons 0 rfl (.cons 1 rfl (.cons 7 rfl (.cons 8 rfl .nil)))) rfl (fun _ h=>h)
                   simp only[hx,eY,g28,g49,if_neg hcond,if_pos g75,hr2,if_true,if_false,↓reduceIte])
            ·
              have g75:¬cT dK st2.2.s < 3:=by omega
              have hcond:¬((cT dK st2.2.s=3∧hw.cmp=true)∨(cT dK st2.2.s < 3∧hw.tag≠0)):=(by rintro(⟨a,b⟩|⟨a,b⟩) <;> first|omega|(simp_all;done));refine aH (aB ?_);refine uAb ?_;refine aG (aE ?_);refine aH (aB ?_);refine uEi ?_;refine aY rfl rfl (dL b 208 s st2.1 _ _ _ _ (nv::rest) hs hok2.1 _ hg) (.cons (.there (.there .here)) .nil) rfl (fun _ _=>a8 _ _) ?_ ?_
              ·
                rintro _ _ _ hTr le1;obtain⟨e,p,hr3,fb,h,rfl⟩:=bA hTr;cases h
                refine uEf ?_;refine uCs ?_;simp only[hx,eY,g28,g49,if_neg hcond,if_neg g75,hr3,if_true,if_false,↓reduceIte];exact⟨fb,rfl,rfl⟩
              rintro _ K _ hTr -;obtain⟨r3,hr3,rfl,rfl,rfl⟩:=bB hTr;clear hTr;have hok3:=eB hok2.1 hr3;refine aG (aE ?_);refine uAf ?_;refine ol_s (bN (z0:=[(str []),(str [])]) cX tz9 rfl rfl rfl rfl (.cons rfl rfl rfl (.cons .nil) (.cons rfl rfl rfl (.skip (.cons .nil)) .nil))) rfl ?_;rintro _ K _ ⟨b43,rfl,rfl,rfl⟩ -;refine fD fun K1 leA hK1=>?_
              refine bC rfl rfl (mA 7 _ _ rfl) .nil rfl ?_;rintro _ K2 _ ⟨c1,c2,rfl,hc1,hc2,rfl⟩ leB;refine aY rfl rfl (j5 b s r3 (nv::rest) 192 #[ptr c1,ptr c2] (Syn.oneOf 7 [eZ,f9]) _ hs hok3.1 hok3.2 (hg.mono (Hl.le_trans leA leB)) (fun x hx=>kU x 7 [eZ,f9] _ c1 c2 _ hc1 hc2 (.inr ⟨b43,0,2,[str eZ,str f9],(0,0),rfl,⟨_,leB _ _ hK1⟩,rfl⟩) (by simp))) (.cons .here .nil) rfl (fun _ _=>a8 _ _) ?_ ?_
              ·
                rintro _ _ _ hTr le1;obtain⟨e,p,hx4,fb,h,rfl⟩:=bA hTr;cases h
                refine uEn ?_;refine aR ?_;refine uBc ?_;refine bJ (Hl.le_trans leA (Hl.le_trans leB le1)) ?_;simp only[hx,eY,g28,g49,if_neg hcond,if_neg g75,hr3,hx4,if_true,if_false,↓reduceIte];exact⟨fb,rfl,rfl⟩
              rintro _ K _ hTr -;obtain⟨x,hx4,rfl,rfl,rfl⟩:=bB hTr;clear hTr;have hok4:=lP hok3.1 hx4;refine uCr ?_;rintro _ K _ ⟨rfl,rfl⟩ -;refine aG (aN ?_);refine aN ?_
              first
                | (have hm2 := fG hok2.1 aI hr2; obtain ⟨f0, rfl⟩ : ∃ f0, f = f0 + 1 := ⟨f - 1, by omega⟩
                   refine uBh ?_;refine dI ⟨hw.cmp,1+cT dK st2.2.s,hw.oct⟩ r2 ⟨hok3,⟨by simp only[];omega,by simp only[];omega⟩,f0,by omega,?_⟩ aI (.cons 0 rfl (.cons 1 rfl (.cons 7 rfl (.cons 8 rfl .nil)))) rfl (fun _ h=>h)
                   simp only[hx,eY,g28,g49,if_neg hcond,if_neg g75,hr3,hx4,if_true,if_false,↓reduceIte])
                | (have hm2 := fG hok2.1 aI hr3; have hm3 := jP hok3.1 hx4; obtain ⟨f0, rfl⟩ : ∃ f0, f = f0 + 1 := ⟨f - 1, by omega⟩
                   refine uBh ?_;refine lF (Hl.le_trans leA leB) ?_;refine dI ⟨true,hw.tag,decide (x.1=eZ)⟩ x.2 ⟨hok4,ht,f0,by omega,?_⟩ aI (.cons 0 rfl (.cons 1 rfl (.cons 7 rfl (.cons 8 rfl .nil)))) rfl (fun _ h=>h)
                   simp only[hx,eY,g28,g49,if_neg hcond,if_neg g75,hr3,hx4,if_true,if_false,↓reduceIte])
    ·
      have g28:¬st2.2.kind=2:=by omega
      refine uAp ?_;refine aE (aH ?_);refine aB ?_;refine aA (aD (o':=0) f7 rfl rfl) rfl ?_;refine aA (aD (o':=0) j8 rfl rfl) rfl ?_;refine uAn ?_;refine aA (aQC rfl rfl) rfl ?_;refine uCq ?_;rintro _ K _ ⟨rfl,rfl⟩ -;refine aG (aE ?_);refine aH (aB ?_);refine uAb ?_;refine aG (aE ?_);refine gS (fun(fn:FuncId)=>∀x:List UInt8,x.length≤600→Sp Tryz.prog fn [str x] K [] (Val (i64 (mX op x)) K)) (fun fn=>[(0,ptr b),(7,ptr b7),(10,.func (.func fn) #[] #[])]) (fun _=>K) (fun _=>[pt b7 (aU [i64 (if 1>hw.tag then 1 else hw.tag),.bool hw.oct,i64 op,.slice none 0 0,.slice none 0 0] 380),psb b s st2 (nv::rest)]) ?_ ?_
      ·
        refine aH (aB ?_);refine uAa ?_;refine uAq ?_;refine aG (aE ?_);refine bK 92 rfl (fun h92=>?_) (fun h92=>?_)
        ·
          refine uFr ?_;refine aG ?_
          first
            |exact bZ 265 (fun x hx=>by rw[aVJ h92];exact xM x _ aI) (.cons 0 rfl (.cons 7 rfl (.cons 10 rfl .nil))) rfl (fun _ h=>h)
            |exact bZ 177 (fun x hx=>by rw[aVI h92];exact kG x _) (.cons 0 rfl (.cons 7 rfl (.cons 10 rfl .nil))) rfl (fun _ h=>h)
        ·
          refine aW ?_
          first
            |exact bZ 265 (fun x hx=>by rw[aVJ h92];exact xM x _ aI) (.cons 0 rfl (.cons 7 rfl (.cons 10 rfl .nil))) rfl (fun _ h=>h)
            |exact bZ 177 (fun x hx=>by rw[aVI h92];exact kG x _) (.cons 0 rfl (.cons 7 rfl (.cons 10 rfl .nil))) rfl (fun _ h=>h)
      ·
        intro fn hfn;refine aH (aB ?_);refine uAx ?_;refine aY rfl rfl (p9 b s st2 (nv::rest) fn #[] (mX op) _ hs hok2 hg hfn) (.cons (.there .here) .nil) rfl (fun _ _=>a8 _ _) ?_ ?_
        ·
          rintro _ _ _ hTr le1;obtain⟨e,p,ha1,fb,h,rfl⟩:=bA hTr;cases h
          refine uAr ?_;simp only[hx,eY,n5,g28,ha1,if_true,if_false,↓reduceIte];exact⟨fb,rfl,rfl⟩
        rintro _ K _ hTr -;obtain⟨va,ha1,rfl,rfl⟩:=bB hTr;clear hTr;have hok3:=(mN hok2 ha1).1;refine hU fun K1 leA hA=>?_
        have oA:=hA.one;refine aA (aD (o':=3) aC4 rfl rfl) rfl ?_;refine bP (bH ts39 rfl rfl cD aX (.succ (.succ (.succ .zero))) rfl) ?_;rintro _ K _ ⟨rfl,rfl⟩ -;refine aG (aE ?_);refine aH (aB ?_);refine uAa ?_;refine aY rfl rfl (p9 b s va.2 (nv::rest) 177 #[] (fun _=>0) _ hs hok3 (hg.mono leA) (fun x hx=>kG x _)) (.cons .here .nil) rfl (fun _ _=>a8 _ _) ?_ ?_
        ·
          rintro _ _ _ hTr le1;obtain⟨e,p,hb1,fb,h,rfl⟩:=bA hTr;cases h
          refine uEf ?_;refine bJ (Hl.le_trans leA le1) ?_;simp only[hx,eY,n5,g28,ha1,hb1,if_true,if_false,↓reduceIte];exact⟨fb,rfl,rfl⟩
        rintro _ K _ hTr -;obtain⟨vb,hb1,rfl,rfl⟩:=bB hTr;clear hTr;refine hU fun K2 leB hB=>?_
        have oB:=hB.one;refine aA (aD (o':=4) aC5 rfl rfl) rfl ?_;refine bP (bH ts39 rfl rfl cD aX (.succ (.succ (.succ (.succ .zero)))) rfl) ?_;rintro _ K _ ⟨rfl,rfl⟩ -;refine aG (aE ?_);refine aH (aB ?_);refine aA (bX aE1 rfl aL rfl rfl) rfl ?_;refine aA (cL Tryz.underlying380 (fun _ h=>by cases h) rfl) rfl ?_;refine uAb ?_;refine aG (aE ?_);refine uDi ?_;refine bF rfl rfl (Hl.le_trans leA leB) ?_;simp only[hx,eY,n5,g28,ha1,hb1,if_true,if_false,↓reduceIte];exact⟨_,rfl,⟨_,_,rfl,_,_,hA.mono leB,hB,rfl⟩,rfl⟩
end Go.Proofs
end
section
namespace Go.Syn
def Adv{α:Type}(s:aM)(T:St→Res (α×St)):Prop:=∀st r,Ok s st→T st=.ok r→Ok s r.2∧mu s r.2 < mu s st
def AdvE{α:Type}(s:aM)(T:St→Res (α×St)):Prop:=∀st r,Ok s st→T st=.ok r→Ok s r.2∧mu s r.2≤mu s st
def AdvN{α:Type}(s:aM)(T:St→Res (α×St)):Prop:=∀st r,Ok s st→st.2.kind≠0→T st=.ok r→Ok s r.2∧mu s r.2 < mu s st
theorem Adv.n{α:Type}{s:aM}{T:St→Res (α×St)}(h:Adv s T):AdvN s T:=fun st r hok _ e=>h st r hok e
variable{s:aM}
theorem dS{st r:St}(hok:Ok s st)(hk:st.2.kind≠0)(h:next s st.1=.ok r):Ok s r∧mu s r < mu s st:=⟨eB hok.1 h,(fG hok.1 hk h).1⟩
theorem pJ{st:St}{k:Nat}{texts:List aM}{r:Word×St}(hok:Ok s st)(hk:k≠0)(h:take s st k texts=.ok r):Ok s r.2∧mu s r.2 < mu s st:=⟨vK hok.1 h,(aE3 hok.1 hk h).1⟩
theorem fX{st r:St}{x:aM}(hok:Ok s st)(h:sign s st x=.ok r):Ok s r∧mu s r < mu s st:=⟨yH hok.1 h,(aK3 hok.1 h).1⟩
theorem sF{st:St}{x:aM}{r:Bool×St}(hok:Ok s st)(h:eat s st x=.ok r):Ok s r.2∧mu s r.2≤mu s st:=⟨vZ hok h,(vY hok.1 h).2.1⟩
theorem m4{st:St}{ff:aM→Int}{r:aM×St}(hok:Ok s st)(h:text s st ff=.ok r):Ok s r.2∧mu s r.2 < mu s st:=⟨lP hok.1 h,(jP hok.1 h).1⟩
theorem aCS:∀ {f:Nat} {h:How} {st:St} {r:How×St},Ok s st→eY s f h st=.ok r→Ok s r.2∧mu s r.2≤mu s st:=by
 intro f;induction f with
 |zero=>intro h st r _ e;cases e
 |succ f ih=>
  intro h st r hok e;simp only[eY]at e;split at e
  ·rename_i hk;split at e
   ·cases e
   split at e
   ·cases e
   split at e
   ·split at e
    ·cases e
    ·rename_i q hq;have h1:=dS hok aI hq;have:=ih h1.1 e;exact⟨this.1,by omega⟩
   ·split at e
    ·cases e
    ·rename_i q hq;have h1:=dS hok aI hq;split at e
     ·cases e
     ·rename_i x hx;have h2:=m4 h1.1 hx;have:=ih h2.1 e;exact⟨this.1,by omega⟩
  ·cases e;exact⟨hok,Nat.le_refl _⟩
theorem tS{needs:List aM}{op:Int}{ext:aM}:AdvN s (kO s needs op ext):=by
 intro st r hok hk e;unfold kO at e;split at e
 ·cases e
 split at e
 ·cases e
 rename_i q hq;have h1:=dS hok hk hq;unfold n5 at e;split at e
 ·cases e
 rename_i h hh;have h2:=aCS h1.1 hh;split at e
 ·cases e
 rename_i a ha;have h3:=mN h2.1 ha;split at e
 ·cases e
 rename_i b hb;have h4:=mN h3.1 hb;cases e
 exact⟨h4.1,by simp only[];omega⟩
theorem rJ{c:Tree}:AdvN s (lN s c):=by
 intro st r hok hk e;unfold lN at e;split at e
 ·cases e
 rename_i q hq;have h1:=dS hok hk hq;split at e
 ·cases e
 rename_i x hx;have h2:=fX h1.1 hx;cases e
 exact⟨h2.1,by simp only[];omega⟩
theorem yQ{needs:List aM}{k:Int}{ext:aM}{p:Int}:AdvN s (actC s needs k ext p):=by
 intro st r hok hk e;unfold actC at e;split at e
 ·cases e
 split at e
 ·cases e
 rename_i q hq;have h1:=dS hok hk hq;split at e
 ·cases e
 rename_i x hx;have h2:=pJ h1.1 (by decide) hx;split at e
 ·cases e
 rename_i y hy;have h3:=fX h2.1 hy;cases e
 exact⟨h3.1,by simp only[];omega⟩
theorem y5{b:Bool}:AdvN s (m8 s b):=by
 intro st r hok hk e;unfold m8 at e;split at e
 ·cases e
 rename_i q hq;have h1:=dS hok hk hq;cases e
 exact⟨h1.1,by simp only[];omega⟩
theorem aF4:AdvN s (nF s):=by
 intro st r hok hk e;unfold nF at e;split at e
 ·cases e
 rename_i q hq;have h1:=dS hok hk hq;split at e
 ·cases e
 rename_i a ha;have h3:=mN h1.1 ha;cases e
 exact⟨h3.1,by simp only[];omega⟩
theorem aN0:AdvN s (qP s):=by
 intro st r hok hk e;unfold qP at e;split at e
 ·cases e
 rename_i q hq;have h1:=dS hok hk hq;split at e
 ·cases e
 rename_i x hx;have h2:=pJ h1.1 (by decide) hx;split at e
 ·cases e
 rename_i y hy;have h3:=pJ h2.1 (by decide) hy;cases e
 exact⟨h3.1,by simp only[];omega⟩
theorem aQX{T:St→Res (Tree×St)}(hT:Adv s T):AdvN s (notC s T):=by
 intro st r hok hk e;unfold notC at e;split at e
 ·cases e
 rename_i q hq;have h1:=dS hok hk hq;split at e
 ·cases e
 rename_i t ht;have h2:=hT _ _ h1.1 ht;cases e
 exact⟨h2.1,by simp only[];omega⟩
theorem aMX{T:St→Res (Tree×St)}(hT:Adv s T):∀ {f:Nat} {acc:Tree} {st:St} {r:Tree×St},Ok s st→qN s T f acc st=.ok r→Ok s r.2∧mu s r.2≤mu s st:=by
 intro f;induction f with
 |zero=>intro acc st r _ e;cases e
 |succ f ih=>
  intro acc st r hok e;simp only[qN]at e;split at e
  ·cases e
  rename_i q hq;have h1:=sF hok hq;split at e
  ·split at e
   ·cases e
   rename_i t ht;have h2:=hT _ _ h1.1 ht;have:=ih h2.1 e;exact⟨this.1,by omega⟩
  ·split at e
   ·cases e
   rename_i y hy;have h2:=fX h1.1 hy;cases e
   exact⟨h2.1,by simp only[];omega⟩
theorem aB7{T:St→Res (Tree×St)}{all:Bool}(hT:Adv s T):AdvN s (oP s T all):=by
 intro st r hok hk e;unfold oP at e;split at e
 ·cases e
 rename_i q hq;have h1:=dS hok hk hq;split at e
 ·cases e
 rename_i x hx;have h2:=fX h1.1 hx;split at e
 ·cases e
 rename_i t ht;have h3:=hT _ _ h2.1 ht;unfold vC at e;split at e
 ·cases e
 rename_i l hl;have h4:=aMX hT h3.1 hl;cases e
 exact⟨h4.1,by simp only[];omega⟩
theorem aN9{needs:List aM}{T:St→Res (Tree×St)}(hT:Adv s T){st:St}{r:Tree×St}(hok:Ok s st)(hk:st.2.kind≠0)(e:tE s needs T st=some (.ok r)):Ok s r.2∧mu s r.2 < mu s st:=by
 unfold tE at e;simp only[]at e;split at e
 ·exact y5 _ _ hok hk (by simpa using e)
 split at e
 ·exact y5 _ _ hok hk (by simpa using e)
 split at e
 ·exact aQX hT _ _ hok hk (by simpa using e)
 split at e
 ·exact aB7 hT _ _ hok hk (by simpa using e)
 split at e
 ·exact aB7 hT _ _ hok hk (by simpa using e)
 split at e
 ·exact tS _ _ hok hk (by simpa using e)
 split at e
 ·exact tS _ _ hok hk (by simpa using e)
 split at e
 ·exact tS _ _ hok hk (by simpa using e)
 split at e
 ·exact aF4 _ _ hok hk (by simpa using e)
 split at e
 ·exact aN0 _ _ hok hk (by simpa using e)
 ·cases e
theorem m0{needs:List aM}:∀n,Adv s (test s needs n):=by
 intro n;induction n with
 |zero=>intro st r hok e;simp only[test]at e;split at e <;> cases e
 |succ n ih=>
  intro st r hok e;simp only[test]at e;split at e
  ·rename_i hk;split at e
   ·rename_i x hx;subst e;exact aN9 ih hok aI hx
   ·cases e
  ·cases e
theorem kS{B:St→Res (Tree×St)}(hB:AdvE s B):Adv s (bodyC s B):=by
 intro st r hok e;unfold bodyC at e;split at e
 ·cases e
 rename_i q hq;have h1:=fX hok hq;split at e
 ·cases e
 rename_i b hb;have h2:=hB _ _ h1.1 hb;split at e
 ·cases e
 rename_i y hy;have h3:=fX h2.1 hy;cases e
 exact⟨h3.1,by simp only[];omega⟩
theorem aMA{B:St→Res (Tree×St)}(hB:AdvE s B){acc:Tree}:AdvE s (jA s B acc):=by
 intro st r hok e;unfold jA at e;split at e
 ·rename_i hk;split at e
  ·cases e
  rename_i q hq;have h1:=dS hok aI hq;split at e
  ·cases e
  rename_i b hb;have h2:=kS hB _ _ h1.1 hb;cases e
  exact⟨h2.1,by simp only[];omega⟩
 ·cases e;exact⟨hok,Nat.le_refl _⟩
theorem aIJ{T B:St→Res (Tree×St)}(hT:Adv s T)(hB:AdvE s B):∀ {f:Nat} {acc:Tree} {st:St} {r:Tree×St},Ok s st→fK s T B f acc st=.ok r→Ok s r.2∧mu s r.2≤mu s st:=by
 intro f;induction f with
 |zero=>intro acc st r _ e;cases e
 |succ f ih=>
  intro acc st r hok e;simp only[fK]at e;split at e
  ·rename_i hk;split at e
   ·cases e
   rename_i q hq;have h1:=dS hok aI hq;split at e
   ·cases e
   rename_i t ht;have h2:=hT _ _ h1.1 ht;split at e
   ·cases e
   rename_i b hb;have h3:=kS hB _ _ h2.1 hb;have:=ih h3.1 e;exact⟨this.1,by omega⟩
  ·exact aMA hB _ _ hok e
theorem aTV{T B:St→Res (Tree×St)}(hT:Adv s T)(hB:AdvE s B):AdvN s (ifC s T B):=by
 intro st r hok hk e;unfold ifC at e;split at e
 ·cases e
 rename_i q hq;have h1:=dS hok hk hq;split at e
 ·cases e
 rename_i t ht;have h2:=hT _ _ h1.1 ht;split at e
 ·cases e
 rename_i b hb;have h3:=kS hB _ _ h2.1 hb;have:=aIJ hT hB h3.1 e;exact⟨this.1,by omega⟩
theorem aHE{needs:List aM}:AdvN s (setC s needs):=by
 intro st r hok hk e;unfold setC at e;split at e
 ·split at e
  ·cases e
  rename_i q hq;have h1:=dS hok hk hq;split at e
  ·cases e
  rename_i t ht;have h2:Ok s t.2∧mu s t.2≤mu s q:=by
   unfold kB at ht;split at ht
   ·rename_i hk2;split at ht
    ·cases ht
    split at ht
    ·cases ht
    rename_i x hx;cases ht
    have:=dS h1.1 aI hx;exact⟨this.1,by simp only[];omega⟩
   ·cases ht;exact⟨h1.1,Nat.le_refl _⟩
  unfold nJ at e;split at e
  ·cases e
  rename_i n hn;have h3:=m4 h2.1 hn;split at e
  ·cases e
  rename_i v hv;have h4:=m4 h3.1 hv;split at e
  ·cases e
  rename_i y hy;have h5:=fX h4.1 hy;cases e
  exact⟨h5.1,by simp only[];omega⟩
 ·cases e
theorem aNV{needs:List aM}:AdvN s (aAN s needs):=by
 intro st r hok hk e;unfold aAN at e;split at e
 ·cases e
 rename_i q hq;have h1:=aHE _ _ hok hk hq;cases e
 exact⟨h1.1,by simp only[];omega⟩
theorem y4{needs:List aM}{T B:St→Res (Tree×St)}(hT:Adv s T)(hB:AdvE s B){st:St}{r:Tree×St}(hok:Ok s st)(hk:st.2.kind≠0)(e:cmdD s needs T B st=some (.ok r)):Ok s r.2∧mu s r.2 < mu s st:=by
 unfold cmdD at e;simp only[]at e;split at e
 ·exact rJ _ _ hok hk (by simpa using e)
 split at e
 ·exact rJ _ _ hok hk (by simpa using e)
 split at e
 ·exact rJ _ _ hok hk (by simpa using e)
 split at e
 ·exact yQ _ _ hok hk (by simpa using e)
 split at e
 ·exact yQ _ _ hok hk (by simpa using e)
 split at e
 ·exact yQ _ _ hok hk (by simpa using e)
 split at e
 ·exact aNV _ _ hok hk (by simpa using e)
 split at e
 ·exact aTV hT hB _ _ hok hk (by simpa using e)
 ·cases e
theorem aH9{C:St→Option (Res (Tree×St))}(hC:∀ {st r},Ok s st→st.2.kind≠0→C st=some (.ok r)→Ok s r.2∧mu s r.2 < mu s st):∀ {f:Nat} {acc:Tree} {st:St} {r:Tree×St},Ok s st→kM s C f acc st=.ok r→Ok s r.2∧mu s r.2≤mu s st:=by
 intro f;induction f with
 |zero=>intro acc st r _ e;cases e
 |succ f ih=>
  intro acc st r hok e;simp only[kM]at e;split at e
  ·rename_i hk;split at e
   ·cases e
   ·cases e
   rename_i c hc;have h1:=hC hok aI hc;have:=ih h1.1 e;exact⟨this.1,by omega⟩
  ·cases e;exact⟨hok,Nat.le_refl _⟩
theorem sD{needs:List aM}:∀n,AdvE s (block s needs n):=by
 intro n;induction n with
 |zero=>intro st r hok e;simp only[block]at e;split at e <;> cases e;exact⟨hok,Nat.le_refl _⟩
 |succ n ih=>
  intro st r hok e;simp only[block]at e;exact aH9 (fun h1 h2 h3=>y4 (m0 n) ih h1 h2 h3) hok e
end Go.Syn
namespace Go.Syn
variable{s:aM}
theorem aMS{ff:aM→Int}:∀ {f:Nat} {st:St} {acc:List aM} {r:List aM×St},Ok s st→oO s ff f st acc=.ok r→r.1.length+mu s r.2≤acc.length+mu s st:=by
 intro f;induction f with
 |zero=>intro st acc r _ h;cases h
 |succ f ih=>
  intro st acc r hok h;simp only[oO]at h;split at h
  ·cases h
  ·rename_i q hq;have h1:=sF hok hq;split at h
   ·split at h
    ·cases h
    ·rename_i x hx;have h2:=m4 h1.1 hx;have:=ih h2.1 h;simp at this;omega
   ·split at h
    ·cases h
    ·rename_i y hy;have h2:=fX h1.1 hy;cases h
     simp only[];omega
theorem rB{ff:aM→Int}{st:St}{r:List aM×St}(hok:Ok s st)(h:list s st ff=.ok r):r.1.length+mu s r.2≤mu s st:=by
 unfold list at h;split at h
 ·cases h
 ·rename_i q hq;have h1:=sF hok hq;split at h
  ·cases h
  ·rename_i x hx;have h2:=m4 h1.1 hx;split at h
   ·have:=aMS h2.1 h;simp at this;omega
   ·cases h;simp only[List.length_singleton];omega
def pR:aM:=[114,101,113,117,105,114,101]
def aA1:List aM:=[gT,iK,kL,eO]
def addN(ns:List aM)(e:aM):List aM:=if e∈ns then ns else ns++[e]
def iO(ns l:List aM):List aM:=l.foldl addN ns
theorem aO1(ns:List aM)(e:aM):(addN ns e).length≤ns.length+1:=by unfold addN;split <;> simp
theorem mJ{ns l:List aM}{i:Nat}{e:aM}(h:l[i]?=some e):iO ns (l.take (i+1))=addN (iO ns (l.take i)) e:=by
 have hi:i < l.length:=by
  rcases Nat.lt_or_ge i l.length with h'|h'
  ·exact h'
  ·simp[List.getElem?_eq_none h']at h
 have hc:l[i]=e:=by simpa[List.getElem?_eq_getElem hi]using h
 rw[List.take_succ_eq_append_getElem hi,hc];simp[iO]
theorem aDJ{ns l:List aM}{i:Nat}(h:l.length≤i):iO ns (l.take i)=iO ns l:=by rw[List.take_of_length_le h]
def reqF(s:aM):Nat→List aM→St→Res (List aM×St)
 |0,_,_=>.error (0,0)
 |f+1,ns,st=>
  if st.2.kind=1∧st.2.s=pR then
   match next s st.1 with
   | .error e=>.error e
   | .ok r=>
    match list s r (oneOf 6 aA1)with
    | .error e=>.error e
    | .ok l=>
     match sign s l.2 [59]with
     | .error e=>.error e
     | .ok q=>reqF s f (iO ns l.1) q
  else .ok (ns,st)
def hZ(s:aM)(n:Res (List aM×St)):Res (List aM×Tree):=
 match n with
 | .error e=>.error e
 | .ok n=>
  match block s n.1 7 n.2 with
  | .error e=>.error e
  | .ok b=>if b.2.2.kind=0 then .ok (n.1,b.1)else .error (4,b.2.2.at_)
def gR(s:aM):Res (List aM×Tree):=
 match next s 0 with
 | .error e=>.error e
 | .ok r=>hZ s (reqF s (mu s r+1) [] r)
end Go.Syn
end
section
namespace Go.Proofs
open Go Go.SL Go.Syn
def RT(s:List UInt8)(b:Nat)(rest:List Value)(r:Res (Tree×St)):Ending→Hl→List Asn→Prop:=fT r fun r v K' L'=>Rep1 K' r.1 v∧L'=[psb b s r.2 rest]
theorem aG3(K:Hl)(k:Int)(a:List UInt8)(p:Int):Rep1 K (.act k a p) (.iface 282 (.agg #[i64 k,str a,i64 p])):=⟨_,_,rfl,rfl⟩
theorem aAG(K:Hl)(op:Int):Rep1 K (.plain op) (.iface 285 (.agg #[i64 op])):=⟨_,_,rfl,rfl⟩
theorem aUL(at_:Int)(K:Hl):Sp Tryz.prog 159 [i64 at_] K [] (Val (.iface 282 (.agg #[i64 1,str [],i64 at_])) K):=by
 refine aZ Tryz.func159 rfl Tryz.ntmps159 rfl rfl fun F w=>?_
 refine aH (aB ?_);refine uAb ?_;refine aG (aE ?_);refine aH (aB ?_);refine uAa ?_;refine aA (cP aVO aR6 (.cons rfl rfl rfl (.cons .nil) (.cons rfl rfl rfl (.skip (.skip (.cons .nil))) .nil))) rfl ?_;refine aA (cL Tryz.underlying282 (fun _ h=>by cases h) rfl) rfl ?_;refine uAb ?_;refine aG (aE ?_);refine bI ?_;refine bF rfl rfl (Hl.le_refl _) ?_;exact⟨rfl,rfl,rfl⟩
theorem aUM(at_:Int)(K:Hl):Sp Tryz.prog 160 [i64 at_] K [] (Val (.iface 285 (.agg #[i64 13])) K):=by
 refine aZ Tryz.func160 rfl Tryz.ntmps160 rfl rfl fun F w=>?_
 refine aH (aB ?_);refine uAb ?_;refine aG (aE ?_);refine aH (aB ?_);refine aA (cP aVP aR7 (.cons rfl rfl rfl (.cons .nil) .nil)) rfl ?_;refine aA (cL Tryz.underlying285 (fun _ h=>by cases h) rfl) rfl ?_;refine uAb ?_;refine aG (aE ?_);refine bI ?_;refine bF rfl rfl (Hl.le_refl _) ?_;exact⟨rfl,rfl,rfl⟩
theorem aUN(at_:Int)(K:Hl):Sp Tryz.prog 161 [i64 at_] K [] (Val (.iface 285 (.agg #[i64 14])) K):=by
 refine aZ Tryz.func161 rfl Tryz.ntmps161 rfl rfl fun F w=>?_
 refine aH (aB ?_);refine uAb ?_;refine aG (aE ?_);refine aH (aB ?_);refine aA (cP aVP aR7 (.cons rfl rfl rfl (.cons .nil) .nil)) rfl ?_;refine aA (cL Tryz.underlying285 (fun _ h=>by cases h) rfl) rfl ?_;refine uAb ?_;refine aG (aE ?_);refine bI ?_;refine bF rfl rfl (Hl.le_refl _) ?_;exact⟨rfl,rfl,rfl⟩
theorem qD(b:Nat)(s:List UInt8)(st:St)(at_ dp:Int)(rest:List Value)(b1:Nat)(fn:FuncId)(v:Value)(c:Tree)(K:Hl)(hs:s.length≤600)(hok:Ok s st)(hg:Glob K)
  (h1:K b1=some (aU [.func (.func fn) #[] #[]] 283)) (hfn:∀K,Sp Tryz.prog fn [i64 at_] K [] (Val v K)) (hc:∀K,Rep1 K c v):
  Sp Tryz.prog 259 [ptr b,i64 at_,i64 dp,ptr b1] K [psb b s st rest] (RT s b rest (lN s c st)):=by
 have ha:=hok.1;refine aZ Tryz.func259 rfl Tryz.ntmps259 rfl rfl fun F w=>?_
 refine aH (aB ?_);refine uAb ?_;refine aG (aE ?_);refine aH (aB ?_);refine uEi ?_;refine aY rfl rfl (dL b 208 s st.1 _ _ _ _ rest hs ha _ hg) (.cons .here .nil) rfl (fun _ _=>a8 _ _) ?_ ?_
 ·
  rintro _ _ _ hTr le1;obtain⟨e,p,hr,fb,h,rfl⟩:=bA hTr;cases h
  refine uAr ?_;simp only[RT,lN,hr,if_true,if_false,↓reduceIte];exact⟨fb,rfl,rfl⟩
 rintro _ K _ hTr -;obtain⟨r,hr,rfl,rfl,rfl⟩:=bB hTr;clear hTr;have hro:=eB ha hr;refine aG (aE ?_);refine aH (aB ?_);refine uAa ?_;refine aY rfl rfl (jU b s r rest [59] _ hs hro.1 hg) (.cons .here .nil) rfl (fun _ _=>a8 _ _) ?_ ?_
 ·
  rintro _ _ _ hTr le1;obtain⟨e,p,hq,fb,h,rfl⟩:=bA hTr;cases h
  refine uAr ?_;simp only[RT,lN,hr,hq,if_true,if_false,↓reduceIte];exact⟨fb,rfl,rfl⟩
 rintro _ K _ hTr -;obtain⟨q,hq,rfl,rfl,rfl⟩:=bB hTr;clear hTr;refine aG (aE ?_);refine aH (aB ?_);refine aA (aJ aZE rfl aL rfl) rfl ?_;refine uAa ?_;refine cA rfl rfl (hfn _) rfl ?_;refine uAb ?_;refine aG (aE ?_);refine uDi ?_;refine bF rfl rfl (Hl.le_refl _) ?_;simp only[RT,lN,hr,hq,if_true,if_false,↓reduceIte];exact⟨_,rfl,hc _,rfl⟩
theorem pW(b:Nat)(s:List UInt8)(st:St)(at_ dp:Int)(nv:Value)(rest:List Value)(needs:List (List UInt8))(b1 b2:Nat)(kd:Int)(ext:List UInt8)(K:Hl)(hs:s.length≤600)(hok:Ok s st)(hg:Glob K)(hv:Ksl (bT 9) K nv needs)(hn:needs.length≤1000000)
  (h1:K b1=some (aU [str ext] 9)) (h2:K b2=some (aU [i64 kd] 3)):
  Sp Tryz.prog 260 [ptr b,i64 at_,i64 dp,ptr b1,ptr b2] K [psb b s st (nv::rest)] (RT s b (nv::rest) (actC s needs kd ext at_ st)):=by
 have ha:=hok.1;refine aZ Tryz.func260 rfl Tryz.ntmps260 rfl rfl fun F w=>?_
 refine aH (aB ?_);refine uAb ?_;refine aG (aE ?_);refine gS (fun(_:Unit)=>¬(ext≠[]∧ext∉needs)) (fun _=>[(0,ptr b),(1,i64 at_),(4,ptr b2)]) (fun _=>K) (fun _=>[psb b s st (nv::rest)]) ?_ ?_
 ·
  refine aH (aB ?_);refine aA (aJ ts9 rfl (.known h1) rfl) rfl ?_;refine aA (o2 rfl rfl) rfl ?_;refine aG (aE ?_);refine bK 11 rfl (fun h11=>?_) (fun h11=>?_)
  ·
   refine uAf ?_;refine aA (aJ ts9 rfl (.known h1) rfl) rfl ?_;refine aY rfl rfl (tW b s st nv rest needs ext _ hv hn) (.cons .here .nil) rfl (fun _ _=>a8 _ _) ?_ ?_
   ·
    rintro _ _ _ hTr le1;obtain⟨e,p,hu,fb,h,rfl⟩:=bA hTr;cases h
    refine uAr ?_;have hm:¬ext∈needs:=(by intro h;rw[if_pos h]at hu;cases hu);rw[if_neg hm]at hu;cases hu
    unfold RT actC;rw[if_pos ⟨h11,hm⟩];exact⟨fb,rfl,rfl⟩
   rintro _ K _ hTr -;obtain⟨u0,hu,rfl,rfl,rfl⟩:=bB hTr;clear hTr;have hm:ext∈needs:=Classical.byContradiction (fun h=>by rw[if_neg h]at hu;cases hu);have hne:¬(ext≠[]∧ext∉needs):=fun h=>h.2 hm
   refine aG ?_;exact bZ () hne (.cons 0 rfl (.cons 1 rfl (.cons 4 rfl .nil))) rfl (fun _ h=>h)
  ·
   have hne:¬(ext≠[]∧ext∉needs):=fun h=>h11 h.1
   refine aW ?_;exact bZ () hne (.cons 0 rfl (.cons 1 rfl (.cons 4 rfl .nil))) rfl (fun _ h=>h)
 ·
  intro _ hne;refine aH (aB ?_);refine uEi ?_;refine aY rfl rfl (dL b 208 s st.1 _ _ _ _ (nv::rest) hs ha _ hg) (.cons .here .nil) rfl (fun _ _=>a8 _ _) ?_ ?_
  ·
   rintro _ _ _ hTr le1;obtain⟨e,p,hr,fb,h,rfl⟩:=bA hTr;cases h
   refine uAr ?_;simp only[RT,actC,if_neg hne,hr,if_true,if_false,↓reduceIte];exact⟨fb,rfl,rfl⟩
  rintro _ K _ hTr -;obtain⟨r,hr,rfl,rfl,rfl⟩:=bB hTr;clear hTr;have hro:=eB ha hr;refine aG (aE ?_);refine aH (aB ?_);refine uAa ?_;refine aY rfl rfl (mG b s r (nv::rest) 3 _ [] _ hs hro.1 hg (.inl ⟨none,0,rfl,rfl⟩) (by simp)) (.cons .here .nil) rfl (fun _ _=>a8 _ _) ?_ ?_
  ·
   rintro _ _ _ hTr le1;obtain⟨e,p,hx,fb,h,rfl⟩:=bA hTr;cases h
   refine uAr ?_;simp only[RT,actC,if_neg hne,hr,hx,if_true,if_false,↓reduceIte];exact⟨fb,rfl,rfl⟩
  rintro _ K _ hTr -;obtain⟨x,hx,rfl,rfl,rfl⟩:=bB hTr;clear hTr;have hxo:=vK hro.1 hx;refine uIk ?_;refine uAb ?_;refine aG (aE ?_);refine aH (aB ?_);refine uAa ?_;refine aY rfl rfl (jU b s x.2 (nv::rest) [59] _ hs hxo.1 hg) (.cons .here .nil) rfl (fun _ _=>a8 _ _) ?_ ?_
  ·
   rintro _ _ _ hTr le1;obtain⟨e,p,hq,fb,h,rfl⟩:=bA hTr;cases h
   refine uAr ?_;simp only[RT,actC,if_neg hne,hr,hx,hq,if_true,if_false,↓reduceIte];exact⟨fb,rfl,rfl⟩
  rintro _ K _ hTr -;obtain⟨q,hq,rfl,rfl,rfl⟩:=bB hTr;clear hTr;refine aG (aE ?_);refine aH (aB ?_);refine aA (aJ ts3 rfl (.known h2) rfl) rfl ?_;refine uAx ?_;refine aA (cP aVO aR6 (.cons rfl rfl rfl (.cons .nil) (.cons rfl rfl rfl (.skip (.cons .nil)) (.cons rfl rfl rfl (.skip (.skip (.cons .nil))) .nil)))) rfl ?_;refine aA (cL Tryz.underlying282 (fun _ h=>by cases h) rfl) rfl ?_;refine uAb ?_;refine aG (aE ?_);refine uDi ?_;refine bF rfl rfl (Hl.le_refl _) ?_;simp only[RT,actC,if_neg hne,hr,hx,hq,if_true,if_false,↓reduceIte];exact⟨_,rfl,aG3 _ _ _ _,rfl⟩
theorem aOQ(b:Nat)(s:List UInt8)(st:St)(dp:Int)(rest:List Value)(K:Hl)(hs:s.length≤600)(hok:Ok s st)(hg:Glob K):Sp Tryz.prog 165 [ptr b,i64 dp] K [psb b s st rest] (RT s b rest (m8 s true st)):=by
 have ha:=hok.1;refine aZ Tryz.func165 rfl Tryz.ntmps165 rfl rfl fun F w=>?_
 refine aH (aB ?_);refine uAb ?_;refine aG (aE ?_);refine aH (aB ?_);refine uEi ?_;refine aY rfl rfl (dL b 208 s st.1 _ _ _ _ rest hs ha _ hg) (.cons .here .nil) rfl (fun _ _=>a8 _ _) ?_ ?_
 ·
  rintro _ _ _ hTr le1;obtain⟨e,p,hr,fb,h,rfl⟩:=bA hTr;cases h
  refine uAr ?_;simp only[RT,m8,hr,if_true,if_false,↓reduceIte];exact⟨fb,rfl,rfl⟩
 rintro _ K _ hTr -;obtain⟨r,hr,rfl,rfl,rfl⟩:=bB hTr;clear hTr;refine aG (aE ?_);refine aH (aB ?_);refine aA (cL Tryz.underlying289 (fun _ h=>by cases h) rfl) rfl ?_;refine uAb ?_;refine aG (aE ?_);refine uDi ?_;refine bF rfl rfl (Hl.le_refl _) ?_;simp only[RT,m8,hr,if_true,if_false,↓reduceIte];exact⟨_,rfl,⟨_,_,rfl,rfl⟩,rfl⟩
theorem aIS(b:Nat)(s:List UInt8)(st:St)(dp:Int)(rest:List Value)(K:Hl)(hs:s.length≤600)(hok:Ok s st)(hg:Glob K):Sp Tryz.prog 166 [ptr b,i64 dp] K [psb b s st rest] (RT s b rest (m8 s false st)):=by
 have ha:=hok.1;refine aZ Tryz.func166 rfl Tryz.ntmps166 rfl rfl fun F w=>?_
 refine aH (aB ?_);refine uAb ?_;refine aG (aE ?_);refine aH (aB ?_);refine uEi ?_;refine aY rfl rfl (dL b 208 s st.1 _ _ _ _ rest hs ha _ hg) (.cons .here .nil) rfl (fun _ _=>a8 _ _) ?_ ?_
 ·
  rintro _ _ _ hTr le1;obtain⟨e,p,hr,fb,h,rfl⟩:=bA hTr;cases h
  refine uAr ?_;simp only[RT,m8,hr,if_true,if_false,↓reduceIte];exact⟨fb,rfl,rfl⟩
 rintro _ K _ hTr -;obtain⟨r,hr,rfl,rfl,rfl⟩:=bB hTr;clear hTr;refine aG (aE ?_);refine aH (aB ?_);refine aA (cL Tryz.underlying289 (fun _ h=>by cases h) rfl) rfl ?_;refine uAb ?_;refine aG (aE ?_);refine uDi ?_;refine bF rfl rfl (Hl.le_refl _) ?_;simp only[RT,m8,hr,if_true,if_false,↓reduceIte];exact⟨_,rfl,⟨_,_,rfl,rfl⟩,rfl⟩
theorem aF6(b:Nat)(s:List UInt8)(st:St)(dp:Int)(rest:List Value)(K:Hl)(hs:s.length≤600)(hok:Ok s st)(hg:Glob K):Sp Tryz.prog 176 [ptr b,i64 dp] K [psb b s st rest] (RT s b rest (nF s st)):=by
 have ha:=hok.1;refine aZ Tryz.func176 rfl Tryz.ntmps176 rfl rfl fun F w=>?_
 refine aH (aB ?_);refine uAb ?_;refine aG (aE ?_);refine aH (aB ?_);refine uEi ?_;refine aY rfl rfl (dL b 208 s st.1 _ _ _ _ rest hs ha _ hg) (.cons .here .nil) rfl (fun _ _=>a8 _ _) ?_ ?_
 ·
  rintro _ _ _ hTr le1;obtain⟨e,p,hr,fb,h,rfl⟩:=bA hTr;cases h
  refine uAr ?_;simp only[RT,nF,hr,if_true,if_false,↓reduceIte];exact⟨fb,rfl,rfl⟩
 rintro _ K _ hTr -;obtain⟨r,hr,rfl,rfl,rfl⟩:=bB hTr;clear hTr;have hro:=eB ha hr;refine aG (aE ?_);refine aH (aB ?_);refine uAa ?_;refine aY rfl rfl (p9 b s r rest 177 #[] (fun _=>0) _ hs hro hg (fun x hx=>kG x _)) (.cons .here .nil) rfl (fun _ _=>a8 _ _) ?_ ?_
 ·
  rintro _ _ _ hTr le1;obtain⟨e,p,ha1,fb,h,rfl⟩:=bA hTr;cases h
  refine uAr ?_;simp only[RT,nF,hr,ha1,if_true,if_false,↓reduceIte];exact⟨fb,rfl,rfl⟩
 rintro _ K _ hTr -;obtain⟨va,ha1,rfl,rfl⟩:=bB hTr;clear hTr;refine hU fun K1 leA hA=>?_
 obtain⟨sa,sn,sc,rfl⟩:=hA.isSlice;refine aA (cP aY3 aXN (.cons rfl rfl rfl (.cons .nil) .nil)) rfl ?_;refine aA (cL Tryz.underlying297 (fun _ h=>by cases h) rfl) rfl ?_;refine uAb ?_;refine aG (aE ?_);refine uDi ?_;refine bF rfl rfl (by first|exact leA|exact Hl.le_refl _) ?_;simp only[RT,nF,hr,ha1,if_true,if_false,↓reduceIte];exact⟨_,rfl,⟨_,_,rfl,_,hA,rfl⟩,rfl⟩
theorem aN2(b:Nat)(s:List UInt8)(st:St)(dp:Int)(rest:List Value)(K:Hl)(hs:s.length≤600)(hok:Ok s st)(hg:Glob K):Sp Tryz.prog 178 [ptr b,i64 dp] K [psb b s st rest] (RT s b rest (qP s st)):=by
 have ha:=hok.1;refine aZ Tryz.func178 rfl Tryz.ntmps178 rfl rfl fun F w=>?_
 refine aH (aB ?_);refine uAb ?_;refine aG (aE ?_);refine aH (aB ?_);refine uEi ?_;refine aY rfl rfl (dL b 208 s st.1 _ _ _ _ rest hs ha _ hg) (.cons .here .nil) rfl (fun _ _=>a8 _ _) ?_ ?_
 ·
  rintro _ _ _ hTr le1;obtain⟨e,p,hr,fb,h,rfl⟩:=bA hTr;cases h
  refine uAr ?_;simp only[RT,qP,hr,if_true,if_false,↓reduceIte];exact⟨fb,rfl,rfl⟩
 rintro _ K _ hTr -;obtain⟨r,hr,rfl,rfl,rfl⟩:=bB hTr;clear hTr;have hro:=eB ha hr;refine aG (aE ?_);refine aH (aB ?_);refine uAb ?_;refine aG (aE ?_);refine aH (aH ?_);refine uAf ?_;refine ol_s (bN (z0:=[(str []),(str [])]) cX tz9 rfl rfl rfl rfl (.cons rfl rfl rfl (.cons .nil) (.cons rfl rfl rfl (.skip (.cons .nil)) .nil))) rfl ?_;rintro _ K _ ⟨b11,rfl,rfl,rfl⟩ -;refine fD fun K1 leA hK1=>?_
 refine aY rfl rfl (mG b s r rest 2 _ [aE9,oZ] _ hs hro.1 (hg.mono leA) (.inr ⟨b11,0,2,[str aE9,str oZ],(0,0),rfl,⟨_,hK1⟩,rfl⟩) (by simp)) (.cons .here .nil) rfl (fun _ _=>a8 _ _) ?_ ?_
 ·
  rintro _ _ _ hTr le1;obtain⟨e,p,hx,fb,h,rfl⟩:=bA hTr;cases h
  refine uEf ?_;refine aK ?_;refine bJ (Hl.le_trans leA le1) ?_;simp only[RT,qP,hr,hx,if_true,if_false,↓reduceIte];exact⟨fb,rfl,rfl⟩
 rintro _ K _ hTr -;obtain⟨x,hx,rfl,rfl,rfl⟩:=bB hTr;clear hTr;have hxo:=vK hro.1 hx;refine uIk ?_;refine uIl ?_;refine aG (aE ?_);refine bK 14 rfl (fun h14=>?_) (fun h14=>?_)
 ·
  have g14:x.1.s=oZ:=h14;refine uFr ?_;refine aG (aE ?_);refine aH (aB ?_);refine uAx ?_;refine aY rfl rfl (mG b s x.2 rest 4 _ [] _ hs hxo.1 (hg.mono leA) (.inl ⟨none,0,rfl,rfl⟩) (by simp)) (.cons .here .nil) rfl (fun _ _=>a8 _ _) ?_ ?_
  ·
   rintro _ _ _ hTr le1;obtain⟨e,p,hy,fb,h,rfl⟩:=bA hTr;cases h
   refine uEf ?_;refine bJ (Hl.le_trans leA le1) ?_;simp only[RT,qP,hr,hx,if_pos g14,hy,if_true,if_false,↓reduceIte];exact⟨fb,rfl,rfl⟩
  rintro _ K _ hTr -;obtain⟨y,hy,rfl,rfl,rfl⟩:=bB hTr;clear hTr;refine uHg ?_;refine aA (cL Tryz.underlying300 (fun _ h=>by cases h) rfl) rfl ?_;refine uAb ?_;refine aG (aE ?_);refine uDi ?_;refine bF rfl rfl leA ?_;simp only[RT,qP,hr,hx,if_pos g14,hy,if_true,if_false,↓reduceIte];exact⟨_,rfl,⟨_,_,rfl,rfl⟩,rfl⟩
 ·
  have g14:¬x.1.s=oZ:=h14;refine aW ?_;refine aE (aH ?_);refine uCf ?_;refine aY rfl rfl (mG b s x.2 rest 4 _ [] _ hs hxo.1 (hg.mono leA) (.inl ⟨none,0,rfl,rfl⟩) (by simp)) (.cons .here .nil) rfl (fun _ _=>a8 _ _) ?_ ?_
  ·
   rintro _ _ _ hTr le1;obtain⟨e,p,hy,fb,h,rfl⟩:=bA hTr;cases h
   refine uEf ?_;refine bJ (Hl.le_trans leA le1) ?_;simp only[RT,qP,hr,hx,if_neg g14,hy,if_true,if_false,↓reduceIte];exact⟨fb,rfl,rfl⟩
  rintro _ K _ hTr -;obtain⟨y,hy,rfl,rfl,rfl⟩:=bB hTr;clear hTr;refine uHg ?_;refine aA (cL Tryz.underlying300 (fun _ h=>by cases h) rfl) rfl ?_;refine uAb ?_;refine aG (aE ?_);refine uDi ?_;refine bF rfl rfl leA ?_;simp only[RT,qP,hr,hx,if_neg g14,hy,if_true,if_false,↓reduceIte];exact⟨_,rfl,⟨_,_,rfl,rfl⟩,rfl⟩
end Go.Proofs
end
section
namespace Go.Proofs
open Go Go.SL Go.Syn
structure PK (s:List UInt8) (needs:List (List UInt8)) (nv:Value) (K:Hl):Prop where
 hs:s.length≤600
 hg:Glob K
 hv:Ksl (bT 9) K nv needs
 hn:needs.length≤1000000
theorem PK.mono{s:List UInt8}{needs:List (List UInt8)}{nv:Value}{K K':Hl}(h:PK s needs nv K)(le:K.le K'):PK s needs nv K':=⟨h.hs,h.hg.mono le,h.hv.mono le,h.hn⟩
theorem aGC(b:Nat)(s:List UInt8)(st:St)(dp:Int)(nv:Value)(rest:List Value)(needs:List (List UInt8))(K:Hl)(hok:Ok s st)(hp:PK s needs nv K):Sp Tryz.prog 172 [ptr b,i64 dp] K [psb b s st (nv::rest)] (RT s b (nv::rest) (kO s needs 6 [] st)):=by
 refine aZ Tryz.func172 rfl Tryz.ntmps172 rfl rfl fun F w=>?_
 refine aH (aB ?_);refine uAb ?_;refine aG (aE ?_);refine aH (aB ?_);refine uAa ?_;refine aY rfl rfl (tU b s st 6 [] nv rest needs _ hp.hs hok hp.hg hp.hv hp.hn) (.cons .here .nil) rfl (fun _ _=>a8 _ _) ?_ ?_
 ·
  rintro _ _ _ hTr le1;obtain⟨e,p,hr,fb,h,rfl⟩:=bA hTr;cases h
  refine uAr ?_;simp only[RT,hr,if_true,if_false,↓reduceIte];exact⟨fb,rfl,rfl⟩
 rintro _ K1 _ hTr leK1;obtain⟨r,hr,hrep,rfl⟩:=bB hTr;clear hTr;refine uAb ?_;refine aG (aE ?_);refine uDi ?_;refine bF rfl rfl leK1 ?_;simp only[RT,hr,if_true,if_false,↓reduceIte];exact⟨_,rfl,hrep,rfl⟩
theorem aBI(b:Nat)(s:List UInt8)(st:St)(dp:Int)(nv:Value)(rest:List Value)(needs:List (List UInt8))(K:Hl)(hok:Ok s st)(hp:PK s needs nv K):Sp Tryz.prog 174 [ptr b,i64 dp] K [psb b s st (nv::rest)] (RT s b (nv::rest) (kO s needs 7 gT st)):=by
 refine aZ Tryz.func174 rfl Tryz.ntmps174 rfl rfl fun F w=>?_
 refine aH (aB ?_);refine uAb ?_;refine aG (aE ?_);refine aH (aB ?_);refine uAa ?_;refine aY rfl rfl (tU b s st 7 gT nv rest needs _ hp.hs hok hp.hg hp.hv hp.hn) (.cons .here .nil) rfl (fun _ _=>a8 _ _) ?_ ?_
 ·
  rintro _ _ _ hTr le1;obtain⟨e,p,hr,fb,h,rfl⟩:=bA hTr;cases h
  refine uAr ?_;simp only[RT,hr,if_true,if_false,↓reduceIte];exact⟨fb,rfl,rfl⟩
 rintro _ K1 _ hTr leK1;obtain⟨r,hr,hrep,rfl⟩:=bB hTr;clear hTr;refine uAb ?_;refine aG (aE ?_);refine uDi ?_;refine bF rfl rfl leK1 ?_;simp only[RT,hr,if_true,if_false,↓reduceIte];exact⟨_,rfl,hrep,rfl⟩
theorem aHM(b:Nat)(s:List UInt8)(st:St)(dp:Int)(nv:Value)(rest:List Value)(needs:List (List UInt8))(K:Hl)(hok:Ok s st)(hp:PK s needs nv K):Sp Tryz.prog 175 [ptr b,i64 dp] K [psb b s st (nv::rest)] (RT s b (nv::rest) (kO s needs 8 eO st)):=by
 refine aZ Tryz.func175 rfl Tryz.ntmps175 rfl rfl fun F w=>?_
 refine aH (aB ?_);refine uAb ?_;refine aG (aE ?_);refine aH (aB ?_);refine uAa ?_;refine aY rfl rfl (tU b s st 8 eO nv rest needs _ hp.hs hok hp.hg hp.hv hp.hn) (.cons .here .nil) rfl (fun _ _=>a8 _ _) ?_ ?_
 ·
  rintro _ _ _ hTr le1;obtain⟨e,p,hr,fb,h,rfl⟩:=bA hTr;cases h
  refine uAr ?_;simp only[RT,hr,if_true,if_false,↓reduceIte];exact⟨fb,rfl,rfl⟩
 rintro _ K1 _ hTr leK1;obtain⟨r,hr,hrep,rfl⟩:=bB hTr;clear hTr;refine uAb ?_;refine aG (aE ?_);refine uDi ?_;refine bF rfl rfl leK1 ?_;simp only[RT,hr,if_true,if_false,↓reduceIte];exact⟨_,rfl,hrep,rfl⟩
def s6(s:List UInt8)(b:Nat)(rest:List Value)(K:Hl)(dp:Int)(Tf:St→Res (Tree×St)):Prop:=
 ∀(st:St) (K':Hl),K.le K'→Ok s st→Sp Tryz.prog 168 [ptr b,i64 dp] K' [psb b s st rest] (RT s b rest (Tf st))
theorem aQZ(b:Nat)(s:List UInt8)(st:St)(dp:Int)(rest:List Value)(K:Hl)(Tf:St→Res (Tree×St))(hs:s.length≤600)(hok:Ok s st)(hg:Glob K)(hd:0≤dp∧dp≤6)(hT:s6 s b rest K (dp+1) Tf):
  Sp Tryz.prog 167 [ptr b,i64 dp] K [psb b s st rest] (RT s b rest (notC s Tf st)):=by
 have ha:=hok.1;refine aZ Tryz.func167 rfl Tryz.ntmps167 rfl rfl fun F w=>?_
 refine aH (aB ?_);refine uAb ?_;refine aG (aE ?_);refine aH (aB ?_);refine uEi ?_;refine aY rfl rfl (dL b 208 s st.1 _ _ _ _ rest hs ha _ hg) (.cons .here .nil) rfl (fun _ _=>a8 _ _) ?_ ?_
 ·
  rintro _ _ _ hTr le1;obtain⟨e,p,hr,fb,h,rfl⟩:=bA hTr;cases h
  refine uAr ?_;simp only[RT,notC,hr,if_true,if_false,↓reduceIte];exact⟨fb,rfl,rfl⟩
 rintro _ K _ hTr -;obtain⟨r,hr,rfl,rfl,rfl⟩:=bB hTr;clear hTr;have hro:=eB ha hr;refine aG (aE ?_);refine aH (aB ?_);refine uAx ?_;refine uCj ?_;refine aY rfl rfl (hT r _ (Hl.le_refl _) hro) (.cons .here .nil) rfl (fun _ _=>a8 _ _) ?_ ?_
 ·
  rintro _ _ _ hTr le1;obtain⟨e,p,ht,fb,h,rfl⟩:=bA hTr;cases h
  refine uAr ?_;simp only[RT,notC,hr,ht,if_true,if_false,↓reduceIte];exact⟨fb,rfl,rfl⟩
 rintro _ K1 _ hTr leK1;obtain⟨t,ht,⟨ty,u,rfl,hrep⟩,rfl⟩:=bB hTr;clear hTr;refine aA (cP aY2 aXM (.cons rfl rfl rfl (.cons .nil) .nil)) rfl ?_;refine aA (cL Tryz.underlying293 (fun _ h=>by cases h) rfl) rfl ?_;refine uAb ?_;refine aG (aE ?_);refine uDi ?_;refine bF rfl rfl leK1 ?_;simp only[RT,notC,hr,ht,if_true,if_false,↓reduceIte];exact⟨_,rfl,⟨_,_,rfl,_,hrep,rfl⟩,rfl⟩
theorem aPD(b:Nat)(e:TypeId)(c:Cell):∀h,pt b (aU [c.1] e) h→sl false (eD e) (.slice (some ⟨b,0,none⟩) 1 1) [c] h:=
 vH (k:=eD e) (xs:=[c]) (cells:=[c.1]) (Nat.le_refl _) rfl rfl (.inl (Nat.le_refl _)) (fun h=>by cases h)
theorem aB9(b:Nat)(s:List UInt8)(st:St)(all:Bool)(dp:Int)(rest:List Value)(K:Hl)(Tf:St→Res (Tree×St))(hs:s.length≤600)(hok:Ok s st)(hg:Glob K)(hd:0≤dp∧dp≤6)(hTa:Adv s Tf)(hT:s6 s b rest K (dp+1) Tf):
  Sp Tryz.prog 170 [ptr b,.bool all,i64 dp] K [psb b s st rest] (RT s b rest (oP s Tf all st)):=by
 have ha:=hok.1;refine aZ Tryz.func170 rfl Tryz.ntmps170 rfl rfl fun F w=>?_
 refine aH (aB ?_);refine uAb ?_;refine aG (aE ?_);refine aH (aB ?_);refine uEi ?_;refine aY rfl rfl (dL b 208 s st.1 _ _ _ _ rest hs ha _ hg) (.cons .here .nil) rfl (fun _ _=>a8 _ _) ?_ ?_
 ·
  rintro _ _ _ hTr le1;obtain⟨e,p,hr,fb,h,rfl⟩:=bA hTr;cases h
  refine uAr ?_;simp only[RT,oP,hr,if_true,if_false,↓reduceIte];exact⟨fb,rfl,rfl⟩
 rintro _ K _ hTr -;obtain⟨r,hr,rfl,rfl,rfl⟩:=bB hTr;clear hTr;have hro:=eB ha hr;refine aG (aE ?_);refine aH (aB ?_);refine uAa ?_;refine aY rfl rfl (jU b s r rest [40] _ hs hro.1 hg) (.cons .here .nil) rfl (fun _ _=>a8 _ _) ?_ ?_
 ·
  rintro _ _ _ hTr le1;obtain⟨e,p,hq,fb,h,rfl⟩:=bA hTr;cases h
  refine uAr ?_;simp only[RT,oP,hr,hq,if_true,if_false,↓reduceIte];exact⟨fb,rfl,rfl⟩
 rintro _ K _ hTr -;obtain⟨q,hq,rfl,rfl,rfl⟩:=bB hTr;clear hTr;have hqo:=yH hro.1 hq;refine aG (aE ?_);refine aH (aB ?_);refine uEg ?_;refine uCj ?_;refine aY rfl rfl (hT q _ (Hl.le_refl _) hqo) (.cons .here .nil) rfl (fun _ _=>a8 _ _) ?_ ?_
 ·
  rintro _ _ _ hTr le1;obtain⟨e,p,ht,fb,h,rfl⟩:=bA hTr;cases h
  refine uAr ?_;simp only[RT,oP,hr,hq,ht,if_true,if_false,↓reduceIte];exact⟨fb,rfl,rfl⟩
 rintro _ K1 _ hTr leK1;obtain⟨t,ht,⟨ty,u,rfl,hrep⟩,rfl⟩:=bB hTr;clear hTr;have hto:=(hTa _ _ hqo ht).1;refine ol_s (bN (z0:=[.nilIface]) rU aVW rfl rfl rfl rfl (.cons rfl rfl rfl (.cons .nil) .nil)) rfl ?_;rintro _ K _ ⟨b19,rfl,rfl,rfl⟩ -;refine aA (cP aY7 aXR (.cons rfl rfl rfl (.cons .nil) (.cons rfl rfl rfl (.skip (.cons .nil)) .nil))) rfl ?_;refine ol_s (cN aVZ) rfl ?_;rintro _ K _ ⟨b7,rfl,rfl,rfl⟩ -;refine bP (cJ aE0 rfl rfl rfl aX (by first|(simp[Value.oneCell'];done)|exact fun c hc=>El.one _ _ c hc) (.cons (.cons .nil)) (by intro j hj;simp)) ?_;rintro _ K _ ⟨rfl,rfl⟩ -;refine aG (aE ?_);refine aH (bE ?_);refine sN (fun(K2:Hl) (st2:St) (us:List (Cell×Cell)) (sv:Value)=>K.le K2∧Ok s st2∧us.length+mu s st2≤1300∧∃acc f,isTL acc=true∧Rep K2 acc us∧mu s st2≤f∧oP s Tf all st=vC all (qN s Tf (f+1) acc st2)) (fun _ _ _ _=>[(0,ptr b),(2,i64 dp),(7,ptr b7)]) (fun K2 _ _ _=>K2) (fun _ st2 us sv=>[pt b7 (aU [.bool all,sv] 376),sl false (eD 288) sv (us.map Prod.fst),psb b s st2 rest]) (fun _ st2 _ _=>mu s st2) _ t.2 [(⟨.iface ty u,rfl⟩,u0)] (.slice (some ⟨b19,0,none⟩) 1 1) ⟨Hl.le_refl _,hto,by have:=tA s t.2;simp;omega,.tcons t.1 .tnil,mu s t.2,rfl,⟨_,[],hrep,rfl,rfl⟩,Nat.le_refl _,by simp only[oP,hr,hq,ht]⟩ (.cons 0 rfl (.cons 2 rfl (.cons 7 rfl .nil))) rfl (fun h hh=>eH (fA (aPD b19 288 ⟨.iface ty u,rfl⟩) h (eH hh))) ?_;intro K2 st2 us sv ⟨leK,hok2,hus,acc,f,hacc,hrp,hf,hx⟩;refine aH (aH ?_);refine uAf ?_;refine aY rfl rfl (zC b s st2 rest [44] _ hs hok2.1 (hg.mono (Hl.le_trans leK1 leK))) (.cons (.there (.there .here)) .nil) rfl (fun _ _=>a8 _ _) ?_ ?_
 ·
  rintro _ _ _ hTr le1;obtain⟨e,p,hy,fb,h,rfl⟩:=bA hTr;cases h
  refine uEf ?_;refine aK ?_;refine uBc ?_;refine bJ (Hl.le_trans leK1 (Hl.le_trans leK le1)) ?_;simp only[RT,hx,qN,hy,if_true,if_false,↓reduceIte];exact⟨fb,rfl,rfl⟩
 rintro _ K _ hTr -;obtain⟨y,hy,rfl,rfl,rfl⟩:=bB hTr;clear hTr;obtain⟨hy1,hy2,hy3⟩:=vY hok2.1 hy;have hyo:=vZ hok2 hy;refine aG (aE ?_);refine eJ 22 rfl (fun h22=>?_) (fun h22=>?_)
 ·
  refine aW ?_;refine aE (bE ?_);refine t_draw (anc:=[0,1,0,0,8,28,60,127,255,511]) (ord:=[0,1,2,3,4,5,6,7,8,9]) [5,6,7,9] [9] mixed (by decide+kernel) (.cons (.there .here) .nil) ?_;refine dl_ev rfl rfl (.none rfl) rfl rfl (aD (o':=1) sU rfl rfl) rfl ?_;refine dl_ev rfl rfl (.none rfl) rfl rfl (aJ aLI rfl aL rfl) rfl ?_;refine uGg ?_;refine uCp ?_;refine pA rfl (.none rfl) rfl rfl rfl rfl (hT y.2 _ (Hl.le_trans leK1 leK) hyo) (.cons (.there .here) .nil) rfl (fun _ _=>a8 _ _) ?_ ?_
  ·
   rintro _ _ _ hTr le1;obtain⟨e,p,ht2,fb,h,rfl⟩:=bA hTr;cases h
   intro a0 w0 hd0 hi0;refine⟨hd0,_,_,?_,(Hl.le_trans leK1 (Hl.le_trans leK le1)),hi0.left⟩
   simp only[RT,hx,qN,hy,if_pos h22,ht2,if_true,if_false,↓reduceIte];exact⟨fb,rfl,rfl⟩
  rintro _ K3 _ hTr leK3;obtain⟨t2,ht2,⟨ty2,u2,rfl,hrep2⟩,rfl⟩:=bB hTr;clear hTr;refine⟨_,(show Tks _ _ _ from (.cons (.there .here) .nil)).sat,?_⟩
  refine dl_s rfl rfl (.none rfl) rfl rfl (bN (z0:=[.nilIface]) rU aVW rfl rfl rfl rfl (.cons rfl rfl rfl (.cons .nil) .nil)) rfl ?_;rintro _ K _ ⟨b29,rfl,rfl,rfl⟩ -;refine⟨_,(show Tks _ _ _ from (.cons (.there .here) .nil)).sat,?_⟩
  refine dl_s rfl rfl (.none rfl) rfl rfl (dM (k:=(eD 288)) (ys:=[⟨.iface ty2 u2,rfl⟩]) aAW rfl rfl aX (fun w j=>dB Tryz.underlying374 (SeesSl.at (.blk (.own (.there .here)) rfl rfl) j)) (by simp;omega) (by first|(simp;omega)|omega)) rfl ?_;rintro v30 K _ ⟨rfl,rfl,ho30⟩ -;refine⟨_,(show Tks _ _ _ from (.cons (.there .here) .nil)).sat,?_⟩
  refine dl_ev rfl rfl (.none rfl) rfl rfl (aD (o':=1) sU rfl rfl) rfl ?_;refine kH rfl rfl (.none rfl) rfl (bH aLI rfl rfl cD aX (.succ .zero) rfl) ?_;rintro _ K _ ⟨rfl,rfl⟩ -;refine dl_nil ?_;refine aN ?_;have hm:=hy3 h22;have hm2:=hTa _ _ hyo ht2;obtain⟨f0,rfl⟩:∃f0,f=f0+1:=⟨f - 1,by omega⟩;refine aO (.cons .here (.cons .here (.cons (.there .here) .nil))) ?_;obtain⟨hr3,hr4⟩:=aNK hrep2 hacc (hrp.mono leK3);refine o9 K t2.2 (us++[(⟨.iface ty2 u2,rfl⟩,u0)]) v30 ⟨Hl.le_trans leK leK3,hm2.1,by simp;omega,acc.snocT t2.1,f0,hr4,hr3,by omega,?_⟩ aI (.cons 0 rfl (.cons 2 rfl (.cons 7 rfl .nil))) rfl (by rw[List.map_append];exact fun _ h=>h)
  simp only[RT,hx,qN,hy,if_pos h22,ht2,if_true,if_false,↓reduceIte]
 ·
  have g22:¬y.1=true:=by simp[h22]
  refine uAp ?_;refine aE (aH ?_);refine uAf ?_;refine aY rfl rfl (jU b s y.2 rest [41] _ hs hyo.1 (hg.mono (Hl.le_trans leK1 leK))) (.cons .here .nil) rfl (fun _ _=>a8 _ _) ?_ ?_
  ·
   rintro _ _ _ hTr le1;obtain⟨e,p,hz,fb,h,rfl⟩:=bA hTr;cases h
   refine uEf ?_;refine bJ (Hl.le_trans leK1 (Hl.le_trans leK le1)) ?_;simp only[RT,hx,qN,hy,if_neg g22,hz,if_true,if_false,↓reduceIte];exact⟨fb,rfl,rfl⟩
  rintro _ K _ hTr -;obtain⟨z,hz,rfl,rfl,rfl⟩:=bB hTr;clear hTr;refine aG (aE ?_);refine aH (aB ?_);refine aA (bX aE0 rfl aL rfl rfl) rfl ?_;refine aA (cL Tryz.underlying376 (fun _ h=>by cases h) rfl) rfl ?_;refine uAb ?_;refine aG (aE ?_);refine bI ?_;refine uBh ?_;refine gB fun K4 leS hS=>?_
  refine uAg ?_;refine bF rfl rfl (Hl.le_trans leK1 (Hl.le_trans leK leS)) ?_;simp only[RT,hx,qN,hy,if_neg g22,hz,if_true,if_false,↓reduceIte];simp only[vC];exact⟨_,rfl,⟨_,_,rfl,us,sv,hrp.mono leS,hS,rfl⟩,rfl⟩
end Go.Proofs
end
section
set_option maxRecDepth 4000
namespace Go.Proofs
open Go Go.SL Go.Syn
theorem rL(fn:FuncId)(K:Hl):Sp Tryz.prog 158 [.func (.func fn) #[] #[]] K [] (Ret fun v K' L'=>∃b1,v=.func (.func 259) #[] #[ptr b1]∧K' b1=some (aU [.func (.func fn) #[] #[]] 283)∧L'=[]):=by
 refine aZ Tryz.func158 rfl Tryz.ntmps158 rfl rfl fun F w=>?_
 refine aH (aB ?_);refine uBk ?_;rintro _ K _ ⟨b1,rfl,rfl,rfl⟩ -;refine uAb ?_;refine aG (aE ?_);refine aH (aB ?_);refine uGi ?_;refine uAb ?_;refine aG (aE ?_);refine bI ?_;refine gI fun K1 le1 hK1=>?_
 refine bF rfl rfl le1 ?_;exact⟨_,rfl,b1,rfl,hK1,rfl⟩
theorem qV(kd:Int)(ext:List UInt8)(K:Hl):Sp Tryz.prog 162 [i64 kd,str ext] K [] (Ret fun v K' L'=>∃b1 b2,v=.func (.func 260) #[] #[ptr b1,ptr b2]∧K' b1=some (aU [str ext] 9)∧K' b2=some (aU [i64 kd] 3)∧L'=[]):=by
 refine aZ Tryz.func162 rfl Tryz.ntmps162 rfl rfl fun F w=>?_
 refine aH (aB ?_);refine uBk ?_;rintro _ K _ ⟨b2,rfl,rfl,rfl⟩ -;refine uBk ?_;rintro _ K _ ⟨b3,rfl,rfl,rfl⟩ -;refine uAb ?_;refine aG (aE ?_);refine aH (aB ?_);refine uGi ?_;refine uAb ?_;refine aG (aE ?_);refine bI ?_;refine gI fun K1 le1 hK1=>?_
 refine gI fun K2 le2 hK2=>?_
 refine bF rfl rfl (Hl.le_trans le1 le2) ?_;exact⟨_,rfl,b3,b2,rfl,le2 _ _ hK1,hK2,rfl⟩
abbrev fnV(f:FuncId):Value:=.func (.func f) #[] #[]
abbrev simV(c:Nat):Value:=.func (.func 259) #[] #[ptr c]
abbrev actV(c d:Nat):Value:=.func (.func 260) #[] #[ptr c,ptr d]
structure Tabs (K:Hl) (cb tb:Nat):Prop where
 cmds:∃c1 c2 c3 d1 e1 d2 e2 d3 e3,K cb=some (mapO [(aE8,simV c1,0),(sY,simV c2,1),(aFA,simV c3,2),(iK,actV d1 e1,3),(qK,actV d2 e2,4),(kL,actV d3 e3,5),(aH1,fnV 163,6),(txIf,fnV 164,7)] 8)∧
  K c1=some (aU [fnV 159] 283)∧K c2=some (aU [fnV 160] 283)∧K c3=some (aU [fnV 161] 283)∧
  K d1=some (aU [str iK] 9)∧K e1=some (aU [i64 2] 3)∧K d2=some (aU [str []] 9)∧K e2=some (aU [i64 3] 3)∧K d3=some (aU [str kL] 9)∧K e3=some (aU [i64 4] 3)
 tests:K tb=some (mapO [(aA4,fnV 165,0),(vQ,fnV 166,1),(aH0,fnV 167,2),(vN,fnV 169,3),(vO,fnV 171,4),(rY,fnV 172,5),(gT,fnV 174,6),(rZ,fnV 175,7),(rX,fnV 176,8),(aA3,fnV 178,9)] 10)
theorem Tabs.mono{K K':Hl}{cb tb:Nat}(h:Tabs K cb tb)(le:K.le K'):Tabs K' cb tb:=
 ⟨let ⟨c1,c2,c3,d1,e1,d2,e2,d3,e3,h0,h1,h2,h3,h4,h5,h6,h7,h8,h9⟩:=h.cmds;⟨c1,c2,c3,d1,e1,d2,e2,d3,e3,le _ _ h0,le _ _ h1,le _ _ h2,le _ _ h3,le _ _ h4,le _ _ h5,le _ _ h6,le _ _ h7,le _ _ h8,le _ _ h9⟩,le _ _ h.tests⟩
theorem aHO(b:Nat)(s:List UInt8)(st:St)(n0 n1:Value)(K:Hl):Sp Tryz.prog 100 [ptr b] K [psb b s st [n0,n1,.map none,.map none]]
  (Ret fun v K' L'=>v=.tuple #[]∧∃cb tb,Tabs K' cb tb∧L'=[psb b s st [n0,n1,.map (some cb),.map (some tb)]]):=by
 refine aZ Tryz.func100 rfl Tryz.ntmps100 rfl rfl fun F w=>?_
 refine aH (aB ?_);refine uAa ?_;refine ol_s nQ rfl ?_;rintro _ K _ ⟨b3,rfl,rfl,rfl⟩ -;refine bC rfl rfl (rL _ _) .nil rfl ?_;rintro _ K1 _ ⟨c1,rfl,h1,rfl⟩ le1;refine bP (fI Tryz.underlying205 Tryz.underlying9 rfl rfl rfl ?_ aX) ?_
 ·rfl
 rintro _ K _ ⟨rfl,rfl⟩ -;refine bC rfl rfl (rL _ _) .nil rfl ?_;rintro _ K2 _ ⟨c2,rfl,h2,rfl⟩ le2;refine bP (fI Tryz.underlying205 Tryz.underlying9 rfl rfl rfl ?_ aX) ?_
 ·rfl
 rintro _ K _ ⟨rfl,rfl⟩ -;refine bC rfl rfl (rL _ _) .nil rfl ?_;rintro _ K3 _ ⟨c3,rfl,h3,rfl⟩ le3;refine bP (fI Tryz.underlying205 Tryz.underlying9 rfl rfl rfl ?_ aX) ?_
 ·rfl
 rintro _ K _ ⟨rfl,rfl⟩ -;refine bC rfl rfl (qV 2 iK _) .nil rfl ?_;rintro _ K4 _ ⟨d1,e1,rfl,h4,h5,rfl⟩ le4;refine bP (fI Tryz.underlying205 Tryz.underlying9 rfl rfl rfl ?_ aX) ?_
 ·rfl
 rintro _ K _ ⟨rfl,rfl⟩ -;refine bC rfl rfl (qV 3 [] _) .nil rfl ?_;rintro _ K5 _ ⟨d2,e2,rfl,h6,h7,rfl⟩ le5;refine bP (fI Tryz.underlying205 Tryz.underlying9 rfl rfl rfl ?_ aX) ?_
 ·rfl
 rintro _ K _ ⟨rfl,rfl⟩ -;refine bC rfl rfl (qV 4 kL _) .nil rfl ?_;rintro _ K6 _ ⟨d3,e3,rfl,h8,h9,rfl⟩ le6;refine bP (fI Tryz.underlying205 Tryz.underlying9 rfl rfl rfl ?_ aX) ?_
 ·rfl
 rintro _ K _ ⟨rfl,rfl⟩ -;refine bP (fI Tryz.underlying205 Tryz.underlying9 rfl rfl rfl ?_ aX) ?_
 ·rfl
 rintro _ K _ ⟨rfl,rfl⟩ -;refine bP (fI Tryz.underlying205 Tryz.underlying9 rfl rfl rfl ?_ aX) ?_
 ·rfl
 rintro _ K _ ⟨rfl,rfl⟩ -;refine uBz ?_;refine aA (aD (o':=8) aCY rfl rfl) rfl ?_;refine bP (bH aVR rfl rfl cD aX (.succ (.succ (.succ (.succ (.succ (.succ (.succ (.succ .zero)))))))) rfl) ?_;rintro _ K _ ⟨rfl,rfl⟩ -;refine aG (aE ?_);refine uAf ?_;refine ol_s nQ rfl ?_;rintro _ K _ ⟨b14,rfl,rfl,rfl⟩ -;refine bP (fI Tryz.underlying206 Tryz.underlying9 rfl rfl rfl ?_ aX) ?_
 ·rfl
 rintro _ K _ ⟨rfl,rfl⟩ -;refine bP (fI Tryz.underlying206 Tryz.underlying9 rfl rfl rfl ?_ aX) ?_
 ·rfl
 rintro _ K _ ⟨rfl,rfl⟩ -;refine bP (fI Tryz.underlying206 Tryz.underlying9 rfl rfl rfl ?_ aX) ?_
 ·rfl
 rintro _ K _ ⟨rfl,rfl⟩ -;refine bP (fI Tryz.underlying206 Tryz.underlying9 rfl rfl rfl ?_ aX) ?_
 ·rfl
 rintro _ K _ ⟨rfl,rfl⟩ -;refine bP (fI Tryz.underlying206 Tryz.underlying9 rfl rfl rfl ?_ aX) ?_
 ·rfl
 rintro _ K _ ⟨rfl,rfl⟩ -;refine bP (fI Tryz.underlying206 Tryz.underlying9 rfl rfl rfl ?_ aX) ?_
 ·rfl
 rintro _ K _ ⟨rfl,rfl⟩ -;refine bP (fI Tryz.underlying206 Tryz.underlying9 rfl rfl rfl ?_ aX) ?_
 ·rfl
 rintro _ K _ ⟨rfl,rfl⟩ -;refine bP (fI Tryz.underlying206 Tryz.underlying9 rfl rfl rfl ?_ aX) ?_
 ·rfl
 rintro _ K _ ⟨rfl,rfl⟩ -;refine bP (fI Tryz.underlying206 Tryz.underlying9 rfl rfl rfl ?_ aX) ?_
 ·rfl
 rintro _ K _ ⟨rfl,rfl⟩ -;refine bP (fI Tryz.underlying206 Tryz.underlying9 rfl rfl rfl ?_ aX) ?_
 ·rfl
 rintro _ K _ ⟨rfl,rfl⟩ -;refine uBz ?_;refine aA (aD (o':=9) aCZ rfl rfl) rfl ?_;refine bP (bH aVS rfl rfl cD aX (.succ (.succ (.succ (.succ (.succ (.succ (.succ (.succ (.succ .zero))))))))) rfl) ?_;rintro _ K _ ⟨rfl,rfl⟩ -;refine aG ?_;refine uDz ?_;refine gI fun K7 le7 hT=>?_
 refine gI fun K8 le8 hC=>?_
 refine dD rfl (Hl.le_trans le1 (Hl.le_trans le2 (Hl.le_trans le3 (Hl.le_trans le4 (Hl.le_trans le5 (Hl.le_trans le6 (Hl.le_trans le7 le8))))))) ?_;have g7:=Hl.le_trans le7 le8;have g6:=Hl.le_trans le6 g7;have g5:=Hl.le_trans le5 g6;have g4:=Hl.le_trans le4 g5;have g3:=Hl.le_trans le3 g4;have g2:=Hl.le_trans le2 g3;exact⟨_,rfl,rfl,_,_,⟨⟨c1,c2,c3,d1,e1,d2,e2,d3,e3,hC,g2 _ _ h1,g3 _ _ h2,g4 _ _ h3,g5 _ _ h4,g5 _ _ h5,g6 _ _ h6,g6 _ _ h7,g7 _ _ h8,g7 _ _ h9⟩,le8 _ _ hT⟩,rfl⟩
end Go.Proofs
end

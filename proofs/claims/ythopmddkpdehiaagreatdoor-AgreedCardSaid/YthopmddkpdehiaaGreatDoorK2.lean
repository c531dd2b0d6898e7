/-
  What the proof stands on, part 2: the logic of walks, the walks through the functions, the plain laws. Conditions: as each theorem says. (Merged and shortened by a program.)
-/
import Derived.Below
import Derived.Shelf.Strings.Builder1
import Derived.Shelf.Strings.Builder2
import Derived.Shelf.Small.Utf8
import Derived.Shelf.Small.Bits
import Derived.Shelf.Small.Strs
import Derived.Shelf.Utf8.RuneCount
import Derived.Shelf.Strconv.Itoa0
import Derived.Shelf.Strconv.Itoa1
import Derived.Shelf.LaysM
import Derived.Shelf.Strconv.Itoa2
import Derived.Shelf.Strconv.Itoa3
import Derived.Shelf.Strings.Search1
import Derived.Shelf.Strings.Search2
import Derived.Shelf.Strings.Search3
import Derived.Shelf.Strings.Cut
import Derived.Shelf.Strings.Count
import Derived.Shelf.Strings.Shaped
import Derived.Shelf.Strings.Split
import Derived.Shelf.Strings.Runes
import Derived.Shelf.Strings.RuneCount
import Derived.Shelf.Strings.IndexAny
import Derived.Shelf.Strings.AsciiSet
import Derived.Shelf.Strings.IndexAnyAll
import Derived.Shelf.Bits.Mul64
import Derived.Ground.Names2Prog
import Derived.Shelf.Slices.Clone
import Derived.Ground.SlgnProg
import Derived.Shelf.SlicesE.Clone
import Derived.Test.YthopmddkpdehiaaGreatDoorProg
import Derived.Lib.ItoaNum
import Derived.Lib.IndexLaws
import Derived.Test.YthopmddkpdehiaaGreatDoorK1
set_option linter.unusedVariables false
set_option linter.unusedSimpArgs false
section
namespace Go.Proofs
open Go Go.SL Go.Syn
theorem retB {b c : Bool} (h : b = c) (K : Hl) : Val (.bool c) K (.returned (.bool b)) K [] := ⟨by rw [h], rfl, rfl⟩
theorem mT (c : UInt8) (K : Hl) : Sp Tryz.prog 183 [.int .u8 c.toNat] K [] (Val (.bool (kE c)) K) := by
 refine bA Tryz.func183 rfl Tryz.ntmps183 rfl rfl fun F w => ?_
 refine aI (aB ?_);refine aA (aF rfl) rfl ?_;refine aG (aE ?_);refine aI (aB ?_);refine aA (aC rfl) rfl ?_;refine aA (yS c 32 rfl rfl) rfl ?_;refine aA (gO rfl rfl) rfl ?_;refine aA (aC rfl) rfl ?_;refine cB 6 rfl (fun g6 => ?_) (fun g6 => ?_)
 ·
  refine aV rfl rfl ?_;refine aA (aC rfl) rfl ?_;refine aV rfl rfl ?_;refine aA (yS c 32 rfl rfl) rfl ?_;refine aV rfl rfl ?_;refine aA (iD rfl rfl) rfl ?_;refine aA (bJ rfl rfl) rfl ?_;refine aA (aC rfl) rfl ?_;refine cB 11 rfl (fun g11 => ?_) (fun g11 => ?_)
  ·
   refine aR rfl rfl rfl ?_;refine aR rfl rfl rfl ?_;refine aA (bJ rfl rfl) rfl ?_;refine aA (aF rfl) rfl ?_;refine aG (aE ?_);refine bM ?_;refine bL rfl rfl (Hl.le_refl _) ?_;refine retB ?_ _
   unfold kE
   generalize (c ||| 32).toNat = x at *
   generalize c.toNat = y at *
   rw [Bool.eq_iff_iff];simp;omega
  ·
   refine aV rfl rfl ?_;refine aA (aC rfl) rfl ?_;refine aV rfl rfl ?_;refine aA (bV rfl rfl) rfl ?_;refine aA (bB rfl rfl) rfl ?_;refine aA (aF rfl) rfl ?_;refine aG (aE ?_);refine bM ?_;refine bL rfl rfl (Hl.le_refl _) ?_;refine retB ?_ _
   unfold kE
   generalize (c ||| 32).toNat = x at *
   generalize c.toNat = y at *
   rw [Bool.eq_iff_iff];simp;omega
 ·
  refine aR rfl rfl rfl ?_;refine aR rfl rfl rfl ?_;refine aR rfl rfl rfl ?_;refine aA (bB rfl rfl) rfl ?_;refine aA (aC rfl) rfl ?_;refine aV rfl rfl ?_;refine aA (aC rfl) rfl ?_;refine aV rfl rfl ?_;refine aA (bV rfl rfl) rfl ?_;refine aA (bB rfl rfl) rfl ?_;refine aA (aF rfl) rfl ?_;refine aG (aE ?_);refine bM ?_;refine bL rfl rfl (Hl.le_refl _) ?_;refine retB ?_ _
  unfold kE
  generalize (c ||| 32).toNat = x at *
  generalize c.toNat = y at *
  rw [Bool.eq_iff_iff];simp;omega
theorem lE (c : UInt8) (K : Hl) : Sp Tryz.prog 188 [.int .u8 c.toNat] K [] (Val (.bool (fY c)) K) := by
 refine bA Tryz.func188 rfl Tryz.ntmps188 rfl rfl fun F w => ?_
 refine aI (aB ?_);refine aA (aF rfl) rfl ?_;refine aG (aE ?_);refine aI (aB ?_);refine aA (aC rfl) rfl ?_;refine aA (gO rfl rfl) rfl ?_;refine aA (aC rfl) rfl ?_;refine cB 5 rfl (fun g5 => ?_) (fun g5 => ?_)
 ·
  refine aV rfl rfl ?_;refine aA (aC rfl) rfl ?_;refine aV rfl rfl ?_;refine aA (iD rfl rfl) rfl ?_;refine aA (bJ rfl rfl) rfl ?_;refine aA (aF rfl) rfl ?_;refine aG (aE ?_);refine bM ?_;refine bL rfl rfl (Hl.le_refl _) ?_;refine retB ?_ _
  unfold fY
  generalize c.toNat = y at *
  rw [Bool.eq_iff_iff];simp;omega
 ·
  refine aR rfl rfl rfl ?_;refine aR rfl rfl rfl ?_;refine aA (bB rfl rfl) rfl ?_;refine aA (aF rfl) rfl ?_;refine aG (aE ?_);refine bM ?_;refine bL rfl rfl (Hl.le_refl _) ?_;refine retB ?_ _
  unfold fY
  generalize c.toNat = y at *
  rw [Bool.eq_iff_iff];simp;omega
theorem mF (c : UInt8) (K : Hl) : Sp Tryz.prog 187 [.int .u8 c.toNat] K [] (Val (.bool (fC c)) K) := by
 refine bA Tryz.func187 rfl Tryz.ntmps187 rfl rfl fun F w => ?_
 refine aI (aB ?_);refine aA (aF rfl) rfl ?_;refine aG (aE ?_);refine aI (aB ?_);refine aA (aC rfl) rfl ?_;refine cG rfl rfl (mT _ _) rfl ?_;refine aA (aC rfl) rfl ?_;refine lY 5 rfl (fun g5 => ?_) (fun g5 => ?_)
 ·
  refine aR rfl rfl rfl ?_;refine aR rfl rfl rfl ?_;refine aA (bJ rfl rfl) rfl ?_;refine aA (aF rfl) rfl ?_;refine aG (aE ?_);refine bM ?_;refine bL rfl rfl (Hl.le_refl _) ?_;refine retB ?_ _
  simp [fC, g5]
 ·
  refine aV rfl rfl ?_;refine aA (aC rfl) rfl ?_;refine aV rfl rfl ?_;refine cG rfl rfl (lE _ _) rfl ?_;refine aA (bB rfl rfl) rfl ?_;refine aA (aF rfl) rfl ?_;refine aG (aE ?_);refine bM ?_;refine bL rfl rfl (Hl.le_refl _) ?_;refine retB ?_ _
  simp [fC, g5]
abbrev lxb (b : Nat) (T : TypeId) (s : List UInt8) (at_ : Int) (wk : Value) (ws : Value) (wn : Value) (wa : Value) (rest : List Value) : Asn := pt b (aU (str s :: i64 at_ :: wk :: ws :: wn :: wa :: rest) T)
theorem iR (b : Nat) (T : TypeId) (s : List UInt8) (a n : Nat) (wk ws wn wa : Value) (rest : List Value) (hs : s.length ≤ 600) (ha : a ≤ 600) (hn : n ≤ 2) (K : Hl) :
  Sp Tryz.prog 181 [ptr b, i64 n] K [lxb b T s a wk ws wn wa rest] (Ret fun v K' L' => v = .int .u8 ((s[a + n]?).getD 0).toNat ∧ K' = K ∧ L' = [lxb b T s a wk ws wn wa rest]) := by
 refine bA Tryz.func181 rfl Tryz.ntmps181 rfl rfl fun F w => ?_
 refine aI (aB ?_);refine aA (aF rfl) rfl ?_;refine aG (aE ?_);refine aI (aI ?_);refine t_draw (anc := [0, 1, 3, 7, 0, 31, 0, 64, 192, 448, 960, 2047]) (ord := [0, 1, 2, 3, 4, 5, 6, 7, 8, 9, 10, 11]) [] [] mixed (by decide +kernel) (cT _) ?_;refine dl_ev rfl rfl (.none rfl) rfl rfl (aC rfl) rfl ?_;refine dl_ev rfl rfl (.none rfl) rfl rfl bS rfl ?_;refine dl_ev rfl rfl (.none rfl) rfl rfl (aD (o' := 1) bW rfl rfl) rfl ?_;refine dl_ev rfl rfl (.none rfl) rfl rfl (aK ts3 rfl aL rfl) rfl ?_;refine dl_ev rfl rfl (.none rfl) rfl rfl (aC rfl) rfl ?_;refine dl_ev rfl rfl (.none rfl) rfl rfl (b0 rfl rfl aH aH) rfl ?_;refine dl_ev rfl rfl (.none rfl) rfl rfl (aC rfl) rfl ?_;refine dl_ev rfl rfl (.none rfl) rfl rfl bS rfl ?_;refine dl_ev rfl rfl (.none rfl) rfl rfl (aD (o' := 0) fB rfl rfl) rfl ?_;refine dl_ev rfl rfl (.none rfl) rfl rfl (aK ts9 rfl aL rfl) rfl ?_;refine dl_ev rfl rfl (.none rfl) rfl rfl (cH rfl Tryz.underlying9 rfl) rfl ?_;refine dl_ev rfl rfl (.none rfl) rfl rfl (cU rfl rfl) rfl ?_;refine dl_nil ?_;refine aE ?_;refine bH 16 rfl (fun h16 => ?_) (fun h16 => ?_)
 ·
  obtain ⟨c, hc⟩ : ∃ c, s[a + n]? = some c := ⟨s[a + n], List.getElem?_eq_getElem aH⟩;refine aI ?_;refine t_draw (anc := [0, 1, 3, 7, 0, 16, 48, 112, 0, 496, 1023, 2047]) (ord := [0, 1, 2, 3, 4, 5, 6, 7, 8, 9, 10, 11]) [] [] mixed (by decide +kernel) (cT _) ?_;refine dl_ev rfl rfl (.none rfl) rfl rfl (aC rfl) rfl ?_;refine dl_ev rfl rfl (.none rfl) rfl rfl bS rfl ?_;refine dl_ev rfl rfl (.none rfl) rfl rfl (aD (o' := 0) fB rfl rfl) rfl ?_;refine dl_ev rfl rfl (.none rfl) rfl rfl (aK ts9 rfl aL rfl) rfl ?_;refine dl_ev rfl rfl (.none rfl) rfl rfl (aC rfl) rfl ?_;refine dl_ev rfl rfl (.none rfl) rfl rfl bS rfl ?_;refine dl_ev rfl rfl (.none rfl) rfl rfl (aD (o' := 1) bW rfl rfl) rfl ?_;refine dl_ev rfl rfl (.none rfl) rfl rfl (aK ts3 rfl aL rfl) rfl ?_;refine dl_ev rfl rfl (.none rfl) rfl rfl (aC rfl) rfl ?_;refine dl_ev rfl rfl (.none rfl) rfl rfl (b0 rfl rfl aH aH) rfl ?_;refine dl_ev rfl rfl (.none rfl) rfl rfl (dK Tryz.underlying9 rfl (j := a + n) rfl aH hc) rfl ?_;refine dl_ev rfl rfl (.none rfl) rfl rfl (aF rfl) rfl ?_;refine dl_nil ?_;refine aE ?_;refine bM ?_;refine bF ?_;refine bL rfl rfl (Hl.le_refl _) ?_;exact ⟨_, rfl, by rw [hc]; rfl, rfl, rfl⟩
 ·
  have hc : s[a + n]? = none := List.getElem?_eq_none aH;refine aX ?_;refine aE (aI ?_);refine aB ?_;refine aA (aF rfl) rfl ?_;refine aG (aE ?_);refine bM ?_;refine bL rfl rfl (Hl.le_refl _) ?_;exact ⟨_, rfl, by rw [hc]; rfl, rfl, rfl⟩
theorem nZ (b : Nat) (T : TypeId) (s : List UInt8) (a : Nat) (wk ws wn wa : Value) (rest : List Value) (fn : FuncId) (pf : UInt8 → Bool) (hs : s.length ≤ 600) (ha : a ≤ s.length) (K : Hl)
  (hf : ∀ c, Sp Tryz.prog fn [.int .u8 (c : UInt8).toNat] K [] (Val (.bool (pf c)) K)) :
  Sp Tryz.prog 186 [ptr b, .func (.func fn) #[] #[]] K [lxb b T s a wk ws wn wa rest]
   (Ret fun v K' L' => v = str ((s.drop a).takeWhile pf) ∧ K' = K ∧ L' = [lxb b T s (a + ((s.drop a).takeWhile pf).length : Nat) wk ws wn wa rest]) := by
 refine bA Tryz.func186 rfl Tryz.ntmps186 rfl rfl fun F w => ?_
 refine aI (aB ?_);refine aA (aF rfl) rfl ?_;refine aG (aE ?_);refine aI (aB ?_);refine aA (aC rfl) rfl ?_;refine aA bS rfl ?_;refine aA (aD (o' := 1) bW rfl rfl) rfl ?_;refine aA (aK ts3 rfl aL rfl) rfl ?_;refine aA (aF rfl) rfl ?_;refine aG (aE ?_);refine aI (bC ?_);refine dS (fun (i : Nat) => a ≤ i ∧ i ≤ s.length ∧ ((s.drop a).take (i - a)).all pf = true) (fun i => [(0, ptr b), (1, .func (.func fn) #[] #[]), (5, i64 a)]) (fun _ => K) (fun i => [lxb b T s i wk ws wn wa rest]) (fun i => s.length - i) a ⟨Nat.le_refl _, ha, by simp⟩ (.cons 0 rfl (.cons 1 rfl (.cons 5 rfl .nil))) rfl (fun _ h => h) ?_;intro i ⟨hi1, hi2, hi3⟩;refine aI (aI ?_);refine t_draw (anc := [0, 1, 3, 7, 0, 16, 48, 112, 240, 511, 1023, 2047, 2047, 6143, 14335, 30719, 2047, 67583, 198655, 460799, 1046527, 2097151, 4194303]) (ord := [0, 1, 2, 3, 4, 5, 6, 7, 8, 9, 10, 11, 12, 13, 14, 15, 16, 17, 18, 19, 20, 21, 22]) [21] [] mixed (by decide +kernel) (cT _) ?_;refine dl_ev rfl rfl (.none rfl) rfl rfl (aC rfl) rfl ?_;refine dl_ev rfl rfl (.none rfl) rfl rfl bS rfl ?_;refine dl_ev rfl rfl (.none rfl) rfl rfl (aD (o' := 1) bW rfl rfl) rfl ?_;refine dl_ev rfl rfl (.none rfl) rfl rfl (aK ts3 rfl aL rfl) rfl ?_;refine dl_ev rfl rfl (.none rfl) rfl rfl (aC rfl) rfl ?_;refine dl_ev rfl rfl (.none rfl) rfl rfl bS rfl ?_;refine dl_ev rfl rfl (.none rfl) rfl rfl (aD (o' := 0) fB rfl rfl) rfl ?_;refine dl_ev rfl rfl (.none rfl) rfl rfl (aK ts9 rfl aL rfl) rfl ?_;refine dl_ev rfl rfl (.none rfl) rfl rfl (cH rfl Tryz.underlying9 rfl) rfl ?_;refine dl_ev rfl rfl (.none rfl) rfl rfl (cU rfl rfl) rfl ?_;refine dl_ev rfl rfl (.none rfl) rfl rfl (aC rfl) rfl ?_;refine dl_splitp 20 rfl (fun g20 => ?_) (fun g20 => ?_)
 ·
  obtain ⟨c, hc⟩ : ∃ c, s[i]? = some c := ⟨s[i], List.getElem?_eq_getElem aH⟩;refine dl_ev rfl rfl (.on rfl rfl rfl) rfl rfl (aC rfl) rfl ?_;refine dl_ev rfl rfl (.on rfl rfl rfl) rfl rfl (aC rfl) rfl ?_;refine dl_ev rfl rfl (.on rfl rfl rfl) rfl rfl bS rfl ?_;refine dl_ev rfl rfl (.on rfl rfl rfl) rfl rfl (aD (o' := 0) fB rfl rfl) rfl ?_;refine dl_ev rfl rfl (.on rfl rfl rfl) rfl rfl (aK ts9 rfl aL rfl) rfl ?_;refine dl_ev rfl rfl (.on rfl rfl rfl) rfl rfl (aC rfl) rfl ?_;refine dl_ev rfl rfl (.on rfl rfl rfl) rfl rfl bS rfl ?_;refine dl_ev rfl rfl (.on rfl rfl rfl) rfl rfl (aD (o' := 1) bW rfl rfl) rfl ?_;refine dl_ev rfl rfl (.on rfl rfl rfl) rfl rfl (aK ts3 rfl aL rfl) rfl ?_;refine dl_ev rfl rfl (.on rfl rfl rfl) rfl rfl (dK Tryz.underlying9 rfl rfl rfl bQ) rfl ?_;refine dl_callv rfl (.on rfl rfl rfl) rfl rfl rfl rfl (hf c) rfl ?_;refine dl_ev rfl rfl (.none rfl) rfl rfl (bJ rfl rfl) rfl ?_;refine dl_nil ?_;refine aE ?_;refine d6 32 rfl (fun h32 => ?_) (fun h32 => ?_)
  ·
   refine aX ?_;refine aE (bC ?_);refine aB ?_;refine aA (aC rfl) rfl ?_;refine aA bS rfl ?_;refine aA (aD (o' := 1) bW rfl rfl) rfl ?_;refine aA (aK ts3 rfl aL rfl) rfl ?_;refine aA (b0 rfl rfl aH aH) rfl ?_;refine aA bS rfl ?_;refine aA (aD (o' := 1) bW rfl rfl) rfl ?_;refine bP (bK ts3 rfl rfl cD a7 (.succ .zero) rfl) ?_;rintro _ K _ ⟨rfl, rfl⟩ -;refine aG (aM ?_);refine cI (i + 1) ⟨by omega, by omega, ?_⟩ aH (.cons 0 rfl (.cons 1 rfl (.cons 5 rfl .nil))) rfl (fun _ h => h)
   have e : i + 1 - a = i - a + 1 := by omega
   have e2 : a + (i - a) = i := by omega
   rw [e];exact Plain.take_all_succ (c := c) (by rw [List.getElem?_drop, e2]; exact hc) hi3 h32
  ·
   refine cR ?_;refine aT ?_;refine aT ?_;refine bG ?_;refine aE (aI ?_);refine t_draw (anc := [0, 1, 3, 7, 0, 0, 32, 96, 224, 511, 1023]) (ord := [0, 1, 2, 3, 4, 5, 6, 7, 8, 9, 10]) [] [] mixed (by decide +kernel) (cT _) ?_;refine dl_ev rfl rfl (.none rfl) rfl rfl (aC rfl) rfl ?_;refine dl_ev rfl rfl (.none rfl) rfl rfl bS rfl ?_;refine dl_ev rfl rfl (.none rfl) rfl rfl (aD (o' := 0) fB rfl rfl) rfl ?_;refine dl_ev rfl rfl (.none rfl) rfl rfl (aK ts9 rfl aL rfl) rfl ?_;refine dl_ev rfl rfl (.none rfl) rfl rfl (aC rfl) rfl ?_;refine dl_ev rfl rfl (.none rfl) rfl rfl (aC rfl) rfl ?_;refine dl_ev rfl rfl (.none rfl) rfl rfl bS rfl ?_;refine dl_ev rfl rfl (.none rfl) rfl rfl (aD (o' := 1) bW rfl rfl) rfl ?_;refine dl_ev rfl rfl (.none rfl) rfl rfl (aK ts3 rfl aL rfl) rfl ?_;refine dl_ev rfl rfl (.none rfl) rfl rfl (jV Tryz.underlying9 rfl rfl rfl rfl rfl aH aH) rfl ?_;refine dl_ev rfl rfl (.none rfl) rfl rfl (aF rfl) rfl ?_;refine dl_nil ?_;refine aE ?_;refine bM ?_;refine bL rfl rfl (Hl.le_refl _) ?_;have hstop : ∀ c1, s[i]? = some c1 → pf c1 = false := by first | (intro c1 hc1; rw [hc] at hc1; cases hc1; exact h32) | (intro c1 hc1; rw [List.getElem?_eq_none aH] at hc1; cases hc1)
   have e2 : a + (i - a) = i := by omega
   have hT : (s.drop a).takeWhile pf = (s.drop a).take (i - a) := Plain.takeWhile_stop pf _ _ (by simp; omega) hi3 (fun c1 hc1 => hstop c1 (by rw [List.getElem?_drop, e2] at hc1; exact hc1));have hL : a + ((s.drop a).takeWhile pf).length = i := by rw [hT]; simp; omega
   refine ⟨_, rfl, ?_, rfl, ?_⟩
   ·rw [hT, List.drop_take]
   ·rw [hL]; rfl
 ·
  refine dl_off rfl rfl (.off rfl rfl rfl) rfl ?_;refine dl_off rfl rfl (.off rfl rfl rfl) rfl ?_;refine dl_off rfl rfl (.off rfl rfl rfl) rfl ?_;refine dl_off rfl rfl (.off rfl rfl rfl) rfl ?_;refine dl_off rfl rfl (.off rfl rfl rfl) rfl ?_;refine dl_off rfl rfl (.off rfl rfl rfl) rfl ?_;refine dl_off rfl rfl (.off rfl rfl rfl) rfl ?_;refine dl_off rfl rfl (.off rfl rfl rfl) rfl ?_;refine dl_off rfl rfl (.off rfl rfl rfl) rfl ?_;refine dl_off rfl rfl (.off rfl rfl rfl) rfl ?_;refine dl_off rfl rfl (.off rfl rfl rfl) rfl ?_;refine dl_ev rfl rfl (.none rfl) rfl rfl (bB rfl rfl) rfl ?_;refine dl_nil ?_;refine aE ?_;refine cO rfl ?_;refine cR ?_;refine aT ?_;refine aT ?_;refine bG ?_;refine aE (aI ?_);refine t_draw (anc := [0, 1, 3, 7, 0, 0, 32, 96, 224, 511, 1023]) (ord := [0, 1, 2, 3, 4, 5, 6, 7, 8, 9, 10]) [] [] mixed (by decide +kernel) (cT _) ?_;refine dl_ev rfl rfl (.none rfl) rfl rfl (aC rfl) rfl ?_;refine dl_ev rfl rfl (.none rfl) rfl rfl bS rfl ?_;refine dl_ev rfl rfl (.none rfl) rfl rfl (aD (o' := 0) fB rfl rfl) rfl ?_;refine dl_ev rfl rfl (.none rfl) rfl rfl (aK ts9 rfl aL rfl) rfl ?_;refine dl_ev rfl rfl (.none rfl) rfl rfl (aC rfl) rfl ?_;refine dl_ev rfl rfl (.none rfl) rfl rfl (aC rfl) rfl ?_;refine dl_ev rfl rfl (.none rfl) rfl rfl bS rfl ?_;refine dl_ev rfl rfl (.none rfl) rfl rfl (aD (o' := 1) bW rfl rfl) rfl ?_;refine dl_ev rfl rfl (.none rfl) rfl rfl (aK ts3 rfl aL rfl) rfl ?_;refine dl_ev rfl rfl (.none rfl) rfl rfl (jV Tryz.underlying9 rfl rfl rfl rfl rfl aH aH) rfl ?_;refine dl_ev rfl rfl (.none rfl) rfl rfl (aF rfl) rfl ?_;refine dl_nil ?_;refine aE ?_;refine bM ?_;refine bL rfl rfl (Hl.le_refl _) ?_;have hstop : ∀ c1, s[i]? = some c1 → pf c1 = false := by first | (intro c1 hc1; rw [hc] at hc1; cases hc1; exact h32) | (intro c1 hc1; rw [List.getElem?_eq_none aH] at hc1; cases hc1)
  have e2 : a + (i - a) = i := by omega
  have hT : (s.drop a).takeWhile pf = (s.drop a).take (i - a) := Plain.takeWhile_stop pf _ _ (by simp; omega) hi3 (fun c1 hc1 => hstop c1 (by rw [List.getElem?_drop, e2] at hc1; exact hc1));have hL : a + ((s.drop a).takeWhile pf).length = i := by rw [hT]; simp; omega
  refine ⟨_, rfl, ?_, rfl, ?_⟩
  ·rw [hT, List.drop_take]
  ·rw [hL]; rfl
end Go.Proofs
end
section
namespace Go.SL
theorem In.start (w : World) : In w .emp (hp w) [] w :=
 ⟨rfl, rfl, rfl, Nat.le_refl _, .emp, rfl, (Hl.dj_emp _).symm, Hl.dj_emp _, Hl.dj_emp _, (fun _ _ e => by cases e), Hl.le_refl _, (fun _ _ e => by cases e)⟩
theorem In.below {w w' : World} {K' : Hl} {L : List Asn} (le : (hp w).le K') (i : In w .emp K' L w') : RowKit.Below w.heap.size w w' := by
 refine ⟨i.os, i.tape, i.output, i.size, fun k hk => ?_⟩
 have h := le k w.heap[k] (by simp [hp, hk]);rw [i.known h]; simp [hk]
theorem wM {P : Program} {f : FuncId} {args : List Value} {w : World} {v : Value} (h : Sp P f args (hp w) [] (Ret fun u _ _ => u = v)) :
  Calls P f args.toArray w fun e w' => e = .returned v ∧ RowKit.Below w.heap.size w w' :=
 (h.2 .emp w (In.start w)).mono fun _ _ ⟨_, _, ⟨u, he, hu⟩, le, j⟩ => ⟨by rw [he, hu], j.below le⟩
theorem mM {P : Program} {f : FuncId} {args : List Value} {K : Hl} {v : Value} (hb : ∃ fn, P.funcs[f]? = some fn ∧ (fn.name == "runtime.NumGoroutine") = false ∧ fn.body.isSome = true)
  (h : ∀ w, K.le (hp w) → Calls P f args.toArray w fun e w' => e = .returned v ∧ RowKit.Below w.heap.size w w') : Sp P f args K [] (Val v K) := by
 refine ⟨hb, fun F w i => ?_⟩
 obtain ⟨x, hs, d1, d2, d3, l1, l2, l3⟩ := i.rep;refine (h w l2).mono fun e w' ⟨he, hbl⟩ => ?_
 have up : ∀ {k : Hl}, k.le (hp w) → k.le (hp w') := by
  intro k hk b o e;have hlt : b < w.heap.size := by
   have := hk b o e;simp only [hp] at this;rcases Nat.lt_or_ge b w.heap.size with h | h
   ·exact h
   ·simp [Array.getElem?_eq_none h] at this
  have := hk b o e;simp only [hp] at this ⊢;rw [hbl.block b hlt]; exact this
 exact ⟨K, [], ⟨he, rfl, rfl⟩, Hl.le_refl _, hbl.os, hbl.tape, hbl.output, hbl.size, x, hs, d1, d2, d3, up l1, up l2, up l3⟩
theorem jI {P : Program} {f : FuncId} {args : List Value} {K : Hl} {v : Value} (hb : ∃ fn, P.funcs[f]? = some fn ∧ (fn.name == "runtime.NumGoroutine") = false ∧ fn.body.isSome = true)
  (h : ∀ w, K.le (hp w) → Calls P f args.toArray w fun e w' => e = .returned v ∧ w' = w) : Sp P f args K [] (Val v K) :=
 mM hb fun w hw => (h w hw).mono fun e w' ⟨he, hw'⟩ => ⟨he, by subst hw'; exact RowKit.Below.refl _ _⟩
end Go.SL
end
section
namespace Go.Proofs
open Go.Shelf
def Tryz.lays119_ren : Go.Shelf.Ren := ⟨fun | 119 => 322 | n => n, fun | 21 => 21 | 4 => 4 | n => n, fun | n => n⟩
theorem Tryz.lays119 : Go.Proofs.Lays.n119 Tryz.prog Tryz.lays119_ren := {
 mixed := by kernel_rfl
 f119 := Tryz.func322.trans (congrArg some cK)
 t4 := Tryz.underlying4
 a4 := Tryz.isAgg4
 z4 := Tryz.sizeOf4
 v4 := Tryz.zeroValue4
 t21 := Tryz.underlying21
 a21 := Tryz.isAgg21
 z21 := Tryz.sizeOf21
 v21 := Tryz.zeroValue21 }
theorem Tryz.utf8_ValidRune (r : Int) (w : World) :
  Calls Tryz.prog 322 #[.int .i32 r] w fun e w' => e = .returned (.bool (Lib.validRune r)) ∧ w' = w := Any.utf8_ValidRune Tryz.lays119 r w
def Tryz.lays137_ren : Go.Shelf.Ren := ⟨fun | 137 => 308 | 217 => 335 | 266 => 353 | n => n, fun | 9 => 9 | 5 => 5 | 3 => 3 | n => n, fun | n => n⟩
theorem Tryz.lays137 : Go.Proofs.Lays.n137 Tryz.prog Tryz.lays137_ren := {
 mixed := by kernel_rfl
 f137 := Tryz.func308.trans (congrArg some cK)
 f217 := Tryz.func335.trans (congrArg some cK)
 f266 := Tryz.func353.trans (congrArg some cK)
 t3 := Tryz.underlying3
 a3 := Tryz.isAgg3
 z3 := Tryz.sizeOf3
 v3 := Tryz.zeroValue3
 t5 := Tryz.underlying5
 a5 := Tryz.isAgg5
 z5 := Tryz.sizeOf5
 v5 := Tryz.zeroValue5
 t9 := Tryz.underlying9
 a9 := Tryz.isAgg9
 z9 := Tryz.sizeOf9
 v9 := Tryz.zeroValue9 }
open Go.RowKit in
theorem Tryz.strings_IndexByte (s : ByteArray) (c : Int) (w : World) :
  Calls Tryz.prog 308 #[.string s, .int .u8 c] w fun e w' => e = .returned (.int .i64 (Lib.indexByte s.data.toList c.toNat.toUInt8)) ∧ w' = w := Any.strings_IndexByte Tryz.lays137 s c w
def Tryz.laysM171_ren : Go.Shelf.Ren := ⟨fun | 171 => 129 | 243 => 223 | 246 => 293 | 283 => 325 | 284 => 326 | 285 => 327 | 286 => 328 | 129 => 240 | 317 => 346 | 318 => 347 | 319 => 348 | 320 => 349 | 337 => 362 | 338 => 363 | n => n, fun | 3 => 3 | 9 => 9 | 2 => 2 | 4 => 4 | 171 => 444 | 0 => 0 | 53 => 345 | 37 => 130 | 5 => 5 | 173 => 446 | 212 => 475 | 51 => 350 | 20 => 20 | 213 => 476 | 46 => 257 | 232 => 510 | 233 => 511 | n => n, fun | 17 => 2 | 18 => 5 | 19 => 6 | n => n⟩
theorem Tryz.laysM171 : Go.Proofs.LaysM.n171 Tryz.prog Tryz.laysM171_ren := {
 mixed := by kernel_rfl
 f129 := Tryz.func240.trans (congrArg some cK)
 f171 := Tryz.func129.trans (congrArg some cK)
 f243 := Tryz.func223.trans (congrArg some cK)
 f246 := Tryz.func293.trans (congrArg some cK)
 f283 := Tryz.func325.trans (congrArg some cK)
 f284 := Tryz.func326.trans (congrArg some cK)
 f285 := Tryz.func327.trans (congrArg some cK)
 f286 := Tryz.func328.trans (congrArg some cK)
 f317 := Tryz.func346.trans (congrArg some cK)
 f318 := Tryz.func347.trans (congrArg some cK)
 f319 := Tryz.func348.trans (congrArg some cK)
 f320 := Tryz.func349.trans (congrArg some cK)
 f337 := Tryz.func362.trans (congrArg some cK)
 f338 := Tryz.func363.trans (congrArg some cK)
 t0 := Tryz.underlying0
 a0 := Tryz.isAgg0
 z0 := Tryz.sizeOf0
 v0 := Tryz.zeroValue0
 t2 := Tryz.underlying2
 a2 := Tryz.isAgg2
 z2 := Tryz.sizeOf2
 v2 := Tryz.zeroValue2
 t3 := Tryz.underlying3
 a3 := Tryz.isAgg3
 z3 := Tryz.sizeOf3
 v3 := Tryz.zeroValue3
 t4 := Tryz.underlying4
 a4 := Tryz.isAgg4
 z4 := Tryz.sizeOf4
 v4 := Tryz.zeroValue4
 t5 := Tryz.underlying5
 a5 := Tryz.isAgg5
 z5 := Tryz.sizeOf5
 v5 := Tryz.zeroValue5
 t9 := Tryz.underlying9
 a9 := Tryz.isAgg9
 z9 := Tryz.sizeOf9
 v9 := Tryz.zeroValue9
 t20 := Tryz.underlying20
 a20 := Tryz.isAgg20
 z20 := Tryz.sizeOf20
 v20 := Tryz.zeroValue20
 t37 := Tryz.underlying130
 a37 := Tryz.isAgg130
 z37 := Tryz.sizeOf130
 v37 := Tryz.zeroValue130
 t46 := Tryz.underlying257
 a46 := Tryz.isAgg257
 z46 := Tryz.sizeOf257
 v46 := Tryz.zeroValue257
 t51 := Tryz.underlying350
 a51 := Tryz.isAgg350
 z51 := Tryz.sizeOf350
 v51 := Tryz.zeroValue350
 t53 := Tryz.underlying345
 a53 := Tryz.isAgg345
 z53 := Tryz.sizeOf345
 v53 := Tryz.zeroValue345
 t171 := Tryz.underlying444
 a171 := Tryz.isAgg444
 z171 := Tryz.sizeOf444
 v171 := Tryz.zeroValue444
 t173 := Tryz.underlying446
 a173 := Tryz.isAgg446
 z173 := Tryz.sizeOf446
 v173 := Tryz.zeroValue446
 t212 := Tryz.underlying475
 a212 := Tryz.isAgg475
 z212 := Tryz.sizeOf475
 v212 := Tryz.zeroValue475
 t213 := Tryz.underlying476
 a213 := Tryz.isAgg476
 z213 := Tryz.sizeOf476
 t232 := Tryz.underlying510
 a232 := Tryz.isAgg510
 z232 := Tryz.sizeOf510
 v232 := Tryz.zeroValue510
 t233 := Tryz.underlying511
 a233 := Tryz.isAgg511
 z233 := Tryz.sizeOf511
 v233 := Tryz.zeroValue511
 g17 := by kernel_rfl
 g18 := by kernel_rfl
 g19 := by kernel_rfl
 i0 := by kernel_rfl
 i2 := by kernel_rfl
 i3 := by kernel_rfl
 i4 := by kernel_rfl
 i5 := by kernel_rfl
 i9 := by kernel_rfl
 i20 := by kernel_rfl
 i37 := by kernel_rfl
 i46 := by kernel_rfl
 i51 := by kernel_rfl
 i53 := by kernel_rfl
 i171 := by kernel_rfl
 i173 := by kernel_rfl
 i212 := by kernel_rfl
 i232 := by kernel_rfl
 i233 := by kernel_rfl
 m17 := by kernel_rfl
 m18 := by kernel_rfl
 m19 := by kernel_rfl }
open Go.RowKit Go.Sort Go.Lib in
theorem Tryz.strconv_Itoa (n : Int) (h0 : -9223372036854775808 ≤ n) (h1 : n ≤ 9223372036854775807) (w : World) (htab : Lib.TabIs Tryz.prog w "internal/strconv.uint64pow10" .u64 Lib.pow10Tab) :
  Calls Tryz.prog 129 #[.int .i64 n] w fun e w' => e = .returned (.string ⟨(Lib.itoa n).toArray⟩) ∧ ∃ k os, w' = grow (w.drewN k) os := Any.strconv_Itoa Tryz.laysM171 n h0 h1 w htab
def Tryz.lays143_ren : Go.Shelf.Ren := ⟨fun | 143 => 267 | 219 => 311 | 217 => 335 | 225 => 324 | 224 => 323 | 267 => 336 | 266 => 353 | 314 => 354 | n => n, fun | 9 => 9 | 3 => 3 | 4 => 4 | 5 => 5 | 46 => 257 | 146 => 402 | 51 => 350 | n => n, fun | 1 => 1 | n => n⟩
theorem Tryz.lays143 : Go.Proofs.Lays.n143 Tryz.prog Tryz.lays143_ren := {
 mixed := by kernel_rfl
 f143 := Tryz.func267.trans (congrArg some cK)
 f217 := Tryz.func335.trans (congrArg some cK)
 f219 := Tryz.func311.trans (congrArg some cK)
 f224 := Tryz.func323.trans (congrArg some cK)
 f225 := Tryz.func324.trans (congrArg some cK)
 f266 := Tryz.func353.trans (congrArg some cK)
 f267 := Tryz.func336.trans (congrArg some cK)
 f314 := Tryz.func354.trans (congrArg some cK)
 t3 := Tryz.underlying3
 a3 := Tryz.isAgg3
 z3 := Tryz.sizeOf3
 v3 := Tryz.zeroValue3
 t4 := Tryz.underlying4
 a4 := Tryz.isAgg4
 z4 := Tryz.sizeOf4
 v4 := Tryz.zeroValue4
 t5 := Tryz.underlying5
 a5 := Tryz.isAgg5
 z5 := Tryz.sizeOf5
 v5 := Tryz.zeroValue5
 t9 := Tryz.underlying9
 a9 := Tryz.isAgg9
 z9 := Tryz.sizeOf9
 v9 := Tryz.zeroValue9
 t46 := Tryz.underlying257
 a46 := Tryz.isAgg257
 z46 := Tryz.sizeOf257
 v46 := Tryz.zeroValue257
 t51 := Tryz.underlying350
 a51 := Tryz.isAgg350
 z51 := Tryz.sizeOf350
 v51 := Tryz.zeroValue350
 t146 := Tryz.underlying402
 a146 := Tryz.isAgg402
 z146 := Tryz.sizeOf402
 v146 := Tryz.zeroValue402
 g1 := by kernel_rfl }
open Go.RowKit Go.Lib in
theorem Tryz.strings_Index (s sub : ByteArray) (m : Int) (w : World) (hs : s.size < 4294967281) (hm : w.cell? ⟨1, 0, none⟩ = some (.int .i64 m)) :
  Calls Tryz.prog 267 #[.string s, .string sub] w fun e w' => e = .returned (.int .i64 (Lib.index s.data.toList sub.data.toList)) ∧ w' = w := Any.strings_Index Tryz.lays143 s sub m w hs hm
def Tryz.lays144_ren : Go.Shelf.Ren := ⟨fun | 144 => 305 | 143 => 267 | 219 => 311 | 217 => 335 | 225 => 324 | 224 => 323 | 267 => 336 | 266 => 353 | 314 => 354 | n => n, fun | 9 => 9 | 4 => 4 | 3 => 3 | 5 => 5 | 46 => 257 | 146 => 402 | 51 => 350 | n => n, fun | 1 => 1 | n => n⟩
theorem Tryz.lays144 : Go.Proofs.Lays.n144 Tryz.prog Tryz.lays144_ren := {
 mixed := by kernel_rfl
 f143 := Tryz.func267.trans (congrArg some cK)
 f144 := Tryz.func305.trans (congrArg some cK)
 f217 := Tryz.func335.trans (congrArg some cK)
 f219 := Tryz.func311.trans (congrArg some cK)
 f224 := Tryz.func323.trans (congrArg some cK)
 f225 := Tryz.func324.trans (congrArg some cK)
 f266 := Tryz.func353.trans (congrArg some cK)
 f267 := Tryz.func336.trans (congrArg some cK)
 f314 := Tryz.func354.trans (congrArg some cK)
 t3 := Tryz.underlying3
 a3 := Tryz.isAgg3
 z3 := Tryz.sizeOf3
 v3 := Tryz.zeroValue3
 t4 := Tryz.underlying4
 a4 := Tryz.isAgg4
 z4 := Tryz.sizeOf4
 v4 := Tryz.zeroValue4
 t5 := Tryz.underlying5
 a5 := Tryz.isAgg5
 z5 := Tryz.sizeOf5
 v5 := Tryz.zeroValue5
 t9 := Tryz.underlying9
 a9 := Tryz.isAgg9
 z9 := Tryz.sizeOf9
 v9 := Tryz.zeroValue9
 t46 := Tryz.underlying257
 a46 := Tryz.isAgg257
 z46 := Tryz.sizeOf257
 v46 := Tryz.zeroValue257
 t51 := Tryz.underlying350
 a51 := Tryz.isAgg350
 z51 := Tryz.sizeOf350
 v51 := Tryz.zeroValue350
 t146 := Tryz.underlying402
 a146 := Tryz.isAgg402
 z146 := Tryz.sizeOf402
 v146 := Tryz.zeroValue402
 g1 := by kernel_rfl }
open Go.RowKit Go.Lib in
theorem Tryz.strings_Contains (s sub : ByteArray) (m : Int) (w : World) (hs : s.size < 4294967281) (hm : w.cell? ⟨1, 0, none⟩ = some (.int .i64 m)) :
  Calls Tryz.prog 305 #[.string s, .string sub] w fun e w' => e = .returned (.bool (Lib.contains s.data.toList sub.data.toList)) ∧ w' = w := Any.strings_Contains Tryz.lays144 s sub m w hs hm
def Tryz.lays145_ren : Go.Shelf.Ren := ⟨fun | 145 => 228 | 220 => 295 | 219 => 311 | 217 => 335 | 225 => 324 | 224 => 323 | 267 => 336 | 266 => 353 | 314 => 354 | n => n, fun | 9 => 9 | 4 => 4 | 59 => 347 | 3 => 3 | 5 => 5 | 46 => 257 | 146 => 402 | 51 => 350 | n => n, fun | 1 => 1 | n => n⟩
theorem Tryz.lays145 : Go.Proofs.Lays.n145 Tryz.prog Tryz.lays145_ren := {
 mixed := by kernel_rfl
 f145 := Tryz.func228.trans (congrArg some cK)
 f217 := Tryz.func335.trans (congrArg some cK)
 f219 := Tryz.func311.trans (congrArg some cK)
 f220 := Tryz.func295.trans (congrArg some cK)
 f224 := Tryz.func323.trans (congrArg some cK)
 f225 := Tryz.func324.trans (congrArg some cK)
 f266 := Tryz.func353.trans (congrArg some cK)
 f267 := Tryz.func336.trans (congrArg some cK)
 f314 := Tryz.func354.trans (congrArg some cK)
 t3 := Tryz.underlying3
 a3 := Tryz.isAgg3
 z3 := Tryz.sizeOf3
 v3 := Tryz.zeroValue3
 t4 := Tryz.underlying4
 a4 := Tryz.isAgg4
 z4 := Tryz.sizeOf4
 v4 := Tryz.zeroValue4
 t5 := Tryz.underlying5
 a5 := Tryz.isAgg5
 z5 := Tryz.sizeOf5
 v5 := Tryz.zeroValue5
 t9 := Tryz.underlying9
 a9 := Tryz.isAgg9
 z9 := Tryz.sizeOf9
 v9 := Tryz.zeroValue9
 t46 := Tryz.underlying257
 a46 := Tryz.isAgg257
 z46 := Tryz.sizeOf257
 v46 := Tryz.zeroValue257
 t51 := Tryz.underlying350
 a51 := Tryz.isAgg350
 z51 := Tryz.sizeOf350
 v51 := Tryz.zeroValue350
 t59 := Tryz.underlying347
 a59 := Tryz.isAgg347
 z59 := Tryz.sizeOf347
 v59 := Tryz.zeroValue347
 t146 := Tryz.underlying402
 a146 := Tryz.isAgg402
 z146 := Tryz.sizeOf402
 v146 := Tryz.zeroValue402
 g1 := by kernel_rfl }
open Go.RowKit Go.Lib in
theorem Tryz.strings_Cut (s sep : ByteArray) (m : Int) (w : World) (hs : s.size < 4294967281) (hm : w.cell? ⟨1, 0, none⟩ = some (.int .i64 m)) :
  Calls Tryz.prog 228 #[.string s, .string sep] w fun e w' => e = .returned (.tuple #[.string ⟨(Lib.cut s.data.toList sep.data.toList).1.toArray⟩, .string ⟨(Lib.cut s.data.toList sep.data.toList).2.1.toArray⟩, .bool (Lib.cut s.data.toList sep.data.toList).2.2]) ∧ ∃ n, w' = w.drewN n := Any.strings_Cut Tryz.lays145 s sep m w hs hm
def Tryz.lays152_ren : Go.Shelf.Ren := ⟨fun | 152 => 289 | 137 => 308 | 119 => 322 | 224 => 323 | 225 => 324 | 217 => 335 | 266 => 353 | n => n, fun | 9 => 9 | 21 => 21 | 3 => 3 | 4 => 4 | 5 => 5 | 0 => 0 | 46 => 257 | n => n, fun | n => n⟩
theorem Tryz.lays152 : Go.Proofs.Lays.n152 Tryz.prog Tryz.lays152_ren := {
 mixed := by kernel_rfl
 f119 := Tryz.func322.trans (congrArg some cK)
 f137 := Tryz.func308.trans (congrArg some cK)
 f152 := Tryz.func289.trans (congrArg some cK)
 f217 := Tryz.func335.trans (congrArg some cK)
 f224 := Tryz.func323.trans (congrArg some cK)
 f225 := Tryz.func324.trans (congrArg some cK)
 f266 := Tryz.func353.trans (congrArg some cK)
 t0 := Tryz.underlying0
 a0 := Tryz.isAgg0
 z0 := Tryz.sizeOf0
 v0 := Tryz.zeroValue0
 t3 := Tryz.underlying3
 a3 := Tryz.isAgg3
 z3 := Tryz.sizeOf3
 v3 := Tryz.zeroValue3
 t4 := Tryz.underlying4
 a4 := Tryz.isAgg4
 z4 := Tryz.sizeOf4
 v4 := Tryz.zeroValue4
 t5 := Tryz.underlying5
 a5 := Tryz.isAgg5
 z5 := Tryz.sizeOf5
 v5 := Tryz.zeroValue5
 t9 := Tryz.underlying9
 a9 := Tryz.isAgg9
 z9 := Tryz.sizeOf9
 v9 := Tryz.zeroValue9
 t21 := Tryz.underlying21
 a21 := Tryz.isAgg21
 z21 := Tryz.sizeOf21
 v21 := Tryz.zeroValue21
 t46 := Tryz.underlying257
 a46 := Tryz.isAgg257
 z46 := Tryz.sizeOf257
 v46 := Tryz.zeroValue257 }
open Go.RowKit Go.Lib in
theorem Tryz.strings_IndexRune_ascii (s : ByteArray) (r : Int) (w : World) (h0 : 0 ≤ r) (h1 : r < 128) :
  Calls Tryz.prog 289 #[.string s, .int .i32 r] w fun e w' => e = .returned (.int .i64 (Lib.indexByte s.data.toList r.toNat.toUInt8)) ∧ w' = w := Any.strings_IndexRune_ascii Tryz.lays152 s r w h0 h1
def Tryz.lays226_ren : Go.Shelf.Ren := ⟨fun | 226 => 290 | n => n, fun | 3 => 3 | 4 => 4 | n => n, fun | n => n⟩
theorem Tryz.lays226 : Go.Proofs.Lays.n226 Tryz.prog Tryz.lays226_ren := {
 mixed := by kernel_rfl
 f226 := Tryz.func290.trans (congrArg some cK)
 t3 := Tryz.underlying3
 a3 := Tryz.isAgg3
 z3 := Tryz.sizeOf3
 v3 := Tryz.zeroValue3
 t4 := Tryz.underlying4
 a4 := Tryz.isAgg4
 z4 := Tryz.sizeOf4
 v4 := Tryz.zeroValue4 }
open Go.RowKit Go.Lib in
theorem Tryz.strings_shouldUseASCIISet (n : Int) (w : World) :
  Calls Tryz.prog 290 #[.int .i64 n] w fun e w' => e = .returned (.bool (decide (8 < n))) ∧ w' = w := Any.strings_shouldUseASCIISet Tryz.lays226 n w
def Tryz.lays153_ren : Go.Shelf.Ren := ⟨fun | 153 => 221 | 152 => 289 | 226 => 290 | 227 => 291 | 228 => 292 | 137 => 308 | 119 => 322 | 224 => 323 | 225 => 324 | 217 => 335 | 266 => 353 | n => n, fun | 9 => 9 | 3 => 3 | 4 => 4 | 5 => 5 | 21 => 21 | 117 => 416 | 116 => 415 | 0 => 0 | 46 => 257 | 124 => 443 | n => n, fun | n => n⟩
theorem Tryz.lays153 : Go.Proofs.Lays.n153 Tryz.prog Tryz.lays153_ren := {
 mixed := by kernel_rfl
 f119 := Tryz.func322.trans (congrArg some cK)
 f137 := Tryz.func308.trans (congrArg some cK)
 f152 := Tryz.func289.trans (congrArg some cK)
 f153 := Tryz.func221.trans (congrArg some cK)
 f217 := Tryz.func335.trans (congrArg some cK)
 f224 := Tryz.func323.trans (congrArg some cK)
 f225 := Tryz.func324.trans (congrArg some cK)
 f226 := Tryz.func290.trans (congrArg some cK)
 f227 := Tryz.func291.trans (congrArg some cK)
 f228 := Tryz.func292.trans (congrArg some cK)
 f266 := Tryz.func353.trans (congrArg some cK)
 t0 := Tryz.underlying0
 a0 := Tryz.isAgg0
 z0 := Tryz.sizeOf0
 v0 := Tryz.zeroValue0
 t3 := Tryz.underlying3
 a3 := Tryz.isAgg3
 z3 := Tryz.sizeOf3
 v3 := Tryz.zeroValue3
 t4 := Tryz.underlying4
 a4 := Tryz.isAgg4
 z4 := Tryz.sizeOf4
 v4 := Tryz.zeroValue4
 t5 := Tryz.underlying5
 a5 := Tryz.isAgg5
 z5 := Tryz.sizeOf5
 v5 := Tryz.zeroValue5
 t9 := Tryz.underlying9
 a9 := Tryz.isAgg9
 z9 := Tryz.sizeOf9
 v9 := Tryz.zeroValue9
 t21 := Tryz.underlying21
 a21 := Tryz.isAgg21
 z21 := Tryz.sizeOf21
 v21 := Tryz.zeroValue21
 t46 := Tryz.underlying257
 a46 := Tryz.isAgg257
 z46 := Tryz.sizeOf257
 v46 := Tryz.zeroValue257
 t116 := Tryz.underlying415
 a116 := Tryz.isAgg415
 z116 := Tryz.sizeOf415
 t117 := Tryz.underlying416
 a117 := Tryz.isAgg416
 z117 := Tryz.sizeOf416
 v117 := Tryz.zeroValue416
 t124 := Tryz.underlying443
 a124 := Tryz.isAgg443
 z124 := Tryz.sizeOf443
 v124 := Tryz.zeroValue443 }
open Go.RowKit Go.Lib in
theorem Tryz.strings_IndexAny_long (hv116 : ∀ w, (zeroValue 415).run Tryz.prog w = .ok (.agg (Array.replicate 256 (.bool false))) w) (s chars : ByteArray) (w : World) (h2 : 2 ≤ chars.size) (h8 : 8 < s.size) (hs : s.size < 4294967281) (hcs : chars.size < 4294967281) (hascii : ∀ (j : Nat) b, chars.data.toList[j]? = some b → b.toNat < 128) :
  Calls Tryz.prog 221 #[.string s, .string chars] w fun e w' => e = .returned (.int .i64 (Lib.indexAny s.data.toList chars.data.toList)) ∧ w' = ((w.alloc (.cells (Lib.setCells chars.data.toList) 415)).alloc (.cells (Lib.setCells chars.data.toList) 415)) := Any.strings_IndexAny_long Tryz.lays153 hv116 cK s chars w h2 h8 hs hcs hascii
end Go.Proofs
end
section
namespace Go.Proofs
open Go Go.SL Go.Syn
def Flt (e at_ : Int) : Ending → Hl → List Asn → Prop := fun en K' L' =>
 ∃ b, en = .panicked [{ v := .iface 118 (ptr b), recovered := false }] ∧ L' = [pt b (aU [i64 e, i64 at_] 123)]
def fD {β : Type} (r : Res β) (N : β → Value → Hl → List Asn → Prop) : Ending → Hl → List Asn → Prop := fun en K' L' =>
 match r with
 | .ok x => Ret (N x) en K' L'
 | .error (e, p) => Flt e p en K' L'
theorem aY {β : Type} {r : Res β} {N : β → Value → Hl → List Asn → Prop} (K' : Hl) (L' : List Asn) : ¬ fD r N .outgrown K' L' := by
 unfold fD;cases r with
 | ok x => rintro ⟨_, h, _⟩; cases h
 | error p => rintro ⟨_, h, _⟩; cases h
theorem a6 {β : Type} {r : Res β} {N : β → Value → Hl → List Asn → Prop} {v : Value} {K' : Hl} {L' : List Asn} (h : fD r N (.returned v) K' L') : ∃ x, r = .ok x ∧ N x v K' L' := by
 unfold fD at h;cases r with
 | ok x => obtain ⟨u, e, h⟩ := h; cases e; exact ⟨x, rfl, h⟩
 | error p => obtain ⟨_, e, _⟩ := h; cases e
theorem aZ {β : Type} {r : Res β} {N : β → Value → Hl → List Asn → Prop} {ch : List PanicEntry} {K' : Hl} {L' : List Asn} (h : fD r N (.panicked ch) K' L') : ∃ e p, r = .error (e, p) ∧ Flt e p (.panicked ch) K' L' := by
 unfold fD at h;cases r with
 | ok x => obtain ⟨u, e, h⟩ := h; cases e
 | error p => exact ⟨p.1, p.2, rfl, h⟩
theorem dY (e at_ : Int) (K : Hl) : Sp Tryz.prog 184 [i64 e, i64 at_] K [] (Flt e at_) := by
 refine bA Tryz.func184 rfl Tryz.ntmps184 rfl rfl fun F w => ?_
 refine aB ?_;refine aA (aC rfl) rfl ?_;refine aA (aC rfl) rfl ?_;refine aA (cJ aM9 aKM (.cons rfl rfl rfl (.cons .nil) (.cons rfl rfl rfl (.skip (.cons .nil)) .nil))) rfl ?_;refine ol_s (d9 rfl rfl) rfl ?_;rintro _ K _ ⟨b7, rfl, rfl, rfl⟩ -;refine aA (dA Tryz.underlying118 (fun _ h => by cases h) rfl) rfl ?_;refine aBD rfl ?_;refine a8 (Hl.le_refl _) ?_;exact ⟨_, rfl, rfl⟩
theorem aDR (c : UInt8) (K : Hl) : Sp Tryz.prog 266 [.int .u8 c.toNat] K [] (Val (.bool (decide (¬ c.toNat = 10))) K) := by
 refine bA Tryz.func266 rfl Tryz.ntmps266 rfl rfl fun F w => ?_
 refine aI (aB ?_);refine aA (aF rfl) rfl ?_;refine aG (aE ?_);refine aI (aB ?_);refine aA (aC rfl) rfl ?_;refine aA (fF rfl rfl) rfl ?_;refine aA (aF rfl) rfl ?_;refine aG (aE ?_);refine bM ?_;refine bL rfl rfl (Hl.le_refl _) ?_;refine retB ?_ _
 rw [Bool.eq_iff_iff];simp;omega
structure Glob (K : Hl) : Prop where
 maxLen : ∃ m T fz, K 1 = some (aU [i64 m] T fz)
 pow10 : ∀ w, K.le (hp w) → Lib.TabIs Tryz.prog w "internal/strconv.uint64pow10" .u64 Lib.pow10Tab
theorem u4 (s sub : List UInt8) (K : Hl) (hg : Glob K) (hs : s.length < 4294967281) : Sp Tryz.prog 267 [str s, str sub] K [] (Val (i64 (Lib.index s sub)) K) := by
 refine jI ⟨_, Tryz.func267, rfl, rfl⟩ fun w hw => ?_
 obtain ⟨m, T, fz, hm⟩ := hg.maxLen;have := Tryz.strings_Index ⟨s.toArray⟩ ⟨sub.toArray⟩ m w (by simpa [ByteArray.size] using hs) (nK (hw _ _ hm) rfl);exact this
theorem oM (s sub : List UInt8) : Lib.index s sub ≤ (s.length : Int) - sub.length ∨ Lib.index s sub = -1 := by
 induction s with
 | nil => cases sub <;> simp [Lib.index]
 | cons b l ih =>
  simp only [Lib.index];split
  ·rename_i hp;have := List.IsPrefix.length_le (List.isPrefixOf_iff_prefix.1 hp);simp at this ⊢; omega
  ·split
   ·exact .inr rfl
   ·rename_i h; simp at h; rcases ih with ih | ih
    ·left; simp; omega
    ·exact absurd ih h
theorem aHK (b : Nat) (T : TypeId) (s : List UInt8) (a : Nat) (wk ws wn wa : Value) (rest : List Value) (hs : s.length ≤ 600) (ha : a ≤ s.length) (K : Hl) (hg : Glob K) :
  Sp Tryz.prog 180 [ptr b] K [lxb b T s a wk ws wn wa rest]
   (fD (skip s a) fun a' v K' L' => v = .tuple #[] ∧ K' = K ∧ L' = [lxb b T s a' wk ws wn wa rest]) := by
 refine bA Tryz.func180 rfl Tryz.ntmps180 rfl rfl fun F w => ?_
 refine bC ?_;refine dS (fun (i : Nat) => a ≤ i ∧ i ≤ s.length ∧ ∃ f, s.length < i + (f + 1) ∧ skip s a = g9 s (f + 1) i) (fun i => [(0, ptr b)]) (fun _ => K) (fun i => [lxb b T s i wk ws wn wa rest]) (fun i => s.length - i) a ⟨Nat.le_refl _, ha, s.length - a, by omega, by unfold skip; congr 1; omega⟩ (.cons 0 rfl .nil) rfl (fun _ h => h) ?_;intro i ⟨hi1, hi2, f, hi3, hi4⟩;refine aI (aI ?_);refine t_draw (anc := [0, 1, 3, 7, 0, 16, 48, 112, 240, 511]) (ord := [0, 1, 2, 3, 4, 5, 6, 7, 8, 9]) [] [] mixed (by decide +kernel) (cT _) ?_;refine dl_ev rfl rfl (.none rfl) rfl rfl (aC rfl) rfl ?_;refine dl_ev rfl rfl (.none rfl) rfl rfl bS rfl ?_;refine dl_ev rfl rfl (.none rfl) rfl rfl (aD (o' := 1) bW rfl rfl) rfl ?_;refine dl_ev rfl rfl (.none rfl) rfl rfl (aK ts3 rfl aL rfl) rfl ?_;refine dl_ev rfl rfl (.none rfl) rfl rfl (aC rfl) rfl ?_;refine dl_ev rfl rfl (.none rfl) rfl rfl bS rfl ?_;refine dl_ev rfl rfl (.none rfl) rfl rfl (aD (o' := 0) fB rfl rfl) rfl ?_;refine dl_ev rfl rfl (.none rfl) rfl rfl (aK ts9 rfl aL rfl) rfl ?_;refine dl_ev rfl rfl (.none rfl) rfl rfl (cH rfl Tryz.underlying9 rfl) rfl ?_;refine dl_ev rfl rfl (.none rfl) rfl rfl (cU rfl rfl) rfl ?_;refine dl_nil ?_;refine aE ?_;refine bH 13 rfl (fun h13 => ?_) (fun h13 => ?_)
 ·
  obtain ⟨c, hc⟩ : ∃ c, s[i]? = some c := ⟨s[i], List.getElem?_eq_getElem aH⟩;have hp0 : ((s[i + 0]?).getD 0) = c := by rw [Nat.add_zero, hc]; rfl
  refine aX ?_;refine aE (bC ?_);refine aI (aB ?_);refine aA (aC rfl) rfl ?_;refine bD rfl rfl (iR b T s i 0 wk ws wn wa rest hs aH aH K) (.cons .here .nil) rfl ?_;rintro _ K _ ⟨rfl, rfl, rfl⟩ -;rw [hp0];refine aA (aF rfl) rfl ?_;refine aG (aE ?_);refine aI (aB ?_);refine aA (aC rfl) rfl ?_;refine aG (aE ?_);refine bC (aI ?_);refine aI (aB ?_);refine aA (bV rfl rfl) rfl ?_;refine aA (aF rfl) rfl ?_;refine aG (aE ?_);refine bH 17 rfl (fun h17 => ?_) (fun h17 => ?_)
  ·
   refine aX ?_;refine aE ?_;refine eK rfl ?_;refine aB ?_;refine aA (aC rfl) rfl ?_;refine aA bS rfl ?_;refine aA (aD (o' := 1) bW rfl rfl) rfl ?_;refine aA (aK ts3 rfl aL rfl) rfl ?_;refine aA (b0 rfl rfl aH aH) rfl ?_;refine aA bS rfl ?_;refine aA (aD (o' := 1) bW rfl rfl) rfl ?_;refine bP (bK ts3 rfl rfl cD a7 (.succ .zero) rfl) ?_;rintro _ K _ ⟨rfl, rfl⟩ -;refine aG (aM ?_);refine aM ?_
   first
    | (have hf : ∃ f0, f = f0 + 1 := ⟨f - 1, by omega⟩; obtain ⟨f0, rfl⟩ := hf; refine cI (i + 1) ⟨by omega, by omega, f0, by omega, by rw [hi4, jN hc aH]⟩ aH (.cons 0 rfl .nil) rfl (fun _ h => h))
    | (have hh := mX hc aH; refine cI (i + ((s.drop i).takeWhile fun c => decide (¬ c.toNat = 10)).length) ⟨by omega, by omega, f - 1, by omega, by rw [hi4, kM hc aH]; congr 1; omega⟩ aH (.cons 0 rfl .nil) rfl (fun _ h => h))
    | (rw [show ((i : Int) + (2 + Lib.index (s.drop (min (i + 2) s.length)) [42, 47] + 2)) = ((i + 2 + (Lib.index (s.drop (min (i + 2) s.length)) [42, 47]).toNat + 2 : Nat) : Int) from by omega]; refine cI (i + 2 + (Lib.index (s.drop (min (i + 2) s.length)) [42, 47]).toNat + 2) ⟨by omega, by omega, f - 1, by omega, by rw [hi4, iB hc aH aH aH]; congr 1; omega⟩ aH (.cons 0 rfl .nil) rfl (fun _ h => h))
  ·
   refine aI (aB ?_);refine aA (bV rfl rfl) rfl ?_;refine aA (aF rfl) rfl ?_;refine aG (aE ?_);refine bH 17 rfl (fun h17 => ?_) (fun h17 => ?_)
   ·
    refine aX ?_;refine aE ?_;refine eK rfl ?_;refine aB ?_;refine aA (aC rfl) rfl ?_;refine aA bS rfl ?_;refine aA (aD (o' := 1) bW rfl rfl) rfl ?_;refine aA (aK ts3 rfl aL rfl) rfl ?_;refine aA (b0 rfl rfl aH aH) rfl ?_;refine aA bS rfl ?_;refine aA (aD (o' := 1) bW rfl rfl) rfl ?_;refine bP (bK ts3 rfl rfl cD a7 (.succ .zero) rfl) ?_;rintro _ K _ ⟨rfl, rfl⟩ -;refine aG (aM ?_);refine aM ?_
    first
     | (have hf : ∃ f0, f = f0 + 1 := ⟨f - 1, by omega⟩; obtain ⟨f0, rfl⟩ := hf; refine cI (i + 1) ⟨by omega, by omega, f0, by omega, by rw [hi4, jN hc aH]⟩ aH (.cons 0 rfl .nil) rfl (fun _ h => h))
     | (have hh := mX hc aH; refine cI (i + ((s.drop i).takeWhile fun c => decide (¬ c.toNat = 10)).length) ⟨by omega, by omega, f - 1, by omega, by rw [hi4, kM hc aH]; congr 1; omega⟩ aH (.cons 0 rfl .nil) rfl (fun _ h => h))
     | (rw [show ((i : Int) + (2 + Lib.index (s.drop (min (i + 2) s.length)) [42, 47] + 2)) = ((i + 2 + (Lib.index (s.drop (min (i + 2) s.length)) [42, 47]).toNat + 2 : Nat) : Int) from by omega]; refine cI (i + 2 + (Lib.index (s.drop (min (i + 2) s.length)) [42, 47]).toNat + 2) ⟨by omega, by omega, f - 1, by omega, by rw [hi4, iB hc aH aH aH]; congr 1; omega⟩ aH (.cons 0 rfl .nil) rfl (fun _ h => h))
   ·
    refine aI (aB ?_);refine aA (bV rfl rfl) rfl ?_;refine aA (aF rfl) rfl ?_;refine aG (aE ?_);refine bH 17 rfl (fun h17 => ?_) (fun h17 => ?_)
    ·
     refine aX ?_;refine aE ?_;refine eK rfl ?_;refine aB ?_;refine aA (aC rfl) rfl ?_;refine aA bS rfl ?_;refine aA (aD (o' := 1) bW rfl rfl) rfl ?_;refine aA (aK ts3 rfl aL rfl) rfl ?_;refine aA (b0 rfl rfl aH aH) rfl ?_;refine aA bS rfl ?_;refine aA (aD (o' := 1) bW rfl rfl) rfl ?_;refine bP (bK ts3 rfl rfl cD a7 (.succ .zero) rfl) ?_;rintro _ K _ ⟨rfl, rfl⟩ -;refine aG (aM ?_);refine aM ?_
     first
      | (have hf : ∃ f0, f = f0 + 1 := ⟨f - 1, by omega⟩; obtain ⟨f0, rfl⟩ := hf; refine cI (i + 1) ⟨by omega, by omega, f0, by omega, by rw [hi4, jN hc aH]⟩ aH (.cons 0 rfl .nil) rfl (fun _ h => h))
      | (have hh := mX hc aH; refine cI (i + ((s.drop i).takeWhile fun c => decide (¬ c.toNat = 10)).length) ⟨by omega, by omega, f - 1, by omega, by rw [hi4, kM hc aH]; congr 1; omega⟩ aH (.cons 0 rfl .nil) rfl (fun _ h => h))
      | (rw [show ((i : Int) + (2 + Lib.index (s.drop (min (i + 2) s.length)) [42, 47] + 2)) = ((i + 2 + (Lib.index (s.drop (min (i + 2) s.length)) [42, 47]).toNat + 2 : Nat) : Int) from by omega]; refine cI (i + 2 + (Lib.index (s.drop (min (i + 2) s.length)) [42, 47]).toNat + 2) ⟨by omega, by omega, f - 1, by omega, by rw [hi4, iB hc aH aH aH]; congr 1; omega⟩ aH (.cons 0 rfl .nil) rfl (fun _ h => h))
    ·
     refine aB ?_;refine aA (bV rfl rfl) rfl ?_;refine aA (aF rfl) rfl ?_;refine aG (aE ?_);refine bH 17 rfl (fun h17 => ?_) (fun h17 => ?_)
     ·
      refine aB ?_;refine aA (aC rfl) rfl ?_;refine aA bS rfl ?_;refine aA (aD (o' := 1) bW rfl rfl) rfl ?_;refine aA (aK ts3 rfl aL rfl) rfl ?_;refine aA (b0 rfl rfl aH aH) rfl ?_;refine aA bS rfl ?_;refine aA (aD (o' := 1) bW rfl rfl) rfl ?_;refine bP (bK ts3 rfl rfl cD a7 (.succ .zero) rfl) ?_;rintro _ K _ ⟨rfl, rfl⟩ -;refine aG (aM ?_);refine aM ?_
      first
       | (have hf : ∃ f0, f = f0 + 1 := ⟨f - 1, by omega⟩; obtain ⟨f0, rfl⟩ := hf; refine cI (i + 1) ⟨by omega, by omega, f0, by omega, by rw [hi4, jN hc aH]⟩ aH (.cons 0 rfl .nil) rfl (fun _ h => h))
       | (have hh := mX hc aH; refine cI (i + ((s.drop i).takeWhile fun c => decide (¬ c.toNat = 10)).length) ⟨by omega, by omega, f - 1, by omega, by rw [hi4, kM hc aH]; congr 1; omega⟩ aH (.cons 0 rfl .nil) rfl (fun _ h => h))
       | (rw [show ((i : Int) + (2 + Lib.index (s.drop (min (i + 2) s.length)) [42, 47] + 2)) = ((i + 2 + (Lib.index (s.drop (min (i + 2) s.length)) [42, 47]).toNat + 2 : Nat) : Int) from by omega]; refine cI (i + 2 + (Lib.index (s.drop (min (i + 2) s.length)) [42, 47]).toNat + 2) ⟨by omega, by omega, f - 1, by omega, by rw [hi4, iB hc aH aH aH]; congr 1; omega⟩ aH (.cons 0 rfl .nil) rfl (fun _ h => h))
     ·
      refine aI (aB ?_);refine aA (bV rfl rfl) rfl ?_;refine aA (aF rfl) rfl ?_;refine aG (aE ?_);refine bH 29 rfl (fun h29 => ?_) (fun h29 => ?_)
      ·
       refine aB ?_;refine aA (aC rfl) rfl ?_;refine bD rfl rfl (nZ b T s i wk ws wn wa rest 266 (fun c => decide (¬ c.toNat = 10)) hs aH _ (fun c => aDR c _)) (.cons .here .nil) rfl ?_;rintro _ K _ ⟨rfl, rfl, rfl⟩ -;refine aG (aM ?_);refine aM ?_
       first
        | (have hf : ∃ f0, f = f0 + 1 := ⟨f - 1, by omega⟩; obtain ⟨f0, rfl⟩ := hf; refine cI (i + 1) ⟨by omega, by omega, f0, by omega, by rw [hi4, jN hc aH]⟩ aH (.cons 0 rfl .nil) rfl (fun _ h => h))
        | (have hh := mX hc aH; refine cI (i + ((s.drop i).takeWhile fun c => decide (¬ c.toNat = 10)).length) ⟨by omega, by omega, f - 1, by omega, by rw [hi4, kM hc aH]; congr 1; omega⟩ aH (.cons 0 rfl .nil) rfl (fun _ h => h))
        | (rw [show ((i : Int) + (2 + Lib.index (s.drop (min (i + 2) s.length)) [42, 47] + 2)) = ((i + 2 + (Lib.index (s.drop (min (i + 2) s.length)) [42, 47]).toNat + 2 : Nat) : Int) from by omega]; refine cI (i + 2 + (Lib.index (s.drop (min (i + 2) s.length)) [42, 47]).toNat + 2) ⟨by omega, by omega, f - 1, by omega, by rw [hi4, iB hc aH aH aH]; congr 1; omega⟩ aH (.cons 0 rfl .nil) rfl (fun _ h => h))
      ·
       refine aI (aB ?_);refine aA (bV rfl rfl) rfl ?_;refine aA (aF rfl) rfl ?_;refine aG (aE ?_);refine bH 33 rfl (fun h33 => ?_) (fun h33 => ?_)
       ·
        refine aI ?_;refine t_draw (anc := [0, 1, 3, 7, 0, 16, 48, 112, 240, 0, 512, 1536, 3584, 7680, 16368, 32767, 65535, 131071]) (ord := [0, 1, 2, 3, 4, 5, 6, 7, 8, 9, 10, 11, 12, 13, 14, 15, 16, 17]) [16] [] mixed (by decide +kernel) (cT _) ?_;refine dl_ev rfl rfl (.none rfl) rfl rfl (aC rfl) rfl ?_;refine dl_ev rfl rfl (.none rfl) rfl rfl bS rfl ?_;refine dl_ev rfl rfl (.none rfl) rfl rfl (aD (o' := 0) fB rfl rfl) rfl ?_;refine dl_ev rfl rfl (.none rfl) rfl rfl (aK ts9 rfl aL rfl) rfl ?_;refine dl_ev rfl rfl (.none rfl) rfl rfl (aC rfl) rfl ?_;refine dl_ev rfl rfl (.none rfl) rfl rfl bS rfl ?_;refine dl_ev rfl rfl (.none rfl) rfl rfl (aD (o' := 1) bW rfl rfl) rfl ?_;refine dl_ev rfl rfl (.none rfl) rfl rfl (aK ts3 rfl aL rfl) rfl ?_;refine dl_ev rfl rfl (.none rfl) rfl rfl (b0 rfl rfl aH aH) rfl ?_;refine dl_ev rfl rfl (.none rfl) rfl rfl (aC rfl) rfl ?_;refine dl_ev rfl rfl (.none rfl) rfl rfl bS rfl ?_;refine dl_ev rfl rfl (.none rfl) rfl rfl (aD (o' := 0) fB rfl rfl) rfl ?_;refine dl_ev rfl rfl (.none rfl) rfl rfl (aK ts9 rfl aL rfl) rfl ?_;refine dl_ev rfl rfl (.none rfl) rfl rfl (cH rfl Tryz.underlying9 rfl) rfl ?_;refine dl_ev rfl rfl (.none rfl) rfl rfl (kB rfl rfl) rfl ?_;refine dl_ev rfl rfl (.none rfl) rfl rfl (hO (m := min (i + 2) s.length) Tryz.underlying9 rfl rfl (by split <;> omega) aH) rfl ?_;refine dl_callv rfl (.none rfl) rfl rfl rfl rfl (u4 _ _ _ hg (by simp; omega)) rfl ?_;refine dl_ev rfl rfl (.none rfl) rfl rfl (aF rfl) rfl ?_;refine dl_nil ?_;refine aE (aI ?_);refine aI (aB ?_);refine aA (aC rfl) rfl ?_;refine bD rfl rfl (iR b T s i 1 wk ws wn wa rest hs aH aH _) (.cons .here .nil) rfl ?_;rintro _ K _ ⟨rfl, rfl, rfl⟩ -;have hix := oM (s.drop (min (i + 2) s.length)) [42, 47];simp only [List.length_drop, List.length_cons, List.length_nil] at hix;refine aA (fF rfl rfl) rfl ?_;refine aG (aE ?_);refine bH 54 rfl (fun h54 => ?_) (fun h54 => ?_)
        ·
         refine bM ?_;refine bF ?_;refine bR ?_;refine bR ?_;refine bF ?_;refine bR ?_;refine qF rfl (Hl.le_refl _) ?_;have hk : skip s a = .ok i := by rw [hi4]; first | exact sQ aH | exact oZ hc aH aH | exact oY hc aH
         rw [hk];exact ⟨_, rfl, rfl, rfl, rfl⟩
        ·
         refine aX ?_;refine aE (aI ?_);refine aI (aB ?_);refine aA (aC rfl) rfl ?_;refine aA (cU rfl rfl) rfl ?_;refine aG (aE ?_);refine bH 56 rfl (fun h56 => ?_) (fun h56 => ?_)
         ·
          refine aB ?_;refine aA (aC rfl) rfl ?_;refine aA bS rfl ?_;refine aA (aD (o' := 1) bW rfl rfl) rfl ?_;refine aA (aK ts3 rfl aL rfl) rfl ?_;refine aW rfl rfl (dY 2 i _) .nil rfl (by rintro _ _ ⟨_, h, _⟩; cases h) ?_ ?_
          ·
           rintro _ _ _ ⟨fb, h, rfl⟩ le1;cases h
           refine aN (.cons .here .nil) ?_;refine aJ ?_;refine aQ ?_;refine aQ ?_;refine aJ ?_;refine aQ ?_;refine a8 bQ ?_;rw [hi4, aHJ hc aH aH h56];exact ⟨fb, rfl, rfl⟩
          ·
           rintro _ _ _ ⟨_, h, _⟩; cases h
         ·
          refine aX ?_;refine aE (aB ?_);refine aA (aC rfl) rfl ?_;refine aA bS rfl ?_;refine aA (aD (o' := 1) bW rfl rfl) rfl ?_;refine aA (aK ts3 rfl aL rfl) rfl ?_;refine aA (aC rfl) rfl ?_;refine aA (b0 rfl rfl aH aH) rfl ?_;refine aA (b0 rfl rfl aH aH) rfl ?_;refine aA (b0 rfl rfl aH aH) rfl ?_;refine aA bS rfl ?_;refine aA (aD (o' := 1) bW rfl rfl) rfl ?_;refine bP (bK ts3 rfl rfl cD a7 (.succ .zero) rfl) ?_;rintro _ K _ ⟨rfl, rfl⟩ -;refine aG (aM ?_);refine aM ?_
          first
           | (have hf : ∃ f0, f = f0 + 1 := ⟨f - 1, by omega⟩; obtain ⟨f0, rfl⟩ := hf; refine cI (i + 1) ⟨by omega, by omega, f0, by omega, by rw [hi4, jN hc aH]⟩ aH (.cons 0 rfl .nil) rfl (fun _ h => h))
           | (have hh := mX hc aH; refine cI (i + ((s.drop i).takeWhile fun c => decide (¬ c.toNat = 10)).length) ⟨by omega, by omega, f - 1, by omega, by rw [hi4, kM hc aH]; congr 1; omega⟩ aH (.cons 0 rfl .nil) rfl (fun _ h => h))
           | (rw [show ((i : Int) + (2 + Lib.index (s.drop (min (i + 2) s.length)) [42, 47] + 2)) = ((i + 2 + (Lib.index (s.drop (min (i + 2) s.length)) [42, 47]).toNat + 2 : Nat) : Int) from by omega]; refine cI (i + 2 + (Lib.index (s.drop (min (i + 2) s.length)) [42, 47]).toNat + 2) ⟨by omega, by omega, f - 1, by omega, by rw [hi4, iB hc aH aH aH]; congr 1; omega⟩ aH (.cons 0 rfl .nil) rfl (fun _ h => h))
       ·
        refine bM ?_;refine bR ?_;refine bR ?_;refine bF ?_;refine bR ?_;refine qF rfl (Hl.le_refl _) ?_;have hk : skip s a = .ok i := by rw [hi4]; first | exact sQ aH | exact oZ hc aH aH | exact oY hc aH
        rw [hk];exact ⟨_, rfl, rfl, rfl, rfl⟩
 ·
  refine cR ?_;refine aT ?_;refine aT ?_;refine bG ?_;refine dD rfl (Hl.le_refl _) ?_;have hk : skip s a = .ok i := by rw [hi4]; first | exact sQ aH | exact oZ hc aH aH | exact oY hc aH
  rw [hk];exact ⟨_, rfl, rfl, rfl, rfl⟩
end Go.Proofs
end
section
namespace Go.Proofs
open Go Go.SL Go.Syn
theorem tN (s : List UInt8) (lo hi add : UInt8) (K : Hl) (hs : s.length ≤ 140737488351232) :
    Sp Tryz.prog 269 [str s, .int .u8 lo.toNat, .int .u8 hi.toNat, .int .u8 add.toNat] K [] (Val (str (s.map (j4 lo hi add))) K) := by
  refine bA Tryz.func269 rfl Tryz.ntmps269 rfl rfl fun F w => ?_
  refine aI (aB ?_);refine aA (aF rfl) rfl ?_;refine aG (aE ?_);refine aI (aB ?_);refine aA (aC rfl) rfl ?_;refine ol_s (pK Tryz.underlying9 Tryz.underlying130 Tryz.underlying5 rfl) rfl ?_;rintro v13 K _ ⟨rfl, rfl⟩ -;refine aA (aF rfl) rfl ?_;refine aG (aE ?_);refine aI (aI ?_);refine aB ?_;refine aA (aC rfl) rfl ?_;refine aA (bZ (k := (elB 5)) rfl Tryz.underlying130 rfl aL) rfl ?_;refine aA (aC rfl) rfl ?_;refine aG (aE ?_);refine bC ?_;refine dS (fun (i : Nat) => i ≤ s.length) (fun i => [(1, .int .u8 lo.toNat), (2, .int .u8 hi.toNat), (3, .int .u8 add.toNat), (9, v13), (14, v13), (15, i64 s.length), (16, i64 i)]) (fun _ => _) (fun i => [sl false (elB 5) v13 (Plain.mp (j4 lo hi add) s i)]) (fun i => s.length - i) 0 (Nat.zero_le _) (.cons 1 rfl (.cons 2 rfl (.cons 3 rfl (.cons 9 rfl (.cons 14 rfl (.cons 15 rfl (.cons 16 rfl .nil))))))) rfl (fun _ h => by rw [Plain.mp_zero]; exact h) ?_;intro i hi0;refine aI (aB ?_);refine aA (cU rfl rfl) rfl ?_;refine aG (aE ?_);refine aI ?_;refine bH 17 rfl (fun h17 => ?_) (fun h17 => ?_)
  ·
    obtain ⟨c, hc⟩ : ∃ c, s[i]? = some c := ⟨s[i]'(by omega), List.getElem?_eq_getElem aH⟩;have hlen : i < (Plain.mp (j4 lo hi add) s i).length := by rw [Plain.mp_len]; omega
    have hget := (Plain.mp_get (j4 lo hi add) s i).trans hc;refine aX ?_;refine aE (aI ?_);refine bC (aI ?_);refine aB ?_;refine aA (aC rfl) rfl ?_;refine aA (bU (k := (elB 5)) lO rfl aL rfl rfl (by first | assumption | omega)) rfl ?_;refine aA (dQ (o := 0) (k := (elB 5)) ts5 rfl aL bQ rfl) rfl ?_;refine aA (aF rfl) rfl ?_;refine aA (aF rfl) rfl ?_;refine aG (aE ?_);refine aI (aB ?_);refine aA (aC rfl) rfl ?_;refine aA (aC rfl) rfl ?_;refine aA (gO rfl rfl) rfl ?_;refine aA (aC rfl) rfl ?_;refine cB 24 rfl (fun g24 => ?_) (fun g24 => ?_)
    ·
      refine aV rfl rfl ?_;refine aA (aC rfl) rfl ?_;refine aV rfl rfl ?_;refine aA (aC rfl) rfl ?_;refine aV rfl rfl ?_;refine aA (iD rfl rfl) rfl ?_;refine aA (bJ rfl rfl) rfl ?_;refine aG (aE ?_);refine bH 28 rfl (fun h28 => ?_) (fun h28 => ?_)
      ·
        refine aB ?_;refine aA (aC rfl) rfl ?_;refine aA (aC rfl) rfl ?_;refine aA (aC rfl) rfl ?_;refine aA (aC rfl) rfl ?_;refine aA (aLQ c add rfl rfl) rfl ?_;refine aA (bU (k := (elB 5)) lO rfl aL rfl rfl (by first | assumption | omega)) rfl ?_;refine bP (sO (k := (elB 5)) (y0 := c + add) ts5 rfl rfl rfl rfl (by first | assumption | omega) a7) ?_;rintro _ K _ ⟨rfl, rfl⟩ -;refine aG (aM ?_);refine aE (aB ?_);refine aA (b0 rfl rfl aH aH) rfl ?_;refine aA (aC rfl) rfl ?_;refine aG ?_;refine cI (i + 1) aH aH (.cons 1 rfl (.cons 2 rfl (.cons 3 rfl (.cons 9 rfl (.cons 14 rfl (.cons 15 rfl (.cons 16 rfl .nil))))))) rfl ?_
        first
          | (have ht : j4 lo hi add c = c + add := by (unfold j4; rw [if_pos aH])
             rw [← ht, Plain.mp_set hc]; exact fun _ h => h)
          | (have ht : j4 lo hi add c = c := by (unfold j4; rw [if_neg aH])
             rw [Plain.mp_same hc ht]; exact fun _ h => h)
      ·
        refine aX ?_;refine aM (aE ?_);refine aB ?_;refine aA (b0 rfl rfl aH aH) rfl ?_;refine aA (aC rfl) rfl ?_;refine aG ?_;refine cI (i + 1) aH aH (.cons 1 rfl (.cons 2 rfl (.cons 3 rfl (.cons 9 rfl (.cons 14 rfl (.cons 15 rfl (.cons 16 rfl .nil))))))) rfl ?_
        first
          | (have ht : j4 lo hi add c = c + add := by (unfold j4; rw [if_pos aH])
             rw [← ht, Plain.mp_set hc]; exact fun _ h => h)
          | (have ht : j4 lo hi add c = c := by (unfold j4; rw [if_neg aH])
             rw [Plain.mp_same hc ht]; exact fun _ h => h)
    ·
      refine aR rfl rfl rfl ?_;refine aR rfl rfl rfl ?_;refine aR rfl rfl rfl ?_;refine aA (bB rfl rfl) rfl ?_;refine aG (aE ?_);refine cO rfl ?_;refine aX ?_;refine aM (aE ?_);refine aB ?_;refine aA (b0 rfl rfl aH aH) rfl ?_;refine aA (aC rfl) rfl ?_;refine aG ?_;refine cI (i + 1) aH aH (.cons 1 rfl (.cons 2 rfl (.cons 3 rfl (.cons 9 rfl (.cons 14 rfl (.cons 15 rfl (.cons 16 rfl .nil))))))) rfl ?_
      first
        | (have ht : j4 lo hi add c = c + add := by (unfold j4; rw [if_pos aH])
           rw [← ht, Plain.mp_set hc]; exact fun _ h => h)
        | (have ht : j4 lo hi add c = c := by (unfold j4; rw [if_neg aH])
           rw [Plain.mp_same hc ht]; exact fun _ h => h)
  ·
    have hfin := Plain.mp_end (j4 lo hi add) s (i := i) aH;refine cR ?_;refine aT ?_;refine aT ?_;refine bG ?_;refine aE (aI ?_);refine aB ?_;refine aA (aC rfl) rfl ?_;refine aA (yR Tryz.underlying130 Tryz.underlying5 Tryz.underlying9 rfl aL) rfl ?_;refine aA (aF rfl) rfl ?_;refine aG (aE ?_);refine bM ?_;rw [hfin];refine aN .nil ?_;refine bL rfl rfl (Hl.le_refl _) ?_;exact ⟨rfl, rfl, rfl⟩
theorem e9 (s : List UInt8) (K : Hl) (hs : s.length ≤ 140737488351232) : Sp Tryz.prog 185 [str s] K [] (Val (str (dH s)) K) := by
 refine bA Tryz.func185 rfl Tryz.ntmps185 rfl rfl fun F w => ?_
 refine aI (aB ?_);refine aA (aF rfl) rfl ?_;refine aG (aE ?_);refine aI (aB ?_);refine aA (aC rfl) rfl ?_;refine cG rfl rfl (tN s 65 90 32 _ hs) rfl ?_;refine aA (aF rfl) rfl ?_;refine aG (aE ?_);refine bM ?_;refine bL rfl rfl (Hl.le_refl _) ?_;exact ⟨rfl, rfl, rfl⟩
theorem aC8 (s : List UInt8) (K : Hl) (hs : s.length ≤ 140737488351232) : Sp Tryz.prog 258 [str s] K [] (Val (str (aC7 s)) K) := by
 refine bA Tryz.func258 rfl Tryz.ntmps258 rfl rfl fun F w => ?_
 refine aI (aB ?_);refine aA (aF rfl) rfl ?_;refine aG (aE ?_);refine aI (aB ?_);refine aA (aC rfl) rfl ?_;refine cG rfl rfl (tN s 97 122 224 _ hs) rfl ?_;refine aA (aF rfl) rfl ?_;refine aG (aE ?_);refine bM ?_;refine bL rfl rfl (Hl.le_refl _) ?_;exact ⟨rfl, rfl, rfl⟩
theorem aBA (b : Nat) (T : TypeId) (s : List UInt8) (a : Nat) (wk ws wn : Value) (wat : Int) (rest : List Value) (hs : s.length ≤ 600) (ha : a ≤ s.length) (K : Hl) :
    Sp Tryz.prog 189 [ptr b] K [lxb b T s a wk ws wn (i64 wat) rest]
      (fD (qU s a wat) fun r v K' L' => v = .tuple #[] ∧ K' = K ∧ L' = [lxb b T s r.1 (.int .u8 4) ws (i64 r.2) (i64 wat) rest]) := by
  have hdl := wZ s a ha;refine bA Tryz.func189 rfl Tryz.ntmps189 rfl rfl fun F w => ?_
  refine aI (aB ?_);refine aA (aF rfl) rfl ?_;refine aG (aE ?_);refine aI (aI ?_);refine aB ?_;refine aA (aC rfl) rfl ?_;refine bD rfl rfl (nZ b T s a wk ws wn (i64 wat) rest 188 fY hs ha _ (fun c => lE c _)) (.cons .here .nil) rfl ?_;rintro _ K _ ⟨rfl, rfl, rfl⟩ -;rw [show List.takeWhile fY (List.drop a s) = cS s a from rfl];have hvd : fE ((cS s a).take 0) = 0 := rfl;refine ol_s (pK Tryz.underlying9 Tryz.underlying130 Tryz.underlying5 rfl) rfl ?_;rintro v7 K _ ⟨rfl, rfl⟩ -;refine aA (bZ (k := (elB 5)) rfl Tryz.underlying130 rfl aL) rfl ?_;refine aA (aC rfl) rfl ?_;refine aG (aE ?_);refine bC ?_;refine dS (fun (i : Nat) => i ≤ (cS s a).length) (fun i => [(0, ptr b), (2, i64 (fE ((cS s a).take i))), (7, v7), (8, i64 (cS s a).length), (9, i64 i)]) (fun _ => _) (fun i => [sl false (elB 5) v7 (cS s a), lxb b T s (a + (cS s a).length : Nat) wk ws wn (i64 wat) rest]) (fun i => (cS s a).length - i) 0 (Nat.zero_le _) (.cons 0 rfl (.cons 2 rfl (.cons 7 rfl (.cons 8 rfl (.cons 9 rfl .nil))))) rfl (fun _ h => h) ?_;intro i hi0;refine aI (aB ?_);refine aA (cU rfl rfl) rfl ?_;refine aG (aE ?_);refine aI ?_;refine bH 10 rfl (fun h10 => ?_) (fun h10 => ?_)
  ·
    obtain ⟨c, hc⟩ : ∃ c, (cS s a)[i]? = some c := ⟨(cS s a)[i]'(by omega), List.getElem?_eq_getElem aH⟩;have hd := aIS hc;have hlen : i < (cS s a).length := by omega
    have hbd := wY ((cS s a).take i);refine aX ?_;refine aE (aI ?_);refine bC (aI ?_);refine aB ?_;refine aA (bU (k := (elB 5)) lO rfl aL rfl rfl (by first | assumption | omega)) rfl ?_;refine aA (dQ (o := 0) (k := (elB 5)) ts5 rfl aL bQ rfl) rfl ?_;refine aA (aF rfl) rfl ?_;refine aG (aE ?_);refine aB ?_;refine aA (aC rfl) rfl ?_;refine aA (qH rfl rfl aH aH) rfl ?_;refine aA (aC rfl) rfl ?_;refine aA (aEQ (m := c.toNat) (n := 48) aH aH rfl rfl) rfl ?_;refine aA (tC Tryz.underlying3 Tryz.underlying5 rfl aH aH) rfl ?_;refine aA (b0 rfl rfl aH aH) rfl ?_;refine aA (kB rfl rfl) rfl ?_;refine aA (aF rfl) rfl ?_;refine aG (aM ?_);refine aE (aB ?_);refine aA (b0 rfl rfl aH aH) rfl ?_;refine aA (aC rfl) rfl ?_;refine aG ?_;have hup : fE ((cS s a).take (i + 1)) = _ := aAM hc;refine cI (i + 1) aH aH (.cons 0 rfl (.cons 2 (by rw [hup]; rfl) (.cons 7 rfl (.cons 8 rfl (.cons 9 rfl .nil))))) rfl (fun _ h => h)
  ·
    have hfin : (cS s a).take i = cS s a := List.take_of_length_le aH;have hbd := wY (cS s a);rw [hfin];refine cR ?_;refine aT ?_;refine aT ?_;refine bG ?_;refine aE ?_;refine iE (fun (_ : Unit) => True) (fun _ => [(0, ptr b), (2, i64 (numN s a))]) (fun _ => K) (fun _ => [lxb b T s (numA s a : Nat) wk ws wn (i64 wat) rest]) ?_ ?_
    ·
      refine aI (aB ?_);refine aA (aC rfl) rfl ?_;refine bD rfl rfl (iR b T s (a + (cS s a).length) 0 wk ws wn (i64 wat) rest hs aH aH _) (.cons (.there .here) .nil) rfl ?_;rintro _ K _ ⟨rfl, rfl, rfl⟩ -;have hcc : (((s[a + (cS s a).length + 0]?).getD 0).toNat : Int) = (numC s a : Int) := rfl;rw [hcc];clear hcc;refine aG (aE ?_);refine bC (aI ?_);refine bC (aI ?_);refine bC (aI ?_);refine aI (aI ?_);refine aI (aB ?_);refine aA (bV rfl rfl) rfl ?_;refine aA (aF rfl) rfl ?_;refine aG (aE ?_);refine bH 23 rfl (fun h23 => ?_) (fun h23 => ?_)
      ·
        refine aX ?_;refine aE ?_;refine eK rfl ?_;refine cR ?_;refine aT ?_;refine aT ?_;refine bG ?_;refine aE (aB ?_);refine aA (aC rfl) rfl ?_;refine aA (qH rfl rfl aH aH) rfl ?_;refine aA (aF rfl) rfl ?_;refine aG (aM ?_);refine aE (aI ?_);refine aI (aB ?_);refine aA (aC rfl) rfl ?_;refine aA (qH rfl rfl aH aH) rfl ?_;refine aA (aF rfl) rfl ?_;refine aG (aE ?_);refine aB ?_;refine aA (aC rfl) rfl ?_;refine aA bS rfl ?_;refine aA (aD (o' := 1) bW rfl rfl) rfl ?_;refine aA (aK ts3 rfl aL rfl) rfl ?_;refine aA (b0 rfl rfl aH aH) rfl ?_;refine aA bS rfl ?_;refine aA (aD (o' := 1) bW rfl rfl) rfl ?_;refine bP (bK ts3 rfl rfl cD a7 (.succ .zero) rfl) ?_;rintro _ K _ ⟨rfl, rfl⟩ -;refine aG (aE ?_);refine cR ?_;refine bG ?_
        first
          | (have eN : numN s a = fE (cS s a) * 1024 * 1024 := (by (unfold numN; rw [if_pos aH]))
             have eA : numA s a = a + (cS s a).length + 1 := (by (unfold numA; rw [if_pos aH]));refine aN (.cons .here .nil) ?_;refine cA () trivial (.cons 0 rfl (.cons 2 (by rw [eN]; rfl) .nil)) rfl (by rw [eA]; exact fun _ h => h))
          | (have eN : numN s a = fE (cS s a) * 1024 := (by (unfold numN; rw [if_neg aH, if_pos aH]))
             have eA : numA s a = a + (cS s a).length + 1 := (by (unfold numA; rw [if_pos aH]));refine aN (.cons .here .nil) ?_;refine cA () trivial (.cons 0 rfl (.cons 2 (by rw [eN]; rfl) .nil)) rfl (by rw [eA]; exact fun _ h => h))
          | (have eN : numN s a = fE (cS s a) := (by (unfold numN; rw [if_neg aH, if_neg aH]))
             have eA : numA s a = a + (cS s a).length := (by (unfold numA; rw [if_neg aH]));refine aN (.cons .here .nil) ?_;refine cA () trivial (.cons 0 rfl (.cons 2 (by rw [eN]; rfl) .nil)) rfl (by rw [eA]; exact fun _ h => h))
      ·
        refine aB ?_;refine aA (bV rfl rfl) rfl ?_;refine aA (aF rfl) rfl ?_;refine aG (aE ?_);refine bH 23 rfl (fun h23 => ?_) (fun h23 => ?_)
        ·
          refine cR ?_;refine aT ?_;refine aT ?_;refine bG ?_;refine aE (aB ?_);refine aA (aC rfl) rfl ?_;refine aA (qH rfl rfl aH aH) rfl ?_;refine aA (aF rfl) rfl ?_;refine aG (aM ?_);refine aE (aI ?_);refine aI (aB ?_);refine aA (aC rfl) rfl ?_;refine aA (qH rfl rfl aH aH) rfl ?_;refine aA (aF rfl) rfl ?_;refine aG (aE ?_);refine aB ?_;refine aA (aC rfl) rfl ?_;refine aA bS rfl ?_;refine aA (aD (o' := 1) bW rfl rfl) rfl ?_;refine aA (aK ts3 rfl aL rfl) rfl ?_;refine aA (b0 rfl rfl aH aH) rfl ?_;refine aA bS rfl ?_;refine aA (aD (o' := 1) bW rfl rfl) rfl ?_;refine bP (bK ts3 rfl rfl cD a7 (.succ .zero) rfl) ?_;rintro _ K _ ⟨rfl, rfl⟩ -;refine aG (aE ?_);refine cR ?_;refine bG ?_
          first
            | (have eN : numN s a = fE (cS s a) * 1024 * 1024 := (by (unfold numN; rw [if_pos aH]))
               have eA : numA s a = a + (cS s a).length + 1 := (by (unfold numA; rw [if_pos aH]));refine aN (.cons .here .nil) ?_;refine cA () trivial (.cons 0 rfl (.cons 2 (by rw [eN]; rfl) .nil)) rfl (by rw [eA]; exact fun _ h => h))
            | (have eN : numN s a = fE (cS s a) * 1024 := (by (unfold numN; rw [if_neg aH, if_pos aH]))
               have eA : numA s a = a + (cS s a).length + 1 := (by (unfold numA; rw [if_pos aH]));refine aN (.cons .here .nil) ?_;refine cA () trivial (.cons 0 rfl (.cons 2 (by rw [eN]; rfl) .nil)) rfl (by rw [eA]; exact fun _ h => h))
            | (have eN : numN s a = fE (cS s a) := (by (unfold numN; rw [if_neg aH, if_neg aH]))
               have eA : numA s a = a + (cS s a).length := (by (unfold numA; rw [if_neg aH]));refine aN (.cons .here .nil) ?_;refine cA () trivial (.cons 0 rfl (.cons 2 (by rw [eN]; rfl) .nil)) rfl (by rw [eA]; exact fun _ h => h))
        ·
          refine aX ?_;refine aE (aI ?_);refine aI (aB ?_);refine aA (bV rfl rfl) rfl ?_;refine aA (aF rfl) rfl ?_;refine aG (aE ?_);refine bH 26 rfl (fun h26 => ?_) (fun h26 => ?_)
          ·
            refine aX ?_;refine aE ?_;refine eK rfl ?_;refine cR ?_;refine aT ?_;refine fS rfl ?_;refine aT ?_;refine bG ?_;refine aE (aI ?_);refine aI (aB ?_);refine aA (aC rfl) rfl ?_;refine aA (qH rfl rfl aH aH) rfl ?_;refine aA (aF rfl) rfl ?_;refine aG (aE ?_);refine aB ?_;refine aA (aC rfl) rfl ?_;refine aA bS rfl ?_;refine aA (aD (o' := 1) bW rfl rfl) rfl ?_;refine aA (aK ts3 rfl aL rfl) rfl ?_;refine aA (b0 rfl rfl aH aH) rfl ?_;refine aA bS rfl ?_;refine aA (aD (o' := 1) bW rfl rfl) rfl ?_;refine bP (bK ts3 rfl rfl cD a7 (.succ .zero) rfl) ?_;rintro _ K _ ⟨rfl, rfl⟩ -;refine aG (aE ?_);refine cR ?_;refine bG ?_
            first
              | (have eN : numN s a = fE (cS s a) * 1024 * 1024 := (by (unfold numN; rw [if_pos aH]))
                 have eA : numA s a = a + (cS s a).length + 1 := (by (unfold numA; rw [if_pos aH]));refine aN (.cons .here .nil) ?_;refine cA () trivial (.cons 0 rfl (.cons 2 (by rw [eN]; rfl) .nil)) rfl (by rw [eA]; exact fun _ h => h))
              | (have eN : numN s a = fE (cS s a) * 1024 := (by (unfold numN; rw [if_neg aH, if_pos aH]))
                 have eA : numA s a = a + (cS s a).length + 1 := (by (unfold numA; rw [if_pos aH]));refine aN (.cons .here .nil) ?_;refine cA () trivial (.cons 0 rfl (.cons 2 (by rw [eN]; rfl) .nil)) rfl (by rw [eA]; exact fun _ h => h))
              | (have eN : numN s a = fE (cS s a) := (by (unfold numN; rw [if_neg aH, if_neg aH]))
                 have eA : numA s a = a + (cS s a).length := (by (unfold numA; rw [if_neg aH]));refine aN (.cons .here .nil) ?_;refine cA () trivial (.cons 0 rfl (.cons 2 (by rw [eN]; rfl) .nil)) rfl (by rw [eA]; exact fun _ h => h))
          ·
            refine aB ?_;refine aA (bV rfl rfl) rfl ?_;refine aA (aF rfl) rfl ?_;refine aG (aE ?_);refine bH 26 rfl (fun h26 => ?_) (fun h26 => ?_)
            ·
              refine cR ?_;refine aT ?_;refine fS rfl ?_;refine aT ?_;refine bG ?_;refine aE (aI ?_);refine aI (aB ?_);refine aA (aC rfl) rfl ?_;refine aA (qH rfl rfl aH aH) rfl ?_;refine aA (aF rfl) rfl ?_;refine aG (aE ?_);refine aB ?_;refine aA (aC rfl) rfl ?_;refine aA bS rfl ?_;refine aA (aD (o' := 1) bW rfl rfl) rfl ?_;refine aA (aK ts3 rfl aL rfl) rfl ?_;refine aA (b0 rfl rfl aH aH) rfl ?_;refine aA bS rfl ?_;refine aA (aD (o' := 1) bW rfl rfl) rfl ?_;refine bP (bK ts3 rfl rfl cD a7 (.succ .zero) rfl) ?_;rintro _ K _ ⟨rfl, rfl⟩ -;refine aG (aE ?_);refine cR ?_;refine bG ?_
              first
                | (have eN : numN s a = fE (cS s a) * 1024 * 1024 := (by (unfold numN; rw [if_pos aH]))
                   have eA : numA s a = a + (cS s a).length + 1 := (by (unfold numA; rw [if_pos aH]));refine aN (.cons .here .nil) ?_;refine cA () trivial (.cons 0 rfl (.cons 2 (by rw [eN]; rfl) .nil)) rfl (by rw [eA]; exact fun _ h => h))
                | (have eN : numN s a = fE (cS s a) * 1024 := (by (unfold numN; rw [if_neg aH, if_pos aH]))
                   have eA : numA s a = a + (cS s a).length + 1 := (by (unfold numA; rw [if_pos aH]));refine aN (.cons .here .nil) ?_;refine cA () trivial (.cons 0 rfl (.cons 2 (by rw [eN]; rfl) .nil)) rfl (by rw [eA]; exact fun _ h => h))
                | (have eN : numN s a = fE (cS s a) := (by (unfold numN; rw [if_neg aH, if_neg aH]))
                   have eA : numA s a = a + (cS s a).length := (by (unfold numA; rw [if_neg aH]));refine aN (.cons .here .nil) ?_;refine cA () trivial (.cons 0 rfl (.cons 2 (by rw [eN]; rfl) .nil)) rfl (by rw [eA]; exact fun _ h => h))
            ·
              refine aX ?_;refine aE ?_;refine cR ?_;refine fS rfl ?_;refine aT ?_;refine fS rfl ?_;refine aT ?_;refine bG ?_
              first
                | (have eN : numN s a = fE (cS s a) * 1024 * 1024 := (by (unfold numN; rw [if_pos aH]))
                   have eA : numA s a = a + (cS s a).length + 1 := (by (unfold numA; rw [if_pos aH]));refine aN (.cons .here .nil) ?_;refine cA () trivial (.cons 0 rfl (.cons 2 (by rw [eN]; rfl) .nil)) rfl (by rw [eA]; exact fun _ h => h))
                | (have eN : numN s a = fE (cS s a) * 1024 := (by (unfold numN; rw [if_neg aH, if_pos aH]))
                   have eA : numA s a = a + (cS s a).length + 1 := (by (unfold numA; rw [if_pos aH]));refine aN (.cons .here .nil) ?_;refine cA () trivial (.cons 0 rfl (.cons 2 (by rw [eN]; rfl) .nil)) rfl (by rw [eA]; exact fun _ h => h))
                | (have eN : numN s a = fE (cS s a) := (by (unfold numN; rw [if_neg aH, if_neg aH]))
                   have eA : numA s a = a + (cS s a).length := (by (unfold numA; rw [if_neg aH]));refine aN (.cons .here .nil) ?_;refine cA () trivial (.cons 0 rfl (.cons 2 (by rw [eN]; rfl) .nil)) rfl (by rw [eA]; exact fun _ h => h))
    ·
      intro _ _;have hnA : numA s a ≤ s.length := aEZ s a ha;refine aI (aI ?_);refine aB ?_;refine aA (aC rfl) rfl ?_;refine bD rfl rfl (iR b T s (numA s a) 0 wk ws wn (i64 wat) rest hs aH aH _) (.cons .here .nil) rfl ?_;rintro _ K _ ⟨rfl, rfl, rfl⟩ -;refine cG rfl rfl (mF ((s[numA s a]?).getD 0) _) rfl ?_;refine aG (aE ?_);refine d6 42 rfl (fun h42 => ?_) (fun h42 => ?_)
      ·
        refine aB ?_;refine aA (aC rfl) rfl ?_;refine aA bS rfl ?_;refine aA (aD (o' := 2) cF rfl rfl) rfl ?_;refine aA (aD (o' := 5) fJ rfl rfl) rfl ?_;refine aA (aK ts3 rfl aL rfl) rfl ?_;refine aW rfl rfl (dY 2 wat _) .nil rfl (by rintro _ _ ⟨_, h, _⟩; cases h) ?_ ?_
        ·
          rintro _ _ _ ⟨fb, h, rfl⟩ le1;cases h
          refine aN (.cons .here .nil) ?_;refine aJ ?_;refine a8 bQ ?_;unfold qU;rw [if_pos h42];exact ⟨fb, rfl, rfl⟩
        ·
          rintro _ _ _ ⟨_, h, _⟩; cases h
      ·
        refine aX ?_;refine aE (aI ?_);refine aI (aB ?_);refine aA (aC rfl) rfl ?_;refine aA (jU rfl rfl) rfl ?_;refine aG (aE ?_);refine bH 50 rfl (fun h50 => ?_) (fun h50 => ?_)
        ·
          refine aB ?_;refine aA (aC rfl) rfl ?_;refine aA bS rfl ?_;refine aA (aD (o' := 2) cF rfl rfl) rfl ?_;refine aA (aD (o' := 5) fJ rfl rfl) rfl ?_;refine aA (aK ts3 rfl aL rfl) rfl ?_;refine aW rfl rfl (dY 3 wat _) .nil rfl (by rintro _ _ ⟨_, h, _⟩; cases h) ?_ ?_
          ·
            rintro _ _ _ ⟨fb, h, rfl⟩ le1;cases h
            refine aN (.cons .here .nil) ?_;refine aJ ?_;refine a8 bQ ?_;unfold qU;rw [if_neg (by simp [h42]), if_pos h50];exact ⟨fb, rfl, rfl⟩
          ·
            rintro _ _ _ ⟨_, h, _⟩; cases h
        ·
          refine aX ?_;refine aE (aB ?_);refine aA (aC rfl) rfl ?_;refine aA (aC rfl) rfl ?_;refine aA (aC rfl) rfl ?_;refine aA bS rfl ?_;refine aA (aD (o' := 2) cF rfl rfl) rfl ?_;refine aA (aD (o' := 2) eE rfl rfl) rfl ?_;refine bP (bK j8 rfl rfl cD a7 (.succ (.succ .zero)) rfl) ?_;rintro _ K _ ⟨rfl, rfl⟩ -;refine aA bS rfl ?_;refine aA (aD (o' := 2) cF rfl rfl) rfl ?_;refine aA (aD (o' := 4) aHR rfl rfl) rfl ?_;refine bP (bK ts3 rfl rfl cD a7 (.succ (.succ (.succ (.succ .zero)))) rfl) ?_;rintro _ K _ ⟨rfl, rfl⟩ -;refine aG ?_;refine dD rfl (Hl.le_refl _) ?_;unfold qU;rw [if_neg (by simp [h42]), if_neg aH];exact ⟨_, rfl, rfl, rfl, rfl⟩
end Go.Proofs
end
section
namespace Go.Proofs
open Go Go.SL
theorem qZ : unsB Tryz.prog 132 2 = true := by kernel_rfl
theorem aFO : Tryz.prog.cellsOf 5 = 1 := by kernel_rfl
abbrev aEH (b : Nat) (q : Bool) (v : Value) : Asn := pt b (aU [if q then ptr b else .pointer none, v] 132)
abbrev bldr (b : Nat) (xs : List UInt8) : Asn := exA fun v : Value => [exA fun q : Bool => [aEH b q v], sl true (elB 5) v xs]
theorem aID (b : Nat) : ∀ h, pt b (aU [.pointer none, .slice none 0 0] 132) h → Sat [bldr b []] h := by
 intro h hh;refine pL.2 ⟨.slice none 0 0, pL.2 ⟨false, h, .emp, hh, ⟨.emp, .emp, .inl ⟨rfl, rfl, rfl⟩, rfl, Hl.dj_emp _, (Hl.join_emp _).symm⟩, Hl.dj_emp _, (Hl.join_emp _).symm⟩⟩
theorem wV (b : Nat) (v : Value) (xs : List UInt8) : ∀ h, Sat [aEH b true v, sl true (elB 5) v xs] h → Sat [bldr b xs] h := by
 intro h hh;exact pL.2 ⟨v, pL.2 ⟨true, hh⟩⟩
theorem wW (b : Nat) : ∀ h, pt b (aU [.pointer none, .slice none 0 0] 132) h → bldr b [] h := by
 intro h hh;obtain ⟨a, l, ha, hl, hd, he⟩ := aID b h hh;rw [he, show l = .emp from hl, Hl.join_emp]; exact ha
theorem gP {A B : Asn} {M : List Asn} (k : ∀ h, A h → B h) : ∀ h, Sat (A :: M) h → Sat (B :: M) h := fun h ⟨a, l, ha, hl, hd, he⟩ => ⟨a, l, k a ha, hl, hd, he⟩
theorem oD (b : Nat) (q : Bool) (v : Value) (K : Hl) : Sp Tryz.prog 196 [ptr b] K [aEH b q v] (Ret fun u K' L' => u = .tuple #[] ∧ K' = K ∧ L' = [aEH b true v]) := by
 cases q with
 | true =>
  refine bA Tryz.func196 rfl Tryz.ntmps196 rfl rfl fun F w => ?_
  refine aI (aB ?_);refine aA (aC rfl) rfl ?_;refine aA bS rfl ?_;refine aA (aD (o' := 0) pM rfl rfl) rfl ?_;refine aA (aK aE6 rfl aL rfl) rfl ?_;refine aA (jC Tryz.underlying129 rfl rfl) rfl ?_;refine aG (aE ?_);refine cO rfl ?_;refine aI (aB ?_);refine aA (aC rfl) rfl ?_;refine aA bS rfl ?_;refine aA (aD (o' := 0) pM rfl rfl) rfl ?_;refine aA (aK aE6 rfl aL rfl) rfl ?_;refine aA (aC rfl) rfl ?_;refine aA (aAP Tryz.underlying129 qZ rfl rfl) rfl ?_;refine aG (aE ?_);refine cO rfl ?_;refine aX ?_;refine dD rfl (Hl.le_refl _) ?_;exact ⟨_, rfl, rfl, rfl, rfl⟩
 | false =>
  refine bA Tryz.func196 rfl Tryz.ntmps196 rfl rfl fun F w => ?_
  refine aI (aB ?_);refine aA (aC rfl) rfl ?_;refine aA bS rfl ?_;refine aA (aD (o' := 0) pM rfl rfl) rfl ?_;refine aA (aK aE6 rfl aL rfl) rfl ?_;refine aA (jC Tryz.underlying129 rfl rfl) rfl ?_;refine aG (aE ?_);refine eK rfl ?_;refine aB ?_;refine aA (aC rfl) rfl ?_;refine aA (aC rfl) rfl ?_;refine aA (aAS Tryz.underlying129 Tryz.underlying185 rfl (.own .here) qZ) rfl ?_;refine aA (jS rfl rfl Tryz.func272 cK cK cK (ex := Extern.AbiNoEscape.same) cK (fun _ _ => rfl)) rfl ?_;refine aA (wO Tryz.underlying185 Tryz.underlying129 rfl (.own .here) qZ) rfl ?_;refine aA bS rfl ?_;refine aA (aD (o' := 0) pM rfl rfl) rfl ?_;refine bP (bK aE6 rfl rfl cD a7 .zero rfl) ?_;rintro _ K _ ⟨rfl, rfl⟩ -;refine aG ?_;refine dD rfl (Hl.le_refl _) ?_;exact ⟨_, rfl, rfl, rfl, rfl⟩
theorem gS (b : Nat) (c : UInt8) (xs : List UInt8) (hn : xs.length ≤ 140737488351232) (K : Hl) : Sp Tryz.prog 268 [ptr b, .int .u8 c.toNat] K [bldr b xs] (Ret fun u K' L' => u = .nilIface ∧ K' = K ∧ L' = [bldr b (xs ++ [c])]) := by
 refine bA Tryz.func268 rfl Tryz.ntmps268 rfl rfl fun F w => ?_
 refine t_ex fun v => t_ex fun q => ?_
 refine aI (aB ?_);refine aA (aF rfl) rfl ?_;refine aG (aE ?_);refine aI (aB ?_);refine aA (aC rfl) rfl ?_;refine bD rfl rfl (oD b q v _) (.cons .here .nil) rfl ?_;rintro _ K _ ⟨rfl, rfl, rfl⟩ -;refine aG (aE ?_);refine aI (aB ?_);refine aA (aC rfl) rfl ?_;refine aA (aC rfl) rfl ?_;refine aA bS rfl ?_;refine aA (aD (o' := 1) lM rfl rfl) rfl ?_;refine aA (aK xW rfl aL rfl) rfl ?_;refine aA (aC rfl) rfl ?_;refine ol_s (bN (z0 := [.int .u8 0]) lO tz5 rfl rfl rfl rfl (.cons rfl rfl rfl (.cons .nil) .nil)) rfl ?_;rintro _ K _ ⟨b13, rfl, rfl, rfl⟩ -;refine ol_s (dJ (k := (elB 5)) (ys := [c]) tJ rfl rfl a7 (fun w j => dB Tryz.underlying130 (SeesSl.at (.blk (.own .here) rfl rfl) j)) (by first | (simp; omega) | omega) (by first | (simp; omega) | omega)) rfl ?_;rintro v14 K _ ⟨rfl, rfl, ho14⟩ -;refine aA bS rfl ?_;refine aA (aD (o' := 1) lM rfl rfl) rfl ?_;refine bP (bK xW rfl rfl cD a7 (.succ .zero) rfl) ?_;rintro _ K _ ⟨rfl, rfl⟩ -;refine aG (aE ?_);refine aI (aB ?_);refine aA (aF rfl) rfl ?_;refine aG (aE ?_);refine bM ?_;refine aN (.cons (.there (.there .here)) (.cons .here .nil)) ?_;refine dU (wV b v14 (xs ++ [c])) ?_;refine bL rfl rfl (Hl.le_refl _) ?_;exact ⟨_, rfl, rfl, rfl, rfl⟩
theorem nD (b : Nat) (s : List UInt8) (xs : List UInt8) (hn : xs.length + s.length ≤ 140737488351232) (K : Hl) : Sp Tryz.prog 109 [ptr b, str s] K [bldr b xs] (Ret fun u K' L' => u = .tuple #[i64 s.length, .nilIface] ∧ K' = K ∧ L' = [bldr b (xs ++ s)]) := by
 refine bA Tryz.func109 rfl Tryz.ntmps109 rfl rfl fun F w => ?_
 refine t_ex fun v => t_ex fun q => ?_
 refine aI (aB ?_);refine aA (aF rfl) rfl ?_;refine aA (aF rfl) rfl ?_;refine aG (aE ?_);refine aI (aB ?_);refine aA (aC rfl) rfl ?_;refine bD rfl rfl (oD b q v _) (.cons .here .nil) rfl ?_;rintro _ K _ ⟨rfl, rfl, rfl⟩ -;refine aG (aE ?_);refine aI (aB ?_);refine aA (aC rfl) rfl ?_;refine aA (aC rfl) rfl ?_;refine aA bS rfl ?_;refine aA (aD (o' := 1) lM rfl rfl) rfl ?_;refine aA (aK xW rfl aL rfl) rfl ?_;refine aA (aC rfl) rfl ?_;refine ol_s (dJ (k := (elB 5)) (ys := s) tJ rfl rfl a7 (fun _ _ => aDU Tryz.underlying9) aH aH) rfl ?_;rintro v14 K _ ⟨rfl, rfl, ho14⟩ -;refine aA bS rfl ?_;refine aA (aD (o' := 1) lM rfl rfl) rfl ?_;refine bP (bK xW rfl rfl cD a7 (.succ .zero) rfl) ?_;rintro _ K _ ⟨rfl, rfl⟩ -;refine aG (aE ?_);refine aI (aB ?_);refine aA (aC rfl) rfl ?_;refine aA (cH rfl Tryz.underlying9 rfl) rfl ?_;refine aA (aF rfl) rfl ?_;refine aA (aF rfl) rfl ?_;refine aG (aE ?_);refine bM ?_;refine aN (.cons (.there .here) (.cons .here .nil)) ?_;refine dU (wV b v14 (xs ++ s)) ?_;refine jR rfl rfl rfl (Hl.le_refl _) ?_;exact ⟨_, rfl, rfl, rfl, rfl⟩
theorem nJ (b : Nat) (xs : List UInt8) (hn : xs.length ≤ 140737488351232) (K : Hl) : Sp Tryz.prog 63 [ptr b] K [bldr b xs] (Ret fun u K' L' => u = str xs ∧ K' = K ∧ L' = []) := by
 refine bA Tryz.func63 rfl Tryz.ntmps63 rfl rfl fun F w => ?_
 refine t_ex fun v => t_ex fun q => ?_
 refine aI (aB ?_);refine aA (aF rfl) rfl ?_;refine aG (aE ?_);refine aI ?_;refine t_draw (anc := [0, 1, 3, 7, 15, 0, 32, 96, 224, 480, 1023, 2047]) (ord := [0, 1, 2, 3, 4, 5, 6, 7, 8, 9, 10, 11]) [10] [10] mixed (by decide +kernel) (cT _) ?_;refine dl_ev rfl rfl (.none rfl) rfl rfl (aC rfl) rfl ?_;refine dl_ev rfl rfl (.none rfl) rfl rfl bS rfl ?_;refine dl_ev rfl rfl (.none rfl) rfl rfl (aD (o' := 1) lM rfl rfl) rfl ?_;refine dl_ev rfl rfl (.none rfl) rfl rfl (aK xW rfl aL rfl) rfl ?_;refine dl_ev rfl rfl (.none rfl) rfl rfl (yU (e := 5) rfl (.there .here)) rfl ?_;refine dl_ev rfl rfl (.none rfl) rfl rfl (aC rfl) rfl ?_;refine dl_ev rfl rfl (.none rfl) rfl rfl bS rfl ?_;refine dl_ev rfl rfl (.none rfl) rfl rfl (aD (o' := 1) lM rfl rfl) rfl ?_;refine dl_ev rfl rfl (.none rfl) rfl rfl (aK xW rfl aL rfl) rfl ?_;refine dl_ev rfl rfl (.none rfl) rfl rfl (bZ (k := (elB 5)) rfl Tryz.underlying130 rfl aL) rfl ?_;refine dl_g rfl rfl (.none rfl) rfl (vQ (e := 5) rfl Tryz.underlying227 aFO aH rfl rfl (.there .here)) rfl ?_;rintro _ K _ ⟨rfl, rfl, rfl⟩ -;refine dl_ev rfl rfl (.none rfl) rfl rfl (aF rfl) rfl ?_;refine dl_nil ?_;refine aE ?_;refine bM ?_;refine aN .nil ?_;refine bL rfl rfl (Hl.le_refl _) ?_;exact ⟨_, rfl, rfl, rfl, rfl⟩
end Go.Proofs
end
section
namespace Go.Proofs
open Go Go.SL Go.Syn
theorem aBK (b : Nat) (T : TypeId) (s : List UInt8) (a : Nat) (wk ws wn : Value) (wat : Int) (rest : List Value) (hs : s.length ≤ 600) (ha : a < s.length) (K : Hl) :
  Sp Tryz.prog 182 [ptr b] K [lxb b T s a wk ws wn (i64 wat) rest]
   (fD (Syn.quoted s a wat) fun r v K' L' => v = .tuple #[] ∧ K' = K ∧ L' = [lxb b T s r.1 (.int .u8 3) (str r.2) wn (i64 wat) rest]) := by
 refine bA Tryz.func182 rfl Tryz.ntmps182 rfl rfl fun F w => ?_
 refine aI (aB ?_);refine ol_s (cL aNI) rfl ?_;rintro _ K _ ⟨b2, rfl, rfl, rfl⟩ -;refine aG (aE ?_);refine aI (aI ?_);refine aB ?_;refine aA (aC rfl) rfl ?_;refine aA bS rfl ?_;refine aA (aD (o' := 1) bW rfl rfl) rfl ?_;refine aA (aK ts3 rfl aL rfl) rfl ?_;refine aA (b0 rfl rfl aH aH) rfl ?_;refine aA bS rfl ?_;refine aA (aD (o' := 1) bW rfl rfl) rfl ?_;refine bP (bK ts3 rfl rfl cD a7 (.succ .zero) rfl) ?_;rintro _ K _ ⟨rfl, rfl⟩ -;refine aG (aE ?_);refine bC ?_;refine tW (fun (i : Nat) (acc : List UInt8) => a + 1 ≤ i ∧ i ≤ s.length ∧ acc.length ≤ i ∧ ∃ f, s.length + 2 ≤ i + (f + 1) ∧ Syn.quoted s a wat = eT s wat (f + 1) i acc) (fun i acc => [(0, ptr b), (2, ptr b2)]) (fun _ _ => K) (fun i acc => [bldr b2 acc, lxb b T s i wk ws wn (i64 wat) rest]) (fun i acc => s.length - i) (a + 1) [] ⟨by omega, by omega, by simp, s.length - a, by omega, by unfold Syn.quoted; congr 1; omega⟩ (.cons 0 rfl (.cons 2 rfl .nil)) rfl (gP (wW b2)) ?_;intro i acc ⟨hi1, hi2, hi3, f, hi4, hi5⟩;refine aI (bC ?_);refine aI (aB ?_);refine aA (aC rfl) rfl ?_;refine bD rfl rfl (iR b T s i 0 wk ws wn (i64 wat) rest hs aH aH _) (.cons (.there .here) .nil) rfl ?_;rintro _ K _ ⟨rfl, rfl, rfl⟩ -;rw [Nat.add_zero];have hz : i < s.length ∨ ((s[i]?).getD 0).toNat = 0 := (by by_cases h : i < s.length; exact .inl h; right; rw [List.getElem?_eq_none aH]; rfl);refine aA (aF rfl) rfl ?_;refine aG (aE ?_);refine aI (aI ?_);refine t_draw (anc := [0, 1, 3, 7, 0, 16, 48, 112, 240, 511, 1023, 2047, 4095, 8191]) (ord := [0, 1, 2, 3, 4, 5, 6, 7, 8, 9, 10, 11, 12, 13]) [] [] mixed (by decide +kernel) (cT _) ?_;refine dl_ev rfl rfl (.none rfl) rfl rfl (aC rfl) rfl ?_;refine dl_ev rfl rfl (.none rfl) rfl rfl bS rfl ?_;refine dl_ev rfl rfl (.none rfl) rfl rfl (aD (o' := 1) bW rfl rfl) rfl ?_;refine dl_ev rfl rfl (.none rfl) rfl rfl (aK ts3 rfl aL rfl) rfl ?_;refine dl_ev rfl rfl (.none rfl) rfl rfl (aC rfl) rfl ?_;refine dl_ev rfl rfl (.none rfl) rfl rfl bS rfl ?_;refine dl_ev rfl rfl (.none rfl) rfl rfl (aD (o' := 0) fB rfl rfl) rfl ?_;refine dl_ev rfl rfl (.none rfl) rfl rfl (aK ts9 rfl aL rfl) rfl ?_;refine dl_ev rfl rfl (.none rfl) rfl rfl (cH rfl Tryz.underlying9 rfl) rfl ?_;refine dl_ev rfl rfl (.none rfl) rfl rfl (cU rfl rfl) rfl ?_;refine dl_ev rfl rfl (.none rfl) rfl rfl (aC rfl) rfl ?_;refine dl_splitp 30 rfl (fun g30 => ?_) (fun g30 => ?_)
 ·
  refine dl_ev rfl rfl (.on rfl rfl rfl) rfl rfl (aC rfl) rfl ?_;refine dl_ev rfl rfl (.on rfl rfl rfl) rfl rfl (bV rfl rfl) rfl ?_;refine dl_ev rfl rfl (.none rfl) rfl rfl (bJ rfl rfl) rfl ?_;refine dl_nil ?_;refine aE ?_;refine bH 33 rfl (fun h33 => ?_) (fun h33 => ?_)
  ·
   refine cR ?_;refine aT ?_;refine fS rfl ?_;refine aT ?_;refine aT ?_;refine bG ?_;refine aE (aI ?_);refine aB ?_;refine aA (aC rfl) rfl ?_;refine aA bS rfl ?_;refine aA (aD (o' := 1) bW rfl rfl) rfl ?_;refine aA (aK ts3 rfl aL rfl) rfl ?_;refine aA (b0 rfl rfl aH aH) rfl ?_;refine aA bS rfl ?_;refine aA (aD (o' := 1) bW rfl rfl) rfl ?_;refine bP (bK ts3 rfl rfl cD a7 (.succ .zero) rfl) ?_;rintro _ K _ ⟨rfl, rfl⟩ -;refine aG (aE ?_);refine aB ?_;refine aA (aC rfl) rfl ?_;refine aA (aC rfl) rfl ?_;refine bD rfl rfl (nJ b2 acc aH _) (.cons (.there .here) .nil) rfl ?_;rintro _ K _ ⟨rfl, rfl, rfl⟩ -;refine aA bS rfl ?_;refine aA (aD (o' := 2) cF rfl rfl) rfl ?_;refine aA (aD (o' := 2) eE rfl rfl) rfl ?_;refine bP (bK j8 rfl rfl cD a7 (.succ (.succ .zero)) rfl) ?_;rintro _ K _ ⟨rfl, rfl⟩ -;refine aA bS rfl ?_;refine aA (aD (o' := 2) cF rfl rfl) rfl ?_;refine aA (aD (o' := 3) fA rfl rfl) rfl ?_;refine bP (bK ts9 rfl rfl cD a7 (.succ (.succ (.succ .zero))) rfl) ?_;rintro _ K _ ⟨rfl, rfl⟩ -;refine aG ?_;refine dD rfl (Hl.le_refl _) ?_;rw [hi5, aBI aH aH];exact ⟨_, rfl, rfl, rfl, rfl⟩
  ·
   refine aX ?_;refine aE (aI ?_);refine aI (aB ?_);refine aA (aC rfl) rfl ?_;refine aA (bV rfl rfl) rfl ?_;refine aG (aE ?_);refine bH 35 rfl (fun h35 => ?_) (fun h35 => ?_)
   ·
    refine aI (aB ?_);refine aA (aC rfl) rfl ?_;refine aA bS rfl ?_;refine aA (aD (o' := 1) bW rfl rfl) rfl ?_;refine aA (aK ts3 rfl aL rfl) rfl ?_;refine aA (b0 rfl rfl aH aH) rfl ?_;refine aA bS rfl ?_;refine aA (aD (o' := 1) bW rfl rfl) rfl ?_;refine bP (bK ts3 rfl rfl cD a7 (.succ .zero) rfl) ?_;rintro _ K _ ⟨rfl, rfl⟩ -;refine aG (aE ?_);refine aB ?_;refine aA (aC rfl) rfl ?_;refine bD rfl rfl (iR b T s (i + 1) 0 wk ws wn (i64 wat) rest hs aH aH _) (.cons .here .nil) rfl ?_;rintro _ K _ ⟨rfl, rfl, rfl⟩ -;rw [Nat.add_zero];refine aA (aF rfl) rfl ?_;refine aG (aE ?_);refine aI (aI ?_);refine t_draw (anc := [0, 1, 3, 7, 0, 16, 48, 112, 240, 511]) (ord := [0, 1, 2, 3, 4, 5, 6, 7, 8, 9]) [] [] mixed (by decide +kernel) (cT _) ?_;refine dl_ev rfl rfl (.none rfl) rfl rfl (aC rfl) rfl ?_;refine dl_ev rfl rfl (.none rfl) rfl rfl bS rfl ?_;refine dl_ev rfl rfl (.none rfl) rfl rfl (aD (o' := 1) bW rfl rfl) rfl ?_;refine dl_ev rfl rfl (.none rfl) rfl rfl (aK ts3 rfl aL rfl) rfl ?_;refine dl_ev rfl rfl (.none rfl) rfl rfl (aC rfl) rfl ?_;refine dl_ev rfl rfl (.none rfl) rfl rfl bS rfl ?_;refine dl_ev rfl rfl (.none rfl) rfl rfl (aD (o' := 0) fB rfl rfl) rfl ?_;refine dl_ev rfl rfl (.none rfl) rfl rfl (aK ts9 rfl aL rfl) rfl ?_;refine dl_ev rfl rfl (.none rfl) rfl rfl (cH rfl Tryz.underlying9 rfl) rfl ?_;refine dl_ev rfl rfl (.none rfl) rfl rfl (gO rfl rfl) rfl ?_;refine dl_nil ?_;refine aE ?_;refine bH 54 rfl (fun h54 => ?_) (fun h54 => ?_)
    ·
     refine aB ?_;refine aA (aC rfl) rfl ?_;refine aA bS rfl ?_;refine aA (aD (o' := 2) cF rfl rfl) rfl ?_;refine aA (aD (o' := 5) fJ rfl rfl) rfl ?_;refine aA (aK ts3 rfl aL rfl) rfl ?_;refine aW rfl rfl (dY 2 wat _) .nil rfl (by rintro _ _ ⟨_, h, _⟩; cases h) ?_ ?_
     ·
      rintro _ _ _ ⟨fb, h, rfl⟩ le1;cases h
      refine aN (.cons .here .nil) ?_;refine aJ ?_;refine aQ ?_;refine aJ ?_;refine aJ ?_;refine aQ ?_;refine aJ ?_;refine a8 bQ ?_
      first
       | rw [hi5, kS aH aH aH]
       | rw [hi5, lG aH aH aH]
      exact ⟨fb, rfl, rfl⟩
     ·
      rintro _ _ _ ⟨_, h, _⟩; cases h
    ·
     refine aX ?_;refine aE (aB ?_);refine aA (aC rfl) rfl ?_;refine bD rfl rfl (gS b2 _ acc aH _) (.cons (.there .here) .nil) rfl ?_;rintro _ K _ ⟨rfl, rfl, rfl⟩ -;refine aG (aM ?_);refine aE (aB ?_);refine aA (aC rfl) rfl ?_;refine aA bS rfl ?_;refine aA (aD (o' := 1) bW rfl rfl) rfl ?_;refine aA (aK ts3 rfl aL rfl) rfl ?_;refine aA (b0 rfl rfl aH aH) rfl ?_;refine aA bS rfl ?_;refine aA (aD (o' := 1) bW rfl rfl) rfl ?_;refine bP (bK ts3 rfl rfl cD a7 (.succ .zero) rfl) ?_;rintro _ K _ ⟨rfl, rfl⟩ -;refine aG ?_;obtain ⟨f0, rfl⟩ : ∃ f0, f = f0 + 1 := ⟨f - 1, by omega⟩
     first
      | refine dI (i + 1) (acc ++ [(s[i]?).getD 0]) ⟨by omega, by omega, by simp; omega, f0, by omega, by rw [hi5, lF aH aH aH]⟩ aH (.cons 0 rfl (.cons 2 rfl .nil)) rfl (fun _ h => h)
      | refine dI (i + 2) (acc ++ [(s[i + 1]?).getD 0]) ⟨by omega, by omega, by simp; omega, f0, by omega, by rw [hi5, mL aH aH aH]⟩ aH (.cons 0 rfl (.cons 2 rfl .nil)) rfl (fun _ h => h)
   ·
    refine aX ?_;refine aE (aI ?_);refine aI ?_;refine t_draw (anc := [0, 1, 3, 7, 0, 16, 48, 112, 240, 511]) (ord := [0, 1, 2, 3, 4, 5, 6, 7, 8, 9]) [] [] mixed (by decide +kernel) (cT _) ?_;refine dl_ev rfl rfl (.none rfl) rfl rfl (aC rfl) rfl ?_;refine dl_ev rfl rfl (.none rfl) rfl rfl bS rfl ?_;refine dl_ev rfl rfl (.none rfl) rfl rfl (aD (o' := 1) bW rfl rfl) rfl ?_;refine dl_ev rfl rfl (.none rfl) rfl rfl (aK ts3 rfl aL rfl) rfl ?_;refine dl_ev rfl rfl (.none rfl) rfl rfl (aC rfl) rfl ?_;refine dl_ev rfl rfl (.none rfl) rfl rfl bS rfl ?_;refine dl_ev rfl rfl (.none rfl) rfl rfl (aD (o' := 0) fB rfl rfl) rfl ?_;refine dl_ev rfl rfl (.none rfl) rfl rfl (aK ts9 rfl aL rfl) rfl ?_;refine dl_ev rfl rfl (.none rfl) rfl rfl (cH rfl Tryz.underlying9 rfl) rfl ?_;refine dl_ev rfl rfl (.none rfl) rfl rfl (gO rfl rfl) rfl ?_;refine dl_nil ?_;refine aE ?_;refine bH 54 rfl (fun h54 => ?_) (fun h54 => ?_)
    ·
     refine aB ?_;refine aA (aC rfl) rfl ?_;refine aA bS rfl ?_;refine aA (aD (o' := 2) cF rfl rfl) rfl ?_;refine aA (aD (o' := 5) fJ rfl rfl) rfl ?_;refine aA (aK ts3 rfl aL rfl) rfl ?_;refine aW rfl rfl (dY 2 wat _) .nil rfl (by rintro _ _ ⟨_, h, _⟩; cases h) ?_ ?_
     ·
      rintro _ _ _ ⟨fb, h, rfl⟩ le1;cases h
      refine aN (.cons .here .nil) ?_;refine aJ ?_;refine aQ ?_;refine aJ ?_;refine aJ ?_;refine aQ ?_;refine aJ ?_;refine a8 bQ ?_
      first
       | rw [hi5, kS aH aH aH]
       | rw [hi5, lG aH aH aH]
      exact ⟨fb, rfl, rfl⟩
     ·
      rintro _ _ _ ⟨_, h, _⟩; cases h
    ·
     refine aX ?_;refine aE (aB ?_);refine aA (aC rfl) rfl ?_;refine bD rfl rfl (gS b2 _ acc aH _) (.cons (.there .here) .nil) rfl ?_;rintro _ K _ ⟨rfl, rfl, rfl⟩ -;refine aG (aM ?_);refine aE (aB ?_);refine aA (aC rfl) rfl ?_;refine aA bS rfl ?_;refine aA (aD (o' := 1) bW rfl rfl) rfl ?_;refine aA (aK ts3 rfl aL rfl) rfl ?_;refine aA (b0 rfl rfl aH aH) rfl ?_;refine aA bS rfl ?_;refine aA (aD (o' := 1) bW rfl rfl) rfl ?_;refine bP (bK ts3 rfl rfl cD a7 (.succ .zero) rfl) ?_;rintro _ K _ ⟨rfl, rfl⟩ -;refine aG ?_;obtain ⟨f0, rfl⟩ : ∃ f0, f = f0 + 1 := ⟨f - 1, by omega⟩
     first
      | refine dI (i + 1) (acc ++ [(s[i]?).getD 0]) ⟨by omega, by omega, by simp; omega, f0, by omega, by rw [hi5, lF aH aH aH]⟩ aH (.cons 0 rfl (.cons 2 rfl .nil)) rfl (fun _ h => h)
      | refine dI (i + 2) (acc ++ [(s[i + 1]?).getD 0]) ⟨by omega, by omega, by simp; omega, f0, by omega, by rw [hi5, mL aH aH aH]⟩ aH (.cons 0 rfl (.cons 2 rfl .nil)) rfl (fun _ h => h)
 ·
  refine dl_off rfl rfl (.off rfl rfl rfl) rfl ?_;refine dl_off rfl rfl (.off rfl rfl rfl) rfl ?_;refine dl_ev rfl rfl (.none rfl) rfl rfl (bB rfl rfl) rfl ?_;refine dl_nil ?_;refine aE ?_;refine cO rfl ?_;refine aX ?_;refine aE (aI ?_);refine aI (aB ?_);refine aA (aC rfl) rfl ?_;refine aA (bV rfl rfl) rfl ?_;refine aG (aE ?_);refine bH 35 rfl (fun h35 => ?_) (fun h35 => ?_)
  ·
   refine aI (aB ?_);refine aA (aC rfl) rfl ?_;refine aA bS rfl ?_;refine aA (aD (o' := 1) bW rfl rfl) rfl ?_;refine aA (aK ts3 rfl aL rfl) rfl ?_;refine aA (b0 rfl rfl aH aH) rfl ?_;refine aA bS rfl ?_;refine aA (aD (o' := 1) bW rfl rfl) rfl ?_;refine bP (bK ts3 rfl rfl cD a7 (.succ .zero) rfl) ?_;rintro _ K _ ⟨rfl, rfl⟩ -;refine aG (aE ?_);refine aB ?_;refine aA (aC rfl) rfl ?_;refine bD rfl rfl (iR b T s (i + 1) 0 wk ws wn (i64 wat) rest hs aH aH _) (.cons .here .nil) rfl ?_;rintro _ K _ ⟨rfl, rfl, rfl⟩ -;rw [Nat.add_zero];refine aA (aF rfl) rfl ?_;refine aG (aE ?_);refine aI (aI ?_);refine t_draw (anc := [0, 1, 3, 7, 0, 16, 48, 112, 240, 511]) (ord := [0, 1, 2, 3, 4, 5, 6, 7, 8, 9]) [] [] mixed (by decide +kernel) (cT _) ?_;refine dl_ev rfl rfl (.none rfl) rfl rfl (aC rfl) rfl ?_;refine dl_ev rfl rfl (.none rfl) rfl rfl bS rfl ?_;refine dl_ev rfl rfl (.none rfl) rfl rfl (aD (o' := 1) bW rfl rfl) rfl ?_;refine dl_ev rfl rfl (.none rfl) rfl rfl (aK ts3 rfl aL rfl) rfl ?_;refine dl_ev rfl rfl (.none rfl) rfl rfl (aC rfl) rfl ?_;refine dl_ev rfl rfl (.none rfl) rfl rfl bS rfl ?_;refine dl_ev rfl rfl (.none rfl) rfl rfl (aD (o' := 0) fB rfl rfl) rfl ?_;refine dl_ev rfl rfl (.none rfl) rfl rfl (aK ts9 rfl aL rfl) rfl ?_;refine dl_ev rfl rfl (.none rfl) rfl rfl (cH rfl Tryz.underlying9 rfl) rfl ?_;refine dl_ev rfl rfl (.none rfl) rfl rfl (gO rfl rfl) rfl ?_;refine dl_nil ?_;refine aE ?_;refine bH 54 rfl (fun h54 => ?_) (fun h54 => ?_)
   ·
    refine aB ?_;refine aA (aC rfl) rfl ?_;refine aA bS rfl ?_;refine aA (aD (o' := 2) cF rfl rfl) rfl ?_;refine aA (aD (o' := 5) fJ rfl rfl) rfl ?_;refine aA (aK ts3 rfl aL rfl) rfl ?_;refine aW rfl rfl (dY 2 wat _) .nil rfl (by rintro _ _ ⟨_, h, _⟩; cases h) ?_ ?_
    ·
     rintro _ _ _ ⟨fb, h, rfl⟩ le1;cases h
     refine aN (.cons .here .nil) ?_;refine aJ ?_;refine aQ ?_;refine aJ ?_;refine aJ ?_;refine aQ ?_;refine aJ ?_;refine a8 bQ ?_
     first
      | rw [hi5, kS aH aH aH]
      | rw [hi5, lG aH aH aH]
     exact ⟨fb, rfl, rfl⟩
    ·
     rintro _ _ _ ⟨_, h, _⟩; cases h
   ·
    refine aX ?_;refine aE (aB ?_);refine aA (aC rfl) rfl ?_;refine bD rfl rfl (gS b2 _ acc aH _) (.cons (.there .here) .nil) rfl ?_;rintro _ K _ ⟨rfl, rfl, rfl⟩ -;refine aG (aM ?_);refine aE (aB ?_);refine aA (aC rfl) rfl ?_;refine aA bS rfl ?_;refine aA (aD (o' := 1) bW rfl rfl) rfl ?_;refine aA (aK ts3 rfl aL rfl) rfl ?_;refine aA (b0 rfl rfl aH aH) rfl ?_;refine aA bS rfl ?_;refine aA (aD (o' := 1) bW rfl rfl) rfl ?_;refine bP (bK ts3 rfl rfl cD a7 (.succ .zero) rfl) ?_;rintro _ K _ ⟨rfl, rfl⟩ -;refine aG ?_;obtain ⟨f0, rfl⟩ : ∃ f0, f = f0 + 1 := ⟨f - 1, by omega⟩
    first
     | refine dI (i + 1) (acc ++ [(s[i]?).getD 0]) ⟨by omega, by omega, by simp; omega, f0, by omega, by rw [hi5, lF aH aH aH]⟩ aH (.cons 0 rfl (.cons 2 rfl .nil)) rfl (fun _ h => h)
     | refine dI (i + 2) (acc ++ [(s[i + 1]?).getD 0]) ⟨by omega, by omega, by simp; omega, f0, by omega, by rw [hi5, mL aH aH aH]⟩ aH (.cons 0 rfl (.cons 2 rfl .nil)) rfl (fun _ h => h)
  ·
   refine aX ?_;refine aE (aI ?_);refine aI ?_;refine t_draw (anc := [0, 1, 3, 7, 0, 16, 48, 112, 240, 511]) (ord := [0, 1, 2, 3, 4, 5, 6, 7, 8, 9]) [] [] mixed (by decide +kernel) (cT _) ?_;refine dl_ev rfl rfl (.none rfl) rfl rfl (aC rfl) rfl ?_;refine dl_ev rfl rfl (.none rfl) rfl rfl bS rfl ?_;refine dl_ev rfl rfl (.none rfl) rfl rfl (aD (o' := 1) bW rfl rfl) rfl ?_;refine dl_ev rfl rfl (.none rfl) rfl rfl (aK ts3 rfl aL rfl) rfl ?_;refine dl_ev rfl rfl (.none rfl) rfl rfl (aC rfl) rfl ?_;refine dl_ev rfl rfl (.none rfl) rfl rfl bS rfl ?_;refine dl_ev rfl rfl (.none rfl) rfl rfl (aD (o' := 0) fB rfl rfl) rfl ?_;refine dl_ev rfl rfl (.none rfl) rfl rfl (aK ts9 rfl aL rfl) rfl ?_;refine dl_ev rfl rfl (.none rfl) rfl rfl (cH rfl Tryz.underlying9 rfl) rfl ?_;refine dl_ev rfl rfl (.none rfl) rfl rfl (gO rfl rfl) rfl ?_;refine dl_nil ?_;refine aE ?_;refine bH 54 rfl (fun h54 => ?_) (fun h54 => ?_)
   ·
    refine aB ?_;refine aA (aC rfl) rfl ?_;refine aA bS rfl ?_;refine aA (aD (o' := 2) cF rfl rfl) rfl ?_;refine aA (aD (o' := 5) fJ rfl rfl) rfl ?_;refine aA (aK ts3 rfl aL rfl) rfl ?_;refine aW rfl rfl (dY 2 wat _) .nil rfl (by rintro _ _ ⟨_, h, _⟩; cases h) ?_ ?_
    ·
     rintro _ _ _ ⟨fb, h, rfl⟩ le1;cases h
     refine aN (.cons .here .nil) ?_;refine aJ ?_;refine aQ ?_;refine aJ ?_;refine aJ ?_;refine aQ ?_;refine aJ ?_;refine a8 bQ ?_
     first
      | rw [hi5, kS aH aH aH]
      | rw [hi5, lG aH aH aH]
     exact ⟨fb, rfl, rfl⟩
    ·
     rintro _ _ _ ⟨_, h, _⟩; cases h
   ·
    refine aX ?_;refine aE (aB ?_);refine aA (aC rfl) rfl ?_;refine bD rfl rfl (gS b2 _ acc aH _) (.cons (.there .here) .nil) rfl ?_;rintro _ K _ ⟨rfl, rfl, rfl⟩ -;refine aG (aM ?_);refine aE (aB ?_);refine aA (aC rfl) rfl ?_;refine aA bS rfl ?_;refine aA (aD (o' := 1) bW rfl rfl) rfl ?_;refine aA (aK ts3 rfl aL rfl) rfl ?_;refine aA (b0 rfl rfl aH aH) rfl ?_;refine aA bS rfl ?_;refine aA (aD (o' := 1) bW rfl rfl) rfl ?_;refine bP (bK ts3 rfl rfl cD a7 (.succ .zero) rfl) ?_;rintro _ K _ ⟨rfl, rfl⟩ -;refine aG ?_;obtain ⟨f0, rfl⟩ : ∃ f0, f = f0 + 1 := ⟨f - 1, by omega⟩
    first
     | refine dI (i + 1) (acc ++ [(s[i]?).getD 0]) ⟨by omega, by omega, by simp; omega, f0, by omega, by rw [hi5, lF aH aH aH]⟩ aH (.cons 0 rfl (.cons 2 rfl .nil)) rfl (fun _ h => h)
     | refine dI (i + 2) (acc ++ [(s[i + 1]?).getD 0]) ⟨by omega, by omega, by simp; omega, f0, by omega, by rw [hi5, mL aH aH aH]⟩ aH (.cons 0 rfl (.cons 2 rfl .nil)) rfl (fun _ h => h)
end Go.Proofs
end
section
namespace Go.Proofs
open Go Go.SL Go.Syn
theorem gI {α : Type} (p : α → Bool) (s : List α) (i : Nat) (h : i ≤ s.length) : i + ((s.drop i).takeWhile p).length ≤ s.length := by
 have := (List.takeWhile_sublist p (l := s.drop i)).length_le;simp only [List.length_drop] at this;omega
theorem aKH (s : List UInt8) : ∀ (f i j : Nat), i ≤ s.length → g9 s f i = .ok j → i ≤ j ∧ j ≤ s.length := by
 intro f;induction f with
 | zero => intro i j hi h; simp only [g9] at h; cases h; exact ⟨Nat.le_refl _, hi⟩
 | succ f ih =>
  intro i j hi h;simp only [g9] at h;split at h
  ·cases h; exact ⟨Nat.le_refl _, hi⟩
  ·rename_i c hc;have hlt : i < s.length := by
    rcases Nat.lt_or_ge i s.length with h' | h'
    ·exact h'
    ·simp [List.getElem?_eq_none h'] at hc
   split at h
   ·have := ih _ _ aH h; omega
   ·split at h
    ·have := gI (fun c : UInt8 => decide (¬ c.toNat = 10)) s i hi;have := ih _ _ aH h; omega
    ·split at h
     ·split at h
      ·cases h; exact ⟨Nat.le_refl _, hi⟩
      ·split at h
       ·cases h
       ·rename_i hx;have hix := oM (s.drop (min (i + 2) s.length)) [42, 47];simp only [List.length_drop, List.length_cons, List.length_nil] at hix;have := ih _ _ aH h; omega
     ·cases h; exact ⟨Nat.le_refl _, hi⟩
theorem zH {s : List UInt8} {a a1 : Nat} (ha : a ≤ s.length) (h : skip s a = .ok a1) : a ≤ a1 ∧ a1 ≤ s.length := aKH s _ _ _ ha h
abbrev lxw (b : Nat) (T : TypeId) (s : List UInt8) (a : Nat) (w : Word) (rest : List Value) : Asn := lxb b T s a (.int .u8 w.kind) (str w.s) (i64 w.n) (i64 w.at_) rest
theorem dE (b : Nat) (T : TypeId) (s : List UInt8) (a : Nat) (wk ws wn wa : Value) (rest : List Value) (hs : s.length ≤ 600) (ha : a ≤ s.length) (K : Hl) (hg : Glob K) :
    Sp Tryz.prog 101 [ptr b] K [lxb b T s a wk ws wn wa rest]
      (fD (Syn.next s a) fun r v K' L' => v = .tuple #[] ∧ K' = K ∧ L' = [lxw b T s r.1 r.2 rest]) := by
  refine bA Tryz.func101 rfl Tryz.ntmps101 rfl rfl fun F w => ?_
  refine aI (aB ?_);refine aA (aC rfl) rfl ?_;refine aW rfl rfl (aHK b T s a wk ws wn wa rest hs ha _ hg) (.cons .here .nil) rfl (fun _ _ => aY _ _) ?_ ?_
  ·
    rintro _ _ _ hT le1;obtain ⟨e, p, hr, fb, h, rfl⟩ := aZ hT;cases h
    refine aN (.cons .here .nil) ?_;refine aJ ?_;refine a8 bQ ?_;have hn : Syn.next s a = .error (e, p) := (by unfold Syn.next; rw [hr]);rw [hn];exact ⟨fb, rfl, rfl⟩
  rintro _ K _ hT -;obtain ⟨a1, hr0, rfl, rfl, rfl⟩ := a6 hT;have ha1 := (zH ha hr0).2;refine aG (aE ?_);refine aI (aB ?_);refine aA (aC rfl) rfl ?_;refine aA (aC rfl) rfl ?_;refine aA bS rfl ?_;refine aA (aD (o' := 1) bW rfl rfl) rfl ?_;refine aA (aK ts3 rfl aL rfl) rfl ?_;refine aA (cJ aP0 aOU (.cons rfl rfl rfl (.skip (.skip (.skip (.cons .nil)))) .nil)) rfl ?_;refine aA bS rfl ?_;refine aA (aD (o' := 2) cF rfl rfl) rfl ?_;refine bP (cE lI rfl rfl rfl a7 (by first | (simp [Value.oneCell']; done) | exact fun c hc => El.one _ _ c hc) (.skip (.skip (.cons (.cons (.cons (.cons .nil)))))) (by intro j hj; simp)) ?_;rintro _ K _ ⟨rfl, rfl⟩ -;refine aG (aE ?_);refine aI (aI ?_);refine t_draw (anc := [0, 1, 3, 7, 0, 16, 48, 112, 240, 511]) (ord := [0, 1, 2, 3, 4, 5, 6, 7, 8, 9]) [] [] mixed (by decide +kernel) (cT _) ?_;refine dl_ev rfl rfl (.none rfl) rfl rfl (aC rfl) rfl ?_;refine dl_ev rfl rfl (.none rfl) rfl rfl bS rfl ?_;refine dl_ev rfl rfl (.none rfl) rfl rfl (aD (o' := 1) bW rfl rfl) rfl ?_;refine dl_ev rfl rfl (.none rfl) rfl rfl (aK ts3 rfl aL rfl) rfl ?_;refine dl_ev rfl rfl (.none rfl) rfl rfl (aC rfl) rfl ?_;refine dl_ev rfl rfl (.none rfl) rfl rfl bS rfl ?_;refine dl_ev rfl rfl (.none rfl) rfl rfl (aD (o' := 0) fB rfl rfl) rfl ?_;refine dl_ev rfl rfl (.none rfl) rfl rfl (aK ts9 rfl aL rfl) rfl ?_;refine dl_ev rfl rfl (.none rfl) rfl rfl (cH rfl Tryz.underlying9 rfl) rfl ?_;refine dl_ev rfl rfl (.none rfl) rfl rfl (bV rfl rfl) rfl ?_;refine dl_nil ?_;refine aE ?_;refine bH 22 rfl (fun h22 => ?_) (fun h22 => ?_)
  ·
    have hn : Syn.next s a = .ok (a1, ⟨0, [], 0, a1⟩) := (by simp only [Syn.next, hr0]; rw [List.getElem?_eq_none aH]);refine bM ?_;refine bF ?_;refine qF rfl (Hl.le_refl _) ?_;rw [hn];exact ⟨_, rfl, rfl, rfl, rfl⟩
  ·
    obtain ⟨c, hc⟩ : ∃ c, s[a1]? = some c := ⟨s[a1]'(by omega), List.getElem?_eq_getElem aH⟩;have hn : Syn.next s a = m0 s a1 c := (by simp only [Syn.next, hr0, hc]);have hp0 : ((s[a1 + 0]?).getD 0) = c := by rw [Nat.add_zero, hc]; rfl
    refine aX ?_;refine aE (aI ?_);refine aB ?_;refine aA (aC rfl) rfl ?_;refine bD rfl rfl (iR b T s a1 0 _ _ _ _ rest hs aH aH _) (.cons .here .nil) rfl ?_;rintro _ K _ ⟨rfl, rfl, rfl⟩ -;rw [hp0];refine aA (aF rfl) rfl ?_;refine aG (aE ?_);refine aI (aB ?_);refine aA (aC rfl) rfl ?_;refine aG (aE ?_);refine bC ?_;refine iE (fun (_ : Unit) => True) (fun _ => [(0, ptr b), (2, .int .u8 c.toNat), (25, .int .u8 c.toNat), (50, .bool (cP c))]) (fun _ => K) (fun _ => [lxb b T s a1 (.int .u8 0) (str []) (i64 0) (i64 a1) rest]) ?_ ?_
    ·
      refine aI (aB ?_);refine aA (bV rfl rfl) rfl ?_;refine aA (aF rfl) rfl ?_;refine aG (aE ?_);refine bH 50 rfl (fun h50 => ?_) (fun h50 => ?_)
      ·
        refine aX ?_
        first
          | (have hb : cP c = decide ((c.toNat : Int) = 93) := (by unfold cP; rw [decide_eq_decide]; omega)
             exact cA () trivial (.cons 0 rfl (.cons 2 rfl (.cons 25 rfl (.cons 50 (by rw [hb]; rfl) .nil)))) rfl (fun _ h => h))
          | (have hb : cP c = true := (by unfold cP; simp only [decide_eq_true_eq]; omega)
             exact cA () trivial (.cons 0 rfl (.cons 2 rfl (.cons 25 rfl (.cons 50 (by rw [hb]; rfl) .nil)))) rfl (fun _ h => h))
          | (have hb : cP c = false := (by unfold cP; simp only [decide_eq_false_iff_not]; omega)
             exact cA () trivial (.cons 0 rfl (.cons 2 rfl (.cons 25 rfl (.cons 50 (by rw [hb]; rfl) .nil)))) rfl (fun _ h => h))
      ·
        refine aI (aB ?_);refine aA (bV rfl rfl) rfl ?_;refine aA (aF rfl) rfl ?_;refine aG (aE ?_);refine bH 50 rfl (fun h50 => ?_) (fun h50 => ?_)
        ·
          refine aX ?_
          first
            | (have hb : cP c = decide ((c.toNat : Int) = 93) := (by unfold cP; rw [decide_eq_decide]; omega)
               exact cA () trivial (.cons 0 rfl (.cons 2 rfl (.cons 25 rfl (.cons 50 (by rw [hb]; rfl) .nil)))) rfl (fun _ h => h))
            | (have hb : cP c = true := (by unfold cP; simp only [decide_eq_true_eq]; omega)
               exact cA () trivial (.cons 0 rfl (.cons 2 rfl (.cons 25 rfl (.cons 50 (by rw [hb]; rfl) .nil)))) rfl (fun _ h => h))
            | (have hb : cP c = false := (by unfold cP; simp only [decide_eq_false_iff_not]; omega)
               exact cA () trivial (.cons 0 rfl (.cons 2 rfl (.cons 25 rfl (.cons 50 (by rw [hb]; rfl) .nil)))) rfl (fun _ h => h))
        ·
          refine aI (aB ?_);refine aA (bV rfl rfl) rfl ?_;refine aA (aF rfl) rfl ?_;refine aG (aE ?_);refine bH 50 rfl (fun h50 => ?_) (fun h50 => ?_)
          ·
            refine aX ?_
            first
              | (have hb : cP c = decide ((c.toNat : Int) = 93) := (by unfold cP; rw [decide_eq_decide]; omega)
                 exact cA () trivial (.cons 0 rfl (.cons 2 rfl (.cons 25 rfl (.cons 50 (by rw [hb]; rfl) .nil)))) rfl (fun _ h => h))
              | (have hb : cP c = true := (by unfold cP; simp only [decide_eq_true_eq]; omega)
                 exact cA () trivial (.cons 0 rfl (.cons 2 rfl (.cons 25 rfl (.cons 50 (by rw [hb]; rfl) .nil)))) rfl (fun _ h => h))
              | (have hb : cP c = false := (by unfold cP; simp only [decide_eq_false_iff_not]; omega)
                 exact cA () trivial (.cons 0 rfl (.cons 2 rfl (.cons 25 rfl (.cons 50 (by rw [hb]; rfl) .nil)))) rfl (fun _ h => h))
          ·
            refine aI (aB ?_);refine aA (bV rfl rfl) rfl ?_;refine aA (aF rfl) rfl ?_;refine aG (aE ?_);refine bH 50 rfl (fun h50 => ?_) (fun h50 => ?_)
            ·
              refine aX ?_
              first
                | (have hb : cP c = decide ((c.toNat : Int) = 93) := (by unfold cP; rw [decide_eq_decide]; omega)
                   exact cA () trivial (.cons 0 rfl (.cons 2 rfl (.cons 25 rfl (.cons 50 (by rw [hb]; rfl) .nil)))) rfl (fun _ h => h))
                | (have hb : cP c = true := (by unfold cP; simp only [decide_eq_true_eq]; omega)
                   exact cA () trivial (.cons 0 rfl (.cons 2 rfl (.cons 25 rfl (.cons 50 (by rw [hb]; rfl) .nil)))) rfl (fun _ h => h))
                | (have hb : cP c = false := (by unfold cP; simp only [decide_eq_false_iff_not]; omega)
                   exact cA () trivial (.cons 0 rfl (.cons 2 rfl (.cons 25 rfl (.cons 50 (by rw [hb]; rfl) .nil)))) rfl (fun _ h => h))
            ·
              refine aI (aB ?_);refine aA (bV rfl rfl) rfl ?_;refine aA (aF rfl) rfl ?_;refine aG (aE ?_);refine bH 50 rfl (fun h50 => ?_) (fun h50 => ?_)
              ·
                refine aX ?_
                first
                  | (have hb : cP c = decide ((c.toNat : Int) = 93) := (by unfold cP; rw [decide_eq_decide]; omega)
                     exact cA () trivial (.cons 0 rfl (.cons 2 rfl (.cons 25 rfl (.cons 50 (by rw [hb]; rfl) .nil)))) rfl (fun _ h => h))
                  | (have hb : cP c = true := (by unfold cP; simp only [decide_eq_true_eq]; omega)
                     exact cA () trivial (.cons 0 rfl (.cons 2 rfl (.cons 25 rfl (.cons 50 (by rw [hb]; rfl) .nil)))) rfl (fun _ h => h))
                  | (have hb : cP c = false := (by unfold cP; simp only [decide_eq_false_iff_not]; omega)
                     exact cA () trivial (.cons 0 rfl (.cons 2 rfl (.cons 25 rfl (.cons 50 (by rw [hb]; rfl) .nil)))) rfl (fun _ h => h))
              ·
                refine aI (aB ?_);refine aA (bV rfl rfl) rfl ?_;refine aA (aF rfl) rfl ?_;refine aG (aE ?_);refine bH 50 rfl (fun h50 => ?_) (fun h50 => ?_)
                ·
                  refine aX ?_
                  first
                    | (have hb : cP c = decide ((c.toNat : Int) = 93) := (by unfold cP; rw [decide_eq_decide]; omega)
                       exact cA () trivial (.cons 0 rfl (.cons 2 rfl (.cons 25 rfl (.cons 50 (by rw [hb]; rfl) .nil)))) rfl (fun _ h => h))
                    | (have hb : cP c = true := (by unfold cP; simp only [decide_eq_true_eq]; omega)
                       exact cA () trivial (.cons 0 rfl (.cons 2 rfl (.cons 25 rfl (.cons 50 (by rw [hb]; rfl) .nil)))) rfl (fun _ h => h))
                    | (have hb : cP c = false := (by unfold cP; simp only [decide_eq_false_iff_not]; omega)
                       exact cA () trivial (.cons 0 rfl (.cons 2 rfl (.cons 25 rfl (.cons 50 (by rw [hb]; rfl) .nil)))) rfl (fun _ h => h))
                ·
                  refine aI (aB ?_);refine aA (bV rfl rfl) rfl ?_;refine aA (aF rfl) rfl ?_;refine aG (aE ?_);refine bH 50 rfl (fun h50 => ?_) (fun h50 => ?_)
                  ·
                    refine aX ?_
                    first
                      | (have hb : cP c = decide ((c.toNat : Int) = 93) := (by unfold cP; rw [decide_eq_decide]; omega)
                         exact cA () trivial (.cons 0 rfl (.cons 2 rfl (.cons 25 rfl (.cons 50 (by rw [hb]; rfl) .nil)))) rfl (fun _ h => h))
                      | (have hb : cP c = true := (by unfold cP; simp only [decide_eq_true_eq]; omega)
                         exact cA () trivial (.cons 0 rfl (.cons 2 rfl (.cons 25 rfl (.cons 50 (by rw [hb]; rfl) .nil)))) rfl (fun _ h => h))
                      | (have hb : cP c = false := (by unfold cP; simp only [decide_eq_false_iff_not]; omega)
                         exact cA () trivial (.cons 0 rfl (.cons 2 rfl (.cons 25 rfl (.cons 50 (by rw [hb]; rfl) .nil)))) rfl (fun _ h => h))
                  ·
                    refine aB ?_;refine aA (bV rfl rfl) rfl ?_;refine aA (aF rfl) rfl ?_;refine aG ?_
                    first
                      | (have hb : cP c = decide ((c.toNat : Int) = 93) := (by unfold cP; rw [decide_eq_decide]; omega)
                         exact cA () trivial (.cons 0 rfl (.cons 2 rfl (.cons 25 rfl (.cons 50 (by rw [hb]; rfl) .nil)))) rfl (fun _ h => h))
                      | (have hb : cP c = true := (by unfold cP; simp only [decide_eq_true_eq]; omega)
                         exact cA () trivial (.cons 0 rfl (.cons 2 rfl (.cons 25 rfl (.cons 50 (by rw [hb]; rfl) .nil)))) rfl (fun _ h => h))
                      | (have hb : cP c = false := (by unfold cP; simp only [decide_eq_false_iff_not]; omega)
                         exact cA () trivial (.cons 0 rfl (.cons 2 rfl (.cons 25 rfl (.cons 50 (by rw [hb]; rfl) .nil)))) rfl (fun _ h => h))
    ·
      intro _ _;refine d6 50 rfl (fun h50 => ?_) (fun h50 => ?_)
      ·
        refine aI (aB ?_);refine aA (aC rfl) rfl ?_;refine aA (aC rfl) rfl ?_;refine aA (aC rfl) rfl ?_;have hc128 := aMC h50;refine aA (yP Tryz.underlying5 Tryz.underlying9 rfl (by first | assumption | omega)) rfl ?_;refine aA bS rfl ?_;refine aA (aD (o' := 2) cF rfl rfl) rfl ?_;refine aA (aD (o' := 2) eE rfl rfl) rfl ?_;refine bP (bK j8 rfl rfl cD a7 (.succ (.succ .zero)) rfl) ?_;rintro _ K _ ⟨rfl, rfl⟩ -;refine aA bS rfl ?_;refine aA (aD (o' := 2) cF rfl rfl) rfl ?_;refine aA (aD (o' := 3) fA rfl rfl) rfl ?_;refine bP (bK ts9 rfl rfl cD a7 (.succ (.succ (.succ .zero))) rfl) ?_;rintro _ K _ ⟨rfl, rfl⟩ -;refine aG (aE ?_);refine aB ?_;refine aA (aC rfl) rfl ?_;refine aA bS rfl ?_;refine aA (aD (o' := 1) bW rfl rfl) rfl ?_;refine aA (aK ts3 rfl aL rfl) rfl ?_;refine aA (b0 rfl rfl aH aH) rfl ?_;refine aA bS rfl ?_;refine aA (aD (o' := 1) bW rfl rfl) rfl ?_;refine bP (bK ts3 rfl rfl cD a7 (.succ .zero) rfl) ?_;rintro _ K _ ⟨rfl, rfl⟩ -;refine aG (aM ?_);refine dD rfl (Hl.le_refl _) ?_;rw [hn];unfold m0;rw [if_pos h50];exact ⟨_, rfl, rfl, rfl, rfl⟩
      ·
        refine aI (aB ?_);refine aA (bV rfl rfl) rfl ?_;refine aA (aF rfl) rfl ?_;refine aG (aE ?_);refine bH 76 rfl (fun h76 => ?_) (fun h76 => ?_)
        ·
          refine aB ?_;refine aA (aC rfl) rfl ?_;refine aW rfl rfl (aBK b T s a1 _ _ _ a1 rest hs aH _) (.cons .here .nil) rfl (fun _ _ => aY _ _) ?_ ?_
          ·
            rintro _ _ _ hT2 le1;obtain ⟨e, p, hr, fb, h, rfl⟩ := aZ hT2;cases h
            refine aN (.cons .here .nil) ?_;refine aQ ?_;refine a8 bQ ?_;rw [hn];unfold m0;rw [if_neg (by simp [h50]), if_pos aH, hr];exact ⟨fb, rfl, rfl⟩
          rintro _ K _ hT2 -;obtain ⟨r, hr, rfl, rfl, rfl⟩ := a6 hT2;refine aG (aM ?_);refine dD rfl (Hl.le_refl _) ?_;rw [hn];unfold m0;rw [if_neg (by simp [h50]), if_pos aH, hr];exact ⟨_, rfl, rfl, rfl, rfl⟩
        ·
          refine aI (aB ?_);refine aA (bV rfl rfl) rfl ?_;refine aA (aF rfl) rfl ?_;refine aG (aE ?_);refine bH 80 rfl (fun h80 => ?_) (fun h80 => ?_)
          ·
            refine aI (aI ?_);refine aB ?_;refine aA (aC rfl) rfl ?_;refine bD rfl rfl (iR b T s a1 1 _ _ _ _ rest hs aH aH _) (.cons .here .nil) rfl ?_;rintro _ K _ ⟨rfl, rfl, rfl⟩ -;refine cG rfl rfl (mT _ _) rfl ?_;refine aA (by first | exact dM rfl | exact dW rfl) rfl ?_;refine aG (aE ?_);refine d6 85 rfl (fun h85 => ?_) (fun h85 => ?_)
            ·
              refine aB ?_;refine aA (aC rfl) rfl ?_;refine aA bS rfl ?_;refine aA (aD (o' := 1) bW rfl rfl) rfl ?_;refine aA (aK ts3 rfl aL rfl) rfl ?_;refine aW rfl rfl (dY 2 a1 _) .nil rfl (by rintro _ _ ⟨_, h, _⟩; cases h) ?_ ?_
              ·
                rintro _ _ _ ⟨fb, h, rfl⟩ le1;cases h
                refine aN (.cons .here .nil) ?_;refine aJ ?_;refine aQ ?_;refine a8 bQ ?_;rw [hn];unfold m0;rw [if_neg (by simp [h50]), if_neg aH, if_pos aH, if_neg (by simpa using h85)];exact ⟨fb, rfl, rfl⟩
              ·
                rintro _ _ _ ⟨_, h, _⟩; cases h
            ·
              refine aX ?_;refine aE (aI ?_);refine aB ?_;refine aA (aC rfl) rfl ?_;refine aA bS rfl ?_;refine aA (aD (o' := 1) bW rfl rfl) rfl ?_;refine aA (aK ts3 rfl aL rfl) rfl ?_;refine aA (b0 rfl rfl aH aH) rfl ?_;refine aA bS rfl ?_;refine aA (aD (o' := 1) bW rfl rfl) rfl ?_;refine bP (bK ts3 rfl rfl cD a7 (.succ .zero) rfl) ?_;rintro _ K _ ⟨rfl, rfl⟩ -;refine aG (aE ?_);refine aI (aB ?_);refine aA (aC rfl) rfl ?_;refine aA bS rfl ?_;refine aA (aD (o' := 2) cF rfl rfl) rfl ?_;refine aA (aD (o' := 2) eE rfl rfl) rfl ?_;refine bP (bK j8 rfl rfl cD a7 (.succ (.succ .zero)) rfl) ?_;rintro _ K _ ⟨rfl, rfl⟩ -;refine aG (aE ?_);refine aB ?_;refine aA (aC rfl) rfl ?_;refine aA (aC rfl) rfl ?_;refine bD rfl rfl (nZ b T s (a1 + 1) _ _ _ _ rest 187 fC hs aH _ (fun c => mF c _)) (.cons .here .nil) rfl ?_;rintro _ K _ ⟨rfl, rfl, rfl⟩ -;have hwl := gI fC s (a1 + 1) aH;refine cG rfl rfl (e9 _ _ aH) rfl ?_;refine aA bS rfl ?_;refine aA (aD (o' := 2) cF rfl rfl) rfl ?_;refine aA (aD (o' := 3) fA rfl rfl) rfl ?_;refine bP (bK ts9 rfl rfl cD a7 (.succ (.succ (.succ .zero))) rfl) ?_;rintro _ K _ ⟨rfl, rfl⟩ -;refine aG (aM ?_);refine dD rfl (Hl.le_refl _) ?_;rw [hn];unfold m0;rw [if_neg (by simp [h50]), if_neg aH, if_pos aH, if_pos (by simpa using h85)];exact ⟨_, rfl, rfl, rfl, rfl⟩
          ·
            refine bC (aI ?_);refine aB ?_;refine aA (aC rfl) rfl ?_;refine cG rfl rfl (mT c _) rfl ?_;refine aA (aF rfl) rfl ?_;refine aG (aE ?_);refine d6 31 rfl (fun h31 => ?_) (fun h31 => ?_)
            ·
              refine aB ?_;refine aA (aC rfl) rfl ?_;refine aA (aC rfl) rfl ?_;refine aA (aC rfl) rfl ?_;refine bD rfl rfl (nZ b T s a1 _ _ _ _ rest 187 fC hs aH _ (fun c => mF c _)) (.cons .here .nil) rfl ?_;rintro _ K _ ⟨rfl, rfl, rfl⟩ -;have hwl := gI fC s a1 aH;refine cG rfl rfl (e9 _ _ aH) rfl ?_;refine aA bS rfl ?_;refine aA (aD (o' := 2) cF rfl rfl) rfl ?_;refine aA (aD (o' := 2) eE rfl rfl) rfl ?_;refine bP (bK j8 rfl rfl cD a7 (.succ (.succ .zero)) rfl) ?_;rintro _ K _ ⟨rfl, rfl⟩ -;refine aA bS rfl ?_;refine aA (aD (o' := 2) cF rfl rfl) rfl ?_;refine aA (aD (o' := 3) fA rfl rfl) rfl ?_;refine bP (bK ts9 rfl rfl cD a7 (.succ (.succ (.succ .zero))) rfl) ?_;rintro _ K _ ⟨rfl, rfl⟩ -;refine aG (aM ?_);refine aM ?_;refine dD rfl (Hl.le_refl _) ?_;rw [hn];unfold m0;rw [if_neg (by simp [h50]), if_neg aH, if_neg aH, if_pos h31];exact ⟨_, rfl, rfl, rfl, rfl⟩
            ·
              refine aI (aB ?_);refine aA (aC rfl) rfl ?_;refine cG rfl rfl (lE c _) rfl ?_;refine aA (aF rfl) rfl ?_;refine aG (aE ?_);refine d6 45 rfl (fun h45 => ?_) (fun h45 => ?_)
              ·
                refine aB ?_;refine aA (aC rfl) rfl ?_;refine aW rfl rfl (aBA b T s a1 _ _ _ a1 rest hs aH _) (.cons .here .nil) rfl (fun _ _ => aY _ _) ?_ ?_
                ·
                  rintro _ _ _ hT2 le1;obtain ⟨e, p, hr, fb, h, rfl⟩ := aZ hT2;cases h
                  refine aN (.cons .here .nil) ?_;refine aQ ?_;refine aQ ?_;refine a8 bQ ?_;rw [hn];unfold m0;rw [if_neg (by simp [h50]), if_neg aH, if_neg aH, if_neg (by simp [h31]), if_pos h45, hr];exact ⟨fb, rfl, rfl⟩
                rintro _ K _ hT2 -;obtain ⟨r, hr, rfl, rfl, rfl⟩ := a6 hT2;refine aG (aM ?_);refine aM ?_;refine dD rfl (Hl.le_refl _) ?_;rw [hn];unfold m0;rw [if_neg (by simp [h50]), if_neg aH, if_neg aH, if_neg (by simp [h31]), if_pos h45, hr];exact ⟨_, rfl, rfl, rfl, rfl⟩
              ·
                refine aB ?_;refine aA (aC rfl) rfl ?_;refine aA bS rfl ?_;refine aA (aD (o' := 1) bW rfl rfl) rfl ?_;refine aA (aK ts3 rfl aL rfl) rfl ?_;refine aW rfl rfl (dY 2 a1 _) .nil rfl (by rintro _ _ ⟨_, h, _⟩; cases h) ?_ ?_
                ·
                  rintro _ _ _ ⟨fb, h, rfl⟩ le1;cases h
                  refine aN (.cons .here .nil) ?_;refine aQ ?_;refine aQ ?_;refine a8 bQ ?_;rw [hn];unfold m0;rw [if_neg (by simp [h50]), if_neg aH, if_neg aH, if_neg (by simp [h31]), if_neg (by simp [h45])];exact ⟨fb, rfl, rfl⟩
                ·
                  rintro _ _ _ ⟨_, h, _⟩; cases h
end Go.Proofs
end
section
namespace Go.Syn
open Go.Proofs
theorem vK {s : aO} {wat : Int} : ∀ (f i : Nat) (acc : aO) (r : Nat × aO), eT s wat f i acc = .ok r → i < r.1 ∧ r.1 ≤ s.length := by
 intro f;induction f with
 | zero => intro i acc r h; simp only [eT] at h; cases h
 | succ f ih =>
  intro i acc r h;simp only [eT] at h;split at h
  ·rename_i h1; cases h; exact ⟨by simp, by simp; omega⟩
  ·split at h
   ·split at h
    ·cases h
    ·have := ih _ _ _ h; omega
   ·split at h
    ·cases h
    ·have := ih _ _ _ h; omega
theorem aCS {s : aO} {a : Nat} {c : UInt8} (hc : s[a]? = some c) (h : fY c = true) : 0 < (cS s a).length := by
 have hi : a < s.length := by
  rcases Nat.lt_or_ge a s.length with h | h
  ·exact h
  ·simp [List.getElem?_eq_none h] at hc
 have e : s[a] = c := by simpa [List.getElem?_eq_getElem hi] using hc
 unfold cS;rw [List.drop_eq_getElem_cons hi, e, List.takeWhile_cons, if_pos h]; simp
theorem aK7 {s : aO} {a : Nat} {c : UInt8} (hc : s[a]? = some c) (h : fC c = true) : 0 < (mU s a).length := by
 have hi : a < s.length := by
  rcases Nat.lt_or_ge a s.length with h | h
  ·exact h
  ·simp [List.getElem?_eq_none h] at hc
 have e : s[a] = c := by simpa [List.getElem?_eq_getElem hi] using hc
 unfold mU;rw [List.drop_eq_getElem_cons hi, e, List.takeWhile_cons, if_pos h]; simp
theorem aGT {s : aO} {a : Nat} {wat : Int} {r : Nat × Int} (ha : a ≤ s.length) (h : qU s a wat = .ok r) : a + (cS s a).length ≤ r.1 ∧ r.1 ≤ s.length := by
 unfold qU at h;split at h
 ·cases h
 ·split at h
  ·cases h
  ·cases h
   refine ⟨?_, aEZ s a ha⟩
   show _ ≤ numA s a
   unfold numA; split <;> omega
theorem aEX {s : aO} {a : Nat} {r : Nat × Word} (ha : a ≤ s.length) (h : next s a = .ok r) : a ≤ r.1 ∧ r.1 ≤ s.length ∧ (r.2.kind ≠ 0 → a < r.1) := by
 unfold next at h;split at h
 ·cases h
 ·rename_i a1 hs;obtain ⟨h1, h2⟩ := zH ha hs;split at h
  ·cases h; exact ⟨h1, h2, fun h => absurd rfl h⟩
  ·rename_i c hc;have hi : a1 < s.length := by
    rcases Nat.lt_or_ge a1 s.length with h | h
    ·exact h
    ·simp [List.getElem?_eq_none h] at hc
   have key : a1 < r.1 ∧ r.1 ≤ s.length := by
    unfold m0 at h;split at h
    ·cases h; exact ⟨by simp, by simp; omega⟩
    ·split at h
     ·split at h
      ·cases h
      ·rename_i q hq;cases h
       have := vK _ _ _ _ hq;exact ⟨by show a1 < q.1; omega, this.2⟩
     ·split at h
      ·split at h
       ·cases h
        have := gI fC s (a1 + 1) aH;exact ⟨by show a1 < a1 + 1 + _; omega, this⟩
       ·cases h
      ·split at h
       ·rename_i hl;cases h
        have := gI fC s a1 aH;have hp := aK7 hc (show fC c = true by simp [fC, hl]);exact ⟨by show a1 < a1 + _; omega, this⟩
       ·split at h
        ·rename_i hd;split at h
         ·cases h
         ·rename_i q hq;cases h
          have := aGT aH hq;have hp := aCS hc hd;exact ⟨by show a1 < q.1; omega, this.2⟩
        ·cases h
   exact ⟨by omega, key.2, fun _ => by omega⟩
def mu (s : aO) (st : St) : Nat := (s.length - st.1) * 2 + (if st.2.kind = 0 then 0 else 1)
theorem eS {s : aO} {st r : St} (ha : st.1 ≤ s.length) (hk : st.2.kind ≠ 0) (h : next s st.1 = .ok r) : mu s r < mu s st ∧ r.1 ≤ s.length := by
 obtain ⟨h1, h2, h3⟩ := aEX ha h;refine ⟨?_, h2⟩
 unfold mu;rw [if_neg hk];split
 ·omega
 ·rename_i hr; have := h3 hr; omega
theorem zS {s : aO} {st : St} {k : Nat} {texts : List aO} {r : Word × St} (ha : st.1 ≤ s.length) (hk : k ≠ 0) (h : take s st k texts = .ok r) : mu s r.2 < mu s st ∧ r.2.1 ≤ s.length := by
 unfold take at h;split at h
 ·cases h
 ·rename_i hn;have hkk : st.2.kind = k := by
   rcases Nat.decEq st.2.kind k with h' | h'
   ·exact absurd (.inl h') hn
   ·exact h'
  split at h
  ·cases h
  ·rename_i q hq;cases h
   exact eS ha aH hq
theorem sF {s : aO} {st : St} {x : aO} {r : Bool × St} (ha : st.1 ≤ s.length) (h : eat s st x = .ok r) : r.2.1 ≤ s.length ∧ mu s r.2 ≤ mu s st ∧ (r.1 = true → mu s r.2 < mu s st) := by
 unfold eat at h;split at h
 ·rename_i hk;split at h
  ·cases h
  ·rename_i q hq;cases h
   have := eS ha aH hq;exact ⟨this.2, Nat.le_of_lt this.1, fun _ => this.1⟩
 ·cases h; exact ⟨ha, Nat.le_refl _, fun h => by cases h⟩
theorem iI {s : aO} {st : St} {ff : aO → Int} {r : aO × St} (ha : st.1 ≤ s.length) (h : text s st ff = .ok r) : mu s r.2 < mu s st ∧ r.2.1 ≤ s.length := by
 unfold text at h;split at h
 ·cases h
 ·split at h
  ·cases h
  ·rename_i q hq;cases h
   exact zS ha (by decide) hq
theorem aE1 {s : aO} {st r : St} {x : aO} (ha : st.1 ≤ s.length) (h : sign s st x = .ok r) : mu s r < mu s st ∧ r.1 ≤ s.length := by
 unfold sign at h;split at h
 ·cases h
 ·rename_i q hq;cases h
  exact zS ha (by decide) hq
theorem p6 (s : aO) (st : St) : mu s st ≤ s.length * 2 + 1 := by unfold mu; split <;> omega
def mG (s : aO) (ff : aO → Int) : Nat → St → List aO → Res (List aO × St)
 | 0, _, _ => .error (0, 0)
 | f + 1, st, acc =>
  match eat s st [44] with
  | .error e => .error e
  | .ok r =>
   if r.1 = true then
    match text s r.2 ff with
    | .error e => .error e
    | .ok x => mG s ff f x.2 (acc ++ [x.1])
   else
    match sign s r.2 [93] with
    | .error e => .error e
    | .ok q => .ok (acc, q)
def list (s : aO) (st : St) (ff : aO → Int) : Res (List aO × St) :=
 match eat s st [91] with
 | .error e => .error e
 | .ok r =>
  match text s r.2 ff with
  | .error e => .error e
  | .ok x => if r.1 = true then mG s ff (mu s x.2 + 1) x.2 [x.1] else .ok ([x.1], x.2)
def named (s : aO) : Bool := s.all fC && (decide (s ≠ []) && !fY ((s[0]?).getD 0))
def oneOf (e : Int) (texts : List aO) (x : aO) : Int := if x ∈ texts then 0 else e
theorem aJK {s : aO} {i : Nat} {c : UInt8} (hc : s[i]? = some c) (h : fC c = false) : named s = false := by
 have : s.all fC = false := List.all_eq_false.2 ⟨c, List.mem_of_getElem? hc, by simp [h]⟩;simp [named, this]
structure SetC where
 name : aO
 value : aO
 tag : Int
def mP : aO := [108, 111, 119, 101, 114]
def mQ : aO := [117, 112, 112, 101, 114]
def kY : aO := [108, 101, 110, 103, 116, 104]
def dP : aO := [118, 97, 114, 105, 97, 98, 108, 101, 115]
def iX (s : aO) (st : St) : Res (Int × St) :=
 if st.2.kind = 2 then
  if cN [mP, mQ, kY] st.2.s = -1 then .error (4, st.2.at_)
  else match next s st.1 with
   | .error e => .error e
   | .ok r => .ok (1 + cN [mP, mQ, kY] st.2.s, r)
 else .ok (0, st)
def lH (s : aO) (t : Int × St) : Res (SetC × St) :=
 match text s t.2 (fun x => if named x = true then 0 else 7) with
 | .error e => .error e
 | .ok n =>
  match text s n.2 (fun _ => 0) with
  | .error e => .error e
  | .ok v =>
   match sign s v.2 [59] with
   | .error e => .error e
   | .ok q => .ok (⟨dH n.1, v.1, t.1⟩, q)
def setC (s : aO) (needs : List aO) (st : St) : Res (SetC × St) :=
 if dP ∈ needs then
  match next s st.1 with
  | .error e => .error e
  | .ok r =>
   match iX s r with
   | .error e => .error e
   | .ok t => lH s t
 else .error (6, st.2.at_)
end Go.Syn
end
section
namespace Go.Syn
open Go.Proofs
theorem aBJ {s : aO} {wat : Int} : ∀ (f i : Nat) (acc : aO) (r : Nat × aO), eT s wat f i acc = .ok r → acc.length ≤ i → r.2.length ≤ r.1 := by
 intro f;induction f with
 | zero => intro i acc r h; simp only [eT] at h; cases h
 | succ f ih =>
  intro i acc r h hi;simp only [eT] at h;split at h
  ·cases h; show acc.length ≤ i + 1; omega
  ·split at h
   ·split at h
    ·cases h
    ·exact ih _ _ _ h (by simp; omega)
   ·split at h
    ·cases h
    ·exact ih _ _ _ h (by simp; omega)
theorem qV (s : aO) : (dH s).length = s.length := by simp [dH]
theorem aJL {s : aO} {a : Nat} {r : Nat × Word} (ha : a ≤ s.length) (h : next s a = .ok r) : r.2.s.length ≤ s.length := by
 unfold next at h;split at h
 ·cases h
 ·rename_i a1 hs;obtain ⟨h1, h2⟩ := zH ha hs;split at h
  ·cases h; simp
  ·rename_i c hc;have hi : a1 < s.length := by
    rcases Nat.lt_or_ge a1 s.length with h | h
    ·exact h
    ·simp [List.getElem?_eq_none h] at hc
   unfold m0 at h;split at h
   ·cases h; simp; omega
   ·split at h
    ·split at h
     ·cases h
     ·rename_i q hq;cases h
      have h3 := vK _ _ _ _ hq;have h4 := aBJ _ _ _ _ hq (by simp)
      show q.2.length ≤ s.length
      omega
    ·split at h
     ·split at h
      ·cases h
       have := gI fC s (a1 + 1) aH
       show (dH (mU s (a1 + 1))).length ≤ _
       rw [qV]; unfold mU; omega
      ·cases h
     ·split at h
      ·cases h
       have := gI fC s a1 aH
       show (dH (mU s a1)).length ≤ _
       rw [qV]; unfold mU; omega
      ·split at h
       ·split at h
        ·cases h
        ·cases h; simp
       ·cases h
def Ok (s : aO) (st : St) : Prop := st.1 ≤ s.length ∧ st.2.s.length ≤ s.length
theorem dT {s : aO} {a : Nat} {r : St} (ha : a ≤ s.length) (h : next s a = .ok r) : Ok s r := ⟨(aEX ha h).2.1, aJL ha h⟩
theorem rV {s : aO} {st : St} {k : Nat} {texts : List aO} {r : Word × St} (ha : st.1 ≤ s.length) (h : take s st k texts = .ok r) : Ok s r.2 := by
 unfold take at h;split at h
 ·cases h
 ·split at h
  ·cases h
  ·rename_i q hq;cases h
   exact dT ha hq
theorem sG {s : aO} {st : St} {x : aO} {r : Bool × St} (ha : Ok s st) (h : eat s st x = .ok r) : Ok s r.2 := by
 unfold eat at h;split at h
 ·split at h
  ·cases h
  ·rename_i q hq;cases h
   exact dT ha.1 hq
 ·cases h; exact ha
theorem jZ {s : aO} {st : St} {ff : aO → Int} {r : aO × St} (ha : st.1 ≤ s.length) (h : text s st ff = .ok r) : Ok s r.2 := by
 unfold text at h;split at h
 ·cases h
 ·split at h
  ·cases h
  ·rename_i q hq;cases h
   exact rV ha hq
theorem tU {s : aO} {st r : St} {x : aO} (ha : st.1 ≤ s.length) (h : sign s st x = .ok r) : Ok s r := by
 unfold sign at h;split at h
 ·cases h
 ·rename_i q hq;cases h
  exact rV ha hq
end Go.Syn
end
section
namespace Go.Mach
open Go.Syn
structure Ins where
 op : Int
 n : Int
 tag : Int
 oct : Bool
 a : List aO
 b : List aO
 at_ : Int
structure Msg where
 from_ : aO
 to_ : aO
 size : Int
 hs : List (aO × aO)
abbrev gM := Int × aO
structure MS where
 acts : List gM
 keep : Bool
 vars : List (aO × aO)
 parts : List aO
 stack : List Bool
 pc : Nat
def vget (vars : List (aO × aO)) (k : aO) : aO := match vars with
 | [] => []
 | (j, v) :: r => if j = k then v else vget r k
def vput (vars : List (aO × aO)) (k v : aO) : List (aO × aO) := match vars with
 | [] => [(k, v)]
 | (j, u) :: r => if j = k then (j, v) :: r else (j, u) :: vput r k v
def held (vars : List (aO × aO)) (parts : List aO) (name : aO) : aO × Bool :=
 match name with
 | [c] => if fY c = true then ((parts[c.toNat - 48]?).getD [], true) else (vget vars (dH name), named name)
 | _ => (vget vars (dH name), named name)
def gK (vars : List (aO × aO)) (parts : List aO) : Nat → aO → aO → aO
 | 0, s, acc => acc ++ s
 | f + 1, s, acc =>
  if s = [] then acc
  else if Lib.index s [36, 123] < 0 then acc ++ s
  else
   let i := (Lib.index s [36, 123]).toNat
   let t := s.drop i
   let e := Lib.indexByte t 125
   let h := held vars parts ((t.take (max e 2).toNat).drop 2)
   if 0 < e ∧ h.2 = true then gK vars parts f (t.drop (e.toNat + 1)) (acc ++ s.take i ++ h.1)
   else gK vars parts f (t.drop 1) (acc ++ s.take i ++ [36])
def dC (named : Bool) (vars : List (aO × aO)) (parts : List aO) (s : aO) : aO :=
 if named = true then (gK vars parts (s.length + 1) s []).take 1024 else s
def fG (m : Msg) (name : aO) : List aO := (m.hs.filter fun h => decide (dH h.1 = name)).map (·.2)
def mC (m : Msg) (names : List aO) : Bool := names.all fun n => decide (fG m (dH n) ≠ [])
def mB (m : Msg) (n : aO) : List aO := if dH n = [102, 114, 111, 109] then [m.from_] else if dH n = [116, 111] then [m.to_] else []
def fQ (ex : aO → aO) (m : Msg) (o : Ins) : List aO :=
 if o.op = 8 then o.a.map ex
 else if o.op = 6 then (o.a.map ex).flatMap fun n => fG m (dH n)
 else if o.op = 7 then o.a.flatMap (mB m)
 else []
def dV (oct : Bool) (s : aO) : aO := if oct = true then s else dH s
def iW {α : Type} (f : Nat → Option α) : Nat → Nat → Option α
 | 0, _ => none
 | n + 1, e => match f e with
  | some x => some x
  | none => iW f n (e + 1)
def gC (w v k : aO) : Nat → Nat → Nat → Option (List aO)
 | 0, _, _ => none
 | f + 1, i, j =>
  match k[j]? with
  | none => if i = v.length then some [] else none
  | some c =>
   if c.toNat = 42 then iW (fun e => (gC w v k f e (j + 1)).map fun ps => ((w.take e).drop i) :: ps) (v.length + 1 - i) i
   else match v[i]? with
    | none => none
    | some x =>
     if c.toNat = 63 then (gC w v k f (i + 1) (j + 1)).map fun ps => ((w.take (i + 1)).drop i) :: ps
     else match (if c.toNat = 92 then k[j + 1]? else none) with
      | some d => if x = d then gC w v k f (i + 1) (j + 2) else none
      | none => if x = c then gC w v k f (i + 1) (j + 1) else none
def glob (w k : aO) (oct : Bool) : Option (List aO) := gC w (dV oct w) (dV oct k) (k.length + 1) 0 0
def f5 (o : Ins) (v k : aO) : Option (List aO) :=
 if o.tag = 1 then (if dV o.oct v = dV o.oct k then some [] else none)
 else if o.tag = 2 then (if 0 ≤ Lib.index (dV o.oct v) (dV o.oct k) then some [] else none)
 else glob v k o.oct
def mS {α β : Type} (f : α → Option β) : List α → Option β
 | [] => none
 | x :: l => match f x with
  | some y => some y
  | none => mS f l
def g0 (o : Ins) (vs ks : List aO) : Option (List aO) :=
 mS (fun v => mS (fun k => (f5 o v k).map fun ps => v :: ps) ks) vs
def lA (pc : Nat) : Int × Int := (12, pc)
def push (s : MS) (b : Bool) : Res MS := if s.stack.length < 8 then .ok { s with stack := s.stack ++ [b] } else .error (lA s.pc)
def pop (s : MS) : Res (Bool × MS) := match s.stack.getLast? with
 | some b => .ok (b, { s with stack := s.stack.dropLast })
 | none => .error (lA s.pc)
def jump (s : MS) (by_ : Int) (n : Nat) (yes : Bool) : Res MS :=
 if 0 ≤ by_ ∧ by_ < (n : Int) - s.pc then .ok (if yes = true then { s with pc := s.pc + by_.toNat } else s) else .error (lA s.pc)
def matchI (nm : Bool) (m : Msg) (o : Ins) (s : MS) : Res MS :=
 if 1 ≤ o.tag ∧ o.tag ≤ 3 ∧ s.stack.length < 8 then
  let ex := dC nm s.vars s.parts
  match g0 o (fQ ex m o) (o.b.map ex) with
  | some ps => push (if o.tag = 3 ∧ nm = true then { s with parts := ps } else s) true
  | none => push s false
 else .error (lA s.pc)
def setI (nm : Bool) (o : Ins) (s : MS) : Res MS :=
 if 0 ≤ o.tag ∧ o.tag ≤ 3 then
  match o.a, o.b with
  | a :: _, b :: _ =>
   let v := dC nm s.vars s.parts b
   let u := if o.tag = 1 then dH v else if o.tag = 2 then aC7 v else if o.tag = 3 then Lib.itoa v.length else v
   .ok { s with vars := vput s.vars a (u.take 48) }
  | _, _ => .error (lA s.pc)
 else .error (lA s.pc)
def fV (c : UInt8) : Bool := (decide (97 ≤ (c ||| 32).toNat) && decide ((c ||| 32).toNat ≤ 122)) || (decide (48 ≤ c.toNat) && decide (c.toNat ≤ 57)) || decide (c.toNat = 95)
def iF (i : Nat) (c : UInt8) : Bool := fV c || decide (c.toNat = 45) || (decide (c.toNat = 46) && decide (i ≠ 0))
def aAJ (s : aO) : Bool := ((List.range s.length).all fun i => iF i ((s[i]?).getD 0)) && decide (s ≠ []) && decide (s.length ≤ 16)
def eR (c : UInt8) : Bool := decide (c.toNat = 32 ∨ c.toNat = 9 ∨ c.toNat = 13 ∨ c.toNat = 10)
def lK (s : aO) : Bool :=
 match s.findIdx? (fun x => decide (x = 64)) with
 | none => false
 | some i => decide (s.take i ≠ []) && decide (s.drop (i + 1) ≠ []) && !(s.any eR) && !((s.drop (i + 1)).any fun c => decide (c = 64)) && decide (s.length ≤ 32)
def actA (nm : Bool) (o : Ins) (s : MS) : aO := if o.tag = 1 then [] else dC nm s.vars s.parts ((o.a[0]?).getD [])
def actV (o : Ins) (arg : aO) : gM := (o.tag, if o.tag = 4 then arg.take 48 else arg)
def actI (nm : Bool) (o : Ins) (s : MS) : Res MS :=
 if o.tag = 1 ∨ (2 ≤ o.tag ∧ o.tag ≤ 4 ∧ o.a ≠ []) then
  let arg := actA nm o s
  if o.tag = 2 ∧ aAJ arg = false then .error (8, o.at_)
  else if o.tag = 3 ∧ lK arg = false then .error (9, o.at_)
  else
   let a : gM := actV o arg
   if a ∈ s.acts then .ok { s with keep := false }
   else if (∃ b ∈ s.acts, a.1 = 4 ∨ b.1 = 4) then .error (10, o.at_)
   else if s.acts.length = 6 then .error (11, o.at_)
   else .ok { s with keep := false, acts := s.acts ++ [a] }
 else .error (lA s.pc)
def step (nm : Bool) (m : Msg) (n : Nat) (o : Ins) (s : MS) : Res MS :=
 if o.op = 1 then (if o.n = 0 ∨ o.n = 1 then push s (decide (o.n = 1)) else .error (lA s.pc))
 else if o.op = 2 then (match pop s with | .error e => .error e | .ok r => push r.2 (!r.1))
 else if o.op = 3 then jump s o.n n true
 else if o.op = 4 then (match pop s with | .error e => .error e | .ok r => jump r.2 o.n n r.1)
 else if o.op = 5 then (match pop s with | .error e => .error e | .ok r => jump r.2 o.n n (!r.1))
 else if o.op = 6 ∨ o.op = 7 ∨ o.op = 8 then matchI nm m o s
 else if o.op = 9 then push s (mC m (o.a.map (dC nm s.vars s.parts)))
 else if o.op = 10 then (if o.tag = 1 ∨ o.tag = 2 then push s (decide (o.tag = 1 ∧ o.n < m.size ∨ o.tag = 2 ∧ m.size < o.n)) else .error (lA s.pc))
 else if o.op = 11 then actI nm o s
 else if o.op = 12 then setI nm o s
 else if o.op = 13 then .ok { s with keep := false }
 else .error (lA s.pc)
structure Out where
 acts : List gM
 steps : Nat
 err : Option (Int × Int)
def loop (nm : Bool) (m : Msg) (code : List Ins) : Nat → Nat → MS → Out
 | 0, st, _ => ⟨[], st, none⟩
 | f + 1, st, s =>
  match code[s.pc]? with
  | none => ⟨if s.keep = true then s.acts ++ [(1, [])] else s.acts, st, none⟩
  | some o =>
   if o.op = 14 then ⟨if s.keep = true then s.acts ++ [(1, [])] else s.acts, st + 1, none⟩
   else match step nm m code.length o s with
    | .error e => ⟨[(1, [])], st + 1, some e⟩
    | .ok t => loop nm m code f (st + 1) { t with pc := t.pc + 1 }
def start : MS := ⟨[], true, [], [], [], 0⟩
def run (nm : Bool) (code : List Ins) (m : Msg) : Out :=
 if 400 < code.length then ⟨[(1, [])], 0, some (12, 400)⟩ else loop nm m code (code.length + 1) 0 start
theorem pI {s t : MS} {b : Bool} (h : push s b = .ok t) : t.pc = s.pc := by
 unfold push at h; split at h <;> cases h; rfl
theorem vJ {s : MS} {r : Bool × MS} (h : pop s = .ok r) : r.2.pc = s.pc := by
 unfold pop at h; split at h <;> cases h; rfl
theorem y8 {s t : MS} {by_ : Int} {n : Nat} {yes : Bool} (h : jump s by_ n yes = .ok t) (hp : s.pc < n) : s.pc ≤ t.pc ∧ t.pc < n := by
 unfold jump at h;split at h
 ·cases h; split
  ·simp only []; omega
  ·exact ⟨Nat.le_refl _, hp⟩
 ·cases h
theorem aGN {nm : Bool} {m : Msg} {o : Ins} {s t : MS} (h : matchI nm m o s = .ok t) : t.pc = s.pc := by
 unfold matchI at h;split at h
 ·simp only [] at h;split at h
  ·have := pI h; rw [this]; split <;> rfl
  ·exact pI h
 ·cases h
theorem aMB {nm : Bool} {o : Ins} {s t : MS} (h : setI nm o s = .ok t) : t.pc = s.pc := by
 unfold setI at h;split at h
 ·split at h
  ·cases h; rfl
  ·cases h
 ·cases h
theorem aLF {nm : Bool} {o : Ins} {s t : MS} (h : actI nm o s = .ok t) : t.pc = s.pc := by
 unfold actI at h;split at h
 ·simp only [] at h;split at h
  ·cases h
  split at h
  ·cases h
  split at h
  ·cases h; rfl
  split at h
  ·cases h
  split at h
  ·cases h
  ·cases h; rfl
 ·cases h
theorem zK {nm : Bool} {m : Msg} {n : Nat} {o : Ins} {s t : MS} (h : step nm m n o s = .ok t) (hp : s.pc < n) : s.pc ≤ t.pc ∧ t.pc < n := by
 have key : t.pc = s.pc → s.pc ≤ t.pc ∧ t.pc < n := fun e => by rw [e]; exact ⟨Nat.le_refl _, hp⟩
 unfold step at h
 by_cases h0 : o.op = 1
 ·rw [if_pos h0] at h;split at h
  ·exact key (pI h)
  ·cases h
 rw [if_neg h0] at h
 by_cases h1 : o.op = 2
 ·rw [if_pos h1] at h;split at h
  ·cases h
  ·rename_i r hr; exact key ((pI h).trans (vJ hr))
 rw [if_neg h1] at h
 by_cases h2 : o.op = 3
 ·rw [if_pos h2] at h;exact y8 h hp
 rw [if_neg h2] at h
 by_cases h3 : o.op = 4
 ·rw [if_pos h3] at h;split at h
  ·cases h
  ·rename_i r hr; have e := vJ hr; have := y8 h (by rw [e]; exact hp); omega
 rw [if_neg h3] at h
 by_cases h4 : o.op = 5
 ·rw [if_pos h4] at h;split at h
  ·cases h
  ·rename_i r hr; have e := vJ hr; have := y8 h (by rw [e]; exact hp); omega
 rw [if_neg h4] at h
 by_cases h5 : o.op = 6 ∨ o.op = 7 ∨ o.op = 8
 ·rw [if_pos h5] at h;exact key (aGN h)
 rw [if_neg h5] at h
 by_cases h6 : o.op = 9
 ·rw [if_pos h6] at h;exact key (pI h)
 rw [if_neg h6] at h
 by_cases h7 : o.op = 10
 ·rw [if_pos h7] at h;split at h
  ·exact key (pI h)
  ·cases h
 rw [if_neg h7] at h
 by_cases h8 : o.op = 11
 ·rw [if_pos h8] at h;exact key (aLF h)
 rw [if_neg h8] at h
 by_cases h9 : o.op = 12
 ·rw [if_pos h9] at h;exact key (aMB h)
 rw [if_neg h9] at h
 by_cases h10 : o.op = 13
 ·rw [if_pos h10] at h;cases h; exact key rfl
 rw [if_neg h10] at h;cases h
theorem aDC (nm : Bool) (m : Msg) (code : List Ins) : ∀ f st s, st ≤ s.pc → s.pc ≤ code.length → (loop nm m code f st s).steps ≤ code.length := by
 intro f;induction f with
 | zero => intro st s h h2; simp [loop]; omega
 | succ f ih =>
  intro st s h h2;unfold loop;split
  ·simp; omega
  ·rename_i o ho;have hi : s.pc < code.length := by
    rcases Nat.lt_or_ge s.pc code.length with h' | h'
    ·exact h'
    ·rw [List.getElem?_eq_none h'] at ho; cases ho
   split
   ·simp; omega
   ·split
    ·simp; omega
    ·rename_i t ht;have := zK ht hi;exact ih _ _ (by simp; omega) (by simp; omega)
theorem run_steps (nm : Bool) (m : Msg) (code : List Ins) : (run nm code m).steps ≤ code.length := by
 unfold run;split
 ·simp
 ·exact aDC nm m code _ _ _ (Nat.le_refl _) (Nat.zero_le _)
end Go.Mach
end
section
namespace Go.Syn
theorem aJG {s : aO} {ff : aO → Int} : ∀ {f : Nat} {st : St} {acc : List aO} {r : List aO × St}, Ok s st → mG s ff f st acc = .ok r → Ok s r.2 ∧ mu s r.2 < mu s st := by
 intro f;induction f with
 | zero => intro st acc r _ h; cases h
 | succ f ih =>
  intro st acc r hok h;simp only [mG] at h;split at h
  ·cases h
  ·rename_i q hq;obtain ⟨_, hq2, _⟩ := sF hok.1 hq;have hqo := sG hok hq;split at h
   ·split at h
    ·cases h
    ·rename_i x hx;have h1 := iI hqo.1 hx;have h2 := jZ hqo.1 hx;have := ih h2 h;exact ⟨this.1, by omega⟩
   ·split at h
    ·cases h
    ·rename_i y hy;cases h
     have h1 := aE1 hqo.1 hy;exact ⟨tU hqo.1 hy, by simp only []; omega⟩
theorem kR {s : aO} {st : St} {ff : aO → Int} {r : List aO × St} (hok : Ok s st) (h : list s st ff = .ok r) : Ok s r.2 ∧ mu s r.2 < mu s st := by
 unfold list at h;split at h
 ·cases h
 ·rename_i q hq;obtain ⟨_, hq2, _⟩ := sF hok.1 hq;have hqo := sG hok hq;split at h
  ·cases h
  ·rename_i x hx;have h1 := iI hqo.1 hx;have h2 := jZ hqo.1 hx;split at h
   ·have := aJG h2 h; exact ⟨this.1, by omega⟩
   ·cases h; exact ⟨h2, by simp only []; omega⟩
inductive Tree where
 | const (b : Bool)
 | not_ (t : Tree)
 | many (all : Bool) (l : Tree)
 | mat (tag : Int) (octet : Bool) (op : Int) (a b : List aO)
 | exi (a : List aO)
 | siz (tag n : Int)
 | tnil
 | tcons (t l : Tree)
 | plain (op : Int)
 | act (kind : Int) (arg : aO) (at_ : Int)
 | set_ (name value : aO) (tag : Int)
 | iff (bs : Tree)
 | cnil
 | ccons (c l : Tree)
 | bnil
 | bcons (t body l : Tree)
 | belse (body l : Tree)
def wf : Tree → Nat → Bool
 | .const _, k => k == 0
 | .not_ t, k => k == 0 && wf t 0
 | .many _ l, k => k == 0 && wf l 1
 | .mat _ _ _ _ _, k => k == 0
 | .exi _, k => k == 0
 | .siz _ _, k => k == 0
 | .tnil, k => k == 1
 | .tcons t l, k => k == 1 && (wf t 0 && wf l 1)
 | .plain _, k => k == 2
 | .act _ _ _, k => k == 2
 | .set_ _ _ _, k => k == 2
 | .iff bs, k => k == 2 && wf bs 4
 | .cnil, k => k == 3
 | .ccons c l, k => k == 3 && (wf c 2 && wf l 3)
 | .bnil, k => k == 4
 | .bcons t b l, k => k == 4 && (wf t 0 && (wf b 3 && wf l 4))
 | .belse b l, k => k == 4 && (wf b 3 && wf l 4)
def Tree.snocT : Tree → Tree → Tree
 | .tcons t l, x => .tcons t (l.snocT x)
 | _, x => .tcons x .tnil
def Tree.snocC : Tree → Tree → Tree
 | .ccons t l, x => .ccons t (l.snocC x)
 | _, x => .ccons x .cnil
def mkB (t : Option Tree) (body l : Tree) : Tree := match t with
 | some t => .bcons t body l
 | none => .belse body l
def Tree.snocB : Tree → Option Tree → Tree → Tree
 | .bcons t b l, x, y => .bcons t b (l.snocB x y)
 | .belse b l, x, y => .belse b (l.snocB x y)
 | _, x, y => mkB x y .bnil
def txIs : aO := [105, 115]
def wB : aO := [99, 111, 110, 116, 97, 105, 110, 115]
def xX : aO := [109, 97, 116, 99, 104, 101, 115]
def rX : aO := [99, 111, 109, 112, 97, 114, 97, 116, 111, 114]
def eU : aO := [105, 59, 111, 99, 116, 101, 116]
def fW : aO := [105, 59, 97, 115, 99, 105, 105, 45, 99, 97, 115, 101, 109, 97, 112]
def gX : aO := [101, 110, 118, 101, 108, 111, 112, 101]
def aD0 : aO := [111, 118, 101, 114]
def pV : aO := [117, 110, 100, 101, 114]
def dF : List aO := [txIs, wB, xX, rX]
structure How where
 cmp : Bool
 tag : Int
 oct : Bool
def eL (s : aO) : Nat → How → St → Res (How × St)
 | 0, _, _ => .error (0, 0)
 | f + 1, h, st =>
  if st.2.kind = 2 then
   if cN dF st.2.s = -1 then .error (4, st.2.at_)
   else if (cN dF st.2.s = 3 ∧ h.cmp = true) ∨ (cN dF st.2.s < 3 ∧ h.tag ≠ 0) then .error (7, st.2.at_)
   else if cN dF st.2.s < 3 then
    match next s st.1 with
    | .error e => .error e
    | .ok r => eL s f ⟨h.cmp, 1 + cN dF st.2.s, h.oct⟩ r
   else
    match next s st.1 with
    | .error e => .error e
    | .ok r =>
     match text s r (oneOf 7 [eU, fW]) with
     | .error e => .error e
     | .ok x => eL s f ⟨true, h.tag, decide (x.1 = eU)⟩ x.2
  else .ok (h, st)
def lZ (op : Int) : aO → Int := if op = 7 then fun x => oneOf 7 [[102, 114, 111, 109], [116, 111]] (dH x) else fun _ => 0
def lV (s : aO) (op : Int) (h : Res (How × St)) : Res (Tree × St) :=
 match h with
 | .error e => .error e
 | .ok h =>
  match list s h.2 (lZ op) with
  | .error e => .error e
  | .ok a =>
   match list s a.2 (fun _ => 0) with
   | .error e => .error e
   | .ok b => .ok (.mat (if 1 > h.1.tag then 1 else h.1.tag) h.1.oct op a.1 b.1, b.2)
def jD (s : aO) (needs : List aO) (op : Int) (ext : aO) (st : St) : Res (Tree × St) :=
 if ext ≠ [] ∧ ext ∉ needs then .error (6, st.2.at_)
 else match next s st.1 with
  | .error e => .error e
  | .ok r => lV s op (eL s (mu s r + 1) ⟨false, 0, false⟩ r)
def jY (s : aO) (c : Tree) (st : St) : Res (Tree × St) :=
 match next s st.1 with
 | .error e => .error e
 | .ok r =>
  match sign s r [59] with
  | .error e => .error e
  | .ok q => .ok (c, q)
def actC (s : aO) (needs : List aO) (kind : Int) (ext : aO) (at_ : Int) (st : St) : Res (Tree × St) :=
 if ext ≠ [] ∧ ext ∉ needs then .error (6, st.2.at_)
 else match next s st.1 with
  | .error e => .error e
  | .ok r =>
   match take s r 3 [] with
   | .error e => .error e
   | .ok x =>
    match sign s x.2 [59] with
    | .error e => .error e
    | .ok q => .ok (.act kind x.1.s at_, q)
def lB (s : aO) (b : Bool) (st : St) : Res (Tree × St) :=
 match next s st.1 with
 | .error e => .error e
 | .ok r => .ok (.const b, r)
def lD (s : aO) (st : St) : Res (Tree × St) :=
 match next s st.1 with
 | .error e => .error e
 | .ok r =>
  match list s r (fun _ => 0) with
  | .error e => .error e
  | .ok a => .ok (.exi a.1, a.2)
def n5 (s : aO) (st : St) : Res (Tree × St) :=
 match next s st.1 with
 | .error e => .error e
 | .ok r =>
  match take s r 2 [aD0, pV] with
  | .error e => .error e
  | .ok x =>
   match take s x.2 4 [] with
   | .error e => .error e
   | .ok y => .ok (.siz (if x.1.s = pV then 2 else 1) y.1.n, y.2)
def notC (s : aO) (T : St → Res (Tree × St)) (st : St) : Res (Tree × St) :=
 match next s st.1 with
 | .error e => .error e
 | .ok r =>
  match T r with
  | .error e => .error e
  | .ok t => .ok (.not_ t.1, t.2)
def n4 (s : aO) (T : St → Res (Tree × St)) : Nat → Tree → St → Res (Tree × St)
 | 0, _, _ => .error (0, 0)
 | f + 1, acc, st =>
  match eat s st [44] with
  | .error e => .error e
  | .ok r =>
   if r.1 = true then
    match T r.2 with
    | .error e => .error e
    | .ok t => n4 s T f (acc.snocT t.1) t.2
   else
    match sign s r.2 [41] with
    | .error e => .error e
    | .ok q => .ok (acc, q)
def rM (all : Bool) (l : Res (Tree × St)) : Res (Tree × St) :=
 match l with
 | .error e => .error e
 | .ok l => .ok (.many all l.1, l.2)
def mH (s : aO) (T : St → Res (Tree × St)) (all : Bool) (st : St) : Res (Tree × St) :=
 match next s st.1 with
 | .error e => .error e
 | .ok r =>
  match sign s r [40] with
  | .error e => .error e
  | .ok q =>
   match T q with
   | .error e => .error e
   | .ok t =>
    rM all (n4 s T (mu s t.2 + 1) (.tcons t.1 .tnil) t.2)
def zW : aO := [116, 114, 117, 101]
def t8 : aO := [102, 97, 108, 115, 101]
def aFB : aO := [110, 111, 116]
def tZ : aO := [97, 108, 108, 111, 102]
def t6 : aO := [97, 110, 121, 111, 102]
def rZ : aO := [104, 101, 97, 100, 101, 114]
def r6 : aO := [115, 116, 114, 105, 110, 103]
def rY : aO := [101, 120, 105, 115, 116, 115]
def zV : aO := [115, 105, 122, 101]
def qB (s : aO) (needs : List aO) (T : St → Res (Tree × St)) (st : St) : Option (Res (Tree × St)) :=
 let w := st.2.s
 if w = zW then some (lB s true st)
 else if w = t8 then some (lB s false st)
 else if w = aFB then some (notC s T st)
 else if w = tZ then some (mH s T true st)
 else if w = t6 then some (mH s T false st)
 else if w = rZ then some (jD s needs 6 [] st)
 else if w = gX then some (jD s needs 7 gX st)
 else if w = r6 then some (jD s needs 8 dP st)
 else if w = rY then some (lD s st)
 else if w = zV then some (n5 s st)
 else none
def test (s : aO) (needs : List aO) : Nat → St → Res (Tree × St)
 | 0, st => if st.2.kind = 1 then .error (5, st.2.at_) else .error (4, st.2.at_)
 | n + 1, st =>
  if st.2.kind = 1 then
   match qB s needs (test s needs n) st with
   | some r => r
   | none => .error (4, st.2.at_)
  else .error (4, st.2.at_)
def n3 (s : aO) (B : St → Res (Tree × St)) (st : St) : Res (Tree × St) :=
 match sign s st [123] with
 | .error e => .error e
 | .ok q =>
  match B q with
  | .error e => .error e
  | .ok b =>
   match sign s b.2 [125] with
   | .error e => .error e
   | .ok r => .ok (b.1, r)
def t7 : aO := [101, 108, 115, 105, 102]
def qX : aO := [101, 108, 115, 101]
def gZ (s : aO) (B : St → Res (Tree × St)) (acc : Tree) (st : St) : Res (Tree × St) :=
 if st.2.kind = 1 ∧ st.2.s = qX then
  match next s st.1 with
  | .error e => .error e
  | .ok r =>
   match n3 s B r with
   | .error e => .error e
   | .ok b => .ok (.iff (acc.snocB none b.1), b.2)
 else .ok (.iff acc, st)
def e6 (s : aO) (T B : St → Res (Tree × St)) : Nat → Tree → St → Res (Tree × St)
 | 0, _, _ => .error (0, 0)
 | f + 1, acc, st =>
  if st.2.kind = 1 ∧ st.2.s = t7 then
   match next s st.1 with
   | .error e => .error e
   | .ok r =>
    match T r with
    | .error e => .error e
    | .ok t =>
     match n3 s B t.2 with
     | .error e => .error e
     | .ok b => e6 s T B f (acc.snocB (some t.1) b.1) b.2
  else gZ s B acc st
def ifC (s : aO) (T B : St → Res (Tree × St)) (st : St) : Res (Tree × St) :=
 match next s st.1 with
 | .error e => .error e
 | .ok r =>
  match T r with
  | .error e => .error e
  | .ok t =>
   match n3 s B t.2 with
   | .error e => .error e
   | .ok b => e6 s T B (mu s b.2 + 1) (.bcons t.1 b.1 .bnil) b.2
def aDZ : aO := [107, 101, 101, 112]
def sZ : aO := [100, 105, 115, 99, 97, 114, 100]
def aD1 : aO := [115, 116, 111, 112]
def iO : aO := [102, 105, 108, 101, 105, 110, 116, 111]
def qY : aO := [114, 101, 100, 105, 114, 101, 99, 116]
def kZ : aO := [114, 101, 106, 101, 99, 116]
def aK2 : aO := [115, 101, 116]
def txIf : aO := [105, 102]
def vR (s : aO) (needs : List aO) (st : St) : Res (Tree × St) :=
 match setC s needs st with
 | .error e => .error e
 | .ok r => .ok (.set_ r.1.name r.1.value r.1.tag, r.2)
def cmdD (s : aO) (needs : List aO) (T B : St → Res (Tree × St)) (st : St) : Option (Res (Tree × St)) :=
 let w := st.2.s
 if w = aDZ then some (jY s (.act 1 [] st.2.at_) st)
 else if w = sZ then some (jY s (.plain 13) st)
 else if w = aD1 then some (jY s (.plain 14) st)
 else if w = iO then some (actC s needs 2 iO st.2.at_ st)
 else if w = qY then some (actC s needs 3 [] st.2.at_ st)
 else if w = kZ then some (actC s needs 4 kZ st.2.at_ st)
 else if w = aK2 then some (vR s needs st)
 else if w = txIf then some (ifC s T B st)
 else none
def jB (s : aO) (C : St → Option (Res (Tree × St))) : Nat → Tree → St → Res (Tree × St)
 | 0, _, _ => .error (0, 0)
 | f + 1, acc, st =>
  if st.2.kind = 1 then
   match C st with
   | none => .error (4, st.2.at_)
   | some (.error e) => .error e
   | some (.ok c) => jB s C f (acc.snocC c.1) c.2
  else .ok (acc, st)
def block (s : aO) (needs : List aO) : Nat → St → Res (Tree × St)
 | 0, st => if st.2.kind = 1 then .error (5, st.2.at_) else .ok (.cnil, st)
 | n + 1, st => jB s (cmdD s needs (test s needs n) (block s needs n)) (mu s st + 1) .cnil st
end Go.Syn
end
section
namespace Go.Syn
open Go Go.SL
def u0 : Cell := ⟨.nilIface, rfl⟩
def Rep (K : Hl) : Tree → List (Cell × Cell) → Prop
 | .const b, us => us = [(⟨.iface 289 (.bool b), rfl⟩, u0)]
 | .not_ t, us => ∃ v, Rep K t [(v, u0)] ∧ us = [(⟨.iface 293 (.agg #[v.1]), rfl⟩, u0)]
 | .many all l, us => ∃ xs sv, Rep K l xs ∧ Ksl (eJ 288) K sv (xs.map (·.1)) ∧ us = [(⟨.iface 376 (.agg #[.bool all, sv]), rfl⟩, u0)]
 | .mat tag oct op a b, us => ∃ va vb, Ksl (bE 9) K va a ∧ Ksl (bE 9) K vb b ∧ us = [(⟨.iface 380 (.agg #[i64 tag, .bool oct, i64 op, va, vb]), rfl⟩, u0)]
 | .exi a, us => ∃ va, Ksl (bE 9) K va a ∧ us = [(⟨.iface 297 (.agg #[va]), rfl⟩, u0)]
 | .siz tag n, us => us = [(⟨.iface 300 (.agg #[i64 tag, i64 n]), rfl⟩, u0)]
 | .tnil, us => us = []
 | .tcons t l, us => ∃ v xs, Rep K t [(v, u0)] ∧ Rep K l xs ∧ us = (v, u0) :: xs
 | .plain op, us => us = [(⟨.iface 285 (.agg #[i64 op]), rfl⟩, u0)]
 | .act k a p, us => us = [(⟨.iface 282 (.agg #[i64 k, str a, i64 p]), rfl⟩, u0)]
 | .set_ n v t, us => us = [(⟨.iface 308 (.agg #[str n, str v, i64 t]), rfl⟩, u0)]
 | .iff bs, us => ∃ xs sv, Rep K bs xs ∧ Ksl (gU 371) K sv xs ∧ us = [(⟨.iface 311 (.agg #[sv]), rfl⟩, u0)]
 | .cnil, us => us = []
 | .ccons t l, us => ∃ v xs, Rep K t [(v, u0)] ∧ Rep K l xs ∧ us = (v, u0) :: xs
 | .bnil, us => us = []
 | .bcons t b l, us => ∃ v ys sv xs, Rep K t [(v, u0)] ∧ (∃ ty u, v.1 = .iface ty u) ∧ Rep K b ys ∧ Ksl (eJ 224) K sv.1 (ys.map (·.1)) ∧ Rep K l xs ∧ us = (v, sv) :: xs
 | .belse b l, us => ∃ ys sv xs, Rep K b ys ∧ Ksl (eJ 224) K sv.1 (ys.map (·.1)) ∧ Rep K l xs ∧ us = (⟨.nilIface, rfl⟩, sv) :: xs
theorem Rep.mono {K K' : Hl} (le : K.le K') : ∀ {t : Tree} {us : List (Cell × Cell)}, Rep K t us → Rep K' t us := by
 intro t;induction t with
 | const b => intro us h; exact h
 | not_ t ih => rintro us ⟨v, h, e⟩; exact ⟨v, ih h, e⟩
 | many all l ih => rintro us ⟨xs, sv, h1, h2, e⟩; exact ⟨xs, sv, ih h1, h2.mono le, e⟩
 | mat tag oct op a b => rintro us ⟨va, vb, h1, h2, e⟩; exact ⟨va, vb, h1.mono le, h2.mono le, e⟩
 | exi a => rintro us ⟨va, h1, e⟩; exact ⟨va, h1.mono le, e⟩
 | siz tag n => intro us h; exact h
 | tnil => intro us h; exact h
 | tcons t l ih1 ih2 => rintro us ⟨v, xs, h1, h2, e⟩; exact ⟨v, xs, ih1 h1, ih2 h2, e⟩
 | plain op => intro us h; exact h
 | act k a p => intro us h; exact h
 | set_ n v t => intro us h; exact h
 | iff bs ih => rintro us ⟨xs, sv, h1, h2, e⟩; exact ⟨xs, sv, ih h1, h2.mono le, e⟩
 | cnil => intro us h; exact h
 | ccons t l ih1 ih2 => rintro us ⟨v, xs, h1, h2, e⟩; exact ⟨v, xs, ih1 h1, ih2 h2, e⟩
 | bnil => intro us h; exact h
 | bcons t b l ih1 ih2 ih3 => rintro us ⟨v, ys, sv, xs, h1, h2, h3, h4, h5, e⟩; exact ⟨v, ys, sv, xs, ih1 h1, h2, ih2 h3, h4.mono le, ih3 h5, e⟩
 | belse b l ih1 ih2 => rintro us ⟨ys, sv, xs, h1, h2, h3, e⟩; exact ⟨ys, sv, xs, ih1 h1, h2.mono le, ih2 h3, e⟩
def Rep1 (K : Hl) (t : Tree) (v : Value) : Prop := ∃ ty u, v = .iface ty u ∧ Rep K t [(⟨.iface ty u, rfl⟩, u0)]
theorem Rep1.mono {K K' : Hl} {t : Tree} {v : Value} (h : Rep1 K t v) (le : K.le K') : Rep1 K' t v := let ⟨a, b, e, r⟩ := h; ⟨a, b, e, r.mono le⟩
def isTL : Tree → Bool
 | .tnil => true
 | .tcons _ l => isTL l
 | _ => false
def isCL : Tree → Bool
 | .cnil => true
 | .ccons _ l => isCL l
 | _ => false
def isBL : Tree → Bool
 | .bnil => true
 | .bcons _ _ l => isBL l
 | .belse _ l => isBL l
 | _ => false
theorem aGZ {K : Hl} {t : Tree} {v : Cell} (ht : Rep K t [(v, u0)]) : ∀ {l : Tree} {us : List (Cell × Cell)}, isTL l = true → Rep K l us → Rep K (l.snocT t) (us ++ [(v, u0)]) ∧ isTL (l.snocT t) = true := by
 intro l;induction l with
 | tnil => intro us _ h; cases (show us = [] from h); exact ⟨⟨v, [], ht, rfl, rfl⟩, rfl⟩
 | tcons x l ih1 ih2 =>
  rintro us hl ⟨w, xs, h1, h2, rfl⟩;obtain ⟨h3, h4⟩ := ih2 hl h2;exact ⟨⟨w, _, h1, h3, rfl⟩, h4⟩
 | _ => intro us hl; cases hl
theorem aGY {K : Hl} {t : Tree} {v : Cell} (ht : Rep K t [(v, u0)]) : ∀ {l : Tree} {us : List (Cell × Cell)}, isCL l = true → Rep K l us → Rep K (l.snocC t) (us ++ [(v, u0)]) ∧ isCL (l.snocC t) = true := by
 intro l;induction l with
 | cnil => intro us _ h; cases (show us = [] from h); exact ⟨⟨v, [], ht, rfl, rfl⟩, rfl⟩
 | ccons x l ih1 ih2 =>
  rintro us hl ⟨w, xs, h1, h2, rfl⟩;obtain ⟨h3, h4⟩ := ih2 hl h2;exact ⟨⟨w, _, h1, h3, rfl⟩, h4⟩
 | _ => intro us hl; cases hl
def RepO (K : Hl) : Option Tree → Cell → Prop
 | none, v => v = ⟨.nilIface, rfl⟩
 | some t, v => Rep K t [(v, u0)] ∧ ∃ ty u, v.1 = .iface ty u
theorem aL8 {K : Hl} {o : Option Tree} {b l : Tree} {v sv : Cell} {ys xs : List (Cell × Cell)} (ho : RepO K o v) (hb : Rep K b ys) (hs : Ksl (eJ 224) K sv.1 (ys.map (·.1))) (hl : Rep K l xs) : Rep K (mkB o b l) ((v, sv) :: xs) := by
 cases o with
 | none => cases (show v = _ from ho); exact ⟨ys, sv, xs, hb, hs, hl, rfl⟩
 | some t => exact ⟨v, ys, sv, xs, ho.1, ho.2, hb, hs, hl, rfl⟩
theorem kK {K : Hl} {o : Option Tree} {b : Tree} {v sv : Cell} {ys : List (Cell × Cell)} (ho : RepO K o v) (hb : Rep K b ys) (hs : Ksl (eJ 224) K sv.1 (ys.map (·.1))) :
  ∀ {l : Tree} {us : List (Cell × Cell)}, isBL l = true → Rep K l us → Rep K (l.snocB o b) (us ++ [(v, sv)]) ∧ isBL (l.snocB o b) = true := by
 intro l;induction l with
 | bnil => intro us _ h; cases (show us = [] from h); exact ⟨aL8 ho hb hs rfl, by cases o <;> rfl⟩
 | bcons x y l ih1 ih2 ih3 =>
  rintro us hl ⟨w, zs, tv, xs, h1, h2, h3, h4, h5, rfl⟩;obtain ⟨h6, h7⟩ := ih3 hl h5;exact ⟨⟨w, zs, tv, _, h1, h2, h3, h4, h6, rfl⟩, h7⟩
 | belse y l ih1 ih2 =>
  rintro us hl ⟨zs, tv, xs, h1, h2, h3, rfl⟩;obtain ⟨h6, h7⟩ := ih2 hl h3;exact ⟨⟨zs, tv, _, h1, h2, h6, rfl⟩, h7⟩
 | _ => intro us hl; cases hl
theorem sN {K : Hl} {t : Tree} {c d : Cell} (hw : wf t 0 = true ∨ wf t 2 = true) (h : Rep K t [(c, d)]) : ∃ ty u, c.1 = .iface ty u := by
 cases t <;> simp only [wf, Rep] at h hw
 case const b => cases h; exact ⟨_, _, rfl⟩
 case not_ t => obtain ⟨v, _, h⟩ := h; cases h; exact ⟨_, _, rfl⟩
 case many all l => obtain ⟨xs, sv, _, _, h⟩ := h; cases h; exact ⟨_, _, rfl⟩
 case mat tag oct op a b => obtain ⟨va, vb, _, _, h⟩ := h; cases h; exact ⟨_, _, rfl⟩
 case exi a => obtain ⟨va, _, h⟩ := h; cases h; exact ⟨_, _, rfl⟩
 case siz tag n => cases h; exact ⟨_, _, rfl⟩
 case plain op => cases h; exact ⟨_, _, rfl⟩
 case act k a p => cases h; exact ⟨_, _, rfl⟩
 case set_ n v t => cases h; exact ⟨_, _, rfl⟩
 case iff bs => obtain ⟨xs, sv, _, _, h⟩ := h; cases h; exact ⟨_, _, rfl⟩
 all_goals simp at hw
end Go.Syn
end
section
namespace Go.Cmp
open Go.Syn Go.Mach
def jmp (op : Int) : Ins := ⟨op, 0, 0, false, [], [], 0⟩
def setN (ops : List Ins) (k : Nat) (n : Int) : List Ins := ops.modify k fun o => { o with n := n }
def land (ops : List Ins) (ps : List Nat) : List Ins := ps.foldl (fun o k => setN o k ((ops.length : Int) - 1 - k)) ops
def fZ : Tree → Bool
 | .tcons _ _ => false
 | .bcons _ _ _ => false
 | .belse _ _ => false
 | _ => true
mutual
def unl : Tree → Bool → List Ins → List Ins × List Nat
 | .not_ t, tn, ops => unl t (!tn) ops
 | .const b, tn, ops => if b = tn then (ops ++ [jmp 3], [ops.length]) else (ops, [])
 | .many all l, tn, ops => (land (unlL all tn l ops [] []).1 (unlL all tn l ops [] []).2.2, (unlL all tn l ops [] []).2.1)
 | .mat tag oct op a b, tn, ops => (ops ++ [⟨op, 0, tag, oct, a, b, 0⟩, jmp (if tn = true then 4 else 5)], [ops.length + 1])
 | .exi a, tn, ops => (ops ++ [⟨9, 0, 0, false, a, [], 0⟩, jmp (if tn = true then 4 else 5)], [ops.length + 1])
 | .siz tag n, tn, ops => (ops ++ [⟨10, n, tag, false, [], [], 0⟩, jmp (if tn = true then 4 else 5)], [ops.length + 1])
 | _, _, ops => (ops, [])
def unlL (all tn : Bool) : Tree → List Ins → List Nat → List Nat → List Ins × List Nat × List Nat
 | .tcons t l, ops, away, here =>
  if all = tn ∧ fZ l = false then unlL all tn l (unl t (!tn) ops).1 away (here ++ (unl t (!tn) ops).2)
  else unlL all tn l (unl t tn ops).1 (away ++ (unl t tn ops).2) here
 | _, ops, away, here => (ops, away, here)
end
mutual
def body : Tree → List Ins → List Ins
 | .ccons c l, ops => body l (cmdI c ops)
 | _, ops => ops
def cmdI : Tree → List Ins → List Ins
 | .plain op, ops => ops ++ [jmp op]
 | .act k a p, ops => ops ++ [⟨11, 0, k, false, if k = 1 then [] else [a], [], p⟩]
 | .set_ n v t, ops => ops ++ [⟨12, 0, t, false, [n], [v], 0⟩]
 | .iff bs, ops => cY bs ops []
 | _, ops => ops
def cY : Tree → List Ins → List Nat → List Ins
 | .belse b l, ops, out => land (body b ops) out
 | .bcons t b l, ops, out =>
  if fZ l = true then cY l (land (body b (unl t false ops).1) (unl t false ops).2) out
  else cY l (land (body b (unl t false ops).1 ++ [jmp 3]) (unl t false ops).2) (out ++ [(body b (unl t false ops).1).length])
 | _, ops, out => land ops out
end
def script (t : Tree) : List Ins := body t []
theorem aBW (ops : List Ins) (k : Nat) (n : Int) : (setN ops k n).length = ops.length := by simp [setN]
theorem zA (n : Int) : ∀ (ps : List Nat) (o : List Ins), (ps.foldl (fun o k => setN o k (n - 1 - k)) o).length = o.length := by
 intro ps;induction ps with
 | nil => intro o; rfl
 | cons k ps ih => intro o; rw [List.foldl_cons, ih, aBW]
theorem fT (ops : List Ins) (ps : List Nat) : (land ops ps).length = ops.length := zA _ ps ops
def cnt : Tree → Nat
 | .const _ => 1
 | .not_ t => cnt t + 1
 | .many _ l => cnt l + 1
 | .mat _ _ _ _ _ => 1
 | .exi _ => 1
 | .siz _ _ => 1
 | .tnil => 0
 | .tcons t l => cnt t + cnt l
 | .plain _ => 1
 | .act _ _ _ => 1
 | .set_ _ _ _ => 1
 | .iff bs => cnt bs + 1
 | .cnil => 0
 | .ccons c l => cnt c + cnt l
 | .bnil => 0
 | .bcons t b l => cnt t + cnt b + cnt l + 1
 | .belse b l => cnt b + cnt l + 1
theorem uA : ∀ (t : Tree), (∀ tn ops, ops.length ≤ (unl t tn ops).1.length ∧ (unl t tn ops).1.length ≤ ops.length + 2 * cnt t ∧ (unl t tn ops).2.length ≤ cnt t ∧ ∀ k ∈ (unl t tn ops).2, k < (unl t tn ops).1.length) ∧
  (∀ all tn ops away here, (∀ k ∈ away, k < ops.length) → (∀ k ∈ here, k < ops.length) → ops.length ≤ (unlL all tn t ops away here).1.length ∧ (unlL all tn t ops away here).1.length ≤ ops.length + 2 * cnt t ∧ (unlL all tn t ops away here).2.1.length ≤ away.length + cnt t ∧ (unlL all tn t ops away here).2.2.length ≤ here.length + cnt t ∧ (∀ k ∈ (unlL all tn t ops away here).2.1, k < (unlL all tn t ops away here).1.length) ∧ (∀ k ∈ (unlL all tn t ops away here).2.2, k < (unlL all tn t ops away here).1.length)) := by
 intro t;induction t with
 | const b =>
  refine ⟨fun tn ops => ?_, fun all tn ops away here h1 h2 => ?_⟩
  ·simp only [unl, cnt]; split <;> simp
  ·simp only [unlL]; exact ⟨Nat.le_refl _, by simp, by simp, by simp, h1, h2⟩
 | not_ t ih =>
  refine ⟨fun tn ops => ?_, fun all tn ops away here h1 h2 => ?_⟩
  ·have := ih.1 (!tn) ops;simp only [unl, cnt]; exact ⟨this.1, by omega, by omega, this.2.2.2⟩
  ·simp only [unlL]; exact ⟨Nat.le_refl _, by simp, by simp, by simp, h1, h2⟩
 | many all l ih =>
  refine ⟨fun tn ops => ?_, fun all tn ops away here h1 h2 => ?_⟩
  ·have := ih.2 all tn ops [] [] (by simp) (by simp);simp only [unl, cnt, fT]; simp only [List.length_nil] at this; exact ⟨this.1, by omega, by omega, this.2.2.2.2.1⟩
  ·simp only [unlL]; exact ⟨Nat.le_refl _, by simp, by simp, by simp, h1, h2⟩
 | mat tag oct op a b =>
  refine ⟨fun tn ops => ?_, fun all tn ops away here h1 h2 => ?_⟩
  ·simp [unl, cnt]
  ·simp only [unlL]; exact ⟨Nat.le_refl _, by simp, by simp, by simp, h1, h2⟩
 | exi a =>
  refine ⟨fun tn ops => ?_, fun all tn ops away here h1 h2 => ?_⟩
  ·simp [unl, cnt]
  ·simp only [unlL]; exact ⟨Nat.le_refl _, by simp, by simp, by simp, h1, h2⟩
 | siz tag n =>
  refine ⟨fun tn ops => ?_, fun all tn ops away here h1 h2 => ?_⟩
  ·simp [unl, cnt]
  ·simp only [unlL]; exact ⟨Nat.le_refl _, by simp, by simp, by simp, h1, h2⟩
 | tcons t l ih1 ih2 =>
  refine ⟨fun tn ops => ?_, fun all tn ops away here h1 h2 => ?_⟩
  ·simp [unl]
  ·simp only [unlL, cnt];split
   ·have h3 := ih1.1 (!tn) ops;have h4 := ih2.2 all tn (unl t (!tn) ops).1 away (here ++ (unl t (!tn) ops).2) (fun k hk => by have := h1 k hk; omega) (fun k hk => by
     rcases List.mem_append.1 hk with h | h
     ·have := h2 k h; omega
     ·exact h3.2.2.2 k h)
    simp only [List.length_append] at h4;exact ⟨by omega, by omega, by omega, by omega, h4.2.2.2.2.1, h4.2.2.2.2.2⟩
   ·have h3 := ih1.1 tn ops;have h4 := ih2.2 all tn (unl t tn ops).1 (away ++ (unl t tn ops).2) here (fun k hk => by
     rcases List.mem_append.1 hk with h | h
     ·have := h1 k h; omega
     ·exact h3.2.2.2 k h) (fun k hk => by have := h2 k hk; omega)
    simp only [List.length_append] at h4;exact ⟨by omega, by omega, by omega, by omega, h4.2.2.2.2.1, h4.2.2.2.2.2⟩
 | _ =>
  refine ⟨fun tn ops => ?_, fun all tn ops away here h1 h2 => ?_⟩
  ·simp [unl]
  ·simp only [unlL]; exact ⟨Nat.le_refl _, by simp, by simp, by simp, h1, h2⟩
theorem q9 : ∀ (t : Tree), (∀ ops, ops.length ≤ (body t ops).length ∧ (body t ops).length ≤ ops.length + 2 * cnt t) ∧ (∀ ops, ops.length ≤ (cmdI t ops).length ∧ (cmdI t ops).length ≤ ops.length + 2 * cnt t) ∧ (∀ ops out, ops.length ≤ (cY t ops out).length ∧ (cY t ops out).length ≤ ops.length + 2 * cnt t) := by
 intro t;induction t with
 | plain op => exact ⟨fun ops => by simp [body], fun ops => by simp [cmdI, cnt], fun ops out => by simp [cY, fT]⟩
 | act k a p => exact ⟨fun ops => by simp [body], fun ops => by simp [cmdI, cnt], fun ops out => by simp [cY, fT]⟩
 | set_ n v t => exact ⟨fun ops => by simp [body], fun ops => by simp [cmdI, cnt], fun ops out => by simp [cY, fT]⟩
 | iff bs ih => exact ⟨fun ops => by simp [body], fun ops => by have := ih.2.2 ops []; simp only [cmdI, cnt]; omega, fun ops out => by simp [cY, fT]⟩
 | ccons c l ih1 ih2 =>
  refine ⟨fun ops => ?_, fun ops => by simp [cmdI], fun ops out => by simp [cY, fT]⟩
  have h1 := ih1.2.1 ops;have h2 := ih2.1 (cmdI c ops);simp only [body, cnt]; omega
 | belse b l ih1 ih2 =>
  refine ⟨fun ops => by simp [body], fun ops => by simp [cmdI], fun ops out => ?_⟩
  have h1 := ih1.1 ops;simp only [cY, cnt, fT]; omega
 | bcons t b l ih1 ih2 ih3 =>
  refine ⟨fun ops => by simp [body], fun ops => by simp [cmdI], fun ops out => ?_⟩
  have h0 := (uA t).1 false ops;have h1 := ih2.1 (unl t false ops).1;simp only [cY, cnt];split
  ·have h2 := ih3.2.2 (land (body b (unl t false ops).1) (unl t false ops).2) out;rw [fT] at h2; omega
  ·have h2 := ih3.2.2 (land (body b (unl t false ops).1 ++ [jmp 3]) (unl t false ops).2) (out ++ [(body b (unl t false ops).1).length]);rw [fT] at h2; simp only [List.length_append, List.length_singleton] at h2; omega
 | _ => exact ⟨fun ops => by simp [body], fun ops => by simp [cmdI], fun ops out => by simp [cY, fT]⟩
end Go.Cmp
end
section
namespace Go.Cmp
open Go Go.SL Go.Syn Go.Mach
structure InsV where
 op : Int
 n : Int
 tag : Int
 oct : Bool
 a : Cell
 b : Cell
 at_ : Int
def nilC : Cell := ⟨.slice none 0 0, rfl⟩
def cW : El InsV := { e := 41, sz := 7, enc := fun v => [i64 v.op, i64 v.n, i64 v.tag, .bool v.oct, v.a.1, v.b.1, i64 v.at_], len := fun _ => rfl, one := fun v u h => by simp at h; rcases h with rfl | rfl | rfl | rfl | rfl | rfl | rfl; rfl; rfl; rfl; rfl; exact v.a.2; exact v.b.2; rfl }
def iG (e : TypeId) : El Nat := { e := e, sz := 1, enc := fun n => [i64 n], len := fun _ => rfl, one := fun _ u h => by simp at h; subst h; rfl }
def RIns (K : Hl) (v : InsV) (o : Ins) : Prop := v.op = o.op ∧ v.n = o.n ∧ v.tag = o.tag ∧ v.oct = o.oct ∧ v.at_ = o.at_ ∧ Ksl (bE 9) K v.a.1 o.a ∧ Ksl (bE 9) K v.b.1 o.b
def RIs (K : Hl) : List InsV → List Ins → Prop
 | [], [] => True
 | v :: vs, o :: os => RIns K v o ∧ RIs K vs os
 | _, _ => False
theorem RIns.mono {K K' : Hl} {v : InsV} {o : Ins} (h : RIns K v o) (le : K.le K') : RIns K' v o := ⟨h.1, h.2.1, h.2.2.1, h.2.2.2.1, h.2.2.2.2.1, h.2.2.2.2.2.1.mono le, h.2.2.2.2.2.2.mono le⟩
theorem RIs.mono {K K' : Hl} (le : K.le K') : ∀ {vs : List InsV} {os : List Ins}, RIs K vs os → RIs K' vs os
 | [], [], _ => trivial
 | _ :: _, _ :: _, h => ⟨h.1.mono le, RIs.mono le h.2⟩
theorem RIs.length {K : Hl} : ∀ {vs : List InsV} {os : List Ins}, RIs K vs os → vs.length = os.length
 | [], [], _ => rfl
 | _ :: _, _ :: _, h => by simp [RIs.length h.2]
theorem RIs.append {K : Hl} {ws : List InsV} {ps : List Ins} (h2 : RIs K ws ps) : ∀ {vs : List InsV} {os : List Ins}, RIs K vs os → RIs K (vs ++ ws) (os ++ ps)
 | [], [], _ => h2
 | _ :: _, _ :: _, h => ⟨h.1, RIs.append h2 h.2⟩
theorem RIs.get {K : Hl} : ∀ {vs : List InsV} {os : List Ins} {i : Nat} {v : InsV}, RIs K vs os → vs[i]? = some v → ∃ o, os[i]? = some o ∧ RIns K v o
 | _ :: _, o :: _, 0, _, h, e => by simp at e; subst e; exact ⟨o, rfl, h.1⟩
 | _ :: _, _ :: _, i + 1, _, h, e => by simpa using RIs.get h.2 (by simpa using e)
def lC (vs : List InsV) (k : Nat) (n : Int) : List InsV := vs.modify k fun o => { o with n := n }
def rL (vs : List InsV) (ps : List Nat) : List InsV := ps.foldl (fun o k => lC o k ((vs.length : Int) - 1 - k)) vs
theorem RIs.setN {K : Hl} {n : Int} : ∀ {vs : List InsV} {os : List Ins} {k : Nat}, RIs K vs os → RIs K (lC vs k n) (Cmp.setN os k n)
 | [], [], k, _ => by
  have e1 : lC [] k n = [] := List.eq_nil_of_length_eq_zero (by simp [lC]);have e2 : Cmp.setN [] k n = [] := List.eq_nil_of_length_eq_zero (by simp [Cmp.setN]);rw [e1, e2]; trivial
 | v :: vs, o :: os, 0, h => ⟨⟨h.1.1, rfl, h.1.2.2.1, h.1.2.2.2.1, h.1.2.2.2.2.1, h.1.2.2.2.2.2.1, h.1.2.2.2.2.2.2⟩, h.2⟩
 | v :: vs, o :: os, k + 1, h => ⟨h.1, RIs.setN (k := k) h.2⟩
theorem RIs.land {K : Hl} {vs : List InsV} {os : List Ins} {ps : List Nat} (h : RIs K vs os) : RIs K (rL vs ps) (Cmp.land os ps) := by
 unfold rL Cmp.land;rw [← h.length]
 generalize ((vs.length : Nat) : Int) = m
 revert vs os
 induction ps with
 | nil => intro vs os h; exact h
 | cons k ps ih => intro vs os h; exact ih h.setN
theorem zG (vs : List InsV) (k : Nat) (n : Int) : (lC vs k n).length = vs.length := by simp [lC]
theorem aDB {vs : List InsV} {ps : List Nat} {i p : Nat} {m : Int} (h : ps[i]? = some p) : (ps.take (i + 1)).foldl (fun o k => lC o k (m - 1 - k)) vs = lC ((ps.take i).foldl (fun o k => lC o k (m - 1 - k)) vs) p (m - 1 - p) := by
 have hi : i < ps.length := by
  rcases Nat.lt_or_ge i ps.length with h' | h'
  ·exact h'
  ·simp [List.getElem?_eq_none h'] at h
 have hc : ps[i] = p := by simpa [List.getElem?_eq_getElem hi] using h
 rw [List.take_succ_eq_append_getElem hi, hc];simp
theorem rH (m : Int) : ∀ (ps : List Nat) (o : List InsV), (ps.foldl (fun o k => lC o k (m - 1 - k)) o).length = o.length := by
 intro ps;induction ps with
 | nil => intro o; rfl
 | cons k ps ih => intro o; rw [List.foldl_cons, ih, zG]
theorem gD (vs : List InsV) (ps : List Nat) : (rL vs ps).length = vs.length := rH _ ps vs
theorem aHE {vs : List InsV} {k : Nat} {n : Int} {v : InsV} (h : vs[k]? = some v) : lC vs k n = vs.set k { v with n := n } := by
 unfold lC;have hi : k < vs.length := by
  rcases Nat.lt_or_ge k vs.length with h' | h'
  ·exact h'
  ·simp [List.getElem?_eq_none h'] at h
 have hc : vs[k] = v := by simpa [List.getElem?_eq_getElem hi] using h
 apply List.ext_getElem (by simp)
 intro i h1 h2;rw [List.getElem_modify, List.getElem_set];split
 ·rename_i e; subst e; rw [hc]
 ·rfl
def cdr (b : Nat) (vs : List InsV) : Asn := exA fun cv => [pt b (aU [cv] 217), sl false cW cv vs]
theorem zE {b : Nat} {vs : List InsV} {cv : Value} {M : List Asn} : ∀ h, Sat (pt b (aU [cv] 217) :: sl false cW cv vs :: M) h → Sat (cdr b vs :: M) h := fun h hh => pL.2 ⟨cv, hh⟩
end Go.Cmp
end
section
namespace Go.Mach
open Go Go.SL Go.Syn
def gG : List (aO × aO) → (Nat → Nat) → List Ent
 | [], _ => []
 | (k, v) :: r, f => (k, .agg #[str v], f 0) :: gG r (fun n => f (n + 1))
theorem aH5 (k : aO) : ∀ (vars : List (aO × aO)) (f : Nat → Nat), (mget (gG vars f) k).getD (.agg #[str []]) = .agg #[str (vget vars k)] := by
 intro vars;induction vars with
 | nil => intro f; rfl
 | cons p r ih =>
  obtain ⟨j, v⟩ := p;intro f;unfold gG vget mget;rw [List.find?_cons]
  by_cases h : k = j
  ·subst h; simp
  ·rw [if_neg (fun e => h e.symm), decide_eq_false h];exact ih _
theorem aH6 (k v : aO) (c : Nat) : ∀ (vars : List (aO × aO)) (f : Nat → Nat), ∃ f', mset k (.agg #[str v]) c (gG vars f) = gG (vput vars k v) f' := by
 intro vars;induction vars with
 | nil => intro f; exact ⟨fun _ => c, rfl⟩
 | cons p r ih =>
  obtain ⟨j, u⟩ := p;intro f;unfold gG vput mset
  by_cases h : k = j
  ·subst h; rw [if_pos rfl, if_pos rfl]; exact ⟨f, rfl⟩
  ·rw [if_neg h, if_neg (fun e => h e.symm)];obtain ⟨f', hf⟩ := ih (fun n => f (n + 1));refine ⟨fun n => match n with | 0 => f 0 | n + 1 => f' n, ?_⟩
   rw [hf]
theorem y6 (s : aO) (c : UInt8) : -1 ≤ Lib.indexByte s c ∧ Lib.indexByte s c < s.length := by
 refine ⟨Lib.indexByte_ge s c, ?_⟩
 by_cases h : Lib.indexByte s c < 0
 ·omega
 ·have e : Lib.indexByte s c = ((Lib.indexByte s c).toNat : Nat) := by omega
  obtain ⟨h1, _⟩ := Lib.indexByte_some e;rcases Nat.lt_or_ge (Lib.indexByte s c).toNat s.length with h' | h'
  ·omega
  ·rw [List.getElem?_eq_none h'] at h1; cases h1
end Go.Mach
end
section
namespace Go.Proofs
open Go Go.SL Go.Syn
theorem oX (v : Value) (x : List UInt8) (xs : List (List UInt8)) (K : Hl) (L : List Asn) (hv : SeesSl (bE 9) K L v xs) (hn : xs.length ≤ 1000000) :
  Sp Tryz.prog 195 [v, str x] K L (Ret fun u K' L' => u = i64 (cN xs x) ∧ K' = K ∧ L' = L) := by
 refine bA Tryz.func195 rfl Tryz.ntmps195 rfl rfl fun F w => ?_
 refine aI (aB ?_);refine aA (aF rfl) rfl ?_;refine aG (aE ?_);refine aI (aI ?_);refine aB ?_;refine aA (aC rfl) rfl ?_;refine aA (bZ (k := bE 9) rfl Tryz.underlying39 rfl hv) rfl ?_;refine aA (aC rfl) rfl ?_;refine aG (aE ?_);refine bC ?_;refine dS (fun (i : Nat) => i ≤ xs.length ∧ ∀ j : Nat, j < i → xs[j]? ≠ some x) (fun i => [(0, v), (1, str x), (7, i64 xs.length), (8, i64 i)]) (fun _ => K) (fun _ => L) (fun i => xs.length - i) 0 ⟨Nat.zero_le _, fun j h => by omega⟩ (.cons 0 rfl (.cons 1 rfl (.cons 7 rfl (.cons 8 rfl .nil)))) rfl (fun _ h => h) ?_;intro i ⟨hi1, hi2⟩;refine aI (aB ?_);refine aA (cU rfl rfl) rfl ?_;refine aG (aE ?_);refine aI ?_;refine bH 9 rfl (fun h9 => ?_) (fun h9 => ?_)
 ·
  obtain ⟨y, hy⟩ : ∃ y, xs[i]? = some y := ⟨xs[i]'(by omega), List.getElem?_eq_getElem aH⟩;have hlen : i < xs.length := by omega
  refine aX ?_;refine aE (aI ?_);refine bC (aI ?_);refine aB ?_;refine aA (aC rfl) rfl ?_;refine aA (aF rfl) rfl ?_;refine aG (aE ?_);refine aI (aB ?_);refine aA (aC rfl) rfl ?_;refine aA (aC rfl) rfl ?_;refine aA (aC rfl) rfl ?_;refine aA (bU (k := bE 9) cQ rfl hv rfl rfl hlen) rfl ?_;refine aA (dQ (o := 0) (k := bE 9) ts9 rfl hv hy rfl) rfl ?_;refine aA (iV rfl rfl) rfl ?_;refine aG (aE ?_);refine bH 16 rfl (fun h16 => ?_) (fun h16 => ?_)
  ·
   refine aI (aB ?_);refine aA (aC rfl) rfl ?_;refine aA (aF rfl) rfl ?_;refine aG (aE ?_);refine bM ?_;refine bR ?_;refine bF ?_;refine bF ?_;refine bR ?_;refine bF ?_;refine bL rfl rfl (Hl.le_refl _) ?_;exact ⟨_, rfl, by rw [aG3 hi2 (h16 ▸ hy)], rfl, rfl⟩
  ·
   refine aX ?_;refine aM (aE ?_);refine aB ?_;refine aA (b0 rfl rfl aH aH) rfl ?_;refine aA (aC rfl) rfl ?_;refine aG ?_;refine cI (i + 1) ⟨by omega, ?_⟩ aH (.cons 0 rfl (.cons 1 rfl (.cons 7 rfl (.cons 8 rfl .nil)))) rfl (fun _ h => h)
   intro j hj e
   by_cases hji : j = i
   ·subst hji; rw [hy] at e; exact h16 (Option.some.inj e).symm
   ·exact hi2 j aH e
 ·
  refine cR ?_;refine aT ?_;refine aT ?_;refine bG ?_;refine aE (aI ?_);refine aB ?_;refine aA (aF rfl) rfl ?_;refine aG (aE ?_);refine bM ?_;refine bL rfl rfl (Hl.le_refl _) ?_;exact ⟨_, rfl, by rw [aG6 (fun j hj => hi2 j aH)], rfl, rfl⟩
theorem jX (v : Value) (x : List UInt8) (xs : List (List UInt8)) (K : Hl) (L : List Asn) (hv : SeesSl (bE 9) K L v xs) (hn : xs.length ≤ 1000000) :
  Sp Tryz.prog 108 [v, str x] K L (Ret fun u K' L' => u = .bool (decide (x ∈ xs)) ∧ K' = K ∧ L' = L) := by
 refine bA Tryz.func108 rfl Tryz.ntmps108 rfl rfl fun F w => ?_
 refine aI (aB ?_);refine aA (aF rfl) rfl ?_;refine aG (aE ?_);refine aI (aB ?_);refine aA (aC rfl) rfl ?_;refine aA (aC rfl) rfl ?_;refine bD rfl rfl (oX v x xs _ _ hv hn) (cT _) rfl ?_;rintro _ K _ ⟨rfl, rfl, rfl⟩ -;refine aA (gO rfl rfl) rfl ?_;refine aA (aF rfl) rfl ?_;refine aG (aE ?_);refine bM ?_;rw [List.append_nil];refine bL rfl rfl (Hl.le_refl _) ?_;exact ⟨_, rfl, by rw [decide_eq_decide.2 (aDO xs x)], rfl, rfl⟩
abbrev psb (b : Nat) (s : List UInt8) (st : St) (rest : List Value) : Asn := lxw b 208 s st.1 st.2 rest
theorem aAZ (b : Nat) (x : List UInt8) (xs : List (List UInt8)) (l : List Value) (T : TypeId) (nv : Value) (K : Hl) (L : List Asn) (hb : Sees K L b (aU l T)) (hl : l[6]? = some nv) (hv : SeesSl (bE 9) K L nv xs) (hn : xs.length ≤ 1000000) :
  Sp Tryz.prog 59 [ptr b 6, str x] K L (Ret fun u K' L' => u = .bool (decide (x ∈ xs)) ∧ K' = K ∧ L' = L) := by
 refine bA Tryz.func59 rfl Tryz.ntmps59 rfl rfl fun F w => ?_
 refine aI (aB ?_);refine aA (aF rfl) rfl ?_;refine aG (aE ?_);refine aI (aB ?_);refine aA (aC rfl) rfl ?_;refine aA bS rfl ?_;refine aA (aD (o' := 6) pN rfl rfl) rfl ?_;refine aA (aK ts39 rfl hb hl) rfl ?_;refine aA (aC rfl) rfl ?_;refine bD rfl rfl (jX nv x xs _ _ hv hn) (cT _) rfl ?_;rintro _ K _ ⟨rfl, rfl, rfl⟩ -;refine aA (aF rfl) rfl ?_;refine aG (aE ?_);refine bM ?_;rw [List.append_nil];refine bL rfl rfl (Hl.le_refl _) ?_;exact ⟨_, rfl, rfl, rfl, rfl⟩
theorem gE (b : Nat) (s : List UInt8) (st : St) (rest : List Value) (K : Hl) :
  Sp Tryz.prog 106 [ptr b] K [psb b s st rest] (Flt 4 st.2.at_) := by
 refine bA Tryz.func106 rfl Tryz.ntmps106 rfl rfl fun F w => ?_
 refine aB ?_;refine aA (aC rfl) rfl ?_;refine aA bS rfl ?_;refine aA (aD (o' := 0) bX rfl rfl) rfl ?_;refine aA (aD (o' := 2) cF rfl rfl) rfl ?_;refine aA (aD (o' := 5) fJ rfl rfl) rfl ?_;refine aA (aK ts3 rfl aL rfl) rfl ?_;refine aW rfl rfl (dY 4 st.2.at_ _) .nil rfl (by rintro _ _ ⟨_, h, _⟩; cases h) ?_ ?_
 ·
  rintro _ _ _ ⟨fb, h, rfl⟩ le1;cases h
  refine aN (.cons .here .nil) ?_;refine a8 bQ ?_;exact ⟨fb, rfl, rfl⟩
 ·
  rintro _ _ _ ⟨_, h, _⟩; cases h
theorem qS (b : Nat) (s : List UInt8) (st : St) (nv : Value) (rest : List Value) (needs : List (List UInt8)) (x : List UInt8) (K : Hl) (hv : Ksl (bE 9) K nv needs) (hn : needs.length ≤ 1000000) :
  Sp Tryz.prog 261 [ptr b, str x] K [psb b s st (nv :: rest)] (fD (if x ∈ needs then .ok () else .error (6, st.2.at_)) fun _ v K' L' => v = .tuple #[] ∧ K' = K ∧ L' = [psb b s st (nv :: rest)]) := by
 refine bA Tryz.func261 rfl Tryz.ntmps261 rfl rfl fun F w => ?_
 refine aI (aB ?_);refine aA (aC rfl) rfl ?_;refine aA bS rfl ?_;refine aA (aD (o' := 6) jP rfl rfl) rfl ?_;refine aA (aC rfl) rfl ?_;refine bD rfl rfl (aAZ b x needs _ _ nv _ _ (.own .here) rfl (.known hv) hn) (.cons .here .nil) rfl ?_;rintro _ K _ ⟨rfl, rfl, rfl⟩ -;refine aA (by first | exact dM rfl | exact dW rfl) rfl ?_;refine aG (aE ?_);refine bH 9 rfl (fun h9 => ?_) (fun h9 => ?_)
 ·
  refine aB ?_;refine aA (aC rfl) rfl ?_;refine aA bS rfl ?_;refine aA (aD (o' := 0) bX rfl rfl) rfl ?_;refine aA (aD (o' := 2) cF rfl rfl) rfl ?_;refine aA (aD (o' := 5) fJ rfl rfl) rfl ?_;refine aA (aK ts3 rfl aL rfl) rfl ?_;refine aW rfl rfl (dY 6 st.2.at_ _) .nil rfl (by rintro _ _ ⟨_, h, _⟩; cases h) ?_ ?_
  ·
   rintro _ _ _ ⟨fb, h, rfl⟩ le1;cases h
   refine aN (.cons .here .nil) ?_;refine a8 bQ ?_;rw [if_neg h9];exact ⟨fb, rfl, rfl⟩
  ·
   rintro _ _ _ ⟨_, h, _⟩; cases h
 ·
  refine aX ?_;refine dD rfl (Hl.le_refl _) ?_;rw [if_pos (Classical.not_not.1 h9)];exact ⟨_, rfl, rfl, rfl, rfl⟩
abbrev wagg (w : Word) : Value := .agg #[.int .u8 w.kind, str w.s, i64 w.n, i64 w.at_]
theorem xI {s : List UInt8} {st : St} {k : Nat} {texts : List (List UInt8)} (h : ¬ (st.2.kind : Int) = k) : take s st k texts = .error (4, st.2.at_) := by
 unfold take; rw [if_pos (.inl aH)]
theorem xJ {s : List UInt8} {st : St} {k : Nat} {texts : List (List UInt8)} (h : 0 < (texts.length : Int)) (hm : ¬ st.2.s ∈ texts) : take s st k texts = .error (4, st.2.at_) := by
 unfold take; rw [if_pos (.inr ⟨by rintro rfl; simp at h, hm⟩)]
theorem mO {s : List UInt8} {st : St} {k : Nat} {texts : List (List UInt8)} (h : ¬ ¬ (st.2.kind : Int) = k) (hm : ¬ 0 < (texts.length : Int) ∨ ¬ ¬ st.2.s ∈ texts) :
  take s st k texts = match Syn.next s st.1 with | .error e => .error e | .ok r => .ok (st.2, r) := by
 have hn : ¬ (st.2.kind ≠ k ∨ (texts ≠ [] ∧ st.2.s ∉ texts)) := by
  rintro (h1 | ⟨h1, h2⟩)
  ·omega
  ·rcases hm with hm | hm
   ·exact h1 (List.length_eq_zero_iff.1 aH)
   ·exact hm h2
 unfold take; rw [if_neg hn]
 cases Syn.next s st.1 <;> rfl
theorem kO (b : Nat) (s : List UInt8) (st : St) (rest : List Value) (k : Nat) (tv : Value) (texts : List (List UInt8)) (K : Hl) (hs : s.length ≤ 600) (ha : st.1 ≤ s.length) (hg : Glob K) (hv : Ksl (bE 9) K tv texts) (hn : texts.length ≤ 1000000) :
  Sp Tryz.prog 179 [ptr b, .int .u8 k, tv] K [psb b s st rest] (fD (take s st k texts) fun r v K' L' => v = wagg r.1 ∧ K' = K ∧ L' = [psb b s r.2 rest]) := by
 refine bA Tryz.func179 rfl Tryz.ntmps179 rfl rfl fun F w => ?_
 refine aI (aB ?_);refine ol_s (cL aNJ) rfl ?_;rintro _ K _ ⟨b6, rfl, rfl, rfl⟩ -;refine aG (aE ?_);refine aI (aB ?_);refine aA (aC rfl) rfl ?_;refine aA bS rfl ?_;refine aA (aD (o' := 0) bX rfl rfl) rfl ?_;refine aA (aD (o' := 2) cF rfl rfl) rfl ?_;refine aA (bT lI rfl aL rfl rfl) rfl ?_;refine ol_s (cL aNJ) rfl ?_;rintro _ K _ ⟨b7, rfl, rfl, rfl⟩ -;refine bP (cE lI rfl rfl rfl a7 (by first | (simp [Value.oneCell']; done) | exact fun c hc => El.one _ _ c hc) (.cons (.cons (.cons (.cons .nil)))) (by intro j hj; simp)) ?_;rintro _ K _ ⟨rfl, rfl⟩ -;refine aG (aE ?_);refine aI (aI ?_);refine aB ?_;refine aA (aD (o' := 0) eE rfl rfl) rfl ?_;refine aA (aK j8 rfl aL rfl) rfl ?_;refine aA (aC rfl) rfl ?_;refine aA (fF rfl rfl) rfl ?_;refine aA (aC rfl) rfl ?_;refine cB 17 rfl (fun g17 => ?_) (fun g17 => ?_)
 ·
  refine aR rfl rfl rfl ?_;refine aR rfl rfl rfl ?_;refine aR rfl rfl rfl ?_;refine aR rfl rfl rfl ?_;refine f6 rfl rfl rfl ?_;refine f6 rfl rfl rfl ?_;refine f6 rfl rfl rfl ?_;refine f6 rfl rfl rfl ?_;refine f6 rfl rfl rfl ?_;refine aR rfl rfl rfl ?_;refine aA (bJ rfl rfl) rfl ?_;refine aG (aE ?_);refine eK rfl ?_;refine aB ?_;refine aA (aC rfl) rfl ?_;refine aW rfl rfl (gE b s st rest _) (.cons (.there (.there .here)) .nil) rfl (by rintro _ _ ⟨_, h, _⟩; cases h) ?_ ?_
  ·
   rintro _ _ _ ⟨fb, h, rfl⟩ le1;cases h
   refine aN (.cons .here .nil) ?_;refine aJ ?_;refine a8 bQ ?_
   first
    | rw [xI g17]
    | rw [xJ g21 h28]
   exact ⟨fb, rfl, rfl⟩
  ·
   rintro _ _ _ ⟨_, h, _⟩; cases h
 ·
  refine aV rfl rfl ?_;refine aA (aC rfl) rfl ?_;refine aV rfl rfl ?_;refine aA (bZ (k := bE 9) rfl Tryz.underlying39 rfl (.known hv)) rfl ?_;refine aV rfl rfl ?_;refine aA (jU rfl rfl) rfl ?_;refine aV rfl rfl ?_;refine aA (aC rfl) rfl ?_;refine cB 21 rfl (fun g21 => ?_) (fun g21 => ?_)
  ·
   refine aV rfl rfl ?_;refine aA (aC rfl) rfl ?_;refine aV rfl rfl ?_;refine aA (aD (o' := 1) fA rfl rfl) rfl ?_;refine aV rfl rfl ?_;refine aA (aK ts9 rfl aL rfl) rfl ?_;refine aV rfl rfl ?_;refine bD rfl rfl (jX tv st.2.s texts _ [] (.known hv) hn) .nil rfl ?_;rintro _ K _ ⟨rfl, rfl, rfl⟩ -;refine aV rfl rfl ?_;refine aA (by first | exact dM rfl | exact dW rfl) rfl ?_;refine aV rfl rfl ?_;refine aA (bJ rfl rfl) rfl ?_;refine aA (bB rfl rfl) rfl ?_;refine aG (aE ?_);refine bH 28 rfl (fun h28 => ?_) (fun h28 => ?_)
   ·
    refine aB ?_;refine aA (aC rfl) rfl ?_;refine aW rfl rfl (gE b s st rest _) (.cons (.there (.there .here)) .nil) rfl (by rintro _ _ ⟨_, h, _⟩; cases h) ?_ ?_
    ·
     rintro _ _ _ ⟨fb, h, rfl⟩ le1;cases h
     refine aN (.cons .here .nil) ?_;refine aJ ?_;refine a8 bQ ?_
     first
      | rw [xI g17]
      | rw [xJ g21 h28]
     exact ⟨fb, rfl, rfl⟩
    ·
     rintro _ _ _ ⟨_, h, _⟩; cases h
   ·
    refine aX ?_;refine aE (aI ?_);refine aB ?_;refine aA (aC rfl) rfl ?_;refine aA bS rfl ?_;refine aA (aD (o' := 0) bX rfl rfl) rfl ?_;refine aW rfl rfl (dE b 208 s st.1 _ _ _ _ rest hs ha _ hg) (.cons (.there (.there .here)) .nil) rfl (fun _ _ => aY _ _) ?_ ?_
    ·
     rintro _ _ _ hT2 le1;obtain ⟨e, p, hr, fb, h, rfl⟩ := aZ hT2;cases h
     refine aN (.cons .here .nil) ?_;refine aJ ?_;refine a8 bQ ?_
     first
      | rw [mO g17 (.inr h28), hr]
      | rw [mO g17 (.inl g21), hr]
     exact ⟨fb, rfl, rfl⟩
    rintro _ K _ hT2 -;obtain ⟨r, hr, rfl, rfl, rfl⟩ := a6 hT2;refine aG (aE ?_);refine aI (aB ?_);refine aA (bT lI rfl aL rfl rfl) rfl ?_;refine bP (cE lI rfl rfl rfl a7 (by first | (simp [Value.oneCell']; done) | exact fun c hc => El.one _ _ c hc) (.cons (.cons (.cons (.cons .nil)))) (by intro j hj; simp)) ?_;rintro _ K _ ⟨rfl, rfl⟩ -;refine aG (aE ?_);refine bM ?_;refine sE rfl rfl lI aL rfl rfl (Hl.le_refl _) (.cons (by first | exact .here | exact .there .here | exact .there (.there .here)) .nil) ?_
    first
     | rw [mO g17 (.inr h28), hr]
     | rw [mO g17 (.inl g21), hr]
    exact ⟨_, rfl, rfl, rfl, rfl⟩
  ·
   refine aR rfl rfl rfl ?_;refine aR rfl rfl rfl ?_;refine aR rfl rfl rfl ?_;refine aR rfl rfl rfl ?_;refine aR rfl rfl rfl ?_;refine aV rfl rfl ?_;refine aA (bB rfl rfl) rfl ?_;refine aA (bB rfl rfl) rfl ?_;refine aG (aE ?_);refine cO rfl ?_;refine aX ?_;refine aE (aI ?_);refine aB ?_;refine aA (aC rfl) rfl ?_;refine aA bS rfl ?_;refine aA (aD (o' := 0) bX rfl rfl) rfl ?_;refine aW rfl rfl (dE b 208 s st.1 _ _ _ _ rest hs ha _ hg) (.cons (.there (.there .here)) .nil) rfl (fun _ _ => aY _ _) ?_ ?_
   ·
    rintro _ _ _ hT2 le1;obtain ⟨e, p, hr, fb, h, rfl⟩ := aZ hT2;cases h
    refine aN (.cons .here .nil) ?_;refine aJ ?_;refine a8 bQ ?_
    first
     | rw [mO g17 (.inr h28), hr]
     | rw [mO g17 (.inl g21), hr]
    exact ⟨fb, rfl, rfl⟩
   rintro _ K _ hT2 -;obtain ⟨r, hr, rfl, rfl, rfl⟩ := a6 hT2;refine aG (aE ?_);refine aI (aB ?_);refine aA (bT lI rfl aL rfl rfl) rfl ?_;refine bP (cE lI rfl rfl rfl a7 (by first | (simp [Value.oneCell']; done) | exact fun c hc => El.one _ _ c hc) (.cons (.cons (.cons (.cons .nil)))) (by intro j hj; simp)) ?_;rintro _ K _ ⟨rfl, rfl⟩ -;refine aG (aE ?_);refine bM ?_;refine sE rfl rfl lI aL rfl rfl (Hl.le_refl _) (.cons (by first | exact .here | exact .there .here | exact .there (.there .here)) .nil) ?_
   first
    | rw [mO g17 (.inr h28), hr]
    | rw [mO g17 (.inl g21), hr]
   exact ⟨_, rfl, rfl, rfl, rfl⟩
theorem Glob.mono {K K' : Hl} (h : Glob K) (le : K.le K') : Glob K' := ⟨let ⟨m, T, fz, e⟩ := h.maxLen; ⟨m, T, fz, le _ _ e⟩, fun w l => h.pow10 w (Hl.le_trans le l)⟩
theorem xF (b : Nat) (s : List UInt8) (st : St) (rest : List Value) (x : List UInt8) (K : Hl) (hs : s.length ≤ 600) (ha : st.1 ≤ s.length) (hg : Glob K) :
  Sp Tryz.prog 104 [ptr b, str x] K [psb b s st rest] (fD (Syn.sign s st x) fun r v _ L' => v = .tuple #[] ∧ L' = [psb b s r rest]) := by
 refine bA Tryz.func104 rfl Tryz.ntmps104 rfl rfl fun F w => ?_
 refine aB ?_;refine aA (aC rfl) rfl ?_;refine aA (aC rfl) rfl ?_;refine ol_s (bN (z0 := [(str [])]) cQ tz9 rfl rfl rfl rfl (.cons rfl rfl rfl (.cons .nil) .nil)) rfl ?_;rintro _ K _ ⟨b6, rfl, rfl, rfl⟩ -;refine e7 fun K1 le1 hK1 => ?_
 refine aW rfl rfl (kO b s st rest 5 _ [x] _ hs ha (hg.mono le1) (.inr ⟨b6, 0, 1, [str x], (0, 0), rfl, ⟨_, hK1⟩, rfl⟩) (by simp)) (.cons .here .nil) rfl (fun _ _ => aY _ _) ?_ ?_
 ·
  rintro _ _ _ hT2 le2;obtain ⟨e, p, hr, fb, h, rfl⟩ := aZ hT2;cases h
  refine aN (.cons .here .nil) ?_;refine a8 (Hl.le_trans le1 le2) ?_;unfold Syn.sign;rw [hr];exact ⟨fb, rfl, rfl⟩
 rintro _ K2 _ hT2 le2;obtain ⟨r, hr, rfl, rfl, rfl⟩ := a6 hT2;refine aG ?_;refine dD rfl le1 ?_;unfold Syn.sign;rw [hr];exact ⟨_, rfl, rfl, rfl⟩
theorem uS (b : Nat) (s : List UInt8) (st : St) (rest : List Value) (x : List UInt8) (K : Hl) (hs : s.length ≤ 600) (ha : st.1 ≤ s.length) (hg : Glob K) :
  Sp Tryz.prog 190 [ptr b, str x] K [psb b s st rest] (fD (eat s st x) fun r v K' L' => v = .bool r.1 ∧ K' = K ∧ L' = [psb b s r.2 rest]) := by
 refine bA Tryz.func190 rfl Tryz.ntmps190 rfl rfl fun F w => ?_
 refine aI (aB ?_);refine aA (aF rfl) rfl ?_;refine aG (aE ?_);refine aI (aB ?_);refine aA (aC rfl) rfl ?_;refine aA bS rfl ?_;refine aA (aD (o' := 0) bX rfl rfl) rfl ?_;refine aA (aD (o' := 2) cF rfl rfl) rfl ?_;refine aA (aD (o' := 2) eE rfl rfl) rfl ?_;refine aA (aK j8 rfl aL rfl) rfl ?_;refine aA (bV rfl rfl) rfl ?_;refine aA (aC rfl) rfl ?_;refine cB 13 rfl (fun g13 => ?_) (fun g13 => ?_)
 ·
  refine aV rfl rfl ?_;refine aA (aC rfl) rfl ?_;refine aV rfl rfl ?_;refine aA bS rfl ?_;refine aV rfl rfl ?_;refine aA (aD (o' := 0) bX rfl rfl) rfl ?_;refine aV rfl rfl ?_;refine aA (aD (o' := 2) cF rfl rfl) rfl ?_;refine aV rfl rfl ?_;refine aA (aD (o' := 3) fA rfl rfl) rfl ?_;refine aV rfl rfl ?_;refine aA (aK ts9 rfl aL rfl) rfl ?_;refine aV rfl rfl ?_;refine aA (aC rfl) rfl ?_;refine aV rfl rfl ?_;refine aA (iV rfl rfl) rfl ?_;refine aA (bJ rfl rfl) rfl ?_;refine aA (aF rfl) rfl ?_;refine aG (aE ?_);refine aI (aI ?_);refine aB ?_;refine aA (aC rfl) rfl ?_;refine aG (aE ?_);refine bH 23 rfl (fun h23 => ?_) (fun h23 => ?_)
  ·
   refine aB ?_;refine aA (aC rfl) rfl ?_;refine aA bS rfl ?_;refine aA (aD (o' := 0) bX rfl rfl) rfl ?_;refine aW rfl rfl (dE b 208 s st.1 _ _ _ _ rest hs ha _ hg) (.cons .here .nil) rfl (fun _ _ => aY _ _) ?_ ?_
   ·
    rintro _ _ _ hT2 le1;obtain ⟨e, p, hr, fb, h, rfl⟩ := aZ hT2;cases h
    refine aN (.cons .here .nil) ?_;refine aJ ?_;refine a8 bQ ?_;unfold eat;rw [if_pos ⟨by omega, h23⟩, hr];exact ⟨fb, rfl, rfl⟩
   rintro _ K _ hT2 -;obtain ⟨r, hr, rfl, rfl, rfl⟩ := a6 hT2;refine aG (aE ?_);refine aI (aB ?_);refine aA (aC rfl) rfl ?_;refine aA (aF rfl) rfl ?_;refine aG (aE ?_);refine bM ?_;refine bL rfl rfl (Hl.le_refl _) ?_;unfold eat
   first
    | (rw [if_pos ⟨by omega, h23⟩, hr]; exact ⟨_, rfl, by rw [decide_eq_true h23], rfl, rfl⟩)
    | (rw [if_neg (fun h => h23 h.2)]; exact ⟨_, rfl, by rw [decide_eq_false h23], rfl, rfl⟩)
    | (rw [if_neg aH]; exact ⟨_, rfl, rfl, rfl, rfl⟩)
  ·
   refine aX ?_;refine aE (aI ?_);refine aB ?_;refine aA (aC rfl) rfl ?_;refine aA (aF rfl) rfl ?_;refine aG (aE ?_);refine bM ?_;refine bL rfl rfl (Hl.le_refl _) ?_;unfold eat
   first
    | (rw [if_pos ⟨by omega, h23⟩, hr]; exact ⟨_, rfl, by rw [decide_eq_true h23], rfl, rfl⟩)
    | (rw [if_neg (fun h => h23 h.2)]; exact ⟨_, rfl, by rw [decide_eq_false h23], rfl, rfl⟩)
    | (rw [if_neg aH]; exact ⟨_, rfl, rfl, rfl, rfl⟩)
 ·
  refine aR rfl rfl rfl ?_;refine aR rfl rfl rfl ?_;refine aR rfl rfl rfl ?_;refine aR rfl rfl rfl ?_;refine aR rfl rfl rfl ?_;refine aR rfl rfl rfl ?_;refine aR rfl rfl rfl ?_;refine aR rfl rfl rfl ?_;refine aA (bB rfl rfl) rfl ?_;refine aA (aF rfl) rfl ?_;refine aG (aE ?_);refine aI (aI ?_);refine aB ?_;refine aA (aC rfl) rfl ?_;refine aG (aE ?_);refine cO rfl ?_;refine aX ?_;refine aE (aI ?_);refine aB ?_;refine aA (aC rfl) rfl ?_;refine aA (aF rfl) rfl ?_;refine aG (aE ?_);refine bM ?_;refine bL rfl rfl (Hl.le_refl _) ?_;unfold eat
  first
   | (rw [if_pos ⟨by omega, h23⟩, hr]; exact ⟨_, rfl, by rw [decide_eq_true h23], rfl, rfl⟩)
   | (rw [if_neg (fun h => h23 h.2)]; exact ⟨_, rfl, by rw [decide_eq_false h23], rfl, rfl⟩)
   | (rw [if_neg aH]; exact ⟨_, rfl, rfl, rfl, rfl⟩)
theorem iS (b : Nat) (s : List UInt8) (st : St) (rest : List Value) (fn : FuncId) (caps : Array Value) (ff : List UInt8 → Int) (K : Hl) (hs : s.length ≤ 600) (ha : st.1 ≤ s.length) (hw : st.2.s.length ≤ s.length) (hg : Glob K)
  (hf : ∀ x : List UInt8, x.length ≤ 600 → Sp Tryz.prog fn (str x :: caps.toList) K [] (Val (i64 (ff x)) K)) :
  Sp Tryz.prog 191 [ptr b, .func (.func fn) #[] caps] K [psb b s st rest] (fD (Syn.text s st ff) fun r v K' L' => v = str r.1 ∧ K' = K ∧ L' = [psb b s r.2 rest]) := by
 refine bA Tryz.func191 rfl Tryz.ntmps191 rfl rfl fun F w => ?_
 refine aI (aB ?_);refine aA (aF rfl) rfl ?_;refine aG (aE ?_);refine aI (aI ?_);refine aB ?_;refine aA (aC rfl) rfl ?_;refine aA bS rfl ?_;refine aA (aD (o' := 0) bX rfl rfl) rfl ?_;refine aA (aD (o' := 2) cF rfl rfl) rfl ?_;refine aA (aD (o' := 2) eE rfl rfl) rfl ?_;refine aA (aK j8 rfl aL rfl) rfl ?_;refine aA (bV rfl rfl) rfl ?_;refine aG (aE ?_);refine bH 12 rfl (fun h12 => ?_) (fun h12 => ?_)
 ·
  refine aI (aB ?_);refine aA (aC rfl) rfl ?_;refine aA (aC rfl) rfl ?_;refine aA bS rfl ?_;refine aA (aD (o' := 0) bX rfl rfl) rfl ?_;refine aA (aD (o' := 2) cF rfl rfl) rfl ?_;refine aA (aD (o' := 3) fA rfl rfl) rfl ?_;refine aA (aK ts9 rfl aL rfl) rfl ?_;refine cG rfl rfl (hf st.2.s aH) rfl ?_;refine aA (aF rfl) rfl ?_;refine aG (aE ?_);refine aI (aB ?_);refine aA (aC rfl) rfl ?_;refine aA (fF rfl rfl) rfl ?_;refine aG (aE ?_);refine bH 22 rfl (fun h22 => ?_) (fun h22 => ?_)
  ·
   refine aB ?_;refine aA (aC rfl) rfl ?_;refine aA (aC rfl) rfl ?_;refine aA bS rfl ?_;refine aA (aD (o' := 0) bX rfl rfl) rfl ?_;refine aA (aD (o' := 2) cF rfl rfl) rfl ?_;refine aA (aD (o' := 5) fJ rfl rfl) rfl ?_;refine aA (aK ts3 rfl aL rfl) rfl ?_;refine aW rfl rfl (dY (ff st.2.s) st.2.at_ _) .nil rfl (by rintro _ _ ⟨_, h, _⟩; cases h) ?_ ?_
   ·
    rintro _ _ _ ⟨fb, h, rfl⟩ le1;cases h
    refine aN (.cons .here .nil) ?_;refine aJ ?_;refine a8 bQ ?_;unfold Syn.text;rw [if_pos ⟨by omega, by omega⟩];exact ⟨fb, rfl, rfl⟩
   ·
    rintro _ _ _ ⟨_, h, _⟩; cases h
  ·
   refine aX ?_;refine aE (aI ?_);refine aB ?_;refine aA (aC rfl) rfl ?_;refine aW rfl rfl (kO b s st rest 3 _ [] _ hs ha hg (.inl ⟨none, 0, rfl, rfl⟩) (by simp)) (.cons .here .nil) rfl (fun _ _ => aY _ _) ?_ ?_
   ·
    rintro _ _ _ hT2 le1;obtain ⟨e, p, hr, fb, h, rfl⟩ := aZ hT2;cases h
    refine aN (.cons .here .nil) ?_;refine aJ ?_;refine a8 bQ ?_;unfold Syn.text;rw [if_neg aH, hr];exact ⟨fb, rfl, rfl⟩
   rintro _ K _ hT2 -;obtain ⟨r, hr, rfl, rfl, rfl⟩ := a6 hT2;refine aA (jT Tryz.underlying202 rfl ts9 rfl rfl) rfl ?_;refine aA (aF rfl) rfl ?_;refine aG (aE ?_);refine bM ?_;refine bL rfl rfl (Hl.le_refl _) ?_;unfold Syn.text;rw [if_neg aH, hr];exact ⟨_, rfl, rfl, rfl, rfl⟩
 ·
  refine aX ?_;refine aE (aI ?_);refine aB ?_;refine aA (aC rfl) rfl ?_;refine aW rfl rfl (kO b s st rest 3 _ [] _ hs ha hg (.inl ⟨none, 0, rfl, rfl⟩) (by simp)) (.cons .here .nil) rfl (fun _ _ => aY _ _) ?_ ?_
  ·
   rintro _ _ _ hT2 le1;obtain ⟨e, p, hr, fb, h, rfl⟩ := aZ hT2;cases h
   refine aN (.cons .here .nil) ?_;refine aJ ?_;refine a8 bQ ?_;unfold Syn.text;rw [if_neg aH, hr];exact ⟨fb, rfl, rfl⟩
  rintro _ K _ hT2 -;obtain ⟨r, hr, rfl, rfl, rfl⟩ := a6 hT2;refine aA (jT Tryz.underlying202 rfl ts9 rfl rfl) rfl ?_;refine aA (aF rfl) rfl ?_;refine aG (aE ?_);refine bM ?_;refine bL rfl rfl (Hl.le_refl _) ?_;unfold Syn.text;rw [if_neg aH, hr];exact ⟨_, rfl, rfl, rfl, rfl⟩
end Go.Proofs
end
section
namespace Go.Proofs
open Go Go.SL Go.Syn
theorem aKI (b : Nat) (x : List UInt8) : ∀ h, pt b (aU [str x] 9) h → sl false (bE 9) (.slice (some ⟨b, 0, none⟩) 1 1) [x] h :=
 rT (k := bE 9) (xs := [x]) (cells := [str x]) (Nat.le_refl _) rfl rfl (.inl (Nat.le_refl _)) (fun h => by cases h)
theorem aGH (b : Nat) (s : List UInt8) (st : St) (rest : List Value) (fn : FuncId) (caps : Array Value) (ff : List UInt8 → Int) (K : Hl) (hs : s.length ≤ 600) (hok : Ok s st) (hg : Glob K)
  (hf : ∀ x : List UInt8, x.length ≤ 600 → Sp Tryz.prog fn (str x :: caps.toList) K [] (Val (i64 (ff x)) K)) :
  Sp Tryz.prog 102 [ptr b, .func (.func fn) #[] caps] K [psb b s st rest] (fD (Syn.list s st ff) fun r v _ L' => L' = [sl false (bE 9) v r.1, psb b s r.2 rest]) := by
 refine bA Tryz.func102 rfl Tryz.ntmps102 rfl rfl fun F w => ?_
 have ha := hok.1;refine aI (aB ?_);refine aA (aF rfl) rfl ?_;refine aG (aE ?_);refine aI (aI ?_);refine aB ?_;refine aA (aC rfl) rfl ?_;refine aW rfl rfl (uS b s st rest [91] _ hs ha hg) (.cons .here .nil) rfl (fun _ _ => aY _ _) ?_ ?_
 ·
  rintro _ _ _ hT2 le1;obtain ⟨e, p, hr, fb, h, rfl⟩ := aZ hT2;cases h
  refine aN (.cons .here .nil) ?_;refine aJ ?_;refine aJ ?_;refine a8 bQ ?_;unfold Syn.list;rw [hr];exact ⟨fb, rfl, rfl⟩
 rintro _ K _ hT2 -;obtain ⟨r, hr, rfl, rfl, rfl⟩ := a6 hT2;obtain ⟨hr1, hr2, hr3⟩ := sF ha hr;have hro := sG hok hr;refine aA (by first | exact dM rfl | exact dW rfl) rfl ?_;refine aG (aE ?_);refine d6 8 rfl (fun h8 => ?_) (fun h8 => ?_)
 ·
  refine aI (aB ?_);refine aA (aC rfl) rfl ?_;refine aA (aC rfl) rfl ?_;refine aW rfl rfl (iS b s r.2 rest fn caps ff _ hs hr1 hro.2 hg hf) (.cons .here .nil) rfl (fun _ _ => aY _ _) ?_ ?_
  ·
   rintro _ _ _ hT3 le1;obtain ⟨e, p, hq, fb, h, rfl⟩ := aZ hT3;cases h
   refine aN (.cons .here .nil) ?_;refine aJ ?_;refine aJ ?_;refine a8 bQ ?_;unfold Syn.list;rw [hr];simp only [];rw [hq];exact ⟨fb, rfl, rfl⟩
  rintro _ K _ hT3 -;obtain ⟨q, hq, rfl, rfl, rfl⟩ := a6 hT3;obtain ⟨hq1, hq2⟩ := iI hr1 hq;refine ol_s (bN (z0 := [(str [])]) cQ tz9 rfl rfl rfl rfl (.cons rfl rfl rfl (.cons .nil) .nil)) rfl ?_;rintro _ K _ ⟨b12, rfl, rfl, rfl⟩ -;refine aA (aF rfl) rfl ?_;refine aG (aE ?_);refine bM ?_;refine bF ?_;refine dU (gP (aKI b12 q.1)) ?_;refine bL rfl rfl (by first | exact Hl.le_refl _ | assumption) ?_;have hl : Syn.list s st ff = .ok ([q.1], q.2) := (by unfold Syn.list; rw [hr]; simp only []; rw [hq]; simp only []; rw [if_neg (by simpa using h8)]);rw [hl];exact ⟨_, rfl, rfl⟩
 ·
  refine aX ?_;refine aE (aI ?_);refine aB ?_;refine aA (aC rfl) rfl ?_;refine aA (aC rfl) rfl ?_;refine aW rfl rfl (iS b s r.2 rest fn caps ff _ hs hr1 hro.2 hg hf) (.cons .here .nil) rfl (fun _ _ => aY _ _) ?_ ?_
  ·
   rintro _ _ _ hT3 le1;obtain ⟨e, p, hq, fb, h, rfl⟩ := aZ hT3;cases h
   refine aN (.cons .here .nil) ?_;refine aJ ?_;refine a8 bQ ?_;unfold Syn.list;rw [hr];simp only [];rw [hq];exact ⟨fb, rfl, rfl⟩
  rintro _ K _ hT3 -;obtain ⟨q, hq, rfl, rfl, rfl⟩ := a6 hT3;obtain ⟨hq1, hq2⟩ := iI hr1 hq;refine ol_s (bN (z0 := [(str [])]) cQ tz9 rfl rfl rfl rfl (.cons rfl rfl rfl (.cons .nil) .nil)) rfl ?_;rintro _ K _ ⟨b16, rfl, rfl, rfl⟩ -;refine aA (aF rfl) rfl ?_;refine aG (aE ?_);refine aI (bC ?_);refine tX (fun (st2 : St) (v : Value) (acc : List (List UInt8)) => Ok s st2 ∧ acc.length + mu s st2 ≤ 1300 ∧ ∃ f, mu s st2 ≤ f ∧ Syn.list s st ff = mG s ff (f + 1) st2 acc) (fun _ v _ => [(0, ptr b), (1, .func (.func fn) #[] caps), (5, v)]) (fun _ _ _ => K) (fun st2 v acc => [sl false (bE 9) v acc, psb b s st2 rest]) (fun st2 _ _ => mu s st2) q.2 _ [q.1] ⟨jZ hr1 hq, by have := p6 s q.2; simp; omega, mu s q.2, Nat.le_refl _, by unfold Syn.list; rw [hr]; simp only []; rw [hq]; simp only []; rw [if_pos (by simpa using h8)]⟩ (.cons 0 rfl (.cons 1 rfl (.cons 5 rfl .nil))) rfl (gP (aKI b16 q.1)) ?_;intro st2 v acc ⟨hi1, hi2, f, hi3, hi4⟩;refine aI (aI ?_);refine aB ?_;refine aA (aC rfl) rfl ?_;refine aW rfl rfl (uS b s st2 rest [44] _ hs hi1.1 hg) (.cons (.there .here) .nil) rfl (fun _ _ => aY _ _) ?_ ?_
  ·
   rintro _ _ _ hT4 le1;obtain ⟨e, p, hy, fb, h, rfl⟩ := aZ hT4;cases h
   refine aN (.cons .here .nil) ?_;refine aJ ?_;refine aJ ?_;refine aJ ?_;refine aQ ?_;refine aJ ?_;refine a8 bQ ?_;rw [hi4];simp only [mG];rw [hy];exact ⟨fb, rfl, rfl⟩
  rintro _ K _ hT4 -;obtain ⟨y, hy, rfl, rfl, rfl⟩ := a6 hT4;obtain ⟨hy1, hy2, hy3⟩ := sF hi1.1 hy;have hyo := sG hi1 hy;refine aG (aE ?_);refine d6 18 rfl (fun h18 => ?_) (fun h18 => ?_)
  ·
   have hy4 := hy3 h18;refine aX ?_;refine aE (bC ?_);refine aB ?_;refine aA (aC rfl) rfl ?_;refine aA (aC rfl) rfl ?_;refine aA (aC rfl) rfl ?_;refine aW rfl rfl (iS b s y.2 rest fn caps ff _ hs hy1 hyo.2 hg hf) (.cons .here .nil) rfl (fun _ _ => aY _ _) ?_ ?_
   ·
    rintro _ _ _ hT5 le1;obtain ⟨e, p, hz, fb, h, rfl⟩ := aZ hT5;cases h
    refine aN (.cons .here .nil) ?_;refine aQ ?_;refine aJ ?_;refine aQ ?_;refine aJ ?_;refine a8 bQ ?_;rw [hi4];simp only [mG];rw [hy];simp only [];rw [if_pos h18, hz];exact ⟨fb, rfl, rfl⟩
   rintro _ K _ hT5 -;obtain ⟨z, hz, rfl, rfl, rfl⟩ := a6 hT5;obtain ⟨hz1, hz2⟩ := iI hy1 hz;refine ol_s (bN (z0 := [(str [])]) cQ tz9 rfl rfl rfl rfl (.cons rfl rfl rfl (.cons .nil) .nil)) rfl ?_;rintro _ K _ ⟨b23, rfl, rfl, rfl⟩ -;refine ol_s (dJ (k := (bE 9)) (ys := [z.1]) eM rfl rfl a7 (fun w j => dB Tryz.underlying39 (SeesSl.at (.blk (.own .here) rfl rfl) j)) (by first | (simp; omega) | omega) (by first | (simp; omega) | omega)) rfl ?_;rintro v24 K _ ⟨rfl, rfl, ho24⟩ -;refine aA (aF rfl) rfl ?_;refine aG (aM ?_);obtain ⟨f0, rfl⟩ : ∃ f0, f = f0 + 1 := ⟨f - 1, by omega⟩;refine aN (.cons .here (.cons (.there .here) .nil)) ?_;refine iJ z.2 _ (acc ++ [z.1]) ⟨jZ hy1 hz, by simp; omega, f0, by omega, ?_⟩ aH (.cons 0 rfl (.cons 1 rfl (.cons 5 rfl .nil))) rfl (fun _ h => h)
   rw [hi4];simp only [mG];rw [hy];simp only [];rw [if_pos h18, hz]
  ·
   refine cR ?_;refine aT ?_;refine aT ?_;refine bG ?_;refine aE (aI ?_);refine aB ?_;refine aA (aC rfl) rfl ?_;refine aW rfl rfl (xF b s y.2 rest [93] _ hs hy1 hg) (.cons .here .nil) rfl (fun _ _ => aY _ _) ?_ ?_
   ·
    rintro _ _ _ hT5 le1;obtain ⟨e, p, hz, fb, h, rfl⟩ := aZ hT5;cases h
    refine aN (.cons .here .nil) ?_;refine aJ ?_;refine a8 bQ ?_;rw [hi4];simp only [mG];rw [hy];simp only [];rw [if_neg (by simp [h18]), hz];exact ⟨fb, rfl, rfl⟩
   rintro _ K2 _ hT5 le2;obtain ⟨z, hz, rfl, rfl⟩ := a6 hT5;refine aG (aE ?_);refine aI (aB ?_);refine aA (aC rfl) rfl ?_;refine aA (aF rfl) rfl ?_;refine aG (aE ?_);refine bM ?_;refine aN (.cons (.there .here) (.cons .here .nil)) ?_;refine bL rfl rfl (by first | exact Hl.le_refl _ | assumption) ?_;have hl : Syn.list s st ff = .ok (acc, z) := (by rw [hi4]; simp only [mG]; rw [hy]; simp only []; rw [if_neg (by simp [h18]), hz]);rw [hl];exact ⟨_, rfl, rfl⟩
end Go.Proofs
end
section
namespace Go.Proofs
open Go Go.SL Go.Syn
theorem iZ (x : List UInt8) (K : Hl) : Sp Tryz.prog 177 [str x] K [] (Val (i64 0) K) := by
 refine bA Tryz.func177 rfl Tryz.ntmps177 rfl rfl fun F w => ?_
 refine aI (aB ?_);refine aA (aF rfl) rfl ?_;refine aG (aE ?_);refine aI (aB ?_);refine aA (aF rfl) rfl ?_;refine aG (aE ?_);refine bM ?_;refine bL rfl rfl (Hl.le_refl _) ?_;exact ⟨rfl, rfl, rfl⟩
theorem nR (s : List UInt8) (K : Hl) (hs : s.length ≤ 140737488351232) : Sp Tryz.prog 263 [str s] K [] (Val (.bool (named s)) K) := by
 refine bA Tryz.func263 rfl Tryz.ntmps263 rfl rfl fun F w => ?_
 refine aI (aB ?_);refine aA (aF rfl) rfl ?_;refine aG (aE ?_);refine aI (aI ?_);refine aB ?_;refine aA (aC rfl) rfl ?_;refine ol_s (pK Tryz.underlying9 Tryz.underlying130 Tryz.underlying5 rfl) rfl ?_;rintro v6 K _ ⟨rfl, rfl⟩ -;refine aA (bZ (k := (elB 5)) rfl Tryz.underlying130 rfl aL) rfl ?_;refine aA (aC rfl) rfl ?_;refine aG (aE ?_);refine bC ?_;refine dS (fun (i : Nat) => i ≤ s.length ∧ (s.take i).all fC = true) (fun i => [(0, str s), (6, v6), (7, i64 s.length), (8, i64 i)]) (fun _ => _) (fun i => [sl false (elB 5) v6 s]) (fun i => s.length - i) 0 ⟨Nat.zero_le _, rfl⟩ (.cons 0 rfl (.cons 6 rfl (.cons 7 rfl (.cons 8 rfl .nil)))) rfl (fun _ h => h) ?_;intro i ⟨hi0, hi1⟩;refine aI (aB ?_);refine aA (cU rfl rfl) rfl ?_;refine aG (aE ?_);refine aI ?_;refine bH 9 rfl (fun h9 => ?_) (fun h9 => ?_)
 ·
  obtain ⟨c, hc⟩ : ∃ c, s[i]? = some c := ⟨s[i]'(by omega), List.getElem?_eq_getElem aH⟩;have hlen : i < s.length := by omega
  refine aX ?_;refine aE (aI ?_);refine bC (aI ?_);refine aB ?_;refine aA (bU (k := (elB 5)) lO rfl aL rfl rfl (by first | assumption | omega)) rfl ?_;refine aA (dQ (o := 0) (k := (elB 5)) ts5 rfl aL bQ rfl) rfl ?_;refine aA (aF rfl) rfl ?_;refine aG (aE ?_);refine aI (aB ?_);refine aA (aC rfl) rfl ?_;refine cG rfl rfl (mF c _) rfl ?_;refine aA (by first | exact dM rfl | exact dW rfl) rfl ?_;refine aG (aE ?_);refine d6 14 rfl (fun h14 => ?_) (fun h14 => ?_)
  ·
   refine aI (aB ?_);refine aA (aF rfl) rfl ?_;refine aG (aE ?_);refine bM ?_;refine bR ?_;refine bF ?_;refine bF ?_;refine bR ?_;refine bF ?_;refine aN .nil ?_;refine bL rfl rfl (Hl.le_refl _) ?_;exact retB (aJK hc (by simpa using h14)).symm _
  ·
   refine aX ?_;refine aM (aE ?_);refine aB ?_;refine aA (b0 rfl rfl aH aH) rfl ?_;refine aA (aC rfl) rfl ?_;refine aG ?_;refine cI (i + 1) ⟨by omega, Plain.take_all_succ hc hi1 (by simpa using h14)⟩ aH (.cons 0 rfl (.cons 6 rfl (.cons 7 rfl (.cons 8 rfl .nil)))) rfl (fun _ h => h)
 ·
  have hall : s.all fC = true := (by rw [List.take_of_length_le aH] at hi1; exact hi1);refine cR ?_;refine aT ?_;refine aT ?_;refine bG ?_;refine aE (aI ?_);refine aB ?_;refine aA (aC rfl) rfl ?_;refine aA (qJ rfl rfl) rfl ?_;refine aA (aC rfl) rfl ?_;refine cB 18 rfl (fun g18 => ?_) (fun g18 => ?_)
  ·
   refine aV rfl rfl ?_;refine aA (aC rfl) rfl ?_;refine aV rfl rfl ?_;obtain ⟨c0, hc0⟩ : ∃ c, s[0]? = some c := ⟨s[0]'(List.length_pos_iff.2 g18), List.getElem?_eq_getElem _⟩;refine aA (dK Tryz.underlying9 rfl (j := 0) rfl rfl hc0) rfl ?_;refine aV rfl rfl ?_;refine cG rfl rfl (lE c0 _) rfl ?_;refine aV rfl rfl ?_;refine aA (by first | exact dM rfl | exact dW rfl) rfl ?_;refine aA (bJ rfl rfl) rfl ?_;refine aA (aF rfl) rfl ?_;refine aG (aE ?_);refine bM ?_;refine aN .nil ?_;refine bL rfl rfl (Hl.le_refl _) ?_;exact retB (by simp [named, hall, g18, hc0]) _
  ·
   refine aR rfl rfl rfl ?_;refine aR rfl rfl rfl ?_;refine aR rfl rfl rfl ?_;refine aR rfl rfl rfl ?_;refine aA (bB rfl rfl) rfl ?_;refine aA (aF rfl) rfl ?_;refine aG (aE ?_);refine bM ?_;refine aN .nil ?_;refine bL rfl rfl (Hl.le_refl _) ?_;exact retB (by simp only [Classical.not_not] at g18; simp [named, g18]) _
theorem aHA (x : List UInt8) (K : Hl) (hs : x.length ≤ 140737488351232) : Sp Tryz.prog 262 [str x] K [] (Val (i64 (if named x = true then 0 else 7)) K) := by
 refine bA Tryz.func262 rfl Tryz.ntmps262 rfl rfl fun F w => ?_
 refine aI (aB ?_);refine aA (aF rfl) rfl ?_;refine aG (aE ?_);refine aI (aI ?_);refine aB ?_;refine aA (aC rfl) rfl ?_;refine cG rfl rfl (nR x _ hs) rfl ?_;refine aG (aE ?_);refine d6 4 rfl (fun h4 => ?_) (fun h4 => ?_)
 ·
  refine aI (aB ?_);refine aA (aF rfl) rfl ?_;refine aG (aE ?_);refine bM ?_;refine bF ?_;refine bL rfl rfl (Hl.le_refl _) ?_;rw [if_pos h4];exact ⟨rfl, rfl, rfl⟩
 ·
  refine aX ?_;refine aE (aI ?_);refine aB ?_;refine aA (aF rfl) rfl ?_;refine aG (aE ?_);refine bM ?_;refine bL rfl rfl (Hl.le_refl _) ?_;rw [if_neg (by simp [h4])];exact ⟨rfl, rfl, rfl⟩
theorem jK (x : List UInt8) (e : Int) (texts : List (List UInt8)) (tv : Value) (b1 b2 : Nat) (K : Hl) (h1 : K b1 = some (aU [tv] 39)) (h2 : K b2 = some (aU [i64 e] 30)) (hv : Ksl (bE 9) K tv texts) (hn : texts.length ≤ 1000000) :
  Sp Tryz.prog 192 [str x, ptr b1, ptr b2] K [] (Val (i64 (oneOf e texts x)) K) := by
 refine bA Tryz.func192 rfl Tryz.ntmps192 rfl rfl fun F w => ?_
 refine aI (aB ?_);refine aA (aF rfl) rfl ?_;refine aG (aE ?_);refine aI (aI ?_);refine aB ?_;refine aA (aK ts39 rfl (.known h1) rfl) rfl ?_;refine aA (aC rfl) rfl ?_;refine bD rfl rfl (jX tv x texts _ [] (.known hv) hn) .nil rfl ?_;rintro _ K _ ⟨rfl, rfl, rfl⟩ -;refine aG (aE ?_);refine bH 7 rfl (fun h7 => ?_) (fun h7 => ?_)
 ·
  refine aI (aB ?_);refine aA (aF rfl) rfl ?_;refine aG (aE ?_);refine bM ?_;refine bF ?_;refine bL rfl rfl (Hl.le_refl _) ?_;unfold oneOf;rw [if_pos h7];exact ⟨rfl, rfl, rfl⟩
 ·
  refine aX ?_;refine aE (aI ?_);refine aB ?_;refine aA (aK ts30 rfl (.known h2) rfl) rfl ?_;refine aA (aF rfl) rfl ?_;refine aG (aE ?_);refine bM ?_;refine bL rfl rfl (Hl.le_refl _) ?_;unfold oneOf;rw [if_neg h7];exact ⟨rfl, rfl, rfl⟩
theorem kI (e : Int) (tv : Value) (K : Hl) (htv : tv.cells = #[tv]) : Sp Tryz.prog 103 [i64 e, tv] K [] (Ret fun v K' L' => ∃ b1 b2, v = .func (.func 192) #[] #[ptr b1, ptr b2] ∧ K' b1 = some (aU [tv] 39) ∧ K' b2 = some (aU [i64 e] 30) ∧ L' = []) := by
 refine bA Tryz.func103 rfl Tryz.ntmps103 rfl rfl fun F w => ?_
 refine aI (aB ?_);refine ol_s (d9 rfl rfl) rfl ?_;rintro _ K _ ⟨b2, rfl, rfl, rfl⟩ -;refine ol_s (d9 (l := [tv]) rfl htv) rfl ?_;rintro _ K _ ⟨b3, rfl, rfl, rfl⟩ -;refine aA (aF rfl) rfl ?_;refine aG (aE ?_);refine aI (aB ?_);refine aA (gT rfl rfl) rfl ?_;refine aA (aF rfl) rfl ?_;refine aG (aE ?_);refine bM ?_;refine gB fun K1 le1 hK1 => ?_
 refine gB fun K2 le2 hK2 => ?_
 refine bL rfl rfl (Hl.le_trans le1 le2) ?_;exact ⟨_, rfl, b3, b2, rfl, le2 _ _ hK1, hK2, rfl⟩
abbrev wD : List UInt8 := [102, 114, 111, 109]
abbrev txTo : List UInt8 := [116, 111]
theorem tE (x : List UInt8) (K : Hl) (hs : x.length ≤ 140737488351232) : Sp Tryz.prog 265 [str x] K [] (Val (i64 (oneOf 7 [wD, txTo] (dH x))) K) := by
 refine (aE3 (R := fun e L' => e = .returned (i64 (oneOf 7 [wD, txTo] (dH x))) ∧ L' = []) ?_).mono fun e K' L' ⟨h1, h2, h3⟩ => ⟨h2, h1, h3⟩
 refine bA Tryz.func265 rfl Tryz.ntmps265 rfl rfl fun F w => ?_
 refine aI (aB ?_);refine aA (aF rfl) rfl ?_;refine aG (aE ?_);refine aI (aB ?_);refine ol_s (bN (z0 := [(str []), (str [])]) cQ tz9 rfl rfl rfl rfl (.cons rfl rfl rfl (.cons .nil) (.cons rfl rfl rfl (.skip (.cons .nil)) .nil))) rfl ?_;rintro _ K _ ⟨b3, rfl, rfl, rfl⟩ -;refine e7 fun K1 le1 hK1 => ?_
 refine bD rfl rfl (kI 7 _ _ rfl) .nil rfl ?_;rintro _ K2 _ ⟨c1, c2, rfl, hc1, hc2, rfl⟩ le2;refine aA (aC rfl) rfl ?_;refine cG rfl rfl (e9 x _ hs) rfl ?_;refine cG rfl rfl (jK (dH x) 7 [wD, txTo] _ c1 c2 _ hc1 hc2 (.inr ⟨b3, 0, 2, [str wD, str txTo], (0, 0), rfl, ⟨_, le2 _ _ hK1⟩, rfl⟩) (by simp)) rfl ?_;refine aA (aF rfl) rfl ?_;refine aG (aE ?_);refine bM ?_;refine aN .nil ?_;refine bL rfl rfl (Hl.le_trans le1 le2) ?_;exact ⟨rfl, rfl⟩
theorem qW {β : Type} {P : Program} {f : FuncId} {args : List Value} {K : Hl} {L : List Asn} {r : Res β} {N : β → Value → List Asn → Prop} (h : Sp P f args K L (fD r fun x v _ L' => N x v L')) :
  Sp P f args K L (fD r fun x v K' L' => K' = K ∧ N x v L') := by
 refine (aE3 (R := fun e L' => fD r (fun x v _ L' => N x v L') e K L') (h.mono fun e K' L' h1 => ?_)).mono fun e K' L' ⟨h1, h2⟩ => ?_
 ·unfold fD at h1 ⊢;cases r with
  | ok x => exact h1
  | error p => exact h1
 ·unfold fD at h2 ⊢;cases r with
  | ok x => obtain ⟨v, e1, e2⟩ := h2; exact ⟨v, e1, h1, e2⟩
  | error p => exact h2
theorem iK (b : Nat) (s : List UInt8) (st : St) (rest : List Value) (x : List UInt8) (K : Hl) (hs : s.length ≤ 600) (ha : st.1 ≤ s.length) (hg : Glob K) :
  Sp Tryz.prog 104 [ptr b, str x] K [psb b s st rest] (fD (Syn.sign s st x) fun r v K' L' => K' = K ∧ v = .tuple #[] ∧ L' = [psb b s r rest]) :=
 qW (N := fun (r : St) v L' => v = .tuple #[] ∧ L' = [psb b s r rest]) (xF b s st rest x K hs ha hg)
theorem nQ (b : Nat) (s : List UInt8) (st : St) (rest : List Value) (fn : FuncId) (caps : Array Value) (ff : List UInt8 → Int) (K : Hl) (hs : s.length ≤ 600) (hok : Ok s st) (hg : Glob K)
  (hf : ∀ x : List UInt8, x.length ≤ 600 → Sp Tryz.prog fn (str x :: caps.toList) K [] (Val (i64 (ff x)) K)) :
  Sp Tryz.prog 102 [ptr b, .func (.func fn) #[] caps] K [psb b s st rest] (fD (Syn.list s st ff) fun r v K' L' => K' = K ∧ L' = [sl false (bE 9) v r.1, psb b s r.2 rest]) :=
 qW (N := fun (r : List (List UInt8) × St) v L' => L' = [sl false (bE 9) v r.1, psb b s r.2 rest]) (aGH b s st rest fn caps ff K hs hok hg hf)
end Go.Proofs
end
section
namespace Go.Proofs
open Go Go.SL Go.Syn
theorem aKL {s : List UInt8} {st : St} {k : Nat} {texts : List (List UInt8)} {r : Word × St} (hok : Ok s st) (h : take s st k texts = .ok r) : r.1.s.length ≤ s.length := by
 unfold take at h;split at h
 ·cases h
 ·split at h
  ·cases h
  ·cases h; exact hok.2
theorem aKR {s : List UInt8} {st : St} {ff : List UInt8 → Int} {r : List UInt8 × St} (hok : Ok s st) (h : Syn.text s st ff = .ok r) : r.1.length ≤ s.length := by
 unfold Syn.text at h;split at h
 ·cases h
 ·split at h
  ·cases h
  ·rename_i q hq;cases h
   exact aKL hok hq
theorem aG4 (xs : List (List UInt8)) (x : List UInt8) : -1 ≤ cN xs x ∧ cN xs x ≤ xs.length := by
 unfold cN;cases h : xs.findIdx? (fun y => decide (x = y)) with
 | some i => rw [List.findIdx?_eq_some_iff_getElem] at h; obtain ⟨hi, _⟩ := h; exact ⟨by show -1 ≤ (i : Int); omega, by show (i : Int) ≤ _; omega⟩
 | none => exact ⟨by show (-1 : Int) ≤ -1; omega, by show (-1 : Int) ≤ _; omega⟩
theorem aKF (b : Nat) (s : List UInt8) (st : St) (at_ dp : Int) (nv : Value) (rest : List Value) (needs : List (List UInt8)) (K : Hl) (hs : s.length ≤ 600) (hok : Ok s st) (hg : Glob K) (hv : Ksl (bE 9) K nv needs) (hn : needs.length ≤ 1000000) :
    Sp Tryz.prog 163 [ptr b, i64 at_, i64 dp] K [psb b s st (nv :: rest)]
      (fD (setC s needs st) fun r v K' L' => K' = K ∧ v = .iface 308 (.agg #[str r.1.name, str r.1.value, i64 r.1.tag]) ∧ L' = [psb b s r.2 (nv :: rest)]) := by
  refine qW (N := fun (r : SetC × St) v L' => v = .iface 308 (.agg #[str r.1.name, str r.1.value, i64 r.1.tag]) ∧ L' = [psb b s r.2 (nv :: rest)]) ?_;have ha := hok.1;refine bA Tryz.func163 rfl Tryz.ntmps163 rfl rfl fun F w => ?_
  refine aI (aB ?_);refine aA (aF rfl) rfl ?_;refine aG (aE ?_);refine aI (aB ?_);refine aA (aC rfl) rfl ?_;refine aW rfl rfl (qS b s st nv rest needs dP _ hv hn) (.cons .here .nil) rfl (fun _ _ => aY _ _) ?_ ?_
  ·
    rintro _ _ _ hT le1;obtain ⟨e, p, hr, fb, h, rfl⟩ := aZ hT;cases h
    refine aN (.cons .here .nil) ?_;refine aJ ?_;refine a8 bQ ?_;have hm : ¬ dP ∈ needs := (by intro h; rw [if_pos h] at hr; cases hr);rw [if_neg hm] at hr;cases hr
    unfold setC;rw [if_neg hm];exact ⟨fb, rfl, rfl⟩
  rintro _ K _ hT -;obtain ⟨u0, hu, rfl, rfl, rfl⟩ := a6 hT;have hm : dP ∈ needs := Classical.byContradiction (fun h => by rw [if_neg h] at hu; cases hu);refine aG (aE ?_);refine aI (aB ?_);refine aA (aC rfl) rfl ?_;refine aA bS rfl ?_;refine aA (aD (o' := 0) bX rfl rfl) rfl ?_;refine aW rfl rfl (dE b 208 s st.1 _ _ _ _ (nv :: rest) hs ha _ hg) (.cons .here .nil) rfl (fun _ _ => aY _ _) ?_ ?_
  ·
    rintro _ _ _ hT2 le1;obtain ⟨e, p, hr, fb, h, rfl⟩ := aZ hT2;cases h
    refine aN (.cons .here .nil) ?_;refine aJ ?_;refine a8 bQ ?_;unfold setC;rw [if_pos hm, hr];exact ⟨fb, rfl, rfl⟩
  rintro _ K _ hT2 -;obtain ⟨r, hr, rfl, rfl, rfl⟩ := a6 hT2;have hro := dT ha hr;refine aG (aE ?_);refine aI (aB ?_);refine aA (cJ aP7 aO0 .nil) rfl ?_;refine ol_s (cL aNL) rfl ?_;rintro _ K _ ⟨b7, rfl, rfl, rfl⟩ -;refine bP (cE zO rfl rfl rfl a7 (by first | (simp [Value.oneCell']; done) | exact fun c hc => El.one _ _ c hc) (.cons (.cons (.cons .nil))) (by intro j hj; simp)) ?_;rintro _ K _ ⟨rfl, rfl⟩ -;refine aG (aE ?_);refine aMI (fun (tag : Int) (st2 : St) => iX s r = .ok (tag, st2) ∧ Ok s st2) (fun _ _ => [(0, ptr b), (7, ptr b7)]) (fun _ _ => K) (fun tag st2 => [pt b7 (aU [str [], str [], i64 tag] 308), psb b s st2 (nv :: rest)]) ?_ ?_
  ·
    refine aI (aB ?_);refine aA (aC rfl) rfl ?_;refine aA bS rfl ?_;refine aA (aD (o' := 0) bX rfl rfl) rfl ?_;refine aA (aD (o' := 2) cF rfl rfl) rfl ?_;refine aA (aD (o' := 2) eE rfl rfl) rfl ?_;refine aA (aK j8 rfl aL rfl) rfl ?_;refine aA (bV rfl rfl) rfl ?_;refine aG (aE ?_);refine bH 21 rfl (fun h21 => ?_) (fun h21 => ?_)
    ·
      refine aI (aB ?_);refine ol_s (bN (z0 := [(str []), (str []), (str [])]) cQ tz9 rfl rfl rfl rfl (.cons rfl rfl rfl (.cons .nil) (.cons rfl rfl rfl (.skip (.cons .nil)) (.cons rfl rfl rfl (.skip (.skip (.cons .nil))) .nil)))) rfl ?_;rintro _ K _ ⟨b22, rfl, rfl, rfl⟩ -;refine aA (aC rfl) rfl ?_;refine aA bS rfl ?_;refine aA (aD (o' := 0) bX rfl rfl) rfl ?_;refine aA (aD (o' := 2) cF rfl rfl) rfl ?_;refine aA (aD (o' := 3) fA rfl rfl) rfl ?_;refine aA (aK ts9 rfl aL rfl) rfl ?_;refine bD rfl rfl (oX _ r.2.s [mP, mQ, kY] _ [pt b22 (aU [str mP, str mQ, str kY] 9)] (.blk (.own .here) rfl rfl) (by simp)) (.cons .here .nil) rfl ?_;rintro _ K _ ⟨rfl, rfl, rfl⟩ -;have hix : -1 ≤ cN [mP, mQ, kY] r.2.s ∧ cN [mP, mQ, kY] r.2.s ≤ 3 := aG4 _ _;refine aA (b0 rfl rfl aH aH) rfl ?_;refine aA (aD (o' := 2) sW rfl rfl) rfl ?_;refine bP (bK ts3 rfl rfl cD a7 (.succ (.succ .zero)) rfl) ?_;rintro _ K _ ⟨rfl, rfl⟩ -;refine aG (aE ?_);refine aI (aI ?_);refine aB ?_;refine aA (aD (o' := 2) sW rfl rfl) rfl ?_;refine aA (aK ts3 rfl aL rfl) rfl ?_;refine aA (bV rfl rfl) rfl ?_;refine aG (aE ?_);refine bH 34 rfl (fun h34 => ?_) (fun h34 => ?_)
      ·
        refine aB ?_;refine aA (aC rfl) rfl ?_;refine aW rfl rfl (gE b s r (nv :: rest) _) (.cons (.there (.there .here)) .nil) rfl (by rintro _ _ ⟨_, h, _⟩; cases h) ?_ ?_
        ·
          rintro _ _ _ ⟨fb, h, rfl⟩ le1;cases h
          refine aN (.cons .here .nil) ?_;refine aJ ?_;refine aJ ?_;refine a8 bQ ?_;have hst : iX s r = .error (4, r.2.at_) := (by unfold iX; rw [if_pos aH, if_pos aH]);unfold setC;rw [if_pos hm, hr];simp only [hst];exact ⟨fb, rfl, rfl⟩
        ·
          rintro _ _ _ ⟨_, h, _⟩; cases h
      ·
        refine aX ?_;refine aE (aB ?_);refine aA (aC rfl) rfl ?_;refine aA bS rfl ?_;refine aA (aD (o' := 0) bX rfl rfl) rfl ?_;refine aW rfl rfl (dE b 208 s r.1 _ _ _ _ (nv :: rest) hs hro.1 _ hg) (.cons (.there (.there .here)) .nil) rfl (fun _ _ => aY _ _) ?_ ?_
        ·
          rintro _ _ _ hT2 le1;obtain ⟨e, p, hr2, fb, h, rfl⟩ := aZ hT2;cases h
          refine aN (.cons .here .nil) ?_;refine aJ ?_;refine a8 bQ ?_;have hst : iX s r = .error (e, p) := (by unfold iX; rw [if_pos aH, if_neg aH, hr2]);unfold setC;rw [if_pos hm, hr];simp only [hst];exact ⟨fb, rfl, rfl⟩
        rintro _ K _ hT2 -;obtain ⟨r2, hr2, rfl, rfl, rfl⟩ := a6 hT2;refine aG ?_
        first
          | (have hst : iX s r = .ok (1 + cN [mP, mQ, kY] r.2.s, r2) := (by unfold iX; rw [if_pos aH, if_neg aH, hr2])
             refine aN (.cons (.there (.there .here)) (.cons .here .nil)) ?_;exact yG _ r2 ⟨hst, dT hro.1 hr2⟩ (.cons 0 rfl (.cons 7 rfl .nil)) rfl (fun _ h => h))
          | (have hst : iX s r = .ok (0, r) := (by unfold iX; rw [if_neg aH])
             exact yG 0 r ⟨hst, hro⟩ (.cons 0 rfl (.cons 7 rfl .nil)) rfl (fun _ h => h))
    ·
      refine aX ?_
      first
        | (have hst : iX s r = .ok (1 + cN [mP, mQ, kY] r.2.s, r2) := (by unfold iX; rw [if_pos aH, if_neg aH, hr2])
           refine aN (.cons (.there (.there .here)) (.cons .here .nil)) ?_;exact yG _ r2 ⟨hst, dT hro.1 hr2⟩ (.cons 0 rfl (.cons 7 rfl .nil)) rfl (fun _ h => h))
        | (have hst : iX s r = .ok (0, r) := (by unfold iX; rw [if_neg aH])
           exact yG 0 r ⟨hst, hro⟩ (.cons 0 rfl (.cons 7 rfl .nil)) rfl (fun _ h => h))
  ·
    intro tag st2 ⟨ht, hok2⟩;have hsc : setC s needs st = lH s (tag, st2) := (by unfold setC; rw [if_pos hm, hr]; simp only [ht]);refine aI (aB ?_);refine aA (aC rfl) rfl ?_;refine aW rfl rfl (iS b s st2 (nv :: rest) 262 #[] (fun x => if named x = true then 0 else 7) _ hs hok2.1 hok2.2 hg (fun x hx => aHA x _ aH)) (.cons (.there .here) .nil) rfl (fun _ _ => aY _ _) ?_ ?_
    ·
      rintro _ _ _ hT3 le1;obtain ⟨e, p, h3, fb, h, rfl⟩ := aZ hT3;cases h
      refine aN (.cons .here .nil) ?_;refine aJ ?_;refine a8 bQ ?_;rw [hsc];unfold lH;rw [h3];exact ⟨fb, rfl, rfl⟩
    rintro _ K _ hT3 -;obtain ⟨n, h3, rfl, rfl, rfl⟩ := a6 hT3;have hok3 := jZ hok2.1 h3;refine cG rfl rfl (e9 _ _ (by have := aKR hok2 h3; omega)) rfl ?_;refine aA (aD (o' := 0) xQ rfl rfl) rfl ?_;refine bP (bK ts9 rfl rfl cD a7 .zero rfl) ?_;rintro _ K _ ⟨rfl, rfl⟩ -;refine aG (aE ?_);refine aI (aB ?_);refine aA (aC rfl) rfl ?_;refine aW rfl rfl (iS b s n.2 (nv :: rest) 177 #[] (fun _ => 0) _ hs hok3.1 hok3.2 hg (fun x hx => iZ x _)) (.cons .here .nil) rfl (fun _ _ => aY _ _) ?_ ?_
    ·
      rintro _ _ _ hT4 le1;obtain ⟨e, p, h4, fb, h, rfl⟩ := aZ hT4;cases h
      refine aN (.cons .here .nil) ?_;refine aJ ?_;refine a8 bQ ?_;rw [hsc];unfold lH;simp only [h3, h4];exact ⟨fb, rfl, rfl⟩
    rintro _ K _ hT4 -;obtain ⟨v, h4, rfl, rfl, rfl⟩ := a6 hT4;have hok4 := jZ hok3.1 h4;refine aA (aD (o' := 1) xR rfl rfl) rfl ?_;refine bP (bK ts9 rfl rfl cD a7 (.succ .zero) rfl) ?_;rintro _ K _ ⟨rfl, rfl⟩ -;refine aG (aE ?_);refine aI (aB ?_);refine aA (aC rfl) rfl ?_;refine aW rfl rfl (iK b s v.2 (nv :: rest) [59] _ hs hok4.1 hg) (.cons .here .nil) rfl (fun _ _ => aY _ _) ?_ ?_
    ·
      rintro _ _ _ hT5 le1;obtain ⟨e, p, h5, fb, h, rfl⟩ := aZ hT5;cases h
      refine aN (.cons .here .nil) ?_;refine aJ ?_;refine a8 bQ ?_;rw [hsc];unfold lH;simp only [h3, h4, h5];exact ⟨fb, rfl, rfl⟩
    rintro _ K _ hT5 -;obtain ⟨q, h5, rfl, rfl, rfl⟩ := a6 hT5;refine aG (aE ?_);refine aI (aB ?_);refine aA (bT zO rfl aL rfl rfl) rfl ?_;refine aA (dA Tryz.underlying308 (fun _ h => by cases h) rfl) rfl ?_;refine aA (aF rfl) rfl ?_;refine aG (aE ?_);refine bM ?_;refine aN (.cons .here .nil) ?_;refine bL rfl rfl (Hl.le_refl _) ?_;have hfin : lH s (tag, st2) = .ok (⟨dH n.1, v.1, tag⟩, q) := (by unfold lH; simp only [h3, h4, h5]);rw [hsc, hfin];exact ⟨_, rfl, rfl, rfl⟩
end Go.Proofs
end
section
namespace Go.Proofs
open Go Go.SL Go.Syn
theorem aG5 (xs : List (List UInt8)) (x : List UInt8) : -1 ≤ cN xs x ∧ cN xs x < xs.length := by
 unfold cN;cases h : xs.findIdx? (fun y => decide (x = y)) with
 | some i => rw [List.findIdx?_eq_some_iff_getElem] at h; obtain ⟨hi, _⟩ := h; exact ⟨by show -1 ≤ (i : Int); omega, by show (i : Int) < _; omega⟩
 | none => exact ⟨by show (-1 : Int) ≤ -1; omega, by show (-1 : Int) < _; omega⟩
theorem aM8 {op : Int} (h : op = 7) (x : List UInt8) : lZ op x = Syn.oneOf 7 [wD, txTo] (dH x) := by unfold lZ; rw [if_pos h]
theorem aM7 {op : Int} (h : ¬ op = 7) (x : List UInt8) : lZ op x = 0 := by unfold lZ; rw [if_neg h]
theorem qQ (b : Nat) (s : List UInt8) (st : St) (op : Int) (ext : List UInt8) (nv : Value) (rest : List Value) (needs : List (List UInt8)) (K : Hl) (hs : s.length ≤ 600) (hok : Ok s st) (hg : Glob K) (hv : Ksl (bE 9) K nv needs) (hn : needs.length ≤ 1000000) :
    Sp Tryz.prog 173 [ptr b, i64 op, str ext] K [psb b s st (nv :: rest)]
      (fD (jD s needs op ext st) fun r v K' L' => Rep1 K' r.1 v ∧ L' = [psb b s r.2 (nv :: rest)]) := by
  have ha := hok.1;refine bA Tryz.func173 rfl Tryz.ntmps173 rfl rfl fun F w => ?_
  refine aI (aB ?_);refine aA (aF rfl) rfl ?_;refine aG (aE ?_);refine iE (fun (_ : Unit) => ¬ (ext ≠ [] ∧ ext ∉ needs)) (fun _ => [(0, ptr b), (1, i64 op), (2, str ext)]) (fun _ => K) (fun _ => [psb b s st (nv :: rest)]) ?_ ?_
  ·
    refine aI (aB ?_);refine aA (aC rfl) rfl ?_;refine aA (qJ rfl rfl) rfl ?_;refine aG (aE ?_);refine bH 12 rfl (fun h12 => ?_) (fun h12 => ?_)
    ·
      refine aB ?_;refine aA (aC rfl) rfl ?_;refine aA (aC rfl) rfl ?_;refine aW rfl rfl (qS b s st nv rest needs ext _ hv hn) (.cons .here .nil) rfl (fun _ _ => aY _ _) ?_ ?_
      ·
        rintro _ _ _ hTr le1;obtain ⟨e, p, hu, fb, h, rfl⟩ := aZ hTr;cases h
        refine aN (.cons .here .nil) ?_;refine aJ ?_;refine a8 bQ ?_;have hm : ¬ ext ∈ needs := (by intro h; rw [if_pos h] at hu; cases hu);rw [if_neg hm] at hu;cases hu
        unfold jD;rw [if_pos ⟨h12, hm⟩];exact ⟨fb, rfl, rfl⟩
      rintro _ K _ hTr -;obtain ⟨u0, hu, rfl, rfl, rfl⟩ := a6 hTr;clear hTr;have hm : ext ∈ needs := Classical.byContradiction (fun h => by rw [if_neg h] at hu; cases hu);have hne : ¬ (ext ≠ [] ∧ ext ∉ needs) := fun h => h.2 hm
      refine aG ?_;exact cA () hne (.cons 0 rfl (.cons 1 rfl (.cons 2 rfl .nil))) rfl (fun _ h => h)
    ·
      have hne : ¬ (ext ≠ [] ∧ ext ∉ needs) := fun h => h12 h.1
      refine aX ?_;exact cA () hne (.cons 0 rfl (.cons 1 rfl (.cons 2 rfl .nil))) rfl (fun _ h => h)
  ·
    intro _ hne;refine aI (aB ?_);refine aA (aC rfl) rfl ?_;refine aA bS rfl ?_;refine aA (aD (o' := 0) bX rfl rfl) rfl ?_;refine aW rfl rfl (dE b 208 s st.1 _ _ _ _ (nv :: rest) hs ha _ hg) (.cons .here .nil) rfl (fun _ _ => aY _ _) ?_ ?_
    ·
      rintro _ _ _ hTr le1;obtain ⟨e, p, hr, fb, h, rfl⟩ := aZ hTr;cases h
      refine aN (.cons .here .nil) ?_;refine aJ ?_;refine a8 bQ ?_;simp only [jD, hne, hr, if_true, if_false, ↓reduceIte];exact ⟨fb, rfl, rfl⟩
    rintro _ K _ hTr -;obtain ⟨r, hr, rfl, rfl, rfl⟩ := a6 hTr;clear hTr;have hro := dT ha hr;refine aG (aE ?_);refine aI (aB ?_);refine aA (aC rfl) rfl ?_;refine aA (cJ aQB aO4 (.cons rfl rfl rfl (.skip (.skip (.cons .nil))) .nil)) rfl ?_;refine ol_s (cL aNO) rfl ?_;rintro _ K _ ⟨b7, rfl, rfl, rfl⟩ -;refine bP (cE zQ rfl rfl rfl a7 (by first | (simp [Value.oneCell']; done) | exact fun c hc => El.one _ _ c hc) (.cons (.cons (.cons (.cons (.cons .nil))))) (by intro j hj; simp)) ?_;rintro _ K _ ⟨rfl, rfl⟩ -;refine aG (aE ?_);refine aI (aI ?_);refine aB ?_;refine aA (aF rfl) rfl ?_;refine aG (aE ?_);refine bC ?_;refine tW (fun (hw : How) (st2 : St) => Ok s st2 ∧ (0 ≤ hw.tag ∧ hw.tag ≤ 3) ∧ ∃ f, mu s st2 ≤ f ∧ jD s needs op ext st = lV s op (eL s (f + 1) hw st2)) (fun hw _ => [(0, ptr b), (1, i64 op), (7, ptr b7), (8, .bool hw.cmp)]) (fun _ _ => K) (fun hw st2 => [pt b7 (aU [i64 hw.tag, .bool hw.oct, i64 op, .slice none 0 0, .slice none 0 0] 380), psb b s st2 (nv :: rest)]) (fun _ st2 => mu s st2) ⟨false, 0, false⟩ r ⟨hro, ⟨Int.le_refl 0, by decide⟩, mu s r, Nat.le_refl _, by simp only [jD, hne, if_false, hr]⟩ (.cons 0 rfl (.cons 1 rfl (.cons 7 rfl (.cons 8 rfl .nil)))) rfl (fun _ h => h) ?_;intro hw st2 ⟨hok2, ht, f, hf, hx⟩;refine aI (aI ?_);refine aB ?_;refine aA (aC rfl) rfl ?_;refine aA bS rfl ?_;refine aA (aD (o' := 0) bX rfl rfl) rfl ?_;refine aA (aD (o' := 2) cF rfl rfl) rfl ?_;refine aA (aD (o' := 2) eE rfl rfl) rfl ?_;refine aA (aK j8 rfl aL rfl) rfl ?_;refine aA (bV rfl rfl) rfl ?_;refine aG (aE ?_);refine bH 28 rfl (fun h28 => ?_) (fun h28 => ?_)
    ·
      have g28 : st2.2.kind = 2 := by omega
      refine aX ?_;refine aE (bC ?_);refine aI (aB ?_);refine ol_s (bN (z0 := [(str []), (str []), (str []), (str [])]) cQ tz9 rfl rfl rfl rfl (.cons rfl rfl rfl (.cons .nil) (.cons rfl rfl rfl (.skip (.cons .nil)) (.cons rfl rfl rfl (.skip (.skip (.cons .nil))) (.cons rfl rfl rfl (.skip (.skip (.skip (.cons .nil)))) .nil))))) rfl ?_;rintro _ K _ ⟨b29, rfl, rfl, rfl⟩ -;refine aA (aC rfl) rfl ?_;refine aA bS rfl ?_;refine aA (aD (o' := 0) bX rfl rfl) rfl ?_;refine aA (aD (o' := 2) cF rfl rfl) rfl ?_;refine aA (aD (o' := 3) fA rfl rfl) rfl ?_;refine aA (aK ts9 rfl aL rfl) rfl ?_;refine bD rfl rfl (oX _ st2.2.s dF _ [pt b29 (aU [str txIs, str wB, str xX, str rX] 9)] (.blk (.own .here) rfl rfl) (by simp [dF])) (.cons .here .nil) rfl ?_;rintro _ K _ ⟨rfl, rfl, rfl⟩ -;have hix : -1 ≤ cN dF st2.2.s ∧ cN dF st2.2.s < 4 := aG5 _ _;refine aA (b0 rfl rfl aH aH) rfl ?_;refine aA (aF rfl) rfl ?_;refine aG (aE ?_);refine bC (aI ?_);refine aB ?_;refine aA (aC rfl) rfl ?_;refine aA (bV rfl rfl) rfl ?_;refine aA (aF rfl) rfl ?_;refine aG (aE ?_);refine bH 49 rfl (fun h49 => ?_) (fun h49 => ?_)
      ·
        have g49 : cN dF st2.2.s = -1 := by omega
        refine aB ?_;refine aA (aC rfl) rfl ?_;refine aW rfl rfl (gE b s st2 (nv :: rest) _) (.cons (.there (.there .here)) .nil) rfl (by rintro _ _ ⟨_, h, _⟩; cases h) ?_ ?_
        ·
          rintro _ _ _ ⟨fb, h, rfl⟩ le1;cases h
          refine aN (.cons .here .nil) ?_;refine aQ ?_;refine aQ ?_;refine aJ ?_;refine aQ ?_;refine aJ ?_;refine a8 bQ ?_;simp only [hx, eL, g28, g49, if_true, if_false, ↓reduceIte];exact ⟨fb, rfl, rfl⟩
        ·
          rintro _ _ _ ⟨_, h, _⟩; cases h
      ·
        have g49 : ¬ cN dF st2.2.s = -1 := by omega
        refine aI (aI ?_);refine aB ?_;refine aA (aC rfl) rfl ?_;refine aA (bV rfl rfl) rfl ?_;refine aA (aC rfl) rfl ?_;refine cB 57 rfl (fun g57 => ?_) (fun g57 => ?_)
        ·
          refine aV rfl rfl ?_;refine aA (aC rfl) rfl ?_;refine aA (bJ rfl rfl) rfl ?_;refine aA (aF rfl) rfl ?_;refine aG (aE ?_)
          first | refine bH 54 rfl (fun h54 => ?_) (fun h54 => ?_) | refine d6 54 rfl (fun h54 => ?_) (fun h54 => ?_)
          ·
            refine aX ?_;refine aE ?_;refine eK rfl ?_;refine aB ?_;refine aA (aC rfl) rfl ?_;refine aA bS rfl ?_;refine aA (aD (o' := 0) bX rfl rfl) rfl ?_;refine aA (aD (o' := 2) cF rfl rfl) rfl ?_;refine aA (aD (o' := 5) fJ rfl rfl) rfl ?_;refine aA (aK ts3 rfl aL rfl) rfl ?_;have hcond : (cN dF st2.2.s = 3 ∧ hw.cmp = true) ∨ (cN dF st2.2.s < 3 ∧ hw.tag ≠ 0) := (by first | exact .inl ⟨by omega, by assumption⟩ | exact .inr ⟨by omega, by omega⟩);refine aW rfl rfl (dY 7 st2.2.at_ _) .nil rfl (by rintro _ _ ⟨_, h, _⟩; cases h) ?_ ?_
            ·
              rintro _ _ _ ⟨fb, h, rfl⟩ le1;cases h
              refine aN (.cons .here .nil) ?_;refine aQ ?_;refine aQ ?_;refine aJ ?_;refine aQ ?_;refine aJ ?_;refine a8 bQ ?_;simp only [hx, eL, g28, g49, if_pos hcond, if_true, if_false];exact ⟨fb, rfl, rfl⟩
            ·
              rintro _ _ _ ⟨_, h, _⟩; cases h
          ·
            refine aB ?_;refine aA (aC rfl) rfl ?_;refine aA (cU rfl rfl) rfl ?_;refine aA (aC rfl) rfl ?_;refine cB 62 rfl (fun g62 => ?_) (fun g62 => ?_)
            ·
              refine aV rfl rfl ?_;refine aA (aD (o' := 0) fK rfl rfl) rfl ?_;refine aV rfl rfl ?_;refine aA (aD (o' := 0) iU rfl rfl) rfl ?_;refine aV rfl rfl ?_;refine aA (aK ts3 rfl aL rfl) rfl ?_;refine aV rfl rfl ?_;refine aA (fF rfl rfl) rfl ?_;refine aA (bJ rfl rfl) rfl ?_;refine aA (aF rfl) rfl ?_;refine aG (aE ?_)
              first | refine bH 54 rfl (fun h54 => ?_) (fun h54 => ?_) | refine d6 54 rfl (fun h54 => ?_) (fun h54 => ?_)
              ·
                refine aB ?_;refine aA (aC rfl) rfl ?_;refine aA bS rfl ?_;refine aA (aD (o' := 0) bX rfl rfl) rfl ?_;refine aA (aD (o' := 2) cF rfl rfl) rfl ?_;refine aA (aD (o' := 5) fJ rfl rfl) rfl ?_;refine aA (aK ts3 rfl aL rfl) rfl ?_;have hcond : (cN dF st2.2.s = 3 ∧ hw.cmp = true) ∨ (cN dF st2.2.s < 3 ∧ hw.tag ≠ 0) := (by first | exact .inl ⟨by omega, by assumption⟩ | exact .inr ⟨by omega, by omega⟩);refine aW rfl rfl (dY 7 st2.2.at_ _) .nil rfl (by rintro _ _ ⟨_, h, _⟩; cases h) ?_ ?_
                ·
                  rintro _ _ _ ⟨fb, h, rfl⟩ le1;cases h
                  refine aN (.cons .here .nil) ?_;refine aQ ?_;refine aQ ?_;refine aJ ?_;refine aQ ?_;refine aJ ?_;refine a8 bQ ?_;simp only [hx, eL, g28, g49, if_pos hcond, if_true, if_false];exact ⟨fb, rfl, rfl⟩
                ·
                  rintro _ _ _ ⟨_, h, _⟩; cases h
              ·
                refine aI (aB ?_);refine aA (aC rfl) rfl ?_;refine aA (cU rfl rfl) rfl ?_;refine aA (aF rfl) rfl ?_;refine aG (aE ?_);refine bH 75 rfl (fun h75 => ?_) (fun h75 => ?_)
                ·
                  have g75 : cN dF st2.2.s < 3 := by omega
                  have hcond : ¬ ((cN dF st2.2.s = 3 ∧ hw.cmp = true) ∨ (cN dF st2.2.s < 3 ∧ hw.tag ≠ 0)) := (by rintro (⟨a, b⟩ | ⟨a, b⟩) <;> first | omega | (simp_all; done));refine aI (aB ?_);refine aA (aC rfl) rfl ?_;refine aA (aD (o' := 0) fK rfl rfl) rfl ?_;refine aA (aD (o' := 0) iU rfl rfl) rfl ?_;refine bP (bK ts3 rfl rfl cD a7 .zero rfl) ?_;rintro _ K _ ⟨rfl, rfl⟩ -;refine aG (aE ?_);refine aB ?_;refine aA (aC rfl) rfl ?_;refine aA bS rfl ?_;refine aA (aD (o' := 0) bX rfl rfl) rfl ?_;refine aW rfl rfl (dE b 208 s st2.1 _ _ _ _ (nv :: rest) hs hok2.1 _ hg) (.cons (.there (.there .here)) .nil) rfl (fun _ _ => aY _ _) ?_ ?_
                  ·
                    rintro _ _ _ hTr le1;obtain ⟨e, p, hr2, fb, h, rfl⟩ := aZ hTr;cases h
                    refine aN (.cons .here .nil) ?_;refine aQ ?_;refine aQ ?_;refine aJ ?_;refine aQ ?_;refine aJ ?_;refine a8 bQ ?_;simp only [hx, eL, g28, g49, if_neg hcond, if_pos g75, hr2, if_true, if_false, ↓reduceIte];exact ⟨fb, rfl, rfl⟩
                  rintro _ K _ hTr -;obtain ⟨r2, hr2, rfl, rfl, rfl⟩ := a6 hTr;clear hTr;have hok3 := dT hok2.1 hr2;refine aG (aM ?_);refine aM ?_
                  first
                    | (have hm2 := eS hok2.1 aH hr2; obtain ⟨f0, rfl⟩ : ∃ f0, f = f0 + 1 := ⟨f - 1, by omega⟩
                       refine aN (.cons (.there (.there .here)) (.cons .here .nil)) ?_;refine dI ⟨hw.cmp, 1 + cN dF st2.2.s, hw.oct⟩ r2 ⟨hok3, ⟨by simp only []; omega, by simp only []; omega⟩, f0, by omega, ?_⟩ aH (.cons 0 rfl (.cons 1 rfl (.cons 7 rfl (.cons 8 rfl .nil)))) rfl (fun _ h => h)
                       simp only [hx, eL, g28, g49, if_neg hcond, if_pos g75, hr2, if_true, if_false, ↓reduceIte])
                    | (have hm2 := eS hok2.1 aH hr3; have hm3 := iI hok3.1 hx4; obtain ⟨f0, rfl⟩ : ∃ f0, f = f0 + 1 := ⟨f - 1, by omega⟩
                       refine aN (.cons (.there (.there .here)) (.cons .here .nil)) ?_;refine jQ (Hl.le_trans leA leB) ?_;refine dI ⟨true, hw.tag, decide (x.1 = eU)⟩ x.2 ⟨hok4, ht, f0, by omega, ?_⟩ aH (.cons 0 rfl (.cons 1 rfl (.cons 7 rfl (.cons 8 rfl .nil)))) rfl (fun _ h => h)
                       simp only [hx, eL, g28, g49, if_neg hcond, if_pos g75, hr2, if_true, if_false, ↓reduceIte])
                ·
                  have g75 : ¬ cN dF st2.2.s < 3 := by omega
                  have hcond : ¬ ((cN dF st2.2.s = 3 ∧ hw.cmp = true) ∨ (cN dF st2.2.s < 3 ∧ hw.tag ≠ 0)) := (by rintro (⟨a, b⟩ | ⟨a, b⟩) <;> first | omega | (simp_all; done));refine aI (aB ?_);refine aA (aF rfl) rfl ?_;refine aG (aE ?_);refine aI (aB ?_);refine aA (aC rfl) rfl ?_;refine aA bS rfl ?_;refine aA (aD (o' := 0) bX rfl rfl) rfl ?_;refine aW rfl rfl (dE b 208 s st2.1 _ _ _ _ (nv :: rest) hs hok2.1 _ hg) (.cons (.there (.there .here)) .nil) rfl (fun _ _ => aY _ _) ?_ ?_
                  ·
                    rintro _ _ _ hTr le1;obtain ⟨e, p, hr3, fb, h, rfl⟩ := aZ hTr;cases h
                    refine aN (.cons .here .nil) ?_;refine aJ ?_;refine aQ ?_;refine aQ ?_;refine aJ ?_;refine aQ ?_;refine aJ ?_;refine a8 bQ ?_;simp only [hx, eL, g28, g49, if_neg hcond, if_neg g75, hr3, if_true, if_false, ↓reduceIte];exact ⟨fb, rfl, rfl⟩
                  rintro _ K _ hTr -;obtain ⟨r3, hr3, rfl, rfl, rfl⟩ := a6 hTr;clear hTr;have hok3 := dT hok2.1 hr3;refine aG (aE ?_);refine aB ?_;refine aA (aC rfl) rfl ?_;refine ol_s (bN (z0 := [(str []), (str [])]) cQ tz9 rfl rfl rfl rfl (.cons rfl rfl rfl (.cons .nil) (.cons rfl rfl rfl (.skip (.cons .nil)) .nil))) rfl ?_;rintro _ K _ ⟨b43, rfl, rfl, rfl⟩ -;refine e7 fun K1 leA hK1 => ?_
                  refine bD rfl rfl (kI 7 _ _ rfl) .nil rfl ?_;rintro _ K2 _ ⟨c1, c2, rfl, hc1, hc2, rfl⟩ leB;refine aW rfl rfl (iS b s r3 (nv :: rest) 192 #[ptr c1, ptr c2] (Syn.oneOf 7 [eU, fW]) _ hs hok3.1 hok3.2 (hg.mono (Hl.le_trans leA leB)) (fun x hx => jK x 7 [eU, fW] _ c1 c2 _ hc1 hc2 (.inr ⟨b43, 0, 2, [str eU, str fW], (0, 0), rfl, ⟨_, leB _ _ hK1⟩, rfl⟩) (by simp))) (.cons .here .nil) rfl (fun _ _ => aY _ _) ?_ ?_
                  ·
                    rintro _ _ _ hTr le1;obtain ⟨e, p, hx4, fb, h, rfl⟩ := aZ hTr;cases h
                    refine aN (.cons .here .nil) ?_;refine aQ ?_;refine aQ ?_;refine aJ ?_;refine aQ ?_;refine aJ ?_;refine a8 (Hl.le_trans leA (Hl.le_trans leB le1)) ?_;simp only [hx, eL, g28, g49, if_neg hcond, if_neg g75, hr3, hx4, if_true, if_false, ↓reduceIte];exact ⟨fb, rfl, rfl⟩
                  rintro _ K _ hTr -;obtain ⟨x, hx4, rfl, rfl, rfl⟩ := a6 hTr;clear hTr;have hok4 := jZ hok3.1 hx4;refine aA (iV rfl rfl) rfl ?_;refine aA (aD (o' := 0) fK rfl rfl) rfl ?_;refine aA (aD (o' := 1) m9 rfl rfl) rfl ?_;refine bP (bK ts4 rfl rfl cD a7 (.succ .zero) rfl) ?_;rintro _ K _ ⟨rfl, rfl⟩ -;refine aG (aM ?_);refine aM ?_
                  first
                    | (have hm2 := eS hok2.1 aH hr2; obtain ⟨f0, rfl⟩ : ∃ f0, f = f0 + 1 := ⟨f - 1, by omega⟩
                       refine aN (.cons (.there (.there .here)) (.cons .here .nil)) ?_;refine dI ⟨hw.cmp, 1 + cN dF st2.2.s, hw.oct⟩ r2 ⟨hok3, ⟨by simp only []; omega, by simp only []; omega⟩, f0, by omega, ?_⟩ aH (.cons 0 rfl (.cons 1 rfl (.cons 7 rfl (.cons 8 rfl .nil)))) rfl (fun _ h => h)
                       simp only [hx, eL, g28, g49, if_neg hcond, if_neg g75, hr3, hx4, if_true, if_false, ↓reduceIte])
                    | (have hm2 := eS hok2.1 aH hr3; have hm3 := iI hok3.1 hx4; obtain ⟨f0, rfl⟩ : ∃ f0, f = f0 + 1 := ⟨f - 1, by omega⟩
                       refine aN (.cons (.there (.there .here)) (.cons .here .nil)) ?_;refine jQ (Hl.le_trans leA leB) ?_;refine dI ⟨true, hw.tag, decide (x.1 = eU)⟩ x.2 ⟨hok4, ht, f0, by omega, ?_⟩ aH (.cons 0 rfl (.cons 1 rfl (.cons 7 rfl (.cons 8 rfl .nil)))) rfl (fun _ h => h)
                       simp only [hx, eL, g28, g49, if_neg hcond, if_neg g75, hr3, hx4, if_true, if_false, ↓reduceIte])
            ·
              refine aR rfl rfl rfl ?_;refine aR rfl rfl rfl ?_;refine aR rfl rfl rfl ?_;refine aR rfl rfl rfl ?_;refine aA (bB rfl rfl) rfl ?_;refine aA (aF rfl) rfl ?_;refine aG (aE ?_);refine cO rfl ?_;refine aI (aB ?_);refine aA (aC rfl) rfl ?_;refine aA (cU rfl rfl) rfl ?_;refine aA (aF rfl) rfl ?_;refine aG (aE ?_);refine bH 75 rfl (fun h75 => ?_) (fun h75 => ?_)
              ·
                have g75 : cN dF st2.2.s < 3 := by omega
                have hcond : ¬ ((cN dF st2.2.s = 3 ∧ hw.cmp = true) ∨ (cN dF st2.2.s < 3 ∧ hw.tag ≠ 0)) := (by rintro (⟨a, b⟩ | ⟨a, b⟩) <;> first | omega | (simp_all; done));refine aI (aB ?_);refine aA (aC rfl) rfl ?_;refine aA (aD (o' := 0) fK rfl rfl) rfl ?_;refine aA (aD (o' := 0) iU rfl rfl) rfl ?_;refine bP (bK ts3 rfl rfl cD a7 .zero rfl) ?_;rintro _ K _ ⟨rfl, rfl⟩ -;refine aG (aE ?_);refine aB ?_;refine aA (aC rfl) rfl ?_;refine aA bS rfl ?_;refine aA (aD (o' := 0) bX rfl rfl) rfl ?_;refine aW rfl rfl (dE b 208 s st2.1 _ _ _ _ (nv :: rest) hs hok2.1 _ hg) (.cons (.there (.there .here)) .nil) rfl (fun _ _ => aY _ _) ?_ ?_
                ·
                  rintro _ _ _ hTr le1;obtain ⟨e, p, hr2, fb, h, rfl⟩ := aZ hTr;cases h
                  refine aN (.cons .here .nil) ?_;refine aQ ?_;refine aQ ?_;refine aJ ?_;refine aQ ?_;refine aJ ?_;refine a8 bQ ?_;simp only [hx, eL, g28, g49, if_neg hcond, if_pos g75, hr2, if_true, if_false, ↓reduceIte];exact ⟨fb, rfl, rfl⟩
                rintro _ K _ hTr -;obtain ⟨r2, hr2, rfl, rfl, rfl⟩ := a6 hTr;clear hTr;have hok3 := dT hok2.1 hr2;refine aG (aM ?_);refine aM ?_
                first
                  | (have hm2 := eS hok2.1 aH hr2; obtain ⟨f0, rfl⟩ : ∃ f0, f = f0 + 1 := ⟨f - 1, by omega⟩
                     refine aN (.cons (.there (.there .here)) (.cons .here .nil)) ?_;refine dI ⟨hw.cmp, 1 + cN dF st2.2.s, hw.oct⟩ r2 ⟨hok3, ⟨by simp only []; omega, by simp only []; omega⟩, f0, by omega, ?_⟩ aH (.cons 0 rfl (.cons 1 rfl (.cons 7 rfl (.cons 8 rfl .nil)))) rfl (fun _ h => h)
                     simp only [hx, eL, g28, g49, if_neg hcond, if_pos g75, hr2, if_true, if_false, ↓reduceIte])
                  | (have hm2 := eS hok2.1 aH hr3; have hm3 := iI hok3.1 hx4; obtain ⟨f0, rfl⟩ : ∃ f0, f = f0 + 1 := ⟨f - 1, by omega⟩
                     refine aN (.cons (.there (.there .here)) (.cons .here .nil)) ?_;refine jQ (Hl.le_trans leA leB) ?_;refine dI ⟨true, hw.tag, decide (x.1 = eU)⟩ x.2 ⟨hok4, ht, f0, by omega, ?_⟩ aH (.cons 0 rfl (.cons 1 rfl (.cons 7 rfl (.cons 8 rfl .nil)))) rfl (fun _ h => h)
                     simp only [hx, eL, g28, g49, if_neg hcond, if_pos g75, hr2, if_true, if_false, ↓reduceIte])
              ·
                have g75 : ¬ cN dF st2.2.s < 3 := by omega
                have hcond : ¬ ((cN dF st2.2.s = 3 ∧ hw.cmp = true) ∨ (cN dF st2.2.s < 3 ∧ hw.tag ≠ 0)) := (by rintro (⟨a, b⟩ | ⟨a, b⟩) <;> first | omega | (simp_all; done));refine aI (aB ?_);refine aA (aF rfl) rfl ?_;refine aG (aE ?_);refine aI (aB ?_);refine aA (aC rfl) rfl ?_;refine aA bS rfl ?_;refine aA (aD (o' := 0) bX rfl rfl) rfl ?_;refine aW rfl rfl (dE b 208 s st2.1 _ _ _ _ (nv :: rest) hs hok2.1 _ hg) (.cons (.there (.there .here)) .nil) rfl (fun _ _ => aY _ _) ?_ ?_
                ·
                  rintro _ _ _ hTr le1;obtain ⟨e, p, hr3, fb, h, rfl⟩ := aZ hTr;cases h
                  refine aN (.cons .here .nil) ?_;refine aJ ?_;refine aQ ?_;refine aQ ?_;refine aJ ?_;refine aQ ?_;refine aJ ?_;refine a8 bQ ?_;simp only [hx, eL, g28, g49, if_neg hcond, if_neg g75, hr3, if_true, if_false, ↓reduceIte];exact ⟨fb, rfl, rfl⟩
                rintro _ K _ hTr -;obtain ⟨r3, hr3, rfl, rfl, rfl⟩ := a6 hTr;clear hTr;have hok3 := dT hok2.1 hr3;refine aG (aE ?_);refine aB ?_;refine aA (aC rfl) rfl ?_;refine ol_s (bN (z0 := [(str []), (str [])]) cQ tz9 rfl rfl rfl rfl (.cons rfl rfl rfl (.cons .nil) (.cons rfl rfl rfl (.skip (.cons .nil)) .nil))) rfl ?_;rintro _ K _ ⟨b43, rfl, rfl, rfl⟩ -;refine e7 fun K1 leA hK1 => ?_
                refine bD rfl rfl (kI 7 _ _ rfl) .nil rfl ?_;rintro _ K2 _ ⟨c1, c2, rfl, hc1, hc2, rfl⟩ leB;refine aW rfl rfl (iS b s r3 (nv :: rest) 192 #[ptr c1, ptr c2] (Syn.oneOf 7 [eU, fW]) _ hs hok3.1 hok3.2 (hg.mono (Hl.le_trans leA leB)) (fun x hx => jK x 7 [eU, fW] _ c1 c2 _ hc1 hc2 (.inr ⟨b43, 0, 2, [str eU, str fW], (0, 0), rfl, ⟨_, leB _ _ hK1⟩, rfl⟩) (by simp))) (.cons .here .nil) rfl (fun _ _ => aY _ _) ?_ ?_
                ·
                  rintro _ _ _ hTr le1;obtain ⟨e, p, hx4, fb, h, rfl⟩ := aZ hTr;cases h
                  refine aN (.cons .here .nil) ?_;refine aQ ?_;refine aQ ?_;refine aJ ?_;refine aQ ?_;refine aJ ?_;refine a8 (Hl.le_trans leA (Hl.le_trans leB le1)) ?_;simp only [hx, eL, g28, g49, if_neg hcond, if_neg g75, hr3, hx4, if_true, if_false, ↓reduceIte];exact ⟨fb, rfl, rfl⟩
                rintro _ K _ hTr -;obtain ⟨x, hx4, rfl, rfl, rfl⟩ := a6 hTr;clear hTr;have hok4 := jZ hok3.1 hx4;refine aA (iV rfl rfl) rfl ?_;refine aA (aD (o' := 0) fK rfl rfl) rfl ?_;refine aA (aD (o' := 1) m9 rfl rfl) rfl ?_;refine bP (bK ts4 rfl rfl cD a7 (.succ .zero) rfl) ?_;rintro _ K _ ⟨rfl, rfl⟩ -;refine aG (aM ?_);refine aM ?_
                first
                  | (have hm2 := eS hok2.1 aH hr2; obtain ⟨f0, rfl⟩ : ∃ f0, f = f0 + 1 := ⟨f - 1, by omega⟩
                     refine aN (.cons (.there (.there .here)) (.cons .here .nil)) ?_;refine dI ⟨hw.cmp, 1 + cN dF st2.2.s, hw.oct⟩ r2 ⟨hok3, ⟨by simp only []; omega, by simp only []; omega⟩, f0, by omega, ?_⟩ aH (.cons 0 rfl (.cons 1 rfl (.cons 7 rfl (.cons 8 rfl .nil)))) rfl (fun _ h => h)
                     simp only [hx, eL, g28, g49, if_neg hcond, if_neg g75, hr3, hx4, if_true, if_false, ↓reduceIte])
                  | (have hm2 := eS hok2.1 aH hr3; have hm3 := iI hok3.1 hx4; obtain ⟨f0, rfl⟩ : ∃ f0, f = f0 + 1 := ⟨f - 1, by omega⟩
                     refine aN (.cons (.there (.there .here)) (.cons .here .nil)) ?_;refine jQ (Hl.le_trans leA leB) ?_;refine dI ⟨true, hw.tag, decide (x.1 = eU)⟩ x.2 ⟨hok4, ht, f0, by omega, ?_⟩ aH (.cons 0 rfl (.cons 1 rfl (.cons 7 rfl (.cons 8 rfl .nil)))) rfl (fun _ h => h)
                     simp only [hx, eL, g28, g49, if_neg hcond, if_neg g75, hr3, hx4, if_true, if_false, ↓reduceIte])
        ·
          refine aR rfl rfl rfl ?_;refine aA (bB rfl rfl) rfl ?_;refine aA (aF rfl) rfl ?_;refine aG (aE ?_);refine cO rfl ?_;refine aB ?_;refine aA (aC rfl) rfl ?_;refine aA (cU rfl rfl) rfl ?_;refine aA (aC rfl) rfl ?_;refine cB 62 rfl (fun g62 => ?_) (fun g62 => ?_)
          ·
            refine aV rfl rfl ?_;refine aA (aD (o' := 0) fK rfl rfl) rfl ?_;refine aV rfl rfl ?_;refine aA (aD (o' := 0) iU rfl rfl) rfl ?_;refine aV rfl rfl ?_;refine aA (aK ts3 rfl aL rfl) rfl ?_;refine aV rfl rfl ?_;refine aA (fF rfl rfl) rfl ?_;refine aA (bJ rfl rfl) rfl ?_;refine aA (aF rfl) rfl ?_;refine aG (aE ?_)
            first | refine bH 54 rfl (fun h54 => ?_) (fun h54 => ?_) | refine d6 54 rfl (fun h54 => ?_) (fun h54 => ?_)
            ·
              refine aB ?_;refine aA (aC rfl) rfl ?_;refine aA bS rfl ?_;refine aA (aD (o' := 0) bX rfl rfl) rfl ?_;refine aA (aD (o' := 2) cF rfl rfl) rfl ?_;refine aA (aD (o' := 5) fJ rfl rfl) rfl ?_;refine aA (aK ts3 rfl aL rfl) rfl ?_;have hcond : (cN dF st2.2.s = 3 ∧ hw.cmp = true) ∨ (cN dF st2.2.s < 3 ∧ hw.tag ≠ 0) := (by first | exact .inl ⟨by omega, by assumption⟩ | exact .inr ⟨by omega, by omega⟩);refine aW rfl rfl (dY 7 st2.2.at_ _) .nil rfl (by rintro _ _ ⟨_, h, _⟩; cases h) ?_ ?_
              ·
                rintro _ _ _ ⟨fb, h, rfl⟩ le1;cases h
                refine aN (.cons .here .nil) ?_;refine aQ ?_;refine aQ ?_;refine aJ ?_;refine aQ ?_;refine aJ ?_;refine a8 bQ ?_;simp only [hx, eL, g28, g49, if_pos hcond, if_true, if_false];exact ⟨fb, rfl, rfl⟩
              ·
                rintro _ _ _ ⟨_, h, _⟩; cases h
            ·
              refine aI (aB ?_);refine aA (aC rfl) rfl ?_;refine aA (cU rfl rfl) rfl ?_;refine aA (aF rfl) rfl ?_;refine aG (aE ?_);refine bH 75 rfl (fun h75 => ?_) (fun h75 => ?_)
              ·
                have g75 : cN dF st2.2.s < 3 := by omega
                have hcond : ¬ ((cN dF st2.2.s = 3 ∧ hw.cmp = true) ∨ (cN dF st2.2.s < 3 ∧ hw.tag ≠ 0)) := (by rintro (⟨a, b⟩ | ⟨a, b⟩) <;> first | omega | (simp_all; done));refine aI (aB ?_);refine aA (aC rfl) rfl ?_;refine aA (aD (o' := 0) fK rfl rfl) rfl ?_;refine aA (aD (o' := 0) iU rfl rfl) rfl ?_;refine bP (bK ts3 rfl rfl cD a7 .zero rfl) ?_;rintro _ K _ ⟨rfl, rfl⟩ -;refine aG (aE ?_);refine aB ?_;refine aA (aC rfl) rfl ?_;refine aA bS rfl ?_;refine aA (aD (o' := 0) bX rfl rfl) rfl ?_;refine aW rfl rfl (dE b 208 s st2.1 _ _ _ _ (nv :: rest) hs hok2.1 _ hg) (.cons (.there (.there .here)) .nil) rfl (fun _ _ => aY _ _) ?_ ?_
                ·
                  rintro _ _ _ hTr le1;obtain ⟨e, p, hr2, fb, h, rfl⟩ := aZ hTr;cases h
                  refine aN (.cons .here .nil) ?_;refine aQ ?_;refine aQ ?_;refine aJ ?_;refine aQ ?_;refine aJ ?_;refine a8 bQ ?_;simp only [hx, eL, g28, g49, if_neg hcond, if_pos g75, hr2, if_true, if_false, ↓reduceIte];exact ⟨fb, rfl, rfl⟩
                rintro _ K _ hTr -;obtain ⟨r2, hr2, rfl, rfl, rfl⟩ := a6 hTr;clear hTr;have hok3 := dT hok2.1 hr2;refine aG (aM ?_);refine aM ?_
                first
                  | (have hm2 := eS hok2.1 aH hr2; obtain ⟨f0, rfl⟩ : ∃ f0, f = f0 + 1 := ⟨f - 1, by omega⟩
                     refine aN (.cons (.there (.there .here)) (.cons .here .nil)) ?_;refine dI ⟨hw.cmp, 1 + cN dF st2.2.s, hw.oct⟩ r2 ⟨hok3, ⟨by simp only []; omega, by simp only []; omega⟩, f0, by omega, ?_⟩ aH (.cons 0 rfl (.cons 1 rfl (.cons 7 rfl (.cons 8 rfl .nil)))) rfl (fun _ h => h)
                     simp only [hx, eL, g28, g49, if_neg hcond, if_pos g75, hr2, if_true, if_false, ↓reduceIte])
                  | (have hm2 := eS hok2.1 aH hr3; have hm3 := iI hok3.1 hx4; obtain ⟨f0, rfl⟩ : ∃ f0, f = f0 + 1 := ⟨f - 1, by omega⟩
                     refine aN (.cons (.there (.there .here)) (.cons .here .nil)) ?_;refine jQ (Hl.le_trans leA leB) ?_;refine dI ⟨true, hw.tag, decide (x.1 = eU)⟩ x.2 ⟨hok4, ht, f0, by omega, ?_⟩ aH (.cons 0 rfl (.cons 1 rfl (.cons 7 rfl (.cons 8 rfl .nil)))) rfl (fun _ h => h)
                     simp only [hx, eL, g28, g49, if_neg hcond, if_pos g75, hr2, if_true, if_false, ↓reduceIte])
              ·
                have g75 : ¬ cN dF st2.2.s < 3 := by omega
                have hcond : ¬ ((cN dF st2.2.s = 3 ∧ hw.cmp = true) ∨ (cN dF st2.2.s < 3 ∧ hw.tag ≠ 0)) := (by rintro (⟨a, b⟩ | ⟨a, b⟩) <;> first | omega | (simp_all; done));refine aI (aB ?_);refine aA (aF rfl) rfl ?_;refine aG (aE ?_);refine aI (aB ?_);refine aA (aC rfl) rfl ?_;refine aA bS rfl ?_;refine aA (aD (o' := 0) bX rfl rfl) rfl ?_;refine aW rfl rfl (dE b 208 s st2.1 _ _ _ _ (nv :: rest) hs hok2.1 _ hg) (.cons (.there (.there .here)) .nil) rfl (fun _ _ => aY _ _) ?_ ?_
                ·
                  rintro _ _ _ hTr le1;obtain ⟨e, p, hr3, fb, h, rfl⟩ := aZ hTr;cases h
                  refine aN (.cons .here .nil) ?_;refine aJ ?_;refine aQ ?_;refine aQ ?_;refine aJ ?_;refine aQ ?_;refine aJ ?_;refine a8 bQ ?_;simp only [hx, eL, g28, g49, if_neg hcond, if_neg g75, hr3, if_true, if_false, ↓reduceIte];exact ⟨fb, rfl, rfl⟩
                rintro _ K _ hTr -;obtain ⟨r3, hr3, rfl, rfl, rfl⟩ := a6 hTr;clear hTr;have hok3 := dT hok2.1 hr3;refine aG (aE ?_);refine aB ?_;refine aA (aC rfl) rfl ?_;refine ol_s (bN (z0 := [(str []), (str [])]) cQ tz9 rfl rfl rfl rfl (.cons rfl rfl rfl (.cons .nil) (.cons rfl rfl rfl (.skip (.cons .nil)) .nil))) rfl ?_;rintro _ K _ ⟨b43, rfl, rfl, rfl⟩ -;refine e7 fun K1 leA hK1 => ?_
                refine bD rfl rfl (kI 7 _ _ rfl) .nil rfl ?_;rintro _ K2 _ ⟨c1, c2, rfl, hc1, hc2, rfl⟩ leB;refine aW rfl rfl (iS b s r3 (nv :: rest) 192 #[ptr c1, ptr c2] (Syn.oneOf 7 [eU, fW]) _ hs hok3.1 hok3.2 (hg.mono (Hl.le_trans leA leB)) (fun x hx => jK x 7 [eU, fW] _ c1 c2 _ hc1 hc2 (.inr ⟨b43, 0, 2, [str eU, str fW], (0, 0), rfl, ⟨_, leB _ _ hK1⟩, rfl⟩) (by simp))) (.cons .here .nil) rfl (fun _ _ => aY _ _) ?_ ?_
                ·
                  rintro _ _ _ hTr le1;obtain ⟨e, p, hx4, fb, h, rfl⟩ := aZ hTr;cases h
                  refine aN (.cons .here .nil) ?_;refine aQ ?_;refine aQ ?_;refine aJ ?_;refine aQ ?_;refine aJ ?_;refine a8 (Hl.le_trans leA (Hl.le_trans leB le1)) ?_;simp only [hx, eL, g28, g49, if_neg hcond, if_neg g75, hr3, hx4, if_true, if_false, ↓reduceIte];exact ⟨fb, rfl, rfl⟩
                rintro _ K _ hTr -;obtain ⟨x, hx4, rfl, rfl, rfl⟩ := a6 hTr;clear hTr;have hok4 := jZ hok3.1 hx4;refine aA (iV rfl rfl) rfl ?_;refine aA (aD (o' := 0) fK rfl rfl) rfl ?_;refine aA (aD (o' := 1) m9 rfl rfl) rfl ?_;refine bP (bK ts4 rfl rfl cD a7 (.succ .zero) rfl) ?_;rintro _ K _ ⟨rfl, rfl⟩ -;refine aG (aM ?_);refine aM ?_
                first
                  | (have hm2 := eS hok2.1 aH hr2; obtain ⟨f0, rfl⟩ : ∃ f0, f = f0 + 1 := ⟨f - 1, by omega⟩
                     refine aN (.cons (.there (.there .here)) (.cons .here .nil)) ?_;refine dI ⟨hw.cmp, 1 + cN dF st2.2.s, hw.oct⟩ r2 ⟨hok3, ⟨by simp only []; omega, by simp only []; omega⟩, f0, by omega, ?_⟩ aH (.cons 0 rfl (.cons 1 rfl (.cons 7 rfl (.cons 8 rfl .nil)))) rfl (fun _ h => h)
                     simp only [hx, eL, g28, g49, if_neg hcond, if_neg g75, hr3, hx4, if_true, if_false, ↓reduceIte])
                  | (have hm2 := eS hok2.1 aH hr3; have hm3 := iI hok3.1 hx4; obtain ⟨f0, rfl⟩ : ∃ f0, f = f0 + 1 := ⟨f - 1, by omega⟩
                     refine aN (.cons (.there (.there .here)) (.cons .here .nil)) ?_;refine jQ (Hl.le_trans leA leB) ?_;refine dI ⟨true, hw.tag, decide (x.1 = eU)⟩ x.2 ⟨hok4, ht, f0, by omega, ?_⟩ aH (.cons 0 rfl (.cons 1 rfl (.cons 7 rfl (.cons 8 rfl .nil)))) rfl (fun _ h => h)
                     simp only [hx, eL, g28, g49, if_neg hcond, if_neg g75, hr3, hx4, if_true, if_false, ↓reduceIte])
          ·
            refine aR rfl rfl rfl ?_;refine aR rfl rfl rfl ?_;refine aR rfl rfl rfl ?_;refine aR rfl rfl rfl ?_;refine aA (bB rfl rfl) rfl ?_;refine aA (aF rfl) rfl ?_;refine aG (aE ?_);refine cO rfl ?_;refine aI (aB ?_);refine aA (aC rfl) rfl ?_;refine aA (cU rfl rfl) rfl ?_;refine aA (aF rfl) rfl ?_;refine aG (aE ?_);refine bH 75 rfl (fun h75 => ?_) (fun h75 => ?_)
            ·
              have g75 : cN dF st2.2.s < 3 := by omega
              have hcond : ¬ ((cN dF st2.2.s = 3 ∧ hw.cmp = true) ∨ (cN dF st2.2.s < 3 ∧ hw.tag ≠ 0)) := (by rintro (⟨a, b⟩ | ⟨a, b⟩) <;> first | omega | (simp_all; done));refine aI (aB ?_);refine aA (aC rfl) rfl ?_;refine aA (aD (o' := 0) fK rfl rfl) rfl ?_;refine aA (aD (o' := 0) iU rfl rfl) rfl ?_;refine bP (bK ts3 rfl rfl cD a7 .zero rfl) ?_;rintro _ K _ ⟨rfl, rfl⟩ -;refine aG (aE ?_);refine aB ?_;refine aA (aC rfl) rfl ?_;refine aA bS rfl ?_;refine aA (aD (o' := 0) bX rfl rfl) rfl ?_;refine aW rfl rfl (dE b 208 s st2.1 _ _ _ _ (nv :: rest) hs hok2.1 _ hg) (.cons (.there (.there .here)) .nil) rfl (fun _ _ => aY _ _) ?_ ?_
              ·
                rintro _ _ _ hTr le1;obtain ⟨e, p, hr2, fb, h, rfl⟩ := aZ hTr;cases h
                refine aN (.cons .here .nil) ?_;refine aQ ?_;refine aQ ?_;refine aJ ?_;refine aQ ?_;refine aJ ?_;refine a8 bQ ?_;simp only [hx, eL, g28, g49, if_neg hcond, if_pos g75, hr2, if_true, if_false, ↓reduceIte];exact ⟨fb, rfl, rfl⟩
              rintro _ K _ hTr -;obtain ⟨r2, hr2, rfl, rfl, rfl⟩ := a6 hTr;clear hTr;have hok3 := dT hok2.1 hr2;refine aG (aM ?_);refine aM ?_
              first
                | (have hm2 := eS hok2.1 aH hr2; obtain ⟨f0, rfl⟩ : ∃ f0, f = f0 + 1 := ⟨f - 1, by omega⟩
                   refine aN (.cons (.there (.there .here)) (.cons .here .nil)) ?_;refine dI ⟨hw.cmp, 1 + cN dF st2.2.s, hw.oct⟩ r2 ⟨hok3, ⟨by simp only []; omega, by simp only []; omega⟩, f0, by omega, ?_⟩ aH (.cons 0 rfl (.cons 1 rfl (.cons 7 rfl (.cons 8 rfl .nil)))) rfl (fun _ h => h)
                   simp only [hx, eL, g28, g49, if_neg hcond, if_pos g75, hr2, if_true, if_false, ↓reduceIte])
                | (have hm2 := eS hok2.1 aH hr3; have hm3 := iI hok3.1 hx4; obtain ⟨f0, rfl⟩ : ∃ f0, f = f0 + 1 := ⟨f - 1, by omega⟩
                   refine aN (.cons (.there (.there .here)) (.cons .here .nil)) ?_;refine jQ (Hl.le_trans leA leB) ?_;refine dI ⟨true, hw.tag, decide (x.1 = eU)⟩ x.2 ⟨hok4, ht, f0, by omega, ?_⟩ aH (.cons 0 rfl (.cons 1 rfl (.cons 7 rfl (.cons 8 rfl .nil)))) rfl (fun _ h => h)
                   simp only [hx, eL, g28, g49, if_neg hcond, if_pos g75, hr2, if_true, if_false, ↓reduceIte])
            ·
              have g75 : ¬ cN dF st2.2.s < 3 := by omega
              have hcond : ¬ ((cN dF st2.2.s = 3 ∧ hw.cmp = true) ∨ (cN dF st2.2.s < 3 ∧ hw.tag ≠ 0)) := (by rintro (⟨a, b⟩ | ⟨a, b⟩) <;> first | omega | (simp_all; done));refine aI (aB ?_);refine aA (aF rfl) rfl ?_;refine aG (aE ?_);refine aI (aB ?_);refine aA (aC rfl) rfl ?_;refine aA bS rfl ?_;refine aA (aD (o' := 0) bX rfl rfl) rfl ?_;refine aW rfl rfl (dE b 208 s st2.1 _ _ _ _ (nv :: rest) hs hok2.1 _ hg) (.cons (.there (.there .here)) .nil) rfl (fun _ _ => aY _ _) ?_ ?_
              ·
                rintro _ _ _ hTr le1;obtain ⟨e, p, hr3, fb, h, rfl⟩ := aZ hTr;cases h
                refine aN (.cons .here .nil) ?_;refine aJ ?_;refine aQ ?_;refine aQ ?_;refine aJ ?_;refine aQ ?_;refine aJ ?_;refine a8 bQ ?_;simp only [hx, eL, g28, g49, if_neg hcond, if_neg g75, hr3, if_true, if_false, ↓reduceIte];exact ⟨fb, rfl, rfl⟩
              rintro _ K _ hTr -;obtain ⟨r3, hr3, rfl, rfl, rfl⟩ := a6 hTr;clear hTr;have hok3 := dT hok2.1 hr3;refine aG (aE ?_);refine aB ?_;refine aA (aC rfl) rfl ?_;refine ol_s (bN (z0 := [(str []), (str [])]) cQ tz9 rfl rfl rfl rfl (.cons rfl rfl rfl (.cons .nil) (.cons rfl rfl rfl (.skip (.cons .nil)) .nil))) rfl ?_;rintro _ K _ ⟨b43, rfl, rfl, rfl⟩ -;refine e7 fun K1 leA hK1 => ?_
              refine bD rfl rfl (kI 7 _ _ rfl) .nil rfl ?_;rintro _ K2 _ ⟨c1, c2, rfl, hc1, hc2, rfl⟩ leB;refine aW rfl rfl (iS b s r3 (nv :: rest) 192 #[ptr c1, ptr c2] (Syn.oneOf 7 [eU, fW]) _ hs hok3.1 hok3.2 (hg.mono (Hl.le_trans leA leB)) (fun x hx => jK x 7 [eU, fW] _ c1 c2 _ hc1 hc2 (.inr ⟨b43, 0, 2, [str eU, str fW], (0, 0), rfl, ⟨_, leB _ _ hK1⟩, rfl⟩) (by simp))) (.cons .here .nil) rfl (fun _ _ => aY _ _) ?_ ?_
              ·
                rintro _ _ _ hTr le1;obtain ⟨e, p, hx4, fb, h, rfl⟩ := aZ hTr;cases h
                refine aN (.cons .here .nil) ?_;refine aQ ?_;refine aQ ?_;refine aJ ?_;refine aQ ?_;refine aJ ?_;refine a8 (Hl.le_trans leA (Hl.le_trans leB le1)) ?_;simp only [hx, eL, g28, g49, if_neg hcond, if_neg g75, hr3, hx4, if_true, if_false, ↓reduceIte];exact ⟨fb, rfl, rfl⟩
              rintro _ K _ hTr -;obtain ⟨x, hx4, rfl, rfl, rfl⟩ := a6 hTr;clear hTr;have hok4 := jZ hok3.1 hx4;refine aA (iV rfl rfl) rfl ?_;refine aA (aD (o' := 0) fK rfl rfl) rfl ?_;refine aA (aD (o' := 1) m9 rfl rfl) rfl ?_;refine bP (bK ts4 rfl rfl cD a7 (.succ .zero) rfl) ?_;rintro _ K _ ⟨rfl, rfl⟩ -;refine aG (aM ?_);refine aM ?_
              first
                | (have hm2 := eS hok2.1 aH hr2; obtain ⟨f0, rfl⟩ : ∃ f0, f = f0 + 1 := ⟨f - 1, by omega⟩
                   refine aN (.cons (.there (.there .here)) (.cons .here .nil)) ?_;refine dI ⟨hw.cmp, 1 + cN dF st2.2.s, hw.oct⟩ r2 ⟨hok3, ⟨by simp only []; omega, by simp only []; omega⟩, f0, by omega, ?_⟩ aH (.cons 0 rfl (.cons 1 rfl (.cons 7 rfl (.cons 8 rfl .nil)))) rfl (fun _ h => h)
                   simp only [hx, eL, g28, g49, if_neg hcond, if_neg g75, hr3, hx4, if_true, if_false, ↓reduceIte])
                | (have hm2 := eS hok2.1 aH hr3; have hm3 := iI hok3.1 hx4; obtain ⟨f0, rfl⟩ : ∃ f0, f = f0 + 1 := ⟨f - 1, by omega⟩
                   refine aN (.cons (.there (.there .here)) (.cons .here .nil)) ?_;refine jQ (Hl.le_trans leA leB) ?_;refine dI ⟨true, hw.tag, decide (x.1 = eU)⟩ x.2 ⟨hok4, ht, f0, by omega, ?_⟩ aH (.cons 0 rfl (.cons 1 rfl (.cons 7 rfl (.cons 8 rfl .nil)))) rfl (fun _ h => h)
                   simp only [hx, eL, g28, g49, if_neg hcond, if_neg g75, hr3, hx4, if_true, if_false, ↓reduceIte])
    ·
      have g28 : ¬ st2.2.kind = 2 := by omega
      refine cR ?_;refine aT ?_;refine aT ?_;refine bG ?_;refine aE (aI ?_);refine aB ?_;refine aA (aD (o' := 0) fK rfl rfl) rfl ?_;refine aA (aD (o' := 0) iU rfl rfl) rfl ?_;refine aA (aK ts3 rfl aL rfl) rfl ?_;refine aA (aI9 rfl rfl) rfl ?_;refine aA (aD (o' := 0) fK rfl rfl) rfl ?_;refine aA (aD (o' := 0) iU rfl rfl) rfl ?_;refine bP (bK ts3 rfl rfl cD a7 .zero rfl) ?_;rintro _ K _ ⟨rfl, rfl⟩ -;refine aG (aE ?_);refine aI (aB ?_);refine aA (aF rfl) rfl ?_;refine aG (aE ?_);refine iE (fun (fn : FuncId) => ∀ x : List UInt8, x.length ≤ 600 → Sp Tryz.prog fn [str x] K [] (Val (i64 (lZ op x)) K)) (fun fn => [(0, ptr b), (7, ptr b7), (10, .func (.func fn) #[] #[])]) (fun _ => K) (fun _ => [pt b7 (aU [i64 (if 1 > hw.tag then 1 else hw.tag), .bool hw.oct, i64 op, .slice none 0 0, .slice none 0 0] 380), psb b s st2 (nv :: rest)]) ?_ ?_
      ·
        refine aI (aB ?_);refine aA (aC rfl) rfl ?_;refine aA (bV rfl rfl) rfl ?_;refine aG (aE ?_);refine bH 92 rfl (fun h92 => ?_) (fun h92 => ?_)
        ·
          refine aB ?_;refine aA (aF rfl) rfl ?_;refine aG ?_
          first
            | exact cA 265 (fun x hx => by rw [aM8 h92]; exact tE x _ aH) (.cons 0 rfl (.cons 7 rfl (.cons 10 rfl .nil))) rfl (fun _ h => h)
            | exact cA 177 (fun x hx => by rw [aM7 h92]; exact iZ x _) (.cons 0 rfl (.cons 7 rfl (.cons 10 rfl .nil))) rfl (fun _ h => h)
        ·
          refine aX ?_
          first
            | exact cA 265 (fun x hx => by rw [aM8 h92]; exact tE x _ aH) (.cons 0 rfl (.cons 7 rfl (.cons 10 rfl .nil))) rfl (fun _ h => h)
            | exact cA 177 (fun x hx => by rw [aM7 h92]; exact iZ x _) (.cons 0 rfl (.cons 7 rfl (.cons 10 rfl .nil))) rfl (fun _ h => h)
      ·
        intro fn hfn;refine aI (aB ?_);refine aA (aC rfl) rfl ?_;refine aA (aC rfl) rfl ?_;refine aW rfl rfl (nQ b s st2 (nv :: rest) fn #[] (lZ op) _ hs hok2 hg hfn) (.cons (.there .here) .nil) rfl (fun _ _ => aY _ _) ?_ ?_
        ·
          rintro _ _ _ hTr le1;obtain ⟨e, p, ha1, fb, h, rfl⟩ := aZ hTr;cases h
          refine aN (.cons .here .nil) ?_;refine aJ ?_;refine a8 bQ ?_;simp only [hx, eL, lV, g28, ha1, if_true, if_false, ↓reduceIte];exact ⟨fb, rfl, rfl⟩
        rintro _ K _ hTr -;obtain ⟨va, ha1, rfl, rfl⟩ := a6 hTr;clear hTr;have hok3 := (kR hok2 ha1).1;refine fU fun K1 leA hA => ?_
        have oA := hA.one;refine aA (aD (o' := 3) xT rfl rfl) rfl ?_;refine bP (bK ts39 rfl rfl cD a7 (.succ (.succ (.succ .zero))) rfl) ?_;rintro _ K _ ⟨rfl, rfl⟩ -;refine aG (aE ?_);refine aI (aB ?_);refine aA (aC rfl) rfl ?_;refine aW rfl rfl (nQ b s va.2 (nv :: rest) 177 #[] (fun _ => 0) _ hs hok3 (hg.mono leA) (fun x hx => iZ x _)) (.cons .here .nil) rfl (fun _ _ => aY _ _) ?_ ?_
        ·
          rintro _ _ _ hTr le1;obtain ⟨e, p, hb1, fb, h, rfl⟩ := aZ hTr;cases h
          refine aN (.cons .here .nil) ?_;refine aJ ?_;refine a8 (Hl.le_trans leA le1) ?_;simp only [hx, eL, lV, g28, ha1, hb1, if_true, if_false, ↓reduceIte];exact ⟨fb, rfl, rfl⟩
        rintro _ K _ hTr -;obtain ⟨vb, hb1, rfl, rfl⟩ := a6 hTr;clear hTr;refine fU fun K2 leB hB => ?_
        have oB := hB.one;refine aA (aD (o' := 4) xU rfl rfl) rfl ?_;refine bP (bK ts39 rfl rfl cD a7 (.succ (.succ (.succ (.succ .zero)))) rfl) ?_;rintro _ K _ ⟨rfl, rfl⟩ -;refine aG (aE ?_);refine aI (aB ?_);refine aA (bT zQ rfl aL rfl rfl) rfl ?_;refine aA (dA Tryz.underlying380 (fun _ h => by cases h) rfl) rfl ?_;refine aA (aF rfl) rfl ?_;refine aG (aE ?_);refine bM ?_;refine aN (.cons .here .nil) ?_;refine bL rfl rfl (Hl.le_trans leA leB) ?_;simp only [hx, eL, lV, g28, ha1, hb1, if_true, if_false, ↓reduceIte];exact ⟨_, rfl, ⟨_, _, rfl, _, _, hA.mono leB, hB, rfl⟩, rfl⟩
end Go.Proofs
end

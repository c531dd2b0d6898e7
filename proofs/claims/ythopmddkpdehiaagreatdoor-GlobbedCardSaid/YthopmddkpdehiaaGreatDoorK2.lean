/-
  What the proof stands on, part 2: the logic of walks, the walks through the functions, the plain laws. Conditions: as each theorem says. (Merged and shortened by a program.)
-/
import Derived.Below
import Derived.Shelf.Strings.Builder1
import Derived.Shelf.Strings.Builder2
import Derived.Shelf.Small.Utf8
import Derived.Shelf.Small.Bits
import Derived.Shelf.Small.Strs
import Derived.Shelf.Utf8.RuneCount
import Derived.Shelf.Strconv.Itoa0
import Derived.Shelf.Strconv.Itoa1
import Derived.Shelf.LaysM
import Derived.Shelf.Strconv.Itoa2
import Derived.Shelf.Strconv.Itoa3
import Derived.Shelf.Strings.Search1
import Derived.Shelf.Strings.Search2
import Derived.Shelf.Strings.Search3
import Derived.Shelf.Strings.Cut
import Derived.Shelf.Strings.Count
import Derived.Shelf.Strings.Shaped
import Derived.Shelf.Strings.Split
import Derived.Shelf.Strings.Runes
import Derived.Shelf.Strings.RuneCount
import Derived.Shelf.Strings.IndexAny
import Derived.Shelf.Strings.AsciiSet
import Derived.Shelf.Strings.IndexAnyAll
import Derived.Shelf.Bits.Mul64
import Derived.Ground.Names2Prog
import Derived.Shelf.Slices.Clone
import Derived.Ground.SlgnProg
import Derived.Shelf.SlicesE.Clone
import Derived.Test.YthopmddkpdehiaaGreatDoorProg
import Derived.Lib.ItoaNum
import Derived.Lib.IndexLaws
import Derived.Test.YthopmddkpdehiaaGreatDoorK1
set_option linter.unusedVariables false
set_option linter.unusedSimpArgs false
section
namespace Go.Proofs
open Go Go.SL Go.Syn
theorem retB {b c : Bool} (h : b = c) (K : Hl) : Val (.bool c) K (.returned (.bool b)) K [] := ⟨by rw [h], rfl, rfl⟩
theorem nI (c : UInt8) (K : Hl) : Sp Tryz.prog 183 [.int .u8 c.toNat] K [] (Val (.bool (gW c)) K) := by
 refine bB Tryz.func183 rfl Tryz.ntmps183 rfl rfl fun F w => ?_
 refine aI (aB ?_);refine aA (aF rfl) rfl ?_;refine aG (aE ?_);refine aI (aB ?_);refine aA (aC rfl) rfl ?_;refine aA (zN c 32 rfl rfl) rfl ?_;refine aA (gU rfl rfl) rfl ?_;refine aA (aC rfl) rfl ?_;refine cA 6 rfl (fun g6 => ?_) (fun g6 => ?_)
 ·
  refine aT rfl rfl ?_;refine aA (aC rfl) rfl ?_;refine aT rfl rfl ?_;refine aA (zN c 32 rfl rfl) rfl ?_;refine aT rfl rfl ?_;refine aA (j7 rfl rfl) rfl ?_;refine aA (bH rfl rfl) rfl ?_;refine aA (aC rfl) rfl ?_;refine cA 11 rfl (fun g11 => ?_) (fun g11 => ?_)
  ·
   refine aQ rfl rfl rfl ?_;refine aQ rfl rfl rfl ?_;refine aA (bH rfl rfl) rfl ?_;refine aA (aF rfl) rfl ?_;refine aG (aE ?_);refine bM ?_;refine bJ rfl rfl (Hl.le_refl _) ?_;refine retB ?_ _
   unfold gW
   generalize (c ||| 32).toNat = x at *
   generalize c.toNat = y at *
   rw [Bool.eq_iff_iff];simp;omega
  ·
   refine aT rfl rfl ?_;refine aA (aC rfl) rfl ?_;refine aT rfl rfl ?_;refine aA (bT rfl rfl) rfl ?_;refine aA (a8 rfl rfl) rfl ?_;refine aA (aF rfl) rfl ?_;refine aG (aE ?_);refine bM ?_;refine bJ rfl rfl (Hl.le_refl _) ?_;refine retB ?_ _
   unfold gW
   generalize (c ||| 32).toNat = x at *
   generalize c.toNat = y at *
   rw [Bool.eq_iff_iff];simp;omega
 ·
  refine aQ rfl rfl rfl ?_;refine aQ rfl rfl rfl ?_;refine aQ rfl rfl rfl ?_;refine aA (a8 rfl rfl) rfl ?_;refine aA (aC rfl) rfl ?_;refine aT rfl rfl ?_;refine aA (aC rfl) rfl ?_;refine aT rfl rfl ?_;refine aA (bT rfl rfl) rfl ?_;refine aA (a8 rfl rfl) rfl ?_;refine aA (aF rfl) rfl ?_;refine aG (aE ?_);refine bM ?_;refine bJ rfl rfl (Hl.le_refl _) ?_;refine retB ?_ _
  unfold gW
  generalize (c ||| 32).toNat = x at *
  generalize c.toNat = y at *
  rw [Bool.eq_iff_iff];simp;omega
theorem lV (c : UInt8) (K : Hl) : Sp Tryz.prog 188 [.int .u8 c.toNat] K [] (Val (.bool (f6 c)) K) := by
 refine bB Tryz.func188 rfl Tryz.ntmps188 rfl rfl fun F w => ?_
 refine aI (aB ?_);refine aA (aF rfl) rfl ?_;refine aG (aE ?_);refine aI (aB ?_);refine aA (aC rfl) rfl ?_;refine aA (gU rfl rfl) rfl ?_;refine aA (aC rfl) rfl ?_;refine cA 5 rfl (fun g5 => ?_) (fun g5 => ?_)
 ·
  refine aT rfl rfl ?_;refine aA (aC rfl) rfl ?_;refine aT rfl rfl ?_;refine aA (j7 rfl rfl) rfl ?_;refine aA (bH rfl rfl) rfl ?_;refine aA (aF rfl) rfl ?_;refine aG (aE ?_);refine bM ?_;refine bJ rfl rfl (Hl.le_refl _) ?_;refine retB ?_ _
  unfold f6
  generalize c.toNat = y at *
  rw [Bool.eq_iff_iff];simp;omega
 ·
  refine aQ rfl rfl rfl ?_;refine aQ rfl rfl rfl ?_;refine aA (a8 rfl rfl) rfl ?_;refine aA (aF rfl) rfl ?_;refine aG (aE ?_);refine bM ?_;refine bJ rfl rfl (Hl.le_refl _) ?_;refine retB ?_ _
  unfold f6
  generalize c.toNat = y at *
  rw [Bool.eq_iff_iff];simp;omega
theorem m7 (c : UInt8) (K : Hl) : Sp Tryz.prog 187 [.int .u8 c.toNat] K [] (Val (.bool (dT c)) K) := by
 refine bB Tryz.func187 rfl Tryz.ntmps187 rfl rfl fun F w => ?_
 refine aI (aB ?_);refine aA (aF rfl) rfl ?_;refine aG (aE ?_);refine aI (aB ?_);refine aA (aC rfl) rfl ?_;refine cF rfl rfl (nI _ _) rfl ?_;refine aA (aC rfl) rfl ?_;refine mQ 5 rfl (fun g5 => ?_) (fun g5 => ?_)
 ·
  refine aQ rfl rfl rfl ?_;refine aQ rfl rfl rfl ?_;refine aA (bH rfl rfl) rfl ?_;refine aA (aF rfl) rfl ?_;refine aG (aE ?_);refine bM ?_;refine bJ rfl rfl (Hl.le_refl _) ?_;refine retB ?_ _
  simp [dT, g5]
 ·
  refine aT rfl rfl ?_;refine aA (aC rfl) rfl ?_;refine aT rfl rfl ?_;refine cF rfl rfl (lV _ _) rfl ?_;refine aA (a8 rfl rfl) rfl ?_;refine aA (aF rfl) rfl ?_;refine aG (aE ?_);refine bM ?_;refine bJ rfl rfl (Hl.le_refl _) ?_;refine retB ?_ _
  simp [dT, g5]
abbrev lxb (b : Nat) (T : TypeId) (s : List UInt8) (at_ : Int) (wk : Value) (ws : Value) (wn : Value) (wa : Value) (rest : List Value) : Asn := pt b (aU (str s :: i64 at_ :: wk :: ws :: wn :: wa :: rest) T)
theorem jA (b : Nat) (T : TypeId) (s : List UInt8) (a n : Nat) (wk ws wn wa : Value) (rest : List Value) (hs : s.length ≤ 600) (ha : a ≤ 600) (hn : n ≤ 2) (K : Hl) :
  Sp Tryz.prog 181 [ptr b, i64 n] K [lxb b T s a wk ws wn wa rest] (Ret fun v K' L' => v = .int .u8 ((s[a + n]?).getD 0).toNat ∧ K' = K ∧ L' = [lxb b T s a wk ws wn wa rest]) := by
 refine bB Tryz.func181 rfl Tryz.ntmps181 rfl rfl fun F w => ?_
 refine aI (aB ?_);refine aA (aF rfl) rfl ?_;refine aG (aE ?_);refine aI (aI ?_);refine t_draw (anc := [0, 1, 3, 7, 0, 31, 0, 64, 192, 448, 960, 2047]) (ord := [0, 1, 2, 3, 4, 5, 6, 7, 8, 9, 10, 11]) [] [] mixed (by decide +kernel) (cS _) ?_;refine dl_ev rfl rfl (.none rfl) rfl rfl (aC rfl) rfl ?_;refine dl_ev rfl rfl (.none rfl) rfl rfl bS rfl ?_;refine dl_ev rfl rfl (.none rfl) rfl rfl (aD (o' := 1) bU rfl rfl) rfl ?_;refine dl_ev rfl rfl (.none rfl) rfl rfl (aK ts3 rfl aM rfl) rfl ?_;refine dl_ev rfl rfl (.none rfl) rfl rfl (aC rfl) rfl ?_;refine dl_ev rfl rfl (.none rfl) rfl rfl (bZ rfl rfl aH aH) rfl ?_;refine dl_ev rfl rfl (.none rfl) rfl rfl (aC rfl) rfl ?_;refine dl_ev rfl rfl (.none rfl) rfl rfl bS rfl ?_;refine dl_ev rfl rfl (.none rfl) rfl rfl (aD (o' := 0) fC rfl rfl) rfl ?_;refine dl_ev rfl rfl (.none rfl) rfl rfl (aK ts9 rfl aM rfl) rfl ?_;refine dl_ev rfl rfl (.none rfl) rfl rfl (cB rfl Tryz.underlying9 rfl) rfl ?_;refine dl_ev rfl rfl (.none rfl) rfl rfl (dA rfl rfl) rfl ?_;refine dl_nil ?_;refine aE ?_;refine bE 16 rfl (fun h16 => ?_) (fun h16 => ?_)
 ·
  obtain ⟨c, hc⟩ : ∃ c, s[a + n]? = some c := ⟨s[a + n], List.getElem?_eq_getElem aH⟩;refine aI ?_;refine t_draw (anc := [0, 1, 3, 7, 0, 16, 48, 112, 0, 496, 1023, 2047]) (ord := [0, 1, 2, 3, 4, 5, 6, 7, 8, 9, 10, 11]) [] [] mixed (by decide +kernel) (cS _) ?_;refine dl_ev rfl rfl (.none rfl) rfl rfl (aC rfl) rfl ?_;refine dl_ev rfl rfl (.none rfl) rfl rfl bS rfl ?_;refine dl_ev rfl rfl (.none rfl) rfl rfl (aD (o' := 0) fC rfl rfl) rfl ?_;refine dl_ev rfl rfl (.none rfl) rfl rfl (aK ts9 rfl aM rfl) rfl ?_;refine dl_ev rfl rfl (.none rfl) rfl rfl (aC rfl) rfl ?_;refine dl_ev rfl rfl (.none rfl) rfl rfl bS rfl ?_;refine dl_ev rfl rfl (.none rfl) rfl rfl (aD (o' := 1) bU rfl rfl) rfl ?_;refine dl_ev rfl rfl (.none rfl) rfl rfl (aK ts3 rfl aM rfl) rfl ?_;refine dl_ev rfl rfl (.none rfl) rfl rfl (aC rfl) rfl ?_;refine dl_ev rfl rfl (.none rfl) rfl rfl (bZ rfl rfl aH aH) rfl ?_;refine dl_ev rfl rfl (.none rfl) rfl rfl (dB Tryz.underlying9 rfl (j := a + n) rfl aH hc) rfl ?_;refine dl_ev rfl rfl (.none rfl) rfl rfl (aF rfl) rfl ?_;refine dl_nil ?_;refine aE ?_;refine bM ?_;refine bC ?_;refine bJ rfl rfl (Hl.le_refl _) ?_;exact ⟨_, rfl, by rw [hc]; rfl, rfl, rfl⟩
 ·
  have hc : s[a + n]? = none := List.getElem?_eq_none aH;refine a6 ?_;refine aE (aI ?_);refine aB ?_;refine aA (aF rfl) rfl ?_;refine aG (aE ?_);refine bM ?_;refine bJ rfl rfl (Hl.le_refl _) ?_;exact ⟨_, rfl, by rw [hc]; rfl, rfl, rfl⟩
theorem oO (b : Nat) (T : TypeId) (s : List UInt8) (a : Nat) (wk ws wn wa : Value) (rest : List Value) (fn : FuncId) (pf : UInt8 → Bool) (hs : s.length ≤ 600) (ha : a ≤ s.length) (K : Hl)
  (hf : ∀ c, Sp Tryz.prog fn [.int .u8 (c : UInt8).toNat] K [] (Val (.bool (pf c)) K)) :
  Sp Tryz.prog 186 [ptr b, .func (.func fn) #[] #[]] K [lxb b T s a wk ws wn wa rest]
   (Ret fun v K' L' => v = str ((s.drop a).takeWhile pf) ∧ K' = K ∧ L' = [lxb b T s (a + ((s.drop a).takeWhile pf).length : Nat) wk ws wn wa rest]) := by
 refine bB Tryz.func186 rfl Tryz.ntmps186 rfl rfl fun F w => ?_
 refine aI (aB ?_);refine aA (aF rfl) rfl ?_;refine aG (aE ?_);refine aI (aB ?_);refine aA (aC rfl) rfl ?_;refine aA bS rfl ?_;refine aA (aD (o' := 1) bU rfl rfl) rfl ?_;refine aA (aK ts3 rfl aM rfl) rfl ?_;refine aA (aF rfl) rfl ?_;refine aG (aE ?_);refine aI (bF ?_);refine eK (fun (i : Nat) => a ≤ i ∧ i ≤ s.length ∧ ((s.drop a).take (i - a)).all pf = true) (fun i => [(0, ptr b), (1, .func (.func fn) #[] #[]), (5, i64 a)]) (fun _ => K) (fun i => [lxb b T s i wk ws wn wa rest]) (fun i => s.length - i) a ⟨Nat.le_refl _, ha, by simp⟩ (.cons 0 rfl (.cons 1 rfl (.cons 5 rfl .nil))) rfl (fun _ h => h) ?_;intro i ⟨hi1, hi2, hi3⟩;refine aI (aI ?_);refine t_draw (anc := [0, 1, 3, 7, 0, 16, 48, 112, 240, 511, 1023, 2047, 2047, 6143, 14335, 30719, 2047, 67583, 198655, 460799, 1046527, 2097151, 4194303]) (ord := [0, 1, 2, 3, 4, 5, 6, 7, 8, 9, 10, 11, 12, 13, 14, 15, 16, 17, 18, 19, 20, 21, 22]) [21] [] mixed (by decide +kernel) (cS _) ?_;refine dl_ev rfl rfl (.none rfl) rfl rfl (aC rfl) rfl ?_;refine dl_ev rfl rfl (.none rfl) rfl rfl bS rfl ?_;refine dl_ev rfl rfl (.none rfl) rfl rfl (aD (o' := 1) bU rfl rfl) rfl ?_;refine dl_ev rfl rfl (.none rfl) rfl rfl (aK ts3 rfl aM rfl) rfl ?_;refine dl_ev rfl rfl (.none rfl) rfl rfl (aC rfl) rfl ?_;refine dl_ev rfl rfl (.none rfl) rfl rfl bS rfl ?_;refine dl_ev rfl rfl (.none rfl) rfl rfl (aD (o' := 0) fC rfl rfl) rfl ?_;refine dl_ev rfl rfl (.none rfl) rfl rfl (aK ts9 rfl aM rfl) rfl ?_;refine dl_ev rfl rfl (.none rfl) rfl rfl (cB rfl Tryz.underlying9 rfl) rfl ?_;refine dl_ev rfl rfl (.none rfl) rfl rfl (dA rfl rfl) rfl ?_;refine dl_ev rfl rfl (.none rfl) rfl rfl (aC rfl) rfl ?_;refine dl_splitp 20 rfl (fun g20 => ?_) (fun g20 => ?_)
 ·
  obtain ⟨c, hc⟩ : ∃ c, s[i]? = some c := ⟨s[i], List.getElem?_eq_getElem aH⟩;refine dl_ev rfl rfl (.on rfl rfl rfl) rfl rfl (aC rfl) rfl ?_;refine dl_ev rfl rfl (.on rfl rfl rfl) rfl rfl (aC rfl) rfl ?_;refine dl_ev rfl rfl (.on rfl rfl rfl) rfl rfl bS rfl ?_;refine dl_ev rfl rfl (.on rfl rfl rfl) rfl rfl (aD (o' := 0) fC rfl rfl) rfl ?_;refine dl_ev rfl rfl (.on rfl rfl rfl) rfl rfl (aK ts9 rfl aM rfl) rfl ?_;refine dl_ev rfl rfl (.on rfl rfl rfl) rfl rfl (aC rfl) rfl ?_;refine dl_ev rfl rfl (.on rfl rfl rfl) rfl rfl bS rfl ?_;refine dl_ev rfl rfl (.on rfl rfl rfl) rfl rfl (aD (o' := 1) bU rfl rfl) rfl ?_;refine dl_ev rfl rfl (.on rfl rfl rfl) rfl rfl (aK ts3 rfl aM rfl) rfl ?_;refine dl_ev rfl rfl (.on rfl rfl rfl) rfl rfl (dB Tryz.underlying9 rfl rfl rfl bP) rfl ?_;refine dl_callv rfl (.on rfl rfl rfl) rfl rfl rfl rfl (hf c) rfl ?_;refine dl_ev rfl rfl (.none rfl) rfl rfl (bH rfl rfl) rfl ?_;refine dl_nil ?_;refine aE ?_;refine eB 32 rfl (fun h32 => ?_) (fun h32 => ?_)
  ·
   refine a6 ?_;refine aE (bF ?_);refine aB ?_;refine aA (aC rfl) rfl ?_;refine aA bS rfl ?_;refine aA (aD (o' := 1) bU rfl rfl) rfl ?_;refine aA (aK ts3 rfl aM rfl) rfl ?_;refine aA (bZ rfl rfl aH aH) rfl ?_;refine aA bS rfl ?_;refine aA (aD (o' := 1) bU rfl rfl) rfl ?_;refine bR (bI ts3 rfl rfl cG a7 (.succ .zero) rfl) ?_;rintro _ K _ ⟨rfl, rfl⟩ -;refine aG (aN ?_);refine cL (i + 1) ⟨by omega, by omega, ?_⟩ aH (.cons 0 rfl (.cons 1 rfl (.cons 5 rfl .nil))) rfl (fun _ h => h)
   have e : i + 1 - a = i - a + 1 := by omega
   have e2 : a + (i - a) = i := by omega
   rw [e];exact Plain.take_all_succ (c := c) (by rw [List.getElem?_drop, e2]; exact hc) hi3 h32
  ·
   refine cY ?_;refine aV ?_;refine aV ?_;refine bL ?_;refine aE (aI ?_);refine t_draw (anc := [0, 1, 3, 7, 0, 0, 32, 96, 224, 511, 1023]) (ord := [0, 1, 2, 3, 4, 5, 6, 7, 8, 9, 10]) [] [] mixed (by decide +kernel) (cS _) ?_;refine dl_ev rfl rfl (.none rfl) rfl rfl (aC rfl) rfl ?_;refine dl_ev rfl rfl (.none rfl) rfl rfl bS rfl ?_;refine dl_ev rfl rfl (.none rfl) rfl rfl (aD (o' := 0) fC rfl rfl) rfl ?_;refine dl_ev rfl rfl (.none rfl) rfl rfl (aK ts9 rfl aM rfl) rfl ?_;refine dl_ev rfl rfl (.none rfl) rfl rfl (aC rfl) rfl ?_;refine dl_ev rfl rfl (.none rfl) rfl rfl (aC rfl) rfl ?_;refine dl_ev rfl rfl (.none rfl) rfl rfl bS rfl ?_;refine dl_ev rfl rfl (.none rfl) rfl rfl (aD (o' := 1) bU rfl rfl) rfl ?_;refine dl_ev rfl rfl (.none rfl) rfl rfl (aK ts3 rfl aM rfl) rfl ?_;refine dl_ev rfl rfl (.none rfl) rfl rfl (i8 Tryz.underlying9 rfl rfl rfl rfl rfl aH aH) rfl ?_;refine dl_ev rfl rfl (.none rfl) rfl rfl (aF rfl) rfl ?_;refine dl_nil ?_;refine aE ?_;refine bM ?_;refine bJ rfl rfl (Hl.le_refl _) ?_;have hstop : ∀ c1, s[i]? = some c1 → pf c1 = false := by first | (intro c1 hc1; rw [hc] at hc1; cases hc1; exact h32) | (intro c1 hc1; rw [List.getElem?_eq_none aH] at hc1; cases hc1)
   have e2 : a + (i - a) = i := by omega
   have hT : (s.drop a).takeWhile pf = (s.drop a).take (i - a) := Plain.takeWhile_stop pf _ _ (by simp; omega) hi3 (fun c1 hc1 => hstop c1 (by rw [List.getElem?_drop, e2] at hc1; exact hc1));have hL : a + ((s.drop a).takeWhile pf).length = i := by rw [hT]; simp; omega
   refine ⟨_, rfl, ?_, rfl, ?_⟩
   ·rw [hT, List.drop_take]
   ·rw [hL]; rfl
 ·
  refine dl_off rfl rfl (.off rfl rfl rfl) rfl ?_;refine dl_off rfl rfl (.off rfl rfl rfl) rfl ?_;refine dl_off rfl rfl (.off rfl rfl rfl) rfl ?_;refine dl_off rfl rfl (.off rfl rfl rfl) rfl ?_;refine dl_off rfl rfl (.off rfl rfl rfl) rfl ?_;refine dl_off rfl rfl (.off rfl rfl rfl) rfl ?_;refine dl_off rfl rfl (.off rfl rfl rfl) rfl ?_;refine dl_off rfl rfl (.off rfl rfl rfl) rfl ?_;refine dl_off rfl rfl (.off rfl rfl rfl) rfl ?_;refine dl_off rfl rfl (.off rfl rfl rfl) rfl ?_;refine dl_off rfl rfl (.off rfl rfl rfl) rfl ?_;refine dl_ev rfl rfl (.none rfl) rfl rfl (a8 rfl rfl) rfl ?_;refine dl_nil ?_;refine aE ?_;refine cQ rfl ?_;refine cY ?_;refine aV ?_;refine aV ?_;refine bL ?_;refine aE (aI ?_);refine t_draw (anc := [0, 1, 3, 7, 0, 0, 32, 96, 224, 511, 1023]) (ord := [0, 1, 2, 3, 4, 5, 6, 7, 8, 9, 10]) [] [] mixed (by decide +kernel) (cS _) ?_;refine dl_ev rfl rfl (.none rfl) rfl rfl (aC rfl) rfl ?_;refine dl_ev rfl rfl (.none rfl) rfl rfl bS rfl ?_;refine dl_ev rfl rfl (.none rfl) rfl rfl (aD (o' := 0) fC rfl rfl) rfl ?_;refine dl_ev rfl rfl (.none rfl) rfl rfl (aK ts9 rfl aM rfl) rfl ?_;refine dl_ev rfl rfl (.none rfl) rfl rfl (aC rfl) rfl ?_;refine dl_ev rfl rfl (.none rfl) rfl rfl (aC rfl) rfl ?_;refine dl_ev rfl rfl (.none rfl) rfl rfl bS rfl ?_;refine dl_ev rfl rfl (.none rfl) rfl rfl (aD (o' := 1) bU rfl rfl) rfl ?_;refine dl_ev rfl rfl (.none rfl) rfl rfl (aK ts3 rfl aM rfl) rfl ?_;refine dl_ev rfl rfl (.none rfl) rfl rfl (i8 Tryz.underlying9 rfl rfl rfl rfl rfl aH aH) rfl ?_;refine dl_ev rfl rfl (.none rfl) rfl rfl (aF rfl) rfl ?_;refine dl_nil ?_;refine aE ?_;refine bM ?_;refine bJ rfl rfl (Hl.le_refl _) ?_;have hstop : ∀ c1, s[i]? = some c1 → pf c1 = false := by first | (intro c1 hc1; rw [hc] at hc1; cases hc1; exact h32) | (intro c1 hc1; rw [List.getElem?_eq_none aH] at hc1; cases hc1)
  have e2 : a + (i - a) = i := by omega
  have hT : (s.drop a).takeWhile pf = (s.drop a).take (i - a) := Plain.takeWhile_stop pf _ _ (by simp; omega) hi3 (fun c1 hc1 => hstop c1 (by rw [List.getElem?_drop, e2] at hc1; exact hc1));have hL : a + ((s.drop a).takeWhile pf).length = i := by rw [hT]; simp; omega
  refine ⟨_, rfl, ?_, rfl, ?_⟩
  ·rw [hT, List.drop_take]
  ·rw [hL]; rfl
end Go.Proofs
end
section
namespace Go.SL
theorem In.start (w : World) : In w .emp (hp w) [] w :=
 ⟨rfl, rfl, rfl, Nat.le_refl _, .emp, rfl, (Hl.dj_emp _).symm, Hl.dj_emp _, Hl.dj_emp _, (fun _ _ e => by cases e), Hl.le_refl _, (fun _ _ e => by cases e)⟩
theorem In.below {w w' : World} {K' : Hl} {L : List Asn} (le : (hp w).le K') (i : In w .emp K' L w') : RowKit.Below w.heap.size w w' := by
 refine ⟨i.os, i.tape, i.output, i.size, fun k hk => ?_⟩
 have h := le k w.heap[k] (by simp [hp, hk]);rw [i.known h]; simp [hk]
theorem xE {P : Program} {f : FuncId} {args : List Value} {w : World} {v : Value} (h : Sp P f args (hp w) [] (Ret fun u _ _ => u = v)) :
  Calls P f args.toArray w fun e w' => e = .returned v ∧ RowKit.Below w.heap.size w w' :=
 (h.2 .emp w (In.start w)).mono fun _ _ ⟨_, _, ⟨u, he, hu⟩, le, j⟩ => ⟨by rw [he, hu], j.below le⟩
theorem nB {P : Program} {f : FuncId} {args : List Value} {K : Hl} {v : Value} (hb : ∃ fn, P.funcs[f]? = some fn ∧ (fn.name == "runtime.NumGoroutine") = false ∧ fn.body.isSome = true)
  (h : ∀ w, K.le (hp w) → Calls P f args.toArray w fun e w' => e = .returned v ∧ RowKit.Below w.heap.size w w') : Sp P f args K [] (Val v K) := by
 refine ⟨hb, fun F w i => ?_⟩
 obtain ⟨x, hs, d1, d2, d3, l1, l2, l3⟩ := i.rep;refine (h w l2).mono fun e w' ⟨he, hbl⟩ => ?_
 have up : ∀ {k : Hl}, k.le (hp w) → k.le (hp w') := by
  intro k hk b o e;have hlt : b < w.heap.size := by
   have := hk b o e;simp only [hp] at this;rcases Nat.lt_or_ge b w.heap.size with h | h
   ·exact h
   ·simp [Array.getElem?_eq_none h] at this
  have := hk b o e;simp only [hp] at this ⊢;rw [hbl.block b hlt]; exact this
 exact ⟨K, [], ⟨he, rfl, rfl⟩, Hl.le_refl _, hbl.os, hbl.tape, hbl.output, hbl.size, x, hs, d1, d2, d3, up l1, up l2, up l3⟩
theorem jR {P : Program} {f : FuncId} {args : List Value} {K : Hl} {v : Value} (hb : ∃ fn, P.funcs[f]? = some fn ∧ (fn.name == "runtime.NumGoroutine") = false ∧ fn.body.isSome = true)
  (h : ∀ w, K.le (hp w) → Calls P f args.toArray w fun e w' => e = .returned v ∧ w' = w) : Sp P f args K [] (Val v K) :=
 nB hb fun w hw => (h w hw).mono fun e w' ⟨he, hw'⟩ => ⟨he, by subst hw'; exact RowKit.Below.refl _ _⟩
end Go.SL
end
section
namespace Go.Proofs
open Go.Shelf
def Tryz.lays119_ren : Go.Shelf.Ren := ⟨fun | 119 => 322 | n => n, fun | 21 => 21 | 4 => 4 | n => n, fun | n => n⟩
theorem Tryz.lays119 : Go.Proofs.Lays.n119 Tryz.prog Tryz.lays119_ren := {
 mixed := by kernel_rfl
 f119 := Tryz.func322.trans (congrArg some cJ)
 t4 := Tryz.underlying4
 a4 := Tryz.isAgg4
 z4 := Tryz.sizeOf4
 v4 := Tryz.zeroValue4
 t21 := Tryz.underlying21
 a21 := Tryz.isAgg21
 z21 := Tryz.sizeOf21
 v21 := Tryz.zeroValue21 }
theorem Tryz.utf8_ValidRune (r : Int) (w : World) :
  Calls Tryz.prog 322 #[.int .i32 r] w fun e w' => e = .returned (.bool (Lib.validRune r)) ∧ w' = w := Any.utf8_ValidRune Tryz.lays119 r w
def Tryz.lays137_ren : Go.Shelf.Ren := ⟨fun | 137 => 308 | 217 => 335 | 266 => 353 | n => n, fun | 9 => 9 | 5 => 5 | 3 => 3 | n => n, fun | n => n⟩
theorem Tryz.lays137 : Go.Proofs.Lays.n137 Tryz.prog Tryz.lays137_ren := {
 mixed := by kernel_rfl
 f137 := Tryz.func308.trans (congrArg some cJ)
 f217 := Tryz.func335.trans (congrArg some cJ)
 f266 := Tryz.func353.trans (congrArg some cJ)
 t3 := Tryz.underlying3
 a3 := Tryz.isAgg3
 z3 := Tryz.sizeOf3
 v3 := Tryz.zeroValue3
 t5 := Tryz.underlying5
 a5 := Tryz.isAgg5
 z5 := Tryz.sizeOf5
 v5 := Tryz.zeroValue5
 t9 := Tryz.underlying9
 a9 := Tryz.isAgg9
 z9 := Tryz.sizeOf9
 v9 := Tryz.zeroValue9 }
open Go.RowKit in
theorem Tryz.strings_IndexByte (s : ByteArray) (c : Int) (w : World) :
  Calls Tryz.prog 308 #[.string s, .int .u8 c] w fun e w' => e = .returned (.int .i64 (Lib.indexByte s.data.toList c.toNat.toUInt8)) ∧ w' = w := Any.strings_IndexByte Tryz.lays137 s c w
def Tryz.laysM171_ren : Go.Shelf.Ren := ⟨fun | 171 => 129 | 243 => 223 | 246 => 293 | 283 => 325 | 284 => 326 | 285 => 327 | 286 => 328 | 129 => 240 | 317 => 346 | 318 => 347 | 319 => 348 | 320 => 349 | 337 => 362 | 338 => 363 | n => n, fun | 3 => 3 | 9 => 9 | 2 => 2 | 4 => 4 | 171 => 444 | 0 => 0 | 53 => 345 | 37 => 130 | 5 => 5 | 173 => 446 | 212 => 475 | 51 => 350 | 20 => 20 | 213 => 476 | 46 => 257 | 232 => 510 | 233 => 511 | n => n, fun | 17 => 2 | 18 => 5 | 19 => 6 | n => n⟩
theorem Tryz.laysM171 : Go.Proofs.LaysM.n171 Tryz.prog Tryz.laysM171_ren := {
 mixed := by kernel_rfl
 f129 := Tryz.func240.trans (congrArg some cJ)
 f171 := Tryz.func129.trans (congrArg some cJ)
 f243 := Tryz.func223.trans (congrArg some cJ)
 f246 := Tryz.func293.trans (congrArg some cJ)
 f283 := Tryz.func325.trans (congrArg some cJ)
 f284 := Tryz.func326.trans (congrArg some cJ)
 f285 := Tryz.func327.trans (congrArg some cJ)
 f286 := Tryz.func328.trans (congrArg some cJ)
 f317 := Tryz.func346.trans (congrArg some cJ)
 f318 := Tryz.func347.trans (congrArg some cJ)
 f319 := Tryz.func348.trans (congrArg some cJ)
 f320 := Tryz.func349.trans (congrArg some cJ)
 f337 := Tryz.func362.trans (congrArg some cJ)
 f338 := Tryz.func363.trans (congrArg some cJ)
 t0 := Tryz.underlying0
 a0 := Tryz.isAgg0
 z0 := Tryz.sizeOf0
 v0 := Tryz.zeroValue0
 t2 := Tryz.underlying2
 a2 := Tryz.isAgg2
 z2 := Tryz.sizeOf2
 v2 := Tryz.zeroValue2
 t3 := Tryz.underlying3
 a3 := Tryz.isAgg3
 z3 := Tryz.sizeOf3
 v3 := Tryz.zeroValue3
 t4 := Tryz.underlying4
 a4 := Tryz.isAgg4
 z4 := Tryz.sizeOf4
 v4 := Tryz.zeroValue4
 t5 := Tryz.underlying5
 a5 := Tryz.isAgg5
 z5 := Tryz.sizeOf5
 v5 := Tryz.zeroValue5
 t9 := Tryz.underlying9
 a9 := Tryz.isAgg9
 z9 := Tryz.sizeOf9
 v9 := Tryz.zeroValue9
 t20 := Tryz.underlying20
 a20 := Tryz.isAgg20
 z20 := Tryz.sizeOf20
 v20 := Tryz.zeroValue20
 t37 := Tryz.underlying130
 a37 := Tryz.isAgg130
 z37 := Tryz.sizeOf130
 v37 := Tryz.zeroValue130
 t46 := Tryz.underlying257
 a46 := Tryz.isAgg257
 z46 := Tryz.sizeOf257
 v46 := Tryz.zeroValue257
 t51 := Tryz.underlying350
 a51 := Tryz.isAgg350
 z51 := Tryz.sizeOf350
 v51 := Tryz.zeroValue350
 t53 := Tryz.underlying345
 a53 := Tryz.isAgg345
 z53 := Tryz.sizeOf345
 v53 := Tryz.zeroValue345
 t171 := Tryz.underlying444
 a171 := Tryz.isAgg444
 z171 := Tryz.sizeOf444
 v171 := Tryz.zeroValue444
 t173 := Tryz.underlying446
 a173 := Tryz.isAgg446
 z173 := Tryz.sizeOf446
 v173 := Tryz.zeroValue446
 t212 := Tryz.underlying475
 a212 := Tryz.isAgg475
 z212 := Tryz.sizeOf475
 v212 := Tryz.zeroValue475
 t213 := Tryz.underlying476
 a213 := Tryz.isAgg476
 z213 := Tryz.sizeOf476
 t232 := Tryz.underlying510
 a232 := Tryz.isAgg510
 z232 := Tryz.sizeOf510
 v232 := Tryz.zeroValue510
 t233 := Tryz.underlying511
 a233 := Tryz.isAgg511
 z233 := Tryz.sizeOf511
 v233 := Tryz.zeroValue511
 g17 := by kernel_rfl
 g18 := by kernel_rfl
 g19 := by kernel_rfl
 i0 := by kernel_rfl
 i2 := by kernel_rfl
 i3 := by kernel_rfl
 i4 := by kernel_rfl
 i5 := by kernel_rfl
 i9 := by kernel_rfl
 i20 := by kernel_rfl
 i37 := by kernel_rfl
 i46 := by kernel_rfl
 i51 := by kernel_rfl
 i53 := by kernel_rfl
 i171 := by kernel_rfl
 i173 := by kernel_rfl
 i212 := by kernel_rfl
 i232 := by kernel_rfl
 i233 := by kernel_rfl
 m17 := by kernel_rfl
 m18 := by kernel_rfl
 m19 := by kernel_rfl }
open Go.RowKit Go.Sort Go.Lib in
theorem Tryz.strconv_Itoa (n : Int) (h0 : -9223372036854775808 ≤ n) (h1 : n ≤ 9223372036854775807) (w : World) (htab : Lib.TabIs Tryz.prog w "internal/strconv.uint64pow10" .u64 Lib.pow10Tab) :
  Calls Tryz.prog 129 #[.int .i64 n] w fun e w' => e = .returned (.string ⟨(Lib.itoa n).toArray⟩) ∧ ∃ k os, w' = grow (w.drewN k) os := Any.strconv_Itoa Tryz.laysM171 n h0 h1 w htab
def Tryz.lays143_ren : Go.Shelf.Ren := ⟨fun | 143 => 267 | 219 => 311 | 217 => 335 | 225 => 324 | 224 => 323 | 267 => 336 | 266 => 353 | 314 => 354 | n => n, fun | 9 => 9 | 3 => 3 | 4 => 4 | 5 => 5 | 46 => 257 | 146 => 402 | 51 => 350 | n => n, fun | 1 => 1 | n => n⟩
theorem Tryz.lays143 : Go.Proofs.Lays.n143 Tryz.prog Tryz.lays143_ren := {
 mixed := by kernel_rfl
 f143 := Tryz.func267.trans (congrArg some cJ)
 f217 := Tryz.func335.trans (congrArg some cJ)
 f219 := Tryz.func311.trans (congrArg some cJ)
 f224 := Tryz.func323.trans (congrArg some cJ)
 f225 := Tryz.func324.trans (congrArg some cJ)
 f266 := Tryz.func353.trans (congrArg some cJ)
 f267 := Tryz.func336.trans (congrArg some cJ)
 f314 := Tryz.func354.trans (congrArg some cJ)
 t3 := Tryz.underlying3
 a3 := Tryz.isAgg3
 z3 := Tryz.sizeOf3
 v3 := Tryz.zeroValue3
 t4 := Tryz.underlying4
 a4 := Tryz.isAgg4
 z4 := Tryz.sizeOf4
 v4 := Tryz.zeroValue4
 t5 := Tryz.underlying5
 a5 := Tryz.isAgg5
 z5 := Tryz.sizeOf5
 v5 := Tryz.zeroValue5
 t9 := Tryz.underlying9
 a9 := Tryz.isAgg9
 z9 := Tryz.sizeOf9
 v9 := Tryz.zeroValue9
 t46 := Tryz.underlying257
 a46 := Tryz.isAgg257
 z46 := Tryz.sizeOf257
 v46 := Tryz.zeroValue257
 t51 := Tryz.underlying350
 a51 := Tryz.isAgg350
 z51 := Tryz.sizeOf350
 v51 := Tryz.zeroValue350
 t146 := Tryz.underlying402
 a146 := Tryz.isAgg402
 z146 := Tryz.sizeOf402
 v146 := Tryz.zeroValue402
 g1 := by kernel_rfl }
open Go.RowKit Go.Lib in
theorem Tryz.strings_Index (s sub : ByteArray) (m : Int) (w : World) (hs : s.size < 4294967281) (hm : w.cell? ⟨1, 0, none⟩ = some (.int .i64 m)) :
  Calls Tryz.prog 267 #[.string s, .string sub] w fun e w' => e = .returned (.int .i64 (Lib.index s.data.toList sub.data.toList)) ∧ w' = w := Any.strings_Index Tryz.lays143 s sub m w hs hm
def Tryz.lays144_ren : Go.Shelf.Ren := ⟨fun | 144 => 305 | 143 => 267 | 219 => 311 | 217 => 335 | 225 => 324 | 224 => 323 | 267 => 336 | 266 => 353 | 314 => 354 | n => n, fun | 9 => 9 | 4 => 4 | 3 => 3 | 5 => 5 | 46 => 257 | 146 => 402 | 51 => 350 | n => n, fun | 1 => 1 | n => n⟩
theorem Tryz.lays144 : Go.Proofs.Lays.n144 Tryz.prog Tryz.lays144_ren := {
 mixed := by kernel_rfl
 f143 := Tryz.func267.trans (congrArg some cJ)
 f144 := Tryz.func305.trans (congrArg some cJ)
 f217 := Tryz.func335.trans (congrArg some cJ)
 f219 := Tryz.func311.trans (congrArg some cJ)
 f224 := Tryz.func323.trans (congrArg some cJ)
 f225 := Tryz.func324.trans (congrArg some cJ)
 f266 := Tryz.func353.trans (congrArg some cJ)
 f267 := Tryz.func336.trans (congrArg some cJ)
 f314 := Tryz.func354.trans (congrArg some cJ)
 t3 := Tryz.underlying3
 a3 := Tryz.isAgg3
 z3 := Tryz.sizeOf3
 v3 := Tryz.zeroValue3
 t4 := Tryz.underlying4
 a4 := Tryz.isAgg4
 z4 := Tryz.sizeOf4
 v4 := Tryz.zeroValue4
 t5 := Tryz.underlying5
 a5 := Tryz.isAgg5
 z5 := Tryz.sizeOf5
 v5 := Tryz.zeroValue5
 t9 := Tryz.underlying9
 a9 := Tryz.isAgg9
 z9 := Tryz.sizeOf9
 v9 := Tryz.zeroValue9
 t46 := Tryz.underlying257
 a46 := Tryz.isAgg257
 z46 := Tryz.sizeOf257
 v46 := Tryz.zeroValue257
 t51 := Tryz.underlying350
 a51 := Tryz.isAgg350
 z51 := Tryz.sizeOf350
 v51 := Tryz.zeroValue350
 t146 := Tryz.underlying402
 a146 := Tryz.isAgg402
 z146 := Tryz.sizeOf402
 v146 := Tryz.zeroValue402
 g1 := by kernel_rfl }
open Go.RowKit Go.Lib in
theorem Tryz.strings_Contains (s sub : ByteArray) (m : Int) (w : World) (hs : s.size < 4294967281) (hm : w.cell? ⟨1, 0, none⟩ = some (.int .i64 m)) :
  Calls Tryz.prog 305 #[.string s, .string sub] w fun e w' => e = .returned (.bool (Lib.contains s.data.toList sub.data.toList)) ∧ w' = w := Any.strings_Contains Tryz.lays144 s sub m w hs hm
def Tryz.lays145_ren : Go.Shelf.Ren := ⟨fun | 145 => 228 | 220 => 295 | 219 => 311 | 217 => 335 | 225 => 324 | 224 => 323 | 267 => 336 | 266 => 353 | 314 => 354 | n => n, fun | 9 => 9 | 4 => 4 | 59 => 347 | 3 => 3 | 5 => 5 | 46 => 257 | 146 => 402 | 51 => 350 | n => n, fun | 1 => 1 | n => n⟩
theorem Tryz.lays145 : Go.Proofs.Lays.n145 Tryz.prog Tryz.lays145_ren := {
 mixed := by kernel_rfl
 f145 := Tryz.func228.trans (congrArg some cJ)
 f217 := Tryz.func335.trans (congrArg some cJ)
 f219 := Tryz.func311.trans (congrArg some cJ)
 f220 := Tryz.func295.trans (congrArg some cJ)
 f224 := Tryz.func323.trans (congrArg some cJ)
 f225 := Tryz.func324.trans (congrArg some cJ)
 f266 := Tryz.func353.trans (congrArg some cJ)
 f267 := Tryz.func336.trans (congrArg some cJ)
 f314 := Tryz.func354.trans (congrArg some cJ)
 t3 := Tryz.underlying3
 a3 := Tryz.isAgg3
 z3 := Tryz.sizeOf3
 v3 := Tryz.zeroValue3
 t4 := Tryz.underlying4
 a4 := Tryz.isAgg4
 z4 := Tryz.sizeOf4
 v4 := Tryz.zeroValue4
 t5 := Tryz.underlying5
 a5 := Tryz.isAgg5
 z5 := Tryz.sizeOf5
 v5 := Tryz.zeroValue5
 t9 := Tryz.underlying9
 a9 := Tryz.isAgg9
 z9 := Tryz.sizeOf9
 v9 := Tryz.zeroValue9
 t46 := Tryz.underlying257
 a46 := Tryz.isAgg257
 z46 := Tryz.sizeOf257
 v46 := Tryz.zeroValue257
 t51 := Tryz.underlying350
 a51 := Tryz.isAgg350
 z51 := Tryz.sizeOf350
 v51 := Tryz.zeroValue350
 t59 := Tryz.underlying347
 a59 := Tryz.isAgg347
 z59 := Tryz.sizeOf347
 v59 := Tryz.zeroValue347
 t146 := Tryz.underlying402
 a146 := Tryz.isAgg402
 z146 := Tryz.sizeOf402
 v146 := Tryz.zeroValue402
 g1 := by kernel_rfl }
open Go.RowKit Go.Lib in
theorem Tryz.strings_Cut (s sep : ByteArray) (m : Int) (w : World) (hs : s.size < 4294967281) (hm : w.cell? ⟨1, 0, none⟩ = some (.int .i64 m)) :
  Calls Tryz.prog 228 #[.string s, .string sep] w fun e w' => e = .returned (.tuple #[.string ⟨(Lib.cut s.data.toList sep.data.toList).1.toArray⟩, .string ⟨(Lib.cut s.data.toList sep.data.toList).2.1.toArray⟩, .bool (Lib.cut s.data.toList sep.data.toList).2.2]) ∧ ∃ n, w' = w.drewN n := Any.strings_Cut Tryz.lays145 s sep m w hs hm
def Tryz.lays152_ren : Go.Shelf.Ren := ⟨fun | 152 => 289 | 137 => 308 | 119 => 322 | 224 => 323 | 225 => 324 | 217 => 335 | 266 => 353 | n => n, fun | 9 => 9 | 21 => 21 | 3 => 3 | 4 => 4 | 5 => 5 | 0 => 0 | 46 => 257 | n => n, fun | n => n⟩
theorem Tryz.lays152 : Go.Proofs.Lays.n152 Tryz.prog Tryz.lays152_ren := {
 mixed := by kernel_rfl
 f119 := Tryz.func322.trans (congrArg some cJ)
 f137 := Tryz.func308.trans (congrArg some cJ)
 f152 := Tryz.func289.trans (congrArg some cJ)
 f217 := Tryz.func335.trans (congrArg some cJ)
 f224 := Tryz.func323.trans (congrArg some cJ)
 f225 := Tryz.func324.trans (congrArg some cJ)
 f266 := Tryz.func353.trans (congrArg some cJ)
 t0 := Tryz.underlying0
 a0 := Tryz.isAgg0
 z0 := Tryz.sizeOf0
 v0 := Tryz.zeroValue0
 t3 := Tryz.underlying3
 a3 := Tryz.isAgg3
 z3 := Tryz.sizeOf3
 v3 := Tryz.zeroValue3
 t4 := Tryz.underlying4
 a4 := Tryz.isAgg4
 z4 := Tryz.sizeOf4
 v4 := Tryz.zeroValue4
 t5 := Tryz.underlying5
 a5 := Tryz.isAgg5
 z5 := Tryz.sizeOf5
 v5 := Tryz.zeroValue5
 t9 := Tryz.underlying9
 a9 := Tryz.isAgg9
 z9 := Tryz.sizeOf9
 v9 := Tryz.zeroValue9
 t21 := Tryz.underlying21
 a21 := Tryz.isAgg21
 z21 := Tryz.sizeOf21
 v21 := Tryz.zeroValue21
 t46 := Tryz.underlying257
 a46 := Tryz.isAgg257
 z46 := Tryz.sizeOf257
 v46 := Tryz.zeroValue257 }
open Go.RowKit Go.Lib in
theorem Tryz.strings_IndexRune_ascii (s : ByteArray) (r : Int) (w : World) (h0 : 0 ≤ r) (h1 : r < 128) :
  Calls Tryz.prog 289 #[.string s, .int .i32 r] w fun e w' => e = .returned (.int .i64 (Lib.indexByte s.data.toList r.toNat.toUInt8)) ∧ w' = w := Any.strings_IndexRune_ascii Tryz.lays152 s r w h0 h1
def Tryz.lays226_ren : Go.Shelf.Ren := ⟨fun | 226 => 290 | n => n, fun | 3 => 3 | 4 => 4 | n => n, fun | n => n⟩
theorem Tryz.lays226 : Go.Proofs.Lays.n226 Tryz.prog Tryz.lays226_ren := {
 mixed := by kernel_rfl
 f226 := Tryz.func290.trans (congrArg some cJ)
 t3 := Tryz.underlying3
 a3 := Tryz.isAgg3
 z3 := Tryz.sizeOf3
 v3 := Tryz.zeroValue3
 t4 := Tryz.underlying4
 a4 := Tryz.isAgg4
 z4 := Tryz.sizeOf4
 v4 := Tryz.zeroValue4 }
open Go.RowKit Go.Lib in
theorem Tryz.strings_shouldUseASCIISet (n : Int) (w : World) :
  Calls Tryz.prog 290 #[.int .i64 n] w fun e w' => e = .returned (.bool (decide (8 < n))) ∧ w' = w := Any.strings_shouldUseASCIISet Tryz.lays226 n w
def Tryz.lays153_ren : Go.Shelf.Ren := ⟨fun | 153 => 221 | 152 => 289 | 226 => 290 | 227 => 291 | 228 => 292 | 137 => 308 | 119 => 322 | 224 => 323 | 225 => 324 | 217 => 335 | 266 => 353 | n => n, fun | 9 => 9 | 3 => 3 | 4 => 4 | 5 => 5 | 21 => 21 | 117 => 416 | 116 => 415 | 0 => 0 | 46 => 257 | 124 => 443 | n => n, fun | n => n⟩
theorem Tryz.lays153 : Go.Proofs.Lays.n153 Tryz.prog Tryz.lays153_ren := {
 mixed := by kernel_rfl
 f119 := Tryz.func322.trans (congrArg some cJ)
 f137 := Tryz.func308.trans (congrArg some cJ)
 f152 := Tryz.func289.trans (congrArg some cJ)
 f153 := Tryz.func221.trans (congrArg some cJ)
 f217 := Tryz.func335.trans (congrArg some cJ)
 f224 := Tryz.func323.trans (congrArg some cJ)
 f225 := Tryz.func324.trans (congrArg some cJ)
 f226 := Tryz.func290.trans (congrArg some cJ)
 f227 := Tryz.func291.trans (congrArg some cJ)
 f228 := Tryz.func292.trans (congrArg some cJ)
 f266 := Tryz.func353.trans (congrArg some cJ)
 t0 := Tryz.underlying0
 a0 := Tryz.isAgg0
 z0 := Tryz.sizeOf0
 v0 := Tryz.zeroValue0
 t3 := Tryz.underlying3
 a3 := Tryz.isAgg3
 z3 := Tryz.sizeOf3
 v3 := Tryz.zeroValue3
 t4 := Tryz.underlying4
 a4 := Tryz.isAgg4
 z4 := Tryz.sizeOf4
 v4 := Tryz.zeroValue4
 t5 := Tryz.underlying5
 a5 := Tryz.isAgg5
 z5 := Tryz.sizeOf5
 v5 := Tryz.zeroValue5
 t9 := Tryz.underlying9
 a9 := Tryz.isAgg9
 z9 := Tryz.sizeOf9
 v9 := Tryz.zeroValue9
 t21 := Tryz.underlying21
 a21 := Tryz.isAgg21
 z21 := Tryz.sizeOf21
 v21 := Tryz.zeroValue21
 t46 := Tryz.underlying257
 a46 := Tryz.isAgg257
 z46 := Tryz.sizeOf257
 v46 := Tryz.zeroValue257
 t116 := Tryz.underlying415
 a116 := Tryz.isAgg415
 z116 := Tryz.sizeOf415
 t117 := Tryz.underlying416
 a117 := Tryz.isAgg416
 z117 := Tryz.sizeOf416
 v117 := Tryz.zeroValue416
 t124 := Tryz.underlying443
 a124 := Tryz.isAgg443
 z124 := Tryz.sizeOf443
 v124 := Tryz.zeroValue443 }
open Go.RowKit Go.Lib in
theorem Tryz.strings_IndexAny_long (hv116 : ∀ w, (zeroValue 415).run Tryz.prog w = .ok (.agg (Array.replicate 256 (.bool false))) w) (s chars : ByteArray) (w : World) (h2 : 2 ≤ chars.size) (h8 : 8 < s.size) (hs : s.size < 4294967281) (hcs : chars.size < 4294967281) (hascii : ∀ (j : Nat) b, chars.data.toList[j]? = some b → b.toNat < 128) :
  Calls Tryz.prog 221 #[.string s, .string chars] w fun e w' => e = .returned (.int .i64 (Lib.indexAny s.data.toList chars.data.toList)) ∧ w' = ((w.alloc (.cells (Lib.setCells chars.data.toList) 415)).alloc (.cells (Lib.setCells chars.data.toList) 415)) := Any.strings_IndexAny_long Tryz.lays153 hv116 cJ s chars w h2 h8 hs hcs hascii
end Go.Proofs
end
section
namespace Go.Proofs
open Go Go.SL Go.Syn
def Flt (e at_ : Int) : Ending → Hl → List Asn → Prop := fun en K' L' =>
 ∃ b, en = .panicked [{ v := .iface 118 (ptr b), recovered := false }] ∧ L' = [pt b (aU [i64 e, i64 at_] 123)]
def fE {β : Type} (r : Res β) (N : β → Value → Hl → List Asn → Prop) : Ending → Hl → List Asn → Prop := fun en K' L' =>
 match r with
 | .ok x => Ret (N x) en K' L'
 | .error (e, p) => Flt e p en K' L'
theorem aX {β : Type} {r : Res β} {N : β → Value → Hl → List Asn → Prop} (K' : Hl) (L' : List Asn) : ¬ fE r N .outgrown K' L' := by
 unfold fE;cases r with
 | ok x => rintro ⟨_, h, _⟩; cases h
 | error p => rintro ⟨_, h, _⟩; cases h
theorem aZ {β : Type} {r : Res β} {N : β → Value → Hl → List Asn → Prop} {v : Value} {K' : Hl} {L' : List Asn} (h : fE r N (.returned v) K' L') : ∃ x, r = .ok x ∧ N x v K' L' := by
 unfold fE at h;cases r with
 | ok x => obtain ⟨u, e, h⟩ := h; cases e; exact ⟨x, rfl, h⟩
 | error p => obtain ⟨_, e, _⟩ := h; cases e
theorem aY {β : Type} {r : Res β} {N : β → Value → Hl → List Asn → Prop} {ch : List PanicEntry} {K' : Hl} {L' : List Asn} (h : fE r N (.panicked ch) K' L') : ∃ e p, r = .error (e, p) ∧ Flt e p (.panicked ch) K' L' := by
 unfold fE at h;cases r with
 | ok x => obtain ⟨u, e, h⟩ := h; cases e
 | error p => exact ⟨p.1, p.2, rfl, h⟩
theorem dY (e at_ : Int) (K : Hl) : Sp Tryz.prog 184 [i64 e, i64 at_] K [] (Flt e at_) := by
 refine bB Tryz.func184 rfl Tryz.ntmps184 rfl rfl fun F w => ?_
 refine aB ?_;refine aA (aC rfl) rfl ?_;refine aA (aC rfl) rfl ?_;refine aA (cK aOE aLI (.cons rfl rfl rfl (.cons .nil) (.cons rfl rfl rfl (.skip (.cons .nil)) .nil))) rfl ?_;refine ol_s (eM rfl rfl) rfl ?_;rintro _ K _ ⟨b7, rfl, rfl, rfl⟩ -;refine aA (cZ Tryz.underlying118 (fun _ h => by cases h) rfl) rfl ?_;refine aB5 rfl ?_;refine bA (Hl.le_refl _) ?_;exact ⟨_, rfl, rfl⟩
theorem aEF (c : UInt8) (K : Hl) : Sp Tryz.prog 266 [.int .u8 c.toNat] K [] (Val (.bool (decide (¬ c.toNat = 10))) K) := by
 refine bB Tryz.func266 rfl Tryz.ntmps266 rfl rfl fun F w => ?_
 refine aI (aB ?_);refine aA (aF rfl) rfl ?_;refine aG (aE ?_);refine aI (aB ?_);refine aA (aC rfl) rfl ?_;refine aA (fO rfl rfl) rfl ?_;refine aA (aF rfl) rfl ?_;refine aG (aE ?_);refine bM ?_;refine bJ rfl rfl (Hl.le_refl _) ?_;refine retB ?_ _
 rw [Bool.eq_iff_iff];simp;omega
structure Glob (K : Hl) : Prop where
 maxLen : ∃ m T fz, K 1 = some (aU [i64 m] T fz)
 pow10 : ∀ w, K.le (hp w) → Lib.TabIs Tryz.prog w "internal/strconv.uint64pow10" .u64 Lib.pow10Tab
theorem vO (s sub : List UInt8) (K : Hl) (hg : Glob K) (hs : s.length < 4294967281) : Sp Tryz.prog 267 [str s, str sub] K [] (Val (i64 (Lib.index s sub)) K) := by
 refine jR ⟨_, Tryz.func267, rfl, rfl⟩ fun w hw => ?_
 obtain ⟨m, T, fz, hm⟩ := hg.maxLen;have := Tryz.strings_Index ⟨s.toArray⟩ ⟨sub.toArray⟩ m w (by simpa [ByteArray.size] using hs) (n8 (hw _ _ hm) rfl);exact this
theorem o2 (s sub : List UInt8) : Lib.index s sub ≤ (s.length : Int) - sub.length ∨ Lib.index s sub = -1 := by
 induction s with
 | nil => cases sub <;> simp [Lib.index]
 | cons b l ih =>
  simp only [Lib.index];split
  ·rename_i hp;have := List.IsPrefix.length_le (List.isPrefixOf_iff_prefix.1 hp);simp at this ⊢; omega
  ·split
   ·exact .inr rfl
   ·rename_i h; simp at h; rcases ih with ih | ih
    ·left; simp; omega
    ·exact absurd ih h
theorem aH9 (b : Nat) (T : TypeId) (s : List UInt8) (a : Nat) (wk ws wn wa : Value) (rest : List Value) (hs : s.length ≤ 600) (ha : a ≤ s.length) (K : Hl) (hg : Glob K) :
  Sp Tryz.prog 180 [ptr b] K [lxb b T s a wk ws wn wa rest]
   (fE (skip s a) fun a' v K' L' => v = .tuple #[] ∧ K' = K ∧ L' = [lxb b T s a' wk ws wn wa rest]) := by
 refine bB Tryz.func180 rfl Tryz.ntmps180 rfl rfl fun F w => ?_
 refine bF ?_;refine eK (fun (i : Nat) => a ≤ i ∧ i ≤ s.length ∧ ∃ f, s.length < i + (f + 1) ∧ skip s a = hZ s (f + 1) i) (fun i => [(0, ptr b)]) (fun _ => K) (fun i => [lxb b T s i wk ws wn wa rest]) (fun i => s.length - i) a ⟨Nat.le_refl _, ha, s.length - a, by omega, by unfold skip; congr 1; omega⟩ (.cons 0 rfl .nil) rfl (fun _ h => h) ?_;intro i ⟨hi1, hi2, f, hi3, hi4⟩;refine aI (aI ?_);refine t_draw (anc := [0, 1, 3, 7, 0, 16, 48, 112, 240, 511]) (ord := [0, 1, 2, 3, 4, 5, 6, 7, 8, 9]) [] [] mixed (by decide +kernel) (cS _) ?_;refine dl_ev rfl rfl (.none rfl) rfl rfl (aC rfl) rfl ?_;refine dl_ev rfl rfl (.none rfl) rfl rfl bS rfl ?_;refine dl_ev rfl rfl (.none rfl) rfl rfl (aD (o' := 1) bU rfl rfl) rfl ?_;refine dl_ev rfl rfl (.none rfl) rfl rfl (aK ts3 rfl aM rfl) rfl ?_;refine dl_ev rfl rfl (.none rfl) rfl rfl (aC rfl) rfl ?_;refine dl_ev rfl rfl (.none rfl) rfl rfl bS rfl ?_;refine dl_ev rfl rfl (.none rfl) rfl rfl (aD (o' := 0) fC rfl rfl) rfl ?_;refine dl_ev rfl rfl (.none rfl) rfl rfl (aK ts9 rfl aM rfl) rfl ?_;refine dl_ev rfl rfl (.none rfl) rfl rfl (cB rfl Tryz.underlying9 rfl) rfl ?_;refine dl_ev rfl rfl (.none rfl) rfl rfl (dA rfl rfl) rfl ?_;refine dl_nil ?_;refine aE ?_;refine bE 13 rfl (fun h13 => ?_) (fun h13 => ?_)
 ·
  obtain ⟨c, hc⟩ : ∃ c, s[i]? = some c := ⟨s[i], List.getElem?_eq_getElem aH⟩;have hp0 : ((s[i + 0]?).getD 0) = c := by rw [Nat.add_zero, hc]; rfl
  refine a6 ?_;refine aE (bF ?_);refine aI (aB ?_);refine aA (aC rfl) rfl ?_;refine bD rfl rfl (jA b T s i 0 wk ws wn wa rest hs aH aH K) (.cons .here .nil) rfl ?_;rintro _ K _ ⟨rfl, rfl, rfl⟩ -;rw [hp0];refine aA (aF rfl) rfl ?_;refine aG (aE ?_);refine aI (aB ?_);refine aA (aC rfl) rfl ?_;refine aG (aE ?_);refine bF (aI ?_);refine aI (aB ?_);refine aA (bT rfl rfl) rfl ?_;refine aA (aF rfl) rfl ?_;refine aG (aE ?_);refine bE 17 rfl (fun h17 => ?_) (fun h17 => ?_)
  ·
   refine a6 ?_;refine aE ?_;refine eS rfl ?_;refine aB ?_;refine aA (aC rfl) rfl ?_;refine aA bS rfl ?_;refine aA (aD (o' := 1) bU rfl rfl) rfl ?_;refine aA (aK ts3 rfl aM rfl) rfl ?_;refine aA (bZ rfl rfl aH aH) rfl ?_;refine aA bS rfl ?_;refine aA (aD (o' := 1) bU rfl rfl) rfl ?_;refine bR (bI ts3 rfl rfl cG a7 (.succ .zero) rfl) ?_;rintro _ K _ ⟨rfl, rfl⟩ -;refine aG (aN ?_);refine aN ?_
   first
    | (have hf : ∃ f0, f = f0 + 1 := ⟨f - 1, by omega⟩; obtain ⟨f0, rfl⟩ := hf; refine cL (i + 1) ⟨by omega, by omega, f0, by omega, by rw [hi4, iU hc aH]⟩ aH (.cons 0 rfl .nil) rfl (fun _ h => h))
    | (have hh := nM hc aH; refine cL (i + ((s.drop i).takeWhile fun c => decide (¬ c.toNat = 10)).length) ⟨by omega, by omega, f - 1, by omega, by rw [hi4, kX hc aH]; congr 1; omega⟩ aH (.cons 0 rfl .nil) rfl (fun _ h => h))
    | (rw [show ((i : Int) + (2 + Lib.index (s.drop (min (i + 2) s.length)) [42, 47] + 2)) = ((i + 2 + (Lib.index (s.drop (min (i + 2) s.length)) [42, 47]).toNat + 2 : Nat) : Int) from by omega]; refine cL (i + 2 + (Lib.index (s.drop (min (i + 2) s.length)) [42, 47]).toNat + 2) ⟨by omega, by omega, f - 1, by omega, by rw [hi4, iD hc aH aH aH]; congr 1; omega⟩ aH (.cons 0 rfl .nil) rfl (fun _ h => h))
  ·
   refine aI (aB ?_);refine aA (bT rfl rfl) rfl ?_;refine aA (aF rfl) rfl ?_;refine aG (aE ?_);refine bE 17 rfl (fun h17 => ?_) (fun h17 => ?_)
   ·
    refine a6 ?_;refine aE ?_;refine eS rfl ?_;refine aB ?_;refine aA (aC rfl) rfl ?_;refine aA bS rfl ?_;refine aA (aD (o' := 1) bU rfl rfl) rfl ?_;refine aA (aK ts3 rfl aM rfl) rfl ?_;refine aA (bZ rfl rfl aH aH) rfl ?_;refine aA bS rfl ?_;refine aA (aD (o' := 1) bU rfl rfl) rfl ?_;refine bR (bI ts3 rfl rfl cG a7 (.succ .zero) rfl) ?_;rintro _ K _ ⟨rfl, rfl⟩ -;refine aG (aN ?_);refine aN ?_
    first
     | (have hf : ∃ f0, f = f0 + 1 := ⟨f - 1, by omega⟩; obtain ⟨f0, rfl⟩ := hf; refine cL (i + 1) ⟨by omega, by omega, f0, by omega, by rw [hi4, iU hc aH]⟩ aH (.cons 0 rfl .nil) rfl (fun _ h => h))
     | (have hh := nM hc aH; refine cL (i + ((s.drop i).takeWhile fun c => decide (¬ c.toNat = 10)).length) ⟨by omega, by omega, f - 1, by omega, by rw [hi4, kX hc aH]; congr 1; omega⟩ aH (.cons 0 rfl .nil) rfl (fun _ h => h))
     | (rw [show ((i : Int) + (2 + Lib.index (s.drop (min (i + 2) s.length)) [42, 47] + 2)) = ((i + 2 + (Lib.index (s.drop (min (i + 2) s.length)) [42, 47]).toNat + 2 : Nat) : Int) from by omega]; refine cL (i + 2 + (Lib.index (s.drop (min (i + 2) s.length)) [42, 47]).toNat + 2) ⟨by omega, by omega, f - 1, by omega, by rw [hi4, iD hc aH aH aH]; congr 1; omega⟩ aH (.cons 0 rfl .nil) rfl (fun _ h => h))
   ·
    refine aI (aB ?_);refine aA (bT rfl rfl) rfl ?_;refine aA (aF rfl) rfl ?_;refine aG (aE ?_);refine bE 17 rfl (fun h17 => ?_) (fun h17 => ?_)
    ·
     refine a6 ?_;refine aE ?_;refine eS rfl ?_;refine aB ?_;refine aA (aC rfl) rfl ?_;refine aA bS rfl ?_;refine aA (aD (o' := 1) bU rfl rfl) rfl ?_;refine aA (aK ts3 rfl aM rfl) rfl ?_;refine aA (bZ rfl rfl aH aH) rfl ?_;refine aA bS rfl ?_;refine aA (aD (o' := 1) bU rfl rfl) rfl ?_;refine bR (bI ts3 rfl rfl cG a7 (.succ .zero) rfl) ?_;rintro _ K _ ⟨rfl, rfl⟩ -;refine aG (aN ?_);refine aN ?_
     first
      | (have hf : ∃ f0, f = f0 + 1 := ⟨f - 1, by omega⟩; obtain ⟨f0, rfl⟩ := hf; refine cL (i + 1) ⟨by omega, by omega, f0, by omega, by rw [hi4, iU hc aH]⟩ aH (.cons 0 rfl .nil) rfl (fun _ h => h))
      | (have hh := nM hc aH; refine cL (i + ((s.drop i).takeWhile fun c => decide (¬ c.toNat = 10)).length) ⟨by omega, by omega, f - 1, by omega, by rw [hi4, kX hc aH]; congr 1; omega⟩ aH (.cons 0 rfl .nil) rfl (fun _ h => h))
      | (rw [show ((i : Int) + (2 + Lib.index (s.drop (min (i + 2) s.length)) [42, 47] + 2)) = ((i + 2 + (Lib.index (s.drop (min (i + 2) s.length)) [42, 47]).toNat + 2 : Nat) : Int) from by omega]; refine cL (i + 2 + (Lib.index (s.drop (min (i + 2) s.length)) [42, 47]).toNat + 2) ⟨by omega, by omega, f - 1, by omega, by rw [hi4, iD hc aH aH aH]; congr 1; omega⟩ aH (.cons 0 rfl .nil) rfl (fun _ h => h))
    ·
     refine aB ?_;refine aA (bT rfl rfl) rfl ?_;refine aA (aF rfl) rfl ?_;refine aG (aE ?_);refine bE 17 rfl (fun h17 => ?_) (fun h17 => ?_)
     ·
      refine aB ?_;refine aA (aC rfl) rfl ?_;refine aA bS rfl ?_;refine aA (aD (o' := 1) bU rfl rfl) rfl ?_;refine aA (aK ts3 rfl aM rfl) rfl ?_;refine aA (bZ rfl rfl aH aH) rfl ?_;refine aA bS rfl ?_;refine aA (aD (o' := 1) bU rfl rfl) rfl ?_;refine bR (bI ts3 rfl rfl cG a7 (.succ .zero) rfl) ?_;rintro _ K _ ⟨rfl, rfl⟩ -;refine aG (aN ?_);refine aN ?_
      first
       | (have hf : ∃ f0, f = f0 + 1 := ⟨f - 1, by omega⟩; obtain ⟨f0, rfl⟩ := hf; refine cL (i + 1) ⟨by omega, by omega, f0, by omega, by rw [hi4, iU hc aH]⟩ aH (.cons 0 rfl .nil) rfl (fun _ h => h))
       | (have hh := nM hc aH; refine cL (i + ((s.drop i).takeWhile fun c => decide (¬ c.toNat = 10)).length) ⟨by omega, by omega, f - 1, by omega, by rw [hi4, kX hc aH]; congr 1; omega⟩ aH (.cons 0 rfl .nil) rfl (fun _ h => h))
       | (rw [show ((i : Int) + (2 + Lib.index (s.drop (min (i + 2) s.length)) [42, 47] + 2)) = ((i + 2 + (Lib.index (s.drop (min (i + 2) s.length)) [42, 47]).toNat + 2 : Nat) : Int) from by omega]; refine cL (i + 2 + (Lib.index (s.drop (min (i + 2) s.length)) [42, 47]).toNat + 2) ⟨by omega, by omega, f - 1, by omega, by rw [hi4, iD hc aH aH aH]; congr 1; omega⟩ aH (.cons 0 rfl .nil) rfl (fun _ h => h))
     ·
      refine aI (aB ?_);refine aA (bT rfl rfl) rfl ?_;refine aA (aF rfl) rfl ?_;refine aG (aE ?_);refine bE 29 rfl (fun h29 => ?_) (fun h29 => ?_)
      ·
       refine aB ?_;refine aA (aC rfl) rfl ?_;refine bD rfl rfl (oO b T s i wk ws wn wa rest 266 (fun c => decide (¬ c.toNat = 10)) hs aH _ (fun c => aEF c _)) (.cons .here .nil) rfl ?_;rintro _ K _ ⟨rfl, rfl, rfl⟩ -;refine aG (aN ?_);refine aN ?_
       first
        | (have hf : ∃ f0, f = f0 + 1 := ⟨f - 1, by omega⟩; obtain ⟨f0, rfl⟩ := hf; refine cL (i + 1) ⟨by omega, by omega, f0, by omega, by rw [hi4, iU hc aH]⟩ aH (.cons 0 rfl .nil) rfl (fun _ h => h))
        | (have hh := nM hc aH; refine cL (i + ((s.drop i).takeWhile fun c => decide (¬ c.toNat = 10)).length) ⟨by omega, by omega, f - 1, by omega, by rw [hi4, kX hc aH]; congr 1; omega⟩ aH (.cons 0 rfl .nil) rfl (fun _ h => h))
        | (rw [show ((i : Int) + (2 + Lib.index (s.drop (min (i + 2) s.length)) [42, 47] + 2)) = ((i + 2 + (Lib.index (s.drop (min (i + 2) s.length)) [42, 47]).toNat + 2 : Nat) : Int) from by omega]; refine cL (i + 2 + (Lib.index (s.drop (min (i + 2) s.length)) [42, 47]).toNat + 2) ⟨by omega, by omega, f - 1, by omega, by rw [hi4, iD hc aH aH aH]; congr 1; omega⟩ aH (.cons 0 rfl .nil) rfl (fun _ h => h))
      ·
       refine aI (aB ?_);refine aA (bT rfl rfl) rfl ?_;refine aA (aF rfl) rfl ?_;refine aG (aE ?_);refine bE 33 rfl (fun h33 => ?_) (fun h33 => ?_)
       ·
        refine aI ?_;refine t_draw (anc := [0, 1, 3, 7, 0, 16, 48, 112, 240, 0, 512, 1536, 3584, 7680, 16368, 32767, 65535, 131071]) (ord := [0, 1, 2, 3, 4, 5, 6, 7, 8, 9, 10, 11, 12, 13, 14, 15, 16, 17]) [16] [] mixed (by decide +kernel) (cS _) ?_;refine dl_ev rfl rfl (.none rfl) rfl rfl (aC rfl) rfl ?_;refine dl_ev rfl rfl (.none rfl) rfl rfl bS rfl ?_;refine dl_ev rfl rfl (.none rfl) rfl rfl (aD (o' := 0) fC rfl rfl) rfl ?_;refine dl_ev rfl rfl (.none rfl) rfl rfl (aK ts9 rfl aM rfl) rfl ?_;refine dl_ev rfl rfl (.none rfl) rfl rfl (aC rfl) rfl ?_;refine dl_ev rfl rfl (.none rfl) rfl rfl bS rfl ?_;refine dl_ev rfl rfl (.none rfl) rfl rfl (aD (o' := 1) bU rfl rfl) rfl ?_;refine dl_ev rfl rfl (.none rfl) rfl rfl (aK ts3 rfl aM rfl) rfl ?_;refine dl_ev rfl rfl (.none rfl) rfl rfl (bZ rfl rfl aH aH) rfl ?_;refine dl_ev rfl rfl (.none rfl) rfl rfl (aC rfl) rfl ?_;refine dl_ev rfl rfl (.none rfl) rfl rfl bS rfl ?_;refine dl_ev rfl rfl (.none rfl) rfl rfl (aD (o' := 0) fC rfl rfl) rfl ?_;refine dl_ev rfl rfl (.none rfl) rfl rfl (aK ts9 rfl aM rfl) rfl ?_;refine dl_ev rfl rfl (.none rfl) rfl rfl (cB rfl Tryz.underlying9 rfl) rfl ?_;refine dl_ev rfl rfl (.none rfl) rfl rfl (kM rfl rfl) rfl ?_;refine dl_ev rfl rfl (.none rfl) rfl rfl (fW (m := min (i + 2) s.length) Tryz.underlying9 rfl rfl (by split <;> omega) aH) rfl ?_;refine dl_callv rfl (.none rfl) rfl rfl rfl rfl (vO _ _ _ hg (by simp; omega)) rfl ?_;refine dl_ev rfl rfl (.none rfl) rfl rfl (aF rfl) rfl ?_;refine dl_nil ?_;refine aE (aI ?_);refine aI (aB ?_);refine aA (aC rfl) rfl ?_;refine bD rfl rfl (jA b T s i 1 wk ws wn wa rest hs aH aH _) (.cons .here .nil) rfl ?_;rintro _ K _ ⟨rfl, rfl, rfl⟩ -;have hix := o2 (s.drop (min (i + 2) s.length)) [42, 47];simp only [List.length_drop, List.length_cons, List.length_nil] at hix;refine aA (fO rfl rfl) rfl ?_;refine aG (aE ?_);refine bE 54 rfl (fun h54 => ?_) (fun h54 => ?_)
        ·
         refine bM ?_;refine bC ?_;refine bQ ?_;refine bQ ?_;refine bC ?_;refine bQ ?_;refine qY rfl (Hl.le_refl _) ?_;have hk : skip s a = .ok i := by rw [hi4]; first | exact qB aH | exact pD hc aH aH | exact nA hc aH
         rw [hk];exact ⟨_, rfl, rfl, rfl, rfl⟩
        ·
         refine a6 ?_;refine aE (aI ?_);refine aI (aB ?_);refine aA (aC rfl) rfl ?_;refine aA (dA rfl rfl) rfl ?_;refine aG (aE ?_);refine bE 56 rfl (fun h56 => ?_) (fun h56 => ?_)
         ·
          refine aB ?_;refine aA (aC rfl) rfl ?_;refine aA bS rfl ?_;refine aA (aD (o' := 1) bU rfl rfl) rfl ?_;refine aA (aK ts3 rfl aM rfl) rfl ?_;refine aW rfl rfl (dY 2 i _) .nil rfl (by rintro _ _ ⟨_, h, _⟩; cases h) ?_ ?_
          ·
           rintro _ _ _ ⟨fb, h, rfl⟩ le1;cases h
           refine aO (.cons .here .nil) ?_;refine aJ ?_;refine aP ?_;refine aP ?_;refine aJ ?_;refine aP ?_;refine bA bP ?_;rw [hi4, aH7 hc aH aH h56];exact ⟨fb, rfl, rfl⟩
          ·
           rintro _ _ _ ⟨_, h, _⟩; cases h
         ·
          refine a6 ?_;refine aE (aB ?_);refine aA (aC rfl) rfl ?_;refine aA bS rfl ?_;refine aA (aD (o' := 1) bU rfl rfl) rfl ?_;refine aA (aK ts3 rfl aM rfl) rfl ?_;refine aA (aC rfl) rfl ?_;refine aA (bZ rfl rfl aH aH) rfl ?_;refine aA (bZ rfl rfl aH aH) rfl ?_;refine aA (bZ rfl rfl aH aH) rfl ?_;refine aA bS rfl ?_;refine aA (aD (o' := 1) bU rfl rfl) rfl ?_;refine bR (bI ts3 rfl rfl cG a7 (.succ .zero) rfl) ?_;rintro _ K _ ⟨rfl, rfl⟩ -;refine aG (aN ?_);refine aN ?_
          first
           | (have hf : ∃ f0, f = f0 + 1 := ⟨f - 1, by omega⟩; obtain ⟨f0, rfl⟩ := hf; refine cL (i + 1) ⟨by omega, by omega, f0, by omega, by rw [hi4, iU hc aH]⟩ aH (.cons 0 rfl .nil) rfl (fun _ h => h))
           | (have hh := nM hc aH; refine cL (i + ((s.drop i).takeWhile fun c => decide (¬ c.toNat = 10)).length) ⟨by omega, by omega, f - 1, by omega, by rw [hi4, kX hc aH]; congr 1; omega⟩ aH (.cons 0 rfl .nil) rfl (fun _ h => h))
           | (rw [show ((i : Int) + (2 + Lib.index (s.drop (min (i + 2) s.length)) [42, 47] + 2)) = ((i + 2 + (Lib.index (s.drop (min (i + 2) s.length)) [42, 47]).toNat + 2 : Nat) : Int) from by omega]; refine cL (i + 2 + (Lib.index (s.drop (min (i + 2) s.length)) [42, 47]).toNat + 2) ⟨by omega, by omega, f - 1, by omega, by rw [hi4, iD hc aH aH aH]; congr 1; omega⟩ aH (.cons 0 rfl .nil) rfl (fun _ h => h))
       ·
        refine bM ?_;refine bQ ?_;refine bQ ?_;refine bC ?_;refine bQ ?_;refine qY rfl (Hl.le_refl _) ?_;have hk : skip s a = .ok i := by rw [hi4]; first | exact qB aH | exact pD hc aH aH | exact nA hc aH
        rw [hk];exact ⟨_, rfl, rfl, rfl, rfl⟩
 ·
  refine cY ?_;refine aV ?_;refine aV ?_;refine bL ?_;refine dE rfl (Hl.le_refl _) ?_;have hk : skip s a = .ok i := by rw [hi4]; first | exact qB aH | exact pD hc aH aH | exact nA hc aH
  rw [hk];exact ⟨_, rfl, rfl, rfl, rfl⟩
end Go.Proofs
end
section
namespace Go.Proofs
open Go Go.SL Go.Syn
theorem uC (s : List UInt8) (lo hi add : UInt8) (K : Hl) (hs : s.length ≤ 140737488351232) :
    Sp Tryz.prog 269 [str s, .int .u8 lo.toNat, .int .u8 hi.toNat, .int .u8 add.toNat] K [] (Val (str (s.map (jX lo hi add))) K) := by
  refine bB Tryz.func269 rfl Tryz.ntmps269 rfl rfl fun F w => ?_
  refine aI (aB ?_);refine aA (aF rfl) rfl ?_;refine aG (aE ?_);refine aI (aB ?_);refine aA (aC rfl) rfl ?_;refine ol_s (p8 Tryz.underlying9 Tryz.underlying130 Tryz.underlying5 rfl) rfl ?_;rintro v13 K _ ⟨rfl, rfl⟩ -;refine aA (aF rfl) rfl ?_;refine aG (aE ?_);refine aI (aI ?_);refine aB ?_;refine aA (aC rfl) rfl ?_;refine aA (cE (k := (elB 5)) rfl Tryz.underlying130 rfl aM) rfl ?_;refine aA (aC rfl) rfl ?_;refine aG (aE ?_);refine bF ?_;refine eK (fun (i : Nat) => i ≤ s.length) (fun i => [(1, .int .u8 lo.toNat), (2, .int .u8 hi.toNat), (3, .int .u8 add.toNat), (9, v13), (14, v13), (15, i64 s.length), (16, i64 i)]) (fun _ => _) (fun i => [sl false (elB 5) v13 (Plain.mp (jX lo hi add) s i)]) (fun i => s.length - i) 0 (Nat.zero_le _) (.cons 1 rfl (.cons 2 rfl (.cons 3 rfl (.cons 9 rfl (.cons 14 rfl (.cons 15 rfl (.cons 16 rfl .nil))))))) rfl (fun _ h => by rw [Plain.mp_zero]; exact h) ?_;intro i hi0;refine aI (aB ?_);refine aA (dA rfl rfl) rfl ?_;refine aG (aE ?_);refine aI ?_;refine bE 17 rfl (fun h17 => ?_) (fun h17 => ?_)
  ·
    obtain ⟨c, hc⟩ : ∃ c, s[i]? = some c := ⟨s[i]'(by omega), List.getElem?_eq_getElem aH⟩;have hlen : i < (Plain.mp (jX lo hi add) s i).length := by rw [Plain.mp_len]; omega
    have hget := (Plain.mp_get (jX lo hi add) s i).trans hc;refine a6 ?_;refine aE (aI ?_);refine bF (aI ?_);refine aB ?_;refine aA (aC rfl) rfl ?_;refine aA (b0 (k := (elB 5)) mC rfl aM rfl rfl (by first | assumption | omega)) rfl ?_;refine aA (dO (o := 0) (k := (elB 5)) ts5 rfl aM bP rfl) rfl ?_;refine aA (aF rfl) rfl ?_;refine aA (aF rfl) rfl ?_;refine aG (aE ?_);refine aI (aB ?_);refine aA (aC rfl) rfl ?_;refine aA (aC rfl) rfl ?_;refine aA (gU rfl rfl) rfl ?_;refine aA (aC rfl) rfl ?_;refine cA 24 rfl (fun g24 => ?_) (fun g24 => ?_)
    ·
      refine aT rfl rfl ?_;refine aA (aC rfl) rfl ?_;refine aT rfl rfl ?_;refine aA (aC rfl) rfl ?_;refine aT rfl rfl ?_;refine aA (j7 rfl rfl) rfl ?_;refine aA (bH rfl rfl) rfl ?_;refine aG (aE ?_);refine bE 28 rfl (fun h28 => ?_) (fun h28 => ?_)
      ·
        refine aB ?_;refine aA (aC rfl) rfl ?_;refine aA (aC rfl) rfl ?_;refine aA (aC rfl) rfl ?_;refine aA (aC rfl) rfl ?_;refine aA (aMR c add rfl rfl) rfl ?_;refine aA (b0 (k := (elB 5)) mC rfl aM rfl rfl (by first | assumption | omega)) rfl ?_;refine bR (aHU (k := (elB 5)) (y0 := c + add) ts5 rfl rfl rfl rfl (by first | assumption | omega) a7) ?_;rintro _ K _ ⟨rfl, rfl⟩ -;refine aG (aN ?_);refine aE (aB ?_);refine aA (bZ rfl rfl aH aH) rfl ?_;refine aA (aC rfl) rfl ?_;refine aG ?_;refine cL (i + 1) aH aH (.cons 1 rfl (.cons 2 rfl (.cons 3 rfl (.cons 9 rfl (.cons 14 rfl (.cons 15 rfl (.cons 16 rfl .nil))))))) rfl ?_
        first
          | (have ht : jX lo hi add c = c + add := by (unfold jX; rw [if_pos aH])
             rw [← ht, Plain.mp_set hc]; exact fun _ h => h)
          | (have ht : jX lo hi add c = c := by (unfold jX; rw [if_neg aH])
             rw [Plain.mp_same hc ht]; exact fun _ h => h)
      ·
        refine a6 ?_;refine aN (aE ?_);refine aB ?_;refine aA (bZ rfl rfl aH aH) rfl ?_;refine aA (aC rfl) rfl ?_;refine aG ?_;refine cL (i + 1) aH aH (.cons 1 rfl (.cons 2 rfl (.cons 3 rfl (.cons 9 rfl (.cons 14 rfl (.cons 15 rfl (.cons 16 rfl .nil))))))) rfl ?_
        first
          | (have ht : jX lo hi add c = c + add := by (unfold jX; rw [if_pos aH])
             rw [← ht, Plain.mp_set hc]; exact fun _ h => h)
          | (have ht : jX lo hi add c = c := by (unfold jX; rw [if_neg aH])
             rw [Plain.mp_same hc ht]; exact fun _ h => h)
    ·
      refine aQ rfl rfl rfl ?_;refine aQ rfl rfl rfl ?_;refine aQ rfl rfl rfl ?_;refine aA (a8 rfl rfl) rfl ?_;refine aG (aE ?_);refine cQ rfl ?_;refine a6 ?_;refine aN (aE ?_);refine aB ?_;refine aA (bZ rfl rfl aH aH) rfl ?_;refine aA (aC rfl) rfl ?_;refine aG ?_;refine cL (i + 1) aH aH (.cons 1 rfl (.cons 2 rfl (.cons 3 rfl (.cons 9 rfl (.cons 14 rfl (.cons 15 rfl (.cons 16 rfl .nil))))))) rfl ?_
      first
        | (have ht : jX lo hi add c = c + add := by (unfold jX; rw [if_pos aH])
           rw [← ht, Plain.mp_set hc]; exact fun _ h => h)
        | (have ht : jX lo hi add c = c := by (unfold jX; rw [if_neg aH])
           rw [Plain.mp_same hc ht]; exact fun _ h => h)
  ·
    have hfin := Plain.mp_end (jX lo hi add) s (i := i) aH;refine cY ?_;refine aV ?_;refine aV ?_;refine bL ?_;refine aE (aI ?_);refine aB ?_;refine aA (aC rfl) rfl ?_;refine aA (zM Tryz.underlying130 Tryz.underlying5 Tryz.underlying9 rfl aM) rfl ?_;refine aA (aF rfl) rfl ?_;refine aG (aE ?_);refine bM ?_;rw [hfin];refine aO .nil ?_;refine bJ rfl rfl (Hl.le_refl _) ?_;exact ⟨rfl, rfl, rfl⟩
theorem fA (s : List UInt8) (K : Hl) (hs : s.length ≤ 140737488351232) : Sp Tryz.prog 185 [str s] K [] (Val (str (cU s)) K) := by
 refine bB Tryz.func185 rfl Tryz.ntmps185 rfl rfl fun F w => ?_
 refine aI (aB ?_);refine aA (aF rfl) rfl ?_;refine aG (aE ?_);refine aI (aB ?_);refine aA (aC rfl) rfl ?_;refine cF rfl rfl (uC s 65 90 32 _ hs) rfl ?_;refine aA (aF rfl) rfl ?_;refine aG (aE ?_);refine bM ?_;refine bJ rfl rfl (Hl.le_refl _) ?_;exact ⟨rfl, rfl, rfl⟩
theorem aDY (s : List UInt8) (K : Hl) (hs : s.length ≤ 140737488351232) : Sp Tryz.prog 258 [str s] K [] (Val (str (aDX s)) K) := by
 refine bB Tryz.func258 rfl Tryz.ntmps258 rfl rfl fun F w => ?_
 refine aI (aB ?_);refine aA (aF rfl) rfl ?_;refine aG (aE ?_);refine aI (aB ?_);refine aA (aC rfl) rfl ?_;refine cF rfl rfl (uC s 97 122 224 _ hs) rfl ?_;refine aA (aF rfl) rfl ?_;refine aG (aE ?_);refine bM ?_;refine bJ rfl rfl (Hl.le_refl _) ?_;exact ⟨rfl, rfl, rfl⟩
theorem aB2 (b : Nat) (T : TypeId) (s : List UInt8) (a : Nat) (wk ws wn : Value) (wat : Int) (rest : List Value) (hs : s.length ≤ 600) (ha : a ≤ s.length) (K : Hl) :
    Sp Tryz.prog 189 [ptr b] K [lxb b T s a wk ws wn (i64 wat) rest]
      (fE (rL s a wat) fun r v K' L' => v = .tuple #[] ∧ K' = K ∧ L' = [lxb b T s r.1 (.int .u8 4) ws (i64 r.2) (i64 wat) rest]) := by
  have hdl := xR s a ha;refine bB Tryz.func189 rfl Tryz.ntmps189 rfl rfl fun F w => ?_
  refine aI (aB ?_);refine aA (aF rfl) rfl ?_;refine aG (aE ?_);refine aI (aI ?_);refine aB ?_;refine aA (aC rfl) rfl ?_;refine bD rfl rfl (oO b T s a wk ws wn (i64 wat) rest 188 f6 hs ha _ (fun c => lV c _)) (.cons .here .nil) rfl ?_;rintro _ K _ ⟨rfl, rfl, rfl⟩ -;rw [show List.takeWhile f6 (List.drop a s) = cR s a from rfl];have hvd : fF ((cR s a).take 0) = 0 := rfl;refine ol_s (p8 Tryz.underlying9 Tryz.underlying130 Tryz.underlying5 rfl) rfl ?_;rintro v7 K _ ⟨rfl, rfl⟩ -;refine aA (cE (k := (elB 5)) rfl Tryz.underlying130 rfl aM) rfl ?_;refine aA (aC rfl) rfl ?_;refine aG (aE ?_);refine bF ?_;refine eK (fun (i : Nat) => i ≤ (cR s a).length) (fun i => [(0, ptr b), (2, i64 (fF ((cR s a).take i))), (7, v7), (8, i64 (cR s a).length), (9, i64 i)]) (fun _ => _) (fun i => [sl false (elB 5) v7 (cR s a), lxb b T s (a + (cR s a).length : Nat) wk ws wn (i64 wat) rest]) (fun i => (cR s a).length - i) 0 (Nat.zero_le _) (.cons 0 rfl (.cons 2 rfl (.cons 7 rfl (.cons 8 rfl (.cons 9 rfl .nil))))) rfl (fun _ h => h) ?_;intro i hi0;refine aI (aB ?_);refine aA (dA rfl rfl) rfl ?_;refine aG (aE ?_);refine aI ?_;refine bE 10 rfl (fun h10 => ?_) (fun h10 => ?_)
  ·
    obtain ⟨c, hc⟩ : ∃ c, (cR s a)[i]? = some c := ⟨(cR s a)[i]'(by omega), List.getElem?_eq_getElem aH⟩;have hd := aJI hc;have hlen : i < (cR s a).length := by omega
    have hbd := xQ ((cR s a).take i);refine a6 ?_;refine aE (aI ?_);refine bF (aI ?_);refine aB ?_;refine aA (b0 (k := (elB 5)) mC rfl aM rfl rfl (by first | assumption | omega)) rfl ?_;refine aA (dO (o := 0) (k := (elB 5)) ts5 rfl aM bP rfl) rfl ?_;refine aA (aF rfl) rfl ?_;refine aG (aE ?_);refine aB ?_;refine aA (aC rfl) rfl ?_;refine aA (q7 rfl rfl aH aH) rfl ?_;refine aA (aC rfl) rfl ?_;refine aA (aFF (m := c.toNat) (n := 48) aH aH rfl rfl) rfl ?_;refine aA (tV Tryz.underlying3 Tryz.underlying5 rfl aH aH) rfl ?_;refine aA (bZ rfl rfl aH aH) rfl ?_;refine aA (kM rfl rfl) rfl ?_;refine aA (aF rfl) rfl ?_;refine aG (aN ?_);refine aE (aB ?_);refine aA (bZ rfl rfl aH aH) rfl ?_;refine aA (aC rfl) rfl ?_;refine aG ?_;have hup : fF ((cR s a).take (i + 1)) = _ := aBE hc;refine cL (i + 1) aH aH (.cons 0 rfl (.cons 2 (by rw [hup]; rfl) (.cons 7 rfl (.cons 8 rfl (.cons 9 rfl .nil))))) rfl (fun _ h => h)
  ·
    have hfin : (cR s a).take i = cR s a := List.take_of_length_le aH;have hbd := xQ (cR s a);rw [hfin];refine cY ?_;refine aV ?_;refine aV ?_;refine bL ?_;refine aE ?_;refine hO (fun (_ : Unit) => True) (fun _ => [(0, ptr b), (2, i64 (numN s a))]) (fun _ => K) (fun _ => [lxb b T s (numA s a : Nat) wk ws wn (i64 wat) rest]) ?_ ?_
    ·
      refine aI (aB ?_);refine aA (aC rfl) rfl ?_;refine bD rfl rfl (jA b T s (a + (cR s a).length) 0 wk ws wn (i64 wat) rest hs aH aH _) (.cons (.there .here) .nil) rfl ?_;rintro _ K _ ⟨rfl, rfl, rfl⟩ -;have hcc : (((s[a + (cR s a).length + 0]?).getD 0).toNat : Int) = (numC s a : Int) := rfl;rw [hcc];clear hcc;refine aG (aE ?_);refine bF (aI ?_);refine bF (aI ?_);refine bF (aI ?_);refine aI (aI ?_);refine aI (aB ?_);refine aA (bT rfl rfl) rfl ?_;refine aA (aF rfl) rfl ?_;refine aG (aE ?_);refine bE 23 rfl (fun h23 => ?_) (fun h23 => ?_)
      ·
        refine a6 ?_;refine aE ?_;refine eS rfl ?_;refine cY ?_;refine aV ?_;refine aV ?_;refine bL ?_;refine aE (aB ?_);refine aA (aC rfl) rfl ?_;refine aA (q7 rfl rfl aH aH) rfl ?_;refine aA (aF rfl) rfl ?_;refine aG (aN ?_);refine aE (aI ?_);refine aI (aB ?_);refine aA (aC rfl) rfl ?_;refine aA (q7 rfl rfl aH aH) rfl ?_;refine aA (aF rfl) rfl ?_;refine aG (aE ?_);refine aB ?_;refine aA (aC rfl) rfl ?_;refine aA bS rfl ?_;refine aA (aD (o' := 1) bU rfl rfl) rfl ?_;refine aA (aK ts3 rfl aM rfl) rfl ?_;refine aA (bZ rfl rfl aH aH) rfl ?_;refine aA bS rfl ?_;refine aA (aD (o' := 1) bU rfl rfl) rfl ?_;refine bR (bI ts3 rfl rfl cG a7 (.succ .zero) rfl) ?_;rintro _ K _ ⟨rfl, rfl⟩ -;refine aG (aE ?_);refine cY ?_;refine bL ?_
        first
          | (have eN : numN s a = fF (cR s a) * 1024 * 1024 := (by (unfold numN; rw [if_pos aH]))
             have eA : numA s a = a + (cR s a).length + 1 := (by (unfold numA; rw [if_pos aH]));refine aO (.cons .here .nil) ?_;refine bX () trivial (.cons 0 rfl (.cons 2 (by rw [eN]; rfl) .nil)) rfl (by rw [eA]; exact fun _ h => h))
          | (have eN : numN s a = fF (cR s a) * 1024 := (by (unfold numN; rw [if_neg aH, if_pos aH]))
             have eA : numA s a = a + (cR s a).length + 1 := (by (unfold numA; rw [if_pos aH]));refine aO (.cons .here .nil) ?_;refine bX () trivial (.cons 0 rfl (.cons 2 (by rw [eN]; rfl) .nil)) rfl (by rw [eA]; exact fun _ h => h))
          | (have eN : numN s a = fF (cR s a) := (by (unfold numN; rw [if_neg aH, if_neg aH]))
             have eA : numA s a = a + (cR s a).length := (by (unfold numA; rw [if_neg aH]));refine aO (.cons .here .nil) ?_;refine bX () trivial (.cons 0 rfl (.cons 2 (by rw [eN]; rfl) .nil)) rfl (by rw [eA]; exact fun _ h => h))
      ·
        refine aB ?_;refine aA (bT rfl rfl) rfl ?_;refine aA (aF rfl) rfl ?_;refine aG (aE ?_);refine bE 23 rfl (fun h23 => ?_) (fun h23 => ?_)
        ·
          refine cY ?_;refine aV ?_;refine aV ?_;refine bL ?_;refine aE (aB ?_);refine aA (aC rfl) rfl ?_;refine aA (q7 rfl rfl aH aH) rfl ?_;refine aA (aF rfl) rfl ?_;refine aG (aN ?_);refine aE (aI ?_);refine aI (aB ?_);refine aA (aC rfl) rfl ?_;refine aA (q7 rfl rfl aH aH) rfl ?_;refine aA (aF rfl) rfl ?_;refine aG (aE ?_);refine aB ?_;refine aA (aC rfl) rfl ?_;refine aA bS rfl ?_;refine aA (aD (o' := 1) bU rfl rfl) rfl ?_;refine aA (aK ts3 rfl aM rfl) rfl ?_;refine aA (bZ rfl rfl aH aH) rfl ?_;refine aA bS rfl ?_;refine aA (aD (o' := 1) bU rfl rfl) rfl ?_;refine bR (bI ts3 rfl rfl cG a7 (.succ .zero) rfl) ?_;rintro _ K _ ⟨rfl, rfl⟩ -;refine aG (aE ?_);refine cY ?_;refine bL ?_
          first
            | (have eN : numN s a = fF (cR s a) * 1024 * 1024 := (by (unfold numN; rw [if_pos aH]))
               have eA : numA s a = a + (cR s a).length + 1 := (by (unfold numA; rw [if_pos aH]));refine aO (.cons .here .nil) ?_;refine bX () trivial (.cons 0 rfl (.cons 2 (by rw [eN]; rfl) .nil)) rfl (by rw [eA]; exact fun _ h => h))
            | (have eN : numN s a = fF (cR s a) * 1024 := (by (unfold numN; rw [if_neg aH, if_pos aH]))
               have eA : numA s a = a + (cR s a).length + 1 := (by (unfold numA; rw [if_pos aH]));refine aO (.cons .here .nil) ?_;refine bX () trivial (.cons 0 rfl (.cons 2 (by rw [eN]; rfl) .nil)) rfl (by rw [eA]; exact fun _ h => h))
            | (have eN : numN s a = fF (cR s a) := (by (unfold numN; rw [if_neg aH, if_neg aH]))
               have eA : numA s a = a + (cR s a).length := (by (unfold numA; rw [if_neg aH]));refine aO (.cons .here .nil) ?_;refine bX () trivial (.cons 0 rfl (.cons 2 (by rw [eN]; rfl) .nil)) rfl (by rw [eA]; exact fun _ h => h))
        ·
          refine a6 ?_;refine aE (aI ?_);refine aI (aB ?_);refine aA (bT rfl rfl) rfl ?_;refine aA (aF rfl) rfl ?_;refine aG (aE ?_);refine bE 26 rfl (fun h26 => ?_) (fun h26 => ?_)
          ·
            refine a6 ?_;refine aE ?_;refine eS rfl ?_;refine cY ?_;refine aV ?_;refine fV rfl ?_;refine aV ?_;refine bL ?_;refine aE (aI ?_);refine aI (aB ?_);refine aA (aC rfl) rfl ?_;refine aA (q7 rfl rfl aH aH) rfl ?_;refine aA (aF rfl) rfl ?_;refine aG (aE ?_);refine aB ?_;refine aA (aC rfl) rfl ?_;refine aA bS rfl ?_;refine aA (aD (o' := 1) bU rfl rfl) rfl ?_;refine aA (aK ts3 rfl aM rfl) rfl ?_;refine aA (bZ rfl rfl aH aH) rfl ?_;refine aA bS rfl ?_;refine aA (aD (o' := 1) bU rfl rfl) rfl ?_;refine bR (bI ts3 rfl rfl cG a7 (.succ .zero) rfl) ?_;rintro _ K _ ⟨rfl, rfl⟩ -;refine aG (aE ?_);refine cY ?_;refine bL ?_
            first
              | (have eN : numN s a = fF (cR s a) * 1024 * 1024 := (by (unfold numN; rw [if_pos aH]))
                 have eA : numA s a = a + (cR s a).length + 1 := (by (unfold numA; rw [if_pos aH]));refine aO (.cons .here .nil) ?_;refine bX () trivial (.cons 0 rfl (.cons 2 (by rw [eN]; rfl) .nil)) rfl (by rw [eA]; exact fun _ h => h))
              | (have eN : numN s a = fF (cR s a) * 1024 := (by (unfold numN; rw [if_neg aH, if_pos aH]))
                 have eA : numA s a = a + (cR s a).length + 1 := (by (unfold numA; rw [if_pos aH]));refine aO (.cons .here .nil) ?_;refine bX () trivial (.cons 0 rfl (.cons 2 (by rw [eN]; rfl) .nil)) rfl (by rw [eA]; exact fun _ h => h))
              | (have eN : numN s a = fF (cR s a) := (by (unfold numN; rw [if_neg aH, if_neg aH]))
                 have eA : numA s a = a + (cR s a).length := (by (unfold numA; rw [if_neg aH]));refine aO (.cons .here .nil) ?_;refine bX () trivial (.cons 0 rfl (.cons 2 (by rw [eN]; rfl) .nil)) rfl (by rw [eA]; exact fun _ h => h))
          ·
            refine aB ?_;refine aA (bT rfl rfl) rfl ?_;refine aA (aF rfl) rfl ?_;refine aG (aE ?_);refine bE 26 rfl (fun h26 => ?_) (fun h26 => ?_)
            ·
              refine cY ?_;refine aV ?_;refine fV rfl ?_;refine aV ?_;refine bL ?_;refine aE (aI ?_);refine aI (aB ?_);refine aA (aC rfl) rfl ?_;refine aA (q7 rfl rfl aH aH) rfl ?_;refine aA (aF rfl) rfl ?_;refine aG (aE ?_);refine aB ?_;refine aA (aC rfl) rfl ?_;refine aA bS rfl ?_;refine aA (aD (o' := 1) bU rfl rfl) rfl ?_;refine aA (aK ts3 rfl aM rfl) rfl ?_;refine aA (bZ rfl rfl aH aH) rfl ?_;refine aA bS rfl ?_;refine aA (aD (o' := 1) bU rfl rfl) rfl ?_;refine bR (bI ts3 rfl rfl cG a7 (.succ .zero) rfl) ?_;rintro _ K _ ⟨rfl, rfl⟩ -;refine aG (aE ?_);refine cY ?_;refine bL ?_
              first
                | (have eN : numN s a = fF (cR s a) * 1024 * 1024 := (by (unfold numN; rw [if_pos aH]))
                   have eA : numA s a = a + (cR s a).length + 1 := (by (unfold numA; rw [if_pos aH]));refine aO (.cons .here .nil) ?_;refine bX () trivial (.cons 0 rfl (.cons 2 (by rw [eN]; rfl) .nil)) rfl (by rw [eA]; exact fun _ h => h))
                | (have eN : numN s a = fF (cR s a) * 1024 := (by (unfold numN; rw [if_neg aH, if_pos aH]))
                   have eA : numA s a = a + (cR s a).length + 1 := (by (unfold numA; rw [if_pos aH]));refine aO (.cons .here .nil) ?_;refine bX () trivial (.cons 0 rfl (.cons 2 (by rw [eN]; rfl) .nil)) rfl (by rw [eA]; exact fun _ h => h))
                | (have eN : numN s a = fF (cR s a) := (by (unfold numN; rw [if_neg aH, if_neg aH]))
                   have eA : numA s a = a + (cR s a).length := (by (unfold numA; rw [if_neg aH]));refine aO (.cons .here .nil) ?_;refine bX () trivial (.cons 0 rfl (.cons 2 (by rw [eN]; rfl) .nil)) rfl (by rw [eA]; exact fun _ h => h))
            ·
              refine a6 ?_;refine aE ?_;refine cY ?_;refine fV rfl ?_;refine aV ?_;refine fV rfl ?_;refine aV ?_;refine bL ?_
              first
                | (have eN : numN s a = fF (cR s a) * 1024 * 1024 := (by (unfold numN; rw [if_pos aH]))
                   have eA : numA s a = a + (cR s a).length + 1 := (by (unfold numA; rw [if_pos aH]));refine aO (.cons .here .nil) ?_;refine bX () trivial (.cons 0 rfl (.cons 2 (by rw [eN]; rfl) .nil)) rfl (by rw [eA]; exact fun _ h => h))
                | (have eN : numN s a = fF (cR s a) * 1024 := (by (unfold numN; rw [if_neg aH, if_pos aH]))
                   have eA : numA s a = a + (cR s a).length + 1 := (by (unfold numA; rw [if_pos aH]));refine aO (.cons .here .nil) ?_;refine bX () trivial (.cons 0 rfl (.cons 2 (by rw [eN]; rfl) .nil)) rfl (by rw [eA]; exact fun _ h => h))
                | (have eN : numN s a = fF (cR s a) := (by (unfold numN; rw [if_neg aH, if_neg aH]))
                   have eA : numA s a = a + (cR s a).length := (by (unfold numA; rw [if_neg aH]));refine aO (.cons .here .nil) ?_;refine bX () trivial (.cons 0 rfl (.cons 2 (by rw [eN]; rfl) .nil)) rfl (by rw [eA]; exact fun _ h => h))
    ·
      intro _ _;have hnA : numA s a ≤ s.length := aFP s a ha;refine aI (aI ?_);refine aB ?_;refine aA (aC rfl) rfl ?_;refine bD rfl rfl (jA b T s (numA s a) 0 wk ws wn (i64 wat) rest hs aH aH _) (.cons .here .nil) rfl ?_;rintro _ K _ ⟨rfl, rfl, rfl⟩ -;refine cF rfl rfl (m7 ((s[numA s a]?).getD 0) _) rfl ?_;refine aG (aE ?_);refine eB 42 rfl (fun h42 => ?_) (fun h42 => ?_)
      ·
        refine aB ?_;refine aA (aC rfl) rfl ?_;refine aA bS rfl ?_;refine aA (aD (o' := 2) cD rfl rfl) rfl ?_;refine aA (aD (o' := 5) fK rfl rfl) rfl ?_;refine aA (aK ts3 rfl aM rfl) rfl ?_;refine aW rfl rfl (dY 2 wat _) .nil rfl (by rintro _ _ ⟨_, h, _⟩; cases h) ?_ ?_
        ·
          rintro _ _ _ ⟨fb, h, rfl⟩ le1;cases h
          refine aO (.cons .here .nil) ?_;refine aJ ?_;refine bA bP ?_;unfold rL;rw [if_pos h42];exact ⟨fb, rfl, rfl⟩
        ·
          rintro _ _ _ ⟨_, h, _⟩; cases h
      ·
        refine a6 ?_;refine aE (aI ?_);refine aI (aB ?_);refine aA (aC rfl) rfl ?_;refine aA (jG rfl rfl) rfl ?_;refine aG (aE ?_);refine bE 50 rfl (fun h50 => ?_) (fun h50 => ?_)
        ·
          refine aB ?_;refine aA (aC rfl) rfl ?_;refine aA bS rfl ?_;refine aA (aD (o' := 2) cD rfl rfl) rfl ?_;refine aA (aD (o' := 5) fK rfl rfl) rfl ?_;refine aA (aK ts3 rfl aM rfl) rfl ?_;refine aW rfl rfl (dY 3 wat _) .nil rfl (by rintro _ _ ⟨_, h, _⟩; cases h) ?_ ?_
          ·
            rintro _ _ _ ⟨fb, h, rfl⟩ le1;cases h
            refine aO (.cons .here .nil) ?_;refine aJ ?_;refine bA bP ?_;unfold rL;rw [if_neg (by simp [h42]), if_pos h50];exact ⟨fb, rfl, rfl⟩
          ·
            rintro _ _ _ ⟨_, h, _⟩; cases h
        ·
          refine a6 ?_;refine aE (aB ?_);refine aA (aC rfl) rfl ?_;refine aA (aC rfl) rfl ?_;refine aA (aC rfl) rfl ?_;refine aA bS rfl ?_;refine aA (aD (o' := 2) cD rfl rfl) rfl ?_;refine aA (aD (o' := 2) eE rfl rfl) rfl ?_;refine bR (bI kK rfl rfl cG a7 (.succ (.succ .zero)) rfl) ?_;rintro _ K _ ⟨rfl, rfl⟩ -;refine aA bS rfl ?_;refine aA (aD (o' := 2) cD rfl rfl) rfl ?_;refine aA (aD (o' := 4) aIH rfl rfl) rfl ?_;refine bR (bI ts3 rfl rfl cG a7 (.succ (.succ (.succ (.succ .zero)))) rfl) ?_;rintro _ K _ ⟨rfl, rfl⟩ -;refine aG ?_;refine dE rfl (Hl.le_refl _) ?_;unfold rL;rw [if_neg (by simp [h42]), if_neg aH];exact ⟨_, rfl, rfl, rfl, rfl⟩
end Go.Proofs
end
section
namespace Go.Proofs
open Go Go.SL
theorem rQ : unsB Tryz.prog 132 2 = true := by kernel_rfl
theorem aGD : Tryz.prog.cellsOf 5 = 1 := by kernel_rfl
abbrev aE5 (b : Nat) (q : Bool) (v : Value) : Asn := pt b (aU [if q then ptr b else .pointer none, v] 132)
abbrev bldr (b : Nat) (xs : List UInt8) : Asn := exA fun v : Value => [exA fun q : Bool => [aE5 b q v], sl true (elB 5) v xs]
theorem aI2 (b : Nat) : ∀ h, pt b (aU [.pointer none, .slice none 0 0] 132) h → Sat [bldr b []] h := by
 intro h hh;refine p9.2 ⟨.slice none 0 0, p9.2 ⟨false, h, .emp, hh, ⟨.emp, .emp, .inl ⟨rfl, rfl, rfl⟩, rfl, Hl.dj_emp _, (Hl.join_emp _).symm⟩, Hl.dj_emp _, (Hl.join_emp _).symm⟩⟩
theorem xM (b : Nat) (v : Value) (xs : List UInt8) : ∀ h, Sat [aE5 b true v, sl true (elB 5) v xs] h → Sat [bldr b xs] h := by
 intro h hh;exact p9.2 ⟨v, p9.2 ⟨true, hh⟩⟩
theorem xN (b : Nat) : ∀ h, pt b (aU [.pointer none, .slice none 0 0] 132) h → bldr b [] h := by
 intro h hh;obtain ⟨a, l, ha, hl, hd, he⟩ := aI2 b h hh;rw [he, show l = .emp from hl, Hl.join_emp]; exact ha
theorem gX {A B : Asn} {M : List Asn} (k : ∀ h, A h → B h) : ∀ h, Sat (A :: M) h → Sat (B :: M) h := fun h ⟨a, l, ha, hl, hd, he⟩ => ⟨a, l, k a ha, hl, hd, he⟩
theorem oT (b : Nat) (q : Bool) (v : Value) (K : Hl) : Sp Tryz.prog 196 [ptr b] K [aE5 b q v] (Ret fun u K' L' => u = .tuple #[] ∧ K' = K ∧ L' = [aE5 b true v]) := by
 cases q with
 | true =>
  refine bB Tryz.func196 rfl Tryz.ntmps196 rfl rfl fun F w => ?_
  refine aI (aB ?_);refine aA (aC rfl) rfl ?_;refine aA bS rfl ?_;refine aA (aD (o' := 0) qD rfl rfl) rfl ?_;refine aA (aK aFW rfl aM rfl) rfl ?_;refine aA (mH Tryz.underlying129 rfl rfl) rfl ?_;refine aG (aE ?_);refine cQ rfl ?_;refine aI (aB ?_);refine aA (aC rfl) rfl ?_;refine aA bS rfl ?_;refine aA (aD (o' := 0) qD rfl rfl) rfl ?_;refine aA (aK aFW rfl aM rfl) rfl ?_;refine aA (aC rfl) rfl ?_;refine aA (aBH Tryz.underlying129 rQ rfl rfl) rfl ?_;refine aG (aE ?_);refine cQ rfl ?_;refine a6 ?_;refine dE rfl (Hl.le_refl _) ?_;exact ⟨_, rfl, rfl, rfl, rfl⟩
 | false =>
  refine bB Tryz.func196 rfl Tryz.ntmps196 rfl rfl fun F w => ?_
  refine aI (aB ?_);refine aA (aC rfl) rfl ?_;refine aA bS rfl ?_;refine aA (aD (o' := 0) qD rfl rfl) rfl ?_;refine aA (aK aFW rfl aM rfl) rfl ?_;refine aA (mH Tryz.underlying129 rfl rfl) rfl ?_;refine aG (aE ?_);refine eS rfl ?_;refine aB ?_;refine aA (aC rfl) rfl ?_;refine aA (aC rfl) rfl ?_;refine aA (aBK Tryz.underlying129 Tryz.underlying185 rfl (.own .here) rQ) rfl ?_;refine aA (j5 rfl rfl Tryz.func272 cJ cJ cJ (ex := Extern.AbiNoEscape.same) cJ (fun _ _ => rfl)) rfl ?_;refine aA (xG Tryz.underlying185 Tryz.underlying129 rfl (.own .here) rQ) rfl ?_;refine aA bS rfl ?_;refine aA (aD (o' := 0) qD rfl rfl) rfl ?_;refine bR (bI aFW rfl rfl cG a7 .zero rfl) ?_;rintro _ K _ ⟨rfl, rfl⟩ -;refine aG ?_;refine dE rfl (Hl.le_refl _) ?_;exact ⟨_, rfl, rfl, rfl, rfl⟩
theorem g0 (b : Nat) (c : UInt8) (xs : List UInt8) (hn : xs.length ≤ 140737488351232) (K : Hl) : Sp Tryz.prog 268 [ptr b, .int .u8 c.toNat] K [bldr b xs] (Ret fun u K' L' => u = .nilIface ∧ K' = K ∧ L' = [bldr b (xs ++ [c])]) := by
 refine bB Tryz.func268 rfl Tryz.ntmps268 rfl rfl fun F w => ?_
 refine t_ex fun v => t_ex fun q => ?_
 refine aI (aB ?_);refine aA (aF rfl) rfl ?_;refine aG (aE ?_);refine aI (aB ?_);refine aA (aC rfl) rfl ?_;refine bD rfl rfl (oT b q v _) (.cons .here .nil) rfl ?_;rintro _ K _ ⟨rfl, rfl, rfl⟩ -;refine aG (aE ?_);refine aI (aB ?_);refine aA (aC rfl) rfl ?_;refine aA (aC rfl) rfl ?_;refine aA bS rfl ?_;refine aA (aD (o' := 1) mA rfl rfl) rfl ?_;refine aA (aK yZ rfl aM rfl) rfl ?_;refine aA (aC rfl) rfl ?_;refine ol_s (bO (z0 := [.int .u8 0]) mC tz5 rfl rfl rfl rfl (.cons rfl rfl rfl (.cons .nil) .nil)) rfl ?_;rintro _ K _ ⟨b13, rfl, rfl, rfl⟩ -;refine ol_s (dQ (k := (elB 5)) (ys := [c]) t8 rfl rfl a7 (fun w j => dN Tryz.underlying130 (SeesSl.at (.blk (.own .here) rfl rfl) j)) (by first | (simp; omega) | omega) (by first | (simp; omega) | omega)) rfl ?_;rintro v14 K _ ⟨rfl, rfl, ho14⟩ -;refine aA bS rfl ?_;refine aA (aD (o' := 1) mA rfl rfl) rfl ?_;refine bR (bI yZ rfl rfl cG a7 (.succ .zero) rfl) ?_;rintro _ K _ ⟨rfl, rfl⟩ -;refine aG (aE ?_);refine aI (aB ?_);refine aA (aF rfl) rfl ?_;refine aG (aE ?_);refine bM ?_;refine aO (.cons (.there (.there .here)) (.cons .here .nil)) ?_;refine dV (xM b v14 (xs ++ [c])) ?_;refine bJ rfl rfl (Hl.le_refl _) ?_;exact ⟨_, rfl, rfl, rfl, rfl⟩
theorem nY (b : Nat) (s : List UInt8) (xs : List UInt8) (hn : xs.length + s.length ≤ 140737488351232) (K : Hl) : Sp Tryz.prog 109 [ptr b, str s] K [bldr b xs] (Ret fun u K' L' => u = .tuple #[i64 s.length, .nilIface] ∧ K' = K ∧ L' = [bldr b (xs ++ s)]) := by
 refine bB Tryz.func109 rfl Tryz.ntmps109 rfl rfl fun F w => ?_
 refine t_ex fun v => t_ex fun q => ?_
 refine aI (aB ?_);refine aA (aF rfl) rfl ?_;refine aA (aF rfl) rfl ?_;refine aG (aE ?_);refine aI (aB ?_);refine aA (aC rfl) rfl ?_;refine bD rfl rfl (oT b q v _) (.cons .here .nil) rfl ?_;rintro _ K _ ⟨rfl, rfl, rfl⟩ -;refine aG (aE ?_);refine aI (aB ?_);refine aA (aC rfl) rfl ?_;refine aA (aC rfl) rfl ?_;refine aA bS rfl ?_;refine aA (aD (o' := 1) mA rfl rfl) rfl ?_;refine aA (aK yZ rfl aM rfl) rfl ?_;refine aA (aC rfl) rfl ?_;refine ol_s (dQ (k := (elB 5)) (ys := s) t8 rfl rfl a7 (fun _ _ => aEJ Tryz.underlying9) aH aH) rfl ?_;rintro v14 K _ ⟨rfl, rfl, ho14⟩ -;refine aA bS rfl ?_;refine aA (aD (o' := 1) mA rfl rfl) rfl ?_;refine bR (bI yZ rfl rfl cG a7 (.succ .zero) rfl) ?_;rintro _ K _ ⟨rfl, rfl⟩ -;refine aG (aE ?_);refine aI (aB ?_);refine aA (aC rfl) rfl ?_;refine aA (cB rfl Tryz.underlying9 rfl) rfl ?_;refine aA (aF rfl) rfl ?_;refine aA (aF rfl) rfl ?_;refine aG (aE ?_);refine bM ?_;refine aO (.cons (.there .here) (.cons .here .nil)) ?_;refine dV (xM b v14 (xs ++ s)) ?_;refine j1 rfl rfl rfl (Hl.le_refl _) ?_;exact ⟨_, rfl, rfl, rfl, rfl⟩
theorem n7 (b : Nat) (xs : List UInt8) (hn : xs.length ≤ 140737488351232) (K : Hl) : Sp Tryz.prog 63 [ptr b] K [bldr b xs] (Ret fun u K' L' => u = str xs ∧ K' = K ∧ L' = []) := by
 refine bB Tryz.func63 rfl Tryz.ntmps63 rfl rfl fun F w => ?_
 refine t_ex fun v => t_ex fun q => ?_
 refine aI (aB ?_);refine aA (aF rfl) rfl ?_;refine aG (aE ?_);refine aI ?_;refine t_draw (anc := [0, 1, 3, 7, 15, 0, 32, 96, 224, 480, 1023, 2047]) (ord := [0, 1, 2, 3, 4, 5, 6, 7, 8, 9, 10, 11]) [10] [10] mixed (by decide +kernel) (cS _) ?_;refine dl_ev rfl rfl (.none rfl) rfl rfl (aC rfl) rfl ?_;refine dl_ev rfl rfl (.none rfl) rfl rfl bS rfl ?_;refine dl_ev rfl rfl (.none rfl) rfl rfl (aD (o' := 1) mA rfl rfl) rfl ?_;refine dl_ev rfl rfl (.none rfl) rfl rfl (aK yZ rfl aM rfl) rfl ?_;refine dl_ev rfl rfl (.none rfl) rfl rfl (zP (e := 5) rfl (.there .here)) rfl ?_;refine dl_ev rfl rfl (.none rfl) rfl rfl (aC rfl) rfl ?_;refine dl_ev rfl rfl (.none rfl) rfl rfl bS rfl ?_;refine dl_ev rfl rfl (.none rfl) rfl rfl (aD (o' := 1) mA rfl rfl) rfl ?_;refine dl_ev rfl rfl (.none rfl) rfl rfl (aK yZ rfl aM rfl) rfl ?_;refine dl_ev rfl rfl (.none rfl) rfl rfl (cE (k := (elB 5)) rfl Tryz.underlying130 rfl aM) rfl ?_;refine dl_g rfl rfl (.none rfl) rfl (wK (e := 5) rfl Tryz.underlying227 aGD aH rfl rfl (.there .here)) rfl ?_;rintro _ K _ ⟨rfl, rfl, rfl⟩ -;refine dl_ev rfl rfl (.none rfl) rfl rfl (aF rfl) rfl ?_;refine dl_nil ?_;refine aE ?_;refine bM ?_;refine aO .nil ?_;refine bJ rfl rfl (Hl.le_refl _) ?_;exact ⟨_, rfl, rfl, rfl, rfl⟩
end Go.Proofs
end
section
namespace Go.Proofs
open Go Go.SL Go.Syn
theorem aCB (b : Nat) (T : TypeId) (s : List UInt8) (a : Nat) (wk ws wn : Value) (wat : Int) (rest : List Value) (hs : s.length ≤ 600) (ha : a < s.length) (K : Hl) :
  Sp Tryz.prog 182 [ptr b] K [lxb b T s a wk ws wn (i64 wat) rest]
   (fE (Syn.quoted s a wat) fun r v K' L' => v = .tuple #[] ∧ K' = K ∧ L' = [lxb b T s r.1 (.int .u8 3) (str r.2) wn (i64 wat) rest]) := by
 refine bB Tryz.func182 rfl Tryz.ntmps182 rfl rfl fun F w => ?_
 refine aI (aB ?_);refine ol_s (cO aON) rfl ?_;rintro _ K _ ⟨b2, rfl, rfl, rfl⟩ -;refine aG (aE ?_);refine aI (aI ?_);refine aB ?_;refine aA (aC rfl) rfl ?_;refine aA bS rfl ?_;refine aA (aD (o' := 1) bU rfl rfl) rfl ?_;refine aA (aK ts3 rfl aM rfl) rfl ?_;refine aA (bZ rfl rfl aH aH) rfl ?_;refine aA bS rfl ?_;refine aA (aD (o' := 1) bU rfl rfl) rfl ?_;refine bR (bI ts3 rfl rfl cG a7 (.succ .zero) rfl) ?_;rintro _ K _ ⟨rfl, rfl⟩ -;refine aG (aE ?_);refine bF ?_;refine uM (fun (i : Nat) (acc : List UInt8) => a + 1 ≤ i ∧ i ≤ s.length ∧ acc.length ≤ i ∧ ∃ f, s.length + 2 ≤ i + (f + 1) ∧ Syn.quoted s a wat = eU s wat (f + 1) i acc) (fun i acc => [(0, ptr b), (2, ptr b2)]) (fun _ _ => K) (fun i acc => [bldr b2 acc, lxb b T s i wk ws wn (i64 wat) rest]) (fun i acc => s.length - i) (a + 1) [] ⟨by omega, by omega, by simp, s.length - a, by omega, by unfold Syn.quoted; congr 1; omega⟩ (.cons 0 rfl (.cons 2 rfl .nil)) rfl (gX (xN b2)) ?_;intro i acc ⟨hi1, hi2, hi3, f, hi4, hi5⟩;refine aI (bF ?_);refine aI (aB ?_);refine aA (aC rfl) rfl ?_;refine bD rfl rfl (jA b T s i 0 wk ws wn (i64 wat) rest hs aH aH _) (.cons (.there .here) .nil) rfl ?_;rintro _ K _ ⟨rfl, rfl, rfl⟩ -;rw [Nat.add_zero];have hz : i < s.length ∨ ((s[i]?).getD 0).toNat = 0 := (by by_cases h : i < s.length; exact .inl h; right; rw [List.getElem?_eq_none aH]; rfl);refine aA (aF rfl) rfl ?_;refine aG (aE ?_);refine aI (aI ?_);refine t_draw (anc := [0, 1, 3, 7, 0, 16, 48, 112, 240, 511, 1023, 2047, 4095, 8191]) (ord := [0, 1, 2, 3, 4, 5, 6, 7, 8, 9, 10, 11, 12, 13]) [] [] mixed (by decide +kernel) (cS _) ?_;refine dl_ev rfl rfl (.none rfl) rfl rfl (aC rfl) rfl ?_;refine dl_ev rfl rfl (.none rfl) rfl rfl bS rfl ?_;refine dl_ev rfl rfl (.none rfl) rfl rfl (aD (o' := 1) bU rfl rfl) rfl ?_;refine dl_ev rfl rfl (.none rfl) rfl rfl (aK ts3 rfl aM rfl) rfl ?_;refine dl_ev rfl rfl (.none rfl) rfl rfl (aC rfl) rfl ?_;refine dl_ev rfl rfl (.none rfl) rfl rfl bS rfl ?_;refine dl_ev rfl rfl (.none rfl) rfl rfl (aD (o' := 0) fC rfl rfl) rfl ?_;refine dl_ev rfl rfl (.none rfl) rfl rfl (aK ts9 rfl aM rfl) rfl ?_;refine dl_ev rfl rfl (.none rfl) rfl rfl (cB rfl Tryz.underlying9 rfl) rfl ?_;refine dl_ev rfl rfl (.none rfl) rfl rfl (dA rfl rfl) rfl ?_;refine dl_ev rfl rfl (.none rfl) rfl rfl (aC rfl) rfl ?_;refine dl_splitp 30 rfl (fun g30 => ?_) (fun g30 => ?_)
 ·
  refine dl_ev rfl rfl (.on rfl rfl rfl) rfl rfl (aC rfl) rfl ?_;refine dl_ev rfl rfl (.on rfl rfl rfl) rfl rfl (bT rfl rfl) rfl ?_;refine dl_ev rfl rfl (.none rfl) rfl rfl (bH rfl rfl) rfl ?_;refine dl_nil ?_;refine aE ?_;refine bE 33 rfl (fun h33 => ?_) (fun h33 => ?_)
  ·
   refine cY ?_;refine aV ?_;refine fV rfl ?_;refine aV ?_;refine aV ?_;refine bL ?_;refine aE (aI ?_);refine aB ?_;refine aA (aC rfl) rfl ?_;refine aA bS rfl ?_;refine aA (aD (o' := 1) bU rfl rfl) rfl ?_;refine aA (aK ts3 rfl aM rfl) rfl ?_;refine aA (bZ rfl rfl aH aH) rfl ?_;refine aA bS rfl ?_;refine aA (aD (o' := 1) bU rfl rfl) rfl ?_;refine bR (bI ts3 rfl rfl cG a7 (.succ .zero) rfl) ?_;rintro _ K _ ⟨rfl, rfl⟩ -;refine aG (aE ?_);refine aB ?_;refine aA (aC rfl) rfl ?_;refine aA (aC rfl) rfl ?_;refine bD rfl rfl (n7 b2 acc aH _) (.cons (.there .here) .nil) rfl ?_;rintro _ K _ ⟨rfl, rfl, rfl⟩ -;refine aA bS rfl ?_;refine aA (aD (o' := 2) cD rfl rfl) rfl ?_;refine aA (aD (o' := 2) eE rfl rfl) rfl ?_;refine bR (bI kK rfl rfl cG a7 (.succ (.succ .zero)) rfl) ?_;rintro _ K _ ⟨rfl, rfl⟩ -;refine aA bS rfl ?_;refine aA (aD (o' := 2) cD rfl rfl) rfl ?_;refine aA (aD (o' := 3) fB rfl rfl) rfl ?_;refine bR (bI ts9 rfl rfl cG a7 (.succ (.succ (.succ .zero))) rfl) ?_;rintro _ K _ ⟨rfl, rfl⟩ -;refine aG ?_;refine dE rfl (Hl.le_refl _) ?_;rw [hi5, t6 aH aH];exact ⟨_, rfl, rfl, rfl, rfl⟩
  ·
   refine a6 ?_;refine aE (aI ?_);refine aI (aB ?_);refine aA (aC rfl) rfl ?_;refine aA (bT rfl rfl) rfl ?_;refine aG (aE ?_);refine bE 35 rfl (fun h35 => ?_) (fun h35 => ?_)
   ·
    refine aI (aB ?_);refine aA (aC rfl) rfl ?_;refine aA bS rfl ?_;refine aA (aD (o' := 1) bU rfl rfl) rfl ?_;refine aA (aK ts3 rfl aM rfl) rfl ?_;refine aA (bZ rfl rfl aH aH) rfl ?_;refine aA bS rfl ?_;refine aA (aD (o' := 1) bU rfl rfl) rfl ?_;refine bR (bI ts3 rfl rfl cG a7 (.succ .zero) rfl) ?_;rintro _ K _ ⟨rfl, rfl⟩ -;refine aG (aE ?_);refine aB ?_;refine aA (aC rfl) rfl ?_;refine bD rfl rfl (jA b T s (i + 1) 0 wk ws wn (i64 wat) rest hs aH aH _) (.cons .here .nil) rfl ?_;rintro _ K _ ⟨rfl, rfl, rfl⟩ -;rw [Nat.add_zero];refine aA (aF rfl) rfl ?_;refine aG (aE ?_);refine aI (aI ?_);refine t_draw (anc := [0, 1, 3, 7, 0, 16, 48, 112, 240, 511]) (ord := [0, 1, 2, 3, 4, 5, 6, 7, 8, 9]) [] [] mixed (by decide +kernel) (cS _) ?_;refine dl_ev rfl rfl (.none rfl) rfl rfl (aC rfl) rfl ?_;refine dl_ev rfl rfl (.none rfl) rfl rfl bS rfl ?_;refine dl_ev rfl rfl (.none rfl) rfl rfl (aD (o' := 1) bU rfl rfl) rfl ?_;refine dl_ev rfl rfl (.none rfl) rfl rfl (aK ts3 rfl aM rfl) rfl ?_;refine dl_ev rfl rfl (.none rfl) rfl rfl (aC rfl) rfl ?_;refine dl_ev rfl rfl (.none rfl) rfl rfl bS rfl ?_;refine dl_ev rfl rfl (.none rfl) rfl rfl (aD (o' := 0) fC rfl rfl) rfl ?_;refine dl_ev rfl rfl (.none rfl) rfl rfl (aK ts9 rfl aM rfl) rfl ?_;refine dl_ev rfl rfl (.none rfl) rfl rfl (cB rfl Tryz.underlying9 rfl) rfl ?_;refine dl_ev rfl rfl (.none rfl) rfl rfl (gU rfl rfl) rfl ?_;refine dl_nil ?_;refine aE ?_;refine bE 54 rfl (fun h54 => ?_) (fun h54 => ?_)
    ·
     refine aB ?_;refine aA (aC rfl) rfl ?_;refine aA bS rfl ?_;refine aA (aD (o' := 2) cD rfl rfl) rfl ?_;refine aA (aD (o' := 5) fK rfl rfl) rfl ?_;refine aA (aK ts3 rfl aM rfl) rfl ?_;refine aW rfl rfl (dY 2 wat _) .nil rfl (by rintro _ _ ⟨_, h, _⟩; cases h) ?_ ?_
     ·
      rintro _ _ _ ⟨fb, h, rfl⟩ le1;cases h
      refine aO (.cons .here .nil) ?_;refine aJ ?_;refine aP ?_;refine aJ ?_;refine aJ ?_;refine aP ?_;refine aJ ?_;refine bA bP ?_
      first
       | rw [hi5, lD aH aH aH]
       | rw [hi5, lW aH aH aH]
      exact ⟨fb, rfl, rfl⟩
     ·
      rintro _ _ _ ⟨_, h, _⟩; cases h
    ·
     refine a6 ?_;refine aE (aB ?_);refine aA (aC rfl) rfl ?_;refine bD rfl rfl (g0 b2 _ acc aH _) (.cons (.there .here) .nil) rfl ?_;rintro _ K _ ⟨rfl, rfl, rfl⟩ -;refine aG (aN ?_);refine aE (aB ?_);refine aA (aC rfl) rfl ?_;refine aA bS rfl ?_;refine aA (aD (o' := 1) bU rfl rfl) rfl ?_;refine aA (aK ts3 rfl aM rfl) rfl ?_;refine aA (bZ rfl rfl aH aH) rfl ?_;refine aA bS rfl ?_;refine aA (aD (o' := 1) bU rfl rfl) rfl ?_;refine bR (bI ts3 rfl rfl cG a7 (.succ .zero) rfl) ?_;rintro _ K _ ⟨rfl, rfl⟩ -;refine aG ?_;obtain ⟨f0, rfl⟩ : ∃ f0, f = f0 + 1 := ⟨f - 1, by omega⟩
     first
      | refine dI (i + 1) (acc ++ [(s[i]?).getD 0]) ⟨by omega, by omega, by simp; omega, f0, by omega, by rw [hi5, kA aH aH aH]⟩ aH (.cons 0 rfl (.cons 2 rfl .nil)) rfl (fun _ h => h)
      | refine dI (i + 2) (acc ++ [(s[i + 1]?).getD 0]) ⟨by omega, by omega, by simp; omega, f0, by omega, by rw [hi5, lI aH aH aH]⟩ aH (.cons 0 rfl (.cons 2 rfl .nil)) rfl (fun _ h => h)
   ·
    refine a6 ?_;refine aE (aI ?_);refine aI ?_;refine t_draw (anc := [0, 1, 3, 7, 0, 16, 48, 112, 240, 511]) (ord := [0, 1, 2, 3, 4, 5, 6, 7, 8, 9]) [] [] mixed (by decide +kernel) (cS _) ?_;refine dl_ev rfl rfl (.none rfl) rfl rfl (aC rfl) rfl ?_;refine dl_ev rfl rfl (.none rfl) rfl rfl bS rfl ?_;refine dl_ev rfl rfl (.none rfl) rfl rfl (aD (o' := 1) bU rfl rfl) rfl ?_;refine dl_ev rfl rfl (.none rfl) rfl rfl (aK ts3 rfl aM rfl) rfl ?_;refine dl_ev rfl rfl (.none rfl) rfl rfl (aC rfl) rfl ?_;refine dl_ev rfl rfl (.none rfl) rfl rfl bS rfl ?_;refine dl_ev rfl rfl (.none rfl) rfl rfl (aD (o' := 0) fC rfl rfl) rfl ?_;refine dl_ev rfl rfl (.none rfl) rfl rfl (aK ts9 rfl aM rfl) rfl ?_;refine dl_ev rfl rfl (.none rfl) rfl rfl (cB rfl Tryz.underlying9 rfl) rfl ?_;refine dl_ev rfl rfl (.none rfl) rfl rfl (gU rfl rfl) rfl ?_;refine dl_nil ?_;refine aE ?_;refine bE 54 rfl (fun h54 => ?_) (fun h54 => ?_)
    ·
     refine aB ?_;refine aA (aC rfl) rfl ?_;refine aA bS rfl ?_;refine aA (aD (o' := 2) cD rfl rfl) rfl ?_;refine aA (aD (o' := 5) fK rfl rfl) rfl ?_;refine aA (aK ts3 rfl aM rfl) rfl ?_;refine aW rfl rfl (dY 2 wat _) .nil rfl (by rintro _ _ ⟨_, h, _⟩; cases h) ?_ ?_
     ·
      rintro _ _ _ ⟨fb, h, rfl⟩ le1;cases h
      refine aO (.cons .here .nil) ?_;refine aJ ?_;refine aP ?_;refine aJ ?_;refine aJ ?_;refine aP ?_;refine aJ ?_;refine bA bP ?_
      first
       | rw [hi5, lD aH aH aH]
       | rw [hi5, lW aH aH aH]
      exact ⟨fb, rfl, rfl⟩
     ·
      rintro _ _ _ ⟨_, h, _⟩; cases h
    ·
     refine a6 ?_;refine aE (aB ?_);refine aA (aC rfl) rfl ?_;refine bD rfl rfl (g0 b2 _ acc aH _) (.cons (.there .here) .nil) rfl ?_;rintro _ K _ ⟨rfl, rfl, rfl⟩ -;refine aG (aN ?_);refine aE (aB ?_);refine aA (aC rfl) rfl ?_;refine aA bS rfl ?_;refine aA (aD (o' := 1) bU rfl rfl) rfl ?_;refine aA (aK ts3 rfl aM rfl) rfl ?_;refine aA (bZ rfl rfl aH aH) rfl ?_;refine aA bS rfl ?_;refine aA (aD (o' := 1) bU rfl rfl) rfl ?_;refine bR (bI ts3 rfl rfl cG a7 (.succ .zero) rfl) ?_;rintro _ K _ ⟨rfl, rfl⟩ -;refine aG ?_;obtain ⟨f0, rfl⟩ : ∃ f0, f = f0 + 1 := ⟨f - 1, by omega⟩
     first
      | refine dI (i + 1) (acc ++ [(s[i]?).getD 0]) ⟨by omega, by omega, by simp; omega, f0, by omega, by rw [hi5, kA aH aH aH]⟩ aH (.cons 0 rfl (.cons 2 rfl .nil)) rfl (fun _ h => h)
      | refine dI (i + 2) (acc ++ [(s[i + 1]?).getD 0]) ⟨by omega, by omega, by simp; omega, f0, by omega, by rw [hi5, lI aH aH aH]⟩ aH (.cons 0 rfl (.cons 2 rfl .nil)) rfl (fun _ h => h)
 ·
  refine dl_off rfl rfl (.off rfl rfl rfl) rfl ?_;refine dl_off rfl rfl (.off rfl rfl rfl) rfl ?_;refine dl_ev rfl rfl (.none rfl) rfl rfl (a8 rfl rfl) rfl ?_;refine dl_nil ?_;refine aE ?_;refine cQ rfl ?_;refine a6 ?_;refine aE (aI ?_);refine aI (aB ?_);refine aA (aC rfl) rfl ?_;refine aA (bT rfl rfl) rfl ?_;refine aG (aE ?_);refine bE 35 rfl (fun h35 => ?_) (fun h35 => ?_)
  ·
   refine aI (aB ?_);refine aA (aC rfl) rfl ?_;refine aA bS rfl ?_;refine aA (aD (o' := 1) bU rfl rfl) rfl ?_;refine aA (aK ts3 rfl aM rfl) rfl ?_;refine aA (bZ rfl rfl aH aH) rfl ?_;refine aA bS rfl ?_;refine aA (aD (o' := 1) bU rfl rfl) rfl ?_;refine bR (bI ts3 rfl rfl cG a7 (.succ .zero) rfl) ?_;rintro _ K _ ⟨rfl, rfl⟩ -;refine aG (aE ?_);refine aB ?_;refine aA (aC rfl) rfl ?_;refine bD rfl rfl (jA b T s (i + 1) 0 wk ws wn (i64 wat) rest hs aH aH _) (.cons .here .nil) rfl ?_;rintro _ K _ ⟨rfl, rfl, rfl⟩ -;rw [Nat.add_zero];refine aA (aF rfl) rfl ?_;refine aG (aE ?_);refine aI (aI ?_);refine t_draw (anc := [0, 1, 3, 7, 0, 16, 48, 112, 240, 511]) (ord := [0, 1, 2, 3, 4, 5, 6, 7, 8, 9]) [] [] mixed (by decide +kernel) (cS _) ?_;refine dl_ev rfl rfl (.none rfl) rfl rfl (aC rfl) rfl ?_;refine dl_ev rfl rfl (.none rfl) rfl rfl bS rfl ?_;refine dl_ev rfl rfl (.none rfl) rfl rfl (aD (o' := 1) bU rfl rfl) rfl ?_;refine dl_ev rfl rfl (.none rfl) rfl rfl (aK ts3 rfl aM rfl) rfl ?_;refine dl_ev rfl rfl (.none rfl) rfl rfl (aC rfl) rfl ?_;refine dl_ev rfl rfl (.none rfl) rfl rfl bS rfl ?_;refine dl_ev rfl rfl (.none rfl) rfl rfl (aD (o' := 0) fC rfl rfl) rfl ?_;refine dl_ev rfl rfl (.none rfl) rfl rfl (aK ts9 rfl aM rfl) rfl ?_;refine dl_ev rfl rfl (.none rfl) rfl rfl (cB rfl Tryz.underlying9 rfl) rfl ?_;refine dl_ev rfl rfl (.none rfl) rfl rfl (gU rfl rfl) rfl ?_;refine dl_nil ?_;refine aE ?_;refine bE 54 rfl (fun h54 => ?_) (fun h54 => ?_)
   ·
    refine aB ?_;refine aA (aC rfl) rfl ?_;refine aA bS rfl ?_;refine aA (aD (o' := 2) cD rfl rfl) rfl ?_;refine aA (aD (o' := 5) fK rfl rfl) rfl ?_;refine aA (aK ts3 rfl aM rfl) rfl ?_;refine aW rfl rfl (dY 2 wat _) .nil rfl (by rintro _ _ ⟨_, h, _⟩; cases h) ?_ ?_
    ·
     rintro _ _ _ ⟨fb, h, rfl⟩ le1;cases h
     refine aO (.cons .here .nil) ?_;refine aJ ?_;refine aP ?_;refine aJ ?_;refine aJ ?_;refine aP ?_;refine aJ ?_;refine bA bP ?_
     first
      | rw [hi5, lD aH aH aH]
      | rw [hi5, lW aH aH aH]
     exact ⟨fb, rfl, rfl⟩
    ·
     rintro _ _ _ ⟨_, h, _⟩; cases h
   ·
    refine a6 ?_;refine aE (aB ?_);refine aA (aC rfl) rfl ?_;refine bD rfl rfl (g0 b2 _ acc aH _) (.cons (.there .here) .nil) rfl ?_;rintro _ K _ ⟨rfl, rfl, rfl⟩ -;refine aG (aN ?_);refine aE (aB ?_);refine aA (aC rfl) rfl ?_;refine aA bS rfl ?_;refine aA (aD (o' := 1) bU rfl rfl) rfl ?_;refine aA (aK ts3 rfl aM rfl) rfl ?_;refine aA (bZ rfl rfl aH aH) rfl ?_;refine aA bS rfl ?_;refine aA (aD (o' := 1) bU rfl rfl) rfl ?_;refine bR (bI ts3 rfl rfl cG a7 (.succ .zero) rfl) ?_;rintro _ K _ ⟨rfl, rfl⟩ -;refine aG ?_;obtain ⟨f0, rfl⟩ : ∃ f0, f = f0 + 1 := ⟨f - 1, by omega⟩
    first
     | refine dI (i + 1) (acc ++ [(s[i]?).getD 0]) ⟨by omega, by omega, by simp; omega, f0, by omega, by rw [hi5, kA aH aH aH]⟩ aH (.cons 0 rfl (.cons 2 rfl .nil)) rfl (fun _ h => h)
     | refine dI (i + 2) (acc ++ [(s[i + 1]?).getD 0]) ⟨by omega, by omega, by simp; omega, f0, by omega, by rw [hi5, lI aH aH aH]⟩ aH (.cons 0 rfl (.cons 2 rfl .nil)) rfl (fun _ h => h)
  ·
   refine a6 ?_;refine aE (aI ?_);refine aI ?_;refine t_draw (anc := [0, 1, 3, 7, 0, 16, 48, 112, 240, 511]) (ord := [0, 1, 2, 3, 4, 5, 6, 7, 8, 9]) [] [] mixed (by decide +kernel) (cS _) ?_;refine dl_ev rfl rfl (.none rfl) rfl rfl (aC rfl) rfl ?_;refine dl_ev rfl rfl (.none rfl) rfl rfl bS rfl ?_;refine dl_ev rfl rfl (.none rfl) rfl rfl (aD (o' := 1) bU rfl rfl) rfl ?_;refine dl_ev rfl rfl (.none rfl) rfl rfl (aK ts3 rfl aM rfl) rfl ?_;refine dl_ev rfl rfl (.none rfl) rfl rfl (aC rfl) rfl ?_;refine dl_ev rfl rfl (.none rfl) rfl rfl bS rfl ?_;refine dl_ev rfl rfl (.none rfl) rfl rfl (aD (o' := 0) fC rfl rfl) rfl ?_;refine dl_ev rfl rfl (.none rfl) rfl rfl (aK ts9 rfl aM rfl) rfl ?_;refine dl_ev rfl rfl (.none rfl) rfl rfl (cB rfl Tryz.underlying9 rfl) rfl ?_;refine dl_ev rfl rfl (.none rfl) rfl rfl (gU rfl rfl) rfl ?_;refine dl_nil ?_;refine aE ?_;refine bE 54 rfl (fun h54 => ?_) (fun h54 => ?_)
   ·
    refine aB ?_;refine aA (aC rfl) rfl ?_;refine aA bS rfl ?_;refine aA (aD (o' := 2) cD rfl rfl) rfl ?_;refine aA (aD (o' := 5) fK rfl rfl) rfl ?_;refine aA (aK ts3 rfl aM rfl) rfl ?_;refine aW rfl rfl (dY 2 wat _) .nil rfl (by rintro _ _ ⟨_, h, _⟩; cases h) ?_ ?_
    ·
     rintro _ _ _ ⟨fb, h, rfl⟩ le1;cases h
     refine aO (.cons .here .nil) ?_;refine aJ ?_;refine aP ?_;refine aJ ?_;refine aJ ?_;refine aP ?_;refine aJ ?_;refine bA bP ?_
     first
      | rw [hi5, lD aH aH aH]
      | rw [hi5, lW aH aH aH]
     exact ⟨fb, rfl, rfl⟩
    ·
     rintro _ _ _ ⟨_, h, _⟩; cases h
   ·
    refine a6 ?_;refine aE (aB ?_);refine aA (aC rfl) rfl ?_;refine bD rfl rfl (g0 b2 _ acc aH _) (.cons (.there .here) .nil) rfl ?_;rintro _ K _ ⟨rfl, rfl, rfl⟩ -;refine aG (aN ?_);refine aE (aB ?_);refine aA (aC rfl) rfl ?_;refine aA bS rfl ?_;refine aA (aD (o' := 1) bU rfl rfl) rfl ?_;refine aA (aK ts3 rfl aM rfl) rfl ?_;refine aA (bZ rfl rfl aH aH) rfl ?_;refine aA bS rfl ?_;refine aA (aD (o' := 1) bU rfl rfl) rfl ?_;refine bR (bI ts3 rfl rfl cG a7 (.succ .zero) rfl) ?_;rintro _ K _ ⟨rfl, rfl⟩ -;refine aG ?_;obtain ⟨f0, rfl⟩ : ∃ f0, f = f0 + 1 := ⟨f - 1, by omega⟩
    first
     | refine dI (i + 1) (acc ++ [(s[i]?).getD 0]) ⟨by omega, by omega, by simp; omega, f0, by omega, by rw [hi5, kA aH aH aH]⟩ aH (.cons 0 rfl (.cons 2 rfl .nil)) rfl (fun _ h => h)
     | refine dI (i + 2) (acc ++ [(s[i + 1]?).getD 0]) ⟨by omega, by omega, by simp; omega, f0, by omega, by rw [hi5, lI aH aH aH]⟩ aH (.cons 0 rfl (.cons 2 rfl .nil)) rfl (fun _ h => h)
end Go.Proofs
end
section
namespace Go.Proofs
open Go Go.SL Go.Syn
theorem gO {α : Type} (p : α → Bool) (s : List α) (i : Nat) (h : i ≤ s.length) : i + ((s.drop i).takeWhile p).length ≤ s.length := by
 have := (List.takeWhile_sublist p (l := s.drop i)).length_le;simp only [List.length_drop] at this;omega
theorem aLC (s : List UInt8) : ∀ (f i j : Nat), i ≤ s.length → hZ s f i = .ok j → i ≤ j ∧ j ≤ s.length := by
 intro f;induction f with
 | zero => intro i j hi h; simp only [hZ] at h; cases h; exact ⟨Nat.le_refl _, hi⟩
 | succ f ih =>
  intro i j hi h;simp only [hZ] at h;split at h
  ·cases h; exact ⟨Nat.le_refl _, hi⟩
  ·rename_i c hc;have hlt : i < s.length := by
    rcases Nat.lt_or_ge i s.length with h' | h'
    ·exact h'
    ·simp [List.getElem?_eq_none h'] at hc
   split at h
   ·have := ih _ _ aH h; omega
   ·split at h
    ·have := gO (fun c : UInt8 => decide (¬ c.toNat = 10)) s i hi;have := ih _ _ aH h; omega
    ·split at h
     ·split at h
      ·cases h; exact ⟨Nat.le_refl _, hi⟩
      ·split at h
       ·cases h
       ·rename_i hx;have hix := o2 (s.drop (min (i + 2) s.length)) [42, 47];simp only [List.length_drop, List.length_cons, List.length_nil] at hix;have := ih _ _ aH h; omega
     ·cases h; exact ⟨Nat.le_refl _, hi⟩
theorem aAJ {s : List UInt8} {a a1 : Nat} (ha : a ≤ s.length) (h : skip s a = .ok a1) : a ≤ a1 ∧ a1 ≤ s.length := aLC s _ _ _ ha h
abbrev lxw (b : Nat) (T : TypeId) (s : List UInt8) (a : Nat) (w : Word) (rest : List Value) : Asn := lxb b T s a (.int .u8 w.kind) (str w.s) (i64 w.n) (i64 w.at_) rest
theorem dF (b : Nat) (T : TypeId) (s : List UInt8) (a : Nat) (wk ws wn wa : Value) (rest : List Value) (hs : s.length ≤ 600) (ha : a ≤ s.length) (K : Hl) (hg : Glob K) :
    Sp Tryz.prog 101 [ptr b] K [lxb b T s a wk ws wn wa rest]
      (fE (Syn.next s a) fun r v K' L' => v = .tuple #[] ∧ K' = K ∧ L' = [lxw b T s r.1 r.2 rest]) := by
  refine bB Tryz.func101 rfl Tryz.ntmps101 rfl rfl fun F w => ?_
  refine aI (aB ?_);refine aA (aC rfl) rfl ?_;refine aW rfl rfl (aH9 b T s a wk ws wn wa rest hs ha _ hg) (.cons .here .nil) rfl (fun _ _ => aX _ _) ?_ ?_
  ·
    rintro _ _ _ hT le1;obtain ⟨e, p, hr, fb, h, rfl⟩ := aY hT;cases h
    refine aO (.cons .here .nil) ?_;refine aJ ?_;refine bA bP ?_;have hn : Syn.next s a = .error (e, p) := (by unfold Syn.next; rw [hr]);rw [hn];exact ⟨fb, rfl, rfl⟩
  rintro _ K _ hT -;obtain ⟨a1, hr0, rfl, rfl, rfl⟩ := aZ hT;have ha1 := (aAJ ha hr0).2;refine aG (aE ?_);refine aI (aB ?_);refine aA (aC rfl) rfl ?_;refine aA (aC rfl) rfl ?_;refine aA bS rfl ?_;refine aA (aD (o' := 1) bU rfl rfl) rfl ?_;refine aA (aK ts3 rfl aM rfl) rfl ?_;refine aA (cK aQ6 aP1 (.cons rfl rfl rfl (.skip (.skip (.skip (.cons .nil)))) .nil)) rfl ?_;refine aA bS rfl ?_;refine aA (aD (o' := 2) cD rfl rfl) rfl ?_;refine bR (cH lX rfl rfl rfl a7 (by first | (simp [Value.oneCell']; done) | exact fun c hc => El.one _ _ c hc) (.skip (.skip (.cons (.cons (.cons (.cons .nil)))))) (by intro j hj; simp)) ?_;rintro _ K _ ⟨rfl, rfl⟩ -;refine aG (aE ?_);refine aI (aI ?_);refine t_draw (anc := [0, 1, 3, 7, 0, 16, 48, 112, 240, 511]) (ord := [0, 1, 2, 3, 4, 5, 6, 7, 8, 9]) [] [] mixed (by decide +kernel) (cS _) ?_;refine dl_ev rfl rfl (.none rfl) rfl rfl (aC rfl) rfl ?_;refine dl_ev rfl rfl (.none rfl) rfl rfl bS rfl ?_;refine dl_ev rfl rfl (.none rfl) rfl rfl (aD (o' := 1) bU rfl rfl) rfl ?_;refine dl_ev rfl rfl (.none rfl) rfl rfl (aK ts3 rfl aM rfl) rfl ?_;refine dl_ev rfl rfl (.none rfl) rfl rfl (aC rfl) rfl ?_;refine dl_ev rfl rfl (.none rfl) rfl rfl bS rfl ?_;refine dl_ev rfl rfl (.none rfl) rfl rfl (aD (o' := 0) fC rfl rfl) rfl ?_;refine dl_ev rfl rfl (.none rfl) rfl rfl (aK ts9 rfl aM rfl) rfl ?_;refine dl_ev rfl rfl (.none rfl) rfl rfl (cB rfl Tryz.underlying9 rfl) rfl ?_;refine dl_ev rfl rfl (.none rfl) rfl rfl (bT rfl rfl) rfl ?_;refine dl_nil ?_;refine aE ?_;refine bE 22 rfl (fun h22 => ?_) (fun h22 => ?_)
  ·
    have hn : Syn.next s a = .ok (a1, ⟨0, [], 0, a1⟩) := (by simp only [Syn.next, hr0]; rw [List.getElem?_eq_none aH]);refine bM ?_;refine bC ?_;refine qY rfl (Hl.le_refl _) ?_;rw [hn];exact ⟨_, rfl, rfl, rfl, rfl⟩
  ·
    obtain ⟨c, hc⟩ : ∃ c, s[a1]? = some c := ⟨s[a1]'(by omega), List.getElem?_eq_getElem aH⟩;have hn : Syn.next s a = kI s a1 c := (by simp only [Syn.next, hr0, hc]);have hp0 : ((s[a1 + 0]?).getD 0) = c := by rw [Nat.add_zero, hc]; rfl
    refine a6 ?_;refine aE (aI ?_);refine aB ?_;refine aA (aC rfl) rfl ?_;refine bD rfl rfl (jA b T s a1 0 _ _ _ _ rest hs aH aH _) (.cons .here .nil) rfl ?_;rintro _ K _ ⟨rfl, rfl, rfl⟩ -;rw [hp0];refine aA (aF rfl) rfl ?_;refine aG (aE ?_);refine aI (aB ?_);refine aA (aC rfl) rfl ?_;refine aG (aE ?_);refine bF ?_;refine hO (fun (_ : Unit) => True) (fun _ => [(0, ptr b), (2, .int .u8 c.toNat), (25, .int .u8 c.toNat), (50, .bool (cI c))]) (fun _ => K) (fun _ => [lxb b T s a1 (.int .u8 0) (str []) (i64 0) (i64 a1) rest]) ?_ ?_
    ·
      refine aI (aB ?_);refine aA (bT rfl rfl) rfl ?_;refine aA (aF rfl) rfl ?_;refine aG (aE ?_);refine bE 50 rfl (fun h50 => ?_) (fun h50 => ?_)
      ·
        refine a6 ?_
        first
          | (have hb : cI c = decide ((c.toNat : Int) = 93) := (by unfold cI; rw [decide_eq_decide]; omega)
             exact bX () trivial (.cons 0 rfl (.cons 2 rfl (.cons 25 rfl (.cons 50 (by rw [hb]; rfl) .nil)))) rfl (fun _ h => h))
          | (have hb : cI c = true := (by unfold cI; simp only [decide_eq_true_eq]; omega)
             exact bX () trivial (.cons 0 rfl (.cons 2 rfl (.cons 25 rfl (.cons 50 (by rw [hb]; rfl) .nil)))) rfl (fun _ h => h))
          | (have hb : cI c = false := (by unfold cI; simp only [decide_eq_false_iff_not]; omega)
             exact bX () trivial (.cons 0 rfl (.cons 2 rfl (.cons 25 rfl (.cons 50 (by rw [hb]; rfl) .nil)))) rfl (fun _ h => h))
      ·
        refine aI (aB ?_);refine aA (bT rfl rfl) rfl ?_;refine aA (aF rfl) rfl ?_;refine aG (aE ?_);refine bE 50 rfl (fun h50 => ?_) (fun h50 => ?_)
        ·
          refine a6 ?_
          first
            | (have hb : cI c = decide ((c.toNat : Int) = 93) := (by unfold cI; rw [decide_eq_decide]; omega)
               exact bX () trivial (.cons 0 rfl (.cons 2 rfl (.cons 25 rfl (.cons 50 (by rw [hb]; rfl) .nil)))) rfl (fun _ h => h))
            | (have hb : cI c = true := (by unfold cI; simp only [decide_eq_true_eq]; omega)
               exact bX () trivial (.cons 0 rfl (.cons 2 rfl (.cons 25 rfl (.cons 50 (by rw [hb]; rfl) .nil)))) rfl (fun _ h => h))
            | (have hb : cI c = false := (by unfold cI; simp only [decide_eq_false_iff_not]; omega)
               exact bX () trivial (.cons 0 rfl (.cons 2 rfl (.cons 25 rfl (.cons 50 (by rw [hb]; rfl) .nil)))) rfl (fun _ h => h))
        ·
          refine aI (aB ?_);refine aA (bT rfl rfl) rfl ?_;refine aA (aF rfl) rfl ?_;refine aG (aE ?_);refine bE 50 rfl (fun h50 => ?_) (fun h50 => ?_)
          ·
            refine a6 ?_
            first
              | (have hb : cI c = decide ((c.toNat : Int) = 93) := (by unfold cI; rw [decide_eq_decide]; omega)
                 exact bX () trivial (.cons 0 rfl (.cons 2 rfl (.cons 25 rfl (.cons 50 (by rw [hb]; rfl) .nil)))) rfl (fun _ h => h))
              | (have hb : cI c = true := (by unfold cI; simp only [decide_eq_true_eq]; omega)
                 exact bX () trivial (.cons 0 rfl (.cons 2 rfl (.cons 25 rfl (.cons 50 (by rw [hb]; rfl) .nil)))) rfl (fun _ h => h))
              | (have hb : cI c = false := (by unfold cI; simp only [decide_eq_false_iff_not]; omega)
                 exact bX () trivial (.cons 0 rfl (.cons 2 rfl (.cons 25 rfl (.cons 50 (by rw [hb]; rfl) .nil)))) rfl (fun _ h => h))
          ·
            refine aI (aB ?_);refine aA (bT rfl rfl) rfl ?_;refine aA (aF rfl) rfl ?_;refine aG (aE ?_);refine bE 50 rfl (fun h50 => ?_) (fun h50 => ?_)
            ·
              refine a6 ?_
              first
                | (have hb : cI c = decide ((c.toNat : Int) = 93) := (by unfold cI; rw [decide_eq_decide]; omega)
                   exact bX () trivial (.cons 0 rfl (.cons 2 rfl (.cons 25 rfl (.cons 50 (by rw [hb]; rfl) .nil)))) rfl (fun _ h => h))
                | (have hb : cI c = true := (by unfold cI; simp only [decide_eq_true_eq]; omega)
                   exact bX () trivial (.cons 0 rfl (.cons 2 rfl (.cons 25 rfl (.cons 50 (by rw [hb]; rfl) .nil)))) rfl (fun _ h => h))
                | (have hb : cI c = false := (by unfold cI; simp only [decide_eq_false_iff_not]; omega)
                   exact bX () trivial (.cons 0 rfl (.cons 2 rfl (.cons 25 rfl (.cons 50 (by rw [hb]; rfl) .nil)))) rfl (fun _ h => h))
            ·
              refine aI (aB ?_);refine aA (bT rfl rfl) rfl ?_;refine aA (aF rfl) rfl ?_;refine aG (aE ?_);refine bE 50 rfl (fun h50 => ?_) (fun h50 => ?_)
              ·
                refine a6 ?_
                first
                  | (have hb : cI c = decide ((c.toNat : Int) = 93) := (by unfold cI; rw [decide_eq_decide]; omega)
                     exact bX () trivial (.cons 0 rfl (.cons 2 rfl (.cons 25 rfl (.cons 50 (by rw [hb]; rfl) .nil)))) rfl (fun _ h => h))
                  | (have hb : cI c = true := (by unfold cI; simp only [decide_eq_true_eq]; omega)
                     exact bX () trivial (.cons 0 rfl (.cons 2 rfl (.cons 25 rfl (.cons 50 (by rw [hb]; rfl) .nil)))) rfl (fun _ h => h))
                  | (have hb : cI c = false := (by unfold cI; simp only [decide_eq_false_iff_not]; omega)
                     exact bX () trivial (.cons 0 rfl (.cons 2 rfl (.cons 25 rfl (.cons 50 (by rw [hb]; rfl) .nil)))) rfl (fun _ h => h))
              ·
                refine aI (aB ?_);refine aA (bT rfl rfl) rfl ?_;refine aA (aF rfl) rfl ?_;refine aG (aE ?_);refine bE 50 rfl (fun h50 => ?_) (fun h50 => ?_)
                ·
                  refine a6 ?_
                  first
                    | (have hb : cI c = decide ((c.toNat : Int) = 93) := (by unfold cI; rw [decide_eq_decide]; omega)
                       exact bX () trivial (.cons 0 rfl (.cons 2 rfl (.cons 25 rfl (.cons 50 (by rw [hb]; rfl) .nil)))) rfl (fun _ h => h))
                    | (have hb : cI c = true := (by unfold cI; simp only [decide_eq_true_eq]; omega)
                       exact bX () trivial (.cons 0 rfl (.cons 2 rfl (.cons 25 rfl (.cons 50 (by rw [hb]; rfl) .nil)))) rfl (fun _ h => h))
                    | (have hb : cI c = false := (by unfold cI; simp only [decide_eq_false_iff_not]; omega)
                       exact bX () trivial (.cons 0 rfl (.cons 2 rfl (.cons 25 rfl (.cons 50 (by rw [hb]; rfl) .nil)))) rfl (fun _ h => h))
                ·
                  refine aI (aB ?_);refine aA (bT rfl rfl) rfl ?_;refine aA (aF rfl) rfl ?_;refine aG (aE ?_);refine bE 50 rfl (fun h50 => ?_) (fun h50 => ?_)
                  ·
                    refine a6 ?_
                    first
                      | (have hb : cI c = decide ((c.toNat : Int) = 93) := (by unfold cI; rw [decide_eq_decide]; omega)
                         exact bX () trivial (.cons 0 rfl (.cons 2 rfl (.cons 25 rfl (.cons 50 (by rw [hb]; rfl) .nil)))) rfl (fun _ h => h))
                      | (have hb : cI c = true := (by unfold cI; simp only [decide_eq_true_eq]; omega)
                         exact bX () trivial (.cons 0 rfl (.cons 2 rfl (.cons 25 rfl (.cons 50 (by rw [hb]; rfl) .nil)))) rfl (fun _ h => h))
                      | (have hb : cI c = false := (by unfold cI; simp only [decide_eq_false_iff_not]; omega)
                         exact bX () trivial (.cons 0 rfl (.cons 2 rfl (.cons 25 rfl (.cons 50 (by rw [hb]; rfl) .nil)))) rfl (fun _ h => h))
                  ·
                    refine aB ?_;refine aA (bT rfl rfl) rfl ?_;refine aA (aF rfl) rfl ?_;refine aG ?_
                    first
                      | (have hb : cI c = decide ((c.toNat : Int) = 93) := (by unfold cI; rw [decide_eq_decide]; omega)
                         exact bX () trivial (.cons 0 rfl (.cons 2 rfl (.cons 25 rfl (.cons 50 (by rw [hb]; rfl) .nil)))) rfl (fun _ h => h))
                      | (have hb : cI c = true := (by unfold cI; simp only [decide_eq_true_eq]; omega)
                         exact bX () trivial (.cons 0 rfl (.cons 2 rfl (.cons 25 rfl (.cons 50 (by rw [hb]; rfl) .nil)))) rfl (fun _ h => h))
                      | (have hb : cI c = false := (by unfold cI; simp only [decide_eq_false_iff_not]; omega)
                         exact bX () trivial (.cons 0 rfl (.cons 2 rfl (.cons 25 rfl (.cons 50 (by rw [hb]; rfl) .nil)))) rfl (fun _ h => h))
    ·
      intro _ _;refine eB 50 rfl (fun h50 => ?_) (fun h50 => ?_)
      ·
        refine aI (aB ?_);refine aA (aC rfl) rfl ?_;refine aA (aC rfl) rfl ?_;refine aA (aC rfl) rfl ?_;have hc128 := aND h50;refine aA (zL Tryz.underlying5 Tryz.underlying9 rfl (by first | assumption | omega)) rfl ?_;refine aA bS rfl ?_;refine aA (aD (o' := 2) cD rfl rfl) rfl ?_;refine aA (aD (o' := 2) eE rfl rfl) rfl ?_;refine bR (bI kK rfl rfl cG a7 (.succ (.succ .zero)) rfl) ?_;rintro _ K _ ⟨rfl, rfl⟩ -;refine aA bS rfl ?_;refine aA (aD (o' := 2) cD rfl rfl) rfl ?_;refine aA (aD (o' := 3) fB rfl rfl) rfl ?_;refine bR (bI ts9 rfl rfl cG a7 (.succ (.succ (.succ .zero))) rfl) ?_;rintro _ K _ ⟨rfl, rfl⟩ -;refine aG (aE ?_);refine aB ?_;refine aA (aC rfl) rfl ?_;refine aA bS rfl ?_;refine aA (aD (o' := 1) bU rfl rfl) rfl ?_;refine aA (aK ts3 rfl aM rfl) rfl ?_;refine aA (bZ rfl rfl aH aH) rfl ?_;refine aA bS rfl ?_;refine aA (aD (o' := 1) bU rfl rfl) rfl ?_;refine bR (bI ts3 rfl rfl cG a7 (.succ .zero) rfl) ?_;rintro _ K _ ⟨rfl, rfl⟩ -;refine aG (aN ?_);refine dE rfl (Hl.le_refl _) ?_;rw [hn];unfold kI;rw [if_pos h50];exact ⟨_, rfl, rfl, rfl, rfl⟩
      ·
        refine aI (aB ?_);refine aA (bT rfl rfl) rfl ?_;refine aA (aF rfl) rfl ?_;refine aG (aE ?_);refine bE 76 rfl (fun h76 => ?_) (fun h76 => ?_)
        ·
          refine aB ?_;refine aA (aC rfl) rfl ?_;refine aW rfl rfl (aCB b T s a1 _ _ _ a1 rest hs aH _) (.cons .here .nil) rfl (fun _ _ => aX _ _) ?_ ?_
          ·
            rintro _ _ _ hT2 le1;obtain ⟨e, p, hr, fb, h, rfl⟩ := aY hT2;cases h
            refine aO (.cons .here .nil) ?_;refine aP ?_;refine bA bP ?_;rw [hn];unfold kI;rw [if_neg (by simp [h50]), if_pos aH, hr];exact ⟨fb, rfl, rfl⟩
          rintro _ K _ hT2 -;obtain ⟨r, hr, rfl, rfl, rfl⟩ := aZ hT2;refine aG (aN ?_);refine dE rfl (Hl.le_refl _) ?_;rw [hn];unfold kI;rw [if_neg (by simp [h50]), if_pos aH, hr];exact ⟨_, rfl, rfl, rfl, rfl⟩
        ·
          refine aI (aB ?_);refine aA (bT rfl rfl) rfl ?_;refine aA (aF rfl) rfl ?_;refine aG (aE ?_);refine bE 80 rfl (fun h80 => ?_) (fun h80 => ?_)
          ·
            refine aI (aI ?_);refine aB ?_;refine aA (aC rfl) rfl ?_;refine bD rfl rfl (jA b T s a1 1 _ _ _ _ rest hs aH aH _) (.cons .here .nil) rfl ?_;rintro _ K _ ⟨rfl, rfl, rfl⟩ -;refine cF rfl rfl (nI _ _) rfl ?_;refine aA (by first | exact dM rfl | exact dU rfl) rfl ?_;refine aG (aE ?_);refine eB 85 rfl (fun h85 => ?_) (fun h85 => ?_)
            ·
              refine aB ?_;refine aA (aC rfl) rfl ?_;refine aA bS rfl ?_;refine aA (aD (o' := 1) bU rfl rfl) rfl ?_;refine aA (aK ts3 rfl aM rfl) rfl ?_;refine aW rfl rfl (dY 2 a1 _) .nil rfl (by rintro _ _ ⟨_, h, _⟩; cases h) ?_ ?_
              ·
                rintro _ _ _ ⟨fb, h, rfl⟩ le1;cases h
                refine aO (.cons .here .nil) ?_;refine aJ ?_;refine aP ?_;refine bA bP ?_;rw [hn];unfold kI;rw [if_neg (by simp [h50]), if_neg aH, if_pos aH, if_neg (by simpa using h85)];exact ⟨fb, rfl, rfl⟩
              ·
                rintro _ _ _ ⟨_, h, _⟩; cases h
            ·
              refine a6 ?_;refine aE (aI ?_);refine aB ?_;refine aA (aC rfl) rfl ?_;refine aA bS rfl ?_;refine aA (aD (o' := 1) bU rfl rfl) rfl ?_;refine aA (aK ts3 rfl aM rfl) rfl ?_;refine aA (bZ rfl rfl aH aH) rfl ?_;refine aA bS rfl ?_;refine aA (aD (o' := 1) bU rfl rfl) rfl ?_;refine bR (bI ts3 rfl rfl cG a7 (.succ .zero) rfl) ?_;rintro _ K _ ⟨rfl, rfl⟩ -;refine aG (aE ?_);refine aI (aB ?_);refine aA (aC rfl) rfl ?_;refine aA bS rfl ?_;refine aA (aD (o' := 2) cD rfl rfl) rfl ?_;refine aA (aD (o' := 2) eE rfl rfl) rfl ?_;refine bR (bI kK rfl rfl cG a7 (.succ (.succ .zero)) rfl) ?_;rintro _ K _ ⟨rfl, rfl⟩ -;refine aG (aE ?_);refine aB ?_;refine aA (aC rfl) rfl ?_;refine aA (aC rfl) rfl ?_;refine bD rfl rfl (oO b T s (a1 + 1) _ _ _ _ rest 187 dT hs aH _ (fun c => m7 c _)) (.cons .here .nil) rfl ?_;rintro _ K _ ⟨rfl, rfl, rfl⟩ -;have hwl := gO dT s (a1 + 1) aH;refine cF rfl rfl (fA _ _ aH) rfl ?_;refine aA bS rfl ?_;refine aA (aD (o' := 2) cD rfl rfl) rfl ?_;refine aA (aD (o' := 3) fB rfl rfl) rfl ?_;refine bR (bI ts9 rfl rfl cG a7 (.succ (.succ (.succ .zero))) rfl) ?_;rintro _ K _ ⟨rfl, rfl⟩ -;refine aG (aN ?_);refine dE rfl (Hl.le_refl _) ?_;rw [hn];unfold kI;rw [if_neg (by simp [h50]), if_neg aH, if_pos aH, if_pos (by simpa using h85)];exact ⟨_, rfl, rfl, rfl, rfl⟩
          ·
            refine bF (aI ?_);refine aB ?_;refine aA (aC rfl) rfl ?_;refine cF rfl rfl (nI c _) rfl ?_;refine aA (aF rfl) rfl ?_;refine aG (aE ?_);refine eB 31 rfl (fun h31 => ?_) (fun h31 => ?_)
            ·
              refine aB ?_;refine aA (aC rfl) rfl ?_;refine aA (aC rfl) rfl ?_;refine aA (aC rfl) rfl ?_;refine bD rfl rfl (oO b T s a1 _ _ _ _ rest 187 dT hs aH _ (fun c => m7 c _)) (.cons .here .nil) rfl ?_;rintro _ K _ ⟨rfl, rfl, rfl⟩ -;have hwl := gO dT s a1 aH;refine cF rfl rfl (fA _ _ aH) rfl ?_;refine aA bS rfl ?_;refine aA (aD (o' := 2) cD rfl rfl) rfl ?_;refine aA (aD (o' := 2) eE rfl rfl) rfl ?_;refine bR (bI kK rfl rfl cG a7 (.succ (.succ .zero)) rfl) ?_;rintro _ K _ ⟨rfl, rfl⟩ -;refine aA bS rfl ?_;refine aA (aD (o' := 2) cD rfl rfl) rfl ?_;refine aA (aD (o' := 3) fB rfl rfl) rfl ?_;refine bR (bI ts9 rfl rfl cG a7 (.succ (.succ (.succ .zero))) rfl) ?_;rintro _ K _ ⟨rfl, rfl⟩ -;refine aG (aN ?_);refine aN ?_;refine dE rfl (Hl.le_refl _) ?_;rw [hn];unfold kI;rw [if_neg (by simp [h50]), if_neg aH, if_neg aH, if_pos h31];exact ⟨_, rfl, rfl, rfl, rfl⟩
            ·
              refine aI (aB ?_);refine aA (aC rfl) rfl ?_;refine cF rfl rfl (lV c _) rfl ?_;refine aA (aF rfl) rfl ?_;refine aG (aE ?_);refine eB 45 rfl (fun h45 => ?_) (fun h45 => ?_)
              ·
                refine aB ?_;refine aA (aC rfl) rfl ?_;refine aW rfl rfl (aB2 b T s a1 _ _ _ a1 rest hs aH _) (.cons .here .nil) rfl (fun _ _ => aX _ _) ?_ ?_
                ·
                  rintro _ _ _ hT2 le1;obtain ⟨e, p, hr, fb, h, rfl⟩ := aY hT2;cases h
                  refine aO (.cons .here .nil) ?_;refine aP ?_;refine aP ?_;refine bA bP ?_;rw [hn];unfold kI;rw [if_neg (by simp [h50]), if_neg aH, if_neg aH, if_neg (by simp [h31]), if_pos h45, hr];exact ⟨fb, rfl, rfl⟩
                rintro _ K _ hT2 -;obtain ⟨r, hr, rfl, rfl, rfl⟩ := aZ hT2;refine aG (aN ?_);refine aN ?_;refine dE rfl (Hl.le_refl _) ?_;rw [hn];unfold kI;rw [if_neg (by simp [h50]), if_neg aH, if_neg aH, if_neg (by simp [h31]), if_pos h45, hr];exact ⟨_, rfl, rfl, rfl, rfl⟩
              ·
                refine aB ?_;refine aA (aC rfl) rfl ?_;refine aA bS rfl ?_;refine aA (aD (o' := 1) bU rfl rfl) rfl ?_;refine aA (aK ts3 rfl aM rfl) rfl ?_;refine aW rfl rfl (dY 2 a1 _) .nil rfl (by rintro _ _ ⟨_, h, _⟩; cases h) ?_ ?_
                ·
                  rintro _ _ _ ⟨fb, h, rfl⟩ le1;cases h
                  refine aO (.cons .here .nil) ?_;refine aP ?_;refine aP ?_;refine bA bP ?_;rw [hn];unfold kI;rw [if_neg (by simp [h50]), if_neg aH, if_neg aH, if_neg (by simp [h31]), if_neg (by simp [h45])];exact ⟨fb, rfl, rfl⟩
                ·
                  rintro _ _ _ ⟨_, h, _⟩; cases h
end Go.Proofs
end
section
namespace Go.Syn
open Go.Proofs
theorem wE {s : aL} {wat : Int} : ∀ (f i : Nat) (acc : aL) (r : Nat × aL), eU s wat f i acc = .ok r → i < r.1 ∧ r.1 ≤ s.length := by
 intro f;induction f with
 | zero => intro i acc r h; simp only [eU] at h; cases h
 | succ f ih =>
  intro i acc r h;simp only [eU] at h;split at h
  ·rename_i h1; cases h; exact ⟨by simp, by simp; omega⟩
  ·split at h
   ·split at h
    ·cases h
    ·have := ih _ _ _ h; omega
   ·split at h
    ·cases h
    ·have := ih _ _ _ h; omega
theorem aDH {s : aL} {a : Nat} {c : UInt8} (hc : s[a]? = some c) (h : f6 c = true) : 0 < (cR s a).length := by
 have hi : a < s.length := by
  rcases Nat.lt_or_ge a s.length with h | h
  ·exact h
  ·simp [List.getElem?_eq_none h] at hc
 have e : s[a] = c := by simpa [List.getElem?_eq_getElem hi] using hc
 unfold cR;rw [List.drop_eq_getElem_cons hi, e, List.takeWhile_cons, if_pos h]; simp
theorem aL8 {s : aL} {a : Nat} {c : UInt8} (hc : s[a]? = some c) (h : dT c = true) : 0 < (kF s a).length := by
 have hi : a < s.length := by
  rcases Nat.lt_or_ge a s.length with h | h
  ·exact h
  ·simp [List.getElem?_eq_none h] at hc
 have e : s[a] = c := by simpa [List.getElem?_eq_getElem hi] using hc
 unfold kF;rw [List.drop_eq_getElem_cons hi, e, List.takeWhile_cons, if_pos h]; simp
theorem aHF {s : aL} {a : Nat} {wat : Int} {r : Nat × Int} (ha : a ≤ s.length) (h : rL s a wat = .ok r) : a + (cR s a).length ≤ r.1 ∧ r.1 ≤ s.length := by
 unfold rL at h;split at h
 ·cases h
 ·split at h
  ·cases h
  ·cases h
   refine ⟨?_, aFP s a ha⟩
   show _ ≤ numA s a
   unfold numA; split <;> omega
theorem uH {s : aL} {a : Nat} {r : Nat × Word} (ha : a ≤ s.length) (h : next s a = .ok r) : a ≤ r.1 ∧ r.1 ≤ s.length ∧ (r.2.kind ≠ 0 → a < r.1) := by
 unfold next at h;split at h
 ·cases h
 ·rename_i a1 hs;obtain ⟨h1, h2⟩ := aAJ ha hs;split at h
  ·cases h; exact ⟨h1, h2, fun h => absurd rfl h⟩
  ·rename_i c hc;have hi : a1 < s.length := by
    rcases Nat.lt_or_ge a1 s.length with h | h
    ·exact h
    ·simp [List.getElem?_eq_none h] at hc
   have key : a1 < r.1 ∧ r.1 ≤ s.length := by
    unfold kI at h;split at h
    ·cases h; exact ⟨by simp, by simp; omega⟩
    ·split at h
     ·split at h
      ·cases h
      ·rename_i q hq;cases h
       have := wE _ _ _ _ hq;exact ⟨by show a1 < q.1; omega, this.2⟩
     ·split at h
      ·split at h
       ·cases h
        have := gO dT s (a1 + 1) aH;exact ⟨by show a1 < a1 + 1 + _; omega, this⟩
       ·cases h
      ·split at h
       ·rename_i hl;cases h
        have := gO dT s a1 aH;have hp := aL8 hc (show dT c = true by simp [dT, hl]);exact ⟨by show a1 < a1 + _; omega, this⟩
       ·split at h
        ·rename_i hd;split at h
         ·cases h
         ·rename_i q hq;cases h
          have := aHF aH hq;have hp := aDH hc hd;exact ⟨by show a1 < q.1; omega, this.2⟩
        ·cases h
   exact ⟨by omega, key.2, fun _ => by omega⟩
def mu (s : aL) (st : St) : Nat := (s.length - st.1) * 2 + (if st.2.kind = 0 then 0 else 1)
theorem eP {s : aL} {st r : St} (ha : st.1 ≤ s.length) (hk : st.2.kind ≠ 0) (h : next s st.1 = .ok r) : mu s r < mu s st ∧ r.1 ≤ s.length := by
 obtain ⟨h1, h2, h3⟩ := uH ha h;refine ⟨?_, h2⟩
 unfold mu;rw [if_neg hk];split
 ·omega
 ·rename_i hr; have := h3 hr; omega
theorem aAT {s : aL} {st : St} {k : Nat} {texts : List aL} {r : Word × St} (ha : st.1 ≤ s.length) (hk : k ≠ 0) (h : take s st k texts = .ok r) : mu s r.2 < mu s st ∧ r.2.1 ≤ s.length := by
 unfold take at h;split at h
 ·cases h
 ·rename_i hn;have hkk : st.2.kind = k := by
   rcases Nat.decEq st.2.kind k with h' | h'
   ·exact absurd (.inl h') hn
   ·exact h'
  split at h
  ·cases h
  ·rename_i q hq;cases h
   exact eP ha aH hq
theorem oV {s : aL} {st : St} {x : aL} {r : Bool × St} (ha : st.1 ≤ s.length) (h : eat s st x = .ok r) : r.2.1 ≤ s.length ∧ mu s r.2 ≤ mu s st ∧ (r.1 = true → mu s r.2 < mu s st) := by
 unfold eat at h;split at h
 ·rename_i hk;split at h
  ·cases h
  ·rename_i q hq;cases h
   have := eP ha aH hq;exact ⟨this.2, Nat.le_of_lt this.1, fun _ => this.1⟩
 ·cases h; exact ⟨ha, Nat.le_refl _, fun h => by cases h⟩
theorem gR {s : aL} {st : St} {ff : aL → Int} {r : aL × St} (ha : st.1 ≤ s.length) (h : text s st ff = .ok r) : mu s r.2 < mu s st ∧ r.2.1 ≤ s.length := by
 unfold text at h;split at h
 ·cases h
 ·split at h
  ·cases h
  ·rename_i q hq;cases h
   exact aAT ha (by decide) hq
theorem qA {s : aL} {st r : St} {x : aL} (ha : st.1 ≤ s.length) (h : sign s st x = .ok r) : mu s r < mu s st ∧ r.1 ≤ s.length := by
 unfold sign at h;split at h
 ·cases h
 ·rename_i q hq;cases h
  exact aAT ha (by decide) hq
theorem qQ (s : aL) (st : St) : mu s st ≤ s.length * 2 + 1 := by unfold mu; split <;> omega
def lG (s : aL) (ff : aL → Int) : Nat → St → List aL → Res (List aL × St)
 | 0, _, _ => .error (0, 0)
 | f + 1, st, acc =>
  match eat s st [44] with
  | .error e => .error e
  | .ok r =>
   if r.1 = true then
    match text s r.2 ff with
    | .error e => .error e
    | .ok x => lG s ff f x.2 (acc ++ [x.1])
   else
    match sign s r.2 [93] with
    | .error e => .error e
    | .ok q => .ok (acc, q)
def list (s : aL) (st : St) (ff : aL → Int) : Res (List aL × St) :=
 match eat s st [91] with
 | .error e => .error e
 | .ok r =>
  match text s r.2 ff with
  | .error e => .error e
  | .ok x => if r.1 = true then lG s ff (mu s x.2 + 1) x.2 [x.1] else .ok ([x.1], x.2)
def named (s : aL) : Bool := s.all dT && (decide (s ≠ []) && !f6 ((s[0]?).getD 0))
def oneOf (e : Int) (texts : List aL) (x : aL) : Int := if x ∈ texts then 0 else e
theorem aKE {s : aL} {i : Nat} {c : UInt8} (hc : s[i]? = some c) (h : dT c = false) : named s = false := by
 have : s.all dT = false := List.all_eq_false.2 ⟨c, List.mem_of_getElem? hc, by simp [h]⟩;simp [named, this]
structure SetC where
 name : aL
 value : aL
 tag : Int
def l4 : aL := [108, 111, 119, 101, 114]
def l6 : aL := [117, 112, 112, 101, 114]
def kE : aL := [108, 101, 110, 103, 116, 104]
def dH : aL := [118, 97, 114, 105, 97, 98, 108, 101, 115]
def iI (s : aL) (st : St) : Res (Int × St) :=
 if st.2.kind = 2 then
  if cN [l4, l6, kE] st.2.s = -1 then .error (4, st.2.at_)
  else match next s st.1 with
   | .error e => .error e
   | .ok r => .ok (1 + cN [l4, l6, kE] st.2.s, r)
 else .ok (0, st)
def kC (s : aL) (t : Int × St) : Res (SetC × St) :=
 match text s t.2 (fun x => if named x = true then 0 else 7) with
 | .error e => .error e
 | .ok n =>
  match text s n.2 (fun _ => 0) with
  | .error e => .error e
  | .ok v =>
   match sign s v.2 [59] with
   | .error e => .error e
   | .ok q => .ok (⟨cU n.1, v.1, t.1⟩, q)
def setC (s : aL) (needs : List aL) (st : St) : Res (SetC × St) :=
 if dH ∈ needs then
  match next s st.1 with
  | .error e => .error e
  | .ok r =>
   match iI s r with
   | .error e => .error e
   | .ok t => kC s t
 else .error (6, st.2.at_)
end Go.Syn
end
section
namespace Go.Syn
open Go.Proofs
theorem aCA {s : aL} {wat : Int} : ∀ (f i : Nat) (acc : aL) (r : Nat × aL), eU s wat f i acc = .ok r → acc.length ≤ i → r.2.length ≤ r.1 := by
 intro f;induction f with
 | zero => intro i acc r h; simp only [eU] at h; cases h
 | succ f ih =>
  intro i acc r h hi;simp only [eU] at h;split at h
  ·cases h; show acc.length ≤ i + 1; omega
  ·split at h
   ·split at h
    ·cases h
    ·exact ih _ _ _ h (by simp; omega)
   ·split at h
    ·cases h
    ·exact ih _ _ _ h (by simp; omega)
theorem rO (s : aL) : (cU s).length = s.length := by simp [cU]
theorem aKG {s : aL} {a : Nat} {r : Nat × Word} (ha : a ≤ s.length) (h : next s a = .ok r) : r.2.s.length ≤ s.length := by
 unfold next at h;split at h
 ·cases h
 ·rename_i a1 hs;obtain ⟨h1, h2⟩ := aAJ ha hs;split at h
  ·cases h; simp
  ·rename_i c hc;have hi : a1 < s.length := by
    rcases Nat.lt_or_ge a1 s.length with h | h
    ·exact h
    ·simp [List.getElem?_eq_none h] at hc
   unfold kI at h;split at h
   ·cases h; simp; omega
   ·split at h
    ·split at h
     ·cases h
     ·rename_i q hq;cases h
      have h3 := wE _ _ _ _ hq;have h4 := aCA _ _ _ _ hq (by simp)
      show q.2.length ≤ s.length
      omega
    ·split at h
     ·split at h
      ·cases h
       have := gO dT s (a1 + 1) aH
       show (cU (kF s (a1 + 1))).length ≤ _
       rw [rO]; unfold kF; omega
      ·cases h
     ·split at h
      ·cases h
       have := gO dT s a1 aH
       show (cU (kF s a1)).length ≤ _
       rw [rO]; unfold kF; omega
      ·split at h
       ·split at h
        ·cases h
        ·cases h; simp
       ·cases h
def Ok (s : aL) (st : St) : Prop := st.1 ≤ s.length ∧ st.2.s.length ≤ s.length
theorem dR {s : aL} {a : Nat} {r : St} (ha : a ≤ s.length) (h : next s a = .ok r) : Ok s r := ⟨(uH ha h).2.1, aKG ha h⟩
theorem sL {s : aL} {st : St} {k : Nat} {texts : List aL} {r : Word × St} (ha : st.1 ≤ s.length) (h : take s st k texts = .ok r) : Ok s r.2 := by
 unfold take at h;split at h
 ·cases h
 ·split at h
  ·cases h
  ·rename_i q hq;cases h
   exact dR ha hq
theorem sY {s : aL} {st : St} {x : aL} {r : Bool × St} (ha : Ok s st) (h : eat s st x = .ok r) : Ok s r.2 := by
 unfold eat at h;split at h
 ·split at h
  ·cases h
  ·rename_i q hq;cases h
   exact dR ha.1 hq
 ·cases h; exact ha
theorem kD {s : aL} {st : St} {ff : aL → Int} {r : aL × St} (ha : st.1 ≤ s.length) (h : text s st ff = .ok r) : Ok s r.2 := by
 unfold text at h;split at h
 ·cases h
 ·split at h
  ·cases h
  ·rename_i q hq;cases h
   exact sL ha hq
theorem uK {s : aL} {st r : St} {x : aL} (ha : st.1 ≤ s.length) (h : sign s st x = .ok r) : Ok s r := by
 unfold sign at h;split at h
 ·cases h
 ·rename_i q hq;cases h
  exact sL ha hq
end Go.Syn
end
section
namespace Go.Mach
open Go.Syn
structure Ins where
 op : Int
 n : Int
 tag : Int
 oct : Bool
 a : List aL
 b : List aL
 at_ : Int
structure Msg where
 from_ : aL
 to_ : aL
 size : Int
 hs : List (aL × aL)
abbrev gC := Int × aL
structure MS where
 acts : List gC
 keep : Bool
 vars : List (aL × aL)
 parts : List aL
 stack : List Bool
 pc : Nat
def vget (vars : List (aL × aL)) (k : aL) : aL := match vars with
 | [] => []
 | (j, v) :: r => if j = k then v else vget r k
def vput (vars : List (aL × aL)) (k v : aL) : List (aL × aL) := match vars with
 | [] => [(k, v)]
 | (j, u) :: r => if j = k then (j, v) :: r else (j, u) :: vput r k v
def held (vars : List (aL × aL)) (parts : List aL) (name : aL) : aL × Bool :=
 match name with
 | [c] => if f6 c = true then ((parts[c.toNat - 48]?).getD [], true) else (vget vars (cU name), named name)
 | _ => (vget vars (cU name), named name)
def fS (vars : List (aL × aL)) (parts : List aL) : Nat → aL → aL → aL
 | 0, s, acc => acc ++ s
 | f + 1, s, acc =>
  if s = [] then acc
  else if Lib.index s [36, 123] < 0 then acc ++ s
  else
   let i := (Lib.index s [36, 123]).toNat
   let t := s.drop i
   let e := Lib.indexByte t 125
   let h := held vars parts ((t.take (max e 2).toNat).drop 2)
   if 0 < e ∧ h.2 = true then fS vars parts f (t.drop (e.toNat + 1)) (acc ++ s.take i ++ h.1)
   else fS vars parts f (t.drop 1) (acc ++ s.take i ++ [36])
def cP (named : Bool) (vars : List (aL × aL)) (parts : List aL) (s : aL) : aL :=
 if named = true then (fS vars parts (s.length + 1) s []).take 1024 else s
def fG (m : Msg) (name : aL) : List aL := (m.hs.filter fun h => decide (cU h.1 = name)).map (·.2)
def mZ (m : Msg) (names : List aL) : Bool := names.all fun n => decide (fG m (cU n) ≠ [])
def mY (m : Msg) (n : aL) : List aL := if cU n = [102, 114, 111, 109] then [m.from_] else if cU n = [116, 111] then [m.to_] else []
def fJ (ex : aL → aL) (m : Msg) (o : Ins) : List aL :=
 if o.op = 8 then o.a.map ex
 else if o.op = 6 then (o.a.map ex).flatMap fun n => fG m (cU n)
 else if o.op = 7 then o.a.flatMap (mY m)
 else []
def dP (oct : Bool) (s : aL) : aL := if oct = true then s else cU s
def iH {α : Type} (f : Nat → Option α) : Nat → Nat → Option α
 | 0, _ => none
 | n + 1, e => match f e with
  | some x => some x
  | none => iH f n (e + 1)
def eR (w v k : aL) : Nat → Nat → Nat → Option (List aL)
 | 0, _, _ => none
 | f + 1, i, j =>
  match k[j]? with
  | none => if i = v.length then some [] else none
  | some c =>
   if c.toNat = 42 then iH (fun e => (eR w v k f e (j + 1)).map fun ps => ((w.take e).drop i) :: ps) (v.length + 1 - i) i
   else match v[i]? with
    | none => none
    | some x =>
     if c.toNat = 63 then (eR w v k f (i + 1) (j + 1)).map fun ps => ((w.take (i + 1)).drop i) :: ps
     else match (if c.toNat = 92 then k[j + 1]? else none) with
      | some d => if x = d then eR w v k f (i + 1) (j + 2) else none
      | none => if x = c then eR w v k f (i + 1) (j + 1) else none
def glob (w k : aL) (oct : Bool) : Option (List aL) := eR w (dP oct w) (dP oct k) (k.length + 1) 0 0
def fT (o : Ins) (v k : aL) : Option (List aL) :=
 if o.tag = 1 then (if dP o.oct v = dP o.oct k then some [] else none)
 else if o.tag = 2 then (if 0 ≤ Lib.index (dP o.oct v) (dP o.oct k) then some [] else none)
 else glob v k o.oct
def mI {α β : Type} (f : α → Option β) : List α → Option β
 | [] => none
 | x :: l => match f x with
  | some y => some y
  | none => mI f l
def f8 (o : Ins) (vs ks : List aL) : Option (List aL) :=
 mI (fun v => mI (fun k => (fT o v k).map fun ps => v :: ps) ks) vs
def lP (pc : Nat) : Int × Int := (12, pc)
def push (s : MS) (b : Bool) : Res MS := if s.stack.length < 8 then .ok { s with stack := s.stack ++ [b] } else .error (lP s.pc)
def pop (s : MS) : Res (Bool × MS) := match s.stack.getLast? with
 | some b => .ok (b, { s with stack := s.stack.dropLast })
 | none => .error (lP s.pc)
def jump (s : MS) (by_ : Int) (n : Nat) (yes : Bool) : Res MS :=
 if 0 ≤ by_ ∧ by_ < (n : Int) - s.pc then .ok (if yes = true then { s with pc := s.pc + by_.toNat } else s) else .error (lP s.pc)
def matchI (nm : Bool) (m : Msg) (o : Ins) (s : MS) : Res MS :=
 if 1 ≤ o.tag ∧ o.tag ≤ 3 ∧ s.stack.length < 8 then
  let ex := cP nm s.vars s.parts
  match f8 o (fJ ex m o) (o.b.map ex) with
  | some ps => push (if o.tag = 3 ∧ nm = true then { s with parts := ps } else s) true
  | none => push s false
 else .error (lP s.pc)
def setI (nm : Bool) (o : Ins) (s : MS) : Res MS :=
 if 0 ≤ o.tag ∧ o.tag ≤ 3 then
  match o.a, o.b with
  | a :: _, b :: _ =>
   let v := cP nm s.vars s.parts b
   let u := if o.tag = 1 then cU v else if o.tag = 2 then aDX v else if o.tag = 3 then Lib.itoa v.length else v
   .ok { s with vars := vput s.vars a (u.take 48) }
  | _, _ => .error (lP s.pc)
 else .error (lP s.pc)
def fY (c : UInt8) : Bool := (decide (97 ≤ (c ||| 32).toNat) && decide ((c ||| 32).toNat ≤ 122)) || (decide (48 ≤ c.toNat) && decide (c.toNat ≤ 57)) || decide (c.toNat = 95)
def iL (i : Nat) (c : UInt8) : Bool := fY c || decide (c.toNat = 45) || (decide (c.toNat = 46) && decide (i ≠ 0))
def aBB (s : aL) : Bool := ((List.range s.length).all fun i => iL i ((s[i]?).getD 0)) && decide (s ≠ []) && decide (s.length ≤ 16)
def eY (c : UInt8) : Bool := decide (c.toNat = 32 ∨ c.toNat = 9 ∨ c.toNat = 13 ∨ c.toNat = 10)
def l8 (s : aL) : Bool :=
 match s.findIdx? (fun x => decide (x = 64)) with
 | none => false
 | some i => decide (s.take i ≠ []) && decide (s.drop (i + 1) ≠ []) && !(s.any eY) && !((s.drop (i + 1)).any fun c => decide (c = 64)) && decide (s.length ≤ 32)
def actA (nm : Bool) (o : Ins) (s : MS) : aL := if o.tag = 1 then [] else cP nm s.vars s.parts ((o.a[0]?).getD [])
def actV (o : Ins) (arg : aL) : gC := (o.tag, if o.tag = 4 then arg.take 48 else arg)
def actI (nm : Bool) (o : Ins) (s : MS) : Res MS :=
 if o.tag = 1 ∨ (2 ≤ o.tag ∧ o.tag ≤ 4 ∧ o.a ≠ []) then
  let arg := actA nm o s
  if o.tag = 2 ∧ aBB arg = false then .error (8, o.at_)
  else if o.tag = 3 ∧ l8 arg = false then .error (9, o.at_)
  else
   let a : gC := actV o arg
   if a ∈ s.acts then .ok { s with keep := false }
   else if (∃ b ∈ s.acts, a.1 = 4 ∨ b.1 = 4) then .error (10, o.at_)
   else if s.acts.length = 6 then .error (11, o.at_)
   else .ok { s with keep := false, acts := s.acts ++ [a] }
 else .error (lP s.pc)
def step (nm : Bool) (m : Msg) (n : Nat) (o : Ins) (s : MS) : Res MS :=
 if o.op = 1 then (if o.n = 0 ∨ o.n = 1 then push s (decide (o.n = 1)) else .error (lP s.pc))
 else if o.op = 2 then (match pop s with | .error e => .error e | .ok r => push r.2 (!r.1))
 else if o.op = 3 then jump s o.n n true
 else if o.op = 4 then (match pop s with | .error e => .error e | .ok r => jump r.2 o.n n r.1)
 else if o.op = 5 then (match pop s with | .error e => .error e | .ok r => jump r.2 o.n n (!r.1))
 else if o.op = 6 ∨ o.op = 7 ∨ o.op = 8 then matchI nm m o s
 else if o.op = 9 then push s (mZ m (o.a.map (cP nm s.vars s.parts)))
 else if o.op = 10 then (if o.tag = 1 ∨ o.tag = 2 then push s (decide (o.tag = 1 ∧ o.n < m.size ∨ o.tag = 2 ∧ m.size < o.n)) else .error (lP s.pc))
 else if o.op = 11 then actI nm o s
 else if o.op = 12 then setI nm o s
 else if o.op = 13 then .ok { s with keep := false }
 else .error (lP s.pc)
structure Out where
 acts : List gC
 steps : Nat
 err : Option (Int × Int)
def loop (nm : Bool) (m : Msg) (code : List Ins) : Nat → Nat → MS → Out
 | 0, st, _ => ⟨[], st, none⟩
 | f + 1, st, s =>
  match code[s.pc]? with
  | none => ⟨if s.keep = true then s.acts ++ [(1, [])] else s.acts, st, none⟩
  | some o =>
   if o.op = 14 then ⟨if s.keep = true then s.acts ++ [(1, [])] else s.acts, st + 1, none⟩
   else match step nm m code.length o s with
    | .error e => ⟨[(1, [])], st + 1, some e⟩
    | .ok t => loop nm m code f (st + 1) { t with pc := t.pc + 1 }
def start : MS := ⟨[], true, [], [], [], 0⟩
def run (nm : Bool) (code : List Ins) (m : Msg) : Out :=
 if 400 < code.length then ⟨[(1, [])], 0, some (12, 400)⟩ else loop nm m code (code.length + 1) 0 start
theorem p6 {s t : MS} {b : Bool} (h : push s b = .ok t) : t.pc = s.pc := by
 unfold push at h; split at h <;> cases h; rfl
theorem wD {s : MS} {r : Bool × MS} (h : pop s = .ok r) : r.2.pc = s.pc := by
 unfold pop at h; split at h <;> cases h; rfl
theorem z1 {s t : MS} {by_ : Int} {n : Nat} {yes : Bool} (h : jump s by_ n yes = .ok t) (hp : s.pc < n) : s.pc ≤ t.pc ∧ t.pc < n := by
 unfold jump at h;split at h
 ·cases h; split
  ·simp only []; omega
  ·exact ⟨Nat.le_refl _, hp⟩
 ·cases h
theorem aG9 {nm : Bool} {m : Msg} {o : Ins} {s t : MS} (h : matchI nm m o s = .ok t) : t.pc = s.pc := by
 unfold matchI at h;split at h
 ·simp only [] at h;split at h
  ·have := p6 h; rw [this]; split <;> rfl
  ·exact p6 h
 ·cases h
theorem aNC {nm : Bool} {o : Ins} {s t : MS} (h : setI nm o s = .ok t) : t.pc = s.pc := by
 unfold setI at h;split at h
 ·split at h
  ·cases h; rfl
  ·cases h
 ·cases h
theorem aMG {nm : Bool} {o : Ins} {s t : MS} (h : actI nm o s = .ok t) : t.pc = s.pc := by
 unfold actI at h;split at h
 ·simp only [] at h;split at h
  ·cases h
  split at h
  ·cases h
  split at h
  ·cases h; rfl
  split at h
  ·cases h
  split at h
  ·cases h
  ·cases h; rfl
 ·cases h
theorem aFS {nm : Bool} {m : Msg} {n : Nat} {o : Ins} {s t : MS} (h : step nm m n o s = .ok t) (hp : s.pc < n) : s.pc ≤ t.pc ∧ t.pc < n := by
 have key : t.pc = s.pc → s.pc ≤ t.pc ∧ t.pc < n := fun e => by rw [e]; exact ⟨Nat.le_refl _, hp⟩
 unfold step at h
 by_cases h0 : o.op = 1
 ·rw [if_pos h0] at h;split at h
  ·exact key (p6 h)
  ·cases h
 rw [if_neg h0] at h
 by_cases h1 : o.op = 2
 ·rw [if_pos h1] at h;split at h
  ·cases h
  ·rename_i r hr; exact key ((p6 h).trans (wD hr))
 rw [if_neg h1] at h
 by_cases h2 : o.op = 3
 ·rw [if_pos h2] at h;exact z1 h hp
 rw [if_neg h2] at h
 by_cases h3 : o.op = 4
 ·rw [if_pos h3] at h;split at h
  ·cases h
  ·rename_i r hr; have e := wD hr; have := z1 h (by rw [e]; exact hp); omega
 rw [if_neg h3] at h
 by_cases h4 : o.op = 5
 ·rw [if_pos h4] at h;split at h
  ·cases h
  ·rename_i r hr; have e := wD hr; have := z1 h (by rw [e]; exact hp); omega
 rw [if_neg h4] at h
 by_cases h5 : o.op = 6 ∨ o.op = 7 ∨ o.op = 8
 ·rw [if_pos h5] at h;exact key (aG9 h)
 rw [if_neg h5] at h
 by_cases h6 : o.op = 9
 ·rw [if_pos h6] at h;exact key (p6 h)
 rw [if_neg h6] at h
 by_cases h7 : o.op = 10
 ·rw [if_pos h7] at h;split at h
  ·exact key (p6 h)
  ·cases h
 rw [if_neg h7] at h
 by_cases h8 : o.op = 11
 ·rw [if_pos h8] at h;exact key (aMG h)
 rw [if_neg h8] at h
 by_cases h9 : o.op = 12
 ·rw [if_pos h9] at h;exact key (aNC h)
 rw [if_neg h9] at h
 by_cases h10 : o.op = 13
 ·rw [if_pos h10] at h;cases h; exact key rfl
 rw [if_neg h10] at h;cases h
end Go.Mach
end
section
namespace Go.Syn
theorem aKA {s : aL} {ff : aL → Int} : ∀ {f : Nat} {st : St} {acc : List aL} {r : List aL × St}, Ok s st → lG s ff f st acc = .ok r → Ok s r.2 ∧ mu s r.2 < mu s st := by
 intro f;induction f with
 | zero => intro st acc r _ h; cases h
 | succ f ih =>
  intro st acc r hok h;simp only [lG] at h;split at h
  ·cases h
  ·rename_i q hq;obtain ⟨_, hq2, _⟩ := oV hok.1 hq;have hqo := sY hok hq;split at h
   ·split at h
    ·cases h
    ·rename_i x hx;have h1 := gR hqo.1 hx;have h2 := kD hqo.1 hx;have := ih h2 h;exact ⟨this.1, by omega⟩
   ·split at h
    ·cases h
    ·rename_i y hy;cases h
     have h1 := qA hqo.1 hy;exact ⟨uK hqo.1 hy, by simp only []; omega⟩
theorem lC {s : aL} {st : St} {ff : aL → Int} {r : List aL × St} (hok : Ok s st) (h : list s st ff = .ok r) : Ok s r.2 ∧ mu s r.2 < mu s st := by
 unfold list at h;split at h
 ·cases h
 ·rename_i q hq;obtain ⟨_, hq2, _⟩ := oV hok.1 hq;have hqo := sY hok hq;split at h
  ·cases h
  ·rename_i x hx;have h1 := gR hqo.1 hx;have h2 := kD hqo.1 hx;split at h
   ·have := aKA h2 h; exact ⟨this.1, by omega⟩
   ·cases h; exact ⟨h2, by simp only []; omega⟩
inductive Tree where
 | const (b : Bool)
 | not_ (t : Tree)
 | many (all : Bool) (l : Tree)
 | mat (tag : Int) (octet : Bool) (op : Int) (a b : List aL)
 | exi (a : List aL)
 | siz (tag n : Int)
 | tnil
 | tcons (t l : Tree)
 | plain (op : Int)
 | act (kind : Int) (arg : aL) (at_ : Int)
 | set_ (name value : aL) (tag : Int)
 | iff (bs : Tree)
 | cnil
 | ccons (c l : Tree)
 | bnil
 | bcons (t body l : Tree)
 | belse (body l : Tree)
def wf : Tree → Nat → Bool
 | .const _, k => k == 0
 | .not_ t, k => k == 0 && wf t 0
 | .many _ l, k => k == 0 && wf l 1
 | .mat _ _ _ _ _, k => k == 0
 | .exi _, k => k == 0
 | .siz _ _, k => k == 0
 | .tnil, k => k == 1
 | .tcons t l, k => k == 1 && (wf t 0 && wf l 1)
 | .plain _, k => k == 2
 | .act _ _ _, k => k == 2
 | .set_ _ _ _, k => k == 2
 | .iff bs, k => k == 2 && wf bs 4
 | .cnil, k => k == 3
 | .ccons c l, k => k == 3 && (wf c 2 && wf l 3)
 | .bnil, k => k == 4
 | .bcons t b l, k => k == 4 && (wf t 0 && (wf b 3 && wf l 4))
 | .belse b l, k => k == 4 && (wf b 3 && wf l 4)
def Tree.snocT : Tree → Tree → Tree
 | .tcons t l, x => .tcons t (l.snocT x)
 | _, x => .tcons x .tnil
def Tree.snocC : Tree → Tree → Tree
 | .ccons t l, x => .ccons t (l.snocC x)
 | _, x => .ccons x .cnil
def mkB (t : Option Tree) (body l : Tree) : Tree := match t with
 | some t => .bcons t body l
 | none => .belse body l
def Tree.snocB : Tree → Option Tree → Tree → Tree
 | .bcons t b l, x, y => .bcons t b (l.snocB x y)
 | .belse b l, x, y => .belse b (l.snocB x y)
 | _, x, y => mkB x y .bnil
def txIs : aL := [105, 115]
def wX : aL := [99, 111, 110, 116, 97, 105, 110, 115]
def mE : aL := [109, 97, 116, 99, 104, 101, 115]
def lZ : aL := [99, 111, 109, 112, 97, 114, 97, 116, 111, 114]
def eI : aL := [105, 59, 111, 99, 116, 101, 116]
def fD : aL := [105, 59, 97, 115, 99, 105, 105, 45, 99, 97, 115, 101, 109, 97, 112]
def gA : aL := [101, 110, 118, 101, 108, 111, 112, 101]
def w3 : aL := [111, 118, 101, 114]
def l5 : aL := [117, 110, 100, 101, 114]
def dD : List aL := [txIs, wX, mE, lZ]
structure How where
 cmp : Bool
 tag : Int
 oct : Bool
def d7 (s : aL) : Nat → How → St → Res (How × St)
 | 0, _, _ => .error (0, 0)
 | f + 1, h, st =>
  if st.2.kind = 2 then
   if cN dD st.2.s = -1 then .error (4, st.2.at_)
   else if (cN dD st.2.s = 3 ∧ h.cmp = true) ∨ (cN dD st.2.s < 3 ∧ h.tag ≠ 0) then .error (7, st.2.at_)
   else if cN dD st.2.s < 3 then
    match next s st.1 with
    | .error e => .error e
    | .ok r => d7 s f ⟨h.cmp, 1 + cN dD st.2.s, h.oct⟩ r
   else
    match next s st.1 with
    | .error e => .error e
    | .ok r =>
     match text s r (oneOf 7 [eI, fD]) with
     | .error e => .error e
     | .ok x => d7 s f ⟨true, h.tag, decide (x.1 = eI)⟩ x.2
  else .ok (h, st)
def j9 (op : Int) : aL → Int := if op = 7 then fun x => oneOf 7 [[102, 114, 111, 109], [116, 111]] (cU x) else fun _ => 0
def lH (s : aL) (op : Int) (h : Res (How × St)) : Res (Tree × St) :=
 match h with
 | .error e => .error e
 | .ok h =>
  match list s h.2 (j9 op) with
  | .error e => .error e
  | .ok a =>
   match list s a.2 (fun _ => 0) with
   | .error e => .error e
   | .ok b => .ok (.mat (if 1 > h.1.tag then 1 else h.1.tag) h.1.oct op a.1 b.1, b.2)
def iS (s : aL) (needs : List aL) (op : Int) (ext : aL) (st : St) : Res (Tree × St) :=
 if ext ≠ [] ∧ ext ∉ needs then .error (6, st.2.at_)
 else match next s st.1 with
  | .error e => .error e
  | .ok r => lH s op (d7 s (mu s r + 1) ⟨false, 0, false⟩ r)
def jB (s : aL) (c : Tree) (st : St) : Res (Tree × St) :=
 match next s st.1 with
 | .error e => .error e
 | .ok r =>
  match sign s r [59] with
  | .error e => .error e
  | .ok q => .ok (c, q)
def actC (s : aL) (needs : List aL) (kind : Int) (ext : aL) (at_ : Int) (st : St) : Res (Tree × St) :=
 if ext ≠ [] ∧ ext ∉ needs then .error (6, st.2.at_)
 else match next s st.1 with
  | .error e => .error e
  | .ok r =>
   match take s r 3 [] with
   | .error e => .error e
   | .ok x =>
    match sign s x.2 [59] with
    | .error e => .error e
    | .ok q => .ok (.act kind x.1.s at_, q)
def jY (s : aL) (b : Bool) (st : St) : Res (Tree × St) :=
 match next s st.1 with
 | .error e => .error e
 | .ok r => .ok (.const b, r)
def lB (s : aL) (st : St) : Res (Tree × St) :=
 match next s st.1 with
 | .error e => .error e
 | .ok r =>
  match list s r (fun _ => 0) with
  | .error e => .error e
  | .ok a => .ok (.exi a.1, a.2)
def nR (s : aL) (st : St) : Res (Tree × St) :=
 match next s st.1 with
 | .error e => .error e
 | .ok r =>
  match take s r 2 [w3, l5] with
  | .error e => .error e
  | .ok x =>
   match take s x.2 4 [] with
   | .error e => .error e
   | .ok y => .ok (.siz (if x.1.s = l5 then 2 else 1) y.1.n, y.2)
def notC (s : aL) (T : St → Res (Tree × St)) (st : St) : Res (Tree × St) :=
 match next s st.1 with
 | .error e => .error e
 | .ok r =>
  match T r with
  | .error e => .error e
  | .ok t => .ok (.not_ t.1, t.2)
def mM (s : aL) (T : St → Res (Tree × St)) : Nat → Tree → St → Res (Tree × St)
 | 0, _, _ => .error (0, 0)
 | f + 1, acc, st =>
  match eat s st [44] with
  | .error e => .error e
  | .ok r =>
   if r.1 = true then
    match T r.2 with
    | .error e => .error e
    | .ok t => mM s T f (acc.snocT t.1) t.2
   else
    match sign s r.2 [41] with
    | .error e => .error e
    | .ok q => .ok (acc, q)
def sE (all : Bool) (l : Res (Tree × St)) : Res (Tree × St) :=
 match l with
 | .error e => .error e
 | .ok l => .ok (.many all l.1, l.2)
def lT (s : aL) (T : St → Res (Tree × St)) (all : Bool) (st : St) : Res (Tree × St) :=
 match next s st.1 with
 | .error e => .error e
 | .ok r =>
  match sign s r [40] with
  | .error e => .error e
  | .ok q =>
   match T q with
   | .error e => .error e
   | .ok t =>
    sE all (mM s T (mu s t.2 + 1) (.tcons t.1 .tnil) t.2)
def w5 : aL := [116, 114, 117, 101]
def sQ : aL := [102, 97, 108, 115, 101]
def aC2 : aL := [110, 111, 116]
def sO : aL := [97, 108, 108, 111, 102]
def sP : aL := [97, 110, 121, 111, 102]
def lO : aL := [104, 101, 97, 100, 101, 114]
def pM : aL := [115, 116, 114, 105, 110, 103]
def pL : aL := [101, 120, 105, 115, 116, 115]
def w4 : aL := [115, 105, 122, 101]
def lK (s : aL) (needs : List aL) (T : St → Res (Tree × St)) (st : St) : Option (Res (Tree × St)) :=
 let w := st.2.s
 if w = w5 then some (jY s true st)
 else if w = sQ then some (jY s false st)
 else if w = aC2 then some (notC s T st)
 else if w = sO then some (lT s T true st)
 else if w = sP then some (lT s T false st)
 else if w = lO then some (iS s needs 6 [] st)
 else if w = gA then some (iS s needs 7 gA st)
 else if w = pM then some (iS s needs 8 dH st)
 else if w = pL then some (lB s st)
 else if w = w4 then some (nR s st)
 else none
def test (s : aL) (needs : List aL) : Nat → St → Res (Tree × St)
 | 0, st => if st.2.kind = 1 then .error (5, st.2.at_) else .error (4, st.2.at_)
 | n + 1, st =>
  if st.2.kind = 1 then
   match lK s needs (test s needs n) st with
   | some r => r
   | none => .error (4, st.2.at_)
  else .error (4, st.2.at_)
def mW (s : aL) (B : St → Res (Tree × St)) (st : St) : Res (Tree × St) :=
 match sign s st [123] with
 | .error e => .error e
 | .ok q =>
  match B q with
  | .error e => .error e
  | .ok b =>
   match sign s b.2 [125] with
   | .error e => .error e
   | .ok r => .ok (b.1, r)
def nF : aL := [101, 108, 115, 105, 102]
def mU : aL := [101, 108, 115, 101]
def gT (s : aL) (B : St → Res (Tree × St)) (acc : Tree) (st : St) : Res (Tree × St) :=
 if st.2.kind = 1 ∧ st.2.s = mU then
  match next s st.1 with
  | .error e => .error e
  | .ok r =>
   match mW s B r with
   | .error e => .error e
   | .ok b => .ok (.iff (acc.snocB none b.1), b.2)
 else .ok (.iff acc, st)
def eQ (s : aL) (T B : St → Res (Tree × St)) : Nat → Tree → St → Res (Tree × St)
 | 0, _, _ => .error (0, 0)
 | f + 1, acc, st =>
  if st.2.kind = 1 ∧ st.2.s = nF then
   match next s st.1 with
   | .error e => .error e
   | .ok r =>
    match T r with
    | .error e => .error e
    | .ok t =>
     match mW s B t.2 with
     | .error e => .error e
     | .ok b => eQ s T B f (acc.snocB (some t.1) b.1) b.2
  else gT s B acc st
def ifC (s : aL) (T B : St → Res (Tree × St)) (st : St) : Res (Tree × St) :=
 match next s st.1 with
 | .error e => .error e
 | .ok r =>
  match T r with
  | .error e => .error e
  | .ok t =>
   match mW s B t.2 with
   | .error e => .error e
   | .ok b => eQ s T B (mu s b.2 + 1) (.bcons t.1 b.1 .bnil) b.2
def tL : aL := [107, 101, 101, 112]
def mD : aL := [100, 105, 115, 99, 97, 114, 100]
def tM : aL := [115, 116, 111, 112]
def gP : aL := [102, 105, 108, 101, 105, 110, 116, 111]
def oN : aL := [114, 101, 100, 105, 114, 101, 99, 116]
def eO : aL := [114, 101, 106, 101, 99, 116]
def aC3 : aL := [115, 101, 116]
def txIf : aL := [105, 102]
def sI (s : aL) (needs : List aL) (st : St) : Res (Tree × St) :=
 match setC s needs st with
 | .error e => .error e
 | .ok r => .ok (.set_ r.1.name r.1.value r.1.tag, r.2)
def cmdD (s : aL) (needs : List aL) (T B : St → Res (Tree × St)) (st : St) : Option (Res (Tree × St)) :=
 let w := st.2.s
 if w = tL then some (jB s (.act 1 [] st.2.at_) st)
 else if w = mD then some (jB s (.plain 13) st)
 else if w = tM then some (jB s (.plain 14) st)
 else if w = gP then some (actC s needs 2 gP st.2.at_ st)
 else if w = oN then some (actC s needs 3 [] st.2.at_ st)
 else if w = eO then some (actC s needs 4 eO st.2.at_ st)
 else if w = aC3 then some (sI s needs st)
 else if w = txIf then some (ifC s T B st)
 else none
def iG (s : aL) (C : St → Option (Res (Tree × St))) : Nat → Tree → St → Res (Tree × St)
 | 0, _, _ => .error (0, 0)
 | f + 1, acc, st =>
  if st.2.kind = 1 then
   match C st with
   | none => .error (4, st.2.at_)
   | some (.error e) => .error e
   | some (.ok c) => iG s C f (acc.snocC c.1) c.2
  else .ok (acc, st)
def block (s : aL) (needs : List aL) : Nat → St → Res (Tree × St)
 | 0, st => if st.2.kind = 1 then .error (5, st.2.at_) else .ok (.cnil, st)
 | n + 1, st => iG s (cmdD s needs (test s needs n) (block s needs n)) (mu s st + 1) .cnil st
end Go.Syn
end
section
namespace Go.Syn
open Go Go.SL
def u0 : Cell := ⟨.nilIface, rfl⟩
def Rep (K : Hl) : Tree → List (Cell × Cell) → Prop
 | .const b, us => us = [(⟨.iface 289 (.bool b), rfl⟩, u0)]
 | .not_ t, us => ∃ v, Rep K t [(v, u0)] ∧ us = [(⟨.iface 293 (.agg #[v.1]), rfl⟩, u0)]
 | .many all l, us => ∃ xs sv, Rep K l xs ∧ Ksl (eJ 288) K sv (xs.map (·.1)) ∧ us = [(⟨.iface 376 (.agg #[.bool all, sv]), rfl⟩, u0)]
 | .mat tag oct op a b, us => ∃ va vb, Ksl (bK 9) K va a ∧ Ksl (bK 9) K vb b ∧ us = [(⟨.iface 380 (.agg #[i64 tag, .bool oct, i64 op, va, vb]), rfl⟩, u0)]
 | .exi a, us => ∃ va, Ksl (bK 9) K va a ∧ us = [(⟨.iface 297 (.agg #[va]), rfl⟩, u0)]
 | .siz tag n, us => us = [(⟨.iface 300 (.agg #[i64 tag, i64 n]), rfl⟩, u0)]
 | .tnil, us => us = []
 | .tcons t l, us => ∃ v xs, Rep K t [(v, u0)] ∧ Rep K l xs ∧ us = (v, u0) :: xs
 | .plain op, us => us = [(⟨.iface 285 (.agg #[i64 op]), rfl⟩, u0)]
 | .act k a p, us => us = [(⟨.iface 282 (.agg #[i64 k, str a, i64 p]), rfl⟩, u0)]
 | .set_ n v t, us => us = [(⟨.iface 308 (.agg #[str n, str v, i64 t]), rfl⟩, u0)]
 | .iff bs, us => ∃ xs sv, Rep K bs xs ∧ Ksl (hG 371) K sv xs ∧ us = [(⟨.iface 311 (.agg #[sv]), rfl⟩, u0)]
 | .cnil, us => us = []
 | .ccons t l, us => ∃ v xs, Rep K t [(v, u0)] ∧ Rep K l xs ∧ us = (v, u0) :: xs
 | .bnil, us => us = []
 | .bcons t b l, us => ∃ v ys sv xs, Rep K t [(v, u0)] ∧ (∃ ty u, v.1 = .iface ty u) ∧ Rep K b ys ∧ Ksl (eJ 224) K sv.1 (ys.map (·.1)) ∧ Rep K l xs ∧ us = (v, sv) :: xs
 | .belse b l, us => ∃ ys sv xs, Rep K b ys ∧ Ksl (eJ 224) K sv.1 (ys.map (·.1)) ∧ Rep K l xs ∧ us = (⟨.nilIface, rfl⟩, sv) :: xs
theorem Rep.mono {K K' : Hl} (le : K.le K') : ∀ {t : Tree} {us : List (Cell × Cell)}, Rep K t us → Rep K' t us := by
 intro t;induction t with
 | const b => intro us h; exact h
 | not_ t ih => rintro us ⟨v, h, e⟩; exact ⟨v, ih h, e⟩
 | many all l ih => rintro us ⟨xs, sv, h1, h2, e⟩; exact ⟨xs, sv, ih h1, h2.mono le, e⟩
 | mat tag oct op a b => rintro us ⟨va, vb, h1, h2, e⟩; exact ⟨va, vb, h1.mono le, h2.mono le, e⟩
 | exi a => rintro us ⟨va, h1, e⟩; exact ⟨va, h1.mono le, e⟩
 | siz tag n => intro us h; exact h
 | tnil => intro us h; exact h
 | tcons t l ih1 ih2 => rintro us ⟨v, xs, h1, h2, e⟩; exact ⟨v, xs, ih1 h1, ih2 h2, e⟩
 | plain op => intro us h; exact h
 | act k a p => intro us h; exact h
 | set_ n v t => intro us h; exact h
 | iff bs ih => rintro us ⟨xs, sv, h1, h2, e⟩; exact ⟨xs, sv, ih h1, h2.mono le, e⟩
 | cnil => intro us h; exact h
 | ccons t l ih1 ih2 => rintro us ⟨v, xs, h1, h2, e⟩; exact ⟨v, xs, ih1 h1, ih2 h2, e⟩
 | bnil => intro us h; exact h
 | bcons t b l ih1 ih2 ih3 => rintro us ⟨v, ys, sv, xs, h1, h2, h3, h4, h5, e⟩; exact ⟨v, ys, sv, xs, ih1 h1, h2, ih2 h3, h4.mono le, ih3 h5, e⟩
 | belse b l ih1 ih2 => rintro us ⟨ys, sv, xs, h1, h2, h3, e⟩; exact ⟨ys, sv, xs, ih1 h1, h2.mono le, ih2 h3, e⟩
def Rep1 (K : Hl) (t : Tree) (v : Value) : Prop := ∃ ty u, v = .iface ty u ∧ Rep K t [(⟨.iface ty u, rfl⟩, u0)]
theorem Rep1.mono {K K' : Hl} {t : Tree} {v : Value} (h : Rep1 K t v) (le : K.le K') : Rep1 K' t v := let ⟨a, b, e, r⟩ := h; ⟨a, b, e, r.mono le⟩
def isTL : Tree → Bool
 | .tnil => true
 | .tcons _ l => isTL l
 | _ => false
def isCL : Tree → Bool
 | .cnil => true
 | .ccons _ l => isCL l
 | _ => false
def isBL : Tree → Bool
 | .bnil => true
 | .bcons _ _ l => isBL l
 | .belse _ l => isBL l
 | _ => false
theorem aHN {K : Hl} {t : Tree} {v : Cell} (ht : Rep K t [(v, u0)]) : ∀ {l : Tree} {us : List (Cell × Cell)}, isTL l = true → Rep K l us → Rep K (l.snocT t) (us ++ [(v, u0)]) ∧ isTL (l.snocT t) = true := by
 intro l;induction l with
 | tnil => intro us _ h; cases (show us = [] from h); exact ⟨⟨v, [], ht, rfl, rfl⟩, rfl⟩
 | tcons x l ih1 ih2 =>
  rintro us hl ⟨w, xs, h1, h2, rfl⟩;obtain ⟨h3, h4⟩ := ih2 hl h2;exact ⟨⟨w, _, h1, h3, rfl⟩, h4⟩
 | _ => intro us hl; cases hl
theorem aHM {K : Hl} {t : Tree} {v : Cell} (ht : Rep K t [(v, u0)]) : ∀ {l : Tree} {us : List (Cell × Cell)}, isCL l = true → Rep K l us → Rep K (l.snocC t) (us ++ [(v, u0)]) ∧ isCL (l.snocC t) = true := by
 intro l;induction l with
 | cnil => intro us _ h; cases (show us = [] from h); exact ⟨⟨v, [], ht, rfl, rfl⟩, rfl⟩
 | ccons x l ih1 ih2 =>
  rintro us hl ⟨w, xs, h1, h2, rfl⟩;obtain ⟨h3, h4⟩ := ih2 hl h2;exact ⟨⟨w, _, h1, h3, rfl⟩, h4⟩
 | _ => intro us hl; cases hl
def RepO (K : Hl) : Option Tree → Cell → Prop
 | none, v => v = ⟨.nilIface, rfl⟩
 | some t, v => Rep K t [(v, u0)] ∧ ∃ ty u, v.1 = .iface ty u
theorem aM8 {K : Hl} {o : Option Tree} {b l : Tree} {v sv : Cell} {ys xs : List (Cell × Cell)} (ho : RepO K o v) (hb : Rep K b ys) (hs : Ksl (eJ 224) K sv.1 (ys.map (·.1))) (hl : Rep K l xs) : Rep K (mkB o b l) ((v, sv) :: xs) := by
 cases o with
 | none => cases (show v = _ from ho); exact ⟨ys, sv, xs, hb, hs, hl, rfl⟩
 | some t => exact ⟨v, ys, sv, xs, ho.1, ho.2, hb, hs, hl, rfl⟩
theorem kV {K : Hl} {o : Option Tree} {b : Tree} {v sv : Cell} {ys : List (Cell × Cell)} (ho : RepO K o v) (hb : Rep K b ys) (hs : Ksl (eJ 224) K sv.1 (ys.map (·.1))) :
  ∀ {l : Tree} {us : List (Cell × Cell)}, isBL l = true → Rep K l us → Rep K (l.snocB o b) (us ++ [(v, sv)]) ∧ isBL (l.snocB o b) = true := by
 intro l;induction l with
 | bnil => intro us _ h; cases (show us = [] from h); exact ⟨aM8 ho hb hs rfl, by cases o <;> rfl⟩
 | bcons x y l ih1 ih2 ih3 =>
  rintro us hl ⟨w, zs, tv, xs, h1, h2, h3, h4, h5, rfl⟩;obtain ⟨h6, h7⟩ := ih3 hl h5;exact ⟨⟨w, zs, tv, _, h1, h2, h3, h4, h6, rfl⟩, h7⟩
 | belse y l ih1 ih2 =>
  rintro us hl ⟨zs, tv, xs, h1, h2, h3, rfl⟩;obtain ⟨h6, h7⟩ := ih2 hl h3;exact ⟨⟨zs, tv, _, h1, h2, h6, rfl⟩, h7⟩
 | _ => intro us hl; cases hl
theorem tB {K : Hl} {t : Tree} {c d : Cell} (hw : wf t 0 = true ∨ wf t 2 = true) (h : Rep K t [(c, d)]) : ∃ ty u, c.1 = .iface ty u := by
 cases t <;> simp only [wf, Rep] at h hw
 case const b => cases h; exact ⟨_, _, rfl⟩
 case not_ t => obtain ⟨v, _, h⟩ := h; cases h; exact ⟨_, _, rfl⟩
 case many all l => obtain ⟨xs, sv, _, _, h⟩ := h; cases h; exact ⟨_, _, rfl⟩
 case mat tag oct op a b => obtain ⟨va, vb, _, _, h⟩ := h; cases h; exact ⟨_, _, rfl⟩
 case exi a => obtain ⟨va, _, h⟩ := h; cases h; exact ⟨_, _, rfl⟩
 case siz tag n => cases h; exact ⟨_, _, rfl⟩
 case plain op => cases h; exact ⟨_, _, rfl⟩
 case act k a p => cases h; exact ⟨_, _, rfl⟩
 case set_ n v t => cases h; exact ⟨_, _, rfl⟩
 case iff bs => obtain ⟨xs, sv, _, _, h⟩ := h; cases h; exact ⟨_, _, rfl⟩
 all_goals simp at hw
end Go.Syn
end
section
namespace Go.Cmp
open Go.Syn Go.Mach
def jmp (op : Int) : Ins := ⟨op, 0, 0, false, [], [], 0⟩
def setN (ops : List Ins) (k : Nat) (n : Int) : List Ins := ops.modify k fun o => { o with n := n }
def land (ops : List Ins) (ps : List Nat) : List Ins := ps.foldl (fun o k => setN o k ((ops.length : Int) - 1 - k)) ops
def f7 : Tree → Bool
 | .tcons _ _ => false
 | .bcons _ _ _ => false
 | .belse _ _ => false
 | _ => true
mutual
def unl : Tree → Bool → List Ins → List Ins × List Nat
 | .not_ t, tn, ops => unl t (!tn) ops
 | .const b, tn, ops => if b = tn then (ops ++ [jmp 3], [ops.length]) else (ops, [])
 | .many all l, tn, ops => (land (unlL all tn l ops [] []).1 (unlL all tn l ops [] []).2.2, (unlL all tn l ops [] []).2.1)
 | .mat tag oct op a b, tn, ops => (ops ++ [⟨op, 0, tag, oct, a, b, 0⟩, jmp (if tn = true then 4 else 5)], [ops.length + 1])
 | .exi a, tn, ops => (ops ++ [⟨9, 0, 0, false, a, [], 0⟩, jmp (if tn = true then 4 else 5)], [ops.length + 1])
 | .siz tag n, tn, ops => (ops ++ [⟨10, n, tag, false, [], [], 0⟩, jmp (if tn = true then 4 else 5)], [ops.length + 1])
 | _, _, ops => (ops, [])
def unlL (all tn : Bool) : Tree → List Ins → List Nat → List Nat → List Ins × List Nat × List Nat
 | .tcons t l, ops, away, here =>
  if all = tn ∧ f7 l = false then unlL all tn l (unl t (!tn) ops).1 away (here ++ (unl t (!tn) ops).2)
  else unlL all tn l (unl t tn ops).1 (away ++ (unl t tn ops).2) here
 | _, ops, away, here => (ops, away, here)
end
mutual
def body : Tree → List Ins → List Ins
 | .ccons c l, ops => body l (cmdI c ops)
 | _, ops => ops
def cmdI : Tree → List Ins → List Ins
 | .plain op, ops => ops ++ [jmp op]
 | .act k a p, ops => ops ++ [⟨11, 0, k, false, if k = 1 then [] else [a], [], p⟩]
 | .set_ n v t, ops => ops ++ [⟨12, 0, t, false, [n], [v], 0⟩]
 | .iff bs, ops => cW bs ops []
 | _, ops => ops
def cW : Tree → List Ins → List Nat → List Ins
 | .belse b l, ops, out => land (body b ops) out
 | .bcons t b l, ops, out =>
  if f7 l = true then cW l (land (body b (unl t false ops).1) (unl t false ops).2) out
  else cW l (land (body b (unl t false ops).1 ++ [jmp 3]) (unl t false ops).2) (out ++ [(body b (unl t false ops).1).length])
 | _, ops, out => land ops out
end
def script (t : Tree) : List Ins := body t []
theorem aCL (ops : List Ins) (k : Nat) (n : Int) : (setN ops k n).length = ops.length := by simp [setN]
theorem z7 (n : Int) : ∀ (ps : List Nat) (o : List Ins), (ps.foldl (fun o k => setN o k (n - 1 - k)) o).length = o.length := by
 intro ps;induction ps with
 | nil => intro o; rfl
 | cons k ps ih => intro o; rw [List.foldl_cons, ih, aCL]
theorem fX (ops : List Ins) (ps : List Nat) : (land ops ps).length = ops.length := z7 _ ps ops
def cnt : Tree → Nat
 | .const _ => 1
 | .not_ t => cnt t + 1
 | .many _ l => cnt l + 1
 | .mat _ _ _ _ _ => 1
 | .exi _ => 1
 | .siz _ _ => 1
 | .tnil => 0
 | .tcons t l => cnt t + cnt l
 | .plain _ => 1
 | .act _ _ _ => 1
 | .set_ _ _ _ => 1
 | .iff bs => cnt bs + 1
 | .cnil => 0
 | .ccons c l => cnt c + cnt l
 | .bnil => 0
 | .bcons t b l => cnt t + cnt b + cnt l + 1
 | .belse b l => cnt b + cnt l + 1
theorem uP : ∀ (t : Tree), (∀ tn ops, ops.length ≤ (unl t tn ops).1.length ∧ (unl t tn ops).1.length ≤ ops.length + 2 * cnt t ∧ (unl t tn ops).2.length ≤ cnt t ∧ ∀ k ∈ (unl t tn ops).2, k < (unl t tn ops).1.length) ∧
  (∀ all tn ops away here, (∀ k ∈ away, k < ops.length) → (∀ k ∈ here, k < ops.length) → ops.length ≤ (unlL all tn t ops away here).1.length ∧ (unlL all tn t ops away here).1.length ≤ ops.length + 2 * cnt t ∧ (unlL all tn t ops away here).2.1.length ≤ away.length + cnt t ∧ (unlL all tn t ops away here).2.2.length ≤ here.length + cnt t ∧ (∀ k ∈ (unlL all tn t ops away here).2.1, k < (unlL all tn t ops away here).1.length) ∧ (∀ k ∈ (unlL all tn t ops away here).2.2, k < (unlL all tn t ops away here).1.length)) := by
 intro t;induction t with
 | const b =>
  refine ⟨fun tn ops => ?_, fun all tn ops away here h1 h2 => ?_⟩
  ·simp only [unl, cnt]; split <;> simp
  ·simp only [unlL]; exact ⟨Nat.le_refl _, by simp, by simp, by simp, h1, h2⟩
 | not_ t ih =>
  refine ⟨fun tn ops => ?_, fun all tn ops away here h1 h2 => ?_⟩
  ·have := ih.1 (!tn) ops;simp only [unl, cnt]; exact ⟨this.1, by omega, by omega, this.2.2.2⟩
  ·simp only [unlL]; exact ⟨Nat.le_refl _, by simp, by simp, by simp, h1, h2⟩
 | many all l ih =>
  refine ⟨fun tn ops => ?_, fun all tn ops away here h1 h2 => ?_⟩
  ·have := ih.2 all tn ops [] [] (by simp) (by simp);simp only [unl, cnt, fX]; simp only [List.length_nil] at this; exact ⟨this.1, by omega, by omega, this.2.2.2.2.1⟩
  ·simp only [unlL]; exact ⟨Nat.le_refl _, by simp, by simp, by simp, h1, h2⟩
 | mat tag oct op a b =>
  refine ⟨fun tn ops => ?_, fun all tn ops away here h1 h2 => ?_⟩
  ·simp [unl, cnt]
  ·simp only [unlL]; exact ⟨Nat.le_refl _, by simp, by simp, by simp, h1, h2⟩
 | exi a =>
  refine ⟨fun tn ops => ?_, fun all tn ops away here h1 h2 => ?_⟩
  ·simp [unl, cnt]
  ·simp only [unlL]; exact ⟨Nat.le_refl _, by simp, by simp, by simp, h1, h2⟩
 | siz tag n =>
  refine ⟨fun tn ops => ?_, fun all tn ops away here h1 h2 => ?_⟩
  ·simp [unl, cnt]
  ·simp only [unlL]; exact ⟨Nat.le_refl _, by simp, by simp, by simp, h1, h2⟩
 | tcons t l ih1 ih2 =>
  refine ⟨fun tn ops => ?_, fun all tn ops away here h1 h2 => ?_⟩
  ·simp [unl]
  ·simp only [unlL, cnt];split
   ·have h3 := ih1.1 (!tn) ops;have h4 := ih2.2 all tn (unl t (!tn) ops).1 away (here ++ (unl t (!tn) ops).2) (fun k hk => by have := h1 k hk; omega) (fun k hk => by
     rcases List.mem_append.1 hk with h | h
     ·have := h2 k h; omega
     ·exact h3.2.2.2 k h)
    simp only [List.length_append] at h4;exact ⟨by omega, by omega, by omega, by omega, h4.2.2.2.2.1, h4.2.2.2.2.2⟩
   ·have h3 := ih1.1 tn ops;have h4 := ih2.2 all tn (unl t tn ops).1 (away ++ (unl t tn ops).2) here (fun k hk => by
     rcases List.mem_append.1 hk with h | h
     ·have := h1 k h; omega
     ·exact h3.2.2.2 k h) (fun k hk => by have := h2 k hk; omega)
    simp only [List.length_append] at h4;exact ⟨by omega, by omega, by omega, by omega, h4.2.2.2.2.1, h4.2.2.2.2.2⟩
 | _ =>
  refine ⟨fun tn ops => ?_, fun all tn ops away here h1 h2 => ?_⟩
  ·simp [unl]
  ·simp only [unlL]; exact ⟨Nat.le_refl _, by simp, by simp, by simp, h1, h2⟩
theorem rU : ∀ (t : Tree), (∀ ops, ops.length ≤ (body t ops).length ∧ (body t ops).length ≤ ops.length + 2 * cnt t) ∧ (∀ ops, ops.length ≤ (cmdI t ops).length ∧ (cmdI t ops).length ≤ ops.length + 2 * cnt t) ∧ (∀ ops out, ops.length ≤ (cW t ops out).length ∧ (cW t ops out).length ≤ ops.length + 2 * cnt t) := by
 intro t;induction t with
 | plain op => exact ⟨fun ops => by simp [body], fun ops => by simp [cmdI, cnt], fun ops out => by simp [cW, fX]⟩
 | act k a p => exact ⟨fun ops => by simp [body], fun ops => by simp [cmdI, cnt], fun ops out => by simp [cW, fX]⟩
 | set_ n v t => exact ⟨fun ops => by simp [body], fun ops => by simp [cmdI, cnt], fun ops out => by simp [cW, fX]⟩
 | iff bs ih => exact ⟨fun ops => by simp [body], fun ops => by have := ih.2.2 ops []; simp only [cmdI, cnt]; omega, fun ops out => by simp [cW, fX]⟩
 | ccons c l ih1 ih2 =>
  refine ⟨fun ops => ?_, fun ops => by simp [cmdI], fun ops out => by simp [cW, fX]⟩
  have h1 := ih1.2.1 ops;have h2 := ih2.1 (cmdI c ops);simp only [body, cnt]; omega
 | belse b l ih1 ih2 =>
  refine ⟨fun ops => by simp [body], fun ops => by simp [cmdI], fun ops out => ?_⟩
  have h1 := ih1.1 ops;simp only [cW, cnt, fX]; omega
 | bcons t b l ih1 ih2 ih3 =>
  refine ⟨fun ops => by simp [body], fun ops => by simp [cmdI], fun ops out => ?_⟩
  have h0 := (uP t).1 false ops;have h1 := ih2.1 (unl t false ops).1;simp only [cW, cnt];split
  ·have h2 := ih3.2.2 (land (body b (unl t false ops).1) (unl t false ops).2) out;rw [fX] at h2; omega
  ·have h2 := ih3.2.2 (land (body b (unl t false ops).1 ++ [jmp 3]) (unl t false ops).2) (out ++ [(body b (unl t false ops).1).length]);rw [fX] at h2; simp only [List.length_append, List.length_singleton] at h2; omega
 | _ => exact ⟨fun ops => by simp [body], fun ops => by simp [cmdI], fun ops out => by simp [cW, fX]⟩
end Go.Cmp
end
section
namespace Go.Cmp
open Go Go.SL Go.Syn Go.Mach
structure InsV where
 op : Int
 n : Int
 tag : Int
 oct : Bool
 a : Cell
 b : Cell
 at_ : Int
def nilC : Cell := ⟨.slice none 0 0, rfl⟩
def f5 : El InsV := { e := 41, sz := 7, enc := fun v => [i64 v.op, i64 v.n, i64 v.tag, .bool v.oct, v.a.1, v.b.1, i64 v.at_], len := fun _ => rfl, one := fun v u h => by simp at h; rcases h with rfl | rfl | rfl | rfl | rfl | rfl | rfl; rfl; rfl; rfl; rfl; exact v.a.2; exact v.b.2; rfl }
def iM (e : TypeId) : El Nat := { e := e, sz := 1, enc := fun n => [i64 n], len := fun _ => rfl, one := fun _ u h => by simp at h; subst h; rfl }
def RIns (K : Hl) (v : InsV) (o : Ins) : Prop := v.op = o.op ∧ v.n = o.n ∧ v.tag = o.tag ∧ v.oct = o.oct ∧ v.at_ = o.at_ ∧ Ksl (bK 9) K v.a.1 o.a ∧ Ksl (bK 9) K v.b.1 o.b
def RIs (K : Hl) : List InsV → List Ins → Prop
 | [], [] => True
 | v :: vs, o :: os => RIns K v o ∧ RIs K vs os
 | _, _ => False
theorem RIns.mono {K K' : Hl} {v : InsV} {o : Ins} (h : RIns K v o) (le : K.le K') : RIns K' v o := ⟨h.1, h.2.1, h.2.2.1, h.2.2.2.1, h.2.2.2.2.1, h.2.2.2.2.2.1.mono le, h.2.2.2.2.2.2.mono le⟩
theorem RIs.mono {K K' : Hl} (le : K.le K') : ∀ {vs : List InsV} {os : List Ins}, RIs K vs os → RIs K' vs os
 | [], [], _ => trivial
 | _ :: _, _ :: _, h => ⟨h.1.mono le, RIs.mono le h.2⟩
theorem RIs.length {K : Hl} : ∀ {vs : List InsV} {os : List Ins}, RIs K vs os → vs.length = os.length
 | [], [], _ => rfl
 | _ :: _, _ :: _, h => by simp [RIs.length h.2]
theorem RIs.append {K : Hl} {ws : List InsV} {ps : List Ins} (h2 : RIs K ws ps) : ∀ {vs : List InsV} {os : List Ins}, RIs K vs os → RIs K (vs ++ ws) (os ++ ps)
 | [], [], _ => h2
 | _ :: _, _ :: _, h => ⟨h.1, RIs.append h2 h.2⟩
theorem RIs.get {K : Hl} : ∀ {vs : List InsV} {os : List Ins} {i : Nat} {v : InsV}, RIs K vs os → vs[i]? = some v → ∃ o, os[i]? = some o ∧ RIns K v o
 | _ :: _, o :: _, 0, _, h, e => by simp at e; subst e; exact ⟨o, rfl, h.1⟩
 | _ :: _, _ :: _, i + 1, _, h, e => by simpa using RIs.get h.2 (by simpa using e)
def lU (vs : List InsV) (k : Nat) (n : Int) : List InsV := vs.modify k fun o => { o with n := n }
def sC (vs : List InsV) (ps : List Nat) : List InsV := ps.foldl (fun o k => lU o k ((vs.length : Int) - 1 - k)) vs
theorem RIs.setN {K : Hl} {n : Int} : ∀ {vs : List InsV} {os : List Ins} {k : Nat}, RIs K vs os → RIs K (lU vs k n) (Cmp.setN os k n)
 | [], [], k, _ => by
  have e1 : lU [] k n = [] := List.eq_nil_of_length_eq_zero (by simp [lU]);have e2 : Cmp.setN [] k n = [] := List.eq_nil_of_length_eq_zero (by simp [Cmp.setN]);rw [e1, e2]; trivial
 | v :: vs, o :: os, 0, h => ⟨⟨h.1.1, rfl, h.1.2.2.1, h.1.2.2.2.1, h.1.2.2.2.2.1, h.1.2.2.2.2.2.1, h.1.2.2.2.2.2.2⟩, h.2⟩
 | v :: vs, o :: os, k + 1, h => ⟨h.1, RIs.setN (k := k) h.2⟩
theorem RIs.land {K : Hl} {vs : List InsV} {os : List Ins} {ps : List Nat} (h : RIs K vs os) : RIs K (sC vs ps) (Cmp.land os ps) := by
 unfold sC Cmp.land;rw [← h.length]
 generalize ((vs.length : Nat) : Int) = m
 revert vs os
 induction ps with
 | nil => intro vs os h; exact h
 | cons k ps ih => intro vs os h; exact ih h.setN
theorem aAI (vs : List InsV) (k : Nat) (n : Int) : (lU vs k n).length = vs.length := by simp [lU]
theorem aD1 {vs : List InsV} {ps : List Nat} {i p : Nat} {m : Int} (h : ps[i]? = some p) : (ps.take (i + 1)).foldl (fun o k => lU o k (m - 1 - k)) vs = lU ((ps.take i).foldl (fun o k => lU o k (m - 1 - k)) vs) p (m - 1 - p) := by
 have hi : i < ps.length := by
  rcases Nat.lt_or_ge i ps.length with h' | h'
  ·exact h'
  ·simp [List.getElem?_eq_none h'] at h
 have hc : ps[i] = p := by simpa [List.getElem?_eq_getElem hi] using h
 rw [List.take_succ_eq_append_getElem hi, hc];simp
theorem r9 (m : Int) : ∀ (ps : List Nat) (o : List InsV), (ps.foldl (fun o k => lU o k (m - 1 - k)) o).length = o.length := by
 intro ps;induction ps with
 | nil => intro o; rfl
 | cons k ps ih => intro o; rw [List.foldl_cons, ih, aAI]
theorem gH (vs : List InsV) (ps : List Nat) : (sC vs ps).length = vs.length := r9 _ ps vs
theorem aH2 {vs : List InsV} {k : Nat} {n : Int} {v : InsV} (h : vs[k]? = some v) : lU vs k n = vs.set k { v with n := n } := by
 unfold lU;have hi : k < vs.length := by
  rcases Nat.lt_or_ge k vs.length with h' | h'
  ·exact h'
  ·simp [List.getElem?_eq_none h'] at h
 have hc : vs[k] = v := by simpa [List.getElem?_eq_getElem hi] using h
 apply List.ext_getElem (by simp)
 intro i h1 h2;rw [List.getElem_modify, List.getElem_set];split
 ·rename_i e; subst e; rw [hc]
 ·rfl
def cdr (b : Nat) (vs : List InsV) : Asn := exA fun cv => [pt b (aU [cv] 217), sl false f5 cv vs]
theorem aAG {b : Nat} {vs : List InsV} {cv : Value} {M : List Asn} : ∀ h, Sat (pt b (aU [cv] 217) :: sl false f5 cv vs :: M) h → Sat (cdr b vs :: M) h := fun h hh => p9.2 ⟨cv, hh⟩
end Go.Cmp
end
section
namespace Go.Mach
open Go Go.SL Go.Syn
def gM : List (aL × aL) → (Nat → Nat) → List Ent
 | [], _ => []
 | (k, v) :: r, f => (k, .agg #[str v], f 0) :: gM r (fun n => f (n + 1))
theorem aIV (k : aL) : ∀ (vars : List (aL × aL)) (f : Nat → Nat), (mget (gM vars f) k).getD (.agg #[str []]) = .agg #[str (vget vars k)] := by
 intro vars;induction vars with
 | nil => intro f; rfl
 | cons p r ih =>
  obtain ⟨j, v⟩ := p;intro f;unfold gM vget mget;rw [List.find?_cons]
  by_cases h : k = j
  ·subst h; simp
  ·rw [if_neg (fun e => h e.symm), decide_eq_false h];exact ih _
theorem aIW (k v : aL) (c : Nat) : ∀ (vars : List (aL × aL)) (f : Nat → Nat), ∃ f', mset k (.agg #[str v]) c (gM vars f) = gM (vput vars k v) f' := by
 intro vars;induction vars with
 | nil => intro f; exact ⟨fun _ => c, rfl⟩
 | cons p r ih =>
  obtain ⟨j, u⟩ := p;intro f;unfold gM vput mset
  by_cases h : k = j
  ·subst h; rw [if_pos rfl, if_pos rfl]; exact ⟨f, rfl⟩
  ·rw [if_neg h, if_neg (fun e => h e.symm)];obtain ⟨f', hf⟩ := ih (fun n => f (n + 1));refine ⟨fun n => match n with | 0 => f 0 | n + 1 => f' n, ?_⟩
   rw [hf]
theorem zY (s : aL) (c : UInt8) : -1 ≤ Lib.indexByte s c ∧ Lib.indexByte s c < s.length := by
 refine ⟨Lib.indexByte_ge s c, ?_⟩
 by_cases h : Lib.indexByte s c < 0
 ·omega
 ·have e : Lib.indexByte s c = ((Lib.indexByte s c).toNat : Nat) := by omega
  obtain ⟨h1, _⟩ := Lib.indexByte_some e;rcases Nat.lt_or_ge (Lib.indexByte s c).toNat s.length with h' | h'
  ·omega
  ·rw [List.getElem?_eq_none h'] at h1; cases h1
end Go.Mach
end
section
namespace Go.Proofs
open Go Go.SL Go.Syn
theorem pC (v : Value) (x : List UInt8) (xs : List (List UInt8)) (K : Hl) (L : List Asn) (hv : SeesSl (bK 9) K L v xs) (hn : xs.length ≤ 1000000) :
  Sp Tryz.prog 195 [v, str x] K L (Ret fun u K' L' => u = i64 (cN xs x) ∧ K' = K ∧ L' = L) := by
 refine bB Tryz.func195 rfl Tryz.ntmps195 rfl rfl fun F w => ?_
 refine aI (aB ?_);refine aA (aF rfl) rfl ?_;refine aG (aE ?_);refine aI (aI ?_);refine aB ?_;refine aA (aC rfl) rfl ?_;refine aA (cE (k := bK 9) rfl Tryz.underlying39 rfl hv) rfl ?_;refine aA (aC rfl) rfl ?_;refine aG (aE ?_);refine bF ?_;refine eK (fun (i : Nat) => i ≤ xs.length ∧ ∀ j : Nat, j < i → xs[j]? ≠ some x) (fun i => [(0, v), (1, str x), (7, i64 xs.length), (8, i64 i)]) (fun _ => K) (fun _ => L) (fun i => xs.length - i) 0 ⟨Nat.zero_le _, fun j h => by omega⟩ (.cons 0 rfl (.cons 1 rfl (.cons 7 rfl (.cons 8 rfl .nil)))) rfl (fun _ h => h) ?_;intro i ⟨hi1, hi2⟩;refine aI (aB ?_);refine aA (dA rfl rfl) rfl ?_;refine aG (aE ?_);refine aI ?_;refine bE 9 rfl (fun h9 => ?_) (fun h9 => ?_)
 ·
  obtain ⟨y, hy⟩ : ∃ y, xs[i]? = some y := ⟨xs[i]'(by omega), List.getElem?_eq_getElem aH⟩;have hlen : i < xs.length := by omega
  refine a6 ?_;refine aE (aI ?_);refine bF (aI ?_);refine aB ?_;refine aA (aC rfl) rfl ?_;refine aA (aF rfl) rfl ?_;refine aG (aE ?_);refine aI (aB ?_);refine aA (aC rfl) rfl ?_;refine aA (aC rfl) rfl ?_;refine aA (aC rfl) rfl ?_;refine aA (b0 (k := bK 9) cT rfl hv rfl rfl hlen) rfl ?_;refine aA (dO (o := 0) (k := bK 9) ts9 rfl hv hy rfl) rfl ?_;refine aA (jF rfl rfl) rfl ?_;refine aG (aE ?_);refine bE 16 rfl (fun h16 => ?_) (fun h16 => ?_)
  ·
   refine aI (aB ?_);refine aA (aC rfl) rfl ?_;refine aA (aF rfl) rfl ?_;refine aG (aE ?_);refine bM ?_;refine bQ ?_;refine bC ?_;refine bC ?_;refine bQ ?_;refine bC ?_;refine bJ rfl rfl (Hl.le_refl _) ?_;exact ⟨_, rfl, by rw [aHQ hi2 (h16 ▸ hy)], rfl, rfl⟩
  ·
   refine a6 ?_;refine aN (aE ?_);refine aB ?_;refine aA (bZ rfl rfl aH aH) rfl ?_;refine aA (aC rfl) rfl ?_;refine aG ?_;refine cL (i + 1) ⟨by omega, ?_⟩ aH (.cons 0 rfl (.cons 1 rfl (.cons 7 rfl (.cons 8 rfl .nil)))) rfl (fun _ h => h)
   intro j hj e
   by_cases hji : j = i
   ·subst hji; rw [hy] at e; exact h16 (Option.some.inj e).symm
   ·exact hi2 j aH e
 ·
  refine cY ?_;refine aV ?_;refine aV ?_;refine bL ?_;refine aE (aI ?_);refine aB ?_;refine aA (aF rfl) rfl ?_;refine aG (aE ?_);refine bM ?_;refine bJ rfl rfl (Hl.le_refl _) ?_;exact ⟨_, rfl, by rw [aHT (fun j hj => hi2 j aH)], rfl, rfl⟩
theorem kB (v : Value) (x : List UInt8) (xs : List (List UInt8)) (K : Hl) (L : List Asn) (hv : SeesSl (bK 9) K L v xs) (hn : xs.length ≤ 1000000) :
  Sp Tryz.prog 108 [v, str x] K L (Ret fun u K' L' => u = .bool (decide (x ∈ xs)) ∧ K' = K ∧ L' = L) := by
 refine bB Tryz.func108 rfl Tryz.ntmps108 rfl rfl fun F w => ?_
 refine aI (aB ?_);refine aA (aF rfl) rfl ?_;refine aG (aE ?_);refine aI (aB ?_);refine aA (aC rfl) rfl ?_;refine aA (aC rfl) rfl ?_;refine bD rfl rfl (pC v x xs _ _ hv hn) (cS _) rfl ?_;rintro _ K _ ⟨rfl, rfl, rfl⟩ -;refine aA (gU rfl rfl) rfl ?_;refine aA (aF rfl) rfl ?_;refine aG (aE ?_);refine bM ?_;rw [List.append_nil];refine bJ rfl rfl (Hl.le_refl _) ?_;exact ⟨_, rfl, by rw [decide_eq_decide.2 (aEC xs x)], rfl, rfl⟩
abbrev psb (b : Nat) (s : List UInt8) (st : St) (rest : List Value) : Asn := lxw b 208 s st.1 st.2 rest
theorem aBR (b : Nat) (x : List UInt8) (xs : List (List UInt8)) (l : List Value) (T : TypeId) (nv : Value) (K : Hl) (L : List Asn) (hb : Sees K L b (aU l T)) (hl : l[6]? = some nv) (hv : SeesSl (bK 9) K L nv xs) (hn : xs.length ≤ 1000000) :
  Sp Tryz.prog 59 [ptr b 6, str x] K L (Ret fun u K' L' => u = .bool (decide (x ∈ xs)) ∧ K' = K ∧ L' = L) := by
 refine bB Tryz.func59 rfl Tryz.ntmps59 rfl rfl fun F w => ?_
 refine aI (aB ?_);refine aA (aF rfl) rfl ?_;refine aG (aE ?_);refine aI (aB ?_);refine aA (aC rfl) rfl ?_;refine aA bS rfl ?_;refine aA (aD (o' := 6) qE rfl rfl) rfl ?_;refine aA (aK ts39 rfl hb hl) rfl ?_;refine aA (aC rfl) rfl ?_;refine bD rfl rfl (kB nv x xs _ _ hv hn) (cS _) rfl ?_;rintro _ K _ ⟨rfl, rfl, rfl⟩ -;refine aA (aF rfl) rfl ?_;refine aG (aE ?_);refine bM ?_;rw [List.append_nil];refine bJ rfl rfl (Hl.le_refl _) ?_;exact ⟨_, rfl, rfl, rfl, rfl⟩
theorem gJ (b : Nat) (s : List UInt8) (st : St) (rest : List Value) (K : Hl) :
  Sp Tryz.prog 106 [ptr b] K [psb b s st rest] (Flt 4 st.2.at_) := by
 refine bB Tryz.func106 rfl Tryz.ntmps106 rfl rfl fun F w => ?_
 refine aB ?_;refine aA (aC rfl) rfl ?_;refine aA bS rfl ?_;refine aA (aD (o' := 0) bV rfl rfl) rfl ?_;refine aA (aD (o' := 2) cD rfl rfl) rfl ?_;refine aA (aD (o' := 5) fK rfl rfl) rfl ?_;refine aA (aK ts3 rfl aM rfl) rfl ?_;refine aW rfl rfl (dY 4 st.2.at_ _) .nil rfl (by rintro _ _ ⟨_, h, _⟩; cases h) ?_ ?_
 ·
  rintro _ _ _ ⟨fb, h, rfl⟩ le1;cases h
  refine aO (.cons .here .nil) ?_;refine bA bP ?_;exact ⟨fb, rfl, rfl⟩
 ·
  rintro _ _ _ ⟨_, h, _⟩; cases h
theorem rJ (b : Nat) (s : List UInt8) (st : St) (nv : Value) (rest : List Value) (needs : List (List UInt8)) (x : List UInt8) (K : Hl) (hv : Ksl (bK 9) K nv needs) (hn : needs.length ≤ 1000000) :
  Sp Tryz.prog 261 [ptr b, str x] K [psb b s st (nv :: rest)] (fE (if x ∈ needs then .ok () else .error (6, st.2.at_)) fun _ v K' L' => v = .tuple #[] ∧ K' = K ∧ L' = [psb b s st (nv :: rest)]) := by
 refine bB Tryz.func261 rfl Tryz.ntmps261 rfl rfl fun F w => ?_
 refine aI (aB ?_);refine aA (aC rfl) rfl ?_;refine aA bS rfl ?_;refine aA (aD (o' := 6) jW rfl rfl) rfl ?_;refine aA (aC rfl) rfl ?_;refine bD rfl rfl (aBR b x needs _ _ nv _ _ (.own .here) rfl (.known hv) hn) (.cons .here .nil) rfl ?_;rintro _ K _ ⟨rfl, rfl, rfl⟩ -;refine aA (by first | exact dM rfl | exact dU rfl) rfl ?_;refine aG (aE ?_);refine bE 9 rfl (fun h9 => ?_) (fun h9 => ?_)
 ·
  refine aB ?_;refine aA (aC rfl) rfl ?_;refine aA bS rfl ?_;refine aA (aD (o' := 0) bV rfl rfl) rfl ?_;refine aA (aD (o' := 2) cD rfl rfl) rfl ?_;refine aA (aD (o' := 5) fK rfl rfl) rfl ?_;refine aA (aK ts3 rfl aM rfl) rfl ?_;refine aW rfl rfl (dY 6 st.2.at_ _) .nil rfl (by rintro _ _ ⟨_, h, _⟩; cases h) ?_ ?_
  ·
   rintro _ _ _ ⟨fb, h, rfl⟩ le1;cases h
   refine aO (.cons .here .nil) ?_;refine bA bP ?_;rw [if_neg h9];exact ⟨fb, rfl, rfl⟩
  ·
   rintro _ _ _ ⟨_, h, _⟩; cases h
 ·
  refine a6 ?_;refine dE rfl (Hl.le_refl _) ?_;rw [if_pos (Classical.not_not.1 h9)];exact ⟨_, rfl, rfl, rfl, rfl⟩
abbrev wagg (w : Word) : Value := .agg #[.int .u8 w.kind, str w.s, i64 w.n, i64 w.at_]
theorem yM {s : List UInt8} {st : St} {k : Nat} {texts : List (List UInt8)} (h : ¬ (st.2.kind : Int) = k) : take s st k texts = .error (4, st.2.at_) := by
 unfold take; rw [if_pos (.inl aH)]
theorem yN {s : List UInt8} {st : St} {k : Nat} {texts : List (List UInt8)} (h : 0 < (texts.length : Int)) (hm : ¬ st.2.s ∈ texts) : take s st k texts = .error (4, st.2.at_) := by
 unfold take; rw [if_pos (.inr ⟨by rintro rfl; simp at h, hm⟩)]
theorem nD {s : List UInt8} {st : St} {k : Nat} {texts : List (List UInt8)} (h : ¬ ¬ (st.2.kind : Int) = k) (hm : ¬ 0 < (texts.length : Int) ∨ ¬ ¬ st.2.s ∈ texts) :
  take s st k texts = match Syn.next s st.1 with | .error e => .error e | .ok r => .ok (st.2, r) := by
 have hn : ¬ (st.2.kind ≠ k ∨ (texts ≠ [] ∧ st.2.s ∉ texts)) := by
  rintro (h1 | ⟨h1, h2⟩)
  ·omega
  ·rcases hm with hm | hm
   ·exact h1 (List.length_eq_zero_iff.1 aH)
   ·exact hm h2
 unfold take; rw [if_neg hn]
 cases Syn.next s st.1 <;> rfl
theorem kY (b : Nat) (s : List UInt8) (st : St) (rest : List Value) (k : Nat) (tv : Value) (texts : List (List UInt8)) (K : Hl) (hs : s.length ≤ 600) (ha : st.1 ≤ s.length) (hg : Glob K) (hv : Ksl (bK 9) K tv texts) (hn : texts.length ≤ 1000000) :
  Sp Tryz.prog 179 [ptr b, .int .u8 k, tv] K [psb b s st rest] (fE (take s st k texts) fun r v K' L' => v = wagg r.1 ∧ K' = K ∧ L' = [psb b s r.2 rest]) := by
 refine bB Tryz.func179 rfl Tryz.ntmps179 rfl rfl fun F w => ?_
 refine aI (aB ?_);refine ol_s (cO aOO) rfl ?_;rintro _ K _ ⟨b6, rfl, rfl, rfl⟩ -;refine aG (aE ?_);refine aI (aB ?_);refine aA (aC rfl) rfl ?_;refine aA bS rfl ?_;refine aA (aD (o' := 0) bV rfl rfl) rfl ?_;refine aA (aD (o' := 2) cD rfl rfl) rfl ?_;refine aA (bW lX rfl aM rfl rfl) rfl ?_;refine ol_s (cO aOO) rfl ?_;rintro _ K _ ⟨b7, rfl, rfl, rfl⟩ -;refine bR (cH lX rfl rfl rfl a7 (by first | (simp [Value.oneCell']; done) | exact fun c hc => El.one _ _ c hc) (.cons (.cons (.cons (.cons .nil)))) (by intro j hj; simp)) ?_;rintro _ K _ ⟨rfl, rfl⟩ -;refine aG (aE ?_);refine aI (aI ?_);refine aB ?_;refine aA (aD (o' := 0) eE rfl rfl) rfl ?_;refine aA (aK kK rfl aM rfl) rfl ?_;refine aA (aC rfl) rfl ?_;refine aA (fO rfl rfl) rfl ?_;refine aA (aC rfl) rfl ?_;refine cA 17 rfl (fun g17 => ?_) (fun g17 => ?_)
 ·
  refine aQ rfl rfl rfl ?_;refine aQ rfl rfl rfl ?_;refine aQ rfl rfl rfl ?_;refine aQ rfl rfl rfl ?_;refine gB rfl rfl rfl ?_;refine gB rfl rfl rfl ?_;refine gB rfl rfl rfl ?_;refine gB rfl rfl rfl ?_;refine gB rfl rfl rfl ?_;refine aQ rfl rfl rfl ?_;refine aA (bH rfl rfl) rfl ?_;refine aG (aE ?_);refine eS rfl ?_;refine aB ?_;refine aA (aC rfl) rfl ?_;refine aW rfl rfl (gJ b s st rest _) (.cons (.there (.there .here)) .nil) rfl (by rintro _ _ ⟨_, h, _⟩; cases h) ?_ ?_
  ·
   rintro _ _ _ ⟨fb, h, rfl⟩ le1;cases h
   refine aO (.cons .here .nil) ?_;refine aJ ?_;refine bA bP ?_
   first
    | rw [yM g17]
    | rw [yN g21 h28]
   exact ⟨fb, rfl, rfl⟩
  ·
   rintro _ _ _ ⟨_, h, _⟩; cases h
 ·
  refine aT rfl rfl ?_;refine aA (aC rfl) rfl ?_;refine aT rfl rfl ?_;refine aA (cE (k := bK 9) rfl Tryz.underlying39 rfl (.known hv)) rfl ?_;refine aT rfl rfl ?_;refine aA (jG rfl rfl) rfl ?_;refine aT rfl rfl ?_;refine aA (aC rfl) rfl ?_;refine cA 21 rfl (fun g21 => ?_) (fun g21 => ?_)
  ·
   refine aT rfl rfl ?_;refine aA (aC rfl) rfl ?_;refine aT rfl rfl ?_;refine aA (aD (o' := 1) fB rfl rfl) rfl ?_;refine aT rfl rfl ?_;refine aA (aK ts9 rfl aM rfl) rfl ?_;refine aT rfl rfl ?_;refine bD rfl rfl (kB tv st.2.s texts _ [] (.known hv) hn) .nil rfl ?_;rintro _ K _ ⟨rfl, rfl, rfl⟩ -;refine aT rfl rfl ?_;refine aA (by first | exact dM rfl | exact dU rfl) rfl ?_;refine aT rfl rfl ?_;refine aA (bH rfl rfl) rfl ?_;refine aA (a8 rfl rfl) rfl ?_;refine aG (aE ?_);refine bE 28 rfl (fun h28 => ?_) (fun h28 => ?_)
   ·
    refine aB ?_;refine aA (aC rfl) rfl ?_;refine aW rfl rfl (gJ b s st rest _) (.cons (.there (.there .here)) .nil) rfl (by rintro _ _ ⟨_, h, _⟩; cases h) ?_ ?_
    ·
     rintro _ _ _ ⟨fb, h, rfl⟩ le1;cases h
     refine aO (.cons .here .nil) ?_;refine aJ ?_;refine bA bP ?_
     first
      | rw [yM g17]
      | rw [yN g21 h28]
     exact ⟨fb, rfl, rfl⟩
    ·
     rintro _ _ _ ⟨_, h, _⟩; cases h
   ·
    refine a6 ?_;refine aE (aI ?_);refine aB ?_;refine aA (aC rfl) rfl ?_;refine aA bS rfl ?_;refine aA (aD (o' := 0) bV rfl rfl) rfl ?_;refine aW rfl rfl (dF b 208 s st.1 _ _ _ _ rest hs ha _ hg) (.cons (.there (.there .here)) .nil) rfl (fun _ _ => aX _ _) ?_ ?_
    ·
     rintro _ _ _ hT2 le1;obtain ⟨e, p, hr, fb, h, rfl⟩ := aY hT2;cases h
     refine aO (.cons .here .nil) ?_;refine aJ ?_;refine bA bP ?_
     first
      | rw [nD g17 (.inr h28), hr]
      | rw [nD g17 (.inl g21), hr]
     exact ⟨fb, rfl, rfl⟩
    rintro _ K _ hT2 -;obtain ⟨r, hr, rfl, rfl, rfl⟩ := aZ hT2;refine aG (aE ?_);refine aI (aB ?_);refine aA (bW lX rfl aM rfl rfl) rfl ?_;refine bR (cH lX rfl rfl rfl a7 (by first | (simp [Value.oneCell']; done) | exact fun c hc => El.one _ _ c hc) (.cons (.cons (.cons (.cons .nil)))) (by intro j hj; simp)) ?_;rintro _ K _ ⟨rfl, rfl⟩ -;refine aG (aE ?_);refine bM ?_;refine sX rfl rfl lX aM rfl rfl (Hl.le_refl _) (.cons (by first | exact .here | exact .there .here | exact .there (.there .here)) .nil) ?_
    first
     | rw [nD g17 (.inr h28), hr]
     | rw [nD g17 (.inl g21), hr]
    exact ⟨_, rfl, rfl, rfl, rfl⟩
  ·
   refine aQ rfl rfl rfl ?_;refine aQ rfl rfl rfl ?_;refine aQ rfl rfl rfl ?_;refine aQ rfl rfl rfl ?_;refine aQ rfl rfl rfl ?_;refine aT rfl rfl ?_;refine aA (a8 rfl rfl) rfl ?_;refine aA (a8 rfl rfl) rfl ?_;refine aG (aE ?_);refine cQ rfl ?_;refine a6 ?_;refine aE (aI ?_);refine aB ?_;refine aA (aC rfl) rfl ?_;refine aA bS rfl ?_;refine aA (aD (o' := 0) bV rfl rfl) rfl ?_;refine aW rfl rfl (dF b 208 s st.1 _ _ _ _ rest hs ha _ hg) (.cons (.there (.there .here)) .nil) rfl (fun _ _ => aX _ _) ?_ ?_
   ·
    rintro _ _ _ hT2 le1;obtain ⟨e, p, hr, fb, h, rfl⟩ := aY hT2;cases h
    refine aO (.cons .here .nil) ?_;refine aJ ?_;refine bA bP ?_
    first
     | rw [nD g17 (.inr h28), hr]
     | rw [nD g17 (.inl g21), hr]
    exact ⟨fb, rfl, rfl⟩
   rintro _ K _ hT2 -;obtain ⟨r, hr, rfl, rfl, rfl⟩ := aZ hT2;refine aG (aE ?_);refine aI (aB ?_);refine aA (bW lX rfl aM rfl rfl) rfl ?_;refine bR (cH lX rfl rfl rfl a7 (by first | (simp [Value.oneCell']; done) | exact fun c hc => El.one _ _ c hc) (.cons (.cons (.cons (.cons .nil)))) (by intro j hj; simp)) ?_;rintro _ K _ ⟨rfl, rfl⟩ -;refine aG (aE ?_);refine bM ?_;refine sX rfl rfl lX aM rfl rfl (Hl.le_refl _) (.cons (by first | exact .here | exact .there .here | exact .there (.there .here)) .nil) ?_
   first
    | rw [nD g17 (.inr h28), hr]
    | rw [nD g17 (.inl g21), hr]
   exact ⟨_, rfl, rfl, rfl, rfl⟩
theorem Glob.mono {K K' : Hl} (h : Glob K) (le : K.le K') : Glob K' := ⟨let ⟨m, T, fz, e⟩ := h.maxLen; ⟨m, T, fz, le _ _ e⟩, fun w l => h.pow10 w (Hl.le_trans le l)⟩
theorem yI (b : Nat) (s : List UInt8) (st : St) (rest : List Value) (x : List UInt8) (K : Hl) (hs : s.length ≤ 600) (ha : st.1 ≤ s.length) (hg : Glob K) :
  Sp Tryz.prog 104 [ptr b, str x] K [psb b s st rest] (fE (Syn.sign s st x) fun r v _ L' => v = .tuple #[] ∧ L' = [psb b s r rest]) := by
 refine bB Tryz.func104 rfl Tryz.ntmps104 rfl rfl fun F w => ?_
 refine aB ?_;refine aA (aC rfl) rfl ?_;refine aA (aC rfl) rfl ?_;refine ol_s (bO (z0 := [(str [])]) cT tz9 rfl rfl rfl rfl (.cons rfl rfl rfl (.cons .nil) .nil)) rfl ?_;rintro _ K _ ⟨b6, rfl, rfl, rfl⟩ -;refine e7 fun K1 le1 hK1 => ?_
 refine aW rfl rfl (kY b s st rest 5 _ [x] _ hs ha (hg.mono le1) (.inr ⟨b6, 0, 1, [str x], (0, 0), rfl, ⟨_, hK1⟩, rfl⟩) (by simp)) (.cons .here .nil) rfl (fun _ _ => aX _ _) ?_ ?_
 ·
  rintro _ _ _ hT2 le2;obtain ⟨e, p, hr, fb, h, rfl⟩ := aY hT2;cases h
  refine aO (.cons .here .nil) ?_;refine bA (Hl.le_trans le1 le2) ?_;unfold Syn.sign;rw [hr];exact ⟨fb, rfl, rfl⟩
 rintro _ K2 _ hT2 le2;obtain ⟨r, hr, rfl, rfl, rfl⟩ := aZ hT2;refine aG ?_;refine dE rfl le1 ?_;unfold Syn.sign;rw [hr];exact ⟨_, rfl, rfl, rfl⟩
theorem vD (b : Nat) (s : List UInt8) (st : St) (rest : List Value) (x : List UInt8) (K : Hl) (hs : s.length ≤ 600) (ha : st.1 ≤ s.length) (hg : Glob K) :
  Sp Tryz.prog 190 [ptr b, str x] K [psb b s st rest] (fE (eat s st x) fun r v K' L' => v = .bool r.1 ∧ K' = K ∧ L' = [psb b s r.2 rest]) := by
 refine bB Tryz.func190 rfl Tryz.ntmps190 rfl rfl fun F w => ?_
 refine aI (aB ?_);refine aA (aF rfl) rfl ?_;refine aG (aE ?_);refine aI (aB ?_);refine aA (aC rfl) rfl ?_;refine aA bS rfl ?_;refine aA (aD (o' := 0) bV rfl rfl) rfl ?_;refine aA (aD (o' := 2) cD rfl rfl) rfl ?_;refine aA (aD (o' := 2) eE rfl rfl) rfl ?_;refine aA (aK kK rfl aM rfl) rfl ?_;refine aA (bT rfl rfl) rfl ?_;refine aA (aC rfl) rfl ?_;refine cA 13 rfl (fun g13 => ?_) (fun g13 => ?_)
 ·
  refine aT rfl rfl ?_;refine aA (aC rfl) rfl ?_;refine aT rfl rfl ?_;refine aA bS rfl ?_;refine aT rfl rfl ?_;refine aA (aD (o' := 0) bV rfl rfl) rfl ?_;refine aT rfl rfl ?_;refine aA (aD (o' := 2) cD rfl rfl) rfl ?_;refine aT rfl rfl ?_;refine aA (aD (o' := 3) fB rfl rfl) rfl ?_;refine aT rfl rfl ?_;refine aA (aK ts9 rfl aM rfl) rfl ?_;refine aT rfl rfl ?_;refine aA (aC rfl) rfl ?_;refine aT rfl rfl ?_;refine aA (jF rfl rfl) rfl ?_;refine aA (bH rfl rfl) rfl ?_;refine aA (aF rfl) rfl ?_;refine aG (aE ?_);refine aI (aI ?_);refine aB ?_;refine aA (aC rfl) rfl ?_;refine aG (aE ?_);refine bE 23 rfl (fun h23 => ?_) (fun h23 => ?_)
  ·
   refine aB ?_;refine aA (aC rfl) rfl ?_;refine aA bS rfl ?_;refine aA (aD (o' := 0) bV rfl rfl) rfl ?_;refine aW rfl rfl (dF b 208 s st.1 _ _ _ _ rest hs ha _ hg) (.cons .here .nil) rfl (fun _ _ => aX _ _) ?_ ?_
   ·
    rintro _ _ _ hT2 le1;obtain ⟨e, p, hr, fb, h, rfl⟩ := aY hT2;cases h
    refine aO (.cons .here .nil) ?_;refine aJ ?_;refine bA bP ?_;unfold eat;rw [if_pos ⟨by omega, h23⟩, hr];exact ⟨fb, rfl, rfl⟩
   rintro _ K _ hT2 -;obtain ⟨r, hr, rfl, rfl, rfl⟩ := aZ hT2;refine aG (aE ?_);refine aI (aB ?_);refine aA (aC rfl) rfl ?_;refine aA (aF rfl) rfl ?_;refine aG (aE ?_);refine bM ?_;refine bJ rfl rfl (Hl.le_refl _) ?_;unfold eat
   first
    | (rw [if_pos ⟨by omega, h23⟩, hr]; exact ⟨_, rfl, by rw [decide_eq_true h23], rfl, rfl⟩)
    | (rw [if_neg (fun h => h23 h.2)]; exact ⟨_, rfl, by rw [decide_eq_false h23], rfl, rfl⟩)
    | (rw [if_neg aH]; exact ⟨_, rfl, rfl, rfl, rfl⟩)
  ·
   refine a6 ?_;refine aE (aI ?_);refine aB ?_;refine aA (aC rfl) rfl ?_;refine aA (aF rfl) rfl ?_;refine aG (aE ?_);refine bM ?_;refine bJ rfl rfl (Hl.le_refl _) ?_;unfold eat
   first
    | (rw [if_pos ⟨by omega, h23⟩, hr]; exact ⟨_, rfl, by rw [decide_eq_true h23], rfl, rfl⟩)
    | (rw [if_neg (fun h => h23 h.2)]; exact ⟨_, rfl, by rw [decide_eq_false h23], rfl, rfl⟩)
    | (rw [if_neg aH]; exact ⟨_, rfl, rfl, rfl, rfl⟩)
 ·
  refine aQ rfl rfl rfl ?_;refine aQ rfl rfl rfl ?_;refine aQ rfl rfl rfl ?_;refine aQ rfl rfl rfl ?_;refine aQ rfl rfl rfl ?_;refine aQ rfl rfl rfl ?_;refine aQ rfl rfl rfl ?_;refine aQ rfl rfl rfl ?_;refine aA (a8 rfl rfl) rfl ?_;refine aA (aF rfl) rfl ?_;refine aG (aE ?_);refine aI (aI ?_);refine aB ?_;refine aA (aC rfl) rfl ?_;refine aG (aE ?_);refine cQ rfl ?_;refine a6 ?_;refine aE (aI ?_);refine aB ?_;refine aA (aC rfl) rfl ?_;refine aA (aF rfl) rfl ?_;refine aG (aE ?_);refine bM ?_;refine bJ rfl rfl (Hl.le_refl _) ?_;unfold eat
  first
   | (rw [if_pos ⟨by omega, h23⟩, hr]; exact ⟨_, rfl, by rw [decide_eq_true h23], rfl, rfl⟩)
   | (rw [if_neg (fun h => h23 h.2)]; exact ⟨_, rfl, by rw [decide_eq_false h23], rfl, rfl⟩)
   | (rw [if_neg aH]; exact ⟨_, rfl, rfl, rfl, rfl⟩)
theorem jC (b : Nat) (s : List UInt8) (st : St) (rest : List Value) (fn : FuncId) (caps : Array Value) (ff : List UInt8 → Int) (K : Hl) (hs : s.length ≤ 600) (ha : st.1 ≤ s.length) (hw : st.2.s.length ≤ s.length) (hg : Glob K)
  (hf : ∀ x : List UInt8, x.length ≤ 600 → Sp Tryz.prog fn (str x :: caps.toList) K [] (Val (i64 (ff x)) K)) :
  Sp Tryz.prog 191 [ptr b, .func (.func fn) #[] caps] K [psb b s st rest] (fE (Syn.text s st ff) fun r v K' L' => v = str r.1 ∧ K' = K ∧ L' = [psb b s r.2 rest]) := by
 refine bB Tryz.func191 rfl Tryz.ntmps191 rfl rfl fun F w => ?_
 refine aI (aB ?_);refine aA (aF rfl) rfl ?_;refine aG (aE ?_);refine aI (aI ?_);refine aB ?_;refine aA (aC rfl) rfl ?_;refine aA bS rfl ?_;refine aA (aD (o' := 0) bV rfl rfl) rfl ?_;refine aA (aD (o' := 2) cD rfl rfl) rfl ?_;refine aA (aD (o' := 2) eE rfl rfl) rfl ?_;refine aA (aK kK rfl aM rfl) rfl ?_;refine aA (bT rfl rfl) rfl ?_;refine aG (aE ?_);refine bE 12 rfl (fun h12 => ?_) (fun h12 => ?_)
 ·
  refine aI (aB ?_);refine aA (aC rfl) rfl ?_;refine aA (aC rfl) rfl ?_;refine aA bS rfl ?_;refine aA (aD (o' := 0) bV rfl rfl) rfl ?_;refine aA (aD (o' := 2) cD rfl rfl) rfl ?_;refine aA (aD (o' := 3) fB rfl rfl) rfl ?_;refine aA (aK ts9 rfl aM rfl) rfl ?_;refine cF rfl rfl (hf st.2.s aH) rfl ?_;refine aA (aF rfl) rfl ?_;refine aG (aE ?_);refine aI (aB ?_);refine aA (aC rfl) rfl ?_;refine aA (fO rfl rfl) rfl ?_;refine aG (aE ?_);refine bE 22 rfl (fun h22 => ?_) (fun h22 => ?_)
  ·
   refine aB ?_;refine aA (aC rfl) rfl ?_;refine aA (aC rfl) rfl ?_;refine aA bS rfl ?_;refine aA (aD (o' := 0) bV rfl rfl) rfl ?_;refine aA (aD (o' := 2) cD rfl rfl) rfl ?_;refine aA (aD (o' := 5) fK rfl rfl) rfl ?_;refine aA (aK ts3 rfl aM rfl) rfl ?_;refine aW rfl rfl (dY (ff st.2.s) st.2.at_ _) .nil rfl (by rintro _ _ ⟨_, h, _⟩; cases h) ?_ ?_
   ·
    rintro _ _ _ ⟨fb, h, rfl⟩ le1;cases h
    refine aO (.cons .here .nil) ?_;refine aJ ?_;refine bA bP ?_;unfold Syn.text;rw [if_pos ⟨by omega, by omega⟩];exact ⟨fb, rfl, rfl⟩
   ·
    rintro _ _ _ ⟨_, h, _⟩; cases h
  ·
   refine a6 ?_;refine aE (aI ?_);refine aB ?_;refine aA (aC rfl) rfl ?_;refine aW rfl rfl (kY b s st rest 3 _ [] _ hs ha hg (.inl ⟨none, 0, rfl, rfl⟩) (by simp)) (.cons .here .nil) rfl (fun _ _ => aX _ _) ?_ ?_
   ·
    rintro _ _ _ hT2 le1;obtain ⟨e, p, hr, fb, h, rfl⟩ := aY hT2;cases h
    refine aO (.cons .here .nil) ?_;refine aJ ?_;refine bA bP ?_;unfold Syn.text;rw [if_neg aH, hr];exact ⟨fb, rfl, rfl⟩
   rintro _ K _ hT2 -;obtain ⟨r, hr, rfl, rfl, rfl⟩ := aZ hT2;refine aA (j6 Tryz.underlying202 rfl ts9 rfl rfl) rfl ?_;refine aA (aF rfl) rfl ?_;refine aG (aE ?_);refine bM ?_;refine bJ rfl rfl (Hl.le_refl _) ?_;unfold Syn.text;rw [if_neg aH, hr];exact ⟨_, rfl, rfl, rfl, rfl⟩
 ·
  refine a6 ?_;refine aE (aI ?_);refine aB ?_;refine aA (aC rfl) rfl ?_;refine aW rfl rfl (kY b s st rest 3 _ [] _ hs ha hg (.inl ⟨none, 0, rfl, rfl⟩) (by simp)) (.cons .here .nil) rfl (fun _ _ => aX _ _) ?_ ?_
  ·
   rintro _ _ _ hT2 le1;obtain ⟨e, p, hr, fb, h, rfl⟩ := aY hT2;cases h
   refine aO (.cons .here .nil) ?_;refine aJ ?_;refine bA bP ?_;unfold Syn.text;rw [if_neg aH, hr];exact ⟨fb, rfl, rfl⟩
  rintro _ K _ hT2 -;obtain ⟨r, hr, rfl, rfl, rfl⟩ := aZ hT2;refine aA (j6 Tryz.underlying202 rfl ts9 rfl rfl) rfl ?_;refine aA (aF rfl) rfl ?_;refine aG (aE ?_);refine bM ?_;refine bJ rfl rfl (Hl.le_refl _) ?_;unfold Syn.text;rw [if_neg aH, hr];exact ⟨_, rfl, rfl, rfl, rfl⟩
end Go.Proofs
end
section
namespace Go.Proofs
open Go Go.SL Go.Syn
theorem aLE (b : Nat) (x : List UInt8) : ∀ h, pt b (aU [str x] 9) h → sl false (bK 9) (.slice (some ⟨b, 0, none⟩) 1 1) [x] h :=
 sJ (k := bK 9) (xs := [x]) (cells := [str x]) (Nat.le_refl _) rfl rfl (.inl (Nat.le_refl _)) (fun h => by cases h)
theorem aG4 (b : Nat) (s : List UInt8) (st : St) (rest : List Value) (fn : FuncId) (caps : Array Value) (ff : List UInt8 → Int) (K : Hl) (hs : s.length ≤ 600) (hok : Ok s st) (hg : Glob K)
  (hf : ∀ x : List UInt8, x.length ≤ 600 → Sp Tryz.prog fn (str x :: caps.toList) K [] (Val (i64 (ff x)) K)) :
  Sp Tryz.prog 102 [ptr b, .func (.func fn) #[] caps] K [psb b s st rest] (fE (Syn.list s st ff) fun r v _ L' => L' = [sl false (bK 9) v r.1, psb b s r.2 rest]) := by
 refine bB Tryz.func102 rfl Tryz.ntmps102 rfl rfl fun F w => ?_
 have ha := hok.1;refine aI (aB ?_);refine aA (aF rfl) rfl ?_;refine aG (aE ?_);refine aI (aI ?_);refine aB ?_;refine aA (aC rfl) rfl ?_;refine aW rfl rfl (vD b s st rest [91] _ hs ha hg) (.cons .here .nil) rfl (fun _ _ => aX _ _) ?_ ?_
 ·
  rintro _ _ _ hT2 le1;obtain ⟨e, p, hr, fb, h, rfl⟩ := aY hT2;cases h
  refine aO (.cons .here .nil) ?_;refine aJ ?_;refine aJ ?_;refine bA bP ?_;unfold Syn.list;rw [hr];exact ⟨fb, rfl, rfl⟩
 rintro _ K _ hT2 -;obtain ⟨r, hr, rfl, rfl, rfl⟩ := aZ hT2;obtain ⟨hr1, hr2, hr3⟩ := oV ha hr;have hro := sY hok hr;refine aA (by first | exact dM rfl | exact dU rfl) rfl ?_;refine aG (aE ?_);refine eB 8 rfl (fun h8 => ?_) (fun h8 => ?_)
 ·
  refine aI (aB ?_);refine aA (aC rfl) rfl ?_;refine aA (aC rfl) rfl ?_;refine aW rfl rfl (jC b s r.2 rest fn caps ff _ hs hr1 hro.2 hg hf) (.cons .here .nil) rfl (fun _ _ => aX _ _) ?_ ?_
  ·
   rintro _ _ _ hT3 le1;obtain ⟨e, p, hq, fb, h, rfl⟩ := aY hT3;cases h
   refine aO (.cons .here .nil) ?_;refine aJ ?_;refine aJ ?_;refine bA bP ?_;unfold Syn.list;rw [hr];simp only [];rw [hq];exact ⟨fb, rfl, rfl⟩
  rintro _ K _ hT3 -;obtain ⟨q, hq, rfl, rfl, rfl⟩ := aZ hT3;obtain ⟨hq1, hq2⟩ := gR hr1 hq;refine ol_s (bO (z0 := [(str [])]) cT tz9 rfl rfl rfl rfl (.cons rfl rfl rfl (.cons .nil) .nil)) rfl ?_;rintro _ K _ ⟨b12, rfl, rfl, rfl⟩ -;refine aA (aF rfl) rfl ?_;refine aG (aE ?_);refine bM ?_;refine bC ?_;refine dV (gX (aLE b12 q.1)) ?_;refine bJ rfl rfl (by first | exact Hl.le_refl _ | assumption) ?_;have hl : Syn.list s st ff = .ok ([q.1], q.2) := (by unfold Syn.list; rw [hr]; simp only []; rw [hq]; simp only []; rw [if_neg (by simpa using h8)]);rw [hl];exact ⟨_, rfl, rfl⟩
 ·
  refine a6 ?_;refine aE (aI ?_);refine aB ?_;refine aA (aC rfl) rfl ?_;refine aA (aC rfl) rfl ?_;refine aW rfl rfl (jC b s r.2 rest fn caps ff _ hs hr1 hro.2 hg hf) (.cons .here .nil) rfl (fun _ _ => aX _ _) ?_ ?_
  ·
   rintro _ _ _ hT3 le1;obtain ⟨e, p, hq, fb, h, rfl⟩ := aY hT3;cases h
   refine aO (.cons .here .nil) ?_;refine aJ ?_;refine bA bP ?_;unfold Syn.list;rw [hr];simp only [];rw [hq];exact ⟨fb, rfl, rfl⟩
  rintro _ K _ hT3 -;obtain ⟨q, hq, rfl, rfl, rfl⟩ := aZ hT3;obtain ⟨hq1, hq2⟩ := gR hr1 hq;refine ol_s (bO (z0 := [(str [])]) cT tz9 rfl rfl rfl rfl (.cons rfl rfl rfl (.cons .nil) .nil)) rfl ?_;rintro _ K _ ⟨b16, rfl, rfl, rfl⟩ -;refine aA (aF rfl) rfl ?_;refine aG (aE ?_);refine aI (bF ?_);refine uN (fun (st2 : St) (v : Value) (acc : List (List UInt8)) => Ok s st2 ∧ acc.length + mu s st2 ≤ 1300 ∧ ∃ f, mu s st2 ≤ f ∧ Syn.list s st ff = lG s ff (f + 1) st2 acc) (fun _ v _ => [(0, ptr b), (1, .func (.func fn) #[] caps), (5, v)]) (fun _ _ _ => K) (fun st2 v acc => [sl false (bK 9) v acc, psb b s st2 rest]) (fun st2 _ _ => mu s st2) q.2 _ [q.1] ⟨kD hr1 hq, by have := qQ s q.2; simp; omega, mu s q.2, Nat.le_refl _, by unfold Syn.list; rw [hr]; simp only []; rw [hq]; simp only []; rw [if_pos (by simpa using h8)]⟩ (.cons 0 rfl (.cons 1 rfl (.cons 5 rfl .nil))) rfl (gX (aLE b16 q.1)) ?_;intro st2 v acc ⟨hi1, hi2, f, hi3, hi4⟩;refine aI (aI ?_);refine aB ?_;refine aA (aC rfl) rfl ?_;refine aW rfl rfl (vD b s st2 rest [44] _ hs hi1.1 hg) (.cons (.there .here) .nil) rfl (fun _ _ => aX _ _) ?_ ?_
  ·
   rintro _ _ _ hT4 le1;obtain ⟨e, p, hy, fb, h, rfl⟩ := aY hT4;cases h
   refine aO (.cons .here .nil) ?_;refine aJ ?_;refine aJ ?_;refine aJ ?_;refine aP ?_;refine aJ ?_;refine bA bP ?_;rw [hi4];simp only [lG];rw [hy];exact ⟨fb, rfl, rfl⟩
  rintro _ K _ hT4 -;obtain ⟨y, hy, rfl, rfl, rfl⟩ := aZ hT4;obtain ⟨hy1, hy2, hy3⟩ := oV hi1.1 hy;have hyo := sY hi1 hy;refine aG (aE ?_);refine eB 18 rfl (fun h18 => ?_) (fun h18 => ?_)
  ·
   have hy4 := hy3 h18;refine a6 ?_;refine aE (bF ?_);refine aB ?_;refine aA (aC rfl) rfl ?_;refine aA (aC rfl) rfl ?_;refine aA (aC rfl) rfl ?_;refine aW rfl rfl (jC b s y.2 rest fn caps ff _ hs hy1 hyo.2 hg hf) (.cons .here .nil) rfl (fun _ _ => aX _ _) ?_ ?_
   ·
    rintro _ _ _ hT5 le1;obtain ⟨e, p, hz, fb, h, rfl⟩ := aY hT5;cases h
    refine aO (.cons .here .nil) ?_;refine aP ?_;refine aJ ?_;refine aP ?_;refine aJ ?_;refine bA bP ?_;rw [hi4];simp only [lG];rw [hy];simp only [];rw [if_pos h18, hz];exact ⟨fb, rfl, rfl⟩
   rintro _ K _ hT5 -;obtain ⟨z, hz, rfl, rfl, rfl⟩ := aZ hT5;obtain ⟨hz1, hz2⟩ := gR hy1 hz;refine ol_s (bO (z0 := [(str [])]) cT tz9 rfl rfl rfl rfl (.cons rfl rfl rfl (.cons .nil) .nil)) rfl ?_;rintro _ K _ ⟨b23, rfl, rfl, rfl⟩ -;refine ol_s (dQ (k := (bK 9)) (ys := [z.1]) gK rfl rfl a7 (fun w j => dN Tryz.underlying39 (SeesSl.at (.blk (.own .here) rfl rfl) j)) (by first | (simp; omega) | omega) (by first | (simp; omega) | omega)) rfl ?_;rintro v24 K _ ⟨rfl, rfl, ho24⟩ -;refine aA (aF rfl) rfl ?_;refine aG (aN ?_);obtain ⟨f0, rfl⟩ : ∃ f0, f = f0 + 1 := ⟨f - 1, by omega⟩;refine aO (.cons .here (.cons (.there .here) .nil)) ?_;refine iR z.2 _ (acc ++ [z.1]) ⟨kD hy1 hz, by simp; omega, f0, by omega, ?_⟩ aH (.cons 0 rfl (.cons 1 rfl (.cons 5 rfl .nil))) rfl (fun _ h => h)
   rw [hi4];simp only [lG];rw [hy];simp only [];rw [if_pos h18, hz]
  ·
   refine cY ?_;refine aV ?_;refine aV ?_;refine bL ?_;refine aE (aI ?_);refine aB ?_;refine aA (aC rfl) rfl ?_;refine aW rfl rfl (yI b s y.2 rest [93] _ hs hy1 hg) (.cons .here .nil) rfl (fun _ _ => aX _ _) ?_ ?_
   ·
    rintro _ _ _ hT5 le1;obtain ⟨e, p, hz, fb, h, rfl⟩ := aY hT5;cases h
    refine aO (.cons .here .nil) ?_;refine aJ ?_;refine bA bP ?_;rw [hi4];simp only [lG];rw [hy];simp only [];rw [if_neg (by simp [h18]), hz];exact ⟨fb, rfl, rfl⟩
   rintro _ K2 _ hT5 le2;obtain ⟨z, hz, rfl, rfl⟩ := aZ hT5;refine aG (aE ?_);refine aI (aB ?_);refine aA (aC rfl) rfl ?_;refine aA (aF rfl) rfl ?_;refine aG (aE ?_);refine bM ?_;refine aO (.cons (.there .here) (.cons .here .nil)) ?_;refine bJ rfl rfl (by first | exact Hl.le_refl _ | assumption) ?_;have hl : Syn.list s st ff = .ok (acc, z) := (by rw [hi4]; simp only [lG]; rw [hy]; simp only []; rw [if_neg (by simp [h18]), hz]);rw [hl];exact ⟨_, rfl, rfl⟩
end Go.Proofs
end
section
namespace Go.Proofs
open Go Go.SL Go.Syn
theorem jI (x : List UInt8) (K : Hl) : Sp Tryz.prog 177 [str x] K [] (Val (i64 0) K) := by
 refine bB Tryz.func177 rfl Tryz.ntmps177 rfl rfl fun F w => ?_
 refine aI (aB ?_);refine aA (aF rfl) rfl ?_;refine aG (aE ?_);refine aI (aB ?_);refine aA (aF rfl) rfl ?_;refine aG (aE ?_);refine bM ?_;refine bJ rfl rfl (Hl.le_refl _) ?_;exact ⟨rfl, rfl, rfl⟩
theorem oH (s : List UInt8) (K : Hl) (hs : s.length ≤ 140737488351232) : Sp Tryz.prog 263 [str s] K [] (Val (.bool (named s)) K) := by
 refine bB Tryz.func263 rfl Tryz.ntmps263 rfl rfl fun F w => ?_
 refine aI (aB ?_);refine aA (aF rfl) rfl ?_;refine aG (aE ?_);refine aI (aI ?_);refine aB ?_;refine aA (aC rfl) rfl ?_;refine ol_s (p8 Tryz.underlying9 Tryz.underlying130 Tryz.underlying5 rfl) rfl ?_;rintro v6 K _ ⟨rfl, rfl⟩ -;refine aA (cE (k := (elB 5)) rfl Tryz.underlying130 rfl aM) rfl ?_;refine aA (aC rfl) rfl ?_;refine aG (aE ?_);refine bF ?_;refine eK (fun (i : Nat) => i ≤ s.length ∧ (s.take i).all dT = true) (fun i => [(0, str s), (6, v6), (7, i64 s.length), (8, i64 i)]) (fun _ => _) (fun i => [sl false (elB 5) v6 s]) (fun i => s.length - i) 0 ⟨Nat.zero_le _, rfl⟩ (.cons 0 rfl (.cons 6 rfl (.cons 7 rfl (.cons 8 rfl .nil)))) rfl (fun _ h => h) ?_;intro i ⟨hi0, hi1⟩;refine aI (aB ?_);refine aA (dA rfl rfl) rfl ?_;refine aG (aE ?_);refine aI ?_;refine bE 9 rfl (fun h9 => ?_) (fun h9 => ?_)
 ·
  obtain ⟨c, hc⟩ : ∃ c, s[i]? = some c := ⟨s[i]'(by omega), List.getElem?_eq_getElem aH⟩;have hlen : i < s.length := by omega
  refine a6 ?_;refine aE (aI ?_);refine bF (aI ?_);refine aB ?_;refine aA (b0 (k := (elB 5)) mC rfl aM rfl rfl (by first | assumption | omega)) rfl ?_;refine aA (dO (o := 0) (k := (elB 5)) ts5 rfl aM bP rfl) rfl ?_;refine aA (aF rfl) rfl ?_;refine aG (aE ?_);refine aI (aB ?_);refine aA (aC rfl) rfl ?_;refine cF rfl rfl (m7 c _) rfl ?_;refine aA (by first | exact dM rfl | exact dU rfl) rfl ?_;refine aG (aE ?_);refine eB 14 rfl (fun h14 => ?_) (fun h14 => ?_)
  ·
   refine aI (aB ?_);refine aA (aF rfl) rfl ?_;refine aG (aE ?_);refine bM ?_;refine bQ ?_;refine bC ?_;refine bC ?_;refine bQ ?_;refine bC ?_;refine aO .nil ?_;refine bJ rfl rfl (Hl.le_refl _) ?_;exact retB (aKE hc (by simpa using h14)).symm _
  ·
   refine a6 ?_;refine aN (aE ?_);refine aB ?_;refine aA (bZ rfl rfl aH aH) rfl ?_;refine aA (aC rfl) rfl ?_;refine aG ?_;refine cL (i + 1) ⟨by omega, Plain.take_all_succ hc hi1 (by simpa using h14)⟩ aH (.cons 0 rfl (.cons 6 rfl (.cons 7 rfl (.cons 8 rfl .nil)))) rfl (fun _ h => h)
 ·
  have hall : s.all dT = true := (by rw [List.take_of_length_le aH] at hi1; exact hi1);refine cY ?_;refine aV ?_;refine aV ?_;refine bL ?_;refine aE (aI ?_);refine aB ?_;refine aA (aC rfl) rfl ?_;refine aA (oX rfl rfl) rfl ?_;refine aA (aC rfl) rfl ?_;refine cA 18 rfl (fun g18 => ?_) (fun g18 => ?_)
  ·
   refine aT rfl rfl ?_;refine aA (aC rfl) rfl ?_;refine aT rfl rfl ?_;obtain ⟨c0, hc0⟩ : ∃ c, s[0]? = some c := ⟨s[0]'(List.length_pos_iff.2 g18), List.getElem?_eq_getElem _⟩;refine aA (dB Tryz.underlying9 rfl (j := 0) rfl rfl hc0) rfl ?_;refine aT rfl rfl ?_;refine cF rfl rfl (lV c0 _) rfl ?_;refine aT rfl rfl ?_;refine aA (by first | exact dM rfl | exact dU rfl) rfl ?_;refine aA (bH rfl rfl) rfl ?_;refine aA (aF rfl) rfl ?_;refine aG (aE ?_);refine bM ?_;refine aO .nil ?_;refine bJ rfl rfl (Hl.le_refl _) ?_;exact retB (by simp [named, hall, g18, hc0]) _
  ·
   refine aQ rfl rfl rfl ?_;refine aQ rfl rfl rfl ?_;refine aQ rfl rfl rfl ?_;refine aQ rfl rfl rfl ?_;refine aA (a8 rfl rfl) rfl ?_;refine aA (aF rfl) rfl ?_;refine aG (aE ?_);refine bM ?_;refine aO .nil ?_;refine bJ rfl rfl (Hl.le_refl _) ?_;exact retB (by simp only [Classical.not_not] at g18; simp [named, g18]) _
theorem aHY (x : List UInt8) (K : Hl) (hs : x.length ≤ 140737488351232) : Sp Tryz.prog 262 [str x] K [] (Val (i64 (if named x = true then 0 else 7)) K) := by
 refine bB Tryz.func262 rfl Tryz.ntmps262 rfl rfl fun F w => ?_
 refine aI (aB ?_);refine aA (aF rfl) rfl ?_;refine aG (aE ?_);refine aI (aI ?_);refine aB ?_;refine aA (aC rfl) rfl ?_;refine cF rfl rfl (oH x _ hs) rfl ?_;refine aG (aE ?_);refine eB 4 rfl (fun h4 => ?_) (fun h4 => ?_)
 ·
  refine aI (aB ?_);refine aA (aF rfl) rfl ?_;refine aG (aE ?_);refine bM ?_;refine bC ?_;refine bJ rfl rfl (Hl.le_refl _) ?_;rw [if_pos h4];exact ⟨rfl, rfl, rfl⟩
 ·
  refine a6 ?_;refine aE (aI ?_);refine aB ?_;refine aA (aF rfl) rfl ?_;refine aG (aE ?_);refine bM ?_;refine bJ rfl rfl (Hl.le_refl _) ?_;rw [if_neg (by simp [h4])];exact ⟨rfl, rfl, rfl⟩
theorem jU (x : List UInt8) (e : Int) (texts : List (List UInt8)) (tv : Value) (b1 b2 : Nat) (K : Hl) (h1 : K b1 = some (aU [tv] 39)) (h2 : K b2 = some (aU [i64 e] 30)) (hv : Ksl (bK 9) K tv texts) (hn : texts.length ≤ 1000000) :
  Sp Tryz.prog 192 [str x, ptr b1, ptr b2] K [] (Val (i64 (oneOf e texts x)) K) := by
 refine bB Tryz.func192 rfl Tryz.ntmps192 rfl rfl fun F w => ?_
 refine aI (aB ?_);refine aA (aF rfl) rfl ?_;refine aG (aE ?_);refine aI (aI ?_);refine aB ?_;refine aA (aK ts39 rfl (.known h1) rfl) rfl ?_;refine aA (aC rfl) rfl ?_;refine bD rfl rfl (kB tv x texts _ [] (.known hv) hn) .nil rfl ?_;rintro _ K _ ⟨rfl, rfl, rfl⟩ -;refine aG (aE ?_);refine bE 7 rfl (fun h7 => ?_) (fun h7 => ?_)
 ·
  refine aI (aB ?_);refine aA (aF rfl) rfl ?_;refine aG (aE ?_);refine bM ?_;refine bC ?_;refine bJ rfl rfl (Hl.le_refl _) ?_;unfold oneOf;rw [if_pos h7];exact ⟨rfl, rfl, rfl⟩
 ·
  refine a6 ?_;refine aE (aI ?_);refine aB ?_;refine aA (aK ts30 rfl (.known h2) rfl) rfl ?_;refine aA (aF rfl) rfl ?_;refine aG (aE ?_);refine bM ?_;refine bJ rfl rfl (Hl.le_refl _) ?_;unfold oneOf;rw [if_neg h7];exact ⟨rfl, rfl, rfl⟩
theorem kT (e : Int) (tv : Value) (K : Hl) (htv : tv.cells = #[tv]) : Sp Tryz.prog 103 [i64 e, tv] K [] (Ret fun v K' L' => ∃ b1 b2, v = .func (.func 192) #[] #[ptr b1, ptr b2] ∧ K' b1 = some (aU [tv] 39) ∧ K' b2 = some (aU [i64 e] 30) ∧ L' = []) := by
 refine bB Tryz.func103 rfl Tryz.ntmps103 rfl rfl fun F w => ?_
 refine aI (aB ?_);refine ol_s (eM rfl rfl) rfl ?_;rintro _ K _ ⟨b2, rfl, rfl, rfl⟩ -;refine ol_s (eM (l := [tv]) rfl htv) rfl ?_;rintro _ K _ ⟨b3, rfl, rfl, rfl⟩ -;refine aA (aF rfl) rfl ?_;refine aG (aE ?_);refine aI (aB ?_);refine aA (g9 rfl rfl) rfl ?_;refine aA (aF rfl) rfl ?_;refine aG (aE ?_);refine bM ?_;refine gG fun K1 le1 hK1 => ?_
 refine gG fun K2 le2 hK2 => ?_
 refine bJ rfl rfl (Hl.le_trans le1 le2) ?_;exact ⟨_, rfl, b3, b2, rfl, le2 _ _ hK1, hK2, rfl⟩
abbrev wZ : List UInt8 := [102, 114, 111, 109]
abbrev txTo : List UInt8 := [116, 111]
theorem tY (x : List UInt8) (K : Hl) (hs : x.length ≤ 140737488351232) : Sp Tryz.prog 265 [str x] K [] (Val (i64 (oneOf 7 [wZ, txTo] (cU x))) K) := by
 refine (aFR (R := fun e L' => e = .returned (i64 (oneOf 7 [wZ, txTo] (cU x))) ∧ L' = []) ?_).mono fun e K' L' ⟨h1, h2, h3⟩ => ⟨h2, h1, h3⟩
 refine bB Tryz.func265 rfl Tryz.ntmps265 rfl rfl fun F w => ?_
 refine aI (aB ?_);refine aA (aF rfl) rfl ?_;refine aG (aE ?_);refine aI (aB ?_);refine ol_s (bO (z0 := [(str []), (str [])]) cT tz9 rfl rfl rfl rfl (.cons rfl rfl rfl (.cons .nil) (.cons rfl rfl rfl (.skip (.cons .nil)) .nil))) rfl ?_;rintro _ K _ ⟨b3, rfl, rfl, rfl⟩ -;refine e7 fun K1 le1 hK1 => ?_
 refine bD rfl rfl (kT 7 _ _ rfl) .nil rfl ?_;rintro _ K2 _ ⟨c1, c2, rfl, hc1, hc2, rfl⟩ le2;refine aA (aC rfl) rfl ?_;refine cF rfl rfl (fA x _ hs) rfl ?_;refine cF rfl rfl (jU (cU x) 7 [wZ, txTo] _ c1 c2 _ hc1 hc2 (.inr ⟨b3, 0, 2, [str wZ, str txTo], (0, 0), rfl, ⟨_, le2 _ _ hK1⟩, rfl⟩) (by simp)) rfl ?_;refine aA (aF rfl) rfl ?_;refine aG (aE ?_);refine bM ?_;refine aO .nil ?_;refine bJ rfl rfl (Hl.le_trans le1 le2) ?_;exact ⟨rfl, rfl⟩
theorem rP {β : Type} {P : Program} {f : FuncId} {args : List Value} {K : Hl} {L : List Asn} {r : Res β} {N : β → Value → List Asn → Prop} (h : Sp P f args K L (fE r fun x v _ L' => N x v L')) :
  Sp P f args K L (fE r fun x v K' L' => K' = K ∧ N x v L') := by
 refine (aFR (R := fun e L' => fE r (fun x v _ L' => N x v L') e K L') (h.mono fun e K' L' h1 => ?_)).mono fun e K' L' ⟨h1, h2⟩ => ?_
 ·unfold fE at h1 ⊢;cases r with
  | ok x => exact h1
  | error p => exact h1
 ·unfold fE at h2 ⊢;cases r with
  | ok x => obtain ⟨v, e1, e2⟩ := h2; exact ⟨v, e1, h1, e2⟩
  | error p => exact h2
theorem iT (b : Nat) (s : List UInt8) (st : St) (rest : List Value) (x : List UInt8) (K : Hl) (hs : s.length ≤ 600) (ha : st.1 ≤ s.length) (hg : Glob K) :
  Sp Tryz.prog 104 [ptr b, str x] K [psb b s st rest] (fE (Syn.sign s st x) fun r v K' L' => K' = K ∧ v = .tuple #[] ∧ L' = [psb b s r rest]) :=
 rP (N := fun (r : St) v L' => v = .tuple #[] ∧ L' = [psb b s r rest]) (yI b s st rest x K hs ha hg)
theorem oG (b : Nat) (s : List UInt8) (st : St) (rest : List Value) (fn : FuncId) (caps : Array Value) (ff : List UInt8 → Int) (K : Hl) (hs : s.length ≤ 600) (hok : Ok s st) (hg : Glob K)
  (hf : ∀ x : List UInt8, x.length ≤ 600 → Sp Tryz.prog fn (str x :: caps.toList) K [] (Val (i64 (ff x)) K)) :
  Sp Tryz.prog 102 [ptr b, .func (.func fn) #[] caps] K [psb b s st rest] (fE (Syn.list s st ff) fun r v K' L' => K' = K ∧ L' = [sl false (bK 9) v r.1, psb b s r.2 rest]) :=
 rP (N := fun (r : List (List UInt8) × St) v L' => L' = [sl false (bK 9) v r.1, psb b s r.2 rest]) (aG4 b s st rest fn caps ff K hs hok hg hf)
end Go.Proofs
end
section
namespace Go.Proofs
open Go Go.SL Go.Syn
theorem aLH {s : List UInt8} {st : St} {k : Nat} {texts : List (List UInt8)} {r : Word × St} (hok : Ok s st) (h : take s st k texts = .ok r) : r.1.s.length ≤ s.length := by
 unfold take at h;split at h
 ·cases h
 ·split at h
  ·cases h
  ·cases h; exact hok.2
theorem aLP {s : List UInt8} {st : St} {ff : List UInt8 → Int} {r : List UInt8 × St} (hok : Ok s st) (h : Syn.text s st ff = .ok r) : r.1.length ≤ s.length := by
 unfold Syn.text at h;split at h
 ·cases h
 ·split at h
  ·cases h
  ·rename_i q hq;cases h
   exact aLH hok hq
theorem aHR (xs : List (List UInt8)) (x : List UInt8) : -1 ≤ cN xs x ∧ cN xs x ≤ xs.length := by
 unfold cN;cases h : xs.findIdx? (fun y => decide (x = y)) with
 | some i => rw [List.findIdx?_eq_some_iff_getElem] at h; obtain ⟨hi, _⟩ := h; exact ⟨by show -1 ≤ (i : Int); omega, by show (i : Int) ≤ _; omega⟩
 | none => exact ⟨by show (-1 : Int) ≤ -1; omega, by show (-1 : Int) ≤ _; omega⟩
theorem aLA (b : Nat) (s : List UInt8) (st : St) (at_ dp : Int) (nv : Value) (rest : List Value) (needs : List (List UInt8)) (K : Hl) (hs : s.length ≤ 600) (hok : Ok s st) (hg : Glob K) (hv : Ksl (bK 9) K nv needs) (hn : needs.length ≤ 1000000) :
    Sp Tryz.prog 163 [ptr b, i64 at_, i64 dp] K [psb b s st (nv :: rest)]
      (fE (setC s needs st) fun r v K' L' => K' = K ∧ v = .iface 308 (.agg #[str r.1.name, str r.1.value, i64 r.1.tag]) ∧ L' = [psb b s r.2 (nv :: rest)]) := by
  refine rP (N := fun (r : SetC × St) v L' => v = .iface 308 (.agg #[str r.1.name, str r.1.value, i64 r.1.tag]) ∧ L' = [psb b s r.2 (nv :: rest)]) ?_;have ha := hok.1;refine bB Tryz.func163 rfl Tryz.ntmps163 rfl rfl fun F w => ?_
  refine aI (aB ?_);refine aA (aF rfl) rfl ?_;refine aG (aE ?_);refine aI (aB ?_);refine aA (aC rfl) rfl ?_;refine aW rfl rfl (rJ b s st nv rest needs dH _ hv hn) (.cons .here .nil) rfl (fun _ _ => aX _ _) ?_ ?_
  ·
    rintro _ _ _ hT le1;obtain ⟨e, p, hr, fb, h, rfl⟩ := aY hT;cases h
    refine aO (.cons .here .nil) ?_;refine aJ ?_;refine bA bP ?_;have hm : ¬ dH ∈ needs := (by intro h; rw [if_pos h] at hr; cases hr);rw [if_neg hm] at hr;cases hr
    unfold setC;rw [if_neg hm];exact ⟨fb, rfl, rfl⟩
  rintro _ K _ hT -;obtain ⟨u0, hu, rfl, rfl, rfl⟩ := aZ hT;have hm : dH ∈ needs := Classical.byContradiction (fun h => by rw [if_neg h] at hu; cases hu);refine aG (aE ?_);refine aI (aB ?_);refine aA (aC rfl) rfl ?_;refine aA bS rfl ?_;refine aA (aD (o' := 0) bV rfl rfl) rfl ?_;refine aW rfl rfl (dF b 208 s st.1 _ _ _ _ (nv :: rest) hs ha _ hg) (.cons .here .nil) rfl (fun _ _ => aX _ _) ?_ ?_
  ·
    rintro _ _ _ hT2 le1;obtain ⟨e, p, hr, fb, h, rfl⟩ := aY hT2;cases h
    refine aO (.cons .here .nil) ?_;refine aJ ?_;refine bA bP ?_;unfold setC;rw [if_pos hm, hr];exact ⟨fb, rfl, rfl⟩
  rintro _ K _ hT2 -;obtain ⟨r, hr, rfl, rfl, rfl⟩ := aZ hT2;have hro := dR ha hr;refine aG (aE ?_);refine aI (aB ?_);refine aA (cK aRC aP7 .nil) rfl ?_;refine ol_s (cO aOQ) rfl ?_;rintro _ K _ ⟨b7, rfl, rfl, rfl⟩ -;refine bR (cH aAP rfl rfl rfl a7 (by first | (simp [Value.oneCell']; done) | exact fun c hc => El.one _ _ c hc) (.cons (.cons (.cons .nil))) (by intro j hj; simp)) ?_;rintro _ K _ ⟨rfl, rfl⟩ -;refine aG (aE ?_);refine aNL (fun (tag : Int) (st2 : St) => iI s r = .ok (tag, st2) ∧ Ok s st2) (fun _ _ => [(0, ptr b), (7, ptr b7)]) (fun _ _ => K) (fun tag st2 => [pt b7 (aU [str [], str [], i64 tag] 308), psb b s st2 (nv :: rest)]) ?_ ?_
  ·
    refine aI (aB ?_);refine aA (aC rfl) rfl ?_;refine aA bS rfl ?_;refine aA (aD (o' := 0) bV rfl rfl) rfl ?_;refine aA (aD (o' := 2) cD rfl rfl) rfl ?_;refine aA (aD (o' := 2) eE rfl rfl) rfl ?_;refine aA (aK kK rfl aM rfl) rfl ?_;refine aA (bT rfl rfl) rfl ?_;refine aG (aE ?_);refine bE 21 rfl (fun h21 => ?_) (fun h21 => ?_)
    ·
      refine aI (aB ?_);refine ol_s (bO (z0 := [(str []), (str []), (str [])]) cT tz9 rfl rfl rfl rfl (.cons rfl rfl rfl (.cons .nil) (.cons rfl rfl rfl (.skip (.cons .nil)) (.cons rfl rfl rfl (.skip (.skip (.cons .nil))) .nil)))) rfl ?_;rintro _ K _ ⟨b22, rfl, rfl, rfl⟩ -;refine aA (aC rfl) rfl ?_;refine aA bS rfl ?_;refine aA (aD (o' := 0) bV rfl rfl) rfl ?_;refine aA (aD (o' := 2) cD rfl rfl) rfl ?_;refine aA (aD (o' := 3) fB rfl rfl) rfl ?_;refine aA (aK ts9 rfl aM rfl) rfl ?_;refine bD rfl rfl (pC _ r.2.s [l4, l6, kE] _ [pt b22 (aU [str l4, str l6, str kE] 9)] (.blk (.own .here) rfl rfl) (by simp)) (.cons .here .nil) rfl ?_;rintro _ K _ ⟨rfl, rfl, rfl⟩ -;have hix : -1 ≤ cN [l4, l6, kE] r.2.s ∧ cN [l4, l6, kE] r.2.s ≤ 3 := aHR _ _;refine aA (bZ rfl rfl aH aH) rfl ?_;refine aA (aD (o' := 2) tI rfl rfl) rfl ?_;refine bR (bI ts3 rfl rfl cG a7 (.succ (.succ .zero)) rfl) ?_;rintro _ K _ ⟨rfl, rfl⟩ -;refine aG (aE ?_);refine aI (aI ?_);refine aB ?_;refine aA (aD (o' := 2) tI rfl rfl) rfl ?_;refine aA (aK ts3 rfl aM rfl) rfl ?_;refine aA (bT rfl rfl) rfl ?_;refine aG (aE ?_);refine bE 34 rfl (fun h34 => ?_) (fun h34 => ?_)
      ·
        refine aB ?_;refine aA (aC rfl) rfl ?_;refine aW rfl rfl (gJ b s r (nv :: rest) _) (.cons (.there (.there .here)) .nil) rfl (by rintro _ _ ⟨_, h, _⟩; cases h) ?_ ?_
        ·
          rintro _ _ _ ⟨fb, h, rfl⟩ le1;cases h
          refine aO (.cons .here .nil) ?_;refine aJ ?_;refine aJ ?_;refine bA bP ?_;have hst : iI s r = .error (4, r.2.at_) := (by unfold iI; rw [if_pos aH, if_pos aH]);unfold setC;rw [if_pos hm, hr];simp only [hst];exact ⟨fb, rfl, rfl⟩
        ·
          rintro _ _ _ ⟨_, h, _⟩; cases h
      ·
        refine a6 ?_;refine aE (aB ?_);refine aA (aC rfl) rfl ?_;refine aA bS rfl ?_;refine aA (aD (o' := 0) bV rfl rfl) rfl ?_;refine aW rfl rfl (dF b 208 s r.1 _ _ _ _ (nv :: rest) hs hro.1 _ hg) (.cons (.there (.there .here)) .nil) rfl (fun _ _ => aX _ _) ?_ ?_
        ·
          rintro _ _ _ hT2 le1;obtain ⟨e, p, hr2, fb, h, rfl⟩ := aY hT2;cases h
          refine aO (.cons .here .nil) ?_;refine aJ ?_;refine bA bP ?_;have hst : iI s r = .error (e, p) := (by unfold iI; rw [if_pos aH, if_neg aH, hr2]);unfold setC;rw [if_pos hm, hr];simp only [hst];exact ⟨fb, rfl, rfl⟩
        rintro _ K _ hT2 -;obtain ⟨r2, hr2, rfl, rfl, rfl⟩ := aZ hT2;refine aG ?_
        first
          | (have hst : iI s r = .ok (1 + cN [l4, l6, kE] r.2.s, r2) := (by unfold iI; rw [if_pos aH, if_neg aH, hr2])
             refine aO (.cons (.there (.there .here)) (.cons .here .nil)) ?_;exact zB _ r2 ⟨hst, dR hro.1 hr2⟩ (.cons 0 rfl (.cons 7 rfl .nil)) rfl (fun _ h => h))
          | (have hst : iI s r = .ok (0, r) := (by unfold iI; rw [if_neg aH])
             exact zB 0 r ⟨hst, hro⟩ (.cons 0 rfl (.cons 7 rfl .nil)) rfl (fun _ h => h))
    ·
      refine a6 ?_
      first
        | (have hst : iI s r = .ok (1 + cN [l4, l6, kE] r.2.s, r2) := (by unfold iI; rw [if_pos aH, if_neg aH, hr2])
           refine aO (.cons (.there (.there .here)) (.cons .here .nil)) ?_;exact zB _ r2 ⟨hst, dR hro.1 hr2⟩ (.cons 0 rfl (.cons 7 rfl .nil)) rfl (fun _ h => h))
        | (have hst : iI s r = .ok (0, r) := (by unfold iI; rw [if_neg aH])
           exact zB 0 r ⟨hst, hro⟩ (.cons 0 rfl (.cons 7 rfl .nil)) rfl (fun _ h => h))
  ·
    intro tag st2 ⟨ht, hok2⟩;have hsc : setC s needs st = kC s (tag, st2) := (by unfold setC; rw [if_pos hm, hr]; simp only [ht]);refine aI (aB ?_);refine aA (aC rfl) rfl ?_;refine aW rfl rfl (jC b s st2 (nv :: rest) 262 #[] (fun x => if named x = true then 0 else 7) _ hs hok2.1 hok2.2 hg (fun x hx => aHY x _ aH)) (.cons (.there .here) .nil) rfl (fun _ _ => aX _ _) ?_ ?_
    ·
      rintro _ _ _ hT3 le1;obtain ⟨e, p, h3, fb, h, rfl⟩ := aY hT3;cases h
      refine aO (.cons .here .nil) ?_;refine aJ ?_;refine bA bP ?_;rw [hsc];unfold kC;rw [h3];exact ⟨fb, rfl, rfl⟩
    rintro _ K _ hT3 -;obtain ⟨n, h3, rfl, rfl, rfl⟩ := aZ hT3;have hok3 := kD hok2.1 h3;refine cF rfl rfl (fA _ _ (by have := aLP hok2 h3; omega)) rfl ?_;refine aA (aD (o' := 0) yT rfl rfl) rfl ?_;refine bR (bI ts9 rfl rfl cG a7 .zero rfl) ?_;rintro _ K _ ⟨rfl, rfl⟩ -;refine aG (aE ?_);refine aI (aB ?_);refine aA (aC rfl) rfl ?_;refine aW rfl rfl (jC b s n.2 (nv :: rest) 177 #[] (fun _ => 0) _ hs hok3.1 hok3.2 hg (fun x hx => jI x _)) (.cons .here .nil) rfl (fun _ _ => aX _ _) ?_ ?_
    ·
      rintro _ _ _ hT4 le1;obtain ⟨e, p, h4, fb, h, rfl⟩ := aY hT4;cases h
      refine aO (.cons .here .nil) ?_;refine aJ ?_;refine bA bP ?_;rw [hsc];unfold kC;simp only [h3, h4];exact ⟨fb, rfl, rfl⟩
    rintro _ K _ hT4 -;obtain ⟨v, h4, rfl, rfl, rfl⟩ := aZ hT4;have hok4 := kD hok3.1 h4;refine aA (aD (o' := 1) yU rfl rfl) rfl ?_;refine bR (bI ts9 rfl rfl cG a7 (.succ .zero) rfl) ?_;rintro _ K _ ⟨rfl, rfl⟩ -;refine aG (aE ?_);refine aI (aB ?_);refine aA (aC rfl) rfl ?_;refine aW rfl rfl (iT b s v.2 (nv :: rest) [59] _ hs hok4.1 hg) (.cons .here .nil) rfl (fun _ _ => aX _ _) ?_ ?_
    ·
      rintro _ _ _ hT5 le1;obtain ⟨e, p, h5, fb, h, rfl⟩ := aY hT5;cases h
      refine aO (.cons .here .nil) ?_;refine aJ ?_;refine bA bP ?_;rw [hsc];unfold kC;simp only [h3, h4, h5];exact ⟨fb, rfl, rfl⟩
    rintro _ K _ hT5 -;obtain ⟨q, h5, rfl, rfl, rfl⟩ := aZ hT5;refine aG (aE ?_);refine aI (aB ?_);refine aA (bW aAP rfl aM rfl rfl) rfl ?_;refine aA (cZ Tryz.underlying308 (fun _ h => by cases h) rfl) rfl ?_;refine aA (aF rfl) rfl ?_;refine aG (aE ?_);refine bM ?_;refine aO (.cons .here .nil) ?_;refine bJ rfl rfl (Hl.le_refl _) ?_;have hfin : kC s (tag, st2) = .ok (⟨cU n.1, v.1, tag⟩, q) := (by unfold kC; simp only [h3, h4, h5]);rw [hsc, hfin];exact ⟨_, rfl, rfl, rfl⟩
end Go.Proofs
end
section
namespace Go.Proofs
open Go Go.SL Go.Syn
theorem aHS (xs : List (List UInt8)) (x : List UInt8) : -1 ≤ cN xs x ∧ cN xs x < xs.length := by
 unfold cN;cases h : xs.findIdx? (fun y => decide (x = y)) with
 | some i => rw [List.findIdx?_eq_some_iff_getElem] at h; obtain ⟨hi, _⟩ := h; exact ⟨by show -1 ≤ (i : Int); omega, by show (i : Int) < _; omega⟩
 | none => exact ⟨by show (-1 : Int) ≤ -1; omega, by show (-1 : Int) < _; omega⟩
theorem aOB {op : Int} (h : op = 7) (x : List UInt8) : j9 op x = Syn.oneOf 7 [wZ, txTo] (cU x) := by unfold j9; rw [if_pos h]
theorem aOA {op : Int} (h : ¬ op = 7) (x : List UInt8) : j9 op x = 0 := by unfold j9; rw [if_neg h]
theorem rH (b : Nat) (s : List UInt8) (st : St) (op : Int) (ext : List UInt8) (nv : Value) (rest : List Value) (needs : List (List UInt8)) (K : Hl) (hs : s.length ≤ 600) (hok : Ok s st) (hg : Glob K) (hv : Ksl (bK 9) K nv needs) (hn : needs.length ≤ 1000000) :
    Sp Tryz.prog 173 [ptr b, i64 op, str ext] K [psb b s st (nv :: rest)]
      (fE (iS s needs op ext st) fun r v K' L' => Rep1 K' r.1 v ∧ L' = [psb b s r.2 (nv :: rest)]) := by
  have ha := hok.1;refine bB Tryz.func173 rfl Tryz.ntmps173 rfl rfl fun F w => ?_
  refine aI (aB ?_);refine aA (aF rfl) rfl ?_;refine aG (aE ?_);refine hO (fun (_ : Unit) => ¬ (ext ≠ [] ∧ ext ∉ needs)) (fun _ => [(0, ptr b), (1, i64 op), (2, str ext)]) (fun _ => K) (fun _ => [psb b s st (nv :: rest)]) ?_ ?_
  ·
    refine aI (aB ?_);refine aA (aC rfl) rfl ?_;refine aA (oX rfl rfl) rfl ?_;refine aG (aE ?_);refine bE 12 rfl (fun h12 => ?_) (fun h12 => ?_)
    ·
      refine aB ?_;refine aA (aC rfl) rfl ?_;refine aA (aC rfl) rfl ?_;refine aW rfl rfl (rJ b s st nv rest needs ext _ hv hn) (.cons .here .nil) rfl (fun _ _ => aX _ _) ?_ ?_
      ·
        rintro _ _ _ hTr le1;obtain ⟨e, p, hu, fb, h, rfl⟩ := aY hTr;cases h
        refine aO (.cons .here .nil) ?_;refine aJ ?_;refine bA bP ?_;have hm : ¬ ext ∈ needs := (by intro h; rw [if_pos h] at hu; cases hu);rw [if_neg hm] at hu;cases hu
        unfold iS;rw [if_pos ⟨h12, hm⟩];exact ⟨fb, rfl, rfl⟩
      rintro _ K _ hTr -;obtain ⟨u0, hu, rfl, rfl, rfl⟩ := aZ hTr;clear hTr;have hm : ext ∈ needs := Classical.byContradiction (fun h => by rw [if_neg h] at hu; cases hu);have hne : ¬ (ext ≠ [] ∧ ext ∉ needs) := fun h => h.2 hm
      refine aG ?_;exact bX () hne (.cons 0 rfl (.cons 1 rfl (.cons 2 rfl .nil))) rfl (fun _ h => h)
    ·
      have hne : ¬ (ext ≠ [] ∧ ext ∉ needs) := fun h => h12 h.1
      refine a6 ?_;exact bX () hne (.cons 0 rfl (.cons 1 rfl (.cons 2 rfl .nil))) rfl (fun _ h => h)
  ·
    intro _ hne;refine aI (aB ?_);refine aA (aC rfl) rfl ?_;refine aA bS rfl ?_;refine aA (aD (o' := 0) bV rfl rfl) rfl ?_;refine aW rfl rfl (dF b 208 s st.1 _ _ _ _ (nv :: rest) hs ha _ hg) (.cons .here .nil) rfl (fun _ _ => aX _ _) ?_ ?_
    ·
      rintro _ _ _ hTr le1;obtain ⟨e, p, hr, fb, h, rfl⟩ := aY hTr;cases h
      refine aO (.cons .here .nil) ?_;refine aJ ?_;refine bA bP ?_;simp only [iS, hne, hr, if_true, if_false, ↓reduceIte];exact ⟨fb, rfl, rfl⟩
    rintro _ K _ hTr -;obtain ⟨r, hr, rfl, rfl, rfl⟩ := aZ hTr;clear hTr;have hro := dR ha hr;refine aG (aE ?_);refine aI (aB ?_);refine aA (aC rfl) rfl ?_;refine aA (cK aRG aQB (.cons rfl rfl rfl (.skip (.skip (.cons .nil))) .nil)) rfl ?_;refine ol_s (cO aOT) rfl ?_;rintro _ K _ ⟨b7, rfl, rfl, rfl⟩ -;refine bR (cH aAR rfl rfl rfl a7 (by first | (simp [Value.oneCell']; done) | exact fun c hc => El.one _ _ c hc) (.cons (.cons (.cons (.cons (.cons .nil))))) (by intro j hj; simp)) ?_;rintro _ K _ ⟨rfl, rfl⟩ -;refine aG (aE ?_);refine aI (aI ?_);refine aB ?_;refine aA (aF rfl) rfl ?_;refine aG (aE ?_);refine bF ?_;refine uM (fun (hw : How) (st2 : St) => Ok s st2 ∧ (0 ≤ hw.tag ∧ hw.tag ≤ 3) ∧ ∃ f, mu s st2 ≤ f ∧ iS s needs op ext st = lH s op (d7 s (f + 1) hw st2)) (fun hw _ => [(0, ptr b), (1, i64 op), (7, ptr b7), (8, .bool hw.cmp)]) (fun _ _ => K) (fun hw st2 => [pt b7 (aU [i64 hw.tag, .bool hw.oct, i64 op, .slice none 0 0, .slice none 0 0] 380), psb b s st2 (nv :: rest)]) (fun _ st2 => mu s st2) ⟨false, 0, false⟩ r ⟨hro, ⟨Int.le_refl 0, by decide⟩, mu s r, Nat.le_refl _, by simp only [iS, hne, if_false, hr]⟩ (.cons 0 rfl (.cons 1 rfl (.cons 7 rfl (.cons 8 rfl .nil)))) rfl (fun _ h => h) ?_;intro hw st2 ⟨hok2, ht, f, hf, hx⟩;refine aI (aI ?_);refine aB ?_;refine aA (aC rfl) rfl ?_;refine aA bS rfl ?_;refine aA (aD (o' := 0) bV rfl rfl) rfl ?_;refine aA (aD (o' := 2) cD rfl rfl) rfl ?_;refine aA (aD (o' := 2) eE rfl rfl) rfl ?_;refine aA (aK kK rfl aM rfl) rfl ?_;refine aA (bT rfl rfl) rfl ?_;refine aG (aE ?_);refine bE 28 rfl (fun h28 => ?_) (fun h28 => ?_)
    ·
      have g28 : st2.2.kind = 2 := by omega
      refine a6 ?_;refine aE (bF ?_);refine aI (aB ?_);refine ol_s (bO (z0 := [(str []), (str []), (str []), (str [])]) cT tz9 rfl rfl rfl rfl (.cons rfl rfl rfl (.cons .nil) (.cons rfl rfl rfl (.skip (.cons .nil)) (.cons rfl rfl rfl (.skip (.skip (.cons .nil))) (.cons rfl rfl rfl (.skip (.skip (.skip (.cons .nil)))) .nil))))) rfl ?_;rintro _ K _ ⟨b29, rfl, rfl, rfl⟩ -;refine aA (aC rfl) rfl ?_;refine aA bS rfl ?_;refine aA (aD (o' := 0) bV rfl rfl) rfl ?_;refine aA (aD (o' := 2) cD rfl rfl) rfl ?_;refine aA (aD (o' := 3) fB rfl rfl) rfl ?_;refine aA (aK ts9 rfl aM rfl) rfl ?_;refine bD rfl rfl (pC _ st2.2.s dD _ [pt b29 (aU [str txIs, str wX, str mE, str lZ] 9)] (.blk (.own .here) rfl rfl) (by simp [dD])) (.cons .here .nil) rfl ?_;rintro _ K _ ⟨rfl, rfl, rfl⟩ -;have hix : -1 ≤ cN dD st2.2.s ∧ cN dD st2.2.s < 4 := aHS _ _;refine aA (bZ rfl rfl aH aH) rfl ?_;refine aA (aF rfl) rfl ?_;refine aG (aE ?_);refine bF (aI ?_);refine aB ?_;refine aA (aC rfl) rfl ?_;refine aA (bT rfl rfl) rfl ?_;refine aA (aF rfl) rfl ?_;refine aG (aE ?_);refine bE 49 rfl (fun h49 => ?_) (fun h49 => ?_)
      ·
        have g49 : cN dD st2.2.s = -1 := by omega
        refine aB ?_;refine aA (aC rfl) rfl ?_;refine aW rfl rfl (gJ b s st2 (nv :: rest) _) (.cons (.there (.there .here)) .nil) rfl (by rintro _ _ ⟨_, h, _⟩; cases h) ?_ ?_
        ·
          rintro _ _ _ ⟨fb, h, rfl⟩ le1;cases h
          refine aO (.cons .here .nil) ?_;refine aP ?_;refine aP ?_;refine aJ ?_;refine aP ?_;refine aJ ?_;refine bA bP ?_;simp only [hx, d7, g28, g49, if_true, if_false, ↓reduceIte];exact ⟨fb, rfl, rfl⟩
        ·
          rintro _ _ _ ⟨_, h, _⟩; cases h
      ·
        have g49 : ¬ cN dD st2.2.s = -1 := by omega
        refine aI (aI ?_);refine aB ?_;refine aA (aC rfl) rfl ?_;refine aA (bT rfl rfl) rfl ?_;refine aA (aC rfl) rfl ?_;refine cA 57 rfl (fun g57 => ?_) (fun g57 => ?_)
        ·
          refine aT rfl rfl ?_;refine aA (aC rfl) rfl ?_;refine aA (bH rfl rfl) rfl ?_;refine aA (aF rfl) rfl ?_;refine aG (aE ?_)
          first | refine bE 54 rfl (fun h54 => ?_) (fun h54 => ?_) | refine eB 54 rfl (fun h54 => ?_) (fun h54 => ?_)
          ·
            refine a6 ?_;refine aE ?_;refine eS rfl ?_;refine aB ?_;refine aA (aC rfl) rfl ?_;refine aA bS rfl ?_;refine aA (aD (o' := 0) bV rfl rfl) rfl ?_;refine aA (aD (o' := 2) cD rfl rfl) rfl ?_;refine aA (aD (o' := 5) fK rfl rfl) rfl ?_;refine aA (aK ts3 rfl aM rfl) rfl ?_;have hcond : (cN dD st2.2.s = 3 ∧ hw.cmp = true) ∨ (cN dD st2.2.s < 3 ∧ hw.tag ≠ 0) := (by first | exact .inl ⟨by omega, by assumption⟩ | exact .inr ⟨by omega, by omega⟩);refine aW rfl rfl (dY 7 st2.2.at_ _) .nil rfl (by rintro _ _ ⟨_, h, _⟩; cases h) ?_ ?_
            ·
              rintro _ _ _ ⟨fb, h, rfl⟩ le1;cases h
              refine aO (.cons .here .nil) ?_;refine aP ?_;refine aP ?_;refine aJ ?_;refine aP ?_;refine aJ ?_;refine bA bP ?_;simp only [hx, d7, g28, g49, if_pos hcond, if_true, if_false];exact ⟨fb, rfl, rfl⟩
            ·
              rintro _ _ _ ⟨_, h, _⟩; cases h
          ·
            refine aB ?_;refine aA (aC rfl) rfl ?_;refine aA (dA rfl rfl) rfl ?_;refine aA (aC rfl) rfl ?_;refine cA 62 rfl (fun g62 => ?_) (fun g62 => ?_)
            ·
              refine aT rfl rfl ?_;refine aA (aD (o' := 0) fL rfl rfl) rfl ?_;refine aT rfl rfl ?_;refine aA (aD (o' := 0) jE rfl rfl) rfl ?_;refine aT rfl rfl ?_;refine aA (aK ts3 rfl aM rfl) rfl ?_;refine aT rfl rfl ?_;refine aA (fO rfl rfl) rfl ?_;refine aA (bH rfl rfl) rfl ?_;refine aA (aF rfl) rfl ?_;refine aG (aE ?_)
              first | refine bE 54 rfl (fun h54 => ?_) (fun h54 => ?_) | refine eB 54 rfl (fun h54 => ?_) (fun h54 => ?_)
              ·
                refine aB ?_;refine aA (aC rfl) rfl ?_;refine aA bS rfl ?_;refine aA (aD (o' := 0) bV rfl rfl) rfl ?_;refine aA (aD (o' := 2) cD rfl rfl) rfl ?_;refine aA (aD (o' := 5) fK rfl rfl) rfl ?_;refine aA (aK ts3 rfl aM rfl) rfl ?_;have hcond : (cN dD st2.2.s = 3 ∧ hw.cmp = true) ∨ (cN dD st2.2.s < 3 ∧ hw.tag ≠ 0) := (by first | exact .inl ⟨by omega, by assumption⟩ | exact .inr ⟨by omega, by omega⟩);refine aW rfl rfl (dY 7 st2.2.at_ _) .nil rfl (by rintro _ _ ⟨_, h, _⟩; cases h) ?_ ?_
                ·
                  rintro _ _ _ ⟨fb, h, rfl⟩ le1;cases h
                  refine aO (.cons .here .nil) ?_;refine aP ?_;refine aP ?_;refine aJ ?_;refine aP ?_;refine aJ ?_;refine bA bP ?_;simp only [hx, d7, g28, g49, if_pos hcond, if_true, if_false];exact ⟨fb, rfl, rfl⟩
                ·
                  rintro _ _ _ ⟨_, h, _⟩; cases h
              ·
                refine aI (aB ?_);refine aA (aC rfl) rfl ?_;refine aA (dA rfl rfl) rfl ?_;refine aA (aF rfl) rfl ?_;refine aG (aE ?_);refine bE 75 rfl (fun h75 => ?_) (fun h75 => ?_)
                ·
                  have g75 : cN dD st2.2.s < 3 := by omega
                  have hcond : ¬ ((cN dD st2.2.s = 3 ∧ hw.cmp = true) ∨ (cN dD st2.2.s < 3 ∧ hw.tag ≠ 0)) := (by rintro (⟨a, b⟩ | ⟨a, b⟩) <;> first | omega | (simp_all; done));refine aI (aB ?_);refine aA (aC rfl) rfl ?_;refine aA (aD (o' := 0) fL rfl rfl) rfl ?_;refine aA (aD (o' := 0) jE rfl rfl) rfl ?_;refine bR (bI ts3 rfl rfl cG a7 .zero rfl) ?_;rintro _ K _ ⟨rfl, rfl⟩ -;refine aG (aE ?_);refine aB ?_;refine aA (aC rfl) rfl ?_;refine aA bS rfl ?_;refine aA (aD (o' := 0) bV rfl rfl) rfl ?_;refine aW rfl rfl (dF b 208 s st2.1 _ _ _ _ (nv :: rest) hs hok2.1 _ hg) (.cons (.there (.there .here)) .nil) rfl (fun _ _ => aX _ _) ?_ ?_
                  ·
                    rintro _ _ _ hTr le1;obtain ⟨e, p, hr2, fb, h, rfl⟩ := aY hTr;cases h
                    refine aO (.cons .here .nil) ?_;refine aP ?_;refine aP ?_;refine aJ ?_;refine aP ?_;refine aJ ?_;refine bA bP ?_;simp only [hx, d7, g28, g49, if_neg hcond, if_pos g75, hr2, if_true, if_false, ↓reduceIte];exact ⟨fb, rfl, rfl⟩
                  rintro _ K _ hTr -;obtain ⟨r2, hr2, rfl, rfl, rfl⟩ := aZ hTr;clear hTr;have hok3 := dR hok2.1 hr2;refine aG (aN ?_);refine aN ?_
                  first
                    | (have hm2 := eP hok2.1 aH hr2; obtain ⟨f0, rfl⟩ : ∃ f0, f = f0 + 1 := ⟨f - 1, by omega⟩
                       refine aO (.cons (.there (.there .here)) (.cons .here .nil)) ?_;refine dI ⟨hw.cmp, 1 + cN dD st2.2.s, hw.oct⟩ r2 ⟨hok3, ⟨by simp only []; omega, by simp only []; omega⟩, f0, by omega, ?_⟩ aH (.cons 0 rfl (.cons 1 rfl (.cons 7 rfl (.cons 8 rfl .nil)))) rfl (fun _ h => h)
                       simp only [hx, d7, g28, g49, if_neg hcond, if_pos g75, hr2, if_true, if_false, ↓reduceIte])
                    | (have hm2 := eP hok2.1 aH hr3; have hm3 := gR hok3.1 hx4; obtain ⟨f0, rfl⟩ : ∃ f0, f = f0 + 1 := ⟨f - 1, by omega⟩
                       refine aO (.cons (.there (.there .here)) (.cons .here .nil)) ?_;refine jZ (Hl.le_trans leA leB) ?_;refine dI ⟨true, hw.tag, decide (x.1 = eI)⟩ x.2 ⟨hok4, ht, f0, by omega, ?_⟩ aH (.cons 0 rfl (.cons 1 rfl (.cons 7 rfl (.cons 8 rfl .nil)))) rfl (fun _ h => h)
                       simp only [hx, d7, g28, g49, if_neg hcond, if_pos g75, hr2, if_true, if_false, ↓reduceIte])
                ·
                  have g75 : ¬ cN dD st2.2.s < 3 := by omega
                  have hcond : ¬ ((cN dD st2.2.s = 3 ∧ hw.cmp = true) ∨ (cN dD st2.2.s < 3 ∧ hw.tag ≠ 0)) := (by rintro (⟨a, b⟩ | ⟨a, b⟩) <;> first | omega | (simp_all; done));refine aI (aB ?_);refine aA (aF rfl) rfl ?_;refine aG (aE ?_);refine aI (aB ?_);refine aA (aC rfl) rfl ?_;refine aA bS rfl ?_;refine aA (aD (o' := 0) bV rfl rfl) rfl ?_;refine aW rfl rfl (dF b 208 s st2.1 _ _ _ _ (nv :: rest) hs hok2.1 _ hg) (.cons (.there (.there .here)) .nil) rfl (fun _ _ => aX _ _) ?_ ?_
                  ·
                    rintro _ _ _ hTr le1;obtain ⟨e, p, hr3, fb, h, rfl⟩ := aY hTr;cases h
                    refine aO (.cons .here .nil) ?_;refine aJ ?_;refine aP ?_;refine aP ?_;refine aJ ?_;refine aP ?_;refine aJ ?_;refine bA bP ?_;simp only [hx, d7, g28, g49, if_neg hcond, if_neg g75, hr3, if_true, if_false, ↓reduceIte];exact ⟨fb, rfl, rfl⟩
                  rintro _ K _ hTr -;obtain ⟨r3, hr3, rfl, rfl, rfl⟩ := aZ hTr;clear hTr;have hok3 := dR hok2.1 hr3;refine aG (aE ?_);refine aB ?_;refine aA (aC rfl) rfl ?_;refine ol_s (bO (z0 := [(str []), (str [])]) cT tz9 rfl rfl rfl rfl (.cons rfl rfl rfl (.cons .nil) (.cons rfl rfl rfl (.skip (.cons .nil)) .nil))) rfl ?_;rintro _ K _ ⟨b43, rfl, rfl, rfl⟩ -;refine e7 fun K1 leA hK1 => ?_
                  refine bD rfl rfl (kT 7 _ _ rfl) .nil rfl ?_;rintro _ K2 _ ⟨c1, c2, rfl, hc1, hc2, rfl⟩ leB;refine aW rfl rfl (jC b s r3 (nv :: rest) 192 #[ptr c1, ptr c2] (Syn.oneOf 7 [eI, fD]) _ hs hok3.1 hok3.2 (hg.mono (Hl.le_trans leA leB)) (fun x hx => jU x 7 [eI, fD] _ c1 c2 _ hc1 hc2 (.inr ⟨b43, 0, 2, [str eI, str fD], (0, 0), rfl, ⟨_, leB _ _ hK1⟩, rfl⟩) (by simp))) (.cons .here .nil) rfl (fun _ _ => aX _ _) ?_ ?_
                  ·
                    rintro _ _ _ hTr le1;obtain ⟨e, p, hx4, fb, h, rfl⟩ := aY hTr;cases h
                    refine aO (.cons .here .nil) ?_;refine aP ?_;refine aP ?_;refine aJ ?_;refine aP ?_;refine aJ ?_;refine bA (Hl.le_trans leA (Hl.le_trans leB le1)) ?_;simp only [hx, d7, g28, g49, if_neg hcond, if_neg g75, hr3, hx4, if_true, if_false, ↓reduceIte];exact ⟨fb, rfl, rfl⟩
                  rintro _ K _ hTr -;obtain ⟨x, hx4, rfl, rfl, rfl⟩ := aZ hTr;clear hTr;have hok4 := kD hok3.1 hx4;refine aA (jF rfl rfl) rfl ?_;refine aA (aD (o' := 0) fL rfl rfl) rfl ?_;refine aA (aD (o' := 1) nW rfl rfl) rfl ?_;refine bR (bI ts4 rfl rfl cG a7 (.succ .zero) rfl) ?_;rintro _ K _ ⟨rfl, rfl⟩ -;refine aG (aN ?_);refine aN ?_
                  first
                    | (have hm2 := eP hok2.1 aH hr2; obtain ⟨f0, rfl⟩ : ∃ f0, f = f0 + 1 := ⟨f - 1, by omega⟩
                       refine aO (.cons (.there (.there .here)) (.cons .here .nil)) ?_;refine dI ⟨hw.cmp, 1 + cN dD st2.2.s, hw.oct⟩ r2 ⟨hok3, ⟨by simp only []; omega, by simp only []; omega⟩, f0, by omega, ?_⟩ aH (.cons 0 rfl (.cons 1 rfl (.cons 7 rfl (.cons 8 rfl .nil)))) rfl (fun _ h => h)
                       simp only [hx, d7, g28, g49, if_neg hcond, if_neg g75, hr3, hx4, if_true, if_false, ↓reduceIte])
                    | (have hm2 := eP hok2.1 aH hr3; have hm3 := gR hok3.1 hx4; obtain ⟨f0, rfl⟩ : ∃ f0, f = f0 + 1 := ⟨f - 1, by omega⟩
                       refine aO (.cons (.there (.there .here)) (.cons .here .nil)) ?_;refine jZ (Hl.le_trans leA leB) ?_;refine dI ⟨true, hw.tag, decide (x.1 = eI)⟩ x.2 ⟨hok4, ht, f0, by omega, ?_⟩ aH (.cons 0 rfl (.cons 1 rfl (.cons 7 rfl (.cons 8 rfl .nil)))) rfl (fun _ h => h)
                       simp only [hx, d7, g28, g49, if_neg hcond, if_neg g75, hr3, hx4, if_true, if_false, ↓reduceIte])
            ·
              refine aQ rfl rfl rfl ?_;refine aQ rfl rfl rfl ?_;refine aQ rfl rfl rfl ?_;refine aQ rfl rfl rfl ?_;refine aA (a8 rfl rfl) rfl ?_;refine aA (aF rfl) rfl ?_;refine aG (aE ?_);refine cQ rfl ?_;refine aI (aB ?_);refine aA (aC rfl) rfl ?_;refine aA (dA rfl rfl) rfl ?_;refine aA (aF rfl) rfl ?_;refine aG (aE ?_);refine bE 75 rfl (fun h75 => ?_) (fun h75 => ?_)
              ·
                have g75 : cN dD st2.2.s < 3 := by omega
                have hcond : ¬ ((cN dD st2.2.s = 3 ∧ hw.cmp = true) ∨ (cN dD st2.2.s < 3 ∧ hw.tag ≠ 0)) := (by rintro (⟨a, b⟩ | ⟨a, b⟩) <;> first | omega | (simp_all; done));refine aI (aB ?_);refine aA (aC rfl) rfl ?_;refine aA (aD (o' := 0) fL rfl rfl) rfl ?_;refine aA (aD (o' := 0) jE rfl rfl) rfl ?_;refine bR (bI ts3 rfl rfl cG a7 .zero rfl) ?_;rintro _ K _ ⟨rfl, rfl⟩ -;refine aG (aE ?_);refine aB ?_;refine aA (aC rfl) rfl ?_;refine aA bS rfl ?_;refine aA (aD (o' := 0) bV rfl rfl) rfl ?_;refine aW rfl rfl (dF b 208 s st2.1 _ _ _ _ (nv :: rest) hs hok2.1 _ hg) (.cons (.there (.there .here)) .nil) rfl (fun _ _ => aX _ _) ?_ ?_
                ·
                  rintro _ _ _ hTr le1;obtain ⟨e, p, hr2, fb, h, rfl⟩ := aY hTr;cases h
                  refine aO (.cons .here .nil) ?_;refine aP ?_;refine aP ?_;refine aJ ?_;refine aP ?_;refine aJ ?_;refine bA bP ?_;simp only [hx, d7, g28, g49, if_neg hcond, if_pos g75, hr2, if_true, if_false, ↓reduceIte];exact ⟨fb, rfl, rfl⟩
                rintro _ K _ hTr -;obtain ⟨r2, hr2, rfl, rfl, rfl⟩ := aZ hTr;clear hTr;have hok3 := dR hok2.1 hr2;refine aG (aN ?_);refine aN ?_
                first
                  | (have hm2 := eP hok2.1 aH hr2; obtain ⟨f0, rfl⟩ : ∃ f0, f = f0 + 1 := ⟨f - 1, by omega⟩
                     refine aO (.cons (.there (.there .here)) (.cons .here .nil)) ?_;refine dI ⟨hw.cmp, 1 + cN dD st2.2.s, hw.oct⟩ r2 ⟨hok3, ⟨by simp only []; omega, by simp only []; omega⟩, f0, by omega, ?_⟩ aH (.cons 0 rfl (.cons 1 rfl (.cons 7 rfl (.cons 8 rfl .nil)))) rfl (fun _ h => h)
                     simp only [hx, d7, g28, g49, if_neg hcond, if_pos g75, hr2, if_true, if_false, ↓reduceIte])
                  | (have hm2 := eP hok2.1 aH hr3; have hm3 := gR hok3.1 hx4; obtain ⟨f0, rfl⟩ : ∃ f0, f = f0 + 1 := ⟨f - 1, by omega⟩
                     refine aO (.cons (.there (.there .here)) (.cons .here .nil)) ?_;refine jZ (Hl.le_trans leA leB) ?_;refine dI ⟨true, hw.tag, decide (x.1 = eI)⟩ x.2 ⟨hok4, ht, f0, by omega, ?_⟩ aH (.cons 0 rfl (.cons 1 rfl (.cons 7 rfl (.cons 8 rfl .nil)))) rfl (fun _ h => h)
                     simp only [hx, d7, g28, g49, if_neg hcond, if_pos g75, hr2, if_true, if_false, ↓reduceIte])
              ·
                have g75 : ¬ cN dD st2.2.s < 3 := by omega
                have hcond : ¬ ((cN dD st2.2.s = 3 ∧ hw.cmp = true) ∨ (cN dD st2.2.s < 3 ∧ hw.tag ≠ 0)) := (by rintro (⟨a, b⟩ | ⟨a, b⟩) <;> first | omega | (simp_all; done));refine aI (aB ?_);refine aA (aF rfl) rfl ?_;refine aG (aE ?_);refine aI (aB ?_);refine aA (aC rfl) rfl ?_;refine aA bS rfl ?_;refine aA (aD (o' := 0) bV rfl rfl) rfl ?_;refine aW rfl rfl (dF b 208 s st2.1 _ _ _ _ (nv :: rest) hs hok2.1 _ hg) (.cons (.there (.there .here)) .nil) rfl (fun _ _ => aX _ _) ?_ ?_
                ·
                  rintro _ _ _ hTr le1;obtain ⟨e, p, hr3, fb, h, rfl⟩ := aY hTr;cases h
                  refine aO (.cons .here .nil) ?_;refine aJ ?_;refine aP ?_;refine aP ?_;refine aJ ?_;refine aP ?_;refine aJ ?_;refine bA bP ?_;simp only [hx, d7, g28, g49, if_neg hcond, if_neg g75, hr3, if_true, if_false, ↓reduceIte];exact ⟨fb, rfl, rfl⟩
                rintro _ K _ hTr -;obtain ⟨r3, hr3, rfl, rfl, rfl⟩ := aZ hTr;clear hTr;have hok3 := dR hok2.1 hr3;refine aG (aE ?_);refine aB ?_;refine aA (aC rfl) rfl ?_;refine ol_s (bO (z0 := [(str []), (str [])]) cT tz9 rfl rfl rfl rfl (.cons rfl rfl rfl (.cons .nil) (.cons rfl rfl rfl (.skip (.cons .nil)) .nil))) rfl ?_;rintro _ K _ ⟨b43, rfl, rfl, rfl⟩ -;refine e7 fun K1 leA hK1 => ?_
                refine bD rfl rfl (kT 7 _ _ rfl) .nil rfl ?_;rintro _ K2 _ ⟨c1, c2, rfl, hc1, hc2, rfl⟩ leB;refine aW rfl rfl (jC b s r3 (nv :: rest) 192 #[ptr c1, ptr c2] (Syn.oneOf 7 [eI, fD]) _ hs hok3.1 hok3.2 (hg.mono (Hl.le_trans leA leB)) (fun x hx => jU x 7 [eI, fD] _ c1 c2 _ hc1 hc2 (.inr ⟨b43, 0, 2, [str eI, str fD], (0, 0), rfl, ⟨_, leB _ _ hK1⟩, rfl⟩) (by simp))) (.cons .here .nil) rfl (fun _ _ => aX _ _) ?_ ?_
                ·
                  rintro _ _ _ hTr le1;obtain ⟨e, p, hx4, fb, h, rfl⟩ := aY hTr;cases h
                  refine aO (.cons .here .nil) ?_;refine aP ?_;refine aP ?_;refine aJ ?_;refine aP ?_;refine aJ ?_;refine bA (Hl.le_trans leA (Hl.le_trans leB le1)) ?_;simp only [hx, d7, g28, g49, if_neg hcond, if_neg g75, hr3, hx4, if_true, if_false, ↓reduceIte];exact ⟨fb, rfl, rfl⟩
                rintro _ K _ hTr -;obtain ⟨x, hx4, rfl, rfl, rfl⟩ := aZ hTr;clear hTr;have hok4 := kD hok3.1 hx4;refine aA (jF rfl rfl) rfl ?_;refine aA (aD (o' := 0) fL rfl rfl) rfl ?_;refine aA (aD (o' := 1) nW rfl rfl) rfl ?_;refine bR (bI ts4 rfl rfl cG a7 (.succ .zero) rfl) ?_;rintro _ K _ ⟨rfl, rfl⟩ -;refine aG (aN ?_);refine aN ?_
                first
                  | (have hm2 := eP hok2.1 aH hr2; obtain ⟨f0, rfl⟩ : ∃ f0, f = f0 + 1 := ⟨f - 1, by omega⟩
                     refine aO (.cons (.there (.there .here)) (.cons .here .nil)) ?_;refine dI ⟨hw.cmp, 1 + cN dD st2.2.s, hw.oct⟩ r2 ⟨hok3, ⟨by simp only []; omega, by simp only []; omega⟩, f0, by omega, ?_⟩ aH (.cons 0 rfl (.cons 1 rfl (.cons 7 rfl (.cons 8 rfl .nil)))) rfl (fun _ h => h)
                     simp only [hx, d7, g28, g49, if_neg hcond, if_neg g75, hr3, hx4, if_true, if_false, ↓reduceIte])
                  | (have hm2 := eP hok2.1 aH hr3; have hm3 := gR hok3.1 hx4; obtain ⟨f0, rfl⟩ : ∃ f0, f = f0 + 1 := ⟨f - 1, by omega⟩
                     refine aO (.cons (.there (.there .here)) (.cons .here .nil)) ?_;refine jZ (Hl.le_trans leA leB) ?_;refine dI ⟨true, hw.tag, decide (x.1 = eI)⟩ x.2 ⟨hok4, ht, f0, by omega, ?_⟩ aH (.cons 0 rfl (.cons 1 rfl (.cons 7 rfl (.cons 8 rfl .nil)))) rfl (fun _ h => h)
                     simp only [hx, d7, g28, g49, if_neg hcond, if_neg g75, hr3, hx4, if_true, if_false, ↓reduceIte])
        ·
          refine aQ rfl rfl rfl ?_;refine aA (a8 rfl rfl) rfl ?_;refine aA (aF rfl) rfl ?_;refine aG (aE ?_);refine cQ rfl ?_;refine aB ?_;refine aA (aC rfl) rfl ?_;refine aA (dA rfl rfl) rfl ?_;refine aA (aC rfl) rfl ?_;refine cA 62 rfl (fun g62 => ?_) (fun g62 => ?_)
          ·
            refine aT rfl rfl ?_;refine aA (aD (o' := 0) fL rfl rfl) rfl ?_;refine aT rfl rfl ?_;refine aA (aD (o' := 0) jE rfl rfl) rfl ?_;refine aT rfl rfl ?_;refine aA (aK ts3 rfl aM rfl) rfl ?_;refine aT rfl rfl ?_;refine aA (fO rfl rfl) rfl ?_;refine aA (bH rfl rfl) rfl ?_;refine aA (aF rfl) rfl ?_;refine aG (aE ?_)
            first | refine bE 54 rfl (fun h54 => ?_) (fun h54 => ?_) | refine eB 54 rfl (fun h54 => ?_) (fun h54 => ?_)
            ·
              refine aB ?_;refine aA (aC rfl) rfl ?_;refine aA bS rfl ?_;refine aA (aD (o' := 0) bV rfl rfl) rfl ?_;refine aA (aD (o' := 2) cD rfl rfl) rfl ?_;refine aA (aD (o' := 5) fK rfl rfl) rfl ?_;refine aA (aK ts3 rfl aM rfl) rfl ?_;have hcond : (cN dD st2.2.s = 3 ∧ hw.cmp = true) ∨ (cN dD st2.2.s < 3 ∧ hw.tag ≠ 0) := (by first | exact .inl ⟨by omega, by assumption⟩ | exact .inr ⟨by omega, by omega⟩);refine aW rfl rfl (dY 7 st2.2.at_ _) .nil rfl (by rintro _ _ ⟨_, h, _⟩; cases h) ?_ ?_
              ·
                rintro _ _ _ ⟨fb, h, rfl⟩ le1;cases h
                refine aO (.cons .here .nil) ?_;refine aP ?_;refine aP ?_;refine aJ ?_;refine aP ?_;refine aJ ?_;refine bA bP ?_;simp only [hx, d7, g28, g49, if_pos hcond, if_true, if_false];exact ⟨fb, rfl, rfl⟩
              ·
                rintro _ _ _ ⟨_, h, _⟩; cases h
            ·
              refine aI (aB ?_);refine aA (aC rfl) rfl ?_;refine aA (dA rfl rfl) rfl ?_;refine aA (aF rfl) rfl ?_;refine aG (aE ?_);refine bE 75 rfl (fun h75 => ?_) (fun h75 => ?_)
              ·
                have g75 : cN dD st2.2.s < 3 := by omega
                have hcond : ¬ ((cN dD st2.2.s = 3 ∧ hw.cmp = true) ∨ (cN dD st2.2.s < 3 ∧ hw.tag ≠ 0)) := (by rintro (⟨a, b⟩ | ⟨a, b⟩) <;> first | omega | (simp_all; done));refine aI (aB ?_);refine aA (aC rfl) rfl ?_;refine aA (aD (o' := 0) fL rfl rfl) rfl ?_;refine aA (aD (o' := 0) jE rfl rfl) rfl ?_;refine bR (bI ts3 rfl rfl cG a7 .zero rfl) ?_;rintro _ K _ ⟨rfl, rfl⟩ -;refine aG (aE ?_);refine aB ?_;refine aA (aC rfl) rfl ?_;refine aA bS rfl ?_;refine aA (aD (o' := 0) bV rfl rfl) rfl ?_;refine aW rfl rfl (dF b 208 s st2.1 _ _ _ _ (nv :: rest) hs hok2.1 _ hg) (.cons (.there (.there .here)) .nil) rfl (fun _ _ => aX _ _) ?_ ?_
                ·
                  rintro _ _ _ hTr le1;obtain ⟨e, p, hr2, fb, h, rfl⟩ := aY hTr;cases h
                  refine aO (.cons .here .nil) ?_;refine aP ?_;refine aP ?_;refine aJ ?_;refine aP ?_;refine aJ ?_;refine bA bP ?_;simp only [hx, d7, g28, g49, if_neg hcond, if_pos g75, hr2, if_true, if_false, ↓reduceIte];exact ⟨fb, rfl, rfl⟩
                rintro _ K _ hTr -;obtain ⟨r2, hr2, rfl, rfl, rfl⟩ := aZ hTr;clear hTr;have hok3 := dR hok2.1 hr2;refine aG (aN ?_);refine aN ?_
                first
                  | (have hm2 := eP hok2.1 aH hr2; obtain ⟨f0, rfl⟩ : ∃ f0, f = f0 + 1 := ⟨f - 1, by omega⟩
                     refine aO (.cons (.there (.there .here)) (.cons .here .nil)) ?_;refine dI ⟨hw.cmp, 1 + cN dD st2.2.s, hw.oct⟩ r2 ⟨hok3, ⟨by simp only []; omega, by simp only []; omega⟩, f0, by omega, ?_⟩ aH (.cons 0 rfl (.cons 1 rfl (.cons 7 rfl (.cons 8 rfl .nil)))) rfl (fun _ h => h)
                     simp only [hx, d7, g28, g49, if_neg hcond, if_pos g75, hr2, if_true, if_false, ↓reduceIte])
                  | (have hm2 := eP hok2.1 aH hr3; have hm3 := gR hok3.1 hx4; obtain ⟨f0, rfl⟩ : ∃ f0, f = f0 + 1 := ⟨f - 1, by omega⟩
                     refine aO (.cons (.there (.there .here)) (.cons .here .nil)) ?_;refine jZ (Hl.le_trans leA leB) ?_;refine dI ⟨true, hw.tag, decide (x.1 = eI)⟩ x.2 ⟨hok4, ht, f0, by omega, ?_⟩ aH (.cons 0 rfl (.cons 1 rfl (.cons 7 rfl (.cons 8 rfl .nil)))) rfl (fun _ h => h)
                     simp only [hx, d7, g28, g49, if_neg hcond, if_pos g75, hr2, if_true, if_false, ↓reduceIte])
              ·
                have g75 : ¬ cN dD st2.2.s < 3 := by omega
                have hcond : ¬ ((cN dD st2.2.s = 3 ∧ hw.cmp = true) ∨ (cN dD st2.2.s < 3 ∧ hw.tag ≠ 0)) := (by rintro (⟨a, b⟩ | ⟨a, b⟩) <;> first | omega | (simp_all; done));refine aI (aB ?_);refine aA (aF rfl) rfl ?_;refine aG (aE ?_);refine aI (aB ?_);refine aA (aC rfl) rfl ?_;refine aA bS rfl ?_;refine aA (aD (o' := 0) bV rfl rfl) rfl ?_;refine aW rfl rfl (dF b 208 s st2.1 _ _ _ _ (nv :: rest) hs hok2.1 _ hg) (.cons (.there (.there .here)) .nil) rfl (fun _ _ => aX _ _) ?_ ?_
                ·
                  rintro _ _ _ hTr le1;obtain ⟨e, p, hr3, fb, h, rfl⟩ := aY hTr;cases h
                  refine aO (.cons .here .nil) ?_;refine aJ ?_;refine aP ?_;refine aP ?_;refine aJ ?_;refine aP ?_;refine aJ ?_;refine bA bP ?_;simp only [hx, d7, g28, g49, if_neg hcond, if_neg g75, hr3, if_true, if_false, ↓reduceIte];exact ⟨fb, rfl, rfl⟩
                rintro _ K _ hTr -;obtain ⟨r3, hr3, rfl, rfl, rfl⟩ := aZ hTr;clear hTr;have hok3 := dR hok2.1 hr3;refine aG (aE ?_);refine aB ?_;refine aA (aC rfl) rfl ?_;refine ol_s (bO (z0 := [(str []), (str [])]) cT tz9 rfl rfl rfl rfl (.cons rfl rfl rfl (.cons .nil) (.cons rfl rfl rfl (.skip (.cons .nil)) .nil))) rfl ?_;rintro _ K _ ⟨b43, rfl, rfl, rfl⟩ -;refine e7 fun K1 leA hK1 => ?_
                refine bD rfl rfl (kT 7 _ _ rfl) .nil rfl ?_;rintro _ K2 _ ⟨c1, c2, rfl, hc1, hc2, rfl⟩ leB;refine aW rfl rfl (jC b s r3 (nv :: rest) 192 #[ptr c1, ptr c2] (Syn.oneOf 7 [eI, fD]) _ hs hok3.1 hok3.2 (hg.mono (Hl.le_trans leA leB)) (fun x hx => jU x 7 [eI, fD] _ c1 c2 _ hc1 hc2 (.inr ⟨b43, 0, 2, [str eI, str fD], (0, 0), rfl, ⟨_, leB _ _ hK1⟩, rfl⟩) (by simp))) (.cons .here .nil) rfl (fun _ _ => aX _ _) ?_ ?_
                ·
                  rintro _ _ _ hTr le1;obtain ⟨e, p, hx4, fb, h, rfl⟩ := aY hTr;cases h
                  refine aO (.cons .here .nil) ?_;refine aP ?_;refine aP ?_;refine aJ ?_;refine aP ?_;refine aJ ?_;refine bA (Hl.le_trans leA (Hl.le_trans leB le1)) ?_;simp only [hx, d7, g28, g49, if_neg hcond, if_neg g75, hr3, hx4, if_true, if_false, ↓reduceIte];exact ⟨fb, rfl, rfl⟩
                rintro _ K _ hTr -;obtain ⟨x, hx4, rfl, rfl, rfl⟩ := aZ hTr;clear hTr;have hok4 := kD hok3.1 hx4;refine aA (jF rfl rfl) rfl ?_;refine aA (aD (o' := 0) fL rfl rfl) rfl ?_;refine aA (aD (o' := 1) nW rfl rfl) rfl ?_;refine bR (bI ts4 rfl rfl cG a7 (.succ .zero) rfl) ?_;rintro _ K _ ⟨rfl, rfl⟩ -;refine aG (aN ?_);refine aN ?_
                first
                  | (have hm2 := eP hok2.1 aH hr2; obtain ⟨f0, rfl⟩ : ∃ f0, f = f0 + 1 := ⟨f - 1, by omega⟩
                     refine aO (.cons (.there (.there .here)) (.cons .here .nil)) ?_;refine dI ⟨hw.cmp, 1 + cN dD st2.2.s, hw.oct⟩ r2 ⟨hok3, ⟨by simp only []; omega, by simp only []; omega⟩, f0, by omega, ?_⟩ aH (.cons 0 rfl (.cons 1 rfl (.cons 7 rfl (.cons 8 rfl .nil)))) rfl (fun _ h => h)
                     simp only [hx, d7, g28, g49, if_neg hcond, if_neg g75, hr3, hx4, if_true, if_false, ↓reduceIte])
                  | (have hm2 := eP hok2.1 aH hr3; have hm3 := gR hok3.1 hx4; obtain ⟨f0, rfl⟩ : ∃ f0, f = f0 + 1 := ⟨f - 1, by omega⟩
                     refine aO (.cons (.there (.there .here)) (.cons .here .nil)) ?_;refine jZ (Hl.le_trans leA leB) ?_;refine dI ⟨true, hw.tag, decide (x.1 = eI)⟩ x.2 ⟨hok4, ht, f0, by omega, ?_⟩ aH (.cons 0 rfl (.cons 1 rfl (.cons 7 rfl (.cons 8 rfl .nil)))) rfl (fun _ h => h)
                     simp only [hx, d7, g28, g49, if_neg hcond, if_neg g75, hr3, hx4, if_true, if_false, ↓reduceIte])
          ·
            refine aQ rfl rfl rfl ?_;refine aQ rfl rfl rfl ?_;refine aQ rfl rfl rfl ?_;refine aQ rfl rfl rfl ?_;refine aA (a8 rfl rfl) rfl ?_;refine aA (aF rfl) rfl ?_;refine aG (aE ?_);refine cQ rfl ?_;refine aI (aB ?_);refine aA (aC rfl) rfl ?_;refine aA (dA rfl rfl) rfl ?_;refine aA (aF rfl) rfl ?_;refine aG (aE ?_);refine bE 75 rfl (fun h75 => ?_) (fun h75 => ?_)
            ·
              have g75 : cN dD st2.2.s < 3 := by omega
              have hcond : ¬ ((cN dD st2.2.s = 3 ∧ hw.cmp = true) ∨ (cN dD st2.2.s < 3 ∧ hw.tag ≠ 0)) := (by rintro (⟨a, b⟩ | ⟨a, b⟩) <;> first | omega | (simp_all; done));refine aI (aB ?_);refine aA (aC rfl) rfl ?_;refine aA (aD (o' := 0) fL rfl rfl) rfl ?_;refine aA (aD (o' := 0) jE rfl rfl) rfl ?_;refine bR (bI ts3 rfl rfl cG a7 .zero rfl) ?_;rintro _ K _ ⟨rfl, rfl⟩ -;refine aG (aE ?_);refine aB ?_;refine aA (aC rfl) rfl ?_;refine aA bS rfl ?_;refine aA (aD (o' := 0) bV rfl rfl) rfl ?_;refine aW rfl rfl (dF b 208 s st2.1 _ _ _ _ (nv :: rest) hs hok2.1 _ hg) (.cons (.there (.there .here)) .nil) rfl (fun _ _ => aX _ _) ?_ ?_
              ·
                rintro _ _ _ hTr le1;obtain ⟨e, p, hr2, fb, h, rfl⟩ := aY hTr;cases h
                refine aO (.cons .here .nil) ?_;refine aP ?_;refine aP ?_;refine aJ ?_;refine aP ?_;refine aJ ?_;refine bA bP ?_;simp only [hx, d7, g28, g49, if_neg hcond, if_pos g75, hr2, if_true, if_false, ↓reduceIte];exact ⟨fb, rfl, rfl⟩
              rintro _ K _ hTr -;obtain ⟨r2, hr2, rfl, rfl, rfl⟩ := aZ hTr;clear hTr;have hok3 := dR hok2.1 hr2;refine aG (aN ?_);refine aN ?_
              first
                | (have hm2 := eP hok2.1 aH hr2; obtain ⟨f0, rfl⟩ : ∃ f0, f = f0 + 1 := ⟨f - 1, by omega⟩
                   refine aO (.cons (.there (.there .here)) (.cons .here .nil)) ?_;refine dI ⟨hw.cmp, 1 + cN dD st2.2.s, hw.oct⟩ r2 ⟨hok3, ⟨by simp only []; omega, by simp only []; omega⟩, f0, by omega, ?_⟩ aH (.cons 0 rfl (.cons 1 rfl (.cons 7 rfl (.cons 8 rfl .nil)))) rfl (fun _ h => h)
                   simp only [hx, d7, g28, g49, if_neg hcond, if_pos g75, hr2, if_true, if_false, ↓reduceIte])
                | (have hm2 := eP hok2.1 aH hr3; have hm3 := gR hok3.1 hx4; obtain ⟨f0, rfl⟩ : ∃ f0, f = f0 + 1 := ⟨f - 1, by omega⟩
                   refine aO (.cons (.there (.there .here)) (.cons .here .nil)) ?_;refine jZ (Hl.le_trans leA leB) ?_;refine dI ⟨true, hw.tag, decide (x.1 = eI)⟩ x.2 ⟨hok4, ht, f0, by omega, ?_⟩ aH (.cons 0 rfl (.cons 1 rfl (.cons 7 rfl (.cons 8 rfl .nil)))) rfl (fun _ h => h)
                   simp only [hx, d7, g28, g49, if_neg hcond, if_pos g75, hr2, if_true, if_false, ↓reduceIte])
            ·
              have g75 : ¬ cN dD st2.2.s < 3 := by omega
              have hcond : ¬ ((cN dD st2.2.s = 3 ∧ hw.cmp = true) ∨ (cN dD st2.2.s < 3 ∧ hw.tag ≠ 0)) := (by rintro (⟨a, b⟩ | ⟨a, b⟩) <;> first | omega | (simp_all; done));refine aI (aB ?_);refine aA (aF rfl) rfl ?_;refine aG (aE ?_);refine aI (aB ?_);refine aA (aC rfl) rfl ?_;refine aA bS rfl ?_;refine aA (aD (o' := 0) bV rfl rfl) rfl ?_;refine aW rfl rfl (dF b 208 s st2.1 _ _ _ _ (nv :: rest) hs hok2.1 _ hg) (.cons (.there (.there .here)) .nil) rfl (fun _ _ => aX _ _) ?_ ?_
              ·
                rintro _ _ _ hTr le1;obtain ⟨e, p, hr3, fb, h, rfl⟩ := aY hTr;cases h
                refine aO (.cons .here .nil) ?_;refine aJ ?_;refine aP ?_;refine aP ?_;refine aJ ?_;refine aP ?_;refine aJ ?_;refine bA bP ?_;simp only [hx, d7, g28, g49, if_neg hcond, if_neg g75, hr3, if_true, if_false, ↓reduceIte];exact ⟨fb, rfl, rfl⟩
              rintro _ K _ hTr -;obtain ⟨r3, hr3, rfl, rfl, rfl⟩ := aZ hTr;clear hTr;have hok3 := dR hok2.1 hr3;refine aG (aE ?_);refine aB ?_;refine aA (aC rfl) rfl ?_;refine ol_s (bO (z0 := [(str []), (str [])]) cT tz9 rfl rfl rfl rfl (.cons rfl rfl rfl (.cons .nil) (.cons rfl rfl rfl (.skip (.cons .nil)) .nil))) rfl ?_;rintro _ K _ ⟨b43, rfl, rfl, rfl⟩ -;refine e7 fun K1 leA hK1 => ?_
              refine bD rfl rfl (kT 7 _ _ rfl) .nil rfl ?_;rintro _ K2 _ ⟨c1, c2, rfl, hc1, hc2, rfl⟩ leB;refine aW rfl rfl (jC b s r3 (nv :: rest) 192 #[ptr c1, ptr c2] (Syn.oneOf 7 [eI, fD]) _ hs hok3.1 hok3.2 (hg.mono (Hl.le_trans leA leB)) (fun x hx => jU x 7 [eI, fD] _ c1 c2 _ hc1 hc2 (.inr ⟨b43, 0, 2, [str eI, str fD], (0, 0), rfl, ⟨_, leB _ _ hK1⟩, rfl⟩) (by simp))) (.cons .here .nil) rfl (fun _ _ => aX _ _) ?_ ?_
              ·
                rintro _ _ _ hTr le1;obtain ⟨e, p, hx4, fb, h, rfl⟩ := aY hTr;cases h
                refine aO (.cons .here .nil) ?_;refine aP ?_;refine aP ?_;refine aJ ?_;refine aP ?_;refine aJ ?_;refine bA (Hl.le_trans leA (Hl.le_trans leB le1)) ?_;simp only [hx, d7, g28, g49, if_neg hcond, if_neg g75, hr3, hx4, if_true, if_false, ↓reduceIte];exact ⟨fb, rfl, rfl⟩
              rintro _ K _ hTr -;obtain ⟨x, hx4, rfl, rfl, rfl⟩ := aZ hTr;clear hTr;have hok4 := kD hok3.1 hx4;refine aA (jF rfl rfl) rfl ?_;refine aA (aD (o' := 0) fL rfl rfl) rfl ?_;refine aA (aD (o' := 1) nW rfl rfl) rfl ?_;refine bR (bI ts4 rfl rfl cG a7 (.succ .zero) rfl) ?_;rintro _ K _ ⟨rfl, rfl⟩ -;refine aG (aN ?_);refine aN ?_
              first
                | (have hm2 := eP hok2.1 aH hr2; obtain ⟨f0, rfl⟩ : ∃ f0, f = f0 + 1 := ⟨f - 1, by omega⟩
                   refine aO (.cons (.there (.there .here)) (.cons .here .nil)) ?_;refine dI ⟨hw.cmp, 1 + cN dD st2.2.s, hw.oct⟩ r2 ⟨hok3, ⟨by simp only []; omega, by simp only []; omega⟩, f0, by omega, ?_⟩ aH (.cons 0 rfl (.cons 1 rfl (.cons 7 rfl (.cons 8 rfl .nil)))) rfl (fun _ h => h)
                   simp only [hx, d7, g28, g49, if_neg hcond, if_neg g75, hr3, hx4, if_true, if_false, ↓reduceIte])
                | (have hm2 := eP hok2.1 aH hr3; have hm3 := gR hok3.1 hx4; obtain ⟨f0, rfl⟩ : ∃ f0, f = f0 + 1 := ⟨f - 1, by omega⟩
                   refine aO (.cons (.there (.there .here)) (.cons .here .nil)) ?_;refine jZ (Hl.le_trans leA leB) ?_;refine dI ⟨true, hw.tag, decide (x.1 = eI)⟩ x.2 ⟨hok4, ht, f0, by omega, ?_⟩ aH (.cons 0 rfl (.cons 1 rfl (.cons 7 rfl (.cons 8 rfl .nil)))) rfl (fun _ h => h)
                   simp only [hx, d7, g28, g49, if_neg hcond, if_neg g75, hr3, hx4, if_true, if_false, ↓reduceIte])
    ·
      have g28 : ¬ st2.2.kind = 2 := by omega
      refine cY ?_;refine aV ?_;refine aV ?_;refine bL ?_;refine aE (aI ?_);refine aB ?_;refine aA (aD (o' := 0) fL rfl rfl) rfl ?_;refine aA (aD (o' := 0) jE rfl rfl) rfl ?_;refine aA (aK ts3 rfl aM rfl) rfl ?_;refine aA (aJ0 rfl rfl) rfl ?_;refine aA (aD (o' := 0) fL rfl rfl) rfl ?_;refine aA (aD (o' := 0) jE rfl rfl) rfl ?_;refine bR (bI ts3 rfl rfl cG a7 .zero rfl) ?_;rintro _ K _ ⟨rfl, rfl⟩ -;refine aG (aE ?_);refine aI (aB ?_);refine aA (aF rfl) rfl ?_;refine aG (aE ?_);refine hO (fun (fn : FuncId) => ∀ x : List UInt8, x.length ≤ 600 → Sp Tryz.prog fn [str x] K [] (Val (i64 (j9 op x)) K)) (fun fn => [(0, ptr b), (7, ptr b7), (10, .func (.func fn) #[] #[])]) (fun _ => K) (fun _ => [pt b7 (aU [i64 (if 1 > hw.tag then 1 else hw.tag), .bool hw.oct, i64 op, .slice none 0 0, .slice none 0 0] 380), psb b s st2 (nv :: rest)]) ?_ ?_
      ·
        refine aI (aB ?_);refine aA (aC rfl) rfl ?_;refine aA (bT rfl rfl) rfl ?_;refine aG (aE ?_);refine bE 92 rfl (fun h92 => ?_) (fun h92 => ?_)
        ·
          refine aB ?_;refine aA (aF rfl) rfl ?_;refine aG ?_
          first
            | exact bX 265 (fun x hx => by rw [aOB h92]; exact tY x _ aH) (.cons 0 rfl (.cons 7 rfl (.cons 10 rfl .nil))) rfl (fun _ h => h)
            | exact bX 177 (fun x hx => by rw [aOA h92]; exact jI x _) (.cons 0 rfl (.cons 7 rfl (.cons 10 rfl .nil))) rfl (fun _ h => h)
        ·
          refine a6 ?_
          first
            | exact bX 265 (fun x hx => by rw [aOB h92]; exact tY x _ aH) (.cons 0 rfl (.cons 7 rfl (.cons 10 rfl .nil))) rfl (fun _ h => h)
            | exact bX 177 (fun x hx => by rw [aOA h92]; exact jI x _) (.cons 0 rfl (.cons 7 rfl (.cons 10 rfl .nil))) rfl (fun _ h => h)
      ·
        intro fn hfn;refine aI (aB ?_);refine aA (aC rfl) rfl ?_;refine aA (aC rfl) rfl ?_;refine aW rfl rfl (oG b s st2 (nv :: rest) fn #[] (j9 op) _ hs hok2 hg hfn) (.cons (.there .here) .nil) rfl (fun _ _ => aX _ _) ?_ ?_
        ·
          rintro _ _ _ hTr le1;obtain ⟨e, p, ha1, fb, h, rfl⟩ := aY hTr;cases h
          refine aO (.cons .here .nil) ?_;refine aJ ?_;refine bA bP ?_;simp only [hx, d7, lH, g28, ha1, if_true, if_false, ↓reduceIte];exact ⟨fb, rfl, rfl⟩
        rintro _ K _ hTr -;obtain ⟨va, ha1, rfl, rfl⟩ := aZ hTr;clear hTr;have hok3 := (lC hok2 ha1).1;refine gI fun K1 leA hA => ?_
        have oA := hA.one;refine aA (aD (o' := 3) yW rfl rfl) rfl ?_;refine bR (bI ts39 rfl rfl cG a7 (.succ (.succ (.succ .zero))) rfl) ?_;rintro _ K _ ⟨rfl, rfl⟩ -;refine aG (aE ?_);refine aI (aB ?_);refine aA (aC rfl) rfl ?_;refine aW rfl rfl (oG b s va.2 (nv :: rest) 177 #[] (fun _ => 0) _ hs hok3 (hg.mono leA) (fun x hx => jI x _)) (.cons .here .nil) rfl (fun _ _ => aX _ _) ?_ ?_
        ·
          rintro _ _ _ hTr le1;obtain ⟨e, p, hb1, fb, h, rfl⟩ := aY hTr;cases h
          refine aO (.cons .here .nil) ?_;refine aJ ?_;refine bA (Hl.le_trans leA le1) ?_;simp only [hx, d7, lH, g28, ha1, hb1, if_true, if_false, ↓reduceIte];exact ⟨fb, rfl, rfl⟩
        rintro _ K _ hTr -;obtain ⟨vb, hb1, rfl, rfl⟩ := aZ hTr;clear hTr;refine gI fun K2 leB hB => ?_
        have oB := hB.one;refine aA (aD (o' := 4) yX rfl rfl) rfl ?_;refine bR (bI ts39 rfl rfl cG a7 (.succ (.succ (.succ (.succ .zero)))) rfl) ?_;rintro _ K _ ⟨rfl, rfl⟩ -;refine aG (aE ?_);refine aI (aB ?_);refine aA (bW aAR rfl aM rfl rfl) rfl ?_;refine aA (cZ Tryz.underlying380 (fun _ h => by cases h) rfl) rfl ?_;refine aA (aF rfl) rfl ?_;refine aG (aE ?_);refine bM ?_;refine aO (.cons .here .nil) ?_;refine bJ rfl rfl (Hl.le_trans leA leB) ?_;simp only [hx, d7, lH, g28, ha1, hb1, if_true, if_false, ↓reduceIte];exact ⟨_, rfl, ⟨_, _, rfl, _, _, hA.mono leB, hB, rfl⟩, rfl⟩
end Go.Proofs
end
section
namespace Go.Syn
def Adv {α : Type} (s : aL) (T : St → Res (α × St)) : Prop := ∀ st r, Ok s st → T st = .ok r → Ok s r.2 ∧ mu s r.2 < mu s st
def AdvE {α : Type} (s : aL) (T : St → Res (α × St)) : Prop := ∀ st r, Ok s st → T st = .ok r → Ok s r.2 ∧ mu s r.2 ≤ mu s st
def AdvN {α : Type} (s : aL) (T : St → Res (α × St)) : Prop := ∀ st r, Ok s st → st.2.kind ≠ 0 → T st = .ok r → Ok s r.2 ∧ mu s r.2 < mu s st
theorem Adv.n {α : Type} {s : aL} {T : St → Res (α × St)} (h : Adv s T) : AdvN s T := fun st r hok _ e => h st r hok e
variable {s : aL}
theorem dL {st r : St} (hok : Ok s st) (hk : st.2.kind ≠ 0) (h : next s st.1 = .ok r) : Ok s r ∧ mu s r < mu s st := ⟨dR hok.1 h, (eP hok.1 hk h).1⟩
theorem nS {st : St} {k : Nat} {texts : List aL} {r : Word × St} (hok : Ok s st) (hk : k ≠ 0) (h : take s st k texts = .ok r) : Ok s r.2 ∧ mu s r.2 < mu s st := ⟨sL hok.1 h, (aAT hok.1 hk h).1⟩
theorem fH {st r : St} {x : aL} (hok : Ok s st) (h : sign s st x = .ok r) : Ok s r ∧ mu s r < mu s st := ⟨uK hok.1 h, (qA hok.1 h).1⟩
theorem pV {st : St} {x : aL} {r : Bool × St} (hok : Ok s st) (h : eat s st x = .ok r) : Ok s r.2 ∧ mu s r.2 ≤ mu s st := ⟨sY hok h, (oV hok.1 h).2.1⟩
theorem lM {st : St} {ff : aL → Int} {r : aL × St} (hok : Ok s st) (h : text s st ff = .ok r) : Ok s r.2 ∧ mu s r.2 < mu s st := ⟨kD hok.1 h, (gR hok.1 h).1⟩
theorem yL : ∀ {f : Nat} {h : How} {st : St} {r : How × St}, Ok s st → d7 s f h st = .ok r → Ok s r.2 ∧ mu s r.2 ≤ mu s st := by
 intro f;induction f with
 | zero => intro h st r _ e; cases e
 | succ f ih =>
  intro h st r hok e;simp only [d7] at e;split at e
  ·rename_i hk;split at e
   ·cases e
   split at e
   ·cases e
   split at e
   ·split at e
    ·cases e
    ·rename_i q hq;have h1 := dL hok aH hq;have := ih h1.1 e; exact ⟨this.1, by omega⟩
   ·split at e
    ·cases e
    ·rename_i q hq;have h1 := dL hok aH hq;split at e
     ·cases e
     ·rename_i x hx;have h2 := lM h1.1 hx;have := ih h2.1 e; exact ⟨this.1, by omega⟩
  ·cases e; exact ⟨hok, Nat.le_refl _⟩
theorem rF {needs : List aL} {op : Int} {ext : aL} : AdvN s (iS s needs op ext) := by
 intro st r hok hk e;unfold iS at e;split at e
 ·cases e
 split at e
 ·cases e
 rename_i q hq;have h1 := dL hok hk hq;unfold lH at e;split at e
 ·cases e
 rename_i h hh;have h2 := yL h1.1 hh;split at e
 ·cases e
 rename_i a ha;have h3 := lC h2.1 ha;split at e
 ·cases e
 rename_i b hb;have h4 := lC h3.1 hb;cases e
 exact ⟨h4.1, by simp only []; omega⟩
theorem o9 {c : Tree} : AdvN s (jB s c) := by
 intro st r hok hk e;unfold jB at e;split at e
 ·cases e
 rename_i q hq;have h1 := dL hok hk hq;split at e
 ·cases e
 rename_i x hx;have h2 := fH h1.1 hx;cases e
 exact ⟨h2.1, by simp only []; omega⟩
theorem uS {needs : List aL} {k : Int} {ext : aL} {p : Int} : AdvN s (actC s needs k ext p) := by
 intro st r hok hk e;unfold actC at e;split at e
 ·cases e
 split at e
 ·cases e
 rename_i q hq;have h1 := dL hok hk hq;split at e
 ·cases e
 rename_i x hx;have h2 := nS h1.1 (by decide) hx;split at e
 ·cases e
 rename_i y hy;have h3 := fH h2.1 hy;cases e
 exact ⟨h3.1, by simp only []; omega⟩
theorem u5 {b : Bool} : AdvN s (jY s b) := by
 intro st r hok hk e;unfold jY at e;split at e
 ·cases e
 rename_i q hq;have h1 := dL hok hk hq;cases e
 exact ⟨h1.1, by simp only []; omega⟩
theorem aBL : AdvN s (lB s) := by
 intro st r hok hk e;unfold lB at e;split at e
 ·cases e
 rename_i q hq;have h1 := dL hok hk hq;split at e
 ·cases e
 rename_i a ha;have h3 := lC h1.1 ha;cases e
 exact ⟨h3.1, by simp only []; omega⟩
theorem aH4 : AdvN s (nR s) := by
 intro st r hok hk e;unfold nR at e;split at e
 ·cases e
 rename_i q hq;have h1 := dL hok hk hq;split at e
 ·cases e
 rename_i x hx;have h2 := nS h1.1 (by decide) hx;split at e
 ·cases e
 rename_i y hy;have h3 := nS h2.1 (by decide) hy;cases e
 exact ⟨h3.1, by simp only []; omega⟩
theorem aKH {T : St → Res (Tree × St)} (hT : Adv s T) : AdvN s (notC s T) := by
 intro st r hok hk e;unfold notC at e;split at e
 ·cases e
 rename_i q hq;have h1 := dL hok hk hq;split at e
 ·cases e
 rename_i t ht;have h2 := hT _ _ h1.1 ht;cases e
 exact ⟨h2.1, by simp only []; omega⟩
theorem aG7 {T : St → Res (Tree × St)} (hT : Adv s T) : ∀ {f : Nat} {acc : Tree} {st : St} {r : Tree × St}, Ok s st → mM s T f acc st = .ok r → Ok s r.2 ∧ mu s r.2 ≤ mu s st := by
 intro f;induction f with
 | zero => intro acc st r _ e; cases e
 | succ f ih =>
  intro acc st r hok e;simp only [mM] at e;split at e
  ·cases e
  rename_i q hq;have h1 := pV hok hq;split at e
  ·split at e
   ·cases e
   rename_i t ht;have h2 := hT _ _ h1.1 ht;have := ih h2.1 e;exact ⟨this.1, by omega⟩
  ·split at e
   ·cases e
   rename_i y hy;have h2 := fH h1.1 hy;cases e
   exact ⟨h2.1, by simp only []; omega⟩
theorem xX {T : St → Res (Tree × St)} {all : Bool} (hT : Adv s T) : AdvN s (lT s T all) := by
 intro st r hok hk e;unfold lT at e;split at e
 ·cases e
 rename_i q hq;have h1 := dL hok hk hq;split at e
 ·cases e
 rename_i x hx;have h2 := fH h1.1 hx;split at e
 ·cases e
 rename_i t ht;have h3 := hT _ _ h2.1 ht;unfold sE at e;split at e
 ·cases e
 rename_i l hl;have h4 := aG7 hT h3.1 hl;cases e
 exact ⟨h4.1, by simp only []; omega⟩
theorem aIC {needs : List aL} {T : St → Res (Tree × St)} (hT : Adv s T) {st : St} {r : Tree × St} (hok : Ok s st) (hk : st.2.kind ≠ 0) (e : lK s needs T st = some (.ok r)) : Ok s r.2 ∧ mu s r.2 < mu s st := by
 unfold lK at e;simp only [] at e;split at e
 ·exact u5 _ _ hok hk (by simpa using e)
 split at e
 ·exact u5 _ _ hok hk (by simpa using e)
 split at e
 ·exact aKH hT _ _ hok hk (by simpa using e)
 split at e
 ·exact xX hT _ _ hok hk (by simpa using e)
 split at e
 ·exact xX hT _ _ hok hk (by simpa using e)
 split at e
 ·exact rF _ _ hok hk (by simpa using e)
 split at e
 ·exact rF _ _ hok hk (by simpa using e)
 split at e
 ·exact rF _ _ hok hk (by simpa using e)
 split at e
 ·exact aBL _ _ hok hk (by simpa using e)
 split at e
 ·exact aH4 _ _ hok hk (by simpa using e)
 ·cases e
theorem lL {needs : List aL} : ∀ n, Adv s (test s needs n) := by
 intro n;induction n with
 | zero => intro st r hok e; simp only [test] at e; split at e <;> cases e
 | succ n ih =>
  intro st r hok e;simp only [test] at e;split at e
  ·rename_i hk;split at e
   ·rename_i x hx; subst e; exact aIC ih hok aH hx
   ·cases e
  ·cases e
theorem jT {B : St → Res (Tree × St)} (hB : AdvE s B) : Adv s (mW s B) := by
 intro st r hok e;unfold mW at e;split at e
 ·cases e
 rename_i q hq;have h1 := fH hok hq;split at e
 ·cases e
 rename_i b hb;have h2 := hB _ _ h1.1 hb;split at e
 ·cases e
 rename_i y hy;have h3 := fH h2.1 hy;cases e
 exact ⟨h3.1, by simp only []; omega⟩
theorem aGL {B : St → Res (Tree × St)} (hB : AdvE s B) {acc : Tree} : AdvE s (gT s B acc) := by
 intro st r hok e;unfold gT at e;split at e
 ·rename_i hk;split at e
  ·cases e
  rename_i q hq;have h1 := dL hok aH hq;split at e
  ·cases e
  rename_i b hb;have h2 := jT hB _ _ h1.1 hb;cases e
  exact ⟨h2.1, by simp only []; omega⟩
 ·cases e; exact ⟨hok, Nat.le_refl _⟩
theorem aDL {T B : St → Res (Tree × St)} (hT : Adv s T) (hB : AdvE s B) : ∀ {f : Nat} {acc : Tree} {st : St} {r : Tree × St}, Ok s st → eQ s T B f acc st = .ok r → Ok s r.2 ∧ mu s r.2 ≤ mu s st := by
 intro f;induction f with
 | zero => intro acc st r _ e; cases e
 | succ f ih =>
  intro acc st r hok e;simp only [eQ] at e;split at e
  ·rename_i hk;split at e
   ·cases e
   rename_i q hq;have h1 := dL hok aH hq;split at e
   ·cases e
   rename_i t ht;have h2 := hT _ _ h1.1 ht;split at e
   ·cases e
   rename_i b hb;have h3 := jT hB _ _ h2.1 hb;have := ih h3.1 e;exact ⟨this.1, by omega⟩
  ·exact aGL hB _ _ hok e
theorem aMW {T B : St → Res (Tree × St)} (hT : Adv s T) (hB : AdvE s B) : AdvN s (ifC s T B) := by
 intro st r hok hk e;unfold ifC at e;split at e
 ·cases e
 rename_i q hq;have h1 := dL hok hk hq;split at e
 ·cases e
 rename_i t ht;have h2 := hT _ _ h1.1 ht;split at e
 ·cases e
 rename_i b hb;have h3 := jT hB _ _ h2.1 hb;have := aDL hT hB h3.1 e;exact ⟨this.1, by omega⟩
theorem aCK {needs : List aL} : AdvN s (setC s needs) := by
 intro st r hok hk e;unfold setC at e;split at e
 ·split at e
  ·cases e
  rename_i q hq;have h1 := dL hok hk hq;split at e
  ·cases e
  rename_i t ht;have h2 : Ok s t.2 ∧ mu s t.2 ≤ mu s q := by
   unfold iI at ht;split at ht
   ·rename_i hk2;split at ht
    ·cases ht
    split at ht
    ·cases ht
    rename_i x hx;cases ht
    have := dL h1.1 aH hx;exact ⟨this.1, by simp only []; omega⟩
   ·cases ht; exact ⟨h1.1, Nat.le_refl _⟩
  unfold kC at e;split at e
  ·cases e
  rename_i n hn;have h3 := lM h2.1 hn;split at e
  ·cases e
  rename_i v hv;have h4 := lM h3.1 hv;split at e
  ·cases e
  rename_i y hy;have h5 := fH h4.1 hy;cases e
  exact ⟨h5.1, by simp only []; omega⟩
 ·cases e
theorem aH0 {needs : List aL} : AdvN s (sI s needs) := by
 intro st r hok hk e;unfold sI at e;split at e
 ·cases e
 rename_i q hq;have h1 := aCK _ _ hok hk hq;cases e
 exact ⟨h1.1, by simp only []; omega⟩
theorem u4 {needs : List aL} {T B : St → Res (Tree × St)} (hT : Adv s T) (hB : AdvE s B) {st : St} {r : Tree × St} (hok : Ok s st) (hk : st.2.kind ≠ 0) (e : cmdD s needs T B st = some (.ok r)) : Ok s r.2 ∧ mu s r.2 < mu s st := by
 unfold cmdD at e;simp only [] at e;split at e
 ·exact o9 _ _ hok hk (by simpa using e)
 split at e
 ·exact o9 _ _ hok hk (by simpa using e)
 split at e
 ·exact o9 _ _ hok hk (by simpa using e)
 split at e
 ·exact uS _ _ hok hk (by simpa using e)
 split at e
 ·exact uS _ _ hok hk (by simpa using e)
 split at e
 ·exact uS _ _ hok hk (by simpa using e)
 split at e
 ·exact aH0 _ _ hok hk (by simpa using e)
 split at e
 ·exact aMW hT hB _ _ hok hk (by simpa using e)
 ·cases e
theorem aDB {C : St → Option (Res (Tree × St))} (hC : ∀ {st r}, Ok s st → st.2.kind ≠ 0 → C st = some (.ok r) → Ok s r.2 ∧ mu s r.2 < mu s st) : ∀ {f : Nat} {acc : Tree} {st : St} {r : Tree × St}, Ok s st → iG s C f acc st = .ok r → Ok s r.2 ∧ mu s r.2 ≤ mu s st := by
 intro f;induction f with
 | zero => intro acc st r _ e; cases e
 | succ f ih =>
  intro acc st r hok e;simp only [iG] at e;split at e
  ·rename_i hk;split at e
   ·cases e
   ·cases e
   rename_i c hc;have h1 := hC hok aH hc;have := ih h1.1 e;exact ⟨this.1, by omega⟩
  ·cases e; exact ⟨hok, Nat.le_refl _⟩
theorem pT {needs : List aL} : ∀ n, AdvE s (block s needs n) := by
 intro n;induction n with
 | zero => intro st r hok e; simp only [block] at e; split at e <;> cases e; exact ⟨hok, Nat.le_refl _⟩
 | succ n ih =>
  intro st r hok e;simp only [block] at e;exact aDB (fun h1 h2 h3 => u4 (lL n) ih h1 h2 h3) hok e
end Go.Syn
namespace Go.Syn
variable {s : aL}
theorem aG2 {ff : aL → Int} : ∀ {f : Nat} {st : St} {acc : List aL} {r : List aL × St}, Ok s st → lG s ff f st acc = .ok r → r.1.length + mu s r.2 ≤ acc.length + mu s st := by
 intro f;induction f with
 | zero => intro st acc r _ h; cases h
 | succ f ih =>
  intro st acc r hok h;simp only [lG] at h;split at h
  ·cases h
  ·rename_i q hq;have h1 := pV hok hq;split at h
   ·split at h
    ·cases h
    ·rename_i x hx;have h2 := lM h1.1 hx;have := ih h2.1 h;simp at this; omega
   ·split at h
    ·cases h
    ·rename_i y hy;have h2 := fH h1.1 hy;cases h
     simp only []; omega
theorem o4 {ff : aL → Int} {st : St} {r : List aL × St} (hok : Ok s st) (h : list s st ff = .ok r) : r.1.length + mu s r.2 ≤ mu s st := by
 unfold list at h;split at h
 ·cases h
 ·rename_i q hq;have h1 := pV hok hq;split at h
  ·cases h
  ·rename_i x hx;have h2 := lM h1.1 hx;split at h
   ·have := aG2 h2.1 h; simp at this; omega
   ·cases h; simp only [List.length_singleton]; omega
def iF : aL := [114, 101, 113, 117, 105, 114, 101]
def wY : List aL := [gA, gP, eO, dH]
def addN (ns : List aL) (e : aL) : List aL := if e ∈ ns then ns else ns ++ [e]
def gS (ns l : List aL) : List aL := l.foldl addN ns
theorem aIX (ns : List aL) (e : aL) : (addN ns e).length ≤ ns.length + 1 := by unfold addN; split <;> simp
theorem kZ {ns l : List aL} {i : Nat} {e : aL} (h : l[i]? = some e) : gS ns (l.take (i + 1)) = addN (gS ns (l.take i)) e := by
 have hi : i < l.length := by
  rcases Nat.lt_or_ge i l.length with h' | h'
  ·exact h'
  ·simp [List.getElem?_eq_none h'] at h
 have hc : l[i] = e := by simpa [List.getElem?_eq_getElem hi] using h
 rw [List.take_succ_eq_append_getElem hi, hc];simp [gS]
theorem y8 {ns l : List aL} {i : Nat} (h : l.length ≤ i) : gS ns (l.take i) = gS ns l := by rw [List.take_of_length_le h]
def reqF (s : aL) : Nat → List aL → St → Res (List aL × St)
 | 0, _, _ => .error (0, 0)
 | f + 1, ns, st =>
  if st.2.kind = 1 ∧ st.2.s = iF then
   match next s st.1 with
   | .error e => .error e
   | .ok r =>
    match list s r (oneOf 6 wY) with
    | .error e => .error e
    | .ok l =>
     match sign s l.2 [59] with
     | .error e => .error e
     | .ok q => reqF s f (gS ns l.1) q
  else .ok (ns, st)
def f9 (s : aL) (n : Res (List aL × St)) : Res (List aL × Tree) :=
 match n with
 | .error e => .error e
 | .ok n =>
  match block s n.1 7 n.2 with
  | .error e => .error e
  | .ok b => if b.2.2.kind = 0 then .ok (n.1, b.1) else .error (4, b.2.2.at_)
def e8 (s : aL) : Res (List aL × Tree) :=
 match next s 0 with
 | .error e => .error e
 | .ok r => f9 s (reqF s (mu s r + 1) [] r)
end Go.Syn
end

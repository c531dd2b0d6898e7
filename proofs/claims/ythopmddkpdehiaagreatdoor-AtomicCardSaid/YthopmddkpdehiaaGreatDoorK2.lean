/-
  What the proof stands on, part 2: the logic of walks, the walks through the functions, the plain laws. Conditions: as each theorem says. (Merged and shortened by a program.)
-/
import Derived.Lib.AppendIntMem
import Derived.Laws.StructEq
import Derived.RangeFuncRecord
import Derived.OrdersIn
import Derived.TacticsIn
import Derived.Scope
import Derived.ChangeKeysEq
import Derived.Lib.OthersKept
import Derived.Lib.IndexMore
import Derived.Lib.IndexLaws
import Derived.Lib.IndexBytes
import Derived.Stop.Asserts
import Derived.RowKitTokens
import Derived.LaidEql
import Derived.KernelRfl
import Derived.Test.YthopmddkpdehiaaGreatDoorRows
import Derived.Lib.LaidTab
import Derived.LaidMore
import Derived.LaidHandle
import Derived.HandedShaped
import Derived.Shelf.Vars
import Derived.Stop.LaidErr
import Derived.OpenShut
import Derived.Below
import Derived.Test.YthopmddkpdehiaaGreatDoorK1
set_option linter.unusedVariables false
set_option linter.unusedSimpArgs false
section
namespace Go.Proofs
open Go Go.SL Go.Syn Go.Mach
theorem q7 (c : UInt8) (K : Hl) : Sp Tryz.prog 222 [.int .u8 c.toNat] K [] (Val (.bool (bP c)) K) := by
 refine bE Tryz.func222 rfl Tryz.ntmps222 rfl rfl fun F w => ?_
 refine aG (aC ?_);refine aA (aD rfl) rfl ?_;refine aF (aE ?_);refine aG (aC ?_);refine aA (aB rfl) rfl ?_;refine aA (zL c 32 rfl rfl) rfl ?_;refine aA (gG rfl rfl) rfl ?_;refine aA (aB rfl) rfl ?_;refine bS 6 rfl (fun g6 => ?_) (fun g6 => ?_)
 ·
  refine aT rfl rfl ?_;refine aA (aB rfl) rfl ?_;refine aT rfl rfl ?_;refine aA (zL c 32 rfl rfl) rfl ?_;refine aT rfl rfl ?_;refine aA (fN rfl rfl) rfl ?_;refine aA (bG rfl rfl) rfl ?_;refine aA (aB rfl) rfl ?_;refine bS 11 rfl (fun g11 => ?_) (fun g11 => ?_)
  ·
   refine aO rfl rfl rfl ?_;refine aO rfl rfl rfl ?_;refine aO rfl rfl rfl ?_;refine eL rfl rfl rfl ?_;refine eL rfl rfl rfl ?_;refine aO rfl rfl rfl ?_;refine aA (bG rfl rfl) rfl ?_;refine aA (aB rfl) rfl ?_;refine aO rfl rfl rfl ?_;refine aO rfl rfl rfl ?_;refine aA (bG rfl rfl) rfl ?_;refine aA (aD rfl) rfl ?_;refine aF (aE ?_);refine a8 ?_;refine bA rfl rfl (Hl.le_refl _) ?_;refine retB ?_ _
   unfold bP
   generalize (c ||| 32).toNat = x at *
   generalize c.toNat = y at *
   rw [Bool.eq_iff_iff];simp;omega
  ·
   refine aT rfl rfl ?_;refine aA (aB rfl) rfl ?_;refine aT rfl rfl ?_;refine aA (gG rfl rfl) rfl ?_;refine aT rfl rfl ?_;refine aA (aB rfl) rfl ?_;refine bS 14 rfl (fun g14 => ?_) (fun g14 => ?_)
   ·
    refine aT rfl rfl ?_;refine aA (aB rfl) rfl ?_;refine aT rfl rfl ?_;refine aA (fN rfl rfl) rfl ?_;refine aT rfl rfl ?_;refine aA (bG rfl rfl) rfl ?_;refine aA (aZ rfl rfl) rfl ?_;refine aA (aB rfl) rfl ?_;refine bS 19 rfl (fun g19 => ?_) (fun g19 => ?_)
    ·
     refine aO rfl rfl rfl ?_;refine aO rfl rfl rfl ?_;refine aA (bG rfl rfl) rfl ?_;refine aA (aD rfl) rfl ?_;refine aF (aE ?_);refine a8 ?_;refine bA rfl rfl (Hl.le_refl _) ?_;refine retB ?_ _
     unfold bP
     generalize (c ||| 32).toNat = x at *
     generalize c.toNat = y at *
     rw [Bool.eq_iff_iff];simp;omega
    ·
     refine aT rfl rfl ?_;refine aA (aB rfl) rfl ?_;refine aT rfl rfl ?_;refine aA (bW rfl rfl) rfl ?_;refine aA (aZ rfl rfl) rfl ?_;refine aA (aD rfl) rfl ?_;refine aF (aE ?_);refine a8 ?_;refine bA rfl rfl (Hl.le_refl _) ?_;refine retB ?_ _
     unfold bP
     generalize (c ||| 32).toNat = x at *
     generalize c.toNat = y at *
     rw [Bool.eq_iff_iff];simp;omega
   ·
    refine aO rfl rfl rfl ?_;refine aO rfl rfl rfl ?_;refine aT rfl rfl ?_;refine aA (aZ rfl rfl) rfl ?_;refine aA (aZ rfl rfl) rfl ?_;refine aA (aB rfl) rfl ?_;refine aT rfl rfl ?_;refine aA (aB rfl) rfl ?_;refine aT rfl rfl ?_;refine aA (bW rfl rfl) rfl ?_;refine aA (aZ rfl rfl) rfl ?_;refine aA (aD rfl) rfl ?_;refine aF (aE ?_);refine a8 ?_;refine bA rfl rfl (Hl.le_refl _) ?_;refine retB ?_ _
    unfold bP
    generalize (c ||| 32).toNat = x at *
    generalize c.toNat = y at *
    rw [Bool.eq_iff_iff];simp;omega
 ·
  refine aO rfl rfl rfl ?_;refine aO rfl rfl rfl ?_;refine aO rfl rfl rfl ?_;refine aA (aZ rfl rfl) rfl ?_;refine aA (aB rfl) rfl ?_;refine aT rfl rfl ?_;refine aA (aB rfl) rfl ?_;refine aT rfl rfl ?_;refine aA (gG rfl rfl) rfl ?_;refine aT rfl rfl ?_;refine aA (aB rfl) rfl ?_;refine bS 14 rfl (fun g14 => ?_) (fun g14 => ?_)
  ·
   refine aT rfl rfl ?_;refine aA (aB rfl) rfl ?_;refine aT rfl rfl ?_;refine aA (fN rfl rfl) rfl ?_;refine aT rfl rfl ?_;refine aA (bG rfl rfl) rfl ?_;refine aA (aZ rfl rfl) rfl ?_;refine aA (aB rfl) rfl ?_;refine bS 19 rfl (fun g19 => ?_) (fun g19 => ?_)
   ·
    refine aO rfl rfl rfl ?_;refine aO rfl rfl rfl ?_;refine aA (bG rfl rfl) rfl ?_;refine aA (aD rfl) rfl ?_;refine aF (aE ?_);refine a8 ?_;refine bA rfl rfl (Hl.le_refl _) ?_;refine retB ?_ _
    unfold bP
    generalize (c ||| 32).toNat = x at *
    generalize c.toNat = y at *
    rw [Bool.eq_iff_iff];simp;omega
   ·
    refine aT rfl rfl ?_;refine aA (aB rfl) rfl ?_;refine aT rfl rfl ?_;refine aA (bW rfl rfl) rfl ?_;refine aA (aZ rfl rfl) rfl ?_;refine aA (aD rfl) rfl ?_;refine aF (aE ?_);refine a8 ?_;refine bA rfl rfl (Hl.le_refl _) ?_;refine retB ?_ _
    unfold bP
    generalize (c ||| 32).toNat = x at *
    generalize c.toNat = y at *
    rw [Bool.eq_iff_iff];simp;omega
  ·
   refine aO rfl rfl rfl ?_;refine aO rfl rfl rfl ?_;refine aT rfl rfl ?_;refine aA (aZ rfl rfl) rfl ?_;refine aA (aZ rfl rfl) rfl ?_;refine aA (aB rfl) rfl ?_;refine aT rfl rfl ?_;refine aA (aB rfl) rfl ?_;refine aT rfl rfl ?_;refine aA (bW rfl rfl) rfl ?_;refine aA (aZ rfl rfl) rfl ?_;refine aA (aD rfl) rfl ?_;refine aF (aE ?_);refine a8 ?_;refine bA rfl rfl (Hl.le_refl _) ?_;refine retB ?_ _
   unfold bP
   generalize (c ||| 32).toNat = x at *
   generalize c.toNat = y at *
   rw [Bool.eq_iff_iff];simp;omega
theorem bR (s : List UInt8) : boxed s = true ↔ (∀ i c, s[i]? = some c → cA i c = true) ∧ s ≠ [] ∧ s.length ≤ 16 := by
 unfold boxed;simp only [Bool.and_eq_true, List.all_eq_true, List.mem_range, decide_eq_true_eq]
 constructor
 ·rintro ⟨⟨h1, h2⟩, h3⟩;refine ⟨fun i c hc => ?_, h2, h3⟩
  have hi : i < s.length := by
   rcases Nat.lt_or_ge i s.length with h' | h'
   ·exact h'
   ·simp [List.getElem?_eq_none h'] at hc
  have := h1 i hi;rw [hc] at this; exact this
 ·rintro ⟨h1, h2, h3⟩;refine ⟨⟨fun i hi => ?_, h2⟩, h3⟩
  rw [List.getElem?_eq_getElem hi]; exact h1 i _ (List.getElem?_eq_getElem hi)
theorem nY (s : List UInt8) (K : Hl) (hs : s.length ≤ 140737488355328) : Sp Tryz.prog 128 [str s] K [] (Val (.bool (boxed s)) K) := by
  refine bE Tryz.func128 rfl Tryz.ntmps128 rfl rfl fun F w => ?_
  refine aG (aC ?_);refine aA (aD rfl) rfl ?_;refine aF (aE ?_);refine aG (aG ?_);refine aC ?_;refine aA (aB rfl) rfl ?_;refine ol_s (kM Tryz.underlying9 Tryz.underlying130 Tryz.underlying5 rfl) rfl ?_;rintro v6 K _ ⟨rfl, rfl⟩ -;refine aA (bM (k := (elB 5)) rfl Tryz.underlying130 rfl aN) rfl ?_;refine aA (aB rfl) rfl ?_;refine aF (aE ?_);refine a7 ?_;refine eW (fun (i : Nat) => i ≤ s.length ∧ ∀ j c, j < i → s[j]? = some c → cA j c = true) (fun i => [(0, str s), (6, v6), (7, i64 s.length), (8, i64 i)]) (fun _ => _) (fun i => [sl false (elB 5) v6 s]) (fun i => s.length - i) 0 ⟨Nat.zero_le _, fun j c h _ => by omega⟩ (.cons 0 rfl (.cons 6 rfl (.cons 7 rfl (.cons 8 rfl .nil)))) rfl (fun _ h => h) ?_;intro i ⟨hi0, hi1⟩;refine aG (aC ?_);refine aA (cZ rfl rfl) rfl ?_;refine aF (aE ?_);refine aG ?_;refine bJ 9 rfl (fun h9 => ?_) (fun h9 => ?_)
  ·
    have hilt : i < s.length := by omega
    obtain ⟨c, hc⟩ : ∃ c, s[i]? = some c := ⟨s[i]'hilt, List.getElem?_eq_getElem hilt⟩;refine aX ?_;refine aE (aG ?_);refine a7 (aG ?_);refine aC ?_;refine aA (aB rfl) rfl ?_;refine aA (bD (k := (elB 5)) kR rfl aN rfl rfl (by first | assumption | omega)) rfl ?_;refine aA (kG (o := 0) (k := (elB 5)) ts5 rfl aN dF rfl) rfl ?_;refine aA (aD rfl) rfl ?_;refine aA (aD rfl) rfl ?_;refine aF (aE ?_);refine aG (aC ?_);refine aA (aB rfl) rfl ?_;refine bN rfl rfl (q7 c _) rfl ?_;refine aA (by first | exact fB rfl | exact dL rfl) rfl ?_;refine aA (aB rfl) rfl ?_;refine iH 16 rfl (fun g16 => ?_) (fun g16 => ?_)
    ·
      refine aT rfl rfl ?_;refine aA (aB rfl) rfl ?_;refine aT rfl rfl ?_;refine aA (eE rfl rfl) rfl ?_;refine aA (bG rfl rfl) rfl ?_;refine aA (aB rfl) rfl ?_;refine bS 20 rfl (fun g20 => ?_) (fun g20 => ?_)
      ·
        refine aT rfl rfl ?_;refine aA (aB rfl) rfl ?_;refine aT rfl rfl ?_;refine aA (eE rfl rfl) rfl ?_;refine aT rfl rfl ?_;refine aA (aB rfl) rfl ?_;refine bS 23 rfl (fun g23 => ?_) (fun g23 => ?_)
        ·
          refine aO rfl rfl rfl ?_;refine aO rfl rfl rfl ?_;refine aT rfl rfl ?_;refine aA (bG rfl rfl) rfl ?_;refine aA (bG rfl rfl) rfl ?_;refine aF (aE ?_);refine dH rfl ?_;refine aG (aC ?_);refine aA (aD rfl) rfl ?_;refine aF (aE ?_);refine a8 ?_;refine bC ?_;refine aR ?_;refine aR ?_;refine bC ?_;refine aR ?_;refine bF .nil ?_;refine bA rfl rfl (Hl.le_refl _) ?_;refine retB ?_ _
          first
            | (rw [Bool.eq_iff_iff, bR]
               simp only [decide_eq_true_eq];exact ⟨fun h => ⟨hall, by assumption, by omega⟩, fun h => by omega⟩)
            | (symm; rw [Bool.eq_false_iff]; intro hbx; exact absurd ((bR s).1 hbx).2.1 dF)
            | (symm; rw [Bool.eq_false_iff]; intro hbx
               have := ((bR s).1 hbx).1 i c hc;unfold cA at this;simp only [Bool.or_eq_true, Bool.and_eq_true, decide_eq_true_eq] at this;have hl : bP c = false := by simpa using g16
               rw [hl] at this;simp at this;omega)
        ·
          refine aT rfl rfl ?_;refine aA (aB rfl) rfl ?_;refine aT rfl rfl ?_;refine aA (bW rfl rfl) rfl ?_;refine aT rfl rfl ?_;refine aA (aZ rfl rfl) rfl ?_;refine aA (bG rfl rfl) rfl ?_;refine aF (aE ?_);refine bJ 27 rfl (fun h27 => ?_) (fun h27 => ?_)
          ·
            refine aG (aC ?_);refine aA (aD rfl) rfl ?_;refine aF (aE ?_);refine a8 ?_;refine bC ?_;refine aR ?_;refine aR ?_;refine bC ?_;refine aR ?_;refine bF .nil ?_;refine bA rfl rfl (Hl.le_refl _) ?_;refine retB ?_ _
            first
              | (rw [Bool.eq_iff_iff, bR]
                 simp only [decide_eq_true_eq];exact ⟨fun h => ⟨hall, by assumption, by omega⟩, fun h => by omega⟩)
              | (symm; rw [Bool.eq_false_iff]; intro hbx; exact absurd ((bR s).1 hbx).2.1 dF)
              | (symm; rw [Bool.eq_false_iff]; intro hbx
                 have := ((bR s).1 hbx).1 i c hc;unfold cA at this;simp only [Bool.or_eq_true, Bool.and_eq_true, decide_eq_true_eq] at this;have hl : bP c = false := by simpa using g16
                 rw [hl] at this;simp at this;omega)
          ·
            refine aX ?_;refine aU (aE ?_);refine aC ?_;refine aA (bY rfl rfl aI aI) rfl ?_;refine aA (aB rfl) rfl ?_;refine aF ?_;have hb : cA i c = true := (by unfold cA; simp only [Bool.or_eq_true, Bool.and_eq_true, decide_eq_true_eq]; first | (left; left; simpa using g16; done) | (left; right; omega) | (right; omega));refine dW (i + 1) ⟨by omega, fun j c2 hj hc2 => ?_⟩ aI (.cons 0 rfl (.cons 6 rfl (.cons 7 rfl (.cons 8 rfl .nil)))) rfl (fun _ h => h)
            rcases Nat.lt_or_ge j i with h | h
            · exact hi1 j c2 h hc2
            · have e : j = i := by omega
              subst e; rw [hc] at hc2; cases hc2; exact hb
      ·
        refine aO rfl rfl rfl ?_;refine aO rfl rfl rfl ?_;refine aO rfl rfl rfl ?_;refine eL rfl rfl rfl ?_;refine eL rfl rfl rfl ?_;refine aO rfl rfl rfl ?_;refine aA (aZ rfl rfl) rfl ?_;refine aF (aE ?_);refine bL rfl ?_;refine aX ?_;refine aU (aE ?_);refine aC ?_;refine aA (bY rfl rfl aI aI) rfl ?_;refine aA (aB rfl) rfl ?_;refine aF ?_;have hb : cA i c = true := (by unfold cA; simp only [Bool.or_eq_true, Bool.and_eq_true, decide_eq_true_eq]; first | (left; left; simpa using g16; done) | (left; right; omega) | (right; omega));refine dW (i + 1) ⟨by omega, fun j c2 hj hc2 => ?_⟩ aI (.cons 0 rfl (.cons 6 rfl (.cons 7 rfl (.cons 8 rfl .nil)))) rfl (fun _ h => h)
        rcases Nat.lt_or_ge j i with h | h
        · exact hi1 j c2 h hc2
        · have e : j = i := by omega
          subst e; rw [hc] at hc2; cases hc2; exact hb
    ·
      refine aO rfl rfl rfl ?_;refine aO rfl rfl rfl ?_;refine aA (aZ rfl rfl) rfl ?_;refine aA (aB rfl) rfl ?_;refine aO rfl rfl rfl ?_;refine aO rfl rfl rfl ?_;refine aO rfl rfl rfl ?_;refine eL rfl rfl rfl ?_;refine eL rfl rfl rfl ?_;refine aO rfl rfl rfl ?_;refine aA (aZ rfl rfl) rfl ?_;refine aF (aE ?_);refine bL rfl ?_;refine aX ?_;refine aU (aE ?_);refine aC ?_;refine aA (bY rfl rfl aI aI) rfl ?_;refine aA (aB rfl) rfl ?_;refine aF ?_;have hb : cA i c = true := (by unfold cA; simp only [Bool.or_eq_true, Bool.and_eq_true, decide_eq_true_eq]; first | (left; left; simpa using g16; done) | (left; right; omega) | (right; omega));refine dW (i + 1) ⟨by omega, fun j c2 hj hc2 => ?_⟩ aI (.cons 0 rfl (.cons 6 rfl (.cons 7 rfl (.cons 8 rfl .nil)))) rfl (fun _ h => h)
      rcases Nat.lt_or_ge j i with h | h
      · exact hi1 j c2 h hc2
      · have e : j = i := by omega
        subst e; rw [hc] at hc2; cases hc2; exact hb
  ·
    have hall : ∀ j c, s[j]? = some c → cA j c = true := fun j c hc => hi1 j c (by rcases Nat.lt_or_ge j s.length with h | h; omega; (rw [List.getElem?_eq_none h] at hc; cases hc)) hc
    refine cK ?_;refine aP ?_;refine aP ?_;refine bB ?_;refine aE (aG ?_);refine aC ?_;refine aA (aB rfl) rfl ?_;refine aA (qT rfl rfl) rfl ?_;refine aA (aB rfl) rfl ?_;refine bS 31 rfl (fun g31 => ?_) (fun g31 => ?_)
    ·
      refine aT rfl rfl ?_;refine aA (aB rfl) rfl ?_;refine aT rfl rfl ?_;refine aA (bU rfl Tryz.underlying9 rfl) rfl ?_;refine aT rfl rfl ?_;refine aA (fN rfl rfl) rfl ?_;refine aA (bG rfl rfl) rfl ?_;refine aA (aD rfl) rfl ?_;refine aF (aE ?_);refine a8 ?_;refine bF .nil ?_;refine bA rfl rfl (Hl.le_refl _) ?_;refine retB ?_ _
      first
        | (rw [Bool.eq_iff_iff, bR]
           simp only [decide_eq_true_eq];exact ⟨fun h => ⟨hall, by assumption, by omega⟩, fun h => by omega⟩)
        | (symm; rw [Bool.eq_false_iff]; intro hbx; exact absurd ((bR s).1 hbx).2.1 dF)
        | (symm; rw [Bool.eq_false_iff]; intro hbx
           have := ((bR s).1 hbx).1 i c hc;unfold cA at this;simp only [Bool.or_eq_true, Bool.and_eq_true, decide_eq_true_eq] at this;have hl : bP c = false := by simpa using g16
           rw [hl] at this;simp at this;omega)
    ·
      refine aO rfl rfl rfl ?_;refine aO rfl rfl rfl ?_;refine aO rfl rfl rfl ?_;refine aA (aZ rfl rfl) rfl ?_;refine aA (aD rfl) rfl ?_;refine aF (aE ?_);refine a8 ?_;refine bF .nil ?_;refine bA rfl rfl (Hl.le_refl _) ?_;refine retB ?_ _
      first
        | (rw [Bool.eq_iff_iff, bR]
           simp only [decide_eq_true_eq];exact ⟨fun h => ⟨hall, by assumption, by omega⟩, fun h => by omega⟩)
        | (symm; rw [Bool.eq_false_iff]; intro hbx; exact absurd ((bR s).1 hbx).2.1 dF)
        | (symm; rw [Bool.eq_false_iff]; intro hbx
           have := ((bR s).1 hbx).1 i c hc;unfold cA at this;simp only [Bool.or_eq_true, Bool.and_eq_true, decide_eq_true_eq] at this;have hl : bP c = false := by simpa using g16
           rw [hl] at this;simp at this;omega)
end Go.Proofs
end
section
namespace Go.Proofs
open Go Go.SL Go.Syn Go.Mach
def dG : El Action := { e := 34, sz := 2, enc := fun a => [i64 a.1, str a.2], len := fun _ => rfl, one := fun _ u h => by simp at h; rcases h with rfl | rfl <;> rfl }
section
variable {E : Env} {c0 : Code} {x0 : Exit} {fr : Fr} {K : Hl} {L : List Asn} {Q : Post} {b mb : Nat} {m : Msg} {hv pv : Value} {nm : Bool} {s : MS}
end
theorem iE (n : Int) (h0 : -9223372036854775808 ≤ n) (h1 : n ≤ 9223372036854775807) (K : Hl) (hg : Glob K) : Sp Tryz.prog 129 [i64 n] K [] (Val (str (Lib.itoa n)) K) := by
 refine gY ⟨_, Tryz.func129, rfl, rfl⟩ fun w hw => (Tryz.strconv_Itoa n h0 h1 w (hg.pow10 w hw)).mono fun e w' ⟨he, k, os, hw'⟩ => ⟨he, ?_⟩
 rw [hw']; exact Lib.below_grow _ _ (Nat.le_refl _) k os
theorem tY {nm : Bool} {vars : List (List UInt8 × List UInt8)} {parts : List (List UInt8)} {s : List UInt8} (h : s.length ≤ 100000) : (k6 nm vars parts s).length ≤ 100000 := by
 unfold k6;split
 ·have := List.length_take_le 1024 (nP vars parts (s.length + 1) s []); omega
 ·exact h
end Go.Proofs
end
section
namespace Go.Proofs
open Go Go.SL Go.Syn Go.Mach
theorem kL {P : Program} {w : World} {T : TypeId} {xs : Array Value} {i : Nat} {v : Value} (ht : d7 P T = true) (h : xs[i]? = some v) : (part T xs i).run P w = .ok v w := by
 obtain ⟨h1, h2⟩ := iJ ht w;unfold part;rw [aL h1];simp [h]
end Go.Proofs
end
section
namespace Go.Proofs
open Go Go.SL Go.Syn Go.Mach
def actC (o : Ins) (s : MS) (a : Action) : Res MS :=
 if a ∈ s.acts then .ok { s with keep := false }
 else if (∃ b ∈ s.acts, a.1 = 4 ∨ b.1 = 4) then .error (10, o.at_)
 else if s.acts.length = 6 then .error (11, o.at_)
 else .ok { s with keep := false, acts := s.acts ++ [a] }
end Go.Proofs
end
section
namespace Go.SL.R
def Eff (P : Program) (o : Oper) (a : Act) (w : World) (Q : Post) (next : Value → World → Prop) : Prop :=
 (∃ u w', (execOp a.eval o).run P w = .ok (.value u) w' ∧ next u w') ∨ (∃ w', (execOp a.eval o).run P w = .ok .skip w' ∧ next undef w') ∨
 (∃ f args w1, (execOp a.eval o).run P w = .ok (.enter f args) w1 ∧ Calls P f args w1 fun e w' => match e with
  | .returned u => next u w'
  | .panicked ch => ∀ a', a'.defers = a.defers → Q (.panic ch) a' w'
  | .outgrown => LetsOut Q) ∨
 (∃ l f tmps assign body w1, (execOp a.eval o).run P w = .ok (.round l f tmps assign body) w1 ∧ RoundIn Fence.wide 0 P l f tmps assign body w1 fun e w' => match e with
  | .returned u => next u w'
  | .panicked ch => ∀ a', a'.defers = a.defers → Q (.panic ch) a' w'
  | .outgrown => LetsOut Q)
theorem Eff.mono {P : Program} {o : Oper} {a : Act} {w : World} {Q : Post} {n n' : Value → World → Prop} (h : Eff P o a w Q n) (k : ∀ u w', n u w' → n' u w') : Eff P o a w Q n' := by
 rcases h with ⟨u, w', h, hn⟩ | ⟨w', h, hn⟩ | ⟨f, args, w1, h, hc⟩ | ⟨l, f, t, x, y, w1, h, hc⟩
 ·exact .inl ⟨u, w', h, k _ _ hn⟩
 ·exact .inr (.inl ⟨w', h, k _ _ hn⟩)
 ·exact .inr (.inr (.inl ⟨f, args, w1, h, hc.mono fun e w' q => by cases e <;> first | exact k _ _ q | exact q⟩))
 ·exact .inr (.inr (.inr ⟨l, f, t, x, y, w1, h, hc.mono fun e w' q => by cases e <;> first | exact k _ _ q | exact q⟩))
theorem Eff.congr {P : Program} {o : Oper} {a a' : Act} {w : World} {Q : Post} {n : Value → World → Prop} (h : Eff P o a w Q n) (he : execOp a'.eval o = execOp a.eval o) (hd : a'.defers = a.defers) : Eff P o a' w Q n := by
 unfold Eff at *;rw [he, hd]; exact h
theorem s9 (ρ : Operand → Value) (o : Oper) : o.semAt Fence.wide.round ρ = execOp ρ o := rfl
theorem Eff.wp {P : Program} {o : Oper} {a : Act} {w : World} {Q : Post} {n : Value → World → Prop} {K : Act → World → Prop} (h : Eff P o a w Q n) (k : ∀ u w', n u w' → K (a.put o.dst u) w') : o.wpIn Fence.wide 0 P a w K Q := by
 refine ⟨fun _ _ => trivial, ?_⟩
 rw [s9];have hd : Fence.wide.depth.isSome = true → 1 ≤ 0 := fun h => by cases h
 rcases h with ⟨u, w', h, hn⟩ | ⟨w', h, hn⟩ | ⟨f, args, w1, h, hc⟩ | ⟨l, f, t, x, y, w1, h, hc⟩
 ·rw [h]; exact k _ _ hn
 ·rw [h]; exact k _ _ hn
 ·rw [h];refine ⟨hd, callsIn_wide.2 (hc.mono fun e w' q => ?_)⟩
  cases e with
  | returned u => exact k _ _ q
  | panicked ch => exact q _ rfl
  | outgrown => exact q
 ·rw [h];refine ⟨hd, hc.mono fun e w' q => ?_⟩
  cases e with
  | returned u => exact k _ _ q
  | panicked ch => exact q _ rfl
  | outgrown => exact q
def DX (E : Env) (ops : Array Oper) (eff stg : List Nat) (Q : Post) : List Nat → List Asn → Hl → List Asn → Act → Prop
 | [], S, K, M, a => ∀ w, In E.w0 E.F K (S ++ M) w → Q .normal a w
 | i :: r, S, K, M, a =>
  match ops[i]? with
  | none => False
  | some o =>
   if Region.wanted o (yielded ops a.tmps) then
    if stg.contains i then
     ∀ w, In E.w0 E.F K (S ++ M) w → Eff E.P o a w Q fun u w' => ∃ K' S' M', K.le K' ∧ In E.w0 E.F K' (S' ++ M') w' ∧ DX E ops eff stg Q r S' K' M' (a.put o.dst u)
    else if eff.contains i then
     ∀ w, In E.w0 E.F K (S ++ M) w → Eff E.P o a w Q fun u w' => ∃ K' M', K.le K' ∧ In E.w0 E.F K' (S ++ M') w' ∧ DX E ops eff stg Q r S K' M' (a.put o.dst u)
    else ∃ v, (∀ K' M' w, K.le K' → In E.w0 E.F K' (S ++ M') w → (execOp a.eval o).run E.P w = .ok (.value v) w) ∧ DX E ops eff stg Q r S K M (a.put o.dst v)
   else DX E ops eff stg Q r S K M (a.put o.dst undef)
def iG (o : Oper) : Bool := match o.op with | .select _ _ => false | _ => true
theorem gL {o : Oper} (h : iG o = true) : ∀ cs b, o.op ≠ .select cs b := by
 intro cs b e; simp [iG, e] at h
theorem jZ (a : Act) (x : Option Tmp) (v : Value) : (a.put x v).defers = a.defers := by cases x <;> rfl
theorem qQ {E : Env} {ops : Array Oper} {eff stg : List Nat} {S : List Asn} {Q : Post} {x i : Nat} {r : List Nat} {K : Hl} {M : List Asn} {a : Act} {ox oi : Oper}
  (hx : ops[x]? = some ox) (hi : ops[i]? = some oi) (hap : ox.apart ops oi = true) (hsx : iG ox = true) (hsi : iG oi = true) (hne : eff.contains x = false) (hnx : stg.contains x = false) (hni : stg.contains i = false)
  (h : DX E ops eff stg Q (x :: i :: r) S K M a) : DX E ops eff stg Q (i :: x :: r) S K M a := by
 obtain ⟨h1, h2, h3⟩ := Oper.apart_spec hap;have sx := gL hsx;have si := gL hsi;have goX : ∀ (v u : Value), ((a.put ox.dst v).put oi.dst u) = ((a.put oi.dst u).put ox.dst v) := fun v u => Act.put_comm a v u h2
 have wx : ∀ (u : Value), Region.wanted ox (yielded ops (a.put oi.dst u).tmps) = Region.wanted ox (yielded ops a.tmps) := fun u => wanted_put ox a oi.dst u h3
 have wi : ∀ (u : Value), Region.wanted oi (yielded ops (a.put ox.dst u).tmps) = Region.wanted oi (yielded ops a.tmps) := fun u => wanted_put oi a ox.dst u h1
 have ex : ∀ (u : Value), execOp (a.put oi.dst u).eval ox = execOp a.eval ox := fun u => execOp_put ox sx a oi.dst u h3
 have ei : ∀ (u : Value), execOp (a.put ox.dst u).eval oi = execOp a.eval oi := fun u => execOp_put oi si a ox.dst u h1
 simp only [DX, hx, hi, hne, hnx, hni, Bool.false_eq_true, if_false] at h ⊢
 by_cases cx : Region.wanted ox (yielded ops a.tmps) = true
 ·simp only [cx, if_true] at h;obtain ⟨v, hv, h⟩ := h;rw [wi v] at h;have back : ∀ (u : Value) (K' : Hl) (M' : List Asn), K.le K' → DX E ops eff stg Q r S K' M' ((a.put ox.dst v).put oi.dst u) →
    (if Region.wanted ox (yielded ops (a.put oi.dst u).tmps) = true then
     ∃ v, (∀ K'' M'' w, K'.le K'' → In E.w0 E.F K'' (S ++ M'') w → (execOp (a.put oi.dst u).eval ox).run E.P w = .ok (.value v) w) ∧ DX E ops eff stg Q r S K' M' ((a.put oi.dst u).put ox.dst v)
     else DX E ops eff stg Q r S K' M' ((a.put oi.dst u).put ox.dst undef)) := by
   intro u K' M' le hr;rw [wx u, if_pos cx];refine ⟨v, fun K'' M'' w le' j => ?_, ?_⟩
   ·rw [ex u]; exact hv K'' M'' w (Hl.le_trans le le') j
   ·rw [← goX]; exact hr
  by_cases ci : Region.wanted oi (yielded ops a.tmps) = true
  ·simp only [ci, if_true] at h ⊢
   by_cases ce : eff.contains i = true
   ·simp only [ce, if_true] at h ⊢;intro w j;refine ((h w j).congr (ei v).symm (jZ _ _ _).symm).mono fun u w' ⟨K', M', le, j', hr⟩ => ⟨K', M', le, j', back u K' M' le hr⟩
   ·simp only [ce, Bool.false_eq_true, if_false] at h ⊢;obtain ⟨u, hu, hr⟩ := h;refine ⟨u, fun K' M' w le j => ?_, back u K M (Hl.le_refl _) hr⟩
    have := hu K' M' w le j
    rwa [ei v] at this
  ·simp only [ci, if_false, Bool.false_eq_true] at h ⊢;exact back undef K M (Hl.le_refl _) h
 ·simp only [cx, if_false, Bool.false_eq_true] at h;rw [wi undef] at h;have back : ∀ (u : Value) (K' : Hl) (M' : List Asn), K.le K' → DX E ops eff stg Q r S K' M' ((a.put ox.dst undef).put oi.dst u) →
    (if Region.wanted ox (yielded ops (a.put oi.dst u).tmps) = true then
     ∃ v, (∀ K'' M'' w, K'.le K'' → In E.w0 E.F K'' (S ++ M'') w → (execOp (a.put oi.dst u).eval ox).run E.P w = .ok (.value v) w) ∧ DX E ops eff stg Q r S K' M' ((a.put oi.dst u).put ox.dst v)
     else DX E ops eff stg Q r S K' M' ((a.put oi.dst u).put ox.dst undef)) := by
   intro u K' M' le hr;rw [wx u, if_neg cx, ← goX]; exact hr
  by_cases ci : Region.wanted oi (yielded ops a.tmps) = true
  ·simp only [ci, if_true] at h ⊢
   by_cases ce : eff.contains i = true
   ·simp only [ce, if_true] at h ⊢;intro w j;refine ((h w j).congr (ei undef).symm (jZ _ _ _).symm).mono fun u w' ⟨K', M', le, j', hr⟩ => ⟨K', M', le, j', back u K' M' le hr⟩
   ·simp only [ce, Bool.false_eq_true, if_false] at h ⊢;obtain ⟨u, hu, hr⟩ := h;refine ⟨u, fun K' M' w le j => ?_, back u K M (Hl.le_refl _) hr⟩
    have := hu K' M' w le j
    rwa [ei undef] at this
  ·simp only [ci, if_false, Bool.false_eq_true] at h ⊢;exact back undef K M (Hl.le_refl _) h
def j4 (ops : Array Oper) (eff stg : List Nat) (x i : Nat) : Bool :=
 match ops[x]?, ops[i]? with
 | some ox, some oi => !stg.contains x && !stg.contains i && !eff.contains x && ox.apart ops oi && iG ox && iG oi
 | _, _ => false
theorem iS {E : Env} {ops : Array Oper} {eff stg : List Nat} {S : List Asn} {Q : Post} {x : Nat} {r r' : List Nat} (k : ∀ S K M a, DX E ops eff stg Q r S K M a → DX E ops eff stg Q r' S K M a) {K : Hl} {M : List Asn} {a : Act}
  (h : DX E ops eff stg Q (x :: r) S K M a) : DX E ops eff stg Q (x :: r') S K M a := by
 unfold DX at h ⊢;cases hx : ops[x]? with
 | none => simp [hx] at h
 | some o =>
  simp only [hx] at h ⊢;split
  ·rename_i c;rw [if_pos c] at h;split
   ·rename_i c0;rw [if_pos c0] at h;exact fun w j => (h w j).mono fun u w' ⟨K', S', M', le, j', hr⟩ => ⟨K', S', M', le, j', k _ _ _ _ hr⟩
   ·rename_i c0;rw [if_neg c0] at h;split
    ·rename_i c';rw [if_pos c'] at h;exact fun w j => (h w j).mono fun u w' ⟨K', M', le, j', hr⟩ => ⟨K', M', le, j', k _ _ _ _ hr⟩
    ·rename_i c';rw [if_neg c'] at h;obtain ⟨v, hv, hr⟩ := h;exact ⟨v, hv, k _ _ _ _ hr⟩
  ·rename_i c;rw [if_neg c] at h;exact k _ _ _ _ h
theorem jR {E : Env} {ops : Array Oper} {eff stg : List Nat} {Q : Post} {i : Nat} {r2 : List Nat} : ∀ (r1 : List Nat) {S : List Asn} {K : Hl} {M : List Asn} {a : Act},
  (∀ x ∈ r1, j4 ops eff stg x i = true) → DX E ops eff stg Q (r1 ++ i :: r2) S K M a → DX E ops eff stg Q (i :: (r1 ++ r2)) S K M a
 | [], _, _, _, _, _, h => h
 | x :: r1, S, K, M, a, hs, h => by
  have h1 : DX E ops eff stg Q (x :: i :: (r1 ++ r2)) S K M a := iS (fun _ _ _ _ => jR r1 fun y hy => hs y (List.mem_cons_of_mem _ hy)) h;have hb := hs x (List.mem_cons_self ..);unfold j4 at hb;cases hx : ops[x]? with
  | none => simp [hx] at hb
  | some ox =>
   cases hi : ops[i]? with
   | none => simp [hx, hi] at hb
   | some oi =>
    simp only [hx, hi, Bool.and_eq_true, Bool.not_eq_true'] at hb;exact qQ hx hi hb.1.1.2 hb.1.2 hb.2 hb.1.1.1.2 hb.1.1.1.1.1 hb.1.1.1.1.2 h1
def upto (anc : List Nat) : List Edge → Nat
 | [] => 0
 | e :: es => if Region.binds .any e then (2 ^ e.on ||| anc.getD e.on 0) ||| upto anc es else upto anc es
def hZ (anc : List Nat) : List Oper → Nat → Bool
 | [], _ => true
 | o :: os, i => (o.after.toList.all fun e => !Region.binds .any e || Nat.blt e.on i) && ((anc.getD i 0 ||| upto anc o.after.toList) == upto anc o.after.toList) && hZ anc os (i + 1)
def pwB (ops : Array Oper) (eff stg anc : List Nat) : List Nat → Bool
 | [] => true
 | x :: r => (r.all fun i => (anc.getD i 0).testBit x || j4 ops eff stg x i) && !r.contains x && pwB ops eff stg anc r
def oO (l : List Oper) (eff stg anc ord : List Nat) : Bool :=
 hZ anc l 0 && pwB l.toArray eff stg anc ord && (List.range l.length).all ord.contains && ord.all (Nat.blt · l.length) && Nat.beq ord.length l.length
theorem gU {anc : List Nat} {x : Nat} : ∀ {es : List Edge}, (upto anc es).testBit x = true → ∃ e ∈ es, Region.binds .any e = true ∧ (x = e.on ∨ (anc.getD e.on 0).testBit x = true)
 | [], h => by simp [upto] at h
 | e :: es, h => by
  unfold upto at h;split at h
  ·rename_i hb;rw [Nat.testBit_or, Nat.testBit_or] at h;simp only [Bool.or_eq_true, Nat.testBit_two_pow, decide_eq_true_eq] at h;rcases h with (h | h) | h
   ·exact ⟨e, List.mem_cons_self .., hb, .inl h.symm⟩
   ·exact ⟨e, List.mem_cons_self .., hb, .inr h⟩
   ·obtain ⟨e', he, h'⟩ := gU h;exact ⟨e', List.mem_cons_of_mem _ he, h'⟩
  ·obtain ⟨e', he, h'⟩ := gU h;exact ⟨e', List.mem_cons_of_mem _ he, h'⟩
theorem gD {anc : List Nat} : ∀ {os : List Oper} {j : Nat}, hZ anc os j = true → ∀ {i : Nat} {o : Oper}, os[i]? = some o →
  (∀ e ∈ o.after.toList, Region.binds .any e = true → e.on < j + i) ∧ ∀ x, (anc.getD (j + i) 0).testBit x = true → (upto anc o.after.toList).testBit x = true
 | [], _, _, _, _, h => by simp at h
 | o :: os, j, h, i, o', ho => by
  simp only [hZ, Bool.and_eq_true, List.all_eq_true, Bool.or_eq_true, Bool.not_eq_true', beq_iff_eq] at h;obtain ⟨⟨h1, h2⟩, h3⟩ := h;cases i with
  | zero =>
   simp at ho; subst ho
   refine ⟨fun e he hb => ?_, fun x hx => ?_⟩
   ·rcases h1 e he with q | q
    ·rw [hb] at q; cases q
    ·simp [Nat.blt] at q; omega
   ·rw [← h2, Nat.testBit_or]; simp only [Nat.add_zero] at hx; rw [hx]; rfl
  | succ i =>
   have := gD (j := j + 1) h3 (i := i) (o := o') (by simpa using ho);have e : j + (i + 1) = j + 1 + i := by omega
   rw [e]; exact this
def Down (ops : Array Oper) (listed : Array Bool) : Prop :=
 ∀ (i : Nat) (o : Oper), listed.getD i true = true → ops[i]? = some o → ∀ e ∈ o.after.toList, Region.binds .any e = true → listed.getD e.on false = true
theorem fS {ops : Array Oper} {listed : Array Bool} {i : Nat} : i ∈ Region.ready .any ops listed ↔
  i < ops.size ∧ listed.getD i true = false ∧ ∃ o, ops[i]? = some o ∧ ∀ e ∈ o.after.toList, Region.binds .any e = true → listed.getD e.on false = true := by
 unfold Region.ready;simp only [List.mem_filter, List.mem_range, Bool.and_eq_true, Bool.not_eq_true']
 constructor
 ·rintro ⟨h1, h2, h3⟩;refine ⟨h1, h2, ?_⟩
  cases ho : ops[i]? with
  | none => simp [ho] at h3
  | some o =>
   refine ⟨o, rfl, fun e he hb => ?_⟩
   simp only [ho, Option.map_some, Option.getD_some, Array.all_eq_true_iff_forall_mem] at h3;have := h3 e (by simpa using he)
   simpa [hb] using this
 ·rintro ⟨h1, h2, o, ho, h3⟩;refine ⟨h1, h2, ?_⟩
  simp only [ho, Option.map_some, Option.getD_some, Array.all_eq_true_iff_forall_mem];intro e he
  by_cases hb : Region.binds .any e = true
  ·simp [hb, h3 e (by simpa using he) hb]
  ·simp [hb]
theorem kZ {l : List Oper} {anc : List Nat} (hA : hZ anc l 0 = true) {listed : Array Bool} (hsz : listed.size = l.length) (hd : Down l.toArray listed) {i : Nat} {o : Oper} (ho : l[i]? = some o)
  (hr : ∀ e ∈ o.after.toList, Region.binds .any e = true → listed.getD e.on false = true) {x : Nat} (hx : (anc.getD i 0).testBit x = true) : listed.getD x false = true := by
 have key : ∀ (n i : Nat) (o : Oper), i = n → l[i]? = some o → (∀ e ∈ o.after.toList, Region.binds .any e = true → listed.getD e.on false = true) → (anc.getD i 0).testBit x = true → listed.getD x false = true := by
  intro n;induction n using Nat.strongRecOn with
  | _ n ih =>
   rintro i o rfl ho hr hx;obtain ⟨h1, h2⟩ := gD hA ho;simp only [Nat.zero_add] at h1 h2;obtain ⟨e, he, hb, hxe⟩ := gU (h2 x hx);rcases hxe with rfl | hxe
   ·exact hr e he hb
   ·have hlt := h1 e he hb;have hil : i < l.length := by
     rcases Nat.lt_or_ge i l.length with h | h
     ·exact h
     ·simp [List.getElem?_eq_none h] at ho
    have hel : l[e.on]? = some l[e.on] := by simp [List.getElem?_eq_getElem (Nat.lt_trans hlt hil)]
    have hle := hr e he hb;refine ih e.on hlt e.on l[e.on] rfl hel ?_ hxe
    refine hd e.on l[e.on] ?_ (by simp [Array.getElem?_eq_getElem, Nat.lt_trans hlt hil])
    rw [Array.getD_eq_getD_getElem?] at hle ⊢;have : e.on < listed.size := by rw [hsz]; exact Nat.lt_trans hlt hil
    simpa [Array.getElem?_eq_getElem this] using hle
 exact key i i o rfl ho hr hx
theorem iI {ops : Array Oper} {eff stg anc : List Nat} : ∀ {r : List Nat}, pwB ops eff stg anc r = true → r.Nodup ∧ ∀ (r1 : List Nat) (i : Nat) (r2 : List Nat), r = r1 ++ i :: r2 → ∀ x ∈ r1, (anc.getD i 0).testBit x = true ∨ j4 ops eff stg x i = true
 | [], _ => ⟨List.nodup_nil, fun r1 i r2 e => by simp at e⟩
 | y :: r, h => by
  simp only [pwB, Bool.and_eq_true, List.all_eq_true, Bool.or_eq_true, Bool.not_eq_true'] at h;obtain ⟨⟨h1, h2⟩, h3⟩ := h;obtain ⟨n, q⟩ := iI h3;refine ⟨List.nodup_cons.2 ⟨by simpa using h2, n⟩, ?_⟩
  intro r1 i r2 e x hx;cases r1 with
  | nil => simp at hx
  | cons z r1 =>
   simp only [List.cons_append, List.cons.injEq] at e;obtain ⟨rfl, rfl⟩ := e;rcases List.mem_cons.1 hx with rfl | hx
   ·exact h1 i (by simp)
   ·exact q r1 i r2 rfl x hx
theorem gN {ops : Array Oper} {eff stg anc : List Nat} (p : Nat → Bool) : ∀ {r : List Nat}, pwB ops eff stg anc r = true → pwB ops eff stg anc (r.filter p) = true
 | [], _ => rfl
 | y :: r, h => by
  simp only [pwB, Bool.and_eq_true, List.all_eq_true, Bool.or_eq_true, Bool.not_eq_true'] at h;obtain ⟨⟨h1, h2⟩, h3⟩ := h;have ih := gN p h3;simp only [List.filter_cons];split
  ·simp only [pwB, Bool.and_eq_true, List.all_eq_true, Bool.or_eq_true, Bool.not_eq_true', ih, and_true];refine ⟨fun i hi => h1 i (List.mem_filter.1 hi).1, ?_⟩
   simp at h2 ⊢;exact fun h => absurd h h2
  ·exact ih
theorem pL {E : Env} {l : List Oper} {eff stg anc ord : List Nat} {Q : Post} (hA : hZ anc l 0 = true) (hP : pwB l.toArray eff stg anc ord = true) (hcov : ∀ i, i < l.length → i ∈ ord) (hin : ∀ i ∈ ord, i < l.length) :
  ∀ (fuel : Nat) (listed : Array Bool) (r : List Nat) (S : List Asn) (K : Hl) (M : List Asn) (a : Act) (w : World), listed.size = l.length → r = ord.filter (fun i => !listed.getD i true) → fuel = r.length → Down l.toArray listed →
   DX E l.toArray eff stg Q r S K M a → In E.w0 E.F K (S ++ M) w → wpAnyIn Fence.wide 0 E.P .any l.toArray Q fuel listed a w := by
 intro fuel;induction fuel with
 | zero =>
  intro listed r S K M a w hsz hr hf hd h j;have hr0 : r = [] := List.length_eq_zero_iff.1 hf.symm;subst hr0;have hall : ∀ i, i < l.length → listed.getD i true = true := by
   intro i hi;cases hb : listed.getD i true with
   | true => rfl
   | false =>
    have : i ∈ ord.filter (fun i => !listed.getD i true) := List.mem_filter.2 ⟨hcov i hi, by rw [hb]; rfl⟩;rw [← hr] at this; simp at this
  refine ⟨?_, h w j⟩
  refine List.eq_nil_iff_forall_not_mem.2 fun i hi => ?_
  obtain ⟨h1, h2, _⟩ := fS.1 hi;rw [hall i (by simpa using h1)] at h2; cases h2
 | succ fuel ih =>
  intro listed r S K M a w hsz hr hf hd h j;have hne : r ≠ [] := by rintro rfl; simp at hf
  refine ⟨fun h0 => ?_, fun i hi => ?_⟩
  ·
   exfalso
   have key : ∀ (n i : Nat), i = n → i < l.length → listed.getD i true = false → False := by
    intro n;induction n using Nat.strongRecOn with
    | _ n ihn =>
     rintro i rfl hil hb;have hi : i ∈ Region.ready .any l.toArray listed := by
      refine fS.2 ⟨by simpa using hil, hb, l[i], by simp [List.getElem?_eq_getElem hil], fun e he hbd => ?_⟩
      have hlt := (gD hA (i := i) (o := l[i]) (by simp [List.getElem?_eq_getElem hil])).1 e he hbd;simp only [Nat.zero_add] at hlt;have hel : e.on < listed.size := by rw [hsz]; exact Nat.lt_trans hlt hil
      cases hc : listed.getD e.on true with
      | false => exact absurd hc (fun hc => ihn e.on hlt e.on rfl (Nat.lt_trans hlt hil) hc)
      | true =>
       rw [Array.getD_eq_getD_getElem?] at hc ⊢
       simpa [Array.getElem?_eq_getElem hel] using hc
     rw [h0] at hi; simp at hi
   obtain ⟨i, hi⟩ := List.exists_mem_of_ne_nil r hne;rw [hr] at hi;obtain ⟨h1, h2⟩ := List.mem_filter.1 hi;exact key i i rfl (hin i h1) (by simpa using h2)
  ·obtain ⟨h1, h2, o, ho, h3⟩ := fS.1 hi;have hil : i < l.length := by simpa using h1
   have hol : l[i]? = some o := by simpa using ho
   have hmem : i ∈ r := by rw [hr]; exact List.mem_filter.2 ⟨hcov i hil, by rw [h2]; rfl⟩
   obtain ⟨r1, r2, hsplit⟩ := List.append_of_mem hmem;have hPr : pwB l.toArray eff stg anc r = true := by rw [hr]; exact gN _ hP
   obtain ⟨hnd, hq⟩ := iI hPr;have hsw : ∀ x ∈ r1, j4 l.toArray eff stg x i = true := by
    intro x hx;rcases hq r1 i r2 hsplit x hx with hb | hb
    ·exfalso
     have hxl := kZ hA hsz hd hol h3 hb;have hxr : x ∈ r := by rw [hsplit]; simp [hx]
     rw [hr] at hxr;obtain ⟨hxo, hxn⟩ := List.mem_filter.1 hxr;have hxs : x < listed.size := by rw [hsz]; exact hin x hxo
     rw [Array.getD_eq_getD_getElem?] at hxl;simp [Array.getElem?_eq_getElem hxs] at hxl hxn;rw [hxl] at hxn; cases hxn
    ·exact hb
   rw [hsplit] at h;have hfront := jR r1 hsw h;have his : i < listed.size := by rw [hsz]; exact hil
   have hr' : r1 ++ r2 = ord.filter (fun k => !(listed.setIfInBounds i true).getD k true) := by
    have hset : ∀ k, (listed.setIfInBounds i true).getD k true = (if k = i then true else listed.getD k true) := by
     intro k;rw [Array.getD_eq_getD_getElem?, Array.getD_eq_getD_getElem?, Array.getElem?_setIfInBounds]
     by_cases hk : i = k
     ·subst hk; simp [his]
     ·simp [hk, Ne.symm hk]
    have e1 : ord.filter (fun k => !(listed.setIfInBounds i true).getD k true) = r.filter (fun k => k != i) := by
     rw [hr, List.filter_filter];refine List.filter_congr fun k _ => ?_
     rw [hset k]
     by_cases hk : k = i
     ·subst hk; simp
     ·simp [hk]
    rw [e1, hsplit, List.filter_append, List.filter_cons];rw [hsplit] at hnd;have hn := List.nodup_append.1 hnd;have hn2 := List.nodup_cons.1 hn.2.1;simp only [bne_self_eq_false, Bool.false_eq_true, if_false];rw [List.filter_eq_self.2, List.filter_eq_self.2]
    ·intro k hk; simp only [bne_iff_ne]; rintro rfl; exact hn2.1 hk
    ·intro k hk; simp only [bne_iff_ne]; rintro rfl; exact hn.2.2 k hk k (List.mem_cons_self ..) rfl
   have hd' : Down l.toArray (listed.setIfInBounds i true) := by
    intro k ok hk hok e he hb;have up : listed.getD e.on false = true → (listed.setIfInBounds i true).getD e.on false = true := by
     intro q;rw [Array.getD_eq_getD_getElem?] at q ⊢;rw [Array.getElem?_setIfInBounds]
     by_cases hk : i = e.on
     ·subst hk; simp [his]
     ·simpa [hk] using q
    by_cases hki : k = i
    ·subst hki;rw [ho] at hok; cases hok
     exact up (h3 e he hb)
    ·refine up (hd k ok ?_ hok e he hb)
     rw [Array.getD_eq_getD_getElem?] at hk ⊢;rw [Array.getElem?_setIfInBounds, if_neg (Ne.symm hki)] at hk;exact hk
   have hlen : fuel = (r1 ++ r2).length := by
    have := congrArg List.length hsplit;simp at this hf ⊢; omega
   have step : ∀ S' K' M' a' w', DX E l.toArray eff stg Q (r1 ++ r2) S' K' M' a' → In E.w0 E.F K' (S' ++ M') w' → wpAnyIn Fence.wide 0 E.P .any l.toArray Q fuel (listed.setIfInBounds i true) a' w' :=
    fun S' K' M' a' w' hdx j' => ih _ (r1 ++ r2) S' K' M' a' w' (by simp [hsz]) hr' hlen hd' hdx j'
   unfold wpOpIn;simp only [ho];unfold DX at hfront;simp only [ho] at hfront
   by_cases hw : Region.wanted o (yielded l.toArray a.tmps) = true
   ·simp only [hw, if_true] at hfront ⊢
    by_cases hg : stg.contains i = true
    ·simp only [hg, if_true] at hfront;exact ((hfront w j).wp fun u w' ⟨K', S', M', le, j', hr⟩ => step S' K' M' _ w' hr j')
    simp only [hg, if_false, Bool.false_eq_true] at hfront
    by_cases he : eff.contains i = true
    ·simp only [he, if_true] at hfront;exact ((hfront w j).wp fun u w' ⟨K', M', le, j', hr⟩ => step S K' M' _ w' hr j')
    ·simp only [he, if_false, Bool.false_eq_true] at hfront;obtain ⟨v, hv, hr⟩ := hfront;refine ⟨fun _ _ => trivial, ?_⟩
     rw [s9, hv K M w (Hl.le_refl _) j];exact step S K M _ w hr j
   ·simp only [hw, if_false, Bool.false_eq_true] at hfront ⊢;exact ⟨fun _ _ => trivial, step S K M _ w hfront j⟩
theorem k5 {E : Env} {l : List Oper} {eff stg anc ord : List Nat} {S M : List Asn} {Q : Post} {id : Nat} {K : Hl} {a : Act} {w : World} (hm : E.P.follows .mixedOrders = true) (hok : oO l eff stg anc ord = true)
  (h : DX E l.toArray eff stg Q ord S K M a) (j : In E.w0 E.F K (S ++ M) w) : (Code.region id l.toArray true).wp E.P Q a w := by
 simp only [oO, Bool.and_eq_true, List.all_eq_true] at hok;obtain ⟨⟨⟨⟨hA, hP⟩, hcov⟩, hin⟩, hle⟩ := hok;refine wpIn_wide.1 (wpIn_region_any (n := 0) hm ?_)
 have hfil : ord.filter (fun i => !(Array.replicate l.toArray.size false).getD i true) = ord := by
  refine List.filter_eq_self.2 fun i hi => ?_
  have : i < l.length := by have := hin i hi; simp [Nat.blt] at this; omega
  rw [Array.getD_eq_getD_getElem?];simp [this]
 have hlen : ord.length = l.toArray.size := by simpa using Nat.eq_of_beq_eq_true hle
 refine pL (E := E) (eff := eff) (stg := stg) (anc := anc) (ord := ord) hA hP (fun i hi => by have := hcov i (List.mem_range.2 hi); simpa using this) (fun i hi => by have := hin i hi; simp [Nat.blt] at this; omega) l.toArray.size _ ord S K M a _ (by simp) hfil.symm hlen.symm ?_ h (j.drew _)
 intro k ok hk hok;rw [Array.getD_eq_getD_getElem?] at hk;have : k < l.toArray.size := by
  rcases Nat.lt_or_ge k l.toArray.size with h | h
  ·exact h
  ·rw [Array.getElem?_eq_none h] at hok; cases hok
 simp at this;simp [this] at hk
theorem bF {E : Env} {x : Exit} {fr : Fr} {K : Hl} {As L M : List Asn} {Q : Post} (hL : Tks As L M) (h : D E x fr K As Q) : D E x fr K L Q := fun a w f i => h a w f (i.imp hL.sat).left
theorem wB {E : Env} {c : Code} {fr : Fr} {K : Hl} {As L M : List Asn} {Q : Post} (hL : Tks As L M) (h : T E c fr K As Q) : T E c fr K L Q := fun a w f i => h a w f (i.imp hL.sat).left
def DL (E : Env) (ops : Array Oper) (eff stg : List Nat) (S : List Asn) (r : List Nat) (fr : Fr) (K : Hl) (M : List Asn) (Q : Post) : Prop :=
 ∀ a, FrOk E.n E.ds fr a → DX E ops eff stg Q r S K M a
inductive GOk (ops : Array Oper) (fr : Fr) (o : Oper) : Bool → Prop where
 | none : o.guard = .none → GOk ops fr o true
 | on {g dg : Nat} {c : Bool} : o.guard = some (g, c) → (ops[g]?).bind (·.dst) = some dg → fr.get dg = some (.bool c) → GOk ops fr o true
 | off {g dg : Nat} {c : Bool} : o.guard = some (g, c) → (ops[g]?).bind (·.dst) = some dg → fr.get dg = some (.bool (!c)) → GOk ops fr o false
 | offu {g dg : Nat} {c : Bool} : o.guard = some (g, c) → (ops[g]?).bind (·.dst) = some dg → fr.get dg = some undef → GOk ops fr o false
theorem GOk.wanted {ops : Array Oper} {fr : Fr} {o : Oper} {b : Bool} (h : GOk ops fr o b) {n : Nat} {ds : List Deferred} {a : Act} (f : FrOk n ds fr a) : Region.wanted o (yielded ops a.tmps) = b := by
 cases h with
 | none h => simp [Region.wanted, h]
 | on h1 h2 h3 => simp [Region.wanted, h1, yielded, h2, f.get _ _ h3]
 | off h1 h2 h3 => simp [Region.wanted, h1, yielded, h2, f.get _ _ h3]
 | offu h1 h2 h3 => simp [Region.wanted, h1, yielded, h2, f.get _ _ h3, undef]
section
variable {E : Env} {ops : Array Oper} {eff stg : List Nat} {S : List Asn} {r : List Nat} {fr : Fr} {K : Hl} {M L : List Asn} {Q : Post} {i : Nat} {o : Oper}
theorem cT {l : List Oper} {anc ord : List Nat} {id : Nat} (eff stg : List Nat) (hm : E.P.follows .mixedOrders = true) (hok : oO l eff stg anc ord = true) (hL : Tks S L M)
  (h : DL E l.toArray eff stg S ord fr K M Q) : T E (.region id l.toArray true) fr K L Q :=
 fun a w f j => k5 hm hok (h a f) (j.imp hL.sat)
theorem cO (h : D E .normal fr K (S ++ M) Q) : DL E ops eff stg S [] fr K M Q := fun a f w j => h a w f j
theorem aK {d : Nat} {v : Value} (ho : ops[i]? = some o) (hd : o.dst = some d) (hg : GOk ops fr o true) (hg0 : stg.contains i = false) (he : eff.contains i = false) (hv : Ev E fr K S o v) (hn : Nat.blt d E.n = true)
  (h : DL E ops eff stg S r ((d, v) :: fr) K M Q) : DL E ops eff stg S (i :: r) fr K M Q := by
 intro a f;unfold DX;simp only [ho, hg.wanted f, if_true, hg0, he, Bool.false_eq_true, if_false];refine ⟨v, fun K' M' w le j => hv a w f (j.left.weaken le), ?_⟩
 rw [hd]; exact h _ (f.put hn v)
theorem dR {d : Nat} (ho : ops[i]? = some o) (hd : o.dst = some d) (hg : GOk ops fr o false) (hn : Nat.blt d E.n = true) (h : DL E ops eff stg S r ((d, undef) :: fr) K M Q) : DL E ops eff stg S (i :: r) fr K M Q := by
 intro a f;unfold DX;simp only [ho, hg.wanted f, Bool.false_eq_true, if_false];rw [hd]; exact h _ (f.put hn undef)
theorem dl_s {d : Nat} {N : Value → Hl → List Asn → Prop} (ho : ops[i]? = some o) (hd : o.dst = some d) (hg : GOk ops fr o true) (hg0 : stg.contains i = false) (he : eff.contains i = true) (hv : EfS E fr K (S ++ M) o N) (hn : Nat.blt d E.n = true)
  (h : ∀ v K' L', N v K' L' → K.le K' → ∃ M', (∀ x, Sat L' x → Sat (S ++ M') x) ∧ DL E ops eff stg S r ((d, v) :: fr) K' M' Q) : DL E ops eff stg S (i :: r) fr K M Q := by
 intro a f;unfold DX;simp only [ho, hg.wanted f, if_true, hg0, he, Bool.false_eq_true, if_false];intro w j;obtain ⟨u, w', K', L', hr, hN, le, j'⟩ := hv a w f j;obtain ⟨M', hM, hD⟩ := h u K' L' hN le;rcases hr with hr | ⟨hr, rfl⟩
 ·exact .inl ⟨u, w', hr, K', M', le, j'.imp hM, by rw [hd]; exact hD _ (f.put hn u)⟩
 ·exact .inr (.inl ⟨w', hr, K', M', le, j'.imp hM, by rw [hd]; exact hD _ (f.put hn undef)⟩)
theorem zE {N : Value → Hl → List Asn → Prop} (ho : ops[i]? = some o) (hd : o.dst = none) (hg : GOk ops fr o true) (hg0 : stg.contains i = false) (he : eff.contains i = true) (hv : EfS E fr K (S ++ M) o N)
  (h : ∀ v K' L', N v K' L' → K.le K' → ∃ M', (∀ x, Sat L' x → Sat (S ++ M') x) ∧ DL E ops eff stg S r fr K' M' Q) : DL E ops eff stg S (i :: r) fr K M Q := by
 intro a f;unfold DX;simp only [ho, hg.wanted f, if_true, hg0, he, Bool.false_eq_true, if_false];intro w j;obtain ⟨u, w', K', L', hr, hN, le, j'⟩ := hv a w f j;obtain ⟨M', hM, hD⟩ := h u K' L' hN le;rcases hr with hr | ⟨hr, rfl⟩
 ·exact .inl ⟨u, w', hr, K', M', le, j'.imp hM, by rw [hd]; exact hD _ f⟩
 ·exact .inr (.inl ⟨w', hr, K', M', le, j'.imp hM, by rw [hd]; exact hD _ f⟩)
theorem lO {d : Nat} {ty : TypeId} {pos : String} {aft : Array Edge} {g : Option (Nat × Bool)} {fv : Operand} {xs : List Operand} {ats : Array TypeId} {f : FuncId} {caps : Array Value} {vs : List Value} {v : Value}
  (ho : ops[i]? = some ⟨some d, .call ⟨.value fv, xs.toArray, ats⟩, ty, pos, aft, g⟩) (hg : GOk ops fr ⟨some d, .call ⟨.value fv, xs.toArray, ats⟩, ty, pos, aft, g⟩ true) (hg0 : stg.contains i = false) (he : eff.contains i = true)
  (hf : fr.ev fv = some (.func (.func f) #[] caps)) (hx : fr.evs xs = some vs) (hs : Sp E.P f (vs ++ caps.toList) K [] (Val v K)) (hn : Nat.blt d E.n = true)
  (h : DL E ops eff stg S r ((d, v) :: fr) K M Q) : DL E ops eff stg S (i :: r) fr K M Q := by
 intro a fo;unfold DX;simp only [ho, hg.wanted fo, if_true, hg0, he, Bool.false_eq_true, if_false];intro w j;obtain ⟨F', i1, back⟩ := In.hide (L := []) (N := S ++ M) j;refine .inr (.inr (.inl ⟨f, _, w, gF hf hx hs fo w, (hs.2 F' w i1).mono fun e w' ⟨K', L', ⟨q1, q2, q3⟩, le, j'⟩ => ?_⟩))
 subst q1; subst q2; subst q3
 exact ⟨_, M, Hl.le_refl _, back j', h _ (fo.put hn v)⟩
theorem n7 {d : Nat} {ty : TypeId} {pos : String} {aft : Array Edge} {g : Option (Nat × Bool)} {fv : Operand} {xs : List Operand} {ats : Array TypeId} {f : FuncId} {caps : Array Value} {vs : List Value} {L1 L2 : List Asn} {R : Ending → Hl → List Asn → Prop}
  (ho : ops[i]? = some ⟨some d, .call ⟨.value fv, xs.toArray, ats⟩, ty, pos, aft, g⟩) (hg : GOk ops fr ⟨some d, .call ⟨.value fv, xs.toArray, ats⟩, ty, pos, aft, g⟩ true) (hg0 : stg.contains i = false) (he : eff.contains i = true)
  (hf : fr.ev fv = some (.func (.func f) #[] caps)) (hx : fr.evs xs = some vs) (hs : Sp E.P f (vs ++ caps.toList) K L1 R) (hL : Tks L1 (S ++ M) L2) (hn : Nat.blt d E.n = true)
  (hout : ∀ K' L', ¬ R .outgrown K' L')
  (hpan : ∀ ch K' L', R (.panicked ch) K' L' → K.le K' → ∀ a w, a.defers = E.ds → In E.w0 E.F K' (L' ++ L2) w → Q (.panic ch) a w)
  (h : ∀ v K' L', R (.returned v) K' L' → K.le K' → ∃ M', (∀ x, Sat (L' ++ L2) x → Sat (S ++ M') x) ∧ DL E ops eff stg S r ((d, v) :: fr) K' M' Q) : DL E ops eff stg S (i :: r) fr K M Q := by
 intro a fo;unfold DX;simp only [ho, hg.wanted fo, if_true, hg0, he, Bool.false_eq_true, if_false];intro w j;obtain ⟨F', i1, back⟩ := (j.imp hL.sat).hide;refine .inr (.inr (.inl ⟨f, _, w, gF hf hx hs fo w, (hs.2 F' w i1).mono fun e w' ⟨K', L', q, le, j'⟩ => ?_⟩))
 cases e with
 | returned v =>
  obtain ⟨M', hM, hD⟩ := h v K' L' q le;exact ⟨K', M', le, (back j').imp hM, hD _ (fo.put hn v)⟩
 | panicked ch => exact fun a' ha' => hpan ch K' L' q le a' w' (ha'.trans fo.defers) (back j')
 | outgrown => exact absurd q (hout _ _)
theorem qP {d : Nat} {ty : TypeId} {pos : String} {aft : Array Edge} {g : Option (Nat × Bool)} {fv : Operand} {xs : List Operand} {ats : Array TypeId} {f : FuncId} {caps : Array Value} {vs : List Value} {L1 L2 : List Asn} {N : Value → Hl → List Asn → Prop}
  (ho : ops[i]? = some ⟨some d, .call ⟨.value fv, xs.toArray, ats⟩, ty, pos, aft, g⟩) (hg : GOk ops fr ⟨some d, .call ⟨.value fv, xs.toArray, ats⟩, ty, pos, aft, g⟩ true) (hg0 : stg.contains i = false) (he : eff.contains i = true)
  (hf : fr.ev fv = some (.func (.func f) #[] caps)) (hx : fr.evs xs = some vs) (hs : Sp E.P f (vs ++ caps.toList) K L1 (Ret N)) (hL : Tks L1 (S ++ M) L2) (hn : Nat.blt d E.n = true)
  (h : ∀ v K' L', N v K' L' → K.le K' → ∃ M', (∀ x, Sat (L' ++ L2) x → Sat (S ++ M') x) ∧ DL E ops eff stg S r ((d, v) :: fr) K' M' Q) : DL E ops eff stg S (i :: r) fr K M Q :=
 n7 ho hg hg0 he hf hx hs hL hn (fun K' L' ⟨u, e, n⟩ => by cases e) (fun ch K' L' ⟨u, e, n⟩ => by cases e) (fun v K' L' ⟨u, e, n⟩ le => by cases e; exact h v K' L' n le)
theorem dl_g {d : Nat} {N : Value → Hl → List Asn → Prop} (ho : ops[i]? = some o) (hd : o.dst = some d) (hg : GOk ops fr o true) (he : stg.contains i = true) (hv : EfS E fr K (S ++ M) o N) (hn : Nat.blt d E.n = true)
  (h : ∀ v K' L', N v K' L' → K.le K' → DL E ops eff stg L' r ((d, v) :: fr) K' [] Q) : DL E ops eff stg S (i :: r) fr K M Q := by
 intro a f;unfold DX;simp only [ho, hg.wanted f, if_true, he];intro w j;obtain ⟨u, w', K', L', hr, hN, le, j'⟩ := hv a w f j;have hD := h u K' L' hN le;rcases hr with hr | ⟨hr, rfl⟩
 ·exact .inl ⟨u, w', hr, K', L', [], le, by simpa using j', by rw [hd]; exact hD _ (f.put hn u)⟩
 ·exact .inr (.inl ⟨w', hr, K', L', [], le, by simpa using j', by rw [hd]; exact hD _ (f.put hn undef)⟩)
theorem iD {N : Value → Hl → List Asn → Prop} (ho : ops[i]? = some o) (hd : o.dst = none) (hg : GOk ops fr o true) (he : stg.contains i = true) (hv : EfS E fr K (S ++ M) o N)
  (h : ∀ v K' L', N v K' L' → K.le K' → DL E ops eff stg L' r fr K' [] Q) : DL E ops eff stg S (i :: r) fr K M Q := by
 intro a f;unfold DX;simp only [ho, hg.wanted f, if_true, he];intro w j;obtain ⟨u, w', K', L', hr, hN, le, j'⟩ := hv a w f j;have hD := h u K' L' hN le;rcases hr with hr | ⟨hr, rfl⟩
 ·exact .inl ⟨u, w', hr, K', L', [], le, by simpa using j', by rw [hd]; exact hD _ f⟩
 ·exact .inr (.inl ⟨w', hr, K', L', [], le, by simpa using j', by rw [hd]; exact hD _ f⟩)
theorem mF {d : Nat} {ty : TypeId} {pos : String} {aft : Array Edge} {g : Option (Nat × Bool)} {fv : Operand} {xs : List Operand} {ats : Array TypeId} {f : FuncId} {caps : Array Value} {vs : List Value} {L1 L2 : List Asn} {R : Ending → Hl → List Asn → Prop}
  (ho : ops[i]? = some ⟨some d, .call ⟨.value fv, xs.toArray, ats⟩, ty, pos, aft, g⟩) (hg : GOk ops fr ⟨some d, .call ⟨.value fv, xs.toArray, ats⟩, ty, pos, aft, g⟩ true) (he : stg.contains i = true)
  (hf : fr.ev fv = some (.func (.func f) #[] caps)) (hx : fr.evs xs = some vs) (hs : Sp E.P f (vs ++ caps.toList) K L1 R) (hL : Tks L1 (S ++ M) L2) (hn : Nat.blt d E.n = true)
  (hout : ∀ K' L', ¬ R .outgrown K' L')
  (hpan : ∀ ch K' L', R (.panicked ch) K' L' → K.le K' → ∀ a w, a.defers = E.ds → In E.w0 E.F K' (L' ++ L2) w → Q (.panic ch) a w)
  (h : ∀ v K' L', R (.returned v) K' L' → K.le K' → DL E ops eff stg (L' ++ L2) r ((d, v) :: fr) K' [] Q) : DL E ops eff stg S (i :: r) fr K M Q := by
 intro a fo;unfold DX;simp only [ho, hg.wanted fo, if_true, he];intro w j;obtain ⟨F', i1, back⟩ := (j.imp hL.sat).hide;refine .inr (.inr (.inl ⟨f, _, w, gF hf hx hs fo w, (hs.2 F' w i1).mono fun e w' ⟨K', L', q, le, j'⟩ => ?_⟩))
 cases e with
 | returned v => exact ⟨K', L' ++ L2, [], le, by simpa using back j', h v K' L' q le _ (fo.put hn v)⟩
 | panicked ch => exact fun a' ha' => hpan ch K' L' q le a' w' (ha'.trans fo.defers) (back j')
 | outgrown => exact absurd q (hout _ _)
theorem eZ {d : Nat} {ty : TypeId} {pos : String} {aft : Array Edge} {g : Option (Nat × Bool)} {fv : Operand} {xs : List Operand} {ats : Array TypeId} {f : FuncId} {caps : Array Value} {vs : List Value} {L1 L2 : List Asn} {N : Value → Hl → List Asn → Prop}
  (ho : ops[i]? = some ⟨some d, .call ⟨.value fv, xs.toArray, ats⟩, ty, pos, aft, g⟩) (hg : GOk ops fr ⟨some d, .call ⟨.value fv, xs.toArray, ats⟩, ty, pos, aft, g⟩ true) (he : stg.contains i = true)
  (hf : fr.ev fv = some (.func (.func f) #[] caps)) (hx : fr.evs xs = some vs) (hs : Sp E.P f (vs ++ caps.toList) K L1 (Ret N)) (hL : Tks L1 (S ++ M) L2) (hn : Nat.blt d E.n = true)
  (h : ∀ v K' L', N v K' L' → K.le K' → DL E ops eff stg (L' ++ L2) r ((d, v) :: fr) K' [] Q) : DL E ops eff stg S (i :: r) fr K M Q :=
 mF ho hg he hf hx hs hL hn (fun K' L' ⟨u, e, n⟩ => by cases e) (fun ch K' L' ⟨u, e, n⟩ => by cases e) (fun v K' L' ⟨u, e, n⟩ le => by cases e; exact h v K' L' n le)
theorem dJ : ∀ (L : List Asn), Tks L L []
 | [] => .nil
 | _ :: L => .cons .here (dJ L)
theorem n8 (d : Nat) {b : Bool} (e : fr.get d = some (.bool b)) (ht : b = true → DL E ops eff stg S r ((d, .bool true) :: fr) K M Q) (hf : b = false → DL E ops eff stg S r ((d, .bool false) :: fr) K M Q) : DL E ops eff stg S r fr K M Q := by
 intro a f;have key : ∀ c, b = c → FrOk E.n E.ds ((d, .bool c) :: fr) a := fun c hc => ⟨f.defers, f.size, fun k v h => by
  simp only [Fr.get] at h
  by_cases hk : d = k
  ·subst hk; simp at h; subst h; rw [← hc]; exact f.get _ _ e
  ·rw [beqF hk] at h; exact f.get _ _ h⟩
 cases b
 ·exact hf rfl a (key _ rfl)
 ·exact ht rfl a (key _ rfl)
theorem mG (d : Nat) {p : Prop} [Decidable p] (e : fr.get d = some (.bool (decide p))) (ht : p → DL E ops eff stg S r ((d, .bool true) :: fr) K M Q) (hf : ¬ p → DL E ops eff stg S r ((d, .bool false) :: fr) K M Q) : DL E ops eff stg S r fr K M Q :=
 n8 d e (fun h => ht (of_decide_eq_true h)) (fun h => hf (of_decide_eq_false h))
end
def Yl (P : Program) (l : Nat) (vs : List Value) (K : Hl) (L : List Asn) (R : Bool → Hl → List Asn → Prop) : Prop :=
 ∀ F w, In w F K L w → ∃ fn tmps assign body, (Instr.yield l vs.toArray).run P w = .ok (.round l fn tmps assign body) w ∧
  RoundIn Fence.wide 0 P l fn tmps assign body w fun e w' => ∃ b K' L', e = .returned (.bool b) ∧ R b K' L' ∧ K.le K' ∧ In w F K' L' w'
end Go.SL.R
end
section
namespace Go.SL
open R (Yl)
abbrev mrk (D : Nat) : Deferred := { target := .collected D, args := #[] }
section
variable {P : Program} {fn : Func} {n : Nat} {w0 : World} {F K0 K : Hl} {fr : Fr} {L : List Asn} {R : Ending → Hl → List Asn → Prop}
end
section
variable {E : Env} {fr : Fr} {K : Hl} {L L1 L2 : List Asn} {Q : Post}
abbrev Env.mark (E : Env) (D : Nat) : Env := ⟨E.P, E.n, mrk D :: E.ds, E.w0, E.F⟩
end
section
variable {E : Env} {fr : Fr} {K : Hl} {L : List Asn} {Q : Post} {c x y : Code} {ops : Array Oper} {rest : List Oper} {l : Nat}
end
abbrev _root_.Go.Loop.on (r : Loop) : Loop := { r with state := .ready, pending := none }
abbrev _root_.Go.Loop.off (r : Loop) (c : Code) : Loop := { r with state := .done, pending := some c }
section
variable {E : Env} {fr : Fr} {K : Hl} {L : List Asn} {Q : Post} {c : Code}
theorem wA (h : T E c fr K L (Exit.noGoto Q)) : T E (.scope c) fr K L Q := fun a w f i => wp_scope_straight (h a w f i)
theorem jP (h : D E .ret fr K L Q) : D E .ret fr K L (Exit.noGoto Q) := h
end
end Go.SL
end
section
namespace Go.Proofs
open Go Go.SL Go.Syn Go.Mach
open R (Yl)
structure FI where
 i : Nat
 K : Hl
 L : List Asn
end Go.Proofs
end
section
namespace Go.Proofs
open Go Go.SL Go.Syn Go.Mach
structure MV where
 v : Value
 K : Hl
structure MW where
 i : Nat
 v : Value
 K : Hl
end Go.Proofs
end
section
namespace Go.Proofs
open Go Go.SL Go.Syn Go.Mach
open R (Yl)
structure XI where
 i : Nat
 ds : List Nat
 K : Hl
end Go.Proofs
end
section
namespace Go.SL
open Go.MapKept
abbrev EntA := (Nat × Nat) × Nat
structure KeyA (P : Program) (kt : TypeId) : Prop where
 arr : ∃ e, P.underlying kt = some (.array 2 e) ∧ P.underlying e = some (.int .i64) ∧ P.plainKey e = true ∧ P.cellsOf e = 1 ∧ ∃ i, P.info? e = some i
section
variable {P : Program} {w : World} {kt : TypeId}
end
section
variable {E : Env} {fr : Fr} {K : Hl} {L L' : List Asn} {Q : Post} {dst : Option Tmp} {ty : TypeId} {pos : String} {aft : Array Edge} {g : Option (Nat × Bool)} {x y m : Operand} {t kt et b c i j : Nat} {v z : Value} {es : List EntA}
end
section
variable {E : Env} {c x y : Code} {fr : Fr} {K : Hl} {L : List Asn} {Q : Post} {α1 α2 α3 α4 α5 : Type}
end
end Go.SL
end
section
namespace Go.Proofs
open Go Go.SL Go.Syn Go.Mach
structure GlK (w v k : List UInt8) (bd md bp bk bv bw bm : Nat) (K : Hl) : Prop where
 hd : K bd = some (aW [.map (some md)] 427)
 hk : K bk = some (aW [str k] 9)
 hv : K bv = some (aW [str v] 9)
 hw : K bw = some (aW [str w] 9)
 hm : K bm = some (aW [.func (.func 306) #[] #[ptr bd, ptr bp, ptr bk, ptr bv, ptr bw, ptr bm]] 169)
end Go.Proofs
end
section
namespace Go.Proofs
open Go Go.SL Go.Syn Go.Mach
theorem eR {α : Type} {l : List α} {i : Nat} {x : α} (hx : l[i]? = some x) : l.drop i = x :: l.drop (i + 1) := by
 have hi : i < l.length := by
  rcases Nat.lt_or_ge i l.length with h' | h'
  ·exact h'
  ·simp [List.getElem?_eq_none h'] at hx
 have hc : l[i] = x := by simpa [List.getElem?_eq_getElem hi] using hx
 rw [List.drop_eq_getElem_cons hi, hc]
structure MZ where
 i : Nat
 K : Hl
structure MM where
 ok : Bool
 K : Hl
 pv : Value
 s : MS
end Go.Proofs
end
section
namespace Go.SL
abbrev itr (b : Nat) (l : List UInt8) (p : Nat) : Asn := pt b (.stringIter ⟨l.toArray⟩ p)
abbrev dec (l : List UInt8) (p : Nat) : Nat × Nat := Utf8.decode ⟨l.toArray⟩ p
section
variable {E : Env} {fr : Fr} {K : Hl} {L L' : List Asn} {dst : Option Tmp} {ty : TypeId} {pos : String} {aft : Array Edge} {g : Option (Nat × Bool)} {x : Operand} {t : TypeId} {l : List UInt8} {b p : Nat}
theorem oY (hu : E.P.underlying t = some .string) (hx : fr.ev x = some (str l)) : EfS E fr K L ⟨dst, .range t x, ty, pos, aft, g⟩ (fun v K' L' => ∃ b, v = ptr b ∧ K' = K ∧ L' = itr b l 0 :: L) := by
 intro a w f i;refine ⟨ptr w.heap.size, w.iter ⟨l.toArray⟩ 0, K, itr w.heap.size l 0 :: L, .inl ?_, ⟨_, rfl, rfl, rfl⟩, Hl.le_refl _, i.alloc _⟩
 simp only [execOp, f.ev hx, bind];exact aL (run_range_string w t ⟨l.toArray⟩ hu)
theorem oW (hp : p < l.length) (hx : fr.ev x = some (ptr b)) (hT : Fnd (itr b l p) (itr b l (p + (dec l p).2)) L L') :
  EfS E fr K L ⟨dst, .next x true, ty, pos, aft, g⟩ (fun v K' L'' => v = .tuple #[.bool true, i64 p, .int .i32 (dec l p).1] ∧ K' = K ∧ L'' = L') := by
 intro a w f i;have hb := i.mem hT;have hp' : p < (⟨l.toArray⟩ : ByteArray).size := by simpa [ByteArray.size] using hp
 refine ⟨_, w.iterAt b ⟨l.toArray⟩ (p + (dec l p).2), K, L', .inl ?_, ⟨rfl, rfl, rfl⟩, Hl.le_refl _, ?_⟩
 ·simp only [execOp, f.ev hx, bind];exact aL (Lib.run_next_any_at w b ⟨l.toArray⟩ p ty hb hp')
 ·have hlt : b < w.heap.size := (Array.getElem?_eq_some_iff.1 hb).1;exact i.writeAt hT (H := w.heap.setIfInBounds b (.stringIter ⟨l.toArray⟩ (p + (dec l p).2))) (by simp) (by simp [hlt]) (fun y hy => by rw [Array.getElem?_setIfInBounds_ne (Ne.symm hy)])
theorem p7 (hp : ¬ p < l.length) (hx : fr.ev x = some (ptr b)) (hT : Hs (itr b l p) L) :
  EfS E fr K L ⟨dst, .next x true, ty, pos, aft, g⟩ (fun v K' L'' => v = .tuple #[.bool false] ∧ K' = K ∧ L'' = L) := by
 intro a w f i;have hb := (Sees.own (K := K) hT).at i;have hp' : ¬ p < (⟨l.toArray⟩ : ByteArray).size := by simpa [ByteArray.size] using hp
 refine ⟨_, w, K, L, .inl ?_, ⟨rfl, rfl, rfl⟩, Hl.le_refl _, i⟩
 simp only [execOp, f.ev hx, bind];exact aL (Lib.run_next_end_at w b ⟨l.toArray⟩ p ty hb hp')
end
theorem yR (l : List UInt8) (p : Nat) (h : p < l.length) : (⟨l.toArray⟩ : ByteArray).get! p = l[p] := by
 have h' : p < (⟨l.toArray⟩ : ByteArray).size := by simpa [ByteArray.size] using h
 have := get_at ⟨l.toArray⟩ p h';rw [Nat.add_zero] at this;rw [this]; rfl
theorem aDY {l : List UInt8} {p : Nat} {c : UInt8} (hc : l[p]? = some c) (h : c.toNat < 128) : dec l p = (c.toNat, 1) := by
 have hp : p < l.length := by
  rcases Nat.lt_or_ge p l.length with h' | h'
  ·exact h'
  ·rw [List.getElem?_eq_none h'] at hc; cases hc
 have hcl : l[p] = c := by rw [List.getElem?_eq_getElem hp] at hc; exact Option.some.inj hc
 have h' : p < (⟨l.toArray⟩ : ByteArray).size := by simpa [ByteArray.size] using hp
 have e : (⟨l.toArray⟩ : ByteArray)[p]'h' = c := hcl;have := decode_ascii ⟨l.toArray⟩ p h' (by rw [e]; exact h);rw [e] at this; exact this
theorem aDX {l : List UInt8} {p : Nat} {c : UInt8} (hc : l[p]? = some c) (h : 128 ≤ c.toNat) :
    128 ≤ (dec l p).1 ∧ (dec l p).1 ≤ 2147483647 ∧ 1 ≤ (dec l p).2 ∧ p + (dec l p).2 ≤ l.length ∧ ∀ j d, p ≤ j → j < p + (dec l p).2 → l[j]? = some d → 128 ≤ d.toNat := by
  have hp : p < l.length := by
    rcases Nat.lt_or_ge p l.length with h' | h'
    · exact h'
    · rw [List.getElem?_eq_none h'] at hc; cases hc
  have hcl : l[p] = c := by rw [List.getElem?_eq_getElem hp] at hc; exact Option.some.inj hc
  have h' : p < (⟨l.toArray⟩ : ByteArray).size := by simpa [ByteArray.size] using hp
  have hsz : (⟨l.toArray⟩ : ByteArray).size = l.length := by simp [ByteArray.size]
  have e : (⟨l.toArray⟩ : ByteArray)[p]'h' = c := hcl;have h1 := decode_high ⟨l.toArray⟩ p h' (by rw [e]; exact h);have h2 := decode_le ⟨l.toArray⟩ p;refine ⟨h1.1, h2, h1.2, ?_⟩
  have hb0 : ((⟨l.toArray⟩ : ByteArray).get! (p + 0)).toNat = c.toNat := by rw [Nat.add_zero, yR l p hp, hcl]
  have cont : ∀ k, p + k < l.length → ((⟨l.toArray⟩ : ByteArray).get! (p + k)).toNat / 64 = 2 → ∀ d, l[p + k]? = some d → 128 ≤ d.toNat := by
    intro k hk hq d hd;rw [yR l _ hk] at hq;rw [List.getElem?_eq_getElem hk] at hd;cases hd; omega
  have key : ∀ n, (∀ k, 1 ≤ k → k < n → p + k < l.length ∧ ((⟨l.toArray⟩ : ByteArray).get! (p + k)).toNat / 64 = 2) → 1 ≤ n → (dec l p).2 = n → p + (dec l p).2 ≤ l.length ∧ ∀ j d, p ≤ j → j < p + (dec l p).2 → l[j]? = some d → 128 ≤ d.toNat := by
    intro n hk hn he;rw [he];refine ⟨?_, fun j d hj hj2 hd => ?_⟩
    · rcases Nat.lt_or_ge 1 n with h3 | h3
      · have := (hk (n - 1) aI aI).1; omega
      · omega
    · rcases Nat.lt_or_ge p j with h3 | h3
      · obtain ⟨q1, q2⟩ := hk (j - p) aI aI;have ej : p + (j - p) = j := by omega
        exact cont (j - p) q1 q2 d (by rw [ej]; exact hd)
      · have : j = p := by omega
        subst this; rw [hc] at hd; cases hd; exact h
  have hn : ¬ (((⟨l.toArray⟩ : ByteArray).get! (p + 0)).toNat < 128) := by rw [hb0]; omega
  have hone : (dec l p).2 = 1 → p + (dec l p).2 ≤ l.length ∧ ∀ j d, p ≤ j → j < p + (dec l p).2 → l[j]? = some d → 128 ≤ d.toNat := key 1 (fun k h1 h2 => by omega) (Nat.le_refl _);obtain ⟨D, hD⟩ : ∃ D, D = Utf8.decode ⟨l.toArray⟩ p := ⟨_, rfl⟩;have hD2 : dec l p = D := hD.symm;rw [hD2] at key hone ⊢;have unf := hD;simp only [Utf8.decode, hn, if_false] at unf;split at unf
  · rename_i hq;simp only [Bool.and_eq_true, beq_iff_eq, decide_eq_true_eq, hsz] at hq;split at unf
    · exact key 2 (fun k k1 k2 => by obtain rfl : k = 1 := by omega
                                     exact hq.2) aI (by rw [unf])
    · exact hone (by rw [unf])
  · split at unf
    · rename_i hq;simp only [Bool.and_eq_true, beq_iff_eq, decide_eq_true_eq, hsz] at hq;split at unf
      · exact key 3 (fun k k1 k2 => by
          rcases (show k = 1 ∨ k = 2 by omega) with rfl | rfl
          · exact hq.1.2
          · exact hq.2) aI (by rw [unf])
      · exact hone (by rw [unf])
    · split at unf
      · rename_i hq;simp only [Bool.and_eq_true, beq_iff_eq, decide_eq_true_eq, hsz] at hq;split at unf
        · exact key 4 (fun k k1 k2 => by
            rcases (show k = 1 ∨ k = 2 ∨ k = 3 by omega) with rfl | rfl | rfl
            · exact hq.1.1.2
            · exact hq.1.2
            · exact hq.2) aI (by rw [unf])
        · exact hone (by rw [unf])
      · exact hone (by rw [unf])
section
variable {E : Env} {fr : Fr} {K : Hl} {L : List Asn} {L' : Nat → List Asn} {dst : Option Tmp} {ty : TypeId} {pos : String} {aft : Array Edge} {g : Option (Nat × Bool)} {x : Operand} {t t2 : TypeId} {l : List UInt8} {b p : Nat} {c : UInt8}
theorem dX {α : Type} {l : List α} {p : Nat} {c : α} (hc : l[p]? = some c) : p < l.length := by
 rcases Nat.lt_or_ge p l.length with h' | h'
 ·exact h'
 ·rw [List.getElem?_eq_none h'] at hc; cases hc
theorem s7 (hc : l[p]? = some c) (h : c.toNat < 128) (hx : fr.ev x = some (ptr b)) (hT : ∀ n, Fnd (itr b l p) (itr b l (p + n)) L (L' n)) :
  EfS E fr K L ⟨dst, .next x true, ty, pos, aft, g⟩ (fun v K' L'' => v = .tuple #[.bool true, i64 p, .int .i32 c.toNat] ∧ K' = K ∧ L'' = L' 1) := by
 intro a w f i;have hd := aDY hc h;have := oW (dst := dst) (ty := ty) (pos := pos) (aft := aft) (g := g) (dX hc) hx (hT (dec l p).2) a w f i;rw [hd] at this;exact this
theorem aAR (hc : l[p]? = some c) (h : 128 ≤ c.toNat) (hx : fr.ev x = some (ptr b)) (hT : ∀ n, Fnd (itr b l p) (itr b l (p + n)) L (L' n)) :
  EfS E fr K L ⟨dst, .next x true, ty, pos, aft, g⟩ (fun v K' L'' => ∃ r n : Nat, v = .tuple #[.bool true, i64 p, .int .i32 r] ∧ K' = K ∧ L'' = L' n ∧ 128 ≤ r ∧ r ≤ 2147483647 ∧ 1 ≤ n ∧ p + n ≤ l.length ∧ ∀ j d, p ≤ j → j < p + n → l[j]? = some d → 128 ≤ d.toNat) := by
 intro a w f i;obtain ⟨d1, d2, d3, d4, d5⟩ := aDX hc h;obtain ⟨u, w', K', L'', hr, ⟨hv, hK, hL⟩, le, j⟩ := oW (dst := dst) (ty := ty) (pos := pos) (aft := aft) (g := g) (dX hc) hx (hT (dec l p).2) a w f i;exact ⟨u, w', K', L'', hr, ⟨_, _, hv, hK, hL, d1, d2, d3, d4, d5⟩, le, j⟩
def fY (r : Int) : List UInt8 := (Utf8.encode r).data.toList
theorem qU {k' : IntKind} {r : Int} (hs : E.P.underlying t = some (.int k')) (hd : E.P.underlying t2 = some .string) (hx : fr.ev x = some (.int .i32 r)) :
  Ev E fr K L ⟨dst, .convert t t2 x, ty, pos, aft, g⟩ (str (fY r)) := fun a w f j => by
 simp only [execOp, f.ev hx];refine cP ?_;unfold convert;rw [aL (run_underlying hs w), aL (run_underlying hd w)]
 show Result.ok (Value.string (Utf8.encode _)) w = _
 simp [fY]
theorem aAP (r : Int) (h : 128 ≤ r) : 2 ≤ (fY r).length ∧ (fY r).length ≤ 4 ∧ ∃ c, (fY r)[(fY r).length - 1]? = some c ∧ 128 ≤ c.toNat := by
 unfold fY Utf8.encode;have hc : 128 ≤ (if Utf8.valid r then r.toNat else Utf8.runeError) := by
  split
  ·omega
  ·decide
 generalize (if Utf8.valid r then r.toNat else Utf8.runeError) = c at hc
 have hb : ∀ n : Nat, 128 ≤ (UInt8.ofNat (0x80 + n % 64)).toNat := by
  intro n;simp;omega
 simp only [if_neg (show ¬ c < 0x80 by omega)];split
 ·exact ⟨by simp, by simp, _, rfl, hb _⟩
 ·split
  ·exact ⟨by simp, by simp, _, rfl, hb _⟩
  ·exact ⟨by simp, by simp, _, rfl, hb _⟩
end
end Go.SL
end
section
namespace Go.Proofs
open Go Go.SL Go.Syn Go.Mach
theorem aDE {cs : List UInt8} (hcs : ∀ c ∈ cs, c.toNat < 128) {i : Nat} (h : i < cs.length) : ∃ c, cs[i]? = some c ∧ c.toNat < 128 := ⟨_, List.getElem?_eq_getElem h, hcs _ (List.getElem_mem h)⟩
theorem aFJ {cs : List UInt8} (hcs : ∀ c ∈ cs, c.toNat < 128) {c : UInt8} (h : 128 ≤ c.toNat) (k : Nat) : Lib.indexByte (cs.drop k) c = -1 := by
 have h1 := Lib.indexByte_ge (cs.drop k) c
 by_cases hc : Lib.indexByte (cs.drop k) c = -1
 ·exact hc
 ·obtain ⟨h2, _⟩ := Lib.indexByte_some (l := cs.drop k) (c := c) (o := (Lib.indexByte (cs.drop k) c).toNat) aI;rw [List.getElem?_drop] at h2;have := hcs _ (List.mem_of_getElem? h2); omega
theorem uC (s : List UInt8) (c : UInt8) (K : Hl) : Sp Tryz.prog 308 [str s, .int .u8 c.toNat] K [] (Val (i64 (Lib.indexByte s c)) K) := by
 refine jC ⟨_, Tryz.func308, rfl, rfl⟩ fun w hw => ?_
 have := Tryz.strings_IndexByte ⟨s.toArray⟩ c.toNat w;have e : ((c.toNat : Int).toNat).toUInt8 = c := by simp
 rw [e] at this;exact this
theorem s6 (cs : List UInt8) (c : UInt8) (hc : c.toNat < 128) (K : Hl) : Sp Tryz.prog 289 [str cs, .int .i32 c.toNat] K [] (Val (i64 (Lib.indexByte cs c)) K) := by
 refine jC ⟨_, Tryz.func289, rfl, rfl⟩ fun w hw => ?_
 have := Tryz.strings_IndexRune_ascii ⟨cs.toArray⟩ c.toNat w aI aI;have e : ((c.toNat : Int).toNat).toUInt8 = c := by simp
 rw [e] at this;exact this
theorem uX (r : Int) (K : Hl) : Sp Tryz.prog 322 [.int .i32 r] K [] (Val (.bool (Lib.validRune r)) K) :=
 jC ⟨_, Tryz.func322, rfl, rfl⟩ fun w hw => Tryz.utf8_ValidRune r w
theorem s5 (cs : List UInt8) (hcs : ∀ c ∈ cs, c.toNat < 128) (hl : 2 ≤ cs.length) (r : Int) (h1 : 128 ≤ r) (K : Hl) : Sp Tryz.prog 289 [str cs, .int .i32 r] K [] (Ret fun v K' L' => v = i64 (-1) ∧ K' = K ∧ L' = []) := by
 obtain ⟨q1, q2, cl, q3, q4⟩ := aAP r h1;refine bE Tryz.func289 rfl Tryz.ntmps289 rfl rfl fun F w => ?_
 refine aG (aC ?_);refine aA (aD rfl) rfl ?_;refine aF (aE ?_);refine a7 (aG ?_);refine aC ?_;refine aA (aB rfl) rfl ?_;refine aA (fN rfl rfl) rfl ?_;refine aA (aB rfl) rfl ?_;refine bS 163 rfl (fun g163 => ?_) (fun g163 => ?_)
 ·
  refine aT rfl rfl ?_;refine aA (aB rfl) rfl ?_;refine aT rfl rfl ?_;refine aA (cZ rfl rfl) rfl ?_;refine aA (bG rfl rfl) rfl ?_;refine aA (aD rfl) rfl ?_;refine aF (aE ?_);refine bJ 160 rfl (fun h160 => ?_) (fun h160 => ?_)
  ·
   exact absurd h160 aI
  ·
   refine aG (aC ?_);refine aA (aB rfl) rfl ?_;refine aA (bW rfl rfl) rfl ?_;refine aA (aD rfl) rfl ?_;refine aF (aE ?_);refine bJ 171 rfl (fun h171 => ?_) (fun h171 => ?_)
   ·
    refine aG (aG ?_);refine aC ?_;refine aA (aB rfl) rfl ?_;refine ol_s (oY Tryz.underlying9 rfl) rfl ?_;rintro _ K _ ⟨b175, rfl, rfl, rfl⟩ -;refine aF (aE ?_);refine a7 ?_;refine eW (fun (i : Nat) => i ≤ cs.length) (fun i => [(0, str cs), (1, .int .i32 r), (175, ptr b175)]) (fun _ => K) (fun i => [itr b175 cs i]) (fun i => cs.length - i) 0 (Nat.zero_le _) (.cons 0 rfl (.cons 1 rfl (.cons 175 rfl .nil))) rfl (fun _ h => h) ?_;intro i hi0;rcases Nat.lt_or_ge i cs.length with hi | hi
    ·
     obtain ⟨c, hc, hlo⟩ := aDE hcs hi;refine aG (aC ?_);refine ol_s (s7 (L' := fun n => [itr b175 cs (i + n)]) hc hlo rfl (fun _ => .here)) rfl ?_;rintro _ K _ ⟨rfl, rfl, rfl⟩ -;refine aA (aQ rfl rfl) rfl ?_;refine aF (aE ?_);refine aG ?_;refine dH rfl ?_;refine aX ?_;refine aE (a7 ?_);refine aG (aC ?_);refine aA (aQ rfl rfl) rfl ?_;refine aA (aQ rfl rfl) rfl ?_;refine aA (aD rfl) rfl ?_;refine aA (aD rfl) rfl ?_;refine aF (aE ?_);refine aG (aC ?_);refine aA (aB rfl) rfl ?_;refine aA (bW rfl rfl) rfl ?_;refine aF (aE ?_);refine bJ 181 rfl (fun h181 => ?_) (fun h181 => ?_)
     ·
      exact absurd h181 aI
     ·
      refine aX ?_;refine aU ?_;exact dW (i + 1) aI aI (.cons 0 rfl (.cons 1 rfl (.cons 175 rfl .nil))) rfl (fun _ h => h)
    ·
     have hn : ¬ i < cs.length := aI;refine aG (aC ?_);refine ol_s (p7 hn rfl .here) rfl ?_;rintro _ K _ ⟨rfl, rfl, rfl⟩ -;refine aA (aQ rfl rfl) rfl ?_;refine aF (aE ?_);refine aG ?_;refine bL rfl ?_;refine cK ?_;refine aP ?_;refine aP ?_;refine bB ?_;refine aE (aG ?_);refine aC ?_;refine aA (aD rfl) rfl ?_;refine aF (aE ?_);refine a8 ?_;refine bC ?_;refine bF .nil ?_;refine bA rfl rfl (Hl.le_refl _) ?_;exact ⟨_, rfl, rfl, rfl, rfl⟩
   ·
    refine aG (aC ?_);refine aA (aB rfl) rfl ?_;refine bN rfl rfl (uX r _) rfl ?_;refine aA (by first | exact fB rfl | exact dL rfl) rfl ?_;refine aA (aD rfl) rfl ?_;refine aF (aE ?_)
    first | refine bJ 183 rfl (fun h183 => ?_) (fun h183 => ?_) | refine gP 183 rfl (fun h183 => ?_) (fun h183 => ?_)
    ·
     refine aG (aC ?_);refine aA (aD rfl) rfl ?_;refine aF (aE ?_);refine a8 ?_;refine bC ?_;refine bF .nil ?_;refine bA rfl rfl (Hl.le_refl _) ?_;exact ⟨_, rfl, rfl, rfl, rfl⟩
    ·
     refine wA ?_;refine aG (aC ?_);refine aA (aB rfl) rfl ?_;refine aA (qU Tryz.underlying21 Tryz.underlying9 rfl) rfl ?_;refine aA (aD rfl) rfl ?_;refine aF (aE ?_);refine aG (aC ?_);refine aA (aB rfl) rfl ?_;refine aA (bU rfl Tryz.underlying9 rfl) rfl ?_;refine aA (qW rfl rfl aI aI) rfl ?_;refine aA (aD rfl) rfl ?_;refine aF (aE ?_);refine aG (aC ?_);refine aA (aB rfl) rfl ?_;refine aA (aD rfl) rfl ?_;refine aF (aE ?_);refine aG (aC ?_);refine aA (aD rfl) rfl ?_;refine aF (aE ?_);refine aG (a7 ?_);refine eW (fun (u : Unit) => True) (fun _ => [(0, str cs), (7, str (fY r)), (8, i64 ((fY r).length - 1)), (9, i64 ((fY r).length - 1))]) (fun _ => K) (fun _ => []) (fun _ => 0) () trivial (.cons 0 rfl (.cons 7 rfl (.cons 8 rfl (.cons 9 rfl .nil)))) rfl (fun _ h => h) ?_;intro _ _;refine aG (aG ?_);refine aC ?_;refine aA (aB rfl) rfl ?_;refine aA (aB rfl) rfl ?_;refine aA (bU rfl Tryz.underlying9 rfl) rfl ?_;refine aA (cZ rfl rfl) rfl ?_;refine aF (aE ?_);refine bJ 26 rfl (fun h26 => ?_) (fun h26 => ?_)
     ·
      obtain ⟨c, hc, hlo⟩ := aDE hcs (i := (fY r).length - 1) aI;refine aX ?_;refine aE (a7 ?_);refine wA ?_;refine aG (aG ?_);refine cT (anc := [0, 0, 3, 0, 0, 24, 63]) (ord := [0, 1, 2, 3, 4, 5, 6]) [] [] mixed (by decide +kernel) (dJ _) ?_;refine aK rfl rfl (.none rfl) rfl rfl (aB rfl) rfl ?_;refine aK rfl rfl (.none rfl) rfl rfl (aB rfl) rfl ?_;refine aK rfl rfl (.none rfl) rfl rfl (cY (j := (fY r).length - 1) Tryz.underlying9 rfl rfl aI hc) rfl ?_;refine aK rfl rfl (.none rfl) rfl rfl (aB rfl) rfl ?_;refine aK rfl rfl (.none rfl) rfl rfl (aB rfl) rfl ?_;refine aK rfl rfl (.none rfl) rfl rfl (cY (j := (fY r).length - 1) Tryz.underlying9 rfl rfl aI q3) rfl ?_;refine aK rfl rfl (.none rfl) rfl rfl (eE rfl rfl) rfl ?_;refine cO ?_;refine aE ?_;refine bJ 33 rfl (fun h33 => ?_) (fun h33 => ?_)
      ·
       refine aG ?_;refine cT (anc := [0, 0, 2, 7, 0, 0, 48, 127, 255]) (ord := [0, 1, 2, 3, 4, 5, 6, 7, 8]) [7] [] mixed (by decide +kernel) (dJ _) ?_;refine aK rfl rfl (.none rfl) rfl rfl (aB rfl) rfl ?_;refine aK rfl rfl (.none rfl) rfl rfl (aB rfl) rfl ?_;refine aK rfl rfl (.none rfl) rfl rfl (bY rfl rfl aI aI) rfl ?_;refine aK rfl rfl (.none rfl) rfl rfl (kX (m := (fY r).length) Tryz.underlying9 rfl rfl aI aI) rfl ?_;refine aK rfl rfl (.none rfl) rfl rfl (aB rfl) rfl ?_;refine aK rfl rfl (.none rfl) rfl rfl (aB rfl) rfl ?_;refine aK rfl rfl (.none rfl) rfl rfl (cY (j := (fY r).length - 1) Tryz.underlying9 rfl rfl aI q3) rfl ?_;refine lO rfl (.none rfl) rfl rfl rfl rfl (uC (cs.drop (fY r).length) cl _) rfl ?_;refine aK rfl rfl (.none rfl) rfl rfl (aD rfl) rfl ?_;refine cO ?_;refine aE (aG ?_);refine aG (aC ?_);refine aA (aB rfl) rfl ?_;refine aA (cZ rfl rfl) rfl ?_;refine aF (aE ?_);refine bJ 43 rfl (fun h43 => ?_) (fun h43 => ?_)
       ·
        refine aG (aC ?_);refine aA (aD rfl) rfl ?_;refine aF (aE ?_);refine a8 ?_;refine aR ?_;refine aR ?_;refine jP ?_;refine bC ?_;refine aR ?_;refine bC ?_;refine aR ?_;refine jP ?_;refine bC ?_;refine bF .nil ?_;refine bA rfl rfl (Hl.le_refl _) ?_;exact ⟨_, rfl, rfl, rfl, rfl⟩
       ·
        exact absurd (show Lib.indexByte (cs.drop (fY r).length) cl < 0 by rw [aFJ hcs q4]; omega) h43
      ·
       exact absurd (show ¬ ((c.toNat : Int) = cl.toNat) by omega) h33
     ·
      refine cK ?_;refine aP ?_;refine aP ?_;refine bB ?_;refine aE (aG ?_);refine aG (aC ?_);refine aA (aD rfl) rfl ?_;refine aF (aE ?_);refine a8 ?_;refine aR ?_;refine jP ?_;refine bC ?_;refine bF .nil ?_;refine bA rfl rfl (Hl.le_refl _) ?_;exact ⟨_, rfl, rfl, rfl, rfl⟩
 ·
  exact absurd (show (0 : Int) ≤ r by omega) g163
theorem rS (cs : List UInt8) (hcs : ∀ c ∈ cs, c.toNat < 128) (hl : 2 ≤ cs.length) (s : List UInt8) (h8 : s.length ≤ 8) (K : Hl) : Sp Tryz.prog 221 [str s, str cs] K [] (Ret fun v K' L' => ∃ n : Int, v = i64 n ∧ (0 ≤ n ↔ (s.any fun c => cs.contains c) = true) ∧ K' = K ∧ L' = []) := by
 have husc : ∀ (n : Int) (K : Hl), Sp Tryz.prog 290 [i64 n] K [] (Val (.bool (decide (8 < n))) K) := fun n K => jC ⟨_, Tryz.func290, rfl, rfl⟩ fun w hw => Tryz.strings_shouldUseASCIISet n w
 refine bE Tryz.func221 rfl Tryz.ntmps221 rfl rfl fun F w => ?_
 refine aG (aC ?_);refine aA (aD rfl) rfl ?_;refine aF (aE ?_);refine aG (aG ?_);refine aC ?_;refine aA (aB rfl) rfl ?_;refine aA (tV rfl rfl) rfl ?_;refine aF (aE ?_);refine bJ 12 rfl (fun h12 => ?_) (fun h12 => ?_)
 ·
  exact absurd h12 (by rintro rfl; simp at hl)
 ·
  refine aX ?_;refine aE (aG ?_);refine aG (aC ?_);refine aA (aB rfl) rfl ?_;refine aA (bU rfl Tryz.underlying9 rfl) rfl ?_;refine aA (bW rfl rfl) rfl ?_;refine aF (aE ?_);refine bJ 15 rfl (fun h15 => ?_) (fun h15 => ?_)
  ·
   exact absurd h15 aI
  ·
   refine aX ?_;refine aE (aG ?_);refine aG (aC ?_);refine aA (aB rfl) rfl ?_;refine aA (bU rfl Tryz.underlying9 rfl) rfl ?_;refine bN rfl rfl (husc _ _) rfl ?_;refine aF (aE ?_);refine bJ 26 rfl (fun h26 => ?_) (fun h26 => ?_)
   ·
    exact absurd h26 aI
   ·
    refine aX ?_;refine aE (aG ?_);refine aG (aC ?_);refine aA (aB rfl) rfl ?_;refine ol_s (oY Tryz.underlying9 rfl) rfl ?_;rintro _ K _ ⟨b45, rfl, rfl, rfl⟩ -;refine aF (aE ?_);refine a7 ?_;refine eW (fun (i : Nat) => i ≤ s.length ∧ ∀ j d, j < i → s[j]? = some d → cs.contains d = false) (fun i => [(0, str s), (1, str cs), (45, ptr b45)]) (fun _ => K) (fun i => [itr b45 s i]) (fun i => s.length - i) 0 ⟨Nat.zero_le _, fun j d h _ => by omega⟩ (.cons 0 rfl (.cons 1 rfl (.cons 45 rfl .nil))) rfl (fun _ h => h) ?_;intro i ⟨hi0, hno⟩;rcases Nat.lt_or_ge i s.length with hi | hi
    ·
     obtain ⟨c, hc⟩ : ∃ c, s[i]? = some c := ⟨s[i]'hi, List.getElem?_eq_getElem hi⟩;rcases Nat.lt_or_ge c.toNat 128 with hlo | hhi
     ·
      refine aG (aC ?_);refine ol_s (s7 (L' := fun n => [itr b45 s (i + n)]) hc hlo rfl (fun _ => .here)) rfl ?_;rintro _ K _ ⟨rfl, rfl, rfl⟩ -;refine aA (aQ rfl rfl) rfl ?_;refine aF (aE ?_);refine aG ?_;refine dH rfl ?_;refine aX ?_;refine aE (a7 ?_);refine aG (aC ?_);refine aA (aQ rfl rfl) rfl ?_;refine aA (aQ rfl rfl) rfl ?_;refine aA (aD rfl) rfl ?_;refine aA (aD rfl) rfl ?_;refine aF (aE ?_);refine aG (aC ?_);refine aA (aB rfl) rfl ?_;refine aA (aB rfl) rfl ?_;refine bN rfl rfl (s6 cs c hlo _) rfl ?_;refine aA (gG rfl rfl) rfl ?_;refine aF (aE ?_);refine bJ 53 rfl (fun h53 => ?_) (fun h53 => ?_)
      ·
       have hbl : cs.contains c = true := (by rw [Lib.contains_iff_indexByte]; exact decide_eq_true h53);refine aG (aC ?_);refine aA (aB rfl) rfl ?_;refine aA (aD rfl) rfl ?_;refine aF (aE ?_);refine a8 ?_;refine bC ?_;refine aR ?_;refine bC ?_;refine aR ?_;refine bF .nil ?_;refine bA rfl rfl (Hl.le_refl _) ?_
       first
        | exact ⟨_, rfl, -1, rfl, ⟨fun h => by omega, fun h => by rw [hall] at h; cases h⟩, rfl, rfl⟩
        | exact ⟨_, rfl, i, rfl, ⟨fun _ => List.any_eq_true.2 ⟨c, List.mem_of_getElem? hc, hbl⟩, fun _ => by omega⟩, rfl, rfl⟩
      ·
       have hbl : cs.contains c = false := (by rw [Lib.contains_iff_indexByte]; exact decide_eq_false h53);refine aX ?_;refine aU ?_
       first
        | (exact dW (i + 1) ⟨by omega, fun j d hj hd => by rcases Nat.lt_or_ge j i with h | h; exact hno j d h hd; (obtain rfl : j = i := by omega); rw [hc] at hd; cases hd; exact hbl⟩ aI (.cons 0 rfl (.cons 1 rfl (.cons 45 rfl .nil))) rfl (fun _ h => h))
        | (exact dW (i + n) ⟨h4, fun j d hj hd => by rcases Nat.lt_or_ge j i with h | h; exact hno j d h hd; (have := h5 j d h hj hd); cases hbd : cs.contains d with | false => rfl | true => exact absurd (hcs _ (List.contains_iff_mem.1 hbd)) aI⟩ aI (.cons 0 rfl (.cons 1 rfl (.cons 45 rfl .nil))) rfl (fun _ h => h))
     ·
      refine aG (aC ?_);refine ol_s (aAR (L' := fun n => [itr b45 s (i + n)]) hc hhi rfl (fun _ => .here)) rfl ?_;rintro _ K _ ⟨r, n, rfl, rfl, rfl, h1, h2, h3, h4, h5⟩ -;refine aA (aQ rfl rfl) rfl ?_;refine aF (aE ?_);refine aG ?_;refine dH rfl ?_;refine aX ?_;refine aE (a7 ?_);refine aG (aC ?_);refine aA (aQ rfl rfl) rfl ?_;refine aA (aQ rfl rfl) rfl ?_;refine aA (aD rfl) rfl ?_;refine aA (aD rfl) rfl ?_;refine aF (aE ?_);refine aG (aC ?_);refine aA (aB rfl) rfl ?_;refine aA (aB rfl) rfl ?_;refine bH rfl rfl (s5 cs hcs hl r aI _) .nil rfl ?_;rintro _ K _ ⟨rfl, rfl, rfl⟩ -;refine aA (gG rfl rfl) rfl ?_;refine aF (aE ?_);refine bJ 53 rfl (fun h53 => ?_) (fun h53 => ?_)
      ·
       exact absurd h53 aI
      ·
       refine aX ?_;refine aU ?_
       first
        | (exact dW (i + 1) ⟨by omega, fun j d hj hd => by rcases Nat.lt_or_ge j i with h | h; exact hno j d h hd; (obtain rfl : j = i := by omega); rw [hc] at hd; cases hd; exact hbl⟩ aI (.cons 0 rfl (.cons 1 rfl (.cons 45 rfl .nil))) rfl (fun _ h => h))
        | (exact dW (i + n) ⟨h4, fun j d hj hd => by rcases Nat.lt_or_ge j i with h | h; exact hno j d h hd; (have := h5 j d h hj hd); cases hbd : cs.contains d with | false => rfl | true => exact absurd (hcs _ (List.contains_iff_mem.1 hbd)) aI⟩ aI (.cons 0 rfl (.cons 1 rfl (.cons 45 rfl .nil))) rfl (fun _ h => h))
    ·
     have hn : ¬ i < s.length := aI;have hall : (s.any fun c => cs.contains c) = false := (by rw [List.any_eq_false]; intro x hx; obtain ⟨j, hj⟩ := List.getElem?_of_mem hx; have := hno j x (by have := dX hj; omega) hj; simpa using this);refine aG (aC ?_);refine ol_s (p7 hn rfl .here) rfl ?_;rintro _ K _ ⟨rfl, rfl, rfl⟩ -;refine aA (aQ rfl rfl) rfl ?_;refine aF (aE ?_);refine aG ?_;refine bL rfl ?_;refine cK ?_;refine aP ?_;refine aP ?_;refine bB ?_;refine aE (aG ?_);refine aC ?_;refine aA (aD rfl) rfl ?_;refine aF (aE ?_);refine a8 ?_;refine bF .nil ?_;refine bA rfl rfl (Hl.le_refl _) ?_
     first
      | exact ⟨_, rfl, -1, rfl, ⟨fun h => by omega, fun h => by rw [hall] at h; cases h⟩, rfl, rfl⟩
      | exact ⟨_, rfl, i, rfl, ⟨fun _ => List.any_eq_true.2 ⟨c, List.mem_of_getElem? hc, hbl⟩, fun _ => by omega⟩, rfl, rfl⟩
theorem qK (cs : List UInt8) (hcs : ∀ c ∈ cs, c.toNat < 128) (hl : 2 ≤ cs.length) (s : List UInt8) (h8 : s.length ≤ 8) (K : Hl) : Sp Tryz.prog 127 [str s, str cs] K [] (Val (.bool (s.any fun c => cs.contains c)) K) := by
 refine bE Tryz.func127 rfl Tryz.ntmps127 rfl rfl fun F w => ?_
 refine aG (aC ?_);refine aA (aD rfl) rfl ?_;refine aF (aE ?_);refine aG (aC ?_);refine aA (aB rfl) rfl ?_;refine aA (aB rfl) rfl ?_;refine bH rfl rfl (rS cs hcs hl s h8 _) .nil rfl ?_;rintro _ K _ ⟨n, rfl, hn, rfl, rfl⟩ -;refine aA (gG rfl rfl) rfl ?_;refine aA (aD rfl) rfl ?_;refine aF (aE ?_);refine a8 ?_;refine bF .nil ?_;refine bA rfl rfl (Hl.le_refl _) ?_;refine retB ?_ _
 rw [Bool.eq_iff_iff, ← hn];simp
end Go.Proofs
end
section
namespace Go.Mach
open Go.Syn
def ad (s : aJ) : Bool := (Lib.cut s [64]).2.2 && (decide ((Lib.cut s [64]).1 ≠ []) && (decide ((Lib.cut s [64]).2.1 ≠ []) && (!(s.any vP) && (!(decide (0 ≤ Lib.index (Lib.cut s [64]).2.1 [64])) && decide (s.length ≤ 32)))))
end Go.Mach
end
section
namespace Go.Proofs
open Go Go.SL Go.Syn Go.Mach
def ws : List UInt8 := [32, 9, 13, 10]
end Go.Proofs
end
section
namespace Go.Proofs
open Go Go.SL Go.Syn Go.Mach
structure MsgOk (m : Msg) : Prop where
 hn : m.hs.length ≤ 1000000
 hs : ∀ h ∈ m.hs, h.1.length ≤ 100000 ∧ h.2.length ≤ 100000
 from_ : m.from_.length ≤ 100000
 to_ : m.to_.length ≤ 100000
structure InsOk (o : Ins) : Prop where
 an : o.a.length ≤ 1000000
 bn : o.b.length ≤ 1000000
 a : ∀ x ∈ o.a, x.length ≤ 100000
 b : ∀ x ∈ o.b, x.length ≤ 100000
structure MInv (s : MS) : Prop where
 stack : s.stack.length ≤ 8
 acts : s.acts.length ≤ 6
 vars : ∀ name, (vget s.vars name).length ≤ 100000
 parts : ∀ x ∈ s.parts, x.length ≤ 100000
theorem MInv.small {s : MS} (h : MInv s) : aDS s.vars s.parts := by
 intro name;unfold held;split
 ·split
  ·rename_i c _;simp only [];cases hp : s.parts[c.toNat - 48]? with
   | none => simp
   | some x => exact h.parts x (List.mem_of_getElem? hp)
  ·exact h.vars _
 ·exact h.vars _
theorem MInv.start : MInv Mach.start := ⟨by simp [Mach.start], by simp [Mach.start], fun _ => by simp [Mach.start, vget], by simp [Mach.start]⟩
theorem qF (k v name : aJ) : ∀ vars : List (aJ × aJ), vget (vput vars k v) name = if k = name then v else vget vars name
 | [] => by unfold vput vget; rfl
 | (j, u) :: r => by
  unfold vput
  by_cases h : j = k
  ·rw [if_pos h]; subst h
   unfold vget;split <;> rfl
  ·rw [if_neg h];unfold vget;rw [qF k v name r]
   by_cases h2 : j = name
   ·rw [if_pos h2, if_pos h2, if_neg (fun e => h (by rw [h2, e]))]
   ·rw [if_neg h2, if_neg h2]
theorem MInv.push {s t : MS} {b : Bool} (h : MInv s) (hp : Mach.push s b = .ok t) : MInv t := by
 unfold Mach.push at hp;split at hp
 ·cases hp; exact ⟨by simp; omega, h.acts, h.vars, h.parts⟩
 ·cases hp
theorem MInv.pop {s : MS} {r : Bool × MS} (h : MInv s) (hp : Mach.pop s = .ok r) : MInv r.2 := by
 unfold Mach.pop at hp;split at hp
 ·cases hp; exact ⟨by have := h.stack; simp; omega, h.acts, h.vars, h.parts⟩
 ·cases hp
theorem MInv.jump {s t : MS} {by_ : Int} {n : Nat} {yes : Bool} (h : MInv s) (hp : Mach.jump s by_ n yes = .ok t) : MInv t := by
 unfold Mach.jump at hp;split at hp
 ·cases hp; split
  ·exact ⟨h.stack, h.acts, h.vars, h.parts⟩
  ·exact h
 ·cases hp
theorem sG (w v k : aJ) : ∀ f i j ps, lR w v k f i j = some ps → ∀ x ∈ ps, x.length ≤ w.length := by
 have one : ∀ e i, ((w.take e).drop i).length ≤ w.length := by intro e i; simp; omega
 intro f;induction f with
 | zero => intro i j ps h; cases h
 | succ f ih =>
  intro i j ps h;have cons : ∀ e i' j' q, lR w v k f i' j' = q → q.map (fun ps => ((w.take e).drop i) :: ps) = some ps → ∀ x ∈ ps, x.length ≤ w.length := by
   intro e i' j' q hq hm;cases q with
   | none => cases hm
   | some r =>
    cases hm
    intro x hx;rcases List.mem_cons.1 hx with rfl | hx
    ·exact one _ _
    ·exact ih _ _ _ hq x hx
  unfold lR at h;split at h
  ·split at h
   ·cases h; intro x hx; cases hx
   ·cases h
  ·split at h
   ·have key : ∀ n e, qX (fun e => (lR w v k f e (j + 1)).map fun ps => ((w.take e).drop i) :: ps) n e = some ps → ∀ x ∈ ps, x.length ≤ w.length := by
     intro n;induction n with
     | zero => intro e h; cases h
     | succ n ihn =>
      intro e h;unfold qX at h;split at h
      ·rename_i x hx;cases h
       exact cons _ _ _ _ rfl hx
      ·exact ihn _ h
    exact key _ _ h
   ·split at h
    ·cases h
    ·split at h
     ·exact cons _ _ _ _ rfl h
     ·split at h
      ·split at h
       ·exact ih _ _ _ h
       ·cases h
      ·split at h
       ·exact ih _ _ _ h
       ·cases h
theorem jU {α β : Type} {f : α → Option β} {y : β} : ∀ {l : List α}, oG f l = some y → ∃ x ∈ l, f x = some y
 | [], h => by cases h
 | x :: l, h => by
  unfold oG at h;split at h
  ·rename_i z hz; cases h; exact ⟨x, by simp, hz⟩
  ·obtain ⟨w, hw, hf⟩ := jU h; exact ⟨w, by simp [hw], hf⟩
theorem pK {o : Ins} {x y : aJ} {ps : List aJ} (h : nQ o x y = some ps) : ∀ z ∈ ps, z.length ≤ x.length := by
 unfold nQ at h;split at h
 ·split at h
  ·cases h; intro z hz; cases hz
  ·cases h
 ·split at h
  ·split at h
   ·cases h; intro z hz; cases hz
   ·cases h
  ·exact sG _ _ _ _ _ _ _ h
theorem oL {o : Ins} {vs ks ps : List aJ} {n : Nat} (hv : ∀ x ∈ vs, x.length ≤ n) (h : sO o vs ks = some ps) : ∀ z ∈ ps, z.length ≤ n := by
 obtain ⟨v, hv1, h1⟩ := jU h;obtain ⟨k, hk1, h2⟩ := jU h1;cases hq : nQ o v k with
 | none => rw [hq] at h2; cases h2
 | some q =>
  rw [hq] at h2; cases h2
  intro z hz;rcases List.mem_cons.1 hz with rfl | hz
  ·exact hv _ hv1
  ·exact Nat.le_trans (pK hq z hz) (hv _ hv1)
theorem yN {nm : Bool} {vars : List (aJ × aJ)} {parts : List aJ} {m : Msg} {o : Ins} (hm : MsgOk m) (ho : InsOk o) : ∀ x ∈ uW (k6 nm vars parts) m o, x.length ≤ 100000 := by
 intro x hx;unfold uW at hx;split at hx
 ·obtain ⟨y, hy, rfl⟩ := List.mem_map.1 hx; exact tY (ho.a y hy)
 ·split at hx
  ·obtain ⟨y, _, hy⟩ := List.mem_flatMap.1 hx;unfold tZ at hy;obtain ⟨h, hh, rfl⟩ := List.mem_map.1 hy;exact (hm.hs h (List.mem_filter.1 hh).1).2
  ·split at hx
   ·obtain ⟨y, _, hy⟩ := List.mem_flatMap.1 hx;unfold aDB at hy;split at hy
    ·rw [List.mem_singleton] at hy; subst hy; exact hm.from_
    ·split at hy
     ·rw [List.mem_singleton] at hy; subst hy; exact hm.to_
     ·cases hy
   ·cases hx
theorem MInv.matchI {nm : Bool} {m : Msg} {o : Ins} {s t : MS} (h : MInv s) (hm : MsgOk m) (ho : InsOk o) (hp : Mach.matchI nm m o s = .ok t) : MInv t := by
 unfold Mach.matchI at hp;split at hp
 ·simp only [] at hp;split at hp
  ·rename_i ps hps;refine MInv.push ?_ hp
   split
   ·exact ⟨h.stack, h.acts, h.vars, oL (yN hm ho) hps⟩
   ·exact h
  ·exact h.push hp
 ·cases hp
theorem MInv.setI {nm : Bool} {o : Ins} {s t : MS} (h : MInv s) (hp : Mach.setI nm o s = .ok t) : MInv t := by
 unfold Mach.setI at hp;split at hp
 ·split at hp
  ·cases hp
   refine ⟨h.stack, h.acts, fun name => ?_, h.parts⟩
   simp only [qF];split
   ·simp; omega
   ·exact h.vars name
  ·cases hp
 ·cases hp
theorem MInv.actI {nm : Bool} {o : Ins} {s t : MS} (h : MInv s) (hp : Mach.actI nm o s = .ok t) : MInv t := by
 unfold Mach.actI at hp;split at hp
 ·simp only [] at hp;split at hp
  ·cases hp
  split at hp
  ·cases hp
  split at hp
  ·cases hp; exact ⟨h.stack, h.acts, h.vars, h.parts⟩
  split at hp
  ·cases hp
  split at hp
  ·cases hp
  ·cases hp; exact ⟨h.stack, by have := h.acts; simp; omega, h.vars, h.parts⟩
 ·cases hp
theorem MInv.step {nm : Bool} {m : Msg} {n : Nat} {o : Ins} {s t : MS} (hi : MInv s) (hm : MsgOk m) (ho : InsOk o) (h : Mach.step nm m n o s = .ok t) : MInv t := by
 unfold Mach.step at h
 by_cases h0 : o.op = 1
 ·rw [if_pos h0] at h;split at h
  ·exact hi.push h
  ·cases h
 rw [if_neg h0] at h
 by_cases h1 : o.op = 2
 ·rw [if_pos h1] at h;split at h
  ·cases h
  ·rename_i r hr; exact (hi.pop hr).push h
 rw [if_neg h1] at h
 by_cases h2 : o.op = 3
 ·rw [if_pos h2] at h; exact hi.jump h
 rw [if_neg h2] at h
 by_cases h3 : o.op = 4
 ·rw [if_pos h3] at h;split at h
  ·cases h
  ·rename_i r hr; exact (hi.pop hr).jump h
 rw [if_neg h3] at h
 by_cases h4 : o.op = 5
 ·rw [if_pos h4] at h;split at h
  ·cases h
  ·rename_i r hr; exact (hi.pop hr).jump h
 rw [if_neg h4] at h
 by_cases h5 : o.op = 6 ∨ o.op = 7 ∨ o.op = 8
 ·rw [if_pos h5] at h; exact hi.matchI hm ho h
 rw [if_neg h5] at h
 by_cases h6 : o.op = 9
 ·rw [if_pos h6] at h; exact hi.push h
 rw [if_neg h6] at h
 by_cases h7 : o.op = 10
 ·rw [if_pos h7] at h;split at h
  ·exact hi.push h
  ·cases h
 rw [if_neg h7] at h
 by_cases h8 : o.op = 11
 ·rw [if_pos h8] at h; exact hi.actI h
 rw [if_neg h8] at h
 by_cases h9 : o.op = 12
 ·rw [if_pos h9] at h; exact hi.setI h
 rw [if_neg h9] at h
 by_cases h10 : o.op = 13
 ·rw [if_pos h10] at h; cases h; exact ⟨hi.stack, hi.acts, hi.vars, hi.parts⟩
 rw [if_neg h10] at h;cases h
end Go.Proofs
end
section
namespace Go.Proofs
open Go Go.SL Go.Syn Go.Mach Go.Cmp
structure RI where
 st : Nat
 s : MS
 pv : Value
 K : Hl
end Go.Proofs
end
section
namespace Go.Cmp
open Go.Syn Go.Mach
def IFit (n : Nat) (o : Ins) : Prop := (∀ x ∈ o.a, x.length ≤ n) ∧ (∀ x ∈ o.b, x.length ≤ n) ∧ o.a.length ≤ 2 * n + 1 ∧ o.b.length ≤ 2 * n + 1
def AFit (n : Nat) (ops : List Ins) : Prop := ∀ o ∈ ops, IFit n o
theorem AFit.setN {n : Nat} {k : Nat} {m : Int} : ∀ {ops : List Ins}, AFit n ops → AFit n (setN ops k m) := by
 intro ops h o ho;unfold Cmp.setN at ho;obtain ⟨i, hi⟩ := List.getElem?_of_mem ho;rw [List.getElem?_modify] at hi;cases hx : ops[i]? with
 | none => rw [hx] at hi; cases hi
 | some x =>
  rw [hx] at hi;have hxo := h x (List.mem_of_getElem? hx);simp only [Option.map_eq_map, Option.map_some, Option.some.injEq] at hi
  by_cases hki : k = i
  ·rw [if_pos hki] at hi; subst hi; exact hxo
  ·rw [if_neg hki] at hi; subst hi; exact hxo
theorem AFit.fold {n : Nat} {m : Int} : ∀ (ps : List Nat) {ops : List Ins}, AFit n ops → AFit n (ps.foldl (fun o k => Cmp.setN o k (m - 1 - k)) ops)
 | [], _, h => h
 | p :: ps, _, h => AFit.fold ps h.setN
theorem AFit.land {n : Nat} {ops : List Ins} {ps : List Nat} (h : AFit n ops) : AFit n (land ops ps) := AFit.fold ps h
theorem AFit.app {n : Nat} {a b : List Ins} (h : AFit n a) (k : AFit n b) : AFit n (a ++ b) := fun o ho => (List.mem_append.1 ho).elim (h o) (k o)
theorem AFit.jmp {n : Nat} {ops : List Ins} {op : Int} (h : AFit n ops) : AFit n (ops ++ [Cmp.jmp op]) := h.app fun o ho => by
 rw [List.mem_singleton] at ho; subst ho; exact ⟨by simp [Cmp.jmp], by simp [Cmp.jmp], by simp [Cmp.jmp], by simp [Cmp.jmp]⟩
end Go.Cmp
end
section
namespace Go.SL
section
variable {E : Env} {fr : Fr} {K : Hl} {L L' : List Asn} {Q : Post} {ops : Array Oper} {rest : List Oper} {dst : Option Tmp} {ty : TypeId} {pos : String} {aft : Array Edge} {g : Option (Nat × Bool)} {x y : Operand} {v u : Value} {t : TypeId}
theorem oJ {P : Program} {name : String} {os : List Operand} {vs : List Value} {ats : Array TypeId} {f : FuncId} {r : Value} {n : Nat} {ds : List Deferred} (hx : fr.ev x = some (.iface t u)) (hos : fr.evs os = some vs)
  (hm : ∀ w, (method (P.types.size + Made.depth) t u name).run P w = .ok (f, r) w) {a : Act} (fo : FrOk n ds fr a) (w : World) :
  (execOp a.eval ⟨dst, .call ⟨.invoke x name, os.toArray, ats⟩, ty, pos, aft, g⟩).run P w = (callFunc f (r :: vs).toArray).run P w := by
 have e1 : Array.map a.eval os.toArray = vs.toArray := by simp [fo.evs hos]
 have e2 : #[Value.iface t u] ++ vs.toArray = (Value.iface t u :: vs).toArray := by simp
 simp only [execOp, resolve, e1, fo.ev hx, bind, pure, Sem.bind, invoke, e2];have e3 : (Value.iface t u :: vs).toArray[0]? = some (.iface t u) := by simp
 have e4 : (Value.iface t u :: vs).toArray.extract 1 (Value.iface t u :: vs).toArray.size = vs.toArray := by simp
 simp only [e3, e4]
 show (callMethod (.iface t u) name vs.toArray).run P w = _
 unfold callMethod;simp only [];have hp : (program).run P w = .ok P w := rfl;rw [aL hp, aL (hm w)];simp
theorem dS {name : String} {os : List Operand} {vs : List Value} {ats : Array TypeId} {f : FuncId} {r : Value} {fn : Func} {ex : Array Value → Sem Value} (hx : fr.ev x = some (.iface t u)) (hos : fr.evs os = some vs)
  (hm : ∀ w, (method (E.P.types.size + Made.depth) t u name).run E.P w = .ok (f, r) w)
  (h1 : E.P.funcs[f]? = some fn) (h2 : (fn.name == "runtime.NumGoroutine") = false) (h3 : fn.body.isNone = true) (h4 : Extern.findNext fn = none) (h5 : Extern.find fn = some ex) (hr : ∀ w, In E.w0 E.F K L w → (ex (r :: vs).toArray).run E.P w = .ok v w) :
  Ev E fr K L ⟨dst, .call ⟨.invoke x name, os.toArray, ats⟩, ty, pos, aft, g⟩ v := fun a w fo j => by
 rw [oJ hx hos hm fo w, run_callFunc_extern h1 h2 h3 h4 h5, hr w j]
 rfl
theorem vU {fv : Operand} {os : List Operand} {vs : List Value} {ats : Array TypeId} {f : FuncId} {fn : Func} {ex : Array Value → Sem Value} {N : Value → Hl → List Asn → Prop} (hf : fr.ev fv = some (.func (.func f) #[] #[])) (hos : fr.evs os = some vs)
  (h1 : E.P.funcs[f]? = some fn) (h2 : (fn.name == "runtime.NumGoroutine") = false) (h3 : fn.body.isNone = true) (h4 : Extern.findNext fn = none) (h5 : Extern.find fn = some ex)
  (hr : ∀ w, In E.w0 E.F K L w → ∃ v w' K' L', (ex vs.toArray).run E.P w = .ok v w' ∧ N v K' L' ∧ K.le K' ∧ In E.w0 E.F K' L' w') :
  EfS E fr K L ⟨dst, .call ⟨.value fv, os.toArray, ats⟩, ty, pos, aft, g⟩ N := fun a w fo j => by
 obtain ⟨v, w', K', L', h, hN, le, j'⟩ := hr w j;refine ⟨v, w', K', L', .inl ?_, hN, le, j'⟩
 have e1 : Array.map a.eval os.toArray = vs.toArray := by simp [fo.evs hos]
 simp only [execOp, resolve, e1, fo.ev hf, Deferred.ofValue, bind, pure, Sem.bind, invoke, List.append_toArray];simp only [List.nil_append, List.append_nil];rw [run_callFunc_extern h1 h2 h3 h4 h5, h]
 rfl
theorem r7 {o : Oper} {f : FuncId} {vs : List Value} {L1 L2 : List Asn} {R : Ending → Hl → List Asn → Prop} {N : Value → Hl → List Asn → Prop}
  (hrun : ∀ a w, FrOk E.n E.ds fr a → (execOp a.eval o).run E.P w = .ok (.enter f vs.toArray) w) (hL : Tks L1 L L2) (hs : Sp E.P f vs K L1 R)
  (hret : ∀ v K' L', R (.returned v) K' L' → N v K' (L' ++ L2)) (hpan : ∀ ch K' L', R (.panicked ch) K' L' → K.le K' → D E (.panic ch) fr K' (L' ++ L2) Q) (hout : ∀ K' L', R .outgrown K' L' → LetsOut Q) :
  Ef E fr K L o Q N := by
 intro a w k fo i hk;obtain ⟨F', i1, back⟩ := (i.imp hL.sat).hide;refine .inl ?_;unfold Oper.wp;rw [hrun a w fo];refine (hs.2 F' w i1).mono fun e w' ⟨K', L', r, le, j⟩ => ?_
 cases e with
 | returned v => exact hk _ _ _ _ (hret _ _ _ r) le (back j)
 | panicked ch => exact hpan _ _ _ r le _ _ fo (back j)
 | outgrown => exact hout _ _ r
theorem q5 {P : Program} {name : String} {os : List Operand} {vs : List Value} {ats : Array TypeId} {f : FuncId} {r : Value} {n : Nat} {ds : List Deferred} (hx : fr.ev x = some (.iface t u)) (hos : fr.evs os = some vs)
  (hm : ∀ w, (method (P.types.size + Made.depth) t u name).run P w = .ok (f, r) w) (hb : ∃ fn, P.funcs[f]? = some fn ∧ (fn.name == "runtime.NumGoroutine") = false ∧ fn.body.isSome = true) (a : Act) (w : World) (fo : FrOk n ds fr a) :
  (execOp a.eval ⟨dst, .call ⟨.invoke x name, os.toArray, ats⟩, ty, pos, aft, g⟩).run P w = .ok (.enter f (r :: vs).toArray) w := by
 obtain ⟨fn, h1, h2, h3⟩ := hb;rw [oJ hx hos hm fo w];exact qR h1 h2 h3 w
theorem gM {d : Nat} {name : String} {os : List Operand} {vs : List Value} {ats : Array TypeId} {f : FuncId} {r : Value} {L1 L2 : List Asn} {N : Value → Hl → List Asn → Prop} (hx : fr.ev x = some (.iface t u)) (hos : fr.evs os = some vs)
  (hm : ∀ w, (method (E.P.types.size + Made.depth) t u name).run E.P w = .ok (f, r) w) (hs : Sp E.P f (r :: vs) K L1 (Ret N)) (hL : Tks L1 L L2) (hd : Nat.blt d E.n = true)
  (h : ∀ v K' L', N v K' L' → K.le K' → OL E ops rest ((d, v) :: fr) K' (L' ++ L2) Q) : OL E ops (⟨some d, .call ⟨.invoke x name, os.toArray, ats⟩, ty, pos, aft, none⟩ :: rest) fr K L Q :=
 sS (r7 (N := fun v K' L'' => ∃ L', L'' = L' ++ L2 ∧ N v K' L') (q5 hx hos hm hs.1) hL hs (fun v K' L' ⟨u, e, n⟩ => by cases e; exact ⟨L', rfl, n⟩) (fun ch K' L' ⟨u, e, n⟩ => by cases e) (fun K' L' ⟨u, e, n⟩ => by cases e)) hd
  (fun v K' L'' ⟨L', e, n⟩ le => by subst e; exact h v K' L' n le)
theorem zN {xt at_ : TypeId} {ok : Bool} (hx : fr.ev x = some u) (h : ∀ w, (Instr.typeAssert u xt at_ ok).run E.P w = .ok v w) : Ev E fr K L ⟨dst, .typeAssert x xt at_ ok, ty, pos, aft, g⟩ v := fun a w f j => by
 simp only [execOp, f.ev hx];exact cP (h w)
theorem qS {op : BinOp} {t' : TypeId} {v1 v2 : Value} (hx : fr.ev x = some v1) (hy : fr.ev y = some v2) (h0 : ∀ w, (eqGuard op t x y v1 v2).run E.P w = .ok () w) (h : ∀ w, (binOp op t v1 v2).run E.P w = .ok v w) :
  Ev E fr K L ⟨dst, .binOp op t x y t', ty, pos, aft, g⟩ v := dC hx hy h0 h
end
end Go.SL
end
section
namespace Go.Proofs
open Go Go.SL Go.Extern
abbrev hd (t : Nat) : Value := .pointer (some ⟨7, t, none⟩)
theorem rlm (z : Sem Value) (f : TypeId → Addr → Nat → Nat → Sem Value) (v : Value) :
  ReflectliteValue.method z f #[v] = (do match ← ReflectliteValue.parts v with | none => z | some (t, a, fl) => f t a fl (fl % 32)) := rfl
theorem rls (v x : Value) : ReflectliteValue.set #[v, x] = (do
  let (some (dst, a, fl), some (src, b, _)) := (← ReflectliteValue.parts v, ← ReflectliteValue.parts x)
   | unsupported (.noEntry "extern/(internal/reflectlite.Value).Set.zeroValue")
  if fl / ReflectliteValue.flagAddr % 2 == 0 then unsupported (.noEntry "extern/(internal/reflectlite.Value).Set.unaddressable")
  let val ← loadVar src b
  if ← Rtype.directlyAssignable dst src then storeVar dst a val
  else if ← Rtype.implements dst src then
   if (← Rtype.kind src) == 20 then
    match val with
    | .nilIface => unsupported (.noEntry "extern/reflectlite: a nil value of one interface type handed on as a value of another")
    | _ => storeVar dst a val
   else storeVar dst a (.iface src val)
  else panicString ("reflectlite.Set: value of type " ++ (← Rtype.spelt src) ++ " is not assignable to type " ++ (← Rtype.spelt dst))
  pure (.tuple #[])) := rfl
theorem uU (t : Nat) (w : World) : (ReflectliteValue.unpack (.iface 120 (ptr t))).run Tryz.prog w = .ok (.agg #[hd 120, ptr w.heap.size, .int .u64 150]) (w.alloc (.cells #[ptr t] 120)) := by kernel_rfl
theorem aC2 (a : Addr) (w : World) : (ReflectliteValue.methodAny (ReflectliteValue.valueError "reflectlite.Value.Type" 0) (fun t _ _ _ => ReflectliteType.toType t) #[.agg #[hd 120, .pointer (some a), .int .u64 150]]).run Tryz.prog w = .ok (.iface 265 (.agg #[hd 120])) w := by kernel_rfl
theorem aCF (w : World) : ((ReflectliteType.abiMethod fun t => (fun a : Nat => Value.int IntKind.u8 (a : Int)) <$> Rtype.kind t) #[hd 120]).run Tryz.prog w = .ok (.int .u8 22) w := by kernel_rfl
theorem aCE (w : World) : ((ReflectliteType.abiMethod fun t => (fun a : Nat => Value.int IntKind.u8 (a : Int)) <$> Rtype.kind t) #[hd 118]).run Tryz.prog w = .ok (.int .u8 22) w := by kernel_rfl
theorem aAK (a : Addr) (w : World) : (ReflectliteValue.parts (.agg #[hd 120, .pointer (some a), .int .u64 150])).run Tryz.prog w = .ok (some (120, a, 150)) w := by kernel_rfl
theorem zV (a p : Addr) (W : World) (ha : W.cell? a = some (.pointer (some p))) :
  (ReflectliteValue.method (ReflectliteValue.valueError "reflectlite.Value.IsNil" 0) ReflectliteValue.isNil #[.agg #[hd 120, .pointer (some a), .int .u64 150]]).run Tryz.prog W = .ok (.bool false) W := by
 rw [rlm];simp only [Sem.run_bind, aAK, Result.andThen];simp [ReflectliteValue.isNil, loadVar, isAgg, underlying, Tryz.underlying120, ha, Result.andThen]
theorem aBT (w : World) : (ReflectliteType.method ReflectliteType.elem #[.agg #[hd 120]]).run Tryz.prog w = .ok (.iface 265 (.agg #[hd 118])) w := by kernel_rfl
theorem pJ (w : World) : (ReflectliteType.relation "Implements" ReflectliteType.implements_ #[.agg #[hd 118], .iface 265 (.agg #[hd 79])]).run Tryz.prog w = .ok (.bool true) w := by kernel_rfl
theorem uV (t : Nat) (w : World) : (ReflectliteValue.unpack (.iface 124 (ptr t))).run Tryz.prog w = .ok (.agg #[hd 124, ptr w.heap.size, .int .u64 150]) (w.alloc (.cells #[ptr t] 124)) := by kernel_rfl
theorem aC3 (a : Addr) (w : World) : (ReflectliteValue.methodAny (ReflectliteValue.valueError "reflectlite.Value.Type" 0) (fun t _ _ _ => ReflectliteType.toType t) #[.agg #[hd 124, .pointer (some a), .int .u64 150]]).run Tryz.prog w = .ok (.iface 265 (.agg #[hd 124])) w := by kernel_rfl
theorem aCG (w : World) : ((ReflectliteType.abiMethod fun t => (fun a : Nat => Value.int IntKind.u8 (a : Int)) <$> Rtype.kind t) #[hd 124]).run Tryz.prog w = .ok (.int .u8 22) w := by kernel_rfl
theorem aEF (w : World) : ((ReflectliteType.abiMethod fun t => (fun a : Nat => Value.int IntKind.u8 (a : Int)) <$> Rtype.kind t) #[hd 30]).run Tryz.prog w = .ok (.int .u8 2) w := by kernel_rfl
theorem sW (a : Addr) (w : World) : (ReflectliteValue.parts (.agg #[hd 124, .pointer (some a), .int .u64 150])).run Tryz.prog w = .ok (some (124, a, 150)) w := by kernel_rfl
theorem zW (a p : Addr) (W : World) (ha : W.cell? a = some (.pointer (some p))) :
  (ReflectliteValue.method (ReflectliteValue.valueError "reflectlite.Value.IsNil" 0) ReflectliteValue.isNil #[.agg #[hd 124, .pointer (some a), .int .u64 150]]).run Tryz.prog W = .ok (.bool false) W := by
 rw [rlm];simp only [Sem.run_bind, sW, Result.andThen];simp [ReflectliteValue.isNil, loadVar, isAgg, underlying, Tryz.underlying124, ha, Result.andThen]
theorem aBU (w : World) : (ReflectliteType.method ReflectliteType.elem #[.agg #[hd 124]]).run Tryz.prog w = .ok (.iface 265 (.agg #[hd 30])) w := by kernel_rfl
theorem qZ (w : World) : (ReflectliteType.relation "Implements" ReflectliteType.implements_ #[.agg #[hd 30], .iface 265 (.agg #[hd 79])]).run Tryz.prog w = .ok (.bool true) w := by kernel_rfl
theorem o8 (v : Value) (w : World) : (ReflectliteType.typeOf #[.iface 30 v]).run Tryz.prog w = .ok (.iface 265 (.agg #[hd 30])) w := by kernel_rfl
theorem qH (w : World) : (ReflectliteType.relation "AssignableTo" ReflectliteType.assignableTo #[.agg #[hd 30], .iface 265 (.agg #[hd 30])]).run Tryz.prog w = .ok (.bool true) w := by kernel_rfl
theorem yM (e : Int) (w : World) : (ReflectliteValue.unpack (.iface 30 (i64 e))).run Tryz.prog w = .ok (.agg #[hd 30, ptr w.heap.size, .int .u64 130]) (w.alloc (.cells #[(i64 e)] 30)) := by kernel_rfl
theorem xG (w : World) : (Rtype.elem? 124).run Tryz.prog w = .ok (some 30) w := by kernel_rfl
theorem mk30 (p : Addr) (w : World) : (ReflectliteValue.mk 30 p ReflectliteValue.flagAddr).run Tryz.prog w = .ok (.agg #[hd 30, .pointer (some p), .int .u64 386]) w := by kernel_rfl
theorem zF (a p : Addr) (W : World) (ha : W.cell? a = some (.pointer (some p))) :
  (ReflectliteValue.method (ReflectliteValue.valueError "reflectlite.Value.Elem" 0) ReflectliteValue.elem #[.agg #[hd 124, .pointer (some a), .int .u64 150]]).run Tryz.prog W = .ok (.agg #[hd 30, .pointer (some p), .int .u64 386]) W := by
 rw [rlm];simp only [Sem.run_bind, sW, Result.andThen];simp [ReflectliteValue.elem, loadVar, isAgg, underlying, Tryz.underlying124, ha, Result.andThen, xG, mk30]
theorem aAL (a : Addr) (w : World) : (ReflectliteValue.parts (.agg #[hd 30, .pointer (some a), .int .u64 386])).run Tryz.prog w = .ok (some (30, a, 386)) w := by kernel_rfl
theorem aCN (a : Addr) (w : World) : (ReflectliteValue.parts (.agg #[hd 30, .pointer (some a), .int .u64 130])).run Tryz.prog w = .ok (some (30, a, 130)) w := by kernel_rfl
theorem zD (w : World) : (Rtype.directlyAssignable 30 30).run Tryz.prog w = .ok true w := by kernel_rfl
theorem aFP (ta b : Addr) (e : Int) (old : Value) (W : World) (hb : W.cell? b = some (i64 e)) (ht : W.cell? ta = some old) (hf : W.frozen? ta = false) :
  (ReflectliteValue.set #[.agg #[hd 30, .pointer (some ta), .int .u64 386], .agg #[hd 30, .pointer (some b), .int .u64 130]]).run Tryz.prog W = .ok (.tuple #[]) (W.setCell ta (i64 e)) := by
 rw [rls];simp only [Sem.run_bind, aAL, aCN, Result.andThen];simp [ReflectliteValue.flagAddr, loadVar, isAgg, underlying, Tryz.underlying30, hb, Result.andThen, zD, storeVar, Value.cells, storeCells, Addr.add];rw [run_store Tryz.prog W ta _ _ (by rfl)];simp [ht, hf]
theorem i7 (h : Value) (w : World) : (Go.method (Tryz.prog.types.size + Made.depth) 265 (.agg #[h]) "Kind").run Tryz.prog w = .ok (396, h) w := by kernel_rfl
theorem oM (h : Value) (w : World) : (Go.method (Tryz.prog.types.size + Made.depth) 265 (.agg #[h]) "Elem").run Tryz.prog w = .ok (416, .agg #[h]) w := by kernel_rfl
theorem iF (h : Value) (w : World) : (Go.method (Tryz.prog.types.size + Made.depth) 265 (.agg #[h]) "Implements").run Tryz.prog w = .ok (417, .agg #[h]) w := by kernel_rfl
theorem gK (h : Value) (w : World) : (Go.method (Tryz.prog.types.size + Made.depth) 265 (.agg #[h]) "AssignableTo").run Tryz.prog w = .ok (414, .agg #[h]) w := by kernel_rfl
theorem mK (h : Value) (w : World) : (Go.method (Tryz.prog.types.size + Made.depth) 265 (.agg #[h]) "Comparable").run Tryz.prog w = .ok (415, .agg #[h]) w := by kernel_rfl
theorem mA (w : World) : (ReflectliteType.relation "AssignableTo" ReflectliteType.assignableTo #[.agg #[hd 30], .iface 265 (.agg #[hd 118])]).run Tryz.prog w = .ok (.bool false) w := by kernel_rfl
theorem qL (w : World) : (ReflectliteType.method (fun t => do Rtype.noPackHeld "Comparable" t; pure (.bool (← typeInfo t).comparable)) #[.agg #[hd 30]]).run Tryz.prog w = .ok (.bool true) w := by kernel_rfl
theorem aEK (v : Value) (w : World) : (Instr.typeAssert (.iface 30 v) 79 269 true).run Tryz.prog w = .ok (.tuple #[.nilIface, .bool false]) w := run_typeAssert_lacksB Tryz.underlying269 aY aY v 79 w
theorem uL (v : Value) (w : World) : (Instr.typeAssert (.iface 30 v) 79 272 true).run Tryz.prog w = .ok (.tuple #[.nilIface, .bool false]) w := run_typeAssert_lacksB Tryz.underlying272 aY aY v 79 w
theorem sQ (v : Value) (w : World) : (Instr.typeAssert (.iface 30 v) 79 273 true).run Tryz.prog w = .ok (.tuple #[.nilIface, .bool false]) w := run_typeAssert_lacksB Tryz.underlying273 aY aY v 79 w
theorem eq30 (e : Int) (w : World) : (binOp .eql 79 (.iface 30 (i64 e)) (.iface 30 (i64 e))).run Tryz.prog w = .ok (.bool true) w := by
 have h : (binOp .eql 79 (.iface 30 (i64 e)) (.iface 30 (i64 e))).run Tryz.prog w = .ok (.bool (decide (e = e))) w := by kernel_rfl
 rw [h]; simp
end Go.Proofs
end
section
namespace Go.Proofs
open Go Go.SL Go.Extern
theorem mX : (Tryz.f93.name == "runtime.NumGoroutine") = false := by kernel_rfl
theorem mY : Tryz.f93.body.isNone = true := by kernel_rfl
theorem mZ : Go.Extern.findNext Tryz.f93 = none := by kernel_rfl
theorem m0 : Go.Extern.find Tryz.f93 = some (fun args => ReflectliteValue.unpack (args.getD 0 (.tuple #[]))) := by kernel_rfl
theorem aBH : (Tryz.f94.name == "runtime.NumGoroutine") = false := by kernel_rfl
theorem aBI : Tryz.f94.body.isNone = true := by kernel_rfl
theorem aBJ : Go.Extern.findNext Tryz.f94 = none := by kernel_rfl
theorem aBK : Go.Extern.find Tryz.f94 = some (ReflectliteValue.methodAny (ReflectliteValue.valueError "reflectlite.Value.Type" 0) (fun t _ _ _ => ReflectliteType.toType t)) := by kernel_rfl
theorem wS : (Tryz.f95.name == "runtime.NumGoroutine") = false := by kernel_rfl
theorem wT : Tryz.f95.body.isNone = true := by kernel_rfl
theorem wU : Go.Extern.findNext Tryz.f95 = none := by kernel_rfl
theorem wV : Go.Extern.find Tryz.f95 = some (ReflectliteValue.method (ReflectliteValue.valueError "reflectlite.Value.IsNil" 0) ReflectliteValue.isNil) := by kernel_rfl
theorem pA : (Tryz.f97.name == "runtime.NumGoroutine") = false := by kernel_rfl
theorem pB : Tryz.f97.body.isNone = true := by kernel_rfl
theorem pC : Go.Extern.findNext Tryz.f97 = none := by kernel_rfl
theorem pD : Go.Extern.find Tryz.f97 = some ReflectliteType.typeOf := by kernel_rfl
theorem aC6 : (Tryz.f156.name == "runtime.NumGoroutine") = false := by kernel_rfl
theorem aC7 : Tryz.f156.body.isNone = true := by kernel_rfl
theorem aC8 : Go.Extern.findNext Tryz.f156 = none := by kernel_rfl
theorem aC9 : Go.Extern.find Tryz.f156 = some (ReflectliteValue.method (ReflectliteValue.valueError "reflectlite.Value.Elem" 0) ReflectliteValue.elem) := by kernel_rfl
theorem aFZ : (Tryz.f157.name == "runtime.NumGoroutine") = false := by kernel_rfl
theorem aF0 : Tryz.f157.body.isNone = true := by kernel_rfl
theorem aF1 : Go.Extern.findNext Tryz.f157 = none := by kernel_rfl
theorem aF2 : Go.Extern.find Tryz.f157 = some ReflectliteValue.set := by kernel_rfl
theorem rN : (Tryz.f396.name == "runtime.NumGoroutine") = false := by kernel_rfl
theorem rO : Tryz.f396.body.isNone = true := by kernel_rfl
theorem rP : Go.Extern.findNext Tryz.f396 = none := by kernel_rfl
theorem rQ : Go.Extern.find Tryz.f396 = some (ReflectliteType.abiMethod fun t => do pure (.int .u8 (← Rtype.kind t))) := by kernel_rfl
theorem tL : (Tryz.f414.name == "runtime.NumGoroutine") = false := by kernel_rfl
theorem tM : Tryz.f414.body.isNone = true := by kernel_rfl
theorem tN : Go.Extern.findNext Tryz.f414 = none := by kernel_rfl
theorem tO : Go.Extern.find Tryz.f414 = some (ReflectliteType.relation "AssignableTo" ReflectliteType.assignableTo) := by kernel_rfl
theorem aE3 : (Tryz.f415.name == "runtime.NumGoroutine") = false := by kernel_rfl
theorem aE4 : Tryz.f415.body.isNone = true := by kernel_rfl
theorem aE5 : Go.Extern.findNext Tryz.f415 = none := by kernel_rfl
theorem aE6 : Go.Extern.find Tryz.f415 = some (ReflectliteType.method fun t => do Rtype.noPackHeld "Comparable" t; pure (.bool (← typeInfo t).comparable)) := by kernel_rfl
theorem wO : (Tryz.f416.name == "runtime.NumGoroutine") = false := by kernel_rfl
theorem wP : Tryz.f416.body.isNone = true := by kernel_rfl
theorem wQ : Go.Extern.findNext Tryz.f416 = none := by kernel_rfl
theorem wR : Go.Extern.find Tryz.f416 = some (ReflectliteType.method ReflectliteType.elem) := by kernel_rfl
theorem aBD : (Tryz.f417.name == "runtime.NumGoroutine") = false := by kernel_rfl
theorem aBE : Tryz.f417.body.isNone = true := by kernel_rfl
theorem aBF : Go.Extern.findNext Tryz.f417 = none := by kernel_rfl
theorem aBG : Go.Extern.find Tryz.f417 = some (ReflectliteType.relation "Implements" ReflectliteType.implements_) := by kernel_rfl
def ErrT (K : Hl) : Prop := ∃ T fz, K 0 = some (aW [.iface 265 (.agg #[hd 79])] T fz)
theorem ErrT.mono {K K' : Hl} (h : ErrT K) (le : K.le K') : ErrT K' := let ⟨T, fz, h⟩ := h; ⟨T, fz, le _ _ h⟩
theorem mC {w0 w : World} {F K : Hl} {L : List Asn} {b : Nat} {v : Value} {T : TypeId} (i : In w0 F K L w) (h : Hs (pt b (aW [v] T)) L) : w.cell? ⟨b, 0, none⟩ = some v ∧ w.frozen? ⟨b, 0, none⟩ = false := by
 have := (Sees.own (K := K) h).at i;exact ⟨iR this rfl, by simp [World.frozen?, this]⟩
theorem uD {w0 w : World} {F K : Hl} {L L' : List Asn} {b : Nat} {v v' : Value} {T : TypeId} (i : In w0 F K L w) (hT : Fnd (pt b (aW [v] T)) (pt b (aW [v'] T)) L L') : In w0 F K L' (w.setCell ⟨b, 0, none⟩ v') := by
 have hb := i.mem hT;have hlt : b < w.heap.size := (Array.getElem?_eq_some_iff.1 hb).1;have e : w.setCell ⟨b, 0, none⟩ v' = { w with heap := (w.setCell ⟨b, 0, none⟩ v').heap } := by
  unfold World.setCell; rfl
 rw [e];refine i.writeAt hT (by simp [World.setCell]) ?_ ?_
 ·show (w.heap.modify b _)[b]? = _
  rw [Array.getElem?_modify, if_pos rfl, hb]; rfl
 ·intro x hx;exact RowKit.Below.heap_setCell w ⟨b, 0, none⟩ v' x hx
theorem aBL (e : Int) (t bv : Nat) (old : Value) (K : Hl) : Sp Tryz.prog 96 [.iface 30 (i64 e), .iface 124 (ptr t), .agg #[hd 124, ptr bv, .int .u64 150], .iface 265 (.agg #[hd 30])] K [pt bv (aW [ptr t] 124), pt t (aW [old] 30)] (Ret fun r K' L' => r = .bool true ∧ K' = K ∧ L' = [pt t (aW [(i64 e)] 30)]) := by
 refine bE Tryz.func96 rfl Tryz.ntmps96 rfl rfl fun F w => ?_
 refine aG (aC ?_);refine ol_s (gO rfl rfl) rfl ?_;rintro _ K _ ⟨b6, rfl, rfl, rfl⟩ -;refine aA (aD rfl) rfl ?_;refine aF (aE ?_);refine a7 ?_;refine eW (fun (u : Unit) => True) (fun _ => [(0, .iface 30 (i64 e)), (1, .iface 124 (ptr t)), (3, .iface 265 (.agg #[hd 30])), (6, ptr b6)]) (fun _ => K) (fun _ => [pt b6 (aW [hd 124, ptr bv, .int .u64 150] 188), pt bv (aW [ptr t] 124), pt t (aW [old] 30)]) (fun _ => 0) () trivial (.cons 0 rfl (.cons 1 rfl (.cons 3 rfl (.cons 6 rfl .nil)))) rfl (fun _ h => h) ?_;intro _ _;refine a7 (aG ?_);refine aG (aC ?_);refine aA (aB rfl) rfl ?_;refine aA (iU rfl rfl Tryz.func97 pA pB pC pD (fun w _ => o8 _ w)) rfl ?_;refine aA (aB rfl) rfl ?_;refine aA (dS rfl rfl (gK _) Tryz.func414 tL tM tN tO (fun w _ => qH w)) rfl ?_;refine aF (aE ?_);refine dH rfl ?_;refine aG (aC ?_);refine aA (bX gA rfl aN rfl rfl) rfl ?_;refine aA (iU rfl rfl Tryz.func156 aC6 aC7 aC8 aC9 (fun w j => zF _ _ w (mC j (.there .here)).1)) rfl ?_;refine aA (aB rfl) rfl ?_;refine ol_s (vU (N := fun v K' L' => ∃ bn, v = .agg #[hd 30, ptr bn, .int .u64 130] ∧ K' = K ∧ L' = [pt bn (aW [(i64 e)] 30), pt b6 (aW [hd 124, ptr bv, .int .u64 150] 188), pt bv (aW [ptr t] 124), pt t (aW [old] 30)]) rfl rfl Tryz.func93 mX mY mZ m0 (fun w j => ⟨_, _, K, _, yM e w, ⟨_, rfl, rfl, rfl⟩, Hl.le_refl _, j.alloc _⟩)) rfl ?_;rintro _ K _ ⟨bn, rfl, rfl, rfl⟩ -;refine ol_s (vU (N := fun v K' L' => v = .tuple #[] ∧ K' = K ∧ L' = [pt bn (aW [(i64 e)] 30), pt b6 (aW [hd 124, ptr bv, .int .u64 150] 188), pt bv (aW [ptr t] 124), pt t (aW [(i64 e)] 30)]) rfl rfl Tryz.func157 aFZ aF0 aF1 aF2 (fun w j => ⟨_, _, K, _, aFP ⟨t, 0, none⟩ ⟨bn, 0, none⟩ e old w (mC j .here).1 (mC j (.there (.there (.there .here)))).1 (mC j (.there (.there (.there .here)))).2, ⟨rfl, rfl, rfl⟩, Hl.le_refl _, uD j (.there (.there (.there .here)))⟩)) rfl ?_;rintro _ K _ ⟨rfl, rfl, rfl⟩ -;refine aF (aE ?_);refine aG (aC ?_);refine aA (aD rfl) rfl ?_;refine aF (aE ?_);refine a8 ?_;refine aR ?_;refine bC ?_;refine aR ?_;refine bC ?_;refine bF (.cons (.there (.there (.there .here))) .nil) ?_;refine bA rfl rfl (Hl.le_refl _) ?_;exact ⟨_, rfl, rfl, rfl, rfl⟩
theorem aDU (e : Int) (t bv : Nat) (old : Value) (K : Hl) : Sp Tryz.prog 96 [.iface 30 (i64 e), .iface 120 (ptr t), .agg #[hd 120, ptr bv, .int .u64 150], .iface 265 (.agg #[hd 118])] K [pt bv (aW [ptr t] 120), pt t (aW [old] 118)] (Ret fun r K' L' => r = .bool false ∧ K' = K ∧ L' = [pt t (aW [old] 118)]) := by
 refine bE Tryz.func96 rfl Tryz.ntmps96 rfl rfl fun F w => ?_
 refine aG (aC ?_);refine ol_s (gO rfl rfl) rfl ?_;rintro _ K _ ⟨b6, rfl, rfl, rfl⟩ -;refine aA (aD rfl) rfl ?_;refine aF (aE ?_);refine a7 ?_;refine eW (fun (u : Unit) => True) (fun _ => [(0, .iface 30 (i64 e)), (1, .iface 120 (ptr t)), (3, .iface 265 (.agg #[hd 118])), (6, ptr b6)]) (fun _ => K) (fun _ => [pt b6 (aW [hd 120, ptr bv, .int .u64 150] 188), pt bv (aW [ptr t] 120), pt t (aW [old] 118)]) (fun _ => 0) () trivial (.cons 0 rfl (.cons 1 rfl (.cons 3 rfl (.cons 6 rfl .nil)))) rfl (fun _ h => h) ?_;intro _ _;refine a7 (aG ?_);refine aG (aC ?_);refine aA (aB rfl) rfl ?_;refine aA (iU rfl rfl Tryz.func97 pA pB pC pD (fun w _ => o8 _ w)) rfl ?_;refine aA (aB rfl) rfl ?_;refine aA (dS rfl rfl (gK _) Tryz.func414 tL tM tN tO (fun w _ => mA w)) rfl ?_;refine aF (aE ?_);refine bL rfl ?_;refine aX ?_;refine aE (aG ?_);refine aG (aC ?_);refine aA (aB rfl) rfl ?_;refine aA (zN rfl (aEK _)) rfl ?_;refine aA (aB rfl) rfl ?_;refine aA (aQ rfl rfl) rfl ?_;refine aA (aQ rfl rfl) rfl ?_;refine aA (aD rfl) rfl ?_;refine aA (aD rfl) rfl ?_;refine aF (aE ?_);refine aG (aC ?_);refine aA (aB rfl) rfl ?_;refine aA (aB rfl) rfl ?_;refine aO rfl rfl rfl ?_;refine aO rfl rfl rfl ?_;refine aO rfl rfl rfl ?_;refine aA (aZ rfl rfl) rfl ?_;refine aF (aE ?_);refine bL rfl ?_;refine aX ?_;refine aE (aG ?_);refine aC ?_;refine aA (aB rfl) rfl ?_;refine aF (aE ?_);refine a7 (aG ?_);refine aC ?_;refine aA (zN rfl (uL _)) rfl ?_;refine aA (aQ rfl rfl) rfl ?_;refine aA (aQ rfl rfl) rfl ?_;refine aF (aE ?_);refine bL rfl ?_;refine aG (aC ?_);refine aA (zN rfl (sQ _)) rfl ?_;refine aA (aQ rfl rfl) rfl ?_;refine aA (aQ rfl rfl) rfl ?_;refine aF (aE ?_);refine bL rfl ?_;refine aG (aC ?_);refine aA (aD rfl) rfl ?_;refine aF (aE ?_);refine aG (aC ?_);refine aA (aD rfl) rfl ?_;refine aF (aE ?_);refine a8 ?_;refine bC ?_;refine bC ?_;refine aR ?_;refine bC ?_;refine bF (.cons (.there (.there .here)) .nil) ?_;refine bA rfl rfl (Hl.le_refl _) ?_;exact ⟨_, rfl, rfl, rfl, rfl⟩
theorem as30 (e : Int) (t : Nat) (old : Value) (K : Hl) (hE : ErrT K) : Sp Tryz.prog 55 [.iface 30 (i64 e), .iface 124 (ptr t)] K [pt t (aW [old] 30)] (Ret fun r K' L' => r = .bool true ∧ K' = K ∧ L' = [pt t (aW [i64 e] 30)]) := by
 obtain ⟨ET, Efz, hE⟩ := hE;refine bE Tryz.func55 rfl Tryz.ntmps55 rfl rfl fun F w => ?_
 refine aG (aC ?_);refine aA (aD rfl) rfl ?_;refine aF (aE ?_);refine aG (aG ?_);refine aC ?_;refine aA (aB rfl) rfl ?_;refine aA (fC Tryz.underlying79 rfl rfl) rfl ?_;refine aF (aE ?_);refine bL rfl ?_;refine aX ?_;refine aE (aG ?_);refine aG (aC ?_);refine aA (aB rfl) rfl ?_;refine aA (fC Tryz.underlying20 rfl rfl) rfl ?_;refine aF (aE ?_);refine bL rfl ?_;refine aX ?_;refine aE (aG ?_);refine aC ?_;refine aA (aB rfl) rfl ?_;refine ol_s (vU (N := fun v K' L' => ∃ bv, v = .agg #[hd 124, ptr bv, .int .u64 150] ∧ K' = K ∧ L' = [pt bv (aW [ptr t] 124), pt t (aW [old] 30)]) rfl rfl Tryz.func93 mX mY mZ m0 (fun w j => ⟨_, _, K, _, uV t w, ⟨_, rfl, rfl, rfl⟩, Hl.le_refl _, j.alloc _⟩)) rfl ?_;rintro _ K _ ⟨bv, rfl, rfl, rfl⟩ -;refine ol_s (dI aDQ) rfl ?_;rintro _ K _ ⟨b5, rfl, rfl, rfl⟩ -;refine cQ (cS gA rfl rfl rfl bI (by first | (simp [Value.oneCell']; done) | exact fun c hc => El.one _ _ c hc) (.cons (.cons (.cons .nil))) (by intro j hj; simp)) ?_;rintro _ K _ ⟨rfl, rfl⟩ -;refine aF (aE ?_);refine aG (aC ?_);refine aA (bX gA rfl aN rfl rfl) rfl ?_;refine aA (iU rfl rfl Tryz.func94 aBH aBI aBJ aBK (fun w _ => aC3 _ w)) rfl ?_;refine aA (aD rfl) rfl ?_;refine aF (aE ?_);refine aG (aG ?_);refine aC ?_;refine aA (aB rfl) rfl ?_;refine aA (dS rfl rfl (i7 _) Tryz.func396 rN rO rP rQ (fun w _ => aCG w)) rfl ?_;refine aA (eE rfl rfl) rfl ?_;refine aA (aB rfl) rfl ?_;refine aT rfl rfl ?_;refine aA (bX gA rfl aN rfl rfl) rfl ?_;refine aT rfl rfl ?_;refine aA (iU rfl rfl Tryz.func95 wS wT wU wV (fun w j => zW _ ⟨t, 0, none⟩ w (mC j (.there .here)).1)) rfl ?_;refine aA (aZ rfl rfl) rfl ?_;refine aF (aE ?_);refine bL rfl ?_;refine aX ?_;refine aE (aG ?_);refine aC ?_;refine aA (aB rfl) rfl ?_;refine aA (dS rfl rfl (oM _) Tryz.func416 wO wP wQ wR (fun w _ => aBU w)) rfl ?_;refine aA (aD rfl) rfl ?_;refine aF (aE ?_);refine aG (aG ?_);refine aC ?_;refine aA (aB rfl) rfl ?_;refine aA (dS rfl rfl (i7 _) Tryz.func396 rN rO rP rQ (fun w _ => aEF w)) rfl ?_;refine aA (eE rfl rfl) rfl ?_;refine aA (aB rfl) rfl ?_;refine aT rfl rfl ?_;refine aA (aB rfl) rfl ?_;refine aT rfl rfl ?_;refine aA (aM aDL rfl (.known hE) rfl) rfl ?_;refine aT rfl rfl ?_;refine aA (dS rfl rfl (iF _) Tryz.func417 aBD aBE aBF aBG (fun w _ => qZ w)) rfl ?_;refine aT rfl rfl ?_;refine aA (by first | exact fB rfl | exact dL rfl) rfl ?_;refine aA (bG rfl rfl) rfl ?_;refine aF (aE ?_);refine bL rfl ?_;refine aX ?_;refine aE (aG ?_);refine aC ?_;refine aA (aB rfl) rfl ?_;refine aA (aB rfl) rfl ?_;refine aA (bX gA rfl aN rfl rfl) rfl ?_;refine aA (aB rfl) rfl ?_;refine bH rfl rfl (aBL e t bv old _) (.cons (.there .here) (.cons (.there .here) .nil)) rfl ?_;rintro _ K _ ⟨rfl, rfl, rfl⟩ -;refine aA (aD rfl) rfl ?_;refine aF (aE ?_);refine a8 ?_;refine bF (.cons .here .nil) ?_;refine bA rfl rfl (Hl.le_refl _) ?_;exact ⟨_, rfl, rfl, rfl, rfl⟩
theorem aDT (e : Int) (t : Nat) (old : Value) (K : Hl) (hE : ErrT K) : Sp Tryz.prog 55 [.iface 30 (i64 e), .iface 120 (ptr t)] K [pt t (aW [old] 118)] (Ret fun r K' L' => r = .bool false ∧ K' = K ∧ L' = [pt t (aW [old] 118)]) := by
 obtain ⟨ET, Efz, hE⟩ := hE;refine bE Tryz.func55 rfl Tryz.ntmps55 rfl rfl fun F w => ?_
 refine aG (aC ?_);refine aA (aD rfl) rfl ?_;refine aF (aE ?_);refine aG (aG ?_);refine aC ?_;refine aA (aB rfl) rfl ?_;refine aA (fC Tryz.underlying79 rfl rfl) rfl ?_;refine aF (aE ?_);refine bL rfl ?_;refine aX ?_;refine aE (aG ?_);refine aG (aC ?_);refine aA (aB rfl) rfl ?_;refine aA (fC Tryz.underlying20 rfl rfl) rfl ?_;refine aF (aE ?_);refine bL rfl ?_;refine aX ?_;refine aE (aG ?_);refine aC ?_;refine aA (aB rfl) rfl ?_;refine ol_s (vU (N := fun v K' L' => ∃ bv, v = .agg #[hd 120, ptr bv, .int .u64 150] ∧ K' = K ∧ L' = [pt bv (aW [ptr t] 120), pt t (aW [old] 118)]) rfl rfl Tryz.func93 mX mY mZ m0 (fun w j => ⟨_, _, K, _, uU t w, ⟨_, rfl, rfl, rfl⟩, Hl.le_refl _, j.alloc _⟩)) rfl ?_;rintro _ K _ ⟨bv, rfl, rfl, rfl⟩ -;refine ol_s (dI aDQ) rfl ?_;rintro _ K _ ⟨b5, rfl, rfl, rfl⟩ -;refine cQ (cS gA rfl rfl rfl bI (by first | (simp [Value.oneCell']; done) | exact fun c hc => El.one _ _ c hc) (.cons (.cons (.cons .nil))) (by intro j hj; simp)) ?_;rintro _ K _ ⟨rfl, rfl⟩ -;refine aF (aE ?_);refine aG (aC ?_);refine aA (bX gA rfl aN rfl rfl) rfl ?_;refine aA (iU rfl rfl Tryz.func94 aBH aBI aBJ aBK (fun w _ => aC2 _ w)) rfl ?_;refine aA (aD rfl) rfl ?_;refine aF (aE ?_);refine aG (aG ?_);refine aC ?_;refine aA (aB rfl) rfl ?_;refine aA (dS rfl rfl (i7 _) Tryz.func396 rN rO rP rQ (fun w _ => aCF w)) rfl ?_;refine aA (eE rfl rfl) rfl ?_;refine aA (aB rfl) rfl ?_;refine aT rfl rfl ?_;refine aA (bX gA rfl aN rfl rfl) rfl ?_;refine aT rfl rfl ?_;refine aA (iU rfl rfl Tryz.func95 wS wT wU wV (fun w j => zV _ ⟨t, 0, none⟩ w (mC j (.there .here)).1)) rfl ?_;refine aA (aZ rfl rfl) rfl ?_;refine aF (aE ?_);refine bL rfl ?_;refine aX ?_;refine aE (aG ?_);refine aC ?_;refine aA (aB rfl) rfl ?_;refine aA (dS rfl rfl (oM _) Tryz.func416 wO wP wQ wR (fun w _ => aBT w)) rfl ?_;refine aA (aD rfl) rfl ?_;refine aF (aE ?_);refine aG (aG ?_);refine aC ?_;refine aA (aB rfl) rfl ?_;refine aA (dS rfl rfl (i7 _) Tryz.func396 rN rO rP rQ (fun w _ => aCE w)) rfl ?_;refine aA (eE rfl rfl) rfl ?_;refine aA (aB rfl) rfl ?_;refine aT rfl rfl ?_;refine aA (aB rfl) rfl ?_;refine aT rfl rfl ?_;refine aA (aM aDL rfl (.known hE) rfl) rfl ?_;refine aT rfl rfl ?_;refine aA (dS rfl rfl (iF _) Tryz.func417 aBD aBE aBF aBG (fun w _ => pJ w)) rfl ?_;refine aT rfl rfl ?_;refine aA (by first | exact fB rfl | exact dL rfl) rfl ?_;refine aA (bG rfl rfl) rfl ?_;refine aF (aE ?_);refine bL rfl ?_;refine aX ?_;refine aE (aG ?_);refine aC ?_;refine aA (aB rfl) rfl ?_;refine aA (aB rfl) rfl ?_;refine aA (bX gA rfl aN rfl rfl) rfl ?_;refine aA (aB rfl) rfl ?_;refine bH rfl rfl (aDU e t bv old _) (.cons (.there .here) (.cons (.there .here) .nil)) rfl ?_;rintro _ K _ ⟨rfl, rfl, rfl⟩ -;refine aA (aD rfl) rfl ?_;refine aF (aE ?_);refine a8 ?_;refine bF (.cons .here .nil) ?_;refine bA rfl rfl (Hl.le_refl _) ?_;exact ⟨_, rfl, rfl, rfl, rfl⟩
end Go.Proofs
end
section
namespace Go.Proofs
open Go Go.SL Go.Extern
theorem is30 (e : Int) (K : Hl) : Sp Tryz.prog 98 [.iface 30 (i64 e), .iface 30 (i64 e), .bool true] K [] (Val (.bool true) K) := by
 refine bE Tryz.func98 rfl Tryz.ntmps98 rfl rfl fun F w => ?_
 refine aG (aC ?_);refine aA (aD rfl) rfl ?_;refine aF (aE ?_);refine a7 ?_;refine eW (fun (u : Unit) => True) (fun u => [(0, .iface 30 (i64 e)), (1, .iface 30 (i64 e)), (2, .bool true)]) (fun _ => K) (fun _ => []) (fun u => 0) () trivial (.cons 0 rfl (.cons 1 rfl (.cons 2 rfl .nil))) rfl (fun _ h => h) ?_;intro u _;refine a7 (aG ?_);refine aG (aC ?_);refine aA (aB rfl) rfl ?_;refine aA (aB rfl) rfl ?_;refine aT rfl rfl ?_;refine aA (aB rfl) rfl ?_;refine aT rfl rfl ?_;refine aA (aB rfl) rfl ?_;refine aT rfl rfl ?_;refine aA (qS rfl rfl (fun _ => rfl) (fun w => eq30 e w)) rfl ?_;refine aA (bG rfl rfl) rfl ?_;refine aF (aE ?_);refine dH rfl ?_;refine aG (aC ?_);refine aA (aD rfl) rfl ?_;refine aF (aE ?_);refine a8 ?_;refine aR ?_;refine bC ?_;refine aR ?_;refine bC ?_;refine bA rfl rfl (Hl.le_refl _) ?_;exact ⟨rfl, rfl, rfl⟩
theorem aBN (e : Int) (K : Hl) : Sp Tryz.prog 56 [.iface 30 (i64 e), .iface 30 (i64 e)] K [] (Val (.bool true) K) := by
 refine bE Tryz.func56 rfl Tryz.ntmps56 rfl rfl fun F w => ?_
 refine aG (aC ?_);refine aA (aD rfl) rfl ?_;refine aF (aE ?_);refine aG (aG ?_);refine aC ?_;refine aA (aB rfl) rfl ?_;refine aA (fC Tryz.underlying79 rfl rfl) rfl ?_;refine aA (aB rfl) rfl ?_;refine aT rfl rfl ?_;refine aA (aB rfl) rfl ?_;refine aT rfl rfl ?_;refine aA (fC Tryz.underlying79 rfl rfl) rfl ?_;refine aA (aZ rfl rfl) rfl ?_;refine aF (aE ?_);refine bL rfl ?_;refine aX ?_;refine aE (aG ?_);refine aC ?_;refine aA (aB rfl) rfl ?_;refine aA (iU rfl rfl Tryz.func97 pA pB pC pD (fun w _ => o8 _ w)) rfl ?_;refine aA (dS rfl rfl (mK _) Tryz.func415 aE3 aE4 aE5 aE6 (fun w _ => qL w)) rfl ?_;refine aA (aD rfl) rfl ?_;refine aF (aE ?_);refine aG (aC ?_);refine aA (aB rfl) rfl ?_;refine aA (aB rfl) rfl ?_;refine aA (aB rfl) rfl ?_;refine bN rfl rfl (is30 e _) rfl ?_;refine aA (aD rfl) rfl ?_;refine aF (aE ?_);refine a8 ?_;refine bA rfl rfl (Hl.le_refl _) ?_;exact ⟨rfl, rfl, rfl⟩
theorem aA0 (K : Hl) : Sp Tryz.prog 37 [.nilIface] K [] (Val (.tuple #[i64 0, i64 (-1)]) K) := by
 refine bE Tryz.func37 rfl Tryz.ntmps37 rfl rfl fun F w => ?_
 refine aG (aC ?_);refine aA (aD rfl) rfl ?_;refine aA (aD rfl) rfl ?_;refine aF (aE ?_);refine aG (aC ?_);refine ol_s (dI aDP) rfl ?_;rintro _ K _ ⟨b4, rfl, rfl, rfl⟩ -;refine aF (aE ?_);refine aG (aC ?_);refine ol_s (dI tz30) rfl ?_;rintro _ K _ ⟨b5, rfl, rfl, rfl⟩ -;refine aF (aE ?_);refine aG (a7 ?_);refine aG (aC ?_);refine aA (aB rfl) rfl ?_;refine aA (tU Tryz.underlying79 rfl) rfl ?_;refine aA (aD rfl) rfl ?_;refine aF (aE ?_);refine dH rfl ?_;refine aG (aC ?_);refine aA (aD rfl) rfl ?_;refine aA (aD rfl) rfl ?_;refine aF (aE ?_);refine a8 ?_;refine bC ?_;refine aR ?_;refine bF .nil ?_;refine cR rfl rfl rfl (Hl.le_refl _) ?_;exact ⟨rfl, rfl, rfl⟩
theorem aEY (e : Int) (K : Hl) (hE : ErrT K) : Sp Tryz.prog 37 [.iface 30 (i64 e)] K [] (Ret fun v K' L' => v = .tuple #[i64 e, i64 (-1)] ∧ K' = K ∧ L' = []) := by
 refine bE Tryz.func37 rfl Tryz.ntmps37 rfl rfl fun F w => ?_
 refine aG (aC ?_);refine aA (aD rfl) rfl ?_;refine aA (aD rfl) rfl ?_;refine aF (aE ?_);refine aG (aC ?_);refine ol_s (dI aDP) rfl ?_;rintro _ K _ ⟨b4, rfl, rfl, rfl⟩ -;refine aF (aE ?_);refine aG (aC ?_);refine ol_s (dI tz30) rfl ?_;rintro _ K _ ⟨b5, rfl, rfl, rfl⟩ -;refine aF (aE ?_);refine aG (a7 ?_);refine aG (aC ?_);refine aA (aB rfl) rfl ?_;refine aA (fC Tryz.underlying79 rfl rfl) rfl ?_;refine aA (aD rfl) rfl ?_;refine aF (aE ?_);refine bL rfl ?_;refine aG (aC ?_);refine aA (aB rfl) rfl ?_;refine aA (cF Tryz.underlying120 (fun _ h => by cases h) rfl) rfl ?_;refine bH rfl rfl (aDT e b4 _ _ hE) (.cons (.there .here) .nil) rfl ?_;rintro _ K _ ⟨rfl, rfl, rfl⟩ -;refine aA (aB rfl) rfl ?_;refine aO rfl rfl rfl ?_;refine aO rfl rfl rfl ?_;refine aO rfl rfl rfl ?_;refine aO rfl rfl rfl ?_;refine aO rfl rfl rfl ?_;refine aO rfl rfl rfl ?_;refine aO rfl rfl rfl ?_;refine aA (aZ rfl rfl) rfl ?_;refine aA (aD rfl) rfl ?_;refine aF (aE ?_);refine bL rfl ?_;refine aG (aC ?_);refine aA (aB rfl) rfl ?_;refine aA (cF Tryz.underlying124 (fun _ h => by cases h) rfl) rfl ?_;refine bH rfl rfl (as30 e b5 _ _ hE) (.cons (.there .here) .nil) rfl ?_;rintro _ K _ ⟨rfl, rfl, rfl⟩ -;refine aA (aB rfl) rfl ?_;refine aT rfl rfl ?_;refine aA (aB rfl) rfl ?_;refine aT rfl rfl ?_;refine aA (aM ts30 rfl aN rfl) rfl ?_;refine aT rfl rfl ?_;refine aA (cF Tryz.underlying30 (fun _ h => by cases h) rfl) rfl ?_;refine aT rfl rfl ?_;refine bN rfl rfl (aBN e _) rfl ?_;refine aA (bG rfl rfl) rfl ?_;refine aA (aD rfl) rfl ?_;refine aF (aE ?_);refine dH rfl ?_;refine aG (aC ?_);refine aA (aM ts30 rfl aN rfl) rfl ?_;refine aA (aD rfl) rfl ?_;refine aA (aD rfl) rfl ?_;refine aF (aE ?_);refine a8 ?_;refine bC ?_;refine aR ?_;refine bF .nil ?_;refine cR rfl rfl rfl (Hl.le_refl _) ?_;exact ⟨_, rfl, rfl, rfl, rfl⟩
end Go.Proofs
end
section
namespace Go.SL
def Hl.less (k h : Hl) : Hl := fun x => if (h x).isSome then none else k x
theorem Hl.less_le (k h : Hl) : (k.less h).le k := by
 intro x o e;unfold Hl.less at e;split at e
 ·cases e
 ·exact e
theorem Hl.less_dj (k h : Hl) : h.dj (k.less h) := by
 intro x;cases e : h x with
 | none => exact .inl rfl
 | some o => exact .inr (by simp [Hl.less, e])
theorem Hl.le_less {K K' h : Hl} (le : K.le K') (d : K.dj h) : K.le (K'.less h) := by
 intro x o e;unfold Hl.less;rcases d x with q | q
 ·rw [q] at e; cases e
 ·simp only [q, Option.isSome_none, Bool.false_eq_true, if_false]; exact le x o e
theorem Hl.le_join_l {a b : Hl} : a.le (a.join b) := fun x o e => by simp [Hl.join, e]
theorem Hl.le_join_r {a b : Hl} (d : a.dj b) : b.le (a.join b) := fun x o e => by
 rcases d x with q | q
 ·simp [Hl.join, q, e]
 ·rw [q] at e; cases e
theorem In.freeze {w0 w : World} {F K : Hl} {L1 L : List Asn} (i : In w0 F K (L1 ++ L) w) : ∃ h, Sat L1 h ∧ K.dj h ∧ In w0 F (K.join h) L w := by
 obtain ⟨x, hs, d1, d2, d3, l1, l2, l3⟩ := i.rep;obtain ⟨a, n, ha, hn, han, rfl⟩ := eF.1 hs;have hd2 := Hl.dj_join.1 d2;have hd3 := Hl.dj_join.1 d3;exact ⟨a, ha, hd3.1, i.os, i.tape, i.output, i.size, n, hn, Hl.dj_join.2 ⟨d1, hd2.1⟩, hd2.2, Hl.join_dj.2 ⟨hd3.2, han⟩, l1, Hl.join_le l2 (Hl.le_join_left l3), Hl.le_join_right han l3⟩
theorem In.thaw {w0 w : World} {F K' h : Hl} {L1 L : List Asn} (i : In w0 F K' L w) (hs1 : Sat L1 h) (le : h.le K') : In w0 F (K'.less h) (L1 ++ L) w := by
 obtain ⟨x, hs, d1, d2, d3, l1, l2, l3⟩ := i.rep;have sub : ∀ y, K' y = none → h y = none := by
  intro y hy;cases e : h y with
  | none => rfl
  | some o => rw [le y o e] at hy; cases hy
 have hx : h.dj x := fun y => (d3 y).imp_left (sub y)
 have hF : F.dj h := fun y => (d1 y).imp_right (sub y)
 refine ⟨i.os, i.tape, i.output, i.size, h.join x, eF.2 ⟨h, x, hs1, hs, hx, rfl⟩, ?_, Hl.dj_join.2 ⟨hF, d2⟩, Hl.dj_join.2 ⟨(Hl.less_dj K' h).symm, ?_⟩, l1, Hl.le_trans (Hl.less_le _ _) l2, Hl.join_le (Hl.le_trans le l2) l3⟩
 ·intro y;rcases d1 y with q | q
  ·exact .inl q
  ·exact .inr (by unfold Hl.less; split <;> first | rfl | exact q)
 ·intro y;rcases d3 y with q | q
  ·exact .inl (by unfold Hl.less; split <;> first | rfl | exact q)
  ·exact .inr q
theorem aCX {P : Program} {f : FuncId} {args : List Value} {K : Hl} {L1 L : List Asn} {R : Ending → List Asn → Prop} (hb : ∃ fn, P.funcs[f]? = some fn ∧ (fn.name == "runtime.NumGoroutine") = false ∧ fn.body.isSome = true)
  (h : ∀ h1, Sat L1 h1 → K.dj h1 → Sp P f args (K.join h1) L fun e _ L' => R e L') : Sp P f args K (L1 ++ L) fun e _ L' => ∃ L'', R e L'' ∧ L' = L1 ++ L'' :=
 ⟨hb, fun F w i => by
  obtain ⟨h1, hs, d, i1⟩ := i.freeze;exact ((h h1 hs d).2 F w i1).mono fun e w' ⟨K', L', r, le, j⟩ => ⟨K'.less h1, L1 ++ L', ⟨L', r, rfl⟩, Hl.le_less (Hl.le_trans Hl.le_join_l le) d, j.thaw hs (Hl.le_trans (Hl.le_join_r d) le)⟩⟩
theorem aEG {α : Type} {z : Bool} {k : El α} {v : Value} {xs : List α} {h : Hl} (hs : sl z k v xs h) : Ksl k h v xs := by
 rcases hs with ⟨rfl, rfl, rfl⟩ | ⟨b, cap, junk, fz, rfl, hz, hc, hj, hf, rfl⟩
 ·exact .inl ⟨none, 0, rfl, rfl⟩
 ·refine .inr ⟨b, 0, cap, k.cs xs ++ junk, fz, rfl, ⟨k.e, by simp [Hl.one]⟩, ?_⟩
  rw [List.drop_zero, ← k.cs_length, List.take_left]
theorem aES {A : Asn} {L : List Asn} {h : Hl} (hh : Hs A L) (hs : Sat L h) : ∃ a, A a ∧ a.le h := by
 obtain ⟨M, hM⟩ := hh.split;obtain ⟨a, m, ha, hm, hd, rfl⟩ := hM h hs;exact ⟨a, ha, Hl.le_join_l⟩
theorem aCI {α : Type} {z : Bool} {k : El α} {v : Value} {xs : List α} {L : List Asn} {h : Hl} (hh : Hs (sl z k v xs) L) (hs : Sat L h) : Ksl k h v xs := by
 obtain ⟨a, ha, le⟩ := aES hh hs;exact (aEG ha).mono le
end Go.SL
end
section
namespace Go.SL
theorem uR : ∀ {o : Nat} {l cs : List Value}, o + cs.length ≤ l.length → Spl l o cs (l.take o ++ cs ++ l.drop (o + cs.length))
 | 0, l, [], h => by simpa using Spl.nil
 | 0, a :: l, c :: cs, h => by
  have := uR (o := 0) (l := l) (cs := cs) (by simp at h ⊢; omega);have e : (a :: l).take 0 ++ c :: cs ++ (a :: l).drop (0 + (c :: cs).length) = c :: (l.take 0 ++ cs ++ l.drop (0 + cs.length)) := by simp
  rw [e]; exact .cons this
 | 0, [], c :: cs, h => by simp at h
 | o + 1, a :: l, cs, h => by
  have := uR (o := o) (l := l) (cs := cs) (by simp at h; omega);have e : (a :: l).take (o + 1) ++ cs ++ (a :: l).drop (o + 1 + cs.length) = a :: (l.take o ++ cs ++ l.drop (o + cs.length)) := by
   have : o + 1 + cs.length = (o + cs.length) + 1 := by omega
   rw [this]; simp
  rw [e]; exact .skip this
 | o + 1, [], cs, h => by simp at h
theorem rY {α : Type} (k : El α) {y : α} : ∀ {xs : List α} {j : Nat} {r : List Value}, j < xs.length → (k.cs xs ++ r).take (j * k.sz) ++ k.enc y ++ (k.cs xs ++ r).drop (j * k.sz + (k.enc y).length) = k.cs (xs.set j y) ++ r
 | [], _, _, h => by simp at h
 | x :: xs, 0, r, h => by
  simp only [Nat.zero_mul, List.take_zero, List.nil_append, Nat.zero_add, List.set_cons_zero, El.cs, List.flatMap_cons, List.append_assoc];have : (k.enc y).length = (k.enc x).length := by rw [k.len, k.len]
  rw [this, List.drop_left]
 | x :: xs, j + 1, r, h => by
  have ih := rY k (y := y) (xs := xs) (j := j) (r := r) (by simpa using h);have hx := k.len x;simp only [El.cs, List.set_cons_succ, List.flatMap_cons, List.append_assoc] at ih ⊢;have e1 : (j + 1) * k.sz = (k.enc x).length + j * k.sz := by rw [Nat.succ_mul, hx]; omega
  have e2 : (j + 1) * k.sz + (k.enc y).length = (k.enc x).length + (j * k.sz + (k.enc y).length) := by rw [e1]; omega
  rw [e1, List.take_append, List.take_of_length_le aI, show (k.enc x).length + j * k.sz - (k.enc x).length = j * k.sz by omega];rw [show (k.enc x).length + j * k.sz + (k.enc y).length = (k.enc x).length + (j * k.sz + (k.enc y).length) by omega, List.drop_append, List.drop_eq_nil_of_le aI, show (k.enc x).length + (j * k.sz + (k.enc y).length) - (k.enc x).length = j * k.sz + (k.enc y).length by omega];rw [List.nil_append, List.append_assoc, ih]
section
variable {E : Env} {fr : Fr} {K : Hl} {L L' : List Asn} {dst : Option Tmp} {ty : TypeId} {pos : String} {aft : Array Edge} {g : Option (Nat × Bool)} {x y : Operand} {t : TypeId} {α : Type} {k : El α} {v : Value} {xs : List α}
theorem rE {zf : Bool} {j : Nat} {y0 : α} (ht : aggB E.P t k.sz = true) (hx : fr.ev x = some (fD v (j * k.sz))) (hy : fr.ev y = some (.agg (k.enc y0).toArray)) (hj : j < xs.length)
  (hF : Fnd (sl zf k v xs) (sl zf k v (xs.set j y0)) L L') : EfS E fr K L ⟨dst, .store t x y, ty, pos, aft, g⟩ (fun _ K' L'' => K' = K ∧ L'' = L') := by
 intro a w f q;obtain ⟨M, m1, m2⟩ := hF.split;rcases (q.imp m1).slCases with ⟨rfl, rfl, _⟩ | ⟨b, cap, junk, fz, rfl, hz, hcap, hjk, hf, q0⟩
 ·simp at hj
 ·have hx' : fr.ev x = some (ptr b (j * k.sz)) := by rw [hx]; simp [fD, dP]
  have hle : j * k.sz + k.sz ≤ xs.length * k.sz := by rw [← Nat.succ_mul]; exact Nat.mul_le_mul_right _ hj
  have hle2 : xs.length * k.sz ≤ cap * k.sz := Nat.mul_le_mul_right _ hcap;obtain ⟨u, w', K', L'', hr, ⟨rfl, rfl⟩, le, q1⟩ := cS (K := K) (dst := dst) (ty := ty) (pos := pos) (aft := aft) (g := g) (l := k.cs xs ++ junk) (u := k.e) (fz := fz) ht hx' hy (k.len y0) (.here (L := M)) (fun c hc => k.one y0 c hc) (uR (by rw [List.length_append, k.cs_length, k.len]; omega)) (fun i hi => hf.at aI) a w f q0;refine ⟨u, w', _, _, hr, ⟨rfl, rfl⟩, le, q1.imp fun h hh => m2 h ?_⟩
  obtain ⟨aa, l, ha, hl, hd, he⟩ := hh;refine ⟨aa, l, ?_, hl, hd, he⟩
  rw [rY k hj] at ha;refine .inr ⟨b, cap, junk, fz, by rw [List.length_set], ?_, by rw [List.length_set]; exact hcap, by rw [List.length_set]; exact hjk, hf, ha⟩
  intro h1 h2;exact hz h1 (by have := congrArg List.length h2; simp at this; exact List.length_eq_zero_iff.1 (by simpa using this))
end
end Go.SL
end
section
namespace Go.Syn
open Go.Mach
def t1 : aJ := [105, 102, 32, 104, 101, 97, 100, 101, 114, 32, 34, 83, 117, 98, 106, 101, 99, 116, 34, 32, 34, 120, 34, 32, 123, 32, 100, 105, 115, 99, 97, 114, 100, 59, 32, 125, 32, 101, 108, 115, 101, 32, 123, 32, 107, 101, 101, 112, 59, 32, 125]
def t2 : aJ := [105, 102, 32, 104, 101, 97, 100, 101, 114, 32, 58, 99, 111, 109, 112, 97, 114, 97, 116, 111, 114, 32, 34, 105, 59, 111, 99, 116, 101, 116, 34, 32, 34, 83, 117, 98, 106, 101, 99, 116, 34, 32, 34, 120, 34, 32, 123, 32, 100, 105, 115, 99, 97, 114, 100, 59, 32, 125, 32, 101, 108, 115, 101, 32, 123, 32, 114, 101, 100, 105, 114, 101, 99, 116, 32, 34, 97, 64, 98, 34, 59, 32, 125]
def tb : aJ := [107, 101, 101, 112, 59, 32, 105, 102, 32, 123, 32, 125]
def m1 : Msg := ⟨[], [], 0, [([115, 117, 98, 106, 101, 99, 116], [88])]⟩
def pc (s : aJ) : Int × Int := if 600 < s.length then (1, -1) else match aEP s with | .ok _ => (0, -1) | .error e => e
end Go.Syn
end
section
namespace Go.Proofs
open Go Go.SL Go.Syn Go.Mach Go.Cmp
theorem ScriptAt.mono {K K' : Hl} {b : Nat} {needs : List (List UInt8)} {t : Tree} (h : ScriptAt K b needs t) (le : K.le K') : ScriptAt K' b needs t :=
 let ⟨l, nv, bv, ys, fz, h1, h2, h3, h4, h5, h6, h7⟩ := h.at_
 ⟨l, nv, bv, ys, fz, le _ _ h1, h2, h3, h4.mono le, h5.mono le, h6.mono le, h7⟩
def yP (K : Hl) (b : Nat) (r : List aJ × Tree) : Prop := ∃ tb cv vs fz, K b = some (aW [ptr tb 6, cv] 89 fz) ∧ ScriptAt K tb r.1 r.2 ∧ Ksl aFE K cv vs ∧ RIs K vs (Cmp.script r.2)
theorem yP.mono {K K' : Hl} {b : Nat} {r : List aJ × Tree} (h : yP K b r) (le : K.le K') : yP K' b r :=
 let ⟨tb, cv, vs, fz, h1, h2, h3, h4⟩ := h
 ⟨tb, cv, vs, fz, le _ _ h1, h2.mono le, h3.mono le, h4.mono le⟩
end Go.Proofs
end
section
namespace Go.Proofs
open Go Go.SL Go.Syn Go.Mach Go.Cmp
structure TI where
 i : Nat
 xs : List (aJ × aJ)
end Go.Proofs
end
section
namespace Go.Proofs
open Go Go.SL Go.Syn Go.Mach Go.Cmp
structure CI where
 i : Nat
 v : Value
 ws : List InsV
end Go.Proofs
end
section
namespace Go.Proofs
open Go Go.SL Go.Syn Go.Mach Go.Cmp
structure PI where
 i : Nat
 ws : List InsV
structure PJ where
 k : Nat
 xs : List aJ
end Go.Proofs
end
section
namespace Go.Proofs
open Go Go.SL Go.Syn Go.Mach Go.Cmp
structure MsgSz (m : Msg) : Prop where
 from_ : m.from_.length ≤ 140737488355328
 to_ : m.to_.length ≤ 140737488355328
 hn : m.hs.length ≤ 140737488355328
 hs : ∀ h ∈ m.hs, h.1.length ≤ 140737488355328 ∧ h.2.length ≤ 140737488355328
structure SI where
 i : Nat
 n : Int
end Go.Proofs
end
section
set_option maxRecDepth 100000
namespace Go
theorem fT {H : Type} {enc : TypeId × Value → H} {a : Assume} {C : Checked} {os : Os} {f : FuncId} {fn : Func} {s : ChangeSpec} {conds : List PathCond} {apart fresh handsOn again : Bool} {X : World → Array Value → Prop}
  (hX : ∀ (w w' : World) (args : Array Value), w.heap = w'.heap → X w args → X w' args)
  (own : ownKnob C.prog.godebug = none) (started : os.Started) (noInit : C.prog.inits.idxOf? f = none) (hfn : C.prog.funcs[f]? = some fn)
  (witness : ∃ (w : World) (tape : Tape) (i : Input), w.os = os ∧ (w.forCall tape i).Shaped C.prog ∧ i.vars = [] ∧ Input.okWide C.prog (w.forCall tape i) .any w.heap.size f i ∧
   ((s.pre enc C.prog fn conds apart (w.forCall tape i).memory i.args ∧ X (w.forCall tape i).memory i.args) ∧ sizedMet enc C.prog fn (OpenSpec.ofChange s) apart (w.forCall tape i).memory i.args) ∧ a.holds C.prog (lone (Frame.enter C.prog f i.args .normal) [] (w.forCall tape i)))
  (contract : ∀ (W : World) (base : Nat) (args : Array Value) (ds gs : List (DataW H)) (before : List MemPlace),
   (∀ (j : Nat) t v, fn.params[j]? = some t → args[j]? = some v → Value.okWide C.prog W .any base t v) →
   DataW.Whole enc C.prog fn.params.toList s.vars apart W args.toList ds gs before →
   conds.all (PathCond.test C.prog ⟨fn.params.toList, ds, s.plain.varTypes C.prog, gs⟩) = true →
   (DataW.weightsEach C.prog (fn.params.toList ++ s.plain.varTypes C.prog) (ds ++ gs)).all (· ≤ reachBytes) = true → X W args → W.ShapedOpen C.prog →
   a.holds C.prog (lone (Frame.enter C.prog f args .normal) [] W) →
   Calls C.prog f args W fun e W' => ∃ v, e = .returned v ∧ s.post enc C.prog fn apart fresh handsOn again W args v W') :
  ReturnsInHanded a C os f .any (fun w args => (s.pre enc C.prog fn conds apart w args ∧ X w args) ∧ sizedMet enc C.prog fn (OpenSpec.ofChange s) apart w args) (s.post enc C.prog fn apart fresh handsOn again) := by
 refine returnsInHanded_of_calls own started noInit witness ?_;intro w tape i _ hsh _ hok hpre hholds;obtain ⟨_, _, _, fn', hfn', _, _, _, _, hval⟩ := hok;have e : fn' = fn := Option.some.inj (hfn'.symm.trans hfn);subst e;obtain ⟨⟨⟨ds, gs, before, hw, hc⟩, hx⟩, hz⟩ := hpre;have hw' := DataW.Whole.of_heap (w' := w.forCall tape i) (by rfl) hw;refine (contract (w.forCall tape i) w.heap.size i.args ds gs before hval hw' hc (hz.weights hw) (hX _ _ _ (by rfl) hx) hsh hholds).mono fun e W' ⟨v, he, hp⟩ => ?_
 subst he;exact ChangeSpec.post_blind hp
end Go
namespace Go.Proofs
open Go Go.SL Go.Mach Go.ChangeShapes Go.WideShapes Go.RowKit
open YthopmddkpdehiaaGreatDoor (Rows.laid_math_bits_deBruijn32tab Rows.laid_math_bits_deBruijn64tab Rows.laid_internal_strconv_uint64pow10 Rows.laid_errors_errorType)
namespace TzRow
theorem own : ownKnob Tryz.prog.godebug = none := by kernel_rfl
theorem laidOut : laidOutB Tryz.prog = true := by kernel_rfl
theorem gPow : Tryz.prog.globalNamed "internal/strconv.uint64pow10" = some 2 := by kernel_rfl
theorem aFD : (Tryz.prog.globals[2]?).map (·.type) = some 475 := by kernel_rfl
theorem rt : (Tryz.prog.cutTypes.find? (·.1 == "internal/reflectlite.rtype")).map (·.2) = some 265 := by kernel_rfl
theorem et : Tryz.prog.globalNamed "errors.errorType" = some 0 := by kernel_rfl
theorem aEO : ((List.range Tryz.prog.types.size).filter fun t => Tryz.prog.rowNamed t [101, 114, 114, 111, 114]) = [79] := by kernel_rfl
theorem xP {W : World} {l : List (String × DataW Unit)} (hl : handlesMet Tryz.prog [("errors.errorType", YthopmddkpdehiaaGreatDoor.Rows.laid_errors_errorType)] W) : ErrT (hp W) := by
 obtain ⟨name, u, ty, e1, e2, e3, e4, e5⟩ := hl _ (List.mem_singleton.2 rfl);have en : name = [101, 114, 114, 111, 114] := (Option.some.inj e1).symm;subst en;obtain rfl := Option.some.inj (rt.symm.trans e2);have hm : ty ∈ (List.range Tryz.prog.types.size).filter fun t => Tryz.prog.rowNamed t [101, 114, 114, 111, 114] := List.mem_filter.2 ⟨List.mem_range.2 e3, e4⟩
 rw [aEO] at hm;obtain rfl := List.mem_singleton.1 hm;have hh : typeHandle Tryz.prog 79 = hd 79 := by kernel_rfl
 rw [hh] at e5;unfold World.var? at e5;rw [et] at e5;simp only [Option.bind_some] at e5;split at e5
 ·rename_i cs T fz hw;have := Option.some.inj e5;subst this;exact ⟨T, fz, hw⟩
 ·cases e5
theorem aEV {w w' : World} {nm : String} {k : IntKind} {zs : List Int} (h : Lib.TabIs Tryz.prog w nm k zs) (le : (hp w).le (hp w')) : Lib.TabIs Tryz.prog w' nm k zs := by
 unfold Lib.TabIs World.var? at *;cases hg : Tryz.prog.globalNamed nm with
 | none => rw [hg] at h; simp at h
 | some g =>
  rw [hg] at h;simp only [Option.bind_some] at h ⊢;split at h
  ·rename_i cs T fz hw;have := le g _ hw;simp only [hp] at this;rw [this]; exact h
  ·cases h
theorem aAD {W : World} (h : W.ShapedOpen Tryz.prog) : ∃ m T fz, hp W 1 = some (aW [i64 m] T fz) := by
 obtain ⟨m, hm⟩ := cell_of_shapedOpen_int (P := Tryz.prog) (g := 1) (t := 3) (zero := #[.int .i64 0]) (k := .i64) h (of_decide_eq_true aY) aY rfl aY aY aY;obtain ⟨cs, hh, hs, _⟩ := h.1 1 #[.int .i64 0] 3 (of_decide_eq_true aY) aY;have h1 : cs.size = 1 := hs;refine ⟨m, 3, (0, 0), ?_⟩
 show W.heap[1]? = _
 rw [hh];have hc : cs = #[i64 m] := by
  have : cs[0]? = some (i64 m) := by simpa [World.cell?, hh] using hm
  obtain ⟨l⟩ := cs
  match l, h1, this with
  | [c], _, this => simp at this; rw [this]
 rw [hc]
theorem door_shaped (os : Os) (args : Array Value) : ((World.doorLaid Tryz.prog 100 os).forCall (fun _ _ => 0) ⟨#[], args, []⟩).Shaped Tryz.prog :=
 World.shaped_of_RefB aY aY
end TzRow
end Go.Proofs
end

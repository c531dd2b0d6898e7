/-
  What the proof stands on, part 6: the logic of walks, the walks through the functions, the plain laws. Conditions: as each theorem says. (Merged and shortened by a program.)
-/
import Derived.Test.YthopmddkpdehiaaGreatDoorProg
import Derived.Shelf.Strconv.Atoi
import Derived.Test.YthopmddkpdehiaaGreatDoorK1
import Derived.Test.YthopmddkpdehiaaGreatDoorK2
import Derived.Test.YthopmddkpdehiaaGreatDoorK3
import Derived.Test.YthopmddkpdehiaaGreatDoorK4
import Derived.Test.YthopmddkpdehiaaGreatDoorK5
set_option linter.unusedVariables false
set_option linter.unusedSimpArgs false
section
namespace Go.Box
open Go.Syn Go.Mach Go.Proofs Go.SL
theorem nL {xs : List File} (h : eD xs) : ∀ x ∈ xs, x.2.length ≤ 140737488355328 := fun f hf => by
 have h1 := jS hf;have h2 := h.2.1;have h3 : (entryC f).length = f.1.length + 1 + (Lib.itoa f.2.length).length + 1 + f.2.length := by simp [entryC]; omega
 omega
theorem pW : ∀ (os : List OpR) (f : DMap), Left true os f f
 | [], f => .nil
 | o :: os, f => .lost (pW os f)
structure BoxI (xs : List File) (f : DMap) (t : DSt) : Prop where
 down : t.down = false
 coh : Coh t
 safe : Safe xs f t
 left : t.left = -1
 full : t.full = -1
 len : t.pend.length ≤ 1000
 bd : Bd 140737488355328 t
theorem BoxI.up {xs : List File} {f : DMap} {t : DSt} (h : BoxI xs f t) : Up 0 t := ⟨h.down, by rw [h.left]; omega, by rw [h.left]; omega, by rw [h.full]; omega, by rw [h.full]; omega⟩
theorem BoxI.set {xs : List File} {f : DMap} {t : DSt} (h : BoxI xs f t) : t.set (-1) (-1) = t := by have := h.left; have := h.full; cases t; simp_all [DSt.set]
theorem kF {xs : List File} {f : DMap} {t : DSt} (h : Rest t) (hJ : J xs f t.dur) : BoxI xs f t :=
 ⟨h.down, h.coh, fun g hg => by rw [h.pend] at hg; cases hg; exact hJ, h.left, h.full, by rw [h.pend]; exact Nat.zero_le _, fun o ho => by rw [h.pend] at ho; cases ho⟩
theorem qM {s u : DSt} (h : lF s u) : Rest (u.set (-1) (-1)) := ⟨h.2.2.2.2.2, h.2.2.1, h.2.1, rfl, rfl⟩
theorem nW {xs : List File} {f : DMap} {e : Int} {s t : DSt} (hb : Bent xs f e s) (hl : s.pend.length ≤ 1000) (hd : Bd 140737488355328 s) (ht : eX s t) : BoxI xs f t := by
 unfold eX at ht;rcases hb.2 with ⟨_, h2⟩ | ⟨_, h2, h3⟩
 ·rw [if_pos h2] at ht;obtain ⟨u, hu, rfl⟩ := ht;exact kF (qM hu) (hb.1 _ hu.1)
 ·rw [if_neg (by rw [h2]; simp)] at ht;subst ht;exact ⟨h2, h3, hb.1, rfl, rfl, hl, hd⟩
theorem k8 {s t : DSt} (h1 : s.down = false) (h2 : s.pend = []) (h3 : s.now = s.dur) (ht : eX s t) : Rest t ∧ t.dur = s.dur := by
 unfold eX at ht;rw [if_neg (by rw [h1]; simp)] at ht;subst ht;exact ⟨⟨h1, h2, h3, rfl, rfl⟩, rfl⟩
theorem lX {r : Option (List File)} {s : DSt} (hr : ∀ xs, r = some xs → xs.length ≤ 100) (hs : s.pend.length ≤ 1000) : (bK r s).2.pend.length ≤ 1000 := by
 have h0 := fE s;unfold bK;split
 ·omega
 ·rename_i hn;have hp : (bQ s).2.pend = [] := by
   unfold bQ at hn ⊢;split
   ·rename_i h; rw [if_pos h] at hn; exact absurd h hn
   ·rfl
  have hpl : (bQ s).2.pend.length = 0 := by rw [hp]; rfl
  split
  ·unfold kY;split
   ·have := iY ‹_› (bQ s).2;have := hr _ rfl;omega
   ·have := j2 [cB aS, bQ] (bQ s).2 fun g hg s => by
     simp only [List.mem_cons, List.not_mem_nil, or_false] at hg;rcases hg with rfl | rfl
     ·exact f8 _ _
     ·have := fE s; omega
    simp only [List.length_cons, List.length_nil] at this;omega
  ·split <;> (simp only []; omega)
theorem oT {B : Nat} {r : Option (List File)} {s : DSt} (hr : ∀ xs, r = some xs → ∀ x ∈ xs, x.2.length ≤ B) (hs : Bd B s) : Bd B (bK r s).2 := by
 have h0 := lJ hs;unfold bK;split
 ·exact h0
 ·split
  ·unfold kY;split
   ·exact pN (hr _ rfl) h0
   ·refine jD (fun g hg s hs => ?_) h0
    simp only [List.mem_cons, List.not_mem_nil, or_false] at hg;rcases hg with rfl | rfl
    ·exact pO hs
    ·exact lJ hs
  ·split <;> exact h0
def Mild (e : Er) : Prop := e = none ∨ e = some 14
theorem k7 : ∀ {gs : List (DSt → Er × DSt)} {k : Nat} {s : DSt}, (∀ g ∈ gs, ∀ k s, k ≤ 1000000 → Up k s → Up (k + 1) (g s).2 ∧ Mild (g s).1) → k + gs.length ≤ 1000000 → Up k s → Mild (bZ gs s).1
 | [], k, s, _, _, h => .inl rfl
 | g :: gs, k, s, hg, hk, h => by
  simp only [List.length_cons] at hk;have h1 := hg g List.mem_cons_self k s aI h;unfold bZ;split
  ·exact h1.2
  ·exact k7 (fun g' h' => hg g' (List.mem_cons_of_mem _ h')) aI h1.1
theorem uJ {k : Nat} {n d : aJ} {s : DSt} (h : Up k s) (hk : k ≤ 1000000) : Up (k + 1) (cH n d s).2 ∧ Mild (cH n d s).1 := ⟨aA9 h hk, by rw [l8 h hk]; exact .inl rfl⟩
theorem kJ {k : Nat} {s : DSt} (h : Up k s) (hk : k ≤ 1000000) : Up (k + 1) (bQ s).2 ∧ Mild (bQ s).1 := ⟨aC5 h hk, by rw [l4 h hk]; exact .inl rfl⟩
theorem nF {k : Nat} {n : aJ} {s : DSt} (h : Up k s) (hk : k ≤ 1000000) : Up (k + 1) (cB n s).2 ∧ Mild (cB n s).1 := ⟨yL h hk, by
 have e := iP h hk;unfold cB cU DSt.we DSt.ws;rw [e, n5 h];split
 ·rename_i hc; cases hc
 ·split
  ·exact .inr rfl
  ·exact .inl rfl⟩
theorem aAC {k : Nat} {xs : List File} : ∀ g ∈ cV xs ++ [bQ, cB aS, bQ], ∀ k s, k ≤ 1000000 → Up k s → Up (k + 1) (g s).2 ∧ Mild (g s).1 := fun g hg k s hk hs => by
 rcases List.mem_append.1 hg with hg | hg
 ·obtain ⟨x, hm, rfl⟩ := List.mem_map.1 hg;exact uJ hs hk
 ·simp only [List.mem_cons, List.not_mem_nil, or_false] at hg;rcases hg with rfl | rfl | rfl
  ·exact kJ hs hk
  ·exact nF hs hk
  ·exact kJ hs hk
theorem sP {k : Nat} {xs : List File} {s : DSt} (h : Up k s) (hk : k + xs.length ≤ 900000) : Mild (dQ xs s).1 := k7 (k := k) (aAC (k := k)) (by simp [cV]; omega) h
theorem q9 {r : Option (List File)} {s : DSt} (h : Up 0 s) (hr : ∀ xs, r = some xs → xs.length ≤ 1000) : Mild (bK r s).1 := by
 have h1 := kJ h aI;unfold bK;split
 ·exact h1.2
 ·split
  ·unfold kY;split
   ·exact sP h1.1 (by have := hr _ rfl; omega)
   ·refine k7 (k := 1) (fun g hg k s hk hs => ?_) (by simp) h1.1
    simp only [List.mem_cons, List.not_mem_nil, or_false] at hg;rcases hg with rfl | rfl
    ·exact nF hs hk
    ·exact kJ hs hk
  ·split
   ·exact .inl rfl
   ·rename_i e he hne
    exfalso
    unfold gX at he;rw [if_neg (by rw [h1.1.down]; simp)] at he;split at he
    ·injection he with he; exact hne he.symm
    ·cases he
section
variable {xs : List File} {f : DMap} {t : DSt}
theorem s8 (hok : eD xs) (hfj : f aS = none) (h : BoxI xs f t) (l fl : Int) : ∀ s1 d, bQ (t.set l fl) = (none, s1) → s1.now aS = some d → hY d (saysOf xs t.now) := fun s1 d h1 h2 => by
 refine aET hok hfj (h.safe.now h.coh) ?_;rw [← h2];unfold bQ at h1;split at h1
 ·rename_i hc; rw [show (t.set l fl).we = none from congrArg Prod.fst h1] at hc; cases hc
 ·cases h1; rfl
theorem vC (hj : ∀ x ∈ xs, x.1 ≠ aS) (hok : eD xs) (hfj : f aS = none) (h : BoxI xs f t) (l fl : Int) :
  ((bK (saysOf xs t.now) (t.set l fl)).1 = none ∧ ∀ u, eX (bK (saysOf xs t.now) (t.set l fl)).2 u → Rest u ∧ (u.dur = f ∨ u.dur = after xs f)) ∨
  (∃ e, (bK (saysOf xs t.now) (t.set l fl)).1 = some e ∧ (e = 16 ∨ e = 15) ∧ ∀ u, eX (bK (saysOf xs t.now) (t.set l fl)).2 u → BoxI xs f u) := by
 have hp := lX (r := saysOf xs t.now) (s := t.set l fl) (fun ys hy => by rw [j1 ys hy]; exact hok.2.2) h.len;have hb := oT (B := 140737488355328) (r := saysOf xs t.now) (s := t.set l fl) (fun ys hy => by rw [j1 ys hy]; exact nL hok) h.bd;rcases aAO (s := t.set l fl) hj h.down h.coh h.safe hfj with ⟨s', h1, h2, h3, h4, h5⟩ | ⟨e, s', h1, h2⟩
 ·left
  rw [show (t.set l fl).now = t.now from rfl] at h1;rw [h1];refine ⟨rfl, fun u hu => ?_⟩
  obtain ⟨r1, r2⟩ := k8 h2 h3 h4 hu;exact ⟨r1, r2 ▸ h5⟩
 ·right
  rw [show (t.set l fl).now = t.now from rfl] at h1;rw [h1] at hp hb ⊢;refine ⟨e, rfl, ?_, fun u hu => nW h2 hp hb hu⟩
  rcases h2.2 with ⟨h3, _⟩ | ⟨h3, _⟩
  ·exact .inl h3
  ·exact .inr h3
theorem nX (hok : eD xs) (h : BoxI xs f t) (l fl : Int) : (bK (saysOf xs t.now) (t.set l fl)).2.pend.length ≤ 1000000 ∧ ∀ o ∈ (bK (saysOf xs t.now) (t.set l fl)).2.pend, o.data.length ≤ 140737488355328 := by
 have hp := lX (r := saysOf xs t.now) (s := t.set l fl) (fun ys hy => by rw [j1 ys hy]; exact hok.2.2) h.len;exact ⟨by omega, oT (r := saysOf xs t.now) (s := t.set l fl) (fun ys hy => by rw [j1 ys hy]; exact nL hok) h.bd⟩
theorem yW (hj : ∀ x ∈ xs, x.1 ≠ aS) (hok : eD xs) (hfj : f aS = none) (h : BoxI xs f t) :
  (bK (saysOf xs t.now) (t.set (-1) (-1))).1 = none ∧ ∀ u, eX (bK (saysOf xs t.now) (t.set (-1) (-1))).2 u → Rest u ∧ (u.dur = f ∨ u.dur = after xs f) := by
 rcases vC hj hok hfj h (-1) (-1) with h1 | ⟨e, h1, h2, _⟩
 ·exact h1
 ·exfalso
  have hm := q9 (r := saysOf xs t.now) (s := t.set (-1) (-1)) (by rw [h.set]; exact h.up) fun ys hy => by rw [j1 ys hy]; have := hok.2.2; omega
  rw [h1] at hm;rcases hm with hm | hm
  ·cases hm
  ·injection hm with hm; omega
end
theorem aBO {id : aJ} {acts : List Action} {text : aJ} {xs : List File} {t : DSt} (hR : Rest t) (hf : cW id acts text = .ok xs) (hj : ∀ x ∈ xs, x.1 ≠ aS) (hok : eD xs) (hfj : t.dur aS = none) (l fl : Int) :
  ((eA id acts text (t.set l fl)).1 = none ∧ ∀ u, eX (eA id acts text (t.set l fl)).2 u → Rest u ∧ u.dur = after xs t.dur) ∨
  (∃ e, (eA id acts text (t.set l fl)).1 = some e ∧ (e = 16 ∨ e = 15) ∧ ¬ (l = -1 ∧ fl = -1) ∧ ∀ u, eX (eA id acts text (t.set l fl)).2 u → BoxI xs t.dur u) := by
 have hm : eA id acts text (t.set l fl) = dN xs (t.set l fl) := by unfold eA; rw [hf]
 have hp := lN xs (t.set l fl) hok.2.2;rw [show (t.set l fl).pend = [] from hR.pend] at hp;have hb : Bd 140737488355328 (dN xs (t.set l fl)).2 := nV (nL hok) (rA hok.2.1) (fun o ho => by rw [show (t.set l fl).pend = [] from hR.pend] at ho; cases ho);rw [hm];rcases zC (f := t.dur) (s := t.set l fl) hj hR.down hR.now rfl hR.pend hfj with ⟨s', h1, h2, h3, h4, h5⟩ | ⟨e, s', h1, h2⟩
 ·left
  rw [h1];refine ⟨rfl, fun u hu => ?_⟩
  obtain ⟨r1, r2⟩ := k8 h2 h3 (h5.trans h4.symm) hu;exact ⟨r1, r2.trans h4⟩
 ·right
  have hno : ¬ (l = -1 ∧ fl = -1) := by
   rintro ⟨rfl, rfl⟩;rw [hR.set] at h1;obtain ⟨s2, h3, _⟩ := tS (xs := xs) hR.up hR.coh (by have := hok.2.2; omega);rw [h3] at h1; cases h1
  rw [h1] at hp hb ⊢;refine ⟨e, rfl, ?_, hno, fun u hu => nW h2 (by simp at hp; omega) hb hu⟩
  rcases h2.2 with ⟨h3, _⟩ | ⟨h3, _⟩
  ·exact .inl h3
  ·exact .inr h3
theorem oU {s u : DSt} (h : Rest s) (hc : lF s u) : Rest u ∧ u.dur = s.dur := by
 have h1 := hc.1;rw [h.pend] at h1;refine ⟨⟨hc.2.2.2.2.2, hc.2.2.1, hc.2.1, hc.2.2.2.1, hc.2.2.2.2.1⟩, ?_⟩
 generalize u.dur = g at h1
 cases h1; rfl
end Go.Box
end
section
namespace Go.Box
open Go Go.SL Go.Syn Go.Mach Go.Proofs
structure StepV where
 id : aJ
 av : Cell
 text : aJ
 left : Int
 full : Int
 kept : Int
 part : Int
 dv : Cell
 again : Bool
 acts : List Action
 downs : List Int
def cM : El StepV := { e := 73, sz := 9, enc := fun v => [str v.id, v.av.1, str v.text, i64 v.left, i64 v.full, i64 v.kept, i64 v.part, v.dv.1, .bool v.again], len := fun _ => rfl, one := fun v u h => by simp at h; rcases h with rfl | rfl | rfl | rfl | rfl | rfl | rfl | rfl | rfl; rfl; exact v.av.2; rfl; rfl; rfl; rfl; rfl; exact v.dv.2; rfl }
abbrev aDJ (v : StepV) : Value := .agg #[str v.id, v.av.1, str v.text, i64 v.left, i64 v.full, i64 v.kept, i64 v.part, v.dv.1, .bool v.again]
structure StepIs (K : Hl) (v : StepV) : Prop where
 acts : Ksl dG K v.av.1 v.acts
 downs : Ksl (nE 3) K v.dv.1 v.downs
 part : -9223372036854775808 ≤ v.part ∧ v.part ≤ 9223372036854775807
theorem StepIs.mono {K K' : Hl} {v : StepV} (h : StepIs K v) (le : K.le K') : StepIs K' v := ⟨h.acts.mono le, h.downs.mono le, h.part⟩
structure StepSz (v : StepV) : Prop where
 id : v.id.length ≤ 140737488355328
 text : v.text.length ≤ 140737488355328
 acts : v.acts.length ≤ 140737488355328
 downs : v.downs.length ≤ 140737488355328
 args : ∀ a ∈ v.acts, a.2.length ≤ 140737488355328
structure StepFit (n : Nat) (v : StepV) : Prop where
 id : v.id.length ≤ n
 text : v.text.length ≤ n
 acts : v.acts.length ≤ n
 downs : v.downs.length ≤ n
 args : ∀ a ∈ v.acts, a.2.length ≤ n
theorem StepFit.mono {n m : Nat} {v : StepV} (h : StepFit n v) (hm : n ≤ m) : StepFit m v := ⟨Nat.le_trans h.id hm, Nat.le_trans h.text hm, Nat.le_trans h.acts hm, Nat.le_trans h.downs hm, fun a ha => Nat.le_trans (h.args a ha) hm⟩
theorem nB {id text : aJ} : ∀ {acts : List Action} {i : Nat} {fs : List File}, eI id text i acts = .ok fs → ∀ x ∈ fs, ∃ j a, x.1 = nm id j a ∧ (a.1 = 2 → boxed a.2 = true)
 | [], i, fs, h, x, hx => by cases h; cases hx
 | a :: r, i, fs, h, x, hx => by
  unfold eI at h;cases hf : bO id text i a with
  | error e => rw [hf] at h; cases h
  | ok f =>
   rw [hf] at h;simp only at h;cases hr : eI id text (i + 1) r with
   | error e => rw [hr] at h; cases h
   | ok fs' =>
    rw [hr] at h;cases h
    rcases List.mem_cons.1 hx with rfl | hx
    ·refine ⟨i, a, ?_, ?_⟩
     ·unfold bO at hf;unfold nm;split at hf
      ·rename_i h1; cases hf; rw [if_pos h1]
      ·rename_i h1;rw [if_neg h1];split at hf
       ·rename_i h2;rw [if_pos h2];split at hf
        ·cases hf; rfl
        ·cases hf
       ·rename_i h2;rw [if_neg h2];split at hf
        ·cases hf; rfl
        ·split at hf
         ·cases hf; rfl
         ·cases hf
     ·intro h2;unfold bO at hf;rw [if_neg aI, if_pos h2] at hf;split at hf
      ·assumption
      ·cases hf
    ·exact nB hr x hx
theorem aEJ {id : aJ} {i : Nat} {a : Action} (hid : f0 id) (hb : a.1 = 2 → boxed a.2 = true) : f0 (nm id i a) := by
 have lit : ∀ l : aJ, (l.all fun c => decide (c ≠ 10) && decide (c ≠ 32)) = true → f0 l := fun l h =>
  ⟨fun hm => by have := List.all_eq_true.1 h _ hm; simp at this, fun hm => by have := List.all_eq_true.1 h _ hm; simp at this⟩
 unfold nm;split
 ·exact (lit jI (by decide)).app hid
 ·split
  ·rename_i h2;exact (((lit boxP (by decide)).app (rW (hb h2))).app (lit jK (by decide))).app hid
  ·exact (((lit outP (by decide)).app hid).app (lit [46] (by decide))).app ⟨pU i, mJ i⟩
theorem xH {id text : aJ} {acts : List Action} {xs : List File} (ht : text.length ≤ 1048576) (ha : ∀ a ∈ acts, a.2.length ≤ 1048576) (h : cW id acts text = .ok xs) : eD xs ∧ xs.length ≤ 6 ∧ ∀ x ∈ xs, x.1 ≠ aS := by
 obtain ⟨l1, l2, l3⟩ := oE ht ha h;unfold cW at h;split at h
 ·cases h
 ·rename_i hb;split at h
  ·cases h
  ·have hid : f0 id := by
    unfold eU at hb;simp only [Bool.or_eq_true, not_or, Bool.not_eq_true', Bool.not_eq_false, decide_eq_true_eq] at hb;exact rW (by simpa using hb.2)
   have hm := nB h;refine ⟨⟨fun x hx => ?_, by omega, by omega⟩, by omega, fun x hx => ?_⟩
   ·obtain ⟨j, a, h1, h2⟩ := hm x hx;rw [h1]; exact aEJ hid h2
   ·obtain ⟨j, a, h1, _⟩ := hm x hx;rw [h1]; exact uK
theorem t6 {id text : aJ} {i : Nat} {a : Action} {e : Int} (h : bO id text i a = .error e) : e ≠ 0 := by
 unfold bO at h;split at h
 ·cases h
 ·split at h
  ·split at h
   ·cases h
   ·cases h; decide
  ·split at h
   ·cases h
   ·split at h
    ·cases h
    ·cases h; decide
theorem oD {id text : aJ} : ∀ {acts : List Action} {i : Nat} {e : Int}, eI id text i acts = .error e → e ≠ 0
 | [], i, e, h => by cases h
 | a :: r, i, e, h => by
  unfold eI at h;cases hf : bO id text i a with
  | error e' => rw [hf] at h; cases h; exact t6 hf
  | ok f =>
   rw [hf] at h;simp only at h;cases hr : eI id text (i + 1) r with
   | error e' => rw [hr] at h; cases h; exact oD hr
   | ok fs' => rw [hr] at h; cases h
theorem t8 {id text : aJ} {acts : List Action} {e : Int} (h : cW id acts text = .error e) : e ≠ 0 := by
 unfold cW at h;split at h
 ·cases h; decide
 ·split at h
  ·cases h; decide
  ·exact oD h
end Go.Box
end
section
set_option maxRecDepth 100000
namespace Go.Proofs
open Go Go.SL Go.Syn Go.Mach Go.Box Go.ChangeShapes Go.WideShapes Go.RowKit
namespace TzRow
theorem aE2 {n : Int} (h : (Lit.int .i64 n).wf = true) : -9223372036854775808 ≤ n ∧ n ≤ 9223372036854775807 := by
 have h1 : IntKind.i64.min = -9223372036854775808 := rfl;have h2 : IntKind.i64.max = 9223372036854775807 := rfl;simp only [Lit.wf, Bool.and_eq_true, decide_eq_true_eq] at h;omega
theorem sI {α : Type} {k : El α} {K : Hl} {v : Value} {xs : List α} (h : Ksl k K v xs) : v.oneCell' = true := by
 rcases h with ⟨a, c, rfl, _⟩ | ⟨b, off, cap, cells, fz, rfl, _⟩ <;> rfl
section
variable {H : Type} {enc : TypeId × Value → H} {W : World} {base : Nat} {sp : Nat → Bool} {held : Bool}
theorem aB8 {n : Nat} {v : Value} {x : DataW H × List MemPlace} (h : DataW.trod enc Tryz.prog W base sp held n 55 [v] = some x) (hB : ∀ k ∈ x.1.weights Tryz.prog 55, k ≤ reachBytes) : ∃ xs : List Int, Ksl (nE 3) (hp W) v xs ∧ xs.length ≤ 140737488355328 := by
 have b3 : Tryz.prog.bytesOf 3 = 8 := by kernel_rfl
 obtain ⟨xs, h1, _, h3⟩ := uG (k := nE 3) (G := fun _ => True) Tryz.underlying55 aY (by decide) (fun n cs y hy _ => by
  obtain ⟨i, e, _⟩ := iL Tryz.underlying3 hy;exact ⟨i, e, trivial⟩) h
 refine ⟨xs, h1, ?_⟩
 have hr : reachBytes = 140737488351232 := rfl;rcases h3 with rfl | ⟨k, hk, hk2⟩
 ·simp
 ·have e3 : (nE 3).e = 3 := rfl;rw [e3, b3] at hk2;have := hB k hk;omega
theorem aB7 {n : Nat} {cs : List Value} {x : DataW H × List MemPlace} (h : DataW.trod enc Tryz.prog W base sp held n 34 cs = some x) : ∃ a : Action, cs = dG.enc a ∧ a.2.length ∈ x.1.weights Tryz.prog 34 := by
 obtain ⟨m, hl, hf⟩ := nH Tryz.underlying34 h;have c34 : Tryz.prog.cellsOf 34 = 2 := by kernel_rfl
 have c9 : Tryz.prog.cellsOf 9 = 1 := by kernel_rfl
 have c3 : Tryz.prog.cellsOf 3 = 1 := by kernel_rfl
 rw [c34] at hl
 match cs, hl, hf with
 | [c0, c1], _, hf =>
  obtain ⟨y0, h0, w0⟩ := hf 0 _ rfl;obtain ⟨y1, h1, w1⟩ := hf 1 _ rfl;dsimp only at h0 h1 w0 w1;rw [c3] at h0;rw [c9] at h1;obtain ⟨i, k0, _⟩ := iL Tryz.underlying3 h0;obtain ⟨l1, k1, k2⟩ := uE h1;simp at k0 k1;subst k0 k1;exact ⟨(i, l1), rfl, w1 _ k2⟩
theorem zT {n : Nat} {v : Value} {x : DataW H × List MemPlace} (h : DataW.trod enc Tryz.prog W base sp held n 29 [v] = some x) (hB : ∀ k ∈ x.1.weights Tryz.prog 29, k ≤ reachBytes) : ∃ xs : List Action, Ksl dG (hp W) v xs ∧ xs.length ≤ 140737488355328 ∧ ∀ a ∈ xs, a.2.length ≤ 140737488355328 := by
 have b34 : Tryz.prog.bytesOf 34 = 24 := by kernel_rfl
 have hr : reachBytes = 140737488351232 := rfl;obtain ⟨xs, h1, h2, h3⟩ := uG (k := dG) (G := fun a => a.2.length ≤ 140737488355328) Tryz.underlying29 aY (by decide) (fun n cs y hy hw => by
  obtain ⟨a, ha, hb⟩ := aB7 hy;exact ⟨a, ha, by have := hB _ (hw _ hb); omega⟩) h
 refine ⟨xs, h1, ?_, h2⟩
 rcases h3 with rfl | ⟨k, hk, hk2⟩
 ·simp
 ·have e34 : dG.e = 34 := rfl;rw [e34, b34] at hk2;have := hB k hk;omega
theorem aB9 {n : Nat} {cs : List Value} {x : DataW H × List MemPlace} (h : DataW.trod enc Tryz.prog W base sp held n 73 cs = some x) (hB : ∀ k ∈ x.1.weights Tryz.prog 73, k ≤ reachBytes) : ∃ s : StepV, cs = cM.enc s ∧ StepIs (hp W) s ∧ StepSz s := by
 obtain ⟨m, hl, hf⟩ := nH Tryz.underlying73 h;have c73 : Tryz.prog.cellsOf 73 = 9 := by kernel_rfl
 have c9 : Tryz.prog.cellsOf 9 = 1 := by kernel_rfl
 have c3 : Tryz.prog.cellsOf 3 = 1 := by kernel_rfl
 have c4 : Tryz.prog.cellsOf 4 = 1 := by kernel_rfl
 have c29 : Tryz.prog.cellsOf 29 = 1 := by kernel_rfl
 have c55 : Tryz.prog.cellsOf 55 = 1 := by kernel_rfl
 have hr : reachBytes = 140737488351232 := rfl;rw [c73] at hl
 match cs, hl, hf with
 | [v0, v1, v2, v3, v4, v5, v6, v7, v8], _, hf =>
  obtain ⟨y0, h0, w0⟩ := hf 0 _ rfl;obtain ⟨y1, h1, w1⟩ := hf 1 _ rfl;obtain ⟨y2, h2, w2⟩ := hf 2 _ rfl;obtain ⟨y3, h3, w3⟩ := hf 3 _ rfl;obtain ⟨y4, h4, w4⟩ := hf 4 _ rfl;obtain ⟨y5, h5, w5⟩ := hf 5 _ rfl;obtain ⟨y6, h6, w6⟩ := hf 6 _ rfl;obtain ⟨y7, h7, w7⟩ := hf 7 _ rfl;obtain ⟨y8, h8, w8⟩ := hf 8 _ rfl;dsimp only at h0 h1 h2 h3 h4 h5 h6 h7 h8 w0 w1 w2 w7;rw [c9] at h0 h2;rw [c3] at h3 h4 h5 h6;rw [c29] at h1;rw [c55] at h7;rw [c4] at h8;obtain ⟨l0, e0, k0⟩ := uE h0;obtain ⟨l2, e2, k2⟩ := uE h2;obtain ⟨i3, e3, _⟩ := iL Tryz.underlying3 h3;obtain ⟨i4, e4, _⟩ := iL Tryz.underlying3 h4;obtain ⟨i5, e5, _⟩ := iL Tryz.underlying3 h5;obtain ⟨i6, e6, g6⟩ := iL Tryz.underlying3 h6;obtain ⟨b8, e8⟩ := yE Tryz.underlying4 h8;have h1' : DataW.trod enc Tryz.prog W base sp held m 29 [v1] = some y1 := h1;have h7' : DataW.trod enc Tryz.prog W base sp held m 55 [v7] = some y7 := h7;obtain ⟨acl, ka, la, za⟩ := zT h1' fun k hk => hB _ (w1 _ hk)
  obtain ⟨ds, kd, ld⟩ := aB8 h7' fun k hk => hB _ (w7 _ hk)
  simp at e0 e2 e3 e4 e5 e6 e8;subst e0 e2 e3 e4 e5 e6 e8;have q0 := hB _ (w0 _ k0);have q2 := hB _ (w2 _ k2);exact ⟨⟨l0, ⟨v1, sI ka⟩, l2, i3, i4, i5, i6, ⟨v7, sI kd⟩, b8, acl, ds⟩, rfl, ⟨ka, kd, aE2 g6⟩, ⟨by show l0.length ≤ _; omega, by show l2.length ≤ _; omega, la, ld, za⟩⟩
theorem in_steps {v : Value} {d : DataW H} {p : List MemPlace} (hv : Value.okWide Tryz.prog W .any base 68 v) (h : DataW.Trod enc Tryz.prog W 0 sp held 68 v d p) (hB : ∀ k ∈ d.weights Tryz.prog 68, k ≤ reachBytes) :
  ∃ vs : List StepV, Ksl cM (hp W) v vs ∧ (∀ s ∈ vs, StepIs (hp W) s) ∧ (∀ s ∈ vs, StepSz s) ∧ vs.length ≤ 140737488355328 := by
 obtain ⟨a, len, cap, rfl⟩ := okWide_slice Tryz.underlying68 hv;obtain ⟨n, hf⟩ := h;have hf' : DataW.trod enc Tryz.prog W 0 sp held n 68 [.slice a len cap] = some (d, p) := hf;have b73 : 1 ≤ Tryz.prog.bytesOf 73 := of_decide_eq_true aY;obtain ⟨vs, h1, h2, h3⟩ := uG (k := cM) (G := fun s => StepIs (hp W) s ∧ StepSz s) Tryz.underlying68 aY (by decide) (fun n cs y hy hw => aB9 hy fun k hk => hB _ (hw _ hk)) hf';refine ⟨vs, h1, fun s hs => (h2 s hs).1, fun s hs => (h2 s hs).2, ?_⟩
 have hr : reachBytes = 140737488351232 := rfl;rcases h3 with rfl | ⟨k, hk, hk2⟩
 ·simp
 ·have := hB k hk;have e73 : cM.e = 73 := rfl;rw [e73] at hk2;have h4 : vs.length * 1 ≤ vs.length * Tryz.prog.bytesOf 73 := Nat.mul_le_mul_left _ b73;omega
end
end TzRow
end Go.Proofs
end
section
namespace Go.Proofs
open Go Go.SL Go.Syn Go.Box
theorem o9 (n : Int) : -9223372036854775808 ≤ IntKind.i64.wrap n ∧ IntKind.i64.wrap n ≤ 9223372036854775807 := by
 unfold IntKind.wrap;simp [IntKind.bits, IntKind.signed];split <;> omega
theorem oP (c m : Int) (n : Nat) (K : Hl) (hm : m = n) (h1 : -9223372036854775808 ≤ c) (h2 : c ≤ 9223372036854775807) (hn : 0 < n) : Sp Tryz.prog 80 [i64 c, i64 m] K [] (Ret fun v K' L' => ∃ r : Nat, v = i64 r ∧ r < n ∧ K' = K ∧ L' = []) := by
 subst hm;refine bE Tryz.func80 rfl Tryz.ntmps80 rfl rfl fun F w => ?_
 refine aG (aC ?_);refine aA (aD rfl) rfl ?_;refine aF (aE ?_);refine mU (fun (d : Int) => 0 ≤ d) (fun d => [(0, i64 d), (1, i64 n)]) (fun _ => K) (fun _ => []) ?_ ?_
 ·
  refine aG (aC ?_);refine aA (aB rfl) rfl ?_;refine aA (cZ rfl rfl) rfl ?_;refine aF (aE ?_);refine bJ 6 rfl (fun h6 => ?_) (fun h6 => ?_)
  ·
   refine aC ?_;refine aA (aB rfl) rfl ?_;refine aA (bY rfl rfl aI aI) rfl ?_;refine aA (aD2 rfl aI aI) rfl ?_;refine aA (aD rfl) rfl ?_;refine aF ?_
   first | exact cG (-(c + 1)) aI (.cons 0 rfl (.cons 1 rfl .nil)) rfl (fun _ h => h) | exact cG c aI (.cons 0 rfl (.cons 1 rfl .nil)) rfl (fun _ h => h)
  ·
   refine aX ?_
   first | exact cG (-(c + 1)) aI (.cons 0 rfl (.cons 1 rfl .nil)) rfl (fun _ h => h) | exact cG c aI (.cons 0 rfl (.cons 1 rfl .nil)) rfl (fun _ h => h)
 ·
  intro d hd;refine aG (aC ?_);refine aA (aB rfl) rfl ?_;refine aA (aB rfl) rfl ?_;refine aA (zM rfl rfl aI) rfl ?_;refine aA (aD rfl) rfl ?_;refine aF (aE ?_);refine a8 ?_;refine bA rfl rfl (Hl.le_refl _) ?_;exact ⟨_, rfl, _, by rw [yD hd], Nat.mod_lt _ hn, rfl, rfl⟩
theorem n3 (b : Nat) (s : DSt) (kept part : Int) (hpl : s.pend.length ≤ 1000000) (hdl : ∀ o ∈ s.pend, o.data.length ≤ 140737488355328) (hk1 : -9223372036854775808 ≤ part) (hk2 : part ≤ 9223372036854775807) (K K0 : Hl) (le : K0.le K) : Sp Tryz.prog 47 [ptr b, i64 kept, i64 part] K [dsk K0 b s]
  (Ret fun r K' L' => r = .tuple #[] ∧ ∃ t, lF s t ∧ L' = [dsk K' b t]) := by
 refine o1 ⟨_, Tryz.func47, rfl, rfl⟩ fun L hd => ?_
 rw [List.append_nil];obtain ⟨m1, m2, es1, c1, es2, c2, pv, hm1, hm2, hop, hpv, rfl⟩ := hd;obtain ⟨dur, now, pend, l, f, dn⟩ := s;simp only at hm1 hm2 hop hpl hdl;refine bE Tryz.func47 rfl Tryz.ntmps47 rfl rfl fun F w => ?_
 refine aG (aC ?_);refine aA (aB rfl) rfl ?_;refine aA (aB rfl) rfl ?_;refine aA b0 rfl ?_;refine aA (aH (o' := 2) eB rfl rfl) rfl ?_;refine aA (aM j9 rfl aN rfl) rfl ?_;refine aA (bM (k := opEl) (xs := pend) rfl Tryz.underlying108 rfl aN) rfl ?_;refine aA (bY rfl rfl aI aI) rfl ?_;refine bH rfl rfl (oP part _ (pend.length + 1) _ aI hk1 hk2 aI) .nil rfl ?_;rintro _ K _ ⟨r, rfl, hr, rfl, rfl⟩ -;refine aA (aD rfl) rfl ?_;refine aF (aE ?_);refine aG (aG ?_);refine aC ?_;refine aA (aB rfl) rfl ?_;refine aA b0 rfl ?_;refine aA (aH (o' := 2) eB rfl rfl) rfl ?_;refine aA (aM j9 rfl aN rfl) rfl ?_;refine aA (bM (k := opEl) (xs := pend) rfl Tryz.underlying108 rfl aN) rfl ?_;refine aA (aB rfl) rfl ?_;refine aF (aE ?_);refine a7 ?_;refine wB (.cons .here (.cons .here (.cons (.there .here) .nil))) ?_;refine l6 (fun (i : Nat) (K2 : Hl) (es : List Ent) (c : Nat) => i ≤ pend.length ∧ K.le K2 ∧ ∃ g, MapOk K2 es c g ∧ CrI pend dur r i g) (fun i _ _ _ => [(0, ptr b), (1, i64 kept), (2, i64 part), (6, i64 r), (22, pv), (23, i64 pend.length), (24, i64 i)]) (fun _ K2 _ _ => K2) (fun _ _ es c => [pt b (dskO (.map (some m1)) (.map (some m2)) pv l f dn), pt m1 (mapO es c), sl false opEl pv pend]) (fun i _ _ _ => pend.length - i) 0 K es1 c1 ⟨Nat.zero_le _, Hl.le_refl _, dur, hm1.mono le, CrI.init⟩ (.cons 0 rfl (.cons 1 rfl (.cons 2 rfl (.cons 6 rfl (.cons 22 rfl (.cons 23 rfl (.cons 24 rfl .nil))))))) rfl (fun h hh => hh) ?_;intro i K2 es c ⟨hi, leL, g, hmi, hci⟩;refine aG (aC ?_);refine aA (cZ rfl rfl) rfl ?_;refine aF (aE ?_);refine aG ?_;refine bJ 25 rfl (fun h25 => ?_) (fun h25 => ?_)
 ·
  have hlt : i < pend.length := by omega
  obtain ⟨o, hx⟩ : ∃ o, pend[i]? = some o := ⟨pend[i]'hlt, List.getElem?_eq_getElem hlt⟩;have hoo := hop o (List.mem_of_getElem? hx);have hol := hdl o (List.mem_of_getElem? hx);refine aX ?_;refine aE ?_;refine kN (fun (ec : List Ent × Nat) (K3 : Hl) => K2.le K3 ∧ ∃ g3, MapOk K3 ec.1 ec.2 g3 ∧ CrI pend dur r (i + 1) g3) (fun _ _ => [(0, ptr b), (1, i64 kept), (2, i64 part), (6, i64 r), (22, pv), (23, i64 pend.length), (24, i64 i)]) (fun _ K3 => K3) (fun ec _ => [pt b (dskO (.map (some m1)) (.map (some m2)) pv l f dn), pt m1 (mapO ec.1 ec.2), sl false opEl pv pend]) ?_ ?_
  ·
   refine a7 (aG ?_);refine aC ?_;refine aA (aB rfl) rfl ?_;refine aA (bD (k := opEl) fZ rfl aN rfl rfl (by first | assumption | omega)) rfl ?_;refine aA (cI (n := 0) (k := opEl) eM rfl aN dF) rfl ?_;refine ol_s (dI qE) rfl ?_;rintro _ K _ ⟨b8, rfl, rfl, rfl⟩ -;refine aA (aD rfl) rfl ?_;refine cQ (cS eM rfl rfl rfl bI (by first | (simp [Value.oneCell']; done) | exact fun c hc => El.one _ _ c hc) (.cons (.cons (.cons (.cons .nil)))) (by intro j hj; simp)) ?_;rintro _ K _ ⟨rfl, rfl⟩ -;refine aF (aE ?_);refine aG (aG ?_);refine aC ?_;refine aA (aB rfl) rfl ?_;refine aA (aB rfl) rfl ?_;refine aA (zM rfl rfl aI) rfl ?_;refine aA (tX rfl rfl (by exact Int.tmod_nonneg _ aI)) rfl ?_;refine aA (nN rfl rfl) rfl ?_;refine aA (bW rfl rfl) rfl ?_;refine aF (aE ?_);refine bJ 34 rfl (fun h34 => ?_) (fun h34 => ?_)
   ·
    refine cK ?_;refine aP ?_;refine bB ?_
    first | (refine bF (.cons (.there (.there .here)) (.cons .here (.cons (.there .here) .nil))) ?_; exact dA (es3, c3) K3 ⟨le3, _, hm3, hci.do hx hdd⟩ (.cons 0 rfl (.cons 1 rfl (.cons 2 rfl (.cons 6 rfl (.cons 22 rfl (.cons 23 rfl (.cons 24 rfl .nil))))))) rfl (fun _ h => h)) | (refine bF (.cons (.there .here) (.cons (.there .here) (.cons (.there .here) .nil))) ?_; exact dA (es, c) K ⟨Hl.le_refl _, g, hmi, hci.lost hx⟩ (.cons 0 rfl (.cons 1 rfl (.cons 2 rfl (.cons 6 rfl (.cons 22 rfl (.cons 23 rfl (.cons 24 rfl .nil))))))) rfl (fun _ h => h)) | (refine bF (.cons (.there .here) (.cons (.there .here) (.cons (.there .here) .nil))) ?_; exact dA (es, c) K ⟨Hl.le_refl _, g, hmi, hci.none hx h70 (hmi.lacks _ hg)⟩ (.cons 0 rfl (.cons 1 rfl (.cons 2 rfl (.cons 6 rfl (.cons 22 rfl (.cons 23 rfl (.cons 24 rfl .nil))))))) rfl (fun _ h => h))
   ·
    refine aX ?_;refine aE ?_;refine mU (fun (d : aJ) => d = o.data ∨ o.kind = 1 ∧ i = r ∧ d <+: o.data) (fun _ => [(0, ptr b), (1, i64 kept), (2, i64 part), (6, i64 r), (8, ptr b8), (22, pv), (23, i64 pend.length), (24, i64 i)]) (fun _ => K) (fun d => [pt b8 (aW [i64 o.kind, str o.name, str o.to, str d] 165), pt b (dskO (.map (some m1)) (.map (some m2)) pv l f dn), pt m1 (mapO es c), sl false opEl pv pend]) ?_ ?_
    ·
     refine aG (aC ?_);refine aA (aH (o' := 0) fV rfl rfl) rfl ?_;refine aA (aM ts3 rfl aN rfl) rfl ?_;refine aA (bW rfl rfl) rfl ?_;refine aA (aB rfl) rfl ?_;refine bS 38 rfl (fun g38 => ?_) (fun g38 => ?_)
     ·
      refine aT rfl rfl ?_;refine aA (aB rfl) rfl ?_;refine aT rfl rfl ?_;refine aA (aB rfl) rfl ?_;refine aT rfl rfl ?_;refine aA (bW rfl rfl) rfl ?_;refine aA (bG rfl rfl) rfl ?_;refine aF (aE ?_);refine bJ 42 rfl (fun h42 => ?_) (fun h42 => ?_)
      ·
       refine cT (anc := [0, 1, 0, 4, 0, 16, 48, 112, 252, 511, 1023, 2047]) (ord := [0, 1, 2, 3, 4, 5, 6, 7, 8, 9, 10, 11]) [8, 11] [11] mixed (by decide +kernel) (.cons .here .nil) ?_;refine aK rfl rfl (.none rfl) rfl rfl (aH (o' := 3) kQ rfl rfl) rfl ?_;refine aK rfl rfl (.none rfl) rfl rfl (aM ts9 rfl aN rfl) rfl ?_;refine aK rfl rfl (.none rfl) rfl rfl (aB rfl) rfl ?_;refine aK rfl rfl (.none rfl) rfl rfl (aD3 rfl rfl aI) rfl ?_;refine aK rfl rfl (.none rfl) rfl rfl (aH (o' := 3) kQ rfl rfl) rfl ?_;refine aK rfl rfl (.none rfl) rfl rfl (aM ts9 rfl aN rfl) rfl ?_;refine aK rfl rfl (.none rfl) rfl rfl (bU rfl Tryz.underlying9 rfl) rfl ?_;refine aK rfl rfl (.none rfl) rfl rfl (bY rfl rfl aI aI) rfl ?_;refine qP rfl (.none rfl) rfl rfl rfl rfl (oP _ _ (o.data.length + 1) _ aI (o9 _).1 (o9 _).2 aI) .nil rfl ?_;rintro _ K _ ⟨q, rfl, hq, rfl, rfl⟩ -;refine ⟨_, (show Tks _ _ _ from (.cons .here .nil)).sat, ?_⟩
       refine aK rfl rfl (.none rfl) rfl rfl (nA Tryz.underlying9 rfl rfl rfl aI) rfl ?_;refine aK rfl rfl (.none rfl) rfl rfl (aH (o' := 3) kQ rfl rfl) rfl ?_;refine iD rfl rfl (.none rfl) rfl (bT ts9 rfl rfl dM bI (.succ (.succ (.succ .zero))) rfl) ?_;rintro _ K _ ⟨rfl, rfl⟩ -;refine cO ?_
       first | exact cG _ (.inr ⟨g38, by omega, List.take_prefix _ _⟩) (.cons 0 rfl (.cons 1 rfl (.cons 2 rfl (.cons 6 rfl (.cons 8 rfl (.cons 22 rfl (.cons 23 rfl (.cons 24 rfl .nil)))))))) rfl (fun _ h => h) | exact cG o.data (.inl rfl) (.cons 0 rfl (.cons 1 rfl (.cons 2 rfl (.cons 6 rfl (.cons 8 rfl (.cons 22 rfl (.cons 23 rfl (.cons 24 rfl .nil)))))))) rfl (fun _ h => h)
      ·
       refine aX ?_
       first | exact cG _ (.inr ⟨g38, by omega, List.take_prefix _ _⟩) (.cons 0 rfl (.cons 1 rfl (.cons 2 rfl (.cons 6 rfl (.cons 8 rfl (.cons 22 rfl (.cons 23 rfl (.cons 24 rfl .nil)))))))) rfl (fun _ h => h) | exact cG o.data (.inl rfl) (.cons 0 rfl (.cons 1 rfl (.cons 2 rfl (.cons 6 rfl (.cons 8 rfl (.cons 22 rfl (.cons 23 rfl (.cons 24 rfl .nil)))))))) rfl (fun _ h => h)
     ·
      refine aO rfl rfl rfl ?_;refine aO rfl rfl rfl ?_;refine aO rfl rfl rfl ?_;refine aA (aZ rfl rfl) rfl ?_;refine aF (aE ?_);refine bL rfl ?_;refine aX ?_
      first | exact cG _ (.inr ⟨g38, by omega, List.take_prefix _ _⟩) (.cons 0 rfl (.cons 1 rfl (.cons 2 rfl (.cons 6 rfl (.cons 8 rfl (.cons 22 rfl (.cons 23 rfl (.cons 24 rfl .nil)))))))) rfl (fun _ h => h) | exact cG o.data (.inl rfl) (.cons 0 rfl (.cons 1 rfl (.cons 2 rfl (.cons 6 rfl (.cons 8 rfl (.cons 22 rfl (.cons 23 rfl (.cons 24 rfl .nil)))))))) rfl (fun _ h => h)
    ·
     intro d hdd;cases hg : mget es o.name
     ·
      refine aG (aG ?_);refine cT (anc := [0, 1, 3, 7, 0, 16, 63, 127, 255, 255, 511, 2047]) (ord := [0, 1, 2, 3, 4, 5, 6, 7, 8, 9, 10, 11]) [] [] mixed (by decide +kernel) (dJ _) ?_;refine aK rfl rfl (.none rfl) rfl rfl (aB rfl) rfl ?_;refine aK rfl rfl (.none rfl) rfl rfl b0 rfl ?_;refine aK rfl rfl (.none rfl) rfl rfl (aH (o' := 0) fH rfl rfl) rfl ?_;refine aK rfl rfl (.none rfl) rfl rfl (aM f5 rfl aN rfl) rfl ?_;refine aK rfl rfl (.none rfl) rfl rfl (aH (o' := 1) gC rfl rfl) rfl ?_;refine aK rfl rfl (.none rfl) rfl rfl (aM ts9 rfl aN rfl) rfl ?_;refine aK rfl rfl (.none rfl) rfl rfl (gH Tryz.underlying107 Tryz.underlying9 qC rfl rfl aN hg) rfl ?_;refine aK rfl rfl (.none rfl) rfl rfl (aB rfl) rfl ?_;refine aK rfl rfl (.none rfl) rfl rfl (aQ rfl rfl) rfl ?_;refine aK rfl rfl (.none rfl) rfl rfl (aQ rfl rfl) rfl ?_;refine aK rfl rfl (.none rfl) rfl rfl (aD rfl) rfl ?_;refine aK rfl rfl (.none rfl) rfl rfl (aD rfl) rfl ?_;refine cO ?_;refine aE (aG ?_);refine aC ?_;refine aA (aB rfl) rfl ?_;refine aA (dL rfl) rfl ?_;refine aA (aB rfl) rfl ?_;refine aT rfl rfl ?_;refine aA (aH (o' := 0) fV rfl rfl) rfl ?_;refine aT rfl rfl ?_;refine aA (aM ts3 rfl aN rfl) rfl ?_;refine aT rfl rfl ?_;refine aA (iV rfl rfl) rfl ?_;refine aA (bG rfl rfl) rfl ?_;refine aF (aE ?_);refine bJ 70 rfl (fun h70 => ?_) (fun h70 => ?_)
      ·
       refine cK ?_;refine aP ?_;refine bB ?_
       first | (refine bF (.cons (.there (.there .here)) (.cons .here (.cons (.there .here) .nil))) ?_; exact dA (es3, c3) K3 ⟨le3, _, hm3, hci.do hx hdd⟩ (.cons 0 rfl (.cons 1 rfl (.cons 2 rfl (.cons 6 rfl (.cons 22 rfl (.cons 23 rfl (.cons 24 rfl .nil))))))) rfl (fun _ h => h)) | (refine bF (.cons (.there .here) (.cons (.there .here) (.cons (.there .here) .nil))) ?_; exact dA (es, c) K ⟨Hl.le_refl _, g, hmi, hci.lost hx⟩ (.cons 0 rfl (.cons 1 rfl (.cons 2 rfl (.cons 6 rfl (.cons 22 rfl (.cons 23 rfl (.cons 24 rfl .nil))))))) rfl (fun _ h => h)) | (refine bF (.cons (.there .here) (.cons (.there .here) (.cons (.there .here) .nil))) ?_; exact dA (es, c) K ⟨Hl.le_refl _, g, hmi, hci.none hx h70 (hmi.lacks _ hg)⟩ (.cons 0 rfl (.cons 1 rfl (.cons 2 rfl (.cons 6 rfl (.cons 22 rfl (.cons 23 rfl (.cons 24 rfl .nil))))))) rfl (fun _ h => h))
      ·
       refine aX ?_;refine aE ?_;refine cT (anc := [0, 1, 3, 7, 0, 31]) (ord := [0, 1, 2, 3, 4, 5]) [5] [5] mixed (by decide +kernel) (dJ _) ?_;refine aK rfl rfl (.none rfl) rfl rfl (aB rfl) rfl ?_;refine aK rfl rfl (.none rfl) rfl rfl b0 rfl ?_;refine aK rfl rfl (.none rfl) rfl rfl (aH (o' := 0) fH rfl rfl) rfl ?_;refine aK rfl rfl (.none rfl) rfl rfl (aM f5 rfl aN rfl) rfl ?_;refine aK rfl rfl (.none rfl) rfl rfl (bX eM rfl aN rfl rfl) rfl ?_;refine eZ rfl (.none rfl) rfl rfl rfl (jQ m1 es c _ { o with data := d } hoo _ hmi) (.cons (.there (.there .here)) .nil) rfl ?_;rintro _ K3 _ ⟨rfl, es3, c3, hm3, rfl⟩ le3;refine cO ?_;refine aU ?_
       first | (refine bF (.cons (.there (.there .here)) (.cons .here (.cons (.there .here) .nil))) ?_; exact dA (es3, c3) K3 ⟨le3, _, hm3, hci.do hx hdd⟩ (.cons 0 rfl (.cons 1 rfl (.cons 2 rfl (.cons 6 rfl (.cons 22 rfl (.cons 23 rfl (.cons 24 rfl .nil))))))) rfl (fun _ h => h)) | (refine bF (.cons (.there .here) (.cons (.there .here) (.cons (.there .here) .nil))) ?_; exact dA (es, c) K ⟨Hl.le_refl _, g, hmi, hci.lost hx⟩ (.cons 0 rfl (.cons 1 rfl (.cons 2 rfl (.cons 6 rfl (.cons 22 rfl (.cons 23 rfl (.cons 24 rfl .nil))))))) rfl (fun _ h => h)) | (refine bF (.cons (.there .here) (.cons (.there .here) (.cons (.there .here) .nil))) ?_; exact dA (es, c) K ⟨Hl.le_refl _, g, hmi, hci.none hx h70 (hmi.lacks _ hg)⟩ (.cons 0 rfl (.cons 1 rfl (.cons 2 rfl (.cons 6 rfl (.cons 22 rfl (.cons 23 rfl (.cons 24 rfl .nil))))))) rfl (fun _ h => h))
     ·
      refine aG (aG ?_);refine cT (anc := [0, 1, 3, 7, 0, 16, 63, 127, 255, 255, 511, 2047]) (ord := [0, 1, 2, 3, 4, 5, 6, 7, 8, 9, 10, 11]) [] [] mixed (by decide +kernel) (dJ _) ?_;refine aK rfl rfl (.none rfl) rfl rfl (aB rfl) rfl ?_;refine aK rfl rfl (.none rfl) rfl rfl b0 rfl ?_;refine aK rfl rfl (.none rfl) rfl rfl (aH (o' := 0) fH rfl rfl) rfl ?_;refine aK rfl rfl (.none rfl) rfl rfl (aM f5 rfl aN rfl) rfl ?_;refine aK rfl rfl (.none rfl) rfl rfl (aH (o' := 1) gC rfl rfl) rfl ?_;refine aK rfl rfl (.none rfl) rfl rfl (aM ts9 rfl aN rfl) rfl ?_;refine aK rfl rfl (.none rfl) rfl rfl (iW Tryz.underlying107 Tryz.underlying9 qC rfl rfl aN hg) rfl ?_;refine aK rfl rfl (.none rfl) rfl rfl (aB rfl) rfl ?_;refine aK rfl rfl (.none rfl) rfl rfl (aQ rfl rfl) rfl ?_;refine aK rfl rfl (.none rfl) rfl rfl (aQ rfl rfl) rfl ?_;refine aK rfl rfl (.none rfl) rfl rfl (aD rfl) rfl ?_;refine aK rfl rfl (.none rfl) rfl rfl (aD rfl) rfl ?_;refine cO ?_;refine aE (aG ?_);refine aC ?_;refine aA (aB rfl) rfl ?_;refine aA (dL rfl) rfl ?_;refine aA (aB rfl) rfl ?_;refine aO rfl rfl rfl ?_;refine aO rfl rfl rfl ?_;refine aO rfl rfl rfl ?_;refine aA (aZ rfl rfl) rfl ?_;refine aF (aE ?_);refine bL rfl ?_;refine aX ?_;refine aE ?_;refine cT (anc := [0, 1, 3, 7, 0, 31]) (ord := [0, 1, 2, 3, 4, 5]) [5] [5] mixed (by decide +kernel) (dJ _) ?_;refine aK rfl rfl (.none rfl) rfl rfl (aB rfl) rfl ?_;refine aK rfl rfl (.none rfl) rfl rfl b0 rfl ?_;refine aK rfl rfl (.none rfl) rfl rfl (aH (o' := 0) fH rfl rfl) rfl ?_;refine aK rfl rfl (.none rfl) rfl rfl (aM f5 rfl aN rfl) rfl ?_;refine aK rfl rfl (.none rfl) rfl rfl (bX eM rfl aN rfl rfl) rfl ?_;refine eZ rfl (.none rfl) rfl rfl rfl (jQ m1 es c _ { o with data := d } hoo _ hmi) (.cons (.there (.there .here)) .nil) rfl ?_;rintro _ K3 _ ⟨rfl, es3, c3, hm3, rfl⟩ le3;refine cO ?_;refine aU ?_
      first | (refine bF (.cons (.there (.there .here)) (.cons .here (.cons (.there .here) .nil))) ?_; exact dA (es3, c3) K3 ⟨le3, _, hm3, hci.do hx hdd⟩ (.cons 0 rfl (.cons 1 rfl (.cons 2 rfl (.cons 6 rfl (.cons 22 rfl (.cons 23 rfl (.cons 24 rfl .nil))))))) rfl (fun _ h => h)) | (refine bF (.cons (.there .here) (.cons (.there .here) (.cons (.there .here) .nil))) ?_; exact dA (es, c) K ⟨Hl.le_refl _, g, hmi, hci.lost hx⟩ (.cons 0 rfl (.cons 1 rfl (.cons 2 rfl (.cons 6 rfl (.cons 22 rfl (.cons 23 rfl (.cons 24 rfl .nil))))))) rfl (fun _ h => h)) | (refine bF (.cons (.there .here) (.cons (.there .here) (.cons (.there .here) .nil))) ?_; exact dA (es, c) K ⟨Hl.le_refl _, g, hmi, hci.none hx h70 (hmi.lacks _ hg)⟩ (.cons 0 rfl (.cons 1 rfl (.cons 2 rfl (.cons 6 rfl (.cons 22 rfl (.cons 23 rfl (.cons 24 rfl .nil))))))) rfl (fun _ h => h))
  ·
   intro ec K3 ⟨le3, g3, hm3, hc3⟩;refine aC ?_;refine aA (bY rfl rfl aI aI) rfl ?_;refine aA (aB rfl) rfl ?_;refine aF ?_;exact d8 (i + 1) K3 ec.1 ec.2 ⟨hlt, Hl.le_trans leL le3, g3, hm3, hc3⟩ aI (.cons 0 rfl (.cons 1 rfl (.cons 2 rfl (.cons 6 rfl (.cons 22 rfl (.cons 23 rfl (.cons 24 rfl .nil))))))) rfl (fun _ h => h)
 ·
  have hie : i = pend.length := by omega
  subst hie;refine cK ?_;refine aP ?_;refine aP ?_;refine bB ?_;refine aE (aG ?_);refine aC ?_;refine aA (aB rfl) rfl ?_;refine aA (aB rfl) rfl ?_;refine aA b0 rfl ?_;refine aA (aH (o' := 3) fJ rfl rfl) rfl ?_;refine cQ (bT ts3 rfl rfl dM bI (.succ (.succ (.succ .zero))) rfl) ?_;rintro _ K _ ⟨rfl, rfl⟩ -;refine aA b0 rfl ?_;refine aA (aH (o' := 4) eS rfl rfl) rfl ?_;refine cQ (bT ts3 rfl rfl dM bI (.succ (.succ (.succ (.succ .zero)))) rfl) ?_;rintro _ K _ ⟨rfl, rfl⟩ -;refine aF (aE ?_);refine aC ?_;refine aA (aB rfl) rfl ?_;refine bH rfl rfl (aA8 b m1 es c _ _ (-1) (-1) dn _ _ hmi) (.cons .here (.cons .here .nil)) rfl ?_;rintro _ K5 _ ⟨rfl, rfl, rfl⟩ -;refine aF ?_;refine bF (.cons .here .nil) ?_;refine k4 rfl leL ?_;exact ⟨_, rfl, rfl, ⟨g, g, [], -1, -1, false⟩, ⟨hci.done, rfl, rfl, rfl, rfl, rfl⟩, rfl⟩
end Go.Proofs
end
section
namespace Go.Proofs
open Go Go.SL Go.Syn Go.Box Go.Mach
def kV (K : Hl) (bx b : Nat) : Prop := ∃ T fz, K bx = some (aW [ptr b] T fz)
theorem kV.mono {K K' : Hl} {bx b : Nat} (h : kV K bx b) (le : K.le K') : kV K' bx b := let ⟨T, fz, h⟩ := h; ⟨T, fz, le _ _ h⟩
theorem wD (e : Er) (K : Hl) (hE : ErrT K) : Sp Tryz.prog 37 [erV e] K [] (Ret fun v K' L' => v = .tuple #[i64 (errn e), i64 (-1)] ∧ K' = K ∧ L' = []) := by
 cases e with
 | none => exact (aA0 K).mono fun e K' L' ⟨h1, h2, h3⟩ => ⟨_, h1, rfl, h2, h3⟩
 | some n => exact aEY n K hE
theorem xO (v : Value) (xs : List cJ) (K : Hl) (hv : Ksl aV K v xs) (hn : xs.length ≤ 1000000) : Sp Tryz.prog 26 [v] K []
  (Ret fun r K' L' => ∃ bx b, r = ptr bx ∧ kV K' bx b ∧ L' = [dsk K' b ⟨eC xs (fun _ => none), eC xs (fun _ => none), [], -1, -1, false⟩]) := by
 refine bE Tryz.func26 rfl Tryz.ntmps26 rfl rfl fun F w => ?_
 refine aG (aC ?_);refine aA (aD rfl) rfl ?_;refine aF (aE ?_);refine aG (aC ?_);refine aA (aB rfl) rfl ?_;refine bH rfl rfl (aEI v xs _ hv hn) .nil rfl ?_;rintro _ K1 _ ⟨b, rfl, rfl⟩ le1;refine aA (eN aFT aEW (.cons rfl rfl rfl (.cons .nil) .nil)) rfl ?_;refine ol_s (gO rfl rfl) rfl ?_;rintro _ K _ ⟨b6, rfl, rfl, rfl⟩ -;refine aA (aD rfl) rfl ?_;refine aF (aE ?_);refine a8 ?_;refine zB fun K2 le2 hb => ?_
 refine eY (dT (d9 le2)) ?_;refine bA rfl rfl (Hl.le_trans le1 le2) ?_;exact ⟨_, rfl, _, b, rfl, ⟨_, _, hb⟩, rfl⟩
theorem kE (bx b : Nat) (s : DSt) (ns : List aJ) (hdom : lG s.dur ns) (hns : ns.length ≤ 1000000) (K K0 : Hl) (le : K0.le K) (hx : kV K bx b) : Sp Tryz.prog 29 [ptr bx] K [dsk K0 b s]
  (Ret fun r K' L' => K' = K ∧ ∃ ys, cX s.dur ys ∧ L' = [sl false aV r ys, dsk K' b s]) := by
 obtain ⟨T, fz, hk⟩ := hx;refine bE Tryz.func29 rfl Tryz.ntmps29 rfl rfl fun F w => ?_
 refine aG (aC ?_);refine aA (aD rfl) rfl ?_;refine aF (aE ?_);refine aG (aC ?_);refine aA (aB rfl) rfl ?_;refine aA b0 rfl ?_;refine aA (aH (o' := 0) c7 rfl rfl) rfl ?_;refine aA (aM f4 rfl aN rfl) rfl ?_;refine bH rfl rfl (zP b s ns hdom hns _ _ le) (.cons .here .nil) rfl ?_;rintro _ K _ ⟨rfl, ys, hys, rfl⟩ -;refine aA (aD rfl) rfl ?_;refine aF (aE ?_);refine a8 ?_;refine bA rfl rfl (Hl.le_refl _) ?_;exact ⟨_, rfl, rfl, ys, hys, rfl⟩
end Go.Proofs
end
section
namespace Go.SL
section
variable {E : Env} {fr : Fr} {K : Hl} {L L' : List Asn} {dst : Option Tmp} {ty : TypeId} {pos : String} {aft : Array Edge} {g : Option (Nat × Bool)} {x y : Operand} {t : TypeId} {α : Type} {k : El α} {v : Value} {xs : List α}
theorem uP {zf : Bool} {j o : Nat} {x0 y0 : α} {c : Value} (ht : d7 E.P t = true) (hx : fr.ev x = some (fD v (j * k.sz + o))) (hy : fr.ev y = some c) (hx0 : xs[j]? = some x0) (ho : o < k.sz) (he : (k.enc x0).set o c = k.enc y0) (h1 : c.oneCell' = true)
  (hF : Fnd (sl zf k v xs) (sl zf k v (xs.set j y0)) L L') : EfS E fr K L ⟨dst, .store t x y, ty, pos, aft, g⟩ (fun _ K' L'' => K' = K ∧ L'' = L') := by
 intro a w f q;have hj : j < xs.length := by
  rcases Nat.lt_or_ge j xs.length with h | h
  ·exact h
  ·simp [List.getElem?_eq_none h] at hx0
 obtain ⟨M, m1, m2⟩ := hF.split;rcases (q.imp m1).slCases with ⟨rfl, rfl, _⟩ | ⟨b, cap, junk, fz, rfl, hz, hcap, hjk, hf, q0⟩
 ·simp at hj
 ·have hx' : fr.ev x = some (ptr b (j * k.sz + o)) := by rw [hx]; simp [fD, dP]
  have hle : j * k.sz + k.sz ≤ xs.length * k.sz := by rw [← Nat.succ_mul]; exact Nat.mul_le_mul_right _ hj
  have hle2 : xs.length * k.sz ≤ cap * k.sz := Nat.mul_le_mul_right _ hcap;obtain ⟨u, w', K', L'', hr, ⟨rfl, rfl⟩, le, q1⟩ := bT (K := K) (dst := dst) (ty := ty) (pos := pos) (aft := aft) (g := g) (l := k.cs xs ++ junk) (u := k.e) (fz := fz) ht hx' hy h1 (.here (L := M)) (mP (by rw [List.length_append, k.cs_length]; omega)) (hf.at aI) a w f q0;refine ⟨u, w', _, _, hr, ⟨rfl, rfl⟩, le, q1.imp fun h hh => m2 h ?_⟩
  obtain ⟨aa, l, ha, hl, hd, he'⟩ := hh;refine ⟨aa, l, ?_, hl, hd, he'⟩
  rw [cs_set k ho he hx0] at ha;refine .inr ⟨b, cap, junk, fz, by rw [List.length_set], ?_, by rw [List.length_set]; exact hcap, by rw [List.length_set]; exact hjk, hf, ha⟩
  intro h1 h2;exact hz h1 (by have := congrArg List.length h2; simp at this; exact List.length_eq_zero_iff.1 (by simpa using this))
end
end Go.SL
end
section
namespace Go.Proofs
open Go Go.SL Go.Syn Go.Box Go.Mach
theorem uQ (id text : aJ) (z : Bool) (v : Value) (acts : List Action) (K : Hl) (hg : Glob K) (hid : id.length ≤ 140737488355328) (ht : text.length ≤ 1048576) (ha : ∀ a ∈ acts, a.2.length ≤ 1048576) (hal : acts.length ≤ 140737488355328) :
  Sp Tryz.prog 78 [str id, v, str text] K [sl z dG v acts] (fun e _ L' => ∃ L'', jN (cW id acts text) e Hl.emp L'' ∧ L' = [sl z dG v acts] ++ L'') :=
 aCX (L1 := [sl z dG v acts]) (L := []) (R := fun e L' => jN (cW id acts text) e Hl.emp L') ⟨_, Tryz.func78, rfl, rfl⟩ fun h1 hs hd =>
  (xZ id text v acts (K.join h1) (hg.mono Hl.le_join_l) ((aCI .here hs).mono (Hl.le_join_r hd)) hid ht ha hal).mono fun e K' L' h => h
theorem aAA (b : Nat) (id text : aJ) (z : Bool) (v : Value) (acts : List Action) (s : DSt) (K K0 : Hl) (le : K0.le K) (hg : Glob K) (hdb : Deb K) (hid : id.length ≤ 140737488355328) (ht : text.length ≤ 1048576) (ha : ∀ a ∈ acts, a.2.length ≤ 1048576) (hal : acts.length ≤ 140737488355328) (hp : s.pend.length ≤ 600000) :
  Sp Tryz.prog 46 [dV b, str id, v, str text] K [dsk K0 b s, sl z dG v acts] (Ret fun r K' L' => r = erV (eA id acts text s).1 ∧ L' = [dsk K' b (eA id acts text s).2, sl z dG v acts]) := by
 have hsf := uQ id text z v acts K hg hid ht ha hal;refine bE Tryz.func46 rfl Tryz.ntmps46 rfl rfl fun F w => ?_
 cases hf : cW id acts text with
 | error e =>
  have he : eA id acts text s = (some e, s) := by unfold eA; rw [hf]
  rw [he];rw [hf] at hsf;have hsf2 := hsf.mono (R' := Ret fun v' K' L' => v' = .tuple #[.slice none 0 0, errV e] ∧ L' = [sl z dG v acts]) (by rintro e' K' L' ⟨L'', ⟨v', rfl, rfl, rfl⟩, rfl⟩; exact ⟨_, rfl, rfl, rfl⟩);refine aG (aC ?_);refine aA (aD rfl) rfl ?_;refine aF (aE ?_);refine aG (aC ?_);refine aA (aB rfl) rfl ?_;refine aA (aB rfl) rfl ?_;refine aA (aB rfl) rfl ?_;refine bH rfl rfl hsf2 (.cons (.there .here) .nil) rfl ?_;rintro _ K1 _ ⟨rfl, rfl⟩ le1;refine aA (aB rfl) rfl ?_;refine aA (aQ rfl rfl) rfl ?_;refine aA (aQ rfl rfl) rfl ?_;refine aA (aD rfl) rfl ?_;refine aA (aD rfl) rfl ?_;refine aF (aE ?_);refine aG (aG ?_);refine aC ?_;refine aA (aB rfl) rfl ?_;refine aA (fR Tryz.underlying79 rfl rfl) rfl ?_;refine aF (aE ?_);refine dH rfl ?_;refine aG (aC ?_);refine aA (aB rfl) rfl ?_;refine aA (aD rfl) rfl ?_;refine aF (aE ?_);refine a8 ?_;refine aR ?_;refine eY (fun _ => eQ) ?_;refine eY (dT (d9 (Hl.le_trans le le1))) ?_;refine bA rfl rfl le1 ?_;exact ⟨_, rfl, rfl, rfl⟩
 | ok xs =>
  have he : eA id acts text s = dN xs s := by unfold eA; rw [hf]
  obtain ⟨hl1, hl2, hl3⟩ := oE ht ha hf;rw [he];rw [hf] at hsf;have hsf2 := hsf.mono (R' := Ret fun v' K' L' => ∃ u, v' = .tuple #[u, .nilIface] ∧ L' = [sl z dG v acts, sl false aV u xs]) (by rintro e' K' L' ⟨L'', ⟨v', rfl, u, rfl, rfl⟩, rfl⟩; exact ⟨_, rfl, _, rfl, rfl⟩);refine aG (aC ?_);refine aA (aD rfl) rfl ?_;refine aF (aE ?_);refine aG (aC ?_);refine aA (aB rfl) rfl ?_;refine aA (aB rfl) rfl ?_;refine aA (aB rfl) rfl ?_;refine bH rfl rfl hsf2 (.cons (.there .here) .nil) rfl ?_;rintro _ K1 _ ⟨u, rfl, rfl⟩ le1;refine aA (aB rfl) rfl ?_;refine aA (aQ rfl rfl) rfl ?_;refine aA (aQ rfl rfl) rfl ?_;refine aA (aD rfl) rfl ?_;refine aA (aD rfl) rfl ?_;refine aF (aE ?_);refine aG (aG ?_);refine aC ?_;refine aA (aB rfl) rfl ?_;refine aA (eP Tryz.underlying79 rfl) rfl ?_;refine aF (aE ?_);refine bL rfl ?_;refine aX ?_;refine aE (aG ?_);refine fQ (fun _ => eQ) ?_;refine dU fun K2 le2 hu => ?_
  refine aC ?_;refine aA (aB rfl) rfl ?_;refine aA (aB rfl) rfl ?_;refine bH rfl rfl (tR b u xs s _ _ (Hl.le_trans le (Hl.le_trans le1 le2)) hu ((hg.mono le1).mono le2) ((hdb.mono le1).mono le2) aI aI hp) (.cons (.there .here) .nil) rfl ?_;rintro _ K3 _ ⟨rfl, rfl⟩ le3;refine aA (aD rfl) rfl ?_;refine aF (aE ?_);refine a8 ?_;refine bA rfl rfl (Hl.le_trans le1 (Hl.le_trans le2 le3)) ?_;exact ⟨_, rfl, rfl, rfl⟩
theorem nM {K : Hl} {b m1 m2 : Nat} {es1 : List Ent} {c1 : Nat} {es2 : List Ent} {c2 : Nat} {pv : Value} {s : DSt} {M : List Asn} {l f : Int} (hm1 : MapOk K es1 c1 s.dur) (hm2 : MapOk K es2 c2 s.now) (hop : ∀ o ∈ s.pend, OpOk o) (hpv : pv.oneCell' = true) :
  ∀ h, Sat ([pt b (dskO (.map (some m1)) (.map (some m2)) pv l f s.down), pt m1 (mapO es1 c1), pt m2 (mapO es2 c2), sl false opEl pv s.pend] ++ M) h → Sat (dsk K b (s.set l f) :: M) h :=
 fX (s := s.set l f) ⟨m1, m2, es1, c1, es2, c2, pv, hm1, hm2, hop, hpv, rfl⟩
abbrev aFL : aJ := [109, 105, 110, 101]
theorem u9 (bx b : Nat) (id text : aJ) (v : Value) (acts : List Action) (l f kept part : Int) (s : DSt) (K K0 : Hl) (le : K0.le K) (hx : kV K bx b) (hg : Glob K) (hdb : Deb K) (hE : ErrT K) (hv : Ksl dG K v acts) (hid : id.length ≤ 140737488355328) (ht : text.length ≤ 1048576) (ha : ∀ a ∈ acts, a.2.length ≤ 1048576) (hal : acts.length ≤ 1048576) (hp : s.pend.length ≤ 600000)
  (hk1 : -9223372036854775808 ≤ part) (hk2 : part ≤ 9223372036854775807) (hcr : (eA id acts text (s.set l f)).2.down = true → (eA id acts text (s.set l f)).2.pend.length ≤ 1000000 ∧ ∀ o ∈ (eA id acts text (s.set l f)).2.pend, o.data.length ≤ 140737488355328) :
  Sp Tryz.prog 27 [ptr bx, str id, v, str text, i64 l, i64 f, i64 kept, i64 part] K [dsk K0 b s] (Ret fun r K' L' => r = i64 (errn (eA id acts text (s.set l f)).1) ∧ ∃ t, eX (eA id acts text (s.set l f)).2 t ∧ L' = [dsk K' b t]) := by
 obtain ⟨T, fz, hk⟩ := hx
 generalize hmd : eA id acts text (s.set l f) = md at hcr ⊢
 refine bE Tryz.func27 rfl Tryz.ntmps27 rfl rfl fun F w => ?_
 refine aG (aC ?_);refine aA (aD rfl) rfl ?_;refine aF (aE ?_);refine aG ?_;refine tB fun L2 hd2 => ?_
 obtain ⟨m1, m2, es1, c1, es2, c2, pv, hm1, hm2, hop, hpv, rfl⟩ := hd2;refine cT (anc := [0, 1, 3, 7, 0, 16, 48, 112, 0, 0, 511, 1535, 3583, 8191, 16383, 32767]) (ord := [0, 1, 2, 3, 4, 5, 6, 7, 8, 9, 10, 11, 12, 13, 14, 15]) [12, 15] [15] mixed (by decide +kernel) .nil ?_;refine aK rfl rfl (.none rfl) rfl rfl (aB rfl) rfl ?_;refine aK rfl rfl (.none rfl) rfl rfl b0 rfl ?_;refine aK rfl rfl (.none rfl) rfl rfl (aH (o' := 0) c7 rfl rfl) rfl ?_;refine aK rfl rfl (.none rfl) rfl rfl (aM f4 rfl aN rfl) rfl ?_;refine aK rfl rfl (.none rfl) rfl rfl (aB rfl) rfl ?_;refine aK rfl rfl (.none rfl) rfl rfl b0 rfl ?_;refine aK rfl rfl (.none rfl) rfl rfl (aH (o' := 0) c7 rfl rfl) rfl ?_;refine aK rfl rfl (.none rfl) rfl rfl (aM f4 rfl aN rfl) rfl ?_;refine aK rfl rfl (.none rfl) rfl rfl (aB rfl) rfl ?_;refine aK rfl rfl (.none rfl) rfl rfl (aB rfl) rfl ?_;refine aK rfl rfl (.none rfl) rfl rfl b0 rfl ?_;refine aK rfl rfl (.none rfl) rfl rfl (aH (o' := 3) fJ rfl rfl) rfl ?_;refine zE rfl rfl (.none rfl) rfl rfl (bT ts3 rfl rfl dM bI (.succ (.succ (.succ .zero))) rfl) ?_;rintro _ K _ ⟨rfl, rfl⟩ -;refine ⟨_, (show Tks _ _ _ from .nil).sat, ?_⟩
 refine aK rfl rfl (.none rfl) rfl rfl b0 rfl ?_;refine aK rfl rfl (.none rfl) rfl rfl (aH (o' := 4) eS rfl rfl) rfl ?_;refine iD rfl rfl (.none rfl) rfl (bT ts3 rfl rfl dM bI (.succ (.succ (.succ (.succ .zero)))) rfl) ?_;rintro _ K _ ⟨rfl, rfl⟩ -;refine cO ?_;refine aE (aG ?_);refine fQ (nM (s := s) (M := []) (l := l) (f := f) hm1 hm2 hop hpv) ?_;refine aC ?_;refine aA (aB rfl) rfl ?_;refine mN (dZ dG) ?_;refine ol_s (dO (k := dG) (ys := acts) rI rfl rfl .here (fun w j => dE Tryz.underlying29 (SeesSl.at (k := dG) (.known hv) j)) (by show (0 + acts.length) * 24 ≤ 140737488355328; omega) (by show 0 + acts.length ≤ 9223372036854775807; omega)) rfl ?_;rintro v37 K _ ⟨rfl, rfl, ho37⟩ -;refine aA (aD rfl) rfl ?_;refine aF (aE ?_);refine aG (aC ?_);refine aA (aB rfl) rfl ?_;refine aA b0 rfl ?_;refine aA (aH (o' := 0) c7 rfl rfl) rfl ?_;refine aA (aM f4 rfl aN rfl) rfl ?_;refine aA (cF Tryz.underlying103 (fun _ h => by cases h) rfl) rfl ?_;refine aA (aB rfl) rfl ?_;refine aA (aB rfl) rfl ?_;refine aA (aB rfl) rfl ?_;refine bH rfl rfl (aAA b id text false v37 acts (s.set l f) _ _ le hg hdb hid ht ha aI hp) (.cons (.there .here) (.cons .here .nil)) rfl ?_;rintro _ K1 _ ⟨rfl, rfl⟩ le1;rw [hmd];refine aA (aD rfl) rfl ?_;refine aF (aE ?_);refine aG (aG ?_);refine aC ?_;refine aA (aB rfl) rfl ?_;refine aA (bM (k := dG) (xs := acts) rfl Tryz.underlying29 rfl aN) rfl ?_;refine aA (aB rfl) rfl ?_;refine aF (aE ?_);refine a7 ?_;refine l5 (fun (i : Nat) (ys : List Action) => i ≤ acts.length ∧ ys.length = acts.length) (fun i _ => [(0, ptr bx), (6, i64 kept), (7, i64 part), (17, v37), (18, erV md.1), (48, i64 acts.length), (49, i64 i)]) (fun _ _ => K1) (fun _ ys => [dsk K1 b md.2, sl false dG v37 ys]) (fun i _ => acts.length - i) 0 acts ⟨Nat.zero_le _, rfl⟩ (.cons 0 rfl (.cons 6 rfl (.cons 7 rfl (.cons 17 rfl (.cons 18 rfl (.cons 48 rfl (.cons 49 rfl .nil))))))) rfl (fun _ h => h) ?_;intro i ys ⟨hi, hyl⟩;refine aG (aC ?_);refine aA (cZ rfl rfl) rfl ?_;refine aF (aE ?_);refine aG ?_;refine bJ 50 rfl (fun h50 => ?_) (fun h50 => ?_)
 ·
  have hlt : i < ys.length := by omega
  obtain ⟨a0, ha0⟩ : ∃ a, ys[i]? = some a := ⟨ys[i]'hlt, List.getElem?_eq_getElem hlt⟩;refine aX ?_;refine aE (aG ?_);refine a7 (aG ?_);refine aC ?_;refine aA (aB rfl) rfl ?_;refine aA (aD rfl) rfl ?_;refine aF (aE ?_);refine aC ?_;refine aA (aB rfl) rfl ?_;refine aA (aB rfl) rfl ?_;refine aA (bD (k := dG) kS rfl aN rfl rfl (by first | assumption | omega)) rfl ?_;refine aA (bV (k := dG) e9 rfl aN (by first | assumption | omega)) rfl ?_;refine cQ (uP (k := dG) (y0 := (a0.1, aFL)) ts9 rfl rfl ha0 (by show 1 < 2; omega) rfl rfl bI) ?_;rintro _ K _ ⟨rfl, rfl⟩ -;refine aF (aU ?_);refine aE (aC ?_);refine aA (bY rfl rfl aI aI) rfl ?_;refine aA (aB rfl) rfl ?_;refine aF ?_;exact iC (i + 1) _ ⟨by omega, by rw [List.length_set]; exact hyl⟩ aI (.cons 0 rfl (.cons 6 rfl (.cons 7 rfl (.cons 17 rfl (.cons 18 rfl (.cons 48 rfl (.cons 49 rfl .nil))))))) rfl (fun _ h => h)
 ·
  refine cK ?_;refine aP ?_;refine aP ?_;refine bB ?_;refine aE (aG ?_);refine aC ?_;refine aA (aB rfl) rfl ?_;refine bH rfl rfl (wD md.1 _ (hE.mono le1)) .nil rfl ?_;rintro _ K1 _ ⟨rfl, rfl, rfl⟩ -;refine aA (aB rfl) rfl ?_;refine aA (aQ rfl rfl) rfl ?_;refine aA (aQ rfl rfl) rfl ?_;refine aA (aD rfl) rfl ?_;refine aA (aD rfl) rfl ?_;refine aF (aE ?_);refine kN (fun (t : DSt) (K4 : Hl) => K1.le K4 ∧ eX md.2 (t.set (-1) (-1))) (fun _ _ => [(0, ptr bx), (20, i64 (errn md.1))]) (fun _ K4 => K4) (fun t K4 => [dsk K4 b t]) ?_ ?_
  ·
   refine aG (aC ?_);refine aAE fun L2 hd2 => ?_
   have hd3 := hd2;obtain ⟨n1, n2, fs1, d1, fs2, d2, qv, hn1, hn2, hoq, hqv, rfl⟩ := hd2;have hk3 := le1 _ _ hk;refine aA (aB rfl) rfl ?_;refine aA b0 rfl ?_;refine aA (aH (o' := 0) c7 rfl rfl) rfl ?_;refine aA (aM f4 rfl aN rfl) rfl ?_;refine aA b0 rfl ?_;refine aA (aH (o' := 5) eK rfl rfl) rfl ?_;refine aA (aM ts4 rfl aN rfl) rfl ?_;refine aF (aE ?_);refine gP 68 rfl (fun h68 => ?_) (fun h68 => ?_)
   ·
    refine fQ (fX hd3) ?_;refine aC ?_;refine aA (aB rfl) rfl ?_;refine aA b0 rfl ?_;refine aA (aH (o' := 0) c7 rfl rfl) rfl ?_;refine aA (aM f4 rfl aN rfl) rfl ?_;refine aA (aB rfl) rfl ?_;refine aA (aB rfl) rfl ?_;refine bH rfl rfl (n3 b md.2 kept part (hcr h68).1 (hcr h68).2 hk1 hk2 _ _ (Hl.le_refl _)) (.cons .here .nil) rfl ?_;rintro _ K4 _ ⟨rfl, t, hct, rfl⟩ le4;refine aF ?_;refine bF (.cons .here .nil) ?_
    first | exact dA t K4 ⟨le4, by unfold eX; rw [if_pos h68]; exact ⟨t, hct, rfl⟩⟩ (.cons 0 rfl (.cons 20 rfl .nil)) rfl (fun _ h => h) | exact dA md.2 K1 ⟨Hl.le_refl _, by unfold eX; rw [if_neg (by rw [h68]; simp)]⟩ (.cons 0 rfl (.cons 20 rfl .nil)) rfl (fun _ h => h)
   ·
    refine fQ (fX hd3) ?_;refine aX ?_;refine bF (.cons .here .nil) ?_
    first | exact dA t K4 ⟨le4, by unfold eX; rw [if_pos h68]; exact ⟨t, hct, rfl⟩⟩ (.cons 0 rfl (.cons 20 rfl .nil)) rfl (fun _ h => h) | exact dA md.2 K1 ⟨Hl.le_refl _, by unfold eX; rw [if_neg (by rw [h68]; simp)]⟩ (.cons 0 rfl (.cons 20 rfl .nil)) rfl (fun _ h => h)
  ·
   intro t K4 ⟨le4, hend⟩;refine aG ?_;have hk4 := le4 _ _ (le1 _ _ hk);refine tB fun L2 hd2 => ?_
   obtain ⟨m1, m2, es1, c1, es2, c2, pv, hm1, hm2, hop, hpv, rfl⟩ := hd2;refine cT (anc := [0, 1, 3, 7, 0, 16, 48, 112, 255, 511, 1023, 2047, 4095, 8191]) (ord := [0, 1, 2, 3, 4, 5, 6, 7, 8, 9, 10, 11, 12, 13]) [10, 13] [10, 13] mixed (by decide +kernel) .nil ?_;refine aK rfl rfl (.none rfl) rfl rfl (aB rfl) rfl ?_;refine aK rfl rfl (.none rfl) rfl rfl b0 rfl ?_;refine aK rfl rfl (.none rfl) rfl rfl (aH (o' := 0) c7 rfl rfl) rfl ?_;refine aK rfl rfl (.none rfl) rfl rfl (aM f4 rfl aN rfl) rfl ?_;refine aK rfl rfl (.none rfl) rfl rfl (aB rfl) rfl ?_;refine aK rfl rfl (.none rfl) rfl rfl b0 rfl ?_;refine aK rfl rfl (.none rfl) rfl rfl (aH (o' := 0) c7 rfl rfl) rfl ?_;refine aK rfl rfl (.none rfl) rfl rfl (aM f4 rfl aN rfl) rfl ?_;refine aK rfl rfl (.none rfl) rfl rfl b0 rfl ?_;refine aK rfl rfl (.none rfl) rfl rfl (aH (o' := 3) fJ rfl rfl) rfl ?_;refine iD rfl rfl (.none rfl) rfl (bT ts3 rfl rfl dM bI (.succ (.succ (.succ .zero))) rfl) ?_;rintro _ K _ ⟨rfl, rfl⟩ -;refine aK rfl rfl (.none rfl) rfl rfl b0 rfl ?_;refine aK rfl rfl (.none rfl) rfl rfl (aH (o' := 4) eS rfl rfl) rfl ?_;refine iD rfl rfl (.none rfl) rfl (bT ts3 rfl rfl dM bI (.succ (.succ (.succ (.succ .zero)))) rfl) ?_;rintro _ K _ ⟨rfl, rfl⟩ -;refine cO ?_;refine aE (aG ?_);refine fQ (nM (s := t) (M := []) (l := -1) (f := -1) hm1 hm2 hop hpv) ?_;refine aC ?_;refine aA (aB rfl) rfl ?_;refine aA (aD rfl) rfl ?_;refine aF (aE ?_);refine a8 ?_;refine bA rfl rfl (Hl.le_trans le1 le4) ?_;exact ⟨_, rfl, rfl, _, hend, rfl⟩
end Go.Proofs
end
section
namespace Go.Proofs
open Go Go.SL Go.Syn Go.Box Go.Mach
theorem oR {n : aJ} {s : DSt} (hd : s.down = false) (hn : s.now n = none) : gX n s = ([], some 14) := by unfold gX; rw [if_neg (by rw [hd]; simp), hn]
end Go.Proofs
end
section
namespace Go.Proofs
open Go Go.SL Go.Syn Go.Box Go.Mach
theorem aBV (w : World) (a c : cJ) : (Op.equalIn 10000 66 (.agg #[str a.1, str a.2]) (.agg #[str c.1, str c.2])).run Tryz.prog w = .ok (decide (a = c)) w := by
 have hf : Tryz.prog.fieldsOf 66 = #[{ name := "Name", type := 9, offset := 0, embedded := false, tag := "", pkgPath := "", byteOffset := 0 }, { name := "Data", type := 9, offset := 1, embedded := false, tag := "", pkgPath := "", byteOffset := 16 }] := by unfold Program.fieldsOf; rw [Tryz.underlying66]
 rw [show (10000 : Nat) = 9999 + 1 from rfl, run_equalIn_agg w 9999 66 _ _ (by rw [hf]; exact Tryz.underlying66) Tryz.stoodInHeld66, hf];obtain ⟨k1, s1⟩ := a;obtain ⟨k2, s2⟩ := c;have p1 := kL (P := Tryz.prog) (w := w) (xs := #[str k1, str s1]) (i := 0) (v := str k1) ts9 rfl;have p2 := kL (P := Tryz.prog) (w := w) (xs := #[str k2, str s2]) (i := 0) (v := str k2) ts9 rfl;have p3 := kL (P := Tryz.prog) (w := w) (xs := #[str k1, str s1]) (i := 1) (v := str s1) ts9 rfl;have p4 := kL (P := Tryz.prog) (w := w) (xs := #[str k2, str s2]) (i := 1) (v := str s2) ts9 rfl;have q : ∀ s1 s2 : List UInt8, (Op.equalIn 9999 9 (str s1) (str s2)).run Tryz.prog w = .ok (decide (s1 = s2)) w := fun s1 s2 => by
  have := run_equalIn_string (P := Tryz.prog) w 9998 9 ⟨s1.toArray⟩ ⟨s2.toArray⟩ Tryz.underlying9;rw [← beq_toListBytes, vA] at this;exact this
 have q1 := q k1 k2;have q2 := q s1 s2;simp only [Op.eqFields];rw [if_pos (by decide), aL p1, aL p2, aL q1]
 by_cases h : k1 = k2
 ·subst h;rw [if_neg (by simp), if_pos (by decide), aL p3, aL p4, aL q2]
  by_cases h2 : s1 = s2
  ·subst h2; simp [pure, Sem.run]
  ·simp [h2, pure, Sem.run]
 ·rw [if_pos (by simp [h])];simp [h, pure, Sem.run]
theorem tW {n : Nat} {ds : List Deferred} {w0 : World} {F : Hl} {fr : Fr} {K : Hl} {L : List Asn} {dst : Option Tmp} {ty t' : TypeId} {pos : String} {aft : Array Edge} {g : Option (Nat × Bool)} {x y : Operand} {a c : cJ} (hx : fr.ev x = some (.agg #[str a.1, str a.2])) (hy : fr.ev y = some (.agg #[str c.1, str c.2])) :
  Ev ⟨Tryz.prog, n, ds, w0, F⟩ fr K L ⟨dst, .binOp .neq 66 x y t', ty, pos, aft, g⟩ (.bool (!decide (a = c))) :=
 dC hx hy (fun w => run_eqGuard_agg w _ _ _ _ _ _ Tryz.eqGuardType66) fun w => by
  rw [run_neq_struct, aBV]; rfl
theorem sD {f : DMap} {ys : List cJ} {ns : List aJ} (h : cX f ys) (hd : lG f ns) : ys.length ≤ ns.length := by
 have nd : (ys.map (·.1)).Nodup := by rw [List.Nodup, List.pairwise_map]; exact h.2.imp fun {a b} hab e => by rw [e] at hab; exact List.lt_irrefl _ hab
 have := lV (ns := ns) nd fun x hx => by obtain ⟨⟨n, d⟩, hm, rfl⟩ := List.mem_map.1 hx; exact hd n (by rw [(h.1 n d).1 hm]; rfl)
 simpa using this
end Go.Proofs
end
section
namespace Go.SL
def lB (v : Value) (m sz : Nat) : Value :=
 match v with
 | .slice a n c => .slice (if c = m then a else a.map (·.add (m * sz))) (n - m) (c - m)
 | v => v
def tP (v : Value) : Prop := ∀ a n c, v = .slice a n c → n ≤ c
section
variable {E : Env} {fr : Fr} {K : Hl} {L L' : List Asn} {Q : Post} {dst : Option Tmp} {ty : TypeId} {pos : String} {aft : Array Edge} {g : Option (Nat × Bool)} {x y : Operand} {t : TypeId} {α : Type} {k : El α} {v u : Value} {xs ys : List α} {c0 : Code} {x0 : Exit} {m : Nat}
theorem z7 (h : Ksl k K v xs) (hm : m ≤ xs.length) : Ksl k K (slTo v m) (xs.take m) := by
 rcases h with ⟨a, c, rfl, rfl⟩ | ⟨b, off, cap, cells, fz, rfl, h1, h2⟩
 ·have : m = 0 := by simpa using hm
  subst this;exact .inl ⟨a, c, rfl, rfl⟩
 ·refine .inr ⟨b, off, cap, cells, fz, ?_, h1, ?_⟩
  ·simp only [slTo, List.length_take, Nat.min_eq_left hm]
  ·rw [List.length_take, Nat.min_eq_left hm, ← k.cs_take, ← h2, List.take_take, Nat.min_eq_left (Nat.mul_le_mul_right _ hm)]
theorem sJ (h : Ksl k K v xs) (hm : m ≤ xs.length) (hf : tP v) : Ksl k K (lB v m k.sz) (xs.drop m) := by
 rcases h with ⟨a, c, rfl, rfl⟩ | ⟨b, off, cap, cells, fz, rfl, h1, h2⟩
 ·have : m = 0 := by simpa using hm
  subst this;exact .inl ⟨_, _, by simp [lB]; exact ⟨rfl, rfl⟩, by simp⟩
 ·have hle := hf _ _ _ rfl
  by_cases hc : cap = m
  ·have : m = xs.length := by omega
   subst this;exact .inl ⟨_, _, by simp [lB]; exact ⟨rfl, rfl⟩, by simp⟩
  ·refine .inr ⟨b, off + m * k.sz, cap - m, cells, fz, ?_, h1, ?_⟩
   ·simp only [lB, if_neg hc, List.length_drop, Option.map];unfold Addr.add;split
    ·rename_i h0; rw [h0]; rfl
    ·rfl
   ·rw [List.length_drop, Nat.sub_mul, ← k.cs_drop, ← h2, ← List.drop_drop, List.drop_take]
theorem jH {kk : IntKind} {mv : Int} {lo : Operand} (ht : fP E.P t k.e k.sz = true) (hx : fr.ev x = some v) (hs : SeesSl k K L v xs) (hh : fr.ev lo = some (.int kk mv)) (hmv : mv = (m : Int)) (hm : m ≤ xs.length) :
  Ev E fr K L ⟨dst, .slice t x (some lo) none none, ty, pos, aft, g⟩ (lB v m k.sz) := fun a w f j => by
 subst hmv;obtain ⟨inf, h1, h2, h3⟩ := jB ht;simp only [execOp, f.ev hx, f.ev hh, Option.map];refine cP ?_;have hu : (underlying t).run E.P w = .ok (.slice k.e) w := by simp only [underlying, program, bind, Sem.bind, pure, Sem.run, h1]
 have hsz : (sizeOf k.e).run E.P w = .ok inf.size w := by simp only [sizeOf, typeInfo, program, bind, Sem.bind, pure, Sem.run, h2]
 have key : ∀ (a : Option Addr) (n c : Nat), m ≤ n → (Instr.sliceAt t (.slice a n c) (some (.int kk m)) none none).run E.P w = .ok (lB (.slice a n c) m k.sz) w := by
  intro a n c hc;unfold Instr.sliceAt;rw [aL hu];simp only [Instr.slice];rw [aL hu];simp only [];have hb : (Instr.sliceBounds true n c (some (.int kk m)) none none).run E.P w = .ok (m, n, c) w := by
   simp [Instr.sliceBounds, Instr.sliceBound, asIntOf, bind, Sem.bind, pure, Sem.run, hc]
  rw [aL hb];simp only [];rw [aL hsz];simp only [lB, h3, pure, Sem.run]
 rcases hs.at j with ⟨a0, c, rfl, rfl⟩ | ⟨b, off, cap, cells, fz, rfl, ⟨u0, h4⟩, h5⟩
 ·exact key a0 0 c (by simpa using hm)
 ·exact key _ _ _ hm
theorem tC {z : Bool} (h : tP v → T E c0 fr K (sl z k v xs :: L) Q) : T E c0 fr K (sl z k v xs :: L) Q := fun a w f i => h (aFS .here i) a w f i
theorem m9 {kk : IntKind} {mv : Int} {hi : Operand} (ht : fP E.P t k.e k.sz = true) (hx : fr.ev x = some v) (hs : SeesSl k K L v xs) (hf : tP v) (hh : fr.ev hi = some (.int kk mv)) (hmv : mv = (m : Int)) (hm : m ≤ xs.length) :
  Ev E fr K L ⟨dst, .slice t x none (some hi) none, ty, pos, aft, g⟩ (slTo v m) := pI ht hx hs hh hmv hm fun _ _ => hf
end
end Go.SL
end
section
namespace Go.Proofs
open Go Go.SL Go.Syn Go.Box Go.Mach
theorem vQ (bx b : Nat) (s : DSt) (kept part : Int) (hpl : s.pend.length ≤ 1000000) (hdl : ∀ o ∈ s.pend, o.data.length ≤ 140737488355328) (hk1 : -9223372036854775808 ≤ part) (hk2 : part ≤ 9223372036854775807) (K K0 : Hl) (le : K0.le K) (hx : kV K bx b) : Sp Tryz.prog 53 [ptr bx, i64 kept, i64 part] K [dsk K0 b s]
  (Ret fun r K' L' => r = .tuple #[] ∧ ∃ t, lF s t ∧ L' = [dsk K' b t]) := by
 obtain ⟨T, fz, hk⟩ := hx;refine bE Tryz.func53 rfl Tryz.ntmps53 rfl rfl fun F w => ?_
 refine aC ?_;refine aA (aB rfl) rfl ?_;refine aA b0 rfl ?_;refine aA (aH (o' := 0) c7 rfl rfl) rfl ?_;refine aA (aM f4 rfl aN rfl) rfl ?_;refine aA (aB rfl) rfl ?_;refine aA (aB rfl) rfl ?_;refine bH rfl rfl (n3 b s kept part hpl hdl hk1 hk2 _ _ le) (.cons .here .nil) rfl ?_;rintro _ K1 _ ⟨rfl, t, hct, rfl⟩ le1;refine aF ?_;refine k4 rfl le1 ?_;exact ⟨_, rfl, rfl, _, hct, rfl⟩
theorem lA (av bv : Value) (xs ys : List cJ) (K : Hl) (ha : Ksl aV K av xs) (hb : Ksl aV K bv ys) (hx : xs.length ≤ 1000000) (hy : ys.length ≤ 1000000) : Sp Tryz.prog 51 [av, bv] K [] (Val (.bool (decide (xs = ys))) K) := by
 refine bE Tryz.func51 rfl Tryz.ntmps51 rfl rfl fun F w => ?_
 refine aG (aC ?_);refine aA (aD rfl) rfl ?_;refine aF (aE ?_);refine aG (aG ?_);refine aC ?_;refine aA (aB rfl) rfl ?_;refine aA (bM (k := aV) rfl Tryz.underlying62 rfl (.known ha)) rfl ?_;refine aA (aB rfl) rfl ?_;refine aA (bM (k := aV) rfl Tryz.underlying62 rfl (.known hb)) rfl ?_;refine aA (eE rfl rfl) rfl ?_;refine aF (aE ?_)
 first | refine bJ 10 rfl (fun h10 => ?_) (fun h10 => ?_) | refine gP 10 rfl (fun h10 => ?_) (fun h10 => ?_)
 ·
  refine aG (aC ?_);refine aA (aD rfl) rfl ?_;refine aF (aE ?_);refine a8 ?_;refine aR ?_;refine bA rfl rfl (Hl.le_refl _) ?_;have hne : ¬ xs = ys := (fun e => by rw [e] at h10; exact absurd rfl h10);rw [decide_eq_false hne];exact ⟨rfl, rfl, rfl⟩
 ·
  have hlen : xs.length = ys.length := by omega
  refine aX ?_;refine aE (aG ?_);refine aG (aC ?_);refine aA (aD rfl) rfl ?_;refine aF (aE ?_);refine a7 ?_;refine eW (fun (i : Nat) => i ≤ xs.length ∧ xs.take i = ys.take i) (fun i => [(0, av), (1, bv), (5, i64 i)]) (fun _ => K) (fun _ => []) (fun i => xs.length - i) 0 ⟨Nat.zero_le _, by simp⟩ (.cons 0 rfl (.cons 1 rfl (.cons 5 rfl .nil))) rfl (fun _ h => h) ?_;intro i ⟨hi0, hi1⟩;refine aG (aG ?_);refine aC ?_;refine aA (aB rfl) rfl ?_;refine aA (aB rfl) rfl ?_;refine aA (bM (k := aV) rfl Tryz.underlying62 rfl (.known ha)) rfl ?_;refine aA (cZ rfl rfl) rfl ?_;refine aF (aE ?_);refine bJ 14 rfl (fun h14 => ?_) (fun h14 => ?_)
  ·
   have hilt : i < xs.length := by omega
   obtain ⟨x, hxx⟩ : ∃ x, xs[i]? = some x := ⟨xs[i]'hilt, List.getElem?_eq_getElem hilt⟩;obtain ⟨y, hyy⟩ : ∃ y, ys[i]? = some y := ⟨ys[i]'(by omega), List.getElem?_eq_getElem aI⟩;refine aX ?_;refine aE (aG ?_);refine a7 (aG ?_);refine cT (anc := [0, 0, 3, 7, 0, 0, 48, 112, 255]) (ord := [0, 1, 2, 3, 4, 5, 6, 7, 8]) [] [] mixed (by decide +kernel) (dJ _) ?_;refine aK rfl rfl (.none rfl) rfl rfl (aB rfl) rfl ?_;refine aK rfl rfl (.none rfl) rfl rfl (aB rfl) rfl ?_;refine aK rfl rfl (.none rfl) rfl rfl (bD (k := aV) (j := i) cD rfl (.known ha) rfl rfl aI) rfl ?_;refine aK rfl rfl (.none rfl) rfl rfl (cI (n := 0) (k := aV) eG rfl (.known ha) hxx) rfl ?_;refine aK rfl rfl (.none rfl) rfl rfl (aB rfl) rfl ?_;refine aK rfl rfl (.none rfl) rfl rfl (aB rfl) rfl ?_;refine aK rfl rfl (.none rfl) rfl rfl (bD (k := aV) (j := i) cD rfl (.known hb) rfl rfl aI) rfl ?_;refine aK rfl rfl (.none rfl) rfl rfl (cI (n := 0) (k := aV) eG rfl (.known hb) hyy) rfl ?_;refine aK rfl rfl (.none rfl) rfl rfl (tW (a := x) (c := y) rfl rfl) rfl ?_;refine cO ?_;refine aE ?_;refine gP 25 rfl (fun h25 => ?_) (fun h25 => ?_)
   ·
    have hxy : ¬ x = y := by simpa using h25
    refine aG (aC ?_);refine aA (aD rfl) rfl ?_;refine aF (aE ?_);refine a8 ?_;refine bC ?_;refine aR ?_;refine aR ?_;refine bC ?_;refine aR ?_;refine bA rfl rfl (Hl.le_refl _) ?_;have hne : ¬ xs = ys := (fun e => by rw [e] at hxx; rw [hxx] at hyy; cases hyy; exact hxy rfl);rw [decide_eq_false hne];exact ⟨rfl, rfl, rfl⟩
   ·
    have hxy : x = y := by simpa using h25
    refine aX ?_;refine aU (aE ?_);refine aC ?_;refine aA (aB rfl) rfl ?_;refine aA (bY rfl rfl aI aI) rfl ?_;refine aA (aD rfl) rfl ?_;refine aF ?_;exact dW (i + 1) ⟨by omega, by rw [List.take_add_one, List.take_add_one, hi1, hxx, hyy, hxy]⟩ aI (.cons 0 rfl (.cons 1 rfl (.cons 5 rfl .nil))) rfl (fun _ h => h)
  ·
   refine cK ?_;refine aP ?_;refine aP ?_;refine bB ?_;refine aE (aG ?_);refine aC ?_;refine aA (aD rfl) rfl ?_;refine aF (aE ?_);refine a8 ?_;refine bA rfl rfl (Hl.le_refl _) ?_;have he : xs = ys := (by rw [List.take_of_length_le aI, List.take_of_length_le aI] at hi1; exact hi1);rw [decide_eq_true he];exact ⟨rfl, rfl, rfl⟩
theorem aEQ (va vm : Value) (was more : List cJ) (f : DMap) (K : Hl) (ha : Ksl aV K va was) (hm : Ksl aV K vm more) (hf : cX f was) (hl : was.length + more.length ≤ 1000000) : Sp Tryz.prog 52 [va, vm] K []
  (Ret fun r K' L' => ∃ out, cX (eC more f) out ∧ out.length ≤ was.length + more.length ∧ L' = [sl false aV r out]) := by
 refine bE Tryz.func52 rfl Tryz.ntmps52 rfl rfl fun F w => ?_
 refine aG (aC ?_);refine aA (aD rfl) rfl ?_;refine aF (aE ?_);refine aG (aC ?_);refine aA (aB rfl) rfl ?_;refine mN (dZ aV) ?_;refine ol_s (dO (k := aV) (ys := was) c6 rfl rfl .here (fun w j => dE Tryz.underlying62 (SeesSl.at (k := aV) (.known ha) j)) (by show (0 + was.length) * 32 ≤ 140737488355328; omega) (by show 0 + was.length ≤ 9223372036854775807; omega)) rfl ?_;rintro v10 K _ ⟨rfl, rfl, ho10⟩ -;refine aA (aD rfl) rfl ?_;refine aF (aE ?_);refine aG (aG ?_);refine aC ?_;refine aA (aD rfl) rfl ?_;refine aF (aE ?_);refine a7 ?_;refine l6 (fun (i : Nat) (K2 : Hl) (v : Value) (out : List cJ) => i ≤ more.length ∧ K.le K2 ∧ cX (eC (more.take i) f) out ∧ out.length ≤ was.length + i) (fun i _ v _ => [(1, vm), (5, v), (6, i64 i)]) (fun _ K2 _ _ => K2) (fun _ _ v out => [sl false aV v out]) (fun i _ _ _ => more.length - i) 0 K _ was ⟨Nat.zero_le _, Hl.le_refl _, hf, Nat.le_refl _⟩ (.cons 1 rfl (.cons 5 rfl (.cons 6 rfl .nil))) rfl (fun _ h => h) ?_;intro i K2 v out ⟨hi, leL, hfo, hol⟩;refine aG (aG ?_);refine aC ?_;refine aA (aB rfl) rfl ?_;refine aA (aB rfl) rfl ?_;refine aA (bM (k := aV) rfl Tryz.underlying62 rfl (.known (hm.mono leL))) rfl ?_;refine aA (cZ rfl rfl) rfl ?_;refine aF (aE ?_);refine bJ 14 rfl (fun h14 => ?_) (fun h14 => ?_)
 ·
  have hilt : i < more.length := by omega
  obtain ⟨x, hxx⟩ : ∃ x, more[i]? = some x := ⟨more[i]'hilt, List.getElem?_eq_getElem hilt⟩;have hm2 := hm.mono leL;refine aX ?_;refine aE (aG ?_);refine a7 (aG ?_);refine aC ?_;refine aA (aD rfl) rfl ?_;refine aF (aE ?_);refine mU (fun (k : Nat) => k ≤ out.length ∧ nR x k out ∧ ∀ y, out[k]? = some y → ¬ y.1 < x.1) (fun k => [(1, vm), (5, v), (6, i64 i), (7, i64 k)]) (fun _ => K2) (fun _ => [sl false aV v out]) ?_ ?_
  ·
   refine a7 ?_;refine eW (fun (k : Nat) => k ≤ out.length ∧ nR x k out) (fun k => [(1, vm), (5, v), (6, i64 i), (7, i64 k)]) (fun _ => K2) (fun _ => [sl false aV v out]) (fun k => out.length - k) 0 ⟨Nat.zero_le _, fun j y h _ => by omega⟩ (.cons 1 rfl (.cons 5 rfl (.cons 6 rfl (.cons 7 rfl .nil)))) rfl (fun _ h => h) ?_;intro k ⟨hk, hbf⟩;refine aG (aG ?_);refine cT (anc := [0, 0, 2, 7, 15, 31, 31, 127, 255, 511, 31, 31, 3103, 7199, 15391, 32767, 65535]) (ord := [0, 1, 2, 3, 4, 5, 6, 7, 8, 9, 10, 11, 12, 13, 14, 15, 16]) [] [] mixed (by decide +kernel) (dJ _) ?_;refine aK rfl rfl (.none rfl) rfl rfl (aB rfl) rfl ?_;refine aK rfl rfl (.none rfl) rfl rfl (aB rfl) rfl ?_;refine aK rfl rfl (.none rfl) rfl rfl (bM (k := aV) rfl Tryz.underlying62 rfl aN) rfl ?_;refine aK rfl rfl (.none rfl) rfl rfl (cZ rfl rfl) rfl ?_;refine aK rfl rfl (.none rfl) rfl rfl (aB rfl) rfl ?_;refine mG 21 rfl (fun g21 => ?_) (fun g21 => ?_)
   ·
    have hkl : k < out.length := by omega
    obtain ⟨y, hyy⟩ : ∃ y, out[k]? = some y := ⟨out[k]'hkl, List.getElem?_eq_getElem hkl⟩;refine aK rfl rfl (.on rfl rfl rfl) rfl rfl (aB rfl) rfl ?_;refine aK rfl rfl (.on rfl rfl rfl) rfl rfl (aB rfl) rfl ?_;refine aK rfl rfl (.on rfl rfl rfl) rfl rfl (bD (k := aV) cD rfl aN rfl rfl (by first | assumption | omega)) rfl ?_;refine aK rfl rfl (.on rfl rfl rfl) rfl rfl (bV (k := aV) fA rfl aN (by first | assumption | omega)) rfl ?_;refine aK rfl rfl (.on rfl rfl rfl) rfl rfl (dK (k := aV) ts9 rfl aN dF rfl) rfl ?_;refine aK rfl rfl (.on rfl rfl rfl) rfl rfl (aB rfl) rfl ?_;refine aK rfl rfl (.on rfl rfl rfl) rfl rfl (aB rfl) rfl ?_;refine aK rfl rfl (.on rfl rfl rfl) rfl rfl (bD (k := aV) cD rfl aN rfl rfl (by first | assumption | omega)) rfl ?_;refine aK rfl rfl (.on rfl rfl rfl) rfl rfl (bV (k := aV) fA rfl aN (by first | assumption | omega)) rfl ?_;refine aK rfl rfl (.on rfl rfl rfl) rfl rfl (dK (k := aV) ts9 rfl aN dF rfl) rfl ?_;refine aK rfl rfl (.on rfl rfl rfl) rfl rfl (aD1 rfl rfl) rfl ?_;refine aK rfl rfl (.none rfl) rfl rfl (bG rfl rfl) rfl ?_;refine cO ?_;refine aE ?_;refine gP 33 rfl (fun h33 => ?_) (fun h33 => ?_)
    ·
     have hlt : y.1 < x.1 := by rw [bytesLess_eq] at h33; exact of_decide_eq_true h33
     refine aX ?_;refine aE (a7 ?_);refine aC ?_;refine aA (aB rfl) rfl ?_;refine aA (bY rfl rfl aI aI) rfl ?_;refine aA (aD rfl) rfl ?_;refine aF (aU ?_);refine dW (k + 1) ⟨by omega, fun j z hj hz => ?_⟩ aI (.cons 1 rfl (.cons 5 rfl (.cons 6 rfl (.cons 7 rfl .nil)))) rfl (fun _ h => h)
     rcases Nat.lt_or_ge j k with h | h
     ·exact hbf j z h hz
     ·have e : j = k := by omega
      subst e; rw [hyy] at hz; cases hz; assumption
    ·
     have hnlt : ¬ y.1 < x.1 := by rw [bytesLess_eq] at h33; exact of_decide_eq_false h33
     refine cK ?_;refine aP ?_;refine aP ?_;refine bB ?_
     first | exact cG k ⟨hk, hbf, fun z hz => by rw [hyy] at hz; cases hz; assumption⟩ (.cons 1 rfl (.cons 5 rfl (.cons 6 rfl (.cons 7 rfl .nil)))) rfl (fun _ h => h) | exact cG k ⟨hk, hbf, fun z hz => by have := dX hz; omega⟩ (.cons 1 rfl (.cons 5 rfl (.cons 6 rfl (.cons 7 rfl .nil)))) rfl (fun _ h => h)
   ·
    refine dR rfl rfl (.off rfl rfl rfl) rfl ?_;refine dR rfl rfl (.off rfl rfl rfl) rfl ?_;refine dR rfl rfl (.off rfl rfl rfl) rfl ?_;refine dR rfl rfl (.off rfl rfl rfl) rfl ?_;refine dR rfl rfl (.off rfl rfl rfl) rfl ?_;refine dR rfl rfl (.off rfl rfl rfl) rfl ?_;refine dR rfl rfl (.off rfl rfl rfl) rfl ?_;refine dR rfl rfl (.off rfl rfl rfl) rfl ?_;refine dR rfl rfl (.off rfl rfl rfl) rfl ?_;refine dR rfl rfl (.off rfl rfl rfl) rfl ?_;refine dR rfl rfl (.off rfl rfl rfl) rfl ?_;refine aK rfl rfl (.none rfl) rfl rfl (aZ rfl rfl) rfl ?_;refine cO ?_;refine aE ?_;refine bL rfl ?_;refine cK ?_;refine aP ?_;refine aP ?_;refine bB ?_
    first | exact cG k ⟨hk, hbf, fun z hz => by rw [hyy] at hz; cases hz; assumption⟩ (.cons 1 rfl (.cons 5 rfl (.cons 6 rfl (.cons 7 rfl .nil)))) rfl (fun _ h => h) | exact cG k ⟨hk, hbf, fun z hz => by have := dX hz; omega⟩ (.cons 1 rfl (.cons 5 rfl (.cons 6 rfl (.cons 7 rfl .nil)))) rfl (fun _ h => h)
  ·
   intro k ⟨hk, hbf, hnl⟩;refine aG (aG ?_);refine cT (anc := [0, 0, 2, 7, 15, 31, 31, 127, 255, 511, 31, 31, 3103, 7199, 15391, 32767, 65535]) (ord := [0, 1, 2, 3, 4, 5, 6, 7, 8, 9, 10, 11, 12, 13, 14, 15, 16]) [] [] mixed (by decide +kernel) (dJ _) ?_;refine aK rfl rfl (.none rfl) rfl rfl (aB rfl) rfl ?_;refine aK rfl rfl (.none rfl) rfl rfl (aB rfl) rfl ?_;refine aK rfl rfl (.none rfl) rfl rfl (bM (k := aV) rfl Tryz.underlying62 rfl aN) rfl ?_;refine aK rfl rfl (.none rfl) rfl rfl (cZ rfl rfl) rfl ?_;refine aK rfl rfl (.none rfl) rfl rfl (aB rfl) rfl ?_;refine mG 40 rfl (fun g40 => ?_) (fun g40 => ?_)
   ·
    have hkl : k < out.length := by omega
    obtain ⟨y, hyy⟩ : ∃ y, out[k]? = some y := ⟨out[k]'hkl, List.getElem?_eq_getElem hkl⟩;refine aK rfl rfl (.on rfl rfl rfl) rfl rfl (aB rfl) rfl ?_;refine aK rfl rfl (.on rfl rfl rfl) rfl rfl (aB rfl) rfl ?_;refine aK rfl rfl (.on rfl rfl rfl) rfl rfl (bD (k := aV) cD rfl aN rfl rfl (by first | assumption | omega)) rfl ?_;refine aK rfl rfl (.on rfl rfl rfl) rfl rfl (bV (k := aV) fA rfl aN (by first | assumption | omega)) rfl ?_;refine aK rfl rfl (.on rfl rfl rfl) rfl rfl (dK (k := aV) ts9 rfl aN dF rfl) rfl ?_;refine aK rfl rfl (.on rfl rfl rfl) rfl rfl (aB rfl) rfl ?_;refine aK rfl rfl (.on rfl rfl rfl) rfl rfl (aB rfl) rfl ?_;refine aK rfl rfl (.on rfl rfl rfl) rfl rfl (bD (k := aV) cD rfl aN rfl rfl (by first | assumption | omega)) rfl ?_;refine aK rfl rfl (.on rfl rfl rfl) rfl rfl (bV (k := aV) fA rfl aN (by first | assumption | omega)) rfl ?_;refine aK rfl rfl (.on rfl rfl rfl) rfl rfl (dK (k := aV) ts9 rfl aN dF rfl) rfl ?_;refine aK rfl rfl (.on rfl rfl rfl) rfl rfl (tV rfl rfl) rfl ?_;refine aK rfl rfl (.none rfl) rfl rfl (bG rfl rfl) rfl ?_;refine cO ?_;refine aE ?_;refine bJ 52 rfl (fun h52 => ?_) (fun h52 => ?_)
    ·
     refine aG (aC ?_);refine aA (aB rfl) rfl ?_;refine aA (aB rfl) rfl ?_;refine aA (aB rfl) rfl ?_;refine aA (aB rfl) rfl ?_;refine aA (bD (k := aV) cD rfl aN rfl rfl (by first | assumption | omega)) rfl ?_;refine aA (cI (n := 0) (k := aV) eG rfl aN dF) rfl ?_;refine aA (bD (k := aV) cD rfl aN rfl rfl (by first | assumption | omega)) rfl ?_;refine cQ (rE (k := aV) (y0 := x) eG rfl rfl (by first | assumption | omega) bI) ?_;rintro _ K _ ⟨rfl, rfl⟩ -;refine aF (aE ?_);refine cK ?_;refine aP ?_;refine bB ?_;refine aE (aC ?_);refine aA (aB rfl) rfl ?_;refine aA (bY rfl rfl aI aI) rfl ?_;refine aA (aD rfl) rfl ?_;refine aF ?_;refine bF (.cons .here .nil) ?_
     first
      | exact d8 (i + 1) _ v (out.set k x) ⟨by omega, leL, by rw [gB hxx]; exact rB hfo hbf hyy dF, by rw [List.length_set]; omega⟩ aI (.cons 1 rfl (.cons 5 rfl (.cons 6 rfl .nil))) rfl (fun _ h => h)
      | exact d8 (i + 1) _ _ ((out.take k ++ [x]) ++ out.drop k) ⟨by omega, Hl.le_trans leL le3, by rw [gB hxx, List.append_assoc, List.singleton_append]; exact oQ hfo hbf hk hnn, by simp only [List.length_append, List.length_take, List.length_drop, List.length_singleton]; omega⟩ aI (.cons 1 rfl (.cons 5 rfl (.cons 6 rfl .nil))) rfl (fun _ h => h)
    ·
     refine aX ?_;refine aE (aG ?_);have hnn : ∀ z, out[k]? = some z → ¬ z.1 < x.1 ∧ z.1 ≠ x.1 := (by intro z hz; first | (have := dX hz; omega) | (have h1 := hnl z hz; rw [hyy] at hz; cases hz; exact ⟨h1, by assumption⟩));refine tC fun hfit => ?_
     refine dU fun K3 le3 hv3 => ?_
     have hm3 := hm2.mono le3;have htl : (out.take k).length ≤ out.length := (by rw [List.length_take]; omega);have hdl : (out.drop k).length ≤ out.length := (by rw [List.length_drop]; omega);refine aC ?_;refine aA (aB rfl) rfl ?_;refine aA (aB rfl) rfl ?_;refine aA (m9 (k := aV) (m := k) cD rfl (.known hv3) hfit rfl rfl hk) rfl ?_;refine mN (dZ aV) ?_;refine ol_s (dO (k := aV) (ys := (out.take k)) c6 rfl rfl .here (fun w j => dE Tryz.underlying62 (SeesSl.at (k := aV) (.known (z7 hv3 hk)) j)) (by show (0 + (out.take k).length) * 32 ≤ 140737488355328; omega) (by show 0 + (out.take k).length ≤ 9223372036854775807; omega)) rfl ?_;rintro v63 K _ ⟨rfl, rfl, ho63⟩ -;refine aA (aD rfl) rfl ?_;refine aF (aE ?_);refine aG (aC ?_);refine aA (aB rfl) rfl ?_;refine aA (aB rfl) rfl ?_;refine aA (aB rfl) rfl ?_;refine aA (bD (k := aV) cD rfl (.known hm3) rfl rfl aI) rfl ?_;refine aA (cI (n := 0) (k := aV) eG rfl (.known hm3) hxx) rfl ?_;refine ol_s (cL (z0 := [(str []), (str [])]) cD tz66 rfl rfl rfl rfl (.cons rfl rfl rfl (.cons (.cons .nil)) .nil)) rfl ?_;rintro _ K _ ⟨b69, rfl, rfl, rfl⟩ -;refine ol_s (dO (k := aV) (ys := [x]) c6 rfl rfl bI (fun w j => dE Tryz.underlying62 (SeesSl.at (k := aV) (.blk (.own .here) rfl rfl) j)) (by show ((out.take k).length + 1) * 32 ≤ 140737488355328; omega) (by show (out.take k).length + 1 ≤ 9223372036854775807; omega)) rfl ?_;rintro v70 K _ ⟨rfl, rfl, ho70⟩ -;refine aA (aD rfl) rfl ?_;refine aF (aE ?_);refine aC ?_;refine aA (aB rfl) rfl ?_;refine aA (aB rfl) rfl ?_;refine aA (aB rfl) rfl ?_;refine aA (jH (k := aV) (m := k) cD rfl (.known hv3) rfl rfl hk) rfl ?_;refine ol_s (dO (k := aV) (ys := (out.drop k)) c6 rfl rfl bI (fun w j => dE Tryz.underlying62 (SeesSl.at (k := aV) (.known (sJ hv3 hk hfit)) j)) (by show ((out.take k ++ [x]).length + (out.drop k).length) * 32 ≤ 140737488355328; rw [List.length_append, List.length_singleton]; omega) (by show (out.take k ++ [x]).length + (out.drop k).length ≤ 9223372036854775807; rw [List.length_append, List.length_singleton]; omega)) rfl ?_;rintro v75 K _ ⟨rfl, rfl, ho75⟩ -;refine aA (aD rfl) rfl ?_;refine aF (aU ?_);refine aE (aC ?_);refine aA (aB rfl) rfl ?_;refine aA (bY rfl rfl aI aI) rfl ?_;refine aA (aD rfl) rfl ?_;refine aF ?_;refine bF (.cons .here .nil) ?_
     first
      | exact d8 (i + 1) _ v (out.set k x) ⟨by omega, leL, by rw [gB hxx]; exact rB hfo hbf hyy dF, by rw [List.length_set]; omega⟩ aI (.cons 1 rfl (.cons 5 rfl (.cons 6 rfl .nil))) rfl (fun _ h => h)
      | exact d8 (i + 1) _ _ ((out.take k ++ [x]) ++ out.drop k) ⟨by omega, Hl.le_trans leL le3, by rw [gB hxx, List.append_assoc, List.singleton_append]; exact oQ hfo hbf hk hnn, by simp only [List.length_append, List.length_take, List.length_drop, List.length_singleton]; omega⟩ aI (.cons 1 rfl (.cons 5 rfl (.cons 6 rfl .nil))) rfl (fun _ h => h)
   ·
    refine dR rfl rfl (.off rfl rfl rfl) rfl ?_;refine dR rfl rfl (.off rfl rfl rfl) rfl ?_;refine dR rfl rfl (.off rfl rfl rfl) rfl ?_;refine dR rfl rfl (.off rfl rfl rfl) rfl ?_;refine dR rfl rfl (.off rfl rfl rfl) rfl ?_;refine dR rfl rfl (.off rfl rfl rfl) rfl ?_;refine dR rfl rfl (.off rfl rfl rfl) rfl ?_;refine dR rfl rfl (.off rfl rfl rfl) rfl ?_;refine dR rfl rfl (.off rfl rfl rfl) rfl ?_;refine dR rfl rfl (.off rfl rfl rfl) rfl ?_;refine dR rfl rfl (.off rfl rfl rfl) rfl ?_;refine aK rfl rfl (.none rfl) rfl rfl (aZ rfl rfl) rfl ?_;refine cO ?_;refine aE ?_;refine bL rfl ?_;refine aX ?_;refine aE (aG ?_);have hnn : ∀ z, out[k]? = some z → ¬ z.1 < x.1 ∧ z.1 ≠ x.1 := (by intro z hz; first | (have := dX hz; omega) | (have h1 := hnl z hz; rw [hyy] at hz; cases hz; exact ⟨h1, by assumption⟩));refine tC fun hfit => ?_
    refine dU fun K3 le3 hv3 => ?_
    have hm3 := hm2.mono le3;have htl : (out.take k).length ≤ out.length := (by rw [List.length_take]; omega);have hdl : (out.drop k).length ≤ out.length := (by rw [List.length_drop]; omega);refine aC ?_;refine aA (aB rfl) rfl ?_;refine aA (aB rfl) rfl ?_;refine aA (m9 (k := aV) (m := k) cD rfl (.known hv3) hfit rfl rfl hk) rfl ?_;refine mN (dZ aV) ?_;refine ol_s (dO (k := aV) (ys := (out.take k)) c6 rfl rfl .here (fun w j => dE Tryz.underlying62 (SeesSl.at (k := aV) (.known (z7 hv3 hk)) j)) (by show (0 + (out.take k).length) * 32 ≤ 140737488355328; omega) (by show 0 + (out.take k).length ≤ 9223372036854775807; omega)) rfl ?_;rintro v63 K _ ⟨rfl, rfl, ho63⟩ -;refine aA (aD rfl) rfl ?_;refine aF (aE ?_);refine aG (aC ?_);refine aA (aB rfl) rfl ?_;refine aA (aB rfl) rfl ?_;refine aA (aB rfl) rfl ?_;refine aA (bD (k := aV) cD rfl (.known hm3) rfl rfl aI) rfl ?_;refine aA (cI (n := 0) (k := aV) eG rfl (.known hm3) hxx) rfl ?_;refine ol_s (cL (z0 := [(str []), (str [])]) cD tz66 rfl rfl rfl rfl (.cons rfl rfl rfl (.cons (.cons .nil)) .nil)) rfl ?_;rintro _ K _ ⟨b69, rfl, rfl, rfl⟩ -;refine ol_s (dO (k := aV) (ys := [x]) c6 rfl rfl bI (fun w j => dE Tryz.underlying62 (SeesSl.at (k := aV) (.blk (.own .here) rfl rfl) j)) (by show ((out.take k).length + 1) * 32 ≤ 140737488355328; omega) (by show (out.take k).length + 1 ≤ 9223372036854775807; omega)) rfl ?_;rintro v70 K _ ⟨rfl, rfl, ho70⟩ -;refine aA (aD rfl) rfl ?_;refine aF (aE ?_);refine aC ?_;refine aA (aB rfl) rfl ?_;refine aA (aB rfl) rfl ?_;refine aA (aB rfl) rfl ?_;refine aA (jH (k := aV) (m := k) cD rfl (.known hv3) rfl rfl hk) rfl ?_;refine ol_s (dO (k := aV) (ys := (out.drop k)) c6 rfl rfl bI (fun w j => dE Tryz.underlying62 (SeesSl.at (k := aV) (.known (sJ hv3 hk hfit)) j)) (by show ((out.take k ++ [x]).length + (out.drop k).length) * 32 ≤ 140737488355328; rw [List.length_append, List.length_singleton]; omega) (by show (out.take k ++ [x]).length + (out.drop k).length ≤ 9223372036854775807; rw [List.length_append, List.length_singleton]; omega)) rfl ?_;rintro v75 K _ ⟨rfl, rfl, ho75⟩ -;refine aA (aD rfl) rfl ?_;refine aF (aU ?_);refine aE (aC ?_);refine aA (aB rfl) rfl ?_;refine aA (bY rfl rfl aI aI) rfl ?_;refine aA (aD rfl) rfl ?_;refine aF ?_;refine bF (.cons .here .nil) ?_
    first
     | exact d8 (i + 1) _ v (out.set k x) ⟨by omega, leL, by rw [gB hxx]; exact rB hfo hbf hyy dF, by rw [List.length_set]; omega⟩ aI (.cons 1 rfl (.cons 5 rfl (.cons 6 rfl .nil))) rfl (fun _ h => h)
     | exact d8 (i + 1) _ _ ((out.take k ++ [x]) ++ out.drop k) ⟨by omega, Hl.le_trans leL le3, by rw [gB hxx, List.append_assoc, List.singleton_append]; exact oQ hfo hbf hk hnn, by simp only [List.length_append, List.length_take, List.length_drop, List.length_singleton]; omega⟩ aI (.cons 1 rfl (.cons 5 rfl (.cons 6 rfl .nil))) rfl (fun _ h => h)
 ·
  have hie : i = more.length := by omega
  subst hie;rw [List.take_length] at hfo;refine cK ?_;refine aP ?_;refine aP ?_;refine bB ?_;refine aE (aG ?_);refine aC ?_;refine aA (aB rfl) rfl ?_;refine aA (aD rfl) rfl ?_;refine aF (aE ?_);refine a8 ?_;refine bA rfl rfl leL ?_;exact ⟨_, rfl, _, hfo, hol, rfl⟩
end Go.Proofs
end
section
namespace Go.Proofs
open Go Go.SL Go.Syn Go.Box Go.Mach
theorem sE {n m i k : Nat} {vs : List StepV} {x : StepV} (hx : vs[i]? = some x) (h1 : ∀ (j : Nat) y, j < i → vs[j]? = some y → StepFit n y) (hn : n + x.id.length + x.text.length + x.downs.length + x.acts.length ≤ m) (hk : x.acts.length ≤ k) (ha : ∀ a ∈ x.acts.take k, a.2.length ≤ m) : ∀ (j : Nat) y, j < i + 1 → vs[j]? = some y → StepFit m y := fun j y hj hy => by
 rcases Nat.lt_or_ge j i with h | h
 ·exact (h1 j y h hy).mono aI
 ·obtain rfl : j = i := by omega
  rw [hx] at hy; cases hy
  rw [List.take_of_length_le hk] at ha;exact ⟨by omega, by omega, by omega, by omega, ha⟩
theorem aD7 (vv : Value) (vs : List StepV) (K : Hl) (hv : Ksl cM K vv vs) (hs : ∀ x ∈ vs, StepIs K x) (hz : ∀ x ∈ vs, StepSz x) (hl : vs.length ≤ 140737488355328) : Sp Tryz.prog 30 [vv] K []
  (Ret fun r K' L' => ∃ b : Bool, r = .bool b ∧ (b = true → vs.length ≤ 65536 ∧ ∀ x ∈ vs, StepFit 65536 x) ∧ K' = K ∧ L' = []) := by
 refine bE Tryz.func30 rfl Tryz.ntmps30 rfl rfl fun F w => ?_
 refine aG (aC ?_);refine aA (aD rfl) rfl ?_;refine aF (aE ?_);refine aG (aC ?_);refine aA (aB rfl) rfl ?_;refine aA (bM (k := cM) rfl Tryz.underlying68 rfl (.known hv)) rfl ?_;refine aA (aD rfl) rfl ?_;refine aF (aE ?_);refine aG (aG ?_);refine aC ?_;refine aA (aD rfl) rfl ?_;refine aF (aE ?_);refine a7 ?_;refine l5 (fun (i n : Nat) => i ≤ vs.length ∧ vs.length ≤ n ∧ n ≤ 1000000000000000 ∧ (n ≤ 65536 → ∀ (j : Nat) y, j < i → vs[j]? = some y → StepFit n y)) (fun i n => [(0, vv), (3, i64 n), (4, i64 i)]) (fun _ _ => K) (fun _ _ => []) (fun i _ => vs.length - i) 0 vs.length ⟨Nat.zero_le _, Nat.le_refl _, by omega, fun _ j y h _ => by omega⟩ (.cons 0 rfl (.cons 3 rfl (.cons 4 rfl .nil))) rfl (fun _ h => h) ?_;intro i n ⟨hi, hn1, hn2, hfit⟩;refine aG (aG ?_);refine aC ?_;refine aA (aB rfl) rfl ?_;refine aA (aB rfl) rfl ?_;refine aA (bM (k := cM) rfl Tryz.underlying68 rfl (.known hv)) rfl ?_;refine aA (cZ rfl rfl) rfl ?_;refine aA (aB rfl) rfl ?_;refine bS 12 rfl (fun g12 => ?_) (fun g12 => ?_)
 ·
  have hlt : i < vs.length := by omega
  obtain ⟨x, hx⟩ : ∃ x, vs[i]? = some x := ⟨vs[i]'hlt, List.getElem?_eq_getElem hlt⟩;have hxs := hs x (List.mem_of_getElem? hx);have hxa := hxs.acts;have hxd := hxs.downs;obtain ⟨z1, z2, z3, z4, z5⟩ := hz x (List.mem_of_getElem? hx);refine aT rfl rfl ?_;refine aA (aB rfl) rfl ?_;refine aT rfl rfl ?_;refine aA (fN rfl rfl) rfl ?_;refine aA (bG rfl rfl) rfl ?_;refine aF (aE ?_);refine bJ 15 rfl (fun h15 => ?_) (fun h15 => ?_)
  ·
   refine aX ?_;refine aE (aG ?_);refine a7 (aG ?_);refine cT (anc := [0, 0, 0, 6, 14, 30, 62, 127, 0, 0, 768, 1792, 3840, 7936, 16383, 0, 0, 98304, 229376, 491520, 1015808, 2097151, 0, 0, 12582912, 29360128, 62914560, 130023424, 268435455, 536870911]) (ord := [0, 1, 2, 3, 4, 5, 6, 7, 8, 9, 10, 11, 12, 13, 14, 15, 16, 17, 18, 19, 20, 21, 22, 23, 24, 25, 26, 27, 28, 29]) [] [] mixed (by decide +kernel) (dJ _) ?_;refine aK rfl rfl (.none rfl) rfl rfl (aB rfl) rfl ?_;refine aK rfl rfl (.none rfl) rfl rfl (aB rfl) rfl ?_;refine aK rfl rfl (.none rfl) rfl rfl (aB rfl) rfl ?_;refine aK rfl rfl (.none rfl) rfl rfl (bD (k := cM) eT rfl aN rfl rfl (by first | assumption | omega)) rfl ?_;refine aK rfl rfl (.none rfl) rfl rfl (bV (k := cM) j5 rfl aN (by first | assumption | omega)) rfl ?_;refine aK rfl rfl (.none rfl) rfl rfl (dK (k := cM) ts9 rfl aN dF rfl) rfl ?_;refine aK rfl rfl (.none rfl) rfl rfl (bU rfl Tryz.underlying9 rfl) rfl ?_;refine aK rfl rfl (.none rfl) rfl rfl (bY rfl rfl aI aI) rfl ?_;refine aK rfl rfl (.none rfl) rfl rfl (aB rfl) rfl ?_;refine aK rfl rfl (.none rfl) rfl rfl (aB rfl) rfl ?_;refine aK rfl rfl (.none rfl) rfl rfl (bD (k := cM) eT rfl aN rfl rfl (by first | assumption | omega)) rfl ?_;refine aK rfl rfl (.none rfl) rfl rfl (bV (k := cM) j6 rfl aN (by first | assumption | omega)) rfl ?_;refine aK rfl rfl (.none rfl) rfl rfl (dK (k := cM) ts9 rfl aN dF rfl) rfl ?_;refine aK rfl rfl (.none rfl) rfl rfl (bU rfl Tryz.underlying9 rfl) rfl ?_;refine aK rfl rfl (.none rfl) rfl rfl (bY rfl rfl aI aI) rfl ?_;refine aK rfl rfl (.none rfl) rfl rfl (aB rfl) rfl ?_;refine aK rfl rfl (.none rfl) rfl rfl (aB rfl) rfl ?_;refine aK rfl rfl (.none rfl) rfl rfl (bD (k := cM) eT rfl aN rfl rfl (by first | assumption | omega)) rfl ?_;refine aK rfl rfl (.none rfl) rfl rfl (bV (k := cM) o5 rfl aN (by first | assumption | omega)) rfl ?_;refine aK rfl rfl (.none rfl) rfl rfl (dK (k := cM) ts55 rfl aN dF rfl) rfl ?_;refine aK rfl rfl (.none rfl) rfl rfl (bM (k := nE 3) rfl Tryz.underlying55 rfl (.known hxd)) rfl ?_;refine aK rfl rfl (.none rfl) rfl rfl (bY rfl rfl aI aI) rfl ?_;refine aK rfl rfl (.none rfl) rfl rfl (aB rfl) rfl ?_;refine aK rfl rfl (.none rfl) rfl rfl (aB rfl) rfl ?_;refine aK rfl rfl (.none rfl) rfl rfl (bD (k := cM) eT rfl aN rfl rfl (by first | assumption | omega)) rfl ?_;refine aK rfl rfl (.none rfl) rfl rfl (bV (k := cM) gS rfl aN (by first | assumption | omega)) rfl ?_;refine aK rfl rfl (.none rfl) rfl rfl (dK (k := cM) ts29 rfl aN dF rfl) rfl ?_;refine aK rfl rfl (.none rfl) rfl rfl (bM (k := dG) rfl Tryz.underlying29 rfl (.known hxa)) rfl ?_;refine aK rfl rfl (.none rfl) rfl rfl (eH (v := i64 ((n + x.id.length + x.text.length + x.downs.length + x.acts.length : Nat) : Int)) (bY rfl rfl aI aI) (congrArg (Value.int .i64) aI)) rfl ?_;refine aK rfl rfl (.none rfl) rfl rfl (aD rfl) rfl ?_;refine cO ?_;refine aE (aG ?_);refine aC ?_;refine aA (aD rfl) rfl ?_;refine aF (aE ?_);refine a7 ?_;refine l5 (fun (k n2 : Nat) => k ≤ x.acts.length ∧ n + x.id.length + x.text.length + x.downs.length + x.acts.length ≤ n2 ∧ n2 ≤ 1000000000000000 ∧ (n2 ≤ 65536 → ∀ a ∈ x.acts.take k, a.2.length ≤ n2)) (fun k n2 => [(0, vv), (3, i64 n2), (4, i64 i), (5, i64 k)]) (fun _ _ => K) (fun _ _ => []) (fun k _ => x.acts.length - k) 0 _ ⟨Nat.zero_le _, Nat.le_refl _, by omega, fun _ a h => by simp at h⟩ (.cons 0 rfl (.cons 3 rfl (.cons 4 rfl (.cons 5 rfl .nil)))) rfl (fun _ h => h) ?_;intro k n2 ⟨hk, hm1, hm2, hm3⟩;refine aG (aG ?_);refine aC ?_;refine aA (aB rfl) rfl ?_;refine aA (aB rfl) rfl ?_;refine aA (aB rfl) rfl ?_;refine aA (bD (k := cM) eT rfl aN rfl rfl (by first | assumption | omega)) rfl ?_;refine aA (bV (k := cM) gS rfl aN (by first | assumption | omega)) rfl ?_;refine aA (dK (k := cM) ts29 rfl aN dF rfl) rfl ?_;refine aA (bM (k := dG) rfl Tryz.underlying29 rfl (.known hxa)) rfl ?_;refine aA (cZ rfl rfl) rfl ?_;refine aA (aB rfl) rfl ?_;refine bS 55 rfl (fun g55 => ?_) (fun g55 => ?_)
   ·
    have hkl : k < x.acts.length := by omega
    obtain ⟨a, ha⟩ : ∃ a, x.acts[k]? = some a := ⟨x.acts[k]'hkl, List.getElem?_eq_getElem hkl⟩;have hal := z5 a (List.mem_of_getElem? ha);refine aT rfl rfl ?_;refine aA (aB rfl) rfl ?_;refine aT rfl rfl ?_;refine aA (fN rfl rfl) rfl ?_;refine aA (bG rfl rfl) rfl ?_;refine aF (aE ?_);refine bJ 58 rfl (fun h58 => ?_) (fun h58 => ?_)
    ·
     refine aX ?_;refine aE (aG ?_);refine a7 (aC ?_);refine aA (aB rfl) rfl ?_;refine aA (aB rfl) rfl ?_;refine aA (aB rfl) rfl ?_;refine aA (bD (k := cM) eT rfl aN rfl rfl (by first | assumption | omega)) rfl ?_;refine aA (bV (k := cM) gS rfl aN (by first | assumption | omega)) rfl ?_;refine aA (dK (k := cM) ts29 rfl aN dF rfl) rfl ?_;refine aA (aB rfl) rfl ?_;refine aA (bD (k := dG) (j := k) kS rfl (.known hxa) rfl rfl aI) rfl ?_;refine aA (bV (k := dG) (j := k) e9 rfl (.known hxa) hkl) rfl ?_;refine aA (dK (k := dG) ts9 rfl (.known hxa) ha rfl) rfl ?_;refine aA (bU rfl Tryz.underlying9 rfl) rfl ?_;refine aA (eH (v := i64 ((n2 + a.2.length : Nat) : Int)) (bY rfl rfl aI aI) (congrArg (Value.int .i64) aI)) rfl ?_;refine aA (aD rfl) rfl ?_;refine aF (aU ?_);refine aE (aC ?_);refine aA (aB rfl) rfl ?_;refine aA (bY rfl rfl aI aI) rfl ?_;refine aA (aD rfl) rfl ?_;refine aF ?_;refine iC (k + 1) (n2 + a.2.length) ⟨by omega, by omega, by omega, fun hn b hb => ?_⟩ aI (.cons 0 rfl (.cons 3 rfl (.cons 4 rfl (.cons 5 rfl .nil)))) rfl (fun _ h => h)
     rw [List.take_succ_eq_append_getElem hkl] at hb;rcases List.mem_append.1 hb with hb | hb
     ·have := hm3 aI b hb; omega
     ·rw [List.getElem?_eq_getElem hkl] at ha; injection ha with ha; rw [List.mem_singleton.1 hb, ha]; omega
    ·
     refine cK ?_;refine aP ?_;refine aP ?_;refine bB ?_;refine aU (aE ?_);refine aC ?_;refine aA (aB rfl) rfl ?_;refine aA (bY rfl rfl aI aI) rfl ?_;refine aA (aD rfl) rfl ?_;refine aF ?_;exact iC (i + 1) n2 ⟨by omega, by omega, by omega, fun hn => sE hx (hfit aI) hm1 aI (hm3 hn)⟩ aI (.cons 0 rfl (.cons 3 rfl (.cons 4 rfl .nil))) rfl (fun _ h => h)
   ·
    refine aO rfl rfl rfl ?_;refine aO rfl rfl rfl ?_;refine aA (aZ rfl rfl) rfl ?_;refine aF (aE ?_);refine bL rfl ?_;refine cK ?_;refine aP ?_;refine aP ?_;refine bB ?_;refine aU (aE ?_);refine aC ?_;refine aA (aB rfl) rfl ?_;refine aA (bY rfl rfl aI aI) rfl ?_;refine aA (aD rfl) rfl ?_;refine aF ?_;exact iC (i + 1) n2 ⟨by omega, by omega, by omega, fun hn => sE hx (hfit aI) hm1 aI (hm3 hn)⟩ aI (.cons 0 rfl (.cons 3 rfl (.cons 4 rfl .nil))) rfl (fun _ h => h)
  ·
   refine cK ?_;refine aP ?_;refine aP ?_;refine bB ?_;refine aE (aG ?_);refine aC ?_;refine aA (aB rfl) rfl ?_;refine aA (fN rfl rfl) rfl ?_;refine aA (aD rfl) rfl ?_;refine aF (aE ?_);refine a8 ?_;refine bF .nil ?_;refine bA rfl rfl (Hl.le_refl _) ?_
   first
    | exact ⟨_, rfl, _, rfl, fun hb => ⟨by have := of_decide_eq_true hb; omega, fun y hy => by obtain ⟨j, hj⟩ := List.getElem?_of_mem hy; have hb2 := of_decide_eq_true hb; exact (hfit aI j y (by have := dX hj; omega) hj).mono aI⟩, rfl, rfl⟩
    | exact ⟨_, rfl, _, rfl, fun hb => by have := of_decide_eq_true hb; omega, rfl, rfl⟩
 ·
  refine aO rfl rfl rfl ?_;refine aO rfl rfl rfl ?_;refine aA (aZ rfl rfl) rfl ?_;refine aF (aE ?_);refine bL rfl ?_;refine cK ?_;refine aP ?_;refine aP ?_;refine bB ?_;refine aE (aG ?_);refine aC ?_;refine aA (aB rfl) rfl ?_;refine aA (fN rfl rfl) rfl ?_;refine aA (aD rfl) rfl ?_;refine aF (aE ?_);refine a8 ?_;refine bF .nil ?_;refine bA rfl rfl (Hl.le_refl _) ?_
  first
   | exact ⟨_, rfl, _, rfl, fun hb => ⟨by have := of_decide_eq_true hb; omega, fun y hy => by obtain ⟨j, hj⟩ := List.getElem?_of_mem hy; have hb2 := of_decide_eq_true hb; exact (hfit aI j y (by have := dX hj; omega) hj).mono aI⟩, rfl, rfl⟩
   | exact ⟨_, rfl, _, rfl, fun hb => by have := of_decide_eq_true hb; omega, rfl, rfl⟩
end Go.Proofs
end
section
namespace Go.Proofs
open Go.Shelf
def Tryz.lays172_ren : Go.Shelf.Ren := ⟨fun | 172 => 229 | 244 => 296 | 245 => 297 | 247 => 329 | 279 => 330 | 280 => 331 | 281 => 332 | 282 => 333 | 287 => 350 | 316 => 351 | 171 => 129 | 205 => 352 | 321 => 364 | 322 => 365 | 243 => 223 | 246 => 293 | 283 => 325 | 284 => 326 | 285 => 327 | 286 => 328 | 129 => 240 | 317 => 346 | 318 => 347 | 319 => 348 | 320 => 349 | 337 => 362 | 338 => 363 | n => n, fun | 9 => 9 | 3 => 3 | 75 => 79 | 76 => 219 | 4 => 4 | 5 => 5 | 167 => 448 | 37 => 130 | 0 => 0 | 85 => 449 | 2 => 2 | 168 => 451 | 53 => 345 | 175 => 477 | 46 => 257 | 210 => 480 | 127 => 227 | 145 => 500 | 143 => 498 | 21 => 21 | 171 => 444 | 173 => 446 | 212 => 475 | 51 => 350 | 20 => 20 | 213 => 476 | 232 => 510 | 233 => 511 | 80 => 51 | n => n, fun | 15 => 3 | 16 => 4 | 17 => 2 | 18 => 5 | 19 => 6 | n => n⟩
theorem Tryz.lays172 : Lays.n172 Tryz.prog Tryz.lays172_ren := {
 mixed := by kernel_rfl
 f129 := Tryz.func240.trans (congrArg some aY)
 f171 := Tryz.func129.trans (congrArg some aY)
 f172 := Tryz.func229.trans (congrArg some aY)
 f205 := Tryz.func352.trans (congrArg some aY)
 f243 := Tryz.func223.trans (congrArg some aY)
 f244 := Tryz.func296.trans (congrArg some aY)
 f245 := Tryz.func297.trans (congrArg some aY)
 f246 := Tryz.func293.trans (congrArg some aY)
 f247 := Tryz.func329.trans (congrArg some aY)
 f279 := Tryz.func330.trans (congrArg some aY)
 f280 := Tryz.func331.trans (congrArg some aY)
 f281 := Tryz.func332.trans (congrArg some aY)
 f282 := Tryz.func333.trans (congrArg some aY)
 f283 := Tryz.func325.trans (congrArg some aY)
 f284 := Tryz.func326.trans (congrArg some aY)
 f285 := Tryz.func327.trans (congrArg some aY)
 f286 := Tryz.func328.trans (congrArg some aY)
 f287 := Tryz.func350.trans (congrArg some aY)
 f316 := Tryz.func351.trans (congrArg some aY)
 f317 := Tryz.func346.trans (congrArg some aY)
 f318 := Tryz.func347.trans (congrArg some aY)
 f319 := Tryz.func348.trans (congrArg some aY)
 f320 := Tryz.func349.trans (congrArg some aY)
 f321 := Tryz.func364.trans (congrArg some aY)
 f322 := Tryz.func365.trans (congrArg some aY)
 f337 := Tryz.func362.trans (congrArg some aY)
 f338 := Tryz.func363.trans (congrArg some aY)
 t0 := Tryz.underlying0
 a0 := Tryz.isAgg0
 z0 := Tryz.sizeOf0
 v0 := Tryz.zeroValue0
 t2 := Tryz.underlying2
 a2 := Tryz.isAgg2
 z2 := Tryz.sizeOf2
 v2 := Tryz.zeroValue2
 t3 := Tryz.underlying3
 a3 := Tryz.isAgg3
 z3 := Tryz.sizeOf3
 v3 := Tryz.zeroValue3
 t4 := Tryz.underlying4
 a4 := Tryz.isAgg4
 z4 := Tryz.sizeOf4
 v4 := Tryz.zeroValue4
 t5 := Tryz.underlying5
 a5 := Tryz.isAgg5
 z5 := Tryz.sizeOf5
 v5 := Tryz.zeroValue5
 t9 := Tryz.underlying9
 a9 := Tryz.isAgg9
 z9 := Tryz.sizeOf9
 v9 := Tryz.zeroValue9
 t20 := Tryz.underlying20
 a20 := Tryz.isAgg20
 z20 := Tryz.sizeOf20
 v20 := Tryz.zeroValue20
 t21 := Tryz.underlying21
 a21 := Tryz.isAgg21
 z21 := Tryz.sizeOf21
 v21 := Tryz.zeroValue21
 t37 := Tryz.underlying130
 a37 := Tryz.isAgg130
 z37 := Tryz.sizeOf130
 v37 := Tryz.zeroValue130
 t46 := Tryz.underlying257
 a46 := Tryz.isAgg257
 z46 := Tryz.sizeOf257
 v46 := Tryz.zeroValue257
 t51 := Tryz.underlying350
 a51 := Tryz.isAgg350
 z51 := Tryz.sizeOf350
 v51 := Tryz.zeroValue350
 t53 := Tryz.underlying345
 a53 := Tryz.isAgg345
 z53 := Tryz.sizeOf345
 v53 := Tryz.zeroValue345
 t75 := Tryz.underlying79
 a75 := Tryz.isAgg79
 z75 := Tryz.sizeOf79
 v75 := Tryz.zeroValue79
 t76 := Tryz.underlying219
 a76 := Tryz.isAgg219
 z76 := Tryz.sizeOf219
 v76 := Tryz.zeroValue219
 t85 := Tryz.underlying449
 a85 := Tryz.isAgg449
 z85 := Tryz.sizeOf449
 v85 := Tryz.zeroValue449
 t127 := Tryz.underlying227
 a127 := Tryz.isAgg227
 z127 := Tryz.sizeOf227
 v127 := Tryz.zeroValue227
 t143 := Tryz.underlying498
 a143 := Tryz.isAgg498
 z143 := Tryz.sizeOf498
 v143 := Tryz.zeroValue498
 t145 := Tryz.underlying500
 a145 := Tryz.isAgg500
 z145 := Tryz.sizeOf500
 v145 := Tryz.zeroValue500
 t167 := Tryz.underlying448
 a167 := Tryz.isAgg448
 z167 := Tryz.sizeOf448
 v167 := Tryz.zeroValue448
 t168 := Tryz.underlying451
 a168 := Tryz.isAgg451
 z168 := Tryz.sizeOf451
 v168 := Tryz.zeroValue451
 t171 := Tryz.underlying444
 a171 := Tryz.isAgg444
 z171 := Tryz.sizeOf444
 v171 := Tryz.zeroValue444
 t173 := Tryz.underlying446
 a173 := Tryz.isAgg446
 z173 := Tryz.sizeOf446
 v173 := Tryz.zeroValue446
 t175 := Tryz.underlying477
 a175 := Tryz.isAgg477
 z175 := Tryz.sizeOf477
 v175 := Tryz.zeroValue477
 t210 := Tryz.underlying480
 a210 := Tryz.isAgg480
 z210 := Tryz.sizeOf480
 v210 := Tryz.zeroValue480
 t212 := Tryz.underlying475
 a212 := Tryz.isAgg475
 z212 := Tryz.sizeOf475
 v212 := Tryz.zeroValue475
 t213 := Tryz.underlying476
 a213 := Tryz.isAgg476
 z213 := Tryz.sizeOf476
 t232 := Tryz.underlying510
 a232 := Tryz.isAgg510
 z232 := Tryz.sizeOf510
 v232 := Tryz.zeroValue510
 t233 := Tryz.underlying511
 a233 := Tryz.isAgg511
 z233 := Tryz.sizeOf511
 v233 := Tryz.zeroValue511
 g15 := by kernel_rfl
 g16 := by kernel_rfl
 g17 := by kernel_rfl
 g18 := by kernel_rfl
 g19 := by kernel_rfl }
open Go.SL in
theorem wX (s : List UInt8) (n : Int) (hl : s.length ≤ 18) (h : Lib.atoi s = some n) (K : Hl) : Sp Tryz.prog 229 [str s] K [] (Val (.tuple #[i64 n, .nilIface]) K) := by
 refine gY ⟨_, Tryz.func229, rfl, rfl⟩ fun w hw => (Any.strconv_Atoi Tryz.lays172 ⟨s.toArray⟩ n (by simpa [ByteArray.size] using hl) h w).mono fun e w' ⟨he, t, hw'⟩ => ⟨he, ?_⟩
 rw [hw']; exact ⟨rfl, rfl, rfl, by rw [Lib.bytesWorld_size]; omega, fun j hj => Lib.bytesWorld_at_old w _ t j hj⟩
end Go.Proofs
end
section
namespace Go.Proofs
open Go Go.SL Go.Syn Go.Box
theorem zA (s sep : aJ) (K : Hl) (hg : Glob K) (hs : s.length < 4294967281) : Sp Tryz.prog 228 [str s, str sep] K [] (Val (.tuple #[str (Lib.cut s sep).1, str (Lib.cut s sep).2.1, .bool (Lib.cut s sep).2.2]) K) := by
 obtain ⟨m, T, fz, hm⟩ := hg.maxLen;refine gY ⟨_, Tryz.func228, rfl, rfl⟩ fun w hw => (Tryz.strings_Cut ⟨s.toArray⟩ ⟨sep.toArray⟩ m w (by simpa [ByteArray.size] using hs) (iR (hw _ _ hm) rfl)).mono fun e w' ⟨he, n, hw'⟩ => ⟨he, ?_⟩
 rw [hw']; exact ⟨rfl, rfl, rfl, Nat.le_refl _, fun j hj => rfl⟩
theorem mD {s sep a b : aJ} {ok : Bool} (h : Lib.cut s sep = (a, b, ok)) (K : Hl) (hg : Glob K) (hs : s.length < 4294967281) : Sp Tryz.prog 228 [str s, str sep] K [] (Val (.tuple #[str a, str b, .bool ok]) K) := by
 have := zA s sep K hg hs;rw [h] at this; exact this
def UnpR (r : Option (List File)) : Ending → Hl → List Asn → Prop := Ret fun v K' L' => match r with
 | some xs => ∃ u, v = .tuple #[u, .bool true] ∧ L' = [sl false aV u xs]
 | none => v = .tuple #[.slice none 0 0, .bool false] ∧ L' = []
theorem yZ {s a b : aJ} {ok : Bool} (h : Lib.cut s [10] = (a, b, ok)) : b.length ≤ s.length := by
 rcases n4 10 s with h1 | ⟨x, y, h1, h2, h3⟩
 ·by_cases hm : (10 : UInt8) ∈ s
  ·rw [h] at h1;obtain rfl : ok = false := h1;unfold Lib.cut at h;split at h
   ·cases h
   ·cases h; exact Nat.zero_le _
  ·rw [pQ hm] at h; cases h; exact Nat.zero_le _
 ·rw [h3] at h; cases h; rw [h2]; simp; omega
theorem yJ {d : aJ} {r : Option (List File)} (h : hY d r) : ∃ a b ok, Lib.cut d [10] = (a, b, ok) ∧ d.length ≤ 1000000100 ∧ ((r = none ∧ ok = false) ∨ (r = none ∧ ok = true ∧ a ≠ gJ b) ∨ (∃ xs, r = some xs ∧ eD xs ∧ ok = true ∧ a = gJ b ∧ b = bodyC xs)) := by
 obtain ⟨xs, hx, h⟩ := h;have hl : (c8 xs).length ≤ 1000000100 := by
  have h1 := Lib.itoa_length_le ((bodyC xs).length : Int) (by have := hx.2.1; omega) (by have := hx.2.1; omega);have h2 := lS (lC (bodyC xs));have := hx.2.1;simp only [c8, gJ, List.length_append, List.length_singleton]; omega
 rcases h with ⟨rfl, rfl⟩ | ⟨h1, h2, rfl⟩
 ·exact ⟨_, _, _, aAH xs, hl, .inr (.inr ⟨xs, rfl, hx, rfl, rfl, rfl⟩)⟩
 ·have h3 := aA1 h1 h2;have h4 := h1.length_le
  generalize hc : Lib.cut d [10] = c at h3
  obtain ⟨a, b, ok⟩ := c;refine ⟨a, b, ok, rfl, by omega, ?_⟩
  cases ok with
  | false => exact .inl ⟨rfl, rfl⟩
  | true => exact .inr (.inl ⟨rfl, rfl, by rcases h3 with h3 | h3; cases h3; exact h3⟩)
theorem yK (d : aJ) (r : Option (List File)) (h : hY d r) (K : Hl) (hg : Glob K) (hdb : Deb K) : Sp Tryz.prog 135 [str d] K [] (UnpR r) := by
 obtain ⟨a, b, ok, hcut, hdl, hcase⟩ := yJ h;have hbl := yZ hcut;have hil := Lib.itoa_length_le (b.length : Int) aI aI;have hxl := lS (lC b);refine bE Tryz.func135 rfl Tryz.ntmps135 rfl rfl fun F w => ?_
 refine aG (aC ?_);refine aA (aD rfl) rfl ?_;refine aA (aD rfl) rfl ?_;refine aF (aE ?_);refine aG (aC ?_);refine aA (aB rfl) rfl ?_;refine bN rfl rfl (mD hcut _ hg aI) rfl ?_;refine aA (aB rfl) rfl ?_;refine aA (aQ rfl rfl) rfl ?_;refine aA (aQ rfl rfl) rfl ?_;refine aA (aQ rfl rfl) rfl ?_;refine aA (aD rfl) rfl ?_;refine aA (aD rfl) rfl ?_;refine aA (aD rfl) rfl ?_;refine aF (aE ?_);rcases hcase with ⟨rfl, rfl⟩ | ⟨rfl, rfl, hne⟩ | ⟨xs, rfl, hok, rfl, rfl, rfl⟩
 ·
  refine aG (aG ?_);refine aC ?_;refine aA (aB rfl) rfl ?_;refine aA (dL rfl) rfl ?_;refine aA (aB rfl) rfl ?_;refine aO rfl rfl rfl ?_;refine aO rfl rfl rfl ?_;refine aO rfl rfl rfl ?_;refine aO rfl rfl rfl ?_;refine aO rfl rfl rfl ?_;refine aO rfl rfl rfl ?_;refine aO rfl rfl rfl ?_;refine aO rfl rfl rfl ?_;refine aO rfl rfl rfl ?_;refine aO rfl rfl rfl ?_;refine aA (bG rfl rfl) rfl ?_;refine aF (aE ?_);refine dH rfl ?_;refine aG (aC ?_);refine aA (aD rfl) rfl ?_;refine aA (aD rfl) rfl ?_;refine aF (aE ?_);refine a8 ?_;refine aR ?_;refine cR rfl rfl rfl (Hl.le_refl _) ?_;exact ⟨_, rfl, rfl, rfl⟩
 ·
  refine aG (aG ?_);refine aC ?_;refine aA (aB rfl) rfl ?_;refine aA (dL rfl) rfl ?_;refine aA (aB rfl) rfl ?_;refine aT rfl rfl ?_;refine aA (aB rfl) rfl ?_;refine aT rfl rfl ?_;refine aA (aB rfl) rfl ?_;refine aT rfl rfl ?_;refine aA (bU rfl Tryz.underlying9 rfl) rfl ?_;refine aT rfl rfl ?_;refine bN rfl rfl (iE _ aI aI _ hg) rfl ?_;refine aT rfl rfl ?_;refine aA (cC rfl rfl (by simp only [List.length_singleton]; omega)) rfl ?_;refine aT rfl rfl ?_;refine aA (aB rfl) rfl ?_;refine aT rfl rfl ?_;refine bN rfl rfl (mQ _ aI _) rfl ?_;refine aT rfl rfl ?_;refine bN rfl rfl (qY _ (lC _) _ hdb) rfl ?_;refine aT rfl rfl ?_;refine aA (cC rfl rfl (by simp only [List.length_append, List.length_singleton]; omega)) rfl ?_;refine aT rfl rfl ?_;refine aA (ev_T (qT rfl rfl) hne) rfl ?_;refine aA (aZ rfl rfl) rfl ?_;refine aF (aE ?_);refine dH rfl ?_;refine aG (aC ?_);refine aA (aD rfl) rfl ?_;refine aA (aD rfl) rfl ?_;refine aF (aE ?_);refine a8 ?_;refine aR ?_;refine cR rfl rfl rfl (Hl.le_refl _) ?_;exact ⟨_, rfl, rfl, rfl⟩
 ·
  refine aG (aG ?_);refine aC ?_;refine aA (aB rfl) rfl ?_;refine aA (dL rfl) rfl ?_;refine aA (aB rfl) rfl ?_;refine aT rfl rfl ?_;refine aA (aB rfl) rfl ?_;refine aT rfl rfl ?_;refine aA (aB rfl) rfl ?_;refine aT rfl rfl ?_;refine aA (bU rfl Tryz.underlying9 rfl) rfl ?_;refine aT rfl rfl ?_;refine bN rfl rfl (iE _ aI aI _ hg) rfl ?_;refine aT rfl rfl ?_;refine aA (cC rfl rfl (by simp only [List.length_singleton]; omega)) rfl ?_;refine aT rfl rfl ?_;refine aA (aB rfl) rfl ?_;refine aT rfl rfl ?_;refine bN rfl rfl (mQ _ aI _) rfl ?_;refine aT rfl rfl ?_;refine bN rfl rfl (qY _ (lC _) _ hdb) rfl ?_;refine aT rfl rfl ?_;refine aA (cC rfl rfl (by simp only [List.length_append, List.length_singleton]; omega)) rfl ?_;refine aT rfl rfl ?_;refine aA (ev_F (qT rfl rfl) (fun h => h rfl)) rfl ?_;refine aA (aZ rfl rfl) rfl ?_;refine aF (aE ?_);refine bL rfl ?_;refine aX ?_;refine aE (aG ?_);refine aC ?_;refine aA (aD rfl) rfl ?_;refine aF (aE ?_);refine aG (a7 ?_);refine fQ (dZ aV) ?_;refine l5 (fun (i : Nat) (u : Value) => i ≤ xs.length) (fun i u => [(5, str (bodyC (xs.drop i))), (7, u)]) (fun _ _ => K) (fun i u => [sl false aV u (xs.take i)]) (fun i _ => xs.length - i) 0 (.slice none 0 0) (Nat.zero_le _) (.cons 5 rfl (.cons 7 rfl .nil)) rfl (fun _ h => h) ?_;intro i u hi;refine aG (aG ?_);refine aC ?_;refine aA (aB rfl) rfl ?_;refine aA (qT rfl rfl) rfl ?_;refine aF (aE ?_);refine bJ 35 rfl (fun h35 => ?_) (fun h35 => ?_)
  ·
   have hlt : i < xs.length := by rcases Nat.lt_or_ge i xs.length with h | h; exact h; rw [List.drop_of_length_le h] at h35; exact absurd rfl h35
   obtain ⟨f, hx, hxi⟩ : ∃ f, xs[i]? = some f ∧ f = xs[i]'hlt := ⟨xs[i]'hlt, List.getElem?_eq_getElem hlt, rfl⟩;rw [vB hx];have hnm := hok.1 f (List.mem_of_getElem? hx);have hel := jS (List.mem_of_getElem? hx);have hbl2 := hok.2.1;have hbt : (bodyC (xs.drop (i + 1))).length ≤ (bodyC xs).length := (by rw [show bodyC xs = bodyC (xs.take (i + 1)) ++ bodyC (xs.drop (i + 1)) from by unfold Box.bodyC; rw [← List.flatMap_append, List.take_append_drop]]; simp);have hel2 : (entryC f).length = f.1.length + 1 + (Lib.itoa f.2.length).length + 1 + f.2.length := by simp [entryC]; omega
   have hil2 : (Lib.itoa (f.2.length : Int)).length ≤ 10 := (by rw [Lib.itoa_nonneg]; exact vE 9 _ aI);refine aX ?_;refine aE (a7 ?_);refine aG (aC ?_);refine aA (aD rfl) rfl ?_;refine aF (aE ?_);refine aG (aC ?_);refine aA (aB rfl) rfl ?_;refine bN rfl rfl (mD (xM hnm) _ hg (by rw [List.length_append]; omega)) rfl ?_;refine aA (aB rfl) rfl ?_;refine aA (aQ rfl rfl) rfl ?_;refine aA (aQ rfl rfl) rfl ?_;refine aA (aQ rfl rfl) rfl ?_;refine aA (aD rfl) rfl ?_;refine aA (aD rfl) rfl ?_;refine aF (aE ?_);refine aG (aC ?_);refine aA (aB rfl) rfl ?_;refine bN rfl rfl (mD (xN hnm) _ hg (by simp only [List.length_append, List.length_singleton]; omega)) rfl ?_;refine aA (aB rfl) rfl ?_;refine aA (aQ rfl rfl) rfl ?_;refine aA (aQ rfl rfl) rfl ?_;refine aA (aQ rfl rfl) rfl ?_;refine aA (aD rfl) rfl ?_;refine aA (aD rfl) rfl ?_;refine aA (aD rfl) rfl ?_;refine aF (aE ?_);refine aG (aC ?_);refine aA (aB rfl) rfl ?_;refine bN rfl rfl (wX _ _ aI (nU f.2.length) _) rfl ?_;refine aA (aB rfl) rfl ?_;refine aA (aQ rfl rfl) rfl ?_;refine aA (aQ rfl rfl) rfl ?_;refine aA (aD rfl) rfl ?_;refine aA (aD rfl) rfl ?_;refine aF (aE ?_);refine aG (aG ?_);refine aC ?_;refine aA (aB rfl) rfl ?_;refine aA (eP Tryz.underlying79 rfl) rfl ?_;refine aA (aB rfl) rfl ?_;refine aT rfl rfl ?_;refine aA (aB rfl) rfl ?_;refine aT rfl rfl ?_;refine aA (aB rfl) rfl ?_;refine aT rfl rfl ?_;refine aA (bU rfl Tryz.underlying9 rfl) rfl ?_;refine aT rfl rfl ?_;refine aA (ev_F (iV rfl rfl) (by rw [List.length_append]; omega)) rfl ?_;refine aA (aZ rfl rfl) rfl ?_;refine aF (aE ?_);refine bL rfl ?_;refine aX ?_;refine aE (aG ?_);refine aC ?_;refine aA (aB rfl) rfl ?_;refine aA (aB rfl) rfl ?_;refine aA (aB rfl) rfl ?_;refine aA (aB rfl) rfl ?_;refine aA (eH (v := str f.2) (nA (n := f.2.length) Tryz.underlying9 rfl rfl rfl (by rw [List.length_append]; omega)) (by rw [List.take_left])) rfl ?_;refine aA (eN tb66 o3 (.cons rfl rfl rfl (.cons .nil) (.cons rfl rfl rfl (.skip (.cons .nil)) .nil))) rfl ?_;refine ol_s (cL (z0 := [(str []), (str [])]) cD tz66 rfl rfl rfl rfl (.cons rfl rfl rfl (.cons (.cons .nil)) .nil)) rfl ?_;rintro _ K _ ⟨b67, rfl, rfl, rfl⟩ -;refine ol_s (dO (k := aV) (ys := [f]) c6 rfl rfl bI (fun w j => dE Tryz.underlying62 (SeesSl.at (k := aV) (.blk (.own .here) rfl rfl) j)) (by show ((xs.take i).length + 1) * 32 ≤ 140737488355328; rw [List.length_take]; have := hok.2.2; omega) (by show (xs.take i).length + 1 ≤ 9223372036854775807; rw [List.length_take]; have := hok.2.2; omega)) rfl ?_;rintro v68 K _ ⟨rfl, rfl, ho68⟩ -;refine aA (aD rfl) rfl ?_;refine aF (aE ?_);refine aC ?_;refine aA (aB rfl) rfl ?_;refine aA (aB rfl) rfl ?_;refine aA (eH (v := str (bodyC (xs.drop (i + 1)))) (kX (m := f.2.length) Tryz.underlying9 rfl rfl rfl (by rw [List.length_append]; omega)) (by rw [List.drop_left])) rfl ?_;refine aA (aD rfl) rfl ?_;refine aF (aU ?_);refine bF (.cons .here .nil) ?_;refine iC (i + 1) _ aI aI (.cons 5 rfl (.cons 7 rfl .nil)) rfl (fun _ h => by rw [List.take_succ_eq_append_getElem hlt, ← hxi]; exact h)
  ·
   have hie : i = xs.length := (Nat.lt_or_ge i xs.length).elim (fun h => absurd (by rw [vB (List.getElem?_eq_getElem h)]; exact zH _ _) h35) (fun h => by omega);subst hie;rw [List.take_length];refine cK ?_;refine aP ?_;refine aP ?_;refine bB ?_;refine aE (aG ?_);refine aC ?_;refine aA (aB rfl) rfl ?_;refine aA (aD rfl) rfl ?_;refine aA (aD rfl) rfl ?_;refine aF (aE ?_);refine a8 ?_;refine bF (.cons .here .nil) ?_;refine cR rfl rfl rfl (Hl.le_refl _) ?_;exact ⟨_, rfl, _, rfl, rfl⟩
end Go.Proofs
end
section
namespace Go.Proofs
open Go Go.SL Go.Syn Go.Box Go.Mach
theorem mT {s s1 : DSt} (h : bQ s = (none, s1)) : s1.down = false := by
 unfold bQ at h;split at h
 ·rename_i he; rw [show s.we = none from congrArg Prod.fst h] at he; cases he
 ·rename_i he;cases h
  show (cN s.left s.full s.down).2.2.2 = false
  have : (cN s.left s.full s.down).1.isSome ≠ true := he;unfold cN at this ⊢;split
  ·rw [if_pos dF] at this; simp at this
  ·split <;> rfl
theorem oS {n d : aJ} {s : DSt} (hd : s.down = false) (hn : s.now n = some d) : gX n s = (d, none) := by unfold gX; rw [if_neg (by rw [hd]; simp), hn]
theorem aAN {r : Option (List File)} {s s1 : DSt} {e : Int} (h : bQ s = (some e, s1)) : bK r s = (some e, s1) := by unfold bK; rw [h]; rfl
theorem xV {r : Option (List File)} {s s1 : DSt} (h : bQ s = (none, s1)) (hj : s1.now aS = none) : bK r s = (none, s1) := by unfold bK; rw [h]; simp [oR (mT h) hj]
theorem p0 {r : Option (List File)} {s s1 : DSt} {d : aJ} (h : bQ s = (none, s1)) (hj : s1.now aS = some d) : bK r s = kY r s1 := by unfold bK; rw [h]; simp [oS (mT h) hj]
def Says (s : DSt) (r : Option (List File)) : Prop := ∀ s1 d, bQ s = (none, s1) → s1.now aS = some d → hY d r
theorem aCS {d : aJ} {xs : List File} (h : hY d (some xs)) : eD xs := by
 obtain ⟨fs, h1, ⟨-, h2⟩ | ⟨-, -, h2⟩⟩ := h
 ·injection h2 with h2; rw [h2]; exact h1
 ·cases h2
theorem aDW {xs : List File} (h : eD xs) : ∀ f ∈ xs, f.2.length ≤ 140737488355328 := fun f hf => by
 have h1 := jS hf;have h2 := h.2.1;have h3 : (Box.entryC f).length = f.1.length + 1 + (Lib.itoa f.2.length).length + 1 + f.2.length := by simp [Box.entryC]; omega
 omega
theorem aCY (b : Nat) (s : DSt) (r : Option (List File)) (hun : Says s r) (K K0 : Hl) (le : K0.le K) (hg : Glob K) (hdb : Deb K) (hp : s.pend.length ≤ 600000) :
  Sp Tryz.prog 82 [dV b] K [dsk K0 b s] (Ret fun v K' L' => v = erV (bK r s).1 ∧ L' = [dsk K' b (bK r s).2]) := by
 have hsp := fE s;refine bE Tryz.func82 rfl Tryz.ntmps82 rfl rfl fun F w => ?_
 refine aG (aC ?_);refine ol_s (gO rfl rfl) rfl ?_;rintro _ K _ ⟨b1, rfl, rfl, rfl⟩ -;refine aA (aD rfl) rfl ?_;refine aF (aE ?_);refine aG (aG ?_);refine gQ fun K1 le1 hb1 => ?_
 refine aC ?_;refine aA (aM iO rfl aN rfl) rfl ?_;refine gM rfl rfl (aDF b) (vZ b s aI _ _ (Hl.le_trans le le1)) (.cons .here .nil) rfl ?_;rintro _ K2 _ ⟨rfl, rfl⟩ le2;refine aA (aD rfl) rfl ?_;refine aF (aE ?_);rcases hsy : bQ s with ⟨_ | e, s1⟩
 ·
  refine aG (aC ?_);refine aA (aB rfl) rfl ?_;refine aA (eP Tryz.underlying79 rfl) rfl ?_;refine aF (aE ?_);refine bL rfl ?_;refine aX ?_;refine aE (aG ?_);have hdn := mT hsy;have hb12 := le2 _ _ hb1;have hr := aCO b s1 aS;rw [hsy] at hsp
  replace hsp : s1.pend.length ≤ s.pend.length := hsp
  refine aC ?_;refine aA (aM iO rfl aN rfl) rfl ?_;refine gM rfl rfl (aFK b) (hr _ _ (Hl.le_refl _)) (.cons .here .nil) rfl ?_;rintro _ K3 _ ⟨u, rfl, rfl⟩ le3;have hb13 := le3 _ _ hb12;refine aA (aB rfl) rfl ?_;refine aA (aQ rfl rfl) rfl ?_;refine aA (aQ rfl rfl) rfl ?_;refine aA (aD rfl) rfl ?_;refine aA (aD rfl) rfl ?_;refine aF (aE ?_);rcases hj : s1.now aS with _ | d
  ·
   refine aG (a7 ?_);refine aG (aC ?_);rw [oR hdn hj];refine aA (aB rfl) rfl ?_;refine aA (cF Tryz.underlying30 (fun _ h => by cases h) rfl) rfl ?_;refine aA (ev_T (qS rfl rfl (fun _ => zI _ _) (fun w => zJ (some 14) 14 w)) rfl) rfl ?_;refine aA (aD rfl) rfl ?_;refine aF (aE ?_);refine dH rfl ?_;refine aG (aC ?_);refine aA (aD rfl) rfl ?_;refine aF (aE ?_);refine a8 ?_;refine bC ?_;refine aR ?_;refine bF (.cons (.there .here) .nil) ?_;refine bA rfl rfl (Hl.le_trans le1 (Hl.le_trans le2 le3)) ?_;rw [xV hsy hj];exact ⟨_, rfl, rfl, rfl⟩
  ·
   refine aG (a7 ?_);refine aG (aC ?_);rw [oS hdn hj];refine aA (aB rfl) rfl ?_;refine aA (cF Tryz.underlying30 (fun _ h => by cases h) rfl) rfl ?_;refine aA (ev_F (qS rfl rfl (fun _ => zI _ _) (fun w => zJ none 14 w)) (by decide)) rfl ?_;refine aA (aD rfl) rfl ?_;refine aF (aE ?_);refine bL rfl ?_;refine aG (aC ?_);refine aA (aB rfl) rfl ?_;refine aA (eP Tryz.underlying79 rfl) rfl ?_;refine aA (aD rfl) rfl ?_;refine aF (aE ?_);refine bL rfl ?_;refine aX ?_;refine aU (aE ?_);have hu := yK d r (hun _ _ hsy hj) K3 (((hg.mono le1).mono le2).mono le3) (((hdb.mono le1).mono le2).mono le3); rcases r with _ | xs
   ·
    refine aG (aG ?_);refine aC ?_;refine aA (aB rfl) rfl ?_;refine aA (fM Tryz.underlying130 Tryz.underlying5 Tryz.underlying9 rfl aN) rfl ?_;refine bH rfl rfl hu .nil rfl ?_;rintro _ K4 _ ⟨rfl, rfl⟩ le4;have hb14 := le4 _ _ hb13;refine aA (aB rfl) rfl ?_;refine aA (aQ rfl rfl) rfl ?_;refine aA (aQ rfl rfl) rfl ?_;refine aA (aD rfl) rfl ?_;refine aA (aD rfl) rfl ?_;refine aF (aE ?_);refine aG (aC ?_);refine aA (aB rfl) rfl ?_;refine aF (aE ?_);refine bL rfl ?_;refine aX ?_;refine aE (aG ?_);refine aC ?_;refine aA (d6 rfl rfl) rfl ?_;refine aA (aM iO rfl aN rfl) rfl ?_;refine aA b0 rfl ?_;refine aA (d6 rfl rfl) rfl ?_;refine ol_s (cL (z0 := [.nilFunc, .nilFunc]) g7 aA7 rfl rfl rfl rfl (.cons rfl rfl rfl (.cons .nil) (.cons rfl rfl rfl (.skip (.cons .nil)) .nil))) rfl ?_;rintro _ K _ ⟨b40, rfl, rfl, rfl⟩ -;refine bH rfl rfl (mR 800000 b b40 [⟨.func (.func 136) #[] #[ptr b1], rfl⟩, ⟨.func (.method "Sync") #[dV b] #[], rfl⟩] [cB aS, bQ] s1 _ _ le4 _ rfl (aE8 (aBS _ _ _ _ _ hb14) (lL _ _)) (by simp; omega) (by simp)) (.cons .here (.cons (.there .here) .nil)) rfl ?_;rintro _ K5 _ ⟨rfl, rfl⟩ le5;refine aA (aD rfl) rfl ?_;refine aF (aE ?_);refine a8 ?_;refine bF (.cons .here .nil) ?_;refine bA rfl rfl (Hl.le_trans le1 (Hl.le_trans le2 (Hl.le_trans le3 (Hl.le_trans le4 le5)))) ?_;rw [p0 hsy hj];exact ⟨_, rfl, rfl, rfl⟩
   ·
    refine aG (aG ?_);refine aC ?_;refine aA (aB rfl) rfl ?_;refine aA (fM Tryz.underlying130 Tryz.underlying5 Tryz.underlying9 rfl aN) rfl ?_;refine bH rfl rfl hu .nil rfl ?_;rintro _ K4 _ ⟨u2, rfl, rfl⟩ le4;have hb14 := le4 _ _ hb13;refine aA (aB rfl) rfl ?_;refine aA (aQ rfl rfl) rfl ?_;refine aA (aQ rfl rfl) rfl ?_;refine aA (aD rfl) rfl ?_;refine aA (aD rfl) rfl ?_;refine aF (aE ?_);refine aG (aC ?_);refine aA (aB rfl) rfl ?_;refine aF (aE ?_);refine dH rfl ?_;refine aG ?_;refine dU fun K5 le5 hu5 => ?_
    have hb15 := le5 _ _ hb14;have hfo := aCS (hun _ _ hsy hj);refine aC ?_;refine aA (aM iO rfl aN rfl) rfl ?_;refine aA (aB rfl) rfl ?_;refine bH rfl rfl (pS b u2 xs s1 _ _ (Hl.le_trans le4 le5) hu5 hfo.2.2 (aDW hfo) aI) (.cons (.there .here) .nil) rfl ?_;rintro _ K6 _ ⟨rfl, rfl⟩ le6;refine aA (aD rfl) rfl ?_;refine aF (aE ?_);refine a8 ?_;refine aR ?_;refine bF (.cons .here .nil) ?_;refine bA rfl rfl (Hl.le_trans le1 (Hl.le_trans le2 (Hl.le_trans le3 (Hl.le_trans le4 (Hl.le_trans le5 le6))))) ?_;rw [p0 hsy hj];exact ⟨_, rfl, rfl, rfl⟩
 ·
  refine aG (aC ?_);refine aA (aB rfl) rfl ?_;refine aA (fR Tryz.underlying79 rfl rfl) rfl ?_;refine aF (aE ?_);refine dH rfl ?_;refine aG (aC ?_);refine aA (aB rfl) rfl ?_;refine aA (aD rfl) rfl ?_;refine aF (aE ?_);refine a8 ?_;refine aR ?_;refine bF (.cons .here .nil) ?_;refine bA rfl rfl (Hl.le_trans le1 le2) ?_;rw [aAN hsy];exact ⟨_, rfl, rfl, rfl⟩
theorem aCK (b : Nat) (s : DSt) (r : Option (List File)) (hun : Says s r) (K K0 : Hl) (le : K0.le K) (hg : Glob K) (hdb : Deb K) (hp : s.pend.length ≤ 600000) :
  Sp Tryz.prog 48 [dV b] K [dsk K0 b s] (Ret fun v K' L' => v = erV (bK r s).1 ∧ L' = [dsk K' b (bK r s).2]) := by
 refine bE Tryz.func48 rfl Tryz.ntmps48 rfl rfl fun F w => ?_
 refine aG (aC ?_);refine aA (aD rfl) rfl ?_;refine aF (aE ?_);refine aG (aC ?_);refine aA (aB rfl) rfl ?_;refine bH rfl rfl (aCY b s r hun _ _ le hg hdb hp) (.cons .here .nil) rfl ?_;rintro _ K1 _ ⟨rfl, rfl⟩ le1;refine aA (aD rfl) rfl ?_;refine aF (aE ?_);refine a8 ?_;refine bA rfl rfl le1 ?_;exact ⟨_, rfl, rfl, rfl⟩
end Go.Proofs
end
section
namespace Go.Proofs
open Go Go.SL Go.Syn Go.Box Go.Mach
theorem vD (bx b : Nat) (l f kept part : Int) (s : DSt) (r : Option (List File)) (hun : Says (s.set l f) r) (K K0 : Hl) (le : K0.le K) (hx : kV K bx b) (hg : Glob K) (hdb : Deb K) (hE : ErrT K) (hp : s.pend.length ≤ 600000)
  (hk1 : -9223372036854775808 ≤ part) (hk2 : part ≤ 9223372036854775807) (hcr : (bK r (s.set l f)).2.down = true → (bK r (s.set l f)).2.pend.length ≤ 1000000 ∧ ∀ o ∈ (bK r (s.set l f)).2.pend, o.data.length ≤ 140737488355328) :
  Sp Tryz.prog 28 [ptr bx, i64 l, i64 f, i64 kept, i64 part] K [dsk K0 b s] (Ret fun v K' L' => v = i64 (errn (bK r (s.set l f)).1) ∧ ∃ t, eX (bK r (s.set l f)).2 t ∧ L' = [dsk K' b t]) := by
 obtain ⟨T, fz, hk⟩ := hx;have hmr := aCK b (s.set l f) r hun
 generalize bK r (s.set l f) = md at hcr hmr ⊢
 refine bE Tryz.func28 rfl Tryz.ntmps28 rfl rfl fun F w => ?_
 refine aG (aC ?_);refine aA (aD rfl) rfl ?_;refine aF (aE ?_);refine aG ?_;refine tB fun L2 hd2 => ?_
 obtain ⟨m1, m2, es1, c1, es2, c2, pv, hm1, hm2, hop, hpv, rfl⟩ := hd2;refine cT (anc := [0, 1, 3, 7, 0, 16, 48, 112, 0, 0, 511, 1535, 3583, 8191, 16383, 32767]) (ord := [0, 1, 2, 3, 4, 5, 6, 7, 8, 9, 10, 11, 12, 13, 14, 15]) [12, 15] [15] mixed (by decide +kernel) .nil ?_;refine aK rfl rfl (.none rfl) rfl rfl (aB rfl) rfl ?_;refine aK rfl rfl (.none rfl) rfl rfl b0 rfl ?_;refine aK rfl rfl (.none rfl) rfl rfl (aH (o' := 0) c7 rfl rfl) rfl ?_;refine aK rfl rfl (.none rfl) rfl rfl (aM f4 rfl aN rfl) rfl ?_;refine aK rfl rfl (.none rfl) rfl rfl (aB rfl) rfl ?_;refine aK rfl rfl (.none rfl) rfl rfl b0 rfl ?_;refine aK rfl rfl (.none rfl) rfl rfl (aH (o' := 0) c7 rfl rfl) rfl ?_;refine aK rfl rfl (.none rfl) rfl rfl (aM f4 rfl aN rfl) rfl ?_;refine aK rfl rfl (.none rfl) rfl rfl (aB rfl) rfl ?_;refine aK rfl rfl (.none rfl) rfl rfl (aB rfl) rfl ?_;refine aK rfl rfl (.none rfl) rfl rfl b0 rfl ?_;refine aK rfl rfl (.none rfl) rfl rfl (aH (o' := 3) fJ rfl rfl) rfl ?_;refine zE rfl rfl (.none rfl) rfl rfl (bT ts3 rfl rfl dM bI (.succ (.succ (.succ .zero))) rfl) ?_;rintro _ K _ ⟨rfl, rfl⟩ -;refine ⟨_, (show Tks _ _ _ from .nil).sat, ?_⟩
 refine aK rfl rfl (.none rfl) rfl rfl b0 rfl ?_;refine aK rfl rfl (.none rfl) rfl rfl (aH (o' := 4) eS rfl rfl) rfl ?_;refine iD rfl rfl (.none rfl) rfl (bT ts3 rfl rfl dM bI (.succ (.succ (.succ (.succ .zero)))) rfl) ?_;rintro _ K _ ⟨rfl, rfl⟩ -;refine cO ?_;refine aE (aG ?_);refine fQ (nM (s := s) (M := []) (l := l) (f := f) hm1 hm2 hop hpv) ?_;refine aC ?_;refine aA (aB rfl) rfl ?_;refine aA b0 rfl ?_;refine aA (aH (o' := 0) c7 rfl rfl) rfl ?_;refine aA (aM f4 rfl aN rfl) rfl ?_;refine aA (cF Tryz.underlying103 (fun _ h => by cases h) rfl) rfl ?_;refine bH rfl rfl (hmr _ _ le hg hdb hp) (.cons .here .nil) rfl ?_;rintro _ K1 _ ⟨rfl, rfl⟩ le1;refine aA (aD rfl) rfl ?_;refine aF (aE ?_);refine aG (aC ?_);refine aA (aB rfl) rfl ?_;refine bH rfl rfl (wD md.1 _ (hE.mono le1)) .nil rfl ?_;rintro _ K1 _ ⟨rfl, rfl, rfl⟩ -;refine aA (aB rfl) rfl ?_;refine aA (aQ rfl rfl) rfl ?_;refine aA (aQ rfl rfl) rfl ?_;refine aA (aD rfl) rfl ?_;refine aA (aD rfl) rfl ?_;refine aF (aE ?_);refine kN (fun (t : DSt) (K4 : Hl) => K1.le K4 ∧ eX md.2 (t.set (-1) (-1))) (fun _ _ => [(0, ptr bx), (12, i64 (errn md.1))]) (fun _ K4 => K4) (fun t K4 => [dsk K4 b t]) ?_ ?_
 ·
  refine aG (aC ?_);refine aAE fun L2 hd2 => ?_
  have hd3 := hd2;obtain ⟨n1, n2, fs1, d1, fs2, d2, qv, hn1, hn2, hoq, hqv, rfl⟩ := hd2;have hk3 := le1 _ _ hk;refine aA (aB rfl) rfl ?_;refine aA b0 rfl ?_;refine aA (aH (o' := 0) c7 rfl rfl) rfl ?_;refine aA (aM f4 rfl aN rfl) rfl ?_;refine aA b0 rfl ?_;refine aA (aH (o' := 5) eK rfl rfl) rfl ?_;refine aA (aM ts4 rfl aN rfl) rfl ?_;refine aF (aE ?_);refine gP 45 rfl (fun h45 => ?_) (fun h45 => ?_)
  ·
   refine fQ (fX hd3) ?_;refine aC ?_;refine aA (aB rfl) rfl ?_;refine aA b0 rfl ?_;refine aA (aH (o' := 0) c7 rfl rfl) rfl ?_;refine aA (aM f4 rfl aN rfl) rfl ?_;refine aA (aB rfl) rfl ?_;refine aA (aB rfl) rfl ?_;refine bH rfl rfl (n3 b md.2 kept part (hcr h45).1 (hcr h45).2 hk1 hk2 _ _ (Hl.le_refl _)) (.cons .here .nil) rfl ?_;rintro _ K4 _ ⟨rfl, t, hct, rfl⟩ le4;refine aF ?_;refine bF (.cons .here .nil) ?_
   first | exact dA t K4 ⟨le4, by unfold eX; rw [if_pos h45]; exact ⟨t, hct, rfl⟩⟩ (.cons 0 rfl (.cons 12 rfl .nil)) rfl (fun _ h => h) | exact dA md.2 K1 ⟨Hl.le_refl _, by unfold eX; rw [if_neg (by rw [h45]; simp)]⟩ (.cons 0 rfl (.cons 12 rfl .nil)) rfl (fun _ h => h)
  ·
   refine fQ (fX hd3) ?_;refine aX ?_;refine bF (.cons .here .nil) ?_
   first | exact dA t K4 ⟨le4, by unfold eX; rw [if_pos h45]; exact ⟨t, hct, rfl⟩⟩ (.cons 0 rfl (.cons 12 rfl .nil)) rfl (fun _ h => h) | exact dA md.2 K1 ⟨Hl.le_refl _, by unfold eX; rw [if_neg (by rw [h45]; simp)]⟩ (.cons 0 rfl (.cons 12 rfl .nil)) rfl (fun _ h => h)
 ·
  intro t K4 ⟨le4, hend⟩;refine aG ?_;have hk4 := le4 _ _ (le1 _ _ hk);refine tB fun L2 hd2 => ?_
  obtain ⟨m1, m2, es1, c1, es2, c2, pv, hm1, hm2, hop, hpv, rfl⟩ := hd2;refine cT (anc := [0, 1, 3, 7, 0, 16, 48, 112, 255, 511, 1023, 2047, 4095, 8191]) (ord := [0, 1, 2, 3, 4, 5, 6, 7, 8, 9, 10, 11, 12, 13]) [10, 13] [10, 13] mixed (by decide +kernel) .nil ?_;refine aK rfl rfl (.none rfl) rfl rfl (aB rfl) rfl ?_;refine aK rfl rfl (.none rfl) rfl rfl b0 rfl ?_;refine aK rfl rfl (.none rfl) rfl rfl (aH (o' := 0) c7 rfl rfl) rfl ?_;refine aK rfl rfl (.none rfl) rfl rfl (aM f4 rfl aN rfl) rfl ?_;refine aK rfl rfl (.none rfl) rfl rfl (aB rfl) rfl ?_;refine aK rfl rfl (.none rfl) rfl rfl b0 rfl ?_;refine aK rfl rfl (.none rfl) rfl rfl (aH (o' := 0) c7 rfl rfl) rfl ?_;refine aK rfl rfl (.none rfl) rfl rfl (aM f4 rfl aN rfl) rfl ?_;refine aK rfl rfl (.none rfl) rfl rfl b0 rfl ?_;refine aK rfl rfl (.none rfl) rfl rfl (aH (o' := 3) fJ rfl rfl) rfl ?_;refine iD rfl rfl (.none rfl) rfl (bT ts3 rfl rfl dM bI (.succ (.succ (.succ .zero))) rfl) ?_;rintro _ K _ ⟨rfl, rfl⟩ -;refine aK rfl rfl (.none rfl) rfl rfl b0 rfl ?_;refine aK rfl rfl (.none rfl) rfl rfl (aH (o' := 4) eS rfl rfl) rfl ?_;refine iD rfl rfl (.none rfl) rfl (bT ts3 rfl rfl dM bI (.succ (.succ (.succ (.succ .zero)))) rfl) ?_;rintro _ K _ ⟨rfl, rfl⟩ -;refine cO ?_;refine aE (aG ?_);refine fQ (nM (s := t) (M := []) (l := -1) (f := -1) hm1 hm2 hop hpv) ?_;refine aC ?_;refine aA (aB rfl) rfl ?_;refine aA (aD rfl) rfl ?_;refine aF (aE ?_);refine a8 ?_;refine bA rfl rfl (Hl.le_trans le1 le4) ?_;exact ⟨_, rfl, rfl, _, hend, rfl⟩
end Go.Proofs
end
section
namespace Go.Proofs
open Go Go.SL Go.Syn Go.Box Go.Mach
theorem j_of {xs : List File} {f g : DMap} (hfj : f aS = none) (h : g = f ∨ g = after xs f) : J xs f g := by
 rcases h with rfl | h
 ·exact .inl ⟨fun _ _ => rfl, .inl hfj⟩
 ·exact .inr (.inr h)
theorem no_j {xs : List File} {f g : DMap} (hfj : f aS = none) (h : g = f ∨ g = after xs f) : g aS = none := by
 rcases h with rfl | rfl
 ·exact hfj
 ·exact gV
theorem i8 (bx d : Nat) (t : DSt) (wv nv : Value) (was next : List cJ) (x : StepV) (xs : List File) (f : DMap) (K K0 : Hl) (le : K0.le K) (hx : kV K bx d) (hg : Glob K) (hdb : Deb K) (hE : ErrT K) (hw : Ksl aV K wv was) (hn : Ksl aV K nv next) (hs : StepIs K x) (hz : StepFit 65536 x)
  (hfw : cX f was) (hfn : cX (after xs f) next) (hwl : was.length ≤ 500000) (hnl : next.length ≤ 500000) (hok : eD xs) (hj : ∀ x ∈ xs, x.1 ≠ aS) (hfj : f aS = none) (hI : BoxI xs f t) :
  Sp Tryz.prog 32 [ptr bx, wv, nv, aDJ x] K [dsk K0 d t] (Ret fun r K' L' => ∃ v l u, r = .tuple #[v, .bool true] ∧ (v = wv ∧ l = was ∨ v = nv ∧ l = next) ∧ Box.Rest u ∧ cX u.dur l ∧ (u.dur = f ∨ u.dur = after xs f) ∧ L' = [dsk K' d u]) := by
 have hz4 := hz.downs;have hp1 := hs.part.1;have hp2 := hs.part.2;have hds := hs.downs;refine bE Tryz.func32 rfl Tryz.ntmps32 rfl rfl fun F w => ?_
 refine aG (aC ?_);refine ol_s (gO rfl rfl) rfl ?_;rintro _ K _ ⟨b7, rfl, rfl, rfl⟩ -;refine aA (aD rfl) rfl ?_;refine kK fun K1 le1 hb7 => ?_
 refine mN (dT (d9 (Hl.le_trans le le1))) ?_;refine aA (aD rfl) rfl ?_;refine aF (aE ?_);refine kN (fun (u : DSt) (K3 : Hl) => K1.le K3 ∧ BoxI xs f u) (fun _ _ => [(0, ptr bx), (1, wv), (2, nv), (7, ptr b7)]) (fun _ K3 => K3) (fun u K3 => [dsk K3 d u]) ?_ ?_
 ·
  refine aG (aC ?_);refine aA (aD rfl) rfl ?_;refine aF (aE ?_);refine a7 ?_;refine g0 (fun (i : Nat) (K2 : Hl) (t : DSt) => i ≤ x.downs.length ∧ K1.le K2 ∧ BoxI xs f t) (fun i _ _ => [(0, ptr bx), (1, wv), (2, nv), (7, ptr b7), (10, i64 i)]) (fun _ K2 _ => K2) (fun _ K2 t => [dsk K2 d t]) (fun i _ _ => x.downs.length - i) 0 K1 t ⟨Nat.zero_le _, Hl.le_refl _, hI⟩ (.cons 0 rfl (.cons 1 rfl (.cons 2 rfl (.cons 7 rfl (.cons 10 rfl .nil))))) rfl (fun _ h => h) ?_;intro i K2 t ⟨hi, leL, hI⟩;refine aG (aG ?_);refine aC ?_;have hb72 := leL _ _ hb7;have le02 := Hl.le_trans le1 leL;have hds2 := hds.mono le02;refine aA (aB rfl) rfl ?_;refine aA (aH (o' := 7) o5 rfl rfl) rfl ?_;refine aA (aM ts55 rfl aN rfl) rfl ?_;refine aA (bM (k := nE 3) rfl Tryz.underlying55 rfl (.known hds2)) rfl ?_;refine aA (cZ rfl rfl) rfl ?_;refine aF (aE ?_);refine bJ 20 rfl (fun h20 => ?_) (fun h20 => ?_)
  ·
   have hlt : i < x.downs.length := by omega
   obtain ⟨dn, hdn⟩ : ∃ dn, x.downs[i]? = some dn := ⟨x.downs[i]'hlt, List.getElem?_eq_getElem hlt⟩;refine aX ?_;refine aE (aG ?_);refine a7 (aG ?_);refine cT (anc := [0, 0, 2, 0, 14, 30, 0, 64, 0, 256, 0, 1024, 4095, 8191]) (ord := [0, 1, 2, 3, 4, 5, 6, 7, 8, 9, 10, 11, 12, 13]) [12] [12] mixed (by decide +kernel) .nil ?_;refine aK rfl rfl (.none rfl) rfl rfl (aB rfl) rfl ?_;refine aK rfl rfl (.none rfl) rfl rfl (aH (o' := 7) o5 rfl rfl) rfl ?_;refine aK rfl rfl (.none rfl) rfl rfl (aM ts55 rfl aN rfl) rfl ?_;refine aK rfl rfl (.none rfl) rfl rfl (aB rfl) rfl ?_;refine aK rfl rfl (.none rfl) rfl rfl (bD (k := nE 3) (j := i) aAZ rfl (.known hds2) rfl rfl hlt) rfl ?_;refine aK rfl rfl (.none rfl) rfl rfl (kG (o := 0) (k := nE 3) ts3 rfl (.known hds2) hdn rfl) rfl ?_;refine aK rfl rfl (.none rfl) rfl rfl (aH (o' := 4) o4 rfl rfl) rfl ?_;refine aK rfl rfl (.none rfl) rfl rfl (aM ts3 rfl aN rfl) rfl ?_;refine aK rfl rfl (.none rfl) rfl rfl (aH (o' := 5) j7 rfl rfl) rfl ?_;refine aK rfl rfl (.none rfl) rfl rfl (aM ts3 rfl aN rfl) rfl ?_;refine aK rfl rfl (.none rfl) rfl rfl (aH (o' := 6) j8 rfl rfl) rfl ?_;refine aK rfl rfl (.none rfl) rfl rfl (aM ts3 rfl aN rfl) rfl ?_;refine eZ rfl (.none rfl) rfl rfl rfl (vD bx d dn x.full x.kept x.part t _ (s8 hok hfj hI dn x.full) _ _ (Hl.le_refl _) (hx.mono le02) (hg.mono le02) (hdb.mono le02) (hE.mono le02) (by have := hI.len; omega) hp1 hp2 (fun _ => nX hok hI dn x.full)) (.cons .here .nil) rfl ?_;rintro _ K3 _ ⟨rfl, u, hu, rfl⟩ le3;have hB := vC hj hok hfj hI dn x.full;refine aK rfl rfl (.none rfl) rfl rfl (aD rfl) rfl ?_;refine cO ?_;refine aE ?_;rcases hB with ⟨he, hT⟩ | ⟨e, he, (rfl | rfl), hT⟩
   ·
    rw [he];refine aG (aG ?_);refine aC ?_;refine aA (aB rfl) rfl ?_;refine aA (bW rfl rfl) rfl ?_;refine aF (aE ?_);refine dH rfl ?_;refine cK ?_;refine aP ?_;refine rZ rfl ?_;refine aP ?_;refine aP ?_;refine bB ?_
    first | exact dA u _ ⟨Hl.le_trans leL le3, kF (hT u hu).1 (j_of hfj (hT u hu).2)⟩ (.cons 0 rfl (.cons 1 rfl (.cons 2 rfl (.cons 7 rfl .nil)))) rfl (fun _ h => h) | exact dA t K2 ⟨leL, hI⟩ (.cons 0 rfl (.cons 1 rfl (.cons 2 rfl (.cons 7 rfl .nil)))) rfl (fun _ h => h)
   ·
    rw [he];refine aG (aG ?_);refine aC ?_;refine aA (aB rfl) rfl ?_;refine aA (bW rfl rfl) rfl ?_;refine aF (aE ?_);refine bL rfl ?_;refine aX ?_;refine aE (aG ?_);refine aC ?_;refine aA (aB rfl) rfl ?_;refine aA (eE rfl rfl) rfl ?_;refine aA (aB rfl) rfl ?_;refine aO rfl rfl rfl ?_;refine aO rfl rfl rfl ?_;refine aA (aZ rfl rfl) rfl ?_;refine aF (aE ?_);refine bL rfl ?_;refine aX ?_;refine aU (aE ?_);refine aC ?_;refine aA (aB rfl) rfl ?_;refine aA (bY rfl rfl aI aI) rfl ?_;refine aA (aD rfl) rfl ?_;refine aF ?_;exact fL (i + 1) _ u ⟨by omega, Hl.le_trans leL le3, hT u hu⟩ aI (.cons 0 rfl (.cons 1 rfl (.cons 2 rfl (.cons 7 rfl (.cons 10 rfl .nil))))) rfl (fun _ h => h)
   ·
    rw [he];refine aG (aG ?_);refine aC ?_;refine aA (aB rfl) rfl ?_;refine aA (bW rfl rfl) rfl ?_;refine aF (aE ?_);refine bL rfl ?_;refine aX ?_;refine aE (aG ?_);refine aC ?_;refine aA (aB rfl) rfl ?_;refine aA (eE rfl rfl) rfl ?_;refine aA (aB rfl) rfl ?_;refine aT rfl rfl ?_;refine aA (aB rfl) rfl ?_;refine aT rfl rfl ?_;refine aA (eE rfl rfl) rfl ?_;refine aA (bG rfl rfl) rfl ?_;refine aF (aE ?_);refine bL rfl ?_;refine aX ?_;refine aU (aE ?_);refine aC ?_;refine aA (aB rfl) rfl ?_;refine aA (bY rfl rfl aI aI) rfl ?_;refine aA (aD rfl) rfl ?_;refine aF ?_;exact fL (i + 1) _ u ⟨by omega, Hl.le_trans leL le3, hT u hu⟩ aI (.cons 0 rfl (.cons 1 rfl (.cons 2 rfl (.cons 7 rfl (.cons 10 rfl .nil))))) rfl (fun _ h => h)
  ·
   refine cK ?_;refine aP ?_;refine aP ?_;refine bB ?_
   first | exact dA u _ ⟨Hl.le_trans leL le3, kF (hT u hu).1 (j_of hfj (hT u hu).2)⟩ (.cons 0 rfl (.cons 1 rfl (.cons 2 rfl (.cons 7 rfl .nil)))) rfl (fun _ h => h) | exact dA t K2 ⟨leL, hI⟩ (.cons 0 rfl (.cons 1 rfl (.cons 2 rfl (.cons 7 rfl .nil)))) rfl (fun _ h => h)
 ·
  intro u K3 ⟨le3, hI3⟩;refine aG ?_;have hb73 := le3 _ _ hb7;have le03 := Hl.le_trans le1 le3;obtain ⟨hL1, hL2⟩ := yW hj hok hfj hI3;refine aC ?_;refine aA (aB rfl) rfl ?_;refine bH rfl rfl (vD bx d (-1) (-1) 0 0 u _ (s8 hok hfj hI3 (-1) (-1)) _ _ (Hl.le_refl _) (hx.mono le03) (hg.mono le03) (hdb.mono le03) (hE.mono le03) (by have := hI3.len; omega) aI aI (fun _ => nX hok hI3 (-1) (-1))) (.cons .here .nil) rfl ?_;rintro _ K4 _ ⟨rfl, u2, hu2, rfl⟩ le4;rw [hL1];obtain ⟨hR2, hd2⟩ := hL2 u2 hu2;have le04 := Hl.le_trans le03 le4;have hb74 := le4 _ _ hb73;refine aA (aD rfl) rfl ?_;refine aF (aE ?_);refine aG (aG ?_);refine aC ?_;refine aA (aB rfl) rfl ?_;refine aA (eE rfl rfl) rfl ?_;refine aF (aE ?_);refine bL rfl ?_;refine aX ?_;refine aE (aG ?_);refine aC ?_;refine aA (aB rfl) rfl ?_;refine aA (aH (o' := 5) j7 rfl rfl) rfl ?_;refine aA (aM ts3 rfl aN rfl) rfl ?_;refine aA (aH (o' := 6) j8 rfl rfl) rfl ?_;refine aA (aM ts3 rfl aN rfl) rfl ?_;refine bH rfl rfl (vQ bx d u2 x.kept x.part (by rw [hR2.pend]; simp) (by rw [hR2.pend]; intro o ho; cases ho) hp1 hp2 _ _ (Hl.le_refl _) (hx.mono le04)) (.cons .here .nil) rfl ?_;rintro _ K5 _ ⟨rfl, u3, hu3, rfl⟩ le5;obtain ⟨hR3, hd3⟩ := oU hR2 hu3;rw [← hd3] at hd2;have le05 := Hl.le_trans le04 le5;refine aF (aE ?_);refine aG (aC ?_);refine aA (aB rfl) rfl ?_;refine bH rfl rfl (kE bx d u3 (aS :: (xs.map (·.1) ++ was.map (·.1))) (vH (j_of hfj hd2) (fF hfw)) (by have := hok.2.2; simp; omega) _ _ (Hl.le_refl _) (hx.mono le05)) (.cons .here .nil) rfl ?_;rintro yv K5 _ ⟨rfl, ys, hys, rfl⟩ -;have hyl := sD hys (vH (j_of hfj hd2) (fF hfw));simp only [List.length_cons, List.length_append, List.length_map] at hyl;have hxl := hok.2.2;refine aA (aD rfl) rfl ?_;refine aF (aE ?_);refine aG ?_;refine dU fun K6 le6 hyv => ?_
  have le06 := Hl.le_trans le05 le6;refine aC ?_;refine aA (aB rfl) rfl ?_;refine aA (aB rfl) rfl ?_;refine bN rfl rfl (lA _ _ ys next _ hyv (hn.mono le06) aI aI) rfl ?_;refine aA (aD rfl) rfl ?_;refine aF (aE ?_);refine aG (aC ?_);refine aA (aB rfl) rfl ?_;refine aA (aB rfl) rfl ?_;refine bN rfl rfl (lA _ _ ys was _ hyv (hw.mono le06) aI aI) rfl ?_;refine aA (aD rfl) rfl ?_;refine aF (aE ?_);refine aG (aG ?_);refine aC ?_;refine aA (aB rfl) rfl ?_;refine aF (aE ?_);refine bJ 64 rfl (fun h64 => ?_) (fun h64 => ?_)
  ·
   refine aG (aC ?_);refine aA (aB rfl) rfl ?_;refine aA (aD rfl) rfl ?_;refine aA (aD rfl) rfl ?_;refine aF (aE ?_);refine a8 ?_;refine aR ?_;refine eY (dT (d9 le6)) ?_;refine cR rfl rfl rfl le06 ?_;exact ⟨_, rfl, nv, next, u3, rfl, .inr ⟨rfl, rfl⟩, hR3, h64 ▸ hys, hd2, rfl⟩
  ·
   refine aX ?_;refine aE (aG ?_);refine aC ?_;refine aA (aB rfl) rfl ?_;refine aA (aB rfl) rfl ?_;refine aA (aD rfl) rfl ?_;refine aA (aD rfl) rfl ?_;refine aF (aE ?_);refine a8 ?_;refine eY (dT (d9 le6)) ?_;refine cR rfl rfl rfl le06 ?_;have hdf : u3.dur = f := (by rcases hd2 with h | h; exact h; exact absurd (gI (h ▸ hys) hfn) h64);have hyw : ys = was := gI (hdf ▸ hys) hfw;exact ⟨_, rfl, wv, was, u3, by rw [decide_eq_true hyw], .inl ⟨rfl, rfl⟩, hR3, hyw ▸ hys, hd2, rfl⟩
end Go.Proofs
end
section
namespace Go.Proofs
open Go Go.SL Go.Syn Go.Box Go.Mach
theorem aD0 {id text : aJ} {acts : List Action} {xs : List File} {s : DSt} (hf : cW id acts text = .ok xs) (hx : eD xs) (hp : s.pend = []) :
  (eA id acts text s).2.pend.length ≤ 1000000 ∧ ∀ o ∈ (eA id acts text s).2.pend, o.data.length ≤ 140737488355328 := by
 have hm : eA id acts text s = dN xs s := by unfold eA; rw [hf]
 have h1 := lN xs s hx.2.2;rw [hp] at h1;have h2 : Bd 140737488355328 s := by intro o ho; rw [hp] at ho; cases ho
 rw [hm];exact ⟨by simp at h1; omega, nV (nL hx) (rA hx.2.1) h2⟩
theorem mO (av bv : Value) (xs : List cJ) (K : Hl) (ha : Ksl aV K av xs) (hb : Ksl aV K bv xs) (hx : xs.length ≤ 1000000) : Sp Tryz.prog 51 [av, bv] K [] (Ret fun r K' L' => r = .bool true ∧ K' = K ∧ L' = []) :=
 (lA av bv xs xs K ha hb hx hx).mono fun e K' L' ⟨h1, h2, h3⟩ => ⟨_, h1, by rw [decide_eq_true rfl], h2, h3⟩
theorem qN (bx d : Nat) (t : DSt) (wv : Value) (was : List cJ) (x : StepV) (dn : Bool) (K K0 : Hl) (le : K0.le K) (hx : kV K bx d) (hg : Glob K) (hdb : Deb K) (hE : ErrT K) (hw : Ksl aV K wv was) (hs : StepIs K x) (hz : StepFit 65536 x)
  (hR : Box.Rest t) (hfw : cX t.dur was) (hfj : t.dur aS = none) (hwl : was.length ≤ 400000) :
  Sp Tryz.prog 31 [ptr bx, wv, aDJ x, .bool dn] K [dsk K0 d t] (Ret fun r K' L' => ∃ v l u, r = .tuple #[v, .bool true] ∧ Ksl aV K' v l ∧ l.length ≤ was.length + 6 ∧ Box.Rest u ∧ cX u.dur l ∧ u.dur aS = none ∧ L' = [dsk K' d u]) := by
 have hp1 := hs.part.1;have hp2 := hs.part.2;have ha := hs.acts;obtain ⟨z1, z2, z3, z4, z5⟩ := hz;have hz := StepFit.mk z1 z2 z3 z4 z5;have z6 : ∀ a ∈ x.acts, a.2.length ≤ 1048576 := fun a h => by have := z5 a h; omega
 refine bE Tryz.func31 rfl Tryz.ntmps31 rfl rfl fun F w => ?_
 refine aG (aC ?_);refine ol_s (gO rfl rfl) rfl ?_;rintro _ K _ ⟨b6, rfl, rfl, rfl⟩ -;refine aA (aD rfl) rfl ?_;refine kK fun K1 le1 hb6 => ?_
 refine mN (dT (d9 (Hl.le_trans le le1))) ?_;have hrf := xX x.id x.text x.av.1 x.acts K1 (ha.mono le1) aI aI z6 aI;refine aA (aD rfl) rfl ?_;refine aF (aE ?_);rcases hf : cW x.id x.acts x.text with e | xs
 ·
  rw [hf] at hrf;have he0 := t8 hf;refine aG (aC ?_);refine aA (aH (o' := 0) j5 rfl rfl) rfl ?_;refine aA (aM ts9 rfl aN rfl) rfl ?_;refine aA (aH (o' := 1) gS rfl rfl) rfl ?_;refine aA (aM ts29 rfl aN rfl) rfl ?_;refine aA (aH (o' := 2) j6 rfl rfl) rfl ?_;refine aA (aM ts9 rfl aN rfl) rfl ?_;refine bH rfl rfl hrf .nil rfl ?_;rintro _ K2 _ ⟨rfl, rfl⟩ le2;have hb62 := le2 _ _ hb6;have le02 := Hl.le_trans le1 le2;refine aA (aB rfl) rfl ?_;refine aA (aQ rfl rfl) rfl ?_;refine aA (aQ rfl rfl) rfl ?_;refine aA (aD rfl) rfl ?_;refine aA (aD rfl) rfl ?_;refine aF (aE ?_);refine aG (aC ?_);refine aA (aD rfl) rfl ?_;refine aF (aE ?_);refine aG (aC ?_);refine aA (aD rfl) rfl ?_;refine aF (aE ?_);refine kN (fun (_ _ : Int) => True) (fun l f => [(0, ptr bx), (1, wv), (3, .bool dn), (6, ptr b6), (10, .slice none 0 0), (11, i64 e), (12, i64 l), (13, i64 f)]) (fun _ _ => K2) (fun _ _ => [dsk K1 d t]) ?_ ?_
  ·
   refine aG (aC ?_);refine aA (aB rfl) rfl ?_;refine aF (aE ?_);refine gP 31 rfl (fun h31 => ?_) (fun h31 => ?_)
   ·
    refine aG (aC ?_);refine aA (aH (o' := 3) tF rfl rfl) rfl ?_;refine aA (aM ts3 rfl aN rfl) rfl ?_;refine aA (aD rfl) rfl ?_;refine aF (aE ?_);refine aC ?_;refine aA (aH (o' := 4) o4 rfl rfl) rfl ?_;refine aA (aM ts3 rfl aN rfl) rfl ?_;refine aA (aD rfl) rfl ?_;refine aF ?_;exact dA _ _ trivial (.cons 0 rfl (.cons 1 rfl (.cons 3 rfl (.cons 6 rfl (.cons 10 rfl (.cons 11 rfl (.cons 12 rfl (.cons 13 rfl .nil)))))))) rfl (fun _ h => h)
   ·
    refine aX ?_;exact dA _ _ trivial (.cons 0 rfl (.cons 1 rfl (.cons 3 rfl (.cons 6 rfl (.cons 10 rfl (.cons 11 rfl (.cons 12 rfl (.cons 13 rfl .nil)))))))) rfl (fun _ h => h)
  ·
   intro l f _;refine aG ?_;have hmd : eA x.id x.acts x.text (t.set l f) = (some e, t.set l f) := (by unfold eA; rw [hf]);have hcr : (eA x.id x.acts x.text (t.set l f)).2.down = true → (eA x.id x.acts x.text (t.set l f)).2.pend.length ≤ 1000000 ∧ ∀ o ∈ (eA x.id x.acts x.text (t.set l f)).2.pend, o.data.length ≤ 140737488355328 := (fun h => by rw [hmd] at h; rw [show (t.set l f).down = false from hR.down] at h; cases h);refine aC ?_;refine aA (aB rfl) rfl ?_;refine aA (aH (o' := 0) j5 rfl rfl) rfl ?_;refine aA (aM ts9 rfl aN rfl) rfl ?_;refine aA (aH (o' := 1) gS rfl rfl) rfl ?_;refine aA (aM ts29 rfl aN rfl) rfl ?_;refine aA (aH (o' := 2) j6 rfl rfl) rfl ?_;refine aA (aM ts9 rfl aN rfl) rfl ?_;refine aA (aB rfl) rfl ?_;refine aA (aB rfl) rfl ?_;refine aA (aH (o' := 5) j7 rfl rfl) rfl ?_;refine aA (aM ts3 rfl aN rfl) rfl ?_;refine aA (aH (o' := 6) j8 rfl rfl) rfl ?_;refine aA (aM ts3 rfl aN rfl) rfl ?_;refine bH rfl rfl (u9 bx d x.id x.text x.av.1 x.acts l f x.kept x.part t _ _ le2 (hx.mono le02) (hg.mono le02) (hdb.mono le02) (hE.mono le02) (ha.mono le02) aI aI z6 aI (by rw [hR.pend]; simp) hp1 hp2 hcr) (.cons .here .nil) rfl ?_;rintro _ K3 _ ⟨rfl, t1, ht1, rfl⟩ le3;rw [hmd] at ht1 ⊢;obtain ⟨hR1, hd1⟩ := k8 (s := t.set l f) hR.down hR.pend hR.now ht1
   replace hd1 : t1.dur = t.dur := hd1
   have le03 := Hl.le_trans le02 le3;refine aA (aD rfl) rfl ?_;refine aF (aE ?_);refine aG (aC ?_);refine aA (aB rfl) rfl ?_;refine bH rfl rfl (kE bx d t1 (was.map (·.1)) (by rw [hd1]; exact fF hfw) (by simp; omega) _ _ (Hl.le_refl _) (hx.mono le03)) (.cons .here .nil) rfl ?_;rintro yv K3 _ ⟨rfl, ys, hys, rfl⟩ -;have hyw : ys = was := gI (hd1 ▸ hys) hfw;subst hyw;refine aA (aD rfl) rfl ?_;refine aF (aE ?_);refine aG (aG ?_);refine dU fun K4 le4 hyv => ?_
   have le04 := Hl.le_trans le03 le4;refine aC ?_;refine aA (aB rfl) rfl ?_;refine aA (ev_T (eE rfl rfl) he0) rfl ?_;refine aF (aE ?_);refine dH rfl ?_;refine aG (aC ?_);refine aA (aB rfl) rfl ?_;refine aA (aB rfl) rfl ?_;refine bH rfl rfl (mO _ _ ys _ hyv (hw.mono le04) aI) .nil rfl ?_;rintro _ K4 _ ⟨rfl, rfl, rfl⟩ -;refine aA (aD rfl) rfl ?_;refine aF (aE ?_);refine aG (aC ?_);refine aA (aB rfl) rfl ?_;refine aA (aB rfl) rfl ?_;refine aA (aB rfl) rfl ?_;refine aA (ev_T (bW rfl rfl) rfl) rfl ?_;refine aA (aB rfl) rfl ?_;refine aT rfl rfl ?_;refine aA (aB rfl) rfl ?_;refine aA (bG rfl rfl) rfl ?_;refine aA (aD rfl) rfl ?_;refine aA (aD rfl) rfl ?_;refine aF (aE ?_);refine a8 ?_;refine aR ?_;refine eY (dT (d9 le4)) ?_;refine cR rfl rfl rfl le04 ?_;exact ⟨_, rfl, wv, ys, t1, rfl, hw.mono le04, by omega, hR1, hd1 ▸ hfw, hd1 ▸ hfj, rfl⟩
 ·
  rw [hf] at hrf;obtain ⟨hok, hxl, hj⟩ := xH aI z6 hf;refine aG (aC ?_);refine aA (aH (o' := 0) j5 rfl rfl) rfl ?_;refine aA (aM ts9 rfl aN rfl) rfl ?_;refine aA (aH (o' := 1) gS rfl rfl) rfl ?_;refine aA (aM ts29 rfl aN rfl) rfl ?_;refine aA (aH (o' := 2) j6 rfl rfl) rfl ?_;refine aA (aM ts9 rfl aN rfl) rfl ?_;refine bH rfl rfl hrf .nil rfl ?_;rintro _ K2 _ ⟨uv, rfl, rfl⟩ le2;refine sU fun K3 le3 huv => ?_
  have hb63 := le3 _ _ (le2 _ _ hb6);have le23 := Hl.le_trans le2 le3;have le03 := Hl.le_trans le1 le23;refine aA (aB rfl) rfl ?_;refine aA (aQ rfl rfl) rfl ?_;refine aA (aQ rfl rfl) rfl ?_;refine aA (aD rfl) rfl ?_;refine aA (aD rfl) rfl ?_;refine aF (aE ?_);refine aG (aC ?_);refine aA (aD rfl) rfl ?_;refine aF (aE ?_);refine aG (aC ?_);refine aA (aD rfl) rfl ?_;refine aF (aE ?_);refine kN (fun (l f : Int) => dn = false → l = -1 ∧ f = -1) (fun l f => [(0, ptr bx), (1, wv), (3, .bool dn), (6, ptr b6), (10, uv), (11, i64 0), (12, i64 l), (13, i64 f)]) (fun _ _ => K3) (fun _ _ => [dsk K1 d t]) ?_ ?_
  ·
   refine aG (aC ?_);refine aA (aB rfl) rfl ?_;refine aF (aE ?_);refine gP 31 rfl (fun h31 => ?_) (fun h31 => ?_)
   ·
    refine aG (aC ?_);refine aA (aH (o' := 3) tF rfl rfl) rfl ?_;refine aA (aM ts3 rfl aN rfl) rfl ?_;refine aA (aD rfl) rfl ?_;refine aF (aE ?_);refine aC ?_;refine aA (aH (o' := 4) o4 rfl rfl) rfl ?_;refine aA (aM ts3 rfl aN rfl) rfl ?_;refine aA (aD rfl) rfl ?_;refine aF ?_;exact dA _ _ (fun h => by first | exact ⟨rfl, rfl⟩ | (rw [h31] at h; cases h)) (.cons 0 rfl (.cons 1 rfl (.cons 3 rfl (.cons 6 rfl (.cons 10 rfl (.cons 11 rfl (.cons 12 rfl (.cons 13 rfl .nil)))))))) rfl (fun _ h => h)
   ·
    refine aX ?_;exact dA _ _ (fun h => by first | exact ⟨rfl, rfl⟩ | (rw [h31] at h; cases h)) (.cons 0 rfl (.cons 1 rfl (.cons 3 rfl (.cons 6 rfl (.cons 10 rfl (.cons 11 rfl (.cons 12 rfl (.cons 13 rfl .nil)))))))) rfl (fun _ h => h)
  ·
   intro l f hlf;refine aG (aC ?_);refine aA (aB rfl) rfl ?_;refine aA (aH (o' := 0) j5 rfl rfl) rfl ?_;refine aA (aM ts9 rfl aN rfl) rfl ?_;refine aA (aH (o' := 1) gS rfl rfl) rfl ?_;refine aA (aM ts29 rfl aN rfl) rfl ?_;refine aA (aH (o' := 2) j6 rfl rfl) rfl ?_;refine aA (aM ts9 rfl aN rfl) rfl ?_;refine aA (aB rfl) rfl ?_;refine aA (aB rfl) rfl ?_;refine aA (aH (o' := 5) j7 rfl rfl) rfl ?_;refine aA (aM ts3 rfl aN rfl) rfl ?_;refine aA (aH (o' := 6) j8 rfl rfl) rfl ?_;refine aA (aM ts3 rfl aN rfl) rfl ?_;refine bH rfl rfl (u9 bx d x.id x.text x.av.1 x.acts l f x.kept x.part t _ _ le23 (hx.mono le03) (hg.mono le03) (hdb.mono le03) (hE.mono le03) (ha.mono le03) aI aI z6 aI (by rw [hR.pend]; simp) hp1 hp2 (fun _ => aD0 hf hok hR.pend)) (.cons .here .nil) rfl ?_;rintro _ K4 _ ⟨rfl, t1, ht1, rfl⟩ le4;have le04 := Hl.le_trans le03 le4;have hb64 := le4 _ _ hb63;have hB := aBO hR hf hj hok hfj l f;have hJ1 : J xs t.dur t1.dur := (by rcases hB with ⟨_, hT⟩ | ⟨e, _, _, _, hT⟩; exact .inr (.inr (hT t1 ht1).2); exact (hT t1 ht1).safe _ (pW _ _));refine aA (aD rfl) rfl ?_;refine aF (aE ?_);refine aG (aC ?_);refine aA (aB rfl) rfl ?_;refine bH rfl rfl (kE bx d t1 (aS :: (xs.map (·.1) ++ was.map (·.1))) (vH hJ1 (fF hfw)) (by simp; omega) _ _ (Hl.le_refl _) (hx.mono le04)) (.cons .here .nil) rfl ?_;rintro yv K4 _ ⟨rfl, ys, hys, rfl⟩ -;have hyl := sD hys (vH hJ1 (fF hfw));simp only [List.length_cons, List.length_append, List.length_map] at hyl;refine aA (aD rfl) rfl ?_;refine aF (aE ?_);refine aG (aG ?_);refine dU fun K5 le5 hyv => ?_
   have le45 := Hl.le_trans le4 le5;have le05 := Hl.le_trans le04 le5;refine aC ?_;refine aA (aB rfl) rfl ?_;refine aA (eE rfl rfl) rfl ?_;refine aF (aE ?_);refine bL rfl ?_;refine aX ?_;refine aE (aG ?_);refine aC ?_;refine aA (aB rfl) rfl ?_;refine aA (aB rfl) rfl ?_;refine bH rfl rfl (aEQ wv uv was xs t.dur _ (hw.mono le05) (huv.mono le45) hfw aI) .nil rfl ?_;rintro nv K6 _ ⟨next, hfn, hnl, rfl⟩ le6;rw [← nS hj hfj] at hfn;refine aA (aD rfl) rfl ?_;refine aF (aE ?_);rcases hB with ⟨he, hT⟩ | ⟨e, he, (rfl | rfl), hno, hT⟩
   ·
    rw [he];obtain ⟨hR1, hd1⟩ := hT t1 ht1;have hyn : ys = next := gI (hd1 ▸ hys) hfn;subst hyn;refine aG (aG ?_);refine dU fun K7 le7 hnv => ?_
    have le57 := Hl.le_trans le6 le7;have le07 := Hl.le_trans le05 le57;have hb67 := le57 _ _ (le5 _ _ hb64);refine fQ (dT (d9 (Hl.le_trans le5 le57))) ?_;refine aC ?_;refine aA (aB rfl) rfl ?_;refine aA (bW rfl rfl) rfl ?_;refine aF (aE ?_);refine dH rfl ?_;refine aG (aC ?_);refine aA (aB rfl) rfl ?_;refine aA (aH (o' := 5) j7 rfl rfl) rfl ?_;refine aA (aM ts3 rfl aN rfl) rfl ?_;refine aA (aH (o' := 6) j8 rfl rfl) rfl ?_;refine aA (aM ts3 rfl aN rfl) rfl ?_;refine bH rfl rfl (vQ bx d t1 x.kept x.part (by rw [hR1.pend]; simp) (by rw [hR1.pend]; intro o ho; cases ho) hp1 hp2 _ _ (Hl.le_refl _) (hx.mono le07)) (.cons .here .nil) rfl ?_;rintro _ K8 _ ⟨rfl, u3, hu3, rfl⟩ le8;obtain ⟨hR3, hd3⟩ := oU hR1 hu3;rw [hd1] at hd3;have le08 := Hl.le_trans le07 le8;refine aF (aE ?_);refine aG (aC ?_);refine aA (aB rfl) rfl ?_;refine bH rfl rfl (kE bx d u3 (ys.map (·.1)) (by rw [hd3]; exact fF hfn) (by simp; omega) _ _ (Hl.le_refl _) (hx.mono le08)) (.cons .here .nil) rfl ?_;rintro lv K8 _ ⟨rfl, ls, hls, rfl⟩ -;have hln : ls = ys := gI (hd3 ▸ hls) hfn;subst hln;refine aA (aD rfl) rfl ?_;refine aF (aE ?_);refine aG ?_;refine dU fun K9 le9 hlv => ?_
    have le89 := Hl.le_trans le8 le9;have hyv9 := (hyv.mono le57).mono le89;have hnv9 := hnv.mono le89;refine aC ?_;refine aA (aB rfl) rfl ?_;refine aA (aB rfl) rfl ?_;refine bH rfl rfl (mO _ _ ls _ hyv9 hnv9 aI) .nil rfl ?_;rintro _ K9 _ ⟨rfl, rfl, rfl⟩ -;refine aA (aD rfl) rfl ?_;refine aF (aE ?_);refine aG (aC ?_);refine aA (aB rfl) rfl ?_;refine aA (aB rfl) rfl ?_;refine bH rfl rfl (mO _ _ ls _ hlv hnv9 aI) .nil rfl ?_;rintro _ K9 _ ⟨rfl, rfl, rfl⟩ -;refine aA (aD rfl) rfl ?_;refine aF (aE ?_);refine aG (aC ?_);refine aA (aB rfl) rfl ?_;refine aA (aB rfl) rfl ?_;refine aA (aB rfl) rfl ?_;refine aT rfl rfl ?_;refine aA (aB rfl) rfl ?_;refine aA (bG rfl rfl) rfl ?_;refine aA (aD rfl) rfl ?_;refine aA (aD rfl) rfl ?_;refine aF (aE ?_);refine a8 ?_;refine aR ?_;refine eY (dT (d9 le9)) ?_;refine cR rfl rfl rfl (Hl.le_trans le08 le9) ?_;exact ⟨_, rfl, nv, ls, u3, rfl, hnv9, by omega, hR3, hls, hd3 ▸ gV, rfl⟩
   ·
    rw [he];obtain rfl : dn = true := (by cases dn; exact absurd (hlf rfl) hno; rfl);refine aG (aG ?_);refine dU fun K7 le7 hnv => ?_
    have le57 := Hl.le_trans le6 le7;have le07 := Hl.le_trans le05 le57;have hb67 := le57 _ _ (le5 _ _ hb64);refine fQ (dT (d9 (Hl.le_trans le5 le57))) ?_;refine aC ?_;refine aA (aB rfl) rfl ?_;refine aA (bW rfl rfl) rfl ?_;refine aF (aE ?_);refine bL rfl ?_;refine aX ?_;refine aE (aG ?_);refine aG (aC ?_);refine aA (aB rfl) rfl ?_;refine aA (eE rfl rfl) rfl ?_;refine aA (aB rfl) rfl ?_;refine aO rfl rfl rfl ?_;refine aO rfl rfl rfl ?_;refine aA (aZ rfl rfl) rfl ?_;refine aA (aB rfl) rfl ?_;refine aT rfl rfl ?_;refine aA (aB rfl) rfl ?_;refine aT rfl rfl ?_;refine aA (dL rfl) rfl ?_;refine aA (aZ rfl rfl) rfl ?_;refine aF (aE ?_);refine bL rfl ?_;refine aX ?_;refine aE (aG ?_);refine aC ?_;refine aA (aB rfl) rfl ?_;refine aA (aB rfl) rfl ?_;refine aA (aB rfl) rfl ?_;refine aA (bX rH rfl aN rfl rfl) rfl ?_;refine bH rfl rfl (i8 bx d t1 wv nv was next x xs t.dur _ _ (Hl.le_refl _) (hx.mono le07) (hg.mono le07) (hdb.mono le07) (hE.mono le07) (hw.mono le07) hnv (hs.mono le07) hz hfw hfn aI aI hok hj hfj (hT t1 ht1)) (.cons .here .nil) rfl ?_;rintro _ K8 _ ⟨v, l2, u, rfl, hvl, hRu, hfu, hdu, rfl⟩ le8;refine aA (aQ rfl rfl) rfl ?_;refine aA (aQ rfl rfl) rfl ?_;refine aA (aD rfl) rfl ?_;refine aA (aD rfl) rfl ?_;refine aF (aE ?_);refine a8 ?_;refine cR rfl rfl rfl (Hl.le_trans le07 le8) ?_;exact ⟨_, rfl, v, l2, u, rfl, by rcases hvl with ⟨rfl, rfl⟩ | ⟨rfl, rfl⟩; exact (hw.mono le07).mono le8; exact hnv.mono le8, by rcases hvl with ⟨rfl, rfl⟩ | ⟨rfl, rfl⟩ <;> omega, hRu, hfu, no_j hfj hdu, rfl⟩
   ·
    rw [he];obtain rfl : dn = true := (by cases dn; exact absurd (hlf rfl) hno; rfl);refine aG (aG ?_);refine dU fun K7 le7 hnv => ?_
    have le57 := Hl.le_trans le6 le7;have le07 := Hl.le_trans le05 le57;have hb67 := le57 _ _ (le5 _ _ hb64);refine fQ (dT (d9 (Hl.le_trans le5 le57))) ?_;refine aC ?_;refine aA (aB rfl) rfl ?_;refine aA (bW rfl rfl) rfl ?_;refine aF (aE ?_);refine bL rfl ?_;refine aX ?_;refine aE (aG ?_);refine aG (aC ?_);refine aA (aB rfl) rfl ?_;refine aA (eE rfl rfl) rfl ?_;refine aA (aB rfl) rfl ?_;refine aT rfl rfl ?_;refine aA (aB rfl) rfl ?_;refine aT rfl rfl ?_;refine aA (eE rfl rfl) rfl ?_;refine aA (bG rfl rfl) rfl ?_;refine aA (aB rfl) rfl ?_;refine aT rfl rfl ?_;refine aA (aB rfl) rfl ?_;refine aT rfl rfl ?_;refine aA (dL rfl) rfl ?_;refine aA (aZ rfl rfl) rfl ?_;refine aF (aE ?_);refine bL rfl ?_;refine aX ?_;refine aE (aG ?_);refine aC ?_;refine aA (aB rfl) rfl ?_;refine aA (aB rfl) rfl ?_;refine aA (aB rfl) rfl ?_;refine aA (bX rH rfl aN rfl rfl) rfl ?_;refine bH rfl rfl (i8 bx d t1 wv nv was next x xs t.dur _ _ (Hl.le_refl _) (hx.mono le07) (hg.mono le07) (hdb.mono le07) (hE.mono le07) (hw.mono le07) hnv (hs.mono le07) hz hfw hfn aI aI hok hj hfj (hT t1 ht1)) (.cons .here .nil) rfl ?_;rintro _ K8 _ ⟨v, l2, u, rfl, hvl, hRu, hfu, hdu, rfl⟩ le8;refine aA (aQ rfl rfl) rfl ?_;refine aA (aQ rfl rfl) rfl ?_;refine aA (aD rfl) rfl ?_;refine aA (aD rfl) rfl ?_;refine aF (aE ?_);refine a8 ?_;refine cR rfl rfl rfl (Hl.le_trans le07 le8) ?_;exact ⟨_, rfl, v, l2, u, rfl, by rcases hvl with ⟨rfl, rfl⟩ | ⟨rfl, rfl⟩; exact (hw.mono le07).mono le8; exact hnv.mono le8, by rcases hvl with ⟨rfl, rfl⟩ | ⟨rfl, rfl⟩ <;> omega, hRu, hfu, no_j hfj hdu, rfl⟩
end Go.Proofs
end
section
namespace Go.Proofs
open Go Go.SL Go.Syn Go.Box Go.Mach
abbrev durE : DSt := ⟨fun _ => none, fun _ => none, [], -1, -1, false⟩
theorem aFO : Box.Rest durE := ⟨rfl, rfl, rfl, rfl, rfl⟩
theorem aD6 : cX durE.dur [] := ⟨fun n d => by simp, .nil⟩
theorem aEM : eD [] := ⟨(fun f h => by cases h), (by simp [Box.bodyC]), (by simp)⟩
theorem tQ (vv : Value) (vs : List StepV) (K : Hl) (hg : Glob K) (hdb : Deb K) (hE : ErrT K) (hv : Ksl cM K vv vs) (hs : ∀ x ∈ vs, StepIs K x) (hz : ∀ x ∈ vs, StepSz x) (hl : vs.length ≤ 140737488355328) :
  Sp Tryz.prog 11 [vv] K [] (Ret fun r K' L' => r = .bool true) := by
 refine bE Tryz.func11 rfl Tryz.ntmps11 rfl rfl fun F w => ?_
 refine aG (aC ?_);refine aA (aD rfl) rfl ?_;refine aF (aE ?_);refine aG (aC ?_);refine aA (aB rfl) rfl ?_;refine bH rfl rfl (aD7 vv vs _ hv hs hz hl) .nil rfl ?_;rintro _ K _ ⟨fb, rfl, hfb, rfl, rfl⟩ -;refine aA (aD rfl) rfl ?_;refine aF (aE ?_);refine aG (aG ?_);refine aC ?_;refine aA (aB rfl) rfl ?_;refine aA (by first | exact fB rfl | exact dL rfl) rfl ?_;refine aF (aE ?_);refine gP 10 rfl (fun h10 => ?_) (fun h10 => ?_)
 ·
  refine aG (aC ?_);refine aA (aD rfl) rfl ?_;refine aF (aE ?_);refine a8 ?_;refine aR ?_;refine bF .nil ?_;refine bA rfl rfl (by first | exact Hl.le_refl _ | exact Hl.le_trans le1 leL) ?_;exact ⟨_, rfl, rfl⟩
 ·
  obtain ⟨hvl, hfit⟩ := hfb (by simpa using h10);refine aX ?_;refine aE (aG ?_);refine aC ?_;refine bH rfl rfl (xO _ [] _ (.inl ⟨_, _, rfl, rfl⟩) (by simp)) .nil rfl ?_;rintro _ K1 _ ⟨bx, d, rfl, hbx, rfl⟩ le1;refine aA (aD rfl) rfl ?_;refine aF (aE ?_);refine aG (aC ?_);refine aA (aD rfl) rfl ?_;refine aF (aE ?_);refine aG (aG ?_);refine aC ?_;refine aA (aD rfl) rfl ?_;refine aF (aE ?_);refine a7 ?_;refine l6 (fun (i : Nat) (K2 : Hl) (v : Value) (lu : List cJ × DSt) => i ≤ vs.length ∧ K1.le K2 ∧ Ksl aV K2 v lu.1 ∧ lu.1.length ≤ 6 * i ∧ Box.Rest lu.2 ∧ cX lu.2.dur lu.1 ∧ lu.2.dur aS = none) (fun i _ v _ => [(0, vv), (4, ptr bx), (5, v), (6, i64 i)]) (fun _ K2 _ _ => K2) (fun _ K2 _ lu => [dsk K2 d lu.2]) (fun i _ _ _ => vs.length - i) 0 K1 (.slice none 0 0) ([], durE) ⟨Nat.zero_le _, Hl.le_refl _, .inl ⟨_, _, rfl, rfl⟩, Nat.zero_le _, aFO, aD6, rfl⟩ (.cons 0 rfl (.cons 4 rfl (.cons 5 rfl (.cons 6 rfl .nil)))) rfl (fun _ h => h) ?_;intro i K2 v ⟨l, u⟩ ⟨hi, leL, hvl2, hll, hR, hf, hj⟩;refine aG (aG ?_);refine aC ?_;refine aA (aB rfl) rfl ?_;refine aA (aB rfl) rfl ?_;refine aA (bM (k := cM) rfl Tryz.underlying68 rfl (.known (hv.mono (Hl.le_trans le1 leL)))) rfl ?_;refine aA (cZ rfl rfl) rfl ?_;refine aF (aE ?_);refine bJ 15 rfl (fun h15 => ?_) (fun h15 => ?_)
  ·
   have hlt : i < vs.length := by omega
   obtain ⟨x, hx⟩ : ∃ x, vs[i]? = some x := ⟨vs[i]'hlt, List.getElem?_eq_getElem hlt⟩;have le02 := Hl.le_trans le1 leL;have hxs := (hs x (List.mem_of_getElem? hx)).mono le02;have hxf := hfit x (List.mem_of_getElem? hx);have hv2k := hv.mono le02;simp only at hll hR hf hj hvl2;refine aX ?_;refine aE (aG ?_);refine a7 (aG ?_);refine aC ?_;refine aA (aB rfl) rfl ?_;refine aA (aB rfl) rfl ?_;refine aA (aB rfl) rfl ?_;refine aA (aB rfl) rfl ?_;refine aA (bD (k := cM) (j := i) eT rfl (.known hv2k) rfl rfl hlt) rfl ?_;refine aA (cI (n := 0) (k := cM) rH rfl (.known hv2k) hx) rfl ?_;refine bH rfl rfl (qN bx d u v l x true _ _ (Hl.le_refl _) (hbx.mono leL) (hg.mono le02) (hdb.mono le02) (hE.mono le02) hvl2 hxs hxf hR hf hj aI) (.cons .here .nil) rfl ?_;rintro _ K3 _ ⟨v2, l2, u2, rfl, hv2, hl2, hR2, hf2, hj2, rfl⟩ le3;refine aA (aB rfl) rfl ?_;refine aA (aQ rfl rfl) rfl ?_;refine aA (aQ rfl rfl) rfl ?_;refine aA (aD rfl) rfl ?_;refine aA (aD rfl) rfl ?_;refine aF (aE ?_);refine aG (aG ?_);refine aC ?_;refine aA (aB rfl) rfl ?_;refine aA (dL rfl) rfl ?_;refine aF (aE ?_);refine bL rfl ?_;refine aX ?_;refine aE (aG ?_);refine aC ?_;have le03 := Hl.le_trans le02 le3;have hv3k := hv2k.mono le3;refine aA (aB rfl) rfl ?_;refine aA (aB rfl) rfl ?_;refine aA (bD (k := cM) (j := i) eT rfl (.known hv3k) rfl rfl hlt) rfl ?_;refine aA (bV (k := cM) (j := i) aAY rfl (.known hv3k) hlt) rfl ?_;refine aA (dK (k := cM) ts4 rfl (.known hv3k) hx rfl) rfl ?_;refine aF (aE ?_);refine gP 34 rfl (fun h34 => ?_) (fun h34 => ?_)
   ·
    refine aG (aC ?_);refine aA (aB rfl) rfl ?_;refine aA (aB rfl) rfl ?_;refine aA (aB rfl) rfl ?_;refine aA (aB rfl) rfl ?_;refine aA (aB rfl) rfl ?_;refine aA (bD (k := cM) (j := i) eT rfl (.known hv3k) rfl rfl hlt) rfl ?_;refine aA (cI (n := 0) (k := cM) rH rfl (.known hv3k) hx) rfl ?_;refine bH rfl rfl (i8 bx d u2 v2 v2 l2 l2 x [] u2.dur _ _ (Hl.le_refl _) ((hbx.mono leL).mono le3) (hg.mono le03) (hdb.mono le03) (hE.mono le03) hv2 hv2 (hxs.mono le3) hxf hf2 (by rw [nS (fun x h => by cases h) hj2]; exact hf2) aI aI aEM (fun x h => by cases h) hj2 (kF hR2 (j_of hj2 (.inl rfl)))) (.cons .here .nil) rfl ?_;rintro _ K4 _ ⟨v3, l3, u3, rfl, hvl3, hR3, hf3, hd3, rfl⟩ le4;have hv3 : Ksl aV _ v3 l3 := (by rcases hvl3 with ⟨rfl, rfl⟩ | ⟨rfl, rfl⟩ <;> exact hv2.mono le4);have hll3 : l3.length = l2.length := (by rcases hvl3 with ⟨rfl, rfl⟩ | ⟨rfl, rfl⟩ <;> rfl);have hj3 := no_j hj2 hd3;refine aA (aB rfl) rfl ?_;refine aA (aQ rfl rfl) rfl ?_;refine aA (aQ rfl rfl) rfl ?_;refine aA (aD rfl) rfl ?_;refine aA (aD rfl) rfl ?_;refine aF (aE ?_);refine aG (aC ?_);refine aA (aB rfl) rfl ?_;refine aA (dL rfl) rfl ?_;refine aF (aE ?_);refine bL rfl ?_;refine aX ?_;refine aU (aE ?_);refine aC ?_;refine aA (aB rfl) rfl ?_;refine aA (bY rfl rfl aI aI) rfl ?_;refine aA (aD rfl) rfl ?_;refine aF ?_
    first
     | exact d8 (i + 1) _ _ (l3, u3) ⟨by omega, Hl.le_trans leL (Hl.le_trans le3 le4), hv3, by (first | omega | (simp only at *; omega)), hR3, hf3, hj3⟩ aI (.cons 0 rfl (.cons 4 rfl (.cons 5 rfl (.cons 6 rfl .nil)))) rfl (fun _ h => h)
     | exact d8 (i + 1) _ v2 (l2, u2) ⟨by omega, Hl.le_trans leL le3, hv2, by (first | omega | (simp only at *; omega)), hR2, hf2, hj2⟩ aI (.cons 0 rfl (.cons 4 rfl (.cons 5 rfl (.cons 6 rfl .nil)))) rfl (fun _ h => h)
   ·
    refine aX ?_;refine aU (aE ?_);refine aC ?_;refine aA (aB rfl) rfl ?_;refine aA (bY rfl rfl aI aI) rfl ?_;refine aA (aD rfl) rfl ?_;refine aF ?_
    first
     | exact d8 (i + 1) _ _ (l3, u3) ⟨by omega, Hl.le_trans leL (Hl.le_trans le3 le4), hv3, by (first | omega | (simp only at *; omega)), hR3, hf3, hj3⟩ aI (.cons 0 rfl (.cons 4 rfl (.cons 5 rfl (.cons 6 rfl .nil)))) rfl (fun _ h => h)
     | exact d8 (i + 1) _ v2 (l2, u2) ⟨by omega, Hl.le_trans leL le3, hv2, by (first | omega | (simp only at *; omega)), hR2, hf2, hj2⟩ aI (.cons 0 rfl (.cons 4 rfl (.cons 5 rfl (.cons 6 rfl .nil)))) rfl (fun _ h => h)
  ·
   refine cK ?_;refine aP ?_;refine aP ?_;refine bB ?_;refine aE (aG ?_);refine aC ?_;refine aA (aD rfl) rfl ?_;refine aF (aE ?_);refine a8 ?_;refine bF .nil ?_;refine bA rfl rfl (by first | exact Hl.le_refl _ | exact Hl.le_trans le1 leL) ?_;exact ⟨_, rfl, rfl⟩
end Go.Proofs
end

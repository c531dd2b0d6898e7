/-
  What the proof stands on, part 9: the logic of walks, the walks through the functions, the plain laws. Conditions: as each theorem says. (Merged and shortened by a program.)
-/
import Derived.Test.YthopmddkpdehiaaGreatDoorK1
import Derived.Test.YthopmddkpdehiaaGreatDoorK2
import Derived.Test.YthopmddkpdehiaaGreatDoorK3
import Derived.Test.YthopmddkpdehiaaGreatDoorK4
import Derived.Test.YthopmddkpdehiaaGreatDoorK5
import Derived.Test.YthopmddkpdehiaaGreatDoorK6
import Derived.Test.YthopmddkpdehiaaGreatDoorK7
import Derived.Test.YthopmddkpdehiaaGreatDoorK8
set_option linter.unusedVariables false
set_option linter.unusedSimpArgs false
section
namespace Go.SL
section
variable {E : Env} {fr : Fr} {K : Hl} {L : List Asn} {dst : Option Tmp} {ty : TypeId} {pos : String} {aft : Array Edge} {g : Option (Nat × Bool)} {x y : Operand} {t t' : TypeId} {m n : Int} {k : IntKind}
theorem aPB (hx : fr.ev x = some (.int k m)) (hy : fr.ev y = some (.int k n)) (h0 : n ≠ 0) : Ev E fr K L ⟨dst, .binOp .rem t x y t', ty, pos, aft, g⟩ (.int k (m.tmod n)) :=
 fQ hx hy gV fun w => by simp [binOp, Op.intDiv, h0, pure]
theorem aPA (hx : fr.ev x = some (i64 m)) (h1 : -9223372036854775807 ≤ m) (h2 : m ≤ 9223372036854775808) : Ev E fr K L ⟨dst, .unOp .neg t x, ty, pos, aft, g⟩ (i64 (-m)) := fun a w f _ => by
 simp only [execOp, f.ev hx];refine d6 ?_;have e : IntKind.i64.wrap (-m) = -m := pN aH aH;simp [Op.unary, Op.intArith, e]
end
end Go.SL
end
section
namespace Go.Syn
section
variable {s t b w : aL} {a : Nat} {c : UInt8}
theorem eL (h : s.drop a = c :: t) : s[a]? = some c ∧ a < s.length ∧ s.drop (a + 1) = t := by
 have h1 : (s.drop a)[0]? = some c := by rw [h]; rfl
 rw [List.getElem?_drop, Nat.add_zero] at h1;refine ⟨h1, ?_, ?_⟩
 ·rcases Nat.lt_or_ge a s.length with h' | h'
  ·exact h'
  ·rw [List.getElem?_eq_none h'] at h1; cases h1
 ·rw [← List.drop_drop, h]; rfl
theorem vB (h : s.drop a = b ++ t) : s.drop (a + b.length) = t := by
 rw [← List.drop_drop, h, List.drop_left]
theorem aJT (h : s.drop a = t) (h0 : t ≠ []) : s.length = a + t.length := by
 have := congrArg List.length h;rw [List.length_drop] at this;have : 0 < t.length := List.length_pos_iff.2 h0;omega
def iQ (c : UInt8) : Bool := decide (c.toNat = 32 ∨ c.toNat = 9 ∨ c.toNat = 13 ∨ c.toNat = 10)
def rB (c : UInt8) : Bool := decide (¬ (c.toNat = 32 ∨ c.toNat = 9 ∨ c.toNat = 13 ∨ c.toNat = 10 ∨ c.toNat = 35 ∨ c.toNat = 47))
theorem aH8 (h : s.drop a = c :: t) (hc : rB c = true) : skip s a = .ok a := by
 obtain ⟨h1, h2, _⟩ := eL h;unfold skip;rw [show s.length + 1 - a = (s.length - a) + 1 from by omega];exact nA h1 (by simpa [rB] using hc)
theorem aEG (h : s.drop a = c :: t) (hc : iQ c = true) : skip s a = skip s (a + 1) := by
 obtain ⟨h1, h2, _⟩ := eL h;unfold skip;rw [show s.length + 1 - a = (s.length + 1 - (a + 1)) + 1 from by omega];exact iU h1 (by simpa [iQ] using hc)
theorem pE : ∀ {b : aL} {a : Nat}, s.drop a = b ++ t → (∀ c ∈ b, iQ c = true) → skip s a = skip s (a + b.length)
 | [], a, h, _ => rfl
 | c :: b, a, h, hb => by
  rw [aEG h (hb c (by simp)), pE (b := b) (eL h).2.2 (fun c hc => hb c (by simp [hc]))]
  congr 1; simp; omega
theorem aLD (h : s.length ≤ a) : skip s a = .ok a := by
 unfold skip;rcases Nat.lt_or_ge s.length a with h' | h'
 ·rw [show s.length + 1 - a = 0 from by omega]; rfl
 ·rw [show s.length + 1 - a = 0 + 1 from by omega]; exact qB h
theorem oI (h : s.drop a = b ++ c :: t) (hb : ∀ c ∈ b, iQ c = true) (hc : rB c = true) : next s a = kI s (a + b.length) c := by
 have h2 := vB h;unfold next;rw [pE h hb, aH8 h2 hc];simp only [(eL h2).1]
theorem aKF (h : s.drop a = b) (hb : ∀ c ∈ b, iQ c = true) (ha : a ≤ s.length) : next s a = .ok (s.length, ⟨0, [], 0, s.length⟩) := by
 have hl : a + b.length = s.length := by have := congrArg List.length h; rw [List.length_drop] at this; omega
 unfold next;rw [pE (t := []) (by rw [h, List.append_nil]) hb, hl, aLD (Nat.le_refl _)];simp
theorem nJ {p : UInt8 → Bool} : ∀ {w t : aL}, (∀ c ∈ w, p c = true) → (∀ c, t.head? = some c → p c = false) → (w ++ t).takeWhile p = w
 | [], t, _, ht => by
  cases t with
  | nil => rfl
  | cons c t => rw [List.nil_append, List.takeWhile_cons, ht c rfl]; rfl
 | c :: w, t, hw, ht => by
  rw [List.cons_append, List.takeWhile_cons, hw c (by simp), nJ (fun x hx => hw x (by simp [hx])) ht]; rfl
def esc (w : aL) : aL := w.flatMap fun c => if c.toNat = 34 ∨ c.toNat = 92 then [92, c] else [c]
theorem sZ : ∀ {w : aL}, (∀ c ∈ w, ¬ (c.toNat = 34 ∨ c.toNat = 92)) → esc w = w
 | [], _ => rfl
 | c :: w, h => by
  have h1 := sZ (w := w) fun x hx => h x (by simp [hx])
  unfold esc at h1 ⊢;rw [List.flatMap_cons, h1, if_neg (h c (by simp))]; rfl
theorem lS {wat : Int} : ∀ {w : aL} {a f : Nat} {acc : aL}, s.drop a = esc w ++ 34 :: t → w.length < f → eU s wat f a acc = .ok (a + (esc w).length + 1, acc ++ w)
 | [], a, f, acc, h, hf => by
  obtain ⟨f, rfl⟩ : ∃ g, f = g + 1 := ⟨f - 1, by omega⟩;obtain ⟨h1, h2, _⟩ := eL (show s.drop a = 34 :: t from h);rw [t6 h2 (by rw [h1]; rfl)];simp [esc]
 | c :: w, a, f, acc, h, hf => by
  obtain ⟨f, rfl⟩ : ∃ g, f = g + 1 := ⟨f - 1, by omega⟩;have hf' : w.length < f := by simpa using hf
  by_cases hc : c.toNat = 34 ∨ c.toNat = 92
  ·have e : esc (c :: w) = 92 :: c :: esc w := by unfold esc; rw [List.flatMap_cons, if_pos hc]; rfl
   rw [e] at h ⊢;obtain ⟨h1, h2, h3⟩ := eL (show s.drop a = 92 :: (c :: esc w ++ 34 :: t) from h);obtain ⟨h4, h5, h6⟩ := eL (show s.drop (a + 1) = c :: (esc w ++ 34 :: t) from h3);rw [lI (fun h0 => absurd h0.2 (by rw [h1]; decide)) (by rw [h1]; rfl) aH, h4, lS (w := w) (a := a + 2) (by rw [show a + 2 = a + 1 + 1 from rfl, h6]) hf'];simp; omega
  ·have e : esc (c :: w) = c :: esc w := by unfold esc; rw [List.flatMap_cons, if_neg hc]; rfl
   rw [e] at h ⊢;obtain ⟨h1, h2, h3⟩ := eL (show s.drop a = c :: (esc w ++ 34 :: t) from h);rw [kA (by rw [h1]; simp only [Option.getD_some]; omega) (by rw [h1]; simp only [Option.getD_some]; omega) aH, h1, lS (w := w) (a := a + 1) h3 hf'];simp; omega
end
inductive Tk where
 | sg (c : UInt8)
 | nm (w : aL)
 | tg (w : aL)
 | tx (w : aL)
def Tk.body : Tk → aL
 | .sg c => [c]
 | .nm w => w
 | .tg w => 58 :: w
 | .tx w => 34 :: (esc w ++ [34])
def Tk.word : Tk → Nat → Word
 | .sg c, a => ⟨5, [c], 0, a⟩
 | .nm w, a => ⟨1, cU w, 0, a⟩
 | .tg w, a => ⟨2, cU w, 0, a⟩
 | .tx w, a => ⟨3, w, 0, a⟩
def yC : aL → Bool
 | [] => false
 | c :: w => gW c && w.all dT
def Tk.good : Tk → Bool
 | .sg c => cI c
 | .nm w => yC w
 | .tg w => yC w
 | .tx _ => true
def Tk.sep : Tk → aL → Prop
 | .nm _, t => ∀ c, t.head? = some c → dT c = false
 | .tg _, t => ∀ c, t.head? = some c → dT c = false
 | _, _ => True
theorem aEE {c : UInt8} (h : cI c = true) : rB c = true := by
 unfold cI at h; unfold rB; simp at h ⊢; omega
def vR (c : UInt8) : Bool := !gW c || (rB c && (!cI c && (decide (c.toNat ≠ 34) && decide (c.toNat ≠ 58))))
theorem aD2 : ∀ n : Fin 256, vR (UInt8.ofNat n.val) = true := by decide +kernel
theorem z8 (c : UInt8) (h : gW c = true) : rB c = true ∧ cI c = false ∧ c.toNat ≠ 34 ∧ c.toNat ≠ 58 := by
 have := aD2 ⟨c.toNat, c.toNat_lt⟩;simp only [UInt8.ofNat_toNat] at this;unfold vR at this;rw [h] at this
 simpa using this
theorem aFC : ∀ w : aL, w.length ≤ (esc w).length
 | [] => Nat.le_refl _
 | c :: w => by
  have ih := aFC w;unfold esc at ih ⊢;rw [List.flatMap_cons];rw [List.length_append];split <;> simp only [List.length_cons, List.length_nil] <;> omega
theorem aB0 {w : aL} (h : yC w = true) : ∃ c r, w = c :: r ∧ gW c = true ∧ ∀ x ∈ w, dT x = true := by
 cases w with
 | nil => cases h
 | cons c r =>
  simp only [yC, Bool.and_eq_true, List.all_eq_true] at h;refine ⟨c, r, rfl, h.1, fun x hx => ?_⟩
  rcases List.mem_cons.1 hx with rfl | hx
  ·simp [dT, h.1]
  ·exact h.2 x hx
theorem aM2 {s t b : aL} {a : Nat} {tk : Tk} (h : s.drop a = b ++ (tk.body ++ t)) (hb : ∀ c ∈ b, iQ c = true) (hg : tk.good = true) (hs : tk.sep t) :
  next s a = .ok (a + b.length + tk.body.length, tk.word (a + b.length)) ∧ s.drop (a + b.length + tk.body.length) = t := by
 have h2 := vB h;have h3 := vB h2;refine ⟨?_, h3⟩
 cases tk with
 | sg c =>
  rw [oI (t := t) h hb (aEE hg)];unfold kI;rw [if_pos (show cI c = true from hg)]; rfl
 | nm w =>
  obtain ⟨c, r, rfl, hl, hw⟩ := aB0 hg;obtain ⟨q1, q2, q3, q4⟩ := z8 c hl;rw [oI (t := r ++ t) h hb q1];unfold kI;rw [if_neg (by simp [q2]), if_neg q3, if_neg q4, if_pos hl];have e : kF s (a + b.length) = c :: r := by
   unfold kF; rw [h2]; exact nJ hw hs
  rw [e]; rfl
 | tg w =>
  obtain ⟨c, r, rfl, hl, hw⟩ := aB0 hg;obtain ⟨h4, h5, h6⟩ := eL (show s.drop (a + b.length) = 58 :: (c :: r ++ t) from h2);rw [oI (c := 58) (t := c :: r ++ t) h hb (by decide)];unfold kI;rw [if_neg (by decide), if_neg (by decide), if_pos (by decide)];have e : kF s (a + b.length + 1) = c :: r := by
   unfold kF; rw [h6]; exact nJ hw hs
  rw [if_pos (by rw [(eL (show s.drop (a + b.length + 1) = c :: (r ++ t) from h6)).1]; exact hl), e];simp [Tk.body, Tk.word]; omega
 | tx w =>
  have h2' : s.drop (a + b.length) = 34 :: (esc w ++ 34 :: t) := by rw [h2]; simp [Tk.body]
  obtain ⟨h4, h5, h6⟩ := eL h2';rw [oI (c := 34) (t := esc w ++ 34 :: t) (by rw [h]; simp [Tk.body]) hb (by decide)];unfold kI;rw [if_neg (by decide), if_pos (by decide)];have hle := aFC w;have hl := aJT h6 (by simp);simp at hl;have e : quoted s (a + b.length) ((a + b.length : Nat) : Int) = .ok (a + b.length + 1 + (esc w).length + 1, w) := by
   unfold quoted;rw [lS h6 aH]; rfl
  rw [e];simp [Tk.body, Tk.word]; omega
end Go.Syn
end
section
namespace Go.Syn
abbrev Wd := Nat × aL × Int
def Word.wd (w : Word) : Wd := (w.kind, w.s, w.n)
abbrev wTx (w : aL) : Wd := (3, w, 0)
abbrev wSg (c : UInt8) : Wd := (5, [c], 0)
abbrev wNm (w : aL) : Wd := (1, w, 0)
abbrev wTg (w : aL) : Wd := (2, w, 0)
abbrev wNu (n : Int) : Wd := (4, [], n)
def Path (s : aL) : St → List Wd → St → Prop
 | st, [], st' => st' = st
 | st, w :: ws, st' => st.2.kind ≠ 0 ∧ st.2.wd = w ∧ ∃ q, next s st.1 = .ok q ∧ Path s q ws st'
theorem jK {s : aL} {u v : List Wd} {st st' : St} : Path s st (u ++ v) st' ↔ ∃ q, Path s st u q ∧ Path s q v st' := by
 induction u generalizing st with
 | nil => simp [Path]
 | cons w u ih =>
  constructor
  ·rintro ⟨h1, h2, q, h3, h4⟩;obtain ⟨q2, h5, h6⟩ := ih.1 h4;exact ⟨q2, ⟨h1, h2, q, h3, h5⟩, h6⟩
  ·rintro ⟨q2, ⟨h1, h2, q, h3, h5⟩, h6⟩;exact ⟨h1, h2, q, h3, ih.2 ⟨q2, h5, h6⟩⟩
theorem iO {s : aL} {u : List Wd} {st st' : St} (ha : st.1 ≤ s.length) (h : Path s st u st') : mu s st' + u.length ≤ mu s st ∧ st'.1 ≤ s.length := by
 induction u generalizing st with
 | nil => have : st' = st := h; subst this; exact ⟨Nat.le_refl _, ha⟩
 | cons w u ih =>
  obtain ⟨h1, h2, q, h3, h4⟩ := h;obtain ⟨m1, m2⟩ := eP ha h1 h3;have := ih m2 h4;simp only [List.length_cons];exact ⟨by omega, this.2⟩
section
variable {s : aL} {st st' : St} {ws : List Wd} {c : UInt8} {w : aL} {n : Int}
theorem l7 {x : Word} {k : Nat} {t : aL} {n : Int} (h : x.wd = (k, t, n)) : x.kind = k ∧ x.s = t ∧ x.n = n := by
 cases x; simp [Word.wd] at h; exact h
theorem zF (h : Path s st (wSg c :: ws) st') : ∃ q, eat s st [c] = .ok (true, q) ∧ Path s q ws st' := by
 obtain ⟨_, h2, q, h3, h4⟩ := h;obtain ⟨e1, e2, _⟩ := l7 h2;exact ⟨q, by unfold eat; rw [if_pos ⟨e1, e2⟩, h3], h4⟩
theorem aDK (h : ¬ (st.2.kind = 5 ∧ st.2.s = [c])) : eat s st [c] = .ok (false, st) := by unfold eat; rw [if_neg h]
theorem jL (h : Path s st (wSg c :: ws) st') : ∃ q, sign s st [c] = .ok q ∧ Path s q ws st' := by
 obtain ⟨_, h2, q, h3, h4⟩ := h;obtain ⟨e1, e2, _⟩ := l7 h2;exact ⟨q, by unfold sign take; rw [if_neg (by simp [e1, e2]), h3], h4⟩
theorem sM {k : Nat} {t : aL} {n : Int} {texts : List aL} (ht : texts = [] ∨ t ∈ texts) (h : Path s st ((k, t, n) :: ws) st') : ∃ q, take s st k texts = .ok (st.2, q) ∧ st.2.wd = (k, t, n) ∧ Path s q ws st' := by
 obtain ⟨_, h2, q, h3, h4⟩ := h;obtain ⟨e1, e2, _⟩ := l7 h2;refine ⟨q, ?_, h2, h4⟩
 unfold take;rw [if_neg (by rw [e1, e2]; rcases ht with rfl | ht <;> simp [*]), h3]
theorem lN {ff : aL → Int} (hf : ff w = 0) (h : Path s st (wTx w :: ws) st') : ∃ q, text s st ff = .ok (w, q) ∧ Path s q ws st' := by
 obtain ⟨q, h1, h2, h3⟩ := sM (texts := []) (.inl rfl) h;obtain ⟨e1, e2, _⟩ := l7 h2;refine ⟨q, ?_, h3⟩
 unfold text;rw [if_neg (by rw [e2]; exact fun h => h.2 hf), h1];simp only [e2]
end
inductive GList : List Wd → List aL → Prop where
 | one (w : aL) : GList [wTx w] [w]
 | many (w : aL) (ws : List aL) : GList (wSg 91 :: wTx w :: (ws.flatMap (fun x => [wSg 44, wTx x]) ++ [wSg 93])) (w :: ws)
theorem dJ {s : aL} {st st' : St} {w : Wd} {ws : List Wd} (h : Path s st (w :: ws) st') : st.2.kind = w.1 ∧ st.2.s = w.2.1 := by
 obtain ⟨k, t, n⟩ := w;obtain ⟨e1, e2, _⟩ := l7 h.2.1;exact ⟨e1, e2⟩
theorem xV {s : aL} {ff : aL → Int} : ∀ (ws : List aL) (f : Nat) (st st' : St) (acc : List aL), ws.length < f → (∀ x ∈ ws, ff x = 0) →
  Path s st (ws.flatMap (fun x => [wSg 44, wTx x]) ++ [wSg 93]) st' → lG s ff f st acc = .ok (acc ++ ws, st')
 | [], f, st, st', acc, hf, _, h => by
  obtain ⟨f, rfl⟩ : ∃ g, f = g + 1 := ⟨f - 1, by omega⟩;have h : Path s st [wSg 93] st' := h;obtain ⟨e1, e2⟩ := dJ h;obtain ⟨q, h1, h2⟩ := jL h;unfold lG;rw [aDK (by rw [e2]; simp)];simp only [Bool.false_eq_true, if_false];rw [h1];have : st' = q := h2;rw [this, List.append_nil]
 | w :: ws, f, st, st', acc, hf, hg, h => by
  obtain ⟨f, rfl⟩ : ∃ g, f = g + 1 := ⟨f - 1, by omega⟩;have h : Path s st (wSg 44 :: wTx w :: (ws.flatMap (fun x => [wSg 44, wTx x]) ++ [wSg 93])) st' := h;obtain ⟨q, h1, h2⟩ := zF h;obtain ⟨q2, h3, h4⟩ := lN (ff := ff) (hg w (by simp)) h2;unfold lG;rw [h1];simp only [if_true];rw [h3];simp only [];rw [xV ws f q2 st' _ (by simpa using hf) (fun x hx => hg x (by simp [hx])) h4];simp
theorem sD {s : aL} {ff : aL → Int} {u : List Wd} {l : List aL} {st st' : St} (hu : GList u l) (hg : ∀ x ∈ l, ff x = 0) (ha : st.1 ≤ s.length) (h : Path s st u st') : list s st ff = .ok (l, st') := by
 cases hu with
 | one w =>
  obtain ⟨e1, e2⟩ := dJ h;obtain ⟨q, h1, h2⟩ := lN (ff := ff) (hg w (by simp)) h;have : st' = q := h2;subst this;unfold list;rw [aDK (by rw [e1]; simp)];simp only [];rw [h1]; simp
 | many w ws =>
  obtain ⟨q, h1, h2⟩ := zF h;obtain ⟨q2, h3, h4⟩ := lN (ff := ff) (hg w (by simp)) h2;have m0 : q.1 ≤ s.length := (oV ha h1).1;have m1 : q2.1 ≤ s.length := (gR (r := (w, q2)) m0 h3).2;have m2 := iO m1 h4;have hx : ∀ l : List aL, l.length ≤ (l.flatMap (fun x => [wSg 44, wTx x])).length := by
   intro l;induction l with
   | nil => simp
   | cons x l ih => rw [List.flatMap_cons, List.length_append]; simp only [List.length_cons, List.length_nil]; omega
  have hx1 := hx ws;rw [List.length_append] at m2;unfold list;rw [h1];simp only [];rw [h3];simp only [if_true];rw [xV ws _ q2 st' _ aH (fun x hx => hg x (by simp [hx])) h4];simp
theorem eC {s : aL} {st st' : St} {w : Wd} {ws : List Wd} (ha : st.1 ≤ s.length) (h : Path s st (w :: ws) st') : ∃ q, next s st.1 = .ok q ∧ q.1 ≤ s.length ∧ Path s q ws st' := by
 obtain ⟨h1, h2, q, h3, h4⟩ := h;exact ⟨q, h3, (eP ha h1 h3).2, h4⟩
inductive GTags : How → List Wd → How → Prop where
 | nil (h : How) : GTags h [] h
 | tag (h h' : How) (x : aL) (i : Nat) (u : List Wd) : h.tag = 0 → i < 3 → cN dD x = i → GTags ⟨h.cmp, 1 + (i : Int), h.oct⟩ u h' → GTags h (wTg x :: u) h'
 | cmp (h h' : How) (x : aL) (u : List Wd) : h.cmp = false → x ∈ [eI, fD] → GTags ⟨true, h.tag, decide (x = eI)⟩ u h' → GTags h (wTg lZ :: wTx x :: u) h'
theorem aIB {s : aL} {h h' : How} {u : List Wd} (hu : GTags h u h') : ∀ (f : Nat) (st st' : St), u.length < f → st.1 ≤ s.length → Path s st u st' → st'.2.kind ≠ 2 → d7 s f h st = .ok (h', st') := by
 induction hu with
 | nil h =>
  intro f st st' hf ha hp hk;obtain ⟨f, rfl⟩ : ∃ g, f = g + 1 := ⟨f - 1, by omega⟩;have : st' = st := hp;subst this;unfold d7; rw [if_neg hk]
 | tag h h' x i u ht hi hx _ ih =>
  intro f st st' hf ha hp hk;obtain ⟨f, rfl⟩ : ∃ g, f = g + 1 := ⟨f - 1, by omega⟩;obtain ⟨e1, e2⟩ := dJ hp;obtain ⟨q, h1, h2, h3⟩ := eC ha hp;unfold d7;rw [if_pos e1, e2, hx, if_neg aH, if_neg (by rintro (⟨h, _⟩ | ⟨_, h⟩); omega; exact h ht), if_pos aH, h1];simp only [];exact ih f q st' (by simpa using hf) h2 h3 hk
 | cmp h h' x u hc hx _ ih =>
  intro f st st' hf ha hp hk;obtain ⟨f, rfl⟩ : ∃ g, f = g + 1 := ⟨f - 1, by omega⟩;obtain ⟨e1, e2⟩ := dJ hp;obtain ⟨q, h1, h2, h3⟩ := eC ha hp;obtain ⟨q2, h4, h5⟩ := lN (ff := oneOf 7 [eI, fD]) (by unfold oneOf; rw [if_pos hx]) h3;have m1 : q2.1 ≤ s.length := (gR (r := (x, q2)) h2 h4).2;have e3 : cN dD lZ = 3 := by decide
  unfold d7;rw [if_pos e1, e2, e3, if_neg (by decide), if_neg (by rw [hc]; simp), if_neg (by decide), h1];simp only [];rw [h4];simp only [];exact ih f q2 st' (by simp at hf; omega) m1 h5 hk
inductive GTest (needs : List aL) : Nat → List Wd → Tree → Prop where
 | tru (n : Nat) : GTest needs (n + 1) [wNm w5] (.const true)
 | fls (n : Nat) : GTest needs (n + 1) [wNm sQ] (.const false)
 | not_ (n : Nat) (u : List Wd) (t : Tree) : GTest needs n u t → GTest needs (n + 1) (wNm aC2 :: u) (.not_ t)
 | many (n : Nat) (all : Bool) (u : List Wd) (t : Tree) (us : List (List Wd × Tree)) : GTest needs n u t → (∀ p, p ∈ us → GTest needs n p.1 p.2) →
   GTest needs (n + 1) (wNm (if all = true then sO else sP) :: wSg 40 :: (u ++ (us.flatMap (fun p => wSg 44 :: p.1) ++ [wSg 41]))) (.many all (us.foldl (fun l p => l.snocT p.2) (.tcons t .tnil)))
 | mat (n : Nat) (word : aL) (op : Int) (ext : aL) (u v w : List Wd) (h : How) (a b : List aL) : (word, op, ext) ∈ [(lO, (6 : Int), ([] : aL)), (gA, 7, gA), (pM, 8, dH)] →
   (ext ≠ [] → ext ∈ needs) → GTags ⟨false, 0, false⟩ u h → GList v a → (∀ x ∈ a, j9 op x = 0) → GList w b →
   GTest needs (n + 1) (wNm word :: (u ++ (v ++ w))) (.mat (if 1 > h.tag then 1 else h.tag) h.oct op a b)
 | exi (n : Nat) (v : List Wd) (a : List aL) : GList v a → GTest needs (n + 1) (wNm pL :: v) (.exi a)
 | siz (n : Nat) (x : aL) (k : Int) : x ∈ [w3, l5] → GTest needs (n + 1) [wNm w4, wTg x, wNu k] (.siz (if x = l5 then 2 else 1) k)
theorem aJ2 {u : List Wd} {l : List aL} (h : GList u l) : ∃ w r, u = w :: r ∧ w.1 ≠ 2 := by
 cases h with
 | one w => exact ⟨_, _, rfl, by simp⟩
 | many w ws => exact ⟨_, _, rfl, by simp⟩
theorem xZ {s : aL} {T : St → Res (Tree × St)} : ∀ (us : List (List Wd × Tree)) (f : Nat) (acc : Tree) (st st' : St), us.length < f → st.1 ≤ s.length →
  (∀ p, p ∈ us → ∀ st st', st.1 ≤ s.length → Path s st p.1 st' → T st = .ok (p.2, st')) → Path s st (us.flatMap (fun p => wSg 44 :: p.1) ++ [wSg 41]) st' →
  mM s T f acc st = .ok (us.foldl (fun l p => l.snocT p.2) acc, st')
 | [], f, acc, st, st', hf, ha, _, h => by
  obtain ⟨f, rfl⟩ : ∃ g, f = g + 1 := ⟨f - 1, by omega⟩;have h : Path s st [wSg 41] st' := h;obtain ⟨e1, e2⟩ := dJ h;obtain ⟨q, h1, h2⟩ := jL h;have : st' = q := h2;subst this;unfold mM;rw [aDK (by rw [e2]; simp)];simp only [Bool.false_eq_true, if_false];rw [h1]; rfl
 | p :: us, f, acc, st, st', hf, ha, hT, h => by
  obtain ⟨f, rfl⟩ : ∃ g, f = g + 1 := ⟨f - 1, by omega⟩;have h : Path s st (wSg 44 :: (p.1 ++ (us.flatMap (fun p => wSg 44 :: p.1) ++ [wSg 41]))) st' := by
   have := h; rw [List.flatMap_cons] at this; simpa using this
  obtain ⟨q, h1, h2⟩ := zF h;have m0 : q.1 ≤ s.length := (oV ha h1).1;obtain ⟨q2, h3, h4⟩ := jK.1 h2;have m1 := (iO m0 h3).2;unfold mM;rw [h1];simp only [if_true];rw [hT p (by simp) q q2 m0 h3];simp only [];exact xZ us f _ q2 st' (by simpa using hf) m1 (fun x hx => hT x (by simp [hx])) h4
theorem aLO {s : aL} {needs : List aL} {n : Nat} {u : List Wd} {t : Tree} (h : GTest needs n u t) : ∀ st st', st.1 ≤ s.length → Path s st u st' → test s needs n st = .ok (t, st') := by
 induction h with
 | tru n =>
  intro st st' ha hp;obtain ⟨e1, e2⟩ := dJ hp;obtain ⟨q, h1, h2, h3⟩ := eC ha hp;have : st' = q := h3;subst this;unfold test lK; rw [if_pos e1, e2]
  simp only [if_true, jY, h1]
 | fls n =>
  intro st st' ha hp;obtain ⟨e1, e2⟩ := dJ hp;obtain ⟨q, h1, h2, h3⟩ := eC ha hp;have : st' = q := h3;subst this;unfold test lK; rw [if_pos e1, e2]
  rw [if_neg (by decide), if_pos rfl];simp only [jY, h1]
 | not_ n u t _ ih =>
  intro st st' ha hp;obtain ⟨e1, e2⟩ := dJ hp;obtain ⟨q, h1, h2, h3⟩ := eC ha hp;unfold test lK; rw [if_pos e1, e2]
  rw [if_neg (by decide), if_neg (by decide), if_pos rfl];simp only [notC, h1];rw [ih q st' h2 h3]
 | many n all u t us _ _ ih1 ih2 =>
  intro st st' ha hp;obtain ⟨e1, e2⟩ := dJ hp;obtain ⟨q, h1, h2, h3⟩ := eC ha hp;obtain ⟨q1, h4, h5⟩ := jL h3;have m1 := (qA h2 h4).2;obtain ⟨q2, h6, h7⟩ := jK.1 h5;have m2 := (iO m1 h6).2;have m3 := iO m2 h7;have hx : ∀ l : List (List Wd × Tree), l.length ≤ (l.flatMap (fun p => wSg 44 :: p.1)).length := by
   intro l;induction l with
   | nil => simp
   | cons x l ih => rw [List.flatMap_cons, List.length_append]; simp only [List.length_cons]; omega
  have hx1 := hx us;rw [List.length_append] at m3;have key : lT s (test s needs n) all st = .ok (.many all (us.foldl (fun l p => l.snocT p.2) (.tcons t .tnil)), st') := by
   unfold lT;rw [h1];simp only [];rw [h4];simp only [];rw [ih1 q1 q2 m1 h6];simp only [];rw [xZ us _ _ q2 st' aH m2 (fun p hp => ih2 p hp) h7]
   rfl
  unfold test lK; rw [if_pos e1, e2]
  cases all with
  | true =>
   simp only [if_true];rw [if_neg (by decide), if_neg (by decide), if_neg (by decide)];exact key
  | false =>
   simp only [Bool.false_eq_true, if_false];rw [if_neg (by decide), if_neg (by decide), if_neg (by decide), if_neg (by decide), if_pos trivial];exact key
 | mat n word op ext u v w h a b hw hn ht ga hf gb =>
  intro st st' ha hp;obtain ⟨e1, e2⟩ := dJ hp;obtain ⟨q, h1, h2, h3⟩ := eC ha hp;obtain ⟨q1, h4, h5⟩ := jK.1 h3;have m1 := iO h2 h4;obtain ⟨q2, h6, h7⟩ := jK.1 h5;have m2 := (iO m1.2 h6).2;obtain ⟨y, r, rfl, hy⟩ := aJ2 ga;have hk : q1.2.kind ≠ 2 := by rw [(dJ h6).1]; exact hy
  have key : iS s needs op ext st = .ok (.mat (if 1 > h.tag then 1 else h.tag) h.oct op a b, st') := by
   unfold iS;rw [if_neg (by rintro ⟨q1, q2⟩; exact q2 (hn q1)), h1];simp only [];rw [aIB ht _ q q1 aH h2 h4 hk];unfold lH;simp only [];rw [sD ga hf m1.2 h6];simp only [];rw [sD gb (fun _ _ => rfl) m2 h7]
  unfold test lK; rw [if_pos e1, e2]
  simp only [List.mem_cons, List.not_mem_nil, or_false, Prod.mk.injEq] at hw;rcases hw with ⟨rfl, rfl, rfl⟩ | ⟨rfl, rfl, rfl⟩ | ⟨rfl, rfl, rfl⟩
  ·rw [if_neg (by decide), if_neg (by decide), if_neg (by decide), if_neg (by decide), if_neg (by decide), if_pos rfl]; exact key
  ·rw [if_neg (by decide), if_neg (by decide), if_neg (by decide), if_neg (by decide), if_neg (by decide), if_neg (by decide), if_pos rfl]; exact key
  ·rw [if_neg (by decide), if_neg (by decide), if_neg (by decide), if_neg (by decide), if_neg (by decide), if_neg (by decide), if_neg (by decide), if_pos rfl]; exact key
 | exi n v a ga =>
  intro st st' ha hp;obtain ⟨e1, e2⟩ := dJ hp;obtain ⟨q, h1, h2, h3⟩ := eC ha hp;unfold test lK; rw [if_pos e1, e2]
  rw [if_neg (by decide), if_neg (by decide), if_neg (by decide), if_neg (by decide), if_neg (by decide), if_neg (by decide), if_neg (by decide), if_neg (by decide), if_pos rfl];simp only [lB, h1];rw [sD ga (fun _ _ => rfl) h2 h3]
 | siz n x k hx =>
  intro st st' ha hp;obtain ⟨e1, e2⟩ := dJ hp;obtain ⟨q, h1, h2, h3⟩ := eC ha hp;obtain ⟨q1, h4, e3, h5⟩ := sM (texts := [w3, l5]) (.inr hx) h3;obtain ⟨q2, h6, e4, h7⟩ := sM (texts := []) (.inl rfl) h5;have : st' = q2 := h7;subst this;unfold test lK; rw [if_pos e1, e2]
  rw [if_neg (by decide), if_neg (by decide), if_neg (by decide), if_neg (by decide), if_neg (by decide), if_neg (by decide), if_neg (by decide), if_neg (by decide), if_neg (by decide), if_pos rfl];simp only [nR, h1];rw [h4];simp only [];rw [h6];simp only [(l7 e3).2.1, (l7 e4).2.2]
end Go.Syn
end
section
namespace Go.Syn
def d9 : Tree → Tree
 | .act k a _ => .act k a 0
 | .iff bs => .iff (d9 bs)
 | .ccons c l => .ccons (d9 c) (d9 l)
 | .bcons t b l => .bcons t (d9 b) (d9 l)
 | .belse b l => .belse (d9 b) (d9 l)
 | t => t
theorem aCS (x : Tree) : ∀ l : Tree, d9 (l.snocC x) = (d9 l).snocC (d9 x) := by
 intro l;induction l with
 | ccons c l _ ih => simp only [Tree.snocC, d9, ih]
 | _ => simp [Tree.snocC, d9]
theorem t7 (o : Option Tree) (x : Tree) : ∀ l : Tree, d9 (l.snocB o x) = (d9 l).snocB o (d9 x) := by
 intro l;induction l with
 | bcons t b l _ _ ih => simp only [Tree.snocB, d9, ih]
 | belse b l _ ih => simp only [Tree.snocB, d9, ih]
 | _ => cases o <;> simp [Tree.snocB, mkB, d9]
structure Br where
 ut : List Wd
 t : Tree
 ub : List Wd
 b : Tree
def Br.words (p : Br) : List Wd := wNm nF :: (p.ut ++ (wSg 123 :: (p.ub ++ [wSg 125])))
def pW : Option (List Wd × Tree) → List Wd
 | none => []
 | some p => wNm mU :: wSg 123 :: (p.1 ++ [wSg 125])
def endB (acc : Tree) : Option (List Wd × Tree) → Tree
 | none => .iff acc
 | some p => .iff (acc.snocB none p.2)
inductive GCmd (needs : List aL) (n : Nat) (B : List Wd → Tree → Prop) : List Wd → Tree → Prop where
 | simple (word : aL) (c : Tree) : (word = tL ∧ c = .act 1 [] 0) ∨ (word = mD ∧ c = .plain 13) ∨ (word = tM ∧ c = .plain 14) → GCmd needs n B [wNm word, wSg 59] c
 | act (word : aL) (kind : Int) (ext arg : aL) : (word = gP ∧ kind = 2 ∧ ext = gP) ∨ (word = oN ∧ kind = 3 ∧ ext = []) ∨ (word = eO ∧ kind = 4 ∧ ext = eO) →
   (ext ≠ [] → ext ∈ needs) → GCmd needs n B [wNm word, wTx arg, wSg 59] (.act kind arg 0)
 | set0 (name value : aL) : dH ∈ needs → named name = true → GCmd needs n B [wNm aC3, wTx name, wTx value, wSg 59] (.set_ (cU name) value 0)
 | set1 (x name value : aL) (i : Nat) : dH ∈ needs → named name = true → i < 3 → cN [l4, l6, kE] x = i → GCmd needs n B [wNm aC3, wTg x, wTx name, wTx value, wSg 59] (.set_ (cU name) value (1 + (i : Int)))
 | iff (ut : List Wd) (t : Tree) (ub : List Wd) (b : Tree) (brs : List Br) (els : Option (List Wd × Tree)) : GTest needs n ut t → B ub b → (∀ p, p ∈ brs → GTest needs n p.ut p.t ∧ B p.ub p.b) → (∀ p, els = some p → B p.1 p.2) →
   GCmd needs n B (wNm txIf :: (ut ++ (wSg 123 :: (ub ++ (wSg 125 :: (brs.flatMap Br.words ++ pW els)))))) (endB (brs.foldl (fun l p => l.snocB (some p.t) p.b) (.bcons t b .bnil)) els)
def qW (needs : List aL) : Nat → List Wd → Tree → Prop
 | 0 => fun u t => u = [] ∧ t = .cnil
 | n + 1 => fun u t => ∃ cs : List (List Wd × Tree), (∀ p, p ∈ cs → GCmd needs n (qW needs n) p.1 p.2) ∧ u = cs.flatMap (·.1) ∧ t = cs.foldl (fun l p => l.snocC p.2) .cnil
def aAC (st : St) : Prop := ¬ (st.2.kind = 1 ∧ (st.2.s = nF ∨ st.2.s = mU))
theorem oE {needs : List aL} {n : Nat} {B : List Wd → Tree → Prop} {u : List Wd} {c : Tree} (h : GCmd needs n B u c) : ∃ w r, u = wNm w :: r ∧ w ≠ nF ∧ w ≠ mU := by
 cases h with
 | simple word c h => rcases h with ⟨rfl, rfl⟩ | ⟨rfl, rfl⟩ | ⟨rfl, rfl⟩ <;> exact ⟨_, _, rfl, by decide, by decide⟩
 | act word kind ext arg h _ => rcases h with ⟨rfl, _, _⟩ | ⟨rfl, _, _⟩ | ⟨rfl, _, _⟩ <;> exact ⟨_, _, rfl, by decide, by decide⟩
 | set0 => exact ⟨_, _, rfl, by decide, by decide⟩
 | set1 => exact ⟨_, _, rfl, by decide, by decide⟩
 | iff => exact ⟨_, _, rfl, by decide, by decide⟩
section
variable {s : aL} {needs : List aL} {n : Nat} {B : List Wd → Tree → Prop} {T Bf : St → Res (Tree × St)}
theorem uY (hB : ∀ u t, B u t → ∀ st st', st.1 ≤ s.length → Path s st u st' → st'.2.kind ≠ 1 → ∃ t', Bf st = .ok (t', st') ∧ d9 t' = t) {u : List Wd} {t : Tree} {ws : List Wd} {st st' : St}
  (hu : B u t) (ha : st.1 ≤ s.length) (h : Path s st (wSg 123 :: (u ++ (wSg 125 :: ws))) st') : ∃ t' q, mW s Bf st = .ok (t', q) ∧ d9 t' = t ∧ q.1 ≤ s.length ∧ Path s q ws st' := by
 obtain ⟨q, h1, h2⟩ := jL h;have m1 := (qA ha h1).2;obtain ⟨q2, h3, h4⟩ := jK.1 h2;have m2 := (iO m1 h3).2;obtain ⟨t', h5, h6⟩ := hB u t hu q q2 m1 h3 (by rw [(dJ h4).1]; simp);obtain ⟨q3, h7, h8⟩ := jL h4;refine ⟨t', q3, ?_, h6, (qA m2 h7).2, h8⟩
 unfold mW;rw [h1];simp only [];rw [h5];simp only [];rw [h7]
theorem xT (hT : ∀ u t, GTest needs n u t → ∀ st st', st.1 ≤ s.length → Path s st u st' → T st = .ok (t, st')) (hB : ∀ u t, B u t → ∀ st st', st.1 ≤ s.length → Path s st u st' → st'.2.kind ≠ 1 → ∃ t', Bf st = .ok (t', st') ∧ d9 t' = t)
  {els : Option (List Wd × Tree)} (he : ∀ p, els = some p → B p.1 p.2) : ∀ (brs : List Br) (f : Nat) (acc acc0 : Tree) (st st' : St), brs.length < f → (∀ p, p ∈ brs → GTest needs n p.ut p.t ∧ B p.ub p.b) → st.1 ≤ s.length → d9 acc = acc0 →
  Path s st (brs.flatMap Br.words ++ pW els) st' → aAC st' → ∃ c', eQ s T Bf f acc st = .ok (c', st') ∧ d9 c' = endB (brs.foldl (fun l p => l.snocB (some p.t) p.b) acc0) els
 | [], f, acc, acc0, st, st', hf, _, ha, hacc, h, hn => by
  obtain ⟨f, rfl⟩ : ∃ g, f = g + 1 := ⟨f - 1, by omega⟩;have h : Path s st (pW els) st' := h;unfold eQ;cases els with
  | none =>
   have : st' = st := h;subst this;rw [if_neg fun h => hn ⟨h.1, .inl h.2⟩];unfold gT;rw [if_neg fun h => hn ⟨h.1, .inr h.2⟩];exact ⟨_, rfl, by simp only [d9, hacc, List.foldl_nil, endB]⟩
  | some p =>
   have h : Path s st (wNm mU :: wSg 123 :: (p.1 ++ [wSg 125])) st' := h;obtain ⟨e1, e2⟩ := dJ h;obtain ⟨q, h1, h2, h3⟩ := eC ha h;obtain ⟨b', q2, h4, h5, _, h6⟩ := uY hB (he p rfl) h2 h3;have : st' = q2 := h6;subst this;rw [if_neg (by rw [e2]; exact fun h => absurd h.2 (by decide))];unfold gT;rw [if_pos ⟨e1, e2⟩, h1];simp only [];rw [h4];exact ⟨_, rfl, by simp only [d9, t7, hacc, h5, List.foldl_nil, endB]⟩
 | p :: brs, f, acc, acc0, st, st', hf, hb, ha, hacc, h, hn => by
  obtain ⟨f, rfl⟩ : ∃ g, f = g + 1 := ⟨f - 1, by omega⟩;have h : Path s st (wNm nF :: (p.ut ++ (wSg 123 :: (p.ub ++ (wSg 125 :: (brs.flatMap Br.words ++ pW els)))))) st' := by
   have := h; rw [List.flatMap_cons] at this; simpa [Br.words] using this
  obtain ⟨e1, e2⟩ := dJ h;obtain ⟨q, h1, h2, h3⟩ := eC ha h;obtain ⟨q2, h4, h5⟩ := jK.1 h3;have m2 := (iO h2 h4).2;obtain ⟨g1, g2⟩ := hb p (by simp);obtain ⟨b', q3, h6, h7, m3, h8⟩ := uY hB g2 m2 h5;unfold eQ;rw [if_pos ⟨e1, e2⟩, h1];simp only [];rw [hT _ _ g1 q q2 h2 h4];simp only [];rw [h6];simp only [];exact xT hT hB he brs f _ _ q3 st' (by simpa using hf) (fun x hx => hb x (by simp [hx])) m3 (by rw [t7, hacc, h7]) h8 hn
theorem y4 : ∀ l : List Br, l.length ≤ (l.flatMap Br.words).length
 | [] => Nat.le_refl _
 | p :: l => by
  have := y4 l;rw [List.flatMap_cons, List.length_append];simp only [Br.words, List.length_cons];omega
theorem aML (hT : ∀ u t, GTest needs n u t → ∀ st st', st.1 ≤ s.length → Path s st u st' → T st = .ok (t, st')) (hB : ∀ u t, B u t → ∀ st st', st.1 ≤ s.length → Path s st u st' → st'.2.kind ≠ 1 → ∃ t', Bf st = .ok (t', st') ∧ d9 t' = t)
  {u : List Wd} {c : Tree} (h : GCmd needs n B u c) {st st' : St} (ha : st.1 ≤ s.length) (hp : Path s st u st') (hn : aAC st') : ∃ c', cmdD s needs T Bf st = some (.ok (c', st')) ∧ d9 c' = c := by
 cases h with
 | simple word c h =>
  obtain ⟨e1, e2⟩ := dJ hp;obtain ⟨q, h1, h2, h3⟩ := eC ha hp;obtain ⟨q2, h4, h5⟩ := jL h3;have : st' = q2 := h5;subst this;have key : ∀ x : Tree, jB s x st = .ok (x, st') := fun x => by unfold jB; rw [h1]; simp only []; rw [h4]
  unfold cmdD;rw [e2];rcases h with ⟨rfl, rfl⟩ | ⟨rfl, rfl⟩ | ⟨rfl, rfl⟩
  ·simp only [if_true, key]; exact ⟨_, rfl, rfl⟩
  ·simp only [show (mD = tL) = False from by decide, if_false, if_true, key]; exact ⟨_, rfl, rfl⟩
  ·simp only [show (tM = tL) = False from by decide, show (tM = mD) = False from by decide, if_false, if_true, key]; exact ⟨_, rfl, rfl⟩
 | act word kind ext arg h hx =>
  obtain ⟨e1, e2⟩ := dJ hp;obtain ⟨q, h1, h2, h3⟩ := eC ha hp;obtain ⟨q1, h4, e4, h5⟩ := sM (texts := []) (.inl rfl) h3;obtain ⟨q2, h6, h7⟩ := jL h5;have : st' = q2 := h7;subst this;have key : ∀ x : Int, actC s needs kind ext x st = .ok (.act kind arg x, st') := fun x => by
   unfold actC;rw [if_neg (by rintro ⟨q1, q2⟩; exact q2 (hx q1)), h1];simp only [];rw [h4];simp only [];rw [h6];simp only [(l7 e4).2.1]
  unfold cmdD;rw [e2];rcases h with ⟨rfl, rfl, rfl⟩ | ⟨rfl, rfl, rfl⟩ | ⟨rfl, rfl, rfl⟩
  ·rw [if_neg (by decide), if_neg (by decide), if_neg (by decide), if_pos rfl, key]; exact ⟨_, rfl, rfl⟩
  ·rw [if_neg (by decide), if_neg (by decide), if_neg (by decide), if_neg (by decide), if_pos rfl, key]; exact ⟨_, rfl, rfl⟩
  ·rw [if_neg (by decide), if_neg (by decide), if_neg (by decide), if_neg (by decide), if_neg (by decide), if_pos rfl, key]; exact ⟨_, rfl, rfl⟩
 | set0 name value hv hname =>
  obtain ⟨e1, e2⟩ := dJ hp;obtain ⟨q, h1, h2, h3⟩ := eC ha hp;obtain ⟨e3, _⟩ := dJ h3;obtain ⟨q1, h4, h5⟩ := lN (ff := fun x => if named x = true then 0 else 7) (by rw [if_pos hname]) h3;obtain ⟨q2, h6, h7⟩ := lN (ff := fun _ => 0) rfl h5;obtain ⟨q3, h8, h9⟩ := jL h7;have : st' = q3 := h9;subst this;have key : setC s needs st = .ok (⟨cU name, value, 0⟩, st') := by
   unfold setC iI;rw [if_pos hv, h1];simp only [];rw [if_neg (by rw [e3]; simp)];unfold kC;simp only [];rw [h4];simp only [];rw [h6];simp only [];rw [h8]
  unfold cmdD sI;rw [e2, if_neg (by decide), if_neg (by decide), if_neg (by decide), if_neg (by decide), if_neg (by decide), if_neg (by decide), if_pos rfl, key];exact ⟨_, rfl, rfl⟩
 | set1 x name value i hv hname hi hx =>
  obtain ⟨e1, e2⟩ := dJ hp;obtain ⟨q, h1, h2, h3⟩ := eC ha hp;obtain ⟨e3, e4⟩ := dJ h3;obtain ⟨q0, h10, h11, h12⟩ := eC h2 h3;obtain ⟨q1, h4, h5⟩ := lN (ff := fun x => if named x = true then 0 else 7) (by rw [if_pos hname]) h12;obtain ⟨q2, h6, h7⟩ := lN (ff := fun _ => 0) rfl h5;obtain ⟨q3, h8, h9⟩ := jL h7;have : st' = q3 := h9;subst this;have key : setC s needs st = .ok (⟨cU name, value, 1 + (i : Int)⟩, st') := by
   unfold setC iI;rw [if_pos hv, h1];simp only [];rw [if_pos e3, e4, hx, if_neg aH, h10];unfold kC;simp only [];rw [h4];simp only [];rw [h6];simp only [];rw [h8]
  unfold cmdD sI;rw [e2, if_neg (by decide), if_neg (by decide), if_neg (by decide), if_neg (by decide), if_neg (by decide), if_neg (by decide), if_pos rfl, key];exact ⟨_, rfl, rfl⟩
 | iff ut t ub b brs els gt gb gbrs gels =>
  obtain ⟨e1, e2⟩ := dJ hp;obtain ⟨q, h1, h2, h3⟩ := eC ha hp;obtain ⟨q2, h4, h5⟩ := jK.1 h3;have m2 := (iO h2 h4).2;obtain ⟨b', q3, h6, h7, m3, h8⟩ := uY hB gb m2 h5;have m4 := iO m3 h8;have hl := y4 brs;rw [List.length_append] at m4;obtain ⟨c', h9, h10⟩ := xT hT hB gels brs (mu s q3 + 1) (.bcons t b' .bnil) (.bcons t b .bnil) q3 st' aH gbrs m3 (by simp only [d9, h7]) h8 hn;have key : ifC s T Bf st = .ok (c', st') := by
   unfold ifC;rw [h1];simp only [];rw [hT _ _ gt q q2 h2 h4];simp only [];rw [h6];simp only [];exact h9
  unfold cmdD;rw [e2, if_neg (by decide), if_neg (by decide), if_neg (by decide), if_neg (by decide), if_neg (by decide), if_neg (by decide), if_neg (by decide), if_pos rfl, key];exact ⟨_, rfl, h10⟩
theorem uW (hT : ∀ u t, GTest needs n u t → ∀ st st', st.1 ≤ s.length → Path s st u st' → T st = .ok (t, st')) (hB : ∀ u t, B u t → ∀ st st', st.1 ≤ s.length → Path s st u st' → st'.2.kind ≠ 1 → ∃ t', Bf st = .ok (t', st') ∧ d9 t' = t) :
  ∀ (cs : List (List Wd × Tree)) (f : Nat) (acc acc0 : Tree) (st st' : St), cs.length < f → (∀ p, p ∈ cs → GCmd needs n B p.1 p.2) → st.1 ≤ s.length → d9 acc = acc0 → Path s st (cs.flatMap (·.1)) st' → st'.2.kind ≠ 1 →
  ∃ t', iG s (cmdD s needs T Bf) f acc st = .ok (t', st') ∧ d9 t' = cs.foldl (fun l p => l.snocC p.2) acc0
 | [], f, acc, acc0, st, st', hf, _, ha, hacc, h, hk => by
  obtain ⟨f, rfl⟩ : ∃ g, f = g + 1 := ⟨f - 1, by omega⟩;have : st' = st := h;subst this;unfold iG;rw [if_neg hk];exact ⟨_, rfl, hacc⟩
 | p :: cs, f, acc, acc0, st, st', hf, hc, ha, hacc, h, hk => by
  obtain ⟨f, rfl⟩ : ∃ g, f = g + 1 := ⟨f - 1, by omega⟩;rw [List.flatMap_cons] at h;obtain ⟨q, h1, h2⟩ := jK.1 h;have m1 := (iO ha h1).2;have hn : aAC q := by
   cases cs with
   | nil => have : st' = q := h2; subst this; exact fun h => hk h.1
   | cons p2 cs =>
    obtain ⟨w, r, e, w1, w2⟩ := oE (hc p2 (by simp));rw [List.flatMap_cons, e] at h2;have e2 := (dJ h2).2;rintro ⟨_, h | h⟩
    ·exact w1 (e2.symm.trans h)
    ·exact w2 (e2.symm.trans h)
  obtain ⟨c', h3, h4⟩ := aML hT hB (hc p (by simp)) ha h1 hn;have hk1 : st.2.kind = 1 := by
   obtain ⟨w, r, e, _, _⟩ := oE (hc p (by simp));rw [e] at h1;exact (dJ h1).1
  unfold iG;rw [if_pos hk1, h3];simp only [];obtain ⟨t', h5, h6⟩ := uW hT hB cs f _ _ q st' (by simpa using hf) (fun x hx => hc x (by simp [hx])) m1 (show d9 (acc.snocC c') = _ from rfl) h2 hk;exact ⟨t', h5, by rw [h6, aCS, hacc, h4]; rfl⟩
end
theorem aBC {needs : List aL} {n : Nat} {B : List Wd → Tree → Prop} : ∀ l : List (List Wd × Tree), (∀ p, p ∈ l → GCmd needs n B p.1 p.2) → l.length ≤ (l.flatMap (·.1)).length
 | [], _ => Nat.le_refl _
 | p :: l, h => by
  have := aBC l fun x hx => h x (by simp [hx])
  obtain ⟨w, r, e, _, _⟩ := oE (h p (by simp));rw [List.flatMap_cons, List.length_append, e];simp only [List.length_cons];omega
theorem xO {s : aL} {needs : List aL} : ∀ (n : Nat) (u : List Wd) (t : Tree), qW needs n u t → ∀ st st', st.1 ≤ s.length → Path s st u st' → st'.2.kind ≠ 1 → ∃ t', block s needs n st = .ok (t', st') ∧ d9 t' = t
 | 0, u, t, h, st, st', ha, hp, hk => by
  obtain ⟨rfl, rfl⟩ := h;have : st' = st := hp;subst this;unfold block;rw [if_neg hk];exact ⟨_, rfl, rfl⟩
 | n + 1, u, t, h, st, st', ha, hp, hk => by
  obtain ⟨cs, hc, rfl, rfl⟩ := h;have m := iO ha hp;have hl := aBC cs hc;unfold block;exact uW (fun u t h => aLO h) (xO n) cs _ _ _ st st' aH hc ha rfl hp hk
inductive GReq : List aL → List Wd → List aL → Prop where
 | nil (ns : List aL) : GReq ns [] ns
 | cons (ns ns' : List aL) (u v : List Wd) (l : List aL) : GList u l → (∀ x ∈ l, x ∈ wY) → GReq (gS ns l) v ns' → GReq ns (wNm iF :: (u ++ (wSg 59 :: v))) ns'
theorem aKZ {s : aL} {ns ns' : List aL} {u : List Wd} (hu : GReq ns u ns') : ∀ (f : Nat) (st st' : St), u.length < f → st.1 ≤ s.length → Path s st u st' → ¬ (st'.2.kind = 1 ∧ st'.2.s = iF) → reqF s f ns st = .ok (ns', st') := by
 induction hu with
 | nil ns =>
  intro f st st' hf ha hp hk;obtain ⟨f, rfl⟩ : ∃ g, f = g + 1 := ⟨f - 1, by omega⟩;have : st' = st := hp;subst this;unfold reqF; rw [if_neg hk]
 | cons ns ns' u v l hl hx _ ih =>
  intro f st st' hf ha hp hk;obtain ⟨f, rfl⟩ : ∃ g, f = g + 1 := ⟨f - 1, by omega⟩;obtain ⟨e1, e2⟩ := dJ hp;obtain ⟨q, h1, h2, h3⟩ := eC ha hp;obtain ⟨q1, h4, h5⟩ := jK.1 h3;have m1 := (iO h2 h4).2;obtain ⟨q2, h6, h7⟩ := jL h5;have m2 := (qA m1 h6).2;unfold reqF;rw [if_pos ⟨e1, e2⟩, h1];simp only [];rw [sD hl (fun x hx' => by unfold oneOf; rw [if_pos (hx x hx')]) h2 h4];simp only [];rw [h6];simp only [];exact ih f q2 st' (by simp at hf; omega) m2 h7 hk
theorem aHH {s : aL} {ns : List aL} {u v : List Wd} {t : Tree} {st st' : St} (h0 : next s 0 = .ok st) (hr : GReq [] u ns) (hb : qW ns 7 v t) (hp : Path s st (u ++ v) st') (he : st'.2.kind = 0) (hv : ∀ w r, v = w :: r → w ≠ wNm iF) :
  ∃ t', e8 s = .ok (ns, t') ∧ d9 t' = t := by
 have ha := (uH (Nat.zero_le _) h0).2.1;obtain ⟨q, h1, h2⟩ := jK.1 hp;have m1 := iO ha h1;have hk : ¬ (q.2.kind = 1 ∧ q.2.s = iF) := by
  cases v with
  | nil => have : st' = q := h2; subst this; rw [he]; simp
  | cons w r =>
   obtain ⟨k, x, m⟩ := w;rintro ⟨a1, a2⟩;obtain ⟨b1, b2, b3⟩ := l7 h2.2.1;have hm : m = 0 := by
    obtain ⟨cs, hc, e, _⟩ := hb;cases cs with
    | nil => cases e
    | cons p cs =>
     obtain ⟨w', r', e', _, _⟩ := oE (hc p (by simp));rw [List.flatMap_cons, e'] at e;simp at e;exact e.1.2.2
   exact hv _ _ rfl (by rw [hm, ← b1, ← b2, a1, a2])
 obtain ⟨t', h3, h4⟩ := xO 7 v t hb q st' m1.2 h2 (by rw [he]; simp);refine ⟨t', ?_, h4⟩
 unfold e8;rw [h0];simp only [];rw [aKZ hr _ st q aH ha h1 hk];unfold f9;simp only [];rw [h3];simp only [];rw [if_pos he]
end Go.Syn
end
section
namespace Go.Syn
def Tk.wd : Tk → Wd
 | .sg c => wSg c
 | .nm w => wNm (cU w)
 | .tg w => wTg (cU w)
 | .tx w => wTx w
theorem Tk.word_wd (t : Tk) (a : Nat) : (t.word a).wd = t.wd ∧ (t.word a).kind ≠ 0 := by
 cases t <;> simp [Tk.word, Tk.wd, Word.wd]
def rend : List (aL × Tk) → aL → aL
 | [], e => e
 | x :: r, e => x.1 ++ (x.2.body ++ rend r e)
def aDF : List (aL × Tk) → Bool
 | [] => true
 | (_ :: _, _) :: _ => true
 | ([], .nm _) :: _ => false
 | ([], _) :: _ => true
def nL : List (aL × Tk) → Bool
 | [] => true
 | (b, .sg c) :: r => b.all iQ && (cI c && nL r)
 | (b, .nm w) :: r => b.all iQ && (yC w && (aDF r && nL r))
 | (b, .tg w) :: r => b.all iQ && (yC w && (aDF r && nL r))
 | (b, .tx _) :: r => b.all iQ && nL r
def aC6 (c : UInt8) : Bool := !(iQ c || cI c) || !dT c
theorem aAY : ∀ n : Fin 256, aC6 (UInt8.ofNat n.val) = true := by decide +kernel
theorem wB {c : UInt8} (h : iQ c = true ∨ cI c = true) : dT c = false := by
 have := aAY ⟨c.toNat, c.toNat_lt⟩;simp only [UInt8.ofNat_toNat] at this;unfold aC6 at this;rcases h with h | h <;> rw [h] at this <;> simpa using this
theorem xU {b : aL} {tk : Tk} {r : List (aL × Tk)} (h : nL ((b, tk) :: r) = true) : (∀ c ∈ b, iQ c = true) ∧ tk.good = true ∧ nL r = true := by
 cases tk <;> simp only [nL, Bool.and_eq_true, List.all_eq_true] at h
 ·exact ⟨h.1, h.2.1, h.2.2⟩
 ·exact ⟨h.1, h.2.1, h.2.2.2⟩
 ·exact ⟨h.1, h.2.1, h.2.2.2⟩
 ·exact ⟨h.1, rfl, h.2⟩
theorem xP {r : List (aL × Tk)} {e : aL} (hc : aDF r = true) (hg : nL r = true) (he : ∀ c ∈ e, iQ c = true) : ∀ c, (rend r e).head? = some c → dT c = false := by
 intro c h;cases r with
 | nil =>
  cases e with
  | nil => cases h
  | cons x e => simp [rend] at h; subst h; exact wB (.inl (he x (by simp)))
 | cons x r =>
  obtain ⟨b, tk⟩ := x;obtain ⟨g1, g2, _⟩ := xU hg;cases b with
  | cons x b => simp [rend] at h; subst h; exact wB (.inl (g1 x (by simp)))
  | nil =>
   cases tk with
   | sg d => simp [rend, Tk.body] at h; subst h; exact wB (.inr g2)
   | nm w => cases hc
   | tg w => simp [rend, Tk.body] at h; subst h; decide
   | tx w => simp [rend, Tk.body] at h; subst h; decide
theorem aJ5 {b : aL} {tk : Tk} {r : List (aL × Tk)} {e : aL} (h : nL ((b, tk) :: r) = true) (he : ∀ c ∈ e, iQ c = true) : tk.sep (rend r e) := by
 cases tk with
 | sg c => trivial
 | tx w => trivial
 | nm w => simp only [nL, Bool.and_eq_true] at h; exact xP h.2.2.1 h.2.2.2 he
 | tg w => simp only [nL, Bool.and_eq_true] at h; exact xP h.2.2.1 h.2.2.2 he
theorem yF {s e : aL} (he : ∀ c ∈ e, iQ c = true) : ∀ (ts : List (aL × Tk)) (a : Nat), a ≤ s.length → nL ts = true → s.drop a = rend ts e →
  ∃ st st', next s a = .ok st ∧ Path s st (ts.map fun x => x.2.wd) st' ∧ st'.2.kind = 0
 | [], a, ha, _, h => ⟨_, _, aKF h he ha, rfl, rfl⟩
 | (b, tk) :: r, a, ha, hg, h => by
  obtain ⟨g1, g2, g3⟩ := xU hg;obtain ⟨h1, h2⟩ := aM2 h g1 g2 (aJ5 hg he);obtain ⟨w1, w2⟩ := Tk.word_wd tk (a + b.length);obtain ⟨q, st', h3, h4, h5⟩ := yF he r (a + b.length + tk.body.length) (uH ha h1).2.1 g3 h2;exact ⟨_, st', h1, ⟨w2, w1, q, h3, h4⟩, h5⟩
theorem aD8 {s e : aL} {ts us : List (aL × Tk)} {ns : List aL} {t : Tree} (he : ∀ c ∈ e, iQ c = true) (hg : nL (ts ++ us) = true) (hs : s = rend (ts ++ us) e) (hr : GReq [] (ts.map fun x => x.2.wd) ns) (hb : qW ns 7 (us.map fun x => x.2.wd) t)
  (hv : ∀ w r, us.map (fun x => x.2.wd) = w :: r → w ≠ wNm iF) : ∃ t', e8 s = .ok (ns, t') ∧ d9 t' = t := by
 obtain ⟨st, st', h1, h2, h3⟩ := yF (s := s) he (ts ++ us) 0 (Nat.zero_le _) hg (by rw [hs]; rfl);rw [List.map_append] at h2;exact aHH h1 hr hb h2 h3 hv
end Go.Syn
end
section
namespace Go.Mach
open Go.Syn
def lowB (c : UInt8) : Bool := decide (97 ≤ c.toNat ∧ c.toNat ≤ 122)
theorem qC {w : aL} (h : ∀ c ∈ w, lowB c = true ∨ c.toNat = 42 ∨ c.toNat = 63) : cU w = w := by
 unfold cU;rw [List.map_congr_left (g := id), List.map_id];intro c hc;unfold jX;rw [if_neg]; rfl
 have := h c hc;unfold lowB at this;simp at this
 show ¬ (65 ≤ c.toNat ∧ c.toNat ≤ 90)
 omega
theorem vN : ∀ {w : aL}, (∀ c ∈ w, c.toNat ≠ 36) → Lib.index w [36, 123] < 0
 | [], _ => by decide
 | c :: w, h => by
  have h1 := vN (w := w) fun x hx => h x (by simp [hx])
  have h2 := h c (by simp);have h3 : c ≠ 36 := fun e => h2 (by rw [e]; rfl)
  have h4 : Lib.index w [36, 123] = -1 := by have := Lib.index_ge w [36, 123]; omega
  unfold Lib.index;rw [h4, if_neg (by simp [List.isPrefixOf]; intro e; exact absurd e.symm h3)]
  decide
theorem zR {nm : Bool} {vars : List (aL × aL)} {parts : List aL} {w : aL} (h : ∀ c ∈ w, c.toNat ≠ 36) (hl : w.length ≤ 1024) : cP nm vars parts w = w := by
 unfold cP;split
 ·unfold fS
  by_cases hw : w = []
  ·rw [if_pos hw, hw]; rfl
  ·rw [if_neg hw, if_pos (vN h), List.nil_append, List.take_of_length_le hl]
 ·rfl
theorem rC {w v k : aL} : ∀ (q : aL) (f i j : Nat), q.length < f → k.drop j = q → (∀ c ∈ q, lowB c = true) → i ≤ v.length → eR w v k f i j = if v.drop i = q then some [] else none
 | [], f, i, j, hf, hk, _, hi => by
  obtain ⟨f, rfl⟩ : ∃ g, f = g + 1 := ⟨f - 1, by omega⟩;have : k.length ≤ j := by have := congrArg List.length hk; simp at this; omega
  unfold eR;rw [List.getElem?_eq_none this];simp only [List.drop_eq_nil_iff]
  by_cases h : i = v.length
  ·rw [if_pos h, if_pos aH]
  ·rw [if_neg h, if_neg aH]
 | c :: q, f, i, j, hf, hk, hq, hi => by
  obtain ⟨f, rfl⟩ : ∃ g, f = g + 1 := ⟨f - 1, by omega⟩;obtain ⟨h1, h2, h3⟩ := eL hk;have hc := hq c (by simp);unfold lowB at hc;simp at hc;unfold eR;rw [h1];simp only [];rw [if_neg aH];cases hv : v[i]? with
  | none =>
   have : v.length ≤ i := by simpa using hv
   rw [List.drop_eq_nil_of_le this];simp
  | some x =>
   have hlt : i < v.length := by
    rcases Nat.lt_or_ge i v.length with h | h
    ·exact h
    ·rw [List.getElem?_eq_none h] at hv; cases hv
   have e : v.drop i = x :: v.drop (i + 1) := by
    rw [List.drop_eq_getElem_cons hlt];rw [List.getElem?_eq_getElem hlt] at hv;rw [Option.some.inj hv]
   simp only [];rw [if_neg aH, if_neg aH];simp only [];rw [e]
   by_cases hx : x = c
   ·rw [if_pos hx, rC q f (i + 1) (j + 1) (by simpa using hf) h3 (fun y hy => hq y (by simp [hy])) aH, hx];simp
   ·rw [if_neg hx, if_neg (by simp [hx])]
theorem o0 {w v k : aL} : ∀ (p ks vs : aL) (f i j : Nat), p.length ≤ f → k.drop j = p ++ ks → v.drop i = p ++ vs → (∀ c ∈ p, lowB c = true) → eR w v k f i j = eR w v k (f - p.length) (i + p.length) (j + p.length)
 | [], ks, vs, f, i, j, _, _, _, _ => rfl
 | c :: p, ks, vs, f, i, j, hf, hk, hv, hp => by
  obtain ⟨f, rfl⟩ : ∃ g, f = g + 1 := ⟨f - 1, by simp at hf; omega⟩;obtain ⟨h1, h2, h3⟩ := eL (show k.drop j = c :: (p ++ ks) from hk);obtain ⟨h4, h5, h6⟩ := eL (show v.drop i = c :: (p ++ vs) from hv);have hc := hp c (by simp);unfold lowB at hc;simp at hc;have e : eR w v k (f + 1) i j = eR w v k f (i + 1) (j + 1) := by
   conv => lhs; unfold eR
   rw [h1];simp only [];rw [if_neg aH, h4];simp only [];rw [if_neg aH, if_neg aH];simp
  rw [e, o0 p ks vs f (i + 1) (j + 1) (by simpa using hf) h3 h6 (fun y hy => hp y (by simp [hy]))];simp only [List.length_cons]
  congr 1 <;> omega
theorem tX {α : Type} {F : Nat → Option α} {x : α} : ∀ (n i e : Nat), i ≤ e → e < i + n → F e = some x → (∀ d, i ≤ d → d < e → F d = none) → iH F n i = some x
 | 0, i, e, h1, h2, _, _ => by omega
 | n + 1, i, e, h1, h2, h3, h4 => by
  unfold iH;rcases Nat.lt_or_ge i e with h | h
  ·rw [h4 i (Nat.le_refl _) h];exact tX n (i + 1) e h aH h3 fun d hd => h4 d aH
  ·have : i = e := by omega
   subst this;rw [h3]
theorem aGV {p mid q : aL} (hp : ∀ c ∈ p, lowB c = true) (hm : ∀ c ∈ mid, lowB c = true) (hq : ∀ c ∈ q, lowB c = true) : glob (p ++ (mid ++ q)) (p ++ 42 :: q) false = some [mid] := by
 unfold glob dP;simp only [Bool.false_eq_true, if_false];rw [qC (w := p ++ (mid ++ q)) (by intro c hc; simp at hc; rcases hc with h | h | h; exact .inl (hp c h); exact .inl (hm c h); exact .inl (hq c h)),
  qC (w := p ++ 42 :: q) (by intro c hc; simp at hc; rcases hc with h | rfl | h; exact .inl (hp c h); exact .inr (.inl rfl); exact .inl (hq c h))]
 have hk : (p ++ 42 :: q).drop p.length = 42 :: q := List.drop_left;have hv : (p ++ (mid ++ q)).drop p.length = mid ++ q := List.drop_left;rw [o0 p (42 :: q) (mid ++ q) _ 0 0 (by simp; omega) rfl rfl hp, Nat.zero_add, show (p ++ 42 :: q).length + 1 - p.length = (q.length + 1) + 1 from by simp; omega];obtain ⟨h1, h2, h3⟩ := eL hk
 conv => lhs; unfold eR
 rw [h1];simp only [];rw [if_pos (by rfl)];have hr : ∀ e, e ≤ (p ++ (mid ++ q)).length → eR (p ++ (mid ++ q)) (p ++ (mid ++ q)) (p ++ 42 :: q) (q.length + 1) e (p.length + 1) = if (p ++ (mid ++ q)).drop e = q then some [] else none := fun e he => rC q _ e _ aH h3 hq he
 have hd : (p ++ (mid ++ q)).drop (p.length + mid.length) = q := by rw [← List.drop_drop, hv, List.drop_left]
 refine tX _ _ (p.length + mid.length) aH (by simp; omega) ?_ fun d h5 h6 => ?_
 ·rw [hr _ (by simp), if_pos hd];simp only [Option.map_some, Option.some.injEq, List.cons.injEq, and_true];rw [List.drop_take, hv, Nat.add_sub_cancel_left, List.take_left]
 ·rw [hr _ (by simp; omega), if_neg (fun h => by have := congrArg List.length h; simp at this; omega)]; rfl
theorem aJ4 {p q : aL} {x : UInt8} (hp : ∀ c ∈ p, lowB c = true) (hx : lowB x = true) (hq : ∀ c ∈ q, lowB c = true) : glob (p ++ x :: q) (p ++ 63 :: q) false = some [[x]] := by
 unfold glob dP;simp only [Bool.false_eq_true, if_false];rw [qC (w := p ++ x :: q) (by intro c hc; simp at hc; rcases hc with h | rfl | h; exact .inl (hp c h); exact .inl hx; exact .inl (hq c h)),
  qC (w := p ++ 63 :: q) (by intro c hc; simp at hc; rcases hc with h | rfl | h; exact .inl (hp c h); exact .inr (.inr rfl); exact .inl (hq c h))]
 have hk : (p ++ 63 :: q).drop p.length = 63 :: q := List.drop_left;have hv : (p ++ x :: q).drop p.length = x :: q := List.drop_left;rw [o0 p (63 :: q) (x :: q) _ 0 0 (by simp; omega) rfl rfl hp, Nat.zero_add, show (p ++ 63 :: q).length + 1 - p.length = (q.length + 1) + 1 from by simp; omega];obtain ⟨h1, h2, h3⟩ := eL hk;obtain ⟨h4, h5, h6⟩ := eL hv
 conv => lhs; unfold eR
 rw [h1];simp only [];rw [if_neg (by decide), h4];simp only [];rw [if_pos (by rfl), rC q _ _ _ aH h3 hq aH, if_pos h6];simp only [Option.map_some, Option.some.injEq, List.cons.injEq, and_true];rw [List.drop_take, hv];simp
theorem s6 {nm : Bool} {m : Msg} {code : List Ins} {f st : Nat} {s t : MS} {o : Ins} (ho : code[s.pc]? = some o) (h14 : o.op ≠ 14) (hs : step nm m code.length o s = .ok t) : loop nm m code (f + 1) st s = loop nm m code f (st + 1) { t with pc := t.pc + 1 } := by
 conv => lhs; unfold loop
 rw [ho];simp only [];rw [if_neg h14, hs]
def aJA (w tpl : aL) (p : Int) : List Ins := [⟨6, 0, 3, false, [[115]], [w], 0⟩, ⟨5, 1, 0, false, [], [], 0⟩, ⟨11, 0, 4, false, [tpl], [], p⟩]
def msgG (v : aL) : Msg := ⟨[], [], 0, [([115], v)]⟩
theorem aK2 {v w tpl : aL} {p : Int} {ps : List aL} (hg : glob v w false = some ps) (hw : cP true [] [] w = w) :
  Mach.run true (aJA w tpl p) (msgG v) = ⟨[(4, (cP true [] (v :: ps) tpl).take 48)], 3, none⟩ := by
 have e1 : fJ (cP true [] []) (msgG v) ⟨6, 0, 3, false, [[115]], [w], 0⟩ = [v] := by rfl
 have e2 : f8 ⟨6, 0, 3, false, [[115]], [w], 0⟩ [v] [w] = some (v :: ps) := by
  simp only [f8, mI, fT];rw [if_neg (by decide), if_neg (by decide), hg]; rfl
 have s1 : step true (msgG v) 3 ⟨6, 0, 3, false, [[115]], [w], 0⟩ start = .ok ⟨[], true, [], v :: ps, [true], 0⟩ := by
  show matchI true (msgG v) ⟨6, 0, 3, false, [[115]], [w], 0⟩ start = _
  unfold matchI;rw [if_pos ⟨by show (1 : Int) ≤ 3; decide, by show (3 : Int) ≤ 3; decide, by decide⟩]
  show (match f8 ⟨6, 0, 3, false, [[115]], [w], 0⟩ (fJ (cP true [] []) (msgG v) ⟨6, 0, 3, false, [[115]], [w], 0⟩) [cP true [] [] w] with
   | some ps => push (if (3 : Int) = 3 ∧ true = true then { start with parts := ps } else start) true
   | none => push start false) = _
  rw [hw, e1, e2]; rfl
 have s2 : step true (msgG v) 3 ⟨5, 1, 0, false, [], [], 0⟩ ⟨[], true, [], v :: ps, [true], 1⟩ = .ok ⟨[], true, [], v :: ps, [], 1⟩ := by rfl
 have s3 : step true (msgG v) 3 ⟨11, 0, 4, false, [tpl], [], p⟩ ⟨[], true, [], v :: ps, [], 2⟩ = .ok ⟨[(4, (cP true [] (v :: ps) tpl).take 48)], false, [], v :: ps, [], 2⟩ := by
  show actI true ⟨11, 0, 4, false, [tpl], [], p⟩ ⟨[], true, [], v :: ps, [], 2⟩ = _
  unfold actI;rw [if_pos (.inr ⟨by show (2 : Int) ≤ 4; decide, by show (4 : Int) ≤ 4; decide, by simp⟩)];simp only [];rw [if_neg (by simp), if_neg (by simp), if_neg (by simp), if_neg (by simp), if_neg (by simp)]
  rfl
 unfold Mach.run;rw [if_neg (by show ¬ 400 < 3; decide)]
 show loop true (msgG v) (aJA w tpl p) 4 0 start = _
 rw [s6 (o := ⟨6, 0, 3, false, [[115]], [w], 0⟩) rfl (by show (6 : Int) ≠ 14; decide) s1, s6 (o := ⟨5, 1, 0, false, [], [], 0⟩) rfl (by decide) s2, s6 (o := ⟨11, 0, 4, false, [tpl], [], p⟩) rfl (by show (11 : Int) ≠ 14; decide) s3]
 rfl
def aFJ : aL := [114, 101, 113, 117, 105, 114, 101, 32, 91, 34, 118, 97, 114, 105, 97, 98, 108, 101, 115, 34, 44, 32, 34, 114, 101, 106, 101, 99, 116, 34, 93, 59]
def ifG : aL := [105, 102, 32, 104, 101, 97, 100, 101, 114, 32, 58, 109, 97, 116, 99, 104, 101, 115, 32, 34, 115, 34, 32, 34]
def aCU (tpl : aL) : aL := [34, 32, 123, 32, 114, 101, 106, 101, 99, 116, 32, 34] ++ (tpl ++ [34, 59, 32, 125])
def nT (w tpl : aL) : aL := aFJ ++ (ifG ++ (w ++ aCU tpl))
def tsG : List (aL × Tk) := [([], .nm iF), ([32], .sg 91), ([], .tx dH), ([], .sg 44), ([32], .tx eO), ([], .sg 93), ([], .sg 59)]
def usG (w tpl : aL) : List (aL × Tk) := [([], .nm txIf), ([32], .nm lO), ([32], .tg mE), ([32], .tx [115]), ([32], .tx w), ([32], .sg 123), ([32], .nm eO), ([32], .tx tpl), ([], .sg 59), ([32], .sg 125)]
theorem aEO {w tpl : aL} (hw : ∀ c ∈ w, ¬ (c.toNat = 34 ∨ c.toNat = 92)) (ht : ∀ c ∈ tpl, ¬ (c.toNat = 34 ∨ c.toNat = 92)) : nT w tpl = rend (tsG ++ usG w tpl) [] := by
 have e1 : esc w = w := sZ hw;have e2 : esc tpl = tpl := sZ ht;simp only [tsG, usG, List.cons_append, List.nil_append, rend, Tk.body, e1, e2, nT, aFJ, ifG, aCU, List.append_assoc]
 rfl
def mO : List aL := [dH, eO]
def wV (w tpl : aL) (p : Int) : Tree := .ccons (.iff (.bcons (.mat 3 false 6 [[115]] [w]) (.ccons (.act 4 tpl p) .cnil) .bnil)) .cnil
theorem aNF {w tpl : aL} {t : Tree} (h : d9 t = wV w tpl 0) : ∃ p, t = wV w tpl p := by
 unfold wV at h ⊢;cases t <;> simp only [d9] at h <;> try (cases h; done)
 rename_i c l
 injection h with h1 h2
 cases l <;> simp only [d9] at h2 <;> try (cases h2; done)
 cases c <;> simp only [d9] at h1 <;> try (cases h1; done)
 rename_i bs
 injection h1 with h1
 cases bs <;> simp only [d9] at h1 <;> try (cases h1; done)
 rename_i t b l
 injection h1 with h3 h4 h5
 subst h3;cases l <;> simp only [d9] at h5 <;> try (cases h5; done)
 cases b <;> simp only [d9] at h4 <;> try (cases h4; done)
 rename_i c l
 injection h4 with h6 h7
 cases l <;> simp only [d9] at h7 <;> try (cases h7; done)
 cases c <;> simp only [d9] at h6 <;> try (cases h6; done)
 injection h6 with h8 h9
 subst h8 h9;exact ⟨_, rfl⟩
theorem aM5 {w tpl : aL} (hw : ∀ c ∈ w, ¬ (c.toNat = 34 ∨ c.toNat = 92)) (ht : ∀ c ∈ tpl, ¬ (c.toNat = 34 ∨ c.toNat = 92)) : ∃ p, e8 (nT w tpl) = .ok (mO, wV w tpl p) := by
 have hr : GReq [] (tsG.map fun x => x.2.wd) mO := by
  have := GReq.cons [] mO [wSg 91, wTx dH, wSg 44, wTx eO, wSg 93] [] [dH, eO] (GList.many dH [eO]) (by decide) (GReq.nil _);exact this
 have ht1 : GTest mO 6 [wNm lO, wTg mE, wTx [115], wTx w] (.mat 3 false 6 [[115]] [w]) := by
  have := GTest.mat (needs := mO) 5 lO 6 [] [wTg mE] [wTx [115]] [wTx w] ⟨false, 3, false⟩ [[115]] [w] (by simp) (fun h => absurd rfl h) (GTags.tag _ _ mE 2 [] rfl (by decide) (by decide) (GTags.nil _)) (GList.one _) (fun x _ => by unfold j9; rw [if_neg (by decide)]) (GList.one _);exact this
 have hb1 : qW mO 6 [wNm eO, wTx tpl, wSg 59] (.ccons (.act 4 tpl 0) .cnil) := by
  refine ⟨[([wNm eO, wTx tpl, wSg 59], .act 4 tpl 0)], fun p hp => ?_, rfl, rfl⟩
  obtain rfl := List.mem_singleton.1 hp;exact GCmd.act eO 4 eO tpl (.inr (.inr ⟨rfl, rfl, rfl⟩)) (fun _ => by decide)
 have hb : qW mO 7 ((usG w tpl).map fun x => x.2.wd) (wV w tpl 0) := by
  refine ⟨[((usG w tpl).map fun x => x.2.wd, .iff (.bcons (.mat 3 false 6 [[115]] [w]) (.ccons (.act 4 tpl 0) .cnil) .bnil))], fun p hp => ?_, by simp, rfl⟩
  obtain rfl := List.mem_singleton.1 hp;have := GCmd.iff (needs := mO) (n := 6) (B := qW mO 6) _ _ _ _ [] none ht1 hb1 (fun _ h => by cases h) (fun _ h => by cases h);exact this
 obtain ⟨t', h1, h2⟩ := aD8 (s := nT w tpl) (e := []) (ts := tsG) (us := usG w tpl) (fun _ h => by cases h) (by rfl) (aEO hw ht) hr hb (by
  intro a r h;have e : a = wNm txIf := by simp [usG, Tk.wd] at h; rw [← h.1]; rfl
  rw [e]; decide)
 obtain ⟨p, rfl⟩ := aNF h2;exact ⟨p, h1⟩
theorem aQ0 {v w tpl : aL} {p : Int} {ps : List aL} (hg : glob v w false = some ps) (hw : cP true [] [] w = w) : sayC (mO, wV w tpl p) (msgG v) = ⟨[(4, (cP true [] (v :: ps) tpl).take 48)], 3, none⟩ := by
 have h1 : Cmp.script (wV w tpl p) = aJA w tpl p := by rfl
 have h2 : decide (dH ∈ mO) = true := by rfl
 unfold sayC;rw [h1, h2, aK2 hg hw]
theorem rn_G {v w tpl : aL} {ps : List aL} (hw : ∀ c ∈ w, lowB c = true ∨ c.toNat = 42 ∨ c.toNat = 63) (hl : w.length ≤ 500) (ht : ∀ c ∈ tpl, ¬ (c.toNat = 34 ∨ c.toNat = 92)) (hlt : tpl.length ≤ 20) (hg : glob v w false = some ps) :
  rn (nT w tpl) (msgG v) = ([(4, (cP true [] (v :: ps) tpl).take 48)], 0, true) := by
 have hc : ∀ c ∈ w, 42 ≤ c.toNat ∧ c.toNat ≠ 92 := by
  intro c h;have := hw c h;unfold lowB at this;simp at this;omega
 obtain ⟨p, hp⟩ := aM5 (w := w) (tpl := tpl) (fun c h => by have := hc c h; omega) ht;have hlen : (nT w tpl).length = 32 + (24 + (w.length + (12 + (tpl.length + 4)))) := by
  simp only [nT, aCU, List.length_append]; rfl
 unfold rn;rw [if_neg aH, hp];simp only [];rw [aQ0 hg (zR (fun c h => by have := hc c h; omega) aH)]
 rfl
def qL : aL := [36, 123, 48, 125, 124, 36, 123, 49, 125, 124, 36, 123, 50, 125]
def aEP : aL := [36, 123, 49, 125, 36, 123, 50, 125]
theorem aM9 {p mid q : aL} (hp : ∀ c ∈ p, lowB c = true) (hm : ∀ c ∈ mid, lowB c = true) (hq : ∀ c ∈ q, lowB c = true) (hl : (p ++ (mid ++ q)).length ≤ 16) :
  rn (nT (p ++ 42 :: q) qL) (msgG (p ++ (mid ++ q))) = ([(4, (p ++ (mid ++ q)) ++ (124 :: (mid ++ [124])))], 0, true) := by
 rw [rn_G (ps := [mid]) (by intro c hc; simp at hc; rcases hc with h | rfl | h; exact .inl (hp c h); exact .inr (.inl rfl); exact .inl (hq c h)) (by simp at hl ⊢; omega) (by decide) (by decide) (aGV hp hm hq)];have e : fS [] [p ++ (mid ++ q), mid] 15 qL [] = [] ++ [] ++ (p ++ (mid ++ q)) ++ [124] ++ mid ++ [124] ++ [] := by rfl
 have e2 : cP true [] [p ++ (mid ++ q), mid] qL = (fS [] [p ++ (mid ++ q), mid] 15 qL []).take 1024 := by rfl
 rw [e2, e, List.take_of_length_le (by simp at hl ⊢; omega), List.take_of_length_le (by simp at hl ⊢; omega)];simp
theorem aPR {p q : aL} {x : UInt8} (hp : ∀ c ∈ p, lowB c = true) (hx : lowB x = true) (hq : ∀ c ∈ q, lowB c = true) (hl : (p ++ x :: q).length ≤ 16) :
  rn (nT (p ++ 63 :: q) aEP) (msgG (p ++ x :: q)) = ([(4, [x])], 0, true) := by
 rw [rn_G (ps := [[x]]) (by intro c hc; simp at hc; rcases hc with h | rfl | h; exact .inl (hp c h); exact .inr (.inr rfl); exact .inl (hq c h)) (by simp at hl ⊢; omega) (by decide) (by decide) (aJ4 hp hx hq)]
 rfl
end Go.Mach
end
section
namespace Go.Proofs
open Go Go.SL Go.Syn Go.Mach Go.Cmp
theorem aLX {c : Int} {n : Nat} (h : 0 ≤ c) : c.tmod n = ((c.toNat % n : Nat) : Int) := by
 obtain ⟨k, rfl⟩ := Int.eq_ofNat_of_zero_le h
 rfl
theorem yG (c m : Int) (n : Nat) (K : Hl) (hm : m = n) (h1 : -9223372036854775808 ≤ c) (h2 : c ≤ 9223372036854775807) (hn : 0 < n) : Sp Tryz.prog 15 [i64 c, i64 m] K [] (Ret fun v K' L' => ∃ r : Nat, v = i64 r ∧ r < n ∧ K' = K ∧ L' = []) := by
 subst hm;refine bB Tryz.func15 rfl Tryz.ntmps15 rfl rfl fun F w => ?_
 refine aI (aB ?_);refine aA (aF rfl) rfl ?_;refine aG (aE ?_);refine hO (fun (d : Int) => 0 ≤ d) (fun d => [(0, i64 d), (1, i64 n)]) (fun _ => K) (fun _ => []) ?_ ?_
 ·
  refine aI (aB ?_);refine aA (aC rfl) rfl ?_;refine aA (dA rfl rfl) rfl ?_;refine aG (aE ?_);refine bE 6 rfl (fun h6 => ?_) (fun h6 => ?_)
  ·
   refine aB ?_;refine aA (aC rfl) rfl ?_;refine aA (bZ rfl rfl aH aH) rfl ?_;refine aA (aPA rfl aH aH) rfl ?_;refine aA (aF rfl) rfl ?_;refine aG ?_
   first | exact bX (-(c + 1)) aH (.cons 0 rfl (.cons 1 rfl .nil)) rfl (fun _ h => h) | exact bX c aH (.cons 0 rfl (.cons 1 rfl .nil)) rfl (fun _ h => h)
  ·
   refine a6 ?_
   first | exact bX (-(c + 1)) aH (.cons 0 rfl (.cons 1 rfl .nil)) rfl (fun _ h => h) | exact bX c aH (.cons 0 rfl (.cons 1 rfl .nil)) rfl (fun _ h => h)
 ·
  intro d hd;refine aI (aB ?_);refine aA (aC rfl) rfl ?_;refine aA (aC rfl) rfl ?_;refine aA (aPB rfl rfl aH) rfl ?_;refine aA (aF rfl) rfl ?_;refine aG (aE ?_);refine bM ?_;refine bJ rfl rfl (Hl.le_refl _) ?_;exact ⟨_, rfl, _, by rw [aLX hd], Nat.mod_lt _ hn, rfl, rfl⟩
theorem aJZ {E : Env} {fr : Fr} {K : Hl} {L : List Asn} {o : _} {b c : Bool} (h : Ev E fr K L o (.bool b)) (hb : b = c) : Ev E fr K L o (.bool c) := hb ▸ h
def aOD : aL := [34, 32, 123, 32, 114, 101, 106, 101, 99, 116, 32, 34, 36, 123, 48, 125, 124, 36, 123, 49, 125, 124, 36, 123, 50, 125, 34, 59, 32, 125]
def aOC : aL := [34, 32, 123, 32, 114, 101, 106, 101, 99, 116, 32, 34, 36, 123, 49, 125, 36, 123, 50, 125, 34, 59, 32, 125]
def txS (v : aL) (a d : Nat) : aL := aFJ ++ ifG ++ v.take a ++ [42] ++ v.drop (a + d) ++ aOD
def txO (v : aL) (a : Nat) : aL := aFJ ++ ifG ++ v.take a ++ [63] ++ v.drop (a + 1) ++ aOC
theorem wP {v : aL} {n : Nat} (h : ∀ c ∈ v, lowB c = true) : ∀ c ∈ v.take n, lowB c = true := fun c hc => h c (List.mem_of_mem_take hc)
theorem vC {v : aL} {n : Nat} (h : ∀ c ∈ v, lowB c = true) : ∀ c ∈ v.drop n, lowB c = true := fun c hc => h c (List.mem_of_mem_drop hc)
theorem aPT {v : aL} {a d : Nat} (h : ∀ c ∈ v, lowB c = true) (hl : v.length ≤ 16) (ha : a + d ≤ v.length) : rn (txS v a d) (msgG v) = ([(4, v ++ (124 :: ((v.take (a + d)).drop a ++ [124])))], 0, true) := by
 have e : v.take a ++ ((v.take (a + d)).drop a ++ v.drop (a + d)) = v := by
  have h1 : (v.take (a + d)).take a = v.take a := by rw [List.take_take]; congr 1; omega
  rw [← h1, ← List.append_assoc, List.take_append_drop, List.take_append_drop]
 have e2 : txS v a d = nT (v.take a ++ 42 :: v.drop (a + d)) qL := by
  simp only [txS, nT, aOD, aCU, qL, List.append_assoc, List.cons_append, List.nil_append]
 have := aM9 (p := v.take a) (mid := (v.take (a + d)).drop a) (q := v.drop (a + d)) (wP h) (vC (wP h)) (vC h) (by rw [e]; exact hl);rw [e] at this;rw [e2, this]
theorem aPS {v : aL} {a : Nat} (h : ∀ c ∈ v, lowB c = true) (hl : v.length ≤ 16) (ha : a < v.length) : rn (txO v a) (msgG v) = ([(4, (v.take (a + 1)).drop a)], 0, true) := by
 have e1 : (v.take (a + 1)).drop a = [v[a]] := by rw [List.take_succ_eq_append_getElem ha, List.drop_append_of_le_length (by simp; omega), List.drop_eq_nil_of_le (by simp; omega)]; rfl
 have e : v.take a ++ v[a] :: v.drop (a + 1) = v := by rw [← List.drop_eq_getElem_cons ha, List.take_append_drop]
 have e2 : txO v a = nT (v.take a ++ 63 :: v.drop (a + 1)) aEP := by
  simp only [txO, nT, aOC, aCU, aEP, List.append_assoc, List.cons_append, List.nil_append]
 have := aPR (p := v.take a) (x := v[a]) (q := v.drop (a + 1)) (wP h) (h _ (List.getElem_mem ha)) (vC h) (by rw [e]; exact hl);rw [e] at this;rw [e2, this, e1]
theorem aFN {v : aL} (h : v.length ≤ 16) : MsgOk (msgG v) := ⟨by simp [msgG], by intro x hx; simp [msgG] at hx; subst hx; simp; omega, by simp [msgG], by simp [msgG]⟩
theorem aPM {v : aL} {i : Nat} (h : ∀ (j : Nat) (c : UInt8), j < i → v[j]? = some c → lowB c = true) (hi : v.length ≤ i) : ∀ c ∈ v, lowB c = true := by
 intro c hc;obtain ⟨j, hj⟩ := List.getElem?_of_mem hc;exact h j c (by have := l9 hj; omega) hj
theorem zV (v : aL) (k n : Int) (K : Hl) (hg : Glob K) (hE : ErrT K) (hv : v.length ≤ 140737488355328) (hk1 : -9223372036854775808 ≤ k) (hk2 : k ≤ 9223372036854775807) (hn1 : -9223372036854775808 ≤ n) (hn2 : n ≤ 9223372036854775807) :
  Sp Tryz.prog 3 [str v, i64 k, i64 n] K [] (Ret fun v K' L' => v = .bool true) := by
 refine bB Tryz.func3 rfl Tryz.ntmps3 rfl rfl fun F w => ?_
 refine aI (aB ?_);refine aA (aF rfl) rfl ?_;refine aG (aE ?_);refine aI (aB ?_);refine bD rfl rfl (aHP _ hg hE) .nil rfl ?_;rintro _ K1 _ ⟨rfl, rfl⟩ le1;refine aA (aF rfl) rfl ?_;refine aG (aE ?_);refine aI (aI ?_);refine aB ?_;refine aA (aC rfl) rfl ?_;refine aA (dU rfl) rfl ?_;refine aG (aE ?_);refine cQ rfl ?_;refine a6 ?_;refine aE (aI ?_);refine aI (aB ?_);refine aA (aC rfl) rfl ?_;refine aA (cB rfl Tryz.underlying9 rfl) rfl ?_;refine aA (jG rfl rfl) rfl ?_;refine aG (aE ?_);refine bE 24 rfl (fun h24 => ?_) (fun h24 => ?_)
 ·
  refine aI (aB ?_);refine aA (aF rfl) rfl ?_;refine aG (aE ?_);refine bM ?_;refine bC ?_;refine aO .nil ?_;refine bJ rfl rfl bP ?_;exact ⟨_, rfl, rfl⟩
 ·
  refine a6 ?_;refine aE (aI ?_);refine aI (aB ?_);refine aA (aF rfl) rfl ?_;refine aG (aE ?_);refine bF ?_;refine eK (fun (i : Nat) => i ≤ v.length ∧ ∀ (j : Nat) (c : UInt8), j < i → v[j]? = some c → lowB c = true) (fun i => [(0, str v), (1, i64 k), (2, i64 n), (8, i64 i)]) (fun _ => K1) (fun _ => []) (fun i => v.length - i) 0 ⟨Nat.zero_le _, fun j c h => by omega⟩ (.cons 0 rfl (.cons 1 rfl (.cons 2 rfl (.cons 8 rfl .nil)))) rfl (fun _ h => h) ?_;intro i ⟨hi0, hi1⟩;refine aI (aI ?_);refine aB ?_;refine aA (aC rfl) rfl ?_;refine aA (aC rfl) rfl ?_;refine aA (cB rfl Tryz.underlying9 rfl) rfl ?_;refine aA (dA rfl rfl) rfl ?_;refine aG (aE ?_);refine bE 28 rfl (fun h28 => ?_) (fun h28 => ?_)
  ·
   have hilt : i < v.length := by omega
   obtain ⟨c, hc⟩ : ∃ c, v[i]? = some c := ⟨v[i]'hilt, List.getElem?_eq_getElem hilt⟩;refine a6 ?_;refine aE (aI ?_);refine bF (aI ?_);refine aB ?_;refine aA (aC rfl) rfl ?_;refine aA (aC rfl) rfl ?_;refine aA (dB Tryz.underlying9 rfl rfl rfl hc) rfl ?_;refine aA (dA rfl rfl) rfl ?_;refine aA (aC rfl) rfl ?_;refine cA 35 rfl (fun g35 => ?_) (fun g35 => ?_)
   ·
    refine aQ rfl rfl rfl ?_;refine aQ rfl rfl rfl ?_;refine aQ rfl rfl rfl ?_;refine aQ rfl rfl rfl ?_;refine aA (bH rfl rfl) rfl ?_;refine aG (aE ?_);refine eS rfl ?_;refine aI (aB ?_);refine aA (aF rfl) rfl ?_;refine aG (aE ?_);refine bM ?_;refine bQ ?_;refine bC ?_;refine bC ?_;refine bQ ?_;refine bC ?_;refine aO .nil ?_;refine bJ rfl rfl bP ?_;exact ⟨_, rfl, rfl⟩
   ·
    refine aT rfl rfl ?_;refine aA (aC rfl) rfl ?_;refine aT rfl rfl ?_;refine aA (aC rfl) rfl ?_;refine aT rfl rfl ?_;refine aA (dB Tryz.underlying9 rfl rfl rfl hc) rfl ?_;refine aT rfl rfl ?_;refine aA (jG rfl rfl) rfl ?_;refine aA (a8 rfl rfl) rfl ?_;refine aG (aE ?_);refine bE 40 rfl (fun h40 => ?_) (fun h40 => ?_)
    ·
     refine aI (aB ?_);refine aA (aF rfl) rfl ?_;refine aG (aE ?_);refine bM ?_;refine bQ ?_;refine bC ?_;refine bC ?_;refine bQ ?_;refine bC ?_;refine aO .nil ?_;refine bJ rfl rfl bP ?_;exact ⟨_, rfl, rfl⟩
    ·
     refine a6 ?_;refine aN (aE ?_);refine aB ?_;refine aA (aC rfl) rfl ?_;refine aA (bZ rfl rfl aH aH) rfl ?_;refine aA (aF rfl) rfl ?_;refine aG ?_;exact cL (i + 1) ⟨by omega, fun j y hj hy => by rcases Nat.lt_or_ge j i with h5 | h5; exact hi1 j y h5 hy; (obtain rfl : j = i := by omega); rw [hc] at hy; cases hy; unfold lowB; exact decide_eq_true aH⟩ aH (.cons 0 rfl (.cons 1 rfl (.cons 2 rfl (.cons 8 rfl .nil)))) rfl (fun _ h => h)
  ·
   have hie : v.length ≤ i := by omega
   have hlow := aPM hi1 hie;refine cY ?_;refine aV ?_;refine aV ?_;refine bL ?_;refine aE (aI ?_);refine aB ?_;refine aA (aC rfl) rfl ?_;refine aA (aC rfl) rfl ?_;refine aA (cB rfl Tryz.underlying9 rfl) rfl ?_;refine aA (bZ rfl rfl aH aH) rfl ?_;refine bD rfl rfl (yG k _ (v.length + 1) _ aH hk1 hk2 aH) .nil rfl ?_;rintro _ K1 _ ⟨a, rfl, ha, rfl, rfl⟩ -;refine aA (aF rfl) rfl ?_;refine aG (aE ?_);refine aI (aB ?_);refine aA (aC rfl) rfl ?_;refine aA (aC rfl) rfl ?_;refine aA (aC rfl) rfl ?_;refine aA (cB rfl Tryz.underlying9 rfl) rfl ?_;refine aA (aC rfl) rfl ?_;refine aA (nH rfl rfl aH aH) rfl ?_;refine aA (bZ rfl rfl aH aH) rfl ?_;refine bD rfl rfl (yG n _ (v.length - a + 1) _ aH hn1 hn2 aH) .nil rfl ?_;rintro _ K1 _ ⟨d, rfl, hd, rfl, rfl⟩ -;refine aA (bZ rfl rfl aH aH) rfl ?_;refine aA (aF rfl) rfl ?_;refine aG (aE ?_);refine aI (aB ?_);refine aA (aC rfl) rfl ?_;refine aA (cK tb25 aLJ (.cons rfl rfl rfl (.cons .nil) (.cons rfl rfl rfl (.skip (.cons .nil)) .nil))) rfl ?_;refine ol_s (bO (z0 := [(str []), (str [])]) qK tz25 rfl rfl rfl rfl (.cons rfl rfl rfl (.cons (.cons .nil)) .nil)) rfl ?_;rintro _ K _ ⟨b57, rfl, rfl, rfl⟩ -;refine e7 fun K2 le2 hb57 => ?_
   have hh : Ksl hdEl K2 (.slice (some ⟨b57, 0, none⟩) 1 1) (msgG v).hs := .inr ⟨b57, 0, 1, _, _, rfl, ⟨_, hb57⟩, rfl⟩;have le12 := Hl.le_trans le1 le2;have hl16 : v.length ≤ 16 := by omega
   refine aA (cK tb28 aOH (.cons rfl rfl rfl (.skip (.skip (.skip (.cons .nil)))) .nil)) rfl ?_;refine ol_s (cO tz28) rfl ?_;rintro _ K _ ⟨b11, rfl, rfl, rfl⟩ -;refine bR (cH iV rfl rfl rfl a7 (by first | (simp [Value.oneCell']; done) | exact fun c hc => El.one _ _ c hc) (.cons (.cons (.cons (.cons .nil)))) (by intro j hj; simp)) ?_;rintro _ K _ ⟨rfl, rfl⟩ -;refine aG (aE ?_);refine aI (aB ?_);refine aA (aF rfl) rfl ?_;refine aG (aE ?_);refine aI ?_;refine t_draw (anc := [0, 1, 0, 0, 12, 31, 63, 0, 0, 384, 1023, 2047, 0, 8191, 16383, 32767, 32767, 32767, 65535, 393215, 1048575]) (ord := [0, 1, 2, 3, 4, 5, 6, 7, 8, 9, 10, 11, 12, 13, 14, 15, 16, 17, 18, 19, 20]) [13] [13] mixed (by decide +kernel) (.cons .here .nil) ?_;refine dl_ev rfl rfl (.none rfl) rfl rfl (aC rfl) rfl ?_;refine dl_ev rfl rfl (.none rfl) rfl rfl (lQ rfl rfl (by decide)) rfl ?_;refine dl_ev rfl rfl (.none rfl) rfl rfl (aC rfl) rfl ?_;refine dl_ev rfl rfl (.none rfl) rfl rfl (aC rfl) rfl ?_;refine dl_ev rfl rfl (.none rfl) rfl rfl (dX Tryz.underlying9 rfl rfl rfl aH) rfl ?_;refine dl_ev rfl rfl (.none rfl) rfl rfl (lQ rfl rfl (by first | (simp; omega) | omega)) rfl ?_;refine dl_ev rfl rfl (.none rfl) rfl rfl (lQ rfl rfl (by first | (simp; omega) | omega)) rfl ?_;refine dl_ev rfl rfl (.none rfl) rfl rfl (aC rfl) rfl ?_;refine dl_ev rfl rfl (.none rfl) rfl rfl (aC rfl) rfl ?_;refine dl_ev rfl rfl (.none rfl) rfl rfl (fW (m := a + d) Tryz.underlying9 rfl rfl aH aH) rfl ?_;refine dl_ev rfl rfl (.none rfl) rfl rfl (lQ rfl rfl (by first | (simp; omega) | omega)) rfl ?_;refine dl_ev rfl rfl (.none rfl) rfl rfl (lQ rfl rfl (by first | (simp; omega) | omega)) rfl ?_;refine dl_ev rfl rfl (.none rfl) rfl rfl (bW iV rfl aM rfl rfl) rfl ?_;refine j4 rfl (.none rfl) rfl rfl rfl (pY (txS v a d) (msgG v) _ _ (hg.mono le12) (hE.mono le12) hh (aFN hl16)) .nil rfl ?_;rintro _ K3 _ ⟨av, rfl, rfl⟩ le3;rw [aPT hlow hl16 aH];obtain ⟨w0, hw0⟩ : ∃ w, w = v ++ (124 :: ((v.take (a + d)).drop a ++ [124])) := ⟨_, rfl⟩;rw [← hw0];have hw1 : v.length ≤ w0.length := by rw [hw0]; simp
   have hw2 : w0.take v.length = v := by rw [hw0]; exact List.take_left
   have hx0 : (([((4 : Int), w0)], (0 : Int), true) : List gC × Int × Bool).1[0]? = some (4, w0) := rfl;have hxl : 0 < (([((4 : Int), w0)], (0 : Int), true) : List gC × Int × Bool).1.length := Nat.zero_lt_one;have hh3 := hh.mono le3;have le13 := Hl.le_trans le12 le3;refine dl_ev rfl rfl (.none rfl) rfl rfl (aC rfl) rfl ?_;refine dl_ev rfl rfl (.none rfl) rfl rfl (aR rfl rfl) rfl ?_;refine dl_ev rfl rfl (.none rfl) rfl rfl (aR rfl rfl) rfl ?_;refine dl_ev rfl rfl (.none rfl) rfl rfl (aR rfl rfl) rfl ?_;refine dl_ev rfl rfl (.none rfl) rfl rfl (aF rfl) rfl ?_;refine dl_ev rfl rfl (.none rfl) rfl rfl (aF rfl) rfl ?_;refine dl_ev rfl rfl (.none rfl) rfl rfl (aF rfl) rfl ?_;refine dl_nil ?_;refine aE (aI ?_);refine aI (aB ?_);refine aA (aC rfl) rfl ?_;refine aA (dU rfl) rfl ?_;refine aA (aC rfl) rfl ?_;refine aT rfl rfl ?_;refine aA (aC rfl) rfl ?_;refine aT rfl rfl ?_;refine aA (fO rfl rfl) rfl ?_;refine aA (a8 rfl rfl) rfl ?_;refine aA (aC rfl) rfl ?_;refine aT rfl rfl ?_;refine aA (aC rfl) rfl ?_;refine aT rfl rfl ?_;refine aA (cE (k := dG) rfl Tryz.underlying29 rfl (.own .here)) rfl ?_;refine aT rfl rfl ?_;refine aA (fO rfl rfl) rfl ?_;refine aA (a8 rfl rfl) rfl ?_;refine aA (aC rfl) rfl ?_;refine aT rfl rfl ?_;refine aA (aC rfl) rfl ?_;refine aT rfl rfl ?_;refine aA (b0 (k := dG) fZ rfl aM rfl rfl (by first | assumption | omega)) rfl ?_;refine aT rfl rfl ?_;refine aA (lR (k := dG) eV rfl aM (by first | assumption | omega)) rfl ?_;refine aT rfl rfl ?_;refine aA (q6 (k := dG) ts3 rfl aM bP rfl) rfl ?_;refine aT rfl rfl ?_;refine aA (fO rfl rfl) rfl ?_;refine aA (a8 rfl rfl) rfl ?_;refine aA (aC rfl) rfl ?_;refine aT rfl rfl ?_;refine aA (aC rfl) rfl ?_;refine aT rfl rfl ?_;refine aA (b0 (k := dG) fZ rfl aM rfl rfl (by first | assumption | omega)) rfl ?_;refine aT rfl rfl ?_;refine aA (lR (k := dG) dC rfl aM (by first | assumption | omega)) rfl ?_;refine aT rfl rfl ?_;refine aA (q6 (k := dG) ts9 rfl aM bP rfl) rfl ?_;refine aT rfl rfl ?_;refine aA (cB rfl Tryz.underlying9 rfl) rfl ?_;refine aT rfl rfl ?_;refine aA (aC rfl) rfl ?_;refine aT rfl rfl ?_;refine aA (cB rfl Tryz.underlying9 rfl) rfl ?_;refine aT rfl rfl ?_;refine aA (aJZ (c := false) (dA rfl rfl) (decide_eq_false (by show ¬ ((w0.length : Int) < (v.length : Int)); omega))) rfl ?_;refine aA (a8 rfl rfl) rfl ?_;refine aA (aC rfl) rfl ?_;refine aT rfl rfl ?_;refine aA (aC rfl) rfl ?_;refine aT rfl rfl ?_;refine aA (b0 (k := dG) fZ rfl aM rfl rfl (by first | assumption | omega)) rfl ?_;refine aT rfl rfl ?_;refine aA (lR (k := dG) dC rfl aM (by first | assumption | omega)) rfl ?_;refine aT rfl rfl ?_;refine aA (q6 (k := dG) ts9 rfl aM bP rfl) rfl ?_;refine aT rfl rfl ?_;refine aA (aC rfl) rfl ?_;refine aT rfl rfl ?_;refine aA (cB rfl Tryz.underlying9 rfl) rfl ?_;refine aT rfl rfl ?_;refine aA (dX Tryz.underlying9 rfl rfl rfl (by exact hw1)) rfl ?_;refine aT rfl rfl ?_;refine aA (aC rfl) rfl ?_;refine aT rfl rfl ?_;refine aA (aJZ (c := false) (oX rfl rfl) (decide_eq_false (by rw [hw2]; simp))) rfl ?_;refine aA (a8 rfl rfl) rfl ?_;refine aG (aE ?_);refine cQ rfl ?_;refine a6 ?_;refine aE (aI ?_);refine aI (aB ?_);refine aA (aC rfl) rfl ?_;refine aA (aC rfl) rfl ?_;refine aA (cB rfl Tryz.underlying9 rfl) rfl ?_;refine aA (bT rfl rfl) rfl ?_;refine aG (aE ?_);refine bE 119 rfl (fun h119 => ?_) (fun h119 => ?_)
   ·
    refine aI (aB ?_);refine aA (aF rfl) rfl ?_;refine aG (aE ?_);refine bM ?_;refine bC ?_;refine aO .nil ?_;refine bJ rfl rfl bP ?_;exact ⟨_, rfl, rfl⟩
   ·
    have halt : a < v.length := by omega
    refine a6 ?_;refine aE (aI ?_);refine t_draw (anc := [0, 1, 0, 0, 12, 31, 63, 0, 0, 256, 896, 2047, 4095, 0, 16383, 32767, 65535, 65535, 65535, 131071, 786431, 2097151]) (ord := [0, 1, 2, 3, 4, 5, 6, 7, 8, 9, 10, 11, 12, 13, 14, 15, 16, 17, 18, 19, 20, 21]) [14] [14] mixed (by decide +kernel) (.cons (.there .here) .nil) ?_;refine dl_ev rfl rfl (.none rfl) rfl rfl (aC rfl) rfl ?_;refine dl_ev rfl rfl (.none rfl) rfl rfl (lQ rfl rfl (by decide)) rfl ?_;refine dl_ev rfl rfl (.none rfl) rfl rfl (aC rfl) rfl ?_;refine dl_ev rfl rfl (.none rfl) rfl rfl (aC rfl) rfl ?_;refine dl_ev rfl rfl (.none rfl) rfl rfl (dX Tryz.underlying9 rfl rfl rfl aH) rfl ?_;refine dl_ev rfl rfl (.none rfl) rfl rfl (lQ rfl rfl (by first | (simp; omega) | omega)) rfl ?_;refine dl_ev rfl rfl (.none rfl) rfl rfl (lQ rfl rfl (by first | (simp; omega) | omega)) rfl ?_;refine dl_ev rfl rfl (.none rfl) rfl rfl (aC rfl) rfl ?_;refine dl_ev rfl rfl (.none rfl) rfl rfl (aC rfl) rfl ?_;refine dl_ev rfl rfl (.none rfl) rfl rfl (bZ rfl rfl aH aH) rfl ?_;refine dl_ev rfl rfl (.none rfl) rfl rfl (fW (m := a + 1) Tryz.underlying9 rfl rfl aH aH) rfl ?_;refine dl_ev rfl rfl (.none rfl) rfl rfl (lQ rfl rfl (by first | (simp; omega) | omega)) rfl ?_;refine dl_ev rfl rfl (.none rfl) rfl rfl (lQ rfl rfl (by first | (simp; omega) | omega)) rfl ?_;refine dl_ev rfl rfl (.none rfl) rfl rfl (bW iV rfl aM rfl rfl) rfl ?_;refine j4 rfl (.none rfl) rfl rfl rfl (pY (txO v a) (msgG v) _ _ (hg.mono le13) (hE.mono le13) hh3 (aFN hl16)) .nil rfl ?_;rintro _ K4 _ ⟨bv, rfl, rfl⟩ le4;rw [aPS hlow hl16 halt];obtain ⟨w1, hw3⟩ : ∃ w, w = (v.take (a + 1)).drop a := ⟨_, rfl⟩;rw [← hw3];have hy0 : (([((4 : Int), w1)], (0 : Int), true) : List gC × Int × Bool).1[0]? = some (4, w1) := rfl;have hyl : 0 < (([((4 : Int), w1)], (0 : Int), true) : List gC × Int × Bool).1.length := Nat.zero_lt_one;have le14 := Hl.le_trans le13 le4;refine dl_ev rfl rfl (.none rfl) rfl rfl (aC rfl) rfl ?_;refine dl_ev rfl rfl (.none rfl) rfl rfl (aR rfl rfl) rfl ?_;refine dl_ev rfl rfl (.none rfl) rfl rfl (aR rfl rfl) rfl ?_;refine dl_ev rfl rfl (.none rfl) rfl rfl (aR rfl rfl) rfl ?_;refine dl_ev rfl rfl (.none rfl) rfl rfl (aF rfl) rfl ?_;refine dl_ev rfl rfl (.none rfl) rfl rfl (aF rfl) rfl ?_;refine dl_ev rfl rfl (.none rfl) rfl rfl (aF rfl) rfl ?_;refine dl_nil ?_;refine aE (aI ?_);refine t_draw (anc := [0, 1, 3, 7, 15, 31, 63, 127, 255, 511, 1023, 2047, 4095, 8191, 2047, 2047, 2047, 67583, 247807, 509951, 1048575, 2097151, 4194303]) (ord := [0, 1, 2, 3, 4, 5, 6, 7, 8, 9, 10, 11, 12, 13, 14, 15, 16, 17, 18, 19, 20, 21, 22]) [] [] mixed (by decide +kernel) (cS _) ?_;refine dl_ev rfl rfl (.none rfl) rfl rfl (aC rfl) rfl ?_;refine dl_ev rfl rfl (.none rfl) rfl rfl (aC rfl) rfl ?_;refine dl_ev rfl rfl (.on rfl rfl rfl) rfl rfl (aC rfl) rfl ?_;refine dl_ev rfl rfl (.on rfl rfl rfl) rfl rfl (bT rfl rfl) rfl ?_;refine dl_ev rfl rfl (.none rfl) rfl rfl (bH rfl rfl) rfl ?_;refine dl_ev rfl rfl (.none rfl) rfl rfl (aC rfl) rfl ?_;refine dl_ev rfl rfl (.on rfl rfl rfl) rfl rfl (aC rfl) rfl ?_;refine dl_ev rfl rfl (.on rfl rfl rfl) rfl rfl (cE (k := dG) rfl Tryz.underlying29 rfl (.own .here)) rfl ?_;refine dl_ev rfl rfl (.on rfl rfl rfl) rfl rfl (bT rfl rfl) rfl ?_;refine dl_ev rfl rfl (.none rfl) rfl rfl (bH rfl rfl) rfl ?_;refine dl_ev rfl rfl (.none rfl) rfl rfl (aC rfl) rfl ?_;refine dl_ev rfl rfl (.on rfl rfl rfl) rfl rfl (aC rfl) rfl ?_;refine dl_ev rfl rfl (.on rfl rfl rfl) rfl rfl (b0 (k := dG) (j := 0) fZ rfl (.own .here) rfl rfl hyl) rfl ?_;refine dl_ev rfl rfl (.on rfl rfl rfl) rfl rfl (fR (n := 0) (k := dG) jS rfl (.own .here) hy0) rfl ?_;refine dl_ev rfl rfl (.on rfl rfl rfl) rfl rfl (aC rfl) rfl ?_;refine dl_ev rfl rfl (.on rfl rfl rfl) rfl rfl (aC rfl) rfl ?_;refine dl_ev rfl rfl (.on rfl rfl rfl) rfl rfl (aC rfl) rfl ?_;refine dl_ev rfl rfl (.on rfl rfl rfl) rfl rfl (bZ rfl rfl aH aH) rfl ?_;refine dl_ev rfl rfl (.on rfl rfl rfl) rfl rfl (i8 (m := a) (n := a + 1) Tryz.underlying9 rfl rfl rfl rfl aH aH aH) rfl ?_
    refine dl_ev rfl rfl (.on rfl rfl rfl) rfl rfl (cK tb34 wQ (.cons rfl rfl rfl (.cons .nil) (.cons rfl rfl rfl (.skip (.cons .nil)) .nil))) rfl ?_;refine dl_ev rfl rfl (.on rfl rfl rfl) rfl rfl (aJZ (c := true) (s0 (a := (4, w1)) (c := (4, (v.take (a + 1)).drop a)) rfl rfl) (by rw [hw3]; simp)) rfl ?_;refine dl_ev rfl rfl (.none rfl) rfl rfl (bH rfl rfl) rfl ?_;refine dl_ev rfl rfl (.none rfl) rfl rfl (aF rfl) rfl ?_;refine dl_nil ?_;refine aE ?_;refine bM ?_;refine aO .nil ?_;refine bJ rfl rfl bP ?_;exact ⟨_, rfl, rfl⟩
end Go.Proofs
end

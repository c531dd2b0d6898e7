/-
  What the proof stands on, part 1: the logic of walks, the walks through the functions, the plain laws. Conditions: as each theorem says. (Merged and shortened by a program.)
-/
import Derived.WalkKit
import Derived.Defers
import Derived.Orders
import Derived.Lib.ConvBytes
import Derived.Laws.BytesString
import Derived.Lib.Builder
import Derived.Lib.UnsafeStr
import Derived.Laws.Externs
import Derived.MapKept
import Derived.ChangeReads
import Derived.ProofKit
import Derived.SizedLaws
import Derived.Recover
import Derived.Test.YthopmddkpdehiaaGreatDoorProg
import Derived.KernelRfl
import Derived.Lib.Index
import Derived.Below
import Derived.Shelf.Strings.Builder1
import Derived.Shelf.Strings.Builder2
import Derived.Shelf.Small.Utf8
import Derived.Shelf.Small.Bits
import Derived.Shelf.Small.Strs
import Derived.Shelf.Utf8.RuneCount
import Derived.Shelf.Strconv.Itoa0
import Derived.Shelf.Strconv.Itoa1
import Derived.Shelf.LaysM
import Derived.Shelf.Strconv.Itoa2
import Derived.Shelf.Strconv.Itoa3
import Derived.Shelf.Strings.Search1
import Derived.Shelf.Strings.Search2
import Derived.Shelf.Strings.Search3
import Derived.Shelf.Strings.Cut
import Derived.Shelf.Strings.Count
import Derived.Shelf.Strings.Shaped
import Derived.Shelf.Strings.Split
import Derived.Shelf.Strings.Runes
import Derived.Shelf.Strings.RuneCount
import Derived.Shelf.Strings.IndexAny
import Derived.Shelf.Strings.AsciiSet
import Derived.Shelf.Strings.IndexAnyAll
import Derived.Shelf.Bits.Mul64
import Derived.Ground.Names2Prog
import Derived.Shelf.Slices.Clone
import Derived.Ground.SlgnProg
import Derived.Shelf.SlicesE.Clone
import Derived.Lib.ItoaNum
set_option linter.unusedVariables false
set_option linter.unusedSimpArgs false
namespace Go
theorem dF {p : Prop} (h : p := by assumption) : p := h
theorem bI {p : Prop} (h : p := by first | exact .here | exact .there .here | exact .there (.there .here) | exact .there (.there (.there .here)) | exact .there (.there (.there (.there .here))) | exact .there (.there (.there (.there (.there .here)))) | exact .there (.there (.there (.there (.there (.there .here))))) | exact .there (.there (.there (.there (.there (.there (.there .here)))))) | exact .there (.there (.there (.there (.there (.there (.there (.there .here)))))))) : p := h
theorem aF3 {p : Prop} (h : p := by exact fun _ h => h) : p := h
theorem aY {p : Prop} (h : p := by kernel_rfl) : p := h
theorem b0 {p : Prop} (h : p := by first | exact sA rfl | exact oC rfl | exact oB rfl) : p := h
theorem aI {p : Prop} (h : p := by omega) : p := h
theorem dM {p : Prop} (h : p := by first | rfl | assumption) : p := h
theorem aN {p : Prop} (h : p := by first | exact .own .here | exact .own (.there .here) | exact .own (.there (.there .here)) | exact .own (.there (.there (.there .here))) | exact .own (.there (.there (.there (.there .here)))) | exact .own (.there (.there (.there (.there (.there .here))))) | exact .own (.there (.there (.there (.there (.there (.there .here)))))) | exact .own (.there (.there (.there (.there (.there (.there (.there .here))))))) | exact .own (.there (.there (.there (.there (.there (.there (.there (.there .here)))))))) | exact .known (by assumption)) : p := h
end Go
section
namespace Go.SL
abbrev Hl := Nat → Option Obj
def Hl.emp : Hl := fun _ => none
def Hl.one (b : Nat) (o : Obj) : Hl := fun x => if x = b then some o else none
def Hl.join (h k : Hl) : Hl := fun x => (h x).or (k x)
def Hl.dj (h k : Hl) : Prop := ∀ x, h x = none ∨ k x = none
def Hl.le (h k : Hl) : Prop := ∀ x o, h x = some o → k x = some o
theorem Hl.le_refl (h : Hl) : h.le h := fun _ _ e => e
theorem Hl.le_trans {a b c : Hl} (h : a.le b) (k : b.le c) : a.le c := fun x o e => k x o (h x o e)
theorem Hl.dj.symm {a b : Hl} (h : a.dj b) : b.dj a := fun x => (h x).symm
theorem Hl.dj_join {a b c : Hl} : a.dj (b.join c) ↔ a.dj b ∧ a.dj c := by
 constructor
 ·intro h;refine ⟨fun x => ?_, fun x => ?_⟩ <;> rcases h x with h | h <;> first | exact .inl h | (simp [Hl.join] at h; simp [h])
 ·rintro ⟨h1, h2⟩ x;rcases h1 x with h | h
  ·exact .inl h
  ·rcases h2 x with k | k
   ·exact .inl k
   ·exact .inr (by simp [Hl.join, h, k])
theorem Hl.join_dj {a b c : Hl} : (b.join c).dj a ↔ b.dj a ∧ c.dj a :=
 ⟨fun h => let ⟨x, y⟩ := Hl.dj_join.1 h.symm; ⟨x.symm, y.symm⟩, fun ⟨x, y⟩ => (Hl.dj_join.2 ⟨x.symm, y.symm⟩).symm⟩
theorem Hl.dj_emp (a : Hl) : a.dj .emp := fun _ => .inr rfl
theorem Hl.le_join_left {a b c : Hl} : (a.join b).le c → a.le c := fun h x o e => h x o (by simp [Hl.join, e])
theorem Hl.le_join_right {a b c : Hl} (hd : a.dj b) : (a.join b).le c → b.le c := fun h x o e => h x o (by
 rcases hd x with k | k
 ·simp [Hl.join, k, e]
 ·rw [k] at e; cases e)
theorem Hl.join_le {a b c : Hl} (h : a.le c) (k : b.le c) : (a.join b).le c := by
 intro x o e;unfold Hl.join at e;cases ha : a x with
 | some y => rw [ha] at e; simp at e; subst e; exact h x _ ha
 | none => rw [ha] at e; simp at e; exact k x o e
theorem Hl.join_assoc (a b c : Hl) : (a.join b).join c = a.join (b.join c) := by
 funext x; simp [Hl.join, Option.or_assoc]
theorem Hl.join_emp (a : Hl) : a.join .emp = a := by funext x; simp [Hl.join, Hl.emp]
theorem Hl.emp_join (a : Hl) : Hl.emp.join a = a := by funext x; simp [Hl.join, Hl.emp]
theorem Hl.join_comm {a b : Hl} (h : a.dj b) : a.join b = b.join a := by
 funext x
 rcases h x with k | k
 ·simp [Hl.join, k]
 ·cases ha : a x <;> simp [Hl.join, k, ha]
abbrev Asn := Hl → Prop
def pt (b : Nat) (o : Obj) : Asn := fun h => h = Hl.one b o
def Sat : List Asn → Hl → Prop
 | [], h => h = .emp
 | A :: L, h => ∃ h1 h2, A h1 ∧ Sat L h2 ∧ h1.dj h2 ∧ h = h1.join h2
theorem eF {L M : List Asn} {h : Hl} : Sat (L ++ M) h ↔ ∃ h1 h2, Sat L h1 ∧ Sat M h2 ∧ h1.dj h2 ∧ h = h1.join h2 := by
 induction L generalizing h with
 | nil =>
  constructor
  ·intro k; exact ⟨.emp, h, rfl, k, (Hl.dj_emp h).symm, (Hl.emp_join h).symm⟩
  ·rintro ⟨h1, h2, rfl, k, _, rfl⟩; simpa [Hl.emp_join] using k
 | cons A L ih =>
  constructor
  ·rintro ⟨a, r, ha, hr, hd, rfl⟩;obtain ⟨x, y, hx, hy, hd2, rfl⟩ := ih.1 hr;have := Hl.dj_join.1 hd;exact ⟨a.join x, y, ⟨a, x, ha, hx, this.1, rfl⟩, hy, Hl.join_dj.2 ⟨this.2, hd2⟩, (Hl.join_assoc _ _ _).symm⟩
  ·rintro ⟨_, y, ⟨a, x, ha, hx, hax, rfl⟩, hy, hd, rfl⟩;have := Hl.join_dj.1 hd;exact ⟨a, x.join y, ha, ih.2 ⟨x, y, hx, hy, this.2, rfl⟩, Hl.dj_join.2 ⟨hax, this.1⟩, Hl.join_assoc _ _ _⟩
theorem eQ {A B : Asn} {L : List Asn} {h : Hl} : Sat (A :: B :: L) h → Sat (B :: A :: L) h := by
 rintro ⟨a, _, ha, ⟨b, l, hb, hl, hbl, rfl⟩, hd, rfl⟩;have := Hl.dj_join.1 hd;refine ⟨b, a.join l, hb, ⟨a, l, ha, hl, this.2, rfl⟩, Hl.dj_join.2 ⟨this.1.symm, hbl⟩, ?_⟩
 rw [← Hl.join_assoc, Hl.join_comm this.1, Hl.join_assoc]
theorem eJ {A : Asn} {L M : List Asn} (k : ∀ h, Sat L h → Sat M h) {h : Hl} : Sat (A :: L) h → Sat (A :: M) h :=
 fun ⟨a, l, ha, hl, hd, e⟩ => ⟨a, l, ha, k _ hl, hd, e⟩
inductive Fnd (A A' : Asn) : List Asn → List Asn → Prop where
 | here {L} : Fnd A A' (A :: L) (A' :: L)
 | there {B L L'} : Fnd A A' L L' → Fnd A A' (B :: L) (B :: L')
theorem Fnd.split {A A' : Asn} {L L' : List Asn} (f : Fnd A A' L L') : ∃ M, (∀ h, Sat L h → Sat (A :: M) h) ∧ (∀ h, Sat (A' :: M) h → Sat L' h) := by
 induction f with
 | here => exact ⟨_, fun _ h => h, fun _ h => h⟩
 | @there B L L' f ih =>
  obtain ⟨M, h1, h2⟩ := ih;exact ⟨B :: M, fun h k => eQ (eJ h1 k), fun h k => eJ h2 (eQ k)⟩
inductive Hs (A : Asn) : List Asn → Prop where
 | here {L} : Hs A (A :: L)
 | there {B L} : Hs A L → Hs A (B :: L)
theorem Hs.fnd {A : Asn} {L : List Asn} (f : Hs A L) (A' : Asn) : ∃ L', Fnd A A' L L' := by
 induction f with
 | here => exact ⟨_, .here⟩
 | there _ ih => obtain ⟨L', h⟩ := ih; exact ⟨_, .there h⟩
theorem Hs.split {A : Asn} {L : List Asn} (f : Hs A L) : ∃ M, ∀ h, Sat L h → Sat (A :: M) h :=
 let ⟨_, g⟩ := f.fnd A; let ⟨M, h1, _⟩ := g.split; ⟨M, h1⟩
inductive Tk (A : Asn) : List Asn → List Asn → Prop where
 | here {L} : Tk A (A :: L) L
 | there {B L M} : Tk A L M → Tk A (B :: L) (B :: M)
theorem Tk.sat {A : Asn} {L M : List Asn} (f : Tk A L M) : ∀ h, Sat L h → Sat (A :: M) h := by
 induction f with
 | here => exact fun _ h => h
 | there f ih => exact fun h k => eQ (eJ ih k)
inductive Tks : List Asn → List Asn → List Asn → Prop where
 | nil {L} : Tks [] L L
 | cons {A As L M N} : Tk A L M → Tks As M N → Tks (A :: As) L N
theorem Tks.sat {As L N : List Asn} (f : Tks As L N) : ∀ h, Sat L h → Sat (As ++ N) h := by
 induction f with
 | nil => exact fun _ h => h
 | cons t _ ih => exact fun h k => eJ ih (t.sat h k)
def hp (w : World) : Hl := fun b => w.heap[b]?
structure In (w0 : World) (F K : Hl) (L : List Asn) (w : World) : Prop where
 os : w.os = w0.os
 tape : w.tape = w0.tape
 output : w.output = w0.output
 size : w0.heap.size ≤ w.heap.size
 rep : ∃ h, Sat L h ∧ F.dj K ∧ F.dj h ∧ K.dj h ∧ F.le (hp w) ∧ K.le (hp w) ∧ h.le (hp w)
theorem In.imp {w0 w : World} {F K : Hl} {L M : List Asn} (k : ∀ h, Sat L h → Sat M h) (i : In w0 F K L w) : In w0 F K M w :=
 let ⟨h, hs, r⟩ := i.rep
 ⟨i.os, i.tape, i.output, i.size, h, k h hs, r⟩
theorem In.drop {w0 w : World} {F K : Hl} {A : Asn} {L : List Asn} (i : In w0 F K (A :: L) w) : In w0 F K L w := by
 obtain ⟨h, ⟨a, l, ha, hl, hal, rfl⟩, d1, d2, d3, l1, l2, l3⟩ := i.rep;exact ⟨i.os, i.tape, i.output, i.size, l, hl, d1, (Hl.dj_join.1 d2).2, (Hl.dj_join.1 d3).2, l1, l2, Hl.le_join_right hal l3⟩
theorem In.known {w0 w : World} {F K : Hl} {L : List Asn} (i : In w0 F K L w) {b : Nat} {o : Obj} (h : K b = some o) : w.heap[b]? = some o := by
 obtain ⟨_, _, _, _, _, _, l2, _⟩ := i.rep; exact l2 b o h
theorem In.piece {w0 w : World} {F K : Hl} {b : Nat} {o : Obj} {L : List Asn} (i : In w0 F K (pt b o :: L) w) : w.heap[b]? = some o := by
 obtain ⟨h, ⟨a, l, ha, hl, hal, rfl⟩, d1, d2, d3, l1, l2, l3⟩ := i.rep;exact l3 b o (by simp only [pt] at ha; subst ha; simp [Hl.join, Hl.one])
theorem In.mem {w0 w : World} {F K : Hl} {b : Nat} {o : Obj} {A' : Asn} {L L' : List Asn} (f : Fnd (pt b o) A' L L') (i : In w0 F K L w) : w.heap[b]? = some o :=
 let ⟨_, h1, _⟩ := f.split; (i.imp h1).piece
theorem In.dk {w0 w : World} {F K : Hl} {L : List Asn} (i : In w0 F K L w) : F.dj K := let ⟨_, _, d, _⟩ := i.rep; d
theorem In.settle {w0 w : World} {F K : Hl} {b : Nat} {o : Obj} {L : List Asn} (i : In w0 F K (pt b o :: L) w) :
  K.le (K.join (Hl.one b o)) ∧ (K.join (Hl.one b o)) b = some o ∧ In w0 F (K.join (Hl.one b o)) L w := by
 obtain ⟨h, ⟨a, l, ha, hl, hal, rfl⟩, d1, d2, d3, l1, l2, l3⟩ := i.rep;simp only [pt] at ha; subst ha
 have hd2 := Hl.dj_join.1 d2;have hd3 := Hl.dj_join.1 d3;have hKb : K b = none := by rcases hd3.1 b with h | h; exact h; simp [Hl.one] at h
 refine ⟨fun x o e => by simp [Hl.join, e], by simp [Hl.join, hKb, Hl.one], ⟨i.os, i.tape, i.output, i.size, l, hl, Hl.dj_join.2 ⟨d1, hd2.1⟩, hd2.2, Hl.join_dj.2 ⟨hd3.2, hal⟩, l1, ?_, Hl.le_join_right hal l3⟩⟩
 exact Hl.join_le l2 (Hl.le_join_left l3)
theorem In.drew {w0 w : World} {F K : Hl} {L : List Asn} (i : In w0 F K L w) (n : Nat) : In w0 F K L { w with drawn := n } :=
 ⟨i.os, i.tape, i.output, i.size, i.rep⟩
theorem In.alloc {w0 w : World} {F K : Hl} {L : List Asn} (i : In w0 F K L w) (o : Obj) :
  In w0 F K (pt w.heap.size o :: L) { w with heap := w.heap.push o } := by
 obtain ⟨h, hl, d1, d2, d3, l1, l2, l3⟩ := i.rep;have fresh : ∀ {k : Hl}, k.le (hp w) → k w.heap.size = none := by
  intro k hk;cases e : k w.heap.size with
  | none => rfl
  | some o' => have := hk _ _ e; simp [hp] at this
 have up : ∀ {k : Hl}, k.le (hp w) → k.le (hp { w with heap := w.heap.push o }) := by
  intro k hk x o' e;have := hk x o' e;simp only [hp] at this ⊢;have hx : x < w.heap.size := by
   rcases Nat.lt_or_ge x w.heap.size with h | h
   ·exact h
   ·simp [Array.getElem?_eq_none h] at this
  rw [Array.getElem?_push, if_neg aI];exact this
 have djo : ∀ {k : Hl}, k.le (hp w) → k.dj (Hl.one w.heap.size o) := by
  intro k hk x
  by_cases hx : x = w.heap.size
  ·subst hx; exact .inl (fresh hk)
  ·exact .inr (by simp [Hl.one, hx])
 refine ⟨i.os, i.tape, i.output, by simpa using Nat.le_succ_of_le i.size, (Hl.one w.heap.size o).join h, ⟨_, h, rfl, hl, (djo l3).symm, rfl⟩, d1, Hl.dj_join.2 ⟨djo l1, d2⟩, Hl.dj_join.2 ⟨djo l2, d3⟩, up l1, up l2, Hl.join_le ?_ (up l3)⟩
 intro x o' e
 by_cases hx : x = w.heap.size
 ·subst hx; simp [Hl.one] at e; subst e; simp [hp]
 ·simp [Hl.one, hx] at e
theorem In.write {w0 w : World} {F K : Hl} {L : List Asn} {b : Nat} {o o' : Obj} (i : In w0 F K (pt b o :: L) w) {H : Array Obj}
  (hs : H.size = w.heap.size) (hb : H[b]? = some o') (ho : ∀ x, x ≠ b → H[x]? = w.heap[x]?) :
  In w0 F K (pt b o' :: L) { w with heap := H } := by
 obtain ⟨h, ⟨a, l, ha, hl, hal, rfl⟩, d1, d2, d3, l1, l2, l3⟩ := i.rep;simp only [pt] at ha; subst ha
 have hd2 := Hl.dj_join.1 d2;have hd3 := Hl.dj_join.1 d3;have no : ∀ {k : Hl}, k.dj (Hl.one b o) → k b = none := by
  intro k hk; rcases hk b with h | h; exact h; simp [Hl.one] at h
 have up : ∀ {k : Hl}, k.le (hp w) → k b = none → k.le (hp { w with heap := H }) := by
  intro k hk hn x o'' e;have hx : x ≠ b := by rintro rfl; rw [hn] at e; cases e
  simp only [hp, ho x hx];exact hk x o'' e
 have djo : ∀ {k : Hl}, k b = none → k.dj (Hl.one b o') := by
  intro k hk x
  by_cases hx : x = b
  ·subst hx; exact .inl hk
  ·exact .inr (by simp [Hl.one, hx])
 have nl : l b = none := no hal.symm;refine ⟨i.os, i.tape, i.output, by simpa [hs] using i.size, (Hl.one b o').join l, ⟨_, l, rfl, hl, (djo nl).symm, rfl⟩, d1, Hl.dj_join.2 ⟨djo (no hd2.1), hd2.2⟩, Hl.dj_join.2 ⟨djo (no hd3.1), hd3.2⟩, up l1 (no hd2.1), up l2 (no hd3.1), Hl.join_le ?_ (up (Hl.le_join_right hal l3) nl)⟩
 intro x o'' e
 by_cases hx : x = b
 ·subst hx; simp [Hl.one] at e; subst e; simpa [hp] using hb
 ·simp [Hl.one, hx] at e
theorem In.writeAt {w0 w : World} {F K : Hl} {L L' : List Asn} {b : Nat} {o o' : Obj} (f : Fnd (pt b o) (pt b o') L L') (i : In w0 F K L w) {H : Array Obj}
  (hs : H.size = w.heap.size) (hb : H[b]? = some o') (ho : ∀ x, x ≠ b → H[x]? = w.heap[x]?) :
  In w0 F K L' { w with heap := H } :=
 let ⟨_, h1, h2⟩ := f.split; ((i.imp h1).write hs hb ho).imp h2
theorem In.hide {w0 w : World} {F K : Hl} {L N : List Asn} (i : In w0 F K (L ++ N) w) :
  ∃ F', In w F' K L w ∧ ∀ {K' : Hl} {L' : List Asn} {w' : World}, In w F' K' L' w' → In w0 F K' (L' ++ N) w' := by
 obtain ⟨h, hs, d1, d2, d3, l1, l2, l3⟩ := i.rep;obtain ⟨a, n, ha, hn, han, rfl⟩ := eF.1 hs;have hd2 := Hl.dj_join.1 d2;have hd3 := Hl.dj_join.1 d3;refine ⟨F.join n, ⟨rfl, rfl, rfl, Nat.le_refl _, a, ha, Hl.join_dj.2 ⟨d1, hd3.2.symm⟩, Hl.join_dj.2 ⟨hd2.1, han.symm⟩, hd3.1, Hl.join_le l1 (Hl.le_join_right han l3), l2, Hl.le_join_left l3⟩, ?_⟩
 intro K' L' w' j;obtain ⟨h', hs', e1, e2, e3, m1, m2, m3⟩ := j.rep;have x1 := Hl.join_dj.1 e1;have x2 := Hl.join_dj.1 e2;refine ⟨j.os.trans i.os, j.tape.trans i.tape, j.output.trans i.output, Nat.le_trans i.size j.size, h'.join n, eF.2 ⟨h', n, hs', hn, x2.2.symm, rfl⟩, x1.1, Hl.dj_join.2 ⟨x2.1, hd2.2⟩, Hl.dj_join.2 ⟨e3, x1.2.symm⟩, Hl.le_join_left m1, m2, Hl.join_le m3 (Hl.le_join_right hd2.2 m1)⟩
end Go.SL
end
section
namespace Go.SL
abbrev Fr := List (Nat × Value)
def Fr.get : Fr → Nat → Option Value
 | [], _ => none
 | (k, v) :: r, j => bif Nat.beq k j then some v else Fr.get r j
def Fr.ev (fr : Fr) : Operand → Option Value
 | .tmp t => fr.get t
 | .const v => some v
 | .global g => some (.pointer (some ⟨g, 0, none⟩))
 | .func f => some (.func (.func f) #[] #[])
def Fr.evs (fr : Fr) : List Operand → Option (List Value)
 | [] => some []
 | x :: xs => match fr.ev x, fr.evs xs with | some v, some vs => some (v :: vs) | _, _ => none
structure FrOk (n : Nat) (ds : List Deferred) (fr : Fr) (a : Act) : Prop where
 defers : a.defers = ds
 size : a.tmps.size = n
 get : ∀ k v, fr.get k = some v → a.tmps[k]? = some v
theorem FrOk.ev {n : Nat} {ds : List Deferred} {fr : Fr} {a : Act} (h : FrOk n ds fr a) {x : Operand} {v : Value} (e : fr.ev x = some v) : a.eval x = v := by
 cases x <;> simp only [Fr.ev] at e
 case tmp t => simp [Act.eval, h.get _ _ e]
 all_goals (cases e; rfl)
theorem FrOk.evs {n : Nat} {ds : List Deferred} {fr : Fr} {a : Act} (h : FrOk n ds fr a) : ∀ {xs : List Operand} {vs : List Value}, fr.evs xs = some vs → xs.map a.eval = vs
 | [], vs, e => by simp only [Fr.evs] at e; cases e; rfl
 | x :: xs, vs, e => by
  simp only [Fr.evs] at e;cases hx : fr.ev x <;> cases hs : fr.evs xs <;> simp [hx, hs] at e
  subst e;simp [h.ev hx, h.evs hs]
theorem beqF {a b : Nat} (h : ¬ a = b) : Nat.beq a b = false := by
 cases e : Nat.beq a b with
 | false => rfl
 | true => exact absurd (Nat.eq_of_beq_eq_true e) h
theorem beqN {a b : Nat} (h : Nat.beq a b = false) : ¬ a = b := fun e => by subst e; rw [Nat.beq_refl] at h; cases h
theorem FrOk.put {n : Nat} {ds : List Deferred} {fr : Fr} {a : Act} (h : FrOk n ds fr a) {d : Nat} (hd : Nat.blt d n = true) (v : Value) : FrOk n ds ((d, v) :: fr) (a.put (some d) v) := by
 have hd' : d < n := by simp [Nat.blt] at hd; omega
 refine ⟨h.defers, by simp [Act.put, h.size], fun k u e => ?_⟩
 simp only [Fr.get] at e;simp only [Act.put, Array.getElem?_setIfInBounds, h.size]
 by_cases hk : d = k
 ·subst hk; simp at e; subst e; simp [hd']
 ·rw [if_neg hk];have : Nat.beq d k = false := beqF hk;rw [this] at e;exact h.get _ _ e
inductive Kp (fr : Fr) : Fr → Prop where
 | nil : Kp fr []
 | cons (k : Nat) {v : Value} {fr' : Fr} : fr.get k = some v → Kp fr fr' → Kp fr ((k, v) :: fr')
theorem Kp.get {fr fr' : Fr} (h : Kp fr fr') : ∀ k v, fr'.get k = some v → fr.get k = some v := by
 induction h with
 | nil => intro k v e; cases e
 | @cons k v fr' e _ ih =>
  intro j u hj;simp only [Fr.get] at hj
  by_cases hk : k = j
  ·subst hk; simp at hj; subst hj; exact e
  ·have : Nat.beq k j = false := beqF hk;rw [this] at hj;exact ih _ _ hj
theorem FrOk.keep {n : Nat} {ds : List Deferred} {fr fr' : Fr} {a : Act} (h : FrOk n ds fr a) (k : Kp fr fr') : FrOk n ds fr' a :=
 ⟨h.defers, h.size, fun j v e => h.get j v (k.get j v e)⟩
structure Env where
 P : Program
 n : Nat
 ds : List Deferred
 w0 : World
 F : Hl
abbrev Post := Exit → Act → World → Prop
def T (E : Env) (c : Code) (fr : Fr) (K : Hl) (L : List Asn) (Q : Post) : Prop :=
 ∀ a w, FrOk E.n E.ds fr a → In E.w0 E.F K L w → c.wp E.P Q a w
def OL (E : Env) (ops : Array Oper) (l : List Oper) (fr : Fr) (K : Hl) (L : List Asn) (Q : Post) : Prop :=
 ∀ a w, FrOk E.n E.ds fr a → In E.w0 E.F K L w → wpList E.P ops Q l a w
def D (E : Env) (x : Exit) (fr : Fr) (K : Hl) (L : List Asn) (Q : Post) : Prop :=
 ∀ a w, FrOk E.n E.ds fr a → In E.w0 E.F K L w → Q x a w
def Ev (E : Env) (fr : Fr) (K : Hl) (L : List Asn) (o : Oper) (v : Value) : Prop :=
 ∀ a w, FrOk E.n E.ds fr a → In E.w0 E.F K L w → (execOp a.eval o).run E.P w = .ok (.value v) w
def Ef (E : Env) (fr : Fr) (K : Hl) (L : List Asn) (o : Oper) (Q : Post) (N : Value → Hl → List Asn → Prop) : Prop :=
 ∀ a w (k : Act → World → Prop), FrOk E.n E.ds fr a → In E.w0 E.F K L w →
  (∀ v K' L' w', N v K' L' → K.le K' → In E.w0 E.F K' L' w' → k (a.put o.dst v) w') → o.wp E.P a w k Q ∨ (o.asks E.P a w ∧ LetsOut Q)
def EfS (E : Env) (fr : Fr) (K : Hl) (L : List Asn) (o : Oper) (N : Value → Hl → List Asn → Prop) : Prop :=
 ∀ a w, FrOk E.n E.ds fr a → In E.w0 E.F K L w → ∃ u w' K' L', ((execOp a.eval o).run E.P w = .ok (.value u) w' ∨ ((execOp a.eval o).run E.P w = .ok .skip w' ∧ u = undef)) ∧ N u K' L' ∧ K.le K' ∧ In E.w0 E.F K' L' w'
theorem vJ {E : Env} {fr : Fr} {K : Hl} {L : List Asn} {o : Oper} {Q : Post} {N : Value → Hl → List Asn → Prop} (h : EfS E fr K L o N) : Ef E fr K L o Q N := by
 intro a w k f i hk;obtain ⟨u, w', K', L', hr, hn, le, j⟩ := h a w f i;refine .inl ?_;unfold Oper.wp;rcases hr with hr | ⟨hr, rfl⟩ <;> rw [hr]
 ·exact hk _ _ _ _ hn le j
 ·exact hk _ _ _ _ hn le j
def Sp (P : Program) (f : FuncId) (args : List Value) (K : Hl) (L : List Asn) (R : Ending → Hl → List Asn → Prop) : Prop :=
 (∃ fn, P.funcs[f]? = some fn ∧ (fn.name == "runtime.NumGoroutine") = false ∧ fn.body.isSome = true) ∧
 ∀ F w, In w F K L w → Calls P f args.toArray w fun e w' => ∃ K' L', R e K' L' ∧ K.le K' ∧ In w F K' L' w'
def Ret (N : Value → Hl → List Asn → Prop) : Ending → Hl → List Asn → Prop := fun e K L => ∃ v, e = .returned v ∧ N v K L
theorem Sp.mono {P : Program} {f : FuncId} {args : List Value} {K : Hl} {L : List Asn} {R R' : Ending → Hl → List Asn → Prop} (h : Sp P f args K L R)
  (k : ∀ e K' L', R e K' L' → R' e K' L') : Sp P f args K L R' :=
 ⟨h.1, fun F w i => (h.2 F w i).mono fun _ _ ⟨K', L', r, le, j⟩ => ⟨K', L', k _ _ _ r, le, j⟩⟩
section
variable {E : Env} {fr : Fr} {K : Hl} {L : List Asn} {Q : Post} {c x y : Code} {ops : Array Oper} {rest : List Oper}
theorem fQ {L' : List Asn} (k : ∀ h, Sat L h → Sat L' h) (h : T E c fr K L' Q) : T E c fr K L Q := fun a w f i => h a w f (i.imp k)
theorem aG (h : T E x fr K L (Exit.then (fun a w => y.wp E.P Q a w) Q)) : T E (.seq x y) fr K L Q := fun a w f i => wp_seq (h a w f i)
theorem aX (h : D E .normal fr K L Q) : T E .skip fr K L Q := fun a w f i => wp_skip (h a w f i)
theorem cK {id : Nat} (h : D E (.exit id) fr K L Q) : T E (.exit id) fr K L Q := fun a w f i => wp_exit (h a w f i)
theorem a8 (h : D E .ret fr K L Q) : T E .ret fr K L Q := fun a w f i => wp_ret (h a w f i)
theorem a7 {id : Nat} (h : T E c fr K L (Exit.inBlock id Q)) : T E (.block id c) fr K L Q := fun a w f i => wp_block (h a w f i)
theorem FrOk.known {n : Nat} {ds : List Deferred} {a : Act} (f : FrOk n ds fr a) {d : Nat} {b c : Bool} (e : fr.get d = some (.bool b)) (hc : b = c) : FrOk n ds ((d, .bool c) :: fr) a :=
 ⟨f.defers, f.size, fun k v h => by
  simp only [Fr.get] at h
  by_cases hk : d = k
  ·subst hk; simp at h; subst h; rw [← hc]; exact f.get _ _ e
  ·rw [beqF hk] at h; exact f.get _ _ h⟩
theorem gP (d : Nat) {b : Bool} (e : fr.get d = some (.bool b)) (ht : b = true → T E x ((d, .bool true) :: fr) K L Q) (hf : b = false → T E y ((d, .bool false) :: fr) K L Q) : T E (.cond (.tmp d) x y) fr K L Q := by
 intro a w f i;have ev : fr.ev (.tmp d) = some (.bool b) := e;cases b
 ·exact wp_cond_false (f.ev ev) (hf rfl a w (f.known e rfl) i)
 ·exact wp_cond_true (f.ev ev) (ht rfl a w (f.known e rfl) i)
theorem bJ (d : Nat) {p : Prop} [Decidable p] (e : fr.get d = some (.bool (decide p))) (ht : p → T E x ((d, .bool true) :: fr) K L Q) (hf : ¬ p → T E y ((d, .bool false) :: fr) K L Q) : T E (.cond (.tmp d) x y) fr K L Q :=
 gP d e (fun h => ht (of_decide_eq_true h)) (fun h => hf (of_decide_eq_false h))
theorem dH {o : Operand} (e : fr.ev o = some (.bool true)) (h : T E x fr K L Q) : T E (.cond o x y) fr K L Q := fun a w f i => wp_cond_true (f.ev e) (h a w f i)
theorem bL {o : Operand} (e : fr.ev o = some (.bool false)) (h : T E y fr K L Q) : T E (.cond o x y) fr K L Q := fun a w f i => wp_cond_false (f.ev e) (h a w f i)
theorem aE (h : T E y fr K L Q) : D E .normal fr K L (Exit.then (fun a w => y.wp E.P Q a w) Q) := h
theorem aP {id : Nat} {next : Act → World → Prop} (h : D E (.exit id) fr K L Q) : D E (.exit id) fr K L (Exit.then next Q) := h
theorem aR {next : Act → World → Prop} (h : D E .ret fr K L Q) : D E .ret fr K L (Exit.then next Q) := h
theorem aU {id : Nat} (h : D E .normal fr K L Q) : D E .normal fr K L (Exit.inBlock id Q) := h
theorem bC {id : Nat} (h : D E .ret fr K L Q) : D E .ret fr K L (Exit.inBlock id Q) := h
theorem bB {id : Nat} (h : D E .normal fr K L Q) : D E (.exit id) fr K L (Exit.inBlock id Q) := fun a w f i => by
 show (if id = id then Q .normal a w else _); rw [if_pos rfl]; exact h a w f i
theorem rZ {id id' : Nat} (hne : Nat.beq id' id = false) (h : D E (.exit id') fr K L Q) : D E (.exit id') fr K L (Exit.inBlock id Q) := fun a w f i => by
 show (if id' = id then _ else Q (.exit id') a w); rw [if_neg (beqN hne)]; exact h a w f i
def Mid (E : Env) {ι : Type} (I : ι → Prop) (fr : ι → Fr) (K : ι → Hl) (L : ι → List Asn) : Act → World → Prop := fun a w => ∃ i, I i ∧ FrOk E.n E.ds (fr i) a ∧ In E.w0 E.F (K i) (L i) w
theorem mU {ι : Type} (I : ι → Prop) (fr' : ι → Fr) (K' : ι → Hl) (L' : ι → List Asn) (h1 : T E x fr K L (Exit.then (Mid E I fr' K' L') Q)) (h2 : ∀ i, I i → T E y (fr' i) (K' i) (L' i) Q) :
  T E (.seq x y) fr K L Q := by
 intro a w f i;refine wp_seq (Code.wp_mono (fun e a w q => ?_) (h1 a w f i))
 cases e <;> first | exact q | (obtain ⟨j, hj, fj, ij⟩ := q; exact h2 j hj _ _ fj ij)
theorem cG {ι : Type} {I : ι → Prop} {fr' : ι → Fr} {K' : ι → Hl} {L' : ι → List Asn} (i : ι) (hi : I i) (k : Kp fr (fr' i)) (hK : K' i = K) (hL : ∀ h, Sat L h → Sat (L' i) h) :
  D E .normal fr K L (Exit.then (Mid E I fr' K' L') Q) := fun a w f j => ⟨i, hi, f.keep k, by rw [hK]; exact j.imp hL⟩
theorem eW {ι : Type} (I : ι → Prop) (fr' : ι → Fr) (K' : ι → Hl) (L' : ι → List Asn) (μ : ι → Nat) (i0 : ι) (h0 : I i0) (k : Kp fr (fr' i0)) (hK : K' i0 = K) (hL : ∀ h, Sat L h → Sat (L' i0) h)
  (round : ∀ i, I i → T E c (fr' i) (K' i) (L' i) (Exit.then (fun a w => ∃ j, I j ∧ μ j < μ i ∧ FrOk E.n E.ds (fr' j) a ∧ In E.w0 E.F (K' j) (L' j) w) Q)) : T E (.loop c) fr K L Q := by
 intro a w f i b kk cs;have key : ∀ n j, μ j = n → I j → ∀ a w, FrOk E.n E.ds (fr' j) a → In E.w0 E.F (K' j) (L' j) w →
   ∃ e a' w', Q e a' w' ∧ Arrives E.P (lone (b.at a (.code c :: .inLoop c :: kk)) cs w) b kk cs e a' w' := by
  intro n;induction n using Nat.strongRecOn with
  | _ n ih =>
   intro j hj hIj a w f i;obtain ⟨e, a₁, w₁, hq, harr⟩ := round j hIj a w f i b (.inLoop c :: kk) cs;cases e with
   | normal =>
    obtain ⟨j', hI', hlt, f', i'⟩ := hq;obtain ⟨e₂, a₂, w₂, hq₂, harr₂⟩ := ih _ (hj ▸ hlt) j' rfl hI' _ _ f' i';exact ⟨e₂, a₂, w₂, hq₂, .of_steps (Steps.trans harr (.one step_inLoop)) harr₂⟩
   | exit id => exact ⟨_, a₁, w₁, hq, .pass (x := .inLoop c) rfl (fun _ _ => .inl (by simp)) harr⟩
   | goto l => exact ⟨_, a₁, w₁, hq, .pass (x := .inLoop c) rfl (fun _ _ => .inl (by simp)) harr⟩
   | ret => exact ⟨_, a₁, w₁, hq, .pass (x := .inLoop c) rfl (fun _ _ => .inl (by simp)) harr⟩
   | panic ch => exact ⟨_, a₁, w₁, hq, .pass (x := .inLoop c) rfl (fun _ _ => .inl (by simp)) harr⟩
   | outgrown => exact ⟨_, a₁, w₁, hq, .pass (x := .inLoop c) rfl (fun _ _ => .inl (by simp)) harr⟩
 obtain ⟨e, a', w', hq, harr⟩ := key _ i0 rfl h0 a w (f.keep k) (by rw [hK]; exact i.imp hL);exact ⟨e, a', w', hq, .of_steps (.one step_loop) harr⟩
theorem dW {ι : Type} {I : ι → Prop} {fr' : ι → Fr} {K' : ι → Hl} {L' : ι → List Asn} {μ : ι → Nat} {m : Nat} (j : ι) (hj : I j) (hlt : μ j < m) (k : Kp fr (fr' j)) (hK : K' j = K) (hL : ∀ h, Sat L h → Sat (L' j) h) :
  D E .normal fr K L (Exit.then (fun a w => ∃ j, I j ∧ μ j < m ∧ FrOk E.n E.ds (fr' j) a ∧ In E.w0 E.F (K' j) (L' j) w) Q) :=
 fun a w f i => ⟨j, hj, hlt, f.keep k, by rw [hK]; exact i.imp hL⟩
theorem aC {id : Nat} {l : List Oper} (h : OL E l.toArray l fr K L Q) : T E (.region id l.toArray false) fr K L Q := fun a w f i => wp_region_lit (h a w f i)
theorem aF (h : D E .normal fr K L Q) : OL E ops [] fr K L Q := fun a w f i => wpList_nil (h a w f i)
theorem mN {l : List Oper} {L' : List Asn} (k : ∀ h, Sat L h → Sat L' h) (h : OL E ops l fr K L' Q) : OL E ops l fr K L Q := fun a w f i => h a w f (i.imp k)
theorem aA {d : Nat} {op : Op} {ty : TypeId} {pos : String} {aft : Array Edge} {v : Value} (hv : Ev E fr K L ⟨some d, op, ty, pos, aft, none⟩ v) (hd : Nat.blt d E.n = true)
  (h : OL E ops rest ((d, v) :: fr) K L Q) : OL E ops (⟨some d, op, ty, pos, aft, none⟩ :: rest) fr K L Q := by
 intro a w f i;refine wpList_plain rfl fun k hk => ?_
 unfold Oper.wp;rw [hv a w f i];exact hk _ _ (h _ _ (f.put hd v) i)
theorem sS {d : Nat} {op : Op} {ty : TypeId} {pos : String} {aft : Array Edge} {N : Value → Hl → List Asn → Prop} (hv : Ef E fr K L ⟨some d, op, ty, pos, aft, none⟩ Q N) (hd : Nat.blt d E.n = true)
  (h : ∀ v K' L', N v K' L' → K.le K' → OL E ops rest ((d, v) :: fr) K' L' Q) : OL E ops (⟨some d, op, ty, pos, aft, none⟩ :: rest) fr K L Q := by
 intro a w f i;unfold wpList;rw [if_pos (show Region.wanted _ _ = true from rfl)];exact hv a w _ f i fun v K' L' w' n le j => h v K' L' n le _ _ (f.put hd v) j
theorem aEN {op : Op} {ty : TypeId} {pos : String} {aft : Array Edge} {N : Value → Hl → List Asn → Prop} (hv : Ef E fr K L ⟨none, op, ty, pos, aft, none⟩ Q N)
  (h : ∀ v K' L', N v K' L' → K.le K' → OL E ops rest fr K' L' Q) : OL E ops (⟨none, op, ty, pos, aft, none⟩ :: rest) fr K L Q := by
 intro a w f i;unfold wpList;rw [if_pos (show Region.wanted _ _ = true from rfl)];exact hv a w _ f i fun v K' L' w' n le j => h v K' L' n le _ _ f j
theorem ol_s {d : Nat} {op : Op} {ty : TypeId} {pos : String} {aft : Array Edge} {N : Value → Hl → List Asn → Prop} (hv : EfS E fr K L ⟨some d, op, ty, pos, aft, none⟩ N) (hd : Nat.blt d E.n = true)
  (h : ∀ v K' L', N v K' L' → K.le K' → OL E ops rest ((d, v) :: fr) K' L' Q) : OL E ops (⟨some d, op, ty, pos, aft, none⟩ :: rest) fr K L Q := sS (vJ hv) hd h
theorem cQ {op : Op} {ty : TypeId} {pos : String} {aft : Array Edge} {N : Value → Hl → List Asn → Prop} (hv : EfS E fr K L ⟨none, op, ty, pos, aft, none⟩ N)
  (h : ∀ v K' L', N v K' L' → K.le K' → OL E ops rest fr K' L' Q) : OL E ops (⟨none, op, ty, pos, aft, none⟩ :: rest) fr K L Q := aEN (vJ hv) h
theorem gQ {b : Nat} {o : Obj} (h : ∀ K', K.le K' → K' b = some o → T E c fr K' L Q) : T E c fr K (pt b o :: L) Q := fun a w f i => let ⟨h1, h2, h3⟩ := i.settle; h _ h1 h2 a w f h3
theorem kK {l : List Oper} {b : Nat} {o : Obj} (h : ∀ K', K.le K' → K' b = some o → OL E ops l fr K' L Q) : OL E ops l fr K (pt b o :: L) Q := fun a w f i => let ⟨h1, h2, h3⟩ := i.settle; h _ h1 h2 a w f h3
def exA {ι : Type} (Ls : ι → List Asn) : Asn := fun h => ∃ i, Sat (Ls i) h
theorem lZ {ι : Type} {Ls : ι → List Asn} {M : List Asn} {h : Hl} : Sat (exA Ls :: M) h ↔ ∃ i, Sat (Ls i ++ M) h := by
 constructor
 ·rintro ⟨a, m, ⟨i, hi⟩, hm, hd, rfl⟩; exact ⟨i, eF.2 ⟨a, m, hi, hm, hd, rfl⟩⟩
 ·rintro ⟨i, hi⟩; obtain ⟨a, m, ha, hm, hd, rfl⟩ := eF.1 hi; exact ⟨a, m, ⟨i, ha⟩, hm, hd, rfl⟩
theorem In.ex {ι : Type} {Ls : ι → List Asn} {M : List Asn} {w0 w : World} {F : Hl} (j : In w0 F K (exA Ls :: M) w) : ∃ i, In w0 F K (Ls i ++ M) w :=
 let ⟨h, hs, r⟩ := j.rep; let ⟨i, hi⟩ := lZ.1 hs; ⟨i, j.os, j.tape, j.output, j.size, h, hi, r⟩
theorem t_ex {ι : Type} {Ls : ι → List Asn} (h : ∀ i, T E c fr K (Ls i ++ L) Q) : T E c fr K (exA Ls :: L) Q := fun a w f j => let ⟨i, ji⟩ := j.ex; h i a w f ji
theorem aCW {P : Program} {f : FuncId} {args : List Value} {L : List Asn} {R R' : Ending → Hl → List Asn → Prop} (h : Sp P f args K L R)
  (k : ∀ e K' L', R e K' L' → ∃ L'', (∀ h, Sat L' h → Sat L'' h) ∧ R' e K' L'') : Sp P f args K L R' :=
 ⟨h.1, fun F w j => (h.2 F w j).mono fun _ _ ⟨K', L', r, le, j'⟩ => let ⟨L'', s, r'⟩ := k _ _ _ r; ⟨K', L'', r', le, j'.imp s⟩⟩
theorem iH {l : List Oper} (d : Nat) {b : Bool} (e : fr.get d = some (.bool b)) (ht : b = true → OL E ops l ((d, .bool true) :: fr) K L Q) (hf : b = false → OL E ops l ((d, .bool false) :: fr) K L Q) : OL E ops l fr K L Q := by
 intro a w f i;have key : ∀ c, b = c → FrOk E.n E.ds ((d, .bool c) :: fr) a := fun c hc => ⟨f.defers, f.size, fun k v h => by
  simp only [Fr.get] at h
  by_cases hk : d = k
  ·subst hk; simp at h; subst h; rw [← hc]; exact f.get _ _ e
  ·rw [beqF hk] at h; exact f.get _ _ h⟩
 cases b
 ·exact hf rfl a w (key _ rfl) i
 ·exact ht rfl a w (key _ rfl) i
theorem bS {l : List Oper} (d : Nat) {p : Prop} [Decidable p] (e : fr.get d = some (.bool (decide p))) (ht : p → OL E ops l ((d, .bool true) :: fr) K L Q) (hf : ¬ p → OL E ops l ((d, .bool false) :: fr) K L Q) : OL E ops l fr K L Q :=
 iH d e (fun h => ht (of_decide_eq_true h)) (fun h => hf (of_decide_eq_false h))
theorem aT {dst : Option Tmp} {op : Op} {ty : TypeId} {pos : String} {aft : Array Edge} {g dg : Nat} {b : Bool} (hg : (ops[g]?).bind (·.dst) = some dg) (hb : fr.get dg = some (.bool b))
  (h : OL E ops (⟨dst, op, ty, pos, aft, none⟩ :: rest) fr K L Q) : OL E ops (⟨dst, op, ty, pos, aft, some (g, b)⟩ :: rest) fr K L Q := by
 intro a w f i;have := h a w f i;have hw : Region.wanted ⟨dst, op, ty, pos, aft, some (g, b)⟩ (yielded ops a.tmps) = true := by
  simp [Region.wanted, yielded, hg, f.get _ _ hb]
 unfold wpList at this ⊢;rw [if_pos hw];rw [if_pos (by rfl)] at this;exact this
theorem aO {d : Nat} {op : Op} {ty : TypeId} {pos : String} {aft : Array Edge} {g dg : Nat} {b : Bool} (hg : (ops[g]?).bind (·.dst) = some dg) (hb : fr.get dg = some (.bool (!b))) (hd : Nat.blt d E.n = true)
  (h : OL E ops rest ((d, undef) :: fr) K L Q) : OL E ops (⟨some d, op, ty, pos, aft, some (g, b)⟩ :: rest) fr K L Q := by
 intro a w f i;have hw : Region.wanted ⟨some d, op, ty, pos, aft, some (g, b)⟩ (yielded ops a.tmps) = false := by
  simp [Region.wanted, yielded, hg, f.get _ _ hb]
 exact wpList_skip hw (h _ _ (f.put hd undef) i)
theorem eL {d : Nat} {op : Op} {ty : TypeId} {pos : String} {aft : Array Edge} {g dg : Nat} {b : Bool} (hg : (ops[g]?).bind (·.dst) = some dg) (hb : fr.get dg = some undef) (hd : Nat.blt d E.n = true)
  (h : OL E ops rest ((d, undef) :: fr) K L Q) : OL E ops (⟨some d, op, ty, pos, aft, some (g, b)⟩ :: rest) fr K L Q := by
 intro a w f i;have hw : Region.wanted ⟨some d, op, ty, pos, aft, some (g, b)⟩ (yielded ops a.tmps) = false := by
  simp [Region.wanted, yielded, hg, f.get _ _ hb, undef]
 exact wpList_skip hw (h _ _ (f.put hd undef) i)
theorem qR {P : Program} {f : FuncId} {vs : Array Value} {fn : Func} (hf : P.funcs[f]? = some fn) (hn : (fn.name == "runtime.NumGoroutine") = false) (hb : fn.body.isSome = true) (w : World) :
  (callFunc f vs).run P w = .ok (.enter f vs) w := by
 have hb' : fn.body.isNone = false := by cases h : fn.body <;> simp_all
 show Sem.run P (match P.funcs[f]? with | none => _ | some fn => _) w = _
 rw [hf];simp only [hn, hb', Bool.false_eq_true, if_false]
 rfl
theorem gF {fv : Operand} {xs : List Operand} {ats : Array TypeId} {f : FuncId} {caps : Array Value} {vs : List Value} {dst : Option Tmp} {ty : TypeId} {pos : String} {aft : Array Edge} {g : Option (Nat × Bool)} {R : Ending → Hl → List Asn → Prop} {L1 : List Asn}
  (hf : fr.ev fv = some (.func (.func f) #[] caps)) (hx : fr.evs xs = some vs) (hs : Sp E.P f (vs ++ caps.toList) K L1 R) {a : Act} (fo : FrOk E.n E.ds fr a) (w : World) :
  (execOp a.eval ⟨dst, .call ⟨.value fv, xs.toArray, ats⟩, ty, pos, aft, g⟩).run E.P w = .ok (.enter f (vs ++ caps.toList).toArray) w := by
 obtain ⟨⟨fn, h1, h2, h3⟩, hs⟩ := hs;have e1 : Array.map a.eval xs.toArray = vs.toArray := by simp [fo.evs hx]
 have e2 : ([] ++ vs).toArray ++ caps = (vs ++ caps.toList).toArray := by simp
 simp only [execOp, resolve, e1, fo.ev hf, Deferred.ofValue, bind, pure, Sem.bind, invoke, List.append_toArray];rw [e2];exact qR h1 h2 h3 w
theorem vI {dst : Option Tmp} {ty : TypeId} {pos : String} {aft : Array Edge} {g : Option (Nat × Bool)} {fv : Operand} {xs : List Operand} {ats : Array TypeId} {f : FuncId} {caps : Array Value} {vs : List Value} {L1 L2 : List Asn}
  {R : Ending → Hl → List Asn → Prop} {N : Value → Hl → List Asn → Prop}
  (hf : fr.ev fv = some (.func (.func f) #[] caps)) (hx : fr.evs xs = some vs) (hL : Tks L1 L L2)
  (hs : Sp E.P f (vs ++ caps.toList) K L1 R)
  (hret : ∀ v K' L', R (.returned v) K' L' → N v K' (L' ++ L2))
  (hpan : ∀ ch K' L', R (.panicked ch) K' L' → K.le K' → D E (.panic ch) fr K' (L' ++ L2) Q)
  (hout : ∀ K' L', R .outgrown K' L' → LetsOut Q) :
  Ef E fr K L ⟨dst, .call ⟨.value fv, xs.toArray, ats⟩, ty, pos, aft, g⟩ Q N := by
 intro a w k fo i hk;obtain ⟨F', i1, back⟩ := (i.imp hL.sat).hide;refine .inl ?_;unfold Oper.wp;rw [gF hf hx hs fo w];refine (hs.2 F' w i1).mono fun e w' ⟨K', L', r, le, j⟩ => ?_
 cases e with
 | returned v => exact hk _ _ _ _ (hret _ _ _ r) le (back j)
 | panicked ch => exact hpan _ _ _ r le _ _ fo (back j)
 | outgrown => exact hout _ _ r
theorem bH {d : Nat} {ty : TypeId} {pos : String} {aft : Array Edge} {fv : Operand} {xs : List Operand} {ats : Array TypeId} {f : FuncId} {caps : Array Value} {vs : List Value} {L1 L2 : List Asn} {N : Value → Hl → List Asn → Prop}
  (hf : fr.ev fv = some (.func (.func f) #[] caps)) (hx : fr.evs xs = some vs) (hs : Sp E.P f (vs ++ caps.toList) K L1 (Ret N)) (hL : Tks L1 L L2) (hd : Nat.blt d E.n = true)
  (h : ∀ v K' L', N v K' L' → K.le K' → OL E ops rest ((d, v) :: fr) K' (L' ++ L2) Q) : OL E ops (⟨some d, .call ⟨.value fv, xs.toArray, ats⟩, ty, pos, aft, none⟩ :: rest) fr K L Q :=
 sS (vI (N := fun v K' L'' => ∃ L', L'' = L' ++ L2 ∧ N v K' L') hf hx hL hs (fun v K' L' ⟨u, e, n⟩ => by cases e; exact ⟨L', rfl, n⟩) (fun ch K' L' ⟨u, e, n⟩ => by cases e) (fun K' L' ⟨u, e, n⟩ => by cases e)) hd
  (fun v K' L'' ⟨L', e, n⟩ le => by subst e; exact h v K' L' n le)
def Val (v : Value) (K : Hl) : Ending → Hl → List Asn → Prop := fun e K' L' => e = .returned v ∧ K' = K ∧ L' = []
theorem bN {d : Nat} {ty : TypeId} {pos : String} {aft : Array Edge} {fv : Operand} {xs : List Operand} {ats : Array TypeId} {f : FuncId} {caps : Array Value} {vs : List Value} {v : Value}
  (hf : fr.ev fv = some (.func (.func f) #[] caps)) (hx : fr.evs xs = some vs) (hs : Sp E.P f (vs ++ caps.toList) K [] (Val v K)) (hd : Nat.blt d E.n = true)
  (h : OL E ops rest ((d, v) :: fr) K L Q) : OL E ops (⟨some d, .call ⟨.value fv, xs.toArray, ats⟩, ty, pos, aft, none⟩ :: rest) fr K L Q :=
 sS (vI (N := fun u K' L'' => u = v ∧ K' = K ∧ L'' = L) hf hx .nil hs (fun u K' L' ⟨e, e2, e3⟩ => by cases e; subst e3; exact ⟨rfl, e2, rfl⟩) (fun ch K' L' ⟨e, _⟩ => by cases e) (fun K' L' ⟨e, _⟩ => by cases e)) hd
  (fun u K' L'' ⟨e1, e2, e3⟩ _ => by subst e1; subst e2; subst e3; exact h)
def uZ (P : Program) (fn : Func) (w0 : World) (F K0 : Hl) (R : Ending → Hl → List Asn → Prop) : Post :=
 bodyPost P fn fun e w' => ∃ K' L', R e K' L' ∧ K0.le K' ∧ In w0 F K' L' w'
def Fr.init : Nat → List Value → Nat → Fr
 | i, v :: vs, n => (i, v) :: Fr.init (i + 1) vs n
 | _, [], _ => []
theorem zU {vs : List Value} : ∀ {i n : Nat} {k : Nat} {v : Value}, (Fr.init i vs n).get k = some v → i ≤ k ∧ vs[k - i]? = some v := by
 induction vs with
 | nil => intro i n k v e; simp [Fr.init, Fr.get] at e
 | cons u vs ih =>
  intro i n k v e;simp only [Fr.init, Fr.get] at e
  by_cases hk : i = k
  ·subst hk; simp at e; subst e; simp
  ·rw [beqF hk] at e;obtain ⟨h1, h2⟩ := ih e;refine ⟨by omega, ?_⟩
   have : k - i = (k - (i + 1)) + 1 := by omega
   rw [this]; simpa using h2
theorem bE {P : Program} {f : FuncId} {fn : Func} {c : Code} {args : List Value} {n : Nat} {K : Hl} {L : List Asn} {R : Ending → Hl → List Asn → Prop}
  (hf : P.funcs[f]? = some fn) (hb : fn.body = some c) (hn : fn.ntmps = n) (hl : Nat.ble args.length n = true) (hname : (fn.name == "runtime.NumGoroutine") = false)
  (h : ∀ (F : Hl) (w : World), T ⟨P, n, [], w, F⟩ c (Fr.init 0 args n) K L (uZ P fn w F K R)) : Sp P f args K L R := by
 refine ⟨⟨fn, hf, hname, by simp [hb]⟩, fun F w i => calls_of_wp hf hb (h F w _ _ ⟨rfl, ?_, ?_⟩ i)⟩
 ·have : args.length ≤ n := Nat.le_of_ble_eq_true hl;simp [hn]; omega
 ·intro k v e;obtain ⟨_, h2⟩ := zU e;have hk : k < args.length := by
   rcases Nat.lt_or_ge k args.length with h | h
   ·exact h
   ·simp [List.getElem?_eq_none h] at h2
  show (args.toArray ++ Array.replicate _ _)[k]? = some v
  rw [Array.getElem?_append_left (by simpa using hk)]
  simpa using h2
section
variable {P : Program} {fn : Func} {n : Nat} {w0 : World} {F K0 K : Hl} {fr : Fr} {L : List Asn} {R : Ending → Hl → List Asn → Prop}
theorem k4 (hr : fn.results = #[]) (le : K0.le K) (h : R (.returned (.tuple #[])) K L) : D ⟨P, n, [], w0, F⟩ .normal fr K L (uZ P fn w0 F K0 R) :=
 fun a w f i => ⟨f.defers, _, results_none hr _ _ _, K, L, h, le, i⟩
theorem bA {t : Nat} {v : Value} (hr : fn.results = #[.tmp t]) (ht : fr.get t = some v) (le : K0.le K) (h : R (.returned v) K L) : D ⟨P, n, [], w0, F⟩ .ret fr K L (uZ P fn w0 F K0 R) :=
 fun a w f i => ⟨f.defers, v, by rw [results_tmp hr]; simp [f.get _ _ ht], K, L, h, le, i⟩
theorem cR {t u : Nat} {v x : Value} (hr : fn.results = #[.tmp t, .tmp u]) (ht : fr.get t = some v) (hu : fr.get u = some x) (le : K0.le K) (h : R (.returned (.tuple #[v, x])) K L) :
  D ⟨P, n, [], w0, F⟩ .ret fr K L (uZ P fn w0 F K0 R) :=
 fun a w f i => ⟨f.defers, _, by rw [results_tmp2 hr]; simp [f.get _ _ ht, f.get _ _ hu], K, L, h, le, i⟩
end
end
end Go.SL
end
section
namespace Go.SL
abbrev str (l : List UInt8) : Value := .string ⟨l.toArray⟩
abbrev i64 (n : Int) : Value := .int .i64 n
abbrev ptr (b : Nat) (o : Nat := 0) : Value := .pointer (some ⟨b, o, none⟩)
abbrev aW (l : List Value) (t : TypeId) (f : Nat × Nat := (0, 0)) : Obj := .cells l.toArray t f
def d7 (P : Program) (t : TypeId) : Bool :=
 match P.underlying t, P.info? t with
 | some (.struct _), _ => false
 | some (.array _ _), _ => false
 | some _, some i => i.size == 1
 | _, _ => false
def aggB (P : Program) (t n : Nat) : Bool :=
 match P.underlying t, P.info? t with
 | some (.struct _), some i => i.size == n
 | some (.array _ _), some i => i.size == n
 | _, _ => false
def dB (P : Program) (s i off : Nat) : Bool :=
 match P.underlying s with
 | some (.struct fs) => match fs[i]? with
  | some f => f.offset == off && (match P.info? f.type with | some ti => ti.size != 0 | none => false)
  | none => false
 | _ => false
def fP (P : Program) (t e sz : Nat) : Bool :=
 match P.underlying t, P.info? e with
 | some (.slice e'), some i => e' == e && i.size == sz
 | _, _ => false
theorem iJ {P : Program} {t : TypeId} (h : d7 P t = true) (w : World) : (isAgg t).run P w = .ok false w ∧ (sizeOf t).run P w = .ok 1 w := by
 unfold d7 at h;unfold isAgg sizeOf typeInfo underlying program;cases hu : P.underlying t with
 | none => simp [hu] at h
 | some d => cases hi : P.info? t with
  | none => cases d <;> simp [hu, hi] at h
  | some i => cases d <;> simp [hu, hi] at h <;> simp [Sem.run, hu, hi, bind, Sem.bind, pure, h]
theorem qG {P : Program} {t n : Nat} (h : aggB P t n = true) (w : World) : (isAgg t).run P w = .ok true w ∧ (sizeOf t).run P w = .ok n w := by
 unfold aggB at h;unfold isAgg sizeOf typeInfo underlying program;cases hu : P.underlying t with
 | none => simp [hu] at h
 | some d => cases hi : P.info? t with
  | none => cases d <;> simp [hu, hi] at h
  | some i => cases d <;> simp [hu, hi] at h <;> simp [Sem.run, hu, hi, bind, Sem.bind, pure, h]
theorem run_bind {α β : Type} {P : Program} (m : Sem α) (f : α → Sem β) (w : World) : (m >>= f).run P w = match m.run P w with | .ok a w' => (f a).run P w' | .halt h w' => .halt h w' := by
 show (Sem.bind m f).run P w = _
 induction m generalizing w with
 | pure a => rfl
 | load md a k ih =>
  simp only [Sem.bind, Sem.run];cases w.cell? a with
  | some v => exact ih v w
  | none => cases w.farLoad P a (md == .atomic) with
   | ok r => exact ih r.1 w
   | error e => rfl
 | store md a v k ih =>
  cases v <;> simp only [Sem.bind, Sem.run] <;> (first | rfl | skip) <;>
   (cases w.cell? a with
    | some u => (by_cases hf : w.frozen? a = true <;> simp only [hf, if_true, if_false, Bool.false_eq_true] <;> first | rfl | exact ih _)
    | none => (simp only []; split <;> first | exact ih _ | rfl))
 | new o k ih => exact ih _ _
 | shape r k ih => exact ih _ _
 | freeze a n k ih => exact ih _
 | frozen a k ih => exact ih _ _
 | getObj r k ih =>
  simp only [Sem.bind, Sem.run];cases w.heap[r]? with
  | none => rfl
  | some o => cases o <;> first | rfl | exact ih _ _
 | setObj r o k ih =>
  simp only [Sem.bind, Sem.run];cases w.heap[r]? with
  | none => rfl
  | some o => cases o <;> first | rfl | exact ih _
 | choose q k ih =>
  simp only [Sem.bind, Sem.run];split <;> exact ih _ _
 | sys c k ih => exact ih _ _
 | program k ih => exact ih _ _
 | mark m k ih => exact ih _
 | halt h => rfl
theorem aL {α β : Type} {P : Program} {m : Sem α} {f : α → Sem β} {w w' : World} {x : α} (h : m.run P w = .ok x w') : (m >>= f).run P w = (f x).run P w' := by
 rw [run_bind, h]
theorem s0 {α : Type} {P : Program} (x : α) (w : World) : (pure x : Sem α).run P w = .ok x w := rfl
section
variable {E : Env} {fr : Fr} {K : Hl} {L : List Asn} {Q : Post} {dst : Option Tmp} {ty : TypeId} {pos : String} {aft : Array Edge} {g : Option (Nat × Bool)}
theorem cP {P : Program} {m : Sem Value} {v : Value} {w w' : World} (h : m.run P w = .ok v w') : (do pure (Next.value (← m)) : Sem Next).run P w = .ok (.value v) w' := by
 rw [aL h]; rfl
theorem aB {x : Operand} {v : Value} (h : fr.ev x = some v) : Ev E fr K L ⟨dst, .move x, ty, pos, aft, g⟩ v := fun a w f _ => by simp only [execOp, f.ev h]; rfl
theorem aD {x : Operand} {v : Value} (h : fr.ev x = some v) : Ev E fr K L ⟨dst, .assign x, ty, pos, aft, g⟩ v := fun a w f _ => by simp only [execOp, f.ev h]; rfl
theorem bG {c x y : Operand} {v : Value} (hc : fr.ev c = some (.bool true)) (h : fr.ev x = some v) : Ev E fr K L ⟨dst, .pick c x y, ty, pos, aft, g⟩ v := fun a w f _ => by
 simp only [execOp, f.ev h, f.ev hc]; rfl
theorem aZ {c x y : Operand} {v : Value} (hc : fr.ev c = some (.bool false)) (h : fr.ev y = some v) : Ev E fr K L ⟨dst, .pick c x y, ty, pos, aft, g⟩ v := fun a w f _ => by
 simp only [execOp, f.ev h, f.ev hc]; rfl
theorem dC {op : BinOp} {x y : Operand} {t t' : TypeId} {u v r : Value} (hx : fr.ev x = some u) (hy : fr.ev y = some v)
  (hg : ∀ w, (eqGuard op t x y u v).run E.P w = .ok () w) (hr : ∀ w, (binOp op t u v).run E.P w = .ok r w) : Ev E fr K L ⟨dst, .binOp op t x y t', ty, pos, aft, g⟩ r := by
 intro a w f _;simp only [execOp, f.ev hx, f.ev hy];refine cP ?_;rw [aL (hg w)]; exact hr w
theorem dD {op : BinOp} {t : TypeId} {x y : Operand} {k k' : IntKind} {m n : Int} {P : Program} (w : World) : (eqGuard op t x y (.int k m) (.int k' n)).run P w = .ok () w := by
 unfold eqGuard; cases op <;> rfl
theorem kI {op : BinOp} {t : TypeId} {x y : Operand} {m n : ByteArray} {P : Program} (w : World) : (eqGuard op t x y (.string m) (.string n)).run P w = .ok () w := by
 unfold eqGuard; cases op <;> rfl
theorem kC {n : Int} (h1 : -9223372036854775808 ≤ n) (h2 : n ≤ 9223372036854775807) : IntKind.i64.wrap n = n := by
 unfold IntKind.wrap IntKind.bits IntKind.signed;simp only [Bool.true_and];split <;> simp_all <;> omega
variable {x y : Operand} {t t' : TypeId} {m n : Int} {k : IntKind}
theorem aBX (hx : fr.ev x = some (.int k m)) (hy : fr.ev y = some (.int k n)) : Ev E fr K L ⟨dst, .binOp .add t x y t', ty, pos, aft, g⟩ (.int k (k.wrap (m + n))) :=
 dC hx hy dD fun w => by simp [binOp, Op.intArith, pure]
theorem nO (hx : fr.ev x = some (.int k m)) (hy : fr.ev y = some (.int k n)) : Ev E fr K L ⟨dst, .binOp .sub t x y t', ty, pos, aft, g⟩ (.int k (k.wrap (m - n))) :=
 dC hx hy dD fun w => by simp [binOp, Op.intArith, pure]
theorem vK (hx : fr.ev x = some (.int k m)) (hy : fr.ev y = some (.int k n)) : Ev E fr K L ⟨dst, .binOp .mul t x y t', ty, pos, aft, g⟩ (.int k (k.wrap (m * n))) :=
 dC hx hy dD fun w => by simp [binOp, Op.intArith, pure]
theorem bY (hx : fr.ev x = some (i64 m)) (hy : fr.ev y = some (i64 n)) (h1 : -9223372036854775808 ≤ m + n) (h2 : m + n ≤ 9223372036854775807) :
  Ev E fr K L ⟨dst, .binOp .add t x y t', ty, pos, aft, g⟩ (i64 (m + n)) := by have := aBX (E := E) (K := K) (L := L) (dst := dst) (ty := ty) (pos := pos) (aft := aft) (g := g) (t := t) (t' := t') hx hy; rwa [kC h1 h2] at this
theorem qW (hx : fr.ev x = some (i64 m)) (hy : fr.ev y = some (i64 n)) (h1 : -9223372036854775808 ≤ m - n) (h2 : m - n ≤ 9223372036854775807) :
  Ev E fr K L ⟨dst, .binOp .sub t x y t', ty, pos, aft, g⟩ (i64 (m - n)) := by have := nO (E := E) (K := K) (L := L) (dst := dst) (ty := ty) (pos := pos) (aft := aft) (g := g) (t := t) (t' := t') hx hy; rwa [kC h1 h2] at this
theorem cZ (hx : fr.ev x = some (.int k m)) (hy : fr.ev y = some (.int k n)) : Ev E fr K L ⟨dst, .binOp .lss t x y t', ty, pos, aft, g⟩ (.bool (decide (m < n))) :=
 dC hx hy dD fun w => by simp [binOp, Op.intCmp, pure]
theorem fN (hx : fr.ev x = some (.int k m)) (hy : fr.ev y = some (.int k n)) : Ev E fr K L ⟨dst, .binOp .leq t x y t', ty, pos, aft, g⟩ (.bool (decide (m ≤ n))) :=
 dC hx hy dD fun w => by simp [binOp, Op.intCmp, pure]
theorem iV (hx : fr.ev x = some (.int k m)) (hy : fr.ev y = some (.int k n)) : Ev E fr K L ⟨dst, .binOp .gtr t x y t', ty, pos, aft, g⟩ (.bool (decide (n < m))) :=
 dC hx hy dD fun w => by simp [binOp, Op.intCmp, pure]
theorem gG (hx : fr.ev x = some (.int k m)) (hy : fr.ev y = some (.int k n)) : Ev E fr K L ⟨dst, .binOp .geq t x y t', ty, pos, aft, g⟩ (.bool (decide (n ≤ m))) :=
 dC hx hy dD fun w => by simp [binOp, Op.intCmp, pure]
theorem aBM (m n : Int) : (m == n) = decide (m = n) := by by_cases h : m = n <;> simp [h]
theorem bW (hx : fr.ev x = some (.int k m)) (hy : fr.ev y = some (.int k n)) : Ev E fr K L ⟨dst, .binOp .eql t x y t', ty, pos, aft, g⟩ (.bool (decide (m = n))) :=
 dC hx hy dD fun w => by simp [binOp, Op.intCmp, ← aBM, pure]
theorem eE (hx : fr.ev x = some (.int k m)) (hy : fr.ev y = some (.int k n)) : Ev E fr K L ⟨dst, .binOp .neq t x y t', ty, pos, aft, g⟩ (.bool (decide (¬ m = n))) :=
 dC hx hy dD fun w => by
  have : (m != n) = decide (¬ m = n) := by by_cases h : m = n <;> simp [h]
  simp [binOp, Op.intCmp, ← this, pure]
theorem dL {b : Bool} (hx : fr.ev x = some (.bool b)) : Ev E fr K L ⟨dst, .unOp .not t x, ty, pos, aft, g⟩ (.bool (!b)) := fun a w f _ => by
 simp only [execOp, f.ev hx]; rfl
theorem fB {p : Prop} [Decidable p] (hx : fr.ev x = some (.bool (decide p))) : Ev E fr K L ⟨dst, .unOp .not t x, ty, pos, aft, g⟩ (.bool (decide (¬ p))) := fun a w f _ => by
 simp only [execOp, f.ev hx, decide_not]; rfl
theorem eO {s d : TypeId} {k' : IntKind} {ds : TypeDesc} (hd : E.P.underlying d = some (.int k')) (hs : E.P.underlying s = some ds) (hx : fr.ev x = some (.int k m)) :
  Ev E fr K L ⟨dst, .convert s d x, ty, pos, aft, g⟩ (.int k' (k'.wrap m)) := fun a w f _ => by
 simp only [execOp, f.ev hx];refine cP ?_;unfold convert;simp only [underlying, program, bind, Sem.bind, pure, Sem.run, hd, hs, Conv.intToInt]
variable {l l' : List UInt8}
theorem iQ (l : List UInt8) : (⟨l.toArray⟩ : ByteArray).toList = l := by rw [ByteArray.toList_eq]
theorem gE (l : List UInt8) : (⟨l.toArray⟩ : ByteArray).size = l.length := by simp [ByteArray.size]
theorem qJ (l m : List UInt8) : (⟨l.toArray⟩ : ByteArray) ++ ⟨m.toArray⟩ = ⟨(l ++ m).toArray⟩ := by
 apply Go.WideShapes.bytes_inj; simp
theorem cC (hx : fr.ev x = some (str l)) (hy : fr.ev y = some (str l')) (h : l.length + l'.length ≤ 9223372036854775807) :
  Ev E fr K L ⟨dst, .binOp .add t x y t', ty, pos, aft, g⟩ (str (l ++ l')) :=
 dC hx hy kI fun w => by
  simp only [binOp, Op.stringOp, gE, qJ];rw [if_neg (by simp [IntKind.max, IntKind.bits, IntKind.signed]; omega)]; rfl
theorem tV (hx : fr.ev x = some (str l)) (hy : fr.ev y = some (str l')) : Ev E fr K L ⟨dst, .binOp .eql t x y t', ty, pos, aft, g⟩ (.bool (decide (l = l'))) :=
 dC hx hy kI fun w => by
  have : (l == l') = decide (l = l') := by by_cases h : l = l' <;> simp [h]
  simp only [binOp, Op.stringOp, iQ, this]; rfl
theorem qT (hx : fr.ev x = some (str l)) (hy : fr.ev y = some (str l')) : Ev E fr K L ⟨dst, .binOp .neq t x y t', ty, pos, aft, g⟩ (.bool (decide (¬ l = l'))) :=
 dC hx hy kI fun w => by
  have : (!(l == l')) = decide (¬ l = l') := by by_cases h : l = l' <;> simp [h]
  simp only [binOp, Op.stringOp, iQ, this]; rfl
theorem aD1 (hx : fr.ev x = some (str l)) (hy : fr.ev y = some (str l')) : Ev E fr K L ⟨dst, .binOp .lss t x y t', ty, pos, aft, g⟩ (.bool (Op.bytesLess l l')) :=
 dC hx hy kI fun w => by simp only [binOp, Op.stringOp, iQ]; rfl
theorem bU {ats : Array TypeId} (ha : ats[0]? = some t) (hu : E.P.underlying t = some .string) (hx : fr.ev x = some (str l)) :
  Ev E fr K L ⟨dst, .call ⟨.builtin .len, #[x], ats⟩, ty, pos, aft, g⟩ (i64 l.length) := fun a w f _ => by
 have e : Array.map a.eval #[x] = #[str l] := by simp [f.ev hx]
 simp only [execOp, resolve, e, bind, pure, Sem.bind, invoke, builtin];simp [Builtin.len_, ha, underlying, program, bind, Sem.bind, pure, Sem.run, hu, goInt, gE]
theorem cY {c : UInt8} {j : Nat} {jv : Int} (hu : E.P.underlying t = some .string) (hx : fr.ev x = some (str l)) (hy : fr.ev y = some (.int k jv)) (hjv : jv = (j : Int)) (hc : l[j]? = some c) :
  Ev E fr K L ⟨dst, .index t x y, ty, pos, aft, g⟩ (.int .u8 c.toNat) := fun a w f _ => by
 subst hjv;simp only [execOp, f.ev hx, f.ev hy];refine cP ?_;have hj : j < l.length := by
  rcases Nat.lt_or_ge j l.length with h | h
  ·exact h
  ·simp [List.getElem?_eq_none h] at hc
 have hc' : l[j] = c := by simpa [List.getElem?_eq_getElem hj] using hc
 have e : (⟨l.toArray⟩ : ByteArray)[j]? = some c := by
  rw [getElem?_pos (⟨l.toArray⟩ : ByteArray) j (by simpa [ByteArray.size] using hj)];simp [ByteArray.getElem_eq_getElem_data, hc']
 unfold Instr.index;simp [asIntOf, underlying, program, bind, Sem.bind, pure, Sem.run, hu, e]
theorem hO (l : List UInt8) (i j : Nat) : (⟨l.toArray⟩ : ByteArray).extract i j = ⟨((l.take j).drop i).toArray⟩ := by
 apply Go.WideShapes.bytes_inj
 simp [ByteArray.data_extract, List.drop_take]
end
end Go.SL
end
section
namespace Go.SL
section
variable {E : Env} {fr : Fr} {K : Hl} {L L' : List Asn} {Q : Post} {dst : Option Tmp} {ty : TypeId} {pos : String} {aft : Array Edge} {g : Option (Nat × Bool)} {x y : Operand} {t s e sz i off b : Nat}
theorem kX {l : List UInt8} {lo : Operand} {k : IntKind} {m : Nat} {mv : Int} (hu : E.P.underlying t = some .string) (hx : fr.ev x = some (str l)) (hl : fr.ev lo = some (.int k mv)) (hm : mv = (m : Int))
  (h1 : m ≤ l.length) : Ev E fr K L ⟨dst, .slice t x (some lo) none none, ty, pos, aft, g⟩ (str (l.drop m)) := fun a w f _ => by
 subst hm;simp only [execOp, f.ev hx, f.ev hl, Option.map];refine cP ?_;unfold Instr.sliceAt;simp only [underlying, program, bind, Sem.bind, pure, Sem.run, hu, Instr.slice];simp [Instr.sliceBounds, Instr.sliceBound, asIntOf, bind, Sem.bind, pure, gE, h1, hO]
theorem nA {l : List UInt8} {hi : Operand} {k : IntKind} {n : Nat} {nv : Int} (hu : E.P.underlying t = some .string) (hx : fr.ev x = some (str l)) (hh : fr.ev hi = some (.int k nv)) (hn : nv = (n : Int))
  (h2 : n ≤ l.length) : Ev E fr K L ⟨dst, .slice t x none (some hi) none, ty, pos, aft, g⟩ (str (l.take n)) := fun a w f _ => by
 subst hn;simp only [execOp, f.ev hx, f.ev hh, Option.map];refine cP ?_;unfold Instr.sliceAt;simp only [underlying, program, bind, Sem.bind, pure, Sem.run, hu, Instr.slice];simp [Instr.sliceBounds, Instr.sliceBound, asIntOf, bind, Sem.bind, pure, gE, h2, hO]
theorem sA {a : Addr} (hx : fr.ev x = some (.pointer (some a))) : Ev E fr K L ⟨dst, .nilCheck x, ty, pos, aft, g⟩ (.pointer (some a)) := fun a w f _ => by
 simp only [execOp, f.ev hx]; rfl
theorem oC {u : TypeId} {v : Value} (hx : fr.ev x = some (.iface u v)) : Ev E fr K L ⟨dst, .nilCheck x, ty, pos, aft, g⟩ (.iface u v) := fun a w f _ => by
 simp only [execOp, f.ev hx]; rfl
theorem oB {u : FuncId} {p q : Array Value} (hx : fr.ev x = some (.func (.func u) p q)) : Ev E fr K L ⟨dst, .nilCheck x, ty, pos, aft, g⟩ (.func (.func u) p q) := fun a w f _ => by
 simp only [execOp, f.ev hx]; rfl
theorem dP (b o n : Nat) : (⟨b, o, none⟩ : Addr).add n = ⟨b, o + n, none⟩ := by
 unfold Addr.add; split <;> simp_all
theorem aH {o o' : Nat} (ht : dB E.P s i off = true) (hx : fr.ev x = some (ptr b o)) (ho' : o + off = o') : Ev E fr K L ⟨dst, .fieldAddr s x i, ty, pos, aft, g⟩ (ptr b o') := fun a w f _ => by
 subst ho';simp only [execOp, f.ev hx];refine cP ?_;unfold dB at ht;unfold Instr.fieldAt;cases hu : E.P.underlying s with
 | none => simp [hu] at ht
 | some d =>
  cases d <;> simp [hu] at ht
  rename_i fs;cases hf : fs[i]? with
  | none => simp [hf] at ht
  | some fl =>
   simp [hf] at ht;obtain ⟨h1, h2⟩ := ht;cases hi : E.P.info? fl.type with
   | none => simp [hi] at h2
   | some ti =>
    simp [hi] at h2;simp only [underlying, program, bind, Sem.bind, pure, Sem.run, hu, hf, Instr.sureAddr, fieldPlace, sizeOf, typeInfo, hi, h2, if_false, h1, dP]
theorem iR {w : World} {l : List Value} {u : TypeId} {f : Nat × Nat} {o : Nat} {v : Value} (h : w.heap[b]? = some (aW l u f)) (hv : l[o]? = some v) : w.cell? ⟨b, o, none⟩ = some v := by
 simp [World.cell?, h, hv]
theorem lT {P : Program} {w : World} {l : List Value} {u : TypeId} {f : Nat × Nat} {o : Nat} {v : Value} (h : w.heap[b]? = some (aW l u f)) (hv : l[o]? = some v) : (load ⟨b, o, none⟩).run P w = .ok v w := by
 simp [load, Sem.run, iR h hv]
inductive Sees (K : Hl) (L : List Asn) (b : Nat) (o : Obj) : Prop where
 | own : Hs (pt b o) L → Sees K L b o
 | known : K b = some o → Sees K L b o
theorem Sees.at {w0 w : World} {F : Hl} {o : Obj} (h : Sees K L b o) (j : In w0 F K L w) : w.heap[b]? = some o := by
 cases h with
 | own f => obtain ⟨_, g⟩ := f.fnd (pt b o); exact j.mem g
 | known h => exact j.known h
theorem aM {o : Nat} {l : List Value} {u : TypeId} {fz : Nat × Nat} {v : Value} (ht : d7 E.P t = true) (hx : fr.ev x = some (ptr b o)) (hs : Sees K L b (aW l u fz)) (hv : l[o]? = some v) :
  Ev E fr K L ⟨dst, .load t x, ty, pos, aft, g⟩ v := fun a w f j => by
 simp only [execOp, f.ev hx];refine cP ?_;obtain ⟨h1, h2⟩ := iJ ht w
 show (loadVar t _).run E.P w = _
 unfold loadVar;rw [aL h1];exact lT (hs.at j) hv
theorem e7 {P : Program} {w : World} {l : List Value} {u : TypeId} {fz : Nat × Nat} (h : w.heap[b]? = some (aW l u fz)) :
  ∀ (n : Nat) (vs : List Value) (o k : Nat) (acc : List Value), (l.drop (o + k)).take n = vs → vs.length = n → (loadCellsFrom ⟨b, o, none⟩ k n acc.toArray).run P w = .ok (acc ++ vs).toArray w := by
 intro n;induction n with
 | zero => intro vs o k acc h1 h2; have : vs = [] := List.length_eq_zero_iff.1 h2; subst this; simp [loadCellsFrom, pure, Sem.run]
 | succ n ih =>
  intro vs o k acc h1 h2;cases vs with
  | nil => simp at h2
  | cons v vs =>
   have hv : l[o + k]? = some v := by
    have := congrArg (·[0]?) h1
    simpa [List.getElem?_take, List.getElem?_drop] using this
   unfold loadCellsFrom;rw [dP, aL (lT h hv)];have e : acc.toArray.push v = (acc ++ [v]).toArray := by simp
   rw [e, ih vs o (k + 1) (acc ++ [v]) ?_ (by simpa using h2)]
   ·simp
   ·have := congrArg List.tail h1;simp only [List.tail_cons] at this;rw [← this];have h3 : (l.drop (o + k)) = v :: l.drop (o + (k + 1)) := by
     have hlt : o + k < l.length := by
      rcases Nat.lt_or_ge (o + k) l.length with h | h
      ·exact h
      ·simp [List.getElem?_eq_none h] at hv
     rw [List.drop_eq_getElem_cons hlt];have : l[o + k] = v := by simpa [List.getElem?_eq_getElem hlt] using hv
     rw [this]; rfl
    rw [h3]; simp
theorem bX {o n : Nat} {l vs : List Value} {u : TypeId} {fz : Nat × Nat} (ht : aggB E.P t n = true) (hx : fr.ev x = some (ptr b o)) (hs : Sees K L b (aW l u fz)) (hv : (l.drop o).take n = vs) (hn : vs.length = n) :
  Ev E fr K L ⟨dst, .load t x, ty, pos, aft, g⟩ (.agg vs.toArray) := fun a w f j => by
 simp only [execOp, f.ev hx];refine cP ?_;obtain ⟨h1, h2⟩ := qG ht w
 show (loadVar t _).run E.P w = _
 unfold loadVar;rw [aL h1];simp only [if_true];rw [aL h2];have := e7 (P := E.P) (hs.at j) n vs o 0 [] hv hn;simp only [List.nil_append] at this;unfold loadCells;rw [aL this]; rfl
def newb (b : Nat) (o : Obj) (K : Hl) (L : List Asn) : Value → Hl → List Asn → Prop := fun v K' L' => v = ptr b ∧ K' = K ∧ L' = pt b o :: L
theorem gO {v : Value} {l : List Value} (hx : fr.ev x = some v) (hl : v.cells = l.toArray) : EfS E fr K L ⟨dst, .box e x, ty, pos, aft, g⟩ (fun u K' L' => ∃ b, newb b (aW l e) K L u K' L') := by
 intro a w f j;have : (execOp a.eval ⟨dst, .box e x, ty, pos, aft, g⟩).run E.P w = .ok (.value (ptr w.heap.size)) { w with heap := w.heap.push (aW l e) } := by
  simp only [execOp, f.ev hx, Instr.box, newVar, newRow, hl]; rfl
 exact ⟨_, _, _, _, .inl this, ⟨_, rfl, rfl, rfl⟩, Hl.le_refl _, j.alloc _⟩
def cE (P : Program) (e : TypeId) : Option (List Value) := (P.info? e).bind fun i => i.zero.map fun z => z.cells.toList
theorem m4 {P : Program} {e : TypeId} {l : List Value} (h : cE P e = some l) : ∃ inf v, P.info? e = some inf ∧ inf.zero = some v ∧ v.cells = l.toArray := by
 unfold cE at h;cases hi : P.info? e with
 | none => simp [hi] at h
 | some inf =>
  cases hz : inf.zero with
  | none => simp [hi, hz] at h
  | some v => simp [hi, hz] at h; exact ⟨inf, v, rfl, hz, by rw [← h]⟩
theorem dI {l : List Value} (hz : cE E.P e = some l) : EfS E fr K L ⟨dst, .alloc e, ty, pos, aft, g⟩ (fun u K' L' => ∃ b, newb b (aW l e) K L u K' L') := by
 intro a w f j;obtain ⟨inf, v, hi, hz, hl⟩ := m4 hz;have : (execOp a.eval ⟨dst, .alloc e, ty, pos, aft, g⟩).run E.P w = .ok (.value (ptr w.heap.size)) { w with heap := w.heap.push (aW l e) } := by
  simp only [execOp, Instr.alloc, zeroValue, typeInfo, program, bind, Sem.bind, pure, Sem.run, hi, hz, newVar, newRow, hl]; rfl
 exact ⟨_, _, _, _, .inl this, ⟨_, rfl, rfl, rfl⟩, Hl.le_refl _, j.alloc _⟩
inductive SetAt : List Value → Nat → Value → List Value → Prop where
 | zero {a : Value} {l : List Value} {v : Value} : SetAt (a :: l) 0 v (v :: l)
 | succ {a : Value} {l : List Value} {n : Nat} {v : Value} {l' : List Value} : SetAt l n v l' → SetAt (a :: l) (n + 1) v (a :: l')
theorem SetAt.eq {l : List Value} {n : Nat} {v : Value} {l' : List Value} (h : SetAt l n v l') : l.set n v = l' ∧ n < l.length := by
 induction h with
 | zero => exact ⟨rfl, by simp⟩
 | succ _ ih => exact ⟨by simp [ih.1], by simp; exact ih.2⟩
theorem jA {w : World} {l : List Value} {u : TypeId} {fz : Nat × Nat} {o : Nat} (v : Value) (h : w.heap[b]? = some (aW l u fz)) :
  (w.setCell ⟨b, o, none⟩ v).heap.size = w.heap.size ∧ (w.setCell ⟨b, o, none⟩ v).heap[b]? = some (aW (l.set o v) u fz) ∧ ∀ z, z ≠ b → (w.setCell ⟨b, o, none⟩ v).heap[z]? = w.heap[z]? := by
 refine ⟨by simp [World.setCell], ?_, fun z hz => ?_⟩
 ·simp [World.setCell, Array.getElem?_modify, h]
 ·simp [World.setCell, Array.getElem?_modify, Ne.symm hz]
theorem mS {P : Program} {w : World} {l : List Value} {u : TypeId} {fz : Nat × Nat} {o : Nat} {v : Value} (h : w.heap[b]? = some (aW l u fz)) (ho : o < l.length)
  (hf : (fz.1 ≤ o && o < fz.2) = false) (h1 : v.oneCell' = true) : (store ⟨b, o, none⟩ v).run P w = .ok () (w.setCell ⟨b, o, none⟩ v) := by
 have hc : w.cell? ⟨b, o, none⟩ = some l[o] := iR h (by simp [ho]);have hz : w.frozen? ⟨b, o, none⟩ = false := by
  obtain ⟨lo, hi⟩ := fz;simp only [World.frozen?, h]; exact hf
 cases v <;> simp [Value.oneCell'] at h1 <;> simp [store, Sem.run, hc, hz, pure]
theorem bT {o : Nat} {l : List Value} {u : TypeId} {fz : Nat × Nat} {v : Value} (ht : d7 E.P t = true) (hx : fr.ev x = some (ptr b o)) (hy : fr.ev y = some v) (h1 : v.oneCell' = true)
  {l' : List Value} (hs : Fnd (pt b (aW l u fz)) (pt b (aW l' u fz)) L L') (hset : SetAt l o v l') (hf : (fz.1 ≤ o && o < fz.2) = false) :
  EfS E fr K L ⟨dst, .store t x y, ty, pos, aft, g⟩ (fun _ K' L'' => K' = K ∧ L'' = L') := by
 intro a w f j;have hb := j.mem hs;obtain ⟨rfl, ho'⟩ := hset.eq;have hc : v.cells = #[v] := by cases v <;> simp [Value.oneCell'] at h1 <;> rfl
 have hr : (execOp a.eval ⟨dst, .store t x y, ty, pos, aft, g⟩).run E.P w = .ok .skip (w.setCell ⟨b, o, none⟩ v) := by
  simp only [execOp, f.ev hx, f.ev hy];have : (Instr.storeAt t (ptr b o) v).run E.P w = .ok () (w.setCell ⟨b, o, none⟩ v) := by
   show (storeVar t _ v).run E.P w = _
   unfold storeVar;rw [aL (iJ ht w).2];simp only [hc];rw [if_neg (by simp)];simp only [storeCells, dP, Nat.add_zero]
   show (store _ _ >>= fun _ => pure ()).run E.P w = _
   rw [aL (mS hb ho' hf h1)]; rfl
  rw [aL this]; rfl
 obtain ⟨s1, s2, s3⟩ := jA (o := o) v hb;exact ⟨_, _, _, _, .inr ⟨hr, rfl⟩, ⟨rfl, rfl⟩, Hl.le_refl _, j.writeAt hs s1 s2 s3⟩
end
end Go.SL
end
section
namespace Go.SL
structure El (α : Type) where
 e : TypeId
 sz : Nat
 enc : α → List Value
 len : ∀ x, (enc x).length = sz
 one : ∀ x, ∀ u ∈ enc x, u.oneCell' = true
def El.cs {α : Type} (k : El α) (xs : List α) : List Value := xs.flatMap k.enc
theorem El.cs_one {α : Type} (k : El α) (xs : List α) : ∀ u ∈ k.cs xs, u.oneCell' = true := by
 intro u hu;obtain ⟨x, _, hx⟩ := List.mem_flatMap.1 hu;exact k.one x u hx
theorem El.cs_length {α : Type} (k : El α) (xs : List α) : (k.cs xs).length = xs.length * k.sz := by
 induction xs with
 | nil => simp [El.cs]
 | cons x xs ih => simp only [El.cs, List.flatMap_cons, List.length_append, k.len] at *; rw [ih, List.length_cons, Nat.succ_mul]; omega
theorem El.cs_append {α : Type} (k : El α) (xs ys : List α) : k.cs (xs ++ ys) = k.cs xs ++ k.cs ys := by simp [El.cs]
theorem El.cs_drop {α : Type} (k : El α) (xs : List α) (i : Nat) : (k.cs xs).drop (i * k.sz) = k.cs (xs.drop i) := by
 induction i generalizing xs with
 | zero => simp
 | succ i ih =>
  cases xs with
  | nil => simp [El.cs]
  | cons x xs =>
   have : (i + 1) * k.sz = k.sz + i * k.sz := by rw [Nat.succ_mul]; omega
   rw [this, ← List.drop_drop];have h2 : (k.cs (x :: xs)).drop k.sz = k.cs xs := by
    simp only [El.cs, List.flatMap_cons];rw [List.drop_append_of_le_length (by rw [k.len]; exact Nat.le_refl _), List.drop_of_length_le (by rw [k.len]; exact Nat.le_refl _)]; rfl
   rw [h2, ih]; rfl
theorem El.cs_take {α : Type} (k : El α) (xs : List α) (i : Nat) : (k.cs xs).take (i * k.sz) = k.cs (xs.take i) := by
 induction i generalizing xs with
 | zero => simp [El.cs]
 | succ i ih =>
  cases xs with
  | nil => simp [El.cs]
  | cons x xs =>
   have : (i + 1) * k.sz = k.sz + i * k.sz := by rw [Nat.succ_mul]; omega
   rw [this];simp only [El.cs, List.flatMap_cons, List.take_succ_cons];rw [List.take_append, k.len, Nat.add_sub_cancel_left, List.take_of_length_le (by rw [k.len]; omega)];have := ih xs;simp only [El.cs] at this;rw [this]
theorem El.cs_at {α : Type} (k : El α) {xs : List α} {i : Nat} {x : α} (h : xs[i]? = some x) {r : List Value} : ((k.cs xs ++ r).drop (i * k.sz)).take k.sz = k.enc x := by
 have hi : i < xs.length := by
  rcases Nat.lt_or_ge i xs.length with h' | h'
  ·exact h'
  ·simp [List.getElem?_eq_none h'] at h
 have hx : xs[i] = x := by simpa [List.getElem?_eq_getElem hi] using h
 rw [List.drop_append_of_le_length (by rw [k.cs_length]; exact Nat.mul_le_mul_right _ (Nat.le_of_lt hi)), k.cs_drop, List.drop_eq_getElem_cons hi, hx];simp only [El.cs, List.flatMap_cons];rw [List.append_assoc, List.take_append_of_le_length (by rw [k.len]; exact Nat.le_refl _), List.take_of_length_le (by rw [k.len]; exact Nat.le_refl _)]
def FzOk (n : Nat) (fz : Nat × Nat) : Prop := fz.2 ≤ fz.1 ∨ n ≤ fz.1
theorem FzOk.at {n o : Nat} {fz : Nat × Nat} (h : FzOk n fz) (ho : o < n) : (fz.1 ≤ o && o < fz.2) = false := by
 unfold FzOk at h;simp only [Bool.and_eq_false_iff, decide_eq_false_iff_not];omega
def sl {α : Type} (z : Bool) (k : El α) (v : Value) (xs : List α) : Asn := fun h =>
 (v = .slice none 0 0 ∧ xs = [] ∧ h = .emp) ∨
 (∃ b cap junk fz, v = .slice (some ⟨b, 0, none⟩) xs.length cap ∧ (z = true → xs ≠ []) ∧ xs.length ≤ cap ∧ junk.length = (cap - xs.length) * k.sz ∧ FzOk (cap * k.sz) fz ∧ h = Hl.one b (aW (k.cs xs ++ junk) k.e fz))
def Ksl {α : Type} (k : El α) (K : Hl) (v : Value) (xs : List α) : Prop :=
 (∃ a c, v = .slice a 0 c ∧ xs = []) ∨
 (∃ b off cap cells fz, v = .slice (some ⟨b, off, none⟩) xs.length cap ∧ (∃ u, K b = some (aW cells u fz)) ∧ (cells.drop off).take (xs.length * k.sz) = k.cs xs)
theorem Ksl.mono {α : Type} {k : El α} {K K' : Hl} {v : Value} {xs : List α} (h : Ksl k K v xs) (le : K.le K') : Ksl k K' v xs := by
 rcases h with h | ⟨b, off, cap, cells, fz, h1, h2, h3⟩
 ·exact .inl h
 ·obtain ⟨u, h2⟩ := h2; exact .inr ⟨b, off, cap, cells, fz, h1, ⟨u, le _ _ h2⟩, h3⟩
def SlAt {α : Type} (k : El α) (w : World) (v : Value) (xs : List α) : Prop :=
 (∃ a c, v = .slice a 0 c ∧ xs = []) ∨
 (∃ b off cap cells fz, v = .slice (some ⟨b, off, none⟩) xs.length cap ∧ (∃ u, w.heap[b]? = some (aW cells u fz)) ∧ (cells.drop off).take (xs.length * k.sz) = k.cs xs)
inductive SeesSl {α : Type} (k : El α) (K : Hl) (L : List Asn) (v : Value) (xs : List α) : Prop where
 | own {z} : Hs (sl z k v xs) L → SeesSl k K L v xs
 | known : Ksl k K v xs → SeesSl k K L v xs
 | blk {b : Nat} {cells : List Value} {fz : Nat × Nat} {cap off : Nat} : Sees K L b (aW cells k.e fz) → v = .slice (some ⟨b, off, none⟩) xs.length cap → (cells.drop off).take (xs.length * k.sz) = k.cs xs → SeesSl k K L v xs
theorem In.slice {α : Type} {z : Bool} {k : El α} {w0 w : World} {F K : Hl} {v : Value} {xs : List α} {L : List Asn} (i : In w0 F K (sl z k v xs :: L) w) : SlAt k w v xs := by
 obtain ⟨h, ⟨a, l, ha, hl, hal, rfl⟩, d1, d2, d3, l1, l2, l3⟩ := i.rep;rcases ha with ⟨rfl, rfl, rfl⟩ | ⟨b, cap, junk, fz, rfl, hz, hc, hj, hf, rfl⟩
 ·exact .inl ⟨none, 0, rfl, rfl⟩
 ·refine .inr ⟨b, 0, cap, k.cs xs ++ junk, fz, rfl, ⟨k.e, l3 b _ (by simp [Hl.join, Hl.one])⟩, ?_⟩
  rw [List.drop_zero, ← k.cs_length, List.take_left]
theorem SeesSl.at {α : Type} {k : El α} {w0 w : World} {F K : Hl} {v : Value} {xs : List α} {L : List Asn} (h : SeesSl k K L v xs) (i : In w0 F K L w) : SlAt k w v xs := by
 cases h with
 | own f => obtain ⟨_, h1⟩ := f.split; exact (i.imp h1).slice
 | known h =>
  rcases h with h | ⟨b, off, cap, cells, fz, h1, h2, h3⟩
  ·exact .inl h
  ·obtain ⟨u, h2⟩ := h2; exact .inr ⟨b, off, cap, cells, fz, h1, ⟨u, i.known h2⟩, h3⟩
 | blk hs h2 h3 => exact .inr ⟨_, _, _, _, _, h2, ⟨_, hs.at i⟩, h3⟩
def fD (v : Value) (n : Nat) : Value :=
 match v with
 | .slice (some a) _ _ => .pointer (some (a.add n))
 | _ => undef
section
variable {E : Env} {fr : Fr} {K : Hl} {L L' : List Asn} {Q : Post} {dst : Option Tmp} {ty : TypeId} {pos : String} {aft : Array Edge} {g : Option (Nat × Bool)} {x y : Operand} {t s e sz i off b : Nat} {α : Type} {k : El α} {v : Value} {xs : List α}
theorem bM {ats : Array TypeId} {u : TypeId} (ha : ats[0]? = some t) (hu : E.P.underlying t = some (.slice u)) (hx : fr.ev x = some v) (hs : SeesSl k K L v xs) :
  Ev E fr K L ⟨dst, .call ⟨.builtin .len, #[x], ats⟩, ty, pos, aft, g⟩ (i64 xs.length) := fun a w f j => by
 have e : Array.map a.eval #[x] = #[v] := by simp [f.ev hx]
 simp only [execOp, resolve, e, bind, pure, Sem.bind, invoke, builtin];rcases hs.at j with ⟨a0, c, rfl, rfl⟩ | ⟨b, off, cap, cells, fz, rfl, ⟨u0, h2⟩, h3⟩ <;>
  simp [Builtin.len_, ha, underlying, program, bind, Sem.bind, pure, Sem.run, hu, goInt]
theorem jB {P : Program} {t e sz : Nat} (h : fP P t e sz = true) : ∃ inf, P.underlying t = some (.slice e) ∧ P.info? e = some inf ∧ inf.size = sz := by
 unfold fP at h;cases hu : P.underlying t with
 | none => simp [hu] at h
 | some d =>
  cases hi : P.info? e with
  | none => cases d <;> simp [hu, hi] at h
  | some i => cases d <;> simp [hu, hi] at h; obtain ⟨rfl, h2⟩ := h; exact ⟨i, rfl, rfl, h2⟩
theorem bD {j : Nat} {jv : Int} {kk : IntKind} (ht : fP E.P t k.e k.sz = true) (hx : fr.ev x = some v) (hs : SeesSl k K L v xs) (hy : fr.ev y = some (.int kk jv)) (hjv : jv = (j : Int)) (hj : j < xs.length) :
  Ev E fr K L ⟨dst, .indexAddr t x y, ty, pos, aft, g⟩ (fD v (j * k.sz)) := fun a w f i => by
 subst hjv;obtain ⟨inf, h1, h2, h3⟩ := jB ht;simp only [execOp, f.ev hx, f.ev hy];refine cP ?_;rcases hs.at i with ⟨a0, c, rfl, rfl⟩ | ⟨b, off, cap, cells, fz, rfl, ⟨u0, h4⟩, h5⟩
 ·simp at hj
 ·unfold Instr.indexAt;simp [asIntOf, underlying, program, bind, Sem.bind, pure, Sem.run, h1, hj, sizeOf, typeInfo, h2, h3, fD]
theorem kG {j o : Nat} {u : α} {c : Value} (ht : d7 E.P t = true) (hx : fr.ev x = some (fD v (j * k.sz))) (hs : SeesSl k K L v xs) (hj : xs[j]? = some u) (hc : k.enc u = [c]) :
  Ev E fr K L ⟨dst, .load t x, ty, pos, aft, g⟩ c := fun a w f i => by
 simp only [execOp, f.ev hx];refine cP ?_;have hjl : j < xs.length := by
  rcases Nat.lt_or_ge j xs.length with h' | h'
  ·exact h'
  ·simp [List.getElem?_eq_none h'] at hj
 rcases hs.at i with ⟨a0, c, rfl, rfl⟩ | ⟨b, off, cap, cells, fz, rfl, ⟨u0, h4⟩, h5⟩
 ·simp at hj
 ·obtain ⟨q1, q2⟩ := iJ ht w;have hat := k.cs_at hj (r := []);rw [List.append_nil, ← h5] at hat;have hsz : k.sz = 1 := by have := k.len u; simpa [hc] using this.symm
  show (loadVar t (Addr.add ⟨b, off, none⟩ (j * k.sz))).run E.P w = _
  rw [dP];unfold loadVar;rw [aL q1];refine lT h4 ?_;have := congrArg (·[0]?) hat;simp only [hc, List.getElem?_take, List.getElem?_drop, hsz] at this ⊢;simp at this ⊢
  simpa [hjl] using this
theorem cI {j n : Nat} {u : α} (ht : aggB E.P t k.sz = true) (hx : fr.ev x = some (fD v (j * k.sz))) (hs : SeesSl k K L v xs) (hj : xs[j]? = some u) :
  Ev E fr K L ⟨dst, .load t x, ty, pos, aft, g⟩ (.agg (k.enc u).toArray) := fun a w f i => by
 simp only [execOp, f.ev hx];refine cP ?_;have hjl : j < xs.length := by
  rcases Nat.lt_or_ge j xs.length with h' | h'
  ·exact h'
  ·simp [List.getElem?_eq_none h'] at hj
 rcases hs.at i with ⟨a0, c, rfl, rfl⟩ | ⟨b, off, cap, cells, fz, rfl, ⟨u0, h4⟩, h5⟩
 ·simp at hj
 ·obtain ⟨h1, h2⟩ := qG ht w;have hat := k.cs_at hj (r := []);rw [List.append_nil, ← h5] at hat
  show (loadVar t (Addr.add ⟨b, off, none⟩ (j * k.sz))).run E.P w = _
  rw [dP];unfold loadVar;rw [aL h1];simp only [if_true];rw [aL h2];have hle : (j + 1) * k.sz ≤ xs.length * k.sz := Nat.mul_le_mul_right _ hjl;rw [Nat.succ_mul] at hle;have hcells : (cells.drop (off + j * k.sz + 0)).take k.sz = k.enc u := by
   rw [← hat, Nat.add_zero, ← List.drop_drop, List.drop_take, List.take_take]
   congr 1
   omega
  have := e7 (P := E.P) h4 k.sz (k.enc u) (off + j * k.sz) 0 [] hcells (k.len u);simp only [List.nil_append] at this;unfold loadCells;rw [aL this]; rfl
end
end Go.SL
end
section
namespace Go.SL
def fW (ops : Array Oper) (a' a : Act) : Prop := a'.defers = a.defers ∧ a'.tmps.size = a.tmps.size ∧ ∀ k, (∀ o ∈ ops.toList, o.dst ≠ some k) → a'.tmps[k]? = a.tmps[k]?
theorem fW.refl (ops : Array Oper) (a : Act) : fW ops a a := ⟨rfl, rfl, fun _ _ => rfl⟩
theorem fW.trans {ops : Array Oper} {a b c : Act} (h : fW ops a b) (k : fW ops b c) : fW ops a c := ⟨h.1.trans k.1, h.2.1.trans k.2.1, fun i hi => (h.2.2 i hi).trans (k.2.2 i hi)⟩
theorem fW.symm {ops : Array Oper} {a b : Act} (h : fW ops a b) : fW ops b a := ⟨h.1.symm, h.2.1.symm, fun i hi => (h.2.2 i hi).symm⟩
theorem fW.put {ops : Array Oper} {i : Nat} {o : Oper} (h : ops[i]? = some o) (a : Act) (v : Value) : fW ops (a.put o.dst v) a := by
 have hm : o ∈ ops.toList := by simpa using Array.mem_of_getElem? h
 cases hd : o.dst with
 | none => exact fW.refl _ _
 | some d =>
  refine ⟨rfl, by simp [Act.put], fun k hk => ?_⟩
  have hne : d ≠ k := fun e => hk o hm (by rw [hd, e])
  simp only [Act.put];rw [Array.getElem?_setIfInBounds_ne hne]
def Eff (P : Program) (ops : Array Oper) (o : Oper) (a : Act) (w : World) (Q : Post) (next : Value → World → Prop) : Prop :=
 (∃ u w', (execOp a.eval o).run P w = .ok (.value u) w' ∧ next u w') ∨ (∃ w', (execOp a.eval o).run P w = .ok .skip w' ∧ next undef w') ∨
 (∃ f args w1, (execOp a.eval o).run P w = .ok (.enter f args) w1 ∧ Calls P f args w1 fun e w' => match e with
  | .returned u => next u w'
  | .panicked ch => ∀ a', fW ops a' a → Q (.panic ch) a' w'
  | .outgrown => LetsOut Q)
theorem Eff.mono {P : Program} {ops : Array Oper} {o : Oper} {a : Act} {w : World} {Q : Post} {n n' : Value → World → Prop} (h : Eff P ops o a w Q n) (k : ∀ u w', n u w' → n' u w') : Eff P ops o a w Q n' := by
 rcases h with ⟨u, w', h, hn⟩ | ⟨w', h, hn⟩ | ⟨f, args, w1, h, hc⟩
 ·exact .inl ⟨u, w', h, k _ _ hn⟩
 ·exact .inr (.inl ⟨w', h, k _ _ hn⟩)
 ·exact .inr (.inr ⟨f, args, w1, h, hc.mono fun e w' q => by cases e <;> first | exact k _ _ q | exact q⟩)
theorem Eff.congr {P : Program} {ops : Array Oper} {o : Oper} {a a' : Act} {w : World} {Q : Post} {n : Value → World → Prop} (h : Eff P ops o a w Q n) (he : execOp a'.eval o = execOp a.eval o) (hd : fW ops a' a) : Eff P ops o a' w Q n := by
 unfold Eff at *;rw [he];rcases h with h | h | ⟨f, args, w1, h, hc⟩
 ·exact .inl h
 ·exact .inr (.inl h)
 ·exact .inr (.inr ⟨f, args, w1, h, hc.mono fun e w' q => by
   cases e with
   | returned u => exact q
   | panicked ch => exact fun a'' ha => q a'' (ha.trans hd)
   | outgrown => exact q⟩)
theorem Eff.wp {P : Program} {ops : Array Oper} {o : Oper} {a : Act} {w : World} {Q : Post} {n : Value → World → Prop} {K : Act → World → Prop} (h : Eff P ops o a w Q n) (k : ∀ u w', n u w' → K (a.put o.dst u) w') : o.wp P a w K Q := by
 unfold Oper.wp;rcases h with ⟨u, w', h, hn⟩ | ⟨w', h, hn⟩ | ⟨f, args, w1, h, hc⟩
 ·rw [h]; exact k _ _ hn
 ·rw [h]; exact k _ _ hn
 ·rw [h];refine hc.mono fun e w' q => ?_
  cases e with
  | returned u => exact k _ _ q
  | panicked ch => exact q _ (fW.refl _ _)
  | outgrown => exact q
def DX (E : Env) (ops : Array Oper) (eff stg : List Nat) (Q : Post) : List Nat → List Asn → Hl → List Asn → Act → Prop
 | [], S, K, M, a => ∀ w, In E.w0 E.F K (S ++ M) w → Q .normal a w
 | i :: r, S, K, M, a =>
  match ops[i]? with
  | none => False
  | some o =>
   if Region.wanted o (yielded ops a.tmps) then
    if stg.contains i then
     ∀ w, In E.w0 E.F K (S ++ M) w → Eff E.P ops o a w Q fun u w' => ∃ K' S' M', K.le K' ∧ In E.w0 E.F K' (S' ++ M') w' ∧ DX E ops eff stg Q r S' K' M' (a.put o.dst u)
    else if eff.contains i then
     ∀ w, In E.w0 E.F K (S ++ M) w → Eff E.P ops o a w Q fun u w' => ∃ K' M', K.le K' ∧ In E.w0 E.F K' (S ++ M') w' ∧ DX E ops eff stg Q r S K' M' (a.put o.dst u)
    else ∃ v, (∀ K' M' w, K.le K' → In E.w0 E.F K' (S ++ M') w → (execOp a.eval o).run E.P w = .ok (.value v) w) ∧ DX E ops eff stg Q r S K M (a.put o.dst v)
   else DX E ops eff stg Q r S K M (a.put o.dst undef)
def iG (o : Oper) : Bool := match o.op with | .select _ _ => false | _ => true
theorem gL {o : Oper} (h : iG o = true) : ∀ cs b, o.op ≠ .select cs b := by
 intro cs b e; simp [iG, e] at h
theorem jZ (a : Act) (x : Option Tmp) (v : Value) : (a.put x v).defers = a.defers := by cases x <;> rfl
theorem qQ {E : Env} {ops : Array Oper} {eff stg : List Nat} {S : List Asn} {Q : Post} {x i : Nat} {r : List Nat} {K : Hl} {M : List Asn} {a : Act} {ox oi : Oper}
  (hx : ops[x]? = some ox) (hi : ops[i]? = some oi) (hap : ox.apart ops oi = true) (hsx : iG ox = true) (hsi : iG oi = true) (hne : eff.contains x = false) (hnx : stg.contains x = false) (hni : stg.contains i = false)
  (h : DX E ops eff stg Q (x :: i :: r) S K M a) : DX E ops eff stg Q (i :: x :: r) S K M a := by
 obtain ⟨h1, h2, h3⟩ := Oper.apart_spec hap;have sx := gL hsx;have si := gL hsi;have goX : ∀ (v u : Value), ((a.put ox.dst v).put oi.dst u) = ((a.put oi.dst u).put ox.dst v) := fun v u => Act.put_comm a v u h2
 have wx : ∀ (u : Value), Region.wanted ox (yielded ops (a.put oi.dst u).tmps) = Region.wanted ox (yielded ops a.tmps) := fun u => wanted_put ox a oi.dst u h3
 have wi : ∀ (u : Value), Region.wanted oi (yielded ops (a.put ox.dst u).tmps) = Region.wanted oi (yielded ops a.tmps) := fun u => wanted_put oi a ox.dst u h1
 have ex : ∀ (u : Value), execOp (a.put oi.dst u).eval ox = execOp a.eval ox := fun u => execOp_put ox sx a oi.dst u h3
 have ei : ∀ (u : Value), execOp (a.put ox.dst u).eval oi = execOp a.eval oi := fun u => execOp_put oi si a ox.dst u h1
 simp only [DX, hx, hi, hne, hnx, hni, Bool.false_eq_true, if_false] at h ⊢
 by_cases cx : Region.wanted ox (yielded ops a.tmps) = true
 ·simp only [cx, if_true] at h;obtain ⟨v, hv, h⟩ := h;rw [wi v] at h;have back : ∀ (u : Value) (K' : Hl) (M' : List Asn), K.le K' → DX E ops eff stg Q r S K' M' ((a.put ox.dst v).put oi.dst u) →
    (if Region.wanted ox (yielded ops (a.put oi.dst u).tmps) = true then
     ∃ v, (∀ K'' M'' w, K'.le K'' → In E.w0 E.F K'' (S ++ M'') w → (execOp (a.put oi.dst u).eval ox).run E.P w = .ok (.value v) w) ∧ DX E ops eff stg Q r S K' M' ((a.put oi.dst u).put ox.dst v)
     else DX E ops eff stg Q r S K' M' ((a.put oi.dst u).put ox.dst undef)) := by
   intro u K' M' le hr;rw [wx u, if_pos cx];refine ⟨v, fun K'' M'' w le' j => ?_, ?_⟩
   ·rw [ex u]; exact hv K'' M'' w (Hl.le_trans le le') j
   ·rw [← goX]; exact hr
  by_cases ci : Region.wanted oi (yielded ops a.tmps) = true
  ·simp only [ci, if_true] at h ⊢
   by_cases ce : eff.contains i = true
   ·simp only [ce, if_true] at h ⊢;intro w j;refine ((h w j).congr (ei v).symm (fW.put hx a v).symm).mono fun u w' ⟨K', M', le, j', hr⟩ => ⟨K', M', le, j', back u K' M' le hr⟩
   ·simp only [ce, Bool.false_eq_true, if_false] at h ⊢;obtain ⟨u, hu, hr⟩ := h;refine ⟨u, fun K' M' w le j => ?_, back u K M (Hl.le_refl _) hr⟩
    have := hu K' M' w le j
    rwa [ei v] at this
  ·simp only [ci, if_false, Bool.false_eq_true] at h ⊢;exact back undef K M (Hl.le_refl _) h
 ·simp only [cx, if_false, Bool.false_eq_true] at h;rw [wi undef] at h;have back : ∀ (u : Value) (K' : Hl) (M' : List Asn), K.le K' → DX E ops eff stg Q r S K' M' ((a.put ox.dst undef).put oi.dst u) →
    (if Region.wanted ox (yielded ops (a.put oi.dst u).tmps) = true then
     ∃ v, (∀ K'' M'' w, K'.le K'' → In E.w0 E.F K'' (S ++ M'') w → (execOp (a.put oi.dst u).eval ox).run E.P w = .ok (.value v) w) ∧ DX E ops eff stg Q r S K' M' ((a.put oi.dst u).put ox.dst v)
     else DX E ops eff stg Q r S K' M' ((a.put oi.dst u).put ox.dst undef)) := by
   intro u K' M' le hr;rw [wx u, if_neg cx, ← goX]; exact hr
  by_cases ci : Region.wanted oi (yielded ops a.tmps) = true
  ·simp only [ci, if_true] at h ⊢
   by_cases ce : eff.contains i = true
   ·simp only [ce, if_true] at h ⊢;intro w j;refine ((h w j).congr (ei undef).symm (fW.put hx a undef).symm).mono fun u w' ⟨K', M', le, j', hr⟩ => ⟨K', M', le, j', back u K' M' le hr⟩
   ·simp only [ce, Bool.false_eq_true, if_false] at h ⊢;obtain ⟨u, hu, hr⟩ := h;refine ⟨u, fun K' M' w le j => ?_, back u K M (Hl.le_refl _) hr⟩
    have := hu K' M' w le j
    rwa [ei undef] at this
  ·simp only [ci, if_false, Bool.false_eq_true] at h ⊢;exact back undef K M (Hl.le_refl _) h
def j4 (ops : Array Oper) (eff stg : List Nat) (x i : Nat) : Bool :=
 match ops[x]?, ops[i]? with
 | some ox, some oi => !stg.contains x && !stg.contains i && !eff.contains x && ox.apart ops oi && iG ox && iG oi
 | _, _ => false
theorem iS {E : Env} {ops : Array Oper} {eff stg : List Nat} {S : List Asn} {Q : Post} {x : Nat} {r r' : List Nat} (k : ∀ S K M a, DX E ops eff stg Q r S K M a → DX E ops eff stg Q r' S K M a) {K : Hl} {M : List Asn} {a : Act}
  (h : DX E ops eff stg Q (x :: r) S K M a) : DX E ops eff stg Q (x :: r') S K M a := by
 unfold DX at h ⊢;cases hx : ops[x]? with
 | none => simp [hx] at h
 | some o =>
  simp only [hx] at h ⊢;split
  ·rename_i c;rw [if_pos c] at h;split
   ·rename_i c0;rw [if_pos c0] at h;exact fun w j => (h w j).mono fun u w' ⟨K', S', M', le, j', hr⟩ => ⟨K', S', M', le, j', k _ _ _ _ hr⟩
   ·rename_i c0;rw [if_neg c0] at h;split
    ·rename_i c';rw [if_pos c'] at h;exact fun w j => (h w j).mono fun u w' ⟨K', M', le, j', hr⟩ => ⟨K', M', le, j', k _ _ _ _ hr⟩
    ·rename_i c';rw [if_neg c'] at h;obtain ⟨v, hv, hr⟩ := h;exact ⟨v, hv, k _ _ _ _ hr⟩
  ·rename_i c;rw [if_neg c] at h;exact k _ _ _ _ h
theorem jR {E : Env} {ops : Array Oper} {eff stg : List Nat} {Q : Post} {i : Nat} {r2 : List Nat} : ∀ (r1 : List Nat) {S : List Asn} {K : Hl} {M : List Asn} {a : Act},
  (∀ x ∈ r1, j4 ops eff stg x i = true) → DX E ops eff stg Q (r1 ++ i :: r2) S K M a → DX E ops eff stg Q (i :: (r1 ++ r2)) S K M a
 | [], _, _, _, _, _, h => h
 | x :: r1, S, K, M, a, hs, h => by
  have h1 : DX E ops eff stg Q (x :: i :: (r1 ++ r2)) S K M a := iS (fun _ _ _ _ => jR r1 fun y hy => hs y (List.mem_cons_of_mem _ hy)) h;have hb := hs x (List.mem_cons_self ..);unfold j4 at hb;cases hx : ops[x]? with
  | none => simp [hx] at hb
  | some ox =>
   cases hi : ops[i]? with
   | none => simp [hx, hi] at hb
   | some oi =>
    simp only [hx, hi, Bool.and_eq_true, Bool.not_eq_true'] at hb;exact qQ hx hi hb.1.1.2 hb.1.2 hb.2 hb.1.1.1.2 hb.1.1.1.1.1 hb.1.1.1.1.2 h1
def upto (anc : List Nat) : List Edge → Nat
 | [] => 0
 | e :: es => if Region.binds .any e then (2 ^ e.on ||| anc.getD e.on 0) ||| upto anc es else upto anc es
def hZ (anc : List Nat) : List Oper → Nat → Bool
 | [], _ => true
 | o :: os, i => (o.after.toList.all fun e => !Region.binds .any e || Nat.blt e.on i) && ((anc.getD i 0 ||| upto anc o.after.toList) == upto anc o.after.toList) && hZ anc os (i + 1)
def pwB (ops : Array Oper) (eff stg anc : List Nat) : List Nat → Bool
 | [] => true
 | x :: r => (r.all fun i => (anc.getD i 0).testBit x || j4 ops eff stg x i) && !r.contains x && pwB ops eff stg anc r
def oO (l : List Oper) (eff stg anc ord : List Nat) : Bool :=
 hZ anc l 0 && pwB l.toArray eff stg anc ord && (List.range l.length).all ord.contains && ord.all (Nat.blt · l.length) && Nat.beq ord.length l.length
theorem gU {anc : List Nat} {x : Nat} : ∀ {es : List Edge}, (upto anc es).testBit x = true → ∃ e ∈ es, Region.binds .any e = true ∧ (x = e.on ∨ (anc.getD e.on 0).testBit x = true)
 | [], h => by simp [upto] at h
 | e :: es, h => by
  unfold upto at h;split at h
  ·rename_i hb;rw [Nat.testBit_or, Nat.testBit_or] at h;simp only [Bool.or_eq_true, Nat.testBit_two_pow, decide_eq_true_eq] at h;rcases h with (h | h) | h
   ·exact ⟨e, List.mem_cons_self .., hb, .inl h.symm⟩
   ·exact ⟨e, List.mem_cons_self .., hb, .inr h⟩
   ·obtain ⟨e', he, h'⟩ := gU h;exact ⟨e', List.mem_cons_of_mem _ he, h'⟩
  ·obtain ⟨e', he, h'⟩ := gU h;exact ⟨e', List.mem_cons_of_mem _ he, h'⟩
theorem gD {anc : List Nat} : ∀ {os : List Oper} {j : Nat}, hZ anc os j = true → ∀ {i : Nat} {o : Oper}, os[i]? = some o →
  (∀ e ∈ o.after.toList, Region.binds .any e = true → e.on < j + i) ∧ ∀ x, (anc.getD (j + i) 0).testBit x = true → (upto anc o.after.toList).testBit x = true
 | [], _, _, _, _, h => by simp at h
 | o :: os, j, h, i, o', ho => by
  simp only [hZ, Bool.and_eq_true, List.all_eq_true, Bool.or_eq_true, Bool.not_eq_true', beq_iff_eq] at h;obtain ⟨⟨h1, h2⟩, h3⟩ := h;cases i with
  | zero =>
   simp at ho; subst ho
   refine ⟨fun e he hb => ?_, fun x hx => ?_⟩
   ·rcases h1 e he with q | q
    ·rw [hb] at q; cases q
    ·simp [Nat.blt] at q; omega
   ·rw [← h2, Nat.testBit_or]; simp only [Nat.add_zero] at hx; rw [hx]; rfl
  | succ i =>
   have := gD (j := j + 1) h3 (i := i) (o := o') (by simpa using ho);have e : j + (i + 1) = j + 1 + i := by omega
   rw [e]; exact this
def Down (ops : Array Oper) (listed : Array Bool) : Prop :=
 ∀ (i : Nat) (o : Oper), listed.getD i true = true → ops[i]? = some o → ∀ e ∈ o.after.toList, Region.binds .any e = true → listed.getD e.on false = true
theorem fS {ops : Array Oper} {listed : Array Bool} {i : Nat} : i ∈ Region.ready .any ops listed ↔
  i < ops.size ∧ listed.getD i true = false ∧ ∃ o, ops[i]? = some o ∧ ∀ e ∈ o.after.toList, Region.binds .any e = true → listed.getD e.on false = true := by
 unfold Region.ready;simp only [List.mem_filter, List.mem_range, Bool.and_eq_true, Bool.not_eq_true']
 constructor
 ·rintro ⟨h1, h2, h3⟩;refine ⟨h1, h2, ?_⟩
  cases ho : ops[i]? with
  | none => simp [ho] at h3
  | some o =>
   refine ⟨o, rfl, fun e he hb => ?_⟩
   simp only [ho, Option.map_some, Option.getD_some, Array.all_eq_true_iff_forall_mem] at h3;have := h3 e (by simpa using he)
   simpa [hb] using this
 ·rintro ⟨h1, h2, o, ho, h3⟩;refine ⟨h1, h2, ?_⟩
  simp only [ho, Option.map_some, Option.getD_some, Array.all_eq_true_iff_forall_mem];intro e he
  by_cases hb : Region.binds .any e = true
  ·simp [hb, h3 e (by simpa using he) hb]
  ·simp [hb]
theorem kZ {l : List Oper} {anc : List Nat} (hA : hZ anc l 0 = true) {listed : Array Bool} (hsz : listed.size = l.length) (hd : Down l.toArray listed) {i : Nat} {o : Oper} (ho : l[i]? = some o)
  (hr : ∀ e ∈ o.after.toList, Region.binds .any e = true → listed.getD e.on false = true) {x : Nat} (hx : (anc.getD i 0).testBit x = true) : listed.getD x false = true := by
 have key : ∀ (n i : Nat) (o : Oper), i = n → l[i]? = some o → (∀ e ∈ o.after.toList, Region.binds .any e = true → listed.getD e.on false = true) → (anc.getD i 0).testBit x = true → listed.getD x false = true := by
  intro n;induction n using Nat.strongRecOn with
  | _ n ih =>
   rintro i o rfl ho hr hx;obtain ⟨h1, h2⟩ := gD hA ho;simp only [Nat.zero_add] at h1 h2;obtain ⟨e, he, hb, hxe⟩ := gU (h2 x hx);rcases hxe with rfl | hxe
   ·exact hr e he hb
   ·have hlt := h1 e he hb;have hil : i < l.length := by
     rcases Nat.lt_or_ge i l.length with h | h
     ·exact h
     ·simp [List.getElem?_eq_none h] at ho
    have hel : l[e.on]? = some l[e.on] := by simp [List.getElem?_eq_getElem (Nat.lt_trans hlt hil)]
    have hle := hr e he hb;refine ih e.on hlt e.on l[e.on] rfl hel ?_ hxe
    refine hd e.on l[e.on] ?_ (by simp [Array.getElem?_eq_getElem, Nat.lt_trans hlt hil])
    rw [Array.getD_eq_getD_getElem?] at hle ⊢;have : e.on < listed.size := by rw [hsz]; exact Nat.lt_trans hlt hil
    simpa [Array.getElem?_eq_getElem this] using hle
 exact key i i o rfl ho hr hx
theorem iI {ops : Array Oper} {eff stg anc : List Nat} : ∀ {r : List Nat}, pwB ops eff stg anc r = true → r.Nodup ∧ ∀ (r1 : List Nat) (i : Nat) (r2 : List Nat), r = r1 ++ i :: r2 → ∀ x ∈ r1, (anc.getD i 0).testBit x = true ∨ j4 ops eff stg x i = true
 | [], _ => ⟨List.nodup_nil, fun r1 i r2 e => by simp at e⟩
 | y :: r, h => by
  simp only [pwB, Bool.and_eq_true, List.all_eq_true, Bool.or_eq_true, Bool.not_eq_true'] at h;obtain ⟨⟨h1, h2⟩, h3⟩ := h;obtain ⟨n, q⟩ := iI h3;refine ⟨List.nodup_cons.2 ⟨by simpa using h2, n⟩, ?_⟩
  intro r1 i r2 e x hx;cases r1 with
  | nil => simp at hx
  | cons z r1 =>
   simp only [List.cons_append, List.cons.injEq] at e;obtain ⟨rfl, rfl⟩ := e;rcases List.mem_cons.1 hx with rfl | hx
   ·exact h1 i (by simp)
   ·exact q r1 i r2 rfl x hx
theorem gN {ops : Array Oper} {eff stg anc : List Nat} (p : Nat → Bool) : ∀ {r : List Nat}, pwB ops eff stg anc r = true → pwB ops eff stg anc (r.filter p) = true
 | [], _ => rfl
 | y :: r, h => by
  simp only [pwB, Bool.and_eq_true, List.all_eq_true, Bool.or_eq_true, Bool.not_eq_true'] at h;obtain ⟨⟨h1, h2⟩, h3⟩ := h;have ih := gN p h3;simp only [List.filter_cons];split
  ·simp only [pwB, Bool.and_eq_true, List.all_eq_true, Bool.or_eq_true, Bool.not_eq_true', ih, and_true];refine ⟨fun i hi => h1 i (List.mem_filter.1 hi).1, ?_⟩
   simp at h2 ⊢;exact fun h => absurd h h2
  ·exact ih
theorem tK {E : Env} {l : List Oper} {eff stg anc ord : List Nat} {Q : Post} (hA : hZ anc l 0 = true) (hP : pwB l.toArray eff stg anc ord = true) (hcov : ∀ i, i < l.length → i ∈ ord) (hin : ∀ i ∈ ord, i < l.length) :
  ∀ (fuel : Nat) (listed : Array Bool) (r : List Nat) (S : List Asn) (K : Hl) (M : List Asn) (a : Act) (w : World), listed.size = l.length → r = ord.filter (fun i => !listed.getD i true) → fuel = r.length → Down l.toArray listed →
   DX E l.toArray eff stg Q r S K M a → In E.w0 E.F K (S ++ M) w → wpAny E.P .any l.toArray Q fuel listed a w := by
 intro fuel;induction fuel with
 | zero =>
  intro listed r S K M a w hsz hr hf hd h j;have hr0 : r = [] := List.length_eq_zero_iff.1 hf.symm;subst hr0;have hall : ∀ i, i < l.length → listed.getD i true = true := by
   intro i hi;cases hb : listed.getD i true with
   | true => rfl
   | false =>
    have : i ∈ ord.filter (fun i => !listed.getD i true) := List.mem_filter.2 ⟨hcov i hi, by rw [hb]; rfl⟩;rw [← hr] at this; simp at this
  refine ⟨?_, h w j⟩
  refine List.eq_nil_iff_forall_not_mem.2 fun i hi => ?_
  obtain ⟨h1, h2, _⟩ := fS.1 hi;rw [hall i (by simpa using h1)] at h2; cases h2
 | succ fuel ih =>
  intro listed r S K M a w hsz hr hf hd h j;have hne : r ≠ [] := by rintro rfl; simp at hf
  refine ⟨fun h0 => ?_, fun i hi => ?_⟩
  ·
   exfalso
   have key : ∀ (n i : Nat), i = n → i < l.length → listed.getD i true = false → False := by
    intro n;induction n using Nat.strongRecOn with
    | _ n ihn =>
     rintro i rfl hil hb;have hi : i ∈ Region.ready .any l.toArray listed := by
      refine fS.2 ⟨by simpa using hil, hb, l[i], by simp [List.getElem?_eq_getElem hil], fun e he hbd => ?_⟩
      have hlt := (gD hA (i := i) (o := l[i]) (by simp [List.getElem?_eq_getElem hil])).1 e he hbd;simp only [Nat.zero_add] at hlt;have hel : e.on < listed.size := by rw [hsz]; exact Nat.lt_trans hlt hil
      cases hc : listed.getD e.on true with
      | false => exact absurd hc (fun hc => ihn e.on hlt e.on rfl (Nat.lt_trans hlt hil) hc)
      | true =>
       rw [Array.getD_eq_getD_getElem?] at hc ⊢
       simpa [Array.getElem?_eq_getElem hel] using hc
     rw [h0] at hi; simp at hi
   obtain ⟨i, hi⟩ := List.exists_mem_of_ne_nil r hne;rw [hr] at hi;obtain ⟨h1, h2⟩ := List.mem_filter.1 hi;exact key i i rfl (hin i h1) (by simpa using h2)
  ·obtain ⟨h1, h2, o, ho, h3⟩ := fS.1 hi;have hil : i < l.length := by simpa using h1
   have hol : l[i]? = some o := by simpa using ho
   have hmem : i ∈ r := by rw [hr]; exact List.mem_filter.2 ⟨hcov i hil, by rw [h2]; rfl⟩
   obtain ⟨r1, r2, hsplit⟩ := List.append_of_mem hmem;have hPr : pwB l.toArray eff stg anc r = true := by rw [hr]; exact gN _ hP
   obtain ⟨hnd, hq⟩ := iI hPr;have hsw : ∀ x ∈ r1, j4 l.toArray eff stg x i = true := by
    intro x hx;rcases hq r1 i r2 hsplit x hx with hb | hb
    ·exfalso
     have hxl := kZ hA hsz hd hol h3 hb;have hxr : x ∈ r := by rw [hsplit]; simp [hx]
     rw [hr] at hxr;obtain ⟨hxo, hxn⟩ := List.mem_filter.1 hxr;have hxs : x < listed.size := by rw [hsz]; exact hin x hxo
     rw [Array.getD_eq_getD_getElem?] at hxl;simp [Array.getElem?_eq_getElem hxs] at hxl hxn;rw [hxl] at hxn; cases hxn
    ·exact hb
   rw [hsplit] at h;have hfront := jR r1 hsw h;have his : i < listed.size := by rw [hsz]; exact hil
   have hr' : r1 ++ r2 = ord.filter (fun k => !(listed.setIfInBounds i true).getD k true) := by
    have hset : ∀ k, (listed.setIfInBounds i true).getD k true = (if k = i then true else listed.getD k true) := by
     intro k;rw [Array.getD_eq_getD_getElem?, Array.getD_eq_getD_getElem?, Array.getElem?_setIfInBounds]
     by_cases hk : i = k
     ·subst hk; simp [his]
     ·simp [hk, Ne.symm hk]
    have e1 : ord.filter (fun k => !(listed.setIfInBounds i true).getD k true) = r.filter (fun k => k != i) := by
     rw [hr, List.filter_filter];refine List.filter_congr fun k _ => ?_
     rw [hset k]
     by_cases hk : k = i
     ·subst hk; simp
     ·simp [hk]
    rw [e1, hsplit, List.filter_append, List.filter_cons];rw [hsplit] at hnd;have hn := List.nodup_append.1 hnd;have hn2 := List.nodup_cons.1 hn.2.1;simp only [bne_self_eq_false, Bool.false_eq_true, if_false];rw [List.filter_eq_self.2, List.filter_eq_self.2]
    ·intro k hk; simp only [bne_iff_ne]; rintro rfl; exact hn2.1 hk
    ·intro k hk; simp only [bne_iff_ne]; rintro rfl; exact hn.2.2 k hk k (List.mem_cons_self ..) rfl
   have hd' : Down l.toArray (listed.setIfInBounds i true) := by
    intro k ok hk hok e he hb;have up : listed.getD e.on false = true → (listed.setIfInBounds i true).getD e.on false = true := by
     intro q;rw [Array.getD_eq_getD_getElem?] at q ⊢;rw [Array.getElem?_setIfInBounds]
     by_cases hk : i = e.on
     ·subst hk; simp [his]
     ·simpa [hk] using q
    by_cases hki : k = i
    ·subst hki;rw [ho] at hok; cases hok
     exact up (h3 e he hb)
    ·refine up (hd k ok ?_ hok e he hb)
     rw [Array.getD_eq_getD_getElem?] at hk ⊢;rw [Array.getElem?_setIfInBounds, if_neg (Ne.symm hki)] at hk;exact hk
   have hlen : fuel = (r1 ++ r2).length := by
    have := congrArg List.length hsplit;simp at this hf ⊢; omega
   have step : ∀ S' K' M' a' w', DX E l.toArray eff stg Q (r1 ++ r2) S' K' M' a' → In E.w0 E.F K' (S' ++ M') w' → wpAny E.P .any l.toArray Q fuel (listed.setIfInBounds i true) a' w' :=
    fun S' K' M' a' w' hdx j' => ih _ (r1 ++ r2) S' K' M' a' w' (by simp [hsz]) hr' hlen hd' hdx j'
   unfold wpOp;simp only [ho];unfold DX at hfront;simp only [ho] at hfront
   by_cases hw : Region.wanted o (yielded l.toArray a.tmps) = true
   ·simp only [hw, if_true] at hfront ⊢
    by_cases hg : stg.contains i = true
    ·simp only [hg, if_true] at hfront;exact .inl ((hfront w j).wp fun u w' ⟨K', S', M', le, j', hr⟩ => step S' K' M' _ w' hr j')
    simp only [hg, if_false, Bool.false_eq_true] at hfront
    by_cases he : eff.contains i = true
    ·simp only [he, if_true] at hfront;exact .inl ((hfront w j).wp fun u w' ⟨K', M', le, j', hr⟩ => step S K' M' _ w' hr j')
    ·simp only [he, if_false, Bool.false_eq_true] at hfront;obtain ⟨v, hv, hr⟩ := hfront;refine .inl ?_;unfold Oper.wp;rw [hv K M w (Hl.le_refl _) j];exact step S K M _ w hr j
   ·simp only [hw, if_false, Bool.false_eq_true] at hfront ⊢;exact step S K M _ w hfront j
theorem k5 {E : Env} {l : List Oper} {eff stg anc ord : List Nat} {S M : List Asn} {Q : Post} {id : Nat} {K : Hl} {a : Act} {w : World} (hm : E.P.follows .mixedOrders = true) (hok : oO l eff stg anc ord = true)
  (h : DX E l.toArray eff stg Q ord S K M a) (j : In E.w0 E.F K (S ++ M) w) : (Code.region id l.toArray true).wp E.P Q a w := by
 simp only [oO, Bool.and_eq_true, List.all_eq_true] at hok;obtain ⟨⟨⟨⟨hA, hP⟩, hcov⟩, hin⟩, hle⟩ := hok;refine wp_region_any hm ?_;have hfil : ord.filter (fun i => !(Array.replicate l.toArray.size false).getD i true) = ord := by
  refine List.filter_eq_self.2 fun i hi => ?_
  have : i < l.length := by have := hin i hi; simp [Nat.blt] at this; omega
  rw [Array.getD_eq_getD_getElem?];simp [this]
 have hlen : ord.length = l.toArray.size := by simpa using Nat.eq_of_beq_eq_true hle
 refine tK (E := E) (eff := eff) (stg := stg) (anc := anc) (ord := ord) hA hP (fun i hi => by have := hcov i (List.mem_range.2 hi); simpa using this) (fun i hi => by have := hin i hi; simp [Nat.blt] at this; omega) l.toArray.size _ ord S K M a _ (by simp) hfil.symm hlen.symm ?_ h (j.drew _)
 intro k ok hk hok;rw [Array.getD_eq_getD_getElem?] at hk;have : k < l.toArray.size := by
  rcases Nat.lt_or_ge k l.toArray.size with h | h
  ·exact h
  ·rw [Array.getElem?_eq_none h] at hok; cases hok
 simp at this;simp [this] at hk
theorem In.weaken {w0 w : World} {F K K' : Hl} {L : List Asn} (le : K.le K') (i : In w0 F K' L w) : In w0 F K L w := by
 obtain ⟨h, hs, d1, d2, d3, l1, l2, l3⟩ := i.rep;have sub : ∀ x, K' x = none → K x = none := by
  intro x hx;cases e : K x with
  | none => rfl
  | some o => rw [le x o e] at hx; cases hx
 exact ⟨i.os, i.tape, i.output, i.size, h, hs, fun x => (d1 x).imp_right (sub x), d2, fun x => (d3 x).imp_left (sub x), l1, Hl.le_trans le l2, l3⟩
theorem In.left {w0 w : World} {F K : Hl} {S M : List Asn} (i : In w0 F K (S ++ M) w) : In w0 F K S w := by
 obtain ⟨h, hs, d1, d2, d3, l1, l2, l3⟩ := i.rep;obtain ⟨a, n, ha, hn, han, rfl⟩ := eF.1 hs;exact ⟨i.os, i.tape, i.output, i.size, a, ha, d1, (Hl.dj_join.1 d2).1, (Hl.dj_join.1 d3).1, l1, l2, Hl.le_join_left l3⟩
theorem bF {E : Env} {x : Exit} {fr : Fr} {K : Hl} {As L M : List Asn} {Q : Post} (hL : Tks As L M) (h : D E x fr K As Q) : D E x fr K L Q := fun a w f i => h a w f (i.imp hL.sat).left
theorem wB {E : Env} {c : Code} {fr : Fr} {K : Hl} {As L M : List Asn} {Q : Post} (hL : Tks As L M) (h : T E c fr K As Q) : T E c fr K L Q := fun a w f i => h a w f (i.imp hL.sat).left
def DL (E : Env) (ops : Array Oper) (eff stg : List Nat) (S : List Asn) (r : List Nat) (fr : Fr) (K : Hl) (M : List Asn) (Q : Post) : Prop :=
 ∀ a, FrOk E.n E.ds fr a → DX E ops eff stg Q r S K M a
inductive GOk (ops : Array Oper) (fr : Fr) (o : Oper) : Bool → Prop where
 | none : o.guard = .none → GOk ops fr o true
 | on {g dg : Nat} {c : Bool} : o.guard = some (g, c) → (ops[g]?).bind (·.dst) = some dg → fr.get dg = some (.bool c) → GOk ops fr o true
 | off {g dg : Nat} {c : Bool} : o.guard = some (g, c) → (ops[g]?).bind (·.dst) = some dg → fr.get dg = some (.bool (!c)) → GOk ops fr o false
 | offu {g dg : Nat} {c : Bool} : o.guard = some (g, c) → (ops[g]?).bind (·.dst) = some dg → fr.get dg = some undef → GOk ops fr o false
theorem GOk.wanted {ops : Array Oper} {fr : Fr} {o : Oper} {b : Bool} (h : GOk ops fr o b) {n : Nat} {ds : List Deferred} {a : Act} (f : FrOk n ds fr a) : Region.wanted o (yielded ops a.tmps) = b := by
 cases h with
 | none h => simp [Region.wanted, h]
 | on h1 h2 h3 => simp [Region.wanted, h1, yielded, h2, f.get _ _ h3]
 | off h1 h2 h3 => simp [Region.wanted, h1, yielded, h2, f.get _ _ h3]
 | offu h1 h2 h3 => simp [Region.wanted, h1, yielded, h2, f.get _ _ h3, undef]
section
variable {E : Env} {ops : Array Oper} {eff stg : List Nat} {S : List Asn} {r : List Nat} {fr : Fr} {K : Hl} {M L : List Asn} {Q : Post} {i : Nat} {o : Oper}
theorem cT {l : List Oper} {anc ord : List Nat} {id : Nat} (eff stg : List Nat) (hm : E.P.follows .mixedOrders = true) (hok : oO l eff stg anc ord = true) (hL : Tks S L M)
  (h : DL E l.toArray eff stg S ord fr K M Q) : T E (.region id l.toArray true) fr K L Q :=
 fun a w f j => k5 hm hok (h a f) (j.imp hL.sat)
theorem cO (h : D E .normal fr K (S ++ M) Q) : DL E ops eff stg S [] fr K M Q := fun a f w j => h a w f j
theorem aK {d : Nat} {v : Value} (ho : ops[i]? = some o) (hd : o.dst = some d) (hg : GOk ops fr o true) (hg0 : stg.contains i = false) (he : eff.contains i = false) (hv : Ev E fr K S o v) (hn : Nat.blt d E.n = true)
  (h : DL E ops eff stg S r ((d, v) :: fr) K M Q) : DL E ops eff stg S (i :: r) fr K M Q := by
 intro a f;unfold DX;simp only [ho, hg.wanted f, if_true, hg0, he, Bool.false_eq_true, if_false];refine ⟨v, fun K' M' w le j => hv a w f (j.left.weaken le), ?_⟩
 rw [hd]; exact h _ (f.put hn v)
theorem dR {d : Nat} (ho : ops[i]? = some o) (hd : o.dst = some d) (hg : GOk ops fr o false) (hn : Nat.blt d E.n = true) (h : DL E ops eff stg S r ((d, undef) :: fr) K M Q) : DL E ops eff stg S (i :: r) fr K M Q := by
 intro a f;unfold DX;simp only [ho, hg.wanted f, Bool.false_eq_true, if_false];rw [hd]; exact h _ (f.put hn undef)
theorem dl_s {d : Nat} {N : Value → Hl → List Asn → Prop} (ho : ops[i]? = some o) (hd : o.dst = some d) (hg : GOk ops fr o true) (hg0 : stg.contains i = false) (he : eff.contains i = true) (hv : EfS E fr K (S ++ M) o N) (hn : Nat.blt d E.n = true)
  (h : ∀ v K' L', N v K' L' → K.le K' → ∃ M', (∀ x, Sat L' x → Sat (S ++ M') x) ∧ DL E ops eff stg S r ((d, v) :: fr) K' M' Q) : DL E ops eff stg S (i :: r) fr K M Q := by
 intro a f;unfold DX;simp only [ho, hg.wanted f, if_true, hg0, he, Bool.false_eq_true, if_false];intro w j;obtain ⟨u, w', K', L', hr, hN, le, j'⟩ := hv a w f j;obtain ⟨M', hM, hD⟩ := h u K' L' hN le;rcases hr with hr | ⟨hr, rfl⟩
 ·exact .inl ⟨u, w', hr, K', M', le, j'.imp hM, by rw [hd]; exact hD _ (f.put hn u)⟩
 ·exact .inr (.inl ⟨w', hr, K', M', le, j'.imp hM, by rw [hd]; exact hD _ (f.put hn undef)⟩)
theorem zE {N : Value → Hl → List Asn → Prop} (ho : ops[i]? = some o) (hd : o.dst = none) (hg : GOk ops fr o true) (hg0 : stg.contains i = false) (he : eff.contains i = true) (hv : EfS E fr K (S ++ M) o N)
  (h : ∀ v K' L', N v K' L' → K.le K' → ∃ M', (∀ x, Sat L' x → Sat (S ++ M') x) ∧ DL E ops eff stg S r fr K' M' Q) : DL E ops eff stg S (i :: r) fr K M Q := by
 intro a f;unfold DX;simp only [ho, hg.wanted f, if_true, hg0, he, Bool.false_eq_true, if_false];intro w j;obtain ⟨u, w', K', L', hr, hN, le, j'⟩ := hv a w f j;obtain ⟨M', hM, hD⟩ := h u K' L' hN le;rcases hr with hr | ⟨hr, rfl⟩
 ·exact .inl ⟨u, w', hr, K', M', le, j'.imp hM, by rw [hd]; exact hD _ f⟩
 ·exact .inr (.inl ⟨w', hr, K', M', le, j'.imp hM, by rw [hd]; exact hD _ f⟩)
theorem lO {d : Nat} {ty : TypeId} {pos : String} {aft : Array Edge} {g : Option (Nat × Bool)} {fv : Operand} {xs : List Operand} {ats : Array TypeId} {f : FuncId} {caps : Array Value} {vs : List Value} {v : Value}
  (ho : ops[i]? = some ⟨some d, .call ⟨.value fv, xs.toArray, ats⟩, ty, pos, aft, g⟩) (hg : GOk ops fr ⟨some d, .call ⟨.value fv, xs.toArray, ats⟩, ty, pos, aft, g⟩ true) (hg0 : stg.contains i = false) (he : eff.contains i = true)
  (hf : fr.ev fv = some (.func (.func f) #[] caps)) (hx : fr.evs xs = some vs) (hs : Sp E.P f (vs ++ caps.toList) K [] (Val v K)) (hn : Nat.blt d E.n = true)
  (h : DL E ops eff stg S r ((d, v) :: fr) K M Q) : DL E ops eff stg S (i :: r) fr K M Q := by
 intro a fo;unfold DX;simp only [ho, hg.wanted fo, if_true, hg0, he, Bool.false_eq_true, if_false];intro w j;obtain ⟨F', i1, back⟩ := In.hide (L := []) (N := S ++ M) j;refine .inr (.inr ⟨f, _, w, gF hf hx hs fo w, (hs.2 F' w i1).mono fun e w' ⟨K', L', ⟨q1, q2, q3⟩, le, j'⟩ => ?_⟩)
 subst q1; subst q2; subst q3
 exact ⟨_, M, Hl.le_refl _, back j', h _ (fo.put hn v)⟩
theorem n7 {d : Nat} {ty : TypeId} {pos : String} {aft : Array Edge} {g : Option (Nat × Bool)} {fv : Operand} {xs : List Operand} {ats : Array TypeId} {f : FuncId} {caps : Array Value} {vs : List Value} {L1 L2 : List Asn} {R : Ending → Hl → List Asn → Prop}
  (ho : ops[i]? = some ⟨some d, .call ⟨.value fv, xs.toArray, ats⟩, ty, pos, aft, g⟩) (hg : GOk ops fr ⟨some d, .call ⟨.value fv, xs.toArray, ats⟩, ty, pos, aft, g⟩ true) (hg0 : stg.contains i = false) (he : eff.contains i = true)
  (hf : fr.ev fv = some (.func (.func f) #[] caps)) (hx : fr.evs xs = some vs) (hs : Sp E.P f (vs ++ caps.toList) K L1 R) (hL : Tks L1 (S ++ M) L2) (hn : Nat.blt d E.n = true)
  (hout : ∀ K' L', ¬ R .outgrown K' L')
  (hpan : ∀ ch K' L', R (.panicked ch) K' L' → K.le K' → ∀ a w, a.defers = E.ds → In E.w0 E.F K' (L' ++ L2) w → Q (.panic ch) a w)
  (h : ∀ v K' L', R (.returned v) K' L' → K.le K' → ∃ M', (∀ x, Sat (L' ++ L2) x → Sat (S ++ M') x) ∧ DL E ops eff stg S r ((d, v) :: fr) K' M' Q) : DL E ops eff stg S (i :: r) fr K M Q := by
 intro a fo;unfold DX;simp only [ho, hg.wanted fo, if_true, hg0, he, Bool.false_eq_true, if_false];intro w j;obtain ⟨F', i1, back⟩ := (j.imp hL.sat).hide;refine .inr (.inr ⟨f, _, w, gF hf hx hs fo w, (hs.2 F' w i1).mono fun e w' ⟨K', L', q, le, j'⟩ => ?_⟩)
 cases e with
 | returned v =>
  obtain ⟨M', hM, hD⟩ := h v K' L' q le;exact ⟨K', M', le, (back j').imp hM, hD _ (fo.put hn v)⟩
 | panicked ch => exact fun a' ha' => hpan ch K' L' q le a' w' (ha'.1.trans fo.defers) (back j')
 | outgrown => exact absurd q (hout _ _)
theorem qP {d : Nat} {ty : TypeId} {pos : String} {aft : Array Edge} {g : Option (Nat × Bool)} {fv : Operand} {xs : List Operand} {ats : Array TypeId} {f : FuncId} {caps : Array Value} {vs : List Value} {L1 L2 : List Asn} {N : Value → Hl → List Asn → Prop}
  (ho : ops[i]? = some ⟨some d, .call ⟨.value fv, xs.toArray, ats⟩, ty, pos, aft, g⟩) (hg : GOk ops fr ⟨some d, .call ⟨.value fv, xs.toArray, ats⟩, ty, pos, aft, g⟩ true) (hg0 : stg.contains i = false) (he : eff.contains i = true)
  (hf : fr.ev fv = some (.func (.func f) #[] caps)) (hx : fr.evs xs = some vs) (hs : Sp E.P f (vs ++ caps.toList) K L1 (Ret N)) (hL : Tks L1 (S ++ M) L2) (hn : Nat.blt d E.n = true)
  (h : ∀ v K' L', N v K' L' → K.le K' → ∃ M', (∀ x, Sat (L' ++ L2) x → Sat (S ++ M') x) ∧ DL E ops eff stg S r ((d, v) :: fr) K' M' Q) : DL E ops eff stg S (i :: r) fr K M Q :=
 n7 ho hg hg0 he hf hx hs hL hn (fun K' L' ⟨u, e, n⟩ => by cases e) (fun ch K' L' ⟨u, e, n⟩ => by cases e) (fun v K' L' ⟨u, e, n⟩ le => by cases e; exact h v K' L' n le)
theorem dl_g {d : Nat} {N : Value → Hl → List Asn → Prop} (ho : ops[i]? = some o) (hd : o.dst = some d) (hg : GOk ops fr o true) (he : stg.contains i = true) (hv : EfS E fr K (S ++ M) o N) (hn : Nat.blt d E.n = true)
  (h : ∀ v K' L', N v K' L' → K.le K' → DL E ops eff stg L' r ((d, v) :: fr) K' [] Q) : DL E ops eff stg S (i :: r) fr K M Q := by
 intro a f;unfold DX;simp only [ho, hg.wanted f, if_true, he];intro w j;obtain ⟨u, w', K', L', hr, hN, le, j'⟩ := hv a w f j;have hD := h u K' L' hN le;rcases hr with hr | ⟨hr, rfl⟩
 ·exact .inl ⟨u, w', hr, K', L', [], le, by simpa using j', by rw [hd]; exact hD _ (f.put hn u)⟩
 ·exact .inr (.inl ⟨w', hr, K', L', [], le, by simpa using j', by rw [hd]; exact hD _ (f.put hn undef)⟩)
theorem iD {N : Value → Hl → List Asn → Prop} (ho : ops[i]? = some o) (hd : o.dst = none) (hg : GOk ops fr o true) (he : stg.contains i = true) (hv : EfS E fr K (S ++ M) o N)
  (h : ∀ v K' L', N v K' L' → K.le K' → DL E ops eff stg L' r fr K' [] Q) : DL E ops eff stg S (i :: r) fr K M Q := by
 intro a f;unfold DX;simp only [ho, hg.wanted f, if_true, he];intro w j;obtain ⟨u, w', K', L', hr, hN, le, j'⟩ := hv a w f j;have hD := h u K' L' hN le;rcases hr with hr | ⟨hr, rfl⟩
 ·exact .inl ⟨u, w', hr, K', L', [], le, by simpa using j', by rw [hd]; exact hD _ f⟩
 ·exact .inr (.inl ⟨w', hr, K', L', [], le, by simpa using j', by rw [hd]; exact hD _ f⟩)
theorem mF {d : Nat} {ty : TypeId} {pos : String} {aft : Array Edge} {g : Option (Nat × Bool)} {fv : Operand} {xs : List Operand} {ats : Array TypeId} {f : FuncId} {caps : Array Value} {vs : List Value} {L1 L2 : List Asn} {R : Ending → Hl → List Asn → Prop}
  (ho : ops[i]? = some ⟨some d, .call ⟨.value fv, xs.toArray, ats⟩, ty, pos, aft, g⟩) (hg : GOk ops fr ⟨some d, .call ⟨.value fv, xs.toArray, ats⟩, ty, pos, aft, g⟩ true) (he : stg.contains i = true)
  (hf : fr.ev fv = some (.func (.func f) #[] caps)) (hx : fr.evs xs = some vs) (hs : Sp E.P f (vs ++ caps.toList) K L1 R) (hL : Tks L1 (S ++ M) L2) (hn : Nat.blt d E.n = true)
  (hout : ∀ K' L', ¬ R .outgrown K' L')
  (hpan : ∀ ch K' L', R (.panicked ch) K' L' → K.le K' → ∀ a w, a.defers = E.ds → In E.w0 E.F K' (L' ++ L2) w → Q (.panic ch) a w)
  (h : ∀ v K' L', R (.returned v) K' L' → K.le K' → DL E ops eff stg (L' ++ L2) r ((d, v) :: fr) K' [] Q) : DL E ops eff stg S (i :: r) fr K M Q := by
 intro a fo;unfold DX;simp only [ho, hg.wanted fo, if_true, he];intro w j;obtain ⟨F', i1, back⟩ := (j.imp hL.sat).hide;refine .inr (.inr ⟨f, _, w, gF hf hx hs fo w, (hs.2 F' w i1).mono fun e w' ⟨K', L', q, le, j'⟩ => ?_⟩)
 cases e with
 | returned v => exact ⟨K', L' ++ L2, [], le, by simpa using back j', h v K' L' q le _ (fo.put hn v)⟩
 | panicked ch => exact fun a' ha' => hpan ch K' L' q le a' w' (ha'.1.trans fo.defers) (back j')
 | outgrown => exact absurd q (hout _ _)
theorem eZ {d : Nat} {ty : TypeId} {pos : String} {aft : Array Edge} {g : Option (Nat × Bool)} {fv : Operand} {xs : List Operand} {ats : Array TypeId} {f : FuncId} {caps : Array Value} {vs : List Value} {L1 L2 : List Asn} {N : Value → Hl → List Asn → Prop}
  (ho : ops[i]? = some ⟨some d, .call ⟨.value fv, xs.toArray, ats⟩, ty, pos, aft, g⟩) (hg : GOk ops fr ⟨some d, .call ⟨.value fv, xs.toArray, ats⟩, ty, pos, aft, g⟩ true) (he : stg.contains i = true)
  (hf : fr.ev fv = some (.func (.func f) #[] caps)) (hx : fr.evs xs = some vs) (hs : Sp E.P f (vs ++ caps.toList) K L1 (Ret N)) (hL : Tks L1 (S ++ M) L2) (hn : Nat.blt d E.n = true)
  (h : ∀ v K' L', N v K' L' → K.le K' → DL E ops eff stg (L' ++ L2) r ((d, v) :: fr) K' [] Q) : DL E ops eff stg S (i :: r) fr K M Q :=
 mF ho hg he hf hx hs hL hn (fun K' L' ⟨u, e, n⟩ => by cases e) (fun ch K' L' ⟨u, e, n⟩ => by cases e) (fun v K' L' ⟨u, e, n⟩ le => by cases e; exact h v K' L' n le)
theorem dJ : ∀ (L : List Asn), Tks L L []
 | [] => .nil
 | _ :: L => .cons .here (dJ L)
theorem n8 (d : Nat) {b : Bool} (e : fr.get d = some (.bool b)) (ht : b = true → DL E ops eff stg S r ((d, .bool true) :: fr) K M Q) (hf : b = false → DL E ops eff stg S r ((d, .bool false) :: fr) K M Q) : DL E ops eff stg S r fr K M Q := by
 intro a f;have key : ∀ c, b = c → FrOk E.n E.ds ((d, .bool c) :: fr) a := fun c hc => ⟨f.defers, f.size, fun k v h => by
  simp only [Fr.get] at h
  by_cases hk : d = k
  ·subst hk; simp at h; subst h; rw [← hc]; exact f.get _ _ e
  ·rw [beqF hk] at h; exact f.get _ _ h⟩
 cases b
 ·exact hf rfl a (key _ rfl)
 ·exact ht rfl a (key _ rfl)
theorem mG (d : Nat) {p : Prop} [Decidable p] (e : fr.get d = some (.bool (decide p))) (ht : p → DL E ops eff stg S r ((d, .bool true) :: fr) K M Q) (hf : ¬ p → DL E ops eff stg S r ((d, .bool false) :: fr) K M Q) : DL E ops eff stg S r fr K M Q :=
 n8 d e (fun h => ht (of_decide_eq_true h)) (fun h => hf (of_decide_eq_false h))
end
end Go.SL
end
section
namespace Go.SL
inductive Spl : List Value → Nat → List Value → List Value → Prop where
 | nil {l : List Value} : Spl l 0 [] l
 | cons {a c : Value} {l cs l' : List Value} : Spl l 0 cs l' → Spl (a :: l) 0 (c :: cs) (c :: l')
 | skip {a : Value} {l cs l' : List Value} {n : Nat} : Spl l n cs l' → Spl (a :: l) (n + 1) cs (a :: l')
theorem Spl.eq {l cs l' : List Value} {n : Nat} (h : Spl l n cs l') : l' = l.take n ++ cs ++ l.drop (n + cs.length) ∧ n + cs.length ≤ l.length := by
 induction h with
 | nil => simp
 | cons _ ih => obtain ⟨h1, h2⟩ := ih; simp at h1 h2 ⊢; exact ⟨h1, h2⟩
 | @skip a l cs l' n _ ih =>
  obtain ⟨h1, h2⟩ := ih;have : n + 1 + cs.length = (n + cs.length) + 1 := by omega
  rw [this];simp at h1 h2 ⊢;exact ⟨h1, h2⟩
def jE (P : Program) (t : TypeId) : Option (List Value × List (Nat × Nat)) :=
 match P.underlying t, P.info? t with
 | some (.struct fs), some i => match i.zero with
  | some z => some (z.cells.toList, fs.toList.map fun f => (f.offset, match P.info? f.type with | some ti => ti.size | none => 0))
  | none => none
 | _, _ => none
inductive Fill (fr : Fr) (place : Nat → Option (Nat × Nat)) : List Value → List (Nat × Operand) → List Value → Prop where
 | nil {z : List Value} : Fill fr place z [] z
 | cons {i off : Nat} {x : Operand} {v : Value} {cs z z' out : List Value} {rest : List (Nat × Operand)} : fr.ev x = some v → v.cells = cs.toArray → place i = some (off, cs.length) → Spl z off cs z' → Fill fr place z' rest out → Fill fr place z ((i, x) :: rest) out
theorem xI (off : Nat) : ∀ (cs : List Value) (j : Nat) (z : Array Value), off + j + cs.length ≤ z.size →
  (cs.zipIdx j).foldl (fun (a : Array Value) (p : Value × Nat) => a.setIfInBounds (off + p.2) p.1) z = (z.toList.take (off + j) ++ cs ++ z.toList.drop (off + j + cs.length)).toArray := by
 intro cs;induction cs with
 | nil => intro j z h; simp
 | cons c cs ih =>
  intro j z h;simp only [List.zipIdx_cons, List.foldl_cons];rw [ih (j + 1) _ (by simp at h ⊢; omega)];simp at h
  congr 1
  have e1 : off + (j + 1) = off + j + 1 := by omega
  have e2 : off + (j + 1) + cs.length = off + j + (c :: cs).length := by simp; omega
  rw [e2, e1];simp only [Array.toList_setIfInBounds];rw [List.take_set, List.drop_set_of_lt (by simp)];rw [List.take_succ_eq_append_getElem (by simpa using (by omega : off + j < z.size))];rw [List.set_append_right _ _ (by simp; omega)];simp;have : off + j - min (off + j) z.size = 0 := by omega
  rw [this]; simp
theorem vM {fr : Fr} {place : Nat → Option (Nat × Nat)} {z out : List Value} {parts : List (Nat × Operand)} (h : Fill fr place z parts out) {n : Nat} {ds : List Deferred} {a : Act} (f : FrOk n ds fr a) :
  Instr.fill place z.toArray (parts.map fun p => (p.1, a.eval p.2)) = some out.toArray := by
 induction h with
 | nil => rfl
 | @cons i off x v cs z z' out rest h1 h2 h3 h4 _ ih =>
  obtain ⟨e1, e2⟩ := h4.eq;simp only [List.map_cons, f.ev h1, Instr.fill];simp only [h3, h2, List.size_toArray];rw [if_neg (by simp; omega)];have hz : (cs.toArray.zipIdx.foldl (fun (a : Array Value) (p : Value × Nat) => a.setIfInBounds (off + p.2) p.1) z.toArray) = z'.toArray := by
   rw [← Array.foldl_toList];have := xI off cs 0 z.toArray (by simpa using e2);simp at this ⊢;rw [this, e1];simp
  have hz' : (cs.toArray.zipIdx.foldl (fun cs (x : Value × Nat) => match x with | (c, j) => cs.setIfInBounds (off + j) c) z.toArray) = z'.toArray := hz;rw [hz']; exact ih
section
variable {E : Env} {fr : Fr} {K : Hl} {L L' : List Asn} {Q : Post} {dst : Option Tmp} {ty : TypeId} {pos : String} {aft : Array Edge} {g : Option (Nat × Bool)} {x y : Operand} {t t' s e sz i off b : Nat} {α : Type} {k : El α} {v u : Value} {xs : List α}
theorem sN {P : Program} (w : World) : ∀ (fs : List Field), (∀ f ∈ fs, ∃ ti, P.info? f.type = some ti) →
  (fs.mapM (fun f => do pure (f.offset, ← sizeOf f.type) : Field → Sem (Nat × Nat))).run P w = .ok (fs.map fun f => (f.offset, match P.info? f.type with | some ti => ti.size | none => 0)) w := by
 intro fs;induction fs with
 | nil => intro _; rfl
 | cons f fs ih =>
  intro h;obtain ⟨ti, hti⟩ := h f (List.mem_cons_self ..);rw [List.mapM_cons];have h1 : ((do pure (f.offset, ← sizeOf f.type)) : Sem (Nat × Nat)).run P w = .ok (f.offset, ti.size) w := by
   simp only [sizeOf, typeInfo, program, bind, Sem.bind, pure, Sem.run, hti]
  rw [aL h1, aL (ih fun g hg => h g (List.mem_cons_of_mem _ hg))];simp [pure, Sem.run, hti]
def iX (P : Program) (t : TypeId) : Bool :=
 match P.underlying t with
 | some (.struct fs) => fs.toList.all fun f => (P.info? f.type).isSome
 | _ => false
theorem xA {P : Program} {z out : List Value} {places : List (Nat × Nat)} {parts : List (Nat × Value)} (hb : jE P t = some (z, places)) (hf : iX P t = true)
  (h : Instr.fill (places.toArray[·]?) z.toArray parts = some out.toArray) (w : World) : (Instr.build t parts.toArray).run P w = .ok (.agg out.toArray) w := by
 unfold jE at hb;unfold iX at hf;cases hu : P.underlying t with
 | none => simp [hu] at hb
 | some d =>
  cases d <;> simp [hu] at hb
  rename_i fs;cases hi : P.info? t with
  | none => simp [hi] at hb
  | some ti =>
   cases hz : ti.zero with
   | none => simp [hi, hz] at hb
   | some zv =>
    simp [hi, hz] at hb;obtain ⟨rfl, rfl⟩ := hb;simp only [hu, List.all_eq_true] at hf;have hm := sN (P := P) w fs.toList (fun f hfm => by have := hf f hfm; cases hx : P.info? f.type with | none => simp [hx] at this | some ti => exact ⟨ti, rfl⟩);unfold Instr.build;have h1 : (zeroValue t).run P w = .ok zv w := by simp only [zeroValue, typeInfo, program, bind, Sem.bind, pure, Sem.run, hi, hz]
    rw [aL h1];have h2 : (underlying t).run P w = .ok (.struct fs) w := by simp only [underlying, program, bind, Sem.bind, pure, Sem.run, hu]
    simp only [];rw [aL h2];simp only [];have h3 : (fs.mapM (fun f => do pure (f.offset, ← sizeOf f.type) : Field → Sem (Nat × Nat))).run P w = .ok (fs.toList.map fun f => (f.offset, match P.info? f.type with | some ti => ti.size | none => 0)).toArray w := by
     rw [Array.mapM_eq_mapM_toList]
     show (Functor.map _ _ : Sem _).run P w = _
     simp only [Functor.map]
     show (Sem.bind _ _).run P w = _
     have := aL (P := P) (f := fun l => (pure l.toArray : Sem (Array (Nat × Nat)))) hm;exact this
    rw [aL h3];have h4 : zv.cells.toList.toArray = zv.cells := by simp
    rw [h4] at h;simp only [h]
    rfl
theorem eN {z out : List Value} {places : List (Nat × Nat)} {parts : List (Nat × Operand)} (hb : jE E.P t = some (z, places)) (hf : iX E.P t = true) (h : Fill fr (places.toArray[·]?) z parts out) :
  Ev E fr K L ⟨dst, .build t parts.toArray, ty, pos, aft, g⟩ (.agg out.toArray) := fun a w f j => by
 have e : Array.map (fun (p : Nat × Operand) => (p.1, a.eval p.2)) parts.toArray = (parts.map fun p => (p.1, a.eval p.2)).toArray := by simp
 simp only [execOp];refine cP ?_;have := xA hb hf (vM h f) w;rw [← e] at this;exact this
theorem j3 {P : Program} {u : TypeId} {fz : Nat × Nat} : ∀ (cs : List Value) (o k : Nat) (w : World) (l : List Value), w.heap[b]? = some (aW l u fz) → o + k + cs.length ≤ l.length →
  (∀ j, j < cs.length → (fz.1 ≤ o + k + j && o + k + j < fz.2) = false) → (∀ c ∈ cs, c.oneCell' = true) →
  ∃ w', (storeCells ⟨b, o, none⟩ cs k).run P w = .ok () w' ∧ w'.heap.size = w.heap.size ∧ w'.heap[b]? = some (aW (l.take (o + k) ++ cs ++ l.drop (o + k + cs.length)) u fz) ∧ (∀ z, z ≠ b → w'.heap[z]? = w.heap[z]?) ∧ w' = { w with heap := w'.heap } := by
 intro cs;induction cs with
 | nil => intro o k w l h _ _ _; exact ⟨w, rfl, rfl, by simpa using h, fun _ _ => rfl, rfl⟩
 | cons c cs ih =>
  intro o k w l h hl hf h1;simp at hl;have hs := mS (P := P) h (o := o + k) aI (by simpa using hf 0 (by simp)) (h1 c (List.mem_cons_self ..));obtain ⟨s1, s2, s3⟩ := jA (o := o + k) c h;have hf' : ∀ j, j < cs.length → (fz.1 ≤ o + (k + 1) + j && o + (k + 1) + j < fz.2) = false := by
   intro j hj;have := hf (j + 1) (by simp; omega);have e : o + (k + 1) + j = o + k + (j + 1) := by omega
   rw [e]; exact this
  obtain ⟨w', r1, r2, r3, r4, r5⟩ := ih o (k + 1) (w.setCell ⟨b, o + k, none⟩ c) (l.set (o + k) c) s2 (by simp; omega) hf' (fun c' hc => h1 c' (List.mem_cons_of_mem _ hc));refine ⟨w', ?_, r2.trans s1, ?_, fun z hz => (r4 z hz).trans (s3 z hz), ?_⟩
  ·simp only [storeCells, dP];rw [aL hs]; exact r1
  ·rw [r3]
   congr 2
   have e1 : o + (k + 1) = o + k + 1 := by omega
   rw [e1, List.take_set, List.drop_set_of_lt aI, List.take_succ_eq_append_getElem aI, List.set_append_right _ _ (by simp; omega)];have : o + k - (List.take (o + k) l).length = 0 := by simp; omega
   rw [this];simp
   congr 1; omega
  ·rw [r5]; rfl
theorem cS {o n : Nat} {l l' cs : List Value} {u : TypeId} {fz : Nat × Nat} (ht : aggB E.P t n = true) (hx : fr.ev x = some (ptr b o)) (hy : fr.ev y = some (.agg cs.toArray)) (hn : cs.length = n)
  (hs : Fnd (pt b (aW l u fz)) (pt b (aW l' u fz)) L L') (h1 : ∀ c ∈ cs, c.oneCell' = true) (hspl : Spl l o cs l') (hf : ∀ j, j < n → (fz.1 ≤ o + j && o + j < fz.2) = false) :
  EfS E fr K L ⟨dst, .store t x y, ty, pos, aft, g⟩ (fun _ K' L'' => K' = K ∧ L'' = L') := by
 intro a w f j;have hb := j.mem hs;obtain ⟨e1, e2⟩ := hspl.eq;obtain ⟨w', r1, r2, r3, r4, r5⟩ := j3 (P := E.P) cs o 0 w l hb (by simpa using e2) (fun i hi => by simpa using hf i (hn ▸ hi)) h1;have hr : (execOp a.eval ⟨dst, .store t x y, ty, pos, aft, g⟩).run E.P w = .ok .skip w' := by
  simp only [execOp, f.ev hx, f.ev hy];have : (Instr.storeAt t (ptr b o) (.agg cs.toArray)).run E.P w = .ok () w' := by
   show (storeVar t _ _).run E.P w = _
   unfold storeVar;rw [aL (qG ht w).2];have hne : ¬ ((Value.agg cs.toArray).cells.size ≠ n) := by simp [Value.cells, hn]
   rw [if_neg hne];exact r1
  rw [aL this]; rfl
 refine ⟨_, _, _, _, .inr ⟨hr, rfl⟩, ⟨rfl, rfl⟩, Hl.le_refl _, ?_⟩
 rw [r5];refine j.writeAt hs r2 ?_ r4
 rw [r3, e1]; simp
theorem cF {d : TypeDesc} (hu : E.P.underlying t = some d) (hd : ∀ ms, d ≠ .interface ms) (hx : fr.ev x = some v) : Ev E fr K L ⟨dst, .makeInterface t x, ty, pos, aft, g⟩ (.iface t v) := fun a w f j => by
 simp only [execOp, f.ev hx];refine cP ?_;unfold Instr.makeInterface;have h2 : (underlying t).run E.P w = .ok d w := by simp only [underlying, program, bind, Sem.bind, pure, Sem.run, hu]
 rw [aL h2];cases d <;> first | rfl | exact absurd rfl (hd _)
theorem aQ {vs : List Value} (hx : fr.ev x = some (.tuple vs.toArray)) (hi : vs[i]? = some v) : Ev E fr K L ⟨dst, .extract x i, ty, pos, aft, g⟩ v := fun a w f j => by
 simp only [execOp, f.ev hx];refine cP ?_;simp [Instr.extract, hi, pure, Sem.run]
theorem d6 {fn : Fn} {fs cs : List Operand} {vf vc : List Value} (hf : fr.evs fs = some vf) (hc : fr.evs cs = some vc) : Ev E fr K L ⟨dst, .makeFunc fn fs.toArray cs.toArray, ty, pos, aft, g⟩ (.func fn vf.toArray vc.toArray) := fun a w f j => by
 have e1 : Array.map a.eval fs.toArray = vf.toArray := by simp [f.evs hf]
 have e2 : Array.map a.eval cs.toArray = vc.toArray := by simp [f.evs hc]
 simp only [execOp, e1, e2]
 rfl
def pE (P : Program) (t : TypeId) : Option Value := (P.info? t).bind (·.zero)
theorem zK {P : Program} (d : Nat) {el : TypeId} {pa : Option Addr} (hu : P.underlying t = some (.pointer el)) (w : World) : (Op.equalIn (d + 1) t (.pointer pa) (.pointer none)).run P w = .ok pa.isNone w := by
 cases pa <;> simp only [Op.equalIn, underlying, program, bind, Sem.bind, pure, Sem.run, hu, Option.isNone]
theorem aBW {P : Program} {el : TypeId} {pa : Option Addr} (hu : P.underlying t = some (.pointer el)) (w : World) : (Op.equal t (.pointer pa) (.pointer none)).run P w = .ok pa.isNone w := zK 9999 hu w
theorem n9 {el : TypeId} {pa : Option Addr} (hu : E.P.underlying t = some (.pointer el)) (hx : fr.ev x = some (.pointer pa)) (hy : fr.ev y = some (.pointer none)) : Ev E fr K L ⟨dst, .binOp .eql t x y t', ty, pos, aft, g⟩ (.bool pa.isNone) :=
 dC hx hy (fun w => rfl) fun w => by
  show (do pure (Value.bool (← Op.equal t (.pointer pa) (.pointer none))) : Sem Value).run E.P w = _
  rw [aL (aBW hu w)]; rfl
theorem or8 (c d : UInt8) : IntKind.u8.wrap (BitVec.toNat (BitVec.ofInt 8 (c.toNat : Int) ||| BitVec.ofInt 8 (d.toNat : Int)) : Int) = ((c ||| d).toNat : Int) := by
 have h : ∀ c : UInt8, BitVec.ofInt 8 (c.toNat : Int) = c.toBitVec := fun c => by apply BitVec.eq_of_toNat_eq; simp
 rw [h, h];have : (c.toBitVec ||| d.toBitVec) = (c ||| d).toBitVec := by simp
 rw [this];have hlt := (c ||| d).toNat_lt;unfold IntKind.wrap IntKind.bits IntKind.signed;simp only [Bool.false_and, Bool.false_eq_true, if_false]
 show (((c ||| d).toNat : Int)) % 2 ^ 8 = _
 omega
theorem zL (c d : UInt8) (hx : fr.ev x = some (.int .u8 c.toNat)) (hy : fr.ev y = some (.int .u8 d.toNat)) : Ev E fr K L ⟨dst, .binOp .or t x y t', ty, pos, aft, g⟩ (.int .u8 (c ||| d).toNat) :=
 dC hx hy dD fun w => by
  have := or8 c d;simp only [binOp, Op.intBits, ne_eq, not_true, if_false]
  show Result.ok (Value.int .u8 _) w = _
  rw [← this]; rfl
end
end Go.SL
end
section
namespace Go.SL
structure Src (P : Program) (t2 : TypeId) (sz m : Nat) (x : Value) (news : List Value) (w : World) : Prop where
 has : P.underlying t2 = some .string ∨ ∃ e', P.underlying t2 = some (.slice e')
 len : (Builtin.lenOf x).run P w = .ok m w
 cells : ∀ d, (Builtin.firstCells sz m x).run P { w with drawn := d } = .ok news.toArray { w with drawn := d }
 size : news.length = m * sz
 one : ∀ u ∈ news, u.oneCell' = true
section
variable {P : Program} {w : World} {t t2 e b : Nat} {i : TypeInfo} {z x : Value} {m : Nat} {news : List Value} {ty : TypeId}
theorem rT (ht : P.underlying t = some (.slice e)) (hi : P.info? e = some i) {n cap : Nat} {cells : List Value} {fz : Nat × Nat} (hb : w.heap[b]? = some (aW cells e fz)) (h : Src P t2 i.size m x news w)
  (hroom : n + m ≤ cap) (hcap : cap * i.size ≤ cells.length) (hf : FzOk (cap * i.size) fz) :
  ∃ w', (Builtin.append_ #[t, t2] ty #[.slice (some ⟨b, 0, none⟩) n cap, x]).run P w = .ok (.slice (some ⟨b, 0, none⟩) (n + m) cap) w' ∧
   w'.heap.size = w.heap.size ∧ w'.heap[b]? = some (aW (cells.take (n * i.size) ++ news ++ cells.drop (n * i.size + news.length)) e fz) ∧ (∀ z, z ≠ b → w'.heap[z]? = w.heap[z]?) ∧ w' = { w with heap := w'.heap } := by
 have hle : n * i.size + news.length ≤ cap * i.size := by rw [h.size, ← Nat.add_mul]; exact Nat.mul_le_mul_right _ hroom
 obtain ⟨w', r1, r2, r3, r4, r5⟩ := j3 (P := P) (b := b) news (n * i.size) 0 w cells hb aI (fun j hj => by have := hf.at (o := n * i.size + j) aI; simpa using this) h.one;refine ⟨w', ?_, r2, by simpa using r3, r4, r5⟩
 have hc := h.cells w.drawn;have hlen := h.len;rcases h.has with hd | ⟨e', hd⟩ <;> simp [Builtin.append_, run_underlying ht, run_underlying hd, sizeOf, typeInfo, hi, hlen, hroom, hc, dP, r1]
theorem lI (ht : P.underlying t = some (.slice e)) (hi : P.info? e = some i) (hz : i.zero = some z) {base : Option Addr} {n cap : Nat} {olds : List Value} (h : Src P t2 i.size m x news w)
  (hold : ∀ d, (Builtin.firstCells i.size n (.slice base n cap)).run P { w with drawn := d } = .ok olds.toArray { w with drawn := d })
  (hg : cap < n + m) (hby : (n + m) * i.bytes ≤ 140737488355328) (h63 : n + m ≤ 9223372036854775807) :
  ∃ cap' d, n + m ≤ cap' ∧ (Builtin.append_ #[t, t2] ty #[.slice base n cap, x]).run P w =
   .ok (.slice (some ⟨w.heap.size, 0, none⟩) (n + m) cap') { w with drawn := d, heap := w.heap.push (.cells (olds.toArray ++ (news.toArray ++ Builtin.zeroCells z.cells (cap' - (n + m)))) e) } := by
 have hfit := growslice_fits hg hby;have hti : ∀ w, (typeInfo e).run P w = .ok i w := fun w => by simp only [typeInfo, program, bind, Sem.bind, pure, Sem.run, hi]
 have hzv : ∀ w, (zeroValue e).run P w = .ok z w := fun w => by simp only [zeroValue, typeInfo, program, bind, Sem.bind, pure, Sem.run, hi, hz]
 refine ⟨(Question.appendCap (n + m) cap e).cut (w.tape w.drawn (Question.appendCap (n + m) cap e)), w.drawn + 1, by simp [Question.cut], ?_⟩
 have hlen := h.len;have hn : ¬ (n + m ≤ cap) := by omega
 have h63' : ¬ (9223372036854775807 < ((n : Int) + (m : Int))) := by omega
 have h48' : ¬ (281474976710656 < Builtin.nextslicecap (n + m) cap * i.bytes) := by omega
 have hc : (Builtin.firstCells i.size m x).run P w.drew = .ok news.toArray w.drew := h.cells (w.drawn + 1);have ho : (Builtin.firstCells i.size n (.slice base n cap)).run P w.drew = .ok olds.toArray w.drew := hold (w.drawn + 1);rcases h.has with hd | ⟨e', hd⟩ <;> simp [Builtin.append_, run_underlying ht, run_underlying hd, sizeOf, typeInfo, zeroValue, hi, hz, hlen, hn, h63', h48', Question.forced, hc, ho, newRow] <;> rfl
end
theorem dE {P : Program} {w : World} {α : Type} {k : El α} {t2 e' : TypeId} {v : Value} {xs : List α} (ht : P.underlying t2 = some (.slice e')) (h : SlAt k w v xs) : Src P t2 k.sz xs.length v (k.cs xs) w := by
 refine ⟨.inr ⟨_, ht⟩, ?_, ?_, k.cs_length xs, k.cs_one xs⟩
 ·rcases h with ⟨a0, c, rfl, rfl⟩ | ⟨b, off, cap, cells, fz, rfl, ⟨u0, h2⟩, h3⟩ <;> rfl
 ·intro d;rcases h with ⟨a0, c, rfl, rfl⟩ | ⟨b, off, cap, cells, fz, rfl, ⟨u0, h2⟩, h3⟩
  ·cases a0 with
   | none => rfl
   | some a => simp [Builtin.firstCells, loadCells, loadCellsFrom, El.cs, pure, Sem.run]
  ·have := e7 (P := P) (w := { w with drawn := d }) (b := b) (l := cells) h2 (xs.length * k.sz) (k.cs xs) off 0 [] (by simpa using h3) (k.cs_length xs)
   simpa [Builtin.firstCells, loadCells] using this
def k3 (e : TypeId) : El UInt8 := { e := e, sz := 1, enc := fun c => [.int .u8 c.toNat], len := fun _ => rfl, one := fun _ u h => by simp at h; subst h; rfl }
def o2 (e : TypeId) : El (List UInt8) := { e := e, sz := 1, enc := fun s => [str s], len := fun _ => rfl, one := fun _ u h => by simp at h; subst h; rfl }
def nE (e : TypeId) : El Int := { e := e, sz := 1, enc := fun n => [i64 n], len := fun _ => rfl, one := fun _ u h => by simp at h; subst h; rfl }
theorem mB (e : TypeId) (l : List UInt8) : (k3 e).cs l = l.map fun c => .int .u8 c.toNat := by
 induction l with
 | nil => rfl
 | cons c l ih => simp only [El.cs, List.flatMap_cons, List.map_cons] at *; rw [ih]; rfl
theorem uS {P : Program} {w : World} {e t2 : TypeId} {l : List UInt8} (ht : P.underlying t2 = some .string) : Src P t2 1 l.length (str l) ((k3 e).cs l) w := by
 refine ⟨.inl ht, ?_, ?_, (by rw [El.cs_length]; rfl), ?_⟩
 ·show Result.ok _ _ = _; rw [gE]
 ·intro d
  show Result.ok _ _ = _
  rw [mB, hO];simp
 ·intro u hu;rw [mB] at hu;obtain ⟨c, _, rfl⟩ := List.mem_map.1 hu
  rfl
def elOk (P : Program) (t e sz bytes : Nat) : Bool :=
 match P.underlying t, P.info? e with
 | some (.slice e'), some i => e' == e && i.size == sz && i.bytes == bytes && (match i.zero with | some z => z.cells.size == sz | none => false)
 | _, _ => false
theorem xF {P : Program} {t e sz bytes : Nat} (h : elOk P t e sz bytes = true) : ∃ i z, P.underlying t = some (.slice e) ∧ P.info? e = some i ∧ i.size = sz ∧ i.bytes = bytes ∧ i.zero = some z ∧ z.cells.size = sz := by
 unfold elOk at h;cases hu : P.underlying t with
 | none => simp [hu] at h
 | some d =>
  cases hi : P.info? e with
  | none => cases d <;> simp [hu, hi] at h
  | some i =>
   cases d <;> simp [hu, hi] at h
   obtain ⟨⟨⟨rfl, h2⟩, h3⟩, h4⟩ := h;cases hz : i.zero with
   | none => simp [hz] at h4
   | some z => simp [hz] at h4; exact ⟨i, z, rfl, rfl, h2, h3, hz, h4⟩
section
variable {E : Env} {fr : Fr} {K : Hl} {L L' : List Asn} {Q : Post} {dst : Option Tmp} {ty : TypeId} {pos : String} {aft : Array Edge} {g : Option (Nat × Bool)} {x y : Operand} {t t2 t' s e sz bytes i off b : Nat} {α : Type} {k : El α} {v u : Value} {xs ys : List α}
theorem In.slCases {w0 w : World} {F : Hl} {M : List Asn} {zf : Bool} (j : In w0 F K (sl zf k v xs :: M) w) :
  (v = .slice none 0 0 ∧ xs = [] ∧ In w0 F K M w) ∨
  (∃ b cap junk fz, v = .slice (some ⟨b, 0, none⟩) xs.length cap ∧ (zf = true → xs ≠ []) ∧ xs.length ≤ cap ∧ junk.length = (cap - xs.length) * k.sz ∧ FzOk (cap * k.sz) fz ∧ In w0 F K (pt b (aW (k.cs xs ++ junk) k.e fz) :: M) w) := by
 obtain ⟨h, ⟨a, l, ha, hl, hal, rfl⟩, d1, d2, d3, l1, l2, l3⟩ := j.rep;rcases ha with ⟨rfl, rfl, rfl⟩ | ⟨b, cap, junk, fz, rfl, hz, hc, hj, hf, rfl⟩
 ·exact .inl ⟨rfl, rfl, j.drop⟩
 ·exact .inr ⟨b, cap, junk, fz, rfl, hz, hc, hj, hf, j.os, j.tape, j.output, j.size, _, ⟨_, l, rfl, hl, hal, rfl⟩, d1, d2, d3, l1, l2, l3⟩
theorem aAT {zf : Bool} {cap : Nat} {cells : List Value} {fz : Nat × Nat} (hc : xs.length ≤ cap) (hcs : cells.take (xs.length * k.sz) = k.cs xs) (hl : cells.length = cap * k.sz) (hf : FzOk (cap * k.sz) fz) (hz : zf = true → xs ≠ []) :
  ∀ h, pt b (aW cells k.e fz) h → sl zf k (.slice (some ⟨b, 0, none⟩) xs.length cap) xs h := by
 rintro h rfl;refine .inr ⟨b, cap, cells.drop (xs.length * k.sz), fz, rfl, hz, hc, ?_, hf, ?_⟩
 ·rw [List.length_drop, hl, Nat.sub_mul]
 ·rw [← hcs, List.take_append_drop]
theorem dO {zf : Bool} {M : List Asn} (hok : elOk E.P t k.e k.sz bytes = true) (hx : fr.ev x = some v) (hy : fr.ev y = some u)
  (hT : Tk (sl zf k v xs) L M)
  (hsrc : ∀ w, In E.w0 E.F K L w → Src E.P t2 k.sz ys.length u (k.cs ys) w)
  (hb : (xs.length + ys.length) * bytes ≤ 140737488355328) (h63 : xs.length + ys.length ≤ 9223372036854775807) :
  EfS E fr K L ⟨dst, .call ⟨.builtin .append, #[x, y], #[t, t2]⟩, ty, pos, aft, g⟩ (fun v' K' L' => K' = K ∧ L' = sl zf k v' (xs ++ ys) :: M ∧ v'.oneCell' = true) := by
 intro a w f j;obtain ⟨i, z, h1, h2, h3, h4, h5, h6⟩ := xF hok;have hS := hsrc w j;have jM := j.imp hT.sat;have e : Array.map a.eval #[x, y] = #[v, u] := by simp [f.ev hx, f.ev hy]
 have run : ∀ {v' : Value} {w' : World}, (Builtin.append_ #[t, t2] ty #[v, u]).run E.P w = .ok v' w' → (execOp a.eval ⟨dst, .call ⟨.builtin .append, #[x, y], #[t, t2]⟩, ty, pos, aft, g⟩).run E.P w = .ok (.value v') w' := by
  intro v' w' h;simp only [execOp, resolve, e, bind, pure, Sem.bind, invoke, builtin];exact cP h
 rw [← h3] at hS;have hlen : (k.cs (xs ++ ys)).length = (xs.length + ys.length) * i.size := by rw [k.cs_length, h3, List.length_append]
 have zcl : ∀ n, (Builtin.zeroCells z.cells n).toList.length = n * i.size := fun n => by simp [Builtin.zeroCells, h6, h3]
 have isl : ∀ (c b' : Nat) {w1 : World} {cells : List Value} {fz : Nat × Nat}, xs.length + ys.length ≤ c → cells.take ((xs.length + ys.length) * i.size) = k.cs (xs ++ ys) → cells.length = c * i.size → FzOk (c * i.size) fz → (zf = true → xs ++ ys ≠ []) →
   In E.w0 E.F K (pt b' (aW cells k.e fz) :: M) w1 → In E.w0 E.F K (sl zf k (.slice (some ⟨b', 0, none⟩) (xs.length + ys.length) c) (xs ++ ys) :: M) w1 := by
  intro c b' w1 cells fz g1 g2 g3 g4 g5 jj;refine jj.imp (M := sl zf k (.slice (some ⟨b', 0, none⟩) (xs.length + ys.length) c) (xs ++ ys) :: M) fun h hh => ?_
  obtain ⟨a, l, ha, hl, hd, he⟩ := hh;refine ⟨a, l, ?_, hl, hd, he⟩
  have := aAT (k := k) (xs := xs ++ ys) (zf := zf) (cap := c) (cells := cells) (fz := fz) (by simpa using g1) (by rw [List.length_append, ← h3]; exact g2) (by rw [← h3]; exact g3) (by rw [← h3]; exact g4) g5 a ha
  simpa using this
 rcases jM.slCases with ⟨rfl, rfl, j0⟩ | ⟨b, cap, junk, fz, rfl, hzf, hc, hj, hfz, j0⟩
 ·by_cases hy0 : ys.length = 0
  ·have hys : ys = [] := List.length_eq_zero_iff.1 hy0;subst hys;refine ⟨.slice none 0 0, w, K, _, .inl (run ?_), ⟨rfl, rfl, rfl⟩, Hl.le_refl _, jM⟩
   have hlen' := hS.len;have hcs := hS.cells w.drawn;rcases hS.has with hd | ⟨e', hd⟩ <;> simp [Builtin.append_, run_underlying h1, run_underlying hd, sizeOf, typeInfo, h2, hlen', El.cs] at hcs ⊢ <;> simp [hcs]
  ·obtain ⟨cap', d, hcap, hr⟩ := lI (ty := ty) h1 h2 h5 (base := none) (n := 0) (cap := 0) (olds := []) hS (fun d => rfl) aI (by rw [h4]; simpa using hb) (by simpa using h63);simp only [Nat.zero_add] at hr hcap;have e2 : (Obj.cells ((#[] : Array Value) ++ ((k.cs ys).toArray ++ Builtin.zeroCells z.cells (cap' - ys.length))) k.e) = aW (k.cs ([] ++ ys) ++ (Builtin.zeroCells z.cells (cap' - ys.length)).toList) k.e := by
    unfold aW; congr 1; apply Array.ext'; simp
   rw [e2] at hr;have jj := (j0.drew d).alloc (aW (k.cs ([] ++ ys) ++ (Builtin.zeroCells z.cells (cap' - ys.length)).toList) k.e);have := isl cap' w.heap.size (by simpa using hcap) (by rw [← hlen, List.take_left])
    (by rw [List.length_append, k.cs_length, zcl, h3, List.nil_append, ← Nat.add_mul]; congr 1; omega) (.inl (Nat.le_refl _)) (fun _ => by intro e; simp at e; exact hy0 (by simp [e])) jj
   simp only [List.length_nil, Nat.zero_add] at this;exact ⟨_, _, K, _, .inl (run hr), ⟨rfl, rfl, rfl⟩, Hl.le_refl _, this⟩
 ·have hcells : (k.cs xs ++ junk).length = cap * i.size := by rw [List.length_append, k.cs_length, hj, h3, ← Nat.add_mul]; congr 1; omega
  by_cases hroom : xs.length + ys.length ≤ cap
  ·obtain ⟨w', r1, r2, r3, r4, r5⟩ := rT (ty := ty) h1 h2 (n := xs.length) j0.piece hS hroom aI (by rw [h3]; exact hfz);refine ⟨_, _, K, _, .inl (run r1), ⟨rfl, rfl, rfl⟩, Hl.le_refl _, ?_⟩
   have jj := j0.write r2 r3 r4;rw [← r5] at jj;refine isl cap b hroom ?_ ?_ (by rw [h3]; exact hfz) (fun hz1 => ?_) jj
   ·have e1 : (k.cs xs ++ junk).take (xs.length * i.size) = k.cs xs := by rw [h3, ← k.cs_length, List.take_left]
    rw [e1, ← hlen, k.cs_append, List.take_left]
   ·have hys : (k.cs ys).length = ys.length * i.size := by rw [k.cs_length, h3]
    have hle : (xs.length + ys.length) * i.size ≤ cap * i.size := Nat.mul_le_mul_right _ hroom;rw [Nat.add_mul] at hle;simp only [List.length_append, List.length_take, List.length_drop] at hcells ⊢;omega
   ·intro e; have := hzf hz1; simp at e; exact this e.1
  ·obtain ⟨cap', d, hcap, hr⟩ := lI (ty := ty) h1 h2 h5 (base := some ⟨b, 0, none⟩) (n := xs.length) (cap := cap) (olds := k.cs xs) hS
    (fun d => by
     have := e7 (P := E.P) (w := { w with drawn := d }) (b := b) (l := k.cs xs ++ junk) (u := k.e) (fz := fz) j0.piece (xs.length * i.size) (k.cs xs) 0 0 [] (by simp only [Nat.add_zero, List.drop_zero]; rw [h3, ← k.cs_length, List.take_left]) (by rw [k.cs_length, h3])
     simpa [Builtin.firstCells, loadCells] using this) aI (by rw [h4]; exact hb) h63
   have e2 : (Obj.cells ((k.cs xs).toArray ++ ((k.cs ys).toArray ++ Builtin.zeroCells z.cells (cap' - (xs.length + ys.length)))) k.e) = aW (k.cs (xs ++ ys) ++ (Builtin.zeroCells z.cells (cap' - (xs.length + ys.length))).toList) k.e := by
    unfold aW; congr 1; apply Array.ext'; simp [k.cs_append]
   rw [e2] at hr;have jj := ((j0.drop).drew d).alloc (aW (k.cs (xs ++ ys) ++ (Builtin.zeroCells z.cells (cap' - (xs.length + ys.length))).toList) k.e);have := isl cap' w.heap.size hcap (by rw [← hlen, List.take_left])
    (by rw [List.length_append, k.cs_length, zcl, h3, List.length_append, ← Nat.add_mul]; congr 1; omega) (.inl (Nat.le_refl _)) (fun hz1 => by intro e; have := hzf hz1; simp at e; exact this e.1) jj
   exact ⟨_, _, K, _, .inl (run hr), ⟨rfl, rfl, rfl⟩, Hl.le_refl _, this⟩
end
end Go.SL
end
section
namespace Go.SL
def slTo (v : Value) (n : Nat) : Value :=
 match v with
 | .slice a _ c => .slice a n c
 | v => v
section
variable {E : Env} {fr : Fr} {K : Hl} {L L' : List Asn} {Q : Post} {dst : Option Tmp} {ty : TypeId} {pos : String} {aft : Array Edge} {g : Option (Nat × Bool)} {x y : Operand} {t t2 t' s e sz bytes i off b : Nat} {α : Type} {k : El α} {v u : Value} {xs ys : List α}
theorem pI {kk : IntKind} {m : Nat} {mv : Int} {hi : Operand} (ht : fP E.P t k.e k.sz = true) (hx : fr.ev x = some v) (hs : SeesSl k K L v xs) (hh : fr.ev hi = some (.int kk mv)) (hmv : mv = (m : Int)) (hm : m ≤ xs.length)
  (hle : ∀ w, In E.w0 E.F K L w → ∀ a n c, v = .slice a n c → n ≤ c) :
  Ev E fr K L ⟨dst, .slice t x none (some hi) none, ty, pos, aft, g⟩ (slTo v m) := fun a w f j => by
 subst hmv;obtain ⟨inf, h1, h2, h3⟩ := jB ht;simp only [execOp, f.ev hx, f.ev hh, Option.map];refine cP ?_;have hu : (underlying t).run E.P w = .ok (.slice k.e) w := by simp only [underlying, program, bind, Sem.bind, pure, Sem.run, h1]
 have hsz : (sizeOf k.e).run E.P w = .ok inf.size w := by simp only [sizeOf, typeInfo, program, bind, Sem.bind, pure, Sem.run, h2]
 have key : ∀ (a : Option Addr) (n c : Nat), m ≤ c → (Instr.sliceAt t (.slice a n c) none (some (.int kk m)) none).run E.P w = .ok (.slice a m c) w := by
  intro a n c hc;unfold Instr.sliceAt;rw [aL hu];simp only [Instr.slice];rw [aL hu];simp only [];have hb : (Instr.sliceBounds true n c none (some (.int kk m)) none).run E.P w = .ok (0, m, c) w := by
   simp [Instr.sliceBounds, Instr.sliceBound, asIntOf, bind, Sem.bind, pure, Sem.run, hc]
  rw [aL hb];simp only [];rw [aL hsz]
  by_cases hc0 : c = 0
  ·subst hc0; simp [pure, Sem.run]
  ·simp only [hc0, if_false];cases a with
   | none => simp [pure, Sem.run]
   | some ad => simp [Addr.add, pure, Sem.run]
 rcases hs.at j with ⟨a0, c, rfl, rfl⟩ | ⟨b, off, cap, cells, fz, rfl, ⟨u0, h4⟩, h5⟩
 ·have : m = 0 := by simpa using hm
  subst this;exact key a0 0 c (Nat.zero_le _)
 ·exact key _ _ _ (Nat.le_trans hm (hle w j _ _ _ rfl))
theorem aFS {zf : Bool} {M : List Asn} {w0 w : World} {F : Hl} (hT : Tk (sl zf k v xs) L M) (j : In w0 F K L w) : ∀ a n c, v = .slice a n c → n ≤ c := by
 intro a n c hv;rcases (j.imp hT.sat).slCases with ⟨rfl, _, _⟩ | ⟨b, cap, junk, fz, rfl, _, hc, _⟩
 ·cases hv; exact Nat.le_refl _
 ·cases hv; exact hc
theorem El.cs_set (hsz : k.sz = 1) {j : Nat} {y0 : α} {c : Value} (hc : k.enc y0 = [c]) (hj : j < xs.length) : k.cs (xs.set j y0) = (k.cs xs).set j c := by
 have enc1 : ∀ (z : α), ∃ d, k.enc z = [d] := fun z => by
  have := k.len z; rw [hsz] at this
  match h : k.enc z, this with
  | [d], _ => exact ⟨d, rfl⟩
 induction xs generalizing j with
 | nil => simp at hj
 | cons z zs ih =>
  obtain ⟨d, hd⟩ := enc1 z;cases j with
  | zero => simp [El.cs, List.flatMap_cons, hd, hc]
  | succ j =>
   have := ih (j := j) (by simpa using hj);simp only [El.cs, List.set_cons_succ, List.flatMap_cons, hd, List.cons_append, List.nil_append] at this ⊢;rw [this]
theorem bV {j : Nat} (ht : dB E.P s i off = true) (hx : fr.ev x = some (fD v (j * k.sz))) (hs : SeesSl k K L v xs) (hj : j < xs.length) : Ev E fr K L ⟨dst, .fieldAddr s x i, ty, pos, aft, g⟩ (fD v (j * k.sz + off)) := fun a w f q => by
 rcases hs.at q with ⟨a0, c, rfl, rfl⟩ | ⟨b, o, cap, cells, fz, rfl, ⟨u0, h4⟩, h5⟩
 ·simp at hj
 ·have hx' : fr.ev x = some (ptr b (o + j * k.sz)) := by rw [hx]; simp [fD, dP]
  have := aH (E := E) (K := K) (L := L) (dst := dst) (ty := ty) (pos := pos) (aft := aft) (g := g) ht hx' rfl a w f q;rw [this]; simp [fD, dP, Nat.add_assoc]
theorem dK {j o : Nat} {u : α} {c : Value} (ht : d7 E.P t = true) (hx : fr.ev x = some (fD v (j * k.sz + o))) (hs : SeesSl k K L v xs) (hj : xs[j]? = some u) (hc : (k.enc u)[o]? = some c) :
  Ev E fr K L ⟨dst, .load t x, ty, pos, aft, g⟩ c := fun a w f q => by
 simp only [execOp, f.ev hx];refine cP ?_;have hjl : j < xs.length := by
  rcases Nat.lt_or_ge j xs.length with h' | h'
  ·exact h'
  ·simp [List.getElem?_eq_none h'] at hj
 have ho : o < k.sz := by
  rw [← k.len u];rcases Nat.lt_or_ge o (k.enc u).length with h' | h'
  ·exact h'
  ·simp [List.getElem?_eq_none h'] at hc
 rcases hs.at q with ⟨a0, c, rfl, rfl⟩ | ⟨b, off, cap, cells, fz, rfl, ⟨u0, h4⟩, h5⟩
 ·simp at hj
 ·obtain ⟨q1, q2⟩ := iJ ht w;have hat := k.cs_at hj (r := []);rw [List.append_nil, ← h5] at hat
  show (loadVar t (Addr.add ⟨b, off, none⟩ (j * k.sz + o))).run E.P w = _
  rw [dP];unfold loadVar;rw [aL q1];refine lT h4 ?_;have := congrArg (·[o]?) hat;simp only [List.getElem?_take, List.getElem?_drop, ho, if_true] at this;have hlt : j * k.sz + o < xs.length * k.sz := by
   have : (j + 1) * k.sz ≤ xs.length * k.sz := Nat.mul_le_mul_right _ hjl;rw [Nat.succ_mul] at this; omega
  rw [if_pos hlt, hc] at this;exact this
theorem xY {zf : Bool} {j : Nat} {y0 : α} {c : Value} (ht : d7 E.P t = true) (hx : fr.ev x = some (fD v (j * k.sz))) (hy : fr.ev y = some c) (hc : k.enc y0 = [c]) (h1 : c.oneCell' = true) (hj : j < xs.length)
  (hF : Fnd (sl zf k v xs) (sl zf k v (xs.set j y0)) L L') :
  EfS E fr K L ⟨dst, .store t x y, ty, pos, aft, g⟩ (fun _ K' L'' => K' = K ∧ L'' = L') := by
 intro a w f q;obtain ⟨M, m1, m2⟩ := hF.split;have hsz : k.sz = 1 := by have := k.len y0; simpa [hc] using this.symm
 rcases (q.imp m1).slCases with ⟨rfl, rfl, _⟩ | ⟨b, cap, junk, fz, rfl, hz, hcap, hjk, hf, q0⟩
 ·simp at hj
 ·have hx' : fr.ev x = some (ptr b j) := by rw [hx]; simp [fD, dP, hsz]
  have hb := q0.piece;have hcl : (k.cs xs).length = xs.length := by rw [k.cs_length, hsz]; omega
  have hset : (k.cs xs ++ junk).set j c = k.cs (xs.set j y0) ++ junk := by
   have e0 : k.cs (xs.set j y0) = (k.cs xs).set j c := k.cs_set hsz hc hj;rw [e0, List.set_append_left _ _ (by rw [hcl]; exact hj)]
  have hst := mS (P := E.P) (o := j) (v := c) hb (by rw [List.length_append, hcl]; omega) (hf.at (by rw [hsz]; omega)) h1;obtain ⟨s1, s2, s3⟩ := jA (o := j) c hb;have hr : (execOp a.eval ⟨dst, .store t x y, ty, pos, aft, g⟩).run E.P w = .ok .skip (w.setCell ⟨b, j, none⟩ c) := by
   simp only [execOp, f.ev hx', f.ev hy];have hcells : c.cells = #[c] := by cases c <;> simp [Value.oneCell'] at h1 <;> rfl
   have : (Instr.storeAt t (ptr b j) c).run E.P w = .ok () (w.setCell ⟨b, j, none⟩ c) := by
    show (storeVar t _ c).run E.P w = _
    unfold storeVar;rw [aL (iJ ht w).2];simp only [hcells];rw [if_neg (by simp)];simp only [storeCells, dP, Nat.add_zero]
    show (store _ _ >>= fun _ => pure ()).run E.P w = _
    rw [aL hst]; rfl
   rw [aL this]; rfl
  refine ⟨_, _, _, _, .inr ⟨hr, rfl⟩, ⟨rfl, rfl⟩, Hl.le_refl _, ?_⟩
  have q1 := q0.write s1 s2 s3;rw [hset] at q1;refine q1.imp fun h hh => m2 h ?_
  obtain ⟨aa, l, ha, hl, hd, he⟩ := hh;refine ⟨aa, l, ?_, hl, hd, he⟩
  refine .inr ⟨b, cap, junk, fz, by rw [List.length_set], ?_, by rw [List.length_set]; exact hcap, by rw [List.length_set]; exact hjk, hf, ha⟩
  intro h1 h2;exact hz h1 (by have := congrArg List.length h2; simp at this; exact List.length_eq_zero_iff.1 (by simpa using this))
theorem cL {len : Nat} {zc z0 out : List Value} {parts : List (Nat × Operand)} (ht : fP E.P t e sz = true) (hz : cE E.P e = some zc) (hzl : zc.length = sz) (hlim : Nat.ble (len * sz) 16777216 = true) (hpos : Nat.blt 0 (len * sz) = true)
  (hz0 : (List.range (len * sz)).map (fun i => zc.toArray[i % sz]!) = z0) (h : Fill fr (fun i => some (i * sz, sz)) z0 parts out) :
  EfS E fr K L ⟨dst, .buildSlice t len parts.toArray, ty, pos, aft, g⟩ (fun v K' L' => ∃ b, v = .slice (some ⟨b, 0, none⟩) len len ∧ K' = K ∧ L' = pt b (aW out e) :: L) := by
 intro a w f j;obtain ⟨inf, h1, h2, h3⟩ := jB ht;have e1 : Array.map (fun (p : Nat × Operand) => (p.1, a.eval p.2)) parts.toArray = (parts.map fun p => (p.1, a.eval p.2)).toArray := by simp
 have hu : (underlying t).run E.P w = .ok (.slice e) w := by simp only [underlying, program, bind, Sem.bind, pure, Sem.run, h1]
 have hsz : (sizeOf e).run E.P w = .ok sz w := by simp only [sizeOf, typeInfo, program, bind, Sem.bind, pure, Sem.run, h2, h3]
 have hlim' : len * sz ≤ 16777216 := Nat.le_of_ble_eq_true hlim;have hpos' : 0 < len * sz := by simp [Nat.blt] at hpos; omega
 unfold cE at hz;simp only [h2, Option.bind_some] at hz;cases hzv : inf.zero with
 | none => simp [hzv] at hz
 | some z =>
  simp [hzv] at hz;have hzr : (zeroValue e).run E.P w = .ok z w := by simp only [zeroValue, typeInfo, program, bind, Sem.bind, pure, Sem.run, h2, hzv]
  have hfill := vM h f;have hzz : zc.toArray = z.cells := by rw [← hz]
  have hr : (Instr.buildSlice t len (parts.map fun p => (p.1, a.eval p.2)).toArray).run E.P w = .ok (.slice (some ⟨w.heap.size, 0, none⟩) len len) { w with heap := w.heap.push (aW out e) } := by
   unfold Instr.buildSlice;rw [aL hu];simp only [];rw [aL hsz];rw [if_neg aI];have hne : ¬ len * sz = 0 := by omega
   have hmap : ((Array.range (len * sz)).map fun i => z.cells[i % z.cells.size]!) = z0.toArray := by
    have hs : z.cells.size = sz := by rw [← hzl, ← hz]; simp
    rw [← hz0, hzz, hs]
    apply Array.ext'; simp
   rw [if_neg hne, aL hzr, aL (s0 _ _)];simp only [hmap];rw [hfill]
   rfl
  refine ⟨_, _, K, _, .inl ?_, ⟨_, rfl, rfl, rfl⟩, Hl.le_refl _, j.alloc _⟩
  simp only [execOp];have := cP hr;rw [← e1] at this;exact this
end
end Go.SL
end
section
namespace Go.SL
abbrev elB (e : TypeId) : El UInt8 := k3 e
theorem mH (e : TypeId) (s : List UInt8) : (elB e).cs s = s.map fun c => .int .u8 c.toNat := mB e s
theorem pF (w : World) (e : TypeId) (s : ByteArray) :
  Lib.bytesWorld w e s = { w with drawn := w.drawn + 1, heap := w.heap.push (.cells (Lib.bytesCells w e s) e ((Lib.bytesCells w e s).size, (Lib.bytesCells w e s).size + 1)) } := by
 have hh : (Lib.bytesWorld w e s).heap = w.heap.push (.cells (Lib.bytesCells w e s) e ((Lib.bytesCells w e s).size, (Lib.bytesCells w e s).size + 1)) := by
  apply Array.ext_getElem?
  intro i;rcases Nat.lt_trichotomy i w.heap.size with h | h | h
  ·rw [Lib.bytesWorld_at_old w e s i h, Array.getElem?_push, if_neg aI]
  ·subst h; rw [Lib.bytesWorld_at_new, Array.getElem?_push, if_pos rfl]
  ·rw [Array.getElem?_eq_none (by rw [Lib.bytesWorld_size]; omega), Array.getElem?_eq_none (by simp; omega)]
 have h2 : Lib.bytesWorld w e s = { w with drawn := w.drawn + 1, heap := (Lib.bytesWorld w e s).heap } := rfl;rw [h2, hh]
section
variable {E : Env} {fr : Fr} {K : Hl} {L L' : List Asn} {Q : Post} {dst : Option Tmp} {ty : TypeId} {pos : String} {aft : Array Edge} {g : Option (Nat × Bool)} {x y : Operand} {t t2 t' s e : Nat} {v : Value} {xs ys : List UInt8}
theorem kM {src : TypeId} {u : TypeDesc} (hs : E.P.underlying src = some u) (hd : E.P.underlying t = some (.slice e)) (he : E.P.underlying e = some (.int .u8)) (hx : fr.ev x = some (str xs)) :
  EfS E fr K L ⟨dst, .convert src t x, ty, pos, aft, g⟩ (fun v K' L' => K' = K ∧ L' = sl false (elB e) v xs :: L) := by
 intro a w f j;have e1 : (⟨xs.toArray⟩ : ByteArray).size = xs.length := by simp [ByteArray.size]
 have hr : (execOp a.eval ⟨dst, .convert src t x, ty, pos, aft, g⟩).run E.P w = .ok (.value (.slice (some ⟨w.heap.size, 0, none⟩) xs.length (grownCap w xs.length 0 e))) (Lib.bytesWorld w e ⟨xs.toArray⟩) := by
  simp only [execOp, f.ev hx];have := Lib.run_convert_string_bytes (P := E.P) w src t e ⟨xs.toArray⟩ hs hd he;rw [e1] at this;exact cP this
 have hcap : xs.length ≤ grownCap w xs.length 0 e := by simp [grownCap, Question.cut]
 have hc : Lib.bytesCells w e ⟨xs.toArray⟩ = ((elB e).cs xs ++ List.replicate (grownCap w xs.length 0 e - xs.length) (Value.int .u8 0)).toArray := by
  apply Array.ext'
  simp [Lib.bytesCells, mH, e1]
 refine ⟨_, _, K, _, .inl hr, ⟨rfl, rfl⟩, Hl.le_refl _, ?_⟩
 rw [pF];have jj := (j.drew (w.drawn + 1)).alloc (.cells (Lib.bytesCells w e ⟨xs.toArray⟩) e ((Lib.bytesCells w e ⟨xs.toArray⟩).size, (Lib.bytesCells w e ⟨xs.toArray⟩).size + 1));refine jj.imp fun h hh => ?_
 obtain ⟨aa, l, ha, hl, hd, he⟩ := hh;have hsz : (Lib.bytesCells w e ⟨xs.toArray⟩).size = grownCap w xs.length 0 e := by rw [hc]; simp [mH]; omega
 refine ⟨aa, l, .inr ⟨w.heap.size, grownCap w xs.length 0 e, List.replicate (grownCap w xs.length 0 e - xs.length) (.int .u8 0), (grownCap w xs.length 0 e, grownCap w xs.length 0 e + 1), rfl, by simp, hcap, by simp [k3], .inr (by simp [k3]), ?_⟩, hl, hd, he⟩
 simp only [pt] at ha;rw [ha, hsz, hc]; rfl
theorem uB (xs : List UInt8) : ∀ acc : ByteArray, (xs.map fun c : UInt8 => (c.toNat : Int)).foldl (fun r n => r.push (UInt8.ofNat n.toNat)) acc = ⟨acc.data ++ xs.toArray⟩ := by
 induction xs with
 | nil => intro acc; simp
 | cons c xs ih =>
  intro acc;simp only [List.map_cons, List.foldl_cons];rw [ih];have : UInt8.ofNat ((c.toNat : Int)).toNat = c := by simp
  rw [this];cases acc
  simp [ByteArray.push]
theorem fM (hs : E.P.underlying t = some (.slice e)) (he : E.P.underlying e = some (.int .u8)) (hd : E.P.underlying t2 = some .string) (hx : fr.ev x = some v) (h : SeesSl (elB e) K L v xs) :
  Ev E fr K L ⟨dst, .convert t t2 x, ty, pos, aft, g⟩ (str xs) := fun a w f j => by
 simp only [execOp, f.ev hx];refine cP ?_;rcases h.at j with ⟨a0, c, rfl, rfl⟩ | ⟨b, off, cap, cells, fz, rfl, ⟨u0, h2⟩, h3⟩
 ·rw [run_convert_bytes_string w t t2 e a0 0 c hs he hd]; cases a0 <;> rfl
 ·rw [run_convert_bytes_string w t t2 e (some ⟨b, off, none⟩) xs.length cap hs he hd];have hl : (loadCells ⟨b, off, none⟩ xs.length).run E.P w = .ok ((xs.map fun c : UInt8 => (c.toNat : Int)).map (Value.int .u8)).toArray w := by
   have h3' : (cells.drop (off + 0)).take xs.length = xs.map fun c => .int .u8 c.toNat := by
    rw [Nat.add_zero, ← mH e, ← h3]; simp [k3]
   have := e7 (P := E.P) h2 xs.length _ off 0 [] h3' (by simp);unfold loadCells
   simpa [Function.comp_def] using this
  rw [run_bytesToString w ⟨b, off, none⟩ xs.length cap _ hl, uB]
  show Result.ok (Value.string ⟨ByteArray.empty.data ++ xs.toArray⟩) w = _
  have e0 : ByteArray.empty.data = #[] := rfl;rw [e0, Array.empty_append]
end
end Go.SL
end
section
namespace Go.SL
def unsB (P : Program) (T n : Nat) : Bool :=
 match P.info? T with
 | some j => j.size == n && n != 0 && liesAt P P.depth T (n / P.cellsOf T) 0 T 1
 | none => false
section
variable {E : Env} {fr : Fr} {K : Hl} {L L' : List Asn} {Q : Post} {dst : Option Tmp} {ty : TypeId} {pos : String} {aft : Array Edge} {g : Option (Nat × Bool)} {x y : Operand} {t t2 t' s e b n : Nat} {T : TypeId} {v : Value} {xs ys : List UInt8}
theorem o0 {w : World} {l : List Value} {fz : Nat × Nat} (h : w.heap[b]? = some (aW l T fz)) : w.shape? b = some (T, l.length) := by
 simp [World.shape?, h]
theorem sB {l : List Value} {fz : Nat × Nat} (hs : E.P.underlying t = some (.pointer T)) (hd : E.P.underlying t2 = some .unsafePointer) (hx : fr.ev x = some (ptr b)) (hS : Sees K L b (aW l T fz)) (hT : unsB E.P T l.length = true) :
  Ev E fr K L ⟨dst, .convert t t2 x, ty, pos, aft, g⟩ (ptr b) := fun a w f j => by
 simp only [execOp, f.ev hx];refine cP ?_;unfold unsB at hT;cases hi : E.P.info? T with
 | none => simp [hi] at hT
 | some inf =>
  simp [hi] at hT;have hp : 0 < l.length := by
   rcases Nat.eq_zero_or_pos l.length with h | h
   ·exact absurd (List.length_eq_zero_iff.1 h) hT.1.2
   ·exact h
  exact Lib.run_to_unsafe w ⟨b, 0, none⟩ hs hd hi (by rw [hT.1.1]; omega) (o0 (hS.at j)) hp
theorem pH {l : List Value} {fz : Nat × Nat} (hs : E.P.underlying t = some .unsafePointer) (hd : E.P.underlying t2 = some (.pointer T)) (hx : fr.ev x = some (ptr b)) (hS : Sees K L b (aW l T fz)) (hT : unsB E.P T l.length = true) :
  Ev E fr K L ⟨dst, .convert t t2 x, ty, pos, aft, g⟩ (ptr b) := fun a w f j => by
 simp only [execOp, f.ev hx];refine cP ?_;unfold unsB at hT;cases hi : E.P.info? T with
 | none => simp [hi] at hT
 | some inf =>
  simp [hi] at hT;exact Lib.run_from_unsafe w ⟨b, 0, none⟩ hs hd hi (o0 (hS.at j)) hT.2
theorem iU {fv : Operand} {os : List Operand} {vs : List Value} {ats : Array TypeId} {f : FuncId} {fn : Func} {ex : Array Value → Sem Value} (hf : fr.ev fv = some (.func (.func f) #[] #[])) (hos : fr.evs os = some vs)
  (h1 : E.P.funcs[f]? = some fn) (h2 : (fn.name == "runtime.NumGoroutine") = false) (h3 : fn.body.isNone = true) (h4 : Extern.findNext fn = none) (h5 : Extern.find fn = some ex) (hr : ∀ w, In E.w0 E.F K L w → (ex vs.toArray).run E.P w = .ok v w) :
  Ev E fr K L ⟨dst, .call ⟨.value fv, os.toArray, ats⟩, ty, pos, aft, g⟩ v := fun a w fo j => by
 have e1 : Array.map a.eval os.toArray = vs.toArray := by simp [fo.evs hos]
 simp only [execOp, resolve, e1, fo.ev hf, Deferred.ofValue, bind, pure, Sem.bind, invoke, List.append_toArray];simp only [List.nil_append, List.append_nil];rw [run_callFunc_extern h1 h2 h3 h4 h5, hr w j]
 rfl
theorem r9 {el : TypeId} (hu : E.P.underlying t = some (.pointer el)) (hT : unsB E.P el n = true) (hx : fr.ev x = some (ptr b)) (hy : fr.ev y = some (ptr b)) : Ev E fr K L ⟨dst, .binOp .neq t x y t', ty, pos, aft, g⟩ (.bool false) :=
 dC hx hy (fun w => rfl) fun w => by
  unfold unsB at hT;cases hi : E.P.info? el with
  | none => simp [hi] at hT
  | some inf => exact Lib.run_neq_ptr_same w ⟨b, 0, none⟩ hu hi
def vX : Value → Value
 | .slice a _ _ => .pointer a
 | v => v
theorem qV {ats : Array TypeId} (hx : fr.ev x = some v) (h : Hs (sl true (elB e) v xs) L) :
  Ev E fr K L ⟨dst, .call ⟨.builtin .unsafeSliceData, #[x], ats⟩, ty, pos, aft, g⟩ (vX v) := fun a w f j => by
 have e1 : Array.map a.eval #[x] = #[v] := by simp [f.ev hx]
 simp only [execOp, resolve, e1, bind, pure, Sem.bind, invoke, builtin];obtain ⟨M, m1⟩ := h.split;rcases (j.imp m1).slCases with ⟨rfl, rfl, _⟩ | ⟨b, cap, junk, fz, rfl, hz, hc, _⟩
 ·rfl
 ·have h0 : xs ≠ [] := hz rfl;have hl : 0 < xs.length := List.length_pos_iff.2 h0;have hc0 : ¬ cap = 0 := by omega
  show (do pure (Next.value (← Builtin.unsafeSliceData_ ats ty #[.slice (some ⟨b, 0, none⟩) xs.length cap])) : Sem Next).run E.P w = _
  rw [aL (Lib.run_unsafeSliceData_row _ _ _ _ _ _ hc0)]; rfl
theorem oZ {ats : Array TypeId} {M : List Asn} {pt it : TypeId} (ha : ats = #[pt, it]) (hp : E.P.underlying pt = some (.pointer e)) (hc : E.P.cellsOf e = 1) (h63 : xs.length ≤ 9223372036854775807)
  (hx : fr.ev x = some (vX v)) (hy : fr.ev y = some (i64 xs.length)) (hT : Tk (sl true (elB e) v xs) L M) :
  EfS E fr K L ⟨dst, .call ⟨.builtin .unsafeString, #[x, y], ats⟩, ty, pos, aft, g⟩ (fun u K' L' => u = str xs ∧ K' = K ∧ L' = M) := by
 intro a w f j;subst ha;have e1 : Array.map a.eval #[x, y] = #[vX v, i64 xs.length] := by simp [f.ev hx, f.ev hy]
 rcases (j.imp hT.sat).slCases with ⟨rfl, rfl, j0⟩ | ⟨b, cap, junk, fz, rfl, hz, hcp, hjk, hfz, j0⟩
 ·refine ⟨str [], w, K, M, .inl ?_, ⟨rfl, rfl, rfl⟩, Hl.le_refl _, j0⟩
  simp only [execOp, resolve, e1, bind, pure, Sem.bind, invoke, builtin]
  rfl
 ·have h0 : xs ≠ [] := hz rfl;have hb := j0.piece;have hrun := Lib.run_unsafeString_row (P := E.P) (w := w) pt it ty e hp hc b ((elB e).cs xs ++ junk).length (o0 hb) xs h0 (by rw [List.length_append, mH, List.length_map]; omega) h63 (fun i c hi => by
   rw [dP];refine iR hb ?_;rw [mH, List.getElem?_append_left (by simp; exact (List.getElem?_eq_some_iff.1 hi).1)];simp [hi])
  refine ⟨str xs, w.freeze ⟨b, 0, none⟩ xs.length, K, M, .inl ?_, ⟨rfl, rfl, rfl⟩, Hl.le_refl _, ?_⟩
  ·simp only [execOp, resolve, e1, bind, pure, Sem.bind, invoke, builtin, vX]
   show (do pure (Next.value (← Builtin.unsafeString_ #[pt, it] ty #[.pointer (some ⟨b, 0, none⟩), i64 xs.length])) : Sem Next).run E.P w = _
   rw [aL hrun]; rfl
  ·have hl : ¬ xs.length = 0 := by simpa using h0
   have e2 : w.freeze ⟨b, 0, none⟩ xs.length = { w with heap := (w.freeze ⟨b, 0, none⟩ xs.length).heap } := by unfold World.freeze; rw [if_neg hl]
   rw [e2];have hb' : ∃ o', (w.freeze ⟨b, 0, none⟩ xs.length).heap[b]? = some o' := by
    unfold World.freeze; rw [if_neg hl]
    exact ⟨_, by rw [Array.getElem?_modify, if_pos rfl, hb]; rfl⟩
   obtain ⟨o', ho'⟩ := hb';exact (j0.write (H := (w.freeze ⟨b, 0, none⟩ xs.length).heap) (by unfold World.freeze; rw [if_neg hl]; simp) ho' (fun z hz => by
    unfold World.freeze; rw [if_neg hl]
    rw [Array.getElem?_modify, if_neg (fun e => hz e.symm)])).drop
end
theorem eY {E : Env} {x : Exit} {fr : Fr} {K : Hl} {L L' : List Asn} {Q : Post} (k : ∀ h, Sat L h → Sat L' h) (h : D E x fr K L' Q) : D E x fr K L Q := fun a w f i => h a w f (i.imp k)
section
variable {E : Env} {c x y : Code} {fr : Fr} {K : Hl} {L : List Asn} {Q : Post} {α β : Type}
def Rnd2 (E : Env) (I : α → β → Prop) (fr' : α → β → Fr) (K' : α → β → Hl) (L' : α → β → List Asn) (μ : α → β → Nat) (m : Nat) : Act → World → Prop :=
 fun a w => ∃ i j, I i j ∧ μ i j < m ∧ FrOk E.n E.ds (fr' i j) a ∧ In E.w0 E.F (K' i j) (L' i j) w
theorem mV {n1 n2 : Act → World → Prop} (h : ∀ a w, n1 a w → n2 a w) : ∀ e a w, Exit.then n1 Q e a w → Exit.then n2 Q e a w := by
 intro e a w q;cases e <;> first | exact q | exact h _ _ q
theorem l5 (I : α → β → Prop) (fr' : α → β → Fr) (K' : α → β → Hl) (L' : α → β → List Asn) (μ : α → β → Nat) (i0 : α) (j0 : β) (h0 : I i0 j0) (k : Kp fr (fr' i0 j0)) (hK : K' i0 j0 = K) (hL : ∀ h, Sat L h → Sat (L' i0 j0) h)
  (round : ∀ i j, I i j → T E c (fr' i j) (K' i j) (L' i j) (Exit.then (Rnd2 E I fr' K' L' μ (μ i j)) Q)) : T E (.loop c) fr K L Q := by
 refine eW (fun p : α × β => I p.1 p.2) (fun p => fr' p.1 p.2) (fun p => K' p.1 p.2) (fun p => L' p.1 p.2) (fun p => μ p.1 p.2) (i0, j0) h0 k hK hL ?_;rintro ⟨i, j⟩ hI a w f w1;refine Code.wp_mono ?_ (round i j hI a w f w1)
 exact mV fun a w ⟨i', j', h1, h2, h3, h4⟩ => ⟨(i', j'), h1, h2, h3, h4⟩
theorem iC {I : α → β → Prop} {fr' : α → β → Fr} {K' : α → β → Hl} {L' : α → β → List Asn} {μ : α → β → Nat} {m : Nat} (i : α) (j : β) (hj : I i j) (hlt : μ i j < m) (k : Kp fr (fr' i j)) (hK : K' i j = K) (hL : ∀ h, Sat L h → Sat (L' i j) h) :
  D E .normal fr K L (Exit.then (Rnd2 E I fr' K' L' μ m) Q) :=
 fun a w f q => ⟨i, j, hj, hlt, f.keep k, by rw [hK]; exact q.imp hL⟩
def Mid2 (E : Env) (I : α → β → Prop) (fr : α → β → Fr) (K : α → β → Hl) (L : α → β → List Asn) : Act → World → Prop := fun a w => ∃ i j, I i j ∧ FrOk E.n E.ds (fr i j) a ∧ In E.w0 E.F (K i j) (L i j) w
theorem kN (I : α → β → Prop) (fr' : α → β → Fr) (K' : α → β → Hl) (L' : α → β → List Asn) (h1 : T E x fr K L (Exit.then (Mid2 E I fr' K' L') Q)) (h2 : ∀ i j, I i j → T E y (fr' i j) (K' i j) (L' i j) Q) :
  T E (.seq x y) fr K L Q := by
 intro a w f i;refine wp_seq (Code.wp_mono (fun e a w q => ?_) (h1 a w f i))
 cases e <;> first | exact q | (obtain ⟨i, j, hj, fj, ij⟩ := q; exact h2 i j hj _ _ fj ij)
theorem dA {I : α → β → Prop} {fr' : α → β → Fr} {K' : α → β → Hl} {L' : α → β → List Asn} (i : α) (j : β) (hi : I i j) (k : Kp fr (fr' i j)) (hK : K' i j = K) (hL : ∀ h, Sat L h → Sat (L' i j) h) :
  D E .normal fr K L (Exit.then (Mid2 E I fr' K' L') Q) := fun a w f q => ⟨i, j, hi, f.keep k, by rw [hK]; exact q.imp hL⟩
end
end Go.SL
end
section
namespace Go.SL
open Go.MapKept
abbrev Ent := List UInt8 × Value × Nat
def ent (p : Ent) : MapEntry := { key := str p.1, val := p.2.1, born := p.2.2 }
abbrev mapO (es : List Ent) (c : Nat) : Obj := .map (es.map ent).toArray c
def eV (k : List UInt8) : List Ent → Nat → Option (Nat × Value)
 | [], _ => none
 | e :: es, i => if k = e.1 then some (i, e.2.1) else eV k es (i + 1)
def mget (es : List Ent) (k : List UInt8) : Option Value := (es.find? fun e => decide (k = e.1)).map (·.2.1)
theorem vA (a b : List UInt8) : ((⟨a.toArray⟩ : ByteArray) == ⟨b.toArray⟩) = decide (a = b) := by
 show (a.toArray == b.toArray) = _
 by_cases h : a = b
 ·subst h; simp
 ·rw [decide_eq_false h, beq_eq_false_iff_ne];intro e; exact h (by simpa using e)
theorem gW (k : List UInt8) : ∀ (es : List Ent) (i : Nat), Instr.findNow .string (str k) (es.map ent) i = some (eV k es i) := by
 intro es;induction es with
 | nil => intro i; rfl
 | cons e es ih =>
  intro i;simp only [List.map_cons, Instr.findNow, ent, Instr.sameNow, eV];rw [vA]
  by_cases h : k = e.1
  ·simp [h]
  ·simp only [decide_eq_false h, if_neg h];exact ih _
theorem mL (k : List UInt8) : ∀ (es : List Ent) (i : Nat), (eV k es i).map (·.2) = mget es k := by
 intro es;induction es with
 | nil => intro i; rfl
 | cons e es ih =>
  intro i;unfold eV mget
  by_cases h : k = e.1
  ·simp [h]
  ·rw [if_neg h, List.find?_cons, decide_eq_false h];exact ih _
section
variable {E : Env} {fr : Fr} {K : Hl} {L L' : List Asn} {Q : Post} {dst : Option Tmp} {ty : TypeId} {pos : String} {aft : Array Edge} {g : Option (Nat × Bool)} {x y m : Operand} {t t' kt et b c : Nat} {v z : Value} {k : List UInt8} {es : List Ent}
theorem p6 : EfS E fr K L ⟨dst, .makeMap t none, ty, pos, aft, g⟩ (fun u K' L' => ∃ b, u = .map (some b) ∧ K' = K ∧ L' = pt b (mapO [] 0) :: L) := by
 intro a w f j;have : (execOp a.eval ⟨dst, .makeMap t none, ty, pos, aft, g⟩).run E.P w = .ok (.value (.map (some w.heap.size))) { w with heap := w.heap.push (mapO [] 0) } := by
  simp only [execOp];refine cP ?_
  rfl
 exact ⟨_, _, K, _, .inl this, ⟨_, rfl, rfl, rfl⟩, Hl.le_refl _, j.alloc _⟩
theorem oA (hm : E.P.underlying t = some (.map kt et)) (hk : E.P.underlying kt = some .string) (hz : pE E.P et = some z) (hx : fr.ev x = some (.map (some b))) (hy : fr.ev y = some (str k)) (hs : Sees K L b (mapO es c)) :
  Ev E fr K L ⟨dst, .lookup t x y true, ty, pos, aft, g⟩ (.tuple #[(mget es k).getD z, .bool (mget es k).isSome]) := fun a w f j => by
 simp only [execOp, f.ev hx, f.ev hy];refine cP ?_;have hb := hs.at j;have h1 : (Instr.checkKey (es.map ent).toArray.isEmpty 10000 kt (str k)).run E.P w = .ok () w := run_checkKey hk (d := .string) (k := str k) trivial _ 9999;have h2 := run_findKey (w := w) (kt := kt) hk (gW k es 0);have h3 : (zeroValue et).run E.P w = .ok z w := by
  unfold pE at hz;cases hi : E.P.info? et with
  | none => simp [hi] at hz
  | some inf => simp [hi] at hz; simp only [zeroValue, typeInfo, program, bind, Sem.bind, pure, Sem.run, hi, hz]
 have h4 := mL k es 0;unfold Instr.lookup;rw [aL (run_underlying hm w)];simp only []
 show ((getObj b) >>= fun _ => _).run E.P w = _
 rw [aL (MapKept.run_getObj_map hb)];simp only [];rw [aL (s0 _ _), aL h1]
 show ((Instr.findKey kt (str k) (es.map ent)) >>= fun _ => _).run E.P w = _
 rw [aL h2, ← h4];cases eV k es 0 with
 | some p => rfl
 | none =>
  show ((zeroValue et) >>= fun _ => _).run E.P w = _
  rw [aL h3]; rfl
theorem uI {k : List UInt8} {es : List Ent} : ∀ {i : Nat}, eV k es i = none → es.any (fun e => decide (k = e.1)) = false := by
 induction es with
 | nil => intro i h; rfl
 | cons e es ih =>
  intro i h;unfold eV at h;split at h
  ·cases h
  ·rename_i hne;rw [List.any_cons, decide_eq_false hne, Bool.false_or];exact ih h
theorem oV {P : Program} {w : World} (hm : P.underlying t = some (.map kt et)) (hk : P.underlying kt = some .string) (hb : w.heap[b]? = some (mapO es c)) (hn : es.any (fun e => decide (k = e.1)) = false) :
  (Instr.mapUpdate t (.map (some b)) (str k) v).run P w = .ok () { w with heap := w.heap.setIfInBounds b (mapO (es ++ [(k, v, c)]) (c + 1)) } := by
 have hf : eV k es 0 = none := by
  have : ∀ (es : List Ent) (i : Nat), es.any (fun e => decide (k = e.1)) = false → eV k es i = none := by
   intro es;induction es with
   | nil => intro i h; rfl
   | cons e es ih =>
    intro i h;rw [List.any_cons, Bool.or_eq_false_iff] at h;unfold eV;rw [if_neg (by simpa using h.1)];exact ih _ h.2
  exact this es 0 hn
 have h1 : (Instr.checkKey false 10000 kt (str k)).run P w = .ok () w := run_checkKey hk (d := .string) (k := str k) trivial _ 9999;have h2 := run_findKey (w := w) (kt := kt) hk (gW k es 0);unfold Instr.mapUpdate;rw [aL (run_underlying hm w)];simp only []
 show ((getObj b) >>= fun _ => _).run P w = _
 rw [aL (MapKept.run_getObj_map hb)];simp only [];rw [aL h1]
 show ((Instr.findKey kt (str k) (es.map ent)) >>= fun _ => _).run P w = _
 rw [aL h2, hf]
 show (setObj b _).run P w = _
 rw [MapKept.run_setObj_map _ hb];have e1 : (es.map ent).toArray.push { key := str k, val := v, born := c } = ((es ++ [(k, v, c)]).map ent).toArray := by simp [ent]
 rw [e1]
end
section
variable {E : Env} {c x y : Code} {fr : Fr} {K : Hl} {L : List Asn} {Q : Post} {α β γ : Type}
def Rnd3 (E : Env) (I : α → β → γ → Prop) (fr' : α → β → γ → Fr) (K' : α → β → γ → Hl) (L' : α → β → γ → List Asn) (μ : α → β → γ → Nat) (m : Nat) : Act → World → Prop :=
 fun a w => ∃ i j k, I i j k ∧ μ i j k < m ∧ FrOk E.n E.ds (fr' i j k) a ∧ In E.w0 E.F (K' i j k) (L' i j k) w
theorem g0 (I : α → β → γ → Prop) (fr' : α → β → γ → Fr) (K' : α → β → γ → Hl) (L' : α → β → γ → List Asn) (μ : α → β → γ → Nat) (i0 : α) (j0 : β) (k0 : γ) (h0 : I i0 j0 k0) (k : Kp fr (fr' i0 j0 k0)) (hK : K' i0 j0 k0 = K) (hL : ∀ h, Sat L h → Sat (L' i0 j0 k0) h)
  (round : ∀ i j k, I i j k → T E c (fr' i j k) (K' i j k) (L' i j k) (Exit.then (Rnd3 E I fr' K' L' μ (μ i j k)) Q)) : T E (.loop c) fr K L Q := by
 refine eW (fun p : α × β × γ => I p.1 p.2.1 p.2.2) (fun p => fr' p.1 p.2.1 p.2.2) (fun p => K' p.1 p.2.1 p.2.2) (fun p => L' p.1 p.2.1 p.2.2) (fun p => μ p.1 p.2.1 p.2.2) (i0, j0, k0) h0 k hK hL ?_;rintro ⟨i, j, k⟩ hI a w f w1;refine Code.wp_mono ?_ (round i j k hI a w f w1)
 exact mV fun a w ⟨i', j', k', h1, h2, h3, h4⟩ => ⟨(i', j', k'), h1, h2, h3, h4⟩
theorem fL {I : α → β → γ → Prop} {fr' : α → β → γ → Fr} {K' : α → β → γ → Hl} {L' : α → β → γ → List Asn} {μ : α → β → γ → Nat} {m : Nat} (i : α) (j : β) (l : γ) (hj : I i j l) (hlt : μ i j l < m) (k : Kp fr (fr' i j l)) (hK : K' i j l = K) (hL : ∀ h, Sat L h → Sat (L' i j l) h) :
  D E .normal fr K L (Exit.then (Rnd3 E I fr' K' L' μ m) Q) :=
 fun a w f q => ⟨i, j, l, hj, hlt, f.keep k, by rw [hK]; exact q.imp hL⟩
end
theorem In.forget {w0 w : World} {F K K1 : Hl} {L : List Asn} (le : K.le K1) (i : In w0 F K1 L w) : In w0 F K L w := by
 obtain ⟨h, hs, d1, d2, d3, l1, l2, l3⟩ := i.rep;have dd : ∀ {k : Hl}, K1.dj k → K.dj k := by
  intro k d x;rcases d x with e | e
  ·left
   cases hk : K x with
   | none => rfl
   | some o => rw [le x o hk] at e; cases e
  ·exact .inr e
 exact ⟨i.os, i.tape, i.output, i.size, h, hs, (dd d1.symm).symm, d2, dd d3, l1, Hl.le_trans le l2, l3⟩
theorem aCV {P : Program} {f : FuncId} {args : List Value} {K : Hl} {L : List Asn} {R : Ending → List Asn → Prop} (h : Sp P f args K L (fun e _ L' => R e L')) : Sp P f args K L (fun e K' L' => K' = K ∧ R e L') :=
 ⟨h.1, fun F w i => (h.2 F w i).mono fun e w' ⟨K', L', hR, le, j⟩ => ⟨K, L', ⟨rfl, hR⟩, Hl.le_refl _, j.forget le⟩⟩
theorem zB {E : Env} {x : Exit} {fr : Fr} {K : Hl} {L : List Asn} {Q : Post} {b : Nat} {o : Obj} (h : ∀ K', K.le K' → K' b = some o → D E x fr K' L Q) : D E x fr K (pt b o :: L) Q := fun a w f i => let ⟨h1, h2, h3⟩ := i.settle; h _ h1 h2 a w f h3
end Go.SL
end
section
namespace Go.SL
theorem In.settleSl {α : Type} {z : Bool} {k : El α} {w0 w : World} {F K : Hl} {v : Value} {xs : List α} {L : List Asn} (i : In w0 F K (sl z k v xs :: L) w) :
  ∃ K', K.le K' ∧ Ksl k K' v xs ∧ In w0 F K' L w := by
 obtain ⟨h, ⟨a, l, ha, hl, hal, rfl⟩, r⟩ := i.rep;rcases ha with ⟨rfl, rfl, rfl⟩ | ⟨b, cap, junk, fz, rfl, hz, hc, hj, hf, rfl⟩
 ·refine ⟨K, Hl.le_refl _, .inl ⟨none, 0, rfl, rfl⟩, ⟨i.os, i.tape, i.output, i.size, l, hl, ?_⟩⟩
  have e : Hl.join Hl.emp l = l := by funext x; simp [Hl.join, Hl.emp]
  rw [e] at r; exact r
 ·have i2 : In w0 F K (pt b (aW (k.cs xs ++ junk) k.e fz) :: L) w := ⟨i.os, i.tape, i.output, i.size, _, ⟨_, l, rfl, hl, hal, rfl⟩, r⟩;obtain ⟨h1, h2, h3⟩ := i2.settle;refine ⟨_, h1, .inr ⟨b, 0, cap, k.cs xs ++ junk, fz, rfl, ⟨_, h2⟩, ?_⟩, h3⟩
  rw [List.drop_zero, ← k.cs_length, List.take_left]
section
variable {E : Env} {c : Code} {ops : Array Oper} {x : Exit} {fr : Fr} {K : Hl} {L : List Asn} {Q : Post} {α : Type} {z : Bool} {k : El α} {v : Value} {xs : List α}
theorem dU (h : ∀ K', K.le K' → Ksl k K' v xs → T E c fr K' L Q) : T E c fr K (sl z k v xs :: L) Q := fun a w f i => let ⟨_, h1, h2, h3⟩ := i.settleSl; h _ h1 h2 a w f h3
theorem sU {l : List Oper} (h : ∀ K', K.le K' → Ksl k K' v xs → OL E ops l fr K' L Q) : OL E ops l fr K (sl z k v xs :: L) Q := fun a w f i => let ⟨_, h1, h2, h3⟩ := i.settleSl; h _ h1 h2 a w f h3
end
theorem Ksl.one {α : Type} {k : El α} {K : Hl} {v : Value} {xs : List α} (h : Ksl k K v xs) : v.oneCell' = true := by
 rcases h with ⟨a0, c, rfl, _⟩ | ⟨b, off, cap, cells, fz, rfl, _, _⟩ <;> rfl
theorem Ksl.isSlice {α : Type} {k : El α} {K : Hl} {v : Value} {xs : List α} (h : Ksl k K v xs) : ∃ a n c, v = .slice a n c := by
 rcases h with ⟨a0, c, rfl, _⟩ | ⟨b, off, cap, cells, fz, rfl, _, _⟩
 ·exact ⟨_, _, _, rfl⟩
 ·exact ⟨_, _, _, rfl⟩
theorem dZ {α : Type} (k : El α) {L : List Asn} : ∀ h, Sat L h → Sat (sl false k (.slice none 0 0) [] :: L) h := fun h hh =>
 ⟨Hl.emp, h, .inl ⟨rfl, rfl, rfl⟩, hh, fun _ => .inl rfl, by funext x; simp [Hl.join, Hl.emp]⟩
abbrev Cell := { v : Value // v.oneCell' = true }
def hQ (e : TypeId) : El Cell := { e := e, sz := 1, enc := fun c => [c.1], len := fun _ => rfl, one := fun c u h => by simp at h; subst h; exact c.2 }
def aBQ (e : TypeId) : El (Cell × Cell) := { e := e, sz := 2, enc := fun c => [c.1.1, c.2.1], len := fun _ => rfl, one := fun c u h => by simp at h; rcases h with rfl | rfl; exact c.1.2; exact c.2.2 }
section
variable {E : Env} {c x y : Code} {fr : Fr} {K : Hl} {L : List Asn} {Q : Post} {α β γ δ : Type}
def Rnd4 (E : Env) (I : α → β → γ → δ → Prop) (fr' : α → β → γ → δ → Fr) (K' : α → β → γ → δ → Hl) (L' : α → β → γ → δ → List Asn) (μ : α → β → γ → δ → Nat) (m : Nat) : Act → World → Prop :=
 fun a w => ∃ i j k l, I i j k l ∧ μ i j k l < m ∧ FrOk E.n E.ds (fr' i j k l) a ∧ In E.w0 E.F (K' i j k l) (L' i j k l) w
theorem l6 (I : α → β → γ → δ → Prop) (fr' : α → β → γ → δ → Fr) (K' : α → β → γ → δ → Hl) (L' : α → β → γ → δ → List Asn) (μ : α → β → γ → δ → Nat) (i0 : α) (j0 : β) (k0 : γ) (l0 : δ) (h0 : I i0 j0 k0 l0) (k : Kp fr (fr' i0 j0 k0 l0)) (hK : K' i0 j0 k0 l0 = K) (hL : ∀ h, Sat L h → Sat (L' i0 j0 k0 l0) h)
  (round : ∀ i j k l, I i j k l → T E c (fr' i j k l) (K' i j k l) (L' i j k l) (Exit.then (Rnd4 E I fr' K' L' μ (μ i j k l)) Q)) : T E (.loop c) fr K L Q := by
 refine eW (fun p : α × β × γ × δ => I p.1 p.2.1 p.2.2.1 p.2.2.2) (fun p => fr' p.1 p.2.1 p.2.2.1 p.2.2.2) (fun p => K' p.1 p.2.1 p.2.2.1 p.2.2.2) (fun p => L' p.1 p.2.1 p.2.2.1 p.2.2.2) (fun p => μ p.1 p.2.1 p.2.2.1 p.2.2.2) (i0, j0, k0, l0) h0 k hK hL ?_;rintro ⟨i, j, k, l⟩ hI a w f w1;refine Code.wp_mono ?_ (round i j k l hI a w f w1)
 exact mV fun a w ⟨i', j', k', l', h1, h2, h3, h4⟩ => ⟨(i', j', k', l'), h1, h2, h3, h4⟩
theorem d8 {I : α → β → γ → δ → Prop} {fr' : α → β → γ → δ → Fr} {K' : α → β → γ → δ → Hl} {L' : α → β → γ → δ → List Asn} {μ : α → β → γ → δ → Nat} {m : Nat} (i : α) (j : β) (l : γ) (n : δ) (hj : I i j l n) (hlt : μ i j l n < m) (k : Kp fr (fr' i j l n)) (hK : K' i j l n = K) (hL : ∀ h, Sat L h → Sat (L' i j l n) h) :
  D E .normal fr K L (Exit.then (Rnd4 E I fr' K' L' μ m) Q) :=
 fun a w f q => ⟨i, j, l, n, hj, hlt, f.keep k, by rw [hK]; exact q.imp hL⟩
end
section
variable {E : Env} {c x y : Code} {fr : Fr} {K : Hl} {L : List Asn} {Q : Post} {α1 α2 α3 α4 α5 α6 α7 : Type}
end
end Go.SL
end
section
namespace Go.SL
section
variable {H : Type} {enc : TypeId × Value → H} {P : Program} {w : World} {base : Nat} {sp : Nat → Bool} {held : Bool} {n : Nat} {t : TypeId} {cs : List Value} {x : DataW H × List MemPlace}
theorem jW {α β : Type} {f : α → Option β} : ∀ {l : List α} {r : List β}, l.mapM f = some r → r.length = l.length ∧ ∀ (i : Nat) (a : α), l[i]? = some a → ∃ y, f a = some y ∧ r[i]? = some y
 | [], r, h => by simp at h; subst h; exact ⟨rfl, fun i a h => by simp at h⟩
 | b :: l, r, h => by
  rw [List.mapM_cons] at h;cases hb : f b with
  | none => simp [hb] at h
  | some y =>
   simp [hb] at h;cases hl : l.mapM f with
   | none => simp [hl] at h
   | some ys =>
    simp [hl] at h;subst h;obtain ⟨h1, h2⟩ := jW hl;refine ⟨by simp [h1], fun i a hi => ?_⟩
    cases i with
    | zero => simp at hi; subst hi; exact ⟨y, hb, rfl⟩
    | succ i => simpa using h2 i a (by simpa using hi)
theorem iM (h : DataW.trod enc P w base sp held n t cs = some x) : ∃ m, n = m + 1 ∧ DataW.trodStep enc P w base sp held (DataW.trod enc P w base sp held m) t cs = some x := by
 cases n with
 | zero => simp [DataW.trod] at h
 | succ m => exact ⟨m, rfl, h⟩
theorem aA2 (hu : P.underlying t = some .string) (h : DataW.trod enc P w base sp held n t cs = some x) : ∃ l : List UInt8, cs = [str l] ∧ x.1 = .lit (.string l) := by
 obtain ⟨m, hm0, h2⟩ := iM h;clear h;have h := h2;clear h2 hm0;unfold DataW.trodStep at h;rw [hu] at h;cases cs with
 | nil => simp at h
 | cons c r =>
  cases r with
  | cons c2 r2 => cases c <;> simp at h
  | nil =>
   cases c <;> simp at h
   rename_i s;refine ⟨s.data.toList, ?_, by rw [← h.2]⟩
   cases s; simp
theorem iL {k : IntKind} (hu : P.underlying t = some (.int k)) (h : DataW.trod enc P w base sp held n t cs = some x) : ∃ i : Int, cs = [.int k i] ∧ (Lit.int k i).wf = true := by
 obtain ⟨m, hm0, h2⟩ := iM h;clear h;have h := h2;clear h2 hm0;unfold DataW.trodStep at h;rw [hu] at h;cases cs with
 | nil => simp at h
 | cons c r =>
  cases r with
  | cons c2 r2 => cases c <;> simp at h
  | nil =>
   cases c <;> simp at h
   rename_i k' i;obtain ⟨⟨rfl, h2⟩, _⟩ := h;exact ⟨i, rfl, h2⟩
theorem yE (hu : P.underlying t = some .bool) (h : DataW.trod enc P w base sp held n t cs = some x) : ∃ b : Bool, cs = [.bool b] := by
 obtain ⟨m, hm0, h2⟩ := iM h;clear h;have h := h2;clear h2 hm0;unfold DataW.trodStep at h;rw [hu] at h;cases cs with
 | nil => simp at h
 | cons c r =>
  cases r with
  | cons c2 r2 => cases c <;> simp at h
  | nil =>
   cases c <;> simp at h
   rename_i b;exact ⟨b, rfl⟩
theorem rJ {fs : Array Field} (hu : P.underlying t = some (.struct fs)) (h : DataW.trod enc P w base sp held n t cs = some x) :
  ∃ m, cs.length = P.cellsOf t ∧ ∀ (i : Nat) f, fs.toList[i]? = some f → ∃ y, DataW.trod enc P w base sp held m f.type ((cs.drop f.offset).take (P.cellsOf f.type)) = some y ∧ (∀ n ∈ y.1.weights P f.type, n ∈ x.1.weights P t) ∧ ∃ parts, x.1 = .agg parts ∧ y.1 ∈ parts := by
 obtain ⟨m, hm0, h2⟩ := iM h;clear h;have h := h2;clear h2 hm0;unfold DataW.trodStep at h;rw [hu] at h;simp only [] at h;split at h
 ·rename_i hl;refine ⟨m, hl, fun i f hf => ?_⟩
  cases hm : fs.toList.mapM fun f => DataW.trod enc P w base sp held m f.type ((cs.drop f.offset).take (P.cellsOf f.type)) with
  | none => rw [hm] at h; cases h
  | some r =>
   rw [hm] at h;have hx := Option.some.inj h;obtain ⟨y, h1, h2⟩ := (jW hm).2 i f hf;refine ⟨y, h1, fun n hn => ?_, r.map (·.1), by rw [← hx], List.mem_map_of_mem (List.mem_of_getElem? h2)⟩
   rw [← hx];simp only [DataW.weights, hu];exact DataW.weights_mem_each (j := i) (by simp [hf]) (by simp [h2]) n hn
 ·cases h
theorem nH {fs : Array Field} (hu : P.underlying t = some (.struct fs)) (h : DataW.trod enc P w base sp held n t cs = some x) :
  ∃ m, cs.length = P.cellsOf t ∧ ∀ (i : Nat) f, fs.toList[i]? = some f → ∃ y, DataW.trod enc P w base sp held m f.type ((cs.drop f.offset).take (P.cellsOf f.type)) = some y ∧ ∀ n ∈ y.1.weights P f.type, n ∈ x.1.weights P t :=
 let ⟨m, h1, h2⟩ := rJ hu h; ⟨m, h1, fun i f hf => let ⟨y, h3, h4, _⟩ := h2 i f hf; ⟨y, h3, h4⟩⟩
theorem jL {e : TypeId} {d : DataW H} : ∀ {l : List (DataW H)}, d ∈ l → ∀ n ∈ d.weights P e, n ∈ DataW.weightsAll P e l
 | [], h, _, _ => by cases h
 | a :: l, h, n, hn => by
  rw [DataW.weightsAll, List.mem_append];rcases List.mem_cons.1 h with rfl | h
  ·exact .inl hn
  ·exact .inr (jL h n hn)
theorem m6 {α : Type} {Q : Nat → α → Prop} : ∀ n, (∀ i, i < n → ∃ a, Q i a) → ∃ xs : List α, xs.length = n ∧ ∀ i x, xs[i]? = some x → Q i x
 | 0, _ => ⟨[], rfl, fun i x h => by simp at h⟩
 | n + 1, h => by
  obtain ⟨xs, h1, h2⟩ := m6 n fun i hi => h i aI
  obtain ⟨a, ha⟩ := h n aI;refine ⟨xs ++ [a], by simp [h1], fun i x hx => ?_⟩
  rcases Nat.lt_or_ge i xs.length with hi | hi
  ·rw [List.getElem?_append_left hi] at hx; exact h2 i x hx
  ·rw [List.getElem?_append_right hi] at hx;have : i = n := by
    rcases Nat.lt_or_ge (i - xs.length) 1 with h' | h'
    ·omega
    ·rw [List.getElem?_eq_none (by simpa using h')] at hx; cases hx
   subst this;have e : i - xs.length = 0 := by omega
   rw [e] at hx; simp at hx; subst hx; exact ha
theorem aCH (μ : DataW H → Nat) (hμ : ∀ (l r : List (DataW H)) (d : DataW H), d ∈ l → μ d ≤ μ (.slice l r)) {α : Type} {k : El α} {G : α → Prop} {v : Value} (hu : P.underlying t = some (.slice k.e)) (hc : P.cellsOf k.e = k.sz) (hsz : 0 < k.sz)
  (helt : ∀ n cs y, DataW.trod enc P w base sp held n k.e cs = some y → (∀ n ∈ y.1.weights P k.e, n ∈ x.1.weights P t) → μ y.1 ≤ μ x.1 → ∃ a, cs = k.enc a ∧ G a) (h : DataW.trod enc P w base sp held n t [v] = some x) :
  ∃ xs, Ksl k (hp w) v xs ∧ (∀ a ∈ xs, G a) ∧ (xs = [] ∨ ∃ n ∈ x.1.weights P t, xs.length * P.bytesOf k.e ≤ n) := by
 obtain ⟨m, hm0, h2⟩ := iM h;clear h;have h := h2;clear h2 hm0;unfold DataW.trodStep at h;rw [hu] at h;cases v with
 | slice a len cap =>
  cases a with
  | none =>
   cases len with
   | succ l => simp at h
   | zero => exact ⟨[], .inl ⟨none, cap, rfl, rfl⟩, by simp, by simp⟩
  | some a =>
   simp only [hc] at h;split at h
   ·rename_i hb;cases hm : (List.range len).mapM fun i => (w.cells? base (a.add (i * k.sz)) k.sz).bind (DataW.trod enc P w base sp held m k.e) with
    | none => rw [hm] at h; cases h
    | some r =>
     rw [hm] at h;obtain ⟨rest, hrest, hx⟩ : ∃ rest, True ∧ x = (DataW.slice (r.map (·.1)) (rest.map (·.1)), MemPlace.row a ((r.length + rest.length) * k.sz) ++ (r ++ rest).flatMap (·.2)) := by
      simp only [Option.bind_some] at h;split at h
      ·cases h2 : ((List.range (cap - len)).mapM fun j => (w.cells? base (a.add ((len + j) * k.sz)) k.sz).bind (DataW.trod enc P w base sp held m k.e)) with
       | none => rw [h2] at h; cases h
       | some rest => rw [h2] at h; exact ⟨rest, trivial, (Option.some.inj h).symm⟩
      ·exact ⟨[], trivial, (Option.some.inj h).symm⟩
     clear h;have hw1 : ∀ y ∈ r, ∀ n ∈ y.1.weights P k.e, n ∈ x.1.weights P t := by
      intro y hy n hn;rw [hx];simp only [DataW.weights, hu];exact List.mem_cons_of_mem _ (List.mem_append_left _ (jL (List.mem_map_of_mem hy) n hn))
     have hw3 : ∀ y ∈ r, μ y.1 ≤ μ x.1 := fun y hy => by rw [hx]; exact hμ _ _ _ (List.mem_map_of_mem hy)
     have hw2 : (r.length + rest.length) * P.bytesOf k.e ∈ x.1.weights P t := by
      rw [hx];simp only [DataW.weights, hu, List.length_map];exact List.mem_cons_self
     have hrl : r.length = len := by have := (jW hm).1; simpa using this
     by_cases hl0 : len = 0
     ·subst hl0; exact ⟨[], .inl ⟨some a, cap, rfl, rfl⟩, by simp, by simp⟩
     have hel : ∀ i, i < len → ∃ y : α, w.cells? base (a.add (i * k.sz)) k.sz = some (k.enc y) ∧ G y := by
      intro i hi;obtain ⟨z, hz, hzr⟩ := (jW hm).2 i i (by simp [hi]);cases hcs : w.cells? base (a.add (i * k.sz)) k.sz with
      | none => rw [hcs] at hz; cases hz
      | some ds =>
       rw [hcs] at hz;obtain ⟨y, rfl, hG⟩ := helt m ds z hz (hw1 z (List.mem_of_getElem? hzr)) (hw3 z (List.mem_of_getElem? hzr));exact ⟨y, rfl, hG⟩
     obtain ⟨xs, hx1, hx2⟩ := m6 len hel;have hcell : ∀ i y, xs[i]? = some y → ∀ j, j < k.sz → ∃ c, (k.enc y)[j]? = some c ∧ w.cell? ((a.add (i * k.sz)).add j) = some c := by
      intro i y hy j hj;have h1 := (hx2 i y hy).1;unfold World.cells? at h1;split at h1
      ·obtain ⟨_, h3⟩ := jW h1;obtain ⟨c, h4, h5⟩ := h3 j j (by simp [hj]);exact ⟨c, h5, h4⟩
      ·cases h1
     obtain ⟨y0, hy0⟩ : ∃ y, xs[0]? = some y := ⟨xs[0]'(by omega), List.getElem?_eq_getElem aI⟩;obtain ⟨c0, _, hc0⟩ := hcell 0 y0 hy0 0 hsz;obtain ⟨b, off, spot⟩ := a;have hsp : spot = none := by
      have := World.cell?_spot hc0
      simpa [Addr.add] using this
     subst hsp;have hcl : ∀ i y, xs[i]? = some y → ∀ j, j < k.sz → ∃ c, (k.enc y)[j]? = some c ∧ w.cell? ⟨b, off + i * k.sz + j, none⟩ = some c := by
      intro i y hy j hj;obtain ⟨c, h1, h2⟩ := hcell i y hy j hj;rw [dP, dP] at h2;exact ⟨c, h1, h2⟩
     have hblk : ∃ cells u fz, w.heap[b]? = some (aW cells u fz) := by
      obtain ⟨c, _, h2⟩ := hcl 0 y0 hy0 0 hsz;unfold World.cell? at h2;cases hw : w.heap[b]? with
      | none => simp [hw] at h2
      | some o =>
       cases o <;> simp [hw] at h2
       rename_i arr u fz;exact ⟨arr.toList, u, fz, by simp⟩
     obtain ⟨cells, u, fz, hblk⟩ := hblk;have hcl2 : ∀ i y, xs[i]? = some y → ∀ j, j < k.sz → (k.enc y)[j]? = cells[off + i * k.sz + j]? := by
      intro i y hy j hj;obtain ⟨c, h1, h2⟩ := hcl i y hy j hj;have h3 : cells[off + i * k.sz + j]? = some c := by simpa [World.cell?, hblk] using h2
      rw [h1, h3]
     refine ⟨xs, .inr ⟨b, off, cap, cells, fz, by rw [hx1], ⟨u, hblk⟩, ?_⟩, fun y hy => ?_, .inr ⟨_, hw2, Nat.mul_le_mul_right _ aI⟩⟩
     ·
      have key : ∀ (ys : List α) (o : Nat), (∀ i y, ys[i]? = some y → ∀ j, j < k.sz → (k.enc y)[j]? = cells[o + i * k.sz + j]?) → (cells.drop o).take (ys.length * k.sz) = k.cs ys := by
       intro ys;induction ys with
       | nil => intro o _; simp [El.cs]
       | cons y ys ih =>
        intro o hh;have h1 := ih (o + k.sz) (fun i z hz j hj => by
         have := hh (i + 1) z (by simpa using hz) j hj;rw [this]; congr 1; rw [Nat.succ_mul]; omega)
        have h0 : (cells.drop o).take k.sz = k.enc y := by
         refine List.ext_getElem? fun j => ?_
         rw [List.getElem?_take];split
         ·rename_i hj;rw [List.getElem?_drop];have := hh 0 y rfl j hj
          simpa using this.symm
         ·rename_i hj;rw [List.getElem?_eq_none (by rw [k.len]; omega)]
        show (cells.drop o).take ((ys.length + 1) * k.sz) = k.enc y ++ k.cs ys
        rw [← h0, ← h1, Nat.succ_mul, Nat.add_comm, List.take_add, List.drop_drop]
      exact key xs off (fun i y hy j hj => hcl2 i y hy j hj)
     ·obtain ⟨i, hi⟩ := List.getElem?_of_mem hy;exact (hx2 i y hi).2
   ·cases h
 | _ => simp at h
theorem uG {α : Type} {k : El α} {G : α → Prop} {v : Value} (hu : P.underlying t = some (.slice k.e)) (hc : P.cellsOf k.e = k.sz) (hsz : 0 < k.sz)
  (helt : ∀ n cs y, DataW.trod enc P w base sp held n k.e cs = some y → (∀ n ∈ y.1.weights P k.e, n ∈ x.1.weights P t) → ∃ a, cs = k.enc a ∧ G a) (h : DataW.trod enc P w base sp held n t [v] = some x) :
  ∃ xs, Ksl k (hp w) v xs ∧ (∀ a ∈ xs, G a) ∧ (xs = [] ∨ ∃ n ∈ x.1.weights P t, xs.length * P.bytesOf k.e ≤ n) :=
 aCH (fun _ => 0) (fun _ _ _ _ => Nat.le_refl _) hu hc hsz (fun n cs y h1 h2 _ => helt n cs y h1 h2) h
end
end Go.SL
end
section
namespace Go.SL
section
variable {E : Env} {fr : Fr} {K : Hl} {L : List Asn} {Q : Post} {ops : Array Oper} {rest : List Oper}
end
section
variable {P : Program} {fn : Func} {n : Nat} {w0 : World} {F K0 K : Hl} {fr : Fr} {L L1 L2 : List Asn} {R : Ending → Hl → List Asn → Prop}
end
inductive Way : Exit → FrameMode → Prop where
 | norm : Way .normal .returning
 | ret : Way .ret .returning
 | pan (ch : List PanicEntry) : Way (.panic ch) (.panicking ch)
theorem Way.post {x : Exit} {u : FrameMode} (h : Way x u) {P : Program} {fn : Func} {R : Ending → World → Prop} {a : Act} {w : World} (k : Leaves P fn a.tmps R a.defers u w) : bodyPostD P fn R x a w := by
 cases h <;> exact k
section
variable {P : Program} {fn : Func} {n : Nat} {w0 : World} {F K0 K : Hl} {fr : Fr} {L L1 L2 M : List Asn} {R : Ending → Hl → List Asn → Prop} {x : Exit} {u u' : FrameMode} {f : FuncId} {caps : Array Value} {t1 t2 t3 : Nat} {T1 T2 T3 b1 b2 b3 : Nat} {RD : Ending → Hl → List Asn → Prop}
end
end Go.SL
end
section
namespace Go.SL
section
variable {E : Env} {fr : Fr} {K : Hl} {L : List Asn} {Q : Post} {dst : Option Tmp} {ty : TypeId} {pos : String} {aft : Array Edge} {g : Option (Nat × Bool)} {x y : Operand} {t t' u : TypeId} {v : Value} {ms : Array (String × TypeId)}
theorem jT {P : Program} (w : World) (hu : P.underlying t = some (.interface ms)) : (Op.equal t (.iface u v) .nilIface).run P w = .ok false w := by
 have h : ∀ d : Nat, (Op.equalIn (d + 1) t (.iface u v) .nilIface).run P w = .ok false w := fun d => by simp [Op.equalIn, run_underlying hu]
 exact h 9999
theorem kW {P : Program} (w : World) (hu : P.underlying t = some (.interface ms)) : (Op.equal t .nilIface .nilIface).run P w = .ok true w := by
 have h : ∀ d : Nat, (Op.equalIn (d + 1) t .nilIface .nilIface).run P w = .ok true w := fun d => by simp [Op.equalIn, run_underlying hu]
 exact h 9999
theorem fR (hu : E.P.underlying t = some (.interface ms)) (hx : fr.ev x = some (.iface u v)) (hy : fr.ev y = some .nilIface) : Ev E fr K L ⟨dst, .binOp .neq t x y t', ty, pos, aft, g⟩ (.bool true) :=
 dC hx hy (fun w => by first | rfl | (unfold eqGuard; simp [run_underlying hu])) fun w => by
  simp only [binOp];rw [aL (jT w hu)]; rfl
theorem eP (hu : E.P.underlying t = some (.interface ms)) (hx : fr.ev x = some .nilIface) : Ev E fr K L ⟨dst, .binOp .neq t x (.const .nilIface) t', ty, pos, aft, g⟩ (.bool false) :=
 dC hx (v := .nilIface) rfl (fun w => by unfold eqGuard; simp) fun w => by
  simp only [binOp];rw [aL (kW w hu)]; rfl
theorem fC (hu : E.P.underlying t = some (.interface ms)) (hx : fr.ev x = some (.iface u v)) (hy : fr.ev y = some .nilIface) : Ev E fr K L ⟨dst, .binOp .eql t x y t', ty, pos, aft, g⟩ (.bool false) :=
 dC hx hy (fun w => by first | rfl | (unfold eqGuard; simp [run_underlying hu])) fun w => by
  simp only [binOp];rw [aL (jT w hu)]; rfl
theorem tU (hu : E.P.underlying t = some (.interface ms)) (hx : fr.ev x = some .nilIface) : Ev E fr K L ⟨dst, .binOp .eql t x (.const .nilIface) t', ty, pos, aft, g⟩ (.bool true) :=
 dC hx (v := .nilIface) rfl (fun w => by unfold eqGuard; simp) fun w => by
  simp only [binOp];rw [aL (kW w hu)]; rfl
end
end Go.SL
end
section
namespace Go.SL
theorem mP {v : Value} : ∀ {l : List Value} {o : Nat}, o < l.length → SetAt l o v (l.set o v) := by
 intro l;induction l with
 | nil => intro o h; simp at h
 | cons a l ih =>
  intro o h;cases o with
  | zero => exact .zero
  | succ o => exact .succ (ih (by simpa using h))
section
variable {α : Type} {k : El α} {z : Bool} {v : Value} {xs : List α}
theorem cs_set (k : El α) {i j : Nat} {u : Value} {x x' : α} {junk : List Value} (hj : j < k.sz) (he : (k.enc x).set j u = k.enc x') : ∀ {xs : List α}, xs[i]? = some x → (k.cs xs ++ junk).set (i * k.sz + j) u = k.cs (xs.set i x') ++ junk := by
 induction i with
 | zero =>
  intro xs hx;cases xs with
  | nil => simp at hx
  | cons y xs =>
   simp at hx; subst hx
   simp only [El.cs, List.flatMap_cons, List.set_cons_zero, Nat.zero_mul, Nat.zero_add, List.append_assoc];rw [List.set_append_left _ _ (by rw [k.len]; exact hj), he]
 | succ i ih =>
  intro xs hx;cases xs with
  | nil => simp at hx
  | cons y xs =>
   have := ih (by simpa using hx);simp only [El.cs, List.flatMap_cons, List.set_cons_succ, List.append_assoc] at this ⊢;rw [List.set_append_right _ _ (by rw [k.len, Nat.succ_mul]; omega), k.len, show (i + 1) * k.sz + j - k.sz = i * k.sz + j from by rw [Nat.succ_mul]; omega, this]
end
end Go.SL
end
section
namespace Go.SL
open Go.MapKept
def mset (k : List UInt8) (v : Value) (c : Nat) : List Ent → List Ent
 | [] => [(k, v, c)]
 | e :: es => if k = e.1 then (e.1, v, e.2.2) :: es else e :: mset k v c es
def jJ (es : List Ent) (k : List UInt8) (c : Nat) : Nat := if (mget es k).isSome = true then c else c + 1
theorem xK {k : List UInt8} : ∀ {es : List Ent} {i : Nat}, eV k es i = none → mget es k = none := by
 intro es i h; have := mL k es i; rw [h] at this; exact this.symm
theorem xL {k : List UInt8} {v : Value} {c : Nat} : ∀ {es : List Ent} {i : Nat}, eV k es i = none → mset k v c es = es ++ [(k, v, c)] := by
 intro es;induction es with
 | nil => intro i _; rfl
 | cons e es ih =>
  intro i h;unfold eV at h;split at h
  ·cases h
  ·rename_i hne; unfold mset; rw [if_neg hne, ih h]; rfl
theorem aAB {k : List UInt8} {v : Value} {c : Nat} : ∀ {es : List Ent} {i j : Nat} {u : Value}, eV k es i = some (j, u) → i ≤ j ∧ (∃ e, es[j - i]? = some e ∧ k = e.1) ∧
  (es.map ent).modify (j - i) (fun e => { e with key := str k, val := v }) = (mset k v c es).map ent := by
 intro es;induction es with
 | nil => intro i j u h; cases h
 | cons e es ih =>
  intro i j u h;unfold eV at h;split at h
  ·rename_i he; cases h
   refine ⟨Nat.le_refl _, ⟨e, by simp, he⟩, ?_⟩
   unfold mset; rw [if_pos he, Nat.sub_self]
   simp [List.modify, List.modifyTailIdx, ent, he]
   rfl
  ·rename_i hne;obtain ⟨h1, ⟨e', h2, h3⟩, h4⟩ := ih h;have hj : j - i = (j - (i + 1)) + 1 := by omega
   refine ⟨by omega, ⟨e', by rw [hj]; simpa using h2, h3⟩, ?_⟩
   rw [hj]; unfold mset; rw [if_neg hne]
   simp only [List.map_cons, List.modify_succ_cons];rw [h4]
section
variable {E : Env} {fr : Fr} {K : Hl} {L L' : List Asn} {Q : Post} {dst : Option Tmp} {ty : TypeId} {pos : String} {aft : Array Edge} {g : Option (Nat × Bool)} {x y m : Operand} {t t' kt et b c : Nat} {v z : Value} {k : List UInt8} {es : List Ent}
theorem aCQ {P : Program} {w : World} (hm : P.underlying t = some (.map kt et)) (hk : P.underlying kt = some .string) (hb : w.heap[b]? = some (mapO es c)) :
  (Instr.mapUpdate t (.map (some b)) (str k) v).run P w = .ok () { w with heap := w.heap.setIfInBounds b (mapO (mset k v c es) (jJ es k c)) } := by
 cases hf : eV k es 0 with
 | none =>
  rw [oV hm hk hb (uI hf), xL hf];unfold jJ; rw [xK hf]; rfl
 | some p =>
  obtain ⟨i, u⟩ := p;obtain ⟨_, ⟨e, he1, he2⟩, he3⟩ := aAB (v := v) (c := c) hf;rw [Nat.sub_zero] at he1 he3;have h1 : (Instr.checkKey false 10000 kt (str k)).run P w = .ok () w := run_checkKey hk (d := .string) (k := str k) trivial _ 9999;have h2 := run_findKey (w := w) (kt := kt) hk (gW k es 0);have hj : ((es.map ent).toArray[i]?) = some (ent e) := by simp [he1]
  have hkk : (ent e).key = str k := by unfold ent; rw [he2]
  have hst : (Instr.keyThatStays (str k) (str k)).run P w = .ok (str k) w := MapKept.run_keyThatStays (d := .string) (k := str k) trivial;unfold Instr.mapUpdate;rw [aL (run_underlying hm w)];simp only []
  show ((getObj b) >>= fun _ => _).run P w = _
  rw [aL (MapKept.run_getObj_map hb)];simp only [];rw [aL h1]
  show ((Instr.findKey kt (str k) (es.map ent)) >>= fun _ => _).run P w = _
  rw [aL h2, hf]
  show ((Instr.keyThatStays ((((es.map ent).toArray[i]?).map (·.key)).getD (str k)) (str k)) >>= fun _ => _).run P w = _
  rw [hj]
  show ((Instr.keyThatStays (ent e).key (str k)) >>= fun _ => _).run P w = _
  rw [hkk, aL hst]
  show (setObj b _).run P w = _
  rw [MapKept.run_setObj_map _ hb];have e1 : ((es.map ent).toArray.modify i fun e => { e with key := str k, val := v }) = ((mset k v c es).map ent).toArray := by
   rw [← he3]; simp [List.modify_toArray]
  have e2 : jJ es k c = c := by unfold jJ; rw [← mL k es 0, hf]; rfl
  rw [e1, e2]
theorem aAS (hm : E.P.underlying t = some (.map kt et)) (hk : E.P.underlying kt = some .string) (hx : fr.ev m = some (.map (some b))) (hy : fr.ev x = some (str k)) (hv : fr.ev y = some v)
  (hF : Fnd (pt b (mapO es c)) (pt b (mapO (mset k v c es) (jJ es k c))) L L') : EfS E fr K L ⟨dst, .mapUpdate t m x y, ty, pos, aft, g⟩ (fun _ K' L'' => K' = K ∧ L'' = L') := by
 intro a w f j;have hb := j.mem hF;have hr : (execOp a.eval ⟨dst, .mapUpdate t m x y, ty, pos, aft, g⟩).run E.P w = .ok .skip { w with heap := w.heap.setIfInBounds b (mapO (mset k v c es) (jJ es k c)) } := by
  simp only [execOp, f.ev hx, f.ev hy, f.ev hv];rw [aL (aCQ hm hk hb)]; rfl
 have hs := MapKept.heap_set (o' := mapO (mset k v c es) (jJ es k c)) hb;exact ⟨_, _, _, _, .inr ⟨hr, rfl⟩, ⟨rfl, rfl⟩, Hl.le_refl _, j.writeAt hF (by simp) hs.1 hs.2⟩
end
end Go.SL
end
section
namespace Go.Proofs
open Go Go.SL
set_option maxRecDepth 100000
theorem mixed : Tryz.prog.follows .mixedOrders = true := by kernel_rfl
theorem eM : aggB Tryz.prog 165 4 = true := by kernel_rfl
theorem gA : aggB Tryz.prog 188 3 = true := by kernel_rfl
theorem rG : aggB Tryz.prog 34 2 = true := by kernel_rfl
theorem eG : aggB Tryz.prog 66 2 = true := by kernel_rfl
theorem rH : aggB Tryz.prog 73 9 = true := by kernel_rfl
theorem aFT : jE Tryz.prog 106 = some ([.pointer none], [(0, 1)]) := by kernel_rfl
theorem aEW : iX Tryz.prog 106 = true := by kernel_rfl
theorem aFU : jE Tryz.prog 110 = some ([.map none, .map none, .slice none 0 0, .int .i64 0, .int .i64 0, .bool false], [(0, 1), (1, 1), (2, 1), (3, 1), (4, 1), (5, 1)]) := by kernel_rfl
theorem aEX : iX Tryz.prog 110 = true := by kernel_rfl
theorem aDK : jE Tryz.prog 165 = some ([.int .i64 0, (str []), (str []), (str [])], [(0, 1), (1, 1), (2, 1), (3, 1)]) := by kernel_rfl
theorem aAW : iX Tryz.prog 165 = true := by kernel_rfl
theorem tb66 : jE Tryz.prog 66 = some ([(str []), (str [])], [(0, 1), (1, 1)]) := by kernel_rfl
theorem o3 : iX Tryz.prog 66 = true := by kernel_rfl
theorem gR : elOk Tryz.prog 108 165 4 56 = true := by kernel_rfl
theorem tD : elOk Tryz.prog 130 5 1 1 = true := by kernel_rfl
theorem rI : elOk Tryz.prog 29 34 2 24 = true := by kernel_rfl
theorem c6 : elOk Tryz.prog 62 66 2 32 = true := by kernel_rfl
theorem c7 : dB Tryz.prog 106 0 0 = true := by kernel_rfl
theorem fH : dB Tryz.prog 110 0 0 = true := by kernel_rfl
theorem fI : dB Tryz.prog 110 1 1 = true := by kernel_rfl
theorem eB : dB Tryz.prog 110 2 2 = true := by kernel_rfl
theorem fJ : dB Tryz.prog 110 3 3 = true := by kernel_rfl
theorem eS : dB Tryz.prog 110 4 4 = true := by kernel_rfl
theorem eK : dB Tryz.prog 110 5 5 = true := by kernel_rfl
theorem kO : dB Tryz.prog 132 0 0 = true := by kernel_rfl
theorem kP : dB Tryz.prog 132 1 1 = true := by kernel_rfl
theorem fV : dB Tryz.prog 165 0 0 = true := by kernel_rfl
theorem gC : dB Tryz.prog 165 1 1 = true := by kernel_rfl
theorem kQ : dB Tryz.prog 165 3 3 = true := by kernel_rfl
theorem tE : dB Tryz.prog 34 0 0 = true := by kernel_rfl
theorem e9 : dB Tryz.prog 34 1 1 = true := by kernel_rfl
theorem fA : dB Tryz.prog 66 0 0 = true := by kernel_rfl
theorem iK : dB Tryz.prog 66 1 1 = true := by kernel_rfl
theorem j5 : dB Tryz.prog 73 0 0 = true := by kernel_rfl
theorem gS : dB Tryz.prog 73 1 1 = true := by kernel_rfl
theorem j6 : dB Tryz.prog 73 2 2 = true := by kernel_rfl
theorem tF : dB Tryz.prog 73 3 3 = true := by kernel_rfl
theorem o4 : dB Tryz.prog 73 4 4 = true := by kernel_rfl
theorem j7 : dB Tryz.prog 73 5 5 = true := by kernel_rfl
theorem j8 : dB Tryz.prog 73 6 6 = true := by kernel_rfl
theorem o5 : dB Tryz.prog 73 7 7 = true := by kernel_rfl
theorem aAY : dB Tryz.prog 73 8 8 = true := by kernel_rfl
theorem fZ : fP Tryz.prog 108 165 4 = true := by kernel_rfl
theorem kR : fP Tryz.prog 130 5 1 = true := by kernel_rfl
theorem kS : fP Tryz.prog 29 34 2 = true := by kernel_rfl
theorem g7 : fP Tryz.prog 342 247 1 = true := by kernel_rfl
theorem aAZ : fP Tryz.prog 55 3 1 = true := by kernel_rfl
theorem cD : fP Tryz.prog 62 66 2 = true := by kernel_rfl
theorem eT : fP Tryz.prog 68 73 9 = true := by kernel_rfl
theorem f4 : d7 Tryz.prog 103 = true := by kernel_rfl
theorem f5 : d7 Tryz.prog 107 = true := by kernel_rfl
theorem j9 : d7 Tryz.prog 108 = true := by kernel_rfl
theorem wE : d7 Tryz.prog 129 = true := by kernel_rfl
theorem wF : d7 Tryz.prog 130 = true := by kernel_rfl
theorem iO : d7 Tryz.prog 160 = true := by kernel_rfl
theorem aDL : d7 Tryz.prog 191 = true := by kernel_rfl
theorem aFW : d7 Tryz.prog 247 = true := by kernel_rfl
theorem ts29 : d7 Tryz.prog 29 = true := by kernel_rfl
theorem ts3 : d7 Tryz.prog 3 = true := by kernel_rfl
theorem ts30 : d7 Tryz.prog 30 = true := by kernel_rfl
theorem ts4 : d7 Tryz.prog 4 = true := by kernel_rfl
theorem ts5 : d7 Tryz.prog 5 = true := by kernel_rfl
theorem ts55 : d7 Tryz.prog 55 = true := by kernel_rfl
theorem ts62 : d7 Tryz.prog 62 = true := by kernel_rfl
theorem ts9 : d7 Tryz.prog 9 = true := by kernel_rfl
theorem qC : pE Tryz.prog 158 = some (.pointer none) := by kernel_rfl
theorem aDP : cE Tryz.prog 118 = some [.pointer none] := by kernel_rfl
theorem aFX : cE Tryz.prog 132 = some [.pointer none, .slice none 0 0] := by kernel_rfl
theorem qE : cE Tryz.prog 165 = some [.int .i64 0, (str []), (str []), (str [])] := by kernel_rfl
theorem aDQ : cE Tryz.prog 188 = some [.pointer none, .pointer none, .int .u64 0] := by kernel_rfl
theorem aA7 : cE Tryz.prog 247 = some [.nilFunc] := by kernel_rfl
theorem tz30 : cE Tryz.prog 30 = some [.int .i64 0] := by kernel_rfl
theorem tz34 : cE Tryz.prog 34 = some [.int .i64 0, (str [])] := by kernel_rfl
theorem aFY : cE Tryz.prog 476 = some [.int .u8 0, .int .u8 0, .int .u8 0, .int .u8 0, .int .u8 0, .int .u8 0, .int .u8 0, .int .u8 0, .int .u8 0, .int .u8 0, .int .u8 0, .int .u8 0, .int .u8 0, .int .u8 0, .int .u8 0, .int .u8 0, .int .u8 0, .int .u8 0, .int .u8 0, .int .u8 0, .int .u8 0, .int .u8 0, .int .u8 0, .int .u8 0, .int .u8 0, .int .u8 0, .int .u8 0, .int .u8 0, .int .u8 0, .int .u8 0, .int .u8 0, .int .u8 0, .int .u8 0, .int .u8 0, .int .u8 0, .int .u8 0, .int .u8 0, .int .u8 0, .int .u8 0, .int .u8 0, .int .u8 0, .int .u8 0, .int .u8 0, .int .u8 0, .int .u8 0, .int .u8 0, .int .u8 0, .int .u8 0, .int .u8 0, .int .u8 0, .int .u8 0, .int .u8 0, .int .u8 0, .int .u8 0, .int .u8 0, .int .u8 0, .int .u8 0, .int .u8 0, .int .u8 0, .int .u8 0, .int .u8 0, .int .u8 0, .int .u8 0, .int .u8 0, .int .u8 0] := by kernel_rfl
theorem tz5 : cE Tryz.prog 5 = some [.int .u8 0] := by kernel_rfl
theorem tz62 : cE Tryz.prog 62 = some [.slice none 0 0] := by kernel_rfl
theorem tz66 : cE Tryz.prog 66 = some [(str []), (str [])] := by kernel_rfl
theorem tz9 : cE Tryz.prog 9 = some [(str [])] := by kernel_rfl
end Go.Proofs
end
section
namespace Go.Syn
abbrev aJ := List UInt8
def mI (c : UInt8) : Bool := (decide (97 ≤ (c ||| 32).toNat) && decide ((c ||| 32).toNat ≤ 122)) || decide (c.toNat = 95)
def jV (c : UInt8) : Bool := decide (48 ≤ c.toNat) && decide (c.toNat ≤ 57)
def q6 (c : UInt8) : Bool := mI c || jV c
abbrev Res (α : Type) := Except (Int × Int) α
def vW (s : aJ) : Nat → Nat → Res Nat
 | 0, a => .ok a
 | f + 1, a =>
  match s[a]? with
  | none => .ok a
  | some c =>
   if c.toNat = 32 ∨ c.toNat = 9 ∨ c.toNat = 13 ∨ c.toNat = 10 then vW s f (a + 1)
   else if c.toNat = 35 then vW s f (a + ((s.drop a).takeWhile fun c => decide (¬ c.toNat = 10)).length)
   else if c.toNat = 47 then
    if ((s[a + 1]?).getD 0).toNat ≠ 42 then .ok a
    else if Lib.index (s.drop (min (a + 2) s.length)) [42, 47] < 0 then .error (2, a)
    else vW s f (a + 2 + (Lib.index (s.drop (min (a + 2) s.length)) [42, 47]).toNat + 2)
   else .ok a
def skip (s : aJ) (a : Nat) : Res Nat := vW s (s.length + 1 - a) a
section
variable {s : aJ} {f i : Nat} {c : UInt8}
end
def aDM (lo hi add c : UInt8) : UInt8 := if lo.toNat ≤ c.toNat ∧ c.toNat ≤ hi.toNat then c + add else c
def fU (s : aJ) : aJ := s.map (aDM 65 90 32)
def aD8 (s : aJ) : aJ := s.map (aDM 97 122 224)
def aFA (n : Int) (c : UInt8) : Int := if 2147483648 < n * 10 + (c.toNat - 48 : Nat) then 2147483648 else n * 10 + (c.toNat - 48 : Nat)
def mE (s : aJ) (a : Nat) : aJ := (s.drop a).takeWhile jV
def tT (ds : aJ) : Int := ds.foldl aFA 0
def numC (s : aJ) (a : Nat) : Nat := ((s[a + (mE s a).length]?).getD 0).toNat
def numN (s : aJ) (a : Nat) : Int := if numC s a = 77 ∨ numC s a = 109 then tT (mE s a) * 1024 * 1024 else if numC s a = 75 ∨ numC s a = 107 then tT (mE s a) * 1024 else tT (mE s a)
def numA (s : aJ) (a : Nat) : Nat := if numC s a = 77 ∨ numC s a = 109 ∨ numC s a = 75 ∨ numC s a = 107 then a + (mE s a).length + 1 else a + (mE s a).length
def aEL (s : aJ) (a : Nat) (wat : Int) : Res (Nat × Int) :=
 if q6 ((s[numA s a]?).getD 0) = true then .error (2, wat)
 else if 2147483647 < numN s a then .error (3, wat)
 else .ok (numA s a, numN s a)
def rC (s : aJ) (wat : Int) : Nat → Nat → aJ → Res (Nat × aJ)
 | 0, _, _ => .error (2, wat)
 | f + 1, a, acc =>
  if a < s.length ∧ ((s[a]?).getD 0).toNat = 34 then .ok (a + 1, acc)
  else if ((s[a]?).getD 0).toNat = 92 then
   if s.length ≤ a + 1 then .error (2, wat) else rC s wat f (a + 2) (acc ++ [(s[a + 1]?).getD 0])
  else if s.length ≤ a then .error (2, wat) else rC s wat f (a + 1) (acc ++ [(s[a]?).getD 0])
def aER (s : aJ) (a : Nat) (wat : Int) : Res (Nat × aJ) := rC s wat (s.length + 1 - a) (a + 1) []
section
variable {s acc : aJ} {wat : Int} {f i : Nat}
end
structure Word where
 kind : Nat
 s : aJ
 n : Int
 at_ : Int
def aCA (c : UInt8) : Bool := decide (c.toNat = 59 ∨ c.toNat = 44 ∨ c.toNat = 40 ∨ c.toNat = 41 ∨ c.toNat = 123 ∨ c.toNat = 125 ∨ c.toNat = 91 ∨ c.toNat = 93)
def rL (s : aJ) (a : Nat) : aJ := (s.drop a).takeWhile q6
def aFN (s : aJ) (a : Nat) (c : UInt8) : Res (Nat × Word) :=
 if aCA c = true then .ok (a + 1, ⟨5, [c], 0, a⟩)
 else if c.toNat = 34 then
  match aER s a a with
  | .error e => .error e
  | .ok r => .ok (r.1, ⟨3, r.2, 0, a⟩)
 else if c.toNat = 58 then
  if mI ((s[a + 1]?).getD 0) = true then .ok (a + 1 + (rL s (a + 1)).length, ⟨2, fU (rL s (a + 1)), 0, a⟩)
  else .error (2, a)
 else if mI c = true then .ok (a + (rL s a).length, ⟨1, fU (rL s a), 0, a⟩)
 else if jV c = true then
  match aEL s a a with
  | .error e => .error e
  | .ok r => .ok (r.1, ⟨4, [], r.2, a⟩)
 else .error (2, a)
def next (s : aJ) (a : Nat) : Res (Nat × Word) :=
 match skip s a with
 | .error e => .error e
 | .ok a1 =>
  match s[a1]? with
  | none => .ok (a1, ⟨0, [], 0, a1⟩)
  | some c => aFN s a1 c
def k9 (xs : List aJ) (x : aJ) : Int := match xs.findIdx? (fun y => decide (x = y)) with
 | some i => i
 | none => -1
abbrev St := Nat × Word
def take (s : aJ) (st : St) (k : Nat) (texts : List aJ) : Res (Word × St) :=
 if st.2.kind ≠ k ∨ (texts ≠ [] ∧ st.2.s ∉ texts) then .error (4, st.2.at_)
 else match next s st.1 with
  | .error e => .error e
  | .ok r => .ok (st.2, r)
def eat (s : aJ) (st : St) (x : aJ) : Res (Bool × St) :=
 if st.2.kind = 5 ∧ st.2.s = x then
  match next s st.1 with
  | .error e => .error e
  | .ok r => .ok (true, r)
 else .ok (false, st)
def sign (s : aJ) (st : St) (x : aJ) : Res St :=
 match take s st 5 [x] with
 | .error e => .error e
 | .ok r => .ok r.2
def text (s : aJ) (st : St) (ff : aJ → Int) : Res (aJ × St) :=
 if st.2.kind = 3 ∧ ff st.2.s ≠ 0 then .error (ff st.2.s, st.2.at_)
 else match take s st 3 [] with
  | .error e => .error e
  | .ok r => .ok (r.1.s, r.2)
end Go.Syn
end
section
namespace Go.Proofs
open Go Go.SL Go.Syn
theorem retB {b c : Bool} (h : b = c) (K : Hl) : Val (.bool c) K (.returned (.bool b)) K [] := ⟨by rw [h], rfl, rfl⟩
end Go.Proofs
end
section
namespace Go.SL
theorem In.start (w : World) : In w .emp (hp w) [] w :=
 ⟨rfl, rfl, rfl, Nat.le_refl _, .emp, rfl, (Hl.dj_emp _).symm, Hl.dj_emp _, Hl.dj_emp _, (fun _ _ e => by cases e), Hl.le_refl _, (fun _ _ e => by cases e)⟩
theorem In.below {w w' : World} {K' : Hl} {L : List Asn} (le : (hp w).le K') (i : In w .emp K' L w') : RowKit.Below w.heap.size w w' := by
 refine ⟨i.os, i.tape, i.output, i.size, fun k hk => ?_⟩
 have h := le k w.heap[k] (by simp [hp, hk]);rw [i.known h]; simp [hk]
theorem pG {P : Program} {f : FuncId} {args : List Value} {w : World} {v : Value} (h : Sp P f args (hp w) [] (Ret fun u _ _ => u = v)) :
  Calls P f args.toArray w fun e w' => e = .returned v ∧ RowKit.Below w.heap.size w w' :=
 (h.2 .emp w (In.start w)).mono fun _ _ ⟨_, _, ⟨u, he, hu⟩, le, j⟩ => ⟨by rw [he, hu], j.below le⟩
theorem gY {P : Program} {f : FuncId} {args : List Value} {K : Hl} {v : Value} (hb : ∃ fn, P.funcs[f]? = some fn ∧ (fn.name == "runtime.NumGoroutine") = false ∧ fn.body.isSome = true)
  (h : ∀ w, K.le (hp w) → Calls P f args.toArray w fun e w' => e = .returned v ∧ RowKit.Below w.heap.size w w') : Sp P f args K [] (Val v K) := by
 refine ⟨hb, fun F w i => ?_⟩
 obtain ⟨x, hs, d1, d2, d3, l1, l2, l3⟩ := i.rep;refine (h w l2).mono fun e w' ⟨he, hbl⟩ => ?_
 have up : ∀ {k : Hl}, k.le (hp w) → k.le (hp w') := by
  intro k hk b o e;have hlt : b < w.heap.size := by
   have := hk b o e;simp only [hp] at this;rcases Nat.lt_or_ge b w.heap.size with h | h
   ·exact h
   ·simp [Array.getElem?_eq_none h] at this
  have := hk b o e;simp only [hp] at this ⊢;rw [hbl.block b hlt]; exact this
 exact ⟨K, [], ⟨he, rfl, rfl⟩, Hl.le_refl _, hbl.os, hbl.tape, hbl.output, hbl.size, x, hs, d1, d2, d3, up l1, up l2, up l3⟩
theorem jC {P : Program} {f : FuncId} {args : List Value} {K : Hl} {v : Value} (hb : ∃ fn, P.funcs[f]? = some fn ∧ (fn.name == "runtime.NumGoroutine") = false ∧ fn.body.isSome = true)
  (h : ∀ w, K.le (hp w) → Calls P f args.toArray w fun e w' => e = .returned v ∧ w' = w) : Sp P f args K [] (Val v K) :=
 gY hb fun w hw => (h w hw).mono fun e w' ⟨he, hw'⟩ => ⟨he, by subst hw'; exact RowKit.Below.refl _ _⟩
end Go.SL
end
section
namespace Go.Proofs
open Go.Shelf
def Tryz.lays119_ren : Go.Shelf.Ren := ⟨fun | 119 => 322 | n => n, fun | 21 => 21 | 4 => 4 | n => n, fun | n => n⟩
theorem Tryz.lays119 : Go.Proofs.Lays.n119 Tryz.prog Tryz.lays119_ren := {
 mixed := by kernel_rfl
 f119 := Tryz.func322.trans (congrArg some aY)
 t4 := Tryz.underlying4
 a4 := Tryz.isAgg4
 z4 := Tryz.sizeOf4
 v4 := Tryz.zeroValue4
 t21 := Tryz.underlying21
 a21 := Tryz.isAgg21
 z21 := Tryz.sizeOf21
 v21 := Tryz.zeroValue21 }
theorem Tryz.utf8_ValidRune (r : Int) (w : World) :
  Calls Tryz.prog 322 #[.int .i32 r] w fun e w' => e = .returned (.bool (Lib.validRune r)) ∧ w' = w := Any.utf8_ValidRune Tryz.lays119 r w
def Tryz.lays137_ren : Go.Shelf.Ren := ⟨fun | 137 => 308 | 217 => 335 | 266 => 353 | n => n, fun | 9 => 9 | 5 => 5 | 3 => 3 | n => n, fun | n => n⟩
theorem Tryz.lays137 : Go.Proofs.Lays.n137 Tryz.prog Tryz.lays137_ren := {
 mixed := by kernel_rfl
 f137 := Tryz.func308.trans (congrArg some aY)
 f217 := Tryz.func335.trans (congrArg some aY)
 f266 := Tryz.func353.trans (congrArg some aY)
 t3 := Tryz.underlying3
 a3 := Tryz.isAgg3
 z3 := Tryz.sizeOf3
 v3 := Tryz.zeroValue3
 t5 := Tryz.underlying5
 a5 := Tryz.isAgg5
 z5 := Tryz.sizeOf5
 v5 := Tryz.zeroValue5
 t9 := Tryz.underlying9
 a9 := Tryz.isAgg9
 z9 := Tryz.sizeOf9
 v9 := Tryz.zeroValue9 }
open Go.RowKit in
theorem Tryz.strings_IndexByte (s : ByteArray) (c : Int) (w : World) :
  Calls Tryz.prog 308 #[.string s, .int .u8 c] w fun e w' => e = .returned (.int .i64 (Lib.indexByte s.data.toList c.toNat.toUInt8)) ∧ w' = w := Any.strings_IndexByte Tryz.lays137 s c w
def Tryz.laysM171_ren : Go.Shelf.Ren := ⟨fun | 171 => 129 | 243 => 223 | 246 => 293 | 283 => 325 | 284 => 326 | 285 => 327 | 286 => 328 | 129 => 240 | 317 => 346 | 318 => 347 | 319 => 348 | 320 => 349 | 337 => 362 | 338 => 363 | n => n, fun | 3 => 3 | 9 => 9 | 2 => 2 | 4 => 4 | 171 => 444 | 0 => 0 | 53 => 345 | 37 => 130 | 5 => 5 | 173 => 446 | 212 => 475 | 51 => 350 | 20 => 20 | 213 => 476 | 46 => 257 | 232 => 510 | 233 => 511 | n => n, fun | 17 => 2 | 18 => 5 | 19 => 6 | n => n⟩
theorem Tryz.laysM171 : Go.Proofs.LaysM.n171 Tryz.prog Tryz.laysM171_ren := {
 mixed := by kernel_rfl
 f129 := Tryz.func240.trans (congrArg some aY)
 f171 := Tryz.func129.trans (congrArg some aY)
 f243 := Tryz.func223.trans (congrArg some aY)
 f246 := Tryz.func293.trans (congrArg some aY)
 f283 := Tryz.func325.trans (congrArg some aY)
 f284 := Tryz.func326.trans (congrArg some aY)
 f285 := Tryz.func327.trans (congrArg some aY)
 f286 := Tryz.func328.trans (congrArg some aY)
 f317 := Tryz.func346.trans (congrArg some aY)
 f318 := Tryz.func347.trans (congrArg some aY)
 f319 := Tryz.func348.trans (congrArg some aY)
 f320 := Tryz.func349.trans (congrArg some aY)
 f337 := Tryz.func362.trans (congrArg some aY)
 f338 := Tryz.func363.trans (congrArg some aY)
 t0 := Tryz.underlying0
 a0 := Tryz.isAgg0
 z0 := Tryz.sizeOf0
 v0 := Tryz.zeroValue0
 t2 := Tryz.underlying2
 a2 := Tryz.isAgg2
 z2 := Tryz.sizeOf2
 v2 := Tryz.zeroValue2
 t3 := Tryz.underlying3
 a3 := Tryz.isAgg3
 z3 := Tryz.sizeOf3
 v3 := Tryz.zeroValue3
 t4 := Tryz.underlying4
 a4 := Tryz.isAgg4
 z4 := Tryz.sizeOf4
 v4 := Tryz.zeroValue4
 t5 := Tryz.underlying5
 a5 := Tryz.isAgg5
 z5 := Tryz.sizeOf5
 v5 := Tryz.zeroValue5
 t9 := Tryz.underlying9
 a9 := Tryz.isAgg9
 z9 := Tryz.sizeOf9
 v9 := Tryz.zeroValue9
 t20 := Tryz.underlying20
 a20 := Tryz.isAgg20
 z20 := Tryz.sizeOf20
 v20 := Tryz.zeroValue20
 t37 := Tryz.underlying130
 a37 := Tryz.isAgg130
 z37 := Tryz.sizeOf130
 v37 := Tryz.zeroValue130
 t46 := Tryz.underlying257
 a46 := Tryz.isAgg257
 z46 := Tryz.sizeOf257
 v46 := Tryz.zeroValue257
 t51 := Tryz.underlying350
 a51 := Tryz.isAgg350
 z51 := Tryz.sizeOf350
 v51 := Tryz.zeroValue350
 t53 := Tryz.underlying345
 a53 := Tryz.isAgg345
 z53 := Tryz.sizeOf345
 v53 := Tryz.zeroValue345
 t171 := Tryz.underlying444
 a171 := Tryz.isAgg444
 z171 := Tryz.sizeOf444
 v171 := Tryz.zeroValue444
 t173 := Tryz.underlying446
 a173 := Tryz.isAgg446
 z173 := Tryz.sizeOf446
 v173 := Tryz.zeroValue446
 t212 := Tryz.underlying475
 a212 := Tryz.isAgg475
 z212 := Tryz.sizeOf475
 v212 := Tryz.zeroValue475
 t213 := Tryz.underlying476
 a213 := Tryz.isAgg476
 z213 := Tryz.sizeOf476
 t232 := Tryz.underlying510
 a232 := Tryz.isAgg510
 z232 := Tryz.sizeOf510
 v232 := Tryz.zeroValue510
 t233 := Tryz.underlying511
 a233 := Tryz.isAgg511
 z233 := Tryz.sizeOf511
 v233 := Tryz.zeroValue511
 g17 := by kernel_rfl
 g18 := by kernel_rfl
 g19 := by kernel_rfl
 i0 := by kernel_rfl
 i2 := by kernel_rfl
 i3 := by kernel_rfl
 i4 := by kernel_rfl
 i5 := by kernel_rfl
 i9 := by kernel_rfl
 i20 := by kernel_rfl
 i37 := by kernel_rfl
 i46 := by kernel_rfl
 i51 := by kernel_rfl
 i53 := by kernel_rfl
 i171 := by kernel_rfl
 i173 := by kernel_rfl
 i212 := by kernel_rfl
 i232 := by kernel_rfl
 i233 := by kernel_rfl
 m17 := by kernel_rfl
 m18 := by kernel_rfl
 m19 := by kernel_rfl }
open Go.RowKit Go.Sort Go.Lib in
theorem Tryz.strconv_Itoa (n : Int) (h0 : -9223372036854775808 ≤ n) (h1 : n ≤ 9223372036854775807) (w : World) (htab : Lib.TabIs Tryz.prog w "internal/strconv.uint64pow10" .u64 Lib.pow10Tab) :
  Calls Tryz.prog 129 #[.int .i64 n] w fun e w' => e = .returned (.string ⟨(Lib.itoa n).toArray⟩) ∧ ∃ k os, w' = grow (w.drewN k) os := Any.strconv_Itoa Tryz.laysM171 n h0 h1 w htab
def Tryz.lays145_ren : Go.Shelf.Ren := ⟨fun | 145 => 228 | 220 => 295 | 219 => 311 | 217 => 335 | 225 => 324 | 224 => 323 | 267 => 336 | 266 => 353 | 314 => 354 | n => n, fun | 9 => 9 | 4 => 4 | 59 => 347 | 3 => 3 | 5 => 5 | 46 => 257 | 146 => 402 | 51 => 350 | n => n, fun | 1 => 1 | n => n⟩
theorem Tryz.lays145 : Go.Proofs.Lays.n145 Tryz.prog Tryz.lays145_ren := {
 mixed := by kernel_rfl
 f145 := Tryz.func228.trans (congrArg some aY)
 f217 := Tryz.func335.trans (congrArg some aY)
 f219 := Tryz.func311.trans (congrArg some aY)
 f220 := Tryz.func295.trans (congrArg some aY)
 f224 := Tryz.func323.trans (congrArg some aY)
 f225 := Tryz.func324.trans (congrArg some aY)
 f266 := Tryz.func353.trans (congrArg some aY)
 f267 := Tryz.func336.trans (congrArg some aY)
 f314 := Tryz.func354.trans (congrArg some aY)
 t3 := Tryz.underlying3
 a3 := Tryz.isAgg3
 z3 := Tryz.sizeOf3
 v3 := Tryz.zeroValue3
 t4 := Tryz.underlying4
 a4 := Tryz.isAgg4
 z4 := Tryz.sizeOf4
 v4 := Tryz.zeroValue4
 t5 := Tryz.underlying5
 a5 := Tryz.isAgg5
 z5 := Tryz.sizeOf5
 v5 := Tryz.zeroValue5
 t9 := Tryz.underlying9
 a9 := Tryz.isAgg9
 z9 := Tryz.sizeOf9
 v9 := Tryz.zeroValue9
 t46 := Tryz.underlying257
 a46 := Tryz.isAgg257
 z46 := Tryz.sizeOf257
 v46 := Tryz.zeroValue257
 t51 := Tryz.underlying350
 a51 := Tryz.isAgg350
 z51 := Tryz.sizeOf350
 v51 := Tryz.zeroValue350
 t59 := Tryz.underlying347
 a59 := Tryz.isAgg347
 z59 := Tryz.sizeOf347
 v59 := Tryz.zeroValue347
 t146 := Tryz.underlying402
 a146 := Tryz.isAgg402
 z146 := Tryz.sizeOf402
 v146 := Tryz.zeroValue402
 g1 := by kernel_rfl }
open Go.RowKit Go.Lib in
theorem Tryz.strings_Cut (s sep : ByteArray) (m : Int) (w : World) (hs : s.size < 4294967281) (hm : w.cell? ⟨1, 0, none⟩ = some (.int .i64 m)) :
  Calls Tryz.prog 228 #[.string s, .string sep] w fun e w' => e = .returned (.tuple #[.string ⟨(Lib.cut s.data.toList sep.data.toList).1.toArray⟩, .string ⟨(Lib.cut s.data.toList sep.data.toList).2.1.toArray⟩, .bool (Lib.cut s.data.toList sep.data.toList).2.2]) ∧ ∃ n, w' = w.drewN n := Any.strings_Cut Tryz.lays145 s sep m w hs hm
def Tryz.lays152_ren : Go.Shelf.Ren := ⟨fun | 152 => 289 | 137 => 308 | 119 => 322 | 224 => 323 | 225 => 324 | 217 => 335 | 266 => 353 | n => n, fun | 9 => 9 | 21 => 21 | 3 => 3 | 4 => 4 | 5 => 5 | 0 => 0 | 46 => 257 | n => n, fun | n => n⟩
theorem Tryz.lays152 : Go.Proofs.Lays.n152 Tryz.prog Tryz.lays152_ren := {
 mixed := by kernel_rfl
 f119 := Tryz.func322.trans (congrArg some aY)
 f137 := Tryz.func308.trans (congrArg some aY)
 f152 := Tryz.func289.trans (congrArg some aY)
 f217 := Tryz.func335.trans (congrArg some aY)
 f224 := Tryz.func323.trans (congrArg some aY)
 f225 := Tryz.func324.trans (congrArg some aY)
 f266 := Tryz.func353.trans (congrArg some aY)
 t0 := Tryz.underlying0
 a0 := Tryz.isAgg0
 z0 := Tryz.sizeOf0
 v0 := Tryz.zeroValue0
 t3 := Tryz.underlying3
 a3 := Tryz.isAgg3
 z3 := Tryz.sizeOf3
 v3 := Tryz.zeroValue3
 t4 := Tryz.underlying4
 a4 := Tryz.isAgg4
 z4 := Tryz.sizeOf4
 v4 := Tryz.zeroValue4
 t5 := Tryz.underlying5
 a5 := Tryz.isAgg5
 z5 := Tryz.sizeOf5
 v5 := Tryz.zeroValue5
 t9 := Tryz.underlying9
 a9 := Tryz.isAgg9
 z9 := Tryz.sizeOf9
 v9 := Tryz.zeroValue9
 t21 := Tryz.underlying21
 a21 := Tryz.isAgg21
 z21 := Tryz.sizeOf21
 v21 := Tryz.zeroValue21
 t46 := Tryz.underlying257
 a46 := Tryz.isAgg257
 z46 := Tryz.sizeOf257
 v46 := Tryz.zeroValue257 }
open Go.RowKit Go.Lib in
theorem Tryz.strings_IndexRune_ascii (s : ByteArray) (r : Int) (w : World) (h0 : 0 ≤ r) (h1 : r < 128) :
  Calls Tryz.prog 289 #[.string s, .int .i32 r] w fun e w' => e = .returned (.int .i64 (Lib.indexByte s.data.toList r.toNat.toUInt8)) ∧ w' = w := Any.strings_IndexRune_ascii Tryz.lays152 s r w h0 h1
def Tryz.lays226_ren : Go.Shelf.Ren := ⟨fun | 226 => 290 | n => n, fun | 3 => 3 | 4 => 4 | n => n, fun | n => n⟩
theorem Tryz.lays226 : Go.Proofs.Lays.n226 Tryz.prog Tryz.lays226_ren := {
 mixed := by kernel_rfl
 f226 := Tryz.func290.trans (congrArg some aY)
 t3 := Tryz.underlying3
 a3 := Tryz.isAgg3
 z3 := Tryz.sizeOf3
 v3 := Tryz.zeroValue3
 t4 := Tryz.underlying4
 a4 := Tryz.isAgg4
 z4 := Tryz.sizeOf4
 v4 := Tryz.zeroValue4 }
open Go.RowKit Go.Lib in
theorem Tryz.strings_shouldUseASCIISet (n : Int) (w : World) :
  Calls Tryz.prog 290 #[.int .i64 n] w fun e w' => e = .returned (.bool (decide (8 < n))) ∧ w' = w := Any.strings_shouldUseASCIISet Tryz.lays226 n w
end Go.Proofs
end
section
namespace Go.Proofs
open Go Go.SL Go.Syn
structure Glob (K : Hl) : Prop where
 maxLen : ∃ m T fz, K 1 = some (aW [i64 m] T fz)
 pow10 : ∀ w, K.le (hp w) → Lib.TabIs Tryz.prog w "internal/strconv.uint64pow10" .u64 Lib.pow10Tab
end Go.Proofs
end
section
namespace Go.Proofs
open Go Go.SL
theorem lE : unsB Tryz.prog 132 2 = true := by kernel_rfl
theorem xB : Tryz.prog.cellsOf 5 = 1 := by kernel_rfl
abbrev u6 (b : Nat) (q : Bool) (v : Value) : Asn := pt b (aW [if q then ptr b else .pointer none, v] 132)
abbrev bldr (b : Nat) (xs : List UInt8) : Asn := exA fun v : Value => [exA fun q : Bool => [u6 b q v], sl true (elB 5) v xs]
theorem yU (b : Nat) : ∀ h, pt b (aW [.pointer none, .slice none 0 0] 132) h → Sat [bldr b []] h := by
 intro h hh;refine lZ.2 ⟨.slice none 0 0, lZ.2 ⟨false, h, .emp, hh, ⟨.emp, .emp, .inl ⟨rfl, rfl, rfl⟩, rfl, Hl.dj_emp _, (Hl.join_emp _).symm⟩, Hl.dj_emp _, (Hl.join_emp _).symm⟩⟩
theorem wY (b : Nat) (v : Value) (xs : List UInt8) : ∀ h, Sat [u6 b true v, sl true (elB 5) v xs] h → Sat [bldr b xs] h := by
 intro h hh;exact lZ.2 ⟨v, lZ.2 ⟨true, hh⟩⟩
theorem wZ (b : Nat) : ∀ h, pt b (aW [.pointer none, .slice none 0 0] 132) h → bldr b [] h := by
 intro h hh;obtain ⟨a, l, ha, hl, hd, he⟩ := yU b h hh;rw [he, show l = .emp from hl, Hl.join_emp]; exact ha
theorem dT {A B : Asn} {M : List Asn} (k : ∀ h, A h → B h) : ∀ h, Sat (A :: M) h → Sat (B :: M) h := fun h ⟨a, l, ha, hl, hd, he⟩ => ⟨a, l, k a ha, hl, hd, he⟩
theorem n0 (b : Nat) (q : Bool) (v : Value) (K : Hl) : Sp Tryz.prog 196 [ptr b] K [u6 b q v] (Ret fun u K' L' => u = .tuple #[] ∧ K' = K ∧ L' = [u6 b true v]) := by
 cases q with
 | true =>
  refine bE Tryz.func196 rfl Tryz.ntmps196 rfl rfl fun F w => ?_
  refine aG (aC ?_);refine aA (aB rfl) rfl ?_;refine aA b0 rfl ?_;refine aA (aH (o' := 0) kO rfl rfl) rfl ?_;refine aA (aM wE rfl aN rfl) rfl ?_;refine aA (n9 Tryz.underlying129 rfl rfl) rfl ?_;refine aF (aE ?_);refine bL rfl ?_;refine aG (aC ?_);refine aA (aB rfl) rfl ?_;refine aA b0 rfl ?_;refine aA (aH (o' := 0) kO rfl rfl) rfl ?_;refine aA (aM wE rfl aN rfl) rfl ?_;refine aA (aB rfl) rfl ?_;refine aA (r9 Tryz.underlying129 lE rfl rfl) rfl ?_;refine aF (aE ?_);refine bL rfl ?_;refine aX ?_;refine k4 rfl (Hl.le_refl _) ?_;exact ⟨_, rfl, rfl, rfl, rfl⟩
 | false =>
  refine bE Tryz.func196 rfl Tryz.ntmps196 rfl rfl fun F w => ?_
  refine aG (aC ?_);refine aA (aB rfl) rfl ?_;refine aA b0 rfl ?_;refine aA (aH (o' := 0) kO rfl rfl) rfl ?_;refine aA (aM wE rfl aN rfl) rfl ?_;refine aA (n9 Tryz.underlying129 rfl rfl) rfl ?_;refine aF (aE ?_);refine dH rfl ?_;refine aC ?_;refine aA (aB rfl) rfl ?_;refine aA (aB rfl) rfl ?_;refine aA (sB Tryz.underlying129 Tryz.underlying185 rfl (.own .here) lE) rfl ?_;refine aA (iU rfl rfl Tryz.func272 aY aY aY (ex := Extern.AbiNoEscape.same) aY (fun _ _ => rfl)) rfl ?_;refine aA (pH Tryz.underlying185 Tryz.underlying129 rfl (.own .here) lE) rfl ?_;refine aA b0 rfl ?_;refine aA (aH (o' := 0) kO rfl rfl) rfl ?_;refine cQ (bT wE rfl rfl dM bI .zero rfl) ?_;rintro _ K _ ⟨rfl, rfl⟩ -;refine aF ?_;refine k4 rfl (Hl.le_refl _) ?_;exact ⟨_, rfl, rfl, rfl, rfl⟩
theorem mW (b : Nat) (s : List UInt8) (xs : List UInt8) (hn : xs.length + s.length ≤ 140737488351232) (K : Hl) : Sp Tryz.prog 109 [ptr b, str s] K [bldr b xs] (Ret fun u K' L' => u = .tuple #[i64 s.length, .nilIface] ∧ K' = K ∧ L' = [bldr b (xs ++ s)]) := by
 refine bE Tryz.func109 rfl Tryz.ntmps109 rfl rfl fun F w => ?_
 refine t_ex fun v => t_ex fun q => ?_
 refine aG (aC ?_);refine aA (aD rfl) rfl ?_;refine aA (aD rfl) rfl ?_;refine aF (aE ?_);refine aG (aC ?_);refine aA (aB rfl) rfl ?_;refine bH rfl rfl (n0 b q v _) (.cons .here .nil) rfl ?_;rintro _ K _ ⟨rfl, rfl, rfl⟩ -;refine aF (aE ?_);refine aG (aC ?_);refine aA (aB rfl) rfl ?_;refine aA (aB rfl) rfl ?_;refine aA b0 rfl ?_;refine aA (aH (o' := 1) kP rfl rfl) rfl ?_;refine aA (aM wF rfl aN rfl) rfl ?_;refine aA (aB rfl) rfl ?_;refine ol_s (dO (k := (elB 5)) (ys := s) tD rfl rfl bI (fun _ _ => uS Tryz.underlying9) aI aI) rfl ?_;rintro v14 K _ ⟨rfl, rfl, ho14⟩ -;refine aA b0 rfl ?_;refine aA (aH (o' := 1) kP rfl rfl) rfl ?_;refine cQ (bT wF rfl rfl dM bI (.succ .zero) rfl) ?_;rintro _ K _ ⟨rfl, rfl⟩ -;refine aF (aE ?_);refine aG (aC ?_);refine aA (aB rfl) rfl ?_;refine aA (bU rfl Tryz.underlying9 rfl) rfl ?_;refine aA (aD rfl) rfl ?_;refine aA (aD rfl) rfl ?_;refine aF (aE ?_);refine a8 ?_;refine bF (.cons (.there .here) (.cons .here .nil)) ?_;refine eY (wY b v14 (xs ++ s)) ?_;refine cR rfl rfl rfl (Hl.le_refl _) ?_;exact ⟨_, rfl, rfl, rfl, rfl⟩
theorem qI (b : Nat) (xs : List UInt8) (hn : xs.length ≤ 140737488351232) (K : Hl) : Sp Tryz.prog 63 [ptr b] K [bldr b xs] (Ret fun u K' L' => u = str xs ∧ K' = K ∧ L' = []) := by
 refine bE Tryz.func63 rfl Tryz.ntmps63 rfl rfl fun F w => ?_
 refine t_ex fun v => t_ex fun q => ?_
 refine aG (aC ?_);refine aA (aD rfl) rfl ?_;refine aF (aE ?_);refine aG ?_;refine cT (anc := [0, 1, 3, 7, 15, 0, 32, 96, 224, 480, 1023, 2047]) (ord := [0, 1, 2, 3, 4, 5, 6, 7, 8, 9, 10, 11]) [10] [10] mixed (by decide +kernel) (dJ _) ?_;refine aK rfl rfl (.none rfl) rfl rfl (aB rfl) rfl ?_;refine aK rfl rfl (.none rfl) rfl rfl b0 rfl ?_;refine aK rfl rfl (.none rfl) rfl rfl (aH (o' := 1) kP rfl rfl) rfl ?_;refine aK rfl rfl (.none rfl) rfl rfl (aM wF rfl aN rfl) rfl ?_;refine aK rfl rfl (.none rfl) rfl rfl (qV (e := 5) rfl (.there .here)) rfl ?_;refine aK rfl rfl (.none rfl) rfl rfl (aB rfl) rfl ?_;refine aK rfl rfl (.none rfl) rfl rfl b0 rfl ?_;refine aK rfl rfl (.none rfl) rfl rfl (aH (o' := 1) kP rfl rfl) rfl ?_;refine aK rfl rfl (.none rfl) rfl rfl (aM wF rfl aN rfl) rfl ?_;refine aK rfl rfl (.none rfl) rfl rfl (bM (k := (elB 5)) rfl Tryz.underlying130 rfl aN) rfl ?_;refine dl_g rfl rfl (.none rfl) rfl (oZ (e := 5) rfl Tryz.underlying227 xB aI rfl rfl (.there .here)) rfl ?_;rintro _ K _ ⟨rfl, rfl, rfl⟩ -;refine aK rfl rfl (.none rfl) rfl rfl (aD rfl) rfl ?_;refine cO ?_;refine aE ?_;refine a8 ?_;refine bF .nil ?_;refine bA rfl rfl (Hl.le_refl _) ?_;exact ⟨_, rfl, rfl, rfl, rfl⟩
end Go.Proofs
end
section
namespace Go.Syn
open Go.Proofs
def mu (s : aJ) (st : St) : Nat := (s.length - st.1) * 2 + (if st.2.kind = 0 then 0 else 1)
def aDD (s : aJ) (ff : aJ → Int) : Nat → St → List aJ → Res (List aJ × St)
 | 0, _, _ => .error (0, 0)
 | f + 1, st, acc =>
  match eat s st [44] with
  | .error e => .error e
  | .ok r =>
   if r.1 = true then
    match text s r.2 ff with
    | .error e => .error e
    | .ok x => aDD s ff f x.2 (acc ++ [x.1])
   else
    match sign s r.2 [93] with
    | .error e => .error e
    | .ok q => .ok (acc, q)
def list (s : aJ) (st : St) (ff : aJ → Int) : Res (List aJ × St) :=
 match eat s st [91] with
 | .error e => .error e
 | .ok r =>
  match text s r.2 ff with
  | .error e => .error e
  | .ok x => if r.1 = true then aDD s ff (mu s x.2 + 1) x.2 [x.1] else .ok ([x.1], x.2)
def named (s : aJ) : Bool := s.all q6 && (decide (s ≠ []) && !jV ((s[0]?).getD 0))
def aAF (e : Int) (texts : List aJ) (x : aJ) : Int := if x ∈ texts then 0 else e
structure SetC where
 name : aJ
 value : aJ
 tag : Int
def wJ : aJ := [108, 111, 119, 101, 114]
def wM : aJ := [117, 112, 112, 101, 114]
def tI : aJ := [108, 101, 110, 103, 116, 104]
def kB : aJ := [118, 97, 114, 105, 97, 98, 108, 101, 115]
def aEU (s : aJ) (st : St) : Res (Int × St) :=
 if st.2.kind = 2 then
  if k9 [wJ, wM, tI] st.2.s = -1 then .error (4, st.2.at_)
  else match next s st.1 with
   | .error e => .error e
   | .ok r => .ok (1 + k9 [wJ, wM, tI] st.2.s, r)
 else .ok (0, st)
def aCT (s : aJ) (t : Int × St) : Res (SetC × St) :=
 match text s t.2 (fun x => if named x = true then 0 else 7) with
 | .error e => .error e
 | .ok n =>
  match text s n.2 (fun _ => 0) with
  | .error e => .error e
  | .ok v =>
   match sign s v.2 [59] with
   | .error e => .error e
   | .ok q => .ok (⟨fU n.1, v.1, t.1⟩, q)
def setC (s : aJ) (needs : List aJ) (st : St) : Res (SetC × St) :=
 if kB ∈ needs then
  match next s st.1 with
  | .error e => .error e
  | .ok r =>
   match aEU s r with
   | .error e => .error e
   | .ok t => aCT s t
 else .error (6, st.2.at_)
end Go.Syn
end
section
namespace Go.Syn
open Go.Proofs
def Ok (s : aJ) (st : St) : Prop := st.1 ≤ s.length ∧ st.2.s.length ≤ s.length
end Go.Syn
end
section
namespace Go.Mach
open Go.Syn
structure Ins where
 op : Int
 n : Int
 tag : Int
 oct : Bool
 a : List aJ
 b : List aJ
 at_ : Int
structure Msg where
 from_ : aJ
 to_ : aJ
 size : Int
 hs : List (aJ × aJ)
abbrev Action := Int × aJ
structure MS where
 acts : List Action
 keep : Bool
 vars : List (aJ × aJ)
 parts : List aJ
 stack : List Bool
 pc : Nat
def vget (vars : List (aJ × aJ)) (k : aJ) : aJ := match vars with
 | [] => []
 | (j, v) :: r => if j = k then v else vget r k
def vput (vars : List (aJ × aJ)) (k v : aJ) : List (aJ × aJ) := match vars with
 | [] => [(k, v)]
 | (j, u) :: r => if j = k then (j, v) :: r else (j, u) :: vput r k v
def held (vars : List (aJ × aJ)) (parts : List aJ) (name : aJ) : aJ × Bool :=
 match name with
 | [c] => if jV c = true then ((parts[c.toNat - 48]?).getD [], true) else (vget vars (fU name), named name)
 | _ => (vget vars (fU name), named name)
def nP (vars : List (aJ × aJ)) (parts : List aJ) : Nat → aJ → aJ → aJ
 | 0, s, acc => acc ++ s
 | f + 1, s, acc =>
  if s = [] then acc
  else if Lib.index s [36, 123] < 0 then acc ++ s
  else
   let i := (Lib.index s [36, 123]).toNat
   let t := s.drop i
   let e := Lib.indexByte t 125
   let h := held vars parts ((t.take (max e 2).toNat).drop 2)
   if 0 < e ∧ h.2 = true then nP vars parts f (t.drop (e.toNat + 1)) (acc ++ s.take i ++ h.1)
   else nP vars parts f (t.drop 1) (acc ++ s.take i ++ [36])
def k6 (named : Bool) (vars : List (aJ × aJ)) (parts : List aJ) (s : aJ) : aJ :=
 if named = true then (nP vars parts (s.length + 1) s []).take 1024 else s
def tZ (m : Msg) (name : aJ) : List aJ := (m.hs.filter fun h => decide (fU h.1 = name)).map (·.2)
def aB1 (m : Msg) (names : List aJ) : Bool := names.all fun n => decide (tZ m (fU n) ≠ [])
def aDB (m : Msg) (n : aJ) : List aJ := if fU n = [102, 114, 111, 109] then [m.from_] else if fU n = [116, 111] then [m.to_] else []
def uW (ex : aJ → aJ) (m : Msg) (o : Ins) : List aJ :=
 if o.op = 8 then o.a.map ex
 else if o.op = 6 then (o.a.map ex).flatMap fun n => tZ m (fU n)
 else if o.op = 7 then o.a.flatMap (aDB m)
 else []
def pT (oct : Bool) (s : aJ) : aJ := if oct = true then s else fU s
def qX {α : Type} (f : Nat → Option α) : Nat → Nat → Option α
 | 0, _ => none
 | n + 1, e => match f e with
  | some x => some x
  | none => qX f n (e + 1)
def lR (w v k : aJ) : Nat → Nat → Nat → Option (List aJ)
 | 0, _, _ => none
 | f + 1, i, j =>
  match k[j]? with
  | none => if i = v.length then some [] else none
  | some c =>
   if c.toNat = 42 then qX (fun e => (lR w v k f e (j + 1)).map fun ps => ((w.take e).drop i) :: ps) (v.length + 1 - i) i
   else match v[i]? with
    | none => none
    | some x =>
     if c.toNat = 63 then (lR w v k f (i + 1) (j + 1)).map fun ps => ((w.take (i + 1)).drop i) :: ps
     else match (if c.toNat = 92 then k[j + 1]? else none) with
      | some d => if x = d then lR w v k f (i + 1) (j + 2) else none
      | none => if x = c then lR w v k f (i + 1) (j + 1) else none
def glob (w k : aJ) (oct : Bool) : Option (List aJ) := lR w (pT oct w) (pT oct k) (k.length + 1) 0 0
def nQ (o : Ins) (v k : aJ) : Option (List aJ) :=
 if o.tag = 1 then (if pT o.oct v = pT o.oct k then some [] else none)
 else if o.tag = 2 then (if 0 ≤ Lib.index (pT o.oct v) (pT o.oct k) then some [] else none)
 else glob v k o.oct
def oG {α β : Type} (f : α → Option β) : List α → Option β
 | [] => none
 | x :: l => match f x with
  | some y => some y
  | none => oG f l
def sO (o : Ins) (vs ks : List aJ) : Option (List aJ) :=
 oG (fun v => oG (fun k => (nQ o v k).map fun ps => v :: ps) ks) vs
def hU (pc : Nat) : Int × Int := (12, pc)
def push (s : MS) (b : Bool) : Res MS := if s.stack.length < 8 then .ok { s with stack := s.stack ++ [b] } else .error (hU s.pc)
def pop (s : MS) : Res (Bool × MS) := match s.stack.getLast? with
 | some b => .ok (b, { s with stack := s.stack.dropLast })
 | none => .error (hU s.pc)
def jump (s : MS) (by_ : Int) (n : Nat) (yes : Bool) : Res MS :=
 if 0 ≤ by_ ∧ by_ < (n : Int) - s.pc then .ok (if yes = true then { s with pc := s.pc + by_.toNat } else s) else .error (hU s.pc)
def matchI (nm : Bool) (m : Msg) (o : Ins) (s : MS) : Res MS :=
 if 1 ≤ o.tag ∧ o.tag ≤ 3 ∧ s.stack.length < 8 then
  let ex := k6 nm s.vars s.parts
  match sO o (uW ex m o) (o.b.map ex) with
  | some ps => push (if o.tag = 3 ∧ nm = true then { s with parts := ps } else s) true
  | none => push s false
 else .error (hU s.pc)
def setI (nm : Bool) (o : Ins) (s : MS) : Res MS :=
 if 0 ≤ o.tag ∧ o.tag ≤ 3 then
  match o.a, o.b with
  | a :: _, b :: _ =>
   let v := k6 nm s.vars s.parts b
   let u := if o.tag = 1 then fU v else if o.tag = 2 then aD8 v else if o.tag = 3 then Lib.itoa v.length else v
   .ok { s with vars := vput s.vars a (u.take 48) }
  | _, _ => .error (hU s.pc)
 else .error (hU s.pc)
def bP (c : UInt8) : Bool := (decide (97 ≤ (c ||| 32).toNat) && decide ((c ||| 32).toNat ≤ 122)) || (decide (48 ≤ c.toNat) && decide (c.toNat ≤ 57)) || decide (c.toNat = 95)
def cA (i : Nat) (c : UInt8) : Bool := bP c || decide (c.toNat = 45) || (decide (c.toNat = 46) && decide (i ≠ 0))
def boxed (s : aJ) : Bool := ((List.range s.length).all fun i => cA i ((s[i]?).getD 0)) && decide (s ≠ []) && decide (s.length ≤ 16)
def vP (c : UInt8) : Bool := decide (c.toNat = 32 ∨ c.toNat = 9 ∨ c.toNat = 13 ∨ c.toNat = 10)
def wW (s : aJ) : Bool :=
 match s.findIdx? (fun x => decide (x = 64)) with
 | none => false
 | some i => decide (s.take i ≠ []) && decide (s.drop (i + 1) ≠ []) && !(s.any vP) && !((s.drop (i + 1)).any fun c => decide (c = 64)) && decide (s.length ≤ 32)
def actA (nm : Bool) (o : Ins) (s : MS) : aJ := if o.tag = 1 then [] else k6 nm s.vars s.parts ((o.a[0]?).getD [])
def actV (o : Ins) (arg : aJ) : Action := (o.tag, if o.tag = 4 then arg.take 48 else arg)
def actI (nm : Bool) (o : Ins) (s : MS) : Res MS :=
 if o.tag = 1 ∨ (2 ≤ o.tag ∧ o.tag ≤ 4 ∧ o.a ≠ []) then
  let arg := actA nm o s
  if o.tag = 2 ∧ boxed arg = false then .error (8, o.at_)
  else if o.tag = 3 ∧ wW arg = false then .error (9, o.at_)
  else
   let a : Action := actV o arg
   if a ∈ s.acts then .ok { s with keep := false }
   else if (∃ b ∈ s.acts, a.1 = 4 ∨ b.1 = 4) then .error (10, o.at_)
   else if s.acts.length = 6 then .error (11, o.at_)
   else .ok { s with keep := false, acts := s.acts ++ [a] }
 else .error (hU s.pc)
def step (nm : Bool) (m : Msg) (n : Nat) (o : Ins) (s : MS) : Res MS :=
 if o.op = 1 then (if o.n = 0 ∨ o.n = 1 then push s (decide (o.n = 1)) else .error (hU s.pc))
 else if o.op = 2 then (match pop s with | .error e => .error e | .ok r => push r.2 (!r.1))
 else if o.op = 3 then jump s o.n n true
 else if o.op = 4 then (match pop s with | .error e => .error e | .ok r => jump r.2 o.n n r.1)
 else if o.op = 5 then (match pop s with | .error e => .error e | .ok r => jump r.2 o.n n (!r.1))
 else if o.op = 6 ∨ o.op = 7 ∨ o.op = 8 then matchI nm m o s
 else if o.op = 9 then push s (aB1 m (o.a.map (k6 nm s.vars s.parts)))
 else if o.op = 10 then (if o.tag = 1 ∨ o.tag = 2 then push s (decide (o.tag = 1 ∧ o.n < m.size ∨ o.tag = 2 ∧ m.size < o.n)) else .error (hU s.pc))
 else if o.op = 11 then actI nm o s
 else if o.op = 12 then setI nm o s
 else if o.op = 13 then .ok { s with keep := false }
 else .error (hU s.pc)
structure Out where
 acts : List Action
 steps : Nat
 err : Option (Int × Int)
def loop (nm : Bool) (m : Msg) (code : List Ins) : Nat → Nat → MS → Out
 | 0, st, _ => ⟨[], st, none⟩
 | f + 1, st, s =>
  match code[s.pc]? with
  | none => ⟨if s.keep = true then s.acts ++ [(1, [])] else s.acts, st, none⟩
  | some o =>
   if o.op = 14 then ⟨if s.keep = true then s.acts ++ [(1, [])] else s.acts, st + 1, none⟩
   else match step nm m code.length o s with
    | .error e => ⟨[(1, [])], st + 1, some e⟩
    | .ok t => loop nm m code f (st + 1) { t with pc := t.pc + 1 }
def start : MS := ⟨[], true, [], [], [], 0⟩
def run (nm : Bool) (code : List Ins) (m : Msg) : Out :=
 if 400 < code.length then ⟨[(1, [])], 0, some (12, 400)⟩ else loop nm m code (code.length + 1) 0 start
end Go.Mach
end
section
namespace Go.Syn
inductive Tree where
 | const (b : Bool)
 | not_ (t : Tree)
 | many (all : Bool) (l : Tree)
 | mat (tag : Int) (octet : Bool) (op : Int) (a b : List aJ)
 | exi (a : List aJ)
 | siz (tag n : Int)
 | tnil
 | tcons (t l : Tree)
 | plain (op : Int)
 | act (kind : Int) (arg : aJ) (at_ : Int)
 | set_ (name value : aJ) (tag : Int)
 | iff (bs : Tree)
 | cnil
 | ccons (c l : Tree)
 | bnil
 | bcons (t body l : Tree)
 | belse (body l : Tree)
def wf : Tree → Nat → Bool
 | .const _, k => k == 0
 | .not_ t, k => k == 0 && wf t 0
 | .many _ l, k => k == 0 && wf l 1
 | .mat _ _ _ _ _, k => k == 0
 | .exi _, k => k == 0
 | .siz _ _, k => k == 0
 | .tnil, k => k == 1
 | .tcons t l, k => k == 1 && (wf t 0 && wf l 1)
 | .plain _, k => k == 2
 | .act _ _ _, k => k == 2
 | .set_ _ _ _, k => k == 2
 | .iff bs, k => k == 2 && wf bs 4
 | .cnil, k => k == 3
 | .ccons c l, k => k == 3 && (wf c 2 && wf l 3)
 | .bnil, k => k == 4
 | .bcons t b l, k => k == 4 && (wf t 0 && (wf b 3 && wf l 4))
 | .belse b l, k => k == 4 && (wf b 3 && wf l 4)
def Tree.snocT : Tree → Tree → Tree
 | .tcons t l, x => .tcons t (l.snocT x)
 | _, x => .tcons x .tnil
def Tree.snocC : Tree → Tree → Tree
 | .ccons t l, x => .ccons t (l.snocC x)
 | _, x => .ccons x .cnil
def mkB (t : Option Tree) (body l : Tree) : Tree := match t with
 | some t => .bcons t body l
 | none => .belse body l
def Tree.snocB : Tree → Option Tree → Tree → Tree
 | .bcons t b l, x, y => .bcons t b (l.snocB x y)
 | .belse b l, x, y => .belse b (l.snocB x y)
 | _, x, y => mkB x y .bnil
def txIs : aJ := [105, 115]
def uT : aJ := [99, 111, 110, 116, 97, 105, 110, 115]
def yG : aJ := [109, 97, 116, 99, 104, 101, 115]
def rK : aJ := [99, 111, 109, 112, 97, 114, 97, 116, 111, 114]
def wK : aJ := [105, 59, 111, 99, 116, 101, 116]
def yF : aJ := [105, 59, 97, 115, 99, 105, 105, 45, 99, 97, 115, 101, 109, 97, 112]
def jF : aJ := [101, 110, 118, 101, 108, 111, 112, 101]
def aE1 : aJ := [111, 118, 101, 114]
def wL : aJ := [117, 110, 100, 101, 114]
def o7 : List aJ := [txIs, uT, yG, rK]
structure How where
 cmp : Bool
 tag : Int
 oct : Bool
def aAV (s : aJ) : Nat → How → St → Res (How × St)
 | 0, _, _ => .error (0, 0)
 | f + 1, h, st =>
  if st.2.kind = 2 then
   if k9 o7 st.2.s = -1 then .error (4, st.2.at_)
   else if (k9 o7 st.2.s = 3 ∧ h.cmp = true) ∨ (k9 o7 st.2.s < 3 ∧ h.tag ≠ 0) then .error (7, st.2.at_)
   else if k9 o7 st.2.s < 3 then
    match next s st.1 with
    | .error e => .error e
    | .ok r => aAV s f ⟨h.cmp, 1 + k9 o7 st.2.s, h.oct⟩ r
   else
    match next s st.1 with
    | .error e => .error e
    | .ok r =>
     match text s r (aAF 7 [wK, yF]) with
     | .error e => .error e
     | .ok x => aAV s f ⟨true, h.tag, decide (x.1 = wK)⟩ x.2
  else .ok (h, st)
def aAJ (op : Int) : aJ → Int := if op = 7 then fun x => aAF 7 [[102, 114, 111, 109], [116, 111]] (fU x) else fun _ => 0
def z8 (s : aJ) (op : Int) (h : Res (How × St)) : Res (Tree × St) :=
 match h with
 | .error e => .error e
 | .ok h =>
  match list s h.2 (aAJ op) with
  | .error e => .error e
  | .ok a =>
   match list s a.2 (fun _ => 0) with
   | .error e => .error e
   | .ok b => .ok (.mat (if 1 > h.1.tag then 1 else h.1.tag) h.1.oct op a.1 b.1, b.2)
def uH (s : aJ) (needs : List aJ) (op : Int) (ext : aJ) (st : St) : Res (Tree × St) :=
 if ext ≠ [] ∧ ext ∉ needs then .error (6, st.2.at_)
 else match next s st.1 with
  | .error e => .error e
  | .ok r => z8 s op (aAV s (mu s r + 1) ⟨false, 0, false⟩ r)
def rF (s : aJ) (c : Tree) (st : St) : Res (Tree × St) :=
 match next s st.1 with
 | .error e => .error e
 | .ok r =>
  match sign s r [59] with
  | .error e => .error e
  | .ok q => .ok (c, q)
def actC (s : aJ) (needs : List aJ) (kind : Int) (ext : aJ) (at_ : Int) (st : St) : Res (Tree × St) :=
 if ext ≠ [] ∧ ext ∉ needs then .error (6, st.2.at_)
 else match next s st.1 with
  | .error e => .error e
  | .ok r =>
   match take s r 3 [] with
   | .error e => .error e
   | .ok x =>
    match sign s x.2 [59] with
    | .error e => .error e
    | .ok q => .ok (.act kind x.1.s at_, q)
def yX (s : aJ) (b : Bool) (st : St) : Res (Tree × St) :=
 match next s st.1 with
 | .error e => .error e
 | .ok r => .ok (.const b, r)
def aB0 (s : aJ) (st : St) : Res (Tree × St) :=
 match next s st.1 with
 | .error e => .error e
 | .ok r =>
  match list s r (fun _ => 0) with
  | .error e => .error e
  | .ok a => .ok (.exi a.1, a.2)
def aFR (s : aJ) (st : St) : Res (Tree × St) :=
 match next s st.1 with
 | .error e => .error e
 | .ok r =>
  match take s r 2 [aE1, wL] with
  | .error e => .error e
  | .ok x =>
   match take s x.2 4 [] with
   | .error e => .error e
   | .ok y => .ok (.siz (if x.1.s = wL then 2 else 1) y.1.n, y.2)
def notC (s : aJ) (T : St → Res (Tree × St)) (st : St) : Res (Tree × St) :=
 match next s st.1 with
 | .error e => .error e
 | .ok r =>
  match T r with
  | .error e => .error e
  | .ok t => .ok (.not_ t.1, t.2)
def aDH (s : aJ) (T : St → Res (Tree × St)) : Nat → Tree → St → Res (Tree × St)
 | 0, _, _ => .error (0, 0)
 | f + 1, acc, st =>
  match eat s st [44] with
  | .error e => .error e
  | .ok r =>
   if r.1 = true then
    match T r.2 with
    | .error e => .error e
    | .ok t => aDH s T f (acc.snocT t.1) t.2
   else
    match sign s r.2 [41] with
    | .error e => .error e
    | .ok q => .ok (acc, q)
def aCJ (all : Bool) (l : Res (Tree × St)) : Res (Tree × St) :=
 match l with
 | .error e => .error e
 | .ok l => .ok (.many all l.1, l.2)
def aDG (s : aJ) (T : St → Res (Tree × St)) (all : Bool) (st : St) : Res (Tree × St) :=
 match next s st.1 with
 | .error e => .error e
 | .ok r =>
  match sign s r [40] with
  | .error e => .error e
  | .ok q =>
   match T q with
   | .error e => .error e
   | .ok t =>
    aCJ all (aDH s T (mu s t.2 + 1) (.tcons t.1 .tnil) t.2)
def aA6 : aJ := [116, 114, 117, 101]
def wI : aJ := [102, 97, 108, 115, 101]
def aDN : aJ := [110, 111, 116]
def wG : aJ := [97, 108, 108, 111, 102]
def wH : aJ := [97, 110, 121, 111, 102]
def tH : aJ := [104, 101, 97, 100, 101, 114]
def tJ : aJ := [115, 116, 114, 105, 110, 103]
def tG : aJ := [101, 120, 105, 115, 116, 115]
def aA4 : aJ := [115, 105, 122, 101]
def aFV (s : aJ) (needs : List aJ) (T : St → Res (Tree × St)) (st : St) : Option (Res (Tree × St)) :=
 let w := st.2.s
 if w = aA6 then some (yX s true st)
 else if w = wI then some (yX s false st)
 else if w = aDN then some (notC s T st)
 else if w = wG then some (aDG s T true st)
 else if w = wH then some (aDG s T false st)
 else if w = tH then some (uH s needs 6 [] st)
 else if w = jF then some (uH s needs 7 jF st)
 else if w = tJ then some (uH s needs 8 kB st)
 else if w = tG then some (aB0 s st)
 else if w = aA4 then some (aFR s st)
 else none
def test (s : aJ) (needs : List aJ) : Nat → St → Res (Tree × St)
 | 0, st => if st.2.kind = 1 then .error (5, st.2.at_) else .error (4, st.2.at_)
 | n + 1, st =>
  if st.2.kind = 1 then
   match aFV s needs (test s needs n) st with
   | some r => r
   | none => .error (4, st.2.at_)
  else .error (4, st.2.at_)
def bodyC (s : aJ) (B : St → Res (Tree × St)) (st : St) : Res (Tree × St) :=
 match sign s st [123] with
 | .error e => .error e
 | .ok q =>
  match B q with
  | .error e => .error e
  | .ok b =>
   match sign s b.2 [125] with
   | .error e => .error e
   | .ok r => .ok (b.1, r)
def aC1 : aJ := [101, 108, 115, 105, 102]
def aEZ : aJ := [101, 108, 115, 101]
def aFB (s : aJ) (B : St → Res (Tree × St)) (acc : Tree) (st : St) : Res (Tree × St) :=
 if st.2.kind = 1 ∧ st.2.s = aEZ then
  match next s st.1 with
  | .error e => .error e
  | .ok r =>
   match bodyC s B r with
   | .error e => .error e
   | .ok b => .ok (.iff (acc.snocB none b.1), b.2)
 else .ok (.iff acc, st)
def zG (s : aJ) (T B : St → Res (Tree × St)) : Nat → Tree → St → Res (Tree × St)
 | 0, _, _ => .error (0, 0)
 | f + 1, acc, st =>
  if st.2.kind = 1 ∧ st.2.s = aC1 then
   match next s st.1 with
   | .error e => .error e
   | .ok r =>
    match T r with
    | .error e => .error e
    | .ok t =>
     match bodyC s B t.2 with
     | .error e => .error e
     | .ok b => zG s T B f (acc.snocB (some t.1) b.1) b.2
  else aFB s B acc st
def ifC (s : aJ) (T B : St → Res (Tree × St)) (st : St) : Res (Tree × St) :=
 match next s st.1 with
 | .error e => .error e
 | .ok r =>
  match T r with
  | .error e => .error e
  | .ok t =>
   match bodyC s B t.2 with
   | .error e => .error e
   | .ok b => zG s T B (mu s b.2 + 1) (.bcons t.1 b.1 .bnil) b.2
def aA3 : aJ := [107, 101, 101, 112]
def qD : aJ := [100, 105, 115, 99, 97, 114, 100]
def aA5 : aJ := [115, 116, 111, 112]
def gT : aJ := [102, 105, 108, 101, 105, 110, 116, 111]
def o6 : aJ := [114, 101, 100, 105, 114, 101, 99, 116]
def kA : aJ := [114, 101, 106, 101, 99, 116]
def aDO : aJ := [115, 101, 116]
def txIf : aJ := [105, 102]
def aFQ (s : aJ) (needs : List aJ) (st : St) : Res (Tree × St) :=
 match setC s needs st with
 | .error e => .error e
 | .ok r => .ok (.set_ r.1.name r.1.value r.1.tag, r.2)
def cmdD (s : aJ) (needs : List aJ) (T B : St → Res (Tree × St)) (st : St) : Option (Res (Tree × St)) :=
 let w := st.2.s
 if w = aA3 then some (rF s (.act 1 [] st.2.at_) st)
 else if w = qD then some (rF s (.plain 13) st)
 else if w = aA5 then some (rF s (.plain 14) st)
 else if w = gT then some (actC s needs 2 gT st.2.at_ st)
 else if w = o6 then some (actC s needs 3 [] st.2.at_ st)
 else if w = kA then some (actC s needs 4 kA st.2.at_ st)
 else if w = aDO then some (aFQ s needs st)
 else if w = txIf then some (ifC s T B st)
 else none
def yV (s : aJ) (C : St → Option (Res (Tree × St))) : Nat → Tree → St → Res (Tree × St)
 | 0, _, _ => .error (0, 0)
 | f + 1, acc, st =>
  if st.2.kind = 1 then
   match C st with
   | none => .error (4, st.2.at_)
   | some (.error e) => .error e
   | some (.ok c) => yV s C f (acc.snocC c.1) c.2
  else .ok (acc, st)
def block (s : aJ) (needs : List aJ) : Nat → St → Res (Tree × St)
 | 0, st => if st.2.kind = 1 then .error (5, st.2.at_) else .ok (.cnil, st)
 | n + 1, st => yV s (cmdD s needs (test s needs n) (block s needs n)) (mu s st + 1) .cnil st
end Go.Syn
end
section
namespace Go.Syn
open Go Go.SL
def u0 : Cell := ⟨.nilIface, rfl⟩
def Rep (K : Hl) : Tree → List (Cell × Cell) → Prop
 | .const b, us => us = [(⟨.iface 289 (.bool b), rfl⟩, u0)]
 | .not_ t, us => ∃ v, Rep K t [(v, u0)] ∧ us = [(⟨.iface 293 (.agg #[v.1]), rfl⟩, u0)]
 | .many all l, us => ∃ xs sv, Rep K l xs ∧ Ksl (hQ 288) K sv (xs.map (·.1)) ∧ us = [(⟨.iface 376 (.agg #[.bool all, sv]), rfl⟩, u0)]
 | .mat tag oct op a b, us => ∃ va vb, Ksl (o2 9) K va a ∧ Ksl (o2 9) K vb b ∧ us = [(⟨.iface 380 (.agg #[i64 tag, .bool oct, i64 op, va, vb]), rfl⟩, u0)]
 | .exi a, us => ∃ va, Ksl (o2 9) K va a ∧ us = [(⟨.iface 297 (.agg #[va]), rfl⟩, u0)]
 | .siz tag n, us => us = [(⟨.iface 300 (.agg #[i64 tag, i64 n]), rfl⟩, u0)]
 | .tnil, us => us = []
 | .tcons t l, us => ∃ v xs, Rep K t [(v, u0)] ∧ Rep K l xs ∧ us = (v, u0) :: xs
 | .plain op, us => us = [(⟨.iface 285 (.agg #[i64 op]), rfl⟩, u0)]
 | .act k a p, us => us = [(⟨.iface 282 (.agg #[i64 k, str a, i64 p]), rfl⟩, u0)]
 | .set_ n v t, us => us = [(⟨.iface 308 (.agg #[str n, str v, i64 t]), rfl⟩, u0)]
 | .iff bs, us => ∃ xs sv, Rep K bs xs ∧ Ksl (aBQ 371) K sv xs ∧ us = [(⟨.iface 311 (.agg #[sv]), rfl⟩, u0)]
 | .cnil, us => us = []
 | .ccons t l, us => ∃ v xs, Rep K t [(v, u0)] ∧ Rep K l xs ∧ us = (v, u0) :: xs
 | .bnil, us => us = []
 | .bcons t b l, us => ∃ v ys sv xs, Rep K t [(v, u0)] ∧ (∃ ty u, v.1 = .iface ty u) ∧ Rep K b ys ∧ Ksl (hQ 224) K sv.1 (ys.map (·.1)) ∧ Rep K l xs ∧ us = (v, sv) :: xs
 | .belse b l, us => ∃ ys sv xs, Rep K b ys ∧ Ksl (hQ 224) K sv.1 (ys.map (·.1)) ∧ Rep K l xs ∧ us = (⟨.nilIface, rfl⟩, sv) :: xs
theorem Rep.mono {K K' : Hl} (le : K.le K') : ∀ {t : Tree} {us : List (Cell × Cell)}, Rep K t us → Rep K' t us := by
 intro t;induction t with
 | const b => intro us h; exact h
 | not_ t ih => rintro us ⟨v, h, e⟩; exact ⟨v, ih h, e⟩
 | many all l ih => rintro us ⟨xs, sv, h1, h2, e⟩; exact ⟨xs, sv, ih h1, h2.mono le, e⟩
 | mat tag oct op a b => rintro us ⟨va, vb, h1, h2, e⟩; exact ⟨va, vb, h1.mono le, h2.mono le, e⟩
 | exi a => rintro us ⟨va, h1, e⟩; exact ⟨va, h1.mono le, e⟩
 | siz tag n => intro us h; exact h
 | tnil => intro us h; exact h
 | tcons t l ih1 ih2 => rintro us ⟨v, xs, h1, h2, e⟩; exact ⟨v, xs, ih1 h1, ih2 h2, e⟩
 | plain op => intro us h; exact h
 | act k a p => intro us h; exact h
 | set_ n v t => intro us h; exact h
 | iff bs ih => rintro us ⟨xs, sv, h1, h2, e⟩; exact ⟨xs, sv, ih h1, h2.mono le, e⟩
 | cnil => intro us h; exact h
 | ccons t l ih1 ih2 => rintro us ⟨v, xs, h1, h2, e⟩; exact ⟨v, xs, ih1 h1, ih2 h2, e⟩
 | bnil => intro us h; exact h
 | bcons t b l ih1 ih2 ih3 => rintro us ⟨v, ys, sv, xs, h1, h2, h3, h4, h5, e⟩; exact ⟨v, ys, sv, xs, ih1 h1, h2, ih2 h3, h4.mono le, ih3 h5, e⟩
 | belse b l ih1 ih2 => rintro us ⟨ys, sv, xs, h1, h2, h3, e⟩; exact ⟨ys, sv, xs, ih1 h1, h2.mono le, ih2 h3, e⟩
def Rep1 (K : Hl) (t : Tree) (v : Value) : Prop := ∃ ty u, v = .iface ty u ∧ Rep K t [(⟨.iface ty u, rfl⟩, u0)]
theorem Rep1.mono {K K' : Hl} {t : Tree} {v : Value} (h : Rep1 K t v) (le : K.le K') : Rep1 K' t v := let ⟨a, b, e, r⟩ := h; ⟨a, b, e, r.mono le⟩
def isCL : Tree → Bool
 | .cnil => true
 | .ccons _ l => isCL l
 | _ => false
end Go.Syn
end
section
namespace Go.Cmp
open Go.Syn Go.Mach
def jmp (op : Int) : Ins := ⟨op, 0, 0, false, [], [], 0⟩
def setN (ops : List Ins) (k : Nat) (n : Int) : List Ins := ops.modify k fun o => { o with n := n }
def land (ops : List Ins) (ps : List Nat) : List Ins := ps.foldl (fun o k => setN o k ((ops.length : Int) - 1 - k)) ops
def zX : Tree → Bool
 | .tcons _ _ => false
 | .bcons _ _ _ => false
 | .belse _ _ => false
 | _ => true
mutual
def unl : Tree → Bool → List Ins → List Ins × List Nat
 | .not_ t, tn, ops => unl t (!tn) ops
 | .const b, tn, ops => if b = tn then (ops ++ [jmp 3], [ops.length]) else (ops, [])
 | .many all l, tn, ops => (land (unlL all tn l ops [] []).1 (unlL all tn l ops [] []).2.2, (unlL all tn l ops [] []).2.1)
 | .mat tag oct op a b, tn, ops => (ops ++ [⟨op, 0, tag, oct, a, b, 0⟩, jmp (if tn = true then 4 else 5)], [ops.length + 1])
 | .exi a, tn, ops => (ops ++ [⟨9, 0, 0, false, a, [], 0⟩, jmp (if tn = true then 4 else 5)], [ops.length + 1])
 | .siz tag n, tn, ops => (ops ++ [⟨10, n, tag, false, [], [], 0⟩, jmp (if tn = true then 4 else 5)], [ops.length + 1])
 | _, _, ops => (ops, [])
def unlL (all tn : Bool) : Tree → List Ins → List Nat → List Nat → List Ins × List Nat × List Nat
 | .tcons t l, ops, away, here =>
  if all = tn ∧ zX l = false then unlL all tn l (unl t (!tn) ops).1 away (here ++ (unl t (!tn) ops).2)
  else unlL all tn l (unl t tn ops).1 (away ++ (unl t tn ops).2) here
 | _, ops, away, here => (ops, away, here)
end
mutual
def body : Tree → List Ins → List Ins
 | .ccons c l, ops => body l (cmdI c ops)
 | _, ops => ops
def cmdI : Tree → List Ins → List Ins
 | .plain op, ops => ops ++ [jmp op]
 | .act k a p, ops => ops ++ [⟨11, 0, k, false, if k = 1 then [] else [a], [], p⟩]
 | .set_ n v t, ops => ops ++ [⟨12, 0, t, false, [n], [v], 0⟩]
 | .iff bs, ops => nZ bs ops []
 | _, ops => ops
def nZ : Tree → List Ins → List Nat → List Ins
 | .belse b l, ops, out => land (body b ops) out
 | .bcons t b l, ops, out =>
  if zX l = true then nZ l (land (body b (unl t false ops).1) (unl t false ops).2) out
  else nZ l (land (body b (unl t false ops).1 ++ [jmp 3]) (unl t false ops).2) (out ++ [(body b (unl t false ops).1).length])
 | _, ops, out => land ops out
end
def script (t : Tree) : List Ins := body t []
end Go.Cmp
end
section
namespace Go.Cmp
open Go Go.SL Go.Syn Go.Mach
structure InsV where
 op : Int
 n : Int
 tag : Int
 oct : Bool
 a : Cell
 b : Cell
 at_ : Int
def aFE : El InsV := { e := 41, sz := 7, enc := fun v => [i64 v.op, i64 v.n, i64 v.tag, .bool v.oct, v.a.1, v.b.1, i64 v.at_], len := fun _ => rfl, one := fun v u h => by simp at h; rcases h with rfl | rfl | rfl | rfl | rfl | rfl | rfl; rfl; rfl; rfl; rfl; exact v.a.2; exact v.b.2; rfl }
def RIns (K : Hl) (v : InsV) (o : Ins) : Prop := v.op = o.op ∧ v.n = o.n ∧ v.tag = o.tag ∧ v.oct = o.oct ∧ v.at_ = o.at_ ∧ Ksl (o2 9) K v.a.1 o.a ∧ Ksl (o2 9) K v.b.1 o.b
def RIs (K : Hl) : List InsV → List Ins → Prop
 | [], [] => True
 | v :: vs, o :: os => RIns K v o ∧ RIs K vs os
 | _, _ => False
theorem RIns.mono {K K' : Hl} {v : InsV} {o : Ins} (h : RIns K v o) (le : K.le K') : RIns K' v o := ⟨h.1, h.2.1, h.2.2.1, h.2.2.2.1, h.2.2.2.2.1, h.2.2.2.2.2.1.mono le, h.2.2.2.2.2.2.mono le⟩
theorem RIs.mono {K K' : Hl} (le : K.le K') : ∀ {vs : List InsV} {os : List Ins}, RIs K vs os → RIs K' vs os
 | [], [], _ => trivial
 | _ :: _, _ :: _, h => ⟨h.1.mono le, RIs.mono le h.2⟩
theorem RIs.length {K : Hl} : ∀ {vs : List InsV} {os : List Ins}, RIs K vs os → vs.length = os.length
 | [], [], _ => rfl
 | _ :: _, _ :: _, h => by simp [RIs.length h.2]
theorem RIs.append {K : Hl} {ws : List InsV} {ps : List Ins} (h2 : RIs K ws ps) : ∀ {vs : List InsV} {os : List Ins}, RIs K vs os → RIs K (vs ++ ws) (os ++ ps)
 | [], [], _ => h2
 | _ :: _, _ :: _, h => ⟨h.1, RIs.append h2 h.2⟩
theorem RIs.get {K : Hl} : ∀ {vs : List InsV} {os : List Ins} {i : Nat} {v : InsV}, RIs K vs os → vs[i]? = some v → ∃ o, os[i]? = some o ∧ RIns K v o
 | _ :: _, o :: _, 0, _, h, e => by simp at e; subst e; exact ⟨o, rfl, h.1⟩
 | _ :: _, _ :: _, i + 1, _, h, e => by simpa using RIs.get h.2 (by simpa using e)
def vV (vs : List InsV) (k : Nat) (n : Int) : List InsV := vs.modify k fun o => { o with n := n }
def aDC (vs : List InsV) (ps : List Nat) : List InsV := ps.foldl (fun o k => vV o k ((vs.length : Int) - 1 - k)) vs
theorem RIs.setN {K : Hl} {n : Int} : ∀ {vs : List InsV} {os : List Ins} {k : Nat}, RIs K vs os → RIs K (vV vs k n) (Cmp.setN os k n)
 | [], [], k, _ => by
  have e1 : vV [] k n = [] := List.eq_nil_of_length_eq_zero (by simp [vV]);have e2 : Cmp.setN [] k n = [] := List.eq_nil_of_length_eq_zero (by simp [Cmp.setN]);rw [e1, e2]; trivial
 | v :: vs, o :: os, 0, h => ⟨⟨h.1.1, rfl, h.1.2.2.1, h.1.2.2.2.1, h.1.2.2.2.2.1, h.1.2.2.2.2.2.1, h.1.2.2.2.2.2.2⟩, h.2⟩
 | v :: vs, o :: os, k + 1, h => ⟨h.1, RIs.setN (k := k) h.2⟩
theorem RIs.land {K : Hl} {vs : List InsV} {os : List Ins} {ps : List Nat} (h : RIs K vs os) : RIs K (aDC vs ps) (Cmp.land os ps) := by
 unfold aDC Cmp.land;rw [← h.length]
 generalize ((vs.length : Nat) : Int) = m
 revert vs os
 induction ps with
 | nil => intro vs os h; exact h
 | cons k ps ih => intro vs os h; exact ih h.setN
end Go.Cmp
end
section
namespace Go.Proofs
open Go Go.SL Go.Syn
theorem Glob.mono {K K' : Hl} (h : Glob K) (le : K.le K') : Glob K' := ⟨let ⟨m, T, fz, e⟩ := h.maxLen; ⟨m, T, fz, le _ _ e⟩, fun w l => h.pow10 w (Hl.le_trans le l)⟩
end Go.Proofs
end
section
namespace Go.Syn
def Adv {α : Type} (s : aJ) (T : St → Res (α × St)) : Prop := ∀ st r, Ok s st → T st = .ok r → Ok s r.2 ∧ mu s r.2 < mu s st
def AdvN {α : Type} (s : aJ) (T : St → Res (α × St)) : Prop := ∀ st r, Ok s st → st.2.kind ≠ 0 → T st = .ok r → Ok s r.2 ∧ mu s r.2 < mu s st
theorem Adv.n {α : Type} {s : aJ} {T : St → Res (α × St)} (h : Adv s T) : AdvN s T := fun st r hok _ e => h st r hok e
variable {s : aJ}
end Go.Syn
namespace Go.Syn
variable {s : aJ}
def yH : aJ := [114, 101, 113, 117, 105, 114, 101]
def aE0 : List aJ := [jF, gT, kA, kB]
def addN (ns : List aJ) (e : aJ) : List aJ := if e ∈ ns then ns else ns ++ [e]
def yQ (ns l : List aJ) : List aJ := l.foldl addN ns
def reqF (s : aJ) : Nat → List aJ → St → Res (List aJ × St)
 | 0, _, _ => .error (0, 0)
 | f + 1, ns, st =>
  if st.2.kind = 1 ∧ st.2.s = yH then
   match next s st.1 with
   | .error e => .error e
   | .ok r =>
    match list s r (aAF 6 aE0) with
    | .error e => .error e
    | .ok l =>
     match sign s l.2 [59] with
     | .error e => .error e
     | .ok q => reqF s f (yQ ns l.1) q
  else .ok (ns, st)
def aAI (s : aJ) (n : Res (List aJ × St)) : Res (List aJ × Tree) :=
 match n with
 | .error e => .error e
 | .ok n =>
  match block s n.1 7 n.2 with
  | .error e => .error e
  | .ok b => if b.2.2.kind = 0 then .ok (n.1, b.1) else .error (4, b.2.2.at_)
def aEP (s : aJ) : Res (List aJ × Tree) :=
 match next s 0 with
 | .error e => .error e
 | .ok r => aAI s (reqF s (mu s r + 1) [] r)
end Go.Syn
end
section
namespace Go.Proofs
open Go Go.SL Go.Syn
structure PK (s : List UInt8) (needs : List (List UInt8)) (nv : Value) (K : Hl) : Prop where
 hs : s.length ≤ 600
 hg : Glob K
 hv : Ksl (o2 9) K nv needs
 hn : needs.length ≤ 1000000
theorem PK.mono {s : List UInt8} {needs : List (List UInt8)} {nv : Value} {K K' : Hl} (h : PK s needs nv K) (le : K.le K') : PK s needs nv K' := ⟨h.hs, h.hg.mono le, h.hv.mono le, h.hn⟩
end Go.Proofs
end
section
set_option maxRecDepth 4000
namespace Go.Proofs
open Go Go.SL Go.Syn
abbrev fnV (f : FuncId) : Value := .func (.func f) #[] #[]
abbrev simV (c : Nat) : Value := .func (.func 259) #[] #[ptr c]
abbrev actV (c d : Nat) : Value := .func (.func 260) #[] #[ptr c, ptr d]
structure Tabs (K : Hl) (cb tb : Nat) : Prop where
 cmds : ∃ c1 c2 c3 d1 e1 d2 e2 d3 e3, K cb = some (mapO [(aA3, simV c1, 0), (qD, simV c2, 1), (aA5, simV c3, 2), (gT, actV d1 e1, 3), (o6, actV d2 e2, 4), (kA, actV d3 e3, 5), (aDO, fnV 163, 6), (txIf, fnV 164, 7)] 8) ∧
  K c1 = some (aW [fnV 159] 283) ∧ K c2 = some (aW [fnV 160] 283) ∧ K c3 = some (aW [fnV 161] 283) ∧
  K d1 = some (aW [str gT] 9) ∧ K e1 = some (aW [i64 2] 3) ∧ K d2 = some (aW [str []] 9) ∧ K e2 = some (aW [i64 3] 3) ∧ K d3 = some (aW [str kA] 9) ∧ K e3 = some (aW [i64 4] 3)
 tests : K tb = some (mapO [(aA6, fnV 165, 0), (wI, fnV 166, 1), (aDN, fnV 167, 2), (wG, fnV 169, 3), (wH, fnV 171, 4), (tH, fnV 172, 5), (jF, fnV 174, 6), (tJ, fnV 175, 7), (tG, fnV 176, 8), (aA4, fnV 178, 9)] 10)
theorem Tabs.mono {K K' : Hl} {cb tb : Nat} (h : Tabs K cb tb) (le : K.le K') : Tabs K' cb tb :=
 ⟨let ⟨c1, c2, c3, d1, e1, d2, e2, d3, e3, h0, h1, h2, h3, h4, h5, h6, h7, h8, h9⟩ := h.cmds; ⟨c1, c2, c3, d1, e1, d2, e2, d3, e3, le _ _ h0, le _ _ h1, le _ _ h2, le _ _ h3, le _ _ h4, le _ _ h5, le _ _ h6, le _ _ h7, le _ _ h8, le _ _ h9⟩, le _ _ h.tests⟩
end Go.Proofs
end
section
namespace Go.Proofs
open Go Go.SL Go.Syn
theorem dY (k k' : List UInt8) (v : Value) (c : Nat) (es : List Ent) : mget ((k', v, c) :: es) k = if k = k' then some v else mget es k := by
 unfold mget;rw [List.find?_cons]
 by_cases h : k = k'
 ·subst h; simp
 ·simp [h]
structure PE (s : List UInt8) (needs : List (List UInt8)) (nv : Value) (cb tb : Nat) (K : Hl) : Prop where
 pk : PK s needs nv K
 tabs : Tabs K cb tb
theorem PE.mono {s : List UInt8} {needs : List (List UInt8)} {nv : Value} {cb tb : Nat} {K K' : Hl} (h : PE s needs nv cb tb K) (le : K.le K') : PE s needs nv cb tb K' := ⟨h.pk.mono le, h.tabs.mono le⟩
end Go.Proofs
end
section
namespace Go.Proofs
open Go Go.SL Go.Syn
structure ScriptAt (K : Hl) (b : Nat) (needs : List (List UInt8)) (t : Tree) : Prop where
 at_ : ∃ l nv bv ys fz, K b = some (aW l 208 fz) ∧ l[6]? = some nv ∧ l[7]? = some bv ∧ Ksl (o2 9) K nv needs ∧ Ksl (hQ 224) K bv (ys.map Prod.fst) ∧ Rep K t ys ∧ isCL t = true
end Go.Proofs
end
section
namespace Go.Proofs
open Go Go.SL Go.Syn Go.Mach
def aDS (vars : List (List UInt8 × List UInt8)) (parts : List (List UInt8)) : Prop := ∀ name, (held vars parts name).1.length ≤ 100000
end Go.Proofs
end

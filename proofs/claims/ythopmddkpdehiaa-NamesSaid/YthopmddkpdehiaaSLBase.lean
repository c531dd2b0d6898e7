/-
  A program logic over the walk's own rules: the heap as finite maps, the frame of a function as an association list of slots.
  Nothing of a program stands here. Conditions: none.
-/
import Derived.WalkKit
import Derived.Defers
import Derived.Orders
set_option linter.unusedSimpArgs false
set_option linter.unusedVariables false
namespace Go.SL

/-! ## Heaplets -/

abbrev Hl := Nat → Option Obj
def Hl.emp : Hl := fun _ => none
def Hl.one (b : Nat) (o : Obj) : Hl := fun x => if x = b then some o else none
def Hl.join (h k : Hl) : Hl := fun x => (h x).or (k x)
def Hl.dj (h k : Hl) : Prop := ∀ x, h x = none ∨ k x = none
def Hl.le (h k : Hl) : Prop := ∀ x o, h x = some o → k x = some o

theorem Hl.le_refl (h : Hl) : h.le h := fun _ _ e => e
theorem Hl.le_trans {a b c : Hl} (h : a.le b) (k : b.le c) : a.le c := fun x o e => k x o (h x o e)
theorem Hl.dj.symm {a b : Hl} (h : a.dj b) : b.dj a := fun x => (h x).symm
theorem Hl.dj_join {a b c : Hl} : a.dj (b.join c) ↔ a.dj b ∧ a.dj c := by
  constructor
  · intro h
    refine ⟨fun x => ?_, fun x => ?_⟩ <;> rcases h x with h | h <;> first | exact .inl h | (simp [Hl.join] at h; simp [h])
  · rintro ⟨h1, h2⟩ x
    rcases h1 x with h | h
    · exact .inl h
    · rcases h2 x with k | k
      · exact .inl k
      · exact .inr (by simp [Hl.join, h, k])
theorem Hl.join_dj {a b c : Hl} : (b.join c).dj a ↔ b.dj a ∧ c.dj a :=
  ⟨fun h => let ⟨x, y⟩ := Hl.dj_join.1 h.symm; ⟨x.symm, y.symm⟩, fun ⟨x, y⟩ => (Hl.dj_join.2 ⟨x.symm, y.symm⟩).symm⟩
theorem Hl.dj_emp (a : Hl) : a.dj .emp := fun _ => .inr rfl
theorem Hl.le_join_left {a b c : Hl} : (a.join b).le c → a.le c := fun h x o e => h x o (by simp [Hl.join, e])
theorem Hl.le_join_right {a b c : Hl} (hd : a.dj b) : (a.join b).le c → b.le c := fun h x o e => h x o (by
  rcases hd x with k | k
  · simp [Hl.join, k, e]
  · rw [k] at e; cases e)
theorem Hl.join_le {a b c : Hl} (h : a.le c) (k : b.le c) : (a.join b).le c := by
  intro x o e
  unfold Hl.join at e
  cases ha : a x with
  | some y => rw [ha] at e; simp at e; subst e; exact h x _ ha
  | none => rw [ha] at e; simp at e; exact k x o e
theorem Hl.join_assoc (a b c : Hl) : (a.join b).join c = a.join (b.join c) := by
  funext x; simp [Hl.join, Option.or_assoc]
theorem Hl.join_emp (a : Hl) : a.join .emp = a := by funext x; simp [Hl.join, Hl.emp]
theorem Hl.emp_join (a : Hl) : Hl.emp.join a = a := by funext x; simp [Hl.join, Hl.emp]
theorem Hl.join_comm {a b : Hl} (h : a.dj b) : a.join b = b.join a := by
  funext x
  rcases h x with k | k
  · simp [Hl.join, k]
  · cases ha : a x <;> simp [Hl.join, k, ha]

/-! ## Assertions: lists of owned pieces -/

abbrev Asn := Hl → Prop
def pt (b : Nat) (o : Obj) : Asn := fun h => h = Hl.one b o
def Sat : List Asn → Hl → Prop
  | [], h => h = .emp
  | A :: L, h => ∃ h1 h2, A h1 ∧ Sat L h2 ∧ h1.dj h2 ∧ h = h1.join h2

theorem sat_append {L M : List Asn} {h : Hl} : Sat (L ++ M) h ↔ ∃ h1 h2, Sat L h1 ∧ Sat M h2 ∧ h1.dj h2 ∧ h = h1.join h2 := by
  induction L generalizing h with
  | nil =>
    constructor
    · intro k; exact ⟨.emp, h, rfl, k, (Hl.dj_emp h).symm, (Hl.emp_join h).symm⟩
    · rintro ⟨h1, h2, rfl, k, _, rfl⟩; simpa [Hl.emp_join] using k
  | cons A L ih =>
    constructor
    · rintro ⟨a, r, ha, hr, hd, rfl⟩
      obtain ⟨x, y, hx, hy, hd2, rfl⟩ := ih.1 hr
      have := Hl.dj_join.1 hd
      exact ⟨a.join x, y, ⟨a, x, ha, hx, this.1, rfl⟩, hy, Hl.join_dj.2 ⟨this.2, hd2⟩, (Hl.join_assoc _ _ _).symm⟩
    · rintro ⟨_, y, ⟨a, x, ha, hx, hax, rfl⟩, hy, hd, rfl⟩
      have := Hl.join_dj.1 hd
      exact ⟨a, x.join y, ha, ih.2 ⟨x, y, hx, hy, this.2, rfl⟩, Hl.dj_join.2 ⟨hax, this.1⟩, Hl.join_assoc _ _ _⟩

theorem sat_cons {A : Asn} {L : List Asn} {h : Hl} : Sat (A :: L) h ↔ ∃ h1 h2, A h1 ∧ Sat L h2 ∧ h1.dj h2 ∧ h = h1.join h2 := Iff.rfl

theorem sat_swap {A B : Asn} {L : List Asn} {h : Hl} : Sat (A :: B :: L) h → Sat (B :: A :: L) h := by
  rintro ⟨a, _, ha, ⟨b, l, hb, hl, hbl, rfl⟩, hd, rfl⟩
  have := Hl.dj_join.1 hd
  refine ⟨b, a.join l, hb, ⟨a, l, ha, hl, this.2, rfl⟩, Hl.dj_join.2 ⟨this.1.symm, hbl⟩, ?_⟩
  rw [← Hl.join_assoc, Hl.join_comm this.1, Hl.join_assoc]

theorem sat_tail_mono {A : Asn} {L M : List Asn} (k : ∀ h, Sat L h → Sat M h) {h : Hl} : Sat (A :: L) h → Sat (A :: M) h :=
  fun ⟨a, l, ha, hl, hd, e⟩ => ⟨a, l, ha, k _ hl, hd, e⟩

/-- 'L' holds the piece A; with A' in its place it is L'. -/
inductive Fnd (A A' : Asn) : List Asn → List Asn → Prop where
  | here {L} : Fnd A A' (A :: L) (A' :: L)
  | there {B L L'} : Fnd A A' L L' → Fnd A A' (B :: L) (B :: L')

theorem Fnd.split {A A' : Asn} {L L' : List Asn} (f : Fnd A A' L L') : ∃ M, (∀ h, Sat L h → Sat (A :: M) h) ∧ (∀ h, Sat (A' :: M) h → Sat L' h) := by
  induction f with
  | here => exact ⟨_, fun _ h => h, fun _ h => h⟩
  | @there B L L' f ih =>
    obtain ⟨M, h1, h2⟩ := ih
    exact ⟨B :: M, fun h k => sat_swap (sat_tail_mono h1 k), fun h k => sat_tail_mono h2 (sat_swap k)⟩

/-- 'L' is, in another order, 'A' and then 'M'. -/
inductive Tk (A : Asn) : List Asn → List Asn → Prop where
  | here {L} : Tk A (A :: L) L
  | there {B L M} : Tk A L M → Tk A (B :: L) (B :: M)
theorem Tk.sat {A : Asn} {L M : List Asn} (f : Tk A L M) : ∀ h, Sat L h → Sat (A :: M) h := by
  induction f with
  | here => exact fun _ h => h
  | there f ih => exact fun h k => sat_swap (sat_tail_mono ih k)
inductive Tks : List Asn → List Asn → List Asn → Prop where
  | nil {L} : Tks [] L L
  | cons {A As L M N} : Tk A L M → Tks As M N → Tks (A :: As) L N
theorem Tks.sat {As L N : List Asn} (f : Tks As L N) : ∀ h, Sat L h → Sat (As ++ N) h := by
  induction f with
  | nil => exact fun _ h => h
  | cons t _ ih => exact fun h k => sat_tail_mono ih (t.sat h k)

/-! ## Worlds -/

def hp (w : World) : Hl := fun b => w.heap[b]?

/-- What a world holds: the known part K, the part F of others, the pieces L; beside them the streams are as w0 had them. -/
structure In (w0 : World) (F K : Hl) (L : List Asn) (w : World) : Prop where
  os : w.os = w0.os
  tape : w.tape = w0.tape
  output : w.output = w0.output
  size : w0.heap.size ≤ w.heap.size
  rep : ∃ h, Sat L h ∧ F.dj K ∧ F.dj h ∧ K.dj h ∧ F.le (hp w) ∧ K.le (hp w) ∧ h.le (hp w)

theorem In.imp {w0 w : World} {F K : Hl} {L M : List Asn} (k : ∀ h, Sat L h → Sat M h) (i : In w0 F K L w) : In w0 F K M w :=
  let ⟨h, hs, r⟩ := i.rep
  ⟨i.os, i.tape, i.output, i.size, h, k h hs, r⟩

/-- A piece that is no longer wanted is dropped. -/
theorem In.drop {w0 w : World} {F K : Hl} {A : Asn} {L : List Asn} (i : In w0 F K (A :: L) w) : In w0 F K L w := by
  obtain ⟨h, ⟨a, l, ha, hl, hal, rfl⟩, d1, d2, d3, l1, l2, l3⟩ := i.rep
  exact ⟨i.os, i.tape, i.output, i.size, l, hl, d1, (Hl.dj_join.1 d2).2, (Hl.dj_join.1 d3).2, l1, l2, Hl.le_join_right hal l3⟩
theorem In.dropAll {w0 w : World} {F K : Hl} : ∀ {L M : List Asn}, In w0 F K (L ++ M) w → In w0 F K M w
  | [], _, i => i
  | _ :: L, _, i => In.dropAll (L := L) i.drop
theorem In.known {w0 w : World} {F K : Hl} {L : List Asn} (i : In w0 F K L w) {b : Nat} {o : Obj} (h : K b = some o) : w.heap[b]? = some o := by
  obtain ⟨_, _, _, _, _, _, l2, _⟩ := i.rep; exact l2 b o h
theorem In.piece {w0 w : World} {F K : Hl} {b : Nat} {o : Obj} {L : List Asn} (i : In w0 F K (pt b o :: L) w) : w.heap[b]? = some o := by
  obtain ⟨h, ⟨a, l, ha, hl, hal, rfl⟩, d1, d2, d3, l1, l2, l3⟩ := i.rep
  exact l3 b o (by simp only [pt] at ha; subst ha; simp [Hl.join, Hl.one])
theorem In.mem {w0 w : World} {F K : Hl} {b : Nat} {o : Obj} {A' : Asn} {L L' : List Asn} (f : Fnd (pt b o) A' L L') (i : In w0 F K L w) : w.heap[b]? = some o :=
  let ⟨_, h1, _⟩ := f.split; (i.imp h1).piece
theorem In.dk {w0 w : World} {F K : Hl} {L : List Asn} (i : In w0 F K L w) : F.dj K := let ⟨_, _, d, _⟩ := i.rep; d
theorem In.fle {w0 w : World} {F K : Hl} {L : List Asn} (i : In w0 F K L w) : F.le (hp w) := let ⟨_, _, _, _, _, l, _⟩ := i.rep; l

/-- A piece that will not be written again is known. -/
theorem In.settle {w0 w : World} {F K : Hl} {b : Nat} {o : Obj} {L : List Asn} (i : In w0 F K (pt b o :: L) w) :
    K.le (K.join (Hl.one b o)) ∧ (K.join (Hl.one b o)) b = some o ∧ In w0 F (K.join (Hl.one b o)) L w := by
  obtain ⟨h, ⟨a, l, ha, hl, hal, rfl⟩, d1, d2, d3, l1, l2, l3⟩ := i.rep
  simp only [pt] at ha; subst ha
  have hd2 := Hl.dj_join.1 d2
  have hd3 := Hl.dj_join.1 d3
  have hKb : K b = none := by rcases hd3.1 b with h | h; exact h; simp [Hl.one] at h
  refine ⟨fun x o e => by simp [Hl.join, e], by simp [Hl.join, hKb, Hl.one], ⟨i.os, i.tape, i.output, i.size, l, hl, Hl.dj_join.2 ⟨d1, hd2.1⟩, hd2.2, Hl.join_dj.2 ⟨hd3.2, hal⟩, l1, ?_, Hl.le_join_right hal l3⟩⟩
  exact Hl.join_le l2 (Hl.le_join_left l3)

theorem In.drew {w0 w : World} {F K : Hl} {L : List Asn} (i : In w0 F K L w) (n : Nat) : In w0 F K L { w with drawn := n } :=
  ⟨i.os, i.tape, i.output, i.size, i.rep⟩

/-- A new block. -/
theorem In.alloc {w0 w : World} {F K : Hl} {L : List Asn} (i : In w0 F K L w) (o : Obj) :
    In w0 F K (pt w.heap.size o :: L) { w with heap := w.heap.push o } := by
  obtain ⟨h, hl, d1, d2, d3, l1, l2, l3⟩ := i.rep
  have fresh : ∀ {k : Hl}, k.le (hp w) → k w.heap.size = none := by
    intro k hk
    cases e : k w.heap.size with
    | none => rfl
    | some o' => have := hk _ _ e; simp [hp] at this
  have up : ∀ {k : Hl}, k.le (hp w) → k.le (hp { w with heap := w.heap.push o }) := by
    intro k hk x o' e
    have := hk x o' e
    simp only [hp] at this ⊢
    have hx : x < w.heap.size := by
      rcases Nat.lt_or_ge x w.heap.size with h | h
      · exact h
      · simp [Array.getElem?_eq_none h] at this
    rw [Array.getElem?_push, if_neg (by omega)]
    exact this
  have djo : ∀ {k : Hl}, k.le (hp w) → k.dj (Hl.one w.heap.size o) := by
    intro k hk x
    by_cases hx : x = w.heap.size
    · subst hx; exact .inl (fresh hk)
    · exact .inr (by simp [Hl.one, hx])
  refine ⟨i.os, i.tape, i.output, by simpa using Nat.le_succ_of_le i.size, (Hl.one w.heap.size o).join h, ⟨_, h, rfl, hl, (djo l3).symm, rfl⟩, d1, Hl.dj_join.2 ⟨djo l1, d2⟩, Hl.dj_join.2 ⟨djo l2, d3⟩, up l1, up l2, Hl.join_le ?_ (up l3)⟩
  intro x o' e
  by_cases hx : x = w.heap.size
  · subst hx; simp [Hl.one] at e; subst e; simp [hp]
  · simp [Hl.one, hx] at e

/-- An owned block is written. -/
theorem In.write {w0 w : World} {F K : Hl} {L : List Asn} {b : Nat} {o o' : Obj} (i : In w0 F K (pt b o :: L) w) {H : Array Obj}
    (hs : H.size = w.heap.size) (hb : H[b]? = some o') (ho : ∀ x, x ≠ b → H[x]? = w.heap[x]?) :
    In w0 F K (pt b o' :: L) { w with heap := H } := by
  obtain ⟨h, ⟨a, l, ha, hl, hal, rfl⟩, d1, d2, d3, l1, l2, l3⟩ := i.rep
  simp only [pt] at ha; subst ha
  have hd2 := Hl.dj_join.1 d2
  have hd3 := Hl.dj_join.1 d3
  have no : ∀ {k : Hl}, k.dj (Hl.one b o) → k b = none := by
    intro k hk; rcases hk b with h | h; exact h; simp [Hl.one] at h
  have up : ∀ {k : Hl}, k.le (hp w) → k b = none → k.le (hp { w with heap := H }) := by
    intro k hk hn x o'' e
    have hx : x ≠ b := by rintro rfl; rw [hn] at e; cases e
    simp only [hp, ho x hx]
    exact hk x o'' e
  have djo : ∀ {k : Hl}, k b = none → k.dj (Hl.one b o') := by
    intro k hk x
    by_cases hx : x = b
    · subst hx; exact .inl hk
    · exact .inr (by simp [Hl.one, hx])
  have nl : l b = none := no hal.symm
  refine ⟨i.os, i.tape, i.output, by simpa [hs] using i.size, (Hl.one b o').join l, ⟨_, l, rfl, hl, (djo nl).symm, rfl⟩, d1, Hl.dj_join.2 ⟨djo (no hd2.1), hd2.2⟩, Hl.dj_join.2 ⟨djo (no hd3.1), hd3.2⟩, up l1 (no hd2.1), up l2 (no hd3.1), Hl.join_le ?_ (up (Hl.le_join_right hal l3) nl)⟩
  intro x o'' e
  by_cases hx : x = b
  · subst hx; simp [Hl.one] at e; subst e; simpa [hp] using hb
  · simp [Hl.one, hx] at e

theorem In.writeAt {w0 w : World} {F K : Hl} {L L' : List Asn} {b : Nat} {o o' : Obj} (f : Fnd (pt b o) (pt b o') L L') (i : In w0 F K L w) {H : Array Obj}
    (hs : H.size = w.heap.size) (hb : H[b]? = some o') (ho : ∀ x, x ≠ b → H[x]? = w.heap[x]?) :
    In w0 F K L' { w with heap := H } :=
  let ⟨_, h1, h2⟩ := f.split; ((i.imp h1).write hs hb ho).imp h2

/-- The frame rule: the pieces N are out of the callee's reach. -/
theorem In.hide {w0 w : World} {F K : Hl} {L N : List Asn} (i : In w0 F K (L ++ N) w) :
    ∃ F', In w F' K L w ∧ ∀ {K' : Hl} {L' : List Asn} {w' : World}, In w F' K' L' w' → In w0 F K' (L' ++ N) w' := by
  obtain ⟨h, hs, d1, d2, d3, l1, l2, l3⟩ := i.rep
  obtain ⟨a, n, ha, hn, han, rfl⟩ := sat_append.1 hs
  have hd2 := Hl.dj_join.1 d2
  have hd3 := Hl.dj_join.1 d3
  refine ⟨F.join n, ⟨rfl, rfl, rfl, Nat.le_refl _, a, ha, Hl.join_dj.2 ⟨d1, hd3.2.symm⟩, Hl.join_dj.2 ⟨hd2.1, han.symm⟩, hd3.1, Hl.join_le l1 (Hl.le_join_right han l3), l2, Hl.le_join_left l3⟩, ?_⟩
  intro K' L' w' j
  obtain ⟨h', hs', e1, e2, e3, m1, m2, m3⟩ := j.rep
  have x1 := Hl.join_dj.1 e1
  have x2 := Hl.join_dj.1 e2
  refine ⟨j.os.trans i.os, j.tape.trans i.tape, j.output.trans i.output, Nat.le_trans i.size j.size, h'.join n, sat_append.2 ⟨h', n, hs', hn, x2.2.symm, rfl⟩, x1.1, Hl.dj_join.2 ⟨x2.1, hd2.2⟩, Hl.dj_join.2 ⟨e3, x1.2.symm⟩, Hl.le_join_left m1, m2, Hl.join_le m3 (Hl.le_join_right hd2.2 m1)⟩

end Go.SL

/-
  Slices that a call owns, slices that are known, in the words of the program logic. Nothing of a program stands here. Conditions: none.
-/
import Derived.Test.YthopmddkpdehiaaSLMem
set_option linter.unusedSimpArgs false
set_option linter.unusedVariables false
namespace Go.SL

/-- A kind of element: its type's number, how many cells, how a value lies in them. -/
structure El (α : Type) where
  e : TypeId
  sz : Nat
  enc : α → List Value
  len : ∀ x, (enc x).length = sz

def El.cs {α : Type} (k : El α) (xs : List α) : List Value := xs.flatMap k.enc
theorem El.cs_length {α : Type} (k : El α) (xs : List α) : (k.cs xs).length = xs.length * k.sz := by
  induction xs with
  | nil => simp [El.cs]
  | cons x xs ih => simp only [El.cs, List.flatMap_cons, List.length_append, k.len] at *; rw [ih, List.length_cons, Nat.succ_mul]; omega
theorem El.cs_append {α : Type} (k : El α) (xs ys : List α) : k.cs (xs ++ ys) = k.cs xs ++ k.cs ys := by simp [El.cs]
theorem El.cs_drop {α : Type} (k : El α) (xs : List α) (i : Nat) : (k.cs xs).drop (i * k.sz) = k.cs (xs.drop i) := by
  induction i generalizing xs with
  | zero => simp
  | succ i ih =>
    cases xs with
    | nil => simp [El.cs]
    | cons x xs =>
      have : (i + 1) * k.sz = k.sz + i * k.sz := by rw [Nat.succ_mul]; omega
      rw [this, ← List.drop_drop]
      have h2 : (k.cs (x :: xs)).drop k.sz = k.cs xs := by
        simp only [El.cs, List.flatMap_cons]
        rw [List.drop_append_of_le_length (by rw [k.len]; exact Nat.le_refl _), List.drop_of_length_le (by rw [k.len]; exact Nat.le_refl _)]; rfl
      rw [h2, ih]; rfl
theorem El.cs_take {α : Type} (k : El α) (xs : List α) (i : Nat) : (k.cs xs).take (i * k.sz) = k.cs (xs.take i) := by
  induction i generalizing xs with
  | zero => simp [El.cs]
  | succ i ih =>
    cases xs with
    | nil => simp [El.cs]
    | cons x xs =>
      have : (i + 1) * k.sz = k.sz + i * k.sz := by rw [Nat.succ_mul]; omega
      rw [this]
      simp only [El.cs, List.flatMap_cons, List.take_succ_cons]
      rw [List.take_append, k.len, Nat.add_sub_cancel_left, List.take_of_length_le (by rw [k.len]; omega)]
      have := ih xs
      simp only [El.cs] at this
      rw [this]
theorem El.cs_at {α : Type} (k : El α) {xs : List α} {i : Nat} {x : α} (h : xs[i]? = some x) {r : List Value} : ((k.cs xs ++ r).drop (i * k.sz)).take k.sz = k.enc x := by
  have hi : i < xs.length := by
    rcases Nat.lt_or_ge i xs.length with h' | h'
    · exact h'
    · simp [List.getElem?_eq_none h'] at h
  have hx : xs[i] = x := by simpa [List.getElem?_eq_getElem hi] using h
  rw [List.drop_append_of_le_length (by rw [k.cs_length]; exact Nat.mul_le_mul_right _ (Nat.le_of_lt hi)), k.cs_drop, List.drop_eq_getElem_cons hi, hx]
  simp only [El.cs, List.flatMap_cons]
  rw [List.append_assoc, List.take_append_of_le_length (by rw [k.len]; exact Nat.le_refl _), List.take_of_length_le (by rw [k.len]; exact Nat.le_refl _)]

/-- No cell of the first n is frozen. -/
def FzOk (n : Nat) (fz : Nat × Nat) : Prop := fz.2 ≤ fz.1 ∨ n ≤ fz.1
theorem FzOk.at {n o : Nat} {fz : Nat × Nat} (h : FzOk n fz) (ho : o < n) : (fz.1 ≤ o && o < fz.2) = false := by
  unfold FzOk at h
  simp only [Bool.and_eq_false_iff, decide_eq_false_iff_not]
  omega

/-- An owned slice: nil, or a row from its head on, with spare room. 'z': it is nil where it is empty. -/
def sl {α : Type} (z : Bool) (k : El α) (v : Value) (xs : List α) : Asn := fun h =>
  (v = .slice none 0 0 ∧ xs = [] ∧ h = .emp) ∨
  (∃ b cap junk fz, v = .slice (some ⟨b, 0, none⟩) xs.length cap ∧ (z = true → xs ≠ []) ∧ xs.length ≤ cap ∧ junk.length = (cap - xs.length) * k.sz ∧ FzOk (cap * k.sz) fz ∧ h = Hl.one b (cellsO (k.cs xs ++ junk) k.e fz))
/-- A known slice. -/
def Ksl {α : Type} (k : El α) (K : Hl) (v : Value) (xs : List α) : Prop :=
  (∃ c, v = .slice none 0 c ∧ xs = []) ∨
  (∃ b off cap cells fz, v = .slice (some ⟨b, off, none⟩) xs.length cap ∧ K b = some (cellsO cells k.e fz) ∧ (cells.drop off).take (xs.length * k.sz) = k.cs xs)
theorem Ksl.mono {α : Type} {k : El α} {K K' : Hl} {v : Value} {xs : List α} (h : Ksl k K v xs) (le : K.le K') : Ksl k K' v xs := by
  rcases h with h | ⟨b, off, cap, cells, fz, h1, h2, h3⟩
  · exact .inl h
  · exact .inr ⟨b, off, cap, cells, fz, h1, le _ _ h2, h3⟩

/-- What is read off a slice, wherever it lies. -/
def SlAt {α : Type} (k : El α) (w : World) (v : Value) (xs : List α) : Prop :=
  (∃ c, v = .slice none 0 c ∧ xs = []) ∨
  (∃ b off cap cells fz, v = .slice (some ⟨b, off, none⟩) xs.length cap ∧ w.heap[b]? = some (cellsO cells k.e fz) ∧ (cells.drop off).take (xs.length * k.sz) = k.cs xs)
inductive SeesSl {α : Type} (k : El α) (K : Hl) (L : List Asn) (v : Value) (xs : List α) : Prop where
  | own {z A' L'} : Fnd (sl z k v xs) A' L L' → SeesSl k K L v xs
  | known : Ksl k K v xs → SeesSl k K L v xs
  | blk {b : Nat} {cells : List Value} {fz : Nat × Nat} {cap off : Nat} : Sees K L b (cellsO cells k.e fz) → v = .slice (some ⟨b, off, none⟩) xs.length cap → (cells.drop off).take (xs.length * k.sz) = k.cs xs → SeesSl k K L v xs

theorem In.slice {α : Type} {z : Bool} {k : El α} {w0 w : World} {F K : Hl} {v : Value} {xs : List α} {L : List Asn} (i : In w0 F K (sl z k v xs :: L) w) : SlAt k w v xs := by
  obtain ⟨h, ⟨a, l, ha, hl, hal, rfl⟩, d1, d2, d3, l1, l2, l3⟩ := i.rep
  rcases ha with ⟨rfl, rfl, rfl⟩ | ⟨b, cap, junk, fz, rfl, hz, hc, hj, hf, rfl⟩
  · exact .inl ⟨0, rfl, rfl⟩
  · refine .inr ⟨b, 0, cap, k.cs xs ++ junk, fz, rfl, l3 b _ (by simp [Hl.join, Hl.one]), ?_⟩
    rw [List.drop_zero, ← k.cs_length, List.take_left]
theorem SeesSl.at {α : Type} {k : El α} {w0 w : World} {F K : Hl} {v : Value} {xs : List α} {L : List Asn} (h : SeesSl k K L v xs) (i : In w0 F K L w) : SlAt k w v xs := by
  cases h with
  | own f => obtain ⟨_, h1, _⟩ := f.split; exact (i.imp h1).slice
  | known h =>
    rcases h with h | ⟨b, off, cap, cells, fz, h1, h2, h3⟩
    · exact .inl h
    · exact .inr ⟨b, off, cap, cells, fz, h1, i.known h2, h3⟩
  | blk hs h2 h3 => exact .inr ⟨_, _, _, _, _, h2, hs.at i, h3⟩

/-- The place of an element. -/
def slAddr (v : Value) (n : Nat) : Value :=
  match v with
  | .slice (some a) _ _ => .pointer (some (a.add n))
  | _ => undef

section
variable {E : Env} {fr : Fr} {K : Hl} {L L' : List Asn} {Q : Post} {dst : Option Tmp} {ty : TypeId} {pos : String} {aft : Array Edge} {g : Option (Nat × Bool)} {x y : Operand} {t s e sz i off b : Nat} {α : Type} {k : El α} {v : Value} {xs : List α}

theorem ev_len_sl {ats : Array TypeId} {u : TypeId} (ha : ats[0]? = some t) (hu : E.P.underlying t = some (.slice u)) (hx : fr.ev x = some v) (hs : SeesSl k K L v xs) :
    Ev E fr K L ⟨dst, .call ⟨.builtin .len, #[x], ats⟩, ty, pos, aft, g⟩ (i64 xs.length) := fun a w f j => by
  have e : Array.map a.eval #[x] = #[v] := by simp [f.ev hx]
  simp only [execOp, resolve, e, bind, pure, Sem.bind, invoke, builtin]
  rcases hs.at j with ⟨c, rfl, rfl⟩ | ⟨b, off, cap, cells, fz, rfl, h2, h3⟩ <;>
    simp [Builtin.len_, ha, underlying, program, bind, Sem.bind, pure, Sem.run, hu, goInt]

theorem slice_type {P : Program} {t e sz : Nat} (h : sliceB P t e sz = true) : ∃ inf, P.underlying t = some (.slice e) ∧ P.info? e = some inf ∧ inf.size = sz := by
  unfold sliceB at h
  cases hu : P.underlying t with
  | none => simp [hu] at h
  | some d =>
    cases hi : P.info? e with
    | none => cases d <;> simp [hu, hi] at h
    | some i => cases d <;> simp [hu, hi] at h; obtain ⟨rfl, h2⟩ := h; exact ⟨i, rfl, rfl, h2⟩

theorem ev_indexAddr {j : Nat} {kk : IntKind} (ht : sliceB E.P t k.e k.sz = true) (hx : fr.ev x = some v) (hs : SeesSl k K L v xs) (hy : fr.ev y = some (.int kk (j : Int))) (hj : j < xs.length) :
    Ev E fr K L ⟨dst, .indexAddr t x y, ty, pos, aft, g⟩ (slAddr v (j * k.sz)) := fun a w f i => by
  obtain ⟨inf, h1, h2, h3⟩ := slice_type ht
  simp only [execOp, f.ev hx, f.ev hy]
  refine val_of ?_
  rcases hs.at i with ⟨c, rfl, rfl⟩ | ⟨b, off, cap, cells, fz, rfl, h4, h5⟩
  · simp at hj
  · unfold Instr.indexAt
    simp [asIntOf, underlying, program, bind, Sem.bind, pure, Sem.run, h1, hj, sizeOf, typeInfo, h2, h3, slAddr]

theorem ev_loadEl {j o : Nat} {u : α} {c : Value} (ht : scalB E.P t = true) (hx : fr.ev x = some (slAddr v (j * k.sz))) (hs : SeesSl k K L v xs) (hj : xs[j]? = some u) (hc : k.enc u = [c]) :
    Ev E fr K L ⟨dst, .load t x, ty, pos, aft, g⟩ c := fun a w f i => by
  simp only [execOp, f.ev hx]
  refine val_of ?_
  have hjl : j < xs.length := by
    rcases Nat.lt_or_ge j xs.length with h' | h'
    · exact h'
    · simp [List.getElem?_eq_none h'] at hj
  rcases hs.at i with ⟨c, rfl, rfl⟩ | ⟨b, off, cap, cells, fz, rfl, h4, h5⟩
  · simp at hj
  · obtain ⟨q1, q2⟩ := scal_agg ht w
    have hat := k.cs_at hj (r := [])
    rw [List.append_nil, ← h5] at hat
    have hsz : k.sz = 1 := by have := k.len u; simpa [hc] using this.symm
    show (loadVar t (Addr.add ⟨b, off, none⟩ (j * k.sz))).run E.P w = _
    rw [add_add]
    unfold loadVar
    rw [run_bind_ok q1]
    refine load_run h4 ?_
    have := congrArg (·[0]?) hat
    simp only [hc, List.getElem?_take, List.getElem?_drop, hsz] at this ⊢
    simp at this ⊢
    simpa [hjl] using this
/-- A field of an element that is a struct: behind 'fieldAddr'. -/
theorem ev_loadAggEl {j n : Nat} {u : α} (ht : aggB E.P t k.sz = true) (hx : fr.ev x = some (slAddr v (j * k.sz))) (hs : SeesSl k K L v xs) (hj : xs[j]? = some u) :
    Ev E fr K L ⟨dst, .load t x, ty, pos, aft, g⟩ (.agg (k.enc u).toArray) := fun a w f i => by
  simp only [execOp, f.ev hx]
  refine val_of ?_
  have hjl : j < xs.length := by
    rcases Nat.lt_or_ge j xs.length with h' | h'
    · exact h'
    · simp [List.getElem?_eq_none h'] at hj
  rcases hs.at i with ⟨c, rfl, rfl⟩ | ⟨b, off, cap, cells, fz, rfl, h4, h5⟩
  · simp at hj
  · obtain ⟨h1, h2⟩ := agg_agg ht w
    have hat := k.cs_at hj (r := [])
    rw [List.append_nil, ← h5] at hat
    show (loadVar t (Addr.add ⟨b, off, none⟩ (j * k.sz))).run E.P w = _
    rw [add_add]
    unfold loadVar
    rw [run_bind_ok h1]
    simp only [if_true]
    rw [run_bind_ok h2]
    have hle : (j + 1) * k.sz ≤ xs.length * k.sz := Nat.mul_le_mul_right _ hjl
    rw [Nat.succ_mul] at hle
    have hcells : (cells.drop (off + j * k.sz + 0)).take k.sz = k.enc u := by
      rw [← hat, Nat.add_zero, ← List.drop_drop, List.drop_take, List.take_take]
      congr 1
      omega
    have := loadCells_run (P := E.P) h4 k.sz (k.enc u) (off + j * k.sz) 0 [] hcells (k.len u)
    simp only [List.nil_append] at this
    unfold loadCells
    rw [run_bind_ok this]; rfl
end
end Go.SL

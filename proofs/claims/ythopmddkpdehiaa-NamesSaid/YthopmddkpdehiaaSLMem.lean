/-
  The operations that read and write memory, in the words of the program logic. Nothing of a program stands here. Conditions: none.
-/
import Derived.Test.YthopmddkpdehiaaSLOps
set_option linter.unusedSimpArgs false
set_option linter.unusedVariables false
namespace Go.SL
section
variable {E : Env} {fr : Fr} {K : Hl} {L L' : List Asn} {Q : Post} {dst : Option Tmp} {ty : TypeId} {pos : String} {aft : Array Edge} {g : Option (Nat × Bool)} {x y : Operand} {t s e sz i off b : Nat}

theorem ev_slice_str {l : List UInt8} (hu : E.P.underlying t = some .string) (hx : fr.ev x = some (str l)) {lo hi : Operand} {k k' : IntKind} {m n : Nat} (hl : fr.ev lo = some (.int k m)) (hh : fr.ev hi = some (.int k' n))
    (h1 : m ≤ n) (h2 : n ≤ l.length) : Ev E fr K L ⟨dst, .slice t x (some lo) (some hi) none, ty, pos, aft, g⟩ (str ((l.take n).drop m)) := fun a w f _ => by
  simp only [execOp, f.ev hx, f.ev hl, f.ev hh, Option.map]
  refine val_of ?_
  unfold Instr.sliceAt
  simp only [underlying, program, bind, Sem.bind, pure, Sem.run, hu, Instr.slice]
  simp [Instr.sliceBounds, Instr.sliceBound, asIntOf, bind, Sem.bind, pure, bytes_size, h1, h2, bytes_extract]
theorem ev_slice_from {l : List UInt8} (hu : E.P.underlying t = some .string) (hx : fr.ev x = some (str l)) {lo : Operand} {k : IntKind} {m : Nat} (hl : fr.ev lo = some (.int k m))
    (h1 : m ≤ l.length) : Ev E fr K L ⟨dst, .slice t x (some lo) none none, ty, pos, aft, g⟩ (str (l.drop m)) := fun a w f _ => by
  simp only [execOp, f.ev hx, f.ev hl, Option.map]
  refine val_of ?_
  unfold Instr.sliceAt
  simp only [underlying, program, bind, Sem.bind, pure, Sem.run, hu, Instr.slice]
  simp [Instr.sliceBounds, Instr.sliceBound, asIntOf, bind, Sem.bind, pure, bytes_size, h1, bytes_extract]
theorem ev_slice_to {l : List UInt8} (hu : E.P.underlying t = some .string) (hx : fr.ev x = some (str l)) {hi : Operand} {k : IntKind} {n : Nat} (hh : fr.ev hi = some (.int k n))
    (h2 : n ≤ l.length) : Ev E fr K L ⟨dst, .slice t x none (some hi) none, ty, pos, aft, g⟩ (str (l.take n)) := fun a w f _ => by
  simp only [execOp, f.ev hx, f.ev hh, Option.map]
  refine val_of ?_
  unfold Instr.sliceAt
  simp only [underlying, program, bind, Sem.bind, pure, Sem.run, hu, Instr.slice]
  simp [Instr.sliceBounds, Instr.sliceBound, asIntOf, bind, Sem.bind, pure, bytes_size, h2, bytes_extract]

/-! ### addresses -/
theorem ev_nilCheck {a : Addr} (hx : fr.ev x = some (.pointer (some a))) : Ev E fr K L ⟨dst, .nilCheck x, ty, pos, aft, g⟩ (.pointer (some a)) := fun a w f _ => by
  simp only [execOp, f.ev hx]; rfl
theorem ev_nilCheck_if {u : TypeId} {v : Value} (hx : fr.ev x = some (.iface u v)) : Ev E fr K L ⟨dst, .nilCheck x, ty, pos, aft, g⟩ (.iface u v) := fun a w f _ => by
  simp only [execOp, f.ev hx]; rfl
theorem ev_nilCheck_fn {u : FuncId} {p q : Array Value} (hx : fr.ev x = some (.func (.func u) p q)) : Ev E fr K L ⟨dst, .nilCheck x, ty, pos, aft, g⟩ (.func (.func u) p q) := fun a w f _ => by
  simp only [execOp, f.ev hx]; rfl

theorem add_add (b o n : Nat) : (⟨b, o, none⟩ : Addr).add n = ⟨b, o + n, none⟩ := by
  unfold Addr.add; split <;> simp_all

theorem ev_fieldAddr {o : Nat} (ht : fieldB E.P s i off = true) (hx : fr.ev x = some (ptr b o)) : Ev E fr K L ⟨dst, .fieldAddr s x i, ty, pos, aft, g⟩ (ptr b (o + off)) := fun a w f _ => by
  simp only [execOp, f.ev hx]
  refine val_of ?_
  unfold fieldB at ht
  unfold Instr.fieldAt
  cases hu : E.P.underlying s with
  | none => simp [hu] at ht
  | some d =>
    cases d <;> simp [hu] at ht
    rename_i fs
    cases hf : fs[i]? with
    | none => simp [hf] at ht
    | some fl =>
      simp [hf] at ht
      obtain ⟨h1, h2⟩ := ht
      cases hi : E.P.info? fl.type with
      | none => simp [hi] at h2
      | some ti =>
        simp [hi] at h2
        simp only [underlying, program, bind, Sem.bind, pure, Sem.run, hu, hf, Instr.sureAddr, fieldPlace, sizeOf, typeInfo, hi, h2, if_false, h1, add_add]

theorem cell_of {w : World} {l : List Value} {u : TypeId} {f : Nat × Nat} {o : Nat} {v : Value} (h : w.heap[b]? = some (cellsO l u f)) (hv : l[o]? = some v) : w.cell? ⟨b, o, none⟩ = some v := by
  simp [World.cell?, h, hv]
theorem load_run {P : Program} {w : World} {l : List Value} {u : TypeId} {f : Nat × Nat} {o : Nat} {v : Value} (h : w.heap[b]? = some (cellsO l u f)) (hv : l[o]? = some v) : (load ⟨b, o, none⟩).run P w = .ok v w := by
  simp [load, Sem.run, cell_of h hv]

/-- Where a block is seen: among the pieces, or known. -/
inductive Sees (K : Hl) (L : List Asn) (b : Nat) (o : Obj) : Prop where
  | own {A' L'} : Fnd (pt b o) A' L L' → Sees K L b o
  | known : K b = some o → Sees K L b o
theorem Sees.at {w0 w : World} {F : Hl} {o : Obj} (h : Sees K L b o) (j : In w0 F K L w) : w.heap[b]? = some o := by
  cases h with
  | own f => exact j.mem f
  | known h => exact j.known h

theorem ev_load {o : Nat} {l : List Value} {u : TypeId} {fz : Nat × Nat} {v : Value} (ht : scalB E.P t = true) (hx : fr.ev x = some (ptr b o)) (hs : Sees K L b (cellsO l u fz)) (hv : l[o]? = some v) :
    Ev E fr K L ⟨dst, .load t x, ty, pos, aft, g⟩ v := fun a w f j => by
  simp only [execOp, f.ev hx]
  refine val_of ?_
  obtain ⟨h1, h2⟩ := scal_agg ht w
  show (loadVar t _).run E.P w = _
  unfold loadVar
  rw [run_bind_ok h1]
  exact load_run (hs.at j) hv

theorem loadCells_run {P : Program} {w : World} {l : List Value} {u : TypeId} {fz : Nat × Nat} (h : w.heap[b]? = some (cellsO l u fz)) :
    ∀ (n : Nat) (vs : List Value) (o k : Nat) (acc : List Value), (l.drop (o + k)).take n = vs → vs.length = n → (loadCellsFrom ⟨b, o, none⟩ k n acc.toArray).run P w = .ok (acc ++ vs).toArray w := by
  intro n
  induction n with
  | zero => intro vs o k acc h1 h2; have : vs = [] := List.length_eq_zero_iff.1 h2; subst this; simp [loadCellsFrom, pure, Sem.run]
  | succ n ih =>
    intro vs o k acc h1 h2
    cases vs with
    | nil => simp at h2
    | cons v vs =>
      have hv : l[o + k]? = some v := by
        have := congrArg (·[0]?) h1
        simpa [List.getElem?_take, List.getElem?_drop] using this
      unfold loadCellsFrom
      rw [add_add, run_bind_ok (load_run h hv)]
      have e : acc.toArray.push v = (acc ++ [v]).toArray := by simp
      rw [e, ih vs o (k + 1) (acc ++ [v]) ?_ (by simpa using h2)]
      · simp
      · have := congrArg List.tail h1
        simp only [List.tail_cons] at this
        rw [← this]
        have h3 : (l.drop (o + k)) = v :: l.drop (o + (k + 1)) := by
          have hlt : o + k < l.length := by
            rcases Nat.lt_or_ge (o + k) l.length with h | h
            · exact h
            · simp [List.getElem?_eq_none h] at hv
          rw [List.drop_eq_getElem_cons hlt]
          have : l[o + k] = v := by simpa [List.getElem?_eq_getElem hlt] using hv
          rw [this]; rfl
        rw [h3]; simp

/-- A struct or an array, whole. -/
theorem ev_loadAgg {o n : Nat} {l vs : List Value} {u : TypeId} {fz : Nat × Nat} (ht : aggB E.P t n = true) (hx : fr.ev x = some (ptr b o)) (hs : Sees K L b (cellsO l u fz)) (hv : (l.drop o).take n = vs) (hn : vs.length = n) :
    Ev E fr K L ⟨dst, .load t x, ty, pos, aft, g⟩ (.agg vs.toArray) := fun a w f j => by
  simp only [execOp, f.ev hx]
  refine val_of ?_
  obtain ⟨h1, h2⟩ := agg_agg ht w
  show (loadVar t _).run E.P w = _
  unfold loadVar
  rw [run_bind_ok h1]
  simp only [if_true]
  rw [run_bind_ok h2]
  have := loadCells_run (P := E.P) (hs.at j) n vs o 0 [] hv hn
  simp only [List.nil_append] at this
  unfold loadCells
  rw [run_bind_ok this]; rfl

/-! ### new variables -/
def newb (b : Nat) (o : Obj) (K : Hl) (L : List Asn) : Value → Hl → List Asn → Prop := fun v K' L' => v = ptr b ∧ K' = K ∧ L' = pt b o :: L

theorem s_box {v : Value} {l : List Value} (hx : fr.ev x = some v) (hl : v.cells = l.toArray) : EfS E fr K L ⟨dst, .box e x, ty, pos, aft, g⟩ (fun u K' L' => ∃ b, newb b (cellsO l e) K L u K' L') := by
  intro a w f j
  have : (execOp a.eval ⟨dst, .box e x, ty, pos, aft, g⟩).run E.P w = .ok (.value (ptr w.heap.size)) { w with heap := w.heap.push (cellsO l e) } := by
    simp only [execOp, f.ev hx, Instr.box, newVar, newRow, hl]; rfl
  exact ⟨_, _, _, _, .inl this, ⟨_, rfl, rfl, rfl⟩, Hl.le_refl _, j.alloc _⟩

theorem s_alloc {v : Value} {l : List Value} {inf : TypeInfo} (hi : E.P.info? e = some inf) (hz : inf.zero = some v) (hl : v.cells = l.toArray) : EfS E fr K L ⟨dst, .alloc e, ty, pos, aft, g⟩ (fun u K' L' => ∃ b, newb b (cellsO l e) K L u K' L') := by
  intro a w f j
  have : (execOp a.eval ⟨dst, .alloc e, ty, pos, aft, g⟩).run E.P w = .ok (.value (ptr w.heap.size)) { w with heap := w.heap.push (cellsO l e) } := by
    simp only [execOp, Instr.alloc, zeroValue, typeInfo, program, bind, Sem.bind, pure, Sem.run, hi, hz, newVar, newRow, hl]; rfl
  exact ⟨_, _, _, _, .inl this, ⟨_, rfl, rfl, rfl⟩, Hl.le_refl _, j.alloc _⟩

/-! ### stores -/
inductive SetAt : List Value → Nat → Value → List Value → Prop where
  | zero {a : Value} {l : List Value} {v : Value} : SetAt (a :: l) 0 v (v :: l)
  | succ {a : Value} {l : List Value} {n : Nat} {v : Value} {l' : List Value} : SetAt l n v l' → SetAt (a :: l) (n + 1) v (a :: l')
theorem SetAt.eq {l : List Value} {n : Nat} {v : Value} {l' : List Value} (h : SetAt l n v l') : l.set n v = l' ∧ n < l.length := by
  induction h with
  | zero => exact ⟨rfl, by simp⟩
  | succ _ ih => exact ⟨by simp [ih.1], by simp; exact ih.2⟩

theorem setCell_heap {w : World} {l : List Value} {u : TypeId} {fz : Nat × Nat} {o : Nat} (v : Value) (h : w.heap[b]? = some (cellsO l u fz)) :
    (w.setCell ⟨b, o, none⟩ v).heap.size = w.heap.size ∧ (w.setCell ⟨b, o, none⟩ v).heap[b]? = some (cellsO (l.set o v) u fz) ∧ ∀ z, z ≠ b → (w.setCell ⟨b, o, none⟩ v).heap[z]? = w.heap[z]? := by
  refine ⟨by simp [World.setCell], ?_, fun z hz => ?_⟩
  · simp [World.setCell, Array.getElem?_modify, h]
  · simp [World.setCell, Array.getElem?_modify, Ne.symm hz]

theorem store_run {P : Program} {w : World} {l : List Value} {u : TypeId} {fz : Nat × Nat} {o : Nat} {v : Value} (h : w.heap[b]? = some (cellsO l u fz)) (ho : o < l.length)
    (hf : (fz.1 ≤ o && o < fz.2) = false) (h1 : v.oneCell' = true) : (store ⟨b, o, none⟩ v).run P w = .ok () (w.setCell ⟨b, o, none⟩ v) := by
  have hc : w.cell? ⟨b, o, none⟩ = some l[o] := cell_of h (by simp [ho])
  have hz : w.frozen? ⟨b, o, none⟩ = false := by
    obtain ⟨lo, hi⟩ := fz
    simp only [World.frozen?, h]; exact hf
  cases v <;> simp [Value.oneCell'] at h1 <;> simp [store, Sem.run, hc, hz, pure]

theorem s_store {o : Nat} {l : List Value} {u : TypeId} {fz : Nat × Nat} {v : Value} (ht : scalB E.P t = true) (hx : fr.ev x = some (ptr b o)) (hy : fr.ev y = some v) (h1 : v.oneCell' = true)
    {l' : List Value} (hs : Fnd (pt b (cellsO l u fz)) (pt b (cellsO l' u fz)) L L') (hset : SetAt l o v l') (hf : (fz.1 ≤ o && o < fz.2) = false) :
    EfS E fr K L ⟨dst, .store t x y, ty, pos, aft, g⟩ (fun _ K' L'' => K' = K ∧ L'' = L') := by
  intro a w f j
  have hb := j.mem hs
  obtain ⟨rfl, ho'⟩ := hset.eq
  have hc : v.cells = #[v] := by cases v <;> simp [Value.oneCell'] at h1 <;> rfl
  have hr : (execOp a.eval ⟨dst, .store t x y, ty, pos, aft, g⟩).run E.P w = .ok .skip (w.setCell ⟨b, o, none⟩ v) := by
    simp only [execOp, f.ev hx, f.ev hy]
    have : (Instr.storeAt t (ptr b o) v).run E.P w = .ok () (w.setCell ⟨b, o, none⟩ v) := by
      show (storeVar t _ v).run E.P w = _
      unfold storeVar
      rw [run_bind_ok (scal_agg ht w).2]
      simp only [hc]
      rw [if_neg (by simp)]
      simp only [storeCells, add_add, Nat.add_zero]
      show (store _ _ >>= fun _ => pure ()).run E.P w = _
      rw [run_bind_ok (store_run hb ho' hf h1)]; rfl
    rw [run_bind_ok this]; rfl
  obtain ⟨s1, s2, s3⟩ := setCell_heap (o := o) v hb
  exact ⟨_, _, _, _, .inr ⟨hr, rfl⟩, ⟨rfl, rfl⟩, Hl.le_refl _, j.writeAt hs s1 s2 s3⟩
end
end Go.SL

/-
  The operations of the model, one lemma each, in the words of the program logic. Nothing of a program stands here. Conditions: none.
-/
import Derived.Test.YthopmddkpdehiaaSLCode
set_option linter.unusedSimpArgs false
set_option linter.unusedVariables false
namespace Go.SL

abbrev str (l : List UInt8) : Value := .string ⟨l.toArray⟩
abbrev i64 (n : Int) : Value := .int .i64 n
abbrev ptr (b : Nat) (o : Nat := 0) : Value := .pointer (some ⟨b, o, none⟩)
abbrev cellsO (l : List Value) (t : TypeId) (f : Nat × Nat := (0, 0)) : Obj := .cells l.toArray t f

/-! ## Facts on types, as closed Bools -/

def scalB (P : Program) (t : TypeId) : Bool :=
  match P.underlying t, P.info? t with
  | some (.struct _), _ => false
  | some (.array _ _), _ => false
  | some _, some i => i.size == 1
  | _, _ => false
def aggB (P : Program) (t n : Nat) : Bool :=
  match P.underlying t, P.info? t with
  | some (.struct _), some i => i.size == n
  | some (.array _ _), some i => i.size == n
  | _, _ => false
def fieldB (P : Program) (s i off : Nat) : Bool :=
  match P.underlying s with
  | some (.struct fs) => match fs[i]? with
    | some f => f.offset == off && (match P.info? f.type with | some ti => ti.size != 0 | none => false)
    | none => false
  | _ => false
def sliceB (P : Program) (t e sz : Nat) : Bool :=
  match P.underlying t, P.info? e with
  | some (.slice e'), some i => e' == e && i.size == sz
  | _, _ => false

theorem scal_agg {P : Program} {t : TypeId} (h : scalB P t = true) (w : World) : (isAgg t).run P w = .ok false w ∧ (sizeOf t).run P w = .ok 1 w := by
  unfold scalB at h
  unfold isAgg sizeOf typeInfo underlying program
  cases hu : P.underlying t with
  | none => simp [hu] at h
  | some d => cases hi : P.info? t with
    | none => cases d <;> simp [hu, hi] at h
    | some i => cases d <;> simp [hu, hi] at h <;> simp [Sem.run, hu, hi, bind, Sem.bind, pure, h]
theorem agg_agg {P : Program} {t n : Nat} (h : aggB P t n = true) (w : World) : (isAgg t).run P w = .ok true w ∧ (sizeOf t).run P w = .ok n w := by
  unfold aggB at h
  unfold isAgg sizeOf typeInfo underlying program
  cases hu : P.underlying t with
  | none => simp [hu] at h
  | some d => cases hi : P.info? t with
    | none => cases d <;> simp [hu, hi] at h
    | some i => cases d <;> simp [hu, hi] at h <;> simp [Sem.run, hu, hi, bind, Sem.bind, pure, h]

theorem run_bind {α β : Type} {P : Program} (m : Sem α) (f : α → Sem β) (w : World) : (m >>= f).run P w = match m.run P w with | .ok a w' => (f a).run P w' | .halt h w' => .halt h w' := by
  show (Sem.bind m f).run P w = _
  induction m generalizing w with
  | pure a => rfl
  | load md a k ih =>
    simp only [Sem.bind, Sem.run]
    cases w.cell? a with
    | some v => exact ih v w
    | none => cases w.farLoad P a (md == .atomic) with
      | ok r => exact ih r.1 w
      | error e => rfl
  | store md a v k ih =>
    cases v <;> simp only [Sem.bind, Sem.run] <;> (first | rfl | skip) <;>
      (cases w.cell? a with
        | some u => (by_cases hf : w.frozen? a = true <;> simp only [hf, if_true, if_false, Bool.false_eq_true] <;> first | rfl | exact ih _)
        | none => (simp only []; split <;> first | exact ih _ | rfl))
  | new o k ih => exact ih _ _
  | shape r k ih => exact ih _ _
  | freeze a n k ih => exact ih _
  | frozen a k ih => exact ih _ _
  | getObj r k ih =>
    simp only [Sem.bind, Sem.run]
    cases w.heap[r]? with
    | none => rfl
    | some o => cases o <;> first | rfl | exact ih _ _
  | setObj r o k ih =>
    simp only [Sem.bind, Sem.run]
    cases w.heap[r]? with
    | none => rfl
    | some o => cases o <;> first | rfl | exact ih _
  | choose q k ih =>
    simp only [Sem.bind, Sem.run]
    split <;> exact ih _ _
  | sys c k ih => exact ih _ _
  | program k ih => exact ih _ _
  | mark m k ih => exact ih _
  | halt h => rfl

theorem run_bind_ok {α β : Type} {P : Program} {m : Sem α} {f : α → Sem β} {w w' : World} {x : α} (h : m.run P w = .ok x w') : (m >>= f).run P w = (f x).run P w' := by
  rw [run_bind, h]
theorem run_pure {α : Type} {P : Program} (x : α) (w : World) : (pure x : Sem α).run P w = .ok x w := rfl

section
variable {E : Env} {fr : Fr} {K : Hl} {L : List Asn} {Q : Post} {dst : Option Tmp} {ty : TypeId} {pos : String} {aft : Array Edge} {g : Option (Nat × Bool)}

theorem val_of {P : Program} {m : Sem Value} {v : Value} {w w' : World} (h : m.run P w = .ok v w') : (do pure (Next.value (← m)) : Sem Next).run P w = .ok (.value v) w' := by
  rw [run_bind_ok h]; rfl

theorem ev_move {x : Operand} {v : Value} (h : fr.ev x = some v) : Ev E fr K L ⟨dst, .move x, ty, pos, aft, g⟩ v := fun a w f _ => by simp only [execOp, f.ev h]; rfl
theorem ev_assign {x : Operand} {v : Value} (h : fr.ev x = some v) : Ev E fr K L ⟨dst, .assign x, ty, pos, aft, g⟩ v := fun a w f _ => by simp only [execOp, f.ev h]; rfl
theorem ev_pick1 {c x y : Operand} {v : Value} (hc : fr.ev c = some (.bool true)) (h : fr.ev x = some v) : Ev E fr K L ⟨dst, .pick c x y, ty, pos, aft, g⟩ v := fun a w f _ => by
  simp only [execOp, f.ev h, f.ev hc]; rfl
theorem ev_pick0 {c x y : Operand} {v : Value} (hc : fr.ev c = some (.bool false)) (h : fr.ev y = some v) : Ev E fr K L ⟨dst, .pick c x y, ty, pos, aft, g⟩ v := fun a w f _ => by
  simp only [execOp, f.ev h, f.ev hc]; rfl

/-! ### numbers -/
theorem ev_bin {op : BinOp} {x y : Operand} {t t' : TypeId} {u v r : Value} (hx : fr.ev x = some u) (hy : fr.ev y = some v)
    (hg : ∀ w, (eqGuard op t x y u v).run E.P w = .ok () w) (hr : ∀ w, (binOp op t u v).run E.P w = .ok r w) : Ev E fr K L ⟨dst, .binOp op t x y t', ty, pos, aft, g⟩ r := by
  intro a w f _
  simp only [execOp, f.ev hx, f.ev hy]
  refine val_of ?_
  rw [run_bind_ok (hg w)]; exact hr w
theorem guard_int {op : BinOp} {t : TypeId} {x y : Operand} {k k' : IntKind} {m n : Int} {P : Program} (w : World) : (eqGuard op t x y (.int k m) (.int k' n)).run P w = .ok () w := by
  unfold eqGuard; cases op <;> rfl
theorem guard_str {op : BinOp} {t : TypeId} {x y : Operand} {m n : ByteArray} {P : Program} (w : World) : (eqGuard op t x y (.string m) (.string n)).run P w = .ok () w := by
  unfold eqGuard; cases op <;> rfl

theorem wrap_i64 {n : Int} (h1 : -9223372036854775808 ≤ n) (h2 : n ≤ 9223372036854775807) : IntKind.i64.wrap n = n := by
  unfold IntKind.wrap IntKind.bits IntKind.signed
  simp only [Bool.true_and]
  split <;> simp_all <;> omega

variable {x y : Operand} {t t' : TypeId} {m n : Int} {k : IntKind}
theorem ev_addw (hx : fr.ev x = some (.int k m)) (hy : fr.ev y = some (.int k n)) : Ev E fr K L ⟨dst, .binOp .add t x y t', ty, pos, aft, g⟩ (.int k (k.wrap (m + n))) :=
  ev_bin hx hy guard_int fun w => by simp [binOp, Op.intArith, pure]
theorem ev_subw (hx : fr.ev x = some (.int k m)) (hy : fr.ev y = some (.int k n)) : Ev E fr K L ⟨dst, .binOp .sub t x y t', ty, pos, aft, g⟩ (.int k (k.wrap (m - n))) :=
  ev_bin hx hy guard_int fun w => by simp [binOp, Op.intArith, pure]
theorem ev_mulw (hx : fr.ev x = some (.int k m)) (hy : fr.ev y = some (.int k n)) : Ev E fr K L ⟨dst, .binOp .mul t x y t', ty, pos, aft, g⟩ (.int k (k.wrap (m * n))) :=
  ev_bin hx hy guard_int fun w => by simp [binOp, Op.intArith, pure]
theorem ev_add (hx : fr.ev x = some (i64 m)) (hy : fr.ev y = some (i64 n)) (h1 : -9223372036854775808 ≤ m + n) (h2 : m + n ≤ 9223372036854775807) :
    Ev E fr K L ⟨dst, .binOp .add t x y t', ty, pos, aft, g⟩ (i64 (m + n)) := by have := ev_addw (E := E) (K := K) (L := L) (dst := dst) (ty := ty) (pos := pos) (aft := aft) (g := g) (t := t) (t' := t') hx hy; rwa [wrap_i64 h1 h2] at this
theorem ev_sub (hx : fr.ev x = some (i64 m)) (hy : fr.ev y = some (i64 n)) (h1 : -9223372036854775808 ≤ m - n) (h2 : m - n ≤ 9223372036854775807) :
    Ev E fr K L ⟨dst, .binOp .sub t x y t', ty, pos, aft, g⟩ (i64 (m - n)) := by have := ev_subw (E := E) (K := K) (L := L) (dst := dst) (ty := ty) (pos := pos) (aft := aft) (g := g) (t := t) (t' := t') hx hy; rwa [wrap_i64 h1 h2] at this
theorem ev_mul (hx : fr.ev x = some (i64 m)) (hy : fr.ev y = some (i64 n)) (h1 : -9223372036854775808 ≤ m * n) (h2 : m * n ≤ 9223372036854775807) :
    Ev E fr K L ⟨dst, .binOp .mul t x y t', ty, pos, aft, g⟩ (i64 (m * n)) := by have := ev_mulw (E := E) (K := K) (L := L) (dst := dst) (ty := ty) (pos := pos) (aft := aft) (g := g) (t := t) (t' := t') hx hy; rwa [wrap_i64 h1 h2] at this

theorem ev_lss (hx : fr.ev x = some (.int k m)) (hy : fr.ev y = some (.int k n)) : Ev E fr K L ⟨dst, .binOp .lss t x y t', ty, pos, aft, g⟩ (.bool (decide (m < n))) :=
  ev_bin hx hy guard_int fun w => by simp [binOp, Op.intCmp, pure]
theorem ev_leq (hx : fr.ev x = some (.int k m)) (hy : fr.ev y = some (.int k n)) : Ev E fr K L ⟨dst, .binOp .leq t x y t', ty, pos, aft, g⟩ (.bool (decide (m ≤ n))) :=
  ev_bin hx hy guard_int fun w => by simp [binOp, Op.intCmp, pure]
theorem ev_gtr (hx : fr.ev x = some (.int k m)) (hy : fr.ev y = some (.int k n)) : Ev E fr K L ⟨dst, .binOp .gtr t x y t', ty, pos, aft, g⟩ (.bool (decide (n < m))) :=
  ev_bin hx hy guard_int fun w => by simp [binOp, Op.intCmp, pure]
theorem ev_geq (hx : fr.ev x = some (.int k m)) (hy : fr.ev y = some (.int k n)) : Ev E fr K L ⟨dst, .binOp .geq t x y t', ty, pos, aft, g⟩ (.bool (decide (n ≤ m))) :=
  ev_bin hx hy guard_int fun w => by simp [binOp, Op.intCmp, pure]
theorem beq_dec (m n : Int) : (m == n) = decide (m = n) := by by_cases h : m = n <;> simp [h]
theorem ev_eql (hx : fr.ev x = some (.int k m)) (hy : fr.ev y = some (.int k n)) : Ev E fr K L ⟨dst, .binOp .eql t x y t', ty, pos, aft, g⟩ (.bool (decide (m = n))) :=
  ev_bin hx hy guard_int fun w => by simp [binOp, Op.intCmp, ← beq_dec, pure]
theorem ev_neq (hx : fr.ev x = some (.int k m)) (hy : fr.ev y = some (.int k n)) : Ev E fr K L ⟨dst, .binOp .neq t x y t', ty, pos, aft, g⟩ (.bool (decide (¬ m = n))) :=
  ev_bin hx hy guard_int fun w => by
    have : (m != n) = decide (¬ m = n) := by by_cases h : m = n <;> simp [h]
    simp [binOp, Op.intCmp, ← this, pure]

theorem ev_eqlT (hx : fr.ev x = some (.int k m)) (hy : fr.ev y = some (.int k n)) (h : m = n) : Ev E fr K L ⟨dst, .binOp .eql t x y t', ty, pos, aft, g⟩ (.bool true) := by
  have := ev_eql (E := E) (K := K) (L := L) (dst := dst) (ty := ty) (pos := pos) (aft := aft) (g := g) (t := t) (t' := t') hx hy
  rwa [decide_eq_true h] at this
theorem ev_not {b : Bool} (hx : fr.ev x = some (.bool b)) : Ev E fr K L ⟨dst, .unOp .not t x, ty, pos, aft, g⟩ (.bool (!b)) := fun a w f _ => by
  simp only [execOp, f.ev hx]; rfl
theorem ev_notp {p : Prop} [Decidable p] (hx : fr.ev x = some (.bool (decide p))) : Ev E fr K L ⟨dst, .unOp .not t x, ty, pos, aft, g⟩ (.bool (decide (¬ p))) := fun a w f _ => by
  simp only [execOp, f.ev hx, decide_not]; rfl
theorem ev_conv_int {s d : TypeId} {k' : IntKind} {ds : TypeDesc} (hd : E.P.underlying d = some (.int k')) (hs : E.P.underlying s = some ds) (hx : fr.ev x = some (.int k m)) :
    Ev E fr K L ⟨dst, .convert s d x, ty, pos, aft, g⟩ (.int k' (k'.wrap m)) := fun a w f _ => by
  simp only [execOp, f.ev hx]
  refine val_of ?_
  unfold convert
  simp only [underlying, program, bind, Sem.bind, pure, Sem.run, hd, hs, Conv.intToInt]

/-! ### strings -/
variable {l l' : List UInt8}
theorem bytes_toList (l : List UInt8) : (⟨l.toArray⟩ : ByteArray).toList = l := by rw [ByteArray.toList_eq]
theorem bytes_size (l : List UInt8) : (⟨l.toArray⟩ : ByteArray).size = l.length := by simp [ByteArray.size]
theorem bytes_append (l m : List UInt8) : (⟨l.toArray⟩ : ByteArray) ++ ⟨m.toArray⟩ = ⟨(l ++ m).toArray⟩ := by
  apply Go.WideShapes.bytes_inj; simp
theorem ev_cat (hx : fr.ev x = some (str l)) (hy : fr.ev y = some (str l')) (h : l.length + l'.length ≤ 9223372036854775807) :
    Ev E fr K L ⟨dst, .binOp .add t x y t', ty, pos, aft, g⟩ (str (l ++ l')) :=
  ev_bin hx hy guard_str fun w => by
    simp only [binOp, Op.stringOp, bytes_size, bytes_append]
    rw [if_neg (by simp [IntKind.max, IntKind.bits, IntKind.signed]; omega)]; rfl
theorem ev_eqs (hx : fr.ev x = some (str l)) (hy : fr.ev y = some (str l')) : Ev E fr K L ⟨dst, .binOp .eql t x y t', ty, pos, aft, g⟩ (.bool (decide (l = l'))) :=
  ev_bin hx hy guard_str fun w => by
    have : (l == l') = decide (l = l') := by by_cases h : l = l' <;> simp [h]
    simp only [binOp, Op.stringOp, bytes_toList, this]; rfl
theorem ev_nes (hx : fr.ev x = some (str l)) (hy : fr.ev y = some (str l')) : Ev E fr K L ⟨dst, .binOp .neq t x y t', ty, pos, aft, g⟩ (.bool (decide (¬ l = l'))) :=
  ev_bin hx hy guard_str fun w => by
    have : (!(l == l')) = decide (¬ l = l') := by by_cases h : l = l' <;> simp [h]
    simp only [binOp, Op.stringOp, bytes_toList, this]; rfl
theorem ev_lts (hx : fr.ev x = some (str l)) (hy : fr.ev y = some (str l')) : Ev E fr K L ⟨dst, .binOp .lss t x y t', ty, pos, aft, g⟩ (.bool (Op.bytesLess l l')) :=
  ev_bin hx hy guard_str fun w => by simp only [binOp, Op.stringOp, bytes_toList]; rfl
theorem ev_len_str {ats : Array TypeId} (ha : ats[0]? = some t) (hu : E.P.underlying t = some .string) (hx : fr.ev x = some (str l)) :
    Ev E fr K L ⟨dst, .call ⟨.builtin .len, #[x], ats⟩, ty, pos, aft, g⟩ (i64 l.length) := fun a w f _ => by
  have e : Array.map a.eval #[x] = #[str l] := by simp [f.ev hx]
  simp only [execOp, resolve, e, bind, pure, Sem.bind, invoke, builtin]
  simp [Builtin.len_, ha, underlying, program, bind, Sem.bind, pure, Sem.run, hu, goInt, bytes_size]
theorem ev_index_str (hu : E.P.underlying t = some .string) (hx : fr.ev x = some (str l)) {c : UInt8} {j : Nat} (hy : fr.ev y = some (.int k (j : Int))) (hc : l[j]? = some c) :
    Ev E fr K L ⟨dst, .index t x y, ty, pos, aft, g⟩ (.int .u8 c.toNat) := fun a w f _ => by
  simp only [execOp, f.ev hx, f.ev hy]
  refine val_of ?_
  have hj : j < l.length := by
    rcases Nat.lt_or_ge j l.length with h | h
    · exact h
    · simp [List.getElem?_eq_none h] at hc
  have hc' : l[j] = c := by simpa [List.getElem?_eq_getElem hj] using hc
  have e : (⟨l.toArray⟩ : ByteArray)[j]? = some c := by
    rw [getElem?_pos (⟨l.toArray⟩ : ByteArray) j (by simpa [ByteArray.size] using hj)]
    simp [ByteArray.getElem_eq_getElem_data, hc']
  unfold Instr.index
  simp [asIntOf, underlying, program, bind, Sem.bind, pure, Sem.run, hu, e]
theorem bytes_extract (l : List UInt8) (i j : Nat) : (⟨l.toArray⟩ : ByteArray).extract i j = ⟨((l.take j).drop i).toArray⟩ := by
  apply Go.WideShapes.bytes_inj
  simp [ByteArray.data_extract, List.drop_take]
end
end Go.SL

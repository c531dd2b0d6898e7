/-
  The judgements of the program logic: code, lists of operations, functions. Nothing of a program stands here. Conditions: none.
-/
import Derived.Test.YthopmddkpdehiaaSLBase
set_option linter.unusedSimpArgs false
set_option linter.unusedVariables false
namespace Go.SL

/-! ## Frames -/

abbrev Fr := List (Nat × Value)
def Fr.get : Fr → Nat → Option Value
  | [], _ => none
  | (k, v) :: r, j => bif Nat.beq k j then some v else Fr.get r j
def Fr.ev (fr : Fr) : Operand → Option Value
  | .tmp t => fr.get t
  | .const v => some v
  | .global g => some (.pointer (some ⟨g, 0, none⟩))
  | .func f => some (.func (.func f) #[] #[])
def Fr.evs (fr : Fr) : List Operand → Option (List Value)
  | [] => some []
  | x :: xs => match fr.ev x, fr.evs xs with | some v, some vs => some (v :: vs) | _, _ => none

structure FrOk (n : Nat) (ds : List Deferred) (fr : Fr) (a : Act) : Prop where
  defers : a.defers = ds
  size : a.tmps.size = n
  get : ∀ k v, fr.get k = some v → a.tmps[k]? = some v

theorem FrOk.ev {n : Nat} {ds : List Deferred} {fr : Fr} {a : Act} (h : FrOk n ds fr a) {x : Operand} {v : Value} (e : fr.ev x = some v) : a.eval x = v := by
  cases x <;> simp only [Fr.ev] at e
  case tmp t => simp [Act.eval, h.get _ _ e]
  all_goals (cases e; rfl)
theorem FrOk.evs {n : Nat} {ds : List Deferred} {fr : Fr} {a : Act} (h : FrOk n ds fr a) : ∀ {xs : List Operand} {vs : List Value}, fr.evs xs = some vs → xs.map a.eval = vs
  | [], vs, e => by simp only [Fr.evs] at e; cases e; rfl
  | x :: xs, vs, e => by
    simp only [Fr.evs] at e
    cases hx : fr.ev x <;> cases hs : fr.evs xs <;> simp [hx, hs] at e
    subst e
    simp [h.ev hx, h.evs hs]
theorem beqF {a b : Nat} (h : ¬ a = b) : Nat.beq a b = false := by
  cases e : Nat.beq a b with
  | false => rfl
  | true => exact absurd (Nat.eq_of_beq_eq_true e) h
theorem beqN {a b : Nat} (h : Nat.beq a b = false) : ¬ a = b := fun e => by subst e; rw [Nat.beq_refl] at h; cases h
theorem FrOk.put {n : Nat} {ds : List Deferred} {fr : Fr} {a : Act} (h : FrOk n ds fr a) {d : Nat} (hd : Nat.blt d n = true) (v : Value) : FrOk n ds ((d, v) :: fr) (a.put (some d) v) := by
  have hd' : d < n := by simp [Nat.blt] at hd; omega
  refine ⟨h.defers, by simp [Act.put, h.size], fun k u e => ?_⟩
  simp only [Fr.get] at e
  simp only [Act.put, Array.getElem?_setIfInBounds, h.size]
  by_cases hk : d = k
  · subst hk; simp at e; subst e; simp [hd']
  · rw [if_neg hk]
    have : Nat.beq d k = false := beqF hk
    rw [this] at e
    exact h.get _ _ e
theorem FrOk.put_none {n : Nat} {ds : List Deferred} {fr : Fr} {a : Act} (h : FrOk n ds fr a) (v : Value) : FrOk n ds fr (a.put none v) := h

/-- 'fr' holds what 'fr'' says. -/
inductive Kp (fr : Fr) : Fr → Prop where
  | nil : Kp fr []
  | cons (k : Nat) {v : Value} {fr' : Fr} : fr.get k = some v → Kp fr fr' → Kp fr ((k, v) :: fr')
theorem Kp.get {fr fr' : Fr} (h : Kp fr fr') : ∀ k v, fr'.get k = some v → fr.get k = some v := by
  induction h with
  | nil => intro k v e; cases e
  | @cons k v fr' e _ ih =>
    intro j u hj
    simp only [Fr.get] at hj
    by_cases hk : k = j
    · subst hk; simp at hj; subst hj; exact e
    · have : Nat.beq k j = false := beqF hk
      rw [this] at hj
      exact ih _ _ hj
theorem FrOk.keep {n : Nat} {ds : List Deferred} {fr fr' : Fr} {a : Act} (h : FrOk n ds fr a) (k : Kp fr fr') : FrOk n ds fr' a :=
  ⟨h.defers, h.size, fun j v e => h.get j v (k.get j v e)⟩

/-! ## Judgements. 'E': the program, the frame's size, its deferred calls, the world at the start, the part of others. -/

structure Env where
  P : Program
  n : Nat
  ds : List Deferred
  w0 : World
  F : Hl

abbrev Post := Exit → Act → World → Prop

/-- Code, from a frame that says 'fr' and a world that holds K and L, ends as Q says. -/
def T (E : Env) (c : Code) (fr : Fr) (K : Hl) (L : List Asn) (Q : Post) : Prop :=
  ∀ a w, FrOk E.n E.ds fr a → In E.w0 E.F K L w → c.wp E.P Q a w
/-- So a list of a region's operations. -/
def OL (E : Env) (ops : Array Oper) (l : List Oper) (fr : Fr) (K : Hl) (L : List Asn) (Q : Post) : Prop :=
  ∀ a w, FrOk E.n E.ds fr a → In E.w0 E.F K L w → wpList E.P ops Q l a w
/-- The code has ended so. -/
def D (E : Env) (x : Exit) (fr : Fr) (K : Hl) (L : List Asn) (Q : Post) : Prop :=
  ∀ a w, FrOk E.n E.ds fr a → In E.w0 E.F K L w → Q x a w

/-- An operation that reads and reckons: its value. -/
def Ev (E : Env) (fr : Fr) (K : Hl) (L : List Asn) (o : Oper) (v : Value) : Prop :=
  ∀ a w, FrOk E.n E.ds fr a → In E.w0 E.F K L w → (execOp a.eval o).run E.P w = .ok (.value v) w

/-- An operation that acts: what it hands back, what is held behind it. -/
def Ef (E : Env) (fr : Fr) (K : Hl) (L : List Asn) (o : Oper) (Q : Post) (N : Value → Hl → List Asn → Prop) : Prop :=
  ∀ a w (k : Act → World → Prop), FrOk E.n E.ds fr a → In E.w0 E.F K L w →
    (∀ v K' L' w', N v K' L' → K.le K' → In E.w0 E.F K' L' w' → k (a.put o.dst v) w') → o.wp E.P a w k Q ∨ (o.asks E.P a w ∧ LetsOut Q)

/-- An operation that acts and calls nothing. -/
def EfS (E : Env) (fr : Fr) (K : Hl) (L : List Asn) (o : Oper) (N : Value → Hl → List Asn → Prop) : Prop :=
  ∀ a w, FrOk E.n E.ds fr a → In E.w0 E.F K L w → ∃ u w' K' L', ((execOp a.eval o).run E.P w = .ok (.value u) w' ∨ ((execOp a.eval o).run E.P w = .ok .skip w' ∧ u = undef)) ∧ N u K' L' ∧ K.le K' ∧ In E.w0 E.F K' L' w'
theorem ef_of_s {E : Env} {fr : Fr} {K : Hl} {L : List Asn} {o : Oper} {Q : Post} {N : Value → Hl → List Asn → Prop} (h : EfS E fr K L o N) : Ef E fr K L o Q N := by
  intro a w k f i hk
  obtain ⟨u, w', K', L', hr, hn, le, j⟩ := h a w f i
  refine .inl ?_
  unfold Oper.wp
  rcases hr with hr | ⟨hr, rfl⟩ <;> rw [hr]
  · exact hk _ _ _ _ hn le j
  · exact hk _ _ _ _ hn le j

/-- A function, called with these arguments in a world that holds K and L: how it ends and what is held then. -/
def Sp (P : Program) (f : FuncId) (args : List Value) (K : Hl) (L : List Asn) (R : Ending → Hl → List Asn → Prop) : Prop :=
  (∃ fn, P.funcs[f]? = some fn ∧ (fn.name == "runtime.NumGoroutine") = false ∧ fn.body.isSome = true) ∧
  ∀ F w, In w F K L w → Calls P f args.toArray w fun e w' => ∃ K' L', R e K' L' ∧ K.le K' ∧ In w F K' L' w'

/-- It returns. -/
def Ret (N : Value → Hl → List Asn → Prop) : Ending → Hl → List Asn → Prop := fun e K L => ∃ v, e = .returned v ∧ N v K L

theorem Sp.mono {P : Program} {f : FuncId} {args : List Value} {K : Hl} {L : List Asn} {R R' : Ending → Hl → List Asn → Prop} (h : Sp P f args K L R)
    (k : ∀ e K' L', R e K' L' → R' e K' L') : Sp P f args K L R' :=
  ⟨h.1, fun F w i => (h.2 F w i).mono fun _ _ ⟨K', L', r, le, j⟩ => ⟨K', L', k _ _ _ r, le, j⟩⟩

/-! ## Code -/

section
variable {E : Env} {fr : Fr} {K : Hl} {L : List Asn} {Q : Post} {c x y : Code} {ops : Array Oper} {rest : List Oper}

theorem t_keep {fr' : Fr} (k : Kp fr fr') (h : T E c fr' K L Q) : T E c fr K L Q := fun a w f i => h a w (f.keep k) i
theorem t_imp {L' : List Asn} (k : ∀ h, Sat L h → Sat L' h) (h : T E c fr K L' Q) : T E c fr K L Q := fun a w f i => h a w f (i.imp k)
theorem t_seq (h : T E x fr K L (Exit.then (fun a w => y.wp E.P Q a w) Q)) : T E (.seq x y) fr K L Q := fun a w f i => wp_seq (h a w f i)
theorem t_skip (h : D E .normal fr K L Q) : T E .skip fr K L Q := fun a w f i => wp_skip (h a w f i)
theorem t_label {l : Nat} (h : D E .normal fr K L Q) : T E (.label l) fr K L Q := fun a w f i => wp_label (h a w f i)
theorem t_exit {id : Nat} (h : D E (.exit id) fr K L Q) : T E (.exit id) fr K L Q := fun a w f i => wp_exit (h a w f i)
theorem t_goto {l : Nat} (h : D E (.goto l) fr K L Q) : T E (.goto l) fr K L Q := fun a w f i => wp_goto (h a w f i)
theorem t_ret (h : D E .ret fr K L Q) : T E .ret fr K L Q := fun a w f i => wp_ret (h a w f i)
theorem t_block {id : Nat} (h : T E c fr K L (Exit.inBlock id Q)) : T E (.block id c) fr K L Q := fun a w f i => wp_block (h a w f i)
theorem t_if {o : Operand} {b : Bool} (e : fr.ev o = some (.bool b)) (ht : b = true → T E x fr K L Q) (hf : b = false → T E y fr K L Q) : T E (.cond o x y) fr K L Q := by
  intro a w f i
  cases b
  · exact wp_cond_false (f.ev e) (hf rfl a w f i)
  · exact wp_cond_true (f.ev e) (ht rfl a w f i)
theorem t_ifp {o : Operand} {p : Prop} [Decidable p] (e : fr.ev o = some (.bool (decide p))) (ht : p → T E x fr K L Q) (hf : ¬ p → T E y fr K L Q) : T E (.cond o x y) fr K L Q :=
  t_if e (fun h => ht (of_decide_eq_true h)) (fun h => hf (of_decide_eq_false h))
theorem t_if1 {o : Operand} (e : fr.ev o = some (.bool true)) (h : T E x fr K L Q) : T E (.cond o x y) fr K L Q := fun a w f i => wp_cond_true (f.ev e) (h a w f i)
theorem t_if0 {o : Operand} (e : fr.ev o = some (.bool false)) (h : T E y fr K L Q) : T E (.cond o x y) fr K L Q := fun a w f i => wp_cond_false (f.ev e) (h a w f i)

theorem d_then {next : Act → World → Prop} (h : ∀ a w, FrOk E.n E.ds fr a → In E.w0 E.F K L w → next a w) : D E .normal fr K L (Exit.then next Q) := h
theorem d_next (h : T E y fr K L Q) : D E .normal fr K L (Exit.then (fun a w => y.wp E.P Q a w) Q) := h
theorem d_exit_then {id : Nat} {next : Act → World → Prop} (h : D E (.exit id) fr K L Q) : D E (.exit id) fr K L (Exit.then next Q) := h
theorem d_ret_then {next : Act → World → Prop} (h : D E .ret fr K L Q) : D E .ret fr K L (Exit.then next Q) := h
theorem d_panic_then {ch : List PanicEntry} {next : Act → World → Prop} (h : D E (.panic ch) fr K L Q) : D E (.panic ch) fr K L (Exit.then next Q) := h
theorem d_norm_block {id : Nat} (h : D E .normal fr K L Q) : D E .normal fr K L (Exit.inBlock id Q) := h
theorem d_ret_block {id : Nat} (h : D E .ret fr K L Q) : D E .ret fr K L (Exit.inBlock id Q) := h
theorem d_panic_block {id : Nat} {ch : List PanicEntry} (h : D E (.panic ch) fr K L Q) : D E (.panic ch) fr K L (Exit.inBlock id Q) := h
theorem d_exit_block {id : Nat} (h : D E .normal fr K L Q) : D E (.exit id) fr K L (Exit.inBlock id Q) := fun a w f i => by
  show (if id = id then Q .normal a w else _); rw [if_pos rfl]; exact h a w f i
theorem d_exit_pass {id id' : Nat} (hne : Nat.beq id' id = false) (h : D E (.exit id') fr K L Q) : D E (.exit id') fr K L (Exit.inBlock id Q) := fun a w f i => by
  show (if id' = id then _ else Q (.exit id') a w); rw [if_neg (beqN hne)]; exact h a w f i

/-- The end of a piece of code at which ways meet. -/
def Mid (E : Env) {ι : Type} (I : ι → Prop) (fr : ι → Fr) (K : ι → Hl) (L : ι → List Asn) : Act → World → Prop := fun a w => ∃ i, I i ∧ FrOk E.n E.ds (fr i) a ∧ In E.w0 E.F (K i) (L i) w
theorem t_meet {ι : Type} (I : ι → Prop) (fr' : ι → Fr) (K' : ι → Hl) (L' : ι → List Asn) (h1 : T E x fr K L (Exit.then (Mid E I fr' K' L') Q)) (h2 : ∀ i, I i → T E y (fr' i) (K' i) (L' i) Q) :
    T E (.seq x y) fr K L Q := by
  intro a w f i
  refine wp_seq (Code.wp_mono (fun e a w q => ?_) (h1 a w f i))
  cases e <;> first | exact q | (obtain ⟨j, hj, fj, ij⟩ := q; exact h2 j hj _ _ fj ij)
theorem d_mid {ι : Type} {I : ι → Prop} {fr' : ι → Fr} {K' : ι → Hl} {L' : ι → List Asn} (i : ι) (hi : I i) (k : Kp fr (fr' i)) (hK : K' i = K) (hL : ∀ h, Sat L h → Sat (L' i) h) :
    D E .normal fr K L (Exit.then (Mid E I fr' K' L') Q) := fun a w f j => ⟨i, hi, f.keep k, by rw [hK]; exact j.imp hL⟩

theorem t_loop {ι : Type} (I : ι → Prop) (fr' : ι → Fr) (K' : ι → Hl) (L' : ι → List Asn) (μ : ι → Nat) (i0 : ι) (h0 : I i0) (k : Kp fr (fr' i0)) (hK : K' i0 = K) (hL : ∀ h, Sat L h → Sat (L' i0) h)
    (round : ∀ i, I i → T E c (fr' i) (K' i) (L' i) (Exit.then (fun a w => ∃ j, I j ∧ μ j < μ i ∧ FrOk E.n E.ds (fr' j) a ∧ In E.w0 E.F (K' j) (L' j) w) Q)) : T E (.loop c) fr K L Q := by
  intro a w f i b kk cs
  have key : ∀ n j, μ j = n → I j → ∀ a w, FrOk E.n E.ds (fr' j) a → In E.w0 E.F (K' j) (L' j) w →
      ∃ e a' w', Q e a' w' ∧ Arrives E.P (lone (b.at a (.code c :: .inLoop c :: kk)) cs w) b kk cs e a' w' := by
    intro n
    induction n using Nat.strongRecOn with
    | _ n ih =>
      intro j hj hIj a w f i
      obtain ⟨e, a₁, w₁, hq, harr⟩ := round j hIj a w f i b (.inLoop c :: kk) cs
      cases e with
      | normal =>
        obtain ⟨j', hI', hlt, f', i'⟩ := hq
        obtain ⟨e₂, a₂, w₂, hq₂, harr₂⟩ := ih _ (hj ▸ hlt) j' rfl hI' _ _ f' i'
        exact ⟨e₂, a₂, w₂, hq₂, .of_steps (Steps.trans harr (.one step_inLoop)) harr₂⟩
      | exit id => exact ⟨_, a₁, w₁, hq, .pass (x := .inLoop c) rfl (fun _ _ => .inl (by simp)) harr⟩
      | goto l => exact ⟨_, a₁, w₁, hq, .pass (x := .inLoop c) rfl (fun _ _ => .inl (by simp)) harr⟩
      | ret => exact ⟨_, a₁, w₁, hq, .pass (x := .inLoop c) rfl (fun _ _ => .inl (by simp)) harr⟩
      | panic ch => exact ⟨_, a₁, w₁, hq, .pass (x := .inLoop c) rfl (fun _ _ => .inl (by simp)) harr⟩
      | outgrown => exact ⟨_, a₁, w₁, hq, .pass (x := .inLoop c) rfl (fun _ _ => .inl (by simp)) harr⟩
  obtain ⟨e, a', w', hq, harr⟩ := key _ i0 rfl h0 a w (f.keep k) (by rw [hK]; exact i.imp hL)
  exact ⟨e, a', w', hq, .of_steps (.one step_loop) harr⟩
theorem d_round {ι : Type} {I : ι → Prop} {fr' : ι → Fr} {K' : ι → Hl} {L' : ι → List Asn} {μ : ι → Nat} {m : Nat} (j : ι) (hj : I j) (hlt : μ j < m) (k : Kp fr (fr' j)) (hK : K' j = K) (hL : ∀ h, Sat L h → Sat (L' j) h) :
    D E .normal fr K L (Exit.then (fun a w => ∃ j, I j ∧ μ j < m ∧ FrOk E.n E.ds (fr' j) a ∧ In E.w0 E.F (K' j) (L' j) w) Q) :=
  fun a w f i => ⟨j, hj, hlt, f.keep k, by rw [hK]; exact i.imp hL⟩

/-! ## Regions in the text's order -/

theorem t_region {id : Nat} {l : List Oper} (h : OL E l.toArray l fr K L Q) : T E (.region id l.toArray false) fr K L Q := fun a w f i => wp_region_lit (h a w f i)
theorem ol_nil (h : D E .normal fr K L Q) : OL E ops [] fr K L Q := fun a w f i => wpList_nil (h a w f i)
theorem ol_keep {l : List Oper} {fr' : Fr} (k : Kp fr fr') (h : OL E ops l fr' K L Q) : OL E ops l fr K L Q := fun a w f i => h a w (f.keep k) i
theorem ol_imp {l : List Oper} {L' : List Asn} (k : ∀ h, Sat L h → Sat L' h) (h : OL E ops l fr K L' Q) : OL E ops l fr K L Q := fun a w f i => h a w f (i.imp k)

theorem ol_ev {d : Nat} {op : Op} {ty : TypeId} {pos : String} {aft : Array Edge} {v : Value} (hv : Ev E fr K L ⟨some d, op, ty, pos, aft, none⟩ v) (hd : Nat.blt d E.n = true)
    (h : OL E ops rest ((d, v) :: fr) K L Q) : OL E ops (⟨some d, op, ty, pos, aft, none⟩ :: rest) fr K L Q := by
  intro a w f i
  refine wpList_plain rfl fun k hk => ?_
  unfold Oper.wp
  rw [hv a w f i]
  exact hk _ _ (h _ _ (f.put hd v) i)

theorem ol_ef {d : Nat} {op : Op} {ty : TypeId} {pos : String} {aft : Array Edge} {N : Value → Hl → List Asn → Prop} (hv : Ef E fr K L ⟨some d, op, ty, pos, aft, none⟩ Q N) (hd : Nat.blt d E.n = true)
    (h : ∀ v K' L', N v K' L' → K.le K' → OL E ops rest ((d, v) :: fr) K' L' Q) : OL E ops (⟨some d, op, ty, pos, aft, none⟩ :: rest) fr K L Q := by
  intro a w f i
  unfold wpList
  rw [if_pos (show Region.wanted _ _ = true from rfl)]
  exact hv a w _ f i fun v K' L' w' n le j => h v K' L' n le _ _ (f.put hd v) j
theorem ol_ef_ {op : Op} {ty : TypeId} {pos : String} {aft : Array Edge} {N : Value → Hl → List Asn → Prop} (hv : Ef E fr K L ⟨none, op, ty, pos, aft, none⟩ Q N)
    (h : ∀ v K' L', N v K' L' → K.le K' → OL E ops rest fr K' L' Q) : OL E ops (⟨none, op, ty, pos, aft, none⟩ :: rest) fr K L Q := by
  intro a w f i
  unfold wpList
  rw [if_pos (show Region.wanted _ _ = true from rfl)]
  exact hv a w _ f i fun v K' L' w' n le j => h v K' L' n le _ _ f j

theorem ol_s {d : Nat} {op : Op} {ty : TypeId} {pos : String} {aft : Array Edge} {N : Value → Hl → List Asn → Prop} (hv : EfS E fr K L ⟨some d, op, ty, pos, aft, none⟩ N) (hd : Nat.blt d E.n = true)
    (h : ∀ v K' L', N v K' L' → K.le K' → OL E ops rest ((d, v) :: fr) K' L' Q) : OL E ops (⟨some d, op, ty, pos, aft, none⟩ :: rest) fr K L Q := ol_ef (ef_of_s hv) hd h
theorem ol_s_ {op : Op} {ty : TypeId} {pos : String} {aft : Array Edge} {N : Value → Hl → List Asn → Prop} (hv : EfS E fr K L ⟨none, op, ty, pos, aft, none⟩ N)
    (h : ∀ v K' L', N v K' L' → K.le K' → OL E ops rest fr K' L' Q) : OL E ops (⟨none, op, ty, pos, aft, none⟩ :: rest) fr K L Q := ol_ef_ (ef_of_s hv) h
theorem ol_drop {l : List Oper} {A : Asn} (h : OL E ops l fr K L Q) : OL E ops l fr K (A :: L) Q := fun a w f i => h a w f i.drop
theorem t_drop {A : Asn} (h : T E c fr K L Q) : T E c fr K (A :: L) Q := fun a w f i => h a w f i.drop
theorem t_tks {As M : List Asn} (k : Tks As L M) (h : T E c fr K (As ++ M) Q) : T E c fr K L Q := t_imp k.sat h
theorem ol_tks {l : List Oper} {As M : List Asn} (k : Tks As L M) (h : OL E ops l fr K (As ++ M) Q) : OL E ops l fr K L Q := ol_imp k.sat h
theorem ol_fact {l : List Oper} {p : Prop} (k : ∀ h, Sat L h → p) (h : p → OL E ops l fr K L Q) : OL E ops l fr K L Q := fun a w f i => h (let ⟨x, hx, _⟩ := i.rep; k x hx) a w f i
theorem t_fact {p : Prop} (k : ∀ h, Sat L h → p) (h : p → T E c fr K L Q) : T E c fr K L Q := fun a w f i => h (let ⟨x, hx, _⟩ := i.rep; k x hx) a w f i
theorem t_settle {b : Nat} {o : Obj} (h : ∀ K', K.le K' → K' b = some o → T E c fr K' L Q) : T E c fr K (pt b o :: L) Q := fun a w f i => let ⟨h1, h2, h3⟩ := i.settle; h _ h1 h2 a w f h3
theorem ol_settle {l : List Oper} {b : Nat} {o : Obj} (h : ∀ K', K.le K' → K' b = some o → OL E ops l fr K' L Q) : OL E ops l fr K (pt b o :: L) Q := fun a w f i => let ⟨h1, h2, h3⟩ := i.settle; h _ h1 h2 a w f h3

/-- A test that is not decided yet, whose slot a guard asks. -/
theorem ol_split {l : List Oper} (d : Nat) {b : Bool} (e : fr.get d = some (.bool b)) (ht : b = true → OL E ops l ((d, .bool true) :: fr) K L Q) (hf : b = false → OL E ops l ((d, .bool false) :: fr) K L Q) : OL E ops l fr K L Q := by
  intro a w f i
  have key : ∀ c, b = c → FrOk E.n E.ds ((d, .bool c) :: fr) a := fun c hc => ⟨f.defers, f.size, fun k v h => by
    simp only [Fr.get] at h
    by_cases hk : d = k
    · subst hk; simp at h; subst h; rw [← hc]; exact f.get _ _ e
    · rw [beqF hk] at h; exact f.get _ _ h⟩
  cases b
  · exact hf rfl a w (key _ rfl) i
  · exact ht rfl a w (key _ rfl) i
theorem ol_splitp {l : List Oper} (d : Nat) {p : Prop} [Decidable p] (e : fr.get d = some (.bool (decide p))) (ht : p → OL E ops l ((d, .bool true) :: fr) K L Q) (hf : ¬ p → OL E ops l ((d, .bool false) :: fr) K L Q) : OL E ops l fr K L Q :=
  ol_split d e (fun h => ht (of_decide_eq_true h)) (fun h => hf (of_decide_eq_false h))

/-- The guard is met. -/
theorem ol_on {dst : Option Tmp} {op : Op} {ty : TypeId} {pos : String} {aft : Array Edge} {g dg : Nat} {b : Bool} (hg : (ops[g]?).bind (·.dst) = some dg) (hb : fr.get dg = some (.bool b))
    (h : OL E ops (⟨dst, op, ty, pos, aft, none⟩ :: rest) fr K L Q) : OL E ops (⟨dst, op, ty, pos, aft, some (g, b)⟩ :: rest) fr K L Q := by
  intro a w f i
  have := h a w f i
  have hw : Region.wanted ⟨dst, op, ty, pos, aft, some (g, b)⟩ (yielded ops a.tmps) = true := by
    simp [Region.wanted, yielded, hg, f.get _ _ hb]
  unfold wpList at this ⊢
  rw [if_pos hw]
  rw [if_pos (by rfl)] at this
  exact this
theorem ol_off {d : Nat} {op : Op} {ty : TypeId} {pos : String} {aft : Array Edge} {g dg : Nat} {b : Bool} (hg : (ops[g]?).bind (·.dst) = some dg) (hb : fr.get dg = some (.bool (!b))) (hd : Nat.blt d E.n = true)
    (h : OL E ops rest ((d, undef) :: fr) K L Q) : OL E ops (⟨some d, op, ty, pos, aft, some (g, b)⟩ :: rest) fr K L Q := by
  intro a w f i
  have hw : Region.wanted ⟨some d, op, ty, pos, aft, some (g, b)⟩ (yielded ops a.tmps) = false := by
    simp [Region.wanted, yielded, hg, f.get _ _ hb]
  exact wpList_skip hw (h _ _ (f.put hd undef) i)
theorem ol_offu {d : Nat} {op : Op} {ty : TypeId} {pos : String} {aft : Array Edge} {g dg : Nat} {b : Bool} (hg : (ops[g]?).bind (·.dst) = some dg) (hb : fr.get dg = some undef) (hd : Nat.blt d E.n = true)
    (h : OL E ops rest ((d, undef) :: fr) K L Q) : OL E ops (⟨some d, op, ty, pos, aft, some (g, b)⟩ :: rest) fr K L Q := by
  intro a w f i
  have hw : Region.wanted ⟨some d, op, ty, pos, aft, some (g, b)⟩ (yielded ops a.tmps) = false := by
    simp [Region.wanted, yielded, hg, f.get _ _ hb, undef]
  exact wpList_skip hw (h _ _ (f.put hd undef) i)
/-- A test that is not decided yet: both ways. -/
theorem ol_cases (b : Bool) {l : List Oper} (ht : b = true → OL E ops l fr K L Q) (hf : b = false → OL E ops l fr K L Q) : OL E ops l fr K L Q := by
  cases b
  · exact hf rfl
  · exact ht rfl

theorem ol_panic {dst : Option Tmp} {ty : TypeId} {pos : String} {aft : Array Edge} {x : Operand} {t : TypeId} {v : Value} (hx : fr.ev x = some (.iface t v)) (h : D E (.panic [{ v := .iface t v, recovered := false }]) fr K L Q) :
    OL E ops (⟨dst, .panic x, ty, pos, aft, none⟩ :: rest) fr K L Q := by
  intro a w f i
  refine wpList_plain rfl fun k hk => ?_
  unfold Oper.wp
  have : (execOp a.eval ⟨dst, .panic x, ty, pos, aft, none⟩).run E.P w = .halt (.panic (.iface t v)) w := by
    simp only [execOp, f.ev hx]; rfl
  rw [this]
  exact h a w f i

/-! ## Calls -/

theorem enters {P : Program} {f : FuncId} {vs : Array Value} {fn : Func} (hf : P.funcs[f]? = some fn) (hn : (fn.name == "runtime.NumGoroutine") = false) (hb : fn.body.isSome = true) (w : World) :
    (callFunc f vs).run P w = .ok (.enter f vs) w := by
  have hb' : fn.body.isNone = false := by cases h : fn.body <;> simp_all
  show Sem.run P (match P.funcs[f]? with | none => _ | some fn => _) w = _
  rw [hf]
  simp only [hn, hb', Bool.false_eq_true, if_false]
  rfl

theorem call_run {fv : Operand} {xs : List Operand} {ats : Array TypeId} {f : FuncId} {caps : Array Value} {vs : List Value} {dst : Option Tmp} {ty : TypeId} {pos : String} {aft : Array Edge} {g : Option (Nat × Bool)} {R : Ending → Hl → List Asn → Prop} {L1 : List Asn}
    (hf : fr.ev fv = some (.func (.func f) #[] caps)) (hx : fr.evs xs = some vs) (hs : Sp E.P f (vs ++ caps.toList) K L1 R) {a : Act} (fo : FrOk E.n E.ds fr a) (w : World) :
    (execOp a.eval ⟨dst, .call ⟨.value fv, xs.toArray, ats⟩, ty, pos, aft, g⟩).run E.P w = .ok (.enter f (vs ++ caps.toList).toArray) w := by
  obtain ⟨⟨fn, h1, h2, h3⟩, hs⟩ := hs
  have e1 : Array.map a.eval xs.toArray = vs.toArray := by simp [fo.evs hx]
  have e2 : ([] ++ vs).toArray ++ caps = (vs ++ caps.toList).toArray := by simp
  simp only [execOp, resolve, e1, fo.ev hf, Deferred.ofValue, bind, pure, Sem.bind, invoke, List.append_toArray]
  rw [e2]
  exact enters h1 h2 h3 w

theorem ef_call {dst : Option Tmp} {ty : TypeId} {pos : String} {aft : Array Edge} {g : Option (Nat × Bool)} {fv : Operand} {xs : List Operand} {ats : Array TypeId} {f : FuncId} {caps : Array Value} {vs : List Value} {L1 L2 : List Asn}
    {R : Ending → Hl → List Asn → Prop} {N : Value → Hl → List Asn → Prop}
    (hf : fr.ev fv = some (.func (.func f) #[] caps)) (hx : fr.evs xs = some vs) (hL : Tks L1 L L2)
    (hs : Sp E.P f (vs ++ caps.toList) K L1 R)
    (hret : ∀ v K' L', R (.returned v) K' L' → N v K' (L' ++ L2))
    (hpan : ∀ ch K' L', R (.panicked ch) K' L' → K.le K' → D E (.panic ch) fr K' (L' ++ L2) Q)
    (hout : ∀ K' L', R .outgrown K' L' → LetsOut Q) :
    Ef E fr K L ⟨dst, .call ⟨.value fv, xs.toArray, ats⟩, ty, pos, aft, g⟩ Q N := by
  intro a w k fo i hk
  obtain ⟨F', i1, back⟩ := (i.imp hL.sat).hide
  refine .inl ?_
  unfold Oper.wp
  rw [call_run hf hx hs fo w]
  refine (hs.2 F' w i1).mono fun e w' ⟨K', L', r, le, j⟩ => ?_
  cases e with
  | returned v => exact hk _ _ _ _ (hret _ _ _ r) le (back j)
  | panicked ch => exact hpan _ _ _ r le _ _ fo (back j)
  | outgrown => exact hout _ _ r

/-- A call of a function that returns. -/
theorem ol_call {d : Nat} {ty : TypeId} {pos : String} {aft : Array Edge} {fv : Operand} {xs : List Operand} {ats : Array TypeId} {f : FuncId} {caps : Array Value} {vs : List Value} {L1 L2 : List Asn} {N : Value → Hl → List Asn → Prop}
    (hf : fr.ev fv = some (.func (.func f) #[] caps)) (hx : fr.evs xs = some vs) (hs : Sp E.P f (vs ++ caps.toList) K L1 (Ret N)) (hL : Tks L1 L L2) (hd : Nat.blt d E.n = true)
    (h : ∀ v K' L', N v K' L' → K.le K' → OL E ops rest ((d, v) :: fr) K' (L' ++ L2) Q) : OL E ops (⟨some d, .call ⟨.value fv, xs.toArray, ats⟩, ty, pos, aft, none⟩ :: rest) fr K L Q :=
  ol_ef (ef_call (N := fun v K' L'' => ∃ L', L'' = L' ++ L2 ∧ N v K' L') hf hx hL hs (fun v K' L' ⟨u, e, n⟩ => by cases e; exact ⟨L', rfl, n⟩) (fun ch K' L' ⟨u, e, n⟩ => by cases e) (fun K' L' ⟨u, e, n⟩ => by cases e)) hd
    (fun v K' L'' ⟨L', e, n⟩ le => by subst e; exact h v K' L' n le)
/-- .. that only reckons: nothing that is held turns. -/
def Val (v : Value) (K : Hl) : Ending → Hl → List Asn → Prop := fun e K' L' => e = .returned v ∧ K' = K ∧ L' = []
theorem ol_callv {d : Nat} {ty : TypeId} {pos : String} {aft : Array Edge} {fv : Operand} {xs : List Operand} {ats : Array TypeId} {f : FuncId} {caps : Array Value} {vs : List Value} {v : Value}
    (hf : fr.ev fv = some (.func (.func f) #[] caps)) (hx : fr.evs xs = some vs) (hs : Sp E.P f (vs ++ caps.toList) K [] (Val v K)) (hd : Nat.blt d E.n = true)
    (h : OL E ops rest ((d, v) :: fr) K L Q) : OL E ops (⟨some d, .call ⟨.value fv, xs.toArray, ats⟩, ty, pos, aft, none⟩ :: rest) fr K L Q :=
  ol_ef (ef_call (N := fun u K' L'' => u = v ∧ K' = K ∧ L'' = L) hf hx .nil hs (fun u K' L' ⟨e, e2, e3⟩ => by cases e; subst e3; exact ⟨rfl, e2, rfl⟩) (fun ch K' L' ⟨e, _⟩ => by cases e) (fun K' L' ⟨e, _⟩ => by cases e)) hd
    (fun u K' L'' ⟨e1, e2, e3⟩ _ => by subst e1; subst e2; subst e3; exact h)
/-- .. that may panic. -/
theorem ol_callp {d : Nat} {ty : TypeId} {pos : String} {aft : Array Edge} {fv : Operand} {xs : List Operand} {ats : Array TypeId} {f : FuncId} {caps : Array Value} {vs : List Value} {L1 L2 : List Asn} {R : Ending → Hl → List Asn → Prop}
    (hf : fr.ev fv = some (.func (.func f) #[] caps)) (hx : fr.evs xs = some vs) (hs : Sp E.P f (vs ++ caps.toList) K L1 R) (hL : Tks L1 L L2) (hd : Nat.blt d E.n = true)
    (hout : ∀ K' L', ¬ R .outgrown K' L')
    (hpan : ∀ ch K' L', R (.panicked ch) K' L' → K.le K' → D E (.panic ch) fr K' (L' ++ L2) Q)
    (h : ∀ v K' L', R (.returned v) K' L' → K.le K' → OL E ops rest ((d, v) :: fr) K' (L' ++ L2) Q) : OL E ops (⟨some d, .call ⟨.value fv, xs.toArray, ats⟩, ty, pos, aft, none⟩ :: rest) fr K L Q :=
  ol_ef (ef_call (N := fun v K' L'' => ∃ L', L'' = L' ++ L2 ∧ R (.returned v) K' L') hf hx hL hs (fun v K' L' n => ⟨L', rfl, n⟩) hpan (fun K' L' n => absurd n (hout _ _))) hd
    (fun v K' L'' ⟨L', e, n⟩ le => by subst e; exact h v K' L' n le)

/-! ## The beginning and the end of a function -/

/-- What a function's post asks. -/
def FPost (P : Program) (fn : Func) (w0 : World) (F K0 : Hl) (R : Ending → Hl → List Asn → Prop) : Post :=
  bodyPost P fn fun e w' => ∃ K' L', R e K' L' ∧ K0.le K' ∧ In w0 F K' L' w'

def Fr.init : Nat → List Value → Nat → Fr
  | i, v :: vs, n => (i, v) :: Fr.init (i + 1) vs n
  | _, [], _ => []

theorem init_get {vs : List Value} : ∀ {i n : Nat} {k : Nat} {v : Value}, (Fr.init i vs n).get k = some v → i ≤ k ∧ vs[k - i]? = some v := by
  induction vs with
  | nil => intro i n k v e; simp [Fr.init, Fr.get] at e
  | cons u vs ih =>
    intro i n k v e
    simp only [Fr.init, Fr.get] at e
    by_cases hk : i = k
    · subst hk; simp at e; subst e; simp
    · rw [beqF hk] at e
      obtain ⟨h1, h2⟩ := ih e
      refine ⟨by omega, ?_⟩
      have : k - i = (k - (i + 1)) + 1 := by omega
      rw [this]; simpa using h2

theorem spec_of {P : Program} {f : FuncId} {fn : Func} {c : Code} {args : List Value} {n : Nat} {K : Hl} {L : List Asn} {R : Ending → Hl → List Asn → Prop}
    (hf : P.funcs[f]? = some fn) (hb : fn.body = some c) (hn : fn.ntmps = n) (hl : Nat.ble args.length n = true) (hname : (fn.name == "runtime.NumGoroutine") = false)
    (h : ∀ (F : Hl) (w : World), T ⟨P, n, [], w, F⟩ c (Fr.init 0 args n) K L (FPost P fn w F K R)) : Sp P f args K L R := by
  refine ⟨⟨fn, hf, hname, by simp [hb]⟩, fun F w i => calls_of_wp hf hb (h F w _ _ ⟨rfl, ?_, ?_⟩ i)⟩
  · have : args.length ≤ n := Nat.le_of_ble_eq_true hl
    simp [hn]; omega
  · intro k v e
    obtain ⟨_, h2⟩ := init_get e
    have hk : k < args.length := by
      rcases Nat.lt_or_ge k args.length with h | h
      · exact h
      · simp [List.getElem?_eq_none h] at h2
    show (args.toArray ++ Array.replicate _ _)[k]? = some v
    rw [Array.getElem?_append_left (by simpa using hk)]
    simpa using h2

section
variable {P : Program} {fn : Func} {n : Nat} {w0 : World} {F K0 K : Hl} {fr : Fr} {L : List Asn} {R : Ending → Hl → List Asn → Prop}
theorem d_end0 (hr : fn.results = #[]) (le : K0.le K) (h : R (.returned (.tuple #[])) K L) : D ⟨P, n, [], w0, F⟩ .normal fr K L (FPost P fn w0 F K0 R) :=
  fun a w f i => ⟨f.defers, _, results_none hr _ _ _, K, L, h, le, i⟩
theorem d_ret0 (hr : fn.results = #[]) (le : K0.le K) (h : R (.returned (.tuple #[])) K L) : D ⟨P, n, [], w0, F⟩ .ret fr K L (FPost P fn w0 F K0 R) :=
  fun a w f i => ⟨f.defers, _, results_none hr _ _ _, K, L, h, le, i⟩
theorem d_ret1 {t : Nat} {v : Value} (hr : fn.results = #[.tmp t]) (ht : fr.get t = some v) (le : K0.le K) (h : R (.returned v) K L) : D ⟨P, n, [], w0, F⟩ .ret fr K L (FPost P fn w0 F K0 R) :=
  fun a w f i => ⟨f.defers, v, by rw [results_tmp hr]; simp [f.get _ _ ht], K, L, h, le, i⟩
theorem d_ret2 {t u : Nat} {v x : Value} (hr : fn.results = #[.tmp t, .tmp u]) (ht : fr.get t = some v) (hu : fr.get u = some x) (le : K0.le K) (h : R (.returned (.tuple #[v, x])) K L) :
    D ⟨P, n, [], w0, F⟩ .ret fr K L (FPost P fn w0 F K0 R) :=
  fun a w f i => ⟨f.defers, _, by rw [results_tmp2 hr]; simp [f.get _ _ ht, f.get _ _ hu], K, L, h, le, i⟩
theorem d_panic {ch : List PanicEntry} (le : K0.le K) (h : R (.panicked ch) K L) : D ⟨P, n, [], w0, F⟩ (.panic ch) fr K L (FPost P fn w0 F K0 R) :=
  fun a w f i => ⟨f.defers, K, L, h, le, i⟩
end
end
end Go.SL

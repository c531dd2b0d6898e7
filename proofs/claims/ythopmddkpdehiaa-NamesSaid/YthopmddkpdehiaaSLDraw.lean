/-
  A region whose order is drawn: one order is walked, every order that the edges allow ends so. Nothing of a program stands here. Conditions: none.
-/
import Derived.Test.YthopmddkpdehiaaSLSlice
set_option linter.unusedSimpArgs false
set_option linter.unusedVariables false
namespace Go.SL

/-- An operation that acts, in a region that draws: it hands back a value; a panic of a callee ends the region. -/
def Eff (P : Program) (o : Oper) (a : Act) (w : World) (Q : Post) (next : Value → World → Prop) : Prop :=
  (∃ u w', (execOp a.eval o).run P w = .ok (.value u) w' ∧ next u w') ∨ (∃ w', (execOp a.eval o).run P w = .ok .skip w' ∧ next undef w') ∨
  (∃ f args w1, (execOp a.eval o).run P w = .ok (.enter f args) w1 ∧ Calls P f args w1 fun e w' => match e with
    | .returned u => next u w'
    | .panicked ch => ∀ a', a'.defers = a.defers → Q (.panic ch) a' w'
    | .outgrown => LetsOut Q)

theorem Eff.mono {P : Program} {o : Oper} {a : Act} {w : World} {Q : Post} {n n' : Value → World → Prop} (h : Eff P o a w Q n) (k : ∀ u w', n u w' → n' u w') : Eff P o a w Q n' := by
  rcases h with ⟨u, w', h, hn⟩ | ⟨w', h, hn⟩ | ⟨f, args, w1, h, hc⟩
  · exact .inl ⟨u, w', h, k _ _ hn⟩
  · exact .inr (.inl ⟨w', h, k _ _ hn⟩)
  · exact .inr (.inr ⟨f, args, w1, h, hc.mono fun e w' q => by cases e <;> first | exact k _ _ q | exact q⟩)
theorem Eff.congr {P : Program} {o : Oper} {a a' : Act} {w : World} {Q : Post} {n : Value → World → Prop} (h : Eff P o a w Q n) (he : execOp a'.eval o = execOp a.eval o) (hd : a'.defers = a.defers) : Eff P o a' w Q n := by
  unfold Eff at *
  rw [he, hd]; exact h
theorem Eff.wp {P : Program} {o : Oper} {a : Act} {w : World} {Q : Post} {n : Value → World → Prop} {K : Act → World → Prop} (h : Eff P o a w Q n) (k : ∀ u w', n u w' → K (a.put o.dst u) w') : o.wp P a w K Q := by
  unfold Oper.wp
  rcases h with ⟨u, w', h, hn⟩ | ⟨w', h, hn⟩ | ⟨f, args, w1, h, hc⟩
  · rw [h]; exact k _ _ hn
  · rw [h]; exact k _ _ hn
  · rw [h]
    refine hc.mono fun e w' q => ?_
    cases e with
    | returned u => exact k _ _ q
    | panicked ch => exact q _ rfl
    | outgrown => exact q

def DX (E : Env) (ops : Array Oper) (eff : List Nat) (S : List Asn) (Q : Post) : List Nat → Hl → List Asn → Act → Prop
  | [], K, M, a => ∀ w, In E.w0 E.F K (S ++ M) w → Q .normal a w
  | i :: r, K, M, a =>
    match ops[i]? with
    | none => False
    | some o =>
      if Region.wanted o (yielded ops a.tmps) then
        if eff.contains i then
          ∀ w, In E.w0 E.F K (S ++ M) w → Eff E.P o a w Q fun u w' => ∃ K' M', K.le K' ∧ In E.w0 E.F K' (S ++ M') w' ∧ DX E ops eff S Q r K' M' (a.put o.dst u)
        else ∃ v, (∀ K' M' w, K.le K' → In E.w0 E.F K' (S ++ M') w → (execOp a.eval o).run E.P w = .ok (.value v) w) ∧ DX E ops eff S Q r K M (a.put o.dst v)
      else DX E ops eff S Q r K M (a.put o.dst undef)

def noSel (o : Oper) : Bool := match o.op with | .select _ _ => false | _ => true
theorem noSel_spec {o : Oper} (h : noSel o = true) : ∀ cs b, o.op ≠ .select cs b := by
  intro cs b e; simp [noSel, e] at h

theorem put_defers' (a : Act) (x : Option Tmp) (v : Value) : (a.put x v).defers = a.defers := by cases x <;> rfl

theorem dx_swap {E : Env} {ops : Array Oper} {eff : List Nat} {S : List Asn} {Q : Post} {x i : Nat} {r : List Nat} {K : Hl} {M : List Asn} {a : Act} {ox oi : Oper}
    (hx : ops[x]? = some ox) (hi : ops[i]? = some oi) (hap : ox.apart ops oi = true) (hsx : noSel ox = true) (hsi : noSel oi = true) (hne : eff.contains x = false)
    (h : DX E ops eff S Q (x :: i :: r) K M a) : DX E ops eff S Q (i :: x :: r) K M a := by
  obtain ⟨h1, h2, h3⟩ := Oper.apart_spec hap
  have sx := noSel_spec hsx
  have si := noSel_spec hsi
  -- what happens to x behind i
  have goX : ∀ (v u : Value), ((a.put ox.dst v).put oi.dst u) = ((a.put oi.dst u).put ox.dst v) := fun v u => Act.put_comm a v u h2
  have wx : ∀ (u : Value), Region.wanted ox (yielded ops (a.put oi.dst u).tmps) = Region.wanted ox (yielded ops a.tmps) := fun u => wanted_put ox a oi.dst u h3
  have wi : ∀ (u : Value), Region.wanted oi (yielded ops (a.put ox.dst u).tmps) = Region.wanted oi (yielded ops a.tmps) := fun u => wanted_put oi a ox.dst u h1
  have ex : ∀ (u : Value), execOp (a.put oi.dst u).eval ox = execOp a.eval ox := fun u => execOp_put ox sx a oi.dst u h3
  have ei : ∀ (u : Value), execOp (a.put ox.dst u).eval oi = execOp a.eval oi := fun u => execOp_put oi si a ox.dst u h1
  simp only [DX, hx, hi, hne, Bool.false_eq_true, if_false] at h ⊢
  by_cases cx : Region.wanted ox (yielded ops a.tmps) = true
  · simp only [cx, if_true] at h
    obtain ⟨v, hv, h⟩ := h
    rw [wi v] at h
    have back : ∀ (u : Value) (K' : Hl) (M' : List Asn), K.le K' → DX E ops eff S Q r K' M' ((a.put ox.dst v).put oi.dst u) →
        (if Region.wanted ox (yielded ops (a.put oi.dst u).tmps) = true then
          ∃ v, (∀ K'' M'' w, K'.le K'' → In E.w0 E.F K'' (S ++ M'') w → (execOp (a.put oi.dst u).eval ox).run E.P w = .ok (.value v) w) ∧ DX E ops eff S Q r K' M' ((a.put oi.dst u).put ox.dst v)
          else DX E ops eff S Q r K' M' ((a.put oi.dst u).put ox.dst undef)) := by
      intro u K' M' le hr
      rw [wx u, if_pos cx]
      refine ⟨v, fun K'' M'' w le' j => ?_, ?_⟩
      · rw [ex u]; exact hv K'' M'' w (Hl.le_trans le le') j
      · rw [← goX]; exact hr
    by_cases ci : Region.wanted oi (yielded ops a.tmps) = true
    · simp only [ci, if_true] at h ⊢
      by_cases ce : eff.contains i = true
      · simp only [ce, if_true] at h ⊢
        intro w j
        refine ((h w j).congr (ei v).symm (put_defers' _ _ _).symm).mono fun u w' ⟨K', M', le, j', hr⟩ => ⟨K', M', le, j', back u K' M' le hr⟩
      · simp only [ce, Bool.false_eq_true, if_false] at h ⊢
        obtain ⟨u, hu, hr⟩ := h
        refine ⟨u, fun K' M' w le j => ?_, back u K M (Hl.le_refl _) hr⟩
        have := hu K' M' w le j
        rwa [ei v] at this
    · simp only [ci, if_false, Bool.false_eq_true] at h ⊢
      exact back undef K M (Hl.le_refl _) h
  · simp only [cx, if_false, Bool.false_eq_true] at h
    rw [wi undef] at h
    have back : ∀ (u : Value) (K' : Hl) (M' : List Asn), K.le K' → DX E ops eff S Q r K' M' ((a.put ox.dst undef).put oi.dst u) →
        (if Region.wanted ox (yielded ops (a.put oi.dst u).tmps) = true then
          ∃ v, (∀ K'' M'' w, K'.le K'' → In E.w0 E.F K'' (S ++ M'') w → (execOp (a.put oi.dst u).eval ox).run E.P w = .ok (.value v) w) ∧ DX E ops eff S Q r K' M' ((a.put oi.dst u).put ox.dst v)
          else DX E ops eff S Q r K' M' ((a.put oi.dst u).put ox.dst undef)) := by
      intro u K' M' le hr
      rw [wx u, if_neg cx, ← goX]; exact hr
    by_cases ci : Region.wanted oi (yielded ops a.tmps) = true
    · simp only [ci, if_true] at h ⊢
      by_cases ce : eff.contains i = true
      · simp only [ce, if_true] at h ⊢
        intro w j
        refine ((h w j).congr (ei undef).symm (put_defers' _ _ _).symm).mono fun u w' ⟨K', M', le, j', hr⟩ => ⟨K', M', le, j', back u K' M' le hr⟩
      · simp only [ce, Bool.false_eq_true, if_false] at h ⊢
        obtain ⟨u, hu, hr⟩ := h
        refine ⟨u, fun K' M' w le j => ?_, back u K M (Hl.le_refl _) hr⟩
        have := hu K' M' w le j
        rwa [ei undef] at this
    · simp only [ci, if_false, Bool.false_eq_true] at h ⊢
      exact back undef K M (Hl.le_refl _) h

/-- Two operations that may change places: the first only reads, neither looks at what the other writes. -/
def swapB (ops : Array Oper) (eff : List Nat) (x i : Nat) : Bool :=
  match ops[x]?, ops[i]? with
  | some ox, some oi => !eff.contains x && ox.apart ops oi && noSel ox && noSel oi
  | _, _ => false

theorem dx_cons_mono {E : Env} {ops : Array Oper} {eff : List Nat} {S : List Asn} {Q : Post} {x : Nat} {r r' : List Nat} (k : ∀ K M a, DX E ops eff S Q r K M a → DX E ops eff S Q r' K M a) {K : Hl} {M : List Asn} {a : Act}
    (h : DX E ops eff S Q (x :: r) K M a) : DX E ops eff S Q (x :: r') K M a := by
  unfold DX at h ⊢
  cases hx : ops[x]? with
  | none => simp [hx] at h
  | some o =>
    simp only [hx] at h ⊢
    split
    · rename_i c
      rw [if_pos c] at h
      split
      · rename_i c'
        rw [if_pos c'] at h
        exact fun w j => (h w j).mono fun u w' ⟨K', M', le, j', hr⟩ => ⟨K', M', le, j', k _ _ _ hr⟩
      · rename_i c'
        rw [if_neg c'] at h
        obtain ⟨v, hv, hr⟩ := h
        exact ⟨v, hv, k _ _ _ hr⟩
    · rename_i c
      rw [if_neg c] at h
      exact k _ _ _ h

theorem dx_front {E : Env} {ops : Array Oper} {eff : List Nat} {S : List Asn} {Q : Post} {i : Nat} {r2 : List Nat} : ∀ (r1 : List Nat) {K : Hl} {M : List Asn} {a : Act},
    (∀ x ∈ r1, swapB ops eff x i = true) → DX E ops eff S Q (r1 ++ i :: r2) K M a → DX E ops eff S Q (i :: (r1 ++ r2)) K M a
  | [], _, _, _, _, h => h
  | x :: r1, K, M, a, hs, h => by
    have h1 : DX E ops eff S Q (x :: i :: (r1 ++ r2)) K M a := dx_cons_mono (fun _ _ _ => dx_front r1 fun y hy => hs y (List.mem_cons_of_mem _ hy)) h
    have hb := hs x (List.mem_cons_self ..)
    unfold swapB at hb
    cases hx : ops[x]? with
    | none => simp [hx] at hb
    | some ox =>
      cases hi : ops[i]? with
      | none => simp [hx, hi] at hb
      | some oi =>
        simp only [hx, hi, Bool.and_eq_true, Bool.not_eq_true'] at hb
        exact dx_swap hx hi hb.1.1.2 hb.1.2 hb.2 hb.1.1.1 h1

/-! ## The check of an order -/

/-- Bits of all that stands ahead of an operation, by its own edges and theirs. -/
def upto (anc : List Nat) : List Edge → Nat
  | [] => 0
  | e :: es => if Region.binds .any e then (2 ^ e.on ||| anc.getD e.on 0) ||| upto anc es else upto anc es
def ancOk (anc : List Nat) : List Oper → Nat → Bool
  | [], _ => true
  | o :: os, i => (o.after.toList.all fun e => !Region.binds .any e || Nat.blt e.on i) && ((anc.getD i 0 ||| upto anc o.after.toList) == upto anc o.after.toList) && ancOk anc os (i + 1)
def pwB (ops : Array Oper) (eff anc : List Nat) : List Nat → Bool
  | [] => true
  | x :: r => (r.all fun i => (anc.getD i 0).testBit x || swapB ops eff x i) && !r.contains x && pwB ops eff anc r
def ordOk (l : List Oper) (eff anc ord : List Nat) : Bool :=
  ancOk anc l 0 && pwB l.toArray eff anc ord && (List.range l.length).all ord.contains && ord.all (Nat.blt · l.length) && Nat.beq ord.length l.length

theorem upto_bit {anc : List Nat} {x : Nat} : ∀ {es : List Edge}, (upto anc es).testBit x = true → ∃ e ∈ es, Region.binds .any e = true ∧ (x = e.on ∨ (anc.getD e.on 0).testBit x = true)
  | [], h => by simp [upto] at h
  | e :: es, h => by
    unfold upto at h
    split at h
    · rename_i hb
      rw [Nat.testBit_or, Nat.testBit_or] at h
      simp only [Bool.or_eq_true, Nat.testBit_two_pow, decide_eq_true_eq] at h
      rcases h with (h | h) | h
      · exact ⟨e, List.mem_cons_self .., hb, .inl h.symm⟩
      · exact ⟨e, List.mem_cons_self .., hb, .inr h⟩
      · obtain ⟨e', he, h'⟩ := upto_bit h
        exact ⟨e', List.mem_cons_of_mem _ he, h'⟩
    · obtain ⟨e', he, h'⟩ := upto_bit h
      exact ⟨e', List.mem_cons_of_mem _ he, h'⟩

theorem ancOk_at {anc : List Nat} : ∀ {os : List Oper} {j : Nat}, ancOk anc os j = true → ∀ {i : Nat} {o : Oper}, os[i]? = some o →
    (∀ e ∈ o.after.toList, Region.binds .any e = true → e.on < j + i) ∧ ∀ x, (anc.getD (j + i) 0).testBit x = true → (upto anc o.after.toList).testBit x = true
  | [], _, _, _, _, h => by simp at h
  | o :: os, j, h, i, o', ho => by
    simp only [ancOk, Bool.and_eq_true, List.all_eq_true, Bool.or_eq_true, Bool.not_eq_true', beq_iff_eq] at h
    obtain ⟨⟨h1, h2⟩, h3⟩ := h
    cases i with
    | zero =>
      simp at ho; subst ho
      refine ⟨fun e he hb => ?_, fun x hx => ?_⟩
      · rcases h1 e he with q | q
        · rw [hb] at q; cases q
        · simp [Nat.blt] at q; omega
      · rw [← h2, Nat.testBit_or]; simp only [Nat.add_zero] at hx; rw [hx]; rfl
    | succ i =>
      have := ancOk_at (j := j + 1) h3 (i := i) (o := o') (by simpa using ho)
      have e : j + (i + 1) = j + 1 + i := by omega
      rw [e]; exact this

/-- All that is listed has all that stands ahead of it listed. -/
def Down (ops : Array Oper) (listed : Array Bool) : Prop :=
  ∀ (i : Nat) (o : Oper), listed.getD i true = true → ops[i]? = some o → ∀ e ∈ o.after.toList, Region.binds .any e = true → listed.getD e.on false = true

theorem ready_iff {ops : Array Oper} {listed : Array Bool} {i : Nat} : i ∈ Region.ready .any ops listed ↔
    i < ops.size ∧ listed.getD i true = false ∧ ∃ o, ops[i]? = some o ∧ ∀ e ∈ o.after.toList, Region.binds .any e = true → listed.getD e.on false = true := by
  unfold Region.ready
  simp only [List.mem_filter, List.mem_range, Bool.and_eq_true, Bool.not_eq_true']
  constructor
  · rintro ⟨h1, h2, h3⟩
    refine ⟨h1, h2, ?_⟩
    cases ho : ops[i]? with
    | none => simp [ho] at h3
    | some o =>
      refine ⟨o, rfl, fun e he hb => ?_⟩
      simp only [ho, Option.map_some, Option.getD_some, Array.all_eq_true_iff_forall_mem] at h3
      have := h3 e (by simpa using he)
      simpa [hb] using this
  · rintro ⟨h1, h2, o, ho, h3⟩
    refine ⟨h1, h2, ?_⟩
    simp only [ho, Option.map_some, Option.getD_some, Array.all_eq_true_iff_forall_mem]
    intro e he
    by_cases hb : Region.binds .any e = true
    · simp [hb, h3 e (by simpa using he) hb]
    · simp [hb]

theorem anc_listed {l : List Oper} {anc : List Nat} (hA : ancOk anc l 0 = true) {listed : Array Bool} (hsz : listed.size = l.length) (hd : Down l.toArray listed) {i : Nat} {o : Oper} (ho : l[i]? = some o)
    (hr : ∀ e ∈ o.after.toList, Region.binds .any e = true → listed.getD e.on false = true) {x : Nat} (hx : (anc.getD i 0).testBit x = true) : listed.getD x false = true := by
  have key : ∀ (n i : Nat) (o : Oper), i = n → l[i]? = some o → (∀ e ∈ o.after.toList, Region.binds .any e = true → listed.getD e.on false = true) → (anc.getD i 0).testBit x = true → listed.getD x false = true := by
    intro n
    induction n using Nat.strongRecOn with
    | _ n ih =>
      rintro i o rfl ho hr hx
      obtain ⟨h1, h2⟩ := ancOk_at hA ho
      simp only [Nat.zero_add] at h1 h2
      obtain ⟨e, he, hb, hxe⟩ := upto_bit (h2 x hx)
      rcases hxe with rfl | hxe
      · exact hr e he hb
      · have hlt := h1 e he hb
        have hil : i < l.length := by
          rcases Nat.lt_or_ge i l.length with h | h
          · exact h
          · simp [List.getElem?_eq_none h] at ho
        have hel : l[e.on]? = some l[e.on] := by simp [List.getElem?_eq_getElem (Nat.lt_trans hlt hil)]
        have hle := hr e he hb
        refine ih e.on hlt e.on l[e.on] rfl hel ?_ hxe
        refine hd e.on l[e.on] ?_ (by simp [Array.getElem?_eq_getElem, Nat.lt_trans hlt hil])
        rw [Array.getD_eq_getD_getElem?] at hle ⊢
        have : e.on < listed.size := by rw [hsz]; exact Nat.lt_trans hlt hil
        simpa [Array.getElem?_eq_getElem this] using hle
  exact key i i o rfl ho hr hx


theorem pwB_split {ops : Array Oper} {eff anc : List Nat} : ∀ {r : List Nat}, pwB ops eff anc r = true → r.Nodup ∧ ∀ (r1 : List Nat) (i : Nat) (r2 : List Nat), r = r1 ++ i :: r2 → ∀ x ∈ r1, (anc.getD i 0).testBit x = true ∨ swapB ops eff x i = true
  | [], _ => ⟨List.nodup_nil, fun r1 i r2 e => by simp at e⟩
  | y :: r, h => by
    simp only [pwB, Bool.and_eq_true, List.all_eq_true, Bool.or_eq_true, Bool.not_eq_true'] at h
    obtain ⟨⟨h1, h2⟩, h3⟩ := h
    obtain ⟨n, q⟩ := pwB_split h3
    refine ⟨List.nodup_cons.2 ⟨by simpa using h2, n⟩, ?_⟩
    intro r1 i r2 e x hx
    cases r1 with
    | nil => simp at hx
    | cons z r1 =>
      simp only [List.cons_append, List.cons.injEq] at e
      obtain ⟨rfl, rfl⟩ := e
      rcases List.mem_cons.1 hx with rfl | hx
      · exact h1 i (by simp)
      · exact q r1 i r2 rfl x hx

theorem pwB_filter {ops : Array Oper} {eff anc : List Nat} (p : Nat → Bool) : ∀ {r : List Nat}, pwB ops eff anc r = true → pwB ops eff anc (r.filter p) = true
  | [], _ => rfl
  | y :: r, h => by
    simp only [pwB, Bool.and_eq_true, List.all_eq_true, Bool.or_eq_true, Bool.not_eq_true'] at h
    obtain ⟨⟨h1, h2⟩, h3⟩ := h
    have ih := pwB_filter p h3
    simp only [List.filter_cons]
    split
    · simp only [pwB, Bool.and_eq_true, List.all_eq_true, Bool.or_eq_true, Bool.not_eq_true', ih, and_true]
      refine ⟨fun i hi => h1 i (List.mem_filter.1 hi).1, ?_⟩
      simp at h2 ⊢
      exact fun h => absurd h h2
    · exact ih

theorem wpAny_of_dx {E : Env} {l : List Oper} {eff anc ord : List Nat} {S : List Asn} {Q : Post} (hA : ancOk anc l 0 = true) (hP : pwB l.toArray eff anc ord = true) (hcov : ∀ i, i < l.length → i ∈ ord) (hin : ∀ i ∈ ord, i < l.length) :
    ∀ (fuel : Nat) (listed : Array Bool) (r : List Nat) (K : Hl) (M : List Asn) (a : Act) (w : World), listed.size = l.length → r = ord.filter (fun i => !listed.getD i true) → fuel = r.length → Down l.toArray listed →
      DX E l.toArray eff S Q r K M a → In E.w0 E.F K (S ++ M) w → wpAny E.P .any l.toArray Q fuel listed a w := by
  intro fuel
  induction fuel with
  | zero =>
    intro listed r K M a w hsz hr hf hd h j
    have hr0 : r = [] := List.length_eq_zero_iff.1 hf.symm
    subst hr0
    have hall : ∀ i, i < l.length → listed.getD i true = true := by
      intro i hi
      cases hb : listed.getD i true with
      | true => rfl
      | false =>
        have : i ∈ ord.filter (fun i => !listed.getD i true) := List.mem_filter.2 ⟨hcov i hi, by rw [hb]; rfl⟩
        rw [← hr] at this; simp at this
    refine ⟨?_, h w j⟩
    refine List.eq_nil_iff_forall_not_mem.2 fun i hi => ?_
    obtain ⟨h1, h2, _⟩ := ready_iff.1 hi
    rw [hall i (by simpa using h1)] at h2; cases h2
  | succ fuel ih =>
    intro listed r K M a w hsz hr hf hd h j
    have hne : r ≠ [] := by rintro rfl; simp at hf
    refine ⟨fun h0 => ?_, fun i hi => ?_⟩
    · -- the least that is not listed is ready
      exfalso
      have key : ∀ (n i : Nat), i = n → i < l.length → listed.getD i true = false → False := by
        intro n
        induction n using Nat.strongRecOn with
        | _ n ihn =>
          rintro i rfl hil hb
          have hi : i ∈ Region.ready .any l.toArray listed := by
            refine ready_iff.2 ⟨by simpa using hil, hb, l[i], by simp [List.getElem?_eq_getElem hil], fun e he hbd => ?_⟩
            have hlt := (ancOk_at hA (i := i) (o := l[i]) (by simp [List.getElem?_eq_getElem hil])).1 e he hbd
            simp only [Nat.zero_add] at hlt
            have hel : e.on < listed.size := by rw [hsz]; exact Nat.lt_trans hlt hil
            cases hc : listed.getD e.on true with
            | false => exact absurd hc (fun hc => ihn e.on hlt e.on rfl (Nat.lt_trans hlt hil) hc)
            | true =>
              rw [Array.getD_eq_getD_getElem?] at hc ⊢
              simpa [Array.getElem?_eq_getElem hel] using hc
          rw [h0] at hi; simp at hi
      obtain ⟨i, hi⟩ := List.exists_mem_of_ne_nil r hne
      rw [hr] at hi
      obtain ⟨h1, h2⟩ := List.mem_filter.1 hi
      exact key i i rfl (hin i h1) (by simpa using h2)
    · obtain ⟨h1, h2, o, ho, h3⟩ := ready_iff.1 hi
      have hil : i < l.length := by simpa using h1
      have hol : l[i]? = some o := by simpa using ho
      have hmem : i ∈ r := by rw [hr]; exact List.mem_filter.2 ⟨hcov i hil, by rw [h2]; rfl⟩
      obtain ⟨r1, r2, hsplit⟩ := List.append_of_mem hmem
      have hPr : pwB l.toArray eff anc r = true := by rw [hr]; exact pwB_filter _ hP
      obtain ⟨hnd, hq⟩ := pwB_split hPr
      have hsw : ∀ x ∈ r1, swapB l.toArray eff x i = true := by
        intro x hx
        rcases hq r1 i r2 hsplit x hx with hb | hb
        · exfalso
          have hxl := anc_listed hA hsz hd hol h3 hb
          have hxr : x ∈ r := by rw [hsplit]; simp [hx]
          rw [hr] at hxr
          obtain ⟨hxo, hxn⟩ := List.mem_filter.1 hxr
          have hxs : x < listed.size := by rw [hsz]; exact hin x hxo
          rw [Array.getD_eq_getD_getElem?] at hxl
          simp [Array.getElem?_eq_getElem hxs] at hxl hxn
          rw [hxl] at hxn; cases hxn
        · exact hb
      rw [hsplit] at h
      have hfront := dx_front r1 hsw h
      have his : i < listed.size := by rw [hsz]; exact hil
      have hr' : r1 ++ r2 = ord.filter (fun k => !(listed.setIfInBounds i true).getD k true) := by
        have hset : ∀ k, (listed.setIfInBounds i true).getD k true = (if k = i then true else listed.getD k true) := by
          intro k
          rw [Array.getD_eq_getD_getElem?, Array.getD_eq_getD_getElem?, Array.getElem?_setIfInBounds]
          by_cases hk : i = k
          · subst hk; simp [his]
          · simp [hk, Ne.symm hk]
        have e1 : ord.filter (fun k => !(listed.setIfInBounds i true).getD k true) = r.filter (fun k => k != i) := by
          rw [hr, List.filter_filter]
          refine List.filter_congr fun k _ => ?_
          rw [hset k]
          by_cases hk : k = i
          · subst hk; simp
          · simp [hk]
        rw [e1, hsplit, List.filter_append, List.filter_cons]
        rw [hsplit] at hnd
        have hn := List.nodup_append.1 hnd
        have hn2 := List.nodup_cons.1 hn.2.1
        simp only [bne_self_eq_false, Bool.false_eq_true, if_false]
        rw [List.filter_eq_self.2, List.filter_eq_self.2]
        · intro k hk; simp only [bne_iff_ne]; rintro rfl; exact hn2.1 hk
        · intro k hk; simp only [bne_iff_ne]; rintro rfl; exact hn.2.2 k hk k (List.mem_cons_self ..) rfl
      have hd' : Down l.toArray (listed.setIfInBounds i true) := by
        intro k ok hk hok e he hb
        have up : listed.getD e.on false = true → (listed.setIfInBounds i true).getD e.on false = true := by
          intro q
          rw [Array.getD_eq_getD_getElem?] at q ⊢
          rw [Array.getElem?_setIfInBounds]
          by_cases hk : i = e.on
          · subst hk; simp [his]
          · simpa [hk] using q
        by_cases hki : k = i
        · subst hki
          rw [ho] at hok; cases hok
          exact up (h3 e he hb)
        · refine up (hd k ok ?_ hok e he hb)
          rw [Array.getD_eq_getD_getElem?] at hk ⊢
          rw [Array.getElem?_setIfInBounds, if_neg (Ne.symm hki)] at hk
          exact hk
      have hlen : fuel = (r1 ++ r2).length := by
        have := congrArg List.length hsplit
        simp at this hf ⊢; omega
      have step : ∀ K' M' a' w', DX E l.toArray eff S Q (r1 ++ r2) K' M' a' → In E.w0 E.F K' (S ++ M') w' → wpAny E.P .any l.toArray Q fuel (listed.setIfInBounds i true) a' w' :=
        fun K' M' a' w' hdx j' => ih _ (r1 ++ r2) K' M' a' w' (by simp [hsz]) hr' hlen hd' hdx j'
      unfold wpOp
      simp only [ho]
      unfold DX at hfront
      simp only [ho] at hfront
      by_cases hw : Region.wanted o (yielded l.toArray a.tmps) = true
      · simp only [hw, if_true] at hfront ⊢
        by_cases he : eff.contains i = true
        · simp only [he, if_true] at hfront
          exact .inl ((hfront w j).wp fun u w' ⟨K', M', le, j', hr⟩ => step K' M' _ w' hr j')
        · simp only [he, if_false, Bool.false_eq_true] at hfront
          obtain ⟨v, hv, hr⟩ := hfront
          refine .inl ?_
          unfold Oper.wp
          rw [hv K M w (Hl.le_refl _) j]
          exact step K M _ w hr j
      · simp only [hw, if_false, Bool.false_eq_true] at hfront ⊢
        exact step K M _ w hfront j

/-- THE RULE: a region that draws its order is walked in the order 'ord'. -/
theorem draw_sound {E : Env} {l : List Oper} {eff anc ord : List Nat} {S M : List Asn} {Q : Post} {id : Nat} {K : Hl} {a : Act} {w : World} (hm : E.P.follows .mixedOrders = true) (hok : ordOk l eff anc ord = true)
    (h : DX E l.toArray eff S Q ord K M a) (j : In E.w0 E.F K (S ++ M) w) : (Code.region id l.toArray true).wp E.P Q a w := by
  simp only [ordOk, Bool.and_eq_true, List.all_eq_true] at hok
  obtain ⟨⟨⟨⟨hA, hP⟩, hcov⟩, hin⟩, hle⟩ := hok
  refine wp_region_any hm ?_
  have hfil : ord.filter (fun i => !(Array.replicate l.toArray.size false).getD i true) = ord := by
    refine List.filter_eq_self.2 fun i hi => ?_
    have : i < l.length := by have := hin i hi; simp [Nat.blt] at this; omega
    rw [Array.getD_eq_getD_getElem?]
    simp [this]
  have hlen : ord.length = l.toArray.size := by simpa using Nat.eq_of_beq_eq_true hle
  refine wpAny_of_dx (E := E) (eff := eff) (anc := anc) (ord := ord) (S := S) hA hP (fun i hi => by have := hcov i (List.mem_range.2 hi); simpa using this) (fun i hi => by have := hin i hi; simp [Nat.blt] at this; omega) l.toArray.size _ ord K M a _ (by simp) hfil.symm hlen.symm ?_ h (j.drew _)
  intro k ok hk hok
  rw [Array.getD_eq_getD_getElem?] at hk
  have : k < l.toArray.size := by
    rcases Nat.lt_or_ge k l.toArray.size with h | h
    · exact h
    · rw [Array.getElem?_eq_none h] at hok; cases hok
  simp at this
  simp [this] at hk


/-! ## The rules, over frames -/

theorem In.weaken {w0 w : World} {F K K' : Hl} {L : List Asn} (le : K.le K') (i : In w0 F K' L w) : In w0 F K L w := by
  obtain ⟨h, hs, d1, d2, d3, l1, l2, l3⟩ := i.rep
  have sub : ∀ x, K' x = none → K x = none := by
    intro x hx
    cases e : K x with
    | none => rfl
    | some o => rw [le x o e] at hx; cases hx
  exact ⟨i.os, i.tape, i.output, i.size, h, hs, fun x => (d1 x).imp_right (sub x), d2, fun x => (d3 x).imp_left (sub x), l1, Hl.le_trans le l2, l3⟩
theorem In.left {w0 w : World} {F K : Hl} {S M : List Asn} (i : In w0 F K (S ++ M) w) : In w0 F K S w := by
  obtain ⟨h, hs, d1, d2, d3, l1, l2, l3⟩ := i.rep
  obtain ⟨a, n, ha, hn, han, rfl⟩ := sat_append.1 hs
  exact ⟨i.os, i.tape, i.output, i.size, a, ha, d1, (Hl.dj_join.1 d2).1, (Hl.dj_join.1 d3).1, l1, l2, Hl.le_join_left l3⟩

def DL (E : Env) (ops : Array Oper) (eff : List Nat) (S : List Asn) (r : List Nat) (fr : Fr) (K : Hl) (M : List Asn) (Q : Post) : Prop :=
  ∀ a, FrOk E.n E.ds fr a → DX E ops eff S Q r K M a

/-- Is the operation's guard met? -/
inductive GOk (ops : Array Oper) (fr : Fr) (o : Oper) : Bool → Prop where
  | none : o.guard = .none → GOk ops fr o true
  | on {g dg : Nat} {c : Bool} : o.guard = some (g, c) → (ops[g]?).bind (·.dst) = some dg → fr.get dg = some (.bool c) → GOk ops fr o true
  | off {g dg : Nat} {c : Bool} : o.guard = some (g, c) → (ops[g]?).bind (·.dst) = some dg → fr.get dg = some (.bool (!c)) → GOk ops fr o false
  | offu {g dg : Nat} {c : Bool} : o.guard = some (g, c) → (ops[g]?).bind (·.dst) = some dg → fr.get dg = some undef → GOk ops fr o false
theorem GOk.wanted {ops : Array Oper} {fr : Fr} {o : Oper} {b : Bool} (h : GOk ops fr o b) {n : Nat} {ds : List Deferred} {a : Act} (f : FrOk n ds fr a) : Region.wanted o (yielded ops a.tmps) = b := by
  cases h with
  | none h => simp [Region.wanted, h]
  | on h1 h2 h3 => simp [Region.wanted, h1, yielded, h2, f.get _ _ h3]
  | off h1 h2 h3 => simp [Region.wanted, h1, yielded, h2, f.get _ _ h3]
  | offu h1 h2 h3 => simp [Region.wanted, h1, yielded, h2, f.get _ _ h3, undef]

section
variable {E : Env} {ops : Array Oper} {eff : List Nat} {S : List Asn} {r : List Nat} {fr : Fr} {K : Hl} {M L : List Asn} {Q : Post} {i : Nat} {o : Oper}

theorem t_draw {l : List Oper} {anc ord : List Nat} {id : Nat} (eff : List Nat) (hm : E.P.follows .mixedOrders = true) (hok : ordOk l eff anc ord = true) (hL : Tks S L M)
    (h : DL E l.toArray eff S ord fr K M Q) : T E (.region id l.toArray true) fr K L Q :=
  fun a w f j => draw_sound hm hok (h a f) (j.imp hL.sat)
theorem dl_nil (h : D E .normal fr K (S ++ M) Q) : DL E ops eff S [] fr K M Q := fun a f w j => h a w f j
theorem dl_ev {d : Nat} {v : Value} (ho : ops[i]? = some o) (hd : o.dst = some d) (hg : GOk ops fr o true) (he : eff.contains i = false) (hv : Ev E fr K S o v) (hn : Nat.blt d E.n = true)
    (h : DL E ops eff S r ((d, v) :: fr) K M Q) : DL E ops eff S (i :: r) fr K M Q := by
  intro a f
  unfold DX
  simp only [ho, hg.wanted f, if_true, he, Bool.false_eq_true, if_false]
  refine ⟨v, fun K' M' w le j => hv a w f (j.left.weaken le), ?_⟩
  rw [hd]; exact h _ (f.put hn v)
theorem dl_off {d : Nat} (ho : ops[i]? = some o) (hd : o.dst = some d) (hg : GOk ops fr o false) (hn : Nat.blt d E.n = true) (h : DL E ops eff S r ((d, undef) :: fr) K M Q) : DL E ops eff S (i :: r) fr K M Q := by
  intro a f
  unfold DX
  simp only [ho, hg.wanted f, Bool.false_eq_true, if_false]
  rw [hd]; exact h _ (f.put hn undef)
/-- An act: it may look at what is read in the region, and must leave that. -/
theorem dl_s {d : Nat} {N : Value → Hl → List Asn → Prop} (ho : ops[i]? = some o) (hd : o.dst = some d) (hg : GOk ops fr o true) (he : eff.contains i = true) (hv : EfS E fr K (S ++ M) o N) (hn : Nat.blt d E.n = true)
    (h : ∀ v K' L', N v K' L' → K.le K' → ∃ M', (∀ x, Sat L' x → Sat (S ++ M') x) ∧ DL E ops eff S r ((d, v) :: fr) K' M' Q) : DL E ops eff S (i :: r) fr K M Q := by
  intro a f
  unfold DX
  simp only [ho, hg.wanted f, if_true, he]
  intro w j
  obtain ⟨u, w', K', L', hr, hN, le, j'⟩ := hv a w f j
  obtain ⟨M', hM, hD⟩ := h u K' L' hN le
  rcases hr with hr | ⟨hr, rfl⟩
  · exact .inl ⟨u, w', hr, K', M', le, j'.imp hM, by rw [hd]; exact hD _ (f.put hn u)⟩
  · exact .inr (.inl ⟨w', hr, K', M', le, j'.imp hM, by rw [hd]; exact hD _ (f.put hn undef)⟩)
theorem dl_s_ {N : Value → Hl → List Asn → Prop} (ho : ops[i]? = some o) (hd : o.dst = none) (hg : GOk ops fr o true) (he : eff.contains i = true) (hv : EfS E fr K (S ++ M) o N)
    (h : ∀ v K' L', N v K' L' → K.le K' → ∃ M', (∀ x, Sat L' x → Sat (S ++ M') x) ∧ DL E ops eff S r fr K' M' Q) : DL E ops eff S (i :: r) fr K M Q := by
  intro a f
  unfold DX
  simp only [ho, hg.wanted f, if_true, he]
  intro w j
  obtain ⟨u, w', K', L', hr, hN, le, j'⟩ := hv a w f j
  obtain ⟨M', hM, hD⟩ := h u K' L' hN le
  rcases hr with hr | ⟨hr, rfl⟩
  · exact .inl ⟨u, w', hr, K', M', le, j'.imp hM, by rw [hd]; exact hD _ f⟩
  · exact .inr (.inl ⟨w', hr, K', M', le, j'.imp hM, by rw [hd]; exact hD _ f⟩)
theorem dl_callp {d : Nat} {ty : TypeId} {pos : String} {aft : Array Edge} {g : Option (Nat × Bool)} {fv : Operand} {xs : List Operand} {ats : Array TypeId} {f : FuncId} {caps : Array Value} {vs : List Value} {L1 L2 : List Asn} {R : Ending → Hl → List Asn → Prop}
    (ho : ops[i]? = some ⟨some d, .call ⟨.value fv, xs.toArray, ats⟩, ty, pos, aft, g⟩) (hg : GOk ops fr ⟨some d, .call ⟨.value fv, xs.toArray, ats⟩, ty, pos, aft, g⟩ true) (he : eff.contains i = true)
    (hf : fr.ev fv = some (.func (.func f) #[] caps)) (hx : fr.evs xs = some vs) (hs : Sp E.P f (vs ++ caps.toList) K L1 R) (hL : Tks L1 (S ++ M) L2) (hn : Nat.blt d E.n = true)
    (hout : ∀ K' L', ¬ R .outgrown K' L')
    (hpan : ∀ ch K' L', R (.panicked ch) K' L' → K.le K' → ∀ a w, a.defers = E.ds → In E.w0 E.F K' (L' ++ L2) w → Q (.panic ch) a w)
    (h : ∀ v K' L', R (.returned v) K' L' → K.le K' → ∃ M', (∀ x, Sat (L' ++ L2) x → Sat (S ++ M') x) ∧ DL E ops eff S r ((d, v) :: fr) K' M' Q) : DL E ops eff S (i :: r) fr K M Q := by
  intro a fo
  unfold DX
  simp only [ho, hg.wanted fo, if_true, he]
  intro w j
  obtain ⟨F', i1, back⟩ := (j.imp hL.sat).hide
  refine .inr (.inr ⟨f, _, w, call_run hf hx hs fo w, (hs.2 F' w i1).mono fun e w' ⟨K', L', q, le, j'⟩ => ?_⟩)
  cases e with
  | returned v =>
    obtain ⟨M', hM, hD⟩ := h v K' L' q le
    exact ⟨K', M', le, (back j').imp hM, hD _ (fo.put hn v)⟩
  | panicked ch => exact fun a' ha' => hpan ch K' L' q le a' w' (ha'.trans fo.defers) (back j')
  | outgrown => exact absurd q (hout _ _)
theorem dl_call {d : Nat} {ty : TypeId} {pos : String} {aft : Array Edge} {g : Option (Nat × Bool)} {fv : Operand} {xs : List Operand} {ats : Array TypeId} {f : FuncId} {caps : Array Value} {vs : List Value} {L1 L2 : List Asn} {N : Value → Hl → List Asn → Prop}
    (ho : ops[i]? = some ⟨some d, .call ⟨.value fv, xs.toArray, ats⟩, ty, pos, aft, g⟩) (hg : GOk ops fr ⟨some d, .call ⟨.value fv, xs.toArray, ats⟩, ty, pos, aft, g⟩ true) (he : eff.contains i = true)
    (hf : fr.ev fv = some (.func (.func f) #[] caps)) (hx : fr.evs xs = some vs) (hs : Sp E.P f (vs ++ caps.toList) K L1 (Ret N)) (hL : Tks L1 (S ++ M) L2) (hn : Nat.blt d E.n = true)
    (h : ∀ v K' L', N v K' L' → K.le K' → ∃ M', (∀ x, Sat (L' ++ L2) x → Sat (S ++ M') x) ∧ DL E ops eff S r ((d, v) :: fr) K' M' Q) : DL E ops eff S (i :: r) fr K M Q :=
  dl_callp ho hg he hf hx hs hL hn (fun K' L' ⟨u, e, n⟩ => by cases e) (fun ch K' L' ⟨u, e, n⟩ => by cases e) (fun v K' L' ⟨u, e, n⟩ le => by cases e; exact h v K' L' n le)
theorem dl_split (d : Nat) {b : Bool} (e : fr.get d = some (.bool b)) (ht : b = true → DL E ops eff S r ((d, .bool true) :: fr) K M Q) (hf : b = false → DL E ops eff S r ((d, .bool false) :: fr) K M Q) : DL E ops eff S r fr K M Q := by
  intro a f
  have key : ∀ c, b = c → FrOk E.n E.ds ((d, .bool c) :: fr) a := fun c hc => ⟨f.defers, f.size, fun k v h => by
    simp only [Fr.get] at h
    by_cases hk : d = k
    · subst hk; simp at h; subst h; rw [← hc]; exact f.get _ _ e
    · rw [beqF hk] at h; exact f.get _ _ h⟩
  cases b
  · exact hf rfl a (key _ rfl)
  · exact ht rfl a (key _ rfl)
theorem dl_splitp (d : Nat) {p : Prop} [Decidable p] (e : fr.get d = some (.bool (decide p))) (ht : p → DL E ops eff S r ((d, .bool true) :: fr) K M Q) (hf : ¬ p → DL E ops eff S r ((d, .bool false) :: fr) K M Q) : DL E ops eff S r fr K M Q :=
  dl_split d e (fun h => ht (of_decide_eq_true h)) (fun h => hf (of_decide_eq_false h))
end
end Go.SL

/-
  From a function's contract to the row's own words: what was there before the call stands. Nothing of a program stands here. Conditions: none.
-/
import Derived.Test.YthopmddkpdehiaaSLDraw
import Derived.Below
namespace Go.SL
theorem In.start (w : World) : In w .emp (hp w) [] w :=
  ⟨rfl, rfl, rfl, Nat.le_refl _, .emp, rfl, (Hl.dj_emp _).symm, Hl.dj_emp _, Hl.dj_emp _, (fun _ _ e => by cases e), Hl.le_refl _, (fun _ _ e => by cases e)⟩
theorem In.below {w w' : World} {K' : Hl} {L : List Asn} (le : (hp w).le K') (i : In w .emp K' L w') : RowKit.Below w.heap.size w w' := by
  refine ⟨i.os, i.tape, i.output, i.size, fun k hk => ?_⟩
  have h := le k w.heap[k] (by simp [hp, hk])
  rw [i.known h]; simp [hk]
/-- A contract over all that is there: nothing of it turns. -/
theorem calls_of_spec {P : Program} {f : FuncId} {args : List Value} {w : World} {v : Value} (h : Sp P f args (hp w) [] (Ret fun u _ _ => u = v)) :
    Calls P f args.toArray w fun e w' => e = .returned v ∧ RowKit.Below w.heap.size w w' :=
  (h.2 .emp w (In.start w)).mono fun _ _ ⟨_, _, ⟨u, he, hu⟩, le, j⟩ => ⟨by rw [he, hu], j.below le⟩
theorem ret_of_val {P : Program} {f : FuncId} {args : List Value} {K : Hl} {v : Value} (h : Sp P f args K [] (Val v K)) : Sp P f args K [] (Ret fun u _ _ => u = v) :=
  h.mono fun _ _ _ ⟨e, _, _⟩ => ⟨v, e, rfl⟩
end Go.SL

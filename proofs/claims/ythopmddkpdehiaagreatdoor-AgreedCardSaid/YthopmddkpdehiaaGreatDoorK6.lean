/-
  What the proof stands on, part 6: the logic of walks, the walks through the functions, the plain laws. Conditions: as each theorem says. (Merged and shortened by a program.)
-/
import Derived.KernelRfl
import Derived.Test.YthopmddkpdehiaaGreatDoorRows
import Derived.Lib.LaidTab
import Derived.LaidMore
import Derived.LaidHandle
import Derived.HandedShaped
import Derived.Shelf.Vars
import Derived.Stop.LaidErr
import Derived.OpenShut
import Derived.Below
import Derived.Test.YthopmddkpdehiaaGreatDoorK1
import Derived.Test.YthopmddkpdehiaaGreatDoorK2
import Derived.Test.YthopmddkpdehiaaGreatDoorK3
import Derived.Test.YthopmddkpdehiaaGreatDoorK4
import Derived.Test.YthopmddkpdehiaaGreatDoorK5
set_option linter.unusedVariables false
set_option linter.unusedSimpArgs false
section
namespace Go.Proofs
open Go Go.SL Go.Extern
theorem aEJ {E : Env} {x : Exit} {fr : Fr} {K : Hl} {L : List Asn} {A : Asn} {Q : Post} (h : D E x fr K L Q) : D E x fr K (A :: L) Q := fun a w f i => h a w f i.drop
theorem is30 (e : Int) (K : Hl) : Sp Tryz.prog 98 [.iface 30 (i64 e), .iface 30 (i64 e), .bool true] K [] (Val (.bool true) K) := by
 refine bA Tryz.func98 rfl Tryz.ntmps98 rfl rfl fun F w => ?_
 refine aI (aB ?_);refine aA (aF rfl) rfl ?_;refine aG (aE ?_);refine bC ?_;refine dS (fun (u : Unit) => True) (fun u => [(0, .iface 30 (i64 e)), (1, .iface 30 (i64 e)), (2, .bool true)]) (fun _ => K) (fun _ => []) (fun u => 0) () trivial (.cons 0 rfl (.cons 1 rfl (.cons 2 rfl .nil))) rfl (fun _ h => h) ?_;intro u _;refine bC (aI ?_);refine aI (aB ?_);refine aA (aC rfl) rfl ?_;refine aA (aC rfl) rfl ?_;refine aV rfl rfl ?_;refine aA (aC rfl) rfl ?_;refine aV rfl rfl ?_;refine aA (aC rfl) rfl ?_;refine aV rfl rfl ?_;refine aA (sH rfl rfl (fun _ => rfl) (fun w => eq30 e w)) rfl ?_;refine aA (bJ rfl rfl) rfl ?_;refine aG (aE ?_);refine eK rfl ?_;refine aI (aB ?_);refine aA (aF rfl) rfl ?_;refine aG (aE ?_);refine bM ?_;refine bF ?_;refine bR ?_;refine bF ?_;refine bR ?_;refine bL rfl rfl (Hl.le_refl _) ?_;exact ⟨rfl, rfl, rfl⟩
theorem aIC (fb : Nat) (e at_ : Int) (K : Hl) (L : List Asn) (hs : Sees K L fb (aU [i64 e, i64 at_] 123)) : Sp Tryz.prog 56 [.iface 118 (ptr fb), .iface 30 (i64 e)] K L (Ret fun v K' L' => v = .bool true ∧ K' = K ∧ L' = L) := by
 refine bA Tryz.func56 rfl Tryz.ntmps56 rfl rfl fun F w => ?_
 refine aI (aB ?_);refine aA (aF rfl) rfl ?_;refine aG (aE ?_);refine aI (aI ?_);refine aB ?_;refine aA (aC rfl) rfl ?_;refine aA (eO Tryz.underlying79 rfl rfl) rfl ?_;refine aA (aC rfl) rfl ?_;refine aV rfl rfl ?_;refine aA (aC rfl) rfl ?_;refine aV rfl rfl ?_;refine aA (eO Tryz.underlying79 rfl rfl) rfl ?_;refine aA (bB rfl rfl) rfl ?_;refine aG (aE ?_);refine cO rfl ?_;refine aX ?_;refine aE (aI ?_);refine aB ?_;refine aA (aC rfl) rfl ?_;refine aA (jS rfl rfl Tryz.func97 o5 o6 o7 o8 (fun w _ => r7 _ w)) rfl ?_;refine aA (dX rfl rfl (mZ _) Tryz.func415 aK8 aK9 aLA aLB (fun w _ => rD w)) rfl ?_;refine aA (aF rfl) rfl ?_;refine aG (aE ?_);refine aI (aB ?_);refine aA (aC rfl) rfl ?_;refine aA (aC rfl) rfl ?_;refine aA (aC rfl) rfl ?_;refine bD rfl rfl (aPE fb e at_ _ L hs) (cT _) rfl ?_;rintro _ K _ ⟨rfl, rfl, rfl⟩ -;rw [List.append_nil];refine aA (aF rfl) rfl ?_;refine aG (aE ?_);refine bM ?_;refine bL rfl rfl (Hl.le_refl _) ?_;exact ⟨_, rfl, rfl, rfl, rfl⟩
theorem aLI (e : Int) (K : Hl) : Sp Tryz.prog 56 [.iface 30 (i64 e), .iface 30 (i64 e)] K [] (Val (.bool true) K) := by
 refine bA Tryz.func56 rfl Tryz.ntmps56 rfl rfl fun F w => ?_
 refine aI (aB ?_);refine aA (aF rfl) rfl ?_;refine aG (aE ?_);refine aI (aI ?_);refine aB ?_;refine aA (aC rfl) rfl ?_;refine aA (eO Tryz.underlying79 rfl rfl) rfl ?_;refine aA (aC rfl) rfl ?_;refine aV rfl rfl ?_;refine aA (aC rfl) rfl ?_;refine aV rfl rfl ?_;refine aA (eO Tryz.underlying79 rfl rfl) rfl ?_;refine aA (bB rfl rfl) rfl ?_;refine aG (aE ?_);refine cO rfl ?_;refine aX ?_;refine aE (aI ?_);refine aB ?_;refine aA (aC rfl) rfl ?_;refine aA (jS rfl rfl Tryz.func97 o5 o6 o7 o8 (fun w _ => r7 _ w)) rfl ?_;refine aA (dX rfl rfl (mZ _) Tryz.func415 aK8 aK9 aLA aLB (fun w _ => rD w)) rfl ?_;refine aA (aF rfl) rfl ?_;refine aG (aE ?_);refine aI (aB ?_);refine aA (aC rfl) rfl ?_;refine aA (aC rfl) rfl ?_;refine aA (aC rfl) rfl ?_;refine cG rfl rfl (is30 e _) rfl ?_;refine aA (aF rfl) rfl ?_;refine aG (aE ?_);refine bM ?_;refine bL rfl rfl (Hl.le_refl _) ?_;exact ⟨rfl, rfl, rfl⟩
theorem vZ (K : Hl) : Sp Tryz.prog 37 [.nilIface] K [] (Val (.tuple #[i64 0, i64 (-1)]) K) := by
 refine bA Tryz.func37 rfl Tryz.ntmps37 rfl rfl fun F w => ?_
 refine aI (aB ?_);refine aA (aF rfl) rfl ?_;refine aA (aF rfl) rfl ?_;refine aG (aE ?_);refine aI (aB ?_);refine ol_s (cL aK3) rfl ?_;rintro _ K _ ⟨b4, rfl, rfl, rfl⟩ -;refine aG (aE ?_);refine aI (aB ?_);refine ol_s (cL tz30) rfl ?_;rintro _ K _ ⟨b5, rfl, rfl, rfl⟩ -;refine aG (aE ?_);refine aI (bC ?_);refine aI (aB ?_);refine aA (aC rfl) rfl ?_;refine aA (uU Tryz.underlying79 rfl) rfl ?_;refine aA (aF rfl) rfl ?_;refine aG (aE ?_);refine eK rfl ?_;refine aI (aB ?_);refine aA (aF rfl) rfl ?_;refine aA (aF rfl) rfl ?_;refine aG (aE ?_);refine bM ?_;refine bR ?_;refine bF ?_;refine aN .nil ?_;refine jR rfl rfl rfl (Hl.le_refl _) ?_;exact ⟨rfl, rfl, rfl⟩
theorem zU (fb : Nat) (e at_ : Int) (K : Hl) (L : List Asn) (hE : ErrT K) (hs : Sees K L fb (aU [i64 e, i64 at_] 123)) : Sp Tryz.prog 37 [.iface 118 (ptr fb)] K L (Ret fun v K' L' => v = .tuple #[i64 e, i64 at_] ∧ K' = K ∧ L' = L) := by
 have hsA : ∀ A : Asn, Sees K (A :: L) fb (aU [i64 e, i64 at_] 123) := fun A => sP hs
 refine bA Tryz.func37 rfl Tryz.ntmps37 rfl rfl fun F w => ?_
 refine aI (aB ?_);refine aA (aF rfl) rfl ?_;refine aA (aF rfl) rfl ?_;refine aG (aE ?_);refine aI (aB ?_);refine ol_s (cL aK3) rfl ?_;rintro _ K _ ⟨b4, rfl, rfl, rfl⟩ -;refine aG (aE ?_);refine aI (aB ?_);refine ol_s (cL tz30) rfl ?_;rintro _ K _ ⟨b5, rfl, rfl, rfl⟩ -;refine aG (aE ?_);refine aI (bC ?_);refine aI (aB ?_);refine aA (aC rfl) rfl ?_;refine aA (eO Tryz.underlying79 rfl rfl) rfl ?_;refine aA (aF rfl) rfl ?_;refine aG (aE ?_);refine cO rfl ?_;refine aI (aB ?_);refine aA (aC rfl) rfl ?_;refine aA (dA Tryz.underlying120 (fun _ h => by cases h) rfl) rfl ?_;refine bD rfl rfl (aPA fb b4 _ _ hE) (.cons (.there .here) .nil) rfl ?_;rintro _ K _ ⟨rfl, rfl, rfl⟩ -;have hs2 := sP (A := pt b4 (aU [ptr fb] 118)) (sP (A := pt b5 (aU [i64 0] 30)) hs);refine aA (aC rfl) rfl ?_;refine aV rfl rfl ?_;refine aA (aC rfl) rfl ?_;refine aV rfl rfl ?_;refine aA (aK aKW rfl aL rfl) rfl ?_;refine aV rfl rfl ?_;refine aA bS rfl ?_;refine aV rfl rfl ?_;refine aA (aD (o' := 0) sT rfl rfl) rfl ?_;refine aV rfl rfl ?_;refine aA (aK ts30 rfl hs2 rfl) rfl ?_;refine aV rfl rfl ?_;refine aA (dA Tryz.underlying30 (fun _ h => by cases h) rfl) rfl ?_;refine aV rfl rfl ?_;refine bD rfl rfl (aIC fb e at_ _ _ hs2) (cT _) rfl ?_;rintro _ K _ ⟨rfl, rfl, rfl⟩ -;rw [List.append_nil];refine aA (bJ rfl rfl) rfl ?_;refine aA (aF rfl) rfl ?_;refine aG (aE ?_);refine eK rfl ?_;refine aI ?_;refine t_draw (anc := [0, 1, 3, 7, 0, 16, 48, 112, 15, 511]) (ord := [0, 1, 2, 3, 4, 5, 6, 7, 8, 9]) [] [] mixed (by decide +kernel) (cT _) ?_;refine dl_ev rfl rfl (.none rfl) rfl rfl (aK aKW rfl aL rfl) rfl ?_;refine dl_ev rfl rfl (.none rfl) rfl rfl bS rfl ?_;refine dl_ev rfl rfl (.none rfl) rfl rfl (aD (o' := 0) sT rfl rfl) rfl ?_;refine dl_ev rfl rfl (.none rfl) rfl rfl (aK ts30 rfl hs2 rfl) rfl ?_;refine dl_ev rfl rfl (.none rfl) rfl rfl (aK aKW rfl aL rfl) rfl ?_;refine dl_ev rfl rfl (.none rfl) rfl rfl bS rfl ?_;refine dl_ev rfl rfl (.none rfl) rfl rfl (aD (o' := 1) aHQ rfl rfl) rfl ?_;refine dl_ev rfl rfl (.none rfl) rfl rfl (aK ts3 rfl hs2 rfl) rfl ?_;refine dl_ev rfl rfl (.none rfl) rfl rfl (aF rfl) rfl ?_;refine dl_ev rfl rfl (.none rfl) rfl rfl (aF rfl) rfl ?_;refine dl_nil ?_;refine aE ?_;refine bM ?_;refine bR ?_;refine bF ?_;refine aEJ (aEJ ?_)
 refine jR rfl rfl rfl (Hl.le_refl _) ?_;exact ⟨_, rfl, rfl, rfl, List.append_nil L⟩
theorem aO5 (e : Int) (K : Hl) (hE : ErrT K) : Sp Tryz.prog 37 [.iface 30 (i64 e)] K [] (Ret fun v K' L' => v = .tuple #[i64 e, i64 (-1)] ∧ K' = K ∧ L' = []) := by
 refine bA Tryz.func37 rfl Tryz.ntmps37 rfl rfl fun F w => ?_
 refine aI (aB ?_);refine aA (aF rfl) rfl ?_;refine aA (aF rfl) rfl ?_;refine aG (aE ?_);refine aI (aB ?_);refine ol_s (cL aK3) rfl ?_;rintro _ K _ ⟨b4, rfl, rfl, rfl⟩ -;refine aG (aE ?_);refine aI (aB ?_);refine ol_s (cL tz30) rfl ?_;rintro _ K _ ⟨b5, rfl, rfl, rfl⟩ -;refine aG (aE ?_);refine aI (bC ?_);refine aI (aB ?_);refine aA (aC rfl) rfl ?_;refine aA (eO Tryz.underlying79 rfl rfl) rfl ?_;refine aA (aF rfl) rfl ?_;refine aG (aE ?_);refine cO rfl ?_;refine aI (aB ?_);refine aA (aC rfl) rfl ?_;refine aA (dA Tryz.underlying120 (fun _ h => by cases h) rfl) rfl ?_;refine bD rfl rfl (aNY e b4 _ _ hE) (.cons (.there .here) .nil) rfl ?_;rintro _ K _ ⟨rfl, rfl, rfl⟩ -;refine aA (aC rfl) rfl ?_;refine aR rfl rfl rfl ?_;refine aR rfl rfl rfl ?_;refine aR rfl rfl rfl ?_;refine aR rfl rfl rfl ?_;refine aR rfl rfl rfl ?_;refine aR rfl rfl rfl ?_;refine aR rfl rfl rfl ?_;refine aA (bB rfl rfl) rfl ?_;refine aA (aF rfl) rfl ?_;refine aG (aE ?_);refine cO rfl ?_;refine aI (aB ?_);refine aA (aC rfl) rfl ?_;refine aA (dA Tryz.underlying124 (fun _ h => by cases h) rfl) rfl ?_;refine bD rfl rfl (as30 e b5 _ _ hE) (.cons (.there .here) .nil) rfl ?_;rintro _ K _ ⟨rfl, rfl, rfl⟩ -;refine aA (aC rfl) rfl ?_;refine aV rfl rfl ?_;refine aA (aC rfl) rfl ?_;refine aV rfl rfl ?_;refine aA (aK ts30 rfl aL rfl) rfl ?_;refine aV rfl rfl ?_;refine aA (dA Tryz.underlying30 (fun _ h => by cases h) rfl) rfl ?_;refine aV rfl rfl ?_;refine cG rfl rfl (aLI e _) rfl ?_;refine aA (bJ rfl rfl) rfl ?_;refine aA (aF rfl) rfl ?_;refine aG (aE ?_);refine eK rfl ?_;refine aI (aB ?_);refine aA (aK ts30 rfl aL rfl) rfl ?_;refine aA (aF rfl) rfl ?_;refine aA (aF rfl) rfl ?_;refine aG (aE ?_);refine bM ?_;refine bR ?_;refine bF ?_;refine aN .nil ?_;refine jR rfl rfl rfl (Hl.le_refl _) ?_;exact ⟨_, rfl, rfl, rfl, rfl⟩
end Go.Proofs
end
section
namespace Go.SL
def Hl.less (k h : Hl) : Hl := fun x => if (h x).isSome then none else k x
theorem Hl.less_le (k h : Hl) : (k.less h).le k := by
 intro x o e;unfold Hl.less at e;split at e
 ·cases e
 ·exact e
theorem Hl.less_dj (k h : Hl) : h.dj (k.less h) := by
 intro x;cases e : h x with
 | none => exact .inl rfl
 | some o => exact .inr (by simp [Hl.less, e])
theorem Hl.le_less {K K' h : Hl} (le : K.le K') (d : K.dj h) : K.le (K'.less h) := by
 intro x o e;unfold Hl.less;rcases d x with q | q
 ·rw [q] at e; cases e
 ·simp only [q, Option.isSome_none, Bool.false_eq_true, if_false]; exact le x o e
theorem Hl.le_join_l {a b : Hl} : a.le (a.join b) := fun x o e => by simp [Hl.join, e]
theorem Hl.le_join_r {a b : Hl} (d : a.dj b) : b.le (a.join b) := fun x o e => by
 rcases d x with q | q
 ·simp [Hl.join, q, e]
 ·rw [q] at e; cases e
theorem In.freeze {w0 w : World} {F K : Hl} {L1 L : List Asn} (i : In w0 F K (L1 ++ L) w) : ∃ h, Sat L1 h ∧ K.dj h ∧ In w0 F (K.join h) L w := by
 obtain ⟨x, hs, d1, d2, d3, l1, l2, l3⟩ := i.rep;obtain ⟨a, n, ha, hn, han, rfl⟩ := eC.1 hs;have hd2 := Hl.dj_join.1 d2;have hd3 := Hl.dj_join.1 d3;exact ⟨a, ha, hd3.1, i.os, i.tape, i.output, i.size, n, hn, Hl.dj_join.2 ⟨d1, hd2.1⟩, hd2.2, Hl.join_dj.2 ⟨hd3.2, han⟩, l1, Hl.join_le l2 (Hl.le_join_left l3), Hl.le_join_right han l3⟩
theorem In.thaw {w0 w : World} {F K' h : Hl} {L1 L : List Asn} (i : In w0 F K' L w) (hs1 : Sat L1 h) (le : h.le K') : In w0 F (K'.less h) (L1 ++ L) w := by
 obtain ⟨x, hs, d1, d2, d3, l1, l2, l3⟩ := i.rep;have sub : ∀ y, K' y = none → h y = none := by
  intro y hy;cases e : h y with
  | none => rfl
  | some o => rw [le y o e] at hy; cases hy
 have hx : h.dj x := fun y => (d3 y).imp_left (sub y)
 have hF : F.dj h := fun y => (d1 y).imp_right (sub y)
 refine ⟨i.os, i.tape, i.output, i.size, h.join x, eC.2 ⟨h, x, hs1, hs, hx, rfl⟩, ?_, Hl.dj_join.2 ⟨hF, d2⟩, Hl.dj_join.2 ⟨(Hl.less_dj K' h).symm, ?_⟩, l1, Hl.le_trans (Hl.less_le _ _) l2, Hl.join_le (Hl.le_trans le l2) l3⟩
 ·intro y;rcases d1 y with q | q
  ·exact .inl q
  ·exact .inr (by unfold Hl.less; split <;> first | rfl | exact q)
 ·intro y;rcases d3 y with q | q
  ·exact .inl (by unfold Hl.less; split <;> first | rfl | exact q)
  ·exact .inr q
theorem aE4 {P : Program} {f : FuncId} {args : List Value} {K : Hl} {L1 L : List Asn} {R : Ending → List Asn → Prop} (hb : ∃ fn, P.funcs[f]? = some fn ∧ (fn.name == "runtime.NumGoroutine") = false ∧ fn.body.isSome = true)
  (h : ∀ h1, Sat L1 h1 → K.dj h1 → Sp P f args (K.join h1) L fun e _ L' => R e L') : Sp P f args K (L1 ++ L) fun e _ L' => ∃ L'', R e L'' ∧ L' = L1 ++ L'' :=
 ⟨hb, fun F w i => by
  obtain ⟨h1, hs, d, i1⟩ := i.freeze;exact ((h h1 hs d).2 F w i1).mono fun e w' ⟨K', L', r, le, j⟩ => ⟨K'.less h1, L1 ++ L', ⟨L', r, rfl⟩, Hl.le_less (Hl.le_trans Hl.le_join_l le) d, j.thaw hs (Hl.le_trans (Hl.le_join_r d) le)⟩⟩
theorem aOH {α : Type} {z : Bool} {k : El α} {v : Value} {xs : List α} {h : Hl} (hs : sl z k v xs h) : Ksl k h v xs := by
 rcases hs with ⟨rfl, rfl, rfl⟩ | ⟨b, cap, junk, fz, rfl, hz, hc, hj, hf, rfl⟩
 ·exact .inl ⟨none, 0, rfl, rfl⟩
 ·refine .inr ⟨b, 0, cap, k.cs xs ++ junk, fz, rfl, ⟨k.e, by simp [Hl.one]⟩, ?_⟩
  rw [List.drop_zero, ← k.cs_length, List.take_left]
theorem aKB {A : Asn} {L : List Asn} {h : Hl} (hh : Hs A L) (hs : Sat L h) : ∃ a, A a ∧ a.le h := by
 obtain ⟨M, hM⟩ := hh.split;obtain ⟨a, m, ha, hm, hd, rfl⟩ := hM h hs;exact ⟨a, ha, Hl.le_join_l⟩
theorem rK {α : Type} {z : Bool} {k : El α} {v : Value} {xs : List α} {L : List Asn} {h : Hl} (hh : Hs (sl z k v xs) L) (hs : Sat L h) : Ksl k h v xs := by
 obtain ⟨a, ha, le⟩ := aKB hh hs;exact (aOH ha).mono le
end Go.SL
end
section
namespace Go.SL
theorem aDT : ∀ {o : Nat} {l cs : List Value}, o + cs.length ≤ l.length → Spl l o cs (l.take o ++ cs ++ l.drop (o + cs.length))
 | 0, l, [], h => by simpa using Spl.nil
 | 0, a :: l, c :: cs, h => by
  have := aDT (o := 0) (l := l) (cs := cs) (by simp at h ⊢; omega);have e : (a :: l).take 0 ++ c :: cs ++ (a :: l).drop (0 + (c :: cs).length) = c :: (l.take 0 ++ cs ++ l.drop (0 + cs.length)) := by simp
  rw [e]; exact .cons this
 | 0, [], c :: cs, h => by simp at h
 | o + 1, a :: l, cs, h => by
  have := aDT (o := o) (l := l) (cs := cs) (by simp at h; omega);have e : (a :: l).take (o + 1) ++ cs ++ (a :: l).drop (o + 1 + cs.length) = a :: (l.take o ++ cs ++ l.drop (o + cs.length)) := by
   have : o + 1 + cs.length = (o + cs.length) + 1 := by omega
   rw [this]; simp
  rw [e]; exact .skip this
 | o + 1, [], cs, h => by simp at h
theorem aAL {α : Type} (k : El α) {y : α} : ∀ {xs : List α} {j : Nat} {r : List Value}, j < xs.length → (k.cs xs ++ r).take (j * k.sz) ++ k.enc y ++ (k.cs xs ++ r).drop (j * k.sz + (k.enc y).length) = k.cs (xs.set j y) ++ r
 | [], _, _, h => by simp at h
 | x :: xs, 0, r, h => by
  simp only [Nat.zero_mul, List.take_zero, List.nil_append, Nat.zero_add, List.set_cons_zero, El.cs, List.flatMap_cons, List.append_assoc];have : (k.enc y).length = (k.enc x).length := by rw [k.len, k.len]
  rw [this, List.drop_left]
 | x :: xs, j + 1, r, h => by
  have ih := aAL k (y := y) (xs := xs) (j := j) (r := r) (by simpa using h);have hx := k.len x;simp only [El.cs, List.set_cons_succ, List.flatMap_cons, List.append_assoc] at ih ⊢;have e1 : (j + 1) * k.sz = (k.enc x).length + j * k.sz := by rw [Nat.succ_mul, hx]; omega
  have e2 : (j + 1) * k.sz + (k.enc y).length = (k.enc x).length + (j * k.sz + (k.enc y).length) := by rw [e1]; omega
  rw [e1, List.take_append, List.take_of_length_le aH, show (k.enc x).length + j * k.sz - (k.enc x).length = j * k.sz by omega];rw [show (k.enc x).length + j * k.sz + (k.enc y).length = (k.enc x).length + (j * k.sz + (k.enc y).length) by omega, List.drop_append, List.drop_eq_nil_of_le aH, show (k.enc x).length + (j * k.sz + (k.enc y).length) - (k.enc x).length = j * k.sz + (k.enc y).length by omega];rw [List.nil_append, List.append_assoc, ih]
section
variable {E : Env} {fr : Fr} {K : Hl} {L L' : List Asn} {dst : Option Tmp} {ty : TypeId} {pos : String} {aft : Array Edge} {g : Option (Nat × Bool)} {x y : Operand} {t : TypeId} {α : Type} {k : El α} {v : Value} {xs : List α}
theorem nS {zf : Bool} {j : Nat} {y0 : α} (ht : aggB E.P t k.sz = true) (hx : fr.ev x = some (jH v (j * k.sz))) (hy : fr.ev y = some (.agg (k.enc y0).toArray)) (hj : j < xs.length)
  (hF : Fnd (sl zf k v xs) (sl zf k v (xs.set j y0)) L L') : EfS E fr K L ⟨dst, .store t x y, ty, pos, aft, g⟩ (fun _ K' L'' => K' = K ∧ L'' = L') := by
 intro a w f q;obtain ⟨M, m1, m2⟩ := hF.split;rcases (q.imp m1).slCases with ⟨rfl, rfl, _⟩ | ⟨b, cap, junk, fz, rfl, hz, hcap, hjk, hf, q0⟩
 ·simp at hj
 ·have hx' : fr.ev x = some (ptr b (j * k.sz)) := by rw [hx]; simp [jH, gJ]
  have hle : j * k.sz + k.sz ≤ xs.length * k.sz := by rw [← Nat.succ_mul]; exact Nat.mul_le_mul_right _ hj
  have hle2 : xs.length * k.sz ≤ cap * k.sz := Nat.mul_le_mul_right _ hcap;obtain ⟨u, w', K', L'', hr, ⟨rfl, rfl⟩, le, q1⟩ := cE (K := K) (dst := dst) (ty := ty) (pos := pos) (aft := aft) (g := g) (l := k.cs xs ++ junk) (u := k.e) (fz := fz) ht hx' hy (k.len y0) (.here (L := M)) (fun c hc => k.one y0 c hc) (aDT (by rw [List.length_append, k.cs_length, k.len]; omega)) (fun i hi => hf.at aH) a w f q0;refine ⟨u, w', _, _, hr, ⟨rfl, rfl⟩, le, q1.imp fun h hh => m2 h ?_⟩
  obtain ⟨aa, l, ha, hl, hd, he⟩ := hh;refine ⟨aa, l, ?_, hl, hd, he⟩
  rw [aAL k hj] at ha;refine .inr ⟨b, cap, junk, fz, by rw [List.length_set], ?_, by rw [List.length_set]; exact hcap, by rw [List.length_set]; exact hjk, hf, ha⟩
  intro h1 h2;exact hz h1 (by have := congrArg List.length h2; simp at this; exact List.length_eq_zero_iff.1 (by simpa using this))
end
end Go.SL
end
section
namespace Go.SL
section
variable {P : Program} {fn : Func} {n : Nat} {w0 : World} {F K0 K : Hl} {fr : Fr} {L : List Asn} {R : Ending → Hl → List Asn → Prop} {t1 t2 t3 t4 : Nat} {v1 v2 v3 v4 : Value}
theorem aDM (h : fn.results = #[.tmp t1, .tmp t2, .tmp t3]) (tmps : Array Value) (w : World) (e1 : tmps.getD t1 undef = v1) (e2 : tmps.getD t2 undef = v2) (e3 : tmps.getD t3 undef = v3) : (results fn tmps).run P w = .ok (.tuple #[v1, v2, v3]) w := by
 have e1 : tmps[t1]?.getD undef = v1 := by simpa using e1
 have e2 : tmps[t2]?.getD undef = v2 := by simpa using e2
 have e3 : tmps[t3]?.getD undef = v3 := by simpa using e3
 simp [results, h, e1, e2, e3, Sem.run_bind, Result.andThen]
theorem aDN (h : fn.results = #[.tmp t1, .tmp t2, .tmp t3, .tmp t4]) (tmps : Array Value) (w : World) (e1 : tmps.getD t1 undef = v1) (e2 : tmps.getD t2 undef = v2) (e3 : tmps.getD t3 undef = v3) (e4 : tmps.getD t4 undef = v4) : (results fn tmps).run P w = .ok (.tuple #[v1, v2, v3, v4]) w := by
 have e1 : tmps[t1]?.getD undef = v1 := by simpa using e1
 have e2 : tmps[t2]?.getD undef = v2 := by simpa using e2
 have e3 : tmps[t3]?.getD undef = v3 := by simpa using e3
 have e4 : tmps[t4]?.getD undef = v4 := by simpa using e4
 simp [results, h, e1, e2, e3, e4, Sem.run_bind, Result.andThen]
theorem oE (hr : fn.results = #[.tmp t1, .tmp t2, .tmp t3]) (h1 : fr.get t1 = some v1) (h2 : fr.get t2 = some v2) (h3 : fr.get t3 = some v3) (le : K0.le K) (h : R (.returned (.tuple #[v1, v2, v3])) K L) :
  D ⟨P, n, [], w0, F⟩ .ret fr K L (pW P fn w0 F K0 R) :=
 fun a w f i => ⟨f.defers, _, aDM hr _ _ (by simp [f.get _ _ h1]) (by simp [f.get _ _ h2]) (by simp [f.get _ _ h3]), K, L, h, le, i⟩
theorem aIO (hr : fn.results = #[.tmp t1, .tmp t2, .tmp t3, .tmp t4]) (h1 : fr.get t1 = some v1) (h2 : fr.get t2 = some v2) (h3 : fr.get t3 = some v3) (h4 : fr.get t4 = some v4) (le : K0.le K) (h : R (.returned (.tuple #[v1, v2, v3, v4])) K L) :
  D ⟨P, n, [], w0, F⟩ .ret fr K L (pW P fn w0 F K0 R) :=
 fun a w f i => ⟨f.defers, _, aDN hr _ _ (by simp [f.get _ _ h1]) (by simp [f.get _ _ h2]) (by simp [f.get _ _ h3]) (by simp [f.get _ _ h4]), K, L, h, le, i⟩
end
theorem aCQ {E : Env} {x : Exit} {fr : Fr} {K : Hl} {L M : List Asn} {Q : Post} (h : D E x fr K L Q) : D E x fr K (L ++ M) Q := fun a w f i => h a w f i.left
theorem kN {α : Type} {z : Bool} {k : El α} {v : Value} {xs : List α} {L : List Asn} : ∀ h, Sat (sl z k v xs :: L) h → ∃ a n c, v = .slice a n c := by
 rintro h ⟨a, l, ha, _⟩;rcases ha with ⟨rfl, _⟩ | ⟨b, cap, junk, fz, rfl, _⟩ <;> exact ⟨_, _, _, rfl⟩
end Go.SL
end
section
namespace Go.Syn
open Go.Mach
def preV : aO := [114, 101, 113, 117, 105, 114, 101, 32, 34, 118, 97, 114, 105, 97, 98, 108, 101, 115, 34, 59]
theorem aOL (s : aO) : next (preV ++ s) 0 = .ok (7, ⟨1, nC, 0, 0⟩) := by kernel_rfl
theorem aOM (s : aO) : next (preV ++ s) 7 = .ok (19, ⟨3, dP, 0, 8⟩) := by kernel_rfl
def t1 : aO := [105, 102, 32, 104, 101, 97, 100, 101, 114, 32, 34, 83, 117, 98, 106, 101, 99, 116, 34, 32, 34, 120, 34, 32, 123, 32, 100, 105, 115, 99, 97, 114, 100, 59, 32, 125, 32, 101, 108, 115, 101, 32, 123, 32, 107, 101, 101, 112, 59, 32, 125]
def t2 : aO := [105, 102, 32, 104, 101, 97, 100, 101, 114, 32, 58, 99, 111, 109, 112, 97, 114, 97, 116, 111, 114, 32, 34, 105, 59, 111, 99, 116, 101, 116, 34, 32, 34, 83, 117, 98, 106, 101, 99, 116, 34, 32, 34, 120, 34, 32, 123, 32, 100, 105, 115, 99, 97, 114, 100, 59, 32, 125, 32, 101, 108, 115, 101, 32, 123, 32, 114, 101, 100, 105, 114, 101, 99, 116, 32, 34, 97, 64, 98, 34, 59, 32, 125]
def tb : aO := [107, 101, 101, 112, 59, 32, 105, 102, 32, 123, 32, 125]
def m1 : Msg := ⟨[], [], 0, [([115, 117, 98, 106, 101, 99, 116], [88])]⟩
def pc (s : aO) : Int × Int := if 600 < s.length then (1, -1) else match e8 s with | .ok _ => (0, -1) | .error e => e
def sayC (r : List aO × Tree) (m : Msg) : Out := Mach.run (decide (dP ∈ r.1)) (Cmp.script r.2) m
def te : Option (Int × Int) → Int × Int
 | none => (0, -1)
 | some e => e
def rn (s : aO) (m : Msg) : List gM × Int × Bool :=
 if 600 < s.length then ([], 1, false)
 else match e8 s with
  | .error e => ([], e.1, false)
  | .ok r => ((sayC r m).acts, (te (sayC r m).err).1, true)
def okB {α : Type} (r : Res α) : Bool := match r with | .ok _ => true | .error _ => false
theorem aPX : okB (e8 t1) = true := by kernel_rfl
theorem aPP : pc t1 = (0, -1) := by kernel_rfl
theorem aPQ : pc tb = (4, 9) := by kernel_rfl
theorem aPS : rn t1 m1 = ([], 0, true) := by kernel_rfl
theorem aPT : rn t2 m1 = ([(3, [97, 64, 98])], 0, true) := by kernel_rfl
def aAK : List Ins := [⟨1, 1, 0, false, [], [], 0⟩, ⟨4, 1, 0, false, [], [], 0⟩, ⟨14, 0, 0, false, [], [], 0⟩, ⟨13, 0, 0, false, [], [], 0⟩]
theorem aG1 (m : Msg) : Mach.run false aAK m = ⟨[], 3, none⟩ := by kernel_rfl
theorem aH8 {ns : List aO} {x e : aO} (h : x ∈ ns) : x ∈ addN ns e := by
 unfold addN; split
 ·exact h
 ·exact List.mem_append_left _ h
theorem q7 {x : aO} : ∀ {l ns : List aO}, x ∈ ns → x ∈ gN ns l
 | [], _, h => h
 | e :: l, ns, h => by
  have := q7 (l := l) (aH8 (e := e) h);exact this
theorem aBN {s x : aO} : ∀ (f : Nat) (ns : List aO) (st : St) (r : List aO × St), x ∈ ns → reqF s f ns st = .ok r → x ∈ r.1
 | 0, _, _, _, _, h => by cases h
 | f + 1, ns, st, r, hx, h => by
  unfold reqF at h;split at h
  ·split at h
   ·cases h
   split at h
   ·cases h
   split at h
   ·cases h
   exact aBN f _ _ _ (q7 hx) h
  ·cases h; exact hx
theorem aPJ (s : aO) : list (preV ++ s) (19, ⟨3, dP, 0, 8⟩) (oneOf 6 wC) = .ok ([dP], (20, ⟨5, [59], 0, 19⟩)) := by kernel_rfl
theorem aJV {s : aO} {r : List aO × Tree} (h : e8 (preV ++ s) = .ok r) : dP ∈ r.1 := by
 unfold e8 at h;rw [aOL] at h;simp only [] at h;unfold f3 at h;split at h
 ·cases h
 rename_i n hn;have hm : dP ∈ n.1 := by
  unfold reqF at hn;rw [if_pos ⟨rfl, rfl⟩, aOM] at hn;simp only [] at hn;rw [aPJ] at hn;simp only [] at hn;split at hn
  ·cases hn
  ·exact aBN _ _ _ _ (by decide) hn
 split at h
 ·cases h
 split at h
 ·cases h; exact hm
 ·cases h
end Go.Syn
end
section
namespace Go.Proofs
open Go Go.SL Go.Syn Go.Mach Go.Cmp
theorem ScriptAt.mono {K K' : Hl} {b : Nat} {needs : List (List UInt8)} {t : Tree} (h : ScriptAt K b needs t) (le : K.le K') : ScriptAt K' b needs t :=
 let ⟨l, nv, bv, ys, fz, h1, h2, h3, h4, h5, h6, h7⟩ := h.at_
 ⟨l, nv, bv, ys, fz, le _ _ h1, h2, h3, h4.mono le, h5.mono le, h6.mono le, h7⟩
def q5 (K : Hl) (b : Nat) (r : List aO × Tree) : Prop := ∃ tb cv vs fz, K b = some (aU [ptr tb 6, cv] 89 fz) ∧ ScriptAt K tb r.1 r.2 ∧ Ksl cW K cv vs ∧ RIs K vs (Cmp.script r.2)
theorem q5.mono {K K' : Hl} {b : Nat} {r : List aO × Tree} (h : q5 K b r) (le : K.le K') : q5 K' b r :=
 let ⟨tb, cv, vs, fz, h1, h2, h3, h4⟩ := h
 ⟨tb, cv, vs, fz, le _ _ h1, h2.mono le, h3.mono le, h4.mono le⟩
def aNV (s : aO) (x y : Value) (K : Hl) : Prop :=
 (600 < s.length ∧ x = .pointer none ∧ y = .iface 30 (i64 1)) ∨
 (s.length ≤ 600 ∧ ∃ b r, e8 s = .ok r ∧ x = ptr b ∧ y = .nilIface ∧ q5 K b r) ∨
 (s.length ≤ 600 ∧ ∃ fb e p, e8 s = .error (e, p) ∧ x = .pointer none ∧ y = .iface 118 (ptr fb) ∧ K fb = some (aU [i64 e, i64 p] 123))
theorem aA8 (s : aO) (K : Hl) (hg : Glob K) : Sp Tryz.prog 38 [str s] K [] (Ret fun v K' L' => ∃ x y, v = .tuple #[x, y] ∧ aNV s x y K' ∧ L' = []) := by
 refine bA Tryz.func38 rfl Tryz.ntmps38 rfl rfl fun F w => ?_
 refine aI (aB ?_);refine aA (aF rfl) rfl ?_;refine aA (aF rfl) rfl ?_;refine aG (aE ?_);refine aI (aB ?_);refine aA (aC rfl) rfl ?_;refine bD rfl rfl (aDK s _ hg) .nil rfl ?_;rintro v8 K1 _ ⟨hP, rfl⟩ le1;obtain ⟨x, y, rfl, hxy⟩ : ∃ x y, v8 = .tuple #[x, y] ∧ ((600 < s.length ∧ x = .pointer none ∧ y = .iface 30 (i64 1)) ∨ (s.length ≤ 600 ∧ ∃ b r, e8 s = .ok r ∧ x = ptr b 6 ∧ y = .nilIface ∧ ScriptAt K1 b r.1 r.2) ∨ (s.length ≤ 600 ∧ ∃ fb e p, e8 s = .error (e, p) ∧ x = .pointer none ∧ y = .iface 118 (ptr fb) ∧ K1 fb = some (aU [i64 e, i64 p] 123))) := (by rcases hP with ⟨h6, rfl⟩ | ⟨h6, ⟨b, r, hr, rfl, hat⟩ | ⟨fb, e, p, hr, rfl, hfb⟩⟩; exact ⟨_, _, rfl, .inl ⟨h6, rfl, rfl⟩⟩; exact ⟨_, _, rfl, .inr (.inl ⟨h6, b, r, hr, rfl, rfl, hat⟩)⟩; exact ⟨_, _, rfl, .inr (.inr ⟨h6, fb, e, p, hr, rfl, rfl, hfb⟩)⟩);refine aA (aC rfl) rfl ?_;refine aA (aP rfl rfl) rfl ?_;refine aA (aP rfl rfl) rfl ?_;refine aA (aF rfl) rfl ?_;refine aA (aF rfl) rfl ?_;refine aG (aE ?_);rcases hxy with ⟨h6, rfl, rfl⟩ | ⟨h6, b, r, hr, rfl, rfl, hat⟩ | ⟨h6, fb, e, p, hr, rfl, rfl, hfb⟩
 ·
  refine aI (aI ?_);refine aB ?_;refine aA (aC rfl) rfl ?_;refine aA (nO Tryz.underlying79 rfl rfl) rfl ?_;refine aG (aE ?_);refine eK rfl ?_;refine aI (aB ?_);refine aA (aC rfl) rfl ?_;refine aA (aF rfl) rfl ?_;refine aA (aF rfl) rfl ?_;refine aG (aE ?_);refine bM ?_;refine bF ?_;refine aN .nil ?_;refine jR rfl rfl rfl le1 ?_;exact ⟨_, rfl, _, _, rfl, .inl ⟨h6, rfl, rfl⟩, rfl⟩
 ·
  have hfit := pG hr;refine aI (aI ?_);refine aB ?_;refine aA (aC rfl) rfl ?_;refine aA (qI Tryz.underlying79 rfl) rfl ?_;refine aG (aE ?_);refine cO rfl ?_;refine aX ?_;refine aE (aI ?_);refine aB ?_;refine aA (aC rfl) rfl ?_;refine aA (aC rfl) rfl ?_;refine bD rfl rfl (aBT b r.1 r.2 _ hat hfit.1 aH) .nil rfl ?_;rintro cv K2 _ ⟨vs, hvs, rfl⟩ le2;refine fU fun K3 le3 hcv => ?_
  obtain ⟨ca, cn, cc, rfl⟩ := hcv.isSlice;refine aA (cJ tb89 aQC (.cons rfl rfl rfl (.cons .nil) (.cons rfl rfl rfl (.skip (.cons .nil)) .nil))) rfl ?_;refine ol_s (d9 rfl rfl) rfl ?_;rintro _ K _ ⟨b18, rfl, rfl, rfl⟩ -;refine aA (aF rfl) rfl ?_;refine aA (aF rfl) rfl ?_;refine aG (aE ?_);refine bM ?_;refine gB fun K4 le4 hb => ?_
  refine aN .nil ?_;refine jR rfl rfl rfl (Hl.le_trans le1 (Hl.le_trans le2 (Hl.le_trans le3 le4))) ?_;exact ⟨_, rfl, _, _, rfl, .inr (.inl ⟨h6, b18, r, hr, rfl, rfl, b, _, vs, _, hb, hat.mono (Hl.le_trans le2 (Hl.le_trans le3 le4)), hcv.mono le4, hvs.mono (Hl.le_trans le3 le4)⟩), rfl⟩
 ·
  refine aI (aI ?_);refine aB ?_;refine aA (aC rfl) rfl ?_;refine aA (nO Tryz.underlying79 rfl rfl) rfl ?_;refine aG (aE ?_);refine eK rfl ?_;refine aI (aB ?_);refine aA (aC rfl) rfl ?_;refine aA (aF rfl) rfl ?_;refine aA (aF rfl) rfl ?_;refine aG (aE ?_);refine bM ?_;refine bF ?_;refine aN .nil ?_;refine jR rfl rfl rfl le1 ?_;exact ⟨_, rfl, _, _, rfl, .inr (.inr ⟨h6, fb, e, p, hr, rfl, rfl, hfb⟩), rfl⟩
def aNW (s : aO) (x : Value) (K : Hl) : Prop := (∃ b r, s.length ≤ 600 ∧ e8 s = .ok r ∧ x = ptr b ∧ q5 K b r) ∨ (x = .pointer none ∧ (600 < s.length ∨ ∃ e, e8 s = .error e))
theorem mK (s : aO) (K : Hl) (hg : Glob K) (hE : ErrT K) : Sp Tryz.prog 19 [str s] K [] (Ret fun v K' L' => ∃ x, v = .tuple #[x, i64 (pc s).1, i64 (pc s).2] ∧ aNW s x K' ∧ L' = []) := by
 refine bA Tryz.func19 rfl Tryz.ntmps19 rfl rfl fun F w => ?_
 refine aI (aB ?_);refine aA (aF rfl) rfl ?_;refine aA (aF rfl) rfl ?_;refine aA (aF rfl) rfl ?_;refine aG (aE ?_);refine aI (aB ?_);refine aA (aC rfl) rfl ?_;refine bD rfl rfl (aA8 s _ hg) .nil rfl ?_;rintro _ K1 _ ⟨x, y, rfl, hP, rfl⟩ le1;refine aA (aC rfl) rfl ?_;refine aA (aP rfl rfl) rfl ?_;refine aA (aP rfl rfl) rfl ?_;refine aA (aF rfl) rfl ?_;refine aA (aF rfl) rfl ?_;refine aG (aE ?_);rcases hP with ⟨h6, rfl, rfl⟩ | ⟨h6, b, r, hr, rfl, rfl, hat⟩ | ⟨h6, fb, e, p, hr, rfl, rfl, hfb⟩
 ·
  refine aI (aB ?_);refine aA (aC rfl) rfl ?_;refine bD rfl rfl (aO5 1 _ (hE.mono le1)) .nil rfl ?_;rintro _ K _ ⟨rfl, rfl, rfl⟩ -;refine aA (aC rfl) rfl ?_;refine aA (aP rfl rfl) rfl ?_;refine aA (aP rfl rfl) rfl ?_;refine aA (aF rfl) rfl ?_;refine aA (aF rfl) rfl ?_;refine aG (aE ?_);refine aI (aB ?_);refine aA (aC rfl) rfl ?_;refine aA (aC rfl) rfl ?_;refine aA (aC rfl) rfl ?_;refine aA (aF rfl) rfl ?_;refine aA (aF rfl) rfl ?_;refine aA (aF rfl) rfl ?_;refine aG (aE ?_);refine bM ?_;refine aN .nil ?_;refine oE rfl rfl rfl rfl le1 ?_;have hpc : pc s = (1, -1) := (by unfold pc; rw [if_pos h6]);exact ⟨_, rfl, _, by rw [hpc], .inr ⟨rfl, .inl h6⟩, rfl⟩
 ·
  refine aI (aB ?_);refine aA (aC rfl) rfl ?_;refine cG rfl rfl (vZ _) rfl ?_;refine aA (aC rfl) rfl ?_;refine aA (aP rfl rfl) rfl ?_;refine aA (aP rfl rfl) rfl ?_;refine aA (aF rfl) rfl ?_;refine aA (aF rfl) rfl ?_;refine aG (aE ?_);refine aI (aB ?_);refine aA (aC rfl) rfl ?_;refine aA (aC rfl) rfl ?_;refine aA (aC rfl) rfl ?_;refine aA (aF rfl) rfl ?_;refine aA (aF rfl) rfl ?_;refine aA (aF rfl) rfl ?_;refine aG (aE ?_);refine bM ?_;refine aN .nil ?_;refine oE rfl rfl rfl rfl le1 ?_;have hpc : pc s = (0, -1) := (by unfold pc; rw [if_neg aH, hr]);exact ⟨_, rfl, _, by rw [hpc], .inl ⟨b, r, h6, hr, rfl, hat⟩, rfl⟩
 ·
  refine aI (aB ?_);refine aA (aC rfl) rfl ?_;refine bD rfl rfl (zU fb e p _ [] (hE.mono le1) (.known hfb)) .nil rfl ?_;rintro _ K _ ⟨rfl, rfl, rfl⟩ -;refine aA (aC rfl) rfl ?_;refine aA (aP rfl rfl) rfl ?_;refine aA (aP rfl rfl) rfl ?_;refine aA (aF rfl) rfl ?_;refine aA (aF rfl) rfl ?_;refine aG (aE ?_);refine aI (aB ?_);refine aA (aC rfl) rfl ?_;refine aA (aC rfl) rfl ?_;refine aA (aC rfl) rfl ?_;refine aA (aF rfl) rfl ?_;refine aA (aF rfl) rfl ?_;refine aA (aF rfl) rfl ?_;refine aG (aE ?_);refine bM ?_;refine aN .nil ?_;refine oE rfl rfl rfl rfl le1 ?_;have hpc : pc s = (e, p) := (by unfold pc; rw [if_neg aH, hr]);exact ⟨_, rfl, _, by rw [hpc], .inr ⟨rfl, .inr ⟨_, hr⟩⟩, rfl⟩
theorem aLU (b : Nat) (x : List UInt8) (xs : List (List UInt8)) (l : List Value) (nv : Value) (fz : Nat × Nat) (K : Hl) (hb : K b = some (aU l 208 fz)) (hl : l[6]? = some nv) (hv : Ksl (bE 9) K nv xs) (hn : xs.length ≤ 1000000) :
  Sp Tryz.prog 59 [ptr b 6, str x] K [] (Val (.bool (decide (x ∈ xs))) K) := by
 refine bA Tryz.func59 rfl Tryz.ntmps59 rfl rfl fun F w => ?_
 refine aI (aB ?_);refine aA (aF rfl) rfl ?_;refine aG (aE ?_);refine aI (aB ?_);refine aA (aC rfl) rfl ?_;refine aA bS rfl ?_;refine aA (aD (o' := 6) pN rfl rfl) rfl ?_;refine aA (aK ts39 rfl (.known hb) hl) rfl ?_;refine aA (aC rfl) rfl ?_;refine bD rfl rfl (jX nv x xs _ [] (.known hv) hn) .nil rfl ?_;rintro _ K _ ⟨rfl, rfl, rfl⟩ -;refine aA (aF rfl) rfl ?_;refine aG (aE ?_);refine bM ?_;refine aN .nil ?_;refine bL rfl rfl (Hl.le_refl _) ?_;exact ⟨rfl, rfl, rfl⟩
abbrev msgV (m : Msg) (hv : Value) : Value := .agg #[str m.from_, str m.to_, i64 m.size, hv]
def aO7 (out : Out) : Ending → Hl → List Asn → Prop := Ret fun v K' L' => ∃ av ev M, v = .tuple #[av, ev] ∧ L' = sl true cX av out.acts :: M ∧ ErrP out.err ev M
theorem aGQ (b : Nat) (r : List aO × Tree) (s : aO) (m : Msg) (hv : Value) (K : Hl) (hg : Glob K) (hr : e8 s = .ok r) (hl : s.length ≤ 600) (hat : q5 K b r) (hh : Ksl hdEl K hv m.hs) (hm : MsgOk m) :
  Sp Tryz.prog 40 [ptr b, msgV m hv] K [] (aO7 (sayC r m)) := by
 obtain ⟨tb, cv, vs, fz, hb, hS, hcv, hvs⟩ := hat;obtain ⟨l, nv, bv, ys, fz2, htb, hl6, hl7, hnv, _, _, _⟩ := hS.at_;obtain ⟨ha, hn, hc, rfl⟩ := hh.isSlice;have hfit := pG hr;have hneeds := aBE hr;have hsl := Cmp.script_len r.2;have hins : ∀ o ∈ Cmp.script r.2, InsOk o := fun o ho => by
  obtain ⟨q1, q2, q3, q4⟩ := Cmp.script_fit hfit.2.1 o ho;exact ⟨by omega, by omega, fun x hx => by have := q1 x hx; omega, fun x hx => by have := q2 x hx; omega⟩
 refine bA Tryz.func40 rfl Tryz.ntmps40 rfl rfl fun F w => ?_
 refine aI (aB ?_);refine ol_s (d9 rfl rfl) rfl ?_;rintro _ K _ ⟨b3, rfl, rfl, rfl⟩ -;refine aA (aF rfl) rfl ?_;refine aA (aF rfl) rfl ?_;refine aG (aE ?_);refine aI ?_;refine t_draw (anc := [0, 1, 3, 7, 15, 0, 32, 96, 224, 0, 1023, 2047, 4095, 4095, 4095, 8191, 49151, 131071]) (ord := [0, 1, 2, 3, 5, 6, 7, 8, 9, 4, 10, 11, 12, 13, 14, 15, 16, 17]) [4, 10] [10] mixed (by decide +kernel) (cT _) ?_;refine dl_ev rfl rfl (.none rfl) rfl rfl (aC rfl) rfl ?_;refine dl_ev rfl rfl (.none rfl) rfl rfl bS rfl ?_;refine dl_ev rfl rfl (.none rfl) rfl rfl (aD (o' := 0) aKT rfl rfl) rfl ?_;refine dl_ev rfl rfl (.none rfl) rfl rfl (aK ts87 rfl (.known hb) rfl) rfl ?_;refine dl_ev rfl rfl (.none rfl) rfl rfl (aC rfl) rfl ?_;refine dl_ev rfl rfl (.none rfl) rfl rfl bS rfl ?_;refine dl_ev rfl rfl (.none rfl) rfl rfl (aD (o' := 1) aCB rfl rfl) rfl ?_;refine dl_ev rfl rfl (.none rfl) rfl rfl (aK ts42 rfl (.known hb) rfl) rfl ?_;refine dl_ev rfl rfl (.none rfl) rfl rfl (bT fO rfl aL rfl rfl) rfl ?_;refine dl_callv rfl (.none rfl) rfl rfl rfl rfl (aLU tb dP r.1 l nv fz2 _ htb hl6 hnv aH) rfl ?_;refine lR rfl (.none rfl) rfl rfl rfl (aBP (decide (dP ∈ r.1)) cv (.slice ha hn hc) vs (Cmp.script r.2) m _ hg hcv hvs hh hm hins aH) .nil rfl ?_;rintro _ K1 _ ⟨av, ev, M, rfl, rfl, hev⟩ le1;refine dl_ev rfl rfl (.none rfl) rfl rfl (aC rfl) rfl ?_;refine dl_ev rfl rfl (.none rfl) rfl rfl (aP rfl rfl) rfl ?_;refine dl_ev rfl rfl (.none rfl) rfl rfl (aP rfl rfl) rfl ?_;refine dl_ev rfl rfl (.none rfl) rfl rfl (aP rfl rfl) rfl ?_;refine dl_ev rfl rfl (.none rfl) rfl rfl (aF rfl) rfl ?_;refine dl_ev rfl rfl (.none rfl) rfl rfl (aF rfl) rfl ?_;refine dl_ev rfl rfl (.none rfl) rfl rfl (aF rfl) rfl ?_;refine dl_nil ?_;refine aE (aI ?_);refine aB ?_;refine aA (aC rfl) rfl ?_;refine aA (aC rfl) rfl ?_;refine aA (aF rfl) rfl ?_;refine aA (aF rfl) rfl ?_;refine aG (aE ?_);refine bM ?_;refine aCQ (aCQ ?_)
 refine jR rfl rfl rfl le1 ?_;exact ⟨_, rfl, av, ev, M, rfl, rfl, hev⟩
end Go.Proofs
end
section
namespace Go.Proofs
open Go Go.SL Go.Syn Go.Mach Go.Cmp
theorem rQ (m : Msg) (hv : Value) (K : Hl) (hh : Ksl hdEl K hv m.hs) (hn : m.hs.length ≤ 1000000) : Sp Tryz.prog 34 [msgV m hv] K [] (Ret fun v K' L' => ∃ a n c, v = msgV m (.slice a n c) ∧ K' = K ∧ L' = [sl false hdEl (.slice a n c) m.hs]) := by
 obtain ⟨ha, hn1, hc, rfl⟩ := hh.isSlice;refine bA Tryz.func34 rfl Tryz.ntmps34 rfl rfl fun F w => ?_
 refine aI (aB ?_);refine ol_s (d9 rfl rfl) rfl ?_;rintro _ K _ ⟨b1, rfl, rfl, rfl⟩ -;refine ol_s (cL tz28) rfl ?_;rintro _ K _ ⟨b2, rfl, rfl, rfl⟩ -;refine aG (aE ?_);refine aI (aB ?_);refine aA (aD (o' := 3) j1 rfl rfl) rfl ?_;refine aA (aK ts26 rfl aL rfl) rfl ?_;refine jF (d8 hdEl) ?_;refine ol_s (dJ (k := hdEl) (ys := m.hs) zT rfl rfl .here (fun w j => dB Tryz.underlying26 (SeesSl.at (k := hdEl) (.known hh) j)) (by simp; omega) (by simp; omega)) rfl ?_;rintro v5 K _ ⟨rfl, rfl, ho5⟩ -;refine rP kN ?_;rintro ⟨sa, sn, sc, rfl⟩;refine aA (aD (o' := 3) j1 rfl rfl) rfl ?_;refine bP (bK ts26 rfl rfl cD a7 (.succ (.succ (.succ .zero))) rfl) ?_;rintro _ K _ ⟨rfl, rfl⟩ -;refine aG (aE ?_);refine aI (aB ?_);refine aA (bT fO rfl aL rfl rfl) rfl ?_;refine bP (cE fO rfl rfl rfl a7 (by first | (simp [Value.oneCell']; done) | exact fun c hc => El.one _ _ c hc) (.cons (.cons (.cons (.cons .nil)))) (by intro j hj; simp)) ?_;rintro _ K _ ⟨rfl, rfl⟩ -;refine aG (aE ?_);refine bM ?_;refine sE rfl rfl fO aL rfl rfl (Hl.le_refl _) (.cons .here .nil) ?_;exact ⟨_, rfl, _, _, _, rfl, rfl, rfl⟩
structure TI where
 i : Nat
 xs : List (aO × aO)
def mine : aO := [109, 105, 110, 101]
theorem pU (m : Msg) (hv : Value) (hs : List (aO × aO)) (K : Hl) (hn : hs.length ≤ 1000000) : Sp Tryz.prog 36 [msgV m hv] K [sl false hdEl hv hs] (Ret fun v K' L' => v = .tuple #[] ∧ K' = K ∧ L' = []) := by
 refine bA Tryz.func36 rfl Tryz.ntmps36 rfl rfl fun F w => ?_
 refine vU kN ?_;rintro ⟨sa, sn, sc, rfl⟩;refine aI (aB ?_);refine ol_s (d9 rfl rfl) rfl ?_;rintro _ K _ ⟨b1, rfl, rfl, rfl⟩ -;refine aG (aE ?_);refine aI (aB ?_);refine aA (aD (o' := 3) j1 rfl rfl) rfl ?_;refine aA (aK ts26 rfl aL rfl) rfl ?_;refine aA (bZ (k := hdEl) rfl Tryz.underlying26 rfl aL) rfl ?_;refine aA (aC rfl) rfl ?_;refine aG (aE ?_);refine bC ?_;refine dS (fun (q : TI) => q.i ≤ hs.length ∧ q.xs.length = hs.length) (fun q => [(1, ptr b1), (5, i64 hs.length), (6, i64 q.i)]) (fun _ => K) (fun q => [pt b1 (aU [str m.from_, str m.to_, i64 m.size, .slice sa sn sc] 28), sl false hdEl (.slice sa sn sc) q.xs]) (fun q => hs.length - q.i) ⟨0, hs⟩ ⟨Nat.zero_le _, rfl⟩ (.cons 1 rfl (.cons 5 rfl (.cons 6 rfl .nil))) rfl (fun _ h => h) ?_;intro ⟨i, xs⟩ ⟨hi0, hx⟩;dsimp only at hi0 hx ⊢;refine aI (aB ?_);refine aA (cU rfl rfl) rfl ?_;refine aG (aE ?_);refine aI ?_;refine bH 7 rfl (fun h7 => ?_) (fun h7 => ?_)
 ·
  have hilt : i < xs.length := by omega
  refine aX ?_;refine aE (aI ?_);refine bC (aI ?_);refine aB ?_;refine aA (aC rfl) rfl ?_;refine aA (aF rfl) rfl ?_;refine aG (aE ?_);refine aB ?_;refine aA (aD (o' := 3) j1 rfl rfl) rfl ?_;refine aA (aK ts26 rfl aL rfl) rfl ?_;refine aA (aC rfl) rfl ?_;refine aA (cJ tb25 aNA (.cons rfl rfl rfl (.cons .nil) (.cons rfl rfl rfl (.skip (.cons .nil)) .nil))) rfl ?_;refine aA (bU (k := hdEl) nA rfl aL rfl rfl (by first | assumption | omega)) rfl ?_;refine bP (nS (k := hdEl) (y0 := (mine, mine)) aDW rfl rfl (by first | assumption | omega) a7) ?_;rintro _ K _ ⟨rfl, rfl⟩ -;refine aG (aM ?_);refine aE (aB ?_);refine aA (b0 rfl rfl aH aH) rfl ?_;refine aA (aC rfl) rfl ?_;refine aG ?_;exact cI ⟨i + 1, xs.set i (mine, mine)⟩ ⟨by (show i + 1 ≤ hs.length); omega, by simpa using hx⟩ (by (show hs.length - (i + 1) < hs.length - i); omega) (.cons 1 rfl (.cons 5 rfl (.cons 6 rfl .nil))) rfl (fun _ h => h)
 ·
  refine cR ?_;refine aT ?_;refine aT ?_;refine bG ?_;refine aN .nil ?_;refine dD rfl (Hl.le_refl _) ?_;exact ⟨_, rfl, rfl, rfl, rfl⟩
theorem aGR (b : Nat) (r : List aO × Tree) (s : aO) (m : Msg) (hv : Value) (K : Hl) (hg : Glob K) (hr : e8 s = .ok r) (hl : s.length ≤ 600) (hat : q5 K b r) (hm : MsgOk m) :
  Sp Tryz.prog 40 [ptr b, msgV m hv] K [sl false hdEl hv m.hs] (Ret fun v K' L' => ∃ av ev M, v = .tuple #[av, ev] ∧ L' = sl false hdEl hv m.hs :: sl true cX av (sayC r m).acts :: M ∧ ErrP (sayC r m).err ev M) := by
 have h := aE4 (K := K) (L1 := [sl false hdEl hv m.hs]) (L := []) (R := fun e L' => ∃ v, e = .returned v ∧ ∃ av ev M, v = .tuple #[av, ev] ∧ L' = sl true cX av (sayC r m).acts :: M ∧ ErrP (sayC r m).err ev M) ⟨_, Tryz.func40, rfl, rfl⟩ (fun h1 hs d => (aGQ b r s m hv (K.join h1) (hg.mono Hl.le_join_l) hr hl (hat.mono Hl.le_join_l) ((rK .here hs).mono (Hl.le_join_r d)) hm).mono fun e K' L' q => q);refine h.mono ?_;rintro e K' L' ⟨L'', ⟨v, rfl, av, ev, M, rfl, rfl, hev⟩, rfl⟩;exact ⟨_, rfl, av, ev, M, rfl, rfl, hev⟩
theorem xD (b : Nat) (r : List aO × Tree) (s : aO) (m : Msg) (hv : Value) (K : Hl) (hg : Glob K) (hE : ErrT K) (hr : e8 s = .ok r) (hl : s.length ≤ 600) (hat : q5 K b r) (hh : Ksl hdEl K hv m.hs) (hm : MsgOk m) :
  Sp Tryz.prog 21 [ptr b, msgV m hv] K [] (Ret fun v K' L' => ∃ av, v = .tuple #[av, i64 (te (sayC r m).err).1, i64 (te (sayC r m).err).2] ∧ L' = [sl true cX av (sayC r m).acts]) := by
 have hhn := hm.hn;obtain ⟨ha, hn, hc, rfl⟩ := hh.isSlice;refine bA Tryz.func21 rfl Tryz.ntmps21 rfl rfl fun F w => ?_
 refine aI (aB ?_);refine ol_s (d9 rfl rfl) rfl ?_;rintro _ K _ ⟨b3, rfl, rfl, rfl⟩ -;refine aA (aF rfl) rfl ?_;refine aA (aF rfl) rfl ?_;refine aA (aF rfl) rfl ?_;refine aG (aE ?_);refine aI (aB ?_);refine aA (bT fO rfl aL rfl rfl) rfl ?_;refine bD rfl rfl (rQ m _ _ hh hhn) .nil rfl ?_;rintro _ K _ ⟨sa, sn, sc, rfl, rfl, rfl⟩ -;refine ol_s (cL tz28) rfl ?_;rintro _ K _ ⟨b7, rfl, rfl, rfl⟩ -;refine bP (cE fO rfl rfl rfl a7 (by first | (simp [Value.oneCell']; done) | exact fun c hc => El.one _ _ c hc) (.cons (.cons (.cons (.cons .nil)))) (by intro j hj; simp)) ?_;rintro _ K _ ⟨rfl, rfl⟩ -;refine aG (aE ?_);refine aI (aB ?_);refine aA (aC rfl) rfl ?_;refine aA (bT fO rfl aL rfl rfl) rfl ?_;refine bD rfl rfl (aGR b r s m (.slice sa sn sc) _ hg hr hl hat hm) (.cons (.there .here) .nil) rfl ?_;rintro _ K1 _ ⟨av, ev, M, rfl, rfl, hev⟩ le1;refine aA (aC rfl) rfl ?_;refine aA (aP rfl rfl) rfl ?_;refine aA (aP rfl rfl) rfl ?_;refine aA (aF rfl) rfl ?_;refine aA (aF rfl) rfl ?_;refine aG (aE ?_);rcases herr : (sayC r m).err with _ | ⟨e, p⟩
 ·
  rw [herr] at hev;obtain ⟨rfl, rfl⟩ := hev;refine aI (aB ?_);refine aA (bT fO rfl aL rfl rfl) rfl ?_;refine bD rfl rfl (pU m (.slice sa sn sc) m.hs _ hhn) (.cons .here .nil) rfl ?_;rintro _ K1 _ ⟨rfl, rfl, rfl⟩ -;refine aG (aE ?_);refine aI (aB ?_);refine aA (aC rfl) rfl ?_;refine cG rfl rfl (vZ _) rfl ?_;refine aA (aC rfl) rfl ?_;refine aA (aP rfl rfl) rfl ?_;refine aA (aP rfl rfl) rfl ?_;refine aA (aF rfl) rfl ?_;refine aA (aF rfl) rfl ?_;refine aG (aE ?_);refine aI (aB ?_);refine aA (aC rfl) rfl ?_;refine aA (aC rfl) rfl ?_;refine aA (aC rfl) rfl ?_;refine aA (aF rfl) rfl ?_;refine aA (aF rfl) rfl ?_;refine aA (aF rfl) rfl ?_;refine aG (aE ?_);refine bM ?_;refine aN (.cons .here .nil) ?_;refine oE rfl rfl rfl rfl le1 ?_;exact ⟨_, rfl, av, rfl, rfl⟩
 ·
  rw [herr] at hev;obtain ⟨fb, rfl, rfl⟩ := hev;refine aI (aB ?_);refine aA (bT fO rfl aL rfl rfl) rfl ?_;refine bD rfl rfl (pU m (.slice sa sn sc) m.hs _ hhn) (.cons .here .nil) rfl ?_;rintro _ K1 _ ⟨rfl, rfl, rfl⟩ -;refine aG (aE ?_);refine aI (aB ?_);refine aA (aC rfl) rfl ?_;refine bD rfl rfl (zU fb e p _ [pt fb (aU [i64 e, i64 p] 123)] (hE.mono le1) (.own .here)) (.cons (.there .here) .nil) rfl ?_;rintro _ K1 _ ⟨rfl, rfl, rfl⟩ -;refine aA (aC rfl) rfl ?_;refine aA (aP rfl rfl) rfl ?_;refine aA (aP rfl rfl) rfl ?_;refine aA (aF rfl) rfl ?_;refine aA (aF rfl) rfl ?_;refine aG (aE ?_);refine aI (aB ?_);refine aA (aC rfl) rfl ?_;refine aA (aC rfl) rfl ?_;refine aA (aC rfl) rfl ?_;refine aA (aF rfl) rfl ?_;refine aA (aF rfl) rfl ?_;refine aA (aF rfl) rfl ?_;refine aG (aE ?_);refine bM ?_;refine aN (.cons (.there .here) .nil) ?_;refine oE rfl rfl rfl rfl le1 ?_;exact ⟨_, rfl, av, rfl, rfl⟩
end Go.Proofs
end
section
namespace Go.SL
section
variable {E : Env} {fr : Fr} {K : Hl} {L L' : List Asn} {dst : Option Tmp} {ty : TypeId} {pos : String} {aft : Array Edge} {g : Option (Nat × Bool)} {t : TypeId} {α : Type} {k : El α}
theorem p9 (ht : gW E.P t k.e k.sz = true) : EfS E fr K L ⟨dst, .buildSlice t 0 #[], ty, pos, aft, g⟩ (fun v K' L' => K' = K ∧ ∃ b, v = .slice (some ⟨b, 0, none⟩) 0 0 ∧ L' = sl false k (.slice (some ⟨b, 0, none⟩) 0 0) [] :: L) := by
 intro a w f j;obtain ⟨inf, h1, h2, h3⟩ := nV ht;have hu : (underlying t).run E.P w = .ok (.slice k.e) w := by simp only [underlying, program, bind, Sem.bind, pure, Sem.run, h1]
 have hsz : (sizeOf k.e).run E.P w = .ok k.sz w := by simp only [sizeOf, typeInfo, program, bind, Sem.bind, pure, Sem.run, h2, h3]
 have hr : (Instr.buildSlice t 0 #[]).run E.P w = .ok (.slice (some ⟨w.heap.size, 0, none⟩) 0 0) { w with heap := w.heap.push (aU [] k.e) } := by
  unfold Instr.buildSlice;rw [aS hu];simp only [];rw [aS hsz];rw [if_neg aH, if_pos aH];rw [aS (oT _ _)];have hz : 0 * k.sz = 0 := by omega
  simp only [hz];have e0 : (Array.range 0) = #[] := by simp
  rw [e0, Array.map_empty]
  rfl
 refine ⟨.slice (some ⟨w.heap.size, 0, none⟩) 0 0, _, K, sl false k (.slice (some ⟨w.heap.size, 0, none⟩) 0 0) [] :: L, .inl ?_, ⟨rfl, w.heap.size, rfl, rfl⟩, Hl.le_refl _, (j.alloc (aU [] k.e)).imp ?_⟩
 ·simp only [execOp];have := d7 hr
  simpa using this
 ·rintro h ⟨x, l, hx, hl, hd, rfl⟩;refine ⟨x, l, .inr ⟨w.heap.size, 0, [], (0, 0), rfl, (fun h => by cases h), Nat.le_refl _, by simp, .inl (Nat.le_refl _), ?_⟩, hl, hd, rfl⟩
  exact hx
end
end Go.SL
namespace Go.Cmp
open Go Go.SL Go.Syn Go.Mach
def insA (v : InsV) (o : Ins) : Asn := fun h => (v.op = o.op ∧ v.n = o.n ∧ v.tag = o.tag ∧ v.oct = o.oct ∧ v.at_ = o.at_) ∧ Sat [sl false (bE 9) v.a.1 o.a, sl false (bE 9) v.b.1 o.b] h
def rC : List InsV → List Ins → List Asn
 | [], [] => []
 | v :: vs, o :: os => insA v o :: rC vs os
 | _, _ => [fun _ => False]
def i8 (vs : List InsV) (os : List Ins) : Asn := fun h => Sat (rC vs os) h
theorem aFS {h : Hl} : ∀ {vs : List InsV} {os : List Ins}, Sat (rC vs os) h → vs.length = os.length := by
 intro vs;induction vs generalizing h with
 | nil => intro os hs; cases os with
  | nil => rfl
  | cons o os => obtain ⟨_, _, hf, _⟩ := hs; exact hf.elim
 | cons v vs ih => intro os hs; cases os with
  | nil => obtain ⟨_, _, hf, _⟩ := hs; exact hf.elim
  | cons o os => obtain ⟨_, l, _, hl, _⟩ := hs; simp [ih hl]
theorem wX : ∀ {vs : List InsV} {os : List Ins}, vs.length = os.length → ∀ (ws : List InsV) (ps : List Ins), rC (vs ++ ws) (os ++ ps) = rC vs os ++ rC ws ps
 | [], [], _, _, _ => rfl
 | v :: vs, o :: os, h, ws, ps => by simp only [List.cons_append, rC, wX (show vs.length = os.length by simpa using h) ws ps]
 | [], _ :: _, h, _, _ => by simp at h
 | _ :: _, [], h, _, _ => by simp at h
theorem tG {L : List Asn} : ∀ h, Sat L h → Sat (i8 [] [] :: L) h := fun h hs => ⟨.emp, h, rfl, hs, (Hl.dj_emp h).symm, (Hl.emp_join h).symm⟩
theorem rS {vs : List InsV} {os : List Ins} {v : InsV} {o : Ins} {L : List Asn} (e1 : v.op = o.op) (e2 : v.n = o.n) (e3 : v.tag = o.tag) (e4 : v.oct = o.oct) (e5 : v.at_ = o.at_) :
  ∀ h, Sat (sl false (bE 9) v.a.1 o.a :: sl false (bE 9) v.b.1 o.b :: i8 vs os :: L) h → Sat (i8 (vs ++ [v]) (os ++ [o]) :: L) h := by
 intro h hs;obtain ⟨ab, r, hab, ⟨c, l, hc, hl, hcl, rfl⟩, hd, rfl⟩ := eC (L := [_, _]).1 hs;have hd2 := Hl.dj_join.1 hd;refine ⟨c.join ab, l, ?_, hl, Hl.join_dj.2 ⟨hcl, hd2.2⟩, ?_⟩
 ·show Sat (rC (vs ++ [v]) (os ++ [o])) _
  rw [wX (aFS hc)];exact eC.2 ⟨c, ab, hc, ⟨ab, .emp, ⟨⟨e1, e2, e3, e4, e5⟩, hab⟩, rfl, Hl.dj_emp _, (Hl.join_emp _).symm⟩, hd2.1.symm, rfl⟩
 ·rw [← Hl.join_assoc, Hl.join_comm hd2.1]
theorem rR {vs : List InsV} {os : List Ins} {v : InsV} {o : Ins} {L : List Asn} :
  ∀ h, Sat (i8 (v :: vs) (o :: os) :: L) h → Sat (sl false (bE 9) v.a.1 o.a :: sl false (bE 9) v.b.1 o.b :: i8 vs os :: L) h := by
 rintro h ⟨x, l, ⟨a, c, ⟨_, ha⟩, hc, hd, rfl⟩, hl, hdl, rfl⟩;have hd2 := Hl.join_dj.1 hdl;exact eC (L := [_, _]).2 ⟨a, c.join l, ha, ⟨c, l, hc, hl, hd2.2, rfl⟩, Hl.dj_join.2 ⟨hd, hd2.1⟩, Hl.join_assoc _ _ _⟩
theorem aE0 {h : Hl} : ∀ {vs : List InsV} {os : List Ins}, Sat (rC vs os) h → RIs h vs os := by
 intro vs;induction vs generalizing h with
 | nil => intro os hs; cases os with
  | nil => trivial
  | cons o os => obtain ⟨_, _, hf, _⟩ := hs; exact hf.elim
 | cons v vs ih => intro os hs; cases os with
  | nil => obtain ⟨_, _, hf, _⟩ := hs; exact hf.elim
  | cons o os =>
   obtain ⟨a, l, ⟨⟨e1, e2, e3, e4, e5⟩, ha⟩, hl, hd, rfl⟩ := hs;refine ⟨⟨e1, e2, e3, e4, e5, (rK .here ha).mono Hl.le_join_l, (rK (.there .here) ha).mono Hl.le_join_l⟩, (ih hl).mono (Hl.le_join_r hd)⟩
theorem In.settleCode {w0 w : World} {F K : Hl} {vs : List InsV} {os : List Ins} {L : List Asn} (i : In w0 F K (i8 vs os :: L) w) : ∃ K', K.le K' ∧ RIs K' vs os ∧ In w0 F K' L w := by
 obtain ⟨h1, hs, d, i1⟩ := In.freeze (L1 := [i8 vs os]) i;obtain ⟨a, b, ha, hb, hd, rfl⟩ := hs;refine ⟨_, Hl.le_join_l, (aE0 ha).mono (Hl.le_trans Hl.le_join_l (Hl.le_join_r d)), i1⟩
section
variable {E : Env} {ops : Array Oper} {c : Code} {x : Exit} {fr : Fr} {K : Hl} {L : List Asn} {Q : Post} {vs : List InsV} {os : List Ins}
theorem wS {l : List Oper} (h : ∀ K', K.le K' → RIs K' vs os → OL E ops l fr K' L Q) : OL E ops l fr K (i8 vs os :: L) Q := fun a w f i => let ⟨_, h1, h2, h3⟩ := In.settleCode i; h _ h1 h2 a w f h3
end
end Go.Cmp
end
section
namespace Go.Proofs
open Go Go.SL Go.Syn Go.Mach Go.Cmp
theorem aL4 (n c : Nat) (w : World) : (binOp .eql 39 (.slice none n c) (.slice none 0 0)).run Tryz.prog w = .ok (.bool true) w := by kernel_rfl
theorem aA1 (a : Addr) (n c : Nat) (w : World) : (binOp .eql 39 (.slice (some a) n c) (.slice none 0 0)).run Tryz.prog w = .ok (.bool false) w := by kernel_rfl
theorem tH (v : Value) (xs : List (List UInt8)) (K : Hl) (hv : Ksl (bE 9) K v xs) (hn : xs.length ≤ 1000000) : Sp Tryz.prog 39 [v] K [] (Ret fun u K' L' => ∃ a n c, u = .slice a n c ∧ K' = K ∧ L' = [sl false (bE 9) (.slice a n c) xs]) := by
 rcases hv with ⟨a, c, rfl, rfl⟩ | ⟨b, off, cap, cells, fz, rfl, hb, hc⟩
 ·cases a with
  | some a =>
   have hv : Ksl (bE 9) K (.slice (some a) 0 c) ([] : List aO) := .inl ⟨some a, c, rfl, rfl⟩;refine bA Tryz.func39 rfl Tryz.ntmps39 rfl rfl fun F w => ?_
   refine aI (aB ?_);refine aA (aF rfl) rfl ?_;refine aG (aE ?_);refine aI (aI ?_);refine aB ?_;refine aA (aC rfl) rfl ?_;refine aA (sH rfl rfl (fun _ => rfl) (fun w => aA1 _ _ _ w)) rfl ?_;refine aG (aE ?_);refine cO rfl ?_;refine aX ?_;refine aE (aI ?_);refine aB ?_;refine ol_s (p9 (k := bE 9) cQ) rfl ?_;rintro _ K _ ⟨rfl, b5, rfl, rfl⟩ -;refine aA (aC rfl) rfl ?_;refine ol_s (dJ (k := (bE 9)) (ys := ([] : List aO)) eM rfl rfl .here (fun w j => dB Tryz.underlying39 (SeesSl.at (k := bE 9) (.known hv) j)) (by simp) (by simp)) rfl ?_;rintro v7 K _ ⟨rfl, rfl, ho7⟩ -;refine rP kN ?_;rintro ⟨sa, sn, sc, rfl⟩;refine aA (aF rfl) rfl ?_;refine aG (aE ?_);refine bM ?_;refine bL rfl rfl (Hl.le_refl _) ?_;exact ⟨_, rfl, _, _, _, rfl, rfl, rfl⟩
  | none =>
  refine bA Tryz.func39 rfl Tryz.ntmps39 rfl rfl fun F w => ?_
  refine aI (aB ?_);refine aA (aF rfl) rfl ?_;refine aG (aE ?_);refine aI (aI ?_);refine aB ?_;refine aA (aC rfl) rfl ?_;refine aA (sH rfl rfl (fun _ => rfl) (fun w => aL4 _ _ w)) rfl ?_;refine aG (aE ?_);refine eK rfl ?_;refine aI (aB ?_);refine aA (aF rfl) rfl ?_;refine aG (aE ?_);refine bM ?_;refine bF ?_;refine dU (d8 (bE 9)) ?_;refine bL rfl rfl (Hl.le_refl _) ?_;exact ⟨_, rfl, _, _, _, rfl, rfl, rfl⟩
 ·have hv : Ksl (bE 9) K (.slice (some ⟨b, off, none⟩) xs.length cap) xs := .inr ⟨b, off, cap, cells, fz, rfl, hb, hc⟩;clear hb hc;refine bA Tryz.func39 rfl Tryz.ntmps39 rfl rfl fun F w => ?_
  refine aI (aB ?_);refine aA (aF rfl) rfl ?_;refine aG (aE ?_);refine aI (aI ?_);refine aB ?_;refine aA (aC rfl) rfl ?_;refine aA (sH rfl rfl (fun _ => rfl) (fun w => aA1 _ _ _ w)) rfl ?_;refine aG (aE ?_);refine cO rfl ?_;refine aX ?_;refine aE (aI ?_);refine aB ?_;refine ol_s (p9 (k := bE 9) cQ) rfl ?_;rintro _ K _ ⟨rfl, b5, rfl, rfl⟩ -;refine aA (aC rfl) rfl ?_;refine ol_s (dJ (k := (bE 9)) (ys := xs) eM rfl rfl .here (fun w j => dB Tryz.underlying39 (SeesSl.at (k := bE 9) (.known hv) j)) (by simp; omega) (by simp; omega)) rfl ?_;rintro v7 K _ ⟨rfl, rfl, ho7⟩ -;refine rP kN ?_;rintro ⟨sa, sn, sc, rfl⟩;refine aA (aF rfl) rfl ?_;refine aG (aE ?_);refine bM ?_;refine bL rfl rfl (Hl.le_refl _) ?_;exact ⟨_, rfl, _, _, _, rfl, rfl, rfl⟩
structure CI where
 i : Nat
 v : Value
 ws : List InsV
theorem aFT (b : Nat) (r : List aO × Tree) (s : aO) (K : Hl) (hr : e8 s = .ok r) (hl : s.length ≤ 600) (hat : q5 K b r) :
  Sp Tryz.prog 20 [ptr b] K [] (Ret fun v K' L' => K' = K ∧ ∃ ws, L' = [sl true cW v ws, i8 ws (Cmp.script r.2)]) := by
 obtain ⟨tb, cv, vs, fz, hb, hS, hcv, hvs⟩ := hat;have hfit := pG hr;have hsl := Cmp.script_len r.2;have hins := Cmp.script_fit hfit.2.1;have hlen := hvs.length
 generalize hcode : Cmp.script r.2 = code at *
 have hcl : vs.length ≤ 100000 := by omega
 obtain ⟨ca, cn, cc, rfl⟩ := hcv.isSlice;refine bA Tryz.func20 rfl Tryz.ntmps20 rfl rfl fun F w => ?_
 refine aI (aB ?_);refine aA (aF rfl) rfl ?_;refine aG (aE ?_);refine aI (aB ?_);refine aA (aF rfl) rfl ?_;refine aG (aE ?_);refine aI (aI ?_);refine aB ?_;refine aA (aC rfl) rfl ?_;refine aA bS rfl ?_;refine aA (aD (o' := 1) aCB rfl rfl) rfl ?_;refine aA (aK ts42 rfl (.known hb) rfl) rfl ?_;refine aA (bZ (k := cW) rfl Tryz.underlying42 rfl aL) rfl ?_;refine aA (aC rfl) rfl ?_;refine aG (aE ?_);refine bC ?_;refine dS (fun (q : CI) => q.i ≤ vs.length ∧ q.ws.length = q.i) (fun q => [(3, q.v), (9, .slice ca cn cc), (10, i64 vs.length), (11, i64 q.i)]) (fun _ => K) (fun q => [sl true cW q.v q.ws, i8 q.ws (code.take q.i)]) (fun q => vs.length - q.i) ⟨0, .slice none 0 0, []⟩ ⟨Nat.zero_le _, rfl⟩ (.cons 3 rfl (.cons 9 rfl (.cons 10 rfl (.cons 11 rfl .nil)))) rfl (fun h hh => l6 (tG h hh)) ?_;intro ⟨i, v, ws⟩ ⟨hi0, hws⟩;dsimp only at hi0 hws ⊢;refine aI (aB ?_);refine aA (cU rfl rfl) rfl ?_;refine aG (aE ?_);refine aI ?_;refine bH 12 rfl (fun h12 => ?_) (fun h12 => ?_)
 ·
  have hilt : i < vs.length := by omega
  obtain ⟨u, hu⟩ : ∃ u, vs[i]? = some u := ⟨vs[i]'hilt, List.getElem?_eq_getElem hilt⟩;obtain ⟨o, ho, hro⟩ := hvs.get hu;obtain ⟨vop, vn, vtag, voct, ⟨va, hva⟩, ⟨vb, hvb⟩, vat⟩ := u;obtain ⟨rfl, rfl, rfl, rfl, rfl, hra, hrb⟩ := hro;dsimp only at hra hrb;obtain ⟨sa, sn, sc, rfl⟩ := hra.isSlice;obtain ⟨ta, tn, tc, rfl⟩ := hrb.isSlice;have hoo := hins o (List.mem_of_getElem? ho);refine aX ?_;refine aE (aI ?_);refine bC (aI ?_);refine aB ?_;refine aA (bU (k := cW) dR rfl aL rfl rfl (by first | assumption | omega)) rfl ?_;refine aA (eG (n := 0) (k := cW) fP rfl aL bQ) rfl ?_;refine ol_s (cL tz41) rfl ?_;rintro _ K _ ⟨b5, rfl, rfl, rfl⟩ -;refine bP (cE fP rfl rfl rfl a7 (by first | (simp [Value.oneCell']; done) | exact fun c hc => El.one _ _ c hc) (.cons (.cons (.cons (.cons (.cons (.cons (.cons .nil))))))) (by intro j hj; simp)) ?_;rintro _ K _ ⟨rfl, rfl⟩ -;refine aG (aE ?_);refine aI ?_;refine t_draw (anc := [0, 1, 3, 0, 8, 31, 31, 127, 255, 511]) (ord := [0, 1, 3, 4, 2, 6, 5, 7, 8, 9]) [2, 5, 7, 9] [7, 9] mixed (by decide +kernel) (.cons .here .nil) ?_;refine dl_ev rfl rfl (.none rfl) rfl rfl (aD (o' := 4) eY rfl rfl) rfl ?_;refine dl_ev rfl rfl (.none rfl) rfl rfl (aK ts39 rfl aL rfl) rfl ?_;refine dl_ev rfl rfl (.none rfl) rfl rfl (aD (o' := 5) l7 rfl rfl) rfl ?_;refine dl_ev rfl rfl (.none rfl) rfl rfl (aK ts39 rfl aL rfl) rfl ?_;refine yI rfl (.none rfl) rfl rfl rfl rfl (tH _ o.a _ hra (by have := hoo.2.2.1; omega)) .nil rfl ?_;rintro _ K _ ⟨pa, pn, pc, rfl, rfl, rfl⟩ -;refine ⟨_, (show Tks _ _ _ from (.cons (.there .here) .nil)).sat, ?_⟩
  refine dl_ev rfl rfl (.none rfl) rfl rfl (aD (o' := 4) eY rfl rfl) rfl ?_;refine yI rfl (.none rfl) rfl rfl rfl rfl (tH _ o.b _ hrb (by have := hoo.2.2.2; omega)) .nil rfl ?_;rintro _ K _ ⟨qa, qn, qc, rfl, rfl, rfl⟩ -;refine ⟨_, (show Tks _ _ _ from (.cons (.there .here) .nil)).sat, ?_⟩
  refine oG rfl rfl (.none rfl) rfl (bK ts39 rfl rfl cD a7 (.succ (.succ (.succ (.succ .zero)))) rfl) ?_;rintro _ K _ ⟨rfl, rfl⟩ -;refine dl_ev rfl rfl (.none rfl) rfl rfl (aD (o' := 5) l7 rfl rfl) rfl ?_;refine oG rfl rfl (.none rfl) rfl (bK ts39 rfl rfl cD a7 (.succ (.succ (.succ (.succ (.succ .zero))))) rfl) ?_;rintro _ K _ ⟨rfl, rfl⟩ -;refine dl_nil ?_;refine aE (aB ?_);refine aA (aC rfl) rfl ?_;refine aA (bT fP rfl aL rfl rfl) rfl ?_;refine ol_s (bN (z0 := [.int .i64 0, .int .i64 0, .int .i64 0, .bool false, .slice none 0 0, .slice none 0 0, .int .i64 0]) dR tz41 rfl rfl rfl rfl (.cons rfl rfl rfl (.cons (.cons (.cons (.cons (.cons (.cons (.cons .nil))))))) .nil)) rfl ?_;rintro _ K _ ⟨b25, rfl, rfl, rfl⟩ -;refine ol_s (dJ (k := cW) (ys := [(⟨o.op, o.n, o.tag, o.oct, ⟨.slice pa pn pc, rfl⟩, ⟨.slice qa qn qc, rfl⟩, o.at_⟩ : InsV)]) nW rfl rfl a7 (fun w j => dB Tryz.underlying42 (SeesSl.at (k := cW) (.blk (.own .here) rfl rfl) j)) (by simp; omega) (by simp; omega)) rfl ?_;rintro v26 K _ ⟨rfl, rfl, ho26⟩ -;refine aA (aF rfl) rfl ?_;refine aG (aM ?_);refine aE (aB ?_);refine aA (b0 rfl rfl aH aH) rfl ?_;refine aA (aC rfl) rfl ?_;refine aG ?_;refine aN (.cons (.there (.there (.there (.there .here)))) (.cons (.there (.there (.there .here))) (.cons (.there (.there (.there .here))) (.cons .here .nil)))) ?_;refine dU (rS (v := ⟨o.op, o.n, o.tag, o.oct, ⟨.slice pa pn pc, rfl⟩, ⟨.slice qa qn qc, rfl⟩, o.at_⟩) (o := o) rfl rfl rfl rfl rfl) ?_;exact cI ⟨i + 1, v26, ws ++ [⟨o.op, o.n, o.tag, o.oct, ⟨.slice pa pn pc, rfl⟩, ⟨.slice qa qn qc, rfl⟩, o.at_⟩]⟩ ⟨by (show i + 1 ≤ vs.length); omega, by simp [hws]⟩ (by (show vs.length - (i + 1) < vs.length - i); omega) (.cons 3 rfl (.cons 9 rfl (.cons 10 rfl (.cons 11 rfl .nil)))) rfl (fun h hh => by have e : code.take (i + 1) = code.take i ++ [o] := (by rw [List.take_add_one, ho]; rfl); show Sat [sl true cW v26 _, i8 _ (code.take (i + 1))] h; rw [e]; exact eW hh)
 ·
  have hfin : code.take i = code := List.take_of_length_le aH;rw [hfin];refine cR ?_;refine aT ?_;refine aT ?_;refine bG ?_;refine aE (aI ?_);refine aB ?_;refine aA (aC rfl) rfl ?_;refine aA (aF rfl) rfl ?_;refine aG (aE ?_);refine bM ?_;refine bL rfl rfl (Hl.le_refl _) ?_;exact ⟨_, rfl, rfl, ws, rfl⟩
end Go.Proofs
end
section
namespace Go.Proofs
open Go Go.SL Go.Syn Go.Mach Go.Cmp
theorem aDD (nm : Bool) (cv hv : Value) (vs : List InsV) (code : List Ins) (m : Msg) (K : Hl) (hg : Glob K) (hcv : Ksl cW K cv vs) (hR : RIs K vs code) (hh : Ksl hdEl K hv m.hs) (hm : MsgOk m) (hc : ∀ o ∈ code, InsOk o) (hcl : code.length ≤ 1000000) :
  Sp Tryz.prog 35 [.bool nm, cv, msgV m hv] K [] (RunR (Mach.run nm code m)) := by
 have hh0 := hh;obtain ⟨ha, hn, hcp, rfl⟩ := hh.isSlice;refine bA Tryz.func35 rfl Tryz.ntmps35 rfl rfl fun F w => ?_
 refine aI (aB ?_);refine ol_s (d9 rfl rfl) rfl ?_;rintro _ K _ ⟨b5, rfl, rfl, rfl⟩ -;refine aA (aF rfl) rfl ?_;refine aA (aF rfl) rfl ?_;refine aA (aF rfl) rfl ?_;refine aG (aE ?_);refine aI (aB ?_);refine aA (aC rfl) rfl ?_;refine aA (aC rfl) rfl ?_;refine aA (bT fO rfl aL rfl rfl) rfl ?_;refine bD rfl rfl (aBP nm cv (.slice ha hn hcp) vs code m _ hg hcv hR hh0 hm hc hcl) .nil rfl ?_;rintro _ K1 _ ⟨av, ev, M, rfl, rfl, hev⟩ le1;refine aA (aP rfl rfl) rfl ?_;refine aA (aP rfl rfl) rfl ?_;refine aA (aP rfl rfl) rfl ?_;refine aA (aF rfl) rfl ?_;refine aA (aF rfl) rfl ?_;refine aA (aF rfl) rfl ?_;refine aG (aE ?_);refine bM ?_;refine aCQ ?_;refine oE rfl rfl rfl rfl le1 ?_;exact ⟨_, rfl, av, ev, M, rfl, rfl, hev⟩
theorem aDE (nm : Bool) (cv hv : Value) (z : Bool) (vs : List InsV) (code : List Ins) (m : Msg) (K : Hl) (hg : Glob K) (hm : MsgOk m) (hc : ∀ o ∈ code, InsOk o) (hcl : code.length ≤ 1000000) :
  Sp Tryz.prog 35 [.bool nm, cv, msgV m hv] K [sl false hdEl hv m.hs, sl z cW cv vs, i8 vs code] (Ret fun v K' L' => ∃ av ev M, v = .tuple #[av, i64 (Mach.run nm code m).steps, ev] ∧ L' = sl false hdEl hv m.hs :: sl z cW cv vs :: i8 vs code :: sl true cX av (Mach.run nm code m).acts :: M ∧ ErrP (Mach.run nm code m).err ev M) := by
 have h := aE4 (K := K) (L1 := [sl false hdEl hv m.hs, sl z cW cv vs, i8 vs code]) (L := []) (R := fun e L' => ∃ v, e = .returned v ∧ ∃ av ev M, v = .tuple #[av, i64 (Mach.run nm code m).steps, ev] ∧ L' = sl true cX av (Mach.run nm code m).acts :: M ∧ ErrP (Mach.run nm code m).err ev M) ⟨_, Tryz.func35, rfl, rfl⟩ (fun h1 hs d => by
  have hr : RIs h1 vs code := by
   obtain ⟨a, ha, le⟩ := aKB (A := i8 vs code) (.there (.there .here)) hs;exact (aE0 ha).mono le
  exact (aDD nm cv hv vs code m (K.join h1) (hg.mono Hl.le_join_l) ((rK (.there .here) hs).mono (Hl.le_join_r d)) (hr.mono (Hl.le_join_r d)) ((rK .here hs).mono (Hl.le_join_r d)) hm hc hcl).mono fun e K' L' q => q)
 refine h.mono ?_;rintro e K' L' ⟨L'', ⟨v, rfl, av, ev, M, rfl, rfl, hev⟩, rfl⟩;exact ⟨_, rfl, av, ev, M, rfl, rfl, hev⟩
theorem nL {α : Type} {a b : List α} {j : Nat} (h : a.drop j = b.drop j) : a.drop (j + 1) = b.drop (j + 1) := by
 rw [← List.drop_drop, ← List.drop_drop, h]
theorem uR {α : Type} {a b : List α} {j : Nat} {x : α} (hx : a[j]? = some x) (h : a.drop j = b.drop j) : b.drop j = x :: b.drop (j + 1) := by
 rw [← h, ← nL h]; exact pC hx
structure PI where
 i : Nat
 ws : List InsV
structure PJ where
 k : Nat
 xs : List aO
theorem vI (nm : Bool) (cv hv : Value) (vs : List InsV) (code : List Ins) (m : Msg) (K : Hl) (hg : Glob K) (hE : ErrT K) (hcv : Ksl cW K cv vs) (hR : RIs K vs code) (hh : Ksl hdEl K hv m.hs) (hm : MsgOk m) (hc : ∀ o ∈ code, InsOk o) (hcl : code.length ≤ 1000000) :
  Sp Tryz.prog 18 [.bool nm, cv, msgV m hv] K [] (Ret fun v K' L' => ∃ av, v = .tuple #[av, i64 (Mach.run nm code m).steps, i64 (te (Mach.run nm code m).err).1, i64 (te (Mach.run nm code m).err).2] ∧ L' = [sl true cX av (Mach.run nm code m).acts]) := by
 have hhn := hm.hn;have hlen := hR.length;have hcv0 := hcv;obtain ⟨ha, hn, hcp, rfl⟩ := hh.isSlice;obtain ⟨ca, cn, cc, rfl⟩ := hcv.isSlice;refine bA Tryz.func18 rfl Tryz.ntmps18 rfl rfl fun F w => ?_
 refine aI (aB ?_);refine ol_s (d9 rfl rfl) rfl ?_;rintro _ K _ ⟨b5, rfl, rfl, rfl⟩ -;refine aA (aF rfl) rfl ?_;refine aA (aF rfl) rfl ?_;refine aA (aF rfl) rfl ?_;refine aA (aF rfl) rfl ?_;refine aG (aE ?_);refine aI (aB ?_);refine aA (bT fO rfl aL rfl rfl) rfl ?_;refine bD rfl rfl (rQ m _ _ hh hhn) .nil rfl ?_;rintro _ K _ ⟨oa, on_, oc, rfl, rfl, rfl⟩ -;refine ol_s (cL tz28) rfl ?_;rintro _ K _ ⟨b10, rfl, rfl, rfl⟩ -;refine bP (cE fO rfl rfl rfl a7 (by first | (simp [Value.oneCell']; done) | exact fun c hc => El.one _ _ c hc) (.cons (.cons (.cons (.cons .nil)))) (by intro j hj; simp)) ?_;rintro _ K _ ⟨rfl, rfl⟩ -;refine aG (aE ?_);refine aI (aB ?_);refine aA (aF rfl) rfl ?_;refine aG (aE ?_);refine aI (aI ?_);refine vV (.cons .here (.cons .here .nil)) ?_;refine aB ?_;refine aA (aC rfl) rfl ?_;refine aA (bZ (k := cW) rfl Tryz.underlying42 rfl aL) rfl ?_;refine aA (aC rfl) rfl ?_;refine aG (aE ?_);refine bC ?_;refine dS (fun (q : CI) => q.i ≤ vs.length ∧ q.ws.length = q.i) (fun q => [(0, .bool nm), (10, ptr b10), (11, q.v), (23, .slice ca cn cc), (24, i64 vs.length), (25, i64 q.i)]) (fun _ => K) (fun q => [sl true cW q.v q.ws, i8 q.ws (code.take q.i), pt b10 (aU [str m.from_, str m.to_, i64 m.size, .slice oa on_ oc] 28), sl false hdEl (.slice oa on_ oc) m.hs]) (fun q => vs.length - q.i) ⟨0, .slice none 0 0, []⟩ ⟨Nat.zero_le _, rfl⟩ (.cons 0 rfl (.cons 10 rfl (.cons 11 rfl (.cons 23 rfl (.cons 24 rfl (.cons 25 rfl .nil)))))) rfl (fun h hh => l6 (tG h hh)) ?_;intro ⟨i, v, ws⟩ ⟨hi0, hws⟩;dsimp only at hi0 hws ⊢;refine aI (aB ?_);refine aA (cU rfl rfl) rfl ?_;refine aG (aE ?_);refine aI ?_;refine bH 26 rfl (fun h26 => ?_) (fun h26 => ?_)
 ·
  have hilt : i < vs.length := by omega
  obtain ⟨u, hu⟩ : ∃ u, vs[i]? = some u := ⟨vs[i]'hilt, List.getElem?_eq_getElem hilt⟩;obtain ⟨o, ho, hro⟩ := hR.get hu;obtain ⟨vop, vn, vtag, voct, ⟨va, hva⟩, ⟨vb, hvb⟩, vat⟩ := u;obtain ⟨rfl, rfl, rfl, rfl, rfl, hra, hrb⟩ := hro;dsimp only at hra hrb;obtain ⟨sa, sn, sc, rfl⟩ := hra.isSlice;obtain ⟨ta, tn, tc, rfl⟩ := hrb.isSlice;have hoo := hc o (List.mem_of_getElem? ho);have hoan := hoo.an;have hobn := hoo.bn;refine aX ?_;refine aE (aI ?_);refine bC (aI ?_);refine aB ?_;refine aA (bU (k := cW) dR rfl aL rfl rfl (by first | assumption | omega)) rfl ?_;refine aA (eG (n := 0) (k := cW) fP rfl aL bQ) rfl ?_;refine ol_s (cL tz41) rfl ?_;rintro _ K _ ⟨b13, rfl, rfl, rfl⟩ -;refine bP (cE fP rfl rfl rfl a7 (by first | (simp [Value.oneCell']; done) | exact fun c hc => El.one _ _ c hc) (.cons (.cons (.cons (.cons (.cons (.cons (.cons .nil))))))) (by intro j hj; simp)) ?_;rintro _ K _ ⟨rfl, rfl⟩ -;refine aG (aE ?_);refine aI (aB ?_);refine aA (aD (o' := 4) eY rfl rfl) rfl ?_;refine aA (aK ts39 rfl aL rfl) rfl ?_;refine jF (d8 (bE 9)) ?_;refine ol_s (dJ (k := (bE 9)) (ys := o.a) eM rfl rfl .here (fun w j => dB Tryz.underlying39 (SeesSl.at (k := bE 9) (.known hra) j)) (by simp; omega) (by simp; omega)) rfl ?_;rintro v31 K _ ⟨rfl, rfl, ho31⟩ -;refine rP kN ?_;rintro ⟨pa, pn, pc, rfl⟩;refine aA (aD (o' := 4) eY rfl rfl) rfl ?_;refine bP (bK ts39 rfl rfl cD a7 (.succ (.succ (.succ (.succ .zero)))) rfl) ?_;rintro _ K _ ⟨rfl, rfl⟩ -;refine aG (aE ?_);refine aI (aB ?_);refine aA (aD (o' := 5) l7 rfl rfl) rfl ?_;refine aA (aK ts39 rfl aL rfl) rfl ?_;refine jF (d8 (bE 9)) ?_;refine ol_s (dJ (k := (bE 9)) (ys := o.b) eM rfl rfl .here (fun w j => dB Tryz.underlying39 (SeesSl.at (k := bE 9) (.known hrb) j)) (by simp; omega) (by simp; omega)) rfl ?_;rintro v35 K _ ⟨rfl, rfl, ho35⟩ -;refine rP kN ?_;rintro ⟨qa, qn, qc, rfl⟩;refine aA (aD (o' := 5) l7 rfl rfl) rfl ?_;refine bP (bK ts39 rfl rfl cD a7 (.succ (.succ (.succ (.succ (.succ .zero))))) rfl) ?_;rintro _ K _ ⟨rfl, rfl⟩ -;refine aG (aE ?_);refine aB ?_;refine aA (aC rfl) rfl ?_;refine aA (bT fP rfl aL rfl rfl) rfl ?_;refine ol_s (bN (z0 := [.int .i64 0, .int .i64 0, .int .i64 0, .bool false, .slice none 0 0, .slice none 0 0, .int .i64 0]) dR tz41 rfl rfl rfl rfl (.cons rfl rfl rfl (.cons (.cons (.cons (.cons (.cons (.cons (.cons .nil))))))) .nil)) rfl ?_;rintro _ K _ ⟨b39, rfl, rfl, rfl⟩ -;refine ol_s (dJ (k := cW) (ys := [(⟨o.op, o.n, o.tag, o.oct, ⟨.slice pa pn pc, rfl⟩, ⟨.slice qa qn qc, rfl⟩, o.at_⟩ : InsV)]) nW rfl rfl a7 (fun w j => dB Tryz.underlying42 (SeesSl.at (k := cW) (.blk (.own .here) rfl rfl) j)) (by simp; omega) (by simp; omega)) rfl ?_;rintro v40 K _ ⟨rfl, rfl, ho40⟩ -;refine aA (aF rfl) rfl ?_;refine aG (aM ?_);refine aE (aB ?_);refine aA (b0 rfl rfl aH aH) rfl ?_;refine aA (aC rfl) rfl ?_;refine aG ?_;refine aN (.cons (.there (.there (.there .here))) (.cons (.there (.there .here)) (.cons (.there (.there (.there .here))) (.cons .here (.cons (.there (.there .here)) (.cons (.there (.there .here)) .nil)))))) ?_;refine dU (rS (v := ⟨o.op, o.n, o.tag, o.oct, ⟨.slice pa pn pc, rfl⟩, ⟨.slice qa qn qc, rfl⟩, o.at_⟩) (o := o) rfl rfl rfl rfl rfl) ?_;exact cI ⟨i + 1, v40, ws ++ [⟨o.op, o.n, o.tag, o.oct, ⟨.slice pa pn pc, rfl⟩, ⟨.slice qa qn qc, rfl⟩, o.at_⟩]⟩ ⟨by (show i + 1 ≤ vs.length); omega, by simp [hws]⟩ (by (show vs.length - (i + 1) < vs.length - i); omega) (.cons 0 rfl (.cons 10 rfl (.cons 11 rfl (.cons 23 rfl (.cons 24 rfl (.cons 25 rfl .nil)))))) rfl (fun h hh => by have e : code.take (i + 1) = code.take i ++ [o] := (by rw [List.take_add_one, ho]; rfl); show Sat (sl true cW v40 _ :: i8 _ (code.take (i + 1)) :: _) h; rw [e]; exact eW hh)
 ·
  have hfin : code.take i = code := List.take_of_length_le aH;rw [hfin];refine cR ?_;refine aT ?_;refine aT ?_;refine bG ?_;refine aE (aI ?_);refine aB ?_;refine aA (aC rfl) rfl ?_;refine aA (aC rfl) rfl ?_;refine aA (bT fO rfl aL rfl rfl) rfl ?_;refine bD rfl rfl (aDE nm v (.slice oa on_ oc) true ws code m _ hg hm hc hcl) (.cons (.there (.there (.there .here))) (.cons .here (.cons .here .nil))) rfl ?_;rintro _ K1 _ ⟨av, ev, M, rfl, rfl, hev⟩ le1;refine aA (aC rfl) rfl ?_;refine aA (aP rfl rfl) rfl ?_;refine aA (aP rfl rfl) rfl ?_;refine aA (aP rfl rfl) rfl ?_;refine aA (aF rfl) rfl ?_;refine aA (aF rfl) rfl ?_;refine aA (aF rfl) rfl ?_;refine aG (aE ?_);rcases herr : (Mach.run nm code m).err with _ | ⟨e, p⟩
  ·
   rw [herr] at hev;obtain ⟨rfl, rfl⟩ := hev;have hwl : ws.length = code.length := by omega
   refine aI (aB ?_);refine aA (bT fO rfl aL rfl rfl) rfl ?_;refine bD rfl rfl (pU m (.slice oa on_ oc) m.hs _ hhn) (.cons .here .nil) rfl ?_;rintro _ K1 _ ⟨rfl, rfl, rfl⟩ -;refine aG (aE ?_);refine aI (aI ?_);refine aB ?_;refine aA (aC rfl) rfl ?_;refine aA (bZ (k := cW) rfl Tryz.underlying42 rfl aL) rfl ?_;refine aA (aC rfl) rfl ?_;refine aG (aE ?_);refine bC ?_;refine vV (.cons .here (.cons .here (.cons .here .nil))) ?_;refine dS (fun (q : PI) => q.i ≤ ws.length ∧ q.ws.length = ws.length ∧ q.ws.drop q.i = ws.drop q.i) (fun q => [(11, v), (14, av), (15, i64 (Mach.run nm code m).steps), (16, .nilIface), (53, i64 ws.length), (54, i64 q.i)]) (fun _ => K1) (fun q => [sl true cW v q.ws, i8 (ws.drop q.i) (code.drop q.i), sl true cX av (Mach.run nm code m).acts]) (fun q => ws.length - q.i) ⟨0, ws⟩ ⟨Nat.zero_le _, rfl, rfl⟩ (.cons 11 rfl (.cons 14 rfl (.cons 15 rfl (.cons 16 rfl (.cons 53 rfl (.cons 54 rfl .nil)))))) rfl (fun _ h => h) ?_;intro ⟨j, xs⟩ ⟨hj0, hxl, hxd⟩;dsimp only at hj0 hxl hxd ⊢;refine aI (aB ?_);refine aA (cU rfl rfl) rfl ?_;refine aG (aE ?_);refine aI ?_;refine bH 55 rfl (fun h55 => ?_) (fun h55 => ?_)
   ·
    have hjlt : j < xs.length := by omega
    obtain ⟨u, hu⟩ : ∃ u, xs[j]? = some u := ⟨xs[j]'hjlt, List.getElem?_eq_getElem hjlt⟩;obtain ⟨o, ho⟩ : ∃ o, code[j]? = some o := ⟨code[j]'(by omega), List.getElem?_eq_getElem aH⟩;have hoo := hc o (List.mem_of_getElem? ho);have hoan := hoo.an;have hwd : ws.drop j = u :: ws.drop (j + 1) := uR hu hxd;have hcd : code.drop j = o :: code.drop (j + 1) := pC ho;rw [hwd, hcd];refine tI (fun h hh => dO rR hh) ?_;refine aX ?_;refine aE (aI ?_);refine bC (aI ?_);refine aB ?_;refine aA (aC rfl) rfl ?_;refine aA (aF rfl) rfl ?_;refine aG (aE ?_);refine aI (aI ?_);refine aB ?_;refine aA (aC rfl) rfl ?_;refine aA (aC rfl) rfl ?_;refine aA (bU (k := cW) (j := j) dR rfl (.own .here) rfl rfl hjlt) rfl ?_;refine aA (gA (k := cW) eY rfl (.own .here) hjlt) rfl ?_;refine aA (kA (k := cW) ts39 rfl (.own .here) hu rfl) rfl ?_;refine aA (bZ (k := (bE 9)) rfl Tryz.underlying39 rfl aL) rfl ?_;refine aA (aC rfl) rfl ?_;refine aG (aE ?_);refine bC ?_;refine dS (fun (q : PJ) => q.k ≤ o.a.length ∧ q.xs.length = o.a.length) (fun q => [(11, v), (14, av), (15, i64 (Mach.run nm code m).steps), (16, .nilIface), (17, i64 j), (53, i64 ws.length), (54, i64 j), (62, i64 o.a.length), (63, i64 q.k)]) (fun _ => K1) (fun q => [sl true cW v xs, sl false (bE 9) u.a.1 q.xs, sl false (bE 9) u.b.1 o.b, i8 (ws.drop (j + 1)) (code.drop (j + 1)), sl true cX av (Mach.run nm code m).acts]) (fun q => o.a.length - q.k) ⟨0, o.a⟩ ⟨Nat.zero_le _, rfl⟩ (.cons 11 rfl (.cons 14 rfl (.cons 15 rfl (.cons 16 rfl (.cons 17 rfl (.cons 53 rfl (.cons 54 rfl (.cons 62 rfl (.cons 63 rfl .nil))))))))) rfl (fun _ h => h) ?_;intro ⟨k, ys⟩ ⟨hk0, hyl⟩;dsimp only at hk0 hyl ⊢;refine aI (aB ?_);refine aA (cU rfl rfl) rfl ?_;refine aG (aE ?_);refine aI ?_;refine bH 64 rfl (fun h64 => ?_) (fun h64 => ?_)
    ·
     have hklt : k < ys.length := by omega
     refine aX ?_;refine aE (aI ?_);refine bC (aI ?_);refine aB ?_;refine aA (aC rfl) rfl ?_;refine aA (aF rfl) rfl ?_;refine aG (aE ?_);refine aB ?_;refine aA (aC rfl) rfl ?_;refine aA (aC rfl) rfl ?_;refine aA (bU (k := cW) (j := j) dR rfl (.own .here) rfl rfl hjlt) rfl ?_;refine aA (gA (k := cW) eY rfl (.own .here) hjlt) rfl ?_;refine aA (kA (k := cW) ts39 rfl (.own .here) hu rfl) rfl ?_;refine aA (aC rfl) rfl ?_;refine aA (bU (k := bE 9) (j := k) cQ rfl (.own (.there .here)) rfl rfl hklt) rfl ?_;refine bP (sO (k := bE 9) (y0 := mine) ts9 rfl rfl rfl rfl hklt (.there .here)) ?_;rintro _ K _ ⟨rfl, rfl⟩ -;refine aG (aM ?_);refine aE (aB ?_);refine aA (b0 rfl rfl aH aH) rfl ?_;refine aA (aC rfl) rfl ?_;refine aG ?_;exact cI ⟨k + 1, ys.set k mine⟩ ⟨by (show k + 1 ≤ o.a.length); omega, by simpa using hyl⟩ (by (show o.a.length - (k + 1) < o.a.length - k); omega) (.cons 11 rfl (.cons 14 rfl (.cons 15 rfl (.cons 16 rfl (.cons 17 rfl (.cons 53 rfl (.cons 54 rfl (.cons 62 rfl (.cons 63 rfl .nil))))))))) rfl (fun _ h => h)
    ·
     refine cR ?_;refine aT ?_;refine aT ?_;refine bG ?_;refine aE (aB ?_);refine aA (aC rfl) rfl ?_;refine aA (aC rfl) rfl ?_;refine aA (cJ tb41 jO (.cons rfl rfl rfl (.cons .nil) .nil)) rfl ?_;refine aA (bU (k := cW) (j := j) dR rfl (.own .here) rfl rfl hjlt) rfl ?_;refine bP (nS (k := cW) (y0 := ⟨13, 0, 0, false, nilC, nilC, 0⟩) fP rfl rfl (by first | assumption | omega) a7) ?_;rintro _ K _ ⟨rfl, rfl⟩ -;refine aG (aM ?_);refine aE (aB ?_);refine aA (b0 rfl rfl aH aH) rfl ?_;refine aA (aC rfl) rfl ?_;refine aG ?_;refine aN (.cons .here (.cons (.there (.there .here)) (.cons (.there (.there .here)) .nil))) ?_;exact cI ⟨j + 1, xs.set j ⟨13, 0, 0, false, nilC, nilC, 0⟩⟩ ⟨by (show j + 1 ≤ ws.length); omega, by simpa using hxl, by (show (xs.set j _).drop (j + 1) = ws.drop (j + 1)); rw [List.drop_set_of_lt (Nat.lt_succ_self j)]; exact nL hxd⟩ (by (show ws.length - (j + 1) < ws.length - j); omega) (.cons 11 rfl (.cons 14 rfl (.cons 15 rfl (.cons 16 rfl (.cons 53 rfl (.cons 54 rfl .nil)))))) rfl (fun _ h => h)
   ·
    refine cR ?_;refine aT ?_;refine aT ?_;refine bG ?_;refine aE (aI ?_);refine aB ?_;refine aA (aC rfl) rfl ?_;refine cG rfl rfl (vZ _) rfl ?_;refine aA (aC rfl) rfl ?_;refine aA (aP rfl rfl) rfl ?_;refine aA (aP rfl rfl) rfl ?_;refine aA (aF rfl) rfl ?_;refine aA (aF rfl) rfl ?_;refine aG (aE ?_);refine aI (aB ?_);refine aA (aC rfl) rfl ?_;refine aA (aC rfl) rfl ?_;refine aA (aC rfl) rfl ?_;refine aA (aC rfl) rfl ?_;refine aA (aF rfl) rfl ?_;refine aA (aF rfl) rfl ?_;refine aA (aF rfl) rfl ?_;refine aA (aF rfl) rfl ?_;refine aG (aE ?_);refine bM ?_;refine aN (.cons (.there (.there .here)) .nil) ?_;refine aIO rfl rfl rfl rfl rfl le1 ?_;exact ⟨_, rfl, av, rfl, rfl⟩
  ·
   rw [herr] at hev;obtain ⟨fb, rfl, rfl⟩ := hev;have hwl : ws.length = code.length := by omega
   refine aI (aB ?_);refine aA (bT fO rfl aL rfl rfl) rfl ?_;refine bD rfl rfl (pU m (.slice oa on_ oc) m.hs _ hhn) (.cons .here .nil) rfl ?_;rintro _ K1 _ ⟨rfl, rfl, rfl⟩ -;refine aG (aE ?_);refine aI (aI ?_);refine aB ?_;refine aA (aC rfl) rfl ?_;refine aA (bZ (k := cW) rfl Tryz.underlying42 rfl aL) rfl ?_;refine aA (aC rfl) rfl ?_;refine aG (aE ?_);refine bC ?_;refine vV (.cons .here (.cons .here (.cons .here (.cons .here .nil)))) ?_;refine dS (fun (q : PI) => q.i ≤ ws.length ∧ q.ws.length = ws.length ∧ q.ws.drop q.i = ws.drop q.i) (fun q => [(11, v), (14, av), (15, i64 (Mach.run nm code m).steps), (16, .iface 118 (ptr fb)), (53, i64 ws.length), (54, i64 q.i)]) (fun _ => K1) (fun q => [sl true cW v q.ws, i8 (ws.drop q.i) (code.drop q.i), sl true cX av (Mach.run nm code m).acts, pt fb (aU [i64 e, i64 p] 123)]) (fun q => ws.length - q.i) ⟨0, ws⟩ ⟨Nat.zero_le _, rfl, rfl⟩ (.cons 11 rfl (.cons 14 rfl (.cons 15 rfl (.cons 16 rfl (.cons 53 rfl (.cons 54 rfl .nil)))))) rfl (fun _ h => h) ?_;intro ⟨j, xs⟩ ⟨hj0, hxl, hxd⟩;dsimp only at hj0 hxl hxd ⊢;refine aI (aB ?_);refine aA (cU rfl rfl) rfl ?_;refine aG (aE ?_);refine aI ?_;refine bH 55 rfl (fun h55 => ?_) (fun h55 => ?_)
   ·
    have hjlt : j < xs.length := by omega
    obtain ⟨u, hu⟩ : ∃ u, xs[j]? = some u := ⟨xs[j]'hjlt, List.getElem?_eq_getElem hjlt⟩;obtain ⟨o, ho⟩ : ∃ o, code[j]? = some o := ⟨code[j]'(by omega), List.getElem?_eq_getElem aH⟩;have hoo := hc o (List.mem_of_getElem? ho);have hoan := hoo.an;have hwd : ws.drop j = u :: ws.drop (j + 1) := uR hu hxd;have hcd : code.drop j = o :: code.drop (j + 1) := pC ho;rw [hwd, hcd];refine tI (fun h hh => dO rR hh) ?_;refine aX ?_;refine aE (aI ?_);refine bC (aI ?_);refine aB ?_;refine aA (aC rfl) rfl ?_;refine aA (aF rfl) rfl ?_;refine aG (aE ?_);refine aI (aI ?_);refine aB ?_;refine aA (aC rfl) rfl ?_;refine aA (aC rfl) rfl ?_;refine aA (bU (k := cW) (j := j) dR rfl (.own .here) rfl rfl hjlt) rfl ?_;refine aA (gA (k := cW) eY rfl (.own .here) hjlt) rfl ?_;refine aA (kA (k := cW) ts39 rfl (.own .here) hu rfl) rfl ?_;refine aA (bZ (k := (bE 9)) rfl Tryz.underlying39 rfl aL) rfl ?_;refine aA (aC rfl) rfl ?_;refine aG (aE ?_);refine bC ?_;refine dS (fun (q : PJ) => q.k ≤ o.a.length ∧ q.xs.length = o.a.length) (fun q => [(11, v), (14, av), (15, i64 (Mach.run nm code m).steps), (16, .iface 118 (ptr fb)), (17, i64 j), (53, i64 ws.length), (54, i64 j), (62, i64 o.a.length), (63, i64 q.k)]) (fun _ => K1) (fun q => [sl true cW v xs, sl false (bE 9) u.a.1 q.xs, sl false (bE 9) u.b.1 o.b, i8 (ws.drop (j + 1)) (code.drop (j + 1)), sl true cX av (Mach.run nm code m).acts, pt fb (aU [i64 e, i64 p] 123)]) (fun q => o.a.length - q.k) ⟨0, o.a⟩ ⟨Nat.zero_le _, rfl⟩ (.cons 11 rfl (.cons 14 rfl (.cons 15 rfl (.cons 16 rfl (.cons 17 rfl (.cons 53 rfl (.cons 54 rfl (.cons 62 rfl (.cons 63 rfl .nil))))))))) rfl (fun _ h => h) ?_;intro ⟨k, ys⟩ ⟨hk0, hyl⟩;dsimp only at hk0 hyl ⊢;refine aI (aB ?_);refine aA (cU rfl rfl) rfl ?_;refine aG (aE ?_);refine aI ?_;refine bH 64 rfl (fun h64 => ?_) (fun h64 => ?_)
    ·
     have hklt : k < ys.length := by omega
     refine aX ?_;refine aE (aI ?_);refine bC (aI ?_);refine aB ?_;refine aA (aC rfl) rfl ?_;refine aA (aF rfl) rfl ?_;refine aG (aE ?_);refine aB ?_;refine aA (aC rfl) rfl ?_;refine aA (aC rfl) rfl ?_;refine aA (bU (k := cW) (j := j) dR rfl (.own .here) rfl rfl hjlt) rfl ?_;refine aA (gA (k := cW) eY rfl (.own .here) hjlt) rfl ?_;refine aA (kA (k := cW) ts39 rfl (.own .here) hu rfl) rfl ?_;refine aA (aC rfl) rfl ?_;refine aA (bU (k := bE 9) (j := k) cQ rfl (.own (.there .here)) rfl rfl hklt) rfl ?_;refine bP (sO (k := bE 9) (y0 := mine) ts9 rfl rfl rfl rfl hklt (.there .here)) ?_;rintro _ K _ ⟨rfl, rfl⟩ -;refine aG (aM ?_);refine aE (aB ?_);refine aA (b0 rfl rfl aH aH) rfl ?_;refine aA (aC rfl) rfl ?_;refine aG ?_;exact cI ⟨k + 1, ys.set k mine⟩ ⟨by (show k + 1 ≤ o.a.length); omega, by simpa using hyl⟩ (by (show o.a.length - (k + 1) < o.a.length - k); omega) (.cons 11 rfl (.cons 14 rfl (.cons 15 rfl (.cons 16 rfl (.cons 17 rfl (.cons 53 rfl (.cons 54 rfl (.cons 62 rfl (.cons 63 rfl .nil))))))))) rfl (fun _ h => h)
    ·
     refine cR ?_;refine aT ?_;refine aT ?_;refine bG ?_;refine aE (aB ?_);refine aA (aC rfl) rfl ?_;refine aA (aC rfl) rfl ?_;refine aA (cJ tb41 jO (.cons rfl rfl rfl (.cons .nil) .nil)) rfl ?_;refine aA (bU (k := cW) (j := j) dR rfl (.own .here) rfl rfl hjlt) rfl ?_;refine bP (nS (k := cW) (y0 := ⟨13, 0, 0, false, nilC, nilC, 0⟩) fP rfl rfl (by first | assumption | omega) a7) ?_;rintro _ K _ ⟨rfl, rfl⟩ -;refine aG (aM ?_);refine aE (aB ?_);refine aA (b0 rfl rfl aH aH) rfl ?_;refine aA (aC rfl) rfl ?_;refine aG ?_;refine aN (.cons .here (.cons (.there (.there .here)) (.cons (.there (.there .here)) (.cons (.there (.there .here)) .nil)))) ?_;exact cI ⟨j + 1, xs.set j ⟨13, 0, 0, false, nilC, nilC, 0⟩⟩ ⟨by (show j + 1 ≤ ws.length); omega, by simpa using hxl, by (show (xs.set j _).drop (j + 1) = ws.drop (j + 1)); rw [List.drop_set_of_lt (Nat.lt_succ_self j)]; exact nL hxd⟩ (by (show ws.length - (j + 1) < ws.length - j); omega) (.cons 11 rfl (.cons 14 rfl (.cons 15 rfl (.cons 16 rfl (.cons 53 rfl (.cons 54 rfl .nil)))))) rfl (fun _ h => h)
   ·
    refine cR ?_;refine aT ?_;refine aT ?_;refine bG ?_;refine aE (aI ?_);refine aB ?_;refine aA (aC rfl) rfl ?_;refine bD rfl rfl (zU fb e p _ [pt fb (aU [i64 e, i64 p] 123)] (hE.mono le1) (.own .here)) (.cons (.there (.there (.there .here))) .nil) rfl ?_;rintro _ K1 _ ⟨rfl, rfl, rfl⟩ -;refine aA (aC rfl) rfl ?_;refine aA (aP rfl rfl) rfl ?_;refine aA (aP rfl rfl) rfl ?_;refine aA (aF rfl) rfl ?_;refine aA (aF rfl) rfl ?_;refine aG (aE ?_);refine aI (aB ?_);refine aA (aC rfl) rfl ?_;refine aA (aC rfl) rfl ?_;refine aA (aC rfl) rfl ?_;refine aA (aC rfl) rfl ?_;refine aA (aF rfl) rfl ?_;refine aA (aF rfl) rfl ?_;refine aA (aF rfl) rfl ?_;refine aA (aF rfl) rfl ?_;refine aG (aE ?_);refine bM ?_;refine aN (.cons (.there (.there (.there .here))) .nil) ?_;refine aIO rfl rfl rfl rfl rfl le1 ?_;exact ⟨_, rfl, av, rfl, rfl⟩
end Go.Proofs
end
section
namespace Go.Proofs
open Go Go.SL Go.Syn Go.Mach Go.Cmp
structure MsgSz (m : Msg) : Prop where
 from_ : m.from_.length ≤ 140737488355328
 to_ : m.to_.length ≤ 140737488355328
 hn : m.hs.length ≤ 140737488355328
 hs : ∀ h ∈ m.hs, h.1.length ≤ 140737488355328 ∧ h.2.length ≤ 140737488355328
structure SI where
 i : Nat
 n : Int
theorem aBY (m : Msg) (hv : Value) (K : Hl) (hh : Ksl hdEl K hv m.hs) (hz : MsgSz m) : Sp Tryz.prog 17 [msgV m hv] K [] (Ret fun v K' L' => ∃ b : Bool, v = .bool b ∧ (b = true → MsgOk m) ∧ K' = K ∧ L' = []) := by
 obtain ⟨z1, z2, z3, z4⟩ := hz;obtain ⟨ha, hn, hc, rfl⟩ := hh.isSlice;refine bA Tryz.func17 rfl Tryz.ntmps17 rfl rfl fun F w => ?_
 refine aI (aB ?_);refine ol_s (d9 rfl rfl) rfl ?_;rintro _ K _ ⟨b1, rfl, rfl, rfl⟩ -;refine aA (aF rfl) rfl ?_;refine aG (aE ?_);refine aI (aB ?_);refine aA (aD (o' := 0) aB9 rfl rfl) rfl ?_;refine aA (aK ts9 rfl aL rfl) rfl ?_;refine aA (cH rfl Tryz.underlying9 rfl) rfl ?_;refine aA (aD (o' := 1) aCA rfl rfl) rfl ?_;refine aA (aK ts9 rfl aL rfl) rfl ?_;refine aA (cH rfl Tryz.underlying9 rfl) rfl ?_;refine aA (b0 rfl rfl aH aH) rfl ?_;refine aA (aD (o' := 3) j1 rfl rfl) rfl ?_;refine aA (aK ts26 rfl aL rfl) rfl ?_;refine aA (bZ (k := hdEl) rfl Tryz.underlying26 rfl aL) rfl ?_;refine aA (b0 rfl rfl aH aH) rfl ?_;refine aA (aF rfl) rfl ?_;refine aG (aE ?_);refine aI (aI ?_);refine aB ?_;refine aA (aF rfl) rfl ?_;refine aG (aE ?_);refine bC ?_;refine dS (fun (q : SI) => q.i ≤ m.hs.length ∧ 0 ≤ q.n ∧ q.n ≤ 844424930131968 ∧ (q.n ≤ 16384 → m.from_.length ≤ 16384 ∧ m.to_.length ≤ 16384 ∧ m.hs.length ≤ 16384 ∧ ∀ j h, j < q.i → m.hs[j]? = some h → h.1.length ≤ 16384 ∧ h.2.length ≤ 16384)) (fun q => [(1, ptr b1), (3, i64 q.n), (4, i64 q.i)]) (fun _ => K) (fun _ => [pt b1 (aU [str m.from_, str m.to_, i64 m.size, .slice ha hn hc] 28)]) (fun q => m.hs.length - q.i) ⟨0, (m.from_.length : Int) + m.to_.length + m.hs.length⟩ ⟨Nat.zero_le _, by simp only []; omega, by simp only []; omega, fun h => ⟨by simp only [] at h; omega, by simp only [] at h; omega, by simp only [] at h; omega, fun j h hj => by simp only [] at hj; omega⟩⟩ (.cons 1 rfl (.cons 3 rfl (.cons 4 rfl .nil))) rfl (fun _ h => h) ?_;intro ⟨i, n⟩ ⟨hi0, hn0, hn1, hn2⟩;dsimp only at hi0 hn0 hn1 hn2 ⊢;refine aI (aI ?_);refine aB ?_;refine aA (aC rfl) rfl ?_;refine aA (aD (o' := 3) j1 rfl rfl) rfl ?_;refine aA (aK ts26 rfl aL rfl) rfl ?_;refine aA (bZ (k := hdEl) rfl Tryz.underlying26 rfl aL) rfl ?_;refine aA (cU rfl rfl) rfl ?_;refine aA (aC rfl) rfl ?_;refine cB 21 rfl (fun g21 => ?_) (fun g21 => ?_)
 ·
  have hilt : i < m.hs.length := by omega
  obtain ⟨x, hx⟩ : ∃ x, m.hs[i]? = some x := ⟨m.hs[i]'hilt, List.getElem?_eq_getElem hilt⟩;have hxz := z4 x (List.mem_of_getElem? hx);refine aV rfl rfl ?_;refine aA (aC rfl) rfl ?_;refine aV rfl rfl ?_;refine aA (iD rfl rfl) rfl ?_;refine aA (bJ rfl rfl) rfl ?_;refine aG (aE ?_);refine bH 24 rfl (fun h24 => ?_) (fun h24 => ?_)
  ·
   refine aX ?_;refine aE (aI ?_);refine bC ?_;refine t_draw (anc := [0, 0, 2, 0, 14, 30, 62, 126, 255, 0, 512, 0, 3584, 7680, 15872, 32256, 65535, 131071]) (ord := [0, 1, 2, 3, 4, 5, 6, 7, 8, 9, 10, 11, 12, 13, 14, 15, 16, 17]) [] [] mixed (by decide +kernel) (cT _) ?_;refine dl_ev rfl rfl (.none rfl) rfl rfl (aC rfl) rfl ?_;refine dl_ev rfl rfl (.none rfl) rfl rfl (aD (o' := 3) j1 rfl rfl) rfl ?_;refine dl_ev rfl rfl (.none rfl) rfl rfl (aK ts26 rfl aL rfl) rfl ?_;refine dl_ev rfl rfl (.none rfl) rfl rfl (aC rfl) rfl ?_;refine dl_ev rfl rfl (.none rfl) rfl rfl (bU (k := hdEl) nA rfl aL rfl rfl (by first | assumption | omega)) rfl ?_;refine dl_ev rfl rfl (.none rfl) rfl rfl (gA (k := hdEl) aB7 rfl aL (by first | assumption | omega)) rfl ?_;refine dl_ev rfl rfl (.none rfl) rfl rfl (kA (k := hdEl) ts9 rfl aL bQ rfl) rfl ?_;refine dl_ev rfl rfl (.none rfl) rfl rfl (cH rfl Tryz.underlying9 rfl) rfl ?_;refine dl_ev rfl rfl (.none rfl) rfl rfl (b0 rfl rfl aH aH) rfl ?_;refine dl_ev rfl rfl (.none rfl) rfl rfl (aD (o' := 3) j1 rfl rfl) rfl ?_;refine dl_ev rfl rfl (.none rfl) rfl rfl (aK ts26 rfl aL rfl) rfl ?_;refine dl_ev rfl rfl (.none rfl) rfl rfl (aC rfl) rfl ?_;refine dl_ev rfl rfl (.none rfl) rfl rfl (bU (k := hdEl) nA rfl aL rfl rfl (by first | assumption | omega)) rfl ?_;refine dl_ev rfl rfl (.none rfl) rfl rfl (gA (k := hdEl) aB8 rfl aL (by first | assumption | omega)) rfl ?_;refine dl_ev rfl rfl (.none rfl) rfl rfl (kA (k := hdEl) ts9 rfl aL bQ rfl) rfl ?_;refine dl_ev rfl rfl (.none rfl) rfl rfl (cH rfl Tryz.underlying9 rfl) rfl ?_;refine dl_ev rfl rfl (.none rfl) rfl rfl (b0 rfl rfl aH aH) rfl ?_;refine dl_ev rfl rfl (.none rfl) rfl rfl (aF rfl) rfl ?_;refine dl_nil ?_;refine aM (aE ?_);refine aB ?_;refine aA (aC rfl) rfl ?_;refine aA (b0 rfl rfl aH aH) rfl ?_;refine aA (aF rfl) rfl ?_;refine aG ?_;exact cI ⟨i + 1, n + x.1.length + x.2.length⟩ ⟨by (show i + 1 ≤ m.hs.length); omega, by (show (0 : Int) ≤ n + x.1.length + x.2.length); omega, by (show n + x.1.length + x.2.length ≤ (844424930131968 : Int)); omega, fun h => by simp only [] at h; obtain ⟨q1, q2, q3, q4⟩ := hn2 aH; exact ⟨q1, q2, q3, fun j y hj hy => by rcases Nat.lt_or_ge j i with h5 | h5; exact q4 j y h5 hy; (obtain rfl : j = i := (by simp only [] at hj; omega)); rw [hx] at hy; cases hy; omega⟩⟩ (by (show m.hs.length - (i + 1) < m.hs.length - i); omega) (.cons 1 rfl (.cons 3 rfl (.cons 4 rfl .nil))) rfl (fun _ h => h)
  ·
   refine cR ?_;refine aT ?_;refine aT ?_;refine bG ?_;refine aE (aI ?_);refine aB ?_;refine aA (aC rfl) rfl ?_;refine aA (iD rfl rfl) rfl ?_;refine aA (aF rfl) rfl ?_;refine aG (aE ?_);refine bM ?_;refine aN .nil ?_;refine bL rfl rfl (Hl.le_refl _) ?_;exact ⟨_, rfl, _, rfl, fun h => absurd (of_decide_eq_true h) h24, rfl, rfl⟩
 ·
  refine aR rfl rfl rfl ?_;refine aR rfl rfl rfl ?_;refine aA (bB rfl rfl) rfl ?_;refine aG (aE ?_);refine cO rfl ?_;refine cR ?_;refine aT ?_;refine aT ?_;refine bG ?_;refine aE (aI ?_);refine aB ?_;refine aA (aC rfl) rfl ?_;refine aA (iD rfl rfl) rfl ?_;refine aA (aF rfl) rfl ?_;refine aG (aE ?_);refine bM ?_;refine aN .nil ?_;refine bL rfl rfl (Hl.le_refl _) ?_;refine ⟨_, rfl, _, rfl, fun h => ?_, rfl, rfl⟩
  obtain ⟨q1, q2, q3, q4⟩ := hn2 (of_decide_eq_true h);exact ⟨by omega, fun x hx => by obtain ⟨j, hj⟩ := List.getElem?_of_mem hx; have := q4 j x (by have := lL hj; omega) hj; omega, by omega, by omega⟩
theorem aF2 {n : Nat} {ds : List Deferred} {w0 : World} {F : Hl} {fr : Fr} {K : Hl} {L : List Asn} {dst : Option Tmp} {ty t' : TypeId} {pos : String} {aft : Array Edge} {g : Option (Nat × Bool)} {x y : Operand} {a c : gM} (hx : fr.ev x = some (.agg #[i64 a.1, str a.2])) (hy : fr.ev y = some (.agg #[i64 c.1, str c.2])) :
  Ev ⟨Tryz.prog, n, ds, w0, F⟩ fr K L ⟨dst, .binOp .neq 34 x y t', ty, pos, aft, g⟩ (.bool (!decide (a = c))) :=
 fN hx hy (fun w => run_eqGuard_agg w _ _ _ _ _ _ Tryz.eqGuardType34) fun w => by
  rw [run_neq_struct, aI8]; rfl
theorem aDP (av bv : Value) (xs ys : List gM) (K : Hl) (hx : xs.length ≤ 1000000) (hy : ys.length ≤ 1000000) : Sp Tryz.prog 22 [av, bv] K [sl true cX av xs, sl true cX bv ys] (Ret fun v K' L' => v = .bool (decide (xs = ys)) ∧ K' = K ∧ L' = [sl true cX av xs, sl true cX bv ys]) := by
 refine bA Tryz.func22 rfl Tryz.ntmps22 rfl rfl fun F w => ?_
 refine aI (aB ?_);refine aA (aF rfl) rfl ?_;refine aG (aE ?_);refine aI (aI ?_);refine aB ?_;refine aA (aC rfl) rfl ?_;refine aA (bZ (k := cX) rfl Tryz.underlying29 rfl (.own .here)) rfl ?_;refine aA (aC rfl) rfl ?_;refine aA (bZ (k := cX) rfl Tryz.underlying29 rfl (.own (.there .here))) rfl ?_;refine aA (fF rfl rfl) rfl ?_;refine aG (aE ?_)
 first | refine bH 10 rfl (fun h10 => ?_) (fun h10 => ?_) | refine d6 10 rfl (fun h10 => ?_) (fun h10 => ?_)
 ·
  refine aI (aB ?_);refine aA (aF rfl) rfl ?_;refine aG (aE ?_);refine bM ?_;refine bF ?_;refine bL rfl rfl (Hl.le_refl _) ?_;have hne : ¬ xs = ys := (fun e => by rw [e] at h10; exact absurd rfl h10);exact ⟨_, rfl, by rw [decide_eq_false hne], rfl, rfl⟩
 ·
  have hlen : xs.length = ys.length := by omega
  refine aX ?_;refine aE (aI ?_);refine aI (aB ?_);refine aA (aF rfl) rfl ?_;refine aG (aE ?_);refine bC ?_;refine dS (fun (i : Nat) => i ≤ xs.length ∧ xs.take i = ys.take i) (fun i => [(0, av), (1, bv), (5, i64 i)]) (fun _ => K) (fun _ => [sl true cX av xs, sl true cX bv ys]) (fun i => xs.length - i) 0 ⟨Nat.zero_le _, by simp⟩ (.cons 0 rfl (.cons 1 rfl (.cons 5 rfl .nil))) rfl (fun _ h => h) ?_;intro i ⟨hi0, hi1⟩;refine aI (aI ?_);refine aB ?_;refine aA (aC rfl) rfl ?_;refine aA (aC rfl) rfl ?_;refine aA (bZ (k := cX) rfl Tryz.underlying29 rfl (.own .here)) rfl ?_;refine aA (cU rfl rfl) rfl ?_;refine aG (aE ?_);refine bH 14 rfl (fun h14 => ?_) (fun h14 => ?_)
  ·
   have hilt : i < xs.length := by omega
   obtain ⟨x, hxx⟩ : ∃ x, xs[i]? = some x := ⟨xs[i]'hilt, List.getElem?_eq_getElem hilt⟩;obtain ⟨y, hyy⟩ : ∃ y, ys[i]? = some y := ⟨ys[i]'(by omega), List.getElem?_eq_getElem aH⟩;refine aX ?_;refine aE (aI ?_);refine bC (aI ?_);refine t_draw (anc := [0, 0, 3, 7, 0, 0, 48, 112, 255]) (ord := [0, 1, 2, 3, 4, 5, 6, 7, 8]) [] [] mixed (by decide +kernel) (cT _) ?_;refine dl_ev rfl rfl (.none rfl) rfl rfl (aC rfl) rfl ?_;refine dl_ev rfl rfl (.none rfl) rfl rfl (aC rfl) rfl ?_;refine dl_ev rfl rfl (.none rfl) rfl rfl (bU (k := cX) (j := i) gR rfl (.own .here) rfl rfl aH) rfl ?_;refine dl_ev rfl rfl (.none rfl) rfl rfl (eG (n := 0) (k := cX) iY rfl (.own .here) hxx) rfl ?_;refine dl_ev rfl rfl (.none rfl) rfl rfl (aC rfl) rfl ?_;refine dl_ev rfl rfl (.none rfl) rfl rfl (aC rfl) rfl ?_;refine dl_ev rfl rfl (.none rfl) rfl rfl (bU (k := cX) (j := i) gR rfl (.own (.there .here)) rfl rfl aH) rfl ?_;refine dl_ev rfl rfl (.none rfl) rfl rfl (eG (n := 0) (k := cX) iY rfl (.own (.there .here)) hyy) rfl ?_;refine dl_ev rfl rfl (.none rfl) rfl rfl (aF2 (a := x) (c := y) rfl rfl) rfl ?_;refine dl_nil ?_;refine aE ?_;refine d6 25 rfl (fun h25 => ?_) (fun h25 => ?_)
   ·
    have hxy : ¬ x = y := by simpa using h25
    refine aI (aB ?_);refine aA (aF rfl) rfl ?_;refine aG (aE ?_);refine bM ?_;refine bR ?_;refine bF ?_;refine bF ?_;refine bR ?_;refine bF ?_;refine bL rfl rfl (Hl.le_refl _) ?_;have hne : ¬ xs = ys := (fun e => by rw [e] at hxx; rw [hxx] at hyy; cases hyy; exact hxy rfl);exact ⟨_, rfl, by rw [decide_eq_false hne], rfl, rfl⟩
   ·
    have hxy : x = y := by simpa using h25
    refine aX ?_;refine aM (aE ?_);refine aB ?_;refine aA (aC rfl) rfl ?_;refine aA (b0 rfl rfl aH aH) rfl ?_;refine aA (aF rfl) rfl ?_;refine aG ?_;exact cI (i + 1) ⟨by omega, by rw [List.take_add_one, List.take_add_one, hi1, hxx, hyy, hxy]⟩ aH (.cons 0 rfl (.cons 1 rfl (.cons 5 rfl .nil))) rfl (fun _ h => h)
  ·
   refine cR ?_;refine aT ?_;refine aT ?_;refine bG ?_;refine aE (aI ?_);refine aB ?_;refine aA (aF rfl) rfl ?_;refine aG (aE ?_);refine bM ?_;refine bL rfl rfl (Hl.le_refl _) ?_;have he : xs = ys := (by rw [List.take_of_length_le aH, List.take_of_length_le aH] at hi1; exact hi1);exact ⟨_, rfl, by rw [decide_eq_true he], rfl, rfl⟩
theorem w6 (s : aO) (m : Msg) (hv : Value) (K : Hl) (hg : Glob K) (hE : ErrT K) (hh : Ksl hdEl K hv m.hs) (hm : MsgOk m) : Sp Tryz.prog 16 [str s, msgV m hv] K [] (Ret fun v K' L' => ∃ av, v = .tuple #[av, i64 (rn s m).2.1, .bool (rn s m).2.2] ∧ L' = [sl true cX av (rn s m).1]) := by
 have hh0 := hh;obtain ⟨ha, hn, hc, rfl⟩ := hh.isSlice;refine bA Tryz.func16 rfl Tryz.ntmps16 rfl rfl fun F w => ?_
 refine aI (aB ?_);refine ol_s (d9 rfl rfl) rfl ?_;rintro _ K _ ⟨b3, rfl, rfl, rfl⟩ -;refine aA (aF rfl) rfl ?_;refine aA (aF rfl) rfl ?_;refine aA (aF rfl) rfl ?_;refine aG (aE ?_);refine aI (aB ?_);refine aA (aC rfl) rfl ?_;refine bD rfl rfl (mK s _ hg hE) .nil rfl ?_;rintro _ K1 _ ⟨x, rfl, hP, rfl⟩ le1;refine aA (aC rfl) rfl ?_;refine aA (aP rfl rfl) rfl ?_;refine aA (aP rfl rfl) rfl ?_;refine aA (aP rfl rfl) rfl ?_;refine aA (aF rfl) rfl ?_;refine aA (aF rfl) rfl ?_;refine aA (aF rfl) rfl ?_;refine aG (aE ?_);rcases hP with ⟨b, r, h6, hr, rfl, hat⟩ | ⟨rfl, hno⟩
 ·
  have hpc : pc s = (0, -1) := (by unfold pc; rw [if_neg aH, hr]);rw [hpc];have hrn : rn s m = ((sayC r m).acts, (te (sayC r m).err).1, true) := (by unfold rn; rw [if_neg aH, hr]);refine aI (aI ?_);refine aB ?_;refine aA (aC rfl) rfl ?_;refine aA (jC Tryz.underlying43 rfl rfl) rfl ?_;refine aA (aC rfl) rfl ?_;refine aV rfl rfl ?_;refine aA (aC rfl) rfl ?_;refine aV rfl rfl ?_;refine aA (fF rfl rfl) rfl ?_;refine aA (bB rfl rfl) rfl ?_;refine aG (aE ?_);refine bH 24 rfl (fun h24 => ?_) (fun h24 => ?_)
  ·
   exact absurd rfl h24
  ·
   refine aX ?_;refine aE (aI ?_);refine aB ?_;refine aA (aC rfl) rfl ?_;refine aA (bT fO rfl aL rfl rfl) rfl ?_;refine bD rfl rfl (xD b r s m (.slice ha hn hc) _ (hg.mono le1) (hE.mono le1) hr h6 hat (hh0.mono le1) hm) .nil rfl ?_;rintro _ K2 _ ⟨av, rfl, rfl⟩ le2;refine aA (aC rfl) rfl ?_;refine aA (aP rfl rfl) rfl ?_;refine aA (aP rfl rfl) rfl ?_;refine aA (aP rfl rfl) rfl ?_;refine aA (aF rfl) rfl ?_;refine aA (aF rfl) rfl ?_;refine aA (aF rfl) rfl ?_;refine aG (aE ?_);refine aI (aB ?_);refine aA (aC rfl) rfl ?_;refine aA (aC rfl) rfl ?_;refine aA (aF rfl) rfl ?_;refine aA (aF rfl) rfl ?_;refine aA (aF rfl) rfl ?_;refine aG (aE ?_);refine bM ?_;refine aN (.cons .here .nil) ?_;refine oE rfl rfl rfl rfl (Hl.le_trans le1 le2) ?_;exact ⟨_, rfl, av, by rw [hrn], by rw [hrn]⟩
 ·
  have hrn : rn s m = ([], (pc s).1, false) := (by unfold rn pc; rcases hno with h | ⟨e, h⟩; (rw [if_pos h, if_pos h]); (split; rfl; rw [h]));refine aI (aI ?_);refine aB ?_;refine aA (aC rfl) rfl ?_;refine aA (jC Tryz.underlying43 rfl rfl) rfl ?_;refine aA (aC rfl) rfl ?_;refine aR rfl rfl rfl ?_;refine aR rfl rfl rfl ?_;refine aA (bJ rfl rfl) rfl ?_;refine aG (aE ?_);refine eK rfl ?_;refine aI (aB ?_);refine aA (aC rfl) rfl ?_;refine aA (aF rfl) rfl ?_;refine aA (aF rfl) rfl ?_;refine aA (aF rfl) rfl ?_;refine aG (aE ?_);refine bM ?_;refine bF ?_;refine aN .nil ?_;refine dU (fun h hh => l6 (zf := true) (k := cX) hh) ?_;refine oE rfl rfl rfl rfl le1 ?_;exact ⟨_, rfl, _, by rw [hrn], by rw [hrn]⟩
theorem aBF (K : Hl) (hg : Glob K) (hE : ErrT K) : Sp Tryz.prog 23 [] K [] (Ret fun v K' L' => v = .bool true ∧ L' = []) := by
 have h1 := aPP;have h2 := aPQ;refine bA Tryz.func23 rfl Tryz.ntmps23 rfl rfl fun F w => ?_
 refine aI (aB ?_);refine aA (aF rfl) rfl ?_;refine aG (aE ?_);refine aI (aB ?_);refine bD rfl rfl (mK t1 _ hg hE) .nil rfl ?_;rintro _ K1 _ ⟨x, rfl, hP, rfl⟩ le1;rw [h1];obtain ⟨b, rfl⟩ : ∃ b, x = ptr b := (by rcases hP with ⟨b, _, _, _, rfl, _⟩ | ⟨_, hno⟩; exact ⟨b, rfl⟩; (exfalso; unfold pc at h1; rcases hno with h | ⟨e, h⟩; (rw [if_pos h] at h1; cases h1); (split at h1; cases h1; rw [h] at h1; simp only [] at h1; subst h1; exact absurd h (by intro h; have := aPX; rw [h] at this; cases this))));refine aA (aC rfl) rfl ?_;refine aA (aP rfl rfl) rfl ?_;refine aA (aP rfl rfl) rfl ?_;refine aA (aP rfl rfl) rfl ?_;refine aA (aF rfl) rfl ?_;refine aA (aF rfl) rfl ?_;refine aA (aF rfl) rfl ?_;refine aG (aE ?_);refine aI (aB ?_);refine bD rfl rfl (mK tb _ (hg.mono le1) (hE.mono le1)) .nil rfl ?_;rintro _ K2 _ ⟨y, rfl, hP2, rfl⟩ le2;rw [h2];obtain rfl : y = .pointer none := (by rcases hP2 with ⟨b, r, h6, hr, _, _⟩ | ⟨rfl, _⟩; (exfalso; unfold pc at h2; rw [if_neg aH, hr] at h2; cases h2); rfl);refine aA (aC rfl) rfl ?_;refine aA (aP rfl rfl) rfl ?_;refine aA (aP rfl rfl) rfl ?_;refine aA (aP rfl rfl) rfl ?_;refine aA (aF rfl) rfl ?_;refine aA (aF rfl) rfl ?_;refine aA (aF rfl) rfl ?_;refine aG (aE ?_);refine aI (aB ?_);refine aA (aC rfl) rfl ?_;refine aA (aC0 Tryz.underlying43 rfl rfl) rfl ?_;refine aA (aC rfl) rfl ?_;refine aV rfl rfl ?_;refine aA (aC rfl) rfl ?_;refine aV rfl rfl ?_;refine aA (bV rfl rfl) rfl ?_;refine aA (bJ rfl rfl) rfl ?_;refine aA (aC rfl) rfl ?_;refine aV rfl rfl ?_;refine aA (aC rfl) rfl ?_;refine aV rfl rfl ?_;refine aA (jC Tryz.underlying43 rfl rfl) rfl ?_;refine aA (bJ rfl rfl) rfl ?_;refine aA (aC rfl) rfl ?_;refine aV rfl rfl ?_;refine aA (aC rfl) rfl ?_;refine aV rfl rfl ?_;refine aA (bV rfl rfl) rfl ?_;refine aA (bJ rfl rfl) rfl ?_;refine aA (aC rfl) rfl ?_;refine aV rfl rfl ?_;refine aA (aC rfl) rfl ?_;refine aV rfl rfl ?_;refine aA (bV rfl rfl) rfl ?_;refine aA (bJ rfl rfl) rfl ?_;refine aA (aF rfl) rfl ?_;refine aG (aE ?_);refine bM ?_;refine bL rfl rfl (Hl.le_trans le1 le2) ?_;exact ⟨_, rfl, rfl, rfl⟩
end Go.Proofs
end
section
namespace Go.Proofs
open Go Go.SL Go.Syn Go.Mach Go.Cmp
theorem aM6 : MsgOk m1 := ⟨by decide, by decide, by decide, by decide⟩
theorem aG2 (K : Hl) (hg : Glob K) (hE : ErrT K) : Sp Tryz.prog 14 [] K [] (Ret fun v K' L' => v = .bool true ∧ L' = []) := by
 have h1 := aPS;have h2 := aPT;refine bA Tryz.func14 rfl Tryz.ntmps14 rfl rfl fun F w => ?_
 refine aI (aB ?_);refine aA (aF rfl) rfl ?_;refine aG (aE ?_);refine aI (aB ?_);refine bD rfl rfl (aBF _ hg hE) .nil rfl ?_;rintro _ K1 _ ⟨rfl, rfl⟩ le1;refine aA (aF rfl) rfl ?_;refine aG (aE ?_);refine aI (aB ?_);refine aA (cJ tb25 aNA (.cons rfl rfl rfl (.cons .nil) (.cons rfl rfl rfl (.skip (.cons .nil)) .nil))) rfl ?_;refine ol_s (bN (z0 := [(str []), (str [])]) nA tz25 rfl rfl rfl rfl (.cons rfl rfl rfl (.cons (.cons .nil)) .nil)) rfl ?_;rintro _ K _ ⟨b11, rfl, rfl, rfl⟩ -;refine e7 fun K2 le2 hb11 => ?_
 have hh : Ksl hdEl K2 (.slice (some ⟨b11, 0, none⟩) 1 1) m1.hs := .inr ⟨b11, 0, 1, _, _, rfl, ⟨_, hb11⟩, rfl⟩;have le12 := Hl.le_trans le1 le2;refine aA (cJ tb28 aP4 (.cons rfl rfl rfl (.skip (.skip (.skip (.cons .nil)))) .nil)) rfl ?_;refine ol_s (cL tz28) rfl ?_;rintro _ K _ ⟨b2, rfl, rfl, rfl⟩ -;refine bP (cE fO rfl rfl rfl a7 (by first | (simp [Value.oneCell']; done) | exact fun c hc => El.one _ _ c hc) (.cons (.cons (.cons (.cons .nil)))) (by intro j hj; simp)) ?_;rintro _ K _ ⟨rfl, rfl⟩ -;refine aG (aE ?_);refine aI (aB ?_);refine aA (bT fO rfl aL rfl rfl) rfl ?_;refine bD rfl rfl (w6 t1 m1 _ _ (hg.mono le12) (hE.mono le12) hh aM6) .nil rfl ?_;rintro _ K3 _ ⟨av, rfl, rfl⟩ le3;rw [h1];have hh3 := hh.mono le3;have le13 := Hl.le_trans le12 le3;refine aA (aC rfl) rfl ?_;refine aA (aP rfl rfl) rfl ?_;refine aA (aP rfl rfl) rfl ?_;refine aA (aP rfl rfl) rfl ?_;refine aA (aF rfl) rfl ?_;refine aA (aF rfl) rfl ?_;refine aA (aF rfl) rfl ?_;refine aG (aE ?_);refine aI (aB ?_);refine aA (bT fO rfl aL rfl rfl) rfl ?_;refine bD rfl rfl (w6 t2 m1 _ _ (hg.mono le13) (hE.mono le13) hh3 aM6) .nil rfl ?_;rintro _ K4 _ ⟨bv, rfl, rfl⟩ le4;rw [h2];have le14 := Hl.le_trans le13 le4;refine aA (aC rfl) rfl ?_;refine aA (aP rfl rfl) rfl ?_;refine aA (aP rfl rfl) rfl ?_;refine aA (aP rfl rfl) rfl ?_;refine aA (aF rfl) rfl ?_;refine aA (aF rfl) rfl ?_;refine aA (aF rfl) rfl ?_;refine aG (aE ?_);refine aI (aB ?_);refine aA (aC rfl) rfl ?_;refine aA (aC rfl) rfl ?_;refine aV rfl rfl ?_;refine aA (aC rfl) rfl ?_;refine aA (bJ rfl rfl) rfl ?_;refine aA (aC rfl) rfl ?_;refine aV rfl rfl ?_;refine aA (aC rfl) rfl ?_;refine aA (bJ rfl rfl) rfl ?_;refine aA (aC rfl) rfl ?_;refine aV rfl rfl ?_;refine aA (aC rfl) rfl ?_;refine aV rfl rfl ?_;refine aA (bV rfl rfl) rfl ?_;refine aA (bJ rfl rfl) rfl ?_;refine aA (aC rfl) rfl ?_;refine aV rfl rfl ?_;refine aA (aC rfl) rfl ?_;refine aV rfl rfl ?_;refine aA (bV rfl rfl) rfl ?_;refine aA (bJ rfl rfl) rfl ?_;refine aA (aC rfl) rfl ?_;refine aV rfl rfl ?_;refine aA (aC rfl) rfl ?_;refine aV rfl rfl ?_;refine aA (bZ (k := cX) rfl Tryz.underlying29 rfl (.own (.there .here))) rfl ?_;refine aV rfl rfl ?_;refine aA (bV rfl rfl) rfl ?_;refine aA (bJ rfl rfl) rfl ?_;refine aA (aC rfl) rfl ?_;refine aV rfl rfl ?_;refine aA (aC rfl) rfl ?_;refine aV rfl rfl ?_;refine aA (bZ (k := cX) rfl Tryz.underlying29 rfl (.own .here)) rfl ?_;refine aV rfl rfl ?_;refine aA (bV rfl rfl) rfl ?_;refine aA (bJ rfl rfl) rfl ?_;refine aA (aC rfl) rfl ?_;refine aV rfl rfl ?_;refine aA (aC rfl) rfl ?_;refine aV rfl rfl ?_;refine aA (bU (k := cX) (j := 0) gR rfl (.own .here) rfl rfl (by decide)) rfl ?_;refine aV rfl rfl ?_;refine aA (eG (n := 0) (k := cX) iY rfl (.own .here) rfl) rfl ?_;refine aV rfl rfl ?_;refine aA (cJ tb34 xK (.cons rfl rfl rfl (.cons .nil) (.cons rfl rfl rfl (.skip (.cons .nil)) .nil))) rfl ?_;refine aV rfl rfl ?_;refine aA (w5 (a := (3, [97, 64, 98])) (c := (3, [97, 64, 98])) rfl rfl) rfl ?_;refine aA (bJ rfl rfl) rfl ?_;refine aA (aF rfl) rfl ?_;refine aG (aE ?_);refine bM ?_;refine aN .nil ?_;refine bL rfl rfl le14 ?_;exact ⟨_, rfl, rfl, rfl⟩
theorem yQ {E : Env} {fr : Fr} {K : Hl} {L : List Asn} {dst : Option Tmp} {ty t t' : TypeId} {pos : String} {aft : Array Edge} {g : Option (Nat × Bool)} {x y : Operand} {k : IntKind} {m n : Int} (hx : fr.ev x = some (.int k m)) (hy : fr.ev y = some (.int k n)) (h : m = n) : Ev E fr K L ⟨dst, .binOp .eql t x y t', ty, pos, aft, g⟩ (.bool true) := by
 have := bV (E := E) (K := K) (L := L) (dst := dst) (ty := ty) (t := t) (t' := t') (pos := pos) (aft := aft) (g := g) hx hy
 rwa [decide_eq_true h] at this
theorem aGI {nm : Bool} {m : Msg} {code : List Ins} (hm : MsgOk m) (hc : ∀ o ∈ code, InsOk o) : ∀ f st s, MInv s → (Mach.loop nm m code f st s).acts.length ≤ 7 := by
 have fin : ∀ s : MS, MInv s → (if s.keep = true then s.acts ++ [(1, [])] else s.acts).length ≤ 7 := by
  intro s h;have := h.acts;split
  ·simp; omega
  ·omega
 intro f;induction f with
 | zero => intro st s h; simp [Mach.loop]
 | succ f ih =>
  intro st s h;unfold Mach.loop;split
  ·exact fin s h
  ·rename_i o ho;split
   ·exact fin s h
   ·split
    ·simp
    ·rename_i t ht;have h2 := h.step hm (hc o (List.mem_of_getElem? ho)) ht;exact ih _ _ ⟨h2.stack, h2.acts, h2.vars, h2.parts⟩
theorem aJ7 {nm : Bool} {m : Msg} {code : List Ins} (hm : MsgOk m) (hc : ∀ o ∈ code, InsOk o) : (Mach.run nm code m).acts.length ≤ 7 := by
 unfold Mach.run;split
 ·simp
 ·exact aGI hm hc _ _ _ MInv.start
def vs4 : List InsV := [⟨1, 1, 0, false, nilC, nilC, 0⟩, ⟨4, 1, 0, false, nilC, nilC, 0⟩, ⟨14, 0, 0, false, nilC, nilC, 0⟩, ⟨13, 0, 0, false, nilC, nilC, 0⟩]
theorem ris4 (K : Hl) : RIs K vs4 aAK := by
 have n : Ksl (bE 9) K nilC.1 ([] : List aO) := .inl ⟨none, 0, rfl, rfl⟩;exact ⟨⟨rfl, rfl, rfl, rfl, rfl, n, n⟩, ⟨rfl, rfl, rfl, rfl, rfl, n, n⟩, ⟨rfl, rfl, rfl, rfl, rfl, n, n⟩, ⟨rfl, rfl, rfl, rfl, rfl, n, n⟩, trivial⟩
theorem ok4 : ∀ o ∈ aAK, InsOk o := by
 intro o ho;have : o = ⟨1, 1, 0, false, [], [], 0⟩ ∨ o = ⟨4, 1, 0, false, [], [], 0⟩ ∨ o = ⟨14, 0, 0, false, [], [], 0⟩ ∨ o = ⟨13, 0, 0, false, [], [], 0⟩ := by simpa [aAK] using ho
 rcases this with rfl | rfl | rfl | rfl <;> exact ⟨by simp, by simp, by simp, by simp⟩
theorem aN9 {s : aO} {r : List aO × Tree} (hr : e8 s = .ok r) (hl : s.length ≤ 600) : (∀ o ∈ Cmp.script r.2, InsOk o) ∧ (Cmp.script r.2).length ≤ 1000000 := by
 have hfit := pG hr;have hsl := Cmp.script_len r.2;refine ⟨fun o ho => ?_, by omega⟩
 obtain ⟨q1, q2, q3, q4⟩ := Cmp.script_fit hfit.2.1 o ho;exact ⟨by omega, by omega, fun x hx => by have := q1 x hx; omega, fun x hx => by have := q2 x hx; omega⟩
theorem aAE (s : aO) (m : Msg) (hv : Value) (K : Hl) (hg : Glob K) (hE : ErrT K) (hh : Ksl hdEl K hv m.hs) (hz : MsgSz m) (hs : s.length ≤ 140737488355328) : Sp Tryz.prog 4 [str s, msgV m hv] K [] (Ret fun v K' L' => v = .bool true) := by
 have hh0 := hh;obtain ⟨ha, hn, hc, rfl⟩ := hh.isSlice;refine bA Tryz.func4 rfl Tryz.ntmps4 rfl rfl fun F w => ?_
 refine aI (aB ?_);refine ol_s (d9 rfl rfl) rfl ?_;rintro _ K _ ⟨b3, rfl, rfl, rfl⟩ -;refine aA (aF rfl) rfl ?_;refine aG (aE ?_);refine aI (aB ?_);refine bD rfl rfl (aG2 _ hg hE) .nil rfl ?_;rintro _ K1 _ ⟨rfl, rfl⟩ le1;refine aA (aF rfl) rfl ?_;refine aG (aE ?_);refine aI (aB ?_);refine aA (bT fO rfl aL rfl rfl) rfl ?_;refine bD rfl rfl (aBY m (.slice ha hn hc) _ (hh0.mono le1) hz) .nil rfl ?_;rintro _ K1 _ ⟨sb, rfl, hsb, rfl, rfl⟩ -;refine aA (aF rfl) rfl ?_;refine aG (aE ?_);refine aI (aI ?_);refine aB ?_;refine aA (aC rfl) rfl ?_;refine aA (dW rfl) rfl ?_;refine aA (aC rfl) rfl ?_;refine aV rfl rfl ?_;refine aA (aC rfl) rfl ?_;refine aV rfl rfl ?_;refine aA (by first | exact dM rfl | exact dW rfl) rfl ?_;refine aA (bB rfl rfl) rfl ?_;refine aG (aE ?_);refine d6 30 rfl (fun h30 => ?_) (fun h30 => ?_)
 ·
  refine aI (aB ?_);refine aA (aC rfl) rfl ?_;refine aA (aF rfl) rfl ?_;refine aG (aE ?_);refine bM ?_;refine bF ?_;refine aN .nil ?_;refine bL rfl rfl le1 ?_;exact ⟨_, rfl, rfl⟩
 ·
  have hm : MsgOk m := hsb (by simpa using h30);refine aX ?_;refine aE (aI ?_);refine aB ?_;refine aA (cJ tb41 jO (.cons rfl rfl rfl (.cons .nil) (.cons rfl rfl rfl (.skip (.cons .nil)) .nil))) rfl ?_;refine aA (cJ tb41 jO (.cons rfl rfl rfl (.cons .nil) (.cons rfl rfl rfl (.skip (.cons .nil)) .nil))) rfl ?_;refine aA (cJ tb41 jO (.cons rfl rfl rfl (.cons .nil) .nil)) rfl ?_;refine aA (cJ tb41 jO (.cons rfl rfl rfl (.cons .nil) .nil)) rfl ?_;refine ol_s (bN (z0 := [.int .i64 0, .int .i64 0, .int .i64 0, .bool false, .slice none 0 0, .slice none 0 0, .int .i64 0, .int .i64 0, .int .i64 0, .int .i64 0, .bool false, .slice none 0 0, .slice none 0 0, .int .i64 0, .int .i64 0, .int .i64 0, .int .i64 0, .bool false, .slice none 0 0, .slice none 0 0, .int .i64 0, .int .i64 0, .int .i64 0, .int .i64 0, .bool false, .slice none 0 0, .slice none 0 0, .int .i64 0]) dR tz41 rfl rfl rfl rfl (.cons rfl rfl rfl (.cons (.cons (.cons (.cons (.cons (.cons (.cons .nil))))))) (.cons rfl rfl rfl (.skip (.skip (.skip (.skip (.skip (.skip (.skip (.cons (.cons (.cons (.cons (.cons (.cons (.cons .nil)))))))))))))) (.cons rfl rfl rfl (.skip (.skip (.skip (.skip (.skip (.skip (.skip (.skip (.skip (.skip (.skip (.skip (.skip (.skip (.cons (.cons (.cons (.cons (.cons (.cons (.cons .nil))))))))))))))))))))) (.cons rfl rfl rfl (.skip (.skip (.skip (.skip (.skip (.skip (.skip (.skip (.skip (.skip (.skip (.skip (.skip (.skip (.skip (.skip (.skip (.skip (.skip (.skip (.skip (.cons (.cons (.cons (.cons (.cons (.cons (.cons .nil)))))))))))))))))))))))))))) .nil))))) rfl ?_;rintro _ K _ ⟨b37, rfl, rfl, rfl⟩ -;refine e7 fun K2 le2 hb37 => ?_
  have hk4 : Ksl cW K2 (.slice (some ⟨b37, 0, none⟩) 4 4) vs4 := .inr ⟨b37, 0, 4, _, _, rfl, ⟨_, hb37⟩, rfl⟩;have le12 := Hl.le_trans le1 le2;refine aA (bT fO rfl aL rfl rfl) rfl ?_;refine bD rfl rfl (vI false _ (.slice ha hn hc) vs4 aAK m _ (hg.mono le12) (hE.mono le12) hk4 (ris4 _) (hh0.mono le12) hm ok4 (by decide)) .nil rfl ?_;rintro _ K3 _ ⟨cv, rfl, rfl⟩ le3;rw [aG1];have le13 := Hl.le_trans le12 le3;refine aA (aC rfl) rfl ?_;refine aA (aP rfl rfl) rfl ?_;refine aA (aP rfl rfl) rfl ?_;refine aA (aP rfl rfl) rfl ?_;refine aA (aP rfl rfl) rfl ?_;refine aA (aF rfl) rfl ?_;refine aA (aF rfl) rfl ?_;refine aA (aF rfl) rfl ?_;refine aA (aF rfl) rfl ?_;refine aG (aE ?_);refine aI (aI ?_);refine aB ?_;refine aA (aC rfl) rfl ?_;refine aA (bZ (k := cX) rfl Tryz.underlying29 rfl (.own .here)) rfl ?_;refine aA (fF rfl rfl) rfl ?_;refine aA (aC rfl) rfl ?_;refine aV rfl rfl ?_;refine aA (aC rfl) rfl ?_;refine aV rfl rfl ?_;refine aA (fF rfl rfl) rfl ?_;refine aA (bB rfl rfl) rfl ?_;refine aA (aC rfl) rfl ?_;refine aV rfl rfl ?_;refine aA (aC rfl) rfl ?_;refine aV rfl rfl ?_;refine aA (fF rfl rfl) rfl ?_;refine aA (bB rfl rfl) rfl ?_;refine aG (aE ?_);refine cO rfl ?_;refine aX ?_;refine aE (aI ?_);refine aB ?_;refine aA (aC rfl) rfl ?_;refine aA (aCX rfl rfl (by simp; omega)) rfl ?_;refine bD rfl rfl (mK (preV ++ s) _ (hg.mono le13) (hE.mono le13)) .nil rfl ?_;rintro _ K4 _ ⟨x, rfl, hP, rfl⟩ le4;have le14 := Hl.le_trans le13 le4;refine aA (aC rfl) rfl ?_;refine aA (aP rfl rfl) rfl ?_;refine aA (aP rfl rfl) rfl ?_;refine aA (aP rfl rfl) rfl ?_;refine aA (aF rfl) rfl ?_;refine aA (aF rfl) rfl ?_;refine aA (aF rfl) rfl ?_;refine aG (aE ?_);rcases hP with ⟨b, r, h6, hr, rfl, hat⟩ | ⟨rfl, hno⟩
  ·
   obtain ⟨hins, hcl⟩ := aN9 hr h6;have hsay : sayC r m = Mach.run true (Cmp.script r.2) m := (by unfold sayC; rw [decide_eq_true (aJV hr)]);have hst := Mach.run_steps true m (Cmp.script r.2);have hal := aJ7 (nm := true) hm hins;refine aI (aI ?_);refine aB ?_;refine aA (aC rfl) rfl ?_;refine aA (jC Tryz.underlying43 rfl rfl) rfl ?_;refine aG (aE ?_);refine cO rfl ?_;refine aX ?_;refine aE (aI ?_);refine aB ?_;refine aA (aC rfl) rfl ?_;refine bD rfl rfl (aFT b r (preV ++ s) _ hr h6 hat) .nil rfl ?_;rintro lv K4 _ ⟨rfl, ws, rfl⟩ -;refine fU fun K5 le5 hlv => ?_
   refine wS fun K6 le6 hws => ?_
   have hlv6 := hlv.mono le6;have hwl := hws.length;have le46 := Hl.le_trans le5 le6;have le16 := Hl.le_trans le14 le46;refine aA (aF rfl) rfl ?_;refine aG (aE ?_);refine aI (aB ?_);refine aA (aC rfl) rfl ?_;refine aA (bT fO rfl aL rfl rfl) rfl ?_;refine bD rfl rfl (xD b r (preV ++ s) m (.slice ha hn hc) _ (hg.mono le16) (hE.mono le16) hr h6 (hat.mono le46) (hh0.mono le16) hm) .nil rfl ?_;rintro _ K7 _ ⟨av, rfl, rfl⟩ le7;rw [hsay];have le17 := Hl.le_trans le16 le7;have hlv7 := hlv6.mono le7;refine aA (aC rfl) rfl ?_;refine aA (aP rfl rfl) rfl ?_;refine aA (aP rfl rfl) rfl ?_;refine aA (aP rfl rfl) rfl ?_;refine aA (aF rfl) rfl ?_;refine aA (aF rfl) rfl ?_;refine aA (aF rfl) rfl ?_;refine aG (aE ?_);refine aI (aB ?_);refine aA (aC rfl) rfl ?_;refine aA (bT fO rfl aL rfl rfl) rfl ?_;refine bD rfl rfl (vI true lv (.slice ha hn hc) ws (Cmp.script r.2) m _ (hg.mono le17) (hE.mono le17) hlv7 (hws.mono le7) (hh0.mono le17) hm hins hcl) .nil rfl ?_;rintro _ K8 _ ⟨bv, rfl, rfl⟩ le8
   generalize hout : Mach.run true (Cmp.script r.2) m = out at *
   have hlv8 := hlv7.mono le8;refine aA (aC rfl) rfl ?_;refine aA (aP rfl rfl) rfl ?_;refine aA (aP rfl rfl) rfl ?_;refine aA (aP rfl rfl) rfl ?_;refine aA (aP rfl rfl) rfl ?_;refine aA (aF rfl) rfl ?_;refine aA (aF rfl) rfl ?_;refine aA (aF rfl) rfl ?_;refine aA (aF rfl) rfl ?_;refine aG (aE ?_);refine aI (aB ?_);refine aA (aC rfl) rfl ?_;refine aA (aC rfl) rfl ?_;refine bD rfl rfl (aDP av bv out.acts out.acts _ aH aH) (.cons (.there .here) (.cons .here .nil)) rfl ?_;rintro _ K8 _ ⟨rfl, rfl, rfl⟩ -;rw [decide_eq_true (rfl : out.acts = out.acts)];refine aA (aF rfl) rfl ?_;refine aG (aE ?_);refine aI (aB ?_);refine aA (aC rfl) rfl ?_;refine aA (aC rfl) rfl ?_;refine aV rfl rfl ?_;refine aA (aC rfl) rfl ?_;refine aV rfl rfl ?_;refine aA (aC rfl) rfl ?_;refine aV rfl rfl ?_;refine aA (yQ rfl rfl rfl) rfl ?_;refine aA (bJ rfl rfl) rfl ?_;refine aA (aC rfl) rfl ?_;refine aV rfl rfl ?_;refine aA (aC rfl) rfl ?_;refine aV rfl rfl ?_;refine aA (aC rfl) rfl ?_;refine aV rfl rfl ?_;refine aA (yQ rfl rfl rfl) rfl ?_;refine aA (bJ rfl rfl) rfl ?_;refine aA (aC rfl) rfl ?_;refine aV rfl rfl ?_;refine aA (aC rfl) rfl ?_;refine aV rfl rfl ?_;refine aA (aC rfl) rfl ?_;refine aV rfl rfl ?_;refine aA (bZ (k := cW) rfl Tryz.underlying42 rfl (.known hlv8)) rfl ?_;refine aV rfl rfl ?_;refine aA (iD rfl rfl) rfl ?_;refine aA (bJ rfl rfl) rfl ?_;refine aA (aF rfl) rfl ?_;refine aG (aE ?_);refine bM ?_;refine aN .nil ?_;refine bL rfl rfl (Hl.le_trans le17 le8) ?_;exact ⟨_, rfl, by rw [decide_eq_true aH]⟩
  ·
   refine aI (aI ?_);refine aB ?_;refine aA (aC rfl) rfl ?_;refine aA (jC Tryz.underlying43 rfl rfl) rfl ?_;refine aG (aE ?_);refine eK rfl ?_;refine aI (aB ?_);refine aA (aF rfl) rfl ?_;refine aG (aE ?_);refine bM ?_;refine bF ?_;refine aN .nil ?_;refine bL rfl rfl le14 ?_;exact ⟨_, rfl, rfl⟩
end Go.Proofs
end
section
set_option maxRecDepth 100000
namespace Go
theorem kL {H : Type} {enc : TypeId × Value → H} {a : Assume} {C : Checked} {os : Os} {f : FuncId} {fn : Func} {s : ChangeSpec} {conds : List PathCond} {apart fresh handsOn again : Bool} {X : World → Array Value → Prop}
  (hX : ∀ (w w' : World) (args : Array Value), w.heap = w'.heap → X w args → X w' args)
  (own : ownKnob C.prog.godebug = none) (started : os.Started) (noInit : C.prog.inits.idxOf? f = none) (hfn : C.prog.funcs[f]? = some fn)
  (witness : ∃ (w : World) (tape : Tape) (i : Input), w.os = os ∧ (w.forCall tape i).Shaped C.prog ∧ i.vars = [] ∧ Input.okWide C.prog (w.forCall tape i) .any w.heap.size f i ∧
   ((s.pre enc C.prog fn conds apart (w.forCall tape i).memory i.args ∧ X (w.forCall tape i).memory i.args) ∧ sizedMet enc C.prog fn (OpenSpec.ofChange s) apart (w.forCall tape i).memory i.args) ∧ a.holds C.prog (lone (Frame.enter C.prog f i.args .normal) [] (w.forCall tape i)))
  (contract : ∀ (W : World) (base : Nat) (args : Array Value) (ds gs : List (DataW H)) (before : List MemPlace),
   (∀ (j : Nat) t v, fn.params[j]? = some t → args[j]? = some v → Value.okWide C.prog W .any base t v) →
   DataW.Whole enc C.prog fn.params.toList s.vars apart W args.toList ds gs before →
   conds.all (PathCond.test C.prog ⟨fn.params.toList, ds, s.plain.varTypes C.prog, gs⟩) = true →
   (DataW.weightsEach C.prog (fn.params.toList ++ s.plain.varTypes C.prog) (ds ++ gs)).all (· ≤ reachBytes) = true → X W args → W.ShapedOpen C.prog →
   a.holds C.prog (lone (Frame.enter C.prog f args .normal) [] W) →
   Calls C.prog f args W fun e W' => ∃ v, e = .returned v ∧ s.post enc C.prog fn apart fresh handsOn again W args v W') :
  ReturnsInHanded a C os f .any (fun w args => (s.pre enc C.prog fn conds apart w args ∧ X w args) ∧ sizedMet enc C.prog fn (OpenSpec.ofChange s) apart w args) (s.post enc C.prog fn apart fresh handsOn again) := by
 refine returnsInHanded_of_calls own started noInit witness ?_;intro w tape i _ hsh _ hok hpre hholds;obtain ⟨_, _, _, fn', hfn', _, _, _, _, hval⟩ := hok;have e : fn' = fn := Option.some.inj (hfn'.symm.trans hfn);subst e;obtain ⟨⟨⟨ds, gs, before, hw, hc⟩, hx⟩, hz⟩ := hpre;have hw' := DataW.Whole.of_heap (w' := w.forCall tape i) (by rfl) hw;refine (contract (w.forCall tape i) w.heap.size i.args ds gs before hval hw' hc (hz.weights hw) (hX _ _ _ (by rfl) hx) hsh hholds).mono fun e W' ⟨v, he, hp⟩ => ?_
 subst he;exact ChangeSpec.post_blind hp
end Go
namespace Go.Proofs
open Go Go.SL Go.Mach Go.ChangeShapes Go.WideShapes Go.RowKit
open YthopmddkpdehiaaGreatDoor (Rows.laid_math_bits_deBruijn32tab Rows.laid_math_bits_deBruijn64tab Rows.laid_internal_strconv_uint64pow10 Rows.laid_errors_errorType)
namespace TzRow
theorem own : ownKnob Tryz.prog.godebug = none := by kernel_rfl
theorem laidOut : laidOutB Tryz.prog = true := by kernel_rfl
abbrev laid4 : List (String × DataW Unit) := [("math/bits.deBruijn32tab", YthopmddkpdehiaaGreatDoor.Rows.laid_math_bits_deBruijn32tab), ("math/bits.deBruijn64tab", YthopmddkpdehiaaGreatDoor.Rows.laid_math_bits_deBruijn64tab), ("internal/strconv.uint64pow10", YthopmddkpdehiaaGreatDoor.Rows.laid_internal_strconv_uint64pow10), ("errors.errorType", YthopmddkpdehiaaGreatDoor.Rows.laid_errors_errorType)]
theorem gPow : Tryz.prog.globalNamed "internal/strconv.uint64pow10" = some 2 := by kernel_rfl
theorem aPC : (Tryz.prog.globals[2]?).map (·.type) = some 475 := by kernel_rfl
theorem rt : (Tryz.prog.cutTypes.find? (·.1 == "internal/reflectlite.rtype")).map (·.2) = some 265 := by kernel_rfl
theorem et : Tryz.prog.globalNamed "errors.errorType" = some 0 := by kernel_rfl
theorem aOK : ((List.range Tryz.prog.types.size).filter fun t => Tryz.prog.rowNamed t [101, 114, 114, 111, 114]) = [79] := by kernel_rfl
theorem aGU {W : World} {l : List (String × DataW Unit)} (hl : handlesMet Tryz.prog [("errors.errorType", YthopmddkpdehiaaGreatDoor.Rows.laid_errors_errorType)] W) : ErrT (hp W) := by
 obtain ⟨name, u, ty, e1, e2, e3, e4, e5⟩ := hl _ (List.mem_singleton.2 rfl);have en : name = [101, 114, 114, 111, 114] := (Option.some.inj e1).symm;subst en;obtain rfl := Option.some.inj (rt.symm.trans e2);have hm : ty ∈ (List.range Tryz.prog.types.size).filter fun t => Tryz.prog.rowNamed t [101, 114, 114, 111, 114] := List.mem_filter.2 ⟨List.mem_range.2 e3, e4⟩
 rw [aOK] at hm;obtain rfl := List.mem_singleton.1 hm;have hh : typeHandle Tryz.prog 79 = hd 79 := by kernel_rfl
 rw [hh] at e5;unfold World.var? at e5;rw [et] at e5;simp only [Option.bind_some] at e5;split at e5
 ·rename_i cs T fz hw;have := Option.some.inj e5;subst this;exact ⟨T, fz, hw⟩
 ·cases e5
theorem aOR {w w' : World} {nm : String} {k : IntKind} {zs : List Int} (h : Lib.TabIs Tryz.prog w nm k zs) (le : (hp w).le (hp w')) : Lib.TabIs Tryz.prog w' nm k zs := by
 unfold Lib.TabIs World.var? at *;cases hg : Tryz.prog.globalNamed nm with
 | none => rw [hg] at h; simp at h
 | some g =>
  rw [hg] at h;simp only [Option.bind_some] at h ⊢;split at h
  ·rename_i cs T fz hw;have := le g _ hw;simp only [hp] at this;rw [this]; exact h
  ·cases h
theorem aJP {W : World} (h : W.ShapedOpen Tryz.prog) : ∃ m T fz, hp W 1 = some (aU [i64 m] T fz) := by
 obtain ⟨m, hm⟩ := cell_of_shapedOpen_int (P := Tryz.prog) (g := 1) (t := 3) (zero := #[.int .i64 0]) (k := .i64) h (of_decide_eq_true cK) cK rfl cK cK cK;obtain ⟨cs, hh, hs, _⟩ := h.1 1 #[.int .i64 0] 3 (of_decide_eq_true cK) cK;have h1 : cs.size = 1 := hs;refine ⟨m, 3, (0, 0), ?_⟩
 show W.heap[1]? = _
 rw [hh];have hc : cs = #[i64 m] := by
  have : cs[0]? = some (i64 m) := by simpa [World.cell?, hh] using hm
  obtain ⟨l⟩ := cs
  match l, h1, this with
  | [c], _, this => simp at this; rw [this]
 rw [hc]
theorem of_laid {W : World} (hL : laidMetH Tryz.prog laid4 W) (hS : W.ShapedOpen Tryz.prog) : Glob (hp W) ∧ ErrT (hp W) := by
 have h' : laidMet Tryz.prog [("math/bits.deBruijn32tab", YthopmddkpdehiaaGreatDoor.Rows.laid_math_bits_deBruijn32tab), ("math/bits.deBruijn64tab", YthopmddkpdehiaaGreatDoor.Rows.laid_math_bits_deBruijn64tab), ("internal/strconv.uint64pow10", YthopmddkpdehiaaGreatDoor.Rows.laid_internal_strconv_uint64pow10)] W ∧ handlesMet Tryz.prog [("errors.errorType", YthopmddkpdehiaaGreatDoor.Rows.laid_errors_errorType)] W := hL;refine ⟨⟨aJP hS, fun w le => ?_⟩, aGU (l := []) h'.2⟩
 exact aOR (Lib.tabIs_of_head (rest := []) gPow aPC Tryz.underlying475 Tryz.underlying345 cK cK (h'.1.tail.tail)) le
theorem door_met (os : Os) (args : Array Value) : laidMetH Tryz.prog laid4 ((World.doorLaid Tryz.prog 100 os).forCall (fun _ _ => 0) ⟨#[], args, []⟩).memory :=
 laidMetH_of_parts3 (fuel := 8) (laidMet_of_run' 8 cK cK) cK cK
theorem door_shaped (os : Os) (args : Array Value) : ((World.doorLaid Tryz.prog 100 os).forCall (fun _ _ => 0) ⟨#[], args, []⟩).Shaped Tryz.prog :=
 World.shaped_of_RefB cK cK
end TzRow
end Go.Proofs
end
section
set_option maxRecDepth 100000
namespace Go.Proofs
open Go Go.SL Go.Syn Go.Mach Go.ChangeShapes Go.WideShapes Go.RowKit
namespace TzRow
section
variable {H : Type} {enc : TypeId × Value → H} {W : World} {base : Nat} {sp : Nat → Bool} {held : Bool}
theorem y5 {n : Nat} {cs : List Value} {x : DataW H × List MemPlace} (h : DataW.trod enc Tryz.prog W base sp held n 9 cs = some x) : ∃ l : aO, cs = [str l] ∧ l.length ∈ x.1.weights Tryz.prog 9 := by
 obtain ⟨l, h1, h2⟩ := aKV Tryz.underlying9 h;exact ⟨l, h1, by rw [h2]; simp [DataW.weights]⟩
theorem aPD {n : Nat} {cs : List Value} {x : DataW H × List MemPlace} {M : List Nat} (h : DataW.trod enc Tryz.prog W base sp held n 25 cs = some x) (hM : ∀ k ∈ x.1.weights Tryz.prog 25, k ∈ M) : ∃ a : aO × aO, cs = hdEl.enc a ∧ a.1.length ∈ M ∧ a.2.length ∈ M := by
 obtain ⟨m, hl, hf⟩ := tM Tryz.underlying25 h;have c25 : Tryz.prog.cellsOf 25 = 2 := by kernel_rfl
 have c9 : Tryz.prog.cellsOf 9 = 1 := by kernel_rfl
 rw [c25] at hl
 match cs, hl, hf with
 | [c0, c1], _, hf =>
  obtain ⟨y0, h0, w0⟩ := hf 0 _ rfl;obtain ⟨y1, h1, w1⟩ := hf 1 _ rfl;dsimp only at h0 h1 w0 w1;rw [c9] at h0 h1;obtain ⟨l0, e0, k0⟩ := y5 h0;obtain ⟨l1, e1, k1⟩ := y5 h1;simp at e0 e1;subst e0 e1;exact ⟨(l0, l1), rfl, hM _ (w0 _ k0), hM _ (w1 _ k1)⟩
theorem in_msg {v : Value} {d : DataW H} {p : List MemPlace} {M : List Nat} (hv : Value.okWide Tryz.prog W .any base 28 v) (h : DataW.Trod enc Tryz.prog W 0 sp held 28 v d p) (hM : ∀ k ∈ d.weights Tryz.prog 28, k ∈ M) (hB : ∀ k ∈ M, k ≤ reachBytes) :
  ∃ m hv, v = msgV m hv ∧ Ksl hdEl (hp W) hv m.hs ∧ MsgSz m := by
 obtain ⟨cs, rfl, hc⟩ := okWide_struct Tryz.underlying28 hv;obtain ⟨n, hf⟩ := h;have c28 : Tryz.prog.cellsOf 28 = 4 := by kernel_rfl
 have c9 : Tryz.prog.cellsOf 9 = 1 := by kernel_rfl
 have c3 : Tryz.prog.cellsOf 3 = 1 := by kernel_rfl
 have c26 : Tryz.prog.cellsOf 26 = 1 := by kernel_rfl
 have b25 : Tryz.prog.bytesOf 25 = 32 := by kernel_rfl
 obtain ⟨m, hl, hf⟩ := tM Tryz.underlying28 hf;rw [c28] at hc hl;obtain ⟨l⟩ := cs;have hl' : l.length = 4 := hl
 match l, hl', hf with
 | [c0, c1, c2, c3'], _, hf =>
  obtain ⟨y0, h0, w0⟩ := hf 0 _ rfl;obtain ⟨y1, h1, w1⟩ := hf 1 _ rfl;obtain ⟨y2, h2, w2⟩ := hf 2 _ rfl;obtain ⟨y3, h3, w3⟩ := hf 3 _ rfl;dsimp only at h0 h1 h2 h3 w0 w1 w2 w3;rw [c9] at h0 h1;rw [c3] at h2;rw [c26] at h3;obtain ⟨l0, e0, k0⟩ := y5 h0;obtain ⟨l1, e1, k1⟩ := y5 h1;obtain ⟨i, e2, _⟩ := aKU Tryz.underlying3 h2;have h3' : DataW.trod enc Tryz.prog W 0 sp held m 26 [c3'] = some y3 := h3;obtain ⟨xs, ks, hG, hlen⟩ := aOG (k := hdEl) (G := fun a => a.1.length ≤ reachBytes ∧ a.2.length ≤ reachBytes) Tryz.underlying26 cK (by decide) (fun n cs y hy hw => by
   obtain ⟨a, ha, k1, k2⟩ := aPD (M := y3.1.weights Tryz.prog 26) hy hw;exact ⟨a, ha, hB _ (hM _ (w3 _ k1)), hB _ (hM _ (w3 _ k2))⟩) h3'
  simp [Value.cells] at e0 e1 e2;subst e0 e1 e2;have q0 := hB _ (hM _ (w0 _ k0));have q1 := hB _ (hM _ (w1 _ k1));refine ⟨⟨l0, l1, i, xs⟩, c3', rfl, ks, ?_⟩
  have hr : reachBytes = 140737488351232 := rfl;rw [hr] at q0 q1 hG;refine ⟨by show l0.length ≤ _; omega, by show l1.length ≤ _; omega, ?_, fun a ha => ?_⟩
  ·show xs.length ≤ _
   rcases hlen with rfl | ⟨k, hk, hk2⟩
   ·simp
   ·have := hB _ (hM _ (w3 _ hk));rw [hr] at this;have e25 : hdEl.e = 25 := rfl;rw [e25, b25] at hk2;omega
  ·have := hG a ha;exact ⟨by omega, by omega⟩
end
end TzRow
end Go.Proofs
end

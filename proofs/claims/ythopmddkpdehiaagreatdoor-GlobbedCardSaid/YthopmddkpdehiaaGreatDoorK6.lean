/-
  What the proof stands on, part 6: the logic of walks, the walks through the functions, the plain laws. Conditions: as each theorem says. (Merged and shortened by a program.)
-/
import Derived.KernelRfl
import Derived.Test.YthopmddkpdehiaaGreatDoorRows
import Derived.Lib.LaidTab
import Derived.LaidMore
import Derived.LaidHandle
import Derived.HandedShaped
import Derived.Shelf.Vars
import Derived.Stop.LaidErr
import Derived.OpenShut
import Derived.Below
import Derived.Test.YthopmddkpdehiaaGreatDoorK1
import Derived.Test.YthopmddkpdehiaaGreatDoorK2
import Derived.Test.YthopmddkpdehiaaGreatDoorK3
import Derived.Test.YthopmddkpdehiaaGreatDoorK4
import Derived.Test.YthopmddkpdehiaaGreatDoorK5
set_option linter.unusedVariables false
set_option linter.unusedSimpArgs false
section
namespace Go.Proofs
open Go Go.SL Go.Extern
theorem aE7 {E : Env} {x : Exit} {fr : Fr} {K : Hl} {L : List Asn} {A : Asn} {Q : Post} (h : D E x fr K L Q) : D E x fr K (A :: L) Q := fun a w f i => h a w f i.drop
theorem is30 (e : Int) (K : Hl) : Sp Tryz.prog 98 [.iface 30 (i64 e), .iface 30 (i64 e), .bool true] K [] (Val (.bool true) K) := by
 refine bB Tryz.func98 rfl Tryz.ntmps98 rfl rfl fun F w => ?_
 refine aI (aB ?_);refine aA (aF rfl) rfl ?_;refine aG (aE ?_);refine bF ?_;refine eK (fun (u : Unit) => True) (fun u => [(0, .iface 30 (i64 e)), (1, .iface 30 (i64 e)), (2, .bool true)]) (fun _ => K) (fun _ => []) (fun u => 0) () trivial (.cons 0 rfl (.cons 1 rfl (.cons 2 rfl .nil))) rfl (fun _ h => h) ?_;intro u _;refine bF (aI ?_);refine aI (aB ?_);refine aA (aC rfl) rfl ?_;refine aA (aC rfl) rfl ?_;refine aT rfl rfl ?_;refine aA (aC rfl) rfl ?_;refine aT rfl rfl ?_;refine aA (aC rfl) rfl ?_;refine aT rfl rfl ?_;refine aA (aDN rfl rfl (fun _ => rfl) (fun w => eq30 e w)) rfl ?_;refine aA (bH rfl rfl) rfl ?_;refine aG (aE ?_);refine eS rfl ?_;refine aI (aB ?_);refine aA (aF rfl) rfl ?_;refine aG (aE ?_);refine bM ?_;refine bC ?_;refine bQ ?_;refine bC ?_;refine bQ ?_;refine bJ rfl rfl (Hl.le_refl _) ?_;exact ⟨rfl, rfl, rfl⟩
theorem aI1 (fb : Nat) (e at_ : Int) (K : Hl) (L : List Asn) (hs : Sees K L fb (aU [i64 e, i64 at_] 123)) : Sp Tryz.prog 56 [.iface 118 (ptr fb), .iface 30 (i64 e)] K L (Ret fun v K' L' => v = .bool true ∧ K' = K ∧ L' = L) := by
 refine bB Tryz.func56 rfl Tryz.ntmps56 rfl rfl fun F w => ?_
 refine aI (aB ?_);refine aA (aF rfl) rfl ?_;refine aG (aE ?_);refine aI (aI ?_);refine aB ?_;refine aA (aC rfl) rfl ?_;refine aA (eT Tryz.underlying79 rfl rfl) rfl ?_;refine aA (aC rfl) rfl ?_;refine aT rfl rfl ?_;refine aA (aC rfl) rfl ?_;refine aT rfl rfl ?_;refine aA (eT Tryz.underlying79 rfl rfl) rfl ?_;refine aA (a8 rfl rfl) rfl ?_;refine aG (aE ?_);refine cQ rfl ?_;refine a6 ?_;refine aE (aI ?_);refine aB ?_;refine aA (aC rfl) rfl ?_;refine aA (j5 rfl rfl Tryz.func97 pO pP pQ pR (fun w _ => sR _ w)) rfl ?_;refine aA (dW rfl rfl (nO _) Tryz.func415 aL9 aMA aMB aMC (fun w _ => rX w)) rfl ?_;refine aA (aF rfl) rfl ?_;refine aG (aE ?_);refine aI (aB ?_);refine aA (aC rfl) rfl ?_;refine aA (aC rfl) rfl ?_;refine aA (aC rfl) rfl ?_;refine bD rfl rfl (aQK fb e at_ _ L hs) (cS _) rfl ?_;rintro _ K _ ⟨rfl, rfl, rfl⟩ -;rw [List.append_nil];refine aA (aF rfl) rfl ?_;refine aG (aE ?_);refine bM ?_;refine bJ rfl rfl (Hl.le_refl _) ?_;exact ⟨_, rfl, rfl, rfl, rfl⟩
theorem aMJ (e : Int) (K : Hl) : Sp Tryz.prog 56 [.iface 30 (i64 e), .iface 30 (i64 e)] K [] (Val (.bool true) K) := by
 refine bB Tryz.func56 rfl Tryz.ntmps56 rfl rfl fun F w => ?_
 refine aI (aB ?_);refine aA (aF rfl) rfl ?_;refine aG (aE ?_);refine aI (aI ?_);refine aB ?_;refine aA (aC rfl) rfl ?_;refine aA (eT Tryz.underlying79 rfl rfl) rfl ?_;refine aA (aC rfl) rfl ?_;refine aT rfl rfl ?_;refine aA (aC rfl) rfl ?_;refine aT rfl rfl ?_;refine aA (eT Tryz.underlying79 rfl rfl) rfl ?_;refine aA (a8 rfl rfl) rfl ?_;refine aG (aE ?_);refine cQ rfl ?_;refine a6 ?_;refine aE (aI ?_);refine aB ?_;refine aA (aC rfl) rfl ?_;refine aA (j5 rfl rfl Tryz.func97 pO pP pQ pR (fun w _ => sR _ w)) rfl ?_;refine aA (dW rfl rfl (nO _) Tryz.func415 aL9 aMA aMB aMC (fun w _ => rX w)) rfl ?_;refine aA (aF rfl) rfl ?_;refine aG (aE ?_);refine aI (aB ?_);refine aA (aC rfl) rfl ?_;refine aA (aC rfl) rfl ?_;refine aA (aC rfl) rfl ?_;refine cF rfl rfl (is30 e _) rfl ?_;refine aA (aF rfl) rfl ?_;refine aG (aE ?_);refine bM ?_;refine bJ rfl rfl (Hl.le_refl _) ?_;exact ⟨rfl, rfl, rfl⟩
theorem aCX (K : Hl) : Sp Tryz.prog 37 [.nilIface] K [] (Val (.tuple #[i64 0, i64 (-1)]) K) := by
 refine bB Tryz.func37 rfl Tryz.ntmps37 rfl rfl fun F w => ?_
 refine aI (aB ?_);refine aA (aF rfl) rfl ?_;refine aA (aF rfl) rfl ?_;refine aG (aE ?_);refine aI (aB ?_);refine ol_s (cO aL4) rfl ?_;rintro _ K _ ⟨b4, rfl, rfl, rfl⟩ -;refine aG (aE ?_);refine aI (aB ?_);refine ol_s (cO tz30) rfl ?_;rintro _ K _ ⟨b5, rfl, rfl, rfl⟩ -;refine aG (aE ?_);refine aI (bF ?_);refine aI (aB ?_);refine aA (aC rfl) rfl ?_;refine aA (vF Tryz.underlying79 rfl) rfl ?_;refine aA (aF rfl) rfl ?_;refine aG (aE ?_);refine eS rfl ?_;refine aI (aB ?_);refine aA (aF rfl) rfl ?_;refine aA (aF rfl) rfl ?_;refine aG (aE ?_);refine bM ?_;refine bQ ?_;refine bC ?_;refine aO .nil ?_;refine j1 rfl rfl rfl (Hl.le_refl _) ?_;exact ⟨rfl, rfl, rfl⟩
theorem aFV (fb : Nat) (e at_ : Int) (K : Hl) (L : List Asn) (hE : ErrT K) (hs : Sees K L fb (aU [i64 e, i64 at_] 123)) : Sp Tryz.prog 37 [.iface 118 (ptr fb)] K L (Ret fun v K' L' => v = .tuple #[i64 e, i64 at_] ∧ K' = K ∧ L' = L) := by
 have hsA : ∀ A : Asn, Sees K (A :: L) fb (aU [i64 e, i64 at_] 123) := fun A => tC hs
 refine bB Tryz.func37 rfl Tryz.ntmps37 rfl rfl fun F w => ?_
 refine aI (aB ?_);refine aA (aF rfl) rfl ?_;refine aA (aF rfl) rfl ?_;refine aG (aE ?_);refine aI (aB ?_);refine ol_s (cO aL4) rfl ?_;rintro _ K _ ⟨b4, rfl, rfl, rfl⟩ -;refine aG (aE ?_);refine aI (aB ?_);refine ol_s (cO tz30) rfl ?_;rintro _ K _ ⟨b5, rfl, rfl, rfl⟩ -;refine aG (aE ?_);refine aI (bF ?_);refine aI (aB ?_);refine aA (aC rfl) rfl ?_;refine aA (eT Tryz.underlying79 rfl rfl) rfl ?_;refine aA (aF rfl) rfl ?_;refine aG (aE ?_);refine cQ rfl ?_;refine aI (aB ?_);refine aA (aC rfl) rfl ?_;refine aA (cZ Tryz.underlying120 (fun _ h => by cases h) rfl) rfl ?_;refine bD rfl rfl (aQH fb b4 _ _ hE) (.cons (.there .here) .nil) rfl ?_;rintro _ K _ ⟨rfl, rfl, rfl⟩ -;have hs2 := tC (A := pt b4 (aU [ptr fb] 118)) (tC (A := pt b5 (aU [i64 0] 30)) hs);refine aA (aC rfl) rfl ?_;refine aT rfl rfl ?_;refine aA (aC rfl) rfl ?_;refine aT rfl rfl ?_;refine aA (aK aLY rfl aM rfl) rfl ?_;refine aT rfl rfl ?_;refine aA bS rfl ?_;refine aT rfl rfl ?_;refine aA (aD (o' := 0) tF rfl rfl) rfl ?_;refine aT rfl rfl ?_;refine aA (aK ts30 rfl hs2 rfl) rfl ?_;refine aT rfl rfl ?_;refine aA (cZ Tryz.underlying30 (fun _ h => by cases h) rfl) rfl ?_;refine aT rfl rfl ?_;refine bD rfl rfl (aI1 fb e at_ _ _ hs2) (cS _) rfl ?_;rintro _ K _ ⟨rfl, rfl, rfl⟩ -;rw [List.append_nil];refine aA (bH rfl rfl) rfl ?_;refine aA (aF rfl) rfl ?_;refine aG (aE ?_);refine eS rfl ?_;refine aI ?_;refine t_draw (anc := [0, 1, 3, 7, 0, 16, 48, 112, 15, 511]) (ord := [0, 1, 2, 3, 4, 5, 6, 7, 8, 9]) [] [] mixed (by decide +kernel) (cS _) ?_;refine dl_ev rfl rfl (.none rfl) rfl rfl (aK aLY rfl aM rfl) rfl ?_;refine dl_ev rfl rfl (.none rfl) rfl rfl bS rfl ?_;refine dl_ev rfl rfl (.none rfl) rfl rfl (aD (o' := 0) tF rfl rfl) rfl ?_;refine dl_ev rfl rfl (.none rfl) rfl rfl (aK ts30 rfl hs2 rfl) rfl ?_;refine dl_ev rfl rfl (.none rfl) rfl rfl (aK aLY rfl aM rfl) rfl ?_;refine dl_ev rfl rfl (.none rfl) rfl rfl bS rfl ?_;refine dl_ev rfl rfl (.none rfl) rfl rfl (aD (o' := 1) aIG rfl rfl) rfl ?_;refine dl_ev rfl rfl (.none rfl) rfl rfl (aK ts3 rfl hs2 rfl) rfl ?_;refine dl_ev rfl rfl (.none rfl) rfl rfl (aF rfl) rfl ?_;refine dl_ev rfl rfl (.none rfl) rfl rfl (aF rfl) rfl ?_;refine dl_nil ?_;refine aE ?_;refine bM ?_;refine bQ ?_;refine bC ?_;refine aE7 (aE7 ?_)
 refine j1 rfl rfl rfl (Hl.le_refl _) ?_;exact ⟨_, rfl, rfl, rfl, List.append_nil L⟩
theorem aQC (e : Int) (K : Hl) (hE : ErrT K) : Sp Tryz.prog 37 [.iface 30 (i64 e)] K [] (Ret fun v K' L' => v = .tuple #[i64 e, i64 (-1)] ∧ K' = K ∧ L' = []) := by
 refine bB Tryz.func37 rfl Tryz.ntmps37 rfl rfl fun F w => ?_
 refine aI (aB ?_);refine aA (aF rfl) rfl ?_;refine aA (aF rfl) rfl ?_;refine aG (aE ?_);refine aI (aB ?_);refine ol_s (cO aL4) rfl ?_;rintro _ K _ ⟨b4, rfl, rfl, rfl⟩ -;refine aG (aE ?_);refine aI (aB ?_);refine ol_s (cO tz30) rfl ?_;rintro _ K _ ⟨b5, rfl, rfl, rfl⟩ -;refine aG (aE ?_);refine aI (bF ?_);refine aI (aB ?_);refine aA (aC rfl) rfl ?_;refine aA (eT Tryz.underlying79 rfl rfl) rfl ?_;refine aA (aF rfl) rfl ?_;refine aG (aE ?_);refine cQ rfl ?_;refine aI (aB ?_);refine aA (aC rfl) rfl ?_;refine aA (cZ Tryz.underlying120 (fun _ h => by cases h) rfl) rfl ?_;refine bD rfl rfl (aO3 e b4 _ _ hE) (.cons (.there .here) .nil) rfl ?_;rintro _ K _ ⟨rfl, rfl, rfl⟩ -;refine aA (aC rfl) rfl ?_;refine aQ rfl rfl rfl ?_;refine aQ rfl rfl rfl ?_;refine aQ rfl rfl rfl ?_;refine aQ rfl rfl rfl ?_;refine aQ rfl rfl rfl ?_;refine aQ rfl rfl rfl ?_;refine aQ rfl rfl rfl ?_;refine aA (a8 rfl rfl) rfl ?_;refine aA (aF rfl) rfl ?_;refine aG (aE ?_);refine cQ rfl ?_;refine aI (aB ?_);refine aA (aC rfl) rfl ?_;refine aA (cZ Tryz.underlying124 (fun _ h => by cases h) rfl) rfl ?_;refine bD rfl rfl (as30 e b5 _ _ hE) (.cons (.there .here) .nil) rfl ?_;rintro _ K _ ⟨rfl, rfl, rfl⟩ -;refine aA (aC rfl) rfl ?_;refine aT rfl rfl ?_;refine aA (aC rfl) rfl ?_;refine aT rfl rfl ?_;refine aA (aK ts30 rfl aM rfl) rfl ?_;refine aT rfl rfl ?_;refine aA (cZ Tryz.underlying30 (fun _ h => by cases h) rfl) rfl ?_;refine aT rfl rfl ?_;refine cF rfl rfl (aMJ e _) rfl ?_;refine aA (bH rfl rfl) rfl ?_;refine aA (aF rfl) rfl ?_;refine aG (aE ?_);refine eS rfl ?_;refine aI (aB ?_);refine aA (aK ts30 rfl aM rfl) rfl ?_;refine aA (aF rfl) rfl ?_;refine aA (aF rfl) rfl ?_;refine aG (aE ?_);refine bM ?_;refine bQ ?_;refine bC ?_;refine aO .nil ?_;refine j1 rfl rfl rfl (Hl.le_refl _) ?_;exact ⟨_, rfl, rfl, rfl, rfl⟩
end Go.Proofs
end
section
namespace Go.SL
def Hl.less (k h : Hl) : Hl := fun x => if (h x).isSome then none else k x
theorem Hl.less_le (k h : Hl) : (k.less h).le k := by
 intro x o e;unfold Hl.less at e;split at e
 ·cases e
 ·exact e
theorem Hl.less_dj (k h : Hl) : h.dj (k.less h) := by
 intro x;cases e : h x with
 | none => exact .inl rfl
 | some o => exact .inr (by simp [Hl.less, e])
theorem Hl.le_less {K K' h : Hl} (le : K.le K') (d : K.dj h) : K.le (K'.less h) := by
 intro x o e;unfold Hl.less;rcases d x with q | q
 ·rw [q] at e; cases e
 ·simp only [q, Option.isSome_none, Bool.false_eq_true, if_false]; exact le x o e
theorem Hl.le_join_l {a b : Hl} : a.le (a.join b) := fun x o e => by simp [Hl.join, e]
theorem Hl.le_join_r {a b : Hl} (d : a.dj b) : b.le (a.join b) := fun x o e => by
 rcases d x with q | q
 ·simp [Hl.join, q, e]
 ·rw [q] at e; cases e
theorem In.freeze {w0 w : World} {F K : Hl} {L1 L : List Asn} (i : In w0 F K (L1 ++ L) w) : ∃ h, Sat L1 h ∧ K.dj h ∧ In w0 F (K.join h) L w := by
 obtain ⟨x, hs, d1, d2, d3, l1, l2, l3⟩ := i.rep;obtain ⟨a, n, ha, hn, han, rfl⟩ := e9.1 hs;have hd2 := Hl.dj_join.1 d2;have hd3 := Hl.dj_join.1 d3;exact ⟨a, ha, hd3.1, i.os, i.tape, i.output, i.size, n, hn, Hl.dj_join.2 ⟨d1, hd2.1⟩, hd2.2, Hl.join_dj.2 ⟨hd3.2, han⟩, l1, Hl.join_le l2 (Hl.le_join_left l3), Hl.le_join_right han l3⟩
theorem In.thaw {w0 w : World} {F K' h : Hl} {L1 L : List Asn} (i : In w0 F K' L w) (hs1 : Sat L1 h) (le : h.le K') : In w0 F (K'.less h) (L1 ++ L) w := by
 obtain ⟨x, hs, d1, d2, d3, l1, l2, l3⟩ := i.rep;have sub : ∀ y, K' y = none → h y = none := by
  intro y hy;cases e : h y with
  | none => rfl
  | some o => rw [le y o e] at hy; cases hy
 have hx : h.dj x := fun y => (d3 y).imp_left (sub y)
 have hF : F.dj h := fun y => (d1 y).imp_right (sub y)
 refine ⟨i.os, i.tape, i.output, i.size, h.join x, e9.2 ⟨h, x, hs1, hs, hx, rfl⟩, ?_, Hl.dj_join.2 ⟨hF, d2⟩, Hl.dj_join.2 ⟨(Hl.less_dj K' h).symm, ?_⟩, l1, Hl.le_trans (Hl.less_le _ _) l2, Hl.join_le (Hl.le_trans le l2) l3⟩
 ·intro y;rcases d1 y with q | q
  ·exact .inl q
  ·exact .inr (by unfold Hl.less; split <;> first | rfl | exact q)
 ·intro y;rcases d3 y with q | q
  ·exact .inl (by unfold Hl.less; split <;> first | rfl | exact q)
  ·exact .inr q
theorem aNE {P : Program} {f : FuncId} {args : List Value} {K : Hl} {L1 L : List Asn} {R : Ending → List Asn → Prop} (hb : ∃ fn, P.funcs[f]? = some fn ∧ (fn.name == "runtime.NumGoroutine") = false ∧ fn.body.isSome = true)
  (h : ∀ h1, Sat L1 h1 → K.dj h1 → Sp P f args (K.join h1) L fun e _ L' => R e L') : Sp P f args K (L1 ++ L) fun e _ L' => ∃ L'', R e L'' ∧ L' = L1 ++ L'' :=
 ⟨hb, fun F w i => by
  obtain ⟨h1, hs, d, i1⟩ := i.freeze;exact ((h h1 hs d).2 F w i1).mono fun e w' ⟨K', L', r, le, j⟩ => ⟨K'.less h1, L1 ++ L', ⟨L', r, rfl⟩, Hl.le_less (Hl.le_trans Hl.le_join_l le) d, j.thaw hs (Hl.le_trans (Hl.le_join_r d) le)⟩⟩
theorem aPL {α : Type} {z : Bool} {k : El α} {v : Value} {xs : List α} {h : Hl} (hs : sl z k v xs h) : Ksl k h v xs := by
 rcases hs with ⟨rfl, rfl, rfl⟩ | ⟨b, cap, junk, fz, rfl, hz, hc, hj, hf, rfl⟩
 ·exact .inl ⟨none, 0, rfl, rfl⟩
 ·refine .inr ⟨b, 0, cap, k.cs xs ++ junk, fz, rfl, ⟨k.e, by simp [Hl.one]⟩, ?_⟩
  rw [List.drop_zero, ← k.cs_length, List.take_left]
theorem aPV {A : Asn} {L : List Asn} {h : Hl} (hh : Hs A L) (hs : Sat L h) : ∃ a, A a ∧ a.le h := by
 obtain ⟨M, hM⟩ := hh.split;obtain ⟨a, m, ha, hm, hd, rfl⟩ := hM h hs;exact ⟨a, ha, Hl.le_join_l⟩
theorem aM0 {α : Type} {z : Bool} {k : El α} {v : Value} {xs : List α} {L : List Asn} {h : Hl} (hh : Hs (sl z k v xs) L) (hs : Sat L h) : Ksl k h v xs := by
 obtain ⟨a, ha, le⟩ := aPV hh hs;exact (aPL ha).mono le
end Go.SL
end
section
namespace Go.SL
theorem aEI : ∀ {o : Nat} {l cs : List Value}, o + cs.length ≤ l.length → Spl l o cs (l.take o ++ cs ++ l.drop (o + cs.length))
 | 0, l, [], h => by simpa using Spl.nil
 | 0, a :: l, c :: cs, h => by
  have := aEI (o := 0) (l := l) (cs := cs) (by simp at h ⊢; omega);have e : (a :: l).take 0 ++ c :: cs ++ (a :: l).drop (0 + (c :: cs).length) = c :: (l.take 0 ++ cs ++ l.drop (0 + cs.length)) := by simp
  rw [e]; exact .cons this
 | 0, [], c :: cs, h => by simp at h
 | o + 1, a :: l, cs, h => by
  have := aEI (o := o) (l := l) (cs := cs) (by simp at h; omega);have e : (a :: l).take (o + 1) ++ cs ++ (a :: l).drop (o + 1 + cs.length) = a :: (l.take o ++ cs ++ l.drop (o + cs.length)) := by
   have : o + 1 + cs.length = (o + cs.length) + 1 := by omega
   rw [this]; simp
  rw [e]; exact .skip this
 | o + 1, [], cs, h => by simp at h
theorem aBD {α : Type} (k : El α) {y : α} : ∀ {xs : List α} {j : Nat} {r : List Value}, j < xs.length → (k.cs xs ++ r).take (j * k.sz) ++ k.enc y ++ (k.cs xs ++ r).drop (j * k.sz + (k.enc y).length) = k.cs (xs.set j y) ++ r
 | [], _, _, h => by simp at h
 | x :: xs, 0, r, h => by
  simp only [Nat.zero_mul, List.take_zero, List.nil_append, Nat.zero_add, List.set_cons_zero, El.cs, List.flatMap_cons, List.append_assoc];have : (k.enc y).length = (k.enc x).length := by rw [k.len, k.len]
  rw [this, List.drop_left]
 | x :: xs, j + 1, r, h => by
  have ih := aBD k (y := y) (xs := xs) (j := j) (r := r) (by simpa using h);have hx := k.len x;simp only [El.cs, List.set_cons_succ, List.flatMap_cons, List.append_assoc] at ih ⊢;have e1 : (j + 1) * k.sz = (k.enc x).length + j * k.sz := by rw [Nat.succ_mul, hx]; omega
  have e2 : (j + 1) * k.sz + (k.enc y).length = (k.enc x).length + (j * k.sz + (k.enc y).length) := by rw [e1]; omega
  rw [e1, List.take_append, List.take_of_length_le aH, show (k.enc x).length + j * k.sz - (k.enc x).length = j * k.sz by omega];rw [show (k.enc x).length + j * k.sz + (k.enc y).length = (k.enc x).length + (j * k.sz + (k.enc y).length) by omega, List.drop_append, List.drop_eq_nil_of_le aH, show (k.enc x).length + (j * k.sz + (k.enc y).length) - (k.enc x).length = j * k.sz + (k.enc y).length by omega];rw [List.nil_append, List.append_assoc, ih]
section
variable {E : Env} {fr : Fr} {K : Hl} {L L' : List Asn} {dst : Option Tmp} {ty : TypeId} {pos : String} {aft : Array Edge} {g : Option (Nat × Bool)} {x y : Operand} {t : TypeId} {α : Type} {k : El α} {v : Value} {xs : List α}
theorem aAF {zf : Bool} {j : Nat} {y0 : α} (ht : aggB E.P t k.sz = true) (hx : fr.ev x = some (jQ v (j * k.sz))) (hy : fr.ev y = some (.agg (k.enc y0).toArray)) (hj : j < xs.length)
  (hF : Fnd (sl zf k v xs) (sl zf k v (xs.set j y0)) L L') : EfS E fr K L ⟨dst, .store t x y, ty, pos, aft, g⟩ (fun _ K' L'' => K' = K ∧ L'' = L') := by
 intro a w f q;obtain ⟨M, m1, m2⟩ := hF.split;rcases (q.imp m1).slCases with ⟨rfl, rfl, _⟩ | ⟨b, cap, junk, fz, rfl, hz, hcap, hjk, hf, q0⟩
 ·simp at hj
 ·have hx' : fr.ev x = some (ptr b (j * k.sz)) := by rw [hx]; simp [jQ, iK]
  have hle : j * k.sz + k.sz ≤ xs.length * k.sz := by rw [← Nat.succ_mul]; exact Nat.mul_le_mul_right _ hj
  have hle2 : xs.length * k.sz ≤ cap * k.sz := Nat.mul_le_mul_right _ hcap;obtain ⟨u, w', K', L'', hr, ⟨rfl, rfl⟩, le, q1⟩ := cH (K := K) (dst := dst) (ty := ty) (pos := pos) (aft := aft) (g := g) (l := k.cs xs ++ junk) (u := k.e) (fz := fz) ht hx' hy (k.len y0) (.here (L := M)) (fun c hc => k.one y0 c hc) (aEI (by rw [List.length_append, k.cs_length, k.len]; omega)) (fun i hi => hf.at aH) a w f q0;refine ⟨u, w', _, _, hr, ⟨rfl, rfl⟩, le, q1.imp fun h hh => m2 h ?_⟩
  obtain ⟨aa, l, ha, hl, hd, he⟩ := hh;refine ⟨aa, l, ?_, hl, hd, he⟩
  rw [aBD k hj] at ha;refine .inr ⟨b, cap, junk, fz, by rw [List.length_set], ?_, by rw [List.length_set]; exact hcap, by rw [List.length_set]; exact hjk, hf, ha⟩
  intro h1 h2;exact hz h1 (by have := congrArg List.length h2; simp at this; exact List.length_eq_zero_iff.1 (by simpa using this))
end
end Go.SL
end
section
namespace Go.SL
section
variable {P : Program} {fn : Func} {n : Nat} {w0 : World} {F K0 K : Hl} {fr : Fr} {L : List Asn} {R : Ending → Hl → List Asn → Prop} {t1 t2 t3 t4 : Nat} {v1 v2 v3 v4 : Value}
theorem aEB (h : fn.results = #[.tmp t1, .tmp t2, .tmp t3]) (tmps : Array Value) (w : World) (e1 : tmps.getD t1 undef = v1) (e2 : tmps.getD t2 undef = v2) (e3 : tmps.getD t3 undef = v3) : (results fn tmps).run P w = .ok (.tuple #[v1, v2, v3]) w := by
 have e1 : tmps[t1]?.getD undef = v1 := by simpa using e1
 have e2 : tmps[t2]?.getD undef = v2 := by simpa using e2
 have e3 : tmps[t3]?.getD undef = v3 := by simpa using e3
 simp [results, h, e1, e2, e3, Sem.run_bind, Result.andThen]
theorem qZ (hr : fn.results = #[.tmp t1, .tmp t2, .tmp t3]) (h1 : fr.get t1 = some v1) (h2 : fr.get t2 = some v2) (h3 : fr.get t3 = some v3) (le : K0.le K) (h : R (.returned (.tuple #[v1, v2, v3])) K L) :
  D ⟨P, n, [], w0, F⟩ .ret fr K L (rR P fn w0 F K0 R) :=
 fun a w f i => ⟨f.defers, _, aEB hr _ _ (by simp [f.get _ _ h1]) (by simp [f.get _ _ h2]) (by simp [f.get _ _ h3]), K, L, h, le, i⟩
end
theorem aJC {E : Env} {x : Exit} {fr : Fr} {K : Hl} {L M : List Asn} {Q : Post} (h : D E x fr K L Q) : D E x fr K (L ++ M) Q := fun a w f i => h a w f i.left
theorem wM {α : Type} {z : Bool} {k : El α} {v : Value} {xs : List α} {L : List Asn} : ∀ h, Sat (sl z k v xs :: L) h → ∃ a n c, v = .slice a n c := by
 rintro h ⟨a, l, ha, _⟩;rcases ha with ⟨rfl, _⟩ | ⟨b, cap, junk, fz, rfl, _⟩ <;> exact ⟨_, _, _, rfl⟩
end Go.SL
end
section
namespace Go.Syn
open Go.Mach
def t1 : aL := [105, 102, 32, 104, 101, 97, 100, 101, 114, 32, 34, 83, 117, 98, 106, 101, 99, 116, 34, 32, 34, 120, 34, 32, 123, 32, 100, 105, 115, 99, 97, 114, 100, 59, 32, 125, 32, 101, 108, 115, 101, 32, 123, 32, 107, 101, 101, 112, 59, 32, 125]
def t2 : aL := [105, 102, 32, 104, 101, 97, 100, 101, 114, 32, 58, 99, 111, 109, 112, 97, 114, 97, 116, 111, 114, 32, 34, 105, 59, 111, 99, 116, 101, 116, 34, 32, 34, 83, 117, 98, 106, 101, 99, 116, 34, 32, 34, 120, 34, 32, 123, 32, 100, 105, 115, 99, 97, 114, 100, 59, 32, 125, 32, 101, 108, 115, 101, 32, 123, 32, 114, 101, 100, 105, 114, 101, 99, 116, 32, 34, 97, 64, 98, 34, 59, 32, 125]
def tb : aL := [107, 101, 101, 112, 59, 32, 105, 102, 32, 123, 32, 125]
def m1 : Msg := ⟨[], [], 0, [([115, 117, 98, 106, 101, 99, 116], [88])]⟩
def pc (s : aL) : Int × Int := if 600 < s.length then (1, -1) else match e8 s with | .ok _ => (0, -1) | .error e => e
def sayC (r : List aL × Tree) (m : Msg) : Out := Mach.run (decide (dH ∈ r.1)) (Cmp.script r.2) m
def te : Option (Int × Int) → Int × Int
 | none => (0, -1)
 | some e => e
def rn (s : aL) (m : Msg) : List gC × Int × Bool :=
 if 600 < s.length then ([], 1, false)
 else match e8 s with
  | .error e => ([], e.1, false)
  | .ok r => ((sayC r m).acts, (te (sayC r m).err).1, true)
def okB {α : Type} (r : Res α) : Bool := match r with | .ok _ => true | .error _ => false
theorem aQ3 : okB (e8 t1) = true := by kernel_rfl
theorem aQU : pc t1 = (0, -1) := by kernel_rfl
theorem aQV : pc tb = (4, 9) := by kernel_rfl
theorem aQX : rn t1 m1 = ([], 0, true) := by kernel_rfl
theorem aQY : rn t2 m1 = ([(3, [97, 64, 98])], 0, true) := by kernel_rfl
end Go.Syn
end
section
namespace Go.Proofs
open Go Go.SL Go.Syn Go.Mach Go.Cmp
theorem ScriptAt.mono {K K' : Hl} {b : Nat} {needs : List (List UInt8)} {t : Tree} (h : ScriptAt K b needs t) (le : K.le K') : ScriptAt K' b needs t :=
 let ⟨l, nv, bv, ys, fz, h1, h2, h3, h4, h5, h6, h7⟩ := h.at_
 ⟨l, nv, bv, ys, fz, le _ _ h1, h2, h3, h4.mono le, h5.mono le, h6.mono le, h7⟩
def tT (K : Hl) (b : Nat) (r : List aL × Tree) : Prop := ∃ tb cv vs fz, K b = some (aU [ptr tb 6, cv] 89 fz) ∧ ScriptAt K tb r.1 r.2 ∧ Ksl f5 K cv vs ∧ RIs K vs (Cmp.script r.2)
theorem tT.mono {K K' : Hl} {b : Nat} {r : List aL × Tree} (h : tT K b r) (le : K.le K') : tT K' b r :=
 let ⟨tb, cv, vs, fz, h1, h2, h3, h4⟩ := h
 ⟨tb, cv, vs, fz, le _ _ h1, h2.mono le, h3.mono le, h4.mono le⟩
def aO0 (s : aL) (x y : Value) (K : Hl) : Prop :=
 (600 < s.length ∧ x = .pointer none ∧ y = .iface 30 (i64 1)) ∨
 (s.length ≤ 600 ∧ ∃ b r, e8 s = .ok r ∧ x = ptr b ∧ y = .nilIface ∧ tT K b r) ∨
 (s.length ≤ 600 ∧ ∃ fb e p, e8 s = .error (e, p) ∧ x = .pointer none ∧ y = .iface 118 (ptr fb) ∧ K fb = some (aU [i64 e, i64 p] 123))
theorem aBZ (s : aL) (K : Hl) (hg : Glob K) : Sp Tryz.prog 38 [str s] K [] (Ret fun v K' L' => ∃ x y, v = .tuple #[x, y] ∧ aO0 s x y K' ∧ L' = []) := by
 refine bB Tryz.func38 rfl Tryz.ntmps38 rfl rfl fun F w => ?_
 refine aI (aB ?_);refine aA (aF rfl) rfl ?_;refine aA (aF rfl) rfl ?_;refine aG (aE ?_);refine aI (aB ?_);refine aA (aC rfl) rfl ?_;refine bD rfl rfl (aD9 s _ hg) .nil rfl ?_;rintro v8 K1 _ ⟨hP, rfl⟩ le1;obtain ⟨x, y, rfl, hxy⟩ : ∃ x y, v8 = .tuple #[x, y] ∧ ((600 < s.length ∧ x = .pointer none ∧ y = .iface 30 (i64 1)) ∨ (s.length ≤ 600 ∧ ∃ b r, e8 s = .ok r ∧ x = ptr b 6 ∧ y = .nilIface ∧ ScriptAt K1 b r.1 r.2) ∨ (s.length ≤ 600 ∧ ∃ fb e p, e8 s = .error (e, p) ∧ x = .pointer none ∧ y = .iface 118 (ptr fb) ∧ K1 fb = some (aU [i64 e, i64 p] 123))) := (by rcases hP with ⟨h6, rfl⟩ | ⟨h6, ⟨b, r, hr, rfl, hat⟩ | ⟨fb, e, p, hr, rfl, hfb⟩⟩; exact ⟨_, _, rfl, .inl ⟨h6, rfl, rfl⟩⟩; exact ⟨_, _, rfl, .inr (.inl ⟨h6, b, r, hr, rfl, rfl, hat⟩)⟩; exact ⟨_, _, rfl, .inr (.inr ⟨h6, fb, e, p, hr, rfl, rfl, hfb⟩)⟩);refine aA (aC rfl) rfl ?_;refine aA (aR rfl rfl) rfl ?_;refine aA (aR rfl rfl) rfl ?_;refine aA (aF rfl) rfl ?_;refine aA (aF rfl) rfl ?_;refine aG (aE ?_);rcases hxy with ⟨h6, rfl, rfl⟩ | ⟨h6, b, r, hr, rfl, rfl, hat⟩ | ⟨h6, fb, e, p, hr, rfl, rfl, hfb⟩
 ·
  refine aI (aI ?_);refine aB ?_;refine aA (aC rfl) rfl ?_;refine aA (oD Tryz.underlying79 rfl rfl) rfl ?_;refine aG (aE ?_);refine eS rfl ?_;refine aI (aB ?_);refine aA (aC rfl) rfl ?_;refine aA (aF rfl) rfl ?_;refine aA (aF rfl) rfl ?_;refine aG (aE ?_);refine bM ?_;refine bC ?_;refine aO .nil ?_;refine j1 rfl rfl rfl le1 ?_;exact ⟨_, rfl, _, _, rfl, .inl ⟨h6, rfl, rfl⟩, rfl⟩
 ·
  have hfit := yE hr;refine aI (aI ?_);refine aB ?_;refine aA (aC rfl) rfl ?_;refine aA (q8 Tryz.underlying79 rfl) rfl ?_;refine aG (aE ?_);refine cQ rfl ?_;refine a6 ?_;refine aE (aI ?_);refine aB ?_;refine aA (aC rfl) rfl ?_;refine aA (aC rfl) rfl ?_;refine bD rfl rfl (aCI b r.1 r.2 _ hat hfit.1 aH) .nil rfl ?_;rintro cv K2 _ ⟨vs, hvs, rfl⟩ le2;refine gI fun K3 le3 hcv => ?_
  obtain ⟨ca, cn, cc, rfl⟩ := hcv.isSlice;refine aA (cK tb89 aRH (.cons rfl rfl rfl (.cons .nil) (.cons rfl rfl rfl (.skip (.cons .nil)) .nil))) rfl ?_;refine ol_s (eM rfl rfl) rfl ?_;rintro _ K _ ⟨b18, rfl, rfl, rfl⟩ -;refine aA (aF rfl) rfl ?_;refine aA (aF rfl) rfl ?_;refine aG (aE ?_);refine bM ?_;refine gG fun K4 le4 hb => ?_
  refine aO .nil ?_;refine j1 rfl rfl rfl (Hl.le_trans le1 (Hl.le_trans le2 (Hl.le_trans le3 le4))) ?_;exact ⟨_, rfl, _, _, rfl, .inr (.inl ⟨h6, b18, r, hr, rfl, rfl, b, _, vs, _, hb, hat.mono (Hl.le_trans le2 (Hl.le_trans le3 le4)), hcv.mono le4, hvs.mono (Hl.le_trans le3 le4)⟩), rfl⟩
 ·
  refine aI (aI ?_);refine aB ?_;refine aA (aC rfl) rfl ?_;refine aA (oD Tryz.underlying79 rfl rfl) rfl ?_;refine aG (aE ?_);refine eS rfl ?_;refine aI (aB ?_);refine aA (aC rfl) rfl ?_;refine aA (aF rfl) rfl ?_;refine aA (aF rfl) rfl ?_;refine aG (aE ?_);refine bM ?_;refine bC ?_;refine aO .nil ?_;refine j1 rfl rfl rfl le1 ?_;exact ⟨_, rfl, _, _, rfl, .inr (.inr ⟨h6, fb, e, p, hr, rfl, rfl, hfb⟩), rfl⟩
def aO1 (s : aL) (x : Value) (K : Hl) : Prop := (∃ b r, s.length ≤ 600 ∧ e8 s = .ok r ∧ x = ptr b ∧ tT K b r) ∨ (x = .pointer none ∧ (600 < s.length ∨ ∃ e, e8 s = .error e))
theorem o6 (s : aL) (K : Hl) (hg : Glob K) (hE : ErrT K) : Sp Tryz.prog 19 [str s] K [] (Ret fun v K' L' => ∃ x, v = .tuple #[x, i64 (pc s).1, i64 (pc s).2] ∧ aO1 s x K' ∧ L' = []) := by
 refine bB Tryz.func19 rfl Tryz.ntmps19 rfl rfl fun F w => ?_
 refine aI (aB ?_);refine aA (aF rfl) rfl ?_;refine aA (aF rfl) rfl ?_;refine aA (aF rfl) rfl ?_;refine aG (aE ?_);refine aI (aB ?_);refine aA (aC rfl) rfl ?_;refine bD rfl rfl (aBZ s _ hg) .nil rfl ?_;rintro _ K1 _ ⟨x, y, rfl, hP, rfl⟩ le1;refine aA (aC rfl) rfl ?_;refine aA (aR rfl rfl) rfl ?_;refine aA (aR rfl rfl) rfl ?_;refine aA (aF rfl) rfl ?_;refine aA (aF rfl) rfl ?_;refine aG (aE ?_);rcases hP with ⟨h6, rfl, rfl⟩ | ⟨h6, b, r, hr, rfl, rfl, hat⟩ | ⟨h6, fb, e, p, hr, rfl, rfl, hfb⟩
 ·
  refine aI (aB ?_);refine aA (aC rfl) rfl ?_;refine bD rfl rfl (aQC 1 _ (hE.mono le1)) .nil rfl ?_;rintro _ K _ ⟨rfl, rfl, rfl⟩ -;refine aA (aC rfl) rfl ?_;refine aA (aR rfl rfl) rfl ?_;refine aA (aR rfl rfl) rfl ?_;refine aA (aF rfl) rfl ?_;refine aA (aF rfl) rfl ?_;refine aG (aE ?_);refine aI (aB ?_);refine aA (aC rfl) rfl ?_;refine aA (aC rfl) rfl ?_;refine aA (aC rfl) rfl ?_;refine aA (aF rfl) rfl ?_;refine aA (aF rfl) rfl ?_;refine aA (aF rfl) rfl ?_;refine aG (aE ?_);refine bM ?_;refine aO .nil ?_;refine qZ rfl rfl rfl rfl le1 ?_;have hpc : pc s = (1, -1) := (by unfold pc; rw [if_pos h6]);exact ⟨_, rfl, _, by rw [hpc], .inr ⟨rfl, .inl h6⟩, rfl⟩
 ·
  refine aI (aB ?_);refine aA (aC rfl) rfl ?_;refine cF rfl rfl (aCX _) rfl ?_;refine aA (aC rfl) rfl ?_;refine aA (aR rfl rfl) rfl ?_;refine aA (aR rfl rfl) rfl ?_;refine aA (aF rfl) rfl ?_;refine aA (aF rfl) rfl ?_;refine aG (aE ?_);refine aI (aB ?_);refine aA (aC rfl) rfl ?_;refine aA (aC rfl) rfl ?_;refine aA (aC rfl) rfl ?_;refine aA (aF rfl) rfl ?_;refine aA (aF rfl) rfl ?_;refine aA (aF rfl) rfl ?_;refine aG (aE ?_);refine bM ?_;refine aO .nil ?_;refine qZ rfl rfl rfl rfl le1 ?_;have hpc : pc s = (0, -1) := (by unfold pc; rw [if_neg aH, hr]);exact ⟨_, rfl, _, by rw [hpc], .inl ⟨b, r, h6, hr, rfl, hat⟩, rfl⟩
 ·
  refine aI (aB ?_);refine aA (aC rfl) rfl ?_;refine bD rfl rfl (aFV fb e p _ [] (hE.mono le1) (.known hfb)) .nil rfl ?_;rintro _ K _ ⟨rfl, rfl, rfl⟩ -;refine aA (aC rfl) rfl ?_;refine aA (aR rfl rfl) rfl ?_;refine aA (aR rfl rfl) rfl ?_;refine aA (aF rfl) rfl ?_;refine aA (aF rfl) rfl ?_;refine aG (aE ?_);refine aI (aB ?_);refine aA (aC rfl) rfl ?_;refine aA (aC rfl) rfl ?_;refine aA (aC rfl) rfl ?_;refine aA (aF rfl) rfl ?_;refine aA (aF rfl) rfl ?_;refine aA (aF rfl) rfl ?_;refine aG (aE ?_);refine bM ?_;refine aO .nil ?_;refine qZ rfl rfl rfl rfl le1 ?_;have hpc : pc s = (e, p) := (by unfold pc; rw [if_neg aH, hr]);exact ⟨_, rfl, _, by rw [hpc], .inr ⟨rfl, .inr ⟨_, hr⟩⟩, rfl⟩
theorem aMV (b : Nat) (x : List UInt8) (xs : List (List UInt8)) (l : List Value) (nv : Value) (fz : Nat × Nat) (K : Hl) (hb : K b = some (aU l 208 fz)) (hl : l[6]? = some nv) (hv : Ksl (bK 9) K nv xs) (hn : xs.length ≤ 1000000) :
  Sp Tryz.prog 59 [ptr b 6, str x] K [] (Val (.bool (decide (x ∈ xs))) K) := by
 refine bB Tryz.func59 rfl Tryz.ntmps59 rfl rfl fun F w => ?_
 refine aI (aB ?_);refine aA (aF rfl) rfl ?_;refine aG (aE ?_);refine aI (aB ?_);refine aA (aC rfl) rfl ?_;refine aA bS rfl ?_;refine aA (aD (o' := 6) qE rfl rfl) rfl ?_;refine aA (aK ts39 rfl (.known hb) hl) rfl ?_;refine aA (aC rfl) rfl ?_;refine bD rfl rfl (kB nv x xs _ [] (.known hv) hn) .nil rfl ?_;rintro _ K _ ⟨rfl, rfl, rfl⟩ -;refine aA (aF rfl) rfl ?_;refine aG (aE ?_);refine bM ?_;refine aO .nil ?_;refine bJ rfl rfl (Hl.le_refl _) ?_;exact ⟨rfl, rfl, rfl⟩
abbrev msgV (m : Msg) (hv : Value) : Value := .agg #[str m.from_, str m.to_, i64 m.size, hv]
def aQE (out : Out) : Ending → Hl → List Asn → Prop := Ret fun v K' L' => ∃ av ev M, v = .tuple #[av, ev] ∧ L' = sl true dG av out.acts :: M ∧ ErrP out.err ev M
theorem aHC (b : Nat) (r : List aL × Tree) (s : aL) (m : Msg) (hv : Value) (K : Hl) (hg : Glob K) (hr : e8 s = .ok r) (hl : s.length ≤ 600) (hat : tT K b r) (hh : Ksl hdEl K hv m.hs) (hm : MsgOk m) :
  Sp Tryz.prog 40 [ptr b, msgV m hv] K [] (aQE (sayC r m)) := by
 obtain ⟨tb, cv, vs, fz, hb, hS, hcv, hvs⟩ := hat;obtain ⟨l, nv, bv, ys, fz2, htb, hl6, hl7, hnv, _, _, _⟩ := hS.at_;obtain ⟨ha, hn, hc, rfl⟩ := hh.isSlice;have hfit := yE hr;have hneeds := aB6 hr;have hsl := Cmp.script_len r.2;have hins : ∀ o ∈ Cmp.script r.2, InsOk o := fun o ho => by
  obtain ⟨q1, q2, q3, q4⟩ := Cmp.script_fit hfit.2.1 o ho;exact ⟨by omega, by omega, fun x hx => by have := q1 x hx; omega, fun x hx => by have := q2 x hx; omega⟩
 refine bB Tryz.func40 rfl Tryz.ntmps40 rfl rfl fun F w => ?_
 refine aI (aB ?_);refine ol_s (eM rfl rfl) rfl ?_;rintro _ K _ ⟨b3, rfl, rfl, rfl⟩ -;refine aA (aF rfl) rfl ?_;refine aA (aF rfl) rfl ?_;refine aG (aE ?_);refine aI ?_;refine t_draw (anc := [0, 1, 3, 7, 15, 0, 32, 96, 224, 0, 1023, 2047, 4095, 4095, 4095, 8191, 49151, 131071]) (ord := [0, 1, 2, 3, 5, 6, 7, 8, 9, 4, 10, 11, 12, 13, 14, 15, 16, 17]) [4, 10] [10] mixed (by decide +kernel) (cS _) ?_;refine dl_ev rfl rfl (.none rfl) rfl rfl (aC rfl) rfl ?_;refine dl_ev rfl rfl (.none rfl) rfl rfl bS rfl ?_;refine dl_ev rfl rfl (.none rfl) rfl rfl (aD (o' := 0) aLV rfl rfl) rfl ?_;refine dl_ev rfl rfl (.none rfl) rfl rfl (aK ts87 rfl (.known hb) rfl) rfl ?_;refine dl_ev rfl rfl (.none rfl) rfl rfl (aC rfl) rfl ?_;refine dl_ev rfl rfl (.none rfl) rfl rfl bS rfl ?_;refine dl_ev rfl rfl (.none rfl) rfl rfl (aD (o' := 1) aLW rfl rfl) rfl ?_;refine dl_ev rfl rfl (.none rfl) rfl rfl (aK ts42 rfl (.known hb) rfl) rfl ?_;refine dl_ev rfl rfl (.none rfl) rfl rfl (bW iV rfl aM rfl rfl) rfl ?_;refine dl_callv rfl (.none rfl) rfl rfl rfl rfl (aMV tb dH r.1 l nv fz2 _ htb hl6 hnv aH) rfl ?_;refine j4 rfl (.none rfl) rfl rfl rfl (aK3 (decide (dH ∈ r.1)) cv (.slice ha hn hc) vs (Cmp.script r.2) m _ hg hcv hvs hh hm hins aH) .nil rfl ?_;rintro _ K1 _ ⟨av, ev, M, rfl, rfl, hev⟩ le1;refine dl_ev rfl rfl (.none rfl) rfl rfl (aC rfl) rfl ?_;refine dl_ev rfl rfl (.none rfl) rfl rfl (aR rfl rfl) rfl ?_;refine dl_ev rfl rfl (.none rfl) rfl rfl (aR rfl rfl) rfl ?_;refine dl_ev rfl rfl (.none rfl) rfl rfl (aR rfl rfl) rfl ?_;refine dl_ev rfl rfl (.none rfl) rfl rfl (aF rfl) rfl ?_;refine dl_ev rfl rfl (.none rfl) rfl rfl (aF rfl) rfl ?_;refine dl_ev rfl rfl (.none rfl) rfl rfl (aF rfl) rfl ?_;refine dl_nil ?_;refine aE (aI ?_);refine aB ?_;refine aA (aC rfl) rfl ?_;refine aA (aC rfl) rfl ?_;refine aA (aF rfl) rfl ?_;refine aA (aF rfl) rfl ?_;refine aG (aE ?_);refine bM ?_;refine aJC (aJC ?_)
 refine j1 rfl rfl rfl le1 ?_;exact ⟨_, rfl, av, ev, M, rfl, rfl, hev⟩
end Go.Proofs
end
section
namespace Go.Proofs
open Go Go.SL Go.Syn Go.Mach Go.Cmp
theorem aAD (m : Msg) (hv : Value) (K : Hl) (hh : Ksl hdEl K hv m.hs) (hn : m.hs.length ≤ 1000000) : Sp Tryz.prog 34 [msgV m hv] K [] (Ret fun v K' L' => ∃ a n c, v = msgV m (.slice a n c) ∧ K' = K ∧ L' = [sl false hdEl (.slice a n c) m.hs]) := by
 obtain ⟨ha, hn1, hc, rfl⟩ := hh.isSlice;refine bB Tryz.func34 rfl Tryz.ntmps34 rfl rfl fun F w => ?_
 refine aI (aB ?_);refine ol_s (eM rfl rfl) rfl ?_;rintro _ K _ ⟨b1, rfl, rfl, rfl⟩ -;refine ol_s (cO tz28) rfl ?_;rintro _ K _ ⟨b2, rfl, rfl, rfl⟩ -;refine aG (aE ?_);refine aI (aB ?_);refine aA (aD (o' := 3) pI rfl rfl) rfl ?_;refine aA (aK ts26 rfl aM rfl) rfl ?_;refine kS (eW hdEl) ?_;refine ol_s (dQ (k := hdEl) (ys := m.hs) aAU rfl rfl .here (fun w j => dN Tryz.underlying26 (SeesSl.at (k := hdEl) (.known hh) j)) (by simp; omega) (by simp; omega)) rfl ?_;rintro v5 K _ ⟨rfl, rfl, ho5⟩ -;refine aM4 wM ?_;rintro ⟨sa, sn, sc, rfl⟩;refine aA (aD (o' := 3) pI rfl rfl) rfl ?_;refine bR (bI ts26 rfl rfl cG a7 (.succ (.succ (.succ .zero))) rfl) ?_;rintro _ K _ ⟨rfl, rfl⟩ -;refine aG (aE ?_);refine aI (aB ?_);refine aA (bW iV rfl aM rfl rfl) rfl ?_;refine bR (cH iV rfl rfl rfl a7 (by first | (simp [Value.oneCell']; done) | exact fun c hc => El.one _ _ c hc) (.cons (.cons (.cons (.cons .nil)))) (by intro j hj; simp)) ?_;rintro _ K _ ⟨rfl, rfl⟩ -;refine aG (aE ?_);refine bM ?_;refine sX rfl rfl iV aM rfl rfl (Hl.le_refl _) (.cons .here .nil) ?_;exact ⟨_, rfl, _, _, _, rfl, rfl, rfl⟩
structure TI where
 i : Nat
 xs : List (aL × aL)
def mine : aL := [109, 105, 110, 101]
theorem y1 (m : Msg) (hv : Value) (hs : List (aL × aL)) (K : Hl) (hn : hs.length ≤ 1000000) : Sp Tryz.prog 36 [msgV m hv] K [sl false hdEl hv hs] (Ret fun v K' L' => v = .tuple #[] ∧ K' = K ∧ L' = []) := by
 refine bB Tryz.func36 rfl Tryz.ntmps36 rfl rfl fun F w => ?_
 refine wO wM ?_;rintro ⟨sa, sn, sc, rfl⟩;refine aI (aB ?_);refine ol_s (eM rfl rfl) rfl ?_;rintro _ K _ ⟨b1, rfl, rfl, rfl⟩ -;refine aG (aE ?_);refine aI (aB ?_);refine aA (aD (o' := 3) pI rfl rfl) rfl ?_;refine aA (aK ts26 rfl aM rfl) rfl ?_;refine aA (cE (k := hdEl) rfl Tryz.underlying26 rfl aM) rfl ?_;refine aA (aC rfl) rfl ?_;refine aG (aE ?_);refine bF ?_;refine eK (fun (q : TI) => q.i ≤ hs.length ∧ q.xs.length = hs.length) (fun q => [(1, ptr b1), (5, i64 hs.length), (6, i64 q.i)]) (fun _ => K) (fun q => [pt b1 (aU [str m.from_, str m.to_, i64 m.size, .slice sa sn sc] 28), sl false hdEl (.slice sa sn sc) q.xs]) (fun q => hs.length - q.i) ⟨0, hs⟩ ⟨Nat.zero_le _, rfl⟩ (.cons 1 rfl (.cons 5 rfl (.cons 6 rfl .nil))) rfl (fun _ h => h) ?_;intro ⟨i, xs⟩ ⟨hi0, hx⟩;dsimp only at hi0 hx ⊢;refine aI (aB ?_);refine aA (dA rfl rfl) rfl ?_;refine aG (aE ?_);refine aI ?_;refine bE 7 rfl (fun h7 => ?_) (fun h7 => ?_)
 ·
  have hilt : i < xs.length := by omega
  refine a6 ?_;refine aE (aI ?_);refine bF (aI ?_);refine aB ?_;refine aA (aC rfl) rfl ?_;refine aA (aF rfl) rfl ?_;refine aG (aE ?_);refine aB ?_;refine aA (aD (o' := 3) pI rfl rfl) rfl ?_;refine aA (aK ts26 rfl aM rfl) rfl ?_;refine aA (aC rfl) rfl ?_;refine aA (cK tb25 aLJ (.cons rfl rfl rfl (.cons .nil) (.cons rfl rfl rfl (.skip (.cons .nil)) .nil))) rfl ?_;refine aA (b0 (k := hdEl) qK rfl aM rfl rfl (by first | assumption | omega)) rfl ?_;refine bR (aAF (k := hdEl) (y0 := (mine, mine)) aEL rfl rfl (by first | assumption | omega) a7) ?_;rintro _ K _ ⟨rfl, rfl⟩ -;refine aG (aN ?_);refine aE (aB ?_);refine aA (bZ rfl rfl aH aH) rfl ?_;refine aA (aC rfl) rfl ?_;refine aG ?_;exact cL ⟨i + 1, xs.set i (mine, mine)⟩ ⟨by (show i + 1 ≤ hs.length); omega, by simpa using hx⟩ (by (show hs.length - (i + 1) < hs.length - i); omega) (.cons 1 rfl (.cons 5 rfl (.cons 6 rfl .nil))) rfl (fun _ h => h)
 ·
  refine cY ?_;refine aV ?_;refine aV ?_;refine bL ?_;refine aO .nil ?_;refine dE rfl (Hl.le_refl _) ?_;exact ⟨_, rfl, rfl, rfl, rfl⟩
theorem aHD (b : Nat) (r : List aL × Tree) (s : aL) (m : Msg) (hv : Value) (K : Hl) (hg : Glob K) (hr : e8 s = .ok r) (hl : s.length ≤ 600) (hat : tT K b r) (hm : MsgOk m) :
  Sp Tryz.prog 40 [ptr b, msgV m hv] K [sl false hdEl hv m.hs] (Ret fun v K' L' => ∃ av ev M, v = .tuple #[av, ev] ∧ L' = sl false hdEl hv m.hs :: sl true dG av (sayC r m).acts :: M ∧ ErrP (sayC r m).err ev M) := by
 have h := aNE (K := K) (L1 := [sl false hdEl hv m.hs]) (L := []) (R := fun e L' => ∃ v, e = .returned v ∧ ∃ av ev M, v = .tuple #[av, ev] ∧ L' = sl true dG av (sayC r m).acts :: M ∧ ErrP (sayC r m).err ev M) ⟨_, Tryz.func40, rfl, rfl⟩ (fun h1 hs d => (aHC b r s m hv (K.join h1) (hg.mono Hl.le_join_l) hr hl (hat.mono Hl.le_join_l) ((aM0 .here hs).mono (Hl.le_join_r d)) hm).mono fun e K' L' q => q);refine h.mono ?_;rintro e K' L' ⟨L'', ⟨v, rfl, av, ev, M, rfl, rfl, hev⟩, rfl⟩;exact ⟨_, rfl, av, ev, M, rfl, rfl, hev⟩
theorem aHJ (b : Nat) (r : List aL × Tree) (s : aL) (m : Msg) (hv : Value) (K : Hl) (hg : Glob K) (hE : ErrT K) (hr : e8 s = .ok r) (hl : s.length ≤ 600) (hat : tT K b r) (hh : Ksl hdEl K hv m.hs) (hm : MsgOk m) :
  Sp Tryz.prog 21 [ptr b, msgV m hv] K [] (Ret fun v K' L' => ∃ av, v = .tuple #[av, i64 (te (sayC r m).err).1, i64 (te (sayC r m).err).2] ∧ L' = [sl true dG av (sayC r m).acts]) := by
 have hhn := hm.hn;obtain ⟨ha, hn, hc, rfl⟩ := hh.isSlice;refine bB Tryz.func21 rfl Tryz.ntmps21 rfl rfl fun F w => ?_
 refine aI (aB ?_);refine ol_s (eM rfl rfl) rfl ?_;rintro _ K _ ⟨b3, rfl, rfl, rfl⟩ -;refine aA (aF rfl) rfl ?_;refine aA (aF rfl) rfl ?_;refine aA (aF rfl) rfl ?_;refine aG (aE ?_);refine aI (aB ?_);refine aA (bW iV rfl aM rfl rfl) rfl ?_;refine bD rfl rfl (aAD m _ _ hh hhn) .nil rfl ?_;rintro _ K _ ⟨sa, sn, sc, rfl, rfl, rfl⟩ -;refine ol_s (cO tz28) rfl ?_;rintro _ K _ ⟨b7, rfl, rfl, rfl⟩ -;refine bR (cH iV rfl rfl rfl a7 (by first | (simp [Value.oneCell']; done) | exact fun c hc => El.one _ _ c hc) (.cons (.cons (.cons (.cons .nil)))) (by intro j hj; simp)) ?_;rintro _ K _ ⟨rfl, rfl⟩ -;refine aG (aE ?_);refine aI (aB ?_);refine aA (aC rfl) rfl ?_;refine aA (bW iV rfl aM rfl rfl) rfl ?_;refine bD rfl rfl (aHD b r s m (.slice sa sn sc) _ hg hr hl hat hm) (.cons (.there .here) .nil) rfl ?_;rintro _ K1 _ ⟨av, ev, M, rfl, rfl, hev⟩ le1;refine aA (aC rfl) rfl ?_;refine aA (aR rfl rfl) rfl ?_;refine aA (aR rfl rfl) rfl ?_;refine aA (aF rfl) rfl ?_;refine aA (aF rfl) rfl ?_;refine aG (aE ?_);rcases herr : (sayC r m).err with _ | ⟨e, p⟩
 ·
  rw [herr] at hev;obtain ⟨rfl, rfl⟩ := hev;refine aI (aB ?_);refine aA (bW iV rfl aM rfl rfl) rfl ?_;refine bD rfl rfl (y1 m (.slice sa sn sc) m.hs _ hhn) (.cons .here .nil) rfl ?_;rintro _ K1 _ ⟨rfl, rfl, rfl⟩ -;refine aG (aE ?_);refine aI (aB ?_);refine aA (aC rfl) rfl ?_;refine cF rfl rfl (aCX _) rfl ?_;refine aA (aC rfl) rfl ?_;refine aA (aR rfl rfl) rfl ?_;refine aA (aR rfl rfl) rfl ?_;refine aA (aF rfl) rfl ?_;refine aA (aF rfl) rfl ?_;refine aG (aE ?_);refine aI (aB ?_);refine aA (aC rfl) rfl ?_;refine aA (aC rfl) rfl ?_;refine aA (aC rfl) rfl ?_;refine aA (aF rfl) rfl ?_;refine aA (aF rfl) rfl ?_;refine aA (aF rfl) rfl ?_;refine aG (aE ?_);refine bM ?_;refine aO (.cons .here .nil) ?_;refine qZ rfl rfl rfl rfl le1 ?_;exact ⟨_, rfl, av, rfl, rfl⟩
 ·
  rw [herr] at hev;obtain ⟨fb, rfl, rfl⟩ := hev;refine aI (aB ?_);refine aA (bW iV rfl aM rfl rfl) rfl ?_;refine bD rfl rfl (y1 m (.slice sa sn sc) m.hs _ hhn) (.cons .here .nil) rfl ?_;rintro _ K1 _ ⟨rfl, rfl, rfl⟩ -;refine aG (aE ?_);refine aI (aB ?_);refine aA (aC rfl) rfl ?_;refine bD rfl rfl (aFV fb e p _ [pt fb (aU [i64 e, i64 p] 123)] (hE.mono le1) (.own .here)) (.cons (.there .here) .nil) rfl ?_;rintro _ K1 _ ⟨rfl, rfl, rfl⟩ -;refine aA (aC rfl) rfl ?_;refine aA (aR rfl rfl) rfl ?_;refine aA (aR rfl rfl) rfl ?_;refine aA (aF rfl) rfl ?_;refine aA (aF rfl) rfl ?_;refine aG (aE ?_);refine aI (aB ?_);refine aA (aC rfl) rfl ?_;refine aA (aC rfl) rfl ?_;refine aA (aC rfl) rfl ?_;refine aA (aF rfl) rfl ?_;refine aA (aF rfl) rfl ?_;refine aA (aF rfl) rfl ?_;refine aG (aE ?_);refine bM ?_;refine aO (.cons (.there .here) .nil) ?_;refine qZ rfl rfl rfl rfl le1 ?_;exact ⟨_, rfl, av, rfl, rfl⟩
end Go.Proofs
end
section
namespace Go.SL
section
variable {E : Env} {fr : Fr} {K : Hl} {L L' : List Asn} {dst : Option Tmp} {ty : TypeId} {pos : String} {aft : Array Edge} {g : Option (Nat × Bool)} {t : TypeId} {α : Type} {k : El α}
end
end Go.SL
namespace Go.Cmp
open Go Go.SL Go.Syn Go.Mach
section
variable {E : Env} {ops : Array Oper} {c : Code} {x : Exit} {fr : Fr} {K : Hl} {L : List Asn} {Q : Post} {vs : List InsV} {os : List Ins}
end
end Go.Cmp
end
section
namespace Go.Proofs
open Go Go.SL Go.Syn Go.Mach Go.Cmp
structure CI where
 i : Nat
 v : Value
 ws : List InsV
end Go.Proofs
end
section
namespace Go.Proofs
open Go Go.SL Go.Syn Go.Mach Go.Cmp
structure PI where
 i : Nat
 ws : List InsV
structure PJ where
 k : Nat
 xs : List aL
end Go.Proofs
end
section
namespace Go.Proofs
open Go Go.SL Go.Syn Go.Mach Go.Cmp
structure MsgSz (m : Msg) : Prop where
 from_ : m.from_.length ≤ 140737488355328
 to_ : m.to_.length ≤ 140737488355328
 hn : m.hs.length ≤ 140737488355328
 hs : ∀ h ∈ m.hs, h.1.length ≤ 140737488355328 ∧ h.2.length ≤ 140737488355328
structure SI where
 i : Nat
 n : Int
theorem pY (s : aL) (m : Msg) (hv : Value) (K : Hl) (hg : Glob K) (hE : ErrT K) (hh : Ksl hdEl K hv m.hs) (hm : MsgOk m) : Sp Tryz.prog 16 [str s, msgV m hv] K [] (Ret fun v K' L' => ∃ av, v = .tuple #[av, i64 (rn s m).2.1, .bool (rn s m).2.2] ∧ L' = [sl true dG av (rn s m).1]) := by
 have hh0 := hh;obtain ⟨ha, hn, hc, rfl⟩ := hh.isSlice;refine bB Tryz.func16 rfl Tryz.ntmps16 rfl rfl fun F w => ?_
 refine aI (aB ?_);refine ol_s (eM rfl rfl) rfl ?_;rintro _ K _ ⟨b3, rfl, rfl, rfl⟩ -;refine aA (aF rfl) rfl ?_;refine aA (aF rfl) rfl ?_;refine aA (aF rfl) rfl ?_;refine aG (aE ?_);refine aI (aB ?_);refine aA (aC rfl) rfl ?_;refine bD rfl rfl (o6 s _ hg hE) .nil rfl ?_;rintro _ K1 _ ⟨x, rfl, hP, rfl⟩ le1;refine aA (aC rfl) rfl ?_;refine aA (aR rfl rfl) rfl ?_;refine aA (aR rfl rfl) rfl ?_;refine aA (aR rfl rfl) rfl ?_;refine aA (aF rfl) rfl ?_;refine aA (aF rfl) rfl ?_;refine aA (aF rfl) rfl ?_;refine aG (aE ?_);rcases hP with ⟨b, r, h6, hr, rfl, hat⟩ | ⟨rfl, hno⟩
 ·
  have hpc : pc s = (0, -1) := (by unfold pc; rw [if_neg aH, hr]);rw [hpc];have hrn : rn s m = ((sayC r m).acts, (te (sayC r m).err).1, true) := (by unfold rn; rw [if_neg aH, hr]);refine aI (aI ?_);refine aB ?_;refine aA (aC rfl) rfl ?_;refine aA (mH Tryz.underlying43 rfl rfl) rfl ?_;refine aA (aC rfl) rfl ?_;refine aT rfl rfl ?_;refine aA (aC rfl) rfl ?_;refine aT rfl rfl ?_;refine aA (fO rfl rfl) rfl ?_;refine aA (a8 rfl rfl) rfl ?_;refine aG (aE ?_);refine bE 24 rfl (fun h24 => ?_) (fun h24 => ?_)
  ·
   exact absurd rfl h24
  ·
   refine a6 ?_;refine aE (aI ?_);refine aB ?_;refine aA (aC rfl) rfl ?_;refine aA (bW iV rfl aM rfl rfl) rfl ?_;refine bD rfl rfl (aHJ b r s m (.slice ha hn hc) _ (hg.mono le1) (hE.mono le1) hr h6 hat (hh0.mono le1) hm) .nil rfl ?_;rintro _ K2 _ ⟨av, rfl, rfl⟩ le2;refine aA (aC rfl) rfl ?_;refine aA (aR rfl rfl) rfl ?_;refine aA (aR rfl rfl) rfl ?_;refine aA (aR rfl rfl) rfl ?_;refine aA (aF rfl) rfl ?_;refine aA (aF rfl) rfl ?_;refine aA (aF rfl) rfl ?_;refine aG (aE ?_);refine aI (aB ?_);refine aA (aC rfl) rfl ?_;refine aA (aC rfl) rfl ?_;refine aA (aF rfl) rfl ?_;refine aA (aF rfl) rfl ?_;refine aA (aF rfl) rfl ?_;refine aG (aE ?_);refine bM ?_;refine aO (.cons .here .nil) ?_;refine qZ rfl rfl rfl rfl (Hl.le_trans le1 le2) ?_;exact ⟨_, rfl, av, by rw [hrn], by rw [hrn]⟩
 ·
  have hrn : rn s m = ([], (pc s).1, false) := (by unfold rn pc; rcases hno with h | ⟨e, h⟩; (rw [if_pos h, if_pos h]); (split; rfl; rw [h]));refine aI (aI ?_);refine aB ?_;refine aA (aC rfl) rfl ?_;refine aA (mH Tryz.underlying43 rfl rfl) rfl ?_;refine aA (aC rfl) rfl ?_;refine aQ rfl rfl rfl ?_;refine aQ rfl rfl rfl ?_;refine aA (bH rfl rfl) rfl ?_;refine aG (aE ?_);refine eS rfl ?_;refine aI (aB ?_);refine aA (aC rfl) rfl ?_;refine aA (aF rfl) rfl ?_;refine aA (aF rfl) rfl ?_;refine aA (aF rfl) rfl ?_;refine aG (aE ?_);refine bM ?_;refine bC ?_;refine aO .nil ?_;refine dV (fun h hh => rM (zf := true) (k := dG) hh) ?_;refine qZ rfl rfl rfl rfl le1 ?_;exact ⟨_, rfl, _, by rw [hrn], by rw [hrn]⟩
theorem aB7 (K : Hl) (hg : Glob K) (hE : ErrT K) : Sp Tryz.prog 23 [] K [] (Ret fun v K' L' => v = .bool true ∧ L' = []) := by
 have h1 := aQU;have h2 := aQV;refine bB Tryz.func23 rfl Tryz.ntmps23 rfl rfl fun F w => ?_
 refine aI (aB ?_);refine aA (aF rfl) rfl ?_;refine aG (aE ?_);refine aI (aB ?_);refine bD rfl rfl (o6 t1 _ hg hE) .nil rfl ?_;rintro _ K1 _ ⟨x, rfl, hP, rfl⟩ le1;rw [h1];obtain ⟨b, rfl⟩ : ∃ b, x = ptr b := (by rcases hP with ⟨b, _, _, _, rfl, _⟩ | ⟨_, hno⟩; exact ⟨b, rfl⟩; (exfalso; unfold pc at h1; rcases hno with h | ⟨e, h⟩; (rw [if_pos h] at h1; cases h1); (split at h1; cases h1; rw [h] at h1; simp only [] at h1; subst h1; exact absurd h (by intro h; have := aQ3; rw [h] at this; cases this))));refine aA (aC rfl) rfl ?_;refine aA (aR rfl rfl) rfl ?_;refine aA (aR rfl rfl) rfl ?_;refine aA (aR rfl rfl) rfl ?_;refine aA (aF rfl) rfl ?_;refine aA (aF rfl) rfl ?_;refine aA (aF rfl) rfl ?_;refine aG (aE ?_);refine aI (aB ?_);refine bD rfl rfl (o6 tb _ (hg.mono le1) (hE.mono le1)) .nil rfl ?_;rintro _ K2 _ ⟨y, rfl, hP2, rfl⟩ le2;rw [h2];obtain rfl : y = .pointer none := (by rcases hP2 with ⟨b, r, h6, hr, _, _⟩ | ⟨rfl, _⟩; (exfalso; unfold pc at h2; rw [if_neg aH, hr] at h2; cases h2); rfl);refine aA (aC rfl) rfl ?_;refine aA (aR rfl rfl) rfl ?_;refine aA (aR rfl rfl) rfl ?_;refine aA (aR rfl rfl) rfl ?_;refine aA (aF rfl) rfl ?_;refine aA (aF rfl) rfl ?_;refine aA (aF rfl) rfl ?_;refine aG (aE ?_);refine aI (aB ?_);refine aA (aC rfl) rfl ?_;refine aA (aDQ Tryz.underlying43 rfl rfl) rfl ?_;refine aA (aC rfl) rfl ?_;refine aT rfl rfl ?_;refine aA (aC rfl) rfl ?_;refine aT rfl rfl ?_;refine aA (bT rfl rfl) rfl ?_;refine aA (bH rfl rfl) rfl ?_;refine aA (aC rfl) rfl ?_;refine aT rfl rfl ?_;refine aA (aC rfl) rfl ?_;refine aT rfl rfl ?_;refine aA (mH Tryz.underlying43 rfl rfl) rfl ?_;refine aA (bH rfl rfl) rfl ?_;refine aA (aC rfl) rfl ?_;refine aT rfl rfl ?_;refine aA (aC rfl) rfl ?_;refine aT rfl rfl ?_;refine aA (bT rfl rfl) rfl ?_;refine aA (bH rfl rfl) rfl ?_;refine aA (aC rfl) rfl ?_;refine aT rfl rfl ?_;refine aA (aC rfl) rfl ?_;refine aT rfl rfl ?_;refine aA (bT rfl rfl) rfl ?_;refine aA (bH rfl rfl) rfl ?_;refine aA (aF rfl) rfl ?_;refine aG (aE ?_);refine bM ?_;refine bJ rfl rfl (Hl.le_trans le1 le2) ?_;exact ⟨_, rfl, rfl, rfl⟩
end Go.Proofs
end
section
namespace Go.Proofs
open Go Go.SL Go.Syn Go.Mach Go.Cmp
theorem aN9 : MsgOk m1 := ⟨by decide, by decide, by decide, by decide⟩
theorem aHP (K : Hl) (hg : Glob K) (hE : ErrT K) : Sp Tryz.prog 14 [] K [] (Ret fun v K' L' => v = .bool true ∧ L' = []) := by
 have h1 := aQX;have h2 := aQY;refine bB Tryz.func14 rfl Tryz.ntmps14 rfl rfl fun F w => ?_
 refine aI (aB ?_);refine aA (aF rfl) rfl ?_;refine aG (aE ?_);refine aI (aB ?_);refine bD rfl rfl (aB7 _ hg hE) .nil rfl ?_;rintro _ K1 _ ⟨rfl, rfl⟩ le1;refine aA (aF rfl) rfl ?_;refine aG (aE ?_);refine aI (aB ?_);refine aA (cK tb25 aLJ (.cons rfl rfl rfl (.cons .nil) (.cons rfl rfl rfl (.skip (.cons .nil)) .nil))) rfl ?_;refine ol_s (bO (z0 := [(str []), (str [])]) qK tz25 rfl rfl rfl rfl (.cons rfl rfl rfl (.cons (.cons .nil)) .nil)) rfl ?_;rintro _ K _ ⟨b11, rfl, rfl, rfl⟩ -;refine e7 fun K2 le2 hb11 => ?_
 have hh : Ksl hdEl K2 (.slice (some ⟨b11, 0, none⟩) 1 1) m1.hs := .inr ⟨b11, 0, 1, _, _, rfl, ⟨_, hb11⟩, rfl⟩;have le12 := Hl.le_trans le1 le2;refine aA (cK tb28 aOH (.cons rfl rfl rfl (.skip (.skip (.skip (.cons .nil)))) .nil)) rfl ?_;refine ol_s (cO tz28) rfl ?_;rintro _ K _ ⟨b2, rfl, rfl, rfl⟩ -;refine bR (cH iV rfl rfl rfl a7 (by first | (simp [Value.oneCell']; done) | exact fun c hc => El.one _ _ c hc) (.cons (.cons (.cons (.cons .nil)))) (by intro j hj; simp)) ?_;rintro _ K _ ⟨rfl, rfl⟩ -;refine aG (aE ?_);refine aI (aB ?_);refine aA (bW iV rfl aM rfl rfl) rfl ?_;refine bD rfl rfl (pY t1 m1 _ _ (hg.mono le12) (hE.mono le12) hh aN9) .nil rfl ?_;rintro _ K3 _ ⟨av, rfl, rfl⟩ le3;rw [h1];have hh3 := hh.mono le3;have le13 := Hl.le_trans le12 le3;refine aA (aC rfl) rfl ?_;refine aA (aR rfl rfl) rfl ?_;refine aA (aR rfl rfl) rfl ?_;refine aA (aR rfl rfl) rfl ?_;refine aA (aF rfl) rfl ?_;refine aA (aF rfl) rfl ?_;refine aA (aF rfl) rfl ?_;refine aG (aE ?_);refine aI (aB ?_);refine aA (bW iV rfl aM rfl rfl) rfl ?_;refine bD rfl rfl (pY t2 m1 _ _ (hg.mono le13) (hE.mono le13) hh3 aN9) .nil rfl ?_;rintro _ K4 _ ⟨bv, rfl, rfl⟩ le4;rw [h2];have le14 := Hl.le_trans le13 le4;refine aA (aC rfl) rfl ?_;refine aA (aR rfl rfl) rfl ?_;refine aA (aR rfl rfl) rfl ?_;refine aA (aR rfl rfl) rfl ?_;refine aA (aF rfl) rfl ?_;refine aA (aF rfl) rfl ?_;refine aA (aF rfl) rfl ?_;refine aG (aE ?_);refine aI (aB ?_);refine aA (aC rfl) rfl ?_;refine aA (aC rfl) rfl ?_;refine aT rfl rfl ?_;refine aA (aC rfl) rfl ?_;refine aA (bH rfl rfl) rfl ?_;refine aA (aC rfl) rfl ?_;refine aT rfl rfl ?_;refine aA (aC rfl) rfl ?_;refine aA (bH rfl rfl) rfl ?_;refine aA (aC rfl) rfl ?_;refine aT rfl rfl ?_;refine aA (aC rfl) rfl ?_;refine aT rfl rfl ?_;refine aA (bT rfl rfl) rfl ?_;refine aA (bH rfl rfl) rfl ?_;refine aA (aC rfl) rfl ?_;refine aT rfl rfl ?_;refine aA (aC rfl) rfl ?_;refine aT rfl rfl ?_;refine aA (bT rfl rfl) rfl ?_;refine aA (bH rfl rfl) rfl ?_;refine aA (aC rfl) rfl ?_;refine aT rfl rfl ?_;refine aA (aC rfl) rfl ?_;refine aT rfl rfl ?_;refine aA (cE (k := dG) rfl Tryz.underlying29 rfl (.own (.there .here))) rfl ?_;refine aT rfl rfl ?_;refine aA (bT rfl rfl) rfl ?_;refine aA (bH rfl rfl) rfl ?_;refine aA (aC rfl) rfl ?_;refine aT rfl rfl ?_;refine aA (aC rfl) rfl ?_;refine aT rfl rfl ?_;refine aA (cE (k := dG) rfl Tryz.underlying29 rfl (.own .here)) rfl ?_;refine aT rfl rfl ?_;refine aA (bT rfl rfl) rfl ?_;refine aA (bH rfl rfl) rfl ?_;refine aA (aC rfl) rfl ?_;refine aT rfl rfl ?_;refine aA (aC rfl) rfl ?_;refine aT rfl rfl ?_;refine aA (b0 (k := dG) (j := 0) fZ rfl (.own .here) rfl rfl (by decide)) rfl ?_;refine aT rfl rfl ?_;refine aA (fR (n := 0) (k := dG) jS rfl (.own .here) rfl) rfl ?_;refine aT rfl rfl ?_;refine aA (cK tb34 wQ (.cons rfl rfl rfl (.cons .nil) (.cons rfl rfl rfl (.skip (.cons .nil)) .nil))) rfl ?_;refine aT rfl rfl ?_;refine aA (s0 (a := (3, [97, 64, 98])) (c := (3, [97, 64, 98])) rfl rfl) rfl ?_;refine aA (bH rfl rfl) rfl ?_;refine aA (aF rfl) rfl ?_;refine aG (aE ?_);refine bM ?_;refine aO .nil ?_;refine bJ rfl rfl le14 ?_;exact ⟨_, rfl, rfl, rfl⟩
def vs4 : List InsV := [⟨1, 1, 0, false, nilC, nilC, 0⟩, ⟨4, 1, 0, false, nilC, nilC, 0⟩, ⟨14, 0, 0, false, nilC, nilC, 0⟩, ⟨13, 0, 0, false, nilC, nilC, 0⟩]
end Go.Proofs
end
section
set_option maxRecDepth 100000
namespace Go
theorem kW {H : Type} {enc : TypeId × Value → H} {a : Assume} {C : Checked} {os : Os} {f : FuncId} {fn : Func} {s : ChangeSpec} {conds : List PathCond} {apart fresh handsOn again : Bool} {X : World → Array Value → Prop}
  (hX : ∀ (w w' : World) (args : Array Value), w.heap = w'.heap → X w args → X w' args)
  (own : ownKnob C.prog.godebug = none) (started : os.Started) (noInit : C.prog.inits.idxOf? f = none) (hfn : C.prog.funcs[f]? = some fn)
  (witness : ∃ (w : World) (tape : Tape) (i : Input), w.os = os ∧ (w.forCall tape i).Shaped C.prog ∧ i.vars = [] ∧ Input.okWide C.prog (w.forCall tape i) .any w.heap.size f i ∧
   ((s.pre enc C.prog fn conds apart (w.forCall tape i).memory i.args ∧ X (w.forCall tape i).memory i.args) ∧ sizedMet enc C.prog fn (OpenSpec.ofChange s) apart (w.forCall tape i).memory i.args) ∧ a.holds C.prog (lone (Frame.enter C.prog f i.args .normal) [] (w.forCall tape i)))
  (contract : ∀ (W : World) (base : Nat) (args : Array Value) (ds gs : List (DataW H)) (before : List MemPlace),
   (∀ (j : Nat) t v, fn.params[j]? = some t → args[j]? = some v → Value.okWide C.prog W .any base t v) →
   DataW.Whole enc C.prog fn.params.toList s.vars apart W args.toList ds gs before →
   conds.all (PathCond.test C.prog ⟨fn.params.toList, ds, s.plain.varTypes C.prog, gs⟩) = true →
   (DataW.weightsEach C.prog (fn.params.toList ++ s.plain.varTypes C.prog) (ds ++ gs)).all (· ≤ reachBytes) = true → X W args → W.ShapedOpen C.prog →
   a.holds C.prog (lone (Frame.enter C.prog f args .normal) [] W) →
   Calls C.prog f args W fun e W' => ∃ v, e = .returned v ∧ s.post enc C.prog fn apart fresh handsOn again W args v W') :
  ReturnsInHanded a C os f .any (fun w args => (s.pre enc C.prog fn conds apart w args ∧ X w args) ∧ sizedMet enc C.prog fn (OpenSpec.ofChange s) apart w args) (s.post enc C.prog fn apart fresh handsOn again) := by
 refine returnsInHanded_of_calls own started noInit witness ?_;intro w tape i _ hsh _ hok hpre hholds;obtain ⟨_, _, _, fn', hfn', _, _, _, _, hval⟩ := hok;have e : fn' = fn := Option.some.inj (hfn'.symm.trans hfn);subst e;obtain ⟨⟨⟨ds, gs, before, hw, hc⟩, hx⟩, hz⟩ := hpre;have hw' := DataW.Whole.of_heap (w' := w.forCall tape i) (by rfl) hw;refine (contract (w.forCall tape i) w.heap.size i.args ds gs before hval hw' hc (hz.weights hw) (hX _ _ _ (by rfl) hx) hsh hholds).mono fun e W' ⟨v, he, hp⟩ => ?_
 subst he;exact ChangeSpec.post_blind hp
end Go
namespace Go.Proofs
open Go Go.SL Go.Mach Go.ChangeShapes Go.WideShapes Go.RowKit
open YthopmddkpdehiaaGreatDoor (Rows.laid_math_bits_deBruijn32tab Rows.laid_math_bits_deBruijn64tab Rows.laid_internal_strconv_uint64pow10 Rows.laid_errors_errorType)
namespace TzRow
theorem own : ownKnob Tryz.prog.godebug = none := by kernel_rfl
theorem laidOut : laidOutB Tryz.prog = true := by kernel_rfl
abbrev laid4 : List (String × DataW Unit) := [("math/bits.deBruijn32tab", YthopmddkpdehiaaGreatDoor.Rows.laid_math_bits_deBruijn32tab), ("math/bits.deBruijn64tab", YthopmddkpdehiaaGreatDoor.Rows.laid_math_bits_deBruijn64tab), ("internal/strconv.uint64pow10", YthopmddkpdehiaaGreatDoor.Rows.laid_internal_strconv_uint64pow10), ("errors.errorType", YthopmddkpdehiaaGreatDoor.Rows.laid_errors_errorType)]
theorem gPow : Tryz.prog.globalNamed "internal/strconv.uint64pow10" = some 2 := by kernel_rfl
theorem aQJ : (Tryz.prog.globals[2]?).map (·.type) = some 475 := by kernel_rfl
theorem rt : (Tryz.prog.cutTypes.find? (·.1 == "internal/reflectlite.rtype")).map (·.2) = some 265 := by kernel_rfl
theorem et : Tryz.prog.globalNamed "errors.errorType" = some 0 := by kernel_rfl
theorem aPP : ((List.range Tryz.prog.types.size).filter fun t => Tryz.prog.rowNamed t [101, 114, 114, 111, 114]) = [79] := by kernel_rfl
theorem aHG {W : World} {l : List (String × DataW Unit)} (hl : handlesMet Tryz.prog [("errors.errorType", YthopmddkpdehiaaGreatDoor.Rows.laid_errors_errorType)] W) : ErrT (hp W) := by
 obtain ⟨name, u, ty, e1, e2, e3, e4, e5⟩ := hl _ (List.mem_singleton.2 rfl);have en : name = [101, 114, 114, 111, 114] := (Option.some.inj e1).symm;subst en;obtain rfl := Option.some.inj (rt.symm.trans e2);have hm : ty ∈ (List.range Tryz.prog.types.size).filter fun t => Tryz.prog.rowNamed t [101, 114, 114, 111, 114] := List.mem_filter.2 ⟨List.mem_range.2 e3, e4⟩
 rw [aPP] at hm;obtain rfl := List.mem_singleton.1 hm;have hh : typeHandle Tryz.prog 79 = hd 79 := by kernel_rfl
 rw [hh] at e5;unfold World.var? at e5;rw [et] at e5;simp only [Option.bind_some] at e5;split at e5
 ·rename_i cs T fz hw;have := Option.some.inj e5;subst this;exact ⟨T, fz, hw⟩
 ·cases e5
theorem aPY {w w' : World} {nm : String} {k : IntKind} {zs : List Int} (h : Lib.TabIs Tryz.prog w nm k zs) (le : (hp w).le (hp w')) : Lib.TabIs Tryz.prog w' nm k zs := by
 unfold Lib.TabIs World.var? at *;cases hg : Tryz.prog.globalNamed nm with
 | none => rw [hg] at h; simp at h
 | some g =>
  rw [hg] at h;simp only [Option.bind_some] at h ⊢;split at h
  ·rename_i cs T fz hw;have := le g _ hw;simp only [hp] at this;rw [this]; exact h
  ·cases h
theorem aKK {W : World} (h : W.ShapedOpen Tryz.prog) : ∃ m T fz, hp W 1 = some (aU [i64 m] T fz) := by
 obtain ⟨m, hm⟩ := cell_of_shapedOpen_int (P := Tryz.prog) (g := 1) (t := 3) (zero := #[.int .i64 0]) (k := .i64) h (of_decide_eq_true cJ) cJ rfl cJ cJ cJ;obtain ⟨cs, hh, hs, _⟩ := h.1 1 #[.int .i64 0] 3 (of_decide_eq_true cJ) cJ;have h1 : cs.size = 1 := hs;refine ⟨m, 3, (0, 0), ?_⟩
 show W.heap[1]? = _
 rw [hh];have hc : cs = #[i64 m] := by
  have : cs[0]? = some (i64 m) := by simpa [World.cell?, hh] using hm
  obtain ⟨l⟩ := cs
  match l, h1, this with
  | [c], _, this => simp at this; rw [this]
 rw [hc]
theorem of_laid {W : World} (hL : laidMetH Tryz.prog laid4 W) (hS : W.ShapedOpen Tryz.prog) : Glob (hp W) ∧ ErrT (hp W) := by
 have h' : laidMet Tryz.prog [("math/bits.deBruijn32tab", YthopmddkpdehiaaGreatDoor.Rows.laid_math_bits_deBruijn32tab), ("math/bits.deBruijn64tab", YthopmddkpdehiaaGreatDoor.Rows.laid_math_bits_deBruijn64tab), ("internal/strconv.uint64pow10", YthopmddkpdehiaaGreatDoor.Rows.laid_internal_strconv_uint64pow10)] W ∧ handlesMet Tryz.prog [("errors.errorType", YthopmddkpdehiaaGreatDoor.Rows.laid_errors_errorType)] W := hL;refine ⟨⟨aKK hS, fun w le => ?_⟩, aHG (l := []) h'.2⟩
 exact aPY (Lib.tabIs_of_head (rest := []) gPow aQJ Tryz.underlying475 Tryz.underlying345 cJ cJ (h'.1.tail.tail)) le
theorem door_met (os : Os) (args : Array Value) : laidMetH Tryz.prog laid4 ((World.doorLaid Tryz.prog 100 os).forCall (fun _ _ => 0) ⟨#[], args, []⟩).memory :=
 laidMetH_of_parts3 (fuel := 8) (laidMet_of_run' 8 cJ cJ) cJ cJ
theorem door_shaped (os : Os) (args : Array Value) : ((World.doorLaid Tryz.prog 100 os).forCall (fun _ _ => 0) ⟨#[], args, []⟩).Shaped Tryz.prog :=
 World.shaped_of_RefB cJ cJ
end TzRow
end Go.Proofs
end

/-
  What the proof stands on, part 4: the logic of walks, the walks through the functions, the plain laws. Conditions: as each theorem says. (Merged and shortened by a program.)
-/
import Derived.Laws.StructEq
import Derived.RangeFuncRecord
import Derived.OrdersIn
import Derived.TacticsIn
import Derived.Scope
import Derived.ChangeKeysEq
import Derived.Test.YthopmddkpdehiaaGreatDoorK1
import Derived.Test.YthopmddkpdehiaaGreatDoorK2
import Derived.Test.YthopmddkpdehiaaGreatDoorK3
set_option linter.unusedVariables false
set_option linter.unusedSimpArgs false
section
namespace Go.Proofs
open Go Go.SL Go.Syn Go.Mach
theorem aEH {P : Program} {g : FuncId} {args : List Value} {K : Hl} {L : List Asn} {R : Ending → Hl → List Asn → Prop} {b mb : Nat} {m : Msg} {hv pv : Value} {nm : Bool} {s : MS} (hb : ∃ fn, P.funcs[g]? = some fn ∧ (fn.name == "runtime.NumGoroutine") = false ∧ fn.body.isSome = true)
  (h : ∀ av sv f c, Sp P g args K ([mblk b (str m.from_) (str m.to_) (i64 m.size) hv av (.bool s.keep) (.bool nm) (.map (some mb)) pv sv s.pc, sl true dG av s.acts, sl false fM sv s.stack, pt mb (mapO (gM s.vars f) c)] ++ L) R) : Sp P g args K (mch b mb m hv pv nm s :: L) R :=
 ⟨hb, fun F w j => by
  obtain ⟨x, hs, r⟩ := j.rep;obtain ⟨av, sv, f, c, hs⟩ := aAH.1 hs;exact (h av sv f c).2 F w ⟨j.os, j.tape, j.output, j.size, x, hs, r⟩⟩
theorem aAL {P : Program} {f : FuncId} {args : List Value} {K : Hl} {L : List Asn} {R R' : Ending → Hl → List Asn → Prop} (h : Sp P f args K L R) (k : ∀ e K' L', R e K' L' → ∃ S M, (∀ h, Sat L' h → Sat (S ++ M) h) ∧ R' e K' S) : Sp P f args K L R' :=
 ⟨h.1, fun F w i => (h.2 F w i).mono fun e w' ⟨K', L', r, le, j⟩ => let ⟨S, M, e1, r'⟩ := k _ _ _ r; ⟨K', S, r', le, (j.imp e1).left⟩⟩
theorem jP (b mb : Nat) (m : Msg) (hv pv : Value) (nm : Bool) (s : MS) (v : Bool) (K : Hl) : Sp Tryz.prog 142 [ptr b, .bool v] K [mch b mb m hv pv nm s] (fE (push s v) fun s' r K' L' => r = .tuple #[] ∧ K' = K ∧ L' = [mch b mb m hv pv nm s']) := by
 refine aEH ⟨_, Tryz.func142, rfl, rfl⟩ fun av sv f c => ?_
 refine tD (show Tks [_, _] _ _ from .cons .here (.cons (.there .here) .nil)).sat (aAL (sK _ (aHK b _ _ _ _ _ _ _ _ _ sv s.pc s.stack v K)) ?_)
 rintro e K' L' ⟨N, h, rfl⟩;unfold push;rcases h with ⟨hp, r, rfl, rfl, rfl, sv', rfl⟩ | ⟨hp, fb, rfl, rfl, rfl⟩
 ·rw [if_pos aH];refine ⟨[mch b mb m hv pv nm { s with stack := s.stack ++ [v] }], [], fun h hh => ?_, _, rfl, rfl, rfl, rfl⟩
  refine dK (s := { s with stack := s.stack ++ [v] }) h ((show Tks [_, _, _, _] _ [] from .cons .here (.cons (.there .here) (.cons .here (.cons .here .nil)))).sat h hh)
 ·rw [if_neg aH];exact ⟨[_], _, fun h hh => hh, fb, rfl, rfl⟩
theorem rD (b mb : Nat) (m : Msg) (hv pv : Value) (nm : Bool) (s : MS) (by_ : Int) (n : Nat) (yes : Bool) (K : Hl) (hp : s.pc < 1000) (hn : n < 1000) : Sp Tryz.prog 146 [ptr b, i64 by_, i64 n, .bool yes] K [mch b mb m hv pv nm s] (fE (jump s by_ n yes) fun s' r K' L' => r = .tuple #[] ∧ K' = K ∧ L' = [mch b mb m hv pv nm s']) := by
 refine aEH ⟨_, Tryz.func146, rfl, rfl⟩ fun av sv f c => ?_
 refine tD (show Tks [_] _ _ from .cons .here .nil).sat (aAL (sK _ (aG1 b _ _ _ _ _ _ _ _ _ _ s.pc by_ n yes K ⟨by omega, by omega⟩ ⟨by omega, by omega⟩)) ?_)
 rintro e K' L' ⟨N, h, rfl⟩;unfold jump;rcases h with ⟨hq, r, rfl, rfl, rfl, rfl⟩ | ⟨hq, fb, rfl, rfl, rfl⟩
 ·rw [if_pos hq];refine ⟨[mch b mb m hv pv nm (if yes = true then { s with pc := s.pc + by_.toNat } else s)], [], fun h hh => ?_, _, rfl, rfl, rfl, rfl⟩
  cases yes
  ·exact dK h hh
  ·refine dK (av := av) (sv := sv) (f := f) (c := c) (s := { s with pc := s.pc + by_.toNat }) h ?_;have e : ((s.pc + by_.toNat : Nat) : Int) = (s.pc : Int) + by_ := by omega
   show Sat (mblk b _ _ _ _ _ _ _ _ _ _ ((s.pc + by_.toNat : Nat) : Int) :: _) h
   rw [e]; exact hh
 ·rw [if_neg hq];exact ⟨[_], _, fun h hh => hh, fb, rfl, rfl⟩
theorem aCM {α : Type} {z : Bool} {k : El α} {v : Value} {xs : List α} : ∀ h, sl z k v xs h → ∃ a n c, v = .slice a n c := by
 rintro h (⟨rfl, _⟩ | ⟨b, cap, junk, fz, rfl, _⟩) <;> exact ⟨_, _, _, rfl⟩
theorem s9 (b mb : Nat) (m : Msg) (hv pv : Value) (nm : Bool) (s : MS) (K : Hl) (hl : s.stack.length ≤ 100) : Sp Tryz.prog 144 [ptr b] K [mch b mb m hv pv nm s] (fE (pop s) fun r v K' L' => v = .bool r.1 ∧ K' = K ∧ L' = [mch b mb m hv pv nm r.2]) := by
 refine bB Tryz.func144 rfl Tryz.ntmps144 rfl rfl fun F w => ?_
 refine oP fun av sv f c => ?_
 refine wO (p := ∃ a n c, sv = .slice a n c) (fun h hs => ?_) ?_
 ·obtain ⟨_, l, _, hl, _, _⟩ := hs;obtain ⟨_, l2, _, hl2, _, _⟩ := hl;obtain ⟨x, _, hx, _, _, _⟩ := hl2;exact aCM x hx
 rintro ⟨sa, sn, sc, rfl⟩;refine aI (aB ?_);refine aA (aF rfl) rfl ?_;refine aG (aE ?_);refine aI (aB ?_);refine aA (aC rfl) rfl ?_;refine aA (aC rfl) rfl ?_;refine aA bS rfl ?_;refine aA (aD (o' := 9) iE rfl rfl) rfl ?_;refine aA (aK qV rfl aM rfl) rfl ?_;refine aA (cE (k := fM) rfl Tryz.underlying176 rfl aM) rfl ?_;refine aA (jG rfl rfl) rfl ?_;refine aW rfl rfl (mN (0 < (s.stack.length : Int)) _ _ _ _ _ _ _ _ _ _ _ _ _) (.cons .here .nil) rfl (fun _ _ => aX _ _) ?_ ?_
 ·
  rintro _ _ _ hTr le1;obtain ⟨e, p, hu, fb, h, rfl⟩ := aY hTr;cases h
  refine aO (.cons .here .nil) ?_;refine aJ ?_;refine bA bP ?_;have hbl : ¬ (0 < (s.stack.length : Int)) := (by intro h; rw [if_pos h] at hu; cases hu);rw [if_neg hbl] at hu;cases hu
  have hg : s.stack.getLast? = none := (by rw [List.getLast?_eq_none_iff]; exact List.eq_nil_of_length_eq_zero aH);unfold pop;rw [hg];exact ⟨fb, rfl, rfl⟩
 rintro _ K _ hTr -;obtain ⟨u0, hu, rfl, rfl, rfl⟩ := aZ hTr;clear hTr;have hbl : 0 < (s.stack.length : Int) := Classical.byContradiction (fun h => by rw [if_neg h] at hu; cases hu);obtain ⟨x, hx⟩ : ∃ x, s.stack[s.stack.length - 1]? = some x := ⟨s.stack[s.stack.length - 1]'(by omega), List.getElem?_eq_getElem aH⟩;have hg : s.stack.getLast? = some x := (by rw [List.getLast?_eq_getElem?]; exact hx);refine aG (aE ?_);refine aI ?_;refine t_draw (anc := [0, 1, 3, 7, 0, 16, 48, 112, 240, 496, 1023, 2047, 4095]) (ord := [0, 1, 2, 3, 4, 5, 6, 7, 8, 9, 10, 11, 12]) [] [] mixed (by decide +kernel) (cS _) ?_;refine dl_ev rfl rfl (.none rfl) rfl rfl (aC rfl) rfl ?_;refine dl_ev rfl rfl (.none rfl) rfl rfl bS rfl ?_;refine dl_ev rfl rfl (.none rfl) rfl rfl (aD (o' := 9) iE rfl rfl) rfl ?_;refine dl_ev rfl rfl (.none rfl) rfl rfl (aK qV rfl aM rfl) rfl ?_;refine dl_ev rfl rfl (.none rfl) rfl rfl (aC rfl) rfl ?_;refine dl_ev rfl rfl (.none rfl) rfl rfl bS rfl ?_;refine dl_ev rfl rfl (.none rfl) rfl rfl (aD (o' := 9) iE rfl rfl) rfl ?_;refine dl_ev rfl rfl (.none rfl) rfl rfl (aK qV rfl aM rfl) rfl ?_;refine dl_ev rfl rfl (.none rfl) rfl rfl (cE (k := fM) rfl Tryz.underlying176 rfl aM) rfl ?_;refine dl_ev rfl rfl (.none rfl) rfl rfl (nH rfl rfl aH aH) rfl ?_;refine dl_ev rfl rfl (.none rfl) rfl rfl (b0 (k := fM) (j := s.stack.length - 1) tK rfl (.own (.there (.there .here))) rfl aH aH) rfl ?_;refine dl_ev rfl rfl (.none rfl) rfl rfl (dO (o := 0) (k := fM) ts4 rfl aM bP rfl) rfl ?_;refine dl_ev rfl rfl (.none rfl) rfl rfl (aF rfl) rfl ?_;refine dl_nil ?_;refine aE (aI ?_);refine t_draw (anc := [0, 0, 2, 6, 14, 0, 32, 96, 224, 480, 992, 2046, 4095, 8191, 16383]) (ord := [0, 1, 2, 3, 4, 5, 6, 7, 8, 9, 10, 11, 12, 13, 14]) [14] [14] mixed (by decide +kernel) (cS _) ?_;refine dl_ev rfl rfl (.none rfl) rfl rfl (aC rfl) rfl ?_;refine dl_ev rfl rfl (.none rfl) rfl rfl (aC rfl) rfl ?_;refine dl_ev rfl rfl (.none rfl) rfl rfl bS rfl ?_;refine dl_ev rfl rfl (.none rfl) rfl rfl (aD (o' := 9) iE rfl rfl) rfl ?_;refine dl_ev rfl rfl (.none rfl) rfl rfl (aK qV rfl aM rfl) rfl ?_;refine dl_ev rfl rfl (.none rfl) rfl rfl (aC rfl) rfl ?_;refine dl_ev rfl rfl (.none rfl) rfl rfl bS rfl ?_;refine dl_ev rfl rfl (.none rfl) rfl rfl (aD (o' := 9) iE rfl rfl) rfl ?_;refine dl_ev rfl rfl (.none rfl) rfl rfl (aK qV rfl aM rfl) rfl ?_;refine dl_ev rfl rfl (.none rfl) rfl rfl (cE (k := fM) rfl Tryz.underlying176 rfl aM) rfl ?_;refine dl_ev rfl rfl (.none rfl) rfl rfl (nH rfl rfl aH aH) rfl ?_;refine dl_ev rfl rfl (.none rfl) rfl rfl (q9 (k := fM) (m := s.stack.length - 1) tK rfl (.there (.there .here)) (.there (.there .here)) rfl aH aH) rfl ?_;refine dl_ev rfl rfl (.none rfl) rfl rfl bS rfl ?_;refine dl_ev rfl rfl (.none rfl) rfl rfl (aD (o' := 9) iE rfl rfl) rfl ?_;refine r6 rfl rfl (.none rfl) rfl (bI qV rfl rfl cG a7 (.succ (.succ (.succ (.succ (.succ (.succ (.succ (.succ (.succ .zero))))))))) rfl) ?_;rintro _ K _ ⟨rfl, rfl⟩ -;refine dl_nil ?_;refine aE (aI ?_);refine aB ?_;refine aA (aC rfl) rfl ?_;refine aA (aF rfl) rfl ?_;refine aG (aE ?_);refine bM ?_;refine aO (.cons (.there (.there .here)) (.cons .here (.cons .here (.cons .here .nil)))) ?_;refine dV (gX (uL (m := s.stack.length - 1) aH)) ?_;refine aO (.cons (.there .here) (.cons (.there .here) (.cons .here (.cons .here .nil)))) ?_;rw [← List.dropLast_eq_take];refine dV (dK (m := m) (hv := hv) (pv := pv) (nm := nm) (s := { s with stack := s.stack.dropLast })) ?_;refine bJ rfl rfl (Hl.le_refl _) ?_;unfold pop;rw [hg];exact ⟨_, rfl, rfl, rfl, rfl⟩
theorem d8 {s t : MS} {v : Bool} (h : push s v = .ok t) : t.parts = s.parts := by unfold push at h; split at h <;> cases h; rfl
theorem tA {s : MS} {r : Bool × MS} (h : pop s = .ok r) : r.2.parts = s.parts := by unfold pop at h; split at h <;> cases h; rfl
theorem rE {s t : MS} {by_ : Int} {n : Nat} {yes : Bool} (h : jump s by_ n yes = .ok t) : t.parts = s.parts := by
 unfold jump at h;split at h
 ·cases h; split <;> rfl
 ·cases h
theorem aJL (b mb : Nat) (m : Msg) (hv pv : Value) (nm : Bool) (s : MS) (o : Ins) (av bv : Value) (n : Nat) (K : Hl) (hpv : Ksl (bK 9) K pv s.parts) (ha : Ksl (bK 9) K av o.a) (hb : Ksl (bK 9) K bv o.b) (hp : s.pc < 1000) (hn : n < 1000) (hst : s.stack.length ≤ 100) :
  Sp Tryz.prog 143 [ptr b, kO o av bv, i64 n] K [mch b mb m hv pv nm s] (MI b mb m hv nm (match pop s with | .error e => .error e | .ok r => push r.2 (!r.1))) := by
 obtain ⟨sa, sn, sc, rfl⟩ := ha.isSlice;obtain ⟨ta, tn, tc, rfl⟩ := hb.isSlice;refine bB Tryz.func143 rfl Tryz.ntmps143 rfl rfl fun F w => ?_
 refine aI (aB ?_);refine ol_s (eM rfl rfl) rfl ?_;rintro _ K _ ⟨b4, rfl, rfl, rfl⟩ -;refine aG (aE ?_);refine aB ?_;refine aA (aC rfl) rfl ?_;refine aA (aC rfl) rfl ?_;refine aW rfl rfl (s9 b mb m hv pv nm s _ hst) (.cons (.there .here) .nil) rfl (fun _ _ => aX _ _) ?_ ?_
 ·
  rintro _ _ _ hTr le1;obtain ⟨e, p, hr, fb, h, rfl⟩ := aY hTr;cases h
  refine aO (.cons .here .nil) ?_;refine bA bP ?_;simp only [MI, hr, if_true, if_false, ↓reduceIte];exact ⟨fb, rfl, rfl⟩
 rintro _ K _ hTr -;obtain ⟨r, hr, rfl, rfl, rfl⟩ := aZ hTr;clear hTr;have hpp := tA hr;refine aA (by first | exact dM rfl | exact dU rfl) rfl ?_;refine aW rfl rfl (jP b mb m hv pv nm r.2 (!r.1) _) (.cons .here .nil) rfl (fun _ _ => aX _ _) ?_ ?_
 ·
  rintro _ _ _ hTr le1;obtain ⟨e, p, hq, fb, h, rfl⟩ := aY hTr;cases h
  refine aO (.cons .here .nil) ?_;refine bA bP ?_;simp only [MI, hr, hq, if_true, if_false, ↓reduceIte];exact ⟨fb, rfl, rfl⟩
 rintro _ K _ hTr -;obtain ⟨q, hq, rfl, rfl, rfl⟩ := aZ hTr;clear hTr;have hqp := d8 hq;refine aG ?_;refine aO (.cons .here .nil) ?_;refine dE rfl (Hl.le_refl _) ?_;simp only [MI, hr, hq, if_true, if_false, ↓reduceIte];exact ⟨_, rfl, rfl, pv, by rw [hqp, hpp]; exact hpv, rfl⟩
theorem aJM (b mb : Nat) (m : Msg) (hv pv : Value) (nm : Bool) (s : MS) (o : Ins) (av bv : Value) (n : Nat) (K : Hl) (hpv : Ksl (bK 9) K pv s.parts) (ha : Ksl (bK 9) K av o.a) (hb : Ksl (bK 9) K bv o.b) (hp : s.pc < 1000) (hn : n < 1000) (hst : s.stack.length ≤ 100) :
  Sp Tryz.prog 145 [ptr b, kO o av bv, i64 n] K [mch b mb m hv pv nm s] (MI b mb m hv nm (jump s o.n n true)) := by
 obtain ⟨sa, sn, sc, rfl⟩ := ha.isSlice;obtain ⟨ta, tn, tc, rfl⟩ := hb.isSlice;refine bB Tryz.func145 rfl Tryz.ntmps145 rfl rfl fun F w => ?_
 refine aI (aB ?_);refine ol_s (eM rfl rfl) rfl ?_;rintro _ K _ ⟨b4, rfl, rfl, rfl⟩ -;refine aG (aE ?_);refine aB ?_;refine aA (aC rfl) rfl ?_;refine aA (aD (o' := 1) gL rfl rfl) rfl ?_;refine aA (aK ts3 rfl aM rfl) rfl ?_;refine aA (aC rfl) rfl ?_;refine aW rfl rfl (rD b mb m hv pv nm s o.n n true _ hp hn) (.cons (.there .here) .nil) rfl (fun _ _ => aX _ _) ?_ ?_
 ·
  rintro _ _ _ hTr le1;obtain ⟨e, p, hq, fb, h, rfl⟩ := aY hTr;cases h
  refine aO (.cons .here .nil) ?_;refine bA bP ?_;simp only [MI, hq, if_true, if_false, ↓reduceIte];exact ⟨fb, rfl, rfl⟩
 rintro _ K _ hTr -;obtain ⟨q, hq, rfl, rfl, rfl⟩ := aZ hTr;clear hTr;have hqp := rE hq;refine aG ?_;refine aO (.cons .here .nil) ?_;refine dE rfl (Hl.le_refl _) ?_;simp only [MI, hq, if_true, if_false, ↓reduceIte];exact ⟨_, rfl, rfl, pv, by rw [hqp]; exact hpv, rfl⟩
theorem aJN (b mb : Nat) (m : Msg) (hv pv : Value) (nm : Bool) (s : MS) (o : Ins) (av bv : Value) (n : Nat) (K : Hl) (hpv : Ksl (bK 9) K pv s.parts) (ha : Ksl (bK 9) K av o.a) (hb : Ksl (bK 9) K bv o.b) (hp : s.pc < 1000) (hn : n < 1000) (hst : s.stack.length ≤ 100) :
  Sp Tryz.prog 147 [ptr b, kO o av bv, i64 n] K [mch b mb m hv pv nm s] (MI b mb m hv nm (match pop s with | .error e => .error e | .ok r => jump r.2 o.n n (r.1))) := by
 obtain ⟨sa, sn, sc, rfl⟩ := ha.isSlice;obtain ⟨ta, tn, tc, rfl⟩ := hb.isSlice;refine bB Tryz.func147 rfl Tryz.ntmps147 rfl rfl fun F w => ?_
 refine aI (aB ?_);refine ol_s (eM rfl rfl) rfl ?_;rintro _ K _ ⟨b4, rfl, rfl, rfl⟩ -;refine aG (aE ?_);refine t_draw (anc := [0, 0, 2, 0, 0, 16, 63]) (ord := [0, 1, 2, 3, 4, 5, 6]) [5, 6] [6] mixed (by decide +kernel) (.cons .here .nil) ?_;refine dl_ev rfl rfl (.none rfl) rfl rfl (aC rfl) rfl ?_;refine dl_ev rfl rfl (.none rfl) rfl rfl (aD (o' := 1) gL rfl rfl) rfl ?_;refine dl_ev rfl rfl (.none rfl) rfl rfl (aK ts3 rfl aM rfl) rfl ?_;refine dl_ev rfl rfl (.none rfl) rfl rfl (aC rfl) rfl ?_;refine dl_ev rfl rfl (.none rfl) rfl rfl (aC rfl) rfl ?_;refine rZ rfl (.none rfl) rfl rfl rfl rfl (s9 b mb m hv pv nm s _ hst) (.cons (.there .here) .nil) rfl (fun _ _ => aX _ _) ?_ ?_
 ·
  rintro _ _ _ hTr le1;obtain ⟨e, p, hr, fb, h, rfl⟩ := aY hTr;cases h
  intro a0 w0 hd0 hi0;refine ⟨hd0, _, _, ?_, bP, hi0.left⟩
  simp only [MI, hr, if_true, if_false, ↓reduceIte];exact ⟨fb, rfl, rfl⟩
 rintro _ K _ hTr -;obtain ⟨r, hr, rfl, rfl, rfl⟩ := aZ hTr;clear hTr;have hpp := tA hr;have hpc := wD hr;refine ⟨_, (show Tks _ _ _ from (.cons (.there .here) .nil)).sat, ?_⟩
 refine e6 rfl (.none rfl) rfl rfl rfl (rD b mb m hv pv nm r.2 o.n n (r.1) _ aH hn) (.cons (.there .here) .nil) rfl (fun _ _ => aX _ _) ?_ ?_
 ·
  rintro _ _ _ hTr le1;obtain ⟨e, p, hq, fb, h, rfl⟩ := aY hTr;cases h
  intro a0 w0 hd0 hi0;refine ⟨hd0, _, _, ?_, bP, hi0.left⟩
  simp only [MI, hr, hq, if_true, if_false, ↓reduceIte];exact ⟨fb, rfl, rfl⟩
 rintro _ K _ hTr -;obtain ⟨q, hq, rfl, rfl, rfl⟩ := aZ hTr;clear hTr;have hqp := rE hq;refine dl_nil ?_;refine aO (.cons .here .nil) ?_;refine dE rfl (Hl.le_refl _) ?_;simp only [MI, hr, hq, if_true, if_false, ↓reduceIte];exact ⟨_, rfl, rfl, pv, by rw [hqp, hpp]; exact hpv, rfl⟩
theorem aJO (b mb : Nat) (m : Msg) (hv pv : Value) (nm : Bool) (s : MS) (o : Ins) (av bv : Value) (n : Nat) (K : Hl) (hpv : Ksl (bK 9) K pv s.parts) (ha : Ksl (bK 9) K av o.a) (hb : Ksl (bK 9) K bv o.b) (hp : s.pc < 1000) (hn : n < 1000) (hst : s.stack.length ≤ 100) :
  Sp Tryz.prog 148 [ptr b, kO o av bv, i64 n] K [mch b mb m hv pv nm s] (MI b mb m hv nm (match pop s with | .error e => .error e | .ok r => jump r.2 o.n n (!r.1))) := by
 obtain ⟨sa, sn, sc, rfl⟩ := ha.isSlice;obtain ⟨ta, tn, tc, rfl⟩ := hb.isSlice;refine bB Tryz.func148 rfl Tryz.ntmps148 rfl rfl fun F w => ?_
 refine aI (aB ?_);refine ol_s (eM rfl rfl) rfl ?_;rintro _ K _ ⟨b4, rfl, rfl, rfl⟩ -;refine aG (aE ?_);refine t_draw (anc := [0, 0, 2, 0, 0, 16, 48, 127]) (ord := [0, 1, 2, 3, 4, 5, 6, 7]) [5, 7] [7] mixed (by decide +kernel) (.cons .here .nil) ?_;refine dl_ev rfl rfl (.none rfl) rfl rfl (aC rfl) rfl ?_;refine dl_ev rfl rfl (.none rfl) rfl rfl (aD (o' := 1) gL rfl rfl) rfl ?_;refine dl_ev rfl rfl (.none rfl) rfl rfl (aK ts3 rfl aM rfl) rfl ?_;refine dl_ev rfl rfl (.none rfl) rfl rfl (aC rfl) rfl ?_;refine dl_ev rfl rfl (.none rfl) rfl rfl (aC rfl) rfl ?_;refine rZ rfl (.none rfl) rfl rfl rfl rfl (s9 b mb m hv pv nm s _ hst) (.cons (.there .here) .nil) rfl (fun _ _ => aX _ _) ?_ ?_
 ·
  rintro _ _ _ hTr le1;obtain ⟨e, p, hr, fb, h, rfl⟩ := aY hTr;cases h
  intro a0 w0 hd0 hi0;refine ⟨hd0, _, _, ?_, bP, hi0.left⟩
  simp only [MI, hr, if_true, if_false, ↓reduceIte];exact ⟨fb, rfl, rfl⟩
 rintro _ K _ hTr -;obtain ⟨r, hr, rfl, rfl, rfl⟩ := aZ hTr;clear hTr;have hpp := tA hr;have hpc := wD hr;refine ⟨_, (show Tks _ _ _ from (.cons (.there .here) .nil)).sat, ?_⟩
 refine dl_ev rfl rfl (.none rfl) rfl rfl (by first | exact dM rfl | exact dU rfl) rfl ?_;refine e6 rfl (.none rfl) rfl rfl rfl (rD b mb m hv pv nm r.2 o.n n (!r.1) _ aH hn) (.cons (.there .here) .nil) rfl (fun _ _ => aX _ _) ?_ ?_
 ·
  rintro _ _ _ hTr le1;obtain ⟨e, p, hq, fb, h, rfl⟩ := aY hTr;cases h
  intro a0 w0 hd0 hi0;refine ⟨hd0, _, _, ?_, bP, hi0.left⟩
  simp only [MI, hr, hq, if_true, if_false, ↓reduceIte];exact ⟨fb, rfl, rfl⟩
 rintro _ K _ hTr -;obtain ⟨q, hq, rfl, rfl, rfl⟩ := aZ hTr;clear hTr;have hqp := rE hq;refine dl_nil ?_;refine aO (.cons .here .nil) ?_;refine dE rfl (Hl.le_refl _) ?_;simp only [MI, hr, hq, if_true, if_false, ↓reduceIte];exact ⟨_, rfl, rfl, pv, by rw [hqp, hpp]; exact hpv, rfl⟩
theorem aJR (b mb : Nat) (m : Msg) (hv pv : Value) (nm : Bool) (s : MS) (o : Ins) (av bv : Value) (n : Nat) (K : Hl) (hpv : Ksl (bK 9) K pv s.parts) (ha : Ksl (bK 9) K av o.a) (hb : Ksl (bK 9) K bv o.b) :
  Sp Tryz.prog 155 [ptr b, kO o av bv, i64 n] K [mch b mb m hv pv nm s] (MI b mb m hv nm (.ok { s with keep := false })) := by
 obtain ⟨sa, sn, sc, rfl⟩ := ha.isSlice;obtain ⟨ta, tn, tc, rfl⟩ := hb.isSlice;refine bB Tryz.func155 rfl Tryz.ntmps155 rfl rfl fun F w => ?_
 refine aI (aB ?_);refine ol_s (eM rfl rfl) rfl ?_;rintro _ K _ ⟨b4, rfl, rfl, rfl⟩ -;refine aG (aE ?_);refine qT (.cons (.there .here) (.cons .here .nil)) ?_;refine oP fun av sv f c => ?_
 refine aB ?_;refine aA (aC rfl) rfl ?_;refine aA bS rfl ?_;refine aA (aD (o' := 0) cV rfl rfl) rfl ?_;refine aA (aD (o' := 5) nU rfl rfl) rfl ?_;refine bR (bI ts4 rfl rfl cG a7 (.succ (.succ (.succ (.succ (.succ .zero))))) rfl) ?_;rintro _ K _ ⟨rfl, rfl⟩ -;refine aG ?_;refine aO (.cons .here (.cons .here (.cons .here (.cons .here .nil)))) ?_;refine dV (dK (m := m) (hv := hv) (pv := pv) (nm := nm) (s := { s with keep := false })) ?_;refine dE rfl (Hl.le_refl _) ?_;exact ⟨_, rfl, rfl, pv, hpv, rfl⟩
theorem aJK (b mb : Nat) (m : Msg) (hv pv : Value) (nm : Bool) (s : MS) (o : Ins) (av bv : Value) (n : Nat) (K : Hl) (hpv : Ksl (bK 9) K pv s.parts) (ha : Ksl (bK 9) K av o.a) (hb : Ksl (bK 9) K bv o.b) :
  Sp Tryz.prog 141 [ptr b, kO o av bv, i64 n] K [mch b mb m hv pv nm s] (MI b mb m hv nm (if o.n = 0 ∨ o.n = 1 then push s (decide (o.n = 1)) else .error (lP s.pc))) := by
 obtain ⟨sa, sn, sc, rfl⟩ := ha.isSlice;obtain ⟨ta, tn, tc, rfl⟩ := hb.isSlice;refine bB Tryz.func141 rfl Tryz.ntmps141 rfl rfl fun F w => ?_
 refine aI (aB ?_);refine ol_s (eM rfl rfl) rfl ?_;rintro _ K _ ⟨b4, rfl, rfl, rfl⟩ -;refine aG (aE ?_);refine aI ?_;refine qT (.cons (.there .here) (.cons .here .nil)) ?_;refine oP fun av sv f c => ?_
 refine aB ?_;refine aA (aC rfl) rfl ?_;refine aA (aD (o' := 1) gL rfl rfl) rfl ?_;refine aA (aK ts3 rfl aM rfl) rfl ?_;refine aA (bT rfl rfl) rfl ?_;refine aA (aC rfl) rfl ?_;refine cA 10 rfl (fun g10 => ?_) (fun g10 => ?_)
 ·
  refine aQ rfl rfl rfl ?_;refine aQ rfl rfl rfl ?_;refine aQ rfl rfl rfl ?_;refine aA (bH rfl rfl) rfl ?_;refine cF rfl rfl (uF _ _) rfl ?_;have hcc : o.n = 0 ∨ o.n = 1 := .inl g10;refine kS dK ?_;refine aG (aE ?_);refine aB ?_;refine aA (aC rfl) rfl ?_;refine aA (aD (o' := 1) gL rfl rfl) rfl ?_;refine aA (aK ts3 rfl aM rfl) rfl ?_;refine aA (bT rfl rfl) rfl ?_;refine aW rfl rfl (jP b mb m hv pv nm s (decide (o.n = 1)) _) (.cons .here .nil) rfl (fun _ _ => aX _ _) ?_ ?_
  ·
   rintro _ _ _ hTr le1;obtain ⟨e, p, hq, fb, h, rfl⟩ := aY hTr;cases h
   refine aO (.cons .here .nil) ?_;refine bA bP ?_;unfold MI;rw [if_pos hcc, hq];exact ⟨fb, rfl, rfl⟩
  rintro _ K _ hTr -;obtain ⟨q, hq, rfl, rfl, rfl⟩ := aZ hTr;clear hTr;have hqp := d8 hq;refine aG ?_;refine aO (.cons .here .nil) ?_;refine dE rfl (Hl.le_refl _) ?_;unfold MI;rw [if_pos hcc, hq];exact ⟨_, rfl, rfl, pv, by rw [hqp]; exact hpv, rfl⟩
 ·
  refine aT rfl rfl ?_;refine aA (aD (o' := 1) gL rfl rfl) rfl ?_;refine aT rfl rfl ?_;refine aA (aK ts3 rfl aM rfl) rfl ?_;refine aT rfl rfl ?_;refine aA (bT rfl rfl) rfl ?_;refine aA (a8 rfl rfl) rfl ?_;refine aW rfl rfl (mN (o.n = 1) _ _ _ _ _ _ _ _ _ _ _ _ _) (.cons .here .nil) rfl (fun _ _ => aX _ _) ?_ ?_
  ·
   rintro _ _ _ hTr le1;obtain ⟨e, p, hu, fb, h, rfl⟩ := aY hTr;cases h
   refine aO (.cons .here .nil) ?_;refine aJ ?_;refine bA bP ?_;have hbl : ¬ (o.n = 1) := (by intro h; rw [if_pos h] at hu; cases hu);rw [if_neg hbl] at hu;cases hu
   unfold MI;rw [if_neg aH];exact ⟨fb, rfl, rfl⟩
  rintro _ K _ hTr -;obtain ⟨u0, hu, rfl, rfl, rfl⟩ := aZ hTr;clear hTr;have hbl : o.n = 1 := Classical.byContradiction (fun h => by rw [if_neg h] at hu; cases hu);have hcc : o.n = 0 ∨ o.n = 1 := .inr hbl;refine kS dK ?_;refine aG (aE ?_);refine aB ?_;refine aA (aC rfl) rfl ?_;refine aA (aD (o' := 1) gL rfl rfl) rfl ?_;refine aA (aK ts3 rfl aM rfl) rfl ?_;refine aA (bT rfl rfl) rfl ?_;refine aW rfl rfl (jP b mb m hv pv nm s (decide (o.n = 1)) _) (.cons .here .nil) rfl (fun _ _ => aX _ _) ?_ ?_
  ·
   rintro _ _ _ hTr le1;obtain ⟨e, p, hq, fb, h, rfl⟩ := aY hTr;cases h
   refine aO (.cons .here .nil) ?_;refine bA bP ?_;unfold MI;rw [if_pos hcc, hq];exact ⟨fb, rfl, rfl⟩
  rintro _ K _ hTr -;obtain ⟨q, hq, rfl, rfl, rfl⟩ := aZ hTr;clear hTr;have hqp := d8 hq;refine aG ?_;refine aO (.cons .here .nil) ?_;refine dE rfl (Hl.le_refl _) ?_;unfold MI;rw [if_pos hcc, hq];exact ⟨_, rfl, rfl, pv, by rw [hqp]; exact hpv, rfl⟩
end Go.Proofs
end
section
namespace Go.Proofs
open Go Go.SL Go.Syn Go.Mach
theorem aEA (b mb : Nat) (m : Msg) (hv pv : Value) (nm : Bool) (s : MS) (av sv : Value) (f : Nat → Nat) (c : Nat) (v : Bool) (K : Hl) : Sp Tryz.prog 142 [ptr b, .bool v] K [mblk b (str m.from_) (str m.to_) (i64 m.size) hv av (.bool s.keep) (.bool nm) (.map (some mb)) pv sv s.pc, sl true dG av s.acts, sl false fM sv s.stack, pt mb (mapO (gM s.vars f) c)] (fE (push s v) fun s' r K' L' => r = .tuple #[] ∧ K' = K ∧ L' = [mch b mb m hv pv nm s']) :=
 tD (fun h hh => dK h hh) (jP b mb m hv pv nm s v K)
abbrev aLB (o : Ins) (m : Msg) : Bool := decide (o.tag = 1 ∧ o.n < m.size ∨ o.tag = 2 ∧ m.size < o.n)
theorem gN (b mb : Nat) (m : Msg) (hv pv : Value) (nm : Bool) (s : MS) (av sv : Value) (f : Nat → Nat) (c : Nat) (q : Bool) (o : Ins) (K : Hl) (hq : q = aLB o m) : Sp Tryz.prog 142 [ptr b, .bool q] K [mblk b (str m.from_) (str m.to_) (i64 m.size) hv av (.bool s.keep) (.bool nm) (.map (some mb)) pv sv s.pc, sl true dG av s.acts, sl false fM sv s.stack, pt mb (mapO (gM s.vars f) c)] (fE (push s (aLB o m)) fun s' r K' L' => r = .tuple #[] ∧ K' = K ∧ L' = [mch b mb m hv pv nm s']) := by
 subst hq; exact aEA b mb m hv pv nm s av sv f c _ K
theorem aJQ (b mb : Nat) (m : Msg) (hv pv : Value) (nm : Bool) (s : MS) (o : Ins) (av bv : Value) (n : Nat) (K : Hl) (hpv : Ksl (bK 9) K pv s.parts) (ha : Ksl (bK 9) K av o.a) (hb : Ksl (bK 9) K bv o.b) :
  Sp Tryz.prog 152 [ptr b, kO o av bv, i64 n] K [mch b mb m hv pv nm s] (MI b mb m hv nm (if o.tag = 1 ∨ o.tag = 2 then push s (aLB o m) else .error (lP s.pc))) := by
 obtain ⟨sa, sn, sc, rfl⟩ := ha.isSlice;obtain ⟨ta, tn, tc, rfl⟩ := hb.isSlice;refine bB Tryz.func152 rfl Tryz.ntmps152 rfl rfl fun F w => ?_
 refine aI (aB ?_);refine ol_s (eM rfl rfl) rfl ?_;rintro _ K _ ⟨b4, rfl, rfl, rfl⟩ -;refine aG (aE ?_);refine aI ?_;refine qT (.cons (.there .here) (.cons .here .nil)) ?_;refine oP fun av sv f c => ?_
 refine aB ?_;refine aA (aC rfl) rfl ?_;refine aA (aD (o' := 2) eF rfl rfl) rfl ?_;refine aA (aK ts3 rfl aM rfl) rfl ?_;refine aA (bT rfl rfl) rfl ?_;refine aA (aC rfl) rfl ?_;refine cA 10 rfl (fun g10 => ?_) (fun g10 => ?_)
 ·
  refine aQ rfl rfl rfl ?_;refine aQ rfl rfl rfl ?_;refine aQ rfl rfl rfl ?_;refine aA (bH rfl rfl) rfl ?_;refine cF rfl rfl (uF _ _) rfl ?_;have hcc : o.tag = 1 ∨ o.tag = 2 := .inl g10;refine aG (aE ?_);refine t_draw (anc := [0, 0, 2, 6, 14, 30, 62, 126, 254, 510, 1022, 30, 2078, 8190, 16382, 32766, 65534, 131070, 262142, 524286, 1048574, 2097150, 4194302, 8388606, 16777214, 33554430, 1048574, 68157438, 268435454, 536870910, 1073741822, 2147483647]) (ord := [0, 1, 2, 3, 4, 5, 6, 7, 8, 9, 10, 11, 12, 13, 14, 15, 16, 17, 18, 19, 20, 21, 22, 23, 24, 25, 26, 27, 28, 29, 30, 31]) [31] [31] mixed (by decide +kernel) (cS _) ?_;refine dl_ev rfl rfl (.none rfl) rfl rfl (aC rfl) rfl ?_;refine dl_ev rfl rfl (.none rfl) rfl rfl (aD (o' := 2) eF rfl rfl) rfl ?_;refine dl_ev rfl rfl (.none rfl) rfl rfl (aK ts3 rfl aM rfl) rfl ?_;refine dl_ev rfl rfl (.none rfl) rfl rfl (bT rfl rfl) rfl ?_;refine dl_ev rfl rfl (.none rfl) rfl rfl (aC rfl) rfl ?_;refine dl_splitp 20 rfl (fun s20 => ?_) (fun s20 => ?_)
  ·
   refine dl_ev rfl rfl (.on rfl rfl rfl) rfl rfl (aC rfl) rfl ?_;refine dl_ev rfl rfl (.on rfl rfl rfl) rfl rfl bS rfl ?_;refine dl_ev rfl rfl (.on rfl rfl rfl) rfl rfl (aD (o' := 0) cV rfl rfl) rfl ?_;refine dl_ev rfl rfl (.on rfl rfl rfl) rfl rfl (aD (o' := 0) jD rfl rfl) rfl ?_;refine dl_ev rfl rfl (.on rfl rfl rfl) rfl rfl (aD (o' := 2) nV rfl rfl) rfl ?_;refine dl_ev rfl rfl (.on rfl rfl rfl) rfl rfl (aK ts3 rfl aM rfl) rfl ?_;refine dl_ev rfl rfl (.on rfl rfl rfl) rfl rfl (aD (o' := 1) gL rfl rfl) rfl ?_;refine dl_ev rfl rfl (.on rfl rfl rfl) rfl rfl (aK ts3 rfl aM rfl) rfl ?_;refine dl_ev rfl rfl (.on rfl rfl rfl) rfl rfl (jG rfl rfl) rfl ?_;refine dl_ev rfl rfl (.none rfl) rfl rfl (bH rfl rfl) rfl ?_;refine dl_ev rfl rfl (.none rfl) rfl rfl (aC rfl) rfl ?_;refine dl_splitp 31 rfl (fun s31 => ?_) (fun s31 => ?_)
   ·
    refine dl_off rfl rfl (.off rfl rfl rfl) rfl ?_;refine dl_off rfl rfl (.off rfl rfl rfl) rfl ?_;refine dl_off rfl rfl (.off rfl rfl rfl) rfl ?_;refine dl_off rfl rfl (.off rfl rfl rfl) rfl ?_;refine dl_off rfl rfl (.offu rfl rfl rfl) rfl ?_;refine dl_off rfl rfl (.offu rfl rfl rfl) rfl ?_;refine dl_off rfl rfl (.offu rfl rfl rfl) rfl ?_;refine dl_off rfl rfl (.offu rfl rfl rfl) rfl ?_;refine dl_off rfl rfl (.offu rfl rfl rfl) rfl ?_;refine dl_off rfl rfl (.offu rfl rfl rfl) rfl ?_;refine dl_off rfl rfl (.offu rfl rfl rfl) rfl ?_;refine dl_off rfl rfl (.offu rfl rfl rfl) rfl ?_;refine dl_off rfl rfl (.offu rfl rfl rfl) rfl ?_;refine dl_off rfl rfl (.off rfl rfl rfl) rfl ?_;refine dl_ev rfl rfl (.none rfl) rfl rfl (bH rfl rfl) rfl ?_;refine e6 rfl (.none rfl) rfl rfl rfl (gN b mb m hv pv nm s av sv f c _ o _ (by rw [Bool.eq_iff_iff]; simp; omega)) (.cons .here (.cons .here (.cons .here (.cons .here .nil)))) rfl (fun _ _ => aX _ _) ?_ ?_
    ·
     rintro _ _ _ hTr le1;obtain ⟨e, p, hq, fb, h, rfl⟩ := aY hTr;cases h
     intro a0 w0 hd0 hi0;refine ⟨hd0, _, _, ?_, bP, hi0.left⟩
     unfold MI;rw [if_pos hcc, hq];exact ⟨fb, rfl, rfl⟩
    rintro _ K _ hTr -;obtain ⟨q, hq, rfl, rfl, rfl⟩ := aZ hTr;clear hTr;have hqp := d8 hq;refine dl_nil ?_;refine aO (.cons .here .nil) ?_;refine dE rfl (Hl.le_refl _) ?_;unfold MI;rw [if_pos hcc, hq];exact ⟨_, rfl, rfl, pv, by rw [hqp]; exact hpv, rfl⟩
   ·
    refine dl_ev rfl rfl (.on rfl rfl rfl) rfl rfl (aD (o' := 2) eF rfl rfl) rfl ?_;refine dl_ev rfl rfl (.on rfl rfl rfl) rfl rfl (aK ts3 rfl aM rfl) rfl ?_;refine dl_ev rfl rfl (.on rfl rfl rfl) rfl rfl (bT rfl rfl) rfl ?_;refine dl_ev rfl rfl (.on rfl rfl rfl) rfl rfl (aC rfl) rfl ?_;refine dl_splitp 35 rfl (fun s35 => ?_) (fun s35 => ?_)
    ·
     refine dl_ev rfl rfl (.on rfl rfl rfl) rfl rfl (aC rfl) rfl ?_;refine dl_ev rfl rfl (.on rfl rfl rfl) rfl rfl bS rfl ?_;refine dl_ev rfl rfl (.on rfl rfl rfl) rfl rfl (aD (o' := 0) cV rfl rfl) rfl ?_;refine dl_ev rfl rfl (.on rfl rfl rfl) rfl rfl (aD (o' := 0) jD rfl rfl) rfl ?_;refine dl_ev rfl rfl (.on rfl rfl rfl) rfl rfl (aD (o' := 2) nV rfl rfl) rfl ?_;refine dl_ev rfl rfl (.on rfl rfl rfl) rfl rfl (aK ts3 rfl aM rfl) rfl ?_;refine dl_ev rfl rfl (.on rfl rfl rfl) rfl rfl (aD (o' := 1) gL rfl rfl) rfl ?_;refine dl_ev rfl rfl (.on rfl rfl rfl) rfl rfl (aK ts3 rfl aM rfl) rfl ?_;refine dl_ev rfl rfl (.on rfl rfl rfl) rfl rfl (dA rfl rfl) rfl ?_;refine dl_ev rfl rfl (.on rfl rfl rfl) rfl rfl (bH rfl rfl) rfl ?_;refine dl_ev rfl rfl (.none rfl) rfl rfl (a8 rfl rfl) rfl ?_;refine e6 rfl (.none rfl) rfl rfl rfl (gN b mb m hv pv nm s av sv f c _ o _ (by rw [Bool.eq_iff_iff]; simp; omega)) (.cons .here (.cons .here (.cons .here (.cons .here .nil)))) rfl (fun _ _ => aX _ _) ?_ ?_
     ·
      rintro _ _ _ hTr le1;obtain ⟨e, p, hq, fb, h, rfl⟩ := aY hTr;cases h
      intro a0 w0 hd0 hi0;refine ⟨hd0, _, _, ?_, bP, hi0.left⟩
      unfold MI;rw [if_pos hcc, hq];exact ⟨fb, rfl, rfl⟩
     rintro _ K _ hTr -;obtain ⟨q, hq, rfl, rfl, rfl⟩ := aZ hTr;clear hTr;have hqp := d8 hq;refine dl_nil ?_;refine aO (.cons .here .nil) ?_;refine dE rfl (Hl.le_refl _) ?_;unfold MI;rw [if_pos hcc, hq];exact ⟨_, rfl, rfl, pv, by rw [hqp]; exact hpv, rfl⟩
    ·
     refine dl_off rfl rfl (.off rfl rfl rfl) rfl ?_;refine dl_off rfl rfl (.off rfl rfl rfl) rfl ?_;refine dl_off rfl rfl (.off rfl rfl rfl) rfl ?_;refine dl_off rfl rfl (.off rfl rfl rfl) rfl ?_;refine dl_off rfl rfl (.off rfl rfl rfl) rfl ?_;refine dl_off rfl rfl (.off rfl rfl rfl) rfl ?_;refine dl_off rfl rfl (.off rfl rfl rfl) rfl ?_;refine dl_off rfl rfl (.off rfl rfl rfl) rfl ?_;refine dl_off rfl rfl (.off rfl rfl rfl) rfl ?_;refine dl_ev rfl rfl (.on rfl rfl rfl) rfl rfl (a8 rfl rfl) rfl ?_;refine dl_ev rfl rfl (.none rfl) rfl rfl (a8 rfl rfl) rfl ?_;refine e6 rfl (.none rfl) rfl rfl rfl (gN b mb m hv pv nm s av sv f c _ o _ (by rw [Bool.eq_iff_iff]; simp; omega)) (.cons .here (.cons .here (.cons .here (.cons .here .nil)))) rfl (fun _ _ => aX _ _) ?_ ?_
     ·
      rintro _ _ _ hTr le1;obtain ⟨e, p, hq, fb, h, rfl⟩ := aY hTr;cases h
      intro a0 w0 hd0 hi0;refine ⟨hd0, _, _, ?_, bP, hi0.left⟩
      unfold MI;rw [if_pos hcc, hq];exact ⟨fb, rfl, rfl⟩
     rintro _ K _ hTr -;obtain ⟨q, hq, rfl, rfl, rfl⟩ := aZ hTr;clear hTr;have hqp := d8 hq;refine dl_nil ?_;refine aO (.cons .here .nil) ?_;refine dE rfl (Hl.le_refl _) ?_;unfold MI;rw [if_pos hcc, hq];exact ⟨_, rfl, rfl, pv, by rw [hqp]; exact hpv, rfl⟩
  ·
   refine dl_off rfl rfl (.off rfl rfl rfl) rfl ?_;refine dl_off rfl rfl (.off rfl rfl rfl) rfl ?_;refine dl_off rfl rfl (.off rfl rfl rfl) rfl ?_;refine dl_off rfl rfl (.off rfl rfl rfl) rfl ?_;refine dl_off rfl rfl (.off rfl rfl rfl) rfl ?_;refine dl_off rfl rfl (.off rfl rfl rfl) rfl ?_;refine dl_off rfl rfl (.off rfl rfl rfl) rfl ?_;refine dl_off rfl rfl (.off rfl rfl rfl) rfl ?_;refine dl_off rfl rfl (.off rfl rfl rfl) rfl ?_;refine dl_ev rfl rfl (.none rfl) rfl rfl (a8 rfl rfl) rfl ?_;refine dl_ev rfl rfl (.none rfl) rfl rfl (aC rfl) rfl ?_;refine dl_ev rfl rfl (.on rfl rfl rfl) rfl rfl (aD (o' := 2) eF rfl rfl) rfl ?_;refine dl_ev rfl rfl (.on rfl rfl rfl) rfl rfl (aK ts3 rfl aM rfl) rfl ?_;refine dl_ev rfl rfl (.on rfl rfl rfl) rfl rfl (bT rfl rfl) rfl ?_;refine dl_ev rfl rfl (.on rfl rfl rfl) rfl rfl (aC rfl) rfl ?_;refine dl_splitp 35 rfl (fun s35 => ?_) (fun s35 => ?_)
   ·
    refine dl_ev rfl rfl (.on rfl rfl rfl) rfl rfl (aC rfl) rfl ?_;refine dl_ev rfl rfl (.on rfl rfl rfl) rfl rfl bS rfl ?_;refine dl_ev rfl rfl (.on rfl rfl rfl) rfl rfl (aD (o' := 0) cV rfl rfl) rfl ?_;refine dl_ev rfl rfl (.on rfl rfl rfl) rfl rfl (aD (o' := 0) jD rfl rfl) rfl ?_;refine dl_ev rfl rfl (.on rfl rfl rfl) rfl rfl (aD (o' := 2) nV rfl rfl) rfl ?_;refine dl_ev rfl rfl (.on rfl rfl rfl) rfl rfl (aK ts3 rfl aM rfl) rfl ?_;refine dl_ev rfl rfl (.on rfl rfl rfl) rfl rfl (aD (o' := 1) gL rfl rfl) rfl ?_;refine dl_ev rfl rfl (.on rfl rfl rfl) rfl rfl (aK ts3 rfl aM rfl) rfl ?_;refine dl_ev rfl rfl (.on rfl rfl rfl) rfl rfl (dA rfl rfl) rfl ?_;refine dl_ev rfl rfl (.on rfl rfl rfl) rfl rfl (bH rfl rfl) rfl ?_;refine dl_ev rfl rfl (.none rfl) rfl rfl (a8 rfl rfl) rfl ?_;refine e6 rfl (.none rfl) rfl rfl rfl (gN b mb m hv pv nm s av sv f c _ o _ (by rw [Bool.eq_iff_iff]; simp; omega)) (.cons .here (.cons .here (.cons .here (.cons .here .nil)))) rfl (fun _ _ => aX _ _) ?_ ?_
    ·
     rintro _ _ _ hTr le1;obtain ⟨e, p, hq, fb, h, rfl⟩ := aY hTr;cases h
     intro a0 w0 hd0 hi0;refine ⟨hd0, _, _, ?_, bP, hi0.left⟩
     unfold MI;rw [if_pos hcc, hq];exact ⟨fb, rfl, rfl⟩
    rintro _ K _ hTr -;obtain ⟨q, hq, rfl, rfl, rfl⟩ := aZ hTr;clear hTr;have hqp := d8 hq;refine dl_nil ?_;refine aO (.cons .here .nil) ?_;refine dE rfl (Hl.le_refl _) ?_;unfold MI;rw [if_pos hcc, hq];exact ⟨_, rfl, rfl, pv, by rw [hqp]; exact hpv, rfl⟩
   ·
    refine dl_off rfl rfl (.off rfl rfl rfl) rfl ?_;refine dl_off rfl rfl (.off rfl rfl rfl) rfl ?_;refine dl_off rfl rfl (.off rfl rfl rfl) rfl ?_;refine dl_off rfl rfl (.off rfl rfl rfl) rfl ?_;refine dl_off rfl rfl (.off rfl rfl rfl) rfl ?_;refine dl_off rfl rfl (.off rfl rfl rfl) rfl ?_;refine dl_off rfl rfl (.off rfl rfl rfl) rfl ?_;refine dl_off rfl rfl (.off rfl rfl rfl) rfl ?_;refine dl_off rfl rfl (.off rfl rfl rfl) rfl ?_;refine dl_ev rfl rfl (.on rfl rfl rfl) rfl rfl (a8 rfl rfl) rfl ?_;refine dl_ev rfl rfl (.none rfl) rfl rfl (a8 rfl rfl) rfl ?_;refine e6 rfl (.none rfl) rfl rfl rfl (gN b mb m hv pv nm s av sv f c _ o _ (by rw [Bool.eq_iff_iff]; simp; omega)) (.cons .here (.cons .here (.cons .here (.cons .here .nil)))) rfl (fun _ _ => aX _ _) ?_ ?_
    ·
     rintro _ _ _ hTr le1;obtain ⟨e, p, hq, fb, h, rfl⟩ := aY hTr;cases h
     intro a0 w0 hd0 hi0;refine ⟨hd0, _, _, ?_, bP, hi0.left⟩
     unfold MI;rw [if_pos hcc, hq];exact ⟨fb, rfl, rfl⟩
    rintro _ K _ hTr -;obtain ⟨q, hq, rfl, rfl, rfl⟩ := aZ hTr;clear hTr;have hqp := d8 hq;refine dl_nil ?_;refine aO (.cons .here .nil) ?_;refine dE rfl (Hl.le_refl _) ?_;unfold MI;rw [if_pos hcc, hq];exact ⟨_, rfl, rfl, pv, by rw [hqp]; exact hpv, rfl⟩
 ·
  refine aT rfl rfl ?_;refine aA (aD (o' := 2) eF rfl rfl) rfl ?_;refine aT rfl rfl ?_;refine aA (aK ts3 rfl aM rfl) rfl ?_;refine aT rfl rfl ?_;refine aA (bT rfl rfl) rfl ?_;refine aA (a8 rfl rfl) rfl ?_;refine aW rfl rfl (mN (o.tag = 2) _ _ _ _ _ _ _ _ _ _ _ _ _) (.cons .here .nil) rfl (fun _ _ => aX _ _) ?_ ?_
  ·
   rintro _ _ _ hTr le1;obtain ⟨e, p, hu, fb, h, rfl⟩ := aY hTr;cases h
   refine aO (.cons .here .nil) ?_;refine aJ ?_;refine bA bP ?_;have hbl : ¬ (o.tag = 2) := (by intro h; rw [if_pos h] at hu; cases hu);rw [if_neg hbl] at hu;cases hu
   unfold MI;rw [if_neg aH];exact ⟨fb, rfl, rfl⟩
  rintro _ K _ hTr -;obtain ⟨u0, hu, rfl, rfl, rfl⟩ := aZ hTr;clear hTr;have hbl : o.tag = 2 := Classical.byContradiction (fun h => by rw [if_neg h] at hu; cases hu);have hcc : o.tag = 1 ∨ o.tag = 2 := .inr hbl;refine aG (aE ?_);refine t_draw (anc := [0, 0, 2, 6, 14, 30, 62, 126, 254, 510, 1022, 30, 2078, 8190, 16382, 32766, 65534, 131070, 262142, 524286, 1048574, 2097150, 4194302, 8388606, 16777214, 33554430, 1048574, 68157438, 268435454, 536870910, 1073741822, 2147483647]) (ord := [0, 1, 2, 3, 4, 5, 6, 7, 8, 9, 10, 11, 12, 13, 14, 15, 16, 17, 18, 19, 20, 21, 22, 23, 24, 25, 26, 27, 28, 29, 30, 31]) [31] [31] mixed (by decide +kernel) (cS _) ?_;refine dl_ev rfl rfl (.none rfl) rfl rfl (aC rfl) rfl ?_;refine dl_ev rfl rfl (.none rfl) rfl rfl (aD (o' := 2) eF rfl rfl) rfl ?_;refine dl_ev rfl rfl (.none rfl) rfl rfl (aK ts3 rfl aM rfl) rfl ?_;refine dl_ev rfl rfl (.none rfl) rfl rfl (bT rfl rfl) rfl ?_;refine dl_ev rfl rfl (.none rfl) rfl rfl (aC rfl) rfl ?_;refine dl_splitp 20 rfl (fun s20 => ?_) (fun s20 => ?_)
  ·
   refine dl_ev rfl rfl (.on rfl rfl rfl) rfl rfl (aC rfl) rfl ?_;refine dl_ev rfl rfl (.on rfl rfl rfl) rfl rfl bS rfl ?_;refine dl_ev rfl rfl (.on rfl rfl rfl) rfl rfl (aD (o' := 0) cV rfl rfl) rfl ?_;refine dl_ev rfl rfl (.on rfl rfl rfl) rfl rfl (aD (o' := 0) jD rfl rfl) rfl ?_;refine dl_ev rfl rfl (.on rfl rfl rfl) rfl rfl (aD (o' := 2) nV rfl rfl) rfl ?_;refine dl_ev rfl rfl (.on rfl rfl rfl) rfl rfl (aK ts3 rfl aM rfl) rfl ?_;refine dl_ev rfl rfl (.on rfl rfl rfl) rfl rfl (aD (o' := 1) gL rfl rfl) rfl ?_;refine dl_ev rfl rfl (.on rfl rfl rfl) rfl rfl (aK ts3 rfl aM rfl) rfl ?_;refine dl_ev rfl rfl (.on rfl rfl rfl) rfl rfl (jG rfl rfl) rfl ?_;refine dl_ev rfl rfl (.none rfl) rfl rfl (bH rfl rfl) rfl ?_;refine dl_ev rfl rfl (.none rfl) rfl rfl (aC rfl) rfl ?_;refine dl_splitp 31 rfl (fun s31 => ?_) (fun s31 => ?_)
   ·
    refine dl_off rfl rfl (.off rfl rfl rfl) rfl ?_;refine dl_off rfl rfl (.off rfl rfl rfl) rfl ?_;refine dl_off rfl rfl (.off rfl rfl rfl) rfl ?_;refine dl_off rfl rfl (.off rfl rfl rfl) rfl ?_;refine dl_off rfl rfl (.offu rfl rfl rfl) rfl ?_;refine dl_off rfl rfl (.offu rfl rfl rfl) rfl ?_;refine dl_off rfl rfl (.offu rfl rfl rfl) rfl ?_;refine dl_off rfl rfl (.offu rfl rfl rfl) rfl ?_;refine dl_off rfl rfl (.offu rfl rfl rfl) rfl ?_;refine dl_off rfl rfl (.offu rfl rfl rfl) rfl ?_;refine dl_off rfl rfl (.offu rfl rfl rfl) rfl ?_;refine dl_off rfl rfl (.offu rfl rfl rfl) rfl ?_;refine dl_off rfl rfl (.offu rfl rfl rfl) rfl ?_;refine dl_off rfl rfl (.off rfl rfl rfl) rfl ?_;refine dl_ev rfl rfl (.none rfl) rfl rfl (bH rfl rfl) rfl ?_;refine e6 rfl (.none rfl) rfl rfl rfl (gN b mb m hv pv nm s av sv f c _ o _ (by rw [Bool.eq_iff_iff]; simp; omega)) (.cons .here (.cons .here (.cons .here (.cons .here .nil)))) rfl (fun _ _ => aX _ _) ?_ ?_
    ·
     rintro _ _ _ hTr le1;obtain ⟨e, p, hq, fb, h, rfl⟩ := aY hTr;cases h
     intro a0 w0 hd0 hi0;refine ⟨hd0, _, _, ?_, bP, hi0.left⟩
     unfold MI;rw [if_pos hcc, hq];exact ⟨fb, rfl, rfl⟩
    rintro _ K _ hTr -;obtain ⟨q, hq, rfl, rfl, rfl⟩ := aZ hTr;clear hTr;have hqp := d8 hq;refine dl_nil ?_;refine aO (.cons .here .nil) ?_;refine dE rfl (Hl.le_refl _) ?_;unfold MI;rw [if_pos hcc, hq];exact ⟨_, rfl, rfl, pv, by rw [hqp]; exact hpv, rfl⟩
   ·
    refine dl_ev rfl rfl (.on rfl rfl rfl) rfl rfl (aD (o' := 2) eF rfl rfl) rfl ?_;refine dl_ev rfl rfl (.on rfl rfl rfl) rfl rfl (aK ts3 rfl aM rfl) rfl ?_;refine dl_ev rfl rfl (.on rfl rfl rfl) rfl rfl (bT rfl rfl) rfl ?_;refine dl_ev rfl rfl (.on rfl rfl rfl) rfl rfl (aC rfl) rfl ?_;refine dl_splitp 35 rfl (fun s35 => ?_) (fun s35 => ?_)
    ·
     refine dl_ev rfl rfl (.on rfl rfl rfl) rfl rfl (aC rfl) rfl ?_;refine dl_ev rfl rfl (.on rfl rfl rfl) rfl rfl bS rfl ?_;refine dl_ev rfl rfl (.on rfl rfl rfl) rfl rfl (aD (o' := 0) cV rfl rfl) rfl ?_;refine dl_ev rfl rfl (.on rfl rfl rfl) rfl rfl (aD (o' := 0) jD rfl rfl) rfl ?_;refine dl_ev rfl rfl (.on rfl rfl rfl) rfl rfl (aD (o' := 2) nV rfl rfl) rfl ?_;refine dl_ev rfl rfl (.on rfl rfl rfl) rfl rfl (aK ts3 rfl aM rfl) rfl ?_;refine dl_ev rfl rfl (.on rfl rfl rfl) rfl rfl (aD (o' := 1) gL rfl rfl) rfl ?_;refine dl_ev rfl rfl (.on rfl rfl rfl) rfl rfl (aK ts3 rfl aM rfl) rfl ?_;refine dl_ev rfl rfl (.on rfl rfl rfl) rfl rfl (dA rfl rfl) rfl ?_;refine dl_ev rfl rfl (.on rfl rfl rfl) rfl rfl (bH rfl rfl) rfl ?_;refine dl_ev rfl rfl (.none rfl) rfl rfl (a8 rfl rfl) rfl ?_;refine e6 rfl (.none rfl) rfl rfl rfl (gN b mb m hv pv nm s av sv f c _ o _ (by rw [Bool.eq_iff_iff]; simp; omega)) (.cons .here (.cons .here (.cons .here (.cons .here .nil)))) rfl (fun _ _ => aX _ _) ?_ ?_
     ·
      rintro _ _ _ hTr le1;obtain ⟨e, p, hq, fb, h, rfl⟩ := aY hTr;cases h
      intro a0 w0 hd0 hi0;refine ⟨hd0, _, _, ?_, bP, hi0.left⟩
      unfold MI;rw [if_pos hcc, hq];exact ⟨fb, rfl, rfl⟩
     rintro _ K _ hTr -;obtain ⟨q, hq, rfl, rfl, rfl⟩ := aZ hTr;clear hTr;have hqp := d8 hq;refine dl_nil ?_;refine aO (.cons .here .nil) ?_;refine dE rfl (Hl.le_refl _) ?_;unfold MI;rw [if_pos hcc, hq];exact ⟨_, rfl, rfl, pv, by rw [hqp]; exact hpv, rfl⟩
    ·
     refine dl_off rfl rfl (.off rfl rfl rfl) rfl ?_;refine dl_off rfl rfl (.off rfl rfl rfl) rfl ?_;refine dl_off rfl rfl (.off rfl rfl rfl) rfl ?_;refine dl_off rfl rfl (.off rfl rfl rfl) rfl ?_;refine dl_off rfl rfl (.off rfl rfl rfl) rfl ?_;refine dl_off rfl rfl (.off rfl rfl rfl) rfl ?_;refine dl_off rfl rfl (.off rfl rfl rfl) rfl ?_;refine dl_off rfl rfl (.off rfl rfl rfl) rfl ?_;refine dl_off rfl rfl (.off rfl rfl rfl) rfl ?_;refine dl_ev rfl rfl (.on rfl rfl rfl) rfl rfl (a8 rfl rfl) rfl ?_;refine dl_ev rfl rfl (.none rfl) rfl rfl (a8 rfl rfl) rfl ?_;refine e6 rfl (.none rfl) rfl rfl rfl (gN b mb m hv pv nm s av sv f c _ o _ (by rw [Bool.eq_iff_iff]; simp; omega)) (.cons .here (.cons .here (.cons .here (.cons .here .nil)))) rfl (fun _ _ => aX _ _) ?_ ?_
     ·
      rintro _ _ _ hTr le1;obtain ⟨e, p, hq, fb, h, rfl⟩ := aY hTr;cases h
      intro a0 w0 hd0 hi0;refine ⟨hd0, _, _, ?_, bP, hi0.left⟩
      unfold MI;rw [if_pos hcc, hq];exact ⟨fb, rfl, rfl⟩
     rintro _ K _ hTr -;obtain ⟨q, hq, rfl, rfl, rfl⟩ := aZ hTr;clear hTr;have hqp := d8 hq;refine dl_nil ?_;refine aO (.cons .here .nil) ?_;refine dE rfl (Hl.le_refl _) ?_;unfold MI;rw [if_pos hcc, hq];exact ⟨_, rfl, rfl, pv, by rw [hqp]; exact hpv, rfl⟩
  ·
   refine dl_off rfl rfl (.off rfl rfl rfl) rfl ?_;refine dl_off rfl rfl (.off rfl rfl rfl) rfl ?_;refine dl_off rfl rfl (.off rfl rfl rfl) rfl ?_;refine dl_off rfl rfl (.off rfl rfl rfl) rfl ?_;refine dl_off rfl rfl (.off rfl rfl rfl) rfl ?_;refine dl_off rfl rfl (.off rfl rfl rfl) rfl ?_;refine dl_off rfl rfl (.off rfl rfl rfl) rfl ?_;refine dl_off rfl rfl (.off rfl rfl rfl) rfl ?_;refine dl_off rfl rfl (.off rfl rfl rfl) rfl ?_;refine dl_ev rfl rfl (.none rfl) rfl rfl (a8 rfl rfl) rfl ?_;refine dl_ev rfl rfl (.none rfl) rfl rfl (aC rfl) rfl ?_;refine dl_ev rfl rfl (.on rfl rfl rfl) rfl rfl (aD (o' := 2) eF rfl rfl) rfl ?_;refine dl_ev rfl rfl (.on rfl rfl rfl) rfl rfl (aK ts3 rfl aM rfl) rfl ?_;refine dl_ev rfl rfl (.on rfl rfl rfl) rfl rfl (bT rfl rfl) rfl ?_;refine dl_ev rfl rfl (.on rfl rfl rfl) rfl rfl (aC rfl) rfl ?_;refine dl_splitp 35 rfl (fun s35 => ?_) (fun s35 => ?_)
   ·
    refine dl_ev rfl rfl (.on rfl rfl rfl) rfl rfl (aC rfl) rfl ?_;refine dl_ev rfl rfl (.on rfl rfl rfl) rfl rfl bS rfl ?_;refine dl_ev rfl rfl (.on rfl rfl rfl) rfl rfl (aD (o' := 0) cV rfl rfl) rfl ?_;refine dl_ev rfl rfl (.on rfl rfl rfl) rfl rfl (aD (o' := 0) jD rfl rfl) rfl ?_;refine dl_ev rfl rfl (.on rfl rfl rfl) rfl rfl (aD (o' := 2) nV rfl rfl) rfl ?_;refine dl_ev rfl rfl (.on rfl rfl rfl) rfl rfl (aK ts3 rfl aM rfl) rfl ?_;refine dl_ev rfl rfl (.on rfl rfl rfl) rfl rfl (aD (o' := 1) gL rfl rfl) rfl ?_;refine dl_ev rfl rfl (.on rfl rfl rfl) rfl rfl (aK ts3 rfl aM rfl) rfl ?_;refine dl_ev rfl rfl (.on rfl rfl rfl) rfl rfl (dA rfl rfl) rfl ?_;refine dl_ev rfl rfl (.on rfl rfl rfl) rfl rfl (bH rfl rfl) rfl ?_;refine dl_ev rfl rfl (.none rfl) rfl rfl (a8 rfl rfl) rfl ?_;refine e6 rfl (.none rfl) rfl rfl rfl (gN b mb m hv pv nm s av sv f c _ o _ (by rw [Bool.eq_iff_iff]; simp; omega)) (.cons .here (.cons .here (.cons .here (.cons .here .nil)))) rfl (fun _ _ => aX _ _) ?_ ?_
    ·
     rintro _ _ _ hTr le1;obtain ⟨e, p, hq, fb, h, rfl⟩ := aY hTr;cases h
     intro a0 w0 hd0 hi0;refine ⟨hd0, _, _, ?_, bP, hi0.left⟩
     unfold MI;rw [if_pos hcc, hq];exact ⟨fb, rfl, rfl⟩
    rintro _ K _ hTr -;obtain ⟨q, hq, rfl, rfl, rfl⟩ := aZ hTr;clear hTr;have hqp := d8 hq;refine dl_nil ?_;refine aO (.cons .here .nil) ?_;refine dE rfl (Hl.le_refl _) ?_;unfold MI;rw [if_pos hcc, hq];exact ⟨_, rfl, rfl, pv, by rw [hqp]; exact hpv, rfl⟩
   ·
    refine dl_off rfl rfl (.off rfl rfl rfl) rfl ?_;refine dl_off rfl rfl (.off rfl rfl rfl) rfl ?_;refine dl_off rfl rfl (.off rfl rfl rfl) rfl ?_;refine dl_off rfl rfl (.off rfl rfl rfl) rfl ?_;refine dl_off rfl rfl (.off rfl rfl rfl) rfl ?_;refine dl_off rfl rfl (.off rfl rfl rfl) rfl ?_;refine dl_off rfl rfl (.off rfl rfl rfl) rfl ?_;refine dl_off rfl rfl (.off rfl rfl rfl) rfl ?_;refine dl_off rfl rfl (.off rfl rfl rfl) rfl ?_;refine dl_ev rfl rfl (.on rfl rfl rfl) rfl rfl (a8 rfl rfl) rfl ?_;refine dl_ev rfl rfl (.none rfl) rfl rfl (a8 rfl rfl) rfl ?_;refine e6 rfl (.none rfl) rfl rfl rfl (gN b mb m hv pv nm s av sv f c _ o _ (by rw [Bool.eq_iff_iff]; simp; omega)) (.cons .here (.cons .here (.cons .here (.cons .here .nil)))) rfl (fun _ _ => aX _ _) ?_ ?_
    ·
     rintro _ _ _ hTr le1;obtain ⟨e, p, hq, fb, h, rfl⟩ := aY hTr;cases h
     intro a0 w0 hd0 hi0;refine ⟨hd0, _, _, ?_, bP, hi0.left⟩
     unfold MI;rw [if_pos hcc, hq];exact ⟨fb, rfl, rfl⟩
    rintro _ K _ hTr -;obtain ⟨q, hq, rfl, rfl, rfl⟩ := aZ hTr;clear hTr;have hqp := d8 hq;refine dl_nil ?_;refine aO (.cons .here .nil) ?_;refine dE rfl (Hl.le_refl _) ?_;unfold MI;rw [if_pos hcc, hq];exact ⟨_, rfl, rfl, pv, by rw [hqp]; exact hpv, rfl⟩
end Go.Proofs
end
section
namespace Go.Proofs
open Go Go.SL Go.Syn Go.Mach
theorem p5 {P : Program} {w : World} {T : TypeId} {xs : Array Value} {i : Nat} {v : Value} (ht : dZ P T = true) (h : xs[i]? = some v) : (part T xs i).run P w = .ok v w := by
 obtain ⟨h1, h2⟩ := lJ ht w;unfold part;rw [aS h1];simp [h]
theorem aO9 (w : World) (a c : gC) : (Op.equalIn 10000 34 (.agg #[i64 a.1, str a.2]) (.agg #[i64 c.1, str c.2])).run Tryz.prog w = .ok (decide (a = c)) w := by
 have hf : Tryz.prog.fieldsOf 34 = #[{ name := "Kind", type := 3, offset := 0, embedded := false, tag := "", pkgPath := "", byteOffset := 0 }, { name := "Arg", type := 9, offset := 1, embedded := false, tag := "", pkgPath := "", byteOffset := 8 }] := by unfold Program.fieldsOf; rw [Tryz.underlying34]
 rw [show (10000 : Nat) = 9999 + 1 from rfl, run_equalIn_agg w 9999 34 _ _ (by rw [hf]; exact Tryz.underlying34) Tryz.stoodInHeld34, hf];obtain ⟨k1, s1⟩ := a;obtain ⟨k2, s2⟩ := c;have p1 := p5 (P := Tryz.prog) (w := w) (xs := #[i64 k1, str s1]) (i := 0) (v := i64 k1) ts3 rfl;have p2 := p5 (P := Tryz.prog) (w := w) (xs := #[i64 k2, str s2]) (i := 0) (v := i64 k2) ts3 rfl;have p3 := p5 (P := Tryz.prog) (w := w) (xs := #[i64 k1, str s1]) (i := 1) (v := str s1) ts9 rfl;have p4 := p5 (P := Tryz.prog) (w := w) (xs := #[i64 k2, str s2]) (i := 1) (v := str s2) ts9 rfl;have q1 : (Op.equalIn 9999 3 (i64 k1) (i64 k2)).run Tryz.prog w = .ok (k1 == k2) w := run_equalIn_int (P := Tryz.prog) w 9998 3 .i64 .i64 k1 k2 Tryz.underlying3;have q2 : (Op.equalIn 9999 9 (str s1) (str s2)).run Tryz.prog w = .ok (decide (s1 = s2)) w := by
  have := run_equalIn_string (P := Tryz.prog) w 9998 9 ⟨s1.toArray⟩ ⟨s2.toArray⟩ Tryz.underlying9;rw [← beq_toListBytes, aE6] at this;exact this
 simp only [Op.eqFields];rw [if_pos (by decide), aS p1, aS p2, aS q1]
 by_cases h : k1 = k2
 ·subst h;rw [if_neg (by simp), if_pos (by decide), aS p3, aS p4, aS q2]
  by_cases h2 : s1 = s2
  ·subst h2; simp [pure, Sem.run]
  ·simp [h2, pure, Sem.run]
 ·rw [if_pos (by simp [h])];simp [h, pure, Sem.run]
theorem s0 {n : Nat} {ds : List Deferred} {w0 : World} {F : Hl} {fr : Fr} {K : Hl} {L : List Asn} {dst : Option Tmp} {ty t' : TypeId} {pos : String} {aft : Array Edge} {g : Option (Nat × Bool)} {x y : Operand} {a c : gC} (hx : fr.ev x = some (.agg #[i64 a.1, str a.2])) (hy : fr.ev y = some (.agg #[i64 c.1, str c.2])) :
  Ev ⟨Tryz.prog, n, ds, w0, F⟩ fr K L ⟨dst, .binOp .eql 34 x y t', ty, pos, aft, g⟩ (.bool (decide (a = c))) :=
 fQ hx hy (fun w => run_eqGuard_agg w _ _ _ _ _ _ Tryz.eqGuardType34) fun w => by
  rw [run_eql_struct, aO9]; rfl
theorem aA7 (av : Value) (l : List gC) (a : gC) (K : Hl) (hl : l.length ≤ 100) : Sp Tryz.prog 310 [av, .agg #[i64 a.1, str a.2]] K [sl true dG av l] (Ret fun v K' L' => ∃ i : Int, v = i64 i ∧ (0 ≤ i ↔ a ∈ l) ∧ K' = K ∧ L' = [sl true dG av l]) := by
 refine bB Tryz.func310 rfl Tryz.ntmps310 rfl rfl fun F w => ?_
 refine aI (aB ?_);refine ol_s (eM rfl rfl) rfl ?_;rintro _ K _ ⟨b3, rfl, rfl, rfl⟩ -;refine aA (aF rfl) rfl ?_;refine aG (aE ?_);refine aI (aI ?_);refine aB ?_;refine aA (aC rfl) rfl ?_;refine aA (cE (k := dG) rfl Tryz.underlying29 rfl aM) rfl ?_;refine aA (aC rfl) rfl ?_;refine aG (aE ?_);refine bF ?_;refine eK (fun (i : Nat) => i ≤ l.length ∧ a ∉ l.take i) (fun i => [(0, av), (3, ptr b3), (7, i64 l.length), (8, i64 i)]) (fun _ => _) (fun i => [pt b3 (aU [i64 a.1, str a.2] 34), sl true dG av l]) (fun i => l.length - i) 0 ⟨Nat.zero_le _, by simp⟩ (.cons 0 rfl (.cons 3 rfl (.cons 7 rfl (.cons 8 rfl .nil)))) rfl (fun _ h => h) ?_;intro i ⟨hi0, hi1⟩;refine aI (aB ?_);refine aA (dA rfl rfl) rfl ?_;refine aG (aE ?_);refine aI ?_;refine bE 9 rfl (fun h9 => ?_) (fun h9 => ?_)
 ·
  have hilt : i < l.length := by omega
  obtain ⟨x, hx⟩ : ∃ x, l[i]? = some x := ⟨l[i]'hilt, List.getElem?_eq_getElem hilt⟩;refine a6 ?_;refine aE (aI ?_);refine bF (aI ?_);refine aB ?_;refine aA (aC rfl) rfl ?_;refine aA (aF rfl) rfl ?_;refine aG (aE ?_);refine aI ?_;refine t_draw (anc := [0, 0, 0, 6, 14, 31]) (ord := [0, 1, 2, 3, 4, 5]) [] [] mixed (by decide +kernel) (cS _) ?_;refine dl_ev rfl rfl (.none rfl) rfl rfl (bW jS rfl aM rfl rfl) rfl ?_;refine dl_ev rfl rfl (.none rfl) rfl rfl (aC rfl) rfl ?_;refine dl_ev rfl rfl (.none rfl) rfl rfl (aC rfl) rfl ?_;refine dl_ev rfl rfl (.none rfl) rfl rfl (b0 (k := dG) fZ rfl aM rfl rfl (by first | assumption | omega)) rfl ?_;refine dl_ev rfl rfl (.none rfl) rfl rfl (fR (n := 0) (k := dG) jS rfl aM bP) rfl ?_;refine dl_ev rfl rfl (.none rfl) rfl rfl (s0 (a := a) (c := x) rfl rfl) rfl ?_;refine dl_nil ?_;refine aE ?_;refine bE 16 rfl (fun h16 => ?_) (fun h16 => ?_)
  ·
   refine aI (aB ?_);refine aA (aC rfl) rfl ?_;refine aA (aF rfl) rfl ?_;refine aG (aE ?_);refine bM ?_;refine bQ ?_;refine bC ?_;refine bC ?_;refine bQ ?_;refine bC ?_;refine aO (.cons (.there .here) .nil) ?_;refine bJ rfl rfl (Hl.le_refl _) ?_;exact ⟨_, rfl, i, rfl, ⟨fun _ => by rw [h16]; exact List.mem_of_getElem? hx, fun _ => by omega⟩, rfl, rfl⟩
  ·
   refine a6 ?_;refine aN (aE ?_);refine aB ?_;refine aA (bZ rfl rfl aH aH) rfl ?_;refine aA (aC rfl) rfl ?_;refine aG ?_;refine cL (i + 1) ⟨by omega, ?_⟩ aH (.cons 0 rfl (.cons 3 rfl (.cons 7 rfl (.cons 8 rfl .nil)))) rfl (fun _ h => h)
   have hxe : l[i]'hilt = x := by simpa [List.getElem?_eq_getElem hilt] using hx
   rw [List.take_succ_eq_append_getElem hilt, hxe];intro hm;rcases List.mem_append.1 hm with h | h
   ·exact hi1 h
   ·simp at h; exact h16 h
 ·
  have hno : a ∉ l := (by rw [List.take_of_length_le aH] at hi1; exact hi1);refine cY ?_;refine aV ?_;refine aV ?_;refine bL ?_;refine aE (aI ?_);refine aB ?_;refine aA (aF rfl) rfl ?_;refine aG (aE ?_);refine bM ?_;refine aO (.cons (.there .here) .nil) ?_;refine bJ rfl rfl (Hl.le_refl _) ?_;exact ⟨_, rfl, -1, rfl, ⟨fun h => by omega, fun h => absurd h hno⟩, rfl, rfl⟩
theorem oQ (av : Value) (l : List gC) (a : gC) (K : Hl) (hl : l.length ≤ 100) : Sp Tryz.prog 257 [av, .agg #[i64 a.1, str a.2]] K [sl true dG av l] (Ret fun v K' L' => v = .bool (decide (a ∈ l)) ∧ K' = K ∧ L' = [sl true dG av l]) := by
 refine bB Tryz.func257 rfl Tryz.ntmps257 rfl rfl fun F w => ?_
 refine aI (aB ?_);refine ol_s (eM rfl rfl) rfl ?_;rintro _ K _ ⟨b3, rfl, rfl, rfl⟩ -;refine aA (aF rfl) rfl ?_;refine aG (aE ?_);refine aI (aB ?_);refine aA (aC rfl) rfl ?_;refine aA (bW jS rfl aM rfl rfl) rfl ?_;refine bD rfl rfl (aA7 av l a _ hl) (.cons (.there .here) .nil) rfl ?_;rintro _ K _ ⟨i, rfl, hi, rfl, rfl⟩ -;refine aA (gU rfl rfl) rfl ?_;refine aA (aF rfl) rfl ?_;refine aG (aE ?_);refine bM ?_;refine aO (.cons .here .nil) ?_;refine bJ rfl rfl (Hl.le_refl _) ?_;have e : decide (0 ≤ i) = decide (a ∈ l) := decide_eq_decide.2 hi;rw [e];exact ⟨_, rfl, rfl, rfl, rfl⟩
end Go.Proofs
end
section
namespace Go.Proofs
open Go Go.SL Go.Syn Go.Mach
def actC (o : Ins) (s : MS) (a : gC) : Res MS :=
 if a ∈ s.acts then .ok { s with keep := false }
 else if (∃ b ∈ s.acts, a.1 = 4 ∨ b.1 = 4) then .error (10, o.at_)
 else if s.acts.length = 6 then .error (11, o.at_)
 else .ok { s with keep := false, acts := s.acts ++ [a] }
def actB (o : Ins) (s : MS) (arg : List UInt8) : Res MS :=
 if o.tag = 2 ∧ aBB arg = false then .error (8, o.at_)
 else if o.tag = 3 ∧ l8 arg = false then .error (9, o.at_)
 else actC o s (Mach.actV o arg)
theorem aME {nm : Bool} {o : Ins} {s : MS} (h : o.tag = 1 ∨ (2 ≤ o.tag ∧ o.tag ≤ 4 ∧ o.a ≠ [])) : actI nm o s = actB o s (actA nm o s) := by
 unfold actI; rw [if_pos h]; rfl
theorem aMF {nm : Bool} {o : Ins} {s : MS} (h : ¬ (o.tag = 1 ∨ (2 ≤ o.tag ∧ o.tag ≤ 4 ∧ o.a ≠ []))) : actI nm o s = .error (12, s.pc) := by
 unfold actI; rw [if_neg h]; rfl
theorem uU {nm : Bool} {o : Ins} {s : MS} (h : ¬ (o.tag = 1 ∨ (2 ≤ o.tag ∧ o.tag ≤ 4 ∧ 0 < o.a.length))) : actI nm o s = .error (12, s.pc) :=
 aMF fun h' => h (h'.imp_right fun ⟨a, b, c⟩ => ⟨a, b, List.length_pos_iff.2 c⟩)
theorem lE {nm : Bool} {o : Ins} {s : MS} (h : o.tag = 1 ∨ (2 ≤ o.tag ∧ o.tag ≤ 4 ∧ 0 < o.a.length)) : actI nm o s = actB o s (actA nm o s) := aME (h.imp_right fun ⟨a, b, c⟩ => ⟨a, b, List.length_pos_iff.1 c⟩)
theorem y6 {nm : Bool} {o : Ins} {s : MS} (h : o.tag = 1) : actA nm o s = [] := by unfold actA; rw [if_pos h]
theorem y7 {nm : Bool} {o : Ins} {s : MS} {x : List UInt8} (h : ¬ o.tag = 1) (hx : o.a[0]? = some x) : actA nm o s = cP nm s.vars s.parts x := by unfold actA; rw [if_neg h, hx]; rfl
theorem aF8 (b mb : Nat) (m : Msg) (hv pv : Value) (nm : Bool) (s : MS) (o : Ins) (av0 bv : Value) (n : Int) (K : Hl) (hg : Glob K) (hpv : Ksl (bK 9) K pv s.parts) (ha : Ksl (bK 9) K av0 o.a) (hb : Ksl (bK 9) K bv o.b) (hs : ∀ x ∈ o.a, x.length ≤ 100000) (hsm : nG s.vars s.parts) (hl : s.acts.length ≤ 6)
  (hadr : ∀ (x : List UInt8) (K : Hl), Glob K → x.length ≤ 100000 → Sp Tryz.prog 256 [str x] K [] (Val (.bool (l8 x)) K)) :
  Sp Tryz.prog 153 [ptr b, kO o av0 bv, i64 n] K [mch b mb m hv pv nm s] (MI b mb m hv nm (actI nm o s)) := by
 obtain ⟨sa, sn, sc, rfl⟩ := ha.isSlice;obtain ⟨ta, tn, tc, rfl⟩ := hb.isSlice;refine bB Tryz.func153 rfl Tryz.ntmps153 rfl rfl fun F w => ?_
 refine oP fun av sv f c => ?_
 refine aI (aB ?_);refine ol_s (eM rfl rfl) rfl ?_;rintro _ K _ ⟨b4, rfl, rfl, rfl⟩ -;refine aG (aE ?_);refine aI (aB ?_);refine aA (aC rfl) rfl ?_;refine aA (aD (o' := 2) eF rfl rfl) rfl ?_;refine aA (aK ts3 rfl aM rfl) rfl ?_;refine aA (bT rfl rfl) rfl ?_;refine aA (aC rfl) rfl ?_;refine cA 13 rfl (fun g13 => ?_) (fun g13 => ?_)
 ·
  refine aQ rfl rfl rfl ?_;refine aQ rfl rfl rfl ?_;refine aQ rfl rfl rfl ?_;refine aQ rfl rfl rfl ?_;refine gB rfl rfl rfl ?_;refine gB rfl rfl rfl ?_;refine gB rfl rfl rfl ?_;refine aQ rfl rfl rfl ?_;refine aQ rfl rfl rfl ?_;refine gB rfl rfl rfl ?_;refine gB rfl rfl rfl ?_;refine gB rfl rfl rfl ?_;refine gB rfl rfl rfl ?_;refine aQ rfl rfl rfl ?_;refine aA (bH rfl rfl) rfl ?_;refine cF rfl rfl (uF _ _) rfl ?_;have hcc : o.tag = 1 ∨ (2 ≤ o.tag ∧ o.tag ≤ 4 ∧ 0 < o.a.length) := .inl g13;refine aKL (.cons (.there .here) (.cons .here .nil)) ?_;refine aG (aE ?_);refine aI (aB ?_);refine aA (aD (o' := 2) eF rfl rfl) rfl ?_;refine aA (aK ts3 rfl aM rfl) rfl ?_;refine aA (cK tb34 wQ (.cons rfl rfl rfl (.cons .nil) .nil)) rfl ?_;refine ol_s (cO tz34) rfl ?_;rintro _ K _ ⟨b6, rfl, rfl, rfl⟩ -;refine bR (cH jS rfl rfl rfl a7 (by first | (simp [Value.oneCell']; done) | exact fun c hc => El.one _ _ c hc) (.cons (.cons .nil)) (by intro j hj; simp)) ?_;rintro _ K _ ⟨rfl, rfl⟩ -;refine aG (aE ?_);refine hO (fun (u : List UInt8) => u.length ≤ 100000 ∧ actI nm o s = actB o s u) (fun u => [(0, ptr b), (4, ptr b4), (6, ptr b6)]) (fun _ => K) (fun u => [pt b6 (aU [i64 o.tag, str u] 34), mblk b (str m.from_) (str m.to_) (i64 m.size) hv av (.bool s.keep) (.bool nm) (.map (some mb)) pv sv s.pc, sl true dG av s.acts, sl false fM sv s.stack, pt mb (mapO (gM s.vars f) c), pt b4 (aU [i64 o.op, i64 o.n, i64 o.tag, .bool o.oct, .slice sa sn sc, .slice ta tn tc, i64 o.at_] 41)]) ?_ ?_
  ·
   refine aI (aB ?_);refine aA (aD (o' := 2) eF rfl rfl) rfl ?_;refine aA (aK ts3 rfl aM rfl) rfl ?_;refine aA (fO rfl rfl) rfl ?_;refine aG (aE ?_);refine bE 35 rfl (fun h35 => ?_) (fun h35 => ?_)
   ·
    obtain ⟨xa, hxa⟩ : ∃ x, o.a[0]? = some x := ⟨o.a[0]'(by omega), List.getElem?_eq_getElem aH⟩;refine aB ?_;refine aA (aC rfl) rfl ?_;refine aA (aD (o' := 4) jN rfl rfl) rfl ?_;refine aA (aK ts39 rfl aM rfl) rfl ?_;refine aA (b0 (k := bK 9) (j := 0) cT rfl (.known ha) rfl rfl aH) rfl ?_;refine aA (dO (o := 0) (k := (bK 9)) ts9 rfl aM bP rfl) rfl ?_;refine bD rfl rfl (m5 b mb _ _ _ _ _ _ pv _ _ nm s.vars f c s.parts xa _ hg hpv (hs xa (List.mem_of_getElem? hxa)) hsm) (.cons (.there .here) (.cons (.there (.there (.there (.there .here)))) .nil)) rfl ?_;rintro _ K _ ⟨rfl, rfl, rfl⟩ -;refine aA (aD (o' := 1) dC rfl rfl) rfl ?_;refine bR (bI ts9 rfl rfl cG a7 (.succ .zero) rfl) ?_;rintro _ K _ ⟨rfl, rfl⟩ -;refine aG ?_
    first
     | (refine aO (.cons (.there (.there .here)) (.cons .here (.cons (.there (.there .here)) (.cons (.there (.there .here)) (.cons .here (.cons .here .nil)))))) ?_; exact bX _ ⟨hH (hs xa (List.mem_of_getElem? hxa)), by rw [lE hcc, y7 h35 hxa]⟩ (.cons 0 rfl (.cons 4 rfl (.cons 6 rfl .nil))) rfl bG)
     | (refine aO (.cons .here (.cons .here (.cons (.there .here) (.cons (.there .here) (.cons (.there .here) (.cons .here .nil)))))) ?_; exact bX [] ⟨by simp, by rw [lE hcc, y6 (Classical.not_not.1 h35)]⟩ (.cons 0 rfl (.cons 4 rfl (.cons 6 rfl .nil))) rfl bG)
   ·
    refine a6 ?_
    first
     | (refine aO (.cons (.there (.there .here)) (.cons .here (.cons (.there (.there .here)) (.cons (.there (.there .here)) (.cons .here (.cons .here .nil)))))) ?_; exact bX _ ⟨hH (hs xa (List.mem_of_getElem? hxa)), by rw [lE hcc, y7 h35 hxa]⟩ (.cons 0 rfl (.cons 4 rfl (.cons 6 rfl .nil))) rfl bG)
     | (refine aO (.cons .here (.cons .here (.cons (.there .here) (.cons (.there .here) (.cons (.there .here) (.cons .here .nil)))))) ?_; exact bX [] ⟨by simp, by rw [lE hcc, y6 (Classical.not_not.1 h35)]⟩ (.cons 0 rfl (.cons 4 rfl (.cons 6 rfl .nil))) rfl bG)
  ·
   intro u ⟨hul, hok⟩;refine hO (fun (a : gC) => actI nm o s = actC o s a) (fun _ => [(0, ptr b), (4, ptr b4), (6, ptr b6)]) (fun _ => K) (fun a => [pt b6 (aU [i64 a.1, str a.2] 34), mblk b (str m.from_) (str m.to_) (i64 m.size) hv av (.bool s.keep) (.bool nm) (.map (some mb)) pv sv s.pc, sl true dG av s.acts, sl false fM sv s.stack, pt mb (mapO (gM s.vars f) c), pt b4 (aU [i64 o.op, i64 o.n, i64 o.tag, .bool o.oct, .slice sa sn sc, .slice ta tn tc, i64 o.at_] 41)]) ?_ ?_
   ·
    refine bF (aI ?_);refine aB ?_;refine aA (aD (o' := 0) eV rfl rfl) rfl ?_;refine aA (aK ts3 rfl aM rfl) rfl ?_;refine aA (bT rfl rfl) rfl ?_;refine aA (aC rfl) rfl ?_;refine cA 47 rfl (fun g47 => ?_) (fun g47 => ?_)
    ·
     refine aT rfl rfl ?_;refine aA (aD (o' := 1) dC rfl rfl) rfl ?_;refine aT rfl rfl ?_;refine aA (aK ts9 rfl aM rfl) rfl ?_;refine aT rfl rfl ?_;refine cF rfl rfl (uZ u _ aH) rfl ?_;refine aT rfl rfl ?_;refine aA (by first | exact dM rfl | exact dU rfl) rfl ?_;refine aA (bH rfl rfl) rfl ?_;refine aA (aF rfl) rfl ?_;refine aG (aE ?_);refine eB 43 rfl (fun h43 => ?_) (fun h43 => ?_)
     ·
      have hB : actB o s u = .error (8, o.at_) := (by unfold actB; rw [if_pos ⟨g47, by simpa using h43⟩]);refine aB ?_;refine aA (aC rfl) rfl ?_;refine aA (aD (o' := 6) iA rfl rfl) rfl ?_;refine aA (aK ts3 rfl aM rfl) rfl ?_;refine aW rfl rfl (gY _ 8 o.at_ _) .nil rfl (by rintro _ _ ⟨_, h, _⟩; cases h) ?_ ?_
      ·
       rintro _ _ _ ⟨fb, h, rfl⟩ le1;cases h
       refine aO (.cons .here .nil) ?_;refine aP ?_;refine aJ ?_;refine bA bP ?_;unfold MI;rw [hok, hB];exact ⟨fb, rfl, rfl⟩
      ·
       rintro _ _ _ ⟨_, h, _⟩; cases h
     ·
      refine aI (aB ?_);refine aA (aD (o' := 0) eV rfl rfl) rfl ?_;refine aA (aK ts3 rfl aM rfl) rfl ?_;refine aA (bT rfl rfl) rfl ?_;refine aA (aC rfl) rfl ?_;refine cA 61 rfl (fun g61 => ?_) (fun g61 => ?_)
      ·
       refine aT rfl rfl ?_;refine aA (aD (o' := 1) dC rfl rfl) rfl ?_;refine aT rfl rfl ?_;refine aA (aK ts9 rfl aM rfl) rfl ?_;refine aT rfl rfl ?_;refine cF rfl rfl (hadr u _ hg hul) rfl ?_;refine aT rfl rfl ?_;refine aA (by first | exact dM rfl | exact dU rfl) rfl ?_;refine aA (bH rfl rfl) rfl ?_;refine aA (aF rfl) rfl ?_;refine aG (aE ?_);refine eB 57 rfl (fun h57 => ?_) (fun h57 => ?_)
       ·
        have hB : actB o s u = .error (9, o.at_) := (by unfold actB; rw [if_neg aH, if_pos ⟨g61, by simpa using h57⟩]);refine aB ?_;refine aA (aC rfl) rfl ?_;refine aA (aD (o' := 6) iA rfl rfl) rfl ?_;refine aA (aK ts3 rfl aM rfl) rfl ?_;refine aW rfl rfl (gY _ 9 o.at_ _) .nil rfl (by rintro _ _ ⟨_, h, _⟩; cases h) ?_ ?_
        ·
         rintro _ _ _ ⟨fb, h, rfl⟩ le1;cases h
         refine aO (.cons .here .nil) ?_;refine aP ?_;refine aJ ?_;refine bA bP ?_;unfold MI;rw [hok, hB];exact ⟨fb, rfl, rfl⟩
        ·
         rintro _ _ _ ⟨_, h, _⟩; cases h
       ·
        refine aI (aB ?_);refine aA (aD (o' := 0) eV rfl rfl) rfl ?_;refine aA (aK ts3 rfl aM rfl) rfl ?_;refine aA (bT rfl rfl) rfl ?_;refine aA (aF rfl) rfl ?_;refine aG (aE ?_);refine bE 71 rfl (fun h71 => ?_) (fun h71 => ?_)
        ·
         refine aB ?_;refine aA (aD (o' := 1) dC rfl rfl) rfl ?_;refine aA (aK ts9 rfl aM rfl) rfl ?_;refine aA (aD (o' := 1) dC rfl rfl) rfl ?_;refine aA (aK ts9 rfl aM rfl) rfl ?_;refine aA (cB rfl Tryz.underlying9 rfl) rfl ?_;refine aA (kM rfl rfl) rfl ?_;refine aA (dX (n := min u.length 48) Tryz.underlying9 rfl rfl (by split <;> omega) aH) rfl ?_;refine aA (aD (o' := 1) dC rfl rfl) rfl ?_;refine bR (bI ts9 rfl rfl cG a7 (.succ .zero) rfl) ?_;rintro _ K _ ⟨rfl, rfl⟩ -;refine aG (aN ?_);have hB : actB o s u = actC o s (Mach.actV o u) := (by unfold actB; rw [if_neg (by first | omega | (rintro ⟨_, hq⟩; simp [hq] at h43)), if_neg (by first | omega | (rintro ⟨_, hq⟩; simp [hq] at h57))])
         first
          | (exact bX (o.tag, u.take (min u.length 48)) (by rw [hok, hB]; unfold Mach.actV; rw [if_pos h71, fI]) (.cons 0 rfl (.cons 4 rfl (.cons 6 rfl .nil))) rfl bG)
          | (exact bX (o.tag, u) (by rw [hok, hB]; unfold Mach.actV; rw [if_neg h71]) (.cons 0 rfl (.cons 4 rfl (.cons 6 rfl .nil))) rfl bG)
        ·
         refine a6 ?_;refine aN ?_;have hB : actB o s u = actC o s (Mach.actV o u) := (by unfold actB; rw [if_neg (by first | omega | (rintro ⟨_, hq⟩; simp [hq] at h43)), if_neg (by first | omega | (rintro ⟨_, hq⟩; simp [hq] at h57))])
         first
          | (exact bX (o.tag, u.take (min u.length 48)) (by rw [hok, hB]; unfold Mach.actV; rw [if_pos h71, fI]) (.cons 0 rfl (.cons 4 rfl (.cons 6 rfl .nil))) rfl bG)
          | (exact bX (o.tag, u) (by rw [hok, hB]; unfold Mach.actV; rw [if_neg h71]) (.cons 0 rfl (.cons 4 rfl (.cons 6 rfl .nil))) rfl bG)
      ·
       refine aQ rfl rfl rfl ?_;refine aQ rfl rfl rfl ?_;refine aQ rfl rfl rfl ?_;refine aQ rfl rfl rfl ?_;refine aA (a8 rfl rfl) rfl ?_;refine aA (aF rfl) rfl ?_;refine aG (aE ?_);refine cQ rfl ?_;refine aI (aB ?_);refine aA (aD (o' := 0) eV rfl rfl) rfl ?_;refine aA (aK ts3 rfl aM rfl) rfl ?_;refine aA (bT rfl rfl) rfl ?_;refine aA (aF rfl) rfl ?_;refine aG (aE ?_);refine bE 71 rfl (fun h71 => ?_) (fun h71 => ?_)
       ·
        refine aB ?_;refine aA (aD (o' := 1) dC rfl rfl) rfl ?_;refine aA (aK ts9 rfl aM rfl) rfl ?_;refine aA (aD (o' := 1) dC rfl rfl) rfl ?_;refine aA (aK ts9 rfl aM rfl) rfl ?_;refine aA (cB rfl Tryz.underlying9 rfl) rfl ?_;refine aA (kM rfl rfl) rfl ?_;refine aA (dX (n := min u.length 48) Tryz.underlying9 rfl rfl (by split <;> omega) aH) rfl ?_;refine aA (aD (o' := 1) dC rfl rfl) rfl ?_;refine bR (bI ts9 rfl rfl cG a7 (.succ .zero) rfl) ?_;rintro _ K _ ⟨rfl, rfl⟩ -;refine aG (aN ?_);have hB : actB o s u = actC o s (Mach.actV o u) := (by unfold actB; rw [if_neg (by first | omega | (rintro ⟨_, hq⟩; simp [hq] at h43)), if_neg (by first | omega | (rintro ⟨_, hq⟩; simp [hq] at h57))])
        first
         | (exact bX (o.tag, u.take (min u.length 48)) (by rw [hok, hB]; unfold Mach.actV; rw [if_pos h71, fI]) (.cons 0 rfl (.cons 4 rfl (.cons 6 rfl .nil))) rfl bG)
         | (exact bX (o.tag, u) (by rw [hok, hB]; unfold Mach.actV; rw [if_neg h71]) (.cons 0 rfl (.cons 4 rfl (.cons 6 rfl .nil))) rfl bG)
       ·
        refine a6 ?_;refine aN ?_;have hB : actB o s u = actC o s (Mach.actV o u) := (by unfold actB; rw [if_neg (by first | omega | (rintro ⟨_, hq⟩; simp [hq] at h43)), if_neg (by first | omega | (rintro ⟨_, hq⟩; simp [hq] at h57))])
        first
         | (exact bX (o.tag, u.take (min u.length 48)) (by rw [hok, hB]; unfold Mach.actV; rw [if_pos h71, fI]) (.cons 0 rfl (.cons 4 rfl (.cons 6 rfl .nil))) rfl bG)
         | (exact bX (o.tag, u) (by rw [hok, hB]; unfold Mach.actV; rw [if_neg h71]) (.cons 0 rfl (.cons 4 rfl (.cons 6 rfl .nil))) rfl bG)
    ·
     refine aQ rfl rfl rfl ?_;refine aQ rfl rfl rfl ?_;refine aQ rfl rfl rfl ?_;refine aQ rfl rfl rfl ?_;refine aA (a8 rfl rfl) rfl ?_;refine aA (aF rfl) rfl ?_;refine aG (aE ?_);refine cQ rfl ?_;refine aI (aB ?_);refine aA (aD (o' := 0) eV rfl rfl) rfl ?_;refine aA (aK ts3 rfl aM rfl) rfl ?_;refine aA (bT rfl rfl) rfl ?_;refine aA (aC rfl) rfl ?_;refine cA 61 rfl (fun g61 => ?_) (fun g61 => ?_)
     ·
      refine aT rfl rfl ?_;refine aA (aD (o' := 1) dC rfl rfl) rfl ?_;refine aT rfl rfl ?_;refine aA (aK ts9 rfl aM rfl) rfl ?_;refine aT rfl rfl ?_;refine cF rfl rfl (hadr u _ hg hul) rfl ?_;refine aT rfl rfl ?_;refine aA (by first | exact dM rfl | exact dU rfl) rfl ?_;refine aA (bH rfl rfl) rfl ?_;refine aA (aF rfl) rfl ?_;refine aG (aE ?_);refine eB 57 rfl (fun h57 => ?_) (fun h57 => ?_)
      ·
       have hB : actB o s u = .error (9, o.at_) := (by unfold actB; rw [if_neg aH, if_pos ⟨g61, by simpa using h57⟩]);refine aB ?_;refine aA (aC rfl) rfl ?_;refine aA (aD (o' := 6) iA rfl rfl) rfl ?_;refine aA (aK ts3 rfl aM rfl) rfl ?_;refine aW rfl rfl (gY _ 9 o.at_ _) .nil rfl (by rintro _ _ ⟨_, h, _⟩; cases h) ?_ ?_
       ·
        rintro _ _ _ ⟨fb, h, rfl⟩ le1;cases h
        refine aO (.cons .here .nil) ?_;refine aP ?_;refine aJ ?_;refine bA bP ?_;unfold MI;rw [hok, hB];exact ⟨fb, rfl, rfl⟩
       ·
        rintro _ _ _ ⟨_, h, _⟩; cases h
      ·
       refine aI (aB ?_);refine aA (aD (o' := 0) eV rfl rfl) rfl ?_;refine aA (aK ts3 rfl aM rfl) rfl ?_;refine aA (bT rfl rfl) rfl ?_;refine aA (aF rfl) rfl ?_;refine aG (aE ?_);refine bE 71 rfl (fun h71 => ?_) (fun h71 => ?_)
       ·
        refine aB ?_;refine aA (aD (o' := 1) dC rfl rfl) rfl ?_;refine aA (aK ts9 rfl aM rfl) rfl ?_;refine aA (aD (o' := 1) dC rfl rfl) rfl ?_;refine aA (aK ts9 rfl aM rfl) rfl ?_;refine aA (cB rfl Tryz.underlying9 rfl) rfl ?_;refine aA (kM rfl rfl) rfl ?_;refine aA (dX (n := min u.length 48) Tryz.underlying9 rfl rfl (by split <;> omega) aH) rfl ?_;refine aA (aD (o' := 1) dC rfl rfl) rfl ?_;refine bR (bI ts9 rfl rfl cG a7 (.succ .zero) rfl) ?_;rintro _ K _ ⟨rfl, rfl⟩ -;refine aG (aN ?_);have hB : actB o s u = actC o s (Mach.actV o u) := (by unfold actB; rw [if_neg (by first | omega | (rintro ⟨_, hq⟩; simp [hq] at h43)), if_neg (by first | omega | (rintro ⟨_, hq⟩; simp [hq] at h57))])
        first
         | (exact bX (o.tag, u.take (min u.length 48)) (by rw [hok, hB]; unfold Mach.actV; rw [if_pos h71, fI]) (.cons 0 rfl (.cons 4 rfl (.cons 6 rfl .nil))) rfl bG)
         | (exact bX (o.tag, u) (by rw [hok, hB]; unfold Mach.actV; rw [if_neg h71]) (.cons 0 rfl (.cons 4 rfl (.cons 6 rfl .nil))) rfl bG)
       ·
        refine a6 ?_;refine aN ?_;have hB : actB o s u = actC o s (Mach.actV o u) := (by unfold actB; rw [if_neg (by first | omega | (rintro ⟨_, hq⟩; simp [hq] at h43)), if_neg (by first | omega | (rintro ⟨_, hq⟩; simp [hq] at h57))])
        first
         | (exact bX (o.tag, u.take (min u.length 48)) (by rw [hok, hB]; unfold Mach.actV; rw [if_pos h71, fI]) (.cons 0 rfl (.cons 4 rfl (.cons 6 rfl .nil))) rfl bG)
         | (exact bX (o.tag, u) (by rw [hok, hB]; unfold Mach.actV; rw [if_neg h71]) (.cons 0 rfl (.cons 4 rfl (.cons 6 rfl .nil))) rfl bG)
     ·
      refine aQ rfl rfl rfl ?_;refine aQ rfl rfl rfl ?_;refine aQ rfl rfl rfl ?_;refine aQ rfl rfl rfl ?_;refine aA (a8 rfl rfl) rfl ?_;refine aA (aF rfl) rfl ?_;refine aG (aE ?_);refine cQ rfl ?_;refine aI (aB ?_);refine aA (aD (o' := 0) eV rfl rfl) rfl ?_;refine aA (aK ts3 rfl aM rfl) rfl ?_;refine aA (bT rfl rfl) rfl ?_;refine aA (aF rfl) rfl ?_;refine aG (aE ?_);refine bE 71 rfl (fun h71 => ?_) (fun h71 => ?_)
      ·
       refine aB ?_;refine aA (aD (o' := 1) dC rfl rfl) rfl ?_;refine aA (aK ts9 rfl aM rfl) rfl ?_;refine aA (aD (o' := 1) dC rfl rfl) rfl ?_;refine aA (aK ts9 rfl aM rfl) rfl ?_;refine aA (cB rfl Tryz.underlying9 rfl) rfl ?_;refine aA (kM rfl rfl) rfl ?_;refine aA (dX (n := min u.length 48) Tryz.underlying9 rfl rfl (by split <;> omega) aH) rfl ?_;refine aA (aD (o' := 1) dC rfl rfl) rfl ?_;refine bR (bI ts9 rfl rfl cG a7 (.succ .zero) rfl) ?_;rintro _ K _ ⟨rfl, rfl⟩ -;refine aG (aN ?_);have hB : actB o s u = actC o s (Mach.actV o u) := (by unfold actB; rw [if_neg (by first | omega | (rintro ⟨_, hq⟩; simp [hq] at h43)), if_neg (by first | omega | (rintro ⟨_, hq⟩; simp [hq] at h57))])
       first
        | (exact bX (o.tag, u.take (min u.length 48)) (by rw [hok, hB]; unfold Mach.actV; rw [if_pos h71, fI]) (.cons 0 rfl (.cons 4 rfl (.cons 6 rfl .nil))) rfl bG)
        | (exact bX (o.tag, u) (by rw [hok, hB]; unfold Mach.actV; rw [if_neg h71]) (.cons 0 rfl (.cons 4 rfl (.cons 6 rfl .nil))) rfl bG)
      ·
       refine a6 ?_;refine aN ?_;have hB : actB o s u = actC o s (Mach.actV o u) := (by unfold actB; rw [if_neg (by first | omega | (rintro ⟨_, hq⟩; simp [hq] at h43)), if_neg (by first | omega | (rintro ⟨_, hq⟩; simp [hq] at h57))])
       first
        | (exact bX (o.tag, u.take (min u.length 48)) (by rw [hok, hB]; unfold Mach.actV; rw [if_pos h71, fI]) (.cons 0 rfl (.cons 4 rfl (.cons 6 rfl .nil))) rfl bG)
        | (exact bX (o.tag, u) (by rw [hok, hB]; unfold Mach.actV; rw [if_neg h71]) (.cons 0 rfl (.cons 4 rfl (.cons 6 rfl .nil))) rfl bG)
   ·
    intro a hok;refine aI (aB ?_);refine aA (aC rfl) rfl ?_;refine aA bS rfl ?_;refine aA (aD (o' := 0) cV rfl rfl) rfl ?_;refine aA (aD (o' := 5) nU rfl rfl) rfl ?_;refine bR (bI ts4 rfl rfl cG a7 (.succ (.succ (.succ (.succ (.succ .zero))))) rfl) ?_;rintro _ K _ ⟨rfl, rfl⟩ -;refine aG (aE ?_);refine aI (aI ?_);refine t_draw (anc := [0, 1, 3, 7, 15, 0, 63]) (ord := [0, 1, 2, 3, 4, 5, 6]) [6] [6] mixed (by decide +kernel) (cS _) ?_;refine dl_ev rfl rfl (.none rfl) rfl rfl (aC rfl) rfl ?_;refine dl_ev rfl rfl (.none rfl) rfl rfl bS rfl ?_;refine dl_ev rfl rfl (.none rfl) rfl rfl (aD (o' := 0) cV rfl rfl) rfl ?_;refine dl_ev rfl rfl (.none rfl) rfl rfl (aD (o' := 4) eD rfl rfl) rfl ?_;refine dl_ev rfl rfl (.none rfl) rfl rfl (aK ts29 rfl aM rfl) rfl ?_;refine dl_ev rfl rfl (.none rfl) rfl rfl (bW jS rfl aM rfl rfl) rfl ?_;refine j4 rfl (.none rfl) rfl rfl rfl (oQ av s.acts a _ aH) (.cons (.there (.there .here)) .nil) rfl ?_;rintro _ K _ ⟨rfl, rfl, rfl⟩ -;refine dl_nil ?_;refine aE ?_;refine bE 93 rfl (fun h93 => ?_) (fun h93 => ?_)
    ·
     refine bM ?_;refine bC ?_
     first
      | (refine aO (.cons (.there (.there .here)) (.cons .here (.cons (.there .here) (.cons (.there .here) .nil)))) ?_; refine dV (dK (m := m) (hv := hv) (pv := pv) (nm := nm) (s := { s with keep := false })) ?_)
      | (refine aO (.cons (.there .here) (.cons (.there .here) (.cons (.there (.there .here)) (.cons (.there (.there .here)) .nil)))) ?_; refine dV (dK (m := m) (hv := hv) (pv := pv) (nm := nm) (s := { s with keep := false, acts := s.acts ++ [a] })) ?_)
     refine qY rfl (Hl.le_refl _) ?_;unfold MI;rw [hok];unfold actC
     first
      | (rw [if_pos h93]; exact ⟨_, rfl, rfl, pv, hpv, rfl⟩)
      | (rw [if_neg h93, if_neg hnc, if_neg aH]; exact ⟨_, rfl, rfl, pv, hpv, rfl⟩)
    ·
     refine a6 ?_;refine aE (aI ?_);refine aI (aB ?_);refine aA (aC rfl) rfl ?_;refine aA bS rfl ?_;refine aA (aD (o' := 0) cV rfl rfl) rfl ?_;refine aA (aD (o' := 4) eD rfl rfl) rfl ?_;refine aA (aK ts29 rfl aM rfl) rfl ?_;refine aA (cE (k := dG) rfl Tryz.underlying29 rfl aM) rfl ?_;refine aA (aC rfl) rfl ?_;refine aG (aE ?_);refine bF ?_;refine eK (fun (i : Nat) => i ≤ s.acts.length ∧ ∀ (j : Nat) (x : gC), j < i → s.acts[j]? = some x → ¬ (a.1 = 4 ∨ x.1 = 4)) (fun i => [(0, ptr b), (4, ptr b4), (6, ptr b6), (98, av), (99, i64 s.acts.length), (100, i64 i)]) (fun _ => K) (fun i => [sl true dG av s.acts, pt b6 (aU [i64 a.1, str a.2] 34), mblk b (str m.from_) (str m.to_) (i64 m.size) hv av (.bool false) (.bool nm) (.map (some mb)) pv sv s.pc, sl false fM sv s.stack, pt mb (mapO (gM s.vars f) c), pt b4 (aU [i64 o.op, i64 o.n, i64 o.tag, .bool o.oct, .slice sa sn sc, .slice ta tn tc, i64 o.at_] 41)]) (fun i => s.acts.length - i) 0 ⟨Nat.zero_le _, fun j x h _ => by omega⟩ (.cons 0 rfl (.cons 4 rfl (.cons 6 rfl (.cons 98 rfl (.cons 99 rfl (.cons 100 rfl .nil)))))) rfl (fun _ h => h) ?_;intro i ⟨hi0, hi1⟩;refine aI (aB ?_);refine aA (dA rfl rfl) rfl ?_;refine aG (aE ?_);refine aI ?_;refine bE 101 rfl (fun h101 => ?_) (fun h101 => ?_)
     ·
      have hilt : i < s.acts.length := by omega
      obtain ⟨x, hx⟩ : ∃ x, s.acts[i]? = some x := ⟨s.acts[i]'hilt, List.getElem?_eq_getElem hilt⟩;refine a6 ?_;refine aE (aI ?_);refine bF (aI ?_);refine aB ?_;refine aA (b0 (k := dG) fZ rfl aM rfl rfl (by first | assumption | omega)) rfl ?_;refine aA (fR (n := 0) (k := dG) jS rfl aM bP) rfl ?_;refine ol_s (cO tz34) rfl ?_;rintro _ K _ ⟨b8, rfl, rfl, rfl⟩ -;refine bR (cH jS rfl rfl rfl a7 (by first | (simp [Value.oneCell']; done) | exact fun c hc => El.one _ _ c hc) (.cons (.cons .nil)) (by intro j hj; simp)) ?_;rintro _ K _ ⟨rfl, rfl⟩ -;refine aG (aE ?_);refine aI (aB ?_);refine aA (aD (o' := 0) eV rfl rfl) rfl ?_;refine aA (aK ts3 rfl aM rfl) rfl ?_;refine aA (bT rfl rfl) rfl ?_;refine aA (aC rfl) rfl ?_;refine cA 107 rfl (fun g107 => ?_) (fun g107 => ?_)
      ·
       refine aQ rfl rfl rfl ?_;refine aQ rfl rfl rfl ?_;refine aQ rfl rfl rfl ?_;refine aA (bH rfl rfl) rfl ?_;refine aG (aE ?_);refine eS rfl ?_;refine aB ?_;refine aA (aC rfl) rfl ?_;refine aA (aD (o' := 6) iA rfl rfl) rfl ?_;refine aA (aK ts3 rfl aM rfl) rfl ?_;refine aW rfl rfl (gY _ 10 o.at_ _) .nil rfl (by rintro _ _ ⟨_, h, _⟩; cases h) ?_ ?_
       ·
        rintro _ _ _ ⟨fb, h, rfl⟩ le1;cases h
        refine aO (.cons .here .nil) ?_;refine aP ?_;refine aJ ?_;refine aJ ?_;refine aP ?_;refine aJ ?_;refine bA bP ?_;have hco : ∃ b ∈ s.acts, a.1 = 4 ∨ b.1 = 4 := ⟨x, List.mem_of_getElem? hx, by omega⟩;unfold MI;rw [hok]; unfold actC; rw [if_neg h93, if_pos hco]
        exact ⟨fb, rfl, rfl⟩
       ·
        rintro _ _ _ ⟨_, h, _⟩; cases h
      ·
       refine aT rfl rfl ?_;refine aA (aD (o' := 0) eV rfl rfl) rfl ?_;refine aT rfl rfl ?_;refine aA (aK ts3 rfl aM rfl) rfl ?_;refine aT rfl rfl ?_;refine aA (bT rfl rfl) rfl ?_;refine aA (a8 rfl rfl) rfl ?_;refine aG (aE ?_);refine bE 111 rfl (fun h111 => ?_) (fun h111 => ?_)
       ·
        refine aB ?_;refine aA (aC rfl) rfl ?_;refine aA (aD (o' := 6) iA rfl rfl) rfl ?_;refine aA (aK ts3 rfl aM rfl) rfl ?_;refine aW rfl rfl (gY _ 10 o.at_ _) .nil rfl (by rintro _ _ ⟨_, h, _⟩; cases h) ?_ ?_
        ·
         rintro _ _ _ ⟨fb, h, rfl⟩ le1;cases h
         refine aO (.cons .here .nil) ?_;refine aP ?_;refine aJ ?_;refine aJ ?_;refine aP ?_;refine aJ ?_;refine bA bP ?_;have hco : ∃ b ∈ s.acts, a.1 = 4 ∨ b.1 = 4 := ⟨x, List.mem_of_getElem? hx, by omega⟩;unfold MI;rw [hok]; unfold actC; rw [if_neg h93, if_pos hco]
         exact ⟨fb, rfl, rfl⟩
        ·
         rintro _ _ _ ⟨_, h, _⟩; cases h
       ·
        refine a6 ?_;refine aN (aE ?_);refine aB ?_;refine aA (bZ rfl rfl aH aH) rfl ?_;refine aA (aC rfl) rfl ?_;refine aG ?_;refine aO (.cons (.there .here) (.cons (.there .here) (.cons (.there .here) (.cons (.there .here) (.cons (.there .here) (.cons (.there .here) .nil)))))) ?_;refine cL (i + 1) ⟨by omega, fun j y hj hy => ?_⟩ aH (.cons 0 rfl (.cons 4 rfl (.cons 6 rfl (.cons 98 rfl (.cons 99 rfl (.cons 100 rfl .nil)))))) rfl bG
        rcases Nat.lt_or_ge j i with h | h
        ·exact hi1 j y h hy
        ·have e : j = i := by omega
         subst e; rw [hx] at hy; cases hy; intro hh; omega
     ·
      have hnc : ¬ ∃ b ∈ s.acts, a.1 = 4 ∨ b.1 = 4 := (by rintro ⟨x, hx, hh⟩; obtain ⟨j, hj⟩ := List.getElem?_of_mem hx; exact hi1 j x (by rcases Nat.lt_or_ge j s.acts.length with h | h; omega; (rw [List.getElem?_eq_none h] at hj; cases hj)) hj hh);refine cY ?_;refine aV ?_;refine aV ?_;refine bL ?_;refine aE (aI ?_);refine aI (aB ?_);refine aA (aC rfl) rfl ?_;refine aA bS rfl ?_;refine aA (aD (o' := 0) cV rfl rfl) rfl ?_;refine aA (aD (o' := 4) eD rfl rfl) rfl ?_;refine aA (aK ts29 rfl aM rfl) rfl ?_;refine aA (cE (k := dG) rfl Tryz.underlying29 rfl aM) rfl ?_;refine aA (bT rfl rfl) rfl ?_;refine aG (aE ?_);refine bE 123 rfl (fun h123 => ?_) (fun h123 => ?_)
      ·
       refine aB ?_;refine aA (aC rfl) rfl ?_;refine aA (aD (o' := 6) iA rfl rfl) rfl ?_;refine aA (aK ts3 rfl aM rfl) rfl ?_;refine aW rfl rfl (gY _ 11 o.at_ _) .nil rfl (by rintro _ _ ⟨_, h, _⟩; cases h) ?_ ?_
       ·
        rintro _ _ _ ⟨fb, h, rfl⟩ le1;cases h
        refine aO (.cons .here .nil) ?_;refine aJ ?_;refine bA bP ?_;unfold MI;rw [hok]; unfold actC; rw [if_neg h93, if_neg hnc, if_pos aH]
        exact ⟨fb, rfl, rfl⟩
       ·
        rintro _ _ _ ⟨_, h, _⟩; cases h
      ·
       refine a6 ?_;refine aE ?_;refine t_draw (anc := [0, 0, 2, 6, 14, 30, 0, 64, 254, 511, 1023, 2047, 4095]) (ord := [0, 1, 2, 3, 4, 5, 6, 7, 8, 9, 10, 11, 12]) [7, 8, 12] [12] mixed (by decide +kernel) (.cons (.there .here) (.cons (.there .here) .nil)) ?_;refine dl_ev rfl rfl (.none rfl) rfl rfl (aC rfl) rfl ?_;refine dl_ev rfl rfl (.none rfl) rfl rfl (aC rfl) rfl ?_;refine dl_ev rfl rfl (.none rfl) rfl rfl bS rfl ?_;refine dl_ev rfl rfl (.none rfl) rfl rfl (aD (o' := 0) cV rfl rfl) rfl ?_;refine dl_ev rfl rfl (.none rfl) rfl rfl (aD (o' := 4) eD rfl rfl) rfl ?_;refine dl_ev rfl rfl (.none rfl) rfl rfl (aK ts29 rfl aM rfl) rfl ?_;refine dl_ev rfl rfl (.none rfl) rfl rfl (bW jS rfl aM rfl rfl) rfl ?_;refine dl_s rfl rfl (.none rfl) rfl rfl (bO (z0 := [.int .i64 0, (str [])]) fZ tz34 rfl rfl rfl rfl (.cons rfl rfl rfl (.cons (.cons .nil)) .nil)) rfl ?_;rintro _ K _ ⟨b135, rfl, rfl, rfl⟩ -;refine ⟨_, (show Tks _ _ _ from (.cons (.there .here) (.cons (.there .here) .nil))).sat, ?_⟩
       refine dl_s rfl rfl (.none rfl) rfl rfl (dQ (k := dG) (ys := [a]) lY rfl rfl (.there (.there (.there .here))) (fun w j => dN Tryz.underlying29 (SeesSl.at (k := dG) (.blk (.own (.there (.there .here))) rfl rfl) j)) (by simp; omega) (by first | (simp; omega) | omega)) rfl ?_;rintro v136 K _ ⟨rfl, rfl, ho136⟩ -;refine ⟨_, (show Tks _ _ _ from (.cons (.there .here) (.cons (.there .here) .nil))).sat, ?_⟩
       refine dl_ev rfl rfl (.none rfl) rfl rfl bS rfl ?_;refine dl_ev rfl rfl (.none rfl) rfl rfl (aD (o' := 0) cV rfl rfl) rfl ?_;refine dl_ev rfl rfl (.none rfl) rfl rfl (aD (o' := 4) eD rfl rfl) rfl ?_;refine r6 rfl rfl (.none rfl) rfl (bI ts29 rfl rfl cG a7 (.succ (.succ (.succ (.succ .zero)))) rfl) ?_;rintro _ K _ ⟨rfl, rfl⟩ -;refine dl_nil ?_
       first
        | (refine aO (.cons (.there (.there .here)) (.cons .here (.cons (.there .here) (.cons (.there .here) .nil)))) ?_; refine dV (dK (m := m) (hv := hv) (pv := pv) (nm := nm) (s := { s with keep := false })) ?_)
        | (refine aO (.cons (.there .here) (.cons (.there .here) (.cons (.there (.there .here)) (.cons (.there (.there .here)) .nil)))) ?_; refine dV (dK (m := m) (hv := hv) (pv := pv) (nm := nm) (s := { s with keep := false, acts := s.acts ++ [a] })) ?_)
       refine dE rfl (Hl.le_refl _) ?_;unfold MI;rw [hok];unfold actC
       first
        | (rw [if_pos h93]; exact ⟨_, rfl, rfl, pv, hpv, rfl⟩)
        | (rw [if_neg h93, if_neg hnc, if_neg aH]; exact ⟨_, rfl, rfl, pv, hpv, rfl⟩)
 ·
  refine aT rfl rfl ?_;refine aA (aD (o' := 2) eF rfl rfl) rfl ?_;refine aT rfl rfl ?_;refine aA (aK ts3 rfl aM rfl) rfl ?_;refine aT rfl rfl ?_;refine aA (gU rfl rfl) rfl ?_;refine aT rfl rfl ?_;refine aA (aC rfl) rfl ?_;refine cA 17 rfl (fun g17 => ?_) (fun g17 => ?_)
  ·
   refine aT rfl rfl ?_;refine aA (aD (o' := 2) eF rfl rfl) rfl ?_;refine aT rfl rfl ?_;refine aA (aK ts3 rfl aM rfl) rfl ?_;refine aT rfl rfl ?_;refine aA (j7 rfl rfl) rfl ?_;refine aT rfl rfl ?_;refine aA (bH rfl rfl) rfl ?_;refine aT rfl rfl ?_;refine aA (aC rfl) rfl ?_;refine cA 22 rfl (fun g22 => ?_) (fun g22 => ?_)
   ·
    refine aT rfl rfl ?_;refine aA (aD (o' := 4) jN rfl rfl) rfl ?_;refine aT rfl rfl ?_;refine aA (aK ts39 rfl aM rfl) rfl ?_;refine aT rfl rfl ?_;refine aA (cE (k := (bK 9)) rfl Tryz.underlying39 rfl aM) rfl ?_;refine aT rfl rfl ?_;refine aA (jG rfl rfl) rfl ?_;refine aT rfl rfl ?_;refine aA (bH rfl rfl) rfl ?_;refine aA (a8 rfl rfl) rfl ?_;refine aW rfl rfl (mN (0 < (o.a.length : Int)) _ _ _ _ _ _ _ _ _ _ _ _ _) (.cons (.there .here) .nil) rfl (fun _ _ => aX _ _) ?_ ?_
    ·
     rintro _ _ _ hTr le1;obtain ⟨e, p, hu, fb, h, rfl⟩ := aY hTr;cases h
     refine aO (.cons .here .nil) ?_;refine aJ ?_;refine bA bP ?_;have hbl : ¬ (0 < (o.a.length : Int)) := (by intro h; rw [if_pos h] at hu; cases hu);rw [if_neg hbl] at hu;cases hu
     have hno := uU (nm := nm) (s := s) (o := o) aH;unfold MI;rw [hno];exact ⟨fb, rfl, rfl⟩
    rintro _ K _ hTr -;obtain ⟨u0, hu, rfl, rfl, rfl⟩ := aZ hTr;clear hTr;have hbl : 0 < (o.a.length : Int) := Classical.byContradiction (fun h => by rw [if_neg h] at hu; cases hu);have hcc : o.tag = 1 ∨ (2 ≤ o.tag ∧ o.tag ≤ 4 ∧ 0 < o.a.length) := .inr ⟨by omega, by omega, by omega⟩;refine aG (aE ?_);refine aI (aB ?_);refine aA (aD (o' := 2) eF rfl rfl) rfl ?_;refine aA (aK ts3 rfl aM rfl) rfl ?_;refine aA (cK tb34 wQ (.cons rfl rfl rfl (.cons .nil) .nil)) rfl ?_;refine ol_s (cO tz34) rfl ?_;rintro _ K _ ⟨b6, rfl, rfl, rfl⟩ -;refine bR (cH jS rfl rfl rfl a7 (by first | (simp [Value.oneCell']; done) | exact fun c hc => El.one _ _ c hc) (.cons (.cons .nil)) (by intro j hj; simp)) ?_;rintro _ K _ ⟨rfl, rfl⟩ -;refine aG (aE ?_);refine hO (fun (u : List UInt8) => u.length ≤ 100000 ∧ actI nm o s = actB o s u) (fun u => [(0, ptr b), (4, ptr b4), (6, ptr b6)]) (fun _ => K) (fun u => [pt b6 (aU [i64 o.tag, str u] 34), mblk b (str m.from_) (str m.to_) (i64 m.size) hv av (.bool s.keep) (.bool nm) (.map (some mb)) pv sv s.pc, sl true dG av s.acts, sl false fM sv s.stack, pt mb (mapO (gM s.vars f) c), pt b4 (aU [i64 o.op, i64 o.n, i64 o.tag, .bool o.oct, .slice sa sn sc, .slice ta tn tc, i64 o.at_] 41)]) ?_ ?_
    ·
     refine aI (aB ?_);refine aA (aD (o' := 2) eF rfl rfl) rfl ?_;refine aA (aK ts3 rfl aM rfl) rfl ?_;refine aA (fO rfl rfl) rfl ?_;refine aG (aE ?_);refine bE 35 rfl (fun h35 => ?_) (fun h35 => ?_)
     ·
      obtain ⟨xa, hxa⟩ : ∃ x, o.a[0]? = some x := ⟨o.a[0]'(by omega), List.getElem?_eq_getElem aH⟩;refine aB ?_;refine aA (aC rfl) rfl ?_;refine aA (aD (o' := 4) jN rfl rfl) rfl ?_;refine aA (aK ts39 rfl aM rfl) rfl ?_;refine aA (b0 (k := bK 9) (j := 0) cT rfl (.known ha) rfl rfl aH) rfl ?_;refine aA (dO (o := 0) (k := (bK 9)) ts9 rfl aM bP rfl) rfl ?_;refine bD rfl rfl (m5 b mb _ _ _ _ _ _ pv _ _ nm s.vars f c s.parts xa _ hg hpv (hs xa (List.mem_of_getElem? hxa)) hsm) (.cons (.there .here) (.cons (.there (.there (.there (.there .here)))) .nil)) rfl ?_;rintro _ K _ ⟨rfl, rfl, rfl⟩ -;refine aA (aD (o' := 1) dC rfl rfl) rfl ?_;refine bR (bI ts9 rfl rfl cG a7 (.succ .zero) rfl) ?_;rintro _ K _ ⟨rfl, rfl⟩ -;refine aG ?_
      first
       | (refine aO (.cons (.there (.there .here)) (.cons .here (.cons (.there (.there .here)) (.cons (.there (.there .here)) (.cons .here (.cons .here .nil)))))) ?_; exact bX _ ⟨hH (hs xa (List.mem_of_getElem? hxa)), by rw [lE hcc, y7 h35 hxa]⟩ (.cons 0 rfl (.cons 4 rfl (.cons 6 rfl .nil))) rfl bG)
       | (refine aO (.cons .here (.cons .here (.cons (.there .here) (.cons (.there .here) (.cons (.there .here) (.cons .here .nil)))))) ?_; exact bX [] ⟨by simp, by rw [lE hcc, y6 (Classical.not_not.1 h35)]⟩ (.cons 0 rfl (.cons 4 rfl (.cons 6 rfl .nil))) rfl bG)
     ·
      refine a6 ?_
      first
       | (refine aO (.cons (.there (.there .here)) (.cons .here (.cons (.there (.there .here)) (.cons (.there (.there .here)) (.cons .here (.cons .here .nil)))))) ?_; exact bX _ ⟨hH (hs xa (List.mem_of_getElem? hxa)), by rw [lE hcc, y7 h35 hxa]⟩ (.cons 0 rfl (.cons 4 rfl (.cons 6 rfl .nil))) rfl bG)
       | (refine aO (.cons .here (.cons .here (.cons (.there .here) (.cons (.there .here) (.cons (.there .here) (.cons .here .nil)))))) ?_; exact bX [] ⟨by simp, by rw [lE hcc, y6 (Classical.not_not.1 h35)]⟩ (.cons 0 rfl (.cons 4 rfl (.cons 6 rfl .nil))) rfl bG)
    ·
     intro u ⟨hul, hok⟩;refine hO (fun (a : gC) => actI nm o s = actC o s a) (fun _ => [(0, ptr b), (4, ptr b4), (6, ptr b6)]) (fun _ => K) (fun a => [pt b6 (aU [i64 a.1, str a.2] 34), mblk b (str m.from_) (str m.to_) (i64 m.size) hv av (.bool s.keep) (.bool nm) (.map (some mb)) pv sv s.pc, sl true dG av s.acts, sl false fM sv s.stack, pt mb (mapO (gM s.vars f) c), pt b4 (aU [i64 o.op, i64 o.n, i64 o.tag, .bool o.oct, .slice sa sn sc, .slice ta tn tc, i64 o.at_] 41)]) ?_ ?_
     ·
      refine bF (aI ?_);refine aB ?_;refine aA (aD (o' := 0) eV rfl rfl) rfl ?_;refine aA (aK ts3 rfl aM rfl) rfl ?_;refine aA (bT rfl rfl) rfl ?_;refine aA (aC rfl) rfl ?_;refine cA 47 rfl (fun g47 => ?_) (fun g47 => ?_)
      ·
       refine aT rfl rfl ?_;refine aA (aD (o' := 1) dC rfl rfl) rfl ?_;refine aT rfl rfl ?_;refine aA (aK ts9 rfl aM rfl) rfl ?_;refine aT rfl rfl ?_;refine cF rfl rfl (uZ u _ aH) rfl ?_;refine aT rfl rfl ?_;refine aA (by first | exact dM rfl | exact dU rfl) rfl ?_;refine aA (bH rfl rfl) rfl ?_;refine aA (aF rfl) rfl ?_;refine aG (aE ?_);refine eB 43 rfl (fun h43 => ?_) (fun h43 => ?_)
       ·
        have hB : actB o s u = .error (8, o.at_) := (by unfold actB; rw [if_pos ⟨g47, by simpa using h43⟩]);refine aB ?_;refine aA (aC rfl) rfl ?_;refine aA (aD (o' := 6) iA rfl rfl) rfl ?_;refine aA (aK ts3 rfl aM rfl) rfl ?_;refine aW rfl rfl (gY _ 8 o.at_ _) .nil rfl (by rintro _ _ ⟨_, h, _⟩; cases h) ?_ ?_
        ·
         rintro _ _ _ ⟨fb, h, rfl⟩ le1;cases h
         refine aO (.cons .here .nil) ?_;refine aP ?_;refine aJ ?_;refine bA bP ?_;unfold MI;rw [hok, hB];exact ⟨fb, rfl, rfl⟩
        ·
         rintro _ _ _ ⟨_, h, _⟩; cases h
       ·
        refine aI (aB ?_);refine aA (aD (o' := 0) eV rfl rfl) rfl ?_;refine aA (aK ts3 rfl aM rfl) rfl ?_;refine aA (bT rfl rfl) rfl ?_;refine aA (aC rfl) rfl ?_;refine cA 61 rfl (fun g61 => ?_) (fun g61 => ?_)
        ·
         refine aT rfl rfl ?_;refine aA (aD (o' := 1) dC rfl rfl) rfl ?_;refine aT rfl rfl ?_;refine aA (aK ts9 rfl aM rfl) rfl ?_;refine aT rfl rfl ?_;refine cF rfl rfl (hadr u _ hg hul) rfl ?_;refine aT rfl rfl ?_;refine aA (by first | exact dM rfl | exact dU rfl) rfl ?_;refine aA (bH rfl rfl) rfl ?_;refine aA (aF rfl) rfl ?_;refine aG (aE ?_);refine eB 57 rfl (fun h57 => ?_) (fun h57 => ?_)
         ·
          have hB : actB o s u = .error (9, o.at_) := (by unfold actB; rw [if_neg aH, if_pos ⟨g61, by simpa using h57⟩]);refine aB ?_;refine aA (aC rfl) rfl ?_;refine aA (aD (o' := 6) iA rfl rfl) rfl ?_;refine aA (aK ts3 rfl aM rfl) rfl ?_;refine aW rfl rfl (gY _ 9 o.at_ _) .nil rfl (by rintro _ _ ⟨_, h, _⟩; cases h) ?_ ?_
          ·
           rintro _ _ _ ⟨fb, h, rfl⟩ le1;cases h
           refine aO (.cons .here .nil) ?_;refine aP ?_;refine aJ ?_;refine bA bP ?_;unfold MI;rw [hok, hB];exact ⟨fb, rfl, rfl⟩
          ·
           rintro _ _ _ ⟨_, h, _⟩; cases h
         ·
          refine aI (aB ?_);refine aA (aD (o' := 0) eV rfl rfl) rfl ?_;refine aA (aK ts3 rfl aM rfl) rfl ?_;refine aA (bT rfl rfl) rfl ?_;refine aA (aF rfl) rfl ?_;refine aG (aE ?_);refine bE 71 rfl (fun h71 => ?_) (fun h71 => ?_)
          ·
           refine aB ?_;refine aA (aD (o' := 1) dC rfl rfl) rfl ?_;refine aA (aK ts9 rfl aM rfl) rfl ?_;refine aA (aD (o' := 1) dC rfl rfl) rfl ?_;refine aA (aK ts9 rfl aM rfl) rfl ?_;refine aA (cB rfl Tryz.underlying9 rfl) rfl ?_;refine aA (kM rfl rfl) rfl ?_;refine aA (dX (n := min u.length 48) Tryz.underlying9 rfl rfl (by split <;> omega) aH) rfl ?_;refine aA (aD (o' := 1) dC rfl rfl) rfl ?_;refine bR (bI ts9 rfl rfl cG a7 (.succ .zero) rfl) ?_;rintro _ K _ ⟨rfl, rfl⟩ -;refine aG (aN ?_);have hB : actB o s u = actC o s (Mach.actV o u) := (by unfold actB; rw [if_neg (by first | omega | (rintro ⟨_, hq⟩; simp [hq] at h43)), if_neg (by first | omega | (rintro ⟨_, hq⟩; simp [hq] at h57))])
           first
            | (exact bX (o.tag, u.take (min u.length 48)) (by rw [hok, hB]; unfold Mach.actV; rw [if_pos h71, fI]) (.cons 0 rfl (.cons 4 rfl (.cons 6 rfl .nil))) rfl bG)
            | (exact bX (o.tag, u) (by rw [hok, hB]; unfold Mach.actV; rw [if_neg h71]) (.cons 0 rfl (.cons 4 rfl (.cons 6 rfl .nil))) rfl bG)
          ·
           refine a6 ?_;refine aN ?_;have hB : actB o s u = actC o s (Mach.actV o u) := (by unfold actB; rw [if_neg (by first | omega | (rintro ⟨_, hq⟩; simp [hq] at h43)), if_neg (by first | omega | (rintro ⟨_, hq⟩; simp [hq] at h57))])
           first
            | (exact bX (o.tag, u.take (min u.length 48)) (by rw [hok, hB]; unfold Mach.actV; rw [if_pos h71, fI]) (.cons 0 rfl (.cons 4 rfl (.cons 6 rfl .nil))) rfl bG)
            | (exact bX (o.tag, u) (by rw [hok, hB]; unfold Mach.actV; rw [if_neg h71]) (.cons 0 rfl (.cons 4 rfl (.cons 6 rfl .nil))) rfl bG)
        ·
         refine aQ rfl rfl rfl ?_;refine aQ rfl rfl rfl ?_;refine aQ rfl rfl rfl ?_;refine aQ rfl rfl rfl ?_;refine aA (a8 rfl rfl) rfl ?_;refine aA (aF rfl) rfl ?_;refine aG (aE ?_);refine cQ rfl ?_;refine aI (aB ?_);refine aA (aD (o' := 0) eV rfl rfl) rfl ?_;refine aA (aK ts3 rfl aM rfl) rfl ?_;refine aA (bT rfl rfl) rfl ?_;refine aA (aF rfl) rfl ?_;refine aG (aE ?_);refine bE 71 rfl (fun h71 => ?_) (fun h71 => ?_)
         ·
          refine aB ?_;refine aA (aD (o' := 1) dC rfl rfl) rfl ?_;refine aA (aK ts9 rfl aM rfl) rfl ?_;refine aA (aD (o' := 1) dC rfl rfl) rfl ?_;refine aA (aK ts9 rfl aM rfl) rfl ?_;refine aA (cB rfl Tryz.underlying9 rfl) rfl ?_;refine aA (kM rfl rfl) rfl ?_;refine aA (dX (n := min u.length 48) Tryz.underlying9 rfl rfl (by split <;> omega) aH) rfl ?_;refine aA (aD (o' := 1) dC rfl rfl) rfl ?_;refine bR (bI ts9 rfl rfl cG a7 (.succ .zero) rfl) ?_;rintro _ K _ ⟨rfl, rfl⟩ -;refine aG (aN ?_);have hB : actB o s u = actC o s (Mach.actV o u) := (by unfold actB; rw [if_neg (by first | omega | (rintro ⟨_, hq⟩; simp [hq] at h43)), if_neg (by first | omega | (rintro ⟨_, hq⟩; simp [hq] at h57))])
          first
           | (exact bX (o.tag, u.take (min u.length 48)) (by rw [hok, hB]; unfold Mach.actV; rw [if_pos h71, fI]) (.cons 0 rfl (.cons 4 rfl (.cons 6 rfl .nil))) rfl bG)
           | (exact bX (o.tag, u) (by rw [hok, hB]; unfold Mach.actV; rw [if_neg h71]) (.cons 0 rfl (.cons 4 rfl (.cons 6 rfl .nil))) rfl bG)
         ·
          refine a6 ?_;refine aN ?_;have hB : actB o s u = actC o s (Mach.actV o u) := (by unfold actB; rw [if_neg (by first | omega | (rintro ⟨_, hq⟩; simp [hq] at h43)), if_neg (by first | omega | (rintro ⟨_, hq⟩; simp [hq] at h57))])
          first
           | (exact bX (o.tag, u.take (min u.length 48)) (by rw [hok, hB]; unfold Mach.actV; rw [if_pos h71, fI]) (.cons 0 rfl (.cons 4 rfl (.cons 6 rfl .nil))) rfl bG)
           | (exact bX (o.tag, u) (by rw [hok, hB]; unfold Mach.actV; rw [if_neg h71]) (.cons 0 rfl (.cons 4 rfl (.cons 6 rfl .nil))) rfl bG)
      ·
       refine aQ rfl rfl rfl ?_;refine aQ rfl rfl rfl ?_;refine aQ rfl rfl rfl ?_;refine aQ rfl rfl rfl ?_;refine aA (a8 rfl rfl) rfl ?_;refine aA (aF rfl) rfl ?_;refine aG (aE ?_);refine cQ rfl ?_;refine aI (aB ?_);refine aA (aD (o' := 0) eV rfl rfl) rfl ?_;refine aA (aK ts3 rfl aM rfl) rfl ?_;refine aA (bT rfl rfl) rfl ?_;refine aA (aC rfl) rfl ?_;refine cA 61 rfl (fun g61 => ?_) (fun g61 => ?_)
       ·
        refine aT rfl rfl ?_;refine aA (aD (o' := 1) dC rfl rfl) rfl ?_;refine aT rfl rfl ?_;refine aA (aK ts9 rfl aM rfl) rfl ?_;refine aT rfl rfl ?_;refine cF rfl rfl (hadr u _ hg hul) rfl ?_;refine aT rfl rfl ?_;refine aA (by first | exact dM rfl | exact dU rfl) rfl ?_;refine aA (bH rfl rfl) rfl ?_;refine aA (aF rfl) rfl ?_;refine aG (aE ?_);refine eB 57 rfl (fun h57 => ?_) (fun h57 => ?_)
        ·
         have hB : actB o s u = .error (9, o.at_) := (by unfold actB; rw [if_neg aH, if_pos ⟨g61, by simpa using h57⟩]);refine aB ?_;refine aA (aC rfl) rfl ?_;refine aA (aD (o' := 6) iA rfl rfl) rfl ?_;refine aA (aK ts3 rfl aM rfl) rfl ?_;refine aW rfl rfl (gY _ 9 o.at_ _) .nil rfl (by rintro _ _ ⟨_, h, _⟩; cases h) ?_ ?_
         ·
          rintro _ _ _ ⟨fb, h, rfl⟩ le1;cases h
          refine aO (.cons .here .nil) ?_;refine aP ?_;refine aJ ?_;refine bA bP ?_;unfold MI;rw [hok, hB];exact ⟨fb, rfl, rfl⟩
         ·
          rintro _ _ _ ⟨_, h, _⟩; cases h
        ·
         refine aI (aB ?_);refine aA (aD (o' := 0) eV rfl rfl) rfl ?_;refine aA (aK ts3 rfl aM rfl) rfl ?_;refine aA (bT rfl rfl) rfl ?_;refine aA (aF rfl) rfl ?_;refine aG (aE ?_);refine bE 71 rfl (fun h71 => ?_) (fun h71 => ?_)
         ·
          refine aB ?_;refine aA (aD (o' := 1) dC rfl rfl) rfl ?_;refine aA (aK ts9 rfl aM rfl) rfl ?_;refine aA (aD (o' := 1) dC rfl rfl) rfl ?_;refine aA (aK ts9 rfl aM rfl) rfl ?_;refine aA (cB rfl Tryz.underlying9 rfl) rfl ?_;refine aA (kM rfl rfl) rfl ?_;refine aA (dX (n := min u.length 48) Tryz.underlying9 rfl rfl (by split <;> omega) aH) rfl ?_;refine aA (aD (o' := 1) dC rfl rfl) rfl ?_;refine bR (bI ts9 rfl rfl cG a7 (.succ .zero) rfl) ?_;rintro _ K _ ⟨rfl, rfl⟩ -;refine aG (aN ?_);have hB : actB o s u = actC o s (Mach.actV o u) := (by unfold actB; rw [if_neg (by first | omega | (rintro ⟨_, hq⟩; simp [hq] at h43)), if_neg (by first | omega | (rintro ⟨_, hq⟩; simp [hq] at h57))])
          first
           | (exact bX (o.tag, u.take (min u.length 48)) (by rw [hok, hB]; unfold Mach.actV; rw [if_pos h71, fI]) (.cons 0 rfl (.cons 4 rfl (.cons 6 rfl .nil))) rfl bG)
           | (exact bX (o.tag, u) (by rw [hok, hB]; unfold Mach.actV; rw [if_neg h71]) (.cons 0 rfl (.cons 4 rfl (.cons 6 rfl .nil))) rfl bG)
         ·
          refine a6 ?_;refine aN ?_;have hB : actB o s u = actC o s (Mach.actV o u) := (by unfold actB; rw [if_neg (by first | omega | (rintro ⟨_, hq⟩; simp [hq] at h43)), if_neg (by first | omega | (rintro ⟨_, hq⟩; simp [hq] at h57))])
          first
           | (exact bX (o.tag, u.take (min u.length 48)) (by rw [hok, hB]; unfold Mach.actV; rw [if_pos h71, fI]) (.cons 0 rfl (.cons 4 rfl (.cons 6 rfl .nil))) rfl bG)
           | (exact bX (o.tag, u) (by rw [hok, hB]; unfold Mach.actV; rw [if_neg h71]) (.cons 0 rfl (.cons 4 rfl (.cons 6 rfl .nil))) rfl bG)
       ·
        refine aQ rfl rfl rfl ?_;refine aQ rfl rfl rfl ?_;refine aQ rfl rfl rfl ?_;refine aQ rfl rfl rfl ?_;refine aA (a8 rfl rfl) rfl ?_;refine aA (aF rfl) rfl ?_;refine aG (aE ?_);refine cQ rfl ?_;refine aI (aB ?_);refine aA (aD (o' := 0) eV rfl rfl) rfl ?_;refine aA (aK ts3 rfl aM rfl) rfl ?_;refine aA (bT rfl rfl) rfl ?_;refine aA (aF rfl) rfl ?_;refine aG (aE ?_);refine bE 71 rfl (fun h71 => ?_) (fun h71 => ?_)
        ·
         refine aB ?_;refine aA (aD (o' := 1) dC rfl rfl) rfl ?_;refine aA (aK ts9 rfl aM rfl) rfl ?_;refine aA (aD (o' := 1) dC rfl rfl) rfl ?_;refine aA (aK ts9 rfl aM rfl) rfl ?_;refine aA (cB rfl Tryz.underlying9 rfl) rfl ?_;refine aA (kM rfl rfl) rfl ?_;refine aA (dX (n := min u.length 48) Tryz.underlying9 rfl rfl (by split <;> omega) aH) rfl ?_;refine aA (aD (o' := 1) dC rfl rfl) rfl ?_;refine bR (bI ts9 rfl rfl cG a7 (.succ .zero) rfl) ?_;rintro _ K _ ⟨rfl, rfl⟩ -;refine aG (aN ?_);have hB : actB o s u = actC o s (Mach.actV o u) := (by unfold actB; rw [if_neg (by first | omega | (rintro ⟨_, hq⟩; simp [hq] at h43)), if_neg (by first | omega | (rintro ⟨_, hq⟩; simp [hq] at h57))])
         first
          | (exact bX (o.tag, u.take (min u.length 48)) (by rw [hok, hB]; unfold Mach.actV; rw [if_pos h71, fI]) (.cons 0 rfl (.cons 4 rfl (.cons 6 rfl .nil))) rfl bG)
          | (exact bX (o.tag, u) (by rw [hok, hB]; unfold Mach.actV; rw [if_neg h71]) (.cons 0 rfl (.cons 4 rfl (.cons 6 rfl .nil))) rfl bG)
        ·
         refine a6 ?_;refine aN ?_;have hB : actB o s u = actC o s (Mach.actV o u) := (by unfold actB; rw [if_neg (by first | omega | (rintro ⟨_, hq⟩; simp [hq] at h43)), if_neg (by first | omega | (rintro ⟨_, hq⟩; simp [hq] at h57))])
         first
          | (exact bX (o.tag, u.take (min u.length 48)) (by rw [hok, hB]; unfold Mach.actV; rw [if_pos h71, fI]) (.cons 0 rfl (.cons 4 rfl (.cons 6 rfl .nil))) rfl bG)
          | (exact bX (o.tag, u) (by rw [hok, hB]; unfold Mach.actV; rw [if_neg h71]) (.cons 0 rfl (.cons 4 rfl (.cons 6 rfl .nil))) rfl bG)
     ·
      intro a hok;refine aI (aB ?_);refine aA (aC rfl) rfl ?_;refine aA bS rfl ?_;refine aA (aD (o' := 0) cV rfl rfl) rfl ?_;refine aA (aD (o' := 5) nU rfl rfl) rfl ?_;refine bR (bI ts4 rfl rfl cG a7 (.succ (.succ (.succ (.succ (.succ .zero))))) rfl) ?_;rintro _ K _ ⟨rfl, rfl⟩ -;refine aG (aE ?_);refine aI (aI ?_);refine t_draw (anc := [0, 1, 3, 7, 15, 0, 63]) (ord := [0, 1, 2, 3, 4, 5, 6]) [6] [6] mixed (by decide +kernel) (cS _) ?_;refine dl_ev rfl rfl (.none rfl) rfl rfl (aC rfl) rfl ?_;refine dl_ev rfl rfl (.none rfl) rfl rfl bS rfl ?_;refine dl_ev rfl rfl (.none rfl) rfl rfl (aD (o' := 0) cV rfl rfl) rfl ?_;refine dl_ev rfl rfl (.none rfl) rfl rfl (aD (o' := 4) eD rfl rfl) rfl ?_;refine dl_ev rfl rfl (.none rfl) rfl rfl (aK ts29 rfl aM rfl) rfl ?_;refine dl_ev rfl rfl (.none rfl) rfl rfl (bW jS rfl aM rfl rfl) rfl ?_;refine j4 rfl (.none rfl) rfl rfl rfl (oQ av s.acts a _ aH) (.cons (.there (.there .here)) .nil) rfl ?_;rintro _ K _ ⟨rfl, rfl, rfl⟩ -;refine dl_nil ?_;refine aE ?_;refine bE 93 rfl (fun h93 => ?_) (fun h93 => ?_)
      ·
       refine bM ?_;refine bC ?_
       first
        | (refine aO (.cons (.there (.there .here)) (.cons .here (.cons (.there .here) (.cons (.there .here) .nil)))) ?_; refine dV (dK (m := m) (hv := hv) (pv := pv) (nm := nm) (s := { s with keep := false })) ?_)
        | (refine aO (.cons (.there .here) (.cons (.there .here) (.cons (.there (.there .here)) (.cons (.there (.there .here)) .nil)))) ?_; refine dV (dK (m := m) (hv := hv) (pv := pv) (nm := nm) (s := { s with keep := false, acts := s.acts ++ [a] })) ?_)
       refine qY rfl (Hl.le_refl _) ?_;unfold MI;rw [hok];unfold actC
       first
        | (rw [if_pos h93]; exact ⟨_, rfl, rfl, pv, hpv, rfl⟩)
        | (rw [if_neg h93, if_neg hnc, if_neg aH]; exact ⟨_, rfl, rfl, pv, hpv, rfl⟩)
      ·
       refine a6 ?_;refine aE (aI ?_);refine aI (aB ?_);refine aA (aC rfl) rfl ?_;refine aA bS rfl ?_;refine aA (aD (o' := 0) cV rfl rfl) rfl ?_;refine aA (aD (o' := 4) eD rfl rfl) rfl ?_;refine aA (aK ts29 rfl aM rfl) rfl ?_;refine aA (cE (k := dG) rfl Tryz.underlying29 rfl aM) rfl ?_;refine aA (aC rfl) rfl ?_;refine aG (aE ?_);refine bF ?_;refine eK (fun (i : Nat) => i ≤ s.acts.length ∧ ∀ (j : Nat) (x : gC), j < i → s.acts[j]? = some x → ¬ (a.1 = 4 ∨ x.1 = 4)) (fun i => [(0, ptr b), (4, ptr b4), (6, ptr b6), (98, av), (99, i64 s.acts.length), (100, i64 i)]) (fun _ => K) (fun i => [sl true dG av s.acts, pt b6 (aU [i64 a.1, str a.2] 34), mblk b (str m.from_) (str m.to_) (i64 m.size) hv av (.bool false) (.bool nm) (.map (some mb)) pv sv s.pc, sl false fM sv s.stack, pt mb (mapO (gM s.vars f) c), pt b4 (aU [i64 o.op, i64 o.n, i64 o.tag, .bool o.oct, .slice sa sn sc, .slice ta tn tc, i64 o.at_] 41)]) (fun i => s.acts.length - i) 0 ⟨Nat.zero_le _, fun j x h _ => by omega⟩ (.cons 0 rfl (.cons 4 rfl (.cons 6 rfl (.cons 98 rfl (.cons 99 rfl (.cons 100 rfl .nil)))))) rfl (fun _ h => h) ?_;intro i ⟨hi0, hi1⟩;refine aI (aB ?_);refine aA (dA rfl rfl) rfl ?_;refine aG (aE ?_);refine aI ?_;refine bE 101 rfl (fun h101 => ?_) (fun h101 => ?_)
       ·
        have hilt : i < s.acts.length := by omega
        obtain ⟨x, hx⟩ : ∃ x, s.acts[i]? = some x := ⟨s.acts[i]'hilt, List.getElem?_eq_getElem hilt⟩;refine a6 ?_;refine aE (aI ?_);refine bF (aI ?_);refine aB ?_;refine aA (b0 (k := dG) fZ rfl aM rfl rfl (by first | assumption | omega)) rfl ?_;refine aA (fR (n := 0) (k := dG) jS rfl aM bP) rfl ?_;refine ol_s (cO tz34) rfl ?_;rintro _ K _ ⟨b8, rfl, rfl, rfl⟩ -;refine bR (cH jS rfl rfl rfl a7 (by first | (simp [Value.oneCell']; done) | exact fun c hc => El.one _ _ c hc) (.cons (.cons .nil)) (by intro j hj; simp)) ?_;rintro _ K _ ⟨rfl, rfl⟩ -;refine aG (aE ?_);refine aI (aB ?_);refine aA (aD (o' := 0) eV rfl rfl) rfl ?_;refine aA (aK ts3 rfl aM rfl) rfl ?_;refine aA (bT rfl rfl) rfl ?_;refine aA (aC rfl) rfl ?_;refine cA 107 rfl (fun g107 => ?_) (fun g107 => ?_)
        ·
         refine aQ rfl rfl rfl ?_;refine aQ rfl rfl rfl ?_;refine aQ rfl rfl rfl ?_;refine aA (bH rfl rfl) rfl ?_;refine aG (aE ?_);refine eS rfl ?_;refine aB ?_;refine aA (aC rfl) rfl ?_;refine aA (aD (o' := 6) iA rfl rfl) rfl ?_;refine aA (aK ts3 rfl aM rfl) rfl ?_;refine aW rfl rfl (gY _ 10 o.at_ _) .nil rfl (by rintro _ _ ⟨_, h, _⟩; cases h) ?_ ?_
         ·
          rintro _ _ _ ⟨fb, h, rfl⟩ le1;cases h
          refine aO (.cons .here .nil) ?_;refine aP ?_;refine aJ ?_;refine aJ ?_;refine aP ?_;refine aJ ?_;refine bA bP ?_;have hco : ∃ b ∈ s.acts, a.1 = 4 ∨ b.1 = 4 := ⟨x, List.mem_of_getElem? hx, by omega⟩;unfold MI;rw [hok]; unfold actC; rw [if_neg h93, if_pos hco]
          exact ⟨fb, rfl, rfl⟩
         ·
          rintro _ _ _ ⟨_, h, _⟩; cases h
        ·
         refine aT rfl rfl ?_;refine aA (aD (o' := 0) eV rfl rfl) rfl ?_;refine aT rfl rfl ?_;refine aA (aK ts3 rfl aM rfl) rfl ?_;refine aT rfl rfl ?_;refine aA (bT rfl rfl) rfl ?_;refine aA (a8 rfl rfl) rfl ?_;refine aG (aE ?_);refine bE 111 rfl (fun h111 => ?_) (fun h111 => ?_)
         ·
          refine aB ?_;refine aA (aC rfl) rfl ?_;refine aA (aD (o' := 6) iA rfl rfl) rfl ?_;refine aA (aK ts3 rfl aM rfl) rfl ?_;refine aW rfl rfl (gY _ 10 o.at_ _) .nil rfl (by rintro _ _ ⟨_, h, _⟩; cases h) ?_ ?_
          ·
           rintro _ _ _ ⟨fb, h, rfl⟩ le1;cases h
           refine aO (.cons .here .nil) ?_;refine aP ?_;refine aJ ?_;refine aJ ?_;refine aP ?_;refine aJ ?_;refine bA bP ?_;have hco : ∃ b ∈ s.acts, a.1 = 4 ∨ b.1 = 4 := ⟨x, List.mem_of_getElem? hx, by omega⟩;unfold MI;rw [hok]; unfold actC; rw [if_neg h93, if_pos hco]
           exact ⟨fb, rfl, rfl⟩
          ·
           rintro _ _ _ ⟨_, h, _⟩; cases h
         ·
          refine a6 ?_;refine aN (aE ?_);refine aB ?_;refine aA (bZ rfl rfl aH aH) rfl ?_;refine aA (aC rfl) rfl ?_;refine aG ?_;refine aO (.cons (.there .here) (.cons (.there .here) (.cons (.there .here) (.cons (.there .here) (.cons (.there .here) (.cons (.there .here) .nil)))))) ?_;refine cL (i + 1) ⟨by omega, fun j y hj hy => ?_⟩ aH (.cons 0 rfl (.cons 4 rfl (.cons 6 rfl (.cons 98 rfl (.cons 99 rfl (.cons 100 rfl .nil)))))) rfl bG
          rcases Nat.lt_or_ge j i with h | h
          ·exact hi1 j y h hy
          ·have e : j = i := by omega
           subst e; rw [hx] at hy; cases hy; intro hh; omega
       ·
        have hnc : ¬ ∃ b ∈ s.acts, a.1 = 4 ∨ b.1 = 4 := (by rintro ⟨x, hx, hh⟩; obtain ⟨j, hj⟩ := List.getElem?_of_mem hx; exact hi1 j x (by rcases Nat.lt_or_ge j s.acts.length with h | h; omega; (rw [List.getElem?_eq_none h] at hj; cases hj)) hj hh);refine cY ?_;refine aV ?_;refine aV ?_;refine bL ?_;refine aE (aI ?_);refine aI (aB ?_);refine aA (aC rfl) rfl ?_;refine aA bS rfl ?_;refine aA (aD (o' := 0) cV rfl rfl) rfl ?_;refine aA (aD (o' := 4) eD rfl rfl) rfl ?_;refine aA (aK ts29 rfl aM rfl) rfl ?_;refine aA (cE (k := dG) rfl Tryz.underlying29 rfl aM) rfl ?_;refine aA (bT rfl rfl) rfl ?_;refine aG (aE ?_);refine bE 123 rfl (fun h123 => ?_) (fun h123 => ?_)
        ·
         refine aB ?_;refine aA (aC rfl) rfl ?_;refine aA (aD (o' := 6) iA rfl rfl) rfl ?_;refine aA (aK ts3 rfl aM rfl) rfl ?_;refine aW rfl rfl (gY _ 11 o.at_ _) .nil rfl (by rintro _ _ ⟨_, h, _⟩; cases h) ?_ ?_
         ·
          rintro _ _ _ ⟨fb, h, rfl⟩ le1;cases h
          refine aO (.cons .here .nil) ?_;refine aJ ?_;refine bA bP ?_;unfold MI;rw [hok]; unfold actC; rw [if_neg h93, if_neg hnc, if_pos aH]
          exact ⟨fb, rfl, rfl⟩
         ·
          rintro _ _ _ ⟨_, h, _⟩; cases h
        ·
         refine a6 ?_;refine aE ?_;refine t_draw (anc := [0, 0, 2, 6, 14, 30, 0, 64, 254, 511, 1023, 2047, 4095]) (ord := [0, 1, 2, 3, 4, 5, 6, 7, 8, 9, 10, 11, 12]) [7, 8, 12] [12] mixed (by decide +kernel) (.cons (.there .here) (.cons (.there .here) .nil)) ?_;refine dl_ev rfl rfl (.none rfl) rfl rfl (aC rfl) rfl ?_;refine dl_ev rfl rfl (.none rfl) rfl rfl (aC rfl) rfl ?_;refine dl_ev rfl rfl (.none rfl) rfl rfl bS rfl ?_;refine dl_ev rfl rfl (.none rfl) rfl rfl (aD (o' := 0) cV rfl rfl) rfl ?_;refine dl_ev rfl rfl (.none rfl) rfl rfl (aD (o' := 4) eD rfl rfl) rfl ?_;refine dl_ev rfl rfl (.none rfl) rfl rfl (aK ts29 rfl aM rfl) rfl ?_;refine dl_ev rfl rfl (.none rfl) rfl rfl (bW jS rfl aM rfl rfl) rfl ?_;refine dl_s rfl rfl (.none rfl) rfl rfl (bO (z0 := [.int .i64 0, (str [])]) fZ tz34 rfl rfl rfl rfl (.cons rfl rfl rfl (.cons (.cons .nil)) .nil)) rfl ?_;rintro _ K _ ⟨b135, rfl, rfl, rfl⟩ -;refine ⟨_, (show Tks _ _ _ from (.cons (.there .here) (.cons (.there .here) .nil))).sat, ?_⟩
         refine dl_s rfl rfl (.none rfl) rfl rfl (dQ (k := dG) (ys := [a]) lY rfl rfl (.there (.there (.there .here))) (fun w j => dN Tryz.underlying29 (SeesSl.at (k := dG) (.blk (.own (.there (.there .here))) rfl rfl) j)) (by simp; omega) (by first | (simp; omega) | omega)) rfl ?_;rintro v136 K _ ⟨rfl, rfl, ho136⟩ -;refine ⟨_, (show Tks _ _ _ from (.cons (.there .here) (.cons (.there .here) .nil))).sat, ?_⟩
         refine dl_ev rfl rfl (.none rfl) rfl rfl bS rfl ?_;refine dl_ev rfl rfl (.none rfl) rfl rfl (aD (o' := 0) cV rfl rfl) rfl ?_;refine dl_ev rfl rfl (.none rfl) rfl rfl (aD (o' := 4) eD rfl rfl) rfl ?_;refine r6 rfl rfl (.none rfl) rfl (bI ts29 rfl rfl cG a7 (.succ (.succ (.succ (.succ .zero)))) rfl) ?_;rintro _ K _ ⟨rfl, rfl⟩ -;refine dl_nil ?_
         first
          | (refine aO (.cons (.there (.there .here)) (.cons .here (.cons (.there .here) (.cons (.there .here) .nil)))) ?_; refine dV (dK (m := m) (hv := hv) (pv := pv) (nm := nm) (s := { s with keep := false })) ?_)
          | (refine aO (.cons (.there .here) (.cons (.there .here) (.cons (.there (.there .here)) (.cons (.there (.there .here)) .nil)))) ?_; refine dV (dK (m := m) (hv := hv) (pv := pv) (nm := nm) (s := { s with keep := false, acts := s.acts ++ [a] })) ?_)
         refine dE rfl (Hl.le_refl _) ?_;unfold MI;rw [hok];unfold actC
         first
          | (rw [if_pos h93]; exact ⟨_, rfl, rfl, pv, hpv, rfl⟩)
          | (rw [if_neg h93, if_neg hnc, if_neg aH]; exact ⟨_, rfl, rfl, pv, hpv, rfl⟩)
   ·
    have hno := uU (nm := nm) (s := s) (o := o) aH;refine aQ rfl rfl rfl ?_;refine aQ rfl rfl rfl ?_;refine aQ rfl rfl rfl ?_;refine aQ rfl rfl rfl ?_;refine aT rfl rfl ?_;refine aA (a8 rfl rfl) rfl ?_;refine aA (a8 rfl rfl) rfl ?_;refine aW rfl rfl (m8 _ _ _ _ _ _ _ _ _ _ _ _ _) (.cons (.there .here) .nil) rfl (by rintro _ _ ⟨_, h, _⟩; cases h) ?_ ?_
    ·
     rintro _ _ _ ⟨fb, h, rfl⟩ le1;cases h
     refine aO (.cons .here .nil) ?_;refine aJ ?_;refine bA bP ?_;simp only [MI, hno, if_true, if_false, ↓reduceIte];exact ⟨fb, rfl, rfl⟩
    ·
     rintro _ _ _ ⟨_, h, _⟩; cases h
  ·
   have hno := uU (nm := nm) (s := s) (o := o) aH;refine aQ rfl rfl rfl ?_;refine aQ rfl rfl rfl ?_;refine aQ rfl rfl rfl ?_;refine aT rfl rfl ?_;refine aA (a8 rfl rfl) rfl ?_;refine aT rfl rfl ?_;refine aA (aC rfl) rfl ?_;refine aQ rfl rfl rfl ?_;refine aQ rfl rfl rfl ?_;refine aQ rfl rfl rfl ?_;refine aQ rfl rfl rfl ?_;refine aT rfl rfl ?_;refine aA (a8 rfl rfl) rfl ?_;refine aA (a8 rfl rfl) rfl ?_;refine aW rfl rfl (m8 _ _ _ _ _ _ _ _ _ _ _ _ _) (.cons (.there .here) .nil) rfl (by rintro _ _ ⟨_, h, _⟩; cases h) ?_ ?_
   ·
    rintro _ _ _ ⟨fb, h, rfl⟩ le1;cases h
    refine aO (.cons .here .nil) ?_;refine aJ ?_;refine bA bP ?_;simp only [MI, hno, if_true, if_false, ↓reduceIte];exact ⟨fb, rfl, rfl⟩
   ·
    rintro _ _ _ ⟨_, h, _⟩; cases h
end Go.Proofs
end
section
namespace Go.SL.R
def Eff (P : Program) (o : Oper) (a : Act) (w : World) (Q : Post) (next : Value → World → Prop) : Prop :=
 (∃ u w', (execOp a.eval o).run P w = .ok (.value u) w' ∧ next u w') ∨ (∃ w', (execOp a.eval o).run P w = .ok .skip w' ∧ next undef w') ∨
 (∃ f args w1, (execOp a.eval o).run P w = .ok (.enter f args) w1 ∧ Calls P f args w1 fun e w' => match e with
  | .returned u => next u w'
  | .panicked ch => ∀ a', a'.defers = a.defers → Q (.panic ch) a' w'
  | .outgrown => LetsOut Q) ∨
 (∃ l f tmps assign body w1, (execOp a.eval o).run P w = .ok (.round l f tmps assign body) w1 ∧ RoundIn Fence.wide 0 P l f tmps assign body w1 fun e w' => match e with
  | .returned u => next u w'
  | .panicked ch => ∀ a', a'.defers = a.defers → Q (.panic ch) a' w'
  | .outgrown => LetsOut Q)
theorem Eff.mono {P : Program} {o : Oper} {a : Act} {w : World} {Q : Post} {n n' : Value → World → Prop} (h : Eff P o a w Q n) (k : ∀ u w', n u w' → n' u w') : Eff P o a w Q n' := by
 rcases h with ⟨u, w', h, hn⟩ | ⟨w', h, hn⟩ | ⟨f, args, w1, h, hc⟩ | ⟨l, f, t, x, y, w1, h, hc⟩
 ·exact .inl ⟨u, w', h, k _ _ hn⟩
 ·exact .inr (.inl ⟨w', h, k _ _ hn⟩)
 ·exact .inr (.inr (.inl ⟨f, args, w1, h, hc.mono fun e w' q => by cases e <;> first | exact k _ _ q | exact q⟩))
 ·exact .inr (.inr (.inr ⟨l, f, t, x, y, w1, h, hc.mono fun e w' q => by cases e <;> first | exact k _ _ q | exact q⟩))
theorem Eff.congr {P : Program} {o : Oper} {a a' : Act} {w : World} {Q : Post} {n : Value → World → Prop} (h : Eff P o a w Q n) (he : execOp a'.eval o = execOp a.eval o) (hd : a'.defers = a.defers) : Eff P o a' w Q n := by
 unfold Eff at *;rw [he, hd]; exact h
theorem aCJ (ρ : Operand → Value) (o : Oper) : o.semAt Fence.wide.round ρ = execOp ρ o := rfl
theorem Eff.wp {P : Program} {o : Oper} {a : Act} {w : World} {Q : Post} {n : Value → World → Prop} {K : Act → World → Prop} (h : Eff P o a w Q n) (k : ∀ u w', n u w' → K (a.put o.dst u) w') : o.wpIn Fence.wide 0 P a w K Q := by
 refine ⟨fun _ _ => trivial, ?_⟩
 rw [aCJ];have hd : Fence.wide.depth.isSome = true → 1 ≤ 0 := fun h => by cases h
 rcases h with ⟨u, w', h, hn⟩ | ⟨w', h, hn⟩ | ⟨f, args, w1, h, hc⟩ | ⟨l, f, t, x, y, w1, h, hc⟩
 ·rw [h]; exact k _ _ hn
 ·rw [h]; exact k _ _ hn
 ·rw [h];refine ⟨hd, callsIn_wide.2 (hc.mono fun e w' q => ?_)⟩
  cases e with
  | returned u => exact k _ _ q
  | panicked ch => exact q _ rfl
  | outgrown => exact q
 ·rw [h];refine ⟨hd, hc.mono fun e w' q => ?_⟩
  cases e with
  | returned u => exact k _ _ q
  | panicked ch => exact q _ rfl
  | outgrown => exact q
def DX (E : Env) (ops : Array Oper) (eff stg : List Nat) (Q : Post) : List Nat → List Asn → Hl → List Asn → Act → Prop
 | [], S, K, M, a => ∀ w, In E.w0 E.F K (S ++ M) w → Q .normal a w
 | i :: r, S, K, M, a =>
  match ops[i]? with
  | none => False
  | some o =>
   if Region.wanted o (yielded ops a.tmps) then
    if stg.contains i then
     ∀ w, In E.w0 E.F K (S ++ M) w → Eff E.P o a w Q fun u w' => ∃ K' S' M', K.le K' ∧ In E.w0 E.F K' (S' ++ M') w' ∧ DX E ops eff stg Q r S' K' M' (a.put o.dst u)
    else if eff.contains i then
     ∀ w, In E.w0 E.F K (S ++ M) w → Eff E.P o a w Q fun u w' => ∃ K' M', K.le K' ∧ In E.w0 E.F K' (S ++ M') w' ∧ DX E ops eff stg Q r S K' M' (a.put o.dst u)
    else ∃ v, (∀ K' M' w, K.le K' → In E.w0 E.F K' (S ++ M') w → (execOp a.eval o).run E.P w = .ok (.value v) w) ∧ DX E ops eff stg Q r S K M (a.put o.dst v)
   else DX E ops eff stg Q r S K M (a.put o.dst undef)
def nP (o : Oper) : Bool := match o.op with | .select _ _ => false | _ => true
theorem mP {o : Oper} (h : nP o = true) : ∀ cs b, o.op ≠ .select cs b := by
 intro cs b e; simp [nP, e] at h
theorem o7 (a : Act) (x : Option Tmp) (v : Value) : (a.put x v).defers = a.defers := by cases x <;> rfl
theorem zE {E : Env} {ops : Array Oper} {eff stg : List Nat} {S : List Asn} {Q : Post} {x i : Nat} {r : List Nat} {K : Hl} {M : List Asn} {a : Act} {ox oi : Oper}
  (hx : ops[x]? = some ox) (hi : ops[i]? = some oi) (hap : ox.apart ops oi = true) (hsx : nP ox = true) (hsi : nP oi = true) (hne : eff.contains x = false) (hnx : stg.contains x = false) (hni : stg.contains i = false)
  (h : DX E ops eff stg Q (x :: i :: r) S K M a) : DX E ops eff stg Q (i :: x :: r) S K M a := by
 obtain ⟨h1, h2, h3⟩ := Oper.apart_spec hap;have sx := mP hsx;have si := mP hsi;have goX : ∀ (v u : Value), ((a.put ox.dst v).put oi.dst u) = ((a.put oi.dst u).put ox.dst v) := fun v u => Act.put_comm a v u h2
 have wx : ∀ (u : Value), Region.wanted ox (yielded ops (a.put oi.dst u).tmps) = Region.wanted ox (yielded ops a.tmps) := fun u => wanted_put ox a oi.dst u h3
 have wi : ∀ (u : Value), Region.wanted oi (yielded ops (a.put ox.dst u).tmps) = Region.wanted oi (yielded ops a.tmps) := fun u => wanted_put oi a ox.dst u h1
 have ex : ∀ (u : Value), execOp (a.put oi.dst u).eval ox = execOp a.eval ox := fun u => execOp_put ox sx a oi.dst u h3
 have ei : ∀ (u : Value), execOp (a.put ox.dst u).eval oi = execOp a.eval oi := fun u => execOp_put oi si a ox.dst u h1
 simp only [DX, hx, hi, hne, hnx, hni, Bool.false_eq_true, if_false] at h ⊢
 by_cases cx : Region.wanted ox (yielded ops a.tmps) = true
 ·simp only [cx, if_true] at h;obtain ⟨v, hv, h⟩ := h;rw [wi v] at h;have back : ∀ (u : Value) (K' : Hl) (M' : List Asn), K.le K' → DX E ops eff stg Q r S K' M' ((a.put ox.dst v).put oi.dst u) →
    (if Region.wanted ox (yielded ops (a.put oi.dst u).tmps) = true then
     ∃ v, (∀ K'' M'' w, K'.le K'' → In E.w0 E.F K'' (S ++ M'') w → (execOp (a.put oi.dst u).eval ox).run E.P w = .ok (.value v) w) ∧ DX E ops eff stg Q r S K' M' ((a.put oi.dst u).put ox.dst v)
     else DX E ops eff stg Q r S K' M' ((a.put oi.dst u).put ox.dst undef)) := by
   intro u K' M' le hr;rw [wx u, if_pos cx];refine ⟨v, fun K'' M'' w le' j => ?_, ?_⟩
   ·rw [ex u]; exact hv K'' M'' w (Hl.le_trans le le') j
   ·rw [← goX]; exact hr
  by_cases ci : Region.wanted oi (yielded ops a.tmps) = true
  ·simp only [ci, if_true] at h ⊢
   by_cases ce : eff.contains i = true
   ·simp only [ce, if_true] at h ⊢;intro w j;refine ((h w j).congr (ei v).symm (o7 _ _ _).symm).mono fun u w' ⟨K', M', le, j', hr⟩ => ⟨K', M', le, j', back u K' M' le hr⟩
   ·simp only [ce, Bool.false_eq_true, if_false] at h ⊢;obtain ⟨u, hu, hr⟩ := h;refine ⟨u, fun K' M' w le j => ?_, back u K M (Hl.le_refl _) hr⟩
    have := hu K' M' w le j
    rwa [ei v] at this
  ·simp only [ci, if_false, Bool.false_eq_true] at h ⊢;exact back undef K M (Hl.le_refl _) h
 ·simp only [cx, if_false, Bool.false_eq_true] at h;rw [wi undef] at h;have back : ∀ (u : Value) (K' : Hl) (M' : List Asn), K.le K' → DX E ops eff stg Q r S K' M' ((a.put ox.dst undef).put oi.dst u) →
    (if Region.wanted ox (yielded ops (a.put oi.dst u).tmps) = true then
     ∃ v, (∀ K'' M'' w, K'.le K'' → In E.w0 E.F K'' (S ++ M'') w → (execOp (a.put oi.dst u).eval ox).run E.P w = .ok (.value v) w) ∧ DX E ops eff stg Q r S K' M' ((a.put oi.dst u).put ox.dst v)
     else DX E ops eff stg Q r S K' M' ((a.put oi.dst u).put ox.dst undef)) := by
   intro u K' M' le hr;rw [wx u, if_neg cx, ← goX]; exact hr
  by_cases ci : Region.wanted oi (yielded ops a.tmps) = true
  ·simp only [ci, if_true] at h ⊢
   by_cases ce : eff.contains i = true
   ·simp only [ce, if_true] at h ⊢;intro w j;refine ((h w j).congr (ei undef).symm (o7 _ _ _).symm).mono fun u w' ⟨K', M', le, j', hr⟩ => ⟨K', M', le, j', back u K' M' le hr⟩
   ·simp only [ce, Bool.false_eq_true, if_false] at h ⊢;obtain ⟨u, hu, hr⟩ := h;refine ⟨u, fun K' M' w le j => ?_, back u K M (Hl.le_refl _) hr⟩
    have := hu K' M' w le j
    rwa [ei undef] at this
  ·simp only [ci, if_false, Bool.false_eq_true] at h ⊢;exact back undef K M (Hl.le_refl _) h
def pG (ops : Array Oper) (eff stg : List Nat) (x i : Nat) : Bool :=
 match ops[x]?, ops[i]? with
 | some ox, some oi => !stg.contains x && !stg.contains i && !eff.contains x && ox.apart ops oi && nP ox && nP oi
 | _, _ => false
theorem n9 {E : Env} {ops : Array Oper} {eff stg : List Nat} {S : List Asn} {Q : Post} {x : Nat} {r r' : List Nat} (k : ∀ S K M a, DX E ops eff stg Q r S K M a → DX E ops eff stg Q r' S K M a) {K : Hl} {M : List Asn} {a : Act}
  (h : DX E ops eff stg Q (x :: r) S K M a) : DX E ops eff stg Q (x :: r') S K M a := by
 unfold DX at h ⊢;cases hx : ops[x]? with
 | none => simp [hx] at h
 | some o =>
  simp only [hx] at h ⊢;split
  ·rename_i c;rw [if_pos c] at h;split
   ·rename_i c0;rw [if_pos c0] at h;exact fun w j => (h w j).mono fun u w' ⟨K', S', M', le, j', hr⟩ => ⟨K', S', M', le, j', k _ _ _ _ hr⟩
   ·rename_i c0;rw [if_neg c0] at h;split
    ·rename_i c';rw [if_pos c'] at h;exact fun w j => (h w j).mono fun u w' ⟨K', M', le, j', hr⟩ => ⟨K', M', le, j', k _ _ _ _ hr⟩
    ·rename_i c';rw [if_neg c'] at h;obtain ⟨v, hv, hr⟩ := h;exact ⟨v, hv, k _ _ _ _ hr⟩
  ·rename_i c;rw [if_neg c] at h;exact k _ _ _ _ h
theorem oU {E : Env} {ops : Array Oper} {eff stg : List Nat} {Q : Post} {i : Nat} {r2 : List Nat} : ∀ (r1 : List Nat) {S : List Asn} {K : Hl} {M : List Asn} {a : Act},
  (∀ x ∈ r1, pG ops eff stg x i = true) → DX E ops eff stg Q (r1 ++ i :: r2) S K M a → DX E ops eff stg Q (i :: (r1 ++ r2)) S K M a
 | [], _, _, _, _, _, h => h
 | x :: r1, S, K, M, a, hs, h => by
  have h1 : DX E ops eff stg Q (x :: i :: (r1 ++ r2)) S K M a := n9 (fun _ _ _ _ => oU r1 fun y hy => hs y (List.mem_cons_of_mem _ hy)) h;have hb := hs x (List.mem_cons_self ..);unfold pG at hb;cases hx : ops[x]? with
  | none => simp [hx] at hb
  | some ox =>
   cases hi : ops[i]? with
   | none => simp [hx, hi] at hb
   | some oi =>
    simp only [hx, hi, Bool.and_eq_true, Bool.not_eq_true'] at hb;exact zE hx hi hb.1.1.2 hb.1.2 hb.2 hb.1.1.1.2 hb.1.1.1.1.1 hb.1.1.1.1.2 h1
def upto (anc : List Nat) : List Edge → Nat
 | [] => 0
 | e :: es => if Region.binds .any e then (2 ^ e.on ||| anc.getD e.on 0) ||| upto anc es else upto anc es
def nK (anc : List Nat) : List Oper → Nat → Bool
 | [], _ => true
 | o :: os, i => (o.after.toList.all fun e => !Region.binds .any e || Nat.blt e.on i) && ((anc.getD i 0 ||| upto anc o.after.toList) == upto anc o.after.toList) && nK anc os (i + 1)
def pwB (ops : Array Oper) (eff stg anc : List Nat) : List Nat → Bool
 | [] => true
 | x :: r => (r.all fun i => (anc.getD i 0).testBit x || pG ops eff stg x i) && !r.contains x && pwB ops eff stg anc r
def wC (l : List Oper) (eff stg anc ord : List Nat) : Bool :=
 nK anc l 0 && pwB l.toArray eff stg anc ord && (List.range l.length).all ord.contains && ord.all (Nat.blt · l.length) && Nat.beq ord.length l.length
theorem mV {anc : List Nat} {x : Nat} : ∀ {es : List Edge}, (upto anc es).testBit x = true → ∃ e ∈ es, Region.binds .any e = true ∧ (x = e.on ∨ (anc.getD e.on 0).testBit x = true)
 | [], h => by simp [upto] at h
 | e :: es, h => by
  unfold upto at h;split at h
  ·rename_i hb;rw [Nat.testBit_or, Nat.testBit_or] at h;simp only [Bool.or_eq_true, Nat.testBit_two_pow, decide_eq_true_eq] at h;rcases h with (h | h) | h
   ·exact ⟨e, List.mem_cons_self .., hb, .inl h.symm⟩
   ·exact ⟨e, List.mem_cons_self .., hb, .inr h⟩
   ·obtain ⟨e', he, h'⟩ := mV h;exact ⟨e', List.mem_cons_of_mem _ he, h'⟩
  ·obtain ⟨e', he, h'⟩ := mV h;exact ⟨e', List.mem_cons_of_mem _ he, h'⟩
theorem mF {anc : List Nat} : ∀ {os : List Oper} {j : Nat}, nK anc os j = true → ∀ {i : Nat} {o : Oper}, os[i]? = some o →
  (∀ e ∈ o.after.toList, Region.binds .any e = true → e.on < j + i) ∧ ∀ x, (anc.getD (j + i) 0).testBit x = true → (upto anc o.after.toList).testBit x = true
 | [], _, _, _, _, h => by simp at h
 | o :: os, j, h, i, o', ho => by
  simp only [nK, Bool.and_eq_true, List.all_eq_true, Bool.or_eq_true, Bool.not_eq_true', beq_iff_eq] at h;obtain ⟨⟨h1, h2⟩, h3⟩ := h;cases i with
  | zero =>
   simp at ho; subst ho
   refine ⟨fun e he hb => ?_, fun x hx => ?_⟩
   ·rcases h1 e he with q | q
    ·rw [hb] at q; cases q
    ·simp [Nat.blt] at q; omega
   ·rw [← h2, Nat.testBit_or]; simp only [Nat.add_zero] at hx; rw [hx]; rfl
  | succ i =>
   have := mF (j := j + 1) h3 (i := i) (o := o') (by simpa using ho);have e : j + (i + 1) = j + 1 + i := by omega
   rw [e]; exact this
def Down (ops : Array Oper) (listed : Array Bool) : Prop :=
 ∀ (i : Nat) (o : Oper), listed.getD i true = true → ops[i]? = some o → ∀ e ∈ o.after.toList, Region.binds .any e = true → listed.getD e.on false = true
theorem kU {ops : Array Oper} {listed : Array Bool} {i : Nat} : i ∈ Region.ready .any ops listed ↔
  i < ops.size ∧ listed.getD i true = false ∧ ∃ o, ops[i]? = some o ∧ ∀ e ∈ o.after.toList, Region.binds .any e = true → listed.getD e.on false = true := by
 unfold Region.ready;simp only [List.mem_filter, List.mem_range, Bool.and_eq_true, Bool.not_eq_true']
 constructor
 ·rintro ⟨h1, h2, h3⟩;refine ⟨h1, h2, ?_⟩
  cases ho : ops[i]? with
  | none => simp [ho] at h3
  | some o =>
   refine ⟨o, rfl, fun e he hb => ?_⟩
   simp only [ho, Option.map_some, Option.getD_some, Array.all_eq_true_iff_forall_mem] at h3;have := h3 e (by simpa using he)
   simpa [hb] using this
 ·rintro ⟨h1, h2, o, ho, h3⟩;refine ⟨h1, h2, ?_⟩
  simp only [ho, Option.map_some, Option.getD_some, Array.all_eq_true_iff_forall_mem];intro e he
  by_cases hb : Region.binds .any e = true
  ·simp [hb, h3 e (by simpa using he) hb]
  ·simp [hb]
theorem qX {l : List Oper} {anc : List Nat} (hA : nK anc l 0 = true) {listed : Array Bool} (hsz : listed.size = l.length) (hd : Down l.toArray listed) {i : Nat} {o : Oper} (ho : l[i]? = some o)
  (hr : ∀ e ∈ o.after.toList, Region.binds .any e = true → listed.getD e.on false = true) {x : Nat} (hx : (anc.getD i 0).testBit x = true) : listed.getD x false = true := by
 have key : ∀ (n i : Nat) (o : Oper), i = n → l[i]? = some o → (∀ e ∈ o.after.toList, Region.binds .any e = true → listed.getD e.on false = true) → (anc.getD i 0).testBit x = true → listed.getD x false = true := by
  intro n;induction n using Nat.strongRecOn with
  | _ n ih =>
   rintro i o rfl ho hr hx;obtain ⟨h1, h2⟩ := mF hA ho;simp only [Nat.zero_add] at h1 h2;obtain ⟨e, he, hb, hxe⟩ := mV (h2 x hx);rcases hxe with rfl | hxe
   ·exact hr e he hb
   ·have hlt := h1 e he hb;have hil : i < l.length := by
     rcases Nat.lt_or_ge i l.length with h | h
     ·exact h
     ·simp [List.getElem?_eq_none h] at ho
    have hel : l[e.on]? = some l[e.on] := by simp [List.getElem?_eq_getElem (Nat.lt_trans hlt hil)]
    have hle := hr e he hb;refine ih e.on hlt e.on l[e.on] rfl hel ?_ hxe
    refine hd e.on l[e.on] ?_ (by simp [Array.getElem?_eq_getElem, Nat.lt_trans hlt hil])
    rw [Array.getD_eq_getD_getElem?] at hle ⊢;have : e.on < listed.size := by rw [hsz]; exact Nat.lt_trans hlt hil
    simpa [Array.getElem?_eq_getElem this] using hle
 exact key i i o rfl ho hr hx
theorem nQ {ops : Array Oper} {eff stg anc : List Nat} : ∀ {r : List Nat}, pwB ops eff stg anc r = true → r.Nodup ∧ ∀ (r1 : List Nat) (i : Nat) (r2 : List Nat), r = r1 ++ i :: r2 → ∀ x ∈ r1, (anc.getD i 0).testBit x = true ∨ pG ops eff stg x i = true
 | [], _ => ⟨List.nodup_nil, fun r1 i r2 e => by simp at e⟩
 | y :: r, h => by
  simp only [pwB, Bool.and_eq_true, List.all_eq_true, Bool.or_eq_true, Bool.not_eq_true'] at h;obtain ⟨⟨h1, h2⟩, h3⟩ := h;obtain ⟨n, q⟩ := nQ h3;refine ⟨List.nodup_cons.2 ⟨by simpa using h2, n⟩, ?_⟩
  intro r1 i r2 e x hx;cases r1 with
  | nil => simp at hx
  | cons z r1 =>
   simp only [List.cons_append, List.cons.injEq] at e;obtain ⟨rfl, rfl⟩ := e;rcases List.mem_cons.1 hx with rfl | hx
   ·exact h1 i (by simp)
   ·exact q r1 i r2 rfl x hx
theorem mR {ops : Array Oper} {eff stg anc : List Nat} (p : Nat → Bool) : ∀ {r : List Nat}, pwB ops eff stg anc r = true → pwB ops eff stg anc (r.filter p) = true
 | [], _ => rfl
 | y :: r, h => by
  simp only [pwB, Bool.and_eq_true, List.all_eq_true, Bool.or_eq_true, Bool.not_eq_true'] at h;obtain ⟨⟨h1, h2⟩, h3⟩ := h;have ih := mR p h3;simp only [List.filter_cons];split
  ·simp only [pwB, Bool.and_eq_true, List.all_eq_true, Bool.or_eq_true, Bool.not_eq_true', ih, and_true];refine ⟨fun i hi => h1 i (List.mem_filter.1 hi).1, ?_⟩
   simp at h2 ⊢;exact fun h => absurd h h2
  ·exact ih
theorem xK {E : Env} {l : List Oper} {eff stg anc ord : List Nat} {Q : Post} (hA : nK anc l 0 = true) (hP : pwB l.toArray eff stg anc ord = true) (hcov : ∀ i, i < l.length → i ∈ ord) (hin : ∀ i ∈ ord, i < l.length) :
  ∀ (fuel : Nat) (listed : Array Bool) (r : List Nat) (S : List Asn) (K : Hl) (M : List Asn) (a : Act) (w : World), listed.size = l.length → r = ord.filter (fun i => !listed.getD i true) → fuel = r.length → Down l.toArray listed →
   DX E l.toArray eff stg Q r S K M a → In E.w0 E.F K (S ++ M) w → wpAnyIn Fence.wide 0 E.P .any l.toArray Q fuel listed a w := by
 intro fuel;induction fuel with
 | zero =>
  intro listed r S K M a w hsz hr hf hd h j;have hr0 : r = [] := List.length_eq_zero_iff.1 hf.symm;subst hr0;have hall : ∀ i, i < l.length → listed.getD i true = true := by
   intro i hi;cases hb : listed.getD i true with
   | true => rfl
   | false =>
    have : i ∈ ord.filter (fun i => !listed.getD i true) := List.mem_filter.2 ⟨hcov i hi, by rw [hb]; rfl⟩;rw [← hr] at this; simp at this
  refine ⟨?_, h w j⟩
  refine List.eq_nil_iff_forall_not_mem.2 fun i hi => ?_
  obtain ⟨h1, h2, _⟩ := kU.1 hi;rw [hall i (by simpa using h1)] at h2; cases h2
 | succ fuel ih =>
  intro listed r S K M a w hsz hr hf hd h j;have hne : r ≠ [] := by rintro rfl; simp at hf
  refine ⟨fun h0 => ?_, fun i hi => ?_⟩
  ·
   exfalso
   have key : ∀ (n i : Nat), i = n → i < l.length → listed.getD i true = false → False := by
    intro n;induction n using Nat.strongRecOn with
    | _ n ihn =>
     rintro i rfl hil hb;have hi : i ∈ Region.ready .any l.toArray listed := by
      refine kU.2 ⟨by simpa using hil, hb, l[i], by simp [List.getElem?_eq_getElem hil], fun e he hbd => ?_⟩
      have hlt := (mF hA (i := i) (o := l[i]) (by simp [List.getElem?_eq_getElem hil])).1 e he hbd;simp only [Nat.zero_add] at hlt;have hel : e.on < listed.size := by rw [hsz]; exact Nat.lt_trans hlt hil
      cases hc : listed.getD e.on true with
      | false => exact absurd hc (fun hc => ihn e.on hlt e.on rfl (Nat.lt_trans hlt hil) hc)
      | true =>
       rw [Array.getD_eq_getD_getElem?] at hc ⊢
       simpa [Array.getElem?_eq_getElem hel] using hc
     rw [h0] at hi; simp at hi
   obtain ⟨i, hi⟩ := List.exists_mem_of_ne_nil r hne;rw [hr] at hi;obtain ⟨h1, h2⟩ := List.mem_filter.1 hi;exact key i i rfl (hin i h1) (by simpa using h2)
  ·obtain ⟨h1, h2, o, ho, h3⟩ := kU.1 hi;have hil : i < l.length := by simpa using h1
   have hol : l[i]? = some o := by simpa using ho
   have hmem : i ∈ r := by rw [hr]; exact List.mem_filter.2 ⟨hcov i hil, by rw [h2]; rfl⟩
   obtain ⟨r1, r2, hsplit⟩ := List.append_of_mem hmem;have hPr : pwB l.toArray eff stg anc r = true := by rw [hr]; exact mR _ hP
   obtain ⟨hnd, hq⟩ := nQ hPr;have hsw : ∀ x ∈ r1, pG l.toArray eff stg x i = true := by
    intro x hx;rcases hq r1 i r2 hsplit x hx with hb | hb
    ·exfalso
     have hxl := qX hA hsz hd hol h3 hb;have hxr : x ∈ r := by rw [hsplit]; simp [hx]
     rw [hr] at hxr;obtain ⟨hxo, hxn⟩ := List.mem_filter.1 hxr;have hxs : x < listed.size := by rw [hsz]; exact hin x hxo
     rw [Array.getD_eq_getD_getElem?] at hxl;simp [Array.getElem?_eq_getElem hxs] at hxl hxn;rw [hxl] at hxn; cases hxn
    ·exact hb
   rw [hsplit] at h;have hfront := oU r1 hsw h;have his : i < listed.size := by rw [hsz]; exact hil
   have hr' : r1 ++ r2 = ord.filter (fun k => !(listed.setIfInBounds i true).getD k true) := by
    have hset : ∀ k, (listed.setIfInBounds i true).getD k true = (if k = i then true else listed.getD k true) := by
     intro k;rw [Array.getD_eq_getD_getElem?, Array.getD_eq_getD_getElem?, Array.getElem?_setIfInBounds]
     by_cases hk : i = k
     ·subst hk; simp [his]
     ·simp [hk, Ne.symm hk]
    have e1 : ord.filter (fun k => !(listed.setIfInBounds i true).getD k true) = r.filter (fun k => k != i) := by
     rw [hr, List.filter_filter];refine List.filter_congr fun k _ => ?_
     rw [hset k]
     by_cases hk : k = i
     ·subst hk; simp
     ·simp [hk]
    rw [e1, hsplit, List.filter_append, List.filter_cons];rw [hsplit] at hnd;have hn := List.nodup_append.1 hnd;have hn2 := List.nodup_cons.1 hn.2.1;simp only [bne_self_eq_false, Bool.false_eq_true, if_false];rw [List.filter_eq_self.2, List.filter_eq_self.2]
    ·intro k hk; simp only [bne_iff_ne]; rintro rfl; exact hn2.1 hk
    ·intro k hk; simp only [bne_iff_ne]; rintro rfl; exact hn.2.2 k hk k (List.mem_cons_self ..) rfl
   have hd' : Down l.toArray (listed.setIfInBounds i true) := by
    intro k ok hk hok e he hb;have up : listed.getD e.on false = true → (listed.setIfInBounds i true).getD e.on false = true := by
     intro q;rw [Array.getD_eq_getD_getElem?] at q ⊢;rw [Array.getElem?_setIfInBounds]
     by_cases hk : i = e.on
     ·subst hk; simp [his]
     ·simpa [hk] using q
    by_cases hki : k = i
    ·subst hki;rw [ho] at hok; cases hok
     exact up (h3 e he hb)
    ·refine up (hd k ok ?_ hok e he hb)
     rw [Array.getD_eq_getD_getElem?] at hk ⊢;rw [Array.getElem?_setIfInBounds, if_neg (Ne.symm hki)] at hk;exact hk
   have hlen : fuel = (r1 ++ r2).length := by
    have := congrArg List.length hsplit;simp at this hf ⊢; omega
   have step : ∀ S' K' M' a' w', DX E l.toArray eff stg Q (r1 ++ r2) S' K' M' a' → In E.w0 E.F K' (S' ++ M') w' → wpAnyIn Fence.wide 0 E.P .any l.toArray Q fuel (listed.setIfInBounds i true) a' w' :=
    fun S' K' M' a' w' hdx j' => ih _ (r1 ++ r2) S' K' M' a' w' (by simp [hsz]) hr' hlen hd' hdx j'
   unfold wpOpIn;simp only [ho];unfold DX at hfront;simp only [ho] at hfront
   by_cases hw : Region.wanted o (yielded l.toArray a.tmps) = true
   ·simp only [hw, if_true] at hfront ⊢
    by_cases hg : stg.contains i = true
    ·simp only [hg, if_true] at hfront;exact ((hfront w j).wp fun u w' ⟨K', S', M', le, j', hr⟩ => step S' K' M' _ w' hr j')
    simp only [hg, if_false, Bool.false_eq_true] at hfront
    by_cases he : eff.contains i = true
    ·simp only [he, if_true] at hfront;exact ((hfront w j).wp fun u w' ⟨K', M', le, j', hr⟩ => step S K' M' _ w' hr j')
    ·simp only [he, if_false, Bool.false_eq_true] at hfront;obtain ⟨v, hv, hr⟩ := hfront;refine ⟨fun _ _ => trivial, ?_⟩
     rw [aCJ, hv K M w (Hl.le_refl _) j];exact step S K M _ w hr j
   ·simp only [hw, if_false, Bool.false_eq_true] at hfront ⊢;exact ⟨fun _ _ => trivial, step S K M _ w hfront j⟩
theorem q5 {E : Env} {l : List Oper} {eff stg anc ord : List Nat} {S M : List Asn} {Q : Post} {id : Nat} {K : Hl} {a : Act} {w : World} (hm : E.P.follows .mixedOrders = true) (hok : wC l eff stg anc ord = true)
  (h : DX E l.toArray eff stg Q ord S K M a) (j : In E.w0 E.F K (S ++ M) w) : (Code.region id l.toArray true).wp E.P Q a w := by
 simp only [wC, Bool.and_eq_true, List.all_eq_true] at hok;obtain ⟨⟨⟨⟨hA, hP⟩, hcov⟩, hin⟩, hle⟩ := hok;refine wpIn_wide.1 (wpIn_region_any (n := 0) hm ?_)
 have hfil : ord.filter (fun i => !(Array.replicate l.toArray.size false).getD i true) = ord := by
  refine List.filter_eq_self.2 fun i hi => ?_
  have : i < l.length := by have := hin i hi; simp [Nat.blt] at this; omega
  rw [Array.getD_eq_getD_getElem?];simp [this]
 have hlen : ord.length = l.toArray.size := by simpa using Nat.eq_of_beq_eq_true hle
 refine xK (E := E) (eff := eff) (stg := stg) (anc := anc) (ord := ord) hA hP (fun i hi => by have := hcov i (List.mem_range.2 hi); simpa using this) (fun i hi => by have := hin i hi; simp [Nat.blt] at this; omega) l.toArray.size _ ord S K M a _ (by simp) hfil.symm hlen.symm ?_ h (j.drew _)
 intro k ok hk hok;rw [Array.getD_eq_getD_getElem?] at hk;have : k < l.toArray.size := by
  rcases Nat.lt_or_ge k l.toArray.size with h | h
  ·exact h
  ·rw [Array.getElem?_eq_none h] at hok; cases hok
 simp at this;simp [this] at hk
theorem aO {E : Env} {x : Exit} {fr : Fr} {K : Hl} {As L M : List Asn} {Q : Post} (hL : Tks As L M) (h : D E x fr K As Q) : D E x fr K L Q := fun a w f i => h a w f (i.imp hL.sat).left
theorem aFU {E : Env} {c : Code} {fr : Fr} {K : Hl} {As L M : List Asn} {Q : Post} (hL : Tks As L M) (h : T E c fr K As Q) : T E c fr K L Q := fun a w f i => h a w f (i.imp hL.sat).left
def DL (E : Env) (ops : Array Oper) (eff stg : List Nat) (S : List Asn) (r : List Nat) (fr : Fr) (K : Hl) (M : List Asn) (Q : Post) : Prop :=
 ∀ a, FrOk E.n E.ds fr a → DX E ops eff stg Q r S K M a
inductive GOk (ops : Array Oper) (fr : Fr) (o : Oper) : Bool → Prop where
 | none : o.guard = .none → GOk ops fr o true
 | on {g dg : Nat} {c : Bool} : o.guard = some (g, c) → (ops[g]?).bind (·.dst) = some dg → fr.get dg = some (.bool c) → GOk ops fr o true
 | off {g dg : Nat} {c : Bool} : o.guard = some (g, c) → (ops[g]?).bind (·.dst) = some dg → fr.get dg = some (.bool (!c)) → GOk ops fr o false
 | offu {g dg : Nat} {c : Bool} : o.guard = some (g, c) → (ops[g]?).bind (·.dst) = some dg → fr.get dg = some undef → GOk ops fr o false
theorem GOk.wanted {ops : Array Oper} {fr : Fr} {o : Oper} {b : Bool} (h : GOk ops fr o b) {n : Nat} {ds : List Deferred} {a : Act} (f : FrOk n ds fr a) : Region.wanted o (yielded ops a.tmps) = b := by
 cases h with
 | none h => simp [Region.wanted, h]
 | on h1 h2 h3 => simp [Region.wanted, h1, yielded, h2, f.get _ _ h3]
 | off h1 h2 h3 => simp [Region.wanted, h1, yielded, h2, f.get _ _ h3]
 | offu h1 h2 h3 => simp [Region.wanted, h1, yielded, h2, f.get _ _ h3, undef]
section
variable {E : Env} {ops : Array Oper} {eff stg : List Nat} {S : List Asn} {r : List Nat} {fr : Fr} {K : Hl} {M L : List Asn} {Q : Post} {i : Nat} {o : Oper}
theorem t_draw {l : List Oper} {anc ord : List Nat} {id : Nat} (eff stg : List Nat) (hm : E.P.follows .mixedOrders = true) (hok : wC l eff stg anc ord = true) (hL : Tks S L M)
  (h : DL E l.toArray eff stg S ord fr K M Q) : T E (.region id l.toArray true) fr K L Q :=
 fun a w f j => q5 hm hok (h a f) (j.imp hL.sat)
theorem dl_nil (h : D E .normal fr K (S ++ M) Q) : DL E ops eff stg S [] fr K M Q := fun a f w j => h a w f j
theorem dl_ev {d : Nat} {v : Value} (ho : ops[i]? = some o) (hd : o.dst = some d) (hg : GOk ops fr o true) (hg0 : stg.contains i = false) (he : eff.contains i = false) (hv : Ev E fr K S o v) (hn : Nat.blt d E.n = true)
  (h : DL E ops eff stg S r ((d, v) :: fr) K M Q) : DL E ops eff stg S (i :: r) fr K M Q := by
 intro a f;unfold DX;simp only [ho, hg.wanted f, if_true, hg0, he, Bool.false_eq_true, if_false];refine ⟨v, fun K' M' w le j => hv a w f (j.left.weaken le), ?_⟩
 rw [hd]; exact h _ (f.put hn v)
theorem dl_off {d : Nat} (ho : ops[i]? = some o) (hd : o.dst = some d) (hg : GOk ops fr o false) (hn : Nat.blt d E.n = true) (h : DL E ops eff stg S r ((d, undef) :: fr) K M Q) : DL E ops eff stg S (i :: r) fr K M Q := by
 intro a f;unfold DX;simp only [ho, hg.wanted f, Bool.false_eq_true, if_false];rw [hd]; exact h _ (f.put hn undef)
theorem dl_s {d : Nat} {N : Value → Hl → List Asn → Prop} (ho : ops[i]? = some o) (hd : o.dst = some d) (hg : GOk ops fr o true) (hg0 : stg.contains i = false) (he : eff.contains i = true) (hv : EfS E fr K (S ++ M) o N) (hn : Nat.blt d E.n = true)
  (h : ∀ v K' L', N v K' L' → K.le K' → ∃ M', (∀ x, Sat L' x → Sat (S ++ M') x) ∧ DL E ops eff stg S r ((d, v) :: fr) K' M' Q) : DL E ops eff stg S (i :: r) fr K M Q := by
 intro a f;unfold DX;simp only [ho, hg.wanted f, if_true, hg0, he, Bool.false_eq_true, if_false];intro w j;obtain ⟨u, w', K', L', hr, hN, le, j'⟩ := hv a w f j;obtain ⟨M', hM, hD⟩ := h u K' L' hN le;rcases hr with hr | ⟨hr, rfl⟩
 ·exact .inl ⟨u, w', hr, K', M', le, j'.imp hM, by rw [hd]; exact hD _ (f.put hn u)⟩
 ·exact .inr (.inl ⟨w', hr, K', M', le, j'.imp hM, by rw [hd]; exact hD _ (f.put hn undef)⟩)
theorem dl_callv {d : Nat} {ty : TypeId} {pos : String} {aft : Array Edge} {g : Option (Nat × Bool)} {fv : Operand} {xs : List Operand} {ats : Array TypeId} {f : FuncId} {caps : Array Value} {vs : List Value} {v : Value}
  (ho : ops[i]? = some ⟨some d, .call ⟨.value fv, xs.toArray, ats⟩, ty, pos, aft, g⟩) (hg : GOk ops fr ⟨some d, .call ⟨.value fv, xs.toArray, ats⟩, ty, pos, aft, g⟩ true) (hg0 : stg.contains i = false) (he : eff.contains i = true)
  (hf : fr.ev fv = some (.func (.func f) #[] caps)) (hx : fr.evs xs = some vs) (hs : Sp E.P f (vs ++ caps.toList) K [] (Val v K)) (hn : Nat.blt d E.n = true)
  (h : DL E ops eff stg S r ((d, v) :: fr) K M Q) : DL E ops eff stg S (i :: r) fr K M Q := by
 intro a fo;unfold DX;simp only [ho, hg.wanted fo, if_true, hg0, he, Bool.false_eq_true, if_false];intro w j;obtain ⟨F', i1, back⟩ := In.hide (L := []) (N := S ++ M) j;refine .inr (.inr (.inl ⟨f, _, w, lF hf hx hs fo w, (hs.2 F' w i1).mono fun e w' ⟨K', L', ⟨q1, q2, q3⟩, le, j'⟩ => ?_⟩))
 subst q1; subst q2; subst q3
 exact ⟨_, M, Hl.le_refl _, back j', h _ (fo.put hn v)⟩
theorem rZ {d : Nat} {ty : TypeId} {pos : String} {aft : Array Edge} {g : Option (Nat × Bool)} {fv : Operand} {xs : List Operand} {ats : Array TypeId} {f : FuncId} {caps : Array Value} {vs : List Value} {L1 L2 : List Asn} {R : Ending → Hl → List Asn → Prop}
  (ho : ops[i]? = some ⟨some d, .call ⟨.value fv, xs.toArray, ats⟩, ty, pos, aft, g⟩) (hg : GOk ops fr ⟨some d, .call ⟨.value fv, xs.toArray, ats⟩, ty, pos, aft, g⟩ true) (hg0 : stg.contains i = false) (he : eff.contains i = true)
  (hf : fr.ev fv = some (.func (.func f) #[] caps)) (hx : fr.evs xs = some vs) (hs : Sp E.P f (vs ++ caps.toList) K L1 R) (hL : Tks L1 (S ++ M) L2) (hn : Nat.blt d E.n = true)
  (hout : ∀ K' L', ¬ R .outgrown K' L')
  (hpan : ∀ ch K' L', R (.panicked ch) K' L' → K.le K' → ∀ a w, a.defers = E.ds → In E.w0 E.F K' (L' ++ L2) w → Q (.panic ch) a w)
  (h : ∀ v K' L', R (.returned v) K' L' → K.le K' → ∃ M', (∀ x, Sat (L' ++ L2) x → Sat (S ++ M') x) ∧ DL E ops eff stg S r ((d, v) :: fr) K' M' Q) : DL E ops eff stg S (i :: r) fr K M Q := by
 intro a fo;unfold DX;simp only [ho, hg.wanted fo, if_true, hg0, he, Bool.false_eq_true, if_false];intro w j;obtain ⟨F', i1, back⟩ := (j.imp hL.sat).hide;refine .inr (.inr (.inl ⟨f, _, w, lF hf hx hs fo w, (hs.2 F' w i1).mono fun e w' ⟨K', L', q, le, j'⟩ => ?_⟩))
 cases e with
 | returned v =>
  obtain ⟨M', hM, hD⟩ := h v K' L' q le;exact ⟨K', M', le, (back j').imp hM, hD _ (fo.put hn v)⟩
 | panicked ch => exact fun a' ha' => hpan ch K' L' q le a' w' (ha'.trans fo.defers) (back j')
 | outgrown => exact absurd q (hout _ _)
theorem dl_g {d : Nat} {N : Value → Hl → List Asn → Prop} (ho : ops[i]? = some o) (hd : o.dst = some d) (hg : GOk ops fr o true) (he : stg.contains i = true) (hv : EfS E fr K (S ++ M) o N) (hn : Nat.blt d E.n = true)
  (h : ∀ v K' L', N v K' L' → K.le K' → DL E ops eff stg L' r ((d, v) :: fr) K' [] Q) : DL E ops eff stg S (i :: r) fr K M Q := by
 intro a f;unfold DX;simp only [ho, hg.wanted f, if_true, he];intro w j;obtain ⟨u, w', K', L', hr, hN, le, j'⟩ := hv a w f j;have hD := h u K' L' hN le;rcases hr with hr | ⟨hr, rfl⟩
 ·exact .inl ⟨u, w', hr, K', L', [], le, by simpa using j', by rw [hd]; exact hD _ (f.put hn u)⟩
 ·exact .inr (.inl ⟨w', hr, K', L', [], le, by simpa using j', by rw [hd]; exact hD _ (f.put hn undef)⟩)
theorem r6 {N : Value → Hl → List Asn → Prop} (ho : ops[i]? = some o) (hd : o.dst = none) (hg : GOk ops fr o true) (he : stg.contains i = true) (hv : EfS E fr K (S ++ M) o N)
  (h : ∀ v K' L', N v K' L' → K.le K' → DL E ops eff stg L' r fr K' [] Q) : DL E ops eff stg S (i :: r) fr K M Q := by
 intro a f;unfold DX;simp only [ho, hg.wanted f, if_true, he];intro w j;obtain ⟨u, w', K', L', hr, hN, le, j'⟩ := hv a w f j;have hD := h u K' L' hN le;rcases hr with hr | ⟨hr, rfl⟩
 ·exact .inl ⟨u, w', hr, K', L', [], le, by simpa using j', by rw [hd]; exact hD _ f⟩
 ·exact .inr (.inl ⟨w', hr, K', L', [], le, by simpa using j', by rw [hd]; exact hD _ f⟩)
theorem e6 {d : Nat} {ty : TypeId} {pos : String} {aft : Array Edge} {g : Option (Nat × Bool)} {fv : Operand} {xs : List Operand} {ats : Array TypeId} {f : FuncId} {caps : Array Value} {vs : List Value} {L1 L2 : List Asn} {R : Ending → Hl → List Asn → Prop}
  (ho : ops[i]? = some ⟨some d, .call ⟨.value fv, xs.toArray, ats⟩, ty, pos, aft, g⟩) (hg : GOk ops fr ⟨some d, .call ⟨.value fv, xs.toArray, ats⟩, ty, pos, aft, g⟩ true) (he : stg.contains i = true)
  (hf : fr.ev fv = some (.func (.func f) #[] caps)) (hx : fr.evs xs = some vs) (hs : Sp E.P f (vs ++ caps.toList) K L1 R) (hL : Tks L1 (S ++ M) L2) (hn : Nat.blt d E.n = true)
  (hout : ∀ K' L', ¬ R .outgrown K' L')
  (hpan : ∀ ch K' L', R (.panicked ch) K' L' → K.le K' → ∀ a w, a.defers = E.ds → In E.w0 E.F K' (L' ++ L2) w → Q (.panic ch) a w)
  (h : ∀ v K' L', R (.returned v) K' L' → K.le K' → DL E ops eff stg (L' ++ L2) r ((d, v) :: fr) K' [] Q) : DL E ops eff stg S (i :: r) fr K M Q := by
 intro a fo;unfold DX;simp only [ho, hg.wanted fo, if_true, he];intro w j;obtain ⟨F', i1, back⟩ := (j.imp hL.sat).hide;refine .inr (.inr (.inl ⟨f, _, w, lF hf hx hs fo w, (hs.2 F' w i1).mono fun e w' ⟨K', L', q, le, j'⟩ => ?_⟩))
 cases e with
 | returned v => exact ⟨K', L' ++ L2, [], le, by simpa using back j', h v K' L' q le _ (fo.put hn v)⟩
 | panicked ch => exact fun a' ha' => hpan ch K' L' q le a' w' (ha'.trans fo.defers) (back j')
 | outgrown => exact absurd q (hout _ _)
theorem j4 {d : Nat} {ty : TypeId} {pos : String} {aft : Array Edge} {g : Option (Nat × Bool)} {fv : Operand} {xs : List Operand} {ats : Array TypeId} {f : FuncId} {caps : Array Value} {vs : List Value} {L1 L2 : List Asn} {N : Value → Hl → List Asn → Prop}
  (ho : ops[i]? = some ⟨some d, .call ⟨.value fv, xs.toArray, ats⟩, ty, pos, aft, g⟩) (hg : GOk ops fr ⟨some d, .call ⟨.value fv, xs.toArray, ats⟩, ty, pos, aft, g⟩ true) (he : stg.contains i = true)
  (hf : fr.ev fv = some (.func (.func f) #[] caps)) (hx : fr.evs xs = some vs) (hs : Sp E.P f (vs ++ caps.toList) K L1 (Ret N)) (hL : Tks L1 (S ++ M) L2) (hn : Nat.blt d E.n = true)
  (h : ∀ v K' L', N v K' L' → K.le K' → DL E ops eff stg (L' ++ L2) r ((d, v) :: fr) K' [] Q) : DL E ops eff stg S (i :: r) fr K M Q :=
 e6 ho hg he hf hx hs hL hn (fun K' L' ⟨u, e, n⟩ => by cases e) (fun ch K' L' ⟨u, e, n⟩ => by cases e) (fun v K' L' ⟨u, e, n⟩ le => by cases e; exact h v K' L' n le)
theorem cS : ∀ (L : List Asn), Tks L L []
 | [] => .nil
 | _ :: L => .cons .here (cS L)
theorem vA (d : Nat) {b : Bool} (e : fr.get d = some (.bool b)) (ht : b = true → DL E ops eff stg S r ((d, .bool true) :: fr) K M Q) (hf : b = false → DL E ops eff stg S r ((d, .bool false) :: fr) K M Q) : DL E ops eff stg S r fr K M Q := by
 intro a f;have key : ∀ c, b = c → FrOk E.n E.ds ((d, .bool c) :: fr) a := fun c hc => ⟨f.defers, f.size, fun k v h => by
  simp only [Fr.get] at h
  by_cases hk : d = k
  ·subst hk; simp at h; subst h; rw [← hc]; exact f.get _ _ e
  ·rw [beqF hk] at h; exact f.get _ _ h⟩
 cases b
 ·exact hf rfl a (key _ rfl)
 ·exact ht rfl a (key _ rfl)
theorem dl_splitp (d : Nat) {p : Prop} [Decidable p] (e : fr.get d = some (.bool (decide p))) (ht : p → DL E ops eff stg S r ((d, .bool true) :: fr) K M Q) (hf : ¬ p → DL E ops eff stg S r ((d, .bool false) :: fr) K M Q) : DL E ops eff stg S r fr K M Q :=
 vA d e (fun h => ht (of_decide_eq_true h)) (fun h => hf (of_decide_eq_false h))
end
def Yl (P : Program) (l : Nat) (vs : List Value) (K : Hl) (L : List Asn) (R : Bool → Hl → List Asn → Prop) : Prop :=
 ∀ F w, In w F K L w → ∃ fn tmps assign body, (Instr.yield l vs.toArray).run P w = .ok (.round l fn tmps assign body) w ∧
  RoundIn Fence.wide 0 P l fn tmps assign body w fun e w' => ∃ b K' L', e = .returned (.bool b) ∧ R b K' L' ∧ K.le K' ∧ In w F K' L' w'
theorem dl_round {E : Env} {ops : Array Oper} {eff stg : List Nat} {S : List Asn} {r : List Nat} {fr : Fr} {K : Hl} {M : List Asn} {Q : Post} {i : Nat} {d : Nat} {ty : TypeId} {pos : String} {aft : Array Edge} {g : Option (Nat × Bool)} {fv : Operand} {xs : List Operand} {ats : Array TypeId} {l : Nat} {vs : List Value} {L1 L2 : List Asn} {R : Bool → Hl → List Asn → Prop}
  (ho : ops[i]? = some ⟨some d, .call ⟨.value fv, xs.toArray, ats⟩, ty, pos, aft, g⟩) (hg : GOk ops fr ⟨some d, .call ⟨.value fv, xs.toArray, ats⟩, ty, pos, aft, g⟩ true) (he : stg.contains i = true)
  (hf : fr.ev fv = some (.func (.yield l) #[] #[])) (hx : fr.evs xs = some vs) (hs : Yl E.P l vs K L1 R) (hL : Tks L1 (S ++ M) L2) (hn : Nat.blt d E.n = true)
  (h : ∀ b K' L', R b K' L' → K.le K' → DL E ops eff stg (L' ++ L2) r ((d, .bool b) :: fr) K' [] Q) : DL E ops eff stg S (i :: r) fr K M Q := by
 intro a fo;unfold DX;simp only [ho, hg.wanted fo, if_true, he];intro w j;obtain ⟨F', i1, back⟩ := (j.imp hL.sat).hide;obtain ⟨fn, tm, x, y, hy, hr⟩ := hs F' w i1;refine .inr (.inr (.inr ⟨l, fn, tm, x, y, w, ?_, hr.mono fun e w' ⟨b, K', L', q1, q, le, j'⟩ => ?_⟩))
 ·have e1 : Array.map a.eval xs.toArray = vs.toArray := by simp [fo.evs hx]
  simp only [execOp, resolve, e1, fo.ev hf, Deferred.ofValue, bind, pure, Sem.bind, invoke, Array.empty_append];exact hy
 ·subst q1;exact ⟨K', L' ++ L2, [], le, by simpa using back j', h b K' L' q le _ (fo.put hn _)⟩
end Go.SL.R
end
section
namespace Go.SL
open R (Yl)
abbrev mrk (D : Nat) : Deferred := { target := .collected D, args := #[] }
abbrev dblk (D : Nat) : Asn := pt D (.deferred (some []))
def aN6 (P : Program) (fn : Func) (w0 : World) (F K0 : Hl) (R : Ending → Hl → List Asn → Prop) : Post :=
 bodyPostM Fence.wide 0 P fn fun e w' => ∃ K' L', R e K' L' ∧ K0.le K' ∧ In w0 F K' L' w'
theorem aCP {P : Program} {f : FuncId} {fn : Func} {c : Code} {args : List Value} {n : Nat} {K : Hl} {L : List Asn} {R : Ending → Hl → List Asn → Prop}
  (hf : P.funcs[f]? = some fn) (hb : fn.body = some c) (hn : fn.ntmps = n) (hl : Nat.ble args.length n = true) (hname : (fn.name == "runtime.NumGoroutine") = false)
  (h : ∀ (F : Hl) (w : World), T ⟨P, n, [], w, F⟩ c (Fr.init 0 args n) K L (aN6 P fn w F K R)) : Sp P f args K L R := by
 refine ⟨⟨fn, hf, hname, by simp [hb]⟩, fun F w i => callsIn_wide.1 (callsIn_of_wp_marks (n := 0) hf hb trivial (wpIn_wide.2 (h F w _ _ ⟨rfl, ?_, ?_⟩ i)))⟩
 ·have : args.length ≤ n := Nat.le_of_ble_eq_true hl;simp [hn]; omega
 ·intro k v e;obtain ⟨_, h2⟩ := sB e;have hk : k < args.length := by
   rcases Nat.lt_or_ge k args.length with h | h
   ·exact h
   ·simp [List.getElem?_eq_none h] at h2
  show (args.toArray ++ Array.replicate _ _)[k]? = some v
  rw [Array.getElem?_append_left (by simpa using hk)]
  simpa using h2
theorem aFM {P : Program} {fn : Func} {tmps : Array Value} {R : Ending → World → Prop} {u : FrameMode} (hu : u ≠ .run) {w0 : World} {F K : Hl} {L : List Asn} (fin : ∀ w', In w0 F K L w' → LeavesIn Fence.wide 0 P fn tmps R [] u w') :
  ∀ (ds : List Nat) (w : World), In w0 F K (ds.map dblk ++ L) w → LeavesInM Fence.wide 0 P fn tmps R (ds.map mrk) u w
 | [], w, i => fin w i
 | d :: ds, w, i => by
  have hp := i.piece;refine ⟨hu, .inl ⟨d, _, rfl, run_takeDeferred hp, aFM hu fin ds _ ?_⟩⟩
  have hlt : d < w.heap.size := (Array.getElem?_eq_some_iff.1 hp).1;exact (i.write (o' := .deferred none) (H := w.heap.setIfInBounds d (.deferred none)) (by simp) (by simp [hlt]) (fun x hx => by rw [Array.getElem?_setIfInBounds_ne (Ne.symm hx)])).drop
section
variable {P : Program} {fn : Func} {n : Nat} {w0 : World} {F K0 K : Hl} {fr : Fr} {L : List Asn} {R : Ending → Hl → List Asn → Prop}
theorem zC {t : Nat} {v : Value} {L0 : List Asn} (ds : List Nat) (hr : fn.results = #[.tmp t]) (ht : fr.get t = some v) (hL : ∀ h, Sat L0 h → Sat (ds.map dblk ++ L) h) (le : K0.le K) (h : R (.returned v) K L) :
  D ⟨P, n, ds.map mrk, w0, F⟩ .ret fr K L0 (aN6 P fn w0 F K0 R) := fun a w f i => by
 show LeavesInM Fence.wide 0 P fn a.tmps _ a.defers .returning w
 rw [f.defers];refine aFM (by simp) (fun w' j => ?_) ds w (i.imp hL)
 exact ⟨v, by rw [results_tmp hr]; simp [f.get _ _ ht], K, L, h, le, j⟩
end
section
variable {E : Env} {fr : Fr} {K : Hl} {L L1 L2 : List Asn} {Q : Post}
abbrev Env.mark (E : Env) (D : Nat) : Env := ⟨E.P, E.n, mrk D :: E.ds, E.w0, E.F⟩
theorem aFT {g : Operand} {ps : Array Tmp} {assign body : Code} {f : FuncId} {caps : Array Value} {RR : Loop → Nat → Nat → Ending → Hl → List Asn → Prop} (hg : fr.ev g = some (.func (.func f) #[] caps)) (hL : Tks L1 L L2)
  (hs : ∀ (r : Loop) (l d : Nat), r.state = .ready → r.pending = none → r.params = ps → r.assign = assign → r.body = body → r.tmps.size = E.n → (∀ k v, fr.get k = some v → r.tmps[k]? = some v) →
   Sp E.P f (.func (.yield l) #[] #[] :: caps.toList) K (pt l (.loop r) :: dblk d :: L1) (RR r l d))
  (hend : ∀ r l d e K' L', RR r l d e K' L' → K.le K' → ∃ v r' M, e = .returned v ∧ (∀ h, Sat L' h → Sat (pt l (.loop r') :: M) h) ∧ r'.state ≠ .busy ∧
   match r'.pending with
   | none => D (E.mark d) .normal fr K' (M ++ L2) Q
   | some c => T (E.mark d) c fr K' (M ++ L2) Q) :
  T E (.rangeFunc g ps assign body) fr K L Q := by
 intro a w fo i;refine (wpIn_wide (n := 0)).1 (wpIn_rangeFunc fun fn _ => ?_)
 let r : Loop := { state := .ready, pending := none, fn, tmps := a.tmps, params := ps, assign, body, defers := w.heap.size }
 have i3 := (i.alloc (.deferred (some []))).alloc (.loop r);have hsz : ({ w with heap := w.heap.push (.deferred (some [])) } : World).heap.size = w.heap.size + 1 := by simp
 rw [hsz] at i3;obtain ⟨F', i1, back⟩ := (i3.imp (M := (pt (w.heap.size + 1) (.loop r) :: dblk w.heap.size :: L1) ++ L2) (fun h => dS fun h => dS fun h k => hL.sat h k)).hide;have hs' := hs r (w.heap.size + 1) w.heap.size rfl rfl rfl rfl rfl fo.size fo.get;obtain ⟨⟨fd, g1, g2, g3⟩, hcall⟩ := hs';have ev : ∀ x : Value, a.eval (.const x) = x := fun _ => rfl
 refine ⟨w.heap.size + 1, [mrk w.heap.size], _, { target := .fn (.func f) caps, args := #[.func (.yield (w.heap.size + 1)) #[] #[]] }, (w.alloc (.deferred (some []))).alloc (.loop r), f, (.func (.yield (w.heap.size + 1)) #[] #[] :: caps.toList).toArray, (w.alloc (.deferred (some []))).alloc (.loop r), run_enterLoop_outer fn a.tmps ps assign body, ?_, fun _ _ => trivial, ?_, fun h => Bool.noConfusion h, callsIn_wide.2 ((hcall F' _ i1).mono fun e w' ⟨K', L', q, le, j⟩ => ?_)⟩
 ·simp only [resolve, rangeCall, fo.ev hg, Deferred.ofValue, bind, pure, Sem.bind, List.map_toArray, List.map_cons, List.map_nil, ev, Array.empty_append]
  rfl
 ·have e2 : #[Value.func (.yield (w.heap.size + 1)) #[] #[]] ++ caps = (.func (.yield (w.heap.size + 1)) #[] #[] :: caps.toList).toArray := by simp
  simp only [invoke];rw [e2];exact zH g1 g2 g3 _
 ·obtain ⟨v, r', M, rfl, hM, hst, hgo⟩ := hend _ _ _ _ _ _ q le;have j2 : In E.w0 E.F K' (pt (w.heap.size + 1) (.loop r') :: (M ++ L2)) w' := (back j).imp fun h k => by
   obtain ⟨x, y, hx, hy, hd, rfl⟩ := e9.1 k;exact e9 (L := pt (w.heap.size + 1) (.loop r') :: M).2 ⟨x, y, hM _ hx, hy, hd, rfl⟩
  have hp := j2.piece;have hlt : w.heap.size + 1 < w'.heap.size := (Array.getElem?_eq_some_iff.1 hp).1;have j3 : In E.w0 E.F K' (M ++ L2) (w'.putObj (w.heap.size + 1) (.loop { r' with state := .exhausted })) :=
   (j2.write (o' := .loop { r' with state := .exhausted }) (H := w'.heap.setIfInBounds (w.heap.size + 1) (.loop { r' with state := .exhausted })) (by simp) (by simp [hlt]) (fun x hx => by rw [Array.getElem?_setIfInBounds_ne (Ne.symm hx)])).drop
  have fo' : FrOk E.n (mrk w.heap.size :: E.ds) fr { a with defers := [mrk w.heap.size] ++ a.defers } := ⟨by simp [fo.defers], fo.size, fo.get⟩;refine ⟨r'.pending, _, run_endLoop hp hst, ?_⟩
  generalize w'.putObj (w.heap.size + 1) (.loop { r' with state := .exhausted }) = W at j3 ⊢
  cases hpe : r'.pending with
  | none => rw [hpe] at hgo; exact hgo _ _ fo' j3
  | some c => rw [hpe] at hgo; exact wpIn_wide.2 (hgo _ _ fo' j3)
end
def TR (E : Env) (l : Nat) (c : Code) (fr : Fr) (K : Hl) (L : List Asn) (Q : Post) : Prop :=
 ∀ a w, FrOk E.n E.ds fr a → In E.w0 E.F K L w → c.wpIn (Fence.wide.inRound l) 0 E.P Q a w
def OR (E : Env) (l : Nat) (ops : Array Oper) (os : List Oper) (fr : Fr) (K : Hl) (L : List Asn) (Q : Post) : Prop :=
 ∀ a w, FrOk E.n E.ds fr a → In E.w0 E.F K L w → wpListIn (Fence.wide.inRound l) 0 E.P ops Q os a w
section
variable {E : Env} {fr : Fr} {K : Hl} {L : List Asn} {Q : Post} {c x y : Code} {ops : Array Oper} {rest : List Oper} {l : Nat}
theorem aNT (h : D E .normal fr K L Q) : TR E l .skip fr K L Q := fun a w f i => wpIn_skip (h a w f i)
theorem aNS {id : Nat} (h : D E (.exit id) fr K L Q) : TR E l (.exit id) fr K L Q := fun a w f i => wpIn_exit (h a w f i)
theorem aCY {id : Nat} (h : TR E l c fr K L (Exit.inBlock id Q)) : TR E l (.block id c) fr K L Q := fun a w f i => wpIn_block (h a w f i)
theorem yY {id : Nat} {os : List Oper} (h : OR E l os.toArray os fr K L Q) : TR E l (.region id os.toArray false) fr K L Q := fun a w f i => wpIn_region_lit (h a w f i)
theorem aKN (h : D E .normal fr K L Q) : OR E l ops [] fr K L Q := fun a w f i => wpListIn_nil (h a w f i)
def aFO : Op → Bool | .defer _ => false | _ => true
theorem rK {o : Oper} (h : aFO o.op = true) : ∀ c, o.op ≠ .defer c := fun c e => by rw [e] at h; cases h
theorem aKM {d : Nat} {op : Op} {ty : TypeId} {pos : String} {aft : Array Edge} {v : Value} (hv : Ev E fr K L ⟨some d, op, ty, pos, aft, none⟩ v) (hd : Nat.blt d E.n = true) (ho : aFO op = true)
  (h : OR E l ops rest ((d, v) :: fr) K L Q) : OR E l ops (⟨some d, op, ty, pos, aft, none⟩ :: rest) fr K L Q := by
 intro a w f i;refine wpListIn_plain rfl fun k hk => ⟨fun _ _ => trivial, ?_⟩
 rw [Oper.semAt_eq _ _ _ (rK ho), hv a w f i];exact hk _ _ (h _ _ (f.put hd v) i)
theorem or_s {d : Nat} {op : Op} {ty : TypeId} {pos : String} {aft : Array Edge} {N : Value → Hl → List Asn → Prop} (hv : EfS E fr K L ⟨some d, op, ty, pos, aft, none⟩ N) (hd : Nat.blt d E.n = true) (ho : aFO op = true)
  (h : ∀ v K' L', N v K' L' → K.le K' → OR E l ops rest ((d, v) :: fr) K' L' Q) : OR E l ops (⟨some d, op, ty, pos, aft, none⟩ :: rest) fr K L Q := by
 intro a w f i;refine wpListIn_plain rfl fun k hk => ⟨fun _ _ => trivial, ?_⟩
 rw [Oper.semAt_eq _ _ _ (rK ho)];obtain ⟨u, w', K', L', hr, hN, le, j⟩ := hv a w f i;rcases hr with hr | ⟨hr, rfl⟩
 ·rw [hr]; exact hk _ _ (h _ _ _ hN le _ _ (f.put hd u) j)
 ·rw [hr]; exact hk _ _ (h _ _ _ hN le _ _ (f.put hd _) j)
theorem aQT {op : Op} {ty : TypeId} {pos : String} {aft : Array Edge} {N : Value → Hl → List Asn → Prop} (hv : EfS E fr K L ⟨none, op, ty, pos, aft, none⟩ N) (ho : aFO op = true)
  (h : ∀ v K' L', N v K' L' → K.le K' → OR E l ops rest fr K' L' Q) : OR E l ops (⟨none, op, ty, pos, aft, none⟩ :: rest) fr K L Q := by
 intro a w f i;refine wpListIn_plain rfl fun k hk => ⟨fun _ _ => trivial, ?_⟩
 rw [Oper.semAt_eq _ _ _ (rK ho)];obtain ⟨u, w', K', L', hr, hN, le, j⟩ := hv a w f i;rcases hr with hr | ⟨hr, rfl⟩
 ·rw [hr]; exact hk _ _ (h _ _ _ hN le _ _ f j)
 ·rw [hr]; exact hk _ _ (h _ _ _ hN le _ _ f j)
end
abbrev _root_.Go.Loop.bz (r : Loop) : Loop := { r with state := .busy }
abbrev _root_.Go.Loop.on (r : Loop) : Loop := { r with state := .ready, pending := none }
abbrev _root_.Go.Loop.off (r : Loop) (c : Code) : Loop := { r with state := .done, pending := some c }
def aQF (P : Program) (l : Nat) (r : Loop) (w0 : World) (F K0 : Hl) (R : Bool → Hl → List Asn → Prop) : Post
 | .normal, _, w => ∃ K' M, In w0 F K' (pt l (.loop r.bz) :: M) w ∧ K0.le K' ∧ R true K' (pt l (.loop r.on) :: M)
 | .exit id, _, w => ∃ K' M, In w0 F K' (pt l (.loop r.bz) :: M) w ∧ K0.le K' ∧ R false K' (pt l (.loop (r.off (.exit id))) :: M)
 | _, _, _ => False
theorem aOZ {P : Program} {l p n : Nat} {r : Loop} {v : Value} {fr0 fr1 : Fr} {K : Hl} {L : List Asn} {R : Bool → Hl → List Asn → Prop} (hr : r.state = .ready) (hp : r.params = #[p]) (hpn : Nat.blt p n = true) (hsz : r.tmps.size = n)
  (hfr : ∀ k v, fr0.get k = some v → r.tmps[k]? = some v)
  (hA : ∀ (F : Hl) (w : World) (Q : Post), D ⟨P, n, [], w, F⟩ .normal fr1 K (pt l (.loop r) :: L) Q → TR ⟨P, n, [], w, F⟩ l r.assign ((p, v) :: fr0) K (pt l (.loop r) :: L) Q)
  (hB : ∀ (F : Hl) (w : World), TR ⟨P, n, [], w, F⟩ l r.body fr1 K (pt l (.loop r.bz) :: L) (aQF P l r w F K R)) : Yl P l [v] K (pt l (.loop r) :: L) R := by
 intro F w i;have hc := i.piece;refine ⟨r.fn, _, r.assign, r.body, run_yield hc (by simp [hp]), roundIn_of_wpIn trivial ?_⟩
 have f0 : FrOk n [] ((p, v) :: fr0) { tmps := r.tmps.setIfInBounds p v, defers := [] } := FrOk.put (a := { tmps := r.tmps, defers := [] }) ⟨rfl, hsz, hfr⟩ hpn v;have e0 : (r.params.zip [v].toArray).foldl (fun tmps (t, a) => tmps.setIfInBounds t a) r.tmps = r.tmps.setIfInBounds p v := by simp [hp]
 rw [e0];refine hA F w _ (fun a₁ w₁ f₁ j => ?_) _ _ f0 i
 have hc1 := j.piece;refine ⟨_, run_beginRound hc1 hr, ?_⟩
 have hlt : l < w₁.heap.size := (Array.getElem?_eq_some_iff.1 hc1).1;have j2 : In w F K (pt l (.loop r.bz) :: L) (w₁.putObj l (.loop r.bz)) :=
  j.write (o' := .loop r.bz) (H := w₁.heap.setIfInBounds l (.loop r.bz)) (by simp) (by simp [hlt]) (fun x hx => by rw [Array.getElem?_setIfInBounds_ne (Ne.symm hx)])
 refine wpIn_mono (hB F w _ _ f₁ j2) fun e a w' q => ?_
 have fin : ∀ (jump : Option Code) (K' : Hl) (M : List Asn) (r' : Loop), In w F K' (pt l (.loop r.bz) :: M) w' → K.le K' → r' = { r.bz with state := if jump.isNone then .ready else .done, pending := jump } → R jump.isNone K' (pt l (.loop r') :: M) →
   ∃ v w'', (Instr.endRound l jump).run P w' = .ok v w'' ∧ ∃ b K' L', Ending.returned v = .returned (.bool b) ∧ R b K' L' ∧ K.le K' ∧ In w F K' L' w'' := by
  intro jump K' M r' j le er hR;have hc2 := j.piece;have hlt2 : l < w'.heap.size := (Array.getElem?_eq_some_iff.1 hc2).1;refine ⟨_, _, run_endRound jump hc2, jump.isNone, K', _, rfl, hR, le, ?_⟩
  subst er;exact j.write (H := w'.heap.setIfInBounds l _) (by simp) (by simp [hlt2]) (fun x hx => by rw [Array.getElem?_setIfInBounds_ne (Ne.symm hx)])
 cases e with
 | normal => obtain ⟨K', M, j, le, hR⟩ := q; exact fin none K' M _ j le rfl hR
 | exit id => obtain ⟨K', M, j, le, hR⟩ := q; exact fin (some (.exit id)) K' M _ j le rfl hR
 | goto t => exact q.elim
 | ret => exact q.elim
 | panic ch => exact q.elim
 | outgrown => exact q.elim
theorem aMD {P : Program} {l : Nat} {vs : List Value} {K : Hl} {L L' : List Asn} {R : Bool → Hl → List Asn → Prop} (k : ∀ h, Sat L h → Sat L' h) (h : Yl P l vs K L' R) : Yl P l vs K L R :=
 fun F w i => h F w (i.imp k)
theorem aF7 {P : Program} {l : Nat} {vs : List Value} {K : Hl} {L : List Asn} {R R' : Bool → Hl → List Asn → Prop} (h : Yl P l vs K L R) (k : ∀ b K' L', R b K' L' → ∃ L'', (∀ h, Sat L' h → Sat L'' h) ∧ R' b K' L'') : Yl P l vs K L R' := by
 intro F w i;obtain ⟨fn, t, x, y, e, hr⟩ := h F w i;refine ⟨fn, t, x, y, e, hr.mono fun en w' ⟨b, K', L', e1, r, le, j⟩ => ?_⟩
 obtain ⟨L'', hs, r'⟩ := k _ _ _ r;exact ⟨b, K', L'', e1, r', le, j.imp hs⟩
theorem aQR {r : Loop} (h1 : r.state = .ready) (h2 : r.pending = none) : r.on = r := by cases r; simp_all
theorem aCG {A B : List Asn} {h : Hl} (k : Sat (A ++ B) h) : Sat (B ++ A) h := by
 obtain ⟨a, b, ha, hb, hd, rfl⟩ := e9.1 k;exact e9.2 ⟨b, a, hb, ha, hd.symm, Hl.join_comm hd⟩
section
variable {E : Env} {fr : Fr} {K : Hl} {L : List Asn} {Q : Post} {c : Code}
theorem aAO (h : T E c fr K L (Exit.noGoto Q)) : T E (.scope c) fr K L Q := fun a w f i => wp_scope_straight (h a w f i)
theorem mX (h : D E .ret fr K L Q) : D E .ret fr K L (Exit.noGoto Q) := h
theorem aNK {ι : Type} (I : ι → Prop) (ds' : ι → List Deferred) (fr' : ι → Fr) (K' : ι → Hl) (L' : ι → List Asn) (μ : ι → Nat) (i0 : ι) (h0 : I i0) (hd : ds' i0 = E.ds) (k : Kp fr (fr' i0)) (hK : K' i0 = K) (hL : ∀ h, Sat L h → Sat (L' i0) h)
  (round : ∀ i, I i → T ⟨E.P, E.n, ds' i, E.w0, E.F⟩ c (fr' i) (K' i) (L' i) (Exit.then (fun a w => ∃ j, I j ∧ μ j < μ i ∧ FrOk E.n (ds' j) (fr' j) a ∧ In E.w0 E.F (K' j) (L' j) w) Q)) : T E (.loop c) fr K L Q := by
 intro a w f i b kk cs;have key : ∀ n j, μ j = n → I j → ∀ a w, FrOk E.n (ds' j) (fr' j) a → In E.w0 E.F (K' j) (L' j) w →
   ∃ e a' w', Q e a' w' ∧ Arrives E.P (lone (b.at a (.code c :: .inLoop c :: kk)) cs w) b kk cs e a' w' := by
  intro n;induction n using Nat.strongRecOn with
  | _ n ih =>
   intro j hj hIj a w f i;obtain ⟨e, a₁, w₁, hq, harr⟩ := round j hIj a w f i b (.inLoop c :: kk) cs;cases e with
   | normal =>
    obtain ⟨j', hI', hlt, f', i'⟩ := hq;obtain ⟨e₂, a₂, w₂, hq₂, harr₂⟩ := ih _ (hj ▸ hlt) j' rfl hI' _ _ f' i';exact ⟨e₂, a₂, w₂, hq₂, .of_steps (Steps.trans harr (.one step_inLoop)) harr₂⟩
   | exit id => exact ⟨_, a₁, w₁, hq, .pass (x := .inLoop c) rfl (fun _ _ => .inl (by simp)) harr⟩
   | goto l => exact ⟨_, a₁, w₁, hq, .pass (x := .inLoop c) rfl (fun _ _ => .inl (by simp)) harr⟩
   | ret => exact ⟨_, a₁, w₁, hq, .pass (x := .inLoop c) rfl (fun _ _ => .inl (by simp)) harr⟩
   | panic ch => exact ⟨_, a₁, w₁, hq, .pass (x := .inLoop c) rfl (fun _ _ => .inl (by simp)) harr⟩
   | outgrown => exact ⟨_, a₁, w₁, hq, .pass (x := .inLoop c) rfl (fun _ _ => .inl (by simp)) harr⟩
 have f0 : FrOk E.n (ds' i0) (fr' i0) a := by rw [hd]; exact f.keep k
 obtain ⟨e, a', w', hq, harr⟩ := key _ i0 rfl h0 a w f0 (by rw [hK]; exact i.imp hL);exact ⟨e, a', w', hq, .of_steps (.one step_loop) harr⟩
theorem aJF {ι : Type} {P : Program} {n : Nat} {ds : List Deferred} {w0 : World} {F : Hl} {I : ι → Prop} {ds' : ι → List Deferred} {fr' : ι → Fr} {K' : ι → Hl} {L' : ι → List Asn} {μ : ι → Nat} {m : Nat} (j : ι) (hj : I j) (hlt : μ j < m) (hd : ds' j = ds) (k : Kp fr (fr' j)) (hK : K' j = K) (hL : ∀ h, Sat L h → Sat (L' j) h) :
  D ⟨P, n, ds, w0, F⟩ .normal fr K L (Exit.then (fun a w => ∃ j, I j ∧ μ j < m ∧ FrOk n (ds' j) (fr' j) a ∧ In w0 F (K' j) (L' j) w) Q) :=
 fun a w f i => ⟨j, hj, hlt, by rw [hd]; exact f.keep k, by rw [hK]; exact i.imp hL⟩
end
end Go.SL
end
section
namespace Go.Proofs
open Go Go.SL Go.Syn Go.Mach
open R (Yl)
def hdEl : El (List UInt8 × List UInt8) := { e := 25, sz := 2, enc := fun a => [str a.1, str a.2], len := fun _ => rfl, one := fun _ u h => by simp at h; rcases h with rfl | rfl <;> rfl }
theorem oM : ∀ (As : List Asn) (B : Asn), Tks As (B :: As) [B]
 | [], _ => .nil
 | _ :: As, B => .cons (.there .here) (oM As B)
theorem qJ : ∀ (As M : List Asn), Tks As (As ++ M) M
 | [], _ => .nil
 | _ :: As, M => .cons .here (qJ As M)
def f4 (m : Msg) (name : aL) (i : Nat) : List aL := ((m.hs.take i).filter fun h => decide (cU h.1 = name)).map (·.2)
theorem zS (m : Msg) (name : aL) {i : Nat} (h : m.hs.length ≤ i) : f4 m name i = fG m name := by unfold f4 fG; rw [List.take_of_length_le h]
theorem jJ {m : Msg} {name : aL} {i : Nat} {x : aL × aL} (hx : m.hs[i]? = some x) : f4 m name (i + 1) = if cU x.1 = name then f4 m name i ++ [x.2] else f4 m name i := by
 have hi : i < m.hs.length := by
  rcases Nat.lt_or_ge i m.hs.length with h' | h'
  ·exact h'
  ·simp [List.getElem?_eq_none h'] at hx
 have hc : m.hs[i] = x := by simpa [List.getElem?_eq_getElem hi] using hx
 unfold f4;rw [List.take_succ_eq_append_getElem hi, hc, List.filter_append]
 by_cases h : cU x.1 = name
 ·simp [h]
 ·simp [h]
theorem zT (m : Msg) (name : aL) (i : Nat) : f4 m name i <+: fG m name := by
 unfold f4 fG;refine List.IsPrefix.map _ (List.IsPrefix.filter _ (List.take_prefix _ _))
structure FI where
 i : Nat
 K : Hl
 L : List Asn
theorem r7 (l bx by_ b mb : Nat) (m : Msg) (hv pv : Value) (nm : Bool) (s : MS) (name : aL) (K0 : Hl) (L0 : List Asn) (J Jx : List aL → Hl → List Asn → Prop)
  (hbx : K0 bx = some (aU [ptr b] 172)) (hy : K0 by_ = some (aU [str name] 9)) (hh : Ksl hdEl K0 hv m.hs) (hln : m.hs.length ≤ 1000000) (hs : ∀ h ∈ m.hs, h.1.length ≤ 1000000)
  (hJ0 : J [] K0 (mch b mb m hv pv nm s :: L0))
  (hY : ∀ pre x K' L', K0.le K' → J pre K' L' → (pre ++ [x]) <+: fG m name → Yl Tryz.prog l [str x] K' L' fun t K'' L'' => (t = true ∧ J (pre ++ [x]) K'' L'') ∨ (t = false ∧ Jx (pre ++ [x]) K'' L'')) :
  Sp Tryz.prog 307 [.func (.yield l) #[] #[], ptr bx, ptr by_] K0 (mch b mb m hv pv nm s :: L0)
   (Ret fun v K' L' => v = .tuple #[] ∧ K0.le K' ∧ (J (fG m name) K' L' ∨ ∃ pre, pre <+: fG m name ∧ Jx pre K' L')) := by
 refine bB Tryz.func307 rfl Tryz.ntmps307 rfl rfl fun F w => ?_
 refine oP fun av sv f c => ?_
 refine aI (aB ?_);refine aA (aK aRI rfl aM rfl) rfl ?_;refine aA bS rfl ?_;refine aA (aD (o' := 0) cV rfl rfl) rfl ?_;refine aA (aD (o' := 0) jD rfl rfl) rfl ?_;refine aA (aD (o' := 3) pI rfl rfl) rfl ?_;refine aA (aK ts26 rfl aM rfl) rfl ?_;refine aA (cE (k := hdEl) rfl Tryz.underlying26 rfl aM) rfl ?_;refine aA (aC rfl) rfl ?_;refine aG (aE ?_);refine bF ?_;refine yK (dK (m := m) (hv := hv) (pv := pv) (nm := nm) (s := s)) ?_;refine eK (fun (q : FI) => q.i ≤ m.hs.length ∧ K0.le q.K ∧ J (f4 m name q.i) q.K q.L) (fun q => [(0, .func (.yield l) #[] #[]), (2, ptr by_), (11, hv), (12, i64 m.hs.length), (13, i64 q.i)]) (fun q => q.K) (fun q => q.L) (fun q => m.hs.length - q.i) ⟨0, K0, mch b mb m hv pv nm s :: L0⟩ ⟨Nat.zero_le _, Hl.le_refl _, hJ0⟩ (.cons 0 rfl (.cons 2 rfl (.cons 11 rfl (.cons 12 rfl (.cons 13 rfl .nil))))) rfl (fun _ h => h) ?_;intro ⟨i, K1, L1⟩ ⟨hi0, hle, hJ⟩;dsimp only at hi0 hle hJ ⊢;have hh1 := hh.mono hle;have hy1 := hle _ _ hy;refine aI (aB ?_);refine aA (dA rfl rfl) rfl ?_;refine aG (aE ?_);refine aI ?_;refine bE 14 rfl (fun h14 => ?_) (fun h14 => ?_)
 ·
  have hilt : i < m.hs.length := by omega
  obtain ⟨x, hx⟩ : ∃ x, m.hs[i]? = some x := ⟨m.hs[i]'hilt, List.getElem?_eq_getElem hilt⟩;refine a6 ?_;refine aE (aI ?_);refine bF (aI ?_);refine aB ?_;refine aA (b0 (k := hdEl) qK rfl aM rfl rfl (by first | assumption | omega)) rfl ?_;refine aA (fR (n := 0) (k := hdEl) aEL rfl aM bP) rfl ?_;refine ol_s (cO tz25) rfl ?_;rintro _ K _ ⟨b5, rfl, rfl, rfl⟩ -;refine bR (cH aEL rfl rfl rfl a7 (by first | (simp [Value.oneCell']; done) | exact fun c hc => El.one _ _ c hc) (.cons (.cons .nil)) (by intro j hj; simp)) ?_;rintro _ K _ ⟨rfl, rfl⟩ -;refine aG (aE ?_);refine aI ?_;refine R.t_draw (anc := [0, 1, 3, 0, 15, 31, 63, 63, 191, 511, 1023, 2047]) (ord := [0, 1, 3, 2, 4, 5, 6, 7, 8, 9, 10, 11]) [2, 9] [9] mixed (by decide +kernel) (.cons .here .nil) ?_;refine R.dl_ev rfl rfl (.none rfl) rfl rfl (aD (o' := 0) aLQ rfl rfl) rfl ?_;refine R.dl_ev rfl rfl (.none rfl) rfl rfl (aK ts9 rfl aM rfl) rfl ?_;refine R.dl_ev rfl rfl (.none rfl) rfl rfl (aK ts9 rfl aM rfl) rfl ?_;refine R.dl_callv rfl (.none rfl) rfl rfl rfl rfl (fA _ _ (by have := hs x (List.mem_of_getElem? hx); omega)) rfl ?_;refine R.dl_ev rfl rfl (.none rfl) rfl rfl (jF rfl rfl) rfl ?_;refine R.dl_ev rfl rfl (.none rfl) rfl rfl (aC rfl) rfl ?_;refine R.dl_splitp 22 rfl (fun g22 => ?_) (fun g22 => ?_)
  ·
   refine R.dl_ev rfl rfl (.on rfl rfl rfl) rfl rfl (aC rfl) rfl ?_;refine R.dl_ev rfl rfl (.on rfl rfl rfl) rfl rfl (aD (o' := 1) aLR rfl rfl) rfl ?_;refine R.dl_ev rfl rfl (.on rfl rfl rfl) rfl rfl (aK ts9 rfl aM rfl) rfl ?_;have hpre : f4 m name i ++ [x.2] <+: fG m name := (by have := zT m name (i + 1); rwa [jJ hx, if_pos g22] at this);refine R.dl_round rfl (.on rfl rfl rfl) rfl rfl rfl (hY (f4 m name i) x.2 _ _ hle hJ hpre) (oM _ _) rfl ?_;rintro t K2 M2 hR le2;refine R.dl_ev rfl rfl (.on rfl rfl rfl) rfl rfl (by first | exact dM rfl | exact dU rfl) rfl ?_;refine R.dl_ev rfl rfl (.none rfl) rfl rfl (bH rfl rfl) rfl ?_;refine R.dl_nil ?_;refine aE ?_;refine eB 28 rfl (fun h28 => ?_) (fun h28 => ?_)
   ·
    refine bM ?_;refine bQ ?_;refine bC ?_;refine bC ?_;refine bQ ?_;refine aO (by rw [List.append_nil]; exact qJ M2 _) ?_;refine qY rfl (by first | exact Hl.le_trans hle le2 | exact hle) ?_;refine ⟨_, rfl, rfl, Hl.le_trans hle le2, .inr ⟨_, hpre, ?_⟩⟩
    rcases hR with ⟨h, _⟩ | ⟨_, h⟩
    ·exfalso; subst h; simp at h28
    ·exact h
   ·
    refine a6 ?_;refine aN (aE ?_);refine aB ?_;refine aA (bZ rfl rfl aH aH) rfl ?_;refine aA (aC rfl) rfl ?_;refine aG ?_
    first
     | (refine aO (by rw [List.append_nil]; exact qJ M2 _) ?_; exact cL ⟨i + 1, K2, M2⟩ ⟨by (show i + 1 ≤ m.hs.length); omega, Hl.le_trans hle le2, by (show J (f4 m name (i + 1)) K2 M2); rw [jJ hx, if_pos g22]; rcases hR with ⟨_, h⟩ | ⟨h, _⟩; exact h; (exfalso; subst h; simp at h28)⟩ (by (show m.hs.length - (i + 1) < m.hs.length - i); omega) (.cons 0 rfl (.cons 2 rfl (.cons 11 rfl (.cons 12 rfl (.cons 13 rfl .nil))))) rfl (fun _ h => h))
     | (refine aO (oM L1 _) ?_; exact cL ⟨i + 1, _, L1⟩ ⟨by (show i + 1 ≤ m.hs.length); omega, hle, by (show J (f4 m name (i + 1)) _ L1); rw [jJ hx, if_neg g22]; exact hJ⟩ (by (show m.hs.length - (i + 1) < m.hs.length - i); omega) (.cons 0 rfl (.cons 2 rfl (.cons 11 rfl (.cons 12 rfl (.cons 13 rfl .nil))))) rfl (fun _ h => h))
  ·
   refine R.dl_off rfl rfl (.off rfl rfl rfl) rfl ?_;refine R.dl_off rfl rfl (.off rfl rfl rfl) rfl ?_;refine R.dl_off rfl rfl (.off rfl rfl rfl) rfl ?_;refine R.dl_off rfl rfl (.off rfl rfl rfl) rfl ?_;refine R.dl_off rfl rfl (.off rfl rfl rfl) rfl ?_;refine R.dl_ev rfl rfl (.none rfl) rfl rfl (a8 rfl rfl) rfl ?_;refine R.dl_nil ?_;refine aE ?_;refine cQ rfl ?_;refine a6 ?_;refine aN (aE ?_);refine aB ?_;refine aA (bZ rfl rfl aH aH) rfl ?_;refine aA (aC rfl) rfl ?_;refine aG ?_
   first
    | (refine aO (by rw [List.append_nil]; exact qJ M2 _) ?_; exact cL ⟨i + 1, K2, M2⟩ ⟨by (show i + 1 ≤ m.hs.length); omega, Hl.le_trans hle le2, by (show J (f4 m name (i + 1)) K2 M2); rw [jJ hx, if_pos g22]; rcases hR with ⟨_, h⟩ | ⟨h, _⟩; exact h; (exfalso; subst h; simp at h28)⟩ (by (show m.hs.length - (i + 1) < m.hs.length - i); omega) (.cons 0 rfl (.cons 2 rfl (.cons 11 rfl (.cons 12 rfl (.cons 13 rfl .nil))))) rfl (fun _ h => h))
    | (refine aO (oM L1 _) ?_; exact cL ⟨i + 1, _, L1⟩ ⟨by (show i + 1 ≤ m.hs.length); omega, hle, by (show J (f4 m name (i + 1)) _ L1); rw [jJ hx, if_neg g22]; exact hJ⟩ (by (show m.hs.length - (i + 1) < m.hs.length - i); omega) (.cons 0 rfl (.cons 2 rfl (.cons 11 rfl (.cons 12 rfl (.cons 13 rfl .nil))))) rfl (fun _ h => h))
 ·
  refine cY ?_;refine aV ?_;refine aV ?_;refine bL ?_;refine dE rfl (by first | exact Hl.le_trans hle le2 | exact hle) ?_;refine ⟨_, rfl, rfl, hle, .inl ?_⟩
  have := zS m name (i := i) aH;rw [← this]; exact hJ
end Go.Proofs
end
section
namespace Go.Proofs
open Go Go.SL Go.Syn Go.Mach
open R (Yl)
theorem tW (b : Nat) (name : List UInt8) (K : Hl) : Sp Tryz.prog 254 [ptr b, str name] K []
  (Ret fun v K' L' => ∃ bx by_, v = .func (.func 307) #[] #[ptr bx, ptr by_] ∧ K' bx = some (aU [ptr b] 172) ∧ K' by_ = some (aU [str name] 9) ∧ L' = []) := by
 refine bB Tryz.func254 rfl Tryz.ntmps254 rfl rfl fun F w => ?_
 refine aI (aB ?_);refine ol_s (eM rfl rfl) rfl ?_;rintro _ K _ ⟨b2, rfl, rfl, rfl⟩ -;refine ol_s (eM rfl rfl) rfl ?_;rintro _ K _ ⟨b3, rfl, rfl, rfl⟩ -;refine aA (aF rfl) rfl ?_;refine aG (aE ?_);refine aI (aB ?_);refine aA (g9 rfl rfl) rfl ?_;refine aA (aF rfl) rfl ?_;refine aG (aE ?_);refine bM ?_;refine gG fun K1 le1 hK1 => ?_
 refine gG fun K2 le2 hK2 => ?_
 refine bJ rfl rfl (Hl.le_trans le1 le2) ?_;exact ⟨_, rfl, b2, b3, rfl, hK2, le2 _ _ hK1, rfl⟩
theorem aCH {α : Type} {z : Bool} {k : El α} {v : Value} {xs : List α} {L : List Asn} {h : Hl} (hs : Sat (sl z k v xs :: L) h) : ∃ a n c, v = .slice a n c := by
 obtain ⟨a, l, ha, _⟩ := hs;rcases ha with ⟨rfl, _⟩ | ⟨b, cap, junk, fz, rfl, _⟩ <;> exact ⟨_, _, _, rfl⟩
theorem rA (m : Msg) (name : aL) : (fG m name).length ≤ m.hs.length := by
 unfold fG; rw [List.length_map]; exact List.length_filter_le _ _
theorem aF9 (bx by_ b mb : Nat) (m : Msg) (hv pv : Value) (nm : Bool) (s : MS) (name : aL) (sv : Value) (xs : List aL) (K0 : Hl)
  (hbx : K0 bx = some (aU [ptr b] 172)) (hy : K0 by_ = some (aU [str name] 9)) (hh : Ksl hdEl K0 hv m.hs) (hln : m.hs.length ≤ 1000000) (hs : ∀ h ∈ m.hs, h.1.length ≤ 1000000) (hxs : xs.length ≤ 4000000000000) :
  Sp Tryz.prog 304 [sv, .func (.func 307) #[] #[ptr bx, ptr by_]] K0 [sl false (bK 9) sv xs, mch b mb m hv pv nm s]
   (Ret fun v K' L' => L' = [sl false (bK 9) v (xs ++ fG m name), mch b mb m hv pv nm s]) := by
 refine aCP Tryz.func304 rfl Tryz.ntmps304 rfl rfl fun F w => ?_
 refine wO (fun h hs => aCH hs) ?_;rintro ⟨sa, sn, sc, rfl⟩;refine aI (aB ?_);refine ol_s (eM rfl rfl) rfl ?_;rintro _ K _ ⟨b2, rfl, rfl, rfl⟩ -;refine aA (aF rfl) rfl ?_;refine aG (aE ?_);refine aI (aI ?_);refine aB ?_;refine aA (aC rfl) rfl ?_;refine aG (aE ?_);refine bF ?_;refine aFT (RR := fun r l d e K1 L1 => e = .returned (.tuple #[]) ∧ r.state = .ready ∧ r.pending = none ∧ ∃ v, v.oneCell' = true ∧ L1 = [mch b mb m hv pv nm s, pt l (.loop r), dblk d, pt b2 (aU [v] 39), sl false (bK 9) v (xs ++ fG m name)]) rfl (cS _) (fun r l d hr0 hr1 hr2 hr3 hr4 hsz hfr => ?_) (fun r l d e K1 L1 hR le => ?_)
 ·refine tD (M := mch b mb m hv pv nm s :: [pt l (.loop r), dblk d, pt b2 (aU [.slice sa sn sc] 39), sl false (bK 9) (.slice sa sn sc) xs]) (Tks.sat (N := []) (.cons (.there (.there (.there (.there .here)))) (.cons .here (.cons .here (.cons .here (.cons .here .nil)))))) ?_;refine (r7 l bx by_ b mb m hv pv nm s name _ _ (fun pre K1 L1 => ∃ v, v.oneCell' = true ∧ L1 = [mch b mb m hv pv nm s, pt l (.loop r), dblk d, pt b2 (aU [v] 39), sl false (bK 9) v (xs ++ pre)]) (fun _ _ _ => False) hbx hy hh hln hs ⟨.slice sa sn sc, rfl, by rw [List.append_nil]⟩ ?_).mono ?_
  ·rintro pre x K1 _ le1 ⟨v, hv1, rfl⟩ hpre;have hlen : (pre ++ [x]).length ≤ 1000000 := Nat.le_trans hpre.length_le (Nat.le_trans (rA m name) hln);simp only [List.length_append, List.length_singleton] at hlen;refine aMD (Tks.sat (N := []) (.cons (.there .here) (.cons .here (.cons .here (.cons .here (.cons .here .nil)))))) ?_;refine aF7 (aOZ (n := 13) (fr1 := (5, str x) :: (7, str x) :: (6, .func (.func 307) #[] #[ptr bx, ptr by_]) :: (4, .slice none 0 0) :: (2, ptr b2) :: Fr.init 0 [.slice sa sn sc, .func (.func 307) #[] #[ptr bx, ptr by_]] 13) (R := fun t K2 L2 => t = true ∧ ∃ v, v.oneCell' = true ∧ L2 = [pt l (.loop r.on), mch b mb m hv pv nm s, dblk d, pt b2 (aU [v] 39), sl false (bK 9) v (xs ++ (pre ++ [x]))]) hr0 hr2 rfl hsz hfr (fun F w Q hQ => ?_) (fun F w => ?_)) ?_
   ·rw [hr3]; exact yY (aKM (aF rfl) rfl rfl (aKN hQ))
   ·rw [hr4]; refine aCY ?_; refine yY ?_
    refine aKM (aK ts39 rfl (.own (.there (.there (.there .here)))) rfl) rfl rfl ?_;refine aKM (aC rfl) rfl rfl ?_;refine or_s (bO (z0 := [(str [])]) cT tz9 rfl rfl rfl rfl (.cons rfl rfl rfl (.cons .nil) .nil)) rfl rfl ?_;rintro _ K _ ⟨b10, rfl, rfl, rfl⟩ -;refine or_s (dQ (k := bK 9) (ys := [x]) gK rfl rfl (.there (.there (.there (.there (.there .here))))) (fun w j => dN Tryz.underlying39 (SeesSl.at (.blk (.own .here) rfl rfl) j)) (by simp; omega) (by simp; omega)) rfl rfl ?_;rintro v11 K _ ⟨rfl, rfl, ho11⟩ -;refine aQT (bI ts39 rfl rfl ho11 (.there (.there (.there (.there (.there .here))))) .zero rfl) rfl ?_;rintro _ K _ ⟨rfl, rfl⟩ -;refine aKN ?_;refine aN ?_;intro a w fo i;exact ⟨_, [mch b mb m hv pv nm s, dblk d, pt b2 (aU [v11] 39), sl false (bK 9) v11 (xs ++ (pre ++ [x]))], (i.imp (Tks.sat (.cons (.there (.there .here)) (.cons (.there (.there .here)) (.cons (.there (.there .here)) (.cons (.there (.there .here)) (.cons .here .nil))))))).left.imp (fun h k => by rw [← List.append_assoc]; exact k), Hl.le_refl _, rfl, v11, ho11, rfl⟩
   ·rintro t K2 _ ⟨rfl, v2, hv2, rfl⟩;rw [aQR hr0 hr1];exact ⟨_, Tks.sat (N := []) (.cons (.there .here) (.cons .here (.cons .here (.cons .here (.cons .here .nil))))), .inl ⟨rfl, v2, hv2, rfl⟩⟩
  ·rintro e K1 L1 ⟨v, rfl, rfl, le, h | ⟨_, _, h⟩⟩
   ·obtain ⟨v, hv1, rfl⟩ := h;exact ⟨rfl, hr0, hr1, v, hv1, rfl⟩
   ·exact h.elim
 obtain ⟨rfl, hr0, hr1, v, hv1, rfl⟩ := hR;refine ⟨_, r, [mch b mb m hv pv nm s, dblk d, pt b2 (aU [v] 39), sl false (bK 9) v (xs ++ fG m name)], rfl, Tks.sat (N := []) (.cons (.there .here) (.cons .here (.cons .here (.cons .here (.cons .here .nil))))), by rw [hr0]; simp, ?_⟩
 rw [hr1]
 show D ⟨Tryz.prog, 13, [mrk d], w, F⟩ _ _ _ _ _
 refine aN (aE ?_);refine aI (aB ?_);refine aA (aK ts39 rfl aM rfl) rfl ?_;refine aA (aF rfl) rfl ?_;refine aG (aE ?_);refine bM ?_;refine aO (.cons (.there .here) (.cons (.there (.there .here)) (.cons .here .nil))) ?_;exact zC [d] (L := [sl false (bK 9) v (xs ++ fG m name), mch b mb m hv pv nm s]) rfl rfl (fun _ h => h) le ⟨_, rfl, rfl⟩
end Go.Proofs
end
section
namespace Go.Proofs
open Go Go.SL Go.Syn Go.Mach
theorem pS (b mb : Nat) (m : Msg) (hv pv : Value) (nm : Bool) (s : MS) (lv : Value) (l : List (List UInt8)) (K : Hl) (hg : Glob K) (hpv : Ksl (bK 9) K pv s.parts) (hlv : Ksl (bK 9) K lv l) (hl : l.length ≤ 1000000) (hs : ∀ x ∈ l, x.length ≤ 100000) (hsm : nG s.vars s.parts) :
  Sp Tryz.prog 250 [ptr b, lv] K [mch b mb m hv pv nm s] (Ret fun v K' L' => K' = K ∧ L' = [sl false (bK 9) v (l.map (cP nm s.vars s.parts)), mch b mb m hv pv nm s]) := by
 refine aEH ⟨_, Tryz.func250, rfl, rfl⟩ fun av sv f c => ?_
 refine tD (show Tks [_, _] _ _ from .cons .here (.cons (.there (.there .here)) .nil)).sat (aAL (sK _ (aIY b mb _ _ _ _ _ _ pv sv s.pc nm s.vars f c s.parts lv l K hg hpv hlv hl hs hsm)) ?_)
 rintro e K' L' ⟨N, ⟨v, rfl, rfl, rfl⟩, rfl⟩;exact ⟨[_, mch b mb m hv pv nm s], [], fun h hh => dS (fun h hh => dK (s := s) h hh) ((show Tks [_, _, _, _, _] _ [] from .cons .here (.cons .here (.cons (.there .here) (.cons (.there .here) (.cons .here .nil))))).sat h hh), _, rfl, rfl, rfl⟩
theorem iB {α β : Type} (g : α → List β) {l : List α} {i : Nat} {x : α} (h : l[i]? = some x) : (l.take (i + 1)).flatMap g = (l.take i).flatMap g ++ g x := by
 have hi : i < l.length := by
  rcases Nat.lt_or_ge i l.length with h' | h'
  ·exact h'
  ·simp [List.getElem?_eq_none h'] at h
 have hc : l[i] = x := by simpa [List.getElem?_eq_getElem hi] using h
 rw [List.take_succ_eq_append_getElem hi, hc]; simp
theorem oZ {α β : Type} {g : α → List β} {n : Nat} (h : ∀ x, (g x).length ≤ n) : ∀ l : List α, (l.flatMap g).length ≤ l.length * n
 | [] => by simp
 | x :: l => by simp only [List.flatMap_cons, List.length_append, List.length_cons, Nat.succ_mul]; have := oZ h l; have := h x; omega
theorem aFA (m : Msg) (n : aL) : (mY m n).length ≤ 1 := by unfold mY; split; simp; split <;> simp
theorem aN3 {ex : aL → aL} {m : Msg} {o : Ins} (h : o.op = 8) : fJ ex m o = o.a.map ex := by unfold fJ; rw [if_pos h]
theorem aN1 {ex : aL → aL} {m : Msg} {o : Ins} (h : o.op = 6) : fJ ex m o = (o.a.map ex).flatMap fun n => fG m (cU n) := by unfold fJ; rw [if_neg aH, if_pos h]
theorem aN2 {ex : aL → aL} {m : Msg} {o : Ins} (h : o.op = 7) : fJ ex m o = o.a.flatMap (mY m) := by unfold fJ; rw [if_neg aH, if_neg aH, if_pos h]
theorem aAW {ex : aL → aL} {m : Msg} {o : Ins} (h8 : ¬ o.op = 8) (h6 : ¬ o.op = 6) (h7 : ¬ o.op = 7) : fJ ex m o = [] := by unfold fJ; rw [if_neg h8, if_neg h6, if_neg h7]
theorem zI {m : Msg} {n : aL} (h : cU n = [102, 114, 111, 109]) : mY m n = [m.from_] := by unfold mY; rw [if_pos h]
theorem zK {m : Msg} {n : aL} (h0 : ¬ cU n = [102, 114, 111, 109]) (h : cU n = [116, 111]) : mY m n = [m.to_] := by unfold mY; rw [if_neg h0, if_pos h]
theorem zJ {m : Msg} {n : aL} (h0 : ¬ cU n = [102, 114, 111, 109]) (h : ¬ cU n = [116, 111]) : mY m n = [] := by unfold mY; rw [if_neg h0, if_neg h]
structure MV where
 v : Value
 K : Hl
structure MW where
 i : Nat
 v : Value
 K : Hl
theorem aC5 (b mb : Nat) (m : Msg) (hv pv : Value) (nm : Bool) (s : MS) (o : Ins) (av bv : Value) (K0 : Hl) (hg : Glob K0) (hpv : Ksl (bK 9) K0 pv s.parts) (ha : Ksl (bK 9) K0 av o.a) (hb : Ksl (bK 9) K0 bv o.b) (hh : Ksl hdEl K0 hv m.hs) (hln : m.hs.length ≤ 1000000) (hhs : ∀ h ∈ m.hs, h.1.length ≤ 1000000) (hl : o.a.length ≤ 1000000) (hs : ∀ x ∈ o.a, x.length ≤ 100000) (hsm : nG s.vars s.parts) :
  Sp Tryz.prog 251 [ptr b, kO o av bv] K0 [mch b mb m hv pv nm s] (Ret fun v K' L' => L' = [sl false (bK 9) v (fJ (cP nm s.vars s.parts) m o), mch b mb m hv pv nm s]) := by
 obtain ⟨sa, sn, sc, rfl⟩ := ha.isSlice;obtain ⟨ta, tn, tc, rfl⟩ := hb.isSlice;refine bB Tryz.func251 rfl Tryz.ntmps251 rfl rfl fun F w => ?_
 refine aI (aB ?_);refine ol_s (eM rfl rfl) rfl ?_;rintro _ K _ ⟨b3, rfl, rfl, rfl⟩ -;refine aA (aF rfl) rfl ?_;refine aG (aE ?_);refine aI (aB ?_);refine aA (aF rfl) rfl ?_;refine aG (aE ?_);refine hO (fun (q : MV) => K.le q.K) (fun q => [(5, q.v)]) (fun q => q.K) (fun q => [sl false (bK 9) q.v (fJ (cP nm s.vars s.parts) m o), mch b mb m hv pv nm s]) ?_ ?_
 ·
  refine aI (aB ?_);refine aA (aD (o' := 0) iX rfl rfl) rfl ?_;refine aA (aK ts3 rfl aM rfl) rfl ?_;refine aG (aE ?_);refine bF (aI ?_);refine aB ?_;refine aA (bT rfl rfl) rfl ?_;refine aA (aF rfl) rfl ?_;refine aG (aE ?_);refine bE 12 rfl (fun h12 => ?_) (fun h12 => ?_)
  ·
   refine aI (aB ?_);refine aA (aC rfl) rfl ?_;refine aA (aD (o' := 4) jN rfl rfl) rfl ?_;refine aA (aK ts39 rfl aM rfl) rfl ?_;refine bD rfl rfl (pS b mb m hv pv nm s _ o.a _ hg hpv ha hl hs hsm) (.cons (.there .here) .nil) rfl ?_;rintro _ K _ ⟨rfl, rfl⟩ -;refine aA (aF rfl) rfl ?_;refine aG (aE ?_);refine bM ?_;refine bQ ?_;refine bC ?_;refine aO (.cons .here (.cons .here .nil)) ?_;refine bJ rfl rfl (by first | exact hle | exact Hl.le_refl _) ?_;rw [← aN3 (ex := cP nm s.vars s.parts) (m := m) h12];exact ⟨_, rfl, rfl⟩
  ·
   refine aI (aB ?_);refine aA (bT rfl rfl) rfl ?_;refine aA (aF rfl) rfl ?_;refine aG (aE ?_);refine bE 18 rfl (fun h18 => ?_) (fun h18 => ?_)
   ·
    refine aI (aB ?_);refine aA (aC rfl) rfl ?_;refine aA (aD (o' := 4) jN rfl rfl) rfl ?_;refine aA (aK ts39 rfl aM rfl) rfl ?_;refine bD rfl rfl (pS b mb m hv pv nm s _ o.a _ hg hpv ha hl hs hsm) (.cons (.there .here) .nil) rfl ?_;rintro nv K _ ⟨rfl, rfl⟩ -;have hnl : ∀ x ∈ o.a.map (cP nm s.vars s.parts), x.length ≤ 100000 := (by intro x hx; obtain ⟨y, hy, rfl⟩ := List.mem_map.1 hx; exact hH (hs y hy));have hnn : (o.a.map (cP nm s.vars s.parts)).length ≤ 1000000 := (by simpa using hl)
    generalize hnames : o.a.map (cP nm s.vars s.parts) = names at *
    refine aA (cE (k := (bK 9)) rfl Tryz.underlying39 rfl aM) rfl ?_;refine aA (aC rfl) rfl ?_;refine aG (aE ?_);refine bF ?_;refine aFU (.cons .here (.cons .here .nil)) ?_;refine eK (fun (q : MW) => q.i ≤ names.length ∧ K.le q.K) (fun q => [(0, ptr b), (5, q.v), (23, nv), (24, i64 names.length), (25, i64 q.i)]) (fun q => q.K) (fun q => [sl false (bK 9) q.v ((names.take q.i).flatMap fun n => fG m (cU n)), sl false (bK 9) nv names, mch b mb m hv pv nm s]) (fun q => names.length - q.i) ⟨0, .slice none 0 0, K⟩ ⟨Nat.zero_le _, Hl.le_refl _⟩ (.cons 0 rfl (.cons 5 rfl (.cons 23 rfl (.cons 24 rfl (.cons 25 rfl .nil))))) rfl (eW (bK 9)) ?_;intro ⟨i, v, K1⟩ ⟨hi0, hle⟩;dsimp only at hi0 hle ⊢;have hh1 := hh.mono hle;have hfl : ((names.take i).flatMap fun n => fG m (cU n)).length ≤ 1000000 * 1000000 := Nat.le_trans (oZ (n := 1000000) (fun x => Nat.le_trans (rA m _) hln) _) (Nat.mul_le_mul_right _ (by rw [List.length_take]; omega));refine aI (aB ?_);refine aA (dA rfl rfl) rfl ?_;refine aG (aE ?_);refine aI ?_;refine bE 26 rfl (fun h26 => ?_) (fun h26 => ?_)
    ·
     have hilt : i < names.length := by omega
     obtain ⟨x, hx⟩ : ∃ x, names[i]? = some x := ⟨names[i]'hilt, List.getElem?_eq_getElem hilt⟩;refine a6 ?_;refine aE (aI ?_);refine bF (aI ?_);refine aB ?_;refine aA (b0 (k := (bK 9)) cT rfl aM rfl rfl (by first | assumption | omega)) rfl ?_;refine aA (dO (o := 0) (k := (bK 9)) ts9 rfl aM bP rfl) rfl ?_;refine aA (aF rfl) rfl ?_;refine aG (aE ?_);refine aB ?_;refine aA (aC rfl) rfl ?_;refine aA (aC rfl) rfl ?_;refine aA (aC rfl) rfl ?_;refine cF rfl rfl (fA _ _ (by have := hnl x (List.mem_of_getElem? hx); omega)) rfl ?_;refine bD rfl rfl (tW b (cU x) _) .nil rfl ?_;rintro _ K2 _ ⟨bx, bY, rfl, hbx, hbY, rfl⟩ le2;refine bD rfl rfl (aF9 bx bY b mb m hv pv nm s (cU x) _ _ _ hbx hbY (hh1.mono le2) hln hhs aH) (.cons .here (.cons (.there .here) .nil)) rfl ?_;rintro v34 K3 _ rfl le3;refine aA (aF rfl) rfl ?_;refine aG (aN ?_);refine aE (aB ?_);refine aA (bZ rfl rfl aH aH) rfl ?_;refine aA (aC rfl) rfl ?_;refine aG ?_;refine aO (.cons .here (.cons (.there .here) (.cons .here .nil))) ?_;refine cL ⟨i + 1, _, _⟩ ⟨by (show i + 1 ≤ names.length); omega, Hl.le_trans hle (Hl.le_trans le2 le3)⟩ (by (show names.length - (i + 1) < names.length - i); omega) (.cons 0 rfl (.cons 5 rfl (.cons 23 rfl (.cons 24 rfl (.cons 25 rfl .nil))))) rfl ?_;dsimp only;rw [iB _ hx];exact fun _ h => h
    ·
     have hfin : ((names.take i).flatMap fun n => fG m (cU n)) = fJ (cP nm s.vars s.parts) m o := (by rw [List.take_of_length_le aH, aN1 h18, hnames]);refine cY ?_;refine aV ?_;refine aV ?_;refine bL ?_;refine aN ?_
     first
      | (refine aO (.cons .here (.cons (.there .here) .nil)) ?_; exact bX ⟨v, K1⟩ hle (.cons 5 rfl .nil) rfl (by rw [← hfin]; exact fun _ h => h))
      | (refine aO (.cons (.there (.there (.there (.there .here)))) (.cons .here (.cons .here (.cons .here (.cons .here .nil))))) ?_; exact bX ⟨v, K⟩ (Hl.le_refl _) (.cons 5 rfl .nil) rfl (by rw [← hfin]; exact fun h hh => dS (fun h hh => dK (s := s) h hh) hh))
      | (refine aO (.cons (.there .here) .nil) ?_; exact bX ⟨.slice none 0 0, K⟩ (Hl.le_refl _) (.cons 5 rfl .nil) rfl (by rw [aAW h12 h18 h36]; exact eW (bK 9)))
   ·
    refine aI (aB ?_);refine aA (bT rfl rfl) rfl ?_;refine aA (aF rfl) rfl ?_;refine aG (aE ?_);refine bE 36 rfl (fun h36 => ?_) (fun h36 => ?_)
    ·
     refine aI (aB ?_);refine aA (aD (o' := 4) jN rfl rfl) rfl ?_;refine aA (aK ts39 rfl aM rfl) rfl ?_;refine aA (cE (k := (bK 9)) rfl Tryz.underlying39 rfl aM) rfl ?_;refine aA (aC rfl) rfl ?_;refine aG (aE ?_);refine bF ?_;refine eK (fun (q : Nat × Value) => q.1 ≤ o.a.length) (fun q => [(0, ptr b), (5, q.2), (39, .slice sa sn sc), (40, i64 o.a.length), (41, i64 q.1)]) (fun _ => K) (fun q => [mch b mb m hv pv nm s, sl false (bK 9) q.2 ((o.a.take q.1).flatMap (mY m)), pt b3 (aU [i64 o.op, i64 o.n, i64 o.tag, .bool o.oct, .slice sa sn sc, .slice ta tn tc, i64 o.at_] 41)]) (fun q => o.a.length - q.1) ⟨0, .slice none 0 0⟩ (Nat.zero_le _) (.cons 0 rfl (.cons 5 rfl (.cons 39 rfl (.cons 40 rfl (.cons 41 rfl .nil))))) rfl (fun h hh => fP (eW (bK 9) h (fP hh))) ?_;intro ⟨i, v⟩ hi0;dsimp only at hi0 ⊢;refine oP fun av sv f c => ?_
     have hfl : ((o.a.take i).flatMap (mY m)).length ≤ 1000000 * 1 := Nat.le_trans (oZ (n := 1) (aFA m) _) (Nat.mul_le_mul_right _ (by rw [List.length_take]; omega));refine aI (aB ?_);refine aA (dA rfl rfl) rfl ?_;refine aG (aE ?_);refine aI ?_;refine bE 42 rfl (fun h42 => ?_) (fun h42 => ?_)
     ·
      have hilt : i < o.a.length := by omega
      obtain ⟨x, hx⟩ : ∃ x, o.a[i]? = some x := ⟨o.a[i]'hilt, List.getElem?_eq_getElem hilt⟩;refine a6 ?_;refine aE (aI ?_);refine bF (aI ?_);refine aB ?_;refine aA (b0 (k := (bK 9)) cT rfl aM rfl rfl (by first | assumption | omega)) rfl ?_;refine aA (dO (o := 0) (k := (bK 9)) ts9 rfl aM bP rfl) rfl ?_;refine aA (aF rfl) rfl ?_;refine aG (aE ?_);refine aI (aB ?_);refine aA (aC rfl) rfl ?_;refine cF rfl rfl (fA _ _ (by have := hs x (List.mem_of_getElem? hx); omega)) rfl ?_;refine aG (aE ?_);refine bF (aI ?_);refine aB ?_;refine aA (jF rfl rfl) rfl ?_;refine aA (aF rfl) rfl ?_;refine aG (aE ?_);refine bE 47 rfl (fun h47 => ?_) (fun h47 => ?_)
      ·
       refine aB ?_;refine aA (aC rfl) rfl ?_;refine aA (aC rfl) rfl ?_;refine aA bS rfl ?_;refine aA (aD (o' := 0) cV rfl rfl) rfl ?_;refine aA (aD (o' := 0) jD rfl rfl) rfl ?_;refine aA (aD (o' := 0) aLS rfl rfl) rfl ?_;refine aA (aK ts9 rfl aM rfl) rfl ?_;refine ol_s (bO (z0 := [(str [])]) cT tz9 rfl rfl rfl rfl (.cons rfl rfl rfl (.cons .nil) .nil)) rfl ?_;rintro _ K _ ⟨b56, rfl, rfl, rfl⟩ -;refine ol_s (dQ (k := (bK 9)) (ys := [m.from_]) gK rfl rfl (.there (.there (.there (.there (.there .here))))) (fun w j => dN Tryz.underlying39 (SeesSl.at (k := bK 9) (.blk (.own .here) rfl rfl) j)) (by simp only [List.length_singleton]; omega) (by simp only [List.length_singleton]; omega)) rfl ?_;rintro v57 K _ ⟨rfl, rfl, ho57⟩ -;refine aA (aF rfl) rfl ?_;refine aG (aN ?_);refine aN (aE ?_);refine aB ?_;refine aA (bZ rfl rfl aH aH) rfl ?_;refine aA (aC rfl) rfl ?_;refine aG ?_
       first
        | (refine aO (.cons (.there (.there .here)) (.cons (.there (.there .here)) (.cons (.there (.there .here)) (.cons (.there (.there .here)) (.cons .here (.cons (.there .here) .nil)))))) ?_; refine dV (dK (s := s)) ?_; exact cL ⟨i + 1, v57⟩ (by (show i + 1 ≤ o.a.length); omega) (by (show o.a.length - (i + 1) < o.a.length - i); omega) (.cons 0 rfl (.cons 5 rfl (.cons 39 rfl (.cons 40 rfl (.cons 41 rfl .nil))))) rfl (by dsimp only; rw [iB _ hx, zI h47]; exact fun _ h => h))
        | (refine aO (.cons (.there (.there .here)) (.cons (.there (.there .here)) (.cons (.there (.there .here)) (.cons (.there (.there .here)) (.cons .here (.cons (.there .here) .nil)))))) ?_; refine dV (dK (s := s)) ?_; exact cL ⟨i + 1, v68⟩ (by (show i + 1 ≤ o.a.length); omega) (by (show o.a.length - (i + 1) < o.a.length - i); omega) (.cons 0 rfl (.cons 5 rfl (.cons 39 rfl (.cons 40 rfl (.cons 41 rfl .nil))))) rfl (by dsimp only; rw [iB _ hx, zK h47 h58]; exact fun _ h => h))
        | (refine dV (dK (s := s)) ?_; exact cL ⟨i + 1, v⟩ (by (show i + 1 ≤ o.a.length); omega) (by (show o.a.length - (i + 1) < o.a.length - i); omega) (.cons 0 rfl (.cons 5 rfl (.cons 39 rfl (.cons 40 rfl (.cons 41 rfl .nil))))) rfl (by dsimp only; rw [iB _ hx, zJ h47 h58, List.append_nil]; exact fun _ h => h))
      ·
       refine aI (aB ?_);refine aA (jF rfl rfl) rfl ?_;refine aA (aF rfl) rfl ?_;refine aG (aE ?_);refine bE 58 rfl (fun h58 => ?_) (fun h58 => ?_)
       ·
        refine aB ?_;refine aA (aC rfl) rfl ?_;refine aA (aC rfl) rfl ?_;refine aA bS rfl ?_;refine aA (aD (o' := 0) cV rfl rfl) rfl ?_;refine aA (aD (o' := 0) jD rfl rfl) rfl ?_;refine aA (aD (o' := 1) aLT rfl rfl) rfl ?_;refine aA (aK ts9 rfl aM rfl) rfl ?_;refine ol_s (bO (z0 := [(str [])]) cT tz9 rfl rfl rfl rfl (.cons rfl rfl rfl (.cons .nil) .nil)) rfl ?_;rintro _ K _ ⟨b67, rfl, rfl, rfl⟩ -;refine ol_s (dQ (k := (bK 9)) (ys := [m.to_]) gK rfl rfl (.there (.there (.there (.there (.there .here))))) (fun w j => dN Tryz.underlying39 (SeesSl.at (k := bK 9) (.blk (.own .here) rfl rfl) j)) (by simp only [List.length_singleton]; omega) (by simp only [List.length_singleton]; omega)) rfl ?_;rintro v68 K _ ⟨rfl, rfl, ho68⟩ -;refine aA (aF rfl) rfl ?_;refine aG (aN ?_);refine aN (aE ?_);refine aB ?_;refine aA (bZ rfl rfl aH aH) rfl ?_;refine aA (aC rfl) rfl ?_;refine aG ?_
        first
         | (refine aO (.cons (.there (.there .here)) (.cons (.there (.there .here)) (.cons (.there (.there .here)) (.cons (.there (.there .here)) (.cons .here (.cons (.there .here) .nil)))))) ?_; refine dV (dK (s := s)) ?_; exact cL ⟨i + 1, v57⟩ (by (show i + 1 ≤ o.a.length); omega) (by (show o.a.length - (i + 1) < o.a.length - i); omega) (.cons 0 rfl (.cons 5 rfl (.cons 39 rfl (.cons 40 rfl (.cons 41 rfl .nil))))) rfl (by dsimp only; rw [iB _ hx, zI h47]; exact fun _ h => h))
         | (refine aO (.cons (.there (.there .here)) (.cons (.there (.there .here)) (.cons (.there (.there .here)) (.cons (.there (.there .here)) (.cons .here (.cons (.there .here) .nil)))))) ?_; refine dV (dK (s := s)) ?_; exact cL ⟨i + 1, v68⟩ (by (show i + 1 ≤ o.a.length); omega) (by (show o.a.length - (i + 1) < o.a.length - i); omega) (.cons 0 rfl (.cons 5 rfl (.cons 39 rfl (.cons 40 rfl (.cons 41 rfl .nil))))) rfl (by dsimp only; rw [iB _ hx, zK h47 h58]; exact fun _ h => h))
         | (refine dV (dK (s := s)) ?_; exact cL ⟨i + 1, v⟩ (by (show i + 1 ≤ o.a.length); omega) (by (show o.a.length - (i + 1) < o.a.length - i); omega) (.cons 0 rfl (.cons 5 rfl (.cons 39 rfl (.cons 40 rfl (.cons 41 rfl .nil))))) rfl (by dsimp only; rw [iB _ hx, zJ h47 h58, List.append_nil]; exact fun _ h => h))
       ·
        refine a6 ?_;refine aN (aN ?_);refine aE (aB ?_);refine aA (bZ rfl rfl aH aH) rfl ?_;refine aA (aC rfl) rfl ?_;refine aG ?_
        first
         | (refine aO (.cons (.there (.there .here)) (.cons (.there (.there .here)) (.cons (.there (.there .here)) (.cons (.there (.there .here)) (.cons .here (.cons (.there .here) .nil)))))) ?_; refine dV (dK (s := s)) ?_; exact cL ⟨i + 1, v57⟩ (by (show i + 1 ≤ o.a.length); omega) (by (show o.a.length - (i + 1) < o.a.length - i); omega) (.cons 0 rfl (.cons 5 rfl (.cons 39 rfl (.cons 40 rfl (.cons 41 rfl .nil))))) rfl (by dsimp only; rw [iB _ hx, zI h47]; exact fun _ h => h))
         | (refine aO (.cons (.there (.there .here)) (.cons (.there (.there .here)) (.cons (.there (.there .here)) (.cons (.there (.there .here)) (.cons .here (.cons (.there .here) .nil)))))) ?_; refine dV (dK (s := s)) ?_; exact cL ⟨i + 1, v68⟩ (by (show i + 1 ≤ o.a.length); omega) (by (show o.a.length - (i + 1) < o.a.length - i); omega) (.cons 0 rfl (.cons 5 rfl (.cons 39 rfl (.cons 40 rfl (.cons 41 rfl .nil))))) rfl (by dsimp only; rw [iB _ hx, zK h47 h58]; exact fun _ h => h))
         | (refine dV (dK (s := s)) ?_; exact cL ⟨i + 1, v⟩ (by (show i + 1 ≤ o.a.length); omega) (by (show o.a.length - (i + 1) < o.a.length - i); omega) (.cons 0 rfl (.cons 5 rfl (.cons 39 rfl (.cons 40 rfl (.cons 41 rfl .nil))))) rfl (by dsimp only; rw [iB _ hx, zJ h47 h58, List.append_nil]; exact fun _ h => h))
     ·
      have hfin : ((o.a.take i).flatMap (mY m)) = fJ (cP nm s.vars s.parts) m o := (by rw [List.take_of_length_le aH, aN2 h36]);refine cY ?_;refine aV ?_;refine aV ?_;refine bL ?_;refine aN ?_
      first
       | (refine aO (.cons .here (.cons (.there .here) .nil)) ?_; exact bX ⟨v, K1⟩ hle (.cons 5 rfl .nil) rfl (by rw [← hfin]; exact fun _ h => h))
       | (refine aO (.cons (.there (.there (.there (.there .here)))) (.cons .here (.cons .here (.cons .here (.cons .here .nil))))) ?_; exact bX ⟨v, K⟩ (Hl.le_refl _) (.cons 5 rfl .nil) rfl (by rw [← hfin]; exact fun h hh => dS (fun h hh => dK (s := s) h hh) hh))
       | (refine aO (.cons (.there .here) .nil) ?_; exact bX ⟨.slice none 0 0, K⟩ (Hl.le_refl _) (.cons 5 rfl .nil) rfl (by rw [aAW h12 h18 h36]; exact eW (bK 9)))
    ·
     refine a6 ?_;refine aN ?_
     first
      | (refine aO (.cons .here (.cons (.there .here) .nil)) ?_; exact bX ⟨v, K1⟩ hle (.cons 5 rfl .nil) rfl (by rw [← hfin]; exact fun _ h => h))
      | (refine aO (.cons (.there (.there (.there (.there .here)))) (.cons .here (.cons .here (.cons .here (.cons .here .nil))))) ?_; exact bX ⟨v, K⟩ (Hl.le_refl _) (.cons 5 rfl .nil) rfl (by rw [← hfin]; exact fun h hh => dS (fun h hh => dK (s := s) h hh) hh))
      | (refine aO (.cons (.there .here) .nil) ?_; exact bX ⟨.slice none 0 0, K⟩ (Hl.le_refl _) (.cons 5 rfl .nil) rfl (by rw [aAW h12 h18 h36]; exact eW (bK 9)))
 ·
  intro ⟨v, K1⟩ hle;dsimp only at hle ⊢;refine aI (aB ?_);refine aA (aC rfl) rfl ?_;refine aA (aF rfl) rfl ?_;refine aG (aE ?_);refine bM ?_;refine bJ rfl rfl (by first | exact hle | exact Hl.le_refl _) ?_;exact ⟨_, rfl, rfl⟩
end Go.Proofs
end
section
namespace Go.Proofs
open Go Go.SL Go.Syn Go.Mach
open R (Yl)
theorem aJB {E : Env} {x : Exit} {fr : Fr} {K : Hl} {L : List Asn} {A : Asn} {Q : Post} (h : D E x fr K L Q) : D E x fr K (A :: L) Q := fun a w f i => h a w f i.drop
structure XI where
 i : Nat
 ds : List Nat
 K : Hl
theorem aGP {m : Msg} {l : List aL} {x : aL} (hx : x ∈ l) (h : fG m (cU x) = []) : mZ m l = false := by
 unfold mZ;rw [List.all_eq_false];exact ⟨x, hx, by simp [h]⟩
theorem aDR {m : Msg} {l : List aL} (h : ∀ x ∈ l, fG m (cU x) ≠ []) : mZ m l = true := by
 unfold mZ;rw [List.all_eq_true];exact fun x hx => by simpa using h x hx
theorem take_all_succ {α : Type} {p : α → Prop} {l : List α} {i : Nat} {x : α} (h : ∀ y ∈ l.take i, p y) (hx : l[i]? = some x) (hp : p x) : ∀ y ∈ l.take (i + 1), p y := by
 have hi : i < l.length := by
  rcases Nat.lt_or_ge i l.length with h' | h'
  ·exact h'
  ·simp [List.getElem?_eq_none h'] at hx
 have hc : l[i] = x := by simpa [List.getElem?_eq_getElem hi] using hx
 rw [List.take_succ_eq_append_getElem hi, hc];intro y hy;rcases List.mem_append.1 hy with h1 | h1
 ·exact h y h1
 ·rw [List.mem_singleton.1 h1]; exact hp
theorem zQ (b mb : Nat) (m : Msg) (hv pv : Value) (nm : Bool) (s : MS) (lv : Value) (l : List aL) (K0 : Hl) (hg : Glob K0) (hpv : Ksl (bK 9) K0 pv s.parts) (hlv : Ksl (bK 9) K0 lv l) (hh : Ksl hdEl K0 hv m.hs) (hln : m.hs.length ≤ 1000000) (hhs : ∀ h ∈ m.hs, h.1.length ≤ 1000000) (hl : l.length ≤ 1000000) (hs : ∀ x ∈ l, x.length ≤ 100000) (hsm : nG s.vars s.parts) :
  Sp Tryz.prog 151 [ptr b, lv] K0 [mch b mb m hv pv nm s] (Ret fun v K' L' => v = .bool (mZ m (l.map (cP nm s.vars s.parts))) ∧ L' = [mch b mb m hv pv nm s]) := by
 have hnl : ∀ x ∈ l.map (cP nm s.vars s.parts), x.length ≤ 100000 := (by intro x hx; obtain ⟨y, hy, rfl⟩ := List.mem_map.1 hx; exact hH (hs y hy));have hnn : (l.map (cP nm s.vars s.parts)).length ≤ 1000000 := by simpa using hl
 have hall := pS b mb m hv pv nm s lv l K0 hg hpv hlv hl hs hsm
 generalize l.map (cP nm s.vars s.parts) = names at *
 refine aCP Tryz.func151 rfl Tryz.ntmps151 rfl rfl fun F w => ?_
 refine aI (aB ?_);refine aA (aF rfl) rfl ?_;refine aG (aE ?_);refine aAO ?_;refine aI ?_;refine aNJ ?_;refine aE (aI ?_);refine aI (aB ?_);refine aA (aC rfl) rfl ?_;refine aA (aC rfl) rfl ?_;refine bD rfl rfl hall (.cons .here .nil) rfl ?_;rintro nv K _ ⟨rfl, rfl⟩ -;refine aA (cE (k := (bK 9)) rfl Tryz.underlying39 rfl aM) rfl ?_;refine aA (aC rfl) rfl ?_;refine aG (aE ?_);refine bF ?_;refine aNK (fun (q : XI) => q.i ≤ names.length ∧ K.le q.K ∧ ∀ y ∈ names.take q.i, fG m (cU y) ≠ []) (fun q => q.ds.map mrk) (fun q => [(0, ptr b), (9, nv), (10, i64 names.length), (11, i64 q.i)]) (fun q => q.K) (fun q => sl false (bK 9) nv names :: mch b mb m hv pv nm s :: q.ds.map dblk) (fun q => names.length - q.i) ⟨0, [], K⟩ ⟨Nat.zero_le _, Hl.le_refl _, by simp⟩ rfl (.cons 0 rfl (.cons 9 rfl (.cons 10 rfl (.cons 11 rfl .nil)))) rfl (fun _ h => h) ?_;intro ⟨i, ds, K1⟩ ⟨hi0, hle, hall⟩;dsimp only at hi0 hle hall ⊢;have hh1 := hh.mono hle;refine aI (aB ?_);refine aA (dA rfl rfl) rfl ?_;refine aG (aE ?_);refine aI ?_;refine bE 12 rfl (fun h12 => ?_) (fun h12 => ?_)
 ·
  have hilt : i < names.length := by omega
  obtain ⟨x, hx⟩ : ∃ x, names[i]? = some x := ⟨names[i]'hilt, List.getElem?_eq_getElem hilt⟩;refine a6 ?_;refine aE (aI ?_);refine bF (aI ?_);refine aB ?_;refine aA (b0 (k := (bK 9)) cT rfl aM rfl rfl (by first | assumption | omega)) rfl ?_;refine aA (dO (o := 0) (k := (bK 9)) ts9 rfl aM bP rfl) rfl ?_;refine aA (aF rfl) rfl ?_;refine aG (aE ?_);refine aI (aI ?_);refine aB ?_;refine aA (aC rfl) rfl ?_;refine aA (aC rfl) rfl ?_;refine cF rfl rfl (fA _ _ (by have := hnl x (List.mem_of_getElem? hx); omega)) rfl ?_;refine bD rfl rfl (tW b (cU x) _) .nil rfl ?_;rintro _ K2 _ ⟨bx, bY, rfl, hbx, hbY, rfl⟩ le2;refine aG (aE ?_);refine bF ?_;refine aFT (RR := fun r l d e K4 L4 => e = .returned (.tuple #[]) ∧ ((fG m (cU x) = [] ∧ r.state = .ready ∧ r.pending = none ∧ L4 = mch b mb m hv pv nm s :: pt l (.loop r) :: dblk d :: sl false (bK 9) nv names :: ds.map dblk) ∨ (fG m (cU x) ≠ [] ∧ L4 = pt l (.loop (r.off (.exit 1))) :: mch b mb m hv pv nm s :: dblk d :: sl false (bK 9) nv names :: ds.map dblk))) rfl (cS _) (fun r l d hr0 hr1 hr2 hr3 hr4 hsz hfr => ?_) (fun r l d e K3 L3 hR le3 => ?_)
  ·refine tD (M := mch b mb m hv pv nm s :: pt l (.loop r) :: dblk d :: sl false (bK 9) nv names :: ds.map dblk) (Tks.sat (As := [_, _, _, _]) (.cons (.there (.there (.there .here))) (.cons .here (.cons .here (.cons .here .nil))))) ?_;refine (r7 l bx bY b mb m hv pv nm s (cU x) _ _ (fun pre K4 L4 => pre = [] ∧ L4 = mch b mb m hv pv nm s :: pt l (.loop r) :: dblk d :: sl false (bK 9) nv names :: ds.map dblk) (fun pre K4 L4 => pre ≠ [] ∧ L4 = pt l (.loop (r.off (.exit 1))) :: mch b mb m hv pv nm s :: dblk d :: sl false (bK 9) nv names :: ds.map dblk) hbx hbY (hh1.mono le2) hln hhs ⟨rfl, rfl⟩ ?_).mono ?_
   ·rintro pre x1 K4 _ le4 ⟨rfl, rfl⟩ hpre;refine aMD (Tks.sat (As := [_, _]) (.cons (.there .here) (.cons .here .nil))) ?_;refine aF7 (aOZ (n := 21) (fr1 := []) (R := fun t K5 L5 => t = false ∧ L5 = pt l (.loop (r.off (.exit 1))) :: mch b mb m hv pv nm s :: dblk d :: sl false (bK 9) nv names :: ds.map dblk) hr0 hr2 rfl hsz hfr (fun F w Q hQ => ?_) (fun F w => ?_)) ?_
    ·rw [hr3]; exact fun a w f i => aNT hQ a w (f.keep .nil) i
    ·rw [hr4]; refine aCY ?_; refine aNS ?_; refine fV rfl ?_
     intro a w fo i;exact ⟨_, _, i, Hl.le_refl _, rfl, rfl⟩
    ·rintro t K5 _ ⟨rfl, rfl⟩;exact ⟨_, fun _ h => h, .inr ⟨rfl, by simp, rfl⟩⟩
   ·rintro e K4 L4 ⟨v, rfl, rfl, le, h | ⟨pre, h1, h2, h3⟩⟩
    ·exact ⟨rfl, .inl ⟨h.1, hr0, hr1, h.2⟩⟩
    ·exact ⟨rfl, .inr ⟨fun e => h2 (by rw [e] at h1; exact List.prefix_nil.1 h1), h3⟩⟩
  obtain ⟨rfl, hR⟩ := hR;rcases hR with ⟨hne, hr0, hr1, rfl⟩ | ⟨hne, rfl⟩
  ·
   refine ⟨_, r, mch b mb m hv pv nm s :: dblk d :: sl false (bK 9) nv names :: ds.map dblk, rfl, fun h => fP, by rw [hr0]; simp, ?_⟩
   rw [hr1, List.append_nil]
   show D ⟨Tryz.prog, 21, mrk d :: ds.map mrk, w, F⟩ _ _ _ _ _
   refine aN (aE ?_);refine aI (aB ?_);refine aA (aF rfl) rfl ?_;refine aG (aE ?_);refine bM ?_;refine bQ ?_;refine bC ?_;refine bC ?_;refine bQ ?_;refine bC ?_;refine mX ?_;refine dV (Tks.sat (As := [_, _]) (.cons (.there (.there .here)) (.cons .here .nil))) ?_;refine aJB ?_;exact zC (d :: ds) (L := [mch b mb m hv pv nm s]) rfl rfl (fun _ h => aCG (A := [_]) h) (Hl.le_trans hle (Hl.le_trans le2 le3)) ⟨_, rfl, by rw [aGP (List.mem_of_getElem? hx) hne], rfl⟩
  ·
   refine ⟨_, r.off (.exit 1), mch b mb m hv pv nm s :: dblk d :: sl false (bK 9) nv names :: ds.map dblk, rfl, fun h k => k, by simp, ?_⟩
   rw [List.append_nil]
   show T ⟨Tryz.prog, 21, mrk d :: ds.map mrk, w, F⟩ (.exit 1) _ _ _ _
   refine cY ?_;refine fV rfl ?_;refine aV ?_;refine bL ?_;refine aE (aB ?_);refine aA (bZ rfl rfl aH aH) rfl ?_;refine aA (aC rfl) rfl ?_;refine aG ?_;exact aJF ⟨i + 1, d :: ds, _⟩ ⟨by (show i + 1 ≤ names.length); omega, Hl.le_trans hle (Hl.le_trans le2 le3), take_all_succ hall hx hne⟩ (by (show names.length - (i + 1) < names.length - i); omega) rfl (.cons 0 rfl (.cons 9 rfl (.cons 10 rfl (.cons 11 rfl .nil)))) rfl (Tks.sat (As := [_, _]) (.cons (.there (.there .here)) (.cons .here .nil)))
 ·
  refine cY ?_;refine aV ?_;refine aV ?_;refine bL ?_;refine aE (aI ?_);refine aB ?_;refine aA (aF rfl) rfl ?_;refine aG (aE ?_);refine bM ?_;refine mX ?_;refine aJB ?_;exact zC ds (L := [mch b mb m hv pv nm s]) rfl rfl (fun _ h => aCG (A := [_]) h) hle ⟨_, rfl, by rw [aDR (by rw [List.take_of_length_le aH] at hall; exact hall)], rfl⟩
theorem aJP (b mb : Nat) (m : Msg) (hv pv : Value) (nm : Bool) (s : MS) (o : Ins) (av bv : Value) (n : Int) (K0 : Hl) (hg : Glob K0) (hpv : Ksl (bK 9) K0 pv s.parts) (ha : Ksl (bK 9) K0 av o.a) (hb : Ksl (bK 9) K0 bv o.b) (hh : Ksl hdEl K0 hv m.hs) (hln : m.hs.length ≤ 1000000) (hhs : ∀ h ∈ m.hs, h.1.length ≤ 1000000) (hl : o.a.length ≤ 1000000) (hs : ∀ x ∈ o.a, x.length ≤ 100000) (hsm : nG s.vars s.parts) :
  Sp Tryz.prog 150 [ptr b, kO o av bv, i64 n] K0 [mch b mb m hv pv nm s] (MI b mb m hv nm (push s (mZ m (o.a.map (cP nm s.vars s.parts))))) := by
 obtain ⟨sa, sn, sc, rfl⟩ := ha.isSlice;obtain ⟨ta, tn, tc, rfl⟩ := hb.isSlice;refine bB Tryz.func150 rfl Tryz.ntmps150 rfl rfl fun F w => ?_
 refine aI (aB ?_);refine ol_s (eM rfl rfl) rfl ?_;rintro _ K _ ⟨b4, rfl, rfl, rfl⟩ -;refine aG (aE ?_);refine aB ?_;refine aA (aC rfl) rfl ?_;refine aA (aC rfl) rfl ?_;refine aA (aD (o' := 4) jN rfl rfl) rfl ?_;refine aA (aK ts39 rfl aM rfl) rfl ?_;refine bD rfl rfl (zQ b mb m hv pv nm s _ o.a _ hg hpv ha hh hln hhs hl hs hsm) (.cons (.there .here) .nil) rfl ?_;rintro _ K2 _ ⟨rfl, rfl⟩ le2;have hpv2 := hpv.mono le2;refine aW rfl rfl (jP b mb m hv pv nm s (mZ m (o.a.map (cP nm s.vars s.parts))) _) (.cons .here .nil) rfl (fun _ _ => aX _ _) ?_ ?_
 ·
  rintro _ _ _ hTr le1;obtain ⟨e, p, hq, fb, h, rfl⟩ := aY hTr;cases h
  refine aO (.cons .here .nil) ?_;refine bA (Hl.le_trans le2 le1) ?_;unfold MI;rw [hq];exact ⟨fb, rfl, rfl⟩
 rintro _ K _ hTr -;obtain ⟨q, hq, rfl, rfl, rfl⟩ := aZ hTr;clear hTr;have hqp := d8 hq;refine aG ?_;refine aO (.cons .here .nil) ?_;refine dE rfl le2 ?_;unfold MI;rw [hq];exact ⟨_, rfl, rfl, pv, by rw [hqp]; exact hpv2, rfl⟩
end Go.Proofs
end
section
namespace Go.SL
open Go.MapKept
abbrev keyA (i j : Nat) : Value := .agg #[i64 i, i64 j]
abbrev EntA := (Nat × Nat) × Nat
def entA (p : EntA) : MapEntry := { key := keyA p.1.1 p.1.2, val := i64 1, born := p.2 }
abbrev mapA (es : List EntA) (c : Nat) : Obj := .map (es.map entA).toArray c
structure KeyA (P : Program) (kt : TypeId) : Prop where
 arr : ∃ e, P.underlying kt = some (.array 2 e) ∧ P.underlying e = some (.int .i64) ∧ P.plainKey e = true ∧ P.cellsOf e = 1 ∧ ∃ i, P.info? e = some i
section
variable {P : Program} {w : World} {kt : TypeId}
theorem eqA (h : KeyA P kt) (a b c d : Nat) : (Op.equal kt (keyA a b) (keyA c d)).run P w = .ok (decide ((a, b) = (c, d))) w := by
 obtain ⟨e, h1, h2, h3, h4, i, h5⟩ := h.arr
 show (Op.equalIn (9999 + 1) kt _ _).run P w = _
 rw [run_equalIn_array w 9999 _ _ h1 h5, h4];have p : ∀ (x y : Nat) (o : Nat) (v : Value), (#[i64 x, i64 y] : Array Value)[o]? = some v → (part e #[i64 x, i64 y] o).run P w = .ok v w := fun x y o v h => run_part_plain w h3 h
 have q : ∀ (x y : Nat), (Op.equalIn 9999 e (i64 x) (i64 y)).run P w = .ok ((x : Int) == y) w := fun x y => run_equalIn_int w 9998 e .i64 .i64 x y h2
 show (Op.eqItems 9999 e 1 _ _ [0, 1]).run P w = _
 unfold Op.eqItems;rw [aS (p a b 0 (i64 a) rfl), aS (p c d 0 (i64 c) rfl), aS (q a c)]
 by_cases h : a = c
 ·subst h;rw [if_neg (by simp)];unfold Op.eqItems;rw [aS (p a b 1 (i64 b) rfl), aS (p a d 1 (i64 d) rfl), aS (q b d)]
  by_cases h2 : b = d
  ·subst h2; simp [Op.eqItems, pure, Sem.run]
  ·rw [if_pos (by simp; omega)]; simp [h2, pure, Sem.run]
 ·rw [if_pos (by simp; omega)]; simp [h, pure, Sem.run]
theorem aI6 (h : KeyA P kt) (b : Bool) (i j : Nat) : (Instr.checkKey b 10000 kt (keyA i j)).run P w = .ok () w := by
 obtain ⟨e, h1, h2, h3, h4, inf, h5⟩ := h.arr;have p : ∀ (o : Nat) (v : Value), (#[i64 i, i64 j] : Array Value)[o]? = some v → (part e #[i64 i, i64 j] o).run P w = .ok v w := fun o v h => run_part_plain w h3 h
 have c : ∀ (n : Nat), (Instr.checkKey b 9999 e (i64 n)).run P w = .ok () w := fun n => run_checkKey h2 (d := .int .i64) (k := i64 n) (by trivial) b 9998
 have s : (sizeOf e).run P w = .ok 1 w := by rw [run_sizeOf w h5, h4]
 show (Instr.checkKey b (9999 + 1) kt _).run P w = _
 unfold Instr.checkKey;rw [aS (run_underlying h1 w)];simp only [Std.Legacy.Range.forIn_eq_forIn_range', Std.Legacy.Range.size];simp [List.range'_succ, Sem.run_bind, s, Result.andThen, p 0 (i64 i) rfl, p 1 (i64 j) rfl, c]
def oS (k : Nat × Nat) : List EntA → Nat → Option (Nat × Value)
 | [], _ => none
 | e :: es, i => if k = e.1 then some (i, i64 1) else oS k es (i + 1)
theorem askA (h : KeyA P kt) (k : Nat × Nat) : ∀ (es : List EntA) (i : Nat), (Instr.findAsking kt (keyA k.1 k.2) (es.map entA) i).run P w = .ok (oS k es i) w := by
 intro es;induction es with
 | nil => intro i; rfl
 | cons e es ih =>
  intro i
  show (Instr.findAsking kt (keyA k.1 k.2) (entA e :: es.map entA) i).run P w = _
  unfold Instr.findAsking oS;rw [show (entA e).key = keyA e.1.1 e.1.2 from rfl, aS (eqA h k.1 k.2 e.1.1 e.1.2)]
  by_cases hk : k = e.1
  ·rw [if_pos (decide_eq_true (show (k.1, k.2) = (e.1.1, e.1.2) from hk)), if_pos hk]; rfl
  ·rw [if_neg (fun h => hk (of_decide_eq_true h)), if_neg hk]; exact ih _
theorem aN8 (h : KeyA P kt) (k : Nat × Nat) (es : List EntA) : (Instr.findKey kt (keyA k.1 k.2) (es.map entA)).run P w = .ok (oS k es 0) w := by
 obtain ⟨e, h1, _⟩ := h.arr;unfold Instr.findKey;rw [aS (run_underlying h1 w)];cases es with
 | nil => rfl
 | cons x xs => exact askA h k (x :: xs) 0
theorem xL (k : Nat × Nat) : ∀ (es : List EntA) (i : Nat), (oS k es i).isSome = decide (k ∈ es.map (·.1)) := by
 intro es;induction es with
 | nil => intro i; simp [oS]
 | cons e es ih =>
  intro i;unfold oS
  by_cases hk : k = e.1
  ·simp [hk]
  ·rw [if_neg hk, ih]; simp [hk]
end
section
variable {E : Env} {fr : Fr} {K : Hl} {L L' : List Asn} {Q : Post} {dst : Option Tmp} {ty : TypeId} {pos : String} {aft : Array Edge} {g : Option (Nat × Bool)} {x y m : Operand} {t kt et b c i j : Nat} {v z : Value} {es : List EntA}
theorem aDP (hm : E.P.underlying t = some (.map kt et)) (hk : KeyA E.P kt) (hz : fU E.P et = some z) (hx : fr.ev x = some (.map (some b))) (hy : fr.ev y = some (keyA i j)) (hs : Sees K L b (mapA es c)) :
  Ev E fr K L ⟨dst, .lookup t x y true, ty, pos, aft, g⟩ (.tuple #[if (i, j) ∈ es.map (·.1) then i64 1 else z, .bool (decide ((i, j) ∈ es.map (·.1)))]) := fun a w f q => by
 simp only [execOp, f.ev hx, f.ev hy];refine d6 ?_;have hb := hs.at q;have h1 : (Instr.checkKey (es.map entA).toArray.isEmpty 10000 kt (keyA i j)).run E.P w = .ok () w := aI6 hk _ i j;have h2 : (Instr.findKey kt (keyA i j) (es.map entA)).run E.P w = _ := aN8 (w := w) hk (i, j) es;have h3 : (zeroValue et).run E.P w = .ok z w := by
  unfold fU at hz;cases hi : E.P.info? et with
  | none => simp [hi] at hz
  | some inf => simp [hi] at hz; simp only [zeroValue, typeInfo, program, bind, Sem.bind, pure, Sem.run, hi, hz]
 have h4 := xL (i, j) es 0;have h5 : ∀ (es : List EntA) (o : Nat) (p : Nat × Value), oS (i, j) es o = some p → p.2 = i64 1 := by
  intro es;induction es with
  | nil => intro o p h; cases h
  | cons e es ih =>
   intro o p h;unfold oS at h;split at h
   ·cases h; rfl
   ·exact ih _ _ h
 unfold Instr.lookup;rw [aS (run_underlying hm w)];simp only []
 show ((getObj b) >>= fun _ => _).run E.P w = _
 rw [aS (MapKept.run_getObj_map hb)];simp only [];rw [aS (sH _ _), aS h1]
 show ((Instr.findKey kt (keyA i j) (es.map entA)) >>= fun _ => _).run E.P w = _
 rw [aS h2];cases hf : oS (i, j) es 0 with
 | some p =>
  rw [hf] at h4;have hm : (i, j) ∈ es.map (·.1) := by simpa using h4.symm
  rw [if_pos hm, decide_eq_true hm, ← h5 es 0 p hf]; rfl
 | none =>
  rw [hf] at h4;have hm : ¬ (i, j) ∈ es.map (·.1) := by simpa using h4.symm
  rw [if_neg hm, decide_eq_false hm]
  show ((zeroValue et) >>= fun _ => _).run E.P w = _
  rw [aS h3]; rfl
theorem aPU (hm : E.P.underlying t = some (.map kt et)) (hk : KeyA E.P kt) (hx : fr.ev m = some (.map (some b))) (hy : fr.ev x = some (keyA i j)) (hv : fr.ev y = some (i64 1)) (hn : (i, j) ∉ es.map (·.1))
  (hF : Fnd (pt b (mapA es c)) (pt b (mapA (es ++ [((i, j), c)]) (c + 1))) L L') : EfS E fr K L ⟨dst, .mapUpdate t m x y, ty, pos, aft, g⟩ (fun _ K' L'' => K' = K ∧ L'' = L') := by
 intro a w f q;have hb := q.mem hF;have h1 : (Instr.checkKey false 10000 kt (keyA i j)).run E.P w = .ok () w := aI6 hk _ i j;have h2 : (Instr.findKey kt (keyA i j) (es.map entA)).run E.P w = _ := aN8 (w := w) hk (i, j) es;have hf : oS (i, j) es 0 = none := by
  have := xL (i, j) es 0;rw [decide_eq_false hn] at this
  simpa using this
 have hr : (execOp a.eval ⟨dst, .mapUpdate t m x y, ty, pos, aft, g⟩).run E.P w = .ok .skip { w with heap := w.heap.setIfInBounds b (mapA (es ++ [((i, j), c)]) (c + 1)) } := by
  simp only [execOp, f.ev hx, f.ev hy, f.ev hv];have : (Instr.mapUpdate t (.map (some b)) (keyA i j) (i64 1)).run E.P w = .ok () { w with heap := w.heap.setIfInBounds b (mapA (es ++ [((i, j), c)]) (c + 1)) } := by
   unfold Instr.mapUpdate;rw [aS (run_underlying hm w)];simp only []
   show ((getObj b) >>= fun _ => _).run E.P w = _
   rw [aS (MapKept.run_getObj_map hb)];simp only [];rw [aS h1]
   show ((Instr.findKey kt (keyA i j) (es.map entA)) >>= fun _ => _).run E.P w = _
   rw [aS h2, hf]
   show (setObj b _).run E.P w = _
   rw [MapKept.run_setObj_map _ hb];have e1 : (es.map entA).toArray.push { key := keyA i j, val := i64 1, born := c } = ((es ++ [((i, j), c)]).map entA).toArray := by simp [entA]
   rw [e1]
  rw [aS this]; rfl
 have hs := MapKept.heap_set (o' := mapA (es ++ [((i, j), c)]) (c + 1)) hb;exact ⟨_, _, _, _, .inr ⟨hr, rfl⟩, ⟨rfl, rfl⟩, Hl.le_refl _, q.writeAt hF (by simp) hs.1 hs.2⟩
end
theorem aGO {E : Env} {fr : Fr} {K : Hl} {L : List Asn} {dst : Option Tmp} {ty : TypeId} {pos : String} {aft : Array Edge} {g : Option (Nat × Bool)} {x y : Operand} {t : TypeId} {a b : Int} (hk : KeyA E.P t) (hz : fU E.P t = some (.agg #[i64 0, i64 0])) (hx : fr.ev x = some (i64 a)) (hy : fr.ev y = some (i64 b)) :
  Ev E fr K L ⟨dst, .build t #[(0, x), (1, y)], ty, pos, aft, g⟩ (.agg #[i64 a, i64 b]) := fun ac w f j => by
 obtain ⟨e, h1, h2, h3, h4, inf, h5⟩ := hk.arr;have hz3 : (zeroValue t).run E.P w = .ok (.agg #[i64 0, i64 0]) w := by
  unfold fU at hz;cases hi : E.P.info? t with
  | none => simp [hi] at hz
  | some inf => simp [hi] at hz; simp only [zeroValue, typeInfo, program, bind, Sem.bind, pure, Sem.run, hi, hz]
 have s : (sizeOf e).run E.P w = .ok 1 w := by rw [run_sizeOf w h5, h4]
 simp only [execOp];refine d6 ?_;have em : Array.map (fun (p : Nat × Operand) => (p.1, ac.eval p.2)) #[(0, x), (1, y)] = #[(0, i64 a), (1, i64 b)] := by simp [f.ev hx, f.ev hy]
 show (Instr.build t (Array.map (fun (p : Nat × Operand) => (p.1, ac.eval p.2)) #[(0, x), (1, y)])).run E.P w = _
 rw [em];unfold Instr.build;rw [aS hz3, aS (run_underlying h1 w)];simp only [];rw [aS s]
 rfl
theorem aMP {E : Env} {fr : Fr} {K : Hl} {L L' : List Asn} {o : Oper} {N : Value → Hl → List Asn → Prop} (k : ∀ h, Sat L h → Sat L' h) (h : EfS E fr K L' o N) : EfS E fr K L o N := fun a w f i => h a w f (i.imp k)
section
variable {E : Env} {c x y : Code} {fr : Fr} {K : Hl} {L : List Asn} {Q : Post} {α1 α2 α3 α4 α5 : Type}
def Mid5 (E : Env) (I : α1 → α2 → α3 → α4 → α5 → Prop) (fr : α1 → α2 → α3 → α4 → α5 → Fr) (K : α1 → α2 → α3 → α4 → α5 → Hl) (L : α1 → α2 → α3 → α4 → α5 → List Asn) : Act → World → Prop := fun a w => ∃ i1 i2 i3 i4 i5, I i1 i2 i3 i4 i5 ∧ FrOk E.n E.ds (fr i1 i2 i3 i4 i5) a ∧ In E.w0 E.F (K i1 i2 i3 i4 i5) (L i1 i2 i3 i4 i5) w
theorem aNM (I : α1 → α2 → α3 → α4 → α5 → Prop) (fr' : α1 → α2 → α3 → α4 → α5 → Fr) (K' : α1 → α2 → α3 → α4 → α5 → Hl) (L' : α1 → α2 → α3 → α4 → α5 → List Asn) (h1 : T E x fr K L (Exit.then (Mid5 E I fr' K' L') Q)) (h2 : ∀ i1 i2 i3 i4 i5, I i1 i2 i3 i4 i5 → T E y (fr' i1 i2 i3 i4 i5) (K' i1 i2 i3 i4 i5) (L' i1 i2 i3 i4 i5) Q) :
  T E (.seq x y) fr K L Q := by
 intro a w f i;refine wp_seq (Code.wp_mono (fun e a w q => ?_) (h1 a w f i))
 cases e <;> first | exact q | (obtain ⟨i1, i2, i3, i4, i5, hj, fj, ij⟩ := q; exact h2 i1 i2 i3 i4 i5 hj _ _ fj ij)
theorem bN {I : α1 → α2 → α3 → α4 → α5 → Prop} {fr' : α1 → α2 → α3 → α4 → α5 → Fr} {K' : α1 → α2 → α3 → α4 → α5 → Hl} {L' : α1 → α2 → α3 → α4 → α5 → List Asn} (i1 : α1) (i2 : α2) (i3 : α3) (i4 : α4) (i5 : α5) (hi : I i1 i2 i3 i4 i5) (k : Kp fr (fr' i1 i2 i3 i4 i5)) (hK : K' i1 i2 i3 i4 i5 = K) (hL : ∀ h, Sat L h → Sat (L' i1 i2 i3 i4 i5) h) :
  D E .normal fr K L (Exit.then (Mid5 E I fr' K' L') Q) := fun a w f q => ⟨i1, i2, i3, i4, i5, hi, f.keep k, by rw [hK]; exact q.imp hL⟩
end
end Go.SL
end
section
namespace Go.Mach
open Go.Syn
theorem r8 {α : Type} {f g : Nat → Option α} (h : ∀ e, f e = g e) : ∀ n e, iH f n e = iH g n e := by
 intro n;induction n with
 | zero => intro e; rfl
 | succ n ih => intro e; simp only [iH, h, ih]
theorem aGT (w v k : aL) : ∀ (f f' i j : Nat), k.length + 1 - j ≤ f → k.length + 1 - j ≤ f' → j ≤ k.length + 1 → eR w v k f i j = eR w v k f' i j ∨ k.length < j := by
 intro f;induction f with
 | zero => intro f' i j h1 h2 h3; right; omega
 | succ f ih =>
  intro f' i j h1 h2 h3;rcases Nat.lt_or_ge k.length j with hj | hj
  ·exact .inr hj
  cases f' with
  | zero => right; omega
  | succ f' =>
   left
   have e1 : ∀ i', j + 1 ≤ k.length → eR w v k f i' (j + 1) = eR w v k f' i' (j + 1) := fun i' hh => by
    rcases ih f' i' (j + 1) aH aH aH with h | h
    ·exact h
    ·omega
   have e2 : ∀ i', j + 2 ≤ k.length → eR w v k f i' (j + 2) = eR w v k f' i' (j + 2) := fun i' hh => by
    rcases ih f' i' (j + 2) aH aH aH with h | h
    ·exact h
    ·omega
   unfold eR;cases hk : k[j]? with
   | none => rfl
   | some c =>
    have hjl : j < k.length := by
     rcases Nat.lt_or_ge j k.length with h' | h'
     ·exact h'
     ·simp [List.getElem?_eq_none h'] at hk
    simp only [];split
    ·exact r8 (fun e => by rw [e1 e aH]) _ _
    ·cases v[i]? with
     | none => rfl
     | some x =>
      simp only [];split
      ·rw [e1 _ aH]
      ·split
       ·rename_i d hd;split
        ·split at hd
         ·have : j + 1 < k.length := by
           rcases Nat.lt_or_ge (j + 1) k.length with h' | h'
           ·exact h'
           ·simp [List.getElem?_eq_none h'] at hd
          rw [e2 _ aH]
         ·cases hd
        ·rfl
       ·split
        ·rw [e1 _ aH]
        ·rfl
def gl (w v k : aL) (i j : Nat) : Option (List aL) := eR w v k (k.length + 1 - j) i j
variable {w v k : aL} {i j : Nat} {c d x : UInt8}
theorem mJ (h : j = k.length) : gl w v k i j = if i = v.length then some [] else none := by
 unfold gl; subst h
 rw [show k.length + 1 - k.length = 0 + 1 from by omega];unfold eR; rw [List.getElem?_eq_none (Nat.le_refl _)]
theorem sA (h : j < k.length) : gl w v k i j = eR w v k ((k.length - (j + 1) + 1) + 1) i j := by
 unfold gl; congr 1; omega
theorem aMT (hc : k[j]? = some c) (h : j < k.length) (h42 : c.toNat = 42) : gl w v k i j = iH (fun e => (gl w v k e (j + 1)).map fun ps => ((w.take e).drop i) :: ps) (v.length + 1 - i) i := by
 rw [sA h]; unfold eR; simp only [hc]; rw [if_pos h42]
 refine r8 (fun e => ?_) _ _
 unfold gl; congr 2; omega
theorem j8 (hc : k[j]? = some c) (h : j < k.length) (h42 : ¬ c.toNat = 42) (hi : v.length ≤ i) : gl w v k i j = none := by
 rw [sA h]; unfold eR; simp only [hc]; rw [if_neg h42, List.getElem?_eq_none hi]
theorem gl_q (hc : k[j]? = some c) (h : j < k.length) (hx : v[i]? = some x) (h63 : c.toNat = 63) : gl w v k i j = (gl w v k (i + 1) (j + 1)).map fun ps => ((w.take (i + 1)).drop i) :: ps := by
 rw [sA h]; unfold eR; simp only [hc, hx]; rw [if_neg aH, if_pos h63]
 unfold gl; congr 2; omega
theorem gD (hc : k[j]? = some c) (h : j + 1 < k.length) (hx : v[i]? = some x) (h92 : c.toNat = 92) (hd : k[j + 1]? = some d) : gl w v k i j = if x = d then gl w v k (i + 1) (j + 2) else none := by
 rw [sA aH]; unfold eR; simp only [hc, hx]; rw [if_neg aH, if_neg aH, if_pos h92, hd]
 simp only [];split
 ·unfold gl;rcases aGT w v k (k.length - (j + 1) + 1) (k.length + 1 - (j + 2)) (i + 1) (j + 2) aH aH aH with h' | h'
  ·exact h'
  ·omega
 ·rfl
theorem gE (hc : k[j]? = some c) (h : j < k.length) (hx : v[i]? = some x) (h42 : ¬ c.toNat = 42) (h63 : ¬ c.toNat = 63) (h92 : ¬ (c.toNat = 92 ∧ j + 1 < k.length)) : gl w v k i j = if x = c then gl w v k (i + 1) (j + 1) else none := by
 rw [sA h]; unfold eR; simp only [hc, hx]; rw [if_neg h42, if_neg h63]
 have e : (if c.toNat = 92 then k[j + 1]? else none) = none := by
  split
  ·exact List.getElem?_eq_none aH
  ·rfl
 rw [e];simp only [];split
 ·unfold gl; congr 1; omega
 ·rfl
end Go.Mach
end

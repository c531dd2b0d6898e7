/-
  What the proof stands on, part 3: the logic of walks, the walks through the functions, the plain laws. Conditions: as each theorem says. (Merged and shortened by a program.)
-/
import Derived.Lib.AppendIntMem
import Derived.Test.YthopmddkpdehiaaGreatDoorK1
import Derived.Test.YthopmddkpdehiaaGreatDoorK2
set_option linter.unusedVariables false
set_option linter.unusedSimpArgs false
section
namespace Go.Proofs
open Go Go.SL Go.Syn
def RT (s : List UInt8) (b : Nat) (rest : List Value) (r : Res (Tree × St)) : Ending → Hl → List Asn → Prop := fE r fun r v K' L' => Rep1 K' r.1 v ∧ L' = [psb b s r.2 rest]
theorem aCC (K : Hl) (k : Int) (a : List UInt8) (p : Int) : Rep1 K (.act k a p) (.iface 282 (.agg #[i64 k, str a, i64 p])) := ⟨_, _, rfl, rfl⟩
theorem wF (K : Hl) (op : Int) : Rep1 K (.plain op) (.iface 285 (.agg #[i64 op])) := ⟨_, _, rfl, rfl⟩
theorem aNG (at_ : Int) (K : Hl) : Sp Tryz.prog 159 [i64 at_] K [] (Val (.iface 282 (.agg #[i64 1, str [], i64 at_])) K) := by
 refine bB Tryz.func159 rfl Tryz.ntmps159 rfl rfl fun F w => ?_
 refine aI (aB ?_);refine aA (aF rfl) rfl ?_;refine aG (aE ?_);refine aI (aB ?_);refine aA (aC rfl) rfl ?_;refine aA (cK aOF aLK (.cons rfl rfl rfl (.cons .nil) (.cons rfl rfl rfl (.skip (.skip (.cons .nil))) .nil))) rfl ?_;refine aA (cZ Tryz.underlying282 (fun _ h => by cases h) rfl) rfl ?_;refine aA (aF rfl) rfl ?_;refine aG (aE ?_);refine bM ?_;refine bJ rfl rfl (Hl.le_refl _) ?_;exact ⟨rfl, rfl, rfl⟩
theorem aNH (at_ : Int) (K : Hl) : Sp Tryz.prog 160 [i64 at_] K [] (Val (.iface 285 (.agg #[i64 13])) K) := by
 refine bB Tryz.func160 rfl Tryz.ntmps160 rfl rfl fun F w => ?_
 refine aI (aB ?_);refine aA (aF rfl) rfl ?_;refine aG (aE ?_);refine aI (aB ?_);refine aA (cK aOG aLL (.cons rfl rfl rfl (.cons .nil) .nil)) rfl ?_;refine aA (cZ Tryz.underlying285 (fun _ h => by cases h) rfl) rfl ?_;refine aA (aF rfl) rfl ?_;refine aG (aE ?_);refine bM ?_;refine bJ rfl rfl (Hl.le_refl _) ?_;exact ⟨rfl, rfl, rfl⟩
theorem aNI (at_ : Int) (K : Hl) : Sp Tryz.prog 161 [i64 at_] K [] (Val (.iface 285 (.agg #[i64 14])) K) := by
 refine bB Tryz.func161 rfl Tryz.ntmps161 rfl rfl fun F w => ?_
 refine aI (aB ?_);refine aA (aF rfl) rfl ?_;refine aG (aE ?_);refine aI (aB ?_);refine aA (cK aOG aLL (.cons rfl rfl rfl (.cons .nil) .nil)) rfl ?_;refine aA (cZ Tryz.underlying285 (fun _ h => by cases h) rfl) rfl ?_;refine aA (aF rfl) rfl ?_;refine aG (aE ?_);refine bM ?_;refine bJ rfl rfl (Hl.le_refl _) ?_;exact ⟨rfl, rfl, rfl⟩
theorem oK (b : Nat) (s : List UInt8) (st : St) (at_ dp : Int) (rest : List Value) (b1 : Nat) (fn : FuncId) (v : Value) (c : Tree) (K : Hl) (hs : s.length ≤ 600) (hok : Ok s st) (hg : Glob K)
  (h1 : K b1 = some (aU [.func (.func fn) #[] #[]] 283)) (hfn : ∀ K, Sp Tryz.prog fn [i64 at_] K [] (Val v K)) (hc : ∀ K, Rep1 K c v) :
  Sp Tryz.prog 259 [ptr b, i64 at_, i64 dp, ptr b1] K [psb b s st rest] (RT s b rest (jB s c st)) := by
 have ha := hok.1;refine bB Tryz.func259 rfl Tryz.ntmps259 rfl rfl fun F w => ?_
 refine aI (aB ?_);refine aA (aF rfl) rfl ?_;refine aG (aE ?_);refine aI (aB ?_);refine aA (aC rfl) rfl ?_;refine aA bS rfl ?_;refine aA (aD (o' := 0) bV rfl rfl) rfl ?_;refine aW rfl rfl (dF b 208 s st.1 _ _ _ _ rest hs ha _ hg) (.cons .here .nil) rfl (fun _ _ => aX _ _) ?_ ?_
 ·
  rintro _ _ _ hTr le1;obtain ⟨e, p, hr, fb, h, rfl⟩ := aY hTr;cases h
  refine aO (.cons .here .nil) ?_;refine aJ ?_;refine bA bP ?_;simp only [RT, jB, hr, if_true, if_false, ↓reduceIte];exact ⟨fb, rfl, rfl⟩
 rintro _ K _ hTr -;obtain ⟨r, hr, rfl, rfl, rfl⟩ := aZ hTr;clear hTr;have hro := dR ha hr;refine aG (aE ?_);refine aI (aB ?_);refine aA (aC rfl) rfl ?_;refine aW rfl rfl (iT b s r rest [59] _ hs hro.1 hg) (.cons .here .nil) rfl (fun _ _ => aX _ _) ?_ ?_
 ·
  rintro _ _ _ hTr le1;obtain ⟨e, p, hq, fb, h, rfl⟩ := aY hTr;cases h
  refine aO (.cons .here .nil) ?_;refine aJ ?_;refine bA bP ?_;simp only [RT, jB, hr, hq, if_true, if_false, ↓reduceIte];exact ⟨fb, rfl, rfl⟩
 rintro _ K _ hTr -;obtain ⟨q, hq, rfl, rfl, rfl⟩ := aZ hTr;clear hTr;refine aG (aE ?_);refine aI (aB ?_);refine aA (aK aRL rfl aM rfl) rfl ?_;refine aA (aC rfl) rfl ?_;refine cF rfl rfl (hfn _) rfl ?_;refine aA (aF rfl) rfl ?_;refine aG (aE ?_);refine bM ?_;refine aO (.cons .here .nil) ?_;refine bJ rfl rfl (Hl.le_refl _) ?_;simp only [RT, jB, hr, hq, if_true, if_false, ↓reduceIte];exact ⟨_, rfl, hc _, rfl⟩
theorem n6 (b : Nat) (s : List UInt8) (st : St) (at_ dp : Int) (nv : Value) (rest : List Value) (needs : List (List UInt8)) (b1 b2 : Nat) (kd : Int) (ext : List UInt8) (K : Hl) (hs : s.length ≤ 600) (hok : Ok s st) (hg : Glob K) (hv : Ksl (bK 9) K nv needs) (hn : needs.length ≤ 1000000)
  (h1 : K b1 = some (aU [str ext] 9)) (h2 : K b2 = some (aU [i64 kd] 3)) :
  Sp Tryz.prog 260 [ptr b, i64 at_, i64 dp, ptr b1, ptr b2] K [psb b s st (nv :: rest)] (RT s b (nv :: rest) (actC s needs kd ext at_ st)) := by
 have ha := hok.1;refine bB Tryz.func260 rfl Tryz.ntmps260 rfl rfl fun F w => ?_
 refine aI (aB ?_);refine aA (aF rfl) rfl ?_;refine aG (aE ?_);refine hO (fun (_ : Unit) => ¬ (ext ≠ [] ∧ ext ∉ needs)) (fun _ => [(0, ptr b), (1, i64 at_), (4, ptr b2)]) (fun _ => K) (fun _ => [psb b s st (nv :: rest)]) ?_ ?_
 ·
  refine aI (aB ?_);refine aA (aK ts9 rfl (.known h1) rfl) rfl ?_;refine aA (oX rfl rfl) rfl ?_;refine aG (aE ?_);refine bE 11 rfl (fun h11 => ?_) (fun h11 => ?_)
  ·
   refine aB ?_;refine aA (aC rfl) rfl ?_;refine aA (aK ts9 rfl (.known h1) rfl) rfl ?_;refine aW rfl rfl (rJ b s st nv rest needs ext _ hv hn) (.cons .here .nil) rfl (fun _ _ => aX _ _) ?_ ?_
   ·
    rintro _ _ _ hTr le1;obtain ⟨e, p, hu, fb, h, rfl⟩ := aY hTr;cases h
    refine aO (.cons .here .nil) ?_;refine aJ ?_;refine bA bP ?_;have hm : ¬ ext ∈ needs := (by intro h; rw [if_pos h] at hu; cases hu);rw [if_neg hm] at hu;cases hu
    unfold RT actC;rw [if_pos ⟨h11, hm⟩];exact ⟨fb, rfl, rfl⟩
   rintro _ K _ hTr -;obtain ⟨u0, hu, rfl, rfl, rfl⟩ := aZ hTr;clear hTr;have hm : ext ∈ needs := Classical.byContradiction (fun h => by rw [if_neg h] at hu; cases hu);have hne : ¬ (ext ≠ [] ∧ ext ∉ needs) := fun h => h.2 hm
   refine aG ?_;exact bX () hne (.cons 0 rfl (.cons 1 rfl (.cons 4 rfl .nil))) rfl (fun _ h => h)
  ·
   have hne : ¬ (ext ≠ [] ∧ ext ∉ needs) := fun h => h11 h.1
   refine a6 ?_;exact bX () hne (.cons 0 rfl (.cons 1 rfl (.cons 4 rfl .nil))) rfl (fun _ h => h)
 ·
  intro _ hne;refine aI (aB ?_);refine aA (aC rfl) rfl ?_;refine aA bS rfl ?_;refine aA (aD (o' := 0) bV rfl rfl) rfl ?_;refine aW rfl rfl (dF b 208 s st.1 _ _ _ _ (nv :: rest) hs ha _ hg) (.cons .here .nil) rfl (fun _ _ => aX _ _) ?_ ?_
  ·
   rintro _ _ _ hTr le1;obtain ⟨e, p, hr, fb, h, rfl⟩ := aY hTr;cases h
   refine aO (.cons .here .nil) ?_;refine aJ ?_;refine bA bP ?_;simp only [RT, actC, if_neg hne, hr, if_true, if_false, ↓reduceIte];exact ⟨fb, rfl, rfl⟩
  rintro _ K _ hTr -;obtain ⟨r, hr, rfl, rfl, rfl⟩ := aZ hTr;clear hTr;have hro := dR ha hr;refine aG (aE ?_);refine aI (aB ?_);refine aA (aC rfl) rfl ?_;refine aW rfl rfl (kY b s r (nv :: rest) 3 _ [] _ hs hro.1 hg (.inl ⟨none, 0, rfl, rfl⟩) (by simp)) (.cons .here .nil) rfl (fun _ _ => aX _ _) ?_ ?_
  ·
   rintro _ _ _ hTr le1;obtain ⟨e, p, hx, fb, h, rfl⟩ := aY hTr;cases h
   refine aO (.cons .here .nil) ?_;refine aJ ?_;refine bA bP ?_;simp only [RT, actC, if_neg hne, hr, hx, if_true, if_false, ↓reduceIte];exact ⟨fb, rfl, rfl⟩
  rintro _ K _ hTr -;obtain ⟨x, hx, rfl, rfl, rfl⟩ := aZ hTr;clear hTr;have hxo := sL hro.1 hx;refine aA (j6 Tryz.underlying202 rfl ts9 rfl rfl) rfl ?_;refine aA (aF rfl) rfl ?_;refine aG (aE ?_);refine aI (aB ?_);refine aA (aC rfl) rfl ?_;refine aW rfl rfl (iT b s x.2 (nv :: rest) [59] _ hs hxo.1 hg) (.cons .here .nil) rfl (fun _ _ => aX _ _) ?_ ?_
  ·
   rintro _ _ _ hTr le1;obtain ⟨e, p, hq, fb, h, rfl⟩ := aY hTr;cases h
   refine aO (.cons .here .nil) ?_;refine aJ ?_;refine bA bP ?_;simp only [RT, actC, if_neg hne, hr, hx, hq, if_true, if_false, ↓reduceIte];exact ⟨fb, rfl, rfl⟩
  rintro _ K _ hTr -;obtain ⟨q, hq, rfl, rfl, rfl⟩ := aZ hTr;clear hTr;refine aG (aE ?_);refine aI (aB ?_);refine aA (aK ts3 rfl (.known h2) rfl) rfl ?_;refine aA (aC rfl) rfl ?_;refine aA (aC rfl) rfl ?_;refine aA (cK aOF aLK (.cons rfl rfl rfl (.cons .nil) (.cons rfl rfl rfl (.skip (.cons .nil)) (.cons rfl rfl rfl (.skip (.skip (.cons .nil))) .nil)))) rfl ?_;refine aA (cZ Tryz.underlying282 (fun _ h => by cases h) rfl) rfl ?_;refine aA (aF rfl) rfl ?_;refine aG (aE ?_);refine bM ?_;refine aO (.cons .here .nil) ?_;refine bJ rfl rfl (Hl.le_refl _) ?_;simp only [RT, actC, if_neg hne, hr, hx, hq, if_true, if_false, ↓reduceIte];exact ⟨_, rfl, aCC _ _ _ _, rfl⟩
theorem aIR (b : Nat) (s : List UInt8) (st : St) (dp : Int) (rest : List Value) (K : Hl) (hs : s.length ≤ 600) (hok : Ok s st) (hg : Glob K) : Sp Tryz.prog 165 [ptr b, i64 dp] K [psb b s st rest] (RT s b rest (jY s true st)) := by
 have ha := hok.1;refine bB Tryz.func165 rfl Tryz.ntmps165 rfl rfl fun F w => ?_
 refine aI (aB ?_);refine aA (aF rfl) rfl ?_;refine aG (aE ?_);refine aI (aB ?_);refine aA (aC rfl) rfl ?_;refine aA bS rfl ?_;refine aA (aD (o' := 0) bV rfl rfl) rfl ?_;refine aW rfl rfl (dF b 208 s st.1 _ _ _ _ rest hs ha _ hg) (.cons .here .nil) rfl (fun _ _ => aX _ _) ?_ ?_
 ·
  rintro _ _ _ hTr le1;obtain ⟨e, p, hr, fb, h, rfl⟩ := aY hTr;cases h
  refine aO (.cons .here .nil) ?_;refine aJ ?_;refine bA bP ?_;simp only [RT, jY, hr, if_true, if_false, ↓reduceIte];exact ⟨fb, rfl, rfl⟩
 rintro _ K _ hTr -;obtain ⟨r, hr, rfl, rfl, rfl⟩ := aZ hTr;clear hTr;refine aG (aE ?_);refine aI (aB ?_);refine aA (cZ Tryz.underlying289 (fun _ h => by cases h) rfl) rfl ?_;refine aA (aF rfl) rfl ?_;refine aG (aE ?_);refine bM ?_;refine aO (.cons .here .nil) ?_;refine bJ rfl rfl (Hl.le_refl _) ?_;simp only [RT, jY, hr, if_true, if_false, ↓reduceIte];exact ⟨_, rfl, ⟨_, _, rfl, rfl⟩, rfl⟩
theorem aDT (b : Nat) (s : List UInt8) (st : St) (dp : Int) (rest : List Value) (K : Hl) (hs : s.length ≤ 600) (hok : Ok s st) (hg : Glob K) : Sp Tryz.prog 166 [ptr b, i64 dp] K [psb b s st rest] (RT s b rest (jY s false st)) := by
 have ha := hok.1;refine bB Tryz.func166 rfl Tryz.ntmps166 rfl rfl fun F w => ?_
 refine aI (aB ?_);refine aA (aF rfl) rfl ?_;refine aG (aE ?_);refine aI (aB ?_);refine aA (aC rfl) rfl ?_;refine aA bS rfl ?_;refine aA (aD (o' := 0) bV rfl rfl) rfl ?_;refine aW rfl rfl (dF b 208 s st.1 _ _ _ _ rest hs ha _ hg) (.cons .here .nil) rfl (fun _ _ => aX _ _) ?_ ?_
 ·
  rintro _ _ _ hTr le1;obtain ⟨e, p, hr, fb, h, rfl⟩ := aY hTr;cases h
  refine aO (.cons .here .nil) ?_;refine aJ ?_;refine bA bP ?_;simp only [RT, jY, hr, if_true, if_false, ↓reduceIte];exact ⟨fb, rfl, rfl⟩
 rintro _ K _ hTr -;obtain ⟨r, hr, rfl, rfl, rfl⟩ := aZ hTr;clear hTr;refine aG (aE ?_);refine aI (aB ?_);refine aA (cZ Tryz.underlying289 (fun _ h => by cases h) rfl) rfl ?_;refine aA (aF rfl) rfl ?_;refine aG (aE ?_);refine bM ?_;refine aO (.cons .here .nil) ?_;refine bJ rfl rfl (Hl.le_refl _) ?_;simp only [RT, jY, hr, if_true, if_false, ↓reduceIte];exact ⟨_, rfl, ⟨_, _, rfl, rfl⟩, rfl⟩
theorem aBN (b : Nat) (s : List UInt8) (st : St) (dp : Int) (rest : List Value) (K : Hl) (hs : s.length ≤ 600) (hok : Ok s st) (hg : Glob K) : Sp Tryz.prog 176 [ptr b, i64 dp] K [psb b s st rest] (RT s b rest (lB s st)) := by
 have ha := hok.1;refine bB Tryz.func176 rfl Tryz.ntmps176 rfl rfl fun F w => ?_
 refine aI (aB ?_);refine aA (aF rfl) rfl ?_;refine aG (aE ?_);refine aI (aB ?_);refine aA (aC rfl) rfl ?_;refine aA bS rfl ?_;refine aA (aD (o' := 0) bV rfl rfl) rfl ?_;refine aW rfl rfl (dF b 208 s st.1 _ _ _ _ rest hs ha _ hg) (.cons .here .nil) rfl (fun _ _ => aX _ _) ?_ ?_
 ·
  rintro _ _ _ hTr le1;obtain ⟨e, p, hr, fb, h, rfl⟩ := aY hTr;cases h
  refine aO (.cons .here .nil) ?_;refine aJ ?_;refine bA bP ?_;simp only [RT, lB, hr, if_true, if_false, ↓reduceIte];exact ⟨fb, rfl, rfl⟩
 rintro _ K _ hTr -;obtain ⟨r, hr, rfl, rfl, rfl⟩ := aZ hTr;clear hTr;have hro := dR ha hr;refine aG (aE ?_);refine aI (aB ?_);refine aA (aC rfl) rfl ?_;refine aW rfl rfl (oG b s r rest 177 #[] (fun _ => 0) _ hs hro hg (fun x hx => jI x _)) (.cons .here .nil) rfl (fun _ _ => aX _ _) ?_ ?_
 ·
  rintro _ _ _ hTr le1;obtain ⟨e, p, ha1, fb, h, rfl⟩ := aY hTr;cases h
  refine aO (.cons .here .nil) ?_;refine aJ ?_;refine bA bP ?_;simp only [RT, lB, hr, ha1, if_true, if_false, ↓reduceIte];exact ⟨fb, rfl, rfl⟩
 rintro _ K _ hTr -;obtain ⟨va, ha1, rfl, rfl⟩ := aZ hTr;clear hTr;refine gI fun K1 leA hA => ?_
 obtain ⟨sa, sn, sc, rfl⟩ := hA.isSlice;refine aA (cK aRB aP6 (.cons rfl rfl rfl (.cons .nil) .nil)) rfl ?_;refine aA (cZ Tryz.underlying297 (fun _ h => by cases h) rfl) rfl ?_;refine aA (aF rfl) rfl ?_;refine aG (aE ?_);refine bM ?_;refine aO (.cons .here .nil) ?_;refine bJ rfl rfl (by first | exact leA | exact Hl.le_refl _) ?_;simp only [RT, lB, hr, ha1, if_true, if_false, ↓reduceIte];exact ⟨_, rfl, ⟨_, _, rfl, _, hA, rfl⟩, rfl⟩
theorem aH6 (b : Nat) (s : List UInt8) (st : St) (dp : Int) (rest : List Value) (K : Hl) (hs : s.length ≤ 600) (hok : Ok s st) (hg : Glob K) : Sp Tryz.prog 178 [ptr b, i64 dp] K [psb b s st rest] (RT s b rest (nR s st)) := by
 have ha := hok.1;refine bB Tryz.func178 rfl Tryz.ntmps178 rfl rfl fun F w => ?_
 refine aI (aB ?_);refine aA (aF rfl) rfl ?_;refine aG (aE ?_);refine aI (aB ?_);refine aA (aC rfl) rfl ?_;refine aA bS rfl ?_;refine aA (aD (o' := 0) bV rfl rfl) rfl ?_;refine aW rfl rfl (dF b 208 s st.1 _ _ _ _ rest hs ha _ hg) (.cons .here .nil) rfl (fun _ _ => aX _ _) ?_ ?_
 ·
  rintro _ _ _ hTr le1;obtain ⟨e, p, hr, fb, h, rfl⟩ := aY hTr;cases h
  refine aO (.cons .here .nil) ?_;refine aJ ?_;refine bA bP ?_;simp only [RT, nR, hr, if_true, if_false, ↓reduceIte];exact ⟨fb, rfl, rfl⟩
 rintro _ K _ hTr -;obtain ⟨r, hr, rfl, rfl, rfl⟩ := aZ hTr;clear hTr;have hro := dR ha hr;refine aG (aE ?_);refine aI (aB ?_);refine aA (aF rfl) rfl ?_;refine aG (aE ?_);refine aI (aI ?_);refine aB ?_;refine aA (aC rfl) rfl ?_;refine ol_s (bO (z0 := [(str []), (str [])]) cT tz9 rfl rfl rfl rfl (.cons rfl rfl rfl (.cons .nil) (.cons rfl rfl rfl (.skip (.cons .nil)) .nil))) rfl ?_;rintro _ K _ ⟨b11, rfl, rfl, rfl⟩ -;refine e7 fun K1 leA hK1 => ?_
 refine aW rfl rfl (kY b s r rest 2 _ [w3, l5] _ hs hro.1 (hg.mono leA) (.inr ⟨b11, 0, 2, [str w3, str l5], (0, 0), rfl, ⟨_, hK1⟩, rfl⟩) (by simp)) (.cons .here .nil) rfl (fun _ _ => aX _ _) ?_ ?_
 ·
  rintro _ _ _ hTr le1;obtain ⟨e, p, hx, fb, h, rfl⟩ := aY hTr;cases h
  refine aO (.cons .here .nil) ?_;refine aJ ?_;refine aJ ?_;refine bA (Hl.le_trans leA le1) ?_;simp only [RT, nR, hr, hx, if_true, if_false, ↓reduceIte];exact ⟨fb, rfl, rfl⟩
 rintro _ K _ hTr -;obtain ⟨x, hx, rfl, rfl, rfl⟩ := aZ hTr;clear hTr;have hxo := sL hro.1 hx;refine aA (j6 Tryz.underlying202 rfl ts9 rfl rfl) rfl ?_;refine aA (jF rfl rfl) rfl ?_;refine aG (aE ?_);refine bE 14 rfl (fun h14 => ?_) (fun h14 => ?_)
 ·
  have g14 : x.1.s = l5 := h14;refine aB ?_;refine aA (aF rfl) rfl ?_;refine aG (aE ?_);refine aI (aB ?_);refine aA (aC rfl) rfl ?_;refine aA (aC rfl) rfl ?_;refine aW rfl rfl (kY b s x.2 rest 4 _ [] _ hs hxo.1 (hg.mono leA) (.inl ⟨none, 0, rfl, rfl⟩) (by simp)) (.cons .here .nil) rfl (fun _ _ => aX _ _) ?_ ?_
  ·
   rintro _ _ _ hTr le1;obtain ⟨e, p, hy, fb, h, rfl⟩ := aY hTr;cases h
   refine aO (.cons .here .nil) ?_;refine aJ ?_;refine bA (Hl.le_trans leA le1) ?_;simp only [RT, nR, hr, hx, if_pos g14, hy, if_true, if_false, ↓reduceIte];exact ⟨fb, rfl, rfl⟩
  rintro _ K _ hTr -;obtain ⟨y, hy, rfl, rfl, rfl⟩ := aZ hTr;clear hTr;refine aA (j6 Tryz.underlying202 rfl ts3 rfl rfl) rfl ?_;refine aA (cK aOI aLM (.cons rfl rfl rfl (.cons .nil) (.cons rfl rfl rfl (.skip (.cons .nil)) .nil))) rfl ?_;refine aA (cZ Tryz.underlying300 (fun _ h => by cases h) rfl) rfl ?_;refine aA (aF rfl) rfl ?_;refine aG (aE ?_);refine bM ?_;refine aO (.cons .here .nil) ?_;refine bJ rfl rfl leA ?_;simp only [RT, nR, hr, hx, if_pos g14, hy, if_true, if_false, ↓reduceIte];exact ⟨_, rfl, ⟨_, _, rfl, rfl⟩, rfl⟩
 ·
  have g14 : ¬ x.1.s = l5 := h14;refine a6 ?_;refine aE (aI ?_);refine aB ?_;refine aA (aC rfl) rfl ?_;refine aA (aC rfl) rfl ?_;refine aW rfl rfl (kY b s x.2 rest 4 _ [] _ hs hxo.1 (hg.mono leA) (.inl ⟨none, 0, rfl, rfl⟩) (by simp)) (.cons .here .nil) rfl (fun _ _ => aX _ _) ?_ ?_
  ·
   rintro _ _ _ hTr le1;obtain ⟨e, p, hy, fb, h, rfl⟩ := aY hTr;cases h
   refine aO (.cons .here .nil) ?_;refine aJ ?_;refine bA (Hl.le_trans leA le1) ?_;simp only [RT, nR, hr, hx, if_neg g14, hy, if_true, if_false, ↓reduceIte];exact ⟨fb, rfl, rfl⟩
  rintro _ K _ hTr -;obtain ⟨y, hy, rfl, rfl, rfl⟩ := aZ hTr;clear hTr;refine aA (j6 Tryz.underlying202 rfl ts3 rfl rfl) rfl ?_;refine aA (cK aOI aLM (.cons rfl rfl rfl (.cons .nil) (.cons rfl rfl rfl (.skip (.cons .nil)) .nil))) rfl ?_;refine aA (cZ Tryz.underlying300 (fun _ h => by cases h) rfl) rfl ?_;refine aA (aF rfl) rfl ?_;refine aG (aE ?_);refine bM ?_;refine aO (.cons .here .nil) ?_;refine bJ rfl rfl leA ?_;simp only [RT, nR, hr, hx, if_neg g14, hy, if_true, if_false, ↓reduceIte];exact ⟨_, rfl, ⟨_, _, rfl, rfl⟩, rfl⟩
end Go.Proofs
end
section
namespace Go.Proofs
open Go Go.SL Go.Syn
structure PK (s : List UInt8) (needs : List (List UInt8)) (nv : Value) (K : Hl) : Prop where
 hs : s.length ≤ 600
 hg : Glob K
 hv : Ksl (bK 9) K nv needs
 hn : needs.length ≤ 1000000
theorem PK.mono {s : List UInt8} {needs : List (List UInt8)} {nv : Value} {K K' : Hl} (h : PK s needs nv K) (le : K.le K') : PK s needs nv K' := ⟨h.hs, h.hg.mono le, h.hv.mono le, h.hn⟩
theorem aBS (b : Nat) (s : List UInt8) (st : St) (dp : Int) (nv : Value) (rest : List Value) (needs : List (List UInt8)) (K : Hl) (hok : Ok s st) (hp : PK s needs nv K) : Sp Tryz.prog 172 [ptr b, i64 dp] K [psb b s st (nv :: rest)] (RT s b (nv :: rest) (iS s needs 6 [] st)) := by
 refine bB Tryz.func172 rfl Tryz.ntmps172 rfl rfl fun F w => ?_
 refine aI (aB ?_);refine aA (aF rfl) rfl ?_;refine aG (aE ?_);refine aI (aB ?_);refine aA (aC rfl) rfl ?_;refine aW rfl rfl (rH b s st 6 [] nv rest needs _ hp.hs hok hp.hg hp.hv hp.hn) (.cons .here .nil) rfl (fun _ _ => aX _ _) ?_ ?_
 ·
  rintro _ _ _ hTr le1;obtain ⟨e, p, hr, fb, h, rfl⟩ := aY hTr;cases h
  refine aO (.cons .here .nil) ?_;refine aJ ?_;refine bA bP ?_;simp only [RT, hr, if_true, if_false, ↓reduceIte];exact ⟨fb, rfl, rfl⟩
 rintro _ K1 _ hTr leK1;obtain ⟨r, hr, hrep, rfl⟩ := aZ hTr;clear hTr;refine aA (aF rfl) rfl ?_;refine aG (aE ?_);refine bM ?_;refine aO (.cons .here .nil) ?_;refine bJ rfl rfl leK1 ?_;simp only [RT, hr, if_true, if_false, ↓reduceIte];exact ⟨_, rfl, hrep, rfl⟩
theorem xF (b : Nat) (s : List UInt8) (st : St) (dp : Int) (nv : Value) (rest : List Value) (needs : List (List UInt8)) (K : Hl) (hok : Ok s st) (hp : PK s needs nv K) : Sp Tryz.prog 174 [ptr b, i64 dp] K [psb b s st (nv :: rest)] (RT s b (nv :: rest) (iS s needs 7 gA st)) := by
 refine bB Tryz.func174 rfl Tryz.ntmps174 rfl rfl fun F w => ?_
 refine aI (aB ?_);refine aA (aF rfl) rfl ?_;refine aG (aE ?_);refine aI (aB ?_);refine aA (aC rfl) rfl ?_;refine aW rfl rfl (rH b s st 7 gA nv rest needs _ hp.hs hok hp.hg hp.hv hp.hn) (.cons .here .nil) rfl (fun _ _ => aX _ _) ?_ ?_
 ·
  rintro _ _ _ hTr le1;obtain ⟨e, p, hr, fb, h, rfl⟩ := aY hTr;cases h
  refine aO (.cons .here .nil) ?_;refine aJ ?_;refine bA bP ?_;simp only [RT, hr, if_true, if_false, ↓reduceIte];exact ⟨fb, rfl, rfl⟩
 rintro _ K1 _ hTr leK1;obtain ⟨r, hr, hrep, rfl⟩ := aZ hTr;clear hTr;refine aA (aF rfl) rfl ?_;refine aG (aE ?_);refine bM ?_;refine aO (.cons .here .nil) ?_;refine bJ rfl rfl leK1 ?_;simp only [RT, hr, if_true, if_false, ↓reduceIte];exact ⟨_, rfl, hrep, rfl⟩
theorem aCR (b : Nat) (s : List UInt8) (st : St) (dp : Int) (nv : Value) (rest : List Value) (needs : List (List UInt8)) (K : Hl) (hok : Ok s st) (hp : PK s needs nv K) : Sp Tryz.prog 175 [ptr b, i64 dp] K [psb b s st (nv :: rest)] (RT s b (nv :: rest) (iS s needs 8 dH st)) := by
 refine bB Tryz.func175 rfl Tryz.ntmps175 rfl rfl fun F w => ?_
 refine aI (aB ?_);refine aA (aF rfl) rfl ?_;refine aG (aE ?_);refine aI (aB ?_);refine aA (aC rfl) rfl ?_;refine aW rfl rfl (rH b s st 8 dH nv rest needs _ hp.hs hok hp.hg hp.hv hp.hn) (.cons .here .nil) rfl (fun _ _ => aX _ _) ?_ ?_
 ·
  rintro _ _ _ hTr le1;obtain ⟨e, p, hr, fb, h, rfl⟩ := aY hTr;cases h
  refine aO (.cons .here .nil) ?_;refine aJ ?_;refine bA bP ?_;simp only [RT, hr, if_true, if_false, ↓reduceIte];exact ⟨fb, rfl, rfl⟩
 rintro _ K1 _ hTr leK1;obtain ⟨r, hr, hrep, rfl⟩ := aZ hTr;clear hTr;refine aA (aF rfl) rfl ?_;refine aG (aE ?_);refine bM ?_;refine aO (.cons .here .nil) ?_;refine bJ rfl rfl leK1 ?_;simp only [RT, hr, if_true, if_false, ↓reduceIte];exact ⟨_, rfl, hrep, rfl⟩
def qM (s : List UInt8) (b : Nat) (rest : List Value) (K : Hl) (dp : Int) (Tf : St → Res (Tree × St)) : Prop :=
 ∀ (st : St) (K' : Hl), K.le K' → Ok s st → Sp Tryz.prog 168 [ptr b, i64 dp] K' [psb b s st rest] (RT s b rest (Tf st))
theorem aKJ (b : Nat) (s : List UInt8) (st : St) (dp : Int) (rest : List Value) (K : Hl) (Tf : St → Res (Tree × St)) (hs : s.length ≤ 600) (hok : Ok s st) (hg : Glob K) (hd : 0 ≤ dp ∧ dp ≤ 6) (hT : qM s b rest K (dp + 1) Tf) :
  Sp Tryz.prog 167 [ptr b, i64 dp] K [psb b s st rest] (RT s b rest (notC s Tf st)) := by
 have ha := hok.1;refine bB Tryz.func167 rfl Tryz.ntmps167 rfl rfl fun F w => ?_
 refine aI (aB ?_);refine aA (aF rfl) rfl ?_;refine aG (aE ?_);refine aI (aB ?_);refine aA (aC rfl) rfl ?_;refine aA bS rfl ?_;refine aA (aD (o' := 0) bV rfl rfl) rfl ?_;refine aW rfl rfl (dF b 208 s st.1 _ _ _ _ rest hs ha _ hg) (.cons .here .nil) rfl (fun _ _ => aX _ _) ?_ ?_
 ·
  rintro _ _ _ hTr le1;obtain ⟨e, p, hr, fb, h, rfl⟩ := aY hTr;cases h
  refine aO (.cons .here .nil) ?_;refine aJ ?_;refine bA bP ?_;simp only [RT, notC, hr, if_true, if_false, ↓reduceIte];exact ⟨fb, rfl, rfl⟩
 rintro _ K _ hTr -;obtain ⟨r, hr, rfl, rfl, rfl⟩ := aZ hTr;clear hTr;have hro := dR ha hr;refine aG (aE ?_);refine aI (aB ?_);refine aA (aC rfl) rfl ?_;refine aA (aC rfl) rfl ?_;refine aA (bZ rfl rfl aH aH) rfl ?_;refine aW rfl rfl (hT r _ (Hl.le_refl _) hro) (.cons .here .nil) rfl (fun _ _ => aX _ _) ?_ ?_
 ·
  rintro _ _ _ hTr le1;obtain ⟨e, p, ht, fb, h, rfl⟩ := aY hTr;cases h
  refine aO (.cons .here .nil) ?_;refine aJ ?_;refine bA bP ?_;simp only [RT, notC, hr, ht, if_true, if_false, ↓reduceIte];exact ⟨fb, rfl, rfl⟩
 rintro _ K1 _ hTr leK1;obtain ⟨t, ht, ⟨ty, u, rfl, hrep⟩, rfl⟩ := aZ hTr;clear hTr;refine aA (cK aRA aP5 (.cons rfl rfl rfl (.cons .nil) .nil)) rfl ?_;refine aA (cZ Tryz.underlying293 (fun _ h => by cases h) rfl) rfl ?_;refine aA (aF rfl) rfl ?_;refine aG (aE ?_);refine bM ?_;refine aO (.cons .here .nil) ?_;refine bJ rfl rfl leK1 ?_;simp only [RT, notC, hr, ht, if_true, if_false, ↓reduceIte];exact ⟨_, rfl, ⟨_, _, rfl, _, hrep, rfl⟩, rfl⟩
theorem aI5 (b : Nat) (e : TypeId) (c : Cell) : ∀ h, pt b (aU [c.1] e) h → sl false (eJ e) (.slice (some ⟨b, 0, none⟩) 1 1) [c] h :=
 sJ (k := eJ e) (xs := [c]) (cells := [c.1]) (Nat.le_refl _) rfl rfl (.inl (Nat.le_refl _)) (fun h => by cases h)
theorem yA (b : Nat) (s : List UInt8) (st : St) (all : Bool) (dp : Int) (rest : List Value) (K : Hl) (Tf : St → Res (Tree × St)) (hs : s.length ≤ 600) (hok : Ok s st) (hg : Glob K) (hd : 0 ≤ dp ∧ dp ≤ 6) (hTa : Adv s Tf) (hT : qM s b rest K (dp + 1) Tf) :
  Sp Tryz.prog 170 [ptr b, .bool all, i64 dp] K [psb b s st rest] (RT s b rest (lT s Tf all st)) := by
 have ha := hok.1;refine bB Tryz.func170 rfl Tryz.ntmps170 rfl rfl fun F w => ?_
 refine aI (aB ?_);refine aA (aF rfl) rfl ?_;refine aG (aE ?_);refine aI (aB ?_);refine aA (aC rfl) rfl ?_;refine aA bS rfl ?_;refine aA (aD (o' := 0) bV rfl rfl) rfl ?_;refine aW rfl rfl (dF b 208 s st.1 _ _ _ _ rest hs ha _ hg) (.cons .here .nil) rfl (fun _ _ => aX _ _) ?_ ?_
 ·
  rintro _ _ _ hTr le1;obtain ⟨e, p, hr, fb, h, rfl⟩ := aY hTr;cases h
  refine aO (.cons .here .nil) ?_;refine aJ ?_;refine bA bP ?_;simp only [RT, lT, hr, if_true, if_false, ↓reduceIte];exact ⟨fb, rfl, rfl⟩
 rintro _ K _ hTr -;obtain ⟨r, hr, rfl, rfl, rfl⟩ := aZ hTr;clear hTr;have hro := dR ha hr;refine aG (aE ?_);refine aI (aB ?_);refine aA (aC rfl) rfl ?_;refine aW rfl rfl (iT b s r rest [40] _ hs hro.1 hg) (.cons .here .nil) rfl (fun _ _ => aX _ _) ?_ ?_
 ·
  rintro _ _ _ hTr le1;obtain ⟨e, p, hq, fb, h, rfl⟩ := aY hTr;cases h
  refine aO (.cons .here .nil) ?_;refine aJ ?_;refine bA bP ?_;simp only [RT, lT, hr, hq, if_true, if_false, ↓reduceIte];exact ⟨fb, rfl, rfl⟩
 rintro _ K _ hTr -;obtain ⟨q, hq, rfl, rfl, rfl⟩ := aZ hTr;clear hTr;have hqo := uK hro.1 hq;refine aG (aE ?_);refine aI (aB ?_);refine aA (aC rfl) rfl ?_;refine aA (aC rfl) rfl ?_;refine aA (aC rfl) rfl ?_;refine aA (bZ rfl rfl aH aH) rfl ?_;refine aW rfl rfl (hT q _ (Hl.le_refl _) hqo) (.cons .here .nil) rfl (fun _ _ => aX _ _) ?_ ?_
 ·
  rintro _ _ _ hTr le1;obtain ⟨e, p, ht, fb, h, rfl⟩ := aY hTr;cases h
  refine aO (.cons .here .nil) ?_;refine aJ ?_;refine bA bP ?_;simp only [RT, lT, hr, hq, ht, if_true, if_false, ↓reduceIte];exact ⟨fb, rfl, rfl⟩
 rintro _ K1 _ hTr leK1;obtain ⟨t, ht, ⟨ty, u, rfl, hrep⟩, rfl⟩ := aZ hTr;clear hTr;have hto := (hTa _ _ hqo ht).1;refine ol_s (bO (z0 := [.nilIface]) pK aOP rfl rfl rfl rfl (.cons rfl rfl rfl (.cons .nil) .nil)) rfl ?_;rintro _ K _ ⟨b19, rfl, rfl, rfl⟩ -;refine aA (cK aRF aQA (.cons rfl rfl rfl (.cons .nil) (.cons rfl rfl rfl (.skip (.cons .nil)) .nil))) rfl ?_;refine ol_s (cO aOS) rfl ?_;rintro _ K _ ⟨b7, rfl, rfl, rfl⟩ -;refine bR (cH aAQ rfl rfl rfl a7 (by first | (simp [Value.oneCell']; done) | exact fun c hc => El.one _ _ c hc) (.cons (.cons .nil)) (by intro j hj; simp)) ?_;rintro _ K _ ⟨rfl, rfl⟩ -;refine aG (aE ?_);refine aI (bF ?_);refine aAM (fun (K2 : Hl) (st2 : St) (us : List (Cell × Cell)) (sv : Value) => K.le K2 ∧ Ok s st2 ∧ us.length + mu s st2 ≤ 1300 ∧ ∃ acc f, isTL acc = true ∧ Rep K2 acc us ∧ mu s st2 ≤ f ∧ lT s Tf all st = sE all (mM s Tf (f + 1) acc st2)) (fun _ _ _ _ => [(0, ptr b), (2, i64 dp), (7, ptr b7)]) (fun K2 _ _ _ => K2) (fun _ st2 us sv => [pt b7 (aU [.bool all, sv] 376), sl false (eJ 288) sv (us.map Prod.fst), psb b s st2 rest]) (fun _ st2 _ _ => mu s st2) _ t.2 [(⟨.iface ty u, rfl⟩, u0)] (.slice (some ⟨b19, 0, none⟩) 1 1) ⟨Hl.le_refl _, hto, by have := qQ s t.2; simp; omega, .tcons t.1 .tnil, mu s t.2, rfl, ⟨_, [], hrep, rfl, rfl⟩, Nat.le_refl _, by simp only [lT, hr, hq, ht]⟩ (.cons 0 rfl (.cons 2 rfl (.cons 7 rfl .nil))) rfl (fun h hh => fP (gX (aI5 b19 288 ⟨.iface ty u, rfl⟩) h (fP hh))) ?_;intro K2 st2 us sv ⟨leK, hok2, hus, acc, f, hacc, hrp, hf, hx⟩;refine aI (aI ?_);refine aB ?_;refine aA (aC rfl) rfl ?_;refine aW rfl rfl (vD b s st2 rest [44] _ hs hok2.1 (hg.mono (Hl.le_trans leK1 leK))) (.cons (.there (.there .here)) .nil) rfl (fun _ _ => aX _ _) ?_ ?_
 ·
  rintro _ _ _ hTr le1;obtain ⟨e, p, hy, fb, h, rfl⟩ := aY hTr;cases h
  refine aO (.cons .here .nil) ?_;refine aJ ?_;refine aJ ?_;refine aJ ?_;refine aP ?_;refine aJ ?_;refine bA (Hl.le_trans leK1 (Hl.le_trans leK le1)) ?_;simp only [RT, hx, mM, hy, if_true, if_false, ↓reduceIte];exact ⟨fb, rfl, rfl⟩
 rintro _ K _ hTr -;obtain ⟨y, hy, rfl, rfl, rfl⟩ := aZ hTr;clear hTr;obtain ⟨hy1, hy2, hy3⟩ := oV hok2.1 hy;have hyo := sY hok2 hy;refine aG (aE ?_);refine eB 22 rfl (fun h22 => ?_) (fun h22 => ?_)
 ·
  refine a6 ?_;refine aE (bF ?_);refine t_draw (anc := [0, 1, 0, 0, 8, 28, 60, 127, 255, 511]) (ord := [0, 1, 2, 3, 4, 5, 6, 7, 8, 9]) [5, 6, 7, 9] [9] mixed (by decide +kernel) (.cons (.there .here) .nil) ?_;refine dl_ev rfl rfl (.none rfl) rfl rfl (aD (o' := 1) qH rfl rfl) rfl ?_;refine dl_ev rfl rfl (.none rfl) rfl rfl (aK aFZ rfl aM rfl) rfl ?_;refine dl_ev rfl rfl (.none rfl) rfl rfl (aC rfl) rfl ?_;refine dl_ev rfl rfl (.none rfl) rfl rfl (aC rfl) rfl ?_;refine dl_ev rfl rfl (.none rfl) rfl rfl (bZ rfl rfl aH aH) rfl ?_;refine rZ rfl (.none rfl) rfl rfl rfl rfl (hT y.2 _ (Hl.le_trans leK1 leK) hyo) (.cons (.there .here) .nil) rfl (fun _ _ => aX _ _) ?_ ?_
  ·
   rintro _ _ _ hTr le1;obtain ⟨e, p, ht2, fb, h, rfl⟩ := aY hTr;cases h
   intro a0 w0 hd0 hi0;refine ⟨hd0, _, _, ?_, (Hl.le_trans leK1 (Hl.le_trans leK le1)), hi0.left⟩
   simp only [RT, hx, mM, hy, if_pos h22, ht2, if_true, if_false, ↓reduceIte];exact ⟨fb, rfl, rfl⟩
  rintro _ K3 _ hTr leK3;obtain ⟨t2, ht2, ⟨ty2, u2, rfl, hrep2⟩, rfl⟩ := aZ hTr;clear hTr;refine ⟨_, (show Tks _ _ _ from (.cons (.there .here) .nil)).sat, ?_⟩
  refine dl_s rfl rfl (.none rfl) rfl rfl (bO (z0 := [.nilIface]) pK aOP rfl rfl rfl rfl (.cons rfl rfl rfl (.cons .nil) .nil)) rfl ?_;rintro _ K _ ⟨b29, rfl, rfl, rfl⟩ -;refine ⟨_, (show Tks _ _ _ from (.cons (.there .here) .nil)).sat, ?_⟩
  refine dl_s rfl rfl (.none rfl) rfl rfl (dQ (k := (eJ 288)) (ys := [⟨.iface ty2 u2, rfl⟩]) wT rfl rfl a7 (fun w j => dN Tryz.underlying374 (SeesSl.at (.blk (.own (.there .here)) rfl rfl) j)) (by simp; omega) (by first | (simp; omega) | omega)) rfl ?_;rintro v30 K _ ⟨rfl, rfl, ho30⟩ -;refine ⟨_, (show Tks _ _ _ from (.cons (.there .here) .nil)).sat, ?_⟩
  refine dl_ev rfl rfl (.none rfl) rfl rfl (aD (o' := 1) qH rfl rfl) rfl ?_;refine r6 rfl rfl (.none rfl) rfl (bI aFZ rfl rfl cG a7 (.succ .zero) rfl) ?_;rintro _ K _ ⟨rfl, rfl⟩ -;refine dl_nil ?_;refine aN ?_;have hm := hy3 h22;have hm2 := hTa _ _ hyo ht2;obtain ⟨f0, rfl⟩ : ∃ f0, f = f0 + 1 := ⟨f - 1, by omega⟩;refine aO (.cons .here (.cons .here (.cons (.there .here) .nil))) ?_;obtain ⟨hr3, hr4⟩ := aHN hrep2 hacc (hrp.mono leK3);refine u7 K t2.2 (us ++ [(⟨.iface ty2 u2, rfl⟩, u0)]) v30 ⟨Hl.le_trans leK leK3, hm2.1, by simp; omega, acc.snocT t2.1, f0, hr4, hr3, by omega, ?_⟩ aH (.cons 0 rfl (.cons 2 rfl (.cons 7 rfl .nil))) rfl (by rw [List.map_append]; exact fun _ h => h)
  simp only [RT, hx, mM, hy, if_pos h22, ht2, if_true, if_false, ↓reduceIte]
 ·
  have g22 : ¬ y.1 = true := by simp [h22]
  refine cY ?_;refine aV ?_;refine aV ?_;refine bL ?_;refine aE (aI ?_);refine aB ?_;refine aA (aC rfl) rfl ?_;refine aW rfl rfl (iT b s y.2 rest [41] _ hs hyo.1 (hg.mono (Hl.le_trans leK1 leK))) (.cons .here .nil) rfl (fun _ _ => aX _ _) ?_ ?_
  ·
   rintro _ _ _ hTr le1;obtain ⟨e, p, hz, fb, h, rfl⟩ := aY hTr;cases h
   refine aO (.cons .here .nil) ?_;refine aJ ?_;refine bA (Hl.le_trans leK1 (Hl.le_trans leK le1)) ?_;simp only [RT, hx, mM, hy, if_neg g22, hz, if_true, if_false, ↓reduceIte];exact ⟨fb, rfl, rfl⟩
  rintro _ K _ hTr -;obtain ⟨z, hz, rfl, rfl, rfl⟩ := aZ hTr;clear hTr;refine aG (aE ?_);refine aI (aB ?_);refine aA (bW aAQ rfl aM rfl rfl) rfl ?_;refine aA (cZ Tryz.underlying376 (fun _ h => by cases h) rfl) rfl ?_;refine aA (aF rfl) rfl ?_;refine aG (aE ?_);refine bM ?_;refine aO (.cons (.there (.there .here)) (.cons .here .nil)) ?_;refine fN fun K4 leS hS => ?_
  refine aO (.cons .here .nil) ?_;refine bJ rfl rfl (Hl.le_trans leK1 (Hl.le_trans leK leS)) ?_;simp only [RT, hx, mM, hy, if_neg g22, hz, if_true, if_false, ↓reduceIte];simp only [sE];exact ⟨_, rfl, ⟨_, _, rfl, us, sv, hrp.mono leS, hS, rfl⟩, rfl⟩
end Go.Proofs
end
section
set_option maxRecDepth 4000
namespace Go.Proofs
open Go Go.SL Go.Syn
theorem pB (fn : FuncId) (K : Hl) : Sp Tryz.prog 158 [.func (.func fn) #[] #[]] K [] (Ret fun v K' L' => ∃ b1, v = .func (.func 259) #[] #[ptr b1] ∧ K' b1 = some (aU [.func (.func fn) #[] #[]] 283) ∧ L' = []) := by
 refine bB Tryz.func158 rfl Tryz.ntmps158 rfl rfl fun F w => ?_
 refine aI (aB ?_);refine ol_s (eM rfl rfl) rfl ?_;rintro _ K _ ⟨b1, rfl, rfl, rfl⟩ -;refine aA (aF rfl) rfl ?_;refine aG (aE ?_);refine aI (aB ?_);refine aA (g9 rfl rfl) rfl ?_;refine aA (aF rfl) rfl ?_;refine aG (aE ?_);refine bM ?_;refine gG fun K1 le1 hK1 => ?_
 refine bJ rfl rfl le1 ?_;exact ⟨_, rfl, b1, rfl, hK1, rfl⟩
theorem oR (kd : Int) (ext : List UInt8) (K : Hl) : Sp Tryz.prog 162 [i64 kd, str ext] K [] (Ret fun v K' L' => ∃ b1 b2, v = .func (.func 260) #[] #[ptr b1, ptr b2] ∧ K' b1 = some (aU [str ext] 9) ∧ K' b2 = some (aU [i64 kd] 3) ∧ L' = []) := by
 refine bB Tryz.func162 rfl Tryz.ntmps162 rfl rfl fun F w => ?_
 refine aI (aB ?_);refine ol_s (eM rfl rfl) rfl ?_;rintro _ K _ ⟨b2, rfl, rfl, rfl⟩ -;refine ol_s (eM rfl rfl) rfl ?_;rintro _ K _ ⟨b3, rfl, rfl, rfl⟩ -;refine aA (aF rfl) rfl ?_;refine aG (aE ?_);refine aI (aB ?_);refine aA (g9 rfl rfl) rfl ?_;refine aA (aF rfl) rfl ?_;refine aG (aE ?_);refine bM ?_;refine gG fun K1 le1 hK1 => ?_
 refine gG fun K2 le2 hK2 => ?_
 refine bJ rfl rfl (Hl.le_trans le1 le2) ?_;exact ⟨_, rfl, b3, b2, rfl, le2 _ _ hK1, hK2, rfl⟩
abbrev fnV (f : FuncId) : Value := .func (.func f) #[] #[]
abbrev simV (c : Nat) : Value := .func (.func 259) #[] #[ptr c]
abbrev actV (c d : Nat) : Value := .func (.func 260) #[] #[ptr c, ptr d]
structure Tabs (K : Hl) (cb tb : Nat) : Prop where
 cmds : ∃ c1 c2 c3 d1 e1 d2 e2 d3 e3, K cb = some (mapO [(tL, simV c1, 0), (mD, simV c2, 1), (tM, simV c3, 2), (gP, actV d1 e1, 3), (oN, actV d2 e2, 4), (eO, actV d3 e3, 5), (aC3, fnV 163, 6), (txIf, fnV 164, 7)] 8) ∧
  K c1 = some (aU [fnV 159] 283) ∧ K c2 = some (aU [fnV 160] 283) ∧ K c3 = some (aU [fnV 161] 283) ∧
  K d1 = some (aU [str gP] 9) ∧ K e1 = some (aU [i64 2] 3) ∧ K d2 = some (aU [str []] 9) ∧ K e2 = some (aU [i64 3] 3) ∧ K d3 = some (aU [str eO] 9) ∧ K e3 = some (aU [i64 4] 3)
 tests : K tb = some (mapO [(w5, fnV 165, 0), (sQ, fnV 166, 1), (aC2, fnV 167, 2), (sO, fnV 169, 3), (sP, fnV 171, 4), (lO, fnV 172, 5), (gA, fnV 174, 6), (pM, fnV 175, 7), (pL, fnV 176, 8), (w4, fnV 178, 9)] 10)
theorem Tabs.mono {K K' : Hl} {cb tb : Nat} (h : Tabs K cb tb) (le : K.le K') : Tabs K' cb tb :=
 ⟨let ⟨c1, c2, c3, d1, e1, d2, e2, d3, e3, h0, h1, h2, h3, h4, h5, h6, h7, h8, h9⟩ := h.cmds; ⟨c1, c2, c3, d1, e1, d2, e2, d3, e3, le _ _ h0, le _ _ h1, le _ _ h2, le _ _ h3, le _ _ h4, le _ _ h5, le _ _ h6, le _ _ h7, le _ _ h8, le _ _ h9⟩, le _ _ h.tests⟩
theorem aCT (b : Nat) (s : List UInt8) (st : St) (n0 n1 : Value) (K : Hl) : Sp Tryz.prog 100 [ptr b] K [psb b s st [n0, n1, .map none, .map none]]
  (Ret fun v K' L' => v = .tuple #[] ∧ ∃ cb tb, Tabs K' cb tb ∧ L' = [psb b s st [n0, n1, .map (some cb), .map (some tb)]]) := by
 refine bB Tryz.func100 rfl Tryz.ntmps100 rfl rfl fun F w => ?_
 refine aI (aB ?_);refine aA (aC rfl) rfl ?_;refine ol_s p7 rfl ?_;rintro _ K _ ⟨b3, rfl, rfl, rfl⟩ -;refine bD rfl rfl (pB _ _) .nil rfl ?_;rintro _ K1 _ ⟨c1, rfl, h1, rfl⟩ le1;refine bR (eZ Tryz.underlying205 Tryz.underlying9 rfl rfl rfl ?_ a7) ?_
 ·rfl
 rintro _ K _ ⟨rfl, rfl⟩ -;refine bD rfl rfl (pB _ _) .nil rfl ?_;rintro _ K2 _ ⟨c2, rfl, h2, rfl⟩ le2;refine bR (eZ Tryz.underlying205 Tryz.underlying9 rfl rfl rfl ?_ a7) ?_
 ·rfl
 rintro _ K _ ⟨rfl, rfl⟩ -;refine bD rfl rfl (pB _ _) .nil rfl ?_;rintro _ K3 _ ⟨c3, rfl, h3, rfl⟩ le3;refine bR (eZ Tryz.underlying205 Tryz.underlying9 rfl rfl rfl ?_ a7) ?_
 ·rfl
 rintro _ K _ ⟨rfl, rfl⟩ -;refine bD rfl rfl (oR 2 gP _) .nil rfl ?_;rintro _ K4 _ ⟨d1, e1, rfl, h4, h5, rfl⟩ le4;refine bR (eZ Tryz.underlying205 Tryz.underlying9 rfl rfl rfl ?_ a7) ?_
 ·rfl
 rintro _ K _ ⟨rfl, rfl⟩ -;refine bD rfl rfl (oR 3 [] _) .nil rfl ?_;rintro _ K5 _ ⟨d2, e2, rfl, h6, h7, rfl⟩ le5;refine bR (eZ Tryz.underlying205 Tryz.underlying9 rfl rfl rfl ?_ a7) ?_
 ·rfl
 rintro _ K _ ⟨rfl, rfl⟩ -;refine bD rfl rfl (oR 4 eO _) .nil rfl ?_;rintro _ K6 _ ⟨d3, e3, rfl, h8, h9, rfl⟩ le6;refine bR (eZ Tryz.underlying205 Tryz.underlying9 rfl rfl rfl ?_ a7) ?_
 ·rfl
 rintro _ K _ ⟨rfl, rfl⟩ -;refine bR (eZ Tryz.underlying205 Tryz.underlying9 rfl rfl rfl ?_ a7) ?_
 ·rfl
 rintro _ K _ ⟨rfl, rfl⟩ -;refine bR (eZ Tryz.underlying205 Tryz.underlying9 rfl rfl rfl ?_ a7) ?_
 ·rfl
 rintro _ K _ ⟨rfl, rfl⟩ -;refine aA (aC rfl) rfl ?_;refine aA bS rfl ?_;refine aA (aD (o' := 8) yQ rfl rfl) rfl ?_;refine bR (bI aOJ rfl rfl cG a7 (.succ (.succ (.succ (.succ (.succ (.succ (.succ (.succ .zero)))))))) rfl) ?_;rintro _ K _ ⟨rfl, rfl⟩ -;refine aG (aE ?_);refine aB ?_;refine aA (aC rfl) rfl ?_;refine ol_s p7 rfl ?_;rintro _ K _ ⟨b14, rfl, rfl, rfl⟩ -;refine bR (eZ Tryz.underlying206 Tryz.underlying9 rfl rfl rfl ?_ a7) ?_
 ·rfl
 rintro _ K _ ⟨rfl, rfl⟩ -;refine bR (eZ Tryz.underlying206 Tryz.underlying9 rfl rfl rfl ?_ a7) ?_
 ·rfl
 rintro _ K _ ⟨rfl, rfl⟩ -;refine bR (eZ Tryz.underlying206 Tryz.underlying9 rfl rfl rfl ?_ a7) ?_
 ·rfl
 rintro _ K _ ⟨rfl, rfl⟩ -;refine bR (eZ Tryz.underlying206 Tryz.underlying9 rfl rfl rfl ?_ a7) ?_
 ·rfl
 rintro _ K _ ⟨rfl, rfl⟩ -;refine bR (eZ Tryz.underlying206 Tryz.underlying9 rfl rfl rfl ?_ a7) ?_
 ·rfl
 rintro _ K _ ⟨rfl, rfl⟩ -;refine bR (eZ Tryz.underlying206 Tryz.underlying9 rfl rfl rfl ?_ a7) ?_
 ·rfl
 rintro _ K _ ⟨rfl, rfl⟩ -;refine bR (eZ Tryz.underlying206 Tryz.underlying9 rfl rfl rfl ?_ a7) ?_
 ·rfl
 rintro _ K _ ⟨rfl, rfl⟩ -;refine bR (eZ Tryz.underlying206 Tryz.underlying9 rfl rfl rfl ?_ a7) ?_
 ·rfl
 rintro _ K _ ⟨rfl, rfl⟩ -;refine bR (eZ Tryz.underlying206 Tryz.underlying9 rfl rfl rfl ?_ a7) ?_
 ·rfl
 rintro _ K _ ⟨rfl, rfl⟩ -;refine bR (eZ Tryz.underlying206 Tryz.underlying9 rfl rfl rfl ?_ a7) ?_
 ·rfl
 rintro _ K _ ⟨rfl, rfl⟩ -;refine aA (aC rfl) rfl ?_;refine aA bS rfl ?_;refine aA (aD (o' := 9) yR rfl rfl) rfl ?_;refine bR (bI aOK rfl rfl cG a7 (.succ (.succ (.succ (.succ (.succ (.succ (.succ (.succ (.succ .zero))))))))) rfl) ?_;rintro _ K _ ⟨rfl, rfl⟩ -;refine aG ?_;refine aO (.cons .here (.cons .here (.cons .here .nil))) ?_;refine gG fun K7 le7 hT => ?_
 refine gG fun K8 le8 hC => ?_
 refine dE rfl (Hl.le_trans le1 (Hl.le_trans le2 (Hl.le_trans le3 (Hl.le_trans le4 (Hl.le_trans le5 (Hl.le_trans le6 (Hl.le_trans le7 le8))))))) ?_;have g7 := Hl.le_trans le7 le8;have g6 := Hl.le_trans le6 g7;have g5 := Hl.le_trans le5 g6;have g4 := Hl.le_trans le4 g5;have g3 := Hl.le_trans le3 g4;have g2 := Hl.le_trans le2 g3;exact ⟨_, rfl, rfl, _, _, ⟨⟨c1, c2, c3, d1, e1, d2, e2, d3, e3, hC, g2 _ _ h1, g3 _ _ h2, g4 _ _ h3, g5 _ _ h4, g5 _ _ h5, g6 _ _ h6, g6 _ _ h7, g7 _ _ h8, g7 _ _ h9⟩, le8 _ _ hT⟩, rfl⟩
end Go.Proofs
end
section
namespace Go.Proofs
open Go Go.SL Go.Syn
def RB (s : List UInt8) (b : Nat) (rest : List Value) (r : Res (Tree × St)) : Ending → Hl → List Asn → Prop := fE r fun r v K' L' => ∃ ys, Rep K' r.1 ys ∧ isCL r.1 = true ∧ L' = [sl false (eJ 224) v (ys.map Prod.fst), psb b s r.2 rest]
def uQ (s : List UInt8) (b : Nat) (rest : List Value) (K : Hl) (dp : Int) (Bf : St → Res (Tree × St)) : Prop :=
 ∀ (st : St) (K' : Hl), K.le K' → Ok s st → Sp Tryz.prog 105 [ptr b, i64 dp] K' [psb b s st rest] (RB s b rest (Bf st))
theorem aGE {v : Value} (h : v.oneCell' = true) : v.cells = [v].toArray := by cases v <;> simp [Value.oneCell'] at h <;> rfl
theorem pU (b : Nat) (s : List UInt8) (st : St) (rest : List Value) (bp bd bi : Nat) (dp : Int) (tv sv : Value) (tv1 : tv.oneCell' = true) (us : List (Cell × Cell)) (K : Hl) (Bf : St → Res (Tree × St)) (hs : s.length ≤ 600) (hok : Ok s st) (hg : Glob K) (hd : 0 ≤ dp ∧ dp ≤ 6) (hu : us.length ≤ 1300)
  (hBa : AdvE s Bf) (hB : uQ s b rest K (dp + 1) Bf) (h1 : K bp = some (aU [ptr b] 199)) (h2 : K bd = some (aU [i64 dp] 3)) :
  Sp Tryz.prog 264 [tv, ptr bp, ptr bd, ptr bi] K [pt bi (aU [sv] 311), sl false (hG 371) sv us, psb b s st rest]
   (fE (mW s Bf st) fun r v K' L' => v = .tuple #[] ∧ ∃ (bv : Cell) (ys : List (Cell × Cell)) (sv' : Value), Rep K' r.1 ys ∧ Ksl (eJ 224) K' bv.1 (ys.map (·.1)) ∧ L' = [pt bi (aU [sv'] 311), sl false (hG 371) sv' (us ++ [(⟨tv, tv1⟩, bv)]), psb b s r.2 rest]) := by
 have ha := hok.1;refine bB Tryz.func264 rfl Tryz.ntmps264 rfl rfl fun F w => ?_
 refine aI (aB ?_);refine aA (aK mT rfl aM rfl) rfl ?_;refine aW rfl rfl (iT b s st rest [123] _ hs ha hg) (.cons (.there (.there .here)) .nil) rfl (fun _ _ => aX _ _) ?_ ?_
 ·
  rintro _ _ _ hTr le1;obtain ⟨e, p, hq, fb, h, rfl⟩ := aY hTr;cases h
  refine aO (.cons .here .nil) ?_;refine aJ ?_;refine bA bP ?_;simp only [mW, hq, if_true, if_false, ↓reduceIte];exact ⟨fb, rfl, rfl⟩
 rintro _ K _ hTr -;obtain ⟨q, hq, rfl, rfl, rfl⟩ := aZ hTr;clear hTr;have hqo := uK ha hq;refine aG (aE ?_);refine aI (aB ?_);refine aA (aK mT rfl aM rfl) rfl ?_;refine aA (aK ts3 rfl aM rfl) rfl ?_;refine aA (bZ rfl rfl aH aH) rfl ?_;refine aW rfl rfl (hB q _ (Hl.le_refl _) hqo) (.cons .here .nil) rfl (fun _ _ => aX _ _) ?_ ?_
 ·
  rintro _ _ _ hTr le1;obtain ⟨e, p, hb, fb, h, rfl⟩ := aY hTr;cases h
  refine aO (.cons .here .nil) ?_;refine aJ ?_;refine bA bP ?_;simp only [mW, hq, hb, if_true, if_false, ↓reduceIte];exact ⟨fb, rfl, rfl⟩
 rintro _ K1 _ hTr leK1;obtain ⟨bb, hb, ⟨ys, hrep, hcl, rfl⟩⟩ := aZ hTr;clear hTr;have hbo := (hBa _ _ hqo hb).1;have h1 := leK1 _ _ h1;refine gI fun K2 leS hS => ?_
 obtain ⟨sa, sn, sc, rfl⟩ := hS.isSlice;have h1 := leS _ _ h1;have hrep := hrep.mono leS;refine aA (aF rfl) rfl ?_;refine aG (aE ?_);refine aI (aB ?_);refine aA (aK mT rfl aM rfl) rfl ?_;refine aW rfl rfl (iT b s bb.2 rest [125] _ hs hbo.1 (hg.mono (Hl.le_trans leK1 leS))) (.cons .here .nil) rfl (fun _ _ => aX _ _) ?_ ?_
 ·
  rintro _ _ _ hTr le1;obtain ⟨e, p, hz, fb, h, rfl⟩ := aY hTr;cases h
  refine aO (.cons .here .nil) ?_;refine aJ ?_;refine bA (Hl.le_trans leK1 (Hl.le_trans leS le1)) ?_;simp only [mW, hq, hb, hz, if_true, if_false, ↓reduceIte];exact ⟨fb, rfl, rfl⟩
 rintro _ K _ hTr -;obtain ⟨z, hz, rfl, rfl, rfl⟩ := aZ hTr;clear hTr;refine aG (aE ?_);refine aB ?_;refine aA (aD (o' := 0) qG rfl rfl) rfl ?_;refine aA (aK aFY rfl aM rfl) rfl ?_;refine aA (aC rfl) rfl ?_;refine aA (aC rfl) rfl ?_;refine aA (cK aRE aP9 (.cons rfl (aGE tv1) rfl (.cons .nil) (.cons rfl rfl rfl (.skip (.cons .nil)) .nil))) rfl ?_;refine ol_s (bO (z0 := [.nilIface, .slice none 0 0]) pJ aL6 rfl rfl rfl rfl (.cons rfl rfl rfl (.cons (.cons .nil)) .nil)) rfl ?_;rintro _ K _ ⟨b19, rfl, rfl, rfl⟩ -;refine ol_s (dQ (k := (hG 371)) (ys := [(⟨tv, tv1⟩, ⟨.slice sa sn sc, rfl⟩)]) wS rfl rfl (.there (.there (.there .here))) (fun w j => dN Tryz.underlying309 (SeesSl.at (.blk (.own .here) rfl rfl) j)) (by first | (simp; omega) | omega) (by first | (simp; omega) | omega)) rfl ?_;rintro v20 K _ ⟨rfl, rfl, ho20⟩ -;refine aA (aD (o' := 0) qG rfl rfl) rfl ?_;refine bR (bI aFY rfl rfl cG a7 .zero rfl) ?_;rintro _ K _ ⟨rfl, rfl⟩ -;refine aG ?_;refine aO (.cons (.there (.there (.there .here))) (.cons .here (.cons (.there .here) .nil))) ?_;refine dE rfl (Hl.le_trans leK1 leS) ?_;simp only [mW, hq, hb, hz, if_true, if_false, ↓reduceIte];exact ⟨_, rfl, rfl, _, ys, _, hrep, hS, rfl⟩
theorem xC (b : Nat) (s : List UInt8) (st : St) (rest : List Value) (at_ dp : Int) (K : Hl) (Tf Bf : St → Res (Tree × St)) (hs : s.length ≤ 600) (hok : Ok s st) (hg : Glob K) (hd : 0 ≤ dp ∧ dp ≤ 6) (hTa : Adv s Tf) (hBa : AdvE s Bf) (hT : qM s b rest K (dp + 1) Tf) (hB : uQ s b rest K (dp + 1) Bf) :
    Sp Tryz.prog 164 [ptr b, i64 at_, i64 dp] K [psb b s st rest] (RT s b rest (ifC s Tf Bf st)) := by
  have ha := hok.1;refine bB Tryz.func164 rfl Tryz.ntmps164 rfl rfl fun F w => ?_
  refine aI (aB ?_);refine ol_s (eM rfl rfl) rfl ?_;rintro _ K _ ⟨b3, rfl, rfl, rfl⟩ -;refine ol_s (eM rfl rfl) rfl ?_;rintro _ K _ ⟨b5, rfl, rfl, rfl⟩ -;refine aA (aF rfl) rfl ?_;refine aG (aE ?_);refine aI (aB ?_);refine e7 fun Ka leA hbd => ?_
  refine e7 fun Kb leB hbp => ?_
  have hbd := leB _ _ hbd;have le0 := Hl.le_trans leA leB;refine aA (aK mT rfl aM rfl) rfl ?_;refine aA bS rfl ?_;refine aA (aD (o' := 0) bV rfl rfl) rfl ?_;refine aW rfl rfl (dF b 208 s st.1 _ _ _ _ rest hs ha _ (hg.mono le0)) (.cons .here .nil) rfl (fun _ _ => aX _ _) ?_ ?_
  ·
    rintro _ _ _ hTr le1;obtain ⟨e, p, hr, fb, h, rfl⟩ := aY hTr;cases h
    refine aO (.cons .here .nil) ?_;refine aJ ?_;refine bA (Hl.le_trans le0 le1) ?_;simp only [RT, ifC, hr, if_true, if_false, ↓reduceIte];exact ⟨fb, rfl, rfl⟩
  rintro _ K _ hTr -;obtain ⟨r, hr, rfl, rfl, rfl⟩ := aZ hTr;clear hTr;have hro := dR ha hr;refine aG (aE ?_);refine aI (aB ?_);refine ol_s (cO aOR) rfl ?_;rintro _ K _ ⟨b7, rfl, rfl, rfl⟩ -;refine aG (aE ?_);refine aI (aB ?_);refine aA (g9 rfl rfl) rfl ?_;refine aA (aF rfl) rfl ?_;refine aG (aE ?_);refine aI (aB ?_);refine aA (aC rfl) rfl ?_;refine aA (aK mT rfl aM rfl) rfl ?_;refine aA (aK ts3 rfl aM rfl) rfl ?_;refine aA (bZ rfl rfl aH aH) rfl ?_;refine aW rfl rfl (hT r _ le0 hro) (.cons (.there .here) .nil) rfl (fun _ _ => aX _ _) ?_ ?_
  ·
    rintro _ _ _ hTr le1;obtain ⟨e, p, ht, fb, h, rfl⟩ := aY hTr;cases h
    refine aO (.cons .here .nil) ?_;refine aJ ?_;refine bA (Hl.le_trans le0 le1) ?_;simp only [RT, ifC, hr, ht, if_true, if_false, ↓reduceIte];exact ⟨fb, rfl, rfl⟩
  rintro _ K1 _ hTr leK1;obtain ⟨t, ht, ⟨ty, u, rfl, hrep⟩, rfl⟩ := aZ hTr;clear hTr;have hto := (hTa _ _ hro ht).1;have hbd := leK1 _ _ hbd;have hbp := leK1 _ _ hbp;have le01 := Hl.le_trans le0 leK1;refine kS (eW (hG 371)) ?_;refine aW rfl rfl (pU b s t.2 rest b3 b5 b7 dp (.iface ty u) _ rfl [] _ Bf hs hto (hg.mono le01) hd (by simp) hBa (fun st2 K2 le2 ho => hB st2 K2 (Hl.le_trans le01 le2) ho) hbp hbd) (.cons (.there (.there .here)) (.cons .here (.cons .here .nil))) rfl (fun _ _ => aX _ _) ?_ ?_
  ·
    rintro _ _ _ hTr le1;obtain ⟨e, p, hb, fb, h, rfl⟩ := aY hTr;cases h
    refine aO (.cons .here .nil) ?_;refine aJ ?_;refine bA (Hl.le_trans le01 le1) ?_;simp only [RT, ifC, hr, ht, hb, if_true, if_false, ↓reduceIte];exact ⟨fb, rfl, rfl⟩
  rintro _ K3 _ hTr leK3;obtain ⟨bb, hb, rfl, bv, ys, sv1, hrb, hsb, rfl⟩ := aZ hTr;clear hTr;have hbo := (jT hBa _ _ hto hb).1;have hbd := leK3 _ _ hbd;have hbp := leK3 _ _ hbp;have le03 := Hl.le_trans le01 leK3;refine aG (aE ?_);refine aI (bF ?_);refine aAM (fun (K2 : Hl) (st2 : St) (us : List (Cell × Cell)) (sv : Value) => K3.le K2 ∧ Ok s st2 ∧ us.length + mu s st2 ≤ 1300 ∧ ∃ acc f, isBL acc = true ∧ Rep K2 acc us ∧ mu s st2 ≤ f ∧ ifC s Tf Bf st = eQ s Tf Bf (f + 1) acc st2) (fun _ _ _ _ => [(3, ptr b3), (5, ptr b5), (7, ptr b7), (8, .func (.func 264) #[] #[ptr b3, ptr b5, ptr b7])]) (fun K2 _ _ _ => K2) (fun _ st2 us sv => [pt b7 (aU [sv] 311), sl false (hG 371) sv us, psb b s st2 rest]) (fun _ st2 _ _ => mu s st2) _ bb.2 [(⟨.iface ty u, rfl⟩, bv)] sv1 ⟨Hl.le_refl _, hbo, by have := qQ s bb.2; simp; omega, .bcons t.1 bb.1 .bnil, mu s bb.2, rfl, ⟨_, ys, bv, [], hrep.mono leK3, ⟨_, _, rfl⟩, hrb, hsb, rfl, rfl⟩, Nat.le_refl _, by simp only [ifC, hr, ht, hb]⟩ (.cons 3 rfl (.cons 5 rfl (.cons 7 rfl (.cons 8 rfl .nil)))) rfl (fun _ h => h) ?_;intro K2 st2 us sv ⟨leL, hok2, hus, acc, f, hacc, hrp, hf, hx⟩;have hbd := leL _ _ hbd;have hbp := leL _ _ hbp;have le2 := Hl.le_trans le03 leL;refine aI (aI ?_);refine aB ?_;refine aA (aK mT rfl aM rfl) rfl ?_;refine aA bS rfl ?_;refine aA (aD (o' := 0) bV rfl rfl) rfl ?_;refine aA (aD (o' := 2) cD rfl rfl) rfl ?_;refine aA (aD (o' := 2) eE rfl rfl) rfl ?_;refine aA (aK kK rfl aM rfl) rfl ?_;refine aA (bT rfl rfl) rfl ?_;refine aA (aC rfl) rfl ?_;refine cA 27 rfl (fun g27 => ?_) (fun g27 => ?_)
  ·
    have g27 : st2.2.kind = 1 := by omega
    refine aT rfl rfl ?_;refine aA (aK mT rfl aM rfl) rfl ?_;refine aT rfl rfl ?_;refine aA bS rfl ?_;refine aT rfl rfl ?_;refine aA (aD (o' := 0) bV rfl rfl) rfl ?_;refine aT rfl rfl ?_;refine aA (aD (o' := 2) cD rfl rfl) rfl ?_;refine aT rfl rfl ?_;refine aA (aD (o' := 3) fB rfl rfl) rfl ?_;refine aT rfl rfl ?_;refine aA (aK ts9 rfl aM rfl) rfl ?_;refine aT rfl rfl ?_;refine aA (jF rfl rfl) rfl ?_;refine aA (bH rfl rfl) rfl ?_;refine aG (aE ?_);refine bE 35 rfl (fun h35 => ?_) (fun h35 => ?_)
    ·
      have gc : st2.2.kind = 1 ∧ st2.2.s = nF := ⟨by omega, h35⟩;refine a6 ?_;refine aE (bF ?_);refine aI (aB ?_);refine aA (aK mT rfl aM rfl) rfl ?_;refine aA bS rfl ?_;refine aA (aD (o' := 0) bV rfl rfl) rfl ?_;refine aW rfl rfl (dF b 208 s st2.1 _ _ _ _ rest hs hok2.1 _ (hg.mono le2)) (.cons (.there (.there .here)) .nil) rfl (fun _ _ => aX _ _) ?_ ?_
      ·
        rintro _ _ _ hTr le1;obtain ⟨e, p, hr2, fb, h, rfl⟩ := aY hTr;cases h
        refine aO (.cons .here .nil) ?_;refine aJ ?_;refine aP ?_;refine aJ ?_;refine aP ?_;refine aJ ?_;refine bA (Hl.le_trans le2 le1) ?_;simp only [RT, hx, eQ, gT, if_pos gc, hr2, if_true, if_false, ↓reduceIte];exact ⟨fb, rfl, rfl⟩
      rintro _ K _ hTr -;obtain ⟨r2, hr2, rfl, rfl, rfl⟩ := aZ hTr;clear hTr;have hro2 := dR hok2.1 hr2;refine aG (aE ?_);refine aB ?_;refine aA (aC rfl) rfl ?_;refine aA (aK mT rfl aM rfl) rfl ?_;refine aA (aK ts3 rfl aM rfl) rfl ?_;refine aA (bZ rfl rfl aH aH) rfl ?_;refine aW rfl rfl (hT r2 _ le2 hro2) (.cons .here .nil) rfl (fun _ _ => aX _ _) ?_ ?_
      ·
        rintro _ _ _ hTr le1;obtain ⟨e, p, ht2, fb, h, rfl⟩ := aY hTr;cases h
        refine aO (.cons .here .nil) ?_;refine aP ?_;refine aJ ?_;refine aP ?_;refine aJ ?_;refine bA (Hl.le_trans le2 le1) ?_;simp only [RT, hx, eQ, gT, if_pos gc, hr2, ht2, if_true, if_false, ↓reduceIte];exact ⟨fb, rfl, rfl⟩
      rintro _ K4 _ hTr leK4;obtain ⟨t2, ht2, ⟨ty2, u2, rfl, hrep2⟩, rfl⟩ := aZ hTr;clear hTr;have hto2 := (hTa _ _ hro2 ht2).1;have hbd := leK4 _ _ hbd;have hbp := leK4 _ _ hbp;have le4 := Hl.le_trans le2 leK4;refine aW rfl rfl (pU b s t2.2 rest b3 b5 b7 dp (.iface ty2 u2) _ rfl us _ Bf hs hto2 (hg.mono le4) hd aH hBa (fun st2 K2 lx ho => hB st2 K2 (Hl.le_trans le4 lx) ho) hbp hbd) (.cons (.there .here) (.cons (.there .here) (.cons .here .nil))) rfl (fun _ _ => aX _ _) ?_ ?_
      ·
        rintro _ _ _ hTr le1;obtain ⟨e, p, hb2, fb, h, rfl⟩ := aY hTr;cases h
        refine aO (.cons .here .nil) ?_;refine aP ?_;refine aJ ?_;refine aP ?_;refine aJ ?_;refine bA (Hl.le_trans le4 le1) ?_;simp only [RT, hx, eQ, gT, if_pos gc, hr2, ht2, hb2, if_true, if_false, ↓reduceIte];exact ⟨fb, rfl, rfl⟩
      rintro _ K5 _ hTr leK5;obtain ⟨bb2, hb2, rfl, bv2, ys2, sv2, hrb2, hsb2, rfl⟩ := aZ hTr;clear hTr;have hbo2 := (jT hBa _ _ hto2 hb2).1;refine aG (aN ?_);have hm1 := eP hok2.1 aH hr2;have hm2 := hTa _ _ hro2 ht2;have hm3 := jT hBa _ _ hto2 hb2;obtain ⟨f0, rfl⟩ : ∃ f0, f = f0 + 1 := ⟨f - 1, by omega⟩;obtain ⟨hr3, hr4⟩ := kV (o := some t2.1) ⟨hrep2.mono leK5, _, _, rfl⟩ hrb2 hsb2 hacc (hrp.mono (Hl.le_trans leK4 leK5));refine u7 _ bb2.2 (us ++ [(⟨.iface ty2 u2, rfl⟩, bv2)]) sv2 ⟨Hl.le_trans leL (Hl.le_trans leK4 leK5), hbo2, by simp; omega, acc.snocB (some t2.1) bb2.1, f0, hr4, hr3, by omega, ?_⟩ aH (.cons 3 rfl (.cons 5 rfl (.cons 7 rfl (.cons 8 rfl .nil)))) rfl bG
      simp only [RT, hx, eQ, gT, if_pos gc, hr2, ht2, hb2, if_true, if_false, ↓reduceIte]
    ·
      have gc : ¬ (st2.2.kind = 1 ∧ st2.2.s = nF) := (fun h => h35 h.2);refine cY ?_;refine aV ?_;refine aV ?_;refine bL ?_;refine aE (aI ?_);refine aI (aB ?_);refine aA (aK mT rfl aM rfl) rfl ?_;refine aA bS rfl ?_;refine aA (aD (o' := 0) bV rfl rfl) rfl ?_;refine aA (aD (o' := 2) cD rfl rfl) rfl ?_;refine aA (aD (o' := 2) eE rfl rfl) rfl ?_;refine aA (aK kK rfl aM rfl) rfl ?_;refine aA (bT rfl rfl) rfl ?_;refine aA (aC rfl) rfl ?_;refine cA 53 rfl (fun g53 => ?_) (fun g53 => ?_)
      ·
        refine aT rfl rfl ?_;refine aA (aK mT rfl aM rfl) rfl ?_;refine aT rfl rfl ?_;refine aA bS rfl ?_;refine aT rfl rfl ?_;refine aA (aD (o' := 0) bV rfl rfl) rfl ?_;refine aT rfl rfl ?_;refine aA (aD (o' := 2) cD rfl rfl) rfl ?_;refine aT rfl rfl ?_;refine aA (aD (o' := 3) fB rfl rfl) rfl ?_;refine aT rfl rfl ?_;refine aA (aK ts9 rfl aM rfl) rfl ?_;refine aT rfl rfl ?_;refine aA (jF rfl rfl) rfl ?_;refine aA (bH rfl rfl) rfl ?_;refine aG (aE ?_);refine bE 61 rfl (fun h61 => ?_) (fun h61 => ?_)
        ·
          have gd : st2.2.kind = 1 ∧ st2.2.s = mU := ⟨by omega, h61⟩;refine aI (aB ?_);refine aA (aK mT rfl aM rfl) rfl ?_;refine aA bS rfl ?_;refine aA (aD (o' := 0) bV rfl rfl) rfl ?_;refine aW rfl rfl (dF b 208 s st2.1 _ _ _ _ rest hs hok2.1 _ (hg.mono le2)) (.cons (.there (.there .here)) .nil) rfl (fun _ _ => aX _ _) ?_ ?_
          ·
            rintro _ _ _ hTr le1;obtain ⟨e, p, hr3, fb, h, rfl⟩ := aY hTr;cases h
            refine aO (.cons .here .nil) ?_;refine aJ ?_;refine aJ ?_;refine bA (Hl.le_trans le2 le1) ?_;simp only [RT, hx, eQ, gT, if_neg gc, if_pos gd, hr3, if_true, if_false, ↓reduceIte];exact ⟨fb, rfl, rfl⟩
          rintro _ K _ hTr -;obtain ⟨r3, hr3, rfl, rfl, rfl⟩ := aZ hTr;clear hTr;have hro3 := dR hok2.1 hr3;refine aG (aE ?_);refine aB ?_;refine aA (aC rfl) rfl ?_;refine aW rfl rfl (pU b s r3 rest b3 b5 b7 dp .nilIface _ rfl us _ Bf hs hro3 (hg.mono le2) hd aH hBa (fun st2 K2 lx ho => hB st2 K2 (Hl.le_trans le2 lx) ho) hbp hbd) (.cons (.there .here) (.cons (.there .here) (.cons .here .nil))) rfl (fun _ _ => aX _ _) ?_ ?_
          ·
            rintro _ _ _ hTr le1;obtain ⟨e, p, hb3, fb, h, rfl⟩ := aY hTr;cases h
            refine aO (.cons .here .nil) ?_;refine aJ ?_;refine bA (Hl.le_trans le2 le1) ?_;simp only [RT, hx, eQ, gT, if_neg gc, if_pos gd, hr3, hb3, if_true, if_false, ↓reduceIte];exact ⟨fb, rfl, rfl⟩
          rintro _ K6 _ hTr leK6;obtain ⟨bb3, hb3, rfl, bv3, ys3, sv3, hrb3, hsb3, rfl⟩ := aZ hTr;clear hTr;refine aG (aE ?_);refine aI (aB ?_);refine aA (bW nC rfl aM rfl rfl) rfl ?_;refine aA (cZ Tryz.underlying311 (fun _ h => by cases h) rfl) rfl ?_;refine aA (aF rfl) rfl ?_;refine aG (aE ?_);refine bM ?_;refine aO (.cons (.there .here) (.cons (.there .here) .nil)) ?_;refine fN fun K9 leS hS => ?_
          refine bJ rfl rfl (by first | exact Hl.le_trans le2 (Hl.le_trans leK6 leS) | exact Hl.le_trans le2 leS) ?_
          first
            | (simp only [RT, hx, eQ, gT, if_neg gc, if_pos gd, hr3, hb3]
               obtain ⟨hr6, hr7⟩ := kV (o := none) rfl hrb3 hsb3 hacc (hrp.mono leK6);exact ⟨_, rfl, ⟨_, _, rfl, _, _, hr6.mono leS, hS, rfl⟩, rfl⟩)
            | (simp only [RT, hx, eQ, gT, if_neg gc, if_neg gd]; exact ⟨_, rfl, ⟨_, _, rfl, us, sv, hrp.mono leS, hS, rfl⟩, rfl⟩)
        ·
          have gd : ¬ (st2.2.kind = 1 ∧ st2.2.s = mU) := (fun h => h61 h.2);refine a6 ?_;refine aE (aI ?_);refine aB ?_;refine aA (bW nC rfl aM rfl rfl) rfl ?_;refine aA (cZ Tryz.underlying311 (fun _ h => by cases h) rfl) rfl ?_;refine aA (aF rfl) rfl ?_;refine aG (aE ?_);refine bM ?_;refine aO (.cons (.there .here) (.cons (.there .here) .nil)) ?_;refine fN fun K9 leS hS => ?_
          refine bJ rfl rfl (by first | exact Hl.le_trans le2 (Hl.le_trans leK6 leS) | exact Hl.le_trans le2 leS) ?_
          first
            | (simp only [RT, hx, eQ, gT, if_neg gc, if_pos gd, hr3, hb3]
               obtain ⟨hr6, hr7⟩ := kV (o := none) rfl hrb3 hsb3 hacc (hrp.mono leK6);exact ⟨_, rfl, ⟨_, _, rfl, _, _, hr6.mono leS, hS, rfl⟩, rfl⟩)
            | (simp only [RT, hx, eQ, gT, if_neg gc, if_neg gd]; exact ⟨_, rfl, ⟨_, _, rfl, us, sv, hrp.mono leS, hS, rfl⟩, rfl⟩)
      ·
        have gd : ¬ (st2.2.kind = 1 ∧ st2.2.s = mU) := (fun h => by omega);refine aQ rfl rfl rfl ?_;refine aQ rfl rfl rfl ?_;refine aQ rfl rfl rfl ?_;refine aQ rfl rfl rfl ?_;refine aQ rfl rfl rfl ?_;refine aQ rfl rfl rfl ?_;refine aQ rfl rfl rfl ?_;refine aA (a8 rfl rfl) rfl ?_;refine aG (aE ?_);refine cQ rfl ?_;refine a6 ?_;refine aE (aI ?_);refine aB ?_;refine aA (bW nC rfl aM rfl rfl) rfl ?_;refine aA (cZ Tryz.underlying311 (fun _ h => by cases h) rfl) rfl ?_;refine aA (aF rfl) rfl ?_;refine aG (aE ?_);refine bM ?_;refine aO (.cons (.there .here) (.cons (.there .here) .nil)) ?_;refine fN fun K9 leS hS => ?_
        refine bJ rfl rfl (by first | exact Hl.le_trans le2 (Hl.le_trans leK6 leS) | exact Hl.le_trans le2 leS) ?_
        first
          | (simp only [RT, hx, eQ, gT, if_neg gc, if_pos gd, hr3, hb3]
             obtain ⟨hr6, hr7⟩ := kV (o := none) rfl hrb3 hsb3 hacc (hrp.mono leK6);exact ⟨_, rfl, ⟨_, _, rfl, _, _, hr6.mono leS, hS, rfl⟩, rfl⟩)
          | (simp only [RT, hx, eQ, gT, if_neg gc, if_neg gd]; exact ⟨_, rfl, ⟨_, _, rfl, us, sv, hrp.mono leS, hS, rfl⟩, rfl⟩)
  ·
    have gc : ¬ (st2.2.kind = 1 ∧ st2.2.s = nF) := (fun h => by omega);refine aQ rfl rfl rfl ?_;refine aQ rfl rfl rfl ?_;refine aQ rfl rfl rfl ?_;refine aQ rfl rfl rfl ?_;refine aQ rfl rfl rfl ?_;refine aQ rfl rfl rfl ?_;refine aQ rfl rfl rfl ?_;refine aA (a8 rfl rfl) rfl ?_;refine aG (aE ?_);refine cQ rfl ?_;refine cY ?_;refine aV ?_;refine aV ?_;refine bL ?_;refine aE (aI ?_);refine aI (aB ?_);refine aA (aK mT rfl aM rfl) rfl ?_;refine aA bS rfl ?_;refine aA (aD (o' := 0) bV rfl rfl) rfl ?_;refine aA (aD (o' := 2) cD rfl rfl) rfl ?_;refine aA (aD (o' := 2) eE rfl rfl) rfl ?_;refine aA (aK kK rfl aM rfl) rfl ?_;refine aA (bT rfl rfl) rfl ?_;refine aA (aC rfl) rfl ?_;refine cA 53 rfl (fun g53 => ?_) (fun g53 => ?_)
    ·
      refine aT rfl rfl ?_;refine aA (aK mT rfl aM rfl) rfl ?_;refine aT rfl rfl ?_;refine aA bS rfl ?_;refine aT rfl rfl ?_;refine aA (aD (o' := 0) bV rfl rfl) rfl ?_;refine aT rfl rfl ?_;refine aA (aD (o' := 2) cD rfl rfl) rfl ?_;refine aT rfl rfl ?_;refine aA (aD (o' := 3) fB rfl rfl) rfl ?_;refine aT rfl rfl ?_;refine aA (aK ts9 rfl aM rfl) rfl ?_;refine aT rfl rfl ?_;refine aA (jF rfl rfl) rfl ?_;refine aA (bH rfl rfl) rfl ?_;refine aG (aE ?_);refine bE 61 rfl (fun h61 => ?_) (fun h61 => ?_)
      ·
        have gd : st2.2.kind = 1 ∧ st2.2.s = mU := ⟨by omega, h61⟩;refine aI (aB ?_);refine aA (aK mT rfl aM rfl) rfl ?_;refine aA bS rfl ?_;refine aA (aD (o' := 0) bV rfl rfl) rfl ?_;refine aW rfl rfl (dF b 208 s st2.1 _ _ _ _ rest hs hok2.1 _ (hg.mono le2)) (.cons (.there (.there .here)) .nil) rfl (fun _ _ => aX _ _) ?_ ?_
        ·
          rintro _ _ _ hTr le1;obtain ⟨e, p, hr3, fb, h, rfl⟩ := aY hTr;cases h
          refine aO (.cons .here .nil) ?_;refine aJ ?_;refine aJ ?_;refine bA (Hl.le_trans le2 le1) ?_;simp only [RT, hx, eQ, gT, if_neg gc, if_pos gd, hr3, if_true, if_false, ↓reduceIte];exact ⟨fb, rfl, rfl⟩
        rintro _ K _ hTr -;obtain ⟨r3, hr3, rfl, rfl, rfl⟩ := aZ hTr;clear hTr;have hro3 := dR hok2.1 hr3;refine aG (aE ?_);refine aB ?_;refine aA (aC rfl) rfl ?_;refine aW rfl rfl (pU b s r3 rest b3 b5 b7 dp .nilIface _ rfl us _ Bf hs hro3 (hg.mono le2) hd aH hBa (fun st2 K2 lx ho => hB st2 K2 (Hl.le_trans le2 lx) ho) hbp hbd) (.cons (.there .here) (.cons (.there .here) (.cons .here .nil))) rfl (fun _ _ => aX _ _) ?_ ?_
        ·
          rintro _ _ _ hTr le1;obtain ⟨e, p, hb3, fb, h, rfl⟩ := aY hTr;cases h
          refine aO (.cons .here .nil) ?_;refine aJ ?_;refine bA (Hl.le_trans le2 le1) ?_;simp only [RT, hx, eQ, gT, if_neg gc, if_pos gd, hr3, hb3, if_true, if_false, ↓reduceIte];exact ⟨fb, rfl, rfl⟩
        rintro _ K6 _ hTr leK6;obtain ⟨bb3, hb3, rfl, bv3, ys3, sv3, hrb3, hsb3, rfl⟩ := aZ hTr;clear hTr;refine aG (aE ?_);refine aI (aB ?_);refine aA (bW nC rfl aM rfl rfl) rfl ?_;refine aA (cZ Tryz.underlying311 (fun _ h => by cases h) rfl) rfl ?_;refine aA (aF rfl) rfl ?_;refine aG (aE ?_);refine bM ?_;refine aO (.cons (.there .here) (.cons (.there .here) .nil)) ?_;refine fN fun K9 leS hS => ?_
        refine bJ rfl rfl (by first | exact Hl.le_trans le2 (Hl.le_trans leK6 leS) | exact Hl.le_trans le2 leS) ?_
        first
          | (simp only [RT, hx, eQ, gT, if_neg gc, if_pos gd, hr3, hb3]
             obtain ⟨hr6, hr7⟩ := kV (o := none) rfl hrb3 hsb3 hacc (hrp.mono leK6);exact ⟨_, rfl, ⟨_, _, rfl, _, _, hr6.mono leS, hS, rfl⟩, rfl⟩)
          | (simp only [RT, hx, eQ, gT, if_neg gc, if_neg gd]; exact ⟨_, rfl, ⟨_, _, rfl, us, sv, hrp.mono leS, hS, rfl⟩, rfl⟩)
      ·
        have gd : ¬ (st2.2.kind = 1 ∧ st2.2.s = mU) := (fun h => h61 h.2);refine a6 ?_;refine aE (aI ?_);refine aB ?_;refine aA (bW nC rfl aM rfl rfl) rfl ?_;refine aA (cZ Tryz.underlying311 (fun _ h => by cases h) rfl) rfl ?_;refine aA (aF rfl) rfl ?_;refine aG (aE ?_);refine bM ?_;refine aO (.cons (.there .here) (.cons (.there .here) .nil)) ?_;refine fN fun K9 leS hS => ?_
        refine bJ rfl rfl (by first | exact Hl.le_trans le2 (Hl.le_trans leK6 leS) | exact Hl.le_trans le2 leS) ?_
        first
          | (simp only [RT, hx, eQ, gT, if_neg gc, if_pos gd, hr3, hb3]
             obtain ⟨hr6, hr7⟩ := kV (o := none) rfl hrb3 hsb3 hacc (hrp.mono leK6);exact ⟨_, rfl, ⟨_, _, rfl, _, _, hr6.mono leS, hS, rfl⟩, rfl⟩)
          | (simp only [RT, hx, eQ, gT, if_neg gc, if_neg gd]; exact ⟨_, rfl, ⟨_, _, rfl, us, sv, hrp.mono leS, hS, rfl⟩, rfl⟩)
    ·
      have gd : ¬ (st2.2.kind = 1 ∧ st2.2.s = mU) := (fun h => by omega);refine aQ rfl rfl rfl ?_;refine aQ rfl rfl rfl ?_;refine aQ rfl rfl rfl ?_;refine aQ rfl rfl rfl ?_;refine aQ rfl rfl rfl ?_;refine aQ rfl rfl rfl ?_;refine aQ rfl rfl rfl ?_;refine aA (a8 rfl rfl) rfl ?_;refine aG (aE ?_);refine cQ rfl ?_;refine a6 ?_;refine aE (aI ?_);refine aB ?_;refine aA (bW nC rfl aM rfl rfl) rfl ?_;refine aA (cZ Tryz.underlying311 (fun _ h => by cases h) rfl) rfl ?_;refine aA (aF rfl) rfl ?_;refine aG (aE ?_);refine bM ?_;refine aO (.cons (.there .here) (.cons (.there .here) .nil)) ?_;refine fN fun K9 leS hS => ?_
      refine bJ rfl rfl (by first | exact Hl.le_trans le2 (Hl.le_trans leK6 leS) | exact Hl.le_trans le2 leS) ?_
      first
        | (simp only [RT, hx, eQ, gT, if_neg gc, if_pos gd, hr3, hb3]
           obtain ⟨hr6, hr7⟩ := kV (o := none) rfl hrb3 hsb3 hacc (hrp.mono leK6);exact ⟨_, rfl, ⟨_, _, rfl, _, _, hr6.mono leS, hS, rfl⟩, rfl⟩)
        | (simp only [RT, hx, eQ, gT, if_neg gc, if_neg gd]; exact ⟨_, rfl, ⟨_, _, rfl, us, sv, hrp.mono leS, hS, rfl⟩, rfl⟩)
end Go.Proofs
end
section
namespace Go.Proofs
open Go Go.SL Go.Syn
theorem aC9 (b : Nat) (s : List UInt8) (st : St) (dp : Int) (rest : List Value) (K : Hl) (Tf : St → Res (Tree × St)) (hs : s.length ≤ 600) (hok : Ok s st) (hg : Glob K) (hd : 0 ≤ dp ∧ dp ≤ 6) (hTa : Adv s Tf) (hT : qM s b rest K (dp + 1) Tf) :
  Sp Tryz.prog 169 [ptr b, i64 dp] K [psb b s st rest] (RT s b rest (lT s Tf true st)) := by
 refine bB Tryz.func169 rfl Tryz.ntmps169 rfl rfl fun F w => ?_
 refine aI (aB ?_);refine aA (aF rfl) rfl ?_;refine aG (aE ?_);refine aI (aB ?_);refine aA (aC rfl) rfl ?_;refine aA (aC rfl) rfl ?_;refine aW rfl rfl (yA b s st true dp rest _ Tf hs hok hg hd hTa hT) (.cons .here .nil) rfl (fun _ _ => aX _ _) ?_ ?_
 ·
  rintro _ _ _ hTr le1;obtain ⟨e, p, hr, fb, h, rfl⟩ := aY hTr;cases h
  refine aO (.cons .here .nil) ?_;refine aJ ?_;refine bA bP ?_;simp only [RT, hr, if_true, if_false, ↓reduceIte];exact ⟨fb, rfl, rfl⟩
 rintro _ K1 _ hTr leK1;obtain ⟨r, hr, hrep, rfl⟩ := aZ hTr;clear hTr;refine aA (aF rfl) rfl ?_;refine aG (aE ?_);refine bM ?_;refine aO (.cons .here .nil) ?_;refine bJ rfl rfl leK1 ?_;simp only [RT, hr, if_true, if_false, ↓reduceIte];exact ⟨_, rfl, hrep, rfl⟩
theorem aDA (b : Nat) (s : List UInt8) (st : St) (dp : Int) (rest : List Value) (K : Hl) (Tf : St → Res (Tree × St)) (hs : s.length ≤ 600) (hok : Ok s st) (hg : Glob K) (hd : 0 ≤ dp ∧ dp ≤ 6) (hTa : Adv s Tf) (hT : qM s b rest K (dp + 1) Tf) :
  Sp Tryz.prog 171 [ptr b, i64 dp] K [psb b s st rest] (RT s b rest (lT s Tf false st)) := by
 refine bB Tryz.func171 rfl Tryz.ntmps171 rfl rfl fun F w => ?_
 refine aI (aB ?_);refine aA (aF rfl) rfl ?_;refine aG (aE ?_);refine aI (aB ?_);refine aA (aC rfl) rfl ?_;refine aA (aC rfl) rfl ?_;refine aW rfl rfl (yA b s st false dp rest _ Tf hs hok hg hd hTa hT) (.cons .here .nil) rfl (fun _ _ => aX _ _) ?_ ?_
 ·
  rintro _ _ _ hTr le1;obtain ⟨e, p, hr, fb, h, rfl⟩ := aY hTr;cases h
  refine aO (.cons .here .nil) ?_;refine aJ ?_;refine bA bP ?_;simp only [RT, hr, if_true, if_false, ↓reduceIte];exact ⟨fb, rfl, rfl⟩
 rintro _ K1 _ hTr leK1;obtain ⟨r, hr, hrep, rfl⟩ := aZ hTr;clear hTr;refine aA (aF rfl) rfl ?_;refine aG (aE ?_);refine bM ?_;refine aO (.cons .here .nil) ?_;refine bJ rfl rfl leK1 ?_;simp only [RT, hr, if_true, if_false, ↓reduceIte];exact ⟨_, rfl, hrep, rfl⟩
theorem yB (k k' : List UInt8) (v : Value) (c : Nat) (es : List Ent) : mget ((k', v, c) :: es) k = if k = k' then some v else mget es k := by
 unfold mget;rw [List.find?_cons]
 by_cases h : k = k'
 ·subst h; simp
 ·simp [h]
theorem aBY (k : List UInt8) : mget [] k = none := rfl
structure PE (s : List UInt8) (needs : List (List UInt8)) (nv : Value) (cb tb : Nat) (K : Hl) : Prop where
 pk : PK s needs nv K
 tabs : Tabs K cb tb
theorem PE.mono {s : List UInt8} {needs : List (List UInt8)} {nv : Value} {cb tb : Nat} {K K' : Hl} (h : PE s needs nv cb tb K) (le : K.le K') : PE s needs nv cb tb K' := ⟨h.pk.mono le, h.tabs.mono le⟩
theorem aIE (b : Nat) (s : List UInt8) (st : St) (dp : Int) (nv : Value) (rest : List Value) (needs : List (List UInt8)) (K : Hl) (Tf : St → Res (Tree × St)) (hp : PK s needs nv K) (hok : Ok s st) (hd : 0 ≤ dp ∧ dp ≤ 6) (hTa : Adv s Tf) (hT : qM s b (nv :: rest) K (dp + 1) Tf)
  {es : List Ent} (he : es = [(w5, fnV 165, 0), (sQ, fnV 166, 1), (aC2, fnV 167, 2), (sO, fnV 169, 3), (sP, fnV 171, 4), (lO, fnV 172, 5), (gA, fnV 174, 6), (pM, fnV 175, 7), (pL, fnV 176, 8), (w4, fnV 178, 9)]) :
  (mget es st.2.s = none ∧ lK s needs Tf st = none) ∨ ∃ fn r, mget es st.2.s = some (fnV fn) ∧ lK s needs Tf st = some r ∧ Sp Tryz.prog fn [ptr b, i64 dp] K [psb b s st (nv :: rest)] (RT s b (nv :: rest) r) := by
 subst he;unfold lK;simp only [yB, aBY]
 by_cases h1 : st.2.s = w5
 ·simp only [if_pos h1]; exact .inr ⟨_, _, rfl, rfl, aIR b s st dp _ K hp.hs hok hp.hg⟩
 simp only [if_neg h1]
 by_cases h2 : st.2.s = sQ
 ·simp only [if_pos h2]; exact .inr ⟨_, _, rfl, rfl, aDT b s st dp _ K hp.hs hok hp.hg⟩
 simp only [if_neg h2]
 by_cases h3 : st.2.s = aC2
 ·simp only [if_pos h3]; exact .inr ⟨_, _, rfl, rfl, aKJ b s st dp _ K Tf hp.hs hok hp.hg hd hT⟩
 simp only [if_neg h3]
 by_cases h4 : st.2.s = sO
 ·simp only [if_pos h4]; exact .inr ⟨_, _, rfl, rfl, aC9 b s st dp _ K Tf hp.hs hok hp.hg hd hTa hT⟩
 simp only [if_neg h4]
 by_cases h5 : st.2.s = sP
 ·simp only [if_pos h5]; exact .inr ⟨_, _, rfl, rfl, aDA b s st dp _ K Tf hp.hs hok hp.hg hd hTa hT⟩
 simp only [if_neg h5]
 by_cases h6 : st.2.s = lO
 ·simp only [if_pos h6]; exact .inr ⟨_, _, rfl, rfl, aBS b s st dp nv rest needs K hok hp⟩
 simp only [if_neg h6]
 by_cases h7 : st.2.s = gA
 ·simp only [if_pos h7]; exact .inr ⟨_, _, rfl, rfl, xF b s st dp nv rest needs K hok hp⟩
 simp only [if_neg h7]
 by_cases h8 : st.2.s = pM
 ·simp only [if_pos h8]; exact .inr ⟨_, _, rfl, rfl, aCR b s st dp nv rest needs K hok hp⟩
 simp only [if_neg h8]
 by_cases h9 : st.2.s = pL
 ·simp only [if_pos h9]; exact .inr ⟨_, _, rfl, rfl, aBN b s st dp _ K hp.hs hok hp.hg⟩
 simp only [if_neg h9]
 by_cases h10 : st.2.s = w4
 ·simp only [if_pos h10]; exact .inr ⟨_, _, rfl, rfl, aH6 b s st dp _ K hp.hs hok hp.hg⟩
 simp only [if_neg h10];exact .inl (by simp)
def qU (s : List UInt8) (needs : List (List UInt8)) (dp : Int) (Tf : St → Res (Tree × St)) (st : St) : Res (Tree × St) :=
 if st.2.kind = 1 then (if 6 < dp then .error (5, st.2.at_) else match lK s needs Tf st with | some r => r | none => .error (4, st.2.at_)) else .error (4, st.2.at_)
theorem yO (b : Nat) (s : List UInt8) (st : St) (dp : Int) (nv n1 : Value) (cb tb : Nat) (needs : List (List UInt8)) (K : Hl) (Tf : St → Res (Tree × St)) (hp : PE s needs nv cb tb K) (hok : Ok s st) (hd : 0 ≤ dp ∧ dp ≤ 7) (hTa : Adv s Tf)
  (hT : dp ≤ 6 → qM s b [nv, n1, .map (some cb), .map (some tb)] K (dp + 1) Tf) :
  Sp Tryz.prog 168 [ptr b, i64 dp] K [psb b s st [nv, n1, .map (some cb), .map (some tb)]] (RT s b [nv, n1, .map (some cb), .map (some tb)] (qU s needs dp Tf st)) := by
 have ha := hok.1;obtain ⟨hpk, hcm, htm⟩ := hp;refine bB Tryz.func168 rfl Tryz.ntmps168 rfl rfl fun F w => ?_
 refine aI (aB ?_);refine aA (aF rfl) rfl ?_;refine aG (aE ?_);refine aI (aI ?_);refine aB ?_;refine aA (aC rfl) rfl ?_;refine aA bS rfl ?_;refine aA (aD (o' := 0) bV rfl rfl) rfl ?_;refine aA (aD (o' := 2) cD rfl rfl) rfl ?_;refine aA (aD (o' := 2) eE rfl rfl) rfl ?_;refine aA (aK kK rfl aM rfl) rfl ?_;refine aA (fO rfl rfl) rfl ?_;refine aG (aE ?_);refine bE 13 rfl (fun h13 => ?_) (fun h13 => ?_)
 ·
  have g13 : ¬ st.2.kind = 1 := by omega
  refine aB ?_;refine aA (aC rfl) rfl ?_;refine aW rfl rfl (gJ b s st _ _) (.cons .here .nil) rfl (by rintro _ _ ⟨_, h, _⟩; cases h) ?_ ?_
  ·
   rintro _ _ _ ⟨fb, h, rfl⟩ le1;cases h
   refine aO (.cons .here .nil) ?_;refine aJ ?_;refine bA bP ?_;simp only [RT, qU, if_neg g13, if_true, if_false, ↓reduceIte];exact ⟨fb, rfl, rfl⟩
  ·
   rintro _ _ _ ⟨_, h, _⟩; cases h
 ·
  have g13 : st.2.kind = 1 := by omega
  refine a6 ?_;refine aE (aI ?_);refine aI (aB ?_);refine aA (aC rfl) rfl ?_;refine aA (jG rfl rfl) rfl ?_;refine aG (aE ?_);refine bE 17 rfl (fun h17 => ?_) (fun h17 => ?_)
  ·
   have g17 : 6 < dp := by omega
   refine aB ?_;refine aA (aC rfl) rfl ?_;refine aA bS rfl ?_;refine aA (aD (o' := 0) bV rfl rfl) rfl ?_;refine aA (aD (o' := 2) cD rfl rfl) rfl ?_;refine aA (aD (o' := 5) fK rfl rfl) rfl ?_;refine aA (aK ts3 rfl aM rfl) rfl ?_;refine aW rfl rfl (dY 5 st.2.at_ _) .nil rfl (by rintro _ _ ⟨_, h, _⟩; cases h) ?_ ?_
   ·
    rintro _ _ _ ⟨fb, h, rfl⟩ le1;cases h
    refine aO (.cons .here .nil) ?_;refine aJ ?_;refine bA bP ?_;simp only [RT, qU, if_pos g13, if_pos g17, if_true, if_false, ↓reduceIte];exact ⟨fb, rfl, rfl⟩
   ·
    rintro _ _ _ ⟨_, h, _⟩; cases h
  ·
   have g17 : ¬ 6 < dp := by omega
   have hdisp := aIE b s st dp nv _ needs _ Tf hpk hok ⟨hd.1, by omega⟩ hTa (hT aH) rfl;refine a6 ?_;refine aE (aI ?_);refine t_draw (anc := [0, 1, 3, 7, 0, 16, 48, 112, 240, 496, 1023, 2047, 4095, 4095, 8191, 32767]) (ord := [0, 1, 2, 3, 4, 5, 6, 7, 8, 9, 10, 11, 12, 13, 14, 15]) [] [] mixed (by decide +kernel) (cS _) ?_;refine dl_ev rfl rfl (.none rfl) rfl rfl (aC rfl) rfl ?_;refine dl_ev rfl rfl (.none rfl) rfl rfl bS rfl ?_;refine dl_ev rfl rfl (.none rfl) rfl rfl (aD (o' := 9) yR rfl rfl) rfl ?_;refine dl_ev rfl rfl (.none rfl) rfl rfl (aK aOK rfl aM rfl) rfl ?_;refine dl_ev rfl rfl (.none rfl) rfl rfl (aC rfl) rfl ?_;refine dl_ev rfl rfl (.none rfl) rfl rfl bS rfl ?_;refine dl_ev rfl rfl (.none rfl) rfl rfl (aD (o' := 0) bV rfl rfl) rfl ?_;refine dl_ev rfl rfl (.none rfl) rfl rfl (aD (o' := 2) cD rfl rfl) rfl ?_;refine dl_ev rfl rfl (.none rfl) rfl rfl (aD (o' := 3) fB rfl rfl) rfl ?_;refine dl_ev rfl rfl (.none rfl) rfl rfl (aK ts9 rfl aM rfl) rfl ?_;refine dl_ev rfl rfl (.none rfl) rfl rfl (vH Tryz.underlying206 Tryz.underlying9 aRN rfl rfl (.known htm)) rfl ?_;refine dl_ev rfl rfl (.none rfl) rfl rfl (aC rfl) rfl ?_;refine dl_ev rfl rfl (.none rfl) rfl rfl (aR rfl rfl) rfl ?_;refine dl_ev rfl rfl (.none rfl) rfl rfl (aR rfl rfl) rfl ?_;refine dl_ev rfl rfl (.none rfl) rfl rfl (aF rfl) rfl ?_;refine dl_ev rfl rfl (.none rfl) rfl rfl (aF rfl) rfl ?_;refine dl_nil ?_;refine aE (aI ?_);refine aI (aB ?_);refine aA (aC rfl) rfl ?_;refine aA (by first | exact dM rfl | exact dU rfl) rfl ?_;refine aG (aE ?_);refine eB 40 rfl (fun h40 => ?_) (fun h40 => ?_)
   ·
    rcases hdisp with ⟨hm, hdn⟩ | ⟨fn, r, hm, hds, hsp⟩
    case inr => exact absurd h40 (by rw [hm]; simp)
    refine aB ?_;refine aA (aC rfl) rfl ?_;refine aW rfl rfl (gJ b s st _ _) (.cons .here .nil) rfl (by rintro _ _ ⟨_, h, _⟩; cases h) ?_ ?_
    ·
     rintro _ _ _ ⟨fb, h, rfl⟩ le1;cases h
     refine aO (.cons .here .nil) ?_;refine aJ ?_;refine bA bP ?_;simp only [RT, qU, if_pos g13, if_neg g17, hdn, if_true, if_false, ↓reduceIte];exact ⟨fb, rfl, rfl⟩
    ·
     rintro _ _ _ ⟨_, h, _⟩; cases h
   ·
    rcases hdisp with ⟨hm, hdn⟩ | ⟨fn, r, hm, hds, hsp⟩
    case inl => exact absurd h40 (by rw [hm]; simp)
    refine a6 ?_;refine aE (aI ?_);refine aB ?_;refine aA (aC rfl) rfl ?_;refine aA (aC rfl) rfl ?_;refine aA (aC rfl) rfl ?_;refine aW (congrArg some (by rw [hm]; rfl)) rfl hsp (.cons .here .nil) rfl (fun _ _ => aX _ _) ?_ ?_
    ·
     rintro _ _ _ hTr le1;obtain ⟨e, p, ht, fb, h, rfl⟩ := aY hTr;cases h
     refine aO (.cons .here .nil) ?_;refine aJ ?_;refine bA bP ?_;simp only [RT, qU, if_pos g13, if_neg g17, hds, ht, if_true, if_false, ↓reduceIte];exact ⟨fb, rfl, rfl⟩
    rintro _ K1 _ hTr leK1;obtain ⟨t, ht, hrep, rfl⟩ := aZ hTr;clear hTr;refine aA (aF rfl) rfl ?_;refine aG (aE ?_);refine bM ?_;refine aO (.cons .here .nil) ?_;refine bJ rfl rfl leK1 ?_;simp only [RT, qU, if_pos g13, if_neg g17, hds, ht, if_true, if_false, ↓reduceIte];exact ⟨_, rfl, hrep, rfl⟩
end Go.Proofs
end
section
namespace Go.Proofs
open Go Go.SL Go.Syn
theorem aEN (s : List UInt8) (needs : List (List UInt8)) (Tf : St → Res (Tree × St)) (st : St) : qU s needs 7 Tf st = Syn.test s needs 0 st := by
 unfold qU Syn.test; simp
theorem aEM (s : List UInt8) (needs : List (List UInt8)) (n : Nat) (dp : Int) (h : dp ≤ 6) (st : St) : qU s needs dp (Syn.test s needs n) st = Syn.test s needs (n + 1) st := by
 unfold qU; rw [Syn.test, if_neg (show ¬ 6 < dp by omega)]
 split
 ·cases lK s needs (Syn.test s needs n) st <;> rfl
 ·rfl
theorem aIF (b : Nat) (s : List UInt8) (nv n1 : Value) (cb tb : Nat) (needs : List (List UInt8)) : ∀ (n : Nat), n ≤ 7 → ∀ (K : Hl), PE s needs nv cb tb K → qM s b [nv, n1, .map (some cb), .map (some tb)] K (7 - n) (Syn.test s needs n) := by
 intro n;induction n with
 | zero =>
  intro _ K hp st K' le hok;have h := yO b s st 7 nv n1 cb tb needs K' (Syn.test s needs 0) (hp.mono le) hok ⟨by decide, by decide⟩ (lL 0) (fun h => absurd h (by decide));rw [aEN] at h;exact h
 | succ n ih =>
  intro hn K hp st K' le hok;have h := yO b s st (7 - (n + 1 : Nat)) nv n1 cb tb needs K' (Syn.test s needs n) (hp.mono le) hok ⟨by omega, by omega⟩ (lL n) (fun _ => by
   have := ih aH K' (hp.mono le);rw [show ((7 : Int) - ((n + 1 : Nat) : Int) + 1) = 7 - (n : Nat) from by omega];exact this)
  rw [aEM s needs n _ aH] at h;exact h
theorem aED (b : Nat) (s : List UInt8) (st : St) (at_ dp : Int) (nv : Value) (rest : List Value) (needs : List (List UInt8)) (K : Hl) (hp : PK s needs nv K) (hok : Ok s st) :
  Sp Tryz.prog 163 [ptr b, i64 at_, i64 dp] K [psb b s st (nv :: rest)] (RT s b (nv :: rest) (sI s needs st)) := by
 refine (aLA b s st at_ dp nv rest needs K hp.hs hok hp.hg hp.hv hp.hn).mono fun e K' L' h => ?_
 unfold RT sI;cases hs : setC s needs st with
 | error p => rw [hs] at h; exact h
 | ok r =>
  rw [hs] at h;obtain ⟨v, rfl, _, rfl, rfl⟩ := h;exact ⟨_, rfl, ⟨_, _, rfl, rfl⟩, rfl⟩
theorem aI8 (b : Nat) (s : List UInt8) (st : St) (dp : Int) (nv : Value) (rest : List Value) (needs : List (List UInt8)) (K : Hl) (Tf Bf : St → Res (Tree × St)) (hp : PK s needs nv K) (hok : Ok s st) (hd : 0 ≤ dp ∧ dp ≤ 6) (hTa : Adv s Tf) (hBa : AdvE s Bf) (hT : qM s b (nv :: rest) K (dp + 1) Tf) (hB : uQ s b (nv :: rest) K (dp + 1) Bf)
  {cb tb : Nat} (ht : Tabs K cb tb) : ∃ es c, K cb = some (mapO es c) ∧
  ((mget es st.2.s = none ∧ cmdD s needs Tf Bf st = none) ∨ ∃ fn caps r, mget es st.2.s = some (.func (.func fn) #[] caps) ∧ cmdD s needs Tf Bf st = some r ∧ Sp Tryz.prog fn ([ptr b, i64 st.2.at_, i64 dp] ++ caps.toList) K [psb b s st (nv :: rest)] (RT s b (nv :: rest) r)) := by
 obtain ⟨c1, c2, c3, d1, e1, d2, e2, d3, e3, h0, k1, k2, k3, k4, k5, k6, k7, k8, k9⟩ := ht.cmds;refine ⟨_, _, h0, ?_⟩
 unfold cmdD;simp only [yB, aBY]
 by_cases h1 : st.2.s = tL
 ·simp only [if_pos h1]; exact .inr ⟨_, _, _, rfl, rfl, oK b s st st.2.at_ dp _ c1 _ _ _ K hp.hs hok hp.hg k1 (fun K => aNG _ K) (fun K => aCC K _ _ _)⟩
 simp only [if_neg h1]
 by_cases h2 : st.2.s = mD
 ·simp only [if_pos h2]; exact .inr ⟨_, _, _, rfl, rfl, oK b s st st.2.at_ dp _ c2 _ _ _ K hp.hs hok hp.hg k2 (fun K => aNH _ K) (fun K => wF K _)⟩
 simp only [if_neg h2]
 by_cases h3 : st.2.s = tM
 ·simp only [if_pos h3]; exact .inr ⟨_, _, _, rfl, rfl, oK b s st st.2.at_ dp _ c3 _ _ _ K hp.hs hok hp.hg k3 (fun K => aNI _ K) (fun K => wF K _)⟩
 simp only [if_neg h3]
 by_cases h4 : st.2.s = gP
 ·simp only [if_pos h4]; exact .inr ⟨_, _, _, rfl, rfl, n6 b s st st.2.at_ dp nv rest needs d1 e1 _ _ K hp.hs hok hp.hg hp.hv hp.hn k4 k5⟩
 simp only [if_neg h4]
 by_cases h5 : st.2.s = oN
 ·simp only [if_pos h5]; exact .inr ⟨_, _, _, rfl, rfl, n6 b s st st.2.at_ dp nv rest needs d2 e2 _ _ K hp.hs hok hp.hg hp.hv hp.hn k6 k7⟩
 simp only [if_neg h5]
 by_cases h6 : st.2.s = eO
 ·simp only [if_pos h6]; exact .inr ⟨_, _, _, rfl, rfl, n6 b s st st.2.at_ dp nv rest needs d3 e3 _ _ K hp.hs hok hp.hg hp.hv hp.hn k8 k9⟩
 simp only [if_neg h6]
 by_cases h7 : st.2.s = aC3
 ·simp only [if_pos h7]; exact .inr ⟨_, _, _, rfl, rfl, aED b s st st.2.at_ dp nv rest needs K hp hok⟩
 simp only [if_neg h7]
 by_cases h8 : st.2.s = txIf
 ·simp only [if_pos h8]; exact .inr ⟨_, _, _, rfl, rfl, xC b s st _ st.2.at_ dp K Tf Bf hp.hs hok hp.hg hd hTa hBa hT hB⟩
 simp only [if_neg h8];exact .inl (by simp)
def cmdG (s : List UInt8) (needs : List (List UInt8)) (dp : Int) (Tf Bf : St → Res (Tree × St)) (st : St) : Option (Res (Tree × St)) := if 6 < dp then some (.error (5, st.2.at_)) else cmdD s needs Tf Bf st
theorem uX (b : Nat) (s : List UInt8) (st : St) (dp : Int) (nv n1 : Value) (cb tb : Nat) (needs : List (List UInt8)) (K : Hl) (Tf Bf : St → Res (Tree × St)) (hp : PE s needs nv cb tb K) (hok : Ok s st) (hd : 0 ≤ dp ∧ dp ≤ 7) (hTa : Adv s Tf) (hBa : AdvE s Bf)
  (hT : dp ≤ 6 → qM s b [nv, n1, .map (some cb), .map (some tb)] K (dp + 1) Tf) (hB : dp ≤ 6 → uQ s b [nv, n1, .map (some cb), .map (some tb)] K (dp + 1) Bf) (r0 : Res (Tree × St)) (hr0 : iG s (cmdG s needs dp Tf Bf) (mu s st + 1) .cnil st = r0) :
  Sp Tryz.prog 105 [ptr b, i64 dp] K [psb b s st [nv, n1, .map (some cb), .map (some tb)]] (RB s b [nv, n1, .map (some cb), .map (some tb)] r0) := by
 have ha := hok.1;obtain ⟨hpk, htabs⟩ := hp;refine bB Tryz.func105 rfl Tryz.ntmps105 rfl rfl fun F w => ?_
 refine aI (aB ?_);refine aA (aF rfl) rfl ?_;refine aG (aE ?_);refine aI (aB ?_);refine aA (aF rfl) rfl ?_;refine aG (aE ?_);refine aI (bF ?_);refine aAM (fun (K2 : Hl) (st2 : St) (us : List (Cell × Cell)) (v : Value) => K.le K2 ∧ Ok s st2 ∧ us.length + mu s st2 ≤ 1300 ∧ ∃ acc f, isCL acc = true ∧ Rep K2 acc us ∧ mu s st2 ≤ f ∧ r0 = iG s (cmdG s needs dp Tf Bf) (f + 1) acc st2) (fun _ _ _ v => [(0, ptr b), (1, i64 dp), (5, v)]) (fun K2 _ _ _ => K2) (fun _ st2 us v => [sl false (eJ 224) v (us.map Prod.fst), psb b s st2 [nv, n1, .map (some cb), .map (some tb)]]) (fun _ st2 _ _ => mu s st2) K st [] (.slice none 0 0) ⟨Hl.le_refl _, hok, by have := qQ s st; have := hpk.hs; simp; omega, .cnil, mu s st, rfl, rfl, Nat.le_refl _, hr0.symm⟩ (.cons 0 rfl (.cons 1 rfl (.cons 5 rfl .nil))) rfl (eW (eJ 224)) ?_;intro K2 st2 us v ⟨leL, hok2, hus, acc, f, hacc, hrp, hf, hx⟩;refine aI (aI ?_);refine aB ?_;refine aA (aC rfl) rfl ?_;refine aA bS rfl ?_;refine aA (aD (o' := 0) bV rfl rfl) rfl ?_;refine aA (aD (o' := 2) cD rfl rfl) rfl ?_;refine aA (aD (o' := 2) eE rfl rfl) rfl ?_;refine aA (aK kK rfl aM rfl) rfl ?_;refine aA (bT rfl rfl) rfl ?_;refine aG (aE ?_);refine bE 15 rfl (fun h15 => ?_) (fun h15 => ?_)
 ·
  have g15 : st2.2.kind = 1 := by omega
  refine a6 ?_;refine aE (bF ?_);refine aI (aB ?_);refine aA (aC rfl) rfl ?_;refine aA bS rfl ?_;refine aA (aD (o' := 0) bV rfl rfl) rfl ?_;refine aA (aD (o' := 2) cD rfl rfl) rfl ?_;refine aA (aD (o' := 5) fK rfl rfl) rfl ?_;refine aA (aK ts3 rfl aM rfl) rfl ?_;refine aA (aF rfl) rfl ?_;refine aG (aE ?_);refine aI (aI ?_);refine aB ?_;refine aA (aC rfl) rfl ?_;refine aA (jG rfl rfl) rfl ?_;refine aG (aE ?_);refine bE 23 rfl (fun h23 => ?_) (fun h23 => ?_)
  ·
   have g23 : cmdG s needs dp Tf Bf st2 = some (.error (5, st2.2.at_)) := if_pos aH;refine aB ?_;refine aA (aC rfl) rfl ?_;refine aW rfl rfl (dY 5 st2.2.at_ _) .nil rfl (by rintro _ _ ⟨_, h, _⟩; cases h) ?_ ?_
   ·
    rintro _ _ _ ⟨fb, h, rfl⟩ le1;cases h
    refine aO (.cons .here .nil) ?_;refine aJ ?_;refine aP ?_;refine aJ ?_;refine aP ?_;refine aJ ?_;refine bA (Hl.le_trans leL le1) ?_;simp only [RB, hx, iG, if_pos g15, g23, if_true, if_false, ↓reduceIte];exact ⟨fb, rfl, rfl⟩
   ·
    rintro _ _ _ ⟨_, h, _⟩; cases h
  ·
   have g23 : cmdG s needs dp Tf Bf st2 = cmdD s needs Tf Bf st2 := if_neg aH;obtain ⟨es, ec, hes, hdisp⟩ := aI8 b s st2 dp nv _ needs _ Tf Bf (hpk.mono leL) hok2 ⟨hd.1, by omega⟩ hTa hBa (fun st3 K3 lx ho => hT aH st3 K3 (Hl.le_trans leL lx) ho) (fun st3 K3 lx ho => hB aH st3 K3 (Hl.le_trans leL lx) ho) (htabs.mono leL);refine a6 ?_;refine aE (aI ?_);refine t_draw (anc := [0, 1, 3, 7, 0, 16, 48, 112, 240, 496, 1023, 2047, 4095, 4095, 8191, 32767]) (ord := [0, 1, 2, 3, 4, 5, 6, 7, 8, 9, 10, 11, 12, 13, 14, 15]) [] [] mixed (by decide +kernel) (cS _) ?_;refine dl_ev rfl rfl (.none rfl) rfl rfl (aC rfl) rfl ?_;refine dl_ev rfl rfl (.none rfl) rfl rfl bS rfl ?_;refine dl_ev rfl rfl (.none rfl) rfl rfl (aD (o' := 8) yQ rfl rfl) rfl ?_;refine dl_ev rfl rfl (.none rfl) rfl rfl (aK aOJ rfl aM rfl) rfl ?_;refine dl_ev rfl rfl (.none rfl) rfl rfl (aC rfl) rfl ?_;refine dl_ev rfl rfl (.none rfl) rfl rfl bS rfl ?_;refine dl_ev rfl rfl (.none rfl) rfl rfl (aD (o' := 0) bV rfl rfl) rfl ?_;refine dl_ev rfl rfl (.none rfl) rfl rfl (aD (o' := 2) cD rfl rfl) rfl ?_;refine dl_ev rfl rfl (.none rfl) rfl rfl (aD (o' := 3) fB rfl rfl) rfl ?_;refine dl_ev rfl rfl (.none rfl) rfl rfl (aK ts9 rfl aM rfl) rfl ?_;refine dl_ev rfl rfl (.none rfl) rfl rfl (vH Tryz.underlying205 Tryz.underlying9 aRM rfl rfl (.known hes)) rfl ?_;refine dl_ev rfl rfl (.none rfl) rfl rfl (aC rfl) rfl ?_;refine dl_ev rfl rfl (.none rfl) rfl rfl (aR rfl rfl) rfl ?_;refine dl_ev rfl rfl (.none rfl) rfl rfl (aR rfl rfl) rfl ?_;refine dl_ev rfl rfl (.none rfl) rfl rfl (aF rfl) rfl ?_;refine dl_ev rfl rfl (.none rfl) rfl rfl (aF rfl) rfl ?_;refine dl_nil ?_;refine aE (aI ?_);refine aI (aB ?_);refine aA (aC rfl) rfl ?_;refine aA (by first | exact dM rfl | exact dU rfl) rfl ?_;refine aG (aE ?_);refine eB 41 rfl (fun h41 => ?_) (fun h41 => ?_)
   ·
    rcases hdisp with ⟨hm, hdn⟩ | ⟨fn, caps, r, hm, hds, hsp⟩
    case inr => exact absurd h41 (by rw [hm]; simp)
    refine aB ?_;refine aA (aC rfl) rfl ?_;refine aW rfl rfl (gJ b s st2 _ _) (.cons (.there .here) .nil) rfl (by rintro _ _ ⟨_, h, _⟩; cases h) ?_ ?_
    ·
     rintro _ _ _ ⟨fb, h, rfl⟩ le1;cases h
     refine aO (.cons .here .nil) ?_;refine aJ ?_;refine aP ?_;refine aJ ?_;refine aP ?_;refine aJ ?_;refine bA (Hl.le_trans leL le1) ?_;simp only [RB, hx, iG, if_pos g15, g23, hdn, if_true, if_false, ↓reduceIte];exact ⟨fb, rfl, rfl⟩
    ·
     rintro _ _ _ ⟨_, h, _⟩; cases h
   ·
    rcases hdisp with ⟨hm, hdn⟩ | ⟨fn, caps, r, hm, hds, hsp⟩
    case inl => exact absurd h41 (by rw [hm]; simp)
    refine a6 ?_;refine aE (aB ?_);refine aA (aC rfl) rfl ?_;refine aA (aC rfl) rfl ?_;refine aA (aC rfl) rfl ?_;refine aA (aC rfl) rfl ?_;refine aA (aC rfl) rfl ?_;refine aW (congrArg some (by rw [hm]; rfl)) rfl hsp (.cons (.there .here) .nil) rfl (fun _ _ => aX _ _) ?_ ?_
    ·
     rintro _ _ _ hTr le1;obtain ⟨e, p, hc2, fb, h, rfl⟩ := aY hTr;cases h
     refine aO (.cons .here .nil) ?_;refine aP ?_;refine aJ ?_;refine aP ?_;refine aJ ?_;refine bA (Hl.le_trans leL le1) ?_;simp only [RB, hx, iG, if_pos g15, g23, hds, hc2, if_true, if_false, ↓reduceIte];exact ⟨fb, rfl, rfl⟩
    rintro _ K3 _ hTr leK3;obtain ⟨c2, hc2, ⟨ty2, u2, rfl, hrep2⟩, rfl⟩ := aZ hTr;clear hTr;have hm2 := u4 hTa hBa hok2 aH (by rw [hds, hc2]);refine ol_s (bO (z0 := [.nilIface]) uA aRT rfl rfl rfl rfl (.cons rfl rfl rfl (.cons .nil) .nil)) rfl ?_;rintro _ K _ ⟨b50, rfl, rfl, rfl⟩ -;refine ol_s (dQ (k := (eJ 224)) (ys := [⟨.iface ty2 u2, rfl⟩]) wR rfl rfl (.there (.there .here)) (fun w j => dN Tryz.underlying135 (SeesSl.at (.blk (.own .here) rfl rfl) j)) (by simp; omega) (by first | (simp; omega) | omega)) rfl ?_;rintro v51 K _ ⟨rfl, rfl, ho51⟩ -;refine aA (aF rfl) rfl ?_;refine aG (aN ?_);obtain ⟨f0, rfl⟩ : ∃ f0, f = f0 + 1 := ⟨f - 1, by omega⟩;obtain ⟨hr3, hr4⟩ := aHM hrep2 hacc (hrp.mono leK3);refine aO (.cons .here (.cons (.there .here) .nil)) ?_;refine u7 _ c2.2 (us ++ [(⟨.iface ty2 u2, rfl⟩, u0)]) _ ⟨Hl.le_trans leL leK3, hm2.1, by simp; omega, acc.snocC c2.1, f0, hr4, hr3, by omega, ?_⟩ aH (.cons 0 rfl (.cons 1 rfl (.cons 5 rfl .nil))) rfl (by rw [List.map_append]; exact fun _ h => h)
    simp only [RB, hx, iG, if_pos g15, g23, hds, hc2, if_true, if_false, ↓reduceIte]
 ·
  have g15 : ¬ st2.2.kind = 1 := by omega
  refine cY ?_;refine aV ?_;refine aV ?_;refine bL ?_;refine aE (aI ?_);refine aB ?_;refine aA (aC rfl) rfl ?_;refine aA (aF rfl) rfl ?_;refine aG (aE ?_);refine bM ?_;refine aO (.cons .here (.cons .here .nil)) ?_;refine bJ rfl rfl leL ?_;simp only [RB, hx, iG, if_neg g15, if_true, if_false, ↓reduceIte];exact ⟨_, rfl, us, hrp, hacc, rfl⟩
theorem aGG (s : List UInt8) (needs : List (List UInt8)) (Tf Bf : St → Res (Tree × St)) (st : St) : iG s (cmdG s needs 7 Tf Bf) (mu s st + 1) .cnil st = Syn.block s needs 0 st := by
 unfold iG Syn.block
 by_cases h : st.2.kind = 1
 ·rw [if_pos h, if_pos h]; rfl
 ·rw [if_neg h, if_neg h]
theorem aGF (s : List UInt8) (needs : List (List UInt8)) (dp : Int) (h : dp ≤ 6) (Tf Bf : St → Res (Tree × St)) : cmdG s needs dp Tf Bf = cmdD s needs Tf Bf := by
 funext st; unfold cmdG; rw [if_neg aH]
theorem aDD (b : Nat) (s : List UInt8) (nv n1 : Value) (cb tb : Nat) (needs : List (List UInt8)) : ∀ (n : Nat), n ≤ 7 → ∀ (K : Hl), PE s needs nv cb tb K → uQ s b [nv, n1, .map (some cb), .map (some tb)] K (7 - n) (Syn.block s needs n) := by
 intro n;induction n with
 | zero =>
  intro _ K hp st K' le hok;have h := uX b s st 7 nv n1 cb tb needs K' (Syn.test s needs 0) (Syn.block s needs 0) (hp.mono le) hok ⟨by decide, by decide⟩ (lL 0) (pT 0) (fun h => absurd h (by decide)) (fun h => absurd h (by decide)) _ (aGG s needs _ _ st);exact h
 | succ n ih =>
  intro hn K hp st K' le hok;have e : ((7 : Int) - ((n + 1 : Nat) : Int) + 1) = 7 - (n : Nat) := by omega
  have h := uX b s st (7 - (n + 1 : Nat)) nv n1 cb tb needs K' (Syn.test s needs n) (Syn.block s needs n) (hp.mono le) hok ⟨by omega, by omega⟩ (lL n) (pT n)
   (fun _ => by rw [e]; exact aIF b s nv n1 cb tb needs n aH K' (hp.mono le)) (fun _ => by rw [e]; exact ih aH K' (hp.mono le)) _ (by rw [aGF s needs _ aH])
  exact h
end Go.Proofs
end
section
namespace Go.Proofs
open Go Go.SL Go.Syn
theorem aD7 (b2 b3 : Nat) (K : Hl) (L : List Asn) : SpD Tryz.prog 99 [ptr b2, ptr b3] K L .returning fun e u' K' L' => u' = .returning ∧ (e = .returned (.tuple #[]) ∧ K' = K ∧ L' = L) := by
 refine aAK (rv := .nilIface) (u' := .returning) Tryz.func99 rfl Tryz.ntmps99 rfl rfl rfl rfl qS fun F w => ?_
 refine aI (aB ?_);refine aA (aC rfl) rfl ?_;refine aA (q8 Tryz.underlying20 rfl) rfl ?_;refine aG (aE ?_);refine cQ rfl ?_;refine a6 ?_;refine dE rfl (Hl.le_refl _) ?_;exact ⟨rfl, rfl, rfl⟩
theorem aD6 (b2 b3 fb : Nat) (v1 v2 : Value) (K : Hl) : SpD Tryz.prog 99 [ptr b2, ptr b3] K [pt b3 (aU [v2] 79), pt b2 (aU [v1] 87)] (.panicking [{ v := .iface 118 (ptr fb), recovered := false }])
  fun e u' K' L' => u' = .panicking [{ v := .iface 118 (ptr fb), recovered := true }] ∧ (e = .returned (.tuple #[]) ∧ K' = K ∧ L' = [pt b3 (aU [.iface 118 (ptr fb)] 79), pt b2 (aU [.pointer none] 87)]) := by
 refine aAK (rv := .iface 118 (ptr fb)) (u' := .panicking [{ v := .iface 118 (ptr fb), recovered := true }]) Tryz.func99 rfl Tryz.ntmps99 rfl rfl rfl rfl qR fun F w => ?_
 refine aI (aB ?_);refine aA (aC rfl) rfl ?_;refine aA (oD Tryz.underlying20 rfl rfl) rfl ?_;refine aG (aE ?_);refine eS rfl ?_;refine aI (aB ?_);refine aA (aC rfl) rfl ?_;refine aA (eX Tryz.underlying118 (fun _ h => by cases h) rfl) rfl ?_;refine aA (aC rfl) rfl ?_;refine aA (aR rfl rfl) rfl ?_;refine aA (aR rfl rfl) rfl ?_;refine aA (aF rfl) rfl ?_;refine aA (aF rfl) rfl ?_;refine aG (aE ?_);refine aI (aI ?_);refine aB ?_;refine aA (aC rfl) rfl ?_;refine aA (by first | exact dM rfl | exact dU rfl) rfl ?_;refine aG (aE ?_);refine cQ rfl ?_;refine a6 ?_;refine aE (aB ?_);refine aA (aC rfl) rfl ?_;refine aA (cZ Tryz.underlying118 (fun _ h => by cases h) rfl) rfl ?_;refine bR (bI ts87 rfl rfl cG a7 .zero rfl) ?_;rintro _ K _ ⟨rfl, rfl⟩ -;refine bR (bI ts79 rfl rfl cG a7 .zero rfl) ?_;rintro _ K _ ⟨rfl, rfl⟩ -;refine aG ?_;refine dE rfl (Hl.le_refl _) ?_;exact ⟨rfl, rfl, rfl⟩
structure ScriptAt (K : Hl) (b : Nat) (needs : List (List UInt8)) (t : Tree) : Prop where
 at_ : ∃ l nv bv ys fz, K b = some (aU l 208 fz) ∧ l[6]? = some nv ∧ l[7]? = some bv ∧ Ksl (bK 9) K nv needs ∧ Ksl (eJ 224) K bv (ys.map Prod.fst) ∧ Rep K t ys ∧ isCL t = true
def aO2 (s : List UInt8) (v : Value) (K : Hl) : Prop :=
 (600 < s.length ∧ v = .tuple #[.pointer none, .iface 30 (i64 1)]) ∨
 (s.length ≤ 600 ∧ ((∃ b r, e8 s = .ok r ∧ v = .tuple #[ptr b 6, .nilIface] ∧ ScriptAt K b r.1 r.2) ∨ (∃ fb e p, e8 s = .error (e, p) ∧ v = .tuple #[.pointer none, .iface 118 (ptr fb)] ∧ K fb = some (aU [i64 e, i64 p] 123))))
abbrev aC8 (s : List UInt8) : Ending → Hl → List Asn → Prop := Ret fun v K' L' => aO2 s v K' ∧ L' = []
theorem jV {n : Nat} {w : World} {F K0 K : Hl} {fr : Fr} {b2 b3 fb : Nat} {v1 v2 : Value} {e p : Int} {s : List UInt8} (g2 : fr.get 2 = some (ptr b2)) (g3 : fr.get 3 = some (ptr b3)) (le : K0.le K) (hs : s.length ≤ 600) (h : e8 s = .error (e, p)) :
  D ⟨Tryz.prog, n, [dfr 99 #[ptr b2, ptr b3]], w, F⟩ (.panic [{ v := .iface 118 (ptr fb), recovered := false }]) fr K [pt fb (aU [i64 e, i64 p] 123), pt b3 (aU [v2] 79), pt b2 (aU [v1] 87)] (tS Tryz.prog Tryz.f57 w F K0 (aC8 s)) := by
 refine gG fun K1 le1 hfb => ?_
 refine aJD (.pan _) rfl ts87 ts79 g2 g3 (.cons .here (.cons .here .nil)) (aD6 b2 b3 fb v1 v2 K1) rfl ?_;rintro _ _ _ ⟨rfl, rfl, rfl⟩;exact ⟨⟨_, rfl⟩, fun le2 => ⟨_, _, [], fun _ hh => fP hh, ⟨_, rfl, .inr ⟨hs, .inr ⟨fb, e, p, h, rfl, hfb⟩⟩, rfl⟩, Hl.le_trans le le1⟩⟩
theorem yD {n : Nat} {w : World} {F K0 K : Hl} {fr : Fr} {b2 b3 b : Nat} {s : List UInt8} {r : List (List UInt8) × Tree} (g2 : fr.get 2 = some (ptr b2)) (g3 : fr.get 3 = some (ptr b3)) (le : K0.le K) (hs : s.length ≤ 600) (h : e8 s = .ok r) (hat : ScriptAt K b r.1 r.2) :
  D ⟨Tryz.prog, n, [dfr 99 #[ptr b2, ptr b3]], w, F⟩ .ret fr K [pt b3 (aU [.nilIface] 79), pt b2 (aU [ptr b 6] 87)] (tS Tryz.prog Tryz.f57 w F K0 (aC8 s)) := by
 refine aJD .ret rfl ts87 ts79 g2 g3 (.cons .here (.cons .here .nil)) (aD7 b2 b3 K _) rfl ?_;rintro _ _ _ ⟨rfl, rfl, rfl⟩;exact ⟨⟨_, rfl⟩, fun le2 => ⟨_, _, [], fun _ hh => fP hh, ⟨_, rfl, .inr ⟨hs, .inl ⟨b, r, h, rfl, hat⟩⟩, rfl⟩, le⟩⟩
theorem tU (b : Nat) (s : List UInt8) (nv n1 : Value) (cb tb : Nat) (needs : List (List UInt8)) (K : Hl) (hp : PE s needs nv cb tb K) (st : St) (hok : Ok s st) : Sp Tryz.prog 105 [ptr b, i64 0] K [psb b s st [nv, n1, .map (some cb), .map (some tb)]] (RB s b [nv, n1, .map (some cb), .map (some tb)] (Syn.block s needs 7 st)) :=
 aDD b s nv n1 cb tb needs 7 (Nat.le_refl _) K hp st K (Hl.le_refl _) hok
theorem aD9 (s : List UInt8) (K : Hl) (hg : Glob K) : Sp Tryz.prog 57 [str s] K [] (aC8 s) := by
  refine aCO Tryz.func57 rfl Tryz.ntmps57 rfl rfl fun F w => ?_
  refine aI (aB ?_);refine ol_s (cO tz87) rfl ?_;rintro _ K _ ⟨b2, rfl, rfl, rfl⟩ -;refine ol_s (cO tz79) rfl ?_;rintro _ K _ ⟨b3, rfl, rfl, rfl⟩ -;refine aG (aE ?_);refine aI (aI ?_);refine aB ?_;refine aA (aC rfl) rfl ?_;refine aA (cB rfl Tryz.underlying9 rfl) rfl ?_;refine aA (jG rfl rfl) rfl ?_;refine aG (aE ?_);refine bE 9 rfl (fun h9 => ?_) (fun h9 => ?_)
  ·
    refine aI (aB ?_);refine aA (cZ Tryz.underlying30 (fun _ h => by cases h) rfl) rfl ?_;refine bR (bI ts87 rfl rfl cG a7 .zero rfl) ?_;rintro _ K _ ⟨rfl, rfl⟩ -;refine bR (bI ts79 rfl rfl cG a7 .zero rfl) ?_;rintro _ K _ ⟨rfl, rfl⟩ -;refine aG (aE ?_);refine bM ?_;refine bC ?_;refine aMO rfl ts87 ts79 rfl rfl (.cons (.there .here) (.cons .here .nil)) (Hl.le_refl _) ?_;exact ⟨_, rfl, .inl ⟨by omega, rfl⟩, rfl⟩
  ·
    have hs : s.length ≤ 600 := by omega
    refine a6 ?_;refine aE (aI ?_);refine aB ?_;refine aA (g9 rfl rfl) rfl ?_;refine aB3 rfl ?_;refine aG (aE ?_);refine aI (aB ?_);refine aA (aC rfl) rfl ?_;refine aA (cK aQ7 aP2 (.cons rfl rfl rfl (.cons .nil) .nil)) rfl ?_;refine aA (cK aQ8 aP3 (.cons rfl rfl rfl (.cons (.cons (.cons (.cons (.cons (.cons .nil)))))) .nil)) rfl ?_;refine ol_s (eM rfl rfl) rfl ?_;rintro _ K _ ⟨b15, rfl, rfl, rfl⟩ -;refine aA (aF rfl) rfl ?_;refine aG (aE ?_);refine aI (aB ?_);refine aA (aC rfl) rfl ?_;refine bD rfl rfl (aCT b15 s (0, ⟨0, [], 0, 0⟩) _ _ _) (.cons .here .nil) rfl ?_;rintro _ K1 _ ⟨rfl, cb, tb, htab, rfl⟩ leT;refine aG (aE ?_);refine aI (aB ?_);refine aA (aC rfl) rfl ?_;refine aA bS rfl ?_;refine aA (aD (o' := 0) bV rfl rfl) rfl ?_;refine aW rfl rfl (dF b15 208 s 0 _ _ _ _ _ hs (Nat.zero_le _) _ (hg.mono leT)) (.cons .here .nil) rfl (fun _ _ => aX _ _) ?_ ?_
    ·
      rintro _ _ _ hTr le1;obtain ⟨e, p, hr, fb, h, rfl⟩ := aY hTr;cases h
      refine aO (.cons .here (.cons .here (.cons .here .nil))) ?_;refine aJ ?_;exact jV rfl rfl (Hl.le_trans leT le1) hs (by simp only [e8, hr, if_true, if_false, ↓reduceIte])
    rintro _ K _ hTr -;obtain ⟨r, hr, rfl, rfl, rfl⟩ := aZ hTr;clear hTr;have hro := dR (Nat.zero_le _) hr;refine aG (aE ?_);refine aI (bF ?_);refine uN (fun (st2 : St) (ns : List (List UInt8)) (sv : Value) => Ok s st2 ∧ ns.length + mu s st2 ≤ 1300 ∧ ∃ f, mu s st2 ≤ f ∧ e8 s = f9 s (reqF s (f + 1) ns st2)) (fun _ _ _ => [(2, ptr b2), (3, ptr b3), (4, ptr b15)]) (fun _ _ _ => K) (fun st2 ns sv => [sl false (bK 9) sv ns, psb b15 s st2 [sv, .slice none 0 0, .map (some cb), .map (some tb)], pt b3 (aU [.nilIface] 79), pt b2 (aU [.pointer none] 87)]) (fun st2 _ _ => mu s st2) r [] (.slice none 0 0) ⟨hro, by have := qQ s r; simp; omega, mu s r, Nat.le_refl _, by simp only [e8, hr]⟩ (.cons 2 rfl (.cons 3 rfl (.cons 4 rfl .nil))) rfl (eW (bK 9)) ?_;intro st2 ns sv ⟨hok2, hns, f, hf, hx⟩;refine aI (aI ?_);refine aB ?_;refine aA (aC rfl) rfl ?_;refine aA bS rfl ?_;refine aA (aD (o' := 0) bV rfl rfl) rfl ?_;refine aA (aD (o' := 2) cD rfl rfl) rfl ?_;refine aA (aD (o' := 2) eE rfl rfl) rfl ?_;refine aA (aK kK rfl aM rfl) rfl ?_;refine aA (bT rfl rfl) rfl ?_;refine aA (aC rfl) rfl ?_;refine cA 29 rfl (fun g29 => ?_) (fun g29 => ?_)
    ·
      have g29 : st2.2.kind = 1 := by omega
      refine aT rfl rfl ?_;refine aA (aC rfl) rfl ?_;refine aT rfl rfl ?_;refine aA bS rfl ?_;refine aT rfl rfl ?_;refine aA (aD (o' := 0) bV rfl rfl) rfl ?_;refine aT rfl rfl ?_;refine aA (aD (o' := 2) cD rfl rfl) rfl ?_;refine aT rfl rfl ?_;refine aA (aD (o' := 3) fB rfl rfl) rfl ?_;refine aT rfl rfl ?_;refine aA (aK ts9 rfl aM rfl) rfl ?_;refine aT rfl rfl ?_;refine aA (jF rfl rfl) rfl ?_;refine aA (bH rfl rfl) rfl ?_;refine aG (aE ?_);refine bE 37 rfl (fun h37 => ?_) (fun h37 => ?_)
      ·
        have gc : st2.2.kind = 1 ∧ st2.2.s = iF := ⟨by omega, h37⟩;refine a6 ?_;refine aE (bF ?_);refine aI (aB ?_);refine aA (aC rfl) rfl ?_;refine aA bS rfl ?_;refine aA (aD (o' := 0) bV rfl rfl) rfl ?_;refine aW rfl rfl (dF b15 208 s st2.1 _ _ _ _ _ hs hok2.1 _ (hg.mono leT)) (.cons (.there .here) .nil) rfl (fun _ _ => aX _ _) ?_ ?_
        ·
          rintro _ _ _ hTr le1;obtain ⟨e, p, hr2, fb, h, rfl⟩ := aY hTr;cases h
          refine aO (.cons .here (.cons (.there .here) (.cons (.there .here) .nil))) ?_;refine aJ ?_;refine aP ?_;refine aJ ?_;refine aP ?_;refine aJ ?_;exact jV rfl rfl (Hl.le_trans leT le1) hs (by simp only [hx, reqF, f9, if_pos gc, hr2, if_true, if_false, ↓reduceIte])
        rintro _ K _ hTr -;obtain ⟨r2, hr2, rfl, rfl, rfl⟩ := aZ hTr;clear hTr;have hm2 := eP hok2.1 aH hr2;have hro2 := dR hok2.1 hr2;refine aG (aE ?_);refine aI (aI ?_);refine aB ?_;refine aA (aC rfl) rfl ?_;refine ol_s (bO (z0 := [(str []), (str []), (str []), (str [])]) cT tz9 rfl rfl rfl rfl (.cons rfl rfl rfl (.cons .nil) (.cons rfl rfl rfl (.skip (.cons .nil)) (.cons rfl rfl rfl (.skip (.skip (.cons .nil))) (.cons rfl rfl rfl (.skip (.skip (.skip (.cons .nil)))) .nil))))) rfl ?_;rintro _ K _ ⟨b43, rfl, rfl, rfl⟩ -;refine e7 fun Ka leA hKa => ?_
        refine bD rfl rfl (kT 6 _ _ rfl) .nil rfl ?_;rintro _ Kb _ ⟨c1, c2, rfl, hc1, hc2, rfl⟩ leB;refine aW rfl rfl (oG b15 s r2 _ 192 #[ptr c1, ptr c2] (Syn.oneOf 6 wY) _ hs hro2 (hg.mono (Hl.le_trans leT (Hl.le_trans leA leB))) (fun x hx => jU x 6 wY _ c1 c2 _ hc1 hc2 (.inr ⟨b43, 0, 4, [str gA, str gP, str eO, str dH], (0, 0), rfl, ⟨_, leB _ _ hKa⟩, rfl⟩) (by simp [wY]))) (.cons .here .nil) rfl (fun _ _ => aX _ _) ?_ ?_
        ·
          rintro _ _ _ hTr le1;obtain ⟨e, p, hl, fb, h, rfl⟩ := aY hTr;cases h
          refine aO (.cons .here (.cons (.there .here) (.cons (.there .here) .nil))) ?_;refine aJ ?_;refine aJ ?_;refine aP ?_;refine aJ ?_;refine aP ?_;refine aJ ?_;exact jV rfl rfl (Hl.le_trans leT (Hl.le_trans leA (Hl.le_trans leB le1))) hs (by simp only [hx, reqF, f9, if_pos gc, hr2, hl, if_true, if_false, ↓reduceIte])
        rintro v45 K _ hTr -;obtain ⟨l, hl, rfl, rfl⟩ := aZ hTr;clear hTr;have hlo := lC hro2 hl;have hll := o4 hro2 hl;refine aA (cE (k := (bK 9)) rfl Tryz.underlying39 rfl aM) rfl ?_;refine aA (aC rfl) rfl ?_;refine aG (aE ?_);refine bF ?_;refine uN (fun (i : Nat) (ms : List (List UInt8)) (sw : Value) => i ≤ l.1.length ∧ ms = gS ns (l.1.take i) ∧ ms.length ≤ ns.length + i) (fun i _ _ => [(2, ptr b2), (3, ptr b3), (4, ptr b15), (45, v45), (46, i64 l.1.length), (47, i64 i)]) (fun _ _ _ => _) (fun i ms sw => [sl false (bK 9) v45 l.1, psb b15 s l.2 [sw, .slice none 0 0, .map (some cb), .map (some tb)], sl false (bK 9) sw ms, pt b3 (aU [.nilIface] 79), pt b2 (aU [.pointer none] 87)]) (fun i _ _ => l.1.length - i) 0 ns sv ⟨Nat.zero_le _, rfl, Nat.le_refl _⟩ (.cons 2 rfl (.cons 3 rfl (.cons 4 rfl (.cons 45 rfl (.cons 46 rfl (.cons 47 rfl .nil)))))) rfl (fun _ h => h) ?_;intro i ms sw ⟨hi0, hms, hml⟩;refine aI (aB ?_);refine aA (dA rfl rfl) rfl ?_;refine aG (aE ?_);refine aI ?_;refine bE 48 rfl (fun h48 => ?_) (fun h48 => ?_)
        ·
          have hilt : i < l.1.length := by omega
          obtain ⟨e, he⟩ : ∃ e, l.1[i]? = some e := ⟨l.1[i]'hilt, List.getElem?_eq_getElem hilt⟩;refine a6 ?_;refine aE (aI ?_);refine bF (aI ?_);refine aB ?_;refine aA (b0 (k := (bK 9)) cT rfl aM rfl rfl (by first | assumption | omega)) rfl ?_;refine aA (dO (o := 0) (k := (bK 9)) ts9 rfl aM bP rfl) rfl ?_;refine aA (aF rfl) rfl ?_;refine aG (aE ?_);refine aI (aB ?_);refine aA (aC rfl) rfl ?_;refine aA bS rfl ?_;refine aA (aD (o' := 6) jW rfl rfl) rfl ?_;refine aA (aC rfl) rfl ?_;refine bD rfl rfl (aBR b15 e ms _ 208 sw _ [psb b15 s l.2 [sw, .slice none 0 0, .map (some cb), .map (some tb)], sl false (bK 9) sw ms] (.own .here) rfl (.own (.there .here)) (by have := qQ s r2; omega)) (.cons (.there .here) (.cons (.there .here) .nil)) rfl ?_;rintro _ K _ ⟨rfl, rfl, rfl⟩ -;refine aA (by first | exact dM rfl | exact dU rfl) rfl ?_;refine aG (aE ?_);refine eB 56 rfl (fun h56 => ?_) (fun h56 => ?_)
          ·
            refine aB ?_;refine aA (aC rfl) rfl ?_;refine aA (aC rfl) rfl ?_;refine aA bS rfl ?_;refine aA (aD (o' := 6) jW rfl rfl) rfl ?_;refine aA (aD (o' := 6) qE rfl rfl) rfl ?_;refine aA (aK ts39 rfl aM rfl) rfl ?_;refine aA (aC rfl) rfl ?_;refine ol_s (bO (z0 := [(str [])]) cT tz9 rfl rfl rfl rfl (.cons rfl rfl rfl (.cons .nil) .nil)) rfl ?_;rintro _ K _ ⟨b64, rfl, rfl, rfl⟩ -;refine ol_s (dQ (k := (bK 9)) (ys := [e]) gK rfl rfl (.there (.there .here)) (fun w j => dN Tryz.underlying39 (SeesSl.at (.blk (.own .here) rfl rfl) j)) (by simp; omega) (by first | (simp; omega) | omega)) rfl ?_;rintro v65 K _ ⟨rfl, rfl, ho65⟩ -;refine aA bS rfl ?_;refine aA (aD (o' := 6) jW rfl rfl) rfl ?_;refine aA (aD (o' := 6) qE rfl rfl) rfl ?_;refine bR (bI ts39 rfl rfl cG a7 (.succ (.succ (.succ (.succ (.succ (.succ .zero)))))) rfl) ?_;rintro _ K _ ⟨rfl, rfl⟩ -;refine aG (aN ?_);refine aE (aB ?_);refine aA (bZ rfl rfl aH aH) rfl ?_;refine aA (aC rfl) rfl ?_;refine aG ?_
            first
              | (refine aO (.cons (.there (.there (.there .here))) (.cons (.there (.there .here)) (.cons .here (.cons (.there .here) (.cons (.there .here) .nil))))) ?_
                 refine iR (i + 1) (ms ++ [e]) _ ⟨by omega, by rw [kZ he, ← hms]; unfold addN; rw [if_neg (by simpa using h56)], by simp; omega⟩ aH (.cons 2 rfl (.cons 3 rfl (.cons 4 rfl (.cons 45 rfl (.cons 46 rfl (.cons 47 rfl .nil)))))) rfl bG)
              | (refine aO (.cons (.there (.there .here)) (.cons .here (.cons .here (.cons .here (.cons .here .nil))))) ?_
                 refine iR (i + 1) ms _ ⟨by omega, by rw [kZ he, ← hms]; unfold addN; rw [if_pos (by simpa using h56)], by omega⟩ aH (.cons 2 rfl (.cons 3 rfl (.cons 4 rfl (.cons 45 rfl (.cons 46 rfl (.cons 47 rfl .nil)))))) rfl bG)
          ·
            refine a6 ?_;refine aN (aE ?_);refine aB ?_;refine aA (bZ rfl rfl aH aH) rfl ?_;refine aA (aC rfl) rfl ?_;refine aG ?_
            first
              | (refine aO (.cons (.there (.there (.there .here))) (.cons (.there (.there .here)) (.cons .here (.cons (.there .here) (.cons (.there .here) .nil))))) ?_
                 refine iR (i + 1) (ms ++ [e]) _ ⟨by omega, by rw [kZ he, ← hms]; unfold addN; rw [if_neg (by simpa using h56)], by simp; omega⟩ aH (.cons 2 rfl (.cons 3 rfl (.cons 4 rfl (.cons 45 rfl (.cons 46 rfl (.cons 47 rfl .nil)))))) rfl bG)
              | (refine aO (.cons (.there (.there .here)) (.cons .here (.cons .here (.cons .here (.cons .here .nil))))) ?_
                 refine iR (i + 1) ms _ ⟨by omega, by rw [kZ he, ← hms]; unfold addN; rw [if_pos (by simpa using h56)], by omega⟩ aH (.cons 2 rfl (.cons 3 rfl (.cons 4 rfl (.cons 45 rfl (.cons 46 rfl (.cons 47 rfl .nil)))))) rfl bG)
        ·
          have hms2 : ms = gS ns l.1 := (by rw [hms, y8 aH]);subst hms2;refine cY ?_;refine aV ?_;refine aV ?_;refine bL ?_;refine aE (aB ?_);refine aA (aC rfl) rfl ?_;refine aW rfl rfl (iT b15 s l.2 _ [59] _ hs hlo.1.1 (hg.mono (Hl.le_trans leT (Hl.le_trans leA leB)))) (.cons (.there .here) .nil) rfl (fun _ _ => aX _ _) ?_ ?_
          ·
            rintro _ _ _ hTr le1;obtain ⟨e, p, hq4, fb, h, rfl⟩ := aY hTr;cases h
            refine aO (.cons .here (.cons (.there (.there .here)) (.cons (.there (.there .here)) .nil))) ?_;refine aP ?_;refine aJ ?_;refine aP ?_;refine aJ ?_;exact jV rfl rfl (Hl.le_trans leT (Hl.le_trans leA (Hl.le_trans leB le1))) hs (by simp only [hx, reqF, f9, if_pos gc, hr2, hl, hq4, if_true, if_false, ↓reduceIte])
          rintro _ K _ hTr -;obtain ⟨q4, hq4, rfl, rfl, rfl⟩ := aZ hTr;clear hTr;refine aG (aN ?_);obtain ⟨f0, rfl⟩ : ∃ f0, f = f0 + 1 := ⟨f - 1, by omega⟩;have hm4 := fH hlo.1 hq4;refine aO (.cons (.there (.there .here)) (.cons .here (.cons (.there .here) (.cons (.there .here) .nil)))) ?_;refine jZ (Hl.le_trans leA leB) ?_;refine iR q4 (gS ns l.1) _ ⟨hm4.1, by omega, f0, by omega, ?_⟩ aH (.cons 2 rfl (.cons 3 rfl (.cons 4 rfl .nil))) rfl bG
          simp only [hx, reqF, f9, if_pos gc, hr2, hl, hq4, if_true, if_false, ↓reduceIte]
      ·
        have gc : ¬ (st2.2.kind = 1 ∧ st2.2.s = iF) := (fun h => h37 h.2);refine cY ?_;refine aV ?_;refine aV ?_;refine bL ?_;refine aE (aI ?_);refine aB ?_;refine gI fun K5 leN hN => ?_
        have leN2 := Hl.le_trans leT leN;refine aA (aC rfl) rfl ?_;refine aA (aC rfl) rfl ?_;refine aW rfl rfl (tU b15 s sv _ cb tb ns _ ⟨⟨hs, hg.mono leN2, hN, by omega⟩, htab.mono leN⟩ st2 hok2) (.cons .here .nil) rfl (fun _ _ => aX _ _) ?_ ?_
        ·
          rintro _ _ _ hTr le1;obtain ⟨e, p, hbb, fb, h, rfl⟩ := aY hTr;cases h
          refine aO (.cons .here (.cons .here (.cons .here .nil))) ?_;refine aJ ?_;exact jV rfl rfl (Hl.le_trans leN2 le1) hs (by simp only [hx, reqF, f9, if_neg gc, hbb, if_true, if_false, ↓reduceIte])
        rintro _ K6 _ hTr leK6;obtain ⟨bb, hbb, ⟨ys, hrep, hcl, rfl⟩⟩ := aZ hTr;clear hTr;refine gI fun K7 leS hS => ?_
        obtain ⟨sa, sn, sc, rfl⟩ := hS.isSlice;have leS2 := Hl.le_trans leN2 (Hl.le_trans leK6 leS);refine aA bS rfl ?_;refine aA (aD (o' := 6) jW rfl rfl) rfl ?_;refine aA (aD (o' := 7) tG rfl rfl) rfl ?_;refine bR (bI aCZ rfl rfl cG a7 (.succ (.succ (.succ (.succ (.succ (.succ (.succ .zero))))))) rfl) ?_;rintro _ K _ ⟨rfl, rfl⟩ -;refine aG (aE ?_);refine aI (aI ?_);refine aB ?_;refine aA (aC rfl) rfl ?_;refine aA bS rfl ?_;refine aA (aD (o' := 0) bV rfl rfl) rfl ?_;refine aA (aD (o' := 2) cD rfl rfl) rfl ?_;refine aA (aD (o' := 2) eE rfl rfl) rfl ?_;refine aA (aK kK rfl aM rfl) rfl ?_;refine aA (fO rfl rfl) rfl ?_;refine aG (aE ?_);refine bE 84 rfl (fun h84 => ?_) (fun h84 => ?_)
        ·
          have g84 : ¬ bb.2.2.kind = 0 := by omega
          refine aB ?_;refine aA (aC rfl) rfl ?_;refine aW rfl rfl (gJ b15 s bb.2 _ _) (.cons .here .nil) rfl (by rintro _ _ ⟨_, h, _⟩; cases h) ?_ ?_
          ·
            rintro _ _ _ ⟨fb, h, rfl⟩ le1;cases h
            refine aO (.cons .here (.cons .here (.cons .here .nil))) ?_;refine aJ ?_;exact jV rfl rfl (Hl.le_trans leS2 le1) hs (by simp only [hx, reqF, f9, if_neg gc, hbb, if_neg g84, if_true, if_false, ↓reduceIte])
          ·
            rintro _ _ _ ⟨_, h, _⟩; cases h
        ·
          have g84 : bb.2.2.kind = 0 := by omega
          refine a6 ?_;refine aE (aI ?_);refine aB ?_;refine aA (aC rfl) rfl ?_;refine aA bS rfl ?_;refine aA (aD (o' := 6) jW rfl rfl) rfl ?_;refine bR (bI ts87 rfl rfl cG a7 .zero rfl) ?_;rintro _ K _ ⟨rfl, rfl⟩ -;refine bR (bI ts79 rfl rfl cG a7 .zero rfl) ?_;rintro _ K _ ⟨rfl, rfl⟩ -;refine aG (aE ?_);refine bM ?_;refine gG fun K8 leP hP => ?_
          refine yD (r := (ns, bb.1)) rfl rfl (Hl.le_trans leS2 leP) hs ?_ ⟨_, _, _, ys, _, hP, rfl, rfl, hN.mono (Hl.le_trans leK6 (Hl.le_trans leS leP)), hS.mono leP, hrep.mono (Hl.le_trans leS leP), hcl⟩
          simp only [hx, reqF, f9, if_neg gc, hbb, if_pos g84, if_true, if_false, ↓reduceIte]
    ·
      have gc : ¬ (st2.2.kind = 1 ∧ st2.2.s = iF) := (fun h => by omega);refine aQ rfl rfl rfl ?_;refine aQ rfl rfl rfl ?_;refine aQ rfl rfl rfl ?_;refine aQ rfl rfl rfl ?_;refine aQ rfl rfl rfl ?_;refine aQ rfl rfl rfl ?_;refine aQ rfl rfl rfl ?_;refine aA (a8 rfl rfl) rfl ?_;refine aG (aE ?_);refine cQ rfl ?_;refine cY ?_;refine aV ?_;refine aV ?_;refine bL ?_;refine aE (aI ?_);refine aB ?_;refine gI fun K5 leN hN => ?_
      have leN2 := Hl.le_trans leT leN;refine aA (aC rfl) rfl ?_;refine aA (aC rfl) rfl ?_;refine aW rfl rfl (tU b15 s sv _ cb tb ns _ ⟨⟨hs, hg.mono leN2, hN, by omega⟩, htab.mono leN⟩ st2 hok2) (.cons .here .nil) rfl (fun _ _ => aX _ _) ?_ ?_
      ·
        rintro _ _ _ hTr le1;obtain ⟨e, p, hbb, fb, h, rfl⟩ := aY hTr;cases h
        refine aO (.cons .here (.cons .here (.cons .here .nil))) ?_;refine aJ ?_;exact jV rfl rfl (Hl.le_trans leN2 le1) hs (by simp only [hx, reqF, f9, if_neg gc, hbb, if_true, if_false, ↓reduceIte])
      rintro _ K6 _ hTr leK6;obtain ⟨bb, hbb, ⟨ys, hrep, hcl, rfl⟩⟩ := aZ hTr;clear hTr;refine gI fun K7 leS hS => ?_
      obtain ⟨sa, sn, sc, rfl⟩ := hS.isSlice;have leS2 := Hl.le_trans leN2 (Hl.le_trans leK6 leS);refine aA bS rfl ?_;refine aA (aD (o' := 6) jW rfl rfl) rfl ?_;refine aA (aD (o' := 7) tG rfl rfl) rfl ?_;refine bR (bI aCZ rfl rfl cG a7 (.succ (.succ (.succ (.succ (.succ (.succ (.succ .zero))))))) rfl) ?_;rintro _ K _ ⟨rfl, rfl⟩ -;refine aG (aE ?_);refine aI (aI ?_);refine aB ?_;refine aA (aC rfl) rfl ?_;refine aA bS rfl ?_;refine aA (aD (o' := 0) bV rfl rfl) rfl ?_;refine aA (aD (o' := 2) cD rfl rfl) rfl ?_;refine aA (aD (o' := 2) eE rfl rfl) rfl ?_;refine aA (aK kK rfl aM rfl) rfl ?_;refine aA (fO rfl rfl) rfl ?_;refine aG (aE ?_);refine bE 84 rfl (fun h84 => ?_) (fun h84 => ?_)
      ·
        have g84 : ¬ bb.2.2.kind = 0 := by omega
        refine aB ?_;refine aA (aC rfl) rfl ?_;refine aW rfl rfl (gJ b15 s bb.2 _ _) (.cons .here .nil) rfl (by rintro _ _ ⟨_, h, _⟩; cases h) ?_ ?_
        ·
          rintro _ _ _ ⟨fb, h, rfl⟩ le1;cases h
          refine aO (.cons .here (.cons .here (.cons .here .nil))) ?_;refine aJ ?_;exact jV rfl rfl (Hl.le_trans leS2 le1) hs (by simp only [hx, reqF, f9, if_neg gc, hbb, if_neg g84, if_true, if_false, ↓reduceIte])
        ·
          rintro _ _ _ ⟨_, h, _⟩; cases h
      ·
        have g84 : bb.2.2.kind = 0 := by omega
        refine a6 ?_;refine aE (aI ?_);refine aB ?_;refine aA (aC rfl) rfl ?_;refine aA bS rfl ?_;refine aA (aD (o' := 6) jW rfl rfl) rfl ?_;refine bR (bI ts87 rfl rfl cG a7 .zero rfl) ?_;rintro _ K _ ⟨rfl, rfl⟩ -;refine bR (bI ts79 rfl rfl cG a7 .zero rfl) ?_;rintro _ K _ ⟨rfl, rfl⟩ -;refine aG (aE ?_);refine bM ?_;refine gG fun K8 leP hP => ?_
        refine yD (r := (ns, bb.1)) rfl rfl (Hl.le_trans leS2 leP) hs ?_ ⟨_, _, _, ys, _, hP, rfl, rfl, hN.mono (Hl.le_trans leK6 (Hl.le_trans leS leP)), hS.mono leP, hrep.mono (Hl.le_trans leS leP), hcl⟩
        simp only [hx, reqF, f9, if_neg gc, hbb, if_pos g84, if_true, if_false, ↓reduceIte]
end Go.Proofs
end
section
namespace Go.Proofs
open Go Go.SL Go.Syn Go.Cmp
theorem iZ (b yb : Nat) (vs ys : List InsV) (cells : List Value) (K : Hl) (hc : cells = f5.cs ys) (hl : vs.length + ys.length ≤ 1000000) :
  Sp Tryz.prog 193 [ptr b, .slice (some ⟨yb, 0, none⟩) ys.length ys.length] K [cdr b vs, pt yb (aU cells 41)]
   (Ret fun v K' L' => v = i64 (((vs ++ ys).length : Int) - 1) ∧ K' = K ∧ L' = [cdr b (vs ++ ys)]) := by
 have hys : (cells.drop 0).take (ys.length * 7) = f5.cs ys := by
  subst hc; rw [List.drop_zero, List.take_of_length_le (by rw [f5.cs_length]; exact Nat.le_refl _)]
 have hla : (vs ++ ys).length = vs.length + ys.length := List.length_append;refine bB Tryz.func193 rfl Tryz.ntmps193 rfl rfl fun F w => ?_
 refine t_ex fun cv => ?_
 refine aI (aB ?_);refine aA (aF rfl) rfl ?_;refine aG (aE ?_);refine aI (aB ?_);refine aA (aC rfl) rfl ?_;refine aA (aC rfl) rfl ?_;refine aA bS rfl ?_;refine aA (aD (o' := 0) mB rfl rfl) rfl ?_;refine aA (aK ts42 rfl aM rfl) rfl ?_;refine aA (aC rfl) rfl ?_;refine ol_s (dQ (k := f5) (ys := ys) aAV rfl rfl a7 (fun w j => dN Tryz.underlying42 (SeesSl.at (k := f5) (.blk (.own (.there (.there .here))) rfl hys) j)) (by first | (simp; omega) | omega) (by first | (simp; omega) | omega)) rfl ?_;rintro v11 K _ ⟨rfl, rfl, ho11⟩ -;refine aA bS rfl ?_;refine aA (aD (o' := 0) mB rfl rfl) rfl ?_;refine bR (bI ts42 rfl rfl cG a7 .zero rfl) ?_;rintro _ K _ ⟨rfl, rfl⟩ -;refine aG (aE ?_);refine aI (aB ?_);refine aA (aC rfl) rfl ?_;refine aA bS rfl ?_;refine aA (aD (o' := 0) mB rfl rfl) rfl ?_;refine aA (aK ts42 rfl aM rfl) rfl ?_;refine aA (cE (k := f5) rfl Tryz.underlying42 rfl aM) rfl ?_;refine aA (nH rfl rfl aH aH) rfl ?_;refine aA (aF rfl) rfl ?_;refine aG (aE ?_);refine bM ?_;refine aO (.cons (.there .here) (.cons .here .nil)) ?_;refine dV aAG ?_;refine bJ rfl rfl (Hl.le_refl _) ?_;exact ⟨_, rfl, rfl, rfl, rfl⟩
theorem nN (b : Nat) (pv : Value) (vs : List InsV) (ps : List Nat) (K : Hl) (hl : vs.length ≤ 1000000) (hpl : ps.length ≤ 1000000) (hp : ∀ p ∈ ps, p < vs.length) :
  Sp Tryz.prog 271 [ptr b, pv] K [cdr b vs, sl false (iM 3) pv ps] (Ret fun v K' L' => v = .tuple #[] ∧ K' = K ∧ L' = [cdr b (sC vs ps)]) := by
 refine bB Tryz.func271 rfl Tryz.ntmps271 rfl rfl fun F w => ?_
 refine t_ex fun cv => ?_
 refine aI (aB ?_);refine aA (aC rfl) rfl ?_;refine aA (cE (k := (iM 3)) rfl Tryz.underlying55 rfl aM) rfl ?_;refine aA (aC rfl) rfl ?_;refine aG (aE ?_);refine bF ?_;refine eK (fun (i : Nat) => i ≤ ps.length) (fun i => [(0, ptr b), (6, pv), (7, i64 ps.length), (8, i64 i)]) (fun _ => _) (fun i => [sl false f5 cv ((ps.take i).foldl (fun o k => lU o k ((vs.length : Int) - 1 - k)) vs), pt b (aU [cv] 217), sl false (iM 3) pv ps]) (fun i => ps.length - i) 0 (Nat.zero_le _) (.cons 0 rfl (.cons 6 rfl (.cons 7 rfl (.cons 8 rfl .nil)))) rfl (fun _ h => fP h) ?_;intro i hi0;refine aI (aB ?_);refine aA (dA rfl rfl) rfl ?_;refine aG (aE ?_);refine aI ?_;refine bE 9 rfl (fun h9 => ?_) (fun h9 => ?_)
 ·
  have hilt : i < ps.length := by omega
  obtain ⟨p, hpi⟩ : ∃ p, ps[i]? = some p := ⟨ps[i]'hilt, List.getElem?_eq_getElem hilt⟩;have hpv : p < vs.length := hp p (List.mem_of_getElem? hpi);obtain ⟨xs, hxs⟩ : ∃ xs, xs = (ps.take i).foldl (fun o k => lU o k ((vs.length : Int) - 1 - k)) vs := ⟨_, rfl⟩;rw [← hxs];have hxl : xs.length = vs.length := (by rw [hxs, r9]);obtain ⟨x, hx⟩ : ∃ x, xs[p]? = some x := ⟨xs[p]'(by omega), List.getElem?_eq_getElem aH⟩;refine a6 ?_;refine aE (aI ?_);refine bF (aI ?_);refine aB ?_;refine aA (b0 (k := (iM 3)) nX rfl aM rfl rfl (by first | assumption | omega)) rfl ?_;refine aA (dO (o := 0) (k := (iM 3)) ts3 rfl aM bP rfl) rfl ?_;refine aA (aF rfl) rfl ?_;refine aG (aE ?_);refine aPX (by intro h; rw [h] at hx; simp at hx) fun bb cap junk fz hcv h2 h3 h4 => ?_
  subst hcv;have hcs : ((f5.cs xs ++ junk).drop 0).take (xs.length * f5.sz) = f5.cs xs := (by rw [List.drop_zero, ← f5.cs_length, List.take_left]);have hlen : (f5.cs xs ++ junk).length = cap * 7 := (by rw [List.length_append, f5.cs_length, h3]; show xs.length * 7 + (cap - xs.length) * 7 = _; omega);refine t_draw (anc := [0, 1, 3, 7, 0, 0, 32, 96, 224, 480, 992, 0, 4064, 8191, 16383, 32767]) (ord := [0, 1, 2, 3, 4, 5, 6, 7, 8, 9, 10, 11, 12, 13, 14, 15]) [15] [15] mixed (by decide +kernel) (cS _) ?_;refine dl_ev rfl rfl (.none rfl) rfl rfl (aC rfl) rfl ?_;refine dl_ev rfl rfl (.none rfl) rfl rfl bS rfl ?_;refine dl_ev rfl rfl (.none rfl) rfl rfl (aD (o' := 0) mB rfl rfl) rfl ?_;refine dl_ev rfl rfl (.none rfl) rfl rfl (aK ts42 rfl aM rfl) rfl ?_;refine dl_ev rfl rfl (.none rfl) rfl rfl (aC rfl) rfl ?_;refine dl_ev rfl rfl (.none rfl) rfl rfl (aC rfl) rfl ?_;refine dl_ev rfl rfl (.none rfl) rfl rfl bS rfl ?_;refine dl_ev rfl rfl (.none rfl) rfl rfl (aD (o' := 0) mB rfl rfl) rfl ?_;refine dl_ev rfl rfl (.none rfl) rfl rfl (aK ts42 rfl aM rfl) rfl ?_;refine dl_ev rfl rfl (.none rfl) rfl rfl (cE (k := f5) rfl Tryz.underlying42 rfl (.blk (.own .here) rfl hcs)) rfl ?_;refine dl_ev rfl rfl (.none rfl) rfl rfl (nH rfl rfl aH aH) rfl ?_;refine dl_ev rfl rfl (.none rfl) rfl rfl (aC rfl) rfl ?_;refine dl_ev rfl rfl (.none rfl) rfl rfl (nH rfl rfl aH aH) rfl ?_;refine dl_ev rfl rfl (.none rfl) rfl rfl (vG (k := f5) (j := p) (m := 0 + p * 7) rfl gZ rfl (.blk (.own .here) rfl hcs) rfl rfl aH) rfl ?_;refine dl_ev rfl rfl (.none rfl) rfl rfl (aD (o := 0 + p * 7) (o' := 0 + p * 7 + 1) gL rfl rfl) rfl ?_;refine r6 rfl rfl (.none rfl) rfl (bI ts3 rfl rfl rfl .here (aHZ (by rw [hlen]; omega)) (h4.at (by show 0 + p * 7 + 1 < cap * 7; omega))) ?_;rintro _ K _ ⟨rfl, rfl⟩ -;refine dl_nil ?_;refine aN (aE ?_);refine aB ?_;refine aA (bZ rfl rfl aH aH) rfl ?_;refine aA (aC rfl) rfl ?_;refine aG ?_;have e3 : ((f5.cs xs ++ junk).set (0 + p * 7 + 1) (i64 (xs.length - 1 - p))) = f5.cs (xs.set p { x with n := xs.length - 1 - p }) ++ junk := (by rw [show 0 + p * 7 + 1 = p * f5.sz + 1 from by show _ = p * 7 + 1; omega]; exact cs_set f5 (by decide) rfl hx);have e4 : (ps.take (i + 1)).foldl (fun o k => lU o k ((vs.length : Int) - 1 - k)) vs = xs.set p { x with n := xs.length - 1 - p } := (by rw [aD1 hpi, ← hxs, aH2 hx, hxl]);have e5 : (xs.set p { x with n := xs.length - 1 - p }).length = xs.length := List.length_set;refine dV (fun h hh => aK9 (k := f5) (z := false) (xs := xs.set p { x with n := xs.length - 1 - p }) (fun h => by cases h) (by rw [e5]; exact h2) (by rw [e5]; exact h3) h4 e3 hh) ?_;refine cL (i + 1) aH aH (.cons 0 rfl (.cons 6 rfl (.cons 7 rfl (.cons 8 rfl .nil)))) rfl ?_;rw [e4, e5];exact fun _ h => h
 ·
  have hfin : (ps.take i).foldl (fun o k => lU o k ((vs.length : Int) - 1 - k)) vs = sC vs ps := (by rw [List.take_of_length_le aH]; rfl);refine cY ?_;refine aV ?_;refine aV ?_;refine bL ?_;rw [hfin];refine aO (.cons (.there .here) (.cons .here .nil)) ?_;refine dV aAG ?_;refine dE rfl (Hl.le_refl _) ?_;exact ⟨_, rfl, rfl, rfl, rfl⟩
end Go.Proofs
end
section
namespace Go.Proofs
open Go Go.SL Go.Syn Go.Cmp
theorem uG (b e n : Nat) (x : Value) (hx : x = i64 n) : ∀ h, pt b (aU [x] e) h → sl false (iM e) (.slice (some ⟨b, 0, none⟩) 1 1) [n] h := by
 subst hx;exact sJ (k := iM e) (xs := [n]) (cells := [i64 n]) (Nat.le_refl _) rfl rfl (.inl (Nat.le_refl _)) (fun h => by cases h)
theorem m9 (K : Hl) : Ksl (bK 9) K nilC.1 [] := .inl ⟨none, 0, rfl, rfl⟩
abbrev jmpV (op : Int) : InsV := ⟨op, 0, 0, false, nilC, nilC, 0⟩
theorem mS (K : Hl) (op : Int) : RIns K (jmpV op) (jmp op) := ⟨rfl, rfl, rfl, rfl, rfl, m9 K, m9 K⟩
theorem RIs.two {K : Hl} {x y : InsV} {o p : Mach.Ins} (h1 : RIns K x o) (h2 : RIns K y p) : RIs K [x, y] [o, p] := ⟨h1, h2, trivial⟩
abbrev UnlR (b : Nat) (r : List Mach.Ins × List Nat) : Ending → Hl → List Asn → Prop := Ret fun pv K' L' => ∃ vs', RIs K' vs' r.1 ∧ L' = [sl false (iM 3) pv r.2, cdr b vs']
def UnlS (t : Tree) : Prop := wf t 0 = true → ∀ (b : Nat) (tn : Bool) (ty : TypeId) (u : Value) (vs : List InsV) (ops : List Mach.Ins) (K : Hl), Rep K t [(⟨.iface ty u, rfl⟩, u0)] → RIs K vs ops → vs.length + 2 * cnt t ≤ 900000 → Sp Tryz.prog 270 [ptr b, .iface ty u, .bool tn] K [cdr b vs] (UnlR b (unl t tn ops))
def UnlL : Tree → Prop
 | .tcons t l => UnlS t ∧ UnlL l
 | _ => True
theorem aHO {K : Hl} {rest : Tree} {xs : List (Cell × Cell)} {i : Nat} (hw : wf rest 1 = true) (hr : Rep K rest (xs.drop i)) (hi : i < xs.length) :
  ∃ t l c, rest = .tcons t l ∧ Rep K t [(c, u0)] ∧ Rep K l (xs.drop (i + 1)) ∧ xs[i]? = some (c, u0) ∧ wf t 0 = true ∧ wf l 1 = true := by
 have hd : xs.drop i ≠ [] := by intro h; have := congrArg List.length h; simp at this; omega
 cases rest <;> simp only [wf, Rep] at hw hr
 case tnil => exact absurd hr hd
 case tcons t l =>
  obtain ⟨c, ys, h1, h2, h3⟩ := hr;simp at hw;have e : xs.drop (i + 1) = ys := by rw [← List.drop_drop, h3]; rfl
  refine ⟨t, l, c, rfl, h1, by rw [e]; exact h2, ?_, hw.1, hw.2⟩
  have := List.getElem?_drop (xs := xs) (i := i) (j := 0);rw [h3] at this; simpa using this.symm
 all_goals simp at hw
theorem aKX {K : Hl} {l : Tree} {ys : List (Cell × Cell)} (hw : wf l 1 = true) (hr : Rep K l ys) : f7 l = false ↔ 0 < ys.length := by
 cases l <;> simp only [wf, Rep] at hw hr
 case tnil => subst hr; simp [f7]
 case tcons t l => obtain ⟨c, zs, _, _, rfl⟩ := hr; simp [f7]
 all_goals simp at hw
theorem aKS {K : Hl} {rest : Tree} {ys : List (Cell × Cell)} (hw : wf rest 1 = true) (hr : Rep K rest ys) (he : ys = []) {all tn : Bool} {ops : List Mach.Ins} {a h : List Nat} : unlL all tn rest ops a h = (ops, a, h) := by
 cases rest <;> simp only [wf, Rep] at hw hr
 case tnil => simp [unlL]
 case tcons t l => obtain ⟨c, zs, _, _, rfl⟩ := hr; cases he
 all_goals simp at hw
theorem aIT (p : Bool) : UnlS (.const p) := by
 intro hw b tn ty u vs ops K hr hv hl;cases (show [(_, u0)] = [(_, u0)] from hr)
 have hvl := hv.length;refine bB Tryz.func270 rfl Tryz.ntmps270 rfl rfl fun F w => ?_
 refine aI (aB ?_);refine aA (aF rfl) rfl ?_;refine aG (aE ?_);refine aI (aB ?_);refine aA (cK tb41 nE (.cons rfl rfl rfl (.cons .nil) .nil)) rfl ?_;refine ol_s (cO tz41) rfl ?_;rintro _ K _ ⟨b7, rfl, rfl, rfl⟩ -;refine bR (cH jH rfl rfl rfl a7 (by first | (simp [Value.oneCell']; done) | exact fun c hc => El.one _ _ c hc) (.cons (.cons (.cons (.cons (.cons (.cons (.cons .nil))))))) (by intro j hj; simp)) ?_;rintro _ K _ ⟨rfl, rfl⟩ -;refine aG (aE ?_);refine hO (fun (j : Int) => j = if tn = true then 4 else 5) (fun _ => [(0, ptr b), (1, .iface 289 (.bool p)), (2, .bool tn), (7, ptr b7)]) (fun _ => K) (fun j => [pt b7 (aU [i64 j, i64 0, i64 0, .bool false, .slice none 0 0, .slice none 0 0, i64 0] 41), cdr b vs]) ?_ ?_
 ·
  refine aI (aB ?_);refine aA (aC rfl) rfl ?_;refine aG (aE ?_);refine eB 19 rfl (fun h19 => ?_) (fun h19 => ?_)
  ·
   refine aB ?_;refine aA (aD (o' := 0) iX rfl rfl) rfl ?_;refine bR (bI ts3 rfl rfl cG a7 .zero rfl) ?_;rintro _ K _ ⟨rfl, rfl⟩ -;refine aG ?_;exact bX _ (by rw [h19]; rfl) (.cons 0 rfl (.cons 1 rfl (.cons 2 rfl (.cons 7 rfl .nil)))) rfl (fun _ h => h)
  ·
   refine a6 ?_;exact bX _ (by rw [h19]; rfl) (.cons 0 rfl (.cons 1 rfl (.cons 2 rfl (.cons 7 rfl .nil)))) rfl (fun _ h => h)
 ·
  intro j hj;refine aI (aI ?_);refine aB ?_;refine aA (aC rfl) rfl ?_;refine aG (aE ?_);refine bF (aI ?_);refine aB ?_;refine aA (cX Tryz.underlying293 (fun _ h => by cases h) rfl aC1 rfl) rfl ?_;refine aA (aR rfl rfl) rfl ?_;refine aA (aR rfl rfl) rfl ?_;refine aG (aE ?_);refine cQ rfl ?_;refine aI (aB ?_);refine aA (eX Tryz.underlying289 (fun _ h => by cases h) rfl) rfl ?_;refine aA (aR rfl rfl) rfl ?_;refine aA (aR rfl rfl) rfl ?_;refine aG (aE ?_);refine eS rfl ?_;refine aI (aB ?_);refine aA (aF rfl) rfl ?_;refine aG (aE ?_);refine aI (aI ?_);refine aB ?_;refine aA (aC rfl) rfl ?_;refine aA (aC rfl) rfl ?_;refine aA (aFE Tryz.underlying4 rfl rfl) rfl ?_;refine aG (aE ?_);refine eB 36 rfl (fun h36 => ?_) (fun h36 => ?_)
  ·
   have e36 : unl (.const p) tn ops = (ops, []) := (by unfold unl; rw [if_neg (by intro h; subst h; simp at h36)]);refine aI (aB ?_);refine aA (aF rfl) rfl ?_;refine aG (aE ?_);refine bM ?_;refine bC ?_;refine bQ ?_;refine bC ?_;refine aO (.cons (.there .here) .nil) ?_;refine dV (eW (iM 3)) ?_;refine bJ rfl rfl (Hl.le_refl _) ?_;rw [e36];exact ⟨_, rfl, vs, hv, rfl⟩
  ·
   have e36 : unl (.const p) tn ops = (ops ++ [jmp 3], [ops.length]) := (by unfold unl; rw [if_pos (by simpa using h36)]);refine a6 ?_;refine aE (aI ?_);refine aB ?_;refine aA (aC rfl) rfl ?_;refine aA (cK tb41 nE (.cons rfl rfl rfl (.cons .nil) .nil)) rfl ?_;refine ol_s (bO (z0 := [.int .i64 0, .int .i64 0, .int .i64 0, .bool false, .slice none 0 0, .slice none 0 0, .int .i64 0]) gZ tz41 rfl rfl rfl rfl (.cons rfl rfl rfl (.cons (.cons (.cons (.cons (.cons (.cons (.cons .nil))))))) .nil)) rfl ?_;rintro _ K _ ⟨b39, rfl, rfl, rfl⟩ -;refine bD rfl rfl (iZ b b39 vs [jmpV 3] _ _ rfl (by simp; omega)) (.cons (.there (.there .here)) (.cons .here .nil)) rfl ?_;rintro _ K _ ⟨rfl, rfl, rfl⟩ -;refine ol_s (bO (z0 := [.int .i64 0]) nX tz3 rfl rfl rfl rfl (.cons rfl rfl rfl (.cons .nil) .nil)) rfl ?_;rintro _ K _ ⟨b41, rfl, rfl, rfl⟩ -;refine aA (aF rfl) rfl ?_;refine aG (aE ?_);refine bM ?_;refine bQ ?_;refine bC ?_;refine aO (.cons .here (.cons .here .nil)) ?_;refine dV (gX (uG b41 3 ops.length _ (by rw [List.length_append, hvl]; simp))) ?_;refine bJ rfl rfl (Hl.le_refl _) ?_;rw [e36];exact ⟨_, rfl, _, RIs.append (ws := [jmpV 3]) (ps := [jmp 3]) ⟨mS _ _, trivial⟩ hv, rfl⟩
theorem aNZ (t : Tree) (ih : UnlS t) : UnlS (.not_ t) := by
 intro hw b tn ty u vs ops K hr hv hl;obtain ⟨⟨cv, hcv⟩, hr1, he⟩ := hr;have hwt : wf t 0 = true := by simpa [wf] using hw
 obtain ⟨ty2, u2, hc⟩ := tB (.inl hwt) hr1;cases hc
 cases he
 simp only [cnt] at hl;have hvl := hv.length;refine bB Tryz.func270 rfl Tryz.ntmps270 rfl rfl fun F w => ?_
 refine aI (aB ?_);refine aA (aF rfl) rfl ?_;refine aG (aE ?_);refine aI (aB ?_);refine aA (cK tb41 nE (.cons rfl rfl rfl (.cons .nil) .nil)) rfl ?_;refine ol_s (cO tz41) rfl ?_;rintro _ K _ ⟨b7, rfl, rfl, rfl⟩ -;refine bR (cH jH rfl rfl rfl a7 (by first | (simp [Value.oneCell']; done) | exact fun c hc => El.one _ _ c hc) (.cons (.cons (.cons (.cons (.cons (.cons (.cons .nil))))))) (by intro j hj; simp)) ?_;rintro _ K _ ⟨rfl, rfl⟩ -;refine aG (aE ?_);refine hO (fun (j : Int) => j = if tn = true then 4 else 5) (fun _ => [(0, ptr b), (1, .iface 293 (.agg #[.iface ty2 u2])), (2, .bool tn), (7, ptr b7)]) (fun _ => K) (fun j => [pt b7 (aU [i64 j, i64 0, i64 0, .bool false, .slice none 0 0, .slice none 0 0, i64 0] 41), cdr b vs]) ?_ ?_
 ·
  refine aI (aB ?_);refine aA (aC rfl) rfl ?_;refine aG (aE ?_);refine eB 19 rfl (fun h19 => ?_) (fun h19 => ?_)
  ·
   refine aB ?_;refine aA (aD (o' := 0) iX rfl rfl) rfl ?_;refine bR (bI ts3 rfl rfl cG a7 .zero rfl) ?_;rintro _ K _ ⟨rfl, rfl⟩ -;refine aG ?_;exact bX _ (by rw [h19]; rfl) (.cons 0 rfl (.cons 1 rfl (.cons 2 rfl (.cons 7 rfl .nil)))) rfl (fun _ h => h)
  ·
   refine a6 ?_;exact bX _ (by rw [h19]; rfl) (.cons 0 rfl (.cons 1 rfl (.cons 2 rfl (.cons 7 rfl .nil)))) rfl (fun _ h => h)
 ·
  intro j hj;refine aI (aI ?_);refine aB ?_;refine aA (aC rfl) rfl ?_;refine aG (aE ?_);refine bF (aI ?_);refine aB ?_;refine aA (eX Tryz.underlying293 (fun _ h => by cases h) rfl) rfl ?_;refine aA (aR rfl rfl) rfl ?_;refine aA (aR rfl rfl) rfl ?_;refine aG (aE ?_);refine eS rfl ?_;refine aI (aB ?_);refine ol_s (cO aRW) rfl ?_;rintro _ K _ ⟨b8, rfl, rfl, rfl⟩ -;refine bR (cH aNP rfl rfl rfl a7 (by first | (simp [Value.oneCell']; done) | exact fun c hc => El.one _ _ c hc) (.cons .nil) (by intro j hj; simp)) ?_;rintro _ K _ ⟨rfl, rfl⟩ -;refine aG (aE ?_);refine aI (aB ?_);refine aA (aC rfl) rfl ?_;refine aA (aD (o' := 0) aIL rfl rfl) rfl ?_;refine aA (aK aC0 rfl aM rfl) rfl ?_;refine aA (aC rfl) rfl ?_;refine aA (by first | exact dM rfl | exact dU rfl) rfl ?_;refine bD rfl rfl (ih hwt b (!tn) ty2 u2 vs ops _ hr1 hv aH) (.cons (.there (.there .here)) .nil) rfl ?_;rintro _ K1 _ ⟨vs1, hv1, rfl⟩ le1;refine aA (aF rfl) rfl ?_;refine aG (aE ?_);refine bM ?_;refine bQ ?_;refine bC ?_;refine aO (.cons .here (.cons .here .nil)) ?_;refine bJ rfl rfl le1 ?_;exact ⟨_, rfl, vs1, hv1, rfl⟩
theorem aNY (tag : Int) (oct : Bool) (op : Int) (a b1 : List (List UInt8)) : UnlS (.mat tag oct op a b1) := by
 intro hw b tn ty u vs ops K hr hv hl;obtain ⟨va, vb, hA, hB, he⟩ := hr;obtain ⟨sa, sn, sc, rfl⟩ := hA.isSlice;obtain ⟨ta, tn2, tc, rfl⟩ := hB.isSlice;cases he
 have hvl := hv.length;refine bB Tryz.func270 rfl Tryz.ntmps270 rfl rfl fun F w => ?_
 refine aI (aB ?_);refine aA (aF rfl) rfl ?_;refine aG (aE ?_);refine aI (aB ?_);refine aA (cK tb41 nE (.cons rfl rfl rfl (.cons .nil) .nil)) rfl ?_;refine ol_s (cO tz41) rfl ?_;rintro _ K _ ⟨b7, rfl, rfl, rfl⟩ -;refine bR (cH jH rfl rfl rfl a7 (by first | (simp [Value.oneCell']; done) | exact fun c hc => El.one _ _ c hc) (.cons (.cons (.cons (.cons (.cons (.cons (.cons .nil))))))) (by intro j hj; simp)) ?_;rintro _ K _ ⟨rfl, rfl⟩ -;refine aG (aE ?_);refine hO (fun (j : Int) => j = if tn = true then 4 else 5) (fun _ => [(0, ptr b), (1, .iface 380 (.agg #[i64 tag, .bool oct, i64 op, .slice sa sn sc, .slice ta tn2 tc])), (2, .bool tn), (7, ptr b7)]) (fun _ => K) (fun j => [pt b7 (aU [i64 j, i64 0, i64 0, .bool false, .slice none 0 0, .slice none 0 0, i64 0] 41), cdr b vs]) ?_ ?_
 ·
  refine aI (aB ?_);refine aA (aC rfl) rfl ?_;refine aG (aE ?_);refine eB 19 rfl (fun h19 => ?_) (fun h19 => ?_)
  ·
   refine aB ?_;refine aA (aD (o' := 0) iX rfl rfl) rfl ?_;refine bR (bI ts3 rfl rfl cG a7 .zero rfl) ?_;rintro _ K _ ⟨rfl, rfl⟩ -;refine aG ?_;exact bX _ (by rw [h19]; rfl) (.cons 0 rfl (.cons 1 rfl (.cons 2 rfl (.cons 7 rfl .nil)))) rfl (fun _ h => h)
  ·
   refine a6 ?_;exact bX _ (by rw [h19]; rfl) (.cons 0 rfl (.cons 1 rfl (.cons 2 rfl (.cons 7 rfl .nil)))) rfl (fun _ h => h)
 ·
  intro j hj;refine aI (aI ?_);refine aB ?_;refine aA (aC rfl) rfl ?_;refine aG (aE ?_);refine bF (aI ?_);refine aB ?_;refine aA (cX Tryz.underlying293 (fun _ h => by cases h) rfl aC1 rfl) rfl ?_;refine aA (aR rfl rfl) rfl ?_;refine aA (aR rfl rfl) rfl ?_;refine aG (aE ?_);refine cQ rfl ?_;refine aI (aB ?_);refine aA (cX Tryz.underlying289 (fun _ h => by cases h) rfl aF0 rfl) rfl ?_;refine aA (aR rfl rfl) rfl ?_;refine aA (aR rfl rfl) rfl ?_;refine aG (aE ?_);refine cQ rfl ?_;refine aI (aB ?_);refine aA (cX Tryz.underlying376 (fun _ h => by cases h) rfl aL3 rfl) rfl ?_;refine aA (aR rfl rfl) rfl ?_;refine aA (aR rfl rfl) rfl ?_;refine aG (aE ?_);refine cQ rfl ?_;refine aI (aB ?_);refine aA (eX Tryz.underlying380 (fun _ h => by cases h) rfl) rfl ?_;refine aA (aR rfl rfl) rfl ?_;refine aA (aR rfl rfl) rfl ?_;refine aG (aE ?_);refine eS rfl ?_;refine aI (aB ?_);refine ol_s (cO aOT) rfl ?_;rintro _ K _ ⟨b15, rfl, rfl, rfl⟩ -;refine bR (cH aAR rfl rfl rfl a7 (by first | (simp [Value.oneCell']; done) | exact fun c hc => El.one _ _ c hc) (.cons (.cons (.cons (.cons (.cons .nil))))) (by intro j hj; simp)) ?_;rintro _ K _ ⟨rfl, rfl⟩ -;refine aG (aE ?_);refine aI (aB ?_);refine aA (aC rfl) rfl ?_;refine aA (aD (o' := 2) aIQ rfl rfl) rfl ?_;refine aA (aK ts3 rfl aM rfl) rfl ?_;refine aA (aD (o' := 0) fL rfl rfl) rfl ?_;refine aA (aD (o' := 0) jE rfl rfl) rfl ?_;refine aA (aK ts3 rfl aM rfl) rfl ?_;refine aA (aD (o' := 0) fL rfl rfl) rfl ?_;refine aA (aD (o' := 1) nW rfl rfl) rfl ?_;refine aA (aK ts4 rfl aM rfl) rfl ?_;refine aA (aD (o' := 3) yW rfl rfl) rfl ?_;refine aA (aK ts39 rfl aM rfl) rfl ?_;refine aA (aD (o' := 4) yX rfl rfl) rfl ?_;refine aA (aK ts39 rfl aM rfl) rfl ?_;refine aA (cK tb41 nE (.cons rfl rfl rfl (.cons .nil) (.cons rfl rfl rfl (.skip (.skip (.cons .nil))) (.cons rfl rfl rfl (.skip (.skip (.skip (.cons .nil)))) (.cons rfl rfl rfl (.skip (.skip (.skip (.skip (.cons .nil))))) (.cons rfl rfl rfl (.skip (.skip (.skip (.skip (.skip (.cons .nil)))))) .nil)))))) rfl ?_;refine aA (bW jH rfl aM rfl rfl) rfl ?_;refine ol_s (bO (z0 := [.int .i64 0, .int .i64 0, .int .i64 0, .bool false, .slice none 0 0, .slice none 0 0, .int .i64 0, .int .i64 0, .int .i64 0, .int .i64 0, .bool false, .slice none 0 0, .slice none 0 0, .int .i64 0]) gZ tz41 rfl rfl rfl rfl (.cons rfl rfl rfl (.cons (.cons (.cons (.cons (.cons (.cons (.cons .nil))))))) (.cons rfl rfl rfl (.skip (.skip (.skip (.skip (.skip (.skip (.skip (.cons (.cons (.cons (.cons (.cons (.cons (.cons .nil)))))))))))))) .nil))) rfl ?_;rintro _ K _ ⟨b107, rfl, rfl, rfl⟩ -;refine bD rfl rfl (iZ b b107 vs [⟨op, 0, tag, oct, ⟨.slice sa sn sc, rfl⟩, ⟨.slice ta tn2 tc, rfl⟩, 0⟩, jmpV j] _ _ rfl (by simp; omega)) (.cons (.there (.there (.there .here))) (.cons .here .nil)) rfl ?_;rintro _ K _ ⟨rfl, rfl, rfl⟩ -;refine ol_s (bO (z0 := [.int .i64 0]) nX tz3 rfl rfl rfl rfl (.cons rfl rfl rfl (.cons .nil) .nil)) rfl ?_;rintro _ K _ ⟨b109, rfl, rfl, rfl⟩ -;refine aA (aF rfl) rfl ?_;refine aG (aE ?_);refine bM ?_;refine bQ ?_;refine bC ?_;refine aO (.cons .here (.cons .here .nil)) ?_;refine dV (gX (uG b109 3 (ops.length + 1) _ (by rw [List.length_append, hvl]; simp; omega))) ?_;refine bJ rfl rfl (Hl.le_refl _) ?_;unfold unl;exact ⟨_, rfl, _, RIs.append (RIs.two ⟨rfl, rfl, rfl, rfl, rfl, hA, hB⟩ (by rw [hj]; exact mS _ _)) hv, rfl⟩
theorem aNW (a : List (List UInt8)) : UnlS (.exi a) := by
 intro hw b tn ty u vs ops K hr hv hl;obtain ⟨va, hA, he⟩ := hr;obtain ⟨sa, sn, sc, rfl⟩ := hA.isSlice;cases he
 have hvl := hv.length;refine bB Tryz.func270 rfl Tryz.ntmps270 rfl rfl fun F w => ?_
 refine aI (aB ?_);refine aA (aF rfl) rfl ?_;refine aG (aE ?_);refine aI (aB ?_);refine aA (cK tb41 nE (.cons rfl rfl rfl (.cons .nil) .nil)) rfl ?_;refine ol_s (cO tz41) rfl ?_;rintro _ K _ ⟨b7, rfl, rfl, rfl⟩ -;refine bR (cH jH rfl rfl rfl a7 (by first | (simp [Value.oneCell']; done) | exact fun c hc => El.one _ _ c hc) (.cons (.cons (.cons (.cons (.cons (.cons (.cons .nil))))))) (by intro j hj; simp)) ?_;rintro _ K _ ⟨rfl, rfl⟩ -;refine aG (aE ?_);refine hO (fun (j : Int) => j = if tn = true then 4 else 5) (fun _ => [(0, ptr b), (1, .iface 297 (.agg #[.slice sa sn sc])), (2, .bool tn), (7, ptr b7)]) (fun _ => K) (fun j => [pt b7 (aU [i64 j, i64 0, i64 0, .bool false, .slice none 0 0, .slice none 0 0, i64 0] 41), cdr b vs]) ?_ ?_
 ·
  refine aI (aB ?_);refine aA (aC rfl) rfl ?_;refine aG (aE ?_);refine eB 19 rfl (fun h19 => ?_) (fun h19 => ?_)
  ·
   refine aB ?_;refine aA (aD (o' := 0) iX rfl rfl) rfl ?_;refine bR (bI ts3 rfl rfl cG a7 .zero rfl) ?_;rintro _ K _ ⟨rfl, rfl⟩ -;refine aG ?_;exact bX _ (by rw [h19]; rfl) (.cons 0 rfl (.cons 1 rfl (.cons 2 rfl (.cons 7 rfl .nil)))) rfl (fun _ h => h)
  ·
   refine a6 ?_;exact bX _ (by rw [h19]; rfl) (.cons 0 rfl (.cons 1 rfl (.cons 2 rfl (.cons 7 rfl .nil)))) rfl (fun _ h => h)
 ·
  intro j hj;refine aI (aI ?_);refine aB ?_;refine aA (aC rfl) rfl ?_;refine aG (aE ?_);refine bF (aI ?_);refine aB ?_;refine aA (cX Tryz.underlying293 (fun _ h => by cases h) rfl aC1 rfl) rfl ?_;refine aA (aR rfl rfl) rfl ?_;refine aA (aR rfl rfl) rfl ?_;refine aG (aE ?_);refine cQ rfl ?_;refine aI (aB ?_);refine aA (cX Tryz.underlying289 (fun _ h => by cases h) rfl aF0 rfl) rfl ?_;refine aA (aR rfl rfl) rfl ?_;refine aA (aR rfl rfl) rfl ?_;refine aG (aE ?_);refine cQ rfl ?_;refine aI (aB ?_);refine aA (cX Tryz.underlying376 (fun _ h => by cases h) rfl aL3 rfl) rfl ?_;refine aA (aR rfl rfl) rfl ?_;refine aA (aR rfl rfl) rfl ?_;refine aG (aE ?_);refine cQ rfl ?_;refine aI (aB ?_);refine aA (cX Tryz.underlying380 (fun _ h => by cases h) rfl aOM rfl) rfl ?_;refine aA (aR rfl rfl) rfl ?_;refine aA (aR rfl rfl) rfl ?_;refine aG (aE ?_);refine cQ rfl ?_;refine aI (aB ?_);refine aA (eX Tryz.underlying297 (fun _ h => by cases h) rfl) rfl ?_;refine aA (aR rfl rfl) rfl ?_;refine aA (aR rfl rfl) rfl ?_;refine aG (aE ?_);refine eS rfl ?_;refine aI (aB ?_);refine ol_s (cO aRX) rfl ?_;rintro _ K _ ⟨b16, rfl, rfl, rfl⟩ -;refine bR (cH aNQ rfl rfl rfl a7 (by first | (simp [Value.oneCell']; done) | exact fun c hc => El.one _ _ c hc) (.cons .nil) (by intro j hj; simp)) ?_;rintro _ K _ ⟨rfl, rfl⟩ -;refine aG (aE ?_);refine aI (aB ?_);refine aA (aC rfl) rfl ?_;refine aA (aD (o' := 0) aIM rfl rfl) rfl ?_;refine aA (aK ts39 rfl aM rfl) rfl ?_;refine aA (cK tb41 nE (.cons rfl rfl rfl (.cons .nil) (.cons rfl rfl rfl (.skip (.skip (.skip (.skip (.cons .nil))))) .nil))) rfl ?_;refine aA (bW jH rfl aM rfl rfl) rfl ?_;refine ol_s (bO (z0 := [.int .i64 0, .int .i64 0, .int .i64 0, .bool false, .slice none 0 0, .slice none 0 0, .int .i64 0, .int .i64 0, .int .i64 0, .int .i64 0, .bool false, .slice none 0 0, .slice none 0 0, .int .i64 0]) gZ tz41 rfl rfl rfl rfl (.cons rfl rfl rfl (.cons (.cons (.cons (.cons (.cons (.cons (.cons .nil))))))) (.cons rfl rfl rfl (.skip (.skip (.skip (.skip (.skip (.skip (.skip (.cons (.cons (.cons (.cons (.cons (.cons (.cons .nil)))))))))))))) .nil))) rfl ?_;rintro _ K _ ⟨b118, rfl, rfl, rfl⟩ -;refine bD rfl rfl (iZ b b118 vs [⟨9, 0, 0, false, ⟨.slice sa sn sc, rfl⟩, nilC, 0⟩, jmpV j] _ _ rfl (by simp; omega)) (.cons (.there (.there (.there .here))) (.cons .here .nil)) rfl ?_;rintro _ K _ ⟨rfl, rfl, rfl⟩ -;refine ol_s (bO (z0 := [.int .i64 0]) nX tz3 rfl rfl rfl rfl (.cons rfl rfl rfl (.cons .nil) .nil)) rfl ?_;rintro _ K _ ⟨b120, rfl, rfl, rfl⟩ -;refine aA (aF rfl) rfl ?_;refine aG (aE ?_);refine bM ?_;refine bQ ?_;refine bC ?_;refine aO (.cons .here (.cons .here .nil)) ?_;refine dV (gX (uG b120 3 (ops.length + 1) _ (by rw [List.length_append, hvl]; simp; omega))) ?_;refine bJ rfl rfl (Hl.le_refl _) ?_;unfold unl;exact ⟨_, rfl, _, RIs.append (RIs.two ⟨rfl, rfl, rfl, rfl, rfl, hA, m9 _⟩ (by rw [hj]; exact mS _ _)) hv, rfl⟩
theorem aN0 (tag n : Int) : UnlS (.siz tag n) := by
 intro hw b tn ty u vs ops K hr hv hl;cases (show [(_, u0)] = [(_, u0)] from hr)
 have hvl := hv.length;refine bB Tryz.func270 rfl Tryz.ntmps270 rfl rfl fun F w => ?_
 refine aI (aB ?_);refine aA (aF rfl) rfl ?_;refine aG (aE ?_);refine aI (aB ?_);refine aA (cK tb41 nE (.cons rfl rfl rfl (.cons .nil) .nil)) rfl ?_;refine ol_s (cO tz41) rfl ?_;rintro _ K _ ⟨b7, rfl, rfl, rfl⟩ -;refine bR (cH jH rfl rfl rfl a7 (by first | (simp [Value.oneCell']; done) | exact fun c hc => El.one _ _ c hc) (.cons (.cons (.cons (.cons (.cons (.cons (.cons .nil))))))) (by intro j hj; simp)) ?_;rintro _ K _ ⟨rfl, rfl⟩ -;refine aG (aE ?_);refine hO (fun (j : Int) => j = if tn = true then 4 else 5) (fun _ => [(0, ptr b), (1, .iface 300 (.agg #[i64 tag, i64 n])), (2, .bool tn), (7, ptr b7)]) (fun _ => K) (fun j => [pt b7 (aU [i64 j, i64 0, i64 0, .bool false, .slice none 0 0, .slice none 0 0, i64 0] 41), cdr b vs]) ?_ ?_
 ·
  refine aI (aB ?_);refine aA (aC rfl) rfl ?_;refine aG (aE ?_);refine eB 19 rfl (fun h19 => ?_) (fun h19 => ?_)
  ·
   refine aB ?_;refine aA (aD (o' := 0) iX rfl rfl) rfl ?_;refine bR (bI ts3 rfl rfl cG a7 .zero rfl) ?_;rintro _ K _ ⟨rfl, rfl⟩ -;refine aG ?_;exact bX _ (by rw [h19]; rfl) (.cons 0 rfl (.cons 1 rfl (.cons 2 rfl (.cons 7 rfl .nil)))) rfl (fun _ h => h)
  ·
   refine a6 ?_;exact bX _ (by rw [h19]; rfl) (.cons 0 rfl (.cons 1 rfl (.cons 2 rfl (.cons 7 rfl .nil)))) rfl (fun _ h => h)
 ·
  intro j hj;refine aI (aI ?_);refine aB ?_;refine aA (aC rfl) rfl ?_;refine aG (aE ?_);refine bF (aI ?_);refine aB ?_;refine aA (cX Tryz.underlying293 (fun _ h => by cases h) rfl aC1 rfl) rfl ?_;refine aA (aR rfl rfl) rfl ?_;refine aA (aR rfl rfl) rfl ?_;refine aG (aE ?_);refine cQ rfl ?_;refine aI (aB ?_);refine aA (cX Tryz.underlying289 (fun _ h => by cases h) rfl aF0 rfl) rfl ?_;refine aA (aR rfl rfl) rfl ?_;refine aA (aR rfl rfl) rfl ?_;refine aG (aE ?_);refine cQ rfl ?_;refine aI (aB ?_);refine aA (cX Tryz.underlying376 (fun _ h => by cases h) rfl aL3 rfl) rfl ?_;refine aA (aR rfl rfl) rfl ?_;refine aA (aR rfl rfl) rfl ?_;refine aG (aE ?_);refine cQ rfl ?_;refine aI (aB ?_);refine aA (cX Tryz.underlying380 (fun _ h => by cases h) rfl aOM rfl) rfl ?_;refine aA (aR rfl rfl) rfl ?_;refine aA (aR rfl rfl) rfl ?_;refine aG (aE ?_);refine cQ rfl ?_;refine aI (aB ?_);refine aA (cX Tryz.underlying297 (fun _ h => by cases h) rfl aRO rfl) rfl ?_;refine aA (aR rfl rfl) rfl ?_;refine aA (aR rfl rfl) rfl ?_;refine aG (aE ?_);refine cQ rfl ?_;refine aI (aB ?_);refine aA (eX Tryz.underlying300 (fun _ h => by cases h) rfl) rfl ?_;refine aA (aR rfl rfl) rfl ?_;refine aA (aR rfl rfl) rfl ?_;refine aG (aE ?_);refine eS rfl ?_;refine aI (aB ?_);refine ol_s (cO aRY) rfl ?_;rintro _ K _ ⟨b17, rfl, rfl, rfl⟩ -;refine bR (cH aNR rfl rfl rfl a7 (by first | (simp [Value.oneCell']; done) | exact fun c hc => El.one _ _ c hc) (.cons (.cons .nil)) (by intro j hj; simp)) ?_;rintro _ K _ ⟨rfl, rfl⟩ -;refine aG (aE ?_);refine aI (aB ?_);refine aA (aC rfl) rfl ?_;refine aA (aD (o' := 0) aIN rfl rfl) rfl ?_;refine aA (aK ts3 rfl aM rfl) rfl ?_;refine aA (aD (o' := 1) aIO rfl rfl) rfl ?_;refine aA (aK ts3 rfl aM rfl) rfl ?_;refine aA (cK tb41 nE (.cons rfl rfl rfl (.cons .nil) (.cons rfl rfl rfl (.skip (.skip (.cons .nil))) (.cons rfl rfl rfl (.skip (.cons .nil)) .nil)))) rfl ?_;refine aA (bW jH rfl aM rfl rfl) rfl ?_;refine ol_s (bO (z0 := [.int .i64 0, .int .i64 0, .int .i64 0, .bool false, .slice none 0 0, .slice none 0 0, .int .i64 0, .int .i64 0, .int .i64 0, .int .i64 0, .bool false, .slice none 0 0, .slice none 0 0, .int .i64 0]) gZ tz41 rfl rfl rfl rfl (.cons rfl rfl rfl (.cons (.cons (.cons (.cons (.cons (.cons (.cons .nil))))))) (.cons rfl rfl rfl (.skip (.skip (.skip (.skip (.skip (.skip (.skip (.cons (.cons (.cons (.cons (.cons (.cons (.cons .nil)))))))))))))) .nil))) rfl ?_;rintro _ K _ ⟨b131, rfl, rfl, rfl⟩ -;refine bD rfl rfl (iZ b b131 vs [⟨10, n, tag, false, nilC, nilC, 0⟩, jmpV j] _ _ rfl (by simp; omega)) (.cons (.there (.there (.there .here))) (.cons .here .nil)) rfl ?_;rintro _ K _ ⟨rfl, rfl, rfl⟩ -;refine ol_s (bO (z0 := [.int .i64 0]) nX tz3 rfl rfl rfl rfl (.cons rfl rfl rfl (.cons .nil) .nil)) rfl ?_;rintro _ K _ ⟨b133, rfl, rfl, rfl⟩ -;refine aA (aF rfl) rfl ?_;refine aG (aE ?_);refine bM ?_;refine bQ ?_;refine bC ?_;refine aO (.cons .here (.cons .here .nil)) ?_;refine dV (gX (uG b133 3 (ops.length + 1) _ (by rw [List.length_append, hvl]; simp; omega))) ?_;refine bJ rfl rfl (Hl.le_refl _) ?_;unfold unl;exact ⟨_, rfl, _, RIs.append (RIs.two ⟨rfl, rfl, rfl, rfl, rfl, m9 _, m9 _⟩ (by rw [hj]; exact mS _ _)) hv, rfl⟩
end Go.Proofs
end
section
namespace Go.Proofs
open Go Go.SL Go.Syn Go.Cmp
theorem aEQ {all tn : Bool} {t l : Tree} {ops : List Mach.Ins} {a h : List Nat} (hc : ¬ (all = tn ∧ f7 l = false)) : unlL all tn (.tcons t l) ops a h = unlL all tn l (unl t tn ops).1 (a ++ (unl t tn ops).2) h := by
 simp only [unlL]; rw [if_neg hc]
theorem aER {all tn : Bool} {t l : Tree} {ops : List Mach.Ins} {a h : List Nat} (hc : all = tn ∧ f7 l = false) : unlL all tn (.tcons t l) ops a h = unlL all tn l (unl t (!tn) ops).1 a (h ++ (unl t (!tn) ops).2) := by
 simp only [unlL]; rw [if_pos hc]
theorem aMM {t : Tree} (h : wf t 0 = true) : 1 ≤ cnt t := by
 cases t <;> simp only [wf, cnt] at h ⊢ <;> first | omega | (simp at h)
theorem aKV {K : Hl} : ∀ {l : Tree} {xs : List (Cell × Cell)}, wf l 1 = true → Rep K l xs → xs.length ≤ cnt l := by
 intro l;induction l with
 | tnil => intro xs _ h; cases (show xs = [] from h); simp
 | tcons t l ih1 ih2 =>
  rintro xs hw ⟨v, ys, h1, h2, rfl⟩;simp [wf] at hw;have := ih2 hw.2 h2;have := aMM hw.1;simp only [cnt, List.length_cons]; omega
 | _ => intro xs hw _; simp [wf] at hw
theorem aL7 (all : Bool) (l : Tree) (ih : UnlL l) : UnlS (.many all l) := by
  intro hw b tn ty u vs ops K hr hv hl;obtain ⟨xs, sv, hrl, hS, he⟩ := hr;obtain ⟨sa, sn, sc, rfl⟩ := hS.isSlice;cases he
  have hwl : wf l 1 = true := by simpa [wf] using hw
  have hxl := aKV hwl hrl;simp only [cnt] at hl;have hvl := hv.length;refine bB Tryz.func270 rfl Tryz.ntmps270 rfl rfl fun F w => ?_
  refine aI (aB ?_);refine aA (aF rfl) rfl ?_;refine aG (aE ?_);refine aI (aB ?_);refine aA (cK tb41 nE (.cons rfl rfl rfl (.cons .nil) .nil)) rfl ?_;refine ol_s (cO tz41) rfl ?_;rintro _ K _ ⟨b7, rfl, rfl, rfl⟩ -;refine bR (cH jH rfl rfl rfl a7 (by first | (simp [Value.oneCell']; done) | exact fun c hc => El.one _ _ c hc) (.cons (.cons (.cons (.cons (.cons (.cons (.cons .nil))))))) (by intro j hj; simp)) ?_;rintro _ K _ ⟨rfl, rfl⟩ -;refine aG (aE ?_);refine hO (fun (j : Int) => j = if tn = true then 4 else 5) (fun _ => [(0, ptr b), (1, .iface 376 (.agg #[.bool all, .slice sa sn sc])), (2, .bool tn), (7, ptr b7)]) (fun _ => K) (fun j => [pt b7 (aU [i64 j, i64 0, i64 0, .bool false, .slice none 0 0, .slice none 0 0, i64 0] 41), cdr b vs]) ?_ ?_
  ·
    refine aI (aB ?_);refine aA (aC rfl) rfl ?_;refine aG (aE ?_);refine eB 19 rfl (fun h19 => ?_) (fun h19 => ?_)
    ·
      refine aB ?_;refine aA (aD (o' := 0) iX rfl rfl) rfl ?_;refine bR (bI ts3 rfl rfl cG a7 .zero rfl) ?_;rintro _ K _ ⟨rfl, rfl⟩ -;refine aG ?_;exact bX _ (by rw [h19]; rfl) (.cons 0 rfl (.cons 1 rfl (.cons 2 rfl (.cons 7 rfl .nil)))) rfl (fun _ h => h)
    ·
      refine a6 ?_;exact bX _ (by rw [h19]; rfl) (.cons 0 rfl (.cons 1 rfl (.cons 2 rfl (.cons 7 rfl .nil)))) rfl (fun _ h => h)
  ·
    intro j hj;refine aI (aI ?_);refine aB ?_;refine aA (aC rfl) rfl ?_;refine aG (aE ?_);refine bF (aI ?_);refine aB ?_;refine aA (cX Tryz.underlying293 (fun _ h => by cases h) rfl aC1 rfl) rfl ?_;refine aA (aR rfl rfl) rfl ?_;refine aA (aR rfl rfl) rfl ?_;refine aG (aE ?_);refine cQ rfl ?_;refine aI (aB ?_);refine aA (cX Tryz.underlying289 (fun _ h => by cases h) rfl aF0 rfl) rfl ?_;refine aA (aR rfl rfl) rfl ?_;refine aA (aR rfl rfl) rfl ?_;refine aG (aE ?_);refine cQ rfl ?_;refine aI (aB ?_);refine aA (eX Tryz.underlying376 (fun _ h => by cases h) rfl) rfl ?_;refine aA (aR rfl rfl) rfl ?_;refine aA (aR rfl rfl) rfl ?_;refine aG (aE ?_);refine eS rfl ?_;refine aI (aB ?_);refine ol_s (cO aOS) rfl ?_;rintro _ K _ ⟨b10, rfl, rfl, rfl⟩ -;refine bR (cH aAQ rfl rfl rfl a7 (by first | (simp [Value.oneCell']; done) | exact fun c hc => El.one _ _ c hc) (.cons (.cons .nil)) (by intro j hj; simp)) ?_;rintro _ K _ ⟨rfl, rfl⟩ -;refine aG (aE ?_);refine aI (aB ?_);refine aA (aF rfl) rfl ?_;refine aA (aF rfl) rfl ?_;refine aG (aE ?_);refine aI (aI ?_);refine aB ?_;refine kS (eW (iM 3)) ?_;refine kS (eW (iM 3)) ?_;refine aA (aD (o' := 1) qH rfl rfl) rfl ?_;refine aA (aK aFZ rfl aM rfl) rfl ?_;refine aA (cE (k := (eJ 288)) rfl Tryz.underlying374 rfl aM) rfl ?_;refine aA (aC rfl) rfl ?_;refine aG (aE ?_);refine bF ?_;refine aFU (.cons (.there (.there .here)) (.cons .here (.cons .here (.cons (.there .here) .nil)))) ?_;refine aAN (fun (K2 : Hl) (i : Nat) (av hv2 : Value) (vs2 : List InsV) (aw he : List Nat) => K.le K2 ∧ i ≤ xs.length ∧ ∃ rest ops2, Rep K2 rest (xs.drop i) ∧ wf rest 1 = true ∧ UnlL rest ∧ RIs K2 vs2 ops2 ∧ unlL all tn l ops [] [] = unlL all tn rest ops2 aw he ∧ vs2.length + 2 * cnt rest ≤ 900000 ∧ aw.length + cnt rest ≤ 900000 ∧ he.length + cnt rest ≤ 900000) (fun _ i av hv2 _ _ _ => [(0, ptr b), (2, .bool tn), (10, ptr b10), (11, av), (12, hv2), (46, .slice sa sn sc), (47, i64 (xs.map Prod.fst).length), (48, i64 i)]) (fun K2 _ _ _ _ _ _ => K2) (fun _ _ av hv2 vs2 aw he => [pt b10 (aU [.bool all, .slice sa sn sc] 376), sl false (iM 3) av aw, sl false (iM 3) hv2 he, cdr b vs2]) (fun _ i _ _ _ _ _ => xs.length - i) K 0 _ _ vs [] [] ⟨Hl.le_refl _, Nat.zero_le _, l, ops, hrl, hwl, ih, hv, rfl, by omega, by simp; omega, by simp; omega⟩ (.cons 0 rfl (.cons 2 rfl (.cons 10 rfl (.cons 11 rfl (.cons 12 rfl (.cons 46 rfl (.cons 47 rfl (.cons 48 rfl .nil)))))))) rfl (fun _ h => h) ?_;intro K2 i av hv2 vs2 aw he ⟨leL, hi0, rest, ops2, hrr, hwr, ihr, hv2r, hx, hb1, hb2, hb3⟩;have hSl : Ksl (eJ 288) K2 (.slice sa sn sc) (xs.map Prod.fst) := hS.mono leL;have hml : (xs.map Prod.fst).length = xs.length := List.length_map _;refine aI (aB ?_);refine aA (dA rfl rfl) rfl ?_;refine aG (aE ?_);refine aI ?_;refine bE 49 rfl (fun h49 => ?_) (fun h49 => ?_)
    ·
      have hilt : i < xs.length := by omega
      obtain ⟨t1, l1, c, rfl, hrt, hrl1, hxi, hwt, hwl1⟩ := aHO hwr hrr hilt;obtain ⟨⟨cv, hcv⟩, hc⟩ : ∃ c2, c = c2 := ⟨_, rfl⟩;subst hc;obtain ⟨ty2, u2, hce⟩ := tB (.inl hwt) hrt;cases hce
      have hget : (xs.map Prod.fst)[i]? = some ⟨.iface ty2 u2, hcv⟩ := (by rw [List.getElem?_map, hxi]; rfl);simp only [cnt] at hb1 hb2 hb3;have hun := (uP t1).1;have hnil := aKX hwl1 hrl1;have hdl : (xs.drop (i + 1)).length = xs.length - (i + 1) := List.length_drop;have hv2l := hv2r.length;refine a6 ?_;refine aE (aI ?_);refine bF (aI ?_);refine aB ?_;refine aA (aC rfl) rfl ?_;refine aA (b0 (k := (eJ 288)) pK rfl aM rfl rfl (by first | assumption | omega)) rfl ?_;refine aA (dO (o := 0) (k := (eJ 288)) aC0 rfl aM bP rfl) rfl ?_;refine aA (aF rfl) rfl ?_;refine aA (aF rfl) rfl ?_;refine aG (aE ?_);refine bF (aI ?_);refine aB ?_;refine aA (aD (o' := 0) aIP rfl rfl) rfl ?_;refine aA (aK ts4 rfl aM rfl) rfl ?_;refine aA (aC rfl) rfl ?_;refine aA (aFE Tryz.underlying4 rfl rfl) rfl ?_;refine aA (aF rfl) rfl ?_;refine aG (aE ?_);refine eB 59 rfl (fun h59 => ?_) (fun h59 => ?_)
      ·
        refine aB ?_;refine aA (aC rfl) rfl ?_;refine aA (aC rfl) rfl ?_;refine aA (aC rfl) rfl ?_;refine aA (aC rfl) rfl ?_;refine bD rfl rfl (ihr.1 hwt b tn ty2 u2 vs2 ops2 _ hrt hv2r aH) (.cons (.there (.there (.there .here))) .nil) rfl ?_;rintro pv K3 _ ⟨vs3, hv3, rfl⟩ leM;have hu := hun tn ops2;refine ol_s (dQ (k := (iM 3)) (ys := (unl t1 tn ops2).2) oL rfl rfl (.there (.there (.there .here))) (fun w j => dN Tryz.underlying55 (SeesSl.at (k := iM 3) (.own .here) j)) (by first | (simp; omega) | omega) (by first | (simp; omega) | omega)) rfl ?_;rintro v69 K _ ⟨rfl, rfl, ho69⟩ -;refine aA (aF rfl) rfl ?_;refine aG (aN ?_);refine aN (aE ?_);refine aB ?_;refine aA (bZ rfl rfl aH aH) rfl ?_;refine aA (aC rfl) rfl ?_;refine aG ?_
        first
          | (have hcc : ¬ (all = tn ∧ f7 l1 = false) := (by first | exact (fun h => (show ¬ all = tn from by simpa using h59) h.1) | exact (fun h => by have := hnil.1 h.2; omega))
             refine aO (.cons (.there (.there (.there .here))) (.cons .here (.cons (.there (.there .here)) (.cons (.there .here) .nil)))) ?_;refine hU _ (i + 1) _ hv2 vs3 (aw ++ (unl t1 tn ops2).2) he ⟨Hl.le_trans leL leM, by omega, l1, _, hrl1.mono leM, hwl1, ihr.2, hv3, by rw [hx, aEQ hcc], by have := hv3.length; omega, by rw [List.length_append]; omega, by omega⟩ aH (.cons 0 rfl (.cons 2 rfl (.cons 10 rfl (.cons 11 rfl (.cons 12 rfl (.cons 46 rfl (.cons 47 rfl (.cons 48 rfl .nil)))))))) rfl bG)
          | (have hcc : all = tn ∧ f7 l1 = false := ⟨by simpa using h59, hnil.2 aH⟩
             refine aO (.cons (.there (.there (.there .here))) (.cons (.there (.there (.there .here))) (.cons .here (.cons (.there .here) .nil)))) ?_;refine hU _ (i + 1) av _ vs3 aw (he ++ (unl t1 (!tn) ops2).2) ⟨Hl.le_trans leL leM, by omega, l1, _, hrl1.mono leM, hwl1, ihr.2, hv3, by rw [hx, aER hcc], by have := hv3.length; omega, by omega, by rw [List.length_append]; omega⟩ aH (.cons 0 rfl (.cons 2 rfl (.cons 10 rfl (.cons 11 rfl (.cons 12 rfl (.cons 46 rfl (.cons 47 rfl (.cons 48 rfl .nil)))))))) rfl bG)
      ·
        refine aI (aB ?_);refine aA (aC rfl) rfl ?_;refine aA (aD (o' := 1) qH rfl rfl) rfl ?_;refine aA (aK aFZ rfl aM rfl) rfl ?_;refine aA (cE (k := (eJ 288)) rfl Tryz.underlying374 rfl aM) rfl ?_;refine aA (nH rfl rfl aH aH) rfl ?_;refine aA (dA rfl rfl) rfl ?_;refine aA (aF rfl) rfl ?_;refine aG (aE ?_);refine bE 70 rfl (fun h70 => ?_) (fun h70 => ?_)
        ·
          refine aB ?_;refine aA (aC rfl) rfl ?_;refine aA (aC rfl) rfl ?_;refine aA (aC rfl) rfl ?_;refine aA (aC rfl) rfl ?_;refine aA (by first | exact dM rfl | exact dU rfl) rfl ?_;refine bD rfl rfl (ihr.1 hwt b (!tn) ty2 u2 vs2 ops2 _ hrt hv2r aH) (.cons (.there (.there (.there .here))) .nil) rfl ?_;rintro pv K3 _ ⟨vs3, hv3, rfl⟩ leM;have hu := hun (!tn) ops2;refine ol_s (dQ (k := (iM 3)) (ys := (unl t1 (!tn) ops2).2) oL rfl rfl (.there (.there (.there (.there .here)))) (fun w j => dN Tryz.underlying55 (SeesSl.at (k := iM 3) (.own .here) j)) (by first | (simp; omega) | omega) (by first | (simp; omega) | omega)) rfl ?_;rintro v83 K _ ⟨rfl, rfl, ho83⟩ -;refine aA (aF rfl) rfl ?_;refine aG (aN ?_);refine aN (aE ?_);refine aB ?_;refine aA (bZ rfl rfl aH aH) rfl ?_;refine aA (aC rfl) rfl ?_;refine aG ?_
          first
            | (have hcc : ¬ (all = tn ∧ f7 l1 = false) := (by first | exact (fun h => (show ¬ all = tn from by simpa using h59) h.1) | exact (fun h => by have := hnil.1 h.2; omega))
               refine aO (.cons (.there (.there (.there .here))) (.cons .here (.cons (.there (.there .here)) (.cons (.there .here) .nil)))) ?_;refine hU _ (i + 1) _ hv2 vs3 (aw ++ (unl t1 tn ops2).2) he ⟨Hl.le_trans leL leM, by omega, l1, _, hrl1.mono leM, hwl1, ihr.2, hv3, by rw [hx, aEQ hcc], by have := hv3.length; omega, by rw [List.length_append]; omega, by omega⟩ aH (.cons 0 rfl (.cons 2 rfl (.cons 10 rfl (.cons 11 rfl (.cons 12 rfl (.cons 46 rfl (.cons 47 rfl (.cons 48 rfl .nil)))))))) rfl bG)
            | (have hcc : all = tn ∧ f7 l1 = false := ⟨by simpa using h59, hnil.2 aH⟩
               refine aO (.cons (.there (.there (.there .here))) (.cons (.there (.there (.there .here))) (.cons .here (.cons (.there .here) .nil)))) ?_;refine hU _ (i + 1) av _ vs3 aw (he ++ (unl t1 (!tn) ops2).2) ⟨Hl.le_trans leL leM, by omega, l1, _, hrl1.mono leM, hwl1, ihr.2, hv3, by rw [hx, aER hcc], by have := hv3.length; omega, by omega, by rw [List.length_append]; omega⟩ aH (.cons 0 rfl (.cons 2 rfl (.cons 10 rfl (.cons 11 rfl (.cons 12 rfl (.cons 46 rfl (.cons 47 rfl (.cons 48 rfl .nil)))))))) rfl bG)
        ·
          refine aB ?_;refine aA (aC rfl) rfl ?_;refine aA (aC rfl) rfl ?_;refine aA (aC rfl) rfl ?_;refine aA (aC rfl) rfl ?_;refine bD rfl rfl (ihr.1 hwt b tn ty2 u2 vs2 ops2 _ hrt hv2r aH) (.cons (.there (.there (.there .here))) .nil) rfl ?_;rintro pv K3 _ ⟨vs3, hv3, rfl⟩ leM;have hu := hun tn ops2;refine ol_s (dQ (k := (iM 3)) (ys := (unl t1 tn ops2).2) oL rfl rfl (.there (.there (.there .here))) (fun w j => dN Tryz.underlying55 (SeesSl.at (k := iM 3) (.own .here) j)) (by first | (simp; omega) | omega) (by first | (simp; omega) | omega)) rfl ?_;rintro v58 K _ ⟨rfl, rfl, ho58⟩ -;refine aA (aF rfl) rfl ?_;refine aG (aN ?_);refine aN (aE ?_);refine aB ?_;refine aA (bZ rfl rfl aH aH) rfl ?_;refine aA (aC rfl) rfl ?_;refine aG ?_
          first
            | (have hcc : ¬ (all = tn ∧ f7 l1 = false) := (by first | exact (fun h => (show ¬ all = tn from by simpa using h59) h.1) | exact (fun h => by have := hnil.1 h.2; omega))
               refine aO (.cons (.there (.there (.there .here))) (.cons .here (.cons (.there (.there .here)) (.cons (.there .here) .nil)))) ?_;refine hU _ (i + 1) _ hv2 vs3 (aw ++ (unl t1 tn ops2).2) he ⟨Hl.le_trans leL leM, by omega, l1, _, hrl1.mono leM, hwl1, ihr.2, hv3, by rw [hx, aEQ hcc], by have := hv3.length; omega, by rw [List.length_append]; omega, by omega⟩ aH (.cons 0 rfl (.cons 2 rfl (.cons 10 rfl (.cons 11 rfl (.cons 12 rfl (.cons 46 rfl (.cons 47 rfl (.cons 48 rfl .nil)))))))) rfl bG)
            | (have hcc : all = tn ∧ f7 l1 = false := ⟨by simpa using h59, hnil.2 aH⟩
               refine aO (.cons (.there (.there (.there .here))) (.cons (.there (.there (.there .here))) (.cons .here (.cons (.there .here) .nil)))) ?_;refine hU _ (i + 1) av _ vs3 aw (he ++ (unl t1 (!tn) ops2).2) ⟨Hl.le_trans leL leM, by omega, l1, _, hrl1.mono leM, hwl1, ihr.2, hv3, by rw [hx, aER hcc], by have := hv3.length; omega, by omega, by rw [List.length_append]; omega⟩ aH (.cons 0 rfl (.cons 2 rfl (.cons 10 rfl (.cons 11 rfl (.cons 12 rfl (.cons 46 rfl (.cons 47 rfl (.cons 48 rfl .nil)))))))) rfl bG)
    ·
      have hend : unlL all tn l ops [] [] = (ops2, aw, he) := (by rw [hx]; exact aKS hwr hrr (List.drop_eq_nil_of_le aH));have hpl := ((uP l).2 all tn ops [] [] (by simp) (by simp));rw [hend] at hpl;simp only [List.length_nil] at hpl;have hv2l := hv2r.length;refine cY ?_;refine aV ?_;refine aV ?_;refine bL ?_;refine aE (aI ?_);refine aB ?_;refine aA (aC rfl) rfl ?_;refine aA (aC rfl) rfl ?_;refine bD rfl rfl (nN b hv2 vs2 he _ aH aH (fun k hk => by have := hpl.2.2.2.2.2 k hk; omega)) (.cons (.there (.there (.there .here))) (.cons (.there (.there .here)) .nil)) rfl ?_;rintro _ K _ ⟨rfl, rfl, rfl⟩ -;refine aG (aE ?_);refine aI (aB ?_);refine aA (aC rfl) rfl ?_;refine aA (aF rfl) rfl ?_;refine aG (aE ?_);refine bM ?_;refine bQ ?_;refine bC ?_;refine aO (.cons (.there (.there .here)) (.cons .here .nil)) ?_;refine bJ rfl rfl leL ?_;have e : unl (.many all l) tn ops = (land ops2 he, aw) := (by simp only [unl, hend]);rw [e];exact ⟨_, rfl, _, hv2r.land, rfl⟩
theorem aNV : ∀ (t : Tree), UnlS t ∧ UnlL t := by
 intro t;induction t with
 | const p => exact ⟨aIT p, trivial⟩
 | not_ t ih => exact ⟨aNZ t ih.1, trivial⟩
 | many all l ih => exact ⟨aL7 all l ih.2, trivial⟩
 | mat tag oct op a b => exact ⟨aNY tag oct op a b, trivial⟩
 | exi a => exact ⟨aNW a, trivial⟩
 | siz tag n => exact ⟨aN0 tag n, trivial⟩
 | tcons t l ih1 ih2 => exact ⟨fun h => by simp [wf] at h, ih1.1, ih2.2⟩
 | _ => exact ⟨fun h => by simp [wf] at h, trivial⟩
end Go.Proofs
end
section
namespace Go.Proofs
open Go Go.SL Go.Syn Go.Cmp
theorem aHL {K : Hl} {rest : Tree} {xs : List (Cell × Cell)} {i : Nat} (hw : wf rest 3 = true) (hr : Rep K rest (xs.drop i)) (hi : i < xs.length) :
  ∃ t l c, rest = .ccons t l ∧ Rep K t [(c, u0)] ∧ Rep K l (xs.drop (i + 1)) ∧ xs[i]? = some (c, u0) ∧ wf t 2 = true ∧ wf l 3 = true := by
 have hd : xs.drop i ≠ [] := by intro h; have := congrArg List.length h; simp at this; omega
 cases rest <;> simp only [wf, Rep] at hw hr
 case cnil => exact absurd hr hd
 case ccons t l =>
  obtain ⟨c, ys, h1, h2, h3⟩ := hr;simp at hw;have e : xs.drop (i + 1) = ys := by rw [← List.drop_drop, h3]; rfl
  refine ⟨t, l, c, rfl, h1, by rw [e]; exact h2, ?_, hw.1, hw.2⟩
  have := List.getElem?_drop (xs := xs) (i := i) (j := 0);rw [h3] at this; simpa using this.symm
 all_goals simp at hw
theorem aKR {K : Hl} {rest : Tree} {ys : List (Cell × Cell)} (hw : wf rest 3 = true) (hr : Rep K rest ys) (he : ys = []) {ops : List Mach.Ins} : body rest ops = ops := by
 cases rest <;> simp only [wf, Rep] at hw hr
 case cnil => simp [body]
 case ccons t l => obtain ⟨c, zs, _, _, rfl⟩ := hr; cases he
 all_goals simp at hw
theorem aM7 {K : Hl} {c : Tree} {ty : TypeId} {u : Value} {hc : (Value.iface ty u).oneCell' = true} (hw : wf c 2 = true) (h : Rep K c [(⟨.iface ty u, hc⟩, u0)]) :
  (∃ op, c = .plain op ∧ ty = 285 ∧ u = .agg #[i64 op]) ∨ (∃ k a p, c = .act k a p ∧ ty = 282 ∧ u = .agg #[i64 k, str a, i64 p]) ∨ (∃ n v t, c = .set_ n v t ∧ ty = 308 ∧ u = .agg #[str n, str v, i64 t]) ∨
  (∃ bs ys sa sn sc, c = .iff bs ∧ ty = 311 ∧ u = .agg #[.slice sa sn sc] ∧ Rep K bs ys ∧ Ksl (hG 371) K (.slice sa sn sc) ys ∧ wf bs 4 = true) := by
 cases c <;> simp only [wf, Rep] at hw h
 case plain op => cases h; exact .inl ⟨op, rfl, rfl, rfl⟩
 case act k a p => cases h; exact .inr (.inl ⟨k, a, p, rfl, rfl, rfl⟩)
 case set_ n v t => cases h; exact .inr (.inr (.inl ⟨n, v, t, rfl, rfl, rfl⟩))
 case iff bs =>
  obtain ⟨ys, sv, h1, h2, h3⟩ := h;obtain ⟨sa, sn, sc, rfl⟩ := h2.isSlice;cases h3
  exact .inr (.inr (.inr ⟨bs, ys, sa, sn, sc, rfl, rfl, rfl, h1, h2, by simpa using hw⟩))
 all_goals simp at hw
theorem RIs.one_ {K : Hl} {x : InsV} {o : Mach.Ins} (h1 : RIns K x o) : RIs K [x] [o] := ⟨h1, trivial⟩
abbrev aN4 (b : Nat) (r : List Mach.Ins) : Ending → Hl → List Asn → Prop := Ret fun v K' L' => v = .tuple #[] ∧ ∃ vs', RIs K' vs' r ∧ L' = [cdr b vs']
def aE4 (l : Tree) : Prop := wf l 3 = true → ∀ (b : Nat) (sv : Value) (xs : List (Cell × Cell)) (vs : List InsV) (ops : List Mach.Ins) (K : Hl), Rep K l xs → Ksl (eJ 224) K sv (xs.map Prod.fst) → RIs K vs ops → vs.length + 2 * cnt l ≤ 900000 → Sp Tryz.prog 107 [ptr b, sv] K [cdr b vs] (aN4 b (body l ops))
def BrS (l : Tree) : Prop := wf l 4 = true → ∀ (b : Nat) (sa : Option Addr) (sn sc : Nat) (xs : List (Cell × Cell)) (vs : List InsV) (ops : List Mach.Ins) (K : Hl), Rep K l xs → Ksl (hG 371) K (.slice sa sn sc) xs → RIs K vs ops → vs.length + 2 * cnt l ≤ 900000 → Sp Tryz.prog 194 [ptr b, .agg #[.slice sa sn sc]] K [cdr b vs] (aN4 b (cW l ops []))
def aN5 : Tree → Prop
 | .iff bs => BrS bs
 | _ => True
def aE3 : Tree → Prop
 | .ccons c l => aN5 c ∧ aE3 l
 | _ => True
theorem aI9 {t : Tree} (h : wf t 2 = true) : 1 ≤ cnt t := by
 cases t <;> simp only [wf, cnt] at h ⊢ <;> first | omega | (simp at h)
theorem aKU {K : Hl} : ∀ {l : Tree} {xs : List (Cell × Cell)}, wf l 3 = true → Rep K l xs → xs.length ≤ cnt l := by
 intro l;induction l with
 | cnil => intro xs _ h; cases (show xs = [] from h); simp
 | ccons t l ih1 ih2 =>
  rintro xs hw ⟨v, ys, h1, h2, rfl⟩;simp [wf] at hw;have := ih2 hw.2 h2;have := aI9 hw.1;simp only [cnt, List.length_cons]; omega
 | _ => intro xs hw _; simp [wf] at hw
theorem aBA (l : Tree) (ih : aE3 l) : aE4 l := by
 intro hw b sv xs vs ops K hr hS hv hl;have hxl := aKU hw hr;refine bB Tryz.func107 rfl Tryz.ntmps107 rfl rfl fun F w => ?_
 have hml : (xs.map Prod.fst).length = xs.length := List.length_map _;refine aI (aB ?_);refine aA (aC rfl) rfl ?_;refine aA (cE (k := (eJ 224)) rfl Tryz.underlying135 rfl aM) rfl ?_;refine aA (aC rfl) rfl ?_;refine aG (aE ?_);refine bF ?_;refine uN (fun (K2 : Hl) (i : Nat) (vs2 : List InsV) => K.le K2 ∧ i ≤ xs.length ∧ ∃ rest ops2, Rep K2 rest (xs.drop i) ∧ wf rest 3 = true ∧ aE3 rest ∧ RIs K2 vs2 ops2 ∧ body l ops = body rest ops2 ∧ vs2.length + 2 * cnt rest ≤ 900000) (fun _ i _ => [(0, ptr b), (11, sv), (12, i64 (xs.map Prod.fst).length), (13, i64 i)]) (fun K2 _ _ => K2) (fun _ _ vs2 => [cdr b vs2]) (fun _ i _ => xs.length - i) K 0 vs ⟨Hl.le_refl _, Nat.zero_le _, l, ops, hr, hw, ih, hv, rfl, hl⟩ (.cons 0 rfl (.cons 11 rfl (.cons 12 rfl (.cons 13 rfl .nil)))) rfl (fun _ h => h) ?_;intro K2 i vs2 ⟨leL, hi0, rest, ops2, hrr, hwr, ihr, hv2, hx, hb⟩;have hSl : Ksl (eJ 224) K2 sv (xs.map Prod.fst) := hS.mono leL;have hv2l := hv2.length;refine aI (aB ?_);refine aA (dA rfl rfl) rfl ?_;refine aG (aE ?_);refine aI ?_;refine bE 14 rfl (fun h14 => ?_) (fun h14 => ?_)
 ·
  have hilt : i < xs.length := by omega
  obtain ⟨c, l1, cc, rfl, hrt, hrl1, hxi, hwt, hwl1⟩ := aHL hwr hrr hilt;obtain ⟨⟨cv, hcv⟩, hc⟩ : ∃ c2, cc = c2 := ⟨_, rfl⟩;subst hc;obtain ⟨ty2, u2, hce⟩ := tB (.inr hwt) hrt;cases hce
  have hget : (xs.map Prod.fst)[i]? = some ⟨.iface ty2 u2, hcv⟩ := (by rw [List.getElem?_map, hxi]; rfl);simp only [cnt] at hb;have hcl := (rU c).2.1 ops2;refine a6 ?_;refine aE (aI ?_);refine bF (aI ?_);refine aB ?_;refine aA (b0 (k := (eJ 224)) uA rfl aM rfl rfl (by first | assumption | omega)) rfl ?_;refine aA (dO (o := 0) (k := (eJ 224)) aRK rfl aM bP rfl) rfl ?_;refine aA (aF rfl) rfl ?_;refine aG (aE ?_);rcases aM7 hwt hrt with ⟨op, rfl, rfl, rfl⟩ | ⟨k, a, p, rfl, rfl, rfl⟩ | ⟨n, v, t, rfl, rfl, rfl⟩ | ⟨bs, ys, sa, sn, sc, rfl, rfl, rfl, hrb, hSb, hwb⟩
  ·
   refine aI (aB ?_);refine aA (aC rfl) rfl ?_;refine aG (aE ?_);refine bF (aI ?_);refine aB ?_;refine aA (eX Tryz.underlying285 (fun _ h => by cases h) rfl) rfl ?_;refine aA (aR rfl rfl) rfl ?_;refine aA (aR rfl rfl) rfl ?_;refine aG (aE ?_);refine eS rfl ?_;refine aI (aB ?_);refine ol_s (cO aRV) rfl ?_;rintro _ K _ ⟨b6, rfl, rfl, rfl⟩ -;refine bR (cH aNO rfl rfl rfl a7 (by first | (simp [Value.oneCell']; done) | exact fun c hc => El.one _ _ c hc) (.cons .nil) (by intro j hj; simp)) ?_;rintro _ K _ ⟨rfl, rfl⟩ -;refine aG (aE ?_);refine aB ?_;refine aA (aC rfl) rfl ?_;refine aA (aD (o' := 0) aIK rfl rfl) rfl ?_;refine aA (aK ts3 rfl aM rfl) rfl ?_;refine aA (cK tb41 nE (.cons rfl rfl rfl (.cons .nil) .nil)) rfl ?_;refine ol_s (bO (z0 := [.int .i64 0, .int .i64 0, .int .i64 0, .bool false, .slice none 0 0, .slice none 0 0, .int .i64 0]) gZ tz41 rfl rfl rfl rfl (.cons rfl rfl rfl (.cons (.cons (.cons (.cons (.cons (.cons (.cons .nil))))))) .nil)) rfl ?_;rintro _ K _ ⟨b25, rfl, rfl, rfl⟩ -;refine bD rfl rfl (iZ b b25 vs2 [jmpV op] _ _ rfl (by simp only [cnt] at hb; simp; omega)) (.cons (.there (.there .here)) (.cons .here .nil)) rfl ?_;rintro _ K _ ⟨rfl, rfl, rfl⟩ -;have hv3 : RIs _ _ (cmdI (.plain op) ops2) := RIs.append (ws := [jmpV op]) (ps := [jmp op]) ⟨mS _ _, trivial⟩ hv2;have leM := Hl.le_refl K;refine aG (aN ?_);refine aN (aE ?_);refine aB ?_;refine aA (bZ rfl rfl aH aH) rfl ?_;refine aA (aC rfl) rfl ?_;refine aG ?_;refine aO (.cons .here .nil) ?_;refine iR _ (i + 1) _ ⟨Hl.le_trans leL leM, by omega, l1, _, hrl1.mono leM, hwl1, ihr.2, hv3, by rw [hx]; simp only [body, cmdI], by have := hv3.length; simp only [cmdI] at this hcl; omega⟩ aH (.cons 0 rfl (.cons 11 rfl (.cons 12 rfl (.cons 13 rfl .nil)))) rfl bG
  ·
   refine aI (aB ?_);refine aA (aC rfl) rfl ?_;refine aG (aE ?_);refine bF (aI ?_);refine aB ?_;refine aA (cX Tryz.underlying285 (fun _ h => by cases h) rfl aL1 rfl) rfl ?_;refine aA (aR rfl rfl) rfl ?_;refine aA (aR rfl rfl) rfl ?_;refine aG (aE ?_);refine cQ rfl ?_;refine aI (aB ?_);refine aA (eX Tryz.underlying282 (fun _ h => by cases h) rfl) rfl ?_;refine aA (aR rfl rfl) rfl ?_;refine aA (aR rfl rfl) rfl ?_;refine aG (aE ?_);refine eS rfl ?_;refine aI (aB ?_);refine ol_s (cO aRU) rfl ?_;rintro _ K _ ⟨b7, rfl, rfl, rfl⟩ -;refine bR (cH aNN rfl rfl rfl a7 (by first | (simp [Value.oneCell']; done) | exact fun c hc => El.one _ _ c hc) (.cons (.cons (.cons .nil))) (by intro j hj; simp)) ?_;rintro _ K _ ⟨rfl, rfl⟩ -;refine aG (aE ?_);refine aI (aB ?_);refine aA (aD (o' := 0) yS rfl rfl) rfl ?_;refine aA (aK ts3 rfl aM rfl) rfl ?_;refine aA (aD (o' := 2) aIJ rfl rfl) rfl ?_;refine aA (aK ts3 rfl aM rfl) rfl ?_;refine aA (cK tb41 nE (.cons rfl rfl rfl (.cons .nil) (.cons rfl rfl rfl (.skip (.skip (.cons .nil))) (.cons rfl rfl rfl (.skip (.skip (.skip (.skip (.skip (.skip (.cons .nil))))))) .nil)))) rfl ?_;refine ol_s (cO tz41) rfl ?_;rintro _ K _ ⟨b8, rfl, rfl, rfl⟩ -;refine bR (cH jH rfl rfl rfl a7 (by first | (simp [Value.oneCell']; done) | exact fun c hc => El.one _ _ c hc) (.cons (.cons (.cons (.cons (.cons (.cons (.cons .nil))))))) (by intro j hj; simp)) ?_;rintro _ K _ ⟨rfl, rfl⟩ -;refine aG (aE ?_);refine aI (aI ?_);refine aB ?_;refine aA (aD (o' := 0) yS rfl rfl) rfl ?_;refine aA (aK ts3 rfl aM rfl) rfl ?_;refine aA (fO rfl rfl) rfl ?_;refine aG (aE ?_);refine bE 37 rfl (fun h37 => ?_) (fun h37 => ?_)
   ·
    refine aB ?_;refine aA (aD (o' := 1) aII rfl rfl) rfl ?_;refine aA (aK ts9 rfl aM rfl) rfl ?_;refine ol_s (bO (z0 := [(str [])]) cT tz9 rfl rfl rfl rfl (.cons rfl rfl rfl (.cons .nil) .nil)) rfl ?_;rintro _ K _ ⟨b40, rfl, rfl, rfl⟩ -;refine e7 fun K3 leM hb40 => ?_
    refine aA (aD (o' := 4) jN rfl rfl) rfl ?_;refine bR (bI ts39 rfl rfl cG a7 (.succ (.succ (.succ (.succ .zero)))) rfl) ?_;rintro _ K _ ⟨rfl, rfl⟩ -;refine aG (aE ?_);refine aB ?_;refine aA (aC rfl) rfl ?_;refine aA (bW jH rfl aM rfl rfl) rfl ?_;refine ol_s (bO (z0 := [.int .i64 0, .int .i64 0, .int .i64 0, .bool false, .slice none 0 0, .slice none 0 0, .int .i64 0]) gZ tz41 rfl rfl rfl rfl (.cons rfl rfl rfl (.cons (.cons (.cons (.cons (.cons (.cons (.cons .nil))))))) .nil)) rfl ?_;rintro _ K _ ⟨b44, rfl, rfl, rfl⟩ -;refine bD rfl rfl (iZ b b44 vs2 [⟨11, 0, k, false, ⟨.slice (some ⟨b40, 0, none⟩) 1 1, rfl⟩, nilC, p⟩] _ _ rfl (by simp only [cnt] at hb; simp; omega)) (.cons (.there (.there (.there .here))) (.cons .here .nil)) rfl ?_;rintro _ K _ ⟨rfl, rfl, rfl⟩ -;have hv3 : RIs _ _ (cmdI (.act k a p) ops2) := (by simp only [cmdI]; rw [if_neg h37]; exact RIs.append (RIs.one_ (x := ⟨11, 0, k, false, ⟨.slice (some ⟨b40, 0, none⟩) 1 1, rfl⟩, nilC, p⟩) ⟨rfl, rfl, rfl, rfl, rfl, .inr ⟨b40, 0, 1, [str a], (0, 0), rfl, ⟨_, hb40⟩, rfl⟩, m9 _⟩) (hv2.mono leM));refine aG (aN ?_);refine aN (aE ?_);refine aB ?_;refine aA (bZ rfl rfl aH aH) rfl ?_;refine aA (aC rfl) rfl ?_;refine aG ?_;refine aO (.cons .here .nil) ?_;refine iR _ (i + 1) _ ⟨Hl.le_trans leL leM, by omega, l1, _, hrl1.mono leM, hwl1, ihr.2, hv3, by rw [hx]; simp only [body, cmdI], by have := hv3.length; simp only [cmdI] at this hcl; omega⟩ aH (.cons 0 rfl (.cons 11 rfl (.cons 12 rfl (.cons 13 rfl .nil)))) rfl bG
   ·
    refine a6 ?_;refine aE (aB ?_);refine aA (aC rfl) rfl ?_;refine aA (bW jH rfl aM rfl rfl) rfl ?_;refine ol_s (bO (z0 := [.int .i64 0, .int .i64 0, .int .i64 0, .bool false, .slice none 0 0, .slice none 0 0, .int .i64 0]) gZ tz41 rfl rfl rfl rfl (.cons rfl rfl rfl (.cons (.cons (.cons (.cons (.cons (.cons (.cons .nil))))))) .nil)) rfl ?_;rintro _ K _ ⟨b44, rfl, rfl, rfl⟩ -;refine bD rfl rfl (iZ b b44 vs2 [⟨11, 0, k, false, nilC, nilC, p⟩] _ _ rfl (by simp only [cnt] at hb; simp; omega)) (.cons (.there (.there (.there .here))) (.cons .here .nil)) rfl ?_;rintro _ K _ ⟨rfl, rfl, rfl⟩ -;have leM := Hl.le_refl K;have hv3 : RIs _ _ (cmdI (.act k a p) ops2) := (by simp only [cmdI]; rw [if_pos (Classical.not_not.1 h37)]; exact RIs.append (RIs.one_ (x := ⟨11, 0, k, false, nilC, nilC, p⟩) ⟨rfl, rfl, rfl, rfl, rfl, m9 _, m9 _⟩) hv2);refine aG (aN ?_);refine aN (aE ?_);refine aB ?_;refine aA (bZ rfl rfl aH aH) rfl ?_;refine aA (aC rfl) rfl ?_;refine aG ?_;refine aO (.cons .here .nil) ?_;refine iR _ (i + 1) _ ⟨Hl.le_trans leL leM, by omega, l1, _, hrl1.mono leM, hwl1, ihr.2, hv3, by rw [hx]; simp only [body, cmdI], by have := hv3.length; simp only [cmdI] at this hcl; omega⟩ aH (.cons 0 rfl (.cons 11 rfl (.cons 12 rfl (.cons 13 rfl .nil)))) rfl bG
  ·
   refine aI (aB ?_);refine aA (aC rfl) rfl ?_;refine aG (aE ?_);refine bF (aI ?_);refine aB ?_;refine aA (cX Tryz.underlying285 (fun _ h => by cases h) rfl aL1 rfl) rfl ?_;refine aA (aR rfl rfl) rfl ?_;refine aA (aR rfl rfl) rfl ?_;refine aG (aE ?_);refine cQ rfl ?_;refine aI (aB ?_);refine aA (cX Tryz.underlying282 (fun _ h => by cases h) rfl aOL rfl) rfl ?_;refine aA (aR rfl rfl) rfl ?_;refine aA (aR rfl rfl) rfl ?_;refine aG (aE ?_);refine cQ rfl ?_;refine aI (aB ?_);refine aA (eX Tryz.underlying308 (fun _ h => by cases h) rfl) rfl ?_;refine aA (aR rfl rfl) rfl ?_;refine aA (aR rfl rfl) rfl ?_;refine aG (aE ?_);refine eS rfl ?_;refine aI (aB ?_);refine ol_s (cO aOQ) rfl ?_;rintro _ K _ ⟨b9, rfl, rfl, rfl⟩ -;refine bR (cH aAP rfl rfl rfl a7 (by first | (simp [Value.oneCell']; done) | exact fun c hc => El.one _ _ c hc) (.cons (.cons (.cons .nil))) (by intro j hj; simp)) ?_;rintro _ K _ ⟨rfl, rfl⟩ -;refine aG (aE ?_);refine aB ?_;refine aA (aC rfl) rfl ?_;refine aA (aD (o' := 2) tI rfl rfl) rfl ?_;refine aA (aK ts3 rfl aM rfl) rfl ?_;refine aA (aD (o' := 0) yT rfl rfl) rfl ?_;refine aA (aK ts9 rfl aM rfl) rfl ?_;refine ol_s (bO (z0 := [(str [])]) cT tz9 rfl rfl rfl rfl (.cons rfl rfl rfl (.cons .nil) .nil)) rfl ?_;rintro _ K _ ⟨b54, rfl, rfl, rfl⟩ -;refine aA (aD (o' := 1) yU rfl rfl) rfl ?_;refine aA (aK ts9 rfl aM rfl) rfl ?_;refine ol_s (bO (z0 := [(str [])]) cT tz9 rfl rfl rfl rfl (.cons rfl rfl rfl (.cons .nil) .nil)) rfl ?_;rintro _ K _ ⟨b57, rfl, rfl, rfl⟩ -;refine e7 fun K3 leM1 hb57 => ?_
   refine e7 fun K4 leM2 hb54 => ?_
   have leM := Hl.le_trans leM1 leM2;have hb57 := leM2 _ _ hb57;refine aA (cK tb41 nE (.cons rfl rfl rfl (.cons .nil) (.cons rfl rfl rfl (.skip (.skip (.cons .nil))) (.cons rfl rfl rfl (.skip (.skip (.skip (.skip (.cons .nil))))) (.cons rfl rfl rfl (.skip (.skip (.skip (.skip (.skip (.cons .nil)))))) .nil))))) rfl ?_;refine ol_s (bO (z0 := [.int .i64 0, .int .i64 0, .int .i64 0, .bool false, .slice none 0 0, .slice none 0 0, .int .i64 0]) gZ tz41 rfl rfl rfl rfl (.cons rfl rfl rfl (.cons (.cons (.cons (.cons (.cons (.cons (.cons .nil))))))) .nil)) rfl ?_;rintro _ K _ ⟨b59, rfl, rfl, rfl⟩ -;refine bD rfl rfl (iZ b b59 vs2 [⟨12, 0, t, false, ⟨.slice (some ⟨b54, 0, none⟩) 1 1, rfl⟩, ⟨.slice (some ⟨b57, 0, none⟩) 1 1, rfl⟩, 0⟩] _ _ rfl (by simp only [cnt] at hb; simp; omega)) (.cons (.there (.there .here)) (.cons .here .nil)) rfl ?_;rintro _ K _ ⟨rfl, rfl, rfl⟩ -;have hv3 : RIs _ _ (cmdI (.set_ n v t) ops2) := RIs.append (RIs.one_ (x := ⟨12, 0, t, false, ⟨.slice (some ⟨b54, 0, none⟩) 1 1, rfl⟩, ⟨.slice (some ⟨b57, 0, none⟩) 1 1, rfl⟩, 0⟩) ⟨rfl, rfl, rfl, rfl, rfl, .inr ⟨b54, 0, 1, [str n], (0, 0), rfl, ⟨_, hb54⟩, rfl⟩, .inr ⟨b57, 0, 1, [str v], (0, 0), rfl, ⟨_, hb57⟩, rfl⟩⟩) (hv2.mono leM);refine aG (aN ?_);refine aN (aE ?_);refine aB ?_;refine aA (bZ rfl rfl aH aH) rfl ?_;refine aA (aC rfl) rfl ?_;refine aG ?_;refine aO (.cons .here .nil) ?_;refine iR _ (i + 1) _ ⟨Hl.le_trans leL leM, by omega, l1, _, hrl1.mono leM, hwl1, ihr.2, hv3, by rw [hx]; simp only [body, cmdI], by have := hv3.length; simp only [cmdI] at this hcl; omega⟩ aH (.cons 0 rfl (.cons 11 rfl (.cons 12 rfl (.cons 13 rfl .nil)))) rfl bG
  ·
   refine aI (aB ?_);refine aA (aC rfl) rfl ?_;refine aG (aE ?_);refine bF (aI ?_);refine aB ?_;refine aA (cX Tryz.underlying285 (fun _ h => by cases h) rfl aL1 rfl) rfl ?_;refine aA (aR rfl rfl) rfl ?_;refine aA (aR rfl rfl) rfl ?_;refine aG (aE ?_);refine cQ rfl ?_;refine aI (aB ?_);refine aA (cX Tryz.underlying282 (fun _ h => by cases h) rfl aOL rfl) rfl ?_;refine aA (aR rfl rfl) rfl ?_;refine aA (aR rfl rfl) rfl ?_;refine aG (aE ?_);refine cQ rfl ?_;refine aI (aB ?_);refine aA (cX Tryz.underlying308 (fun _ h => by cases h) rfl aRP rfl) rfl ?_;refine aA (aR rfl rfl) rfl ?_;refine aA (aR rfl rfl) rfl ?_;refine aG (aE ?_);refine cQ rfl ?_;refine aI (aB ?_);refine aA (eX Tryz.underlying311 (fun _ h => by cases h) rfl) rfl ?_;refine aA (aR rfl rfl) rfl ?_;refine aA (aR rfl rfl) rfl ?_;refine aG (aE ?_);refine eS rfl ?_;refine aI (aB ?_);refine ol_s (cO aOR) rfl ?_;rintro _ K _ ⟨b10, rfl, rfl, rfl⟩ -;refine bR (cH nC rfl rfl rfl a7 (by first | (simp [Value.oneCell']; done) | exact fun c hc => El.one _ _ c hc) (.cons .nil) (by intro j hj; simp)) ?_;rintro _ K _ ⟨rfl, rfl⟩ -;refine aG (aE ?_);refine aB ?_;refine aA (aC rfl) rfl ?_;refine aA (bW nC rfl aM rfl rfl) rfl ?_;refine bD rfl rfl (ihr.1 hwb b sa sn sc ys vs2 ops2 _ hrb hSb hv2 (by simp only [cnt] at hb; omega)) (.cons (.there .here) .nil) rfl ?_;rintro _ K3 _ ⟨rfl, vs3, hv3, rfl⟩ leM;refine aG (aN ?_);refine aN (aE ?_);refine aB ?_;refine aA (bZ rfl rfl aH aH) rfl ?_;refine aA (aC rfl) rfl ?_;refine aG ?_;refine aO (.cons .here .nil) ?_;refine iR _ (i + 1) _ ⟨Hl.le_trans leL leM, by omega, l1, _, hrl1.mono leM, hwl1, ihr.2, hv3, by rw [hx]; simp only [body, cmdI], by have := hv3.length; simp only [cmdI] at this hcl; omega⟩ aH (.cons 0 rfl (.cons 11 rfl (.cons 12 rfl (.cons 13 rfl .nil)))) rfl bG
 ·
  have hend : body l ops = ops2 := (by rw [hx]; exact aKR hwr hrr (List.drop_eq_nil_of_le aH));refine cY ?_;refine aV ?_;refine aV ?_;refine bL ?_;refine aO (.cons .here .nil) ?_;refine dE rfl leL ?_;rw [hend];exact ⟨_, rfl, rfl, vs2, hv2, rfl⟩
end Go.Proofs
end
section
namespace Go.Proofs
open Go Go.SL Go.Syn Go.Cmp
def BrL : Tree → Prop
 | .bcons _ b l => aE4 b ∧ BrL l
 | .belse b l => aE4 b ∧ BrL l
 | _ => True
theorem aPQ {K : Hl} {rest : Tree} {xs : List (Cell × Cell)} {i : Nat} (hw : wf rest 4 = true) (hr : Rep K rest (xs.drop i)) (hi : i < xs.length) :
  ∃ tv sa sn sc, xs[i]? = some (tv, ⟨.slice sa sn sc, rfl⟩) ∧ ((∃ t bd l ys ty u, rest = .bcons t bd l ∧ tv.1 = .iface ty u ∧ Rep K t [(tv, u0)] ∧ Rep K bd ys ∧ Ksl (eJ 224) K (.slice sa sn sc) (ys.map Prod.fst) ∧ Rep K l (xs.drop (i + 1)) ∧ wf t 0 = true ∧ wf bd 3 = true ∧ wf l 4 = true) ∨
   (∃ bd l ys, rest = .belse bd l ∧ tv.1 = .nilIface ∧ Rep K bd ys ∧ Ksl (eJ 224) K (.slice sa sn sc) (ys.map Prod.fst) ∧ wf bd 3 = true)) := by
 have hd : xs.drop i ≠ [] := by intro h; have := congrArg List.length h; simp at this; omega
 have hget : ∀ {x : Cell × Cell} {ys : List (Cell × Cell)}, xs.drop i = x :: ys → xs[i]? = some x ∧ xs.drop (i + 1) = ys := by
  intro x ys h3;refine ⟨?_, by rw [← List.drop_drop, h3]; rfl⟩
  have := List.getElem?_drop (xs := xs) (i := i) (j := 0);rw [h3] at this; simpa using this.symm
 cases rest <;> simp only [wf, Rep] at hw hr
 case bnil => exact absurd hr hd
 case bcons t bd l =>
  obtain ⟨v, ys, ⟨sv, hsv⟩, zs, h1, h2, h3, h4, h5, h6⟩ := hr;obtain ⟨ty, u, h2⟩ := h2;simp at hw;obtain ⟨sa, sn, sc, rfl⟩ := h4.isSlice;obtain ⟨e1, e2⟩ := hget h6;exact ⟨v, sa, sn, sc, e1, .inl ⟨t, bd, l, ys, ty, u, rfl, h2, h1, h3, h4, by rw [e2]; exact h5, hw.1, hw.2.1, hw.2.2⟩⟩
 case belse bd l =>
  obtain ⟨ys, ⟨sv, hsv⟩, zs, h3, h4, h5, h6⟩ := hr;simp at hw;obtain ⟨sa, sn, sc, rfl⟩ := h4.isSlice;obtain ⟨e1, e2⟩ := hget h6;exact ⟨_, sa, sn, sc, e1, .inr ⟨bd, l, ys, rfl, rfl, h3, h4, hw.1⟩⟩
 all_goals simp at hw
theorem aKW {K : Hl} {l : Tree} {ys : List (Cell × Cell)} (hw : wf l 4 = true) (hr : Rep K l ys) : f7 l = true ↔ ys.length = 0 := by
 cases l <;> simp only [wf, Rep] at hw hr
 case bnil => subst hr; simp [f7]
 case bcons t b l => obtain ⟨v, zs, sv, ws, _, _, _, _, _, rfl⟩ := hr; simp [f7]
 case belse b l => obtain ⟨zs, sv, ws, _, _, _, rfl⟩ := hr; simp [f7]
 all_goals simp at hw
theorem aKQ {K : Hl} {rest : Tree} {ys : List (Cell × Cell)} (hw : wf rest 4 = true) (hr : Rep K rest ys) (he : ys = []) {ops : List Mach.Ins} {out : List Nat} : cW rest ops out = land ops out := by
 cases rest <;> simp only [wf, Rep] at hw hr
 case bnil => simp [cW]
 case bcons t b l => obtain ⟨v, zs, sv, ws, _, _, _, _, _, rfl⟩ := hr; cases he
 case belse b l => obtain ⟨zs, sv, ws, _, _, _, rfl⟩ := hr; cases he
 all_goals simp at hw
theorem aKT {K : Hl} : ∀ {l : Tree} {xs : List (Cell × Cell)}, wf l 4 = true → Rep K l xs → xs.length ≤ cnt l := by
 intro l;induction l with
 | bnil => intro xs _ h; cases (show xs = [] from h); simp
 | bcons t b l ih1 ih2 ih3 =>
  rintro xs hw ⟨v, ys, sv, ws, h1, h2, h3, h4, h5, rfl⟩;simp [wf] at hw;have := ih3 hw.2.2 h5;simp only [cnt, List.length_cons]; omega
 | belse b l ih1 ih2 =>
  rintro xs hw ⟨ys, sv, ws, h3, h4, h5, rfl⟩;simp [wf] at hw;have := ih2 hw.2 h5;simp only [cnt, List.length_cons]; omega
 | _ => intro xs hw _; simp [wf] at hw
theorem u1 {t b l : Tree} {ops : List Mach.Ins} {out : List Nat} (h : f7 l = true) : cW (.bcons t b l) ops out = cW l (land (body b (unl t false ops).1) (unl t false ops).2) out := by
 simp only [cW]; rw [if_pos h]
theorem u3 {t b l : Tree} {ops : List Mach.Ins} {out : List Nat} (h : ¬ f7 l = true) : cW (.bcons t b l) ops out = cW l (land (body b (unl t false ops).1 ++ [jmp 3]) (unl t false ops).2) (out ++ [(body b (unl t false ops).1).length]) := by
 simp only [cW]; rw [if_neg h]
theorem aDE (bs : Tree) (ih : BrL bs) : BrS bs := by
  intro hw b sa sn sc xs vs ops K hr hS hv hl;have hxl := aKT hw hr;refine bB Tryz.func194 rfl Tryz.ntmps194 rfl rfl fun F w => ?_
  refine aI (aB ?_);refine ol_s (eM rfl rfl) rfl ?_;rintro _ K _ ⟨b3, rfl, rfl, rfl⟩ -;refine aG (aE ?_);refine aI (aB ?_);refine aA (aF rfl) rfl ?_;refine aG (aE ?_);refine aI (aI ?_);refine aB ?_;refine kS (eW (iM 3)) ?_;refine aA (aD (o' := 0) qG rfl rfl) rfl ?_;refine aA (aK aFY rfl aM rfl) rfl ?_;refine aA (cE (k := (hG 371)) rfl Tryz.underlying309 rfl aM) rfl ?_;refine aA (aC rfl) rfl ?_;refine aG (aE ?_);refine bF ?_;refine aAN (fun (K2 : Hl) (i : Nat) (ov : Value) (vs2 : List InsV) (out : List Nat) (_ _ : Unit) => K.le K2 ∧ i ≤ xs.length ∧ ∃ rest ops2, Rep K2 rest (xs.drop i) ∧ wf rest 4 = true ∧ BrL rest ∧ RIs K2 vs2 ops2 ∧ cW bs ops [] = cW rest ops2 out ∧ vs2.length + 2 * cnt rest ≤ 900000 ∧ out.length + cnt rest ≤ 900000 ∧ ∀ k ∈ out, k < vs2.length) (fun _ i ov _ _ _ _ => [(0, ptr b), (3, ptr b3), (4, ov), (9, .slice sa sn sc), (10, i64 xs.length), (11, i64 i)]) (fun K2 _ _ _ _ _ _ => K2) (fun _ _ ov vs2 out _ _ => [sl false (iM 3) ov out, pt b3 (aU [.slice sa sn sc] 311), cdr b vs2]) (fun _ i _ _ _ _ _ => xs.length - i) K 0 _ vs [] () () ⟨Hl.le_refl _, Nat.zero_le _, bs, ops, hr, hw, ih, hv, rfl, hl, by simp; omega, by simp⟩ (.cons 0 rfl (.cons 3 rfl (.cons 4 rfl (.cons 9 rfl (.cons 10 rfl (.cons 11 rfl .nil)))))) rfl (fun _ h => h) ?_;intro K2 i ov vs2 out _ _ ⟨leL, hi0, rest, ops2, hrr, hwr, ihr, hv2, hx, hb1, hb2, hout⟩;have hSl : Ksl (hG 371) K2 (.slice sa sn sc) xs := hS.mono leL;have hv2l := hv2.length;refine aI (aB ?_);refine aA (dA rfl rfl) rfl ?_;refine aG (aE ?_);refine aI ?_;refine bE 12 rfl (fun h12 => ?_) (fun h12 => ?_)
  ·
    have hilt : i < xs.length := by omega
    obtain ⟨⟨tv, htv⟩, ta, tn, tc, hget, hcase⟩ := aPQ hwr hrr hilt;refine a6 ?_;refine aE ?_;rcases hcase with ⟨t, bd, l1, ys, ty, u, rfl, htv2, hrt, hrbd, hSbd, hrl1, hwt, hwbd, hwl1⟩ | ⟨bd, l1, ys, rfl, htv2, hrbd, hSbd, hwbd⟩
    ·
      obtain rfl : tv = .iface ty u := htv2;simp only [cnt] at hb1 hb2;have hu := (uP t).1 false ops2;have hbl := (rU bd).1 (unl t false ops2).1;have hdl : (xs.drop (i + 1)).length = xs.length - (i + 1) := List.length_drop;have hnil := aKW hwl1 hrl1;refine aI (bF ?_);refine aI (aB ?_);refine aA (aC rfl) rfl ?_;refine aA (b0 (k := (hG 371)) pJ rfl aM rfl rfl (by first | assumption | omega)) rfl ?_;refine aA (fR (n := 0) (k := (hG 371)) uO rfl aM bP) rfl ?_;refine ol_s (cO aL6) rfl ?_;rintro _ K _ ⟨b6, rfl, rfl, rfl⟩ -;refine aA (aF rfl) rfl ?_;refine bR (cH uO rfl rfl rfl a7 (by first | (simp [Value.oneCell']; done) | exact fun c hc => El.one _ _ c hc) (.cons (.cons .nil)) (by intro j hj; simp)) ?_;rintro _ K _ ⟨rfl, rfl⟩ -;refine aG (aE ?_);refine aI (aI ?_);refine aB ?_;refine aA (aD (o' := 0) tJ rfl rfl) rfl ?_;refine aA (aK aC0 rfl aM rfl) rfl ?_;refine aA (eT Tryz.underlying288 rfl rfl) rfl ?_;refine aG (aE ?_);refine cQ rfl ?_;refine a6 ?_;refine aE (aI ?_);refine aB ?_;refine aA (aC rfl) rfl ?_;refine aA (aD (o' := 0) tJ rfl rfl) rfl ?_;refine aA (aK aC0 rfl aM rfl) rfl ?_;refine bD rfl rfl ((aNV t).1 hwt b false ty u vs2 ops2 _ hrt hv2 aH) (.cons (.there (.there (.there .here))) .nil) rfl ?_;rintro nv K3 _ ⟨vs3, hv3, rfl⟩ leM;have hv3l := hv3.length;refine aA (aF rfl) rfl ?_;refine aG (aE ?_);refine aI (aB ?_);refine aA (aC rfl) rfl ?_;refine aA (aD (o' := 1) yV rfl rfl) rfl ?_;refine aA (aK aCZ rfl aM rfl) rfl ?_;refine bD rfl rfl (ihr.1 hwbd b (.slice ta tn tc) ys vs3 _ _ (hrbd.mono leM) (hSbd.mono leM) hv3 aH) (.cons (.there .here) .nil) rfl ?_;rintro _ K4 _ ⟨rfl, vs4, hv4, rfl⟩ leN;have hv4l := hv4.length;have hSl := hSl.mono (Hl.le_trans leM leN);have leMN := Hl.le_trans leM leN;have hva : (vs4 ++ [jmpV 3]).length = vs4.length + 1 := List.length_append;refine aG (aE ?_);refine aI (aI ?_);refine aB ?_;refine aA (aC rfl) rfl ?_;refine aA (aD (o' := 0) qG rfl rfl) rfl ?_;refine aA (aK aFY rfl aM rfl) rfl ?_;refine aA (cE (k := (hG 371)) rfl Tryz.underlying309 rfl aM) rfl ?_;refine aA (nH rfl rfl aH aH) rfl ?_;refine aA (dA rfl rfl) rfl ?_;refine aG (aE ?_);refine bE 36 rfl (fun h36 => ?_) (fun h36 => ?_)
      ·
        refine aB ?_;refine aA (aC rfl) rfl ?_;refine aA (aC rfl) rfl ?_;refine aA (cK tb41 nE (.cons rfl rfl rfl (.cons .nil) .nil)) rfl ?_;refine ol_s (bO (z0 := [.int .i64 0, .int .i64 0, .int .i64 0, .bool false, .slice none 0 0, .slice none 0 0, .int .i64 0]) gZ tz41 rfl rfl rfl rfl (.cons rfl rfl rfl (.cons (.cons (.cons (.cons (.cons (.cons (.cons .nil))))))) .nil)) rfl ?_;rintro _ K _ ⟨b40, rfl, rfl, rfl⟩ -;refine bD rfl rfl (iZ b b40 vs4 [jmpV 3] _ _ rfl (by simp; omega)) (.cons (.there .here) (.cons .here .nil)) rfl ?_;rintro _ K _ ⟨rfl, rfl, rfl⟩ -;refine ol_s (bO (z0 := [.int .i64 0]) nX tz3 rfl rfl rfl rfl (.cons rfl rfl rfl (.cons .nil) .nil)) rfl ?_;rintro _ K _ ⟨b42, rfl, rfl, rfl⟩ -;refine ol_s (dQ (k := (iM 3)) (ys := [vs4.length]) oL rfl rfl (.there (.there (.there (.there .here)))) (fun w j => dN Tryz.underlying55 (SeesSl.at (k := iM 3) (xs := [vs4.length]) (.blk (.own .here) rfl (by simp [iM, El.cs])) j)) (by first | (simp; omega) | omega) (by first | (simp; omega) | omega)) rfl ?_;rintro v43 K _ ⟨rfl, rfl, ho43⟩ -;refine aA (aF rfl) rfl ?_;refine aG (aE ?_);refine aB ?_;refine aA (aC rfl) rfl ?_;refine aA (aC rfl) rfl ?_;refine bD rfl rfl (nN b nv (vs4 ++ [jmpV 3]) _ _ aH aH (fun k hk => by have := hu.2.2.2 k hk; omega)) (.cons (.there (.there .here)) (.cons (.there (.there .here)) .nil)) rfl ?_;rintro _ K _ ⟨rfl, rfl, rfl⟩ -;refine aG (aN ?_);refine aE (aB ?_);refine aA (bZ rfl rfl aH aH) rfl ?_;refine aA (aC rfl) rfl ?_;refine aG ?_
        first
          | (have hnl : ¬ f7 l1 = true := (by rw [hnil]; omega)
             refine aO (.cons (.there .here) (.cons (.there (.there (.there .here))) (.cons .here .nil))) ?_;refine hU _ (i + 1) _ (sC (vs4 ++ [jmpV 3]) (unl t false ops2).2) (out ++ [vs4.length]) () () ⟨Hl.le_trans leL leMN, by omega, l1, _, hrl1.mono leMN, hwl1, ihr.2, (RIs.append (ws := [jmpV 3]) (ps := [jmp 3]) ⟨mS _ _, trivial⟩ hv4).land, by rw [hx, u3 hnl, hv4l], by rw [gH]; omega, by rw [List.length_append]; simp; omega, fun k hk => by rw [gH]; rcases List.mem_append.1 hk with h | h; (have := hout k h; omega); (simp at h; omega)⟩ aH (.cons 0 rfl (.cons 3 rfl (.cons 4 rfl (.cons 9 rfl (.cons 10 rfl (.cons 11 rfl .nil)))))) rfl bG)
          | (have hnl : f7 l1 = true := (by rw [hnil]; omega)
             refine aO (.cons (.there (.there .here)) (.cons (.there (.there .here)) (.cons .here .nil))) ?_;refine hU _ (i + 1) ov (sC vs4 (unl t false ops2).2) out () () ⟨Hl.le_trans leL leMN, by omega, l1, _, hrl1.mono leMN, hwl1, ihr.2, hv4.land, by rw [hx, u1 hnl], by rw [gH]; omega, by omega, fun k hk => by rw [gH]; have := hout k hk; omega⟩ aH (.cons 0 rfl (.cons 3 rfl (.cons 4 rfl (.cons 9 rfl (.cons 10 rfl (.cons 11 rfl .nil)))))) rfl bG)
      ·
        refine a6 ?_;refine aE (aB ?_);refine aA (aC rfl) rfl ?_;refine aA (aC rfl) rfl ?_;refine bD rfl rfl (nN b nv vs4 _ _ aH aH (fun k hk => by have := hu.2.2.2 k hk; omega)) (.cons .here (.cons .here .nil)) rfl ?_;rintro _ K _ ⟨rfl, rfl, rfl⟩ -;refine aG (aN ?_);refine aE (aB ?_);refine aA (bZ rfl rfl aH aH) rfl ?_;refine aA (aC rfl) rfl ?_;refine aG ?_
        first
          | (have hnl : ¬ f7 l1 = true := (by rw [hnil]; omega)
             refine aO (.cons (.there .here) (.cons (.there (.there (.there .here))) (.cons .here .nil))) ?_;refine hU _ (i + 1) _ (sC (vs4 ++ [jmpV 3]) (unl t false ops2).2) (out ++ [vs4.length]) () () ⟨Hl.le_trans leL leMN, by omega, l1, _, hrl1.mono leMN, hwl1, ihr.2, (RIs.append (ws := [jmpV 3]) (ps := [jmp 3]) ⟨mS _ _, trivial⟩ hv4).land, by rw [hx, u3 hnl, hv4l], by rw [gH]; omega, by rw [List.length_append]; simp; omega, fun k hk => by rw [gH]; rcases List.mem_append.1 hk with h | h; (have := hout k h; omega); (simp at h; omega)⟩ aH (.cons 0 rfl (.cons 3 rfl (.cons 4 rfl (.cons 9 rfl (.cons 10 rfl (.cons 11 rfl .nil)))))) rfl bG)
          | (have hnl : f7 l1 = true := (by rw [hnil]; omega)
             refine aO (.cons (.there (.there .here)) (.cons (.there (.there .here)) (.cons .here .nil))) ?_;refine hU _ (i + 1) ov (sC vs4 (unl t false ops2).2) out () () ⟨Hl.le_trans leL leMN, by omega, l1, _, hrl1.mono leMN, hwl1, ihr.2, hv4.land, by rw [hx, u1 hnl], by rw [gH]; omega, by omega, fun k hk => by rw [gH]; have := hout k hk; omega⟩ aH (.cons 0 rfl (.cons 3 rfl (.cons 4 rfl (.cons 9 rfl (.cons 10 rfl (.cons 11 rfl .nil)))))) rfl bG)
    ·
      obtain rfl : tv = .nilIface := htv2;simp only [cnt] at hb1 hb2;have hbl := (rU bd).1 ops2;refine aI (bF ?_);refine aI (aB ?_);refine aA (aC rfl) rfl ?_;refine aA (b0 (k := (hG 371)) pJ rfl aM rfl rfl (by first | assumption | omega)) rfl ?_;refine aA (fR (n := 0) (k := (hG 371)) uO rfl aM bP) rfl ?_;refine ol_s (cO aL6) rfl ?_;rintro _ K _ ⟨b6, rfl, rfl, rfl⟩ -;refine aA (aF rfl) rfl ?_;refine bR (cH uO rfl rfl rfl a7 (by first | (simp [Value.oneCell']; done) | exact fun c hc => El.one _ _ c hc) (.cons (.cons .nil)) (by intro j hj; simp)) ?_;rintro _ K _ ⟨rfl, rfl⟩ -;refine aG (aE ?_);refine aI (aI ?_);refine aB ?_;refine aA (aD (o' := 0) tJ rfl rfl) rfl ?_;refine aA (aK aC0 rfl aM rfl) rfl ?_;refine aA (vF Tryz.underlying288 rfl) rfl ?_;refine aG (aE ?_);refine eS rfl ?_;refine aI (aB ?_);refine aA (aC rfl) rfl ?_;refine aA (aD (o' := 1) yV rfl rfl) rfl ?_;refine aA (aK aCZ rfl aM rfl) rfl ?_;refine bD rfl rfl (ihr.1 hwbd b (.slice ta tn tc) ys vs2 ops2 _ hrbd hSbd hv2 aH) (.cons (.there (.there (.there .here))) .nil) rfl ?_;rintro _ K4 _ ⟨rfl, vs4, hv4, rfl⟩ leN;have hv4l := hv4.length;refine aG (aE ?_);refine cY ?_;refine aV ?_;refine fV rfl ?_;refine aV ?_;refine aV ?_;refine bL ?_;refine aE (aB ?_);refine aA (aC rfl) rfl ?_;refine aA (aC rfl) rfl ?_;refine bD rfl rfl (nN b ov vs4 out _ aH aH (fun k hk => by have := hout k hk; omega)) (.cons .here (.cons (.there .here) .nil)) rfl ?_;rintro _ K _ ⟨rfl, rfl, rfl⟩ -;refine aG ?_;refine aO (.cons .here .nil) ?_;refine dE rfl (by first | exact Hl.le_trans leL leN | exact leL) ?_
      first
        | (rw [hend]; exact ⟨_, rfl, rfl, _, hv2.land, rfl⟩)
        | (rw [hx]; simp only [cW]; exact ⟨_, rfl, rfl, _, hv4.land, rfl⟩)
  ·
    have hend : cW bs ops [] = land ops2 out := (by rw [hx]; exact aKQ hwr hrr (List.drop_eq_nil_of_le aH));refine cY ?_;refine aV ?_;refine aV ?_;refine bL ?_;refine aE (aB ?_);refine aA (aC rfl) rfl ?_;refine aA (aC rfl) rfl ?_;refine bD rfl rfl (nN b ov vs2 out _ aH aH (fun k hk => hout k hk)) (.cons (.there (.there .here)) (.cons .here .nil)) rfl ?_;rintro _ K _ ⟨rfl, rfl, rfl⟩ -;refine aG ?_;refine aO (.cons .here .nil) ?_;refine dE rfl (by first | exact Hl.le_trans leL leN | exact leL) ?_
    first
      | (rw [hend]; exact ⟨_, rfl, rfl, _, hv2.land, rfl⟩)
      | (rw [hx]; simp only [cW]; exact ⟨_, rfl, rfl, _, hv4.land, rfl⟩)
end Go.Proofs
end
section
namespace Go.Proofs
open Go Go.SL Go.Syn Go.Cmp
theorem aI3 : ∀ (t : Tree), aE4 t ∧ aE3 t ∧ BrS t ∧ BrL t ∧ aN5 t := by
 intro t;induction t with
 | iff bs ih => exact ⟨fun h => by simp [wf] at h, trivial, fun h => by simp [wf] at h, trivial, ih.2.2.1⟩
 | cnil => exact ⟨aBA _ trivial, trivial, fun h => by simp [wf] at h, trivial, trivial⟩
 | ccons c l ih1 ih2 => exact ⟨aBA _ ⟨ih1.2.2.2.2, ih2.2.1⟩, ⟨ih1.2.2.2.2, ih2.2.1⟩, fun h => by simp [wf] at h, trivial, trivial⟩
 | bnil => exact ⟨fun h => by simp [wf] at h, trivial, aDE _ trivial, trivial, trivial⟩
 | bcons t b l ih1 ih2 ih3 => exact ⟨fun h => by simp [wf] at h, trivial, aDE _ ⟨ih2.1, ih3.2.2.2.1⟩, ⟨ih2.1, ih3.2.2.2.1⟩, trivial⟩
 | belse b l ih1 ih2 => exact ⟨fun h => by simp [wf] at h, trivial, aDE _ ⟨ih1.1, ih2.2.2.2.1⟩, ⟨ih1.1, ih2.2.2.2.1⟩, trivial⟩
 | _ => exact ⟨fun h => by simp [wf] at h, trivial, fun h => by simp [wf] at h, trivial, trivial⟩
theorem aCI (b : Nat) (needs : List (List UInt8)) (t : Tree) (K : Hl) (hat : ScriptAt K b needs t) (hw : wf t 3 = true) (hc : cnt t ≤ 400000) :
  Sp Tryz.prog 58 [ptr b 6] K [] (Ret fun v K' L' => ∃ vs, RIs K' vs (script t) ∧ L' = [sl false f5 v vs]) := by
 obtain ⟨l, nv, bv, ys, fz, hb, h6, h7, hv, hS, hrep, hcl⟩ := hat.at_;refine bB Tryz.func58 rfl Tryz.ntmps58 rfl rfl fun F w => ?_
 refine aI (aB ?_);refine aA (aF rfl) rfl ?_;refine aG (aE ?_);refine aI (aB ?_);refine aA (cK aQ9 aP4 .nil) rfl ?_;refine ol_s (eM rfl rfl) rfl ?_;rintro _ K _ ⟨b5, rfl, rfl, rfl⟩ -;refine aA (aF rfl) rfl ?_;refine aG (aE ?_);refine aI (aB ?_);refine aA (aC rfl) rfl ?_;refine aA (aC rfl) rfl ?_;refine aA bS rfl ?_;refine aA (aD (o' := 7) tG rfl rfl) rfl ?_;refine aA (aK aCZ rfl (.known hb) h7) rfl ?_;refine kS (eW f5) ?_;refine kS (fun h hh => fP hh) ?_;refine kS aAG ?_;refine bD rfl rfl ((aI3 t).1 hw b5 bv ys [] [] _ hrep hS trivial (by simp; omega)) (.cons .here .nil) rfl ?_;rintro _ K1 _ ⟨rfl, vs1, hv1, rfl⟩ le1;refine aQQ fun cv => ?_
 refine aG (aE ?_);refine aI (aB ?_);refine aA (aC rfl) rfl ?_;refine aA bS rfl ?_;refine aA (aD (o' := 0) mB rfl rfl) rfl ?_;refine aA (aK ts42 rfl aM rfl) rfl ?_;refine aA (aF rfl) rfl ?_;refine aG (aE ?_);refine bM ?_;refine aO (.cons (.there .here) .nil) ?_;refine bJ rfl rfl le1 ?_;exact ⟨_, rfl, vs1, hv1, rfl⟩
end Go.Proofs
end
section
namespace Go.Proofs
open Go Go.SL Go.Syn Go.Mach
theorem vM (s : List UInt8) (c : UInt8) (K : Hl) : Sp Tryz.prog 308 [str s, .int .u8 c.toNat] K [] (Val (i64 (Lib.indexByte s c)) K) := by
 refine jR ⟨_, Tryz.func308, rfl, rfl⟩ fun w hw => ?_
 have := Tryz.strings_IndexByte ⟨s.toArray⟩ (c.toNat : Int) w
 simpa using this
theorem oC {E : Env} {fr : Fr} {K : Hl} {L : List Asn} {dst : Option Tmp} {ty : TypeId} {pos : String} {aft : Array Edge} {g : Option (Nat × Bool)} {x y : Operand} {t kt et b c : Nat} {k : List UInt8} {vars : List (List UInt8 × List UInt8)} {f : Nat → Nat}
  (hm : E.P.underlying t = some (.map kt et)) (hk : E.P.underlying kt = some .string) (hz : fU E.P et = some (.agg #[str []])) (hx : fr.ev x = some (.map (some b))) (hy : fr.ev y = some (str k)) (hs : Sees K L b (mapO (gM vars f) c)) :
  Ev E fr K L ⟨dst, .lookup t x y false, ty, pos, aft, g⟩ (.agg #[str (vget vars k)]) := by
 have := aDO (dst := dst) (ty := ty) (pos := pos) (aft := aft) (g := g) hm hk hz hx hy hs;rw [aIV] at this;exact this
theorem mK {vars : List (List UInt8 × List UInt8)} {parts : List (List UInt8)} {d : UInt8} (h : 48 ≤ d.toNat ∧ d.toNat ≤ 57) : held vars parts [d] = ((parts[d.toNat - 48]?).getD [], true) := by
 unfold held; simp only []; rw [if_pos (by simp [f6, h.1, h.2])]
theorem mL {vars : List (List UInt8 × List UInt8)} {parts : List (List UInt8)} {name : List UInt8} (h : ¬ (∃ d, name = [d] ∧ 48 ≤ d.toNat ∧ d.toNat ≤ 57)) : held vars parts name = (vget vars (cU name), named name) := by
 unfold held;split
 ·rename_i d; rw [if_neg (by intro e; simp [f6] at e; exact h ⟨d, rfl, e⟩)]
 ·rfl
theorem aGW (b mb : Nat) (c0 c1 c2 c3 c4 c5 c6 pv c9 : Value) (pc : Int) (vars : List (List UInt8 × List UInt8)) (f : Nat → Nat) (c : Nat) (parts : List (List UInt8)) (name : List UInt8) (K : Hl) (hpv : Ksl (bK 9) K pv parts) (hn : name.length ≤ 100000000) :
  Sp Tryz.prog 309 [ptr b, str name] K [mblk b c0 c1 c2 c3 c4 c5 c6 (.map (some mb)) pv c9 pc, pt mb (mapO (gM vars f) c)]
   (Ret fun v K' L' => v = .tuple #[str (held vars parts name).1, .bool (held vars parts name).2] ∧ K' = K ∧ L' = [mblk b c0 c1 c2 c3 c4 c5 c6 (.map (some mb)) pv c9 pc, pt mb (mapO (gM vars f) c)]) := by
 refine bB Tryz.func309 rfl Tryz.ntmps309 rfl rfl fun F w => ?_
 refine aI (aB ?_);refine aA (aF rfl) rfl ?_;refine aA (aF rfl) rfl ?_;refine aG (aE ?_);refine aI (aI ?_);refine aB ?_;refine aA (aC rfl) rfl ?_;refine aA (cB rfl Tryz.underlying9 rfl) rfl ?_;refine aA (bT rfl rfl) rfl ?_;refine aA (aC rfl) rfl ?_;refine cA 10 rfl (fun g10 => ?_) (fun g10 => ?_)
 ·
  obtain ⟨d, rfl⟩ : ∃ d, name = [d] := List.length_eq_one_iff.1 aH;have hd0 : ([d] : List UInt8)[0]? = some d := rfl;refine aT rfl rfl ?_;refine aA (aC rfl) rfl ?_;refine aT rfl rfl ?_;refine aA (dB Tryz.underlying9 rfl rfl rfl bP) rfl ?_;refine aT rfl rfl ?_;refine aA (gU rfl rfl) rfl ?_;refine aA (bH rfl rfl) rfl ?_;refine aA (aC rfl) rfl ?_;refine cA 15 rfl (fun g15 => ?_) (fun g15 => ?_)
  ·
   refine aT rfl rfl ?_;refine aA (aC rfl) rfl ?_;refine aT rfl rfl ?_;refine aA (dB Tryz.underlying9 rfl rfl rfl bP) rfl ?_;refine aT rfl rfl ?_;refine aA (j7 rfl rfl) rfl ?_;refine aA (bH rfl rfl) rfl ?_;refine aG (aE ?_);refine bE 19 rfl (fun h19 => ?_) (fun h19 => ?_)
   ·
    refine aI (aI ?_);refine aB ?_;refine aA (aC rfl) rfl ?_;refine aA (dB Tryz.underlying9 rfl rfl rfl bP) rfl ?_;refine aA (aFF (m := d.toNat) (n := 48) aH aH rfl rfl) rfl ?_;refine aA (tV Tryz.underlying3 Tryz.underlying5 rfl aH aH) rfl ?_;refine aA (aF rfl) rfl ?_;refine aG (aE ?_);refine aI (aB ?_);refine aA (aC rfl) rfl ?_;refine aA (aC rfl) rfl ?_;refine aA bS rfl ?_;refine aA (aD (o' := 8) tH rfl rfl) rfl ?_;refine aA (aK ts39 rfl aM rfl) rfl ?_;refine aA (cE (k := (bK 9)) rfl Tryz.underlying39 rfl aM) rfl ?_;refine aA (dA rfl rfl) rfl ?_;refine aG (aE ?_);refine bE 30 rfl (fun h30 => ?_) (fun h30 => ?_)
    ·
     obtain ⟨p, hp⟩ : ∃ p, parts[d.toNat - 48]? = some p := ⟨parts[d.toNat - 48]'(by omega), List.getElem?_eq_getElem aH⟩;refine aI (aB ?_);refine aA (aC rfl) rfl ?_;refine aA bS rfl ?_;refine aA (aD (o' := 8) tH rfl rfl) rfl ?_;refine aA (aK ts39 rfl aM rfl) rfl ?_;refine aA (aC rfl) rfl ?_;refine aA (b0 (k := (bK 9)) cT rfl aM rfl rfl (by first | assumption | omega)) rfl ?_;refine aA (dO (o := 0) (k := (bK 9)) ts9 rfl aM bP rfl) rfl ?_;refine aA (aF rfl) rfl ?_;refine aA (aF rfl) rfl ?_;refine aG (aE ?_);refine bM ?_;refine bC ?_;refine bC ?_;refine aO (.cons .here (.cons .here .nil)) ?_;refine j1 rfl rfl rfl (Hl.le_refl _) ?_
     first
      | (rw [mK aH, hp]; exact ⟨_, rfl, rfl, rfl, rfl⟩)
      | (rw [mL hno]; exact ⟨_, rfl, rfl, rfl, rfl⟩)
    ·
     have hp : parts[d.toNat - 48]? = none := List.getElem?_eq_none aH;refine a6 ?_;refine aE (aI ?_);refine aB ?_;refine aA (aF rfl) rfl ?_;refine aA (aF rfl) rfl ?_;refine aG (aE ?_);refine bM ?_;refine bC ?_;refine aO (.cons .here (.cons .here .nil)) ?_;refine j1 rfl rfl rfl (Hl.le_refl _) ?_
     first
      | (rw [mK aH, hp]; exact ⟨_, rfl, rfl, rfl, rfl⟩)
      | (rw [mL hno]; exact ⟨_, rfl, rfl, rfl, rfl⟩)
   ·
    have hno : ¬ (∃ e, [d] = [e] ∧ 48 ≤ e.toNat ∧ e.toNat ≤ 57) := (by rintro ⟨e, h1, h2, h3⟩; cases h1; omega);refine a6 ?_;refine aE (aI ?_);refine t_draw (anc := [0, 1, 3, 7, 0, 16, 63, 127, 0, 304, 1023, 2047]) (ord := [0, 1, 2, 3, 4, 8, 5, 6, 7, 9, 10, 11]) [5, 9] [] mixed (by decide +kernel) (cS _) ?_;refine dl_ev rfl rfl (.none rfl) rfl rfl (aC rfl) rfl ?_;refine dl_ev rfl rfl (.none rfl) rfl rfl bS rfl ?_;refine dl_ev rfl rfl (.none rfl) rfl rfl (aD (o' := 7) qF rfl rfl) rfl ?_;refine dl_ev rfl rfl (.none rfl) rfl rfl (aK aFX rfl aM rfl) rfl ?_;refine dl_ev rfl rfl (.none rfl) rfl rfl (aC rfl) rfl ?_;refine dl_ev rfl rfl (.none rfl) rfl rfl (aC rfl) rfl ?_;refine dl_callv rfl (.none rfl) rfl rfl rfl rfl (fA _ _ (by first | omega | (simp; done) | (simp; omega))) rfl ?_;refine dl_ev rfl rfl (.none rfl) rfl rfl (oC Tryz.underlying175 Tryz.underlying9 aL2 rfl rfl (.own (.there .here))) rfl ?_;refine dl_ev rfl rfl (.none rfl) rfl rfl (j6 Tryz.underlying369 rfl ts9 rfl rfl) rfl ?_;refine dl_callv rfl (.none rfl) rfl rfl rfl rfl (oH _ _ (by first | omega | (simp; done) | (simp; omega))) rfl ?_;refine dl_ev rfl rfl (.none rfl) rfl rfl (aF rfl) rfl ?_;refine dl_ev rfl rfl (.none rfl) rfl rfl (aF rfl) rfl ?_;refine dl_nil ?_;refine aE ?_;refine bM ?_;refine aO (.cons .here (.cons .here .nil)) ?_;refine j1 rfl rfl rfl (Hl.le_refl _) ?_
    first
     | (rw [mK aH, hp]; exact ⟨_, rfl, rfl, rfl, rfl⟩)
     | (rw [mL hno]; exact ⟨_, rfl, rfl, rfl, rfl⟩)
  ·
   have hno : ¬ (∃ e, [d] = [e] ∧ 48 ≤ e.toNat ∧ e.toNat ≤ 57) := (by rintro ⟨e, h1, h2, h3⟩; cases h1; omega);refine aQ rfl rfl rfl ?_;refine aQ rfl rfl rfl ?_;refine aQ rfl rfl rfl ?_;refine aA (a8 rfl rfl) rfl ?_;refine aG (aE ?_);refine cQ rfl ?_;refine a6 ?_;refine aE (aI ?_);refine t_draw (anc := [0, 1, 3, 7, 0, 16, 63, 127, 0, 304, 1023, 2047]) (ord := [0, 1, 2, 3, 4, 8, 5, 6, 7, 9, 10, 11]) [5, 9] [] mixed (by decide +kernel) (cS _) ?_;refine dl_ev rfl rfl (.none rfl) rfl rfl (aC rfl) rfl ?_;refine dl_ev rfl rfl (.none rfl) rfl rfl bS rfl ?_;refine dl_ev rfl rfl (.none rfl) rfl rfl (aD (o' := 7) qF rfl rfl) rfl ?_;refine dl_ev rfl rfl (.none rfl) rfl rfl (aK aFX rfl aM rfl) rfl ?_;refine dl_ev rfl rfl (.none rfl) rfl rfl (aC rfl) rfl ?_;refine dl_ev rfl rfl (.none rfl) rfl rfl (aC rfl) rfl ?_;refine dl_callv rfl (.none rfl) rfl rfl rfl rfl (fA _ _ (by first | omega | (simp; done) | (simp; omega))) rfl ?_;refine dl_ev rfl rfl (.none rfl) rfl rfl (oC Tryz.underlying175 Tryz.underlying9 aL2 rfl rfl (.own (.there .here))) rfl ?_;refine dl_ev rfl rfl (.none rfl) rfl rfl (j6 Tryz.underlying369 rfl ts9 rfl rfl) rfl ?_;refine dl_callv rfl (.none rfl) rfl rfl rfl rfl (oH _ _ (by first | omega | (simp; done) | (simp; omega))) rfl ?_;refine dl_ev rfl rfl (.none rfl) rfl rfl (aF rfl) rfl ?_;refine dl_ev rfl rfl (.none rfl) rfl rfl (aF rfl) rfl ?_;refine dl_nil ?_;refine aE ?_;refine bM ?_;refine aO (.cons .here (.cons .here .nil)) ?_;refine j1 rfl rfl rfl (Hl.le_refl _) ?_
   first
    | (rw [mK aH, hp]; exact ⟨_, rfl, rfl, rfl, rfl⟩)
    | (rw [mL hno]; exact ⟨_, rfl, rfl, rfl, rfl⟩)
 ·
  have hno : ¬ (∃ d, name = [d] ∧ 48 ≤ d.toNat ∧ d.toNat ≤ 57) := (by rintro ⟨d, rfl, _⟩; exact g10 rfl);refine aQ rfl rfl rfl ?_;refine aQ rfl rfl rfl ?_;refine aQ rfl rfl rfl ?_;refine aA (a8 rfl rfl) rfl ?_;refine aA (aC rfl) rfl ?_;refine aQ rfl rfl rfl ?_;refine aQ rfl rfl rfl ?_;refine aQ rfl rfl rfl ?_;refine aA (a8 rfl rfl) rfl ?_;refine aG (aE ?_);refine cQ rfl ?_;refine a6 ?_;refine aE (aI ?_);refine t_draw (anc := [0, 1, 3, 7, 0, 16, 63, 127, 0, 304, 1023, 2047]) (ord := [0, 1, 2, 3, 4, 8, 5, 6, 7, 9, 10, 11]) [5, 9] [] mixed (by decide +kernel) (cS _) ?_;refine dl_ev rfl rfl (.none rfl) rfl rfl (aC rfl) rfl ?_;refine dl_ev rfl rfl (.none rfl) rfl rfl bS rfl ?_;refine dl_ev rfl rfl (.none rfl) rfl rfl (aD (o' := 7) qF rfl rfl) rfl ?_;refine dl_ev rfl rfl (.none rfl) rfl rfl (aK aFX rfl aM rfl) rfl ?_;refine dl_ev rfl rfl (.none rfl) rfl rfl (aC rfl) rfl ?_;refine dl_ev rfl rfl (.none rfl) rfl rfl (aC rfl) rfl ?_;refine dl_callv rfl (.none rfl) rfl rfl rfl rfl (fA _ _ (by first | omega | (simp; done) | (simp; omega))) rfl ?_;refine dl_ev rfl rfl (.none rfl) rfl rfl (oC Tryz.underlying175 Tryz.underlying9 aL2 rfl rfl (.own (.there .here))) rfl ?_;refine dl_ev rfl rfl (.none rfl) rfl rfl (j6 Tryz.underlying369 rfl ts9 rfl rfl) rfl ?_;refine dl_callv rfl (.none rfl) rfl rfl rfl rfl (oH _ _ (by first | omega | (simp; done) | (simp; omega))) rfl ?_;refine dl_ev rfl rfl (.none rfl) rfl rfl (aF rfl) rfl ?_;refine dl_ev rfl rfl (.none rfl) rfl rfl (aF rfl) rfl ?_;refine dl_nil ?_;refine aE ?_;refine bM ?_;refine aO (.cons .here (.cons .here .nil)) ?_;refine j1 rfl rfl rfl (Hl.le_refl _) ?_
  first
   | (rw [mK aH, hp]; exact ⟨_, rfl, rfl, rfl, rfl⟩)
   | (rw [mL hno]; exact ⟨_, rfl, rfl, rfl, rfl⟩)
def nG (vars : List (List UInt8 × List UInt8)) (parts : List (List UInt8)) : Prop := ∀ name, (held vars parts name).1.length ≤ 100000
theorem aBO (vars : List (List UInt8 × List UInt8)) (parts : List (List UInt8)) (f : Nat) (acc : List UInt8) : fS vars parts (f + 1) [] acc = acc ++ [] := by simp [fS]
theorem aDS {vars : List (List UInt8 × List UInt8)} {parts : List (List UInt8)} {f : Nat} {s acc : List UInt8} (h0 : s ≠ []) (h : Lib.index s [36, 123] < 0) : fS vars parts (f + 1) s acc = acc ++ s := by
 simp only [fS]; rw [if_neg h0, if_pos h]
theorem aBP {vars : List (List UInt8 × List UInt8)} {parts : List (List UInt8)} {f i : Nat} {s acc : List UInt8} {e : Int} {hd : List UInt8 × Bool} (h0 : s ≠ []) (h : Lib.index s [36, 123] = (i : Int)) (he : Lib.indexByte (s.drop i) 125 = e) (hh : held vars parts (((s.drop i).take (max e 2).toNat).drop 2) = hd) :
  fS vars parts (f + 1) s acc = if 0 < e ∧ hd.2 = true then fS vars parts f ((s.drop i).drop (e.toNat + 1)) (acc ++ s.take i ++ hd.1) else fS vars parts f ((s.drop i).drop 1) (acc ++ s.take i ++ [36]) := by
 simp only [fS]; rw [if_neg h0, if_neg aH]
 have : (Lib.index s [36, 123]).toNat = i := by omega
 rw [this, he, hh]
theorem m5 (b mb : Nat) (c0 c1 c2 c3 c4 c5 pv c9 : Value) (pc : Int) (nm : Bool) (vars : List (List UInt8 × List UInt8)) (f : Nat → Nat) (c : Nat) (parts : List (List UInt8)) (s : List UInt8) (K : Hl) (hg : Glob K) (hpv : Ksl (bK 9) K pv parts) (hs : s.length ≤ 100000) (hsm : nG vars parts) :
  Sp Tryz.prog 255 [ptr b, str s] K [mblk b c0 c1 c2 c3 c4 c5 (.bool nm) (.map (some mb)) pv c9 pc, pt mb (mapO (gM vars f) c)]
   (Ret fun v K' L' => v = str (cP nm vars parts s) ∧ K' = K ∧ L' = [mblk b c0 c1 c2 c3 c4 c5 (.bool nm) (.map (some mb)) pv c9 pc, pt mb (mapO (gM vars f) c)]) := by
 refine bB Tryz.func255 rfl Tryz.ntmps255 rfl rfl fun F w => ?_
 refine aI (aB ?_);refine aA (aF rfl) rfl ?_;refine aG (aE ?_);refine aI (aI ?_);refine aB ?_;refine aA (aC rfl) rfl ?_;refine aA bS rfl ?_;refine aA (aD (o' := 6) yP rfl rfl) rfl ?_;refine aA (aK ts4 rfl aM rfl) rfl ?_;refine aA (by first | exact dM rfl | exact dU rfl) rfl ?_;refine aG (aE ?_);refine eB 15 rfl (fun h15 => ?_) (fun h15 => ?_)
 ·
  refine aI (aB ?_);refine aA (aC rfl) rfl ?_;refine aA (aF rfl) rfl ?_;refine aG (aE ?_);refine bM ?_;refine bC ?_;refine aO (.cons .here (.cons .here .nil)) ?_;refine bJ rfl rfl (Hl.le_refl _) ?_;have hnm : nm = false := by simpa using h15
  unfold cP;rw [if_neg (by simp [hnm])];exact ⟨_, rfl, rfl, rfl, rfl⟩
 ·
  refine a6 ?_;refine aE (aI ?_);refine aB ?_;refine ol_s (cO aON) rfl ?_;rintro _ K _ ⟨b5, rfl, rfl, rfl⟩ -;refine aG (aE ?_);refine aI (bF ?_);refine yK (gX (xN b5)) ?_;refine uM (fun (s2 acc : List UInt8) => s2.length ≤ s.length ∧ acc.length + 100001 * s2.length ≤ 100001 * s.length ∧ ∃ f2, s2.length ≤ f2 ∧ fS vars parts (s.length + 1) s [] = fS vars parts (f2 + 1) s2 acc) (fun s2 _ => [(0, ptr b), (1, str s2), (5, ptr b5)]) (fun _ _ => K) (fun _ acc => [bldr b5 acc, mblk b c0 c1 c2 c3 c4 c5 (.bool nm) (.map (some mb)) pv c9 pc, pt mb (mapO (gM vars f) c)]) (fun s2 _ => s2.length) s [] ⟨Nat.le_refl _, by simp, s.length, Nat.le_refl _, rfl⟩ (.cons 0 rfl (.cons 1 rfl (.cons 5 rfl .nil))) rfl (fun _ h => h) ?_;intro s2 acc ⟨hi1, hi2, f2, hi3, hx⟩;refine aI (aI ?_);refine aB ?_;refine aA (aC rfl) rfl ?_;refine aA (oX rfl rfl) rfl ?_;refine aG (aE ?_);refine bE 18 rfl (fun h18 => ?_) (fun h18 => ?_)
  ·
   have hne : s2 ≠ [] := h18;have hib := o2 s2 [36, 123];refine a6 ?_;refine aE (bF ?_);refine aI (aB ?_);refine aA (aC rfl) rfl ?_;refine cF rfl rfl (vO s2 [36, 123] _ hg aH) rfl ?_;refine aA (aF rfl) rfl ?_;refine aG (aE ?_);refine aI (aI ?_);refine aB ?_;refine aA (aC rfl) rfl ?_;refine aA (dA rfl rfl) rfl ?_;refine aG (aE ?_);refine bE 22 rfl (fun h22 => ?_) (fun h22 => ?_)
   ·
    have hout : fS vars parts (s.length + 1) s [] = acc ++ s2 := (by rw [hx]; exact aDS hne h22);refine cY ?_;refine aV ?_;refine fV rfl ?_;refine aV ?_;refine bL ?_;refine aE (aI ?_);refine aB ?_;refine bD rfl rfl (n7 b5 acc aH _) (.cons .here .nil) rfl ?_;rintro _ K _ ⟨rfl, rfl, rfl⟩ -;have hla : (acc ++ s2).length = acc.length + s2.length := List.length_append;refine aA (aC rfl) rfl ?_;refine aA (lQ rfl rfl (by first | (simp; omega) | omega)) rfl ?_;refine aA (aF rfl) rfl ?_;refine aG (aE ?_);refine aI (aB ?_);refine aA (aC rfl) rfl ?_;refine aA (aC rfl) rfl ?_;refine aA (cB rfl Tryz.underlying9 rfl) rfl ?_;refine aA (kM rfl rfl) rfl ?_;refine aA (dX (n := min (acc ++ s2).length 1024) Tryz.underlying9 rfl rfl (by split <;> omega) aH) rfl ?_;refine aA (aF rfl) rfl ?_;refine aG (aE ?_);refine bM ?_;refine aO (.cons .here (.cons .here .nil)) ?_;refine bJ rfl rfl (Hl.le_refl _) ?_;have hnm : nm = true := by simpa using h15
    have ht : (acc ++ s2).take (min (acc ++ s2).length 1024) = (acc ++ s2).take 1024 := (by rcases Nat.le_total (acc ++ s2).length 1024 with h | h; (rw [Nat.min_eq_left h, List.take_length, List.take_of_length_le h]); (rw [Nat.min_eq_right h]));unfold cP;rw [if_pos hnm, hout, ht];exact ⟨_, rfl, rfl, rfl, rfl⟩
   ·
    obtain ⟨i, hii⟩ : ∃ i : Nat, Lib.index s2 [36, 123] = (i : Int) := ⟨(Lib.index s2 [36, 123]).toNat, by omega⟩;have hi5 : i + 2 ≤ s2.length := (by simp only [List.length_cons, List.length_nil] at hib; omega);refine a6 ?_;refine aE (aI ?_);refine aB ?_;refine aA (aC rfl) rfl ?_;refine aA (aC rfl) rfl ?_;refine aA (dX (n := i) Tryz.underlying9 rfl rfl hii aH) rfl ?_;refine bD rfl rfl (nY b5 (s2.take i) acc (by have : (s2.take i).length ≤ s2.length := List.length_take_le' _ _; omega) _) (.cons .here .nil) rfl ?_;rintro _ K _ ⟨rfl, rfl, rfl⟩ -;refine aG (aE ?_);refine aI (aB ?_);refine aA (aC rfl) rfl ?_;refine aA (aC rfl) rfl ?_;refine aA (fW (m := i) Tryz.underlying9 rfl rfl hii aH) rfl ?_;refine aA (aF rfl) rfl ?_;refine aG (aE ?_);refine aI (aB ?_);refine aA (aC rfl) rfl ?_;refine cF rfl rfl (vM (s2.drop i) 125 _) rfl ?_;have hib2 := zY (s2.drop i) 125;obtain ⟨e, hee⟩ : ∃ e, Lib.indexByte (s2.drop i) 125 = e := ⟨_, rfl⟩;rw [hee] at hib2 ⊢;have hdl : (s2.drop i).length = s2.length - i := List.length_drop;have htl : (s2.take i).length = i := List.length_take_of_le aH;refine aA (aF rfl) rfl ?_;refine aG (aE ?_);refine aI (aI ?_);refine aB ?_;refine aA (aC rfl) rfl ?_;refine aA (aC rfl) rfl ?_;refine aA (aC rfl) rfl ?_;refine aA (aJ0 rfl rfl) rfl ?_;refine aA (i8 (m := 2) (n := (max e 2).toNat) Tryz.underlying9 rfl rfl rfl rfl (by split <;> omega) aH aH) rfl ?_;refine bD rfl rfl (aGW b mb c0 c1 c2 c3 c4 c5 (.bool nm) pv c9 pc vars f c parts _ _ hpv (by have := List.length_drop (l := (s2.drop i).take (max e 2).toNat) (i := 2); have := List.length_take_le (max e 2).toNat (s2.drop i); omega)) (.cons (.there .here) (.cons (.there .here) .nil)) rfl ?_;rintro _ K _ ⟨rfl, rfl, rfl⟩ -;obtain ⟨hd, hhd⟩ : ∃ hd, held vars parts (((s2.drop i).take (max e 2).toNat).drop 2) = hd := ⟨_, rfl⟩;have hhl := hsm (((s2.drop i).take (max e 2).toNat).drop 2);rw [hhd] at hhl ⊢;have hey := aBP (acc := acc) (f := f2) hne hii hee hhd;refine aA (aC rfl) rfl ?_;refine aA (aR rfl rfl) rfl ?_;refine aA (aR rfl rfl) rfl ?_;refine aA (aF rfl) rfl ?_;refine aA (aF rfl) rfl ?_;refine aG (aE ?_);refine aI (aB ?_);refine aA (aC rfl) rfl ?_;refine aA (jG rfl rfl) rfl ?_;refine aA (aC rfl) rfl ?_;refine cA 43 rfl (fun g43 => ?_) (fun g43 => ?_)
    ·
     refine aT rfl rfl ?_;refine aA (aC rfl) rfl ?_;refine aA (bH rfl rfl) rfl ?_;refine aG (aE ?_);refine eB 45 rfl (fun h45 => ?_) (fun h45 => ?_)
     ·
      have hcc : 0 < e ∧ hd.2 = true := ⟨g43, h45⟩;refine aI (aB ?_);refine aA (aC rfl) rfl ?_;refine bD rfl rfl (nY b5 hd.1 (acc ++ s2.take i) (by rw [List.length_append]; omega) _) (.cons (.there (.there .here)) .nil) rfl ?_;rintro _ K _ ⟨rfl, rfl, rfl⟩ -;refine aG (aE ?_);refine aI (aB ?_);refine aA (aC rfl) rfl ?_;refine aA (aC rfl) rfl ?_;refine aA (bZ rfl rfl aH aH) rfl ?_;refine aA (fW (m := e.toNat + 1) Tryz.underlying9 rfl rfl aH aH) rfl ?_;refine aA (aF rfl) rfl ?_;refine aG (aE ?_);refine cY ?_;refine aV ?_;refine bL ?_;have hdd : ((s2.drop i).drop (e.toNat + 1)).length ≤ s2.length - 1 - i := (by rw [List.length_drop]; omega);have hd1 : ((s2.drop i).drop 1).length ≤ s2.length - 1 - i := (by rw [List.length_drop]; omega);have hf2 : f2 = (f2 - 1) + 1 := by omega
      first
       | (refine dI ((s2.drop i).drop (e.toNat + 1)) (acc ++ s2.take i ++ hd.1) ⟨by omega, by rw [List.length_append, List.length_append]; omega, f2 - 1, by omega, by rw [hx, hey, if_pos hcc, ← hf2]⟩ aH (.cons 0 rfl (.cons 1 rfl (.cons 5 rfl .nil))) rfl (fun _ h => h))
       | (refine dI ((s2.drop i).drop 1) (acc ++ s2.take i ++ [36]) ⟨by omega, by rw [List.length_append, List.length_append]; simp only [List.length_singleton]; omega, f2 - 1, by omega, by rw [hx, hey, if_neg hcc, ← hf2]⟩ aH (.cons 0 rfl (.cons 1 rfl (.cons 5 rfl .nil))) rfl (fun _ h => h))
     ·
      have hcc : ¬ (0 < e ∧ hd.2 = true) := fun h => by rw [h45] at h; exact absurd h.2 (by decide)
      refine a6 ?_;refine aE (aI ?_);refine aB ?_;refine bD rfl rfl (g0 b5 36 (acc ++ s2.take i) (by rw [List.length_append]; omega) _) (.cons (.there (.there .here)) .nil) rfl ?_;rintro _ K _ ⟨rfl, rfl, rfl⟩ -;refine aG (aE ?_);refine aB ?_;refine aA (aC rfl) rfl ?_;refine aA (fW (m := 1) Tryz.underlying9 rfl rfl rfl aH) rfl ?_;refine aA (aF rfl) rfl ?_;refine aG (aN ?_);have hdd : ((s2.drop i).drop (e.toNat + 1)).length ≤ s2.length - 1 - i := (by rw [List.length_drop]; omega);have hd1 : ((s2.drop i).drop 1).length ≤ s2.length - 1 - i := (by rw [List.length_drop]; omega);have hf2 : f2 = (f2 - 1) + 1 := by omega
      first
       | (refine dI ((s2.drop i).drop (e.toNat + 1)) (acc ++ s2.take i ++ hd.1) ⟨by omega, by rw [List.length_append, List.length_append]; omega, f2 - 1, by omega, by rw [hx, hey, if_pos hcc, ← hf2]⟩ aH (.cons 0 rfl (.cons 1 rfl (.cons 5 rfl .nil))) rfl (fun _ h => h))
       | (refine dI ((s2.drop i).drop 1) (acc ++ s2.take i ++ [36]) ⟨by omega, by rw [List.length_append, List.length_append]; simp only [List.length_singleton]; omega, f2 - 1, by omega, by rw [hx, hey, if_neg hcc, ← hf2]⟩ aH (.cons 0 rfl (.cons 1 rfl (.cons 5 rfl .nil))) rfl (fun _ h => h))
    ·
     have hcc : ¬ (0 < e ∧ hd.2 = true) := fun h => g43 h.1
     refine aQ rfl rfl rfl ?_;refine aA (a8 rfl rfl) rfl ?_;refine aG (aE ?_);refine cQ rfl ?_;refine a6 ?_;refine aE (aI ?_);refine aB ?_;refine bD rfl rfl (g0 b5 36 (acc ++ s2.take i) (by rw [List.length_append]; omega) _) (.cons (.there (.there .here)) .nil) rfl ?_;rintro _ K _ ⟨rfl, rfl, rfl⟩ -;refine aG (aE ?_);refine aB ?_;refine aA (aC rfl) rfl ?_;refine aA (fW (m := 1) Tryz.underlying9 rfl rfl rfl aH) rfl ?_;refine aA (aF rfl) rfl ?_;refine aG (aN ?_);have hdd : ((s2.drop i).drop (e.toNat + 1)).length ≤ s2.length - 1 - i := (by rw [List.length_drop]; omega);have hd1 : ((s2.drop i).drop 1).length ≤ s2.length - 1 - i := (by rw [List.length_drop]; omega);have hf2 : f2 = (f2 - 1) + 1 := by omega
     first
      | (refine dI ((s2.drop i).drop (e.toNat + 1)) (acc ++ s2.take i ++ hd.1) ⟨by omega, by rw [List.length_append, List.length_append]; omega, f2 - 1, by omega, by rw [hx, hey, if_pos hcc, ← hf2]⟩ aH (.cons 0 rfl (.cons 1 rfl (.cons 5 rfl .nil))) rfl (fun _ h => h))
      | (refine dI ((s2.drop i).drop 1) (acc ++ s2.take i ++ [36]) ⟨by omega, by rw [List.length_append, List.length_append]; simp only [List.length_singleton]; omega, f2 - 1, by omega, by rw [hx, hey, if_neg hcc, ← hf2]⟩ aH (.cons 0 rfl (.cons 1 rfl (.cons 5 rfl .nil))) rfl (fun _ h => h))
  ·
   have hout : fS vars parts (s.length + 1) s [] = acc ++ s2 := (by rw [hx, show s2 = [] from Classical.not_not.1 h18]; exact aBO _ _ _ _);refine cY ?_;refine aV ?_;refine aV ?_;refine bL ?_;refine aE (aI ?_);refine aB ?_;refine bD rfl rfl (n7 b5 acc aH _) (.cons .here .nil) rfl ?_;rintro _ K _ ⟨rfl, rfl, rfl⟩ -;have hla : (acc ++ s2).length = acc.length + s2.length := List.length_append;refine aA (aC rfl) rfl ?_;refine aA (lQ rfl rfl (by first | (simp; omega) | omega)) rfl ?_;refine aA (aF rfl) rfl ?_;refine aG (aE ?_);refine aI (aB ?_);refine aA (aC rfl) rfl ?_;refine aA (aC rfl) rfl ?_;refine aA (cB rfl Tryz.underlying9 rfl) rfl ?_;refine aA (kM rfl rfl) rfl ?_;refine aA (dX (n := min (acc ++ s2).length 1024) Tryz.underlying9 rfl rfl (by split <;> omega) aH) rfl ?_;refine aA (aF rfl) rfl ?_;refine aG (aE ?_);refine bM ?_;refine aO (.cons .here (.cons .here .nil)) ?_;refine bJ rfl rfl (Hl.le_refl _) ?_;have hnm : nm = true := by simpa using h15
   have ht : (acc ++ s2).take (min (acc ++ s2).length 1024) = (acc ++ s2).take 1024 := (by rcases Nat.le_total (acc ++ s2).length 1024 with h | h; (rw [Nat.min_eq_left h, List.take_length, List.take_of_length_le h]); (rw [Nat.min_eq_right h]));unfold cP;rw [if_pos hnm, hout, ht];exact ⟨_, rfl, rfl, rfl, rfl⟩
end Go.Proofs
end
section
namespace Go.Proofs
open Go Go.SL Go.Syn Go.Mach
theorem xI {α β : Type} (g : α → β) {l : List α} {i : Nat} {x : α} (h : l[i]? = some x) : (l.take (i + 1)).map g = (l.take i).map g ++ [g x] := by
 have hi : i < l.length := by
  rcases Nat.lt_or_ge i l.length with h' | h'
  ·exact h'
  ·simp [List.getElem?_eq_none h'] at h
 have hc : l[i] = x := by simpa [List.getElem?_eq_getElem hi] using h
 rw [List.take_succ_eq_append_getElem hi, hc]; simp
theorem aIY (b mb : Nat) (c0 c1 c2 c3 c4 c5 pv c9 : Value) (pc : Int) (nm : Bool) (vars : List (List UInt8 × List UInt8)) (f : Nat → Nat) (c : Nat) (parts : List (List UInt8)) (lv : Value) (l : List (List UInt8)) (K : Hl) (hg : Glob K) (hpv : Ksl (bK 9) K pv parts) (hlv : Ksl (bK 9) K lv l) (hl : l.length ≤ 1000000) (hs : ∀ s ∈ l, s.length ≤ 100000) (hsm : nG vars parts) :
  Sp Tryz.prog 250 [ptr b, lv] K [mblk b c0 c1 c2 c3 c4 c5 (.bool nm) (.map (some mb)) pv c9 pc, pt mb (mapO (gM vars f) c)]
   (Ret fun v K' L' => K' = K ∧ L' = [sl false (bK 9) v (l.map (cP nm vars parts)), mblk b c0 c1 c2 c3 c4 c5 (.bool nm) (.map (some mb)) pv c9 pc, pt mb (mapO (gM vars f) c)]) := by
 refine bB Tryz.func250 rfl Tryz.ntmps250 rfl rfl fun F w => ?_
 refine aI (aB ?_);refine aA (aF rfl) rfl ?_;refine aG (aE ?_);refine aI (aB ?_);refine aA (aF rfl) rfl ?_;refine aG (aE ?_);refine aI (aI ?_);refine aB ?_;refine aA (aC rfl) rfl ?_;refine aA (cE (k := (bK 9)) rfl Tryz.underlying39 rfl aM) rfl ?_;refine aA (aC rfl) rfl ?_;refine aG (aE ?_);refine bF ?_;refine uM (fun (i : Nat) (v : Value) => i ≤ l.length) (fun i v => [(0, ptr b), (5, v), (8, lv), (9, i64 l.length), (10, i64 i)]) (fun _ _ => K) (fun i v => [sl false (bK 9) v ((l.take i).map (cP nm vars parts)), mblk b c0 c1 c2 c3 c4 c5 (.bool nm) (.map (some mb)) pv c9 pc, pt mb (mapO (gM vars f) c)]) (fun i _ => l.length - i) 0 (.slice none 0 0) (Nat.zero_le _) (.cons 0 rfl (.cons 5 rfl (.cons 8 rfl (.cons 9 rfl (.cons 10 rfl .nil))))) rfl (eW (bK 9)) ?_;intro i v hi0;have hml : ((l.take i).map (cP nm vars parts)).length = i := (by rw [List.length_map, List.length_take_of_le hi0]);refine aI (aB ?_);refine aA (dA rfl rfl) rfl ?_;refine aG (aE ?_);refine aI ?_;refine bE 11 rfl (fun h11 => ?_) (fun h11 => ?_)
 ·
  have hilt : i < l.length := by omega
  obtain ⟨x, hx⟩ : ∃ x, l[i]? = some x := ⟨l[i]'hilt, List.getElem?_eq_getElem hilt⟩;refine a6 ?_;refine aE (aI ?_);refine bF (aI ?_);refine aB ?_;refine aA (b0 (k := (bK 9)) cT rfl aM rfl rfl (by first | assumption | omega)) rfl ?_;refine aA (dO (o := 0) (k := (bK 9)) ts9 rfl aM bP rfl) rfl ?_;refine aA (aF rfl) rfl ?_;refine aG (aE ?_);refine aB ?_;refine aA (aC rfl) rfl ?_;refine aA (aC rfl) rfl ?_;refine aA (aC rfl) rfl ?_;refine bD rfl rfl (m5 b mb c0 c1 c2 c3 c4 c5 pv c9 pc nm vars f c parts x _ hg hpv (hs x (List.mem_of_getElem? hx)) hsm) (.cons (.there .here) (.cons (.there .here) .nil)) rfl ?_;rintro _ K _ ⟨rfl, rfl, rfl⟩ -;refine ol_s (bO (z0 := [(str [])]) cT tz9 rfl rfl rfl rfl (.cons rfl rfl rfl (.cons .nil) .nil)) rfl ?_;rintro _ K _ ⟨b18, rfl, rfl, rfl⟩ -;refine ol_s (dQ (k := (bK 9)) (ys := [cP nm vars parts x]) gK rfl rfl (.there (.there (.there .here))) (fun w j => dN Tryz.underlying39 (SeesSl.at (.blk (.own .here) rfl rfl) j)) (by rw [hml]; simp; omega) (by rw [hml]; simp; omega)) rfl ?_;rintro v19 K _ ⟨rfl, rfl, ho19⟩ -;refine aA (aF rfl) rfl ?_;refine aG (aN ?_);refine aE (aB ?_);refine aA (bZ rfl rfl aH aH) rfl ?_;refine aA (aC rfl) rfl ?_;refine aG ?_;refine aO (.cons .here (.cons (.there .here) (.cons (.there .here) .nil))) ?_;refine dI (i + 1) _ aH aH (.cons 0 rfl (.cons 5 rfl (.cons 8 rfl (.cons 9 rfl (.cons 10 rfl .nil))))) rfl (by rw [xI _ hx]; exact fun _ h => h)
 ·
  have hfin : (l.take i).map (cP nm vars parts) = l.map (cP nm vars parts) := (by rw [List.take_of_length_le aH]);refine cY ?_;refine aV ?_;refine aV ?_;refine bL ?_;refine aE (aI ?_);refine aB ?_;refine aA (aC rfl) rfl ?_;refine aA (aF rfl) rfl ?_;refine aG (aE ?_);refine bM ?_;refine aO (.cons .here (.cons .here (.cons .here .nil))) ?_;refine bJ rfl rfl (Hl.le_refl _) ?_;rw [hfin];exact ⟨_, rfl, rfl, rfl⟩
theorem aHV (s : List UInt8) (K : Hl) : Sp Tryz.prog 303 [str s] K [] (Val (str s) K) := by
 refine bB Tryz.func303 rfl Tryz.ntmps303 rfl rfl fun F w => ?_
 refine aI (aB ?_);refine aA (aF rfl) rfl ?_;refine aG (aE ?_);refine aI (aB ?_);refine aA (aC rfl) rfl ?_;refine aA (aF rfl) rfl ?_;refine aG (aE ?_);refine bM ?_;refine bJ rfl rfl (Hl.le_refl _) ?_;exact ⟨rfl, rfl, rfl⟩
abbrev vK (oct : Bool) : FuncId := if oct = true then 303 else 185
theorem zU (oct : Bool) (K : Hl) : Sp Tryz.prog 249 [.bool oct] K [] (Val (.func (.func (vK oct)) #[] #[]) K) := by
 refine bB Tryz.func249 rfl Tryz.ntmps249 rfl rfl fun F w => ?_
 refine aI (aB ?_);refine aA (aF rfl) rfl ?_;refine aG (aE ?_);refine aI (aI ?_);refine aB ?_;refine aA (aC rfl) rfl ?_;refine aG (aE ?_);refine eB 3 rfl (fun h3 => ?_) (fun h3 => ?_)
 ·
  refine aI (aB ?_);refine aA (aF rfl) rfl ?_;refine aG (aE ?_);refine bM ?_;refine bC ?_;refine bJ rfl rfl (Hl.le_refl _) ?_;subst h3;exact ⟨rfl, rfl, rfl⟩
 ·
  refine a6 ?_;refine aE (aI ?_);refine aB ?_;refine aA (aF rfl) rfl ?_;refine aG (aE ?_);refine bM ?_;refine bJ rfl rfl (Hl.le_refl _) ?_;subst h3;exact ⟨rfl, rfl, rfl⟩
theorem kN (oct : Bool) (s : List UInt8) (K : Hl) (hs : s.length ≤ 100000000) : Sp Tryz.prog (vK oct) [str s] K [] (Val (str (dP oct s)) K) := by
 cases oct
 ·exact fA s K aH
 ·exact aHV s K
theorem rY (s sub : List UInt8) (K : Hl) (hg : Glob K) (hs : s.length < 4294967281) : Sp Tryz.prog 305 [str s, str sub] K [] (Val (.bool (decide (0 ≤ Lib.index s sub))) K) := by
 refine jR ⟨_, Tryz.func305, rfl, rfl⟩ fun w hw => ?_
 obtain ⟨m, T, fz, hm⟩ := hg.maxLen;exact Tryz.strings_Contains ⟨s.toArray⟩ ⟨sub.toArray⟩ m w (by simpa [ByteArray.size] using hs) (n8 (hw _ _ hm) rfl)
theorem vW (v k : List UInt8) (oct : Bool) (K : Hl) (hg : Glob K) (hv : v.length ≤ 100000000) (hk : k.length ≤ 100000000) : Sp Tryz.prog 252 [str v, str k, .func (.func (vK oct)) #[] #[]] K [] (Val (.bool (decide (0 ≤ Lib.index (dP oct v) (dP oct k)))) K) := by
 have hfl : ∀ s : List UInt8, (dP oct s).length = s.length := by intro s; unfold dP; split <;> simp [cU]
 refine bB Tryz.func252 rfl Tryz.ntmps252 rfl rfl fun F w => ?_
 refine aI (aB ?_);refine aA (aF rfl) rfl ?_;refine aG (aE ?_);refine aI (aB ?_);refine aA (aC rfl) rfl ?_;refine aA (aC rfl) rfl ?_;refine cF rfl rfl (kN oct v _ hv) rfl ?_;refine aA (aC rfl) rfl ?_;refine aA (aC rfl) rfl ?_;refine cF rfl rfl (kN oct k _ hk) rfl ?_;refine cF rfl rfl (rY _ _ _ hg (by rw [hfl]; omega)) rfl ?_;refine aA (aF rfl) rfl ?_;refine aG (aE ?_);refine bM ?_;refine bJ rfl rfl (Hl.le_refl _) ?_;exact ⟨rfl, rfl, rfl⟩
theorem aAA (c : UInt8) (K : Hl) : Sp Tryz.prog 222 [.int .u8 c.toNat] K [] (Val (.bool (fY c)) K) := by
 refine bB Tryz.func222 rfl Tryz.ntmps222 rfl rfl fun F w => ?_
 refine aI (aB ?_);refine aA (aF rfl) rfl ?_;refine aG (aE ?_);refine aI (aB ?_);refine aA (aC rfl) rfl ?_;refine aA (zN c 32 rfl rfl) rfl ?_;refine aA (gU rfl rfl) rfl ?_;refine aA (aC rfl) rfl ?_;refine cA 6 rfl (fun g6 => ?_) (fun g6 => ?_)
 ·
  refine aT rfl rfl ?_;refine aA (aC rfl) rfl ?_;refine aT rfl rfl ?_;refine aA (zN c 32 rfl rfl) rfl ?_;refine aT rfl rfl ?_;refine aA (j7 rfl rfl) rfl ?_;refine aA (bH rfl rfl) rfl ?_;refine aA (aC rfl) rfl ?_;refine cA 11 rfl (fun g11 => ?_) (fun g11 => ?_)
  ·
   refine aQ rfl rfl rfl ?_;refine aQ rfl rfl rfl ?_;refine aQ rfl rfl rfl ?_;refine gB rfl rfl rfl ?_;refine gB rfl rfl rfl ?_;refine aQ rfl rfl rfl ?_;refine aA (bH rfl rfl) rfl ?_;refine aA (aC rfl) rfl ?_;refine aQ rfl rfl rfl ?_;refine aQ rfl rfl rfl ?_;refine aA (bH rfl rfl) rfl ?_;refine aA (aF rfl) rfl ?_;refine aG (aE ?_);refine bM ?_;refine bJ rfl rfl (Hl.le_refl _) ?_;refine retB ?_ _
   unfold fY
   generalize (c ||| 32).toNat = x at *
   generalize c.toNat = y at *
   rw [Bool.eq_iff_iff];simp;omega
  ·
   refine aT rfl rfl ?_;refine aA (aC rfl) rfl ?_;refine aT rfl rfl ?_;refine aA (gU rfl rfl) rfl ?_;refine aT rfl rfl ?_;refine aA (aC rfl) rfl ?_;refine cA 14 rfl (fun g14 => ?_) (fun g14 => ?_)
   ·
    refine aT rfl rfl ?_;refine aA (aC rfl) rfl ?_;refine aT rfl rfl ?_;refine aA (j7 rfl rfl) rfl ?_;refine aT rfl rfl ?_;refine aA (bH rfl rfl) rfl ?_;refine aA (a8 rfl rfl) rfl ?_;refine aA (aC rfl) rfl ?_;refine cA 19 rfl (fun g19 => ?_) (fun g19 => ?_)
    ·
     refine aQ rfl rfl rfl ?_;refine aQ rfl rfl rfl ?_;refine aA (bH rfl rfl) rfl ?_;refine aA (aF rfl) rfl ?_;refine aG (aE ?_);refine bM ?_;refine bJ rfl rfl (Hl.le_refl _) ?_;refine retB ?_ _
     unfold fY
     generalize (c ||| 32).toNat = x at *
     generalize c.toNat = y at *
     rw [Bool.eq_iff_iff];simp;omega
    ·
     refine aT rfl rfl ?_;refine aA (aC rfl) rfl ?_;refine aT rfl rfl ?_;refine aA (bT rfl rfl) rfl ?_;refine aA (a8 rfl rfl) rfl ?_;refine aA (aF rfl) rfl ?_;refine aG (aE ?_);refine bM ?_;refine bJ rfl rfl (Hl.le_refl _) ?_;refine retB ?_ _
     unfold fY
     generalize (c ||| 32).toNat = x at *
     generalize c.toNat = y at *
     rw [Bool.eq_iff_iff];simp;omega
   ·
    refine aQ rfl rfl rfl ?_;refine aQ rfl rfl rfl ?_;refine aT rfl rfl ?_;refine aA (a8 rfl rfl) rfl ?_;refine aA (a8 rfl rfl) rfl ?_;refine aA (aC rfl) rfl ?_;refine aT rfl rfl ?_;refine aA (aC rfl) rfl ?_;refine aT rfl rfl ?_;refine aA (bT rfl rfl) rfl ?_;refine aA (a8 rfl rfl) rfl ?_;refine aA (aF rfl) rfl ?_;refine aG (aE ?_);refine bM ?_;refine bJ rfl rfl (Hl.le_refl _) ?_;refine retB ?_ _
    unfold fY
    generalize (c ||| 32).toNat = x at *
    generalize c.toNat = y at *
    rw [Bool.eq_iff_iff];simp;omega
 ·
  refine aQ rfl rfl rfl ?_;refine aQ rfl rfl rfl ?_;refine aQ rfl rfl rfl ?_;refine aA (a8 rfl rfl) rfl ?_;refine aA (aC rfl) rfl ?_;refine aT rfl rfl ?_;refine aA (aC rfl) rfl ?_;refine aT rfl rfl ?_;refine aA (gU rfl rfl) rfl ?_;refine aT rfl rfl ?_;refine aA (aC rfl) rfl ?_;refine cA 14 rfl (fun g14 => ?_) (fun g14 => ?_)
  ·
   refine aT rfl rfl ?_;refine aA (aC rfl) rfl ?_;refine aT rfl rfl ?_;refine aA (j7 rfl rfl) rfl ?_;refine aT rfl rfl ?_;refine aA (bH rfl rfl) rfl ?_;refine aA (a8 rfl rfl) rfl ?_;refine aA (aC rfl) rfl ?_;refine cA 19 rfl (fun g19 => ?_) (fun g19 => ?_)
   ·
    refine aQ rfl rfl rfl ?_;refine aQ rfl rfl rfl ?_;refine aA (bH rfl rfl) rfl ?_;refine aA (aF rfl) rfl ?_;refine aG (aE ?_);refine bM ?_;refine bJ rfl rfl (Hl.le_refl _) ?_;refine retB ?_ _
    unfold fY
    generalize (c ||| 32).toNat = x at *
    generalize c.toNat = y at *
    rw [Bool.eq_iff_iff];simp;omega
   ·
    refine aT rfl rfl ?_;refine aA (aC rfl) rfl ?_;refine aT rfl rfl ?_;refine aA (bT rfl rfl) rfl ?_;refine aA (a8 rfl rfl) rfl ?_;refine aA (aF rfl) rfl ?_;refine aG (aE ?_);refine bM ?_;refine bJ rfl rfl (Hl.le_refl _) ?_;refine retB ?_ _
    unfold fY
    generalize (c ||| 32).toNat = x at *
    generalize c.toNat = y at *
    rw [Bool.eq_iff_iff];simp;omega
  ·
   refine aQ rfl rfl rfl ?_;refine aQ rfl rfl rfl ?_;refine aT rfl rfl ?_;refine aA (a8 rfl rfl) rfl ?_;refine aA (a8 rfl rfl) rfl ?_;refine aA (aC rfl) rfl ?_;refine aT rfl rfl ?_;refine aA (aC rfl) rfl ?_;refine aT rfl rfl ?_;refine aA (bT rfl rfl) rfl ?_;refine aA (a8 rfl rfl) rfl ?_;refine aA (aF rfl) rfl ?_;refine aG (aE ?_);refine bM ?_;refine bJ rfl rfl (Hl.le_refl _) ?_;refine retB ?_ _
   unfold fY
   generalize (c ||| 32).toNat = x at *
   generalize c.toNat = y at *
   rw [Bool.eq_iff_iff];simp;omega
theorem gF (s : List UInt8) : aBB s = true ↔ (∀ i c, s[i]? = some c → iL i c = true) ∧ s ≠ [] ∧ s.length ≤ 16 := by
 unfold aBB;simp only [Bool.and_eq_true, List.all_eq_true, List.mem_range, decide_eq_true_eq]
 constructor
 ·rintro ⟨⟨h1, h2⟩, h3⟩;refine ⟨fun i c hc => ?_, h2, h3⟩
  have hi : i < s.length := by
   rcases Nat.lt_or_ge i s.length with h' | h'
   ·exact h'
   ·simp [List.getElem?_eq_none h'] at hc
  have := h1 i hi;rw [hc] at this; exact this
 ·rintro ⟨h1, h2, h3⟩;refine ⟨⟨fun i hi => ?_, h2⟩, h3⟩
  rw [List.getElem?_eq_getElem hi]; exact h1 i _ (List.getElem?_eq_getElem hi)
theorem uZ (s : List UInt8) (K : Hl) (hs : s.length ≤ 1000000) : Sp Tryz.prog 128 [str s] K [] (Val (.bool (aBB s)) K) := by
  refine bB Tryz.func128 rfl Tryz.ntmps128 rfl rfl fun F w => ?_
  refine aI (aB ?_);refine aA (aF rfl) rfl ?_;refine aG (aE ?_);refine aI (aI ?_);refine aB ?_;refine aA (aC rfl) rfl ?_;refine ol_s (p8 Tryz.underlying9 Tryz.underlying130 Tryz.underlying5 rfl) rfl ?_;rintro v6 K _ ⟨rfl, rfl⟩ -;refine aA (cE (k := (elB 5)) rfl Tryz.underlying130 rfl aM) rfl ?_;refine aA (aC rfl) rfl ?_;refine aG (aE ?_);refine bF ?_;refine eK (fun (i : Nat) => i ≤ s.length ∧ ∀ j c, j < i → s[j]? = some c → iL j c = true) (fun i => [(0, str s), (6, v6), (7, i64 s.length), (8, i64 i)]) (fun _ => _) (fun i => [sl false (elB 5) v6 s]) (fun i => s.length - i) 0 ⟨Nat.zero_le _, fun j c h _ => by omega⟩ (.cons 0 rfl (.cons 6 rfl (.cons 7 rfl (.cons 8 rfl .nil)))) rfl (fun _ h => h) ?_;intro i ⟨hi0, hi1⟩;refine aI (aB ?_);refine aA (dA rfl rfl) rfl ?_;refine aG (aE ?_);refine aI ?_;refine bE 9 rfl (fun h9 => ?_) (fun h9 => ?_)
  ·
    have hilt : i < s.length := by omega
    obtain ⟨c, hc⟩ : ∃ c, s[i]? = some c := ⟨s[i]'hilt, List.getElem?_eq_getElem hilt⟩;refine a6 ?_;refine aE (aI ?_);refine bF (aI ?_);refine aB ?_;refine aA (aC rfl) rfl ?_;refine aA (b0 (k := (elB 5)) mC rfl aM rfl rfl (by first | assumption | omega)) rfl ?_;refine aA (dO (o := 0) (k := (elB 5)) ts5 rfl aM bP rfl) rfl ?_;refine aA (aF rfl) rfl ?_;refine aA (aF rfl) rfl ?_;refine aG (aE ?_);refine aI (aB ?_);refine aA (aC rfl) rfl ?_;refine cF rfl rfl (aAA c _) rfl ?_;refine aA (by first | exact dM rfl | exact dU rfl) rfl ?_;refine aA (aC rfl) rfl ?_;refine mQ 16 rfl (fun g16 => ?_) (fun g16 => ?_)
    ·
      refine aT rfl rfl ?_;refine aA (aC rfl) rfl ?_;refine aT rfl rfl ?_;refine aA (fO rfl rfl) rfl ?_;refine aA (bH rfl rfl) rfl ?_;refine aA (aC rfl) rfl ?_;refine cA 20 rfl (fun g20 => ?_) (fun g20 => ?_)
      ·
        refine aT rfl rfl ?_;refine aA (aC rfl) rfl ?_;refine aT rfl rfl ?_;refine aA (fO rfl rfl) rfl ?_;refine aT rfl rfl ?_;refine aA (aC rfl) rfl ?_;refine cA 23 rfl (fun g23 => ?_) (fun g23 => ?_)
        ·
          refine aQ rfl rfl rfl ?_;refine aQ rfl rfl rfl ?_;refine aT rfl rfl ?_;refine aA (bH rfl rfl) rfl ?_;refine aA (bH rfl rfl) rfl ?_;refine aG (aE ?_);refine eS rfl ?_;refine aI (aB ?_);refine aA (aF rfl) rfl ?_;refine aG (aE ?_);refine bM ?_;refine bQ ?_;refine bC ?_;refine bC ?_;refine bQ ?_;refine bC ?_;refine aO .nil ?_;refine bJ rfl rfl (Hl.le_refl _) ?_;refine retB ?_ _
          first
            | (rw [Bool.eq_iff_iff, gF]
               simp only [decide_eq_true_eq];exact ⟨fun h => ⟨hall, by assumption, by omega⟩, fun h => by omega⟩)
            | (symm; rw [Bool.eq_false_iff]; intro hbx; exact absurd ((gF s).1 hbx).2.1 bP)
            | (symm; rw [Bool.eq_false_iff]; intro hbx
               have := ((gF s).1 hbx).1 i c hc;unfold iL at this;simp only [Bool.or_eq_true, Bool.and_eq_true, decide_eq_true_eq] at this;have hl : fY c = false := by simpa using g16
               rw [hl] at this;simp at this;omega)
        ·
          refine aT rfl rfl ?_;refine aA (aC rfl) rfl ?_;refine aT rfl rfl ?_;refine aA (bT rfl rfl) rfl ?_;refine aT rfl rfl ?_;refine aA (a8 rfl rfl) rfl ?_;refine aA (bH rfl rfl) rfl ?_;refine aG (aE ?_);refine bE 27 rfl (fun h27 => ?_) (fun h27 => ?_)
          ·
            refine aI (aB ?_);refine aA (aF rfl) rfl ?_;refine aG (aE ?_);refine bM ?_;refine bQ ?_;refine bC ?_;refine bC ?_;refine bQ ?_;refine bC ?_;refine aO .nil ?_;refine bJ rfl rfl (Hl.le_refl _) ?_;refine retB ?_ _
            first
              | (rw [Bool.eq_iff_iff, gF]
                 simp only [decide_eq_true_eq];exact ⟨fun h => ⟨hall, by assumption, by omega⟩, fun h => by omega⟩)
              | (symm; rw [Bool.eq_false_iff]; intro hbx; exact absurd ((gF s).1 hbx).2.1 bP)
              | (symm; rw [Bool.eq_false_iff]; intro hbx
                 have := ((gF s).1 hbx).1 i c hc;unfold iL at this;simp only [Bool.or_eq_true, Bool.and_eq_true, decide_eq_true_eq] at this;have hl : fY c = false := by simpa using g16
                 rw [hl] at this;simp at this;omega)
          ·
            refine a6 ?_;refine aN (aE ?_);refine aB ?_;refine aA (bZ rfl rfl aH aH) rfl ?_;refine aA (aC rfl) rfl ?_;refine aG ?_;have hb : iL i c = true := (by unfold iL; simp only [Bool.or_eq_true, Bool.and_eq_true, decide_eq_true_eq]; first | (left; left; simpa using g16; done) | (left; right; omega) | (right; omega));refine cL (i + 1) ⟨by omega, fun j c2 hj hc2 => ?_⟩ aH (.cons 0 rfl (.cons 6 rfl (.cons 7 rfl (.cons 8 rfl .nil)))) rfl (fun _ h => h)
            rcases Nat.lt_or_ge j i with h | h
            · exact hi1 j c2 h hc2
            · have e : j = i := by omega
              subst e; rw [hc] at hc2; cases hc2; exact hb
      ·
        refine aQ rfl rfl rfl ?_;refine aQ rfl rfl rfl ?_;refine aQ rfl rfl rfl ?_;refine gB rfl rfl rfl ?_;refine gB rfl rfl rfl ?_;refine aQ rfl rfl rfl ?_;refine aA (a8 rfl rfl) rfl ?_;refine aG (aE ?_);refine cQ rfl ?_;refine a6 ?_;refine aN (aE ?_);refine aB ?_;refine aA (bZ rfl rfl aH aH) rfl ?_;refine aA (aC rfl) rfl ?_;refine aG ?_;have hb : iL i c = true := (by unfold iL; simp only [Bool.or_eq_true, Bool.and_eq_true, decide_eq_true_eq]; first | (left; left; simpa using g16; done) | (left; right; omega) | (right; omega));refine cL (i + 1) ⟨by omega, fun j c2 hj hc2 => ?_⟩ aH (.cons 0 rfl (.cons 6 rfl (.cons 7 rfl (.cons 8 rfl .nil)))) rfl (fun _ h => h)
        rcases Nat.lt_or_ge j i with h | h
        · exact hi1 j c2 h hc2
        · have e : j = i := by omega
          subst e; rw [hc] at hc2; cases hc2; exact hb
    ·
      refine aQ rfl rfl rfl ?_;refine aQ rfl rfl rfl ?_;refine aA (a8 rfl rfl) rfl ?_;refine aA (aC rfl) rfl ?_;refine aQ rfl rfl rfl ?_;refine aQ rfl rfl rfl ?_;refine aQ rfl rfl rfl ?_;refine gB rfl rfl rfl ?_;refine gB rfl rfl rfl ?_;refine aQ rfl rfl rfl ?_;refine aA (a8 rfl rfl) rfl ?_;refine aG (aE ?_);refine cQ rfl ?_;refine a6 ?_;refine aN (aE ?_);refine aB ?_;refine aA (bZ rfl rfl aH aH) rfl ?_;refine aA (aC rfl) rfl ?_;refine aG ?_;have hb : iL i c = true := (by unfold iL; simp only [Bool.or_eq_true, Bool.and_eq_true, decide_eq_true_eq]; first | (left; left; simpa using g16; done) | (left; right; omega) | (right; omega));refine cL (i + 1) ⟨by omega, fun j c2 hj hc2 => ?_⟩ aH (.cons 0 rfl (.cons 6 rfl (.cons 7 rfl (.cons 8 rfl .nil)))) rfl (fun _ h => h)
      rcases Nat.lt_or_ge j i with h | h
      · exact hi1 j c2 h hc2
      · have e : j = i := by omega
        subst e; rw [hc] at hc2; cases hc2; exact hb
  ·
    have hall : ∀ j c, s[j]? = some c → iL j c = true := fun j c hc => hi1 j c (by rcases Nat.lt_or_ge j s.length with h | h; omega; (rw [List.getElem?_eq_none h] at hc; cases hc)) hc
    refine cY ?_;refine aV ?_;refine aV ?_;refine bL ?_;refine aE (aI ?_);refine aB ?_;refine aA (aC rfl) rfl ?_;refine aA (oX rfl rfl) rfl ?_;refine aA (aC rfl) rfl ?_;refine cA 31 rfl (fun g31 => ?_) (fun g31 => ?_)
    ·
      refine aT rfl rfl ?_;refine aA (aC rfl) rfl ?_;refine aT rfl rfl ?_;refine aA (cB rfl Tryz.underlying9 rfl) rfl ?_;refine aT rfl rfl ?_;refine aA (j7 rfl rfl) rfl ?_;refine aA (bH rfl rfl) rfl ?_;refine aA (aF rfl) rfl ?_;refine aG (aE ?_);refine bM ?_;refine aO .nil ?_;refine bJ rfl rfl (Hl.le_refl _) ?_;refine retB ?_ _
      first
        | (rw [Bool.eq_iff_iff, gF]
           simp only [decide_eq_true_eq];exact ⟨fun h => ⟨hall, by assumption, by omega⟩, fun h => by omega⟩)
        | (symm; rw [Bool.eq_false_iff]; intro hbx; exact absurd ((gF s).1 hbx).2.1 bP)
        | (symm; rw [Bool.eq_false_iff]; intro hbx
           have := ((gF s).1 hbx).1 i c hc;unfold iL at this;simp only [Bool.or_eq_true, Bool.and_eq_true, decide_eq_true_eq] at this;have hl : fY c = false := by simpa using g16
           rw [hl] at this;simp at this;omega)
    ·
      refine aQ rfl rfl rfl ?_;refine aQ rfl rfl rfl ?_;refine aQ rfl rfl rfl ?_;refine aA (a8 rfl rfl) rfl ?_;refine aA (aF rfl) rfl ?_;refine aG (aE ?_);refine bM ?_;refine aO .nil ?_;refine bJ rfl rfl (Hl.le_refl _) ?_;refine retB ?_ _
      first
        | (rw [Bool.eq_iff_iff, gF]
           simp only [decide_eq_true_eq];exact ⟨fun h => ⟨hall, by assumption, by omega⟩, fun h => by omega⟩)
        | (symm; rw [Bool.eq_false_iff]; intro hbx; exact absurd ((gF s).1 hbx).2.1 bP)
        | (symm; rw [Bool.eq_false_iff]; intro hbx
           have := ((gF s).1 hbx).1 i c hc;unfold iL at this;simp only [Bool.or_eq_true, Bool.and_eq_true, decide_eq_true_eq] at this;have hl : fY c = false := by simpa using g16
           rw [hl] at this;simp at this;omega)
end Go.Proofs
end
section
namespace Go.Proofs
open Go Go.SL Go.Syn Go.Mach
def dG : El gC := { e := 34, sz := 2, enc := fun a => [i64 a.1, str a.2], len := fun _ => rfl, one := fun _ u h => by simp at h; rcases h with rfl | rfl <;> rfl }
def mch (b mb : Nat) (m : Msg) (hv pv : Value) (nm : Bool) (s : MS) : Asn := fun h => ∃ av sv f c, Sat [mblk b (str m.from_) (str m.to_) (i64 m.size) hv av (.bool s.keep) (.bool nm) (.map (some mb)) pv sv s.pc, sl true dG av s.acts, sl false fM sv s.stack, pt mb (mapO (gM s.vars f) c)] h
section
variable {E : Env} {c0 : Code} {x0 : Exit} {fr : Fr} {K : Hl} {L : List Asn} {Q : Post} {b mb : Nat} {m : Msg} {hv pv : Value} {nm : Bool} {s : MS}
theorem aAH {h : Hl} : Sat (mch b mb m hv pv nm s :: L) h ↔ ∃ av sv f c, Sat ([mblk b (str m.from_) (str m.to_) (i64 m.size) hv av (.bool s.keep) (.bool nm) (.map (some mb)) pv sv s.pc, sl true dG av s.acts, sl false fM sv s.stack, pt mb (mapO (gM s.vars f) c)] ++ L) h := by
 constructor
 ·rintro ⟨a, l, ⟨av, sv, f, c, hs⟩, hl, hd, rfl⟩; exact ⟨av, sv, f, c, e9.2 ⟨a, l, hs, hl, hd, rfl⟩⟩
 ·rintro ⟨av, sv, f, c, hs⟩; obtain ⟨a, l, ha, hl, hd, rfl⟩ := e9.1 hs; exact ⟨a, l, ⟨av, sv, f, c, ha⟩, hl, hd, rfl⟩
theorem oP (h : ∀ av sv f c, T E c0 fr K ([mblk b (str m.from_) (str m.to_) (i64 m.size) hv av (.bool s.keep) (.bool nm) (.map (some mb)) pv sv s.pc, sl true dG av s.acts, sl false fM sv s.stack, pt mb (mapO (gM s.vars f) c)] ++ L) Q) : T E c0 fr K (mch b mb m hv pv nm s :: L) Q := fun a w f i => by
 obtain ⟨x, hs, r⟩ := i.rep;obtain ⟨av, sv, f1, c, hs⟩ := aAH.1 hs;exact h av sv f1 c a w f ⟨i.os, i.tape, i.output, i.size, x, hs, r⟩
theorem dK {av sv : Value} {f : Nat → Nat} {c : Nat} : ∀ h, Sat (mblk b (str m.from_) (str m.to_) (i64 m.size) hv av (.bool s.keep) (.bool nm) (.map (some mb)) pv sv s.pc :: sl true dG av s.acts :: sl false fM sv s.stack :: pt mb (mapO (gM s.vars f) c) :: L) h → Sat (mch b mb m hv pv nm s :: L) h := fun h hs => aAH.2 ⟨av, sv, f, c, hs⟩
end
def MI (b mb : Nat) (m : Msg) (hv : Value) (nm : Bool) (r : Res MS) : Ending → Hl → List Asn → Prop := fE r fun s' v K' L' => v = .tuple #[] ∧ ∃ pv', Ksl (bK 9) K' pv' s'.parts ∧ L' = [mch b mb m hv pv' nm s']
theorem wN {P : Program} {f : FuncId} {args : List Value} {K : Hl} {L : List Asn} {R R' : Ending → Hl → List Asn → Prop} (h : Sp P f args K L R) (k : ∀ e K' L', R e K' L' → ∃ S M, L' = S ++ M ∧ R' e K' S) : Sp P f args K L R' :=
 ⟨h.1, fun F w i => (h.2 F w i).mono fun e w' ⟨K', L', r, le, j⟩ => let ⟨S, M, e1, r'⟩ := k _ _ _ r; ⟨K', S, r', le, by subst e1; exact j.left⟩⟩
theorem mN (p : Prop) [Decidable p] (b : Nat) (c0 c1 c2 c3 c4 c5 c6 c7 c8 c9 : Value) (pc : Int) (K : Hl) : Sp Tryz.prog 92 [ptr b, .bool (decide p)] K [mblk b c0 c1 c2 c3 c4 c5 c6 c7 c8 c9 pc]
  (fE (if p then .ok () else .error (12, pc)) fun _ v K' L' => v = .tuple #[] ∧ K' = K ∧ L' = [mblk b c0 c1 c2 c3 c4 c5 c6 c7 c8 c9 pc]) := by
 refine wN (s8 p b c0 c1 c2 c3 c4 c5 c6 c7 c8 c9 pc K) fun e K' L' h => ?_
 rcases h with ⟨hp, v, rfl, rfl, rfl, rfl⟩ | ⟨hp, fb, rfl, rfl, rfl⟩
 ·rw [if_pos hp]; exact ⟨_, [], (List.append_nil _).symm, _, rfl, rfl, rfl, rfl⟩
 ·rw [if_neg hp]; exact ⟨[_], _, rfl, fb, rfl, rfl⟩
theorem m8 (b : Nat) (c0 c1 c2 c3 c4 c5 c6 c7 c8 c9 : Value) (pc : Int) (K : Hl) : Sp Tryz.prog 92 [ptr b, .bool false] K [mblk b c0 c1 c2 c3 c4 c5 c6 c7 c8 c9 pc] (Flt 12 pc) := by
 refine wN (wA b c0 c1 c2 c3 c4 c5 c6 c7 c8 c9 pc K) fun e K' L' h => ?_
 obtain ⟨fb, rfl, rfl, rfl⟩ := h;exact ⟨[_], _, rfl, fb, rfl, rfl⟩
theorem gY (x : Value) (e at_ : Int) (K : Hl) : Sp Tryz.prog 90 [x, i64 e, i64 at_] K [] (Flt e at_) := by
 refine wN (yJ x e at_ K) fun en K' L' h => ?_
 obtain ⟨fb, rfl, rfl, rfl⟩ := h;exact ⟨[_], [], rfl, fb, rfl, rfl⟩
theorem aG0 (n : Int) (h0 : -9223372036854775808 ≤ n) (h1 : n ≤ 9223372036854775807) (K : Hl) (hg : Glob K) : Sp Tryz.prog 129 [i64 n] K [] (Val (str (Lib.itoa n)) K) := by
 refine nB ⟨_, Tryz.func129, rfl, rfl⟩ fun w hw => (Tryz.strconv_Itoa n h0 h1 w (hg.pow10 w hw)).mono fun e w' ⟨he, k, os, hw'⟩ => ⟨he, ?_⟩
 rw [hw']; exact Lib.below_grow _ _ (Nat.le_refl _) k os
theorem hH {nm : Bool} {vars : List (List UInt8 × List UInt8)} {parts : List (List UInt8)} {s : List UInt8} (h : s.length ≤ 100000) : (cP nm vars parts s).length ≤ 100000 := by
 unfold cP;split
 ·have := List.length_take_le 1024 (fS vars parts (s.length + 1) s []); omega
 ·exact h
theorem fI (l : List UInt8) (n : Nat) : l.take (min l.length n) = l.take n := by
 rcases Nat.le_total l.length n with h | h
 ·rw [Nat.min_eq_left h, List.take_length, List.take_of_length_le h]
 ·rw [Nat.min_eq_right h]
abbrev kO (o : Ins) (av bv : Value) : Value := .agg #[i64 o.op, i64 o.n, i64 o.tag, .bool o.oct, av, bv, i64 o.at_]
theorem aNB {nm : Bool} {o : Ins} {s : MS} {a b : List UInt8} (ht : 0 ≤ o.tag ∧ o.tag ≤ 3) (ha : o.a[0]? = some a) (hb : o.b[0]? = some b) : setI nm o s = .ok { s with vars := vput s.vars a ((if o.tag = 1 then cU (cP nm s.vars s.parts b) else if o.tag = 2 then aDX (cP nm s.vars s.parts b) else if o.tag = 3 then Lib.itoa (cP nm s.vars s.parts b).length else cP nm s.vars s.parts b).take 48) } := by
 obtain ⟨op, n, tag, oct, oa, ob, p⟩ := o;cases oa with
 | nil => cases ha
 | cons x xs =>
  cases ob with
  | nil => cases hb
  | cons y ys =>
   cases ha; cases hb
   unfold setI; rw [if_pos ht]
theorem uJ {nm : Bool} {o : Ins} {s : MS} (h : ¬ (0 ≤ o.tag ∧ o.tag ≤ 3 ∧ 0 < o.a.length ∧ 0 < o.b.length)) : setI nm o s = .error (12, s.pc) := by
 obtain ⟨op, n, tag, oct, oa, ob, p⟩ := o;unfold setI;split
 ·rename_i ht;split
  ·rename_i h1 h2; simp only at h1 h2; subst h1; subst h2; exact absurd ⟨ht.1, ht.2, by simp, by simp⟩ h
  ·rfl
 ·rfl
theorem aH3 (b mb : Nat) (m : Msg) (hv pv : Value) (nm : Bool) (s : MS) (o : Ins) (av bv : Value) (n : Int) (K : Hl) (hg : Glob K) (hpv : Ksl (bK 9) K pv s.parts) (ha : Ksl (bK 9) K av o.a) (hb : Ksl (bK 9) K bv o.b) (hs : ∀ x ∈ o.b, x.length ≤ 100000) (hsm : nG s.vars s.parts) :
  Sp Tryz.prog 154 [ptr b, kO o av bv, i64 n] K [mch b mb m hv pv nm s] (MI b mb m hv nm (setI nm o s)) := by
 obtain ⟨sa, sn, sc, rfl⟩ := ha.isSlice;obtain ⟨ta, tn, tc, rfl⟩ := hb.isSlice;refine bB Tryz.func154 rfl Tryz.ntmps154 rfl rfl fun F w => ?_
 refine oP fun av sv f c => ?_
 refine aI (aB ?_);refine ol_s (eM rfl rfl) rfl ?_;rintro _ K _ ⟨b4, rfl, rfl, rfl⟩ -;refine aG (aE ?_);refine aI (aB ?_);refine aA (aC rfl) rfl ?_;refine aA (aD (o' := 2) eF rfl rfl) rfl ?_;refine aA (aK ts3 rfl aM rfl) rfl ?_;refine aA (gU rfl rfl) rfl ?_;refine aA (aC rfl) rfl ?_;refine cA 11 rfl (fun g11 => ?_) (fun g11 => ?_)
 ·
  refine aT rfl rfl ?_;refine aA (aD (o' := 2) eF rfl rfl) rfl ?_;refine aT rfl rfl ?_;refine aA (aK ts3 rfl aM rfl) rfl ?_;refine aT rfl rfl ?_;refine aA (j7 rfl rfl) rfl ?_;refine aA (bH rfl rfl) rfl ?_;refine aA (aC rfl) rfl ?_;refine cA 16 rfl (fun g16 => ?_) (fun g16 => ?_)
  ·
   refine aT rfl rfl ?_;refine aA (aD (o' := 4) jN rfl rfl) rfl ?_;refine aT rfl rfl ?_;refine aA (aK ts39 rfl aM rfl) rfl ?_;refine aT rfl rfl ?_;refine aA (cE (k := (bK 9)) rfl Tryz.underlying39 rfl aM) rfl ?_;refine aT rfl rfl ?_;refine aA (jG rfl rfl) rfl ?_;refine aA (bH rfl rfl) rfl ?_;refine aA (aC rfl) rfl ?_;refine cA 22 rfl (fun g22 => ?_) (fun g22 => ?_)
   ·
    refine aT rfl rfl ?_;refine aA (aD (o' := 5) wU rfl rfl) rfl ?_;refine aT rfl rfl ?_;refine aA (aK ts39 rfl aM rfl) rfl ?_;refine aT rfl rfl ?_;refine aA (cE (k := (bK 9)) rfl Tryz.underlying39 rfl aM) rfl ?_;refine aT rfl rfl ?_;refine aA (jG rfl rfl) rfl ?_;refine aA (bH rfl rfl) rfl ?_;refine aW rfl rfl (mN (0 < (o.b.length : Int)) _ _ _ _ _ _ _ _ _ _ _ _ _) (.cons (.there .here) .nil) rfl (fun _ _ => aX _ _) ?_ ?_
    ·
     rintro _ _ _ hTr le1;obtain ⟨e, p, hu, fb, h, rfl⟩ := aY hTr;cases h
     refine aO (.cons .here .nil) ?_;refine aJ ?_;refine bA bP ?_;have hbl : ¬ (0 < (o.b.length : Int)) := (by intro h; rw [if_pos h] at hu; cases hu);rw [if_neg hbl] at hu;cases hu
     have hno := uJ (nm := nm) (s := s) (o := o) aH;unfold MI;rw [hno];exact ⟨fb, rfl, rfl⟩
    rintro _ K _ hTr -;obtain ⟨u0, hu, rfl, rfl, rfl⟩ := aZ hTr;clear hTr;have hbl : 0 < (o.b.length : Int) := Classical.byContradiction (fun h => by rw [if_neg h] at hu; cases hu);obtain ⟨xa, hxa⟩ : ∃ x, o.a[0]? = some x := ⟨o.a[0]'(by omega), List.getElem?_eq_getElem aH⟩;obtain ⟨xb, hxb⟩ : ∃ x, o.b[0]? = some x := ⟨o.b[0]'(by omega), List.getElem?_eq_getElem aH⟩;have hok := aNB (nm := nm) (s := s) (show 0 ≤ o.tag ∧ o.tag ≤ 3 by omega) hxa hxb;have hel : (cP nm s.vars s.parts xb).length ≤ 100000 := hH (hs xb (List.mem_of_getElem? hxb));refine aG (aE ?_);refine aI (aB ?_);refine aA (aC rfl) rfl ?_;refine aA (aD (o' := 5) wU rfl rfl) rfl ?_;refine aA (aK ts39 rfl aM rfl) rfl ?_;refine aA (b0 (k := bK 9) (j := 0) cT rfl (.known hb) rfl rfl aH) rfl ?_;refine aA (dO (o := 0) (k := (bK 9)) ts9 rfl aM bP rfl) rfl ?_;refine bD rfl rfl (m5 b mb _ _ _ _ _ _ pv _ _ nm s.vars f c s.parts xb _ hg hpv (hs xb (List.mem_of_getElem? hxb)) hsm) (.cons .here (.cons (.there (.there (.there .here))) .nil)) rfl ?_;rintro _ K _ ⟨rfl, rfl, rfl⟩ -;refine aA (aF rfl) rfl ?_;refine aG (aE ?_);refine hO (fun (u : List UInt8) => setI nm o s = .ok { s with vars := vput s.vars xa (u.take 48) }) (fun u => [(0, ptr b), (4, ptr b4), (6, str u)]) (fun _ => K) (fun _ => [mblk b (str m.from_) (str m.to_) (i64 m.size) hv av (.bool s.keep) (.bool nm) (.map (some mb)) pv sv s.pc, sl true dG av s.acts, sl false fM sv s.stack, pt mb (mapO (gM s.vars f) c), pt b4 (aU [i64 o.op, i64 o.n, i64 o.tag, .bool o.oct, .slice sa sn sc, .slice ta tn tc, i64 o.at_] 41)]) ?_ ?_
    ·
     refine aI (aB ?_);refine aA (aD (o' := 2) eF rfl rfl) rfl ?_;refine aA (aK ts3 rfl aM rfl) rfl ?_;refine aG (aE ?_);refine bF (aI ?_);refine aB ?_;refine aA (bT rfl rfl) rfl ?_;refine aA (aF rfl) rfl ?_;refine aG (aE ?_);refine bE 37 rfl (fun h37 => ?_) (fun h37 => ?_)
     ·
      refine aB ?_;refine aA (aC rfl) rfl ?_;refine cF rfl rfl (fA _ _ aH) rfl ?_;refine aA (aF rfl) rfl ?_;refine aG (aN ?_);refine aO (.cons .here (.cons (.there (.there .here)) (.cons (.there (.there .here)) (.cons .here (.cons .here .nil))))) ?_;refine bX _ ?_ (.cons 0 rfl (.cons 4 rfl (.cons 6 rfl .nil))) rfl (fun _ h => h)
      first
       | (rw [hok, if_pos h37]; done)
       | (rw [hok, if_neg h37, if_pos h41]; done)
       | (rw [hok, if_neg h37, if_neg h41, if_pos h45]; done)
       | (rw [hok, if_neg h37, if_neg h41, if_neg h45]; done)
     ·
      refine aI (aB ?_);refine aA (bT rfl rfl) rfl ?_;refine aA (aF rfl) rfl ?_;refine aG (aE ?_);refine bE 41 rfl (fun h41 => ?_) (fun h41 => ?_)
      ·
       refine aB ?_;refine aA (aC rfl) rfl ?_;refine cF rfl rfl (aDY _ _ aH) rfl ?_;refine aA (aF rfl) rfl ?_;refine aG (aN ?_);refine aO (.cons .here (.cons (.there (.there .here)) (.cons (.there (.there .here)) (.cons .here (.cons .here .nil))))) ?_;refine bX _ ?_ (.cons 0 rfl (.cons 4 rfl (.cons 6 rfl .nil))) rfl (fun _ h => h)
       first
        | (rw [hok, if_pos h37]; done)
        | (rw [hok, if_neg h37, if_pos h41]; done)
        | (rw [hok, if_neg h37, if_neg h41, if_pos h45]; done)
        | (rw [hok, if_neg h37, if_neg h41, if_neg h45]; done)
      ·
       refine aI (aB ?_);refine aA (bT rfl rfl) rfl ?_;refine aA (aF rfl) rfl ?_;refine aG (aE ?_);refine bE 45 rfl (fun h45 => ?_) (fun h45 => ?_)
       ·
        refine aB ?_;refine aA (aC rfl) rfl ?_;refine aA (cB rfl Tryz.underlying9 rfl) rfl ?_;refine cF rfl rfl (aG0 _ aH aH _ hg) rfl ?_;refine aA (aF rfl) rfl ?_;refine aG (aN ?_);refine aO (.cons .here (.cons (.there (.there .here)) (.cons (.there (.there .here)) (.cons .here (.cons .here .nil))))) ?_;refine bX _ ?_ (.cons 0 rfl (.cons 4 rfl (.cons 6 rfl .nil))) rfl (fun _ h => h)
        first
         | (rw [hok, if_pos h37]; done)
         | (rw [hok, if_neg h37, if_pos h41]; done)
         | (rw [hok, if_neg h37, if_neg h41, if_pos h45]; done)
         | (rw [hok, if_neg h37, if_neg h41, if_neg h45]; done)
       ·
        refine a6 ?_;refine aN ?_;refine aO (.cons .here (.cons (.there (.there .here)) (.cons (.there (.there .here)) (.cons .here (.cons .here .nil))))) ?_;refine bX _ ?_ (.cons 0 rfl (.cons 4 rfl (.cons 6 rfl .nil))) rfl (fun _ h => h)
        first
         | (rw [hok, if_pos h37]; done)
         | (rw [hok, if_neg h37, if_pos h41]; done)
         | (rw [hok, if_neg h37, if_neg h41, if_pos h45]; done)
         | (rw [hok, if_neg h37, if_neg h41, if_neg h45]; done)
    ·
     intro u hok;refine t_draw (anc := [0, 1, 3, 7, 0, 16, 48, 112, 0, 0, 512, 1536, 3840, 7936, 16383]) (ord := [0, 1, 2, 3, 4, 5, 6, 7, 8, 9, 10, 11, 12, 13, 14]) [14] [14] mixed (by decide +kernel) (cS _) ?_;refine dl_ev rfl rfl (.none rfl) rfl rfl (aC rfl) rfl ?_;refine dl_ev rfl rfl (.none rfl) rfl rfl bS rfl ?_;refine dl_ev rfl rfl (.none rfl) rfl rfl (aD (o' := 7) qF rfl rfl) rfl ?_;refine dl_ev rfl rfl (.none rfl) rfl rfl (aK aFX rfl aM rfl) rfl ?_;refine dl_ev rfl rfl (.none rfl) rfl rfl (aD (o' := 4) jN rfl rfl) rfl ?_;refine dl_ev rfl rfl (.none rfl) rfl rfl (aK ts39 rfl aM rfl) rfl ?_;refine dl_ev rfl rfl (.none rfl) rfl rfl (b0 (k := bK 9) (j := 0) cT rfl (.known ha) rfl rfl aH) rfl ?_;refine dl_ev rfl rfl (.none rfl) rfl rfl (dO (o := 0) (k := (bK 9)) ts9 rfl aM bP rfl) rfl ?_;refine dl_ev rfl rfl (.none rfl) rfl rfl (aC rfl) rfl ?_;refine dl_ev rfl rfl (.none rfl) rfl rfl (aC rfl) rfl ?_;refine dl_ev rfl rfl (.none rfl) rfl rfl (cB rfl Tryz.underlying9 rfl) rfl ?_;refine dl_ev rfl rfl (.none rfl) rfl rfl (kM rfl rfl) rfl ?_;refine dl_ev rfl rfl (.none rfl) rfl rfl (dX (n := min u.length 48) Tryz.underlying9 rfl rfl (by split <;> omega) aH) rfl ?_;refine dl_ev rfl rfl (.none rfl) rfl rfl (cK aRD aP8 (.cons rfl rfl rfl (.cons .nil) .nil)) rfl ?_;refine r6 rfl rfl (.none rfl) rfl (aQZ Tryz.underlying175 Tryz.underlying9 rfl rfl rfl a7) ?_;rintro _ K _ ⟨rfl, rfl⟩ -;refine dl_nil ?_;obtain ⟨f', hf'⟩ := aIW xa (u.take (min u.length 48)) c s.vars f;rw [hf', fI];refine aO (.cons .here (.cons .here (.cons .here (.cons .here .nil)))) ?_;refine dV (dK (m := m) (hv := hv) (pv := pv) (nm := nm) (s := { s with vars := vput s.vars xa (u.take 48) })) ?_;refine dE rfl (Hl.le_refl _) ?_;unfold MI;rw [hok];exact ⟨_, rfl, rfl, pv, hpv, rfl⟩
   ·
    have hno := uJ (nm := nm) (s := s) (o := o) aH;refine aQ rfl rfl rfl ?_;refine aQ rfl rfl rfl ?_;refine aQ rfl rfl rfl ?_;refine aQ rfl rfl rfl ?_;refine aA (a8 rfl rfl) rfl ?_;refine aW rfl rfl (m8 _ _ _ _ _ _ _ _ _ _ _ _ _) (.cons (.there .here) .nil) rfl (by rintro _ _ ⟨_, h, _⟩; cases h) ?_ ?_
    ·
     rintro _ _ _ ⟨fb, h, rfl⟩ le1;cases h
     refine aO (.cons .here .nil) ?_;refine aJ ?_;refine bA bP ?_;simp only [MI, hno, if_true, if_false, ↓reduceIte];exact ⟨fb, rfl, rfl⟩
    ·
     rintro _ _ _ ⟨_, h, _⟩; cases h
  ·
   have hno := uJ (nm := nm) (s := s) (o := o) aH;refine aQ rfl rfl rfl ?_;refine aQ rfl rfl rfl ?_;refine aQ rfl rfl rfl ?_;refine aQ rfl rfl rfl ?_;refine aA (a8 rfl rfl) rfl ?_;refine aA (aC rfl) rfl ?_;refine aQ rfl rfl rfl ?_;refine aQ rfl rfl rfl ?_;refine aQ rfl rfl rfl ?_;refine aQ rfl rfl rfl ?_;refine aA (a8 rfl rfl) rfl ?_;refine aW rfl rfl (m8 _ _ _ _ _ _ _ _ _ _ _ _ _) (.cons (.there .here) .nil) rfl (by rintro _ _ ⟨_, h, _⟩; cases h) ?_ ?_
   ·
    rintro _ _ _ ⟨fb, h, rfl⟩ le1;cases h
    refine aO (.cons .here .nil) ?_;refine aJ ?_;refine bA bP ?_;simp only [MI, hno, if_true, if_false, ↓reduceIte];exact ⟨fb, rfl, rfl⟩
   ·
    rintro _ _ _ ⟨_, h, _⟩; cases h
 ·
  have hno := uJ (nm := nm) (s := s) (o := o) aH;refine aQ rfl rfl rfl ?_;refine aQ rfl rfl rfl ?_;refine aQ rfl rfl rfl ?_;refine aA (a8 rfl rfl) rfl ?_;refine aA (aC rfl) rfl ?_;refine aQ rfl rfl rfl ?_;refine aQ rfl rfl rfl ?_;refine aQ rfl rfl rfl ?_;refine aQ rfl rfl rfl ?_;refine aA (a8 rfl rfl) rfl ?_;refine aA (aC rfl) rfl ?_;refine aQ rfl rfl rfl ?_;refine aQ rfl rfl rfl ?_;refine aQ rfl rfl rfl ?_;refine aQ rfl rfl rfl ?_;refine aA (a8 rfl rfl) rfl ?_;refine aW rfl rfl (m8 _ _ _ _ _ _ _ _ _ _ _ _ _) (.cons (.there .here) .nil) rfl (by rintro _ _ ⟨_, h, _⟩; cases h) ?_ ?_
  ·
   rintro _ _ _ ⟨fb, h, rfl⟩ le1;cases h
   refine aO (.cons .here .nil) ?_;refine aJ ?_;refine bA bP ?_;simp only [MI, hno, if_true, if_false, ↓reduceIte];exact ⟨fb, rfl, rfl⟩
  ·
   rintro _ _ _ ⟨_, h, _⟩; cases h
end Go.Proofs
end

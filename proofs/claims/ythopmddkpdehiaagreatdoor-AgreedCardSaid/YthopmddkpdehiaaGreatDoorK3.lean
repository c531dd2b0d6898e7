/-
  What the proof stands on, part 3: the logic of walks, the walks through the functions, the plain laws. Conditions: as each theorem says. (Merged and shortened by a program.)
-/
import Derived.Lib.AppendIntMem
import Derived.Test.YthopmddkpdehiaaGreatDoorK1
import Derived.Test.YthopmddkpdehiaaGreatDoorK2
set_option linter.unusedVariables false
set_option linter.unusedSimpArgs false
section
namespace Go.Syn
def Adv {α : Type} (s : aO) (T : St → Res (α × St)) : Prop := ∀ st r, Ok s st → T st = .ok r → Ok s r.2 ∧ mu s r.2 < mu s st
def AdvE {α : Type} (s : aO) (T : St → Res (α × St)) : Prop := ∀ st r, Ok s st → T st = .ok r → Ok s r.2 ∧ mu s r.2 ≤ mu s st
def AdvN {α : Type} (s : aO) (T : St → Res (α × St)) : Prop := ∀ st r, Ok s st → st.2.kind ≠ 0 → T st = .ok r → Ok s r.2 ∧ mu s r.2 < mu s st
theorem Adv.n {α : Type} {s : aO} {T : St → Res (α × St)} (h : Adv s T) : AdvN s T := fun st r hok _ e => h st r hok e
variable {s : aO}
theorem dN {st r : St} (hok : Ok s st) (hk : st.2.kind ≠ 0) (h : next s st.1 = .ok r) : Ok s r ∧ mu s r < mu s st := ⟨dT hok.1 h, (eS hok.1 hk h).1⟩
theorem m6 {st : St} {k : Nat} {texts : List aO} {r : Word × St} (hok : Ok s st) (hk : k ≠ 0) (h : take s st k texts = .ok r) : Ok s r.2 ∧ mu s r.2 < mu s st := ⟨rV hok.1 h, (zS hok.1 hk h).1⟩
theorem fH {st r : St} {x : aO} (hok : Ok s st) (h : sign s st x = .ok r) : Ok s r ∧ mu s r < mu s st := ⟨tU hok.1 h, (aE1 hok.1 h).1⟩
theorem pD {st : St} {x : aO} {r : Bool × St} (hok : Ok s st) (h : eat s st x = .ok r) : Ok s r.2 ∧ mu s r.2 ≤ mu s st := ⟨sG hok h, (sF hok.1 h).2.1⟩
theorem kX {st : St} {ff : aO → Int} {r : aO × St} (hok : Ok s st) (h : text s st ff = .ok r) : Ok s r.2 ∧ mu s r.2 < mu s st := ⟨jZ hok.1 h, (iI hok.1 h).1⟩
theorem xH : ∀ {f : Nat} {h : How} {st : St} {r : How × St}, Ok s st → eL s f h st = .ok r → Ok s r.2 ∧ mu s r.2 ≤ mu s st := by
 intro f;induction f with
 | zero => intro h st r _ e; cases e
 | succ f ih =>
  intro h st r hok e;simp only [eL] at e;split at e
  ·rename_i hk;split at e
   ·cases e
   split at e
   ·cases e
   split at e
   ·split at e
    ·cases e
    ·rename_i q hq;have h1 := dN hok aH hq;have := ih h1.1 e; exact ⟨this.1, by omega⟩
   ·split at e
    ·cases e
    ·rename_i q hq;have h1 := dN hok aH hq;split at e
     ·cases e
     ·rename_i x hx;have h2 := kX h1.1 hx;have := ih h2.1 e; exact ⟨this.1, by omega⟩
  ·cases e; exact ⟨hok, Nat.le_refl _⟩
theorem qO {needs : List aO} {op : Int} {ext : aO} : AdvN s (jD s needs op ext) := by
 intro st r hok hk e;unfold jD at e;split at e
 ·cases e
 split at e
 ·cases e
 rename_i q hq;have h1 := dN hok hk hq;unfold lV at e;split at e
 ·cases e
 rename_i h hh;have h2 := xH h1.1 hh;split at e
 ·cases e
 rename_i a ha;have h3 := kR h2.1 ha;split at e
 ·cases e
 rename_i b hb;have h4 := kR h3.1 hb;cases e
 exact ⟨h4.1, by simp only []; omega⟩
theorem oU {c : Tree} : AdvN s (jY s c) := by
 intro st r hok hk e;unfold jY at e;split at e
 ·cases e
 rename_i q hq;have h1 := dN hok hk hq;split at e
 ·cases e
 rename_i x hx;have h2 := fH h1.1 hx;cases e
 exact ⟨h2.1, by simp only []; omega⟩
theorem uD {needs : List aO} {k : Int} {ext : aO} {p : Int} : AdvN s (actC s needs k ext p) := by
 intro st r hok hk e;unfold actC at e;split at e
 ·cases e
 split at e
 ·cases e
 rename_i q hq;have h1 := dN hok hk hq;split at e
 ·cases e
 rename_i x hx;have h2 := m6 h1.1 (by decide) hx;split at e
 ·cases e
 rename_i y hy;have h3 := fH h2.1 hy;cases e
 exact ⟨h3.1, by simp only []; omega⟩
theorem uM {b : Bool} : AdvN s (lB s b) := by
 intro st r hok hk e;unfold lB at e;split at e
 ·cases e
 rename_i q hq;have h1 := dN hok hk hq;cases e
 exact ⟨h1.1, by simp only []; omega⟩
theorem aAT : AdvN s (lD s) := by
 intro st r hok hk e;unfold lD at e;split at e
 ·cases e
 rename_i q hq;have h1 := dN hok hk hq;split at e
 ·cases e
 rename_i a ha;have h3 := kR h1.1 ha;cases e
 exact ⟨h3.1, by simp only []; omega⟩
theorem aHG : AdvN s (n5 s) := by
 intro st r hok hk e;unfold n5 at e;split at e
 ·cases e
 rename_i q hq;have h1 := dN hok hk hq;split at e
 ·cases e
 rename_i x hx;have h2 := m6 h1.1 (by decide) hx;split at e
 ·cases e
 rename_i y hy;have h3 := m6 h2.1 (by decide) hy;cases e
 exact ⟨h3.1, by simp only []; omega⟩
theorem aJM {T : St → Res (Tree × St)} (hT : Adv s T) : AdvN s (notC s T) := by
 intro st r hok hk e;unfold notC at e;split at e
 ·cases e
 rename_i q hq;have h1 := dN hok hk hq;split at e
 ·cases e
 rename_i t ht;have h2 := hT _ _ h1.1 ht;cases e
 exact ⟨h2.1, by simp only []; omega⟩
theorem aGL {T : St → Res (Tree × St)} (hT : Adv s T) : ∀ {f : Nat} {acc : Tree} {st : St} {r : Tree × St}, Ok s st → n4 s T f acc st = .ok r → Ok s r.2 ∧ mu s r.2 ≤ mu s st := by
 intro f;induction f with
 | zero => intro acc st r _ e; cases e
 | succ f ih =>
  intro acc st r hok e;simp only [n4] at e;split at e
  ·cases e
  rename_i q hq;have h1 := pD hok hq;split at e
  ·split at e
   ·cases e
   rename_i t ht;have h2 := hT _ _ h1.1 ht;have := ih h2.1 e;exact ⟨this.1, by omega⟩
  ·split at e
   ·cases e
   rename_i y hy;have h2 := fH h1.1 hy;cases e
   exact ⟨h2.1, by simp only []; omega⟩
theorem w8 {T : St → Res (Tree × St)} {all : Bool} (hT : Adv s T) : AdvN s (mH s T all) := by
 intro st r hok hk e;unfold mH at e;split at e
 ·cases e
 rename_i q hq;have h1 := dN hok hk hq;split at e
 ·cases e
 rename_i x hx;have h2 := fH h1.1 hx;split at e
 ·cases e
 rename_i t ht;have h3 := hT _ _ h2.1 ht;unfold rM at e;split at e
 ·cases e
 rename_i l hl;have h4 := aGL hT h3.1 hl;cases e
 exact ⟨h4.1, by simp only []; omega⟩
theorem aHM {needs : List aO} {T : St → Res (Tree × St)} (hT : Adv s T) {st : St} {r : Tree × St} (hok : Ok s st) (hk : st.2.kind ≠ 0) (e : qB s needs T st = some (.ok r)) : Ok s r.2 ∧ mu s r.2 < mu s st := by
 unfold qB at e;simp only [] at e;split at e
 ·exact uM _ _ hok hk (by simpa using e)
 split at e
 ·exact uM _ _ hok hk (by simpa using e)
 split at e
 ·exact aJM hT _ _ hok hk (by simpa using e)
 split at e
 ·exact w8 hT _ _ hok hk (by simpa using e)
 split at e
 ·exact w8 hT _ _ hok hk (by simpa using e)
 split at e
 ·exact qO _ _ hok hk (by simpa using e)
 split at e
 ·exact qO _ _ hok hk (by simpa using e)
 split at e
 ·exact qO _ _ hok hk (by simpa using e)
 split at e
 ·exact aAT _ _ hok hk (by simpa using e)
 split at e
 ·exact aHG _ _ hok hk (by simpa using e)
 ·cases e
theorem kW {needs : List aO} : ∀ n, Adv s (test s needs n) := by
 intro n;induction n with
 | zero => intro st r hok e; simp only [test] at e; split at e <;> cases e
 | succ n ih =>
  intro st r hok e;simp only [test] at e;split at e
  ·rename_i hk;split at e
   ·rename_i x hx; subst e; exact aHM ih hok aH hx
   ·cases e
  ·cases e
theorem jJ {B : St → Res (Tree × St)} (hB : AdvE s B) : Adv s (n3 s B) := by
 intro st r hok e;unfold n3 at e;split at e
 ·cases e
 rename_i q hq;have h1 := fH hok hq;split at e
 ·cases e
 rename_i b hb;have h2 := hB _ _ h1.1 hb;split at e
 ·cases e
 rename_i y hy;have h3 := fH h2.1 hy;cases e
 exact ⟨h3.1, by simp only []; omega⟩
theorem aFY {B : St → Res (Tree × St)} (hB : AdvE s B) {acc : Tree} : AdvE s (gZ s B acc) := by
 intro st r hok e;unfold gZ at e;split at e
 ·rename_i hk;split at e
  ·cases e
  rename_i q hq;have h1 := dN hok aH hq;split at e
  ·cases e
  rename_i b hb;have h2 := jJ hB _ _ h1.1 hb;cases e
  exact ⟨h2.1, by simp only []; omega⟩
 ·cases e; exact ⟨hok, Nat.le_refl _⟩
theorem aCV {T B : St → Res (Tree × St)} (hT : Adv s T) (hB : AdvE s B) : ∀ {f : Nat} {acc : Tree} {st : St} {r : Tree × St}, Ok s st → e6 s T B f acc st = .ok r → Ok s r.2 ∧ mu s r.2 ≤ mu s st := by
 intro f;induction f with
 | zero => intro acc st r _ e; cases e
 | succ f ih =>
  intro acc st r hok e;simp only [e6] at e;split at e
  ·rename_i hk;split at e
   ·cases e
   rename_i q hq;have h1 := dN hok aH hq;split at e
   ·cases e
   rename_i t ht;have h2 := hT _ _ h1.1 ht;split at e
   ·cases e
   rename_i b hb;have h3 := jJ hB _ _ h2.1 hb;have := ih h3.1 e;exact ⟨this.1, by omega⟩
  ·exact aFY hB _ _ hok e
theorem aLV {T B : St → Res (Tree × St)} (hT : Adv s T) (hB : AdvE s B) : AdvN s (ifC s T B) := by
 intro st r hok hk e;unfold ifC at e;split at e
 ·cases e
 rename_i q hq;have h1 := dN hok hk hq;split at e
 ·cases e
 rename_i t ht;have h2 := hT _ _ h1.1 ht;split at e
 ·cases e
 rename_i b hb;have h3 := jJ hB _ _ h2.1 hb;have := aCV hT hB h3.1 e;exact ⟨this.1, by omega⟩
theorem aBV {needs : List aO} : AdvN s (setC s needs) := by
 intro st r hok hk e;unfold setC at e;split at e
 ·split at e
  ·cases e
  rename_i q hq;have h1 := dN hok hk hq;split at e
  ·cases e
  rename_i t ht;have h2 : Ok s t.2 ∧ mu s t.2 ≤ mu s q := by
   unfold iX at ht;split at ht
   ·rename_i hk2;split at ht
    ·cases ht
    split at ht
    ·cases ht
    rename_i x hx;cases ht
    have := dN h1.1 aH hx;exact ⟨this.1, by simp only []; omega⟩
   ·cases ht; exact ⟨h1.1, Nat.le_refl _⟩
  unfold lH at e;split at e
  ·cases e
  rename_i n hn;have h3 := kX h2.1 hn;split at e
  ·cases e
  rename_i v hv;have h4 := kX h3.1 hv;split at e
  ·cases e
  rename_i y hy;have h5 := fH h4.1 hy;cases e
  exact ⟨h5.1, by simp only []; omega⟩
 ·cases e
theorem aHC {needs : List aO} : AdvN s (vR s needs) := by
 intro st r hok hk e;unfold vR at e;split at e
 ·cases e
 rename_i q hq;have h1 := aBV _ _ hok hk hq;cases e
 exact ⟨h1.1, by simp only []; omega⟩
theorem uL {needs : List aO} {T B : St → Res (Tree × St)} (hT : Adv s T) (hB : AdvE s B) {st : St} {r : Tree × St} (hok : Ok s st) (hk : st.2.kind ≠ 0) (e : cmdD s needs T B st = some (.ok r)) : Ok s r.2 ∧ mu s r.2 < mu s st := by
 unfold cmdD at e;simp only [] at e;split at e
 ·exact oU _ _ hok hk (by simpa using e)
 split at e
 ·exact oU _ _ hok hk (by simpa using e)
 split at e
 ·exact oU _ _ hok hk (by simpa using e)
 split at e
 ·exact uD _ _ hok hk (by simpa using e)
 split at e
 ·exact uD _ _ hok hk (by simpa using e)
 split at e
 ·exact uD _ _ hok hk (by simpa using e)
 split at e
 ·exact aHC _ _ hok hk (by simpa using e)
 split at e
 ·exact aLV hT hB _ _ hok hk (by simpa using e)
 ·cases e
theorem aCM {C : St → Option (Res (Tree × St))} (hC : ∀ {st r}, Ok s st → st.2.kind ≠ 0 → C st = some (.ok r) → Ok s r.2 ∧ mu s r.2 < mu s st) : ∀ {f : Nat} {acc : Tree} {st : St} {r : Tree × St}, Ok s st → jB s C f acc st = .ok r → Ok s r.2 ∧ mu s r.2 ≤ mu s st := by
 intro f;induction f with
 | zero => intro acc st r _ e; cases e
 | succ f ih =>
  intro acc st r hok e;simp only [jB] at e;split at e
  ·rename_i hk;split at e
   ·cases e
   ·cases e
   rename_i c hc;have h1 := hC hok aH hc;have := ih h1.1 e;exact ⟨this.1, by omega⟩
  ·cases e; exact ⟨hok, Nat.le_refl _⟩
theorem pA {needs : List aO} : ∀ n, AdvE s (block s needs n) := by
 intro n;induction n with
 | zero => intro st r hok e; simp only [block] at e; split at e <;> cases e; exact ⟨hok, Nat.le_refl _⟩
 | succ n ih =>
  intro st r hok e;simp only [block] at e;exact aCM (fun h1 h2 h3 => uL (kW n) ih h1 h2 h3) hok e
end Go.Syn
namespace Go.Syn
variable {s : aO}
theorem aGF {ff : aO → Int} : ∀ {f : Nat} {st : St} {acc : List aO} {r : List aO × St}, Ok s st → mG s ff f st acc = .ok r → r.1.length + mu s r.2 ≤ acc.length + mu s st := by
 intro f;induction f with
 | zero => intro st acc r _ h; cases h
 | succ f ih =>
  intro st acc r hok h;simp only [mG] at h;split at h
  ·cases h
  ·rename_i q hq;have h1 := pD hok hq;split at h
   ·split at h
    ·cases h
    ·rename_i x hx;have h2 := kX h1.1 hx;have := ih h2.1 h;simp at this; omega
   ·split at h
    ·cases h
    ·rename_i y hy;have h2 := fH h1.1 hy;cases h
     simp only []; omega
theorem oO {ff : aO → Int} {st : St} {r : List aO × St} (hok : Ok s st) (h : list s st ff = .ok r) : r.1.length + mu s r.2 ≤ mu s st := by
 unfold list at h;split at h
 ·cases h
 ·rename_i q hq;have h1 := pD hok hq;split at h
  ·cases h
  ·rename_i x hx;have h2 := kX h1.1 hx;split at h
   ·have := aGF h2.1 h; simp at this; omega
   ·cases h; simp only [List.length_singleton]; omega
def nC : aO := [114, 101, 113, 117, 105, 114, 101]
def wC : List aO := [gX, iO, kZ, dP]
def addN (ns : List aO) (e : aO) : List aO := if e ∈ ns then ns else ns ++ [e]
def gN (ns l : List aO) : List aO := l.foldl addN ns
theorem aH7 (ns : List aO) (e : aO) : (addN ns e).length ≤ ns.length + 1 := by unfold addN; split <;> simp
theorem kP {ns l : List aO} {i : Nat} {e : aO} (h : l[i]? = some e) : gN ns (l.take (i + 1)) = addN (gN ns (l.take i)) e := by
 have hi : i < l.length := by
  rcases Nat.lt_or_ge i l.length with h' | h'
  ·exact h'
  ·simp [List.getElem?_eq_none h'] at h
 have hc : l[i] = e := by simpa [List.getElem?_eq_getElem hi] using h
 rw [List.take_succ_eq_append_getElem hi, hc];simp [gN]
theorem yD {ns l : List aO} {i : Nat} (h : l.length ≤ i) : gN ns (l.take i) = gN ns l := by rw [List.take_of_length_le h]
def reqF (s : aO) : Nat → List aO → St → Res (List aO × St)
 | 0, _, _ => .error (0, 0)
 | f + 1, ns, st =>
  if st.2.kind = 1 ∧ st.2.s = nC then
   match next s st.1 with
   | .error e => .error e
   | .ok r =>
    match list s r (oneOf 6 wC) with
    | .error e => .error e
    | .ok l =>
     match sign s l.2 [59] with
     | .error e => .error e
     | .ok q => reqF s f (gN ns l.1) q
  else .ok (ns, st)
def f3 (s : aO) (n : Res (List aO × St)) : Res (List aO × Tree) :=
 match n with
 | .error e => .error e
 | .ok n =>
  match block s n.1 7 n.2 with
  | .error e => .error e
  | .ok b => if b.2.2.kind = 0 then .ok (n.1, b.1) else .error (4, b.2.2.at_)
def e8 (s : aO) : Res (List aO × Tree) :=
 match next s 0 with
 | .error e => .error e
 | .ok r => f3 s (reqF s (mu s r + 1) [] r)
end Go.Syn
end
section
namespace Go.Proofs
open Go Go.SL Go.Syn
def RT (s : List UInt8) (b : Nat) (rest : List Value) (r : Res (Tree × St)) : Ending → Hl → List Asn → Prop := fD r fun r v K' L' => Rep1 K' r.1 v ∧ L' = [psb b s r.2 rest]
theorem aBL (K : Hl) (k : Int) (a : List UInt8) (p : Int) : Rep1 K (.act k a p) (.iface 282 (.agg #[i64 k, str a, i64 p])) := ⟨_, _, rfl, rfl⟩
theorem vL (K : Hl) (op : Int) : Rep1 K (.plain op) (.iface 285 (.agg #[i64 op])) := ⟨_, _, rfl, rfl⟩
theorem aMD (at_ : Int) (K : Hl) : Sp Tryz.prog 159 [i64 at_] K [] (Val (.iface 282 (.agg #[i64 1, str [], i64 at_])) K) := by
 refine bA Tryz.func159 rfl Tryz.ntmps159 rfl rfl fun F w => ?_
 refine aI (aB ?_);refine aA (aF rfl) rfl ?_;refine aG (aE ?_);refine aI (aB ?_);refine aA (aC rfl) rfl ?_;refine aA (cJ aNB aKN (.cons rfl rfl rfl (.cons .nil) (.cons rfl rfl rfl (.skip (.skip (.cons .nil))) .nil))) rfl ?_;refine aA (dA Tryz.underlying282 (fun _ h => by cases h) rfl) rfl ?_;refine aA (aF rfl) rfl ?_;refine aG (aE ?_);refine bM ?_;refine bL rfl rfl (Hl.le_refl _) ?_;exact ⟨rfl, rfl, rfl⟩
theorem aME (at_ : Int) (K : Hl) : Sp Tryz.prog 160 [i64 at_] K [] (Val (.iface 285 (.agg #[i64 13])) K) := by
 refine bA Tryz.func160 rfl Tryz.ntmps160 rfl rfl fun F w => ?_
 refine aI (aB ?_);refine aA (aF rfl) rfl ?_;refine aG (aE ?_);refine aI (aB ?_);refine aA (cJ aNC aKO (.cons rfl rfl rfl (.cons .nil) .nil)) rfl ?_;refine aA (dA Tryz.underlying285 (fun _ h => by cases h) rfl) rfl ?_;refine aA (aF rfl) rfl ?_;refine aG (aE ?_);refine bM ?_;refine bL rfl rfl (Hl.le_refl _) ?_;exact ⟨rfl, rfl, rfl⟩
theorem aMF (at_ : Int) (K : Hl) : Sp Tryz.prog 161 [i64 at_] K [] (Val (.iface 285 (.agg #[i64 14])) K) := by
 refine bA Tryz.func161 rfl Tryz.ntmps161 rfl rfl fun F w => ?_
 refine aI (aB ?_);refine aA (aF rfl) rfl ?_;refine aG (aE ?_);refine aI (aB ?_);refine aA (cJ aNC aKO (.cons rfl rfl rfl (.cons .nil) .nil)) rfl ?_;refine aA (dA Tryz.underlying285 (fun _ h => by cases h) rfl) rfl ?_;refine aA (aF rfl) rfl ?_;refine aG (aE ?_);refine bM ?_;refine bL rfl rfl (Hl.le_refl _) ?_;exact ⟨rfl, rfl, rfl⟩
theorem nU (b : Nat) (s : List UInt8) (st : St) (at_ dp : Int) (rest : List Value) (b1 : Nat) (fn : FuncId) (v : Value) (c : Tree) (K : Hl) (hs : s.length ≤ 600) (hok : Ok s st) (hg : Glob K)
  (h1 : K b1 = some (aU [.func (.func fn) #[] #[]] 283)) (hfn : ∀ K, Sp Tryz.prog fn [i64 at_] K [] (Val v K)) (hc : ∀ K, Rep1 K c v) :
  Sp Tryz.prog 259 [ptr b, i64 at_, i64 dp, ptr b1] K [psb b s st rest] (RT s b rest (jY s c st)) := by
 have ha := hok.1;refine bA Tryz.func259 rfl Tryz.ntmps259 rfl rfl fun F w => ?_
 refine aI (aB ?_);refine aA (aF rfl) rfl ?_;refine aG (aE ?_);refine aI (aB ?_);refine aA (aC rfl) rfl ?_;refine aA bS rfl ?_;refine aA (aD (o' := 0) bX rfl rfl) rfl ?_;refine aW rfl rfl (dE b 208 s st.1 _ _ _ _ rest hs ha _ hg) (.cons .here .nil) rfl (fun _ _ => aY _ _) ?_ ?_
 ·
  rintro _ _ _ hTr le1;obtain ⟨e, p, hr, fb, h, rfl⟩ := aZ hTr;cases h
  refine aN (.cons .here .nil) ?_;refine aJ ?_;refine a8 bQ ?_;simp only [RT, jY, hr, if_true, if_false, ↓reduceIte];exact ⟨fb, rfl, rfl⟩
 rintro _ K _ hTr -;obtain ⟨r, hr, rfl, rfl, rfl⟩ := a6 hTr;clear hTr;have hro := dT ha hr;refine aG (aE ?_);refine aI (aB ?_);refine aA (aC rfl) rfl ?_;refine aW rfl rfl (iK b s r rest [59] _ hs hro.1 hg) (.cons .here .nil) rfl (fun _ _ => aY _ _) ?_ ?_
 ·
  rintro _ _ _ hTr le1;obtain ⟨e, p, hq, fb, h, rfl⟩ := aZ hTr;cases h
  refine aN (.cons .here .nil) ?_;refine aJ ?_;refine a8 bQ ?_;simp only [RT, jY, hr, hq, if_true, if_false, ↓reduceIte];exact ⟨fb, rfl, rfl⟩
 rintro _ K _ hTr -;obtain ⟨q, hq, rfl, rfl, rfl⟩ := a6 hTr;clear hTr;refine aG (aE ?_);refine aI (aB ?_);refine aA (aK aQG rfl aL rfl) rfl ?_;refine aA (aC rfl) rfl ?_;refine cG rfl rfl (hfn _) rfl ?_;refine aA (aF rfl) rfl ?_;refine aG (aE ?_);refine bM ?_;refine aN (.cons .here .nil) ?_;refine bL rfl rfl (Hl.le_refl _) ?_;simp only [RT, jY, hr, hq, if_true, if_false, ↓reduceIte];exact ⟨_, rfl, hc _, rfl⟩
theorem nI (b : Nat) (s : List UInt8) (st : St) (at_ dp : Int) (nv : Value) (rest : List Value) (needs : List (List UInt8)) (b1 b2 : Nat) (kd : Int) (ext : List UInt8) (K : Hl) (hs : s.length ≤ 600) (hok : Ok s st) (hg : Glob K) (hv : Ksl (bE 9) K nv needs) (hn : needs.length ≤ 1000000)
  (h1 : K b1 = some (aU [str ext] 9)) (h2 : K b2 = some (aU [i64 kd] 3)) :
  Sp Tryz.prog 260 [ptr b, i64 at_, i64 dp, ptr b1, ptr b2] K [psb b s st (nv :: rest)] (RT s b (nv :: rest) (actC s needs kd ext at_ st)) := by
 have ha := hok.1;refine bA Tryz.func260 rfl Tryz.ntmps260 rfl rfl fun F w => ?_
 refine aI (aB ?_);refine aA (aF rfl) rfl ?_;refine aG (aE ?_);refine iE (fun (_ : Unit) => ¬ (ext ≠ [] ∧ ext ∉ needs)) (fun _ => [(0, ptr b), (1, i64 at_), (4, ptr b2)]) (fun _ => K) (fun _ => [psb b s st (nv :: rest)]) ?_ ?_
 ·
  refine aI (aB ?_);refine aA (aK ts9 rfl (.known h1) rfl) rfl ?_;refine aA (qJ rfl rfl) rfl ?_;refine aG (aE ?_);refine bH 11 rfl (fun h11 => ?_) (fun h11 => ?_)
  ·
   refine aB ?_;refine aA (aC rfl) rfl ?_;refine aA (aK ts9 rfl (.known h1) rfl) rfl ?_;refine aW rfl rfl (qS b s st nv rest needs ext _ hv hn) (.cons .here .nil) rfl (fun _ _ => aY _ _) ?_ ?_
   ·
    rintro _ _ _ hTr le1;obtain ⟨e, p, hu, fb, h, rfl⟩ := aZ hTr;cases h
    refine aN (.cons .here .nil) ?_;refine aJ ?_;refine a8 bQ ?_;have hm : ¬ ext ∈ needs := (by intro h; rw [if_pos h] at hu; cases hu);rw [if_neg hm] at hu;cases hu
    unfold RT actC;rw [if_pos ⟨h11, hm⟩];exact ⟨fb, rfl, rfl⟩
   rintro _ K _ hTr -;obtain ⟨u0, hu, rfl, rfl, rfl⟩ := a6 hTr;clear hTr;have hm : ext ∈ needs := Classical.byContradiction (fun h => by rw [if_neg h] at hu; cases hu);have hne : ¬ (ext ≠ [] ∧ ext ∉ needs) := fun h => h.2 hm
   refine aG ?_;exact cA () hne (.cons 0 rfl (.cons 1 rfl (.cons 4 rfl .nil))) rfl (fun _ h => h)
  ·
   have hne : ¬ (ext ≠ [] ∧ ext ∉ needs) := fun h => h11 h.1
   refine aX ?_;exact cA () hne (.cons 0 rfl (.cons 1 rfl (.cons 4 rfl .nil))) rfl (fun _ h => h)
 ·
  intro _ hne;refine aI (aB ?_);refine aA (aC rfl) rfl ?_;refine aA bS rfl ?_;refine aA (aD (o' := 0) bX rfl rfl) rfl ?_;refine aW rfl rfl (dE b 208 s st.1 _ _ _ _ (nv :: rest) hs ha _ hg) (.cons .here .nil) rfl (fun _ _ => aY _ _) ?_ ?_
  ·
   rintro _ _ _ hTr le1;obtain ⟨e, p, hr, fb, h, rfl⟩ := aZ hTr;cases h
   refine aN (.cons .here .nil) ?_;refine aJ ?_;refine a8 bQ ?_;simp only [RT, actC, if_neg hne, hr, if_true, if_false, ↓reduceIte];exact ⟨fb, rfl, rfl⟩
  rintro _ K _ hTr -;obtain ⟨r, hr, rfl, rfl, rfl⟩ := a6 hTr;clear hTr;have hro := dT ha hr;refine aG (aE ?_);refine aI (aB ?_);refine aA (aC rfl) rfl ?_;refine aW rfl rfl (kO b s r (nv :: rest) 3 _ [] _ hs hro.1 hg (.inl ⟨none, 0, rfl, rfl⟩) (by simp)) (.cons .here .nil) rfl (fun _ _ => aY _ _) ?_ ?_
  ·
   rintro _ _ _ hTr le1;obtain ⟨e, p, hx, fb, h, rfl⟩ := aZ hTr;cases h
   refine aN (.cons .here .nil) ?_;refine aJ ?_;refine a8 bQ ?_;simp only [RT, actC, if_neg hne, hr, hx, if_true, if_false, ↓reduceIte];exact ⟨fb, rfl, rfl⟩
  rintro _ K _ hTr -;obtain ⟨x, hx, rfl, rfl, rfl⟩ := a6 hTr;clear hTr;have hxo := rV hro.1 hx;refine aA (jT Tryz.underlying202 rfl ts9 rfl rfl) rfl ?_;refine aA (aF rfl) rfl ?_;refine aG (aE ?_);refine aI (aB ?_);refine aA (aC rfl) rfl ?_;refine aW rfl rfl (iK b s x.2 (nv :: rest) [59] _ hs hxo.1 hg) (.cons .here .nil) rfl (fun _ _ => aY _ _) ?_ ?_
  ·
   rintro _ _ _ hTr le1;obtain ⟨e, p, hq, fb, h, rfl⟩ := aZ hTr;cases h
   refine aN (.cons .here .nil) ?_;refine aJ ?_;refine a8 bQ ?_;simp only [RT, actC, if_neg hne, hr, hx, hq, if_true, if_false, ↓reduceIte];exact ⟨fb, rfl, rfl⟩
  rintro _ K _ hTr -;obtain ⟨q, hq, rfl, rfl, rfl⟩ := a6 hTr;clear hTr;refine aG (aE ?_);refine aI (aB ?_);refine aA (aK ts3 rfl (.known h2) rfl) rfl ?_;refine aA (aC rfl) rfl ?_;refine aA (aC rfl) rfl ?_;refine aA (cJ aNB aKN (.cons rfl rfl rfl (.cons .nil) (.cons rfl rfl rfl (.skip (.cons .nil)) (.cons rfl rfl rfl (.skip (.skip (.cons .nil))) .nil)))) rfl ?_;refine aA (dA Tryz.underlying282 (fun _ h => by cases h) rfl) rfl ?_;refine aA (aF rfl) rfl ?_;refine aG (aE ?_);refine bM ?_;refine aN (.cons .here .nil) ?_;refine bL rfl rfl (Hl.le_refl _) ?_;simp only [RT, actC, if_neg hne, hr, hx, hq, if_true, if_false, ↓reduceIte];exact ⟨_, rfl, aBL _ _ _ _, rfl⟩
theorem aH1 (b : Nat) (s : List UInt8) (st : St) (dp : Int) (rest : List Value) (K : Hl) (hs : s.length ≤ 600) (hok : Ok s st) (hg : Glob K) : Sp Tryz.prog 165 [ptr b, i64 dp] K [psb b s st rest] (RT s b rest (lB s true st)) := by
 have ha := hok.1;refine bA Tryz.func165 rfl Tryz.ntmps165 rfl rfl fun F w => ?_
 refine aI (aB ?_);refine aA (aF rfl) rfl ?_;refine aG (aE ?_);refine aI (aB ?_);refine aA (aC rfl) rfl ?_;refine aA bS rfl ?_;refine aA (aD (o' := 0) bX rfl rfl) rfl ?_;refine aW rfl rfl (dE b 208 s st.1 _ _ _ _ rest hs ha _ hg) (.cons .here .nil) rfl (fun _ _ => aY _ _) ?_ ?_
 ·
  rintro _ _ _ hTr le1;obtain ⟨e, p, hr, fb, h, rfl⟩ := aZ hTr;cases h
  refine aN (.cons .here .nil) ?_;refine aJ ?_;refine a8 bQ ?_;simp only [RT, lB, hr, if_true, if_false, ↓reduceIte];exact ⟨fb, rfl, rfl⟩
 rintro _ K _ hTr -;obtain ⟨r, hr, rfl, rfl, rfl⟩ := a6 hTr;clear hTr;refine aG (aE ?_);refine aI (aB ?_);refine aA (dA Tryz.underlying289 (fun _ h => by cases h) rfl) rfl ?_;refine aA (aF rfl) rfl ?_;refine aG (aE ?_);refine bM ?_;refine aN (.cons .here .nil) ?_;refine bL rfl rfl (Hl.le_refl _) ?_;simp only [RT, lB, hr, if_true, if_false, ↓reduceIte];exact ⟨_, rfl, ⟨_, _, rfl, rfl⟩, rfl⟩
theorem aC3 (b : Nat) (s : List UInt8) (st : St) (dp : Int) (rest : List Value) (K : Hl) (hs : s.length ≤ 600) (hok : Ok s st) (hg : Glob K) : Sp Tryz.prog 166 [ptr b, i64 dp] K [psb b s st rest] (RT s b rest (lB s false st)) := by
 have ha := hok.1;refine bA Tryz.func166 rfl Tryz.ntmps166 rfl rfl fun F w => ?_
 refine aI (aB ?_);refine aA (aF rfl) rfl ?_;refine aG (aE ?_);refine aI (aB ?_);refine aA (aC rfl) rfl ?_;refine aA bS rfl ?_;refine aA (aD (o' := 0) bX rfl rfl) rfl ?_;refine aW rfl rfl (dE b 208 s st.1 _ _ _ _ rest hs ha _ hg) (.cons .here .nil) rfl (fun _ _ => aY _ _) ?_ ?_
 ·
  rintro _ _ _ hTr le1;obtain ⟨e, p, hr, fb, h, rfl⟩ := aZ hTr;cases h
  refine aN (.cons .here .nil) ?_;refine aJ ?_;refine a8 bQ ?_;simp only [RT, lB, hr, if_true, if_false, ↓reduceIte];exact ⟨fb, rfl, rfl⟩
 rintro _ K _ hTr -;obtain ⟨r, hr, rfl, rfl, rfl⟩ := a6 hTr;clear hTr;refine aG (aE ?_);refine aI (aB ?_);refine aA (dA Tryz.underlying289 (fun _ h => by cases h) rfl) rfl ?_;refine aA (aF rfl) rfl ?_;refine aG (aE ?_);refine bM ?_;refine aN (.cons .here .nil) ?_;refine bL rfl rfl (Hl.le_refl _) ?_;simp only [RT, lB, hr, if_true, if_false, ↓reduceIte];exact ⟨_, rfl, ⟨_, _, rfl, rfl⟩, rfl⟩
theorem aAV (b : Nat) (s : List UInt8) (st : St) (dp : Int) (rest : List Value) (K : Hl) (hs : s.length ≤ 600) (hok : Ok s st) (hg : Glob K) : Sp Tryz.prog 176 [ptr b, i64 dp] K [psb b s st rest] (RT s b rest (lD s st)) := by
 have ha := hok.1;refine bA Tryz.func176 rfl Tryz.ntmps176 rfl rfl fun F w => ?_
 refine aI (aB ?_);refine aA (aF rfl) rfl ?_;refine aG (aE ?_);refine aI (aB ?_);refine aA (aC rfl) rfl ?_;refine aA bS rfl ?_;refine aA (aD (o' := 0) bX rfl rfl) rfl ?_;refine aW rfl rfl (dE b 208 s st.1 _ _ _ _ rest hs ha _ hg) (.cons .here .nil) rfl (fun _ _ => aY _ _) ?_ ?_
 ·
  rintro _ _ _ hTr le1;obtain ⟨e, p, hr, fb, h, rfl⟩ := aZ hTr;cases h
  refine aN (.cons .here .nil) ?_;refine aJ ?_;refine a8 bQ ?_;simp only [RT, lD, hr, if_true, if_false, ↓reduceIte];exact ⟨fb, rfl, rfl⟩
 rintro _ K _ hTr -;obtain ⟨r, hr, rfl, rfl, rfl⟩ := a6 hTr;clear hTr;have hro := dT ha hr;refine aG (aE ?_);refine aI (aB ?_);refine aA (aC rfl) rfl ?_;refine aW rfl rfl (nQ b s r rest 177 #[] (fun _ => 0) _ hs hro hg (fun x hx => iZ x _)) (.cons .here .nil) rfl (fun _ _ => aY _ _) ?_ ?_
 ·
  rintro _ _ _ hTr le1;obtain ⟨e, p, ha1, fb, h, rfl⟩ := aZ hTr;cases h
  refine aN (.cons .here .nil) ?_;refine aJ ?_;refine a8 bQ ?_;simp only [RT, lD, hr, ha1, if_true, if_false, ↓reduceIte];exact ⟨fb, rfl, rfl⟩
 rintro _ K _ hTr -;obtain ⟨va, ha1, rfl, rfl⟩ := a6 hTr;clear hTr;refine fU fun K1 leA hA => ?_
 obtain ⟨sa, sn, sc, rfl⟩ := hA.isSlice;refine aA (cJ aP6 aOZ (.cons rfl rfl rfl (.cons .nil) .nil)) rfl ?_;refine aA (dA Tryz.underlying297 (fun _ h => by cases h) rfl) rfl ?_;refine aA (aF rfl) rfl ?_;refine aG (aE ?_);refine bM ?_;refine aN (.cons .here .nil) ?_;refine bL rfl rfl (by first | exact leA | exact Hl.le_refl _) ?_;simp only [RT, lD, hr, ha1, if_true, if_false, ↓reduceIte];exact ⟨_, rfl, ⟨_, _, rfl, _, hA, rfl⟩, rfl⟩
theorem aHI (b : Nat) (s : List UInt8) (st : St) (dp : Int) (rest : List Value) (K : Hl) (hs : s.length ≤ 600) (hok : Ok s st) (hg : Glob K) : Sp Tryz.prog 178 [ptr b, i64 dp] K [psb b s st rest] (RT s b rest (n5 s st)) := by
 have ha := hok.1;refine bA Tryz.func178 rfl Tryz.ntmps178 rfl rfl fun F w => ?_
 refine aI (aB ?_);refine aA (aF rfl) rfl ?_;refine aG (aE ?_);refine aI (aB ?_);refine aA (aC rfl) rfl ?_;refine aA bS rfl ?_;refine aA (aD (o' := 0) bX rfl rfl) rfl ?_;refine aW rfl rfl (dE b 208 s st.1 _ _ _ _ rest hs ha _ hg) (.cons .here .nil) rfl (fun _ _ => aY _ _) ?_ ?_
 ·
  rintro _ _ _ hTr le1;obtain ⟨e, p, hr, fb, h, rfl⟩ := aZ hTr;cases h
  refine aN (.cons .here .nil) ?_;refine aJ ?_;refine a8 bQ ?_;simp only [RT, n5, hr, if_true, if_false, ↓reduceIte];exact ⟨fb, rfl, rfl⟩
 rintro _ K _ hTr -;obtain ⟨r, hr, rfl, rfl, rfl⟩ := a6 hTr;clear hTr;have hro := dT ha hr;refine aG (aE ?_);refine aI (aB ?_);refine aA (aF rfl) rfl ?_;refine aG (aE ?_);refine aI (aI ?_);refine aB ?_;refine aA (aC rfl) rfl ?_;refine ol_s (bN (z0 := [(str []), (str [])]) cQ tz9 rfl rfl rfl rfl (.cons rfl rfl rfl (.cons .nil) (.cons rfl rfl rfl (.skip (.cons .nil)) .nil))) rfl ?_;rintro _ K _ ⟨b11, rfl, rfl, rfl⟩ -;refine e7 fun K1 leA hK1 => ?_
 refine aW rfl rfl (kO b s r rest 2 _ [aD0, pV] _ hs hro.1 (hg.mono leA) (.inr ⟨b11, 0, 2, [str aD0, str pV], (0, 0), rfl, ⟨_, hK1⟩, rfl⟩) (by simp)) (.cons .here .nil) rfl (fun _ _ => aY _ _) ?_ ?_
 ·
  rintro _ _ _ hTr le1;obtain ⟨e, p, hx, fb, h, rfl⟩ := aZ hTr;cases h
  refine aN (.cons .here .nil) ?_;refine aJ ?_;refine aJ ?_;refine a8 (Hl.le_trans leA le1) ?_;simp only [RT, n5, hr, hx, if_true, if_false, ↓reduceIte];exact ⟨fb, rfl, rfl⟩
 rintro _ K _ hTr -;obtain ⟨x, hx, rfl, rfl, rfl⟩ := a6 hTr;clear hTr;have hxo := rV hro.1 hx;refine aA (jT Tryz.underlying202 rfl ts9 rfl rfl) rfl ?_;refine aA (iV rfl rfl) rfl ?_;refine aG (aE ?_);refine bH 14 rfl (fun h14 => ?_) (fun h14 => ?_)
 ·
  have g14 : x.1.s = pV := h14;refine aB ?_;refine aA (aF rfl) rfl ?_;refine aG (aE ?_);refine aI (aB ?_);refine aA (aC rfl) rfl ?_;refine aA (aC rfl) rfl ?_;refine aW rfl rfl (kO b s x.2 rest 4 _ [] _ hs hxo.1 (hg.mono leA) (.inl ⟨none, 0, rfl, rfl⟩) (by simp)) (.cons .here .nil) rfl (fun _ _ => aY _ _) ?_ ?_
  ·
   rintro _ _ _ hTr le1;obtain ⟨e, p, hy, fb, h, rfl⟩ := aZ hTr;cases h
   refine aN (.cons .here .nil) ?_;refine aJ ?_;refine a8 (Hl.le_trans leA le1) ?_;simp only [RT, n5, hr, hx, if_pos g14, hy, if_true, if_false, ↓reduceIte];exact ⟨fb, rfl, rfl⟩
  rintro _ K _ hTr -;obtain ⟨y, hy, rfl, rfl, rfl⟩ := a6 hTr;clear hTr;refine aA (jT Tryz.underlying202 rfl ts3 rfl rfl) rfl ?_;refine aA (cJ aND aKP (.cons rfl rfl rfl (.cons .nil) (.cons rfl rfl rfl (.skip (.cons .nil)) .nil))) rfl ?_;refine aA (dA Tryz.underlying300 (fun _ h => by cases h) rfl) rfl ?_;refine aA (aF rfl) rfl ?_;refine aG (aE ?_);refine bM ?_;refine aN (.cons .here .nil) ?_;refine bL rfl rfl leA ?_;simp only [RT, n5, hr, hx, if_pos g14, hy, if_true, if_false, ↓reduceIte];exact ⟨_, rfl, ⟨_, _, rfl, rfl⟩, rfl⟩
 ·
  have g14 : ¬ x.1.s = pV := h14;refine aX ?_;refine aE (aI ?_);refine aB ?_;refine aA (aC rfl) rfl ?_;refine aA (aC rfl) rfl ?_;refine aW rfl rfl (kO b s x.2 rest 4 _ [] _ hs hxo.1 (hg.mono leA) (.inl ⟨none, 0, rfl, rfl⟩) (by simp)) (.cons .here .nil) rfl (fun _ _ => aY _ _) ?_ ?_
  ·
   rintro _ _ _ hTr le1;obtain ⟨e, p, hy, fb, h, rfl⟩ := aZ hTr;cases h
   refine aN (.cons .here .nil) ?_;refine aJ ?_;refine a8 (Hl.le_trans leA le1) ?_;simp only [RT, n5, hr, hx, if_neg g14, hy, if_true, if_false, ↓reduceIte];exact ⟨fb, rfl, rfl⟩
  rintro _ K _ hTr -;obtain ⟨y, hy, rfl, rfl, rfl⟩ := a6 hTr;clear hTr;refine aA (jT Tryz.underlying202 rfl ts3 rfl rfl) rfl ?_;refine aA (cJ aND aKP (.cons rfl rfl rfl (.cons .nil) (.cons rfl rfl rfl (.skip (.cons .nil)) .nil))) rfl ?_;refine aA (dA Tryz.underlying300 (fun _ h => by cases h) rfl) rfl ?_;refine aA (aF rfl) rfl ?_;refine aG (aE ?_);refine bM ?_;refine aN (.cons .here .nil) ?_;refine bL rfl rfl leA ?_;simp only [RT, n5, hr, hx, if_neg g14, hy, if_true, if_false, ↓reduceIte];exact ⟨_, rfl, ⟨_, _, rfl, rfl⟩, rfl⟩
end Go.Proofs
end
section
namespace Go.Proofs
open Go Go.SL Go.Syn
structure PK (s : List UInt8) (needs : List (List UInt8)) (nv : Value) (K : Hl) : Prop where
 hs : s.length ≤ 600
 hg : Glob K
 hv : Ksl (bE 9) K nv needs
 hn : needs.length ≤ 1000000
theorem PK.mono {s : List UInt8} {needs : List (List UInt8)} {nv : Value} {K K' : Hl} (h : PK s needs nv K) (le : K.le K') : PK s needs nv K' := ⟨h.hs, h.hg.mono le, h.hv.mono le, h.hn⟩
theorem aA0 (b : Nat) (s : List UInt8) (st : St) (dp : Int) (nv : Value) (rest : List Value) (needs : List (List UInt8)) (K : Hl) (hok : Ok s st) (hp : PK s needs nv K) : Sp Tryz.prog 172 [ptr b, i64 dp] K [psb b s st (nv :: rest)] (RT s b (nv :: rest) (jD s needs 6 [] st)) := by
 refine bA Tryz.func172 rfl Tryz.ntmps172 rfl rfl fun F w => ?_
 refine aI (aB ?_);refine aA (aF rfl) rfl ?_;refine aG (aE ?_);refine aI (aB ?_);refine aA (aC rfl) rfl ?_;refine aW rfl rfl (qQ b s st 6 [] nv rest needs _ hp.hs hok hp.hg hp.hv hp.hn) (.cons .here .nil) rfl (fun _ _ => aY _ _) ?_ ?_
 ·
  rintro _ _ _ hTr le1;obtain ⟨e, p, hr, fb, h, rfl⟩ := aZ hTr;cases h
  refine aN (.cons .here .nil) ?_;refine aJ ?_;refine a8 bQ ?_;simp only [RT, hr, if_true, if_false, ↓reduceIte];exact ⟨fb, rfl, rfl⟩
 rintro _ K1 _ hTr leK1;obtain ⟨r, hr, hrep, rfl⟩ := a6 hTr;clear hTr;refine aA (aF rfl) rfl ?_;refine aG (aE ?_);refine bM ?_;refine aN (.cons .here .nil) ?_;refine bL rfl rfl leK1 ?_;simp only [RT, hr, if_true, if_false, ↓reduceIte];exact ⟨_, rfl, hrep, rfl⟩
theorem wN (b : Nat) (s : List UInt8) (st : St) (dp : Int) (nv : Value) (rest : List Value) (needs : List (List UInt8)) (K : Hl) (hok : Ok s st) (hp : PK s needs nv K) : Sp Tryz.prog 174 [ptr b, i64 dp] K [psb b s st (nv :: rest)] (RT s b (nv :: rest) (jD s needs 7 gX st)) := by
 refine bA Tryz.func174 rfl Tryz.ntmps174 rfl rfl fun F w => ?_
 refine aI (aB ?_);refine aA (aF rfl) rfl ?_;refine aG (aE ?_);refine aI (aB ?_);refine aA (aC rfl) rfl ?_;refine aW rfl rfl (qQ b s st 7 gX nv rest needs _ hp.hs hok hp.hg hp.hv hp.hn) (.cons .here .nil) rfl (fun _ _ => aY _ _) ?_ ?_
 ·
  rintro _ _ _ hTr le1;obtain ⟨e, p, hr, fb, h, rfl⟩ := aZ hTr;cases h
  refine aN (.cons .here .nil) ?_;refine aJ ?_;refine a8 bQ ?_;simp only [RT, hr, if_true, if_false, ↓reduceIte];exact ⟨fb, rfl, rfl⟩
 rintro _ K1 _ hTr leK1;obtain ⟨r, hr, hrep, rfl⟩ := a6 hTr;clear hTr;refine aA (aF rfl) rfl ?_;refine aG (aE ?_);refine bM ?_;refine aN (.cons .here .nil) ?_;refine bL rfl rfl leK1 ?_;simp only [RT, hr, if_true, if_false, ↓reduceIte];exact ⟨_, rfl, hrep, rfl⟩
theorem aB3 (b : Nat) (s : List UInt8) (st : St) (dp : Int) (nv : Value) (rest : List Value) (needs : List (List UInt8)) (K : Hl) (hok : Ok s st) (hp : PK s needs nv K) : Sp Tryz.prog 175 [ptr b, i64 dp] K [psb b s st (nv :: rest)] (RT s b (nv :: rest) (jD s needs 8 dP st)) := by
 refine bA Tryz.func175 rfl Tryz.ntmps175 rfl rfl fun F w => ?_
 refine aI (aB ?_);refine aA (aF rfl) rfl ?_;refine aG (aE ?_);refine aI (aB ?_);refine aA (aC rfl) rfl ?_;refine aW rfl rfl (qQ b s st 8 dP nv rest needs _ hp.hs hok hp.hg hp.hv hp.hn) (.cons .here .nil) rfl (fun _ _ => aY _ _) ?_ ?_
 ·
  rintro _ _ _ hTr le1;obtain ⟨e, p, hr, fb, h, rfl⟩ := aZ hTr;cases h
  refine aN (.cons .here .nil) ?_;refine aJ ?_;refine a8 bQ ?_;simp only [RT, hr, if_true, if_false, ↓reduceIte];exact ⟨fb, rfl, rfl⟩
 rintro _ K1 _ hTr leK1;obtain ⟨r, hr, hrep, rfl⟩ := a6 hTr;clear hTr;refine aA (aF rfl) rfl ?_;refine aG (aE ?_);refine bM ?_;refine aN (.cons .here .nil) ?_;refine bL rfl rfl leK1 ?_;simp only [RT, hr, if_true, if_false, ↓reduceIte];exact ⟨_, rfl, hrep, rfl⟩
def pX (s : List UInt8) (b : Nat) (rest : List Value) (K : Hl) (dp : Int) (Tf : St → Res (Tree × St)) : Prop :=
 ∀ (st : St) (K' : Hl), K.le K' → Ok s st → Sp Tryz.prog 168 [ptr b, i64 dp] K' [psb b s st rest] (RT s b rest (Tf st))
theorem aJO (b : Nat) (s : List UInt8) (st : St) (dp : Int) (rest : List Value) (K : Hl) (Tf : St → Res (Tree × St)) (hs : s.length ≤ 600) (hok : Ok s st) (hg : Glob K) (hd : 0 ≤ dp ∧ dp ≤ 6) (hT : pX s b rest K (dp + 1) Tf) :
  Sp Tryz.prog 167 [ptr b, i64 dp] K [psb b s st rest] (RT s b rest (notC s Tf st)) := by
 have ha := hok.1;refine bA Tryz.func167 rfl Tryz.ntmps167 rfl rfl fun F w => ?_
 refine aI (aB ?_);refine aA (aF rfl) rfl ?_;refine aG (aE ?_);refine aI (aB ?_);refine aA (aC rfl) rfl ?_;refine aA bS rfl ?_;refine aA (aD (o' := 0) bX rfl rfl) rfl ?_;refine aW rfl rfl (dE b 208 s st.1 _ _ _ _ rest hs ha _ hg) (.cons .here .nil) rfl (fun _ _ => aY _ _) ?_ ?_
 ·
  rintro _ _ _ hTr le1;obtain ⟨e, p, hr, fb, h, rfl⟩ := aZ hTr;cases h
  refine aN (.cons .here .nil) ?_;refine aJ ?_;refine a8 bQ ?_;simp only [RT, notC, hr, if_true, if_false, ↓reduceIte];exact ⟨fb, rfl, rfl⟩
 rintro _ K _ hTr -;obtain ⟨r, hr, rfl, rfl, rfl⟩ := a6 hTr;clear hTr;have hro := dT ha hr;refine aG (aE ?_);refine aI (aB ?_);refine aA (aC rfl) rfl ?_;refine aA (aC rfl) rfl ?_;refine aA (b0 rfl rfl aH aH) rfl ?_;refine aW rfl rfl (hT r _ (Hl.le_refl _) hro) (.cons .here .nil) rfl (fun _ _ => aY _ _) ?_ ?_
 ·
  rintro _ _ _ hTr le1;obtain ⟨e, p, ht, fb, h, rfl⟩ := aZ hTr;cases h
  refine aN (.cons .here .nil) ?_;refine aJ ?_;refine a8 bQ ?_;simp only [RT, notC, hr, ht, if_true, if_false, ↓reduceIte];exact ⟨fb, rfl, rfl⟩
 rintro _ K1 _ hTr leK1;obtain ⟨t, ht, ⟨ty, u, rfl, hrep⟩, rfl⟩ := a6 hTr;clear hTr;refine aA (cJ aP5 aOY (.cons rfl rfl rfl (.cons .nil) .nil)) rfl ?_;refine aA (dA Tryz.underlying293 (fun _ h => by cases h) rfl) rfl ?_;refine aA (aF rfl) rfl ?_;refine aG (aE ?_);refine bM ?_;refine aN (.cons .here .nil) ?_;refine bL rfl rfl leK1 ?_;simp only [RT, notC, hr, ht, if_true, if_false, ↓reduceIte];exact ⟨_, rfl, ⟨_, _, rfl, _, hrep, rfl⟩, rfl⟩
theorem aIG (b : Nat) (e : TypeId) (c : Cell) : ∀ h, pt b (aU [c.1] e) h → sl false (eJ e) (.slice (some ⟨b, 0, none⟩) 1 1) [c] h :=
 rT (k := eJ e) (xs := [c]) (cells := [c.1]) (Nat.le_refl _) rfl rfl (.inl (Nat.le_refl _)) (fun h => by cases h)
theorem xA (b : Nat) (s : List UInt8) (st : St) (all : Bool) (dp : Int) (rest : List Value) (K : Hl) (Tf : St → Res (Tree × St)) (hs : s.length ≤ 600) (hok : Ok s st) (hg : Glob K) (hd : 0 ≤ dp ∧ dp ≤ 6) (hTa : Adv s Tf) (hT : pX s b rest K (dp + 1) Tf) :
  Sp Tryz.prog 170 [ptr b, .bool all, i64 dp] K [psb b s st rest] (RT s b rest (mH s Tf all st)) := by
 have ha := hok.1;refine bA Tryz.func170 rfl Tryz.ntmps170 rfl rfl fun F w => ?_
 refine aI (aB ?_);refine aA (aF rfl) rfl ?_;refine aG (aE ?_);refine aI (aB ?_);refine aA (aC rfl) rfl ?_;refine aA bS rfl ?_;refine aA (aD (o' := 0) bX rfl rfl) rfl ?_;refine aW rfl rfl (dE b 208 s st.1 _ _ _ _ rest hs ha _ hg) (.cons .here .nil) rfl (fun _ _ => aY _ _) ?_ ?_
 ·
  rintro _ _ _ hTr le1;obtain ⟨e, p, hr, fb, h, rfl⟩ := aZ hTr;cases h
  refine aN (.cons .here .nil) ?_;refine aJ ?_;refine a8 bQ ?_;simp only [RT, mH, hr, if_true, if_false, ↓reduceIte];exact ⟨fb, rfl, rfl⟩
 rintro _ K _ hTr -;obtain ⟨r, hr, rfl, rfl, rfl⟩ := a6 hTr;clear hTr;have hro := dT ha hr;refine aG (aE ?_);refine aI (aB ?_);refine aA (aC rfl) rfl ?_;refine aW rfl rfl (iK b s r rest [40] _ hs hro.1 hg) (.cons .here .nil) rfl (fun _ _ => aY _ _) ?_ ?_
 ·
  rintro _ _ _ hTr le1;obtain ⟨e, p, hq, fb, h, rfl⟩ := aZ hTr;cases h
  refine aN (.cons .here .nil) ?_;refine aJ ?_;refine a8 bQ ?_;simp only [RT, mH, hr, hq, if_true, if_false, ↓reduceIte];exact ⟨fb, rfl, rfl⟩
 rintro _ K _ hTr -;obtain ⟨q, hq, rfl, rfl, rfl⟩ := a6 hTr;clear hTr;have hqo := tU hro.1 hq;refine aG (aE ?_);refine aI (aB ?_);refine aA (aC rfl) rfl ?_;refine aA (aC rfl) rfl ?_;refine aA (aC rfl) rfl ?_;refine aA (b0 rfl rfl aH aH) rfl ?_;refine aW rfl rfl (hT q _ (Hl.le_refl _) hqo) (.cons .here .nil) rfl (fun _ _ => aY _ _) ?_ ?_
 ·
  rintro _ _ _ hTr le1;obtain ⟨e, p, ht, fb, h, rfl⟩ := aZ hTr;cases h
  refine aN (.cons .here .nil) ?_;refine aJ ?_;refine a8 bQ ?_;simp only [RT, mH, hr, hq, ht, if_true, if_false, ↓reduceIte];exact ⟨fb, rfl, rfl⟩
 rintro _ K1 _ hTr leK1;obtain ⟨t, ht, ⟨ty, u, rfl, hrep⟩, rfl⟩ := a6 hTr;clear hTr;have hto := (hTa _ _ hqo ht).1;refine ol_s (bN (z0 := [.nilIface]) o4 aNK rfl rfl rfl rfl (.cons rfl rfl rfl (.cons .nil) .nil)) rfl ?_;rintro _ K _ ⟨b19, rfl, rfl, rfl⟩ -;refine aA (cJ aQA aO3 (.cons rfl rfl rfl (.cons .nil) (.cons rfl rfl rfl (.skip (.cons .nil)) .nil))) rfl ?_;refine ol_s (cL aNN) rfl ?_;rintro _ K _ ⟨b7, rfl, rfl, rfl⟩ -;refine bP (cE zP rfl rfl rfl a7 (by first | (simp [Value.oneCell']; done) | exact fun c hc => El.one _ _ c hc) (.cons (.cons .nil)) (by intro j hj; simp)) ?_;rintro _ K _ ⟨rfl, rfl⟩ -;refine aG (aE ?_);refine aI (bC ?_);refine zL (fun (K2 : Hl) (st2 : St) (us : List (Cell × Cell)) (sv : Value) => K.le K2 ∧ Ok s st2 ∧ us.length + mu s st2 ≤ 1300 ∧ ∃ acc f, isTL acc = true ∧ Rep K2 acc us ∧ mu s st2 ≤ f ∧ mH s Tf all st = rM all (n4 s Tf (f + 1) acc st2)) (fun _ _ _ _ => [(0, ptr b), (2, i64 dp), (7, ptr b7)]) (fun K2 _ _ _ => K2) (fun _ st2 us sv => [pt b7 (aU [.bool all, sv] 376), sl false (eJ 288) sv (us.map Prod.fst), psb b s st2 rest]) (fun _ st2 _ _ => mu s st2) _ t.2 [(⟨.iface ty u, rfl⟩, u0)] (.slice (some ⟨b19, 0, none⟩) 1 1) ⟨Hl.le_refl _, hto, by have := p6 s t.2; simp; omega, .tcons t.1 .tnil, mu s t.2, rfl, ⟨_, [], hrep, rfl, rfl⟩, Nat.le_refl _, by simp only [mH, hr, hq, ht]⟩ (.cons 0 rfl (.cons 2 rfl (.cons 7 rfl .nil))) rfl (fun h hh => eW (gP (aIG b19 288 ⟨.iface ty u, rfl⟩) h (eW hh))) ?_;intro K2 st2 us sv ⟨leK, hok2, hus, acc, f, hacc, hrp, hf, hx⟩;refine aI (aI ?_);refine aB ?_;refine aA (aC rfl) rfl ?_;refine aW rfl rfl (uS b s st2 rest [44] _ hs hok2.1 (hg.mono (Hl.le_trans leK1 leK))) (.cons (.there (.there .here)) .nil) rfl (fun _ _ => aY _ _) ?_ ?_
 ·
  rintro _ _ _ hTr le1;obtain ⟨e, p, hy, fb, h, rfl⟩ := aZ hTr;cases h
  refine aN (.cons .here .nil) ?_;refine aJ ?_;refine aJ ?_;refine aJ ?_;refine aQ ?_;refine aJ ?_;refine a8 (Hl.le_trans leK1 (Hl.le_trans leK le1)) ?_;simp only [RT, hx, n4, hy, if_true, if_false, ↓reduceIte];exact ⟨fb, rfl, rfl⟩
 rintro _ K _ hTr -;obtain ⟨y, hy, rfl, rfl, rfl⟩ := a6 hTr;clear hTr;obtain ⟨hy1, hy2, hy3⟩ := sF hok2.1 hy;have hyo := sG hok2 hy;refine aG (aE ?_);refine d6 22 rfl (fun h22 => ?_) (fun h22 => ?_)
 ·
  refine aX ?_;refine aE (bC ?_);refine t_draw (anc := [0, 1, 0, 0, 8, 28, 60, 127, 255, 511]) (ord := [0, 1, 2, 3, 4, 5, 6, 7, 8, 9]) [5, 6, 7, 9] [9] mixed (by decide +kernel) (.cons (.there .here) .nil) ?_;refine dl_ev rfl rfl (.none rfl) rfl rfl (aD (o' := 1) pQ rfl rfl) rfl ?_;refine dl_ev rfl rfl (.none rfl) rfl rfl (aK aE9 rfl aL rfl) rfl ?_;refine dl_ev rfl rfl (.none rfl) rfl rfl (aC rfl) rfl ?_;refine dl_ev rfl rfl (.none rfl) rfl rfl (aC rfl) rfl ?_;refine dl_ev rfl rfl (.none rfl) rfl rfl (b0 rfl rfl aH aH) rfl ?_;refine mW rfl (.none rfl) rfl rfl rfl rfl (hT y.2 _ (Hl.le_trans leK1 leK) hyo) (.cons (.there .here) .nil) rfl (fun _ _ => aY _ _) ?_ ?_
  ·
   rintro _ _ _ hTr le1;obtain ⟨e, p, ht2, fb, h, rfl⟩ := aZ hTr;cases h
   intro a0 w0 hd0 hi0;refine ⟨hd0, _, _, ?_, (Hl.le_trans leK1 (Hl.le_trans leK le1)), hi0.left⟩
   simp only [RT, hx, n4, hy, if_pos h22, ht2, if_true, if_false, ↓reduceIte];exact ⟨fb, rfl, rfl⟩
  rintro _ K3 _ hTr leK3;obtain ⟨t2, ht2, ⟨ty2, u2, rfl, hrep2⟩, rfl⟩ := a6 hTr;clear hTr;refine ⟨_, (show Tks _ _ _ from (.cons (.there .here) .nil)).sat, ?_⟩
  refine dl_s rfl rfl (.none rfl) rfl rfl (bN (z0 := [.nilIface]) o4 aNK rfl rfl rfl rfl (.cons rfl rfl rfl (.cons .nil) .nil)) rfl ?_;rintro _ K _ ⟨b29, rfl, rfl, rfl⟩ -;refine ⟨_, (show Tks _ _ _ from (.cons (.there .here) .nil)).sat, ?_⟩
  refine dl_s rfl rfl (.none rfl) rfl rfl (dJ (k := (eJ 288)) (ys := [⟨.iface ty2 u2, rfl⟩]) vY rfl rfl a7 (fun w j => dB Tryz.underlying374 (SeesSl.at (.blk (.own (.there .here)) rfl rfl) j)) (by simp; omega) (by first | (simp; omega) | omega)) rfl ?_;rintro v30 K _ ⟨rfl, rfl, ho30⟩ -;refine ⟨_, (show Tks _ _ _ from (.cons (.there .here) .nil)).sat, ?_⟩
  refine dl_ev rfl rfl (.none rfl) rfl rfl (aD (o' := 1) pQ rfl rfl) rfl ?_;refine oG rfl rfl (.none rfl) rfl (bK aE9 rfl rfl cD a7 (.succ .zero) rfl) ?_;rintro _ K _ ⟨rfl, rfl⟩ -;refine dl_nil ?_;refine aM ?_;have hm := hy3 h22;have hm2 := hTa _ _ hyo ht2;obtain ⟨f0, rfl⟩ : ∃ f0, f = f0 + 1 := ⟨f - 1, by omega⟩;refine aN (.cons .here (.cons .here (.cons (.there .here) .nil))) ?_;obtain ⟨hr3, hr4⟩ := aGZ hrep2 hacc (hrp.mono leK3);refine uO K t2.2 (us ++ [(⟨.iface ty2 u2, rfl⟩, u0)]) v30 ⟨Hl.le_trans leK leK3, hm2.1, by simp; omega, acc.snocT t2.1, f0, hr4, hr3, by omega, ?_⟩ aH (.cons 0 rfl (.cons 2 rfl (.cons 7 rfl .nil))) rfl (by rw [List.map_append]; exact fun _ h => h)
  simp only [RT, hx, n4, hy, if_pos h22, ht2, if_true, if_false, ↓reduceIte]
 ·
  have g22 : ¬ y.1 = true := by simp [h22]
  refine cR ?_;refine aT ?_;refine aT ?_;refine bG ?_;refine aE (aI ?_);refine aB ?_;refine aA (aC rfl) rfl ?_;refine aW rfl rfl (iK b s y.2 rest [41] _ hs hyo.1 (hg.mono (Hl.le_trans leK1 leK))) (.cons .here .nil) rfl (fun _ _ => aY _ _) ?_ ?_
  ·
   rintro _ _ _ hTr le1;obtain ⟨e, p, hz, fb, h, rfl⟩ := aZ hTr;cases h
   refine aN (.cons .here .nil) ?_;refine aJ ?_;refine a8 (Hl.le_trans leK1 (Hl.le_trans leK le1)) ?_;simp only [RT, hx, n4, hy, if_neg g22, hz, if_true, if_false, ↓reduceIte];exact ⟨fb, rfl, rfl⟩
  rintro _ K _ hTr -;obtain ⟨z, hz, rfl, rfl, rfl⟩ := a6 hTr;clear hTr;refine aG (aE ?_);refine aI (aB ?_);refine aA (bT zP rfl aL rfl rfl) rfl ?_;refine aA (dA Tryz.underlying376 (fun _ h => by cases h) rfl) rfl ?_;refine aA (aF rfl) rfl ?_;refine aG (aE ?_);refine bM ?_;refine aN (.cons (.there (.there .here)) (.cons .here .nil)) ?_;refine fM fun K4 leS hS => ?_
  refine aN (.cons .here .nil) ?_;refine bL rfl rfl (Hl.le_trans leK1 (Hl.le_trans leK leS)) ?_;simp only [RT, hx, n4, hy, if_neg g22, hz, if_true, if_false, ↓reduceIte];simp only [rM];exact ⟨_, rfl, ⟨_, _, rfl, us, sv, hrp.mono leS, hS, rfl⟩, rfl⟩
end Go.Proofs
end
section
set_option maxRecDepth 4000
namespace Go.Proofs
open Go Go.SL Go.Syn
theorem oW (fn : FuncId) (K : Hl) : Sp Tryz.prog 158 [.func (.func fn) #[] #[]] K [] (Ret fun v K' L' => ∃ b1, v = .func (.func 259) #[] #[ptr b1] ∧ K' b1 = some (aU [.func (.func fn) #[] #[]] 283) ∧ L' = []) := by
 refine bA Tryz.func158 rfl Tryz.ntmps158 rfl rfl fun F w => ?_
 refine aI (aB ?_);refine ol_s (d9 rfl rfl) rfl ?_;rintro _ K _ ⟨b1, rfl, rfl, rfl⟩ -;refine aA (aF rfl) rfl ?_;refine aG (aE ?_);refine aI (aB ?_);refine aA (gT rfl rfl) rfl ?_;refine aA (aF rfl) rfl ?_;refine aG (aE ?_);refine bM ?_;refine gB fun K1 le1 hK1 => ?_
 refine bL rfl rfl le1 ?_;exact ⟨_, rfl, b1, rfl, hK1, rfl⟩
theorem n9 (kd : Int) (ext : List UInt8) (K : Hl) : Sp Tryz.prog 162 [i64 kd, str ext] K [] (Ret fun v K' L' => ∃ b1 b2, v = .func (.func 260) #[] #[ptr b1, ptr b2] ∧ K' b1 = some (aU [str ext] 9) ∧ K' b2 = some (aU [i64 kd] 3) ∧ L' = []) := by
 refine bA Tryz.func162 rfl Tryz.ntmps162 rfl rfl fun F w => ?_
 refine aI (aB ?_);refine ol_s (d9 rfl rfl) rfl ?_;rintro _ K _ ⟨b2, rfl, rfl, rfl⟩ -;refine ol_s (d9 rfl rfl) rfl ?_;rintro _ K _ ⟨b3, rfl, rfl, rfl⟩ -;refine aA (aF rfl) rfl ?_;refine aG (aE ?_);refine aI (aB ?_);refine aA (gT rfl rfl) rfl ?_;refine aA (aF rfl) rfl ?_;refine aG (aE ?_);refine bM ?_;refine gB fun K1 le1 hK1 => ?_
 refine gB fun K2 le2 hK2 => ?_
 refine bL rfl rfl (Hl.le_trans le1 le2) ?_;exact ⟨_, rfl, b3, b2, rfl, le2 _ _ hK1, hK2, rfl⟩
abbrev fnV (f : FuncId) : Value := .func (.func f) #[] #[]
abbrev simV (c : Nat) : Value := .func (.func 259) #[] #[ptr c]
abbrev actV (c d : Nat) : Value := .func (.func 260) #[] #[ptr c, ptr d]
structure Tabs (K : Hl) (cb tb : Nat) : Prop where
 cmds : ∃ c1 c2 c3 d1 e1 d2 e2 d3 e3, K cb = some (mapO [(aDZ, simV c1, 0), (sZ, simV c2, 1), (aD1, simV c3, 2), (iO, actV d1 e1, 3), (qY, actV d2 e2, 4), (kZ, actV d3 e3, 5), (aK2, fnV 163, 6), (txIf, fnV 164, 7)] 8) ∧
  K c1 = some (aU [fnV 159] 283) ∧ K c2 = some (aU [fnV 160] 283) ∧ K c3 = some (aU [fnV 161] 283) ∧
  K d1 = some (aU [str iO] 9) ∧ K e1 = some (aU [i64 2] 3) ∧ K d2 = some (aU [str []] 9) ∧ K e2 = some (aU [i64 3] 3) ∧ K d3 = some (aU [str kZ] 9) ∧ K e3 = some (aU [i64 4] 3)
 tests : K tb = some (mapO [(zW, fnV 165, 0), (t8, fnV 166, 1), (aFB, fnV 167, 2), (tZ, fnV 169, 3), (t6, fnV 171, 4), (rZ, fnV 172, 5), (gX, fnV 174, 6), (r6, fnV 175, 7), (rY, fnV 176, 8), (zV, fnV 178, 9)] 10)
theorem Tabs.mono {K K' : Hl} {cb tb : Nat} (h : Tabs K cb tb) (le : K.le K') : Tabs K' cb tb :=
 ⟨let ⟨c1, c2, c3, d1, e1, d2, e2, d3, e3, h0, h1, h2, h3, h4, h5, h6, h7, h8, h9⟩ := h.cmds; ⟨c1, c2, c3, d1, e1, d2, e2, d3, e3, le _ _ h0, le _ _ h1, le _ _ h2, le _ _ h3, le _ _ h4, le _ _ h5, le _ _ h6, le _ _ h7, le _ _ h8, le _ _ h9⟩, le _ _ h.tests⟩
theorem aB4 (b : Nat) (s : List UInt8) (st : St) (n0 n1 : Value) (K : Hl) : Sp Tryz.prog 100 [ptr b] K [psb b s st [n0, n1, .map none, .map none]]
  (Ret fun v K' L' => v = .tuple #[] ∧ ∃ cb tb, Tabs K' cb tb ∧ L' = [psb b s st [n0, n1, .map (some cb), .map (some tb)]]) := by
 refine bA Tryz.func100 rfl Tryz.ntmps100 rfl rfl fun F w => ?_
 refine aI (aB ?_);refine aA (aC rfl) rfl ?_;refine ol_s pJ rfl ?_;rintro _ K _ ⟨b3, rfl, rfl, rfl⟩ -;refine bD rfl rfl (oW _ _) .nil rfl ?_;rintro _ K1 _ ⟨c1, rfl, h1, rfl⟩ le1;refine bP (eV Tryz.underlying205 Tryz.underlying9 rfl rfl rfl ?_ a7) ?_
 ·rfl
 rintro _ K _ ⟨rfl, rfl⟩ -;refine bD rfl rfl (oW _ _) .nil rfl ?_;rintro _ K2 _ ⟨c2, rfl, h2, rfl⟩ le2;refine bP (eV Tryz.underlying205 Tryz.underlying9 rfl rfl rfl ?_ a7) ?_
 ·rfl
 rintro _ K _ ⟨rfl, rfl⟩ -;refine bD rfl rfl (oW _ _) .nil rfl ?_;rintro _ K3 _ ⟨c3, rfl, h3, rfl⟩ le3;refine bP (eV Tryz.underlying205 Tryz.underlying9 rfl rfl rfl ?_ a7) ?_
 ·rfl
 rintro _ K _ ⟨rfl, rfl⟩ -;refine bD rfl rfl (n9 2 iO _) .nil rfl ?_;rintro _ K4 _ ⟨d1, e1, rfl, h4, h5, rfl⟩ le4;refine bP (eV Tryz.underlying205 Tryz.underlying9 rfl rfl rfl ?_ a7) ?_
 ·rfl
 rintro _ K _ ⟨rfl, rfl⟩ -;refine bD rfl rfl (n9 3 [] _) .nil rfl ?_;rintro _ K5 _ ⟨d2, e2, rfl, h6, h7, rfl⟩ le5;refine bP (eV Tryz.underlying205 Tryz.underlying9 rfl rfl rfl ?_ a7) ?_
 ·rfl
 rintro _ K _ ⟨rfl, rfl⟩ -;refine bD rfl rfl (n9 4 kZ _) .nil rfl ?_;rintro _ K6 _ ⟨d3, e3, rfl, h8, h9, rfl⟩ le6;refine bP (eV Tryz.underlying205 Tryz.underlying9 rfl rfl rfl ?_ a7) ?_
 ·rfl
 rintro _ K _ ⟨rfl, rfl⟩ -;refine bP (eV Tryz.underlying205 Tryz.underlying9 rfl rfl rfl ?_ a7) ?_
 ·rfl
 rintro _ K _ ⟨rfl, rfl⟩ -;refine bP (eV Tryz.underlying205 Tryz.underlying9 rfl rfl rfl ?_ a7) ?_
 ·rfl
 rintro _ K _ ⟨rfl, rfl⟩ -;refine aA (aC rfl) rfl ?_;refine aA bS rfl ?_;refine aA (aD (o' := 8) xN rfl rfl) rfl ?_;refine bP (bK aNE rfl rfl cD a7 (.succ (.succ (.succ (.succ (.succ (.succ (.succ (.succ .zero)))))))) rfl) ?_;rintro _ K _ ⟨rfl, rfl⟩ -;refine aG (aE ?_);refine aB ?_;refine aA (aC rfl) rfl ?_;refine ol_s pJ rfl ?_;rintro _ K _ ⟨b14, rfl, rfl, rfl⟩ -;refine bP (eV Tryz.underlying206 Tryz.underlying9 rfl rfl rfl ?_ a7) ?_
 ·rfl
 rintro _ K _ ⟨rfl, rfl⟩ -;refine bP (eV Tryz.underlying206 Tryz.underlying9 rfl rfl rfl ?_ a7) ?_
 ·rfl
 rintro _ K _ ⟨rfl, rfl⟩ -;refine bP (eV Tryz.underlying206 Tryz.underlying9 rfl rfl rfl ?_ a7) ?_
 ·rfl
 rintro _ K _ ⟨rfl, rfl⟩ -;refine bP (eV Tryz.underlying206 Tryz.underlying9 rfl rfl rfl ?_ a7) ?_
 ·rfl
 rintro _ K _ ⟨rfl, rfl⟩ -;refine bP (eV Tryz.underlying206 Tryz.underlying9 rfl rfl rfl ?_ a7) ?_
 ·rfl
 rintro _ K _ ⟨rfl, rfl⟩ -;refine bP (eV Tryz.underlying206 Tryz.underlying9 rfl rfl rfl ?_ a7) ?_
 ·rfl
 rintro _ K _ ⟨rfl, rfl⟩ -;refine bP (eV Tryz.underlying206 Tryz.underlying9 rfl rfl rfl ?_ a7) ?_
 ·rfl
 rintro _ K _ ⟨rfl, rfl⟩ -;refine bP (eV Tryz.underlying206 Tryz.underlying9 rfl rfl rfl ?_ a7) ?_
 ·rfl
 rintro _ K _ ⟨rfl, rfl⟩ -;refine bP (eV Tryz.underlying206 Tryz.underlying9 rfl rfl rfl ?_ a7) ?_
 ·rfl
 rintro _ K _ ⟨rfl, rfl⟩ -;refine bP (eV Tryz.underlying206 Tryz.underlying9 rfl rfl rfl ?_ a7) ?_
 ·rfl
 rintro _ K _ ⟨rfl, rfl⟩ -;refine aA (aC rfl) rfl ?_;refine aA bS rfl ?_;refine aA (aD (o' := 9) xO rfl rfl) rfl ?_;refine bP (bK aNF rfl rfl cD a7 (.succ (.succ (.succ (.succ (.succ (.succ (.succ (.succ (.succ .zero))))))))) rfl) ?_;rintro _ K _ ⟨rfl, rfl⟩ -;refine aG ?_;refine aN (.cons .here (.cons .here (.cons .here .nil))) ?_;refine gB fun K7 le7 hT => ?_
 refine gB fun K8 le8 hC => ?_
 refine dD rfl (Hl.le_trans le1 (Hl.le_trans le2 (Hl.le_trans le3 (Hl.le_trans le4 (Hl.le_trans le5 (Hl.le_trans le6 (Hl.le_trans le7 le8))))))) ?_;have g7 := Hl.le_trans le7 le8;have g6 := Hl.le_trans le6 g7;have g5 := Hl.le_trans le5 g6;have g4 := Hl.le_trans le4 g5;have g3 := Hl.le_trans le3 g4;have g2 := Hl.le_trans le2 g3;exact ⟨_, rfl, rfl, _, _, ⟨⟨c1, c2, c3, d1, e1, d2, e2, d3, e3, hC, g2 _ _ h1, g3 _ _ h2, g4 _ _ h3, g5 _ _ h4, g5 _ _ h5, g6 _ _ h6, g6 _ _ h7, g7 _ _ h8, g7 _ _ h9⟩, le8 _ _ hT⟩, rfl⟩
end Go.Proofs
end
section
namespace Go.Proofs
open Go Go.SL Go.Syn
def RB (s : List UInt8) (b : Nat) (rest : List Value) (r : Res (Tree × St)) : Ending → Hl → List Asn → Prop := fD r fun r v K' L' => ∃ ys, Rep K' r.1 ys ∧ isCL r.1 = true ∧ L' = [sl false (eJ 224) v (ys.map Prod.fst), psb b s r.2 rest]
def uB (s : List UInt8) (b : Nat) (rest : List Value) (K : Hl) (dp : Int) (Bf : St → Res (Tree × St)) : Prop :=
 ∀ (st : St) (K' : Hl), K.le K' → Ok s st → Sp Tryz.prog 105 [ptr b, i64 dp] K' [psb b s st rest] (RB s b rest (Bf st))
theorem aFP {v : Value} (h : v.oneCell' = true) : v.cells = [v].toArray := by cases v <;> simp [Value.oneCell'] at h <;> rfl
theorem pB (b : Nat) (s : List UInt8) (st : St) (rest : List Value) (bp bd bi : Nat) (dp : Int) (tv sv : Value) (tv1 : tv.oneCell' = true) (us : List (Cell × Cell)) (K : Hl) (Bf : St → Res (Tree × St)) (hs : s.length ≤ 600) (hok : Ok s st) (hg : Glob K) (hd : 0 ≤ dp ∧ dp ≤ 6) (hu : us.length ≤ 1300)
  (hBa : AdvE s Bf) (hB : uB s b rest K (dp + 1) Bf) (h1 : K bp = some (aU [ptr b] 199)) (h2 : K bd = some (aU [i64 dp] 3)) :
  Sp Tryz.prog 264 [tv, ptr bp, ptr bd, ptr bi] K [pt bi (aU [sv] 311), sl false (gU 371) sv us, psb b s st rest]
   (fD (n3 s Bf st) fun r v K' L' => v = .tuple #[] ∧ ∃ (bv : Cell) (ys : List (Cell × Cell)) (sv' : Value), Rep K' r.1 ys ∧ Ksl (eJ 224) K' bv.1 (ys.map (·.1)) ∧ L' = [pt bi (aU [sv'] 311), sl false (gU 371) sv' (us ++ [(⟨tv, tv1⟩, bv)]), psb b s r.2 rest]) := by
 have ha := hok.1;refine bA Tryz.func264 rfl Tryz.ntmps264 rfl rfl fun F w => ?_
 refine aI (aB ?_);refine aA (aK l8 rfl aL rfl) rfl ?_;refine aW rfl rfl (iK b s st rest [123] _ hs ha hg) (.cons (.there (.there .here)) .nil) rfl (fun _ _ => aY _ _) ?_ ?_
 ·
  rintro _ _ _ hTr le1;obtain ⟨e, p, hq, fb, h, rfl⟩ := aZ hTr;cases h
  refine aN (.cons .here .nil) ?_;refine aJ ?_;refine a8 bQ ?_;simp only [n3, hq, if_true, if_false, ↓reduceIte];exact ⟨fb, rfl, rfl⟩
 rintro _ K _ hTr -;obtain ⟨q, hq, rfl, rfl, rfl⟩ := a6 hTr;clear hTr;have hqo := tU ha hq;refine aG (aE ?_);refine aI (aB ?_);refine aA (aK l8 rfl aL rfl) rfl ?_;refine aA (aK ts3 rfl aL rfl) rfl ?_;refine aA (b0 rfl rfl aH aH) rfl ?_;refine aW rfl rfl (hB q _ (Hl.le_refl _) hqo) (.cons .here .nil) rfl (fun _ _ => aY _ _) ?_ ?_
 ·
  rintro _ _ _ hTr le1;obtain ⟨e, p, hb, fb, h, rfl⟩ := aZ hTr;cases h
  refine aN (.cons .here .nil) ?_;refine aJ ?_;refine a8 bQ ?_;simp only [n3, hq, hb, if_true, if_false, ↓reduceIte];exact ⟨fb, rfl, rfl⟩
 rintro _ K1 _ hTr leK1;obtain ⟨bb, hb, ⟨ys, hrep, hcl, rfl⟩⟩ := a6 hTr;clear hTr;have hbo := (hBa _ _ hqo hb).1;have h1 := leK1 _ _ h1;refine fU fun K2 leS hS => ?_
 obtain ⟨sa, sn, sc, rfl⟩ := hS.isSlice;have h1 := leS _ _ h1;have hrep := hrep.mono leS;refine aA (aF rfl) rfl ?_;refine aG (aE ?_);refine aI (aB ?_);refine aA (aK l8 rfl aL rfl) rfl ?_;refine aW rfl rfl (iK b s bb.2 rest [125] _ hs hbo.1 (hg.mono (Hl.le_trans leK1 leS))) (.cons .here .nil) rfl (fun _ _ => aY _ _) ?_ ?_
 ·
  rintro _ _ _ hTr le1;obtain ⟨e, p, hz, fb, h, rfl⟩ := aZ hTr;cases h
  refine aN (.cons .here .nil) ?_;refine aJ ?_;refine a8 (Hl.le_trans leK1 (Hl.le_trans leS le1)) ?_;simp only [n3, hq, hb, hz, if_true, if_false, ↓reduceIte];exact ⟨fb, rfl, rfl⟩
 rintro _ K _ hTr -;obtain ⟨z, hz, rfl, rfl, rfl⟩ := a6 hTr;clear hTr;refine aG (aE ?_);refine aB ?_;refine aA (aD (o' := 0) pP rfl rfl) rfl ?_;refine aA (aK aE8 rfl aL rfl) rfl ?_;refine aA (aC rfl) rfl ?_;refine aA (aC rfl) rfl ?_;refine aA (cJ aP9 aO2 (.cons rfl (aFP tv1) rfl (.cons .nil) (.cons rfl rfl rfl (.skip (.cons .nil)) .nil))) rfl ?_;refine ol_s (bN (z0 := [.nilIface, .slice none 0 0]) o3 aK5 rfl rfl rfl rfl (.cons rfl rfl rfl (.cons (.cons .nil)) .nil)) rfl ?_;rintro _ K _ ⟨b19, rfl, rfl, rfl⟩ -;refine ol_s (dJ (k := (gU 371)) (ys := [(⟨tv, tv1⟩, ⟨.slice sa sn sc, rfl⟩)]) vX rfl rfl (.there (.there (.there .here))) (fun w j => dB Tryz.underlying309 (SeesSl.at (.blk (.own .here) rfl rfl) j)) (by first | (simp; omega) | omega) (by first | (simp; omega) | omega)) rfl ?_;rintro v20 K _ ⟨rfl, rfl, ho20⟩ -;refine aA (aD (o' := 0) pP rfl rfl) rfl ?_;refine bP (bK aE8 rfl rfl cD a7 .zero rfl) ?_;rintro _ K _ ⟨rfl, rfl⟩ -;refine aG ?_;refine aN (.cons (.there (.there (.there .here))) (.cons .here (.cons (.there .here) .nil))) ?_;refine dD rfl (Hl.le_trans leK1 leS) ?_;simp only [n3, hq, hb, hz, if_true, if_false, ↓reduceIte];exact ⟨_, rfl, rfl, _, ys, _, hrep, hS, rfl⟩
theorem wK (b : Nat) (s : List UInt8) (st : St) (rest : List Value) (at_ dp : Int) (K : Hl) (Tf Bf : St → Res (Tree × St)) (hs : s.length ≤ 600) (hok : Ok s st) (hg : Glob K) (hd : 0 ≤ dp ∧ dp ≤ 6) (hTa : Adv s Tf) (hBa : AdvE s Bf) (hT : pX s b rest K (dp + 1) Tf) (hB : uB s b rest K (dp + 1) Bf) :
    Sp Tryz.prog 164 [ptr b, i64 at_, i64 dp] K [psb b s st rest] (RT s b rest (ifC s Tf Bf st)) := by
  have ha := hok.1;refine bA Tryz.func164 rfl Tryz.ntmps164 rfl rfl fun F w => ?_
  refine aI (aB ?_);refine ol_s (d9 rfl rfl) rfl ?_;rintro _ K _ ⟨b3, rfl, rfl, rfl⟩ -;refine ol_s (d9 rfl rfl) rfl ?_;rintro _ K _ ⟨b5, rfl, rfl, rfl⟩ -;refine aA (aF rfl) rfl ?_;refine aG (aE ?_);refine aI (aB ?_);refine e7 fun Ka leA hbd => ?_
  refine e7 fun Kb leB hbp => ?_
  have hbd := leB _ _ hbd;have le0 := Hl.le_trans leA leB;refine aA (aK l8 rfl aL rfl) rfl ?_;refine aA bS rfl ?_;refine aA (aD (o' := 0) bX rfl rfl) rfl ?_;refine aW rfl rfl (dE b 208 s st.1 _ _ _ _ rest hs ha _ (hg.mono le0)) (.cons .here .nil) rfl (fun _ _ => aY _ _) ?_ ?_
  ·
    rintro _ _ _ hTr le1;obtain ⟨e, p, hr, fb, h, rfl⟩ := aZ hTr;cases h
    refine aN (.cons .here .nil) ?_;refine aJ ?_;refine a8 (Hl.le_trans le0 le1) ?_;simp only [RT, ifC, hr, if_true, if_false, ↓reduceIte];exact ⟨fb, rfl, rfl⟩
  rintro _ K _ hTr -;obtain ⟨r, hr, rfl, rfl, rfl⟩ := a6 hTr;clear hTr;have hro := dT ha hr;refine aG (aE ?_);refine aI (aB ?_);refine ol_s (cL aNM) rfl ?_;rintro _ K _ ⟨b7, rfl, rfl, rfl⟩ -;refine aG (aE ?_);refine aI (aB ?_);refine aA (gT rfl rfl) rfl ?_;refine aA (aF rfl) rfl ?_;refine aG (aE ?_);refine aI (aB ?_);refine aA (aC rfl) rfl ?_;refine aA (aK l8 rfl aL rfl) rfl ?_;refine aA (aK ts3 rfl aL rfl) rfl ?_;refine aA (b0 rfl rfl aH aH) rfl ?_;refine aW rfl rfl (hT r _ le0 hro) (.cons (.there .here) .nil) rfl (fun _ _ => aY _ _) ?_ ?_
  ·
    rintro _ _ _ hTr le1;obtain ⟨e, p, ht, fb, h, rfl⟩ := aZ hTr;cases h
    refine aN (.cons .here .nil) ?_;refine aJ ?_;refine a8 (Hl.le_trans le0 le1) ?_;simp only [RT, ifC, hr, ht, if_true, if_false, ↓reduceIte];exact ⟨fb, rfl, rfl⟩
  rintro _ K1 _ hTr leK1;obtain ⟨t, ht, ⟨ty, u, rfl, hrep⟩, rfl⟩ := a6 hTr;clear hTr;have hto := (hTa _ _ hro ht).1;have hbd := leK1 _ _ hbd;have hbp := leK1 _ _ hbp;have le01 := Hl.le_trans le0 leK1;refine jF (d8 (gU 371)) ?_;refine aW rfl rfl (pB b s t.2 rest b3 b5 b7 dp (.iface ty u) _ rfl [] _ Bf hs hto (hg.mono le01) hd (by simp) hBa (fun st2 K2 le2 ho => hB st2 K2 (Hl.le_trans le01 le2) ho) hbp hbd) (.cons (.there (.there .here)) (.cons .here (.cons .here .nil))) rfl (fun _ _ => aY _ _) ?_ ?_
  ·
    rintro _ _ _ hTr le1;obtain ⟨e, p, hb, fb, h, rfl⟩ := aZ hTr;cases h
    refine aN (.cons .here .nil) ?_;refine aJ ?_;refine a8 (Hl.le_trans le01 le1) ?_;simp only [RT, ifC, hr, ht, hb, if_true, if_false, ↓reduceIte];exact ⟨fb, rfl, rfl⟩
  rintro _ K3 _ hTr leK3;obtain ⟨bb, hb, rfl, bv, ys, sv1, hrb, hsb, rfl⟩ := a6 hTr;clear hTr;have hbo := (jJ hBa _ _ hto hb).1;have hbd := leK3 _ _ hbd;have hbp := leK3 _ _ hbp;have le03 := Hl.le_trans le01 leK3;refine aG (aE ?_);refine aI (bC ?_);refine zL (fun (K2 : Hl) (st2 : St) (us : List (Cell × Cell)) (sv : Value) => K3.le K2 ∧ Ok s st2 ∧ us.length + mu s st2 ≤ 1300 ∧ ∃ acc f, isBL acc = true ∧ Rep K2 acc us ∧ mu s st2 ≤ f ∧ ifC s Tf Bf st = e6 s Tf Bf (f + 1) acc st2) (fun _ _ _ _ => [(3, ptr b3), (5, ptr b5), (7, ptr b7), (8, .func (.func 264) #[] #[ptr b3, ptr b5, ptr b7])]) (fun K2 _ _ _ => K2) (fun _ st2 us sv => [pt b7 (aU [sv] 311), sl false (gU 371) sv us, psb b s st2 rest]) (fun _ st2 _ _ => mu s st2) _ bb.2 [(⟨.iface ty u, rfl⟩, bv)] sv1 ⟨Hl.le_refl _, hbo, by have := p6 s bb.2; simp; omega, .bcons t.1 bb.1 .bnil, mu s bb.2, rfl, ⟨_, ys, bv, [], hrep.mono leK3, ⟨_, _, rfl⟩, hrb, hsb, rfl, rfl⟩, Nat.le_refl _, by simp only [ifC, hr, ht, hb]⟩ (.cons 3 rfl (.cons 5 rfl (.cons 7 rfl (.cons 8 rfl .nil)))) rfl (fun _ h => h) ?_;intro K2 st2 us sv ⟨leL, hok2, hus, acc, f, hacc, hrp, hf, hx⟩;have hbd := leL _ _ hbd;have hbp := leL _ _ hbp;have le2 := Hl.le_trans le03 leL;refine aI (aI ?_);refine aB ?_;refine aA (aK l8 rfl aL rfl) rfl ?_;refine aA bS rfl ?_;refine aA (aD (o' := 0) bX rfl rfl) rfl ?_;refine aA (aD (o' := 2) cF rfl rfl) rfl ?_;refine aA (aD (o' := 2) eE rfl rfl) rfl ?_;refine aA (aK j8 rfl aL rfl) rfl ?_;refine aA (bV rfl rfl) rfl ?_;refine aA (aC rfl) rfl ?_;refine cB 27 rfl (fun g27 => ?_) (fun g27 => ?_)
  ·
    have g27 : st2.2.kind = 1 := by omega
    refine aV rfl rfl ?_;refine aA (aK l8 rfl aL rfl) rfl ?_;refine aV rfl rfl ?_;refine aA bS rfl ?_;refine aV rfl rfl ?_;refine aA (aD (o' := 0) bX rfl rfl) rfl ?_;refine aV rfl rfl ?_;refine aA (aD (o' := 2) cF rfl rfl) rfl ?_;refine aV rfl rfl ?_;refine aA (aD (o' := 3) fA rfl rfl) rfl ?_;refine aV rfl rfl ?_;refine aA (aK ts9 rfl aL rfl) rfl ?_;refine aV rfl rfl ?_;refine aA (iV rfl rfl) rfl ?_;refine aA (bJ rfl rfl) rfl ?_;refine aG (aE ?_);refine bH 35 rfl (fun h35 => ?_) (fun h35 => ?_)
    ·
      have gc : st2.2.kind = 1 ∧ st2.2.s = t7 := ⟨by omega, h35⟩;refine aX ?_;refine aE (bC ?_);refine aI (aB ?_);refine aA (aK l8 rfl aL rfl) rfl ?_;refine aA bS rfl ?_;refine aA (aD (o' := 0) bX rfl rfl) rfl ?_;refine aW rfl rfl (dE b 208 s st2.1 _ _ _ _ rest hs hok2.1 _ (hg.mono le2)) (.cons (.there (.there .here)) .nil) rfl (fun _ _ => aY _ _) ?_ ?_
      ·
        rintro _ _ _ hTr le1;obtain ⟨e, p, hr2, fb, h, rfl⟩ := aZ hTr;cases h
        refine aN (.cons .here .nil) ?_;refine aJ ?_;refine aQ ?_;refine aJ ?_;refine aQ ?_;refine aJ ?_;refine a8 (Hl.le_trans le2 le1) ?_;simp only [RT, hx, e6, gZ, if_pos gc, hr2, if_true, if_false, ↓reduceIte];exact ⟨fb, rfl, rfl⟩
      rintro _ K _ hTr -;obtain ⟨r2, hr2, rfl, rfl, rfl⟩ := a6 hTr;clear hTr;have hro2 := dT hok2.1 hr2;refine aG (aE ?_);refine aB ?_;refine aA (aC rfl) rfl ?_;refine aA (aK l8 rfl aL rfl) rfl ?_;refine aA (aK ts3 rfl aL rfl) rfl ?_;refine aA (b0 rfl rfl aH aH) rfl ?_;refine aW rfl rfl (hT r2 _ le2 hro2) (.cons .here .nil) rfl (fun _ _ => aY _ _) ?_ ?_
      ·
        rintro _ _ _ hTr le1;obtain ⟨e, p, ht2, fb, h, rfl⟩ := aZ hTr;cases h
        refine aN (.cons .here .nil) ?_;refine aQ ?_;refine aJ ?_;refine aQ ?_;refine aJ ?_;refine a8 (Hl.le_trans le2 le1) ?_;simp only [RT, hx, e6, gZ, if_pos gc, hr2, ht2, if_true, if_false, ↓reduceIte];exact ⟨fb, rfl, rfl⟩
      rintro _ K4 _ hTr leK4;obtain ⟨t2, ht2, ⟨ty2, u2, rfl, hrep2⟩, rfl⟩ := a6 hTr;clear hTr;have hto2 := (hTa _ _ hro2 ht2).1;have hbd := leK4 _ _ hbd;have hbp := leK4 _ _ hbp;have le4 := Hl.le_trans le2 leK4;refine aW rfl rfl (pB b s t2.2 rest b3 b5 b7 dp (.iface ty2 u2) _ rfl us _ Bf hs hto2 (hg.mono le4) hd aH hBa (fun st2 K2 lx ho => hB st2 K2 (Hl.le_trans le4 lx) ho) hbp hbd) (.cons (.there .here) (.cons (.there .here) (.cons .here .nil))) rfl (fun _ _ => aY _ _) ?_ ?_
      ·
        rintro _ _ _ hTr le1;obtain ⟨e, p, hb2, fb, h, rfl⟩ := aZ hTr;cases h
        refine aN (.cons .here .nil) ?_;refine aQ ?_;refine aJ ?_;refine aQ ?_;refine aJ ?_;refine a8 (Hl.le_trans le4 le1) ?_;simp only [RT, hx, e6, gZ, if_pos gc, hr2, ht2, hb2, if_true, if_false, ↓reduceIte];exact ⟨fb, rfl, rfl⟩
      rintro _ K5 _ hTr leK5;obtain ⟨bb2, hb2, rfl, bv2, ys2, sv2, hrb2, hsb2, rfl⟩ := a6 hTr;clear hTr;have hbo2 := (jJ hBa _ _ hto2 hb2).1;refine aG (aM ?_);have hm1 := eS hok2.1 aH hr2;have hm2 := hTa _ _ hro2 ht2;have hm3 := jJ hBa _ _ hto2 hb2;obtain ⟨f0, rfl⟩ : ∃ f0, f = f0 + 1 := ⟨f - 1, by omega⟩;obtain ⟨hr3, hr4⟩ := kK (o := some t2.1) ⟨hrep2.mono leK5, _, _, rfl⟩ hrb2 hsb2 hacc (hrp.mono (Hl.le_trans leK4 leK5));refine uO _ bb2.2 (us ++ [(⟨.iface ty2 u2, rfl⟩, bv2)]) sv2 ⟨Hl.le_trans leL (Hl.le_trans leK4 leK5), hbo2, by simp; omega, acc.snocB (some t2.1) bb2.1, f0, hr4, hr3, by omega, ?_⟩ aH (.cons 3 rfl (.cons 5 rfl (.cons 7 rfl (.cons 8 rfl .nil)))) rfl bI
      simp only [RT, hx, e6, gZ, if_pos gc, hr2, ht2, hb2, if_true, if_false, ↓reduceIte]
    ·
      have gc : ¬ (st2.2.kind = 1 ∧ st2.2.s = t7) := (fun h => h35 h.2);refine cR ?_;refine aT ?_;refine aT ?_;refine bG ?_;refine aE (aI ?_);refine aI (aB ?_);refine aA (aK l8 rfl aL rfl) rfl ?_;refine aA bS rfl ?_;refine aA (aD (o' := 0) bX rfl rfl) rfl ?_;refine aA (aD (o' := 2) cF rfl rfl) rfl ?_;refine aA (aD (o' := 2) eE rfl rfl) rfl ?_;refine aA (aK j8 rfl aL rfl) rfl ?_;refine aA (bV rfl rfl) rfl ?_;refine aA (aC rfl) rfl ?_;refine cB 53 rfl (fun g53 => ?_) (fun g53 => ?_)
      ·
        refine aV rfl rfl ?_;refine aA (aK l8 rfl aL rfl) rfl ?_;refine aV rfl rfl ?_;refine aA bS rfl ?_;refine aV rfl rfl ?_;refine aA (aD (o' := 0) bX rfl rfl) rfl ?_;refine aV rfl rfl ?_;refine aA (aD (o' := 2) cF rfl rfl) rfl ?_;refine aV rfl rfl ?_;refine aA (aD (o' := 3) fA rfl rfl) rfl ?_;refine aV rfl rfl ?_;refine aA (aK ts9 rfl aL rfl) rfl ?_;refine aV rfl rfl ?_;refine aA (iV rfl rfl) rfl ?_;refine aA (bJ rfl rfl) rfl ?_;refine aG (aE ?_);refine bH 61 rfl (fun h61 => ?_) (fun h61 => ?_)
        ·
          have gd : st2.2.kind = 1 ∧ st2.2.s = qX := ⟨by omega, h61⟩;refine aI (aB ?_);refine aA (aK l8 rfl aL rfl) rfl ?_;refine aA bS rfl ?_;refine aA (aD (o' := 0) bX rfl rfl) rfl ?_;refine aW rfl rfl (dE b 208 s st2.1 _ _ _ _ rest hs hok2.1 _ (hg.mono le2)) (.cons (.there (.there .here)) .nil) rfl (fun _ _ => aY _ _) ?_ ?_
          ·
            rintro _ _ _ hTr le1;obtain ⟨e, p, hr3, fb, h, rfl⟩ := aZ hTr;cases h
            refine aN (.cons .here .nil) ?_;refine aJ ?_;refine aJ ?_;refine a8 (Hl.le_trans le2 le1) ?_;simp only [RT, hx, e6, gZ, if_neg gc, if_pos gd, hr3, if_true, if_false, ↓reduceIte];exact ⟨fb, rfl, rfl⟩
          rintro _ K _ hTr -;obtain ⟨r3, hr3, rfl, rfl, rfl⟩ := a6 hTr;clear hTr;have hro3 := dT hok2.1 hr3;refine aG (aE ?_);refine aB ?_;refine aA (aC rfl) rfl ?_;refine aW rfl rfl (pB b s r3 rest b3 b5 b7 dp .nilIface _ rfl us _ Bf hs hro3 (hg.mono le2) hd aH hBa (fun st2 K2 lx ho => hB st2 K2 (Hl.le_trans le2 lx) ho) hbp hbd) (.cons (.there .here) (.cons (.there .here) (.cons .here .nil))) rfl (fun _ _ => aY _ _) ?_ ?_
          ·
            rintro _ _ _ hTr le1;obtain ⟨e, p, hb3, fb, h, rfl⟩ := aZ hTr;cases h
            refine aN (.cons .here .nil) ?_;refine aJ ?_;refine a8 (Hl.le_trans le2 le1) ?_;simp only [RT, hx, e6, gZ, if_neg gc, if_pos gd, hr3, hb3, if_true, if_false, ↓reduceIte];exact ⟨fb, rfl, rfl⟩
          rintro _ K6 _ hTr leK6;obtain ⟨bb3, hb3, rfl, bv3, ys3, sv3, hrb3, hsb3, rfl⟩ := a6 hTr;clear hTr;refine aG (aE ?_);refine aI (aB ?_);refine aA (bT mN rfl aL rfl rfl) rfl ?_;refine aA (dA Tryz.underlying311 (fun _ h => by cases h) rfl) rfl ?_;refine aA (aF rfl) rfl ?_;refine aG (aE ?_);refine bM ?_;refine aN (.cons (.there .here) (.cons (.there .here) .nil)) ?_;refine fM fun K9 leS hS => ?_
          refine bL rfl rfl (by first | exact Hl.le_trans le2 (Hl.le_trans leK6 leS) | exact Hl.le_trans le2 leS) ?_
          first
            | (simp only [RT, hx, e6, gZ, if_neg gc, if_pos gd, hr3, hb3]
               obtain ⟨hr6, hr7⟩ := kK (o := none) rfl hrb3 hsb3 hacc (hrp.mono leK6);exact ⟨_, rfl, ⟨_, _, rfl, _, _, hr6.mono leS, hS, rfl⟩, rfl⟩)
            | (simp only [RT, hx, e6, gZ, if_neg gc, if_neg gd]; exact ⟨_, rfl, ⟨_, _, rfl, us, sv, hrp.mono leS, hS, rfl⟩, rfl⟩)
        ·
          have gd : ¬ (st2.2.kind = 1 ∧ st2.2.s = qX) := (fun h => h61 h.2);refine aX ?_;refine aE (aI ?_);refine aB ?_;refine aA (bT mN rfl aL rfl rfl) rfl ?_;refine aA (dA Tryz.underlying311 (fun _ h => by cases h) rfl) rfl ?_;refine aA (aF rfl) rfl ?_;refine aG (aE ?_);refine bM ?_;refine aN (.cons (.there .here) (.cons (.there .here) .nil)) ?_;refine fM fun K9 leS hS => ?_
          refine bL rfl rfl (by first | exact Hl.le_trans le2 (Hl.le_trans leK6 leS) | exact Hl.le_trans le2 leS) ?_
          first
            | (simp only [RT, hx, e6, gZ, if_neg gc, if_pos gd, hr3, hb3]
               obtain ⟨hr6, hr7⟩ := kK (o := none) rfl hrb3 hsb3 hacc (hrp.mono leK6);exact ⟨_, rfl, ⟨_, _, rfl, _, _, hr6.mono leS, hS, rfl⟩, rfl⟩)
            | (simp only [RT, hx, e6, gZ, if_neg gc, if_neg gd]; exact ⟨_, rfl, ⟨_, _, rfl, us, sv, hrp.mono leS, hS, rfl⟩, rfl⟩)
      ·
        have gd : ¬ (st2.2.kind = 1 ∧ st2.2.s = qX) := (fun h => by omega);refine aR rfl rfl rfl ?_;refine aR rfl rfl rfl ?_;refine aR rfl rfl rfl ?_;refine aR rfl rfl rfl ?_;refine aR rfl rfl rfl ?_;refine aR rfl rfl rfl ?_;refine aR rfl rfl rfl ?_;refine aA (bB rfl rfl) rfl ?_;refine aG (aE ?_);refine cO rfl ?_;refine aX ?_;refine aE (aI ?_);refine aB ?_;refine aA (bT mN rfl aL rfl rfl) rfl ?_;refine aA (dA Tryz.underlying311 (fun _ h => by cases h) rfl) rfl ?_;refine aA (aF rfl) rfl ?_;refine aG (aE ?_);refine bM ?_;refine aN (.cons (.there .here) (.cons (.there .here) .nil)) ?_;refine fM fun K9 leS hS => ?_
        refine bL rfl rfl (by first | exact Hl.le_trans le2 (Hl.le_trans leK6 leS) | exact Hl.le_trans le2 leS) ?_
        first
          | (simp only [RT, hx, e6, gZ, if_neg gc, if_pos gd, hr3, hb3]
             obtain ⟨hr6, hr7⟩ := kK (o := none) rfl hrb3 hsb3 hacc (hrp.mono leK6);exact ⟨_, rfl, ⟨_, _, rfl, _, _, hr6.mono leS, hS, rfl⟩, rfl⟩)
          | (simp only [RT, hx, e6, gZ, if_neg gc, if_neg gd]; exact ⟨_, rfl, ⟨_, _, rfl, us, sv, hrp.mono leS, hS, rfl⟩, rfl⟩)
  ·
    have gc : ¬ (st2.2.kind = 1 ∧ st2.2.s = t7) := (fun h => by omega);refine aR rfl rfl rfl ?_;refine aR rfl rfl rfl ?_;refine aR rfl rfl rfl ?_;refine aR rfl rfl rfl ?_;refine aR rfl rfl rfl ?_;refine aR rfl rfl rfl ?_;refine aR rfl rfl rfl ?_;refine aA (bB rfl rfl) rfl ?_;refine aG (aE ?_);refine cO rfl ?_;refine cR ?_;refine aT ?_;refine aT ?_;refine bG ?_;refine aE (aI ?_);refine aI (aB ?_);refine aA (aK l8 rfl aL rfl) rfl ?_;refine aA bS rfl ?_;refine aA (aD (o' := 0) bX rfl rfl) rfl ?_;refine aA (aD (o' := 2) cF rfl rfl) rfl ?_;refine aA (aD (o' := 2) eE rfl rfl) rfl ?_;refine aA (aK j8 rfl aL rfl) rfl ?_;refine aA (bV rfl rfl) rfl ?_;refine aA (aC rfl) rfl ?_;refine cB 53 rfl (fun g53 => ?_) (fun g53 => ?_)
    ·
      refine aV rfl rfl ?_;refine aA (aK l8 rfl aL rfl) rfl ?_;refine aV rfl rfl ?_;refine aA bS rfl ?_;refine aV rfl rfl ?_;refine aA (aD (o' := 0) bX rfl rfl) rfl ?_;refine aV rfl rfl ?_;refine aA (aD (o' := 2) cF rfl rfl) rfl ?_;refine aV rfl rfl ?_;refine aA (aD (o' := 3) fA rfl rfl) rfl ?_;refine aV rfl rfl ?_;refine aA (aK ts9 rfl aL rfl) rfl ?_;refine aV rfl rfl ?_;refine aA (iV rfl rfl) rfl ?_;refine aA (bJ rfl rfl) rfl ?_;refine aG (aE ?_);refine bH 61 rfl (fun h61 => ?_) (fun h61 => ?_)
      ·
        have gd : st2.2.kind = 1 ∧ st2.2.s = qX := ⟨by omega, h61⟩;refine aI (aB ?_);refine aA (aK l8 rfl aL rfl) rfl ?_;refine aA bS rfl ?_;refine aA (aD (o' := 0) bX rfl rfl) rfl ?_;refine aW rfl rfl (dE b 208 s st2.1 _ _ _ _ rest hs hok2.1 _ (hg.mono le2)) (.cons (.there (.there .here)) .nil) rfl (fun _ _ => aY _ _) ?_ ?_
        ·
          rintro _ _ _ hTr le1;obtain ⟨e, p, hr3, fb, h, rfl⟩ := aZ hTr;cases h
          refine aN (.cons .here .nil) ?_;refine aJ ?_;refine aJ ?_;refine a8 (Hl.le_trans le2 le1) ?_;simp only [RT, hx, e6, gZ, if_neg gc, if_pos gd, hr3, if_true, if_false, ↓reduceIte];exact ⟨fb, rfl, rfl⟩
        rintro _ K _ hTr -;obtain ⟨r3, hr3, rfl, rfl, rfl⟩ := a6 hTr;clear hTr;have hro3 := dT hok2.1 hr3;refine aG (aE ?_);refine aB ?_;refine aA (aC rfl) rfl ?_;refine aW rfl rfl (pB b s r3 rest b3 b5 b7 dp .nilIface _ rfl us _ Bf hs hro3 (hg.mono le2) hd aH hBa (fun st2 K2 lx ho => hB st2 K2 (Hl.le_trans le2 lx) ho) hbp hbd) (.cons (.there .here) (.cons (.there .here) (.cons .here .nil))) rfl (fun _ _ => aY _ _) ?_ ?_
        ·
          rintro _ _ _ hTr le1;obtain ⟨e, p, hb3, fb, h, rfl⟩ := aZ hTr;cases h
          refine aN (.cons .here .nil) ?_;refine aJ ?_;refine a8 (Hl.le_trans le2 le1) ?_;simp only [RT, hx, e6, gZ, if_neg gc, if_pos gd, hr3, hb3, if_true, if_false, ↓reduceIte];exact ⟨fb, rfl, rfl⟩
        rintro _ K6 _ hTr leK6;obtain ⟨bb3, hb3, rfl, bv3, ys3, sv3, hrb3, hsb3, rfl⟩ := a6 hTr;clear hTr;refine aG (aE ?_);refine aI (aB ?_);refine aA (bT mN rfl aL rfl rfl) rfl ?_;refine aA (dA Tryz.underlying311 (fun _ h => by cases h) rfl) rfl ?_;refine aA (aF rfl) rfl ?_;refine aG (aE ?_);refine bM ?_;refine aN (.cons (.there .here) (.cons (.there .here) .nil)) ?_;refine fM fun K9 leS hS => ?_
        refine bL rfl rfl (by first | exact Hl.le_trans le2 (Hl.le_trans leK6 leS) | exact Hl.le_trans le2 leS) ?_
        first
          | (simp only [RT, hx, e6, gZ, if_neg gc, if_pos gd, hr3, hb3]
             obtain ⟨hr6, hr7⟩ := kK (o := none) rfl hrb3 hsb3 hacc (hrp.mono leK6);exact ⟨_, rfl, ⟨_, _, rfl, _, _, hr6.mono leS, hS, rfl⟩, rfl⟩)
          | (simp only [RT, hx, e6, gZ, if_neg gc, if_neg gd]; exact ⟨_, rfl, ⟨_, _, rfl, us, sv, hrp.mono leS, hS, rfl⟩, rfl⟩)
      ·
        have gd : ¬ (st2.2.kind = 1 ∧ st2.2.s = qX) := (fun h => h61 h.2);refine aX ?_;refine aE (aI ?_);refine aB ?_;refine aA (bT mN rfl aL rfl rfl) rfl ?_;refine aA (dA Tryz.underlying311 (fun _ h => by cases h) rfl) rfl ?_;refine aA (aF rfl) rfl ?_;refine aG (aE ?_);refine bM ?_;refine aN (.cons (.there .here) (.cons (.there .here) .nil)) ?_;refine fM fun K9 leS hS => ?_
        refine bL rfl rfl (by first | exact Hl.le_trans le2 (Hl.le_trans leK6 leS) | exact Hl.le_trans le2 leS) ?_
        first
          | (simp only [RT, hx, e6, gZ, if_neg gc, if_pos gd, hr3, hb3]
             obtain ⟨hr6, hr7⟩ := kK (o := none) rfl hrb3 hsb3 hacc (hrp.mono leK6);exact ⟨_, rfl, ⟨_, _, rfl, _, _, hr6.mono leS, hS, rfl⟩, rfl⟩)
          | (simp only [RT, hx, e6, gZ, if_neg gc, if_neg gd]; exact ⟨_, rfl, ⟨_, _, rfl, us, sv, hrp.mono leS, hS, rfl⟩, rfl⟩)
    ·
      have gd : ¬ (st2.2.kind = 1 ∧ st2.2.s = qX) := (fun h => by omega);refine aR rfl rfl rfl ?_;refine aR rfl rfl rfl ?_;refine aR rfl rfl rfl ?_;refine aR rfl rfl rfl ?_;refine aR rfl rfl rfl ?_;refine aR rfl rfl rfl ?_;refine aR rfl rfl rfl ?_;refine aA (bB rfl rfl) rfl ?_;refine aG (aE ?_);refine cO rfl ?_;refine aX ?_;refine aE (aI ?_);refine aB ?_;refine aA (bT mN rfl aL rfl rfl) rfl ?_;refine aA (dA Tryz.underlying311 (fun _ h => by cases h) rfl) rfl ?_;refine aA (aF rfl) rfl ?_;refine aG (aE ?_);refine bM ?_;refine aN (.cons (.there .here) (.cons (.there .here) .nil)) ?_;refine fM fun K9 leS hS => ?_
      refine bL rfl rfl (by first | exact Hl.le_trans le2 (Hl.le_trans leK6 leS) | exact Hl.le_trans le2 leS) ?_
      first
        | (simp only [RT, hx, e6, gZ, if_neg gc, if_pos gd, hr3, hb3]
           obtain ⟨hr6, hr7⟩ := kK (o := none) rfl hrb3 hsb3 hacc (hrp.mono leK6);exact ⟨_, rfl, ⟨_, _, rfl, _, _, hr6.mono leS, hS, rfl⟩, rfl⟩)
        | (simp only [RT, hx, e6, gZ, if_neg gc, if_neg gd]; exact ⟨_, rfl, ⟨_, _, rfl, us, sv, hrp.mono leS, hS, rfl⟩, rfl⟩)
end Go.Proofs
end
section
namespace Go.Proofs
open Go Go.SL Go.Syn
theorem aCK (b : Nat) (s : List UInt8) (st : St) (dp : Int) (rest : List Value) (K : Hl) (Tf : St → Res (Tree × St)) (hs : s.length ≤ 600) (hok : Ok s st) (hg : Glob K) (hd : 0 ≤ dp ∧ dp ≤ 6) (hTa : Adv s Tf) (hT : pX s b rest K (dp + 1) Tf) :
  Sp Tryz.prog 169 [ptr b, i64 dp] K [psb b s st rest] (RT s b rest (mH s Tf true st)) := by
 refine bA Tryz.func169 rfl Tryz.ntmps169 rfl rfl fun F w => ?_
 refine aI (aB ?_);refine aA (aF rfl) rfl ?_;refine aG (aE ?_);refine aI (aB ?_);refine aA (aC rfl) rfl ?_;refine aA (aC rfl) rfl ?_;refine aW rfl rfl (xA b s st true dp rest _ Tf hs hok hg hd hTa hT) (.cons .here .nil) rfl (fun _ _ => aY _ _) ?_ ?_
 ·
  rintro _ _ _ hTr le1;obtain ⟨e, p, hr, fb, h, rfl⟩ := aZ hTr;cases h
  refine aN (.cons .here .nil) ?_;refine aJ ?_;refine a8 bQ ?_;simp only [RT, hr, if_true, if_false, ↓reduceIte];exact ⟨fb, rfl, rfl⟩
 rintro _ K1 _ hTr leK1;obtain ⟨r, hr, hrep, rfl⟩ := a6 hTr;clear hTr;refine aA (aF rfl) rfl ?_;refine aG (aE ?_);refine bM ?_;refine aN (.cons .here .nil) ?_;refine bL rfl rfl leK1 ?_;simp only [RT, hr, if_true, if_false, ↓reduceIte];exact ⟨_, rfl, hrep, rfl⟩
theorem aCL (b : Nat) (s : List UInt8) (st : St) (dp : Int) (rest : List Value) (K : Hl) (Tf : St → Res (Tree × St)) (hs : s.length ≤ 600) (hok : Ok s st) (hg : Glob K) (hd : 0 ≤ dp ∧ dp ≤ 6) (hTa : Adv s Tf) (hT : pX s b rest K (dp + 1) Tf) :
  Sp Tryz.prog 171 [ptr b, i64 dp] K [psb b s st rest] (RT s b rest (mH s Tf false st)) := by
 refine bA Tryz.func171 rfl Tryz.ntmps171 rfl rfl fun F w => ?_
 refine aI (aB ?_);refine aA (aF rfl) rfl ?_;refine aG (aE ?_);refine aI (aB ?_);refine aA (aC rfl) rfl ?_;refine aA (aC rfl) rfl ?_;refine aW rfl rfl (xA b s st false dp rest _ Tf hs hok hg hd hTa hT) (.cons .here .nil) rfl (fun _ _ => aY _ _) ?_ ?_
 ·
  rintro _ _ _ hTr le1;obtain ⟨e, p, hr, fb, h, rfl⟩ := aZ hTr;cases h
  refine aN (.cons .here .nil) ?_;refine aJ ?_;refine a8 bQ ?_;simp only [RT, hr, if_true, if_false, ↓reduceIte];exact ⟨fb, rfl, rfl⟩
 rintro _ K1 _ hTr leK1;obtain ⟨r, hr, hrep, rfl⟩ := a6 hTr;clear hTr;refine aA (aF rfl) rfl ?_;refine aG (aE ?_);refine bM ?_;refine aN (.cons .here .nil) ?_;refine bL rfl rfl leK1 ?_;simp only [RT, hr, if_true, if_false, ↓reduceIte];exact ⟨_, rfl, hrep, rfl⟩
theorem xB (k k' : List UInt8) (v : Value) (c : Nat) (es : List Ent) : mget ((k', v, c) :: es) k = if k = k' then some v else mget es k := by
 unfold mget;rw [List.find?_cons]
 by_cases h : k = k'
 ·subst h; simp
 ·simp [h]
theorem aA7 (k : List UInt8) : mget [] k = none := rfl
structure PE (s : List UInt8) (needs : List (List UInt8)) (nv : Value) (cb tb : Nat) (K : Hl) : Prop where
 pk : PK s needs nv K
 tabs : Tabs K cb tb
theorem PE.mono {s : List UInt8} {needs : List (List UInt8)} {nv : Value} {cb tb : Nat} {K K' : Hl} (h : PE s needs nv cb tb K) (le : K.le K') : PE s needs nv cb tb K' := ⟨h.pk.mono le, h.tabs.mono le⟩
theorem aHO (b : Nat) (s : List UInt8) (st : St) (dp : Int) (nv : Value) (rest : List Value) (needs : List (List UInt8)) (K : Hl) (Tf : St → Res (Tree × St)) (hp : PK s needs nv K) (hok : Ok s st) (hd : 0 ≤ dp ∧ dp ≤ 6) (hTa : Adv s Tf) (hT : pX s b (nv :: rest) K (dp + 1) Tf)
  {es : List Ent} (he : es = [(zW, fnV 165, 0), (t8, fnV 166, 1), (aFB, fnV 167, 2), (tZ, fnV 169, 3), (t6, fnV 171, 4), (rZ, fnV 172, 5), (gX, fnV 174, 6), (r6, fnV 175, 7), (rY, fnV 176, 8), (zV, fnV 178, 9)]) :
  (mget es st.2.s = none ∧ qB s needs Tf st = none) ∨ ∃ fn r, mget es st.2.s = some (fnV fn) ∧ qB s needs Tf st = some r ∧ Sp Tryz.prog fn [ptr b, i64 dp] K [psb b s st (nv :: rest)] (RT s b (nv :: rest) r) := by
 subst he;unfold qB;simp only [xB, aA7]
 by_cases h1 : st.2.s = zW
 ·simp only [if_pos h1]; exact .inr ⟨_, _, rfl, rfl, aH1 b s st dp _ K hp.hs hok hp.hg⟩
 simp only [if_neg h1]
 by_cases h2 : st.2.s = t8
 ·simp only [if_pos h2]; exact .inr ⟨_, _, rfl, rfl, aC3 b s st dp _ K hp.hs hok hp.hg⟩
 simp only [if_neg h2]
 by_cases h3 : st.2.s = aFB
 ·simp only [if_pos h3]; exact .inr ⟨_, _, rfl, rfl, aJO b s st dp _ K Tf hp.hs hok hp.hg hd hT⟩
 simp only [if_neg h3]
 by_cases h4 : st.2.s = tZ
 ·simp only [if_pos h4]; exact .inr ⟨_, _, rfl, rfl, aCK b s st dp _ K Tf hp.hs hok hp.hg hd hTa hT⟩
 simp only [if_neg h4]
 by_cases h5 : st.2.s = t6
 ·simp only [if_pos h5]; exact .inr ⟨_, _, rfl, rfl, aCL b s st dp _ K Tf hp.hs hok hp.hg hd hTa hT⟩
 simp only [if_neg h5]
 by_cases h6 : st.2.s = rZ
 ·simp only [if_pos h6]; exact .inr ⟨_, _, rfl, rfl, aA0 b s st dp nv rest needs K hok hp⟩
 simp only [if_neg h6]
 by_cases h7 : st.2.s = gX
 ·simp only [if_pos h7]; exact .inr ⟨_, _, rfl, rfl, wN b s st dp nv rest needs K hok hp⟩
 simp only [if_neg h7]
 by_cases h8 : st.2.s = r6
 ·simp only [if_pos h8]; exact .inr ⟨_, _, rfl, rfl, aB3 b s st dp nv rest needs K hok hp⟩
 simp only [if_neg h8]
 by_cases h9 : st.2.s = rY
 ·simp only [if_pos h9]; exact .inr ⟨_, _, rfl, rfl, aAV b s st dp _ K hp.hs hok hp.hg⟩
 simp only [if_neg h9]
 by_cases h10 : st.2.s = zV
 ·simp only [if_pos h10]; exact .inr ⟨_, _, rfl, rfl, aHI b s st dp _ K hp.hs hok hp.hg⟩
 simp only [if_neg h10];exact .inl (by simp)
def qC (s : List UInt8) (needs : List (List UInt8)) (dp : Int) (Tf : St → Res (Tree × St)) (st : St) : Res (Tree × St) :=
 if st.2.kind = 1 then (if 6 < dp then .error (5, st.2.at_) else match qB s needs Tf st with | some r => r | none => .error (4, st.2.at_)) else .error (4, st.2.at_)
theorem xL (b : Nat) (s : List UInt8) (st : St) (dp : Int) (nv n1 : Value) (cb tb : Nat) (needs : List (List UInt8)) (K : Hl) (Tf : St → Res (Tree × St)) (hp : PE s needs nv cb tb K) (hok : Ok s st) (hd : 0 ≤ dp ∧ dp ≤ 7) (hTa : Adv s Tf)
  (hT : dp ≤ 6 → pX s b [nv, n1, .map (some cb), .map (some tb)] K (dp + 1) Tf) :
  Sp Tryz.prog 168 [ptr b, i64 dp] K [psb b s st [nv, n1, .map (some cb), .map (some tb)]] (RT s b [nv, n1, .map (some cb), .map (some tb)] (qC s needs dp Tf st)) := by
 have ha := hok.1;obtain ⟨hpk, hcm, htm⟩ := hp;refine bA Tryz.func168 rfl Tryz.ntmps168 rfl rfl fun F w => ?_
 refine aI (aB ?_);refine aA (aF rfl) rfl ?_;refine aG (aE ?_);refine aI (aI ?_);refine aB ?_;refine aA (aC rfl) rfl ?_;refine aA bS rfl ?_;refine aA (aD (o' := 0) bX rfl rfl) rfl ?_;refine aA (aD (o' := 2) cF rfl rfl) rfl ?_;refine aA (aD (o' := 2) eE rfl rfl) rfl ?_;refine aA (aK j8 rfl aL rfl) rfl ?_;refine aA (fF rfl rfl) rfl ?_;refine aG (aE ?_);refine bH 13 rfl (fun h13 => ?_) (fun h13 => ?_)
 ·
  have g13 : ¬ st.2.kind = 1 := by omega
  refine aB ?_;refine aA (aC rfl) rfl ?_;refine aW rfl rfl (gE b s st _ _) (.cons .here .nil) rfl (by rintro _ _ ⟨_, h, _⟩; cases h) ?_ ?_
  ·
   rintro _ _ _ ⟨fb, h, rfl⟩ le1;cases h
   refine aN (.cons .here .nil) ?_;refine aJ ?_;refine a8 bQ ?_;simp only [RT, qC, if_neg g13, if_true, if_false, ↓reduceIte];exact ⟨fb, rfl, rfl⟩
  ·
   rintro _ _ _ ⟨_, h, _⟩; cases h
 ·
  have g13 : st.2.kind = 1 := by omega
  refine aX ?_;refine aE (aI ?_);refine aI (aB ?_);refine aA (aC rfl) rfl ?_;refine aA (jU rfl rfl) rfl ?_;refine aG (aE ?_);refine bH 17 rfl (fun h17 => ?_) (fun h17 => ?_)
  ·
   have g17 : 6 < dp := by omega
   refine aB ?_;refine aA (aC rfl) rfl ?_;refine aA bS rfl ?_;refine aA (aD (o' := 0) bX rfl rfl) rfl ?_;refine aA (aD (o' := 2) cF rfl rfl) rfl ?_;refine aA (aD (o' := 5) fJ rfl rfl) rfl ?_;refine aA (aK ts3 rfl aL rfl) rfl ?_;refine aW rfl rfl (dY 5 st.2.at_ _) .nil rfl (by rintro _ _ ⟨_, h, _⟩; cases h) ?_ ?_
   ·
    rintro _ _ _ ⟨fb, h, rfl⟩ le1;cases h
    refine aN (.cons .here .nil) ?_;refine aJ ?_;refine a8 bQ ?_;simp only [RT, qC, if_pos g13, if_pos g17, if_true, if_false, ↓reduceIte];exact ⟨fb, rfl, rfl⟩
   ·
    rintro _ _ _ ⟨_, h, _⟩; cases h
  ·
   have g17 : ¬ 6 < dp := by omega
   have hdisp := aHO b s st dp nv _ needs _ Tf hpk hok ⟨hd.1, by omega⟩ hTa (hT aH) rfl;refine aX ?_;refine aE (aI ?_);refine t_draw (anc := [0, 1, 3, 7, 0, 16, 48, 112, 240, 496, 1023, 2047, 4095, 4095, 8191, 32767]) (ord := [0, 1, 2, 3, 4, 5, 6, 7, 8, 9, 10, 11, 12, 13, 14, 15]) [] [] mixed (by decide +kernel) (cT _) ?_;refine dl_ev rfl rfl (.none rfl) rfl rfl (aC rfl) rfl ?_;refine dl_ev rfl rfl (.none rfl) rfl rfl bS rfl ?_;refine dl_ev rfl rfl (.none rfl) rfl rfl (aD (o' := 9) xO rfl rfl) rfl ?_;refine dl_ev rfl rfl (.none rfl) rfl rfl (aK aNF rfl aL rfl) rfl ?_;refine dl_ev rfl rfl (.none rfl) rfl rfl (aC rfl) rfl ?_;refine dl_ev rfl rfl (.none rfl) rfl rfl bS rfl ?_;refine dl_ev rfl rfl (.none rfl) rfl rfl (aD (o' := 0) bX rfl rfl) rfl ?_;refine dl_ev rfl rfl (.none rfl) rfl rfl (aD (o' := 2) cF rfl rfl) rfl ?_;refine dl_ev rfl rfl (.none rfl) rfl rfl (aD (o' := 3) fA rfl rfl) rfl ?_;refine dl_ev rfl rfl (.none rfl) rfl rfl (aK ts9 rfl aL rfl) rfl ?_;refine dl_ev rfl rfl (.none rfl) rfl rfl (uW Tryz.underlying206 Tryz.underlying9 aQI rfl rfl (.known htm)) rfl ?_;refine dl_ev rfl rfl (.none rfl) rfl rfl (aC rfl) rfl ?_;refine dl_ev rfl rfl (.none rfl) rfl rfl (aP rfl rfl) rfl ?_;refine dl_ev rfl rfl (.none rfl) rfl rfl (aP rfl rfl) rfl ?_;refine dl_ev rfl rfl (.none rfl) rfl rfl (aF rfl) rfl ?_;refine dl_ev rfl rfl (.none rfl) rfl rfl (aF rfl) rfl ?_;refine dl_nil ?_;refine aE (aI ?_);refine aI (aB ?_);refine aA (aC rfl) rfl ?_;refine aA (by first | exact dM rfl | exact dW rfl) rfl ?_;refine aG (aE ?_);refine d6 40 rfl (fun h40 => ?_) (fun h40 => ?_)
   ·
    rcases hdisp with ⟨hm, hdn⟩ | ⟨fn, r, hm, hds, hsp⟩
    case inr => exact absurd h40 (by rw [hm]; simp)
    refine aB ?_;refine aA (aC rfl) rfl ?_;refine aW rfl rfl (gE b s st _ _) (.cons .here .nil) rfl (by rintro _ _ ⟨_, h, _⟩; cases h) ?_ ?_
    ·
     rintro _ _ _ ⟨fb, h, rfl⟩ le1;cases h
     refine aN (.cons .here .nil) ?_;refine aJ ?_;refine a8 bQ ?_;simp only [RT, qC, if_pos g13, if_neg g17, hdn, if_true, if_false, ↓reduceIte];exact ⟨fb, rfl, rfl⟩
    ·
     rintro _ _ _ ⟨_, h, _⟩; cases h
   ·
    rcases hdisp with ⟨hm, hdn⟩ | ⟨fn, r, hm, hds, hsp⟩
    case inl => exact absurd h40 (by rw [hm]; simp)
    refine aX ?_;refine aE (aI ?_);refine aB ?_;refine aA (aC rfl) rfl ?_;refine aA (aC rfl) rfl ?_;refine aA (aC rfl) rfl ?_;refine aW (congrArg some (by rw [hm]; rfl)) rfl hsp (.cons .here .nil) rfl (fun _ _ => aY _ _) ?_ ?_
    ·
     rintro _ _ _ hTr le1;obtain ⟨e, p, ht, fb, h, rfl⟩ := aZ hTr;cases h
     refine aN (.cons .here .nil) ?_;refine aJ ?_;refine a8 bQ ?_;simp only [RT, qC, if_pos g13, if_neg g17, hds, ht, if_true, if_false, ↓reduceIte];exact ⟨fb, rfl, rfl⟩
    rintro _ K1 _ hTr leK1;obtain ⟨t, ht, hrep, rfl⟩ := a6 hTr;clear hTr;refine aA (aF rfl) rfl ?_;refine aG (aE ?_);refine bM ?_;refine aN (.cons .here .nil) ?_;refine bL rfl rfl leK1 ?_;simp only [RT, qC, if_pos g13, if_neg g17, hds, ht, if_true, if_false, ↓reduceIte];exact ⟨_, rfl, hrep, rfl⟩
end Go.Proofs
end
section
namespace Go.Proofs
open Go Go.SL Go.Syn
theorem aDY (s : List UInt8) (needs : List (List UInt8)) (Tf : St → Res (Tree × St)) (st : St) : qC s needs 7 Tf st = Syn.test s needs 0 st := by
 unfold qC Syn.test; simp
theorem aDX (s : List UInt8) (needs : List (List UInt8)) (n : Nat) (dp : Int) (h : dp ≤ 6) (st : St) : qC s needs dp (Syn.test s needs n) st = Syn.test s needs (n + 1) st := by
 unfold qC; rw [Syn.test, if_neg (show ¬ 6 < dp by omega)]
 split
 ·cases qB s needs (Syn.test s needs n) st <;> rfl
 ·rfl
theorem aHP (b : Nat) (s : List UInt8) (nv n1 : Value) (cb tb : Nat) (needs : List (List UInt8)) : ∀ (n : Nat), n ≤ 7 → ∀ (K : Hl), PE s needs nv cb tb K → pX s b [nv, n1, .map (some cb), .map (some tb)] K (7 - n) (Syn.test s needs n) := by
 intro n;induction n with
 | zero =>
  intro _ K hp st K' le hok;have h := xL b s st 7 nv n1 cb tb needs K' (Syn.test s needs 0) (hp.mono le) hok ⟨by decide, by decide⟩ (kW 0) (fun h => absurd h (by decide));rw [aDY] at h;exact h
 | succ n ih =>
  intro hn K hp st K' le hok;have h := xL b s st (7 - (n + 1 : Nat)) nv n1 cb tb needs K' (Syn.test s needs n) (hp.mono le) hok ⟨by omega, by omega⟩ (kW n) (fun _ => by
   have := ih aH K' (hp.mono le);rw [show ((7 : Int) - ((n + 1 : Nat) : Int) + 1) = 7 - (n : Nat) from by omega];exact this)
  rw [aDX s needs n _ aH] at h;exact h
theorem aDQ (b : Nat) (s : List UInt8) (st : St) (at_ dp : Int) (nv : Value) (rest : List Value) (needs : List (List UInt8)) (K : Hl) (hp : PK s needs nv K) (hok : Ok s st) :
  Sp Tryz.prog 163 [ptr b, i64 at_, i64 dp] K [psb b s st (nv :: rest)] (RT s b (nv :: rest) (vR s needs st)) := by
 refine (aKF b s st at_ dp nv rest needs K hp.hs hok hp.hg hp.hv hp.hn).mono fun e K' L' h => ?_
 unfold RT vR;cases hs : setC s needs st with
 | error p => rw [hs] at h; exact h
 | ok r =>
  rw [hs] at h;obtain ⟨v, rfl, _, rfl, rfl⟩ := h;exact ⟨_, rfl, ⟨_, _, rfl, rfl⟩, rfl⟩
theorem aIJ (b : Nat) (s : List UInt8) (st : St) (dp : Int) (nv : Value) (rest : List Value) (needs : List (List UInt8)) (K : Hl) (Tf Bf : St → Res (Tree × St)) (hp : PK s needs nv K) (hok : Ok s st) (hd : 0 ≤ dp ∧ dp ≤ 6) (hTa : Adv s Tf) (hBa : AdvE s Bf) (hT : pX s b (nv :: rest) K (dp + 1) Tf) (hB : uB s b (nv :: rest) K (dp + 1) Bf)
  {cb tb : Nat} (ht : Tabs K cb tb) : ∃ es c, K cb = some (mapO es c) ∧
  ((mget es st.2.s = none ∧ cmdD s needs Tf Bf st = none) ∨ ∃ fn caps r, mget es st.2.s = some (.func (.func fn) #[] caps) ∧ cmdD s needs Tf Bf st = some r ∧ Sp Tryz.prog fn ([ptr b, i64 st.2.at_, i64 dp] ++ caps.toList) K [psb b s st (nv :: rest)] (RT s b (nv :: rest) r)) := by
 obtain ⟨c1, c2, c3, d1, e1, d2, e2, d3, e3, h0, k1, k2, k3, k4, k5, k6, k7, k8, k9⟩ := ht.cmds;refine ⟨_, _, h0, ?_⟩
 unfold cmdD;simp only [xB, aA7]
 by_cases h1 : st.2.s = aDZ
 ·simp only [if_pos h1]; exact .inr ⟨_, _, _, rfl, rfl, nU b s st st.2.at_ dp _ c1 _ _ _ K hp.hs hok hp.hg k1 (fun K => aMD _ K) (fun K => aBL K _ _ _)⟩
 simp only [if_neg h1]
 by_cases h2 : st.2.s = sZ
 ·simp only [if_pos h2]; exact .inr ⟨_, _, _, rfl, rfl, nU b s st st.2.at_ dp _ c2 _ _ _ K hp.hs hok hp.hg k2 (fun K => aME _ K) (fun K => vL K _)⟩
 simp only [if_neg h2]
 by_cases h3 : st.2.s = aD1
 ·simp only [if_pos h3]; exact .inr ⟨_, _, _, rfl, rfl, nU b s st st.2.at_ dp _ c3 _ _ _ K hp.hs hok hp.hg k3 (fun K => aMF _ K) (fun K => vL K _)⟩
 simp only [if_neg h3]
 by_cases h4 : st.2.s = iO
 ·simp only [if_pos h4]; exact .inr ⟨_, _, _, rfl, rfl, nI b s st st.2.at_ dp nv rest needs d1 e1 _ _ K hp.hs hok hp.hg hp.hv hp.hn k4 k5⟩
 simp only [if_neg h4]
 by_cases h5 : st.2.s = qY
 ·simp only [if_pos h5]; exact .inr ⟨_, _, _, rfl, rfl, nI b s st st.2.at_ dp nv rest needs d2 e2 _ _ K hp.hs hok hp.hg hp.hv hp.hn k6 k7⟩
 simp only [if_neg h5]
 by_cases h6 : st.2.s = kZ
 ·simp only [if_pos h6]; exact .inr ⟨_, _, _, rfl, rfl, nI b s st st.2.at_ dp nv rest needs d3 e3 _ _ K hp.hs hok hp.hg hp.hv hp.hn k8 k9⟩
 simp only [if_neg h6]
 by_cases h7 : st.2.s = aK2
 ·simp only [if_pos h7]; exact .inr ⟨_, _, _, rfl, rfl, aDQ b s st st.2.at_ dp nv rest needs K hp hok⟩
 simp only [if_neg h7]
 by_cases h8 : st.2.s = txIf
 ·simp only [if_pos h8]; exact .inr ⟨_, _, _, rfl, rfl, wK b s st _ st.2.at_ dp K Tf Bf hp.hs hok hp.hg hd hTa hBa hT hB⟩
 simp only [if_neg h8];exact .inl (by simp)
def cmdG (s : List UInt8) (needs : List (List UInt8)) (dp : Int) (Tf Bf : St → Res (Tree × St)) (st : St) : Option (Res (Tree × St)) := if 6 < dp then some (.error (5, st.2.at_)) else cmdD s needs Tf Bf st
theorem uH (b : Nat) (s : List UInt8) (st : St) (dp : Int) (nv n1 : Value) (cb tb : Nat) (needs : List (List UInt8)) (K : Hl) (Tf Bf : St → Res (Tree × St)) (hp : PE s needs nv cb tb K) (hok : Ok s st) (hd : 0 ≤ dp ∧ dp ≤ 7) (hTa : Adv s Tf) (hBa : AdvE s Bf)
  (hT : dp ≤ 6 → pX s b [nv, n1, .map (some cb), .map (some tb)] K (dp + 1) Tf) (hB : dp ≤ 6 → uB s b [nv, n1, .map (some cb), .map (some tb)] K (dp + 1) Bf) (r0 : Res (Tree × St)) (hr0 : jB s (cmdG s needs dp Tf Bf) (mu s st + 1) .cnil st = r0) :
  Sp Tryz.prog 105 [ptr b, i64 dp] K [psb b s st [nv, n1, .map (some cb), .map (some tb)]] (RB s b [nv, n1, .map (some cb), .map (some tb)] r0) := by
 have ha := hok.1;obtain ⟨hpk, htabs⟩ := hp;refine bA Tryz.func105 rfl Tryz.ntmps105 rfl rfl fun F w => ?_
 refine aI (aB ?_);refine aA (aF rfl) rfl ?_;refine aG (aE ?_);refine aI (aB ?_);refine aA (aF rfl) rfl ?_;refine aG (aE ?_);refine aI (bC ?_);refine zL (fun (K2 : Hl) (st2 : St) (us : List (Cell × Cell)) (v : Value) => K.le K2 ∧ Ok s st2 ∧ us.length + mu s st2 ≤ 1300 ∧ ∃ acc f, isCL acc = true ∧ Rep K2 acc us ∧ mu s st2 ≤ f ∧ r0 = jB s (cmdG s needs dp Tf Bf) (f + 1) acc st2) (fun _ _ _ v => [(0, ptr b), (1, i64 dp), (5, v)]) (fun K2 _ _ _ => K2) (fun _ st2 us v => [sl false (eJ 224) v (us.map Prod.fst), psb b s st2 [nv, n1, .map (some cb), .map (some tb)]]) (fun _ st2 _ _ => mu s st2) K st [] (.slice none 0 0) ⟨Hl.le_refl _, hok, by have := p6 s st; have := hpk.hs; simp; omega, .cnil, mu s st, rfl, rfl, Nat.le_refl _, hr0.symm⟩ (.cons 0 rfl (.cons 1 rfl (.cons 5 rfl .nil))) rfl (d8 (eJ 224)) ?_;intro K2 st2 us v ⟨leL, hok2, hus, acc, f, hacc, hrp, hf, hx⟩;refine aI (aI ?_);refine aB ?_;refine aA (aC rfl) rfl ?_;refine aA bS rfl ?_;refine aA (aD (o' := 0) bX rfl rfl) rfl ?_;refine aA (aD (o' := 2) cF rfl rfl) rfl ?_;refine aA (aD (o' := 2) eE rfl rfl) rfl ?_;refine aA (aK j8 rfl aL rfl) rfl ?_;refine aA (bV rfl rfl) rfl ?_;refine aG (aE ?_);refine bH 15 rfl (fun h15 => ?_) (fun h15 => ?_)
 ·
  have g15 : st2.2.kind = 1 := by omega
  refine aX ?_;refine aE (bC ?_);refine aI (aB ?_);refine aA (aC rfl) rfl ?_;refine aA bS rfl ?_;refine aA (aD (o' := 0) bX rfl rfl) rfl ?_;refine aA (aD (o' := 2) cF rfl rfl) rfl ?_;refine aA (aD (o' := 5) fJ rfl rfl) rfl ?_;refine aA (aK ts3 rfl aL rfl) rfl ?_;refine aA (aF rfl) rfl ?_;refine aG (aE ?_);refine aI (aI ?_);refine aB ?_;refine aA (aC rfl) rfl ?_;refine aA (jU rfl rfl) rfl ?_;refine aG (aE ?_);refine bH 23 rfl (fun h23 => ?_) (fun h23 => ?_)
  ·
   have g23 : cmdG s needs dp Tf Bf st2 = some (.error (5, st2.2.at_)) := if_pos aH;refine aB ?_;refine aA (aC rfl) rfl ?_;refine aW rfl rfl (dY 5 st2.2.at_ _) .nil rfl (by rintro _ _ ⟨_, h, _⟩; cases h) ?_ ?_
   ·
    rintro _ _ _ ⟨fb, h, rfl⟩ le1;cases h
    refine aN (.cons .here .nil) ?_;refine aJ ?_;refine aQ ?_;refine aJ ?_;refine aQ ?_;refine aJ ?_;refine a8 (Hl.le_trans leL le1) ?_;simp only [RB, hx, jB, if_pos g15, g23, if_true, if_false, ↓reduceIte];exact ⟨fb, rfl, rfl⟩
   ·
    rintro _ _ _ ⟨_, h, _⟩; cases h
  ·
   have g23 : cmdG s needs dp Tf Bf st2 = cmdD s needs Tf Bf st2 := if_neg aH;obtain ⟨es, ec, hes, hdisp⟩ := aIJ b s st2 dp nv _ needs _ Tf Bf (hpk.mono leL) hok2 ⟨hd.1, by omega⟩ hTa hBa (fun st3 K3 lx ho => hT aH st3 K3 (Hl.le_trans leL lx) ho) (fun st3 K3 lx ho => hB aH st3 K3 (Hl.le_trans leL lx) ho) (htabs.mono leL);refine aX ?_;refine aE (aI ?_);refine t_draw (anc := [0, 1, 3, 7, 0, 16, 48, 112, 240, 496, 1023, 2047, 4095, 4095, 8191, 32767]) (ord := [0, 1, 2, 3, 4, 5, 6, 7, 8, 9, 10, 11, 12, 13, 14, 15]) [] [] mixed (by decide +kernel) (cT _) ?_;refine dl_ev rfl rfl (.none rfl) rfl rfl (aC rfl) rfl ?_;refine dl_ev rfl rfl (.none rfl) rfl rfl bS rfl ?_;refine dl_ev rfl rfl (.none rfl) rfl rfl (aD (o' := 8) xN rfl rfl) rfl ?_;refine dl_ev rfl rfl (.none rfl) rfl rfl (aK aNE rfl aL rfl) rfl ?_;refine dl_ev rfl rfl (.none rfl) rfl rfl (aC rfl) rfl ?_;refine dl_ev rfl rfl (.none rfl) rfl rfl bS rfl ?_;refine dl_ev rfl rfl (.none rfl) rfl rfl (aD (o' := 0) bX rfl rfl) rfl ?_;refine dl_ev rfl rfl (.none rfl) rfl rfl (aD (o' := 2) cF rfl rfl) rfl ?_;refine dl_ev rfl rfl (.none rfl) rfl rfl (aD (o' := 3) fA rfl rfl) rfl ?_;refine dl_ev rfl rfl (.none rfl) rfl rfl (aK ts9 rfl aL rfl) rfl ?_;refine dl_ev rfl rfl (.none rfl) rfl rfl (uW Tryz.underlying205 Tryz.underlying9 aQH rfl rfl (.known hes)) rfl ?_;refine dl_ev rfl rfl (.none rfl) rfl rfl (aC rfl) rfl ?_;refine dl_ev rfl rfl (.none rfl) rfl rfl (aP rfl rfl) rfl ?_;refine dl_ev rfl rfl (.none rfl) rfl rfl (aP rfl rfl) rfl ?_;refine dl_ev rfl rfl (.none rfl) rfl rfl (aF rfl) rfl ?_;refine dl_ev rfl rfl (.none rfl) rfl rfl (aF rfl) rfl ?_;refine dl_nil ?_;refine aE (aI ?_);refine aI (aB ?_);refine aA (aC rfl) rfl ?_;refine aA (by first | exact dM rfl | exact dW rfl) rfl ?_;refine aG (aE ?_);refine d6 41 rfl (fun h41 => ?_) (fun h41 => ?_)
   ·
    rcases hdisp with ⟨hm, hdn⟩ | ⟨fn, caps, r, hm, hds, hsp⟩
    case inr => exact absurd h41 (by rw [hm]; simp)
    refine aB ?_;refine aA (aC rfl) rfl ?_;refine aW rfl rfl (gE b s st2 _ _) (.cons (.there .here) .nil) rfl (by rintro _ _ ⟨_, h, _⟩; cases h) ?_ ?_
    ·
     rintro _ _ _ ⟨fb, h, rfl⟩ le1;cases h
     refine aN (.cons .here .nil) ?_;refine aJ ?_;refine aQ ?_;refine aJ ?_;refine aQ ?_;refine aJ ?_;refine a8 (Hl.le_trans leL le1) ?_;simp only [RB, hx, jB, if_pos g15, g23, hdn, if_true, if_false, ↓reduceIte];exact ⟨fb, rfl, rfl⟩
    ·
     rintro _ _ _ ⟨_, h, _⟩; cases h
   ·
    rcases hdisp with ⟨hm, hdn⟩ | ⟨fn, caps, r, hm, hds, hsp⟩
    case inl => exact absurd h41 (by rw [hm]; simp)
    refine aX ?_;refine aE (aB ?_);refine aA (aC rfl) rfl ?_;refine aA (aC rfl) rfl ?_;refine aA (aC rfl) rfl ?_;refine aA (aC rfl) rfl ?_;refine aA (aC rfl) rfl ?_;refine aW (congrArg some (by rw [hm]; rfl)) rfl hsp (.cons (.there .here) .nil) rfl (fun _ _ => aY _ _) ?_ ?_
    ·
     rintro _ _ _ hTr le1;obtain ⟨e, p, hc2, fb, h, rfl⟩ := aZ hTr;cases h
     refine aN (.cons .here .nil) ?_;refine aQ ?_;refine aJ ?_;refine aQ ?_;refine aJ ?_;refine a8 (Hl.le_trans leL le1) ?_;simp only [RB, hx, jB, if_pos g15, g23, hds, hc2, if_true, if_false, ↓reduceIte];exact ⟨fb, rfl, rfl⟩
    rintro _ K3 _ hTr leK3;obtain ⟨c2, hc2, ⟨ty2, u2, rfl, hrep2⟩, rfl⟩ := a6 hTr;clear hTr;have hm2 := uL hTa hBa hok2 aH (by rw [hds, hc2]);refine ol_s (bN (z0 := [.nilIface]) tK aQO rfl rfl rfl rfl (.cons rfl rfl rfl (.cons .nil) .nil)) rfl ?_;rintro _ K _ ⟨b50, rfl, rfl, rfl⟩ -;refine ol_s (dJ (k := (eJ 224)) (ys := [⟨.iface ty2 u2, rfl⟩]) vW rfl rfl (.there (.there .here)) (fun w j => dB Tryz.underlying135 (SeesSl.at (.blk (.own .here) rfl rfl) j)) (by simp; omega) (by first | (simp; omega) | omega)) rfl ?_;rintro v51 K _ ⟨rfl, rfl, ho51⟩ -;refine aA (aF rfl) rfl ?_;refine aG (aM ?_);obtain ⟨f0, rfl⟩ : ∃ f0, f = f0 + 1 := ⟨f - 1, by omega⟩;obtain ⟨hr3, hr4⟩ := aGY hrep2 hacc (hrp.mono leK3);refine aN (.cons .here (.cons (.there .here) .nil)) ?_;refine uO _ c2.2 (us ++ [(⟨.iface ty2 u2, rfl⟩, u0)]) _ ⟨Hl.le_trans leL leK3, hm2.1, by simp; omega, acc.snocC c2.1, f0, hr4, hr3, by omega, ?_⟩ aH (.cons 0 rfl (.cons 1 rfl (.cons 5 rfl .nil))) rfl (by rw [List.map_append]; exact fun _ h => h)
    simp only [RB, hx, jB, if_pos g15, g23, hds, hc2, if_true, if_false, ↓reduceIte]
 ·
  have g15 : ¬ st2.2.kind = 1 := by omega
  refine cR ?_;refine aT ?_;refine aT ?_;refine bG ?_;refine aE (aI ?_);refine aB ?_;refine aA (aC rfl) rfl ?_;refine aA (aF rfl) rfl ?_;refine aG (aE ?_);refine bM ?_;refine aN (.cons .here (.cons .here .nil)) ?_;refine bL rfl rfl leL ?_;simp only [RB, hx, jB, if_neg g15, if_true, if_false, ↓reduceIte];exact ⟨_, rfl, us, hrp, hacc, rfl⟩
theorem aFR (s : List UInt8) (needs : List (List UInt8)) (Tf Bf : St → Res (Tree × St)) (st : St) : jB s (cmdG s needs 7 Tf Bf) (mu s st + 1) .cnil st = Syn.block s needs 0 st := by
 unfold jB Syn.block
 by_cases h : st.2.kind = 1
 ·rw [if_pos h, if_pos h]; rfl
 ·rw [if_neg h, if_neg h]
theorem aFQ (s : List UInt8) (needs : List (List UInt8)) (dp : Int) (h : dp ≤ 6) (Tf Bf : St → Res (Tree × St)) : cmdG s needs dp Tf Bf = cmdD s needs Tf Bf := by
 funext st; unfold cmdG; rw [if_neg aH]
theorem aCO (b : Nat) (s : List UInt8) (nv n1 : Value) (cb tb : Nat) (needs : List (List UInt8)) : ∀ (n : Nat), n ≤ 7 → ∀ (K : Hl), PE s needs nv cb tb K → uB s b [nv, n1, .map (some cb), .map (some tb)] K (7 - n) (Syn.block s needs n) := by
 intro n;induction n with
 | zero =>
  intro _ K hp st K' le hok;have h := uH b s st 7 nv n1 cb tb needs K' (Syn.test s needs 0) (Syn.block s needs 0) (hp.mono le) hok ⟨by decide, by decide⟩ (kW 0) (pA 0) (fun h => absurd h (by decide)) (fun h => absurd h (by decide)) _ (aFR s needs _ _ st);exact h
 | succ n ih =>
  intro hn K hp st K' le hok;have e : ((7 : Int) - ((n + 1 : Nat) : Int) + 1) = 7 - (n : Nat) := by omega
  have h := uH b s st (7 - (n + 1 : Nat)) nv n1 cb tb needs K' (Syn.test s needs n) (Syn.block s needs n) (hp.mono le) hok ⟨by omega, by omega⟩ (kW n) (pA n)
   (fun _ => by rw [e]; exact aHP b s nv n1 cb tb needs n aH K' (hp.mono le)) (fun _ => by rw [e]; exact ih aH K' (hp.mono le)) _ (by rw [aFQ s needs _ aH])
  exact h
end Go.Proofs
end
section
namespace Go.Proofs
open Go Go.SL Go.Syn
theorem aDJ (b2 b3 : Nat) (K : Hl) (L : List Asn) : SpD Tryz.prog 99 [ptr b2, ptr b3] K L .returning fun e u' K' L' => u' = .returning ∧ (e = .returned (.tuple #[]) ∧ K' = K ∧ L' = L) := by
 refine zI (rv := .nilIface) (u' := .returning) Tryz.func99 rfl Tryz.ntmps99 rfl rfl rfl rfl p8 fun F w => ?_
 refine aI (aB ?_);refine aA (aC rfl) rfl ?_;refine aA (qI Tryz.underlying20 rfl) rfl ?_;refine aG (aE ?_);refine cO rfl ?_;refine aX ?_;refine dD rfl (Hl.le_refl _) ?_;exact ⟨rfl, rfl, rfl⟩
theorem aDI (b2 b3 fb : Nat) (v1 v2 : Value) (K : Hl) : SpD Tryz.prog 99 [ptr b2, ptr b3] K [pt b3 (aU [v2] 79), pt b2 (aU [v1] 87)] (.panicking [{ v := .iface 118 (ptr fb), recovered := false }])
  fun e u' K' L' => u' = .panicking [{ v := .iface 118 (ptr fb), recovered := true }] ∧ (e = .returned (.tuple #[]) ∧ K' = K ∧ L' = [pt b3 (aU [.iface 118 (ptr fb)] 79), pt b2 (aU [.pointer none] 87)]) := by
 refine zI (rv := .iface 118 (ptr fb)) (u' := .panicking [{ v := .iface 118 (ptr fb), recovered := true }]) Tryz.func99 rfl Tryz.ntmps99 rfl rfl rfl rfl p7 fun F w => ?_
 refine aI (aB ?_);refine aA (aC rfl) rfl ?_;refine aA (nO Tryz.underlying20 rfl rfl) rfl ?_;refine aG (aE ?_);refine eK rfl ?_;refine aI (aB ?_);refine aA (aC rfl) rfl ?_;refine aA (eP Tryz.underlying118 (fun _ h => by cases h) rfl) rfl ?_;refine aA (aC rfl) rfl ?_;refine aA (aP rfl rfl) rfl ?_;refine aA (aP rfl rfl) rfl ?_;refine aA (aF rfl) rfl ?_;refine aA (aF rfl) rfl ?_;refine aG (aE ?_);refine aI (aI ?_);refine aB ?_;refine aA (aC rfl) rfl ?_;refine aA (by first | exact dM rfl | exact dW rfl) rfl ?_;refine aG (aE ?_);refine cO rfl ?_;refine aX ?_;refine aE (aB ?_);refine aA (aC rfl) rfl ?_;refine aA (dA Tryz.underlying118 (fun _ h => by cases h) rfl) rfl ?_;refine bP (bK ts87 rfl rfl cD a7 .zero rfl) ?_;rintro _ K _ ⟨rfl, rfl⟩ -;refine bP (bK ts79 rfl rfl cD a7 .zero rfl) ?_;rintro _ K _ ⟨rfl, rfl⟩ -;refine aG ?_;refine dD rfl (Hl.le_refl _) ?_;exact ⟨rfl, rfl, rfl⟩
structure ScriptAt (K : Hl) (b : Nat) (needs : List (List UInt8)) (t : Tree) : Prop where
 at_ : ∃ l nv bv ys fz, K b = some (aU l 208 fz) ∧ l[6]? = some nv ∧ l[7]? = some bv ∧ Ksl (bE 9) K nv needs ∧ Ksl (eJ 224) K bv (ys.map Prod.fst) ∧ Rep K t ys ∧ isCL t = true
def aNX (s : List UInt8) (v : Value) (K : Hl) : Prop :=
 (600 < s.length ∧ v = .tuple #[.pointer none, .iface 30 (i64 1)]) ∨
 (s.length ≤ 600 ∧ ((∃ b r, e8 s = .ok r ∧ v = .tuple #[ptr b 6, .nilIface] ∧ ScriptAt K b r.1 r.2) ∨ (∃ fb e p, e8 s = .error (e, p) ∧ v = .tuple #[.pointer none, .iface 118 (ptr fb)] ∧ K fb = some (aU [i64 e, i64 p] 123))))
abbrev aCJ (s : List UInt8) : Ending → Hl → List Asn → Prop := Ret fun v K' L' => aNX s v K' ∧ L' = []
theorem jL {n : Nat} {w : World} {F K0 K : Hl} {fr : Fr} {b2 b3 fb : Nat} {v1 v2 : Value} {e p : Int} {s : List UInt8} (g2 : fr.get 2 = some (ptr b2)) (g3 : fr.get 3 = some (ptr b3)) (le : K0.le K) (hs : s.length ≤ 600) (h : e8 s = .error (e, p)) :
  D ⟨Tryz.prog, n, [dfr 99 #[ptr b2, ptr b3]], w, F⟩ (.panic [{ v := .iface 118 (ptr fb), recovered := false }]) fr K [pt fb (aU [i64 e, i64 p] 123), pt b3 (aU [v2] 79), pt b2 (aU [v1] 87)] (s9 Tryz.prog Tryz.f57 w F K0 (aCJ s)) := by
 refine gB fun K1 le1 hfb => ?_
 refine aIM (.pan _) rfl ts87 ts79 g2 g3 (.cons .here (.cons .here .nil)) (aDI b2 b3 fb v1 v2 K1) rfl ?_;rintro _ _ _ ⟨rfl, rfl, rfl⟩;exact ⟨⟨_, rfl⟩, fun le2 => ⟨_, _, [], fun _ hh => eW hh, ⟨_, rfl, .inr ⟨hs, .inr ⟨fb, e, p, h, rfl, hfb⟩⟩, rfl⟩, Hl.le_trans le le1⟩⟩
theorem xC {n : Nat} {w : World} {F K0 K : Hl} {fr : Fr} {b2 b3 b : Nat} {s : List UInt8} {r : List (List UInt8) × Tree} (g2 : fr.get 2 = some (ptr b2)) (g3 : fr.get 3 = some (ptr b3)) (le : K0.le K) (hs : s.length ≤ 600) (h : e8 s = .ok r) (hat : ScriptAt K b r.1 r.2) :
  D ⟨Tryz.prog, n, [dfr 99 #[ptr b2, ptr b3]], w, F⟩ .ret fr K [pt b3 (aU [.nilIface] 79), pt b2 (aU [ptr b 6] 87)] (s9 Tryz.prog Tryz.f57 w F K0 (aCJ s)) := by
 refine aIM .ret rfl ts87 ts79 g2 g3 (.cons .here (.cons .here .nil)) (aDJ b2 b3 K _) rfl ?_;rintro _ _ _ ⟨rfl, rfl, rfl⟩;exact ⟨⟨_, rfl⟩, fun le2 => ⟨_, _, [], fun _ hh => eW hh, ⟨_, rfl, .inr ⟨hs, .inl ⟨b, r, h, rfl, hat⟩⟩, rfl⟩, le⟩⟩
theorem tA (b : Nat) (s : List UInt8) (nv n1 : Value) (cb tb : Nat) (needs : List (List UInt8)) (K : Hl) (hp : PE s needs nv cb tb K) (st : St) (hok : Ok s st) : Sp Tryz.prog 105 [ptr b, i64 0] K [psb b s st [nv, n1, .map (some cb), .map (some tb)]] (RB s b [nv, n1, .map (some cb), .map (some tb)] (Syn.block s needs 7 st)) :=
 aCO b s nv n1 cb tb needs 7 (Nat.le_refl _) K hp st K (Hl.le_refl _) hok
theorem aDK (s : List UInt8) (K : Hl) (hg : Glob K) : Sp Tryz.prog 57 [str s] K [] (aCJ s) := by
  refine aB0 Tryz.func57 rfl Tryz.ntmps57 rfl rfl fun F w => ?_
  refine aI (aB ?_);refine ol_s (cL tz87) rfl ?_;rintro _ K _ ⟨b2, rfl, rfl, rfl⟩ -;refine ol_s (cL tz79) rfl ?_;rintro _ K _ ⟨b3, rfl, rfl, rfl⟩ -;refine aG (aE ?_);refine aI (aI ?_);refine aB ?_;refine aA (aC rfl) rfl ?_;refine aA (cH rfl Tryz.underlying9 rfl) rfl ?_;refine aA (jU rfl rfl) rfl ?_;refine aG (aE ?_);refine bH 9 rfl (fun h9 => ?_) (fun h9 => ?_)
  ·
    refine aI (aB ?_);refine aA (dA Tryz.underlying30 (fun _ h => by cases h) rfl) rfl ?_;refine bP (bK ts87 rfl rfl cD a7 .zero rfl) ?_;rintro _ K _ ⟨rfl, rfl⟩ -;refine bP (bK ts79 rfl rfl cD a7 .zero rfl) ?_;rintro _ K _ ⟨rfl, rfl⟩ -;refine aG (aE ?_);refine bM ?_;refine bF ?_;refine aLN rfl ts87 ts79 rfl rfl (.cons (.there .here) (.cons .here .nil)) (Hl.le_refl _) ?_;exact ⟨_, rfl, .inl ⟨by omega, rfl⟩, rfl⟩
  ·
    have hs : s.length ≤ 600 := by omega
    refine aX ?_;refine aE (aI ?_);refine aB ?_;refine aA (gT rfl rfl) rfl ?_;refine aBB rfl ?_;refine aG (aE ?_);refine aI (aB ?_);refine aA (aC rfl) rfl ?_;refine aA (cJ aP1 aOV (.cons rfl rfl rfl (.cons .nil) .nil)) rfl ?_;refine aA (cJ aP2 aOW (.cons rfl rfl rfl (.cons (.cons (.cons (.cons (.cons (.cons .nil)))))) .nil)) rfl ?_;refine ol_s (d9 rfl rfl) rfl ?_;rintro _ K _ ⟨b15, rfl, rfl, rfl⟩ -;refine aA (aF rfl) rfl ?_;refine aG (aE ?_);refine aI (aB ?_);refine aA (aC rfl) rfl ?_;refine bD rfl rfl (aB4 b15 s (0, ⟨0, [], 0, 0⟩) _ _ _) (.cons .here .nil) rfl ?_;rintro _ K1 _ ⟨rfl, cb, tb, htab, rfl⟩ leT;refine aG (aE ?_);refine aI (aB ?_);refine aA (aC rfl) rfl ?_;refine aA bS rfl ?_;refine aA (aD (o' := 0) bX rfl rfl) rfl ?_;refine aW rfl rfl (dE b15 208 s 0 _ _ _ _ _ hs (Nat.zero_le _) _ (hg.mono leT)) (.cons .here .nil) rfl (fun _ _ => aY _ _) ?_ ?_
    ·
      rintro _ _ _ hTr le1;obtain ⟨e, p, hr, fb, h, rfl⟩ := aZ hTr;cases h
      refine aN (.cons .here (.cons .here (.cons .here .nil))) ?_;refine aJ ?_;exact jL rfl rfl (Hl.le_trans leT le1) hs (by simp only [e8, hr, if_true, if_false, ↓reduceIte])
    rintro _ K _ hTr -;obtain ⟨r, hr, rfl, rfl, rfl⟩ := a6 hTr;clear hTr;have hro := dT (Nat.zero_le _) hr;refine aG (aE ?_);refine aI (bC ?_);refine tX (fun (st2 : St) (ns : List (List UInt8)) (sv : Value) => Ok s st2 ∧ ns.length + mu s st2 ≤ 1300 ∧ ∃ f, mu s st2 ≤ f ∧ e8 s = f3 s (reqF s (f + 1) ns st2)) (fun _ _ _ => [(2, ptr b2), (3, ptr b3), (4, ptr b15)]) (fun _ _ _ => K) (fun st2 ns sv => [sl false (bE 9) sv ns, psb b15 s st2 [sv, .slice none 0 0, .map (some cb), .map (some tb)], pt b3 (aU [.nilIface] 79), pt b2 (aU [.pointer none] 87)]) (fun st2 _ _ => mu s st2) r [] (.slice none 0 0) ⟨hro, by have := p6 s r; simp; omega, mu s r, Nat.le_refl _, by simp only [e8, hr]⟩ (.cons 2 rfl (.cons 3 rfl (.cons 4 rfl .nil))) rfl (d8 (bE 9)) ?_;intro st2 ns sv ⟨hok2, hns, f, hf, hx⟩;refine aI (aI ?_);refine aB ?_;refine aA (aC rfl) rfl ?_;refine aA bS rfl ?_;refine aA (aD (o' := 0) bX rfl rfl) rfl ?_;refine aA (aD (o' := 2) cF rfl rfl) rfl ?_;refine aA (aD (o' := 2) eE rfl rfl) rfl ?_;refine aA (aK j8 rfl aL rfl) rfl ?_;refine aA (bV rfl rfl) rfl ?_;refine aA (aC rfl) rfl ?_;refine cB 29 rfl (fun g29 => ?_) (fun g29 => ?_)
    ·
      have g29 : st2.2.kind = 1 := by omega
      refine aV rfl rfl ?_;refine aA (aC rfl) rfl ?_;refine aV rfl rfl ?_;refine aA bS rfl ?_;refine aV rfl rfl ?_;refine aA (aD (o' := 0) bX rfl rfl) rfl ?_;refine aV rfl rfl ?_;refine aA (aD (o' := 2) cF rfl rfl) rfl ?_;refine aV rfl rfl ?_;refine aA (aD (o' := 3) fA rfl rfl) rfl ?_;refine aV rfl rfl ?_;refine aA (aK ts9 rfl aL rfl) rfl ?_;refine aV rfl rfl ?_;refine aA (iV rfl rfl) rfl ?_;refine aA (bJ rfl rfl) rfl ?_;refine aG (aE ?_);refine bH 37 rfl (fun h37 => ?_) (fun h37 => ?_)
      ·
        have gc : st2.2.kind = 1 ∧ st2.2.s = nC := ⟨by omega, h37⟩;refine aX ?_;refine aE (bC ?_);refine aI (aB ?_);refine aA (aC rfl) rfl ?_;refine aA bS rfl ?_;refine aA (aD (o' := 0) bX rfl rfl) rfl ?_;refine aW rfl rfl (dE b15 208 s st2.1 _ _ _ _ _ hs hok2.1 _ (hg.mono leT)) (.cons (.there .here) .nil) rfl (fun _ _ => aY _ _) ?_ ?_
        ·
          rintro _ _ _ hTr le1;obtain ⟨e, p, hr2, fb, h, rfl⟩ := aZ hTr;cases h
          refine aN (.cons .here (.cons (.there .here) (.cons (.there .here) .nil))) ?_;refine aJ ?_;refine aQ ?_;refine aJ ?_;refine aQ ?_;refine aJ ?_;exact jL rfl rfl (Hl.le_trans leT le1) hs (by simp only [hx, reqF, f3, if_pos gc, hr2, if_true, if_false, ↓reduceIte])
        rintro _ K _ hTr -;obtain ⟨r2, hr2, rfl, rfl, rfl⟩ := a6 hTr;clear hTr;have hm2 := eS hok2.1 aH hr2;have hro2 := dT hok2.1 hr2;refine aG (aE ?_);refine aI (aI ?_);refine aB ?_;refine aA (aC rfl) rfl ?_;refine ol_s (bN (z0 := [(str []), (str []), (str []), (str [])]) cQ tz9 rfl rfl rfl rfl (.cons rfl rfl rfl (.cons .nil) (.cons rfl rfl rfl (.skip (.cons .nil)) (.cons rfl rfl rfl (.skip (.skip (.cons .nil))) (.cons rfl rfl rfl (.skip (.skip (.skip (.cons .nil)))) .nil))))) rfl ?_;rintro _ K _ ⟨b43, rfl, rfl, rfl⟩ -;refine e7 fun Ka leA hKa => ?_
        refine bD rfl rfl (kI 6 _ _ rfl) .nil rfl ?_;rintro _ Kb _ ⟨c1, c2, rfl, hc1, hc2, rfl⟩ leB;refine aW rfl rfl (nQ b15 s r2 _ 192 #[ptr c1, ptr c2] (Syn.oneOf 6 wC) _ hs hro2 (hg.mono (Hl.le_trans leT (Hl.le_trans leA leB))) (fun x hx => jK x 6 wC _ c1 c2 _ hc1 hc2 (.inr ⟨b43, 0, 4, [str gX, str iO, str kZ, str dP], (0, 0), rfl, ⟨_, leB _ _ hKa⟩, rfl⟩) (by simp [wC]))) (.cons .here .nil) rfl (fun _ _ => aY _ _) ?_ ?_
        ·
          rintro _ _ _ hTr le1;obtain ⟨e, p, hl, fb, h, rfl⟩ := aZ hTr;cases h
          refine aN (.cons .here (.cons (.there .here) (.cons (.there .here) .nil))) ?_;refine aJ ?_;refine aJ ?_;refine aQ ?_;refine aJ ?_;refine aQ ?_;refine aJ ?_;exact jL rfl rfl (Hl.le_trans leT (Hl.le_trans leA (Hl.le_trans leB le1))) hs (by simp only [hx, reqF, f3, if_pos gc, hr2, hl, if_true, if_false, ↓reduceIte])
        rintro v45 K _ hTr -;obtain ⟨l, hl, rfl, rfl⟩ := a6 hTr;clear hTr;have hlo := kR hro2 hl;have hll := oO hro2 hl;refine aA (bZ (k := (bE 9)) rfl Tryz.underlying39 rfl aL) rfl ?_;refine aA (aC rfl) rfl ?_;refine aG (aE ?_);refine bC ?_;refine tX (fun (i : Nat) (ms : List (List UInt8)) (sw : Value) => i ≤ l.1.length ∧ ms = gN ns (l.1.take i) ∧ ms.length ≤ ns.length + i) (fun i _ _ => [(2, ptr b2), (3, ptr b3), (4, ptr b15), (45, v45), (46, i64 l.1.length), (47, i64 i)]) (fun _ _ _ => _) (fun i ms sw => [sl false (bE 9) v45 l.1, psb b15 s l.2 [sw, .slice none 0 0, .map (some cb), .map (some tb)], sl false (bE 9) sw ms, pt b3 (aU [.nilIface] 79), pt b2 (aU [.pointer none] 87)]) (fun i _ _ => l.1.length - i) 0 ns sv ⟨Nat.zero_le _, rfl, Nat.le_refl _⟩ (.cons 2 rfl (.cons 3 rfl (.cons 4 rfl (.cons 45 rfl (.cons 46 rfl (.cons 47 rfl .nil)))))) rfl (fun _ h => h) ?_;intro i ms sw ⟨hi0, hms, hml⟩;refine aI (aB ?_);refine aA (cU rfl rfl) rfl ?_;refine aG (aE ?_);refine aI ?_;refine bH 48 rfl (fun h48 => ?_) (fun h48 => ?_)
        ·
          have hilt : i < l.1.length := by omega
          obtain ⟨e, he⟩ : ∃ e, l.1[i]? = some e := ⟨l.1[i]'hilt, List.getElem?_eq_getElem hilt⟩;refine aX ?_;refine aE (aI ?_);refine bC (aI ?_);refine aB ?_;refine aA (bU (k := (bE 9)) cQ rfl aL rfl rfl (by first | assumption | omega)) rfl ?_;refine aA (dQ (o := 0) (k := (bE 9)) ts9 rfl aL bQ rfl) rfl ?_;refine aA (aF rfl) rfl ?_;refine aG (aE ?_);refine aI (aB ?_);refine aA (aC rfl) rfl ?_;refine aA bS rfl ?_;refine aA (aD (o' := 6) jP rfl rfl) rfl ?_;refine aA (aC rfl) rfl ?_;refine bD rfl rfl (aAZ b15 e ms _ 208 sw _ [psb b15 s l.2 [sw, .slice none 0 0, .map (some cb), .map (some tb)], sl false (bE 9) sw ms] (.own .here) rfl (.own (.there .here)) (by have := p6 s r2; omega)) (.cons (.there .here) (.cons (.there .here) .nil)) rfl ?_;rintro _ K _ ⟨rfl, rfl, rfl⟩ -;refine aA (by first | exact dM rfl | exact dW rfl) rfl ?_;refine aG (aE ?_);refine d6 56 rfl (fun h56 => ?_) (fun h56 => ?_)
          ·
            refine aB ?_;refine aA (aC rfl) rfl ?_;refine aA (aC rfl) rfl ?_;refine aA bS rfl ?_;refine aA (aD (o' := 6) jP rfl rfl) rfl ?_;refine aA (aD (o' := 6) pN rfl rfl) rfl ?_;refine aA (aK ts39 rfl aL rfl) rfl ?_;refine aA (aC rfl) rfl ?_;refine ol_s (bN (z0 := [(str [])]) cQ tz9 rfl rfl rfl rfl (.cons rfl rfl rfl (.cons .nil) .nil)) rfl ?_;rintro _ K _ ⟨b64, rfl, rfl, rfl⟩ -;refine ol_s (dJ (k := (bE 9)) (ys := [e]) eM rfl rfl (.there (.there .here)) (fun w j => dB Tryz.underlying39 (SeesSl.at (.blk (.own .here) rfl rfl) j)) (by simp; omega) (by first | (simp; omega) | omega)) rfl ?_;rintro v65 K _ ⟨rfl, rfl, ho65⟩ -;refine aA bS rfl ?_;refine aA (aD (o' := 6) jP rfl rfl) rfl ?_;refine aA (aD (o' := 6) pN rfl rfl) rfl ?_;refine bP (bK ts39 rfl rfl cD a7 (.succ (.succ (.succ (.succ (.succ (.succ .zero)))))) rfl) ?_;rintro _ K _ ⟨rfl, rfl⟩ -;refine aG (aM ?_);refine aE (aB ?_);refine aA (b0 rfl rfl aH aH) rfl ?_;refine aA (aC rfl) rfl ?_;refine aG ?_
            first
              | (refine aN (.cons (.there (.there (.there .here))) (.cons (.there (.there .here)) (.cons .here (.cons (.there .here) (.cons (.there .here) .nil))))) ?_
                 refine iJ (i + 1) (ms ++ [e]) _ ⟨by omega, by rw [kP he, ← hms]; unfold addN; rw [if_neg (by simpa using h56)], by simp; omega⟩ aH (.cons 2 rfl (.cons 3 rfl (.cons 4 rfl (.cons 45 rfl (.cons 46 rfl (.cons 47 rfl .nil)))))) rfl bI)
              | (refine aN (.cons (.there (.there .here)) (.cons .here (.cons .here (.cons .here (.cons .here .nil))))) ?_
                 refine iJ (i + 1) ms _ ⟨by omega, by rw [kP he, ← hms]; unfold addN; rw [if_pos (by simpa using h56)], by omega⟩ aH (.cons 2 rfl (.cons 3 rfl (.cons 4 rfl (.cons 45 rfl (.cons 46 rfl (.cons 47 rfl .nil)))))) rfl bI)
          ·
            refine aX ?_;refine aM (aE ?_);refine aB ?_;refine aA (b0 rfl rfl aH aH) rfl ?_;refine aA (aC rfl) rfl ?_;refine aG ?_
            first
              | (refine aN (.cons (.there (.there (.there .here))) (.cons (.there (.there .here)) (.cons .here (.cons (.there .here) (.cons (.there .here) .nil))))) ?_
                 refine iJ (i + 1) (ms ++ [e]) _ ⟨by omega, by rw [kP he, ← hms]; unfold addN; rw [if_neg (by simpa using h56)], by simp; omega⟩ aH (.cons 2 rfl (.cons 3 rfl (.cons 4 rfl (.cons 45 rfl (.cons 46 rfl (.cons 47 rfl .nil)))))) rfl bI)
              | (refine aN (.cons (.there (.there .here)) (.cons .here (.cons .here (.cons .here (.cons .here .nil))))) ?_
                 refine iJ (i + 1) ms _ ⟨by omega, by rw [kP he, ← hms]; unfold addN; rw [if_pos (by simpa using h56)], by omega⟩ aH (.cons 2 rfl (.cons 3 rfl (.cons 4 rfl (.cons 45 rfl (.cons 46 rfl (.cons 47 rfl .nil)))))) rfl bI)
        ·
          have hms2 : ms = gN ns l.1 := (by rw [hms, yD aH]);subst hms2;refine cR ?_;refine aT ?_;refine aT ?_;refine bG ?_;refine aE (aB ?_);refine aA (aC rfl) rfl ?_;refine aW rfl rfl (iK b15 s l.2 _ [59] _ hs hlo.1.1 (hg.mono (Hl.le_trans leT (Hl.le_trans leA leB)))) (.cons (.there .here) .nil) rfl (fun _ _ => aY _ _) ?_ ?_
          ·
            rintro _ _ _ hTr le1;obtain ⟨e, p, hq4, fb, h, rfl⟩ := aZ hTr;cases h
            refine aN (.cons .here (.cons (.there (.there .here)) (.cons (.there (.there .here)) .nil))) ?_;refine aQ ?_;refine aJ ?_;refine aQ ?_;refine aJ ?_;exact jL rfl rfl (Hl.le_trans leT (Hl.le_trans leA (Hl.le_trans leB le1))) hs (by simp only [hx, reqF, f3, if_pos gc, hr2, hl, hq4, if_true, if_false, ↓reduceIte])
          rintro _ K _ hTr -;obtain ⟨q4, hq4, rfl, rfl, rfl⟩ := a6 hTr;clear hTr;refine aG (aM ?_);obtain ⟨f0, rfl⟩ : ∃ f0, f = f0 + 1 := ⟨f - 1, by omega⟩;have hm4 := fH hlo.1 hq4;refine aN (.cons (.there (.there .here)) (.cons .here (.cons (.there .here) (.cons (.there .here) .nil)))) ?_;refine jQ (Hl.le_trans leA leB) ?_;refine iJ q4 (gN ns l.1) _ ⟨hm4.1, by omega, f0, by omega, ?_⟩ aH (.cons 2 rfl (.cons 3 rfl (.cons 4 rfl .nil))) rfl bI
          simp only [hx, reqF, f3, if_pos gc, hr2, hl, hq4, if_true, if_false, ↓reduceIte]
      ·
        have gc : ¬ (st2.2.kind = 1 ∧ st2.2.s = nC) := (fun h => h37 h.2);refine cR ?_;refine aT ?_;refine aT ?_;refine bG ?_;refine aE (aI ?_);refine aB ?_;refine fU fun K5 leN hN => ?_
        have leN2 := Hl.le_trans leT leN;refine aA (aC rfl) rfl ?_;refine aA (aC rfl) rfl ?_;refine aW rfl rfl (tA b15 s sv _ cb tb ns _ ⟨⟨hs, hg.mono leN2, hN, by omega⟩, htab.mono leN⟩ st2 hok2) (.cons .here .nil) rfl (fun _ _ => aY _ _) ?_ ?_
        ·
          rintro _ _ _ hTr le1;obtain ⟨e, p, hbb, fb, h, rfl⟩ := aZ hTr;cases h
          refine aN (.cons .here (.cons .here (.cons .here .nil))) ?_;refine aJ ?_;exact jL rfl rfl (Hl.le_trans leN2 le1) hs (by simp only [hx, reqF, f3, if_neg gc, hbb, if_true, if_false, ↓reduceIte])
        rintro _ K6 _ hTr leK6;obtain ⟨bb, hbb, ⟨ys, hrep, hcl, rfl⟩⟩ := a6 hTr;clear hTr;refine fU fun K7 leS hS => ?_
        obtain ⟨sa, sn, sc, rfl⟩ := hS.isSlice;have leS2 := Hl.le_trans leN2 (Hl.le_trans leK6 leS);refine aA bS rfl ?_;refine aA (aD (o' := 6) jP rfl rfl) rfl ?_;refine aA (aD (o' := 7) sU rfl rfl) rfl ?_;refine bP (bK aCD rfl rfl cD a7 (.succ (.succ (.succ (.succ (.succ (.succ (.succ .zero))))))) rfl) ?_;rintro _ K _ ⟨rfl, rfl⟩ -;refine aG (aE ?_);refine aI (aI ?_);refine aB ?_;refine aA (aC rfl) rfl ?_;refine aA bS rfl ?_;refine aA (aD (o' := 0) bX rfl rfl) rfl ?_;refine aA (aD (o' := 2) cF rfl rfl) rfl ?_;refine aA (aD (o' := 2) eE rfl rfl) rfl ?_;refine aA (aK j8 rfl aL rfl) rfl ?_;refine aA (fF rfl rfl) rfl ?_;refine aG (aE ?_);refine bH 84 rfl (fun h84 => ?_) (fun h84 => ?_)
        ·
          have g84 : ¬ bb.2.2.kind = 0 := by omega
          refine aB ?_;refine aA (aC rfl) rfl ?_;refine aW rfl rfl (gE b15 s bb.2 _ _) (.cons .here .nil) rfl (by rintro _ _ ⟨_, h, _⟩; cases h) ?_ ?_
          ·
            rintro _ _ _ ⟨fb, h, rfl⟩ le1;cases h
            refine aN (.cons .here (.cons .here (.cons .here .nil))) ?_;refine aJ ?_;exact jL rfl rfl (Hl.le_trans leS2 le1) hs (by simp only [hx, reqF, f3, if_neg gc, hbb, if_neg g84, if_true, if_false, ↓reduceIte])
          ·
            rintro _ _ _ ⟨_, h, _⟩; cases h
        ·
          have g84 : bb.2.2.kind = 0 := by omega
          refine aX ?_;refine aE (aI ?_);refine aB ?_;refine aA (aC rfl) rfl ?_;refine aA bS rfl ?_;refine aA (aD (o' := 6) jP rfl rfl) rfl ?_;refine bP (bK ts87 rfl rfl cD a7 .zero rfl) ?_;rintro _ K _ ⟨rfl, rfl⟩ -;refine bP (bK ts79 rfl rfl cD a7 .zero rfl) ?_;rintro _ K _ ⟨rfl, rfl⟩ -;refine aG (aE ?_);refine bM ?_;refine gB fun K8 leP hP => ?_
          refine xC (r := (ns, bb.1)) rfl rfl (Hl.le_trans leS2 leP) hs ?_ ⟨_, _, _, ys, _, hP, rfl, rfl, hN.mono (Hl.le_trans leK6 (Hl.le_trans leS leP)), hS.mono leP, hrep.mono (Hl.le_trans leS leP), hcl⟩
          simp only [hx, reqF, f3, if_neg gc, hbb, if_pos g84, if_true, if_false, ↓reduceIte]
    ·
      have gc : ¬ (st2.2.kind = 1 ∧ st2.2.s = nC) := (fun h => by omega);refine aR rfl rfl rfl ?_;refine aR rfl rfl rfl ?_;refine aR rfl rfl rfl ?_;refine aR rfl rfl rfl ?_;refine aR rfl rfl rfl ?_;refine aR rfl rfl rfl ?_;refine aR rfl rfl rfl ?_;refine aA (bB rfl rfl) rfl ?_;refine aG (aE ?_);refine cO rfl ?_;refine cR ?_;refine aT ?_;refine aT ?_;refine bG ?_;refine aE (aI ?_);refine aB ?_;refine fU fun K5 leN hN => ?_
      have leN2 := Hl.le_trans leT leN;refine aA (aC rfl) rfl ?_;refine aA (aC rfl) rfl ?_;refine aW rfl rfl (tA b15 s sv _ cb tb ns _ ⟨⟨hs, hg.mono leN2, hN, by omega⟩, htab.mono leN⟩ st2 hok2) (.cons .here .nil) rfl (fun _ _ => aY _ _) ?_ ?_
      ·
        rintro _ _ _ hTr le1;obtain ⟨e, p, hbb, fb, h, rfl⟩ := aZ hTr;cases h
        refine aN (.cons .here (.cons .here (.cons .here .nil))) ?_;refine aJ ?_;exact jL rfl rfl (Hl.le_trans leN2 le1) hs (by simp only [hx, reqF, f3, if_neg gc, hbb, if_true, if_false, ↓reduceIte])
      rintro _ K6 _ hTr leK6;obtain ⟨bb, hbb, ⟨ys, hrep, hcl, rfl⟩⟩ := a6 hTr;clear hTr;refine fU fun K7 leS hS => ?_
      obtain ⟨sa, sn, sc, rfl⟩ := hS.isSlice;have leS2 := Hl.le_trans leN2 (Hl.le_trans leK6 leS);refine aA bS rfl ?_;refine aA (aD (o' := 6) jP rfl rfl) rfl ?_;refine aA (aD (o' := 7) sU rfl rfl) rfl ?_;refine bP (bK aCD rfl rfl cD a7 (.succ (.succ (.succ (.succ (.succ (.succ (.succ .zero))))))) rfl) ?_;rintro _ K _ ⟨rfl, rfl⟩ -;refine aG (aE ?_);refine aI (aI ?_);refine aB ?_;refine aA (aC rfl) rfl ?_;refine aA bS rfl ?_;refine aA (aD (o' := 0) bX rfl rfl) rfl ?_;refine aA (aD (o' := 2) cF rfl rfl) rfl ?_;refine aA (aD (o' := 2) eE rfl rfl) rfl ?_;refine aA (aK j8 rfl aL rfl) rfl ?_;refine aA (fF rfl rfl) rfl ?_;refine aG (aE ?_);refine bH 84 rfl (fun h84 => ?_) (fun h84 => ?_)
      ·
        have g84 : ¬ bb.2.2.kind = 0 := by omega
        refine aB ?_;refine aA (aC rfl) rfl ?_;refine aW rfl rfl (gE b15 s bb.2 _ _) (.cons .here .nil) rfl (by rintro _ _ ⟨_, h, _⟩; cases h) ?_ ?_
        ·
          rintro _ _ _ ⟨fb, h, rfl⟩ le1;cases h
          refine aN (.cons .here (.cons .here (.cons .here .nil))) ?_;refine aJ ?_;exact jL rfl rfl (Hl.le_trans leS2 le1) hs (by simp only [hx, reqF, f3, if_neg gc, hbb, if_neg g84, if_true, if_false, ↓reduceIte])
        ·
          rintro _ _ _ ⟨_, h, _⟩; cases h
      ·
        have g84 : bb.2.2.kind = 0 := by omega
        refine aX ?_;refine aE (aI ?_);refine aB ?_;refine aA (aC rfl) rfl ?_;refine aA bS rfl ?_;refine aA (aD (o' := 6) jP rfl rfl) rfl ?_;refine bP (bK ts87 rfl rfl cD a7 .zero rfl) ?_;rintro _ K _ ⟨rfl, rfl⟩ -;refine bP (bK ts79 rfl rfl cD a7 .zero rfl) ?_;rintro _ K _ ⟨rfl, rfl⟩ -;refine aG (aE ?_);refine bM ?_;refine gB fun K8 leP hP => ?_
        refine xC (r := (ns, bb.1)) rfl rfl (Hl.le_trans leS2 leP) hs ?_ ⟨_, _, _, ys, _, hP, rfl, rfl, hN.mono (Hl.le_trans leK6 (Hl.le_trans leS leP)), hS.mono leP, hrep.mono (Hl.le_trans leS leP), hcl⟩
        simp only [hx, reqF, f3, if_neg gc, hbb, if_pos g84, if_true, if_false, ↓reduceIte]
end Go.Proofs
end
section
namespace Go.Proofs
open Go Go.SL Go.Syn Go.Cmp
theorem iQ (b yb : Nat) (vs ys : List InsV) (cells : List Value) (K : Hl) (hc : cells = cW.cs ys) (hl : vs.length + ys.length ≤ 1000000) :
  Sp Tryz.prog 193 [ptr b, .slice (some ⟨yb, 0, none⟩) ys.length ys.length] K [cdr b vs, pt yb (aU cells 41)]
   (Ret fun v K' L' => v = i64 (((vs ++ ys).length : Int) - 1) ∧ K' = K ∧ L' = [cdr b (vs ++ ys)]) := by
 have hys : (cells.drop 0).take (ys.length * 7) = cW.cs ys := by
  subst hc; rw [List.drop_zero, List.take_of_length_le (by rw [cW.cs_length]; exact Nat.le_refl _)]
 have hla : (vs ++ ys).length = vs.length + ys.length := List.length_append;refine bA Tryz.func193 rfl Tryz.ntmps193 rfl rfl fun F w => ?_
 refine t_ex fun cv => ?_
 refine aI (aB ?_);refine aA (aF rfl) rfl ?_;refine aG (aE ?_);refine aI (aB ?_);refine aA (aC rfl) rfl ?_;refine aA (aC rfl) rfl ?_;refine aA bS rfl ?_;refine aA (aD (o' := 0) lN rfl rfl) rfl ?_;refine aA (aK ts42 rfl aL rfl) rfl ?_;refine aA (aC rfl) rfl ?_;refine ol_s (dJ (k := cW) (ys := ys) nW rfl rfl a7 (fun w j => dB Tryz.underlying42 (SeesSl.at (k := cW) (.blk (.own (.there (.there .here))) rfl hys) j)) (by first | (simp; omega) | omega) (by first | (simp; omega) | omega)) rfl ?_;rintro v11 K _ ⟨rfl, rfl, ho11⟩ -;refine aA bS rfl ?_;refine aA (aD (o' := 0) lN rfl rfl) rfl ?_;refine bP (bK ts42 rfl rfl cD a7 .zero rfl) ?_;rintro _ K _ ⟨rfl, rfl⟩ -;refine aG (aE ?_);refine aI (aB ?_);refine aA (aC rfl) rfl ?_;refine aA bS rfl ?_;refine aA (aD (o' := 0) lN rfl rfl) rfl ?_;refine aA (aK ts42 rfl aL rfl) rfl ?_;refine aA (bZ (k := cW) rfl Tryz.underlying42 rfl aL) rfl ?_;refine aA (nP rfl rfl aH aH) rfl ?_;refine aA (aF rfl) rfl ?_;refine aG (aE ?_);refine bM ?_;refine aN (.cons (.there .here) (.cons .here .nil)) ?_;refine dU zE ?_;refine bL rfl rfl (Hl.le_refl _) ?_;exact ⟨_, rfl, rfl, rfl, rfl⟩
theorem mY (b : Nat) (pv : Value) (vs : List InsV) (ps : List Nat) (K : Hl) (hl : vs.length ≤ 1000000) (hpl : ps.length ≤ 1000000) (hp : ∀ p ∈ ps, p < vs.length) :
  Sp Tryz.prog 271 [ptr b, pv] K [cdr b vs, sl false (iG 3) pv ps] (Ret fun v K' L' => v = .tuple #[] ∧ K' = K ∧ L' = [cdr b (rL vs ps)]) := by
 refine bA Tryz.func271 rfl Tryz.ntmps271 rfl rfl fun F w => ?_
 refine t_ex fun cv => ?_
 refine aI (aB ?_);refine aA (aC rfl) rfl ?_;refine aA (bZ (k := (iG 3)) rfl Tryz.underlying55 rfl aL) rfl ?_;refine aA (aC rfl) rfl ?_;refine aG (aE ?_);refine bC ?_;refine dS (fun (i : Nat) => i ≤ ps.length) (fun i => [(0, ptr b), (6, pv), (7, i64 ps.length), (8, i64 i)]) (fun _ => _) (fun i => [sl false cW cv ((ps.take i).foldl (fun o k => lC o k ((vs.length : Int) - 1 - k)) vs), pt b (aU [cv] 217), sl false (iG 3) pv ps]) (fun i => ps.length - i) 0 (Nat.zero_le _) (.cons 0 rfl (.cons 6 rfl (.cons 7 rfl (.cons 8 rfl .nil)))) rfl (fun _ h => eW h) ?_;intro i hi0;refine aI (aB ?_);refine aA (cU rfl rfl) rfl ?_;refine aG (aE ?_);refine aI ?_;refine bH 9 rfl (fun h9 => ?_) (fun h9 => ?_)
 ·
  have hilt : i < ps.length := by omega
  obtain ⟨p, hpi⟩ : ∃ p, ps[i]? = some p := ⟨ps[i]'hilt, List.getElem?_eq_getElem hilt⟩;have hpv : p < vs.length := hp p (List.mem_of_getElem? hpi);obtain ⟨xs, hxs⟩ : ∃ xs, xs = (ps.take i).foldl (fun o k => lC o k ((vs.length : Int) - 1 - k)) vs := ⟨_, rfl⟩;rw [← hxs];have hxl : xs.length = vs.length := (by rw [hxs, rH]);obtain ⟨x, hx⟩ : ∃ x, xs[p]? = some x := ⟨xs[p]'(by omega), List.getElem?_eq_getElem aH⟩;refine aX ?_;refine aE (aI ?_);refine bC (aI ?_);refine aB ?_;refine aA (bU (k := (iG 3)) nB rfl aL rfl rfl (by first | assumption | omega)) rfl ?_;refine aA (dQ (o := 0) (k := (iG 3)) ts3 rfl aL bQ rfl) rfl ?_;refine aA (aF rfl) rfl ?_;refine aG (aE ?_);refine aOQ (by intro h; rw [h] at hx; simp at hx) fun bb cap junk fz hcv h2 h3 h4 => ?_
  subst hcv;have hcs : ((cW.cs xs ++ junk).drop 0).take (xs.length * cW.sz) = cW.cs xs := (by rw [List.drop_zero, ← cW.cs_length, List.take_left]);have hlen : (cW.cs xs ++ junk).length = cap * 7 := (by rw [List.length_append, cW.cs_length, h3]; show xs.length * 7 + (cap - xs.length) * 7 = _; omega);refine t_draw (anc := [0, 1, 3, 7, 0, 0, 32, 96, 224, 480, 992, 0, 4064, 8191, 16383, 32767]) (ord := [0, 1, 2, 3, 4, 5, 6, 7, 8, 9, 10, 11, 12, 13, 14, 15]) [15] [15] mixed (by decide +kernel) (cT _) ?_;refine dl_ev rfl rfl (.none rfl) rfl rfl (aC rfl) rfl ?_;refine dl_ev rfl rfl (.none rfl) rfl rfl bS rfl ?_;refine dl_ev rfl rfl (.none rfl) rfl rfl (aD (o' := 0) lN rfl rfl) rfl ?_;refine dl_ev rfl rfl (.none rfl) rfl rfl (aK ts42 rfl aL rfl) rfl ?_;refine dl_ev rfl rfl (.none rfl) rfl rfl (aC rfl) rfl ?_;refine dl_ev rfl rfl (.none rfl) rfl rfl (aC rfl) rfl ?_;refine dl_ev rfl rfl (.none rfl) rfl rfl bS rfl ?_;refine dl_ev rfl rfl (.none rfl) rfl rfl (aD (o' := 0) lN rfl rfl) rfl ?_;refine dl_ev rfl rfl (.none rfl) rfl rfl (aK ts42 rfl aL rfl) rfl ?_;refine dl_ev rfl rfl (.none rfl) rfl rfl (bZ (k := cW) rfl Tryz.underlying42 rfl (.blk (.own .here) rfl hcs)) rfl ?_;refine dl_ev rfl rfl (.none rfl) rfl rfl (nP rfl rfl aH aH) rfl ?_;refine dl_ev rfl rfl (.none rfl) rfl rfl (aC rfl) rfl ?_;refine dl_ev rfl rfl (.none rfl) rfl rfl (nP rfl rfl aH aH) rfl ?_;refine dl_ev rfl rfl (.none rfl) rfl rfl (uV (k := cW) (j := p) (m := 0 + p * 7) rfl dR rfl (.blk (.own .here) rfl hcs) rfl rfl aH) rfl ?_;refine dl_ev rfl rfl (.none rfl) rfl rfl (aD (o := 0 + p * 7) (o' := 0 + p * 7 + 1) gF rfl rfl) rfl ?_;refine oG rfl rfl (.none rfl) rfl (bK ts3 rfl rfl rfl .here (aHB (by rw [hlen]; omega)) (h4.at (by show 0 + p * 7 + 1 < cap * 7; omega))) ?_;rintro _ K _ ⟨rfl, rfl⟩ -;refine dl_nil ?_;refine aM (aE ?_);refine aB ?_;refine aA (b0 rfl rfl aH aH) rfl ?_;refine aA (aC rfl) rfl ?_;refine aG ?_;have e3 : ((cW.cs xs ++ junk).set (0 + p * 7 + 1) (i64 (xs.length - 1 - p))) = cW.cs (xs.set p { x with n := xs.length - 1 - p }) ++ junk := (by rw [show 0 + p * 7 + 1 = p * cW.sz + 1 from by show _ = p * 7 + 1; omega]; exact cs_set cW (by decide) rfl hx);have e4 : (ps.take (i + 1)).foldl (fun o k => lC o k ((vs.length : Int) - 1 - k)) vs = xs.set p { x with n := xs.length - 1 - p } := (by rw [aDB hpi, ← hxs, aHE hx, hxl]);have e5 : (xs.set p { x with n := xs.length - 1 - p }).length = xs.length := List.length_set;refine dU (fun h hh => aKE (k := cW) (z := false) (xs := xs.set p { x with n := xs.length - 1 - p }) (fun h => by cases h) (by rw [e5]; exact h2) (by rw [e5]; exact h3) h4 e3 hh) ?_;refine cI (i + 1) aH aH (.cons 0 rfl (.cons 6 rfl (.cons 7 rfl (.cons 8 rfl .nil)))) rfl ?_;rw [e4, e5];exact fun _ h => h
 ·
  have hfin : (ps.take i).foldl (fun o k => lC o k ((vs.length : Int) - 1 - k)) vs = rL vs ps := (by rw [List.take_of_length_le aH]; rfl);refine cR ?_;refine aT ?_;refine aT ?_;refine bG ?_;rw [hfin];refine aN (.cons (.there .here) (.cons .here .nil)) ?_;refine dU zE ?_;refine dD rfl (Hl.le_refl _) ?_;exact ⟨_, rfl, rfl, rfl, rfl⟩
end Go.Proofs
end
section
namespace Go.Proofs
open Go Go.SL Go.Syn Go.Cmp
theorem tR (b e n : Nat) (x : Value) (hx : x = i64 n) : ∀ h, pt b (aU [x] e) h → sl false (iG e) (.slice (some ⟨b, 0, none⟩) 1 1) [n] h := by
 subst hx;exact rT (k := iG e) (xs := [n]) (cells := [i64 n]) (Nat.le_refl _) rfl rfl (.inl (Nat.le_refl _)) (fun h => by cases h)
theorem mJ (K : Hl) : Ksl (bE 9) K nilC.1 [] := .inl ⟨none, 0, rfl, rfl⟩
abbrev jmpV (op : Int) : InsV := ⟨op, 0, 0, false, nilC, nilC, 0⟩
theorem l5 (K : Hl) (op : Int) : RIns K (jmpV op) (jmp op) := ⟨rfl, rfl, rfl, rfl, rfl, mJ K, mJ K⟩
theorem RIs.two {K : Hl} {x y : InsV} {o p : Mach.Ins} (h1 : RIns K x o) (h2 : RIns K y p) : RIs K [x, y] [o, p] := ⟨h1, h2, trivial⟩
abbrev UnlR (b : Nat) (r : List Mach.Ins × List Nat) : Ending → Hl → List Asn → Prop := Ret fun pv K' L' => ∃ vs', RIs K' vs' r.1 ∧ L' = [sl false (iG 3) pv r.2, cdr b vs']
def UnlS (t : Tree) : Prop := wf t 0 = true → ∀ (b : Nat) (tn : Bool) (ty : TypeId) (u : Value) (vs : List InsV) (ops : List Mach.Ins) (K : Hl), Rep K t [(⟨.iface ty u, rfl⟩, u0)] → RIs K vs ops → vs.length + 2 * cnt t ≤ 900000 → Sp Tryz.prog 270 [ptr b, .iface ty u, .bool tn] K [cdr b vs] (UnlR b (unl t tn ops))
def UnlL : Tree → Prop
 | .tcons t l => UnlS t ∧ UnlL l
 | _ => True
theorem aG0 {K : Hl} {rest : Tree} {xs : List (Cell × Cell)} {i : Nat} (hw : wf rest 1 = true) (hr : Rep K rest (xs.drop i)) (hi : i < xs.length) :
  ∃ t l c, rest = .tcons t l ∧ Rep K t [(c, u0)] ∧ Rep K l (xs.drop (i + 1)) ∧ xs[i]? = some (c, u0) ∧ wf t 0 = true ∧ wf l 1 = true := by
 have hd : xs.drop i ≠ [] := by intro h; have := congrArg List.length h; simp at this; omega
 cases rest <;> simp only [wf, Rep] at hw hr
 case tnil => exact absurd hr hd
 case tcons t l =>
  obtain ⟨c, ys, h1, h2, h3⟩ := hr;simp at hw;have e : xs.drop (i + 1) = ys := by rw [← List.drop_drop, h3]; rfl
  refine ⟨t, l, c, rfl, h1, by rw [e]; exact h2, ?_, hw.1, hw.2⟩
  have := List.getElem?_drop (xs := xs) (i := i) (j := 0);rw [h3] at this; simpa using this.symm
 all_goals simp at hw
theorem aJ3 {K : Hl} {l : Tree} {ys : List (Cell × Cell)} (hw : wf l 1 = true) (hr : Rep K l ys) : fZ l = false ↔ 0 < ys.length := by
 cases l <;> simp only [wf, Rep] at hw hr
 case tnil => subst hr; simp [fZ]
 case tcons t l => obtain ⟨c, zs, _, _, rfl⟩ := hr; simp [fZ]
 all_goals simp at hw
theorem aJY {K : Hl} {rest : Tree} {ys : List (Cell × Cell)} (hw : wf rest 1 = true) (hr : Rep K rest ys) (he : ys = []) {all tn : Bool} {ops : List Mach.Ins} {a h : List Nat} : unlL all tn rest ops a h = (ops, a, h) := by
 cases rest <;> simp only [wf, Rep] at hw hr
 case tnil => simp [unlL]
 case tcons t l => obtain ⟨c, zs, _, _, rfl⟩ := hr; cases he
 all_goals simp at hw
theorem aH3 (p : Bool) : UnlS (.const p) := by
 intro hw b tn ty u vs ops K hr hv hl;cases (show [(_, u0)] = [(_, u0)] from hr)
 have hvl := hv.length;refine bA Tryz.func270 rfl Tryz.ntmps270 rfl rfl fun F w => ?_
 refine aI (aB ?_);refine aA (aF rfl) rfl ?_;refine aG (aE ?_);refine aI (aB ?_);refine aA (cJ tb41 jO (.cons rfl rfl rfl (.cons .nil) .nil)) rfl ?_;refine ol_s (cL tz41) rfl ?_;rintro _ K _ ⟨b7, rfl, rfl, rfl⟩ -;refine bP (cE fP rfl rfl rfl a7 (by first | (simp [Value.oneCell']; done) | exact fun c hc => El.one _ _ c hc) (.cons (.cons (.cons (.cons (.cons (.cons (.cons .nil))))))) (by intro j hj; simp)) ?_;rintro _ K _ ⟨rfl, rfl⟩ -;refine aG (aE ?_);refine iE (fun (j : Int) => j = if tn = true then 4 else 5) (fun _ => [(0, ptr b), (1, .iface 289 (.bool p)), (2, .bool tn), (7, ptr b7)]) (fun _ => K) (fun j => [pt b7 (aU [i64 j, i64 0, i64 0, .bool false, .slice none 0 0, .slice none 0 0, i64 0] 41), cdr b vs]) ?_ ?_
 ·
  refine aI (aB ?_);refine aA (aC rfl) rfl ?_;refine aG (aE ?_);refine d6 19 rfl (fun h19 => ?_) (fun h19 => ?_)
  ·
   refine aB ?_;refine aA (aD (o' := 0) iM rfl rfl) rfl ?_;refine bP (bK ts3 rfl rfl cD a7 .zero rfl) ?_;rintro _ K _ ⟨rfl, rfl⟩ -;refine aG ?_;exact cA _ (by rw [h19]; rfl) (.cons 0 rfl (.cons 1 rfl (.cons 2 rfl (.cons 7 rfl .nil)))) rfl (fun _ h => h)
  ·
   refine aX ?_;exact cA _ (by rw [h19]; rfl) (.cons 0 rfl (.cons 1 rfl (.cons 2 rfl (.cons 7 rfl .nil)))) rfl (fun _ h => h)
 ·
  intro j hj;refine aI (aI ?_);refine aB ?_;refine aA (aC rfl) rfl ?_;refine aG (aE ?_);refine bC (aI ?_);refine aB ?_;refine aA (cZ Tryz.underlying293 (fun _ h => by cases h) rfl aCF rfl) rfl ?_;refine aA (aP rfl rfl) rfl ?_;refine aA (aP rfl rfl) rfl ?_;refine aG (aE ?_);refine cO rfl ?_;refine aI (aB ?_);refine aA (eP Tryz.underlying289 (fun _ h => by cases h) rfl) rfl ?_;refine aA (aP rfl rfl) rfl ?_;refine aA (aP rfl rfl) rfl ?_;refine aG (aE ?_);refine eK rfl ?_;refine aI (aB ?_);refine aA (aF rfl) rfl ?_;refine aG (aE ?_);refine aI (aI ?_);refine aB ?_;refine aA (aC rfl) rfl ?_;refine aA (aC rfl) rfl ?_;refine aA (aEP Tryz.underlying4 rfl rfl) rfl ?_;refine aG (aE ?_);refine d6 36 rfl (fun h36 => ?_) (fun h36 => ?_)
  ·
   have e36 : unl (.const p) tn ops = (ops, []) := (by unfold unl; rw [if_neg (by intro h; subst h; simp at h36)]);refine aI (aB ?_);refine aA (aF rfl) rfl ?_;refine aG (aE ?_);refine bM ?_;refine bF ?_;refine bR ?_;refine bF ?_;refine aN (.cons (.there .here) .nil) ?_;refine dU (d8 (iG 3)) ?_;refine bL rfl rfl (Hl.le_refl _) ?_;rw [e36];exact ⟨_, rfl, vs, hv, rfl⟩
  ·
   have e36 : unl (.const p) tn ops = (ops ++ [jmp 3], [ops.length]) := (by unfold unl; rw [if_pos (by simpa using h36)]);refine aX ?_;refine aE (aI ?_);refine aB ?_;refine aA (aC rfl) rfl ?_;refine aA (cJ tb41 jO (.cons rfl rfl rfl (.cons .nil) .nil)) rfl ?_;refine ol_s (bN (z0 := [.int .i64 0, .int .i64 0, .int .i64 0, .bool false, .slice none 0 0, .slice none 0 0, .int .i64 0]) dR tz41 rfl rfl rfl rfl (.cons rfl rfl rfl (.cons (.cons (.cons (.cons (.cons (.cons (.cons .nil))))))) .nil)) rfl ?_;rintro _ K _ ⟨b39, rfl, rfl, rfl⟩ -;refine bD rfl rfl (iQ b b39 vs [jmpV 3] _ _ rfl (by simp; omega)) (.cons (.there (.there .here)) (.cons .here .nil)) rfl ?_;rintro _ K _ ⟨rfl, rfl, rfl⟩ -;refine ol_s (bN (z0 := [.int .i64 0]) nB tz3 rfl rfl rfl rfl (.cons rfl rfl rfl (.cons .nil) .nil)) rfl ?_;rintro _ K _ ⟨b41, rfl, rfl, rfl⟩ -;refine aA (aF rfl) rfl ?_;refine aG (aE ?_);refine bM ?_;refine bR ?_;refine bF ?_;refine aN (.cons .here (.cons .here .nil)) ?_;refine dU (gP (tR b41 3 ops.length _ (by rw [List.length_append, hvl]; simp))) ?_;refine bL rfl rfl (Hl.le_refl _) ?_;rw [e36];exact ⟨_, rfl, _, RIs.append (ws := [jmpV 3]) (ps := [jmp 3]) ⟨l5 _ _, trivial⟩ hv, rfl⟩
theorem aMW (t : Tree) (ih : UnlS t) : UnlS (.not_ t) := by
 intro hw b tn ty u vs ops K hr hv hl;obtain ⟨⟨cv, hcv⟩, hr1, he⟩ := hr;have hwt : wf t 0 = true := by simpa [wf] using hw
 obtain ⟨ty2, u2, hc⟩ := sN (.inl hwt) hr1;cases hc
 cases he
 simp only [cnt] at hl;have hvl := hv.length;refine bA Tryz.func270 rfl Tryz.ntmps270 rfl rfl fun F w => ?_
 refine aI (aB ?_);refine aA (aF rfl) rfl ?_;refine aG (aE ?_);refine aI (aB ?_);refine aA (cJ tb41 jO (.cons rfl rfl rfl (.cons .nil) .nil)) rfl ?_;refine ol_s (cL tz41) rfl ?_;rintro _ K _ ⟨b7, rfl, rfl, rfl⟩ -;refine bP (cE fP rfl rfl rfl a7 (by first | (simp [Value.oneCell']; done) | exact fun c hc => El.one _ _ c hc) (.cons (.cons (.cons (.cons (.cons (.cons (.cons .nil))))))) (by intro j hj; simp)) ?_;rintro _ K _ ⟨rfl, rfl⟩ -;refine aG (aE ?_);refine iE (fun (j : Int) => j = if tn = true then 4 else 5) (fun _ => [(0, ptr b), (1, .iface 293 (.agg #[.iface ty2 u2])), (2, .bool tn), (7, ptr b7)]) (fun _ => K) (fun j => [pt b7 (aU [i64 j, i64 0, i64 0, .bool false, .slice none 0 0, .slice none 0 0, i64 0] 41), cdr b vs]) ?_ ?_
 ·
  refine aI (aB ?_);refine aA (aC rfl) rfl ?_;refine aG (aE ?_);refine d6 19 rfl (fun h19 => ?_) (fun h19 => ?_)
  ·
   refine aB ?_;refine aA (aD (o' := 0) iM rfl rfl) rfl ?_;refine bP (bK ts3 rfl rfl cD a7 .zero rfl) ?_;rintro _ K _ ⟨rfl, rfl⟩ -;refine aG ?_;exact cA _ (by rw [h19]; rfl) (.cons 0 rfl (.cons 1 rfl (.cons 2 rfl (.cons 7 rfl .nil)))) rfl (fun _ h => h)
  ·
   refine aX ?_;exact cA _ (by rw [h19]; rfl) (.cons 0 rfl (.cons 1 rfl (.cons 2 rfl (.cons 7 rfl .nil)))) rfl (fun _ h => h)
 ·
  intro j hj;refine aI (aI ?_);refine aB ?_;refine aA (aC rfl) rfl ?_;refine aG (aE ?_);refine bC (aI ?_);refine aB ?_;refine aA (eP Tryz.underlying293 (fun _ h => by cases h) rfl) rfl ?_;refine aA (aP rfl rfl) rfl ?_;refine aA (aP rfl rfl) rfl ?_;refine aG (aE ?_);refine eK rfl ?_;refine aI (aB ?_);refine ol_s (cL aQR) rfl ?_;rintro _ K _ ⟨b8, rfl, rfl, rfl⟩ -;refine bP (cE aMM rfl rfl rfl a7 (by first | (simp [Value.oneCell']; done) | exact fun c hc => El.one _ _ c hc) (.cons .nil) (by intro j hj; simp)) ?_;rintro _ K _ ⟨rfl, rfl⟩ -;refine aG (aE ?_);refine aI (aB ?_);refine aA (aC rfl) rfl ?_;refine aA (aD (o' := 0) aHV rfl rfl) rfl ?_;refine aA (aK aCE rfl aL rfl) rfl ?_;refine aA (aC rfl) rfl ?_;refine aA (by first | exact dM rfl | exact dW rfl) rfl ?_;refine bD rfl rfl (ih hwt b (!tn) ty2 u2 vs ops _ hr1 hv aH) (.cons (.there (.there .here)) .nil) rfl ?_;rintro _ K1 _ ⟨vs1, hv1, rfl⟩ le1;refine aA (aF rfl) rfl ?_;refine aG (aE ?_);refine bM ?_;refine bR ?_;refine bF ?_;refine aN (.cons .here (.cons .here .nil)) ?_;refine bL rfl rfl le1 ?_;exact ⟨_, rfl, vs1, hv1, rfl⟩
theorem aMV (tag : Int) (oct : Bool) (op : Int) (a b1 : List (List UInt8)) : UnlS (.mat tag oct op a b1) := by
 intro hw b tn ty u vs ops K hr hv hl;obtain ⟨va, vb, hA, hB, he⟩ := hr;obtain ⟨sa, sn, sc, rfl⟩ := hA.isSlice;obtain ⟨ta, tn2, tc, rfl⟩ := hB.isSlice;cases he
 have hvl := hv.length;refine bA Tryz.func270 rfl Tryz.ntmps270 rfl rfl fun F w => ?_
 refine aI (aB ?_);refine aA (aF rfl) rfl ?_;refine aG (aE ?_);refine aI (aB ?_);refine aA (cJ tb41 jO (.cons rfl rfl rfl (.cons .nil) .nil)) rfl ?_;refine ol_s (cL tz41) rfl ?_;rintro _ K _ ⟨b7, rfl, rfl, rfl⟩ -;refine bP (cE fP rfl rfl rfl a7 (by first | (simp [Value.oneCell']; done) | exact fun c hc => El.one _ _ c hc) (.cons (.cons (.cons (.cons (.cons (.cons (.cons .nil))))))) (by intro j hj; simp)) ?_;rintro _ K _ ⟨rfl, rfl⟩ -;refine aG (aE ?_);refine iE (fun (j : Int) => j = if tn = true then 4 else 5) (fun _ => [(0, ptr b), (1, .iface 380 (.agg #[i64 tag, .bool oct, i64 op, .slice sa sn sc, .slice ta tn2 tc])), (2, .bool tn), (7, ptr b7)]) (fun _ => K) (fun j => [pt b7 (aU [i64 j, i64 0, i64 0, .bool false, .slice none 0 0, .slice none 0 0, i64 0] 41), cdr b vs]) ?_ ?_
 ·
  refine aI (aB ?_);refine aA (aC rfl) rfl ?_;refine aG (aE ?_);refine d6 19 rfl (fun h19 => ?_) (fun h19 => ?_)
  ·
   refine aB ?_;refine aA (aD (o' := 0) iM rfl rfl) rfl ?_;refine bP (bK ts3 rfl rfl cD a7 .zero rfl) ?_;rintro _ K _ ⟨rfl, rfl⟩ -;refine aG ?_;exact cA _ (by rw [h19]; rfl) (.cons 0 rfl (.cons 1 rfl (.cons 2 rfl (.cons 7 rfl .nil)))) rfl (fun _ h => h)
  ·
   refine aX ?_;exact cA _ (by rw [h19]; rfl) (.cons 0 rfl (.cons 1 rfl (.cons 2 rfl (.cons 7 rfl .nil)))) rfl (fun _ h => h)
 ·
  intro j hj;refine aI (aI ?_);refine aB ?_;refine aA (aC rfl) rfl ?_;refine aG (aE ?_);refine bC (aI ?_);refine aB ?_;refine aA (cZ Tryz.underlying293 (fun _ h => by cases h) rfl aCF rfl) rfl ?_;refine aA (aP rfl rfl) rfl ?_;refine aA (aP rfl rfl) rfl ?_;refine aG (aE ?_);refine cO rfl ?_;refine aI (aB ?_);refine aA (cZ Tryz.underlying289 (fun _ h => by cases h) rfl aFA rfl) rfl ?_;refine aA (aP rfl rfl) rfl ?_;refine aA (aP rfl rfl) rfl ?_;refine aG (aE ?_);refine cO rfl ?_;refine aI (aB ?_);refine aA (cZ Tryz.underlying376 (fun _ h => by cases h) rfl aK1 rfl) rfl ?_;refine aA (aP rfl rfl) rfl ?_;refine aA (aP rfl rfl) rfl ?_;refine aG (aE ?_);refine cO rfl ?_;refine aI (aB ?_);refine aA (eP Tryz.underlying380 (fun _ h => by cases h) rfl) rfl ?_;refine aA (aP rfl rfl) rfl ?_;refine aA (aP rfl rfl) rfl ?_;refine aG (aE ?_);refine eK rfl ?_;refine aI (aB ?_);refine ol_s (cL aNO) rfl ?_;rintro _ K _ ⟨b15, rfl, rfl, rfl⟩ -;refine bP (cE zQ rfl rfl rfl a7 (by first | (simp [Value.oneCell']; done) | exact fun c hc => El.one _ _ c hc) (.cons (.cons (.cons (.cons (.cons .nil))))) (by intro j hj; simp)) ?_;rintro _ K _ ⟨rfl, rfl⟩ -;refine aG (aE ?_);refine aI (aB ?_);refine aA (aC rfl) rfl ?_;refine aA (aD (o' := 2) aH0 rfl rfl) rfl ?_;refine aA (aK ts3 rfl aL rfl) rfl ?_;refine aA (aD (o' := 0) fK rfl rfl) rfl ?_;refine aA (aD (o' := 0) iU rfl rfl) rfl ?_;refine aA (aK ts3 rfl aL rfl) rfl ?_;refine aA (aD (o' := 0) fK rfl rfl) rfl ?_;refine aA (aD (o' := 1) m9 rfl rfl) rfl ?_;refine aA (aK ts4 rfl aL rfl) rfl ?_;refine aA (aD (o' := 3) xT rfl rfl) rfl ?_;refine aA (aK ts39 rfl aL rfl) rfl ?_;refine aA (aD (o' := 4) xU rfl rfl) rfl ?_;refine aA (aK ts39 rfl aL rfl) rfl ?_;refine aA (cJ tb41 jO (.cons rfl rfl rfl (.cons .nil) (.cons rfl rfl rfl (.skip (.skip (.cons .nil))) (.cons rfl rfl rfl (.skip (.skip (.skip (.cons .nil)))) (.cons rfl rfl rfl (.skip (.skip (.skip (.skip (.cons .nil))))) (.cons rfl rfl rfl (.skip (.skip (.skip (.skip (.skip (.cons .nil)))))) .nil)))))) rfl ?_;refine aA (bT fP rfl aL rfl rfl) rfl ?_;refine ol_s (bN (z0 := [.int .i64 0, .int .i64 0, .int .i64 0, .bool false, .slice none 0 0, .slice none 0 0, .int .i64 0, .int .i64 0, .int .i64 0, .int .i64 0, .bool false, .slice none 0 0, .slice none 0 0, .int .i64 0]) dR tz41 rfl rfl rfl rfl (.cons rfl rfl rfl (.cons (.cons (.cons (.cons (.cons (.cons (.cons .nil))))))) (.cons rfl rfl rfl (.skip (.skip (.skip (.skip (.skip (.skip (.skip (.cons (.cons (.cons (.cons (.cons (.cons (.cons .nil)))))))))))))) .nil))) rfl ?_;rintro _ K _ ⟨b107, rfl, rfl, rfl⟩ -;refine bD rfl rfl (iQ b b107 vs [⟨op, 0, tag, oct, ⟨.slice sa sn sc, rfl⟩, ⟨.slice ta tn2 tc, rfl⟩, 0⟩, jmpV j] _ _ rfl (by simp; omega)) (.cons (.there (.there (.there .here))) (.cons .here .nil)) rfl ?_;rintro _ K _ ⟨rfl, rfl, rfl⟩ -;refine ol_s (bN (z0 := [.int .i64 0]) nB tz3 rfl rfl rfl rfl (.cons rfl rfl rfl (.cons .nil) .nil)) rfl ?_;rintro _ K _ ⟨b109, rfl, rfl, rfl⟩ -;refine aA (aF rfl) rfl ?_;refine aG (aE ?_);refine bM ?_;refine bR ?_;refine bF ?_;refine aN (.cons .here (.cons .here .nil)) ?_;refine dU (gP (tR b109 3 (ops.length + 1) _ (by rw [List.length_append, hvl]; simp; omega))) ?_;refine bL rfl rfl (Hl.le_refl _) ?_;unfold unl;exact ⟨_, rfl, _, RIs.append (RIs.two ⟨rfl, rfl, rfl, rfl, rfl, hA, hB⟩ (by rw [hj]; exact l5 _ _)) hv, rfl⟩
theorem aMT (a : List (List UInt8)) : UnlS (.exi a) := by
 intro hw b tn ty u vs ops K hr hv hl;obtain ⟨va, hA, he⟩ := hr;obtain ⟨sa, sn, sc, rfl⟩ := hA.isSlice;cases he
 have hvl := hv.length;refine bA Tryz.func270 rfl Tryz.ntmps270 rfl rfl fun F w => ?_
 refine aI (aB ?_);refine aA (aF rfl) rfl ?_;refine aG (aE ?_);refine aI (aB ?_);refine aA (cJ tb41 jO (.cons rfl rfl rfl (.cons .nil) .nil)) rfl ?_;refine ol_s (cL tz41) rfl ?_;rintro _ K _ ⟨b7, rfl, rfl, rfl⟩ -;refine bP (cE fP rfl rfl rfl a7 (by first | (simp [Value.oneCell']; done) | exact fun c hc => El.one _ _ c hc) (.cons (.cons (.cons (.cons (.cons (.cons (.cons .nil))))))) (by intro j hj; simp)) ?_;rintro _ K _ ⟨rfl, rfl⟩ -;refine aG (aE ?_);refine iE (fun (j : Int) => j = if tn = true then 4 else 5) (fun _ => [(0, ptr b), (1, .iface 297 (.agg #[.slice sa sn sc])), (2, .bool tn), (7, ptr b7)]) (fun _ => K) (fun j => [pt b7 (aU [i64 j, i64 0, i64 0, .bool false, .slice none 0 0, .slice none 0 0, i64 0] 41), cdr b vs]) ?_ ?_
 ·
  refine aI (aB ?_);refine aA (aC rfl) rfl ?_;refine aG (aE ?_);refine d6 19 rfl (fun h19 => ?_) (fun h19 => ?_)
  ·
   refine aB ?_;refine aA (aD (o' := 0) iM rfl rfl) rfl ?_;refine bP (bK ts3 rfl rfl cD a7 .zero rfl) ?_;rintro _ K _ ⟨rfl, rfl⟩ -;refine aG ?_;exact cA _ (by rw [h19]; rfl) (.cons 0 rfl (.cons 1 rfl (.cons 2 rfl (.cons 7 rfl .nil)))) rfl (fun _ h => h)
  ·
   refine aX ?_;exact cA _ (by rw [h19]; rfl) (.cons 0 rfl (.cons 1 rfl (.cons 2 rfl (.cons 7 rfl .nil)))) rfl (fun _ h => h)
 ·
  intro j hj;refine aI (aI ?_);refine aB ?_;refine aA (aC rfl) rfl ?_;refine aG (aE ?_);refine bC (aI ?_);refine aB ?_;refine aA (cZ Tryz.underlying293 (fun _ h => by cases h) rfl aCF rfl) rfl ?_;refine aA (aP rfl rfl) rfl ?_;refine aA (aP rfl rfl) rfl ?_;refine aG (aE ?_);refine cO rfl ?_;refine aI (aB ?_);refine aA (cZ Tryz.underlying289 (fun _ h => by cases h) rfl aFA rfl) rfl ?_;refine aA (aP rfl rfl) rfl ?_;refine aA (aP rfl rfl) rfl ?_;refine aG (aE ?_);refine cO rfl ?_;refine aI (aB ?_);refine aA (cZ Tryz.underlying376 (fun _ h => by cases h) rfl aK1 rfl) rfl ?_;refine aA (aP rfl rfl) rfl ?_;refine aA (aP rfl rfl) rfl ?_;refine aG (aE ?_);refine cO rfl ?_;refine aI (aB ?_);refine aA (cZ Tryz.underlying380 (fun _ h => by cases h) rfl aNH rfl) rfl ?_;refine aA (aP rfl rfl) rfl ?_;refine aA (aP rfl rfl) rfl ?_;refine aG (aE ?_);refine cO rfl ?_;refine aI (aB ?_);refine aA (eP Tryz.underlying297 (fun _ h => by cases h) rfl) rfl ?_;refine aA (aP rfl rfl) rfl ?_;refine aA (aP rfl rfl) rfl ?_;refine aG (aE ?_);refine eK rfl ?_;refine aI (aB ?_);refine ol_s (cL aQS) rfl ?_;rintro _ K _ ⟨b16, rfl, rfl, rfl⟩ -;refine bP (cE aMN rfl rfl rfl a7 (by first | (simp [Value.oneCell']; done) | exact fun c hc => El.one _ _ c hc) (.cons .nil) (by intro j hj; simp)) ?_;rintro _ K _ ⟨rfl, rfl⟩ -;refine aG (aE ?_);refine aI (aB ?_);refine aA (aC rfl) rfl ?_;refine aA (aD (o' := 0) aHW rfl rfl) rfl ?_;refine aA (aK ts39 rfl aL rfl) rfl ?_;refine aA (cJ tb41 jO (.cons rfl rfl rfl (.cons .nil) (.cons rfl rfl rfl (.skip (.skip (.skip (.skip (.cons .nil))))) .nil))) rfl ?_;refine aA (bT fP rfl aL rfl rfl) rfl ?_;refine ol_s (bN (z0 := [.int .i64 0, .int .i64 0, .int .i64 0, .bool false, .slice none 0 0, .slice none 0 0, .int .i64 0, .int .i64 0, .int .i64 0, .int .i64 0, .bool false, .slice none 0 0, .slice none 0 0, .int .i64 0]) dR tz41 rfl rfl rfl rfl (.cons rfl rfl rfl (.cons (.cons (.cons (.cons (.cons (.cons (.cons .nil))))))) (.cons rfl rfl rfl (.skip (.skip (.skip (.skip (.skip (.skip (.skip (.cons (.cons (.cons (.cons (.cons (.cons (.cons .nil)))))))))))))) .nil))) rfl ?_;rintro _ K _ ⟨b118, rfl, rfl, rfl⟩ -;refine bD rfl rfl (iQ b b118 vs [⟨9, 0, 0, false, ⟨.slice sa sn sc, rfl⟩, nilC, 0⟩, jmpV j] _ _ rfl (by simp; omega)) (.cons (.there (.there (.there .here))) (.cons .here .nil)) rfl ?_;rintro _ K _ ⟨rfl, rfl, rfl⟩ -;refine ol_s (bN (z0 := [.int .i64 0]) nB tz3 rfl rfl rfl rfl (.cons rfl rfl rfl (.cons .nil) .nil)) rfl ?_;rintro _ K _ ⟨b120, rfl, rfl, rfl⟩ -;refine aA (aF rfl) rfl ?_;refine aG (aE ?_);refine bM ?_;refine bR ?_;refine bF ?_;refine aN (.cons .here (.cons .here .nil)) ?_;refine dU (gP (tR b120 3 (ops.length + 1) _ (by rw [List.length_append, hvl]; simp; omega))) ?_;refine bL rfl rfl (Hl.le_refl _) ?_;unfold unl;exact ⟨_, rfl, _, RIs.append (RIs.two ⟨rfl, rfl, rfl, rfl, rfl, hA, mJ _⟩ (by rw [hj]; exact l5 _ _)) hv, rfl⟩
theorem aMX (tag n : Int) : UnlS (.siz tag n) := by
 intro hw b tn ty u vs ops K hr hv hl;cases (show [(_, u0)] = [(_, u0)] from hr)
 have hvl := hv.length;refine bA Tryz.func270 rfl Tryz.ntmps270 rfl rfl fun F w => ?_
 refine aI (aB ?_);refine aA (aF rfl) rfl ?_;refine aG (aE ?_);refine aI (aB ?_);refine aA (cJ tb41 jO (.cons rfl rfl rfl (.cons .nil) .nil)) rfl ?_;refine ol_s (cL tz41) rfl ?_;rintro _ K _ ⟨b7, rfl, rfl, rfl⟩ -;refine bP (cE fP rfl rfl rfl a7 (by first | (simp [Value.oneCell']; done) | exact fun c hc => El.one _ _ c hc) (.cons (.cons (.cons (.cons (.cons (.cons (.cons .nil))))))) (by intro j hj; simp)) ?_;rintro _ K _ ⟨rfl, rfl⟩ -;refine aG (aE ?_);refine iE (fun (j : Int) => j = if tn = true then 4 else 5) (fun _ => [(0, ptr b), (1, .iface 300 (.agg #[i64 tag, i64 n])), (2, .bool tn), (7, ptr b7)]) (fun _ => K) (fun j => [pt b7 (aU [i64 j, i64 0, i64 0, .bool false, .slice none 0 0, .slice none 0 0, i64 0] 41), cdr b vs]) ?_ ?_
 ·
  refine aI (aB ?_);refine aA (aC rfl) rfl ?_;refine aG (aE ?_);refine d6 19 rfl (fun h19 => ?_) (fun h19 => ?_)
  ·
   refine aB ?_;refine aA (aD (o' := 0) iM rfl rfl) rfl ?_;refine bP (bK ts3 rfl rfl cD a7 .zero rfl) ?_;rintro _ K _ ⟨rfl, rfl⟩ -;refine aG ?_;exact cA _ (by rw [h19]; rfl) (.cons 0 rfl (.cons 1 rfl (.cons 2 rfl (.cons 7 rfl .nil)))) rfl (fun _ h => h)
  ·
   refine aX ?_;exact cA _ (by rw [h19]; rfl) (.cons 0 rfl (.cons 1 rfl (.cons 2 rfl (.cons 7 rfl .nil)))) rfl (fun _ h => h)
 ·
  intro j hj;refine aI (aI ?_);refine aB ?_;refine aA (aC rfl) rfl ?_;refine aG (aE ?_);refine bC (aI ?_);refine aB ?_;refine aA (cZ Tryz.underlying293 (fun _ h => by cases h) rfl aCF rfl) rfl ?_;refine aA (aP rfl rfl) rfl ?_;refine aA (aP rfl rfl) rfl ?_;refine aG (aE ?_);refine cO rfl ?_;refine aI (aB ?_);refine aA (cZ Tryz.underlying289 (fun _ h => by cases h) rfl aFA rfl) rfl ?_;refine aA (aP rfl rfl) rfl ?_;refine aA (aP rfl rfl) rfl ?_;refine aG (aE ?_);refine cO rfl ?_;refine aI (aB ?_);refine aA (cZ Tryz.underlying376 (fun _ h => by cases h) rfl aK1 rfl) rfl ?_;refine aA (aP rfl rfl) rfl ?_;refine aA (aP rfl rfl) rfl ?_;refine aG (aE ?_);refine cO rfl ?_;refine aI (aB ?_);refine aA (cZ Tryz.underlying380 (fun _ h => by cases h) rfl aNH rfl) rfl ?_;refine aA (aP rfl rfl) rfl ?_;refine aA (aP rfl rfl) rfl ?_;refine aG (aE ?_);refine cO rfl ?_;refine aI (aB ?_);refine aA (cZ Tryz.underlying297 (fun _ h => by cases h) rfl aQJ rfl) rfl ?_;refine aA (aP rfl rfl) rfl ?_;refine aA (aP rfl rfl) rfl ?_;refine aG (aE ?_);refine cO rfl ?_;refine aI (aB ?_);refine aA (eP Tryz.underlying300 (fun _ h => by cases h) rfl) rfl ?_;refine aA (aP rfl rfl) rfl ?_;refine aA (aP rfl rfl) rfl ?_;refine aG (aE ?_);refine eK rfl ?_;refine aI (aB ?_);refine ol_s (cL aQT) rfl ?_;rintro _ K _ ⟨b17, rfl, rfl, rfl⟩ -;refine bP (cE aMO rfl rfl rfl a7 (by first | (simp [Value.oneCell']; done) | exact fun c hc => El.one _ _ c hc) (.cons (.cons .nil)) (by intro j hj; simp)) ?_;rintro _ K _ ⟨rfl, rfl⟩ -;refine aG (aE ?_);refine aI (aB ?_);refine aA (aC rfl) rfl ?_;refine aA (aD (o' := 0) aHX rfl rfl) rfl ?_;refine aA (aK ts3 rfl aL rfl) rfl ?_;refine aA (aD (o' := 1) aHY rfl rfl) rfl ?_;refine aA (aK ts3 rfl aL rfl) rfl ?_;refine aA (cJ tb41 jO (.cons rfl rfl rfl (.cons .nil) (.cons rfl rfl rfl (.skip (.skip (.cons .nil))) (.cons rfl rfl rfl (.skip (.cons .nil)) .nil)))) rfl ?_;refine aA (bT fP rfl aL rfl rfl) rfl ?_;refine ol_s (bN (z0 := [.int .i64 0, .int .i64 0, .int .i64 0, .bool false, .slice none 0 0, .slice none 0 0, .int .i64 0, .int .i64 0, .int .i64 0, .int .i64 0, .bool false, .slice none 0 0, .slice none 0 0, .int .i64 0]) dR tz41 rfl rfl rfl rfl (.cons rfl rfl rfl (.cons (.cons (.cons (.cons (.cons (.cons (.cons .nil))))))) (.cons rfl rfl rfl (.skip (.skip (.skip (.skip (.skip (.skip (.skip (.cons (.cons (.cons (.cons (.cons (.cons (.cons .nil)))))))))))))) .nil))) rfl ?_;rintro _ K _ ⟨b131, rfl, rfl, rfl⟩ -;refine bD rfl rfl (iQ b b131 vs [⟨10, n, tag, false, nilC, nilC, 0⟩, jmpV j] _ _ rfl (by simp; omega)) (.cons (.there (.there (.there .here))) (.cons .here .nil)) rfl ?_;rintro _ K _ ⟨rfl, rfl, rfl⟩ -;refine ol_s (bN (z0 := [.int .i64 0]) nB tz3 rfl rfl rfl rfl (.cons rfl rfl rfl (.cons .nil) .nil)) rfl ?_;rintro _ K _ ⟨b133, rfl, rfl, rfl⟩ -;refine aA (aF rfl) rfl ?_;refine aG (aE ?_);refine bM ?_;refine bR ?_;refine bF ?_;refine aN (.cons .here (.cons .here .nil)) ?_;refine dU (gP (tR b133 3 (ops.length + 1) _ (by rw [List.length_append, hvl]; simp; omega))) ?_;refine bL rfl rfl (Hl.le_refl _) ?_;unfold unl;exact ⟨_, rfl, _, RIs.append (RIs.two ⟨rfl, rfl, rfl, rfl, rfl, mJ _, mJ _⟩ (by rw [hj]; exact l5 _ _)) hv, rfl⟩
end Go.Proofs
end
section
namespace Go.Proofs
open Go Go.SL Go.Syn Go.Cmp
theorem aD2 {all tn : Bool} {t l : Tree} {ops : List Mach.Ins} {a h : List Nat} (hc : ¬ (all = tn ∧ fZ l = false)) : unlL all tn (.tcons t l) ops a h = unlL all tn l (unl t tn ops).1 (a ++ (unl t tn ops).2) h := by
 simp only [unlL]; rw [if_neg hc]
theorem aD3 {all tn : Bool} {t l : Tree} {ops : List Mach.Ins} {a h : List Nat} (hc : all = tn ∧ fZ l = false) : unlL all tn (.tcons t l) ops a h = unlL all tn l (unl t (!tn) ops).1 a (h ++ (unl t (!tn) ops).2) := by
 simp only [unlL]; rw [if_pos hc]
theorem aLL {t : Tree} (h : wf t 0 = true) : 1 ≤ cnt t := by
 cases t <;> simp only [wf, cnt] at h ⊢ <;> first | omega | (simp at h)
theorem aJ1 {K : Hl} : ∀ {l : Tree} {xs : List (Cell × Cell)}, wf l 1 = true → Rep K l xs → xs.length ≤ cnt l := by
 intro l;induction l with
 | tnil => intro xs _ h; cases (show xs = [] from h); simp
 | tcons t l ih1 ih2 =>
  rintro xs hw ⟨v, ys, h1, h2, rfl⟩;simp [wf] at hw;have := ih2 hw.2 h2;have := aLL hw.1;simp only [cnt, List.length_cons]; omega
 | _ => intro xs hw _; simp [wf] at hw
theorem aK6 (all : Bool) (l : Tree) (ih : UnlL l) : UnlS (.many all l) := by
  intro hw b tn ty u vs ops K hr hv hl;obtain ⟨xs, sv, hrl, hS, he⟩ := hr;obtain ⟨sa, sn, sc, rfl⟩ := hS.isSlice;cases he
  have hwl : wf l 1 = true := by simpa [wf] using hw
  have hxl := aJ1 hwl hrl;simp only [cnt] at hl;have hvl := hv.length;refine bA Tryz.func270 rfl Tryz.ntmps270 rfl rfl fun F w => ?_
  refine aI (aB ?_);refine aA (aF rfl) rfl ?_;refine aG (aE ?_);refine aI (aB ?_);refine aA (cJ tb41 jO (.cons rfl rfl rfl (.cons .nil) .nil)) rfl ?_;refine ol_s (cL tz41) rfl ?_;rintro _ K _ ⟨b7, rfl, rfl, rfl⟩ -;refine bP (cE fP rfl rfl rfl a7 (by first | (simp [Value.oneCell']; done) | exact fun c hc => El.one _ _ c hc) (.cons (.cons (.cons (.cons (.cons (.cons (.cons .nil))))))) (by intro j hj; simp)) ?_;rintro _ K _ ⟨rfl, rfl⟩ -;refine aG (aE ?_);refine iE (fun (j : Int) => j = if tn = true then 4 else 5) (fun _ => [(0, ptr b), (1, .iface 376 (.agg #[.bool all, .slice sa sn sc])), (2, .bool tn), (7, ptr b7)]) (fun _ => K) (fun j => [pt b7 (aU [i64 j, i64 0, i64 0, .bool false, .slice none 0 0, .slice none 0 0, i64 0] 41), cdr b vs]) ?_ ?_
  ·
    refine aI (aB ?_);refine aA (aC rfl) rfl ?_;refine aG (aE ?_);refine d6 19 rfl (fun h19 => ?_) (fun h19 => ?_)
    ·
      refine aB ?_;refine aA (aD (o' := 0) iM rfl rfl) rfl ?_;refine bP (bK ts3 rfl rfl cD a7 .zero rfl) ?_;rintro _ K _ ⟨rfl, rfl⟩ -;refine aG ?_;exact cA _ (by rw [h19]; rfl) (.cons 0 rfl (.cons 1 rfl (.cons 2 rfl (.cons 7 rfl .nil)))) rfl (fun _ h => h)
    ·
      refine aX ?_;exact cA _ (by rw [h19]; rfl) (.cons 0 rfl (.cons 1 rfl (.cons 2 rfl (.cons 7 rfl .nil)))) rfl (fun _ h => h)
  ·
    intro j hj;refine aI (aI ?_);refine aB ?_;refine aA (aC rfl) rfl ?_;refine aG (aE ?_);refine bC (aI ?_);refine aB ?_;refine aA (cZ Tryz.underlying293 (fun _ h => by cases h) rfl aCF rfl) rfl ?_;refine aA (aP rfl rfl) rfl ?_;refine aA (aP rfl rfl) rfl ?_;refine aG (aE ?_);refine cO rfl ?_;refine aI (aB ?_);refine aA (cZ Tryz.underlying289 (fun _ h => by cases h) rfl aFA rfl) rfl ?_;refine aA (aP rfl rfl) rfl ?_;refine aA (aP rfl rfl) rfl ?_;refine aG (aE ?_);refine cO rfl ?_;refine aI (aB ?_);refine aA (eP Tryz.underlying376 (fun _ h => by cases h) rfl) rfl ?_;refine aA (aP rfl rfl) rfl ?_;refine aA (aP rfl rfl) rfl ?_;refine aG (aE ?_);refine eK rfl ?_;refine aI (aB ?_);refine ol_s (cL aNN) rfl ?_;rintro _ K _ ⟨b10, rfl, rfl, rfl⟩ -;refine bP (cE zP rfl rfl rfl a7 (by first | (simp [Value.oneCell']; done) | exact fun c hc => El.one _ _ c hc) (.cons (.cons .nil)) (by intro j hj; simp)) ?_;rintro _ K _ ⟨rfl, rfl⟩ -;refine aG (aE ?_);refine aI (aB ?_);refine aA (aF rfl) rfl ?_;refine aA (aF rfl) rfl ?_;refine aG (aE ?_);refine aI (aI ?_);refine aB ?_;refine jF (d8 (iG 3)) ?_;refine jF (d8 (iG 3)) ?_;refine aA (aD (o' := 1) pQ rfl rfl) rfl ?_;refine aA (aK aE9 rfl aL rfl) rfl ?_;refine aA (bZ (k := (eJ 288)) rfl Tryz.underlying374 rfl aL) rfl ?_;refine aA (aC rfl) rfl ?_;refine aG (aE ?_);refine bC ?_;refine vV (.cons (.there (.there .here)) (.cons .here (.cons .here (.cons (.there .here) .nil)))) ?_;refine zM (fun (K2 : Hl) (i : Nat) (av hv2 : Value) (vs2 : List InsV) (aw he : List Nat) => K.le K2 ∧ i ≤ xs.length ∧ ∃ rest ops2, Rep K2 rest (xs.drop i) ∧ wf rest 1 = true ∧ UnlL rest ∧ RIs K2 vs2 ops2 ∧ unlL all tn l ops [] [] = unlL all tn rest ops2 aw he ∧ vs2.length + 2 * cnt rest ≤ 900000 ∧ aw.length + cnt rest ≤ 900000 ∧ he.length + cnt rest ≤ 900000) (fun _ i av hv2 _ _ _ => [(0, ptr b), (2, .bool tn), (10, ptr b10), (11, av), (12, hv2), (46, .slice sa sn sc), (47, i64 (xs.map Prod.fst).length), (48, i64 i)]) (fun K2 _ _ _ _ _ _ => K2) (fun _ _ av hv2 vs2 aw he => [pt b10 (aU [.bool all, .slice sa sn sc] 376), sl false (iG 3) av aw, sl false (iG 3) hv2 he, cdr b vs2]) (fun _ i _ _ _ _ _ => xs.length - i) K 0 _ _ vs [] [] ⟨Hl.le_refl _, Nat.zero_le _, l, ops, hrl, hwl, ih, hv, rfl, by omega, by simp; omega, by simp; omega⟩ (.cons 0 rfl (.cons 2 rfl (.cons 10 rfl (.cons 11 rfl (.cons 12 rfl (.cons 46 rfl (.cons 47 rfl (.cons 48 rfl .nil)))))))) rfl (fun _ h => h) ?_;intro K2 i av hv2 vs2 aw he ⟨leL, hi0, rest, ops2, hrr, hwr, ihr, hv2r, hx, hb1, hb2, hb3⟩;have hSl : Ksl (eJ 288) K2 (.slice sa sn sc) (xs.map Prod.fst) := hS.mono leL;have hml : (xs.map Prod.fst).length = xs.length := List.length_map _;refine aI (aB ?_);refine aA (cU rfl rfl) rfl ?_;refine aG (aE ?_);refine aI ?_;refine bH 49 rfl (fun h49 => ?_) (fun h49 => ?_)
    ·
      have hilt : i < xs.length := by omega
      obtain ⟨t1, l1, c, rfl, hrt, hrl1, hxi, hwt, hwl1⟩ := aG0 hwr hrr hilt;obtain ⟨⟨cv, hcv⟩, hc⟩ : ∃ c2, c = c2 := ⟨_, rfl⟩;subst hc;obtain ⟨ty2, u2, hce⟩ := sN (.inl hwt) hrt;cases hce
      have hget : (xs.map Prod.fst)[i]? = some ⟨.iface ty2 u2, hcv⟩ := (by rw [List.getElem?_map, hxi]; rfl);simp only [cnt] at hb1 hb2 hb3;have hun := (uA t1).1;have hnil := aJ3 hwl1 hrl1;have hdl : (xs.drop (i + 1)).length = xs.length - (i + 1) := List.length_drop;have hv2l := hv2r.length;refine aX ?_;refine aE (aI ?_);refine bC (aI ?_);refine aB ?_;refine aA (aC rfl) rfl ?_;refine aA (bU (k := (eJ 288)) o4 rfl aL rfl rfl (by first | assumption | omega)) rfl ?_;refine aA (dQ (o := 0) (k := (eJ 288)) aCE rfl aL bQ rfl) rfl ?_;refine aA (aF rfl) rfl ?_;refine aA (aF rfl) rfl ?_;refine aG (aE ?_);refine bC (aI ?_);refine aB ?_;refine aA (aD (o' := 0) aHZ rfl rfl) rfl ?_;refine aA (aK ts4 rfl aL rfl) rfl ?_;refine aA (aC rfl) rfl ?_;refine aA (aEP Tryz.underlying4 rfl rfl) rfl ?_;refine aA (aF rfl) rfl ?_;refine aG (aE ?_);refine d6 59 rfl (fun h59 => ?_) (fun h59 => ?_)
      ·
        refine aB ?_;refine aA (aC rfl) rfl ?_;refine aA (aC rfl) rfl ?_;refine aA (aC rfl) rfl ?_;refine aA (aC rfl) rfl ?_;refine bD rfl rfl (ihr.1 hwt b tn ty2 u2 vs2 ops2 _ hrt hv2r aH) (.cons (.there (.there (.there .here))) .nil) rfl ?_;rintro pv K3 _ ⟨vs3, hv3, rfl⟩ leM;have hu := hun tn ops2;refine ol_s (dJ (k := (iG 3)) (ys := (unl t1 tn ops2).2) nX rfl rfl (.there (.there (.there .here))) (fun w j => dB Tryz.underlying55 (SeesSl.at (k := iG 3) (.own .here) j)) (by first | (simp; omega) | omega) (by first | (simp; omega) | omega)) rfl ?_;rintro v69 K _ ⟨rfl, rfl, ho69⟩ -;refine aA (aF rfl) rfl ?_;refine aG (aM ?_);refine aM (aE ?_);refine aB ?_;refine aA (b0 rfl rfl aH aH) rfl ?_;refine aA (aC rfl) rfl ?_;refine aG ?_
        first
          | (have hcc : ¬ (all = tn ∧ fZ l1 = false) := (by first | exact (fun h => (show ¬ all = tn from by simpa using h59) h.1) | exact (fun h => by have := hnil.1 h.2; omega))
             refine aN (.cons (.there (.there (.there .here))) (.cons .here (.cons (.there (.there .here)) (.cons (.there .here) .nil)))) ?_;refine gY _ (i + 1) _ hv2 vs3 (aw ++ (unl t1 tn ops2).2) he ⟨Hl.le_trans leL leM, by omega, l1, _, hrl1.mono leM, hwl1, ihr.2, hv3, by rw [hx, aD2 hcc], by have := hv3.length; omega, by rw [List.length_append]; omega, by omega⟩ aH (.cons 0 rfl (.cons 2 rfl (.cons 10 rfl (.cons 11 rfl (.cons 12 rfl (.cons 46 rfl (.cons 47 rfl (.cons 48 rfl .nil)))))))) rfl bI)
          | (have hcc : all = tn ∧ fZ l1 = false := ⟨by simpa using h59, hnil.2 aH⟩
             refine aN (.cons (.there (.there (.there .here))) (.cons (.there (.there (.there .here))) (.cons .here (.cons (.there .here) .nil)))) ?_;refine gY _ (i + 1) av _ vs3 aw (he ++ (unl t1 (!tn) ops2).2) ⟨Hl.le_trans leL leM, by omega, l1, _, hrl1.mono leM, hwl1, ihr.2, hv3, by rw [hx, aD3 hcc], by have := hv3.length; omega, by omega, by rw [List.length_append]; omega⟩ aH (.cons 0 rfl (.cons 2 rfl (.cons 10 rfl (.cons 11 rfl (.cons 12 rfl (.cons 46 rfl (.cons 47 rfl (.cons 48 rfl .nil)))))))) rfl bI)
      ·
        refine aI (aB ?_);refine aA (aC rfl) rfl ?_;refine aA (aD (o' := 1) pQ rfl rfl) rfl ?_;refine aA (aK aE9 rfl aL rfl) rfl ?_;refine aA (bZ (k := (eJ 288)) rfl Tryz.underlying374 rfl aL) rfl ?_;refine aA (nP rfl rfl aH aH) rfl ?_;refine aA (cU rfl rfl) rfl ?_;refine aA (aF rfl) rfl ?_;refine aG (aE ?_);refine bH 70 rfl (fun h70 => ?_) (fun h70 => ?_)
        ·
          refine aB ?_;refine aA (aC rfl) rfl ?_;refine aA (aC rfl) rfl ?_;refine aA (aC rfl) rfl ?_;refine aA (aC rfl) rfl ?_;refine aA (by first | exact dM rfl | exact dW rfl) rfl ?_;refine bD rfl rfl (ihr.1 hwt b (!tn) ty2 u2 vs2 ops2 _ hrt hv2r aH) (.cons (.there (.there (.there .here))) .nil) rfl ?_;rintro pv K3 _ ⟨vs3, hv3, rfl⟩ leM;have hu := hun (!tn) ops2;refine ol_s (dJ (k := (iG 3)) (ys := (unl t1 (!tn) ops2).2) nX rfl rfl (.there (.there (.there (.there .here)))) (fun w j => dB Tryz.underlying55 (SeesSl.at (k := iG 3) (.own .here) j)) (by first | (simp; omega) | omega) (by first | (simp; omega) | omega)) rfl ?_;rintro v83 K _ ⟨rfl, rfl, ho83⟩ -;refine aA (aF rfl) rfl ?_;refine aG (aM ?_);refine aM (aE ?_);refine aB ?_;refine aA (b0 rfl rfl aH aH) rfl ?_;refine aA (aC rfl) rfl ?_;refine aG ?_
          first
            | (have hcc : ¬ (all = tn ∧ fZ l1 = false) := (by first | exact (fun h => (show ¬ all = tn from by simpa using h59) h.1) | exact (fun h => by have := hnil.1 h.2; omega))
               refine aN (.cons (.there (.there (.there .here))) (.cons .here (.cons (.there (.there .here)) (.cons (.there .here) .nil)))) ?_;refine gY _ (i + 1) _ hv2 vs3 (aw ++ (unl t1 tn ops2).2) he ⟨Hl.le_trans leL leM, by omega, l1, _, hrl1.mono leM, hwl1, ihr.2, hv3, by rw [hx, aD2 hcc], by have := hv3.length; omega, by rw [List.length_append]; omega, by omega⟩ aH (.cons 0 rfl (.cons 2 rfl (.cons 10 rfl (.cons 11 rfl (.cons 12 rfl (.cons 46 rfl (.cons 47 rfl (.cons 48 rfl .nil)))))))) rfl bI)
            | (have hcc : all = tn ∧ fZ l1 = false := ⟨by simpa using h59, hnil.2 aH⟩
               refine aN (.cons (.there (.there (.there .here))) (.cons (.there (.there (.there .here))) (.cons .here (.cons (.there .here) .nil)))) ?_;refine gY _ (i + 1) av _ vs3 aw (he ++ (unl t1 (!tn) ops2).2) ⟨Hl.le_trans leL leM, by omega, l1, _, hrl1.mono leM, hwl1, ihr.2, hv3, by rw [hx, aD3 hcc], by have := hv3.length; omega, by omega, by rw [List.length_append]; omega⟩ aH (.cons 0 rfl (.cons 2 rfl (.cons 10 rfl (.cons 11 rfl (.cons 12 rfl (.cons 46 rfl (.cons 47 rfl (.cons 48 rfl .nil)))))))) rfl bI)
        ·
          refine aB ?_;refine aA (aC rfl) rfl ?_;refine aA (aC rfl) rfl ?_;refine aA (aC rfl) rfl ?_;refine aA (aC rfl) rfl ?_;refine bD rfl rfl (ihr.1 hwt b tn ty2 u2 vs2 ops2 _ hrt hv2r aH) (.cons (.there (.there (.there .here))) .nil) rfl ?_;rintro pv K3 _ ⟨vs3, hv3, rfl⟩ leM;have hu := hun tn ops2;refine ol_s (dJ (k := (iG 3)) (ys := (unl t1 tn ops2).2) nX rfl rfl (.there (.there (.there .here))) (fun w j => dB Tryz.underlying55 (SeesSl.at (k := iG 3) (.own .here) j)) (by first | (simp; omega) | omega) (by first | (simp; omega) | omega)) rfl ?_;rintro v58 K _ ⟨rfl, rfl, ho58⟩ -;refine aA (aF rfl) rfl ?_;refine aG (aM ?_);refine aM (aE ?_);refine aB ?_;refine aA (b0 rfl rfl aH aH) rfl ?_;refine aA (aC rfl) rfl ?_;refine aG ?_
          first
            | (have hcc : ¬ (all = tn ∧ fZ l1 = false) := (by first | exact (fun h => (show ¬ all = tn from by simpa using h59) h.1) | exact (fun h => by have := hnil.1 h.2; omega))
               refine aN (.cons (.there (.there (.there .here))) (.cons .here (.cons (.there (.there .here)) (.cons (.there .here) .nil)))) ?_;refine gY _ (i + 1) _ hv2 vs3 (aw ++ (unl t1 tn ops2).2) he ⟨Hl.le_trans leL leM, by omega, l1, _, hrl1.mono leM, hwl1, ihr.2, hv3, by rw [hx, aD2 hcc], by have := hv3.length; omega, by rw [List.length_append]; omega, by omega⟩ aH (.cons 0 rfl (.cons 2 rfl (.cons 10 rfl (.cons 11 rfl (.cons 12 rfl (.cons 46 rfl (.cons 47 rfl (.cons 48 rfl .nil)))))))) rfl bI)
            | (have hcc : all = tn ∧ fZ l1 = false := ⟨by simpa using h59, hnil.2 aH⟩
               refine aN (.cons (.there (.there (.there .here))) (.cons (.there (.there (.there .here))) (.cons .here (.cons (.there .here) .nil)))) ?_;refine gY _ (i + 1) av _ vs3 aw (he ++ (unl t1 (!tn) ops2).2) ⟨Hl.le_trans leL leM, by omega, l1, _, hrl1.mono leM, hwl1, ihr.2, hv3, by rw [hx, aD3 hcc], by have := hv3.length; omega, by omega, by rw [List.length_append]; omega⟩ aH (.cons 0 rfl (.cons 2 rfl (.cons 10 rfl (.cons 11 rfl (.cons 12 rfl (.cons 46 rfl (.cons 47 rfl (.cons 48 rfl .nil)))))))) rfl bI)
    ·
      have hend : unlL all tn l ops [] [] = (ops2, aw, he) := (by rw [hx]; exact aJY hwr hrr (List.drop_eq_nil_of_le aH));have hpl := ((uA l).2 all tn ops [] [] (by simp) (by simp));rw [hend] at hpl;simp only [List.length_nil] at hpl;have hv2l := hv2r.length;refine cR ?_;refine aT ?_;refine aT ?_;refine bG ?_;refine aE (aI ?_);refine aB ?_;refine aA (aC rfl) rfl ?_;refine aA (aC rfl) rfl ?_;refine bD rfl rfl (mY b hv2 vs2 he _ aH aH (fun k hk => by have := hpl.2.2.2.2.2 k hk; omega)) (.cons (.there (.there (.there .here))) (.cons (.there (.there .here)) .nil)) rfl ?_;rintro _ K _ ⟨rfl, rfl, rfl⟩ -;refine aG (aE ?_);refine aI (aB ?_);refine aA (aC rfl) rfl ?_;refine aA (aF rfl) rfl ?_;refine aG (aE ?_);refine bM ?_;refine bR ?_;refine bF ?_;refine aN (.cons (.there (.there .here)) (.cons .here .nil)) ?_;refine bL rfl rfl leL ?_;have e : unl (.many all l) tn ops = (land ops2 he, aw) := (by simp only [unl, hend]);rw [e];exact ⟨_, rfl, _, hv2r.land, rfl⟩
theorem aMS : ∀ (t : Tree), UnlS t ∧ UnlL t := by
 intro t;induction t with
 | const p => exact ⟨aH3 p, trivial⟩
 | not_ t ih => exact ⟨aMW t ih.1, trivial⟩
 | many all l ih => exact ⟨aK6 all l ih.2, trivial⟩
 | mat tag oct op a b => exact ⟨aMV tag oct op a b, trivial⟩
 | exi a => exact ⟨aMT a, trivial⟩
 | siz tag n => exact ⟨aMX tag n, trivial⟩
 | tcons t l ih1 ih2 => exact ⟨fun h => by simp [wf] at h, ih1.1, ih2.2⟩
 | _ => exact ⟨fun h => by simp [wf] at h, trivial⟩
end Go.Proofs
end
section
namespace Go.Proofs
open Go Go.SL Go.Syn Go.Cmp
theorem aGX {K : Hl} {rest : Tree} {xs : List (Cell × Cell)} {i : Nat} (hw : wf rest 3 = true) (hr : Rep K rest (xs.drop i)) (hi : i < xs.length) :
  ∃ t l c, rest = .ccons t l ∧ Rep K t [(c, u0)] ∧ Rep K l (xs.drop (i + 1)) ∧ xs[i]? = some (c, u0) ∧ wf t 2 = true ∧ wf l 3 = true := by
 have hd : xs.drop i ≠ [] := by intro h; have := congrArg List.length h; simp at this; omega
 cases rest <;> simp only [wf, Rep] at hw hr
 case cnil => exact absurd hr hd
 case ccons t l =>
  obtain ⟨c, ys, h1, h2, h3⟩ := hr;simp at hw;have e : xs.drop (i + 1) = ys := by rw [← List.drop_drop, h3]; rfl
  refine ⟨t, l, c, rfl, h1, by rw [e]; exact h2, ?_, hw.1, hw.2⟩
  have := List.getElem?_drop (xs := xs) (i := i) (j := 0);rw [h3] at this; simpa using this.symm
 all_goals simp at hw
theorem aJX {K : Hl} {rest : Tree} {ys : List (Cell × Cell)} (hw : wf rest 3 = true) (hr : Rep K rest ys) (he : ys = []) {ops : List Mach.Ins} : body rest ops = ops := by
 cases rest <;> simp only [wf, Rep] at hw hr
 case cnil => simp [body]
 case ccons t l => obtain ⟨c, zs, _, _, rfl⟩ := hr; cases he
 all_goals simp at hw
theorem aL7 {K : Hl} {c : Tree} {ty : TypeId} {u : Value} {hc : (Value.iface ty u).oneCell' = true} (hw : wf c 2 = true) (h : Rep K c [(⟨.iface ty u, hc⟩, u0)]) :
  (∃ op, c = .plain op ∧ ty = 285 ∧ u = .agg #[i64 op]) ∨ (∃ k a p, c = .act k a p ∧ ty = 282 ∧ u = .agg #[i64 k, str a, i64 p]) ∨ (∃ n v t, c = .set_ n v t ∧ ty = 308 ∧ u = .agg #[str n, str v, i64 t]) ∨
  (∃ bs ys sa sn sc, c = .iff bs ∧ ty = 311 ∧ u = .agg #[.slice sa sn sc] ∧ Rep K bs ys ∧ Ksl (gU 371) K (.slice sa sn sc) ys ∧ wf bs 4 = true) := by
 cases c <;> simp only [wf, Rep] at hw h
 case plain op => cases h; exact .inl ⟨op, rfl, rfl, rfl⟩
 case act k a p => cases h; exact .inr (.inl ⟨k, a, p, rfl, rfl, rfl⟩)
 case set_ n v t => cases h; exact .inr (.inr (.inl ⟨n, v, t, rfl, rfl, rfl⟩))
 case iff bs =>
  obtain ⟨ys, sv, h1, h2, h3⟩ := h;obtain ⟨sa, sn, sc, rfl⟩ := h2.isSlice;cases h3
  exact .inr (.inr (.inr ⟨bs, ys, sa, sn, sc, rfl, rfl, rfl, h1, h2, by simpa using hw⟩))
 all_goals simp at hw
theorem RIs.one_ {K : Hl} {x : InsV} {o : Mach.Ins} (h1 : RIns K x o) : RIs K [x] [o] := ⟨h1, trivial⟩
abbrev aM1 (b : Nat) (r : List Mach.Ins) : Ending → Hl → List Asn → Prop := Ret fun v K' L' => v = .tuple #[] ∧ ∃ vs', RIs K' vs' r ∧ L' = [cdr b vs']
def aEG (l : Tree) : Prop := wf l 3 = true → ∀ (b : Nat) (sv : Value) (xs : List (Cell × Cell)) (vs : List InsV) (ops : List Mach.Ins) (K : Hl), Rep K l xs → Ksl (eJ 224) K sv (xs.map Prod.fst) → RIs K vs ops → vs.length + 2 * cnt l ≤ 900000 → Sp Tryz.prog 107 [ptr b, sv] K [cdr b vs] (aM1 b (body l ops))
def BrS (l : Tree) : Prop := wf l 4 = true → ∀ (b : Nat) (sa : Option Addr) (sn sc : Nat) (xs : List (Cell × Cell)) (vs : List InsV) (ops : List Mach.Ins) (K : Hl), Rep K l xs → Ksl (gU 371) K (.slice sa sn sc) xs → RIs K vs ops → vs.length + 2 * cnt l ≤ 900000 → Sp Tryz.prog 194 [ptr b, .agg #[.slice sa sn sc]] K [cdr b vs] (aM1 b (cY l ops []))
def aM2 : Tree → Prop
 | .iff bs => BrS bs
 | _ => True
def aEF : Tree → Prop
 | .ccons c l => aM2 c ∧ aEF l
 | _ => True
theorem aIK {t : Tree} (h : wf t 2 = true) : 1 ≤ cnt t := by
 cases t <;> simp only [wf, cnt] at h ⊢ <;> first | omega | (simp at h)
theorem aJ0 {K : Hl} : ∀ {l : Tree} {xs : List (Cell × Cell)}, wf l 3 = true → Rep K l xs → xs.length ≤ cnt l := by
 intro l;induction l with
 | cnil => intro xs _ h; cases (show xs = [] from h); simp
 | ccons t l ih1 ih2 =>
  rintro xs hw ⟨v, ys, h1, h2, rfl⟩;simp [wf] at hw;have := ih2 hw.2 h2;have := aIK hw.1;simp only [cnt, List.length_cons]; omega
 | _ => intro xs hw _; simp [wf] at hw
theorem aAI (l : Tree) (ih : aEF l) : aEG l := by
 intro hw b sv xs vs ops K hr hS hv hl;have hxl := aJ0 hw hr;refine bA Tryz.func107 rfl Tryz.ntmps107 rfl rfl fun F w => ?_
 have hml : (xs.map Prod.fst).length = xs.length := List.length_map _;refine aI (aB ?_);refine aA (aC rfl) rfl ?_;refine aA (bZ (k := (eJ 224)) rfl Tryz.underlying135 rfl aL) rfl ?_;refine aA (aC rfl) rfl ?_;refine aG (aE ?_);refine bC ?_;refine tX (fun (K2 : Hl) (i : Nat) (vs2 : List InsV) => K.le K2 ∧ i ≤ xs.length ∧ ∃ rest ops2, Rep K2 rest (xs.drop i) ∧ wf rest 3 = true ∧ aEF rest ∧ RIs K2 vs2 ops2 ∧ body l ops = body rest ops2 ∧ vs2.length + 2 * cnt rest ≤ 900000) (fun _ i _ => [(0, ptr b), (11, sv), (12, i64 (xs.map Prod.fst).length), (13, i64 i)]) (fun K2 _ _ => K2) (fun _ _ vs2 => [cdr b vs2]) (fun _ i _ => xs.length - i) K 0 vs ⟨Hl.le_refl _, Nat.zero_le _, l, ops, hr, hw, ih, hv, rfl, hl⟩ (.cons 0 rfl (.cons 11 rfl (.cons 12 rfl (.cons 13 rfl .nil)))) rfl (fun _ h => h) ?_;intro K2 i vs2 ⟨leL, hi0, rest, ops2, hrr, hwr, ihr, hv2, hx, hb⟩;have hSl : Ksl (eJ 224) K2 sv (xs.map Prod.fst) := hS.mono leL;have hv2l := hv2.length;refine aI (aB ?_);refine aA (cU rfl rfl) rfl ?_;refine aG (aE ?_);refine aI ?_;refine bH 14 rfl (fun h14 => ?_) (fun h14 => ?_)
 ·
  have hilt : i < xs.length := by omega
  obtain ⟨c, l1, cc, rfl, hrt, hrl1, hxi, hwt, hwl1⟩ := aGX hwr hrr hilt;obtain ⟨⟨cv, hcv⟩, hc⟩ : ∃ c2, cc = c2 := ⟨_, rfl⟩;subst hc;obtain ⟨ty2, u2, hce⟩ := sN (.inr hwt) hrt;cases hce
  have hget : (xs.map Prod.fst)[i]? = some ⟨.iface ty2 u2, hcv⟩ := (by rw [List.getElem?_map, hxi]; rfl);simp only [cnt] at hb;have hcl := (q9 c).2.1 ops2;refine aX ?_;refine aE (aI ?_);refine bC (aI ?_);refine aB ?_;refine aA (bU (k := (eJ 224)) tK rfl aL rfl rfl (by first | assumption | omega)) rfl ?_;refine aA (dQ (o := 0) (k := (eJ 224)) aQF rfl aL bQ rfl) rfl ?_;refine aA (aF rfl) rfl ?_;refine aG (aE ?_);rcases aL7 hwt hrt with ⟨op, rfl, rfl, rfl⟩ | ⟨k, a, p, rfl, rfl, rfl⟩ | ⟨n, v, t, rfl, rfl, rfl⟩ | ⟨bs, ys, sa, sn, sc, rfl, rfl, rfl, hrb, hSb, hwb⟩
  ·
   refine aI (aB ?_);refine aA (aC rfl) rfl ?_;refine aG (aE ?_);refine bC (aI ?_);refine aB ?_;refine aA (eP Tryz.underlying285 (fun _ h => by cases h) rfl) rfl ?_;refine aA (aP rfl rfl) rfl ?_;refine aA (aP rfl rfl) rfl ?_;refine aG (aE ?_);refine eK rfl ?_;refine aI (aB ?_);refine ol_s (cL aQQ) rfl ?_;rintro _ K _ ⟨b6, rfl, rfl, rfl⟩ -;refine bP (cE aML rfl rfl rfl a7 (by first | (simp [Value.oneCell']; done) | exact fun c hc => El.one _ _ c hc) (.cons .nil) (by intro j hj; simp)) ?_;rintro _ K _ ⟨rfl, rfl⟩ -;refine aG (aE ?_);refine aB ?_;refine aA (aC rfl) rfl ?_;refine aA (aD (o' := 0) aHU rfl rfl) rfl ?_;refine aA (aK ts3 rfl aL rfl) rfl ?_;refine aA (cJ tb41 jO (.cons rfl rfl rfl (.cons .nil) .nil)) rfl ?_;refine ol_s (bN (z0 := [.int .i64 0, .int .i64 0, .int .i64 0, .bool false, .slice none 0 0, .slice none 0 0, .int .i64 0]) dR tz41 rfl rfl rfl rfl (.cons rfl rfl rfl (.cons (.cons (.cons (.cons (.cons (.cons (.cons .nil))))))) .nil)) rfl ?_;rintro _ K _ ⟨b25, rfl, rfl, rfl⟩ -;refine bD rfl rfl (iQ b b25 vs2 [jmpV op] _ _ rfl (by simp only [cnt] at hb; simp; omega)) (.cons (.there (.there .here)) (.cons .here .nil)) rfl ?_;rintro _ K _ ⟨rfl, rfl, rfl⟩ -;have hv3 : RIs _ _ (cmdI (.plain op) ops2) := RIs.append (ws := [jmpV op]) (ps := [jmp op]) ⟨l5 _ _, trivial⟩ hv2;have leM := Hl.le_refl K;refine aG (aM ?_);refine aM (aE ?_);refine aB ?_;refine aA (b0 rfl rfl aH aH) rfl ?_;refine aA (aC rfl) rfl ?_;refine aG ?_;refine aN (.cons .here .nil) ?_;refine iJ _ (i + 1) _ ⟨Hl.le_trans leL leM, by omega, l1, _, hrl1.mono leM, hwl1, ihr.2, hv3, by rw [hx]; simp only [body, cmdI], by have := hv3.length; simp only [cmdI] at this hcl; omega⟩ aH (.cons 0 rfl (.cons 11 rfl (.cons 12 rfl (.cons 13 rfl .nil)))) rfl bI
  ·
   refine aI (aB ?_);refine aA (aC rfl) rfl ?_;refine aG (aE ?_);refine bC (aI ?_);refine aB ?_;refine aA (cZ Tryz.underlying285 (fun _ h => by cases h) rfl aKZ rfl) rfl ?_;refine aA (aP rfl rfl) rfl ?_;refine aA (aP rfl rfl) rfl ?_;refine aG (aE ?_);refine cO rfl ?_;refine aI (aB ?_);refine aA (eP Tryz.underlying282 (fun _ h => by cases h) rfl) rfl ?_;refine aA (aP rfl rfl) rfl ?_;refine aA (aP rfl rfl) rfl ?_;refine aG (aE ?_);refine eK rfl ?_;refine aI (aB ?_);refine ol_s (cL aQP) rfl ?_;rintro _ K _ ⟨b7, rfl, rfl, rfl⟩ -;refine bP (cE aMK rfl rfl rfl a7 (by first | (simp [Value.oneCell']; done) | exact fun c hc => El.one _ _ c hc) (.cons (.cons (.cons .nil))) (by intro j hj; simp)) ?_;rintro _ K _ ⟨rfl, rfl⟩ -;refine aG (aE ?_);refine aI (aB ?_);refine aA (aD (o' := 0) xP rfl rfl) rfl ?_;refine aA (aK ts3 rfl aL rfl) rfl ?_;refine aA (aD (o' := 2) aHT rfl rfl) rfl ?_;refine aA (aK ts3 rfl aL rfl) rfl ?_;refine aA (cJ tb41 jO (.cons rfl rfl rfl (.cons .nil) (.cons rfl rfl rfl (.skip (.skip (.cons .nil))) (.cons rfl rfl rfl (.skip (.skip (.skip (.skip (.skip (.skip (.cons .nil))))))) .nil)))) rfl ?_;refine ol_s (cL tz41) rfl ?_;rintro _ K _ ⟨b8, rfl, rfl, rfl⟩ -;refine bP (cE fP rfl rfl rfl a7 (by first | (simp [Value.oneCell']; done) | exact fun c hc => El.one _ _ c hc) (.cons (.cons (.cons (.cons (.cons (.cons (.cons .nil))))))) (by intro j hj; simp)) ?_;rintro _ K _ ⟨rfl, rfl⟩ -;refine aG (aE ?_);refine aI (aI ?_);refine aB ?_;refine aA (aD (o' := 0) xP rfl rfl) rfl ?_;refine aA (aK ts3 rfl aL rfl) rfl ?_;refine aA (fF rfl rfl) rfl ?_;refine aG (aE ?_);refine bH 37 rfl (fun h37 => ?_) (fun h37 => ?_)
   ·
    refine aB ?_;refine aA (aD (o' := 1) aHS rfl rfl) rfl ?_;refine aA (aK ts9 rfl aL rfl) rfl ?_;refine ol_s (bN (z0 := [(str [])]) cQ tz9 rfl rfl rfl rfl (.cons rfl rfl rfl (.cons .nil) .nil)) rfl ?_;rintro _ K _ ⟨b40, rfl, rfl, rfl⟩ -;refine e7 fun K3 leM hb40 => ?_
    refine aA (aD (o' := 4) eY rfl rfl) rfl ?_;refine bP (bK ts39 rfl rfl cD a7 (.succ (.succ (.succ (.succ .zero)))) rfl) ?_;rintro _ K _ ⟨rfl, rfl⟩ -;refine aG (aE ?_);refine aB ?_;refine aA (aC rfl) rfl ?_;refine aA (bT fP rfl aL rfl rfl) rfl ?_;refine ol_s (bN (z0 := [.int .i64 0, .int .i64 0, .int .i64 0, .bool false, .slice none 0 0, .slice none 0 0, .int .i64 0]) dR tz41 rfl rfl rfl rfl (.cons rfl rfl rfl (.cons (.cons (.cons (.cons (.cons (.cons (.cons .nil))))))) .nil)) rfl ?_;rintro _ K _ ⟨b44, rfl, rfl, rfl⟩ -;refine bD rfl rfl (iQ b b44 vs2 [⟨11, 0, k, false, ⟨.slice (some ⟨b40, 0, none⟩) 1 1, rfl⟩, nilC, p⟩] _ _ rfl (by simp only [cnt] at hb; simp; omega)) (.cons (.there (.there (.there .here))) (.cons .here .nil)) rfl ?_;rintro _ K _ ⟨rfl, rfl, rfl⟩ -;have hv3 : RIs _ _ (cmdI (.act k a p) ops2) := (by simp only [cmdI]; rw [if_neg h37]; exact RIs.append (RIs.one_ (x := ⟨11, 0, k, false, ⟨.slice (some ⟨b40, 0, none⟩) 1 1, rfl⟩, nilC, p⟩) ⟨rfl, rfl, rfl, rfl, rfl, .inr ⟨b40, 0, 1, [str a], (0, 0), rfl, ⟨_, hb40⟩, rfl⟩, mJ _⟩) (hv2.mono leM));refine aG (aM ?_);refine aM (aE ?_);refine aB ?_;refine aA (b0 rfl rfl aH aH) rfl ?_;refine aA (aC rfl) rfl ?_;refine aG ?_;refine aN (.cons .here .nil) ?_;refine iJ _ (i + 1) _ ⟨Hl.le_trans leL leM, by omega, l1, _, hrl1.mono leM, hwl1, ihr.2, hv3, by rw [hx]; simp only [body, cmdI], by have := hv3.length; simp only [cmdI] at this hcl; omega⟩ aH (.cons 0 rfl (.cons 11 rfl (.cons 12 rfl (.cons 13 rfl .nil)))) rfl bI
   ·
    refine aX ?_;refine aE (aB ?_);refine aA (aC rfl) rfl ?_;refine aA (bT fP rfl aL rfl rfl) rfl ?_;refine ol_s (bN (z0 := [.int .i64 0, .int .i64 0, .int .i64 0, .bool false, .slice none 0 0, .slice none 0 0, .int .i64 0]) dR tz41 rfl rfl rfl rfl (.cons rfl rfl rfl (.cons (.cons (.cons (.cons (.cons (.cons (.cons .nil))))))) .nil)) rfl ?_;rintro _ K _ ⟨b44, rfl, rfl, rfl⟩ -;refine bD rfl rfl (iQ b b44 vs2 [⟨11, 0, k, false, nilC, nilC, p⟩] _ _ rfl (by simp only [cnt] at hb; simp; omega)) (.cons (.there (.there (.there .here))) (.cons .here .nil)) rfl ?_;rintro _ K _ ⟨rfl, rfl, rfl⟩ -;have leM := Hl.le_refl K;have hv3 : RIs _ _ (cmdI (.act k a p) ops2) := (by simp only [cmdI]; rw [if_pos (Classical.not_not.1 h37)]; exact RIs.append (RIs.one_ (x := ⟨11, 0, k, false, nilC, nilC, p⟩) ⟨rfl, rfl, rfl, rfl, rfl, mJ _, mJ _⟩) hv2);refine aG (aM ?_);refine aM (aE ?_);refine aB ?_;refine aA (b0 rfl rfl aH aH) rfl ?_;refine aA (aC rfl) rfl ?_;refine aG ?_;refine aN (.cons .here .nil) ?_;refine iJ _ (i + 1) _ ⟨Hl.le_trans leL leM, by omega, l1, _, hrl1.mono leM, hwl1, ihr.2, hv3, by rw [hx]; simp only [body, cmdI], by have := hv3.length; simp only [cmdI] at this hcl; omega⟩ aH (.cons 0 rfl (.cons 11 rfl (.cons 12 rfl (.cons 13 rfl .nil)))) rfl bI
  ·
   refine aI (aB ?_);refine aA (aC rfl) rfl ?_;refine aG (aE ?_);refine bC (aI ?_);refine aB ?_;refine aA (cZ Tryz.underlying285 (fun _ h => by cases h) rfl aKZ rfl) rfl ?_;refine aA (aP rfl rfl) rfl ?_;refine aA (aP rfl rfl) rfl ?_;refine aG (aE ?_);refine cO rfl ?_;refine aI (aB ?_);refine aA (cZ Tryz.underlying282 (fun _ h => by cases h) rfl aNG rfl) rfl ?_;refine aA (aP rfl rfl) rfl ?_;refine aA (aP rfl rfl) rfl ?_;refine aG (aE ?_);refine cO rfl ?_;refine aI (aB ?_);refine aA (eP Tryz.underlying308 (fun _ h => by cases h) rfl) rfl ?_;refine aA (aP rfl rfl) rfl ?_;refine aA (aP rfl rfl) rfl ?_;refine aG (aE ?_);refine eK rfl ?_;refine aI (aB ?_);refine ol_s (cL aNL) rfl ?_;rintro _ K _ ⟨b9, rfl, rfl, rfl⟩ -;refine bP (cE zO rfl rfl rfl a7 (by first | (simp [Value.oneCell']; done) | exact fun c hc => El.one _ _ c hc) (.cons (.cons (.cons .nil))) (by intro j hj; simp)) ?_;rintro _ K _ ⟨rfl, rfl⟩ -;refine aG (aE ?_);refine aB ?_;refine aA (aC rfl) rfl ?_;refine aA (aD (o' := 2) sW rfl rfl) rfl ?_;refine aA (aK ts3 rfl aL rfl) rfl ?_;refine aA (aD (o' := 0) xQ rfl rfl) rfl ?_;refine aA (aK ts9 rfl aL rfl) rfl ?_;refine ol_s (bN (z0 := [(str [])]) cQ tz9 rfl rfl rfl rfl (.cons rfl rfl rfl (.cons .nil) .nil)) rfl ?_;rintro _ K _ ⟨b54, rfl, rfl, rfl⟩ -;refine aA (aD (o' := 1) xR rfl rfl) rfl ?_;refine aA (aK ts9 rfl aL rfl) rfl ?_;refine ol_s (bN (z0 := [(str [])]) cQ tz9 rfl rfl rfl rfl (.cons rfl rfl rfl (.cons .nil) .nil)) rfl ?_;rintro _ K _ ⟨b57, rfl, rfl, rfl⟩ -;refine e7 fun K3 leM1 hb57 => ?_
   refine e7 fun K4 leM2 hb54 => ?_
   have leM := Hl.le_trans leM1 leM2;have hb57 := leM2 _ _ hb57;refine aA (cJ tb41 jO (.cons rfl rfl rfl (.cons .nil) (.cons rfl rfl rfl (.skip (.skip (.cons .nil))) (.cons rfl rfl rfl (.skip (.skip (.skip (.skip (.cons .nil))))) (.cons rfl rfl rfl (.skip (.skip (.skip (.skip (.skip (.cons .nil)))))) .nil))))) rfl ?_;refine ol_s (bN (z0 := [.int .i64 0, .int .i64 0, .int .i64 0, .bool false, .slice none 0 0, .slice none 0 0, .int .i64 0]) dR tz41 rfl rfl rfl rfl (.cons rfl rfl rfl (.cons (.cons (.cons (.cons (.cons (.cons (.cons .nil))))))) .nil)) rfl ?_;rintro _ K _ ⟨b59, rfl, rfl, rfl⟩ -;refine bD rfl rfl (iQ b b59 vs2 [⟨12, 0, t, false, ⟨.slice (some ⟨b54, 0, none⟩) 1 1, rfl⟩, ⟨.slice (some ⟨b57, 0, none⟩) 1 1, rfl⟩, 0⟩] _ _ rfl (by simp only [cnt] at hb; simp; omega)) (.cons (.there (.there .here)) (.cons .here .nil)) rfl ?_;rintro _ K _ ⟨rfl, rfl, rfl⟩ -;have hv3 : RIs _ _ (cmdI (.set_ n v t) ops2) := RIs.append (RIs.one_ (x := ⟨12, 0, t, false, ⟨.slice (some ⟨b54, 0, none⟩) 1 1, rfl⟩, ⟨.slice (some ⟨b57, 0, none⟩) 1 1, rfl⟩, 0⟩) ⟨rfl, rfl, rfl, rfl, rfl, .inr ⟨b54, 0, 1, [str n], (0, 0), rfl, ⟨_, hb54⟩, rfl⟩, .inr ⟨b57, 0, 1, [str v], (0, 0), rfl, ⟨_, hb57⟩, rfl⟩⟩) (hv2.mono leM);refine aG (aM ?_);refine aM (aE ?_);refine aB ?_;refine aA (b0 rfl rfl aH aH) rfl ?_;refine aA (aC rfl) rfl ?_;refine aG ?_;refine aN (.cons .here .nil) ?_;refine iJ _ (i + 1) _ ⟨Hl.le_trans leL leM, by omega, l1, _, hrl1.mono leM, hwl1, ihr.2, hv3, by rw [hx]; simp only [body, cmdI], by have := hv3.length; simp only [cmdI] at this hcl; omega⟩ aH (.cons 0 rfl (.cons 11 rfl (.cons 12 rfl (.cons 13 rfl .nil)))) rfl bI
  ·
   refine aI (aB ?_);refine aA (aC rfl) rfl ?_;refine aG (aE ?_);refine bC (aI ?_);refine aB ?_;refine aA (cZ Tryz.underlying285 (fun _ h => by cases h) rfl aKZ rfl) rfl ?_;refine aA (aP rfl rfl) rfl ?_;refine aA (aP rfl rfl) rfl ?_;refine aG (aE ?_);refine cO rfl ?_;refine aI (aB ?_);refine aA (cZ Tryz.underlying282 (fun _ h => by cases h) rfl aNG rfl) rfl ?_;refine aA (aP rfl rfl) rfl ?_;refine aA (aP rfl rfl) rfl ?_;refine aG (aE ?_);refine cO rfl ?_;refine aI (aB ?_);refine aA (cZ Tryz.underlying308 (fun _ h => by cases h) rfl aQK rfl) rfl ?_;refine aA (aP rfl rfl) rfl ?_;refine aA (aP rfl rfl) rfl ?_;refine aG (aE ?_);refine cO rfl ?_;refine aI (aB ?_);refine aA (eP Tryz.underlying311 (fun _ h => by cases h) rfl) rfl ?_;refine aA (aP rfl rfl) rfl ?_;refine aA (aP rfl rfl) rfl ?_;refine aG (aE ?_);refine eK rfl ?_;refine aI (aB ?_);refine ol_s (cL aNM) rfl ?_;rintro _ K _ ⟨b10, rfl, rfl, rfl⟩ -;refine bP (cE mN rfl rfl rfl a7 (by first | (simp [Value.oneCell']; done) | exact fun c hc => El.one _ _ c hc) (.cons .nil) (by intro j hj; simp)) ?_;rintro _ K _ ⟨rfl, rfl⟩ -;refine aG (aE ?_);refine aB ?_;refine aA (aC rfl) rfl ?_;refine aA (bT mN rfl aL rfl rfl) rfl ?_;refine bD rfl rfl (ihr.1 hwb b sa sn sc ys vs2 ops2 _ hrb hSb hv2 (by simp only [cnt] at hb; omega)) (.cons (.there .here) .nil) rfl ?_;rintro _ K3 _ ⟨rfl, vs3, hv3, rfl⟩ leM;refine aG (aM ?_);refine aM (aE ?_);refine aB ?_;refine aA (b0 rfl rfl aH aH) rfl ?_;refine aA (aC rfl) rfl ?_;refine aG ?_;refine aN (.cons .here .nil) ?_;refine iJ _ (i + 1) _ ⟨Hl.le_trans leL leM, by omega, l1, _, hrl1.mono leM, hwl1, ihr.2, hv3, by rw [hx]; simp only [body, cmdI], by have := hv3.length; simp only [cmdI] at this hcl; omega⟩ aH (.cons 0 rfl (.cons 11 rfl (.cons 12 rfl (.cons 13 rfl .nil)))) rfl bI
 ·
  have hend : body l ops = ops2 := (by rw [hx]; exact aJX hwr hrr (List.drop_eq_nil_of_le aH));refine cR ?_;refine aT ?_;refine aT ?_;refine bG ?_;refine aN (.cons .here .nil) ?_;refine dD rfl leL ?_;rw [hend];exact ⟨_, rfl, rfl, vs2, hv2, rfl⟩
end Go.Proofs
end
section
namespace Go.Proofs
open Go Go.SL Go.Syn Go.Cmp
def BrL : Tree → Prop
 | .bcons _ b l => aEG b ∧ BrL l
 | .belse b l => aEG b ∧ BrL l
 | _ => True
theorem aON {K : Hl} {rest : Tree} {xs : List (Cell × Cell)} {i : Nat} (hw : wf rest 4 = true) (hr : Rep K rest (xs.drop i)) (hi : i < xs.length) :
  ∃ tv sa sn sc, xs[i]? = some (tv, ⟨.slice sa sn sc, rfl⟩) ∧ ((∃ t bd l ys ty u, rest = .bcons t bd l ∧ tv.1 = .iface ty u ∧ Rep K t [(tv, u0)] ∧ Rep K bd ys ∧ Ksl (eJ 224) K (.slice sa sn sc) (ys.map Prod.fst) ∧ Rep K l (xs.drop (i + 1)) ∧ wf t 0 = true ∧ wf bd 3 = true ∧ wf l 4 = true) ∨
   (∃ bd l ys, rest = .belse bd l ∧ tv.1 = .nilIface ∧ Rep K bd ys ∧ Ksl (eJ 224) K (.slice sa sn sc) (ys.map Prod.fst) ∧ wf bd 3 = true)) := by
 have hd : xs.drop i ≠ [] := by intro h; have := congrArg List.length h; simp at this; omega
 have hget : ∀ {x : Cell × Cell} {ys : List (Cell × Cell)}, xs.drop i = x :: ys → xs[i]? = some x ∧ xs.drop (i + 1) = ys := by
  intro x ys h3;refine ⟨?_, by rw [← List.drop_drop, h3]; rfl⟩
  have := List.getElem?_drop (xs := xs) (i := i) (j := 0);rw [h3] at this; simpa using this.symm
 cases rest <;> simp only [wf, Rep] at hw hr
 case bnil => exact absurd hr hd
 case bcons t bd l =>
  obtain ⟨v, ys, ⟨sv, hsv⟩, zs, h1, h2, h3, h4, h5, h6⟩ := hr;obtain ⟨ty, u, h2⟩ := h2;simp at hw;obtain ⟨sa, sn, sc, rfl⟩ := h4.isSlice;obtain ⟨e1, e2⟩ := hget h6;exact ⟨v, sa, sn, sc, e1, .inl ⟨t, bd, l, ys, ty, u, rfl, h2, h1, h3, h4, by rw [e2]; exact h5, hw.1, hw.2.1, hw.2.2⟩⟩
 case belse bd l =>
  obtain ⟨ys, ⟨sv, hsv⟩, zs, h3, h4, h5, h6⟩ := hr;simp at hw;obtain ⟨sa, sn, sc, rfl⟩ := h4.isSlice;obtain ⟨e1, e2⟩ := hget h6;exact ⟨_, sa, sn, sc, e1, .inr ⟨bd, l, ys, rfl, rfl, h3, h4, hw.1⟩⟩
 all_goals simp at hw
theorem aJ2 {K : Hl} {l : Tree} {ys : List (Cell × Cell)} (hw : wf l 4 = true) (hr : Rep K l ys) : fZ l = true ↔ ys.length = 0 := by
 cases l <;> simp only [wf, Rep] at hw hr
 case bnil => subst hr; simp [fZ]
 case bcons t b l => obtain ⟨v, zs, sv, ws, _, _, _, _, _, rfl⟩ := hr; simp [fZ]
 case belse b l => obtain ⟨zs, sv, ws, _, _, _, rfl⟩ := hr; simp [fZ]
 all_goals simp at hw
theorem aJW {K : Hl} {rest : Tree} {ys : List (Cell × Cell)} (hw : wf rest 4 = true) (hr : Rep K rest ys) (he : ys = []) {ops : List Mach.Ins} {out : List Nat} : cY rest ops out = land ops out := by
 cases rest <;> simp only [wf, Rep] at hw hr
 case bnil => simp [cY]
 case bcons t b l => obtain ⟨v, zs, sv, ws, _, _, _, _, _, rfl⟩ := hr; cases he
 case belse b l => obtain ⟨zs, sv, ws, _, _, _, rfl⟩ := hr; cases he
 all_goals simp at hw
theorem aJZ {K : Hl} : ∀ {l : Tree} {xs : List (Cell × Cell)}, wf l 4 = true → Rep K l xs → xs.length ≤ cnt l := by
 intro l;induction l with
 | bnil => intro xs _ h; cases (show xs = [] from h); simp
 | bcons t b l ih1 ih2 ih3 =>
  rintro xs hw ⟨v, ys, sv, ws, h1, h2, h3, h4, h5, rfl⟩;simp [wf] at hw;have := ih3 hw.2.2 h5;simp only [cnt, List.length_cons]; omega
 | belse b l ih1 ih2 =>
  rintro xs hw ⟨ys, sv, ws, h3, h4, h5, rfl⟩;simp [wf] at hw;have := ih2 hw.2 h5;simp only [cnt, List.length_cons]; omega
 | _ => intro xs hw _; simp [wf] at hw
theorem uJ {t b l : Tree} {ops : List Mach.Ins} {out : List Nat} (h : fZ l = true) : cY (.bcons t b l) ops out = cY l (land (body b (unl t false ops).1) (unl t false ops).2) out := by
 simp only [cY]; rw [if_pos h]
theorem uK {t b l : Tree} {ops : List Mach.Ins} {out : List Nat} (h : ¬ fZ l = true) : cY (.bcons t b l) ops out = cY l (land (body b (unl t false ops).1 ++ [jmp 3]) (unl t false ops).2) (out ++ [(body b (unl t false ops).1).length]) := by
 simp only [cY]; rw [if_neg h]
theorem aCP (bs : Tree) (ih : BrL bs) : BrS bs := by
  intro hw b sa sn sc xs vs ops K hr hS hv hl;have hxl := aJZ hw hr;refine bA Tryz.func194 rfl Tryz.ntmps194 rfl rfl fun F w => ?_
  refine aI (aB ?_);refine ol_s (d9 rfl rfl) rfl ?_;rintro _ K _ ⟨b3, rfl, rfl, rfl⟩ -;refine aG (aE ?_);refine aI (aB ?_);refine aA (aF rfl) rfl ?_;refine aG (aE ?_);refine aI (aI ?_);refine aB ?_;refine jF (d8 (iG 3)) ?_;refine aA (aD (o' := 0) pP rfl rfl) rfl ?_;refine aA (aK aE8 rfl aL rfl) rfl ?_;refine aA (bZ (k := (gU 371)) rfl Tryz.underlying309 rfl aL) rfl ?_;refine aA (aC rfl) rfl ?_;refine aG (aE ?_);refine bC ?_;refine zM (fun (K2 : Hl) (i : Nat) (ov : Value) (vs2 : List InsV) (out : List Nat) (_ _ : Unit) => K.le K2 ∧ i ≤ xs.length ∧ ∃ rest ops2, Rep K2 rest (xs.drop i) ∧ wf rest 4 = true ∧ BrL rest ∧ RIs K2 vs2 ops2 ∧ cY bs ops [] = cY rest ops2 out ∧ vs2.length + 2 * cnt rest ≤ 900000 ∧ out.length + cnt rest ≤ 900000 ∧ ∀ k ∈ out, k < vs2.length) (fun _ i ov _ _ _ _ => [(0, ptr b), (3, ptr b3), (4, ov), (9, .slice sa sn sc), (10, i64 xs.length), (11, i64 i)]) (fun K2 _ _ _ _ _ _ => K2) (fun _ _ ov vs2 out _ _ => [sl false (iG 3) ov out, pt b3 (aU [.slice sa sn sc] 311), cdr b vs2]) (fun _ i _ _ _ _ _ => xs.length - i) K 0 _ vs [] () () ⟨Hl.le_refl _, Nat.zero_le _, bs, ops, hr, hw, ih, hv, rfl, hl, by simp; omega, by simp⟩ (.cons 0 rfl (.cons 3 rfl (.cons 4 rfl (.cons 9 rfl (.cons 10 rfl (.cons 11 rfl .nil)))))) rfl (fun _ h => h) ?_;intro K2 i ov vs2 out _ _ ⟨leL, hi0, rest, ops2, hrr, hwr, ihr, hv2, hx, hb1, hb2, hout⟩;have hSl : Ksl (gU 371) K2 (.slice sa sn sc) xs := hS.mono leL;have hv2l := hv2.length;refine aI (aB ?_);refine aA (cU rfl rfl) rfl ?_;refine aG (aE ?_);refine aI ?_;refine bH 12 rfl (fun h12 => ?_) (fun h12 => ?_)
  ·
    have hilt : i < xs.length := by omega
    obtain ⟨⟨tv, htv⟩, ta, tn, tc, hget, hcase⟩ := aON hwr hrr hilt;refine aX ?_;refine aE ?_;rcases hcase with ⟨t, bd, l1, ys, ty, u, rfl, htv2, hrt, hrbd, hSbd, hrl1, hwt, hwbd, hwl1⟩ | ⟨bd, l1, ys, rfl, htv2, hrbd, hSbd, hwbd⟩
    ·
      obtain rfl : tv = .iface ty u := htv2;simp only [cnt] at hb1 hb2;have hu := (uA t).1 false ops2;have hbl := (q9 bd).1 (unl t false ops2).1;have hdl : (xs.drop (i + 1)).length = xs.length - (i + 1) := List.length_drop;have hnil := aJ2 hwl1 hrl1;refine aI (bC ?_);refine aI (aB ?_);refine aA (aC rfl) rfl ?_;refine aA (bU (k := (gU 371)) o3 rfl aL rfl rfl (by first | assumption | omega)) rfl ?_;refine aA (eG (n := 0) (k := (gU 371)) tY rfl aL bQ) rfl ?_;refine ol_s (cL aK5) rfl ?_;rintro _ K _ ⟨b6, rfl, rfl, rfl⟩ -;refine aA (aF rfl) rfl ?_;refine bP (cE tY rfl rfl rfl a7 (by first | (simp [Value.oneCell']; done) | exact fun c hc => El.one _ _ c hc) (.cons (.cons .nil)) (by intro j hj; simp)) ?_;rintro _ K _ ⟨rfl, rfl⟩ -;refine aG (aE ?_);refine aI (aI ?_);refine aB ?_;refine aA (aD (o' := 0) sX rfl rfl) rfl ?_;refine aA (aK aCE rfl aL rfl) rfl ?_;refine aA (eO Tryz.underlying288 rfl rfl) rfl ?_;refine aG (aE ?_);refine cO rfl ?_;refine aX ?_;refine aE (aI ?_);refine aB ?_;refine aA (aC rfl) rfl ?_;refine aA (aD (o' := 0) sX rfl rfl) rfl ?_;refine aA (aK aCE rfl aL rfl) rfl ?_;refine bD rfl rfl ((aMS t).1 hwt b false ty u vs2 ops2 _ hrt hv2 aH) (.cons (.there (.there (.there .here))) .nil) rfl ?_;rintro nv K3 _ ⟨vs3, hv3, rfl⟩ leM;have hv3l := hv3.length;refine aA (aF rfl) rfl ?_;refine aG (aE ?_);refine aI (aB ?_);refine aA (aC rfl) rfl ?_;refine aA (aD (o' := 1) xS rfl rfl) rfl ?_;refine aA (aK aCD rfl aL rfl) rfl ?_;refine bD rfl rfl (ihr.1 hwbd b (.slice ta tn tc) ys vs3 _ _ (hrbd.mono leM) (hSbd.mono leM) hv3 aH) (.cons (.there .here) .nil) rfl ?_;rintro _ K4 _ ⟨rfl, vs4, hv4, rfl⟩ leN;have hv4l := hv4.length;have hSl := hSl.mono (Hl.le_trans leM leN);have leMN := Hl.le_trans leM leN;have hva : (vs4 ++ [jmpV 3]).length = vs4.length + 1 := List.length_append;refine aG (aE ?_);refine aI (aI ?_);refine aB ?_;refine aA (aC rfl) rfl ?_;refine aA (aD (o' := 0) pP rfl rfl) rfl ?_;refine aA (aK aE8 rfl aL rfl) rfl ?_;refine aA (bZ (k := (gU 371)) rfl Tryz.underlying309 rfl aL) rfl ?_;refine aA (nP rfl rfl aH aH) rfl ?_;refine aA (cU rfl rfl) rfl ?_;refine aG (aE ?_);refine bH 36 rfl (fun h36 => ?_) (fun h36 => ?_)
      ·
        refine aB ?_;refine aA (aC rfl) rfl ?_;refine aA (aC rfl) rfl ?_;refine aA (cJ tb41 jO (.cons rfl rfl rfl (.cons .nil) .nil)) rfl ?_;refine ol_s (bN (z0 := [.int .i64 0, .int .i64 0, .int .i64 0, .bool false, .slice none 0 0, .slice none 0 0, .int .i64 0]) dR tz41 rfl rfl rfl rfl (.cons rfl rfl rfl (.cons (.cons (.cons (.cons (.cons (.cons (.cons .nil))))))) .nil)) rfl ?_;rintro _ K _ ⟨b40, rfl, rfl, rfl⟩ -;refine bD rfl rfl (iQ b b40 vs4 [jmpV 3] _ _ rfl (by simp; omega)) (.cons (.there .here) (.cons .here .nil)) rfl ?_;rintro _ K _ ⟨rfl, rfl, rfl⟩ -;refine ol_s (bN (z0 := [.int .i64 0]) nB tz3 rfl rfl rfl rfl (.cons rfl rfl rfl (.cons .nil) .nil)) rfl ?_;rintro _ K _ ⟨b42, rfl, rfl, rfl⟩ -;refine ol_s (dJ (k := (iG 3)) (ys := [vs4.length]) nX rfl rfl (.there (.there (.there (.there .here)))) (fun w j => dB Tryz.underlying55 (SeesSl.at (k := iG 3) (xs := [vs4.length]) (.blk (.own .here) rfl (by simp [iG, El.cs])) j)) (by first | (simp; omega) | omega) (by first | (simp; omega) | omega)) rfl ?_;rintro v43 K _ ⟨rfl, rfl, ho43⟩ -;refine aA (aF rfl) rfl ?_;refine aG (aE ?_);refine aB ?_;refine aA (aC rfl) rfl ?_;refine aA (aC rfl) rfl ?_;refine bD rfl rfl (mY b nv (vs4 ++ [jmpV 3]) _ _ aH aH (fun k hk => by have := hu.2.2.2 k hk; omega)) (.cons (.there (.there .here)) (.cons (.there (.there .here)) .nil)) rfl ?_;rintro _ K _ ⟨rfl, rfl, rfl⟩ -;refine aG (aM ?_);refine aE (aB ?_);refine aA (b0 rfl rfl aH aH) rfl ?_;refine aA (aC rfl) rfl ?_;refine aG ?_
        first
          | (have hnl : ¬ fZ l1 = true := (by rw [hnil]; omega)
             refine aN (.cons (.there .here) (.cons (.there (.there (.there .here))) (.cons .here .nil))) ?_;refine gY _ (i + 1) _ (rL (vs4 ++ [jmpV 3]) (unl t false ops2).2) (out ++ [vs4.length]) () () ⟨Hl.le_trans leL leMN, by omega, l1, _, hrl1.mono leMN, hwl1, ihr.2, (RIs.append (ws := [jmpV 3]) (ps := [jmp 3]) ⟨l5 _ _, trivial⟩ hv4).land, by rw [hx, uK hnl, hv4l], by rw [gD]; omega, by rw [List.length_append]; simp; omega, fun k hk => by rw [gD]; rcases List.mem_append.1 hk with h | h; (have := hout k h; omega); (simp at h; omega)⟩ aH (.cons 0 rfl (.cons 3 rfl (.cons 4 rfl (.cons 9 rfl (.cons 10 rfl (.cons 11 rfl .nil)))))) rfl bI)
          | (have hnl : fZ l1 = true := (by rw [hnil]; omega)
             refine aN (.cons (.there (.there .here)) (.cons (.there (.there .here)) (.cons .here .nil))) ?_;refine gY _ (i + 1) ov (rL vs4 (unl t false ops2).2) out () () ⟨Hl.le_trans leL leMN, by omega, l1, _, hrl1.mono leMN, hwl1, ihr.2, hv4.land, by rw [hx, uJ hnl], by rw [gD]; omega, by omega, fun k hk => by rw [gD]; have := hout k hk; omega⟩ aH (.cons 0 rfl (.cons 3 rfl (.cons 4 rfl (.cons 9 rfl (.cons 10 rfl (.cons 11 rfl .nil)))))) rfl bI)
      ·
        refine aX ?_;refine aE (aB ?_);refine aA (aC rfl) rfl ?_;refine aA (aC rfl) rfl ?_;refine bD rfl rfl (mY b nv vs4 _ _ aH aH (fun k hk => by have := hu.2.2.2 k hk; omega)) (.cons .here (.cons .here .nil)) rfl ?_;rintro _ K _ ⟨rfl, rfl, rfl⟩ -;refine aG (aM ?_);refine aE (aB ?_);refine aA (b0 rfl rfl aH aH) rfl ?_;refine aA (aC rfl) rfl ?_;refine aG ?_
        first
          | (have hnl : ¬ fZ l1 = true := (by rw [hnil]; omega)
             refine aN (.cons (.there .here) (.cons (.there (.there (.there .here))) (.cons .here .nil))) ?_;refine gY _ (i + 1) _ (rL (vs4 ++ [jmpV 3]) (unl t false ops2).2) (out ++ [vs4.length]) () () ⟨Hl.le_trans leL leMN, by omega, l1, _, hrl1.mono leMN, hwl1, ihr.2, (RIs.append (ws := [jmpV 3]) (ps := [jmp 3]) ⟨l5 _ _, trivial⟩ hv4).land, by rw [hx, uK hnl, hv4l], by rw [gD]; omega, by rw [List.length_append]; simp; omega, fun k hk => by rw [gD]; rcases List.mem_append.1 hk with h | h; (have := hout k h; omega); (simp at h; omega)⟩ aH (.cons 0 rfl (.cons 3 rfl (.cons 4 rfl (.cons 9 rfl (.cons 10 rfl (.cons 11 rfl .nil)))))) rfl bI)
          | (have hnl : fZ l1 = true := (by rw [hnil]; omega)
             refine aN (.cons (.there (.there .here)) (.cons (.there (.there .here)) (.cons .here .nil))) ?_;refine gY _ (i + 1) ov (rL vs4 (unl t false ops2).2) out () () ⟨Hl.le_trans leL leMN, by omega, l1, _, hrl1.mono leMN, hwl1, ihr.2, hv4.land, by rw [hx, uJ hnl], by rw [gD]; omega, by omega, fun k hk => by rw [gD]; have := hout k hk; omega⟩ aH (.cons 0 rfl (.cons 3 rfl (.cons 4 rfl (.cons 9 rfl (.cons 10 rfl (.cons 11 rfl .nil)))))) rfl bI)
    ·
      obtain rfl : tv = .nilIface := htv2;simp only [cnt] at hb1 hb2;have hbl := (q9 bd).1 ops2;refine aI (bC ?_);refine aI (aB ?_);refine aA (aC rfl) rfl ?_;refine aA (bU (k := (gU 371)) o3 rfl aL rfl rfl (by first | assumption | omega)) rfl ?_;refine aA (eG (n := 0) (k := (gU 371)) tY rfl aL bQ) rfl ?_;refine ol_s (cL aK5) rfl ?_;rintro _ K _ ⟨b6, rfl, rfl, rfl⟩ -;refine aA (aF rfl) rfl ?_;refine bP (cE tY rfl rfl rfl a7 (by first | (simp [Value.oneCell']; done) | exact fun c hc => El.one _ _ c hc) (.cons (.cons .nil)) (by intro j hj; simp)) ?_;rintro _ K _ ⟨rfl, rfl⟩ -;refine aG (aE ?_);refine aI (aI ?_);refine aB ?_;refine aA (aD (o' := 0) sX rfl rfl) rfl ?_;refine aA (aK aCE rfl aL rfl) rfl ?_;refine aA (uU Tryz.underlying288 rfl) rfl ?_;refine aG (aE ?_);refine eK rfl ?_;refine aI (aB ?_);refine aA (aC rfl) rfl ?_;refine aA (aD (o' := 1) xS rfl rfl) rfl ?_;refine aA (aK aCD rfl aL rfl) rfl ?_;refine bD rfl rfl (ihr.1 hwbd b (.slice ta tn tc) ys vs2 ops2 _ hrbd hSbd hv2 aH) (.cons (.there (.there (.there .here))) .nil) rfl ?_;rintro _ K4 _ ⟨rfl, vs4, hv4, rfl⟩ leN;have hv4l := hv4.length;refine aG (aE ?_);refine cR ?_;refine aT ?_;refine fS rfl ?_;refine aT ?_;refine aT ?_;refine bG ?_;refine aE (aB ?_);refine aA (aC rfl) rfl ?_;refine aA (aC rfl) rfl ?_;refine bD rfl rfl (mY b ov vs4 out _ aH aH (fun k hk => by have := hout k hk; omega)) (.cons .here (.cons (.there .here) .nil)) rfl ?_;rintro _ K _ ⟨rfl, rfl, rfl⟩ -;refine aG ?_;refine aN (.cons .here .nil) ?_;refine dD rfl (by first | exact Hl.le_trans leL leN | exact leL) ?_
      first
        | (rw [hend]; exact ⟨_, rfl, rfl, _, hv2.land, rfl⟩)
        | (rw [hx]; simp only [cY]; exact ⟨_, rfl, rfl, _, hv4.land, rfl⟩)
  ·
    have hend : cY bs ops [] = land ops2 out := (by rw [hx]; exact aJW hwr hrr (List.drop_eq_nil_of_le aH));refine cR ?_;refine aT ?_;refine aT ?_;refine bG ?_;refine aE (aB ?_);refine aA (aC rfl) rfl ?_;refine aA (aC rfl) rfl ?_;refine bD rfl rfl (mY b ov vs2 out _ aH aH (fun k hk => hout k hk)) (.cons (.there (.there .here)) (.cons .here .nil)) rfl ?_;rintro _ K _ ⟨rfl, rfl, rfl⟩ -;refine aG ?_;refine aN (.cons .here .nil) ?_;refine dD rfl (by first | exact Hl.le_trans leL leN | exact leL) ?_
    first
      | (rw [hend]; exact ⟨_, rfl, rfl, _, hv2.land, rfl⟩)
      | (rw [hx]; simp only [cY]; exact ⟨_, rfl, rfl, _, hv4.land, rfl⟩)
end Go.Proofs
end
section
namespace Go.Proofs
open Go Go.SL Go.Syn Go.Cmp
theorem aIE : ∀ (t : Tree), aEG t ∧ aEF t ∧ BrS t ∧ BrL t ∧ aM2 t := by
 intro t;induction t with
 | iff bs ih => exact ⟨fun h => by simp [wf] at h, trivial, fun h => by simp [wf] at h, trivial, ih.2.2.1⟩
 | cnil => exact ⟨aAI _ trivial, trivial, fun h => by simp [wf] at h, trivial, trivial⟩
 | ccons c l ih1 ih2 => exact ⟨aAI _ ⟨ih1.2.2.2.2, ih2.2.1⟩, ⟨ih1.2.2.2.2, ih2.2.1⟩, fun h => by simp [wf] at h, trivial, trivial⟩
 | bnil => exact ⟨fun h => by simp [wf] at h, trivial, aCP _ trivial, trivial, trivial⟩
 | bcons t b l ih1 ih2 ih3 => exact ⟨fun h => by simp [wf] at h, trivial, aCP _ ⟨ih2.1, ih3.2.2.2.1⟩, ⟨ih2.1, ih3.2.2.2.1⟩, trivial⟩
 | belse b l ih1 ih2 => exact ⟨fun h => by simp [wf] at h, trivial, aCP _ ⟨ih1.1, ih2.2.2.2.1⟩, ⟨ih1.1, ih2.2.2.2.1⟩, trivial⟩
 | _ => exact ⟨fun h => by simp [wf] at h, trivial, fun h => by simp [wf] at h, trivial, trivial⟩
theorem aBT (b : Nat) (needs : List (List UInt8)) (t : Tree) (K : Hl) (hat : ScriptAt K b needs t) (hw : wf t 3 = true) (hc : cnt t ≤ 400000) :
  Sp Tryz.prog 58 [ptr b 6] K [] (Ret fun v K' L' => ∃ vs, RIs K' vs (script t) ∧ L' = [sl false cW v vs]) := by
 obtain ⟨l, nv, bv, ys, fz, hb, h6, h7, hv, hS, hrep, hcl⟩ := hat.at_;refine bA Tryz.func58 rfl Tryz.ntmps58 rfl rfl fun F w => ?_
 refine aI (aB ?_);refine aA (aF rfl) rfl ?_;refine aG (aE ?_);refine aI (aB ?_);refine aA (cJ aP3 aOX .nil) rfl ?_;refine ol_s (d9 rfl rfl) rfl ?_;rintro _ K _ ⟨b5, rfl, rfl, rfl⟩ -;refine aA (aF rfl) rfl ?_;refine aG (aE ?_);refine aI (aB ?_);refine aA (aC rfl) rfl ?_;refine aA (aC rfl) rfl ?_;refine aA bS rfl ?_;refine aA (aD (o' := 7) sU rfl rfl) rfl ?_;refine aA (aK aCD rfl (.known hb) h7) rfl ?_;refine jF (d8 cW) ?_;refine jF (fun h hh => eW hh) ?_;refine jF zE ?_;refine bD rfl rfl ((aIE t).1 hw b5 bv ys [] [] _ hrep hS trivial (by simp; omega)) (.cons .here .nil) rfl ?_;rintro _ K1 _ ⟨rfl, vs1, hv1, rfl⟩ le1;refine aPL fun cv => ?_
 refine aG (aE ?_);refine aI (aB ?_);refine aA (aC rfl) rfl ?_;refine aA bS rfl ?_;refine aA (aD (o' := 0) lN rfl rfl) rfl ?_;refine aA (aK ts42 rfl aL rfl) rfl ?_;refine aA (aF rfl) rfl ?_;refine aG (aE ?_);refine bM ?_;refine aN (.cons (.there .here) .nil) ?_;refine bL rfl rfl le1 ?_;exact ⟨_, rfl, vs1, hv1, rfl⟩
end Go.Proofs
end
section
namespace Go.Proofs
open Go Go.SL Go.Syn Go.Mach
theorem u3 (s : List UInt8) (c : UInt8) (K : Hl) : Sp Tryz.prog 308 [str s, .int .u8 c.toNat] K [] (Val (i64 (Lib.indexByte s c)) K) := by
 refine jI ⟨_, Tryz.func308, rfl, rfl⟩ fun w hw => ?_
 have := Tryz.strings_IndexByte ⟨s.toArray⟩ (c.toNat : Int) w
 simpa using this
theorem nN {E : Env} {fr : Fr} {K : Hl} {L : List Asn} {dst : Option Tmp} {ty : TypeId} {pos : String} {aft : Array Edge} {g : Option (Nat × Bool)} {x y : Operand} {t kt et b c : Nat} {k : List UInt8} {vars : List (List UInt8 × List UInt8)} {f : Nat → Nat}
  (hm : E.P.underlying t = some (.map kt et)) (hk : E.P.underlying kt = some .string) (hz : fR E.P et = some (.agg #[str []])) (hx : fr.ev x = some (.map (some b))) (hy : fr.ev y = some (str k)) (hs : Sees K L b (mapO (gG vars f) c)) :
  Ev E fr K L ⟨dst, .lookup t x y false, ty, pos, aft, g⟩ (.agg #[str (vget vars k)]) := by
 have := aCY (dst := dst) (ty := ty) (pos := pos) (aft := aft) (g := g) hm hk hz hx hy hs;rw [aH5] at this;exact this
theorem lT {vars : List (List UInt8 × List UInt8)} {parts : List (List UInt8)} {d : UInt8} (h : 48 ≤ d.toNat ∧ d.toNat ≤ 57) : held vars parts [d] = ((parts[d.toNat - 48]?).getD [], true) := by
 unfold held; simp only []; rw [if_pos (by simp [fY, h.1, h.2])]
theorem lU {vars : List (List UInt8 × List UInt8)} {parts : List (List UInt8)} {name : List UInt8} (h : ¬ (∃ d, name = [d] ∧ 48 ≤ d.toNat ∧ d.toNat ≤ 57)) : held vars parts name = (vget vars (dH name), named name) := by
 unfold held;split
 ·rename_i d; rw [if_neg (by intro e; simp [fY] at e; exact h ⟨d, rfl, e⟩)]
 ·rfl
theorem aF9 (b mb : Nat) (c0 c1 c2 c3 c4 c5 c6 pv c9 : Value) (pc : Int) (vars : List (List UInt8 × List UInt8)) (f : Nat → Nat) (c : Nat) (parts : List (List UInt8)) (name : List UInt8) (K : Hl) (hpv : Ksl (bE 9) K pv parts) (hn : name.length ≤ 100000000) :
  Sp Tryz.prog 309 [ptr b, str name] K [mblk b c0 c1 c2 c3 c4 c5 c6 (.map (some mb)) pv c9 pc, pt mb (mapO (gG vars f) c)]
   (Ret fun v K' L' => v = .tuple #[str (held vars parts name).1, .bool (held vars parts name).2] ∧ K' = K ∧ L' = [mblk b c0 c1 c2 c3 c4 c5 c6 (.map (some mb)) pv c9 pc, pt mb (mapO (gG vars f) c)]) := by
 refine bA Tryz.func309 rfl Tryz.ntmps309 rfl rfl fun F w => ?_
 refine aI (aB ?_);refine aA (aF rfl) rfl ?_;refine aA (aF rfl) rfl ?_;refine aG (aE ?_);refine aI (aI ?_);refine aB ?_;refine aA (aC rfl) rfl ?_;refine aA (cH rfl Tryz.underlying9 rfl) rfl ?_;refine aA (bV rfl rfl) rfl ?_;refine aA (aC rfl) rfl ?_;refine cB 10 rfl (fun g10 => ?_) (fun g10 => ?_)
 ·
  obtain ⟨d, rfl⟩ : ∃ d, name = [d] := List.length_eq_one_iff.1 aH;have hd0 : ([d] : List UInt8)[0]? = some d := rfl;refine aV rfl rfl ?_;refine aA (aC rfl) rfl ?_;refine aV rfl rfl ?_;refine aA (dK Tryz.underlying9 rfl rfl rfl bQ) rfl ?_;refine aV rfl rfl ?_;refine aA (gO rfl rfl) rfl ?_;refine aA (bJ rfl rfl) rfl ?_;refine aA (aC rfl) rfl ?_;refine cB 15 rfl (fun g15 => ?_) (fun g15 => ?_)
  ·
   refine aV rfl rfl ?_;refine aA (aC rfl) rfl ?_;refine aV rfl rfl ?_;refine aA (dK Tryz.underlying9 rfl rfl rfl bQ) rfl ?_;refine aV rfl rfl ?_;refine aA (iD rfl rfl) rfl ?_;refine aA (bJ rfl rfl) rfl ?_;refine aG (aE ?_);refine bH 19 rfl (fun h19 => ?_) (fun h19 => ?_)
   ·
    refine aI (aI ?_);refine aB ?_;refine aA (aC rfl) rfl ?_;refine aA (dK Tryz.underlying9 rfl rfl rfl bQ) rfl ?_;refine aA (aEQ (m := d.toNat) (n := 48) aH aH rfl rfl) rfl ?_;refine aA (tC Tryz.underlying3 Tryz.underlying5 rfl aH aH) rfl ?_;refine aA (aF rfl) rfl ?_;refine aG (aE ?_);refine aI (aB ?_);refine aA (aC rfl) rfl ?_;refine aA (aC rfl) rfl ?_;refine aA bS rfl ?_;refine aA (aD (o' := 8) sV rfl rfl) rfl ?_;refine aA (aK ts39 rfl aL rfl) rfl ?_;refine aA (bZ (k := (bE 9)) rfl Tryz.underlying39 rfl aL) rfl ?_;refine aA (cU rfl rfl) rfl ?_;refine aG (aE ?_);refine bH 30 rfl (fun h30 => ?_) (fun h30 => ?_)
    ·
     obtain ⟨p, hp⟩ : ∃ p, parts[d.toNat - 48]? = some p := ⟨parts[d.toNat - 48]'(by omega), List.getElem?_eq_getElem aH⟩;refine aI (aB ?_);refine aA (aC rfl) rfl ?_;refine aA bS rfl ?_;refine aA (aD (o' := 8) sV rfl rfl) rfl ?_;refine aA (aK ts39 rfl aL rfl) rfl ?_;refine aA (aC rfl) rfl ?_;refine aA (bU (k := (bE 9)) cQ rfl aL rfl rfl (by first | assumption | omega)) rfl ?_;refine aA (dQ (o := 0) (k := (bE 9)) ts9 rfl aL bQ rfl) rfl ?_;refine aA (aF rfl) rfl ?_;refine aA (aF rfl) rfl ?_;refine aG (aE ?_);refine bM ?_;refine bF ?_;refine bF ?_;refine aN (.cons .here (.cons .here .nil)) ?_;refine jR rfl rfl rfl (Hl.le_refl _) ?_
     first
      | (rw [lT aH, hp]; exact ⟨_, rfl, rfl, rfl, rfl⟩)
      | (rw [lU hno]; exact ⟨_, rfl, rfl, rfl, rfl⟩)
    ·
     have hp : parts[d.toNat - 48]? = none := List.getElem?_eq_none aH;refine aX ?_;refine aE (aI ?_);refine aB ?_;refine aA (aF rfl) rfl ?_;refine aA (aF rfl) rfl ?_;refine aG (aE ?_);refine bM ?_;refine bF ?_;refine aN (.cons .here (.cons .here .nil)) ?_;refine jR rfl rfl rfl (Hl.le_refl _) ?_
     first
      | (rw [lT aH, hp]; exact ⟨_, rfl, rfl, rfl, rfl⟩)
      | (rw [lU hno]; exact ⟨_, rfl, rfl, rfl, rfl⟩)
   ·
    have hno : ¬ (∃ e, [d] = [e] ∧ 48 ≤ e.toNat ∧ e.toNat ≤ 57) := (by rintro ⟨e, h1, h2, h3⟩; cases h1; omega);refine aX ?_;refine aE (aI ?_);refine t_draw (anc := [0, 1, 3, 7, 0, 16, 63, 127, 0, 304, 1023, 2047]) (ord := [0, 1, 2, 3, 4, 8, 5, 6, 7, 9, 10, 11]) [5, 9] [] mixed (by decide +kernel) (cT _) ?_;refine dl_ev rfl rfl (.none rfl) rfl rfl (aC rfl) rfl ?_;refine dl_ev rfl rfl (.none rfl) rfl rfl bS rfl ?_;refine dl_ev rfl rfl (.none rfl) rfl rfl (aD (o' := 7) pO rfl rfl) rfl ?_;refine dl_ev rfl rfl (.none rfl) rfl rfl (aK aE7 rfl aL rfl) rfl ?_;refine dl_ev rfl rfl (.none rfl) rfl rfl (aC rfl) rfl ?_;refine dl_ev rfl rfl (.none rfl) rfl rfl (aC rfl) rfl ?_;refine dl_callv rfl (.none rfl) rfl rfl rfl rfl (e9 _ _ (by first | omega | (simp; done) | (simp; omega))) rfl ?_;refine dl_ev rfl rfl (.none rfl) rfl rfl (nN Tryz.underlying175 Tryz.underlying9 aK0 rfl rfl (.own (.there .here))) rfl ?_;refine dl_ev rfl rfl (.none rfl) rfl rfl (jT Tryz.underlying369 rfl ts9 rfl rfl) rfl ?_;refine dl_callv rfl (.none rfl) rfl rfl rfl rfl (nR _ _ (by first | omega | (simp; done) | (simp; omega))) rfl ?_;refine dl_ev rfl rfl (.none rfl) rfl rfl (aF rfl) rfl ?_;refine dl_ev rfl rfl (.none rfl) rfl rfl (aF rfl) rfl ?_;refine dl_nil ?_;refine aE ?_;refine bM ?_;refine aN (.cons .here (.cons .here .nil)) ?_;refine jR rfl rfl rfl (Hl.le_refl _) ?_
    first
     | (rw [lT aH, hp]; exact ⟨_, rfl, rfl, rfl, rfl⟩)
     | (rw [lU hno]; exact ⟨_, rfl, rfl, rfl, rfl⟩)
  ·
   have hno : ¬ (∃ e, [d] = [e] ∧ 48 ≤ e.toNat ∧ e.toNat ≤ 57) := (by rintro ⟨e, h1, h2, h3⟩; cases h1; omega);refine aR rfl rfl rfl ?_;refine aR rfl rfl rfl ?_;refine aR rfl rfl rfl ?_;refine aA (bB rfl rfl) rfl ?_;refine aG (aE ?_);refine cO rfl ?_;refine aX ?_;refine aE (aI ?_);refine t_draw (anc := [0, 1, 3, 7, 0, 16, 63, 127, 0, 304, 1023, 2047]) (ord := [0, 1, 2, 3, 4, 8, 5, 6, 7, 9, 10, 11]) [5, 9] [] mixed (by decide +kernel) (cT _) ?_;refine dl_ev rfl rfl (.none rfl) rfl rfl (aC rfl) rfl ?_;refine dl_ev rfl rfl (.none rfl) rfl rfl bS rfl ?_;refine dl_ev rfl rfl (.none rfl) rfl rfl (aD (o' := 7) pO rfl rfl) rfl ?_;refine dl_ev rfl rfl (.none rfl) rfl rfl (aK aE7 rfl aL rfl) rfl ?_;refine dl_ev rfl rfl (.none rfl) rfl rfl (aC rfl) rfl ?_;refine dl_ev rfl rfl (.none rfl) rfl rfl (aC rfl) rfl ?_;refine dl_callv rfl (.none rfl) rfl rfl rfl rfl (e9 _ _ (by first | omega | (simp; done) | (simp; omega))) rfl ?_;refine dl_ev rfl rfl (.none rfl) rfl rfl (nN Tryz.underlying175 Tryz.underlying9 aK0 rfl rfl (.own (.there .here))) rfl ?_;refine dl_ev rfl rfl (.none rfl) rfl rfl (jT Tryz.underlying369 rfl ts9 rfl rfl) rfl ?_;refine dl_callv rfl (.none rfl) rfl rfl rfl rfl (nR _ _ (by first | omega | (simp; done) | (simp; omega))) rfl ?_;refine dl_ev rfl rfl (.none rfl) rfl rfl (aF rfl) rfl ?_;refine dl_ev rfl rfl (.none rfl) rfl rfl (aF rfl) rfl ?_;refine dl_nil ?_;refine aE ?_;refine bM ?_;refine aN (.cons .here (.cons .here .nil)) ?_;refine jR rfl rfl rfl (Hl.le_refl _) ?_
   first
    | (rw [lT aH, hp]; exact ⟨_, rfl, rfl, rfl, rfl⟩)
    | (rw [lU hno]; exact ⟨_, rfl, rfl, rfl, rfl⟩)
 ·
  have hno : ¬ (∃ d, name = [d] ∧ 48 ≤ d.toNat ∧ d.toNat ≤ 57) := (by rintro ⟨d, rfl, _⟩; exact g10 rfl);refine aR rfl rfl rfl ?_;refine aR rfl rfl rfl ?_;refine aR rfl rfl rfl ?_;refine aA (bB rfl rfl) rfl ?_;refine aA (aC rfl) rfl ?_;refine aR rfl rfl rfl ?_;refine aR rfl rfl rfl ?_;refine aR rfl rfl rfl ?_;refine aA (bB rfl rfl) rfl ?_;refine aG (aE ?_);refine cO rfl ?_;refine aX ?_;refine aE (aI ?_);refine t_draw (anc := [0, 1, 3, 7, 0, 16, 63, 127, 0, 304, 1023, 2047]) (ord := [0, 1, 2, 3, 4, 8, 5, 6, 7, 9, 10, 11]) [5, 9] [] mixed (by decide +kernel) (cT _) ?_;refine dl_ev rfl rfl (.none rfl) rfl rfl (aC rfl) rfl ?_;refine dl_ev rfl rfl (.none rfl) rfl rfl bS rfl ?_;refine dl_ev rfl rfl (.none rfl) rfl rfl (aD (o' := 7) pO rfl rfl) rfl ?_;refine dl_ev rfl rfl (.none rfl) rfl rfl (aK aE7 rfl aL rfl) rfl ?_;refine dl_ev rfl rfl (.none rfl) rfl rfl (aC rfl) rfl ?_;refine dl_ev rfl rfl (.none rfl) rfl rfl (aC rfl) rfl ?_;refine dl_callv rfl (.none rfl) rfl rfl rfl rfl (e9 _ _ (by first | omega | (simp; done) | (simp; omega))) rfl ?_;refine dl_ev rfl rfl (.none rfl) rfl rfl (nN Tryz.underlying175 Tryz.underlying9 aK0 rfl rfl (.own (.there .here))) rfl ?_;refine dl_ev rfl rfl (.none rfl) rfl rfl (jT Tryz.underlying369 rfl ts9 rfl rfl) rfl ?_;refine dl_callv rfl (.none rfl) rfl rfl rfl rfl (nR _ _ (by first | omega | (simp; done) | (simp; omega))) rfl ?_;refine dl_ev rfl rfl (.none rfl) rfl rfl (aF rfl) rfl ?_;refine dl_ev rfl rfl (.none rfl) rfl rfl (aF rfl) rfl ?_;refine dl_nil ?_;refine aE ?_;refine bM ?_;refine aN (.cons .here (.cons .here .nil)) ?_;refine jR rfl rfl rfl (Hl.le_refl _) ?_
  first
   | (rw [lT aH, hp]; exact ⟨_, rfl, rfl, rfl, rfl⟩)
   | (rw [lU hno]; exact ⟨_, rfl, rfl, rfl, rfl⟩)
def mR (vars : List (List UInt8 × List UInt8)) (parts : List (List UInt8)) : Prop := ∀ name, (held vars parts name).1.length ≤ 100000
theorem aAW (vars : List (List UInt8 × List UInt8)) (parts : List (List UInt8)) (f : Nat) (acc : List UInt8) : gK vars parts (f + 1) [] acc = acc ++ [] := by simp [gK]
theorem aC2 {vars : List (List UInt8 × List UInt8)} {parts : List (List UInt8)} {f : Nat} {s acc : List UInt8} (h0 : s ≠ []) (h : Lib.index s [36, 123] < 0) : gK vars parts (f + 1) s acc = acc ++ s := by
 simp only [gK]; rw [if_neg h0, if_pos h]
theorem aAX {vars : List (List UInt8 × List UInt8)} {parts : List (List UInt8)} {f i : Nat} {s acc : List UInt8} {e : Int} {hd : List UInt8 × Bool} (h0 : s ≠ []) (h : Lib.index s [36, 123] = (i : Int)) (he : Lib.indexByte (s.drop i) 125 = e) (hh : held vars parts (((s.drop i).take (max e 2).toNat).drop 2) = hd) :
  gK vars parts (f + 1) s acc = if 0 < e ∧ hd.2 = true then gK vars parts f ((s.drop i).drop (e.toNat + 1)) (acc ++ s.take i ++ hd.1) else gK vars parts f ((s.drop i).drop 1) (acc ++ s.take i ++ [36]) := by
 simp only [gK]; rw [if_neg h0, if_neg aH]
 have : (Lib.index s [36, 123]).toNat = i := by omega
 rw [this, he, hh]
theorem mD (b mb : Nat) (c0 c1 c2 c3 c4 c5 pv c9 : Value) (pc : Int) (nm : Bool) (vars : List (List UInt8 × List UInt8)) (f : Nat → Nat) (c : Nat) (parts : List (List UInt8)) (s : List UInt8) (K : Hl) (hg : Glob K) (hpv : Ksl (bE 9) K pv parts) (hs : s.length ≤ 100000) (hsm : mR vars parts) :
  Sp Tryz.prog 255 [ptr b, str s] K [mblk b c0 c1 c2 c3 c4 c5 (.bool nm) (.map (some mb)) pv c9 pc, pt mb (mapO (gG vars f) c)]
   (Ret fun v K' L' => v = str (dC nm vars parts s) ∧ K' = K ∧ L' = [mblk b c0 c1 c2 c3 c4 c5 (.bool nm) (.map (some mb)) pv c9 pc, pt mb (mapO (gG vars f) c)]) := by
 refine bA Tryz.func255 rfl Tryz.ntmps255 rfl rfl fun F w => ?_
 refine aI (aB ?_);refine aA (aF rfl) rfl ?_;refine aG (aE ?_);refine aI (aI ?_);refine aB ?_;refine aA (aC rfl) rfl ?_;refine aA bS rfl ?_;refine aA (aD (o' := 6) xM rfl rfl) rfl ?_;refine aA (aK ts4 rfl aL rfl) rfl ?_;refine aA (by first | exact dM rfl | exact dW rfl) rfl ?_;refine aG (aE ?_);refine d6 15 rfl (fun h15 => ?_) (fun h15 => ?_)
 ·
  refine aI (aB ?_);refine aA (aC rfl) rfl ?_;refine aA (aF rfl) rfl ?_;refine aG (aE ?_);refine bM ?_;refine bF ?_;refine aN (.cons .here (.cons .here .nil)) ?_;refine bL rfl rfl (Hl.le_refl _) ?_;have hnm : nm = false := by simpa using h15
  unfold dC;rw [if_neg (by simp [hnm])];exact ⟨_, rfl, rfl, rfl, rfl⟩
 ·
  refine aX ?_;refine aE (aI ?_);refine aB ?_;refine ol_s (cL aNI) rfl ?_;rintro _ K _ ⟨b5, rfl, rfl, rfl⟩ -;refine aG (aE ?_);refine aI (bC ?_);refine tI (gP (wW b5)) ?_;refine tW (fun (s2 acc : List UInt8) => s2.length ≤ s.length ∧ acc.length + 100001 * s2.length ≤ 100001 * s.length ∧ ∃ f2, s2.length ≤ f2 ∧ gK vars parts (s.length + 1) s [] = gK vars parts (f2 + 1) s2 acc) (fun s2 _ => [(0, ptr b), (1, str s2), (5, ptr b5)]) (fun _ _ => K) (fun _ acc => [bldr b5 acc, mblk b c0 c1 c2 c3 c4 c5 (.bool nm) (.map (some mb)) pv c9 pc, pt mb (mapO (gG vars f) c)]) (fun s2 _ => s2.length) s [] ⟨Nat.le_refl _, by simp, s.length, Nat.le_refl _, rfl⟩ (.cons 0 rfl (.cons 1 rfl (.cons 5 rfl .nil))) rfl (fun _ h => h) ?_;intro s2 acc ⟨hi1, hi2, f2, hi3, hx⟩;refine aI (aI ?_);refine aB ?_;refine aA (aC rfl) rfl ?_;refine aA (qJ rfl rfl) rfl ?_;refine aG (aE ?_);refine bH 18 rfl (fun h18 => ?_) (fun h18 => ?_)
  ·
   have hne : s2 ≠ [] := h18;have hib := oM s2 [36, 123];refine aX ?_;refine aE (bC ?_);refine aI (aB ?_);refine aA (aC rfl) rfl ?_;refine cG rfl rfl (u4 s2 [36, 123] _ hg aH) rfl ?_;refine aA (aF rfl) rfl ?_;refine aG (aE ?_);refine aI (aI ?_);refine aB ?_;refine aA (aC rfl) rfl ?_;refine aA (cU rfl rfl) rfl ?_;refine aG (aE ?_);refine bH 22 rfl (fun h22 => ?_) (fun h22 => ?_)
   ·
    have hout : gK vars parts (s.length + 1) s [] = acc ++ s2 := (by rw [hx]; exact aC2 hne h22);refine cR ?_;refine aT ?_;refine fS rfl ?_;refine aT ?_;refine bG ?_;refine aE (aI ?_);refine aB ?_;refine bD rfl rfl (nJ b5 acc aH _) (.cons .here .nil) rfl ?_;rintro _ K _ ⟨rfl, rfl, rfl⟩ -;have hla : (acc ++ s2).length = acc.length + s2.length := List.length_append;refine aA (aC rfl) rfl ?_;refine aA (aCX rfl rfl (by first | (simp; omega) | omega)) rfl ?_;refine aA (aF rfl) rfl ?_;refine aG (aE ?_);refine aI (aB ?_);refine aA (aC rfl) rfl ?_;refine aA (aC rfl) rfl ?_;refine aA (cH rfl Tryz.underlying9 rfl) rfl ?_;refine aA (kB rfl rfl) rfl ?_;refine aA (eQ (n := min (acc ++ s2).length 1024) Tryz.underlying9 rfl rfl (by split <;> omega) aH) rfl ?_;refine aA (aF rfl) rfl ?_;refine aG (aE ?_);refine bM ?_;refine aN (.cons .here (.cons .here .nil)) ?_;refine bL rfl rfl (Hl.le_refl _) ?_;have hnm : nm = true := by simpa using h15
    have ht : (acc ++ s2).take (min (acc ++ s2).length 1024) = (acc ++ s2).take 1024 := (by rcases Nat.le_total (acc ++ s2).length 1024 with h | h; (rw [Nat.min_eq_left h, List.take_length, List.take_of_length_le h]); (rw [Nat.min_eq_right h]));unfold dC;rw [if_pos hnm, hout, ht];exact ⟨_, rfl, rfl, rfl, rfl⟩
   ·
    obtain ⟨i, hii⟩ : ∃ i : Nat, Lib.index s2 [36, 123] = (i : Int) := ⟨(Lib.index s2 [36, 123]).toNat, by omega⟩;have hi5 : i + 2 ≤ s2.length := (by simp only [List.length_cons, List.length_nil] at hib; omega);refine aX ?_;refine aE (aI ?_);refine aB ?_;refine aA (aC rfl) rfl ?_;refine aA (aC rfl) rfl ?_;refine aA (eQ (n := i) Tryz.underlying9 rfl rfl hii aH) rfl ?_;refine bD rfl rfl (nD b5 (s2.take i) acc (by have : (s2.take i).length ≤ s2.length := List.length_take_le' _ _; omega) _) (.cons .here .nil) rfl ?_;rintro _ K _ ⟨rfl, rfl, rfl⟩ -;refine aG (aE ?_);refine aI (aB ?_);refine aA (aC rfl) rfl ?_;refine aA (aC rfl) rfl ?_;refine aA (hO (m := i) Tryz.underlying9 rfl rfl hii aH) rfl ?_;refine aA (aF rfl) rfl ?_;refine aG (aE ?_);refine aI (aB ?_);refine aA (aC rfl) rfl ?_;refine cG rfl rfl (u3 (s2.drop i) 125 _) rfl ?_;have hib2 := y6 (s2.drop i) 125;obtain ⟨e, hee⟩ : ∃ e, Lib.indexByte (s2.drop i) 125 = e := ⟨_, rfl⟩;rw [hee] at hib2 ⊢;have hdl : (s2.drop i).length = s2.length - i := List.length_drop;have htl : (s2.take i).length = i := List.length_take_of_le aH;refine aA (aF rfl) rfl ?_;refine aG (aE ?_);refine aI (aI ?_);refine aB ?_;refine aA (aC rfl) rfl ?_;refine aA (aC rfl) rfl ?_;refine aA (aC rfl) rfl ?_;refine aA (aI9 rfl rfl) rfl ?_;refine aA (jV (m := 2) (n := (max e 2).toNat) Tryz.underlying9 rfl rfl rfl rfl (by split <;> omega) aH aH) rfl ?_;refine bD rfl rfl (aF9 b mb c0 c1 c2 c3 c4 c5 (.bool nm) pv c9 pc vars f c parts _ _ hpv (by have := List.length_drop (l := (s2.drop i).take (max e 2).toNat) (i := 2); have := List.length_take_le (max e 2).toNat (s2.drop i); omega)) (.cons (.there .here) (.cons (.there .here) .nil)) rfl ?_;rintro _ K _ ⟨rfl, rfl, rfl⟩ -;obtain ⟨hd, hhd⟩ : ∃ hd, held vars parts (((s2.drop i).take (max e 2).toNat).drop 2) = hd := ⟨_, rfl⟩;have hhl := hsm (((s2.drop i).take (max e 2).toNat).drop 2);rw [hhd] at hhl ⊢;have hey := aAX (acc := acc) (f := f2) hne hii hee hhd;refine aA (aC rfl) rfl ?_;refine aA (aP rfl rfl) rfl ?_;refine aA (aP rfl rfl) rfl ?_;refine aA (aF rfl) rfl ?_;refine aA (aF rfl) rfl ?_;refine aG (aE ?_);refine aI (aB ?_);refine aA (aC rfl) rfl ?_;refine aA (jU rfl rfl) rfl ?_;refine aA (aC rfl) rfl ?_;refine cB 43 rfl (fun g43 => ?_) (fun g43 => ?_)
    ·
     refine aV rfl rfl ?_;refine aA (aC rfl) rfl ?_;refine aA (bJ rfl rfl) rfl ?_;refine aG (aE ?_);refine d6 45 rfl (fun h45 => ?_) (fun h45 => ?_)
     ·
      have hcc : 0 < e ∧ hd.2 = true := ⟨g43, h45⟩;refine aI (aB ?_);refine aA (aC rfl) rfl ?_;refine bD rfl rfl (nD b5 hd.1 (acc ++ s2.take i) (by rw [List.length_append]; omega) _) (.cons (.there (.there .here)) .nil) rfl ?_;rintro _ K _ ⟨rfl, rfl, rfl⟩ -;refine aG (aE ?_);refine aI (aB ?_);refine aA (aC rfl) rfl ?_;refine aA (aC rfl) rfl ?_;refine aA (b0 rfl rfl aH aH) rfl ?_;refine aA (hO (m := e.toNat + 1) Tryz.underlying9 rfl rfl aH aH) rfl ?_;refine aA (aF rfl) rfl ?_;refine aG (aE ?_);refine cR ?_;refine aT ?_;refine bG ?_;have hdd : ((s2.drop i).drop (e.toNat + 1)).length ≤ s2.length - 1 - i := (by rw [List.length_drop]; omega);have hd1 : ((s2.drop i).drop 1).length ≤ s2.length - 1 - i := (by rw [List.length_drop]; omega);have hf2 : f2 = (f2 - 1) + 1 := by omega
      first
       | (refine dI ((s2.drop i).drop (e.toNat + 1)) (acc ++ s2.take i ++ hd.1) ⟨by omega, by rw [List.length_append, List.length_append]; omega, f2 - 1, by omega, by rw [hx, hey, if_pos hcc, ← hf2]⟩ aH (.cons 0 rfl (.cons 1 rfl (.cons 5 rfl .nil))) rfl (fun _ h => h))
       | (refine dI ((s2.drop i).drop 1) (acc ++ s2.take i ++ [36]) ⟨by omega, by rw [List.length_append, List.length_append]; simp only [List.length_singleton]; omega, f2 - 1, by omega, by rw [hx, hey, if_neg hcc, ← hf2]⟩ aH (.cons 0 rfl (.cons 1 rfl (.cons 5 rfl .nil))) rfl (fun _ h => h))
     ·
      have hcc : ¬ (0 < e ∧ hd.2 = true) := fun h => by rw [h45] at h; exact absurd h.2 (by decide)
      refine aX ?_;refine aE (aI ?_);refine aB ?_;refine bD rfl rfl (gS b5 36 (acc ++ s2.take i) (by rw [List.length_append]; omega) _) (.cons (.there (.there .here)) .nil) rfl ?_;rintro _ K _ ⟨rfl, rfl, rfl⟩ -;refine aG (aE ?_);refine aB ?_;refine aA (aC rfl) rfl ?_;refine aA (hO (m := 1) Tryz.underlying9 rfl rfl rfl aH) rfl ?_;refine aA (aF rfl) rfl ?_;refine aG (aM ?_);have hdd : ((s2.drop i).drop (e.toNat + 1)).length ≤ s2.length - 1 - i := (by rw [List.length_drop]; omega);have hd1 : ((s2.drop i).drop 1).length ≤ s2.length - 1 - i := (by rw [List.length_drop]; omega);have hf2 : f2 = (f2 - 1) + 1 := by omega
      first
       | (refine dI ((s2.drop i).drop (e.toNat + 1)) (acc ++ s2.take i ++ hd.1) ⟨by omega, by rw [List.length_append, List.length_append]; omega, f2 - 1, by omega, by rw [hx, hey, if_pos hcc, ← hf2]⟩ aH (.cons 0 rfl (.cons 1 rfl (.cons 5 rfl .nil))) rfl (fun _ h => h))
       | (refine dI ((s2.drop i).drop 1) (acc ++ s2.take i ++ [36]) ⟨by omega, by rw [List.length_append, List.length_append]; simp only [List.length_singleton]; omega, f2 - 1, by omega, by rw [hx, hey, if_neg hcc, ← hf2]⟩ aH (.cons 0 rfl (.cons 1 rfl (.cons 5 rfl .nil))) rfl (fun _ h => h))
    ·
     have hcc : ¬ (0 < e ∧ hd.2 = true) := fun h => g43 h.1
     refine aR rfl rfl rfl ?_;refine aA (bB rfl rfl) rfl ?_;refine aG (aE ?_);refine cO rfl ?_;refine aX ?_;refine aE (aI ?_);refine aB ?_;refine bD rfl rfl (gS b5 36 (acc ++ s2.take i) (by rw [List.length_append]; omega) _) (.cons (.there (.there .here)) .nil) rfl ?_;rintro _ K _ ⟨rfl, rfl, rfl⟩ -;refine aG (aE ?_);refine aB ?_;refine aA (aC rfl) rfl ?_;refine aA (hO (m := 1) Tryz.underlying9 rfl rfl rfl aH) rfl ?_;refine aA (aF rfl) rfl ?_;refine aG (aM ?_);have hdd : ((s2.drop i).drop (e.toNat + 1)).length ≤ s2.length - 1 - i := (by rw [List.length_drop]; omega);have hd1 : ((s2.drop i).drop 1).length ≤ s2.length - 1 - i := (by rw [List.length_drop]; omega);have hf2 : f2 = (f2 - 1) + 1 := by omega
     first
      | (refine dI ((s2.drop i).drop (e.toNat + 1)) (acc ++ s2.take i ++ hd.1) ⟨by omega, by rw [List.length_append, List.length_append]; omega, f2 - 1, by omega, by rw [hx, hey, if_pos hcc, ← hf2]⟩ aH (.cons 0 rfl (.cons 1 rfl (.cons 5 rfl .nil))) rfl (fun _ h => h))
      | (refine dI ((s2.drop i).drop 1) (acc ++ s2.take i ++ [36]) ⟨by omega, by rw [List.length_append, List.length_append]; simp only [List.length_singleton]; omega, f2 - 1, by omega, by rw [hx, hey, if_neg hcc, ← hf2]⟩ aH (.cons 0 rfl (.cons 1 rfl (.cons 5 rfl .nil))) rfl (fun _ h => h))
  ·
   have hout : gK vars parts (s.length + 1) s [] = acc ++ s2 := (by rw [hx, show s2 = [] from Classical.not_not.1 h18]; exact aAW _ _ _ _);refine cR ?_;refine aT ?_;refine aT ?_;refine bG ?_;refine aE (aI ?_);refine aB ?_;refine bD rfl rfl (nJ b5 acc aH _) (.cons .here .nil) rfl ?_;rintro _ K _ ⟨rfl, rfl, rfl⟩ -;have hla : (acc ++ s2).length = acc.length + s2.length := List.length_append;refine aA (aC rfl) rfl ?_;refine aA (aCX rfl rfl (by first | (simp; omega) | omega)) rfl ?_;refine aA (aF rfl) rfl ?_;refine aG (aE ?_);refine aI (aB ?_);refine aA (aC rfl) rfl ?_;refine aA (aC rfl) rfl ?_;refine aA (cH rfl Tryz.underlying9 rfl) rfl ?_;refine aA (kB rfl rfl) rfl ?_;refine aA (eQ (n := min (acc ++ s2).length 1024) Tryz.underlying9 rfl rfl (by split <;> omega) aH) rfl ?_;refine aA (aF rfl) rfl ?_;refine aG (aE ?_);refine bM ?_;refine aN (.cons .here (.cons .here .nil)) ?_;refine bL rfl rfl (Hl.le_refl _) ?_;have hnm : nm = true := by simpa using h15
   have ht : (acc ++ s2).take (min (acc ++ s2).length 1024) = (acc ++ s2).take 1024 := (by rcases Nat.le_total (acc ++ s2).length 1024 with h | h; (rw [Nat.min_eq_left h, List.take_length, List.take_of_length_le h]); (rw [Nat.min_eq_right h]));unfold dC;rw [if_pos hnm, hout, ht];exact ⟨_, rfl, rfl, rfl, rfl⟩
end Go.Proofs
end
section
namespace Go.Proofs
open Go Go.SL Go.Syn Go.Mach
theorem wQ {α β : Type} (g : α → β) {l : List α} {i : Nat} {x : α} (h : l[i]? = some x) : (l.take (i + 1)).map g = (l.take i).map g ++ [g x] := by
 have hi : i < l.length := by
  rcases Nat.lt_or_ge i l.length with h' | h'
  ·exact h'
  ·simp [List.getElem?_eq_none h'] at h
 have hc : l[i] = x := by simpa [List.getElem?_eq_getElem hi] using h
 rw [List.take_succ_eq_append_getElem hi, hc]; simp
theorem aH9 (b mb : Nat) (c0 c1 c2 c3 c4 c5 pv c9 : Value) (pc : Int) (nm : Bool) (vars : List (List UInt8 × List UInt8)) (f : Nat → Nat) (c : Nat) (parts : List (List UInt8)) (lv : Value) (l : List (List UInt8)) (K : Hl) (hg : Glob K) (hpv : Ksl (bE 9) K pv parts) (hlv : Ksl (bE 9) K lv l) (hl : l.length ≤ 1000000) (hs : ∀ s ∈ l, s.length ≤ 100000) (hsm : mR vars parts) :
  Sp Tryz.prog 250 [ptr b, lv] K [mblk b c0 c1 c2 c3 c4 c5 (.bool nm) (.map (some mb)) pv c9 pc, pt mb (mapO (gG vars f) c)]
   (Ret fun v K' L' => K' = K ∧ L' = [sl false (bE 9) v (l.map (dC nm vars parts)), mblk b c0 c1 c2 c3 c4 c5 (.bool nm) (.map (some mb)) pv c9 pc, pt mb (mapO (gG vars f) c)]) := by
 refine bA Tryz.func250 rfl Tryz.ntmps250 rfl rfl fun F w => ?_
 refine aI (aB ?_);refine aA (aF rfl) rfl ?_;refine aG (aE ?_);refine aI (aB ?_);refine aA (aF rfl) rfl ?_;refine aG (aE ?_);refine aI (aI ?_);refine aB ?_;refine aA (aC rfl) rfl ?_;refine aA (bZ (k := (bE 9)) rfl Tryz.underlying39 rfl aL) rfl ?_;refine aA (aC rfl) rfl ?_;refine aG (aE ?_);refine bC ?_;refine tW (fun (i : Nat) (v : Value) => i ≤ l.length) (fun i v => [(0, ptr b), (5, v), (8, lv), (9, i64 l.length), (10, i64 i)]) (fun _ _ => K) (fun i v => [sl false (bE 9) v ((l.take i).map (dC nm vars parts)), mblk b c0 c1 c2 c3 c4 c5 (.bool nm) (.map (some mb)) pv c9 pc, pt mb (mapO (gG vars f) c)]) (fun i _ => l.length - i) 0 (.slice none 0 0) (Nat.zero_le _) (.cons 0 rfl (.cons 5 rfl (.cons 8 rfl (.cons 9 rfl (.cons 10 rfl .nil))))) rfl (d8 (bE 9)) ?_;intro i v hi0;have hml : ((l.take i).map (dC nm vars parts)).length = i := (by rw [List.length_map, List.length_take_of_le hi0]);refine aI (aB ?_);refine aA (cU rfl rfl) rfl ?_;refine aG (aE ?_);refine aI ?_;refine bH 11 rfl (fun h11 => ?_) (fun h11 => ?_)
 ·
  have hilt : i < l.length := by omega
  obtain ⟨x, hx⟩ : ∃ x, l[i]? = some x := ⟨l[i]'hilt, List.getElem?_eq_getElem hilt⟩;refine aX ?_;refine aE (aI ?_);refine bC (aI ?_);refine aB ?_;refine aA (bU (k := (bE 9)) cQ rfl aL rfl rfl (by first | assumption | omega)) rfl ?_;refine aA (dQ (o := 0) (k := (bE 9)) ts9 rfl aL bQ rfl) rfl ?_;refine aA (aF rfl) rfl ?_;refine aG (aE ?_);refine aB ?_;refine aA (aC rfl) rfl ?_;refine aA (aC rfl) rfl ?_;refine aA (aC rfl) rfl ?_;refine bD rfl rfl (mD b mb c0 c1 c2 c3 c4 c5 pv c9 pc nm vars f c parts x _ hg hpv (hs x (List.mem_of_getElem? hx)) hsm) (.cons (.there .here) (.cons (.there .here) .nil)) rfl ?_;rintro _ K _ ⟨rfl, rfl, rfl⟩ -;refine ol_s (bN (z0 := [(str [])]) cQ tz9 rfl rfl rfl rfl (.cons rfl rfl rfl (.cons .nil) .nil)) rfl ?_;rintro _ K _ ⟨b18, rfl, rfl, rfl⟩ -;refine ol_s (dJ (k := (bE 9)) (ys := [dC nm vars parts x]) eM rfl rfl (.there (.there (.there .here))) (fun w j => dB Tryz.underlying39 (SeesSl.at (.blk (.own .here) rfl rfl) j)) (by rw [hml]; simp; omega) (by rw [hml]; simp; omega)) rfl ?_;rintro v19 K _ ⟨rfl, rfl, ho19⟩ -;refine aA (aF rfl) rfl ?_;refine aG (aM ?_);refine aE (aB ?_);refine aA (b0 rfl rfl aH aH) rfl ?_;refine aA (aC rfl) rfl ?_;refine aG ?_;refine aN (.cons .here (.cons (.there .here) (.cons (.there .here) .nil))) ?_;refine dI (i + 1) _ aH aH (.cons 0 rfl (.cons 5 rfl (.cons 8 rfl (.cons 9 rfl (.cons 10 rfl .nil))))) rfl (by rw [wQ _ hx]; exact fun _ h => h)
 ·
  have hfin : (l.take i).map (dC nm vars parts) = l.map (dC nm vars parts) := (by rw [List.take_of_length_le aH]);refine cR ?_;refine aT ?_;refine aT ?_;refine bG ?_;refine aE (aI ?_);refine aB ?_;refine aA (aC rfl) rfl ?_;refine aA (aF rfl) rfl ?_;refine aG (aE ?_);refine bM ?_;refine aN (.cons .here (.cons .here (.cons .here .nil))) ?_;refine bL rfl rfl (Hl.le_refl _) ?_;rw [hfin];exact ⟨_, rfl, rfl, rfl⟩
theorem aG7 (s : List UInt8) (K : Hl) : Sp Tryz.prog 303 [str s] K [] (Val (str s) K) := by
 refine bA Tryz.func303 rfl Tryz.ntmps303 rfl rfl fun F w => ?_
 refine aI (aB ?_);refine aA (aF rfl) rfl ?_;refine aG (aE ?_);refine aI (aB ?_);refine aA (aC rfl) rfl ?_;refine aA (aF rfl) rfl ?_;refine aG (aE ?_);refine bM ?_;refine bL rfl rfl (Hl.le_refl _) ?_;exact ⟨rfl, rfl, rfl⟩
abbrev uZ (oct : Bool) : FuncId := if oct = true then 303 else 185
theorem yY (oct : Bool) (K : Hl) : Sp Tryz.prog 249 [.bool oct] K [] (Val (.func (.func (uZ oct)) #[] #[]) K) := by
 refine bA Tryz.func249 rfl Tryz.ntmps249 rfl rfl fun F w => ?_
 refine aI (aB ?_);refine aA (aF rfl) rfl ?_;refine aG (aE ?_);refine aI (aI ?_);refine aB ?_;refine aA (aC rfl) rfl ?_;refine aG (aE ?_);refine d6 3 rfl (fun h3 => ?_) (fun h3 => ?_)
 ·
  refine aI (aB ?_);refine aA (aF rfl) rfl ?_;refine aG (aE ?_);refine bM ?_;refine bF ?_;refine bL rfl rfl (Hl.le_refl _) ?_;subst h3;exact ⟨rfl, rfl, rfl⟩
 ·
  refine aX ?_;refine aE (aI ?_);refine aB ?_;refine aA (aF rfl) rfl ?_;refine aG (aE ?_);refine bM ?_;refine bL rfl rfl (Hl.le_refl _) ?_;subst h3;exact ⟨rfl, rfl, rfl⟩
theorem kC (oct : Bool) (s : List UInt8) (K : Hl) (hs : s.length ≤ 100000000) : Sp Tryz.prog (uZ oct) [str s] K [] (Val (str (dV oct s)) K) := by
 cases oct
 ·exact e9 s K aH
 ·exact aG7 s K
theorem rE (s sub : List UInt8) (K : Hl) (hg : Glob K) (hs : s.length < 4294967281) : Sp Tryz.prog 305 [str s, str sub] K [] (Val (.bool (decide (0 ≤ Lib.index s sub))) K) := by
 refine jI ⟨_, Tryz.func305, rfl, rfl⟩ fun w hw => ?_
 obtain ⟨m, T, fz, hm⟩ := hg.maxLen;exact Tryz.strings_Contains ⟨s.toArray⟩ ⟨sub.toArray⟩ m w (by simpa [ByteArray.size] using hs) (nK (hw _ _ hm) rfl)
theorem vC (v k : List UInt8) (oct : Bool) (K : Hl) (hg : Glob K) (hv : v.length ≤ 100000000) (hk : k.length ≤ 100000000) : Sp Tryz.prog 252 [str v, str k, .func (.func (uZ oct)) #[] #[]] K [] (Val (.bool (decide (0 ≤ Lib.index (dV oct v) (dV oct k)))) K) := by
 have hfl : ∀ s : List UInt8, (dV oct s).length = s.length := by intro s; unfold dV; split <;> simp [dH]
 refine bA Tryz.func252 rfl Tryz.ntmps252 rfl rfl fun F w => ?_
 refine aI (aB ?_);refine aA (aF rfl) rfl ?_;refine aG (aE ?_);refine aI (aB ?_);refine aA (aC rfl) rfl ?_;refine aA (aC rfl) rfl ?_;refine cG rfl rfl (kC oct v _ hv) rfl ?_;refine aA (aC rfl) rfl ?_;refine aA (aC rfl) rfl ?_;refine cG rfl rfl (kC oct k _ hk) rfl ?_;refine cG rfl rfl (rE _ _ _ hg (by rw [hfl]; omega)) rfl ?_;refine aA (aF rfl) rfl ?_;refine aG (aE ?_);refine bM ?_;refine bL rfl rfl (Hl.le_refl _) ?_;exact ⟨rfl, rfl, rfl⟩
theorem zB (c : UInt8) (K : Hl) : Sp Tryz.prog 222 [.int .u8 c.toNat] K [] (Val (.bool (fV c)) K) := by
 refine bA Tryz.func222 rfl Tryz.ntmps222 rfl rfl fun F w => ?_
 refine aI (aB ?_);refine aA (aF rfl) rfl ?_;refine aG (aE ?_);refine aI (aB ?_);refine aA (aC rfl) rfl ?_;refine aA (yS c 32 rfl rfl) rfl ?_;refine aA (gO rfl rfl) rfl ?_;refine aA (aC rfl) rfl ?_;refine cB 6 rfl (fun g6 => ?_) (fun g6 => ?_)
 ·
  refine aV rfl rfl ?_;refine aA (aC rfl) rfl ?_;refine aV rfl rfl ?_;refine aA (yS c 32 rfl rfl) rfl ?_;refine aV rfl rfl ?_;refine aA (iD rfl rfl) rfl ?_;refine aA (bJ rfl rfl) rfl ?_;refine aA (aC rfl) rfl ?_;refine cB 11 rfl (fun g11 => ?_) (fun g11 => ?_)
  ·
   refine aR rfl rfl rfl ?_;refine aR rfl rfl rfl ?_;refine aR rfl rfl rfl ?_;refine f6 rfl rfl rfl ?_;refine f6 rfl rfl rfl ?_;refine aR rfl rfl rfl ?_;refine aA (bJ rfl rfl) rfl ?_;refine aA (aC rfl) rfl ?_;refine aR rfl rfl rfl ?_;refine aR rfl rfl rfl ?_;refine aA (bJ rfl rfl) rfl ?_;refine aA (aF rfl) rfl ?_;refine aG (aE ?_);refine bM ?_;refine bL rfl rfl (Hl.le_refl _) ?_;refine retB ?_ _
   unfold fV
   generalize (c ||| 32).toNat = x at *
   generalize c.toNat = y at *
   rw [Bool.eq_iff_iff];simp;omega
  ·
   refine aV rfl rfl ?_;refine aA (aC rfl) rfl ?_;refine aV rfl rfl ?_;refine aA (gO rfl rfl) rfl ?_;refine aV rfl rfl ?_;refine aA (aC rfl) rfl ?_;refine cB 14 rfl (fun g14 => ?_) (fun g14 => ?_)
   ·
    refine aV rfl rfl ?_;refine aA (aC rfl) rfl ?_;refine aV rfl rfl ?_;refine aA (iD rfl rfl) rfl ?_;refine aV rfl rfl ?_;refine aA (bJ rfl rfl) rfl ?_;refine aA (bB rfl rfl) rfl ?_;refine aA (aC rfl) rfl ?_;refine cB 19 rfl (fun g19 => ?_) (fun g19 => ?_)
    ·
     refine aR rfl rfl rfl ?_;refine aR rfl rfl rfl ?_;refine aA (bJ rfl rfl) rfl ?_;refine aA (aF rfl) rfl ?_;refine aG (aE ?_);refine bM ?_;refine bL rfl rfl (Hl.le_refl _) ?_;refine retB ?_ _
     unfold fV
     generalize (c ||| 32).toNat = x at *
     generalize c.toNat = y at *
     rw [Bool.eq_iff_iff];simp;omega
    ·
     refine aV rfl rfl ?_;refine aA (aC rfl) rfl ?_;refine aV rfl rfl ?_;refine aA (bV rfl rfl) rfl ?_;refine aA (bB rfl rfl) rfl ?_;refine aA (aF rfl) rfl ?_;refine aG (aE ?_);refine bM ?_;refine bL rfl rfl (Hl.le_refl _) ?_;refine retB ?_ _
     unfold fV
     generalize (c ||| 32).toNat = x at *
     generalize c.toNat = y at *
     rw [Bool.eq_iff_iff];simp;omega
   ·
    refine aR rfl rfl rfl ?_;refine aR rfl rfl rfl ?_;refine aV rfl rfl ?_;refine aA (bB rfl rfl) rfl ?_;refine aA (bB rfl rfl) rfl ?_;refine aA (aC rfl) rfl ?_;refine aV rfl rfl ?_;refine aA (aC rfl) rfl ?_;refine aV rfl rfl ?_;refine aA (bV rfl rfl) rfl ?_;refine aA (bB rfl rfl) rfl ?_;refine aA (aF rfl) rfl ?_;refine aG (aE ?_);refine bM ?_;refine bL rfl rfl (Hl.le_refl _) ?_;refine retB ?_ _
    unfold fV
    generalize (c ||| 32).toNat = x at *
    generalize c.toNat = y at *
    rw [Bool.eq_iff_iff];simp;omega
 ·
  refine aR rfl rfl rfl ?_;refine aR rfl rfl rfl ?_;refine aR rfl rfl rfl ?_;refine aA (bB rfl rfl) rfl ?_;refine aA (aC rfl) rfl ?_;refine aV rfl rfl ?_;refine aA (aC rfl) rfl ?_;refine aV rfl rfl ?_;refine aA (gO rfl rfl) rfl ?_;refine aV rfl rfl ?_;refine aA (aC rfl) rfl ?_;refine cB 14 rfl (fun g14 => ?_) (fun g14 => ?_)
  ·
   refine aV rfl rfl ?_;refine aA (aC rfl) rfl ?_;refine aV rfl rfl ?_;refine aA (iD rfl rfl) rfl ?_;refine aV rfl rfl ?_;refine aA (bJ rfl rfl) rfl ?_;refine aA (bB rfl rfl) rfl ?_;refine aA (aC rfl) rfl ?_;refine cB 19 rfl (fun g19 => ?_) (fun g19 => ?_)
   ·
    refine aR rfl rfl rfl ?_;refine aR rfl rfl rfl ?_;refine aA (bJ rfl rfl) rfl ?_;refine aA (aF rfl) rfl ?_;refine aG (aE ?_);refine bM ?_;refine bL rfl rfl (Hl.le_refl _) ?_;refine retB ?_ _
    unfold fV
    generalize (c ||| 32).toNat = x at *
    generalize c.toNat = y at *
    rw [Bool.eq_iff_iff];simp;omega
   ·
    refine aV rfl rfl ?_;refine aA (aC rfl) rfl ?_;refine aV rfl rfl ?_;refine aA (bV rfl rfl) rfl ?_;refine aA (bB rfl rfl) rfl ?_;refine aA (aF rfl) rfl ?_;refine aG (aE ?_);refine bM ?_;refine bL rfl rfl (Hl.le_refl _) ?_;refine retB ?_ _
    unfold fV
    generalize (c ||| 32).toNat = x at *
    generalize c.toNat = y at *
    rw [Bool.eq_iff_iff];simp;omega
  ·
   refine aR rfl rfl rfl ?_;refine aR rfl rfl rfl ?_;refine aV rfl rfl ?_;refine aA (bB rfl rfl) rfl ?_;refine aA (bB rfl rfl) rfl ?_;refine aA (aC rfl) rfl ?_;refine aV rfl rfl ?_;refine aA (aC rfl) rfl ?_;refine aV rfl rfl ?_;refine aA (bV rfl rfl) rfl ?_;refine aA (bB rfl rfl) rfl ?_;refine aA (aF rfl) rfl ?_;refine aG (aE ?_);refine bM ?_;refine bL rfl rfl (Hl.le_refl _) ?_;refine retB ?_ _
   unfold fV
   generalize (c ||| 32).toNat = x at *
   generalize c.toNat = y at *
   rw [Bool.eq_iff_iff];simp;omega
theorem f9 (s : List UInt8) : aAJ s = true ↔ (∀ i c, s[i]? = some c → iF i c = true) ∧ s ≠ [] ∧ s.length ≤ 16 := by
 unfold aAJ;simp only [Bool.and_eq_true, List.all_eq_true, List.mem_range, decide_eq_true_eq]
 constructor
 ·rintro ⟨⟨h1, h2⟩, h3⟩;refine ⟨fun i c hc => ?_, h2, h3⟩
  have hi : i < s.length := by
   rcases Nat.lt_or_ge i s.length with h' | h'
   ·exact h'
   ·simp [List.getElem?_eq_none h'] at hc
  have := h1 i hi;rw [hc] at this; exact this
 ·rintro ⟨h1, h2, h3⟩;refine ⟨⟨fun i hi => ?_, h2⟩, h3⟩
  rw [List.getElem?_eq_getElem hi]; exact h1 i _ (List.getElem?_eq_getElem hi)
theorem uI (s : List UInt8) (K : Hl) (hs : s.length ≤ 1000000) : Sp Tryz.prog 128 [str s] K [] (Val (.bool (aAJ s)) K) := by
  refine bA Tryz.func128 rfl Tryz.ntmps128 rfl rfl fun F w => ?_
  refine aI (aB ?_);refine aA (aF rfl) rfl ?_;refine aG (aE ?_);refine aI (aI ?_);refine aB ?_;refine aA (aC rfl) rfl ?_;refine ol_s (pK Tryz.underlying9 Tryz.underlying130 Tryz.underlying5 rfl) rfl ?_;rintro v6 K _ ⟨rfl, rfl⟩ -;refine aA (bZ (k := (elB 5)) rfl Tryz.underlying130 rfl aL) rfl ?_;refine aA (aC rfl) rfl ?_;refine aG (aE ?_);refine bC ?_;refine dS (fun (i : Nat) => i ≤ s.length ∧ ∀ j c, j < i → s[j]? = some c → iF j c = true) (fun i => [(0, str s), (6, v6), (7, i64 s.length), (8, i64 i)]) (fun _ => _) (fun i => [sl false (elB 5) v6 s]) (fun i => s.length - i) 0 ⟨Nat.zero_le _, fun j c h _ => by omega⟩ (.cons 0 rfl (.cons 6 rfl (.cons 7 rfl (.cons 8 rfl .nil)))) rfl (fun _ h => h) ?_;intro i ⟨hi0, hi1⟩;refine aI (aB ?_);refine aA (cU rfl rfl) rfl ?_;refine aG (aE ?_);refine aI ?_;refine bH 9 rfl (fun h9 => ?_) (fun h9 => ?_)
  ·
    have hilt : i < s.length := by omega
    obtain ⟨c, hc⟩ : ∃ c, s[i]? = some c := ⟨s[i]'hilt, List.getElem?_eq_getElem hilt⟩;refine aX ?_;refine aE (aI ?_);refine bC (aI ?_);refine aB ?_;refine aA (aC rfl) rfl ?_;refine aA (bU (k := (elB 5)) lO rfl aL rfl rfl (by first | assumption | omega)) rfl ?_;refine aA (dQ (o := 0) (k := (elB 5)) ts5 rfl aL bQ rfl) rfl ?_;refine aA (aF rfl) rfl ?_;refine aA (aF rfl) rfl ?_;refine aG (aE ?_);refine aI (aB ?_);refine aA (aC rfl) rfl ?_;refine cG rfl rfl (zB c _) rfl ?_;refine aA (by first | exact dM rfl | exact dW rfl) rfl ?_;refine aA (aC rfl) rfl ?_;refine lY 16 rfl (fun g16 => ?_) (fun g16 => ?_)
    ·
      refine aV rfl rfl ?_;refine aA (aC rfl) rfl ?_;refine aV rfl rfl ?_;refine aA (fF rfl rfl) rfl ?_;refine aA (bJ rfl rfl) rfl ?_;refine aA (aC rfl) rfl ?_;refine cB 20 rfl (fun g20 => ?_) (fun g20 => ?_)
      ·
        refine aV rfl rfl ?_;refine aA (aC rfl) rfl ?_;refine aV rfl rfl ?_;refine aA (fF rfl rfl) rfl ?_;refine aV rfl rfl ?_;refine aA (aC rfl) rfl ?_;refine cB 23 rfl (fun g23 => ?_) (fun g23 => ?_)
        ·
          refine aR rfl rfl rfl ?_;refine aR rfl rfl rfl ?_;refine aV rfl rfl ?_;refine aA (bJ rfl rfl) rfl ?_;refine aA (bJ rfl rfl) rfl ?_;refine aG (aE ?_);refine eK rfl ?_;refine aI (aB ?_);refine aA (aF rfl) rfl ?_;refine aG (aE ?_);refine bM ?_;refine bR ?_;refine bF ?_;refine bF ?_;refine bR ?_;refine bF ?_;refine aN .nil ?_;refine bL rfl rfl (Hl.le_refl _) ?_;refine retB ?_ _
          first
            | (rw [Bool.eq_iff_iff, f9]
               simp only [decide_eq_true_eq];exact ⟨fun h => ⟨hall, by assumption, by omega⟩, fun h => by omega⟩)
            | (symm; rw [Bool.eq_false_iff]; intro hbx; exact absurd ((f9 s).1 hbx).2.1 bQ)
            | (symm; rw [Bool.eq_false_iff]; intro hbx
               have := ((f9 s).1 hbx).1 i c hc;unfold iF at this;simp only [Bool.or_eq_true, Bool.and_eq_true, decide_eq_true_eq] at this;have hl : fV c = false := by simpa using g16
               rw [hl] at this;simp at this;omega)
        ·
          refine aV rfl rfl ?_;refine aA (aC rfl) rfl ?_;refine aV rfl rfl ?_;refine aA (bV rfl rfl) rfl ?_;refine aV rfl rfl ?_;refine aA (bB rfl rfl) rfl ?_;refine aA (bJ rfl rfl) rfl ?_;refine aG (aE ?_);refine bH 27 rfl (fun h27 => ?_) (fun h27 => ?_)
          ·
            refine aI (aB ?_);refine aA (aF rfl) rfl ?_;refine aG (aE ?_);refine bM ?_;refine bR ?_;refine bF ?_;refine bF ?_;refine bR ?_;refine bF ?_;refine aN .nil ?_;refine bL rfl rfl (Hl.le_refl _) ?_;refine retB ?_ _
            first
              | (rw [Bool.eq_iff_iff, f9]
                 simp only [decide_eq_true_eq];exact ⟨fun h => ⟨hall, by assumption, by omega⟩, fun h => by omega⟩)
              | (symm; rw [Bool.eq_false_iff]; intro hbx; exact absurd ((f9 s).1 hbx).2.1 bQ)
              | (symm; rw [Bool.eq_false_iff]; intro hbx
                 have := ((f9 s).1 hbx).1 i c hc;unfold iF at this;simp only [Bool.or_eq_true, Bool.and_eq_true, decide_eq_true_eq] at this;have hl : fV c = false := by simpa using g16
                 rw [hl] at this;simp at this;omega)
          ·
            refine aX ?_;refine aM (aE ?_);refine aB ?_;refine aA (b0 rfl rfl aH aH) rfl ?_;refine aA (aC rfl) rfl ?_;refine aG ?_;have hb : iF i c = true := (by unfold iF; simp only [Bool.or_eq_true, Bool.and_eq_true, decide_eq_true_eq]; first | (left; left; simpa using g16; done) | (left; right; omega) | (right; omega));refine cI (i + 1) ⟨by omega, fun j c2 hj hc2 => ?_⟩ aH (.cons 0 rfl (.cons 6 rfl (.cons 7 rfl (.cons 8 rfl .nil)))) rfl (fun _ h => h)
            rcases Nat.lt_or_ge j i with h | h
            · exact hi1 j c2 h hc2
            · have e : j = i := by omega
              subst e; rw [hc] at hc2; cases hc2; exact hb
      ·
        refine aR rfl rfl rfl ?_;refine aR rfl rfl rfl ?_;refine aR rfl rfl rfl ?_;refine f6 rfl rfl rfl ?_;refine f6 rfl rfl rfl ?_;refine aR rfl rfl rfl ?_;refine aA (bB rfl rfl) rfl ?_;refine aG (aE ?_);refine cO rfl ?_;refine aX ?_;refine aM (aE ?_);refine aB ?_;refine aA (b0 rfl rfl aH aH) rfl ?_;refine aA (aC rfl) rfl ?_;refine aG ?_;have hb : iF i c = true := (by unfold iF; simp only [Bool.or_eq_true, Bool.and_eq_true, decide_eq_true_eq]; first | (left; left; simpa using g16; done) | (left; right; omega) | (right; omega));refine cI (i + 1) ⟨by omega, fun j c2 hj hc2 => ?_⟩ aH (.cons 0 rfl (.cons 6 rfl (.cons 7 rfl (.cons 8 rfl .nil)))) rfl (fun _ h => h)
        rcases Nat.lt_or_ge j i with h | h
        · exact hi1 j c2 h hc2
        · have e : j = i := by omega
          subst e; rw [hc] at hc2; cases hc2; exact hb
    ·
      refine aR rfl rfl rfl ?_;refine aR rfl rfl rfl ?_;refine aA (bB rfl rfl) rfl ?_;refine aA (aC rfl) rfl ?_;refine aR rfl rfl rfl ?_;refine aR rfl rfl rfl ?_;refine aR rfl rfl rfl ?_;refine f6 rfl rfl rfl ?_;refine f6 rfl rfl rfl ?_;refine aR rfl rfl rfl ?_;refine aA (bB rfl rfl) rfl ?_;refine aG (aE ?_);refine cO rfl ?_;refine aX ?_;refine aM (aE ?_);refine aB ?_;refine aA (b0 rfl rfl aH aH) rfl ?_;refine aA (aC rfl) rfl ?_;refine aG ?_;have hb : iF i c = true := (by unfold iF; simp only [Bool.or_eq_true, Bool.and_eq_true, decide_eq_true_eq]; first | (left; left; simpa using g16; done) | (left; right; omega) | (right; omega));refine cI (i + 1) ⟨by omega, fun j c2 hj hc2 => ?_⟩ aH (.cons 0 rfl (.cons 6 rfl (.cons 7 rfl (.cons 8 rfl .nil)))) rfl (fun _ h => h)
      rcases Nat.lt_or_ge j i with h | h
      · exact hi1 j c2 h hc2
      · have e : j = i := by omega
        subst e; rw [hc] at hc2; cases hc2; exact hb
  ·
    have hall : ∀ j c, s[j]? = some c → iF j c = true := fun j c hc => hi1 j c (by rcases Nat.lt_or_ge j s.length with h | h; omega; (rw [List.getElem?_eq_none h] at hc; cases hc)) hc
    refine cR ?_;refine aT ?_;refine aT ?_;refine bG ?_;refine aE (aI ?_);refine aB ?_;refine aA (aC rfl) rfl ?_;refine aA (qJ rfl rfl) rfl ?_;refine aA (aC rfl) rfl ?_;refine cB 31 rfl (fun g31 => ?_) (fun g31 => ?_)
    ·
      refine aV rfl rfl ?_;refine aA (aC rfl) rfl ?_;refine aV rfl rfl ?_;refine aA (cH rfl Tryz.underlying9 rfl) rfl ?_;refine aV rfl rfl ?_;refine aA (iD rfl rfl) rfl ?_;refine aA (bJ rfl rfl) rfl ?_;refine aA (aF rfl) rfl ?_;refine aG (aE ?_);refine bM ?_;refine aN .nil ?_;refine bL rfl rfl (Hl.le_refl _) ?_;refine retB ?_ _
      first
        | (rw [Bool.eq_iff_iff, f9]
           simp only [decide_eq_true_eq];exact ⟨fun h => ⟨hall, by assumption, by omega⟩, fun h => by omega⟩)
        | (symm; rw [Bool.eq_false_iff]; intro hbx; exact absurd ((f9 s).1 hbx).2.1 bQ)
        | (symm; rw [Bool.eq_false_iff]; intro hbx
           have := ((f9 s).1 hbx).1 i c hc;unfold iF at this;simp only [Bool.or_eq_true, Bool.and_eq_true, decide_eq_true_eq] at this;have hl : fV c = false := by simpa using g16
           rw [hl] at this;simp at this;omega)
    ·
      refine aR rfl rfl rfl ?_;refine aR rfl rfl rfl ?_;refine aR rfl rfl rfl ?_;refine aA (bB rfl rfl) rfl ?_;refine aA (aF rfl) rfl ?_;refine aG (aE ?_);refine bM ?_;refine aN .nil ?_;refine bL rfl rfl (Hl.le_refl _) ?_;refine retB ?_ _
      first
        | (rw [Bool.eq_iff_iff, f9]
           simp only [decide_eq_true_eq];exact ⟨fun h => ⟨hall, by assumption, by omega⟩, fun h => by omega⟩)
        | (symm; rw [Bool.eq_false_iff]; intro hbx; exact absurd ((f9 s).1 hbx).2.1 bQ)
        | (symm; rw [Bool.eq_false_iff]; intro hbx
           have := ((f9 s).1 hbx).1 i c hc;unfold iF at this;simp only [Bool.or_eq_true, Bool.and_eq_true, decide_eq_true_eq] at this;have hl : fV c = false := by simpa using g16
           rw [hl] at this;simp at this;omega)
end Go.Proofs
end
section
namespace Go.Proofs
open Go Go.SL Go.Syn Go.Mach
def cX : El gM := { e := 34, sz := 2, enc := fun a => [i64 a.1, str a.2], len := fun _ => rfl, one := fun _ u h => by simp at h; rcases h with rfl | rfl <;> rfl }
def mch (b mb : Nat) (m : Msg) (hv pv : Value) (nm : Bool) (s : MS) : Asn := fun h => ∃ av sv f c, Sat [mblk b (str m.from_) (str m.to_) (i64 m.size) hv av (.bool s.keep) (.bool nm) (.map (some mb)) pv sv s.pc, sl true cX av s.acts, sl false fL sv s.stack, pt mb (mapO (gG s.vars f) c)] h
section
variable {E : Env} {c0 : Code} {x0 : Exit} {fr : Fr} {K : Hl} {L : List Asn} {Q : Post} {b mb : Nat} {m : Msg} {hv pv : Value} {nm : Bool} {s : MS}
theorem zF {h : Hl} : Sat (mch b mb m hv pv nm s :: L) h ↔ ∃ av sv f c, Sat ([mblk b (str m.from_) (str m.to_) (i64 m.size) hv av (.bool s.keep) (.bool nm) (.map (some mb)) pv sv s.pc, sl true cX av s.acts, sl false fL sv s.stack, pt mb (mapO (gG s.vars f) c)] ++ L) h := by
 constructor
 ·rintro ⟨a, l, ⟨av, sv, f, c, hs⟩, hl, hd, rfl⟩; exact ⟨av, sv, f, c, eC.2 ⟨a, l, hs, hl, hd, rfl⟩⟩
 ·rintro ⟨av, sv, f, c, hs⟩; obtain ⟨a, l, ha, hl, hd, rfl⟩ := eC.1 hs; exact ⟨a, l, ⟨av, sv, f, c, ha⟩, hl, hd, rfl⟩
theorem n6 (h : ∀ av sv f c, T E c0 fr K ([mblk b (str m.from_) (str m.to_) (i64 m.size) hv av (.bool s.keep) (.bool nm) (.map (some mb)) pv sv s.pc, sl true cX av s.acts, sl false fL sv s.stack, pt mb (mapO (gG s.vars f) c)] ++ L) Q) : T E c0 fr K (mch b mb m hv pv nm s :: L) Q := fun a w f i => by
 obtain ⟨x, hs, r⟩ := i.rep;obtain ⟨av, sv, f1, c, hs⟩ := zF.1 hs;exact h av sv f1 c a w f ⟨i.os, i.tape, i.output, i.size, x, hs, r⟩
theorem dL {av sv : Value} {f : Nat → Nat} {c : Nat} : ∀ h, Sat (mblk b (str m.from_) (str m.to_) (i64 m.size) hv av (.bool s.keep) (.bool nm) (.map (some mb)) pv sv s.pc :: sl true cX av s.acts :: sl false fL sv s.stack :: pt mb (mapO (gG s.vars f) c) :: L) h → Sat (mch b mb m hv pv nm s :: L) h := fun h hs => zF.2 ⟨av, sv, f, c, hs⟩
end
def MI (b mb : Nat) (m : Msg) (hv : Value) (nm : Bool) (r : Res MS) : Ending → Hl → List Asn → Prop := fD r fun s' v K' L' => v = .tuple #[] ∧ ∃ pv', Ksl (bE 9) K' pv' s'.parts ∧ L' = [mch b mb m hv pv' nm s']
theorem vT {P : Program} {f : FuncId} {args : List Value} {K : Hl} {L : List Asn} {R R' : Ending → Hl → List Asn → Prop} (h : Sp P f args K L R) (k : ∀ e K' L', R e K' L' → ∃ S M, L' = S ++ M ∧ R' e K' S) : Sp P f args K L R' :=
 ⟨h.1, fun F w i => (h.2 F w i).mono fun e w' ⟨K', L', r, le, j⟩ => let ⟨S, M, e1, r'⟩ := k _ _ _ r; ⟨K', S, r', le, by subst e1; exact j.left⟩⟩
theorem lW (p : Prop) [Decidable p] (b : Nat) (c0 c1 c2 c3 c4 c5 c6 c7 c8 c9 : Value) (pc : Int) (K : Hl) : Sp Tryz.prog 92 [ptr b, .bool (decide p)] K [mblk b c0 c1 c2 c3 c4 c5 c6 c7 c8 c9 pc]
  (fD (if p then .ok () else .error (12, pc)) fun _ v K' L' => v = .tuple #[] ∧ K' = K ∧ L' = [mblk b c0 c1 c2 c3 c4 c5 c6 c7 c8 c9 pc]) := by
 refine vT (sK p b c0 c1 c2 c3 c4 c5 c6 c7 c8 c9 pc K) fun e K' L' h => ?_
 rcases h with ⟨hp, v, rfl, rfl, rfl, rfl⟩ | ⟨hp, fb, rfl, rfl, rfl⟩
 ·rw [if_pos hp]; exact ⟨_, [], (List.append_nil _).symm, _, rfl, rfl, rfl, rfl⟩
 ·rw [if_neg hp]; exact ⟨[_], _, rfl, fb, rfl, rfl⟩
theorem mI (b : Nat) (c0 c1 c2 c3 c4 c5 c6 c7 c8 c9 : Value) (pc : Int) (K : Hl) : Sp Tryz.prog 92 [ptr b, .bool false] K [mblk b c0 c1 c2 c3 c4 c5 c6 c7 c8 c9 pc] (Flt 12 pc) := by
 refine vT (vG b c0 c1 c2 c3 c4 c5 c6 c7 c8 c9 pc K) fun e K' L' h => ?_
 obtain ⟨fb, rfl, rfl, rfl⟩ := h;exact ⟨[_], _, rfl, fb, rfl, rfl⟩
theorem gQ (x : Value) (e at_ : Int) (K : Hl) : Sp Tryz.prog 90 [x, i64 e, i64 at_] K [] (Flt e at_) := by
 refine vT (xG x e at_ K) fun en K' L' h => ?_
 obtain ⟨fb, rfl, rfl, rfl⟩ := h;exact ⟨[_], [], rfl, fb, rfl, rfl⟩
theorem aGD (n : Int) (h0 : -9223372036854775808 ≤ n) (h1 : n ≤ 9223372036854775807) (K : Hl) (hg : Glob K) : Sp Tryz.prog 129 [i64 n] K [] (Val (str (Lib.itoa n)) K) := by
 refine mM ⟨_, Tryz.func129, rfl, rfl⟩ fun w hw => (Tryz.strconv_Itoa n h0 h1 w (hg.pow10 w hw)).mono fun e w' ⟨he, k, os, hw'⟩ => ⟨he, ?_⟩
 rw [hw']; exact Lib.below_grow _ _ (Nat.le_refl _) k os
theorem gV {nm : Bool} {vars : List (List UInt8 × List UInt8)} {parts : List (List UInt8)} {s : List UInt8} (h : s.length ≤ 100000) : (dC nm vars parts s).length ≤ 100000 := by
 unfold dC;split
 ·have := List.length_take_le 1024 (gK vars parts (s.length + 1) s []); omega
 ·exact h
theorem fI (l : List UInt8) (n : Nat) : l.take (min l.length n) = l.take n := by
 rcases Nat.le_total l.length n with h | h
 ·rw [Nat.min_eq_left h, List.take_length, List.take_of_length_le h]
 ·rw [Nat.min_eq_right h]
abbrev kD (o : Ins) (av bv : Value) : Value := .agg #[i64 o.op, i64 o.n, i64 o.tag, .bool o.oct, av, bv, i64 o.at_]
theorem aMA {nm : Bool} {o : Ins} {s : MS} {a b : List UInt8} (ht : 0 ≤ o.tag ∧ o.tag ≤ 3) (ha : o.a[0]? = some a) (hb : o.b[0]? = some b) : setI nm o s = .ok { s with vars := vput s.vars a ((if o.tag = 1 then dH (dC nm s.vars s.parts b) else if o.tag = 2 then aC7 (dC nm s.vars s.parts b) else if o.tag = 3 then Lib.itoa (dC nm s.vars s.parts b).length else dC nm s.vars s.parts b).take 48) } := by
 obtain ⟨op, n, tag, oct, oa, ob, p⟩ := o;cases oa with
 | nil => cases ha
 | cons x xs =>
  cases ob with
  | nil => cases hb
  | cons y ys =>
   cases ha; cases hb
   unfold setI; rw [if_pos ht]
theorem tT {nm : Bool} {o : Ins} {s : MS} (h : ¬ (0 ≤ o.tag ∧ o.tag ≤ 3 ∧ 0 < o.a.length ∧ 0 < o.b.length)) : setI nm o s = .error (12, s.pc) := by
 obtain ⟨op, n, tag, oct, oa, ob, p⟩ := o;unfold setI;split
 ·rename_i ht;split
  ·rename_i h1 h2; simp only at h1 h2; subst h1; subst h2; exact absurd ⟨ht.1, ht.2, by simp, by simp⟩ h
  ·rfl
 ·rfl
theorem aHF (b mb : Nat) (m : Msg) (hv pv : Value) (nm : Bool) (s : MS) (o : Ins) (av bv : Value) (n : Int) (K : Hl) (hg : Glob K) (hpv : Ksl (bE 9) K pv s.parts) (ha : Ksl (bE 9) K av o.a) (hb : Ksl (bE 9) K bv o.b) (hs : ∀ x ∈ o.b, x.length ≤ 100000) (hsm : mR s.vars s.parts) :
  Sp Tryz.prog 154 [ptr b, kD o av bv, i64 n] K [mch b mb m hv pv nm s] (MI b mb m hv nm (setI nm o s)) := by
 obtain ⟨sa, sn, sc, rfl⟩ := ha.isSlice;obtain ⟨ta, tn, tc, rfl⟩ := hb.isSlice;refine bA Tryz.func154 rfl Tryz.ntmps154 rfl rfl fun F w => ?_
 refine n6 fun av sv f c => ?_
 refine aI (aB ?_);refine ol_s (d9 rfl rfl) rfl ?_;rintro _ K _ ⟨b4, rfl, rfl, rfl⟩ -;refine aG (aE ?_);refine aI (aB ?_);refine aA (aC rfl) rfl ?_;refine aA (aD (o' := 2) eF rfl rfl) rfl ?_;refine aA (aK ts3 rfl aL rfl) rfl ?_;refine aA (gO rfl rfl) rfl ?_;refine aA (aC rfl) rfl ?_;refine cB 11 rfl (fun g11 => ?_) (fun g11 => ?_)
 ·
  refine aV rfl rfl ?_;refine aA (aD (o' := 2) eF rfl rfl) rfl ?_;refine aV rfl rfl ?_;refine aA (aK ts3 rfl aL rfl) rfl ?_;refine aV rfl rfl ?_;refine aA (iD rfl rfl) rfl ?_;refine aA (bJ rfl rfl) rfl ?_;refine aA (aC rfl) rfl ?_;refine cB 16 rfl (fun g16 => ?_) (fun g16 => ?_)
  ·
   refine aV rfl rfl ?_;refine aA (aD (o' := 4) eY rfl rfl) rfl ?_;refine aV rfl rfl ?_;refine aA (aK ts39 rfl aL rfl) rfl ?_;refine aV rfl rfl ?_;refine aA (bZ (k := (bE 9)) rfl Tryz.underlying39 rfl aL) rfl ?_;refine aV rfl rfl ?_;refine aA (jU rfl rfl) rfl ?_;refine aA (bJ rfl rfl) rfl ?_;refine aA (aC rfl) rfl ?_;refine cB 22 rfl (fun g22 => ?_) (fun g22 => ?_)
   ·
    refine aV rfl rfl ?_;refine aA (aD (o' := 5) l7 rfl rfl) rfl ?_;refine aV rfl rfl ?_;refine aA (aK ts39 rfl aL rfl) rfl ?_;refine aV rfl rfl ?_;refine aA (bZ (k := (bE 9)) rfl Tryz.underlying39 rfl aL) rfl ?_;refine aV rfl rfl ?_;refine aA (jU rfl rfl) rfl ?_;refine aA (bJ rfl rfl) rfl ?_;refine aW rfl rfl (lW (0 < (o.b.length : Int)) _ _ _ _ _ _ _ _ _ _ _ _ _) (.cons (.there .here) .nil) rfl (fun _ _ => aY _ _) ?_ ?_
    ·
     rintro _ _ _ hTr le1;obtain ⟨e, p, hu, fb, h, rfl⟩ := aZ hTr;cases h
     refine aN (.cons .here .nil) ?_;refine aJ ?_;refine a8 bQ ?_;have hbl : ¬ (0 < (o.b.length : Int)) := (by intro h; rw [if_pos h] at hu; cases hu);rw [if_neg hbl] at hu;cases hu
     have hno := tT (nm := nm) (s := s) (o := o) aH;unfold MI;rw [hno];exact ⟨fb, rfl, rfl⟩
    rintro _ K _ hTr -;obtain ⟨u0, hu, rfl, rfl, rfl⟩ := a6 hTr;clear hTr;have hbl : 0 < (o.b.length : Int) := Classical.byContradiction (fun h => by rw [if_neg h] at hu; cases hu);obtain ⟨xa, hxa⟩ : ∃ x, o.a[0]? = some x := ⟨o.a[0]'(by omega), List.getElem?_eq_getElem aH⟩;obtain ⟨xb, hxb⟩ : ∃ x, o.b[0]? = some x := ⟨o.b[0]'(by omega), List.getElem?_eq_getElem aH⟩;have hok := aMA (nm := nm) (s := s) (show 0 ≤ o.tag ∧ o.tag ≤ 3 by omega) hxa hxb;have hel : (dC nm s.vars s.parts xb).length ≤ 100000 := gV (hs xb (List.mem_of_getElem? hxb));refine aG (aE ?_);refine aI (aB ?_);refine aA (aC rfl) rfl ?_;refine aA (aD (o' := 5) l7 rfl rfl) rfl ?_;refine aA (aK ts39 rfl aL rfl) rfl ?_;refine aA (bU (k := bE 9) (j := 0) cQ rfl (.known hb) rfl rfl aH) rfl ?_;refine aA (dQ (o := 0) (k := (bE 9)) ts9 rfl aL bQ rfl) rfl ?_;refine bD rfl rfl (mD b mb _ _ _ _ _ _ pv _ _ nm s.vars f c s.parts xb _ hg hpv (hs xb (List.mem_of_getElem? hxb)) hsm) (.cons .here (.cons (.there (.there (.there .here))) .nil)) rfl ?_;rintro _ K _ ⟨rfl, rfl, rfl⟩ -;refine aA (aF rfl) rfl ?_;refine aG (aE ?_);refine iE (fun (u : List UInt8) => setI nm o s = .ok { s with vars := vput s.vars xa (u.take 48) }) (fun u => [(0, ptr b), (4, ptr b4), (6, str u)]) (fun _ => K) (fun _ => [mblk b (str m.from_) (str m.to_) (i64 m.size) hv av (.bool s.keep) (.bool nm) (.map (some mb)) pv sv s.pc, sl true cX av s.acts, sl false fL sv s.stack, pt mb (mapO (gG s.vars f) c), pt b4 (aU [i64 o.op, i64 o.n, i64 o.tag, .bool o.oct, .slice sa sn sc, .slice ta tn tc, i64 o.at_] 41)]) ?_ ?_
    ·
     refine aI (aB ?_);refine aA (aD (o' := 2) eF rfl rfl) rfl ?_;refine aA (aK ts3 rfl aL rfl) rfl ?_;refine aG (aE ?_);refine bC (aI ?_);refine aB ?_;refine aA (bV rfl rfl) rfl ?_;refine aA (aF rfl) rfl ?_;refine aG (aE ?_);refine bH 37 rfl (fun h37 => ?_) (fun h37 => ?_)
     ·
      refine aB ?_;refine aA (aC rfl) rfl ?_;refine cG rfl rfl (e9 _ _ aH) rfl ?_;refine aA (aF rfl) rfl ?_;refine aG (aM ?_);refine aN (.cons .here (.cons (.there (.there .here)) (.cons (.there (.there .here)) (.cons .here (.cons .here .nil))))) ?_;refine cA _ ?_ (.cons 0 rfl (.cons 4 rfl (.cons 6 rfl .nil))) rfl (fun _ h => h)
      first
       | (rw [hok, if_pos h37]; done)
       | (rw [hok, if_neg h37, if_pos h41]; done)
       | (rw [hok, if_neg h37, if_neg h41, if_pos h45]; done)
       | (rw [hok, if_neg h37, if_neg h41, if_neg h45]; done)
     ·
      refine aI (aB ?_);refine aA (bV rfl rfl) rfl ?_;refine aA (aF rfl) rfl ?_;refine aG (aE ?_);refine bH 41 rfl (fun h41 => ?_) (fun h41 => ?_)
      ·
       refine aB ?_;refine aA (aC rfl) rfl ?_;refine cG rfl rfl (aC8 _ _ aH) rfl ?_;refine aA (aF rfl) rfl ?_;refine aG (aM ?_);refine aN (.cons .here (.cons (.there (.there .here)) (.cons (.there (.there .here)) (.cons .here (.cons .here .nil))))) ?_;refine cA _ ?_ (.cons 0 rfl (.cons 4 rfl (.cons 6 rfl .nil))) rfl (fun _ h => h)
       first
        | (rw [hok, if_pos h37]; done)
        | (rw [hok, if_neg h37, if_pos h41]; done)
        | (rw [hok, if_neg h37, if_neg h41, if_pos h45]; done)
        | (rw [hok, if_neg h37, if_neg h41, if_neg h45]; done)
      ·
       refine aI (aB ?_);refine aA (bV rfl rfl) rfl ?_;refine aA (aF rfl) rfl ?_;refine aG (aE ?_);refine bH 45 rfl (fun h45 => ?_) (fun h45 => ?_)
       ·
        refine aB ?_;refine aA (aC rfl) rfl ?_;refine aA (cH rfl Tryz.underlying9 rfl) rfl ?_;refine cG rfl rfl (aGD _ aH aH _ hg) rfl ?_;refine aA (aF rfl) rfl ?_;refine aG (aM ?_);refine aN (.cons .here (.cons (.there (.there .here)) (.cons (.there (.there .here)) (.cons .here (.cons .here .nil))))) ?_;refine cA _ ?_ (.cons 0 rfl (.cons 4 rfl (.cons 6 rfl .nil))) rfl (fun _ h => h)
        first
         | (rw [hok, if_pos h37]; done)
         | (rw [hok, if_neg h37, if_pos h41]; done)
         | (rw [hok, if_neg h37, if_neg h41, if_pos h45]; done)
         | (rw [hok, if_neg h37, if_neg h41, if_neg h45]; done)
       ·
        refine aX ?_;refine aM ?_;refine aN (.cons .here (.cons (.there (.there .here)) (.cons (.there (.there .here)) (.cons .here (.cons .here .nil))))) ?_;refine cA _ ?_ (.cons 0 rfl (.cons 4 rfl (.cons 6 rfl .nil))) rfl (fun _ h => h)
        first
         | (rw [hok, if_pos h37]; done)
         | (rw [hok, if_neg h37, if_pos h41]; done)
         | (rw [hok, if_neg h37, if_neg h41, if_pos h45]; done)
         | (rw [hok, if_neg h37, if_neg h41, if_neg h45]; done)
    ·
     intro u hok;refine t_draw (anc := [0, 1, 3, 7, 0, 16, 48, 112, 0, 0, 512, 1536, 3840, 7936, 16383]) (ord := [0, 1, 2, 3, 4, 5, 6, 7, 8, 9, 10, 11, 12, 13, 14]) [14] [14] mixed (by decide +kernel) (cT _) ?_;refine dl_ev rfl rfl (.none rfl) rfl rfl (aC rfl) rfl ?_;refine dl_ev rfl rfl (.none rfl) rfl rfl bS rfl ?_;refine dl_ev rfl rfl (.none rfl) rfl rfl (aD (o' := 7) pO rfl rfl) rfl ?_;refine dl_ev rfl rfl (.none rfl) rfl rfl (aK aE7 rfl aL rfl) rfl ?_;refine dl_ev rfl rfl (.none rfl) rfl rfl (aD (o' := 4) eY rfl rfl) rfl ?_;refine dl_ev rfl rfl (.none rfl) rfl rfl (aK ts39 rfl aL rfl) rfl ?_;refine dl_ev rfl rfl (.none rfl) rfl rfl (bU (k := bE 9) (j := 0) cQ rfl (.known ha) rfl rfl aH) rfl ?_;refine dl_ev rfl rfl (.none rfl) rfl rfl (dQ (o := 0) (k := (bE 9)) ts9 rfl aL bQ rfl) rfl ?_;refine dl_ev rfl rfl (.none rfl) rfl rfl (aC rfl) rfl ?_;refine dl_ev rfl rfl (.none rfl) rfl rfl (aC rfl) rfl ?_;refine dl_ev rfl rfl (.none rfl) rfl rfl (cH rfl Tryz.underlying9 rfl) rfl ?_;refine dl_ev rfl rfl (.none rfl) rfl rfl (kB rfl rfl) rfl ?_;refine dl_ev rfl rfl (.none rfl) rfl rfl (eQ (n := min u.length 48) Tryz.underlying9 rfl rfl (by split <;> omega) aH) rfl ?_;refine dl_ev rfl rfl (.none rfl) rfl rfl (cJ aP8 aO1 (.cons rfl rfl rfl (.cons .nil) .nil)) rfl ?_;refine oG rfl rfl (.none rfl) rfl (aPU Tryz.underlying175 Tryz.underlying9 rfl rfl rfl a7) ?_;rintro _ K _ ⟨rfl, rfl⟩ -;refine dl_nil ?_;obtain ⟨f', hf'⟩ := aH6 xa (u.take (min u.length 48)) c s.vars f;rw [hf', fI];refine aN (.cons .here (.cons .here (.cons .here (.cons .here .nil)))) ?_;refine dU (dL (m := m) (hv := hv) (pv := pv) (nm := nm) (s := { s with vars := vput s.vars xa (u.take 48) })) ?_;refine dD rfl (Hl.le_refl _) ?_;unfold MI;rw [hok];exact ⟨_, rfl, rfl, pv, hpv, rfl⟩
   ·
    have hno := tT (nm := nm) (s := s) (o := o) aH;refine aR rfl rfl rfl ?_;refine aR rfl rfl rfl ?_;refine aR rfl rfl rfl ?_;refine aR rfl rfl rfl ?_;refine aA (bB rfl rfl) rfl ?_;refine aW rfl rfl (mI _ _ _ _ _ _ _ _ _ _ _ _ _) (.cons (.there .here) .nil) rfl (by rintro _ _ ⟨_, h, _⟩; cases h) ?_ ?_
    ·
     rintro _ _ _ ⟨fb, h, rfl⟩ le1;cases h
     refine aN (.cons .here .nil) ?_;refine aJ ?_;refine a8 bQ ?_;simp only [MI, hno, if_true, if_false, ↓reduceIte];exact ⟨fb, rfl, rfl⟩
    ·
     rintro _ _ _ ⟨_, h, _⟩; cases h
  ·
   have hno := tT (nm := nm) (s := s) (o := o) aH;refine aR rfl rfl rfl ?_;refine aR rfl rfl rfl ?_;refine aR rfl rfl rfl ?_;refine aR rfl rfl rfl ?_;refine aA (bB rfl rfl) rfl ?_;refine aA (aC rfl) rfl ?_;refine aR rfl rfl rfl ?_;refine aR rfl rfl rfl ?_;refine aR rfl rfl rfl ?_;refine aR rfl rfl rfl ?_;refine aA (bB rfl rfl) rfl ?_;refine aW rfl rfl (mI _ _ _ _ _ _ _ _ _ _ _ _ _) (.cons (.there .here) .nil) rfl (by rintro _ _ ⟨_, h, _⟩; cases h) ?_ ?_
   ·
    rintro _ _ _ ⟨fb, h, rfl⟩ le1;cases h
    refine aN (.cons .here .nil) ?_;refine aJ ?_;refine a8 bQ ?_;simp only [MI, hno, if_true, if_false, ↓reduceIte];exact ⟨fb, rfl, rfl⟩
   ·
    rintro _ _ _ ⟨_, h, _⟩; cases h
 ·
  have hno := tT (nm := nm) (s := s) (o := o) aH;refine aR rfl rfl rfl ?_;refine aR rfl rfl rfl ?_;refine aR rfl rfl rfl ?_;refine aA (bB rfl rfl) rfl ?_;refine aA (aC rfl) rfl ?_;refine aR rfl rfl rfl ?_;refine aR rfl rfl rfl ?_;refine aR rfl rfl rfl ?_;refine aR rfl rfl rfl ?_;refine aA (bB rfl rfl) rfl ?_;refine aA (aC rfl) rfl ?_;refine aR rfl rfl rfl ?_;refine aR rfl rfl rfl ?_;refine aR rfl rfl rfl ?_;refine aR rfl rfl rfl ?_;refine aA (bB rfl rfl) rfl ?_;refine aW rfl rfl (mI _ _ _ _ _ _ _ _ _ _ _ _ _) (.cons (.there .here) .nil) rfl (by rintro _ _ ⟨_, h, _⟩; cases h) ?_ ?_
  ·
   rintro _ _ _ ⟨fb, h, rfl⟩ le1;cases h
   refine aN (.cons .here .nil) ?_;refine aJ ?_;refine a8 bQ ?_;simp only [MI, hno, if_true, if_false, ↓reduceIte];exact ⟨fb, rfl, rfl⟩
  ·
   rintro _ _ _ ⟨_, h, _⟩; cases h
end Go.Proofs
end

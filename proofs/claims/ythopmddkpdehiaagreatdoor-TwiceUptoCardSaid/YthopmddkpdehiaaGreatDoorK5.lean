/-
  What the proof stands on, part 5: the logic of walks, the walks through the functions, the plain laws. Conditions: as each theorem says. (Merged and shortened by a program.)
-/
import Derived.Lib.ItoaLen
import Derived.KernelRfl
import Derived.Deep.DeepHandedRow
import Derived.Laws.IdiomRangeMap
import Derived.Test.YthopmddkpdehiaaGreatDoorProg
import Derived.Shelf.GgSortFunc.Lays
import Derived.Shelf.SlSortFuncK.WholeK
import Derived.Shelf.GgSortFunc.Tiny
import Derived.Sort.Walk0
import Derived.Test.YthopmddkpdehiaaGreatDoorK1
import Derived.Test.YthopmddkpdehiaaGreatDoorK2
import Derived.Test.YthopmddkpdehiaaGreatDoorK3
import Derived.Test.YthopmddkpdehiaaGreatDoorK4
set_option linter.unusedVariables false
set_option linter.unusedSimpArgs false
section
namespace Go.Box
open Go.Syn
abbrev File := aI × aI
abbrev DMap := aI → Option aI
def DMap.put (f : DMap) (n d : aI) : DMap := fun x => if x = n then some d else f x
def DMap.cut (f : DMap) (n : aI) : DMap := fun x => if x = n then none else f x
abbrev Er := Option Int
structure OpR where
 kind : Int
 name : aI
 to : aI
 data : aI
def doF (f : DMap) (o : OpR) : DMap := if o.kind = 1 then f.put o.name o.data else f.cut o.name
structure DSt where
 dur : DMap
 now : DMap
 pend : List OpR
 left : Int
 full : Int
 down : Bool
def bT (l f : Int) (dn : Bool) : Er × Int × Int × Bool :=
 if dn = true ∨ l = 0 then (some 16, l, f, true)
 else if f = 0 then (some 15, IntKind.i64.wrap (l - 1), -1, false)
 else (none, IntKind.i64.wrap (l - 1), IntKind.i64.wrap (f - 1), false)
def DSt.we (s : DSt) : Er := (bT s.left s.full s.down).1
def DSt.ws (s : DSt) : DSt := { s with left := (bT s.left s.full s.down).2.1, full := (bT s.left s.full s.down).2.2.1, down := (bT s.left s.full s.down).2.2.2 }
def DSt.told (s : DSt) (o : OpR) : DSt := { s with now := doF s.now o, pend := s.pend ++ [o] }
def DSt.add (s : DSt) (o : OpR) : DSt := { s with pend := s.pend ++ [o] }
def cU (o : OpR) (s : DSt) : Er × DSt :=
 if s.we.isSome = true then (s.we, s.ws) else if s.now o.name = none ∧ 1 < o.kind then (some 14, s.ws) else (none, s.ws.told o)
theorem tC {o : OpR} {s : DSt} {e l2 f2 : Int} {dn2 : Bool} (hw : bT s.left s.full s.down = (some e, l2, f2, dn2)) : cU o s = (some e, { s with left := l2, full := f2, down := dn2 }) := by
 simp [cU, DSt.we, DSt.ws, hw]
theorem vJ {o : OpR} {s : DSt} {l2 f2 : Int} {dn2 : Bool} (hw : bT s.left s.full s.down = (none, l2, f2, dn2)) (h1 : s.now o.name = none) (h2 : 1 < o.kind) : cU o s = (some 14, { s with left := l2, full := f2, down := dn2 }) := by
 simp [cU, DSt.we, DSt.ws, hw, h1, h2]
theorem jW {o : OpR} {s : DSt} {l2 f2 : Int} {dn2 : Bool} (hw : bT s.left s.full s.down = (none, l2, f2, dn2)) (h : ¬ (s.now o.name = none ∧ 1 < o.kind)) : cU o s = (none, ({ s with left := l2, full := f2, down := dn2 } : DSt).told o) := by
 simp only [cU, DSt.we, DSt.ws, hw];rw [if_neg (by simp), if_neg h]
theorem jD (o : OpR) (s : DSt) : (cU o s).2.pend.length ≤ s.pend.length + 1 := by
 unfold cU;split
 ·exact Nat.le_succ _
 ·split
  ·exact Nat.le_succ _
  ·simp [DSt.told, DSt.ws]
def cO (n d : aI) (s : DSt) : Er × DSt :=
 if (cU ⟨1, n, [], d⟩ s).1 = some 16 then (some 16, (cU ⟨1, n, [], d⟩ s).2.add ⟨1, n, [], d⟩) else cU ⟨1, n, [], d⟩ s
theorem vT (n d : aI) (s : DSt) : (cO n d s).1 = (cU ⟨1, n, [], d⟩ s).1 := by unfold cO; split <;> simp_all
theorem kJ {n d : aI} {s : DSt} (h : (cU ⟨1, n, [], d⟩ s).1 = some 16) : (cO n d s).2 = (cU ⟨1, n, [], d⟩ s).2.add ⟨1, n, [], d⟩ := by unfold cO; rw [if_pos h]
theorem kI {n d : aI} {s : DSt} (h : ¬ (cU ⟨1, n, [], d⟩ s).1 = some 16) : (cO n d s).2 = (cU ⟨1, n, [], d⟩ s).2 := by unfold cO; rw [if_neg h]
theorem iA (n d : aI) (s : DSt) : (cO n d s).2.pend.length ≤ s.pend.length + 1 := by
 by_cases h : (cU ⟨1, n, [], d⟩ s).1 = some 16
 ·rw [kJ h];have : (cU ⟨1, n, [], d⟩ s).2.pend.length = s.pend.length := by
   unfold cU at h ⊢;split
   ·rfl
   ·rename_i hn;rw [if_neg hn] at h;split at h <;> cases h
  simp [DSt.add, this]
 ·rw [kI h]; exact jD _ _
def dC (n : aI) (s : DSt) : Er × DSt := cU ⟨3, n, [], []⟩ s
def DSt.flush (s : DSt) : DSt := { s with dur := s.pend.foldl doF s.dur, pend := [] }
def cL (s : DSt) : Er × DSt := if s.we.isSome = true then (s.we, s.ws) else (none, s.ws.flush)
def kU (n : aI) (s : DSt) : aI × Er := if s.down = true then ([], some 16) else match s.now n with
 | none => ([], some 14)
 | some d => (d, none)
def cZ : List (DSt → Er × DSt) → DSt → Er × DSt
 | [], s => (none, s)
 | f :: fs, s => if (f s).1.isSome = true then f s else cZ fs (f s).2
def bD : aI := [46, 106, 111, 117, 114, 110, 97, 108]
def sumC (s : aI) : Nat := s.foldl (fun h c => ((h ^^^ c.toNat) * 1099511628211) % 18446744073709551616) 14695981039346656037
def jA (n : Nat) : UInt8 := if n < 10 then UInt8.ofNat (48 + n) else UInt8.ofNat (87 + n)
def hexN (n : Nat) : aI := if h : n < 16 then [jA n] else hexN (n / 16) ++ [jA (n % 16)]
 termination_by n
 decreasing_by omega
def fU (f : File) : aI := f.1 ++ [32] ++ Lib.itoa f.2.length ++ [10] ++ f.2
def cM (files : List File) : aI := files.flatMap fU
def yA (body : aI) : aI := Lib.itoa body.length ++ [32] ++ hexN (sumC body)
def gM (files : List File) : aI := yA (cM files) ++ [10] ++ cM files
def cW (files : List File) : List (DSt → Er × DSt) := files.map fun f => cO f.1 f.2
def eE (files : List File) : DSt → Er × DSt := cZ (cW files ++ [cL, dC bD, cL])
def fX (files : List File) : DSt → Er × DSt := cZ [cO bD (gM files), cL, eE files]
theorem kW : ∀ (gs : List (DSt → Er × DSt)) (s : DSt), (∀ g ∈ gs, ∀ s : DSt, (g s).2.pend.length ≤ s.pend.length + 1) → (cZ gs s).2.pend.length ≤ s.pend.length + gs.length
 | [], s, _ => Nat.le_refl _
 | g :: gs, s, h => by
  have h1 := h g List.mem_cons_self s;have h2 := kW gs (g s).2 fun g' hg => h g' (List.mem_cons_of_mem _ hg)
  simp only [cZ, List.length_cons];split <;> omega
theorem jC (s : DSt) : (cL s).2.pend.length ≤ s.pend.length := by
 unfold cL; split
 ·exact Nat.le_refl _
 ·simp [DSt.flush]
theorem jT (n : aI) (s : DSt) : (dC n s).2.pend.length ≤ s.pend.length + 1 := jD _ _
theorem nV (files : List File) (s : DSt) : (eE files s).2.pend.length ≤ s.pend.length + files.length + 3 := by
 have := kW (cW files ++ [cL, dC bD, cL]) s fun g hg s => by
  rcases List.mem_append.1 hg with h | h
  ·obtain ⟨f, _, rfl⟩ := List.mem_map.1 h;exact iA _ _ _
  ·simp at h;rcases h with rfl | rfl | rfl
   ·have := jC s; omega
   ·exact jT _ _
   ·have := jC s; omega
 simp [cW] at this;unfold eE; simp only [cW]; omega
theorem oS {f : File} {files : List File} (h : f ∈ files) : (fU f).length ≤ (cM files).length := by
 induction files with
 | nil => cases h
 | cons a r ih =>
  simp only [cM, List.flatMap_cons, List.length_append];rcases List.mem_cons.1 h with rfl | h
  ·omega
  ·have := ih h; simp only [cM] at this; omega
theorem mP {files : List File} {i : Nat} {f : File} (h : files[i]? = some f) : cM (files.take (i + 1)) = cM (files.take i) ++ fU f := by
 have hi : i < files.length := by
  rcases Nat.lt_or_ge i files.length with h' | h'
  ·exact h'
  ·simp [List.getElem?_eq_none h'] at h
 rw [List.getElem?_eq_getElem hi] at h;cases h
 unfold cM;rw [List.take_succ_eq_append_getElem hi, List.flatMap_append];simp only [List.flatMap_cons, List.flatMap_nil, List.append_nil]
theorem jI (files : List File) (i : Nat) : (cM (files.take i)).length ≤ (cM files).length := by
 have : cM files = cM (files.take i) ++ cM (files.drop i) := by
  unfold cM; rw [← List.flatMap_append, List.take_append_drop]
 rw [this]; simp
def eV (h : Nat) (c : UInt8) : Nat := ((h ^^^ c.toNat) * 1099511628211) % 18446744073709551616
theorem rL (s : aI) : sumC s = s.foldl eV 14695981039346656037 := rfl
theorem qR (s : aI) : sumC s < 18446744073709551616 := by
 rw [rL];have : ∀ (l : aI) (h : Nat), h < 18446744073709551616 → l.foldl eV h < 18446744073709551616 := by
  intro l;induction l with
  | nil => intro h hh; exact hh
  | cons c r ih => intro h _; exact ih _ (Nat.mod_lt _ aJ)
 exact this s _ aJ
theorem oZ {n : Nat} (h : n < 18446744073709551616) : (hexN n).length ≤ 16 := by
 have : ∀ k n, n < 16 ^ (k + 1) → (hexN n).length ≤ k + 1 := by
  intro k;induction k with
  | zero => intro n hn; rw [hexN, dif_pos (by simpa using hn)]; simp
  | succ k ih =>
   intro n hn;rw [hexN];split
   ·simp
   ·rw [List.length_append];have := ih (n / 16) (Nat.div_lt_of_lt_mul (by rw [Nat.mul_comm, ← Nat.pow_succ]; exact hn));simp; omega
 exact this 15 n (by simpa using h)
inductive Left : Bool → List OpR → DMap → DMap → Prop where
 | nil {b f} : Left b [] f f
 | lost {b o os f g} : Left b os f g → Left b (o :: os) f g
 | kept {b o os f g} : Left b os (doF f o) g → Left b (o :: os) f g
 | torn {o os f g d} : o.kind = 1 → d <+: o.data → Left false os (f.put o.name d) g → Left true (o :: os) f g
 | none {b o os f g} : 1 < o.kind → f o.name = none → Left b os f g → Left b (o :: os) f g
theorem eL {α : Type} {l : List α} {i : Nat} {o : α} (hx : l[i]? = some o) : l.drop i = o :: l.drop (i + 1) := by
 have hi : i < l.length := by
  rcases Nat.lt_or_ge i l.length with h | h
  ·exact h
  ·simp [List.getElem?_eq_none h] at hx
 rw [List.drop_eq_getElem_cons hi];rw [List.getElem?_eq_getElem hi] at hx;cases hx; rfl
theorem Left.mono {b : Bool} {os : List OpR} {f g : DMap} (h : Left b os f g) : ∀ {b' : Bool}, (b = true → b' = true) → Left b' os f g := by
 induction h with
 | nil => intro b' _; exact .nil
 | lost _ ih => intro b' hb; exact .lost (ih hb)
 | kept _ ih => intro b' hb; exact .kept (ih hb)
 | torn h1 h2 h3 ih => intro b' hb; rw [hb rfl]; exact .torn h1 h2 h3
 | none h1 h2 _ ih => intro b' hb; exact .none h1 h2 (ih hb)
def CrI (pend : List OpR) (dur : DMap) (r i : Nat) (g : DMap) : Prop := ∀ x, Left (decide (i ≤ r)) (pend.drop i) g x → Left true pend dur x
section
variable {pend : List OpR} {dur g : DMap} {r i : Nat} {o : OpR}
theorem CrI.init : CrI pend dur r 0 dur := fun x h => by simpa using h
theorem CrI.lost (hx : pend[i]? = some o) (h : CrI pend dur r i g) : CrI pend dur r (i + 1) g := fun x k => h x (by
 rw [eL hx]; exact .lost (k.mono fun e => by have := of_decide_eq_true e; exact decide_eq_true aJ))
theorem CrI.none (hx : pend[i]? = some o) (h1 : 1 < o.kind) (h2 : g o.name = Option.none) (h : CrI pend dur r i g) : CrI pend dur r (i + 1) g := fun x k => h x (by
 rw [eL hx]; exact .none h1 h2 (k.mono fun e => by have := of_decide_eq_true e; exact decide_eq_true aJ))
theorem CrI.kept (hx : pend[i]? = some o) (h : CrI pend dur r i g) : CrI pend dur r (i + 1) (doF g o) := fun x k => h x (by
 rw [eL hx]; exact .kept (k.mono fun e => by have := of_decide_eq_true e; exact decide_eq_true aJ))
theorem CrI.torn {d : aI} (hx : pend[i]? = some o) (h1 : o.kind = 1) (hr : i = r) (hd : d <+: o.data) (h : CrI pend dur r i g) : CrI pend dur r (i + 1) (g.put o.name d) := fun x k => h x (by
 rw [eL hx, decide_eq_true (by omega : i ≤ r)];rw [decide_eq_false (by omega : ¬ i + 1 ≤ r)] at k;exact .torn h1 hd k)
theorem CrI.do {d : aI} (hx : pend[i]? = some o) (hd : d = o.data ∨ o.kind = 1 ∧ i = r ∧ d <+: o.data) (h : CrI pend dur r i g) : CrI pend dur r (i + 1) (doF g { o with data := d }) := by
 rcases hd with rfl | ⟨h1, h2, h3⟩
 ·exact h.kept hx
 ·have := h.torn hx h1 h2 h3
  simpa [doF, h1] using this
theorem CrI.done (h : CrI pend dur r pend.length g) : Left true pend dur g := h g (by simpa using Left.nil)
end
def q5 (s t : DSt) : Prop := Left true s.pend s.dur t.dur ∧ t.now = t.dur ∧ t.pend = [] ∧ t.left = -1 ∧ t.full = -1 ∧ t.down = false
def m9 : aI := [47]
def mW : aI := [105, 110, 98, 111, 120, 47]
def boxP : aI := [98, 111, 120, 47]
def outP : aI := [111, 117, 116, 47]
def toP : aI := [116, 111, 32]
def rejP : aI := [114, 101, 106, 101, 99, 116, 32]
def outN (id : aI) (i : Nat) : aI := outP ++ id ++ [46] ++ Lib.itoa i
def cC (id text : aI) (i : Nat) (a : Mach.Action) : Except Int File :=
 if a.1 = 1 then .ok (mW ++ id, text)
 else if a.1 = 2 then if Mach.boxed a.2 = true then .ok (boxP ++ a.2 ++ m9 ++ id, text) else .error 8
 else if a.1 = 3 then .ok (outN id i, toP ++ a.2 ++ [10] ++ text)
 else if a.1 = 4 then .ok (outN id i, rejP ++ a.2 ++ [10] ++ text)
 else .error 7
def fB (id text : aI) : Nat → List Mach.Action → Except Int (List File)
 | _, [] => .ok []
 | i, a :: r => match cC id text i a with
  | .error e => .error e
  | .ok f => match fB id text (i + 1) r with
   | .error e => .error e
   | .ok fs => .ok (f :: fs)
def gK (id : aI) : Bool := decide (id = []) || decide (8 < id.length) || (id.any fun c => [46, 45].contains c) || !Mach.boxed id
def cA (id : aI) (acts : List Mach.Action) (text : aI) : Except Int (List File) :=
 if gK id = true then .error 13 else if 6 < acts.length then .error 11 else fB id text 0 acts
def iW (acc : List File) : Except Int (List File) → Except Int (List File)
 | .error e => .error e
 | .ok fs => .ok (acc ++ fs)
theorem uG {id text : aI} {i : Nat} {acts : List Mach.Action} {a : Mach.Action} {f : File} {acc : List File} (ha : acts[i]? = some a) (hf : cC id text i a = .ok f) :
  iW acc (fB id text i (acts.drop i)) = iW (acc ++ [f]) (fB id text (i + 1) (acts.drop (i + 1))) := by
 rw [eL ha, fB, hf];cases fB id text (i + 1) (acts.drop (i + 1)) with
 | error e => rfl
 | ok fs => simp [iW]
theorem mS {id text : aI} {i : Nat} {acts : List Mach.Action} {a : Mach.Action} {e : Int} {acc : List File} (ha : acts[i]? = some a) (hf : cC id text i a = .error e) :
  iW acc (fB id text i (acts.drop i)) = .error e := by rw [eL ha, fB, hf]; rfl
theorem xC {xs : List File} (hb : (cM xs).length ≤ 1000000000) : (gM xs).length ≤ 140737488355328 := by
 have h1 := Lib.itoa_length_le ((cM xs).length : Int) aJ aJ;have h2 := oZ (qR (cM xs));simp only [gM, yA, List.length_append, List.length_singleton]; omega
theorem sI {a : aI} (h : Mach.boxed a = true) : a.length ≤ 16 := by
 unfold Mach.boxed at h;simp only [Bool.and_eq_true, decide_eq_true_eq] at h;exact h.2
theorem uW (id : aI) {i : Nat} (hi : i ≤ 1000000) : (outN id i).length ≤ id.length + 26 := by
 have := Lib.itoa_length_le (i : Int) aJ aJ;simp only [outN, outP, List.length_append, List.length_cons, List.length_nil]; omega
theorem qC {id text : aI} {i : Nat} {a : Mach.Action} {f : File} (h : cC id text i a = .ok f) (hid : id.length ≤ 8) (ht : text.length ≤ 1048576) (ha : a.2.length ≤ 1048576) (hi : i ≤ 1000000) : (fU f).length ≤ 3000000 := by
 have ho := uW id hi;have key : ∀ f : File, f.1.length ≤ 40 → f.2.length ≤ 2100000 → (fU f).length ≤ 3000000 := fun f h1 h2 => by
  have := Lib.itoa_length_le (f.2.length : Int) aJ aJ;simp only [fU, List.length_append, List.length_cons, List.length_nil]; omega
 unfold cC at h;split at h
 ·cases h; exact key _ (by simp [mW]; omega) (by simp; omega)
 ·split at h
  ·split at h
   ·rename_i hb;have := sI hb;cases h; exact key _ (by simp [boxP, m9]; omega) (by simp; omega)
   ·cases h
  ·split at h
   ·cases h; exact key _ (by simp; omega) (by simp [toP]; omega)
   ·split at h
    ·cases h; exact key _ (by simp; omega) (by simp [rejP]; omega)
    ·cases h
theorem mT {id text : aI} (hid : id.length ≤ 8) (ht : text.length ≤ 1048576) : ∀ {acts : List Mach.Action} {i : Nat} {fs : List File}, (∀ a ∈ acts, a.2.length ≤ 1048576) → i + acts.length ≤ 1000000 → fB id text i acts = .ok fs → fs.length = acts.length ∧ (cM fs).length ≤ 3000000 * acts.length
 | [], i, fs, _, _, h => by cases h; exact ⟨rfl, by simp [cM]⟩
 | a :: r, i, fs, ha, hi, h => by
  simp only [List.length_cons] at hi;unfold fB at h;cases hf : cC id text i a with
  | error e => rw [hf] at h; cases h
  | ok f =>
   rw [hf] at h;simp only at h;cases hr : fB id text (i + 1) r with
   | error e => rw [hr] at h; cases h
   | ok fs' =>
    rw [hr] at h;cases h
    have h1 := qC hf hid ht (ha a List.mem_cons_self) aJ;have h2 := mT hid ht (fun a h => ha a (List.mem_cons_of_mem _ h)) aJ hr;refine ⟨by simp [h2.1], ?_⟩
    have h3 := h2.2;simp only [cM, List.flatMap_cons, List.length_append, List.length_cons] at h3 ⊢;omega
theorem lM {id text : aI} {acts : List Mach.Action} {fs : List File} (ht : text.length ≤ 1048576) (ha : ∀ a ∈ acts, a.2.length ≤ 1048576) (h : cA id acts text = .ok fs) : fs.length = acts.length ∧ acts.length ≤ 6 ∧ (cM fs).length ≤ 100000000 := by
 unfold cA at h;split at h
 ·cases h
 ·rename_i hb;split at h
  ·cases h
  ·have hid : id.length ≤ 8 := by
    unfold gK at hb;simp only [Bool.or_eq_true, not_or, decide_eq_true_eq] at hb;omega
   have := mT hid ht ha aJ h;refine ⟨this.1, by omega, ?_⟩
   have := this.2;omega
def DSt.set (s : DSt) (l f : Int) : DSt := { s with left := l, full := f }
def eT (id : aI) (acts : List Mach.Action) (text : aI) (s : DSt) : Er × DSt := match cA id acts text with
 | .error e => (some e, s)
 | .ok xs => fX xs s
def errn : Er → Int
 | none => 0
 | some n => n
def jF (s t : DSt) : Prop := if s.down = true then ∃ u, q5 s u ∧ t = u.set (-1) (-1) else t = s.set (-1) (-1)
end Go.Box
end
section
namespace Go.SL
section
variable {E : Env} {fr : Fr} {K : Hl} {L : List Asn} {dst : Option Tmp} {ty : TypeId} {pos : String} {aft : Array Edge} {g : Option (Nat × Bool)} {x y : Operand} {t t' : TypeId} {m n : Int} {k : IntKind}
theorem uD (hx : fr.ev x = some (.int k m)) (hy : fr.ev y = some (.int k n)) (h0 : n ≠ 0) : Ev E fr K L ⟨dst, .binOp .rem t x y t', ty, pos, aft, g⟩ (.int k (m.tmod n)) :=
 b0 hx hy bX fun w => by simp [binOp, Op.intDiv, h0, pure]
theorem yZ (hx : fr.ev x = some (i64 m)) (h1 : -9223372036854775807 ≤ m) (h2 : m ≤ 9223372036854775808) : Ev E fr K L ⟨dst, .unOp .neg t x, ty, pos, aft, g⟩ (i64 (-m)) := fun a w f _ => by
 simp only [execOp, f.ev hx];refine bS ?_;have e : IntKind.i64.wrap (-m) = -m := hZ aJ aJ;simp [Op.unary, Op.intArith, e]
theorem y3 (hx : fr.ev x = some (.int k m)) (hy : fr.ev y = some (.int k n)) (h0 : n ≠ 0) : Ev E fr K L ⟨dst, .binOp .quo t x y t', ty, pos, aft, g⟩ (.int k (k.wrap (m.tdiv n))) :=
 b0 hx hy bX fun w => by simp [binOp, Op.intDiv, h0, pure]
theorem p9 {k' : IntKind} (hx : fr.ev x = some (.int k m)) (hy : fr.ev y = some (.int k' n)) (h0 : 0 ≤ n) : Ev E fr K L ⟨dst, .binOp .shr t x y t', ty, pos, aft, g⟩ (.int k (m.fdiv (2 ^ (min n.toNat k.bits)))) :=
 b0 hx hy bX fun w => by
  have : ¬ n < 0 := by omega
  simp [binOp, Op.shift, this, pure]
theorem k4 (hx : fr.ev x = some (.int k m)) (hy : fr.ev y = some (.int k n)) : Ev E fr K L ⟨dst, .binOp .and t x y t', ty, pos, aft, g⟩ (.int k (k.wrap (BitVec.ofInt k.bits m &&& BitVec.ofInt k.bits n).toNat)) :=
 b0 hx hy bX fun w => by simp [binOp, Op.intBits, pure]
theorem wQ (hx : fr.ev x = some (.int k m)) (hy : fr.ev y = some (.int k n)) : Ev E fr K L ⟨dst, .binOp .xor t x y t', ty, pos, aft, g⟩ (.int k (k.wrap (BitVec.ofInt k.bits m ^^^ BitVec.ofInt k.bits n).toNat)) :=
 b0 hx hy bX fun w => by simp [binOp, Op.intBits, pure]
theorem tE {d : Int} {n : Nat} (h : 0 ≤ d) : d.tmod n = ((d.toNat % n : Nat) : Int) := by
 rw [Int.tmod_eq_emod_of_nonneg h];have : d = (d.toNat : Int) := by omega
 rw [this]; simp
end
end Go.SL
end
section
namespace Go.SL
section
variable {E : Env} {fr : Fr} {K : Hl} {L : List Asn} {dst : Option Tmp} {ty : TypeId} {pos : String} {aft : Array Edge} {g : Option (Nat × Bool)} {x y : Operand} {t e : TypeId} {n b : Nat} {k : IntKind}
theorem m8 {P : Program} (h : dA P e = true) : ∃ inf, P.info? e = some inf ∧ inf.size = 1 := by
 unfold dA at h;split at h
 ·cases h
 ·cases h
 ·rename_i i h1 h2; exact ⟨_, ‹P.info? e = some _›, by simpa using h⟩
 ·cases h
theorem eQ {j : Nat} {jv : Int} (hu : E.P.underlying t = some (.array n e)) (he : dA E.P e = true) (hx : fr.ev x = some (ptr b)) (hy : fr.ev y = some (.int k jv)) (hjv : jv = (j : Int)) (hj : j < n) :
  Ev E fr K L ⟨dst, .indexAddr t x y, ty, pos, aft, g⟩ (ptr b j) := fun a w f i => by
 subst hjv;obtain ⟨inf, h2, h3⟩ := m8 he;simp only [execOp, f.ev hx, f.ev hy];refine bS ?_;unfold Instr.indexAt;simp [asIntOf, underlying, program, bind, Sem.bind, pure, Sem.run, hu, hj, sizeOf, typeInfo, h2, h3, Instr.sureAddr, cT]
theorem kY {m : Nat} {mv : Int} {lo : Operand} (hu : E.P.underlying t = some (.array n e)) (he : dA E.P e = true) (hx : fr.ev x = some (ptr b)) (hl : fr.ev lo = some (.int k mv)) (hm : mv = (m : Int)) (h : m < n) :
  Ev E fr K L ⟨dst, .slice t x (some lo) none none, ty, pos, aft, g⟩ (.slice (some ⟨b, m, none⟩) (n - m) (n - m)) := fun a w f i => by
 subst hm;obtain ⟨inf, h2, h3⟩ := m8 he;simp only [execOp, f.ev hx, f.ev hl, Option.map];refine bS ?_;unfold Instr.sliceAt;have hne : ¬ n = m := by omega
 have hle : m ≤ n := by omega
 simp [underlying, program, bind, Sem.bind, pure, Sem.run, hu, Instr.sliceBounds, Instr.sliceBound, asIntOf, sizeOf, typeInfo, h2, h3, Instr.sureAddr, cT, hne, hle]
theorem wP {m : Int} (hx : fr.ev x = some (.int k m)) : Ev E fr K L ⟨dst, .unOp .neg t x, ty, pos, aft, g⟩ (.int k (k.wrap (-m))) := fun a w f _ => by
 simp only [execOp, f.ev hx];refine bS ?_;simp [Op.unary, Op.intArith]
end
end Go.SL
end
section
namespace Go.SL
theorem yI {P : Program} {f : FuncId} {args : List Value} {K : Hl} {L : List Asn} {R R' : Ending → Hl → List Asn → Prop} (h : Sp P f args K L R)
  (k : ∀ e K' L', K.le K' → R e K' L' → R' e K' L') : Sp P f args K L R' :=
 ⟨h.1, fun F w i => (h.2 F w i).mono fun _ _ ⟨K', L', r, le, j⟩ => ⟨K', L', k _ _ _ le r, le, j⟩⟩
def kZ (P : Program) (fv : Value) (f : FuncId) (vs : List Value) : Prop := ∀ w, (do let d ← Deferred.ofValue fv #[]; invoke d.target d.args).run P w = .ok (.enter f vs.toArray) w
theorem iZ {P : Program} {f : FuncId} {caps : Array Value} (hb : ∃ fn, P.funcs[f]? = some fn ∧ (fn.name == "runtime.NumGoroutine") = false ∧ fn.body.isSome = true) : kZ P (.func (.func f) #[] caps) f caps.toList := by
 intro w;obtain ⟨fn, h1, h2, h3⟩ := hb;simp only [Deferred.ofValue, bind, pure, Sem.bind, invoke];have := nR (vs := caps) h1 h2 h3 w
 simpa using this
theorem oR {P : Program} {name : String} {t : TypeId} {u r : Value} {f : FuncId} (hm : ∀ w, (method (P.types.size + Made.depth) t u name).run P w = .ok (f, r) w)
  (hb : ∃ fn, P.funcs[f]? = some fn ∧ (fn.name == "runtime.NumGoroutine") = false ∧ fn.body.isSome = true) : kZ P (.func (.method name) #[.iface t u] #[]) f [r] := by
 intro w;obtain ⟨fn, h1, h2, h3⟩ := hb;simp only [Deferred.ofValue, bind, pure, Sem.bind, invoke]
 show (callMethod (.iface t u) name #[]).run P w = _
 unfold callMethod;simp only [];have hp : (program).run P w = .ok P w := rfl;rw [aL hp, aL (hm w)];have := nR (vs := #[r]) h1 h2 h3 w
 simpa using this
section
variable {E : Env} {fr : Fr} {K : Hl} {L L1 L2 : List Asn} {Q : Post} {ops : Array Oper} {rest : List Oper} {ty : TypeId} {pos : String} {aft : Array Edge}
theorem o5 {d : Nat} {fv : Operand} {ats : Array TypeId} {x : Value} {f : FuncId} {vs : List Value} {N : Value → Hl → List Asn → Prop} (hf : fr.ev fv = some x) (he : kZ E.P x f vs) (hs : Sp E.P f vs K L1 (Ret N)) (hL : Tks L1 L L2) (hd : Nat.blt d E.n = true)
  (h : ∀ v K' L', N v K' L' → K.le K' → OL E ops rest ((d, v) :: fr) K' (L' ++ L2) Q) : OL E ops (⟨some d, .call ⟨.value fv, #[], ats⟩, ty, pos, aft, none⟩ :: rest) fr K L Q :=
 o6 (oQ (N := fun v K' L'' => ∃ L', L'' = L' ++ L2 ∧ N v K' L') (fun a w fo => by
  have := he w
  simpa [execOp, resolve, fo.ev hf, bind, pure, Sem.bind] using this) hL hs (fun v K' L' ⟨u, e, n⟩ => by cases e; exact ⟨L', rfl, n⟩) (fun ch K' L' ⟨u, e, n⟩ => by cases e) (fun K' L' ⟨u, e, n⟩ => by cases e)) hd
  (fun v K' L'' ⟨L', e, n⟩ le => by subst e; exact h v K' L' n le)
theorem ev_T {o : Oper} {p : Prop} [Decidable p] (h : Ev E fr K L o (.bool (decide p))) (hp : p) : Ev E fr K L o (.bool true) := by rwa [decide_eq_true hp] at h
theorem ev_F {o : Oper} {p : Prop} [Decidable p] (h : Ev E fr K L o (.bool (decide p))) (hp : ¬ p) : Ev E fr K L o (.bool false) := by rwa [decide_eq_false hp] at h
theorem dO {o : Oper} {u v : Value} (h : Ev E fr K L o u) (e : u = v) : Ev E fr K L o v := e ▸ h
theorem gC {dst : Option Tmp} {g : Option (Nat × Bool)} {t kt et : TypeId} {x y : Operand} {b c : Nat} {k : List UInt8} {es : List Ent} {z v : Value} (hm : E.P.underlying t = some (.map kt et)) (hk : E.P.underlying kt = some .string) (hz : mH E.P et = some z) (hx : fr.ev x = some (.map (some b))) (hy : fr.ev y = some (str k)) (hs : Sees K L b (mapO es c)) (hg : mget es k = some v) :
  Ev E fr K L ⟨dst, .lookup t x y true, ty, pos, aft, g⟩ (.tuple #[v, .bool true]) := dO (lJ hm hk hz hx hy hs) (by rw [hg]; rfl)
theorem e9 {dst : Option Tmp} {g : Option (Nat × Bool)} {t kt et : TypeId} {x y : Operand} {b c : Nat} {k : List UInt8} {es : List Ent} {z : Value} (hm : E.P.underlying t = some (.map kt et)) (hk : E.P.underlying kt = some .string) (hz : mH E.P et = some z) (hx : fr.ev x = some (.map (some b))) (hy : fr.ev y = some (str k)) (hs : Sees K L b (mapO es c)) (hg : mget es k = none) :
  Ev E fr K L ⟨dst, .lookup t x y true, ty, pos, aft, g⟩ (.tuple #[z, .bool false]) := dO (lJ hm hk hz hx hy hs) (by rw [hg]; rfl)
end
end Go.SL
end
section
namespace Go.Proofs
open Go Go.SL Go.Syn Go.Box
def Deb (K : Hl) : Prop := ∃ l T fz, K 6 = some (aO l T fz) ∧ l[15]? = some (.int .u8 4)
theorem Deb.mono {K K' : Hl} (h : Deb K) (le : K.le K') : Deb K' := let ⟨l, T, fz, h1, h2⟩ := h; ⟨l, T, fz, le _ _ h1, h2⟩
theorem tI (K : Hl) (hd : Deb K) : Sp Tryz.prog 363 [.int .u64 16] K [] (Val (i64 4) K) := by
 obtain ⟨l, T, fz, hk, hl⟩ := hd;refine a6 Tryz.func363 rfl Tryz.ntmps363 rfl rfl fun F w => ?_
 refine aG (aB ?_);refine aA (aE rfl) rfl ?_;refine aF (aD ?_);refine aG (aG ?_);refine aB ?_;refine aA (aC rfl) rfl ?_;refine aA (bV rfl rfl) rfl ?_;refine aF (aD ?_);refine bO rfl ?_;refine aW ?_;refine aD (aG ?_);refine aB ?_;refine aA (aC rfl) rfl ?_;refine aA (aC rfl) rfl ?_;refine aA (dO (v := .int .u64 18446744073709551600) (wP rfl) aT) rfl ?_;refine aA (dO (v := .int .u64 16) (k4 rfl rfl) aT) rfl ?_;refine aA (dO (v := .int .u64 4573923408821661840) (rC rfl rfl) aT) rfl ?_;refine aA (dO (v := .int .u64 15) (p9 rfl rfl aJ) aT) rfl ?_;refine aA (eQ (j := 15) Tryz.underlying511 ts5 rfl rfl rfl aJ) rfl ?_;refine aA (aM ts5 rfl (.known hk) hl) rfl ?_;refine aA (dO (v := i64 4) (dX Tryz.underlying3 Tryz.underlying5 rfl) aT) rfl ?_;refine aA (aE rfl) rfl ?_;refine aF (aD ?_);refine bB ?_;refine aY rfl rfl (Hl.le_refl _) ?_;exact ⟨rfl, rfl, rfl⟩
theorem xR (K : Hl) (hd : Deb K) : Sp Tryz.prog 349 [.int .u64 16] K [] (Val (i64 4) K) := by
 refine a6 Tryz.func349 rfl Tryz.ntmps349 rfl rfl fun F w => ?_
 refine aG (aB ?_);refine aA (aE rfl) rfl ?_;refine aF (aD ?_);refine aG ?_;refine bO rfl ?_;refine aW ?_;refine aD (aG ?_);refine aB ?_;refine aA (aC rfl) rfl ?_;refine cD rfl rfl (tI _ hd) rfl ?_;refine aA (aE rfl) rfl ?_;refine aF (aD ?_);refine bB ?_;refine aY rfl rfl (Hl.le_refl _) ?_;exact ⟨rfl, rfl, rfl⟩
theorem sZ (K : Hl) : Sp Tryz.prog 348 [i64 16] K [] (Val (.bool true) K) := by
 refine a6 Tryz.func348 rfl Tryz.ntmps348 rfl rfl fun F w => ?_
 refine aG (aB ?_);refine aA (aE rfl) rfl ?_;refine aF (aD ?_);refine aG (aB ?_);refine aA (aC rfl) rfl ?_;refine aA (aC rfl) rfl ?_;refine aA (nU rfl rfl aJ aJ) rfl ?_;refine aA (dO (v := i64 0) (k4 rfl rfl) aT) rfl ?_;refine aA (bV rfl rfl) rfl ?_;refine aA (aE rfl) rfl ?_;refine aF (aD ?_);refine bB ?_;refine aY rfl rfl (Hl.le_refl _) ?_;exact ⟨rfl, rfl, rfl⟩
abbrev digs : aI := [48, 49, 50, 51, 52, 53, 54, 55, 56, 57, 97, 98, 99, 100, 101, 102, 103, 104, 105, 106, 107, 108, 109, 110, 111, 112, 113, 114, 115, 116, 117, 118, 119, 120, 121, 122]
theorem q9 : ∀ {m : Nat}, m < 16 → digs[m]? = some (jA m) := by
 intro m h;have : ∀ k : Fin 16, digs[k.1]? = some (jA k.1) := by decide
 exact this ⟨m, h⟩
theorem aAD {u : Nat} (h : u < 18446744073709551616) : IntKind.u64.wrap (BitVec.ofInt 64 (u : Int) &&& BitVec.ofInt 64 (15 : Int)).toNat = ((u % 16 : Nat) : Int) := by
 have e : (BitVec.ofInt 64 (u : Int) &&& BitVec.ofInt 64 (15 : Int)).toNat = u % 16 := by
  rw [BitVec.toNat_and];have h1 : (BitVec.ofInt 64 (u : Int)).toNat = u := by rw [BitVec.ofInt_natCast, BitVec.toNat_ofNat]; omega
  have h2 : (BitVec.ofInt 64 (15 : Int)).toNat = 2 ^ 4 - 1 := rfl;rw [h1, h2, Nat.and_two_pow_sub_one_eq_mod]
 rw [e];unfold IntKind.wrap IntKind.bits IntKind.signed;simp only [Bool.false_and];have : u % 16 < 16 := Nat.mod_lt _ aJ;simp; omega
theorem shr4 {u : Nat} : (u : Int).fdiv (2 ^ (min ((4 : Int).toNat) 64)) = ((u / 16 : Nat) : Int) := by
 show (u : Int).fdiv (2 ^ 4) = _
 rw [Int.fdiv_eq_ediv_of_nonneg _ aJ];omega
theorem wV {u : Nat} (h : u < 16) : hexN u = [jA u] := by rw [hexN, dif_pos h]
theorem wU {u : Nat} (h : ¬ u < 16) : hexN u = hexN (u / 16) ++ [jA (u % 16)] := by rw [hexN, dif_neg h]
abbrev u8s (l : aI) : List Value := l.map fun c => .int .u8 c.toNat
theorem r6 {cells : List Value} {acc : aI} {i : Nat} {c : UInt8} (h : cells.drop i = u8s acc) (hi : 0 < i) (hl : i ≤ cells.length) : (cells.set (i - 1) (.int .u8 c.toNat)).drop (i - 1) = u8s (c :: acc) := by
 have h1 : i - 1 < (cells.set (i - 1) (.int .u8 c.toNat)).length := by rw [List.length_set]; omega
 rw [List.drop_eq_getElem_cons h1, List.getElem_set_self, show i - 1 + 1 = i by omega, List.drop_set_of_lt aJ, h]
 rfl
theorem wW {cells : List Value} {acc : aI} {i b : Nat} {c : UInt8} {K : Hl} {T : TypeId} {fz : Nat × Nat} (hc : cells.length = 65) (hi1 : 0 < i) (hi2 : i ≤ 65) (ha : cells.drop i = u8s acc) (hk : K b = some (aO (cells.set (i - 1) (.int .u8 c.toNat)) T fz)) :
  Ksl (elB 5) K (.slice (some ⟨b, i - 1, none⟩) (65 - (i - 1)) (65 - (i - 1))) (c :: acc) := by
 have hl : acc.length = 65 - i := by have := congrArg List.length ha; simp [hc] at this; omega
 refine .inr ⟨b, i - 1, 65 - (i - 1), _, fz, ?_, ⟨_, hk⟩, ?_⟩
 ·rw [show (c :: acc).length = 65 - (i - 1) by simp [hl]; omega]
 ·rw [r6 ha hi1 aJ, j4];exact List.take_of_length_le (by simp [elB, iX])
theorem u7 {u i : Nat} (h1 : 49 < i) (h : u < 16 ^ (i - 49)) (hu : ¬ u < 16) : 49 < i - 1 ∧ u / 16 < 16 ^ (i - 1 - 49) := by
 obtain ⟨k, rfl⟩ : ∃ k, i = k + 50 := ⟨i - 50, by omega⟩;cases k with
 | zero => exact absurd (by simpa using h) hu
 | succ k =>
  refine ⟨by omega, ?_⟩
  have e1 : k + 1 + 50 - 49 = k + 1 + 1 := by omega
  have e2 : k + 1 + 50 - 1 - 49 = k + 1 := by omega
  rw [e1, Nat.pow_succ] at h;rw [e2];exact Nat.div_lt_of_lt_mul (by rw [Nat.mul_comm]; exact h)
theorem oM (n : Nat) (hn : n < 18446744073709551616) (K : Hl) (hd : Deb K) : Sp Tryz.prog 328 [.slice none 0 0, .int .u64 n, i64 16, .bool false, .bool false] K [] (Ret fun v K' L' => v = .tuple #[.slice none 0 0, str (hexN n)]) := by
 refine a6 Tryz.func328 rfl Tryz.ntmps328 rfl rfl fun F w => ?_
 refine aG (aB ?_);refine aA (aE rfl) rfl ?_;refine aA (aE rfl) rfl ?_;refine aF (aD ?_);refine aG (aG ?_);refine aB ?_;refine aA (aC rfl) rfl ?_;refine aA (dK rfl rfl) rfl ?_;refine aA (aC rfl) rfl ?_;refine aU rfl rfl ?_;refine aA (aC rfl) rfl ?_;refine aU rfl rfl ?_;refine aA (bV rfl rfl) rfl ?_;refine aA (bA rfl rfl) rfl ?_;refine aA (aC rfl) rfl ?_;refine aU rfl rfl ?_;refine aA (aC rfl) rfl ?_;refine aU rfl rfl ?_;refine aA (i6 rfl rfl) rfl ?_;refine aA (bA rfl rfl) rfl ?_;refine aF (aD ?_);refine bO rfl ?_;refine aW ?_;refine aD (aG ?_);refine aB ?_;refine ol_s (cE aA2) rfl ?_;rintro _ K _ ⟨b12, rfl, rfl, rfl⟩ -;refine aF (aD ?_);refine aG (aB ?_);refine aA (aE rfl) rfl ?_;refine aF (aD ?_);refine aG (aG ?_);refine aB ?_;refine aA (aC rfl) rfl ?_;refine aF (aD ?_);refine bO rfl ?_;refine aW ?_;refine aD (aG ?_);refine aG (aB ?_);refine aA (aC rfl) rfl ?_;refine cD rfl rfl (sZ _) rfl ?_;refine aF (aD ?_);refine c7 rfl ?_;refine aG (aB ?_);refine aA (aC rfl) rfl ?_;refine aA (dO (v := .int .u64 16) (dX Tryz.underlying257 Tryz.underlying3 rfl) aT) rfl ?_;refine cD rfl rfl (xR _ hd) rfl ?_;refine aA (dO (v := .int .u64 4) (dX Tryz.underlying257 Tryz.underlying3 rfl) aT) rfl ?_;refine aA (aE rfl) rfl ?_;refine aF (aD ?_);refine aG (aB ?_);refine aA (aC rfl) rfl ?_;refine aA (dO (v := .int .u64 16) (dX Tryz.underlying345 Tryz.underlying3 rfl) aT) rfl ?_;refine aA (aE rfl) rfl ?_;refine aF (aD ?_);refine aG (aB ?_);refine aA (aC rfl) rfl ?_;refine aA (dO (v := .int .u64 16) (dX Tryz.underlying257 Tryz.underlying3 rfl) aT) rfl ?_;refine aA (dO (v := .int .u64 15) (k5 rfl rfl) aT) rfl ?_;refine aA (aE rfl) rfl ?_;refine aF (aD ?_);refine aG (a8 ?_);refine iM (fun (u i : Nat) (cells : List Value) => cells.length = 65 ∧ 49 < i ∧ i ≤ 65 ∧ u < 16 ^ (i - 49) ∧ u < 18446744073709551616 ∧ ∃ acc, cells.drop i = u8s acc ∧ hexN n = hexN u ++ acc) (fun u i _ => [(1, .int .u64 u), (3, .bool false), (4, .bool false), (10, .slice none 0 0), (12, ptr b12), (13, i64 i), (14, .int .u64 4), (15, .int .u64 16), (16, .int .u64 15)]) (fun _ _ _ => K) (fun _ _ cells => [pt b12 (aO cells 476)]) (fun u _ _ => u) n 65 _ ⟨rfl, by omega, by omega, by simpa using hn, hn, [], rfl, by simp⟩ (.cons 1 rfl (.cons 3 rfl (.cons 4 rfl (.cons 10 rfl (.cons 12 rfl (.cons 13 rfl (.cons 14 rfl (.cons 15 rfl (.cons 16 rfl .nil))))))))) rfl (fun _ h => h) ?_;intro u i cells ⟨hc, hi1, hi2, hu1, hu2, acc, ha1, ha2⟩;refine aG (aG ?_);refine aB ?_;refine aA (aC rfl) rfl ?_;refine aA (aC rfl) rfl ?_;refine aA (gV rfl rfl) rfl ?_;refine aF (aD ?_);refine bM 46 rfl (fun h46 => ?_) (fun h46 => ?_)
 ·
  have hi3 := u7 hi1 hu1 aJ;refine aW ?_;refine aD (a8 ?_);refine aG (aB ?_);refine aA (aC rfl) rfl ?_;refine aA (dO (v := i64 ((i - 1 : Nat) : Int)) (nU rfl rfl aJ aJ) (congrArg i64 aJ)) rfl ?_;refine aA (aE rfl) rfl ?_;refine aF (aD ?_);refine aG (aB ?_);refine aA (aC rfl) rfl ?_;refine aA (aC rfl) rfl ?_;refine aA (aC rfl) rfl ?_;refine aA (dO (v := .int .u64 ((u % 16 : Nat) : Int)) (k4 rfl rfl) (congrArg (Value.int .u64) (aAD hu2))) rfl ?_;refine aA (eC Tryz.underlying9 (l := digs) rfl rfl rfl (q9 (Nat.mod_lt _ aJ))) rfl ?_;refine aA (eQ Tryz.underlying476 ts5 rfl rfl rfl aJ) rfl ?_;refine bZ (bJ ts5 rfl rfl rfl bE (kD aJ) rfl) ?_;rintro _ K _ ⟨rfl, rfl⟩ -;refine aF (aD ?_);refine aB ?_;refine aA (aC rfl) rfl ?_;refine aA (aC rfl) rfl ?_;refine aA (dO (v := .int .u64 ((u / 16 : Nat) : Int)) (p9 rfl rfl aJ) (congrArg (Value.int .u64) shr4)) rfl ?_;refine aA (aE rfl) rfl ?_;refine aF (aX ?_);exact fW (u / 16) (i - 1) _ ⟨by simpa using hc, hi3.1, by omega, hi3.2, by omega, _, r6 (c := jA (u % 16)) ha1 aJ aJ, by rw [ha2, wU aJ]; simp⟩ aJ (.cons 1 rfl (.cons 3 rfl (.cons 4 rfl (.cons 10 rfl (.cons 12 rfl (.cons 13 rfl (.cons 14 rfl (.cons 15 rfl (.cons 16 rfl .nil))))))))) rfl (fun _ h => h)
 ·
  refine c6 ?_;refine aV ?_;refine aV ?_;refine bF ?_;refine aD (aG ?_);refine aB ?_;refine aA (aC rfl) rfl ?_;refine aA (dO (v := i64 ((i - 1 : Nat) : Int)) (nU rfl rfl aJ aJ) (congrArg i64 aJ)) rfl ?_;refine aA (aE rfl) rfl ?_;refine aF (aD ?_);refine aB ?_;refine aA (aC rfl) rfl ?_;refine aA (aC rfl) rfl ?_;refine aA (eC Tryz.underlying9 (l := digs) rfl rfl rfl (q9 aJ)) rfl ?_;refine aA (eQ Tryz.underlying476 ts5 rfl rfl rfl aJ) rfl ?_;refine bZ (bJ ts5 rfl rfl rfl bE (kD aJ) rfl) ?_;rintro _ K _ ⟨rfl, rfl⟩ -;refine aF (aD ?_);refine aG (aG ?_);refine aB ?_;refine aA (aC rfl) rfl ?_;refine aF (aD ?_);refine bO rfl ?_;refine aW ?_;refine aD (aG ?_);refine aG (aB ?_);refine aA (aC rfl) rfl ?_;refine aF (aD ?_);refine bO rfl ?_;refine aW ?_;refine aD (aG ?_);refine aB ?_;refine kC fun K2 le2 hb => ?_
  refine aA (aC rfl) rfl ?_;refine aA (kY Tryz.underlying476 ts5 rfl rfl rfl aJ) rfl ?_;refine aA (jO Tryz.underlying130 Tryz.underlying5 Tryz.underlying9 rfl (.known (wW hc aJ hi2 ha1 hb))) rfl ?_;refine aA (aE rfl) rfl ?_;refine aF (aD ?_);refine bB ?_;refine dS rfl rfl rfl le2 ?_;exact ⟨_, rfl, by rw [ha2, wV aJ]; rfl⟩
theorem y7 (n : Nat) (hn : n < 18446744073709551616) (K : Hl) (hd : Deb K) : Sp Tryz.prog 294 [.int .u64 n, i64 16] K [] (Ret fun v K' L' => v = str (hexN n)) := by
 refine a6 Tryz.func294 rfl Tryz.ntmps294 rfl rfl fun F w => ?_
 refine aG (aB ?_);refine aA (aE rfl) rfl ?_;refine aF (aD ?_);refine aG (aG ?_);refine aB ?_;refine aA (aC rfl) rfl ?_;refine aA (bV rfl rfl) rfl ?_;refine aF (aD ?_);refine bO rfl ?_;refine aW ?_;refine aD (aG ?_);refine aB ?_;refine aA (aC rfl) rfl ?_;refine aA (aC rfl) rfl ?_;refine bG rfl rfl (oM n hn _ hd) .nil rfl ?_;rintro _ K1 L1 rfl le1;refine aA (aC rfl) rfl ?_;refine aA (aQ rfl rfl) rfl ?_;refine aA (aQ rfl rfl) rfl ?_;refine aA (aE rfl) rfl ?_;refine aA (aE rfl) rfl ?_;refine aF (aD ?_);refine aG (aB ?_);refine aA (aC rfl) rfl ?_;refine aA (aE rfl) rfl ?_;refine aF (aD ?_);refine bB ?_;refine aY rfl rfl le1 ?_;exact ⟨_, rfl, rfl⟩
theorem wX (n : Nat) (hn : n < 18446744073709551616) (K : Hl) (hd : Deb K) : Sp Tryz.prog 225 [.int .u64 n, i64 16] K [] (Val (str (hexN n)) K) := by
 have h : Sp Tryz.prog 225 [.int .u64 n, i64 16] K [] (fun e _ L' => (fun e L' => e = .returned (str (hexN n)) ∧ L' = []) e L') := by
  refine a6 Tryz.func225 rfl Tryz.ntmps225 rfl rfl fun F w => ?_
  refine aG (aB ?_);refine aA (aE rfl) rfl ?_;refine aF (aD ?_);refine aG (aB ?_);refine aA (aC rfl) rfl ?_;refine aA (aC rfl) rfl ?_;refine bG rfl rfl (y7 n hn _ hd) .nil rfl ?_;rintro _ K1 L1 rfl le1;refine aA (aE rfl) rfl ?_;refine aF (aD ?_);refine bB ?_;refine bC .nil ?_;refine aY rfl rfl le1 ?_;exact ⟨rfl, rfl⟩
 exact (xJ h).mono fun e K' L' ⟨h1, h2, h3⟩ => ⟨h2, h1, h3⟩
end Go.Proofs
end
section
set_option maxRecDepth 100000
namespace Go.Proofs
open Go Go.SL Go.ChangeShapes Go.WideShapes Go.RowKit
namespace TzRow
abbrev yB : List (String × DataW Unit) := [("math/bits.deBruijn32tab", YthopmddkpdehiaaGreatDoor.Rows.laid_math_bits_deBruijn32tab), ("math/bits.deBruijn64tab", YthopmddkpdehiaaGreatDoor.Rows.laid_math_bits_deBruijn64tab), ("internal/strconv.uint64pow10", YthopmddkpdehiaaGreatDoor.Rows.laid_internal_strconv_uint64pow10), ("errors.errorType", YthopmddkpdehiaaGreatDoor.Rows.laid_errors_errorType), ("strconv.ErrRange", YthopmddkpdehiaaGreatDoor.Rows.laid_strconv_ErrRange), ("strconv.ErrSyntax", YthopmddkpdehiaaGreatDoor.Rows.laid_strconv_ErrSyntax)]
def aAE : List Int := [0, 1, 56, 2, 57, 49, 28, 3, 61, 58, 42, 50, 38, 29, 17, 4, 62, 47, 59, 36, 45, 43, 51, 22, 53, 39, 33, 30, 24, 18, 12, 5, 63, 55, 48, 27, 60, 41, 37, 16, 46, 35, 44, 21, 52, 32, 23, 11, 54, 26, 40, 15, 34, 20, 31, 10, 25, 14, 19, 9, 13, 8, 7, 6]
theorem gDeb : Tryz.prog.globalNamed "math/bits.deBruijn64tab" = some 6 := by kernel_rfl
theorem aAH : (Tryz.prog.globals[6]?).map (·.type) = some 511 := by kernel_rfl
theorem of_laid6 {W : World} (hL : laidMetH Tryz.prog yB W) (hS : W.ShapedOpen Tryz.prog) : Glob (hp W) ∧ ErrT (hp W) ∧ Deb (hp W) := by
 have h' : laidMet Tryz.prog [("math/bits.deBruijn32tab", YthopmddkpdehiaaGreatDoor.Rows.laid_math_bits_deBruijn32tab), ("math/bits.deBruijn64tab", YthopmddkpdehiaaGreatDoor.Rows.laid_math_bits_deBruijn64tab), ("internal/strconv.uint64pow10", YthopmddkpdehiaaGreatDoor.Rows.laid_internal_strconv_uint64pow10), ("strconv.ErrRange", YthopmddkpdehiaaGreatDoor.Rows.laid_strconv_ErrRange), ("strconv.ErrSyntax", YthopmddkpdehiaaGreatDoor.Rows.laid_strconv_ErrSyntax)] W ∧ handlesMet Tryz.prog [("errors.errorType", YthopmddkpdehiaaGreatDoor.Rows.laid_errors_errorType)] W := hL;refine ⟨⟨uU hS, fun w le => ?_⟩, sX (l := []) h'.2, ?_⟩
 ·exact zU (Lib.tabIs_of_head (rest := [("strconv.ErrRange", YthopmddkpdehiaaGreatDoor.Rows.laid_strconv_ErrRange), ("strconv.ErrSyntax", YthopmddkpdehiaaGreatDoor.Rows.laid_strconv_ErrSyntax)]) gPow aAI Tryz.underlying475 Tryz.underlying345 aT aT (h'.1.tail.tail)) le
 ·have ht : Lib.TabIs Tryz.prog W "math/bits.deBruijn64tab" .u8 aAE := Lib.tabIs_of_head (rest := [("internal/strconv.uint64pow10", YthopmddkpdehiaaGreatDoor.Rows.laid_internal_strconv_uint64pow10), ("strconv.ErrRange", YthopmddkpdehiaaGreatDoor.Rows.laid_strconv_ErrRange), ("strconv.ErrSyntax", YthopmddkpdehiaaGreatDoor.Rows.laid_strconv_ErrSyntax)]) gDeb aAH Tryz.underlying511 Tryz.underlying5 aT aT h'.1.tail;unfold Lib.TabIs World.var? at ht;rw [gDeb] at ht;simp only [Option.bind_some] at ht;split at ht
  ·rename_i cs T fz hw;have := Option.some.inj ht;subst this;exact ⟨_, T, fz, hw, rfl⟩
  ·cases ht
theorem door_met6 (os : Os) (args : Array Value) : laidMetH Tryz.prog yB ((World.doorLaid Tryz.prog 100 os).forCall (fun _ _ => 0) ⟨#[], args, []⟩).memory :=
 laidMetH_of_parts3 (fuel := 8) (laidMet_of_run' 8 aT aT) aT aT
end TzRow
end Go.Proofs
end
section
set_option maxRecDepth 100000
namespace Go.Proofs
open Go Go.SL Go.Syn Go.Mach Go.ChangeShapes Go.WideShapes Go.RowKit
namespace TzRow
abbrev bulk {H : Type} (d : DataW H) : Nat := YthopmddkpdehiaaGreatDoor.Rows.uptoBulk d
abbrev mR {H : Type} (d : List (DataW H)) : Nat := YthopmddkpdehiaaGreatDoor.Rows.uptoBulkAll d
theorem bulk_in {H : Type} {d : DataW H} {l : List (DataW H)} (h : d ∈ l) : bulk d ≤ mR l := by
 induction l with
 | nil => cases h
 | cons x r ih =>
  show _ ≤ bulk x + mR r
  rcases List.mem_cons.1 h with e | e
  ·subst e; omega
  ·have := ih e; omega
theorem pW {H : Type} (l r : List (DataW H)) (d : DataW H) (h : d ∈ l) : bulk d ≤ bulk (.slice l r) := by
 have := bulk_in h
 show _ ≤ mR l + mR r + 1
 omega
theorem tU {H : Type} (s : aI) : bulk (DataW.lit (H := H) (.string s)) = s.length + 1 := by simp [bulk, YthopmddkpdehiaaGreatDoor.Rows.uptoBulk]
theorem bulk_bound {H : Type} {l : List (DataW H)} (hk : YthopmddkpdehiaaGreatDoor.Rows.uptoSmall H l = true) : mR l ≤ 1048576 := of_decide_eq_true hk
section
variable {H : Type} {enc : TypeId × Value → H} {W : World} {base : Nat} {sp : Nat → Bool} {held : Bool}
theorem y8 {n : Nat} {cs : List Value} {x : DataW H × List MemPlace} (h : DataW.trod enc Tryz.prog W base sp held n 34 cs = some x) : ∃ a : Action, cs = cS.enc a ∧ a.2.length ≤ bulk x.1 ∧ a.2.length ∈ x.1.weights Tryz.prog 34 := by
 obtain ⟨m, hl, hf⟩ := oB Tryz.underlying34 h;have c34 : Tryz.prog.cellsOf 34 = 2 := by kernel_rfl
 have c9 : Tryz.prog.cellsOf 9 = 1 := by kernel_rfl
 have c3 : Tryz.prog.cellsOf 3 = 1 := by kernel_rfl
 rw [c34] at hl
 match cs, hl, hf with
 | [c0, c1], _, hf =>
  obtain ⟨y0, h0, w0, _⟩ := hf 0 _ rfl;obtain ⟨y1, h1, w1, parts, e1, e2⟩ := hf 1 _ rfl;dsimp only at h0 h1 w0 w1;rw [c3] at h0;rw [c9] at h1;obtain ⟨i, k0, _⟩ := vM Tryz.underlying3 h0;obtain ⟨l1, k1, k2⟩ := vN Tryz.underlying9 h1;simp at k0 k1;subst k0 k1;refine ⟨(i, l1), rfl, ?_, w1 _ (by rw [k2]; simp [DataW.weights])⟩
  have := bulk_in e2;rw [k2, tU] at this;rw [e1]
  show l1.length ≤ mR parts + 1
  omega
theorem in_acts {v : Value} {d : DataW H} {p : List MemPlace} (hv : Value.okWide Tryz.prog W .any base 29 v) (h : DataW.Trod enc Tryz.prog W 0 sp held 29 v d p) (hw : ∀ k ∈ d.weights Tryz.prog 29, k ≤ reachBytes) :
  ∃ xs : List Action, Ksl cS (hp W) v xs ∧ (∀ a ∈ xs, a.2.length ≤ bulk d) ∧ xs.length ≤ 140737488355328 := by
 obtain ⟨a, len, cap, rfl⟩ := okWide_slice Tryz.underlying29 hv;obtain ⟨n, hf⟩ := h;have hf' : DataW.trod enc Tryz.prog W 0 sp held n 29 [.slice a len cap] = some (d, p) := hf;have b34 : Tryz.prog.bytesOf 34 = 24 := by kernel_rfl
 obtain ⟨xs, h1, h2, h3⟩ := w7 bulk pW (k := cS) (G := fun a => a.2.length ≤ bulk d) Tryz.underlying29 aT (by decide) (fun n cs y hy _ hm => by
  obtain ⟨a, ha, hb, _⟩ := y8 hy;exact ⟨a, ha, Nat.le_trans hb hm⟩) hf'
 refine ⟨xs, h1, h2, ?_⟩
 have hr : reachBytes = 140737488351232 := rfl;rcases h3 with rfl | ⟨k, hk, hk2⟩
 ·simp
 ·have e34 : cS.e = 34 := rfl;rw [e34, b34] at hk2;have := hw k hk;omega
end
end TzRow
end Go.Proofs
end
section
namespace Go.SL
open Go.MapKept
def mdel (k : List UInt8) : List Ent → List Ent
 | [] => []
 | e :: r => if k = e.1 then r else e :: mdel k r
theorem mY {k : List UInt8} : ∀ {es : List Ent} {i : Nat}, dP k es i = none → mdel k es = es
 | [], _, _ => rfl
 | e :: es, i, h => by
  unfold dP at h;unfold mdel;split at h
  ·cases h
  ·rename_i hk;rw [if_neg hk, mY h]
theorem rF {k : List UInt8} : ∀ {es : List Ent} {i j : Nat} {u : Value}, dP k es i = some (j, u) → i ≤ j ∧ j - i < es.length ∧ es.eraseIdx (j - i) = mdel k es
 | [], _, _, _, h => by cases h
 | e :: es, i, j, u, h => by
  unfold dP at h;unfold mdel;split at h
  ·rename_i hk;cases h
   rw [if_pos hk, Nat.sub_self];exact ⟨Nat.le_refl _, by simp, rfl⟩
  ·rename_i hk;obtain ⟨h1, h2, h3⟩ := rF h;have e1 : j - i = (j - (i + 1)) + 1 := by omega
   rw [if_neg hk, e1];refine ⟨by omega, by simp only [List.length_cons]; omega, ?_⟩
   rw [List.eraseIdx_cons_succ, h3]
theorem jN {α β : Type} (f : α → β) : ∀ (l : List α) (i : Nat), (l.map f).eraseIdx i = (l.eraseIdx i).map f
 | [], _ => rfl
 | _ :: _, 0 => rfl
 | a :: l, i + 1 => by simp [List.eraseIdx_cons_succ, jN f l i]
section
variable {E : Env} {fr : Fr} {K : Hl} {L L' : List Asn} {dst : Option Tmp} {ty : TypeId} {pos : String} {aft : Array Edge} {g : Option (Nat × Bool)} {x y : Operand} {t kt et t2 : TypeId} {b : Nat} {es : List Ent} {c : Nat} {k : List UInt8}
theorem qN {P : Program} {w : World} (hm : P.underlying t = some (.map kt et)) (hk : P.underlying kt = some .string) (hb : w.heap[b]? = some (mapO es c)) :
  (Builtin.delete_ #[t, t2] ty #[.map (some b), str k]).run P w = .ok (.tuple #[]) { w with heap := w.heap.setIfInBounds b (mapO (mdel k es) c) } := by
 have h1 : ∀ z, (Instr.checkKey z 10000 kt (str k)).run P w = .ok () w := fun z => run_checkKey hk (d := .string) (k := str k) trivial _ 9999
 have h2 := run_findKey (w := w) (kt := kt) hk (fN k es 0);unfold Builtin.delete_;simp only [List.getElem?_toArray, List.getElem?_cons_zero, List.getElem?_cons_succ];rw [aL (run_underlying hm w)];simp only [];have key : ∀ o : Obj, (setObj b o).run P w = .ok () { w with heap := w.heap.setIfInBounds b o } := fun o => MapKept.run_setObj_map _ hb
 show ((getObj b) >>= fun _ => _).run P w = _
 rw [aL (MapKept.run_getObj_map hb)];simp only [];rw [aL (h1 _)]
 show ((Instr.findKey kt (str k) (es.map ent)) >>= fun _ => _).run P w = _
 rw [aL h2];cases hf : dP k es 0 with
 | none =>
  show ((setObj b (mapO es c)) >>= fun _ => _).run P w = _
  rw [aL (key _), mY hf]; rfl
 | some p =>
  obtain ⟨i, u⟩ := p;obtain ⟨_, h3, h4⟩ := rF hf;rw [Nat.sub_zero] at h3 h4;have e1 : ((es.map ent).toArray.eraseIdxIfInBounds i) = ((mdel k es).map ent).toArray := by
   rw [← h4];simp [Array.eraseIdxIfInBounds, h3, List.eraseIdx_toArray, jN]
  show ((setObj b (.map ((es.map ent).toArray.eraseIdxIfInBounds i) c)) >>= fun _ => _).run P w = _
  rw [aL (key _), e1]; rfl
theorem vA {dst : Option Tmp} {ats : Array TypeId} (ha : ats = #[t, t2]) (hm : E.P.underlying t = some (.map kt et)) (hk : E.P.underlying kt = some .string) (hx : fr.ev x = some (.map (some b))) (hy : fr.ev y = some (str k))
  (hF : Fnd (pt b (mapO es c)) (pt b (mapO (mdel k es) c)) L L') : EfS E fr K L ⟨dst, .call ⟨.builtin .delete, #[x, y], ats⟩, ty, pos, aft, g⟩ (fun u K' L'' => u = .tuple #[] ∧ K' = K ∧ L'' = L') := by
 intro a w f j;subst ha;have hb := j.mem hF;have e1 : Array.map a.eval #[x, y] = #[.map (some b), str k] := by simp [f.ev hx, f.ev hy]
 have hs := MapKept.heap_set (o' := mapO (mdel k es) c) hb;refine ⟨_, _, _, _, .inl ?_, ⟨rfl, rfl, rfl⟩, Hl.le_refl _, j.writeAt hF (by simp) hs.1 hs.2⟩
 simp only [execOp, resolve, e1, bind, pure, Sem.bind, invoke, builtin];exact bS (qN hm hk hb)
end
end Go.SL
end
section
namespace Go.SL
open Go.MapKept
theorem pA {P : Program} (w : World) (ty : TypeId) (b bm since c0 : Nat) (seen : Array Nat) (es : Array MapEntry) (clock : Nat) (hbi : w.heap[b]? = some (.mapIter (some bm) since seen c0)) (hb : w.heap[bm]? = some (.map es clock)) (hold : ∀ x ∈ es.toList, x.born < since) (hsc : since ≤ c0) :
  ((leftOf es seen).size = 0 ∧ (Instr.next (.pointer (some ⟨b, 0, none⟩)) false ty).run P w = .ok (.tuple #[.bool false]) w) ∨
  ∃ e ∈ (leftOf es seen).toList, ∃ w1 : World, w1.os = w.os ∧ w1.tape = w.tape ∧ w1.output = w.output ∧ w1.heap = w.heap ∧ (Instr.next (.pointer (some ⟨b, 0, none⟩)) false ty).run P w = .ok (.tuple #[.bool true, e.key, e.val]) { w1 with heap := w.heap.setIfInBounds b (.mapIter (some bm) since (seen.push e.born) clock) } := by
 simp only [Instr.next, getObj, Sem.run_bind, Sem.run, hbi, hb, Result.andThen, next_test_false seen es since c0 hold hsc, Bool.false_eq_true, if_false];unfold leftOf;have hmem : ∀ x ∈ (Array.filter (fun e => !seen.contains e.born) es).toList, x.born < since := fun x hx => hold x (by simp at hx ⊢; exact hx.1)
 generalize Array.filter (fun e => !seen.contains e.born) es = L at hmem ⊢
 have e1 : L.filter (fun x => decide (x.born < since)) = L := Array.filter_eq_self.2 (fun x hx => by simpa using hmem x (by simpa using hx));have e2 : L.filter (fun x => decide (x.born ≥ since)) = #[] := by
  rw [Array.filter_eq_empty_iff];intro x hx;have := hmem x (by simpa using hx);simp;omega
 simp only [e1, e2, Array.append_empty]
 by_cases h0 : L.size = 0
 ·left
  have : L = #[] := Array.eq_empty_of_size_eq_zero h0;subst this;refine ⟨rfl, ?_⟩
  simp [choose, Sem.run, Question.forced]
 ·right
  have hne : L.isEmpty = false := by simp [Array.isEmpty, h0]
  simp only [hne, Bool.false_eq_true, if_false, Array.empty_append, Array.size_map];have hch : ∃ (j : Nat) (w1 : World), j < L.size ∧ (w1.os = w.os ∧ w1.tape = w.tape ∧ w1.output = w.output ∧ w1.heap = w.heap) ∧ (choose (Question.mapNext L.size)).run P w = .ok j w1 := by
   by_cases hf : L.size ≤ 1
   ·exact ⟨0, w, by omega, ⟨rfl, rfl, rfl, rfl⟩, by simp [choose, Sem.run, Question.forced, hf]⟩
   ·exact ⟨_, w.drew, Nat.mod_lt _ aJ, ⟨rfl, rfl, rfl, rfl⟩, by
     simp only [choose, Sem.run, Question.forced, decide_eq_true_eq, hf, if_false, Question.cut]
     rfl⟩
  obtain ⟨j, w1, hj, ⟨a1, a2, a3, a4⟩, hrun⟩ := hch;refine ⟨L[j], by simp, w1, a1, a2, a3, a4, ?_⟩
  have hset : ∀ (o' : Obj), (setObj b o').run P w1 = .ok () { w1 with heap := w.heap.setIfInBounds b o' } := fun o' => by
   simp only [setObj, Sem.run];rw [a4, hbi]
  simp only [hrun, Array.getElem?_map, Array.getElem?_eq_getElem hj, Option.map_some, Sem.run_bind, hset, Result.andThen]
  rfl
abbrev mit (b m since : Nat) (seen : List Nat) (last : Nat) : Asn := pt b (.mapIter (some m) since seen.toArray last)
structure Fresh (es : List Ent) (c : Nat) : Prop where
 lt : ∀ e ∈ es, e.2.2 < c
 nd : (es.map (·.2.2)).Nodup
section
variable {E : Env} {fr : Fr} {K : Hl} {L L' : List Asn} {dst : Option Tmp} {ty : TypeId} {pos : String} {aft : Array Edge} {g : Option (Nat × Bool)} {x : Operand} {t kt et : TypeId} {b m c : Nat} {es : List Ent} {seen : List Nat}
theorem lY (hu : E.P.underlying t = some (.map kt et)) (hx : fr.ev x = some (.map (some m))) (hs : Sees K L m (mapO es c)) : EfS E fr K L ⟨dst, .range t x, ty, pos, aft, g⟩ (fun v K' L' => ∃ b, v = ptr b ∧ K' = K ∧ L' = mit b m c [] c :: L) := by
 intro a w f i;have hb := hs.at i;refine ⟨ptr w.heap.size, w.alloc (.mapIter (some m) c #[] c), K, mit w.heap.size m c [] c :: L, .inl ?_, ⟨_, rfl, rfl, rfl⟩, Hl.le_refl _, i.alloc _⟩
 simp only [execOp, f.ev hx, bind];exact aL (run_range_map w t kt et m _ c hu hb)
theorem m7 {M : Nat → List Asn} (hx : fr.ev x = some (ptr b)) (hs : Sees K L m (mapO es c)) (hf : Fresh es c) (hT : ∀ n, Fnd (mit b m c seen c) (mit b m c (seen ++ [n]) c) L (M n)) :
  EfS E fr K L ⟨dst, .next x false, ty, pos, aft, g⟩ (fun v K' L'' => K' = K ∧ ((v = .tuple #[.bool false] ∧ L'' = L ∧ ∀ e ∈ es, e.2.2 ∈ seen) ∨ ∃ e ∈ es, e.2.2 ∉ seen ∧ v = .tuple #[.bool true, str e.1, e.2.1] ∧ L'' = M e.2.2)) := by
 intro a w f i;have hb := hs.at i;have hbi := i.mem (hT 0);have hold : ∀ y ∈ ((es.map ent).toArray).toList, y.born < c := by
  intro y hy;have hy2 : y ∈ es.map ent := hy;obtain ⟨e, he, rfl⟩ := List.mem_map.1 hy2;exact hf.lt e he
 rcases pA (P := E.P) w ty b m c c seen.toArray (es.map ent).toArray c hbi hb hold (Nat.le_refl _) with ⟨h0, hr⟩ | ⟨y, hy, w1, a1, a2, a3, a4, hr⟩
 ·refine ⟨_, w, K, L, .inl ?_, ⟨rfl, .inl ⟨rfl, rfl, fun e he => ?_⟩⟩, Hl.le_refl _, i⟩
  ·simp only [execOp, f.ev hx, bind];exact aL hr
  ·apply Classical.byContradiction
   intro hn;have : ent e ∈ (leftOf (es.map ent).toArray seen.toArray).toList := by
    unfold leftOf;simp only [Array.toList_filter, List.mem_filter];exact ⟨List.mem_map_of_mem he, by simp [ent, hn]⟩
   have h1 := List.length_pos_of_mem this;rw [Array.length_toList] at h1;omega
 ·unfold leftOf at hy;simp only [Array.toList_filter, List.mem_filter] at hy;obtain ⟨e, he, rfl⟩ := List.mem_map.1 hy.1;have hn : e.2.2 ∉ seen := by have := hy.2; simpa [ent] using this
  refine ⟨_, { w1 with heap := w.heap.setIfInBounds b (.mapIter (some m) c (seen.toArray.push (ent e).born) c) }, K, M e.2.2, .inl ?_, ⟨rfl, .inr ⟨e, he, hn, rfl, rfl⟩⟩, Hl.le_refl _, ?_⟩
  ·simp only [execOp, f.ev hx, bind];exact aL hr
  ·have hlt : b < w.heap.size := (Array.getElem?_eq_some_iff.1 hbi).1;have e1 : (seen.toArray.push (ent e).born) = (seen ++ [e.2.2]).toArray := by simp [ent]
   rw [e1];have j := i.writeAt (hT e.2.2) (H := w.heap.setIfInBounds b (.mapIter (some m) c (seen ++ [e.2.2]).toArray c)) (by simp) (by simp [hlt]) (fun y hy => by rw [Array.getElem?_setIfInBounds_ne (Ne.symm hy)]);exact ⟨a1.trans j.os, a2.trans j.tape, a3.trans j.output, j.size, j.rep⟩
theorem n5 {P : Program} (w : World) (b bm since : Nat) (seen : Array Nat) (es : Array MapEntry) (clock : Nat) (e : MapEntry) (hbi : w.heap[b]? = some (.mapIter (some bm) since (seen.push e.born) clock)) (hb : w.heap[bm]? = some (.map es clock)) (he : e ∈ es.toList) (hn : (es.toList.map (·.born)).Nodup) :
  (Instr.entry (.pointer (some ⟨b, 0, none⟩))).run P w = .ok (.tuple #[e.key, e.val]) w := by
 have hf : es.find? (·.born == e.born) = some e := by rw [← Array.find?_toList]; exact find_born e es.toList hn he
 simp only [Instr.entry, getObj, Sem.run_bind, Sem.run, hbi, hb, Result.andThen, Array.back?_push, bne_self_eq_false, Bool.false_eq_true, if_false, hf]
 rfl
theorem kS {e : Ent} (hx : fr.ev x = some (ptr b)) (hs : Sees K L m (mapO es c)) (hf : Fresh es c) (he : e ∈ es) (hT : Hs (mit b m c (seen ++ [e.2.2]) c) L) : Ev E fr K L ⟨dst, .entry x, ty, pos, aft, g⟩ (.tuple #[str e.1, e.2.1]) := by
 intro a w f i;have hb := hs.at i;have hbi := (Sees.own (K := K) hT).at i;have e1 : (seen.toArray.push (ent e).born) = (seen ++ [e.2.2]).toArray := by simp [ent]
 simp only [execOp, f.ev hx, bind];refine aL (n5 w b m c seen.toArray (es.map ent).toArray c (ent e) (by rw [e1]; exact hbi) hb (List.mem_map_of_mem he) ?_)
 have := hf.nd
 show ((es.map ent).map (·.born)).Nodup
 rw [List.map_map];exact this
end
end Go.SL
end
section
namespace Go.SL
theorem cQ (k : List UInt8) (e : Ent) (es : List Ent) : mget (e :: es) k = if k = e.1 then some e.2.1 else mget es k := by
 unfold mget;rw [List.find?_cons]
 by_cases h : k = e.1
 ·simp [h]
 ·rw [if_neg h]; simp [h]
theorem lS {k : List UInt8} {v : Value} {c : Nat} : ∀ (es : List Ent), (mset k v c es).map (·.2.2) = if (mget es k).isSome = true then es.map (·.2.2) else es.map (·.2.2) ++ [c]
 | [] => by simp [mset, mget]
 | e :: es => by
  unfold mset;rw [cQ]
  by_cases h : k = e.1
  ·rw [if_pos h, if_pos h]; simp
  ·rw [if_neg h, if_neg h, List.map_cons, lS es];split <;> simp
theorem m0 {k : List UInt8} {v : Value} {c : Nat} : ∀ (es : List Ent), (mset k v c es).map (·.1) = if (mget es k).isSome = true then es.map (·.1) else es.map (·.1) ++ [k]
 | [] => by simp [mset, mget]
 | e :: es => by
  unfold mset;rw [cQ]
  by_cases h : k = e.1
  ·rw [if_pos h, if_pos h]; simp
  ·rw [if_neg h, if_neg h, List.map_cons, m0 es];split <;> simp
theorem gZ {k : List UInt8} : ∀ (es : List Ent), (mget es k).isSome = true ↔ k ∈ es.map (·.1)
 | [] => by simp [mget]
 | e :: es => by
  rw [cQ]
  by_cases h : k = e.1
  ·rw [if_pos h]; simp [h]
  ·rw [if_neg h, gZ es]; simp [h]
theorem kB {k j : List UInt8} {v : Value} {c : Nat} : ∀ (es : List Ent), mget (mset k v c es) j = if j = k then some v else mget es j
 | [] => by
  unfold mset; rw [cQ]
 | e :: es => by
  unfold mset
  by_cases h : k = e.1
  ·rw [if_pos h, cQ, cQ]
   by_cases h2 : j = k
   ·rw [if_pos h2, if_pos (by rw [h2]; exact h)]
   ·rw [if_neg h2, if_neg (fun h3 => h2 (h3.trans h.symm)), if_neg (fun h3 => h2 (h3.trans h.symm))]
  ·rw [if_neg h, cQ, cQ, kB es]
   by_cases h2 : j = e.1
   ·rw [if_pos h2, if_pos h2, if_neg (fun h3 => h (h3.symm.trans h2))]
   ·rw [if_neg h2, if_neg h2]
theorem jR {k : List UInt8} : ∀ (es : List Ent), (mdel k es).Sublist es
 | [] => .slnil
 | e :: es => by
  unfold mdel;split
  ·exact List.sublist_cons_self _ _
  ·exact (jR es).cons_cons _
theorem n3 {k : List UInt8} {es : List Ent} (h : k ∉ es.map (·.1)) : mget es k = none := by
 cases hm : mget es k with
 | none => rfl
 | some v => exact absurd ((gZ es).1 (by rw [hm]; rfl)) h
theorem mZ {k j : List UInt8} : ∀ {es : List Ent}, (es.map (·.1)).Nodup → mget (mdel k es) j = if j = k then none else mget es j
 | [], _ => by simp [mdel, mget]
 | e :: es, hn => by
  have hn' : e.1 ∉ es.map (·.1) ∧ (es.map (·.1)).Nodup := List.nodup_cons.1 hn;unfold mdel
  by_cases h : k = e.1
  ·rw [if_pos h, cQ]
   by_cases h2 : j = k
   ·rw [if_pos h2]; exact n3 (by rw [h2, h]; exact hn'.1)
   ·rw [if_neg h2, if_neg (fun h3 => h2 (h3.trans h.symm))]
  ·rw [if_neg h, cQ, cQ, mZ hn'.2]
   by_cases h2 : j = e.1
   ·rw [if_pos h2, if_pos h2, if_neg (fun h3 => h (h3.symm.trans h2))]
   ·rw [if_neg h2, if_neg h2]
theorem Fresh.nil : Fresh [] 0 := by
 refine ⟨?_, List.nodup_nil⟩
 intro e h;cases h
theorem Fresh.set {es : List Ent} {c : Nat} {k : List UInt8} {v : Value} (h : Fresh es c) : Fresh (mset k v c es) (gL es k c) := by
 have hb := lS (k := k) (v := v) (c := c) es;refine ⟨fun e he => ?_, ?_⟩
 ·have hm : e.2.2 ∈ (mset k v c es).map (·.2.2) := List.mem_map_of_mem he;rw [hb] at hm;unfold gL;split at hm
  ·rename_i h1;rw [if_pos h1];obtain ⟨f, hf, e2⟩ := List.mem_map.1 hm;rw [← e2]; exact h.lt f hf
  ·rename_i h1;rw [if_neg h1];rcases List.mem_append.1 hm with hm | hm
   ·obtain ⟨f, hf, e2⟩ := List.mem_map.1 hm;have := h.lt f hf;omega
   ·have := List.mem_singleton.1 hm;omega
 ·rw [hb];split
  ·exact h.nd
  ·refine List.nodup_append.2 ⟨h.nd, by simp, fun a ha b hb => ?_⟩
   obtain ⟨f, hf, rfl⟩ := List.mem_map.1 ha;have := h.lt f hf;have := List.mem_singleton.1 hb;omega
theorem Fresh.del {es : List Ent} {c : Nat} {k : List UInt8} (h : Fresh es c) : Fresh (mdel k es) c :=
 ⟨fun e he => h.lt e ((jR es).subset he), h.nd.sublist ((jR es).map _)⟩
theorem o0 {es : List Ent} {c : Nat} {k : List UInt8} {v : Value} (h : (es.map (·.1)).Nodup) : ((mset k v c es).map (·.1)).Nodup := by
 rw [m0];split
 ·exact h
 ·rename_i h1;refine List.nodup_append.2 ⟨h, by simp, fun a ha b hb => ?_⟩
  have := List.mem_singleton.1 hb;subst this;rintro rfl;exact h1 ((gZ es).2 ha)
theorem uP {es : List Ent} {k : List UInt8} (h : (es.map (·.1)).Nodup) : ((mdel k es).map (·.1)).Nodup := h.sublist ((jR es).map _)
end Go.SL
end
section
namespace Go.Proofs
open Go Go.SL Go.Syn Go.Box
abbrev errV (n : Int) : Value := .iface 30 (i64 n)
def erV : Er → Value
 | none => .nilIface
 | some n => errV n
abbrev dskO (m1 m2 pv : Value) (l f : Int) (dn : Bool) : Obj := aO [m1, m2, pv, i64 l, i64 f, .bool dn] 110
theorem gJ (b : Nat) (m1 m2 pv : Value) (l f : Int) (dn : Bool) (K : Hl) : Sp Tryz.prog 405 [ptr b] K [pt b (dskO m1 m2 pv l f dn)] (Ret fun v K' L' => v = erV (bT l f dn).1 ∧ K' = K ∧ L' = [pt b (dskO m1 m2 pv (bT l f dn).2.1 (bT l f dn).2.2.1 (bT l f dn).2.2.2)]) := by
 refine a6 Tryz.func405 rfl Tryz.ntmps405 rfl rfl fun F w => ?_
 cases dn with
 | true =>
  refine aG (aB ?_);refine aA (aE rfl) rfl ?_;refine aF (aD ?_);refine aG (aG ?_);refine aB ?_;refine aA (aC rfl) rfl ?_;refine aA bL rfl ?_;refine aA (aH (o' := 5) dF rfl rfl) rfl ?_;refine aA (aM ts4 rfl (.own .here) rfl) rfl ?_;refine aA (aC rfl) rfl ?_;refine aR rfl rfl rfl ?_;refine aR rfl rfl rfl ?_;refine aR rfl rfl rfl ?_;refine aR rfl rfl rfl ?_;refine aR rfl rfl rfl ?_;refine aA (bH rfl rfl) rfl ?_;refine aF (aD ?_);refine c7 rfl ?_;refine aG (aB ?_);refine aA (aC rfl) rfl ?_;refine aA bL rfl ?_;refine aA (aH (o' := 5) dF rfl rfl) rfl ?_;refine bZ (bJ ts4 rfl rfl cG bE (.succ (.succ (.succ (.succ (.succ .zero))))) rfl) ?_;rintro _ K _ ⟨rfl, rfl⟩ -;refine aF (aD ?_);refine aG (aB ?_);refine aA (bN Tryz.underlying30 (fun _ h => by cases h) rfl) rfl ?_;refine aA (aE rfl) rfl ?_;refine aF (aD ?_);refine bB ?_;refine aS ?_;refine bC (.cons .here .nil) ?_;refine aY rfl rfl (Hl.le_refl _) ?_;have e : bT l f true = (some 16, l, f, true) := by unfold bT; rw [if_pos (.inl rfl)]
  rw [e];exact ⟨_, rfl, rfl, rfl, rfl⟩
 | false =>
  refine aG (aB ?_);refine aA (aE rfl) rfl ?_;refine aF (aD ?_);refine aG (aG ?_);refine aB ?_;refine aA (aC rfl) rfl ?_;refine aA bL rfl ?_;refine aA (aH (o' := 5) dF rfl rfl) rfl ?_;refine aA (aM ts4 rfl (.own .here) rfl) rfl ?_;refine aA (aC rfl) rfl ?_;refine aU rfl rfl ?_;refine aA (aC rfl) rfl ?_;refine aU rfl rfl ?_;refine aA bL rfl ?_;refine aU rfl rfl ?_;refine aA (aH (o' := 3) d7 rfl rfl) rfl ?_;refine aU rfl rfl ?_;refine aA (aM ts3 rfl aP rfl) rfl ?_;refine aU rfl rfl ?_;refine aA (bV rfl rfl) rfl ?_;refine aA (bA rfl rfl) rfl ?_;refine aF (aD ?_);refine bM 13 rfl (fun h13 => ?_) (fun h13 => ?_)
  ·
   refine aG (aB ?_);refine aA (aC rfl) rfl ?_;refine aA bL rfl ?_;refine aA (aH (o' := 5) dF rfl rfl) rfl ?_;refine bZ (bJ ts4 rfl rfl cG bE (.succ (.succ (.succ (.succ (.succ .zero))))) rfl) ?_;rintro _ K _ ⟨rfl, rfl⟩ -;refine aF (aD ?_);refine aG (aB ?_);refine aA (bN Tryz.underlying30 (fun _ h => by cases h) rfl) rfl ?_;refine aA (aE rfl) rfl ?_;refine aF (aD ?_);refine bB ?_;refine aS ?_;refine bC (.cons .here .nil) ?_;refine aY rfl rfl (Hl.le_refl _) ?_;have e : bT l f false = (some 16, l, f, true) := by unfold bT; rw [if_pos (.inr d9)]
   rw [e];exact ⟨_, rfl, rfl, rfl, rfl⟩
  ·
   refine aW ?_;refine aD (aG ?_);refine aB ?_;refine aA (aC rfl) rfl ?_;refine aA bL rfl ?_;refine aA (aH (o' := 3) d7 rfl rfl) rfl ?_;refine aA (aM ts3 rfl aP rfl) rfl ?_;refine aA (k5 rfl rfl) rfl ?_;refine aA bL rfl ?_;refine aA (aH (o' := 3) d7 rfl rfl) rfl ?_;refine bZ (bJ ts3 rfl rfl cG bE (.succ (.succ (.succ .zero))) rfl) ?_;rintro _ K _ ⟨rfl, rfl⟩ -;refine aF (aD ?_);refine aG (aG ?_);refine aB ?_;refine aA (aC rfl) rfl ?_;refine aA bL rfl ?_;refine aA (aH (o' := 4) dN rfl rfl) rfl ?_;refine aA (aM ts3 rfl aP rfl) rfl ?_;refine aA (bV rfl rfl) rfl ?_;refine aF (aD ?_);refine bM 29 rfl (fun h29 => ?_) (fun h29 => ?_)
   ·
    refine aG (aB ?_);refine aA (aC rfl) rfl ?_;refine aA bL rfl ?_;refine aA (aH (o' := 4) dN rfl rfl) rfl ?_;refine bZ (bJ ts3 rfl rfl cG bE (.succ (.succ (.succ (.succ .zero)))) rfl) ?_;rintro _ K _ ⟨rfl, rfl⟩ -;refine aF (aD ?_);refine aG (aB ?_);refine aA (bN Tryz.underlying30 (fun _ h => by cases h) rfl) rfl ?_;refine aA (aE rfl) rfl ?_;refine aF (aD ?_);refine bB ?_;refine aS ?_;refine bC (.cons .here .nil) ?_;refine aY rfl rfl (Hl.le_refl _) ?_;have e : bT l f false = (some 15, IntKind.i64.wrap (l - 1), -1, false) := by unfold bT; rw [if_neg (by rintro (h | h); cases h; contradiction), if_pos d9]
    rw [e];exact ⟨_, rfl, rfl, rfl, rfl⟩
   ·
    refine aW ?_;refine aD (aG ?_);refine aB ?_;refine aA (aC rfl) rfl ?_;refine aA bL rfl ?_;refine aA (aH (o' := 4) dN rfl rfl) rfl ?_;refine aA (aM ts3 rfl aP rfl) rfl ?_;refine aA (k5 rfl rfl) rfl ?_;refine aA bL rfl ?_;refine aA (aH (o' := 4) dN rfl rfl) rfl ?_;refine bZ (bJ ts3 rfl rfl cG bE (.succ (.succ (.succ (.succ .zero)))) rfl) ?_;rintro _ K _ ⟨rfl, rfl⟩ -;refine aF (aD ?_);refine aG (aB ?_);refine aA (aE rfl) rfl ?_;refine aF (aD ?_);refine bB ?_;refine bC (.cons .here .nil) ?_;refine aY rfl rfl (Hl.le_refl _) ?_;have e : bT l f false = (none, IntKind.i64.wrap (l - 1), IntKind.i64.wrap (f - 1), false) := by unfold bT; rw [if_neg (by rintro (h | h); cases h; contradiction), if_neg d9]
    rw [e];exact ⟨_, rfl, rfl, rfl, rfl⟩
def gQ (K : Hl) (v : Value) (d : aI) : Prop := ∃ b T fz, v = ptr b ∧ K b = some (aO [str d] T fz)
theorem gQ.mono {K K' : Hl} {v : Value} {d : aI} (h : gQ K v d) (le : K.le K') : gQ K' v d := let ⟨b, T, fz, e, h⟩ := h; ⟨b, T, fz, e, le _ _ h⟩
abbrev opV (o : OpR) : Value := .agg #[i64 o.kind, str o.name, str o.to, str o.data]
theorem sL (m : Nat) (es : List Ent) (c : Nat) (name to data : aI) (K : Hl) : Sp Tryz.prog 81 [.map (some m), opV ⟨1, name, to, data⟩] K [pt m (mapO es c)]
  (Ret fun v K' L' => v = .tuple #[] ∧ ∃ u, gQ K' u data ∧ L' = [pt m (mapO (mset name u c es) (gL es name c))]) := by
 refine a6 Tryz.func81 rfl Tryz.ntmps81 rfl rfl fun F w => ?_
 refine aG (aB ?_);refine ol_s (f5 rfl rfl) rfl ?_;rintro _ K _ ⟨b3, rfl, rfl, rfl⟩ -;refine aF (aD ?_);refine aG (aB ?_);refine aA (aH (o' := 0) eK rfl rfl) rfl ?_;refine aA (aM ts3 rfl aP rfl) rfl ?_;refine aF (aD ?_);refine a8 (aG ?_);refine aB ?_;refine aA (bV rfl rfl) rfl ?_;refine aA (aE rfl) rfl ?_;refine aF (aD ?_);refine c7 rfl ?_;refine aG (aB ?_);refine aA (aH (o' := 3) iQ rfl rfl) rfl ?_;refine aA (aM ts9 rfl aP rfl) rfl ?_;refine ol_s (cE tz9) rfl ?_;rintro _ K _ ⟨b4, rfl, rfl, rfl⟩ -;refine bZ (bJ ts9 rfl rfl cG bE .zero rfl) ?_;rintro _ K _ ⟨rfl, rfl⟩ -;refine aF (aD ?_);refine aB ?_;refine kC fun K2 le2 hb4 => ?_
 refine aA (aC rfl) rfl ?_;refine aA (aH (o' := 1) eZ rfl rfl) rfl ?_;refine aA (aM ts9 rfl aP rfl) rfl ?_;refine bZ (vC Tryz.underlying107 Tryz.underlying9 rfl rfl rfl bE) ?_;rintro _ K _ ⟨rfl, rfl⟩ -;refine aF (aX ?_);refine bC (.cons (.there .here) .nil) ?_;refine j1 rfl le2 ?_;exact ⟨_, rfl, rfl, _, ⟨_, _, _, rfl, hb4⟩, rfl⟩
theorem sM (m : Nat) (es : List Ent) (c : Nat) (name to data : aI) (K : Hl) : Sp Tryz.prog 81 [.map (some m), opV ⟨3, name, to, data⟩] K [pt m (mapO es c)]
  (Ret fun v K' L' => v = .tuple #[] ∧ K' = K ∧ L' = [pt m (mapO (mdel name es) c)]) := by
 refine a6 Tryz.func81 rfl Tryz.ntmps81 rfl rfl fun F w => ?_
 refine aG (aB ?_);refine ol_s (f5 rfl rfl) rfl ?_;rintro _ K _ ⟨b3, rfl, rfl, rfl⟩ -;refine aF (aD ?_);refine aG (aB ?_);refine aA (aH (o' := 0) eK rfl rfl) rfl ?_;refine aA (aM ts3 rfl aP rfl) rfl ?_;refine aF (aD ?_);refine a8 (aG ?_);refine aB ?_;refine aA (bV rfl rfl) rfl ?_;refine aA (aE rfl) rfl ?_;refine aF (aD ?_);refine bO rfl ?_;refine aG (aB ?_);refine aA (bV rfl rfl) rfl ?_;refine aA (aE rfl) rfl ?_;refine aF (aD ?_);refine bO rfl ?_;refine aG (aB ?_);refine aA (bV rfl rfl) rfl ?_;refine aA (aE rfl) rfl ?_;refine aF (aD ?_);refine c7 rfl ?_;refine aB ?_;refine aA (aC rfl) rfl ?_;refine aA (aH (o' := 1) eZ rfl rfl) rfl ?_;refine aA (aM ts9 rfl aP rfl) rfl ?_;refine bZ (vA rfl Tryz.underlying107 Tryz.underlying9 rfl rfl bE) ?_;rintro _ K _ ⟨rfl, rfl, rfl⟩ -;refine aF (aX ?_);refine bC (.cons (.there .here) .nil) ?_;refine j1 rfl (Hl.le_refl _) ?_;exact ⟨_, rfl, rfl, rfl, rfl⟩
structure MapOk (K : Hl) (es : List Ent) (c : Nat) (f : DMap) : Prop where
 fresh : Fresh es c
 nd : (es.map (·.1)).Nodup
 has : ∀ n v, mget es n = some v → ∃ d, f n = some d ∧ gQ K v d
 lacks : ∀ n, mget es n = none → f n = none
theorem MapOk.mono {K K' : Hl} {es : List Ent} {c : Nat} {f : DMap} (h : MapOk K es c f) (le : K.le K') : MapOk K' es c f :=
 ⟨h.fresh, h.nd, fun n v e => let ⟨d, h1, h2⟩ := h.has n v e; ⟨d, h1, h2.mono le⟩, h.lacks⟩
theorem MapOk.nil {K : Hl} : MapOk K [] 0 (fun _ => none) := ⟨Fresh.nil, List.nodup_nil, fun n v e => by simp [mget] at e, fun n _ => rfl⟩
theorem MapOk.put {K : Hl} {es : List Ent} {c : Nat} {f : DMap} {n d : aI} {u : Value} (h : MapOk K es c f) (hu : gQ K u d) : MapOk K (mset n u c es) (gL es n c) (f.put n d) := by
 refine ⟨h.fresh.set, o0 h.nd, fun j v e => ?_, fun j e => ?_⟩ <;> rw [kB] at e <;> unfold DMap.put <;> split at e
 ·rename_i hj; cases e; rw [if_pos hj]; exact ⟨d, rfl, hu⟩
 ·rename_i hj; rw [if_neg hj]; exact h.has j v e
 ·cases e
 ·rename_i hj; rw [if_neg hj]; exact h.lacks j e
theorem MapOk.cut {K : Hl} {es : List Ent} {c : Nat} {f : DMap} {n : aI} (h : MapOk K es c f) : MapOk K (mdel n es) c (f.cut n) := by
 refine ⟨h.fresh.del, uP h.nd, fun j v e => ?_, fun j e => ?_⟩ <;> rw [mZ h.nd] at e <;> unfold DMap.cut <;> split at e
 ·cases e
 ·rename_i hj; rw [if_neg hj]; exact h.has j v e
 ·rename_i hj; rw [if_pos hj]
 ·rename_i hj; rw [if_neg hj]; exact h.lacks j e
theorem MapOk.isSome {K : Hl} {es : List Ent} {c : Nat} {f : DMap} (h : MapOk K es c f) (n : aI) : (mget es n).isSome = (f n).isSome := by
 cases e : mget es n with
 | none => rw [h.lacks n e]; rfl
 | some v => obtain ⟨d, h1, _⟩ := h.has n v e; rw [h1]; rfl
def OpOk (o : OpR) : Prop := o.kind = 1 ∨ o.kind = 3
theorem gS (m : Nat) (es : List Ent) (c : Nat) (f : DMap) (o : OpR) (ho : OpOk o) (K : Hl) (hm : MapOk K es c f) : Sp Tryz.prog 81 [.map (some m), opV o] K [pt m (mapO es c)]
  (Ret fun v K' L' => v = .tuple #[] ∧ ∃ es' c', MapOk K' es' c' (doF f o) ∧ L' = [pt m (mapO es' c')]) := by
 obtain ⟨k, n, t, d⟩ := o;rcases ho with h | h <;> (simp only at h; subst h)
 ·refine yI (sL m es c n t d K) ?_;rintro e K' L' le ⟨v, rfl, rfl, u, hu, rfl⟩;exact ⟨_, rfl, rfl, _, _, (hm.mono le).put hu, rfl⟩
 ·refine yI (sM m es c n t d K) ?_;rintro e K' L' le ⟨v, rfl, rfl, rfl, rfl⟩;exact ⟨_, rfl, rfl, _, _, hm.cut, rfl⟩
end Go.Proofs
end
section
namespace Go.Proofs
open Go Go.SL Go.Syn Go.Box
def opEl : El OpR := { e := 165, sz := 4, enc := fun o => [i64 o.kind, str o.name, str o.to, str o.data], len := fun _ => rfl, one := fun _ u h => by simp at h; rcases h with rfl | rfl | rfl | rfl <;> rfl }
abbrev dskL (b m1 m2 : Nat) (es1 : List Ent) (c1 : Nat) (es2 : List Ent) (c2 : Nat) (pv : Value) (s : DSt) : List Asn :=
 [pt b (dskO (.map (some m1)) (.map (some m2)) pv s.left s.full s.down), pt m1 (mapO es1 c1), pt m2 (mapO es2 c2), sl false opEl pv s.pend]
def d8 (K : Hl) (b : Nat) (s : DSt) (L : List Asn) : Prop := ∃ m1 m2 es1 c1 es2 c2 pv, MapOk K es1 c1 s.dur ∧ MapOk K es2 c2 s.now ∧ (∀ o ∈ s.pend, OpOk o) ∧ pv.oneCell' = true ∧ L = dskL b m1 m2 es1 c1 es2 c2 pv s
theorem d8.mono {K K' : Hl} {b : Nat} {s : DSt} {L : List Asn} (h : d8 K b s L) (le : K.le K') : d8 K' b s L :=
 let ⟨m1, m2, es1, c1, es2, c2, pv, h1, h2, h3, h4, h5⟩ := h
 ⟨m1, m2, es1, c1, es2, c2, pv, h1.mono le, h2.mono le, h3, h4, h5⟩
theorem tD (b : Nat) (s : DSt) (o : OpR) (ho : OpOk o) (hp : s.pend.length ≤ 1000000) (K : Hl) (L : List Asn) (hd : d8 K b s L) : Sp Tryz.prog 404 [ptr b, opV o] K L
  (Ret fun v K' L' => v = erV (cU o s).1 ∧ d8 K' b (cU o s).2 L') := by
 obtain ⟨m1, m2, es1, c1, es2, c2, pv, hm1, hm2, hop, hpv, rfl⟩ := hd;obtain ⟨dur, now, pend, l, f, dn⟩ := s;obtain ⟨k, n, t, d⟩ := o;simp only at hm1 hm2 hop hp;refine a6 Tryz.func404 rfl Tryz.ntmps404 rfl rfl fun F w => ?_
 refine aG (aB ?_);refine ol_s (f5 rfl rfl) rfl ?_;rintro _ K _ ⟨b3, rfl, rfl, rfl⟩ -;refine aA (aE rfl) rfl ?_;refine aF (aD ?_);refine aG (aG ?_);refine aB ?_;refine aA (aC rfl) rfl ?_;refine bG rfl rfl (gJ b _ _ pv l f dn _) (.cons (.there .here) .nil) rfl ?_;rintro _ K _ ⟨rfl, rfl, rfl⟩ -;refine aA (aE rfl) rfl ?_;refine aF (aD ?_);rcases hw : bT l f dn with ⟨_ | e, l2, f2, dn2⟩
 ·
  refine aG (aB ?_);refine aA (aC rfl) rfl ?_;refine aA (eF Tryz.underlying79 rfl) rfl ?_;refine aF (aD ?_);refine bO rfl ?_;refine aW ?_;refine aD ?_;cases hg : mget es2 n
  ·
   refine aG (aG ?_);refine bY (anc := [0, 1, 3, 7, 0, 16, 63, 127, 255, 255, 511, 2047]) (ord := [0, 1, 2, 3, 4, 5, 6, 7, 8, 9, 10, 11]) [] [] mixed (by decide +kernel) (cV _) ?_;refine aK rfl rfl (.none rfl) rfl rfl (aC rfl) rfl ?_;refine aK rfl rfl (.none rfl) rfl rfl bL rfl ?_;refine aK rfl rfl (.none rfl) rfl rfl (aH (o' := 1) d6 rfl rfl) rfl ?_;refine aK rfl rfl (.none rfl) rfl rfl (aM eU rfl aP rfl) rfl ?_;refine aK rfl rfl (.none rfl) rfl rfl (aH (o' := 1) eZ rfl rfl) rfl ?_;refine aK rfl rfl (.none rfl) rfl rfl (aM ts9 rfl aP rfl) rfl ?_;refine aK rfl rfl (.none rfl) rfl rfl (e9 Tryz.underlying107 Tryz.underlying9 nE rfl rfl aP hg) rfl ?_;refine aK rfl rfl (.none rfl) rfl rfl (aC rfl) rfl ?_;refine aK rfl rfl (.none rfl) rfl rfl (aQ rfl rfl) rfl ?_;refine aK rfl rfl (.none rfl) rfl rfl (aQ rfl rfl) rfl ?_;refine aK rfl rfl (.none rfl) rfl rfl (aE rfl) rfl ?_;refine aK rfl rfl (.none rfl) rfl rfl (aE rfl) rfl ?_;refine bW ?_;refine aD (aG ?_);refine aB ?_;refine aA (aC rfl) rfl ?_;refine aA (eR rfl) rfl ?_;refine aA (aC rfl) rfl ?_;refine aU rfl rfl ?_;refine aA (aH (o' := 0) eK rfl rfl) rfl ?_;refine aU rfl rfl ?_;refine aA (aM ts3 rfl aP rfl) rfl ?_;refine aU rfl rfl ?_;refine aA (i6 rfl rfl) rfl ?_;refine aA (bH rfl rfl) rfl ?_;refine aF (aD ?_);refine bM 29 rfl (fun h29 => ?_) (fun h29 => ?_)
   ·
    refine aG (aB ?_);refine aA (bN Tryz.underlying30 (fun _ h => by cases h) rfl) rfl ?_;refine aA (aE rfl) rfl ?_;refine aF (aD ?_);refine bB ?_;refine aS ?_;refine bC (.cons .here (.cons (.there .here) (.cons (.there .here) (.cons (.there .here) .nil)))) ?_;refine aY rfl rfl (by first | exact Hl.le_refl _ | assumption) ?_;rw [vJ (s := ⟨dur, now, pend, l, f, dn⟩) hw (hm2.lacks _ hg) h29];exact ⟨_, rfl, rfl, m1, m2, es1, c1, es2, c2, pv, hm1, hm2, hop, hpv, rfl⟩
   ·
    refine aW ?_;refine aD (aG ?_);refine aG (aB ?_);refine aA (aH (o' := 0) eK rfl rfl) rfl ?_;refine aA (aM ts3 rfl aP rfl) rfl ?_;refine aA (ev_F (bV rfl rfl) (by show ¬ k = 2; rcases ho with h | h <;> simp only at h <;> omega)) rfl ?_;refine aA (aC rfl) rfl ?_;refine aR rfl rfl rfl ?_;refine aR rfl rfl rfl ?_;refine aR rfl rfl rfl ?_;refine aR rfl rfl rfl ?_;refine aR rfl rfl rfl ?_;refine aA (bA rfl rfl) rfl ?_;refine aF (aD ?_);refine bO rfl ?_;refine aW ?_;refine aD (aG ?_);refine bY (anc := [0, 1, 3, 7, 0, 31]) (ord := [0, 1, 2, 3, 4, 5]) [5] [5] mixed (by decide +kernel) (cV _) ?_;refine aK rfl rfl (.none rfl) rfl rfl (aC rfl) rfl ?_;refine aK rfl rfl (.none rfl) rfl rfl bL rfl ?_;refine aK rfl rfl (.none rfl) rfl rfl (aH (o' := 1) d6 rfl rfl) rfl ?_;refine aK rfl rfl (.none rfl) rfl rfl (aM eU rfl aP rfl) rfl ?_;refine aK rfl rfl (.none rfl) rfl rfl (bQ dI rfl aP rfl rfl) rfl ?_;refine eB rfl (.none rfl) rfl rfl rfl (gS m2 es2 c2 now ⟨k, n, t, d⟩ ho _ hm2) (.cons (.there (.there (.there .here))) .nil) rfl ?_;rintro _ K1 _ ⟨rfl, es3, c3, hm3, rfl⟩ le1;refine bW ?_;refine aD (aG ?_);refine bY (anc := [0, 0, 2, 6, 14, 0, 32, 126, 255, 511, 1023]) (ord := [0, 1, 2, 3, 4, 5, 6, 7, 8, 9, 10]) [6, 7, 10] [10] mixed (by decide +kernel) (.cons (.there .here) (.cons (.there .here) .nil)) ?_;refine aK rfl rfl (.none rfl) rfl rfl (aC rfl) rfl ?_;refine aK rfl rfl (.none rfl) rfl rfl (aC rfl) rfl ?_;refine aK rfl rfl (.none rfl) rfl rfl bL rfl ?_;refine aK rfl rfl (.none rfl) rfl rfl (aH (o' := 2) c8 rfl rfl) rfl ?_;refine aK rfl rfl (.none rfl) rfl rfl (aM hU rfl aP rfl) rfl ?_;refine aK rfl rfl (.none rfl) rfl rfl (bQ dI rfl aP rfl rfl) rfl ?_;refine dl_s rfl rfl (.none rfl) rfl rfl (cF (z0 := [.int .i64 0, (str []), (str []), (str [])]) eP nG rfl rfl rfl rfl (.cons rfl rfl rfl (.cons (.cons (.cons (.cons .nil)))) .nil)) rfl ?_;rintro _ K _ ⟨b53, rfl, rfl, rfl⟩ -;refine ⟨_, (show Tks _ _ _ from (.cons (.there .here) (.cons (.there .here) .nil))).sat, ?_⟩
    refine dl_s rfl rfl (.none rfl) rfl rfl (fF (k := opEl) (ys := [(⟨k, n, t, d⟩ : OpR)]) fH rfl rfl (.there (.there (.there (.there (.there .here))))) (fun w j => eY Tryz.underlying108 (SeesSl.at (k := opEl) (.blk (.own (.there (.there .here))) rfl rfl) j)) (by show (pend.length + 1) * 56 ≤ 140737488355328; omega) (by show pend.length + 1 ≤ 9223372036854775807; omega)) rfl ?_;rintro v54 K _ ⟨rfl, rfl, ho54⟩ -;refine ⟨_, (show Tks _ _ _ from (.cons (.there .here) (.cons (.there .here) .nil))).sat, ?_⟩
    refine aK rfl rfl (.none rfl) rfl rfl bL rfl ?_;refine aK rfl rfl (.none rfl) rfl rfl (aH (o' := 2) c8 rfl rfl) rfl ?_;refine fY rfl rfl (.none rfl) rfl (bJ hU rfl rfl cG bE (.succ (.succ .zero)) rfl) ?_;rintro _ K _ ⟨rfl, rfl⟩ -;refine bW ?_;refine aD (aG ?_);refine aB ?_;refine aA (aE rfl) rfl ?_;refine aF (aD ?_);refine bB ?_;refine bC (.cons .here (.cons (.there (.there (.there (.there .here)))) (.cons (.there (.there (.there .here))) (.cons (.there .here) .nil)))) ?_;refine aY rfl rfl (by first | exact Hl.le_refl _ | assumption) ?_;rw [jW (s := ⟨dur, now, pend, l, f, dn⟩) hw (by have := hm2.isSome n; first | exact fun ⟨_, h⟩ => h29 h | (rintro ⟨h, _⟩; rw [hg, show now n = none from h] at this; cases this))];exact ⟨_, rfl, rfl, m1, m2, es1, c1, es3, c3, v54, hm1.mono le1, hm3, fun o h => by rcases List.mem_append.1 h with h | h; exact hop o h; rw [List.mem_singleton.1 h]; exact ho, ho54, rfl⟩
  ·
   refine aG (aG ?_);refine bY (anc := [0, 1, 3, 7, 0, 16, 63, 127, 255, 255, 511, 2047]) (ord := [0, 1, 2, 3, 4, 5, 6, 7, 8, 9, 10, 11]) [] [] mixed (by decide +kernel) (cV _) ?_;refine aK rfl rfl (.none rfl) rfl rfl (aC rfl) rfl ?_;refine aK rfl rfl (.none rfl) rfl rfl bL rfl ?_;refine aK rfl rfl (.none rfl) rfl rfl (aH (o' := 1) d6 rfl rfl) rfl ?_;refine aK rfl rfl (.none rfl) rfl rfl (aM eU rfl aP rfl) rfl ?_;refine aK rfl rfl (.none rfl) rfl rfl (aH (o' := 1) eZ rfl rfl) rfl ?_;refine aK rfl rfl (.none rfl) rfl rfl (aM ts9 rfl aP rfl) rfl ?_;refine aK rfl rfl (.none rfl) rfl rfl (gC Tryz.underlying107 Tryz.underlying9 nE rfl rfl aP hg) rfl ?_;refine aK rfl rfl (.none rfl) rfl rfl (aC rfl) rfl ?_;refine aK rfl rfl (.none rfl) rfl rfl (aQ rfl rfl) rfl ?_;refine aK rfl rfl (.none rfl) rfl rfl (aQ rfl rfl) rfl ?_;refine aK rfl rfl (.none rfl) rfl rfl (aE rfl) rfl ?_;refine aK rfl rfl (.none rfl) rfl rfl (aE rfl) rfl ?_;refine bW ?_;refine aD (aG ?_);refine aB ?_;refine aA (aC rfl) rfl ?_;refine aA (eR rfl) rfl ?_;refine aA (aC rfl) rfl ?_;refine aR rfl rfl rfl ?_;refine aR rfl rfl rfl ?_;refine aR rfl rfl rfl ?_;refine aA (bA rfl rfl) rfl ?_;refine aF (aD ?_);refine bO rfl ?_;refine aW ?_;refine aD (aG ?_);refine aG (aB ?_);refine aA (aH (o' := 0) eK rfl rfl) rfl ?_;refine aA (aM ts3 rfl aP rfl) rfl ?_;refine aA (ev_F (bV rfl rfl) (by show ¬ k = 2; rcases ho with h | h <;> simp only at h <;> omega)) rfl ?_;refine aA (aC rfl) rfl ?_;refine aR rfl rfl rfl ?_;refine aR rfl rfl rfl ?_;refine aR rfl rfl rfl ?_;refine aR rfl rfl rfl ?_;refine aR rfl rfl rfl ?_;refine aA (bA rfl rfl) rfl ?_;refine aF (aD ?_);refine bO rfl ?_;refine aW ?_;refine aD (aG ?_);refine bY (anc := [0, 1, 3, 7, 0, 31]) (ord := [0, 1, 2, 3, 4, 5]) [5] [5] mixed (by decide +kernel) (cV _) ?_;refine aK rfl rfl (.none rfl) rfl rfl (aC rfl) rfl ?_;refine aK rfl rfl (.none rfl) rfl rfl bL rfl ?_;refine aK rfl rfl (.none rfl) rfl rfl (aH (o' := 1) d6 rfl rfl) rfl ?_;refine aK rfl rfl (.none rfl) rfl rfl (aM eU rfl aP rfl) rfl ?_;refine aK rfl rfl (.none rfl) rfl rfl (bQ dI rfl aP rfl rfl) rfl ?_;refine eB rfl (.none rfl) rfl rfl rfl (gS m2 es2 c2 now ⟨k, n, t, d⟩ ho _ hm2) (.cons (.there (.there (.there .here))) .nil) rfl ?_;rintro _ K1 _ ⟨rfl, es3, c3, hm3, rfl⟩ le1;refine bW ?_;refine aD (aG ?_);refine bY (anc := [0, 0, 2, 6, 14, 0, 32, 126, 255, 511, 1023]) (ord := [0, 1, 2, 3, 4, 5, 6, 7, 8, 9, 10]) [6, 7, 10] [10] mixed (by decide +kernel) (.cons (.there .here) (.cons (.there .here) .nil)) ?_;refine aK rfl rfl (.none rfl) rfl rfl (aC rfl) rfl ?_;refine aK rfl rfl (.none rfl) rfl rfl (aC rfl) rfl ?_;refine aK rfl rfl (.none rfl) rfl rfl bL rfl ?_;refine aK rfl rfl (.none rfl) rfl rfl (aH (o' := 2) c8 rfl rfl) rfl ?_;refine aK rfl rfl (.none rfl) rfl rfl (aM hU rfl aP rfl) rfl ?_;refine aK rfl rfl (.none rfl) rfl rfl (bQ dI rfl aP rfl rfl) rfl ?_;refine dl_s rfl rfl (.none rfl) rfl rfl (cF (z0 := [.int .i64 0, (str []), (str []), (str [])]) eP nG rfl rfl rfl rfl (.cons rfl rfl rfl (.cons (.cons (.cons (.cons .nil)))) .nil)) rfl ?_;rintro _ K _ ⟨b53, rfl, rfl, rfl⟩ -;refine ⟨_, (show Tks _ _ _ from (.cons (.there .here) (.cons (.there .here) .nil))).sat, ?_⟩
   refine dl_s rfl rfl (.none rfl) rfl rfl (fF (k := opEl) (ys := [(⟨k, n, t, d⟩ : OpR)]) fH rfl rfl (.there (.there (.there (.there (.there .here))))) (fun w j => eY Tryz.underlying108 (SeesSl.at (k := opEl) (.blk (.own (.there (.there .here))) rfl rfl) j)) (by show (pend.length + 1) * 56 ≤ 140737488355328; omega) (by show pend.length + 1 ≤ 9223372036854775807; omega)) rfl ?_;rintro v54 K _ ⟨rfl, rfl, ho54⟩ -;refine ⟨_, (show Tks _ _ _ from (.cons (.there .here) (.cons (.there .here) .nil))).sat, ?_⟩
   refine aK rfl rfl (.none rfl) rfl rfl bL rfl ?_;refine aK rfl rfl (.none rfl) rfl rfl (aH (o' := 2) c8 rfl rfl) rfl ?_;refine fY rfl rfl (.none rfl) rfl (bJ hU rfl rfl cG bE (.succ (.succ .zero)) rfl) ?_;rintro _ K _ ⟨rfl, rfl⟩ -;refine bW ?_;refine aD (aG ?_);refine aB ?_;refine aA (aE rfl) rfl ?_;refine aF (aD ?_);refine bB ?_;refine bC (.cons .here (.cons (.there (.there (.there (.there .here)))) (.cons (.there (.there (.there .here))) (.cons (.there .here) .nil)))) ?_;refine aY rfl rfl (by first | exact Hl.le_refl _ | assumption) ?_;rw [jW (s := ⟨dur, now, pend, l, f, dn⟩) hw (by have := hm2.isSome n; first | exact fun ⟨_, h⟩ => h29 h | (rintro ⟨h, _⟩; rw [hg, show now n = none from h] at this; cases this))];exact ⟨_, rfl, rfl, m1, m2, es1, c1, es3, c3, v54, hm1.mono le1, hm3, fun o h => by rcases List.mem_append.1 h with h | h; exact hop o h; rw [List.mem_singleton.1 h]; exact ho, ho54, rfl⟩
 ·
  refine aG (aB ?_);refine aA (aC rfl) rfl ?_;refine aA (fA Tryz.underlying79 rfl rfl) rfl ?_;refine aF (aD ?_);refine c7 rfl ?_;refine aG (aB ?_);refine aA (aC rfl) rfl ?_;refine aA (aE rfl) rfl ?_;refine aF (aD ?_);refine bB ?_;refine aS ?_;refine bC (.cons .here (.cons (.there .here) (.cons (.there .here) (.cons (.there .here) .nil)))) ?_;refine aY rfl rfl (by first | exact Hl.le_refl _ | assumption) ?_;rw [tC (s := ⟨dur, now, pend, l, f, dn⟩) hw];exact ⟨_, rfl, rfl, m1, m2, es1, c1, es2, c2, pv, hm1, hm2, hop, hpv, rfl⟩
end Go.Proofs
end
section
namespace Go.Proofs
open Go Go.SL Go.Syn Go.Box
def dsk (K : Hl) (b : Nat) (s : DSt) : Asn := fun h => ∃ L, d8 K b s L ∧ Sat L h
theorem jL {K K' : Hl} {b : Nat} {s : DSt} (le : K.le K') : ∀ h, dsk K b s h → dsk K' b s h := fun h ⟨L, hd, hs⟩ => ⟨L, hd.mono le, hs⟩
theorem fZ {K : Hl} {b : Nat} {s : DSt} {L M : List Asn} (hd : d8 K b s L) : ∀ h, Sat (L ++ M) h → Sat (dsk K b s :: M) h := fun h hs =>
 let ⟨x, y, hx, hy, hj, e⟩ := dD.1 hs; ⟨x, y, ⟨L, hd, hx⟩, hy, hj, e⟩
theorem dW {K : Hl} {b : Nat} {s : DSt} {L : List Asn} (hd : d8 K b s L) : ∀ h, Sat L h → Sat [dsk K b s] h := fun h hs => fZ (M := []) hd h (by rwa [List.append_nil])
theorem xG {K : Hl} {b : Nat} {s : DSt} {M : List Asn} {h : Hl} : Sat (dsk K b s :: M) h → ∃ L, d8 K b s L ∧ Sat (L ++ M) h := fun ⟨x, y, ⟨L, hd, hx⟩, hy, hj, e⟩ => ⟨L, hd, dD.2 ⟨x, y, hx, hy, hj, e⟩⟩
theorem In.dsk {w0 w : World} {F K K0 : Hl} {b : Nat} {s : DSt} {M : List Asn} (i : In w0 F K (dsk K0 b s :: M) w) : ∃ L, d8 K0 b s L ∧ In w0 F K (L ++ M) w :=
 let ⟨h, hs, r⟩ := i.rep; let ⟨L, hd, hs2⟩ := xG hs; ⟨L, hd, i.os, i.tape, i.output, i.size, h, hs2, r⟩
section
variable {E : Env} {fr : Fr} {K K0 : Hl} {M : List Asn} {Q : Post} {b : Nat} {s : DSt}
theorem pG {c : Code} (h : ∀ L, d8 K0 b s L → T E c fr K (L ++ M) Q) : T E c fr K (dsk K0 b s :: M) Q := fun a w f i => let ⟨L, hd, j⟩ := In.dsk i; h L hd a w f j
theorem zK {ops : Array Oper} {l : List Oper} (h : ∀ L, d8 K0 b s L → OL E ops l fr K (L ++ M) Q) : OL E ops l fr K (dsk K0 b s :: M) Q := fun a w f i => let ⟨L, hd, j⟩ := In.dsk i; h L hd a w f j
theorem l7 {P : Program} {f : FuncId} {args : List Value} {R : Ending → Hl → List Asn → Prop} (hb : ∃ fn, P.funcs[f]? = some fn ∧ (fn.name == "runtime.NumGoroutine") = false ∧ fn.body.isSome = true)
  (h : ∀ L, d8 K0 b s L → Sp P f args K (L ++ M) R) : Sp P f args K (dsk K0 b s :: M) R :=
 ⟨hb, fun F w i => let ⟨L, hd, j⟩ := In.dsk i; (h L hd).2 F w j⟩
end
theorem rQ (b : Nat) (s : DSt) (o : OpR) (ho : OpOk o) (hp : s.pend.length ≤ 1000000) (K K0 : Hl) (le : K0.le K) : Sp Tryz.prog 404 [ptr b, opV o] K [dsk K0 b s]
  (Ret fun v K' L' => v = erV (cU o s).1 ∧ L' = [dsk K' b (cU o s).2]) := by
 refine l7 ⟨_, Tryz.func404, rfl, rfl⟩ fun L hd => ?_
 rw [List.append_nil];refine xK (tD b s o ho hp K L (hd.mono le)) ?_;rintro e K' L' ⟨v, rfl, rfl, hd2⟩;exact ⟨_, dW hd2, _, rfl, rfl, rfl⟩
theorem s5 (b : Nat) (s : DSt) (n : aI) (hp : s.pend.length ≤ 1000000) (K K0 : Hl) (le : K0.le K) : Sp Tryz.prog 401 [ptr b, str n] K [dsk K0 b s]
  (Ret fun v K' L' => v = erV (dC n s).1 ∧ L' = [dsk K' b (dC n s).2]) := by
 refine a6 Tryz.func401 rfl Tryz.ntmps401 rfl rfl fun F w => ?_
 refine aG (aB ?_);refine aA (aE rfl) rfl ?_;refine aF (aD ?_);refine aG (aB ?_);refine aA (aC rfl) rfl ?_;refine aA (aC rfl) rfl ?_;refine aA (dJ yJ vI (.cons rfl rfl rfl (.cons .nil) (.cons rfl rfl rfl (.skip (.cons .nil)) .nil))) rfl ?_;refine bG rfl rfl (rQ b s ⟨3, n, [], []⟩ (.inr rfl) hp _ _ le) (.cons .here .nil) rfl ?_;rintro _ K1 _ ⟨rfl, rfl⟩ le1;refine aA (aE rfl) rfl ?_;refine aF (aD ?_);refine bB ?_;refine bC (.cons .here .nil) ?_;refine aY rfl rfl d9 ?_;exact ⟨_, rfl, rfl, rfl⟩
theorem xY {x y : Operand} (e : Er) (n : Int) {w : World} : (eqGuard .eql 79 x y (erV e) (errV n)).run Tryz.prog w = .ok () w := by cases e <;> rfl
theorem xZ (e : Er) (n : Int) (w : World) : (binOp .eql 79 (erV e) (errV n)).run Tryz.prog w = .ok (.bool (decide (e = some n))) w := by
 cases e with
 | none => show (binOp .eql 79 .nilIface (.iface 30 (i64 n))).run Tryz.prog w = _; rw [decide_eq_false (by simp)]; kernel_rfl
 | some m =>
  have h : (binOp .eql 79 (.iface 30 (i64 m)) (.iface 30 (i64 n))).run Tryz.prog w = .ok (.bool (decide (m = n))) w := by kernel_rfl
  show (binOp .eql 79 (.iface 30 (i64 m)) (.iface 30 (i64 n))).run Tryz.prog w = _
  rw [h]; simp
def bang (i : Nat) (xs : aI) : aI := List.replicate i 33 ++ xs.drop i
theorem tP {i : Nat} {xs : aI} (h : i ≤ xs.length) : (bang i xs).length = xs.length := by simp [bang]; omega
theorem tQ {i : Nat} {xs : aI} (h : i < xs.length) : (bang i xs).set i 33 = bang (i + 1) xs := by
 unfold bang;rw [List.set_append_right _ _ (by simp), List.length_replicate, Nat.sub_self, List.drop_eq_getElem_cons h, List.set_cons_zero, List.replicate_succ', List.append_assoc]; rfl
theorem vU (b : Nat) (s : DSt) (n xs : aI) (v : Value) (z : Bool) (hp : s.pend.length ≤ 900000) (hxl : xs.length ≤ 140737488355328) (K K0 : Hl) (le : K0.le K) : Sp Tryz.prog 403 [ptr b, str n, v] K [dsk K0 b s, sl z (elB 5) v xs]
  (Ret fun r K' L' => r = erV (cO n xs s).1 ∧ L' = [dsk K' b (cO n xs s).2]) := by
 refine a6 Tryz.func403 rfl Tryz.ntmps403 rfl rfl fun F w => ?_
 have hpt : (cU ⟨1, n, [], xs⟩ s).2.pend.length ≤ 1000000 := by have := jD ⟨1, n, [], xs⟩ s; omega
 refine aG (aB ?_);refine aA (aE rfl) rfl ?_;refine aF (aD ?_);refine aG (aB ?_);refine aA (aC rfl) rfl ?_;refine aA (aC rfl) rfl ?_;refine aA (jO Tryz.underlying130 Tryz.underlying5 Tryz.underlying9 rfl (.own (.there .here))) rfl ?_;refine aA (dJ yJ vI (.cons rfl rfl rfl (.cons .nil) (.cons rfl rfl rfl (.skip (.cons .nil)) (.cons rfl rfl rfl (.skip (.skip (.skip (.cons .nil)))) .nil)))) rfl ?_;refine ol_s (cE nG) rfl ?_;rintro _ K _ ⟨b7, rfl, rfl, rfl⟩ -;refine bZ (cY dI rfl rfl rfl bE (by first | (simp [Value.oneCell']; done) | exact fun c hc => El.one _ _ c hc) (.cons (.cons (.cons (.cons .nil)))) (by intro j hj; simp)) ?_;rintro _ K _ ⟨rfl, rfl⟩ -;refine aF (aD ?_);refine aG (aB ?_);refine aA (aC rfl) rfl ?_;refine aA (bQ dI rfl aP rfl rfl) rfl ?_;refine bG rfl rfl (rQ b s ⟨1, n, [], xs⟩ (.inl rfl) aJ _ _ le) (.cons (.there .here) .nil) rfl ?_;rintro _ K1 _ ⟨rfl, rfl⟩ le1;refine aA (aE rfl) rfl ?_;refine aF (aD ?_);refine n9 (fun (_ : Unit) => True) (fun _ => [(2, v), (8, erV (cU ⟨1, n, [], xs⟩ s).1)]) (fun _ => K1) (fun _ => [sl z (elB 5) v xs, dsk K1 b (cO n xs s).2]) ?_ ?_
 ·
  refine aG (aB ?_);refine aA (aC rfl) rfl ?_;refine aA (bN Tryz.underlying30 (fun _ h => by cases h) rfl) rfl ?_;refine aA (p6 rfl rfl (fun _ => xY _ _) (fun w => xZ _ _ w)) rfl ?_;refine aF (aD ?_);refine bM 19 rfl (fun h19 => ?_) (fun h19 => ?_)
  ·
   refine pG fun L2 hd2 => ?_
   obtain ⟨m1, m2, es1, c1, es2, c2, pv, hm1, hm2, hop, hpv, rfl⟩ := hd2
   generalize hs1 : (cU ⟨1, n, [], xs⟩ s).2 = s1 at hm1 hm2 hop hpt ⊢
   refine bY (anc := [0, 0, 2, 6, 14, 0, 32, 126, 255, 511, 1023]) (ord := [0, 1, 2, 3, 4, 5, 6, 7, 8, 9, 10]) [6, 7, 10] [10] mixed (by decide +kernel) (.cons .here (.cons (.there (.there (.there .here))) .nil)) ?_;refine aK rfl rfl (.none rfl) rfl rfl (aC rfl) rfl ?_;refine aK rfl rfl (.none rfl) rfl rfl (aC rfl) rfl ?_;refine aK rfl rfl (.none rfl) rfl rfl bL rfl ?_;refine aK rfl rfl (.none rfl) rfl rfl (aH (o' := 2) c8 rfl rfl) rfl ?_;refine aK rfl rfl (.none rfl) rfl rfl (aM hU rfl aP rfl) rfl ?_;refine aK rfl rfl (.none rfl) rfl rfl (bQ dI rfl aP rfl rfl) rfl ?_;refine dl_s rfl rfl (.none rfl) rfl rfl (cF (z0 := [.int .i64 0, (str []), (str []), (str [])]) eP nG rfl rfl rfl rfl (.cons rfl rfl rfl (.cons (.cons (.cons (.cons .nil)))) .nil)) rfl ?_;rintro _ K _ ⟨b26, rfl, rfl, rfl⟩ -;refine ⟨_, (show Tks _ _ _ from (.cons (.there .here) (.cons (.there .here) .nil))).sat, ?_⟩
   refine dl_s rfl rfl (.none rfl) rfl rfl (fF (k := opEl) (ys := [(⟨1, n, [], xs⟩ : OpR)]) fH rfl rfl (.there (.there (.there (.there (.there .here))))) (fun w j => eY Tryz.underlying108 (SeesSl.at (k := opEl) (.blk (.own (.there (.there .here))) rfl rfl) j)) (by show (s1.pend.length + 1) * 56 ≤ 140737488355328; omega) (by show s1.pend.length + 1 ≤ 9223372036854775807; omega)) rfl ?_;rintro v27 K _ ⟨rfl, rfl, ho27⟩ -;refine ⟨_, (show Tks _ _ _ from (.cons (.there .here) (.cons (.there .here) .nil))).sat, ?_⟩
   refine aK rfl rfl (.none rfl) rfl rfl bL rfl ?_;refine aK rfl rfl (.none rfl) rfl rfl (aH (o' := 2) c8 rfl rfl) rfl ?_;refine fY rfl rfl (.none rfl) rfl (bJ hU rfl rfl cG bE (.succ (.succ .zero)) rfl) ?_;rintro _ K _ ⟨rfl, rfl⟩ -;refine bW ?_
   first | (rw [kJ h19, hs1]; refine bC (.cons .here (.cons (.there (.there (.there .here))) (.cons (.there (.there (.there .here))) (.cons (.there .here) (.cons (.there (.there .here)) .nil))))) ?_; refine eN (fZ (s := s1.add ⟨1, n, [], xs⟩) (L := [_, _, _, _]) ⟨m1, m2, es1, c1, es2, c2, v27, hm1, hm2, fun o h => by rcases List.mem_append.1 h with h | h; exact hop o h; rw [List.mem_singleton.1 h]; exact .inl rfl, ho27, rfl⟩) ?_; exact cN () trivial (.cons 2 rfl (.cons 8 rfl .nil)) rfl (fun _ h => dM h)) | (rw [kI h19]; refine bC (.cons .here (.cons (.there .here) .nil)) ?_; exact cN () trivial (.cons 2 rfl (.cons 8 rfl .nil)) rfl (fun _ h => dM h))
  ·
   refine aW ?_
   first | (rw [kJ h19, hs1]; refine bC (.cons .here (.cons (.there (.there (.there .here))) (.cons (.there (.there (.there .here))) (.cons (.there .here) (.cons (.there (.there .here)) .nil))))) ?_; refine eN (fZ (s := s1.add ⟨1, n, [], xs⟩) (L := [_, _, _, _]) ⟨m1, m2, es1, c1, es2, c2, v27, hm1, hm2, fun o h => by rcases List.mem_append.1 h with h | h; exact hop o h; rw [List.mem_singleton.1 h]; exact .inl rfl, ho27, rfl⟩) ?_; exact cN () trivial (.cons 2 rfl (.cons 8 rfl .nil)) rfl (fun _ h => dM h)) | (rw [kI h19]; refine bC (.cons .here (.cons (.there .here) .nil)) ?_; exact cN () trivial (.cons 2 rfl (.cons 8 rfl .nil)) rfl (fun _ h => dM h))
 ·
  intro _ _;refine aG (aG ?_);refine aB ?_;refine aA (aC rfl) rfl ?_;refine aA (bK (k := (elB 5)) rfl Tryz.underlying130 rfl aP) rfl ?_;refine aA (aC rfl) rfl ?_;refine aF (aD ?_);refine a8 ?_;refine eJ (fun (i : Nat) => i ≤ xs.length) (fun i => [(2, v), (8, erV (cU ⟨1, n, [], xs⟩ s).1), (31, i64 xs.length), (32, i64 i)]) (fun _ => K1) (fun i => [sl z (elB 5) v (bang i xs), dsk K1 b (cO n xs s).2]) (fun i => xs.length - i) 0 (Nat.zero_le _) (.cons 2 rfl (.cons 8 rfl (.cons 31 rfl (.cons 32 rfl .nil)))) rfl (fun _ h => h) ?_;intro i hi;refine aG (aB ?_);refine aA (dK rfl rfl) rfl ?_;refine aF (aD ?_);refine aG ?_;refine bM 33 rfl (fun h33 => ?_) (fun h33 => ?_)
  ·
   have hbl := tP (i := i) (xs := xs) hi;have hlt : i < (bang i xs).length := by omega
   refine aW ?_;refine aD (aG ?_);refine a8 (aG ?_);refine aB ?_;refine aA (aC rfl) rfl ?_;refine aA (aE rfl) rfl ?_;refine aF (aD ?_);refine aB ?_;refine aA (aC rfl) rfl ?_;refine aA (aC rfl) rfl ?_;refine aA (bI (k := (elB 5)) kG rfl aP rfl rfl (by first | assumption | omega)) rfl ?_;refine bZ (s7 (k := (elB 5)) (y0 := 33) ts5 rfl rfl rfl rfl (by first | assumption | omega) bE) ?_;rintro _ K _ ⟨rfl, rfl⟩ -;refine aF (aX ?_);refine aD (aB ?_);refine aA (dG rfl rfl aJ aJ) rfl ?_;refine aA (aC rfl) rfl ?_;refine aF ?_;rw [tQ (hbl ▸ hlt)];exact eA (i + 1) aJ aJ (.cons 2 rfl (.cons 8 rfl (.cons 31 rfl (.cons 32 rfl .nil)))) rfl (fun _ h => h)
  ·
   have hie : i = xs.length := by omega
   refine c6 ?_;refine aV ?_;refine aV ?_;refine bF ?_;refine aD (aG ?_);refine aB ?_;refine aA (aC rfl) rfl ?_;refine aA (aE rfl) rfl ?_;refine aF (aD ?_);refine bB ?_;refine bC (.cons (.there .here) .nil) ?_;refine aY rfl rfl le1 ?_;exact ⟨_, rfl, by rw [vT], rfl⟩
theorem xE (b : Nat) (s : DSt) (n : aI) (K K0 : Hl) (le : K0.le K) : Sp Tryz.prog 400 [ptr b, str n] K [dsk K0 b s]
  (Ret fun r K' L' => ∃ v, r = .tuple #[v, erV (kU n s).2] ∧ L' = [sl false (elB 5) v (kU n s).1, dsk K' b s]) := by
 refine l7 ⟨_, Tryz.func400, rfl, rfl⟩ fun L hd => ?_
 rw [List.append_nil];obtain ⟨m1, m2, es1, c1, es2, c2, pv, hm1, hm2, hop, hpv, rfl⟩ := hd;obtain ⟨dur, now, pend, l, f, dn⟩ := s;simp only at hm1 hm2 hop;have hd0 : d8 K b ⟨dur, now, pend, l, f, dn⟩ (dskL b m1 m2 es1 c1 es2 c2 pv ⟨dur, now, pend, l, f, dn⟩) := ⟨m1, m2, es1, c1, es2, c2, pv, hm1.mono le, hm2.mono le, hop, hpv, rfl⟩;refine a6 Tryz.func400 rfl Tryz.ntmps400 rfl rfl fun F w => ?_
 cases dn with
 | true =>
  refine aG (aB ?_);refine aA (aE rfl) rfl ?_;refine aA (aE rfl) rfl ?_;refine aF (aD ?_);refine aG (aG ?_);refine aB ?_;refine aA (aC rfl) rfl ?_;refine aA bL rfl ?_;refine aA (aH (o' := 5) dF rfl rfl) rfl ?_;refine aA (aM ts4 rfl (.own .here) rfl) rfl ?_;refine aF (aD ?_);refine c7 rfl ?_;refine aG (aB ?_);refine aA (bN Tryz.underlying30 (fun _ h => by cases h) rfl) rfl ?_;refine aA (aE rfl) rfl ?_;refine aA (aE rfl) rfl ?_;refine aF (aD ?_);refine bB ?_;refine aS ?_;refine eN (dW hd0) ?_;refine eN (eH (elB 5)) ?_;refine dS rfl rfl rfl (Hl.le_refl _) ?_;exact ⟨_, rfl, _, rfl, rfl⟩
 | false =>
  cases hg : mget es2 n with
  | none =>
   have e : kU n ⟨dur, now, pend, l, f, false⟩ = ([], some 14) := by simp [kU, hm2.lacks _ hg]
   rw [e];refine aG (aB ?_);refine aA (aE rfl) rfl ?_;refine aA (aE rfl) rfl ?_;refine aF (aD ?_);refine aG (aG ?_);refine aB ?_;refine aA (aC rfl) rfl ?_;refine aA bL rfl ?_;refine aA (aH (o' := 5) dF rfl rfl) rfl ?_;refine aA (aM ts4 rfl (.own .here) rfl) rfl ?_;refine aF (aD ?_);refine bO rfl ?_;refine aW ?_;refine aD (aG ?_);refine aB ?_;refine aA (aC rfl) rfl ?_;refine aA bL rfl ?_;refine aA (aH (o' := 1) d6 rfl rfl) rfl ?_;refine aA (aM eU rfl aP rfl) rfl ?_;refine aA (aC rfl) rfl ?_;refine aA (e9 Tryz.underlying107 Tryz.underlying9 nE rfl rfl aP hg) rfl ?_;refine aA (aC rfl) rfl ?_;refine aA (aQ rfl rfl) rfl ?_;refine aA (aQ rfl rfl) rfl ?_;refine aA (aE rfl) rfl ?_;refine aA (aE rfl) rfl ?_;refine aF (aD ?_);refine aG (aG ?_);refine aB ?_;refine aA (aC rfl) rfl ?_;refine aA (eR rfl) rfl ?_;refine aF (aD ?_);refine c7 rfl ?_;refine aG (aB ?_);refine aA (bN Tryz.underlying30 (fun _ h => by cases h) rfl) rfl ?_;refine aA (aE rfl) rfl ?_;refine aA (aE rfl) rfl ?_;refine aF (aD ?_);refine bB ?_;refine aS ?_;refine eN (dW hd0) ?_;refine eN (eH (elB 5)) ?_;refine dS rfl rfl rfl (Hl.le_refl _) ?_;exact ⟨_, rfl, _, rfl, rfl⟩
  | some u =>
   obtain ⟨d, hnd, bs, T, fz, rfl, hbs⟩ := hm2.has _ _ hg;have hbs2 := le _ _ hbs;have e : kU n ⟨dur, now, pend, l, f, false⟩ = (d, none) := by simp [kU, hnd]
   rw [e];refine aG (aB ?_);refine aA (aE rfl) rfl ?_;refine aA (aE rfl) rfl ?_;refine aF (aD ?_);refine aG (aG ?_);refine aB ?_;refine aA (aC rfl) rfl ?_;refine aA bL rfl ?_;refine aA (aH (o' := 5) dF rfl rfl) rfl ?_;refine aA (aM ts4 rfl (.own .here) rfl) rfl ?_;refine aF (aD ?_);refine bO rfl ?_;refine aW ?_;refine aD (aG ?_);refine aB ?_;refine aA (aC rfl) rfl ?_;refine aA bL rfl ?_;refine aA (aH (o' := 1) d6 rfl rfl) rfl ?_;refine aA (aM eU rfl aP rfl) rfl ?_;refine aA (aC rfl) rfl ?_;refine aA (gC Tryz.underlying107 Tryz.underlying9 nE rfl rfl aP hg) rfl ?_;refine aA (aC rfl) rfl ?_;refine aA (aQ rfl rfl) rfl ?_;refine aA (aQ rfl rfl) rfl ?_;refine aA (aE rfl) rfl ?_;refine aA (aE rfl) rfl ?_;refine aF (aD ?_);refine aG (aG ?_);refine aB ?_;refine aA (aC rfl) rfl ?_;refine aA (eR rfl) rfl ?_;refine aF (aD ?_);refine bO rfl ?_;refine aW ?_;refine aD (aG ?_);refine aB ?_;refine aA (aC rfl) rfl ?_;refine aA bL rfl ?_;refine aA (aM ts9 rfl (.known hbs2) rfl) rfl ?_;refine ol_s (iL Tryz.underlying9 Tryz.underlying130 Tryz.underlying5 rfl) rfl ?_;rintro v28 K _ ⟨rfl, rfl⟩ -;refine aA (aE rfl) rfl ?_;refine aA (aE rfl) rfl ?_;refine aF (aD ?_);refine bB ?_;refine eN (fun _ => dE (dW hd0)) ?_;refine dS rfl rfl rfl (Hl.le_refl _) ?_;exact ⟨_, rfl, _, rfl, rfl⟩
theorem rM (b : Nat) (s : DSt) (hpl : s.pend.length ≤ 1000000) (K K0 : Hl) (le : K0.le K) : Sp Tryz.prog 402 [ptr b] K [dsk K0 b s]
  (Ret fun r K' L' => r = erV (cL s).1 ∧ L' = [dsk K' b (cL s).2]) := by
 refine l7 ⟨_, Tryz.func402, rfl, rfl⟩ fun L hd => ?_
 rw [List.append_nil];obtain ⟨m1, m2, es1, c1, es2, c2, pv, hm1, hm2, hop, hpv, rfl⟩ := hd;obtain ⟨dur, now, pend, l, f, dn⟩ := s;simp only at hm1 hm2 hop hpl;refine a6 Tryz.func402 rfl Tryz.ntmps402 rfl rfl fun F w => ?_
 rcases hw : bT l f dn with ⟨_ | e, l2, f2, dn2⟩
 ·have e : cL ⟨dur, now, pend, l, f, dn⟩ = (none, ⟨pend.foldl doF dur, now, [], l2, f2, dn2⟩) := by simp [cL, DSt.we, DSt.ws, hw, DSt.flush]
  rw [e];refine aG (aB ?_);refine aA (aE rfl) rfl ?_;refine aF (aD ?_);refine aG (aG ?_);refine aB ?_;refine aA (aC rfl) rfl ?_;refine bG rfl rfl (gJ b _ _ pv l f dn _) (.cons .here .nil) rfl ?_;rintro _ K _ ⟨rfl, rfl, rfl⟩ -;rw [hw];refine aA (aE rfl) rfl ?_;refine aF (aD ?_);refine aG (aB ?_);refine aA (aC rfl) rfl ?_;refine aA (eF Tryz.underlying79 rfl) rfl ?_;refine aF (aD ?_);refine bO rfl ?_;refine aW ?_;refine aD (aG ?_);refine aG (aB ?_);refine aA (aC rfl) rfl ?_;refine aA bL rfl ?_;refine aA (aH (o' := 2) c8 rfl rfl) rfl ?_;refine aA (aM hU rfl aP rfl) rfl ?_;refine aA (bK (k := opEl) rfl Tryz.underlying108 rfl aP) rfl ?_;refine aA (aC rfl) rfl ?_;refine aF (aD ?_);refine a8 ?_;refine n8 (fun (i : Nat) (K2 : Hl) (es : List Ent) (c : Nat) => i ≤ pend.length ∧ K.le K2 ∧ MapOk K2 es c ((pend.take i).foldl doF dur)) (fun i _ _ _ => [(0, ptr b), (14, pv), (15, i64 pend.length), (16, i64 i)]) (fun _ K2 _ _ => K2) (fun _ _ es c => [pt b (dskO (.map (some m1)) (.map (some m2)) pv l2 f2 dn2), pt m1 (mapO es c), pt m2 (mapO es2 c2), sl false opEl pv pend]) (fun i _ _ _ => pend.length - i) 0 K es1 c1 ⟨Nat.zero_le _, Hl.le_refl _, hm1.mono le⟩ (.cons 0 rfl (.cons 14 rfl (.cons 15 rfl (.cons 16 rfl .nil)))) rfl (fun _ h => h) ?_;intro i K2 es c ⟨hi, leL, hmi⟩;refine aG (aB ?_);refine aA (dK rfl rfl) rfl ?_;refine aF (aD ?_);refine aG ?_;refine bM 17 rfl (fun h17 => ?_) (fun h17 => ?_)
  ·
   have hlt : i < pend.length := by omega
   obtain ⟨o, hx⟩ : ∃ o, pend[i]? = some o := ⟨pend[i]'hlt, List.getElem?_eq_getElem hlt⟩;have hoo := hop o (List.mem_of_getElem? hx);refine aW ?_;refine aD (aG ?_);refine a8 (aG ?_);refine aB ?_;refine aA (bI (k := opEl) eP rfl aP rfl rfl (by first | assumption | omega)) rfl ?_;refine aA (bR (n := 0) (k := opEl) dI rfl aP d9) rfl ?_;refine ol_s (cE nG) rfl ?_;rintro _ K _ ⟨b5, rfl, rfl, rfl⟩ -;refine bZ (cY dI rfl rfl rfl bE (by first | (simp [Value.oneCell']; done) | exact fun c hc => El.one _ _ c hc) (.cons (.cons (.cons (.cons .nil)))) (by intro j hj; simp)) ?_;rintro _ K _ ⟨rfl, rfl⟩ -;refine aF (aD ?_);refine bY (anc := [0, 1, 3, 7, 0, 31]) (ord := [0, 1, 2, 3, 4, 5]) [5] [5] mixed (by decide +kernel) (cV _) ?_;refine aK rfl rfl (.none rfl) rfl rfl (aC rfl) rfl ?_;refine aK rfl rfl (.none rfl) rfl rfl bL rfl ?_;refine aK rfl rfl (.none rfl) rfl rfl (aH (o' := 0) dZ rfl rfl) rfl ?_;refine aK rfl rfl (.none rfl) rfl rfl (aM eU rfl aP rfl) rfl ?_;refine aK rfl rfl (.none rfl) rfl rfl (bQ dI rfl aP rfl rfl) rfl ?_;refine eB rfl (.none rfl) rfl rfl rfl (gS m1 es c _ o hoo _ hmi) (.cons (.there (.there .here)) .nil) rfl ?_;rintro _ K3 _ ⟨rfl, es3, c3, hm3, rfl⟩ le3;refine bW ?_;refine aX (aD ?_);refine aB ?_;refine aA (dG rfl rfl aJ aJ) rfl ?_;refine aA (aC rfl) rfl ?_;refine aF ?_;refine bC (.cons (.there (.there .here)) (.cons .here (.cons (.there .here) (.cons (.there .here) .nil)))) ?_;exact lF (i + 1) _ es3 c3 ⟨hlt, Hl.le_trans leL le3, by rw [List.take_succ_eq_append_getElem hlt, List.foldl_append]; rw [List.getElem?_eq_getElem hlt] at hx; cases hx; exact hm3⟩ aJ (.cons 0 rfl (.cons 14 rfl (.cons 15 rfl (.cons 16 rfl .nil)))) rfl (fun _ h => h)
  ·
   have hie : i = pend.length := by omega
   subst hie;rw [List.take_length] at hmi;refine c6 ?_;refine aV ?_;refine aV ?_;refine bF ?_;refine aD (aG ?_);refine aB ?_;refine aA (aC rfl) rfl ?_;refine aA bL rfl ?_;refine aA (aH (o' := 2) c8 rfl rfl) rfl ?_;refine bZ (bJ hU rfl rfl cG bE (.succ (.succ .zero)) rfl) ?_;rintro _ K _ ⟨rfl, rfl⟩ -;refine aF (aD ?_);refine aG (aB ?_);refine aA (aE rfl) rfl ?_;refine aF (aD ?_);refine bB ?_;refine bC (.cons .here (.cons .here (.cons .here .nil))) ?_;refine eN (eH opEl) ?_;refine bC (.cons (.there .here) (.cons (.there .here) (.cons (.there .here) (.cons .here .nil)))) ?_;refine eN (dW (s := ⟨pend.foldl doF dur, now, [], l2, f2, dn2⟩) ⟨m1, m2, es, c, es2, c2, _, hmi, (hm2.mono le).mono leL, (fun o h => by cases h), rfl, rfl⟩) ?_;refine aY rfl rfl leL ?_;exact ⟨_, rfl, rfl, rfl⟩
 ·have e : cL ⟨dur, now, pend, l, f, dn⟩ = (some e, ⟨dur, now, pend, l2, f2, dn2⟩) := by simp [cL, DSt.we, DSt.ws, hw]
  rw [e];refine aG (aB ?_);refine aA (aE rfl) rfl ?_;refine aF (aD ?_);refine aG (aG ?_);refine aB ?_;refine aA (aC rfl) rfl ?_;refine bG rfl rfl (gJ b _ _ pv l f dn _) (.cons .here .nil) rfl ?_;rintro _ K _ ⟨rfl, rfl, rfl⟩ -;rw [hw];refine aA (aE rfl) rfl ?_;refine aF (aD ?_);refine aG (aB ?_);refine aA (aC rfl) rfl ?_;refine aA (fA Tryz.underlying79 rfl rfl) rfl ?_;refine aF (aD ?_);refine c7 rfl ?_;refine aG (aB ?_);refine aA (aC rfl) rfl ?_;refine aA (aE rfl) rfl ?_;refine aF (aD ?_);refine bB ?_;refine aS ?_;refine eN (dW (s := ⟨dur, now, pend, l2, f2, dn2⟩) ⟨m1, m2, es1, c1, es2, c2, pv, hm1.mono le, hm2.mono le, hop, hpv, rfl⟩) ?_;refine aY rfl rfl (Hl.le_refl _) ?_;exact ⟨_, rfl, rfl, rfl⟩
end Go.Proofs
end
section
namespace Go.Proofs
open Go.Shelf
def Tryz.sl6_ren : Go.Shelf.Ren := ⟨fun | 6 => 83 | 10 => 93 | 11 => 137 | 12 => 138 | 13 => 139 | 14 => 140 | 24 => 239 | 25 => 240 | 26 => 241 | 27 => 242 | 28 => 243 | 29 => 244 | 30 => 245 | 31 => 246 | 32 => 247 | 33 => 248 | 34 => 298 | 35 => 299 | 36 => 300 | 37 => 301 | 38 => 302 | 39 => 334 | n => n, fun | 20 => 20 | 26 => 169 | 35 => 188 | 0 => 0 | 37 => 112 | 3 => 3 | 41 => 257 | 44 => 260 | 49 => 350 | 51 => 345 | 4 => 4 | 54 => 354 | 53 => 353 | 58 => 358 | 5 => 5 | 9 => 9 | 60 => 420 | 64 => 424 | 66 => 454 | 67 => 455 | 17 => 17 | 32 => 185 | 33 => 186 | 82 => 525 | 12 => 12 | 75 => 520 | 76 => 193 | 77 => 521 | 78 => 227 | 79 => 522 | 80 => 523 | n => n, fun n => n⟩
theorem Tryz.sl6 : LaysGg.n6 Tryz.prog Tryz.sl6_ren := {
 mixed := by kernel_rfl
 f6 := Tryz.func83.trans (congrArg some aT)
 f10 := Tryz.func93.trans (congrArg some aT)
 f11 := Tryz.func137.trans (congrArg some aT)
 f12 := Tryz.func138.trans (congrArg some aT)
 f13 := Tryz.func139.trans (congrArg some aT)
 f14 := Tryz.func140.trans (congrArg some aT)
 f24 := Tryz.func239.trans (congrArg some aT)
 f25 := Tryz.func240.trans (congrArg some aT)
 f26 := Tryz.func241.trans (congrArg some aT)
 f27 := Tryz.func242.trans (congrArg some aT)
 f28 := Tryz.func243.trans (congrArg some aT)
 f29 := Tryz.func244.trans (congrArg some aT)
 f30 := Tryz.func245.trans (congrArg some aT)
 f31 := Tryz.func246.trans (congrArg some aT)
 f32 := Tryz.func247.trans (congrArg some aT)
 f33 := Tryz.func248.trans (congrArg some aT)
 f34 := Tryz.func298.trans (congrArg some aT)
 f35 := Tryz.func299.trans (congrArg some aT)
 f36 := Tryz.func300.trans (congrArg some aT)
 f37 := Tryz.func301.trans (congrArg some aT)
 f38 := Tryz.func302.trans (congrArg some aT)
 f39 := Tryz.func334.trans (congrArg some aT)
 t0 := Tryz.underlying0
 a0 := Tryz.isAgg0
 z0 := Tryz.sizeOf0
 v0 := Tryz.zeroValue0
 i0 := by kernel_rfl
 t3 := Tryz.underlying3
 a3 := Tryz.isAgg3
 z3 := Tryz.sizeOf3
 v3 := Tryz.zeroValue3
 i3 := by kernel_rfl
 t4 := Tryz.underlying4
 a4 := Tryz.isAgg4
 z4 := Tryz.sizeOf4
 v4 := Tryz.zeroValue4
 i4 := by kernel_rfl
 t5 := Tryz.underlying5
 a5 := Tryz.isAgg5
 z5 := Tryz.sizeOf5
 v5 := Tryz.zeroValue5
 i5 := by kernel_rfl
 t9 := Tryz.underlying9
 a9 := Tryz.isAgg9
 z9 := Tryz.sizeOf9
 v9 := Tryz.zeroValue9
 i9 := by kernel_rfl
 t12 := Tryz.underlying12
 a12 := Tryz.isAgg12
 z12 := Tryz.sizeOf12
 v12 := Tryz.zeroValue12
 i12 := by kernel_rfl
 t17 := Tryz.underlying17
 a17 := Tryz.isAgg17
 z17 := Tryz.sizeOf17
 v17 := Tryz.zeroValue17
 i17 := by kernel_rfl
 t20 := Tryz.underlying20
 a20 := Tryz.isAgg20
 z20 := Tryz.sizeOf20
 v20 := Tryz.zeroValue20
 i20 := by kernel_rfl
 t26 := Tryz.underlying169
 a26 := Tryz.isAgg169
 z26 := Tryz.sizeOf169
 v26 := Tryz.zeroValue169
 i26 := by kernel_rfl
 t32 := Tryz.underlying185
 a32 := Tryz.isAgg185
 z32 := Tryz.sizeOf185
 v32 := Tryz.zeroValue185
 i32 := by kernel_rfl
 t33 := Tryz.underlying186
 a33 := Tryz.isAgg186
 z33 := Tryz.sizeOf186
 v33 := Tryz.zeroValue186
 i33 := by kernel_rfl
 t35 := Tryz.underlying188
 a35 := Tryz.isAgg188
 z35 := Tryz.sizeOf188
 v35 := Tryz.zeroValue188
 i35 := by kernel_rfl
 t37 := Tryz.underlying112
 a37 := Tryz.isAgg112
 z37 := Tryz.sizeOf112
 v37 := Tryz.zeroValue112
 i37 := by kernel_rfl
 t41 := Tryz.underlying257
 a41 := Tryz.isAgg257
 z41 := Tryz.sizeOf257
 v41 := Tryz.zeroValue257
 i41 := by kernel_rfl
 t44 := Tryz.underlying260
 a44 := Tryz.isAgg260
 z44 := Tryz.sizeOf260
 v44 := Tryz.zeroValue260
 i44 := by kernel_rfl
 t49 := Tryz.underlying350
 a49 := Tryz.isAgg350
 z49 := Tryz.sizeOf350
 v49 := Tryz.zeroValue350
 i49 := by kernel_rfl
 t51 := Tryz.underlying345
 a51 := Tryz.isAgg345
 z51 := Tryz.sizeOf345
 v51 := Tryz.zeroValue345
 i51 := by kernel_rfl
 t53 := Tryz.underlying353
 a53 := Tryz.isAgg353
 z53 := Tryz.sizeOf353
 v53 := Tryz.zeroValue353
 i53 := by kernel_rfl
 t54 := Tryz.underlying354
 a54 := Tryz.isAgg354
 z54 := Tryz.sizeOf354
 v54 := Tryz.zeroValue354
 i54 := by kernel_rfl
 t58 := Tryz.underlying358
 a58 := Tryz.isAgg358
 z58 := Tryz.sizeOf358
 v58 := Tryz.zeroValue358
 i58 := by kernel_rfl
 t60 := Tryz.underlying420
 a60 := Tryz.isAgg420
 z60 := Tryz.sizeOf420
 v60 := Tryz.zeroValue420
 i60 := by kernel_rfl
 t64 := Tryz.underlying424
 a64 := Tryz.isAgg424
 z64 := Tryz.sizeOf424
 v64 := Tryz.zeroValue424
 i64 := by kernel_rfl
 t66 := Tryz.underlying454
 a66 := Tryz.isAgg454
 z66 := Tryz.sizeOf454
 v66 := Tryz.zeroValue454
 i66 := by kernel_rfl
 t67 := Tryz.underlying455
 a67 := Tryz.isAgg455
 z67 := Tryz.sizeOf455
 v67 := Tryz.zeroValue455
 i67 := by kernel_rfl
 t75 := Tryz.underlying520
 a75 := Tryz.isAgg520
 z75 := Tryz.sizeOf520
 v75 := Tryz.zeroValue520
 i75 := by kernel_rfl
 t76 := Tryz.underlying193
 a76 := Tryz.isAgg193
 z76 := Tryz.sizeOf193
 v76 := Tryz.zeroValue193
 i76 := by kernel_rfl
 t77 := Tryz.underlying521
 a77 := Tryz.isAgg521
 z77 := Tryz.sizeOf521
 v77 := Tryz.zeroValue521
 i77 := by kernel_rfl
 t78 := Tryz.underlying227
 a78 := Tryz.isAgg227
 z78 := Tryz.sizeOf227
 v78 := Tryz.zeroValue227
 i78 := by kernel_rfl
 t79 := Tryz.underlying522
 a79 := Tryz.isAgg522
 z79 := Tryz.sizeOf522
 v79 := Tryz.zeroValue522
 i79 := by kernel_rfl
 t80 := Tryz.underlying523
 a80 := Tryz.isAgg523
 z80 := Tryz.sizeOf523
 v80 := Tryz.zeroValue523
 i80 := by kernel_rfl
 t82 := Tryz.underlying525
 a82 := Tryz.isAgg525
 z82 := Tryz.sizeOf525
 v82 := Tryz.zeroValue525
 i82 := by kernel_rfl }
end Go.Proofs
end
section
namespace Go.Proofs
open Go.Shelf Go.RowKit Go.Lib Go.Sort
abbrev cI := List UInt8 × List UInt8
def encF (f : cI) : List Value := [SL.str f.1, SL.str f.2]
def ltF (a b : cI) : Bool := ltStr a.1 b.1
theorem xN : SWO ltF where
 irrefl x := swo_ltStr.irrefl x.1
 trans x y z := swo_ltStr.trans x.1 y.1 z.1
 ntrans x y z := swo_ltStr.ntrans x.1 y.1 z.1
noncomputable def Tryz.svT : TypeInfo := (Tryz.prog.info? 62).get aT
noncomputable def Tryz.svE : TypeInfo := (Tryz.prog.info? 66).get aT
theorem Tryz.svK (n : Nat) (h2 : 2 ≤ n) : Lib.swapperK n Tryz.svE 25 = 9 := by
 have a : Tryz.svE.hasPointers = true := by kernel_rfl
 have b : Tryz.svE.bytes = 32 := by kernel_rfl
 have c : (n == 0) = false := by simp; omega
 have d : (n == 1) = false := by simp; omega
 simp [Lib.swapperK, a, b, c, d]
set_option maxHeartbeats 2000000 in
theorem Tryz.less (blk off c Bs size : Nat) (W : World) (G : Nat → List UInt8) (hs : W.cell? ⟨Bs, 0, none⟩ = some (.slice (some ⟨blk, off, none⟩) size c))
  (hc : ∀ t, t < size → W.cell? ⟨blk, off + t * 2, none⟩ = some (SL.str (G t))) (i j : Nat) (hi : i < size) (hj : j < size) (_hsz : size < 4611686018427387904) :
  Calls Tryz.prog 84 #[.int .i64 i, .int .i64 j, .pointer (some ⟨Bs, 0, none⟩)] W fun e w' => e = .returned (.bool (ltStr (G i) (G j))) ∧ ∃ q, w' = W.drewN q := by
 have ci := hc i hi;have cj := hc j hj
 go_enter Tryz.func84, Tryz.ntmps84
 go_wp2
 go_quiet (fail)
 go_wp2
 go_ret
 refine ⟨?_, nq, rfl⟩
 rw [bytesLess_eq]
 rfl
theorem Tryz.sortMany (blk off c Bs : Nat) (d : Array cI) (h2 : 2 ≤ d.size) (hsz : d.size < 4611686018427387904) (w : World) (hH : HoldsK encF 2 w blk off d) (hblk : blk < w.heap.size)
  (hBs : w.cell? ⟨Bs, 0, none⟩ = some (.slice (some ⟨blk, off, none⟩) d.size c)) (hB1 : Bs < w.heap.size) (hB2 : Bs ≠ blk) :
  Calls Tryz.prog 83 #[.iface 62 (.slice (some ⟨blk, off, none⟩) d.size c), .func (.func 84) #[] #[.pointer (some ⟨Bs, 0, none⟩)]] w fun e w' =>
   e = .returned (.tuple #[]) ∧ ∃ d' n os, PermIn 0 d.size d d' ∧ SortedIn ltF 0 d.size d' ∧ w' = grow (putRowK encF 2 (Sort.ahead w n) blk off d') os := by
 have hless : LessReadsK Tryz.prog 84 #[.pointer (some ⟨Bs, 0, none⟩)] encF 2 ltF blk off d.size w := by
  intro m os dk hs i j hi hj;have e : sortWorldK encF 2 w blk off m dk os = putRowK encF 2 (grow (Sort.ahead w m) os) blk off dk := by
   unfold sortWorldK; rw [putRowK_grow _ _ (Sort.ahead w m) _ blk off _ hblk]
  have hHg : HoldsK encF 2 (grow (Sort.ahead w m) os) blk off d := holdsK_grow _ _ _ _ blk off d hblk (holdsK_ahead _ _ _ _ _ _ _ hH);refine Tryz.less blk off c Bs d.size _ (fun t => dk[t]!.1) ?_ (fun t ht => ?_) i j hi hj aJ
  ·rw [e, cell?_putRowK_other _ _ _ blk off dk _ (by exact hB2), cell?_grow _ _ _ (by exact hB1)]; exact hBs
  ·rw [e]; exact ((holdsK_putRowK _ _ _ blk off d dk hHg hs).cell (i := t) (c := 0) aJ aJ).1
 exact Any.sort_Slice_cells_sorted Tryz.sl6 62 66 Tryz.svT Tryz.svE aT aT aT aT 25 (fun _ => by kernel_rfl) encF 2 (fun _ => rfl) aT (fun _ => by kernel_rfl)
  (fun x v hv => by simp [encF] at hv; rcases hv with rfl | rfl <;> rfl) ltF xN 84 _
  (enters_of Tryz.func84 aT rfl) blk off c d h2 hsz 238 (by rw [Tryz.svK _ h2]; kernel_rfl) false
  (fun args W => run_callFunc_extern Tryz.func238 aT aT aT (e := Extern.ReflectliteSwapper.swap false) aT args W) w hless hH hblk
theorem Tryz.sortTiny (p : Option Addr) (n c : Nat) (h1 : n ≤ 1) (lf : Fn) (la lb : Array Value) (w : World) :
  Calls Tryz.prog 83 #[.iface 62 (.slice p n c), .func lf la lb] w fun e w' => e = .returned (.tuple #[]) ∧ ∃ os, w' = grow w os := by
 rcases (show n = 0 ∨ n = 1 by omega) with rfl | rfl
 ·exact Any.sort_Slice_tiny Tryz.sl6 62 66 Tryz.svT Tryz.svE aT aT aT aT 25 (fun _ => by kernel_rfl) p 0 c h1 230 aT lf la lb w
 ·exact Any.sort_Slice_tiny Tryz.sl6 62 66 Tryz.svT Tryz.svE aT aT aT aT 25 (fun _ => by kernel_rfl) p 1 c h1 231 aT lf la lb w
end Go.Proofs
end
section
namespace Go.Proofs
open Go Go.SL Go.Sort
def aZ : El cI := { e := 66, sz := 2, enc := encF, len := fun _ => rfl, one := fun _ u h => by simp [encF] at h; rcases h with rfl | rfl <;> rfl }
theorem In.grow {w0 : World} {F K : Hl} {L : List Asn} : ∀ (os : List Obj) {w : World}, In w0 F K L w → In w0 F K L (Sort.grow w os.toArray)
 | [], w, i => by simpa using i
 | o :: os, w, i => by
  have e : Sort.grow w (o :: os).toArray = Sort.grow (w.alloc o) os.toArray := by rw [alloc_eq_grow, grow_grow]; congr 1; simp
  rw [e];exact In.grow os (i.alloc o).drop
theorem tX : ∀ (xs : List cI) (t : Nat), (aZ.cs xs)[t]? = (xs[t / 2]?).bind fun f => (encF f)[t % 2]?
 | [], t => by simp [El.cs]
 | x :: r, 0 => rfl
 | x :: r, 1 => rfl
 | x :: r, t + 2 => by
  have := tX r t;have e1 : (t + 2) / 2 = t / 2 + 1 := by omega
  have e2 : (t + 2) % 2 = t % 2 := by omega
  rw [e1, e2, List.getElem?_cons_succ, ← this]
  rfl
theorem oX (d : Array cI) (t : Nat) (h : t < d.size * 2) : (aZ.cs d.toList)[t]? = some ((flatK encF 2 d)[t]!) := by
 have h2 : t / 2 < d.size := by omega
 rw [tX, get_flatK _ _ _ _ h];have e : d.toList[t / 2]? = some d[t / 2]! := by rw [Array.getElem?_toList, Array.getElem?_eq_getElem h2, getElem!_pos d _ h2]
 rw [e];simp only [Option.bind_some];rcases Nat.mod_two_eq_zero_or_one t with e | e <;> rw [e] <;> rfl
theorem uK {w : World} {xs : List cI} {b : Nat} {junk : List Value} {cap : Nat} {fz : Nat × Nat} (hb : w.heap[b]? = some (aO (aZ.cs xs ++ junk) 66 fz)) (hf : FzOk (cap * 2) fz) (hc : xs.length ≤ cap) : HoldsK encF 2 w b 0 xs.toArray := by
 intro j hj;have hj' : j < xs.length * 2 := by simpa using hj
 have hl : (aZ.cs xs).length = xs.length * 2 := aZ.cs_length xs;refine ⟨?_, ?_⟩
 ·rw [Nat.zero_add];refine iF hb ?_;rw [List.getElem?_append_left aJ];exact oX xs.toArray j (by simpa using hj')
 ·have := hf.at (o := 0 + j) aJ;obtain ⟨lo, hi⟩ := fz;simp only [World.frozen?, hb]; exact this
theorem s0 (xs : List cI) (d' : Array cI) (junk : List Value) (hs : d'.size = xs.length) : putCells id 0 (flatK encF 2 d') (aZ.cs xs ++ junk).toArray = (aZ.cs d'.toList ++ junk).toArray := by
 have hl : (aZ.cs xs).length = xs.length * 2 := aZ.cs_length xs;have hl' : (aZ.cs d'.toList).length = xs.length * 2 := by rw [aZ.cs_length]; simp [hs]; rfl
 apply Array.ext_getElem?
 intro k;simp only [putCells, Array.getElem?_mapIdx, size_flatK, List.getElem?_toArray]
 by_cases hk : k < xs.length * 2
 ·rw [List.getElem?_append_left aJ, List.getElem?_append_left aJ, List.getElem?_eq_getElem aJ, oX d' k aJ];simp only [Option.map_some];rw [if_pos ⟨by omega, by omega⟩]; rfl
 ·rw [List.getElem?_append_right aJ, List.getElem?_append_right aJ, hl, hl'];cases junk[k - xs.length * 2]? with
  | none => rfl
  | some y => simp only [Option.map_some]; rw [if_neg aJ]
theorem In.putRow {w0 w : World} {F K : Hl} {L : List Asn} {b : Nat} {xs : List cI} {d' : Array cI} {junk : List Value} {fz : Nat × Nat} {t : TypeId} (hs : d'.size = xs.length) (i : In w0 F K (pt b (aO (aZ.cs xs ++ junk) t fz) :: L) w) :
  In w0 F K (pt b (aO (aZ.cs d'.toList ++ junk) t fz) :: L) (putRowK encF 2 w b 0 d') := by
 have hb := i.piece;refine In.write (H := (putRowK encF 2 w b 0 d').heap) i (by rw [← size_putRowK encF 2 w b 0 d']) ?_ ?_
 ·simp only [putRowK, Sort.putRow, mapBlock, Array.getElem?_modify, if_true, hb, Option.map_some, onCells];rw [s0 xs d' junk hs]
 ·intro x hx;simp only [putRowK, Sort.putRow, mapBlock, Array.getElem?_modify];rw [if_neg (Ne.symm hx)]
abbrev iC (ys : List cI) : Prop := ys.Pairwise fun a b => ¬ b.1 < a.1
theorem qK {d : Array cI} (h : SortedIn ltF 0 d.size d) : iC d.toList := by
 rw [iC, List.pairwise_iff_getElem];intro i j hi hj hij;have := h i j (Nat.zero_le _) hij (by simpa using hj);simp only [ltF, ltStr, decide_eq_false_iff_not] at this
 simpa [getElem!_pos d i (by simpa using hi), getElem!_pos d j (by simpa using hj)] using this
theorem xI (Bs : Nat) (z : Bool) (v : Value) (xs : List cI) (hn : xs.length < 4611686018427387904) (K : Hl) : Sp Tryz.prog 83 [.iface 62 v, .func (.func 84) #[] #[ptr Bs]] K [pt Bs (aO [v] 62), sl z aZ v xs]
  (Ret fun u K' L' => u = .tuple #[] ∧ K' = K ∧ ∃ ys, ys.Perm xs ∧ iC ys ∧ L' = [pt Bs (aO [v] 62), sl z aZ v ys]) := by
 refine ⟨⟨_, Tryz.func83, rfl, rfl⟩, fun F w i => ?_⟩
 have iB : w.heap[Bs]? = some (aO [v] 62) := i.piece;have small : ∀ p c, v = .slice p xs.length c → xs.length ≤ 1 → Calls Tryz.prog 83 [.iface 62 v, .func (.func 84) #[] #[ptr Bs]].toArray w fun e w' => ∃ K' L', (Ret fun u K' L' => u = .tuple #[] ∧ K' = K ∧ ∃ ys, ys.Perm xs ∧ iC ys ∧ L' = [pt Bs (aO [v] 62), sl z aZ v ys]) e K' L' ∧ K.le K' ∧ In w F K' L' w' := by
  intro p c hv h1;have hord : iC xs := by
   match xs, h1 with
   | [], _ => exact List.Pairwise.nil
   | [x], _ => exact List.pairwise_singleton _ _
  rw [hv];refine (Tryz.sortTiny p xs.length c h1 (.func 84) #[] #[ptr Bs] w).mono ?_;rintro e w' ⟨rfl, os, rfl⟩;rw [← hv];exact ⟨K, _, ⟨_, rfl, rfl, rfl, xs, .refl _, hord, rfl⟩, Hl.le_refl _, by simpa using In.grow os.toList i⟩
 have i2 := i.imp (fun h => dM);obtain ⟨h, ⟨a, l, ha, hl, hal, rfl⟩, d1, d2, d3, l1, l2, l3⟩ := id i2.rep;rcases ha with ⟨hv, hx, -⟩ | ⟨b, cap, junk, fz, hv, hz, hc, hj, hf, he⟩
 ·exact small none 0 (by rw [hv, hx]; rfl) (by rw [hx]; exact Nat.zero_le _)
 ·rcases Nat.lt_or_ge 1 xs.length with h1 | h1
  ·have i3 : In w F K [pt b (aO (aZ.cs xs ++ junk) 66 fz), pt Bs (aO [v] 62)] w := ⟨i2.os, i2.tape, i2.output, i2.size, a.join l, ⟨a, l, he, hl, hal, rfl⟩, d1, d2, d3, l1, l2, l3⟩;have hbb := i3.piece;have hlt : ∀ {x o}, w.heap[x]? = some o → x < w.heap.size := fun {x o} e => by
    rcases Nat.lt_or_ge x w.heap.size with h | h
    ·exact h
    ·simp [Array.getElem?_eq_none h] at e
   have hne : Bs ≠ b := by
    rintro rfl;obtain ⟨_, ⟨a1, m1, ha1, ⟨a2, m2, ha2, _, _, rfl⟩, hd, rfl⟩, _⟩ := i3.rep;simp only [pt] at ha1 ha2; subst ha1; subst ha2
    have := (Hl.dj_join.1 hd).1 Bs;simp [Hl.one] at this
   rw [hv];refine (Tryz.sortMany b 0 cap Bs xs.toArray (by simpa using Nat.succ_le_of_lt h1) (by simpa using hn) w (uK hbb hf hc) (hlt hbb) (by have := iF iB (o := 0) (v := v) rfl; rw [this, hv]; simp) (hlt iB) hne).mono ?_;rintro e w' ⟨rfl, d', n, os, hP, hS, rfl⟩;have hsz : d'.size = xs.length := by simpa using hP.1
   have hperm : d'.toList.Perm xs := by
    have := hP.2.2;have e1 : d'.extract 0 xs.toArray.size = d' := by rw [← hP.1]; simp
    rw [e1] at this
    simpa using this
   rw [← hv];have i4 : In w F K [pt b (aO (aZ.cs d'.toList ++ junk) 66 fz), pt Bs (aO [v] 62)] (putRowK encF 2 (Sort.ahead w n) b 0 d') := In.putRow hsz (i3.drew _);have i5 := In.grow os.toList i4;refine ⟨K, _, ⟨_, rfl, rfl, rfl, d'.toList, hperm, qK (by rw [hP.1]; exact hS), rfl⟩, Hl.le_refl _, ?_⟩
   refine In.imp (fun h hh => dM (f7 (fun h' hh' => ?_) h hh)) (by simpa using i5)
   exact .inr ⟨b, cap, junk, fz, by rw [hv]; simp [hsz], fun hz' e0 => by have := congrArg List.length e0; rw [Array.length_toList, hsz] at this; simp at this; rw [this] at h1; simp at h1, by simpa [hsz] using hc, by simpa [hsz] using hj, hf, hh'⟩
  ·exact small _ cap hv h1
end Go.Proofs
end
section
namespace Go.Proofs
open Go Go.SL Go.Syn Go.Box
theorem xor8 {h : Nat} {c : UInt8} (hh : h < 18446744073709551616) : IntKind.u64.wrap (BitVec.ofInt 64 (h : Int) ^^^ BitVec.ofInt 64 (c.toNat : Int)).toNat = ((h ^^^ c.toNat : Nat) : Int) := by
 have hc := c.toNat_lt;have e : (BitVec.ofInt 64 (h : Int) ^^^ BitVec.ofInt 64 (c.toNat : Int)).toNat = h ^^^ c.toNat := by
  rw [BitVec.toNat_xor, BitVec.ofInt_natCast, BitVec.ofInt_natCast, BitVec.toNat_ofNat, BitVec.toNat_ofNat, Nat.mod_eq_of_lt aJ, Nat.mod_eq_of_lt aJ]
 rw [e];have : h ^^^ c.toNat < 2 ^ 64 := Nat.xor_lt_two_pow aJ aJ;unfold IntKind.wrap IntKind.bits IntKind.signed;simp only [Bool.false_and];simp; omega
theorem aAR {m : Nat} : IntKind.u64.wrap ((m : Int) * 1099511628211) = ((m * 1099511628211 % 18446744073709551616 : Nat) : Int) := by
 unfold IntKind.wrap IntKind.bits IntKind.signed;simp only [Bool.false_and];simp
theorem xB {h : Nat} {c : UInt8} : IntKind.u64.wrap (((h ^^^ c.toNat : Nat) : Int) * 1099511628211) = ((eV h c : Nat) : Int) := by unfold eV; exact aAR
theorem xM {h : Nat} {c : UInt8} : eV h c < 18446744073709551616 := by unfold eV; exact Nat.mod_lt _ aJ
theorem tA (s : aI) (hs : s.length ≤ 140737488355328) (K : Hl) : Sp Tryz.prog 226 [str s] K [] (Val (.int .u64 (sumC s)) K) := by
 refine a6 Tryz.func226 rfl Tryz.ntmps226 rfl rfl fun F w => ?_
 refine aG (aB ?_);refine aA (aE rfl) rfl ?_;refine aF (aD ?_);refine aG (aB ?_);refine aA (aE rfl) rfl ?_;refine aF (aD ?_);refine aG (aG ?_);refine aB ?_;refine aA (aC rfl) rfl ?_;refine ol_s (iL Tryz.underlying9 Tryz.underlying130 Tryz.underlying5 rfl) rfl ?_;rintro v7 K _ ⟨rfl, rfl⟩ -;refine aA (bK (k := (elB 5)) rfl Tryz.underlying130 rfl aP) rfl ?_;refine aA (aC rfl) rfl ?_;refine aF (aD ?_);refine a8 ?_;refine rN (fun (i h : Nat) => i ≤ s.length ∧ h < 18446744073709551616 ∧ h = (s.take i).foldl eV 14695981039346656037) (fun i h => [(3, .int .u64 h), (7, v7), (8, i64 s.length), (9, i64 i)]) (fun _ _ => K) (fun _ _ => [sl false (elB 5) v7 s]) (fun i _ => s.length - i) 0 14695981039346656037 ⟨Nat.zero_le _, by omega, by rw [List.take_zero]; exact List.foldl_nil.symm⟩ (.cons 3 rfl (.cons 7 rfl (.cons 8 rfl (.cons 9 rfl .nil)))) rfl (fun _ h => h) ?_;intro i h ⟨hi, hst, hh⟩;refine aG (aB ?_);refine aA (dK rfl rfl) rfl ?_;refine aF (aD ?_);refine aG ?_;refine bM 10 rfl (fun h10 => ?_) (fun h10 => ?_)
 ·
  have hlt : i < s.length := by omega
  obtain ⟨c, hx⟩ : ∃ c, s[i]? = some c := ⟨s[i]'hlt, List.getElem?_eq_getElem hlt⟩;refine aW ?_;refine aD (aG ?_);refine a8 (aG ?_);refine aB ?_;refine aA (bI (k := (elB 5)) kG rfl aP rfl rfl (by first | assumption | omega)) rfl ?_;refine aA (j5 (o := 0) (k := (elB 5)) ts5 rfl aP d9 rfl) rfl ?_;refine aA (aE rfl) rfl ?_;refine aF (aD ?_);refine aB ?_;refine aA (aC rfl) rfl ?_;refine aA (aC rfl) rfl ?_;refine aA (dO (v := .int .u64 (c.toNat : Int)) (dX Tryz.underlying345 Tryz.underlying5 rfl) (by have := c.toNat_lt; unfold IntKind.wrap IntKind.bits IntKind.signed; simp only [Bool.false_and]; simp; omega)) rfl ?_;refine aA (dO (v := .int .u64 ((h ^^^ c.toNat : Nat) : Int)) (wQ rfl rfl) (congrArg (Value.int .u64) (xor8 hst))) rfl ?_;refine aA (dO (v := .int .u64 ((eV h c : Nat) : Int)) (rC rfl rfl) (congrArg (Value.int .u64) xB)) rfl ?_;refine aA (aE rfl) rfl ?_;refine aF (aX ?_);refine aD (aB ?_);refine aA (dG rfl rfl aJ aJ) rfl ?_;refine aA (aC rfl) rfl ?_;refine aF ?_;refine oO (i + 1) (eV h c) ⟨by omega, xM, ?_⟩ aJ (.cons 3 rfl (.cons 7 rfl (.cons 8 rfl (.cons 9 rfl .nil)))) rfl (fun _ h => h)
  rw [List.take_succ_eq_append_getElem hlt, List.foldl_append, ← hh]; rw [List.getElem?_eq_getElem hlt] at hx; cases hx; rw [List.foldl_cons, List.foldl_nil]
 ·
  have hie : i = s.length := by omega
  subst hie;rw [List.take_length, ← rL] at hh;subst hh;refine c6 ?_;refine aV ?_;refine aV ?_;refine bF ?_;refine aD (aG ?_);refine aB ?_;refine aA (aC rfl) rfl ?_;refine aA (aE rfl) rfl ?_;refine aF (aD ?_);refine bB ?_;refine bC .nil ?_;refine aY rfl rfl (Hl.le_refl _) ?_;exact ⟨rfl, rfl, rfl⟩
theorem sY (v : Value) (xs : List File) (K : Hl) (hv : Ksl aZ K v xs) (hg : Glob K) (hd : Deb K) (hb : (cM xs).length ≤ 1000000000) (hn : xs.length ≤ 100) : Sp Tryz.prog 132 [v] K [] (Val (str (gM xs)) K) := by
 refine a6 Tryz.func132 rfl Tryz.ntmps132 rfl rfl fun F w => ?_
 refine aG (aB ?_);refine aA (aE rfl) rfl ?_;refine aF (aD ?_);refine aG (aB ?_);refine ol_s (cE aA1) rfl ?_;rintro _ K _ ⟨b3, rfl, rfl, rfl⟩ -;refine aF (aD ?_);refine aG (aG ?_);refine aB ?_;refine aA (aC rfl) rfl ?_;refine aA (bK (k := aZ) rfl Tryz.underlying62 rfl (.known hv)) rfl ?_;refine aA (aC rfl) rfl ?_;refine aF (aD ?_);refine a8 ?_;refine gN (f7 (sH b3)) ?_;refine eJ (fun (i : Nat) => i ≤ xs.length) (fun i => [(3, ptr b3), (7, v), (8, i64 xs.length), (9, i64 i)]) (fun _ => K) (fun i => [bldr b3 (cM (xs.take i))]) (fun i => xs.length - i) 0 (Nat.zero_le _) (.cons 3 rfl (.cons 7 rfl (.cons 8 rfl (.cons 9 rfl .nil)))) rfl (fun _ h => h) ?_;intro i hi;refine aG (aB ?_);refine aA (dK rfl rfl) rfl ?_;refine aF (aD ?_);refine aG ?_;refine bM 10 rfl (fun h10 => ?_) (fun h10 => ?_)
 ·
  have hlt : i < xs.length := by omega
  obtain ⟨o, hx⟩ : ∃ o, xs[i]? = some o := ⟨xs[i]'hlt, List.getElem?_eq_getElem hlt⟩;have hel := oS (List.mem_of_getElem? hx);have hbt := jI xs i;have hbt2 := jI xs (i + 1);rw [mP hx, List.length_append] at hbt2;have hel2 : (fU o).length = o.1.length + 1 + (Lib.itoa o.2.length).length + 1 + o.2.length := by simp [fU]; omega
  refine aW ?_;refine aD (aG ?_);refine a8 (aG ?_);refine aB ?_;refine aA (bI (k := aZ) cR rfl (.known hv) rfl rfl (by first | assumption | omega)) rfl ?_;refine aA (bR (n := 0) (k := aZ) dU rfl (.known hv) d9) rfl ?_;refine ol_s (cE tz66) rfl ?_;rintro _ K _ ⟨b5, rfl, rfl, rfl⟩ -;refine bZ (cY dU rfl rfl rfl bE (by first | (simp [Value.oneCell']; done) | exact fun c hc => El.one _ _ c hc) (.cons (.cons .nil)) (by intro j hj; simp)) ?_;rintro _ K _ ⟨rfl, rfl⟩ -;refine aF (aD ?_);refine bY (anc := [0, 1, 3, 0, 8, 24, 56, 127, 255, 0, 512, 2047, 4095]) (ord := [0, 1, 2, 3, 4, 5, 9, 10, 6, 7, 8, 11, 12]) [6, 12] [12] mixed (by decide +kernel) (.cons .here .nil) ?_;refine aK rfl rfl (.none rfl) rfl rfl (aH (o' := 0) hO rfl rfl) rfl ?_;refine aK rfl rfl (.none rfl) rfl rfl (aM ts9 rfl aP rfl) rfl ?_;refine aK rfl rfl (.none rfl) rfl rfl (cX rfl rfl (by first | (simp; omega) | omega)) rfl ?_;refine aK rfl rfl (.none rfl) rfl rfl (aH (o' := 1) f8 rfl rfl) rfl ?_;refine aK rfl rfl (.none rfl) rfl rfl (aM ts9 rfl aP rfl) rfl ?_;refine aK rfl rfl (.none rfl) rfl rfl (cK rfl Tryz.underlying9 rfl) rfl ?_;refine aK rfl rfl (.none rfl) rfl rfl (aH (o' := 1) f8 rfl rfl) rfl ?_;refine aK rfl rfl (.none rfl) rfl rfl (aM ts9 rfl aP rfl) rfl ?_;refine jK rfl (.none rfl) rfl rfl rfl rfl (j8 _ aJ aJ _ hg) rfl ?_;refine aK rfl rfl (.none rfl) rfl rfl (cX rfl rfl (by first | (simp; omega) | omega)) rfl ?_;refine aK rfl rfl (.none rfl) rfl rfl (cX rfl rfl (by first | (simp; omega) | omega)) rfl ?_;refine aK rfl rfl (.none rfl) rfl rfl (cX rfl rfl (by first | (simp; omega) | omega)) rfl ?_;refine eB rfl (.none rfl) rfl rfl rfl (kK b3 (fU o) _ aJ _) (.cons (.there .here) .nil) rfl ?_;rintro _ K _ ⟨rfl, rfl, rfl⟩ -;refine bW ?_;refine aX (aD ?_);refine aB ?_;refine aA (dG rfl rfl aJ aJ) rfl ?_;refine aA (aC rfl) rfl ?_;refine aF ?_;refine bC (.cons .here .nil) ?_;refine eA (i + 1) aJ aJ (.cons 3 rfl (.cons 7 rfl (.cons 8 rfl (.cons 9 rfl .nil)))) rfl (fun _ h => by rw [mP hx]; exact h)
 ·
  have hie : i = xs.length := by omega
  subst hie;rw [List.take_length];have hil := Lib.itoa_length_le ((cM xs).length : Int) aJ aJ;have hxl := oZ (qR (cM xs));refine c6 ?_;refine aV ?_;refine aV ?_;refine bF ?_;refine aD (aG ?_);refine aB ?_;refine bG rfl rfl (nL b3 _ aJ _) (.cons .here .nil) rfl ?_;rintro _ K _ ⟨rfl, rfl, rfl⟩ -;refine aA (aE rfl) rfl ?_;refine aF (aD ?_);refine aG (aB ?_);refine aA (aC rfl) rfl ?_;refine aA (cK rfl Tryz.underlying9 rfl) rfl ?_;refine cD rfl rfl (j8 _ aJ aJ _ hg) rfl ?_;refine aA (cX rfl rfl (by simp only [List.length_singleton]; omega)) rfl ?_;refine aA (aC rfl) rfl ?_;refine cD rfl rfl (tA _ aJ _) rfl ?_;refine cD rfl rfl (wX _ (qR _) _ hd) rfl ?_;refine aA (cX rfl rfl (by simp only [List.length_append, List.length_singleton]; omega)) rfl ?_;refine aA (cX rfl rfl (by simp only [List.length_append, List.length_singleton]; omega)) rfl ?_;refine aA (aC rfl) rfl ?_;refine aA (cX rfl rfl (by simp only [List.length_append, List.length_singleton]; omega)) rfl ?_;refine aA (aE rfl) rfl ?_;refine aF (aD ?_);refine bB ?_;refine bC .nil ?_;refine aY rfl rfl (Hl.le_refl _) ?_;exact ⟨rfl, rfl, rfl⟩
end Go.Proofs
end
section
namespace Go.Proofs
open Go Go.SL Go.Syn Go.Box
abbrev dV (b : Nat) : Value := .iface 103 (ptr b)
theorem zG (b : Nat) (w : World) : (Go.method (Tryz.prog.types.size + Made.depth) 103 (ptr b) "Write").run Tryz.prog w = .ok (403, ptr b) w := by kernel_rfl
theorem w9 (b : Nat) (w : World) : (Go.method (Tryz.prog.types.size + Made.depth) 103 (ptr b) "Remove").run Tryz.prog w = .ok (401, ptr b) w := by kernel_rfl
theorem yF (b : Nat) (w : World) : (Go.method (Tryz.prog.types.size + Made.depth) 103 (ptr b) "Sync").run Tryz.prog w = .ok (402, ptr b) w := by kernel_rfl
theorem aAP (b : Nat) (w : World) : (Go.method (Tryz.prog.types.size + Made.depth) 103 (ptr b) "Read").run Tryz.prog w = .ok (400, ptr b) w := by kernel_rfl
def Clo (N : Nat) (K : Hl) (b : Nat) (fv : Value) (g : DSt → Er × DSt) : Prop := ∃ f vs, kZ Tryz.prog fv f vs ∧ ∀ (K1 K0 : Hl) (s : DSt), K.le K1 → K0.le K1 → s.pend.length ≤ N →
 Sp Tryz.prog f vs K1 [dsk K0 b s] (Ret fun v K' L' => v = erV (g s).1 ∧ L' = [dsk K' b (g s).2]) ∧ (g s).2.pend.length ≤ s.pend.length + 200
theorem Clo.weak {N N' : Nat} {K : Hl} {b : Nat} {fv : Value} {g : DSt → Er × DSt} (h : Clo N K b fv g) (hN : N' ≤ N) : Clo N' K b fv g := let ⟨f, vs, h1, h2⟩ := h; ⟨f, vs, h1, fun K1 K0 s le1 le0 hp => h2 K1 K0 s le1 le0 aJ⟩
theorem Clo.mono {N : Nat} {K K' : Hl} {b : Nat} {fv : Value} {g : DSt → Er × DSt} (h : Clo N K b fv g) (le : K.le K') : Clo N K' b fv g := let ⟨f, vs, h1, h2⟩ := h; ⟨f, vs, h1, fun K1 K0 s le1 le0 hp => h2 K1 K0 s (Hl.le_trans le le1) le0 hp⟩
theorem lD (K : Hl) (b : Nat) : Clo 800000 K b (.func (.method "Sync") #[dV b] #[]) cL :=
 ⟨_, _, oR (yF b) ⟨_, Tryz.func402, rfl, rfl⟩, fun K1 K0 s _ le0 hp => ⟨rM b s aJ K1 K0 le0, by have := jC s; omega⟩⟩
theorem tL (b bd bf : Nat) (n d : aI) (s : DSt) (K K0 : Hl) (le : K0.le K) (T1 T2 : TypeId) (z1 z2 : Nat × Nat) (h1 : K bd = some (aO [dV b] T1 z1)) (h2 : K bf = some (aO [str n, str d] T2 z2)) (hd : d.length ≤ 140737488355328) (hp : s.pend.length ≤ 900000) :
  Sp Tryz.prog 224 [ptr bd, ptr bf] K [dsk K0 b s] (Ret fun v K' L' => v = erV (cO n d s).1 ∧ L' = [dsk K' b (cO n d s).2]) := by
 refine a6 Tryz.func224 rfl Tryz.ntmps224 rfl rfl fun F w => ?_
 refine aG (aB ?_);refine aA (aE rfl) rfl ?_;refine aF (aD ?_);refine aG (aB ?_);refine aA (aM iU rfl aP rfl) rfl ?_;refine aA (aH (o' := 0) hO rfl rfl) rfl ?_;refine aA (aM ts9 rfl aP rfl) rfl ?_;refine aA (aH (o' := 1) f8 rfl rfl) rfl ?_;refine aA (aM ts9 rfl aP rfl) rfl ?_;refine ol_s (iL Tryz.underlying9 Tryz.underlying130 Tryz.underlying5 rfl) rfl ?_;rintro v8 K _ ⟨rfl, rfl⟩ -;refine gE rfl rfl (zG b) (vU b s n d v8 false hp hd _ _ le) (.cons (.there .here) (.cons .here .nil)) rfl ?_;rintro _ K1 _ ⟨rfl, rfl⟩ le1;refine aA (aE rfl) rfl ?_;refine aF (aD ?_);refine bB ?_;refine bC (.cons .here .nil) ?_;refine aY rfl rfl le1 ?_;exact ⟨_, rfl, rfl, rfl⟩
theorem nC (b : Nat) (n d : aI) (hd : d.length ≤ 140737488355328) (K : Hl) : Sp Tryz.prog 131 [dV b, .agg #[str n, str d]] K [] (Ret fun v K' L' => L' = [] ∧ ∃ x y, v = .func (.func 224) #[] #[ptr x, ptr y] ∧ Clo 800000 K' b v (cO n d)) := by
 refine a6 Tryz.func131 rfl Tryz.ntmps131 rfl rfl fun F w => ?_
 refine aG (aB ?_);refine ol_s (f5 rfl rfl) rfl ?_;rintro _ K _ ⟨b2, rfl, rfl, rfl⟩ -;refine ol_s (f5 rfl rfl) rfl ?_;rintro _ K _ ⟨b3, rfl, rfl, rfl⟩ -;refine aA (aE rfl) rfl ?_;refine aF (aD ?_);refine aG ?_;refine fG fun K1 le1 hb3 => ?_
 refine fG fun K2 le2 hb2 => ?_
 refine aB ?_;refine aA (dL rfl rfl) rfl ?_;refine aA (aE rfl) rfl ?_;refine aF (aD ?_);refine bB ?_;refine bC .nil ?_;refine aY rfl rfl (Hl.le_trans le1 le2) ?_;exact ⟨_, rfl, rfl, _, _, rfl, _, _, iZ ⟨_, Tryz.func224, rfl, rfl⟩, fun K3 K0 s le3 le0 hp => ⟨tL b b2 b3 n d s K3 K0 le0 _ _ _ _ (le3 _ _ hb2) (le3 _ _ (le2 _ _ hb3)) hd aJ, by have := iA n d s; omega⟩⟩
theorem fO (g : DSt → Er × DSt) (gs : List (DSt → Er × DSt)) (s : DSt) : cZ (g :: gs) s = if (g s).1.isSome = true then g s else cZ gs (g s).2 := rfl
theorem vF (N b : Nat) (v : Value) (cs : List Cell) (gs : List (DSt → Er × DSt)) (s : DSt) (K K0 : Hl) (le : K0.le K) (hv : Ksl (fS 247) K v cs) (hl : gs.length = cs.length) (hc : ∀ (i : Nat) (c : Cell) (g : DSt → Er × DSt), cs[i]? = some c → gs[i]? = some g → Clo N K b c.1 g) (hp : s.pend.length + 200 * cs.length ≤ N) (hcl : cs.length ≤ 100) :
  Sp Tryz.prog 130 [v] K [dsk K0 b s] (Ret fun r K' L' => r = erV (cZ gs s).1 ∧ L' = [dsk K' b (cZ gs s).2]) := by
 refine a6 Tryz.func130 rfl Tryz.ntmps130 rfl rfl fun F w => ?_
 refine aG (aB ?_);refine aA (aE rfl) rfl ?_;refine aF (aD ?_);refine aG (aG ?_);refine aB ?_;refine aA (aC rfl) rfl ?_;refine aA (bK (k := fS 247) rfl Tryz.underlying342 rfl (.known hv)) rfl ?_;refine aA (aC rfl) rfl ?_;refine aF (aD ?_);refine a8 ?_;refine gN (f7 (jL le)) ?_;refine iM (fun (i : Nat) (K2 : Hl) (s2 : DSt) => i ≤ cs.length ∧ K.le K2 ∧ s2.pend.length ≤ s.pend.length + 200 * i ∧ cZ gs s = cZ (gs.drop i) s2) (fun i _ _ => [(6, v), (7, i64 cs.length), (8, i64 i)]) (fun _ K2 _ => K2) (fun _ K2 s2 => [dsk K2 b s2]) (fun i _ _ => cs.length - i) 0 K s ⟨Nat.zero_le _, Hl.le_refl _, Nat.le_refl _, rfl⟩ (.cons 6 rfl (.cons 7 rfl (.cons 8 rfl .nil))) rfl (fun _ h => h) ?_;intro i K2 s2 ⟨hi, leL, hp2, hx⟩;refine aG (aB ?_);refine aA (dK rfl rfl) rfl ?_;refine aF (aD ?_);refine aG ?_;refine bM 9 rfl (fun h9 => ?_) (fun h9 => ?_)
 ·
  have hlt : i < cs.length := by omega
  obtain ⟨c, hcc⟩ : ∃ c, cs[i]? = some c := ⟨cs[i]'hlt, List.getElem?_eq_getElem hlt⟩;obtain ⟨g, hg⟩ : ∃ g, gs[i]? = some g := ⟨gs[i]'(by omega), List.getElem?_eq_getElem aJ⟩;obtain ⟨f, vs, hen, hsp⟩ := hc i c g hcc hg;obtain ⟨hs1, hs2⟩ := hsp K2 K2 s2 leL (Hl.le_refl _) aJ;have hv2 := hv.mono leL;refine aW ?_;refine aD (aG ?_);refine a8 (aG ?_);refine aB ?_;refine aA (bI (k := fS 247) hQ rfl (.known hv2) rfl rfl (by first | assumption | omega)) rfl ?_;refine aA (j5 (o := 0) (k := fS 247) aA0 rfl (.known hv2) hcc rfl) rfl ?_;refine aA (aE rfl) rfl ?_;refine aF (aD ?_);refine aG (aB ?_);refine aA (aC rfl) rfl ?_;refine o5 rfl hen hs1 (.cons .here .nil) rfl ?_;rintro _ K3 _ ⟨rfl, rfl⟩ le3;refine aA (aE rfl) rfl ?_;refine aF (aD ?_);rcases hr : g s2 with ⟨_ | e, s3⟩
  ·
   refine aG (aB ?_);refine aA (aC rfl) rfl ?_;refine aA (eF Tryz.underlying79 rfl) rfl ?_;refine aF (aD ?_);refine bO rfl ?_;refine aW ?_;refine aX (aD ?_);refine aB ?_;refine aA (dG rfl rfl aJ aJ) rfl ?_;refine aA (aC rfl) rfl ?_;refine aF ?_;exact fW (i + 1) K3 s3 ⟨by omega, Hl.le_trans leL le3, by have := hs2; rw [hr] at this; simp only at this; omega, by rw [hx, eL hg, fO, hr]; rfl⟩ aJ (.cons 6 rfl (.cons 7 rfl (.cons 8 rfl .nil))) rfl (fun _ h => h)
  ·
   refine aG (aB ?_);refine aA (aC rfl) rfl ?_;refine aA (fA Tryz.underlying79 rfl rfl) rfl ?_;refine aF (aD ?_);refine c7 rfl ?_;refine aG (aB ?_);refine aA (aC rfl) rfl ?_;refine aA (aE rfl) rfl ?_;refine aF (aD ?_);refine bB ?_;refine a7 ?_;refine aS ?_;refine aS ?_;refine a7 ?_;refine aS ?_;refine aY rfl rfl (Hl.le_trans leL le3) ?_;have hy : cZ gs s = (some e, s3) := (by rw [hx, eL hg, fO, hr]; rfl);rw [hy];exact ⟨_, rfl, rfl, rfl⟩
 ·
  have hie : i = cs.length := by omega
  subst hie;rw [List.drop_of_length_le aJ] at hx;rw [hx];refine c6 ?_;refine aV ?_;refine aV ?_;refine bF ?_;refine aD (aG ?_);refine aB ?_;refine aA (aE rfl) rfl ?_;refine aF (aD ?_);refine bB ?_;refine aY rfl rfl leL ?_;exact ⟨_, rfl, rfl, rfl⟩
theorem s9 {P : Program} {f : FuncId} {args : List Value} {K : Hl} {b : Nat} {o : Obj} {L : List Asn} {R : Ending → Hl → List Asn → Prop} (hb : ∃ fn, P.funcs[f]? = some fn ∧ (fn.name == "runtime.NumGoroutine") = false ∧ fn.body.isSome = true)
  (h : ∀ K', K.le K' → K' b = some o → Sp P f args K' L R) : Sp P f args K (pt b o :: L) R :=
 ⟨hb, fun F w i => by
  obtain ⟨h1, h2, h3⟩ := i.settle;exact ((h _ h1 h2).2 F w h3).mono fun e w' ⟨K', L', r, le, j⟩ => ⟨K', L', r, Hl.le_trans h1 le, j⟩⟩
theorem oN (e : TypeId) : ∀ cs : List Cell, (fS e).cs cs = cs.map (·.1)
 | [] => rfl
 | a :: r => congrArg (a.1 :: ·) (oN e r)
theorem nB (N b bs : Nat) (cs : List Cell) (gs : List (DSt → Er × DSt)) (s : DSt) (K K0 : Hl) (le : K0.le K) (fz : Nat × Nat) (hl : gs.length = cs.length) (hc : ∀ (i : Nat) (c : Cell) (g : DSt → Er × DSt), cs[i]? = some c → gs[i]? = some g → Clo N K b c.1 g) (hp : s.pend.length + 200 * cs.length ≤ N) (hcl : cs.length ≤ 100) :
  Sp Tryz.prog 130 [.slice (some ⟨bs, 0, none⟩) cs.length cs.length] K [pt bs (aO (cs.map (·.1)) 247 fz), dsk K0 b s] (Ret fun r K' L' => r = erV (cZ gs s).1 ∧ L' = [dsk K' b (cZ gs s).2]) := by
 refine s9 ⟨_, Tryz.func130, rfl, rfl⟩ fun K' le' hk => ?_
 refine vF N b _ cs gs s K' K0 (Hl.le_trans le le') (.inr ⟨bs, 0, cs.length, _, fz, rfl, ⟨_, hk⟩, ?_⟩) hl (fun i c g h1 h2 => (hc i c g h1 h2).mono le') hp hcl
 rw [oN];exact List.take_of_length_le (by simp [fS])
theorem wT (b bd : Nat) (s : DSt) (K K0 : Hl) (le : K0.le K) (T1 : TypeId) (z1 : Nat × Nat) (h1 : K bd = some (aO [dV b] T1 z1)) (hp : s.pend.length ≤ 900000) :
  Sp Tryz.prog 227 [ptr bd] K [dsk K0 b s] (Ret fun v K' L' => v = erV (dC bD s).1 ∧ L' = [dsk K' b (dC bD s).2]) := by
 refine a6 Tryz.func227 rfl Tryz.ntmps227 rfl rfl fun F w => ?_
 refine aG (aB ?_);refine aA (aE rfl) rfl ?_;refine aF (aD ?_);refine aG (aB ?_);refine aA (aM iU rfl aP rfl) rfl ?_;refine gE rfl rfl (w9 b) (s5 b s bD aJ _ _ le) (.cons .here .nil) rfl ?_;rintro _ K1 _ ⟨rfl, rfl⟩ le1;refine aA (aE rfl) rfl ?_;refine aF (aD ?_);refine bB ?_;refine bC (.cons .here .nil) ?_;refine aY rfl rfl le1 ?_;exact ⟨_, rfl, rfl, rfl⟩
theorem wI (K : Hl) (b bd : Nat) (T1 : TypeId) (z1 : Nat × Nat) (h1 : K bd = some (aO [dV b] T1 z1)) : Clo 800000 K b (.func (.func 227) #[] #[ptr bd]) (dC bD) :=
 ⟨_, _, iZ ⟨_, Tryz.func227, rfl, rfl⟩, fun K1 K0 s le1 le0 hp => ⟨wT b bd s K1 K0 le0 _ _ (le1 _ _ h1) aJ, by have := jT bD s; omega⟩⟩
theorem xW {N : Nat} {K : Hl} {b : Nat} {v1 v2 v3 : Cell} {g1 g2 g3 : DSt → Er × DSt} (h1 : Clo N K b v1.1 g1) (h2 : Clo N K b v2.1 g2) (h3 : Clo N K b v3.1 g3) : ∀ (i : Nat) (c : Cell) (g : DSt → Er × DSt), [v1, v2, v3][i]? = some c → [g1, g2, g3][i]? = some g → Clo N K b c.1 g
 | 0, c, g, e1, e2 => by cases e1; cases e2; exact h1
 | 1, c, g, e1, e2 => by cases e1; cases e2; exact h2
 | 2, c, g, e1, e2 => by cases e1; cases e2; exact h3
 | i + 3, c, g, e1, _ => by simp at e1
end Go.Proofs
end
section
namespace Go.Proofs
open Go Go.SL Go.Syn Go.Box
theorem yR {xs : List File} {i : Nat} {f : File} (h : xs[i]? = some f) (t : List (DSt → Er × DSt)) : (cW xs ++ t).drop i = cO f.1 f.2 :: (cW xs ++ t).drop (i + 1) := by
 refine eL ?_;rw [List.getElem?_append_left (by have := iI h; simpa [cW] using this)];simp [cW, h]
theorem sQ (b : Nat) (v : Value) (xs : List File) (s : DSt) (K K0 : Hl) (le : K0.le K) (hv : Ksl aZ K v xs) (hn : xs.length ≤ 100) (hd : ∀ f ∈ xs, f.2.length ≤ 140737488355328) (hp : s.pend.length ≤ 700000) :
  Sp Tryz.prog 134 [dV b, v] K [dsk K0 b s] (Ret fun r K' L' => r = erV (eE xs s).1 ∧ L' = [dsk K' b (eE xs s).2]) := by
 refine a6 Tryz.func134 rfl Tryz.ntmps134 rfl rfl fun F w => ?_
 refine aG (aB ?_);refine ol_s (f5 rfl rfl) rfl ?_;rintro _ K _ ⟨b2, rfl, rfl, rfl⟩ -;refine aA (aE rfl) rfl ?_;refine aF (aD ?_);refine aG (aG ?_);refine fG fun K1 le1 hb2 => ?_
 have hv1 := hv.mono le1;refine aB ?_;refine aA (aC rfl) rfl ?_;refine aA (bK (k := aZ) rfl Tryz.underlying62 rfl (.known hv1)) rfl ?_;refine aA (aC rfl) rfl ?_;refine aF (aD ?_);refine a8 ?_;refine gN (f7 (jL (Hl.le_trans le le1))) ?_;refine iM (fun (i : Nat) (K2 : Hl) (s2 : DSt) => i ≤ xs.length ∧ K1.le K2 ∧ s2.pend.length ≤ s.pend.length + i ∧ eE xs s = cZ ((cW xs ++ [cL, dC bD, cL]).drop i) s2) (fun i _ _ => [(2, ptr b2), (8, v), (9, i64 xs.length), (10, i64 i)]) (fun _ K2 _ => K2) (fun _ K2 s2 => [dsk K2 b s2]) (fun i _ _ => xs.length - i) 0 K1 s ⟨Nat.zero_le _, Hl.le_refl _, Nat.le_refl _, rfl⟩ (.cons 2 rfl (.cons 8 rfl (.cons 9 rfl (.cons 10 rfl .nil)))) rfl (fun _ h => h) ?_;intro i K2 s2 ⟨hi, leL, hp2, hx⟩;refine aG (aB ?_);refine aA (dK rfl rfl) rfl ?_;refine aF (aD ?_);refine aG ?_;refine bM 11 rfl (fun h11 => ?_) (fun h11 => ?_)
 ·
  have hlt : i < xs.length := by omega
  obtain ⟨f, hxx⟩ : ∃ f, xs[i]? = some f := ⟨xs[i]'hlt, List.getElem?_eq_getElem hlt⟩;have hv2 := hv1.mono leL;have hb22 := leL _ _ hb2;have hfl := hd f (List.mem_of_getElem? hxx);refine aW ?_;refine aD (aG ?_);refine a8 (aG ?_);refine aB ?_;refine aA (bI (k := aZ) cR rfl (.known hv2) rfl rfl (by first | assumption | omega)) rfl ?_;refine aA (bR (n := 0) (k := aZ) dU rfl (.known hv2) d9) rfl ?_;refine ol_s (cE tz66) rfl ?_;rintro _ K _ ⟨b6, rfl, rfl, rfl⟩ -;refine bZ (cY dU rfl rfl rfl bE (by first | (simp [Value.oneCell']; done) | exact fun c hc => El.one _ _ c hc) (.cons (.cons .nil)) (by intro j hj; simp)) ?_;rintro _ K _ ⟨rfl, rfl⟩ -;refine aF (aD ?_);refine aG (aB ?_);refine aA (aM iU rfl aP rfl) rfl ?_;refine aA (bQ dU rfl aP rfl rfl) rfl ?_;refine bG rfl rfl (nC b f.1 f.2 hfl _) .nil rfl ?_;rintro _ K _ ⟨rfl, x16, y16, rfl, hclo⟩ le2;obtain ⟨fn, vs, hen, hsp⟩ := hclo;obtain ⟨hs1, hs2⟩ := hsp K _ s2 (Hl.le_refl _) le2 aJ;refine o5 rfl hen hs1 (.cons (.there .here) .nil) rfl ?_;rintro _ K3 _ ⟨rfl, rfl⟩ le3;refine aA (aE rfl) rfl ?_;refine aF (aD ?_);rcases hr : cO f.1 f.2 s2 with ⟨_ | e, s3⟩
  ·
   refine aG (aB ?_);refine aA (aC rfl) rfl ?_;refine aA (eF Tryz.underlying79 rfl) rfl ?_;refine aF (aD ?_);refine bO rfl ?_;refine aW ?_;refine aX (aD ?_);refine aB ?_;refine aA (dG rfl rfl aJ aJ) rfl ?_;refine aA (aC rfl) rfl ?_;refine aF ?_;refine bC (.cons .here .nil) ?_;exact fW (i + 1) K3 s3 ⟨by omega, Hl.le_trans leL (Hl.le_trans le2 le3), by have := iA f.1 f.2 s2; rw [hr] at this; simp only at this; omega, by rw [hx, yR hxx, fO, hr]; rfl⟩ aJ (.cons 2 rfl (.cons 8 rfl (.cons 9 rfl (.cons 10 rfl .nil)))) rfl (fun _ h => h)
  ·
   refine aG (aB ?_);refine aA (aC rfl) rfl ?_;refine aA (fA Tryz.underlying79 rfl rfl) rfl ?_;refine aF (aD ?_);refine c7 rfl ?_;refine aG (aB ?_);refine aA (aC rfl) rfl ?_;refine aA (aE rfl) rfl ?_;refine aF (aD ?_);refine bB ?_;refine a7 ?_;refine aS ?_;refine aS ?_;refine a7 ?_;refine aS ?_;refine bC (.cons .here .nil) ?_;refine aY rfl rfl (Hl.le_trans le1 (Hl.le_trans leL (Hl.le_trans le2 le3))) ?_;have hy : eE xs s = (some e, s3) := (by rw [hx, yR hxx, fO, hr]; rfl);rw [hy];exact ⟨_, rfl, rfl, rfl⟩
 ·
  have hie : i = xs.length := by omega
  subst hie;rw [show (cW xs ++ [cL, dC bD, cL]).drop xs.length = [cL, dC bD, cL] from by rw [List.drop_append, List.drop_of_length_le (by simp [cW])]; simp [cW]] at hx;rw [hx];have hb22 := leL _ _ hb2;refine c6 ?_;refine aV ?_;refine aV ?_;refine bF ?_;refine aD (aG ?_);refine bY (anc := [0, 1, 3, 0, 0, 16, 48, 127, 255, 511]) (ord := [0, 1, 2, 3, 4, 5, 6, 7, 8, 9]) [7, 8] [7, 8] mixed (by decide +kernel) .nil ?_;refine aK rfl rfl (.none rfl) rfl rfl (aM iU rfl aP rfl) rfl ?_;refine aK rfl rfl (.none rfl) rfl rfl bL rfl ?_;refine aK rfl rfl (.none rfl) rfl rfl (dL rfl rfl) rfl ?_;refine aK rfl rfl (.none rfl) rfl rfl (dL rfl rfl) rfl ?_;refine aK rfl rfl (.none rfl) rfl rfl (aM iU rfl aP rfl) rfl ?_;refine aK rfl rfl (.none rfl) rfl rfl bL rfl ?_;refine aK rfl rfl (.none rfl) rfl rfl (dL rfl rfl) rfl ?_;refine dl_g rfl rfl (.none rfl) rfl (cF (z0 := [.nilFunc, .nilFunc, .nilFunc]) hQ yQ rfl rfl rfl rfl (.cons rfl rfl rfl (.cons .nil) (.cons rfl rfl rfl (.skip (.cons .nil)) (.cons rfl rfl rfl (.skip (.skip (.cons .nil))) .nil)))) rfl ?_;rintro _ K _ ⟨b29, rfl, rfl, rfl⟩ -;refine eB rfl (.none rfl) rfl rfl rfl (nB 800000 b b29 [⟨.func (.method "Sync") #[dV b] #[], rfl⟩, ⟨.func (.func 227) #[] #[ptr b2], rfl⟩, ⟨.func (.method "Sync") #[dV b] #[], rfl⟩] [cL, dC bD, cL] s2 _ _ (Hl.le_refl _) _ rfl (xW (lD _ _) (wI _ _ _ _ _ hb22) (lD _ _)) (by simp; omega) (by simp)) (.cons .here (.cons .here .nil)) rfl ?_;rintro _ K3 _ ⟨rfl, rfl⟩ le3;refine aK rfl rfl (.none rfl) rfl rfl (aE rfl) rfl ?_;refine bW ?_;refine aD ?_;refine bB ?_;refine bC (.cons .here .nil) ?_;refine aY rfl rfl (Hl.le_trans le1 (Hl.le_trans leL le3)) ?_;exact ⟨_, rfl, rfl, rfl⟩
theorem oP (b bd bf : Nat) (v : Value) (xs : List File) (s : DSt) (K K0 : Hl) (le : K0.le K) (T1 T2 : TypeId) (z1 z2 : Nat × Nat) (h1 : K bd = some (aO [dV b] T1 z1)) (h2 : K bf = some (aO [v] T2 z2)) (hv : Ksl aZ K v xs) (hn : xs.length ≤ 100) (hd : ∀ f ∈ xs, f.2.length ≤ 140737488355328) (hp : s.pend.length ≤ 700000) :
  Sp Tryz.prog 133 [ptr bd, ptr bf] K [dsk K0 b s] (Ret fun r K' L' => r = erV (eE xs s).1 ∧ L' = [dsk K' b (eE xs s).2]) := by
 refine a6 Tryz.func133 rfl Tryz.ntmps133 rfl rfl fun F w => ?_
 refine aG (aB ?_);refine aA (aE rfl) rfl ?_;refine aF (aD ?_);refine aG (aB ?_);refine aA (aM iU rfl aP rfl) rfl ?_;refine aA (aM ts62 rfl aP rfl) rfl ?_;refine bG rfl rfl (sQ b v xs s _ _ le hv hn hd hp) (.cons .here .nil) rfl ?_;rintro _ K1 _ ⟨rfl, rfl⟩ le1;refine aA (aE rfl) rfl ?_;refine aF (aD ?_);refine bB ?_;refine aY rfl rfl le1 ?_;exact ⟨_, rfl, rfl, rfl⟩
theorem pY (b : Nat) (v : Value) (xs : List File) (s : DSt) (K K0 : Hl) (le : K0.le K) (hv : Ksl aZ K v xs) (hg : Glob K) (hdb : Deb K) (hb : (cM xs).length ≤ 1000000000) (hn : xs.length ≤ 100) (hp : s.pend.length ≤ 600000) :
  Sp Tryz.prog 79 [dV b, v] K [dsk K0 b s] (Ret fun r K' L' => r = erV (fX xs s).1 ∧ L' = [dsk K' b (fX xs s).2]) := by
 have hd : ∀ f ∈ xs, f.2.length ≤ 140737488355328 := fun f hf => by have := oS hf; simp [fU] at this; omega
 obtain ⟨va, vn, vc, rfl⟩ := hv.isSlice;refine a6 Tryz.func79 rfl Tryz.ntmps79 rfl rfl fun F w => ?_
 refine aG (aB ?_);refine ol_s (f5 rfl rfl) rfl ?_;rintro _ K _ ⟨b2, rfl, rfl, rfl⟩ -;refine ol_s (f5 rfl rfl) rfl ?_;rintro _ K _ ⟨b3, rfl, rfl, rfl⟩ -;refine aA (aE rfl) rfl ?_;refine aF (aD ?_);refine aG ?_;refine fG fun K1 le1 hb3 => ?_
 refine fG fun K2 le2 hb2 => ?_
 have hv2 := (hv.mono le1).mono le2;have hb32 := le2 _ _ hb3;refine bY (anc := [0, 0, 2, 6, 15, 0, 32, 96, 0, 511, 1023, 2047]) (ord := [0, 1, 5, 6, 7, 8, 2, 3, 4, 9, 10, 11]) [2, 4, 9, 10] [9, 10] mixed (by decide +kernel) .nil ?_;refine aK rfl rfl (.none rfl) rfl rfl (aM iU rfl aP rfl) rfl ?_;refine aK rfl rfl (.none rfl) rfl rfl (aM ts62 rfl aP rfl) rfl ?_;refine aK rfl rfl (.none rfl) rfl rfl (aM iU rfl aP rfl) rfl ?_;refine aK rfl rfl (.none rfl) rfl rfl bL rfl ?_;refine aK rfl rfl (.none rfl) rfl rfl (dL rfl rfl) rfl ?_;refine aK rfl rfl (.none rfl) rfl rfl (dL rfl rfl) rfl ?_;refine jK rfl (.none rfl) rfl rfl rfl rfl (sY _ xs _ hv2 ((hg.mono le1).mono le2) ((hdb.mono le1).mono le2) hb hn) rfl ?_;refine aK rfl rfl (.none rfl) rfl rfl (dJ tb66 nD (.cons rfl rfl rfl (.cons .nil) (.cons rfl rfl rfl (.skip (.cons .nil)) .nil))) rfl ?_;refine nP rfl (.none rfl) rfl rfl rfl rfl (nC b bD (gM xs) (xC hb) _) .nil rfl ?_;rintro _ K9 _ ⟨rfl, x9, y9, rfl, hclo⟩ le9;refine ⟨_, (show Tks _ _ _ from .nil).sat, ?_⟩
 refine dl_g rfl rfl (.none rfl) rfl (cF (z0 := [.nilFunc, .nilFunc, .nilFunc]) hQ yQ rfl rfl rfl rfl (.cons rfl rfl rfl (.cons .nil) (.cons rfl rfl rfl (.skip (.cons .nil)) (.cons rfl rfl rfl (.skip (.skip (.cons .nil))) .nil)))) rfl ?_;rintro _ K _ ⟨b14, rfl, rfl, rfl⟩ -;refine eB rfl (.none rfl) rfl rfl rfl (nB 700000 b b14 [⟨.func (.func 224) #[] #[ptr x9, ptr y9], rfl⟩, ⟨.func (.method "Sync") #[dV b] #[], rfl⟩, ⟨.func (.func 133) #[] #[ptr b2, ptr b3], rfl⟩] [cO bD (gM xs), cL, eE xs] s _ _ (Hl.le_trans le (Hl.le_trans le1 (Hl.le_trans le2 le9))) _ rfl (xW (hclo.weak aJ) ((lD _ _).weak aJ) ⟨_, _, iZ ⟨_, Tryz.func133, rfl, rfl⟩, fun K3 K4 s3 le3 le4 hp3 => ⟨oP b b2 b3 _ xs s3 K3 K4 le4 _ _ _ _ (le3 _ _ (le9 _ _ hb2)) (le3 _ _ (le9 _ _ hb32)) (hv2.mono (Hl.le_trans le9 le3)) hn hd aJ, by have := nV xs s3; omega⟩⟩) (by simp; omega) (by simp)) (.cons .here (.cons .here .nil)) rfl ?_;rintro _ K3 _ ⟨rfl, rfl⟩ le3;refine aK rfl rfl (.none rfl) rfl rfl (aE rfl) rfl ?_;refine bW ?_;refine aD ?_;refine bB ?_;refine aY rfl rfl (Hl.le_trans le1 (Hl.le_trans le2 (Hl.le_trans le9 le3))) ?_;exact ⟨_, rfl, rfl, rfl⟩
end Go.Proofs
end
section
namespace Go.Proofs
open Go Go.SL Go.Syn Go.Box Go.Mach
def gP (r : Except Int (List File)) : Ending → Hl → List Asn → Prop := Ret fun v K' L' => match r with
 | .ok xs => ∃ u, v = .tuple #[u, .nilIface] ∧ L' = [sl false aZ u xs]
 | .error e => v = .tuple #[.slice none 0 0, errV e] ∧ L' = []
theorem s8 (id text : aI) (v : Value) (acts : List Action) (K : Hl) (hg : Glob K) (hv : Ksl cS K v acts) (hid : id.length ≤ 140737488355328) (ht : text.length ≤ 1048576) (ha : ∀ a ∈ acts, a.2.length ≤ 1048576) (hal : acts.length ≤ 140737488355328) :
  Sp Tryz.prog 78 [str id, v, str text] K [] (gP (cA id acts text)) := by
 refine a6 Tryz.func78 rfl Tryz.ntmps78 rfl rfl fun F w => ?_
 refine aG (aB ?_);refine aA (aE rfl) rfl ?_;refine aA (aE rfl) rfl ?_;refine aF (aD ?_);refine aG (aG ?_);refine aB ?_;refine aA (aC rfl) rfl ?_;refine aA (uB rfl rfl) rfl ?_;refine aA (aC rfl) rfl ?_;refine bU 14 rfl (fun g14 => ?_) (fun g14 => ?_)
 ·
  refine aR rfl rfl rfl ?_;refine aR rfl rfl rfl ?_;refine aR rfl rfl rfl ?_;refine aA (bH rfl rfl) rfl ?_;refine aA (aC rfl) rfl ?_;refine aR rfl rfl rfl ?_;refine aR rfl rfl rfl ?_;refine aA (bH rfl rfl) rfl ?_;refine aA (aC rfl) rfl ?_;refine aR rfl rfl rfl ?_;refine aR rfl rfl rfl ?_;refine aR rfl rfl rfl ?_;refine aA (bH rfl rfl) rfl ?_;refine aF (aD ?_);refine c7 rfl ?_;refine aG (aB ?_);refine aA (bN Tryz.underlying30 (fun _ h => by cases h) rfl) rfl ?_;refine aA (aE rfl) rfl ?_;refine aA (aE rfl) rfl ?_;refine aF (aD ?_);refine bB ?_;refine aS ?_;refine dS rfl rfl rfl (Hl.le_refl _) ?_;have hb : gK id = true := (by simp [gK, g14]);unfold gP cA;rw [if_pos hb];exact ⟨_, rfl, rfl, rfl⟩
 ·
  refine aU rfl rfl ?_;refine aA (aC rfl) rfl ?_;refine aU rfl rfl ?_;refine aA (cK rfl Tryz.underlying9 rfl) rfl ?_;refine aU rfl rfl ?_;refine aA (i6 rfl rfl) rfl ?_;refine aA (bA rfl rfl) rfl ?_;refine aA (aC rfl) rfl ?_;refine bU 19 rfl (fun g19 => ?_) (fun g19 => ?_)
  ·
   refine aR rfl rfl rfl ?_;refine aR rfl rfl rfl ?_;refine aA (bH rfl rfl) rfl ?_;refine aA (aC rfl) rfl ?_;refine aR rfl rfl rfl ?_;refine aR rfl rfl rfl ?_;refine aR rfl rfl rfl ?_;refine aA (bH rfl rfl) rfl ?_;refine aF (aD ?_);refine c7 rfl ?_;refine aG (aB ?_);refine aA (bN Tryz.underlying30 (fun _ h => by cases h) rfl) rfl ?_;refine aA (aE rfl) rfl ?_;refine aA (aE rfl) rfl ?_;refine aF (aD ?_);refine bB ?_;refine aS ?_;refine dS rfl rfl rfl (Hl.le_refl _) ?_;have hb : gK id = true := (by unfold gK; rw [decide_eq_true (show 8 < id.length by omega)]; simp);unfold gP cA;rw [if_pos hb];exact ⟨_, rfl, rfl, rfl⟩
  ·
   refine aU rfl rfl ?_;refine aA (aC rfl) rfl ?_;refine aU rfl rfl ?_;refine cD rfl rfl (nN [46, 45] (by decide) (by decide) id aJ _) rfl ?_;refine aA (bA rfl rfl) rfl ?_;refine aA (aC rfl) rfl ?_;refine lT 23 rfl (fun g23 => ?_) (fun g23 => ?_)
   ·
    refine aR rfl rfl rfl ?_;refine aR rfl rfl rfl ?_;refine aR rfl rfl rfl ?_;refine aA (bH rfl rfl) rfl ?_;refine aF (aD ?_);refine c7 rfl ?_;refine aG (aB ?_);refine aA (bN Tryz.underlying30 (fun _ h => by cases h) rfl) rfl ?_;refine aA (aE rfl) rfl ?_;refine aA (aE rfl) rfl ?_;refine aF (aD ?_);refine bB ?_;refine aS ?_;refine dS rfl rfl rfl (Hl.le_refl _) ?_;have hb : gK id = true := (by unfold gK; rw [g23]; simp);unfold gP cA;rw [if_pos hb];exact ⟨_, rfl, rfl, rfl⟩
   ·
    refine aU rfl rfl ?_;refine aA (aC rfl) rfl ?_;refine aU rfl rfl ?_;refine cD rfl rfl (lB id _ aJ) rfl ?_;refine aU rfl rfl ?_;refine aA (by first | exact iG rfl | exact eR rfl) rfl ?_;refine aA (bA rfl rfl) rfl ?_;refine aF (aD ?_);refine pH 27 rfl (fun h27 => ?_) (fun h27 => ?_)
    ·
     refine aG (aB ?_);refine aA (bN Tryz.underlying30 (fun _ h => by cases h) rfl) rfl ?_;refine aA (aE rfl) rfl ?_;refine aA (aE rfl) rfl ?_;refine aF (aD ?_);refine bB ?_;refine aS ?_;refine dS rfl rfl rfl (Hl.le_refl _) ?_;have hb : gK id = true := (by unfold gK; rw [h27]; simp);unfold gP cA;rw [if_pos hb];exact ⟨_, rfl, rfl, rfl⟩
    ·
     have hbad : gK id = false := by simp only [gK, g14, g23, decide_false, Bool.false_or]; rw [decide_eq_false aJ]; simpa using h27
     refine aW ?_;refine aD (aG ?_);refine aG (aB ?_);refine aA (aC rfl) rfl ?_;refine aA (bK (k := cS) rfl Tryz.underlying29 rfl (.known hv)) rfl ?_;refine aA (i6 rfl rfl) rfl ?_;refine aF (aD ?_);refine bM 31 rfl (fun h31 => ?_) (fun h31 => ?_)
     ·
      refine aG (aB ?_);refine aA (bN Tryz.underlying30 (fun _ h => by cases h) rfl) rfl ?_;refine aA (aE rfl) rfl ?_;refine aA (aE rfl) rfl ?_;refine aF (aD ?_);refine bB ?_;refine aS ?_;refine dS rfl rfl rfl (Hl.le_refl _) ?_;unfold gP cA;rw [if_neg (by rw [hbad]; simp), if_pos aJ];exact ⟨_, rfl, rfl, rfl⟩
     ·
      refine aW ?_;refine aD (aG ?_);refine aB ?_;refine aA (aE rfl) rfl ?_;refine aF (aD ?_);refine aG (aG ?_);refine aB ?_;refine aA (aC rfl) rfl ?_;refine aA (bK (k := cS) rfl Tryz.underlying29 rfl (.known hv)) rfl ?_;refine aA (aC rfl) rfl ?_;refine aF (aD ?_);refine a8 ?_;have hfc : cA id acts text = iW [] (fB id text 0 (acts.drop 0)) := (by unfold cA; rw [if_neg (by rw [hbad]; simp), if_neg aJ, List.drop_zero]; cases fB id text 0 acts <;> rfl);refine gN (eH aZ) ?_;refine iM (fun (i : Nat) (u : Value) (acc : List File) => i ≤ acts.length ∧ acc.length = i ∧ cA id acts text = iW acc (fB id text i (acts.drop i))) (fun i u _ => [(0, str id), (2, str text), (8, u), (33, v), (34, i64 acts.length), (35, i64 i)]) (fun _ _ _ => K) (fun _ u acc => [sl false aZ u acc]) (fun i _ _ => acts.length - i) 0 (.slice none 0 0) [] ⟨Nat.zero_le _, rfl, hfc⟩ (.cons 0 rfl (.cons 2 rfl (.cons 8 rfl (.cons 33 rfl (.cons 34 rfl (.cons 35 rfl .nil)))))) rfl (fun _ h => h) ?_;intro i u acc ⟨hi, hal2, hx⟩;refine aG (aB ?_);refine aA (dK rfl rfl) rfl ?_;refine aF (aD ?_);refine aG ?_;refine bM 36 rfl (fun h36 => ?_) (fun h36 => ?_)
      ·
       have hlt : i < acts.length := by omega
       obtain ⟨a, haa⟩ : ∃ a, acts[i]? = some a := ⟨acts[i]'hlt, List.getElem?_eq_getElem hlt⟩;have hae := ha a (List.mem_of_getElem? haa);have hil := Lib.itoa_length_le (i : Int) aJ aJ;refine aW ?_;refine aD (aG ?_);refine a8 (aG ?_);refine aB ?_;refine aA (aC rfl) rfl ?_;refine aA (bI (k := cS) kH rfl (.known hv) rfl rfl (by first | assumption | omega)) rfl ?_;refine aA (bR (n := 0) (k := cS) vG rfl (.known hv) haa) rfl ?_;refine ol_s (cE tz34) rfl ?_;rintro _ K _ ⟨b10, rfl, rfl, rfl⟩ -;refine aA (aE rfl) rfl ?_;refine bZ (cY vG rfl rfl rfl bE (by first | (simp [Value.oneCell']; done) | exact fun c hc => El.one _ _ c hc) (.cons (.cons .nil)) (by intro j hj; simp)) ?_;rintro _ K _ ⟨rfl, rfl⟩ -;refine aF (aD ?_);refine aG (aB ?_);refine aA (aC rfl) rfl ?_;refine aA (cX rfl rfl (by first | (simp; omega) | omega)) rfl ?_;refine aA (cX rfl rfl (by first | (simp; omega) | omega)) rfl ?_;refine aA (aC rfl) rfl ?_;refine cD rfl rfl (j8 _ aJ aJ _ hg) rfl ?_;refine aA (cX rfl rfl (by first | (simp; omega) | omega)) rfl ?_;refine aA (aC rfl) rfl ?_;refine aA (dJ tb66 nD (.cons rfl rfl rfl (.cons .nil) (.cons rfl rfl rfl (.skip (.cons .nil)) .nil))) rfl ?_;refine ol_s (cE tz66) rfl ?_;rintro _ K _ ⟨b11, rfl, rfl, rfl⟩ -;refine bZ (cY dU rfl rfl rfl bE (by first | (simp [Value.oneCell']; done) | exact fun c hc => El.one _ _ c hc) (.cons (.cons .nil)) (by intro j hj; simp)) ?_;rintro _ K _ ⟨rfl, rfl⟩ -;refine aF (aD ?_);refine n9 (fun (f : File) => cC id text i a = .ok f) (fun _ => [(0, str id), (2, str text), (8, u), (11, ptr b11), (33, v), (34, i64 acts.length), (35, i64 i)]) (fun _ => K) (fun f => [pt b11 (aO [str f.1, str f.2] 66), sl false aZ u acc]) ?_ ?_
       ·
        refine aG (aB ?_);refine aA (aH (o' := 0) vK rfl rfl) rfl ?_;refine aA (aM ts3 rfl aP rfl) rfl ?_;refine aF (aD ?_);refine a8 (aG ?_);refine aB ?_;refine aA (bV rfl rfl) rfl ?_;refine aA (aE rfl) rfl ?_;refine aF (aD ?_);refine bM 51 rfl (fun h51 => ?_) (fun h51 => ?_)
        ·
         refine aB ?_;refine aA (aC rfl) rfl ?_;refine aA (cX rfl rfl (by first | (simp; omega) | omega)) rfl ?_;refine aA (aH (o' := 0) hO rfl rfl) rfl ?_;refine bZ (bJ ts9 rfl rfl cG bE .zero rfl) ?_;rintro _ K _ ⟨rfl, rfl⟩ -;refine aF (aX ?_);refine bC (.cons .here (.cons (.there .here) .nil)) ?_
         first | exact cN (mW ++ id, text) (by simp only [cC]; rw [if_pos h51]) (.cons 0 rfl (.cons 2 rfl (.cons 8 rfl (.cons 11 rfl (.cons 33 rfl (.cons 34 rfl (.cons 35 rfl .nil))))))) rfl (fun _ h => h) | exact cN (boxP ++ a.2 ++ m9 ++ id, text) (by simp only [cC]; rw [if_neg h51, if_pos h56, if_pos (by simpa using h61)]) (.cons 0 rfl (.cons 2 rfl (.cons 8 rfl (.cons 11 rfl (.cons 33 rfl (.cons 34 rfl (.cons 35 rfl .nil))))))) rfl (fun _ h => h) | exact cN (outN id i, toP ++ a.2 ++ [10] ++ text) (by simp only [cC]; rw [if_neg h51, if_neg h56, if_pos h70]) (.cons 0 rfl (.cons 2 rfl (.cons 8 rfl (.cons 11 rfl (.cons 33 rfl (.cons 34 rfl (.cons 35 rfl .nil))))))) rfl (fun _ h => h) | exact cN (outN id i, rejP ++ a.2 ++ [10] ++ text) (by simp only [cC]; rw [if_neg h51, if_neg h56, if_neg h70, if_pos h79]) (.cons 0 rfl (.cons 2 rfl (.cons 8 rfl (.cons 11 rfl (.cons 33 rfl (.cons 34 rfl (.cons 35 rfl .nil))))))) rfl (fun _ h => h)
        ·
         refine aG (aB ?_);refine aA (bV rfl rfl) rfl ?_;refine aA (aE rfl) rfl ?_;refine aF (aD ?_);refine bM 56 rfl (fun h56 => ?_) (fun h56 => ?_)
         ·
          refine aG (aG ?_);refine aB ?_;refine aA (aH (o' := 1) hJ rfl rfl) rfl ?_;refine aA (aM ts9 rfl aP rfl) rfl ?_;refine cD rfl rfl (lB a.2 _ aJ) rfl ?_;refine aA (by first | exact iG rfl | exact eR rfl) rfl ?_;refine aF (aD ?_);refine pH 61 rfl (fun h61 => ?_) (fun h61 => ?_)
          ·
           refine aG (aB ?_);refine aA (bN Tryz.underlying30 (fun _ h => by cases h) rfl) rfl ?_;refine aA (aE rfl) rfl ?_;refine aA (aE rfl) rfl ?_;refine aF (aD ?_);refine bB ?_;refine aS ?_;refine a7 ?_;refine aS ?_;refine bC .nil ?_;refine dS rfl rfl rfl (Hl.le_refl _) ?_;rw [hx, mS haa (e := 8) (by simp only [cC]; rw [if_neg h51, if_pos h56, if_neg (by simpa using h61)])];exact ⟨_, rfl, rfl, rfl⟩
          ·
           refine aW ?_;refine aD (aB ?_);refine aA (aH (o' := 1) hJ rfl rfl) rfl ?_;refine aA (aM ts9 rfl aP rfl) rfl ?_;refine aA (cX rfl rfl (by first | (simp; omega) | omega)) rfl ?_;refine aA (cX rfl rfl (by first | (simp; omega) | omega)) rfl ?_;refine aA (aC rfl) rfl ?_;refine aA (cX rfl rfl (by first | (simp; omega) | omega)) rfl ?_;refine aA (aH (o' := 0) hO rfl rfl) rfl ?_;refine bZ (bJ ts9 rfl rfl cG bE .zero rfl) ?_;rintro _ K _ ⟨rfl, rfl⟩ -;refine aF (aX ?_);refine bC (.cons .here (.cons (.there .here) .nil)) ?_
           first | exact cN (mW ++ id, text) (by simp only [cC]; rw [if_pos h51]) (.cons 0 rfl (.cons 2 rfl (.cons 8 rfl (.cons 11 rfl (.cons 33 rfl (.cons 34 rfl (.cons 35 rfl .nil))))))) rfl (fun _ h => h) | exact cN (boxP ++ a.2 ++ m9 ++ id, text) (by simp only [cC]; rw [if_neg h51, if_pos h56, if_pos (by simpa using h61)]) (.cons 0 rfl (.cons 2 rfl (.cons 8 rfl (.cons 11 rfl (.cons 33 rfl (.cons 34 rfl (.cons 35 rfl .nil))))))) rfl (fun _ h => h) | exact cN (outN id i, toP ++ a.2 ++ [10] ++ text) (by simp only [cC]; rw [if_neg h51, if_neg h56, if_pos h70]) (.cons 0 rfl (.cons 2 rfl (.cons 8 rfl (.cons 11 rfl (.cons 33 rfl (.cons 34 rfl (.cons 35 rfl .nil))))))) rfl (fun _ h => h) | exact cN (outN id i, rejP ++ a.2 ++ [10] ++ text) (by simp only [cC]; rw [if_neg h51, if_neg h56, if_neg h70, if_pos h79]) (.cons 0 rfl (.cons 2 rfl (.cons 8 rfl (.cons 11 rfl (.cons 33 rfl (.cons 34 rfl (.cons 35 rfl .nil))))))) rfl (fun _ h => h)
         ·
          refine aG (aB ?_);refine aA (bV rfl rfl) rfl ?_;refine aA (aE rfl) rfl ?_;refine aF (aD ?_);refine bM 70 rfl (fun h70 => ?_) (fun h70 => ?_)
          ·
           refine aB ?_;refine aA (aH (o' := 1) hJ rfl rfl) rfl ?_;refine aA (aM ts9 rfl aP rfl) rfl ?_;refine aA (cX rfl rfl (by first | (simp; omega) | omega)) rfl ?_;refine aA (cX rfl rfl (by first | (simp; omega) | omega)) rfl ?_;refine aA (aC rfl) rfl ?_;refine aA (cX rfl rfl (by first | (simp; omega) | omega)) rfl ?_;refine aA (aH (o' := 1) f8 rfl rfl) rfl ?_;refine bZ (bJ ts9 rfl rfl cG bE (.succ .zero) rfl) ?_;rintro _ K _ ⟨rfl, rfl⟩ -;refine aF (aX ?_);refine bC (.cons .here (.cons (.there .here) .nil)) ?_
           first | exact cN (mW ++ id, text) (by simp only [cC]; rw [if_pos h51]) (.cons 0 rfl (.cons 2 rfl (.cons 8 rfl (.cons 11 rfl (.cons 33 rfl (.cons 34 rfl (.cons 35 rfl .nil))))))) rfl (fun _ h => h) | exact cN (boxP ++ a.2 ++ m9 ++ id, text) (by simp only [cC]; rw [if_neg h51, if_pos h56, if_pos (by simpa using h61)]) (.cons 0 rfl (.cons 2 rfl (.cons 8 rfl (.cons 11 rfl (.cons 33 rfl (.cons 34 rfl (.cons 35 rfl .nil))))))) rfl (fun _ h => h) | exact cN (outN id i, toP ++ a.2 ++ [10] ++ text) (by simp only [cC]; rw [if_neg h51, if_neg h56, if_pos h70]) (.cons 0 rfl (.cons 2 rfl (.cons 8 rfl (.cons 11 rfl (.cons 33 rfl (.cons 34 rfl (.cons 35 rfl .nil))))))) rfl (fun _ h => h) | exact cN (outN id i, rejP ++ a.2 ++ [10] ++ text) (by simp only [cC]; rw [if_neg h51, if_neg h56, if_neg h70, if_pos h79]) (.cons 0 rfl (.cons 2 rfl (.cons 8 rfl (.cons 11 rfl (.cons 33 rfl (.cons 34 rfl (.cons 35 rfl .nil))))))) rfl (fun _ h => h)
          ·
           refine aG (aB ?_);refine aA (bV rfl rfl) rfl ?_;refine aA (aE rfl) rfl ?_;refine aF (aD ?_);refine bM 79 rfl (fun h79 => ?_) (fun h79 => ?_)
           ·
            refine aB ?_;refine aA (aH (o' := 1) hJ rfl rfl) rfl ?_;refine aA (aM ts9 rfl aP rfl) rfl ?_;refine aA (cX rfl rfl (by first | (simp; omega) | omega)) rfl ?_;refine aA (cX rfl rfl (by first | (simp; omega) | omega)) rfl ?_;refine aA (aC rfl) rfl ?_;refine aA (cX rfl rfl (by first | (simp; omega) | omega)) rfl ?_;refine aA (aH (o' := 1) f8 rfl rfl) rfl ?_;refine bZ (bJ ts9 rfl rfl cG bE (.succ .zero) rfl) ?_;rintro _ K _ ⟨rfl, rfl⟩ -;refine aF (aX ?_);refine bC (.cons .here (.cons (.there .here) .nil)) ?_
            first | exact cN (mW ++ id, text) (by simp only [cC]; rw [if_pos h51]) (.cons 0 rfl (.cons 2 rfl (.cons 8 rfl (.cons 11 rfl (.cons 33 rfl (.cons 34 rfl (.cons 35 rfl .nil))))))) rfl (fun _ h => h) | exact cN (boxP ++ a.2 ++ m9 ++ id, text) (by simp only [cC]; rw [if_neg h51, if_pos h56, if_pos (by simpa using h61)]) (.cons 0 rfl (.cons 2 rfl (.cons 8 rfl (.cons 11 rfl (.cons 33 rfl (.cons 34 rfl (.cons 35 rfl .nil))))))) rfl (fun _ h => h) | exact cN (outN id i, toP ++ a.2 ++ [10] ++ text) (by simp only [cC]; rw [if_neg h51, if_neg h56, if_pos h70]) (.cons 0 rfl (.cons 2 rfl (.cons 8 rfl (.cons 11 rfl (.cons 33 rfl (.cons 34 rfl (.cons 35 rfl .nil))))))) rfl (fun _ h => h) | exact cN (outN id i, rejP ++ a.2 ++ [10] ++ text) (by simp only [cC]; rw [if_neg h51, if_neg h56, if_neg h70, if_pos h79]) (.cons 0 rfl (.cons 2 rfl (.cons 8 rfl (.cons 11 rfl (.cons 33 rfl (.cons 34 rfl (.cons 35 rfl .nil))))))) rfl (fun _ h => h)
           ·
            refine aG (aB ?_);refine aA (bN Tryz.underlying30 (fun _ h => by cases h) rfl) rfl ?_;refine aA (aE rfl) rfl ?_;refine aA (aE rfl) rfl ?_;refine aF (aD ?_);refine bB ?_;refine a7 ?_;refine aS ?_;refine bC .nil ?_;refine dS rfl rfl rfl (Hl.le_refl _) ?_;rw [hx, mS haa (e := 7) (by simp only [cC]; rw [if_neg h51, if_neg h56, if_neg h70, if_neg h79])];exact ⟨_, rfl, rfl, rfl⟩
       ·
        intro f hff;refine aB ?_;refine aA (aC rfl) rfl ?_;refine aA (bQ dU rfl aP rfl rfl) rfl ?_;refine ol_s (cF (z0 := [(str []), (str [])]) cR tz66 rfl rfl rfl rfl (.cons rfl rfl rfl (.cons (.cons .nil)) .nil)) rfl ?_;rintro _ K _ ⟨b90, rfl, rfl, rfl⟩ -;refine ol_s (fF (k := aZ) (ys := [f]) jV rfl rfl bE (fun w j => eY Tryz.underlying62 (SeesSl.at (k := aZ) (.blk (.own .here) rfl rfl) j)) (by show (acc.length + 1) * 32 ≤ 140737488355328; omega) (by show acc.length + 1 ≤ 9223372036854775807; omega)) rfl ?_;rintro v91 K _ ⟨rfl, rfl, ho91⟩ -;refine aA (aE rfl) rfl ?_;refine aF (aX ?_);refine aD (aB ?_);refine aA (dG rfl rfl aJ aJ) rfl ?_;refine aA (aC rfl) rfl ?_;refine aF ?_;refine bC (.cons .here .nil) ?_;exact fW (i + 1) _ (acc ++ [f]) ⟨by omega, by simp [hal2], by rw [hx]; exact uG haa hff⟩ aJ (.cons 0 rfl (.cons 2 rfl (.cons 8 rfl (.cons 33 rfl (.cons 34 rfl (.cons 35 rfl .nil)))))) rfl (fun _ h => h)
      ·
       have hie : i = acts.length := by omega
       subst hie;rw [List.drop_length, fB] at hx;simp only [iW, List.append_nil] at hx;refine c6 ?_;refine aV ?_;refine aV ?_;refine bF ?_;refine aD (aG ?_);refine aB ?_;refine aA (aC rfl) rfl ?_;refine aA (aE rfl) rfl ?_;refine aA (aE rfl) rfl ?_;refine aF (aD ?_);refine bB ?_;refine bC (.cons .here .nil) ?_;refine dS rfl rfl rfl (Hl.le_refl _) ?_;rw [hx];exact ⟨_, rfl, _, rfl, rfl⟩
end Go.Proofs
end
section
namespace Go.Proofs
open Go Go.SL Go.Syn Go.Box
def mX (es : List Ent) (seen : List Nat) : Nat := (es.filter fun e => !seen.contains e.2.2).length
theorem o1 {es : List Ent} {seen : List Nat} {e : Ent} (he : e ∈ es) (hn : e.2.2 ∉ seen) : mX es (seen ++ [e.2.2]) < mX es seen := by
 have hs : (es.filter fun e' => !(seen ++ [e.2.2]).contains e'.2.2).Sublist (es.filter fun e' => !seen.contains e'.2.2) := by
  have : (es.filter fun e' => !(seen ++ [e.2.2]).contains e'.2.2) = (es.filter fun e' => !seen.contains e'.2.2).filter fun e' => !(seen ++ [e.2.2]).contains e'.2.2 := by
   rw [List.filter_filter]
   congr 1; funext e'
   simp only [List.contains_eq_mem, List.mem_append, List.mem_singleton]
   by_cases h1 : e'.2.2 ∈ seen <;> simp [h1]
  rw [this]; exact List.filter_sublist
 rcases Nat.lt_or_ge (mX es (seen ++ [e.2.2])) (mX es seen) with h | h
 ·exact h
 ·have e1 := hs.eq_of_length_le h;have : e ∈ es.filter fun e' => !(seen ++ [e.2.2]).contains e'.2.2 := by rw [e1]; exact List.mem_filter.2 ⟨he, by simpa using hn⟩
  have := (List.mem_filter.1 this).2;simp at this
structure PartOk (es : List Ent) (seen : List Nat) (es2 : List Ent) (c2 : Nat) : Prop where
 fresh : Fresh es2 c2
 nd : (es2.map (·.1)).Nodup
 get : ∀ n, mget es2 n = ((es.find? fun e => decide (n = e.1)).bind fun e => if e.2.2 ∈ seen then some e.2.1 else none)
theorem PartOk.nil {es : List Ent} : PartOk es [] [] 0 := ⟨Fresh.nil, List.nodup_nil, fun n => by cases h : es.find? fun e => decide (n = e.1) <;> simp [mget, h]⟩
theorem jP {es : List Ent} {e : Ent} (nd : (es.map (·.1)).Nodup) (he : e ∈ es) : (es.find? fun e' => decide (e.1 = e'.1)) = some e := by
 induction es with
 | nil => cases he
 | cons a r ih =>
  have nd' := List.nodup_cons.1 nd;rcases List.mem_cons.1 he with rfl | h
  ·simp
  ·have : ¬ e.1 = a.1 := fun h2 => nd'.1 (by have := List.mem_map_of_mem (f := fun x : Ent => x.1) h; rw [h2] at this; exact this)
   rw [List.find?_cons_of_neg (by simpa using this)];exact ih nd'.2 h
theorem PartOk.step {es : List Ent} {seen : List Nat} {es2 : List Ent} {c2 : Nat} {e : Ent} (nd : (es.map (·.1)).Nodup) (ndb : (es.map (·.2.2)).Nodup) (h : PartOk es seen es2 c2) (he : e ∈ es) : PartOk es (seen ++ [e.2.2]) (mset e.1 e.2.1 c2 es2) (gL es2 e.1 c2) := by
 refine ⟨h.fresh.set, o0 h.nd, fun n => ?_⟩
 rw [kB]
 by_cases hn : n = e.1
 ·subst hn; rw [if_pos rfl, jP nd he]; simp
 ·rw [if_neg hn, h.get];cases hf : es.find? fun e' => decide (n = e'.1) with
  | none => rfl
  | some e' =>
   have hm := List.mem_of_find?_eq_some hf;have hk : n = e'.1 := by simpa using List.find?_some hf
   have hb : e'.2.2 ≠ e.2.2 := fun hb => by
    have : e' = e := by
     have key : ∀ (l : List Ent), (l.map (·.2.2)).Nodup → e' ∈ l → e ∈ l → e' = e := by
      intro l;induction l with
      | nil => intro _ h; cases h
      | cons a r ih =>
       intro nd h1 h2;have nd' := List.nodup_cons.1 nd;rcases List.mem_cons.1 h1 with e1 | g1 <;> rcases List.mem_cons.1 h2 with e2 | g2
       ·exact e1.trans e2.symm
       ·exact absurd (by have := List.mem_map_of_mem (f := fun e : Ent => e.2.2) g2; rw [← hb, e1] at this; exact this) nd'.1
       ·exact absurd (by have := List.mem_map_of_mem (f := fun e : Ent => e.2.2) g1; rw [hb, e2] at this; exact this) nd'.1
       ·exact ih nd'.2 g1 g2
     exact key es ndb hm he
    exact hn (by rw [hk, this])
   simp [hb]
theorem PartOk.full {K : Hl} {es : List Ent} {c : Nat} {seen : List Nat} {es2 : List Ent} {c2 : Nat} {f : DMap} (hm : MapOk K es c f) (h : PartOk es seen es2 c2) (hall : ∀ e ∈ es, e.2.2 ∈ seen) : MapOk K es2 c2 f := by
 have hg : ∀ n, mget es2 n = mget es n := fun n => by
  rw [h.get];cases hf : es.find? fun e => decide (n = e.1) with
  | none => simp [mget, hf]
  | some e => simp [mget, hf, hall e (List.mem_of_find?_eq_some hf)]
 exact ⟨h.fresh, h.nd, fun n v e => hm.has n v (by rw [← hg]; exact e), fun n e => hm.lacks n (by rw [← hg]; exact e)⟩
theorem vS (b m1 : Nat) (es1 : List Ent) (c1 : Nat) (nv pv : Value) (l f : Int) (dn : Bool) (dur : DMap) (K : Hl) (hm1 : MapOk K es1 c1 dur) : Sp Tryz.prog 77 [ptr b] K [pt b (dskO (.map (some m1)) nv pv l f dn), pt m1 (mapO es1 c1)]
  (Ret fun r K' L' => r = .tuple #[] ∧ K' = K ∧ L' = [dsk K' b ⟨dur, dur, [], l, f, false⟩]) := by
 refine a6 Tryz.func77 rfl Tryz.ntmps77 rfl rfl fun F w => ?_
 refine aG (aB ?_);refine aA (aC rfl) rfl ?_;refine ol_s m5 rfl ?_;rintro _ K _ ⟨b5, rfl, rfl, rfl⟩ -;refine aA bL rfl ?_;refine aA (aH (o' := 1) d6 rfl rfl) rfl ?_;refine bZ (bJ eU rfl rfl cG bE (.succ .zero) rfl) ?_;rintro _ K _ ⟨rfl, rfl⟩ -;refine aF (aD ?_);refine aG (aG ?_);refine aB ?_;refine aA (aC rfl) rfl ?_;refine aA bL rfl ?_;refine aA (aH (o' := 0) dZ rfl rfl) rfl ?_;refine aA (aM eU rfl aP rfl) rfl ?_;refine ol_s (lY Tryz.underlying107 rfl aP) rfl ?_;rintro _ K _ ⟨b12, rfl, rfl, rfl⟩ -;refine aF (aD ?_);refine a8 ?_;refine pI (.cons .here (.cons (.there .here) (.cons .here (.cons .here .nil)))) ?_;refine iM (fun (seen : List Nat) (es3 : List Ent) (c3 : Nat) => PartOk es1 seen es3 c3) (fun _ _ _ => [(0, ptr b), (12, ptr b12)]) (fun _ _ _ => K) (fun seen es3 c3 => [mit b12 m1 c1 seen c1, pt b (dskO (.map (some m1)) (.map (some b5)) pv l f dn), pt b5 (mapO es3 c3), pt m1 (mapO es1 c1)]) (fun seen _ _ => mX es1 seen) [] [] 0 PartOk.nil (.cons 0 rfl (.cons 12 rfl .nil)) rfl (fun _ h => h) ?_;intro seen es3 c3 hpo;refine aG (aB ?_);refine ol_s (m7 (m := m1) rfl aP hm1.fresh (fun _ => bE)) rfl ?_;rintro _ K _ ⟨rfl, hN13⟩ -;rcases hN13 with ⟨rfl, rfl, hall⟩ | ⟨e, he, hne, rfl, rfl⟩
 ·
  refine aA (aQ rfl rfl) rfl ?_;refine aF (aD ?_);refine aG ?_;refine bO rfl ?_;refine c6 ?_;refine aV ?_;refine aV ?_;refine bF ?_;refine aD (aG ?_);refine aB ?_;refine aA (aC rfl) rfl ?_;refine aA bL rfl ?_;refine aA (aH (o' := 2) c8 rfl rfl) rfl ?_;refine bZ (bJ hU rfl rfl cG bE (.succ (.succ .zero)) rfl) ?_;rintro _ K _ ⟨rfl, rfl⟩ -;refine aF (aD ?_);refine aB ?_;refine aA (aC rfl) rfl ?_;refine aA bL rfl ?_;refine aA (aH (o' := 5) dF rfl rfl) rfl ?_;refine bZ (bJ ts4 rfl rfl cG bE (.succ (.succ (.succ (.succ (.succ .zero))))) rfl) ?_;rintro _ K _ ⟨rfl, rfl⟩ -;refine aF ?_;refine eN (eH opEl) ?_;refine bC (.cons (.there (.there .here)) (.cons (.there (.there (.there .here))) (.cons (.there (.there .here)) (.cons .here .nil)))) ?_;refine eN (dW (s := ⟨dur, dur, [], l, f, false⟩) ⟨m1, b5, es1, c1, es3, c3, _, hm1, hpo.full hm1 hall, (fun o h => by cases h), rfl, rfl⟩) ?_;refine j1 rfl (Hl.le_refl _) ?_;exact ⟨_, rfl, rfl, rfl, rfl⟩
 ·
  refine aA (aQ rfl rfl) rfl ?_;refine aF (aD ?_);refine aG ?_;refine c7 rfl ?_;refine aW ?_;refine aD (a8 ?_);refine aG (aB ?_);refine aA (kS (m := m1) rfl aP hm1.fresh he (by first | exact .here | exact .there .here | exact .there (.there .here) | exact .there (.there (.there .here)) | exact .there (.there (.there (.there .here))) | exact .there (.there (.there (.there (.there .here)))))) rfl ?_;refine aA (aQ rfl rfl) rfl ?_;refine aA (aQ rfl rfl) rfl ?_;refine aA (aE rfl) rfl ?_;refine aA (aE rfl) rfl ?_;refine aF (aD ?_);refine aB ?_;refine aA (aC rfl) rfl ?_;refine aA bL rfl ?_;refine aA (aH (o' := 1) d6 rfl rfl) rfl ?_;refine aA (aM eU rfl aP rfl) rfl ?_;refine aA (aC rfl) rfl ?_;refine aA (aC rfl) rfl ?_;refine bZ (vC Tryz.underlying107 Tryz.underlying9 rfl rfl rfl bE) ?_;rintro _ K _ ⟨rfl, rfl⟩ -;refine aF (aX ?_);exact fW (seen ++ [e.2.2]) _ _ (hpo.step hm1.nd hm1.fresh.nd he) (o1 he hne) (.cons 0 rfl (.cons 12 rfl .nil)) rfl (fun _ h => h)
end Go.Proofs
end
section
namespace Go.Proofs
open Go Go.SL Go.Syn Go.Box
def fK (f : DMap) (ys : List cI) : Prop := (∀ n d, (n, d) ∈ ys ↔ f n = some d) ∧ ys.Pairwise fun a b => a.1 < b.1
def jG (K : Hl) (es : List Ent) (seen : List Nat) (xs : List cI) : Prop := (xs.map (·.1)).Nodup ∧ ∀ n d, (n, d) ∈ xs ↔ ∃ e ∈ es, e.2.2 ∈ seen ∧ e.1 = n ∧ gQ K e.2.1 d
def dY (xs : List cI) (f : DMap) : DMap := xs.foldl (fun f x => f.put x.1 x.2) f
theorem zH (v : Value) (xs : List cI) (K : Hl) (hv : Ksl aZ K v xs) (hn : xs.length ≤ 1000000) : Sp Tryz.prog 45 [v] K []
  (Ret fun r K' L' => ∃ b, r = ptr b ∧ L' = [dsk K' b ⟨dY xs (fun _ => none), dY xs (fun _ => none), [], -1, -1, false⟩]) := by
 refine a6 Tryz.func45 rfl Tryz.ntmps45 rfl rfl fun F w => ?_
 refine aG (aB ?_);refine aA (aE rfl) rfl ?_;refine aF (aD ?_);refine aG (aB ?_);refine ol_s m5 rfl ?_;rintro _ K _ ⟨b7, rfl, rfl, rfl⟩ -;refine aA (dJ aAX zW (.cons rfl rfl rfl (.cons .nil) (.cons rfl rfl rfl (.skip (.skip (.skip (.cons .nil)))) (.cons rfl rfl rfl (.skip (.skip (.skip (.skip (.cons .nil))))) .nil)))) rfl ?_;refine ol_s (f5 rfl rfl) rfl ?_;rintro _ K _ ⟨b9, rfl, rfl, rfl⟩ -;refine aA (aE rfl) rfl ?_;refine aF (aD ?_);refine aG (aG ?_);refine aB ?_;refine aA (aC rfl) rfl ?_;refine aA (bK (k := aZ) rfl Tryz.underlying62 rfl (.known hv)) rfl ?_;refine aA (aC rfl) rfl ?_;refine aF (aD ?_);refine a8 ?_;refine n8 (fun (i : Nat) (K2 : Hl) (es : List Ent) (c : Nat) => i ≤ xs.length ∧ K.le K2 ∧ MapOk K2 es c (dY (xs.take i) (fun _ => none))) (fun i _ _ _ => [(3, ptr b9), (10, v), (11, i64 xs.length), (12, i64 i)]) (fun _ K2 _ _ => K2) (fun _ _ es c => [pt b9 (dskO (.map (some b7)) (.map none) (.slice none 0 0) (-1) (-1) false), pt b7 (mapO es c)]) (fun i _ _ _ => xs.length - i) 0 K [] 0 ⟨Nat.zero_le _, Hl.le_refl _, MapOk.nil⟩ (.cons 3 rfl (.cons 10 rfl (.cons 11 rfl (.cons 12 rfl .nil)))) rfl (fun _ h => h) ?_;intro i K2 es c ⟨hi, leL, hmi⟩;refine aG (aB ?_);refine aA (dK rfl rfl) rfl ?_;refine aF (aD ?_);refine aG ?_;refine bM 13 rfl (fun h13 => ?_) (fun h13 => ?_)
 ·
  have hlt : i < xs.length := by omega
  obtain ⟨o, hx⟩ : ∃ o, xs[i]? = some o := ⟨xs[i]'hlt, List.getElem?_eq_getElem hlt⟩;have hv2 := hv.mono leL;refine aW ?_;refine aD (aG ?_);refine a8 (aG ?_);refine aB ?_;refine aA (bI (k := aZ) cR rfl (.known hv2) rfl rfl (by first | assumption | omega)) rfl ?_;refine aA (bR (n := 0) (k := aZ) dU rfl (.known hv2) d9) rfl ?_;refine ol_s (cE tz66) rfl ?_;rintro _ K _ ⟨b5, rfl, rfl, rfl⟩ -;refine bZ (cY dU rfl rfl rfl bE (by first | (simp [Value.oneCell']; done) | exact fun c hc => El.one _ _ c hc) (.cons (.cons .nil)) (by intro j hj; simp)) ?_;rintro _ K _ ⟨rfl, rfl⟩ -;refine aF (aD ?_);refine aG (aB ?_);refine aA (aH (o' := 1) f8 rfl rfl) rfl ?_;refine aA (aM ts9 rfl aP rfl) rfl ?_;refine ol_s (cE tz9) rfl ?_;rintro _ K _ ⟨b6, rfl, rfl, rfl⟩ -;refine bZ (bJ ts9 rfl rfl cG bE .zero rfl) ?_;rintro _ K _ ⟨rfl, rfl⟩ -;refine aF (aD ?_);refine fG fun K3 le3 hb6 => ?_
  refine bY (anc := [0, 1, 3, 7, 0, 16, 63]) (ord := [0, 1, 2, 3, 4, 5, 6]) [6] [6] mixed (by decide +kernel) (cV _) ?_;refine aK rfl rfl (.none rfl) rfl rfl (aC rfl) rfl ?_;refine aK rfl rfl (.none rfl) rfl rfl bL rfl ?_;refine aK rfl rfl (.none rfl) rfl rfl (aH (o' := 0) dZ rfl rfl) rfl ?_;refine aK rfl rfl (.none rfl) rfl rfl (aM eU rfl aP rfl) rfl ?_;refine aK rfl rfl (.none rfl) rfl rfl (aH (o' := 0) hO rfl rfl) rfl ?_;refine aK rfl rfl (.none rfl) rfl rfl (aM ts9 rfl aP rfl) rfl ?_;refine fY rfl rfl (.none rfl) rfl (vC Tryz.underlying107 Tryz.underlying9 rfl rfl rfl bE) ?_;rintro _ K _ ⟨rfl, rfl⟩ -;refine bW ?_;refine aX (aD ?_);refine aB ?_;refine aA (dG rfl rfl aJ aJ) rfl ?_;refine aA (aC rfl) rfl ?_;refine aF ?_;refine bC (.cons (.there .here) (.cons (.there .here) .nil)) ?_;exact lF (i + 1) _ _ _ ⟨hlt, Hl.le_trans leL le3, by rw [List.take_succ_eq_append_getElem hlt]; rw [List.getElem?_eq_getElem hlt] at hx; cases hx; unfold dY; rw [List.foldl_append]; exact (hmi.mono le3).put ⟨_, _, _, rfl, hb6⟩⟩ aJ (.cons 3 rfl (.cons 10 rfl (.cons 11 rfl (.cons 12 rfl .nil)))) rfl (fun _ h => h)
 ·
  have hie : i = xs.length := by omega
  subst hie;rw [List.take_length] at hmi;refine c6 ?_;refine aV ?_;refine aV ?_;refine bF ?_;refine aD (aG ?_);refine aB ?_;refine aA (aC rfl) rfl ?_;refine bG rfl rfl (vS b9 b7 es c _ _ (-1) (-1) false _ _ hmi) (.cons .here (.cons .here .nil)) rfl ?_;rintro _ K5 _ ⟨rfl, rfl, rfl⟩ -;refine aF (aD ?_);refine aG (aB ?_);refine aA (aC rfl) rfl ?_;refine aA (aE rfl) rfl ?_;refine aF (aD ?_);refine bB ?_;refine bC (.cons .here .nil) ?_;refine aY rfl rfl leL ?_;exact ⟨_, rfl, b9, rfl, rfl⟩
end Go.Proofs
end
section
namespace Go.Proofs
open Go Go.SL Go.Syn Go.Box
theorem jS {α : Type} [DecidableEq α] : ∀ {l ns : List α}, l.Nodup → (∀ x ∈ l, x ∈ ns) → l.length ≤ ns.length
 | [], _, _, _ => Nat.zero_le _
 | a :: r, ns, nd, h => by
  have nd' := List.nodup_cons.1 nd;have ha := h a List.mem_cons_self;have := jS (ns := ns.erase a) nd'.2 fun x hx => (List.mem_erase_of_ne (fun e : x = a => nd'.1 (by rw [← e]; exact hx))).2 (h x (List.mem_cons_of_mem _ hx))
  rw [List.length_erase_of_mem ha] at this;have := List.length_pos_of_mem ha;simp only [List.length_cons]; omega
def iS (f : DMap) (ns : List aI) : Prop := ∀ n, (f n).isSome = true → n ∈ ns
theorem w3 {K : Hl} {es : List Ent} {c : Nat} {f : DMap} {ns : List aI} (hm : MapOk K es c f) (hd : iS f ns) : es.length ≤ ns.length := by
 have := jS (ns := ns) hm.nd fun x hx => hd x (by rw [← hm.isSome x]; exact (gZ es).2 hx)
 simpa using this
theorem o7 {K : Hl} {es : List Ent} {seen : List Nat} {xs : List cI} (h : jG K es seen xs) : xs.length ≤ es.length := by
 have := jS (ns := es.map (·.1)) h.1 fun x hx => by
  obtain ⟨⟨n, d⟩, hm, rfl⟩ := List.mem_map.1 hx;obtain ⟨e, he, _, rfl, _⟩ := (h.2 n d).1 hm;exact List.mem_map_of_mem (f := fun e : Ent => e.1) he
 simpa using this
theorem gQ.one {K : Hl} {v : Value} {d d' : aI} (h : gQ K v d) (h' : gQ K v d') : d = d' := by
 obtain ⟨b, T, fz, rfl, hb⟩ := h;obtain ⟨b', T', fz', e, hb'⟩ := h';have : b = b' := by injection e with e; injection e with e; injection e
 subst this;rw [hb] at hb'
 injection hb' with e2; injection e2 with e3 e4 e5
 have := congrArg Array.toList e3;simp at this;exact this
theorem g0 {es : List Ent} {e : Ent} (nd : (es.map (·.1)).Nodup) (he : e ∈ es) : mget es e.1 = some e.2.1 := by
 unfold mget; rw [jP nd he]; rfl
theorem jG.nil {K : Hl} {es : List Ent} : jG K es [] [] := ⟨List.nodup_nil, fun n d => by simp⟩
theorem jG.step {K : Hl} {es : List Ent} {c : Nat} {f : DMap} {seen : List Nat} {xs : List cI} {e : Ent} {d : aI} (hm : MapOk K es c f) (h : jG K es seen xs) (he : e ∈ es) (hn : e.2.2 ∉ seen) (hd : gQ K e.2.1 d) : jG K es (seen ++ [e.2.2]) (xs ++ [(e.1, d)]) := by
 have hnew : e.1 ∉ xs.map (·.1) := by
  intro hx;obtain ⟨⟨n, d'⟩, hmm, e1⟩ := List.mem_map.1 hx;obtain ⟨e', he', hs', hn', _⟩ := (h.2 n d').1 hmm;have e1' : n = e.1 := e1;have : e' = e := by
   have a := jP hm.nd he; have b := jP hm.nd he'
   rw [hn', e1'] at b; rw [a] at b; injection b with b; exact b.symm
  exact hn (this ▸ hs')
 refine ⟨?_, fun n d' => ?_⟩
 ·rw [List.map_append, List.nodup_append];refine ⟨h.1, by simp, fun a ha b hb => ?_⟩
  rintro rfl;simp at hb; subst hb; exact hnew ha
 ·rw [List.mem_append, h.2]
  constructor
  ·rintro (⟨e', he', hs', hn', hd'⟩ | hq)
   ·exact ⟨e', he', List.mem_append_left _ hs', hn', hd'⟩
   ·rw [List.mem_singleton] at hq; cases hq
    exact ⟨e, he, List.mem_append_right _ (List.mem_singleton.2 rfl), rfl, hd⟩
  ·rintro ⟨e', he', hs', hn', hd'⟩;rcases List.mem_append.1 hs' with hs' | hs'
   ·exact .inl ⟨e', he', hs', hn', hd'⟩
   ·rw [List.mem_singleton] at hs';have : e' = e := by
     have key : ∀ (l : List Ent), (l.map (·.2.2)).Nodup → e' ∈ l → e ∈ l → e' = e := by
      intro l;induction l with
      | nil => intro _ h; cases h
      | cons a r ih =>
       intro nd h1 h2;have nd' := List.nodup_cons.1 nd;rcases List.mem_cons.1 h1 with e1 | g1 <;> rcases List.mem_cons.1 h2 with e2 | g2
       ·exact e1.trans e2.symm
       ·exact absurd (by have := List.mem_map_of_mem (f := fun e : Ent => e.2.2) g2; rw [← hs', e1] at this; exact this) nd'.1
       ·exact absurd (by have := List.mem_map_of_mem (f := fun e : Ent => e.2.2) g1; rw [hs', e2] at this; exact this) nd'.1
       ·exact ih nd'.2 g1 g2
     exact key es hm.fresh.nd he' he
    subst this;rw [← hn', hd'.one hd];exact .inr (List.mem_singleton.2 rfl)
theorem qD {K : Hl} {es : List Ent} {c : Nat} {f : DMap} {seen : List Nat} {xs ys : List cI} (hm : MapOk K es c f) (h : jG K es seen xs) (hall : ∀ e ∈ es, e.2.2 ∈ seen) (hp : ys.Perm xs) (ho : iC ys) : fK f ys := by
 refine ⟨fun n d => ?_, ?_⟩
 ·rw [hp.mem_iff, h.2]
  constructor
  ·rintro ⟨e, he, _, rfl, hd⟩;obtain ⟨d', h1, h2⟩ := hm.has _ _ (g0 hm.nd he);rw [h1, hd.one h2]
  ·intro hf;cases hg : mget es n with
   | none => rw [hm.lacks n hg] at hf; cases hf
   | some v =>
    obtain ⟨d', h1, h2⟩ := hm.has _ _ hg;have hk := (gZ (k := n) es).1 (by rw [hg]; rfl);obtain ⟨e, he, rfl⟩ := List.mem_map.1 hk;rw [g0 hm.nd he] at hg; cases hg
    rw [h1] at hf; cases hf
    exact ⟨e, he, hall e he, rfl, h2⟩
 ·have nd : (ys.map (·.1)).Nodup := (hp.map _).nodup_iff.2 h.1;rw [List.Nodup, List.pairwise_map] at nd;refine (ho.and nd).imp ?_;rintro a b ⟨h1, h2⟩;rcases List.le_iff_lt_or_eq.1 (List.not_lt.1 h1) with h | h
  ·exact h
  ·exact absurd h h2
theorem uI (b : Nat) (s : DSt) (ns : List aI) (hdom : iS s.dur ns) (hns : ns.length ≤ 1000000) (K K0 : Hl) (le : K0.le K) : Sp Tryz.prog 49 [ptr b] K [dsk K0 b s]
  (Ret fun r K' L' => K' = K ∧ ∃ ys, fK s.dur ys ∧ L' = [sl false aZ r ys, dsk K' b s]) := by
 refine l7 ⟨_, Tryz.func49, rfl, rfl⟩ fun L hd => ?_
 rw [List.append_nil];obtain ⟨m1, m2, es1, c1, es2, c2, pv, hm1, hm2, hop, hpv, rfl⟩ := hd;obtain ⟨dur, now, pend, l, f, dn⟩ := s;simp only at hm1 hm2 hop hdom;have hm1' := hm1.mono le;have hkl := w3 hm1 hdom;refine a6 Tryz.func49 rfl Tryz.ntmps49 rfl rfl fun F w => ?_
 refine aG (aB ?_);refine aA (aE rfl) rfl ?_;refine aF (aD ?_);refine aG (aB ?_);refine ol_s (cE tz62) rfl ?_;rintro _ K _ ⟨b3, rfl, rfl, rfl⟩ -;refine aF (aD ?_);refine aG (aG ?_);refine aB ?_;refine aA (aC rfl) rfl ?_;refine aA bL rfl ?_;refine aA (aH (o' := 0) dZ rfl rfl) rfl ?_;refine aA (aM eU rfl aP rfl) rfl ?_;refine ol_s (lY Tryz.underlying107 rfl aP) rfl ?_;rintro _ K _ ⟨b10, rfl, rfl, rfl⟩ -;refine aF (aD ?_);refine a8 ?_;refine gN (eH aZ) ?_;refine pI (.cons (.there .here) (.cons (.there .here) (.cons .here (.cons .here (.cons .here (.cons .here (.cons .here .nil))))))) ?_;refine iM (fun (seen : List Nat) (xs : List cI) (v : Value) => jG K es1 seen xs ∧ v.oneCell' = true) (fun _ _ _ => [(0, ptr b), (3, ptr b3), (10, ptr b10)]) (fun _ _ _ => K) (fun seen xs v => [mit b10 m1 c1 seen c1, pt b3 (aO [v] 62), sl false aZ v xs, pt b (dskO (.map (some m1)) (.map (some m2)) pv l f dn), pt m1 (mapO es1 c1), pt m2 (mapO es2 c2), sl false opEl pv pend]) (fun seen _ _ => mX es1 seen) [] [] (.slice none 0 0) ⟨jG.nil, rfl⟩ (.cons 0 rfl (.cons 3 rfl (.cons 10 rfl .nil))) rfl (fun _ h => h) ?_;intro seen xs v ⟨hpo, hv1⟩;refine aG (aB ?_);refine ol_s (m7 (m := m1) rfl aP hm1.fresh (fun _ => bE)) rfl ?_;rintro _ K _ ⟨rfl, hN11⟩ -;rcases hN11 with ⟨rfl, rfl, hall⟩ | ⟨e, he, hne, rfl, rfl⟩
 ·
  refine aA (aQ rfl rfl) rfl ?_;refine aF (aD ?_);refine aG ?_;refine bO rfl ?_;refine c6 ?_;refine aV ?_;refine aV ?_;refine bF ?_;refine aD (aG ?_);refine aB ?_;refine aA (aM ts62 rfl aP rfl) rfl ?_;refine aA (bN Tryz.underlying62 (fun _ h => by cases h) rfl) rfl ?_;refine aA (dL rfl rfl) rfl ?_;refine bG rfl rfl (xI b3 false v xs (by have := o7 hpo; omega) _) (.cons (.there .here) (.cons (.there .here) .nil)) rfl ?_;rintro _ K6 _ ⟨rfl, rfl, ys, hperm, hord, rfl⟩ -;refine aF (aD ?_);refine aG (aB ?_);refine aA (aM ts62 rfl aP rfl) rfl ?_;refine aA (aE rfl) rfl ?_;refine aF (aD ?_);refine bB ?_;refine bC (.cons (.there .here) (.cons (.there (.there .here)) (.cons (.there (.there .here)) (.cons (.there (.there .here)) (.cons (.there (.there .here)) .nil))))) ?_;refine eN (fun _ => dE (dW (s := ⟨dur, now, pend, l, f, dn⟩) ⟨m1, m2, es1, c1, es2, c2, pv, hm1', hm2.mono le, hop, hpv, rfl⟩)) ?_;refine aY rfl rfl (Hl.le_refl _) ?_;exact ⟨_, rfl, rfl, ys, qD hm1' hpo hall hperm hord, rfl⟩
 ·
  obtain ⟨d, hfd, sb, sT, sfz, hde, hdb⟩ := hm1'.has _ _ (g0 hm1.nd he);have hxl := o7 hpo;refine aA (aQ rfl rfl) rfl ?_;refine aF (aD ?_);refine aG ?_;refine c7 rfl ?_;refine aW ?_;refine aD (a8 ?_);refine aG (aB ?_);refine aA (kS (m := m1) rfl aP hm1.fresh he (by first | exact .here | exact .there .here | exact .there (.there .here) | exact .there (.there (.there .here)) | exact .there (.there (.there (.there .here))) | exact .there (.there (.there (.there (.there .here)))))) rfl ?_;refine aA (aQ rfl rfl) rfl ?_;refine aA (aQ (v := ptr sb) rfl (by simp [hde])) rfl ?_;refine aA (aE rfl) rfl ?_;refine aA (aE rfl) rfl ?_;refine aF (aD ?_);refine bY (anc := [0, 0, 0, 4, 12, 30, 62, 127, 255]) (ord := [0, 1, 2, 3, 4, 5, 6, 7, 8]) [6, 7, 8] [7, 8] mixed (by decide +kernel) (.cons (.there .here) .nil) ?_;refine aK rfl rfl (.none rfl) rfl rfl (aM ts62 rfl aP rfl) rfl ?_;refine aK rfl rfl (.none rfl) rfl rfl (aC rfl) rfl ?_;refine aK rfl rfl (.none rfl) rfl rfl (aC rfl) rfl ?_;refine aK rfl rfl (.none rfl) rfl rfl bL rfl ?_;refine aK rfl rfl (.none rfl) rfl rfl (aM ts9 rfl (.known hdb) rfl) rfl ?_;refine aK rfl rfl (.none rfl) rfl rfl (dJ tb66 nD (.cons rfl rfl rfl (.cons .nil) (.cons rfl rfl rfl (.skip (.cons .nil)) .nil))) rfl ?_;refine dl_s rfl rfl (.none rfl) rfl rfl (cF (z0 := [(str []), (str [])]) cR tz66 rfl rfl rfl rfl (.cons rfl rfl rfl (.cons (.cons .nil)) .nil)) rfl ?_;rintro _ K _ ⟨b22, rfl, rfl, rfl⟩ -;refine ⟨_, (show Tks _ _ _ from (.cons (.there .here) .nil)).sat, ?_⟩
  refine dl_g rfl rfl (.none rfl) rfl (fF (k := aZ) (ys := [((e.1, d) : cI)]) jV rfl rfl (.there (.there (.there .here))) (fun w j => eY Tryz.underlying62 (SeesSl.at (k := aZ) (.blk (.own (.there .here)) rfl rfl) j)) (by show (xs.length + 1) * 32 ≤ 140737488355328; omega) (by show xs.length + 1 ≤ 9223372036854775807; omega)) rfl ?_;rintro v23 K _ ⟨rfl, rfl, ho23⟩ -;refine fY rfl rfl (.none rfl) rfl (bJ ts62 rfl rfl cG bE .zero rfl) ?_;rintro _ K _ ⟨rfl, rfl⟩ -;refine bW ?_;refine aX ?_;refine bC (.cons (.there (.there (.there .here))) (.cons (.there .here) (.cons .here (.cons (.there .here) (.cons (.there .here) (.cons (.there .here) (.cons (.there .here) .nil))))))) ?_;exact fW (seen ++ [e.2.2]) _ _ ⟨hpo.step hm1' he hne ⟨_, _, _, hde, hdb⟩, ho23⟩ (o1 he hne) (.cons 0 rfl (.cons 3 rfl (.cons 10 rfl .nil))) rfl (fun _ h => h)
end Go.Proofs
end
section
namespace Go.Proofs
open Go Go.SL Go.Syn Go.Box
theorem mC (n : Int) : -9223372036854775808 ≤ IntKind.i64.wrap n ∧ IntKind.i64.wrap n ≤ 9223372036854775807 := by
 unfold IntKind.wrap;simp [IntKind.bits, IntKind.signed];split <;> omega
theorem lV (c m : Int) (n : Nat) (K : Hl) (hm : m = n) (h1 : -9223372036854775808 ≤ c) (h2 : c ≤ 9223372036854775807) (hn : 0 < n) : Sp Tryz.prog 80 [i64 c, i64 m] K [] (Ret fun v K' L' => ∃ r : Nat, v = i64 r ∧ r < n ∧ K' = K ∧ L' = []) := by
 subst hm;refine a6 Tryz.func80 rfl Tryz.ntmps80 rfl rfl fun F w => ?_
 refine aG (aB ?_);refine aA (aE rfl) rfl ?_;refine aF (aD ?_);refine n9 (fun (d : Int) => 0 ≤ d) (fun d => [(0, i64 d), (1, i64 n)]) (fun _ => K) (fun _ => []) ?_ ?_
 ·
  refine aG (aB ?_);refine aA (aC rfl) rfl ?_;refine aA (dK rfl rfl) rfl ?_;refine aF (aD ?_);refine bM 6 rfl (fun h6 => ?_) (fun h6 => ?_)
  ·
   refine aB ?_;refine aA (aC rfl) rfl ?_;refine aA (dG rfl rfl aJ aJ) rfl ?_;refine aA (yZ rfl aJ aJ) rfl ?_;refine aA (aE rfl) rfl ?_;refine aF ?_
   first | exact cN (-(c + 1)) aJ (.cons 0 rfl (.cons 1 rfl .nil)) rfl (fun _ h => h) | exact cN c aJ (.cons 0 rfl (.cons 1 rfl .nil)) rfl (fun _ h => h)
  ·
   refine aW ?_
   first | exact cN (-(c + 1)) aJ (.cons 0 rfl (.cons 1 rfl .nil)) rfl (fun _ h => h) | exact cN c aJ (.cons 0 rfl (.cons 1 rfl .nil)) rfl (fun _ h => h)
 ·
  intro d hd;refine aG (aB ?_);refine aA (aC rfl) rfl ?_;refine aA (aC rfl) rfl ?_;refine aA (uD rfl rfl aJ) rfl ?_;refine aA (aE rfl) rfl ?_;refine aF (aD ?_);refine bB ?_;refine aY rfl rfl (Hl.le_refl _) ?_;exact ⟨_, rfl, _, by rw [tE hd], Nat.mod_lt _ hn, rfl, rfl⟩
theorem tW (b : Nat) (s : DSt) (kept part : Int) (hpl : s.pend.length ≤ 1000000) (hdl : ∀ o ∈ s.pend, o.data.length ≤ 140737488355328) (hk1 : -9223372036854775808 ≤ part) (hk2 : part ≤ 9223372036854775807) (K K0 : Hl) (le : K0.le K) : Sp Tryz.prog 47 [ptr b, i64 kept, i64 part] K [dsk K0 b s]
  (Ret fun r K' L' => r = .tuple #[] ∧ ∃ t, q5 s t ∧ L' = [dsk K' b t]) := by
 refine l7 ⟨_, Tryz.func47, rfl, rfl⟩ fun L hd => ?_
 rw [List.append_nil];obtain ⟨m1, m2, es1, c1, es2, c2, pv, hm1, hm2, hop, hpv, rfl⟩ := hd;obtain ⟨dur, now, pend, l, f, dn⟩ := s;simp only at hm1 hm2 hop hpl hdl;refine a6 Tryz.func47 rfl Tryz.ntmps47 rfl rfl fun F w => ?_
 refine aG (aB ?_);refine aA (aC rfl) rfl ?_;refine aA (aC rfl) rfl ?_;refine aA bL rfl ?_;refine aA (aH (o' := 2) c8 rfl rfl) rfl ?_;refine aA (aM hU rfl aP rfl) rfl ?_;refine aA (bK (k := opEl) (xs := pend) rfl Tryz.underlying108 rfl aP) rfl ?_;refine aA (dG rfl rfl aJ aJ) rfl ?_;refine bG rfl rfl (lV part _ (pend.length + 1) _ aJ hk1 hk2 aJ) .nil rfl ?_;rintro _ K _ ⟨r, rfl, hr, rfl, rfl⟩ -;refine aA (aE rfl) rfl ?_;refine aF (aD ?_);refine aG (aG ?_);refine aB ?_;refine aA (aC rfl) rfl ?_;refine aA bL rfl ?_;refine aA (aH (o' := 2) c8 rfl rfl) rfl ?_;refine aA (aM hU rfl aP rfl) rfl ?_;refine aA (bK (k := opEl) (xs := pend) rfl Tryz.underlying108 rfl aP) rfl ?_;refine aA (aC rfl) rfl ?_;refine aF (aD ?_);refine a8 ?_;refine pI (.cons .here (.cons .here (.cons (.there .here) .nil))) ?_;refine n8 (fun (i : Nat) (K2 : Hl) (es : List Ent) (c : Nat) => i ≤ pend.length ∧ K.le K2 ∧ ∃ g, MapOk K2 es c g ∧ CrI pend dur r i g) (fun i _ _ _ => [(0, ptr b), (1, i64 kept), (2, i64 part), (6, i64 r), (22, pv), (23, i64 pend.length), (24, i64 i)]) (fun _ K2 _ _ => K2) (fun _ _ es c => [pt b (dskO (.map (some m1)) (.map (some m2)) pv l f dn), pt m1 (mapO es c), sl false opEl pv pend]) (fun i _ _ _ => pend.length - i) 0 K es1 c1 ⟨Nat.zero_le _, Hl.le_refl _, dur, hm1.mono le, CrI.init⟩ (.cons 0 rfl (.cons 1 rfl (.cons 2 rfl (.cons 6 rfl (.cons 22 rfl (.cons 23 rfl (.cons 24 rfl .nil))))))) rfl (fun h hh => hh) ?_;intro i K2 es c ⟨hi, leL, g, hmi, hci⟩;refine aG (aB ?_);refine aA (dK rfl rfl) rfl ?_;refine aF (aD ?_);refine aG ?_;refine bM 25 rfl (fun h25 => ?_) (fun h25 => ?_)
 ·
  have hlt : i < pend.length := by omega
  obtain ⟨o, hx⟩ : ∃ o, pend[i]? = some o := ⟨pend[i]'hlt, List.getElem?_eq_getElem hlt⟩;have hoo := hop o (List.mem_of_getElem? hx);have hol := hdl o (List.mem_of_getElem? hx);refine aW ?_;refine aD ?_;refine rO (fun (ec : List Ent × Nat) (K3 : Hl) => K2.le K3 ∧ ∃ g3, MapOk K3 ec.1 ec.2 g3 ∧ CrI pend dur r (i + 1) g3) (fun _ _ => [(0, ptr b), (1, i64 kept), (2, i64 part), (6, i64 r), (22, pv), (23, i64 pend.length), (24, i64 i)]) (fun _ K3 => K3) (fun ec _ => [pt b (dskO (.map (some m1)) (.map (some m2)) pv l f dn), pt m1 (mapO ec.1 ec.2), sl false opEl pv pend]) ?_ ?_
  ·
   refine a8 (aG ?_);refine aB ?_;refine aA (aC rfl) rfl ?_;refine aA (bI (k := opEl) eP rfl aP rfl rfl (by first | assumption | omega)) rfl ?_;refine aA (bR (n := 0) (k := opEl) dI rfl aP d9) rfl ?_;refine ol_s (cE nG) rfl ?_;rintro _ K _ ⟨b8, rfl, rfl, rfl⟩ -;refine aA (aE rfl) rfl ?_;refine bZ (cY dI rfl rfl rfl bE (by first | (simp [Value.oneCell']; done) | exact fun c hc => El.one _ _ c hc) (.cons (.cons (.cons (.cons .nil)))) (by intro j hj; simp)) ?_;rintro _ K _ ⟨rfl, rfl⟩ -;refine aF (aD ?_);refine aG (aG ?_);refine aB ?_;refine aA (aC rfl) rfl ?_;refine aA (aC rfl) rfl ?_;refine aA (uD rfl rfl aJ) rfl ?_;refine aA (p9 rfl rfl (by exact Int.tmod_nonneg _ aJ)) rfl ?_;refine aA (k4 rfl rfl) rfl ?_;refine aA (bV rfl rfl) rfl ?_;refine aF (aD ?_);refine bM 34 rfl (fun h34 => ?_) (fun h34 => ?_)
   ·
    refine c6 ?_;refine aV ?_;refine bF ?_
    first | (refine bC (.cons (.there (.there .here)) (.cons .here (.cons (.there .here) .nil))) ?_; exact dQ (es3, c3) K3 ⟨le3, _, hm3, hci.do hx hdd⟩ (.cons 0 rfl (.cons 1 rfl (.cons 2 rfl (.cons 6 rfl (.cons 22 rfl (.cons 23 rfl (.cons 24 rfl .nil))))))) rfl (fun _ h => h)) | (refine bC (.cons (.there .here) (.cons (.there .here) (.cons (.there .here) .nil))) ?_; exact dQ (es, c) K ⟨Hl.le_refl _, g, hmi, hci.lost hx⟩ (.cons 0 rfl (.cons 1 rfl (.cons 2 rfl (.cons 6 rfl (.cons 22 rfl (.cons 23 rfl (.cons 24 rfl .nil))))))) rfl (fun _ h => h)) | (refine bC (.cons (.there .here) (.cons (.there .here) (.cons (.there .here) .nil))) ?_; exact dQ (es, c) K ⟨Hl.le_refl _, g, hmi, hci.none hx h70 (hmi.lacks _ hg)⟩ (.cons 0 rfl (.cons 1 rfl (.cons 2 rfl (.cons 6 rfl (.cons 22 rfl (.cons 23 rfl (.cons 24 rfl .nil))))))) rfl (fun _ h => h))
   ·
    refine aW ?_;refine aD ?_;refine n9 (fun (d : aI) => d = o.data ∨ o.kind = 1 ∧ i = r ∧ d <+: o.data) (fun _ => [(0, ptr b), (1, i64 kept), (2, i64 part), (6, i64 r), (8, ptr b8), (22, pv), (23, i64 pend.length), (24, i64 i)]) (fun _ => K) (fun d => [pt b8 (aO [i64 o.kind, str o.name, str o.to, str d] 165), pt b (dskO (.map (some m1)) (.map (some m2)) pv l f dn), pt m1 (mapO es c), sl false opEl pv pend]) ?_ ?_
    ·
     refine aG (aB ?_);refine aA (aH (o' := 0) eK rfl rfl) rfl ?_;refine aA (aM ts3 rfl aP rfl) rfl ?_;refine aA (bV rfl rfl) rfl ?_;refine aA (aC rfl) rfl ?_;refine bU 38 rfl (fun g38 => ?_) (fun g38 => ?_)
     ·
      refine aU rfl rfl ?_;refine aA (aC rfl) rfl ?_;refine aU rfl rfl ?_;refine aA (aC rfl) rfl ?_;refine aU rfl rfl ?_;refine aA (bV rfl rfl) rfl ?_;refine aA (bH rfl rfl) rfl ?_;refine aF (aD ?_);refine bM 42 rfl (fun h42 => ?_) (fun h42 => ?_)
      ·
       refine bY (anc := [0, 1, 0, 4, 0, 16, 48, 112, 252, 511, 1023, 2047]) (ord := [0, 1, 2, 3, 4, 5, 6, 7, 8, 9, 10, 11]) [8, 11] [11] mixed (by decide +kernel) (.cons .here .nil) ?_;refine aK rfl rfl (.none rfl) rfl rfl (aH (o' := 3) iQ rfl rfl) rfl ?_;refine aK rfl rfl (.none rfl) rfl rfl (aM ts9 rfl aP rfl) rfl ?_;refine aK rfl rfl (.none rfl) rfl rfl (aC rfl) rfl ?_;refine aK rfl rfl (.none rfl) rfl rfl (y3 rfl rfl aJ) rfl ?_;refine aK rfl rfl (.none rfl) rfl rfl (aH (o' := 3) iQ rfl rfl) rfl ?_;refine aK rfl rfl (.none rfl) rfl rfl (aM ts9 rfl aP rfl) rfl ?_;refine aK rfl rfl (.none rfl) rfl rfl (cK rfl Tryz.underlying9 rfl) rfl ?_;refine aK rfl rfl (.none rfl) rfl rfl (dG rfl rfl aJ aJ) rfl ?_;refine nP rfl (.none rfl) rfl rfl rfl rfl (lV _ _ (o.data.length + 1) _ aJ (mC _).1 (mC _).2 aJ) .nil rfl ?_;rintro _ K _ ⟨q, rfl, hq, rfl, rfl⟩ -;refine ⟨_, (show Tks _ _ _ from (.cons .here .nil)).sat, ?_⟩
       refine aK rfl rfl (.none rfl) rfl rfl (oV Tryz.underlying9 rfl rfl rfl aJ) rfl ?_;refine aK rfl rfl (.none rfl) rfl rfl (aH (o' := 3) iQ rfl rfl) rfl ?_;refine fY rfl rfl (.none rfl) rfl (bJ ts9 rfl rfl cG bE (.succ (.succ (.succ .zero))) rfl) ?_;rintro _ K _ ⟨rfl, rfl⟩ -;refine bW ?_
       first | exact cN _ (.inr ⟨g38, by omega, List.take_prefix _ _⟩) (.cons 0 rfl (.cons 1 rfl (.cons 2 rfl (.cons 6 rfl (.cons 8 rfl (.cons 22 rfl (.cons 23 rfl (.cons 24 rfl .nil)))))))) rfl (fun _ h => h) | exact cN o.data (.inl rfl) (.cons 0 rfl (.cons 1 rfl (.cons 2 rfl (.cons 6 rfl (.cons 8 rfl (.cons 22 rfl (.cons 23 rfl (.cons 24 rfl .nil)))))))) rfl (fun _ h => h)
      ·
       refine aW ?_
       first | exact cN _ (.inr ⟨g38, by omega, List.take_prefix _ _⟩) (.cons 0 rfl (.cons 1 rfl (.cons 2 rfl (.cons 6 rfl (.cons 8 rfl (.cons 22 rfl (.cons 23 rfl (.cons 24 rfl .nil)))))))) rfl (fun _ h => h) | exact cN o.data (.inl rfl) (.cons 0 rfl (.cons 1 rfl (.cons 2 rfl (.cons 6 rfl (.cons 8 rfl (.cons 22 rfl (.cons 23 rfl (.cons 24 rfl .nil)))))))) rfl (fun _ h => h)
     ·
      refine aR rfl rfl rfl ?_;refine aR rfl rfl rfl ?_;refine aR rfl rfl rfl ?_;refine aA (bA rfl rfl) rfl ?_;refine aF (aD ?_);refine bO rfl ?_;refine aW ?_
      first | exact cN _ (.inr ⟨g38, by omega, List.take_prefix _ _⟩) (.cons 0 rfl (.cons 1 rfl (.cons 2 rfl (.cons 6 rfl (.cons 8 rfl (.cons 22 rfl (.cons 23 rfl (.cons 24 rfl .nil)))))))) rfl (fun _ h => h) | exact cN o.data (.inl rfl) (.cons 0 rfl (.cons 1 rfl (.cons 2 rfl (.cons 6 rfl (.cons 8 rfl (.cons 22 rfl (.cons 23 rfl (.cons 24 rfl .nil)))))))) rfl (fun _ h => h)
    ·
     intro d hdd;cases hg : mget es o.name
     ·
      refine aG (aG ?_);refine bY (anc := [0, 1, 3, 7, 0, 16, 63, 127, 255, 255, 511, 2047]) (ord := [0, 1, 2, 3, 4, 5, 6, 7, 8, 9, 10, 11]) [] [] mixed (by decide +kernel) (cV _) ?_;refine aK rfl rfl (.none rfl) rfl rfl (aC rfl) rfl ?_;refine aK rfl rfl (.none rfl) rfl rfl bL rfl ?_;refine aK rfl rfl (.none rfl) rfl rfl (aH (o' := 0) dZ rfl rfl) rfl ?_;refine aK rfl rfl (.none rfl) rfl rfl (aM eU rfl aP rfl) rfl ?_;refine aK rfl rfl (.none rfl) rfl rfl (aH (o' := 1) eZ rfl rfl) rfl ?_;refine aK rfl rfl (.none rfl) rfl rfl (aM ts9 rfl aP rfl) rfl ?_;refine aK rfl rfl (.none rfl) rfl rfl (e9 Tryz.underlying107 Tryz.underlying9 nE rfl rfl aP hg) rfl ?_;refine aK rfl rfl (.none rfl) rfl rfl (aC rfl) rfl ?_;refine aK rfl rfl (.none rfl) rfl rfl (aQ rfl rfl) rfl ?_;refine aK rfl rfl (.none rfl) rfl rfl (aQ rfl rfl) rfl ?_;refine aK rfl rfl (.none rfl) rfl rfl (aE rfl) rfl ?_;refine aK rfl rfl (.none rfl) rfl rfl (aE rfl) rfl ?_;refine bW ?_;refine aD (aG ?_);refine aB ?_;refine aA (aC rfl) rfl ?_;refine aA (eR rfl) rfl ?_;refine aA (aC rfl) rfl ?_;refine aU rfl rfl ?_;refine aA (aH (o' := 0) eK rfl rfl) rfl ?_;refine aU rfl rfl ?_;refine aA (aM ts3 rfl aP rfl) rfl ?_;refine aU rfl rfl ?_;refine aA (i6 rfl rfl) rfl ?_;refine aA (bH rfl rfl) rfl ?_;refine aF (aD ?_);refine bM 70 rfl (fun h70 => ?_) (fun h70 => ?_)
      ·
       refine c6 ?_;refine aV ?_;refine bF ?_
       first | (refine bC (.cons (.there (.there .here)) (.cons .here (.cons (.there .here) .nil))) ?_; exact dQ (es3, c3) K3 ⟨le3, _, hm3, hci.do hx hdd⟩ (.cons 0 rfl (.cons 1 rfl (.cons 2 rfl (.cons 6 rfl (.cons 22 rfl (.cons 23 rfl (.cons 24 rfl .nil))))))) rfl (fun _ h => h)) | (refine bC (.cons (.there .here) (.cons (.there .here) (.cons (.there .here) .nil))) ?_; exact dQ (es, c) K ⟨Hl.le_refl _, g, hmi, hci.lost hx⟩ (.cons 0 rfl (.cons 1 rfl (.cons 2 rfl (.cons 6 rfl (.cons 22 rfl (.cons 23 rfl (.cons 24 rfl .nil))))))) rfl (fun _ h => h)) | (refine bC (.cons (.there .here) (.cons (.there .here) (.cons (.there .here) .nil))) ?_; exact dQ (es, c) K ⟨Hl.le_refl _, g, hmi, hci.none hx h70 (hmi.lacks _ hg)⟩ (.cons 0 rfl (.cons 1 rfl (.cons 2 rfl (.cons 6 rfl (.cons 22 rfl (.cons 23 rfl (.cons 24 rfl .nil))))))) rfl (fun _ h => h))
      ·
       refine aW ?_;refine aD ?_;refine bY (anc := [0, 1, 3, 7, 0, 31]) (ord := [0, 1, 2, 3, 4, 5]) [5] [5] mixed (by decide +kernel) (cV _) ?_;refine aK rfl rfl (.none rfl) rfl rfl (aC rfl) rfl ?_;refine aK rfl rfl (.none rfl) rfl rfl bL rfl ?_;refine aK rfl rfl (.none rfl) rfl rfl (aH (o' := 0) dZ rfl rfl) rfl ?_;refine aK rfl rfl (.none rfl) rfl rfl (aM eU rfl aP rfl) rfl ?_;refine aK rfl rfl (.none rfl) rfl rfl (bQ dI rfl aP rfl rfl) rfl ?_;refine eB rfl (.none rfl) rfl rfl rfl (gS m1 es c _ { o with data := d } hoo _ hmi) (.cons (.there (.there .here)) .nil) rfl ?_;rintro _ K3 _ ⟨rfl, es3, c3, hm3, rfl⟩ le3;refine bW ?_;refine aX ?_
       first | (refine bC (.cons (.there (.there .here)) (.cons .here (.cons (.there .here) .nil))) ?_; exact dQ (es3, c3) K3 ⟨le3, _, hm3, hci.do hx hdd⟩ (.cons 0 rfl (.cons 1 rfl (.cons 2 rfl (.cons 6 rfl (.cons 22 rfl (.cons 23 rfl (.cons 24 rfl .nil))))))) rfl (fun _ h => h)) | (refine bC (.cons (.there .here) (.cons (.there .here) (.cons (.there .here) .nil))) ?_; exact dQ (es, c) K ⟨Hl.le_refl _, g, hmi, hci.lost hx⟩ (.cons 0 rfl (.cons 1 rfl (.cons 2 rfl (.cons 6 rfl (.cons 22 rfl (.cons 23 rfl (.cons 24 rfl .nil))))))) rfl (fun _ h => h)) | (refine bC (.cons (.there .here) (.cons (.there .here) (.cons (.there .here) .nil))) ?_; exact dQ (es, c) K ⟨Hl.le_refl _, g, hmi, hci.none hx h70 (hmi.lacks _ hg)⟩ (.cons 0 rfl (.cons 1 rfl (.cons 2 rfl (.cons 6 rfl (.cons 22 rfl (.cons 23 rfl (.cons 24 rfl .nil))))))) rfl (fun _ h => h))
     ·
      refine aG (aG ?_);refine bY (anc := [0, 1, 3, 7, 0, 16, 63, 127, 255, 255, 511, 2047]) (ord := [0, 1, 2, 3, 4, 5, 6, 7, 8, 9, 10, 11]) [] [] mixed (by decide +kernel) (cV _) ?_;refine aK rfl rfl (.none rfl) rfl rfl (aC rfl) rfl ?_;refine aK rfl rfl (.none rfl) rfl rfl bL rfl ?_;refine aK rfl rfl (.none rfl) rfl rfl (aH (o' := 0) dZ rfl rfl) rfl ?_;refine aK rfl rfl (.none rfl) rfl rfl (aM eU rfl aP rfl) rfl ?_;refine aK rfl rfl (.none rfl) rfl rfl (aH (o' := 1) eZ rfl rfl) rfl ?_;refine aK rfl rfl (.none rfl) rfl rfl (aM ts9 rfl aP rfl) rfl ?_;refine aK rfl rfl (.none rfl) rfl rfl (gC Tryz.underlying107 Tryz.underlying9 nE rfl rfl aP hg) rfl ?_;refine aK rfl rfl (.none rfl) rfl rfl (aC rfl) rfl ?_;refine aK rfl rfl (.none rfl) rfl rfl (aQ rfl rfl) rfl ?_;refine aK rfl rfl (.none rfl) rfl rfl (aQ rfl rfl) rfl ?_;refine aK rfl rfl (.none rfl) rfl rfl (aE rfl) rfl ?_;refine aK rfl rfl (.none rfl) rfl rfl (aE rfl) rfl ?_;refine bW ?_;refine aD (aG ?_);refine aB ?_;refine aA (aC rfl) rfl ?_;refine aA (eR rfl) rfl ?_;refine aA (aC rfl) rfl ?_;refine aR rfl rfl rfl ?_;refine aR rfl rfl rfl ?_;refine aR rfl rfl rfl ?_;refine aA (bA rfl rfl) rfl ?_;refine aF (aD ?_);refine bO rfl ?_;refine aW ?_;refine aD ?_;refine bY (anc := [0, 1, 3, 7, 0, 31]) (ord := [0, 1, 2, 3, 4, 5]) [5] [5] mixed (by decide +kernel) (cV _) ?_;refine aK rfl rfl (.none rfl) rfl rfl (aC rfl) rfl ?_;refine aK rfl rfl (.none rfl) rfl rfl bL rfl ?_;refine aK rfl rfl (.none rfl) rfl rfl (aH (o' := 0) dZ rfl rfl) rfl ?_;refine aK rfl rfl (.none rfl) rfl rfl (aM eU rfl aP rfl) rfl ?_;refine aK rfl rfl (.none rfl) rfl rfl (bQ dI rfl aP rfl rfl) rfl ?_;refine eB rfl (.none rfl) rfl rfl rfl (gS m1 es c _ { o with data := d } hoo _ hmi) (.cons (.there (.there .here)) .nil) rfl ?_;rintro _ K3 _ ⟨rfl, es3, c3, hm3, rfl⟩ le3;refine bW ?_;refine aX ?_
      first | (refine bC (.cons (.there (.there .here)) (.cons .here (.cons (.there .here) .nil))) ?_; exact dQ (es3, c3) K3 ⟨le3, _, hm3, hci.do hx hdd⟩ (.cons 0 rfl (.cons 1 rfl (.cons 2 rfl (.cons 6 rfl (.cons 22 rfl (.cons 23 rfl (.cons 24 rfl .nil))))))) rfl (fun _ h => h)) | (refine bC (.cons (.there .here) (.cons (.there .here) (.cons (.there .here) .nil))) ?_; exact dQ (es, c) K ⟨Hl.le_refl _, g, hmi, hci.lost hx⟩ (.cons 0 rfl (.cons 1 rfl (.cons 2 rfl (.cons 6 rfl (.cons 22 rfl (.cons 23 rfl (.cons 24 rfl .nil))))))) rfl (fun _ h => h)) | (refine bC (.cons (.there .here) (.cons (.there .here) (.cons (.there .here) .nil))) ?_; exact dQ (es, c) K ⟨Hl.le_refl _, g, hmi, hci.none hx h70 (hmi.lacks _ hg)⟩ (.cons 0 rfl (.cons 1 rfl (.cons 2 rfl (.cons 6 rfl (.cons 22 rfl (.cons 23 rfl (.cons 24 rfl .nil))))))) rfl (fun _ h => h))
  ·
   intro ec K3 ⟨le3, g3, hm3, hc3⟩;refine aB ?_;refine aA (dG rfl rfl aJ aJ) rfl ?_;refine aA (aC rfl) rfl ?_;refine aF ?_;exact lF (i + 1) K3 ec.1 ec.2 ⟨hlt, Hl.le_trans leL le3, g3, hm3, hc3⟩ aJ (.cons 0 rfl (.cons 1 rfl (.cons 2 rfl (.cons 6 rfl (.cons 22 rfl (.cons 23 rfl (.cons 24 rfl .nil))))))) rfl (fun _ h => h)
 ·
  have hie : i = pend.length := by omega
  subst hie;refine c6 ?_;refine aV ?_;refine aV ?_;refine bF ?_;refine aD (aG ?_);refine aB ?_;refine aA (aC rfl) rfl ?_;refine aA (aC rfl) rfl ?_;refine aA bL rfl ?_;refine aA (aH (o' := 3) d7 rfl rfl) rfl ?_;refine bZ (bJ ts3 rfl rfl cG bE (.succ (.succ (.succ .zero))) rfl) ?_;rintro _ K _ ⟨rfl, rfl⟩ -;refine aA bL rfl ?_;refine aA (aH (o' := 4) dN rfl rfl) rfl ?_;refine bZ (bJ ts3 rfl rfl cG bE (.succ (.succ (.succ (.succ .zero)))) rfl) ?_;rintro _ K _ ⟨rfl, rfl⟩ -;refine aF (aD ?_);refine aB ?_;refine aA (aC rfl) rfl ?_;refine bG rfl rfl (vS b m1 es c _ _ (-1) (-1) dn _ _ hmi) (.cons .here (.cons .here .nil)) rfl ?_;rintro _ K5 _ ⟨rfl, rfl, rfl⟩ -;refine aF ?_;refine bC (.cons .here .nil) ?_;refine j1 rfl leL ?_;exact ⟨_, rfl, rfl, ⟨g, g, [], -1, -1, false⟩, ⟨hci.done, rfl, rfl, rfl, rfl, rfl⟩, rfl⟩
end Go.Proofs
end
section
namespace Go.Proofs
open Go Go.SL Go.Syn Go.Box Go.Mach
def k9 (K : Hl) (bx b : Nat) : Prop := ∃ T fz, K bx = some (aO [ptr b] T fz)
theorem k9.mono {K K' : Hl} {bx b : Nat} (h : k9 K bx b) (le : K.le K') : k9 K' bx b := let ⟨T, fz, h⟩ := h; ⟨T, fz, le _ _ h⟩
theorem rR (e : Er) (K : Hl) (hE : ErrT K) : Sp Tryz.prog 37 [erV e] K [] (Ret fun v K' L' => v = .tuple #[i64 (errn e), i64 (-1)] ∧ K' = K ∧ L' = []) := by
 cases e with
 | none => exact (vL K).mono fun e K' L' ⟨h1, h2, h3⟩ => ⟨_, h1, rfl, h2, h3⟩
 | some n => exact zX n K hE
theorem sW (v : Value) (xs : List cI) (K : Hl) (hv : Ksl aZ K v xs) (hn : xs.length ≤ 1000000) : Sp Tryz.prog 26 [v] K []
  (Ret fun r K' L' => ∃ bx b, r = ptr bx ∧ k9 K' bx b ∧ L' = [dsk K' b ⟨dY xs (fun _ => none), dY xs (fun _ => none), [], -1, -1, false⟩]) := by
 refine a6 Tryz.func26 rfl Tryz.ntmps26 rfl rfl fun F w => ?_
 refine aG (aB ?_);refine aA (aE rfl) rfl ?_;refine aF (aD ?_);refine aG (aB ?_);refine aA (aC rfl) rfl ?_;refine bG rfl rfl (zH v xs _ hv hn) .nil rfl ?_;rintro _ K1 _ ⟨b, rfl, rfl⟩ le1;refine aA (dJ aAW zV (.cons rfl rfl rfl (.cons .nil) .nil)) rfl ?_;refine ol_s (f5 rfl rfl) rfl ?_;rintro _ K _ ⟨b6, rfl, rfl, rfl⟩ -;refine aA (aE rfl) rfl ?_;refine aF (aD ?_);refine bB ?_;refine tY fun K2 le2 hb => ?_
 refine eN (f7 (jL le2)) ?_;refine aY rfl rfl (Hl.le_trans le1 le2) ?_;exact ⟨_, rfl, _, b, rfl, ⟨_, _, hb⟩, rfl⟩
theorem iE (bx b : Nat) (s : DSt) (ns : List aI) (hdom : iS s.dur ns) (hns : ns.length ≤ 1000000) (K K0 : Hl) (le : K0.le K) (hx : k9 K bx b) : Sp Tryz.prog 29 [ptr bx] K [dsk K0 b s]
  (Ret fun r K' L' => K' = K ∧ ∃ ys, fK s.dur ys ∧ L' = [sl false aZ r ys, dsk K' b s]) := by
 obtain ⟨T, fz, hk⟩ := hx;refine a6 Tryz.func29 rfl Tryz.ntmps29 rfl rfl fun F w => ?_
 refine aG (aB ?_);refine aA (aE rfl) rfl ?_;refine aF (aD ?_);refine aG (aB ?_);refine aA (aC rfl) rfl ?_;refine aA bL rfl ?_;refine aA (aH (o' := 0) cB rfl rfl) rfl ?_;refine aA (aM fQ rfl aP rfl) rfl ?_;refine bG rfl rfl (uI b s ns hdom hns _ _ le) (.cons .here .nil) rfl ?_;rintro _ K _ ⟨rfl, ys, hys, rfl⟩ -;refine aA (aE rfl) rfl ?_;refine aF (aD ?_);refine bB ?_;refine aY rfl rfl (Hl.le_refl _) ?_;exact ⟨_, rfl, rfl, ys, hys, rfl⟩
end Go.Proofs
end
section
namespace Go.SL
section
variable {E : Env} {fr : Fr} {K : Hl} {L L' : List Asn} {dst : Option Tmp} {ty : TypeId} {pos : String} {aft : Array Edge} {g : Option (Nat × Bool)} {x y : Operand} {t : TypeId} {α : Type} {k : El α} {v : Value} {xs : List α}
theorem qO {zf : Bool} {j o : Nat} {x0 y0 : α} {c : Value} (ht : dA E.P t = true) (hx : fr.ev x = some (eS v (j * k.sz + o))) (hy : fr.ev y = some c) (hx0 : xs[j]? = some x0) (ho : o < k.sz) (he : (k.enc x0).set o c = k.enc y0) (h1 : c.oneCell' = true)
  (hF : Fnd (sl zf k v xs) (sl zf k v (xs.set j y0)) L L') : EfS E fr K L ⟨dst, .store t x y, ty, pos, aft, g⟩ (fun _ K' L'' => K' = K ∧ L'' = L') := by
 intro a w f q;have hj : j < xs.length := by
  rcases Nat.lt_or_ge j xs.length with h | h
  ·exact h
  ·simp [List.getElem?_eq_none h] at hx0
 obtain ⟨M, m1, m2⟩ := hF.split;rcases (q.imp m1).slCases with ⟨rfl, rfl, _⟩ | ⟨b, cap, junk, fz, rfl, hz, hcap, hjk, hf, q0⟩
 ·simp at hj
 ·have hx' : fr.ev x = some (ptr b (j * k.sz + o)) := by rw [hx]; simp [eS, cT]
  have hle : j * k.sz + k.sz ≤ xs.length * k.sz := by rw [← Nat.succ_mul]; exact Nat.mul_le_mul_right _ hj
  have hle2 : xs.length * k.sz ≤ cap * k.sz := Nat.mul_le_mul_right _ hcap;obtain ⟨u, w', K', L'', hr, ⟨rfl, rfl⟩, le, q1⟩ := bJ (K := K) (dst := dst) (ty := ty) (pos := pos) (aft := aft) (g := g) (l := k.cs xs ++ junk) (u := k.e) (fz := fz) ht hx' hy h1 (.here (L := M)) (kD (by rw [List.length_append, k.cs_length]; omega)) (hf.at aJ) a w f q0;refine ⟨u, w', _, _, hr, ⟨rfl, rfl⟩, le, q1.imp fun h hh => m2 h ?_⟩
  obtain ⟨aa, l, ha, hl, hd, he'⟩ := hh;refine ⟨aa, l, ?_, hl, hd, he'⟩
  rw [cs_set k ho he hx0] at ha;refine .inr ⟨b, cap, junk, fz, by rw [List.length_set], ?_, by rw [List.length_set]; exact hcap, by rw [List.length_set]; exact hjk, hf, ha⟩
  intro h1 h2;exact hz h1 (by have := congrArg List.length h2; simp at this; exact List.length_eq_zero_iff.1 (by simpa using this))
end
end Go.SL
end
section
namespace Go.Proofs
open Go Go.SL Go.Syn Go.Box Go.Mach
theorem qP (id text : aI) (z : Bool) (v : Value) (acts : List Action) (K : Hl) (hg : Glob K) (hid : id.length ≤ 140737488355328) (ht : text.length ≤ 1048576) (ha : ∀ a ∈ acts, a.2.length ≤ 1048576) (hal : acts.length ≤ 140737488355328) :
  Sp Tryz.prog 78 [str id, v, str text] K [sl z cS v acts] (fun e _ L' => ∃ L'', gP (cA id acts text) e Hl.emp L'' ∧ L' = [sl z cS v acts] ++ L'') :=
 xL (L1 := [sl z cS v acts]) (L := []) (R := fun e L' => gP (cA id acts text) e Hl.emp L') ⟨_, Tryz.func78, rfl, rfl⟩ fun h1 hs hd =>
  (s8 id text v acts (K.join h1) (hg.mono Hl.le_join_l) ((w8 .here hs).mono (Hl.le_join_r hd)) hid ht ha hal).mono fun e K' L' h => h
theorem uR (b : Nat) (id text : aI) (z : Bool) (v : Value) (acts : List Action) (s : DSt) (K K0 : Hl) (le : K0.le K) (hg : Glob K) (hdb : Deb K) (hid : id.length ≤ 140737488355328) (ht : text.length ≤ 1048576) (ha : ∀ a ∈ acts, a.2.length ≤ 1048576) (hal : acts.length ≤ 140737488355328) (hp : s.pend.length ≤ 600000) :
  Sp Tryz.prog 46 [dV b, str id, v, str text] K [dsk K0 b s, sl z cS v acts] (Ret fun r K' L' => r = erV (eT id acts text s).1 ∧ L' = [dsk K' b (eT id acts text s).2, sl z cS v acts]) := by
 have hsf := qP id text z v acts K hg hid ht ha hal;refine a6 Tryz.func46 rfl Tryz.ntmps46 rfl rfl fun F w => ?_
 cases hf : cA id acts text with
 | error e =>
  have he : eT id acts text s = (some e, s) := by unfold eT; rw [hf]
  rw [he];rw [hf] at hsf;have hsf2 := hsf.mono (R' := Ret fun v' K' L' => v' = .tuple #[.slice none 0 0, errV e] ∧ L' = [sl z cS v acts]) (by rintro e' K' L' ⟨L'', ⟨v', rfl, rfl, rfl⟩, rfl⟩; exact ⟨_, rfl, rfl, rfl⟩);refine aG (aB ?_);refine aA (aE rfl) rfl ?_;refine aF (aD ?_);refine aG (aB ?_);refine aA (aC rfl) rfl ?_;refine aA (aC rfl) rfl ?_;refine aA (aC rfl) rfl ?_;refine bG rfl rfl hsf2 (.cons (.there .here) .nil) rfl ?_;rintro _ K1 _ ⟨rfl, rfl⟩ le1;refine aA (aC rfl) rfl ?_;refine aA (aQ rfl rfl) rfl ?_;refine aA (aQ rfl rfl) rfl ?_;refine aA (aE rfl) rfl ?_;refine aA (aE rfl) rfl ?_;refine aF (aD ?_);refine aG (aG ?_);refine aB ?_;refine aA (aC rfl) rfl ?_;refine aA (fA Tryz.underlying79 rfl rfl) rfl ?_;refine aF (aD ?_);refine c7 rfl ?_;refine aG (aB ?_);refine aA (aC rfl) rfl ?_;refine aA (aE rfl) rfl ?_;refine aF (aD ?_);refine bB ?_;refine aS ?_;refine eN (fun _ => dM) ?_;refine eN (f7 (jL (Hl.le_trans le le1))) ?_;refine aY rfl rfl le1 ?_;exact ⟨_, rfl, rfl, rfl⟩
 | ok xs =>
  have he : eT id acts text s = fX xs s := by unfold eT; rw [hf]
  obtain ⟨hl1, hl2, hl3⟩ := lM ht ha hf;rw [he];rw [hf] at hsf;have hsf2 := hsf.mono (R' := Ret fun v' K' L' => ∃ u, v' = .tuple #[u, .nilIface] ∧ L' = [sl z cS v acts, sl false aZ u xs]) (by rintro e' K' L' ⟨L'', ⟨v', rfl, u, rfl, rfl⟩, rfl⟩; exact ⟨_, rfl, _, rfl, rfl⟩);refine aG (aB ?_);refine aA (aE rfl) rfl ?_;refine aF (aD ?_);refine aG (aB ?_);refine aA (aC rfl) rfl ?_;refine aA (aC rfl) rfl ?_;refine aA (aC rfl) rfl ?_;refine bG rfl rfl hsf2 (.cons (.there .here) .nil) rfl ?_;rintro _ K1 _ ⟨u, rfl, rfl⟩ le1;refine aA (aC rfl) rfl ?_;refine aA (aQ rfl rfl) rfl ?_;refine aA (aQ rfl rfl) rfl ?_;refine aA (aE rfl) rfl ?_;refine aA (aE rfl) rfl ?_;refine aF (aD ?_);refine aG (aG ?_);refine aB ?_;refine aA (aC rfl) rfl ?_;refine aA (eF Tryz.underlying79 rfl) rfl ?_;refine aF (aD ?_);refine bO rfl ?_;refine aW ?_;refine aD (aG ?_);refine gN (fun _ => dM) ?_;refine qS fun K2 le2 hu => ?_
  refine aB ?_;refine aA (aC rfl) rfl ?_;refine aA (aC rfl) rfl ?_;refine bG rfl rfl (pY b u xs s _ _ (Hl.le_trans le (Hl.le_trans le1 le2)) hu ((hg.mono le1).mono le2) ((hdb.mono le1).mono le2) aJ aJ hp) (.cons (.there .here) .nil) rfl ?_;rintro _ K3 _ ⟨rfl, rfl⟩ le3;refine aA (aE rfl) rfl ?_;refine aF (aD ?_);refine bB ?_;refine aY rfl rfl (Hl.le_trans le1 (Hl.le_trans le2 le3)) ?_;exact ⟨_, rfl, rfl, rfl⟩
theorem k3 {K : Hl} {b m1 m2 : Nat} {es1 : List Ent} {c1 : Nat} {es2 : List Ent} {c2 : Nat} {pv : Value} {s : DSt} {M : List Asn} {l f : Int} (hm1 : MapOk K es1 c1 s.dur) (hm2 : MapOk K es2 c2 s.now) (hop : ∀ o ∈ s.pend, OpOk o) (hpv : pv.oneCell' = true) :
  ∀ h, Sat ([pt b (dskO (.map (some m1)) (.map (some m2)) pv l f s.down), pt m1 (mapO es1 c1), pt m2 (mapO es2 c2), sl false opEl pv s.pend] ++ M) h → Sat (dsk K b (s.set l f) :: M) h :=
 fZ (s := s.set l f) ⟨m1, m2, es1, c1, es2, c2, pv, hm1, hm2, hop, hpv, rfl⟩
abbrev aAQ : aI := [109, 105, 110, 101]
theorem nK (bx b : Nat) (id text : aI) (v : Value) (acts : List Action) (l f kept part : Int) (s : DSt) (K K0 : Hl) (le : K0.le K) (hx : k9 K bx b) (hg : Glob K) (hdb : Deb K) (hE : ErrT K) (hv : Ksl cS K v acts) (hid : id.length ≤ 140737488355328) (ht : text.length ≤ 1048576) (ha : ∀ a ∈ acts, a.2.length ≤ 1048576) (hal : acts.length ≤ 1048576) (hp : s.pend.length ≤ 600000)
  (hk1 : -9223372036854775808 ≤ part) (hk2 : part ≤ 9223372036854775807) (hcr : (eT id acts text (s.set l f)).2.down = true → (eT id acts text (s.set l f)).2.pend.length ≤ 1000000 ∧ ∀ o ∈ (eT id acts text (s.set l f)).2.pend, o.data.length ≤ 140737488355328) :
  Sp Tryz.prog 27 [ptr bx, str id, v, str text, i64 l, i64 f, i64 kept, i64 part] K [dsk K0 b s] (Ret fun r K' L' => r = i64 (errn (eT id acts text (s.set l f)).1) ∧ ∃ t, jF (eT id acts text (s.set l f)).2 t ∧ L' = [dsk K' b t]) := by
 obtain ⟨T, fz, hk⟩ := hx
 generalize hmd : eT id acts text (s.set l f) = md at hcr ⊢
 refine a6 Tryz.func27 rfl Tryz.ntmps27 rfl rfl fun F w => ?_
 refine aG (aB ?_);refine aA (aE rfl) rfl ?_;refine aF (aD ?_);refine aG ?_;refine pG fun L2 hd2 => ?_
 obtain ⟨m1, m2, es1, c1, es2, c2, pv, hm1, hm2, hop, hpv, rfl⟩ := hd2;refine bY (anc := [0, 1, 3, 7, 0, 16, 48, 112, 0, 0, 511, 1535, 3583, 8191, 16383, 32767]) (ord := [0, 1, 2, 3, 4, 5, 6, 7, 8, 9, 10, 11, 12, 13, 14, 15]) [12, 15] [15] mixed (by decide +kernel) .nil ?_;refine aK rfl rfl (.none rfl) rfl rfl (aC rfl) rfl ?_;refine aK rfl rfl (.none rfl) rfl rfl bL rfl ?_;refine aK rfl rfl (.none rfl) rfl rfl (aH (o' := 0) cB rfl rfl) rfl ?_;refine aK rfl rfl (.none rfl) rfl rfl (aM fQ rfl aP rfl) rfl ?_;refine aK rfl rfl (.none rfl) rfl rfl (aC rfl) rfl ?_;refine aK rfl rfl (.none rfl) rfl rfl bL rfl ?_;refine aK rfl rfl (.none rfl) rfl rfl (aH (o' := 0) cB rfl rfl) rfl ?_;refine aK rfl rfl (.none rfl) rfl rfl (aM fQ rfl aP rfl) rfl ?_;refine aK rfl rfl (.none rfl) rfl rfl (aC rfl) rfl ?_;refine aK rfl rfl (.none rfl) rfl rfl (aC rfl) rfl ?_;refine aK rfl rfl (.none rfl) rfl rfl bL rfl ?_;refine aK rfl rfl (.none rfl) rfl rfl (aH (o' := 3) d7 rfl rfl) rfl ?_;refine t6 rfl rfl (.none rfl) rfl rfl (bJ ts3 rfl rfl cG bE (.succ (.succ (.succ .zero))) rfl) ?_;rintro _ K _ ⟨rfl, rfl⟩ -;refine ⟨_, (show Tks _ _ _ from .nil).sat, ?_⟩
 refine aK rfl rfl (.none rfl) rfl rfl bL rfl ?_;refine aK rfl rfl (.none rfl) rfl rfl (aH (o' := 4) dN rfl rfl) rfl ?_;refine fY rfl rfl (.none rfl) rfl (bJ ts3 rfl rfl cG bE (.succ (.succ (.succ (.succ .zero)))) rfl) ?_;rintro _ K _ ⟨rfl, rfl⟩ -;refine bW ?_;refine aD (aG ?_);refine gN (k3 (s := s) (M := []) (l := l) (f := f) hm1 hm2 hop hpv) ?_;refine aB ?_;refine aA (aC rfl) rfl ?_;refine zM (eH cS) ?_;refine ol_s (fF (k := cS) (ys := acts) oA rfl rfl .here (fun w j => eY Tryz.underlying29 (SeesSl.at (k := cS) (.known hv) j)) (by show (0 + acts.length) * 24 ≤ 140737488355328; omega) (by show 0 + acts.length ≤ 9223372036854775807; omega)) rfl ?_;rintro v37 K _ ⟨rfl, rfl, ho37⟩ -;refine aA (aE rfl) rfl ?_;refine aF (aD ?_);refine aG (aB ?_);refine aA (aC rfl) rfl ?_;refine aA bL rfl ?_;refine aA (aH (o' := 0) cB rfl rfl) rfl ?_;refine aA (aM fQ rfl aP rfl) rfl ?_;refine aA (bN Tryz.underlying103 (fun _ h => by cases h) rfl) rfl ?_;refine aA (aC rfl) rfl ?_;refine aA (aC rfl) rfl ?_;refine aA (aC rfl) rfl ?_;refine bG rfl rfl (uR b id text false v37 acts (s.set l f) _ _ le hg hdb hid ht ha aJ hp) (.cons (.there .here) (.cons .here .nil)) rfl ?_;rintro _ K1 _ ⟨rfl, rfl⟩ le1;rw [hmd];refine aA (aE rfl) rfl ?_;refine aF (aD ?_);refine aG (aG ?_);refine aB ?_;refine aA (aC rfl) rfl ?_;refine aA (bK (k := cS) (xs := acts) rfl Tryz.underlying29 rfl aP) rfl ?_;refine aA (aC rfl) rfl ?_;refine aF (aD ?_);refine a8 ?_;refine rN (fun (i : Nat) (ys : List Action) => i ≤ acts.length ∧ ys.length = acts.length) (fun i _ => [(0, ptr bx), (6, i64 kept), (7, i64 part), (17, v37), (18, erV md.1), (48, i64 acts.length), (49, i64 i)]) (fun _ _ => K1) (fun _ ys => [dsk K1 b md.2, sl false cS v37 ys]) (fun i _ => acts.length - i) 0 acts ⟨Nat.zero_le _, rfl⟩ (.cons 0 rfl (.cons 6 rfl (.cons 7 rfl (.cons 17 rfl (.cons 18 rfl (.cons 48 rfl (.cons 49 rfl .nil))))))) rfl (fun _ h => h) ?_;intro i ys ⟨hi, hyl⟩;refine aG (aB ?_);refine aA (dK rfl rfl) rfl ?_;refine aF (aD ?_);refine aG ?_;refine bM 50 rfl (fun h50 => ?_) (fun h50 => ?_)
 ·
  have hlt : i < ys.length := by omega
  obtain ⟨a0, ha0⟩ : ∃ a, ys[i]? = some a := ⟨ys[i]'hlt, List.getElem?_eq_getElem hlt⟩;refine aW ?_;refine aD (aG ?_);refine a8 (aG ?_);refine aB ?_;refine aA (aC rfl) rfl ?_;refine aA (aE rfl) rfl ?_;refine aF (aD ?_);refine aB ?_;refine aA (aC rfl) rfl ?_;refine aA (aC rfl) rfl ?_;refine aA (bI (k := cS) kH rfl aP rfl rfl (by first | assumption | omega)) rfl ?_;refine aA (kX (k := cS) hJ rfl aP (by first | assumption | omega)) rfl ?_;refine bZ (qO (k := cS) (y0 := (a0.1, aAQ)) ts9 rfl rfl ha0 (by show 1 < 2; omega) rfl rfl bE) ?_;rintro _ K _ ⟨rfl, rfl⟩ -;refine aF (aX ?_);refine aD (aB ?_);refine aA (dG rfl rfl aJ aJ) rfl ?_;refine aA (aC rfl) rfl ?_;refine aF ?_;exact oO (i + 1) _ ⟨by omega, by rw [List.length_set]; exact hyl⟩ aJ (.cons 0 rfl (.cons 6 rfl (.cons 7 rfl (.cons 17 rfl (.cons 18 rfl (.cons 48 rfl (.cons 49 rfl .nil))))))) rfl (fun _ h => h)
 ·
  refine c6 ?_;refine aV ?_;refine aV ?_;refine bF ?_;refine aD (aG ?_);refine aB ?_;refine aA (aC rfl) rfl ?_;refine bG rfl rfl (rR md.1 _ (hE.mono le1)) .nil rfl ?_;rintro _ K1 _ ⟨rfl, rfl, rfl⟩ -;refine aA (aC rfl) rfl ?_;refine aA (aQ rfl rfl) rfl ?_;refine aA (aQ rfl rfl) rfl ?_;refine aA (aE rfl) rfl ?_;refine aA (aE rfl) rfl ?_;refine aF (aD ?_);refine rO (fun (t : DSt) (K4 : Hl) => K1.le K4 ∧ jF md.2 (t.set (-1) (-1))) (fun _ _ => [(0, ptr bx), (20, i64 (errn md.1))]) (fun _ K4 => K4) (fun t K4 => [dsk K4 b t]) ?_ ?_
  ·
   refine aG (aB ?_);refine zK fun L2 hd2 => ?_
   have hd3 := hd2;obtain ⟨n1, n2, fs1, d1, fs2, d2, qv, hn1, hn2, hoq, hqv, rfl⟩ := hd2;have hk3 := le1 _ _ hk;refine aA (aC rfl) rfl ?_;refine aA bL rfl ?_;refine aA (aH (o' := 0) cB rfl rfl) rfl ?_;refine aA (aM fQ rfl aP rfl) rfl ?_;refine aA bL rfl ?_;refine aA (aH (o' := 5) dF rfl rfl) rfl ?_;refine aA (aM ts4 rfl aP rfl) rfl ?_;refine aF (aD ?_);refine pH 68 rfl (fun h68 => ?_) (fun h68 => ?_)
   ·
    refine gN (fZ hd3) ?_;refine aB ?_;refine aA (aC rfl) rfl ?_;refine aA bL rfl ?_;refine aA (aH (o' := 0) cB rfl rfl) rfl ?_;refine aA (aM fQ rfl aP rfl) rfl ?_;refine aA (aC rfl) rfl ?_;refine aA (aC rfl) rfl ?_;refine bG rfl rfl (tW b md.2 kept part (hcr h68).1 (hcr h68).2 hk1 hk2 _ _ (Hl.le_refl _)) (.cons .here .nil) rfl ?_;rintro _ K4 _ ⟨rfl, t, hct, rfl⟩ le4;refine aF ?_;refine bC (.cons .here .nil) ?_
    first | exact dQ t K4 ⟨le4, by unfold jF; rw [if_pos h68]; exact ⟨t, hct, rfl⟩⟩ (.cons 0 rfl (.cons 20 rfl .nil)) rfl (fun _ h => h) | exact dQ md.2 K1 ⟨Hl.le_refl _, by unfold jF; rw [if_neg (by rw [h68]; simp)]⟩ (.cons 0 rfl (.cons 20 rfl .nil)) rfl (fun _ h => h)
   ·
    refine gN (fZ hd3) ?_;refine aW ?_;refine bC (.cons .here .nil) ?_
    first | exact dQ t K4 ⟨le4, by unfold jF; rw [if_pos h68]; exact ⟨t, hct, rfl⟩⟩ (.cons 0 rfl (.cons 20 rfl .nil)) rfl (fun _ h => h) | exact dQ md.2 K1 ⟨Hl.le_refl _, by unfold jF; rw [if_neg (by rw [h68]; simp)]⟩ (.cons 0 rfl (.cons 20 rfl .nil)) rfl (fun _ h => h)
  ·
   intro t K4 ⟨le4, hend⟩;refine aG ?_;have hk4 := le4 _ _ (le1 _ _ hk);refine pG fun L2 hd2 => ?_
   obtain ⟨m1, m2, es1, c1, es2, c2, pv, hm1, hm2, hop, hpv, rfl⟩ := hd2;refine bY (anc := [0, 1, 3, 7, 0, 16, 48, 112, 255, 511, 1023, 2047, 4095, 8191]) (ord := [0, 1, 2, 3, 4, 5, 6, 7, 8, 9, 10, 11, 12, 13]) [10, 13] [10, 13] mixed (by decide +kernel) .nil ?_;refine aK rfl rfl (.none rfl) rfl rfl (aC rfl) rfl ?_;refine aK rfl rfl (.none rfl) rfl rfl bL rfl ?_;refine aK rfl rfl (.none rfl) rfl rfl (aH (o' := 0) cB rfl rfl) rfl ?_;refine aK rfl rfl (.none rfl) rfl rfl (aM fQ rfl aP rfl) rfl ?_;refine aK rfl rfl (.none rfl) rfl rfl (aC rfl) rfl ?_;refine aK rfl rfl (.none rfl) rfl rfl bL rfl ?_;refine aK rfl rfl (.none rfl) rfl rfl (aH (o' := 0) cB rfl rfl) rfl ?_;refine aK rfl rfl (.none rfl) rfl rfl (aM fQ rfl aP rfl) rfl ?_;refine aK rfl rfl (.none rfl) rfl rfl bL rfl ?_;refine aK rfl rfl (.none rfl) rfl rfl (aH (o' := 3) d7 rfl rfl) rfl ?_;refine fY rfl rfl (.none rfl) rfl (bJ ts3 rfl rfl cG bE (.succ (.succ (.succ .zero))) rfl) ?_;rintro _ K _ ⟨rfl, rfl⟩ -;refine aK rfl rfl (.none rfl) rfl rfl bL rfl ?_;refine aK rfl rfl (.none rfl) rfl rfl (aH (o' := 4) dN rfl rfl) rfl ?_;refine fY rfl rfl (.none rfl) rfl (bJ ts3 rfl rfl cG bE (.succ (.succ (.succ (.succ .zero)))) rfl) ?_;rintro _ K _ ⟨rfl, rfl⟩ -;refine bW ?_;refine aD (aG ?_);refine gN (k3 (s := t) (M := []) (l := -1) (f := -1) hm1 hm2 hop hpv) ?_;refine aB ?_;refine aA (aC rfl) rfl ?_;refine aA (aE rfl) rfl ?_;refine aF (aD ?_);refine bB ?_;refine aY rfl rfl (Hl.le_trans le1 le4) ?_;exact ⟨_, rfl, rfl, _, hend, rfl⟩
end Go.Proofs
end
section
namespace Go.Proofs
open Go Go.SL Go.Syn Go.Box Go.Mach
theorem qL {n : aI} {s : DSt} (hd : s.down = false) (hn : s.now n = none) : kU n s = ([], some 14) := by unfold kU; rw [if_neg (by rw [hd]; simp), hn]
theorem vE (b : Nat) (s s' : DSt) (hs : cL s = (none, s')) (hd : s'.down = false) (hj : s'.now bD = none) (K K0 : Hl) (le : K0.le K) (hp : s.pend.length ≤ 600000) :
  Sp Tryz.prog 82 [dV b] K [dsk K0 b s] (Ret fun r K' L' => r = .nilIface ∧ L' = [dsk K' b s']) := by
 have hy := rM b s aJ;rw [hs] at hy;have hr := xE b s' bD;rw [qL hd hj] at hr;refine a6 Tryz.func82 rfl Tryz.ntmps82 rfl rfl fun F w => ?_
 refine aG (aB ?_);refine ol_s (f5 rfl rfl) rfl ?_;rintro _ K _ ⟨b1, rfl, rfl, rfl⟩ -;refine aA (aE rfl) rfl ?_;refine aF (aD ?_);refine aG (aG ?_);refine aB ?_;refine aA (aM iU rfl aP rfl) rfl ?_;refine gE rfl rfl (yF b) (hy _ _ le) (.cons (.there .here) .nil) rfl ?_;rintro _ K1 _ ⟨rfl, rfl⟩ le1;refine aA (aE rfl) rfl ?_;refine aF (aD ?_);refine aG (aB ?_);refine aA (aC rfl) rfl ?_;refine aA (eF Tryz.underlying79 rfl) rfl ?_;refine aF (aD ?_);refine bO rfl ?_;refine aW ?_;refine aD (aG ?_);refine aB ?_;refine aA (aM iU rfl aP rfl) rfl ?_;refine gE rfl rfl (aAP b) (hr _ _ (Hl.le_refl _)) (.cons .here .nil) rfl ?_;rintro _ K2 _ ⟨u, rfl, rfl⟩ le2;refine aA (aC rfl) rfl ?_;refine aA (aQ rfl rfl) rfl ?_;refine aA (aQ rfl rfl) rfl ?_;refine aA (aE rfl) rfl ?_;refine aA (aE rfl) rfl ?_;refine aF (aD ?_);refine aG (a8 ?_);refine aG (aB ?_);refine aA (aC rfl) rfl ?_;refine aA (bN Tryz.underlying30 (fun _ h => by cases h) rfl) rfl ?_;refine aA (ev_T (p6 rfl rfl (fun _ => xY _ _) (fun w => xZ (some 14) 14 w)) rfl) rfl ?_;refine aA (aE rfl) rfl ?_;refine aF (aD ?_);refine c7 rfl ?_;refine aG (aB ?_);refine aA (aE rfl) rfl ?_;refine aF (aD ?_);refine bB ?_;refine a7 ?_;refine aS ?_;refine bC (.cons (.there .here) .nil) ?_;refine aY rfl rfl (Hl.le_trans le1 le2) ?_;exact ⟨_, rfl, rfl, rfl⟩
theorem uT (b : Nat) (s s' : DSt) (hs : cL s = (none, s')) (hd : s'.down = false) (hj : s'.now bD = none) (K K0 : Hl) (le : K0.le K) (hp : s.pend.length ≤ 600000) :
  Sp Tryz.prog 48 [dV b] K [dsk K0 b s] (Ret fun r K' L' => r = .nilIface ∧ L' = [dsk K' b s']) := by
 refine a6 Tryz.func48 rfl Tryz.ntmps48 rfl rfl fun F w => ?_
 refine aG (aB ?_);refine aA (aE rfl) rfl ?_;refine aF (aD ?_);refine aG (aB ?_);refine aA (aC rfl) rfl ?_;refine bG rfl rfl (vE b s s' hs hd hj _ _ le hp) (.cons .here .nil) rfl ?_;rintro _ K1 _ ⟨rfl, rfl⟩ le1;refine aA (aE rfl) rfl ?_;refine aF (aD ?_);refine bB ?_;refine aY rfl rfl le1 ?_;exact ⟨_, rfl, rfl, rfl⟩
theorem tT (bx b : Nat) (l f kept part : Int) (s s' : DSt) (hs : cL (s.set l f) = (none, s')) (hd : s'.down = false) (hj : s'.now bD = none) (K K0 : Hl) (le : K0.le K) (hx : k9 K bx b) (hE : ErrT K) (hp : s.pend.length ≤ 600000) :
  Sp Tryz.prog 28 [ptr bx, i64 l, i64 f, i64 kept, i64 part] K [dsk K0 b s] (Ret fun r K' L' => r = i64 0 ∧ L' = [dsk K' b (s'.set (-1) (-1))]) := by
 obtain ⟨T, fz, hk⟩ := hx;refine a6 Tryz.func28 rfl Tryz.ntmps28 rfl rfl fun F w => ?_
 refine aG (aB ?_);refine aA (aE rfl) rfl ?_;refine aF (aD ?_);refine aG ?_;refine pG fun L2 hd2 => ?_
 obtain ⟨m1, m2, es1, c1, es2, c2, pv, hm1, hm2, hop, hpv, rfl⟩ := hd2;refine bY (anc := [0, 1, 3, 7, 0, 16, 48, 112, 0, 0, 511, 1535, 3583, 8191, 16383, 32767]) (ord := [0, 1, 2, 3, 4, 5, 6, 7, 8, 9, 10, 11, 12, 13, 14, 15]) [12, 15] [15] mixed (by decide +kernel) .nil ?_;refine aK rfl rfl (.none rfl) rfl rfl (aC rfl) rfl ?_;refine aK rfl rfl (.none rfl) rfl rfl bL rfl ?_;refine aK rfl rfl (.none rfl) rfl rfl (aH (o' := 0) cB rfl rfl) rfl ?_;refine aK rfl rfl (.none rfl) rfl rfl (aM fQ rfl aP rfl) rfl ?_;refine aK rfl rfl (.none rfl) rfl rfl (aC rfl) rfl ?_;refine aK rfl rfl (.none rfl) rfl rfl bL rfl ?_;refine aK rfl rfl (.none rfl) rfl rfl (aH (o' := 0) cB rfl rfl) rfl ?_;refine aK rfl rfl (.none rfl) rfl rfl (aM fQ rfl aP rfl) rfl ?_;refine aK rfl rfl (.none rfl) rfl rfl (aC rfl) rfl ?_;refine aK rfl rfl (.none rfl) rfl rfl (aC rfl) rfl ?_;refine aK rfl rfl (.none rfl) rfl rfl bL rfl ?_;refine aK rfl rfl (.none rfl) rfl rfl (aH (o' := 3) d7 rfl rfl) rfl ?_;refine t6 rfl rfl (.none rfl) rfl rfl (bJ ts3 rfl rfl cG bE (.succ (.succ (.succ .zero))) rfl) ?_;rintro _ K _ ⟨rfl, rfl⟩ -;refine ⟨_, (show Tks _ _ _ from .nil).sat, ?_⟩
 refine aK rfl rfl (.none rfl) rfl rfl bL rfl ?_;refine aK rfl rfl (.none rfl) rfl rfl (aH (o' := 4) dN rfl rfl) rfl ?_;refine fY rfl rfl (.none rfl) rfl (bJ ts3 rfl rfl cG bE (.succ (.succ (.succ (.succ .zero)))) rfl) ?_;rintro _ K _ ⟨rfl, rfl⟩ -;refine bW ?_;refine aD (aG ?_);refine gN (k3 (s := s) (M := []) (l := l) (f := f) hm1 hm2 hop hpv) ?_;refine aB ?_;refine aA (aC rfl) rfl ?_;refine aA bL rfl ?_;refine aA (aH (o' := 0) cB rfl rfl) rfl ?_;refine aA (aM fQ rfl aP rfl) rfl ?_;refine aA (bN Tryz.underlying103 (fun _ h => by cases h) rfl) rfl ?_;refine bG rfl rfl (uT b (s.set l f) s' hs hd hj _ _ le hp) (.cons .here .nil) rfl ?_;rintro _ K1 _ ⟨rfl, rfl⟩ le1;refine aA (aE rfl) rfl ?_;refine aF (aD ?_);refine aG (aB ?_);refine aA (aC rfl) rfl ?_;refine bG rfl rfl (rR none _ (hE.mono le1)) .nil rfl ?_;rintro _ K1 _ ⟨rfl, rfl, rfl⟩ -;refine aA (aC rfl) rfl ?_;refine aA (aQ rfl rfl) rfl ?_;refine aA (aQ rfl rfl) rfl ?_;refine aA (aE rfl) rfl ?_;refine aA (aE rfl) rfl ?_;refine aF (aD ?_);refine aG (aG ?_);have hk3 := le1 _ _ hk;refine pG fun L2 hd2 => ?_
 obtain ⟨n1, n2, fs1, d1, fs2, d2, qv, hn1, hn2, hoq, hqv, rfl⟩ := hd2;refine aB ?_;refine aA (aC rfl) rfl ?_;refine aA bL rfl ?_;refine aA (aH (o' := 0) cB rfl rfl) rfl ?_;refine aA (aM fQ rfl aP rfl) rfl ?_;refine aA bL rfl ?_;refine aA (aH (o' := 5) dF rfl rfl) rfl ?_;refine aA (dO (v := .bool false) (aM ts4 rfl (.own .here) rfl) (by rw [hd])) rfl ?_;refine aF (aD ?_);refine bO rfl ?_;refine aW ?_;refine aD (aG ?_);refine bY (anc := [0, 1, 3, 7, 0, 16, 48, 112, 255, 511, 1023, 2047, 4095, 8191]) (ord := [0, 1, 2, 3, 4, 5, 6, 7, 8, 9, 10, 11, 12, 13]) [10, 13] [10, 13] mixed (by decide +kernel) .nil ?_;refine aK rfl rfl (.none rfl) rfl rfl (aC rfl) rfl ?_;refine aK rfl rfl (.none rfl) rfl rfl bL rfl ?_;refine aK rfl rfl (.none rfl) rfl rfl (aH (o' := 0) cB rfl rfl) rfl ?_;refine aK rfl rfl (.none rfl) rfl rfl (aM fQ rfl aP rfl) rfl ?_;refine aK rfl rfl (.none rfl) rfl rfl (aC rfl) rfl ?_;refine aK rfl rfl (.none rfl) rfl rfl bL rfl ?_;refine aK rfl rfl (.none rfl) rfl rfl (aH (o' := 0) cB rfl rfl) rfl ?_;refine aK rfl rfl (.none rfl) rfl rfl (aM fQ rfl aP rfl) rfl ?_;refine aK rfl rfl (.none rfl) rfl rfl bL rfl ?_;refine aK rfl rfl (.none rfl) rfl rfl (aH (o' := 3) d7 rfl rfl) rfl ?_;refine fY rfl rfl (.none rfl) rfl (bJ ts3 rfl rfl cG bE (.succ (.succ (.succ .zero))) rfl) ?_;rintro _ K _ ⟨rfl, rfl⟩ -;refine aK rfl rfl (.none rfl) rfl rfl bL rfl ?_;refine aK rfl rfl (.none rfl) rfl rfl (aH (o' := 4) dN rfl rfl) rfl ?_;refine fY rfl rfl (.none rfl) rfl (bJ ts3 rfl rfl cG bE (.succ (.succ (.succ (.succ .zero)))) rfl) ?_;rintro _ K _ ⟨rfl, rfl⟩ -;refine bW ?_;refine aD (aG ?_);refine gN (k3 (s := s') (M := []) (l := -1) (f := -1) hn1 hn2 hoq hqv) ?_;refine aB ?_;refine aA (aC rfl) rfl ?_;refine aA (aE rfl) rfl ?_;refine aF (aD ?_);refine bB ?_;refine aY rfl rfl le1 ?_;exact ⟨_, rfl, rfl, rfl⟩
end Go.Proofs
end
section
namespace Go.Box
open Go.Syn Go.Proofs Go.SL
structure Up (k : Nat) (s : DSt) : Prop where
 down : s.down = false
 l1 : s.left < 0
 l2 : -1 - (k : Int) ≤ s.left
 f1 : s.full < 0
 f2 : -1 - (k : Int) ≤ s.full
def DSt.dec (s : DSt) : DSt := { s with left := s.left - 1, full := s.full - 1 }
theorem Up.more {k j : Nat} {s : DSt} (h : Up k s) (hj : k ≤ j) : Up j s := ⟨h.down, h.l1, by have := h.l2; omega, h.f1, by have := h.f2; omega⟩
theorem Up.dec {k : Nat} {s : DSt} (h : Up k s) : Up (k + 1) s.dec := ⟨h.down, by have := h.l1; simp only [DSt.dec]; omega, by have := h.l2; simp only [DSt.dec]; omega, by have := h.f1; simp only [DSt.dec]; omega, by have := h.f2; simp only [DSt.dec]; omega⟩
theorem Up.told {k : Nat} {s : DSt} (h : Up k s) (o : OpR) : Up k (s.told o) := ⟨h.down, h.l1, h.l2, h.f1, h.f2⟩
theorem Up.flush {k : Nat} {s : DSt} (h : Up k s) : Up k s.flush := ⟨h.down, h.l1, h.l2, h.f1, h.f2⟩
theorem kL {k : Nat} {s : DSt} (h : Up k s) (hk : k ≤ 1000000) : bT s.left s.full s.down = (none, s.left - 1, s.full - 1, false) := by
 have := h.l1; have := h.l2; have := h.f1; have := h.f2
 unfold bT;rw [if_neg (by rw [h.down]; simp; omega), if_neg aJ, hZ aJ aJ, hZ aJ aJ]
theorem pX {k : Nat} {s : DSt} (h : Up k s) : ({ s with left := s.left - 1, full := s.full - 1, down := false } : DSt) = s.dec := by
 have := h.down; cases s; simp_all [DSt.dec]
theorem pP {k : Nat} {s : DSt} (h : Up k s) (hk : k ≤ 1000000) (n d : aI) : cO n d s = (none, s.dec.told ⟨1, n, [], d⟩) := by
 have ht : cU ⟨1, n, [], d⟩ s = (none, s.dec.told ⟨1, n, [], d⟩) := by
  rw [jW (kL h hk) (by simp), pX h]
 unfold cO; rw [ht]; rfl
theorem s6 {k : Nat} {s : DSt} (h : Up k s) (hk : k ≤ 1000000) {n d : aI} (hn : s.now n = some d) : dC n s = (none, s.dec.told ⟨3, n, [], []⟩) := by
 unfold dC; rw [jW (kL h hk) (by simp [hn]), pX h]
theorem k8 {k : Nat} {s : DSt} (h : Up k s) (hk : k ≤ 1000000) : cL s = (none, s.dec.flush) := by
 unfold cL DSt.we DSt.ws;rw [kL h hk, pX h]; rfl
def Coh (s : DSt) : Prop := s.now = s.pend.foldl doF s.dur
theorem Coh.dec {s : DSt} (h : Coh s) : Coh s.dec := h
theorem Coh.told {s : DSt} (h : Coh s) (o : OpR) : Coh (s.told o) := by
 unfold Coh DSt.told; simp only [List.foldl_append, List.foldl_cons, List.foldl_nil]; rw [← show s.now = _ from h]
theorem Coh.flush {s : DSt} (h : Coh s) : Coh s.flush ∧ s.flush.dur = s.now ∧ s.flush.now = s.now := ⟨h, h.symm, rfl⟩
theorem qZ {xs : List File} : ∀ {k : Nat} {s : DSt} (t : List (DSt → Er × DSt)), Up k s → Coh s → k + xs.length ≤ 1000000 → ∃ s', cZ (cW xs ++ t) s = cZ t s' ∧ Up (k + xs.length) s' ∧ Coh s' ∧ s'.now = dY xs s.now := by
 induction xs with
 | nil => intro k s t h hc _; exact ⟨s, rfl, h, hc, rfl⟩
 | cons x r ih =>
  intro k s t h hc hk;simp only [List.length_cons] at hk;have hw := pP h aJ x.1 x.2;obtain ⟨s', h1, h2, h3, h4⟩ := ih (k := k + 1) (s := s.dec.told ⟨1, x.1, [], x.2⟩) t (h.dec.told _) (hc.dec.told _) aJ;refine ⟨s', ?_, ?_, h3, ?_⟩
  ·show cZ (cO x.1 x.2 :: (cW r ++ t)) s = _
   simp only [cZ, hw]; exact h1
  ·have e : k + (x :: r).length = k + 1 + r.length := by simp only [List.length_cons]; omega
   rw [e]; exact h2
  ·rw [h4]; rfl
theorem m4 {xs : List File} {n : aI} : ∀ {f : DMap}, (f n).isSome = true → (dY xs f n).isSome = true := by
 induction xs with
 | nil => intro f h; exact h
 | cons x r ih => intro f h; exact ih (f := f.put x.1 x.2) (by unfold DMap.put; split <;> first | rfl | exact h)
def after (xs : List File) (f : DMap) : DMap := (dY xs (f.put bD (gM xs))).cut bD
theorem pZ {xs : List File} {k : Nat} {s : DSt} (h : Up k s) (hc : Coh s) (hk : k + xs.length ≤ 900000) :
  ∃ s', fX xs s = (none, s') ∧ Up (k + xs.length + 5) s' ∧ s'.pend = [] ∧ s'.dur = after xs s.now ∧ s'.now = after xs s.now := by
 have hw := pP h aJ bD (gM xs);have u1 := h.dec.told ⟨1, bD, [], gM xs⟩;have c1 := hc.dec.told ⟨1, bD, [], gM xs⟩;have hs := k8 u1 aJ;have u2 := u1.dec.flush;have c2 := c1.dec.flush;obtain ⟨s', h1, h2, h3, h4⟩ := qZ (xs := xs) [cL, dC bD, cL] u2 c2.1 aJ;have hs2 := k8 h2 aJ;have u3 := h2.dec.flush;have c3 := h3.dec.flush;obtain ⟨d, hd⟩ : ∃ d, (s'.dec.flush).now bD = some d := by
  have : (dY xs (s.now.put bD (gM xs)) bD).isSome = true := m4 (by unfold DMap.put; rw [if_pos rfl]; rfl);have e : (s'.dec.flush).now = dY xs (s.now.put bD (gM xs)) := h4;rw [← e] at this;exact Option.isSome_iff_exists.1 this
 have hr := s6 u3 aJ hd;have u4 := u3.dec.told ⟨3, bD, [], []⟩;have c4 := c3.1.dec.told ⟨3, bD, [], []⟩;have hs3 := k8 u4 aJ;have u5 := u4.dec.flush;have c5 := c4.dec.flush;refine ⟨_, ?_, u5.more aJ, rfl, ?_, ?_⟩
 ·unfold fX;simp only [cZ, hw, hs];unfold eE;rw [h1];simp only [cZ, hs2, hr, hs3]
  rfl
 ·rw [c5.2.1]
  show doF (s'.now) ⟨3, bD, [], []⟩ = _
  rw [h4]; rfl
 ·rw [c5.2.2]
  show doF (s'.now) ⟨3, bD, [], []⟩ = _
  rw [h4]; rfl
structure Rest (s : DSt) : Prop where
 down : s.down = false
 pend : s.pend = []
 now : s.now = s.dur
 left : s.left = -1
 full : s.full = -1
theorem Rest.up {s : DSt} (h : Rest s) : Up 0 s := ⟨h.down, by rw [h.left]; omega, by rw [h.left]; omega, by rw [h.full]; omega, by rw [h.full]; omega⟩
theorem Rest.set {s : DSt} (h : Rest s) : s.set (-1) (-1) = s := by have := h.left; have := h.full; cases s; simp_all [DSt.set]
theorem Rest.coh {s : DSt} (h : Rest s) : Coh s := by unfold Coh; rw [h.pend, h.now]; rfl
def boxF (id : aI) (acts : List Mach.Action) (text : aI) (f : DMap) : Int × DMap := match cA id acts text with
 | .error e => (e, f)
 | .ok xs => (0, after xs f)
theorem lA {id : aI} {acts : List Mach.Action} {text : aI} {s : DSt} (h : Rest s) (hl : ∀ xs, cA id acts text = .ok xs → xs.length ≤ 100) :
  errn (eT id acts text (s.set (-1) (-1))).1 = (boxF id acts text s.dur).1 ∧ (eT id acts text (s.set (-1) (-1))).2.down = false ∧ ∀ t, jF (eT id acts text (s.set (-1) (-1))).2 t → Rest t ∧ t.dur = (boxF id acts text s.dur).2 := by
 rw [h.set];unfold eT boxF;cases hf : cA id acts text with
 | error e =>
  refine ⟨rfl, h.down, fun t ht => ?_⟩
  unfold jF at ht;rw [if_neg (by simp [h.down]), h.set] at ht;subst ht; exact ⟨h, rfl⟩
 | ok xs =>
  have := hl xs hf;obtain ⟨s', h1, h2, h3, h4, h5⟩ := pZ (xs := xs) h.up h.coh aJ;simp only [h1];refine ⟨rfl, h2.down, fun t ht => ?_⟩
  unfold jF at ht;rw [if_neg (by simp [h2.down])] at ht;subst ht;rw [h.now] at h4 h5;exact ⟨⟨h2.down, h3, by simp only [DSt.set]; rw [h4, h5], rfl, rfl⟩, h4⟩
theorem nA : ∀ {xs ys : List cI}, (xs.Pairwise fun a b => a.1 < b.1) → (ys.Pairwise fun a b => a.1 < b.1) → (∀ x, x ∈ xs ↔ x ∈ ys) → xs = ys
 | [], [], _, _, _ => rfl
 | [], y :: ys, _, _, h => absurd ((h y).2 List.mem_cons_self) (by simp)
 | x :: xs, [], _, _, h => absurd ((h x).1 List.mem_cons_self) (by simp)
 | x :: xs, y :: ys, hx, hy, h => by
  have hx' := List.pairwise_cons.1 hx;have hy' := List.pairwise_cons.1 hy;have e : x = y := by
   rcases List.mem_cons.1 ((h x).1 List.mem_cons_self) with e | h1
   ·exact e
   ·rcases List.mem_cons.1 ((h y).2 List.mem_cons_self) with e | h2
    ·exact e.symm
    ·exact absurd (List.lt_trans (hx'.1 y h2) (hy'.1 x h1)) (List.lt_irrefl _)
  subst e;have e2 : xs = ys := nA hx'.2 hy'.2 fun z => by
   have hz := h z;simp only [List.mem_cons] at hz
   constructor
   ·intro hm;rcases hz.1 (.inr hm) with rfl | h1
    ·exact absurd (hx'.1 _ hm) (List.lt_irrefl _)
    ·exact h1
   ·intro hm;rcases hz.2 (.inr hm) with rfl | h1
    ·exact absurd (hy'.1 _ hm) (List.lt_irrefl _)
    ·exact h1
  rw [e2]
theorem i8 {f : DMap} {xs ys : List cI} (hx : fK f xs) (hy : fK f ys) : xs = ys := nA hx.2 hy.2 fun ⟨n, d⟩ => (hx.1 n d).trans (hy.1 n d).symm
theorem o9 {xs : List File} {n : aI} : ∀ {f g : DMap}, f n = g n → dY xs f n = dY xs g n := by
 induction xs with
 | nil => intro f g h; exact h
 | cons x r ih => intro f g h; exact ih (f := f.put x.1 x.2) (g := g.put x.1 x.2) (by unfold DMap.put; split <;> first | rfl | exact h)
theorem s4 {xs : List File} {n : aI} : ∀ {f : DMap}, (∃ x ∈ xs, x.1 = n) → ∀ g : DMap, dY xs f n = dY xs g n := by
 induction xs with
 | nil => intro f ⟨x, h, _⟩; cases h
 | cons x r ih =>
  intro f ⟨y, hy, e⟩ g
  by_cases h : ∃ x ∈ r, x.1 = n
  ·exact ih h _
  ·rcases List.mem_cons.1 hy with rfl | hy
   ·exact o9 (f := f.put y.1 y.2) (g := g.put y.1 y.2) (by unfold DMap.put; rw [if_pos e.symm, if_pos e.symm])
   ·exact absurd ⟨y, hy, e⟩ h
theorem rG {xs : List File} {n : aI} : ∀ {f : DMap}, (¬ ∃ x ∈ xs, x.1 = n) → dY xs f n = f n := by
 induction xs with
 | nil => intro f _; rfl
 | cons x r ih =>
  intro f h;have h1 : dY r (f.put x.1 x.2) n = f.put x.1 x.2 n := ih fun ⟨y, hy, e⟩ => h ⟨y, List.mem_cons_of_mem _ hy, e⟩
  show dY r (f.put x.1 x.2) n = f n
  rw [h1];unfold DMap.put;rw [if_neg fun e => h ⟨x, List.mem_cons_self, e.symm⟩]
theorem eX {xs : List File} {f : DMap} {n : aI} (hn : n ≠ bD) : after xs f n = dY xs f n := by
 unfold after DMap.cut;rw [if_neg hn];exact o9 (by unfold DMap.put; rw [if_neg hn])
theorem iD {xs : List File} {f : DMap} : after xs f bD = none := by unfold after DMap.cut; rw [if_pos rfl]
theorem oJ (xs : List File) (f : DMap) : after xs (after xs f) = after xs f := by
 funext n
 by_cases hn : n = bD
 ·subst hn; rw [iD, iD]
 ·rw [eX hn, eX hn]
  by_cases h : ∃ x ∈ xs, x.1 = n
  ·exact s4 h _
  ·rw [rG h, eX hn]
theorem pU {xs : List File} {f : DMap} {n : aI} (hn : n ≠ bD) (h : (f n).isSome = true) : (after xs f n).isSome = true := by rw [eX hn]; exact m4 h
theorem sN {xs : List File} {f : DMap} {ns : List aI} (h : iS f ns) : iS (after xs f) (xs.map (·.1) ++ ns) := by
 intro n hn
 by_cases hj : n = bD
 ·subst hj; rw [iD] at hn; cases hn
 ·rw [eX hj] at hn
  by_cases hx : ∃ x ∈ xs, x.1 = n
  ·obtain ⟨x, hx, rfl⟩ := hx; exact List.mem_append_left _ (List.mem_map_of_mem hx)
  ·rw [rG hx] at hn; exact List.mem_append_right _ (h n hn)
theorem pV (id : aI) (acts : List Mach.Action) (text : aI) (f : DMap) : boxF id acts text (boxF id acts text f).2 = boxF id acts text f := by
 unfold boxF;cases cA id acts text with
 | error e => rfl
 | ok xs => simp only [oJ]
theorem mQ {id : aI} {acts : List Mach.Action} {text : aI} {f : DMap} {n : aI} (hn : n ≠ bD) (h : (f n).isSome = true) : ((boxF id acts text f).2 n).isSome = true := by
 unfold boxF;cases cA id acts text with
 | error e => exact h
 | ok xs => exact pU hn h
theorem yV {id : aI} {acts : List Mach.Action} {text : aI} {f : DMap} (h : f bD = none) : (boxF id acts text f).2 bD = none := by
 unfold boxF;cases cA id acts text with
 | error e => exact h
 | ok xs => exact iD (xs := xs) (f := f)
end Go.Box
end
section
namespace Go.Proofs
open Go Go.SL Go.Syn Go.Box Go.Mach
theorem wM (w : World) (a c : cI) : (Op.equalIn 10000 66 (.agg #[str a.1, str a.2]) (.agg #[str c.1, str c.2])).run Tryz.prog w = .ok (decide (a = c)) w := by
 have hf : Tryz.prog.fieldsOf 66 = #[{ name := "Name", type := 9, offset := 0, embedded := false, tag := "", pkgPath := "", byteOffset := 0 }, { name := "Data", type := 9, offset := 1, embedded := false, tag := "", pkgPath := "", byteOffset := 16 }] := by unfold Program.fieldsOf; rw [Tryz.underlying66]
 rw [show (10000 : Nat) = 9999 + 1 from rfl, run_equalIn_agg w 9999 66 _ _ (by rw [hf]; exact Tryz.underlying66) Tryz.stoodInHeld66, hf];obtain ⟨k1, s1⟩ := a;obtain ⟨k2, s2⟩ := c;have p1 := iK (P := Tryz.prog) (w := w) (xs := #[str k1, str s1]) (i := 0) (v := str k1) ts9 rfl;have p2 := iK (P := Tryz.prog) (w := w) (xs := #[str k2, str s2]) (i := 0) (v := str k2) ts9 rfl;have p3 := iK (P := Tryz.prog) (w := w) (xs := #[str k1, str s1]) (i := 1) (v := str s1) ts9 rfl;have p4 := iK (P := Tryz.prog) (w := w) (xs := #[str k2, str s2]) (i := 1) (v := str s2) ts9 rfl;have q : ∀ s1 s2 : List UInt8, (Op.equalIn 9999 9 (str s1) (str s2)).run Tryz.prog w = .ok (decide (s1 = s2)) w := fun s1 s2 => by
  have := run_equalIn_string (P := Tryz.prog) w 9998 9 ⟨s1.toArray⟩ ⟨s2.toArray⟩ Tryz.underlying9;rw [← beq_toListBytes, q8] at this;exact this
 have q1 := q k1 k2;have q2 := q s1 s2;simp only [Op.eqFields];rw [if_pos (by decide), aL p1, aL p2, aL q1]
 by_cases h : k1 = k2
 ·subst h;rw [if_neg (by simp), if_pos (by decide), aL p3, aL p4, aL q2]
  by_cases h2 : s1 = s2
  ·subst h2; simp [pure, Sem.run]
  ·simp [h2, pure, Sem.run]
 ·rw [if_pos (by simp [h])];simp [h, pure, Sem.run]
theorem p8 {n : Nat} {ds : List Deferred} {w0 : World} {F : Hl} {fr : Fr} {K : Hl} {L : List Asn} {dst : Option Tmp} {ty t' : TypeId} {pos : String} {aft : Array Edge} {g : Option (Nat × Bool)} {x y : Operand} {a c : cI} (hx : fr.ev x = some (.agg #[str a.1, str a.2])) (hy : fr.ev y = some (.agg #[str c.1, str c.2])) :
  Ev ⟨Tryz.prog, n, ds, w0, F⟩ fr K L ⟨dst, .binOp .neq 66 x y t', ty, pos, aft, g⟩ (.bool (!decide (a = c))) :=
 b0 hx hy (fun w => run_eqGuard_agg w _ _ _ _ _ _ Tryz.eqGuardType66) fun w => by
  rw [run_neq_struct, wM]; rfl
theorem fL {n : Nat} {ds : List Deferred} {w0 : World} {F : Hl} {fr : Fr} {K : Hl} {L : List Asn} {dst : Option Tmp} {ty t' : TypeId} {pos : String} {aft : Array Edge} {g : Option (Nat × Bool)} {x y : Operand} {a c : cI} (hx : fr.ev x = some (.agg #[str a.1, str a.2])) (hy : fr.ev y = some (.agg #[str c.1, str c.2])) (e : a = c) :
  Ev ⟨Tryz.prog, n, ds, w0, F⟩ fr K L ⟨dst, .binOp .neq 66 x y t', ty, pos, aft, g⟩ (.bool false) := dO (p8 (a := a) (c := c) hx hy) (by rw [decide_eq_true e]; rfl)
abbrev zN : aI := [105, 110, 98, 111, 120, 47, 122]
abbrev aN : aI := [105, 110, 98, 111, 120, 47, 97, 49]
abbrev oldB : aI := [111, 108, 100]
abbrev newB : aI := [110, 101, 119]
def dur0 : DMap := dY [(zN, oldB)] (fun _ => none)
theorem kT : cA [97, 49] [(1, [])] newB = .ok [(aN, newB)] := by rfl
theorem mU : boxF [97, 49] [(1, [])] newB dur0 = (0, after [(aN, newB)] dur0) := by unfold boxF; rw [kT]
theorem zN_j : zN ≠ bD := by decide
theorem aN_j : aN ≠ bD := by decide
theorem iH (n : aI) : after [(aN, newB)] dur0 n = if n = aN then some newB else if n = zN then some oldB else none := by
 by_cases hj : n = bD
 ·subst hj; rw [iD]; rfl
 ·rw [eX hj]; rfl
theorem uJ : fK (after [(aN, newB)] dur0) [(aN, newB), (zN, oldB)] := by
 refine ⟨fun n d => ?_, by simp [List.pairwise_cons]; decide⟩
 rw [iH];simp only [List.mem_cons, List.not_mem_nil, or_false, Prod.mk.injEq];split
 ·rename_i h; subst h; simp [eq_comm]
 ·rename_i h1; split
  ·rename_i h; subst h; simp [eq_comm]
  ·rename_i h2; simp [h1, h2]
theorem sR : iS (after [(aN, newB)] dur0) [aN, zN] := by
 intro n hn;rw [iH] at hn
 by_cases h1 : n = aN
 ·rw [h1]; exact List.mem_cons_self
 ·by_cases h2 : n = zN
  ·rw [h2]; exact List.mem_cons_of_mem _ List.mem_cons_self
  ·rw [if_neg h1, if_neg h2] at hn; cases hn
theorem uH {f : DMap} {ys : List cI} {ns : List aI} (h : fK f ys) (hd : iS f ns) : ys.length ≤ ns.length := by
 have nd : (ys.map (·.1)).Nodup := by rw [List.Nodup, List.pairwise_map]; exact h.2.imp fun {a b} hab e => by rw [e] at hab; exact List.lt_irrefl _ hab
 have := jS (ns := ns) nd fun x hx => by obtain ⟨⟨n, d⟩, hm, rfl⟩ := List.mem_map.1 hx; exact hd n (by rw [(h.1 n d).1 hm]; rfl)
 simpa using this
theorem zY {f : DMap} {ys : List cI} {n m : aI} (h : fK f ys) (hn : (f n).isSome = true) (hm : (f m).isSome = true) (hne : n ≠ m) : 2 ≤ ys.length := by
 obtain ⟨d, hd⟩ := Option.isSome_iff_exists.1 hn;obtain ⟨e, he⟩ := Option.isSome_iff_exists.1 hm;have h1 := (h.1 n d).2 hd;have h2 := (h.1 m e).2 he
 match ys, h1, h2 with
 | [x], h1, h2 => rw [List.mem_singleton] at h1 h2; rw [← h1] at h2; exact absurd (congrArg Prod.fst h2).symm hne
 | _ :: _ :: _, _, _ => simp
theorem wJ {id : aI} {acts : List Action} {text : aI} {f : DMap} {ns : List aI} (h : iS f ns) (hl : ∀ xs, cA id acts text = .ok xs → xs.length ≤ 100) (hn : ns.length ≤ 1000) : ∃ ms, iS (boxF id acts text f).2 ms ∧ ms.length ≤ ns.length + 100 := by
 unfold boxF;cases hf : cA id acts text with
 | error e => exact ⟨ns, h, by omega⟩
 | ok xs => exact ⟨_, sN h, by have := hl xs hf; simp; omega⟩
theorem tB {s : DSt} (h : Box.Rest s) : cL (s.set (-1) (-1)) = (none, s.dec.flush) := by rw [h.set]; exact k8 h.up aJ
theorem qM {s : DSt} (h : Box.Rest s) : Box.Rest (s.dec.flush.set (-1) (-1)) ∧ (s.dec.flush.set (-1) (-1)).dur = s.dur := by
 have e : s.dec.flush.dur = s.dur := by show s.pend.foldl doF s.dur = _; rw [h.pend]; rfl
 exact ⟨⟨h.down, rfl, by show s.now = s.dec.flush.dur; rw [e, h.now], rfl, rfl⟩, e⟩
theorem qT (id text : aI) (v : Value) (acts : List Action) (K : Hl) (hg : Glob K) (hdb : Deb K) (hE : ErrT K) (hv : Ksl cS K v acts) (hid : id.length ≤ 140737488355328) (htx : text.length ≤ 140737488355328) (hal : acts.length ≤ 140737488355328) (ha : ∀ a ∈ acts, a.2.length ≤ 1048576) :
  Sp Tryz.prog 9 [str id, v, str text] K [] (Ret fun r K' L' => r = .bool true) := by
 have hlen : text.length ≤ 1048576 → ∀ xs, cA id acts text = .ok xs → xs.length ≤ 100 := fun ht xs h => by have := lM ht ha h; omega
 have hlen1 : ∀ xs, cA [97, 49] [(1, [])] newB = .ok xs → xs.length ≤ 100 := fun xs h => by rw [kT] at h; cases h; simp
 have hr0 : Box.Rest ⟨dur0, dur0, [], -1, -1, false⟩ := ⟨rfl, rfl, rfl, rfl, rfl⟩;refine a6 Tryz.func9 rfl Tryz.ntmps9 rfl rfl fun F w => ?_
 refine aG (aB ?_);refine aA (aE rfl) rfl ?_;refine aF (aD ?_);refine aG (aG ?_);refine aB ?_;refine aA (aC rfl) rfl ?_;refine aA (cK rfl Tryz.underlying9 rfl) rfl ?_;refine aA (i6 rfl rfl) rfl ?_;refine aA (aC rfl) rfl ?_;refine bU 21 rfl (fun g21 => ?_) (fun g21 => ?_)
 ·
  refine aR rfl rfl rfl ?_;refine aR rfl rfl rfl ?_;refine aR rfl rfl rfl ?_;refine aA (bH rfl rfl) rfl ?_;refine aF (aD ?_);refine c7 rfl ?_;refine aG (aB ?_);refine aA (aE rfl) rfl ?_;refine aF (aD ?_);refine bB ?_;refine aS ?_;refine bC .nil ?_;refine aY rfl rfl (by first | assumption | exact Hl.le_refl _) ?_;exact ⟨_, rfl, rfl⟩
 ·
  refine aU rfl rfl ?_;refine aA (aC rfl) rfl ?_;refine aU rfl rfl ?_;refine aA (bK (k := cS) rfl Tryz.underlying29 rfl (.known hv)) rfl ?_;refine aU rfl rfl ?_;refine aA (i6 rfl rfl) rfl ?_;refine aA (bA rfl rfl) rfl ?_;refine aF (aD ?_);refine bM 25 rfl (fun h25 => ?_) (fun h25 => ?_)
  ·
   refine aG (aB ?_);refine aA (aE rfl) rfl ?_;refine aF (aD ?_);refine bB ?_;refine aS ?_;refine bC .nil ?_;refine aY rfl rfl (by first | assumption | exact Hl.le_refl _) ?_;exact ⟨_, rfl, rfl⟩
  ·
   have ht : text.length ≤ 1048576 := by omega
   have hlen2 := hlen ht;refine aW ?_;refine aD (aG ?_);refine aB ?_;refine aA (dJ tb66 nD (.cons rfl rfl rfl (.cons .nil) (.cons rfl rfl rfl (.skip (.cons .nil)) .nil))) rfl ?_;refine ol_s (cF (z0 := [(str []), (str [])]) cR tz66 rfl rfl rfl rfl (.cons rfl rfl rfl (.cons (.cons .nil)) .nil)) rfl ?_;rintro _ K _ ⟨b27, rfl, rfl, rfl⟩ -;refine kC fun K1 le1 hb27 => ?_
   have hvz : Ksl aZ K1 (.slice (some ⟨b27, 0, none⟩) 1 1) [(zN, oldB)] := .inr ⟨b27, 0, 1, _, _, rfl, ⟨_, hb27⟩, rfl⟩;refine bG rfl rfl (sW _ [(zN, oldB)] _ hvz (by simp)) .nil rfl ?_;rintro _ K2 _ ⟨bx, b, rfl, hbx, rfl⟩ le2;have hle2 := Hl.le_trans le1 le2;refine aA (aE rfl) rfl ?_;refine aF (aD ?_);refine aG (aB ?_);refine aA (dJ tb34 aAY (.cons rfl rfl rfl (.cons .nil) .nil)) rfl ?_;refine ol_s (cF (z0 := [.int .i64 0, (str [])]) kH tz34 rfl rfl rfl rfl (.cons rfl rfl rfl (.cons (.cons .nil)) .nil)) rfl ?_;rintro _ K _ ⟨b30, rfl, rfl, rfl⟩ -;refine aA (aE rfl) rfl ?_;refine aF (aD ?_);refine aG ?_;refine fG fun K3 le3 hb30 => ?_
   have hva : Ksl cS K3 (.slice (some ⟨b30, 0, none⟩) 1 1) [(1, [])] := .inr ⟨b30, 0, 1, _, _, rfl, ⟨_, hb30⟩, rfl⟩;have hle3 := Hl.le_trans hle2 le3;obtain ⟨hB1, hB2, hB3⟩ := lA hr0 hlen1;refine aB ?_;refine aA (aC rfl) rfl ?_;refine aA (aC rfl) rfl ?_;refine bG rfl rfl (nK bx b [97, 49] newB _ [(1, [])] (-1) (-1) 0 0 ⟨dur0, dur0, [], -1, -1, false⟩ _ _ le3 (hbx.mono le3) (hg.mono hle3) (hdb.mono hle3) (hE.mono hle3) hva (by simp) (by simp) (by simp) (by simp) (by simp) aJ aJ (fun h => by rw [hB2] at h; cases h)) (.cons .here .nil) rfl ?_;rintro _ K4 _ ⟨rfl, t1, hend, rfl⟩ le4;obtain ⟨hR1, hd1⟩ := hB3 t1 hend;rw [hB1, mU];rw [mU] at hd1
   replace hd1 : t1.dur = after [(aN, newB)] dur0 := hd1
   have hle4 := Hl.le_trans hle3 le4;have hbx4 := (hbx.mono le3).mono le4;have hdom1 : iS t1.dur [aN, zN] := (by rw [hd1]; exact sR);refine aA (aE rfl) rfl ?_;refine aF (aD ?_);refine aG (aB ?_);refine aA (aC rfl) rfl ?_;refine bG rfl rfl (iE bx b t1 [aN, zN] hdom1 (by simp) _ _ (Hl.le_refl _) hbx4) (.cons .here .nil) rfl ?_;rintro v35 K4 _ ⟨rfl, ys, hys, rfl⟩ -;rw [hd1] at hys;obtain rfl := i8 hys uJ;refine aA (aE rfl) rfl ?_;refine aF (aD ?_);refine aG (aG ?_);refine aB ?_;refine aA (aC rfl) rfl ?_;refine aA (eD rfl rfl) rfl ?_;refine aA (aC rfl) rfl ?_;refine aU rfl rfl ?_;refine aA (aC rfl) rfl ?_;refine aU rfl rfl ?_;refine aA (bK (k := aZ) rfl Tryz.underlying62 rfl (.own .here)) rfl ?_;refine aU rfl rfl ?_;refine aA (eD rfl rfl) rfl ?_;refine aA (bA rfl rfl) rfl ?_;refine aA (aC rfl) rfl ?_;refine aU rfl rfl ?_;refine aA (aC rfl) rfl ?_;refine aU rfl rfl ?_;refine aA (bI (j := 0) (k := aZ) cR rfl (.own .here) rfl rfl (by simp)) rfl ?_;refine aU rfl rfl ?_;refine aA (bR (n := 0) (k := aZ) dU rfl (.own .here) rfl) rfl ?_;refine aU rfl rfl ?_;refine aA (dJ tb66 nD (.cons rfl rfl rfl (.cons .nil) (.cons rfl rfl rfl (.skip (.cons .nil)) .nil))) rfl ?_;refine aU rfl rfl ?_;refine aA (fL (a := (aN, newB)) (c := (aN, newB)) rfl rfl rfl) rfl ?_;refine aA (bA rfl rfl) rfl ?_;refine aA (aC rfl) rfl ?_;refine aU rfl rfl ?_;refine aA (aC rfl) rfl ?_;refine aU rfl rfl ?_;refine aA (bI (j := 1) (k := aZ) cR rfl (.own .here) rfl rfl (by simp)) rfl ?_;refine aU rfl rfl ?_;refine aA (bR (n := 0) (k := aZ) dU rfl (.own .here) rfl) rfl ?_;refine aU rfl rfl ?_;refine aA (dJ tb66 nD (.cons rfl rfl rfl (.cons .nil) (.cons rfl rfl rfl (.skip (.cons .nil)) .nil))) rfl ?_;refine aU rfl rfl ?_;refine aA (fL (a := (zN, oldB)) (c := (zN, oldB)) rfl rfl rfl) rfl ?_;refine aA (bA rfl rfl) rfl ?_;refine aF (aD ?_);refine bO rfl ?_;refine aW ?_;refine aD (aG ?_);refine zT ?_;obtain ⟨hB4, hB5, hB6⟩ := lA hR1 hlen2;obtain ⟨ms, hms, hml⟩ := wJ (id := id) (acts := acts) (text := text) hdom1 hlen2 (by simp);simp only [List.length_cons, List.length_nil] at hml;refine aB ?_;refine aA (aC rfl) rfl ?_;refine aA (aC rfl) rfl ?_;refine aA (aC rfl) rfl ?_;refine aA (aC rfl) rfl ?_;refine bG rfl rfl (nK bx b id text v acts (-1) (-1) 0 0 t1 _ _ (Hl.le_refl _) hbx4 (hg.mono hle4) (hdb.mono hle4) (hE.mono hle4) (hv.mono hle4) hid ht ha aJ (by rw [hR1.pend]; simp) aJ aJ (fun h => by rw [hB5] at h; cases h)) (.cons .here .nil) rfl ?_;rintro _ K5 _ ⟨rfl, t2, hend2, rfl⟩ le5;obtain ⟨hR2, hd2⟩ := hB6 t2 hend2;rw [hB4];have hle5 := Hl.le_trans hle4 le5;have hbx5 := hbx4.mono le5;rw [← hd2] at hms;have hz2 : (t2.dur zN).isSome = true := (by rw [hd2]; exact mQ zN_j (by rw [hd1, iH]; rfl));have ha2 : (t2.dur aN).isSome = true := (by rw [hd2]; exact mQ aN_j (by rw [hd1, iH]; rfl));have hj2 : t2.dur bD = none := (by rw [hd2]; exact yV (by rw [hd1]; exact iD));have htw : boxF id acts text t2.dur = boxF id acts text t1.dur := (by rw [hd2]; exact pV id acts text t1.dur);obtain ⟨hB7, hB8, hB9⟩ := lA hR2 hlen2;refine aA (aE rfl) rfl ?_;refine aF (aD ?_);refine aG (aB ?_);refine aA (aC rfl) rfl ?_;refine bG rfl rfl (iE bx b t2 ms hms aJ _ _ (Hl.le_refl _) hbx5) (.cons .here .nil) rfl ?_;rintro v63 K5 _ ⟨rfl, ps, hps, rfl⟩ -;have hpl := uH hps hms;refine aA (aE rfl) rfl ?_;refine aF (aD ?_);refine aG (aB ?_);refine aA (aC rfl) rfl ?_;refine aA (aC rfl) rfl ?_;refine aA (aC rfl) rfl ?_;refine aA (aC rfl) rfl ?_;refine bG rfl rfl (nK bx b id text v acts (-1) (-1) 0 0 t2 _ _ (Hl.le_refl _) hbx5 (hg.mono hle5) (hdb.mono hle5) (hE.mono hle5) (hv.mono hle5) hid ht ha aJ (by rw [hR2.pend]; simp) aJ aJ (fun h => by rw [hB8] at h; cases h)) (.cons (.there .here) .nil) rfl ?_;rintro _ K6 _ ⟨rfl, t3, hend3, rfl⟩ le6;obtain ⟨hR3, hd3⟩ := hB9 t3 hend3;rw [hB7, htw];rw [htw, ← hd2] at hd3;have hle6 := Hl.le_trans hle5 le6;have hbx6 := hbx5.mono le6;rw [← hd3] at hms;obtain ⟨hR4, hd4⟩ := qM hR3;have hj3 : t3.dec.flush.now bD = none := (by show t3.now bD = none; rw [hR3.now, hd3]; exact hj2)
   refine aA (aE rfl) rfl ?_;refine aF (aD ?_);refine aG (aB ?_);refine aA (aC rfl) rfl ?_;refine bG rfl rfl (iE bx b t3 ms hms aJ _ _ (Hl.le_refl _) hbx6) (.cons .here .nil) rfl ?_;rintro v70 K6 _ ⟨rfl, qs, hqs, rfl⟩ -;rw [hd3] at hqs;obtain rfl := i8 hps hqs;refine aA (aE rfl) rfl ?_;refine aF (aD ?_);refine aG (aB ?_);refine aA (aC rfl) rfl ?_;refine bG rfl rfl (tT bx b (-1) (-1) 0 0 t3 _ (tB hR3) hR3.down hj3 _ _ (Hl.le_refl _) hbx6 (hE.mono hle6) (by rw [hR3.pend]; simp)) (.cons (.there .here) .nil) rfl ?_;rintro _ K7 _ ⟨rfl, rfl⟩ le7;rw [← hd4] at hms;have hle7 := Hl.le_trans hle6 le7;refine aA (aE rfl) rfl ?_;refine aF (aD ?_);refine aG (aB ?_);refine aA (aC rfl) rfl ?_;refine bG rfl rfl (iE bx b _ ms hms aJ _ _ (Hl.le_refl _) (hbx6.mono le7)) (.cons .here .nil) rfl ?_;rintro v74 K7 _ ⟨rfl, rs, hrs, rfl⟩ -;rw [hd4, hd3] at hrs;obtain rfl := i8 hps hrs;have h2l := zY hps hz2 ha2 (by decide);refine aA (aE rfl) rfl ?_;refine aF (aD ?_);refine aG (aG ?_);refine aB ?_;refine aA (aC rfl) rfl ?_;refine aA (aC rfl) rfl ?_;refine aA (ev_F (eD rfl rfl) (fun h => h rfl)) rfl ?_;refine aA (aC rfl) rfl ?_;refine aU rfl rfl ?_;refine aA (aC rfl) rfl ?_;refine aU rfl rfl ?_;refine aA (eD rfl rfl) rfl ?_;refine aA (bA rfl rfl) rfl ?_;refine aA (aC rfl) rfl ?_;refine aU rfl rfl ?_;refine aA (aC rfl) rfl ?_;refine aU rfl rfl ?_;refine aA (bK (k := aZ) rfl Tryz.underlying62 rfl aP) rfl ?_;refine aU rfl rfl ?_;refine aA (aC rfl) rfl ?_;refine aU rfl rfl ?_;refine aA (bK (k := aZ) rfl Tryz.underlying62 rfl aP) rfl ?_;refine aU rfl rfl ?_;refine aA (ev_F (eD rfl rfl) (fun h => h rfl)) rfl ?_;refine aA (bA rfl rfl) rfl ?_;refine aA (aC rfl) rfl ?_;refine aU rfl rfl ?_;refine aA (aC rfl) rfl ?_;refine aU rfl rfl ?_;refine aA (bK (k := aZ) rfl Tryz.underlying62 rfl aP) rfl ?_;refine aU rfl rfl ?_;refine aA (aC rfl) rfl ?_;refine aU rfl rfl ?_;refine aA (bK (k := aZ) rfl Tryz.underlying62 rfl aP) rfl ?_;refine aU rfl rfl ?_;refine aA (ev_F (eD rfl rfl) (fun h => h rfl)) rfl ?_;refine aA (bA rfl rfl) rfl ?_;refine aF (aD ?_);refine bO rfl ?_;refine aW ?_;refine aD (aG ?_);refine aG (aB ?_);refine aA (aE rfl) rfl ?_;refine aF (aD ?_);refine a8 ?_;refine pI (.cons .here (.cons (.there .here) (.cons (.there .here) .nil))) ?_;refine eJ (fun (i : Nat) => i ≤ ps.length) (fun i => [(1, v), (11, i64 (boxF id acts text t1.dur).1), (12, v63), (14, v70), (16, v74), (17, i64 i)]) (fun _ => K7) (fun _ => [sl false aZ v74 ps, sl false aZ v70 ps, sl false aZ v63 ps]) (fun i => ps.length - i) 0 (Nat.zero_le _) (.cons 1 rfl (.cons 11 rfl (.cons 12 rfl (.cons 14 rfl (.cons 16 rfl (.cons 17 rfl .nil)))))) rfl (fun _ h => h) ?_;intro i hi;refine aG (aG ?_);refine aB ?_;refine aA (aC rfl) rfl ?_;refine aA (aC rfl) rfl ?_;refine aA (bK (k := aZ) rfl Tryz.underlying62 rfl aP) rfl ?_;refine aA (dK rfl rfl) rfl ?_;refine aF (aD ?_);refine bM 99 rfl (fun h99 => ?_) (fun h99 => ?_)
   ·
    have hlt : i < ps.length := by omega
    obtain ⟨x, hx⟩ : ∃ x, ps[i]? = some x := ⟨ps[i]'hlt, List.getElem?_eq_getElem hlt⟩;refine aW ?_;refine aD (aG ?_);refine a8 (aG ?_);refine bY (anc := [0, 0, 3, 7, 0, 0, 48, 112, 255, 511, 1023, 1023, 4095, 8191, 1023, 1023, 50175, 115711, 262143, 524287]) (ord := [0, 1, 2, 3, 4, 5, 6, 7, 8, 9, 10, 11, 12, 13, 14, 15, 16, 17, 18, 19]) [] [] mixed (by decide +kernel) (cV _) ?_;refine aK rfl rfl (.none rfl) rfl rfl (aC rfl) rfl ?_;refine aK rfl rfl (.none rfl) rfl rfl (aC rfl) rfl ?_;refine aK rfl rfl (.none rfl) rfl rfl (bI (k := aZ) cR rfl aP rfl rfl (by first | assumption | omega)) rfl ?_;refine aK rfl rfl (.none rfl) rfl rfl (bR (n := 0) (k := aZ) dU rfl aP d9) rfl ?_;refine aK rfl rfl (.none rfl) rfl rfl (aC rfl) rfl ?_;refine aK rfl rfl (.none rfl) rfl rfl (aC rfl) rfl ?_;refine aK rfl rfl (.none rfl) rfl rfl (bI (k := aZ) cR rfl aP rfl rfl (by first | assumption | omega)) rfl ?_;refine aK rfl rfl (.none rfl) rfl rfl (bR (n := 0) (k := aZ) dU rfl aP d9) rfl ?_;refine aK rfl rfl (.none rfl) rfl rfl (fL (a := x) (c := x) rfl rfl rfl) rfl ?_;refine aK rfl rfl (.none rfl) rfl rfl (aC rfl) rfl ?_;refine aK rfl rfl (.on rfl rfl rfl) rfl rfl (aC rfl) rfl ?_;refine aK rfl rfl (.on rfl rfl rfl) rfl rfl (aC rfl) rfl ?_;refine aK rfl rfl (.on rfl rfl rfl) rfl rfl (bI (k := aZ) cR rfl aP rfl rfl (by first | assumption | omega)) rfl ?_;refine aK rfl rfl (.on rfl rfl rfl) rfl rfl (bR (n := 0) (k := aZ) dU rfl aP d9) rfl ?_;refine aK rfl rfl (.on rfl rfl rfl) rfl rfl (aC rfl) rfl ?_;refine aK rfl rfl (.on rfl rfl rfl) rfl rfl (aC rfl) rfl ?_;refine aK rfl rfl (.on rfl rfl rfl) rfl rfl (bI (k := aZ) cR rfl aP rfl rfl (by first | assumption | omega)) rfl ?_;refine aK rfl rfl (.on rfl rfl rfl) rfl rfl (bR (n := 0) (k := aZ) dU rfl aP d9) rfl ?_;refine aK rfl rfl (.on rfl rfl rfl) rfl rfl (fL (a := x) (c := x) rfl rfl rfl) rfl ?_;refine aK rfl rfl (.none rfl) rfl rfl (bA rfl rfl) rfl ?_;refine bW ?_;refine aD ?_;refine bO rfl ?_;refine aW ?_;refine aX (aD ?_);refine aB ?_;refine aA (aC rfl) rfl ?_;refine aA (dG rfl rfl aJ aJ) rfl ?_;refine aA (aE rfl) rfl ?_;refine aF ?_;exact eA (i + 1) aJ aJ (.cons 1 rfl (.cons 11 rfl (.cons 12 rfl (.cons 14 rfl (.cons 16 rfl (.cons 17 rfl .nil)))))) rfl (fun _ h => h)
   ·
    refine c6 ?_;refine aV ?_;refine aV ?_;refine bF ?_;refine aD (aG ?_);refine aB ?_;refine aA (aC rfl) rfl ?_;refine aA (eD rfl rfl) rfl ?_;refine aA (aC rfl) rfl ?_;refine bU 124 rfl (fun g124 => ?_) (fun g124 => ?_)
    ·
     refine aR rfl rfl rfl ?_;refine aR rfl rfl rfl ?_;refine aR rfl rfl rfl ?_;refine aA (bH rfl rfl) rfl ?_;refine aA (aC rfl) rfl ?_;refine aR rfl rfl rfl ?_;refine aR rfl rfl rfl ?_;refine aR rfl rfl rfl ?_;refine aA (bH rfl rfl) rfl ?_;refine aA (aE rfl) rfl ?_;refine aF (aD ?_);refine bB ?_;refine bC .nil ?_;refine aY rfl rfl (by first | assumption | exact Hl.le_refl _) ?_;exact ⟨_, rfl, rfl⟩
    ·
     refine aU rfl rfl ?_;refine aA (aC rfl) rfl ?_;refine aU rfl rfl ?_;refine aA (bK (k := cS) rfl Tryz.underlying29 rfl (.known (hv.mono hle7))) rfl ?_;refine aU rfl rfl ?_;refine aA (bV rfl rfl) rfl ?_;refine aA (bA rfl rfl) rfl ?_;refine aA (aC rfl) rfl ?_;refine bU 129 rfl (fun g129 => ?_) (fun g129 => ?_)
     ·
      refine aR rfl rfl rfl ?_;refine aR rfl rfl rfl ?_;refine aR rfl rfl rfl ?_;refine aA (bH rfl rfl) rfl ?_;refine aA (aE rfl) rfl ?_;refine aF (aD ?_);refine bB ?_;refine bC .nil ?_;refine aY rfl rfl (by first | assumption | exact Hl.le_refl _) ?_;exact ⟨_, rfl, rfl⟩
     ·
      refine aU rfl rfl ?_;refine aA (aC rfl) rfl ?_;refine aU rfl rfl ?_;refine aA (bK (k := aZ) rfl Tryz.underlying62 rfl aP) rfl ?_;refine aU rfl rfl ?_;refine aA (ev_T (gV rfl rfl) aJ) rfl ?_;refine aA (bA rfl rfl) rfl ?_;refine aA (aE rfl) rfl ?_;refine aF (aD ?_);refine bB ?_;refine bC .nil ?_;refine aY rfl rfl (by first | assumption | exact Hl.le_refl _) ?_;exact ⟨_, rfl, rfl⟩
end Go.Proofs
end

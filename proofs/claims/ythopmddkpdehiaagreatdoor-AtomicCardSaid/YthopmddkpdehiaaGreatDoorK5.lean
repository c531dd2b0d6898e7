/-
  What the proof stands on, part 5: the logic of walks, the walks through the functions, the plain laws. Conditions: as each theorem says. (Merged and shortened by a program.)
-/
import Derived.Lib.ItoaLen
import Derived.KernelRfl
import Derived.Deep.DeepHandedRow
import Derived.Laws.IdiomRangeMap
import Derived.Test.YthopmddkpdehiaaGreatDoorProg
import Derived.Shelf.GgSortFunc.Lays
import Derived.Shelf.SlSortFuncK.WholeK
import Derived.Shelf.GgSortFunc.Tiny
import Derived.Sort.Walk0
import Derived.Lib.Atoi
import Derived.Lib.ItoaMem
import Derived.Lib.IndexMore
import Derived.Test.YthopmddkpdehiaaGreatDoorK1
import Derived.Test.YthopmddkpdehiaaGreatDoorK2
import Derived.Test.YthopmddkpdehiaaGreatDoorK3
import Derived.Test.YthopmddkpdehiaaGreatDoorK4
set_option linter.unusedVariables false
set_option linter.unusedSimpArgs false
section
set_option maxRecDepth 100000
namespace Go.Proofs
open Go Go.SL Go.Syn Go.Mach Go.ChangeShapes Go.WideShapes Go.RowKit
namespace TzRow
section
variable {H : Type} {enc : TypeId × Value → H} {W : World} {base : Nat} {sp : Nat → Bool} {held : Bool}
theorem uE {n : Nat} {cs : List Value} {x : DataW H × List MemPlace} (h : DataW.trod enc Tryz.prog W base sp held n 9 cs = some x) : ∃ l : aJ, cs = [str l] ∧ l.length ∈ x.1.weights Tryz.prog 9 := by
 obtain ⟨l, h1, h2⟩ := aA2 Tryz.underlying9 h;exact ⟨l, h1, by rw [h2]; simp [DataW.weights]⟩
end
end TzRow
end Go.Proofs
end
section
namespace Go.Box
open Go.Syn
abbrev File := aJ × aJ
abbrev DMap := aJ → Option aJ
def DMap.put (f : DMap) (n d : aJ) : DMap := fun x => if x = n then some d else f x
def DMap.cut (f : DMap) (n : aJ) : DMap := fun x => if x = n then none else f x
abbrev Er := Option Int
structure OpR where
 kind : Int
 name : aJ
 to : aJ
 data : aJ
def doF (f : DMap) (o : OpR) : DMap := if o.kind = 1 then f.put o.name o.data else f.cut o.name
structure DSt where
 dur : DMap
 now : DMap
 pend : List OpR
 left : Int
 full : Int
 down : Bool
def cN (l f : Int) (dn : Bool) : Er × Int × Int × Bool :=
 if dn = true ∨ l = 0 then (some 16, l, f, true)
 else if f = 0 then (some 15, IntKind.i64.wrap (l - 1), -1, false)
 else (none, IntKind.i64.wrap (l - 1), IntKind.i64.wrap (f - 1), false)
def DSt.we (s : DSt) : Er := (cN s.left s.full s.down).1
def DSt.ws (s : DSt) : DSt := { s with left := (cN s.left s.full s.down).2.1, full := (cN s.left s.full s.down).2.2.1, down := (cN s.left s.full s.down).2.2.2 }
def DSt.told (s : DSt) (o : OpR) : DSt := { s with now := doF s.now o, pend := s.pend ++ [o] }
def DSt.add (s : DSt) (o : OpR) : DSt := { s with pend := s.pend ++ [o] }
def cU (o : OpR) (s : DSt) : Er × DSt :=
 if s.we.isSome = true then (s.we, s.ws) else if s.now o.name = none ∧ 1 < o.kind then (some 14, s.ws) else (none, s.ws.told o)
theorem yB {o : OpR} {s : DSt} {e l2 f2 : Int} {dn2 : Bool} (hw : cN s.left s.full s.down = (some e, l2, f2, dn2)) : cU o s = (some e, { s with left := l2, full := f2, down := dn2 }) := by
 simp [cU, DSt.we, DSt.ws, hw]
theorem aAX {o : OpR} {s : DSt} {l2 f2 : Int} {dn2 : Bool} (hw : cN s.left s.full s.down = (none, l2, f2, dn2)) (h1 : s.now o.name = none) (h2 : 1 < o.kind) : cU o s = (some 14, { s with left := l2, full := f2, down := dn2 }) := by
 simp [cU, DSt.we, DSt.ws, hw, h1, h2]
theorem l7 {o : OpR} {s : DSt} {l2 f2 : Int} {dn2 : Bool} (hw : cN s.left s.full s.down = (none, l2, f2, dn2)) (h : ¬ (s.now o.name = none ∧ 1 < o.kind)) : cU o s = (none, ({ s with left := l2, full := f2, down := dn2 } : DSt).told o) := by
 simp only [cU, DSt.we, DSt.ws, hw];rw [if_neg (by simp), if_neg h]
theorem lD (o : OpR) (s : DSt) : (cU o s).2.pend.length ≤ s.pend.length + 1 := by
 unfold cU;split
 ·exact Nat.le_succ _
 ·split
  ·exact Nat.le_succ _
  ·simp [DSt.told, DSt.ws]
def cH (n d : aJ) (s : DSt) : Er × DSt :=
 if (cU ⟨1, n, [], d⟩ s).1 = some 16 then (some 16, (cU ⟨1, n, [], d⟩ s).2.add ⟨1, n, [], d⟩) else cU ⟨1, n, [], d⟩ s
theorem aBB (n d : aJ) (s : DSt) : (cH n d s).1 = (cU ⟨1, n, [], d⟩ s).1 := by unfold cH; split <;> simp_all
theorem kU {n d : aJ} {s : DSt} (h : (cU ⟨1, n, [], d⟩ s).1 = some 16) : (cH n d s).2 = (cU ⟨1, n, [], d⟩ s).2.add ⟨1, n, [], d⟩ := by unfold cH; rw [if_pos h]
theorem kT {n d : aJ} {s : DSt} (h : ¬ (cU ⟨1, n, [], d⟩ s).1 = some 16) : (cH n d s).2 = (cU ⟨1, n, [], d⟩ s).2 := by unfold cH; rw [if_neg h]
theorem g8 (n d : aJ) (s : DSt) : (cH n d s).2.pend.length ≤ s.pend.length + 1 := by
 by_cases h : (cU ⟨1, n, [], d⟩ s).1 = some 16
 ·rw [kU h];have : (cU ⟨1, n, [], d⟩ s).2.pend.length = s.pend.length := by
   unfold cU at h ⊢;split
   ·rfl
   ·rename_i hn;rw [if_neg hn] at h;split at h <;> cases h
  simp [DSt.add, this]
 ·rw [kT h]; exact lD _ _
def cB (n : aJ) (s : DSt) : Er × DSt := cU ⟨3, n, [], []⟩ s
def DSt.flush (s : DSt) : DSt := { s with dur := s.pend.foldl doF s.dur, pend := [] }
def bQ (s : DSt) : Er × DSt := if s.we.isSome = true then (s.we, s.ws) else (none, s.ws.flush)
def gX (n : aJ) (s : DSt) : aJ × Er := if s.down = true then ([], some 16) else match s.now n with
 | none => ([], some 14)
 | some d => (d, none)
def bZ : List (DSt → Er × DSt) → DSt → Er × DSt
 | [], s => (none, s)
 | f :: fs, s => if (f s).1.isSome = true then f s else bZ fs (f s).2
def aS : aJ := [46, 106, 111, 117, 114, 110, 97, 108]
def sumC (s : aJ) : Nat := s.foldl (fun h c => ((h ^^^ c.toNat) * 1099511628211) % 18446744073709551616) 14695981039346656037
def iZ (n : Nat) : UInt8 := if n < 10 then UInt8.ofNat (48 + n) else UInt8.ofNat (87 + n)
def hexN (n : Nat) : aJ := if h : n < 16 then [iZ n] else hexN (n / 16) ++ [iZ (n % 16)]
 termination_by n
 decreasing_by omega
def entryC (f : File) : aJ := f.1 ++ [32] ++ Lib.itoa f.2.length ++ [10] ++ f.2
def bodyC (files : List File) : aJ := files.flatMap entryC
def gJ (body : aJ) : aJ := Lib.itoa body.length ++ [32] ++ hexN (sumC body)
def c8 (files : List File) : aJ := gJ (bodyC files) ++ [10] ++ bodyC files
def cV (files : List File) : List (DSt → Er × DSt) := files.map fun f => cH f.1 f.2
def dQ (files : List File) : DSt → Er × DSt := bZ (cV files ++ [bQ, cB aS, bQ])
def dN (files : List File) : DSt → Er × DSt := bZ [cH aS (c8 files), bQ, dQ files]
theorem j2 : ∀ (gs : List (DSt → Er × DSt)) (s : DSt), (∀ g ∈ gs, ∀ s : DSt, (g s).2.pend.length ≤ s.pend.length + 1) → (bZ gs s).2.pend.length ≤ s.pend.length + gs.length
 | [], s, _ => Nat.le_refl _
 | g :: gs, s, h => by
  have h1 := h g List.mem_cons_self s;have h2 := j2 gs (g s).2 fun g' hg => h g' (List.mem_cons_of_mem _ hg)
  simp only [bZ, List.length_cons];split <;> omega
theorem fE (s : DSt) : (bQ s).2.pend.length ≤ s.pend.length := by
 unfold bQ; split
 ·exact Nat.le_refl _
 ·simp [DSt.flush]
theorem f8 (n : aJ) (s : DSt) : (cB n s).2.pend.length ≤ s.pend.length + 1 := lD _ _
theorem iY (files : List File) (s : DSt) : (dQ files s).2.pend.length ≤ s.pend.length + files.length + 3 := by
 have := j2 (cV files ++ [bQ, cB aS, bQ]) s fun g hg s => by
  rcases List.mem_append.1 hg with h | h
  ·obtain ⟨f, _, rfl⟩ := List.mem_map.1 h;exact g8 _ _ _
  ·simp at h;rcases h with rfl | rfl | rfl
   ·have := fE s; omega
   ·exact f8 _ _
   ·have := fE s; omega
 simp [cV] at this;unfold dQ; simp only [cV]; omega
def f0 (n : aJ) : Prop := (10 : UInt8) ∉ n ∧ (32 : UInt8) ∉ n
def eD (files : List File) : Prop := (∀ f ∈ files, f0 f.1) ∧ (bodyC files).length ≤ 1000000000 ∧ files.length ≤ 100
theorem jS {f : File} {files : List File} (h : f ∈ files) : (entryC f).length ≤ (bodyC files).length := by
 induction files with
 | nil => cases h
 | cons a r ih =>
  simp only [bodyC, List.flatMap_cons, List.length_append];rcases List.mem_cons.1 h with rfl | h
  ·omega
  ·have := ih h; simp only [bodyC] at this; omega
theorem pP {files : List File} {i : Nat} {f : File} (h : files[i]? = some f) : bodyC (files.take (i + 1)) = bodyC (files.take i) ++ entryC f := by
 have hi : i < files.length := by
  rcases Nat.lt_or_ge i files.length with h' | h'
  ·exact h'
  ·simp [List.getElem?_eq_none h'] at h
 rw [List.getElem?_eq_getElem hi] at h;cases h
 unfold bodyC;rw [List.take_succ_eq_append_getElem hi, List.flatMap_append];simp only [List.flatMap_cons, List.flatMap_nil, List.append_nil]
theorem lK (files : List File) (i : Nat) : (bodyC (files.take i)).length ≤ (bodyC files).length := by
 have : bodyC files = bodyC (files.take i) ++ bodyC (files.drop i) := by
  unfold bodyC; rw [← List.flatMap_append, List.take_append_drop]
 rw [this]; simp
def f9 (h : Nat) (c : UInt8) : Nat := ((h ^^^ c.toNat) * 1099511628211) % 18446744073709551616
theorem vY (s : aJ) : sumC s = s.foldl f9 14695981039346656037 := rfl
theorem lC (s : aJ) : sumC s < 18446744073709551616 := by
 rw [vY];have : ∀ (l : aJ) (h : Nat), h < 18446744073709551616 → l.foldl f9 h < 18446744073709551616 := by
  intro l;induction l with
  | nil => intro h hh; exact hh
  | cons c r ih => intro h _; exact ih _ (Nat.mod_lt _ aI)
 exact this s _ aI
theorem lS {n : Nat} (h : n < 18446744073709551616) : (hexN n).length ≤ 16 := by
 have : ∀ k n, n < 16 ^ (k + 1) → (hexN n).length ≤ k + 1 := by
  intro k;induction k with
  | zero => intro n hn; rw [hexN, dif_pos (by simpa using hn)]; simp
  | succ k ih =>
   intro n hn;rw [hexN];split
   ·simp
   ·rw [List.length_append];have := ih (n / 16) (Nat.div_lt_of_lt_mul (by rw [Nat.mul_comm, ← Nat.pow_succ]; exact hn));simp; omega
 exact this 15 n (by simpa using h)
def hY (d : aJ) (r : Option (List File)) : Prop := ∃ files, eD files ∧ ((d = c8 files ∧ r = some files) ∨ (d <+: c8 files ∧ d ≠ c8 files ∧ r = none))
def kY (r : Option (List File)) : DSt → Er × DSt := match r with
 | some files => dQ files
 | none => bZ [cB aS, bQ]
def bK (r : Option (List File)) (s : DSt) : Er × DSt :=
 if (bQ s).1.isSome = true then bQ s
 else match (gX aS (bQ s).2).2 with
  | none => kY r (bQ s).2
  | some e => if e = 14 then (none, (bQ s).2) else (some e, (bQ s).2)
inductive Left : Bool → List OpR → DMap → DMap → Prop where
 | nil {b f} : Left b [] f f
 | lost {b o os f g} : Left b os f g → Left b (o :: os) f g
 | kept {b o os f g} : Left b os (doF f o) g → Left b (o :: os) f g
 | torn {o os f g d} : o.kind = 1 → d <+: o.data → Left false os (f.put o.name d) g → Left true (o :: os) f g
 | none {b o os f g} : 1 < o.kind → f o.name = none → Left b os f g → Left b (o :: os) f g
theorem eR {α : Type} {l : List α} {i : Nat} {o : α} (hx : l[i]? = some o) : l.drop i = o :: l.drop (i + 1) := by
 have hi : i < l.length := by
  rcases Nat.lt_or_ge i l.length with h | h
  ·exact h
  ·simp [List.getElem?_eq_none h] at hx
 rw [List.drop_eq_getElem_cons hi];rw [List.getElem?_eq_getElem hi] at hx;cases hx; rfl
theorem Left.mono {b : Bool} {os : List OpR} {f g : DMap} (h : Left b os f g) : ∀ {b' : Bool}, (b = true → b' = true) → Left b' os f g := by
 induction h with
 | nil => intro b' _; exact .nil
 | lost _ ih => intro b' hb; exact .lost (ih hb)
 | kept _ ih => intro b' hb; exact .kept (ih hb)
 | torn h1 h2 h3 ih => intro b' hb; rw [hb rfl]; exact .torn h1 h2 h3
 | none h1 h2 _ ih => intro b' hb; exact .none h1 h2 (ih hb)
def CrI (pend : List OpR) (dur : DMap) (r i : Nat) (g : DMap) : Prop := ∀ x, Left (decide (i ≤ r)) (pend.drop i) g x → Left true pend dur x
section
variable {pend : List OpR} {dur g : DMap} {r i : Nat} {o : OpR}
theorem CrI.init : CrI pend dur r 0 dur := fun x h => by simpa using h
theorem CrI.lost (hx : pend[i]? = some o) (h : CrI pend dur r i g) : CrI pend dur r (i + 1) g := fun x k => h x (by
 rw [eR hx]; exact .lost (k.mono fun e => by have := of_decide_eq_true e; exact decide_eq_true aI))
theorem CrI.none (hx : pend[i]? = some o) (h1 : 1 < o.kind) (h2 : g o.name = Option.none) (h : CrI pend dur r i g) : CrI pend dur r (i + 1) g := fun x k => h x (by
 rw [eR hx]; exact .none h1 h2 (k.mono fun e => by have := of_decide_eq_true e; exact decide_eq_true aI))
theorem CrI.kept (hx : pend[i]? = some o) (h : CrI pend dur r i g) : CrI pend dur r (i + 1) (doF g o) := fun x k => h x (by
 rw [eR hx]; exact .kept (k.mono fun e => by have := of_decide_eq_true e; exact decide_eq_true aI))
theorem CrI.torn {d : aJ} (hx : pend[i]? = some o) (h1 : o.kind = 1) (hr : i = r) (hd : d <+: o.data) (h : CrI pend dur r i g) : CrI pend dur r (i + 1) (g.put o.name d) := fun x k => h x (by
 rw [eR hx, decide_eq_true (by omega : i ≤ r)];rw [decide_eq_false (by omega : ¬ i + 1 ≤ r)] at k;exact .torn h1 hd k)
theorem CrI.do {d : aJ} (hx : pend[i]? = some o) (hd : d = o.data ∨ o.kind = 1 ∧ i = r ∧ d <+: o.data) (h : CrI pend dur r i g) : CrI pend dur r (i + 1) (doF g { o with data := d }) := by
 rcases hd with rfl | ⟨h1, h2, h3⟩
 ·exact h.kept hx
 ·have := h.torn hx h1 h2 h3
  simpa [doF, h1] using this
theorem CrI.done (h : CrI pend dur r pend.length g) : Left true pend dur g := h g (by simpa using Left.nil)
end
def lF (s t : DSt) : Prop := Left true s.pend s.dur t.dur ∧ t.now = t.dur ∧ t.pend = [] ∧ t.left = -1 ∧ t.full = -1 ∧ t.down = false
def jK : aJ := [47]
def jI : aJ := [105, 110, 98, 111, 120, 47]
def boxP : aJ := [98, 111, 120, 47]
def outP : aJ := [111, 117, 116, 47]
def toP : aJ := [116, 111, 32]
def rejP : aJ := [114, 101, 106, 101, 99, 116, 32]
def outN (id : aJ) (i : Nat) : aJ := outP ++ id ++ [46] ++ Lib.itoa i
def bO (id text : aJ) (i : Nat) (a : Mach.Action) : Except Int File :=
 if a.1 = 1 then .ok (jI ++ id, text)
 else if a.1 = 2 then if Mach.boxed a.2 = true then .ok (boxP ++ a.2 ++ jK ++ id, text) else .error 8
 else if a.1 = 3 then .ok (outN id i, toP ++ a.2 ++ [10] ++ text)
 else if a.1 = 4 then .ok (outN id i, rejP ++ a.2 ++ [10] ++ text)
 else .error 7
def eI (id text : aJ) : Nat → List Mach.Action → Except Int (List File)
 | _, [] => .ok []
 | i, a :: r => match bO id text i a with
  | .error e => .error e
  | .ok f => match eI id text (i + 1) r with
   | .error e => .error e
   | .ok fs => .ok (f :: fs)
def eU (id : aJ) : Bool := decide (id = []) || decide (8 < id.length) || (id.any fun c => [46, 45].contains c) || !Mach.boxed id
def cW (id : aJ) (acts : List Mach.Action) (text : aJ) : Except Int (List File) :=
 if eU id = true then .error 13 else if 6 < acts.length then .error 11 else eI id text 0 acts
def hC (acc : List File) : Except Int (List File) → Except Int (List File)
 | .error e => .error e
 | .ok fs => .ok (acc ++ fs)
theorem sC {id text : aJ} {i : Nat} {acts : List Mach.Action} {a : Mach.Action} {f : File} {acc : List File} (ha : acts[i]? = some a) (hf : bO id text i a = .ok f) :
  hC acc (eI id text i (acts.drop i)) = hC (acc ++ [f]) (eI id text (i + 1) (acts.drop (i + 1))) := by
 rw [eR ha, eI, hf];cases eI id text (i + 1) (acts.drop (i + 1)) with
 | error e => rfl
 | ok fs => simp [hC]
theorem kH {id text : aJ} {i : Nat} {acts : List Mach.Action} {a : Mach.Action} {e : Int} {acc : List File} (ha : acts[i]? = some a) (hf : bO id text i a = .error e) :
  hC acc (eI id text i (acts.drop i)) = .error e := by rw [eR ha, eI, hf]; rfl
theorem rA {xs : List File} (hb : (bodyC xs).length ≤ 1000000000) : (c8 xs).length ≤ 140737488355328 := by
 have h1 := Lib.itoa_length_le ((bodyC xs).length : Int) aI aI;have h2 := lS (lC (bodyC xs));simp only [c8, gJ, List.length_append, List.length_singleton]; omega
theorem w9 {a : aJ} (h : Mach.boxed a = true) : a.length ≤ 16 := by
 unfold Mach.boxed at h;simp only [Bool.and_eq_true, decide_eq_true_eq] at h;exact h.2
theorem aAG (id : aJ) {i : Nat} (hi : i ≤ 1000000) : (outN id i).length ≤ id.length + 26 := by
 have := Lib.itoa_length_le (i : Int) aI aI;simp only [outN, outP, List.length_append, List.length_cons, List.length_nil]; omega
theorem t7 {id text : aJ} {i : Nat} {a : Mach.Action} {f : File} (h : bO id text i a = .ok f) (hid : id.length ≤ 8) (ht : text.length ≤ 1048576) (ha : a.2.length ≤ 1048576) (hi : i ≤ 1000000) : (entryC f).length ≤ 3000000 := by
 have ho := aAG id hi;have key : ∀ f : File, f.1.length ≤ 40 → f.2.length ≤ 2100000 → (entryC f).length ≤ 3000000 := fun f h1 h2 => by
  have := Lib.itoa_length_le (f.2.length : Int) aI aI;simp only [entryC, List.length_append, List.length_cons, List.length_nil]; omega
 unfold bO at h;split at h
 ·cases h; exact key _ (by simp [jI]; omega) (by simp; omega)
 ·split at h
  ·split at h
   ·rename_i hb;have := w9 hb;cases h; exact key _ (by simp [boxP, jK]; omega) (by simp; omega)
   ·cases h
  ·split at h
   ·cases h; exact key _ (by simp; omega) (by simp [toP]; omega)
   ·split at h
    ·cases h; exact key _ (by simp; omega) (by simp [rejP]; omega)
    ·cases h
theorem pR {id text : aJ} (hid : id.length ≤ 8) (ht : text.length ≤ 1048576) : ∀ {acts : List Mach.Action} {i : Nat} {fs : List File}, (∀ a ∈ acts, a.2.length ≤ 1048576) → i + acts.length ≤ 1000000 → eI id text i acts = .ok fs → fs.length = acts.length ∧ (bodyC fs).length ≤ 3000000 * acts.length
 | [], i, fs, _, _, h => by cases h; exact ⟨rfl, by simp [bodyC]⟩
 | a :: r, i, fs, ha, hi, h => by
  simp only [List.length_cons] at hi;unfold eI at h;cases hf : bO id text i a with
  | error e => rw [hf] at h; cases h
  | ok f =>
   rw [hf] at h;simp only at h;cases hr : eI id text (i + 1) r with
   | error e => rw [hr] at h; cases h
   | ok fs' =>
    rw [hr] at h;cases h
    have h1 := t7 hf hid ht (ha a List.mem_cons_self) aI;have h2 := pR hid ht (fun a h => ha a (List.mem_cons_of_mem _ h)) aI hr;refine ⟨by simp [h2.1], ?_⟩
    have h3 := h2.2;simp only [bodyC, List.flatMap_cons, List.length_append, List.length_cons] at h3 ⊢;omega
theorem oE {id text : aJ} {acts : List Mach.Action} {fs : List File} (ht : text.length ≤ 1048576) (ha : ∀ a ∈ acts, a.2.length ≤ 1048576) (h : cW id acts text = .ok fs) : fs.length = acts.length ∧ acts.length ≤ 6 ∧ (bodyC fs).length ≤ 100000000 := by
 unfold cW at h;split at h
 ·cases h
 ·rename_i hb;split at h
  ·cases h
  ·have hid : id.length ≤ 8 := by
    unfold eU at hb;simp only [Bool.or_eq_true, not_or, decide_eq_true_eq] at hb;omega
   have := pR hid ht ha aI h;refine ⟨this.1, by omega, ?_⟩
   have := this.2;omega
def DSt.set (s : DSt) (l f : Int) : DSt := { s with left := l, full := f }
def eA (id : aJ) (acts : List Mach.Action) (text : aJ) (s : DSt) : Er × DSt := match cW id acts text with
 | .error e => (some e, s)
 | .ok xs => dN xs s
def errn : Er → Int
 | none => 0
 | some n => n
def eX (s t : DSt) : Prop := if s.down = true then ∃ u, lF s u ∧ t = u.set (-1) (-1) else t = s.set (-1) (-1)
end Go.Box
end
section
namespace Go.SL
section
variable {E : Env} {fr : Fr} {K : Hl} {L : List Asn} {dst : Option Tmp} {ty : TypeId} {pos : String} {aft : Array Edge} {g : Option (Nat × Bool)} {x y : Operand} {t t' : TypeId} {m n : Int} {k : IntKind}
theorem zM (hx : fr.ev x = some (.int k m)) (hy : fr.ev y = some (.int k n)) (h0 : n ≠ 0) : Ev E fr K L ⟨dst, .binOp .rem t x y t', ty, pos, aft, g⟩ (.int k (m.tmod n)) :=
 dC hx hy dD fun w => by simp [binOp, Op.intDiv, h0, pure]
theorem aD2 (hx : fr.ev x = some (i64 m)) (h1 : -9223372036854775807 ≤ m) (h2 : m ≤ 9223372036854775808) : Ev E fr K L ⟨dst, .unOp .neg t x, ty, pos, aft, g⟩ (i64 (-m)) := fun a w f _ => by
 simp only [execOp, f.ev hx];refine cP ?_;have e : IntKind.i64.wrap (-m) = -m := kC aI aI;simp [Op.unary, Op.intArith, e]
theorem aD3 (hx : fr.ev x = some (.int k m)) (hy : fr.ev y = some (.int k n)) (h0 : n ≠ 0) : Ev E fr K L ⟨dst, .binOp .quo t x y t', ty, pos, aft, g⟩ (.int k (k.wrap (m.tdiv n))) :=
 dC hx hy dD fun w => by simp [binOp, Op.intDiv, h0, pure]
theorem tX {k' : IntKind} (hx : fr.ev x = some (.int k m)) (hy : fr.ev y = some (.int k' n)) (h0 : 0 ≤ n) : Ev E fr K L ⟨dst, .binOp .shr t x y t', ty, pos, aft, g⟩ (.int k (m.fdiv (2 ^ (min n.toNat k.bits)))) :=
 dC hx hy dD fun w => by
  have : ¬ n < 0 := by omega
  simp [binOp, Op.shift, this, pure]
theorem nN (hx : fr.ev x = some (.int k m)) (hy : fr.ev y = some (.int k n)) : Ev E fr K L ⟨dst, .binOp .and t x y t', ty, pos, aft, g⟩ (.int k (k.wrap (BitVec.ofInt k.bits m &&& BitVec.ofInt k.bits n).toNat)) :=
 dC hx hy dD fun w => by simp [binOp, Op.intBits, pure]
theorem aBZ (hx : fr.ev x = some (.int k m)) (hy : fr.ev y = some (.int k n)) : Ev E fr K L ⟨dst, .binOp .xor t x y t', ty, pos, aft, g⟩ (.int k (k.wrap (BitVec.ofInt k.bits m ^^^ BitVec.ofInt k.bits n).toNat)) :=
 dC hx hy dD fun w => by simp [binOp, Op.intBits, pure]
theorem yD {d : Int} {n : Nat} (h : 0 ≤ d) : d.tmod n = ((d.toNat % n : Nat) : Int) := by
 rw [Int.tmod_eq_emod_of_nonneg h];have : d = (d.toNat : Int) := by omega
 rw [this]; simp
end
end Go.SL
end
section
namespace Go.SL
section
variable {E : Env} {fr : Fr} {K : Hl} {L : List Asn} {dst : Option Tmp} {ty : TypeId} {pos : String} {aft : Array Edge} {g : Option (Nat × Bool)} {x y : Operand} {t e : TypeId} {n b : Nat} {k : IntKind}
theorem p9 {P : Program} (h : d7 P e = true) : ∃ inf, P.info? e = some inf ∧ inf.size = 1 := by
 unfold d7 at h;split at h
 ·cases h
 ·cases h
 ·rename_i i h1 h2; exact ⟨_, ‹P.info? e = some _›, by simpa using h⟩
 ·cases h
theorem f3 {j : Nat} {jv : Int} (hu : E.P.underlying t = some (.array n e)) (he : d7 E.P e = true) (hx : fr.ev x = some (ptr b)) (hy : fr.ev y = some (.int k jv)) (hjv : jv = (j : Int)) (hj : j < n) :
  Ev E fr K L ⟨dst, .indexAddr t x y, ty, pos, aft, g⟩ (ptr b j) := fun a w f i => by
 subst hjv;obtain ⟨inf, h2, h3⟩ := p9 he;simp only [execOp, f.ev hx, f.ev hy];refine cP ?_;unfold Instr.indexAt;simp [asIntOf, underlying, program, bind, Sem.bind, pure, Sem.run, hu, hj, sizeOf, typeInfo, h2, h3, Instr.sureAddr, dP]
theorem nJ {m : Nat} {mv : Int} {lo : Operand} (hu : E.P.underlying t = some (.array n e)) (he : d7 E.P e = true) (hx : fr.ev x = some (ptr b)) (hl : fr.ev lo = some (.int k mv)) (hm : mv = (m : Int)) (h : m < n) :
  Ev E fr K L ⟨dst, .slice t x (some lo) none none, ty, pos, aft, g⟩ (.slice (some ⟨b, m, none⟩) (n - m) (n - m)) := fun a w f i => by
 subst hm;obtain ⟨inf, h2, h3⟩ := p9 he;simp only [execOp, f.ev hx, f.ev hl, Option.map];refine cP ?_;unfold Instr.sliceAt;have hne : ¬ n = m := by omega
 have hle : m ≤ n := by omega
 simp [underlying, program, bind, Sem.bind, pure, Sem.run, hu, Instr.sliceBounds, Instr.sliceBound, asIntOf, sizeOf, typeInfo, h2, h3, Instr.sureAddr, dP, hne, hle]
theorem aBY {m : Int} (hx : fr.ev x = some (.int k m)) : Ev E fr K L ⟨dst, .unOp .neg t x, ty, pos, aft, g⟩ (.int k (k.wrap (-m))) := fun a w f _ => by
 simp only [execOp, f.ev hx];refine cP ?_;simp [Op.unary, Op.intArith]
end
end Go.SL
end
section
namespace Go.SL
theorem aDI {P : Program} {f : FuncId} {args : List Value} {K : Hl} {L : List Asn} {R R' : Ending → Hl → List Asn → Prop} (h : Sp P f args K L R)
  (k : ∀ e K' L', K.le K' → R e K' L' → R' e K' L') : Sp P f args K L R' :=
 ⟨h.1, fun F w i => (h.2 F w i).mono fun _ _ ⟨K', L', r, le, j⟩ => ⟨K', L', k _ _ _ le r, le, j⟩⟩
def nK (P : Program) (fv : Value) (f : FuncId) (vs : List Value) : Prop := ∀ w, (do let d ← Deferred.ofValue fv #[]; invoke d.target d.args).run P w = .ok (.enter f vs.toArray) w
theorem iT {P : Program} {f : FuncId} {caps : Array Value} (hb : ∃ fn, P.funcs[f]? = some fn ∧ (fn.name == "runtime.NumGoroutine") = false ∧ fn.body.isSome = true) : nK P (.func (.func f) #[] caps) f caps.toList := by
 intro w;obtain ⟨fn, h1, h2, h3⟩ := hb;simp only [Deferred.ofValue, bind, pure, Sem.bind, invoke];have := qR (vs := caps) h1 h2 h3 w
 simpa using this
theorem r8 {P : Program} {name : String} {t : TypeId} {u r : Value} {f : FuncId} (hm : ∀ w, (method (P.types.size + Made.depth) t u name).run P w = .ok (f, r) w)
  (hb : ∃ fn, P.funcs[f]? = some fn ∧ (fn.name == "runtime.NumGoroutine") = false ∧ fn.body.isSome = true) : nK P (.func (.method name) #[.iface t u] #[]) f [r] := by
 intro w;obtain ⟨fn, h1, h2, h3⟩ := hb;simp only [Deferred.ofValue, bind, pure, Sem.bind, invoke]
 show (callMethod (.iface t u) name #[]).run P w = _
 unfold callMethod;simp only [];have hp : (program).run P w = .ok P w := rfl;rw [aL hp, aL (hm w)];have := qR (vs := #[r]) h1 h2 h3 w
 simpa using this
section
variable {E : Env} {fr : Fr} {K : Hl} {L L1 L2 : List Asn} {Q : Post} {ops : Array Oper} {rest : List Oper} {ty : TypeId} {pos : String} {aft : Array Edge}
theorem sR {d : Nat} {fv : Operand} {ats : Array TypeId} {x : Value} {f : FuncId} {vs : List Value} {N : Value → Hl → List Asn → Prop} (hf : fr.ev fv = some x) (he : nK E.P x f vs) (hs : Sp E.P f vs K L1 (Ret N)) (hL : Tks L1 L L2) (hd : Nat.blt d E.n = true)
  (h : ∀ v K' L', N v K' L' → K.le K' → OL E ops rest ((d, v) :: fr) K' (L' ++ L2) Q) : OL E ops (⟨some d, .call ⟨.value fv, #[], ats⟩, ty, pos, aft, none⟩ :: rest) fr K L Q :=
 sS (r7 (N := fun v K' L'' => ∃ L', L'' = L' ++ L2 ∧ N v K' L') (fun a w fo => by
  have := he w
  simpa [execOp, resolve, fo.ev hf, bind, pure, Sem.bind] using this) hL hs (fun v K' L' ⟨u, e, n⟩ => by cases e; exact ⟨L', rfl, n⟩) (fun ch K' L' ⟨u, e, n⟩ => by cases e) (fun K' L' ⟨u, e, n⟩ => by cases e)) hd
  (fun v K' L'' ⟨L', e, n⟩ le => by subst e; exact h v K' L' n le)
theorem ev_T {o : Oper} {p : Prop} [Decidable p] (h : Ev E fr K L o (.bool (decide p))) (hp : p) : Ev E fr K L o (.bool true) := by rwa [decide_eq_true hp] at h
theorem ev_F {o : Oper} {p : Prop} [Decidable p] (h : Ev E fr K L o (.bool (decide p))) (hp : ¬ p) : Ev E fr K L o (.bool false) := by rwa [decide_eq_false hp] at h
theorem eH {o : Oper} {u v : Value} (h : Ev E fr K L o u) (e : u = v) : Ev E fr K L o v := e ▸ h
theorem iW {dst : Option Tmp} {g : Option (Nat × Bool)} {t kt et : TypeId} {x y : Operand} {b c : Nat} {k : List UInt8} {es : List Ent} {z v : Value} (hm : E.P.underlying t = some (.map kt et)) (hk : E.P.underlying kt = some .string) (hz : pE E.P et = some z) (hx : fr.ev x = some (.map (some b))) (hy : fr.ev y = some (str k)) (hs : Sees K L b (mapO es c)) (hg : mget es k = some v) :
  Ev E fr K L ⟨dst, .lookup t x y true, ty, pos, aft, g⟩ (.tuple #[v, .bool true]) := eH (oA hm hk hz hx hy hs) (by rw [hg]; rfl)
theorem gH {dst : Option Tmp} {g : Option (Nat × Bool)} {t kt et : TypeId} {x y : Operand} {b c : Nat} {k : List UInt8} {es : List Ent} {z : Value} (hm : E.P.underlying t = some (.map kt et)) (hk : E.P.underlying kt = some .string) (hz : pE E.P et = some z) (hx : fr.ev x = some (.map (some b))) (hy : fr.ev y = some (str k)) (hs : Sees K L b (mapO es c)) (hg : mget es k = none) :
  Ev E fr K L ⟨dst, .lookup t x y true, ty, pos, aft, g⟩ (.tuple #[z, .bool false]) := eH (oA hm hk hz hx hy hs) (by rw [hg]; rfl)
end
end Go.SL
end
section
namespace Go.Proofs
open Go Go.SL Go.Syn Go.Box
def Deb (K : Hl) : Prop := ∃ l T fz, K 6 = some (aW l T fz) ∧ l[15]? = some (.int .u8 4)
theorem Deb.mono {K K' : Hl} (h : Deb K) (le : K.le K') : Deb K' := let ⟨l, T, fz, h1, h2⟩ := h; ⟨l, T, fz, le _ _ h1, h2⟩
theorem yI (K : Hl) (hd : Deb K) : Sp Tryz.prog 363 [.int .u64 16] K [] (Val (i64 4) K) := by
 obtain ⟨l, T, fz, hk, hl⟩ := hd;refine bE Tryz.func363 rfl Tryz.ntmps363 rfl rfl fun F w => ?_
 refine aG (aC ?_);refine aA (aD rfl) rfl ?_;refine aF (aE ?_);refine aG (aG ?_);refine aC ?_;refine aA (aB rfl) rfl ?_;refine aA (bW rfl rfl) rfl ?_;refine aF (aE ?_);refine bL rfl ?_;refine aX ?_;refine aE (aG ?_);refine aC ?_;refine aA (aB rfl) rfl ?_;refine aA (aB rfl) rfl ?_;refine aA (eH (v := .int .u64 18446744073709551600) (aBY rfl) aY) rfl ?_;refine aA (eH (v := .int .u64 16) (nN rfl rfl) aY) rfl ?_;refine aA (eH (v := .int .u64 4573923408821661840) (vK rfl rfl) aY) rfl ?_;refine aA (eH (v := .int .u64 15) (tX rfl rfl aI) aY) rfl ?_;refine aA (f3 (j := 15) Tryz.underlying511 ts5 rfl rfl rfl aI) rfl ?_;refine aA (aM ts5 rfl (.known hk) hl) rfl ?_;refine aA (eH (v := i64 4) (eO Tryz.underlying3 Tryz.underlying5 rfl) aY) rfl ?_;refine aA (aD rfl) rfl ?_;refine aF (aE ?_);refine a8 ?_;refine bA rfl rfl (Hl.le_refl _) ?_;exact ⟨rfl, rfl, rfl⟩
theorem aC4 (K : Hl) (hd : Deb K) : Sp Tryz.prog 349 [.int .u64 16] K [] (Val (i64 4) K) := by
 refine bE Tryz.func349 rfl Tryz.ntmps349 rfl rfl fun F w => ?_
 refine aG (aC ?_);refine aA (aD rfl) rfl ?_;refine aF (aE ?_);refine aG ?_;refine bL rfl ?_;refine aX ?_;refine aE (aG ?_);refine aC ?_;refine aA (aB rfl) rfl ?_;refine bN rfl rfl (yI _ hd) rfl ?_;refine aA (aD rfl) rfl ?_;refine aF (aE ?_);refine a8 ?_;refine bA rfl rfl (Hl.le_refl _) ?_;exact ⟨rfl, rfl, rfl⟩
theorem xR (K : Hl) : Sp Tryz.prog 348 [i64 16] K [] (Val (.bool true) K) := by
 refine bE Tryz.func348 rfl Tryz.ntmps348 rfl rfl fun F w => ?_
 refine aG (aC ?_);refine aA (aD rfl) rfl ?_;refine aF (aE ?_);refine aG (aC ?_);refine aA (aB rfl) rfl ?_;refine aA (aB rfl) rfl ?_;refine aA (qW rfl rfl aI aI) rfl ?_;refine aA (eH (v := i64 0) (nN rfl rfl) aY) rfl ?_;refine aA (bW rfl rfl) rfl ?_;refine aA (aD rfl) rfl ?_;refine aF (aE ?_);refine a8 ?_;refine bA rfl rfl (Hl.le_refl _) ?_;exact ⟨rfl, rfl, rfl⟩
abbrev digs : aJ := [48, 49, 50, 51, 52, 53, 54, 55, 56, 57, 97, 98, 99, 100, 101, 102, 103, 104, 105, 106, 107, 108, 109, 110, 111, 112, 113, 114, 115, 116, 117, 118, 119, 120, 121, 122]
theorem vG : ∀ {m : Nat}, m < 16 → digs[m]? = some (iZ m) := by
 intro m h;have : ∀ k : Fin 16, digs[k.1]? = some (iZ k.1) := by decide
 exact this ⟨m, h⟩
theorem aE7 {u : Nat} (h : u < 18446744073709551616) : IntKind.u64.wrap (BitVec.ofInt 64 (u : Int) &&& BitVec.ofInt 64 (15 : Int)).toNat = ((u % 16 : Nat) : Int) := by
 have e : (BitVec.ofInt 64 (u : Int) &&& BitVec.ofInt 64 (15 : Int)).toNat = u % 16 := by
  rw [BitVec.toNat_and];have h1 : (BitVec.ofInt 64 (u : Int)).toNat = u := by rw [BitVec.ofInt_natCast, BitVec.toNat_ofNat]; omega
  have h2 : (BitVec.ofInt 64 (15 : Int)).toNat = 2 ^ 4 - 1 := rfl;rw [h1, h2, Nat.and_two_pow_sub_one_eq_mod]
 rw [e];unfold IntKind.wrap IntKind.bits IntKind.signed;simp only [Bool.false_and];have : u % 16 < 16 := Nat.mod_lt _ aI;simp; omega
theorem shr4 {u : Nat} : (u : Int).fdiv (2 ^ (min ((4 : Int).toNat) 64)) = ((u / 16 : Nat) : Int) := by
 show (u : Int).fdiv (2 ^ 4) = _
 rw [Int.fdiv_eq_ediv_of_nonneg _ aI];omega
theorem aB4 {u : Nat} (h : u < 16) : hexN u = [iZ u] := by rw [hexN, dif_pos h]
theorem aB3 {u : Nat} (h : ¬ u < 16) : hexN u = hexN (u / 16) ++ [iZ (u % 16)] := by rw [hexN, dif_neg h]
abbrev u8s (l : aJ) : List Value := l.map fun c => .int .u8 c.toNat
theorem wN {cells : List Value} {acc : aJ} {i : Nat} {c : UInt8} (h : cells.drop i = u8s acc) (hi : 0 < i) (hl : i ≤ cells.length) : (cells.set (i - 1) (.int .u8 c.toNat)).drop (i - 1) = u8s (c :: acc) := by
 have h1 : i - 1 < (cells.set (i - 1) (.int .u8 c.toNat)).length := by rw [List.length_set]; omega
 rw [List.drop_eq_getElem_cons h1, List.getElem_set_self, show i - 1 + 1 = i by omega, List.drop_set_of_lt aI, h]
 rfl
theorem aB5 {cells : List Value} {acc : aJ} {i b : Nat} {c : UInt8} {K : Hl} {T : TypeId} {fz : Nat × Nat} (hc : cells.length = 65) (hi1 : 0 < i) (hi2 : i ≤ 65) (ha : cells.drop i = u8s acc) (hk : K b = some (aW (cells.set (i - 1) (.int .u8 c.toNat)) T fz)) :
  Ksl (elB 5) K (.slice (some ⟨b, i - 1, none⟩) (65 - (i - 1)) (65 - (i - 1))) (c :: acc) := by
 have hl : acc.length = 65 - i := by have := congrArg List.length ha; simp [hc] at this; omega
 refine .inr ⟨b, i - 1, 65 - (i - 1), _, fz, ?_, ⟨_, hk⟩, ?_⟩
 ·rw [show (c :: acc).length = 65 - (i - 1) by simp [hl]; omega]
 ·rw [wN ha hi1 aI, mH];exact List.take_of_length_le (by simp [elB, k3])
theorem aAM {u i : Nat} (h1 : 49 < i) (h : u < 16 ^ (i - 49)) (hu : ¬ u < 16) : 49 < i - 1 ∧ u / 16 < 16 ^ (i - 1 - 49) := by
 obtain ⟨k, rfl⟩ : ∃ k, i = k + 50 := ⟨i - 50, by omega⟩;cases k with
 | zero => exact absurd (by simpa using h) hu
 | succ k =>
  refine ⟨by omega, ?_⟩
  have e1 : k + 1 + 50 - 49 = k + 1 + 1 := by omega
  have e2 : k + 1 + 50 - 1 - 49 = k + 1 := by omega
  rw [e1, Nat.pow_succ] at h;rw [e2];exact Nat.div_lt_of_lt_mul (by rw [Nat.mul_comm]; exact h)
theorem rV (n : Nat) (hn : n < 18446744073709551616) (K : Hl) (hd : Deb K) : Sp Tryz.prog 328 [.slice none 0 0, .int .u64 n, i64 16, .bool false, .bool false] K [] (Ret fun v K' L' => v = .tuple #[.slice none 0 0, str (hexN n)]) := by
 refine bE Tryz.func328 rfl Tryz.ntmps328 rfl rfl fun F w => ?_
 refine aG (aC ?_);refine aA (aD rfl) rfl ?_;refine aA (aD rfl) rfl ?_;refine aF (aE ?_);refine aG (aG ?_);refine aC ?_;refine aA (aB rfl) rfl ?_;refine aA (cZ rfl rfl) rfl ?_;refine aA (aB rfl) rfl ?_;refine aT rfl rfl ?_;refine aA (aB rfl) rfl ?_;refine aT rfl rfl ?_;refine aA (bW rfl rfl) rfl ?_;refine aA (aZ rfl rfl) rfl ?_;refine aA (aB rfl) rfl ?_;refine aT rfl rfl ?_;refine aA (aB rfl) rfl ?_;refine aT rfl rfl ?_;refine aA (iV rfl rfl) rfl ?_;refine aA (aZ rfl rfl) rfl ?_;refine aF (aE ?_);refine bL rfl ?_;refine aX ?_;refine aE (aG ?_);refine aC ?_;refine ol_s (dI aFY) rfl ?_;rintro _ K _ ⟨b12, rfl, rfl, rfl⟩ -;refine aF (aE ?_);refine aG (aC ?_);refine aA (aD rfl) rfl ?_;refine aF (aE ?_);refine aG (aG ?_);refine aC ?_;refine aA (aB rfl) rfl ?_;refine aF (aE ?_);refine bL rfl ?_;refine aX ?_;refine aE (aG ?_);refine aG (aC ?_);refine aA (aB rfl) rfl ?_;refine bN rfl rfl (xR _) rfl ?_;refine aF (aE ?_);refine dH rfl ?_;refine aG (aC ?_);refine aA (aB rfl) rfl ?_;refine aA (eH (v := .int .u64 16) (eO Tryz.underlying257 Tryz.underlying3 rfl) aY) rfl ?_;refine bN rfl rfl (aC4 _ hd) rfl ?_;refine aA (eH (v := .int .u64 4) (eO Tryz.underlying257 Tryz.underlying3 rfl) aY) rfl ?_;refine aA (aD rfl) rfl ?_;refine aF (aE ?_);refine aG (aC ?_);refine aA (aB rfl) rfl ?_;refine aA (eH (v := .int .u64 16) (eO Tryz.underlying345 Tryz.underlying3 rfl) aY) rfl ?_;refine aA (aD rfl) rfl ?_;refine aF (aE ?_);refine aG (aC ?_);refine aA (aB rfl) rfl ?_;refine aA (eH (v := .int .u64 16) (eO Tryz.underlying257 Tryz.underlying3 rfl) aY) rfl ?_;refine aA (eH (v := .int .u64 15) (nO rfl rfl) aY) rfl ?_;refine aA (aD rfl) rfl ?_;refine aF (aE ?_);refine aG (a7 ?_);refine g0 (fun (u i : Nat) (cells : List Value) => cells.length = 65 ∧ 49 < i ∧ i ≤ 65 ∧ u < 16 ^ (i - 49) ∧ u < 18446744073709551616 ∧ ∃ acc, cells.drop i = u8s acc ∧ hexN n = hexN u ++ acc) (fun u i _ => [(1, .int .u64 u), (3, .bool false), (4, .bool false), (10, .slice none 0 0), (12, ptr b12), (13, i64 i), (14, .int .u64 4), (15, .int .u64 16), (16, .int .u64 15)]) (fun _ _ _ => K) (fun _ _ cells => [pt b12 (aW cells 476)]) (fun u _ _ => u) n 65 _ ⟨rfl, by omega, by omega, by simpa using hn, hn, [], rfl, by simp⟩ (.cons 1 rfl (.cons 3 rfl (.cons 4 rfl (.cons 10 rfl (.cons 12 rfl (.cons 13 rfl (.cons 14 rfl (.cons 15 rfl (.cons 16 rfl .nil))))))))) rfl (fun _ h => h) ?_;intro u i cells ⟨hc, hi1, hi2, hu1, hu2, acc, ha1, ha2⟩;refine aG (aG ?_);refine aC ?_;refine aA (aB rfl) rfl ?_;refine aA (aB rfl) rfl ?_;refine aA (gG rfl rfl) rfl ?_;refine aF (aE ?_);refine bJ 46 rfl (fun h46 => ?_) (fun h46 => ?_)
 ·
  have hi3 := aAM hi1 hu1 aI;refine aX ?_;refine aE (a7 ?_);refine aG (aC ?_);refine aA (aB rfl) rfl ?_;refine aA (eH (v := i64 ((i - 1 : Nat) : Int)) (qW rfl rfl aI aI) (congrArg i64 aI)) rfl ?_;refine aA (aD rfl) rfl ?_;refine aF (aE ?_);refine aG (aC ?_);refine aA (aB rfl) rfl ?_;refine aA (aB rfl) rfl ?_;refine aA (aB rfl) rfl ?_;refine aA (eH (v := .int .u64 ((u % 16 : Nat) : Int)) (nN rfl rfl) (congrArg (Value.int .u64) (aE7 hu2))) rfl ?_;refine aA (cY Tryz.underlying9 (l := digs) rfl rfl rfl (vG (Nat.mod_lt _ aI))) rfl ?_;refine aA (f3 Tryz.underlying476 ts5 rfl rfl rfl aI) rfl ?_;refine cQ (bT ts5 rfl rfl rfl bI (mP aI) rfl) ?_;rintro _ K _ ⟨rfl, rfl⟩ -;refine aF (aE ?_);refine aC ?_;refine aA (aB rfl) rfl ?_;refine aA (aB rfl) rfl ?_;refine aA (eH (v := .int .u64 ((u / 16 : Nat) : Int)) (tX rfl rfl aI) (congrArg (Value.int .u64) shr4)) rfl ?_;refine aA (aD rfl) rfl ?_;refine aF (aU ?_);exact fL (u / 16) (i - 1) _ ⟨by simpa using hc, hi3.1, by omega, hi3.2, by omega, _, wN (c := iZ (u % 16)) ha1 aI aI, by rw [ha2, aB3 aI]; simp⟩ aI (.cons 1 rfl (.cons 3 rfl (.cons 4 rfl (.cons 10 rfl (.cons 12 rfl (.cons 13 rfl (.cons 14 rfl (.cons 15 rfl (.cons 16 rfl .nil))))))))) rfl (fun _ h => h)
 ·
  refine cK ?_;refine aP ?_;refine aP ?_;refine bB ?_;refine aE (aG ?_);refine aC ?_;refine aA (aB rfl) rfl ?_;refine aA (eH (v := i64 ((i - 1 : Nat) : Int)) (qW rfl rfl aI aI) (congrArg i64 aI)) rfl ?_;refine aA (aD rfl) rfl ?_;refine aF (aE ?_);refine aC ?_;refine aA (aB rfl) rfl ?_;refine aA (aB rfl) rfl ?_;refine aA (cY Tryz.underlying9 (l := digs) rfl rfl rfl (vG aI)) rfl ?_;refine aA (f3 Tryz.underlying476 ts5 rfl rfl rfl aI) rfl ?_;refine cQ (bT ts5 rfl rfl rfl bI (mP aI) rfl) ?_;rintro _ K _ ⟨rfl, rfl⟩ -;refine aF (aE ?_);refine aG (aG ?_);refine aC ?_;refine aA (aB rfl) rfl ?_;refine aF (aE ?_);refine bL rfl ?_;refine aX ?_;refine aE (aG ?_);refine aG (aC ?_);refine aA (aB rfl) rfl ?_;refine aF (aE ?_);refine bL rfl ?_;refine aX ?_;refine aE (aG ?_);refine aC ?_;refine kK fun K2 le2 hb => ?_
  refine aA (aB rfl) rfl ?_;refine aA (nJ Tryz.underlying476 ts5 rfl rfl rfl aI) rfl ?_;refine aA (fM Tryz.underlying130 Tryz.underlying5 Tryz.underlying9 rfl (.known (aB5 hc aI hi2 ha1 hb))) rfl ?_;refine aA (aD rfl) rfl ?_;refine aF (aE ?_);refine a8 ?_;refine cR rfl rfl rfl le2 ?_;exact ⟨_, rfl, by rw [ha2, aB4 aI]; rfl⟩
theorem aD9 (n : Nat) (hn : n < 18446744073709551616) (K : Hl) (hd : Deb K) : Sp Tryz.prog 294 [.int .u64 n, i64 16] K [] (Ret fun v K' L' => v = str (hexN n)) := by
 refine bE Tryz.func294 rfl Tryz.ntmps294 rfl rfl fun F w => ?_
 refine aG (aC ?_);refine aA (aD rfl) rfl ?_;refine aF (aE ?_);refine aG (aG ?_);refine aC ?_;refine aA (aB rfl) rfl ?_;refine aA (bW rfl rfl) rfl ?_;refine aF (aE ?_);refine bL rfl ?_;refine aX ?_;refine aE (aG ?_);refine aC ?_;refine aA (aB rfl) rfl ?_;refine aA (aB rfl) rfl ?_;refine bH rfl rfl (rV n hn _ hd) .nil rfl ?_;rintro _ K1 L1 rfl le1;refine aA (aB rfl) rfl ?_;refine aA (aQ rfl rfl) rfl ?_;refine aA (aQ rfl rfl) rfl ?_;refine aA (aD rfl) rfl ?_;refine aA (aD rfl) rfl ?_;refine aF (aE ?_);refine aG (aC ?_);refine aA (aB rfl) rfl ?_;refine aA (aD rfl) rfl ?_;refine aF (aE ?_);refine a8 ?_;refine bA rfl rfl le1 ?_;exact ⟨_, rfl, rfl⟩
theorem qY (n : Nat) (hn : n < 18446744073709551616) (K : Hl) (hd : Deb K) : Sp Tryz.prog 225 [.int .u64 n, i64 16] K [] (Val (str (hexN n)) K) := by
 have h : Sp Tryz.prog 225 [.int .u64 n, i64 16] K [] (fun e _ L' => (fun e L' => e = .returned (str (hexN n)) ∧ L' = []) e L') := by
  refine bE Tryz.func225 rfl Tryz.ntmps225 rfl rfl fun F w => ?_
  refine aG (aC ?_);refine aA (aD rfl) rfl ?_;refine aF (aE ?_);refine aG (aC ?_);refine aA (aB rfl) rfl ?_;refine aA (aB rfl) rfl ?_;refine bH rfl rfl (aD9 n hn _ hd) .nil rfl ?_;rintro _ K1 L1 rfl le1;refine aA (aD rfl) rfl ?_;refine aF (aE ?_);refine a8 ?_;refine bF .nil ?_;refine bA rfl rfl le1 ?_;exact ⟨rfl, rfl⟩
 exact (aCV h).mono fun e K' L' ⟨h1, h2, h3⟩ => ⟨h2, h1, h3⟩
end Go.Proofs
end
section
set_option maxRecDepth 100000
namespace Go.Proofs
open Go Go.SL Go.ChangeShapes Go.WideShapes Go.RowKit
namespace TzRow
abbrev laid6 : List (String × DataW Unit) := [("math/bits.deBruijn32tab", YthopmddkpdehiaaGreatDoor.Rows.laid_math_bits_deBruijn32tab), ("math/bits.deBruijn64tab", YthopmddkpdehiaaGreatDoor.Rows.laid_math_bits_deBruijn64tab), ("internal/strconv.uint64pow10", YthopmddkpdehiaaGreatDoor.Rows.laid_internal_strconv_uint64pow10), ("errors.errorType", YthopmddkpdehiaaGreatDoor.Rows.laid_errors_errorType), ("strconv.ErrRange", YthopmddkpdehiaaGreatDoor.Rows.laid_strconv_ErrRange), ("strconv.ErrSyntax", YthopmddkpdehiaaGreatDoor.Rows.laid_strconv_ErrSyntax)]
def aE9 : List Int := [0, 1, 56, 2, 57, 49, 28, 3, 61, 58, 42, 50, 38, 29, 17, 4, 62, 47, 59, 36, 45, 43, 51, 22, 53, 39, 33, 30, 24, 18, 12, 5, 63, 55, 48, 27, 60, 41, 37, 16, 46, 35, 44, 21, 52, 32, 23, 11, 54, 26, 40, 15, 34, 20, 31, 10, 25, 14, 19, 9, 13, 8, 7, 6]
theorem gDeb : Tryz.prog.globalNamed "math/bits.deBruijn64tab" = some 6 := by kernel_rfl
theorem aFC : (Tryz.prog.globals[6]?).map (·.type) = some 511 := by kernel_rfl
theorem of_laid6 {W : World} (hL : laidMetH Tryz.prog laid6 W) (hS : W.ShapedOpen Tryz.prog) : Glob (hp W) ∧ ErrT (hp W) ∧ Deb (hp W) := by
 have h' : laidMet Tryz.prog [("math/bits.deBruijn32tab", YthopmddkpdehiaaGreatDoor.Rows.laid_math_bits_deBruijn32tab), ("math/bits.deBruijn64tab", YthopmddkpdehiaaGreatDoor.Rows.laid_math_bits_deBruijn64tab), ("internal/strconv.uint64pow10", YthopmddkpdehiaaGreatDoor.Rows.laid_internal_strconv_uint64pow10), ("strconv.ErrRange", YthopmddkpdehiaaGreatDoor.Rows.laid_strconv_ErrRange), ("strconv.ErrSyntax", YthopmddkpdehiaaGreatDoor.Rows.laid_strconv_ErrSyntax)] W ∧ handlesMet Tryz.prog [("errors.errorType", YthopmddkpdehiaaGreatDoor.Rows.laid_errors_errorType)] W := hL;refine ⟨⟨aAD hS, fun w le => ?_⟩, xP (l := []) h'.2, ?_⟩
 ·exact aEV (Lib.tabIs_of_head (rest := [("strconv.ErrRange", YthopmddkpdehiaaGreatDoor.Rows.laid_strconv_ErrRange), ("strconv.ErrSyntax", YthopmddkpdehiaaGreatDoor.Rows.laid_strconv_ErrSyntax)]) gPow aFD Tryz.underlying475 Tryz.underlying345 aY aY (h'.1.tail.tail)) le
 ·have ht : Lib.TabIs Tryz.prog W "math/bits.deBruijn64tab" .u8 aE9 := Lib.tabIs_of_head (rest := [("internal/strconv.uint64pow10", YthopmddkpdehiaaGreatDoor.Rows.laid_internal_strconv_uint64pow10), ("strconv.ErrRange", YthopmddkpdehiaaGreatDoor.Rows.laid_strconv_ErrRange), ("strconv.ErrSyntax", YthopmddkpdehiaaGreatDoor.Rows.laid_strconv_ErrSyntax)]) gDeb aFC Tryz.underlying511 Tryz.underlying5 aY aY h'.1.tail;unfold Lib.TabIs World.var? at ht;rw [gDeb] at ht;simp only [Option.bind_some] at ht;split at ht
  ·rename_i cs T fz hw;have := Option.some.inj ht;subst this;exact ⟨_, T, fz, hw, rfl⟩
  ·cases ht
theorem door_met6 (os : Os) (args : Array Value) : laidMetH Tryz.prog laid6 ((World.doorLaid Tryz.prog 100 os).forCall (fun _ _ => 0) ⟨#[], args, []⟩).memory :=
 laidMetH_of_parts3 (fuel := 8) (laidMet_of_run' 8 aY aY) aY aY
end TzRow
end Go.Proofs
end
section
namespace Go.SL
open Go.MapKept
def mdel (k : List UInt8) : List Ent → List Ent
 | [] => []
 | e :: r => if k = e.1 then r else e :: mdel k r
theorem pX {k : List UInt8} : ∀ {es : List Ent} {i : Nat}, eV k es i = none → mdel k es = es
 | [], _, _ => rfl
 | e :: es, i, h => by
  unfold eV at h;unfold mdel;split at h
  ·cases h
  ·rename_i hk;rw [if_neg hk, pX h]
theorem vS {k : List UInt8} : ∀ {es : List Ent} {i j : Nat} {u : Value}, eV k es i = some (j, u) → i ≤ j ∧ j - i < es.length ∧ es.eraseIdx (j - i) = mdel k es
 | [], _, _, _, h => by cases h
 | e :: es, i, j, u, h => by
  unfold eV at h;unfold mdel;split at h
  ·rename_i hk;cases h
   rw [if_pos hk, Nat.sub_self];exact ⟨Nat.le_refl _, by simp, rfl⟩
  ·rename_i hk;obtain ⟨h1, h2, h3⟩ := vS h;have e1 : j - i = (j - (i + 1)) + 1 := by omega
   rw [if_neg hk, e1];refine ⟨by omega, by simp only [List.length_cons]; omega, ?_⟩
   rw [List.eraseIdx_cons_succ, h3]
theorem lP {α β : Type} (f : α → β) : ∀ (l : List α) (i : Nat), (l.map f).eraseIdx i = (l.eraseIdx i).map f
 | [], _ => rfl
 | _ :: _, 0 => rfl
 | a :: l, i + 1 => by simp [List.eraseIdx_cons_succ, lP f l i]
section
variable {E : Env} {fr : Fr} {K : Hl} {L L' : List Asn} {dst : Option Tmp} {ty : TypeId} {pos : String} {aft : Array Edge} {g : Option (Nat × Bool)} {x y : Operand} {t kt et t2 : TypeId} {b : Nat} {es : List Ent} {c : Nat} {k : List UInt8}
theorem uO {P : Program} {w : World} (hm : P.underlying t = some (.map kt et)) (hk : P.underlying kt = some .string) (hb : w.heap[b]? = some (mapO es c)) :
  (Builtin.delete_ #[t, t2] ty #[.map (some b), str k]).run P w = .ok (.tuple #[]) { w with heap := w.heap.setIfInBounds b (mapO (mdel k es) c) } := by
 have h1 : ∀ z, (Instr.checkKey z 10000 kt (str k)).run P w = .ok () w := fun z => run_checkKey hk (d := .string) (k := str k) trivial _ 9999
 have h2 := run_findKey (w := w) (kt := kt) hk (gW k es 0);unfold Builtin.delete_;simp only [List.getElem?_toArray, List.getElem?_cons_zero, List.getElem?_cons_succ];rw [aL (run_underlying hm w)];simp only [];have key : ∀ o : Obj, (setObj b o).run P w = .ok () { w with heap := w.heap.setIfInBounds b o } := fun o => MapKept.run_setObj_map _ hb
 show ((getObj b) >>= fun _ => _).run P w = _
 rw [aL (MapKept.run_getObj_map hb)];simp only [];rw [aL (h1 _)]
 show ((Instr.findKey kt (str k) (es.map ent)) >>= fun _ => _).run P w = _
 rw [aL h2];cases hf : eV k es 0 with
 | none =>
  show ((setObj b (mapO es c)) >>= fun _ => _).run P w = _
  rw [aL (key _), pX hf]; rfl
 | some p =>
  obtain ⟨i, u⟩ := p;obtain ⟨_, h3, h4⟩ := vS hf;rw [Nat.sub_zero] at h3 h4;have e1 : ((es.map ent).toArray.eraseIdxIfInBounds i) = ((mdel k es).map ent).toArray := by
   rw [← h4];simp [Array.eraseIdxIfInBounds, h3, List.eraseIdx_toArray, lP]
  show ((setObj b (.map ((es.map ent).toArray.eraseIdxIfInBounds i) c)) >>= fun _ => _).run P w = _
  rw [aL (key _), e1]; rfl
theorem aAQ {dst : Option Tmp} {ats : Array TypeId} (ha : ats = #[t, t2]) (hm : E.P.underlying t = some (.map kt et)) (hk : E.P.underlying kt = some .string) (hx : fr.ev x = some (.map (some b))) (hy : fr.ev y = some (str k))
  (hF : Fnd (pt b (mapO es c)) (pt b (mapO (mdel k es) c)) L L') : EfS E fr K L ⟨dst, .call ⟨.builtin .delete, #[x, y], ats⟩, ty, pos, aft, g⟩ (fun u K' L'' => u = .tuple #[] ∧ K' = K ∧ L'' = L') := by
 intro a w f j;subst ha;have hb := j.mem hF;have e1 : Array.map a.eval #[x, y] = #[.map (some b), str k] := by simp [f.ev hx, f.ev hy]
 have hs := MapKept.heap_set (o' := mapO (mdel k es) c) hb;refine ⟨_, _, _, _, .inl ?_, ⟨rfl, rfl, rfl⟩, Hl.le_refl _, j.writeAt hF (by simp) hs.1 hs.2⟩
 simp only [execOp, resolve, e1, bind, pure, Sem.bind, invoke, builtin];exact cP (uO hm hk hb)
end
end Go.SL
end
section
namespace Go.SL
open Go.MapKept
theorem sZ {P : Program} (w : World) (ty : TypeId) (b bm since c0 : Nat) (seen : Array Nat) (es : Array MapEntry) (clock : Nat) (hbi : w.heap[b]? = some (.mapIter (some bm) since seen c0)) (hb : w.heap[bm]? = some (.map es clock)) (hold : ∀ x ∈ es.toList, x.born < since) (hsc : since ≤ c0) :
  ((leftOf es seen).size = 0 ∧ (Instr.next (.pointer (some ⟨b, 0, none⟩)) false ty).run P w = .ok (.tuple #[.bool false]) w) ∨
  ∃ e ∈ (leftOf es seen).toList, ∃ w1 : World, w1.os = w.os ∧ w1.tape = w.tape ∧ w1.output = w.output ∧ w1.heap = w.heap ∧ (Instr.next (.pointer (some ⟨b, 0, none⟩)) false ty).run P w = .ok (.tuple #[.bool true, e.key, e.val]) { w1 with heap := w.heap.setIfInBounds b (.mapIter (some bm) since (seen.push e.born) clock) } := by
 simp only [Instr.next, getObj, Sem.run_bind, Sem.run, hbi, hb, Result.andThen, next_test_false seen es since c0 hold hsc, Bool.false_eq_true, if_false];unfold leftOf;have hmem : ∀ x ∈ (Array.filter (fun e => !seen.contains e.born) es).toList, x.born < since := fun x hx => hold x (by simp at hx ⊢; exact hx.1)
 generalize Array.filter (fun e => !seen.contains e.born) es = L at hmem ⊢
 have e1 : L.filter (fun x => decide (x.born < since)) = L := Array.filter_eq_self.2 (fun x hx => by simpa using hmem x (by simpa using hx));have e2 : L.filter (fun x => decide (x.born ≥ since)) = #[] := by
  rw [Array.filter_eq_empty_iff];intro x hx;have := hmem x (by simpa using hx);simp;omega
 simp only [e1, e2, Array.append_empty]
 by_cases h0 : L.size = 0
 ·left
  have : L = #[] := Array.eq_empty_of_size_eq_zero h0;subst this;refine ⟨rfl, ?_⟩
  simp [choose, Sem.run, Question.forced]
 ·right
  have hne : L.isEmpty = false := by simp [Array.isEmpty, h0]
  simp only [hne, Bool.false_eq_true, if_false, Array.empty_append, Array.size_map];have hch : ∃ (j : Nat) (w1 : World), j < L.size ∧ (w1.os = w.os ∧ w1.tape = w.tape ∧ w1.output = w.output ∧ w1.heap = w.heap) ∧ (choose (Question.mapNext L.size)).run P w = .ok j w1 := by
   by_cases hf : L.size ≤ 1
   ·exact ⟨0, w, by omega, ⟨rfl, rfl, rfl, rfl⟩, by simp [choose, Sem.run, Question.forced, hf]⟩
   ·exact ⟨_, w.drew, Nat.mod_lt _ aI, ⟨rfl, rfl, rfl, rfl⟩, by
     simp only [choose, Sem.run, Question.forced, decide_eq_true_eq, hf, if_false, Question.cut]
     rfl⟩
  obtain ⟨j, w1, hj, ⟨a1, a2, a3, a4⟩, hrun⟩ := hch;refine ⟨L[j], by simp, w1, a1, a2, a3, a4, ?_⟩
  have hset : ∀ (o' : Obj), (setObj b o').run P w1 = .ok () { w1 with heap := w.heap.setIfInBounds b o' } := fun o' => by
   simp only [setObj, Sem.run];rw [a4, hbi]
  simp only [hrun, Array.getElem?_map, Array.getElem?_eq_getElem hj, Option.map_some, Sem.run_bind, hset, Result.andThen]
  rfl
abbrev mit (b m since : Nat) (seen : List Nat) (last : Nat) : Asn := pt b (.mapIter (some m) since seen.toArray last)
structure Fresh (es : List Ent) (c : Nat) : Prop where
 lt : ∀ e ∈ es, e.2.2 < c
 nd : (es.map (·.2.2)).Nodup
section
variable {E : Env} {fr : Fr} {K : Hl} {L L' : List Asn} {dst : Option Tmp} {ty : TypeId} {pos : String} {aft : Array Edge} {g : Option (Nat × Bool)} {x : Operand} {t kt et : TypeId} {b m c : Nat} {es : List Ent} {seen : List Nat}
theorem oX (hu : E.P.underlying t = some (.map kt et)) (hx : fr.ev x = some (.map (some m))) (hs : Sees K L m (mapO es c)) : EfS E fr K L ⟨dst, .range t x, ty, pos, aft, g⟩ (fun v K' L' => ∃ b, v = ptr b ∧ K' = K ∧ L' = mit b m c [] c :: L) := by
 intro a w f i;have hb := hs.at i;refine ⟨ptr w.heap.size, w.alloc (.mapIter (some m) c #[] c), K, mit w.heap.size m c [] c :: L, .inl ?_, ⟨_, rfl, rfl, rfl⟩, Hl.le_refl _, i.alloc _⟩
 simp only [execOp, f.ev hx, bind];exact aL (run_range_map w t kt et m _ c hu hb)
theorem p8 {M : Nat → List Asn} (hx : fr.ev x = some (ptr b)) (hs : Sees K L m (mapO es c)) (hf : Fresh es c) (hT : ∀ n, Fnd (mit b m c seen c) (mit b m c (seen ++ [n]) c) L (M n)) :
  EfS E fr K L ⟨dst, .next x false, ty, pos, aft, g⟩ (fun v K' L'' => K' = K ∧ ((v = .tuple #[.bool false] ∧ L'' = L ∧ ∀ e ∈ es, e.2.2 ∈ seen) ∨ ∃ e ∈ es, e.2.2 ∉ seen ∧ v = .tuple #[.bool true, str e.1, e.2.1] ∧ L'' = M e.2.2)) := by
 intro a w f i;have hb := hs.at i;have hbi := i.mem (hT 0);have hold : ∀ y ∈ ((es.map ent).toArray).toList, y.born < c := by
  intro y hy;have hy2 : y ∈ es.map ent := hy;obtain ⟨e, he, rfl⟩ := List.mem_map.1 hy2;exact hf.lt e he
 rcases sZ (P := E.P) w ty b m c c seen.toArray (es.map ent).toArray c hbi hb hold (Nat.le_refl _) with ⟨h0, hr⟩ | ⟨y, hy, w1, a1, a2, a3, a4, hr⟩
 ·refine ⟨_, w, K, L, .inl ?_, ⟨rfl, .inl ⟨rfl, rfl, fun e he => ?_⟩⟩, Hl.le_refl _, i⟩
  ·simp only [execOp, f.ev hx, bind];exact aL hr
  ·apply Classical.byContradiction
   intro hn;have : ent e ∈ (leftOf (es.map ent).toArray seen.toArray).toList := by
    unfold leftOf;simp only [Array.toList_filter, List.mem_filter];exact ⟨List.mem_map_of_mem he, by simp [ent, hn]⟩
   have h1 := List.length_pos_of_mem this;rw [Array.length_toList] at h1;omega
 ·unfold leftOf at hy;simp only [Array.toList_filter, List.mem_filter] at hy;obtain ⟨e, he, rfl⟩ := List.mem_map.1 hy.1;have hn : e.2.2 ∉ seen := by have := hy.2; simpa [ent] using this
  refine ⟨_, { w1 with heap := w.heap.setIfInBounds b (.mapIter (some m) c (seen.toArray.push (ent e).born) c) }, K, M e.2.2, .inl ?_, ⟨rfl, .inr ⟨e, he, hn, rfl, rfl⟩⟩, Hl.le_refl _, ?_⟩
  ·simp only [execOp, f.ev hx, bind];exact aL hr
  ·have hlt : b < w.heap.size := (Array.getElem?_eq_some_iff.1 hbi).1;have e1 : (seen.toArray.push (ent e).born) = (seen ++ [e.2.2]).toArray := by simp [ent]
   rw [e1];have j := i.writeAt (hT e.2.2) (H := w.heap.setIfInBounds b (.mapIter (some m) c (seen ++ [e.2.2]).toArray c)) (by simp) (by simp [hlt]) (fun y hy => by rw [Array.getElem?_setIfInBounds_ne (Ne.symm hy)]);exact ⟨a1.trans j.os, a2.trans j.tape, a3.trans j.output, j.size, j.rep⟩
theorem rD {P : Program} (w : World) (b bm since : Nat) (seen : Array Nat) (es : Array MapEntry) (clock : Nat) (e : MapEntry) (hbi : w.heap[b]? = some (.mapIter (some bm) since (seen.push e.born) clock)) (hb : w.heap[bm]? = some (.map es clock)) (he : e ∈ es.toList) (hn : (es.toList.map (·.born)).Nodup) :
  (Instr.entry (.pointer (some ⟨b, 0, none⟩))).run P w = .ok (.tuple #[e.key, e.val]) w := by
 have hf : es.find? (·.born == e.born) = some e := by rw [← Array.find?_toList]; exact find_born e es.toList hn he
 simp only [Instr.entry, getObj, Sem.run_bind, Sem.run, hbi, hb, Result.andThen, Array.back?_push, bne_self_eq_false, Bool.false_eq_true, if_false, hf]
 rfl
theorem m8 {e : Ent} (hx : fr.ev x = some (ptr b)) (hs : Sees K L m (mapO es c)) (hf : Fresh es c) (he : e ∈ es) (hT : Hs (mit b m c (seen ++ [e.2.2]) c) L) : Ev E fr K L ⟨dst, .entry x, ty, pos, aft, g⟩ (.tuple #[str e.1, e.2.1]) := by
 intro a w f i;have hb := hs.at i;have hbi := (Sees.own (K := K) hT).at i;have e1 : (seen.toArray.push (ent e).born) = (seen ++ [e.2.2]).toArray := by simp [ent]
 simp only [execOp, f.ev hx, bind];refine aL (rD w b m c seen.toArray (es.map ent).toArray c (ent e) (by rw [e1]; exact hbi) hb (List.mem_map_of_mem he) ?_)
 have := hf.nd
 show ((es.map ent).map (·.born)).Nodup
 rw [List.map_map];exact this
end
end Go.SL
end
section
namespace Go.SL
theorem dY (k : List UInt8) (e : Ent) (es : List Ent) : mget (e :: es) k = if k = e.1 then some e.2.1 else mget es k := by
 unfold mget;rw [List.find?_cons]
 by_cases h : k = e.1
 ·simp [h]
 ·rw [if_neg h]; simp [h]
theorem oN {k : List UInt8} {v : Value} {c : Nat} : ∀ (es : List Ent), (mset k v c es).map (·.2.2) = if (mget es k).isSome = true then es.map (·.2.2) else es.map (·.2.2) ++ [c]
 | [] => by simp [mset, mget]
 | e :: es => by
  unfold mset;rw [dY]
  by_cases h : k = e.1
  ·rw [if_pos h, if_pos h]; simp
  ·rw [if_neg h, if_neg h, List.map_cons, oN es];split <;> simp
theorem pZ {k : List UInt8} {v : Value} {c : Nat} : ∀ (es : List Ent), (mset k v c es).map (·.1) = if (mget es k).isSome = true then es.map (·.1) else es.map (·.1) ++ [k]
 | [] => by simp [mset, mget]
 | e :: es => by
  unfold mset;rw [dY]
  by_cases h : k = e.1
  ·rw [if_pos h, if_pos h]; simp
  ·rw [if_neg h, if_neg h, List.map_cons, pZ es];split <;> simp
theorem jX {k : List UInt8} : ∀ (es : List Ent), (mget es k).isSome = true ↔ k ∈ es.map (·.1)
 | [] => by simp [mget]
 | e :: es => by
  rw [dY]
  by_cases h : k = e.1
  ·rw [if_pos h]; simp [h]
  ·rw [if_neg h, jX es]; simp [h]
theorem mM {k j : List UInt8} {v : Value} {c : Nat} : ∀ (es : List Ent), mget (mset k v c es) j = if j = k then some v else mget es j
 | [] => by
  unfold mset; rw [dY]
 | e :: es => by
  unfold mset
  by_cases h : k = e.1
  ·rw [if_pos h, dY, dY]
   by_cases h2 : j = k
   ·rw [if_pos h2, if_pos (by rw [h2]; exact h)]
   ·rw [if_neg h2, if_neg (fun h3 => h2 (h3.trans h.symm)), if_neg (fun h3 => h2 (h3.trans h.symm))]
  ·rw [if_neg h, dY, dY, mM es]
   by_cases h2 : j = e.1
   ·rw [if_pos h2, if_pos h2, if_neg (fun h3 => h (h3.symm.trans h2))]
   ·rw [if_neg h2, if_neg h2]
theorem lU {k : List UInt8} : ∀ (es : List Ent), (mdel k es).Sublist es
 | [] => .slnil
 | e :: es => by
  unfold mdel;split
  ·exact List.sublist_cons_self _ _
  ·exact (lU es).cons_cons _
theorem q8 {k : List UInt8} {es : List Ent} (h : k ∉ es.map (·.1)) : mget es k = none := by
 cases hm : mget es k with
 | none => rfl
 | some v => exact absurd ((jX es).1 (by rw [hm]; rfl)) h
theorem pY {k j : List UInt8} : ∀ {es : List Ent}, (es.map (·.1)).Nodup → mget (mdel k es) j = if j = k then none else mget es j
 | [], _ => by simp [mdel, mget]
 | e :: es, hn => by
  have hn' : e.1 ∉ es.map (·.1) ∧ (es.map (·.1)).Nodup := List.nodup_cons.1 hn;unfold mdel
  by_cases h : k = e.1
  ·rw [if_pos h, dY]
   by_cases h2 : j = k
   ·rw [if_pos h2]; exact q8 (by rw [h2, h]; exact hn'.1)
   ·rw [if_neg h2, if_neg (fun h3 => h2 (h3.trans h.symm))]
  ·rw [if_neg h, dY, dY, pY hn'.2]
   by_cases h2 : j = e.1
   ·rw [if_pos h2, if_pos h2, if_neg (fun h3 => h (h3.symm.trans h2))]
   ·rw [if_neg h2, if_neg h2]
theorem Fresh.nil : Fresh [] 0 := by
 refine ⟨?_, List.nodup_nil⟩
 intro e h;cases h
theorem Fresh.set {es : List Ent} {c : Nat} {k : List UInt8} {v : Value} (h : Fresh es c) : Fresh (mset k v c es) (jJ es k c) := by
 have hb := oN (k := k) (v := v) (c := c) es;refine ⟨fun e he => ?_, ?_⟩
 ·have hm : e.2.2 ∈ (mset k v c es).map (·.2.2) := List.mem_map_of_mem he;rw [hb] at hm;unfold jJ;split at hm
  ·rename_i h1;rw [if_pos h1];obtain ⟨f, hf, e2⟩ := List.mem_map.1 hm;rw [← e2]; exact h.lt f hf
  ·rename_i h1;rw [if_neg h1];rcases List.mem_append.1 hm with hm | hm
   ·obtain ⟨f, hf, e2⟩ := List.mem_map.1 hm;have := h.lt f hf;omega
   ·have := List.mem_singleton.1 hm;omega
 ·rw [hb];split
  ·exact h.nd
  ·refine List.nodup_append.2 ⟨h.nd, by simp, fun a ha b hb => ?_⟩
   obtain ⟨f, hf, rfl⟩ := List.mem_map.1 ha;have := h.lt f hf;have := List.mem_singleton.1 hb;omega
theorem Fresh.del {es : List Ent} {c : Nat} {k : List UInt8} (h : Fresh es c) : Fresh (mdel k es) c :=
 ⟨fun e he => h.lt e ((lU es).subset he), h.nd.sublist ((lU es).map _)⟩
theorem sH {es : List Ent} {c : Nat} {k : List UInt8} {v : Value} (h : (es.map (·.1)).Nodup) : ((mset k v c es).map (·.1)).Nodup := by
 rw [pZ];split
 ·exact h
 ·rename_i h1;refine List.nodup_append.2 ⟨h, by simp, fun a ha b hb => ?_⟩
  have := List.mem_singleton.1 hb;subst this;rintro rfl;exact h1 ((jX es).2 ha)
theorem zZ {es : List Ent} {k : List UInt8} (h : (es.map (·.1)).Nodup) : ((mdel k es).map (·.1)).Nodup := h.sublist ((lU es).map _)
end Go.SL
end
section
namespace Go.Proofs
open Go Go.SL Go.Syn Go.Box
abbrev errV (n : Int) : Value := .iface 30 (i64 n)
def erV : Er → Value
 | none => .nilIface
 | some n => errV n
abbrev dskO (m1 m2 pv : Value) (l f : Int) (dn : Bool) : Obj := aW [m1, m2, pv, i64 l, i64 f, .bool dn] 110
theorem jG (b : Nat) (m1 m2 pv : Value) (l f : Int) (dn : Bool) (K : Hl) : Sp Tryz.prog 405 [ptr b] K [pt b (dskO m1 m2 pv l f dn)] (Ret fun v K' L' => v = erV (cN l f dn).1 ∧ K' = K ∧ L' = [pt b (dskO m1 m2 pv (cN l f dn).2.1 (cN l f dn).2.2.1 (cN l f dn).2.2.2)]) := by
 refine bE Tryz.func405 rfl Tryz.ntmps405 rfl rfl fun F w => ?_
 cases dn with
 | true =>
  refine aG (aC ?_);refine aA (aD rfl) rfl ?_;refine aF (aE ?_);refine aG (aG ?_);refine aC ?_;refine aA (aB rfl) rfl ?_;refine aA b0 rfl ?_;refine aA (aH (o' := 5) eK rfl rfl) rfl ?_;refine aA (aM ts4 rfl (.own .here) rfl) rfl ?_;refine aA (aB rfl) rfl ?_;refine aO rfl rfl rfl ?_;refine aO rfl rfl rfl ?_;refine aO rfl rfl rfl ?_;refine aO rfl rfl rfl ?_;refine aO rfl rfl rfl ?_;refine aA (bG rfl rfl) rfl ?_;refine aF (aE ?_);refine dH rfl ?_;refine aG (aC ?_);refine aA (aB rfl) rfl ?_;refine aA b0 rfl ?_;refine aA (aH (o' := 5) eK rfl rfl) rfl ?_;refine cQ (bT ts4 rfl rfl dM bI (.succ (.succ (.succ (.succ (.succ .zero))))) rfl) ?_;rintro _ K _ ⟨rfl, rfl⟩ -;refine aF (aE ?_);refine aG (aC ?_);refine aA (cF Tryz.underlying30 (fun _ h => by cases h) rfl) rfl ?_;refine aA (aD rfl) rfl ?_;refine aF (aE ?_);refine a8 ?_;refine aR ?_;refine bF (.cons .here .nil) ?_;refine bA rfl rfl (Hl.le_refl _) ?_;have e : cN l f true = (some 16, l, f, true) := by unfold cN; rw [if_pos (.inl rfl)]
  rw [e];exact ⟨_, rfl, rfl, rfl, rfl⟩
 | false =>
  refine aG (aC ?_);refine aA (aD rfl) rfl ?_;refine aF (aE ?_);refine aG (aG ?_);refine aC ?_;refine aA (aB rfl) rfl ?_;refine aA b0 rfl ?_;refine aA (aH (o' := 5) eK rfl rfl) rfl ?_;refine aA (aM ts4 rfl (.own .here) rfl) rfl ?_;refine aA (aB rfl) rfl ?_;refine aT rfl rfl ?_;refine aA (aB rfl) rfl ?_;refine aT rfl rfl ?_;refine aA b0 rfl ?_;refine aT rfl rfl ?_;refine aA (aH (o' := 3) fJ rfl rfl) rfl ?_;refine aT rfl rfl ?_;refine aA (aM ts3 rfl aN rfl) rfl ?_;refine aT rfl rfl ?_;refine aA (bW rfl rfl) rfl ?_;refine aA (aZ rfl rfl) rfl ?_;refine aF (aE ?_);refine bJ 13 rfl (fun h13 => ?_) (fun h13 => ?_)
  ·
   refine aG (aC ?_);refine aA (aB rfl) rfl ?_;refine aA b0 rfl ?_;refine aA (aH (o' := 5) eK rfl rfl) rfl ?_;refine cQ (bT ts4 rfl rfl dM bI (.succ (.succ (.succ (.succ (.succ .zero))))) rfl) ?_;rintro _ K _ ⟨rfl, rfl⟩ -;refine aF (aE ?_);refine aG (aC ?_);refine aA (cF Tryz.underlying30 (fun _ h => by cases h) rfl) rfl ?_;refine aA (aD rfl) rfl ?_;refine aF (aE ?_);refine a8 ?_;refine aR ?_;refine bF (.cons .here .nil) ?_;refine bA rfl rfl (Hl.le_refl _) ?_;have e : cN l f false = (some 16, l, f, true) := by unfold cN; rw [if_pos (.inr dF)]
   rw [e];exact ⟨_, rfl, rfl, rfl, rfl⟩
  ·
   refine aX ?_;refine aE (aG ?_);refine aC ?_;refine aA (aB rfl) rfl ?_;refine aA b0 rfl ?_;refine aA (aH (o' := 3) fJ rfl rfl) rfl ?_;refine aA (aM ts3 rfl aN rfl) rfl ?_;refine aA (nO rfl rfl) rfl ?_;refine aA b0 rfl ?_;refine aA (aH (o' := 3) fJ rfl rfl) rfl ?_;refine cQ (bT ts3 rfl rfl dM bI (.succ (.succ (.succ .zero))) rfl) ?_;rintro _ K _ ⟨rfl, rfl⟩ -;refine aF (aE ?_);refine aG (aG ?_);refine aC ?_;refine aA (aB rfl) rfl ?_;refine aA b0 rfl ?_;refine aA (aH (o' := 4) eS rfl rfl) rfl ?_;refine aA (aM ts3 rfl aN rfl) rfl ?_;refine aA (bW rfl rfl) rfl ?_;refine aF (aE ?_);refine bJ 29 rfl (fun h29 => ?_) (fun h29 => ?_)
   ·
    refine aG (aC ?_);refine aA (aB rfl) rfl ?_;refine aA b0 rfl ?_;refine aA (aH (o' := 4) eS rfl rfl) rfl ?_;refine cQ (bT ts3 rfl rfl dM bI (.succ (.succ (.succ (.succ .zero)))) rfl) ?_;rintro _ K _ ⟨rfl, rfl⟩ -;refine aF (aE ?_);refine aG (aC ?_);refine aA (cF Tryz.underlying30 (fun _ h => by cases h) rfl) rfl ?_;refine aA (aD rfl) rfl ?_;refine aF (aE ?_);refine a8 ?_;refine aR ?_;refine bF (.cons .here .nil) ?_;refine bA rfl rfl (Hl.le_refl _) ?_;have e : cN l f false = (some 15, IntKind.i64.wrap (l - 1), -1, false) := by unfold cN; rw [if_neg (by rintro (h | h); cases h; contradiction), if_pos dF]
    rw [e];exact ⟨_, rfl, rfl, rfl, rfl⟩
   ·
    refine aX ?_;refine aE (aG ?_);refine aC ?_;refine aA (aB rfl) rfl ?_;refine aA b0 rfl ?_;refine aA (aH (o' := 4) eS rfl rfl) rfl ?_;refine aA (aM ts3 rfl aN rfl) rfl ?_;refine aA (nO rfl rfl) rfl ?_;refine aA b0 rfl ?_;refine aA (aH (o' := 4) eS rfl rfl) rfl ?_;refine cQ (bT ts3 rfl rfl dM bI (.succ (.succ (.succ (.succ .zero)))) rfl) ?_;rintro _ K _ ⟨rfl, rfl⟩ -;refine aF (aE ?_);refine aG (aC ?_);refine aA (aD rfl) rfl ?_;refine aF (aE ?_);refine a8 ?_;refine bF (.cons .here .nil) ?_;refine bA rfl rfl (Hl.le_refl _) ?_;have e : cN l f false = (none, IntKind.i64.wrap (l - 1), IntKind.i64.wrap (f - 1), false) := by unfold cN; rw [if_neg (by rintro (h | h); cases h; contradiction), if_neg dF]
    rw [e];exact ⟨_, rfl, rfl, rfl, rfl⟩
def jO (K : Hl) (v : Value) (d : aJ) : Prop := ∃ b T fz, v = ptr b ∧ K b = some (aW [str d] T fz)
theorem jO.mono {K K' : Hl} {v : Value} {d : aJ} (h : jO K v d) (le : K.le K') : jO K' v d := let ⟨b, T, fz, e, h⟩ := h; ⟨b, T, fz, e, le _ _ h⟩
abbrev opV (o : OpR) : Value := .agg #[i64 o.kind, str o.name, str o.to, str o.data]
theorem xC (m : Nat) (es : List Ent) (c : Nat) (name to data : aJ) (K : Hl) : Sp Tryz.prog 81 [.map (some m), opV ⟨1, name, to, data⟩] K [pt m (mapO es c)]
  (Ret fun v K' L' => v = .tuple #[] ∧ ∃ u, jO K' u data ∧ L' = [pt m (mapO (mset name u c es) (jJ es name c))]) := by
 refine bE Tryz.func81 rfl Tryz.ntmps81 rfl rfl fun F w => ?_
 refine aG (aC ?_);refine ol_s (gO rfl rfl) rfl ?_;rintro _ K _ ⟨b3, rfl, rfl, rfl⟩ -;refine aF (aE ?_);refine aG (aC ?_);refine aA (aH (o' := 0) fV rfl rfl) rfl ?_;refine aA (aM ts3 rfl aN rfl) rfl ?_;refine aF (aE ?_);refine a7 (aG ?_);refine aC ?_;refine aA (bW rfl rfl) rfl ?_;refine aA (aD rfl) rfl ?_;refine aF (aE ?_);refine dH rfl ?_;refine aG (aC ?_);refine aA (aH (o' := 3) kQ rfl rfl) rfl ?_;refine aA (aM ts9 rfl aN rfl) rfl ?_;refine ol_s (dI tz9) rfl ?_;rintro _ K _ ⟨b4, rfl, rfl, rfl⟩ -;refine cQ (bT ts9 rfl rfl dM bI .zero rfl) ?_;rintro _ K _ ⟨rfl, rfl⟩ -;refine aF (aE ?_);refine aC ?_;refine kK fun K2 le2 hb4 => ?_
 refine aA (aB rfl) rfl ?_;refine aA (aH (o' := 1) gC rfl rfl) rfl ?_;refine aA (aM ts9 rfl aN rfl) rfl ?_;refine cQ (aAS Tryz.underlying107 Tryz.underlying9 rfl rfl rfl bI) ?_;rintro _ K _ ⟨rfl, rfl⟩ -;refine aF (aU ?_);refine bF (.cons (.there .here) .nil) ?_;refine k4 rfl le2 ?_;exact ⟨_, rfl, rfl, _, ⟨_, _, _, rfl, hb4⟩, rfl⟩
theorem xD (m : Nat) (es : List Ent) (c : Nat) (name to data : aJ) (K : Hl) : Sp Tryz.prog 81 [.map (some m), opV ⟨3, name, to, data⟩] K [pt m (mapO es c)]
  (Ret fun v K' L' => v = .tuple #[] ∧ K' = K ∧ L' = [pt m (mapO (mdel name es) c)]) := by
 refine bE Tryz.func81 rfl Tryz.ntmps81 rfl rfl fun F w => ?_
 refine aG (aC ?_);refine ol_s (gO rfl rfl) rfl ?_;rintro _ K _ ⟨b3, rfl, rfl, rfl⟩ -;refine aF (aE ?_);refine aG (aC ?_);refine aA (aH (o' := 0) fV rfl rfl) rfl ?_;refine aA (aM ts3 rfl aN rfl) rfl ?_;refine aF (aE ?_);refine a7 (aG ?_);refine aC ?_;refine aA (bW rfl rfl) rfl ?_;refine aA (aD rfl) rfl ?_;refine aF (aE ?_);refine bL rfl ?_;refine aG (aC ?_);refine aA (bW rfl rfl) rfl ?_;refine aA (aD rfl) rfl ?_;refine aF (aE ?_);refine bL rfl ?_;refine aG (aC ?_);refine aA (bW rfl rfl) rfl ?_;refine aA (aD rfl) rfl ?_;refine aF (aE ?_);refine dH rfl ?_;refine aC ?_;refine aA (aB rfl) rfl ?_;refine aA (aH (o' := 1) gC rfl rfl) rfl ?_;refine aA (aM ts9 rfl aN rfl) rfl ?_;refine cQ (aAQ rfl Tryz.underlying107 Tryz.underlying9 rfl rfl bI) ?_;rintro _ K _ ⟨rfl, rfl, rfl⟩ -;refine aF (aU ?_);refine bF (.cons (.there .here) .nil) ?_;refine k4 rfl (Hl.le_refl _) ?_;exact ⟨_, rfl, rfl, rfl, rfl⟩
structure MapOk (K : Hl) (es : List Ent) (c : Nat) (f : DMap) : Prop where
 fresh : Fresh es c
 nd : (es.map (·.1)).Nodup
 has : ∀ n v, mget es n = some v → ∃ d, f n = some d ∧ jO K v d
 lacks : ∀ n, mget es n = none → f n = none
theorem MapOk.mono {K K' : Hl} {es : List Ent} {c : Nat} {f : DMap} (h : MapOk K es c f) (le : K.le K') : MapOk K' es c f :=
 ⟨h.fresh, h.nd, fun n v e => let ⟨d, h1, h2⟩ := h.has n v e; ⟨d, h1, h2.mono le⟩, h.lacks⟩
theorem MapOk.nil {K : Hl} : MapOk K [] 0 (fun _ => none) := ⟨Fresh.nil, List.nodup_nil, fun n v e => by simp [mget] at e, fun n _ => rfl⟩
theorem MapOk.put {K : Hl} {es : List Ent} {c : Nat} {f : DMap} {n d : aJ} {u : Value} (h : MapOk K es c f) (hu : jO K u d) : MapOk K (mset n u c es) (jJ es n c) (f.put n d) := by
 refine ⟨h.fresh.set, sH h.nd, fun j v e => ?_, fun j e => ?_⟩ <;> rw [mM] at e <;> unfold DMap.put <;> split at e
 ·rename_i hj; cases e; rw [if_pos hj]; exact ⟨d, rfl, hu⟩
 ·rename_i hj; rw [if_neg hj]; exact h.has j v e
 ·cases e
 ·rename_i hj; rw [if_neg hj]; exact h.lacks j e
theorem MapOk.cut {K : Hl} {es : List Ent} {c : Nat} {f : DMap} {n : aJ} (h : MapOk K es c f) : MapOk K (mdel n es) c (f.cut n) := by
 refine ⟨h.fresh.del, zZ h.nd, fun j v e => ?_, fun j e => ?_⟩ <;> rw [pY h.nd] at e <;> unfold DMap.cut <;> split at e
 ·cases e
 ·rename_i hj; rw [if_neg hj]; exact h.has j v e
 ·rename_i hj; rw [if_pos hj]
 ·rename_i hj; rw [if_neg hj]; exact h.lacks j e
theorem MapOk.isSome {K : Hl} {es : List Ent} {c : Nat} {f : DMap} (h : MapOk K es c f) (n : aJ) : (mget es n).isSome = (f n).isSome := by
 cases e : mget es n with
 | none => rw [h.lacks n e]; rfl
 | some v => obtain ⟨d, h1, _⟩ := h.has n v e; rw [h1]; rfl
def OpOk (o : OpR) : Prop := o.kind = 1 ∨ o.kind = 3
theorem jQ (m : Nat) (es : List Ent) (c : Nat) (f : DMap) (o : OpR) (ho : OpOk o) (K : Hl) (hm : MapOk K es c f) : Sp Tryz.prog 81 [.map (some m), opV o] K [pt m (mapO es c)]
  (Ret fun v K' L' => v = .tuple #[] ∧ ∃ es' c', MapOk K' es' c' (doF f o) ∧ L' = [pt m (mapO es' c')]) := by
 obtain ⟨k, n, t, d⟩ := o;rcases ho with h | h <;> (simp only at h; subst h)
 ·refine aDI (xC m es c n t d K) ?_;rintro e K' L' le ⟨v, rfl, rfl, u, hu, rfl⟩;exact ⟨_, rfl, rfl, _, _, (hm.mono le).put hu, rfl⟩
 ·refine aDI (xD m es c n t d K) ?_;rintro e K' L' le ⟨v, rfl, rfl, rfl, rfl⟩;exact ⟨_, rfl, rfl, _, _, hm.cut, rfl⟩
end Go.Proofs
end
section
namespace Go.Proofs
open Go Go.SL Go.Syn Go.Box
def opEl : El OpR := { e := 165, sz := 4, enc := fun o => [i64 o.kind, str o.name, str o.to, str o.data], len := fun _ => rfl, one := fun _ u h => by simp at h; rcases h with rfl | rfl | rfl | rfl <;> rfl }
abbrev dskL (b m1 m2 : Nat) (es1 : List Ent) (c1 : Nat) (es2 : List Ent) (c2 : Nat) (pv : Value) (s : DSt) : List Asn :=
 [pt b (dskO (.map (some m1)) (.map (some m2)) pv s.left s.full s.down), pt m1 (mapO es1 c1), pt m2 (mapO es2 c2), sl false opEl pv s.pend]
def fK (K : Hl) (b : Nat) (s : DSt) (L : List Asn) : Prop := ∃ m1 m2 es1 c1 es2 c2 pv, MapOk K es1 c1 s.dur ∧ MapOk K es2 c2 s.now ∧ (∀ o ∈ s.pend, OpOk o) ∧ pv.oneCell' = true ∧ L = dskL b m1 m2 es1 c1 es2 c2 pv s
theorem fK.mono {K K' : Hl} {b : Nat} {s : DSt} {L : List Asn} (h : fK K b s L) (le : K.le K') : fK K' b s L :=
 let ⟨m1, m2, es1, c1, es2, c2, pv, h1, h2, h3, h4, h5⟩ := h
 ⟨m1, m2, es1, c1, es2, c2, pv, h1.mono le, h2.mono le, h3, h4, h5⟩
theorem yC (b : Nat) (s : DSt) (o : OpR) (ho : OpOk o) (hp : s.pend.length ≤ 1000000) (K : Hl) (L : List Asn) (hd : fK K b s L) : Sp Tryz.prog 404 [ptr b, opV o] K L
  (Ret fun v K' L' => v = erV (cU o s).1 ∧ fK K' b (cU o s).2 L') := by
 obtain ⟨m1, m2, es1, c1, es2, c2, pv, hm1, hm2, hop, hpv, rfl⟩ := hd;obtain ⟨dur, now, pend, l, f, dn⟩ := s;obtain ⟨k, n, t, d⟩ := o;simp only at hm1 hm2 hop hp;refine bE Tryz.func404 rfl Tryz.ntmps404 rfl rfl fun F w => ?_
 refine aG (aC ?_);refine ol_s (gO rfl rfl) rfl ?_;rintro _ K _ ⟨b3, rfl, rfl, rfl⟩ -;refine aA (aD rfl) rfl ?_;refine aF (aE ?_);refine aG (aG ?_);refine aC ?_;refine aA (aB rfl) rfl ?_;refine bH rfl rfl (jG b _ _ pv l f dn _) (.cons (.there .here) .nil) rfl ?_;rintro _ K _ ⟨rfl, rfl, rfl⟩ -;refine aA (aD rfl) rfl ?_;refine aF (aE ?_);rcases hw : cN l f dn with ⟨_ | e, l2, f2, dn2⟩
 ·
  refine aG (aC ?_);refine aA (aB rfl) rfl ?_;refine aA (eP Tryz.underlying79 rfl) rfl ?_;refine aF (aE ?_);refine bL rfl ?_;refine aX ?_;refine aE ?_;cases hg : mget es2 n
  ·
   refine aG (aG ?_);refine cT (anc := [0, 1, 3, 7, 0, 16, 63, 127, 255, 255, 511, 2047]) (ord := [0, 1, 2, 3, 4, 5, 6, 7, 8, 9, 10, 11]) [] [] mixed (by decide +kernel) (dJ _) ?_;refine aK rfl rfl (.none rfl) rfl rfl (aB rfl) rfl ?_;refine aK rfl rfl (.none rfl) rfl rfl b0 rfl ?_;refine aK rfl rfl (.none rfl) rfl rfl (aH (o' := 1) fI rfl rfl) rfl ?_;refine aK rfl rfl (.none rfl) rfl rfl (aM f5 rfl aN rfl) rfl ?_;refine aK rfl rfl (.none rfl) rfl rfl (aH (o' := 1) gC rfl rfl) rfl ?_;refine aK rfl rfl (.none rfl) rfl rfl (aM ts9 rfl aN rfl) rfl ?_;refine aK rfl rfl (.none rfl) rfl rfl (gH Tryz.underlying107 Tryz.underlying9 qC rfl rfl aN hg) rfl ?_;refine aK rfl rfl (.none rfl) rfl rfl (aB rfl) rfl ?_;refine aK rfl rfl (.none rfl) rfl rfl (aQ rfl rfl) rfl ?_;refine aK rfl rfl (.none rfl) rfl rfl (aQ rfl rfl) rfl ?_;refine aK rfl rfl (.none rfl) rfl rfl (aD rfl) rfl ?_;refine aK rfl rfl (.none rfl) rfl rfl (aD rfl) rfl ?_;refine cO ?_;refine aE (aG ?_);refine aC ?_;refine aA (aB rfl) rfl ?_;refine aA (dL rfl) rfl ?_;refine aA (aB rfl) rfl ?_;refine aT rfl rfl ?_;refine aA (aH (o' := 0) fV rfl rfl) rfl ?_;refine aT rfl rfl ?_;refine aA (aM ts3 rfl aN rfl) rfl ?_;refine aT rfl rfl ?_;refine aA (iV rfl rfl) rfl ?_;refine aA (bG rfl rfl) rfl ?_;refine aF (aE ?_);refine bJ 29 rfl (fun h29 => ?_) (fun h29 => ?_)
   ·
    refine aG (aC ?_);refine aA (cF Tryz.underlying30 (fun _ h => by cases h) rfl) rfl ?_;refine aA (aD rfl) rfl ?_;refine aF (aE ?_);refine a8 ?_;refine aR ?_;refine bF (.cons .here (.cons (.there .here) (.cons (.there .here) (.cons (.there .here) .nil)))) ?_;refine bA rfl rfl (by first | exact Hl.le_refl _ | assumption) ?_;rw [aAX (s := ⟨dur, now, pend, l, f, dn⟩) hw (hm2.lacks _ hg) h29];exact ⟨_, rfl, rfl, m1, m2, es1, c1, es2, c2, pv, hm1, hm2, hop, hpv, rfl⟩
   ·
    refine aX ?_;refine aE (aG ?_);refine aG (aC ?_);refine aA (aH (o' := 0) fV rfl rfl) rfl ?_;refine aA (aM ts3 rfl aN rfl) rfl ?_;refine aA (ev_F (bW rfl rfl) (by show ¬ k = 2; rcases ho with h | h <;> simp only at h <;> omega)) rfl ?_;refine aA (aB rfl) rfl ?_;refine aO rfl rfl rfl ?_;refine aO rfl rfl rfl ?_;refine aO rfl rfl rfl ?_;refine aO rfl rfl rfl ?_;refine aO rfl rfl rfl ?_;refine aA (aZ rfl rfl) rfl ?_;refine aF (aE ?_);refine bL rfl ?_;refine aX ?_;refine aE (aG ?_);refine cT (anc := [0, 1, 3, 7, 0, 31]) (ord := [0, 1, 2, 3, 4, 5]) [5] [5] mixed (by decide +kernel) (dJ _) ?_;refine aK rfl rfl (.none rfl) rfl rfl (aB rfl) rfl ?_;refine aK rfl rfl (.none rfl) rfl rfl b0 rfl ?_;refine aK rfl rfl (.none rfl) rfl rfl (aH (o' := 1) fI rfl rfl) rfl ?_;refine aK rfl rfl (.none rfl) rfl rfl (aM f5 rfl aN rfl) rfl ?_;refine aK rfl rfl (.none rfl) rfl rfl (bX eM rfl aN rfl rfl) rfl ?_;refine eZ rfl (.none rfl) rfl rfl rfl (jQ m2 es2 c2 now ⟨k, n, t, d⟩ ho _ hm2) (.cons (.there (.there (.there .here))) .nil) rfl ?_;rintro _ K1 _ ⟨rfl, es3, c3, hm3, rfl⟩ le1;refine cO ?_;refine aE (aG ?_);refine cT (anc := [0, 0, 2, 6, 14, 0, 32, 126, 255, 511, 1023]) (ord := [0, 1, 2, 3, 4, 5, 6, 7, 8, 9, 10]) [6, 7, 10] [10] mixed (by decide +kernel) (.cons (.there .here) (.cons (.there .here) .nil)) ?_;refine aK rfl rfl (.none rfl) rfl rfl (aB rfl) rfl ?_;refine aK rfl rfl (.none rfl) rfl rfl (aB rfl) rfl ?_;refine aK rfl rfl (.none rfl) rfl rfl b0 rfl ?_;refine aK rfl rfl (.none rfl) rfl rfl (aH (o' := 2) eB rfl rfl) rfl ?_;refine aK rfl rfl (.none rfl) rfl rfl (aM j9 rfl aN rfl) rfl ?_;refine aK rfl rfl (.none rfl) rfl rfl (bX eM rfl aN rfl rfl) rfl ?_;refine dl_s rfl rfl (.none rfl) rfl rfl (cL (z0 := [.int .i64 0, (str []), (str []), (str [])]) fZ qE rfl rfl rfl rfl (.cons rfl rfl rfl (.cons (.cons (.cons (.cons .nil)))) .nil)) rfl ?_;rintro _ K _ ⟨b53, rfl, rfl, rfl⟩ -;refine ⟨_, (show Tks _ _ _ from (.cons (.there .here) (.cons (.there .here) .nil))).sat, ?_⟩
    refine dl_s rfl rfl (.none rfl) rfl rfl (dO (k := opEl) (ys := [(⟨k, n, t, d⟩ : OpR)]) gR rfl rfl (.there (.there (.there (.there (.there .here))))) (fun w j => dE Tryz.underlying108 (SeesSl.at (k := opEl) (.blk (.own (.there (.there .here))) rfl rfl) j)) (by show (pend.length + 1) * 56 ≤ 140737488355328; omega) (by show pend.length + 1 ≤ 9223372036854775807; omega)) rfl ?_;rintro v54 K _ ⟨rfl, rfl, ho54⟩ -;refine ⟨_, (show Tks _ _ _ from (.cons (.there .here) (.cons (.there .here) .nil))).sat, ?_⟩
    refine aK rfl rfl (.none rfl) rfl rfl b0 rfl ?_;refine aK rfl rfl (.none rfl) rfl rfl (aH (o' := 2) eB rfl rfl) rfl ?_;refine iD rfl rfl (.none rfl) rfl (bT j9 rfl rfl dM bI (.succ (.succ .zero)) rfl) ?_;rintro _ K _ ⟨rfl, rfl⟩ -;refine cO ?_;refine aE (aG ?_);refine aC ?_;refine aA (aD rfl) rfl ?_;refine aF (aE ?_);refine a8 ?_;refine bF (.cons .here (.cons (.there (.there (.there (.there .here)))) (.cons (.there (.there (.there .here))) (.cons (.there .here) .nil)))) ?_;refine bA rfl rfl (by first | exact Hl.le_refl _ | assumption) ?_;rw [l7 (s := ⟨dur, now, pend, l, f, dn⟩) hw (by have := hm2.isSome n; first | exact fun ⟨_, h⟩ => h29 h | (rintro ⟨h, _⟩; rw [hg, show now n = none from h] at this; cases this))];exact ⟨_, rfl, rfl, m1, m2, es1, c1, es3, c3, v54, hm1.mono le1, hm3, fun o h => by rcases List.mem_append.1 h with h | h; exact hop o h; rw [List.mem_singleton.1 h]; exact ho, ho54, rfl⟩
  ·
   refine aG (aG ?_);refine cT (anc := [0, 1, 3, 7, 0, 16, 63, 127, 255, 255, 511, 2047]) (ord := [0, 1, 2, 3, 4, 5, 6, 7, 8, 9, 10, 11]) [] [] mixed (by decide +kernel) (dJ _) ?_;refine aK rfl rfl (.none rfl) rfl rfl (aB rfl) rfl ?_;refine aK rfl rfl (.none rfl) rfl rfl b0 rfl ?_;refine aK rfl rfl (.none rfl) rfl rfl (aH (o' := 1) fI rfl rfl) rfl ?_;refine aK rfl rfl (.none rfl) rfl rfl (aM f5 rfl aN rfl) rfl ?_;refine aK rfl rfl (.none rfl) rfl rfl (aH (o' := 1) gC rfl rfl) rfl ?_;refine aK rfl rfl (.none rfl) rfl rfl (aM ts9 rfl aN rfl) rfl ?_;refine aK rfl rfl (.none rfl) rfl rfl (iW Tryz.underlying107 Tryz.underlying9 qC rfl rfl aN hg) rfl ?_;refine aK rfl rfl (.none rfl) rfl rfl (aB rfl) rfl ?_;refine aK rfl rfl (.none rfl) rfl rfl (aQ rfl rfl) rfl ?_;refine aK rfl rfl (.none rfl) rfl rfl (aQ rfl rfl) rfl ?_;refine aK rfl rfl (.none rfl) rfl rfl (aD rfl) rfl ?_;refine aK rfl rfl (.none rfl) rfl rfl (aD rfl) rfl ?_;refine cO ?_;refine aE (aG ?_);refine aC ?_;refine aA (aB rfl) rfl ?_;refine aA (dL rfl) rfl ?_;refine aA (aB rfl) rfl ?_;refine aO rfl rfl rfl ?_;refine aO rfl rfl rfl ?_;refine aO rfl rfl rfl ?_;refine aA (aZ rfl rfl) rfl ?_;refine aF (aE ?_);refine bL rfl ?_;refine aX ?_;refine aE (aG ?_);refine aG (aC ?_);refine aA (aH (o' := 0) fV rfl rfl) rfl ?_;refine aA (aM ts3 rfl aN rfl) rfl ?_;refine aA (ev_F (bW rfl rfl) (by show ¬ k = 2; rcases ho with h | h <;> simp only at h <;> omega)) rfl ?_;refine aA (aB rfl) rfl ?_;refine aO rfl rfl rfl ?_;refine aO rfl rfl rfl ?_;refine aO rfl rfl rfl ?_;refine aO rfl rfl rfl ?_;refine aO rfl rfl rfl ?_;refine aA (aZ rfl rfl) rfl ?_;refine aF (aE ?_);refine bL rfl ?_;refine aX ?_;refine aE (aG ?_);refine cT (anc := [0, 1, 3, 7, 0, 31]) (ord := [0, 1, 2, 3, 4, 5]) [5] [5] mixed (by decide +kernel) (dJ _) ?_;refine aK rfl rfl (.none rfl) rfl rfl (aB rfl) rfl ?_;refine aK rfl rfl (.none rfl) rfl rfl b0 rfl ?_;refine aK rfl rfl (.none rfl) rfl rfl (aH (o' := 1) fI rfl rfl) rfl ?_;refine aK rfl rfl (.none rfl) rfl rfl (aM f5 rfl aN rfl) rfl ?_;refine aK rfl rfl (.none rfl) rfl rfl (bX eM rfl aN rfl rfl) rfl ?_;refine eZ rfl (.none rfl) rfl rfl rfl (jQ m2 es2 c2 now ⟨k, n, t, d⟩ ho _ hm2) (.cons (.there (.there (.there .here))) .nil) rfl ?_;rintro _ K1 _ ⟨rfl, es3, c3, hm3, rfl⟩ le1;refine cO ?_;refine aE (aG ?_);refine cT (anc := [0, 0, 2, 6, 14, 0, 32, 126, 255, 511, 1023]) (ord := [0, 1, 2, 3, 4, 5, 6, 7, 8, 9, 10]) [6, 7, 10] [10] mixed (by decide +kernel) (.cons (.there .here) (.cons (.there .here) .nil)) ?_;refine aK rfl rfl (.none rfl) rfl rfl (aB rfl) rfl ?_;refine aK rfl rfl (.none rfl) rfl rfl (aB rfl) rfl ?_;refine aK rfl rfl (.none rfl) rfl rfl b0 rfl ?_;refine aK rfl rfl (.none rfl) rfl rfl (aH (o' := 2) eB rfl rfl) rfl ?_;refine aK rfl rfl (.none rfl) rfl rfl (aM j9 rfl aN rfl) rfl ?_;refine aK rfl rfl (.none rfl) rfl rfl (bX eM rfl aN rfl rfl) rfl ?_;refine dl_s rfl rfl (.none rfl) rfl rfl (cL (z0 := [.int .i64 0, (str []), (str []), (str [])]) fZ qE rfl rfl rfl rfl (.cons rfl rfl rfl (.cons (.cons (.cons (.cons .nil)))) .nil)) rfl ?_;rintro _ K _ ⟨b53, rfl, rfl, rfl⟩ -;refine ⟨_, (show Tks _ _ _ from (.cons (.there .here) (.cons (.there .here) .nil))).sat, ?_⟩
   refine dl_s rfl rfl (.none rfl) rfl rfl (dO (k := opEl) (ys := [(⟨k, n, t, d⟩ : OpR)]) gR rfl rfl (.there (.there (.there (.there (.there .here))))) (fun w j => dE Tryz.underlying108 (SeesSl.at (k := opEl) (.blk (.own (.there (.there .here))) rfl rfl) j)) (by show (pend.length + 1) * 56 ≤ 140737488355328; omega) (by show pend.length + 1 ≤ 9223372036854775807; omega)) rfl ?_;rintro v54 K _ ⟨rfl, rfl, ho54⟩ -;refine ⟨_, (show Tks _ _ _ from (.cons (.there .here) (.cons (.there .here) .nil))).sat, ?_⟩
   refine aK rfl rfl (.none rfl) rfl rfl b0 rfl ?_;refine aK rfl rfl (.none rfl) rfl rfl (aH (o' := 2) eB rfl rfl) rfl ?_;refine iD rfl rfl (.none rfl) rfl (bT j9 rfl rfl dM bI (.succ (.succ .zero)) rfl) ?_;rintro _ K _ ⟨rfl, rfl⟩ -;refine cO ?_;refine aE (aG ?_);refine aC ?_;refine aA (aD rfl) rfl ?_;refine aF (aE ?_);refine a8 ?_;refine bF (.cons .here (.cons (.there (.there (.there (.there .here)))) (.cons (.there (.there (.there .here))) (.cons (.there .here) .nil)))) ?_;refine bA rfl rfl (by first | exact Hl.le_refl _ | assumption) ?_;rw [l7 (s := ⟨dur, now, pend, l, f, dn⟩) hw (by have := hm2.isSome n; first | exact fun ⟨_, h⟩ => h29 h | (rintro ⟨h, _⟩; rw [hg, show now n = none from h] at this; cases this))];exact ⟨_, rfl, rfl, m1, m2, es1, c1, es3, c3, v54, hm1.mono le1, hm3, fun o h => by rcases List.mem_append.1 h with h | h; exact hop o h; rw [List.mem_singleton.1 h]; exact ho, ho54, rfl⟩
 ·
  refine aG (aC ?_);refine aA (aB rfl) rfl ?_;refine aA (fR Tryz.underlying79 rfl rfl) rfl ?_;refine aF (aE ?_);refine dH rfl ?_;refine aG (aC ?_);refine aA (aB rfl) rfl ?_;refine aA (aD rfl) rfl ?_;refine aF (aE ?_);refine a8 ?_;refine aR ?_;refine bF (.cons .here (.cons (.there .here) (.cons (.there .here) (.cons (.there .here) .nil)))) ?_;refine bA rfl rfl (by first | exact Hl.le_refl _ | assumption) ?_;rw [yB (s := ⟨dur, now, pend, l, f, dn⟩) hw];exact ⟨_, rfl, rfl, m1, m2, es1, c1, es2, c2, pv, hm1, hm2, hop, hpv, rfl⟩
end Go.Proofs
end
section
namespace Go.Proofs
open Go Go.SL Go.Syn Go.Box
def dsk (K : Hl) (b : Nat) (s : DSt) : Asn := fun h => ∃ L, fK K b s L ∧ Sat L h
theorem d9 {K K' : Hl} {b : Nat} {s : DSt} (le : K.le K') : ∀ h, dsk K b s h → dsk K' b s h := fun h ⟨L, hd, hs⟩ => ⟨L, hd.mono le, hs⟩
theorem fX {K : Hl} {b : Nat} {s : DSt} {L M : List Asn} (hd : fK K b s L) : ∀ h, Sat (L ++ M) h → Sat (dsk K b s :: M) h := fun h hs =>
 let ⟨x, y, hx, hy, hj, e⟩ := eF.1 hs; ⟨x, y, ⟨L, hd, hx⟩, hy, hj, e⟩
theorem fG {K : Hl} {b : Nat} {s : DSt} {L : List Asn} (hd : fK K b s L) : ∀ h, Sat L h → Sat [dsk K b s] h := fun h hs => fX (M := []) hd h (by rwa [List.append_nil])
theorem aCR {K : Hl} {b : Nat} {s : DSt} {M : List Asn} {h : Hl} : Sat (dsk K b s :: M) h → ∃ L, fK K b s L ∧ Sat (L ++ M) h := fun ⟨x, y, ⟨L, hd, hx⟩, hy, hj, e⟩ => ⟨L, hd, eF.2 ⟨x, y, hx, hy, hj, e⟩⟩
theorem In.dsk {w0 w : World} {F K K0 : Hl} {b : Nat} {s : DSt} {M : List Asn} (i : In w0 F K (dsk K0 b s :: M) w) : ∃ L, fK K0 b s L ∧ In w0 F K (L ++ M) w :=
 let ⟨h, hs, r⟩ := i.rep; let ⟨L, hd, hs2⟩ := aCR hs; ⟨L, hd, i.os, i.tape, i.output, i.size, h, hs2, r⟩
section
variable {E : Env} {fr : Fr} {K K0 : Hl} {M : List Asn} {Q : Post} {b : Nat} {s : DSt}
theorem tB {c : Code} (h : ∀ L, fK K0 b s L → T E c fr K (L ++ M) Q) : T E c fr K (dsk K0 b s :: M) Q := fun a w f i => let ⟨L, hd, j⟩ := In.dsk i; h L hd a w f j
theorem aAE {ops : Array Oper} {l : List Oper} (h : ∀ L, fK K0 b s L → OL E ops l fr K (L ++ M) Q) : OL E ops l fr K (dsk K0 b s :: M) Q := fun a w f i => let ⟨L, hd, j⟩ := In.dsk i; h L hd a w f j
theorem o1 {P : Program} {f : FuncId} {args : List Value} {R : Ending → Hl → List Asn → Prop} (hb : ∃ fn, P.funcs[f]? = some fn ∧ (fn.name == "runtime.NumGoroutine") = false ∧ fn.body.isSome = true)
  (h : ∀ L, fK K0 b s L → Sp P f args K (L ++ M) R) : Sp P f args K (dsk K0 b s :: M) R :=
 ⟨hb, fun F w i => let ⟨L, hd, j⟩ := In.dsk i; (h L hd).2 F w j⟩
end
theorem wC (b : Nat) (s : DSt) (o : OpR) (ho : OpOk o) (hp : s.pend.length ≤ 1000000) (K K0 : Hl) (le : K0.le K) : Sp Tryz.prog 404 [ptr b, opV o] K [dsk K0 b s]
  (Ret fun v K' L' => v = erV (cU o s).1 ∧ L' = [dsk K' b (cU o s).2]) := by
 refine o1 ⟨_, Tryz.func404, rfl, rfl⟩ fun L hd => ?_
 rw [List.append_nil];refine aCW (yC b s o ho hp K L (hd.mono le)) ?_;rintro e K' L' ⟨v, rfl, rfl, hd2⟩;exact ⟨_, fG hd2, _, rfl, rfl, rfl⟩
theorem p5 (b : Nat) (s : DSt) (n : aJ) (hp : s.pend.length ≤ 1000000) (K K0 : Hl) (le : K0.le K) : Sp Tryz.prog 401 [ptr b, str n] K [dsk K0 b s]
  (Ret fun v K' L' => v = erV (cB n s).1 ∧ L' = [dsk K' b (cB n s).2]) := by
 refine bE Tryz.func401 rfl Tryz.ntmps401 rfl rfl fun F w => ?_
 refine aG (aC ?_);refine aA (aD rfl) rfl ?_;refine aF (aE ?_);refine aG (aC ?_);refine aA (aB rfl) rfl ?_;refine aA (aB rfl) rfl ?_;refine aA (eN aDK aAW (.cons rfl rfl rfl (.cons .nil) (.cons rfl rfl rfl (.skip (.cons .nil)) .nil))) rfl ?_;refine bH rfl rfl (wC b s ⟨3, n, [], []⟩ (.inr rfl) hp _ _ le) (.cons .here .nil) rfl ?_;rintro _ K1 _ ⟨rfl, rfl⟩ le1;refine aA (aD rfl) rfl ?_;refine aF (aE ?_);refine a8 ?_;refine bF (.cons .here .nil) ?_;refine bA rfl rfl dF ?_;exact ⟨_, rfl, rfl, rfl⟩
theorem zI {x y : Operand} (e : Er) (n : Int) {w : World} : (eqGuard .eql 79 x y (erV e) (errV n)).run Tryz.prog w = .ok () w := by cases e <;> rfl
theorem zJ (e : Er) (n : Int) (w : World) : (binOp .eql 79 (erV e) (errV n)).run Tryz.prog w = .ok (.bool (decide (e = some n))) w := by
 cases e with
 | none => show (binOp .eql 79 .nilIface (.iface 30 (i64 n))).run Tryz.prog w = _; rw [decide_eq_false (by simp)]; kernel_rfl
 | some m =>
  have h : (binOp .eql 79 (.iface 30 (i64 m)) (.iface 30 (i64 n))).run Tryz.prog w = .ok (.bool (decide (m = n))) w := by kernel_rfl
  show (binOp .eql 79 (.iface 30 (i64 m)) (.iface 30 (i64 n))).run Tryz.prog w = _
  rw [h]; simp
def bang (i : Nat) (xs : aJ) : aJ := List.replicate i 33 ++ xs.drop i
theorem yS {i : Nat} {xs : aJ} (h : i ≤ xs.length) : (bang i xs).length = xs.length := by simp [bang]; omega
theorem yT {i : Nat} {xs : aJ} (h : i < xs.length) : (bang i xs).set i 33 = bang (i + 1) xs := by
 unfold bang;rw [List.set_append_right _ _ (by simp), List.length_replicate, Nat.sub_self, List.drop_eq_getElem_cons h, List.set_cons_zero, List.replicate_succ', List.append_assoc]; rfl
theorem aBC (b : Nat) (s : DSt) (n xs : aJ) (v : Value) (z : Bool) (hp : s.pend.length ≤ 900000) (hxl : xs.length ≤ 140737488355328) (K K0 : Hl) (le : K0.le K) : Sp Tryz.prog 403 [ptr b, str n, v] K [dsk K0 b s, sl z (elB 5) v xs]
  (Ret fun r K' L' => r = erV (cH n xs s).1 ∧ L' = [dsk K' b (cH n xs s).2]) := by
 refine bE Tryz.func403 rfl Tryz.ntmps403 rfl rfl fun F w => ?_
 have hpt : (cU ⟨1, n, [], xs⟩ s).2.pend.length ≤ 1000000 := by have := lD ⟨1, n, [], xs⟩ s; omega
 refine aG (aC ?_);refine aA (aD rfl) rfl ?_;refine aF (aE ?_);refine aG (aC ?_);refine aA (aB rfl) rfl ?_;refine aA (aB rfl) rfl ?_;refine aA (fM Tryz.underlying130 Tryz.underlying5 Tryz.underlying9 rfl (.own (.there .here))) rfl ?_;refine aA (eN aDK aAW (.cons rfl rfl rfl (.cons .nil) (.cons rfl rfl rfl (.skip (.cons .nil)) (.cons rfl rfl rfl (.skip (.skip (.skip (.cons .nil)))) .nil)))) rfl ?_;refine ol_s (dI qE) rfl ?_;rintro _ K _ ⟨b7, rfl, rfl, rfl⟩ -;refine cQ (cS eM rfl rfl rfl bI (by first | (simp [Value.oneCell']; done) | exact fun c hc => El.one _ _ c hc) (.cons (.cons (.cons (.cons .nil)))) (by intro j hj; simp)) ?_;rintro _ K _ ⟨rfl, rfl⟩ -;refine aF (aE ?_);refine aG (aC ?_);refine aA (aB rfl) rfl ?_;refine aA (bX eM rfl aN rfl rfl) rfl ?_;refine bH rfl rfl (wC b s ⟨1, n, [], xs⟩ (.inl rfl) aI _ _ le) (.cons (.there .here) .nil) rfl ?_;rintro _ K1 _ ⟨rfl, rfl⟩ le1;refine aA (aD rfl) rfl ?_;refine aF (aE ?_);refine mU (fun (_ : Unit) => True) (fun _ => [(2, v), (8, erV (cU ⟨1, n, [], xs⟩ s).1)]) (fun _ => K1) (fun _ => [sl z (elB 5) v xs, dsk K1 b (cH n xs s).2]) ?_ ?_
 ·
  refine aG (aC ?_);refine aA (aB rfl) rfl ?_;refine aA (cF Tryz.underlying30 (fun _ h => by cases h) rfl) rfl ?_;refine aA (qS rfl rfl (fun _ => zI _ _) (fun w => zJ _ _ w)) rfl ?_;refine aF (aE ?_);refine bJ 19 rfl (fun h19 => ?_) (fun h19 => ?_)
  ·
   refine tB fun L2 hd2 => ?_
   obtain ⟨m1, m2, es1, c1, es2, c2, pv, hm1, hm2, hop, hpv, rfl⟩ := hd2
   generalize hs1 : (cU ⟨1, n, [], xs⟩ s).2 = s1 at hm1 hm2 hop hpt ⊢
   refine cT (anc := [0, 0, 2, 6, 14, 0, 32, 126, 255, 511, 1023]) (ord := [0, 1, 2, 3, 4, 5, 6, 7, 8, 9, 10]) [6, 7, 10] [10] mixed (by decide +kernel) (.cons .here (.cons (.there (.there (.there .here))) .nil)) ?_;refine aK rfl rfl (.none rfl) rfl rfl (aB rfl) rfl ?_;refine aK rfl rfl (.none rfl) rfl rfl (aB rfl) rfl ?_;refine aK rfl rfl (.none rfl) rfl rfl b0 rfl ?_;refine aK rfl rfl (.none rfl) rfl rfl (aH (o' := 2) eB rfl rfl) rfl ?_;refine aK rfl rfl (.none rfl) rfl rfl (aM j9 rfl aN rfl) rfl ?_;refine aK rfl rfl (.none rfl) rfl rfl (bX eM rfl aN rfl rfl) rfl ?_;refine dl_s rfl rfl (.none rfl) rfl rfl (cL (z0 := [.int .i64 0, (str []), (str []), (str [])]) fZ qE rfl rfl rfl rfl (.cons rfl rfl rfl (.cons (.cons (.cons (.cons .nil)))) .nil)) rfl ?_;rintro _ K _ ⟨b26, rfl, rfl, rfl⟩ -;refine ⟨_, (show Tks _ _ _ from (.cons (.there .here) (.cons (.there .here) .nil))).sat, ?_⟩
   refine dl_s rfl rfl (.none rfl) rfl rfl (dO (k := opEl) (ys := [(⟨1, n, [], xs⟩ : OpR)]) gR rfl rfl (.there (.there (.there (.there (.there .here))))) (fun w j => dE Tryz.underlying108 (SeesSl.at (k := opEl) (.blk (.own (.there (.there .here))) rfl rfl) j)) (by show (s1.pend.length + 1) * 56 ≤ 140737488355328; omega) (by show s1.pend.length + 1 ≤ 9223372036854775807; omega)) rfl ?_;rintro v27 K _ ⟨rfl, rfl, ho27⟩ -;refine ⟨_, (show Tks _ _ _ from (.cons (.there .here) (.cons (.there .here) .nil))).sat, ?_⟩
   refine aK rfl rfl (.none rfl) rfl rfl b0 rfl ?_;refine aK rfl rfl (.none rfl) rfl rfl (aH (o' := 2) eB rfl rfl) rfl ?_;refine iD rfl rfl (.none rfl) rfl (bT j9 rfl rfl dM bI (.succ (.succ .zero)) rfl) ?_;rintro _ K _ ⟨rfl, rfl⟩ -;refine cO ?_
   first | (rw [kU h19, hs1]; refine bF (.cons .here (.cons (.there (.there (.there .here))) (.cons (.there (.there (.there .here))) (.cons (.there .here) (.cons (.there (.there .here)) .nil))))) ?_; refine eY (fX (s := s1.add ⟨1, n, [], xs⟩) (L := [_, _, _, _]) ⟨m1, m2, es1, c1, es2, c2, v27, hm1, hm2, fun o h => by rcases List.mem_append.1 h with h | h; exact hop o h; rw [List.mem_singleton.1 h]; exact .inl rfl, ho27, rfl⟩) ?_; exact cG () trivial (.cons 2 rfl (.cons 8 rfl .nil)) rfl (fun _ h => eQ h)) | (rw [kT h19]; refine bF (.cons .here (.cons (.there .here) .nil)) ?_; exact cG () trivial (.cons 2 rfl (.cons 8 rfl .nil)) rfl (fun _ h => eQ h))
  ·
   refine aX ?_
   first | (rw [kU h19, hs1]; refine bF (.cons .here (.cons (.there (.there (.there .here))) (.cons (.there (.there (.there .here))) (.cons (.there .here) (.cons (.there (.there .here)) .nil))))) ?_; refine eY (fX (s := s1.add ⟨1, n, [], xs⟩) (L := [_, _, _, _]) ⟨m1, m2, es1, c1, es2, c2, v27, hm1, hm2, fun o h => by rcases List.mem_append.1 h with h | h; exact hop o h; rw [List.mem_singleton.1 h]; exact .inl rfl, ho27, rfl⟩) ?_; exact cG () trivial (.cons 2 rfl (.cons 8 rfl .nil)) rfl (fun _ h => eQ h)) | (rw [kT h19]; refine bF (.cons .here (.cons (.there .here) .nil)) ?_; exact cG () trivial (.cons 2 rfl (.cons 8 rfl .nil)) rfl (fun _ h => eQ h))
 ·
  intro _ _;refine aG (aG ?_);refine aC ?_;refine aA (aB rfl) rfl ?_;refine aA (bM (k := (elB 5)) rfl Tryz.underlying130 rfl aN) rfl ?_;refine aA (aB rfl) rfl ?_;refine aF (aE ?_);refine a7 ?_;refine eW (fun (i : Nat) => i ≤ xs.length) (fun i => [(2, v), (8, erV (cU ⟨1, n, [], xs⟩ s).1), (31, i64 xs.length), (32, i64 i)]) (fun _ => K1) (fun i => [sl z (elB 5) v (bang i xs), dsk K1 b (cH n xs s).2]) (fun i => xs.length - i) 0 (Nat.zero_le _) (.cons 2 rfl (.cons 8 rfl (.cons 31 rfl (.cons 32 rfl .nil)))) rfl (fun _ h => h) ?_;intro i hi;refine aG (aC ?_);refine aA (cZ rfl rfl) rfl ?_;refine aF (aE ?_);refine aG ?_;refine bJ 33 rfl (fun h33 => ?_) (fun h33 => ?_)
  ·
   have hbl := yS (i := i) (xs := xs) hi;have hlt : i < (bang i xs).length := by omega
   refine aX ?_;refine aE (aG ?_);refine a7 (aG ?_);refine aC ?_;refine aA (aB rfl) rfl ?_;refine aA (aD rfl) rfl ?_;refine aF (aE ?_);refine aC ?_;refine aA (aB rfl) rfl ?_;refine aA (aB rfl) rfl ?_;refine aA (bD (k := (elB 5)) kR rfl aN rfl rfl (by first | assumption | omega)) rfl ?_;refine cQ (xY (k := (elB 5)) (y0 := 33) ts5 rfl rfl rfl rfl (by first | assumption | omega) bI) ?_;rintro _ K _ ⟨rfl, rfl⟩ -;refine aF (aU ?_);refine aE (aC ?_);refine aA (bY rfl rfl aI aI) rfl ?_;refine aA (aB rfl) rfl ?_;refine aF ?_;rw [yT (hbl ▸ hlt)];exact dW (i + 1) aI aI (.cons 2 rfl (.cons 8 rfl (.cons 31 rfl (.cons 32 rfl .nil)))) rfl (fun _ h => h)
  ·
   have hie : i = xs.length := by omega
   refine cK ?_;refine aP ?_;refine aP ?_;refine bB ?_;refine aE (aG ?_);refine aC ?_;refine aA (aB rfl) rfl ?_;refine aA (aD rfl) rfl ?_;refine aF (aE ?_);refine a8 ?_;refine bF (.cons (.there .here) .nil) ?_;refine bA rfl rfl le1 ?_;exact ⟨_, rfl, by rw [aBB], rfl⟩
theorem aCO (b : Nat) (s : DSt) (n : aJ) (K K0 : Hl) (le : K0.le K) : Sp Tryz.prog 400 [ptr b, str n] K [dsk K0 b s]
  (Ret fun r K' L' => ∃ v, r = .tuple #[v, erV (gX n s).2] ∧ L' = [sl false (elB 5) v (gX n s).1, dsk K' b s]) := by
 refine o1 ⟨_, Tryz.func400, rfl, rfl⟩ fun L hd => ?_
 rw [List.append_nil];obtain ⟨m1, m2, es1, c1, es2, c2, pv, hm1, hm2, hop, hpv, rfl⟩ := hd;obtain ⟨dur, now, pend, l, f, dn⟩ := s;simp only at hm1 hm2 hop;have hd0 : fK K b ⟨dur, now, pend, l, f, dn⟩ (dskL b m1 m2 es1 c1 es2 c2 pv ⟨dur, now, pend, l, f, dn⟩) := ⟨m1, m2, es1, c1, es2, c2, pv, hm1.mono le, hm2.mono le, hop, hpv, rfl⟩;refine bE Tryz.func400 rfl Tryz.ntmps400 rfl rfl fun F w => ?_
 cases dn with
 | true =>
  refine aG (aC ?_);refine aA (aD rfl) rfl ?_;refine aA (aD rfl) rfl ?_;refine aF (aE ?_);refine aG (aG ?_);refine aC ?_;refine aA (aB rfl) rfl ?_;refine aA b0 rfl ?_;refine aA (aH (o' := 5) eK rfl rfl) rfl ?_;refine aA (aM ts4 rfl (.own .here) rfl) rfl ?_;refine aF (aE ?_);refine dH rfl ?_;refine aG (aC ?_);refine aA (cF Tryz.underlying30 (fun _ h => by cases h) rfl) rfl ?_;refine aA (aD rfl) rfl ?_;refine aA (aD rfl) rfl ?_;refine aF (aE ?_);refine a8 ?_;refine aR ?_;refine eY (fG hd0) ?_;refine eY (dZ (elB 5)) ?_;refine cR rfl rfl rfl (Hl.le_refl _) ?_;exact ⟨_, rfl, _, rfl, rfl⟩
 | false =>
  cases hg : mget es2 n with
  | none =>
   have e : gX n ⟨dur, now, pend, l, f, false⟩ = ([], some 14) := by simp [gX, hm2.lacks _ hg]
   rw [e];refine aG (aC ?_);refine aA (aD rfl) rfl ?_;refine aA (aD rfl) rfl ?_;refine aF (aE ?_);refine aG (aG ?_);refine aC ?_;refine aA (aB rfl) rfl ?_;refine aA b0 rfl ?_;refine aA (aH (o' := 5) eK rfl rfl) rfl ?_;refine aA (aM ts4 rfl (.own .here) rfl) rfl ?_;refine aF (aE ?_);refine bL rfl ?_;refine aX ?_;refine aE (aG ?_);refine aC ?_;refine aA (aB rfl) rfl ?_;refine aA b0 rfl ?_;refine aA (aH (o' := 1) fI rfl rfl) rfl ?_;refine aA (aM f5 rfl aN rfl) rfl ?_;refine aA (aB rfl) rfl ?_;refine aA (gH Tryz.underlying107 Tryz.underlying9 qC rfl rfl aN hg) rfl ?_;refine aA (aB rfl) rfl ?_;refine aA (aQ rfl rfl) rfl ?_;refine aA (aQ rfl rfl) rfl ?_;refine aA (aD rfl) rfl ?_;refine aA (aD rfl) rfl ?_;refine aF (aE ?_);refine aG (aG ?_);refine aC ?_;refine aA (aB rfl) rfl ?_;refine aA (dL rfl) rfl ?_;refine aF (aE ?_);refine dH rfl ?_;refine aG (aC ?_);refine aA (cF Tryz.underlying30 (fun _ h => by cases h) rfl) rfl ?_;refine aA (aD rfl) rfl ?_;refine aA (aD rfl) rfl ?_;refine aF (aE ?_);refine a8 ?_;refine aR ?_;refine eY (fG hd0) ?_;refine eY (dZ (elB 5)) ?_;refine cR rfl rfl rfl (Hl.le_refl _) ?_;exact ⟨_, rfl, _, rfl, rfl⟩
  | some u =>
   obtain ⟨d, hnd, bs, T, fz, rfl, hbs⟩ := hm2.has _ _ hg;have hbs2 := le _ _ hbs;have e : gX n ⟨dur, now, pend, l, f, false⟩ = (d, none) := by simp [gX, hnd]
   rw [e];refine aG (aC ?_);refine aA (aD rfl) rfl ?_;refine aA (aD rfl) rfl ?_;refine aF (aE ?_);refine aG (aG ?_);refine aC ?_;refine aA (aB rfl) rfl ?_;refine aA b0 rfl ?_;refine aA (aH (o' := 5) eK rfl rfl) rfl ?_;refine aA (aM ts4 rfl (.own .here) rfl) rfl ?_;refine aF (aE ?_);refine bL rfl ?_;refine aX ?_;refine aE (aG ?_);refine aC ?_;refine aA (aB rfl) rfl ?_;refine aA b0 rfl ?_;refine aA (aH (o' := 1) fI rfl rfl) rfl ?_;refine aA (aM f5 rfl aN rfl) rfl ?_;refine aA (aB rfl) rfl ?_;refine aA (iW Tryz.underlying107 Tryz.underlying9 qC rfl rfl aN hg) rfl ?_;refine aA (aB rfl) rfl ?_;refine aA (aQ rfl rfl) rfl ?_;refine aA (aQ rfl rfl) rfl ?_;refine aA (aD rfl) rfl ?_;refine aA (aD rfl) rfl ?_;refine aF (aE ?_);refine aG (aG ?_);refine aC ?_;refine aA (aB rfl) rfl ?_;refine aA (dL rfl) rfl ?_;refine aF (aE ?_);refine bL rfl ?_;refine aX ?_;refine aE (aG ?_);refine aC ?_;refine aA (aB rfl) rfl ?_;refine aA b0 rfl ?_;refine aA (aM ts9 rfl (.known hbs2) rfl) rfl ?_;refine ol_s (kM Tryz.underlying9 Tryz.underlying130 Tryz.underlying5 rfl) rfl ?_;rintro v28 K _ ⟨rfl, rfl⟩ -;refine aA (aD rfl) rfl ?_;refine aA (aD rfl) rfl ?_;refine aF (aE ?_);refine a8 ?_;refine eY (fun _ => eJ (fG hd0)) ?_;refine cR rfl rfl rfl (Hl.le_refl _) ?_;exact ⟨_, rfl, _, rfl, rfl⟩
theorem vZ (b : Nat) (s : DSt) (hpl : s.pend.length ≤ 1000000) (K K0 : Hl) (le : K0.le K) : Sp Tryz.prog 402 [ptr b] K [dsk K0 b s]
  (Ret fun r K' L' => r = erV (bQ s).1 ∧ L' = [dsk K' b (bQ s).2]) := by
 refine o1 ⟨_, Tryz.func402, rfl, rfl⟩ fun L hd => ?_
 rw [List.append_nil];obtain ⟨m1, m2, es1, c1, es2, c2, pv, hm1, hm2, hop, hpv, rfl⟩ := hd;obtain ⟨dur, now, pend, l, f, dn⟩ := s;simp only at hm1 hm2 hop hpl;refine bE Tryz.func402 rfl Tryz.ntmps402 rfl rfl fun F w => ?_
 rcases hw : cN l f dn with ⟨_ | e, l2, f2, dn2⟩
 ·have e : bQ ⟨dur, now, pend, l, f, dn⟩ = (none, ⟨pend.foldl doF dur, now, [], l2, f2, dn2⟩) := by simp [bQ, DSt.we, DSt.ws, hw, DSt.flush]
  rw [e];refine aG (aC ?_);refine aA (aD rfl) rfl ?_;refine aF (aE ?_);refine aG (aG ?_);refine aC ?_;refine aA (aB rfl) rfl ?_;refine bH rfl rfl (jG b _ _ pv l f dn _) (.cons .here .nil) rfl ?_;rintro _ K _ ⟨rfl, rfl, rfl⟩ -;rw [hw];refine aA (aD rfl) rfl ?_;refine aF (aE ?_);refine aG (aC ?_);refine aA (aB rfl) rfl ?_;refine aA (eP Tryz.underlying79 rfl) rfl ?_;refine aF (aE ?_);refine bL rfl ?_;refine aX ?_;refine aE (aG ?_);refine aG (aC ?_);refine aA (aB rfl) rfl ?_;refine aA b0 rfl ?_;refine aA (aH (o' := 2) eB rfl rfl) rfl ?_;refine aA (aM j9 rfl aN rfl) rfl ?_;refine aA (bM (k := opEl) rfl Tryz.underlying108 rfl aN) rfl ?_;refine aA (aB rfl) rfl ?_;refine aF (aE ?_);refine a7 ?_;refine l6 (fun (i : Nat) (K2 : Hl) (es : List Ent) (c : Nat) => i ≤ pend.length ∧ K.le K2 ∧ MapOk K2 es c ((pend.take i).foldl doF dur)) (fun i _ _ _ => [(0, ptr b), (14, pv), (15, i64 pend.length), (16, i64 i)]) (fun _ K2 _ _ => K2) (fun _ _ es c => [pt b (dskO (.map (some m1)) (.map (some m2)) pv l2 f2 dn2), pt m1 (mapO es c), pt m2 (mapO es2 c2), sl false opEl pv pend]) (fun i _ _ _ => pend.length - i) 0 K es1 c1 ⟨Nat.zero_le _, Hl.le_refl _, hm1.mono le⟩ (.cons 0 rfl (.cons 14 rfl (.cons 15 rfl (.cons 16 rfl .nil)))) rfl (fun _ h => h) ?_;intro i K2 es c ⟨hi, leL, hmi⟩;refine aG (aC ?_);refine aA (cZ rfl rfl) rfl ?_;refine aF (aE ?_);refine aG ?_;refine bJ 17 rfl (fun h17 => ?_) (fun h17 => ?_)
  ·
   have hlt : i < pend.length := by omega
   obtain ⟨o, hx⟩ : ∃ o, pend[i]? = some o := ⟨pend[i]'hlt, List.getElem?_eq_getElem hlt⟩;have hoo := hop o (List.mem_of_getElem? hx);refine aX ?_;refine aE (aG ?_);refine a7 (aG ?_);refine aC ?_;refine aA (bD (k := opEl) fZ rfl aN rfl rfl (by first | assumption | omega)) rfl ?_;refine aA (cI (n := 0) (k := opEl) eM rfl aN dF) rfl ?_;refine ol_s (dI qE) rfl ?_;rintro _ K _ ⟨b5, rfl, rfl, rfl⟩ -;refine cQ (cS eM rfl rfl rfl bI (by first | (simp [Value.oneCell']; done) | exact fun c hc => El.one _ _ c hc) (.cons (.cons (.cons (.cons .nil)))) (by intro j hj; simp)) ?_;rintro _ K _ ⟨rfl, rfl⟩ -;refine aF (aE ?_);refine cT (anc := [0, 1, 3, 7, 0, 31]) (ord := [0, 1, 2, 3, 4, 5]) [5] [5] mixed (by decide +kernel) (dJ _) ?_;refine aK rfl rfl (.none rfl) rfl rfl (aB rfl) rfl ?_;refine aK rfl rfl (.none rfl) rfl rfl b0 rfl ?_;refine aK rfl rfl (.none rfl) rfl rfl (aH (o' := 0) fH rfl rfl) rfl ?_;refine aK rfl rfl (.none rfl) rfl rfl (aM f5 rfl aN rfl) rfl ?_;refine aK rfl rfl (.none rfl) rfl rfl (bX eM rfl aN rfl rfl) rfl ?_;refine eZ rfl (.none rfl) rfl rfl rfl (jQ m1 es c _ o hoo _ hmi) (.cons (.there (.there .here)) .nil) rfl ?_;rintro _ K3 _ ⟨rfl, es3, c3, hm3, rfl⟩ le3;refine cO ?_;refine aU (aE ?_);refine aC ?_;refine aA (bY rfl rfl aI aI) rfl ?_;refine aA (aB rfl) rfl ?_;refine aF ?_;refine bF (.cons (.there (.there .here)) (.cons .here (.cons (.there .here) (.cons (.there .here) .nil)))) ?_;exact d8 (i + 1) _ es3 c3 ⟨hlt, Hl.le_trans leL le3, by rw [List.take_succ_eq_append_getElem hlt, List.foldl_append]; rw [List.getElem?_eq_getElem hlt] at hx; cases hx; exact hm3⟩ aI (.cons 0 rfl (.cons 14 rfl (.cons 15 rfl (.cons 16 rfl .nil)))) rfl (fun _ h => h)
  ·
   have hie : i = pend.length := by omega
   subst hie;rw [List.take_length] at hmi;refine cK ?_;refine aP ?_;refine aP ?_;refine bB ?_;refine aE (aG ?_);refine aC ?_;refine aA (aB rfl) rfl ?_;refine aA b0 rfl ?_;refine aA (aH (o' := 2) eB rfl rfl) rfl ?_;refine cQ (bT j9 rfl rfl dM bI (.succ (.succ .zero)) rfl) ?_;rintro _ K _ ⟨rfl, rfl⟩ -;refine aF (aE ?_);refine aG (aC ?_);refine aA (aD rfl) rfl ?_;refine aF (aE ?_);refine a8 ?_;refine bF (.cons .here (.cons .here (.cons .here .nil))) ?_;refine eY (dZ opEl) ?_;refine bF (.cons (.there .here) (.cons (.there .here) (.cons (.there .here) (.cons .here .nil)))) ?_;refine eY (fG (s := ⟨pend.foldl doF dur, now, [], l2, f2, dn2⟩) ⟨m1, m2, es, c, es2, c2, _, hmi, (hm2.mono le).mono leL, (fun o h => by cases h), rfl, rfl⟩) ?_;refine bA rfl rfl leL ?_;exact ⟨_, rfl, rfl, rfl⟩
 ·have e : bQ ⟨dur, now, pend, l, f, dn⟩ = (some e, ⟨dur, now, pend, l2, f2, dn2⟩) := by simp [bQ, DSt.we, DSt.ws, hw]
  rw [e];refine aG (aC ?_);refine aA (aD rfl) rfl ?_;refine aF (aE ?_);refine aG (aG ?_);refine aC ?_;refine aA (aB rfl) rfl ?_;refine bH rfl rfl (jG b _ _ pv l f dn _) (.cons .here .nil) rfl ?_;rintro _ K _ ⟨rfl, rfl, rfl⟩ -;rw [hw];refine aA (aD rfl) rfl ?_;refine aF (aE ?_);refine aG (aC ?_);refine aA (aB rfl) rfl ?_;refine aA (fR Tryz.underlying79 rfl rfl) rfl ?_;refine aF (aE ?_);refine dH rfl ?_;refine aG (aC ?_);refine aA (aB rfl) rfl ?_;refine aA (aD rfl) rfl ?_;refine aF (aE ?_);refine a8 ?_;refine aR ?_;refine eY (fG (s := ⟨dur, now, pend, l2, f2, dn2⟩) ⟨m1, m2, es1, c1, es2, c2, pv, hm1.mono le, hm2.mono le, hop, hpv, rfl⟩) ?_;refine bA rfl rfl (Hl.le_refl _) ?_;exact ⟨_, rfl, rfl, rfl⟩
end Go.Proofs
end
section
namespace Go.Proofs
open Go.Shelf
def Tryz.sl6_ren : Go.Shelf.Ren := ⟨fun | 6 => 83 | 10 => 93 | 11 => 137 | 12 => 138 | 13 => 139 | 14 => 140 | 24 => 239 | 25 => 240 | 26 => 241 | 27 => 242 | 28 => 243 | 29 => 244 | 30 => 245 | 31 => 246 | 32 => 247 | 33 => 248 | 34 => 298 | 35 => 299 | 36 => 300 | 37 => 301 | 38 => 302 | 39 => 334 | n => n, fun | 20 => 20 | 26 => 169 | 35 => 188 | 0 => 0 | 37 => 112 | 3 => 3 | 41 => 257 | 44 => 260 | 49 => 350 | 51 => 345 | 4 => 4 | 54 => 354 | 53 => 353 | 58 => 358 | 5 => 5 | 9 => 9 | 60 => 420 | 64 => 424 | 66 => 454 | 67 => 455 | 17 => 17 | 32 => 185 | 33 => 186 | 82 => 525 | 12 => 12 | 75 => 520 | 76 => 193 | 77 => 521 | 78 => 227 | 79 => 522 | 80 => 523 | n => n, fun n => n⟩
theorem Tryz.sl6 : LaysGg.n6 Tryz.prog Tryz.sl6_ren := {
 mixed := by kernel_rfl
 f6 := Tryz.func83.trans (congrArg some aY)
 f10 := Tryz.func93.trans (congrArg some aY)
 f11 := Tryz.func137.trans (congrArg some aY)
 f12 := Tryz.func138.trans (congrArg some aY)
 f13 := Tryz.func139.trans (congrArg some aY)
 f14 := Tryz.func140.trans (congrArg some aY)
 f24 := Tryz.func239.trans (congrArg some aY)
 f25 := Tryz.func240.trans (congrArg some aY)
 f26 := Tryz.func241.trans (congrArg some aY)
 f27 := Tryz.func242.trans (congrArg some aY)
 f28 := Tryz.func243.trans (congrArg some aY)
 f29 := Tryz.func244.trans (congrArg some aY)
 f30 := Tryz.func245.trans (congrArg some aY)
 f31 := Tryz.func246.trans (congrArg some aY)
 f32 := Tryz.func247.trans (congrArg some aY)
 f33 := Tryz.func248.trans (congrArg some aY)
 f34 := Tryz.func298.trans (congrArg some aY)
 f35 := Tryz.func299.trans (congrArg some aY)
 f36 := Tryz.func300.trans (congrArg some aY)
 f37 := Tryz.func301.trans (congrArg some aY)
 f38 := Tryz.func302.trans (congrArg some aY)
 f39 := Tryz.func334.trans (congrArg some aY)
 t0 := Tryz.underlying0
 a0 := Tryz.isAgg0
 z0 := Tryz.sizeOf0
 v0 := Tryz.zeroValue0
 i0 := by kernel_rfl
 t3 := Tryz.underlying3
 a3 := Tryz.isAgg3
 z3 := Tryz.sizeOf3
 v3 := Tryz.zeroValue3
 i3 := by kernel_rfl
 t4 := Tryz.underlying4
 a4 := Tryz.isAgg4
 z4 := Tryz.sizeOf4
 v4 := Tryz.zeroValue4
 i4 := by kernel_rfl
 t5 := Tryz.underlying5
 a5 := Tryz.isAgg5
 z5 := Tryz.sizeOf5
 v5 := Tryz.zeroValue5
 i5 := by kernel_rfl
 t9 := Tryz.underlying9
 a9 := Tryz.isAgg9
 z9 := Tryz.sizeOf9
 v9 := Tryz.zeroValue9
 i9 := by kernel_rfl
 t12 := Tryz.underlying12
 a12 := Tryz.isAgg12
 z12 := Tryz.sizeOf12
 v12 := Tryz.zeroValue12
 i12 := by kernel_rfl
 t17 := Tryz.underlying17
 a17 := Tryz.isAgg17
 z17 := Tryz.sizeOf17
 v17 := Tryz.zeroValue17
 i17 := by kernel_rfl
 t20 := Tryz.underlying20
 a20 := Tryz.isAgg20
 z20 := Tryz.sizeOf20
 v20 := Tryz.zeroValue20
 i20 := by kernel_rfl
 t26 := Tryz.underlying169
 a26 := Tryz.isAgg169
 z26 := Tryz.sizeOf169
 v26 := Tryz.zeroValue169
 i26 := by kernel_rfl
 t32 := Tryz.underlying185
 a32 := Tryz.isAgg185
 z32 := Tryz.sizeOf185
 v32 := Tryz.zeroValue185
 i32 := by kernel_rfl
 t33 := Tryz.underlying186
 a33 := Tryz.isAgg186
 z33 := Tryz.sizeOf186
 v33 := Tryz.zeroValue186
 i33 := by kernel_rfl
 t35 := Tryz.underlying188
 a35 := Tryz.isAgg188
 z35 := Tryz.sizeOf188
 v35 := Tryz.zeroValue188
 i35 := by kernel_rfl
 t37 := Tryz.underlying112
 a37 := Tryz.isAgg112
 z37 := Tryz.sizeOf112
 v37 := Tryz.zeroValue112
 i37 := by kernel_rfl
 t41 := Tryz.underlying257
 a41 := Tryz.isAgg257
 z41 := Tryz.sizeOf257
 v41 := Tryz.zeroValue257
 i41 := by kernel_rfl
 t44 := Tryz.underlying260
 a44 := Tryz.isAgg260
 z44 := Tryz.sizeOf260
 v44 := Tryz.zeroValue260
 i44 := by kernel_rfl
 t49 := Tryz.underlying350
 a49 := Tryz.isAgg350
 z49 := Tryz.sizeOf350
 v49 := Tryz.zeroValue350
 i49 := by kernel_rfl
 t51 := Tryz.underlying345
 a51 := Tryz.isAgg345
 z51 := Tryz.sizeOf345
 v51 := Tryz.zeroValue345
 i51 := by kernel_rfl
 t53 := Tryz.underlying353
 a53 := Tryz.isAgg353
 z53 := Tryz.sizeOf353
 v53 := Tryz.zeroValue353
 i53 := by kernel_rfl
 t54 := Tryz.underlying354
 a54 := Tryz.isAgg354
 z54 := Tryz.sizeOf354
 v54 := Tryz.zeroValue354
 i54 := by kernel_rfl
 t58 := Tryz.underlying358
 a58 := Tryz.isAgg358
 z58 := Tryz.sizeOf358
 v58 := Tryz.zeroValue358
 i58 := by kernel_rfl
 t60 := Tryz.underlying420
 a60 := Tryz.isAgg420
 z60 := Tryz.sizeOf420
 v60 := Tryz.zeroValue420
 i60 := by kernel_rfl
 t64 := Tryz.underlying424
 a64 := Tryz.isAgg424
 z64 := Tryz.sizeOf424
 v64 := Tryz.zeroValue424
 i64 := by kernel_rfl
 t66 := Tryz.underlying454
 a66 := Tryz.isAgg454
 z66 := Tryz.sizeOf454
 v66 := Tryz.zeroValue454
 i66 := by kernel_rfl
 t67 := Tryz.underlying455
 a67 := Tryz.isAgg455
 z67 := Tryz.sizeOf455
 v67 := Tryz.zeroValue455
 i67 := by kernel_rfl
 t75 := Tryz.underlying520
 a75 := Tryz.isAgg520
 z75 := Tryz.sizeOf520
 v75 := Tryz.zeroValue520
 i75 := by kernel_rfl
 t76 := Tryz.underlying193
 a76 := Tryz.isAgg193
 z76 := Tryz.sizeOf193
 v76 := Tryz.zeroValue193
 i76 := by kernel_rfl
 t77 := Tryz.underlying521
 a77 := Tryz.isAgg521
 z77 := Tryz.sizeOf521
 v77 := Tryz.zeroValue521
 i77 := by kernel_rfl
 t78 := Tryz.underlying227
 a78 := Tryz.isAgg227
 z78 := Tryz.sizeOf227
 v78 := Tryz.zeroValue227
 i78 := by kernel_rfl
 t79 := Tryz.underlying522
 a79 := Tryz.isAgg522
 z79 := Tryz.sizeOf522
 v79 := Tryz.zeroValue522
 i79 := by kernel_rfl
 t80 := Tryz.underlying523
 a80 := Tryz.isAgg523
 z80 := Tryz.sizeOf523
 v80 := Tryz.zeroValue523
 i80 := by kernel_rfl
 t82 := Tryz.underlying525
 a82 := Tryz.isAgg525
 z82 := Tryz.sizeOf525
 v82 := Tryz.zeroValue525
 i82 := by kernel_rfl }
end Go.Proofs
end
section
namespace Go.Proofs
open Go.Shelf Go.RowKit Go.Lib Go.Sort
abbrev cJ := List UInt8 × List UInt8
def encF (f : cJ) : List Value := [SL.str f.1, SL.str f.2]
def ltF (a b : cJ) : Bool := ltStr a.1 b.1
theorem aC0 : SWO ltF where
 irrefl x := swo_ltStr.irrefl x.1
 trans x y z := swo_ltStr.trans x.1 y.1 z.1
 ntrans x y z := swo_ltStr.ntrans x.1 y.1 z.1
noncomputable def Tryz.svT : TypeInfo := (Tryz.prog.info? 62).get aY
noncomputable def Tryz.svE : TypeInfo := (Tryz.prog.info? 66).get aY
theorem Tryz.svK (n : Nat) (h2 : 2 ≤ n) : Lib.swapperK n Tryz.svE 25 = 9 := by
 have a : Tryz.svE.hasPointers = true := by kernel_rfl
 have b : Tryz.svE.bytes = 32 := by kernel_rfl
 have c : (n == 0) = false := by simp; omega
 have d : (n == 1) = false := by simp; omega
 simp [Lib.swapperK, a, b, c, d]
set_option maxHeartbeats 2000000 in
theorem Tryz.less (blk off c Bs size : Nat) (W : World) (G : Nat → List UInt8) (hs : W.cell? ⟨Bs, 0, none⟩ = some (.slice (some ⟨blk, off, none⟩) size c))
  (hc : ∀ t, t < size → W.cell? ⟨blk, off + t * 2, none⟩ = some (SL.str (G t))) (i j : Nat) (hi : i < size) (hj : j < size) (_hsz : size < 4611686018427387904) :
  Calls Tryz.prog 84 #[.int .i64 i, .int .i64 j, .pointer (some ⟨Bs, 0, none⟩)] W fun e w' => e = .returned (.bool (ltStr (G i) (G j))) ∧ ∃ q, w' = W.drewN q := by
 have ci := hc i hi;have cj := hc j hj
 go_enter Tryz.func84, Tryz.ntmps84
 go_wp2
 go_quiet (fail)
 go_wp2
 go_ret
 refine ⟨?_, nq, rfl⟩
 rw [bytesLess_eq]
 rfl
theorem Tryz.sortMany (blk off c Bs : Nat) (d : Array cJ) (h2 : 2 ≤ d.size) (hsz : d.size < 4611686018427387904) (w : World) (hH : HoldsK encF 2 w blk off d) (hblk : blk < w.heap.size)
  (hBs : w.cell? ⟨Bs, 0, none⟩ = some (.slice (some ⟨blk, off, none⟩) d.size c)) (hB1 : Bs < w.heap.size) (hB2 : Bs ≠ blk) :
  Calls Tryz.prog 83 #[.iface 62 (.slice (some ⟨blk, off, none⟩) d.size c), .func (.func 84) #[] #[.pointer (some ⟨Bs, 0, none⟩)]] w fun e w' =>
   e = .returned (.tuple #[]) ∧ ∃ d' n os, PermIn 0 d.size d d' ∧ SortedIn ltF 0 d.size d' ∧ w' = grow (putRowK encF 2 (Sort.ahead w n) blk off d') os := by
 have hless : LessReadsK Tryz.prog 84 #[.pointer (some ⟨Bs, 0, none⟩)] encF 2 ltF blk off d.size w := by
  intro m os dk hs i j hi hj;have e : sortWorldK encF 2 w blk off m dk os = putRowK encF 2 (grow (Sort.ahead w m) os) blk off dk := by
   unfold sortWorldK; rw [putRowK_grow _ _ (Sort.ahead w m) _ blk off _ hblk]
  have hHg : HoldsK encF 2 (grow (Sort.ahead w m) os) blk off d := holdsK_grow _ _ _ _ blk off d hblk (holdsK_ahead _ _ _ _ _ _ _ hH);refine Tryz.less blk off c Bs d.size _ (fun t => dk[t]!.1) ?_ (fun t ht => ?_) i j hi hj aI
  ·rw [e, cell?_putRowK_other _ _ _ blk off dk _ (by exact hB2), cell?_grow _ _ _ (by exact hB1)]; exact hBs
  ·rw [e]; exact ((holdsK_putRowK _ _ _ blk off d dk hHg hs).cell (i := t) (c := 0) aI aI).1
 exact Any.sort_Slice_cells_sorted Tryz.sl6 62 66 Tryz.svT Tryz.svE aY aY aY aY 25 (fun _ => by kernel_rfl) encF 2 (fun _ => rfl) aY (fun _ => by kernel_rfl)
  (fun x v hv => by simp [encF] at hv; rcases hv with rfl | rfl <;> rfl) ltF aC0 84 _
  (enters_of Tryz.func84 aY rfl) blk off c d h2 hsz 238 (by rw [Tryz.svK _ h2]; kernel_rfl) false
  (fun args W => run_callFunc_extern Tryz.func238 aY aY aY (e := Extern.ReflectliteSwapper.swap false) aY args W) w hless hH hblk
theorem Tryz.sortTiny (p : Option Addr) (n c : Nat) (h1 : n ≤ 1) (lf : Fn) (la lb : Array Value) (w : World) :
  Calls Tryz.prog 83 #[.iface 62 (.slice p n c), .func lf la lb] w fun e w' => e = .returned (.tuple #[]) ∧ ∃ os, w' = grow w os := by
 rcases (show n = 0 ∨ n = 1 by omega) with rfl | rfl
 ·exact Any.sort_Slice_tiny Tryz.sl6 62 66 Tryz.svT Tryz.svE aY aY aY aY 25 (fun _ => by kernel_rfl) p 0 c h1 230 aY lf la lb w
 ·exact Any.sort_Slice_tiny Tryz.sl6 62 66 Tryz.svT Tryz.svE aY aY aY aY 25 (fun _ => by kernel_rfl) p 1 c h1 231 aY lf la lb w
end Go.Proofs
end
section
namespace Go.Proofs
open Go Go.SL Go.Sort
def aV : El cJ := { e := 66, sz := 2, enc := encF, len := fun _ => rfl, one := fun _ u h => by simp [encF] at h; rcases h with rfl | rfl <;> rfl }
theorem In.grow {w0 : World} {F K : Hl} {L : List Asn} : ∀ (os : List Obj) {w : World}, In w0 F K L w → In w0 F K L (Sort.grow w os.toArray)
 | [], w, i => by simpa using i
 | o :: os, w, i => by
  have e : Sort.grow w (o :: os).toArray = Sort.grow (w.alloc o) os.toArray := by rw [alloc_eq_grow, grow_grow]; congr 1; simp
  rw [e];exact In.grow os (i.alloc o).drop
theorem yY : ∀ (xs : List cJ) (t : Nat), (aV.cs xs)[t]? = (xs[t / 2]?).bind fun f => (encF f)[t % 2]?
 | [], t => by simp [El.cs]
 | x :: r, 0 => rfl
 | x :: r, 1 => rfl
 | x :: r, t + 2 => by
  have := yY r t;have e1 : (t + 2) / 2 = t / 2 + 1 := by omega
  have e2 : (t + 2) % 2 = t % 2 := by omega
  rw [e1, e2, List.getElem?_cons_succ, ← this]
  rfl
theorem sF (d : Array cJ) (t : Nat) (h : t < d.size * 2) : (aV.cs d.toList)[t]? = some ((flatK encF 2 d)[t]!) := by
 have h2 : t / 2 < d.size := by omega
 rw [yY, get_flatK _ _ _ _ h];have e : d.toList[t / 2]? = some d[t / 2]! := by rw [Array.getElem?_toList, Array.getElem?_eq_getElem h2, getElem!_pos d _ h2]
 rw [e];simp only [Option.bind_some];rcases Nat.mod_two_eq_zero_or_one t with e | e <;> rw [e] <;> rfl
theorem zR {w : World} {xs : List cJ} {b : Nat} {junk : List Value} {cap : Nat} {fz : Nat × Nat} (hb : w.heap[b]? = some (aW (aV.cs xs ++ junk) 66 fz)) (hf : FzOk (cap * 2) fz) (hc : xs.length ≤ cap) : HoldsK encF 2 w b 0 xs.toArray := by
 intro j hj;have hj' : j < xs.length * 2 := by simpa using hj
 have hl : (aV.cs xs).length = xs.length * 2 := aV.cs_length xs;refine ⟨?_, ?_⟩
 ·rw [Nat.zero_add];refine iR hb ?_;rw [List.getElem?_append_left aI];exact sF xs.toArray j (by simpa using hj')
 ·have := hf.at (o := 0 + j) aI;obtain ⟨lo, hi⟩ := fz;simp only [World.frozen?, hb]; exact this
theorem xS (xs : List cJ) (d' : Array cJ) (junk : List Value) (hs : d'.size = xs.length) : putCells id 0 (flatK encF 2 d') (aV.cs xs ++ junk).toArray = (aV.cs d'.toList ++ junk).toArray := by
 have hl : (aV.cs xs).length = xs.length * 2 := aV.cs_length xs;have hl' : (aV.cs d'.toList).length = xs.length * 2 := by rw [aV.cs_length]; simp [hs]; rfl
 apply Array.ext_getElem?
 intro k;simp only [putCells, Array.getElem?_mapIdx, size_flatK, List.getElem?_toArray]
 by_cases hk : k < xs.length * 2
 ·rw [List.getElem?_append_left aI, List.getElem?_append_left aI, List.getElem?_eq_getElem aI, sF d' k aI];simp only [Option.map_some];rw [if_pos ⟨by omega, by omega⟩]; rfl
 ·rw [List.getElem?_append_right aI, List.getElem?_append_right aI, hl, hl'];cases junk[k - xs.length * 2]? with
  | none => rfl
  | some y => simp only [Option.map_some]; rw [if_neg aI]
theorem In.putRow {w0 w : World} {F K : Hl} {L : List Asn} {b : Nat} {xs : List cJ} {d' : Array cJ} {junk : List Value} {fz : Nat × Nat} {t : TypeId} (hs : d'.size = xs.length) (i : In w0 F K (pt b (aW (aV.cs xs ++ junk) t fz) :: L) w) :
  In w0 F K (pt b (aW (aV.cs d'.toList ++ junk) t fz) :: L) (putRowK encF 2 w b 0 d') := by
 have hb := i.piece;refine In.write (H := (putRowK encF 2 w b 0 d').heap) i (by rw [← size_putRowK encF 2 w b 0 d']) ?_ ?_
 ·simp only [putRowK, Sort.putRow, mapBlock, Array.getElem?_modify, if_true, hb, Option.map_some, onCells];rw [xS xs d' junk hs]
 ·intro x hx;simp only [putRowK, Sort.putRow, mapBlock, Array.getElem?_modify];rw [if_neg (Ne.symm hx)]
abbrev kD (ys : List cJ) : Prop := ys.Pairwise fun a b => ¬ b.1 < a.1
theorem uM {d : Array cJ} (h : SortedIn ltF 0 d.size d) : kD d.toList := by
 rw [kD, List.pairwise_iff_getElem];intro i j hi hj hij;have := h i j (Nat.zero_le _) hij (by simpa using hj);simp only [ltF, ltStr, decide_eq_false_iff_not] at this
 simpa [getElem!_pos d i (by simpa using hi), getElem!_pos d j (by simpa using hj)] using this
theorem aCU (Bs : Nat) (z : Bool) (v : Value) (xs : List cJ) (hn : xs.length < 4611686018427387904) (K : Hl) : Sp Tryz.prog 83 [.iface 62 v, .func (.func 84) #[] #[ptr Bs]] K [pt Bs (aW [v] 62), sl z aV v xs]
  (Ret fun u K' L' => u = .tuple #[] ∧ K' = K ∧ ∃ ys, ys.Perm xs ∧ kD ys ∧ L' = [pt Bs (aW [v] 62), sl z aV v ys]) := by
 refine ⟨⟨_, Tryz.func83, rfl, rfl⟩, fun F w i => ?_⟩
 have iB : w.heap[Bs]? = some (aW [v] 62) := i.piece;have small : ∀ p c, v = .slice p xs.length c → xs.length ≤ 1 → Calls Tryz.prog 83 [.iface 62 v, .func (.func 84) #[] #[ptr Bs]].toArray w fun e w' => ∃ K' L', (Ret fun u K' L' => u = .tuple #[] ∧ K' = K ∧ ∃ ys, ys.Perm xs ∧ kD ys ∧ L' = [pt Bs (aW [v] 62), sl z aV v ys]) e K' L' ∧ K.le K' ∧ In w F K' L' w' := by
  intro p c hv h1;have hord : kD xs := by
   match xs, h1 with
   | [], _ => exact List.Pairwise.nil
   | [x], _ => exact List.pairwise_singleton _ _
  rw [hv];refine (Tryz.sortTiny p xs.length c h1 (.func 84) #[] #[ptr Bs] w).mono ?_;rintro e w' ⟨rfl, os, rfl⟩;rw [← hv];exact ⟨K, _, ⟨_, rfl, rfl, rfl, xs, .refl _, hord, rfl⟩, Hl.le_refl _, by simpa using In.grow os.toList i⟩
 have i2 := i.imp (fun h => eQ);obtain ⟨h, ⟨a, l, ha, hl, hal, rfl⟩, d1, d2, d3, l1, l2, l3⟩ := id i2.rep;rcases ha with ⟨hv, hx, -⟩ | ⟨b, cap, junk, fz, hv, hz, hc, hj, hf, he⟩
 ·exact small none 0 (by rw [hv, hx]; rfl) (by rw [hx]; exact Nat.zero_le _)
 ·rcases Nat.lt_or_ge 1 xs.length with h1 | h1
  ·have i3 : In w F K [pt b (aW (aV.cs xs ++ junk) 66 fz), pt Bs (aW [v] 62)] w := ⟨i2.os, i2.tape, i2.output, i2.size, a.join l, ⟨a, l, he, hl, hal, rfl⟩, d1, d2, d3, l1, l2, l3⟩;have hbb := i3.piece;have hlt : ∀ {x o}, w.heap[x]? = some o → x < w.heap.size := fun {x o} e => by
    rcases Nat.lt_or_ge x w.heap.size with h | h
    ·exact h
    ·simp [Array.getElem?_eq_none h] at e
   have hne : Bs ≠ b := by
    rintro rfl;obtain ⟨_, ⟨a1, m1, ha1, ⟨a2, m2, ha2, _, _, rfl⟩, hd, rfl⟩, _⟩ := i3.rep;simp only [pt] at ha1 ha2; subst ha1; subst ha2
    have := (Hl.dj_join.1 hd).1 Bs;simp [Hl.one] at this
   rw [hv];refine (Tryz.sortMany b 0 cap Bs xs.toArray (by simpa using Nat.succ_le_of_lt h1) (by simpa using hn) w (zR hbb hf hc) (hlt hbb) (by have := iR iB (o := 0) (v := v) rfl; rw [this, hv]; simp) (hlt iB) hne).mono ?_;rintro e w' ⟨rfl, d', n, os, hP, hS, rfl⟩;have hsz : d'.size = xs.length := by simpa using hP.1
   have hperm : d'.toList.Perm xs := by
    have := hP.2.2;have e1 : d'.extract 0 xs.toArray.size = d' := by rw [← hP.1]; simp
    rw [e1] at this
    simpa using this
   rw [← hv];have i4 : In w F K [pt b (aW (aV.cs d'.toList ++ junk) 66 fz), pt Bs (aW [v] 62)] (putRowK encF 2 (Sort.ahead w n) b 0 d') := In.putRow hsz (i3.drew _);have i5 := In.grow os.toList i4;refine ⟨K, _, ⟨_, rfl, rfl, rfl, d'.toList, hperm, uM (by rw [hP.1]; exact hS), rfl⟩, Hl.le_refl _, ?_⟩
   refine In.imp (fun h hh => eQ (dT (fun h' hh' => ?_) h hh)) (by simpa using i5)
   exact .inr ⟨b, cap, junk, fz, by rw [hv]; simp [hsz], fun hz' e0 => by have := congrArg List.length e0; rw [Array.length_toList, hsz] at this; simp at this; rw [this] at h1; simp at h1, by simpa [hsz] using hc, by simpa [hsz] using hj, hf, hh'⟩
  ·exact small _ cap hv h1
end Go.Proofs
end
section
namespace Go.Proofs
open Go Go.SL Go.Syn Go.Box
theorem xor8 {h : Nat} {c : UInt8} (hh : h < 18446744073709551616) : IntKind.u64.wrap (BitVec.ofInt 64 (h : Int) ^^^ BitVec.ofInt 64 (c.toNat : Int)).toNat = ((h ^^^ c.toNat : Nat) : Int) := by
 have hc := c.toNat_lt;have e : (BitVec.ofInt 64 (h : Int) ^^^ BitVec.ofInt 64 (c.toNat : Int)).toNat = h ^^^ c.toNat := by
  rw [BitVec.toNat_xor, BitVec.ofInt_natCast, BitVec.ofInt_natCast, BitVec.toNat_ofNat, BitVec.toNat_ofNat, Nat.mod_eq_of_lt aI, Nat.mod_eq_of_lt aI]
 rw [e];have : h ^^^ c.toNat < 2 ^ 64 := Nat.xor_lt_two_pow aI aI;unfold IntKind.wrap IntKind.bits IntKind.signed;simp only [Bool.false_and];simp; omega
theorem aFM {m : Nat} : IntKind.u64.wrap ((m : Int) * 1099511628211) = ((m * 1099511628211 % 18446744073709551616 : Nat) : Int) := by
 unfold IntKind.wrap IntKind.bits IntKind.signed;simp only [Bool.false_and];simp
theorem aCL {h : Nat} {c : UInt8} : IntKind.u64.wrap (((h ^^^ c.toNat : Nat) : Int) * 1099511628211) = ((f9 h c : Nat) : Int) := by unfold f9; exact aFM
theorem aCZ {h : Nat} {c : UInt8} : f9 h c < 18446744073709551616 := by unfold f9; exact Nat.mod_lt _ aI
theorem mQ (s : aJ) (hs : s.length ≤ 140737488355328) (K : Hl) : Sp Tryz.prog 226 [str s] K [] (Val (.int .u64 (sumC s)) K) := by
 refine bE Tryz.func226 rfl Tryz.ntmps226 rfl rfl fun F w => ?_
 refine aG (aC ?_);refine aA (aD rfl) rfl ?_;refine aF (aE ?_);refine aG (aC ?_);refine aA (aD rfl) rfl ?_;refine aF (aE ?_);refine aG (aG ?_);refine aC ?_;refine aA (aB rfl) rfl ?_;refine ol_s (kM Tryz.underlying9 Tryz.underlying130 Tryz.underlying5 rfl) rfl ?_;rintro v7 K _ ⟨rfl, rfl⟩ -;refine aA (bM (k := (elB 5)) rfl Tryz.underlying130 rfl aN) rfl ?_;refine aA (aB rfl) rfl ?_;refine aF (aE ?_);refine a7 ?_;refine l5 (fun (i h : Nat) => i ≤ s.length ∧ h < 18446744073709551616 ∧ h = (s.take i).foldl f9 14695981039346656037) (fun i h => [(3, .int .u64 h), (7, v7), (8, i64 s.length), (9, i64 i)]) (fun _ _ => K) (fun _ _ => [sl false (elB 5) v7 s]) (fun i _ => s.length - i) 0 14695981039346656037 ⟨Nat.zero_le _, by omega, by rw [List.take_zero]; exact List.foldl_nil.symm⟩ (.cons 3 rfl (.cons 7 rfl (.cons 8 rfl (.cons 9 rfl .nil)))) rfl (fun _ h => h) ?_;intro i h ⟨hi, hst, hh⟩;refine aG (aC ?_);refine aA (cZ rfl rfl) rfl ?_;refine aF (aE ?_);refine aG ?_;refine bJ 10 rfl (fun h10 => ?_) (fun h10 => ?_)
 ·
  have hlt : i < s.length := by omega
  obtain ⟨c, hx⟩ : ∃ c, s[i]? = some c := ⟨s[i]'hlt, List.getElem?_eq_getElem hlt⟩;refine aX ?_;refine aE (aG ?_);refine a7 (aG ?_);refine aC ?_;refine aA (bD (k := (elB 5)) kR rfl aN rfl rfl (by first | assumption | omega)) rfl ?_;refine aA (kG (o := 0) (k := (elB 5)) ts5 rfl aN dF rfl) rfl ?_;refine aA (aD rfl) rfl ?_;refine aF (aE ?_);refine aC ?_;refine aA (aB rfl) rfl ?_;refine aA (aB rfl) rfl ?_;refine aA (eH (v := .int .u64 (c.toNat : Int)) (eO Tryz.underlying345 Tryz.underlying5 rfl) (by have := c.toNat_lt; unfold IntKind.wrap IntKind.bits IntKind.signed; simp only [Bool.false_and]; simp; omega)) rfl ?_;refine aA (eH (v := .int .u64 ((h ^^^ c.toNat : Nat) : Int)) (aBZ rfl rfl) (congrArg (Value.int .u64) (xor8 hst))) rfl ?_;refine aA (eH (v := .int .u64 ((f9 h c : Nat) : Int)) (vK rfl rfl) (congrArg (Value.int .u64) aCL)) rfl ?_;refine aA (aD rfl) rfl ?_;refine aF (aU ?_);refine aE (aC ?_);refine aA (bY rfl rfl aI aI) rfl ?_;refine aA (aB rfl) rfl ?_;refine aF ?_;refine iC (i + 1) (f9 h c) ⟨by omega, aCZ, ?_⟩ aI (.cons 3 rfl (.cons 7 rfl (.cons 8 rfl (.cons 9 rfl .nil)))) rfl (fun _ h => h)
  rw [List.take_succ_eq_append_getElem hlt, List.foldl_append, ← hh]; rw [List.getElem?_eq_getElem hlt] at hx; cases hx; rw [List.foldl_cons, List.foldl_nil]
 ·
  have hie : i = s.length := by omega
  subst hie;rw [List.take_length, ← vY] at hh;subst hh;refine cK ?_;refine aP ?_;refine aP ?_;refine bB ?_;refine aE (aG ?_);refine aC ?_;refine aA (aB rfl) rfl ?_;refine aA (aD rfl) rfl ?_;refine aF (aE ?_);refine a8 ?_;refine bF .nil ?_;refine bA rfl rfl (Hl.le_refl _) ?_;exact ⟨rfl, rfl, rfl⟩
theorem xQ (v : Value) (xs : List File) (K : Hl) (hv : Ksl aV K v xs) (hg : Glob K) (hd : Deb K) (hb : (bodyC xs).length ≤ 1000000000) (hn : xs.length ≤ 100) : Sp Tryz.prog 132 [v] K [] (Val (str (c8 xs)) K) := by
 refine bE Tryz.func132 rfl Tryz.ntmps132 rfl rfl fun F w => ?_
 refine aG (aC ?_);refine aA (aD rfl) rfl ?_;refine aF (aE ?_);refine aG (aC ?_);refine ol_s (dI aFX) rfl ?_;rintro _ K _ ⟨b3, rfl, rfl, rfl⟩ -;refine aF (aE ?_);refine aG (aG ?_);refine aC ?_;refine aA (aB rfl) rfl ?_;refine aA (bM (k := aV) rfl Tryz.underlying62 rfl (.known hv)) rfl ?_;refine aA (aB rfl) rfl ?_;refine aF (aE ?_);refine a7 ?_;refine fQ (dT (wZ b3)) ?_;refine eW (fun (i : Nat) => i ≤ xs.length) (fun i => [(3, ptr b3), (7, v), (8, i64 xs.length), (9, i64 i)]) (fun _ => K) (fun i => [bldr b3 (bodyC (xs.take i))]) (fun i => xs.length - i) 0 (Nat.zero_le _) (.cons 3 rfl (.cons 7 rfl (.cons 8 rfl (.cons 9 rfl .nil)))) rfl (fun _ h => h) ?_;intro i hi;refine aG (aC ?_);refine aA (cZ rfl rfl) rfl ?_;refine aF (aE ?_);refine aG ?_;refine bJ 10 rfl (fun h10 => ?_) (fun h10 => ?_)
 ·
  have hlt : i < xs.length := by omega
  obtain ⟨o, hx⟩ : ∃ o, xs[i]? = some o := ⟨xs[i]'hlt, List.getElem?_eq_getElem hlt⟩;have hel := jS (List.mem_of_getElem? hx);have hbt := lK xs i;have hbt2 := lK xs (i + 1);rw [pP hx, List.length_append] at hbt2;have hel2 : (entryC o).length = o.1.length + 1 + (Lib.itoa o.2.length).length + 1 + o.2.length := by simp [entryC]; omega
  refine aX ?_;refine aE (aG ?_);refine a7 (aG ?_);refine aC ?_;refine aA (bD (k := aV) cD rfl (.known hv) rfl rfl (by first | assumption | omega)) rfl ?_;refine aA (cI (n := 0) (k := aV) eG rfl (.known hv) dF) rfl ?_;refine ol_s (dI tz66) rfl ?_;rintro _ K _ ⟨b5, rfl, rfl, rfl⟩ -;refine cQ (cS eG rfl rfl rfl bI (by first | (simp [Value.oneCell']; done) | exact fun c hc => El.one _ _ c hc) (.cons (.cons .nil)) (by intro j hj; simp)) ?_;rintro _ K _ ⟨rfl, rfl⟩ -;refine aF (aE ?_);refine cT (anc := [0, 1, 3, 0, 8, 24, 56, 127, 255, 0, 512, 2047, 4095]) (ord := [0, 1, 2, 3, 4, 5, 9, 10, 6, 7, 8, 11, 12]) [6, 12] [12] mixed (by decide +kernel) (.cons .here .nil) ?_;refine aK rfl rfl (.none rfl) rfl rfl (aH (o' := 0) fA rfl rfl) rfl ?_;refine aK rfl rfl (.none rfl) rfl rfl (aM ts9 rfl aN rfl) rfl ?_;refine aK rfl rfl (.none rfl) rfl rfl (cC rfl rfl (by first | (simp; omega) | omega)) rfl ?_;refine aK rfl rfl (.none rfl) rfl rfl (aH (o' := 1) iK rfl rfl) rfl ?_;refine aK rfl rfl (.none rfl) rfl rfl (aM ts9 rfl aN rfl) rfl ?_;refine aK rfl rfl (.none rfl) rfl rfl (bU rfl Tryz.underlying9 rfl) rfl ?_;refine aK rfl rfl (.none rfl) rfl rfl (aH (o' := 1) iK rfl rfl) rfl ?_;refine aK rfl rfl (.none rfl) rfl rfl (aM ts9 rfl aN rfl) rfl ?_;refine lO rfl (.none rfl) rfl rfl rfl rfl (iE _ aI aI _ hg) rfl ?_;refine aK rfl rfl (.none rfl) rfl rfl (cC rfl rfl (by first | (simp; omega) | omega)) rfl ?_;refine aK rfl rfl (.none rfl) rfl rfl (cC rfl rfl (by first | (simp; omega) | omega)) rfl ?_;refine aK rfl rfl (.none rfl) rfl rfl (cC rfl rfl (by first | (simp; omega) | omega)) rfl ?_;refine eZ rfl (.none rfl) rfl rfl rfl (mW b3 (entryC o) _ aI _) (.cons (.there .here) .nil) rfl ?_;rintro _ K _ ⟨rfl, rfl, rfl⟩ -;refine cO ?_;refine aU (aE ?_);refine aC ?_;refine aA (bY rfl rfl aI aI) rfl ?_;refine aA (aB rfl) rfl ?_;refine aF ?_;refine bF (.cons .here .nil) ?_;refine dW (i + 1) aI aI (.cons 3 rfl (.cons 7 rfl (.cons 8 rfl (.cons 9 rfl .nil)))) rfl (fun _ h => by rw [pP hx]; exact h)
 ·
  have hie : i = xs.length := by omega
  subst hie;rw [List.take_length];have hil := Lib.itoa_length_le ((bodyC xs).length : Int) aI aI;have hxl := lS (lC (bodyC xs));refine cK ?_;refine aP ?_;refine aP ?_;refine bB ?_;refine aE (aG ?_);refine aC ?_;refine bH rfl rfl (qI b3 _ aI _) (.cons .here .nil) rfl ?_;rintro _ K _ ⟨rfl, rfl, rfl⟩ -;refine aA (aD rfl) rfl ?_;refine aF (aE ?_);refine aG (aC ?_);refine aA (aB rfl) rfl ?_;refine aA (bU rfl Tryz.underlying9 rfl) rfl ?_;refine bN rfl rfl (iE _ aI aI _ hg) rfl ?_;refine aA (cC rfl rfl (by simp only [List.length_singleton]; omega)) rfl ?_;refine aA (aB rfl) rfl ?_;refine bN rfl rfl (mQ _ aI _) rfl ?_;refine bN rfl rfl (qY _ (lC _) _ hd) rfl ?_;refine aA (cC rfl rfl (by simp only [List.length_append, List.length_singleton]; omega)) rfl ?_;refine aA (cC rfl rfl (by simp only [List.length_append, List.length_singleton]; omega)) rfl ?_;refine aA (aB rfl) rfl ?_;refine aA (cC rfl rfl (by simp only [List.length_append, List.length_singleton]; omega)) rfl ?_;refine aA (aD rfl) rfl ?_;refine aF (aE ?_);refine a8 ?_;refine bF .nil ?_;refine bA rfl rfl (Hl.le_refl _) ?_;exact ⟨rfl, rfl, rfl⟩
end Go.Proofs
end
section
namespace Go.Proofs
open Go Go.SL Go.Syn Go.Box
abbrev dV (b : Nat) : Value := .iface 103 (ptr b)
theorem aEH (b : Nat) (w : World) : (Go.method (Tryz.prog.types.size + Made.depth) 103 (ptr b) "Write").run Tryz.prog w = .ok (403, ptr b) w := by kernel_rfl
theorem vR (b : Nat) (w : World) : (Go.method (Tryz.prog.types.size + Made.depth) 103 (ptr b) "Remove").run Tryz.prog w = .ok (401, ptr b) w := by kernel_rfl
theorem aDF (b : Nat) (w : World) : (Go.method (Tryz.prog.types.size + Made.depth) 103 (ptr b) "Sync").run Tryz.prog w = .ok (402, ptr b) w := by kernel_rfl
theorem aFK (b : Nat) (w : World) : (Go.method (Tryz.prog.types.size + Made.depth) 103 (ptr b) "Read").run Tryz.prog w = .ok (400, ptr b) w := by kernel_rfl
def Clo (N : Nat) (K : Hl) (b : Nat) (fv : Value) (g : DSt → Er × DSt) : Prop := ∃ f vs, nK Tryz.prog fv f vs ∧ ∀ (K1 K0 : Hl) (s : DSt), K.le K1 → K0.le K1 → s.pend.length ≤ N →
 Sp Tryz.prog f vs K1 [dsk K0 b s] (Ret fun v K' L' => v = erV (g s).1 ∧ L' = [dsk K' b (g s).2]) ∧ (g s).2.pend.length ≤ s.pend.length + 200
theorem Clo.weak {N N' : Nat} {K : Hl} {b : Nat} {fv : Value} {g : DSt → Er × DSt} (h : Clo N K b fv g) (hN : N' ≤ N) : Clo N' K b fv g := let ⟨f, vs, h1, h2⟩ := h; ⟨f, vs, h1, fun K1 K0 s le1 le0 hp => h2 K1 K0 s le1 le0 aI⟩
theorem Clo.mono {N : Nat} {K K' : Hl} {b : Nat} {fv : Value} {g : DSt → Er × DSt} (h : Clo N K b fv g) (le : K.le K') : Clo N K' b fv g := let ⟨f, vs, h1, h2⟩ := h; ⟨f, vs, h1, fun K1 K0 s le1 le0 hp => h2 K1 K0 s (Hl.le_trans le le1) le0 hp⟩
theorem lL (K : Hl) (b : Nat) : Clo 800000 K b (.func (.method "Sync") #[dV b] #[]) bQ :=
 ⟨_, _, r8 (aDF b) ⟨_, Tryz.func402, rfl, rfl⟩, fun K1 K0 s _ le0 hp => ⟨vZ b s aI K1 K0 le0, by have := fE s; omega⟩⟩
theorem yO (b bd bf : Nat) (n d : aJ) (s : DSt) (K K0 : Hl) (le : K0.le K) (T1 T2 : TypeId) (z1 z2 : Nat × Nat) (h1 : K bd = some (aW [dV b] T1 z1)) (h2 : K bf = some (aW [str n, str d] T2 z2)) (hd : d.length ≤ 140737488355328) (hp : s.pend.length ≤ 900000) :
  Sp Tryz.prog 224 [ptr bd, ptr bf] K [dsk K0 b s] (Ret fun v K' L' => v = erV (cH n d s).1 ∧ L' = [dsk K' b (cH n d s).2]) := by
 refine bE Tryz.func224 rfl Tryz.ntmps224 rfl rfl fun F w => ?_
 refine aG (aC ?_);refine aA (aD rfl) rfl ?_;refine aF (aE ?_);refine aG (aC ?_);refine aA (aM iO rfl aN rfl) rfl ?_;refine aA (aH (o' := 0) fA rfl rfl) rfl ?_;refine aA (aM ts9 rfl aN rfl) rfl ?_;refine aA (aH (o' := 1) iK rfl rfl) rfl ?_;refine aA (aM ts9 rfl aN rfl) rfl ?_;refine ol_s (kM Tryz.underlying9 Tryz.underlying130 Tryz.underlying5 rfl) rfl ?_;rintro v8 K _ ⟨rfl, rfl⟩ -;refine gM rfl rfl (aEH b) (aBC b s n d v8 false hp hd _ _ le) (.cons (.there .here) (.cons .here .nil)) rfl ?_;rintro _ K1 _ ⟨rfl, rfl⟩ le1;refine aA (aD rfl) rfl ?_;refine aF (aE ?_);refine a8 ?_;refine bF (.cons .here .nil) ?_;refine bA rfl rfl le1 ?_;exact ⟨_, rfl, rfl, rfl⟩
theorem qB (b : Nat) (n d : aJ) (hd : d.length ≤ 140737488355328) (K : Hl) : Sp Tryz.prog 131 [dV b, .agg #[str n, str d]] K [] (Ret fun v K' L' => L' = [] ∧ ∃ x y, v = .func (.func 224) #[] #[ptr x, ptr y] ∧ Clo 800000 K' b v (cH n d)) := by
 refine bE Tryz.func131 rfl Tryz.ntmps131 rfl rfl fun F w => ?_
 refine aG (aC ?_);refine ol_s (gO rfl rfl) rfl ?_;rintro _ K _ ⟨b2, rfl, rfl, rfl⟩ -;refine ol_s (gO rfl rfl) rfl ?_;rintro _ K _ ⟨b3, rfl, rfl, rfl⟩ -;refine aA (aD rfl) rfl ?_;refine aF (aE ?_);refine aG ?_;refine gQ fun K1 le1 hb3 => ?_
 refine gQ fun K2 le2 hb2 => ?_
 refine aC ?_;refine aA (d6 rfl rfl) rfl ?_;refine aA (aD rfl) rfl ?_;refine aF (aE ?_);refine a8 ?_;refine bF .nil ?_;refine bA rfl rfl (Hl.le_trans le1 le2) ?_;exact ⟨_, rfl, rfl, _, _, rfl, _, _, iT ⟨_, Tryz.func224, rfl, rfl⟩, fun K3 K0 s le3 le0 hp => ⟨yO b b2 b3 n d s K3 K0 le0 _ _ _ _ (le3 _ _ hb2) (le3 _ _ (le2 _ _ hb3)) hd aI, by have := g8 n d s; omega⟩⟩
theorem gZ (g : DSt → Er × DSt) (gs : List (DSt → Er × DSt)) (s : DSt) : bZ (g :: gs) s = if (g s).1.isSome = true then g s else bZ gs (g s).2 := rfl
theorem aAU (N b : Nat) (v : Value) (cs : List Cell) (gs : List (DSt → Er × DSt)) (s : DSt) (K K0 : Hl) (le : K0.le K) (hv : Ksl (hQ 247) K v cs) (hl : gs.length = cs.length) (hc : ∀ (i : Nat) (c : Cell) (g : DSt → Er × DSt), cs[i]? = some c → gs[i]? = some g → Clo N K b c.1 g) (hp : s.pend.length + 200 * cs.length ≤ N) (hcl : cs.length ≤ 100) :
  Sp Tryz.prog 130 [v] K [dsk K0 b s] (Ret fun r K' L' => r = erV (bZ gs s).1 ∧ L' = [dsk K' b (bZ gs s).2]) := by
 refine bE Tryz.func130 rfl Tryz.ntmps130 rfl rfl fun F w => ?_
 refine aG (aC ?_);refine aA (aD rfl) rfl ?_;refine aF (aE ?_);refine aG (aG ?_);refine aC ?_;refine aA (aB rfl) rfl ?_;refine aA (bM (k := hQ 247) rfl Tryz.underlying342 rfl (.known hv)) rfl ?_;refine aA (aB rfl) rfl ?_;refine aF (aE ?_);refine a7 ?_;refine fQ (dT (d9 le)) ?_;refine g0 (fun (i : Nat) (K2 : Hl) (s2 : DSt) => i ≤ cs.length ∧ K.le K2 ∧ s2.pend.length ≤ s.pend.length + 200 * i ∧ bZ gs s = bZ (gs.drop i) s2) (fun i _ _ => [(6, v), (7, i64 cs.length), (8, i64 i)]) (fun _ K2 _ => K2) (fun _ K2 s2 => [dsk K2 b s2]) (fun i _ _ => cs.length - i) 0 K s ⟨Nat.zero_le _, Hl.le_refl _, Nat.le_refl _, rfl⟩ (.cons 6 rfl (.cons 7 rfl (.cons 8 rfl .nil))) rfl (fun _ h => h) ?_;intro i K2 s2 ⟨hi, leL, hp2, hx⟩;refine aG (aC ?_);refine aA (cZ rfl rfl) rfl ?_;refine aF (aE ?_);refine aG ?_;refine bJ 9 rfl (fun h9 => ?_) (fun h9 => ?_)
 ·
  have hlt : i < cs.length := by omega
  obtain ⟨c, hcc⟩ : ∃ c, cs[i]? = some c := ⟨cs[i]'hlt, List.getElem?_eq_getElem hlt⟩;obtain ⟨g, hg⟩ : ∃ g, gs[i]? = some g := ⟨gs[i]'(by omega), List.getElem?_eq_getElem aI⟩;obtain ⟨f, vs, hen, hsp⟩ := hc i c g hcc hg;obtain ⟨hs1, hs2⟩ := hsp K2 K2 s2 leL (Hl.le_refl _) aI;have hv2 := hv.mono leL;refine aX ?_;refine aE (aG ?_);refine a7 (aG ?_);refine aC ?_;refine aA (bD (k := hQ 247) g7 rfl (.known hv2) rfl rfl (by first | assumption | omega)) rfl ?_;refine aA (kG (o := 0) (k := hQ 247) aFW rfl (.known hv2) hcc rfl) rfl ?_;refine aA (aD rfl) rfl ?_;refine aF (aE ?_);refine aG (aC ?_);refine aA (aB rfl) rfl ?_;refine sR rfl hen hs1 (.cons .here .nil) rfl ?_;rintro _ K3 _ ⟨rfl, rfl⟩ le3;refine aA (aD rfl) rfl ?_;refine aF (aE ?_);rcases hr : g s2 with ⟨_ | e, s3⟩
  ·
   refine aG (aC ?_);refine aA (aB rfl) rfl ?_;refine aA (eP Tryz.underlying79 rfl) rfl ?_;refine aF (aE ?_);refine bL rfl ?_;refine aX ?_;refine aU (aE ?_);refine aC ?_;refine aA (bY rfl rfl aI aI) rfl ?_;refine aA (aB rfl) rfl ?_;refine aF ?_;exact fL (i + 1) K3 s3 ⟨by omega, Hl.le_trans leL le3, by have := hs2; rw [hr] at this; simp only at this; omega, by rw [hx, eR hg, gZ, hr]; rfl⟩ aI (.cons 6 rfl (.cons 7 rfl (.cons 8 rfl .nil))) rfl (fun _ h => h)
  ·
   refine aG (aC ?_);refine aA (aB rfl) rfl ?_;refine aA (fR Tryz.underlying79 rfl rfl) rfl ?_;refine aF (aE ?_);refine dH rfl ?_;refine aG (aC ?_);refine aA (aB rfl) rfl ?_;refine aA (aD rfl) rfl ?_;refine aF (aE ?_);refine a8 ?_;refine bC ?_;refine aR ?_;refine aR ?_;refine bC ?_;refine aR ?_;refine bA rfl rfl (Hl.le_trans leL le3) ?_;have hy : bZ gs s = (some e, s3) := (by rw [hx, eR hg, gZ, hr]; rfl);rw [hy];exact ⟨_, rfl, rfl, rfl⟩
 ·
  have hie : i = cs.length := by omega
  subst hie;rw [List.drop_of_length_le aI] at hx;rw [hx];refine cK ?_;refine aP ?_;refine aP ?_;refine bB ?_;refine aE (aG ?_);refine aC ?_;refine aA (aD rfl) rfl ?_;refine aF (aE ?_);refine a8 ?_;refine bA rfl rfl leL ?_;exact ⟨_, rfl, rfl, rfl⟩
theorem yA {P : Program} {f : FuncId} {args : List Value} {K : Hl} {b : Nat} {o : Obj} {L : List Asn} {R : Ending → Hl → List Asn → Prop} (hb : ∃ fn, P.funcs[f]? = some fn ∧ (fn.name == "runtime.NumGoroutine") = false ∧ fn.body.isSome = true)
  (h : ∀ K', K.le K' → K' b = some o → Sp P f args K' L R) : Sp P f args K (pt b o :: L) R :=
 ⟨hb, fun F w i => by
  obtain ⟨h1, h2, h3⟩ := i.settle;exact ((h _ h1 h2).2 F w h3).mono fun e w' ⟨K', L', r, le, j⟩ => ⟨K', L', r, Hl.le_trans h1 le, j⟩⟩
theorem rX (e : TypeId) : ∀ cs : List Cell, (hQ e).cs cs = cs.map (·.1)
 | [] => rfl
 | a :: r => congrArg (a.1 :: ·) (rX e r)
theorem mR (N b bs : Nat) (cs : List Cell) (gs : List (DSt → Er × DSt)) (s : DSt) (K K0 : Hl) (le : K0.le K) (fz : Nat × Nat) (hl : gs.length = cs.length) (hc : ∀ (i : Nat) (c : Cell) (g : DSt → Er × DSt), cs[i]? = some c → gs[i]? = some g → Clo N K b c.1 g) (hp : s.pend.length + 200 * cs.length ≤ N) (hcl : cs.length ≤ 100) :
  Sp Tryz.prog 130 [.slice (some ⟨bs, 0, none⟩) cs.length cs.length] K [pt bs (aW (cs.map (·.1)) 247 fz), dsk K0 b s] (Ret fun r K' L' => r = erV (bZ gs s).1 ∧ L' = [dsk K' b (bZ gs s).2]) := by
 refine yA ⟨_, Tryz.func130, rfl, rfl⟩ fun K' le' hk => ?_
 refine aAU N b _ cs gs s K' K0 (Hl.le_trans le le') (.inr ⟨bs, 0, cs.length, _, fz, rfl, ⟨_, hk⟩, ?_⟩) hl (fun i c g h1 h2 => (hc i c g h1 h2).mono le') hp hcl
 rw [rX];exact List.take_of_length_le (by simp [hQ])
theorem aB2 (b bd : Nat) (s : DSt) (K K0 : Hl) (le : K0.le K) (T1 : TypeId) (z1 : Nat × Nat) (h1 : K bd = some (aW [dV b] T1 z1)) (hp : s.pend.length ≤ 900000) :
  Sp Tryz.prog 227 [ptr bd] K [dsk K0 b s] (Ret fun v K' L' => v = erV (cB aS s).1 ∧ L' = [dsk K' b (cB aS s).2]) := by
 refine bE Tryz.func227 rfl Tryz.ntmps227 rfl rfl fun F w => ?_
 refine aG (aC ?_);refine aA (aD rfl) rfl ?_;refine aF (aE ?_);refine aG (aC ?_);refine aA (aM iO rfl aN rfl) rfl ?_;refine gM rfl rfl (vR b) (p5 b s aS aI _ _ le) (.cons .here .nil) rfl ?_;rintro _ K1 _ ⟨rfl, rfl⟩ le1;refine aA (aD rfl) rfl ?_;refine aF (aE ?_);refine a8 ?_;refine bF (.cons .here .nil) ?_;refine bA rfl rfl le1 ?_;exact ⟨_, rfl, rfl, rfl⟩
theorem aCP (b bd : Nat) (s : DSt) (K K0 : Hl) (le : K0.le K) (T1 : TypeId) (z1 : Nat × Nat) (h1 : K bd = some (aW [dV b] T1 z1)) (hp : s.pend.length ≤ 900000) :
  Sp Tryz.prog 136 [ptr bd] K [dsk K0 b s] (Ret fun v K' L' => v = erV (cB aS s).1 ∧ L' = [dsk K' b (cB aS s).2]) := by
 refine bE Tryz.func136 rfl Tryz.ntmps136 rfl rfl fun F w => ?_
 refine aG (aC ?_);refine aA (aD rfl) rfl ?_;refine aF (aE ?_);refine aG (aC ?_);refine aA (aM iO rfl aN rfl) rfl ?_;refine gM rfl rfl (vR b) (p5 b s aS aI _ _ le) (.cons .here .nil) rfl ?_;rintro _ K1 _ ⟨rfl, rfl⟩ le1;refine aA (aD rfl) rfl ?_;refine aF (aE ?_);refine a8 ?_;refine bF (.cons .here .nil) ?_;refine bA rfl rfl le1 ?_;exact ⟨_, rfl, rfl, rfl⟩
theorem aBR (K : Hl) (b bd : Nat) (T1 : TypeId) (z1 : Nat × Nat) (h1 : K bd = some (aW [dV b] T1 z1)) : Clo 800000 K b (.func (.func 227) #[] #[ptr bd]) (cB aS) :=
 ⟨_, _, iT ⟨_, Tryz.func227, rfl, rfl⟩, fun K1 K0 s le1 le0 hp => ⟨aB2 b bd s K1 K0 le0 _ _ (le1 _ _ h1) aI, by have := f8 aS s; omega⟩⟩
theorem aBS (K : Hl) (b bd : Nat) (T1 : TypeId) (z1 : Nat × Nat) (h1 : K bd = some (aW [dV b] T1 z1)) : Clo 800000 K b (.func (.func 136) #[] #[ptr bd]) (cB aS) :=
 ⟨_, _, iT ⟨_, Tryz.func136, rfl, rfl⟩, fun K1 K0 s le1 le0 hp => ⟨aCP b bd s K1 K0 le0 _ _ (le1 _ _ h1) aI, by have := f8 aS s; omega⟩⟩
theorem aE8 {N : Nat} {K : Hl} {b : Nat} {v1 v2 : Cell} {g1 g2 : DSt → Er × DSt} (h1 : Clo N K b v1.1 g1) (h2 : Clo N K b v2.1 g2) : ∀ (i : Nat) (c : Cell) (g : DSt → Er × DSt), [v1, v2][i]? = some c → [g1, g2][i]? = some g → Clo N K b c.1 g
 | 0, c, g, e1, e2 => by cases e1; cases e2; exact h1
 | 1, c, g, e1, e2 => by cases e1; cases e2; exact h2
 | i + 2, c, g, e1, _ => by simp at e1
theorem aDA {N : Nat} {K : Hl} {b : Nat} {v1 v2 v3 : Cell} {g1 g2 g3 : DSt → Er × DSt} (h1 : Clo N K b v1.1 g1) (h2 : Clo N K b v2.1 g2) (h3 : Clo N K b v3.1 g3) : ∀ (i : Nat) (c : Cell) (g : DSt → Er × DSt), [v1, v2, v3][i]? = some c → [g1, g2, g3][i]? = some g → Clo N K b c.1 g
 | 0, c, g, e1, e2 => by cases e1; cases e2; exact h1
 | 1, c, g, e1, e2 => by cases e1; cases e2; exact h2
 | 2, c, g, e1, e2 => by cases e1; cases e2; exact h3
 | i + 3, c, g, e1, _ => by simp at e1
end Go.Proofs
end
section
namespace Go.Proofs
open Go Go.SL Go.Syn Go.Box
theorem aDR {xs : List File} {i : Nat} {f : File} (h : xs[i]? = some f) (t : List (DSt → Er × DSt)) : (cV xs ++ t).drop i = cH f.1 f.2 :: (cV xs ++ t).drop (i + 1) := by
 refine eR ?_;rw [List.getElem?_append_left (by have := dX h; simpa [cV] using this)];simp [cV, h]
theorem pS (b : Nat) (v : Value) (xs : List File) (s : DSt) (K K0 : Hl) (le : K0.le K) (hv : Ksl aV K v xs) (hn : xs.length ≤ 100) (hd : ∀ f ∈ xs, f.2.length ≤ 140737488355328) (hp : s.pend.length ≤ 700000) :
  Sp Tryz.prog 134 [dV b, v] K [dsk K0 b s] (Ret fun r K' L' => r = erV (dQ xs s).1 ∧ L' = [dsk K' b (dQ xs s).2]) := by
 refine bE Tryz.func134 rfl Tryz.ntmps134 rfl rfl fun F w => ?_
 refine aG (aC ?_);refine ol_s (gO rfl rfl) rfl ?_;rintro _ K _ ⟨b2, rfl, rfl, rfl⟩ -;refine aA (aD rfl) rfl ?_;refine aF (aE ?_);refine aG (aG ?_);refine gQ fun K1 le1 hb2 => ?_
 have hv1 := hv.mono le1;refine aC ?_;refine aA (aB rfl) rfl ?_;refine aA (bM (k := aV) rfl Tryz.underlying62 rfl (.known hv1)) rfl ?_;refine aA (aB rfl) rfl ?_;refine aF (aE ?_);refine a7 ?_;refine fQ (dT (d9 (Hl.le_trans le le1))) ?_;refine g0 (fun (i : Nat) (K2 : Hl) (s2 : DSt) => i ≤ xs.length ∧ K1.le K2 ∧ s2.pend.length ≤ s.pend.length + i ∧ dQ xs s = bZ ((cV xs ++ [bQ, cB aS, bQ]).drop i) s2) (fun i _ _ => [(2, ptr b2), (8, v), (9, i64 xs.length), (10, i64 i)]) (fun _ K2 _ => K2) (fun _ K2 s2 => [dsk K2 b s2]) (fun i _ _ => xs.length - i) 0 K1 s ⟨Nat.zero_le _, Hl.le_refl _, Nat.le_refl _, rfl⟩ (.cons 2 rfl (.cons 8 rfl (.cons 9 rfl (.cons 10 rfl .nil)))) rfl (fun _ h => h) ?_;intro i K2 s2 ⟨hi, leL, hp2, hx⟩;refine aG (aC ?_);refine aA (cZ rfl rfl) rfl ?_;refine aF (aE ?_);refine aG ?_;refine bJ 11 rfl (fun h11 => ?_) (fun h11 => ?_)
 ·
  have hlt : i < xs.length := by omega
  obtain ⟨f, hxx⟩ : ∃ f, xs[i]? = some f := ⟨xs[i]'hlt, List.getElem?_eq_getElem hlt⟩;have hv2 := hv1.mono leL;have hb22 := leL _ _ hb2;have hfl := hd f (List.mem_of_getElem? hxx);refine aX ?_;refine aE (aG ?_);refine a7 (aG ?_);refine aC ?_;refine aA (bD (k := aV) cD rfl (.known hv2) rfl rfl (by first | assumption | omega)) rfl ?_;refine aA (cI (n := 0) (k := aV) eG rfl (.known hv2) dF) rfl ?_;refine ol_s (dI tz66) rfl ?_;rintro _ K _ ⟨b6, rfl, rfl, rfl⟩ -;refine cQ (cS eG rfl rfl rfl bI (by first | (simp [Value.oneCell']; done) | exact fun c hc => El.one _ _ c hc) (.cons (.cons .nil)) (by intro j hj; simp)) ?_;rintro _ K _ ⟨rfl, rfl⟩ -;refine aF (aE ?_);refine aG (aC ?_);refine aA (aM iO rfl aN rfl) rfl ?_;refine aA (bX eG rfl aN rfl rfl) rfl ?_;refine bH rfl rfl (qB b f.1 f.2 hfl _) .nil rfl ?_;rintro _ K _ ⟨rfl, x16, y16, rfl, hclo⟩ le2;obtain ⟨fn, vs, hen, hsp⟩ := hclo;obtain ⟨hs1, hs2⟩ := hsp K _ s2 (Hl.le_refl _) le2 aI;refine sR rfl hen hs1 (.cons (.there .here) .nil) rfl ?_;rintro _ K3 _ ⟨rfl, rfl⟩ le3;refine aA (aD rfl) rfl ?_;refine aF (aE ?_);rcases hr : cH f.1 f.2 s2 with ⟨_ | e, s3⟩
  ·
   refine aG (aC ?_);refine aA (aB rfl) rfl ?_;refine aA (eP Tryz.underlying79 rfl) rfl ?_;refine aF (aE ?_);refine bL rfl ?_;refine aX ?_;refine aU (aE ?_);refine aC ?_;refine aA (bY rfl rfl aI aI) rfl ?_;refine aA (aB rfl) rfl ?_;refine aF ?_;refine bF (.cons .here .nil) ?_;exact fL (i + 1) K3 s3 ⟨by omega, Hl.le_trans leL (Hl.le_trans le2 le3), by have := g8 f.1 f.2 s2; rw [hr] at this; simp only at this; omega, by rw [hx, aDR hxx, gZ, hr]; rfl⟩ aI (.cons 2 rfl (.cons 8 rfl (.cons 9 rfl (.cons 10 rfl .nil)))) rfl (fun _ h => h)
  ·
   refine aG (aC ?_);refine aA (aB rfl) rfl ?_;refine aA (fR Tryz.underlying79 rfl rfl) rfl ?_;refine aF (aE ?_);refine dH rfl ?_;refine aG (aC ?_);refine aA (aB rfl) rfl ?_;refine aA (aD rfl) rfl ?_;refine aF (aE ?_);refine a8 ?_;refine bC ?_;refine aR ?_;refine aR ?_;refine bC ?_;refine aR ?_;refine bF (.cons .here .nil) ?_;refine bA rfl rfl (Hl.le_trans le1 (Hl.le_trans leL (Hl.le_trans le2 le3))) ?_;have hy : dQ xs s = (some e, s3) := (by rw [hx, aDR hxx, gZ, hr]; rfl);rw [hy];exact ⟨_, rfl, rfl, rfl⟩
 ·
  have hie : i = xs.length := by omega
  subst hie;rw [show (cV xs ++ [bQ, cB aS, bQ]).drop xs.length = [bQ, cB aS, bQ] from by rw [List.drop_append, List.drop_of_length_le (by simp [cV])]; simp [cV]] at hx;rw [hx];have hb22 := leL _ _ hb2;refine cK ?_;refine aP ?_;refine aP ?_;refine bB ?_;refine aE (aG ?_);refine cT (anc := [0, 1, 3, 0, 0, 16, 48, 127, 255, 511]) (ord := [0, 1, 2, 3, 4, 5, 6, 7, 8, 9]) [7, 8] [7, 8] mixed (by decide +kernel) .nil ?_;refine aK rfl rfl (.none rfl) rfl rfl (aM iO rfl aN rfl) rfl ?_;refine aK rfl rfl (.none rfl) rfl rfl b0 rfl ?_;refine aK rfl rfl (.none rfl) rfl rfl (d6 rfl rfl) rfl ?_;refine aK rfl rfl (.none rfl) rfl rfl (d6 rfl rfl) rfl ?_;refine aK rfl rfl (.none rfl) rfl rfl (aM iO rfl aN rfl) rfl ?_;refine aK rfl rfl (.none rfl) rfl rfl b0 rfl ?_;refine aK rfl rfl (.none rfl) rfl rfl (d6 rfl rfl) rfl ?_;refine dl_g rfl rfl (.none rfl) rfl (cL (z0 := [.nilFunc, .nilFunc, .nilFunc]) g7 aA7 rfl rfl rfl rfl (.cons rfl rfl rfl (.cons .nil) (.cons rfl rfl rfl (.skip (.cons .nil)) (.cons rfl rfl rfl (.skip (.skip (.cons .nil))) .nil)))) rfl ?_;rintro _ K _ ⟨b29, rfl, rfl, rfl⟩ -;refine eZ rfl (.none rfl) rfl rfl rfl (mR 800000 b b29 [⟨.func (.method "Sync") #[dV b] #[], rfl⟩, ⟨.func (.func 227) #[] #[ptr b2], rfl⟩, ⟨.func (.method "Sync") #[dV b] #[], rfl⟩] [bQ, cB aS, bQ] s2 _ _ (Hl.le_refl _) _ rfl (aDA (lL _ _) (aBR _ _ _ _ _ hb22) (lL _ _)) (by simp; omega) (by simp)) (.cons .here (.cons .here .nil)) rfl ?_;rintro _ K3 _ ⟨rfl, rfl⟩ le3;refine aK rfl rfl (.none rfl) rfl rfl (aD rfl) rfl ?_;refine cO ?_;refine aE ?_;refine a8 ?_;refine bF (.cons .here .nil) ?_;refine bA rfl rfl (Hl.le_trans le1 (Hl.le_trans leL le3)) ?_;exact ⟨_, rfl, rfl, rfl⟩
theorem r6 (b bd bf : Nat) (v : Value) (xs : List File) (s : DSt) (K K0 : Hl) (le : K0.le K) (T1 T2 : TypeId) (z1 z2 : Nat × Nat) (h1 : K bd = some (aW [dV b] T1 z1)) (h2 : K bf = some (aW [v] T2 z2)) (hv : Ksl aV K v xs) (hn : xs.length ≤ 100) (hd : ∀ f ∈ xs, f.2.length ≤ 140737488355328) (hp : s.pend.length ≤ 700000) :
  Sp Tryz.prog 133 [ptr bd, ptr bf] K [dsk K0 b s] (Ret fun r K' L' => r = erV (dQ xs s).1 ∧ L' = [dsk K' b (dQ xs s).2]) := by
 refine bE Tryz.func133 rfl Tryz.ntmps133 rfl rfl fun F w => ?_
 refine aG (aC ?_);refine aA (aD rfl) rfl ?_;refine aF (aE ?_);refine aG (aC ?_);refine aA (aM iO rfl aN rfl) rfl ?_;refine aA (aM ts62 rfl aN rfl) rfl ?_;refine bH rfl rfl (pS b v xs s _ _ le hv hn hd hp) (.cons .here .nil) rfl ?_;rintro _ K1 _ ⟨rfl, rfl⟩ le1;refine aA (aD rfl) rfl ?_;refine aF (aE ?_);refine a8 ?_;refine bA rfl rfl le1 ?_;exact ⟨_, rfl, rfl, rfl⟩
theorem tR (b : Nat) (v : Value) (xs : List File) (s : DSt) (K K0 : Hl) (le : K0.le K) (hv : Ksl aV K v xs) (hg : Glob K) (hdb : Deb K) (hb : (bodyC xs).length ≤ 1000000000) (hn : xs.length ≤ 100) (hp : s.pend.length ≤ 600000) :
  Sp Tryz.prog 79 [dV b, v] K [dsk K0 b s] (Ret fun r K' L' => r = erV (dN xs s).1 ∧ L' = [dsk K' b (dN xs s).2]) := by
 have hd : ∀ f ∈ xs, f.2.length ≤ 140737488355328 := fun f hf => by have := jS hf; simp [entryC] at this; omega
 obtain ⟨va, vn, vc, rfl⟩ := hv.isSlice;refine bE Tryz.func79 rfl Tryz.ntmps79 rfl rfl fun F w => ?_
 refine aG (aC ?_);refine ol_s (gO rfl rfl) rfl ?_;rintro _ K _ ⟨b2, rfl, rfl, rfl⟩ -;refine ol_s (gO rfl rfl) rfl ?_;rintro _ K _ ⟨b3, rfl, rfl, rfl⟩ -;refine aA (aD rfl) rfl ?_;refine aF (aE ?_);refine aG ?_;refine gQ fun K1 le1 hb3 => ?_
 refine gQ fun K2 le2 hb2 => ?_
 have hv2 := (hv.mono le1).mono le2;have hb32 := le2 _ _ hb3;refine cT (anc := [0, 0, 2, 6, 15, 0, 32, 96, 0, 511, 1023, 2047]) (ord := [0, 1, 5, 6, 7, 8, 2, 3, 4, 9, 10, 11]) [2, 4, 9, 10] [9, 10] mixed (by decide +kernel) .nil ?_;refine aK rfl rfl (.none rfl) rfl rfl (aM iO rfl aN rfl) rfl ?_;refine aK rfl rfl (.none rfl) rfl rfl (aM ts62 rfl aN rfl) rfl ?_;refine aK rfl rfl (.none rfl) rfl rfl (aM iO rfl aN rfl) rfl ?_;refine aK rfl rfl (.none rfl) rfl rfl b0 rfl ?_;refine aK rfl rfl (.none rfl) rfl rfl (d6 rfl rfl) rfl ?_;refine aK rfl rfl (.none rfl) rfl rfl (d6 rfl rfl) rfl ?_;refine lO rfl (.none rfl) rfl rfl rfl rfl (xQ _ xs _ hv2 ((hg.mono le1).mono le2) ((hdb.mono le1).mono le2) hb hn) rfl ?_;refine aK rfl rfl (.none rfl) rfl rfl (eN tb66 o3 (.cons rfl rfl rfl (.cons .nil) (.cons rfl rfl rfl (.skip (.cons .nil)) .nil))) rfl ?_;refine qP rfl (.none rfl) rfl rfl rfl rfl (qB b aS (c8 xs) (rA hb) _) .nil rfl ?_;rintro _ K9 _ ⟨rfl, x9, y9, rfl, hclo⟩ le9;refine ⟨_, (show Tks _ _ _ from .nil).sat, ?_⟩
 refine dl_g rfl rfl (.none rfl) rfl (cL (z0 := [.nilFunc, .nilFunc, .nilFunc]) g7 aA7 rfl rfl rfl rfl (.cons rfl rfl rfl (.cons .nil) (.cons rfl rfl rfl (.skip (.cons .nil)) (.cons rfl rfl rfl (.skip (.skip (.cons .nil))) .nil)))) rfl ?_;rintro _ K _ ⟨b14, rfl, rfl, rfl⟩ -;refine eZ rfl (.none rfl) rfl rfl rfl (mR 700000 b b14 [⟨.func (.func 224) #[] #[ptr x9, ptr y9], rfl⟩, ⟨.func (.method "Sync") #[dV b] #[], rfl⟩, ⟨.func (.func 133) #[] #[ptr b2, ptr b3], rfl⟩] [cH aS (c8 xs), bQ, dQ xs] s _ _ (Hl.le_trans le (Hl.le_trans le1 (Hl.le_trans le2 le9))) _ rfl (aDA (hclo.weak aI) ((lL _ _).weak aI) ⟨_, _, iT ⟨_, Tryz.func133, rfl, rfl⟩, fun K3 K4 s3 le3 le4 hp3 => ⟨r6 b b2 b3 _ xs s3 K3 K4 le4 _ _ _ _ (le3 _ _ (le9 _ _ hb2)) (le3 _ _ (le9 _ _ hb32)) (hv2.mono (Hl.le_trans le9 le3)) hn hd aI, by have := iY xs s3; omega⟩⟩) (by simp; omega) (by simp)) (.cons .here (.cons .here .nil)) rfl ?_;rintro _ K3 _ ⟨rfl, rfl⟩ le3;refine aK rfl rfl (.none rfl) rfl rfl (aD rfl) rfl ?_;refine cO ?_;refine aE ?_;refine a8 ?_;refine bA rfl rfl (Hl.le_trans le1 (Hl.le_trans le2 (Hl.le_trans le9 le3))) ?_;exact ⟨_, rfl, rfl, rfl⟩
end Go.Proofs
end
section
namespace Go.Proofs
open Go Go.SL Go.Syn Go.Box Go.Mach
def jN (r : Except Int (List File)) : Ending → Hl → List Asn → Prop := Ret fun v K' L' => match r with
 | .ok xs => ∃ u, v = .tuple #[u, .nilIface] ∧ L' = [sl false aV u xs]
 | .error e => v = .tuple #[.slice none 0 0, errV e] ∧ L' = []
theorem xZ (id text : aJ) (v : Value) (acts : List Action) (K : Hl) (hg : Glob K) (hv : Ksl dG K v acts) (hid : id.length ≤ 140737488355328) (ht : text.length ≤ 1048576) (ha : ∀ a ∈ acts, a.2.length ≤ 1048576) (hal : acts.length ≤ 140737488355328) :
  Sp Tryz.prog 78 [str id, v, str text] K [] (jN (cW id acts text)) := by
 refine bE Tryz.func78 rfl Tryz.ntmps78 rfl rfl fun F w => ?_
 refine aG (aC ?_);refine aA (aD rfl) rfl ?_;refine aA (aD rfl) rfl ?_;refine aF (aE ?_);refine aG (aG ?_);refine aC ?_;refine aA (aB rfl) rfl ?_;refine aA (tV rfl rfl) rfl ?_;refine aA (aB rfl) rfl ?_;refine bS 14 rfl (fun g14 => ?_) (fun g14 => ?_)
 ·
  refine aO rfl rfl rfl ?_;refine aO rfl rfl rfl ?_;refine aO rfl rfl rfl ?_;refine aA (bG rfl rfl) rfl ?_;refine aA (aB rfl) rfl ?_;refine aO rfl rfl rfl ?_;refine aO rfl rfl rfl ?_;refine aA (bG rfl rfl) rfl ?_;refine aA (aB rfl) rfl ?_;refine aO rfl rfl rfl ?_;refine aO rfl rfl rfl ?_;refine aO rfl rfl rfl ?_;refine aA (bG rfl rfl) rfl ?_;refine aF (aE ?_);refine dH rfl ?_;refine aG (aC ?_);refine aA (cF Tryz.underlying30 (fun _ h => by cases h) rfl) rfl ?_;refine aA (aD rfl) rfl ?_;refine aA (aD rfl) rfl ?_;refine aF (aE ?_);refine a8 ?_;refine aR ?_;refine cR rfl rfl rfl (Hl.le_refl _) ?_;have hb : eU id = true := (by simp [eU, g14]);unfold jN cW;rw [if_pos hb];exact ⟨_, rfl, rfl, rfl⟩
 ·
  refine aT rfl rfl ?_;refine aA (aB rfl) rfl ?_;refine aT rfl rfl ?_;refine aA (bU rfl Tryz.underlying9 rfl) rfl ?_;refine aT rfl rfl ?_;refine aA (iV rfl rfl) rfl ?_;refine aA (aZ rfl rfl) rfl ?_;refine aA (aB rfl) rfl ?_;refine bS 19 rfl (fun g19 => ?_) (fun g19 => ?_)
  ·
   refine aO rfl rfl rfl ?_;refine aO rfl rfl rfl ?_;refine aA (bG rfl rfl) rfl ?_;refine aA (aB rfl) rfl ?_;refine aO rfl rfl rfl ?_;refine aO rfl rfl rfl ?_;refine aO rfl rfl rfl ?_;refine aA (bG rfl rfl) rfl ?_;refine aF (aE ?_);refine dH rfl ?_;refine aG (aC ?_);refine aA (cF Tryz.underlying30 (fun _ h => by cases h) rfl) rfl ?_;refine aA (aD rfl) rfl ?_;refine aA (aD rfl) rfl ?_;refine aF (aE ?_);refine a8 ?_;refine aR ?_;refine cR rfl rfl rfl (Hl.le_refl _) ?_;have hb : eU id = true := (by unfold eU; rw [decide_eq_true (show 8 < id.length by omega)]; simp);unfold jN cW;rw [if_pos hb];exact ⟨_, rfl, rfl, rfl⟩
  ·
   refine aT rfl rfl ?_;refine aA (aB rfl) rfl ?_;refine aT rfl rfl ?_;refine bN rfl rfl (qK [46, 45] (by decide) (by decide) id aI _) rfl ?_;refine aA (aZ rfl rfl) rfl ?_;refine aA (aB rfl) rfl ?_;refine iH 23 rfl (fun g23 => ?_) (fun g23 => ?_)
   ·
    refine aO rfl rfl rfl ?_;refine aO rfl rfl rfl ?_;refine aO rfl rfl rfl ?_;refine aA (bG rfl rfl) rfl ?_;refine aF (aE ?_);refine dH rfl ?_;refine aG (aC ?_);refine aA (cF Tryz.underlying30 (fun _ h => by cases h) rfl) rfl ?_;refine aA (aD rfl) rfl ?_;refine aA (aD rfl) rfl ?_;refine aF (aE ?_);refine a8 ?_;refine aR ?_;refine cR rfl rfl rfl (Hl.le_refl _) ?_;have hb : eU id = true := (by unfold eU; rw [g23]; simp);unfold jN cW;rw [if_pos hb];exact ⟨_, rfl, rfl, rfl⟩
   ·
    refine aT rfl rfl ?_;refine aA (aB rfl) rfl ?_;refine aT rfl rfl ?_;refine bN rfl rfl (nY id _ aI) rfl ?_;refine aT rfl rfl ?_;refine aA (by first | exact fB rfl | exact dL rfl) rfl ?_;refine aA (aZ rfl rfl) rfl ?_;refine aF (aE ?_);refine gP 27 rfl (fun h27 => ?_) (fun h27 => ?_)
    ·
     refine aG (aC ?_);refine aA (cF Tryz.underlying30 (fun _ h => by cases h) rfl) rfl ?_;refine aA (aD rfl) rfl ?_;refine aA (aD rfl) rfl ?_;refine aF (aE ?_);refine a8 ?_;refine aR ?_;refine cR rfl rfl rfl (Hl.le_refl _) ?_;have hb : eU id = true := (by unfold eU; rw [h27]; simp);unfold jN cW;rw [if_pos hb];exact ⟨_, rfl, rfl, rfl⟩
    ·
     have hbad : eU id = false := by simp only [eU, g14, g23, decide_false, Bool.false_or]; rw [decide_eq_false aI]; simpa using h27
     refine aX ?_;refine aE (aG ?_);refine aG (aC ?_);refine aA (aB rfl) rfl ?_;refine aA (bM (k := dG) rfl Tryz.underlying29 rfl (.known hv)) rfl ?_;refine aA (iV rfl rfl) rfl ?_;refine aF (aE ?_);refine bJ 31 rfl (fun h31 => ?_) (fun h31 => ?_)
     ·
      refine aG (aC ?_);refine aA (cF Tryz.underlying30 (fun _ h => by cases h) rfl) rfl ?_;refine aA (aD rfl) rfl ?_;refine aA (aD rfl) rfl ?_;refine aF (aE ?_);refine a8 ?_;refine aR ?_;refine cR rfl rfl rfl (Hl.le_refl _) ?_;unfold jN cW;rw [if_neg (by rw [hbad]; simp), if_pos aI];exact ⟨_, rfl, rfl, rfl⟩
     ·
      refine aX ?_;refine aE (aG ?_);refine aC ?_;refine aA (aD rfl) rfl ?_;refine aF (aE ?_);refine aG (aG ?_);refine aC ?_;refine aA (aB rfl) rfl ?_;refine aA (bM (k := dG) rfl Tryz.underlying29 rfl (.known hv)) rfl ?_;refine aA (aB rfl) rfl ?_;refine aF (aE ?_);refine a7 ?_;have hfc : cW id acts text = hC [] (eI id text 0 (acts.drop 0)) := (by unfold cW; rw [if_neg (by rw [hbad]; simp), if_neg aI, List.drop_zero]; cases eI id text 0 acts <;> rfl);refine fQ (dZ aV) ?_;refine g0 (fun (i : Nat) (u : Value) (acc : List File) => i ≤ acts.length ∧ acc.length = i ∧ cW id acts text = hC acc (eI id text i (acts.drop i))) (fun i u _ => [(0, str id), (2, str text), (8, u), (33, v), (34, i64 acts.length), (35, i64 i)]) (fun _ _ _ => K) (fun _ u acc => [sl false aV u acc]) (fun i _ _ => acts.length - i) 0 (.slice none 0 0) [] ⟨Nat.zero_le _, rfl, hfc⟩ (.cons 0 rfl (.cons 2 rfl (.cons 8 rfl (.cons 33 rfl (.cons 34 rfl (.cons 35 rfl .nil)))))) rfl (fun _ h => h) ?_;intro i u acc ⟨hi, hal2, hx⟩;refine aG (aC ?_);refine aA (cZ rfl rfl) rfl ?_;refine aF (aE ?_);refine aG ?_;refine bJ 36 rfl (fun h36 => ?_) (fun h36 => ?_)
      ·
       have hlt : i < acts.length := by omega
       obtain ⟨a, haa⟩ : ∃ a, acts[i]? = some a := ⟨acts[i]'hlt, List.getElem?_eq_getElem hlt⟩;have hae := ha a (List.mem_of_getElem? haa);have hil := Lib.itoa_length_le (i : Int) aI aI;refine aX ?_;refine aE (aG ?_);refine a7 (aG ?_);refine aC ?_;refine aA (aB rfl) rfl ?_;refine aA (bD (k := dG) kS rfl (.known hv) rfl rfl (by first | assumption | omega)) rfl ?_;refine aA (cI (n := 0) (k := dG) rG rfl (.known hv) haa) rfl ?_;refine ol_s (dI tz34) rfl ?_;rintro _ K _ ⟨b10, rfl, rfl, rfl⟩ -;refine aA (aD rfl) rfl ?_;refine cQ (cS rG rfl rfl rfl bI (by first | (simp [Value.oneCell']; done) | exact fun c hc => El.one _ _ c hc) (.cons (.cons .nil)) (by intro j hj; simp)) ?_;rintro _ K _ ⟨rfl, rfl⟩ -;refine aF (aE ?_);refine aG (aC ?_);refine aA (aB rfl) rfl ?_;refine aA (cC rfl rfl (by first | (simp; omega) | omega)) rfl ?_;refine aA (cC rfl rfl (by first | (simp; omega) | omega)) rfl ?_;refine aA (aB rfl) rfl ?_;refine bN rfl rfl (iE _ aI aI _ hg) rfl ?_;refine aA (cC rfl rfl (by first | (simp; omega) | omega)) rfl ?_;refine aA (aB rfl) rfl ?_;refine aA (eN tb66 o3 (.cons rfl rfl rfl (.cons .nil) (.cons rfl rfl rfl (.skip (.cons .nil)) .nil))) rfl ?_;refine ol_s (dI tz66) rfl ?_;rintro _ K _ ⟨b11, rfl, rfl, rfl⟩ -;refine cQ (cS eG rfl rfl rfl bI (by first | (simp [Value.oneCell']; done) | exact fun c hc => El.one _ _ c hc) (.cons (.cons .nil)) (by intro j hj; simp)) ?_;rintro _ K _ ⟨rfl, rfl⟩ -;refine aF (aE ?_);refine mU (fun (f : File) => bO id text i a = .ok f) (fun _ => [(0, str id), (2, str text), (8, u), (11, ptr b11), (33, v), (34, i64 acts.length), (35, i64 i)]) (fun _ => K) (fun f => [pt b11 (aW [str f.1, str f.2] 66), sl false aV u acc]) ?_ ?_
       ·
        refine aG (aC ?_);refine aA (aH (o' := 0) tE rfl rfl) rfl ?_;refine aA (aM ts3 rfl aN rfl) rfl ?_;refine aF (aE ?_);refine a7 (aG ?_);refine aC ?_;refine aA (bW rfl rfl) rfl ?_;refine aA (aD rfl) rfl ?_;refine aF (aE ?_);refine bJ 51 rfl (fun h51 => ?_) (fun h51 => ?_)
        ·
         refine aC ?_;refine aA (aB rfl) rfl ?_;refine aA (cC rfl rfl (by first | (simp; omega) | omega)) rfl ?_;refine aA (aH (o' := 0) fA rfl rfl) rfl ?_;refine cQ (bT ts9 rfl rfl dM bI .zero rfl) ?_;rintro _ K _ ⟨rfl, rfl⟩ -;refine aF (aU ?_);refine bF (.cons .here (.cons (.there .here) .nil)) ?_
         first | exact cG (jI ++ id, text) (by simp only [bO]; rw [if_pos h51]) (.cons 0 rfl (.cons 2 rfl (.cons 8 rfl (.cons 11 rfl (.cons 33 rfl (.cons 34 rfl (.cons 35 rfl .nil))))))) rfl (fun _ h => h) | exact cG (boxP ++ a.2 ++ jK ++ id, text) (by simp only [bO]; rw [if_neg h51, if_pos h56, if_pos (by simpa using h61)]) (.cons 0 rfl (.cons 2 rfl (.cons 8 rfl (.cons 11 rfl (.cons 33 rfl (.cons 34 rfl (.cons 35 rfl .nil))))))) rfl (fun _ h => h) | exact cG (outN id i, toP ++ a.2 ++ [10] ++ text) (by simp only [bO]; rw [if_neg h51, if_neg h56, if_pos h70]) (.cons 0 rfl (.cons 2 rfl (.cons 8 rfl (.cons 11 rfl (.cons 33 rfl (.cons 34 rfl (.cons 35 rfl .nil))))))) rfl (fun _ h => h) | exact cG (outN id i, rejP ++ a.2 ++ [10] ++ text) (by simp only [bO]; rw [if_neg h51, if_neg h56, if_neg h70, if_pos h79]) (.cons 0 rfl (.cons 2 rfl (.cons 8 rfl (.cons 11 rfl (.cons 33 rfl (.cons 34 rfl (.cons 35 rfl .nil))))))) rfl (fun _ h => h)
        ·
         refine aG (aC ?_);refine aA (bW rfl rfl) rfl ?_;refine aA (aD rfl) rfl ?_;refine aF (aE ?_);refine bJ 56 rfl (fun h56 => ?_) (fun h56 => ?_)
         ·
          refine aG (aG ?_);refine aC ?_;refine aA (aH (o' := 1) e9 rfl rfl) rfl ?_;refine aA (aM ts9 rfl aN rfl) rfl ?_;refine bN rfl rfl (nY a.2 _ aI) rfl ?_;refine aA (by first | exact fB rfl | exact dL rfl) rfl ?_;refine aF (aE ?_);refine gP 61 rfl (fun h61 => ?_) (fun h61 => ?_)
          ·
           refine aG (aC ?_);refine aA (cF Tryz.underlying30 (fun _ h => by cases h) rfl) rfl ?_;refine aA (aD rfl) rfl ?_;refine aA (aD rfl) rfl ?_;refine aF (aE ?_);refine a8 ?_;refine aR ?_;refine bC ?_;refine aR ?_;refine bF .nil ?_;refine cR rfl rfl rfl (Hl.le_refl _) ?_;rw [hx, kH haa (e := 8) (by simp only [bO]; rw [if_neg h51, if_pos h56, if_neg (by simpa using h61)])];exact ⟨_, rfl, rfl, rfl⟩
          ·
           refine aX ?_;refine aE (aC ?_);refine aA (aH (o' := 1) e9 rfl rfl) rfl ?_;refine aA (aM ts9 rfl aN rfl) rfl ?_;refine aA (cC rfl rfl (by first | (simp; omega) | omega)) rfl ?_;refine aA (cC rfl rfl (by first | (simp; omega) | omega)) rfl ?_;refine aA (aB rfl) rfl ?_;refine aA (cC rfl rfl (by first | (simp; omega) | omega)) rfl ?_;refine aA (aH (o' := 0) fA rfl rfl) rfl ?_;refine cQ (bT ts9 rfl rfl dM bI .zero rfl) ?_;rintro _ K _ ⟨rfl, rfl⟩ -;refine aF (aU ?_);refine bF (.cons .here (.cons (.there .here) .nil)) ?_
           first | exact cG (jI ++ id, text) (by simp only [bO]; rw [if_pos h51]) (.cons 0 rfl (.cons 2 rfl (.cons 8 rfl (.cons 11 rfl (.cons 33 rfl (.cons 34 rfl (.cons 35 rfl .nil))))))) rfl (fun _ h => h) | exact cG (boxP ++ a.2 ++ jK ++ id, text) (by simp only [bO]; rw [if_neg h51, if_pos h56, if_pos (by simpa using h61)]) (.cons 0 rfl (.cons 2 rfl (.cons 8 rfl (.cons 11 rfl (.cons 33 rfl (.cons 34 rfl (.cons 35 rfl .nil))))))) rfl (fun _ h => h) | exact cG (outN id i, toP ++ a.2 ++ [10] ++ text) (by simp only [bO]; rw [if_neg h51, if_neg h56, if_pos h70]) (.cons 0 rfl (.cons 2 rfl (.cons 8 rfl (.cons 11 rfl (.cons 33 rfl (.cons 34 rfl (.cons 35 rfl .nil))))))) rfl (fun _ h => h) | exact cG (outN id i, rejP ++ a.2 ++ [10] ++ text) (by simp only [bO]; rw [if_neg h51, if_neg h56, if_neg h70, if_pos h79]) (.cons 0 rfl (.cons 2 rfl (.cons 8 rfl (.cons 11 rfl (.cons 33 rfl (.cons 34 rfl (.cons 35 rfl .nil))))))) rfl (fun _ h => h)
         ·
          refine aG (aC ?_);refine aA (bW rfl rfl) rfl ?_;refine aA (aD rfl) rfl ?_;refine aF (aE ?_);refine bJ 70 rfl (fun h70 => ?_) (fun h70 => ?_)
          ·
           refine aC ?_;refine aA (aH (o' := 1) e9 rfl rfl) rfl ?_;refine aA (aM ts9 rfl aN rfl) rfl ?_;refine aA (cC rfl rfl (by first | (simp; omega) | omega)) rfl ?_;refine aA (cC rfl rfl (by first | (simp; omega) | omega)) rfl ?_;refine aA (aB rfl) rfl ?_;refine aA (cC rfl rfl (by first | (simp; omega) | omega)) rfl ?_;refine aA (aH (o' := 1) iK rfl rfl) rfl ?_;refine cQ (bT ts9 rfl rfl dM bI (.succ .zero) rfl) ?_;rintro _ K _ ⟨rfl, rfl⟩ -;refine aF (aU ?_);refine bF (.cons .here (.cons (.there .here) .nil)) ?_
           first | exact cG (jI ++ id, text) (by simp only [bO]; rw [if_pos h51]) (.cons 0 rfl (.cons 2 rfl (.cons 8 rfl (.cons 11 rfl (.cons 33 rfl (.cons 34 rfl (.cons 35 rfl .nil))))))) rfl (fun _ h => h) | exact cG (boxP ++ a.2 ++ jK ++ id, text) (by simp only [bO]; rw [if_neg h51, if_pos h56, if_pos (by simpa using h61)]) (.cons 0 rfl (.cons 2 rfl (.cons 8 rfl (.cons 11 rfl (.cons 33 rfl (.cons 34 rfl (.cons 35 rfl .nil))))))) rfl (fun _ h => h) | exact cG (outN id i, toP ++ a.2 ++ [10] ++ text) (by simp only [bO]; rw [if_neg h51, if_neg h56, if_pos h70]) (.cons 0 rfl (.cons 2 rfl (.cons 8 rfl (.cons 11 rfl (.cons 33 rfl (.cons 34 rfl (.cons 35 rfl .nil))))))) rfl (fun _ h => h) | exact cG (outN id i, rejP ++ a.2 ++ [10] ++ text) (by simp only [bO]; rw [if_neg h51, if_neg h56, if_neg h70, if_pos h79]) (.cons 0 rfl (.cons 2 rfl (.cons 8 rfl (.cons 11 rfl (.cons 33 rfl (.cons 34 rfl (.cons 35 rfl .nil))))))) rfl (fun _ h => h)
          ·
           refine aG (aC ?_);refine aA (bW rfl rfl) rfl ?_;refine aA (aD rfl) rfl ?_;refine aF (aE ?_);refine bJ 79 rfl (fun h79 => ?_) (fun h79 => ?_)
           ·
            refine aC ?_;refine aA (aH (o' := 1) e9 rfl rfl) rfl ?_;refine aA (aM ts9 rfl aN rfl) rfl ?_;refine aA (cC rfl rfl (by first | (simp; omega) | omega)) rfl ?_;refine aA (cC rfl rfl (by first | (simp; omega) | omega)) rfl ?_;refine aA (aB rfl) rfl ?_;refine aA (cC rfl rfl (by first | (simp; omega) | omega)) rfl ?_;refine aA (aH (o' := 1) iK rfl rfl) rfl ?_;refine cQ (bT ts9 rfl rfl dM bI (.succ .zero) rfl) ?_;rintro _ K _ ⟨rfl, rfl⟩ -;refine aF (aU ?_);refine bF (.cons .here (.cons (.there .here) .nil)) ?_
            first | exact cG (jI ++ id, text) (by simp only [bO]; rw [if_pos h51]) (.cons 0 rfl (.cons 2 rfl (.cons 8 rfl (.cons 11 rfl (.cons 33 rfl (.cons 34 rfl (.cons 35 rfl .nil))))))) rfl (fun _ h => h) | exact cG (boxP ++ a.2 ++ jK ++ id, text) (by simp only [bO]; rw [if_neg h51, if_pos h56, if_pos (by simpa using h61)]) (.cons 0 rfl (.cons 2 rfl (.cons 8 rfl (.cons 11 rfl (.cons 33 rfl (.cons 34 rfl (.cons 35 rfl .nil))))))) rfl (fun _ h => h) | exact cG (outN id i, toP ++ a.2 ++ [10] ++ text) (by simp only [bO]; rw [if_neg h51, if_neg h56, if_pos h70]) (.cons 0 rfl (.cons 2 rfl (.cons 8 rfl (.cons 11 rfl (.cons 33 rfl (.cons 34 rfl (.cons 35 rfl .nil))))))) rfl (fun _ h => h) | exact cG (outN id i, rejP ++ a.2 ++ [10] ++ text) (by simp only [bO]; rw [if_neg h51, if_neg h56, if_neg h70, if_pos h79]) (.cons 0 rfl (.cons 2 rfl (.cons 8 rfl (.cons 11 rfl (.cons 33 rfl (.cons 34 rfl (.cons 35 rfl .nil))))))) rfl (fun _ h => h)
           ·
            refine aG (aC ?_);refine aA (cF Tryz.underlying30 (fun _ h => by cases h) rfl) rfl ?_;refine aA (aD rfl) rfl ?_;refine aA (aD rfl) rfl ?_;refine aF (aE ?_);refine a8 ?_;refine bC ?_;refine aR ?_;refine bF .nil ?_;refine cR rfl rfl rfl (Hl.le_refl _) ?_;rw [hx, kH haa (e := 7) (by simp only [bO]; rw [if_neg h51, if_neg h56, if_neg h70, if_neg h79])];exact ⟨_, rfl, rfl, rfl⟩
       ·
        intro f hff;refine aC ?_;refine aA (aB rfl) rfl ?_;refine aA (bX eG rfl aN rfl rfl) rfl ?_;refine ol_s (cL (z0 := [(str []), (str [])]) cD tz66 rfl rfl rfl rfl (.cons rfl rfl rfl (.cons (.cons .nil)) .nil)) rfl ?_;rintro _ K _ ⟨b90, rfl, rfl, rfl⟩ -;refine ol_s (dO (k := aV) (ys := [f]) c6 rfl rfl bI (fun w j => dE Tryz.underlying62 (SeesSl.at (k := aV) (.blk (.own .here) rfl rfl) j)) (by show (acc.length + 1) * 32 ≤ 140737488355328; omega) (by show acc.length + 1 ≤ 9223372036854775807; omega)) rfl ?_;rintro v91 K _ ⟨rfl, rfl, ho91⟩ -;refine aA (aD rfl) rfl ?_;refine aF (aU ?_);refine aE (aC ?_);refine aA (bY rfl rfl aI aI) rfl ?_;refine aA (aB rfl) rfl ?_;refine aF ?_;refine bF (.cons .here .nil) ?_;exact fL (i + 1) _ (acc ++ [f]) ⟨by omega, by simp [hal2], by rw [hx]; exact sC haa hff⟩ aI (.cons 0 rfl (.cons 2 rfl (.cons 8 rfl (.cons 33 rfl (.cons 34 rfl (.cons 35 rfl .nil)))))) rfl (fun _ h => h)
      ·
       have hie : i = acts.length := by omega
       subst hie;rw [List.drop_length, eI] at hx;simp only [hC, List.append_nil] at hx;refine cK ?_;refine aP ?_;refine aP ?_;refine bB ?_;refine aE (aG ?_);refine aC ?_;refine aA (aB rfl) rfl ?_;refine aA (aD rfl) rfl ?_;refine aA (aD rfl) rfl ?_;refine aF (aE ?_);refine a8 ?_;refine bF (.cons .here .nil) ?_;refine cR rfl rfl rfl (Hl.le_refl _) ?_;rw [hx];exact ⟨_, rfl, _, rfl, rfl⟩
end Go.Proofs
end
section
namespace Go.Proofs
open Go Go.SL Go.Syn Go.Box Go.Mach
def letB (c : UInt8) : Bool := (decide (97 ≤ c.toNat) && decide (c.toNat ≤ 122)) || (decide (65 ≤ c.toNat) && decide (c.toNat ≤ 90)) || decide (c.toNat = 95)
def digB (c : UInt8) : Bool := decide (48 ≤ c.toNat) && decide (c.toNat ≤ 57)
theorem fO (c : UInt8) : (letB c || digB c) = bP c := by
 have h : ∀ n : Fin 256, (letB (UInt8.ofNat n.1) || digB (UInt8.ofNat n.1)) = bP (UInt8.ofNat n.1) := by decide +kernel
 simpa using h ⟨c.toNat, c.toNat_lt⟩
theorem lY (c : UInt8) (K : Hl) : Sp Tryz.prog 85 [.int .u8 c.toNat] K [] (Val (.bool (letB c)) K) := by
 refine bE Tryz.func85 rfl Tryz.ntmps85 rfl rfl fun F w => ?_
 refine aG (aC ?_);refine aA (aD rfl) rfl ?_;refine aF (aE ?_);refine aG (aC ?_);refine aA (aB rfl) rfl ?_;refine aA (gG rfl rfl) rfl ?_;refine aA (aB rfl) rfl ?_;refine bS 5 rfl (fun g5 => ?_) (fun g5 => ?_)
 ·
  refine aT rfl rfl ?_;refine aA (aB rfl) rfl ?_;refine aT rfl rfl ?_;refine aA (fN rfl rfl) rfl ?_;refine aA (bG rfl rfl) rfl ?_;refine aA (aB rfl) rfl ?_;refine bS 9 rfl (fun g9 => ?_) (fun g9 => ?_)
  ·
   refine aO rfl rfl rfl ?_;refine aO rfl rfl rfl ?_;refine aO rfl rfl rfl ?_;refine eL rfl rfl rfl ?_;refine eL rfl rfl rfl ?_;refine aO rfl rfl rfl ?_;refine aA (bG rfl rfl) rfl ?_;refine aA (aB rfl) rfl ?_;refine aO rfl rfl rfl ?_;refine aO rfl rfl rfl ?_;refine aA (bG rfl rfl) rfl ?_;refine aA (aD rfl) rfl ?_;refine aF (aE ?_);refine a8 ?_;refine bA rfl rfl (Hl.le_refl _) ?_;refine retB ?_ _
   unfold letB
   generalize c.toNat = y at *
   rw [Bool.eq_iff_iff];simp;omega
  ·
   refine aT rfl rfl ?_;refine aA (aB rfl) rfl ?_;refine aT rfl rfl ?_;refine aA (gG rfl rfl) rfl ?_;refine aT rfl rfl ?_;refine aA (aB rfl) rfl ?_;refine bS 12 rfl (fun g12 => ?_) (fun g12 => ?_)
   ·
    refine aT rfl rfl ?_;refine aA (aB rfl) rfl ?_;refine aT rfl rfl ?_;refine aA (fN rfl rfl) rfl ?_;refine aT rfl rfl ?_;refine aA (bG rfl rfl) rfl ?_;refine aA (aZ rfl rfl) rfl ?_;refine aA (aB rfl) rfl ?_;refine bS 17 rfl (fun g17 => ?_) (fun g17 => ?_)
    ·
     refine aO rfl rfl rfl ?_;refine aO rfl rfl rfl ?_;refine aA (bG rfl rfl) rfl ?_;refine aA (aD rfl) rfl ?_;refine aF (aE ?_);refine a8 ?_;refine bA rfl rfl (Hl.le_refl _) ?_;refine retB ?_ _
     unfold letB
     generalize c.toNat = y at *
     rw [Bool.eq_iff_iff];simp;omega
    ·
     refine aT rfl rfl ?_;refine aA (aB rfl) rfl ?_;refine aT rfl rfl ?_;refine aA (bW rfl rfl) rfl ?_;refine aA (aZ rfl rfl) rfl ?_;refine aA (aD rfl) rfl ?_;refine aF (aE ?_);refine a8 ?_;refine bA rfl rfl (Hl.le_refl _) ?_;refine retB ?_ _
     unfold letB
     generalize c.toNat = y at *
     rw [Bool.eq_iff_iff];simp;omega
   ·
    refine aO rfl rfl rfl ?_;refine aO rfl rfl rfl ?_;refine aT rfl rfl ?_;refine aA (aZ rfl rfl) rfl ?_;refine aA (aZ rfl rfl) rfl ?_;refine aA (aB rfl) rfl ?_;refine aT rfl rfl ?_;refine aA (aB rfl) rfl ?_;refine aT rfl rfl ?_;refine aA (bW rfl rfl) rfl ?_;refine aA (aZ rfl rfl) rfl ?_;refine aA (aD rfl) rfl ?_;refine aF (aE ?_);refine a8 ?_;refine bA rfl rfl (Hl.le_refl _) ?_;refine retB ?_ _
    unfold letB
    generalize c.toNat = y at *
    rw [Bool.eq_iff_iff];simp;omega
 ·
  refine aO rfl rfl rfl ?_;refine aO rfl rfl rfl ?_;refine aA (aZ rfl rfl) rfl ?_;refine aA (aB rfl) rfl ?_;refine aT rfl rfl ?_;refine aA (aB rfl) rfl ?_;refine aT rfl rfl ?_;refine aA (gG rfl rfl) rfl ?_;refine aT rfl rfl ?_;refine aA (aB rfl) rfl ?_;refine bS 12 rfl (fun g12 => ?_) (fun g12 => ?_)
  ·
   refine aT rfl rfl ?_;refine aA (aB rfl) rfl ?_;refine aT rfl rfl ?_;refine aA (fN rfl rfl) rfl ?_;refine aT rfl rfl ?_;refine aA (bG rfl rfl) rfl ?_;refine aA (aZ rfl rfl) rfl ?_;refine aA (aB rfl) rfl ?_;refine bS 17 rfl (fun g17 => ?_) (fun g17 => ?_)
   ·
    refine aO rfl rfl rfl ?_;refine aO rfl rfl rfl ?_;refine aA (bG rfl rfl) rfl ?_;refine aA (aD rfl) rfl ?_;refine aF (aE ?_);refine a8 ?_;refine bA rfl rfl (Hl.le_refl _) ?_;refine retB ?_ _
    unfold letB
    generalize c.toNat = y at *
    rw [Bool.eq_iff_iff];simp;omega
   ·
    refine aT rfl rfl ?_;refine aA (aB rfl) rfl ?_;refine aT rfl rfl ?_;refine aA (bW rfl rfl) rfl ?_;refine aA (aZ rfl rfl) rfl ?_;refine aA (aD rfl) rfl ?_;refine aF (aE ?_);refine a8 ?_;refine bA rfl rfl (Hl.le_refl _) ?_;refine retB ?_ _
    unfold letB
    generalize c.toNat = y at *
    rw [Bool.eq_iff_iff];simp;omega
  ·
   refine aO rfl rfl rfl ?_;refine aO rfl rfl rfl ?_;refine aT rfl rfl ?_;refine aA (aZ rfl rfl) rfl ?_;refine aA (aZ rfl rfl) rfl ?_;refine aA (aB rfl) rfl ?_;refine aT rfl rfl ?_;refine aA (aB rfl) rfl ?_;refine aT rfl rfl ?_;refine aA (bW rfl rfl) rfl ?_;refine aA (aZ rfl rfl) rfl ?_;refine aA (aD rfl) rfl ?_;refine aF (aE ?_);refine a8 ?_;refine bA rfl rfl (Hl.le_refl _) ?_;refine retB ?_ _
   unfold letB
   generalize c.toNat = y at *
   rw [Bool.eq_iff_iff];simp;omega
theorem nG (c : UInt8) (K : Hl) : Sp Tryz.prog 86 [.int .u8 c.toNat] K [] (Val (.bool (digB c)) K) := by
 refine bE Tryz.func86 rfl Tryz.ntmps86 rfl rfl fun F w => ?_
 refine aG (aC ?_);refine aA (aD rfl) rfl ?_;refine aF (aE ?_);refine aG (aC ?_);refine aA (aB rfl) rfl ?_;refine aA (gG rfl rfl) rfl ?_;refine aA (aB rfl) rfl ?_;refine bS 5 rfl (fun g5 => ?_) (fun g5 => ?_)
 ·
  refine aT rfl rfl ?_;refine aA (aB rfl) rfl ?_;refine aT rfl rfl ?_;refine aA (fN rfl rfl) rfl ?_;refine aA (bG rfl rfl) rfl ?_;refine aA (aD rfl) rfl ?_;refine aF (aE ?_);refine a8 ?_;refine bA rfl rfl (Hl.le_refl _) ?_;refine retB ?_ _
  unfold digB
  generalize c.toNat = y at *
  rw [Bool.eq_iff_iff];simp;omega
 ·
  refine aO rfl rfl rfl ?_;refine aO rfl rfl rfl ?_;refine aA (aZ rfl rfl) rfl ?_;refine aA (aD rfl) rfl ?_;refine aF (aE ?_);refine a8 ?_;refine bA rfl rfl (Hl.le_refl _) ?_;refine retB ?_ _
  unfold digB
  generalize c.toNat = y at *
  rw [Bool.eq_iff_iff];simp;omega
theorem sY (s : List UInt8) (K : Hl) (hs : s.length ≤ 140737488355328) : Sp Tryz.prog 88 [str s] K [] (Val (.bool (boxed s)) K) := by
  refine bE Tryz.func88 rfl Tryz.ntmps88 rfl rfl fun F w => ?_
  refine aG (aC ?_);refine aA (aD rfl) rfl ?_;refine aF (aE ?_);refine aG (aG ?_);refine aC ?_;refine aA (aD rfl) rfl ?_;refine aF (aE ?_);refine a7 ?_;refine eW (fun (i : Nat) => i ≤ s.length ∧ ∀ j c, j < i → s[j]? = some c → cA j c = true) (fun i => [(0, str s), (3, i64 i)]) (fun _ => _) (fun i => []) (fun i => s.length - i) 0 ⟨Nat.zero_le _, fun j c h _ => by omega⟩ (.cons 0 rfl (.cons 3 rfl .nil)) rfl (fun _ h => h) ?_;intro i ⟨hi0, hi1⟩;refine aG (aG ?_);refine aC ?_;refine aA (aB rfl) rfl ?_;refine aA (aB rfl) rfl ?_;refine aA (bU rfl Tryz.underlying9 rfl) rfl ?_;refine aA (cZ rfl rfl) rfl ?_;refine aF (aE ?_);refine bJ 9 rfl (fun h9 => ?_) (fun h9 => ?_)
  ·
    have hilt : i < s.length := by omega
    obtain ⟨c, hc⟩ : ∃ c, s[i]? = some c := ⟨s[i]'hilt, List.getElem?_eq_getElem hilt⟩;refine aX ?_;refine aE (aG ?_);refine a7 (aG ?_);refine aC ?_;refine aA (aB rfl) rfl ?_;refine aA (aB rfl) rfl ?_;refine aA (cY Tryz.underlying9 rfl rfl rfl dF) rfl ?_;refine bN rfl rfl (lY c _) rfl ?_;refine aA (aD rfl) rfl ?_;refine aF (aE ?_);refine aG (aC ?_);refine aA (aB rfl) rfl ?_;refine aA (aB rfl) rfl ?_;refine aA (cY Tryz.underlying9 rfl rfl rfl dF) rfl ?_;refine bN rfl rfl (nG c _) rfl ?_;refine aA (aD rfl) rfl ?_;refine aF (aE ?_);refine aG (aC ?_);refine aA (aB rfl) rfl ?_;refine aA (by first | exact fB rfl | exact dL rfl) rfl ?_;refine aA (aB rfl) rfl ?_;refine iH 22 rfl (fun g22 => ?_) (fun g22 => ?_)
    ·
      refine aT rfl rfl ?_;refine aA (aB rfl) rfl ?_;refine aT rfl rfl ?_;refine aA (by first | exact fB rfl | exact dL rfl) rfl ?_;refine aA (bG rfl rfl) rfl ?_;refine aA (aB rfl) rfl ?_;refine iH 26 rfl (fun g26 => ?_) (fun g26 => ?_)
      ·
        refine aT rfl rfl ?_;refine aA (aB rfl) rfl ?_;refine aT rfl rfl ?_;refine aA (aB rfl) rfl ?_;refine aT rfl rfl ?_;refine aA (cY Tryz.underlying9 rfl rfl rfl dF) rfl ?_;refine aT rfl rfl ?_;refine aA (eE rfl rfl) rfl ?_;refine aA (bG rfl rfl) rfl ?_;refine aA (aB rfl) rfl ?_;refine bS 32 rfl (fun g32 => ?_) (fun g32 => ?_)
        ·
          refine aT rfl rfl ?_;refine aA (aB rfl) rfl ?_;refine aT rfl rfl ?_;refine aA (aB rfl) rfl ?_;refine aT rfl rfl ?_;refine aA (cY Tryz.underlying9 rfl rfl rfl dF) rfl ?_;refine aT rfl rfl ?_;refine aA (eE rfl rfl) rfl ?_;refine aT rfl rfl ?_;refine aA (aB rfl) rfl ?_;refine bS 37 rfl (fun g37 => ?_) (fun g37 => ?_)
          ·
            refine aO rfl rfl rfl ?_;refine aO rfl rfl rfl ?_;refine aT rfl rfl ?_;refine aA (bG rfl rfl) rfl ?_;refine aA (bG rfl rfl) rfl ?_;refine aF (aE ?_);refine dH rfl ?_;refine aG (aC ?_);refine aA (aD rfl) rfl ?_;refine aF (aE ?_);refine a8 ?_;refine bC ?_;refine aR ?_;refine aR ?_;refine bC ?_;refine aR ?_;refine bF .nil ?_;refine bA rfl rfl (Hl.le_refl _) ?_;refine retB ?_ _
            first
              | (rw [Bool.eq_iff_iff, bR]
                 simp only [decide_eq_true_eq];exact ⟨fun h => ⟨hall, by rintro rfl; simp at *, by omega⟩, fun h => by omega⟩)
              | (symm; rw [Bool.eq_false_iff]; intro hbx; have := ((bR s).1 hbx).2.1; cases s <;> simp at *; done)
              | (symm; rw [Bool.eq_false_iff]; intro hbx
                 have := ((bR s).1 hbx).1 i c hc;unfold cA at this;simp only [Bool.or_eq_true, Bool.and_eq_true, decide_eq_true_eq] at this;have hl : bP c = false := by rw [← fO]; simp only [Bool.not_eq_true'] at g22 g26; rw [g22, g26]; rfl
                 rw [hl] at this;simp at this;omega)
          ·
            refine aT rfl rfl ?_;refine aA (aB rfl) rfl ?_;refine aT rfl rfl ?_;refine aA (bW rfl rfl) rfl ?_;refine aT rfl rfl ?_;refine aA (aZ rfl rfl) rfl ?_;refine aA (bG rfl rfl) rfl ?_;refine aF (aE ?_);refine bJ 41 rfl (fun h41 => ?_) (fun h41 => ?_)
            ·
              refine aG (aC ?_);refine aA (aD rfl) rfl ?_;refine aF (aE ?_);refine a8 ?_;refine bC ?_;refine aR ?_;refine aR ?_;refine bC ?_;refine aR ?_;refine bF .nil ?_;refine bA rfl rfl (Hl.le_refl _) ?_;refine retB ?_ _
              first
                | (rw [Bool.eq_iff_iff, bR]
                   simp only [decide_eq_true_eq];exact ⟨fun h => ⟨hall, by rintro rfl; simp at *, by omega⟩, fun h => by omega⟩)
                | (symm; rw [Bool.eq_false_iff]; intro hbx; have := ((bR s).1 hbx).2.1; cases s <;> simp at *; done)
                | (symm; rw [Bool.eq_false_iff]; intro hbx
                   have := ((bR s).1 hbx).1 i c hc;unfold cA at this;simp only [Bool.or_eq_true, Bool.and_eq_true, decide_eq_true_eq] at this;have hl : bP c = false := by rw [← fO]; simp only [Bool.not_eq_true'] at g22 g26; rw [g22, g26]; rfl
                   rw [hl] at this;simp at this;omega)
            ·
              refine aX ?_;refine aU (aE ?_);refine aC ?_;refine aA (aB rfl) rfl ?_;refine aA (bY rfl rfl aI aI) rfl ?_;refine aA (aD rfl) rfl ?_;refine aF ?_;have hb : cA i c = true := (by unfold cA; rw [← fO]; simp only [Bool.or_eq_true, Bool.and_eq_true, decide_eq_true_eq]; first | (left; left; left; simpa using g22; done) | (left; left; right; simpa using g26; done) | (left; right; omega) | (right; omega));refine dW (i + 1) ⟨by omega, fun j c2 hj hc2 => ?_⟩ aI (.cons 0 rfl (.cons 3 rfl .nil)) rfl (fun _ h => h)
              rcases Nat.lt_or_ge j i with h | h
              · exact hi1 j c2 h hc2
              · have e : j = i := by omega
                subst e; rw [hc] at hc2; cases hc2; exact hb
        ·
          refine aO rfl rfl rfl ?_;refine aO rfl rfl rfl ?_;refine aO rfl rfl rfl ?_;refine aO rfl rfl rfl ?_;refine aO rfl rfl rfl ?_;refine eL rfl rfl rfl ?_;refine eL rfl rfl rfl ?_;refine aO rfl rfl rfl ?_;refine aA (aZ rfl rfl) rfl ?_;refine aF (aE ?_);refine bL rfl ?_;refine aX ?_;refine aU (aE ?_);refine aC ?_;refine aA (aB rfl) rfl ?_;refine aA (bY rfl rfl aI aI) rfl ?_;refine aA (aD rfl) rfl ?_;refine aF ?_;have hb : cA i c = true := (by unfold cA; rw [← fO]; simp only [Bool.or_eq_true, Bool.and_eq_true, decide_eq_true_eq]; first | (left; left; left; simpa using g22; done) | (left; left; right; simpa using g26; done) | (left; right; omega) | (right; omega));refine dW (i + 1) ⟨by omega, fun j c2 hj hc2 => ?_⟩ aI (.cons 0 rfl (.cons 3 rfl .nil)) rfl (fun _ h => h)
          rcases Nat.lt_or_ge j i with h | h
          · exact hi1 j c2 h hc2
          · have e : j = i := by omega
            subst e; rw [hc] at hc2; cases hc2; exact hb
      ·
        refine aO rfl rfl rfl ?_;refine aO rfl rfl rfl ?_;refine aO rfl rfl rfl ?_;refine aO rfl rfl rfl ?_;refine aA (aZ rfl rfl) rfl ?_;refine aA (aB rfl) rfl ?_;refine aO rfl rfl rfl ?_;refine aO rfl rfl rfl ?_;refine aO rfl rfl rfl ?_;refine aO rfl rfl rfl ?_;refine aO rfl rfl rfl ?_;refine eL rfl rfl rfl ?_;refine eL rfl rfl rfl ?_;refine aO rfl rfl rfl ?_;refine aA (aZ rfl rfl) rfl ?_;refine aF (aE ?_);refine bL rfl ?_;refine aX ?_;refine aU (aE ?_);refine aC ?_;refine aA (aB rfl) rfl ?_;refine aA (bY rfl rfl aI aI) rfl ?_;refine aA (aD rfl) rfl ?_;refine aF ?_;have hb : cA i c = true := (by unfold cA; rw [← fO]; simp only [Bool.or_eq_true, Bool.and_eq_true, decide_eq_true_eq]; first | (left; left; left; simpa using g22; done) | (left; left; right; simpa using g26; done) | (left; right; omega) | (right; omega));refine dW (i + 1) ⟨by omega, fun j c2 hj hc2 => ?_⟩ aI (.cons 0 rfl (.cons 3 rfl .nil)) rfl (fun _ h => h)
        rcases Nat.lt_or_ge j i with h | h
        · exact hi1 j c2 h hc2
        · have e : j = i := by omega
          subst e; rw [hc] at hc2; cases hc2; exact hb
    ·
      refine aO rfl rfl rfl ?_;refine aO rfl rfl rfl ?_;refine aA (aZ rfl rfl) rfl ?_;refine aA (aB rfl) rfl ?_;refine aO rfl rfl rfl ?_;refine aO rfl rfl rfl ?_;refine aO rfl rfl rfl ?_;refine aO rfl rfl rfl ?_;refine aA (aZ rfl rfl) rfl ?_;refine aA (aB rfl) rfl ?_;refine aO rfl rfl rfl ?_;refine aO rfl rfl rfl ?_;refine aO rfl rfl rfl ?_;refine aO rfl rfl rfl ?_;refine aO rfl rfl rfl ?_;refine eL rfl rfl rfl ?_;refine eL rfl rfl rfl ?_;refine aO rfl rfl rfl ?_;refine aA (aZ rfl rfl) rfl ?_;refine aF (aE ?_);refine bL rfl ?_;refine aX ?_;refine aU (aE ?_);refine aC ?_;refine aA (aB rfl) rfl ?_;refine aA (bY rfl rfl aI aI) rfl ?_;refine aA (aD rfl) rfl ?_;refine aF ?_;have hb : cA i c = true := (by unfold cA; rw [← fO]; simp only [Bool.or_eq_true, Bool.and_eq_true, decide_eq_true_eq]; first | (left; left; left; simpa using g22; done) | (left; left; right; simpa using g26; done) | (left; right; omega) | (right; omega));refine dW (i + 1) ⟨by omega, fun j c2 hj hc2 => ?_⟩ aI (.cons 0 rfl (.cons 3 rfl .nil)) rfl (fun _ h => h)
      rcases Nat.lt_or_ge j i with h | h
      · exact hi1 j c2 h hc2
      · have e : j = i := by omega
        subst e; rw [hc] at hc2; cases hc2; exact hb
  ·
    have hall : ∀ j c, s[j]? = some c → cA j c = true := fun j c hc => hi1 j c (by rcases Nat.lt_or_ge j s.length with h | h; omega; (rw [List.getElem?_eq_none h] at hc; cases hc)) hc
    refine cK ?_;refine aP ?_;refine aP ?_;refine bB ?_;refine aE (aG ?_);refine aC ?_;refine aA (aB rfl) rfl ?_;refine aA (bU rfl Tryz.underlying9 rfl) rfl ?_;refine aA (iV rfl rfl) rfl ?_;refine aA (aB rfl) rfl ?_;refine bS 45 rfl (fun g45 => ?_) (fun g45 => ?_)
    ·
      refine aT rfl rfl ?_;refine aA (aB rfl) rfl ?_;refine aT rfl rfl ?_;refine aA (bU rfl Tryz.underlying9 rfl) rfl ?_;refine aT rfl rfl ?_;refine aA (fN rfl rfl) rfl ?_;refine aA (bG rfl rfl) rfl ?_;refine aA (aD rfl) rfl ?_;refine aF (aE ?_);refine a8 ?_;refine bF .nil ?_;refine bA rfl rfl (Hl.le_refl _) ?_;refine retB ?_ _
      first
        | (rw [Bool.eq_iff_iff, bR]
           simp only [decide_eq_true_eq];exact ⟨fun h => ⟨hall, by rintro rfl; simp at *, by omega⟩, fun h => by omega⟩)
        | (symm; rw [Bool.eq_false_iff]; intro hbx; have := ((bR s).1 hbx).2.1; cases s <;> simp at *; done)
        | (symm; rw [Bool.eq_false_iff]; intro hbx
           have := ((bR s).1 hbx).1 i c hc;unfold cA at this;simp only [Bool.or_eq_true, Bool.and_eq_true, decide_eq_true_eq] at this;have hl : bP c = false := by rw [← fO]; simp only [Bool.not_eq_true'] at g22 g26; rw [g22, g26]; rfl
           rw [hl] at this;simp at this;omega)
    ·
      refine aO rfl rfl rfl ?_;refine aO rfl rfl rfl ?_;refine aO rfl rfl rfl ?_;refine aA (aZ rfl rfl) rfl ?_;refine aA (aD rfl) rfl ?_;refine aF (aE ?_);refine a8 ?_;refine bF .nil ?_;refine bA rfl rfl (Hl.le_refl _) ?_;refine retB ?_ _
      first
        | (rw [Bool.eq_iff_iff, bR]
           simp only [decide_eq_true_eq];exact ⟨fun h => ⟨hall, by rintro rfl; simp at *, by omega⟩, fun h => by omega⟩)
        | (symm; rw [Bool.eq_false_iff]; intro hbx; have := ((bR s).1 hbx).2.1; cases s <;> simp at *; done)
        | (symm; rw [Bool.eq_false_iff]; intro hbx
           have := ((bR s).1 hbx).1 i c hc;unfold cA at this;simp only [Bool.or_eq_true, Bool.and_eq_true, decide_eq_true_eq] at this;have hl : bP c = false := by rw [← fO]; simp only [Bool.not_eq_true'] at g22 g26; rw [g22, g26]; rfl
           rw [hl] at this;simp at this;omega)
theorem uN (i : Nat) (hi : i < 10) (K : Hl) : Sp Tryz.prog 87 [i64 i] K [] (Val (str (Lib.itoa i)) K) := by
 have e : Lib.itoa (i : Int) = [UInt8.ofNat (48 + i)] := by rw [Lib.itoa_nonneg, Lib.decDigits, dif_pos hi]
 refine bE Tryz.func87 rfl Tryz.ntmps87 rfl rfl fun F w => ?_
 refine aG (aC ?_);refine aA (aD rfl) rfl ?_;refine aF (aE ?_);refine aG (aG ?_);refine aC ?_;refine aA (aB rfl) rfl ?_;refine aA (ev_T (cZ rfl rfl) aI) rfl ?_;refine aF (aE ?_);refine dH rfl ?_;refine aG (aC ?_);refine aA (aB rfl) rfl ?_;refine aA (bY rfl rfl aI aI) rfl ?_;refine aA (eH (v := .int .u8 ((UInt8.ofNat (48 + i)).toNat : Int)) (eO Tryz.underlying5 Tryz.underlying3 rfl) (by rw [UInt8.toNat_ofNat']; unfold IntKind.wrap IntKind.bits IntKind.signed; simp only [Bool.false_and]; simp)) rfl ?_;refine ol_s (cL (z0 := [.int .u8 0]) kR tz5 rfl rfl rfl rfl (.cons rfl rfl rfl (.cons .nil) .nil)) rfl ?_;rintro _ K _ ⟨b9, rfl, rfl, rfl⟩ -;refine aA (fM (xs := [UInt8.ofNat (48 + i)]) Tryz.underlying130 Tryz.underlying5 Tryz.underlying9 rfl (.blk (.own .here) rfl rfl)) rfl ?_;refine aA (aD rfl) rfl ?_;refine aF (aE ?_);refine a8 ?_;refine aR ?_;refine bF .nil ?_;refine bA rfl rfl (Hl.le_refl _) ?_;rw [e];exact ⟨rfl, rfl, rfl⟩
def rR (r : Except Int (List File)) : Ending → Hl → List Asn → Prop := Ret fun v K' L' => match r with
 | .ok xs => ∃ u, v = .tuple #[u, i64 0] ∧ L' = [sl false aV u xs]
 | .error e => v = .tuple #[.slice none 0 0, i64 e] ∧ L' = []
theorem pM {p : UInt8 → Bool} (h : ∀ n : Fin 256, p (UInt8.ofNat n.1) = true) (c : UInt8) : p c = true := by simpa using h ⟨c.toNat, c.toNat_lt⟩
theorem zS {id : aJ} (h1 : 0 < id.length) (h2 : id.length ≤ 8) (h : ∀ (j : Nat) (c : UInt8), id[j]? = some c → bP c = true) : eU id = false := by
 have hm : ∀ c ∈ id, bP c = true := fun c hc => by obtain ⟨j, hj, e⟩ := List.mem_iff_getElem.1 hc; exact h j c (by rw [List.getElem?_eq_getElem hj, e])
 have k : ∀ c : UInt8, (!bP c || !([46, 45].contains c)) = true := pM (by decide +kernel);have hb : boxed id = true := (bR id).2 ⟨fun i c hc => by unfold cA; rw [h i c hc]; rfl, by rintro rfl; simp at h1, by omega⟩;have ha : (id.any fun c => [46, 45].contains c) = false := by
  rw [Bool.eq_false_iff]; intro ha
  obtain ⟨c, hc, hx⟩ := List.any_eq_true.1 ha;have := k c;rw [hm c hc] at this;simp only [Bool.not_true, Bool.false_or, Bool.not_eq_true'] at this;rw [this] at hx; cases hx
 unfold eU;rw [hb, ha, decide_eq_false (by rintro rfl; simp at h1), decide_eq_false aI]; rfl
theorem xJ {id : aJ} {i : Nat} {c : UInt8} (hc : id[i]? = some c) (h : bP c = false) : eU id = true := by
 have k : ∀ c : UInt8, (bP c || [46, 45].contains c || (decide (c.toNat ≠ 45) && decide (c.toNat ≠ 46))) = true := pM (by decide +kernel);have kc := k c;rw [h, Bool.false_or] at kc;unfold eU;cases hx : [46, 45].contains c with
 | true =>
  have : (id.any fun c => [46, 45].contains c) = true := List.any_eq_true.2 ⟨c, List.mem_of_getElem? hc, hx⟩;rw [this]; simp
 | false =>
  rw [hx, Bool.false_or] at kc;simp only [Bool.and_eq_true, decide_eq_true_eq] at kc;have : boxed id = false := by
   rw [Bool.eq_false_iff]; intro hb
   have := ((bR id).1 hb).1 i c hc;unfold cA at this;rw [h] at this;simp only [Bool.or_eq_true, Bool.and_eq_true, decide_eq_true_eq] at this;simp at this; omega
  rw [this]; simp
theorem xX (id text : aJ) (v : Value) (acts : List Action) (K : Hl) (hv : Ksl dG K v acts) (hid : id.length ≤ 140737488355328) (ht : text.length ≤ 1048576) (ha : ∀ a ∈ acts, a.2.length ≤ 1048576) (hal : acts.length ≤ 140737488355328) :
  Sp Tryz.prog 50 [str id, v, str text] K [] (rR (cW id acts text)) := by
 refine bE Tryz.func50 rfl Tryz.ntmps50 rfl rfl fun F w => ?_
 refine aG (aC ?_);refine aA (aD rfl) rfl ?_;refine aA (aD rfl) rfl ?_;refine aF (aE ?_);refine aG (aG ?_);refine aC ?_;refine aA (aB rfl) rfl ?_;refine aA (bU rfl Tryz.underlying9 rfl) rfl ?_;refine aA (cZ rfl rfl) rfl ?_;refine aA (aB rfl) rfl ?_;refine bS 20 rfl (fun g20 => ?_) (fun g20 => ?_)
 ·
  refine aO rfl rfl rfl ?_;refine aO rfl rfl rfl ?_;refine aO rfl rfl rfl ?_;refine aA (bG rfl rfl) rfl ?_;refine aF (aE ?_);refine dH rfl ?_;refine aG (aC ?_);refine aA (aD rfl) rfl ?_;refine aA (aD rfl) rfl ?_;refine aF (aE ?_);refine a8 ?_;refine aR ?_;refine cR rfl rfl rfl (Hl.le_refl _) ?_;have hb : eU id = true := (by have e : id = [] := List.length_eq_zero_iff.1 aI; rw [e]; rfl);unfold rR cW;rw [if_pos hb];exact ⟨_, rfl, rfl, rfl⟩
 ·
  refine aT rfl rfl ?_;refine aA (aB rfl) rfl ?_;refine aT rfl rfl ?_;refine aA (bU rfl Tryz.underlying9 rfl) rfl ?_;refine aT rfl rfl ?_;refine aA (iV rfl rfl) rfl ?_;refine aA (aZ rfl rfl) rfl ?_;refine aF (aE ?_);refine bJ 24 rfl (fun h24 => ?_) (fun h24 => ?_)
  ·
   refine aG (aC ?_);refine aA (aD rfl) rfl ?_;refine aA (aD rfl) rfl ?_;refine aF (aE ?_);refine a8 ?_;refine aR ?_;refine cR rfl rfl rfl (Hl.le_refl _) ?_;have hb : eU id = true := (by unfold eU; rw [decide_eq_true (show 8 < id.length by omega)]; simp);unfold rR cW;rw [if_pos hb];exact ⟨_, rfl, rfl, rfl⟩
  ·
   refine aX ?_;refine aE (aG ?_);refine aG (aC ?_);refine aA (aD rfl) rfl ?_;refine aF (aE ?_);refine a7 ?_;refine eW (fun (i : Nat) => i ≤ id.length ∧ ∀ j c, j < i → id[j]? = some c → bP c = true) (fun i => [(0, str id), (1, v), (2, str text), (8, i64 i)]) (fun _ => K) (fun i => []) (fun i => id.length - i) 0 ⟨Nat.zero_le _, fun j c h _ => by omega⟩ (.cons 0 rfl (.cons 1 rfl (.cons 2 rfl (.cons 8 rfl .nil)))) rfl (fun _ h => h) ?_;intro i ⟨hi0, hi1⟩;refine aG (aG ?_);refine aC ?_;refine aA (aB rfl) rfl ?_;refine aA (aB rfl) rfl ?_;refine aA (bU rfl Tryz.underlying9 rfl) rfl ?_;refine aA (cZ rfl rfl) rfl ?_;refine aF (aE ?_);refine bJ 28 rfl (fun h28 => ?_) (fun h28 => ?_)
   ·
    have hilt : i < id.length := by omega
    obtain ⟨c, hc⟩ : ∃ c, id[i]? = some c := ⟨id[i]'hilt, List.getElem?_eq_getElem hilt⟩;refine aX ?_;refine aE (aG ?_);refine a7 (aG ?_);refine aC ?_;refine aA (aB rfl) rfl ?_;refine aA (aB rfl) rfl ?_;refine aA (cY Tryz.underlying9 rfl rfl rfl dF) rfl ?_;refine bN rfl rfl (lY c _) rfl ?_;refine aA (aD rfl) rfl ?_;refine aF (aE ?_);refine aG (aC ?_);refine aA (aB rfl) rfl ?_;refine aA (aB rfl) rfl ?_;refine aA (cY Tryz.underlying9 rfl rfl rfl dF) rfl ?_;refine bN rfl rfl (nG c _) rfl ?_;refine aA (aD rfl) rfl ?_;refine aF (aE ?_);refine aG (aC ?_);refine aA (aB rfl) rfl ?_;refine aA (by first | exact fB rfl | exact dL rfl) rfl ?_;refine aA (aB rfl) rfl ?_;refine iH 41 rfl (fun g41 => ?_) (fun g41 => ?_)
    ·
     refine aT rfl rfl ?_;refine aA (aB rfl) rfl ?_;refine aT rfl rfl ?_;refine aA (by first | exact fB rfl | exact dL rfl) rfl ?_;refine aA (bG rfl rfl) rfl ?_;refine aF (aE ?_);refine gP 44 rfl (fun h44 => ?_) (fun h44 => ?_)
     ·
      refine aG (aC ?_);refine aA (aD rfl) rfl ?_;refine aA (aD rfl) rfl ?_;refine aF (aE ?_);refine a8 ?_;refine bC ?_;refine aR ?_;refine aR ?_;refine bC ?_;refine aR ?_;refine cR rfl rfl rfl (Hl.le_refl _) ?_;have hb : eU id = true := xJ hc (by rw [← fO]; simp only [Bool.not_eq_true'] at g41 h44; rw [g41, h44]; rfl);unfold rR cW;rw [if_pos hb];exact ⟨_, rfl, rfl, rfl⟩
     ·
      refine aX ?_;refine aU (aE ?_);refine aC ?_;refine aA (aB rfl) rfl ?_;refine aA (bY rfl rfl aI aI) rfl ?_;refine aA (aD rfl) rfl ?_;refine aF ?_;have hb : bP c = true := (by rw [← fO]; simp only [Bool.or_eq_true]; first | (left; simpa using g41; done) | (right; simpa using h44; done));refine dW (i + 1) ⟨by omega, fun j c2 hj hc2 => ?_⟩ aI (.cons 0 rfl (.cons 1 rfl (.cons 2 rfl (.cons 8 rfl .nil)))) rfl (fun _ h => h)
      rcases Nat.lt_or_ge j i with h | h
      ·exact hi1 j c2 h hc2
      ·have e : j = i := by omega
       subst e; rw [hc] at hc2; cases hc2; exact hb
    ·
     refine aO rfl rfl rfl ?_;refine aO rfl rfl rfl ?_;refine aA (aZ rfl rfl) rfl ?_;refine aF (aE ?_);refine bL rfl ?_;refine aX ?_;refine aU (aE ?_);refine aC ?_;refine aA (aB rfl) rfl ?_;refine aA (bY rfl rfl aI aI) rfl ?_;refine aA (aD rfl) rfl ?_;refine aF ?_;have hb : bP c = true := (by rw [← fO]; simp only [Bool.or_eq_true]; first | (left; simpa using g41; done) | (right; simpa using h44; done));refine dW (i + 1) ⟨by omega, fun j c2 hj hc2 => ?_⟩ aI (.cons 0 rfl (.cons 1 rfl (.cons 2 rfl (.cons 8 rfl .nil)))) rfl (fun _ h => h)
     rcases Nat.lt_or_ge j i with h | h
     ·exact hi1 j c2 h hc2
     ·have e : j = i := by omega
      subst e; rw [hc] at hc2; cases hc2; exact hb
   ·
    have hbad : eU id = false := zS aI aI (fun j c hc => hi1 j c (by rcases Nat.lt_or_ge j id.length with h | h; omega; (rw [List.getElem?_eq_none h] at hc; cases hc)) hc);refine cK ?_;refine aP ?_;refine aP ?_;refine bB ?_;refine aE (aG ?_);refine aG (aC ?_);refine aA (aB rfl) rfl ?_;refine aA (bM (k := dG) rfl Tryz.underlying29 rfl (.known hv)) rfl ?_;refine aA (iV rfl rfl) rfl ?_;refine aF (aE ?_);refine bJ 47 rfl (fun h47 => ?_) (fun h47 => ?_)
    ·
     refine aG (aC ?_);refine aA (aD rfl) rfl ?_;refine aA (aD rfl) rfl ?_;refine aF (aE ?_);refine a8 ?_;refine aR ?_;refine cR rfl rfl rfl (Hl.le_refl _) ?_;unfold rR cW;rw [if_neg (by rw [hbad]; simp), if_pos aI];exact ⟨_, rfl, rfl, rfl⟩
    ·
     refine aX ?_;refine aE (aG ?_);refine aC ?_;refine aA (aD rfl) rfl ?_;refine aF (aE ?_);refine aG (aG ?_);refine aC ?_;refine aA (aD rfl) rfl ?_;refine aF (aE ?_);refine a7 ?_;have hfc : cW id acts text = hC [] (eI id text 0 (acts.drop 0)) := (by unfold cW; rw [if_neg (by rw [hbad]; simp), if_neg aI, List.drop_zero]; cases eI id text 0 acts <;> rfl);refine fQ (dZ aV) ?_;refine g0 (fun (i : Nat) (u : Value) (acc : List File) => i ≤ acts.length ∧ acc.length = i ∧ cW id acts text = hC acc (eI id text i (acts.drop i))) (fun i u _ => [(0, str id), (1, v), (2, str text), (11, u), (12, i64 i)]) (fun _ _ _ => K) (fun _ u acc => [sl false aV u acc]) (fun i _ _ => acts.length - i) 0 (.slice none 0 0) [] ⟨Nat.zero_le _, rfl, hfc⟩ (.cons 0 rfl (.cons 1 rfl (.cons 2 rfl (.cons 11 rfl (.cons 12 rfl .nil))))) rfl (fun _ h => h) ?_;intro i u acc ⟨hi, hal2, hx⟩;refine aG (aG ?_);refine aC ?_;refine aA (aB rfl) rfl ?_;refine aA (aB rfl) rfl ?_;refine aA (bM (k := dG) rfl Tryz.underlying29 rfl (.known hv)) rfl ?_;refine aA (cZ rfl rfl) rfl ?_;refine aF (aE ?_);refine bJ 51 rfl (fun h51 => ?_) (fun h51 => ?_)
     ·
      have hlt : i < acts.length := by omega
      obtain ⟨a, haa⟩ : ∃ a, acts[i]? = some a := ⟨acts[i]'hlt, List.getElem?_eq_getElem hlt⟩;have hae := ha a (List.mem_of_getElem? haa);have hil := Lib.itoa_length_le (i : Int) aI aI;have hidl : id.length ≤ 8 := by omega
      refine aX ?_;refine aE (aG ?_);refine a7 (aG ?_);refine aC ?_;refine aA (aB rfl) rfl ?_;refine aA (aB rfl) rfl ?_;refine aA (bD (k := dG) kS rfl (.known hv) rfl rfl (by first | assumption | omega)) rfl ?_;refine aA (cI (n := 0) (k := dG) rG rfl (.known hv) haa) rfl ?_;refine ol_s (dI tz34) rfl ?_;rintro _ K _ ⟨b13, rfl, rfl, rfl⟩ -;refine cQ (cS rG rfl rfl rfl bI (by first | (simp [Value.oneCell']; done) | exact fun c hc => El.one _ _ c hc) (.cons (.cons .nil)) (by intro j hj; simp)) ?_;rintro _ K _ ⟨rfl, rfl⟩ -;refine aF (aE ?_);refine aG (aC ?_);refine aA (aB rfl) rfl ?_;refine bN rfl rfl (uN i aI _) rfl ?_;refine aA (aD rfl) rfl ?_;refine aF (aE ?_);refine aG (aC ?_);refine aA (aB rfl) rfl ?_;refine aA (cC rfl rfl (by first | (simp; omega) | omega)) rfl ?_;refine aA (aB rfl) rfl ?_;refine aA (eN tb66 o3 (.cons rfl rfl rfl (.cons .nil) (.cons rfl rfl rfl (.skip (.cons .nil)) .nil))) rfl ?_;refine ol_s (dI tz66) rfl ?_;rintro _ K _ ⟨b15, rfl, rfl, rfl⟩ -;refine cQ (cS eG rfl rfl rfl bI (by first | (simp [Value.oneCell']; done) | exact fun c hc => El.one _ _ c hc) (.cons (.cons .nil)) (by intro j hj; simp)) ?_;rintro _ K _ ⟨rfl, rfl⟩ -;refine aF (aE ?_);refine mU (fun (f : File) => bO id text i a = .ok f) (fun _ => [(0, str id), (1, v), (2, str text), (11, u), (12, i64 i), (15, ptr b15)]) (fun _ => K) (fun f => [pt b15 (aW [str f.1, str f.2] 66), sl false aV u acc]) ?_ ?_
      ·
       refine aG (aC ?_);refine aA (aH (o' := 0) tE rfl rfl) rfl ?_;refine aA (aM ts3 rfl aN rfl) rfl ?_;refine aF (aE ?_);refine a7 (aG ?_);refine aC ?_;refine aA (bW rfl rfl) rfl ?_;refine aA (aD rfl) rfl ?_;refine aF (aE ?_);refine bJ 66 rfl (fun h66 => ?_) (fun h66 => ?_)
       ·
        refine aX ?_;refine aU ?_;refine bF (.cons .here (.cons (.there .here) .nil)) ?_
        first | exact cG (jI ++ id, text) (by simp only [bO]; rw [if_pos h66]) (.cons 0 rfl (.cons 1 rfl (.cons 2 rfl (.cons 11 rfl (.cons 12 rfl (.cons 15 rfl .nil)))))) rfl (fun _ h => h) | exact cG (boxP ++ a.2 ++ jK ++ id, text) (by simp only [bO]; rw [if_neg h66, if_pos h68, if_pos (by simpa using h74)]) (.cons 0 rfl (.cons 1 rfl (.cons 2 rfl (.cons 11 rfl (.cons 12 rfl (.cons 15 rfl .nil)))))) rfl (fun _ h => h) | exact cG (outN id i, toP ++ a.2 ++ [10] ++ text) (by simp only [bO]; rw [if_neg h66, if_neg h68, if_pos h82]) (.cons 0 rfl (.cons 1 rfl (.cons 2 rfl (.cons 11 rfl (.cons 12 rfl (.cons 15 rfl .nil)))))) rfl (fun _ h => h) | exact cG (outN id i, rejP ++ a.2 ++ [10] ++ text) (by simp only [bO]; rw [if_neg h66, if_neg h68, if_neg h82, if_pos h96]) (.cons 0 rfl (.cons 1 rfl (.cons 2 rfl (.cons 11 rfl (.cons 12 rfl (.cons 15 rfl .nil)))))) rfl (fun _ h => h)
       ·
        refine aG (aC ?_);refine aA (bW rfl rfl) rfl ?_;refine aA (aD rfl) rfl ?_;refine aF (aE ?_);refine bJ 68 rfl (fun h68 => ?_) (fun h68 => ?_)
        ·
         refine aG (aC ?_);refine aA (aH (o' := 1) e9 rfl rfl) rfl ?_;refine aA (aM ts9 rfl aN rfl) rfl ?_;refine bN rfl rfl (sY a.2 _ aI) rfl ?_;refine aA (aD rfl) rfl ?_;refine aF (aE ?_);refine aG (aG ?_);refine aC ?_;refine aA (aB rfl) rfl ?_;refine aA (by first | exact fB rfl | exact dL rfl) rfl ?_;refine aF (aE ?_);refine gP 74 rfl (fun h74 => ?_) (fun h74 => ?_)
         ·
          refine aG (aC ?_);refine aA (aD rfl) rfl ?_;refine aA (aD rfl) rfl ?_;refine aF (aE ?_);refine a8 ?_;refine aR ?_;refine bC ?_;refine aR ?_;refine bF .nil ?_;refine cR rfl rfl rfl (Hl.le_refl _) ?_;rw [hx, kH haa (e := 8) (by simp only [bO]; rw [if_neg h66, if_pos h68, if_neg (by simpa using h74)])];exact ⟨_, rfl, rfl, rfl⟩
         ·
          refine aX ?_;refine aE (aC ?_);refine aA (aH (o' := 1) e9 rfl rfl) rfl ?_;refine aA (aM ts9 rfl aN rfl) rfl ?_;refine aA (cC rfl rfl (by first | (simp; omega) | omega)) rfl ?_;refine aA (cC rfl rfl (by first | (simp; omega) | omega)) rfl ?_;refine aA (aB rfl) rfl ?_;refine aA (cC rfl rfl (by first | (simp; omega) | omega)) rfl ?_;refine aA (aH (o' := 0) fA rfl rfl) rfl ?_;refine cQ (bT ts9 rfl rfl dM bI .zero rfl) ?_;rintro _ K _ ⟨rfl, rfl⟩ -;refine aF (aU ?_);refine bF (.cons .here (.cons (.there .here) .nil)) ?_
          first | exact cG (jI ++ id, text) (by simp only [bO]; rw [if_pos h66]) (.cons 0 rfl (.cons 1 rfl (.cons 2 rfl (.cons 11 rfl (.cons 12 rfl (.cons 15 rfl .nil)))))) rfl (fun _ h => h) | exact cG (boxP ++ a.2 ++ jK ++ id, text) (by simp only [bO]; rw [if_neg h66, if_pos h68, if_pos (by simpa using h74)]) (.cons 0 rfl (.cons 1 rfl (.cons 2 rfl (.cons 11 rfl (.cons 12 rfl (.cons 15 rfl .nil)))))) rfl (fun _ h => h) | exact cG (outN id i, toP ++ a.2 ++ [10] ++ text) (by simp only [bO]; rw [if_neg h66, if_neg h68, if_pos h82]) (.cons 0 rfl (.cons 1 rfl (.cons 2 rfl (.cons 11 rfl (.cons 12 rfl (.cons 15 rfl .nil)))))) rfl (fun _ h => h) | exact cG (outN id i, rejP ++ a.2 ++ [10] ++ text) (by simp only [bO]; rw [if_neg h66, if_neg h68, if_neg h82, if_pos h96]) (.cons 0 rfl (.cons 1 rfl (.cons 2 rfl (.cons 11 rfl (.cons 12 rfl (.cons 15 rfl .nil)))))) rfl (fun _ h => h)
        ·
         refine aG (aC ?_);refine aA (bW rfl rfl) rfl ?_;refine aA (aD rfl) rfl ?_;refine aF (aE ?_);refine bJ 82 rfl (fun h82 => ?_) (fun h82 => ?_)
         ·
          refine aC ?_;refine aA (aB rfl) rfl ?_;refine aA (cC rfl rfl (by first | (simp; omega) | omega)) rfl ?_;refine aA (cC rfl rfl (by first | (simp; omega) | omega)) rfl ?_;refine aA (aB rfl) rfl ?_;refine aA (cC rfl rfl (by first | (simp; omega) | omega)) rfl ?_;refine aA (aH (o' := 1) e9 rfl rfl) rfl ?_;refine aA (aM ts9 rfl aN rfl) rfl ?_;refine aA (cC rfl rfl (by first | (simp; omega) | omega)) rfl ?_;refine aA (cC rfl rfl (by first | (simp; omega) | omega)) rfl ?_;refine aA (aB rfl) rfl ?_;refine aA (cC rfl rfl (by first | (simp; omega) | omega)) rfl ?_;refine aA (eN tb66 o3 (.cons rfl rfl rfl (.cons .nil) (.cons rfl rfl rfl (.skip (.cons .nil)) .nil))) rfl ?_;refine cQ (cS eG rfl rfl rfl bI (by first | (simp [Value.oneCell']; done) | exact fun c hc => El.one _ _ c hc) (.cons (.cons .nil)) (by intro j hj; simp)) ?_;rintro _ K _ ⟨rfl, rfl⟩ -;refine aF (aU ?_);refine bF (.cons .here (.cons (.there .here) .nil)) ?_
          first | exact cG (jI ++ id, text) (by simp only [bO]; rw [if_pos h66]) (.cons 0 rfl (.cons 1 rfl (.cons 2 rfl (.cons 11 rfl (.cons 12 rfl (.cons 15 rfl .nil)))))) rfl (fun _ h => h) | exact cG (boxP ++ a.2 ++ jK ++ id, text) (by simp only [bO]; rw [if_neg h66, if_pos h68, if_pos (by simpa using h74)]) (.cons 0 rfl (.cons 1 rfl (.cons 2 rfl (.cons 11 rfl (.cons 12 rfl (.cons 15 rfl .nil)))))) rfl (fun _ h => h) | exact cG (outN id i, toP ++ a.2 ++ [10] ++ text) (by simp only [bO]; rw [if_neg h66, if_neg h68, if_pos h82]) (.cons 0 rfl (.cons 1 rfl (.cons 2 rfl (.cons 11 rfl (.cons 12 rfl (.cons 15 rfl .nil)))))) rfl (fun _ h => h) | exact cG (outN id i, rejP ++ a.2 ++ [10] ++ text) (by simp only [bO]; rw [if_neg h66, if_neg h68, if_neg h82, if_pos h96]) (.cons 0 rfl (.cons 1 rfl (.cons 2 rfl (.cons 11 rfl (.cons 12 rfl (.cons 15 rfl .nil)))))) rfl (fun _ h => h)
         ·
          refine aG (aC ?_);refine aA (bW rfl rfl) rfl ?_;refine aA (aD rfl) rfl ?_;refine aF (aE ?_);refine bJ 96 rfl (fun h96 => ?_) (fun h96 => ?_)
          ·
           refine aC ?_;refine aA (aB rfl) rfl ?_;refine aA (cC rfl rfl (by first | (simp; omega) | omega)) rfl ?_;refine aA (cC rfl rfl (by first | (simp; omega) | omega)) rfl ?_;refine aA (aB rfl) rfl ?_;refine aA (cC rfl rfl (by first | (simp; omega) | omega)) rfl ?_;refine aA (aH (o' := 1) e9 rfl rfl) rfl ?_;refine aA (aM ts9 rfl aN rfl) rfl ?_;refine aA (cC rfl rfl (by first | (simp; omega) | omega)) rfl ?_;refine aA (cC rfl rfl (by first | (simp; omega) | omega)) rfl ?_;refine aA (aB rfl) rfl ?_;refine aA (cC rfl rfl (by first | (simp; omega) | omega)) rfl ?_;refine aA (eN tb66 o3 (.cons rfl rfl rfl (.cons .nil) (.cons rfl rfl rfl (.skip (.cons .nil)) .nil))) rfl ?_;refine cQ (cS eG rfl rfl rfl bI (by first | (simp [Value.oneCell']; done) | exact fun c hc => El.one _ _ c hc) (.cons (.cons .nil)) (by intro j hj; simp)) ?_;rintro _ K _ ⟨rfl, rfl⟩ -;refine aF (aU ?_);refine bF (.cons .here (.cons (.there .here) .nil)) ?_
           first | exact cG (jI ++ id, text) (by simp only [bO]; rw [if_pos h66]) (.cons 0 rfl (.cons 1 rfl (.cons 2 rfl (.cons 11 rfl (.cons 12 rfl (.cons 15 rfl .nil)))))) rfl (fun _ h => h) | exact cG (boxP ++ a.2 ++ jK ++ id, text) (by simp only [bO]; rw [if_neg h66, if_pos h68, if_pos (by simpa using h74)]) (.cons 0 rfl (.cons 1 rfl (.cons 2 rfl (.cons 11 rfl (.cons 12 rfl (.cons 15 rfl .nil)))))) rfl (fun _ h => h) | exact cG (outN id i, toP ++ a.2 ++ [10] ++ text) (by simp only [bO]; rw [if_neg h66, if_neg h68, if_pos h82]) (.cons 0 rfl (.cons 1 rfl (.cons 2 rfl (.cons 11 rfl (.cons 12 rfl (.cons 15 rfl .nil)))))) rfl (fun _ h => h) | exact cG (outN id i, rejP ++ a.2 ++ [10] ++ text) (by simp only [bO]; rw [if_neg h66, if_neg h68, if_neg h82, if_pos h96]) (.cons 0 rfl (.cons 1 rfl (.cons 2 rfl (.cons 11 rfl (.cons 12 rfl (.cons 15 rfl .nil)))))) rfl (fun _ h => h)
          ·
           refine aG (aC ?_);refine aA (aD rfl) rfl ?_;refine aA (aD rfl) rfl ?_;refine aF (aE ?_);refine a8 ?_;refine bC ?_;refine aR ?_;refine bF .nil ?_;refine cR rfl rfl rfl (Hl.le_refl _) ?_;rw [hx, kH haa (e := 7) (by simp only [bO]; rw [if_neg h66, if_neg h68, if_neg h82, if_neg h96])];exact ⟨_, rfl, rfl, rfl⟩
      ·
       intro f hff;refine aC ?_;refine aA (aB rfl) rfl ?_;refine aA (bX eG rfl aN rfl rfl) rfl ?_;refine ol_s (cL (z0 := [(str []), (str [])]) cD tz66 rfl rfl rfl rfl (.cons rfl rfl rfl (.cons (.cons .nil)) .nil)) rfl ?_;rintro _ K _ ⟨b112, rfl, rfl, rfl⟩ -;refine ol_s (dO (k := aV) (ys := [f]) c6 rfl rfl bI (fun w j => dE Tryz.underlying62 (SeesSl.at (k := aV) (.blk (.own .here) rfl rfl) j)) (by show (acc.length + 1) * 32 ≤ 140737488355328; omega) (by show acc.length + 1 ≤ 9223372036854775807; omega)) rfl ?_;rintro v113 K _ ⟨rfl, rfl, ho113⟩ -;refine aA (aD rfl) rfl ?_;refine aF (aU ?_);refine aE (aC ?_);refine aA (aB rfl) rfl ?_;refine aA (bY rfl rfl aI aI) rfl ?_;refine aA (aD rfl) rfl ?_;refine aF ?_;refine bF (.cons .here .nil) ?_;exact fL (i + 1) _ (acc ++ [f]) ⟨by omega, by simp [hal2], by rw [hx]; exact sC haa hff⟩ aI (.cons 0 rfl (.cons 1 rfl (.cons 2 rfl (.cons 11 rfl (.cons 12 rfl .nil))))) rfl (fun _ h => h)
     ·
      have hie : i = acts.length := by omega
      subst hie;rw [List.drop_length, eI] at hx;simp only [hC, List.append_nil] at hx;refine cK ?_;refine aP ?_;refine aP ?_;refine bB ?_;refine aE (aG ?_);refine aC ?_;refine aA (aB rfl) rfl ?_;refine aA (aD rfl) rfl ?_;refine aA (aD rfl) rfl ?_;refine aF (aE ?_);refine a8 ?_;refine bF (.cons .here .nil) ?_;refine cR rfl rfl rfl (Hl.le_refl _) ?_;rw [hx];exact ⟨_, rfl, _, rfl, rfl⟩
end Go.Proofs
end
section
namespace Go.Mach
open Go.Syn
structure ActOk (a : Action) : Prop where
 lo : 1 ≤ a.1
 hi : a.1 ≤ 4
 keep : a.1 = 1 → a.2 = []
 box : a.1 = 2 → boxed a.2 = true
 len : a.2.length ≤ 48
structure ActsOk (l : List Action) : Prop where
 len : l.length ≤ 6
 nodup : l.Nodup
 ok : ∀ a ∈ l, ActOk a
structure AInv (s : MS) : Prop where
 acts : ActsOk s.acts
 keep : s.keep = true → s.acts = []
theorem AInv.same {s t : MS} (h : AInv s) (h1 : t.acts = s.acts) (h2 : t.keep = s.keep ∨ t.keep = false) : AInv t :=
 ⟨h1 ▸ h.acts, fun hk => by rcases h2 with h2 | h2; rw [h1]; exact h.keep (h2 ▸ hk); rw [h2] at hk; cases hk⟩
theorem aCC : ActsOk [(1, [])] := ⟨by simp, by simp, fun a h => by rw [List.mem_singleton.1 h]; exact ⟨by omega, by omega, fun _ => rfl, fun h => by simp at h, by simp⟩⟩
theorem AInv.out {s : MS} (h : AInv s) : ActsOk (if s.keep = true then s.acts ++ [(1, [])] else s.acts) := by
 split
 ·rename_i hk; rw [h.keep hk]; exact aCC
 ·exact h.acts
theorem AInv.start : AInv Mach.start := ⟨⟨by simp [Mach.start], by simp [Mach.start], fun a h => by simp [Mach.start] at h⟩, fun _ => rfl⟩
end Go.Mach
namespace Go.Box
open Go.Syn Go.Mach
def nm (id : aJ) (i : Nat) (a : Action) : aJ := if a.1 = 1 then jI ++ id else if a.1 = 2 then boxP ++ a.2 ++ jK ++ id else outN id i
theorem aCM {id : aJ} {i : Nat} {a : Action} : ∃ c r, nm id i a = c :: r ∧ (a.1 = 1 → c = 105) ∧ (a.1 = 2 → c = 98) ∧ (a.1 ≠ 1 → a.1 ≠ 2 → c = 111) := by
 unfold nm
 by_cases e1 : a.1 = 1
 ·exact ⟨105, _, by rw [if_pos e1]; rfl, fun _ => rfl, fun h => by omega, fun h => absurd e1 h⟩
 by_cases e2 : a.1 = 2
 ·exact ⟨98, _, by rw [if_neg e1, if_pos e2]; rfl, fun h => by omega, fun _ => rfl, fun _ h => absurd e2 h⟩
 ·exact ⟨111, _, by rw [if_neg e1, if_neg e2]; rfl, fun h => absurd h e1, fun h => absurd h e2, fun _ _ => rfl⟩
theorem uK {id : aJ} {i : Nat} {a : Action} : nm id i a ≠ aS := by
 obtain ⟨c, r, h, h1, h2, h3⟩ := aCM (id := id) (i := i) (a := a);intro e;rw [h] at e;have ec : c = 46 := by injection e
 by_cases e1 : a.1 = 1
 ·rw [h1 e1] at ec; cases ec
 by_cases e2 : a.1 = 2
 ·rw [h2 e2] at ec; cases ec
 ·rw [h3 e1 e2] at ec; cases ec
end Go.Box
end
section
namespace Go.Proofs
open Go Go.SL Go.Syn Go.Box
def pV (es : List Ent) (seen : List Nat) : Nat := (es.filter fun e => !seen.contains e.2.2).length
theorem sK {es : List Ent} {seen : List Nat} {e : Ent} (he : e ∈ es) (hn : e.2.2 ∉ seen) : pV es (seen ++ [e.2.2]) < pV es seen := by
 have hs : (es.filter fun e' => !(seen ++ [e.2.2]).contains e'.2.2).Sublist (es.filter fun e' => !seen.contains e'.2.2) := by
  have : (es.filter fun e' => !(seen ++ [e.2.2]).contains e'.2.2) = (es.filter fun e' => !seen.contains e'.2.2).filter fun e' => !(seen ++ [e.2.2]).contains e'.2.2 := by
   rw [List.filter_filter]
   congr 1; funext e'
   simp only [List.contains_eq_mem, List.mem_append, List.mem_singleton]
   by_cases h1 : e'.2.2 ∈ seen <;> simp [h1]
  rw [this]; exact List.filter_sublist
 rcases Nat.lt_or_ge (pV es (seen ++ [e.2.2])) (pV es seen) with h | h
 ·exact h
 ·have e1 := hs.eq_of_length_le h;have : e ∈ es.filter fun e' => !(seen ++ [e.2.2]).contains e'.2.2 := by rw [e1]; exact List.mem_filter.2 ⟨he, by simpa using hn⟩
  have := (List.mem_filter.1 this).2;simp at this
structure PartOk (es : List Ent) (seen : List Nat) (es2 : List Ent) (c2 : Nat) : Prop where
 fresh : Fresh es2 c2
 nd : (es2.map (·.1)).Nodup
 get : ∀ n, mget es2 n = ((es.find? fun e => decide (n = e.1)).bind fun e => if e.2.2 ∈ seen then some e.2.1 else none)
theorem PartOk.nil {es : List Ent} : PartOk es [] [] 0 := ⟨Fresh.nil, List.nodup_nil, fun n => by cases h : es.find? fun e => decide (n = e.1) <;> simp [mget, h]⟩
theorem lQ {es : List Ent} {e : Ent} (nd : (es.map (·.1)).Nodup) (he : e ∈ es) : (es.find? fun e' => decide (e.1 = e'.1)) = some e := by
 induction es with
 | nil => cases he
 | cons a r ih =>
  have nd' := List.nodup_cons.1 nd;rcases List.mem_cons.1 he with rfl | h
  ·simp
  ·have : ¬ e.1 = a.1 := fun h2 => nd'.1 (by have := List.mem_map_of_mem (f := fun x : Ent => x.1) h; rw [h2] at this; exact this)
   rw [List.find?_cons_of_neg (by simpa using this)];exact ih nd'.2 h
theorem PartOk.step {es : List Ent} {seen : List Nat} {es2 : List Ent} {c2 : Nat} {e : Ent} (nd : (es.map (·.1)).Nodup) (ndb : (es.map (·.2.2)).Nodup) (h : PartOk es seen es2 c2) (he : e ∈ es) : PartOk es (seen ++ [e.2.2]) (mset e.1 e.2.1 c2 es2) (jJ es2 e.1 c2) := by
 refine ⟨h.fresh.set, sH h.nd, fun n => ?_⟩
 rw [mM]
 by_cases hn : n = e.1
 ·subst hn; rw [if_pos rfl, lQ nd he]; simp
 ·rw [if_neg hn, h.get];cases hf : es.find? fun e' => decide (n = e'.1) with
  | none => rfl
  | some e' =>
   have hm := List.mem_of_find?_eq_some hf;have hk : n = e'.1 := by simpa using List.find?_some hf
   have hb : e'.2.2 ≠ e.2.2 := fun hb => by
    have : e' = e := by
     have key : ∀ (l : List Ent), (l.map (·.2.2)).Nodup → e' ∈ l → e ∈ l → e' = e := by
      intro l;induction l with
      | nil => intro _ h; cases h
      | cons a r ih =>
       intro nd h1 h2;have nd' := List.nodup_cons.1 nd;rcases List.mem_cons.1 h1 with e1 | g1 <;> rcases List.mem_cons.1 h2 with e2 | g2
       ·exact e1.trans e2.symm
       ·exact absurd (by have := List.mem_map_of_mem (f := fun e : Ent => e.2.2) g2; rw [← hb, e1] at this; exact this) nd'.1
       ·exact absurd (by have := List.mem_map_of_mem (f := fun e : Ent => e.2.2) g1; rw [hb, e2] at this; exact this) nd'.1
       ·exact ih nd'.2 g1 g2
     exact key es ndb hm he
    exact hn (by rw [hk, this])
   simp [hb]
theorem PartOk.full {K : Hl} {es : List Ent} {c : Nat} {seen : List Nat} {es2 : List Ent} {c2 : Nat} {f : DMap} (hm : MapOk K es c f) (h : PartOk es seen es2 c2) (hall : ∀ e ∈ es, e.2.2 ∈ seen) : MapOk K es2 c2 f := by
 have hg : ∀ n, mget es2 n = mget es n := fun n => by
  rw [h.get];cases hf : es.find? fun e => decide (n = e.1) with
  | none => simp [mget, hf]
  | some e => simp [mget, hf, hall e (List.mem_of_find?_eq_some hf)]
 exact ⟨h.fresh, h.nd, fun n v e => hm.has n v (by rw [← hg]; exact e), fun n e => hm.lacks n (by rw [← hg]; exact e)⟩
theorem aA8 (b m1 : Nat) (es1 : List Ent) (c1 : Nat) (nv pv : Value) (l f : Int) (dn : Bool) (dur : DMap) (K : Hl) (hm1 : MapOk K es1 c1 dur) : Sp Tryz.prog 77 [ptr b] K [pt b (dskO (.map (some m1)) nv pv l f dn), pt m1 (mapO es1 c1)]
  (Ret fun r K' L' => r = .tuple #[] ∧ K' = K ∧ L' = [dsk K' b ⟨dur, dur, [], l, f, false⟩]) := by
 refine bE Tryz.func77 rfl Tryz.ntmps77 rfl rfl fun F w => ?_
 refine aG (aC ?_);refine aA (aB rfl) rfl ?_;refine ol_s p6 rfl ?_;rintro _ K _ ⟨b5, rfl, rfl, rfl⟩ -;refine aA b0 rfl ?_;refine aA (aH (o' := 1) fI rfl rfl) rfl ?_;refine cQ (bT f5 rfl rfl dM bI (.succ .zero) rfl) ?_;rintro _ K _ ⟨rfl, rfl⟩ -;refine aF (aE ?_);refine aG (aG ?_);refine aC ?_;refine aA (aB rfl) rfl ?_;refine aA b0 rfl ?_;refine aA (aH (o' := 0) fH rfl rfl) rfl ?_;refine aA (aM f5 rfl aN rfl) rfl ?_;refine ol_s (oX Tryz.underlying107 rfl aN) rfl ?_;rintro _ K _ ⟨b12, rfl, rfl, rfl⟩ -;refine aF (aE ?_);refine a7 ?_;refine wB (.cons .here (.cons (.there .here) (.cons .here (.cons .here .nil)))) ?_;refine g0 (fun (seen : List Nat) (es3 : List Ent) (c3 : Nat) => PartOk es1 seen es3 c3) (fun _ _ _ => [(0, ptr b), (12, ptr b12)]) (fun _ _ _ => K) (fun seen es3 c3 => [mit b12 m1 c1 seen c1, pt b (dskO (.map (some m1)) (.map (some b5)) pv l f dn), pt b5 (mapO es3 c3), pt m1 (mapO es1 c1)]) (fun seen _ _ => pV es1 seen) [] [] 0 PartOk.nil (.cons 0 rfl (.cons 12 rfl .nil)) rfl (fun _ h => h) ?_;intro seen es3 c3 hpo;refine aG (aC ?_);refine ol_s (p8 (m := m1) rfl aN hm1.fresh (fun _ => bI)) rfl ?_;rintro _ K _ ⟨rfl, hN13⟩ -;rcases hN13 with ⟨rfl, rfl, hall⟩ | ⟨e, he, hne, rfl, rfl⟩
 ·
  refine aA (aQ rfl rfl) rfl ?_;refine aF (aE ?_);refine aG ?_;refine bL rfl ?_;refine cK ?_;refine aP ?_;refine aP ?_;refine bB ?_;refine aE (aG ?_);refine aC ?_;refine aA (aB rfl) rfl ?_;refine aA b0 rfl ?_;refine aA (aH (o' := 2) eB rfl rfl) rfl ?_;refine cQ (bT j9 rfl rfl dM bI (.succ (.succ .zero)) rfl) ?_;rintro _ K _ ⟨rfl, rfl⟩ -;refine aF (aE ?_);refine aC ?_;refine aA (aB rfl) rfl ?_;refine aA b0 rfl ?_;refine aA (aH (o' := 5) eK rfl rfl) rfl ?_;refine cQ (bT ts4 rfl rfl dM bI (.succ (.succ (.succ (.succ (.succ .zero))))) rfl) ?_;rintro _ K _ ⟨rfl, rfl⟩ -;refine aF ?_;refine eY (dZ opEl) ?_;refine bF (.cons (.there (.there .here)) (.cons (.there (.there (.there .here))) (.cons (.there (.there .here)) (.cons .here .nil)))) ?_;refine eY (fG (s := ⟨dur, dur, [], l, f, false⟩) ⟨m1, b5, es1, c1, es3, c3, _, hm1, hpo.full hm1 hall, (fun o h => by cases h), rfl, rfl⟩) ?_;refine k4 rfl (Hl.le_refl _) ?_;exact ⟨_, rfl, rfl, rfl, rfl⟩
 ·
  refine aA (aQ rfl rfl) rfl ?_;refine aF (aE ?_);refine aG ?_;refine dH rfl ?_;refine aX ?_;refine aE (a7 ?_);refine aG (aC ?_);refine aA (m8 (m := m1) rfl aN hm1.fresh he (by first | exact .here | exact .there .here | exact .there (.there .here) | exact .there (.there (.there .here)) | exact .there (.there (.there (.there .here))) | exact .there (.there (.there (.there (.there .here)))))) rfl ?_;refine aA (aQ rfl rfl) rfl ?_;refine aA (aQ rfl rfl) rfl ?_;refine aA (aD rfl) rfl ?_;refine aA (aD rfl) rfl ?_;refine aF (aE ?_);refine aC ?_;refine aA (aB rfl) rfl ?_;refine aA b0 rfl ?_;refine aA (aH (o' := 1) fI rfl rfl) rfl ?_;refine aA (aM f5 rfl aN rfl) rfl ?_;refine aA (aB rfl) rfl ?_;refine aA (aB rfl) rfl ?_;refine cQ (aAS Tryz.underlying107 Tryz.underlying9 rfl rfl rfl bI) ?_;rintro _ K _ ⟨rfl, rfl⟩ -;refine aF (aU ?_);exact fL (seen ++ [e.2.2]) _ _ (hpo.step hm1.nd hm1.fresh.nd he) (sK he hne) (.cons 0 rfl (.cons 12 rfl .nil)) rfl (fun _ h => h)
end Go.Proofs
end
section
namespace Go.Proofs
open Go Go.SL Go.Syn Go.Box
def cX (f : DMap) (ys : List cJ) : Prop := (∀ n d, (n, d) ∈ ys ↔ f n = some d) ∧ ys.Pairwise fun a b => a.1 < b.1
def lH (K : Hl) (es : List Ent) (seen : List Nat) (xs : List cJ) : Prop := (xs.map (·.1)).Nodup ∧ ∀ n d, (n, d) ∈ xs ↔ ∃ e ∈ es, e.2.2 ∈ seen ∧ e.1 = n ∧ jO K e.2.1 d
def eC (xs : List cJ) (f : DMap) : DMap := xs.foldl (fun f x => f.put x.1 x.2) f
theorem aEI (v : Value) (xs : List cJ) (K : Hl) (hv : Ksl aV K v xs) (hn : xs.length ≤ 1000000) : Sp Tryz.prog 45 [v] K []
  (Ret fun r K' L' => ∃ b, r = ptr b ∧ L' = [dsk K' b ⟨eC xs (fun _ => none), eC xs (fun _ => none), [], -1, -1, false⟩]) := by
 refine bE Tryz.func45 rfl Tryz.ntmps45 rfl rfl fun F w => ?_
 refine aG (aC ?_);refine aA (aD rfl) rfl ?_;refine aF (aE ?_);refine aG (aC ?_);refine ol_s p6 rfl ?_;rintro _ K _ ⟨b7, rfl, rfl, rfl⟩ -;refine aA (eN aFU aEX (.cons rfl rfl rfl (.cons .nil) (.cons rfl rfl rfl (.skip (.skip (.skip (.cons .nil)))) (.cons rfl rfl rfl (.skip (.skip (.skip (.skip (.cons .nil))))) .nil)))) rfl ?_;refine ol_s (gO rfl rfl) rfl ?_;rintro _ K _ ⟨b9, rfl, rfl, rfl⟩ -;refine aA (aD rfl) rfl ?_;refine aF (aE ?_);refine aG (aG ?_);refine aC ?_;refine aA (aB rfl) rfl ?_;refine aA (bM (k := aV) rfl Tryz.underlying62 rfl (.known hv)) rfl ?_;refine aA (aB rfl) rfl ?_;refine aF (aE ?_);refine a7 ?_;refine l6 (fun (i : Nat) (K2 : Hl) (es : List Ent) (c : Nat) => i ≤ xs.length ∧ K.le K2 ∧ MapOk K2 es c (eC (xs.take i) (fun _ => none))) (fun i _ _ _ => [(3, ptr b9), (10, v), (11, i64 xs.length), (12, i64 i)]) (fun _ K2 _ _ => K2) (fun _ _ es c => [pt b9 (dskO (.map (some b7)) (.map none) (.slice none 0 0) (-1) (-1) false), pt b7 (mapO es c)]) (fun i _ _ _ => xs.length - i) 0 K [] 0 ⟨Nat.zero_le _, Hl.le_refl _, MapOk.nil⟩ (.cons 3 rfl (.cons 10 rfl (.cons 11 rfl (.cons 12 rfl .nil)))) rfl (fun _ h => h) ?_;intro i K2 es c ⟨hi, leL, hmi⟩;refine aG (aC ?_);refine aA (cZ rfl rfl) rfl ?_;refine aF (aE ?_);refine aG ?_;refine bJ 13 rfl (fun h13 => ?_) (fun h13 => ?_)
 ·
  have hlt : i < xs.length := by omega
  obtain ⟨o, hx⟩ : ∃ o, xs[i]? = some o := ⟨xs[i]'hlt, List.getElem?_eq_getElem hlt⟩;have hv2 := hv.mono leL;refine aX ?_;refine aE (aG ?_);refine a7 (aG ?_);refine aC ?_;refine aA (bD (k := aV) cD rfl (.known hv2) rfl rfl (by first | assumption | omega)) rfl ?_;refine aA (cI (n := 0) (k := aV) eG rfl (.known hv2) dF) rfl ?_;refine ol_s (dI tz66) rfl ?_;rintro _ K _ ⟨b5, rfl, rfl, rfl⟩ -;refine cQ (cS eG rfl rfl rfl bI (by first | (simp [Value.oneCell']; done) | exact fun c hc => El.one _ _ c hc) (.cons (.cons .nil)) (by intro j hj; simp)) ?_;rintro _ K _ ⟨rfl, rfl⟩ -;refine aF (aE ?_);refine aG (aC ?_);refine aA (aH (o' := 1) iK rfl rfl) rfl ?_;refine aA (aM ts9 rfl aN rfl) rfl ?_;refine ol_s (dI tz9) rfl ?_;rintro _ K _ ⟨b6, rfl, rfl, rfl⟩ -;refine cQ (bT ts9 rfl rfl dM bI .zero rfl) ?_;rintro _ K _ ⟨rfl, rfl⟩ -;refine aF (aE ?_);refine gQ fun K3 le3 hb6 => ?_
  refine cT (anc := [0, 1, 3, 7, 0, 16, 63]) (ord := [0, 1, 2, 3, 4, 5, 6]) [6] [6] mixed (by decide +kernel) (dJ _) ?_;refine aK rfl rfl (.none rfl) rfl rfl (aB rfl) rfl ?_;refine aK rfl rfl (.none rfl) rfl rfl b0 rfl ?_;refine aK rfl rfl (.none rfl) rfl rfl (aH (o' := 0) fH rfl rfl) rfl ?_;refine aK rfl rfl (.none rfl) rfl rfl (aM f5 rfl aN rfl) rfl ?_;refine aK rfl rfl (.none rfl) rfl rfl (aH (o' := 0) fA rfl rfl) rfl ?_;refine aK rfl rfl (.none rfl) rfl rfl (aM ts9 rfl aN rfl) rfl ?_;refine iD rfl rfl (.none rfl) rfl (aAS Tryz.underlying107 Tryz.underlying9 rfl rfl rfl bI) ?_;rintro _ K _ ⟨rfl, rfl⟩ -;refine cO ?_;refine aU (aE ?_);refine aC ?_;refine aA (bY rfl rfl aI aI) rfl ?_;refine aA (aB rfl) rfl ?_;refine aF ?_;refine bF (.cons (.there .here) (.cons (.there .here) .nil)) ?_;exact d8 (i + 1) _ _ _ ⟨hlt, Hl.le_trans leL le3, by rw [List.take_succ_eq_append_getElem hlt]; rw [List.getElem?_eq_getElem hlt] at hx; cases hx; unfold eC; rw [List.foldl_append]; exact (hmi.mono le3).put ⟨_, _, _, rfl, hb6⟩⟩ aI (.cons 3 rfl (.cons 10 rfl (.cons 11 rfl (.cons 12 rfl .nil)))) rfl (fun _ h => h)
 ·
  have hie : i = xs.length := by omega
  subst hie;rw [List.take_length] at hmi;refine cK ?_;refine aP ?_;refine aP ?_;refine bB ?_;refine aE (aG ?_);refine aC ?_;refine aA (aB rfl) rfl ?_;refine bH rfl rfl (aA8 b9 b7 es c _ _ (-1) (-1) false _ _ hmi) (.cons .here (.cons .here .nil)) rfl ?_;rintro _ K5 _ ⟨rfl, rfl, rfl⟩ -;refine aF (aE ?_);refine aG (aC ?_);refine aA (aB rfl) rfl ?_;refine aA (aD rfl) rfl ?_;refine aF (aE ?_);refine a8 ?_;refine bF (.cons .here .nil) ?_;refine bA rfl rfl leL ?_;exact ⟨_, rfl, b9, rfl, rfl⟩
end Go.Proofs
end
section
namespace Go.Proofs
open Go Go.SL Go.Syn Go.Box
theorem lV {α : Type} [DecidableEq α] : ∀ {l ns : List α}, l.Nodup → (∀ x ∈ l, x ∈ ns) → l.length ≤ ns.length
 | [], _, _, _ => Nat.zero_le _
 | a :: r, ns, nd, h => by
  have nd' := List.nodup_cons.1 nd;have ha := h a List.mem_cons_self;have := lV (ns := ns.erase a) nd'.2 fun x hx => (List.mem_erase_of_ne (fun e : x = a => nd'.1 (by rw [← e]; exact hx))).2 (h x (List.mem_cons_of_mem _ hx))
  rw [List.length_erase_of_mem ha] at this;have := List.length_pos_of_mem ha;simp only [List.length_cons]; omega
def lG (f : DMap) (ns : List aJ) : Prop := ∀ n, (f n).isSome = true → n ∈ ns
theorem aCD {K : Hl} {es : List Ent} {c : Nat} {f : DMap} {ns : List aJ} (hm : MapOk K es c f) (hd : lG f ns) : es.length ≤ ns.length := by
 have := lV (ns := ns) hm.nd fun x hx => hd x (by rw [← hm.isSome x]; exact (jX es).2 hx)
 simpa using this
theorem sV {K : Hl} {es : List Ent} {seen : List Nat} {xs : List cJ} (h : lH K es seen xs) : xs.length ≤ es.length := by
 have := lV (ns := es.map (·.1)) h.1 fun x hx => by
  obtain ⟨⟨n, d⟩, hm, rfl⟩ := List.mem_map.1 hx;obtain ⟨e, he, _, rfl, _⟩ := (h.2 n d).1 hm;exact List.mem_map_of_mem (f := fun e : Ent => e.1) he
 simpa using this
theorem jO.one {K : Hl} {v : Value} {d d' : aJ} (h : jO K v d) (h' : jO K v d') : d = d' := by
 obtain ⟨b, T, fz, rfl, hb⟩ := h;obtain ⟨b', T', fz', e, hb'⟩ := h';have : b = b' := by injection e with e; injection e with e; injection e
 subst this;rw [hb] at hb'
 injection hb' with e2; injection e2 with e3 e4 e5
 have := congrArg Array.toList e3;simp at this;exact this
theorem jY {es : List Ent} {e : Ent} (nd : (es.map (·.1)).Nodup) (he : e ∈ es) : mget es e.1 = some e.2.1 := by
 unfold mget; rw [lQ nd he]; rfl
theorem lH.nil {K : Hl} {es : List Ent} : lH K es [] [] := ⟨List.nodup_nil, fun n d => by simp⟩
theorem lH.step {K : Hl} {es : List Ent} {c : Nat} {f : DMap} {seen : List Nat} {xs : List cJ} {e : Ent} {d : aJ} (hm : MapOk K es c f) (h : lH K es seen xs) (he : e ∈ es) (hn : e.2.2 ∉ seen) (hd : jO K e.2.1 d) : lH K es (seen ++ [e.2.2]) (xs ++ [(e.1, d)]) := by
 have hnew : e.1 ∉ xs.map (·.1) := by
  intro hx;obtain ⟨⟨n, d'⟩, hmm, e1⟩ := List.mem_map.1 hx;obtain ⟨e', he', hs', hn', _⟩ := (h.2 n d').1 hmm;have e1' : n = e.1 := e1;have : e' = e := by
   have a := lQ hm.nd he; have b := lQ hm.nd he'
   rw [hn', e1'] at b; rw [a] at b; injection b with b; exact b.symm
  exact hn (this ▸ hs')
 refine ⟨?_, fun n d' => ?_⟩
 ·rw [List.map_append, List.nodup_append];refine ⟨h.1, by simp, fun a ha b hb => ?_⟩
  rintro rfl;simp at hb; subst hb; exact hnew ha
 ·rw [List.mem_append, h.2]
  constructor
  ·rintro (⟨e', he', hs', hn', hd'⟩ | hq)
   ·exact ⟨e', he', List.mem_append_left _ hs', hn', hd'⟩
   ·rw [List.mem_singleton] at hq; cases hq
    exact ⟨e, he, List.mem_append_right _ (List.mem_singleton.2 rfl), rfl, hd⟩
  ·rintro ⟨e', he', hs', hn', hd'⟩;rcases List.mem_append.1 hs' with hs' | hs'
   ·exact .inl ⟨e', he', hs', hn', hd'⟩
   ·rw [List.mem_singleton] at hs';have : e' = e := by
     have key : ∀ (l : List Ent), (l.map (·.2.2)).Nodup → e' ∈ l → e ∈ l → e' = e := by
      intro l;induction l with
      | nil => intro _ h; cases h
      | cons a r ih =>
       intro nd h1 h2;have nd' := List.nodup_cons.1 nd;rcases List.mem_cons.1 h1 with e1 | g1 <;> rcases List.mem_cons.1 h2 with e2 | g2
       ·exact e1.trans e2.symm
       ·exact absurd (by have := List.mem_map_of_mem (f := fun e : Ent => e.2.2) g2; rw [← hs', e1] at this; exact this) nd'.1
       ·exact absurd (by have := List.mem_map_of_mem (f := fun e : Ent => e.2.2) g1; rw [hs', e2] at this; exact this) nd'.1
       ·exact ih nd'.2 g1 g2
     exact key es hm.fresh.nd he' he
    subst this;rw [← hn', hd'.one hd];exact .inr (List.mem_singleton.2 rfl)
theorem uA {K : Hl} {es : List Ent} {c : Nat} {f : DMap} {seen : List Nat} {xs ys : List cJ} (hm : MapOk K es c f) (h : lH K es seen xs) (hall : ∀ e ∈ es, e.2.2 ∈ seen) (hp : ys.Perm xs) (ho : kD ys) : cX f ys := by
 refine ⟨fun n d => ?_, ?_⟩
 ·rw [hp.mem_iff, h.2]
  constructor
  ·rintro ⟨e, he, _, rfl, hd⟩;obtain ⟨d', h1, h2⟩ := hm.has _ _ (jY hm.nd he);rw [h1, hd.one h2]
  ·intro hf;cases hg : mget es n with
   | none => rw [hm.lacks n hg] at hf; cases hf
   | some v =>
    obtain ⟨d', h1, h2⟩ := hm.has _ _ hg;have hk := (jX (k := n) es).1 (by rw [hg]; rfl);obtain ⟨e, he, rfl⟩ := List.mem_map.1 hk;rw [jY hm.nd he] at hg; cases hg
    rw [h1] at hf; cases hf
    exact ⟨e, he, hall e he, rfl, h2⟩
 ·have nd : (ys.map (·.1)).Nodup := (hp.map _).nodup_iff.2 h.1;rw [List.Nodup, List.pairwise_map] at nd;refine (ho.and nd).imp ?_;rintro a b ⟨h1, h2⟩;rcases List.le_iff_lt_or_eq.1 (List.not_lt.1 h1) with h | h
  ·exact h
  ·exact absurd h h2
theorem zP (b : Nat) (s : DSt) (ns : List aJ) (hdom : lG s.dur ns) (hns : ns.length ≤ 1000000) (K K0 : Hl) (le : K0.le K) : Sp Tryz.prog 49 [ptr b] K [dsk K0 b s]
  (Ret fun r K' L' => K' = K ∧ ∃ ys, cX s.dur ys ∧ L' = [sl false aV r ys, dsk K' b s]) := by
 refine o1 ⟨_, Tryz.func49, rfl, rfl⟩ fun L hd => ?_
 rw [List.append_nil];obtain ⟨m1, m2, es1, c1, es2, c2, pv, hm1, hm2, hop, hpv, rfl⟩ := hd;obtain ⟨dur, now, pend, l, f, dn⟩ := s;simp only at hm1 hm2 hop hdom;have hm1' := hm1.mono le;have hkl := aCD hm1 hdom;refine bE Tryz.func49 rfl Tryz.ntmps49 rfl rfl fun F w => ?_
 refine aG (aC ?_);refine aA (aD rfl) rfl ?_;refine aF (aE ?_);refine aG (aC ?_);refine ol_s (dI tz62) rfl ?_;rintro _ K _ ⟨b3, rfl, rfl, rfl⟩ -;refine aF (aE ?_);refine aG (aG ?_);refine aC ?_;refine aA (aB rfl) rfl ?_;refine aA b0 rfl ?_;refine aA (aH (o' := 0) fH rfl rfl) rfl ?_;refine aA (aM f5 rfl aN rfl) rfl ?_;refine ol_s (oX Tryz.underlying107 rfl aN) rfl ?_;rintro _ K _ ⟨b10, rfl, rfl, rfl⟩ -;refine aF (aE ?_);refine a7 ?_;refine fQ (dZ aV) ?_;refine wB (.cons (.there .here) (.cons (.there .here) (.cons .here (.cons .here (.cons .here (.cons .here (.cons .here .nil))))))) ?_;refine g0 (fun (seen : List Nat) (xs : List cJ) (v : Value) => lH K es1 seen xs ∧ v.oneCell' = true) (fun _ _ _ => [(0, ptr b), (3, ptr b3), (10, ptr b10)]) (fun _ _ _ => K) (fun seen xs v => [mit b10 m1 c1 seen c1, pt b3 (aW [v] 62), sl false aV v xs, pt b (dskO (.map (some m1)) (.map (some m2)) pv l f dn), pt m1 (mapO es1 c1), pt m2 (mapO es2 c2), sl false opEl pv pend]) (fun seen _ _ => pV es1 seen) [] [] (.slice none 0 0) ⟨lH.nil, rfl⟩ (.cons 0 rfl (.cons 3 rfl (.cons 10 rfl .nil))) rfl (fun _ h => h) ?_;intro seen xs v ⟨hpo, hv1⟩;refine aG (aC ?_);refine ol_s (p8 (m := m1) rfl aN hm1.fresh (fun _ => bI)) rfl ?_;rintro _ K _ ⟨rfl, hN11⟩ -;rcases hN11 with ⟨rfl, rfl, hall⟩ | ⟨e, he, hne, rfl, rfl⟩
 ·
  refine aA (aQ rfl rfl) rfl ?_;refine aF (aE ?_);refine aG ?_;refine bL rfl ?_;refine cK ?_;refine aP ?_;refine aP ?_;refine bB ?_;refine aE (aG ?_);refine aC ?_;refine aA (aM ts62 rfl aN rfl) rfl ?_;refine aA (cF Tryz.underlying62 (fun _ h => by cases h) rfl) rfl ?_;refine aA (d6 rfl rfl) rfl ?_;refine bH rfl rfl (aCU b3 false v xs (by have := sV hpo; omega) _) (.cons (.there .here) (.cons (.there .here) .nil)) rfl ?_;rintro _ K6 _ ⟨rfl, rfl, ys, hperm, hord, rfl⟩ -;refine aF (aE ?_);refine aG (aC ?_);refine aA (aM ts62 rfl aN rfl) rfl ?_;refine aA (aD rfl) rfl ?_;refine aF (aE ?_);refine a8 ?_;refine bF (.cons (.there .here) (.cons (.there (.there .here)) (.cons (.there (.there .here)) (.cons (.there (.there .here)) (.cons (.there (.there .here)) .nil))))) ?_;refine eY (fun _ => eJ (fG (s := ⟨dur, now, pend, l, f, dn⟩) ⟨m1, m2, es1, c1, es2, c2, pv, hm1', hm2.mono le, hop, hpv, rfl⟩)) ?_;refine bA rfl rfl (Hl.le_refl _) ?_;exact ⟨_, rfl, rfl, ys, uA hm1' hpo hall hperm hord, rfl⟩
 ·
  obtain ⟨d, hfd, sb, sT, sfz, hde, hdb⟩ := hm1'.has _ _ (jY hm1.nd he);have hxl := sV hpo;refine aA (aQ rfl rfl) rfl ?_;refine aF (aE ?_);refine aG ?_;refine dH rfl ?_;refine aX ?_;refine aE (a7 ?_);refine aG (aC ?_);refine aA (m8 (m := m1) rfl aN hm1.fresh he (by first | exact .here | exact .there .here | exact .there (.there .here) | exact .there (.there (.there .here)) | exact .there (.there (.there (.there .here))) | exact .there (.there (.there (.there (.there .here)))))) rfl ?_;refine aA (aQ rfl rfl) rfl ?_;refine aA (aQ (v := ptr sb) rfl (by simp [hde])) rfl ?_;refine aA (aD rfl) rfl ?_;refine aA (aD rfl) rfl ?_;refine aF (aE ?_);refine cT (anc := [0, 0, 0, 4, 12, 30, 62, 127, 255]) (ord := [0, 1, 2, 3, 4, 5, 6, 7, 8]) [6, 7, 8] [7, 8] mixed (by decide +kernel) (.cons (.there .here) .nil) ?_;refine aK rfl rfl (.none rfl) rfl rfl (aM ts62 rfl aN rfl) rfl ?_;refine aK rfl rfl (.none rfl) rfl rfl (aB rfl) rfl ?_;refine aK rfl rfl (.none rfl) rfl rfl (aB rfl) rfl ?_;refine aK rfl rfl (.none rfl) rfl rfl b0 rfl ?_;refine aK rfl rfl (.none rfl) rfl rfl (aM ts9 rfl (.known hdb) rfl) rfl ?_;refine aK rfl rfl (.none rfl) rfl rfl (eN tb66 o3 (.cons rfl rfl rfl (.cons .nil) (.cons rfl rfl rfl (.skip (.cons .nil)) .nil))) rfl ?_;refine dl_s rfl rfl (.none rfl) rfl rfl (cL (z0 := [(str []), (str [])]) cD tz66 rfl rfl rfl rfl (.cons rfl rfl rfl (.cons (.cons .nil)) .nil)) rfl ?_;rintro _ K _ ⟨b22, rfl, rfl, rfl⟩ -;refine ⟨_, (show Tks _ _ _ from (.cons (.there .here) .nil)).sat, ?_⟩
  refine dl_g rfl rfl (.none rfl) rfl (dO (k := aV) (ys := [((e.1, d) : cJ)]) c6 rfl rfl (.there (.there (.there .here))) (fun w j => dE Tryz.underlying62 (SeesSl.at (k := aV) (.blk (.own (.there .here)) rfl rfl) j)) (by show (xs.length + 1) * 32 ≤ 140737488355328; omega) (by show xs.length + 1 ≤ 9223372036854775807; omega)) rfl ?_;rintro v23 K _ ⟨rfl, rfl, ho23⟩ -;refine iD rfl rfl (.none rfl) rfl (bT ts62 rfl rfl dM bI .zero rfl) ?_;rintro _ K _ ⟨rfl, rfl⟩ -;refine cO ?_;refine aU ?_;refine bF (.cons (.there (.there (.there .here))) (.cons (.there .here) (.cons .here (.cons (.there .here) (.cons (.there .here) (.cons (.there .here) (.cons (.there .here) .nil))))))) ?_;exact fL (seen ++ [e.2.2]) _ _ ⟨hpo.step hm1' he hne ⟨_, _, _, hde, hdb⟩, ho23⟩ (sK he hne) (.cons 0 rfl (.cons 3 rfl (.cons 10 rfl .nil))) rfl (fun _ h => h)
end Go.Proofs
end
section
namespace Go.Box
open Go.Syn Go.Proofs Go.SL
structure Up (k : Nat) (s : DSt) : Prop where
 down : s.down = false
 l1 : s.left < 0
 l2 : -1 - (k : Int) ≤ s.left
 f1 : s.full < 0
 f2 : -1 - (k : Int) ≤ s.full
def DSt.dec (s : DSt) : DSt := { s with left := s.left - 1, full := s.full - 1 }
theorem Up.more {k j : Nat} {s : DSt} (h : Up k s) (hj : k ≤ j) : Up j s := ⟨h.down, h.l1, by have := h.l2; omega, h.f1, by have := h.f2; omega⟩
theorem Up.dec {k : Nat} {s : DSt} (h : Up k s) : Up (k + 1) s.dec := ⟨h.down, by have := h.l1; simp only [DSt.dec]; omega, by have := h.l2; simp only [DSt.dec]; omega, by have := h.f1; simp only [DSt.dec]; omega, by have := h.f2; simp only [DSt.dec]; omega⟩
theorem Up.told {k : Nat} {s : DSt} (h : Up k s) (o : OpR) : Up k (s.told o) := ⟨h.down, h.l1, h.l2, h.f1, h.f2⟩
theorem Up.flush {k : Nat} {s : DSt} (h : Up k s) : Up k s.flush := ⟨h.down, h.l1, h.l2, h.f1, h.f2⟩
theorem iP {k : Nat} {s : DSt} (h : Up k s) (hk : k ≤ 1000000) : cN s.left s.full s.down = (none, s.left - 1, s.full - 1, false) := by
 have := h.l1; have := h.l2; have := h.f1; have := h.f2
 unfold cN;rw [if_neg (by rw [h.down]; simp; omega), if_neg aI, kC aI aI, kC aI aI]
theorem n5 {k : Nat} {s : DSt} (h : Up k s) : ({ s with left := s.left - 1, full := s.full - 1, down := false } : DSt) = s.dec := by
 have := h.down; cases s; simp_all [DSt.dec]
theorem l8 {k : Nat} {s : DSt} (h : Up k s) (hk : k ≤ 1000000) (n d : aJ) : cH n d s = (none, s.dec.told ⟨1, n, [], d⟩) := by
 have ht : cU ⟨1, n, [], d⟩ s = (none, s.dec.told ⟨1, n, [], d⟩) := by
  rw [l7 (iP h hk) (by simp), n5 h]
 unfold cH; rw [ht]; rfl
theorem xW {k : Nat} {s : DSt} (h : Up k s) (hk : k ≤ 1000000) {n d : aJ} (hn : s.now n = some d) : cB n s = (none, s.dec.told ⟨3, n, [], []⟩) := by
 unfold cB; rw [l7 (iP h hk) (by simp [hn]), n5 h]
theorem l4 {k : Nat} {s : DSt} (h : Up k s) (hk : k ≤ 1000000) : bQ s = (none, s.dec.flush) := by
 unfold bQ DSt.we DSt.ws;rw [iP h hk, n5 h]; rfl
def Coh (s : DSt) : Prop := s.now = s.pend.foldl doF s.dur
theorem Coh.dec {s : DSt} (h : Coh s) : Coh s.dec := h
theorem Coh.told {s : DSt} (h : Coh s) (o : OpR) : Coh (s.told o) := by
 unfold Coh DSt.told; simp only [List.foldl_append, List.foldl_cons, List.foldl_nil]; rw [← show s.now = _ from h]
theorem Coh.flush {s : DSt} (h : Coh s) : Coh s.flush ∧ s.flush.dur = s.now ∧ s.flush.now = s.now := ⟨h, h.symm, rfl⟩
theorem uY {xs : List File} : ∀ {k : Nat} {s : DSt} (t : List (DSt → Er × DSt)), Up k s → Coh s → k + xs.length ≤ 1000000 → ∃ s', bZ (cV xs ++ t) s = bZ t s' ∧ Up (k + xs.length) s' ∧ Coh s' ∧ s'.now = eC xs s.now := by
 induction xs with
 | nil => intro k s t h hc _; exact ⟨s, rfl, h, hc, rfl⟩
 | cons x r ih =>
  intro k s t h hc hk;simp only [List.length_cons] at hk;have hw := l8 h aI x.1 x.2;obtain ⟨s', h1, h2, h3, h4⟩ := ih (k := k + 1) (s := s.dec.told ⟨1, x.1, [], x.2⟩) t (h.dec.told _) (hc.dec.told _) aI;refine ⟨s', ?_, ?_, h3, ?_⟩
  ·show bZ (cH x.1 x.2 :: (cV r ++ t)) s = _
   simp only [bZ, hw]; exact h1
  ·have e : k + (x :: r).length = k + 1 + r.length := by simp only [List.length_cons]; omega
   rw [e]; exact h2
  ·rw [h4]; rfl
theorem xU {xs : List File} {n : aJ} : ∀ {f : DMap}, (f n).isSome = true → (eC xs f n).isSome = true := by
 induction xs with
 | nil => intro f h; exact h
 | cons x r ih => intro f h; exact ih (f := f.put x.1 x.2) (by unfold DMap.put; split <;> first | rfl | exact h)
def after (xs : List File) (f : DMap) : DMap := (eC xs (f.put aS (c8 xs))).cut aS
theorem tS {xs : List File} {k : Nat} {s : DSt} (h : Up k s) (hc : Coh s) (hk : k + xs.length ≤ 900000) :
  ∃ s', dN xs s = (none, s') ∧ Up (k + xs.length + 5) s' ∧ s'.pend = [] ∧ s'.dur = after xs s.now ∧ s'.now = after xs s.now := by
 have hw := l8 h aI aS (c8 xs);have u1 := h.dec.told ⟨1, aS, [], c8 xs⟩;have c1 := hc.dec.told ⟨1, aS, [], c8 xs⟩;have hs := l4 u1 aI;have u2 := u1.dec.flush;have c2 := c1.dec.flush;obtain ⟨s', h1, h2, h3, h4⟩ := uY (xs := xs) [bQ, cB aS, bQ] u2 c2.1 aI;have hs2 := l4 h2 aI;have u3 := h2.dec.flush;have c3 := h3.dec.flush;obtain ⟨d, hd⟩ : ∃ d, (s'.dec.flush).now aS = some d := by
  have : (eC xs (s.now.put aS (c8 xs)) aS).isSome = true := xU (by unfold DMap.put; rw [if_pos rfl]; rfl);have e : (s'.dec.flush).now = eC xs (s.now.put aS (c8 xs)) := h4;rw [← e] at this;exact Option.isSome_iff_exists.1 this
 have hr := xW u3 aI hd;have u4 := u3.dec.told ⟨3, aS, [], []⟩;have c4 := c3.1.dec.told ⟨3, aS, [], []⟩;have hs3 := l4 u4 aI;have u5 := u4.dec.flush;have c5 := c4.dec.flush;refine ⟨_, ?_, u5.more aI, rfl, ?_, ?_⟩
 ·unfold dN;simp only [bZ, hw, hs];unfold dQ;rw [h1];simp only [bZ, hs2, hr, hs3]
  rfl
 ·rw [c5.2.1]
  show doF (s'.now) ⟨3, aS, [], []⟩ = _
  rw [h4]; rfl
 ·rw [c5.2.2]
  show doF (s'.now) ⟨3, aS, [], []⟩ = _
  rw [h4]; rfl
structure Rest (s : DSt) : Prop where
 down : s.down = false
 pend : s.pend = []
 now : s.now = s.dur
 left : s.left = -1
 full : s.full = -1
theorem Rest.up {s : DSt} (h : Rest s) : Up 0 s := ⟨h.down, by rw [h.left]; omega, by rw [h.left]; omega, by rw [h.full]; omega, by rw [h.full]; omega⟩
theorem Rest.set {s : DSt} (h : Rest s) : s.set (-1) (-1) = s := by have := h.left; have := h.full; cases s; simp_all [DSt.set]
theorem Rest.coh {s : DSt} (h : Rest s) : Coh s := by unfold Coh; rw [h.pend, h.now]; rfl
theorem qA : ∀ {xs ys : List cJ}, (xs.Pairwise fun a b => a.1 < b.1) → (ys.Pairwise fun a b => a.1 < b.1) → (∀ x, x ∈ xs ↔ x ∈ ys) → xs = ys
 | [], [], _, _, _ => rfl
 | [], y :: ys, _, _, h => absurd ((h y).2 List.mem_cons_self) (by simp)
 | x :: xs, [], _, _, h => absurd ((h x).1 List.mem_cons_self) (by simp)
 | x :: xs, y :: ys, hx, hy, h => by
  have hx' := List.pairwise_cons.1 hx;have hy' := List.pairwise_cons.1 hy;have e : x = y := by
   rcases List.mem_cons.1 ((h x).1 List.mem_cons_self) with e | h1
   ·exact e
   ·rcases List.mem_cons.1 ((h y).2 List.mem_cons_self) with e | h2
    ·exact e.symm
    ·exact absurd (List.lt_trans (hx'.1 y h2) (hy'.1 x h1)) (List.lt_irrefl _)
  subst e;have e2 : xs = ys := qA hx'.2 hy'.2 fun z => by
   have hz := h z;simp only [List.mem_cons] at hz
   constructor
   ·intro hm;rcases hz.1 (.inr hm) with rfl | h1
    ·exact absurd (hx'.1 _ hm) (List.lt_irrefl _)
    ·exact h1
   ·intro hm;rcases hz.2 (.inr hm) with rfl | h1
    ·exact absurd (hy'.1 _ hm) (List.lt_irrefl _)
    ·exact h1
  rw [e2]
theorem gI {f : DMap} {xs ys : List cJ} (hx : cX f xs) (hy : cX f ys) : xs = ys := qA hx.2 hy.2 fun ⟨n, d⟩ => (hx.1 n d).trans (hy.1 n d).symm
theorem sX {xs : List File} {n : aJ} : ∀ {f g : DMap}, f n = g n → eC xs f n = eC xs g n := by
 induction xs with
 | nil => intro f g h; exact h
 | cons x r ih => intro f g h; exact ih (f := f.put x.1 x.2) (g := g.put x.1 x.2) (by unfold DMap.put; split <;> first | rfl | exact h)
theorem xT {xs : List File} {n : aJ} : ∀ {f : DMap}, (∃ x ∈ xs, x.1 = n) → ∀ g : DMap, eC xs f n = eC xs g n := by
 induction xs with
 | nil => intro f ⟨x, h, _⟩; cases h
 | cons x r ih =>
  intro f ⟨y, hy, e⟩ g
  by_cases h : ∃ x ∈ r, x.1 = n
  ·exact ih h _
  ·rcases List.mem_cons.1 hy with rfl | hy
   ·exact sX (f := f.put y.1 y.2) (g := g.put y.1 y.2) (by unfold DMap.put; rw [if_pos e.symm, if_pos e.symm])
   ·exact absurd ⟨y, hy, e⟩ h
theorem lW {xs : List File} {n : aJ} : ∀ {f : DMap}, (¬ ∃ x ∈ xs, x.1 = n) → eC xs f n = f n := by
 induction xs with
 | nil => intro f _; rfl
 | cons x r ih =>
  intro f h;have h1 : eC r (f.put x.1 x.2) n = f.put x.1 x.2 n := ih fun ⟨y, hy, e⟩ => h ⟨y, List.mem_cons_of_mem _ hy, e⟩
  show eC r (f.put x.1 x.2) n = f n
  rw [h1];unfold DMap.put;rw [if_neg fun e => h ⟨x, List.mem_cons_self, e.symm⟩]
theorem l9 {xs : List File} {f : DMap} {n : aJ} (hn : n ≠ aS) : after xs f n = eC xs f n := by
 unfold after DMap.cut;rw [if_neg hn];exact sX (by unfold DMap.put; rw [if_neg hn])
theorem gV {xs : List File} {f : DMap} : after xs f aS = none := by unfold after DMap.cut; rw [if_pos rfl]
theorem xE {xs : List File} {f : DMap} {ns : List aJ} (h : lG f ns) : lG (after xs f) (xs.map (·.1) ++ ns) := by
 intro n hn
 by_cases hj : n = aS
 ·subst hj; rw [gV] at hn; cases hn
 ·rw [l9 hj] at hn
  by_cases hx : ∃ x ∈ xs, x.1 = n
  ·obtain ⟨x, hx, rfl⟩ := hx; exact List.mem_append_left _ (List.mem_map_of_mem hx)
  ·rw [lW hx] at hn; exact List.mem_append_right _ (h n hn)
end Go.Box
end
section
namespace Go.Box
open Go.Syn
theorem oI {c : UInt8} : ∀ {a : aJ} (b : aJ), c ∉ a → Lib.index (a ++ c :: b) [c] = (a.length : Int)
 | [], b, _ => by simp [Lib.index]
 | x :: r, b, h => by
  have hx : (c == x) = false := by simp; exact fun e => h (e ▸ List.mem_cons_self)
  have ih := oI (a := r) b fun hr => h (List.mem_cons_of_mem _ hr)
  show Lib.index (x :: (r ++ c :: b)) [c] = _
  rw [Lib.index, if_neg (by simp [List.isPrefixOf, hx]), ih, if_neg (by simp)];simp
theorem nD {c : UInt8} : ∀ {s : aJ}, c ∉ s → Lib.index s [c] = -1
 | [], _ => rfl
 | x :: r, h => by
  have hx : (c == x) = false := by simp; exact fun e => h (e ▸ List.mem_cons_self)
  have ih := nD (s := r) fun hr => h (List.mem_cons_of_mem _ hr)
  rw [Lib.index, if_neg (by simp [List.isPrefixOf, hx]), ih]; rfl
theorem iA {c : UInt8} {a : aJ} (b : aJ) (h : c ∉ a) : Lib.cut (a ++ c :: b) [c] = (a, b, true) := by
 unfold Lib.cut;rw [oI b h, if_pos aI];simp [List.drop_append]
theorem pQ {c : UInt8} {s : aJ} (h : c ∉ s) : Lib.cut s [c] = (s, [], false) := by
 unfold Lib.cut;rw [nD h, if_neg aI]
theorem n4 (c : UInt8) (s : aJ) : (Lib.cut s [c]).2.2 = false ∨ ∃ a b, c ∉ a ∧ s = a ++ c :: b ∧ Lib.cut s [c] = (a, b, true) := by
 by_cases h : c ∈ s
 ·right
  obtain ⟨a, b, e, h2⟩ : ∃ a b, s = a ++ c :: b ∧ c ∉ a := by
   induction s with
   | nil => cases h
   | cons x r ih =>
    by_cases hx : x = c
    ·exact ⟨[], r, by rw [hx]; rfl, by simp⟩
    ·obtain ⟨a, b, e, h2⟩ := ih (by rcases List.mem_cons.1 h with h | h; exact absurd h.symm hx; exact h);exact ⟨x :: a, b, by rw [e]; rfl, by simp [h2]; exact fun e => hx e.symm⟩
  exact ⟨a, b, h2, e, by rw [e]; exact iA b h2⟩
 ·left; rw [pQ h]
theorem qO {k : Nat} (h : k < 10) : (UInt8.ofNat (48 + k)).toNat = 48 + k := by
 rw [UInt8.toNat_ofNat']; omega
theorem vF : ∀ (n : Nat), ∀ c ∈ Lib.decDigits n, 48 ≤ c.toNat ∧ c.toNat ≤ 57 := by
 intro n;induction n using Nat.strongRecOn with
 | _ n ih =>
  intro c hc;rw [Lib.decDigits] at hc;split at hc
  ·rename_i h;rw [List.mem_singleton.1 hc, qO h]; omega
  ·rename_i h;rcases List.mem_append.1 hc with hc | hc
   ·exact ih (n / 10) aI c hc
   ·rw [List.mem_singleton.1 hc, qO aI]; omega
theorem lM (b : UInt8) : ∀ (l : aJ) (acc : Nat), Lib.decFrom acc (l ++ [b]) = (Lib.decFrom acc l).bind fun m => (Lib.digitVal b).map fun d => m * 10 + d
 | [], acc => by
  show Lib.decFrom acc [b] = _
  unfold Lib.decFrom;cases Lib.digitVal b <;> rfl
 | x :: r, acc => by
  show Lib.decFrom acc (x :: (r ++ [b])) = _
  rw [Lib.decFrom, Lib.decFrom];cases Lib.digitVal x with
  | none => rfl
  | some d => exact lM b r _
theorem m7 {k : Nat} (h : k < 10) : Lib.digitVal (UInt8.ofNat (48 + k)) = some k := by
 unfold Lib.digitVal;rw [qO h, if_pos aI]
 congr 1; omega
theorem r0 : ∀ n : Nat, Lib.decFrom 0 (Lib.decDigits n) = some n := by
 intro n;induction n using Nat.strongRecOn with
 | _ n ih =>
  rw [Lib.decDigits];split
  ·rename_i h;rw [Lib.decFrom, m7 h]; simp [Lib.decFrom]
  ·rename_i h;rw [lM, ih (n / 10) aI, m7 aI];simp only [Option.bind_some, Option.map_some]
   congr 1; omega
theorem aDZ (n : Nat) : Lib.decDigits n ≠ [] := by
 rw [Lib.decDigits]; split <;> simp
theorem nU (n : Nat) : Lib.atoi (Lib.itoa (n : Int)) = some (n : Int) := by
 rw [Lib.itoa_nonneg];have hf := r0 n;have hm := vF n;cases hd : Lib.decDigits n with
 | nil => exact absurd hd (aDZ n)
 | cons b r =>
  rw [hd] at hf hm;have hb := hm b List.mem_cons_self;unfold Lib.atoi
  show (if (b == 45) = true then _ else if (b == 43) = true then _ else _) = _
  rw [if_neg (by simp; intro e; rw [e] at hb; simp at hb), if_neg (by simp; intro e; rw [e] at hb; simp at hb)];unfold Lib.decNat;rw [if_neg (by simp), hf]; rfl
theorem vE : ∀ (k n : Nat), n < 10 ^ (k + 1) → (Lib.decDigits n).length ≤ k + 1
 | 0, n, h => by rw [Lib.decDigits, dif_pos (by simpa using h)]; simp
 | k + 1, n, h => by
  rw [Lib.decDigits];split
  ·simp
  ·have := vE k (n / 10) (Nat.div_lt_of_lt_mul (by rw [Nat.mul_comm, ← Nat.pow_succ]; exact h));simp; omega
theorem oK {n : Nat} {c : UInt8} (h : c ∈ Lib.itoa (n : Int)) : 48 ≤ c.toNat ∧ c.toNat ≤ 57 := by rw [Lib.itoa_nonneg] at h; exact vF n c h
theorem zY {a b : Nat} (h : Lib.itoa (a : Int) = Lib.itoa (b : Int)) : a = b := by
 have h1 := nU a;rw [h, nU b] at h1
 injection h1 with h1; omega
theorem oH {k : Nat} (h : k < 16) : 48 ≤ (iZ k).toNat := by
 have : ∀ k : Fin 16, 48 ≤ (iZ k.1).toNat := by decide
 exact this ⟨k, h⟩
theorem aB6 : ∀ (n : Nat), ∀ c ∈ hexN n, 48 ≤ c.toNat := by
 intro n;induction n using Nat.strongRecOn with
 | _ n ih =>
  intro c hc;rw [hexN] at hc;split at hc
  ·rename_i h;rw [List.mem_singleton.1 hc]; exact oH h
  ·rename_i h;rcases List.mem_append.1 hc with hc | hc
   ·exact ih (n / 16) aI c hc
   ·rw [List.mem_singleton.1 hc]; exact oH (Nat.mod_lt _ aI)
theorem vO (body : aJ) : (10 : UInt8) ∉ gJ body := by
 intro h;unfold gJ at h;rcases List.mem_append.1 h with h | h
 ·rcases List.mem_append.1 h with h | h
  ·have := oK h; simp at this
  ·simp at h
 ·have := aB6 _ _ h; simp at this
theorem nT {c : UInt8} {a b x y : aJ} (ha : c ∉ a) (hb : c ∉ b) (h : a ++ c :: x = b ++ c :: y) : a = b ∧ x = y := by
 have h1 := iA x ha;rw [h, iA y hb] at h1
 injection h1 with h1 h2
 injection h2 with h2 _
 exact ⟨h1.symm, h2.symm⟩
theorem mJ (n : Nat) : (32 : UInt8) ∉ Lib.itoa (n : Int) := fun h => by have := oK h; simp at this
theorem pU (n : Nat) : (10 : UInt8) ∉ Lib.itoa (n : Int) := fun h => by have := oK h; simp at this
theorem zQ {x y : aJ} (h : gJ x = gJ y) : x.length = y.length := by
 unfold gJ at h;simp only [List.append_assoc, List.singleton_append] at h;exact zY (nT (mJ _) (mJ _) h).1
theorem aAH (files : List File) : Lib.cut (c8 files) [10] = (gJ (bodyC files), bodyC files, true) := by
 unfold c8;rw [List.append_assoc];exact iA _ (vO _)
theorem aA1 {d : aJ} {files : List File} (h : d <+: c8 files) (hne : d ≠ c8 files) : (Lib.cut d [10]).2.2 = false ∨ (Lib.cut d [10]).1 ≠ gJ (Lib.cut d [10]).2.1 := by
 rcases n4 10 d with h1 | ⟨a, b, h1, h2, h3⟩
 ·exact .inl h1
 ·right
  rw [h3];intro he;obtain ⟨t, ht⟩ := h;have e1 : c8 files = gJ (bodyC files) ++ 10 :: bodyC files := by unfold c8; rw [List.append_assoc]; rfl
  rw [h2, e1, List.append_assoc] at ht;have h4 := nT h1 (vO _) (show a ++ 10 :: (b ++ t) = gJ (bodyC files) ++ 10 :: bodyC files from ht);have h5 : a = gJ b := he;have h6 := zQ (h5.symm.trans h4.1);rw [← h4.2, List.length_append] at h6;have ht0 : t = [] := List.length_eq_zero_iff.1 aI
  apply hne
  rw [h2, e1, h4.1, ← h4.2, ht0, List.append_nil]
theorem xM {f : File} {r : aJ} (hn : f0 f.1) : Lib.cut (entryC f ++ r) [10] = (f.1 ++ [32] ++ Lib.itoa (f.2.length : Int), f.2 ++ r, true) := by
 have : entryC f ++ r = (f.1 ++ [32] ++ Lib.itoa (f.2.length : Int)) ++ 10 :: (f.2 ++ r) := by simp [entryC]
 rw [this];refine iA _ ?_;simp only [List.mem_append, not_or];exact ⟨⟨hn.1, by decide⟩, pU _⟩
theorem xN {f : File} (hn : f0 f.1) : Lib.cut (f.1 ++ [32] ++ Lib.itoa (f.2.length : Int)) [32] = (f.1, Lib.itoa (f.2.length : Int), true) := by
 rw [List.append_assoc]; exact iA _ hn.2
theorem vB {files : List File} {i : Nat} {f : File} (h : files[i]? = some f) : bodyC (files.drop i) = entryC f ++ bodyC (files.drop (i + 1)) := by
 rw [eR h]; rfl
theorem zH (f : File) (r : aJ) : entryC f ++ r ≠ [] := by simp [entryC]
end Go.Box
end
section
namespace Go.Box
open Go.Syn Go.Proofs Go.SL
structure Run (k : Nat) (s : DSt) : Prop where
 down : s.down = false
 l1 : -1 - (k : Int) ≤ s.left
 l2 : s.left ≤ 1000000
 f1 : s.full < 0
 f2 : -1 - (k : Int) ≤ s.full
theorem Run.told {k : Nat} {s : DSt} (h : Run k s) (o : OpR) : Run k (s.told o) := ⟨h.down, h.l1, h.l2, h.f1, h.f2⟩
theorem Run.flush {k : Nat} {s : DSt} (h : Run k s) : Run k s.flush := ⟨h.down, h.l1, h.l2, h.f1, h.f2⟩
theorem Run.more {k j : Nat} {s : DSt} (h : Run k s) (hj : k ≤ j) : Run j s := ⟨h.down, by have := h.l1; omega, h.l2, h.f1, by have := h.f2; omega⟩
theorem sM {P : DMap → Prop} {b : Bool} {os : List OpR} {f g : DMap} (h : Left b os f g) : (∀ o ∈ os, ∀ m, P m → P (doF m o)) → (∀ o ∈ os, o.kind = 1 → ∀ d, d <+: o.data → ∀ m, P m → P (m.put o.name d)) → P f → P g := by
 induction h with
 | nil => intro _ _ h; exact h
 | lost _ ih => intro h1 h2 h; exact ih (fun o ho => h1 o (List.mem_cons_of_mem _ ho)) (fun o ho => h2 o (List.mem_cons_of_mem _ ho)) h
 | kept _ ih => intro h1 h2 h; exact ih (fun o ho => h1 o (List.mem_cons_of_mem _ ho)) (fun o ho => h2 o (List.mem_cons_of_mem _ ho)) (h1 _ List.mem_cons_self _ h)
 | torn hk hd _ ih => intro h1 h2 h; exact ih (fun o ho => h1 o (List.mem_cons_of_mem _ ho)) (fun o ho => h2 o (List.mem_cons_of_mem _ ho)) (h2 _ List.mem_cons_self hk _ hd _ h)
 | none _ _ _ ih => intro h1 h2 h; exact ih (fun o ho => h1 o (List.mem_cons_of_mem _ ho)) (fun o ho => h2 o (List.mem_cons_of_mem _ ho)) h
def J1 (xs : List File) (f g : DMap) : Prop := (∀ n, n ≠ aS → g n = f n) ∧ (g aS = none ∨ ∃ d, d <+: c8 xs ∧ g aS = some d)
def J2 (xs : List File) (f g : DMap) : Prop := g aS = some (c8 xs) ∧ ∀ n, n ≠ aS → (¬ ∃ x ∈ xs, x.1 = n) → g n = f n
def J (xs : List File) (f g : DMap) : Prop := J1 xs f g ∨ J2 xs f g ∨ g = after xs f
section
variable {xs : List File} {f : DMap}
theorem aEA {os : List OpR} {m g : DMap} (ho : ∀ o ∈ os, o = ⟨1, aS, [], c8 xs⟩) (h : J1 xs f m) (hl : Left true os m g) : J1 xs f g := by
 refine sM (P := J1 xs f) hl (fun o h1 m' hm => ?_) (fun o h1 _ d hd m' hm => ?_) h
 ·rw [ho o h1];exact ⟨fun n hn => by show (m'.put aS _) n = _; unfold DMap.put; rw [if_neg hn]; exact hm.1 n hn, .inr ⟨_, List.prefix_refl _, by show (m'.put aS _) aS = _; unfold DMap.put; rw [if_pos rfl]⟩⟩
 ·rw [ho o h1] at hd ⊢;exact ⟨fun n hn => by unfold DMap.put; rw [if_neg hn]; exact hm.1 n hn, .inr ⟨_, hd, by unfold DMap.put; rw [if_pos rfl]⟩⟩
theorem uF {os : List OpR} {m g : DMap} (ho : ∀ o ∈ os, ∃ x ∈ xs, o.kind = 1 ∧ o.name = x.1) (hj : ∀ x ∈ xs, x.1 ≠ aS) (h : J2 xs f m) (hl : Left true os m g) : J2 xs f g := by
 have key : ∀ o ∈ os, ∀ d m', J2 xs f m' → J2 xs f (m'.put o.name d) := fun o h1 d m' hm => by
  obtain ⟨x, hx, -, h3⟩ := ho o h1;refine ⟨?_, fun n hn hno => ?_⟩
  ·unfold DMap.put; rw [if_neg (by rw [h3]; exact fun e => hj x hx e.symm)]; exact hm.1
  ·unfold DMap.put; rw [if_neg (by rw [h3]; exact fun e => hno ⟨x, hx, e.symm⟩)]; exact hm.2 n hn hno
 refine sM (P := J2 xs f) hl (fun o h1 m' hm => ?_) (fun o h1 _ d hd m' hm => key o h1 d m' hm) h
 obtain ⟨x, hx, h2, h3⟩ := ho o h1;unfold doF; rw [if_pos h2]; exact key o h1 _ m' hm
end
noncomputable def saysOf (xs : List File) (g : DMap) : Option (List File) := open Classical in if g aS = some (c8 xs) then some xs else none
theorem aET {xs : List File} {f g : DMap} (hx : eD xs) (hfj : f aS = none) (h : J xs f g) {d : aJ} (hd : g aS = some d) : hY d (saysOf xs g) := by
 refine ⟨xs, hx, ?_⟩
 unfold saysOf
 by_cases hp : d = c8 xs
 ·left; exact ⟨hp, by rw [if_pos (by rw [hd, hp])]⟩
 ·right
  refine ⟨?_, hp, by rw [if_neg (by rw [hd]; intro e; injection e with e; exact hp e)]⟩
  rcases h with h | h | h
  ·rcases h.2 with h2 | ⟨d', h2, h3⟩
   ·rw [h2] at hd; cases hd
   ·rw [h3] at hd; cases hd; exact h2
  ·rw [h.1] at hd; injection hd with hd; exact absurd hd.symm hp
  ·rw [h, gV] at hd; cases hd
end Go.Box
end
section
namespace Go.Box
open Go.Syn Go.Mach Go.Proofs Go.SL
theorem rW {s : aJ} (h : boxed s = true) : f0 s := by
 have key : ∀ c ∈ s, ∃ i, cA i c = true := fun c hc => by
  unfold boxed at h;simp only [Bool.and_eq_true, List.all_eq_true] at h;obtain ⟨i, hi, e⟩ := List.mem_iff_getElem.1 hc;refine ⟨i, ?_⟩
  have := h.1.1 i (List.mem_range.2 hi);rw [List.getElem?_eq_getElem hi, e] at this;exact this
 have no : ∀ c : UInt8, bP c = false → c.toNat ≠ 45 → c.toNat ≠ 46 → ∀ i, cA i c = false := fun c h1 h2 h3 i => by
  unfold cA; rw [h1, decide_eq_false h2, decide_eq_false h3]; rfl
 constructor
 ·intro hc; obtain ⟨i, hi⟩ := key _ hc; rw [no 10 (by decide) (by decide) (by decide) i] at hi; cases hi
 ·intro hc; obtain ⟨i, hi⟩ := key _ hc; rw [no 32 (by decide) (by decide) (by decide) i] at hi; cases hi
theorem f0.app {a b : aJ} (h1 : f0 a) (h2 : f0 b) : f0 (a ++ b) := ⟨fun h => (List.mem_append.1 h).elim h1.1 h2.1, fun h => (List.mem_append.1 h).elim h1.2 h2.2⟩
end Go.Box
end
section
namespace Go.Box
open Go.Syn Go.Mach Go.Proofs Go.SL
def Bd (B : Nat) (s : DSt) : Prop := ∀ o ∈ s.pend, o.data.length ≤ B
theorem u7 {B : Nat} {o : OpR} {s : DSt} (ho : o.data.length ≤ B) (h : Bd B s) : Bd B (cU o s).2 := by
 unfold cU;split
 ·exact h
 ·split
  ·exact h
  ·intro p hp;rcases List.mem_append.1 (show p ∈ s.pend ++ [o] from hp) with hp | hp
   ·exact h p hp
   ·rw [List.mem_singleton.1 hp]; exact ho
theorem rU {B : Nat} {n d : aJ} {s : DSt} (hd : d.length ≤ B) (h : Bd B s) : Bd B (cH n d s).2 := by
 have h1 := u7 (o := ⟨1, n, [], d⟩) hd h
 by_cases he : (cU ⟨1, n, [], d⟩ s).1 = some 16
 ·rw [kU he];intro p hp;rcases List.mem_append.1 (show p ∈ (cU ⟨1, n, [], d⟩ s).2.pend ++ [⟨1, n, [], d⟩] from hp) with hp | hp
  ·exact h1 p hp
  ·rw [List.mem_singleton.1 hp]; exact hd
 ·rw [kT he]; exact h1
theorem lJ {B : Nat} {s : DSt} (h : Bd B s) : Bd B (bQ s).2 := by
 unfold bQ;split
 ·exact h
 ·intro p hp; exact absurd hp (by simp [DSt.flush])
theorem pO {B : Nat} {n : aJ} {s : DSt} (h : Bd B s) : Bd B (cB n s).2 := u7 (Nat.zero_le _) h
theorem jD {P : DSt → Prop} : ∀ {gs : List (DSt → Er × DSt)} {s : DSt}, (∀ g ∈ gs, ∀ s, P s → P (g s).2) → P s → P (bZ gs s).2
 | [], s, _, h => h
 | g :: gs, s, hg, h => by
  have h1 := hg g List.mem_cons_self s h;unfold bZ;split
  ·exact h1
  ·exact jD (fun g' h' => hg g' (List.mem_cons_of_mem _ h')) h1
theorem pN {B : Nat} {xs : List File} {s : DSt} (hx : ∀ x ∈ xs, x.2.length ≤ B) (h : Bd B s) : Bd B (dQ xs s).2 := by
 unfold dQ;refine jD (fun g hg s hs => ?_) h
 rcases List.mem_append.1 hg with hg | hg
 ·obtain ⟨x, hm, rfl⟩ := List.mem_map.1 hg;exact rU (hx x hm) hs
 ·simp only [List.mem_cons, List.not_mem_nil, or_false] at hg;rcases hg with rfl | rfl | rfl
  ·exact lJ hs
  ·exact pO hs
  ·exact lJ hs
theorem nV {B : Nat} {xs : List File} {s : DSt} (hx : ∀ x ∈ xs, x.2.length ≤ B) (hp : (c8 xs).length ≤ B) (h : Bd B s) : Bd B (dN xs s).2 := by
 unfold dN;refine jD (fun g hg s hs => ?_) h
 simp only [List.mem_cons, List.not_mem_nil, or_false] at hg;rcases hg with rfl | rfl | rfl
 ·exact rU hp hs
 ·exact lJ hs
 ·exact pN hx hs
theorem lN (xs : List File) (s : DSt) (hx : xs.length ≤ 100) : (dN xs s).2.pend.length ≤ s.pend.length + 500 := by
 unfold dN;have a1 := g8 aS (c8 xs) s;simp only [bZ];split
 ·omega
 ·have a2 := fE (cH aS (c8 xs) s).2;split
  ·omega
  ·have a3 := iY xs (bQ (cH aS (c8 xs) s).2).2;split
   ·omega
   ·show (dQ xs (bQ (cH aS (c8 xs) s).2).2).2.pend.length ≤ _
    omega
theorem aA9 {k : Nat} {n d : aJ} {s : DSt} (h : Up k s) (hk : k ≤ 1000000) : Up (k + 1) (cH n d s).2 := by rw [l8 h hk]; exact h.dec.told _
theorem aC5 {k : Nat} {s : DSt} (h : Up k s) (hk : k ≤ 1000000) : Up (k + 1) (bQ s).2 := by rw [l4 h hk]; exact h.dec.flush
theorem yL {k : Nat} {n : aJ} {s : DSt} (h : Up k s) (hk : k ≤ 1000000) : Up (k + 1) (cB n s).2 := by
 have e := iP h hk;unfold cB cU DSt.we DSt.ws;rw [e, n5 h];split
 ·exact h.dec
 ·split
  ·exact h.dec
  ·exact h.dec.told _
theorem j1 {xs : List File} {g : DMap} : ∀ ys, saysOf xs g = some ys → ys = xs := fun ys h => by
 unfold saysOf at h;split at h
 ·injection h with h; exact h.symm
 ·cases h
end Go.Box
end
section
namespace Go.Box
open Go.Syn Go.Proofs Go.SL
structure Bad (e : Int) (s s' : DSt) (o : Option OpR) : Prop where
 dur : s'.dur = s.dur
 now : s'.now = s.now
 one : e = 16 ∧ s'.down = true ∧ (s'.pend = s.pend ∨ ∃ p, o = some p ∧ s'.pend = s.pend ++ [p]) ∨ e = 15 ∧ s'.down = false ∧ s'.pend = s.pend
structure Good (s s' : DSt) : Prop where
 down : s'.down = false
 dur : s'.dur = s.dur
theorem rM {s : DSt} (h : s.down = false) : (s.we = none ∧ s.ws.down = false) ∨ ∃ e, s.we = some e ∧ (e = 16 ∧ s.ws.down = true ∨ e = 15 ∧ s.ws.down = false) := by
 unfold DSt.we DSt.ws cN;split
 ·right; exact ⟨16, rfl, .inl ⟨rfl, rfl⟩⟩
 ·split
  ·right; exact ⟨15, rfl, .inr ⟨rfl, rfl⟩⟩
  ·left; exact ⟨rfl, rfl⟩
theorem aBA {s : DSt} (h : s.down = false) (n d : aJ) :
  (∃ s', cH n d s = (none, s') ∧ s'.down = false ∧ s'.dur = s.dur ∧ s'.now = s.now.put n d ∧ s'.pend = s.pend ++ [⟨1, n, [], d⟩]) ∨
  ∃ e s', cH n d s = (some e, s') ∧ Bad e s s' (some ⟨1, n, [], d⟩) := by
 rcases rM h with ⟨h1, h2⟩ | ⟨e, h1, h2⟩
 ·left
  have ht : cU ⟨1, n, [], d⟩ s = (none, s.ws.told ⟨1, n, [], d⟩) := by unfold cU; rw [h1, if_neg (by simp), if_neg (by simp)]
  exact ⟨s.ws.told ⟨1, n, [], d⟩, by unfold cH; rw [ht]; rfl, h2, rfl, rfl, rfl⟩
 ·right
  have ht : cU ⟨1, n, [], d⟩ s = (some e, s.ws) := by unfold cU; rw [h1]; rfl
  rcases h2 with ⟨rfl, h2⟩ | ⟨rfl, h2⟩
  ·exact ⟨16, s.ws.add ⟨1, n, [], d⟩, by unfold cH; rw [ht]; rfl, rfl, rfl, .inl ⟨rfl, h2, .inr ⟨_, rfl, rfl⟩⟩⟩
  ·exact ⟨15, s.ws, by unfold cH; rw [ht]; rfl, rfl, rfl, .inr ⟨rfl, h2, rfl⟩⟩
theorem vT {s : DSt} (h : s.down = false) {n d : aJ} (hn : s.now n = some d) :
  (∃ s', cB n s = (none, s') ∧ s'.down = false ∧ s'.dur = s.dur ∧ s'.now = s.now.cut n ∧ s'.pend = s.pend ++ [⟨3, n, [], []⟩]) ∨
  ∃ e s', cB n s = (some e, s') ∧ Bad e s s' none := by
 rcases rM h with ⟨h1, h2⟩ | ⟨e, h1, h2⟩
 ·left
  exact ⟨s.ws.told ⟨3, n, [], []⟩, by unfold cB cU; rw [h1, if_neg (by simp), if_neg (by simp [hn])], h2, rfl, rfl, rfl⟩
 ·right
  refine ⟨e, s.ws, by unfold cB cU; rw [h1]; rfl, rfl, rfl, ?_⟩
  rcases h2 with ⟨rfl, h2⟩ | ⟨rfl, h2⟩
  ·exact .inl ⟨rfl, h2, .inl rfl⟩
  ·exact .inr ⟨rfl, h2, rfl⟩
theorem tA {s : DSt} (h : s.down = false) (hc : Coh s) :
  (∃ s', bQ s = (none, s') ∧ s'.down = false ∧ s'.dur = s.now ∧ s'.now = s.now ∧ s'.pend = []) ∨ ∃ e s', bQ s = (some e, s') ∧ Bad e s s' none := by
 rcases rM h with ⟨h1, h2⟩ | ⟨e, h1, h2⟩
 ·left; exact ⟨s.ws.flush, by unfold bQ; rw [h1]; rfl, h2, hc.symm, rfl, rfl⟩
 ·right
  refine ⟨e, s.ws, by unfold bQ; rw [h1]; rfl, rfl, rfl, ?_⟩
  rcases h2 with ⟨rfl, h2⟩ | ⟨rfl, h2⟩
  ·exact .inl ⟨rfl, h2, .inl rfl⟩
  ·exact .inr ⟨rfl, h2, rfl⟩
theorem sL : ∀ (os : List OpR) (f : DMap), Left true os f (os.foldl doF f)
 | [], f => .nil
 | o :: os, f => .kept (sL os _)
def Safe (xs : List File) (f : DMap) (s : DSt) : Prop := ∀ g, Left true s.pend s.dur g → J xs f g
def Bent (xs : List File) (f : DMap) (e : Int) (s : DSt) : Prop := Safe xs f s ∧ (e = 16 ∧ s.down = true ∨ e = 15 ∧ s.down = false ∧ Coh s)
section
variable {xs : List File} {f : DMap}
theorem Safe.now {s : DSt} (h : Safe xs f s) (hc : Coh s) : J xs f s.now := by rw [show s.now = _ from hc]; exact h _ (sL _ _)
theorem f7 {e : Int} {s s' : DSt} {o : Option OpR} (hb : Bad e s s' o) (hc : Coh s) (h : Safe xs f s) (h2 : ∀ p, o = some p → ∀ g, Left true (s.pend ++ [p]) s.dur g → J xs f g) : Bent xs f e s' := by
 rcases hb.one with ⟨h3, h4, h5⟩ | ⟨h3, h4, h5⟩
 ·refine ⟨fun g hg => ?_, .inl ⟨h3, h4⟩⟩
  rw [hb.dur] at hg;rcases h5 with h5 | ⟨p, h5, h6⟩
  ·rw [h5] at hg; exact h g hg
  ·rw [h6] at hg; exact h2 p h5 g hg
 ·refine ⟨fun g hg => ?_, .inr ⟨h3, h4, ?_⟩⟩
  ·rw [hb.dur, h5] at hg; exact h g hg
  ·unfold Coh; rw [hb.now, hb.dur, h5]; exact hc
theorem nI : ∀ {ys : List File} {s : DSt} (t : List (DSt → Er × DSt)), (∀ y ∈ ys, y ∈ xs) → (∀ x ∈ xs, x.1 ≠ aS) → s.down = false → Coh s → J2 xs f s.dur → (∀ o ∈ s.pend, ∃ x ∈ xs, o.kind = 1 ∧ o.name = x.1) →
  (∃ s', bZ (cV ys ++ t) s = bZ t s' ∧ s'.down = false ∧ Coh s' ∧ s'.now = eC ys s.now ∧ s'.dur = s.dur ∧ ∀ o ∈ s'.pend, ∃ x ∈ xs, o.kind = 1 ∧ o.name = x.1) ∨
  (∃ e s', bZ (cV ys ++ t) s = (some e, s') ∧ Bent xs f e s')
 | [], s, t, _, _, h, hc, _, hp => .inl ⟨s, rfl, h, hc, rfl, rfl, hp⟩
 | y :: ys, s, t, hy, hj, h, hc, h2, hp => by
  have hp2 : ∀ o ∈ s.pend ++ [(⟨1, y.1, [], y.2⟩ : OpR)], ∃ x ∈ xs, o.kind = 1 ∧ o.name = x.1 := fun o ho => by
   rcases List.mem_append.1 ho with ho | ho
   ·exact hp o ho
   ·rw [List.mem_singleton.1 ho]; exact ⟨y, hy y List.mem_cons_self, rfl, rfl⟩
  have e : ∀ s, bZ (cV (y :: ys) ++ t) s = if (cH y.1 y.2 s).1.isSome = true then cH y.1 y.2 s else bZ (cV ys ++ t) (cH y.1 y.2 s).2 := fun s => rfl
  rcases aBA h y.1 y.2 with ⟨s', h1, h3, h4, h5, h6⟩ | ⟨er, s', h1, h3⟩
  ·rw [e, h1];have hc' : Coh s' := by unfold Coh; rw [h5, h4, h6, List.foldl_append, ← show s.now = _ from hc]; rfl
   rcases nI (ys := ys) t (fun z hz => hy z (List.mem_cons_of_mem _ hz)) hj h3 hc' (by rw [h4]; exact h2) (by rw [h6]; exact hp2) with ⟨s2, g1, g2, g3, g4, g5, g6⟩ | ⟨er, s2, g1, g2⟩
   ·exact .inl ⟨s2, g1, g2, g3, by rw [g4, h5]; rfl, g5.trans h4, g6⟩
   ·exact .inr ⟨er, s2, g1, g2⟩
  ·rw [e, h1];exact .inr ⟨er, s', rfl, f7 h3 hc (fun g hg => .inr (.inl (uF hp hj h2 hg))) fun p hq g hg => by
    injection hq with hq; subst hq; exact .inr (.inl (uF hp2 hj h2 hg))⟩
theorem vN {s : DSt} (hj : ∀ x ∈ xs, x.1 ≠ aS) (h : s.down = false) (hn : s.now = s.dur) (hp : s.pend = []) (h2 : J2 xs f s.dur) :
  (∃ s', dQ xs s = (none, s') ∧ s'.down = false ∧ s'.pend = [] ∧ s'.dur = after xs f ∧ s'.now = after xs f) ∨
  (∃ e s', dQ xs s = (some e, s') ∧ Bent xs f e s') := by
 have hc : Coh s := by unfold Coh; rw [hp, hn]; rfl
 unfold dQ;rcases nI (xs := xs) [bQ, cB aS, bQ] (fun _ h => h) hj h hc h2 (by rw [hp]; intro o ho; cases ho) with ⟨s1, a1, a2, a3, a4, a5, a6⟩ | ⟨e, s', a1, a2⟩
 ·rw [a1];have hjs : s1.now aS = some (c8 xs) := by
   rw [a4, hn, lW (fun ⟨x, hx, e⟩ => hj x hx e)]; exact h2.1
  have hJ2 : J2 xs f s1.now := by
   refine ⟨hjs, fun n hn' hno => ?_⟩
   rw [a4, hn, lW hno]; exact h2.2 n hn' hno
  have haf : s1.now.cut aS = after xs f := by
   funext n
   by_cases hn' : n = aS
   ·subst hn'; rw [gV]; unfold DMap.cut; rw [if_pos rfl]
   ·rw [l9 hn']; unfold DMap.cut; rw [if_neg hn']
    by_cases hx : ∃ x ∈ xs, x.1 = n
    ·rw [a4]; exact xT hx f
    ·rw [lW hx]; exact hJ2.2 n hn' hx
  rcases tA a2 a3 with ⟨s2, b1, b2, b3, b4, b5⟩ | ⟨e, s', b1, b2⟩
  ·have c2 : Coh s2 := by unfold Coh; rw [b5, b3, b4]; rfl
   have sf2 : Safe xs f s2 := fun g hg => by rw [b5, b3] at hg; cases hg; exact .inr (.inl hJ2)
   rcases vT b2 (n := aS) (d := c8 xs) (by rw [b4]; exact hjs) with ⟨s3, d1, d2, d3, d4, d5⟩ | ⟨e, s', d1, d2⟩
   ·rw [b5] at d5; rw [b4] at d4; rw [b3] at d3
    have c3 : Coh s3 := by unfold Coh; rw [d5, d4, d3]; rfl
    have sf3 : Safe xs f s3 := fun g hg => by
     rw [d5, d3] at hg;cases hg with
     | lost h => cases h; exact .inr (.inl hJ2)
     | kept h => cases h; exact .inr (.inr haf)
     | torn h1 _ _ => exact absurd h1 (by decide)
     | none _ _ h => cases h; exact .inr (.inl hJ2)
    rcases tA d2 c3 with ⟨s4, e1, e2, e3, e4, e5⟩ | ⟨e, s', e1, e2⟩
    ·left
     exact ⟨s4, by simp only [bZ, b1, d1, e1]; rfl, e2, e5, by rw [e3, d4]; exact haf, by rw [e4, d4]; exact haf⟩
    ·right
     exact ⟨e, s', by simp only [bZ, b1, d1, e1]; rfl, f7 e2 c3 sf3 fun p hq => by cases hq⟩
   ·right
    exact ⟨e, s', by simp only [bZ, b1, d1]; rfl, f7 d2 c2 sf2 fun p hq => by cases hq⟩
  ·right
   exact ⟨e, s', by simp only [bZ, b1]; rfl, f7 b2 a3 (fun g hg => by rw [a5] at hg; exact .inr (.inl (uF a6 hj h2 hg))) fun p hq => by cases hq⟩
 ·rw [a1];exact .inr ⟨e, s', rfl, a2⟩
theorem zC {s : DSt} (hj : ∀ x ∈ xs, x.1 ≠ aS) (h : s.down = false) (hn : s.now = f) (hd : s.dur = f) (hp : s.pend = []) (hfj : f aS = none) :
  (∃ s', dN xs s = (none, s') ∧ s'.down = false ∧ s'.pend = [] ∧ s'.dur = after xs f ∧ s'.now = after xs f) ∨
  (∃ e s', dN xs s = (some e, s') ∧ Bent xs f e s') := by
 have hc : Coh s := by unfold Coh; rw [hp, hn, hd]; rfl
 have hf1 : J1 xs f f := ⟨fun _ _ => rfl, .inl hfj⟩;have hs0 : Safe xs f s := fun g hg => by rw [hp, hd] at hg; cases hg; exact .inl hf1
 have hs1 : ∀ g, Left true (s.pend ++ [⟨1, aS, [], c8 xs⟩]) s.dur g → J xs f g := fun g hg => by
  rw [hp, hd] at hg;exact .inl (aEA (fun o ho => List.mem_singleton.1 ho) hf1 hg)
 unfold dN;rcases aBA h aS (c8 xs) with ⟨s1, a1, a2, a3, a4, a5⟩ | ⟨e, s', a1, a2⟩
 ·have c1 : Coh s1 := by unfold Coh; rw [a4, a3, a5, hp, hn, hd]; rfl
  have sf1 : Safe xs f s1 := fun g hg => hs1 g (by rw [a5, a3] at hg; exact hg)
  rcases tA a2 c1 with ⟨s2, b1, b2, b3, b4, b5⟩ | ⟨e, s', b1, b2⟩
  ·have hJ2 : J2 xs f s2.dur := by
    rw [b3, a4, hn];exact ⟨by unfold DMap.put; rw [if_pos rfl], fun n hn _ => by unfold DMap.put; rw [if_neg hn]⟩
   have := vN hj b2 (b4.trans b3.symm) b5 hJ2;simp only [bZ, a1, b1];rcases this with ⟨s', e1, e2, e3, e4, e5⟩ | ⟨e, s', e1, e2⟩
   ·exact .inl ⟨s', by rw [e1]; rfl, e2, e3, e4, e5⟩
   ·exact .inr ⟨e, s', by rw [e1]; rfl, e2⟩
  ·right
   exact ⟨e, s', by simp only [bZ, a1, b1]; rfl, f7 b2 c1 sf1 fun p hq => by cases hq⟩
 ·right
  exact ⟨e, s', by simp only [bZ, a1]; rfl, f7 a2 hc hs0 fun p hq g hg => by injection hq with hq; subst hq; exact hs1 g hg⟩
theorem aAO {s : DSt} (hj : ∀ x ∈ xs, x.1 ≠ aS) (h : s.down = false) (hc : Coh s) (hs : Safe xs f s) (hfj : f aS = none) :
  (∃ s', bK (saysOf xs s.now) s = (none, s') ∧ s'.down = false ∧ s'.pend = [] ∧ s'.now = s'.dur ∧ (s'.dur = f ∨ s'.dur = after xs f)) ∨
  (∃ e s', bK (saysOf xs s.now) s = (some e, s') ∧ Bent xs f e s') := by
 have hJ := hs.now hc;rcases tA h hc with ⟨s1, a1, a2, a3, a4, a5⟩ | ⟨e, s', a1, a2⟩
 ·have c1 : Coh s1 := by unfold Coh; rw [a5, a3, a4]; rfl
  have sf1 : Safe xs f s1 := fun g hg => by rw [a5, a3] at hg; cases hg; exact hJ
  have hrd : gX aS s1 = match s.now aS with | none => ([], some 14) | some d => (d, none) := by
   unfold gX; rw [if_neg (by rw [a2]; simp), a4] <;> cases s.now aS <;> rfl
  cases hdj : s.now aS with
  | none =>
   left
   rw [hdj] at hrd;refine ⟨s1, by unfold bK; rw [a1]; simp only [hrd]; rfl, a2, a5, a4.trans a3.symm, ?_⟩
   rw [a3];rcases hJ with h1 | h1 | h1
   ·left; funext n
    by_cases hnj : n = aS
    ·rw [hnj, hdj, hfj]
    ·exact h1.1 n hnj
   ·rw [h1.1] at hdj; cases hdj
   ·exact .inr h1
  | some d =>
   rw [hdj] at hrd;have e : bK (saysOf xs s.now) s = kY (saysOf xs s.now) s1 := by unfold bK; rw [a1]; simp only [hrd]; rfl
   rw [e];unfold saysOf
   by_cases hp : s.now aS = some (c8 xs)
   ·rw [if_pos hp];have h2 : J2 xs f s1.dur := by
     rw [a3];rcases hJ with h1 | h1 | h1
     ·exact ⟨hp, fun n hn _ => h1.1 n hn⟩
     ·exact h1
     ·rw [h1, gV] at hp; cases hp
    rcases vN hj a2 (a4.trans a3.symm) a5 h2 with ⟨s', e1, e2, e3, e4, e5⟩ | h3
    ·exact .inl ⟨s', e1, e2, e3, e5.trans e4.symm, .inr e4⟩
    ·exact .inr h3
   ·rw [if_neg hp];have h1 : J1 xs f s.now := by
     rcases hJ with h1 | h1 | h1
     ·exact h1
     ·exact absurd h1.1 hp
     ·rw [h1, gV] at hdj; cases hdj
    have hcut : s.now.cut aS = f := by
     funext n
     by_cases hnj : n = aS
     ·subst hnj; unfold DMap.cut; rw [if_pos rfl, hfj]
     ·unfold DMap.cut; rw [if_neg hnj]; exact h1.1 n hnj
    unfold kY;rcases vT a2 (n := aS) (d := d) (by rw [a4]; exact hdj) with ⟨s3, d1, d2, d3, d4, d5⟩ | ⟨e, s', d1, d2⟩
    ·rw [a5] at d5; rw [a4] at d4; rw [a3] at d3
     have c3 : Coh s3 := by unfold Coh; rw [d5, d4, d3]; rfl
     have sf3 : Safe xs f s3 := fun g hg => by
      rw [d5, d3] at hg;cases hg with
      | lost h => cases h; exact .inl h1
      | kept h =>
       cases h
       show J xs f (s.now.cut aS)
       rw [hcut]; exact .inl ⟨fun _ _ => rfl, .inl hfj⟩
      | torn h1 _ _ => exact absurd h1 (by decide)
      | none _ _ h => cases h; exact .inl h1
     rcases tA d2 c3 with ⟨s4, e1, e2, e3, e4, e5⟩ | ⟨e, s', e1, e2⟩
     ·left
      exact ⟨s4, by simp only [bZ, d1, e1]; rfl, e2, e5, e4.trans e3.symm, .inl (by rw [e3, d4, hcut])⟩
     ·right
      exact ⟨e, s', by simp only [bZ, d1, e1]; rfl, f7 e2 c3 sf3 fun p hq => by cases hq⟩
    ·right
     exact ⟨e, s', by simp only [bZ, d1]; rfl, f7 d2 c1 sf1 fun p hq => by cases hq⟩
 ·right
  exact ⟨e, s', by unfold bK; rw [a1]; rfl, f7 a2 hc hs fun p hq => by cases hq⟩
end
end Go.Box
end
section
namespace Go.Box
open Go.Syn Go.Proofs Go.SL
theorem nC {f : DMap} {P M S : List cJ} {x : cJ} (h : cX f (P ++ (M ++ S))) (hM : ∀ m ∈ M, m.1 = x.1) (hP : ∀ p ∈ P, p.1 < x.1) (hS : ∀ s ∈ S, x.1 < s.1) : cX (f.put x.1 x.2) (P ++ x :: S) := by
 have hp := List.pairwise_append.1 h.2;have hp2 := List.pairwise_append.1 hp.2.1;refine ⟨fun n d => ?_, List.pairwise_append.2 ⟨hp.1, List.pairwise_cons.2 ⟨hS, hp2.2.1⟩, fun a ha b hb => ?_⟩⟩
 ·unfold DMap.put
  by_cases hn : n = x.1
  ·subst hn;rw [if_pos rfl];simp only [List.mem_append, List.mem_cons, Option.some.injEq]
   constructor
   ·rintro (h1 | h1 | h1)
    ·exact absurd (hP _ h1) (List.lt_irrefl _)
    ·rw [← h1]
    ·exact absurd (hS _ h1) (List.lt_irrefl _)
   ·intro h1; exact .inr (.inl (by rw [← h1]))
  ·rw [if_neg hn, ← h.1 n d];simp only [List.mem_append, List.mem_cons]
   constructor
   ·rintro (h1 | h1 | h1)
    ·exact .inl h1
    ·exact absurd (congrArg Prod.fst h1) hn
    ·exact .inr (.inr h1)
   ·rintro (h1 | h1 | h1)
    ·exact .inl h1
    ·exact absurd (hM _ h1) hn
    ·exact .inr (.inr h1)
 ·rcases List.mem_cons.1 hb with rfl | hb
  ·exact hP a ha
  ·exact hp.2.2 a ha b (List.mem_append_right _ hb)
def nR (x : cJ) (k : Nat) (l : List cJ) : Prop := ∀ j y, j < k → l[j]? = some y → y.1 < x.1
theorem m5 {x : cJ} {k : Nat} {l : List cJ} (h : nR x k l) : ∀ p ∈ l.take k, p.1 < x.1 := fun p hp => by
 obtain ⟨j, hj, e⟩ := List.mem_iff_getElem.1 hp;rw [List.length_take] at hj;exact h j p aI (by rw [List.getElem?_eq_getElem aI, ← e, List.getElem_take])
theorem rB {f : DMap} {l : List cJ} {x y : cJ} {k : Nat} (h : cX f l) (hb : nR x k l) (hy : l[k]? = some y) (he : y.1 = x.1) : cX (f.put x.1 x.2) (l.set k x) := by
 have hk : k < l.length := dX hy;have e : l = l.take k ++ ([y] ++ l.drop (k + 1)) := by rw [List.singleton_append, ← eR hy, List.take_append_drop]
 rw [List.set_eq_take_append_cons_drop, if_pos hk];rw [e] at h;refine nC h (fun m hm => by rw [List.mem_singleton.1 hm]; exact he) (m5 hb) fun s hs => ?_
 have hp := (List.pairwise_append.1 h.2).2.1;rw [← he]; exact (List.pairwise_cons.1 hp).1 s hs
theorem oQ {f : DMap} {l : List cJ} {x : cJ} {k : Nat} (h : cX f l) (hb : nR x k l) (hk : k ≤ l.length) (hn : ∀ y, l[k]? = some y → ¬ y.1 < x.1 ∧ y.1 ≠ x.1) : cX (f.put x.1 x.2) (l.take k ++ x :: l.drop k) := by
 have e : l = l.take k ++ ([] ++ l.drop k) := by rw [List.nil_append, List.take_append_drop]
 rw [e] at h;refine nC h (fun m hm => by cases hm) (m5 hb) fun s hs => ?_
 have hp := (List.pairwise_append.1 h.2).2.1;rw [List.nil_append] at hp;rcases Nat.lt_or_ge k l.length with hl | hl
 ·have hy := List.getElem?_eq_getElem hl;rw [eR hy] at hs hp;obtain ⟨n1, n2⟩ := hn _ hy;have hx : x.1 < (l[k]'hl).1 := by
   rcases List.le_iff_lt_or_eq.1 (List.not_lt.1 n1) with h | h
   ·exact h
   ·exact absurd h.symm n2
  rcases List.mem_cons.1 hs with rfl | hs
  ·exact hx
  ·exact List.lt_trans hx ((List.pairwise_cons.1 hp).1 s hs)
 ·rw [List.drop_of_length_le hl] at hs; cases hs
theorem nS {xs : List File} {f : DMap} (hj : ∀ x ∈ xs, x.1 ≠ aS) (hf : f aS = none) : after xs f = eC xs f := by
 funext n
 by_cases hn : n = aS
 ·subst hn; rw [gV, lW (fun ⟨x, hx, e⟩ => hj x hx e), hf]
 ·exact l9 hn
theorem gB {xs : List File} {i : Nat} {x : File} (h : xs[i]? = some x) (f : DMap) : eC (xs.take (i + 1)) f = (eC (xs.take i) f).put x.1 x.2 := by
 have hi : i < xs.length := dX h;rw [List.getElem?_eq_getElem hi] at h;cases h
 rw [List.take_succ_eq_append_getElem hi];unfold eC;rw [List.foldl_append]; rfl
theorem fF {f : DMap} {l : List cJ} (h : cX f l) : lG f (l.map (·.1)) := fun n hn => by
 obtain ⟨d, hd⟩ := Option.isSome_iff_exists.1 hn;exact List.mem_map.2 ⟨(n, d), (h.1 n d).2 hd, rfl⟩
theorem vH {xs : List File} {f g : DMap} {ns : List aJ} (h : J xs f g) (hd : lG f ns) : lG g (aS :: (xs.map (·.1) ++ ns)) := by
 intro n hn
 by_cases hj : n = aS
 ·rw [hj]; exact List.mem_cons_self
 ·refine List.mem_cons_of_mem _ ?_;rcases h with h | h | h
  ·rw [h.1 n hj] at hn; exact List.mem_append_right _ (hd n hn)
  ·by_cases hx : ∃ x ∈ xs, x.1 = n
   ·obtain ⟨x, hx, e⟩ := hx; exact List.mem_append_left _ (List.mem_map.2 ⟨x, hx, e⟩)
   ·rw [h.2 n hj hx] at hn; exact List.mem_append_right _ (hd n hn)
  ·rw [h] at hn; exact xE hd n hn
end Go.Box
end

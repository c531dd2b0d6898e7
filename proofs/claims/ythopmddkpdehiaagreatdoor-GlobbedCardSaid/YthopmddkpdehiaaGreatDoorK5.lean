/-
  What the proof stands on, part 5: the logic of walks, the walks through the functions, the plain laws. Conditions: as each theorem says. (Merged and shortened by a program.)
-/
import Derived.Lib.OthersKept
import Derived.Lib.IndexMore
import Derived.Lib.IndexLaws
import Derived.Lib.IndexBytes
import Derived.Stop.Asserts
import Derived.RowKitTokens
import Derived.LaidEql
import Derived.Test.YthopmddkpdehiaaGreatDoorK1
import Derived.Test.YthopmddkpdehiaaGreatDoorK2
import Derived.Test.YthopmddkpdehiaaGreatDoorK3
import Derived.Test.YthopmddkpdehiaaGreatDoorK4
set_option linter.unusedVariables false
set_option linter.unusedSimpArgs false
section
namespace Go.Proofs
open Go Go.SL Go.Syn Go.Mach
theorem z6 : KeyA Tryz.prog 428 := ⟨⟨3, Tryz.underlying428, Tryz.underlying3, by kernel_rfl, by kernel_rfl, info_of_underlying Tryz.underlying3⟩⟩
def uR (w v k : List UInt8) (es : List EntA) : Prop := ∀ e ∈ es, gl w v k e.1.1 e.1.2 = none
abbrev GlR (w v k : List UInt8) (i j : Nat) (bp md : Nat) (ps : List (List UInt8)) (es : List EntA) (K : Hl) : Ending → Hl → List Asn → Prop := Ret fun r K' L' => K' = K ∧ r = .bool (gl w v k i j).isSome ∧ ∃ pv es' c', uR w v k es' ∧ (∀ e ∈ es', e ∈ es ∨ j ≤ e.1.2) ∧ L' = [pt bp (aU [pv] 39), sl false (bK 9) pv (ps ++ (gl w v k i j).getD []), pt md (mapA es' c')]
structure GlK (w v k : List UInt8) (bd md bp bk bv bw bm : Nat) (K : Hl) : Prop where
 hd : K bd = some (aU [.map (some md)] 427)
 hk : K bk = some (aU [str k] 9)
 hv : K bv = some (aU [str v] 9)
 hw : K bw = some (aU [str w] 9)
 hm : K bm = some (aU [.func (.func 306) #[] #[ptr bd, ptr bp, ptr bk, ptr bv, ptr bw, ptr bm]] 169)
theorem aJG {w v k : List UInt8} {es : List EntA} {i j : Nat} (h : uR w v k es) (hm : (i, j) ∈ es.map (fun x => x.1)) : gl w v k i j = none := by
 obtain ⟨e, he, e2⟩ := List.mem_map.1 hm;have := h e he;rw [e2] at this; exact this
theorem aGQ {α : Type} {f : Nat → Option α} {n e : Nat} (he : e ≤ n) (h : f e = none) : iH f (n + 1 - e) e = iH f (n + 1 - (e + 1)) (e + 1) := by
 rw [show n + 1 - e = (n + 1 - (e + 1)) + 1 from by omega];simp only [iH, h]
theorem aDU {α : Type} {f : Nat → Option α} {n e : Nat} {x : α} (he : e ≤ n) (h : f e = some x) : iH f (n + 1 - e) e = some x := by
 rw [show n + 1 - e = (n + 1 - (e + 1)) + 1 from by omega];simp only [iH, h]
theorem rW (j : Nat) : ((j : Int) + 1) = ((j + 1 : Nat) : Int) := by omega
theorem aQI (j : Nat) : ((j : Int) + 2) = ((j + 2 : Nat) : Int) := by omega
theorem aK6 {α : Type} {A B : Asn} {z : Bool} {k : El α} {v : Value} {xs : List α} {L : List Asn} {n : Nat} {h : Hl} (hs : Sat (A :: B :: sl z k v xs :: L) h) : (slTo v n).oneCell' = true := by
 obtain ⟨_, l, _, hl, _, _⟩ := hs;obtain ⟨_, l2, _, hl2, _, _⟩ := hl;obtain ⟨x, _, hx, _, _, _⟩ := hl2;rcases hx with ⟨rfl, _⟩ | ⟨b, cap, junk, fz, rfl, _⟩ <;> rfl
theorem aDW (w0 v k : List UInt8) (bd md bp bk bv bw bm : Nat) (hlw : w0.length = v.length) (hv : v.length ≤ 1000000) (hk : k.length ≤ 1000000) : ∀ (n i j : Nat) (ps : List (List UInt8)) (es : List EntA) (c : Nat) (pv : Value) (K : Hl), k.length + 1 - j ≤ n → GlK w0 v k bd md bp bk bv bw bm K → i ≤ v.length → j ≤ k.length → ps.length ≤ j → uR w0 v k es →
    Sp Tryz.prog 306 [i64 i, i64 j, ptr bd, ptr bp, ptr bk, ptr bv, ptr bw, ptr bm] K [pt bp (aU [pv] 39), sl false (bK 9) pv ps, pt md (mapA es c)] (GlR w0 v k i j bp md ps es K) := by
  intro n;induction n with
  | zero => intro i j ps es c pv K h1 h2 h3 h4; omega
  | succ n ih =>
    intro i j ps es c pv K hn hK hi hj hps hes;obtain ⟨kd, kk, kv, kw, km⟩ := hK;refine bB Tryz.func306 rfl Tryz.ntmps306 rfl rfl fun F w => ?_
    refine aI (aB ?_);refine aA (aF rfl) rfl ?_;refine aG (aE ?_);refine aI (aB ?_);refine aA (aC rfl) rfl ?_;refine aA (aC rfl) rfl ?_;refine aA (aGO z6 aRQ rfl rfl) rfl ?_;refine ol_s (cO aR0) rfl ?_;rintro _ K _ ⟨b11, rfl, rfl, rfl⟩ -;refine bR (cH aAS rfl rfl rfl a7 (by first | (simp [Value.oneCell']; done) | exact fun c hc => El.one _ _ c hc) (.cons (.cons .nil)) (by intro j hj; simp)) ?_;rintro _ K _ ⟨rfl, rfl⟩ -;refine aG (aE ?_);refine aI (aI ?_);refine aB ?_;refine aA (aK aL0 rfl aM rfl) rfl ?_;refine aA (bW aAS rfl aM rfl rfl) rfl ?_;refine aA (aDP Tryz.underlying427 z6 tv3 rfl rfl (by first | exact .own .here | exact .own (.there .here) | exact .own (.there (.there .here)) | exact .own (.there (.there (.there .here))) | exact .own (.there (.there (.there (.there .here)))))) rfl ?_;refine aA (aC rfl) rfl ?_;refine aA (aR rfl rfl) rfl ?_;refine aA (aR rfl rfl) rfl ?_;refine aA (aF rfl) rfl ?_;refine aA (aF rfl) rfl ?_;refine aG (aE ?_);refine aI (aB ?_);refine aA (aC rfl) rfl ?_;refine aG (aE ?_);refine bE 26 rfl (fun h26 => ?_) (fun h26 => ?_)
    ·
      refine aI (aB ?_);refine aA (aF rfl) rfl ?_;refine aG (aE ?_);refine bM ?_;refine bC ?_;refine aO (.cons (.there .here) (.cons (.there .here) (.cons (.there .here) .nil))) ?_;refine bJ rfl rfl (Hl.le_refl _) ?_;have hgn := aJG hes h26;exact ⟨_, rfl, rfl, by rw [hgn]; rfl, pv, es, c, hes, fun e h => .inl h, by rw [hgn]; simp⟩
    ·
      refine a6 ?_;refine aE (aI ?_);refine aB ?_;refine aA (aK ts39 rfl aM rfl) rfl ?_;refine aA (cE (k := (bK 9)) rfl Tryz.underlying39 rfl aM) rfl ?_;refine aA (aF rfl) rfl ?_;refine aG (aE ?_);refine aI (aB ?_);refine aA (aF rfl) rfl ?_;refine aG (aE ?_);refine aNM (fun (r : Option (List (List UInt8))) (pv2 : Value) (cur : List (List UInt8)) (es2 : List EntA) (c2 : Nat) => gl w0 v k i j = r ∧ (∀ qs, r = some qs → cur = ps ++ qs) ∧ (r = none → cur.take ps.length = ps ∧ ps.length ≤ cur.length) ∧ uR w0 v k es2 ∧ (∀ e ∈ es2, e ∈ es ∨ j + 1 ≤ e.1.2)) (fun r _ _ _ _ => [(2, ptr bd), (3, ptr bp), (11, ptr b11), (14, i64 ps.length), (15, .bool r.isSome)]) (fun _ _ _ _ _ => K) (fun r pv2 cur es2 c2 => [pt b11 (aU [i64 i, i64 j] 428), pt bp (aU [pv2] 39), sl false (bK 9) pv2 cur, pt md (mapA es2 c2)]) ?_ ?_
      ·
        refine bF (aI ?_);refine aB ?_;refine aA (aC rfl) rfl ?_;refine aA (aK ts9 rfl aM rfl) rfl ?_;refine aA (cB rfl Tryz.underlying9 rfl) rfl ?_;refine aA (bT rfl rfl) rfl ?_;refine aA (aF rfl) rfl ?_;refine aG (aE ?_);refine bE 44 rfl (fun h44 => ?_) (fun h44 => ?_)
        ·
          refine aB ?_;refine aA (aC rfl) rfl ?_;refine aA (aK ts9 rfl aM rfl) rfl ?_;refine aA (cB rfl Tryz.underlying9 rfl) rfl ?_;refine aA (bT rfl rfl) rfl ?_;refine aA (aF rfl) rfl ?_;refine aG (aN ?_)
          first
            | (exact bN r2 pv2 cur es2 c2 ⟨(by cases r2 with | none => (first | (rw [hln rfl, show v.length + 1 - e = 0 from by omega]; rfl) | (simp at h66)) | some q => exact (hls q rfl).1), fun qs h => (hls qs h).2, hlt, hld, hlw⟩ (.cons 2 rfl (.cons 3 rfl (.cons 11 rfl (.cons 14 rfl (.cons 15 rfl .nil))))) rfl bG)
            | (exact bN none pv ps es c ⟨j8 hc hjl aH aH, (fun qs h => by cases h), (fun _ => ⟨List.take_length, Nat.le_refl _⟩), hes, (fun q hq => .inl hq)⟩ (.cons 2 rfl (.cons 3 rfl (.cons 11 rfl (.cons 14 rfl (.cons 15 rfl .nil))))) rfl bG)
            | (have hge := gl_q (w := w0) hc hjl hx aH
               refine aO (.cons (.there (.there (.there (.there .here)))) (.cons .here (.cons .here (.cons .here .nil)))) ?_;rcases hq : gl w0 v k (i + 1) (j + 1) with _ | qs
               · (rw [hq] at hge; exact bN none pv3 (ps ++ [((w0.take (i + 1)).drop i)] ++ []) es3 c3 ⟨hge, (fun qs h => by cases h), (fun _ => ⟨by simp, by simp⟩), hde3, (fun q hq2 => (hnew3 q hq2).elim (fun h => .inl h) (fun h => .inr h))⟩ (.cons 2 rfl (.cons 3 rfl (.cons 11 rfl (.cons 14 rfl (.cons 15 rfl .nil))))) rfl bG)
               · (rw [hq] at hge; exact bN (some (((w0.take (i + 1)).drop i) :: qs)) pv3 (ps ++ [((w0.take (i + 1)).drop i)] ++ qs) es3 c3 ⟨hge, (fun qs2 h => by cases h; simp), (fun h => by cases h), hde3, (fun q hq2 => (hnew3 q hq2).elim (fun h => .inl h) (fun h => .inr h))⟩ (.cons 2 rfl (.cons 3 rfl (.cons 11 rfl (.cons 14 rfl (.cons 15 rfl .nil))))) rfl bG))
            | (have hxd : x = d := UInt8.toNat_inj.1 aH
               have hge := gD (w := w0) hc aH hx aH hd;rw [if_pos hxd] at hge;refine aO (.cons (.there (.there (.there .here))) (.cons .here (.cons .here (.cons .here .nil)))) ?_;rcases hq : gl w0 v k (i + 1) (j + 2) with _ | qs
               · (rw [hq] at hge; exact bN none pv3 (ps ++ []) es3 c3 ⟨hge, (fun qs h => by cases h), (fun _ => ⟨by simp, by simp⟩), hde3, (fun q hq2 => (hnew3 q hq2).elim (fun h => .inl h) (fun h => .inr aH))⟩ (.cons 2 rfl (.cons 3 rfl (.cons 11 rfl (.cons 14 rfl (.cons 15 rfl .nil))))) rfl bG)
               · (rw [hq] at hge; exact bN (some qs) pv3 (ps ++ qs) es3 c3 ⟨hge, (fun qs2 h => by cases h; simp), (fun h => by cases h), hde3, (fun q hq2 => (hnew3 q hq2).elim (fun h => .inl h) (fun h => .inr aH))⟩ (.cons 2 rfl (.cons 3 rfl (.cons 11 rfl (.cons 14 rfl (.cons 15 rfl .nil))))) rfl bG))
            | (have hxd : ¬ x = d := (fun h => by subst h; omega)
               have hge := gD (w := w0) hc aH hx aH hd;rw [if_neg hxd] at hge;exact bN none pv ps es c ⟨hge, (fun qs h => by cases h), (fun _ => ⟨List.take_length, Nat.le_refl _⟩), hes, (fun q hq => .inl hq)⟩ (.cons 2 rfl (.cons 3 rfl (.cons 11 rfl (.cons 14 rfl (.cons 15 rfl .nil))))) rfl bG)
            | (have hxd : x = c1 := UInt8.toNat_inj.1 aH
               have hge := gE (w := w0) hc hjl hx aH aH aH;rw [if_pos hxd] at hge;refine aO (.cons (.there (.there (.there .here))) (.cons .here (.cons .here (.cons .here .nil)))) ?_;rcases hq : gl w0 v k (i + 1) (j + 1) with _ | qs
               · (rw [hq] at hge; exact bN none pv3 (ps ++ []) es3 c3 ⟨hge, (fun qs h => by cases h), (fun _ => ⟨by simp, by simp⟩), hde3, (fun q hq2 => (hnew3 q hq2).elim (fun h => .inl h) (fun h => .inr h))⟩ (.cons 2 rfl (.cons 3 rfl (.cons 11 rfl (.cons 14 rfl (.cons 15 rfl .nil))))) rfl bG)
               · (rw [hq] at hge; exact bN (some qs) pv3 (ps ++ qs) es3 c3 ⟨hge, (fun qs2 h => by cases h; simp), (fun h => by cases h), hde3, (fun q hq2 => (hnew3 q hq2).elim (fun h => .inl h) (fun h => .inr h))⟩ (.cons 2 rfl (.cons 3 rfl (.cons 11 rfl (.cons 14 rfl (.cons 15 rfl .nil))))) rfl bG))
            | (have hxd : ¬ x = c1 := (fun h => by subst h; omega)
               have hge := gE (w := w0) hc hjl hx aH aH aH;rw [if_neg hxd] at hge;exact bN none pv ps es c ⟨hge, (fun qs h => by cases h), (fun _ => ⟨List.take_length, Nat.le_refl _⟩), hes, (fun q hq => .inl hq)⟩ (.cons 2 rfl (.cons 3 rfl (.cons 11 rfl (.cons 14 rfl (.cons 15 rfl .nil))))) rfl bG)
            | (have hge := mJ (w := w0) (v := v) (k := k) (i := i) (j := j) aH
               by_cases hiv : i = v.length
               · (rw [if_pos hiv] at hge; rw [show decide ((i : Int) = (v.length : Int)) = true from decide_eq_true aH]; exact bN (some []) pv ps es c ⟨hge, (fun qs h => by cases h; simp), (fun h => by cases h), hes, (fun q hq => .inl hq)⟩ (.cons 2 rfl (.cons 3 rfl (.cons 11 rfl (.cons 14 rfl (.cons 15 rfl .nil))))) rfl bG)
               · (rw [if_neg hiv] at hge; rw [show decide ((i : Int) = (v.length : Int)) = false from decide_eq_false aH]; exact bN none pv ps es c ⟨hge, (fun qs h => by cases h), (fun _ => ⟨List.take_length, Nat.le_refl _⟩), hes, (fun q hq => .inl hq)⟩ (.cons 2 rfl (.cons 3 rfl (.cons 11 rfl (.cons 14 rfl (.cons 15 rfl .nil))))) rfl bG))
        ·
          have hjl : j < k.length := by omega
          obtain ⟨c1, hc⟩ : ∃ c1, k[j]? = some c1 := ⟨k[j]'hjl, List.getElem?_eq_getElem hjl⟩;refine aI (aB ?_);refine aA (aK ts9 rfl aM rfl) rfl ?_;refine aA (aC rfl) rfl ?_;refine aA (dB Tryz.underlying9 rfl rfl rfl bP) rfl ?_;refine aA (bT rfl rfl) rfl ?_;refine aA (aF rfl) rfl ?_;refine aG (aE ?_);refine bE 53 rfl (fun h53 => ?_) (fun h53 => ?_)
          ·
            refine aI (aB ?_);refine aA (aC rfl) rfl ?_;refine aA (aF rfl) rfl ?_;refine aG (aE ?_);refine bF ?_;refine aAN (fun (e : Nat) (r2 : Option (List (List UInt8))) (pv2 : Value) (cur : List (List UInt8)) (es2 : List EntA) (c2 : Nat) (_ : Unit) => (i ≤ e ∧ e ≤ v.length + 1) ∧ (r2 = none → gl w0 v k i j = iH (fun e => (gl w0 v k e (j + 1)).map fun qs => ((w0.take e).drop i) :: qs) (v.length + 1 - e) e) ∧ (∀ qs, r2 = some qs → gl w0 v k i j = some qs ∧ cur = ps ++ qs) ∧ (r2 = none → cur.take ps.length = ps ∧ ps.length ≤ cur.length) ∧ uR w0 v k es2 ∧ (∀ e ∈ es2, e ∈ es ∨ j + 1 ≤ e.1.2)) (fun e r2 _ _ _ _ _ => [(0, i64 i), (1, i64 j), (2, ptr bd), (3, ptr bp), (4, ptr bk), (5, ptr bv), (6, ptr bw), (7, ptr bm), (11, ptr b11), (14, i64 ps.length), (15, .bool r2.isSome), (16, i64 e)]) (fun _ _ _ _ _ _ _ => K) (fun _ _ pv2 cur es2 c2 _ => [pt b11 (aU [i64 i, i64 j] 428), pt bp (aU [pv2] 39), sl false (bK 9) pv2 cur, pt md (mapA es2 c2)]) (fun e _ _ _ _ _ _ => v.length + 1 - e) i none pv ps es c () ⟨⟨Nat.le_refl _, by omega⟩, fun _ => aMT hc hjl aH, (fun qs h => by cases h), (fun _ => ⟨List.take_length, Nat.le_refl _⟩), hes, (fun q hq => .inl hq)⟩ (.cons 0 rfl (.cons 1 rfl (.cons 2 rfl (.cons 3 rfl (.cons 4 rfl (.cons 5 rfl (.cons 6 rfl (.cons 7 rfl (.cons 11 rfl (.cons 14 rfl (.cons 15 rfl (.cons 16 rfl .nil)))))))))))) rfl (fun _ h => h) ?_;intro e r2 pv2 cur es2 c2 _ ⟨hle, hln, hls, hlt, hld, hlw⟩;refine aI (aI ?_);refine aB ?_;refine aA (aC rfl) rfl ?_;refine aA (aK ts9 rfl aM rfl) rfl ?_;refine aA (cB rfl Tryz.underlying9 rfl) rfl ?_;refine aA (j7 rfl rfl) rfl ?_;refine aA (aC rfl) rfl ?_;refine cA 63 rfl (fun g63 => ?_) (fun g63 => ?_)
            ·
              refine aT rfl rfl ?_;refine aA (aC rfl) rfl ?_;refine aT rfl rfl ?_;refine aA (by first | exact dM rfl | exact dU rfl) rfl ?_;refine aA (bH rfl rfl) rfl ?_;refine aG (aE ?_);refine eB 66 rfl (fun h66 => ?_) (fun h66 => ?_)
              ·
                obtain rfl : r2 = none := (by cases r2 with | none => rfl | some q => simp at h66);obtain ⟨hct, hcl⟩ := hlt rfl;refine a6 ?_;refine aE (aI ?_);refine bF (aI ?_);refine t_draw (anc := [0, 0, 3, 0, 0, 0, 56, 120, 255, 511]) (ord := [0, 1, 2, 3, 4, 5, 6, 7, 8, 9]) [7, 8, 9] [8, 9] mixed (by decide +kernel) (.cons (.there .here) (.cons (.there .here) .nil)) ?_;refine dl_ev rfl rfl (.none rfl) rfl rfl (aK ts39 rfl aM rfl) rfl ?_;refine dl_ev rfl rfl (.none rfl) rfl rfl (aC rfl) rfl ?_;refine dl_ev rfl rfl (.none rfl) rfl rfl (q9 (k := bK 9) (m := ps.length) cT rfl (.there .here) (.there .here) rfl rfl hcl) rfl ?_;refine dl_ev rfl rfl (.none rfl) rfl rfl (aK ts9 rfl aM rfl) rfl ?_;refine dl_ev rfl rfl (.none rfl) rfl rfl (aC rfl) rfl ?_;refine dl_ev rfl rfl (.none rfl) rfl rfl (aC rfl) rfl ?_;refine dl_ev rfl rfl (.none rfl) rfl rfl (i8 (m := i) (n := e) Tryz.underlying9 rfl rfl rfl rfl rfl aH aH) rfl ?_;refine dl_s rfl rfl (.none rfl) rfl rfl (bO (z0 := [(str [])]) cT tz9 rfl rfl rfl rfl (.cons rfl rfl rfl (.cons .nil) .nil)) rfl ?_;rintro _ K _ ⟨b76, rfl, rfl, rfl⟩ -;refine ⟨_, (show Tks _ _ _ from (.cons (.there .here) (.cons (.there .here) .nil))).sat, ?_⟩
                refine dl_g rfl rfl (.none rfl) rfl (aMP (fun h hh => gX (uL (m := ps.length) hcl) h ((show Tks [_] _ _ from .cons (.there .here) .nil).sat h hh)) (dQ (k := (bK 9)) (ys := [((w0.take e).drop i)]) gK rfl rfl .here (fun w j => dN Tryz.underlying39 (SeesSl.at (.blk (.own (.there (.there .here))) rfl rfl) j)) (by rw [hct]; first | (simp; omega) | omega) (by rw [hct]; first | (simp; omega) | omega))) rfl ?_;rintro v77 K _ ⟨rfl, rfl, ho77⟩ -;refine r6 rfl rfl (.none rfl) rfl (bI ts39 rfl rfl cG a7 .zero rfl) ?_;rintro _ K _ ⟨rfl, rfl⟩ -;refine dl_nil ?_;refine aE ?_;rw [hct];refine aB ?_;refine aA (aK wW rfl aM rfl) rfl ?_;refine aA (aC rfl) rfl ?_;refine aA (aC rfl) rfl ?_;refine aA (bZ rfl rfl aH aH) rfl ?_;rw [rW j];refine bD rfl rfl (ih e (j + 1) (ps ++ [((w0.take e).drop i)]) es2 c2 _ _ aH ⟨kd, kk, kv, kw, km⟩ aH aH (by rw [List.length_append]; simp only [List.length_singleton]; omega) hld) (.cons (.there .here) (.cons .here (.cons (.there (.there .here)) .nil))) rfl ?_;rintro _ K _ ⟨rfl, rfl, pv3, es3, c3, hde3, hnew3, rfl⟩ -;refine aA (aF rfl) rfl ?_;refine aG (aN ?_);refine aE (aB ?_);refine aA (aC rfl) rfl ?_;refine aA (bZ rfl rfl aH aH) rfl ?_;refine aA (aF rfl) rfl ?_;refine aG ?_;refine aO (.cons (.there (.there (.there (.there .here)))) (.cons .here (.cons .here (.cons .here .nil)))) ?_;rcases hq : gl w0 v k e (j + 1) with _ | qs
                · (refine hU (e + 1) none pv3 (ps ++ [((w0.take e).drop i)] ++ []) es3 c3 () ⟨⟨by omega, by omega⟩, (fun _ => by rw [hln rfl, aGQ aH (by rw [hq]; rfl)]), (fun qs h => by cases h), (fun _ => ⟨by simp, by simp⟩), hde3, (fun q hq2 => (hnew3 q hq2).elim (fun h => hlw q h) (fun h => .inr h))⟩ aH (.cons 0 rfl (.cons 1 rfl (.cons 2 rfl (.cons 3 rfl (.cons 4 rfl (.cons 5 rfl (.cons 6 rfl (.cons 7 rfl (.cons 11 rfl (.cons 14 rfl (.cons 15 rfl (.cons 16 rfl .nil)))))))))))) rfl bG)
                · (refine hU (e + 1) (some (((w0.take e).drop i) :: qs)) pv3 (ps ++ [((w0.take e).drop i)] ++ qs) es3 c3 () ⟨⟨by omega, by omega⟩, (fun h => by cases h), (fun qs2 h => by cases h; exact ⟨by rw [hln rfl, aDU aH (by rw [hq]; rfl)], by simp⟩), (fun h => by cases h), hde3, (fun q hq2 => (hnew3 q hq2).elim (fun h => hlw q h) (fun h => .inr h))⟩ aH (.cons 0 rfl (.cons 1 rfl (.cons 2 rfl (.cons 3 rfl (.cons 4 rfl (.cons 5 rfl (.cons 6 rfl (.cons 7 rfl (.cons 11 rfl (.cons 14 rfl (.cons 15 rfl (.cons 16 rfl .nil)))))))))))) rfl bG)
              ·
                refine cY ?_;refine aV ?_;refine aV ?_;refine bL ?_;refine aN ?_
                first
                  | (exact bN r2 pv2 cur es2 c2 ⟨(by cases r2 with | none => (first | (rw [hln rfl, show v.length + 1 - e = 0 from by omega]; rfl) | (simp at h66)) | some q => exact (hls q rfl).1), fun qs h => (hls qs h).2, hlt, hld, hlw⟩ (.cons 2 rfl (.cons 3 rfl (.cons 11 rfl (.cons 14 rfl (.cons 15 rfl .nil))))) rfl bG)
                  | (exact bN none pv ps es c ⟨j8 hc hjl aH aH, (fun qs h => by cases h), (fun _ => ⟨List.take_length, Nat.le_refl _⟩), hes, (fun q hq => .inl hq)⟩ (.cons 2 rfl (.cons 3 rfl (.cons 11 rfl (.cons 14 rfl (.cons 15 rfl .nil))))) rfl bG)
                  | (have hge := gl_q (w := w0) hc hjl hx aH
                     refine aO (.cons (.there (.there (.there (.there .here)))) (.cons .here (.cons .here (.cons .here .nil)))) ?_;rcases hq : gl w0 v k (i + 1) (j + 1) with _ | qs
                     · (rw [hq] at hge; exact bN none pv3 (ps ++ [((w0.take (i + 1)).drop i)] ++ []) es3 c3 ⟨hge, (fun qs h => by cases h), (fun _ => ⟨by simp, by simp⟩), hde3, (fun q hq2 => (hnew3 q hq2).elim (fun h => .inl h) (fun h => .inr h))⟩ (.cons 2 rfl (.cons 3 rfl (.cons 11 rfl (.cons 14 rfl (.cons 15 rfl .nil))))) rfl bG)
                     · (rw [hq] at hge; exact bN (some (((w0.take (i + 1)).drop i) :: qs)) pv3 (ps ++ [((w0.take (i + 1)).drop i)] ++ qs) es3 c3 ⟨hge, (fun qs2 h => by cases h; simp), (fun h => by cases h), hde3, (fun q hq2 => (hnew3 q hq2).elim (fun h => .inl h) (fun h => .inr h))⟩ (.cons 2 rfl (.cons 3 rfl (.cons 11 rfl (.cons 14 rfl (.cons 15 rfl .nil))))) rfl bG))
                  | (have hxd : x = d := UInt8.toNat_inj.1 aH
                     have hge := gD (w := w0) hc aH hx aH hd;rw [if_pos hxd] at hge;refine aO (.cons (.there (.there (.there .here))) (.cons .here (.cons .here (.cons .here .nil)))) ?_;rcases hq : gl w0 v k (i + 1) (j + 2) with _ | qs
                     · (rw [hq] at hge; exact bN none pv3 (ps ++ []) es3 c3 ⟨hge, (fun qs h => by cases h), (fun _ => ⟨by simp, by simp⟩), hde3, (fun q hq2 => (hnew3 q hq2).elim (fun h => .inl h) (fun h => .inr aH))⟩ (.cons 2 rfl (.cons 3 rfl (.cons 11 rfl (.cons 14 rfl (.cons 15 rfl .nil))))) rfl bG)
                     · (rw [hq] at hge; exact bN (some qs) pv3 (ps ++ qs) es3 c3 ⟨hge, (fun qs2 h => by cases h; simp), (fun h => by cases h), hde3, (fun q hq2 => (hnew3 q hq2).elim (fun h => .inl h) (fun h => .inr aH))⟩ (.cons 2 rfl (.cons 3 rfl (.cons 11 rfl (.cons 14 rfl (.cons 15 rfl .nil))))) rfl bG))
                  | (have hxd : ¬ x = d := (fun h => by subst h; omega)
                     have hge := gD (w := w0) hc aH hx aH hd;rw [if_neg hxd] at hge;exact bN none pv ps es c ⟨hge, (fun qs h => by cases h), (fun _ => ⟨List.take_length, Nat.le_refl _⟩), hes, (fun q hq => .inl hq)⟩ (.cons 2 rfl (.cons 3 rfl (.cons 11 rfl (.cons 14 rfl (.cons 15 rfl .nil))))) rfl bG)
                  | (have hxd : x = c1 := UInt8.toNat_inj.1 aH
                     have hge := gE (w := w0) hc hjl hx aH aH aH;rw [if_pos hxd] at hge;refine aO (.cons (.there (.there (.there .here))) (.cons .here (.cons .here (.cons .here .nil)))) ?_;rcases hq : gl w0 v k (i + 1) (j + 1) with _ | qs
                     · (rw [hq] at hge; exact bN none pv3 (ps ++ []) es3 c3 ⟨hge, (fun qs h => by cases h), (fun _ => ⟨by simp, by simp⟩), hde3, (fun q hq2 => (hnew3 q hq2).elim (fun h => .inl h) (fun h => .inr h))⟩ (.cons 2 rfl (.cons 3 rfl (.cons 11 rfl (.cons 14 rfl (.cons 15 rfl .nil))))) rfl bG)
                     · (rw [hq] at hge; exact bN (some qs) pv3 (ps ++ qs) es3 c3 ⟨hge, (fun qs2 h => by cases h; simp), (fun h => by cases h), hde3, (fun q hq2 => (hnew3 q hq2).elim (fun h => .inl h) (fun h => .inr h))⟩ (.cons 2 rfl (.cons 3 rfl (.cons 11 rfl (.cons 14 rfl (.cons 15 rfl .nil))))) rfl bG))
                  | (have hxd : ¬ x = c1 := (fun h => by subst h; omega)
                     have hge := gE (w := w0) hc hjl hx aH aH aH;rw [if_neg hxd] at hge;exact bN none pv ps es c ⟨hge, (fun qs h => by cases h), (fun _ => ⟨List.take_length, Nat.le_refl _⟩), hes, (fun q hq => .inl hq)⟩ (.cons 2 rfl (.cons 3 rfl (.cons 11 rfl (.cons 14 rfl (.cons 15 rfl .nil))))) rfl bG)
                  | (have hge := mJ (w := w0) (v := v) (k := k) (i := i) (j := j) aH
                     by_cases hiv : i = v.length
                     · (rw [if_pos hiv] at hge; rw [show decide ((i : Int) = (v.length : Int)) = true from decide_eq_true aH]; exact bN (some []) pv ps es c ⟨hge, (fun qs h => by cases h; simp), (fun h => by cases h), hes, (fun q hq => .inl hq)⟩ (.cons 2 rfl (.cons 3 rfl (.cons 11 rfl (.cons 14 rfl (.cons 15 rfl .nil))))) rfl bG)
                     · (rw [if_neg hiv] at hge; rw [show decide ((i : Int) = (v.length : Int)) = false from decide_eq_false aH]; exact bN none pv ps es c ⟨hge, (fun qs h => by cases h), (fun _ => ⟨List.take_length, Nat.le_refl _⟩), hes, (fun q hq => .inl hq)⟩ (.cons 2 rfl (.cons 3 rfl (.cons 11 rfl (.cons 14 rfl (.cons 15 rfl .nil))))) rfl bG))
            ·
              refine aQ rfl rfl rfl ?_;refine aQ rfl rfl rfl ?_;refine aA (a8 rfl rfl) rfl ?_;refine aG (aE ?_);refine cQ rfl ?_;refine cY ?_;refine aV ?_;refine aV ?_;refine bL ?_;refine aN ?_
              first
                | (exact bN r2 pv2 cur es2 c2 ⟨(by cases r2 with | none => (first | (rw [hln rfl, show v.length + 1 - e = 0 from by omega]; rfl) | (simp at h66)) | some q => exact (hls q rfl).1), fun qs h => (hls qs h).2, hlt, hld, hlw⟩ (.cons 2 rfl (.cons 3 rfl (.cons 11 rfl (.cons 14 rfl (.cons 15 rfl .nil))))) rfl bG)
                | (exact bN none pv ps es c ⟨j8 hc hjl aH aH, (fun qs h => by cases h), (fun _ => ⟨List.take_length, Nat.le_refl _⟩), hes, (fun q hq => .inl hq)⟩ (.cons 2 rfl (.cons 3 rfl (.cons 11 rfl (.cons 14 rfl (.cons 15 rfl .nil))))) rfl bG)
                | (have hge := gl_q (w := w0) hc hjl hx aH
                   refine aO (.cons (.there (.there (.there (.there .here)))) (.cons .here (.cons .here (.cons .here .nil)))) ?_;rcases hq : gl w0 v k (i + 1) (j + 1) with _ | qs
                   · (rw [hq] at hge; exact bN none pv3 (ps ++ [((w0.take (i + 1)).drop i)] ++ []) es3 c3 ⟨hge, (fun qs h => by cases h), (fun _ => ⟨by simp, by simp⟩), hde3, (fun q hq2 => (hnew3 q hq2).elim (fun h => .inl h) (fun h => .inr h))⟩ (.cons 2 rfl (.cons 3 rfl (.cons 11 rfl (.cons 14 rfl (.cons 15 rfl .nil))))) rfl bG)
                   · (rw [hq] at hge; exact bN (some (((w0.take (i + 1)).drop i) :: qs)) pv3 (ps ++ [((w0.take (i + 1)).drop i)] ++ qs) es3 c3 ⟨hge, (fun qs2 h => by cases h; simp), (fun h => by cases h), hde3, (fun q hq2 => (hnew3 q hq2).elim (fun h => .inl h) (fun h => .inr h))⟩ (.cons 2 rfl (.cons 3 rfl (.cons 11 rfl (.cons 14 rfl (.cons 15 rfl .nil))))) rfl bG))
                | (have hxd : x = d := UInt8.toNat_inj.1 aH
                   have hge := gD (w := w0) hc aH hx aH hd;rw [if_pos hxd] at hge;refine aO (.cons (.there (.there (.there .here))) (.cons .here (.cons .here (.cons .here .nil)))) ?_;rcases hq : gl w0 v k (i + 1) (j + 2) with _ | qs
                   · (rw [hq] at hge; exact bN none pv3 (ps ++ []) es3 c3 ⟨hge, (fun qs h => by cases h), (fun _ => ⟨by simp, by simp⟩), hde3, (fun q hq2 => (hnew3 q hq2).elim (fun h => .inl h) (fun h => .inr aH))⟩ (.cons 2 rfl (.cons 3 rfl (.cons 11 rfl (.cons 14 rfl (.cons 15 rfl .nil))))) rfl bG)
                   · (rw [hq] at hge; exact bN (some qs) pv3 (ps ++ qs) es3 c3 ⟨hge, (fun qs2 h => by cases h; simp), (fun h => by cases h), hde3, (fun q hq2 => (hnew3 q hq2).elim (fun h => .inl h) (fun h => .inr aH))⟩ (.cons 2 rfl (.cons 3 rfl (.cons 11 rfl (.cons 14 rfl (.cons 15 rfl .nil))))) rfl bG))
                | (have hxd : ¬ x = d := (fun h => by subst h; omega)
                   have hge := gD (w := w0) hc aH hx aH hd;rw [if_neg hxd] at hge;exact bN none pv ps es c ⟨hge, (fun qs h => by cases h), (fun _ => ⟨List.take_length, Nat.le_refl _⟩), hes, (fun q hq => .inl hq)⟩ (.cons 2 rfl (.cons 3 rfl (.cons 11 rfl (.cons 14 rfl (.cons 15 rfl .nil))))) rfl bG)
                | (have hxd : x = c1 := UInt8.toNat_inj.1 aH
                   have hge := gE (w := w0) hc hjl hx aH aH aH;rw [if_pos hxd] at hge;refine aO (.cons (.there (.there (.there .here))) (.cons .here (.cons .here (.cons .here .nil)))) ?_;rcases hq : gl w0 v k (i + 1) (j + 1) with _ | qs
                   · (rw [hq] at hge; exact bN none pv3 (ps ++ []) es3 c3 ⟨hge, (fun qs h => by cases h), (fun _ => ⟨by simp, by simp⟩), hde3, (fun q hq2 => (hnew3 q hq2).elim (fun h => .inl h) (fun h => .inr h))⟩ (.cons 2 rfl (.cons 3 rfl (.cons 11 rfl (.cons 14 rfl (.cons 15 rfl .nil))))) rfl bG)
                   · (rw [hq] at hge; exact bN (some qs) pv3 (ps ++ qs) es3 c3 ⟨hge, (fun qs2 h => by cases h; simp), (fun h => by cases h), hde3, (fun q hq2 => (hnew3 q hq2).elim (fun h => .inl h) (fun h => .inr h))⟩ (.cons 2 rfl (.cons 3 rfl (.cons 11 rfl (.cons 14 rfl (.cons 15 rfl .nil))))) rfl bG))
                | (have hxd : ¬ x = c1 := (fun h => by subst h; omega)
                   have hge := gE (w := w0) hc hjl hx aH aH aH;rw [if_neg hxd] at hge;exact bN none pv ps es c ⟨hge, (fun qs h => by cases h), (fun _ => ⟨List.take_length, Nat.le_refl _⟩), hes, (fun q hq => .inl hq)⟩ (.cons 2 rfl (.cons 3 rfl (.cons 11 rfl (.cons 14 rfl (.cons 15 rfl .nil))))) rfl bG)
                | (have hge := mJ (w := w0) (v := v) (k := k) (i := i) (j := j) aH
                   by_cases hiv : i = v.length
                   · (rw [if_pos hiv] at hge; rw [show decide ((i : Int) = (v.length : Int)) = true from decide_eq_true aH]; exact bN (some []) pv ps es c ⟨hge, (fun qs h => by cases h; simp), (fun h => by cases h), hes, (fun q hq => .inl hq)⟩ (.cons 2 rfl (.cons 3 rfl (.cons 11 rfl (.cons 14 rfl (.cons 15 rfl .nil))))) rfl bG)
                   · (rw [if_neg hiv] at hge; rw [show decide ((i : Int) = (v.length : Int)) = false from decide_eq_false aH]; exact bN none pv ps es c ⟨hge, (fun qs h => by cases h), (fun _ => ⟨List.take_length, Nat.le_refl _⟩), hes, (fun q hq => .inl hq)⟩ (.cons 2 rfl (.cons 3 rfl (.cons 11 rfl (.cons 14 rfl (.cons 15 rfl .nil))))) rfl bG))
          ·
            refine aI (aB ?_);refine aA (aC rfl) rfl ?_;refine aA (aK ts9 rfl aM rfl) rfl ?_;refine aA (cB rfl Tryz.underlying9 rfl) rfl ?_;refine aA (bT rfl rfl) rfl ?_;refine aA (aF rfl) rfl ?_;refine aG (aE ?_);refine bE 83 rfl (fun h83 => ?_) (fun h83 => ?_)
            ·
              refine a6 ?_;refine aN ?_
              first
                | (exact bN r2 pv2 cur es2 c2 ⟨(by cases r2 with | none => (first | (rw [hln rfl, show v.length + 1 - e = 0 from by omega]; rfl) | (simp at h66)) | some q => exact (hls q rfl).1), fun qs h => (hls qs h).2, hlt, hld, hlw⟩ (.cons 2 rfl (.cons 3 rfl (.cons 11 rfl (.cons 14 rfl (.cons 15 rfl .nil))))) rfl bG)
                | (exact bN none pv ps es c ⟨j8 hc hjl aH aH, (fun qs h => by cases h), (fun _ => ⟨List.take_length, Nat.le_refl _⟩), hes, (fun q hq => .inl hq)⟩ (.cons 2 rfl (.cons 3 rfl (.cons 11 rfl (.cons 14 rfl (.cons 15 rfl .nil))))) rfl bG)
                | (have hge := gl_q (w := w0) hc hjl hx aH
                   refine aO (.cons (.there (.there (.there (.there .here)))) (.cons .here (.cons .here (.cons .here .nil)))) ?_;rcases hq : gl w0 v k (i + 1) (j + 1) with _ | qs
                   · (rw [hq] at hge; exact bN none pv3 (ps ++ [((w0.take (i + 1)).drop i)] ++ []) es3 c3 ⟨hge, (fun qs h => by cases h), (fun _ => ⟨by simp, by simp⟩), hde3, (fun q hq2 => (hnew3 q hq2).elim (fun h => .inl h) (fun h => .inr h))⟩ (.cons 2 rfl (.cons 3 rfl (.cons 11 rfl (.cons 14 rfl (.cons 15 rfl .nil))))) rfl bG)
                   · (rw [hq] at hge; exact bN (some (((w0.take (i + 1)).drop i) :: qs)) pv3 (ps ++ [((w0.take (i + 1)).drop i)] ++ qs) es3 c3 ⟨hge, (fun qs2 h => by cases h; simp), (fun h => by cases h), hde3, (fun q hq2 => (hnew3 q hq2).elim (fun h => .inl h) (fun h => .inr h))⟩ (.cons 2 rfl (.cons 3 rfl (.cons 11 rfl (.cons 14 rfl (.cons 15 rfl .nil))))) rfl bG))
                | (have hxd : x = d := UInt8.toNat_inj.1 aH
                   have hge := gD (w := w0) hc aH hx aH hd;rw [if_pos hxd] at hge;refine aO (.cons (.there (.there (.there .here))) (.cons .here (.cons .here (.cons .here .nil)))) ?_;rcases hq : gl w0 v k (i + 1) (j + 2) with _ | qs
                   · (rw [hq] at hge; exact bN none pv3 (ps ++ []) es3 c3 ⟨hge, (fun qs h => by cases h), (fun _ => ⟨by simp, by simp⟩), hde3, (fun q hq2 => (hnew3 q hq2).elim (fun h => .inl h) (fun h => .inr aH))⟩ (.cons 2 rfl (.cons 3 rfl (.cons 11 rfl (.cons 14 rfl (.cons 15 rfl .nil))))) rfl bG)
                   · (rw [hq] at hge; exact bN (some qs) pv3 (ps ++ qs) es3 c3 ⟨hge, (fun qs2 h => by cases h; simp), (fun h => by cases h), hde3, (fun q hq2 => (hnew3 q hq2).elim (fun h => .inl h) (fun h => .inr aH))⟩ (.cons 2 rfl (.cons 3 rfl (.cons 11 rfl (.cons 14 rfl (.cons 15 rfl .nil))))) rfl bG))
                | (have hxd : ¬ x = d := (fun h => by subst h; omega)
                   have hge := gD (w := w0) hc aH hx aH hd;rw [if_neg hxd] at hge;exact bN none pv ps es c ⟨hge, (fun qs h => by cases h), (fun _ => ⟨List.take_length, Nat.le_refl _⟩), hes, (fun q hq => .inl hq)⟩ (.cons 2 rfl (.cons 3 rfl (.cons 11 rfl (.cons 14 rfl (.cons 15 rfl .nil))))) rfl bG)
                | (have hxd : x = c1 := UInt8.toNat_inj.1 aH
                   have hge := gE (w := w0) hc hjl hx aH aH aH;rw [if_pos hxd] at hge;refine aO (.cons (.there (.there (.there .here))) (.cons .here (.cons .here (.cons .here .nil)))) ?_;rcases hq : gl w0 v k (i + 1) (j + 1) with _ | qs
                   · (rw [hq] at hge; exact bN none pv3 (ps ++ []) es3 c3 ⟨hge, (fun qs h => by cases h), (fun _ => ⟨by simp, by simp⟩), hde3, (fun q hq2 => (hnew3 q hq2).elim (fun h => .inl h) (fun h => .inr h))⟩ (.cons 2 rfl (.cons 3 rfl (.cons 11 rfl (.cons 14 rfl (.cons 15 rfl .nil))))) rfl bG)
                   · (rw [hq] at hge; exact bN (some qs) pv3 (ps ++ qs) es3 c3 ⟨hge, (fun qs2 h => by cases h; simp), (fun h => by cases h), hde3, (fun q hq2 => (hnew3 q hq2).elim (fun h => .inl h) (fun h => .inr h))⟩ (.cons 2 rfl (.cons 3 rfl (.cons 11 rfl (.cons 14 rfl (.cons 15 rfl .nil))))) rfl bG))
                | (have hxd : ¬ x = c1 := (fun h => by subst h; omega)
                   have hge := gE (w := w0) hc hjl hx aH aH aH;rw [if_neg hxd] at hge;exact bN none pv ps es c ⟨hge, (fun qs h => by cases h), (fun _ => ⟨List.take_length, Nat.le_refl _⟩), hes, (fun q hq => .inl hq)⟩ (.cons 2 rfl (.cons 3 rfl (.cons 11 rfl (.cons 14 rfl (.cons 15 rfl .nil))))) rfl bG)
                | (have hge := mJ (w := w0) (v := v) (k := k) (i := i) (j := j) aH
                   by_cases hiv : i = v.length
                   · (rw [if_pos hiv] at hge; rw [show decide ((i : Int) = (v.length : Int)) = true from decide_eq_true aH]; exact bN (some []) pv ps es c ⟨hge, (fun qs h => by cases h; simp), (fun h => by cases h), hes, (fun q hq => .inl hq)⟩ (.cons 2 rfl (.cons 3 rfl (.cons 11 rfl (.cons 14 rfl (.cons 15 rfl .nil))))) rfl bG)
                   · (rw [if_neg hiv] at hge; rw [show decide ((i : Int) = (v.length : Int)) = false from decide_eq_false aH]; exact bN none pv ps es c ⟨hge, (fun qs h => by cases h), (fun _ => ⟨List.take_length, Nat.le_refl _⟩), hes, (fun q hq => .inl hq)⟩ (.cons 2 rfl (.cons 3 rfl (.cons 11 rfl (.cons 14 rfl (.cons 15 rfl .nil))))) rfl bG))
            ·
              obtain ⟨x, hx⟩ : ∃ x, v[i]? = some x := ⟨v[i]'(by omega), List.getElem?_eq_getElem aH⟩;refine aI (aB ?_);refine aA (aK ts9 rfl aM rfl) rfl ?_;refine aA (aC rfl) rfl ?_;refine aA (dB Tryz.underlying9 rfl rfl rfl bP) rfl ?_;refine aA (bT rfl rfl) rfl ?_;refine aA (aF rfl) rfl ?_;refine aG (aE ?_);refine bE 88 rfl (fun h88 => ?_) (fun h88 => ?_)
              ·
                refine aI ?_;refine t_draw (anc := [0, 0, 0, 0, 8, 30, 62, 127, 255]) (ord := [0, 1, 2, 3, 4, 5, 6, 7, 8]) [6, 7, 8] [7, 8] mixed (by decide +kernel) (.cons (.there .here) .nil) ?_;refine dl_ev rfl rfl (.none rfl) rfl rfl (aK ts39 rfl aM rfl) rfl ?_;refine dl_ev rfl rfl (.none rfl) rfl rfl (aK ts9 rfl aM rfl) rfl ?_;refine dl_ev rfl rfl (.none rfl) rfl rfl (aC rfl) rfl ?_;refine dl_ev rfl rfl (.none rfl) rfl rfl (aC rfl) rfl ?_;refine dl_ev rfl rfl (.none rfl) rfl rfl (bZ rfl rfl aH aH) rfl ?_;refine dl_ev rfl rfl (.none rfl) rfl rfl (i8 (m := i) (n := i + 1) Tryz.underlying9 rfl rfl rfl rfl rfl aH aH) rfl ?_;refine dl_s rfl rfl (.none rfl) rfl rfl (bO (z0 := [(str [])]) cT tz9 rfl rfl rfl rfl (.cons rfl rfl rfl (.cons .nil) .nil)) rfl ?_;rintro _ K _ ⟨b99, rfl, rfl, rfl⟩ -;refine ⟨_, (show Tks _ _ _ from (.cons (.there .here) .nil)).sat, ?_⟩
                refine dl_g rfl rfl (.none rfl) rfl (dQ (k := (bK 9)) (ys := [((w0.take (i + 1)).drop i)]) gK rfl rfl (.there (.there (.there .here))) (fun w j => dN Tryz.underlying39 (SeesSl.at (.blk (.own (.there .here)) rfl rfl) j)) (by first | (simp; omega) | omega) (by first | (simp; omega) | omega)) rfl ?_;rintro v100 K _ ⟨rfl, rfl, ho100⟩ -;refine r6 rfl rfl (.none rfl) rfl (bI ts39 rfl rfl cG a7 .zero rfl) ?_;rintro _ K _ ⟨rfl, rfl⟩ -;refine dl_nil ?_;refine aE (aB ?_);refine aA (aK wW rfl aM rfl) rfl ?_;refine aA (aC rfl) rfl ?_;refine aA (bZ rfl rfl aH aH) rfl ?_;refine aA (aC rfl) rfl ?_;refine aA (bZ rfl rfl aH aH) rfl ?_;rw [rW j, rW i];refine bD rfl rfl (ih (i + 1) (j + 1) (ps ++ [((w0.take (i + 1)).drop i)]) es c _ _ aH ⟨kd, kk, kv, kw, km⟩ aH aH (by rw [List.length_append]; simp only [List.length_singleton]; omega) hes) (.cons (.there .here) (.cons .here (.cons (.there (.there .here)) .nil))) rfl ?_;rintro _ K _ ⟨rfl, rfl, pv3, es3, c3, hde3, hnew3, rfl⟩ -;refine aA (aF rfl) rfl ?_;refine aG (aN ?_)
                first
                  | (exact bN r2 pv2 cur es2 c2 ⟨(by cases r2 with | none => (first | (rw [hln rfl, show v.length + 1 - e = 0 from by omega]; rfl) | (simp at h66)) | some q => exact (hls q rfl).1), fun qs h => (hls qs h).2, hlt, hld, hlw⟩ (.cons 2 rfl (.cons 3 rfl (.cons 11 rfl (.cons 14 rfl (.cons 15 rfl .nil))))) rfl bG)
                  | (exact bN none pv ps es c ⟨j8 hc hjl aH aH, (fun qs h => by cases h), (fun _ => ⟨List.take_length, Nat.le_refl _⟩), hes, (fun q hq => .inl hq)⟩ (.cons 2 rfl (.cons 3 rfl (.cons 11 rfl (.cons 14 rfl (.cons 15 rfl .nil))))) rfl bG)
                  | (have hge := gl_q (w := w0) hc hjl hx aH
                     refine aO (.cons (.there (.there (.there (.there .here)))) (.cons .here (.cons .here (.cons .here .nil)))) ?_;rcases hq : gl w0 v k (i + 1) (j + 1) with _ | qs
                     · (rw [hq] at hge; exact bN none pv3 (ps ++ [((w0.take (i + 1)).drop i)] ++ []) es3 c3 ⟨hge, (fun qs h => by cases h), (fun _ => ⟨by simp, by simp⟩), hde3, (fun q hq2 => (hnew3 q hq2).elim (fun h => .inl h) (fun h => .inr h))⟩ (.cons 2 rfl (.cons 3 rfl (.cons 11 rfl (.cons 14 rfl (.cons 15 rfl .nil))))) rfl bG)
                     · (rw [hq] at hge; exact bN (some (((w0.take (i + 1)).drop i) :: qs)) pv3 (ps ++ [((w0.take (i + 1)).drop i)] ++ qs) es3 c3 ⟨hge, (fun qs2 h => by cases h; simp), (fun h => by cases h), hde3, (fun q hq2 => (hnew3 q hq2).elim (fun h => .inl h) (fun h => .inr h))⟩ (.cons 2 rfl (.cons 3 rfl (.cons 11 rfl (.cons 14 rfl (.cons 15 rfl .nil))))) rfl bG))
                  | (have hxd : x = d := UInt8.toNat_inj.1 aH
                     have hge := gD (w := w0) hc aH hx aH hd;rw [if_pos hxd] at hge;refine aO (.cons (.there (.there (.there .here))) (.cons .here (.cons .here (.cons .here .nil)))) ?_;rcases hq : gl w0 v k (i + 1) (j + 2) with _ | qs
                     · (rw [hq] at hge; exact bN none pv3 (ps ++ []) es3 c3 ⟨hge, (fun qs h => by cases h), (fun _ => ⟨by simp, by simp⟩), hde3, (fun q hq2 => (hnew3 q hq2).elim (fun h => .inl h) (fun h => .inr aH))⟩ (.cons 2 rfl (.cons 3 rfl (.cons 11 rfl (.cons 14 rfl (.cons 15 rfl .nil))))) rfl bG)
                     · (rw [hq] at hge; exact bN (some qs) pv3 (ps ++ qs) es3 c3 ⟨hge, (fun qs2 h => by cases h; simp), (fun h => by cases h), hde3, (fun q hq2 => (hnew3 q hq2).elim (fun h => .inl h) (fun h => .inr aH))⟩ (.cons 2 rfl (.cons 3 rfl (.cons 11 rfl (.cons 14 rfl (.cons 15 rfl .nil))))) rfl bG))
                  | (have hxd : ¬ x = d := (fun h => by subst h; omega)
                     have hge := gD (w := w0) hc aH hx aH hd;rw [if_neg hxd] at hge;exact bN none pv ps es c ⟨hge, (fun qs h => by cases h), (fun _ => ⟨List.take_length, Nat.le_refl _⟩), hes, (fun q hq => .inl hq)⟩ (.cons 2 rfl (.cons 3 rfl (.cons 11 rfl (.cons 14 rfl (.cons 15 rfl .nil))))) rfl bG)
                  | (have hxd : x = c1 := UInt8.toNat_inj.1 aH
                     have hge := gE (w := w0) hc hjl hx aH aH aH;rw [if_pos hxd] at hge;refine aO (.cons (.there (.there (.there .here))) (.cons .here (.cons .here (.cons .here .nil)))) ?_;rcases hq : gl w0 v k (i + 1) (j + 1) with _ | qs
                     · (rw [hq] at hge; exact bN none pv3 (ps ++ []) es3 c3 ⟨hge, (fun qs h => by cases h), (fun _ => ⟨by simp, by simp⟩), hde3, (fun q hq2 => (hnew3 q hq2).elim (fun h => .inl h) (fun h => .inr h))⟩ (.cons 2 rfl (.cons 3 rfl (.cons 11 rfl (.cons 14 rfl (.cons 15 rfl .nil))))) rfl bG)
                     · (rw [hq] at hge; exact bN (some qs) pv3 (ps ++ qs) es3 c3 ⟨hge, (fun qs2 h => by cases h; simp), (fun h => by cases h), hde3, (fun q hq2 => (hnew3 q hq2).elim (fun h => .inl h) (fun h => .inr h))⟩ (.cons 2 rfl (.cons 3 rfl (.cons 11 rfl (.cons 14 rfl (.cons 15 rfl .nil))))) rfl bG))
                  | (have hxd : ¬ x = c1 := (fun h => by subst h; omega)
                     have hge := gE (w := w0) hc hjl hx aH aH aH;rw [if_neg hxd] at hge;exact bN none pv ps es c ⟨hge, (fun qs h => by cases h), (fun _ => ⟨List.take_length, Nat.le_refl _⟩), hes, (fun q hq => .inl hq)⟩ (.cons 2 rfl (.cons 3 rfl (.cons 11 rfl (.cons 14 rfl (.cons 15 rfl .nil))))) rfl bG)
                  | (have hge := mJ (w := w0) (v := v) (k := k) (i := i) (j := j) aH
                     by_cases hiv : i = v.length
                     · (rw [if_pos hiv] at hge; rw [show decide ((i : Int) = (v.length : Int)) = true from decide_eq_true aH]; exact bN (some []) pv ps es c ⟨hge, (fun qs h => by cases h; simp), (fun h => by cases h), hes, (fun q hq => .inl hq)⟩ (.cons 2 rfl (.cons 3 rfl (.cons 11 rfl (.cons 14 rfl (.cons 15 rfl .nil))))) rfl bG)
                     · (rw [if_neg hiv] at hge; rw [show decide ((i : Int) = (v.length : Int)) = false from decide_eq_false aH]; exact bN none pv ps es c ⟨hge, (fun qs h => by cases h), (fun _ => ⟨List.take_length, Nat.le_refl _⟩), hes, (fun q hq => .inl hq)⟩ (.cons 2 rfl (.cons 3 rfl (.cons 11 rfl (.cons 14 rfl (.cons 15 rfl .nil))))) rfl bG))
              ·
                refine aI (aB ?_);refine aA (aK ts9 rfl aM rfl) rfl ?_;refine aA (aC rfl) rfl ?_;refine aA (dB Tryz.underlying9 rfl rfl rfl bP) rfl ?_;refine aA (bT rfl rfl) rfl ?_;refine aA (aC rfl) rfl ?_;refine cA 112 rfl (fun g112 => ?_) (fun g112 => ?_)
                ·
                  refine aT rfl rfl ?_;refine aA (aC rfl) rfl ?_;refine aT rfl rfl ?_;refine aA (bZ rfl rfl aH aH) rfl ?_;refine aT rfl rfl ?_;refine aA (aK ts9 rfl aM rfl) rfl ?_;refine aT rfl rfl ?_;refine aA (cB rfl Tryz.underlying9 rfl) rfl ?_;refine aT rfl rfl ?_;refine aA (dA rfl rfl) rfl ?_;refine aA (bH rfl rfl) rfl ?_;refine aA (aF rfl) rfl ?_;refine aG (aE ?_);refine bE 107 rfl (fun h107 => ?_) (fun h107 => ?_)
                  ·
                    obtain ⟨d, hd⟩ : ∃ d, k[j + 1]? = some d := ⟨k[j + 1]'(by omega), List.getElem?_eq_getElem aH⟩;refine t_draw (anc := [0, 0, 3, 0, 0, 16, 56, 127, 255, 511, 511, 1535, 511, 4607, 16383, 32767, 65535]) (ord := [0, 1, 2, 3, 4, 5, 6, 7, 8, 9, 10, 11, 12, 13, 14, 15, 16]) [14] [14] mixed (by decide +kernel) (cS _) ?_;refine dl_ev rfl rfl (.none rfl) rfl rfl (aK ts9 rfl aM rfl) rfl ?_;refine dl_ev rfl rfl (.none rfl) rfl rfl (aC rfl) rfl ?_;refine dl_ev rfl rfl (.none rfl) rfl rfl (dB Tryz.underlying9 rfl rfl rfl bP) rfl ?_;refine dl_ev rfl rfl (.none rfl) rfl rfl (aK ts9 rfl aM rfl) rfl ?_;refine dl_ev rfl rfl (.none rfl) rfl rfl (aC rfl) rfl ?_;refine dl_ev rfl rfl (.none rfl) rfl rfl (bZ rfl rfl aH aH) rfl ?_;refine dl_ev rfl rfl (.none rfl) rfl rfl (dB Tryz.underlying9 rfl (j := j + 1) rfl (rW j) hd) rfl ?_;refine dl_ev rfl rfl (.none rfl) rfl rfl (bT rfl rfl) rfl ?_;refine dl_ev rfl rfl (.none rfl) rfl rfl (aC rfl) rfl ?_;refine dl_splitp 127 rfl (fun g127 => ?_) (fun g127 => ?_)
                    ·
                      refine dl_ev rfl rfl (.on rfl rfl rfl) rfl rfl (aK wW rfl aM rfl) rfl ?_;refine dl_ev rfl rfl (.on rfl rfl rfl) rfl rfl (aC rfl) rfl ?_;refine dl_ev rfl rfl (.on rfl rfl rfl) rfl rfl (bZ rfl rfl aH aH) rfl ?_;refine dl_ev rfl rfl (.on rfl rfl rfl) rfl rfl (aC rfl) rfl ?_;refine dl_ev rfl rfl (.on rfl rfl rfl) rfl rfl (bZ rfl rfl aH aH) rfl ?_;rw [aQI j, rW i];refine j4 rfl (.on rfl rfl rfl) rfl rfl rfl (ih (i + 1) (j + 2) ps es c _ _ aH ⟨kd, kk, kv, kw, km⟩ aH aH aH hes) (.cons (.there .here) (.cons (.there .here) (.cons (.there .here) .nil))) rfl ?_;rintro _ K _ ⟨rfl, rfl, pv3, es3, c3, hde3, hnew3, rfl⟩ -;refine dl_ev rfl rfl (.none rfl) rfl rfl (bH rfl rfl) rfl ?_;refine dl_ev rfl rfl (.none rfl) rfl rfl (aF rfl) rfl ?_;refine dl_nil ?_;refine aN ?_
                      first
                        | (exact bN r2 pv2 cur es2 c2 ⟨(by cases r2 with | none => (first | (rw [hln rfl, show v.length + 1 - e = 0 from by omega]; rfl) | (simp at h66)) | some q => exact (hls q rfl).1), fun qs h => (hls qs h).2, hlt, hld, hlw⟩ (.cons 2 rfl (.cons 3 rfl (.cons 11 rfl (.cons 14 rfl (.cons 15 rfl .nil))))) rfl bG)
                        | (exact bN none pv ps es c ⟨j8 hc hjl aH aH, (fun qs h => by cases h), (fun _ => ⟨List.take_length, Nat.le_refl _⟩), hes, (fun q hq => .inl hq)⟩ (.cons 2 rfl (.cons 3 rfl (.cons 11 rfl (.cons 14 rfl (.cons 15 rfl .nil))))) rfl bG)
                        | (have hge := gl_q (w := w0) hc hjl hx aH
                           refine aO (.cons (.there (.there (.there (.there .here)))) (.cons .here (.cons .here (.cons .here .nil)))) ?_;rcases hq : gl w0 v k (i + 1) (j + 1) with _ | qs
                           · (rw [hq] at hge; exact bN none pv3 (ps ++ [((w0.take (i + 1)).drop i)] ++ []) es3 c3 ⟨hge, (fun qs h => by cases h), (fun _ => ⟨by simp, by simp⟩), hde3, (fun q hq2 => (hnew3 q hq2).elim (fun h => .inl h) (fun h => .inr h))⟩ (.cons 2 rfl (.cons 3 rfl (.cons 11 rfl (.cons 14 rfl (.cons 15 rfl .nil))))) rfl bG)
                           · (rw [hq] at hge; exact bN (some (((w0.take (i + 1)).drop i) :: qs)) pv3 (ps ++ [((w0.take (i + 1)).drop i)] ++ qs) es3 c3 ⟨hge, (fun qs2 h => by cases h; simp), (fun h => by cases h), hde3, (fun q hq2 => (hnew3 q hq2).elim (fun h => .inl h) (fun h => .inr h))⟩ (.cons 2 rfl (.cons 3 rfl (.cons 11 rfl (.cons 14 rfl (.cons 15 rfl .nil))))) rfl bG))
                        | (have hxd : x = d := UInt8.toNat_inj.1 aH
                           have hge := gD (w := w0) hc aH hx aH hd;rw [if_pos hxd] at hge;refine aO (.cons (.there (.there (.there .here))) (.cons .here (.cons .here (.cons .here .nil)))) ?_;rcases hq : gl w0 v k (i + 1) (j + 2) with _ | qs
                           · (rw [hq] at hge; exact bN none pv3 (ps ++ []) es3 c3 ⟨hge, (fun qs h => by cases h), (fun _ => ⟨by simp, by simp⟩), hde3, (fun q hq2 => (hnew3 q hq2).elim (fun h => .inl h) (fun h => .inr aH))⟩ (.cons 2 rfl (.cons 3 rfl (.cons 11 rfl (.cons 14 rfl (.cons 15 rfl .nil))))) rfl bG)
                           · (rw [hq] at hge; exact bN (some qs) pv3 (ps ++ qs) es3 c3 ⟨hge, (fun qs2 h => by cases h; simp), (fun h => by cases h), hde3, (fun q hq2 => (hnew3 q hq2).elim (fun h => .inl h) (fun h => .inr aH))⟩ (.cons 2 rfl (.cons 3 rfl (.cons 11 rfl (.cons 14 rfl (.cons 15 rfl .nil))))) rfl bG))
                        | (have hxd : ¬ x = d := (fun h => by subst h; omega)
                           have hge := gD (w := w0) hc aH hx aH hd;rw [if_neg hxd] at hge;exact bN none pv ps es c ⟨hge, (fun qs h => by cases h), (fun _ => ⟨List.take_length, Nat.le_refl _⟩), hes, (fun q hq => .inl hq)⟩ (.cons 2 rfl (.cons 3 rfl (.cons 11 rfl (.cons 14 rfl (.cons 15 rfl .nil))))) rfl bG)
                        | (have hxd : x = c1 := UInt8.toNat_inj.1 aH
                           have hge := gE (w := w0) hc hjl hx aH aH aH;rw [if_pos hxd] at hge;refine aO (.cons (.there (.there (.there .here))) (.cons .here (.cons .here (.cons .here .nil)))) ?_;rcases hq : gl w0 v k (i + 1) (j + 1) with _ | qs
                           · (rw [hq] at hge; exact bN none pv3 (ps ++ []) es3 c3 ⟨hge, (fun qs h => by cases h), (fun _ => ⟨by simp, by simp⟩), hde3, (fun q hq2 => (hnew3 q hq2).elim (fun h => .inl h) (fun h => .inr h))⟩ (.cons 2 rfl (.cons 3 rfl (.cons 11 rfl (.cons 14 rfl (.cons 15 rfl .nil))))) rfl bG)
                           · (rw [hq] at hge; exact bN (some qs) pv3 (ps ++ qs) es3 c3 ⟨hge, (fun qs2 h => by cases h; simp), (fun h => by cases h), hde3, (fun q hq2 => (hnew3 q hq2).elim (fun h => .inl h) (fun h => .inr h))⟩ (.cons 2 rfl (.cons 3 rfl (.cons 11 rfl (.cons 14 rfl (.cons 15 rfl .nil))))) rfl bG))
                        | (have hxd : ¬ x = c1 := (fun h => by subst h; omega)
                           have hge := gE (w := w0) hc hjl hx aH aH aH;rw [if_neg hxd] at hge;exact bN none pv ps es c ⟨hge, (fun qs h => by cases h), (fun _ => ⟨List.take_length, Nat.le_refl _⟩), hes, (fun q hq => .inl hq)⟩ (.cons 2 rfl (.cons 3 rfl (.cons 11 rfl (.cons 14 rfl (.cons 15 rfl .nil))))) rfl bG)
                        | (have hge := mJ (w := w0) (v := v) (k := k) (i := i) (j := j) aH
                           by_cases hiv : i = v.length
                           · (rw [if_pos hiv] at hge; rw [show decide ((i : Int) = (v.length : Int)) = true from decide_eq_true aH]; exact bN (some []) pv ps es c ⟨hge, (fun qs h => by cases h; simp), (fun h => by cases h), hes, (fun q hq => .inl hq)⟩ (.cons 2 rfl (.cons 3 rfl (.cons 11 rfl (.cons 14 rfl (.cons 15 rfl .nil))))) rfl bG)
                           · (rw [if_neg hiv] at hge; rw [show decide ((i : Int) = (v.length : Int)) = false from decide_eq_false aH]; exact bN none pv ps es c ⟨hge, (fun qs h => by cases h), (fun _ => ⟨List.take_length, Nat.le_refl _⟩), hes, (fun q hq => .inl hq)⟩ (.cons 2 rfl (.cons 3 rfl (.cons 11 rfl (.cons 14 rfl (.cons 15 rfl .nil))))) rfl bG))
                    ·
                      refine dl_off rfl rfl (.off rfl rfl rfl) rfl ?_;refine dl_off rfl rfl (.off rfl rfl rfl) rfl ?_;refine dl_off rfl rfl (.off rfl rfl rfl) rfl ?_;refine dl_off rfl rfl (.off rfl rfl rfl) rfl ?_;refine dl_off rfl rfl (.off rfl rfl rfl) rfl ?_;refine dl_off rfl rfl (.off rfl rfl rfl) rfl ?_;refine dl_ev rfl rfl (.none rfl) rfl rfl (a8 rfl rfl) rfl ?_;refine dl_ev rfl rfl (.none rfl) rfl rfl (aF rfl) rfl ?_;refine dl_nil ?_;refine aN ?_
                      first
                        | (exact bN r2 pv2 cur es2 c2 ⟨(by cases r2 with | none => (first | (rw [hln rfl, show v.length + 1 - e = 0 from by omega]; rfl) | (simp at h66)) | some q => exact (hls q rfl).1), fun qs h => (hls qs h).2, hlt, hld, hlw⟩ (.cons 2 rfl (.cons 3 rfl (.cons 11 rfl (.cons 14 rfl (.cons 15 rfl .nil))))) rfl bG)
                        | (exact bN none pv ps es c ⟨j8 hc hjl aH aH, (fun qs h => by cases h), (fun _ => ⟨List.take_length, Nat.le_refl _⟩), hes, (fun q hq => .inl hq)⟩ (.cons 2 rfl (.cons 3 rfl (.cons 11 rfl (.cons 14 rfl (.cons 15 rfl .nil))))) rfl bG)
                        | (have hge := gl_q (w := w0) hc hjl hx aH
                           refine aO (.cons (.there (.there (.there (.there .here)))) (.cons .here (.cons .here (.cons .here .nil)))) ?_;rcases hq : gl w0 v k (i + 1) (j + 1) with _ | qs
                           · (rw [hq] at hge; exact bN none pv3 (ps ++ [((w0.take (i + 1)).drop i)] ++ []) es3 c3 ⟨hge, (fun qs h => by cases h), (fun _ => ⟨by simp, by simp⟩), hde3, (fun q hq2 => (hnew3 q hq2).elim (fun h => .inl h) (fun h => .inr h))⟩ (.cons 2 rfl (.cons 3 rfl (.cons 11 rfl (.cons 14 rfl (.cons 15 rfl .nil))))) rfl bG)
                           · (rw [hq] at hge; exact bN (some (((w0.take (i + 1)).drop i) :: qs)) pv3 (ps ++ [((w0.take (i + 1)).drop i)] ++ qs) es3 c3 ⟨hge, (fun qs2 h => by cases h; simp), (fun h => by cases h), hde3, (fun q hq2 => (hnew3 q hq2).elim (fun h => .inl h) (fun h => .inr h))⟩ (.cons 2 rfl (.cons 3 rfl (.cons 11 rfl (.cons 14 rfl (.cons 15 rfl .nil))))) rfl bG))
                        | (have hxd : x = d := UInt8.toNat_inj.1 aH
                           have hge := gD (w := w0) hc aH hx aH hd;rw [if_pos hxd] at hge;refine aO (.cons (.there (.there (.there .here))) (.cons .here (.cons .here (.cons .here .nil)))) ?_;rcases hq : gl w0 v k (i + 1) (j + 2) with _ | qs
                           · (rw [hq] at hge; exact bN none pv3 (ps ++ []) es3 c3 ⟨hge, (fun qs h => by cases h), (fun _ => ⟨by simp, by simp⟩), hde3, (fun q hq2 => (hnew3 q hq2).elim (fun h => .inl h) (fun h => .inr aH))⟩ (.cons 2 rfl (.cons 3 rfl (.cons 11 rfl (.cons 14 rfl (.cons 15 rfl .nil))))) rfl bG)
                           · (rw [hq] at hge; exact bN (some qs) pv3 (ps ++ qs) es3 c3 ⟨hge, (fun qs2 h => by cases h; simp), (fun h => by cases h), hde3, (fun q hq2 => (hnew3 q hq2).elim (fun h => .inl h) (fun h => .inr aH))⟩ (.cons 2 rfl (.cons 3 rfl (.cons 11 rfl (.cons 14 rfl (.cons 15 rfl .nil))))) rfl bG))
                        | (have hxd : ¬ x = d := (fun h => by subst h; omega)
                           have hge := gD (w := w0) hc aH hx aH hd;rw [if_neg hxd] at hge;exact bN none pv ps es c ⟨hge, (fun qs h => by cases h), (fun _ => ⟨List.take_length, Nat.le_refl _⟩), hes, (fun q hq => .inl hq)⟩ (.cons 2 rfl (.cons 3 rfl (.cons 11 rfl (.cons 14 rfl (.cons 15 rfl .nil))))) rfl bG)
                        | (have hxd : x = c1 := UInt8.toNat_inj.1 aH
                           have hge := gE (w := w0) hc hjl hx aH aH aH;rw [if_pos hxd] at hge;refine aO (.cons (.there (.there (.there .here))) (.cons .here (.cons .here (.cons .here .nil)))) ?_;rcases hq : gl w0 v k (i + 1) (j + 1) with _ | qs
                           · (rw [hq] at hge; exact bN none pv3 (ps ++ []) es3 c3 ⟨hge, (fun qs h => by cases h), (fun _ => ⟨by simp, by simp⟩), hde3, (fun q hq2 => (hnew3 q hq2).elim (fun h => .inl h) (fun h => .inr h))⟩ (.cons 2 rfl (.cons 3 rfl (.cons 11 rfl (.cons 14 rfl (.cons 15 rfl .nil))))) rfl bG)
                           · (rw [hq] at hge; exact bN (some qs) pv3 (ps ++ qs) es3 c3 ⟨hge, (fun qs2 h => by cases h; simp), (fun h => by cases h), hde3, (fun q hq2 => (hnew3 q hq2).elim (fun h => .inl h) (fun h => .inr h))⟩ (.cons 2 rfl (.cons 3 rfl (.cons 11 rfl (.cons 14 rfl (.cons 15 rfl .nil))))) rfl bG))
                        | (have hxd : ¬ x = c1 := (fun h => by subst h; omega)
                           have hge := gE (w := w0) hc hjl hx aH aH aH;rw [if_neg hxd] at hge;exact bN none pv ps es c ⟨hge, (fun qs h => by cases h), (fun _ => ⟨List.take_length, Nat.le_refl _⟩), hes, (fun q hq => .inl hq)⟩ (.cons 2 rfl (.cons 3 rfl (.cons 11 rfl (.cons 14 rfl (.cons 15 rfl .nil))))) rfl bG)
                        | (have hge := mJ (w := w0) (v := v) (k := k) (i := i) (j := j) aH
                           by_cases hiv : i = v.length
                           · (rw [if_pos hiv] at hge; rw [show decide ((i : Int) = (v.length : Int)) = true from decide_eq_true aH]; exact bN (some []) pv ps es c ⟨hge, (fun qs h => by cases h; simp), (fun h => by cases h), hes, (fun q hq => .inl hq)⟩ (.cons 2 rfl (.cons 3 rfl (.cons 11 rfl (.cons 14 rfl (.cons 15 rfl .nil))))) rfl bG)
                           · (rw [if_neg hiv] at hge; rw [show decide ((i : Int) = (v.length : Int)) = false from decide_eq_false aH]; exact bN none pv ps es c ⟨hge, (fun qs h => by cases h), (fun _ => ⟨List.take_length, Nat.le_refl _⟩), hes, (fun q hq => .inl hq)⟩ (.cons 2 rfl (.cons 3 rfl (.cons 11 rfl (.cons 14 rfl (.cons 15 rfl .nil))))) rfl bG))
                  ·
                    refine t_draw (anc := [0, 0, 3, 0, 0, 24, 63, 127, 255, 255, 767, 255, 2303, 8191, 16383, 32767]) (ord := [0, 1, 2, 3, 4, 5, 6, 7, 8, 9, 10, 11, 12, 13, 14, 15]) [13] [13] mixed (by decide +kernel) (cS _) ?_;refine dl_ev rfl rfl (.none rfl) rfl rfl (aK ts9 rfl aM rfl) rfl ?_;refine dl_ev rfl rfl (.none rfl) rfl rfl (aC rfl) rfl ?_;refine dl_ev rfl rfl (.none rfl) rfl rfl (dB Tryz.underlying9 rfl rfl rfl bP) rfl ?_;refine dl_ev rfl rfl (.none rfl) rfl rfl (aK ts9 rfl aM rfl) rfl ?_;refine dl_ev rfl rfl (.none rfl) rfl rfl (aC rfl) rfl ?_;refine dl_ev rfl rfl (.none rfl) rfl rfl (dB Tryz.underlying9 rfl rfl rfl bP) rfl ?_;refine dl_ev rfl rfl (.none rfl) rfl rfl (bT rfl rfl) rfl ?_;refine dl_ev rfl rfl (.none rfl) rfl rfl (aC rfl) rfl ?_;refine dl_splitp 36 rfl (fun g36 => ?_) (fun g36 => ?_)
                    ·
                      refine dl_ev rfl rfl (.on rfl rfl rfl) rfl rfl (aK wW rfl aM rfl) rfl ?_;refine dl_ev rfl rfl (.on rfl rfl rfl) rfl rfl (aC rfl) rfl ?_;refine dl_ev rfl rfl (.on rfl rfl rfl) rfl rfl (bZ rfl rfl aH aH) rfl ?_;refine dl_ev rfl rfl (.on rfl rfl rfl) rfl rfl (aC rfl) rfl ?_;refine dl_ev rfl rfl (.on rfl rfl rfl) rfl rfl (bZ rfl rfl aH aH) rfl ?_;rw [rW j, rW i];refine j4 rfl (.on rfl rfl rfl) rfl rfl rfl (ih (i + 1) (j + 1) ps es c _ _ aH ⟨kd, kk, kv, kw, km⟩ aH aH aH hes) (.cons (.there .here) (.cons (.there .here) (.cons (.there .here) .nil))) rfl ?_;rintro _ K _ ⟨rfl, rfl, pv3, es3, c3, hde3, hnew3, rfl⟩ -;refine dl_ev rfl rfl (.none rfl) rfl rfl (bH rfl rfl) rfl ?_;refine dl_ev rfl rfl (.none rfl) rfl rfl (aF rfl) rfl ?_;refine dl_nil ?_;refine aN ?_
                      first
                        | (exact bN r2 pv2 cur es2 c2 ⟨(by cases r2 with | none => (first | (rw [hln rfl, show v.length + 1 - e = 0 from by omega]; rfl) | (simp at h66)) | some q => exact (hls q rfl).1), fun qs h => (hls qs h).2, hlt, hld, hlw⟩ (.cons 2 rfl (.cons 3 rfl (.cons 11 rfl (.cons 14 rfl (.cons 15 rfl .nil))))) rfl bG)
                        | (exact bN none pv ps es c ⟨j8 hc hjl aH aH, (fun qs h => by cases h), (fun _ => ⟨List.take_length, Nat.le_refl _⟩), hes, (fun q hq => .inl hq)⟩ (.cons 2 rfl (.cons 3 rfl (.cons 11 rfl (.cons 14 rfl (.cons 15 rfl .nil))))) rfl bG)
                        | (have hge := gl_q (w := w0) hc hjl hx aH
                           refine aO (.cons (.there (.there (.there (.there .here)))) (.cons .here (.cons .here (.cons .here .nil)))) ?_;rcases hq : gl w0 v k (i + 1) (j + 1) with _ | qs
                           · (rw [hq] at hge; exact bN none pv3 (ps ++ [((w0.take (i + 1)).drop i)] ++ []) es3 c3 ⟨hge, (fun qs h => by cases h), (fun _ => ⟨by simp, by simp⟩), hde3, (fun q hq2 => (hnew3 q hq2).elim (fun h => .inl h) (fun h => .inr h))⟩ (.cons 2 rfl (.cons 3 rfl (.cons 11 rfl (.cons 14 rfl (.cons 15 rfl .nil))))) rfl bG)
                           · (rw [hq] at hge; exact bN (some (((w0.take (i + 1)).drop i) :: qs)) pv3 (ps ++ [((w0.take (i + 1)).drop i)] ++ qs) es3 c3 ⟨hge, (fun qs2 h => by cases h; simp), (fun h => by cases h), hde3, (fun q hq2 => (hnew3 q hq2).elim (fun h => .inl h) (fun h => .inr h))⟩ (.cons 2 rfl (.cons 3 rfl (.cons 11 rfl (.cons 14 rfl (.cons 15 rfl .nil))))) rfl bG))
                        | (have hxd : x = d := UInt8.toNat_inj.1 aH
                           have hge := gD (w := w0) hc aH hx aH hd;rw [if_pos hxd] at hge;refine aO (.cons (.there (.there (.there .here))) (.cons .here (.cons .here (.cons .here .nil)))) ?_;rcases hq : gl w0 v k (i + 1) (j + 2) with _ | qs
                           · (rw [hq] at hge; exact bN none pv3 (ps ++ []) es3 c3 ⟨hge, (fun qs h => by cases h), (fun _ => ⟨by simp, by simp⟩), hde3, (fun q hq2 => (hnew3 q hq2).elim (fun h => .inl h) (fun h => .inr aH))⟩ (.cons 2 rfl (.cons 3 rfl (.cons 11 rfl (.cons 14 rfl (.cons 15 rfl .nil))))) rfl bG)
                           · (rw [hq] at hge; exact bN (some qs) pv3 (ps ++ qs) es3 c3 ⟨hge, (fun qs2 h => by cases h; simp), (fun h => by cases h), hde3, (fun q hq2 => (hnew3 q hq2).elim (fun h => .inl h) (fun h => .inr aH))⟩ (.cons 2 rfl (.cons 3 rfl (.cons 11 rfl (.cons 14 rfl (.cons 15 rfl .nil))))) rfl bG))
                        | (have hxd : ¬ x = d := (fun h => by subst h; omega)
                           have hge := gD (w := w0) hc aH hx aH hd;rw [if_neg hxd] at hge;exact bN none pv ps es c ⟨hge, (fun qs h => by cases h), (fun _ => ⟨List.take_length, Nat.le_refl _⟩), hes, (fun q hq => .inl hq)⟩ (.cons 2 rfl (.cons 3 rfl (.cons 11 rfl (.cons 14 rfl (.cons 15 rfl .nil))))) rfl bG)
                        | (have hxd : x = c1 := UInt8.toNat_inj.1 aH
                           have hge := gE (w := w0) hc hjl hx aH aH aH;rw [if_pos hxd] at hge;refine aO (.cons (.there (.there (.there .here))) (.cons .here (.cons .here (.cons .here .nil)))) ?_;rcases hq : gl w0 v k (i + 1) (j + 1) with _ | qs
                           · (rw [hq] at hge; exact bN none pv3 (ps ++ []) es3 c3 ⟨hge, (fun qs h => by cases h), (fun _ => ⟨by simp, by simp⟩), hde3, (fun q hq2 => (hnew3 q hq2).elim (fun h => .inl h) (fun h => .inr h))⟩ (.cons 2 rfl (.cons 3 rfl (.cons 11 rfl (.cons 14 rfl (.cons 15 rfl .nil))))) rfl bG)
                           · (rw [hq] at hge; exact bN (some qs) pv3 (ps ++ qs) es3 c3 ⟨hge, (fun qs2 h => by cases h; simp), (fun h => by cases h), hde3, (fun q hq2 => (hnew3 q hq2).elim (fun h => .inl h) (fun h => .inr h))⟩ (.cons 2 rfl (.cons 3 rfl (.cons 11 rfl (.cons 14 rfl (.cons 15 rfl .nil))))) rfl bG))
                        | (have hxd : ¬ x = c1 := (fun h => by subst h; omega)
                           have hge := gE (w := w0) hc hjl hx aH aH aH;rw [if_neg hxd] at hge;exact bN none pv ps es c ⟨hge, (fun qs h => by cases h), (fun _ => ⟨List.take_length, Nat.le_refl _⟩), hes, (fun q hq => .inl hq)⟩ (.cons 2 rfl (.cons 3 rfl (.cons 11 rfl (.cons 14 rfl (.cons 15 rfl .nil))))) rfl bG)
                        | (have hge := mJ (w := w0) (v := v) (k := k) (i := i) (j := j) aH
                           by_cases hiv : i = v.length
                           · (rw [if_pos hiv] at hge; rw [show decide ((i : Int) = (v.length : Int)) = true from decide_eq_true aH]; exact bN (some []) pv ps es c ⟨hge, (fun qs h => by cases h; simp), (fun h => by cases h), hes, (fun q hq => .inl hq)⟩ (.cons 2 rfl (.cons 3 rfl (.cons 11 rfl (.cons 14 rfl (.cons 15 rfl .nil))))) rfl bG)
                           · (rw [if_neg hiv] at hge; rw [show decide ((i : Int) = (v.length : Int)) = false from decide_eq_false aH]; exact bN none pv ps es c ⟨hge, (fun qs h => by cases h), (fun _ => ⟨List.take_length, Nat.le_refl _⟩), hes, (fun q hq => .inl hq)⟩ (.cons 2 rfl (.cons 3 rfl (.cons 11 rfl (.cons 14 rfl (.cons 15 rfl .nil))))) rfl bG))
                    ·
                      refine dl_off rfl rfl (.off rfl rfl rfl) rfl ?_;refine dl_off rfl rfl (.off rfl rfl rfl) rfl ?_;refine dl_off rfl rfl (.off rfl rfl rfl) rfl ?_;refine dl_off rfl rfl (.off rfl rfl rfl) rfl ?_;refine dl_off rfl rfl (.off rfl rfl rfl) rfl ?_;refine dl_off rfl rfl (.off rfl rfl rfl) rfl ?_;refine dl_ev rfl rfl (.none rfl) rfl rfl (a8 rfl rfl) rfl ?_;refine dl_ev rfl rfl (.none rfl) rfl rfl (aF rfl) rfl ?_;refine dl_nil ?_;refine aN ?_
                      first
                        | (exact bN r2 pv2 cur es2 c2 ⟨(by cases r2 with | none => (first | (rw [hln rfl, show v.length + 1 - e = 0 from by omega]; rfl) | (simp at h66)) | some q => exact (hls q rfl).1), fun qs h => (hls qs h).2, hlt, hld, hlw⟩ (.cons 2 rfl (.cons 3 rfl (.cons 11 rfl (.cons 14 rfl (.cons 15 rfl .nil))))) rfl bG)
                        | (exact bN none pv ps es c ⟨j8 hc hjl aH aH, (fun qs h => by cases h), (fun _ => ⟨List.take_length, Nat.le_refl _⟩), hes, (fun q hq => .inl hq)⟩ (.cons 2 rfl (.cons 3 rfl (.cons 11 rfl (.cons 14 rfl (.cons 15 rfl .nil))))) rfl bG)
                        | (have hge := gl_q (w := w0) hc hjl hx aH
                           refine aO (.cons (.there (.there (.there (.there .here)))) (.cons .here (.cons .here (.cons .here .nil)))) ?_;rcases hq : gl w0 v k (i + 1) (j + 1) with _ | qs
                           · (rw [hq] at hge; exact bN none pv3 (ps ++ [((w0.take (i + 1)).drop i)] ++ []) es3 c3 ⟨hge, (fun qs h => by cases h), (fun _ => ⟨by simp, by simp⟩), hde3, (fun q hq2 => (hnew3 q hq2).elim (fun h => .inl h) (fun h => .inr h))⟩ (.cons 2 rfl (.cons 3 rfl (.cons 11 rfl (.cons 14 rfl (.cons 15 rfl .nil))))) rfl bG)
                           · (rw [hq] at hge; exact bN (some (((w0.take (i + 1)).drop i) :: qs)) pv3 (ps ++ [((w0.take (i + 1)).drop i)] ++ qs) es3 c3 ⟨hge, (fun qs2 h => by cases h; simp), (fun h => by cases h), hde3, (fun q hq2 => (hnew3 q hq2).elim (fun h => .inl h) (fun h => .inr h))⟩ (.cons 2 rfl (.cons 3 rfl (.cons 11 rfl (.cons 14 rfl (.cons 15 rfl .nil))))) rfl bG))
                        | (have hxd : x = d := UInt8.toNat_inj.1 aH
                           have hge := gD (w := w0) hc aH hx aH hd;rw [if_pos hxd] at hge;refine aO (.cons (.there (.there (.there .here))) (.cons .here (.cons .here (.cons .here .nil)))) ?_;rcases hq : gl w0 v k (i + 1) (j + 2) with _ | qs
                           · (rw [hq] at hge; exact bN none pv3 (ps ++ []) es3 c3 ⟨hge, (fun qs h => by cases h), (fun _ => ⟨by simp, by simp⟩), hde3, (fun q hq2 => (hnew3 q hq2).elim (fun h => .inl h) (fun h => .inr aH))⟩ (.cons 2 rfl (.cons 3 rfl (.cons 11 rfl (.cons 14 rfl (.cons 15 rfl .nil))))) rfl bG)
                           · (rw [hq] at hge; exact bN (some qs) pv3 (ps ++ qs) es3 c3 ⟨hge, (fun qs2 h => by cases h; simp), (fun h => by cases h), hde3, (fun q hq2 => (hnew3 q hq2).elim (fun h => .inl h) (fun h => .inr aH))⟩ (.cons 2 rfl (.cons 3 rfl (.cons 11 rfl (.cons 14 rfl (.cons 15 rfl .nil))))) rfl bG))
                        | (have hxd : ¬ x = d := (fun h => by subst h; omega)
                           have hge := gD (w := w0) hc aH hx aH hd;rw [if_neg hxd] at hge;exact bN none pv ps es c ⟨hge, (fun qs h => by cases h), (fun _ => ⟨List.take_length, Nat.le_refl _⟩), hes, (fun q hq => .inl hq)⟩ (.cons 2 rfl (.cons 3 rfl (.cons 11 rfl (.cons 14 rfl (.cons 15 rfl .nil))))) rfl bG)
                        | (have hxd : x = c1 := UInt8.toNat_inj.1 aH
                           have hge := gE (w := w0) hc hjl hx aH aH aH;rw [if_pos hxd] at hge;refine aO (.cons (.there (.there (.there .here))) (.cons .here (.cons .here (.cons .here .nil)))) ?_;rcases hq : gl w0 v k (i + 1) (j + 1) with _ | qs
                           · (rw [hq] at hge; exact bN none pv3 (ps ++ []) es3 c3 ⟨hge, (fun qs h => by cases h), (fun _ => ⟨by simp, by simp⟩), hde3, (fun q hq2 => (hnew3 q hq2).elim (fun h => .inl h) (fun h => .inr h))⟩ (.cons 2 rfl (.cons 3 rfl (.cons 11 rfl (.cons 14 rfl (.cons 15 rfl .nil))))) rfl bG)
                           · (rw [hq] at hge; exact bN (some qs) pv3 (ps ++ qs) es3 c3 ⟨hge, (fun qs2 h => by cases h; simp), (fun h => by cases h), hde3, (fun q hq2 => (hnew3 q hq2).elim (fun h => .inl h) (fun h => .inr h))⟩ (.cons 2 rfl (.cons 3 rfl (.cons 11 rfl (.cons 14 rfl (.cons 15 rfl .nil))))) rfl bG))
                        | (have hxd : ¬ x = c1 := (fun h => by subst h; omega)
                           have hge := gE (w := w0) hc hjl hx aH aH aH;rw [if_neg hxd] at hge;exact bN none pv ps es c ⟨hge, (fun qs h => by cases h), (fun _ => ⟨List.take_length, Nat.le_refl _⟩), hes, (fun q hq => .inl hq)⟩ (.cons 2 rfl (.cons 3 rfl (.cons 11 rfl (.cons 14 rfl (.cons 15 rfl .nil))))) rfl bG)
                        | (have hge := mJ (w := w0) (v := v) (k := k) (i := i) (j := j) aH
                           by_cases hiv : i = v.length
                           · (rw [if_pos hiv] at hge; rw [show decide ((i : Int) = (v.length : Int)) = true from decide_eq_true aH]; exact bN (some []) pv ps es c ⟨hge, (fun qs h => by cases h; simp), (fun h => by cases h), hes, (fun q hq => .inl hq)⟩ (.cons 2 rfl (.cons 3 rfl (.cons 11 rfl (.cons 14 rfl (.cons 15 rfl .nil))))) rfl bG)
                           · (rw [if_neg hiv] at hge; rw [show decide ((i : Int) = (v.length : Int)) = false from decide_eq_false aH]; exact bN none pv ps es c ⟨hge, (fun qs h => by cases h), (fun _ => ⟨List.take_length, Nat.le_refl _⟩), hes, (fun q hq => .inl hq)⟩ (.cons 2 rfl (.cons 3 rfl (.cons 11 rfl (.cons 14 rfl (.cons 15 rfl .nil))))) rfl bG))
                ·
                  refine aQ rfl rfl rfl ?_;refine aQ rfl rfl rfl ?_;refine aQ rfl rfl rfl ?_;refine aQ rfl rfl rfl ?_;refine aQ rfl rfl rfl ?_;refine aA (a8 rfl rfl) rfl ?_;refine aA (aF rfl) rfl ?_;refine aG (aE ?_);refine cQ rfl ?_;refine t_draw (anc := [0, 0, 3, 0, 0, 24, 63, 127, 255, 255, 767, 255, 2303, 8191, 16383, 32767]) (ord := [0, 1, 2, 3, 4, 5, 6, 7, 8, 9, 10, 11, 12, 13, 14, 15]) [13] [13] mixed (by decide +kernel) (cS _) ?_;refine dl_ev rfl rfl (.none rfl) rfl rfl (aK ts9 rfl aM rfl) rfl ?_;refine dl_ev rfl rfl (.none rfl) rfl rfl (aC rfl) rfl ?_;refine dl_ev rfl rfl (.none rfl) rfl rfl (dB Tryz.underlying9 rfl rfl rfl bP) rfl ?_;refine dl_ev rfl rfl (.none rfl) rfl rfl (aK ts9 rfl aM rfl) rfl ?_;refine dl_ev rfl rfl (.none rfl) rfl rfl (aC rfl) rfl ?_;refine dl_ev rfl rfl (.none rfl) rfl rfl (dB Tryz.underlying9 rfl rfl rfl bP) rfl ?_;refine dl_ev rfl rfl (.none rfl) rfl rfl (bT rfl rfl) rfl ?_;refine dl_ev rfl rfl (.none rfl) rfl rfl (aC rfl) rfl ?_;refine dl_splitp 36 rfl (fun g36 => ?_) (fun g36 => ?_)
                  ·
                    refine dl_ev rfl rfl (.on rfl rfl rfl) rfl rfl (aK wW rfl aM rfl) rfl ?_;refine dl_ev rfl rfl (.on rfl rfl rfl) rfl rfl (aC rfl) rfl ?_;refine dl_ev rfl rfl (.on rfl rfl rfl) rfl rfl (bZ rfl rfl aH aH) rfl ?_;refine dl_ev rfl rfl (.on rfl rfl rfl) rfl rfl (aC rfl) rfl ?_;refine dl_ev rfl rfl (.on rfl rfl rfl) rfl rfl (bZ rfl rfl aH aH) rfl ?_;rw [rW j, rW i];refine j4 rfl (.on rfl rfl rfl) rfl rfl rfl (ih (i + 1) (j + 1) ps es c _ _ aH ⟨kd, kk, kv, kw, km⟩ aH aH aH hes) (.cons (.there .here) (.cons (.there .here) (.cons (.there .here) .nil))) rfl ?_;rintro _ K _ ⟨rfl, rfl, pv3, es3, c3, hde3, hnew3, rfl⟩ -;refine dl_ev rfl rfl (.none rfl) rfl rfl (bH rfl rfl) rfl ?_;refine dl_ev rfl rfl (.none rfl) rfl rfl (aF rfl) rfl ?_;refine dl_nil ?_;refine aN ?_
                    first
                      | (exact bN r2 pv2 cur es2 c2 ⟨(by cases r2 with | none => (first | (rw [hln rfl, show v.length + 1 - e = 0 from by omega]; rfl) | (simp at h66)) | some q => exact (hls q rfl).1), fun qs h => (hls qs h).2, hlt, hld, hlw⟩ (.cons 2 rfl (.cons 3 rfl (.cons 11 rfl (.cons 14 rfl (.cons 15 rfl .nil))))) rfl bG)
                      | (exact bN none pv ps es c ⟨j8 hc hjl aH aH, (fun qs h => by cases h), (fun _ => ⟨List.take_length, Nat.le_refl _⟩), hes, (fun q hq => .inl hq)⟩ (.cons 2 rfl (.cons 3 rfl (.cons 11 rfl (.cons 14 rfl (.cons 15 rfl .nil))))) rfl bG)
                      | (have hge := gl_q (w := w0) hc hjl hx aH
                         refine aO (.cons (.there (.there (.there (.there .here)))) (.cons .here (.cons .here (.cons .here .nil)))) ?_;rcases hq : gl w0 v k (i + 1) (j + 1) with _ | qs
                         · (rw [hq] at hge; exact bN none pv3 (ps ++ [((w0.take (i + 1)).drop i)] ++ []) es3 c3 ⟨hge, (fun qs h => by cases h), (fun _ => ⟨by simp, by simp⟩), hde3, (fun q hq2 => (hnew3 q hq2).elim (fun h => .inl h) (fun h => .inr h))⟩ (.cons 2 rfl (.cons 3 rfl (.cons 11 rfl (.cons 14 rfl (.cons 15 rfl .nil))))) rfl bG)
                         · (rw [hq] at hge; exact bN (some (((w0.take (i + 1)).drop i) :: qs)) pv3 (ps ++ [((w0.take (i + 1)).drop i)] ++ qs) es3 c3 ⟨hge, (fun qs2 h => by cases h; simp), (fun h => by cases h), hde3, (fun q hq2 => (hnew3 q hq2).elim (fun h => .inl h) (fun h => .inr h))⟩ (.cons 2 rfl (.cons 3 rfl (.cons 11 rfl (.cons 14 rfl (.cons 15 rfl .nil))))) rfl bG))
                      | (have hxd : x = d := UInt8.toNat_inj.1 aH
                         have hge := gD (w := w0) hc aH hx aH hd;rw [if_pos hxd] at hge;refine aO (.cons (.there (.there (.there .here))) (.cons .here (.cons .here (.cons .here .nil)))) ?_;rcases hq : gl w0 v k (i + 1) (j + 2) with _ | qs
                         · (rw [hq] at hge; exact bN none pv3 (ps ++ []) es3 c3 ⟨hge, (fun qs h => by cases h), (fun _ => ⟨by simp, by simp⟩), hde3, (fun q hq2 => (hnew3 q hq2).elim (fun h => .inl h) (fun h => .inr aH))⟩ (.cons 2 rfl (.cons 3 rfl (.cons 11 rfl (.cons 14 rfl (.cons 15 rfl .nil))))) rfl bG)
                         · (rw [hq] at hge; exact bN (some qs) pv3 (ps ++ qs) es3 c3 ⟨hge, (fun qs2 h => by cases h; simp), (fun h => by cases h), hde3, (fun q hq2 => (hnew3 q hq2).elim (fun h => .inl h) (fun h => .inr aH))⟩ (.cons 2 rfl (.cons 3 rfl (.cons 11 rfl (.cons 14 rfl (.cons 15 rfl .nil))))) rfl bG))
                      | (have hxd : ¬ x = d := (fun h => by subst h; omega)
                         have hge := gD (w := w0) hc aH hx aH hd;rw [if_neg hxd] at hge;exact bN none pv ps es c ⟨hge, (fun qs h => by cases h), (fun _ => ⟨List.take_length, Nat.le_refl _⟩), hes, (fun q hq => .inl hq)⟩ (.cons 2 rfl (.cons 3 rfl (.cons 11 rfl (.cons 14 rfl (.cons 15 rfl .nil))))) rfl bG)
                      | (have hxd : x = c1 := UInt8.toNat_inj.1 aH
                         have hge := gE (w := w0) hc hjl hx aH aH aH;rw [if_pos hxd] at hge;refine aO (.cons (.there (.there (.there .here))) (.cons .here (.cons .here (.cons .here .nil)))) ?_;rcases hq : gl w0 v k (i + 1) (j + 1) with _ | qs
                         · (rw [hq] at hge; exact bN none pv3 (ps ++ []) es3 c3 ⟨hge, (fun qs h => by cases h), (fun _ => ⟨by simp, by simp⟩), hde3, (fun q hq2 => (hnew3 q hq2).elim (fun h => .inl h) (fun h => .inr h))⟩ (.cons 2 rfl (.cons 3 rfl (.cons 11 rfl (.cons 14 rfl (.cons 15 rfl .nil))))) rfl bG)
                         · (rw [hq] at hge; exact bN (some qs) pv3 (ps ++ qs) es3 c3 ⟨hge, (fun qs2 h => by cases h; simp), (fun h => by cases h), hde3, (fun q hq2 => (hnew3 q hq2).elim (fun h => .inl h) (fun h => .inr h))⟩ (.cons 2 rfl (.cons 3 rfl (.cons 11 rfl (.cons 14 rfl (.cons 15 rfl .nil))))) rfl bG))
                      | (have hxd : ¬ x = c1 := (fun h => by subst h; omega)
                         have hge := gE (w := w0) hc hjl hx aH aH aH;rw [if_neg hxd] at hge;exact bN none pv ps es c ⟨hge, (fun qs h => by cases h), (fun _ => ⟨List.take_length, Nat.le_refl _⟩), hes, (fun q hq => .inl hq)⟩ (.cons 2 rfl (.cons 3 rfl (.cons 11 rfl (.cons 14 rfl (.cons 15 rfl .nil))))) rfl bG)
                      | (have hge := mJ (w := w0) (v := v) (k := k) (i := i) (j := j) aH
                         by_cases hiv : i = v.length
                         · (rw [if_pos hiv] at hge; rw [show decide ((i : Int) = (v.length : Int)) = true from decide_eq_true aH]; exact bN (some []) pv ps es c ⟨hge, (fun qs h => by cases h; simp), (fun h => by cases h), hes, (fun q hq => .inl hq)⟩ (.cons 2 rfl (.cons 3 rfl (.cons 11 rfl (.cons 14 rfl (.cons 15 rfl .nil))))) rfl bG)
                         · (rw [if_neg hiv] at hge; rw [show decide ((i : Int) = (v.length : Int)) = false from decide_eq_false aH]; exact bN none pv ps es c ⟨hge, (fun qs h => by cases h), (fun _ => ⟨List.take_length, Nat.le_refl _⟩), hes, (fun q hq => .inl hq)⟩ (.cons 2 rfl (.cons 3 rfl (.cons 11 rfl (.cons 14 rfl (.cons 15 rfl .nil))))) rfl bG))
                  ·
                    refine dl_off rfl rfl (.off rfl rfl rfl) rfl ?_;refine dl_off rfl rfl (.off rfl rfl rfl) rfl ?_;refine dl_off rfl rfl (.off rfl rfl rfl) rfl ?_;refine dl_off rfl rfl (.off rfl rfl rfl) rfl ?_;refine dl_off rfl rfl (.off rfl rfl rfl) rfl ?_;refine dl_off rfl rfl (.off rfl rfl rfl) rfl ?_;refine dl_ev rfl rfl (.none rfl) rfl rfl (a8 rfl rfl) rfl ?_;refine dl_ev rfl rfl (.none rfl) rfl rfl (aF rfl) rfl ?_;refine dl_nil ?_;refine aN ?_
                    first
                      | (exact bN r2 pv2 cur es2 c2 ⟨(by cases r2 with | none => (first | (rw [hln rfl, show v.length + 1 - e = 0 from by omega]; rfl) | (simp at h66)) | some q => exact (hls q rfl).1), fun qs h => (hls qs h).2, hlt, hld, hlw⟩ (.cons 2 rfl (.cons 3 rfl (.cons 11 rfl (.cons 14 rfl (.cons 15 rfl .nil))))) rfl bG)
                      | (exact bN none pv ps es c ⟨j8 hc hjl aH aH, (fun qs h => by cases h), (fun _ => ⟨List.take_length, Nat.le_refl _⟩), hes, (fun q hq => .inl hq)⟩ (.cons 2 rfl (.cons 3 rfl (.cons 11 rfl (.cons 14 rfl (.cons 15 rfl .nil))))) rfl bG)
                      | (have hge := gl_q (w := w0) hc hjl hx aH
                         refine aO (.cons (.there (.there (.there (.there .here)))) (.cons .here (.cons .here (.cons .here .nil)))) ?_;rcases hq : gl w0 v k (i + 1) (j + 1) with _ | qs
                         · (rw [hq] at hge; exact bN none pv3 (ps ++ [((w0.take (i + 1)).drop i)] ++ []) es3 c3 ⟨hge, (fun qs h => by cases h), (fun _ => ⟨by simp, by simp⟩), hde3, (fun q hq2 => (hnew3 q hq2).elim (fun h => .inl h) (fun h => .inr h))⟩ (.cons 2 rfl (.cons 3 rfl (.cons 11 rfl (.cons 14 rfl (.cons 15 rfl .nil))))) rfl bG)
                         · (rw [hq] at hge; exact bN (some (((w0.take (i + 1)).drop i) :: qs)) pv3 (ps ++ [((w0.take (i + 1)).drop i)] ++ qs) es3 c3 ⟨hge, (fun qs2 h => by cases h; simp), (fun h => by cases h), hde3, (fun q hq2 => (hnew3 q hq2).elim (fun h => .inl h) (fun h => .inr h))⟩ (.cons 2 rfl (.cons 3 rfl (.cons 11 rfl (.cons 14 rfl (.cons 15 rfl .nil))))) rfl bG))
                      | (have hxd : x = d := UInt8.toNat_inj.1 aH
                         have hge := gD (w := w0) hc aH hx aH hd;rw [if_pos hxd] at hge;refine aO (.cons (.there (.there (.there .here))) (.cons .here (.cons .here (.cons .here .nil)))) ?_;rcases hq : gl w0 v k (i + 1) (j + 2) with _ | qs
                         · (rw [hq] at hge; exact bN none pv3 (ps ++ []) es3 c3 ⟨hge, (fun qs h => by cases h), (fun _ => ⟨by simp, by simp⟩), hde3, (fun q hq2 => (hnew3 q hq2).elim (fun h => .inl h) (fun h => .inr aH))⟩ (.cons 2 rfl (.cons 3 rfl (.cons 11 rfl (.cons 14 rfl (.cons 15 rfl .nil))))) rfl bG)
                         · (rw [hq] at hge; exact bN (some qs) pv3 (ps ++ qs) es3 c3 ⟨hge, (fun qs2 h => by cases h; simp), (fun h => by cases h), hde3, (fun q hq2 => (hnew3 q hq2).elim (fun h => .inl h) (fun h => .inr aH))⟩ (.cons 2 rfl (.cons 3 rfl (.cons 11 rfl (.cons 14 rfl (.cons 15 rfl .nil))))) rfl bG))
                      | (have hxd : ¬ x = d := (fun h => by subst h; omega)
                         have hge := gD (w := w0) hc aH hx aH hd;rw [if_neg hxd] at hge;exact bN none pv ps es c ⟨hge, (fun qs h => by cases h), (fun _ => ⟨List.take_length, Nat.le_refl _⟩), hes, (fun q hq => .inl hq)⟩ (.cons 2 rfl (.cons 3 rfl (.cons 11 rfl (.cons 14 rfl (.cons 15 rfl .nil))))) rfl bG)
                      | (have hxd : x = c1 := UInt8.toNat_inj.1 aH
                         have hge := gE (w := w0) hc hjl hx aH aH aH;rw [if_pos hxd] at hge;refine aO (.cons (.there (.there (.there .here))) (.cons .here (.cons .here (.cons .here .nil)))) ?_;rcases hq : gl w0 v k (i + 1) (j + 1) with _ | qs
                         · (rw [hq] at hge; exact bN none pv3 (ps ++ []) es3 c3 ⟨hge, (fun qs h => by cases h), (fun _ => ⟨by simp, by simp⟩), hde3, (fun q hq2 => (hnew3 q hq2).elim (fun h => .inl h) (fun h => .inr h))⟩ (.cons 2 rfl (.cons 3 rfl (.cons 11 rfl (.cons 14 rfl (.cons 15 rfl .nil))))) rfl bG)
                         · (rw [hq] at hge; exact bN (some qs) pv3 (ps ++ qs) es3 c3 ⟨hge, (fun qs2 h => by cases h; simp), (fun h => by cases h), hde3, (fun q hq2 => (hnew3 q hq2).elim (fun h => .inl h) (fun h => .inr h))⟩ (.cons 2 rfl (.cons 3 rfl (.cons 11 rfl (.cons 14 rfl (.cons 15 rfl .nil))))) rfl bG))
                      | (have hxd : ¬ x = c1 := (fun h => by subst h; omega)
                         have hge := gE (w := w0) hc hjl hx aH aH aH;rw [if_neg hxd] at hge;exact bN none pv ps es c ⟨hge, (fun qs h => by cases h), (fun _ => ⟨List.take_length, Nat.le_refl _⟩), hes, (fun q hq => .inl hq)⟩ (.cons 2 rfl (.cons 3 rfl (.cons 11 rfl (.cons 14 rfl (.cons 15 rfl .nil))))) rfl bG)
                      | (have hge := mJ (w := w0) (v := v) (k := k) (i := i) (j := j) aH
                         by_cases hiv : i = v.length
                         · (rw [if_pos hiv] at hge; rw [show decide ((i : Int) = (v.length : Int)) = true from decide_eq_true aH]; exact bN (some []) pv ps es c ⟨hge, (fun qs h => by cases h; simp), (fun h => by cases h), hes, (fun q hq => .inl hq)⟩ (.cons 2 rfl (.cons 3 rfl (.cons 11 rfl (.cons 14 rfl (.cons 15 rfl .nil))))) rfl bG)
                         · (rw [if_neg hiv] at hge; rw [show decide ((i : Int) = (v.length : Int)) = false from decide_eq_false aH]; exact bN none pv ps es c ⟨hge, (fun qs h => by cases h), (fun _ => ⟨List.take_length, Nat.le_refl _⟩), hes, (fun q hq => .inl hq)⟩ (.cons 2 rfl (.cons 3 rfl (.cons 11 rfl (.cons 14 rfl (.cons 15 rfl .nil))))) rfl bG))
      ·
        intro r pv2 cur es2 c2 ⟨hgr, hsm, hno, hde, hnw⟩;refine aI (aI ?_);refine aB ?_;refine aA (aC rfl) rfl ?_;refine aA (by first | exact dM rfl | exact dU rfl) rfl ?_;refine aG (aE ?_);refine eB 136 rfl (fun h136 => ?_) (fun h136 => ?_)
        ·
          obtain rfl : r = none := (by cases r with | none => rfl | some q => simp at h136);obtain ⟨hct, hcl⟩ := hno rfl;have hnm : (i, j) ∉ es2.map (fun x => x.1) := (by intro hm; obtain ⟨e, he, e2⟩ := List.mem_map.1 hm; rcases hnw e he with h | h; exact h26 (List.mem_map.2 ⟨e, h, e2⟩); (rw [e2] at h; simp at h; omega));refine aI ?_;refine wO (fun h hs => aK6 (n := ps.length) hs) fun hone => ?_
          refine aB ?_;refine aA (aK ts39 rfl aM rfl) rfl ?_;refine aA (aC rfl) rfl ?_;refine aA (q9 (k := bK 9) (m := ps.length) cT rfl (.there (.there .here)) (.there (.there .here)) rfl rfl hcl) rfl ?_;refine bR (bI ts39 rfl rfl cG a7 .zero rfl) ?_;rintro _ K _ ⟨rfl, rfl⟩ -;refine aG (aE ?_);refine aB ?_;refine aA (aK aL0 rfl aM rfl) rfl ?_;refine aA (bW aAS rfl aM rfl rfl) rfl ?_;refine bR (aPU Tryz.underlying427 z6 rfl rfl rfl hnm (by first | exact .here | exact .there .here | exact .there (.there .here) | exact .there (.there (.there .here)))) ?_;rintro _ K _ ⟨rfl, rfl⟩ -;refine aG (aE ?_);refine aI (aB ?_);refine aA (aC rfl) rfl ?_;refine aA (aF rfl) rfl ?_;refine aG (aE ?_);refine bM ?_
          first
            | (refine aO (.cons (.there (.there .here)) (.cons (.there .here) (.cons (.there .here) .nil))) ?_; refine dV (gX (uL (m := ps.length) hcl)) ?_; rw [hct]; refine aO (.cons (.there .here) (.cons .here (.cons .here .nil))) ?_)
            | (refine aO (.cons (.there .here) (.cons (.there .here) (.cons (.there .here) .nil))) ?_)
          refine bJ rfl rfl (Hl.le_refl _) ?_
          first
            | exact ⟨_, rfl, rfl, by simp [hgr], slTo pv2 ps.length, es2 ++ [((i, j), c2)], c2 + 1, (fun e he => by rcases List.mem_append.1 he with h | h; exact hde e h; (simp at h; subst h; exact hgr)), (fun e he => by rcases List.mem_append.1 he with h | h; exact (hnw e h).imp_right (fun h => by omega); (simp at h; subst h; exact .inr (Nat.le_refl _))), by simp [hgr]⟩
            | exact ⟨_, rfl, rfl, by simp [hgr], pv2, es2, c2, hde, (fun e he => (hnw e he).imp_right (fun h => by omega)), by simp [hgr]⟩
        ·
          obtain ⟨qs, rfl⟩ : ∃ qs, r = some qs := (by cases r with | none => simp at h136 | some q => exact ⟨q, rfl⟩);obtain rfl := hsm qs rfl;refine a6 ?_;refine aE (aI ?_);refine aB ?_;refine aA (aC rfl) rfl ?_;refine aA (aF rfl) rfl ?_;refine aG (aE ?_);refine bM ?_
          first
            | (refine aO (.cons (.there (.there .here)) (.cons (.there .here) (.cons (.there .here) .nil))) ?_; refine dV (gX (uL (m := ps.length) hcl)) ?_; rw [hct]; refine aO (.cons (.there .here) (.cons .here (.cons .here .nil))) ?_)
            | (refine aO (.cons (.there .here) (.cons (.there .here) (.cons (.there .here) .nil))) ?_)
          refine bJ rfl rfl (Hl.le_refl _) ?_
          first
            | exact ⟨_, rfl, rfl, by simp [hgr], slTo pv2 ps.length, es2 ++ [((i, j), c2)], c2 + 1, (fun e he => by rcases List.mem_append.1 he with h | h; exact hde e h; (simp at h; subst h; exact hgr)), (fun e he => by rcases List.mem_append.1 he with h | h; exact (hnw e h).imp_right (fun h => by omega); (simp at h; subst h; exact .inr (Nat.le_refl _))), by simp [hgr]⟩
            | exact ⟨_, rfl, rfl, by simp [hgr], pv2, es2, c2, hde, (fun e he => (hnw e he).imp_right (fun h => by omega)), by simp [hgr]⟩
end Go.Proofs
end
section
namespace Go.Proofs
open Go Go.SL Go.Syn Go.Mach
theorem pX (oct : Bool) (s : List UInt8) : (dP oct s).length = s.length := by unfold dP; split <;> simp [cU]
theorem aMU (w k : List UInt8) (oct : Bool) : glob w k oct = gl w (dP oct w) (dP oct k) 0 0 := by
 unfold glob gl; rw [pX]; rfl
theorem aGU (w0 k0 : List UInt8) (oct : Bool) (K : Hl) (hw : w0.length ≤ 1000000) (hk : k0.length ≤ 1000000) :
  Sp Tryz.prog 253 [str w0, str k0, .func (.func (vK oct)) #[] #[]] K [] (Ret fun v K' L' => ∃ pv, v = .tuple #[pv, .bool (glob w0 k0 oct).isSome] ∧ L' = [sl false (bK 9) pv ((glob w0 k0 oct).getD [])]) := by
 refine bB Tryz.func253 rfl Tryz.ntmps253 rfl rfl fun F w => ?_
 refine aI (aB ?_);refine ol_s (eM rfl rfl) rfl ?_;rintro _ K _ ⟨b3, rfl, rfl, rfl⟩ -;refine aA (aF rfl) rfl ?_;refine aA (aF rfl) rfl ?_;refine aG (aE ?_);refine aI (aB ?_);refine aA (aC rfl) rfl ?_;refine aA (aK ts9 rfl aM rfl) rfl ?_;refine cF rfl rfl (kN oct w0 _ aH) rfl ?_;refine aA (aC rfl) rfl ?_;refine aA (aC rfl) rfl ?_;refine cF rfl rfl (kN oct k0 _ aH) rfl ?_;refine ol_s (cO tz9) rfl ?_;rintro _ K _ ⟨b8, rfl, rfl, rfl⟩ -;refine ol_s (cO tz9) rfl ?_;rintro _ K _ ⟨b9, rfl, rfl, rfl⟩ -;refine bR (bI ts9 rfl rfl cG a7 .zero rfl) ?_;rintro _ K _ ⟨rfl, rfl⟩ -;refine bR (bI ts9 rfl rfl cG a7 .zero rfl) ?_;rintro _ K _ ⟨rfl, rfl⟩ -;refine aG (aE ?_);refine aI (aB ?_);refine ol_s p7 rfl ?_;rintro _ K _ ⟨b20, rfl, rfl, rfl⟩ -;refine ol_s (cO aRZ) rfl ?_;rintro _ K _ ⟨b10, rfl, rfl, rfl⟩ -;refine bR (bI aL0 rfl rfl cG a7 .zero rfl) ?_;rintro _ K _ ⟨rfl, rfl⟩ -;refine aG (aE ?_);refine aI (aB ?_);refine ol_s (cO tz39) rfl ?_;rintro _ K _ ⟨b11, rfl, rfl, rfl⟩ -;refine aG (aE ?_);refine aI (aB ?_);refine ol_s (cO aRR) rfl ?_;rintro _ K _ ⟨b12, rfl, rfl, rfl⟩ -;refine aG (aE ?_);refine aI (aB ?_);refine aA (g9 rfl rfl) rfl ?_;refine bR (bI wW rfl rfl cG a7 .zero rfl) ?_;rintro _ K _ ⟨rfl, rfl⟩ -;refine aG (aE ?_);refine aI ?_;refine pH fun K1 le1 h1 => ?_
 refine qT (.cons (.there .here) .nil) ?_;refine pH fun K2 le2 h2 => ?_
 refine qT (.cons (.there (.there .here)) .nil) ?_;refine pH fun K3 le3 h3 => ?_
 refine qT (.cons (.there (.there .here)) .nil) ?_;refine pH fun K4 le4 h4 => ?_
 refine qT (.cons (.there (.there .here)) .nil) ?_;refine pH fun K5 le5 h5 => ?_
 have l45 := le5;have l35 := Hl.le_trans le4 l45;have l25 := Hl.le_trans le3 l35;have l15 := Hl.le_trans le2 l25;have h1 := l15 _ _ h1;have h2 := l25 _ _ h2;have h3 := l35 _ _ h3;have h4 := l45 _ _ h4;refine yK (eW (bK 9)) ?_;refine qT (.cons (.there .here) (.cons .here .nil)) ?_;refine aB ?_;refine aA (aK wW rfl (.known h1) rfl) rfl ?_;refine bD rfl rfl (aDW w0 (dP oct w0) (dP oct k0) b10 b20 b11 b9 b8 b3 b12 (pX oct w0).symm (by rw [pX]; exact hw) (by rw [pX]; exact hk) _ 0 0 [] [] 0 _ _ (Nat.le_refl _) ⟨h2, h3, h4, h5, h1⟩ (Nat.zero_le _) (Nat.zero_le _) (Nat.zero_le _) (fun e h => by cases h)) (.cons .here (.cons .here (.cons .here .nil))) rfl ?_;rintro _ K _ ⟨rfl, rfl, pv, es, c, hde, hnew, rfl⟩ -;refine aA (aF rfl) rfl ?_;refine aG (aE ?_);refine aI (aB ?_);refine aA (aK ts39 rfl aM rfl) rfl ?_;refine aA (aC rfl) rfl ?_;refine aA (aF rfl) rfl ?_;refine aA (aF rfl) rfl ?_;refine aG (aE ?_);refine bM ?_;refine aO (.cons (.there .here) .nil) ?_;refine j1 rfl rfl rfl (Hl.le_trans le1 l15) ?_;rw [aMU];exact ⟨_, rfl, pv, rfl, rfl⟩
end Go.Proofs
end
section
namespace Go.Proofs
open Go Go.SL Go.Syn Go.Mach
theorem aHW {α : Type} {k : El α} {b : Nat} {xs : List α} {n : Nat} {M : List Asn} (hn : n = xs.length) : ∀ h, Sat (pt b (aU (k.cs xs) k.e) :: M) h → Sat (sl false k (.slice (some ⟨b, 0, none⟩) n n) xs :: M) h := by
 subst hn;rintro h ⟨a, l, ha, hl, hd, rfl⟩;refine ⟨a, l, .inr ⟨b, xs.length, [], (0, 0), rfl, (fun h => by cases h), Nat.le_refl _, by simp, .inl (Nat.le_refl _), ?_⟩, hl, hd, rfl⟩
 rw [List.append_nil]; exact ha
def o3 (o : Ins) (x : aL) (ks : List aL) : Option (List aL) := mI (fun k => (fT o x k).map fun ps => x :: ps) ks
theorem zD {α : Type} {l : List α} {i : Nat} {x : α} (hx : l[i]? = some x) : l.drop i = x :: l.drop (i + 1) := by
 have hi : i < l.length := by
  rcases Nat.lt_or_ge i l.length with h' | h'
  ·exact h'
  ·simp [List.getElem?_eq_none h'] at hx
 have hc : l[i] = x := by simpa [List.getElem?_eq_getElem hi] using hx
 rw [List.drop_eq_getElem_cons hi, hc]
theorem xW {o : Ins} {vs ks : List aL} {i : Nat} {x : aL} (hx : vs[i]? = some x) : f8 o (vs.drop i) ks = (match o3 o x ks with | some z => some z | none => f8 o (vs.drop (i + 1)) ks) := by
 rw [zD hx]; unfold f8 o3; rw [mI]
 cases mI (fun k => (fT o x k).map fun ps => x :: ps) ks <;> rfl
theorem aGZ {o : Ins} {x y : aL} {ks ps : List aL} {j : Nat} (hy : ks[j]? = some y) (h : fT o x y = some ps) : o3 o x (ks.drop j) = some (x :: ps) := by
 rw [zD hy]; unfold o3; rw [mI, h]; rfl
theorem aJ6 {o : Ins} {x y : aL} {ks : List aL} {j : Nat} (hy : ks[j]? = some y) (h : fT o x y = none) : o3 o x (ks.drop j) = o3 o x (ks.drop (j + 1)) := by
 rw [zD hy]; unfold o3; rw [mI, h]; rfl
theorem aGY {o : Ins} {x : aL} {ks : List aL} {j : Nat} (h : ks.length ≤ j) : o3 o x (ks.drop j) = none := by rw [List.drop_of_length_le h]; rfl
theorem aKB {o : Ins} {vs ks : List aL} {j : Nat} (h : vs.length ≤ j) : f8 o (vs.drop j) ks = none := by rw [List.drop_of_length_le h]; rfl
theorem aR1 {o : Ins} {x y : aL} (h : o.tag = 1) : fT o x y = if decide (dP o.oct x = dP o.oct y) = true then some [] else none := by unfold fT; rw [if_pos h]; simp
theorem aQD {o : Ins} {x y : aL} (h : o.tag = 2) : fT o x y = if decide (0 ≤ Lib.index (dP o.oct x) (dP o.oct y)) = true then some [] else none := by unfold fT; rw [if_neg aH, if_pos h]; simp
theorem aAX {o : Ins} {x y : aL} (h : o.tag = 3) : fT o x y = glob x y o.oct := by unfold fT; rw [if_neg aH, if_neg aH]
theorem s7 {nm : Bool} {m : Msg} {o : Ins} {s : MS} (h : ¬ (1 ≤ o.tag ∧ o.tag ≤ 3 ∧ s.stack.length < 8)) : matchI nm m o s = .error (12, s.pc) := by unfold matchI; rw [if_neg h]; rfl
theorem aBV {nm : Bool} {m : Msg} {o : Ins} {s : MS} (h : 1 ≤ o.tag ∧ o.tag ≤ 3 ∧ s.stack.length < 8) (hm : f8 o (fJ (cP nm s.vars s.parts) m o) (o.b.map (cP nm s.vars s.parts)) = none) : matchI nm m o s = push s false := by unfold matchI; rw [if_pos h]; simp only [hm]
theorem aBW {nm : Bool} {m : Msg} {o : Ins} {s : MS} {ps : List aL} (h : 1 ≤ o.tag ∧ o.tag ≤ 3 ∧ s.stack.length < 8) (hm : f8 o (fJ (cP nm s.vars s.parts) m o) (o.b.map (cP nm s.vars s.parts)) = some ps) : matchI nm m o s = push (if o.tag = 3 ∧ nm = true then { s with parts := ps } else s) true := by unfold matchI; rw [if_pos h]; simp only [hm]
def MMI (nm : Bool) (o : Ins) (x y : aL) (s : MS) (pv : Value) (ok : Bool) (pv' : Value) (s' : MS) : Prop :=
 (ok = true ∧ ∃ ps, fT o x y = some ps ∧ s' = (if o.tag = 3 ∧ nm = true then { s with parts := x :: ps } else s)) ∨ (ok = false ∧ fT o x y = none ∧ s = s' ∧ pv = pv')
theorem vX {nm : Bool} {o : Ins} {x y : aL} {s : MS} {pv : Value} (h : o.tag = 1) : MMI nm o x y s pv (decide (dP o.oct x = dP o.oct y)) pv s := by
 unfold MMI;rw [aR1 h]
 by_cases hd : dP o.oct x = dP o.oct y
 ·exact .inl ⟨by simp [hd], [], by simp [hd], by rw [if_neg aH]⟩
 ·exact .inr ⟨by simp [hd], by simp [hd], rfl, rfl⟩
theorem sF {nm : Bool} {o : Ins} {x y : aL} {s : MS} {pv : Value} (h : o.tag = 2) : MMI nm o x y s pv (decide (0 ≤ Lib.index (dP o.oct x) (dP o.oct y))) pv s := by
 unfold MMI;rw [aQD h]
 by_cases hd : 0 ≤ Lib.index (dP o.oct x) (dP o.oct y)
 ·exact .inl ⟨by simp [hd], [], by simp [hd], by rw [if_neg aH]⟩
 ·exact .inr ⟨by simp [hd], by simp [hd], rfl, rfl⟩
theorem vY {nm : Bool} {o : Ins} {x y : aL} {s : MS} {pv : Value} (h : o.tag = 3) (hg : (glob x y o.oct).isSome = false) : MMI nm o x y s pv (glob x y o.oct).isSome pv s := by
 unfold MMI;rw [aAX h];exact .inr ⟨hg, by simpa using hg, rfl, rfl⟩
theorem vZ {o : Ins} {x y : aL} {s : MS} {pv : Value} (h : o.tag = 3) : MMI false o x y s pv (glob x y o.oct).isSome pv s := by
 unfold MMI;rw [aAX h];cases hg : glob x y o.oct with
 | none => exact .inr ⟨rfl, rfl, rfl, rfl⟩
 | some ps => exact .inl ⟨rfl, ps, rfl, by simp⟩
theorem sG {o : Ins} {x y : aL} {s : MS} {pv pv' : Value} (h : o.tag = 3) (hg : (glob x y o.oct).isSome = true) : MMI true o x y s pv (glob x y o.oct).isSome pv' { s with parts := x :: (glob x y o.oct).getD [] } := by
 unfold MMI;rw [aAX h];cases hg' : glob x y o.oct with
 | none => rw [hg'] at hg; cases hg
 | some ps => exact .inl ⟨rfl, ps, rfl, by rw [if_pos ⟨h, rfl⟩]; rfl⟩
theorem aGS (w v k : aL) : ∀ f i j ps, eR w v k f i j = some ps → ps.length ≤ f := by
 intro f;induction f with
 | zero => intro i j ps h; cases h
 | succ f ih =>
  intro i j ps h;unfold eR at h;split at h
  ·split at h
   ·cases h; simp
   ·cases h
  ·split at h
   ·have key : ∀ n e, iH (fun e => (eR w v k f e (j + 1)).map fun ps => ((w.take e).drop i) :: ps) n e = some ps → ps.length ≤ f + 1 := by
     intro n;induction n with
     | zero => intro e h; cases h
     | succ n ihn =>
      intro e h;unfold iH at h;split at h
      ·rename_i x hx;cases h
       cases hy : eR w v k f e (j + 1) with
       | none => rw [hy] at hx; cases hx
       | some q => rw [hy] at hx; cases hx; have := ih _ _ _ hy; simpa using this
      ·exact ihn _ h
    exact key _ _ h
   ·split at h
    ·cases h
    ·split at h
     ·cases hy : eR w v k f (i + 1) (j + 1) with
      | none => rw [hy] at h; cases h
      | some q => rw [hy] at h; cases h; have := ih _ _ _ hy; simpa using this
     ·split at h
      ·split at h
       ·have := ih _ _ _ h; omega
       ·cases h
      ·split at h
       ·have := ih _ _ _ h; omega
       ·cases h
theorem aJ3 (x y : aL) (oct : Bool) : ((glob x y oct).getD []).length ≤ y.length + 1 := by
 cases h : glob x y oct with
 | none => simp
 | some ps => exact aGS _ _ _ _ _ _ _ h
structure MZ where
 i : Nat
 K : Hl
structure MM where
 ok : Bool
 K : Hl
 pv : Value
 s : MS
theorem aBX (b mb : Nat) (m : Msg) (hv pv : Value) (nm : Bool) (s : MS) (o : Ins) (av0 bv : Value) (n : Int) (K0 : Hl) (hg : Glob K0) (hpv : Ksl (bK 9) K0 pv s.parts) (ha : Ksl (bK 9) K0 av0 o.a) (hb : Ksl (bK 9) K0 bv o.b) (hh : Ksl hdEl K0 hv m.hs) (hln : m.hs.length ≤ 1000000) (hhs : ∀ h ∈ m.hs, h.1.length ≤ 1000000) (hl : o.a.length ≤ 1000000) (hs : ∀ x ∈ o.a, x.length ≤ 100000) (hlb : o.b.length ≤ 1000000) (hsb : ∀ x ∈ o.b, x.length ≤ 100000) (hsm : nG s.vars s.parts)
  (hvl : ∀ x ∈ fJ (cP nm s.vars s.parts) m o, x.length ≤ 1000000) :
  Sp Tryz.prog 149 [ptr b, kO o av0 bv, i64 n] K0 [mch b mb m hv pv nm s] (MI b mb m hv nm (matchI nm m o s)) := by
 have hkl : ∀ x ∈ o.b.map (cP nm s.vars s.parts), x.length ≤ 100000 := (by intro x hx; obtain ⟨y, hy, rfl⟩ := List.mem_map.1 hx; exact hH (hsb y hy));have hkn : (o.b.map (cP nm s.vars s.parts)).length ≤ 1000000 := (by simpa using hlb);have hvn : (fJ (cP nm s.vars s.parts) m o).length ≤ 1000000 * 1000000 := by
  unfold fJ;split
  ·simp; omega
  ·split
   ·exact Nat.le_trans (oZ (n := 1000000) (fun x => Nat.le_trans (rA m _) hln) _) (Nat.mul_le_mul_right _ (by simpa using hl))
   ·split
    ·exact Nat.le_trans (oZ (n := 1) (aFA m) _) aH
    ·simp
 have hm0 : ∀ r, f8 o (fJ (cP nm s.vars s.parts) m o) (o.b.map (cP nm s.vars s.parts)) = r → f8 o ((fJ (cP nm s.vars s.parts) m o).drop 0) (o.b.map (cP nm s.vars s.parts)) = r := fun r h => h
 have hall := fun (K : Hl) (hg : Glob K) (hpv : Ksl (bK 9) K pv s.parts) (hb : Ksl (bK 9) K bv o.b) => pS b mb m hv pv nm s bv o.b K hg hpv hb hlb hsb hsm
 have hval := fun (K : Hl) (hg : Glob K) (hpv : Ksl (bK 9) K pv s.parts) (ha : Ksl (bK 9) K av0 o.a) (hb : Ksl (bK 9) K bv o.b) (hh : Ksl hdEl K hv m.hs) => aC5 b mb m hv pv nm s o av0 bv K hg hpv ha hb hh hln hhs hl hs hsm
 have hnone := aBV (nm := nm) (m := m) (o := o) (s := s);have hsome := fun ps => aBW (nm := nm) (m := m) (o := o) (s := s) (ps := ps)
 generalize hvse : fJ (cP nm s.vars s.parts) m o = vs at *
 generalize hkse : o.b.map (cP nm s.vars s.parts) = ks at *
 clear hm0;obtain ⟨sa, sn, sc, rfl⟩ := ha.isSlice;obtain ⟨ta, tn, tc, rfl⟩ := hb.isSlice;refine bB Tryz.func149 rfl Tryz.ntmps149 rfl rfl fun F w => ?_
 refine oP fun av sv f c => ?_
 refine aI (aB ?_);refine ol_s (eM rfl rfl) rfl ?_;rintro _ K _ ⟨b4, rfl, rfl, rfl⟩ -;refine aG (aE ?_);refine aI (aB ?_);refine aA (aC rfl) rfl ?_;refine aA (aD (o' := 2) eF rfl rfl) rfl ?_;refine aA (aK ts3 rfl aM rfl) rfl ?_;refine aA (gU rfl rfl) rfl ?_;refine aA (aC rfl) rfl ?_;refine cA 18 rfl (fun g18 => ?_) (fun g18 => ?_)
 ·
  refine aT rfl rfl ?_;refine aA (aD (o' := 2) eF rfl rfl) rfl ?_;refine aT rfl rfl ?_;refine aA (aK ts3 rfl aM rfl) rfl ?_;refine aT rfl rfl ?_;refine aA (j7 rfl rfl) rfl ?_;refine aA (bH rfl rfl) rfl ?_;refine aA (aC rfl) rfl ?_;refine cA 23 rfl (fun g23 => ?_) (fun g23 => ?_)
  ·
   refine aT rfl rfl ?_;refine aA (aC rfl) rfl ?_;refine aT rfl rfl ?_;refine aA bS rfl ?_;refine aT rfl rfl ?_;refine aA (aD (o' := 9) iE rfl rfl) rfl ?_;refine aT rfl rfl ?_;refine aA (aK qV rfl aM rfl) rfl ?_;refine aT rfl rfl ?_;refine aA (cE  rfl Tryz.underlying176 rfl aM) rfl ?_;refine aT rfl rfl ?_;refine aA (dA rfl rfl) rfl ?_;refine aA (bH rfl rfl) rfl ?_;refine aW rfl rfl (mN ((s.stack.length : Int) < 8) _ _ _ _ _ _ _ _ _ _ _ _ _) (.cons (.there .here) .nil) rfl (fun _ _ => aX _ _) ?_ ?_
   ·
    rintro _ _ _ hTr le1;obtain ⟨e, p, hu, fb, h, rfl⟩ := aY hTr;cases h
    refine aO (.cons .here .nil) ?_;refine aJ ?_;refine bA bP ?_;have hbl : ¬ ((s.stack.length : Int) < 8) := (by intro h; rw [if_pos h] at hu; cases hu);rw [if_neg hbl] at hu;cases hu
    have hno := s7 (nm := nm) (m := m) (s := s) (o := o) aH;unfold MI;rw [hno];exact ⟨fb, rfl, rfl⟩
   rintro _ K _ hTr -;obtain ⟨u0, hu, rfl, rfl, rfl⟩ := aZ hTr;clear hTr;have hbl : (s.stack.length : Int) < 8 := Classical.byContradiction (fun h => by rw [if_neg h] at hu; cases hu);have hcc : 1 ≤ o.tag ∧ o.tag ≤ 3 ∧ s.stack.length < 8 := ⟨by omega, by omega, by omega⟩;refine aKL (As := [_, _, _, _]) (.cons .here (.cons (.there .here) (.cons (.there .here) (.cons (.there .here) .nil)))) ?_;refine kS (dK (m := m) (hv := hv) (pv := pv) (nm := nm) (s := s)) ?_;refine aG (aE ?_);refine aI (aB ?_);refine aA (aD (o' := 3) aLU rfl rfl) rfl ?_;refine aA (aK ts4 rfl aM rfl) rfl ?_;refine cF rfl rfl (zU o.oct _) rfl ?_;refine aA (aF rfl) rfl ?_;refine aG (aE ?_);refine aI (aB ?_);refine aA (aC rfl) rfl ?_;refine aA (aD (o' := 5) wU rfl rfl) rfl ?_;refine aA (aK ts39 rfl aM rfl) rfl ?_;refine bD rfl rfl (hall _ hg hpv hb) (.cons .here .nil) rfl ?_;rintro kv K _ ⟨rfl, rfl⟩ -;refine aA (aF rfl) rfl ?_;refine aG (aE ?_);refine aI (aI ?_);refine aB ?_;refine aA (aC rfl) rfl ?_;refine aA (bW jH rfl aM rfl rfl) rfl ?_;refine bD rfl rfl (hval _ hg hpv ha hb hh) (.cons (.there .here) .nil) rfl ?_;rintro vv K1 _ rfl le1;refine aA (cE (k := (bK 9)) rfl Tryz.underlying39 rfl aM) rfl ?_;refine aA (aC rfl) rfl ?_;refine aG (aE ?_);refine bF ?_;refine eK (fun (q : MZ) => q.i ≤ vs.length ∧ K.le q.K ∧ f8 o (vs.drop q.i) ks = f8 o vs ks) (fun q => [(0, ptr b), (4, ptr b4), (6, .func (.func (vK o.oct)) #[] #[]), (7, kv), (41, vv), (42, i64 vs.length), (43, i64 q.i)]) (fun q => q.K) (fun _ => [sl false (bK 9) vv vs, mch b mb m hv pv nm s, sl false (bK 9) kv ks, pt b4 (aU [i64 o.op, i64 o.n, i64 o.tag, .bool o.oct, .slice sa sn sc, .slice ta tn tc, i64 o.at_] 41)]) (fun q => vs.length - q.i) ⟨0, K1⟩ ⟨Nat.zero_le _, le1, by rw [List.drop_zero]⟩ (.cons 0 rfl (.cons 4 rfl (.cons 6 rfl (.cons 7 rfl (.cons 41 rfl (.cons 42 rfl (.cons 43 rfl .nil))))))) rfl (fun _ h => h) ?_;intro ⟨i, K2⟩ ⟨hi0, hle2, hmall⟩;dsimp only at hi0 hle2 hmall ⊢;refine aI (aB ?_);refine aA (dA rfl rfl) rfl ?_;refine aG (aE ?_);refine aI ?_;refine bE 44 rfl (fun h44 => ?_) (fun h44 => ?_)
   ·
    have hilt : i < vs.length := by omega
    obtain ⟨x, hx⟩ : ∃ x, vs[i]? = some x := ⟨vs[i]'hilt, List.getElem?_eq_getElem hilt⟩;have hxl := hvl x (List.mem_of_getElem? hx);refine a6 ?_;refine aE (aI ?_);refine bF (aI ?_);refine aB ?_;refine aA (b0 (k := (bK 9)) cT rfl aM rfl rfl (by first | assumption | omega)) rfl ?_;refine aA (dO (o := 0) (k := (bK 9)) ts9 rfl aM bP rfl) rfl ?_;refine aA (aF rfl) rfl ?_;refine aG (aE ?_);refine aI (aB ?_);refine aA (aC rfl) rfl ?_;refine aA (cE (k := (bK 9)) rfl Tryz.underlying39 rfl aM) rfl ?_;refine aA (aC rfl) rfl ?_;refine aG (aE ?_);refine bF ?_;refine eK (fun (q : MZ) => q.i ≤ ks.length ∧ K.le q.K ∧ o3 o x (ks.drop q.i) = o3 o x ks) (fun q => [(0, ptr b), (4, ptr b4), (6, .func (.func (vK o.oct)) #[] #[]), (7, kv), (9, str x), (41, vv), (42, i64 vs.length), (43, i64 i), (47, kv), (48, i64 ks.length), (49, i64 q.i)]) (fun q => q.K) (fun _ => [sl false (bK 9) vv vs, mch b mb m hv pv nm s, sl false (bK 9) kv ks, pt b4 (aU [i64 o.op, i64 o.n, i64 o.tag, .bool o.oct, .slice sa sn sc, .slice ta tn tc, i64 o.at_] 41)]) (fun q => ks.length - q.i) ⟨0, K2⟩ ⟨Nat.zero_le _, hle2, by rw [List.drop_zero]⟩ (.cons 0 rfl (.cons 4 rfl (.cons 6 rfl (.cons 7 rfl (.cons 9 rfl (.cons 41 rfl (.cons 42 rfl (.cons 43 rfl (.cons 47 rfl (.cons 48 rfl (.cons 49 rfl .nil))))))))))) rfl (fun _ h => h) ?_;intro ⟨j, K3⟩ ⟨hj0, hle3, hin⟩;dsimp only at hj0 hle3 hin ⊢;refine aI (aB ?_);refine aA (dA rfl rfl) rfl ?_;refine aG (aE ?_);refine aI ?_;refine bE 50 rfl (fun h50 => ?_) (fun h50 => ?_)
    ·
     have hjlt : j < ks.length := by omega
     obtain ⟨y, hy⟩ : ∃ y, ks[j]? = some y := ⟨ks[j]'hjlt, List.getElem?_eq_getElem hjlt⟩;have hyl := hkl y (List.mem_of_getElem? hy);refine a6 ?_;refine aE (aI ?_);refine bF (aI ?_);refine aB ?_;refine aA (b0 (k := (bK 9)) cT rfl aM rfl rfl (by first | assumption | omega)) rfl ?_;refine aA (dO (o := 0) (k := (bK 9)) ts9 rfl aM bP rfl) rfl ?_;refine aA (aF rfl) rfl ?_;refine aG (aE ?_);refine aI (aB ?_);refine aA (aF rfl) rfl ?_;refine aG (aE ?_);refine hO (fun (q : MM) => K.le q.K ∧ MMI nm o x y s pv q.ok q.pv q.s ∧ Ksl (bK 9) q.K q.pv q.s.parts) (fun q => [(0, ptr b), (4, ptr b4), (6, .func (.func (vK o.oct)) #[] #[]), (7, kv), (9, str x), (12, .bool q.ok), (41, vv), (42, i64 vs.length), (43, i64 i), (47, kv), (48, i64 ks.length), (49, i64 j)]) (fun q => q.K) (fun q => [mch b mb m hv q.pv nm q.s, sl false (bK 9) vv vs, sl false (bK 9) kv ks, pt b4 (aU [i64 o.op, i64 o.n, i64 o.tag, .bool o.oct, .slice sa sn sc, .slice ta tn tc, i64 o.at_] 41)]) ?_ ?_
     ·
      refine aI (aB ?_);refine aA (aD (o' := 2) eF rfl rfl) rfl ?_;refine aA (aK ts3 rfl aM rfl) rfl ?_;refine aG (aE ?_);refine bF (aI ?_);refine aB ?_;refine aA (bT rfl rfl) rfl ?_;refine aA (aF rfl) rfl ?_;refine aG (aE ?_);refine bE 55 rfl (fun h55 => ?_) (fun h55 => ?_)
      ·
       refine aB ?_;refine aA (aC rfl) rfl ?_;refine aA (aC rfl) rfl ?_;refine cF rfl rfl (kN o.oct x _ aH) rfl ?_;refine aA (aC rfl) rfl ?_;refine aA (aC rfl) rfl ?_;refine cF rfl rfl (kN o.oct y _ aH) rfl ?_;refine aA (jF rfl rfl) rfl ?_;refine aA (aF rfl) rfl ?_;refine aG (aN ?_)
       first
        | (refine aO (.cons (.there .here) (.cons .here (.cons .here (.cons .here .nil)))) ?_; exact bX ⟨decide (dP o.oct x = dP o.oct y), K3, pv, s⟩ ⟨hle3, vX h55, hpv.mono hle3⟩ (.cons 0 rfl (.cons 4 rfl (.cons 6 rfl (.cons 7 rfl (.cons 9 rfl (.cons 12 rfl (.cons 41 rfl (.cons 42 rfl (.cons 43 rfl (.cons 47 rfl (.cons 48 rfl (.cons 49 rfl .nil)))))))))))) rfl (fun _ h => h))
        | (refine aO (.cons (.there .here) (.cons .here (.cons .here (.cons .here .nil)))) ?_; exact bX ⟨decide (0 ≤ Lib.index (dP o.oct x) (dP o.oct y)), K3, pv, s⟩ ⟨hle3, sF h64, hpv.mono hle3⟩ (.cons 0 rfl (.cons 4 rfl (.cons 6 rfl (.cons 7 rfl (.cons 9 rfl (.cons 12 rfl (.cons 41 rfl (.cons 42 rfl (.cons 43 rfl (.cons 47 rfl (.cons 48 rfl (.cons 49 rfl .nil)))))))))))) rfl (fun _ h => h))
        | (refine fN fun K5 le5 hK5 => ?_; refine dV (dK (m := m) (hv := hv) (pv := v90) (nm := nm) (s := { s with parts := x :: (glob x y o.oct).getD [] })) ?_; refine aO (.cons .here (.cons (.there .here) (.cons (.there .here) (.cons (.there .here) .nil)))) ?_; subst h85; exact bX ⟨(glob x y o.oct).isSome, K5, v90, { s with parts := x :: (glob x y o.oct).getD [] }⟩ ⟨Hl.le_trans (Hl.le_trans hle3 le4) le5, sG h70 g80, hK5⟩ (.cons 0 rfl (.cons 4 rfl (.cons 6 rfl (.cons 7 rfl (.cons 9 rfl (.cons 12 rfl (.cons 41 rfl (.cons 42 rfl (.cons 43 rfl (.cons 47 rfl (.cons 48 rfl (.cons 49 rfl .nil)))))))))))) rfl (fun _ h => h))
        | (refine dV (dK (m := m) (hv := hv) (pv := pv) (nm := nm) (s := s)) ?_; refine aO (.cons .here (.cons (.there .here) (.cons (.there .here) (.cons (.there .here) .nil)))) ?_; exact bX ⟨(glob x y o.oct).isSome, K4, pv, s⟩ ⟨Hl.le_trans hle3 le4, by first | exact vY h70 g80 | (subst h85; exact vZ h70), hpv.mono (Hl.le_trans hle3 le4)⟩ (.cons 0 rfl (.cons 4 rfl (.cons 6 rfl (.cons 7 rfl (.cons 9 rfl (.cons 12 rfl (.cons 41 rfl (.cons 42 rfl (.cons 43 rfl (.cons 47 rfl (.cons 48 rfl (.cons 49 rfl .nil)))))))))))) rfl (fun _ h => h))
      ·
       refine aI (aB ?_);refine aA (bT rfl rfl) rfl ?_;refine aA (aF rfl) rfl ?_;refine aG (aE ?_);refine bE 64 rfl (fun h64 => ?_) (fun h64 => ?_)
       ·
        refine aB ?_;refine aA (aC rfl) rfl ?_;refine aA (aC rfl) rfl ?_;refine aA (aC rfl) rfl ?_;refine cF rfl rfl (vW x y o.oct _ (hg.mono hle3) aH aH) rfl ?_;refine aA (aF rfl) rfl ?_;refine aG (aN ?_)
        first
         | (refine aO (.cons (.there .here) (.cons .here (.cons .here (.cons .here .nil)))) ?_; exact bX ⟨decide (dP o.oct x = dP o.oct y), K3, pv, s⟩ ⟨hle3, vX h55, hpv.mono hle3⟩ (.cons 0 rfl (.cons 4 rfl (.cons 6 rfl (.cons 7 rfl (.cons 9 rfl (.cons 12 rfl (.cons 41 rfl (.cons 42 rfl (.cons 43 rfl (.cons 47 rfl (.cons 48 rfl (.cons 49 rfl .nil)))))))))))) rfl (fun _ h => h))
         | (refine aO (.cons (.there .here) (.cons .here (.cons .here (.cons .here .nil)))) ?_; exact bX ⟨decide (0 ≤ Lib.index (dP o.oct x) (dP o.oct y)), K3, pv, s⟩ ⟨hle3, sF h64, hpv.mono hle3⟩ (.cons 0 rfl (.cons 4 rfl (.cons 6 rfl (.cons 7 rfl (.cons 9 rfl (.cons 12 rfl (.cons 41 rfl (.cons 42 rfl (.cons 43 rfl (.cons 47 rfl (.cons 48 rfl (.cons 49 rfl .nil)))))))))))) rfl (fun _ h => h))
         | (refine fN fun K5 le5 hK5 => ?_; refine dV (dK (m := m) (hv := hv) (pv := v90) (nm := nm) (s := { s with parts := x :: (glob x y o.oct).getD [] })) ?_; refine aO (.cons .here (.cons (.there .here) (.cons (.there .here) (.cons (.there .here) .nil)))) ?_; subst h85; exact bX ⟨(glob x y o.oct).isSome, K5, v90, { s with parts := x :: (glob x y o.oct).getD [] }⟩ ⟨Hl.le_trans (Hl.le_trans hle3 le4) le5, sG h70 g80, hK5⟩ (.cons 0 rfl (.cons 4 rfl (.cons 6 rfl (.cons 7 rfl (.cons 9 rfl (.cons 12 rfl (.cons 41 rfl (.cons 42 rfl (.cons 43 rfl (.cons 47 rfl (.cons 48 rfl (.cons 49 rfl .nil)))))))))))) rfl (fun _ h => h))
         | (refine dV (dK (m := m) (hv := hv) (pv := pv) (nm := nm) (s := s)) ?_; refine aO (.cons .here (.cons (.there .here) (.cons (.there .here) (.cons (.there .here) .nil)))) ?_; exact bX ⟨(glob x y o.oct).isSome, K4, pv, s⟩ ⟨Hl.le_trans hle3 le4, by first | exact vY h70 g80 | (subst h85; exact vZ h70), hpv.mono (Hl.le_trans hle3 le4)⟩ (.cons 0 rfl (.cons 4 rfl (.cons 6 rfl (.cons 7 rfl (.cons 9 rfl (.cons 12 rfl (.cons 41 rfl (.cons 42 rfl (.cons 43 rfl (.cons 47 rfl (.cons 48 rfl (.cons 49 rfl .nil)))))))))))) rfl (fun _ h => h))
       ·
        refine aI (aB ?_);refine aA (bT rfl rfl) rfl ?_;refine aA (aF rfl) rfl ?_;refine aG (aE ?_);refine bE 70 rfl (fun h70 => ?_) (fun h70 => ?_)
        ·
         refine aI (aB ?_);refine aA (aF rfl) rfl ?_;refine aG (aE ?_);refine aI (aB ?_);refine aA (aC rfl) rfl ?_;refine aA (aC rfl) rfl ?_;refine aA (aC rfl) rfl ?_;refine bD rfl rfl (aGU x y o.oct _ aH aH) .nil rfl ?_;rintro _ K4 _ ⟨gv, rfl, rfl⟩ le4;have hgl := aJ3 x y o.oct;refine aA (aC rfl) rfl ?_;refine aA (aR rfl rfl) rfl ?_;refine aA (aR rfl rfl) rfl ?_;refine aA (aF rfl) rfl ?_;refine aA (aF rfl) rfl ?_;refine aG (aE ?_);refine aI ?_;refine qT (.cons (.there (.there .here)) .nil) ?_;refine oP fun av sv f c => ?_
         refine aB ?_;refine aA (aC rfl) rfl ?_;refine aA (aC rfl) rfl ?_;refine mQ 80 rfl (fun g80 => ?_) (fun g80 => ?_)
         ·
          refine aT rfl rfl ?_;refine aA (aC rfl) rfl ?_;refine aT rfl rfl ?_;refine aA bS rfl ?_;refine aT rfl rfl ?_;refine aA (aD (o' := 6) yP rfl rfl) rfl ?_;refine aT rfl rfl ?_;refine aA (aK ts4 rfl aM rfl) rfl ?_;refine aA (bH rfl rfl) rfl ?_;refine aG (aE ?_);refine eB 85 rfl (fun h85 => ?_) (fun h85 => ?_)
          ·
           refine aB ?_;refine aA (aC rfl) rfl ?_;refine aA (aC rfl) rfl ?_;refine ol_s (bO (z0 := [(str [])]) cT tz9 rfl rfl rfl rfl (.cons rfl rfl rfl (.cons .nil) .nil)) rfl ?_;rintro _ K _ ⟨b88, rfl, rfl, rfl⟩ -;refine aA (aC rfl) rfl ?_;refine kS (aHW (k := bK 9) (xs := [x]) rfl) ?_;refine ol_s (dQ (k := (bK 9)) (ys := ((glob x y o.oct).getD [])) gK rfl rfl .here (fun w j => dN Tryz.underlying39 (SeesSl.at (k := bK 9) (.own (.there (.there (.there (.there (.there .here)))))) j)) (by simp only [List.length_singleton]; omega) (by simp only [List.length_singleton]; omega)) rfl ?_;rintro v90 K _ ⟨rfl, rfl, ho90⟩ -;refine aA bS rfl ?_;refine aA (aD (o' := 8) tH rfl rfl) rfl ?_;refine bR (bI ts39 rfl rfl cG a7 (.succ (.succ (.succ (.succ (.succ (.succ (.succ (.succ .zero)))))))) rfl) ?_;rintro _ K _ ⟨rfl, rfl⟩ -;refine aG (aN ?_)
           first
            | (refine aO (.cons (.there .here) (.cons .here (.cons .here (.cons .here .nil)))) ?_; exact bX ⟨decide (dP o.oct x = dP o.oct y), K3, pv, s⟩ ⟨hle3, vX h55, hpv.mono hle3⟩ (.cons 0 rfl (.cons 4 rfl (.cons 6 rfl (.cons 7 rfl (.cons 9 rfl (.cons 12 rfl (.cons 41 rfl (.cons 42 rfl (.cons 43 rfl (.cons 47 rfl (.cons 48 rfl (.cons 49 rfl .nil)))))))))))) rfl (fun _ h => h))
            | (refine aO (.cons (.there .here) (.cons .here (.cons .here (.cons .here .nil)))) ?_; exact bX ⟨decide (0 ≤ Lib.index (dP o.oct x) (dP o.oct y)), K3, pv, s⟩ ⟨hle3, sF h64, hpv.mono hle3⟩ (.cons 0 rfl (.cons 4 rfl (.cons 6 rfl (.cons 7 rfl (.cons 9 rfl (.cons 12 rfl (.cons 41 rfl (.cons 42 rfl (.cons 43 rfl (.cons 47 rfl (.cons 48 rfl (.cons 49 rfl .nil)))))))))))) rfl (fun _ h => h))
            | (refine fN fun K5 le5 hK5 => ?_; refine dV (dK (m := m) (hv := hv) (pv := v90) (nm := nm) (s := { s with parts := x :: (glob x y o.oct).getD [] })) ?_; refine aO (.cons .here (.cons (.there .here) (.cons (.there .here) (.cons (.there .here) .nil)))) ?_; subst h85; exact bX ⟨(glob x y o.oct).isSome, K5, v90, { s with parts := x :: (glob x y o.oct).getD [] }⟩ ⟨Hl.le_trans (Hl.le_trans hle3 le4) le5, sG h70 g80, hK5⟩ (.cons 0 rfl (.cons 4 rfl (.cons 6 rfl (.cons 7 rfl (.cons 9 rfl (.cons 12 rfl (.cons 41 rfl (.cons 42 rfl (.cons 43 rfl (.cons 47 rfl (.cons 48 rfl (.cons 49 rfl .nil)))))))))))) rfl (fun _ h => h))
            | (refine dV (dK (m := m) (hv := hv) (pv := pv) (nm := nm) (s := s)) ?_; refine aO (.cons .here (.cons (.there .here) (.cons (.there .here) (.cons (.there .here) .nil)))) ?_; exact bX ⟨(glob x y o.oct).isSome, K4, pv, s⟩ ⟨Hl.le_trans hle3 le4, by first | exact vY h70 g80 | (subst h85; exact vZ h70), hpv.mono (Hl.le_trans hle3 le4)⟩ (.cons 0 rfl (.cons 4 rfl (.cons 6 rfl (.cons 7 rfl (.cons 9 rfl (.cons 12 rfl (.cons 41 rfl (.cons 42 rfl (.cons 43 rfl (.cons 47 rfl (.cons 48 rfl (.cons 49 rfl .nil)))))))))))) rfl (fun _ h => h))
          ·
           refine a6 ?_;refine aN ?_
           first
            | (refine aO (.cons (.there .here) (.cons .here (.cons .here (.cons .here .nil)))) ?_; exact bX ⟨decide (dP o.oct x = dP o.oct y), K3, pv, s⟩ ⟨hle3, vX h55, hpv.mono hle3⟩ (.cons 0 rfl (.cons 4 rfl (.cons 6 rfl (.cons 7 rfl (.cons 9 rfl (.cons 12 rfl (.cons 41 rfl (.cons 42 rfl (.cons 43 rfl (.cons 47 rfl (.cons 48 rfl (.cons 49 rfl .nil)))))))))))) rfl (fun _ h => h))
            | (refine aO (.cons (.there .here) (.cons .here (.cons .here (.cons .here .nil)))) ?_; exact bX ⟨decide (0 ≤ Lib.index (dP o.oct x) (dP o.oct y)), K3, pv, s⟩ ⟨hle3, sF h64, hpv.mono hle3⟩ (.cons 0 rfl (.cons 4 rfl (.cons 6 rfl (.cons 7 rfl (.cons 9 rfl (.cons 12 rfl (.cons 41 rfl (.cons 42 rfl (.cons 43 rfl (.cons 47 rfl (.cons 48 rfl (.cons 49 rfl .nil)))))))))))) rfl (fun _ h => h))
            | (refine fN fun K5 le5 hK5 => ?_; refine dV (dK (m := m) (hv := hv) (pv := v90) (nm := nm) (s := { s with parts := x :: (glob x y o.oct).getD [] })) ?_; refine aO (.cons .here (.cons (.there .here) (.cons (.there .here) (.cons (.there .here) .nil)))) ?_; subst h85; exact bX ⟨(glob x y o.oct).isSome, K5, v90, { s with parts := x :: (glob x y o.oct).getD [] }⟩ ⟨Hl.le_trans (Hl.le_trans hle3 le4) le5, sG h70 g80, hK5⟩ (.cons 0 rfl (.cons 4 rfl (.cons 6 rfl (.cons 7 rfl (.cons 9 rfl (.cons 12 rfl (.cons 41 rfl (.cons 42 rfl (.cons 43 rfl (.cons 47 rfl (.cons 48 rfl (.cons 49 rfl .nil)))))))))))) rfl (fun _ h => h))
            | (refine dV (dK (m := m) (hv := hv) (pv := pv) (nm := nm) (s := s)) ?_; refine aO (.cons .here (.cons (.there .here) (.cons (.there .here) (.cons (.there .here) .nil)))) ?_; exact bX ⟨(glob x y o.oct).isSome, K4, pv, s⟩ ⟨Hl.le_trans hle3 le4, by first | exact vY h70 g80 | (subst h85; exact vZ h70), hpv.mono (Hl.le_trans hle3 le4)⟩ (.cons 0 rfl (.cons 4 rfl (.cons 6 rfl (.cons 7 rfl (.cons 9 rfl (.cons 12 rfl (.cons 41 rfl (.cons 42 rfl (.cons 43 rfl (.cons 47 rfl (.cons 48 rfl (.cons 49 rfl .nil)))))))))))) rfl (fun _ h => h))
         ·
          refine aQ rfl rfl rfl ?_;refine aQ rfl rfl rfl ?_;refine aQ rfl rfl rfl ?_;refine aQ rfl rfl rfl ?_;refine aA (a8 rfl rfl) rfl ?_;refine aG (aE ?_);refine cQ rfl ?_;refine a6 ?_;refine aN ?_
          first
           | (refine aO (.cons (.there .here) (.cons .here (.cons .here (.cons .here .nil)))) ?_; exact bX ⟨decide (dP o.oct x = dP o.oct y), K3, pv, s⟩ ⟨hle3, vX h55, hpv.mono hle3⟩ (.cons 0 rfl (.cons 4 rfl (.cons 6 rfl (.cons 7 rfl (.cons 9 rfl (.cons 12 rfl (.cons 41 rfl (.cons 42 rfl (.cons 43 rfl (.cons 47 rfl (.cons 48 rfl (.cons 49 rfl .nil)))))))))))) rfl (fun _ h => h))
           | (refine aO (.cons (.there .here) (.cons .here (.cons .here (.cons .here .nil)))) ?_; exact bX ⟨decide (0 ≤ Lib.index (dP o.oct x) (dP o.oct y)), K3, pv, s⟩ ⟨hle3, sF h64, hpv.mono hle3⟩ (.cons 0 rfl (.cons 4 rfl (.cons 6 rfl (.cons 7 rfl (.cons 9 rfl (.cons 12 rfl (.cons 41 rfl (.cons 42 rfl (.cons 43 rfl (.cons 47 rfl (.cons 48 rfl (.cons 49 rfl .nil)))))))))))) rfl (fun _ h => h))
           | (refine fN fun K5 le5 hK5 => ?_; refine dV (dK (m := m) (hv := hv) (pv := v90) (nm := nm) (s := { s with parts := x :: (glob x y o.oct).getD [] })) ?_; refine aO (.cons .here (.cons (.there .here) (.cons (.there .here) (.cons (.there .here) .nil)))) ?_; subst h85; exact bX ⟨(glob x y o.oct).isSome, K5, v90, { s with parts := x :: (glob x y o.oct).getD [] }⟩ ⟨Hl.le_trans (Hl.le_trans hle3 le4) le5, sG h70 g80, hK5⟩ (.cons 0 rfl (.cons 4 rfl (.cons 6 rfl (.cons 7 rfl (.cons 9 rfl (.cons 12 rfl (.cons 41 rfl (.cons 42 rfl (.cons 43 rfl (.cons 47 rfl (.cons 48 rfl (.cons 49 rfl .nil)))))))))))) rfl (fun _ h => h))
           | (refine dV (dK (m := m) (hv := hv) (pv := pv) (nm := nm) (s := s)) ?_; refine aO (.cons .here (.cons (.there .here) (.cons (.there .here) (.cons (.there .here) .nil)))) ?_; exact bX ⟨(glob x y o.oct).isSome, K4, pv, s⟩ ⟨Hl.le_trans hle3 le4, by first | exact vY h70 g80 | (subst h85; exact vZ h70), hpv.mono (Hl.le_trans hle3 le4)⟩ (.cons 0 rfl (.cons 4 rfl (.cons 6 rfl (.cons 7 rfl (.cons 9 rfl (.cons 12 rfl (.cons 41 rfl (.cons 42 rfl (.cons 43 rfl (.cons 47 rfl (.cons 48 rfl (.cons 49 rfl .nil)))))))))))) rfl (fun _ h => h))
        ·
         exact absurd (show o.tag = 3 by omega) h70
     ·
      intro ⟨ok, K4, pv4, s4⟩ ⟨hle4, hmm, hks4⟩;dsimp only at hle4 hmm hks4 ⊢;refine aI (aB ?_);refine aA (aC rfl) rfl ?_;refine aG (aE ?_);refine eB 93 rfl (fun h93 => ?_) (fun h93 => ?_)
      ·
       obtain ⟨ps, hvk, hs4⟩ : ∃ ps, fT o x y = some ps ∧ s4 = (if o.tag = 3 ∧ nm = true then { s with parts := x :: ps } else s) := (by rcases hmm with ⟨_, h⟩ | ⟨h, _⟩; exact h; (rw [h93] at h; cases h));have hres : matchI nm m o s = push s4 true := (by rw [hs4]; exact hsome (x :: ps) hcc (by rw [← hmall, xW hx, ← hin, aGZ hy hvk]));refine aI (aB ?_);refine aA (aC rfl) rfl ?_;refine aW rfl rfl (jP b mb m hv pv4 nm s4 true _) (.cons .here .nil) rfl (fun _ _ => aX _ _) ?_ ?_
       ·
        rintro _ _ _ hTr le1;obtain ⟨e, p, hq, fb, h, rfl⟩ := aY hTr;cases h
        refine aO (.cons .here .nil) ?_;refine aJ ?_;refine aP ?_;refine aJ ?_;refine aJ ?_;refine aP ?_;refine aP ?_;refine aJ ?_;refine aJ ?_;refine aP ?_;refine aJ ?_;refine bA (Hl.le_trans hle4 le1) ?_;unfold MI;rw [hres, hq];exact ⟨fb, rfl, rfl⟩
       rintro _ K _ hTr -;obtain ⟨q, hq, rfl, rfl, rfl⟩ := aZ hTr;clear hTr;have hqp := d8 hq;refine aG (aE ?_);refine bM ?_;refine bQ ?_;refine bC ?_;refine bC ?_;refine bQ ?_;refine bQ ?_;refine bC ?_;refine bC ?_;refine bQ ?_;refine bC ?_;refine aO (.cons .here .nil) ?_;refine qY rfl (by first | exact hle4 | exact hle2) ?_;unfold MI;rw [hres, hq];exact ⟨_, rfl, rfl, pv4, by rw [hqp]; exact hks4, rfl⟩
      ·
       obtain ⟨hvk, rfl, rfl⟩ : fT o x y = none ∧ s = s4 ∧ pv = pv4 := (by rcases hmm with ⟨h, _⟩ | ⟨_, h⟩; (rw [h93] at h; cases h); exact h);refine a6 ?_;refine aN (aE ?_);refine aB ?_;refine aA (bZ rfl rfl aH aH) rfl ?_;refine aA (aC rfl) rfl ?_;refine aG ?_;refine aO (.cons (.there .here) (.cons .here (.cons .here (.cons .here .nil)))) ?_;exact cL ⟨j + 1, K4⟩ ⟨by (show j + 1 ≤ ks.length); omega, hle4, (aJ6 hy hvk).symm.trans hin⟩ (by (show ks.length - (j + 1) < ks.length - j); omega) (.cons 0 rfl (.cons 4 rfl (.cons 6 rfl (.cons 7 rfl (.cons 9 rfl (.cons 41 rfl (.cons 42 rfl (.cons 43 rfl (.cons 47 rfl (.cons 48 rfl (.cons 49 rfl .nil))))))))))) rfl (fun _ h => h)
    ·
     have hin0 : o3 o x ks = none := (by rw [← hin]; exact aGY aH);refine cY ?_;refine aV ?_;refine aV ?_;refine bL ?_;refine aN (aE ?_);refine aB ?_;refine aA (bZ rfl rfl aH aH) rfl ?_;refine aA (aC rfl) rfl ?_;refine aG ?_;exact cL ⟨i + 1, K3⟩ ⟨by (show i + 1 ≤ vs.length); omega, hle3, by have h := xW (o := o) (ks := ks) hx; rw [hin0] at h; exact h.symm.trans hmall⟩ (by (show vs.length - (i + 1) < vs.length - i); omega) (.cons 0 rfl (.cons 4 rfl (.cons 6 rfl (.cons 7 rfl (.cons 41 rfl (.cons 42 rfl (.cons 43 rfl .nil))))))) rfl (fun _ h => h)
   ·
    have hres : matchI nm m o s = push s false := hnone hcc (by rw [← hmall]; exact aKB aH);refine cY ?_;refine aV ?_;refine aV ?_;refine bL ?_;refine aE (aB ?_);refine aA (aC rfl) rfl ?_;refine aW rfl rfl (jP b mb m hv pv nm s false _) (.cons (.there .here) .nil) rfl (fun _ _ => aX _ _) ?_ ?_
    ·
     rintro _ _ _ hTr le1;obtain ⟨e, p, hq, fb, h, rfl⟩ := aY hTr;cases h
     refine aO (.cons .here .nil) ?_;refine bA (Hl.le_trans hle2 le1) ?_;unfold MI;rw [hres, hq];exact ⟨fb, rfl, rfl⟩
    rintro _ K _ hTr -;obtain ⟨q, hq, rfl, rfl, rfl⟩ := aZ hTr;clear hTr;have hqp := d8 hq;refine aG ?_;refine aO (.cons .here .nil) ?_;refine dE rfl (by first | exact hle4 | exact hle2) ?_;unfold MI;rw [hres, hq];exact ⟨_, rfl, rfl, pv, by rw [hqp]; exact hpv.mono hle2, rfl⟩
  ·
   have hno := s7 (nm := nm) (m := m) (s := s) (o := o) aH;refine aQ rfl rfl rfl ?_;refine aQ rfl rfl rfl ?_;refine aQ rfl rfl rfl ?_;refine aQ rfl rfl rfl ?_;refine aQ rfl rfl rfl ?_;refine aQ rfl rfl rfl ?_;refine aA (a8 rfl rfl) rfl ?_;refine aW rfl rfl (m8 _ _ _ _ _ _ _ _ _ _ _ _ _) (.cons (.there .here) .nil) rfl (by rintro _ _ ⟨_, h, _⟩; cases h) ?_ ?_
   ·
    rintro _ _ _ ⟨fb, h, rfl⟩ le1;cases h
    refine aO (.cons .here .nil) ?_;refine aJ ?_;refine bA bP ?_;simp only [MI, hno, if_true, if_false, ↓reduceIte];exact ⟨fb, rfl, rfl⟩
   ·
    rintro _ _ _ ⟨_, h, _⟩; cases h
 ·
  have hno := s7 (nm := nm) (m := m) (s := s) (o := o) aH;refine aQ rfl rfl rfl ?_;refine aQ rfl rfl rfl ?_;refine aQ rfl rfl rfl ?_;refine aA (a8 rfl rfl) rfl ?_;refine aA (aC rfl) rfl ?_;refine aQ rfl rfl rfl ?_;refine aQ rfl rfl rfl ?_;refine aQ rfl rfl rfl ?_;refine aQ rfl rfl rfl ?_;refine aQ rfl rfl rfl ?_;refine aQ rfl rfl rfl ?_;refine aA (a8 rfl rfl) rfl ?_;refine aW rfl rfl (m8 _ _ _ _ _ _ _ _ _ _ _ _ _) (.cons (.there .here) .nil) rfl (by rintro _ _ ⟨_, h, _⟩; cases h) ?_ ?_
  ·
   rintro _ _ _ ⟨fb, h, rfl⟩ le1;cases h
   refine aO (.cons .here .nil) ?_;refine aJ ?_;refine bA bP ?_;simp only [MI, hno, if_true, if_false, ↓reduceIte];exact ⟨fb, rfl, rfl⟩
  ·
   rintro _ _ _ ⟨_, h, _⟩; cases h
end Go.Proofs
end
section
namespace Go.SL
abbrev itr (b : Nat) (l : List UInt8) (p : Nat) : Asn := pt b (.stringIter ⟨l.toArray⟩ p)
abbrev dec (l : List UInt8) (p : Nat) : Nat × Nat := Utf8.decode ⟨l.toArray⟩ p
section
variable {E : Env} {fr : Fr} {K : Hl} {L L' : List Asn} {dst : Option Tmp} {ty : TypeId} {pos : String} {aft : Array Edge} {g : Option (Nat × Bool)} {x : Operand} {t : TypeId} {l : List UInt8} {b p : Nat}
theorem wJ (hu : E.P.underlying t = some .string) (hx : fr.ev x = some (str l)) : EfS E fr K L ⟨dst, .range t x, ty, pos, aft, g⟩ (fun v K' L' => ∃ b, v = ptr b ∧ K' = K ∧ L' = itr b l 0 :: L) := by
 intro a w f i;refine ⟨ptr w.heap.size, w.iter ⟨l.toArray⟩ 0, K, itr w.heap.size l 0 :: L, .inl ?_, ⟨_, rfl, rfl, rfl⟩, Hl.le_refl _, i.alloc _⟩
 simp only [execOp, f.ev hx, bind];exact aS (run_range_string w t ⟨l.toArray⟩ hu)
theorem wI (hp : p < l.length) (hx : fr.ev x = some (ptr b)) (hT : Fnd (itr b l p) (itr b l (p + (dec l p).2)) L L') :
  EfS E fr K L ⟨dst, .next x true, ty, pos, aft, g⟩ (fun v K' L'' => v = .tuple #[.bool true, i64 p, .int .i32 (dec l p).1] ∧ K' = K ∧ L'' = L') := by
 intro a w f i;have hb := i.mem hT;have hp' : p < (⟨l.toArray⟩ : ByteArray).size := by simpa [ByteArray.size] using hp
 refine ⟨_, w.iterAt b ⟨l.toArray⟩ (p + (dec l p).2), K, L', .inl ?_, ⟨rfl, rfl, rfl⟩, Hl.le_refl _, ?_⟩
 ·simp only [execOp, f.ev hx, bind];exact aS (Lib.run_next_any_at w b ⟨l.toArray⟩ p ty hb hp')
 ·have hlt : b < w.heap.size := (Array.getElem?_eq_some_iff.1 hb).1;exact i.writeAt hT (H := w.heap.setIfInBounds b (.stringIter ⟨l.toArray⟩ (p + (dec l p).2))) (by simp) (by simp [hlt]) (fun y hy => by rw [Array.getElem?_setIfInBounds_ne (Ne.symm hy)])
theorem yH (hp : ¬ p < l.length) (hx : fr.ev x = some (ptr b)) (hT : Hs (itr b l p) L) :
  EfS E fr K L ⟨dst, .next x true, ty, pos, aft, g⟩ (fun v K' L'' => v = .tuple #[.bool false] ∧ K' = K ∧ L'' = L) := by
 intro a w f i;have hb := (Sees.own (K := K) hT).at i;have hp' : ¬ p < (⟨l.toArray⟩ : ByteArray).size := by simpa [ByteArray.size] using hp
 refine ⟨_, w, K, L, .inl ?_, ⟨rfl, rfl, rfl⟩, Hl.le_refl _, i⟩
 simp only [execOp, f.ev hx, bind];exact aS (Lib.run_next_end_at w b ⟨l.toArray⟩ p ty hb hp')
end
theorem aI0 (l : List UInt8) (p : Nat) (h : p < l.length) : (⟨l.toArray⟩ : ByteArray).get! p = l[p] := by
 have h' : p < (⟨l.toArray⟩ : ByteArray).size := by simpa [ByteArray.size] using h
 have := get_at ⟨l.toArray⟩ p h';rw [Nat.add_zero] at this;rw [this]; rfl
theorem aO7 {l : List UInt8} {p : Nat} {c : UInt8} (hc : l[p]? = some c) (h : c.toNat < 128) : dec l p = (c.toNat, 1) := by
 have hp : p < l.length := by
  rcases Nat.lt_or_ge p l.length with h' | h'
  ·exact h'
  ·rw [List.getElem?_eq_none h'] at hc; cases hc
 have hcl : l[p] = c := by rw [List.getElem?_eq_getElem hp] at hc; exact Option.some.inj hc
 have h' : p < (⟨l.toArray⟩ : ByteArray).size := by simpa [ByteArray.size] using hp
 have e : (⟨l.toArray⟩ : ByteArray)[p]'h' = c := hcl;have := decode_ascii ⟨l.toArray⟩ p h' (by rw [e]; exact h);rw [e] at this; exact this
theorem aO6 {l : List UInt8} {p : Nat} {c : UInt8} (hc : l[p]? = some c) (h : 128 ≤ c.toNat) :
    128 ≤ (dec l p).1 ∧ (dec l p).1 ≤ 2147483647 ∧ 1 ≤ (dec l p).2 ∧ p + (dec l p).2 ≤ l.length ∧ ∀ j d, p ≤ j → j < p + (dec l p).2 → l[j]? = some d → 128 ≤ d.toNat := by
  have hp : p < l.length := by
    rcases Nat.lt_or_ge p l.length with h' | h'
    · exact h'
    · rw [List.getElem?_eq_none h'] at hc; cases hc
  have hcl : l[p] = c := by rw [List.getElem?_eq_getElem hp] at hc; exact Option.some.inj hc
  have h' : p < (⟨l.toArray⟩ : ByteArray).size := by simpa [ByteArray.size] using hp
  have hsz : (⟨l.toArray⟩ : ByteArray).size = l.length := by simp [ByteArray.size]
  have e : (⟨l.toArray⟩ : ByteArray)[p]'h' = c := hcl;have h1 := decode_high ⟨l.toArray⟩ p h' (by rw [e]; exact h);have h2 := decode_le ⟨l.toArray⟩ p;refine ⟨h1.1, h2, h1.2, ?_⟩
  have hb0 : ((⟨l.toArray⟩ : ByteArray).get! (p + 0)).toNat = c.toNat := by rw [Nat.add_zero, aI0 l p hp, hcl]
  have cont : ∀ k, p + k < l.length → ((⟨l.toArray⟩ : ByteArray).get! (p + k)).toNat / 64 = 2 → ∀ d, l[p + k]? = some d → 128 ≤ d.toNat := by
    intro k hk hq d hd;rw [aI0 l _ hk] at hq;rw [List.getElem?_eq_getElem hk] at hd;cases hd; omega
  have key : ∀ n, (∀ k, 1 ≤ k → k < n → p + k < l.length ∧ ((⟨l.toArray⟩ : ByteArray).get! (p + k)).toNat / 64 = 2) → 1 ≤ n → (dec l p).2 = n → p + (dec l p).2 ≤ l.length ∧ ∀ j d, p ≤ j → j < p + (dec l p).2 → l[j]? = some d → 128 ≤ d.toNat := by
    intro n hk hn he;rw [he];refine ⟨?_, fun j d hj hj2 hd => ?_⟩
    · rcases Nat.lt_or_ge 1 n with h3 | h3
      · have := (hk (n - 1) aH aH).1; omega
      · omega
    · rcases Nat.lt_or_ge p j with h3 | h3
      · obtain ⟨q1, q2⟩ := hk (j - p) aH aH;have ej : p + (j - p) = j := by omega
        exact cont (j - p) q1 q2 d (by rw [ej]; exact hd)
      · have : j = p := by omega
        subst this; rw [hc] at hd; cases hd; exact h
  have hn : ¬ (((⟨l.toArray⟩ : ByteArray).get! (p + 0)).toNat < 128) := by rw [hb0]; omega
  have hone : (dec l p).2 = 1 → p + (dec l p).2 ≤ l.length ∧ ∀ j d, p ≤ j → j < p + (dec l p).2 → l[j]? = some d → 128 ≤ d.toNat := key 1 (fun k h1 h2 => by omega) (Nat.le_refl _);obtain ⟨D, hD⟩ : ∃ D, D = Utf8.decode ⟨l.toArray⟩ p := ⟨_, rfl⟩;have hD2 : dec l p = D := hD.symm;rw [hD2] at key hone ⊢;have unf := hD;simp only [Utf8.decode, hn, if_false] at unf;split at unf
  · rename_i hq;simp only [Bool.and_eq_true, beq_iff_eq, decide_eq_true_eq, hsz] at hq;split at unf
    · exact key 2 (fun k k1 k2 => by obtain rfl : k = 1 := by omega
                                     exact hq.2) aH (by rw [unf])
    · exact hone (by rw [unf])
  · split at unf
    · rename_i hq;simp only [Bool.and_eq_true, beq_iff_eq, decide_eq_true_eq, hsz] at hq;split at unf
      · exact key 3 (fun k k1 k2 => by
          rcases (show k = 1 ∨ k = 2 by omega) with rfl | rfl
          · exact hq.1.2
          · exact hq.2) aH (by rw [unf])
      · exact hone (by rw [unf])
    · split at unf
      · rename_i hq;simp only [Bool.and_eq_true, beq_iff_eq, decide_eq_true_eq, hsz] at hq;split at unf
        · exact key 4 (fun k k1 k2 => by
            rcases (show k = 1 ∨ k = 2 ∨ k = 3 by omega) with rfl | rfl | rfl
            · exact hq.1.1.2
            · exact hq.1.2
            · exact hq.2) aH (by rw [unf])
        · exact hone (by rw [unf])
      · exact hone (by rw [unf])
section
variable {E : Env} {fr : Fr} {K : Hl} {L : List Asn} {L' : Nat → List Asn} {dst : Option Tmp} {ty : TypeId} {pos : String} {aft : Array Edge} {g : Option (Nat × Bool)} {x : Operand} {t t2 : TypeId} {l : List UInt8} {b p : Nat} {c : UInt8}
theorem l9 {α : Type} {l : List α} {p : Nat} {c : α} (hc : l[p]? = some c) : p < l.length := by
 rcases Nat.lt_or_ge p l.length with h' | h'
 ·exact h'
 ·rw [List.getElem?_eq_none h'] at hc; cases hc
theorem aCF (hc : l[p]? = some c) (h : c.toNat < 128) (hx : fr.ev x = some (ptr b)) (hT : ∀ n, Fnd (itr b l p) (itr b l (p + n)) L (L' n)) :
  EfS E fr K L ⟨dst, .next x true, ty, pos, aft, g⟩ (fun v K' L'' => v = .tuple #[.bool true, i64 p, .int .i32 c.toNat] ∧ K' = K ∧ L'' = L' 1) := by
 intro a w f i;have hd := aO7 hc h;have := wI (dst := dst) (ty := ty) (pos := pos) (aft := aft) (g := g) (l9 hc) hx (hT (dec l p).2) a w f i;rw [hd] at this;exact this
theorem aK5 (hc : l[p]? = some c) (h : 128 ≤ c.toNat) (hx : fr.ev x = some (ptr b)) (hT : ∀ n, Fnd (itr b l p) (itr b l (p + n)) L (L' n)) :
  EfS E fr K L ⟨dst, .next x true, ty, pos, aft, g⟩ (fun v K' L'' => ∃ r n : Nat, v = .tuple #[.bool true, i64 p, .int .i32 r] ∧ K' = K ∧ L'' = L' n ∧ 128 ≤ r ∧ r ≤ 2147483647 ∧ 1 ≤ n ∧ p + n ≤ l.length ∧ ∀ j d, p ≤ j → j < p + n → l[j]? = some d → 128 ≤ d.toNat) := by
 intro a w f i;obtain ⟨d1, d2, d3, d4, d5⟩ := aO6 hc h;obtain ⟨u, w', K', L'', hr, ⟨hv, hK, hL⟩, le, j⟩ := wI (dst := dst) (ty := ty) (pos := pos) (aft := aft) (g := g) (l9 hc) hx (hT (dec l p).2) a w f i;exact ⟨u, w', K', L'', hr, ⟨_, _, hv, hK, hL, d1, d2, d3, d4, d5⟩, le, j⟩
def kJ (r : Int) : List UInt8 := (Utf8.encode r).data.toList
theorem zO {k' : IntKind} {r : Int} (hs : E.P.underlying t = some (.int k')) (hd : E.P.underlying t2 = some .string) (hx : fr.ev x = some (.int .i32 r)) :
  Ev E fr K L ⟨dst, .convert t t2 x, ty, pos, aft, g⟩ (str (kJ r)) := fun a w f j => by
 simp only [execOp, f.ev hx];refine d6 ?_;unfold convert;rw [aS (run_underlying hs w), aS (run_underlying hd w)]
 show Result.ok (Value.string (Utf8.encode _)) w = _
 simp [kJ]
theorem aK4 (r : Int) (h : 128 ≤ r) : 2 ≤ (kJ r).length ∧ (kJ r).length ≤ 4 ∧ ∃ c, (kJ r)[(kJ r).length - 1]? = some c ∧ 128 ≤ c.toNat := by
 unfold kJ Utf8.encode;have hc : 128 ≤ (if Utf8.valid r then r.toNat else Utf8.runeError) := by
  split
  ·omega
  ·decide
 generalize (if Utf8.valid r then r.toNat else Utf8.runeError) = c at hc
 have hb : ∀ n : Nat, 128 ≤ (UInt8.ofNat (0x80 + n % 64)).toNat := by
  intro n;simp;omega
 simp only [if_neg (show ¬ c < 0x80 by omega)];split
 ·exact ⟨by simp, by simp, _, rfl, hb _⟩
 ·split
  ·exact ⟨by simp, by simp, _, rfl, hb _⟩
  ·exact ⟨by simp, by simp, _, rfl, hb _⟩
end
end Go.SL
end
section
namespace Go.Mach
open Go.Syn
theorem aPE (s : aL) : s.findIdx? (fun x => decide (x = 64)) = if Lib.indexByte s 64 < 0 then none else some (Lib.indexByte s 64).toNat := by
 split
 ·rename_i h;have h1 := Lib.indexByte_ge s 64;have h2 := Lib.indexByte_none (l := s) (c := 64) aH;rw [List.findIdx?_eq_none_iff];intro x hx;obtain ⟨k, hk⟩ := List.getElem?_of_mem hx;have := h2 k;rw [hk] at this
  simpa using this
 ·rename_i h;obtain ⟨h1, h2⟩ := Lib.indexByte_some (l := s) (c := 64) (o := (Lib.indexByte s 64).toNat) aH;rw [List.findIdx?_eq_some_iff_getElem];have hlt : (Lib.indexByte s 64).toNat < s.length := by
   rcases Nat.lt_or_ge (Lib.indexByte s 64).toNat s.length with h' | h'
   ·exact h'
   ·rw [List.getElem?_eq_none h'] at h1; cases h1
  rw [List.getElem?_eq_getElem hlt] at h1;refine ⟨hlt, by simpa using h1, fun j hj => ?_⟩
  have := h2 j hj;rw [List.getElem?_eq_getElem aH] at this
  simpa using this
theorem aQG (s : aL) : (s.any fun c => decide (c = 64)) = decide (0 ≤ Lib.index s [64]) := by
 rw [Lib.index_one];have h1 := Lib.indexByte_ge s 64
 by_cases h : Lib.indexByte s 64 < 0
 ·have h2 := Lib.indexByte_none (l := s) (c := 64) aH;rw [decide_eq_false aH, List.any_eq_false];intro x hx;obtain ⟨k, hk⟩ := List.getElem?_of_mem hx;have := h2 k;rw [hk] at this
  simpa using this
 ·obtain ⟨h1, h2⟩ := Lib.indexByte_some (l := s) (c := 64) (o := (Lib.indexByte s 64).toNat) aH;rw [decide_eq_true aH, List.any_eq_true];exact ⟨64, List.mem_of_getElem? h1, by simp⟩
def ad (s : aL) : Bool := (Lib.cut s [64]).2.2 && (decide ((Lib.cut s [64]).1 ≠ []) && (decide ((Lib.cut s [64]).2.1 ≠ []) && (!(s.any eY) && (!(decide (0 ≤ Lib.index (Lib.cut s [64]).2.1 [64])) && decide (s.length ≤ 32)))))
theorem iY (s : aL) : l8 s = ad s := by
 unfold l8 ad Lib.cut;rw [aPE, Lib.index_one]
 by_cases h : Lib.indexByte s 64 < 0
 ·rw [if_pos h, if_neg aH]; rfl
 ·rw [if_neg h, if_pos aH];simp only [aQG, List.length_singleton, Bool.true_and, Bool.and_assoc]
theorem sT (c : UInt8) : eY c = [32, 9, 13, 10].contains c := by
 unfold eY;rw [Bool.eq_iff_iff];simp only [decide_eq_true_eq, List.contains_iff_mem, List.mem_cons, List.not_mem_nil, or_false]
 constructor
 ·rintro (h | h | h | h)
  ·left; exact UInt8.toNat_inj.1 h
  ·right; left; exact UInt8.toNat_inj.1 h
  ·right; right; left; exact UInt8.toNat_inj.1 h
  ·right; right; right; exact UInt8.toNat_inj.1 h
 ·rintro (h | h | h | h) <;> subst h <;> decide
theorem o1 : ∀ s : aL, decide (0 ≤ Lib.indexAny s [32, 9, 13, 10]) = s.any eY
 | [] => rfl
 | b :: l => by
  have ih := o1 l;have hg := Lib.indexAny_ge [32, 9, 13, 10] l;rw [Lib.indexAny, List.any_cons, sT, ← ih];cases h : [32, 9, 13, 10].contains b with
  | true => simp
  | false =>
   simp only [Bool.false_eq_true, if_false, Bool.false_or];split
   ·rename_i h2; have := beq_iff_eq.1 h2; rw [this]
   ·rename_i h2;have h3 : Lib.indexAny l [32, 9, 13, 10] ≠ -1 := fun e => h2 (by rw [e]; rfl)
    rw [decide_eq_true aH, decide_eq_true aH]
theorem aA9 {c : UInt8} (h : eY c = true) : c.toNat < 128 := by unfold eY at h; simp at h; omega
end Go.Mach
end
section
namespace Go.Proofs
open Go Go.SL Go.Syn Go.Mach
def ws : List UInt8 := [32, 9, 13, 10]
theorem aF2 {i : Nat} (h : i < 4) : ∃ c, ws[i]? = some c ∧ c.toNat < 128 := by
 rcases (show i = 0 ∨ i = 1 ∨ i = 2 ∨ i = 3 by omega) with rfl | rfl | rfl | rfl
 ·exact ⟨32, rfl, by decide⟩
 ·exact ⟨9, rfl, by decide⟩
 ·exact ⟨13, rfl, by decide⟩
 ·exact ⟨10, rfl, by decide⟩
theorem aR2 {c : UInt8} (h : 128 ≤ c.toNat) (k : Nat) : Lib.indexByte (ws.drop k) c = -1 := by
 have h1 := Lib.indexByte_ge (ws.drop k) c
 by_cases hc : Lib.indexByte (ws.drop k) c = -1
 ·exact hc
 ·obtain ⟨h2, _⟩ := Lib.indexByte_some (l := ws.drop k) (c := c) (o := (Lib.indexByte (ws.drop k) c).toNat) aH;rw [List.getElem?_drop] at h2;have hlt : k + (Lib.indexByte (ws.drop k) c).toNat < 4 := l9 h2;obtain ⟨d, hd, hd2⟩ := aF2 hlt;rw [hd] at h2; cases h2; omega
theorem aD0 (s : List UInt8) (c : UInt8) (K : Hl) : Sp Tryz.prog 308 [str s, .int .u8 c.toNat] K [] (Val (i64 (Lib.indexByte s c)) K) := by
 refine jR ⟨_, Tryz.func308, rfl, rfl⟩ fun w hw => ?_
 have := Tryz.strings_IndexByte ⟨s.toArray⟩ c.toNat w;have e : ((c.toNat : Int).toNat).toUInt8 = c := by simp
 rw [e] at this;exact this
theorem aJ8 (c : UInt8) (hc : c.toNat < 128) (K : Hl) : Sp Tryz.prog 289 [str ws, .int .i32 c.toNat] K [] (Val (i64 (Lib.indexByte ws c)) K) := by
 refine jR ⟨_, Tryz.func289, rfl, rfl⟩ fun w hw => ?_
 have := Tryz.strings_IndexRune_ascii ⟨ws.toArray⟩ c.toNat w aH aH;have e : ((c.toNat : Int).toNat).toUInt8 = c := by simp
 rw [e] at this;exact this
theorem aEU (r : Int) (K : Hl) : Sp Tryz.prog 322 [.int .i32 r] K [] (Val (.bool (Lib.validRune r)) K) :=
 jR ⟨_, Tryz.func322, rfl, rfl⟩ fun w hw => Tryz.utf8_ValidRune r w
theorem aJ7 (r : Int) (h1 : 128 ≤ r) (K : Hl) : Sp Tryz.prog 289 [str ws, .int .i32 r] K [] (Ret fun v K' L' => v = i64 (-1) ∧ K' = K ∧ L' = []) := by
 obtain ⟨q1, q2, cl, q3, q4⟩ := aK4 r h1;have hw1 : ws.length = 4 := rfl;refine bB Tryz.func289 rfl Tryz.ntmps289 rfl rfl fun F w => ?_
 refine aI (aB ?_);refine aA (aF rfl) rfl ?_;refine aG (aE ?_);refine bF (aI ?_);refine aB ?_;refine aA (aC rfl) rfl ?_;refine aA (j7 rfl rfl) rfl ?_;refine aA (aC rfl) rfl ?_;refine cA 163 rfl (fun g163 => ?_) (fun g163 => ?_)
 ·
  refine aT rfl rfl ?_;refine aA (aC rfl) rfl ?_;refine aT rfl rfl ?_;refine aA (dA rfl rfl) rfl ?_;refine aA (bH rfl rfl) rfl ?_;refine aA (aF rfl) rfl ?_;refine aG (aE ?_);refine bE 160 rfl (fun h160 => ?_) (fun h160 => ?_)
  ·
   exact absurd h160 aH
  ·
   refine aI (aB ?_);refine aA (aC rfl) rfl ?_;refine aA (bT rfl rfl) rfl ?_;refine aA (aF rfl) rfl ?_;refine aG (aE ?_);refine bE 171 rfl (fun h171 => ?_) (fun h171 => ?_)
   ·
    refine aI (aI ?_);refine aB ?_;refine aA (aC rfl) rfl ?_;refine ol_s (wJ Tryz.underlying9 rfl) rfl ?_;rintro _ K _ ⟨b175, rfl, rfl, rfl⟩ -;refine aG (aE ?_);refine bF ?_;refine eK (fun (i : Nat) => i ≤ 4) (fun i => [(0, str ws), (1, .int .i32 r), (175, ptr b175)]) (fun _ => K) (fun i => [itr b175 ws i]) (fun i => 4 - i) 0 (Nat.zero_le _) (.cons 0 rfl (.cons 1 rfl (.cons 175 rfl .nil))) rfl (fun _ h => h) ?_;intro i hi0;rcases Nat.lt_or_ge i 4 with hi | hi
    ·
     obtain ⟨c, hc, hlo⟩ := aF2 hi;refine aI (aB ?_);refine ol_s (aCF (L' := fun n => [itr b175 ws (i + n)]) hc hlo rfl (fun _ => .here)) rfl ?_;rintro _ K _ ⟨rfl, rfl, rfl⟩ -;refine aA (aR rfl rfl) rfl ?_;refine aG (aE ?_);refine aI ?_;refine eS rfl ?_;refine a6 ?_;refine aE (bF ?_);refine aI (aB ?_);refine aA (aR rfl rfl) rfl ?_;refine aA (aR rfl rfl) rfl ?_;refine aA (aF rfl) rfl ?_;refine aA (aF rfl) rfl ?_;refine aG (aE ?_);refine aI (aB ?_);refine aA (aC rfl) rfl ?_;refine aA (bT rfl rfl) rfl ?_;refine aG (aE ?_);refine bE 181 rfl (fun h181 => ?_) (fun h181 => ?_)
     ·
      exact absurd h181 aH
     ·
      refine a6 ?_;refine aN ?_;exact cL (i + 1) aH aH (.cons 0 rfl (.cons 1 rfl (.cons 175 rfl .nil))) rfl (fun _ h => h)
    ·
     have hn : ¬ i < ws.length := (by rw [hw1]; omega);refine aI (aB ?_);refine ol_s (yH hn rfl .here) rfl ?_;rintro _ K _ ⟨rfl, rfl, rfl⟩ -;refine aA (aR rfl rfl) rfl ?_;refine aG (aE ?_);refine aI ?_;refine cQ rfl ?_;refine cY ?_;refine aV ?_;refine aV ?_;refine bL ?_;refine aE (aI ?_);refine aB ?_;refine aA (aF rfl) rfl ?_;refine aG (aE ?_);refine bM ?_;refine bQ ?_;refine aO .nil ?_;refine bJ rfl rfl (Hl.le_refl _) ?_;exact ⟨_, rfl, rfl, rfl, rfl⟩
   ·
    refine aI (aB ?_);refine aA (aC rfl) rfl ?_;refine cF rfl rfl (aEU r _) rfl ?_;refine aA (by first | exact dM rfl | exact dU rfl) rfl ?_;refine aA (aF rfl) rfl ?_;refine aG (aE ?_)
    first | refine bE 183 rfl (fun h183 => ?_) (fun h183 => ?_) | refine eB 183 rfl (fun h183 => ?_) (fun h183 => ?_)
    ·
     refine aI (aB ?_);refine aA (aF rfl) rfl ?_;refine aG (aE ?_);refine bM ?_;refine bQ ?_;refine aO .nil ?_;refine bJ rfl rfl (Hl.le_refl _) ?_;exact ⟨_, rfl, rfl, rfl, rfl⟩
    ·
     refine aAO ?_;refine aI (aB ?_);refine aA (aC rfl) rfl ?_;refine aA (zO Tryz.underlying21 Tryz.underlying9 rfl) rfl ?_;refine aA (aF rfl) rfl ?_;refine aG (aE ?_);refine aI (aB ?_);refine aA (aC rfl) rfl ?_;refine aA (cB rfl Tryz.underlying9 rfl) rfl ?_;refine aA (nH rfl rfl aH aH) rfl ?_;refine aA (aF rfl) rfl ?_;refine aG (aE ?_);refine aI (aB ?_);refine aA (aC rfl) rfl ?_;refine aA (aF rfl) rfl ?_;refine aG (aE ?_);refine aI (aB ?_);refine aA (aF rfl) rfl ?_;refine aG (aE ?_);refine aI (bF ?_);refine eK (fun (u : Unit) => True) (fun _ => [(0, str ws), (7, str (kJ r)), (8, i64 ((kJ r).length - 1)), (9, i64 ((kJ r).length - 1))]) (fun _ => K) (fun _ => []) (fun _ => 0) () trivial (.cons 0 rfl (.cons 7 rfl (.cons 8 rfl (.cons 9 rfl .nil)))) rfl (fun _ h => h) ?_;intro _ _;refine aI (aI ?_);refine aB ?_;refine aA (aC rfl) rfl ?_;refine aA (aC rfl) rfl ?_;refine aA (cB rfl Tryz.underlying9 rfl) rfl ?_;refine aA (dA rfl rfl) rfl ?_;refine aG (aE ?_);refine bE 26 rfl (fun h26 => ?_) (fun h26 => ?_)
     ·
      obtain ⟨c, hc, hlo⟩ := aF2 (i := (kJ r).length - 1) aH;refine a6 ?_;refine aE (bF ?_);refine aAO ?_;refine aI (aI ?_);refine t_draw (anc := [0, 0, 3, 0, 0, 24, 63]) (ord := [0, 1, 2, 3, 4, 5, 6]) [] [] mixed (by decide +kernel) (cS _) ?_;refine dl_ev rfl rfl (.none rfl) rfl rfl (aC rfl) rfl ?_;refine dl_ev rfl rfl (.none rfl) rfl rfl (aC rfl) rfl ?_;refine dl_ev rfl rfl (.none rfl) rfl rfl (dB (j := (kJ r).length - 1) Tryz.underlying9 rfl rfl aH hc) rfl ?_;refine dl_ev rfl rfl (.none rfl) rfl rfl (aC rfl) rfl ?_;refine dl_ev rfl rfl (.none rfl) rfl rfl (aC rfl) rfl ?_;refine dl_ev rfl rfl (.none rfl) rfl rfl (dB (j := (kJ r).length - 1) Tryz.underlying9 rfl rfl aH q3) rfl ?_;refine dl_ev rfl rfl (.none rfl) rfl rfl (fO rfl rfl) rfl ?_;refine dl_nil ?_;refine aE ?_;refine bE 33 rfl (fun h33 => ?_) (fun h33 => ?_)
      ·
       refine aI ?_;refine t_draw (anc := [0, 0, 2, 7, 0, 0, 48, 127, 255]) (ord := [0, 1, 2, 3, 4, 5, 6, 7, 8]) [7] [] mixed (by decide +kernel) (cS _) ?_;refine dl_ev rfl rfl (.none rfl) rfl rfl (aC rfl) rfl ?_;refine dl_ev rfl rfl (.none rfl) rfl rfl (aC rfl) rfl ?_;refine dl_ev rfl rfl (.none rfl) rfl rfl (bZ rfl rfl aH aH) rfl ?_;refine dl_ev rfl rfl (.none rfl) rfl rfl (fW (m := (kJ r).length) Tryz.underlying9 rfl rfl aH (by rw [hw1]; omega)) rfl ?_;refine dl_ev rfl rfl (.none rfl) rfl rfl (aC rfl) rfl ?_;refine dl_ev rfl rfl (.none rfl) rfl rfl (aC rfl) rfl ?_;refine dl_ev rfl rfl (.none rfl) rfl rfl (dB (j := (kJ r).length - 1) Tryz.underlying9 rfl rfl aH q3) rfl ?_;refine dl_callv rfl (.none rfl) rfl rfl rfl rfl (aD0 (ws.drop (kJ r).length) cl _) rfl ?_;refine dl_ev rfl rfl (.none rfl) rfl rfl (aF rfl) rfl ?_;refine dl_nil ?_;refine aE (aI ?_);refine aI (aB ?_);refine aA (aC rfl) rfl ?_;refine aA (dA rfl rfl) rfl ?_;refine aG (aE ?_);refine bE 43 rfl (fun h43 => ?_) (fun h43 => ?_)
       ·
        refine aI (aB ?_);refine aA (aF rfl) rfl ?_;refine aG (aE ?_);refine bM ?_;refine bC ?_;refine bC ?_;refine mX ?_;refine bQ ?_;refine bC ?_;refine bQ ?_;refine bC ?_;refine mX ?_;refine bQ ?_;refine aO .nil ?_;refine bJ rfl rfl (Hl.le_refl _) ?_;exact ⟨_, rfl, rfl, rfl, rfl⟩
       ·
        exact absurd (show Lib.indexByte (ws.drop (kJ r).length) cl < 0 by rw [aR2 q4]; omega) h43
      ·
       exact absurd (show ¬ ((c.toNat : Int) = cl.toNat) by omega) h33
     ·
      exact absurd (show ((kJ r).length : Int) - 1 < (ws.length : Int) by rw [hw1]; omega) h26
 ·
  exact absurd (show (0 : Int) ≤ r by omega) g163
theorem aDZ (s : List UInt8) (h8 : s.length ≤ 8) (K : Hl) : Sp Tryz.prog 221 [str s, str ws] K [] (Ret fun v K' L' => ∃ n : Int, v = i64 n ∧ (0 ≤ n ↔ s.any eY = true) ∧ K' = K ∧ L' = []) := by
 have hw1 : ws.length = 4 := rfl;have husc : ∀ (n : Int) (K : Hl), Sp Tryz.prog 290 [i64 n] K [] (Val (.bool (decide (8 < n))) K) := fun n K => jR ⟨_, Tryz.func290, rfl, rfl⟩ fun w hw => Tryz.strings_shouldUseASCIISet n w
 refine bB Tryz.func221 rfl Tryz.ntmps221 rfl rfl fun F w => ?_
 refine aI (aB ?_);refine aA (aF rfl) rfl ?_;refine aG (aE ?_);refine aI (aI ?_);refine aB ?_;refine aA (aC rfl) rfl ?_;refine aA (jF rfl rfl) rfl ?_;refine aG (aE ?_);refine bE 12 rfl (fun h12 => ?_) (fun h12 => ?_)
 ·
  exact absurd h12 (by decide)
 ·
  refine a6 ?_;refine aE (aI ?_);refine aI (aB ?_);refine aA (aC rfl) rfl ?_;refine aA (cB rfl Tryz.underlying9 rfl) rfl ?_;refine aA (bT rfl rfl) rfl ?_;refine aG (aE ?_);refine bE 15 rfl (fun h15 => ?_) (fun h15 => ?_)
  ·
   exact absurd h15 (by rw [hw1]; omega)
  ·
   refine a6 ?_;refine aE (aI ?_);refine aI (aB ?_);refine aA (aC rfl) rfl ?_;refine aA (cB rfl Tryz.underlying9 rfl) rfl ?_;refine cF rfl rfl (husc _ _) rfl ?_;refine aG (aE ?_);refine bE 26 rfl (fun h26 => ?_) (fun h26 => ?_)
   ·
    exact absurd h26 aH
   ·
    refine a6 ?_;refine aE (aI ?_);refine aI (aB ?_);refine aA (aC rfl) rfl ?_;refine ol_s (wJ Tryz.underlying9 rfl) rfl ?_;rintro _ K _ ⟨b45, rfl, rfl, rfl⟩ -;refine aG (aE ?_);refine bF ?_;refine eK (fun (i : Nat) => i ≤ s.length ∧ ∀ j d, j < i → s[j]? = some d → eY d = false) (fun i => [(0, str s), (1, str ws), (45, ptr b45)]) (fun _ => K) (fun i => [itr b45 s i]) (fun i => s.length - i) 0 ⟨Nat.zero_le _, fun j d h _ => by omega⟩ (.cons 0 rfl (.cons 1 rfl (.cons 45 rfl .nil))) rfl (fun _ h => h) ?_;intro i ⟨hi0, hno⟩;rcases Nat.lt_or_ge i s.length with hi | hi
    ·
     obtain ⟨c, hc⟩ : ∃ c, s[i]? = some c := ⟨s[i]'hi, List.getElem?_eq_getElem hi⟩;rcases Nat.lt_or_ge c.toNat 128 with hlo | hhi
     ·
      refine aI (aB ?_);refine ol_s (aCF (L' := fun n => [itr b45 s (i + n)]) hc hlo rfl (fun _ => .here)) rfl ?_;rintro _ K _ ⟨rfl, rfl, rfl⟩ -;refine aA (aR rfl rfl) rfl ?_;refine aG (aE ?_);refine aI ?_;refine eS rfl ?_;refine a6 ?_;refine aE (bF ?_);refine aI (aB ?_);refine aA (aR rfl rfl) rfl ?_;refine aA (aR rfl rfl) rfl ?_;refine aA (aF rfl) rfl ?_;refine aA (aF rfl) rfl ?_;refine aG (aE ?_);refine aI (aB ?_);refine aA (aC rfl) rfl ?_;refine aA (aC rfl) rfl ?_;refine cF rfl rfl (aJ8 c hlo _) rfl ?_;refine aA (gU rfl rfl) rfl ?_;refine aG (aE ?_);refine bE 53 rfl (fun h53 => ?_) (fun h53 => ?_)
      ·
       have hbl : eY c = true := (by rw [sT, Lib.contains_iff_indexByte]; exact decide_eq_true h53);refine aI (aB ?_);refine aA (aC rfl) rfl ?_;refine aA (aF rfl) rfl ?_;refine aG (aE ?_);refine bM ?_;refine bQ ?_;refine bC ?_;refine bQ ?_;refine bC ?_;refine aO .nil ?_;refine bJ rfl rfl (Hl.le_refl _) ?_
       first
        | exact ⟨_, rfl, -1, rfl, ⟨fun h => by omega, fun h => by rw [hall] at h; cases h⟩, rfl, rfl⟩
        | exact ⟨_, rfl, i, rfl, ⟨fun _ => List.any_eq_true.2 ⟨c, List.mem_of_getElem? hc, hbl⟩, fun _ => by omega⟩, rfl, rfl⟩
      ·
       have hbl : eY c = false := (by rw [sT, Lib.contains_iff_indexByte]; exact decide_eq_false h53);refine a6 ?_;refine aN ?_
       first
        | (exact cL (i + 1) ⟨by omega, fun j d hj hd => by rcases Nat.lt_or_ge j i with h | h; exact hno j d h hd; (obtain rfl : j = i := by omega); rw [hc] at hd; cases hd; exact hbl⟩ aH (.cons 0 rfl (.cons 1 rfl (.cons 45 rfl .nil))) rfl (fun _ h => h))
        | (exact cL (i + n) ⟨h4, fun j d hj hd => by rcases Nat.lt_or_ge j i with h | h; exact hno j d h hd; (have := h5 j d h hj hd); cases hbd : eY d with | false => rfl | true => exact absurd (aA9 hbd) aH⟩ aH (.cons 0 rfl (.cons 1 rfl (.cons 45 rfl .nil))) rfl (fun _ h => h))
     ·
      refine aI (aB ?_);refine ol_s (aK5 (L' := fun n => [itr b45 s (i + n)]) hc hhi rfl (fun _ => .here)) rfl ?_;rintro _ K _ ⟨r, n, rfl, rfl, rfl, h1, h2, h3, h4, h5⟩ -;refine aA (aR rfl rfl) rfl ?_;refine aG (aE ?_);refine aI ?_;refine eS rfl ?_;refine a6 ?_;refine aE (bF ?_);refine aI (aB ?_);refine aA (aR rfl rfl) rfl ?_;refine aA (aR rfl rfl) rfl ?_;refine aA (aF rfl) rfl ?_;refine aA (aF rfl) rfl ?_;refine aG (aE ?_);refine aI (aB ?_);refine aA (aC rfl) rfl ?_;refine aA (aC rfl) rfl ?_;refine bD rfl rfl (aJ7 r aH _) .nil rfl ?_;rintro _ K _ ⟨rfl, rfl, rfl⟩ -;refine aA (gU rfl rfl) rfl ?_;refine aG (aE ?_);refine bE 53 rfl (fun h53 => ?_) (fun h53 => ?_)
      ·
       exact absurd h53 aH
      ·
       refine a6 ?_;refine aN ?_
       first
        | (exact cL (i + 1) ⟨by omega, fun j d hj hd => by rcases Nat.lt_or_ge j i with h | h; exact hno j d h hd; (obtain rfl : j = i := by omega); rw [hc] at hd; cases hd; exact hbl⟩ aH (.cons 0 rfl (.cons 1 rfl (.cons 45 rfl .nil))) rfl (fun _ h => h))
        | (exact cL (i + n) ⟨h4, fun j d hj hd => by rcases Nat.lt_or_ge j i with h | h; exact hno j d h hd; (have := h5 j d h hj hd); cases hbd : eY d with | false => rfl | true => exact absurd (aA9 hbd) aH⟩ aH (.cons 0 rfl (.cons 1 rfl (.cons 45 rfl .nil))) rfl (fun _ h => h))
    ·
     have hn : ¬ i < s.length := aH;have hall : s.any eY = false := (by rw [List.any_eq_false]; intro x hx; obtain ⟨j, hj⟩ := List.getElem?_of_mem hx; have := hno j x (by have := l9 hj; omega) hj; simp [this]);refine aI (aB ?_);refine ol_s (yH hn rfl .here) rfl ?_;rintro _ K _ ⟨rfl, rfl, rfl⟩ -;refine aA (aR rfl rfl) rfl ?_;refine aG (aE ?_);refine aI ?_;refine cQ rfl ?_;refine cY ?_;refine aV ?_;refine aV ?_;refine bL ?_;refine aE (aI ?_);refine aB ?_;refine aA (aF rfl) rfl ?_;refine aG (aE ?_);refine bM ?_;refine aO .nil ?_;refine bJ rfl rfl (Hl.le_refl _) ?_
     first
      | exact ⟨_, rfl, -1, rfl, ⟨fun h => by omega, fun h => by rw [hall] at h; cases h⟩, rfl, rfl⟩
      | exact ⟨_, rfl, i, rfl, ⟨fun _ => List.any_eq_true.2 ⟨c, List.mem_of_getElem? hc, hbl⟩, fun _ => by omega⟩, rfl, rfl⟩
theorem aGX (s : List UInt8) (hs : s.length ≤ 1000000) (K : Hl) : Sp Tryz.prog 221 [str s, str ws] K [] (Ret fun v K' L' => ∃ n : Int, v = i64 n ∧ (0 ≤ n ↔ s.any eY = true) ∧ K' = K ∧ L' = []) := by
 rcases Nat.lt_or_ge 8 s.length with h8 | h8
 ·have h116 : (Tryz.prog.info? 415).map (fun i => (i.zero, i.size)) = some (some (.agg (Array.replicate 256 (.bool false))), 256) := by kernel_rfl
  refine (nB (v := i64 (Lib.indexAny s ws)) ⟨_, Tryz.func221, rfl, rfl⟩ fun w hw => ?_).mono ?_
  ·refine (Tryz.strings_IndexAny_long (zero_of_info h116).1 ⟨s.toArray⟩ ⟨ws.toArray⟩ w (by decide) (by simpa [ByteArray.size] using h8) (by simp [ByteArray.size]; omega) (by decide) ?_).mono fun e w' ⟨he, hw'⟩ => ⟨he, ?_⟩
   ·intro j b hj;have hlt : j < 4 := l9 (l := ws) hj;obtain ⟨c, hc, hc2⟩ := aF2 hlt;have hj' : ws[j]? = some b := hj;rw [hc] at hj'; cases hj'; exact hc2
   ·rw [hw'];exact ((RowKit.Below.refl _ _).alloc (Nat.le_refl _) _).alloc (by simp) _
  ·rintro e K' L' ⟨rfl, rfl, rfl⟩;have := o1 s;exact ⟨_, rfl, _, rfl, by rw [← this]; exact decide_eq_true_iff.symm, rfl, rfl⟩
 ·exact aDZ s h8 K
theorem aGC (s : List UInt8) (hs : s.length ≤ 1000000) (K : Hl) : Sp Tryz.prog 127 [str s, str ws] K [] (Val (.bool (s.any eY)) K) := by
 refine bB Tryz.func127 rfl Tryz.ntmps127 rfl rfl fun F w => ?_
 refine aI (aB ?_);refine aA (aF rfl) rfl ?_;refine aG (aE ?_);refine aI (aB ?_);refine aA (aC rfl) rfl ?_;refine aA (aC rfl) rfl ?_;refine bD rfl rfl (aGX s hs _) .nil rfl ?_;rintro _ K _ ⟨n, rfl, hn, rfl, rfl⟩ -;refine aA (gU rfl rfl) rfl ?_;refine aA (aF rfl) rfl ?_;refine aG (aE ?_);refine bM ?_;refine aO .nil ?_;refine bJ rfl rfl (Hl.le_refl _) ?_;refine retB ?_ _
 rw [Bool.eq_iff_iff, ← hn];simp
theorem aHX (s sep : List UInt8) (K : Hl) (hg : Glob K) (hs : s.length < 4294967281) : Sp Tryz.prog 228 [str s, str sep] K [] (Val (.tuple #[str (Lib.cut s sep).1, str (Lib.cut s sep).2.1, .bool (Lib.cut s sep).2.2]) K) := by
 refine nB ⟨_, Tryz.func228, rfl, rfl⟩ fun w hw => ?_
 obtain ⟨m, T, fz, hm⟩ := hg.maxLen;refine (Tryz.strings_Cut ⟨s.toArray⟩ ⟨sep.toArray⟩ m w (by simpa [ByteArray.size] using hs) (n8 (hw _ _ hm) rfl)).mono fun e w' ⟨he, n, hw'⟩ => ⟨he, ?_⟩
 rw [hw'];exact ⟨rfl, rfl, rfl, Nat.le_refl _, fun _ _ => rfl⟩
theorem aMN (s sep : List UInt8) : (Lib.cut s sep).2.1.length ≤ s.length := by
 unfold Lib.cut;split
 ·simp
 ·simp
theorem uV (s : List UInt8) (K : Hl) (hg : Glob K) (hs : s.length ≤ 100000) : Sp Tryz.prog 256 [str s] K [] (Val (.bool (l8 s)) K) := by
 have hcl := aMN s [64];refine bB Tryz.func256 rfl Tryz.ntmps256 rfl rfl fun F w => ?_
 refine aI (aB ?_);refine aA (aF rfl) rfl ?_;refine aG (aE ?_);refine aI (aB ?_);refine aA (aC rfl) rfl ?_;refine cF rfl rfl (aHX s [64] _ hg aH) rfl ?_;refine aA (aC rfl) rfl ?_;refine aA (aR rfl rfl) rfl ?_;refine aA (aR rfl rfl) rfl ?_;refine aA (aR rfl rfl) rfl ?_;refine aA (aF rfl) rfl ?_;refine aA (aF rfl) rfl ?_;refine aA (aF rfl) rfl ?_;refine aG (aE ?_);refine aI (aB ?_);refine aA (aC rfl) rfl ?_;refine aA (aC rfl) rfl ?_;refine mQ 13 rfl (fun g13 => ?_) (fun g13 => ?_)
 ·
  refine aT rfl rfl ?_;refine aA (aC rfl) rfl ?_;refine aT rfl rfl ?_;refine aA (oX rfl rfl) rfl ?_;refine aA (bH rfl rfl) rfl ?_;refine aA (aC rfl) rfl ?_;refine cA 17 rfl (fun g17 => ?_) (fun g17 => ?_)
  ·
   refine aT rfl rfl ?_;refine aA (aC rfl) rfl ?_;refine aT rfl rfl ?_;refine aA (oX rfl rfl) rfl ?_;refine aA (bH rfl rfl) rfl ?_;refine aA (aC rfl) rfl ?_;refine cA 21 rfl (fun g21 => ?_) (fun g21 => ?_)
   ·
    refine aT rfl rfl ?_;refine aA (aC rfl) rfl ?_;refine aT rfl rfl ?_;refine cF rfl rfl (aGC s aH _) rfl ?_;refine aT rfl rfl ?_;refine aA (by first | exact dM rfl | exact dU rfl) rfl ?_;refine aA (bH rfl rfl) rfl ?_;refine aA (aC rfl) rfl ?_;refine mQ 26 rfl (fun g26 => ?_) (fun g26 => ?_)
    ·
     refine aT rfl rfl ?_;refine aA (aC rfl) rfl ?_;refine aT rfl rfl ?_;refine cF rfl rfl (rY (Lib.cut s [64]).2.1 [64] _ hg aH) rfl ?_;refine aT rfl rfl ?_;refine aA (by first | exact dM rfl | exact dU rfl) rfl ?_;refine aA (bH rfl rfl) rfl ?_;refine aA (aC rfl) rfl ?_;refine mQ 31 rfl (fun g31 => ?_) (fun g31 => ?_)
     ·
      refine aT rfl rfl ?_;refine aA (aC rfl) rfl ?_;refine aT rfl rfl ?_;refine aA (cB rfl Tryz.underlying9 rfl) rfl ?_;refine aT rfl rfl ?_;refine aA (j7 rfl rfl) rfl ?_;refine aA (bH rfl rfl) rfl ?_;refine aA (aF rfl) rfl ?_;refine aG (aE ?_);refine bM ?_;refine aO .nil ?_;refine bJ rfl rfl (Hl.le_refl _) ?_;refine retB ?_ _
      rw [iY];unfold ad;have hd32 : decide ((s.length : Int) ≤ 32) = decide (s.length ≤ 32) := (by rw [decide_eq_decide]; omega)
      generalize s.any eY = xb at *
      by_cases hix : 0 ≤ Lib.index (Lib.cut s [64]).2.1 [64]
      ·simp_all
      ·simp_all
     ·
      refine aQ rfl rfl rfl ?_;refine aQ rfl rfl rfl ?_;refine aQ rfl rfl rfl ?_;refine aA (a8 rfl rfl) rfl ?_;refine aA (aF rfl) rfl ?_;refine aG (aE ?_);refine bM ?_;refine aO .nil ?_;refine bJ rfl rfl (Hl.le_refl _) ?_;refine retB ?_ _
      rw [iY];unfold ad;have hd32 : decide ((s.length : Int) ≤ 32) = decide (s.length ≤ 32) := (by rw [decide_eq_decide]; omega)
      generalize s.any eY = xb at *
      by_cases hix : 0 ≤ Lib.index (Lib.cut s [64]).2.1 [64]
      ·simp_all
      ·simp_all
    ·
     refine aQ rfl rfl rfl ?_;refine aQ rfl rfl rfl ?_;refine aQ rfl rfl rfl ?_;refine aA (a8 rfl rfl) rfl ?_;refine aA (aC rfl) rfl ?_;refine aQ rfl rfl rfl ?_;refine aQ rfl rfl rfl ?_;refine aQ rfl rfl rfl ?_;refine aA (a8 rfl rfl) rfl ?_;refine aA (aF rfl) rfl ?_;refine aG (aE ?_);refine bM ?_;refine aO .nil ?_;refine bJ rfl rfl (Hl.le_refl _) ?_;refine retB ?_ _
     rw [iY];unfold ad;have hd32 : decide ((s.length : Int) ≤ 32) = decide (s.length ≤ 32) := (by rw [decide_eq_decide]; omega)
     generalize s.any eY = xb at *
     by_cases hix : 0 ≤ Lib.index (Lib.cut s [64]).2.1 [64]
     ·simp_all
     ·simp_all
   ·
    refine aQ rfl rfl rfl ?_;refine aQ rfl rfl rfl ?_;refine aQ rfl rfl rfl ?_;refine aA (a8 rfl rfl) rfl ?_;refine aA (aC rfl) rfl ?_;refine aQ rfl rfl rfl ?_;refine aQ rfl rfl rfl ?_;refine aQ rfl rfl rfl ?_;refine aA (a8 rfl rfl) rfl ?_;refine aA (aC rfl) rfl ?_;refine aQ rfl rfl rfl ?_;refine aQ rfl rfl rfl ?_;refine aQ rfl rfl rfl ?_;refine aA (a8 rfl rfl) rfl ?_;refine aA (aF rfl) rfl ?_;refine aG (aE ?_);refine bM ?_;refine aO .nil ?_;refine bJ rfl rfl (Hl.le_refl _) ?_;refine retB ?_ _
    rw [iY];unfold ad;have hd32 : decide ((s.length : Int) ≤ 32) = decide (s.length ≤ 32) := (by rw [decide_eq_decide]; omega)
    generalize s.any eY = xb at *
    by_cases hix : 0 ≤ Lib.index (Lib.cut s [64]).2.1 [64]
    ·simp_all
    ·simp_all
  ·
   refine aQ rfl rfl rfl ?_;refine aQ rfl rfl rfl ?_;refine aA (a8 rfl rfl) rfl ?_;refine aA (aC rfl) rfl ?_;refine aQ rfl rfl rfl ?_;refine aQ rfl rfl rfl ?_;refine aQ rfl rfl rfl ?_;refine aA (a8 rfl rfl) rfl ?_;refine aA (aC rfl) rfl ?_;refine aQ rfl rfl rfl ?_;refine aQ rfl rfl rfl ?_;refine aQ rfl rfl rfl ?_;refine aA (a8 rfl rfl) rfl ?_;refine aA (aC rfl) rfl ?_;refine aQ rfl rfl rfl ?_;refine aQ rfl rfl rfl ?_;refine aQ rfl rfl rfl ?_;refine aA (a8 rfl rfl) rfl ?_;refine aA (aF rfl) rfl ?_;refine aG (aE ?_);refine bM ?_;refine aO .nil ?_;refine bJ rfl rfl (Hl.le_refl _) ?_;refine retB ?_ _
   rw [iY];unfold ad;have hd32 : decide ((s.length : Int) ≤ 32) = decide (s.length ≤ 32) := (by rw [decide_eq_decide]; omega)
   generalize s.any eY = xb at *
   by_cases hix : 0 ≤ Lib.index (Lib.cut s [64]).2.1 [64]
   ·simp_all
   ·simp_all
 ·
  refine aQ rfl rfl rfl ?_;refine aQ rfl rfl rfl ?_;refine aA (a8 rfl rfl) rfl ?_;refine aA (aC rfl) rfl ?_;refine aQ rfl rfl rfl ?_;refine aQ rfl rfl rfl ?_;refine aA (a8 rfl rfl) rfl ?_;refine aA (aC rfl) rfl ?_;refine aQ rfl rfl rfl ?_;refine aQ rfl rfl rfl ?_;refine aQ rfl rfl rfl ?_;refine aA (a8 rfl rfl) rfl ?_;refine aA (aC rfl) rfl ?_;refine aQ rfl rfl rfl ?_;refine aQ rfl rfl rfl ?_;refine aQ rfl rfl rfl ?_;refine aA (a8 rfl rfl) rfl ?_;refine aA (aC rfl) rfl ?_;refine aQ rfl rfl rfl ?_;refine aQ rfl rfl rfl ?_;refine aQ rfl rfl rfl ?_;refine aA (a8 rfl rfl) rfl ?_;refine aA (aF rfl) rfl ?_;refine aG (aE ?_);refine bM ?_;refine aO .nil ?_;refine bJ rfl rfl (Hl.le_refl _) ?_;refine retB ?_ _
  rw [iY];unfold ad;have hd32 : decide ((s.length : Int) ≤ 32) = decide (s.length ≤ 32) := (by rw [decide_eq_decide]; omega)
  generalize s.any eY = xb at *
  by_cases hix : 0 ≤ Lib.index (Lib.cut s [64]).2.1 [64]
  ·simp_all
  ·simp_all
end Go.Proofs
end
section
namespace Go.Proofs
open Go Go.SL Go.Syn Go.Mach
structure MsgOk (m : Msg) : Prop where
 hn : m.hs.length ≤ 1000000
 hs : ∀ h ∈ m.hs, h.1.length ≤ 100000 ∧ h.2.length ≤ 100000
 from_ : m.from_.length ≤ 100000
 to_ : m.to_.length ≤ 100000
structure InsOk (o : Ins) : Prop where
 an : o.a.length ≤ 1000000
 bn : o.b.length ≤ 1000000
 a : ∀ x ∈ o.a, x.length ≤ 100000
 b : ∀ x ∈ o.b, x.length ≤ 100000
structure MInv (s : MS) : Prop where
 stack : s.stack.length ≤ 8
 acts : s.acts.length ≤ 6
 vars : ∀ name, (vget s.vars name).length ≤ 100000
 parts : ∀ x ∈ s.parts, x.length ≤ 100000
theorem MInv.small {s : MS} (h : MInv s) : nG s.vars s.parts := by
 intro name;unfold held;split
 ·split
  ·rename_i c _;simp only [];cases hp : s.parts[c.toNat - 48]? with
   | none => simp
   | some x => exact h.parts x (List.mem_of_getElem? hp)
  ·exact h.vars _
 ·exact h.vars _
theorem MInv.start : MInv Mach.start := ⟨by simp [Mach.start], by simp [Mach.start], fun _ => by simp [Mach.start, vget], by simp [Mach.start]⟩
theorem y3 (k v name : aL) : ∀ vars : List (aL × aL), vget (vput vars k v) name = if k = name then v else vget vars name
 | [] => by unfold vput vget; rfl
 | (j, u) :: r => by
  unfold vput
  by_cases h : j = k
  ·rw [if_pos h]; subst h
   unfold vget;split <;> rfl
  ·rw [if_neg h];unfold vget;rw [y3 k v name r]
   by_cases h2 : j = name
   ·rw [if_pos h2, if_pos h2, if_neg (fun e => h (by rw [h2, e]))]
   ·rw [if_neg h2, if_neg h2]
theorem MInv.push {s t : MS} {b : Bool} (h : MInv s) (hp : Mach.push s b = .ok t) : MInv t := by
 unfold Mach.push at hp;split at hp
 ·cases hp; exact ⟨by simp; omega, h.acts, h.vars, h.parts⟩
 ·cases hp
theorem MInv.pop {s : MS} {r : Bool × MS} (h : MInv s) (hp : Mach.pop s = .ok r) : MInv r.2 := by
 unfold Mach.pop at hp;split at hp
 ·cases hp; exact ⟨by have := h.stack; simp; omega, h.acts, h.vars, h.parts⟩
 ·cases hp
theorem MInv.jump {s t : MS} {by_ : Int} {n : Nat} {yes : Bool} (h : MInv s) (hp : Mach.jump s by_ n yes = .ok t) : MInv t := by
 unfold Mach.jump at hp;split at hp
 ·cases hp; split
  ·exact ⟨h.stack, h.acts, h.vars, h.parts⟩
  ·exact h
 ·cases hp
theorem aBQ (w v k : aL) : ∀ f i j ps, eR w v k f i j = some ps → ∀ x ∈ ps, x.length ≤ w.length := by
 have one : ∀ e i, ((w.take e).drop i).length ≤ w.length := by intro e i; simp; omega
 intro f;induction f with
 | zero => intro i j ps h; cases h
 | succ f ih =>
  intro i j ps h;have cons : ∀ e i' j' q, eR w v k f i' j' = q → q.map (fun ps => ((w.take e).drop i) :: ps) = some ps → ∀ x ∈ ps, x.length ≤ w.length := by
   intro e i' j' q hq hm;cases q with
   | none => cases hm
   | some r =>
    cases hm
    intro x hx;rcases List.mem_cons.1 hx with rfl | hx
    ·exact one _ _
    ·exact ih _ _ _ hq x hx
  unfold eR at h;split at h
  ·split at h
   ·cases h; intro x hx; cases hx
   ·cases h
  ·split at h
   ·have key : ∀ n e, iH (fun e => (eR w v k f e (j + 1)).map fun ps => ((w.take e).drop i) :: ps) n e = some ps → ∀ x ∈ ps, x.length ≤ w.length := by
     intro n;induction n with
     | zero => intro e h; cases h
     | succ n ihn =>
      intro e h;unfold iH at h;split at h
      ·rename_i x hx;cases h
       exact cons _ _ _ _ rfl hx
      ·exact ihn _ h
    exact key _ _ h
   ·split at h
    ·cases h
    ·split at h
     ·exact cons _ _ _ _ rfl h
     ·split at h
      ·split at h
       ·exact ih _ _ _ h
       ·cases h
      ·split at h
       ·exact ih _ _ _ h
       ·cases h
theorem oY {α β : Type} {f : α → Option β} {y : β} : ∀ {l : List α}, mI f l = some y → ∃ x ∈ l, f x = some y
 | [], h => by cases h
 | x :: l, h => by
  unfold mI at h;split at h
  ·rename_i z hz; cases h; exact ⟨x, by simp, hz⟩
  ·obtain ⟨w, hw, hf⟩ := oY h; exact ⟨w, by simp [hw], hf⟩
theorem xJ {o : Ins} {x y : aL} {ps : List aL} (h : fT o x y = some ps) : ∀ z ∈ ps, z.length ≤ x.length := by
 unfold fT at h;split at h
 ·split at h
  ·cases h; intro z hz; cases hz
  ·cases h
 ·split at h
  ·split at h
   ·cases h; intro z hz; cases hz
   ·cases h
  ·exact aBQ _ _ _ _ _ _ _ h
theorem vU {o : Ins} {vs ks ps : List aL} {n : Nat} (hv : ∀ x ∈ vs, x.length ≤ n) (h : f8 o vs ks = some ps) : ∀ z ∈ ps, z.length ≤ n := by
 obtain ⟨v, hv1, h1⟩ := oY h;obtain ⟨k, hk1, h2⟩ := oY h1;cases hq : fT o v k with
 | none => rw [hq] at h2; cases h2
 | some q =>
  rw [hq] at h2; cases h2
  intro z hz;rcases List.mem_cons.1 hz with rfl | hz
  ·exact hv _ hv1
  ·exact Nat.le_trans (xJ hq z hz) (hv _ hv1)
theorem y2 {nm : Bool} {vars : List (aL × aL)} {parts : List aL} {m : Msg} {o : Ins} (hm : MsgOk m) (ho : InsOk o) : ∀ x ∈ fJ (cP nm vars parts) m o, x.length ≤ 100000 := by
 intro x hx;unfold fJ at hx;split at hx
 ·obtain ⟨y, hy, rfl⟩ := List.mem_map.1 hx; exact hH (ho.a y hy)
 ·split at hx
  ·obtain ⟨y, _, hy⟩ := List.mem_flatMap.1 hx;unfold fG at hy;obtain ⟨h, hh, rfl⟩ := List.mem_map.1 hy;exact (hm.hs h (List.mem_filter.1 hh).1).2
  ·split at hx
   ·obtain ⟨y, _, hy⟩ := List.mem_flatMap.1 hx;unfold mY at hy;split at hy
    ·rw [List.mem_singleton] at hy; subst hy; exact hm.from_
    ·split at hy
     ·rw [List.mem_singleton] at hy; subst hy; exact hm.to_
     ·cases hy
   ·cases hx
theorem MInv.matchI {nm : Bool} {m : Msg} {o : Ins} {s t : MS} (h : MInv s) (hm : MsgOk m) (ho : InsOk o) (hp : Mach.matchI nm m o s = .ok t) : MInv t := by
 unfold Mach.matchI at hp;split at hp
 ·simp only [] at hp;split at hp
  ·rename_i ps hps;refine MInv.push ?_ hp
   split
   ·exact ⟨h.stack, h.acts, h.vars, vU (y2 hm ho) hps⟩
   ·exact h
  ·exact h.push hp
 ·cases hp
theorem MInv.setI {nm : Bool} {o : Ins} {s t : MS} (h : MInv s) (hp : Mach.setI nm o s = .ok t) : MInv t := by
 unfold Mach.setI at hp;split at hp
 ·split at hp
  ·cases hp
   refine ⟨h.stack, h.acts, fun name => ?_, h.parts⟩
   simp only [y3];split
   ·simp; omega
   ·exact h.vars name
  ·cases hp
 ·cases hp
theorem MInv.actI {nm : Bool} {o : Ins} {s t : MS} (h : MInv s) (hp : Mach.actI nm o s = .ok t) : MInv t := by
 unfold Mach.actI at hp;split at hp
 ·simp only [] at hp;split at hp
  ·cases hp
  split at hp
  ·cases hp
  split at hp
  ·cases hp; exact ⟨h.stack, h.acts, h.vars, h.parts⟩
  split at hp
  ·cases hp
  split at hp
  ·cases hp
  ·cases hp; exact ⟨h.stack, by have := h.acts; simp; omega, h.vars, h.parts⟩
 ·cases hp
theorem MInv.step {nm : Bool} {m : Msg} {n : Nat} {o : Ins} {s t : MS} (hi : MInv s) (hm : MsgOk m) (ho : InsOk o) (h : Mach.step nm m n o s = .ok t) : MInv t := by
 unfold Mach.step at h
 by_cases h0 : o.op = 1
 ·rw [if_pos h0] at h;split at h
  ·exact hi.push h
  ·cases h
 rw [if_neg h0] at h
 by_cases h1 : o.op = 2
 ·rw [if_pos h1] at h;split at h
  ·cases h
  ·rename_i r hr; exact (hi.pop hr).push h
 rw [if_neg h1] at h
 by_cases h2 : o.op = 3
 ·rw [if_pos h2] at h; exact hi.jump h
 rw [if_neg h2] at h
 by_cases h3 : o.op = 4
 ·rw [if_pos h3] at h;split at h
  ·cases h
  ·rename_i r hr; exact (hi.pop hr).jump h
 rw [if_neg h3] at h
 by_cases h4 : o.op = 5
 ·rw [if_pos h4] at h;split at h
  ·cases h
  ·rename_i r hr; exact (hi.pop hr).jump h
 rw [if_neg h4] at h
 by_cases h5 : o.op = 6 ∨ o.op = 7 ∨ o.op = 8
 ·rw [if_pos h5] at h; exact hi.matchI hm ho h
 rw [if_neg h5] at h
 by_cases h6 : o.op = 9
 ·rw [if_pos h6] at h; exact hi.push h
 rw [if_neg h6] at h
 by_cases h7 : o.op = 10
 ·rw [if_pos h7] at h;split at h
  ·exact hi.push h
  ·cases h
 rw [if_neg h7] at h
 by_cases h8 : o.op = 11
 ·rw [if_pos h8] at h; exact hi.actI h
 rw [if_neg h8] at h
 by_cases h9 : o.op = 12
 ·rw [if_pos h9] at h; exact hi.setI h
 rw [if_neg h9] at h
 by_cases h10 : o.op = 13
 ·rw [if_pos h10] at h; cases h; exact ⟨hi.stack, hi.acts, hi.vars, hi.parts⟩
 rw [if_neg h10] at h;cases h
def fnOf (op : Int) : Nat := if op = 1 then 141 else if op = 2 then 143 else if op = 3 then 145 else if op = 4 then 147 else if op = 5 then 148 else if op = 9 then 150 else if op = 10 then 152 else if op = 11 then 153 else if op = 12 then 154 else if op = 13 then 155 else 149
theorem aEK (b mb : Nat) (m : Msg) (hv pv : Value) (nm : Bool) (s : MS) (o : Ins) (av bv : Value) (n : Nat) (K : Hl) (hop : 1 ≤ o.op ∧ o.op ≤ 13) (hg : Glob K) (hpv : Ksl (bK 9) K pv s.parts) (ha : Ksl (bK 9) K av o.a) (hb : Ksl (bK 9) K bv o.b) (hh : Ksl hdEl K hv m.hs) (hm : MsgOk m) (ho : InsOk o) (hs : MInv s) (hp : s.pc < 1000) (hn : n < 1000) :
  Sp Tryz.prog (fnOf o.op) [ptr b, kO o av bv, i64 n] K [mch b mb m hv pv nm s] (MI b mb m hv nm (Mach.step nm m n o s)) := by
 have hst : s.stack.length ≤ 100 := by have := hs.stack; omega
 have hhs : ∀ h ∈ m.hs, h.1.length ≤ 1000000 := fun h hh => by have := (hm.hs h hh).1; omega
 have hvl : ∀ x ∈ fJ (cP nm s.vars s.parts) m o, x.length ≤ 1000000 := fun x hx => by have := y2 hm ho x hx; omega
 unfold fnOf Mach.step
 by_cases h1 : o.op = 1
 ·rw [if_pos h1, if_pos h1]; exact aJK b mb m hv pv nm s o av bv n K hpv ha hb
 rw [if_neg h1, if_neg h1]
 by_cases h2 : o.op = 2
 ·rw [if_pos h2, if_pos h2]; exact aJL b mb m hv pv nm s o av bv n K hpv ha hb hp hn hst
 rw [if_neg h2, if_neg h2]
 by_cases h3 : o.op = 3
 ·rw [if_pos h3, if_pos h3]; exact aJM b mb m hv pv nm s o av bv n K hpv ha hb hp hn hst
 rw [if_neg h3, if_neg h3]
 by_cases h4 : o.op = 4
 ·rw [if_pos h4, if_pos h4]; exact aJN b mb m hv pv nm s o av bv n K hpv ha hb hp hn hst
 rw [if_neg h4, if_neg h4]
 by_cases h5 : o.op = 5
 ·rw [if_pos h5, if_pos h5]; exact aJO b mb m hv pv nm s o av bv n K hpv ha hb hp hn hst
 rw [if_neg h5, if_neg h5]
 by_cases h9 : o.op = 9
 ·rw [if_pos h9, if_neg aH, if_pos h9]; exact aJP b mb m hv pv nm s o av bv n K hg hpv ha hb hh hm.hn hhs ho.an ho.a hs.small
 rw [if_neg h9]
 by_cases h10 : o.op = 10
 ·rw [if_pos h10, if_neg aH, if_neg h9, if_pos h10]; exact aJQ b mb m hv pv nm s o av bv n K hpv ha hb
 rw [if_neg h10]
 by_cases h11 : o.op = 11
 ·rw [if_pos h11, if_neg aH, if_neg h9, if_neg h10, if_pos h11]; exact aF8 b mb m hv pv nm s o av bv n K hg hpv ha hb ho.a hs.small hs.acts (fun x K hg hx => uV x K hg hx)
 rw [if_neg h11]
 by_cases h12 : o.op = 12
 ·rw [if_pos h12, if_neg aH, if_neg h9, if_neg h10, if_neg h11, if_pos h12]; exact aH3 b mb m hv pv nm s o av bv n K hg hpv ha hb ho.b hs.small
 rw [if_neg h12]
 by_cases h13 : o.op = 13
 ·rw [if_pos h13, if_neg aH, if_neg h9, if_neg h10, if_neg h11, if_neg h12, if_pos h13]; exact aJR b mb m hv pv nm s o av bv n K hpv ha hb
 rw [if_neg h13, if_pos aH];exact aBX b mb m hv pv nm s o av bv n K hg hpv ha hb hh hm.hn hhs ho.an ho.a ho.bn ho.b hs.small hvl
def xS : List Cell := ⟨.nilFunc, rfl⟩ :: ([1, 2, 3, 4, 5, 6, 7, 8, 9, 10, 11, 12, 13].map fun op => (⟨.func (.func (fnOf op)) #[] #[], rfl⟩ : Cell)) ++ [⟨.nilFunc, rfl⟩]
theorem aQS : ∀ k : Fin 13, ([1, 2, 3, 4, 5, 6, 7, 8, 9, 10, 11, 12, 13] : List Int)[k.1]? = some ((k.1 : Int) + 1) := by decide
theorem aJS {op : Int} (h : 1 ≤ op ∧ op ≤ 13) : xS[op.toNat]? = some ⟨.func (.func (fnOf op)) #[] #[], rfl⟩ := by
 obtain ⟨n, hn⟩ : ∃ n : Nat, op.toNat = n + 1 := ⟨op.toNat - 1, by omega⟩;have hlt : n < 13 := by omega
 have h2 := aQS ⟨n, hlt⟩;simp only at h2;have e : (n : Int) + 1 = op := by omega
 rw [e] at h2;unfold xS;rw [hn, List.cons_append, List.getElem?_cons_succ, List.getElem?_append_left (by simpa using hlt), List.getElem?_map, h2]
 rfl
theorem aDJ (K : Hl) : Sp Tryz.prog 91 [] K [] (Ret fun v K' L' => Ksl (eJ 184) K' v xS ∧ L' = []) := by
 refine bB Tryz.func91 rfl Tryz.ntmps91 rfl rfl fun F w => ?_
 refine aI (aB ?_);refine aA (aF rfl) rfl ?_;refine aG (aE ?_);refine aI (aB ?_);refine ol_s (bO (z0 := [.nilFunc, .nilFunc, .nilFunc, .nilFunc, .nilFunc, .nilFunc, .nilFunc, .nilFunc, .nilFunc, .nilFunc, .nilFunc, .nilFunc, .nilFunc, .nilFunc, .nilFunc]) uB aRS rfl rfl rfl rfl (.cons rfl rfl rfl (.skip (.cons .nil)) (.cons rfl rfl rfl (.skip (.skip (.cons .nil))) (.cons rfl rfl rfl (.skip (.skip (.skip (.cons .nil)))) (.cons rfl rfl rfl (.skip (.skip (.skip (.skip (.cons .nil))))) (.cons rfl rfl rfl (.skip (.skip (.skip (.skip (.skip (.cons .nil)))))) (.cons rfl rfl rfl (.skip (.skip (.skip (.skip (.skip (.skip (.cons .nil))))))) (.cons rfl rfl rfl (.skip (.skip (.skip (.skip (.skip (.skip (.skip (.cons .nil)))))))) (.cons rfl rfl rfl (.skip (.skip (.skip (.skip (.skip (.skip (.skip (.skip (.cons .nil))))))))) (.cons rfl rfl rfl (.skip (.skip (.skip (.skip (.skip (.skip (.skip (.skip (.skip (.cons .nil)))))))))) (.cons rfl rfl rfl (.skip (.skip (.skip (.skip (.skip (.skip (.skip (.skip (.skip (.skip (.cons .nil))))))))))) (.cons rfl rfl rfl (.skip (.skip (.skip (.skip (.skip (.skip (.skip (.skip (.skip (.skip (.skip (.cons .nil)))))))))))) (.cons rfl rfl rfl (.skip (.skip (.skip (.skip (.skip (.skip (.skip (.skip (.skip (.skip (.skip (.skip (.cons .nil))))))))))))) (.cons rfl rfl rfl (.skip (.skip (.skip (.skip (.skip (.skip (.skip (.skip (.skip (.skip (.skip (.skip (.skip (.cons .nil)))))))))))))) (.cons rfl rfl rfl (.skip (.skip (.skip (.skip (.skip (.skip (.skip (.skip (.skip (.skip (.skip (.skip (.skip (.skip (.cons .nil))))))))))))))) .nil))))))))))))))) rfl ?_;rintro _ K _ ⟨b1, rfl, rfl, rfl⟩ -;refine aA (aF rfl) rfl ?_;refine aG (aE ?_);refine bM ?_;refine gG fun KS leS hS => ?_
 refine bJ rfl rfl leS ?_;exact ⟨_, rfl, .inr ⟨b1, 0, 15, _, _, rfl, ⟨_, hS⟩, rfl⟩, rfl⟩
end Go.Proofs
end
section
namespace Go.Proofs
open Go Go.SL Go.Syn Go.Mach Go.Cmp
theorem aK1 (b6 b8 : Nat) (K : Hl) : SpD Tryz.prog 89 [ptr b6, ptr b8] K [] .returning fun e u' K' L' => u' = .returning ∧ (e = .returned (.tuple #[]) ∧ K' = K ∧ L' = []) := by
 refine aAK (rv := .nilIface) (u' := .returning) Tryz.func89 rfl Tryz.ntmps89 rfl rfl rfl rfl qS fun F w => ?_
 refine aI (aB ?_);refine aA (aC rfl) rfl ?_;refine aA (q8 Tryz.underlying20 rfl) rfl ?_;refine aG (aE ?_);refine cQ rfl ?_;refine a6 ?_;refine dE rfl (Hl.le_refl _) ?_;exact ⟨rfl, rfl, rfl⟩
theorem aK0 (b6 b8 fb : Nat) (v1 v2 : Value) (K : Hl) : SpD Tryz.prog 89 [ptr b6, ptr b8] K [pt b8 (aU [v2] 79), pt b6 (aU [v1] 29)] (.panicking [{ v := .iface 118 (ptr fb), recovered := false }])
  fun e u' K' L' => u' = .panicking [{ v := .iface 118 (ptr fb), recovered := true }] ∧ (e = .returned (.tuple #[]) ∧ K' = K ∧ ∃ bk, L' = [pt b8 (aU [.iface 118 (ptr fb)] 79), pt b6 (aU [.slice (some ⟨bk, 0, none⟩) 1 1] 29), pt bk (aU [i64 1, str []] 34)]) := by
 refine aAK (rv := .iface 118 (ptr fb)) (u' := .panicking [{ v := .iface 118 (ptr fb), recovered := true }]) Tryz.func89 rfl Tryz.ntmps89 rfl rfl rfl rfl qR fun F w => ?_
 refine aI (aB ?_);refine aA (aC rfl) rfl ?_;refine aA (oD Tryz.underlying20 rfl rfl) rfl ?_;refine aG (aE ?_);refine eS rfl ?_;refine aI (aB ?_);refine aA (aC rfl) rfl ?_;refine aA (eX Tryz.underlying118 (fun _ h => by cases h) rfl) rfl ?_;refine aA (aC rfl) rfl ?_;refine aA (aR rfl rfl) rfl ?_;refine aA (aR rfl rfl) rfl ?_;refine aA (aF rfl) rfl ?_;refine aA (aF rfl) rfl ?_;refine aG (aE ?_);refine aI (aI ?_);refine aB ?_;refine aA (aC rfl) rfl ?_;refine aA (by first | exact dM rfl | exact dU rfl) rfl ?_;refine aG (aE ?_);refine cQ rfl ?_;refine a6 ?_;refine aE (aB ?_);refine aA (cK tb34 wQ (.cons rfl rfl rfl (.cons .nil) .nil)) rfl ?_;refine ol_s (bO (z0 := [.int .i64 0, (str [])]) fZ tz34 rfl rfl rfl rfl (.cons rfl rfl rfl (.cons (.cons .nil)) .nil)) rfl ?_;rintro _ K _ ⟨b17, rfl, rfl, rfl⟩ -;refine aA (aC rfl) rfl ?_;refine aA (cZ Tryz.underlying118 (fun _ h => by cases h) rfl) rfl ?_;refine bR (bI ts29 rfl rfl cG a7 .zero rfl) ?_;rintro _ K _ ⟨rfl, rfl⟩ -;refine bR (bI ts79 rfl rfl cG a7 .zero rfl) ?_;rintro _ K _ ⟨rfl, rfl⟩ -;refine aG ?_;refine aO (.cons (.there .here) (.cons (.there .here) (.cons .here .nil))) ?_;refine dE rfl (Hl.le_refl _) ?_;exact ⟨rfl, rfl, b17, rfl⟩
def ErrP (e : Option (Int × Int)) (ev : Value) (M : List Asn) : Prop := match e with
 | none => ev = .nilIface ∧ M = []
 | some (e, p) => ∃ fb, ev = .iface 118 (ptr fb) ∧ M = [pt fb (aU [i64 e, i64 p] 123)]
def RunR (out : Out) : Ending → Hl → List Asn → Prop := Ret fun v K' L' => ∃ av ev M, v = .tuple #[av, i64 out.steps, ev] ∧ L' = sl true dG av out.acts :: M ∧ ErrP out.err ev M
theorem aK7 {α : Type} {k : El α} {b : Nat} {xs : List α} {n : Nat} {M : List Asn} (hx : xs ≠ []) (hn : n = xs.length) : ∀ h, Sat (pt b (aU (k.cs xs) k.e) :: M) h → Sat (sl true k (.slice (some ⟨b, 0, none⟩) n n) xs :: M) h := by
 subst hn;rintro h ⟨a, l, ha, hl, hd, rfl⟩;refine ⟨a, l, .inr ⟨b, xs.length, [], (0, 0), rfl, fun _ => hx, Nat.le_refl _, by simp, .inl (Nat.le_refl _), ?_⟩, hl, hd, rfl⟩
 rw [List.append_nil]; exact ha
theorem uI {n : Nat} {w : World} {F K0 K : Hl} {fr : Fr} {b6 b8 fb : Nat} {v1 v2 : Value} {e p x : Int} {out : Out} {st : Nat} (g6 : fr.get 6 = some (ptr b6)) (g7 : fr.get 7 = some (i64 x)) (g8 : fr.get 8 = some (ptr b8)) (le : K0.le K) (ho : out = ⟨[(1, [])], st, some (e, p)⟩) (hx : x = st) :
  D ⟨Tryz.prog, n, [dfr 89 #[ptr b6, ptr b8]], w, F⟩ (.panic [{ v := .iface 118 (ptr fb), recovered := false }]) fr K [pt fb (aU [i64 e, i64 p] 123), pt b8 (aU [v2] 79), pt b6 (aU [v1] 29)] (tS Tryz.prog Tryz.f54 w F K0 (RunR out)) := by
 subst ho; subst hx
 refine aJE (.pan _) rfl ts29 ts79 g6 g7 g8 (.cons (.there .here) (.cons (.there .here) .nil)) (aK0 b6 b8 fb v1 v2 K) rfl ?_;rintro _ _ _ ⟨rfl, rfl, bk, rfl⟩;refine ⟨⟨_, rfl⟩, fun le2 => ⟨_, _, [sl true dG (.slice (some ⟨bk, 0, none⟩) 1 1) [(1, [])], pt fb (aU [i64 e, i64 p] 123)], fun h hh => ?_, ⟨_, rfl, _, _, _, rfl, rfl, fb, rfl, rfl⟩, le⟩⟩
 exact fP (dS (fun h hh => dS (fun h hh => aK7 (k := dG) (xs := [(1, [])]) (by simp) rfl h hh) hh) hh)
theorem gQ {n : Nat} {w : World} {F K0 K : Hl} {fr : Fr} {b6 b8 : Nat} {av : Value} {out : Out} {x : Int} {st : Nat} {acts : List gC} (g6 : fr.get 6 = some (ptr b6)) (g7 : fr.get 7 = some (i64 x)) (g8 : fr.get 8 = some (ptr b8)) (le : K0.le K) (ho : out = ⟨acts, st, none⟩) (hx : x = st) :
  D ⟨Tryz.prog, n, [dfr 89 #[ptr b6, ptr b8]], w, F⟩ .ret fr K [pt b6 (aU [av] 29), pt b8 (aU [.nilIface] 79), sl true dG av acts] (tS Tryz.prog Tryz.f54 w F K0 (RunR out)) := by
 subst ho; subst hx
 refine aJE .ret rfl ts29 ts79 g6 g7 g8 .nil (aK1 b6 b8 K) rfl ?_;rintro _ _ _ ⟨rfl, rfl, rfl⟩;exact ⟨⟨_, rfl⟩, fun le2 => ⟨_, _, [sl true dG av acts], fun h hh => hh, ⟨_, rfl, _, _, _, rfl, rfl, rfl, rfl⟩, le⟩⟩
theorem aHA {b mb : Nat} {m : Msg} {hv : Value} {nm : Bool} {L : List Asn} : ∀ h, Sat (pt b (aU [str m.from_, str m.to_, i64 m.size, hv, .slice none 0 0, .bool true, .bool nm, .map (some mb), .slice none 0 0, .slice none 0 0, i64 0] 178) :: pt mb (mapO [] 0) :: L) h → Sat (mch b mb m hv (.slice none 0 0) nm Mach.start :: L) h := by
 intro h hh;refine dK (av := .slice none 0 0) (sv := .slice none 0 0) (f := fun _ => 0) (c := 0) (s := Mach.start) h ?_;exact dS (fun h hh => rM (rM hh)) hh
theorem aG5 {nm : Bool} {m : Msg} {code : List Ins} {f st : Nat} {s : MS} (h : code.length ≤ s.pc) : Mach.loop nm m code (f + 1) st s = ⟨if s.keep = true then s.acts ++ [(1, [])] else s.acts, st, none⟩ := by
 rw [Mach.loop, List.getElem?_eq_none h]
theorem aG6 {nm : Bool} {m : Msg} {code : List Ins} {f st : Nat} {s : MS} {o : Ins} (h : code[s.pc]? = some o) (ho : o.op = 14) : Mach.loop nm m code (f + 1) st s = ⟨if s.keep = true then s.acts ++ [(1, [])] else s.acts, st + 1, none⟩ := by
 rw [Mach.loop, h]; simp only [if_pos ho]
theorem vT {nm : Bool} {m : Msg} {code : List Ins} {f st : Nat} {s : MS} {o : Ins} {e : Int × Int} (h : code[s.pc]? = some o) (ho : ¬ o.op = 14) (hs : Mach.step nm m code.length o s = .error e) : Mach.loop nm m code (f + 1) st s = ⟨[(1, [])], st + 1, some e⟩ := by
 rw [Mach.loop, h]; simp only [if_neg ho, hs]
theorem aM1 {nm : Bool} {m : Msg} {code : List Ins} {f st : Nat} {s t : MS} {o : Ins} (h : code[s.pc]? = some o) (ho : ¬ o.op = 14) (hs : Mach.step nm m code.length o s = .ok t) : Mach.loop nm m code (f + 1) st s = Mach.loop nm m code f (st + 1) { t with pc := t.pc + 1 } := by
 rw [Mach.loop, h]; simp only [if_neg ho, hs]
theorem aCQ {nm : Bool} {m : Msg} {n : Nat} {o : Ins} {s : MS} (h : ¬ (1 ≤ o.op ∧ o.op ≤ 13)) : Mach.step nm m n o s = .error (12, s.pc) := by
 unfold Mach.step;rw [if_neg aH, if_neg aH, if_neg aH, if_neg aH, if_neg aH, if_neg aH, if_neg aH, if_neg aH, if_neg aH, if_neg aH, if_neg aH]
 rfl
theorem aKD {p : Prop} [Decidable p] {e q pc : Int} (h : (if p then (Except.ok () : Res Unit) else .error (12, pc)) = .error (e, q)) : ¬ p ∧ e = 12 ∧ q = pc := by
 split at h
 ·cases h
 ·rename_i hp; cases h; exact ⟨hp, rfl, rfl⟩
structure RI where
 st : Nat
 s : MS
 pv : Value
 K : Hl
theorem aK3 (nm : Bool) (cv hv : Value) (vs : List InsV) (code : List Ins) (m : Msg) (K : Hl) (hg : Glob K) (hcv : Ksl f5 K cv vs) (hR : RIs K vs code) (hh : Ksl hdEl K hv m.hs) (hm : MsgOk m) (hc : ∀ o ∈ code, InsOk o) (hcl : code.length ≤ 1000000) :
  Sp Tryz.prog 54 [.bool nm, cv, .agg #[str m.from_, str m.to_, i64 m.size, hv]] K [] (RunR (Mach.run nm code m)) := by
 have hlen : vs.length = code.length := hR.length;have hdl : xS.length = 15 := rfl;obtain ⟨ha, hn, hcp, rfl⟩ := hh.isSlice;obtain ⟨ca, cn, ccp, rfl⟩ := hcv.isSlice;refine aCO Tryz.func54 rfl Tryz.ntmps54 rfl rfl fun F w => ?_
 refine aI (aB ?_);refine ol_s (eM rfl rfl) rfl ?_;rintro _ K _ ⟨b5, rfl, rfl, rfl⟩ -;refine ol_s (cO tz29) rfl ?_;rintro _ K _ ⟨b6, rfl, rfl, rfl⟩ -;refine aA (aF rfl) rfl ?_;refine ol_s (cO tz79) rfl ?_;rintro _ K _ ⟨b8, rfl, rfl, rfl⟩ -;refine aG (aE ?_);refine aI (aB ?_);refine aA (bW iV rfl aM rfl rfl) rfl ?_;refine aA (cK aQ4 aPZ (.cons rfl rfl rfl (.cons (.cons (.cons (.cons .nil)))) (.cons rfl rfl rfl (.skip (.skip (.skip (.skip (.skip (.cons .nil)))))) .nil))) rfl ?_;refine aA (aC rfl) rfl ?_;refine ol_s p7 rfl ?_;rintro _ K _ ⟨b15, rfl, rfl, rfl⟩ -;refine aA (cK aQ5 aP0 (.cons rfl rfl rfl (.cons (.cons (.cons (.cons (.cons (.cons .nil)))))) (.cons rfl rfl rfl (.skip (.skip (.skip (.skip (.skip (.skip (.cons .nil))))))) (.cons rfl rfl rfl (.skip (.skip (.skip (.skip (.skip (.skip (.skip (.cons .nil)))))))) .nil)))) rfl ?_;refine ol_s (eM rfl rfl) rfl ?_;rintro _ K _ ⟨b17, rfl, rfl, rfl⟩ -;refine aA (aF rfl) rfl ?_;refine aG (aE ?_);refine aI ?_;refine yK (aHA (m := m) (hv := .slice ha hn hcp) (nm := nm)) ?_;refine aFU (.cons .here (.cons .here (.cons .here .nil))) ?_;refine aB ?_;refine aA (g9 rfl rfl) rfl ?_;refine aB3 rfl ?_;refine aG (aE ?_);refine aI (aI ?_);refine aB ?_;refine aA (aC rfl) rfl ?_;refine aA (cE (k := f5) rfl Tryz.underlying42 rfl aM) rfl ?_;refine aA (jG rfl rfl) rfl ?_;refine aG (aE ?_);refine bE 21 rfl (fun h21 => ?_) (fun h21 => ?_)
 ·
  refine aB ?_;refine aA (aC rfl) rfl ?_;refine aW rfl rfl (gY _ 12 400 _) .nil rfl (by rintro _ _ ⟨_, h, _⟩; cases h) ?_ ?_
  ·
   rintro _ _ _ ⟨fb, h, rfl⟩ le1;cases h
   refine aO (.cons .here (.cons (.there .here) (.cons (.there .here) .nil))) ?_;refine aJ ?_;exact uI rfl rfl rfl bP (by (unfold Mach.run; rw [if_pos aH])) aH
  ·
   rintro _ _ _ ⟨_, h, _⟩; cases h
 ·
  have hc4 : code.length ≤ 400 := by omega
  refine a6 ?_;refine aE (aI ?_);refine aB ?_;refine bD rfl rfl (aDJ _) .nil rfl ?_;rintro tv KD _ ⟨hTab, rfl⟩ leD;refine aA (aF rfl) rfl ?_;refine aG (aE ?_);refine aI (bF ?_);refine eK (fun (q : RI) => KD.le q.K ∧ Ksl (bK 9) q.K q.pv q.s.parts ∧ MInv q.s ∧ q.st ≤ q.s.pc ∧ q.s.pc ≤ code.length ∧ ∃ f, code.length ≤ f + q.s.pc ∧ Mach.run nm code m = Mach.loop nm m code (f + 1) q.st q.s) (fun q => [(1, .slice ca cn ccp), (6, ptr b6), (7, i64 q.st), (8, ptr b8), (9, ptr b17), (10, tv)]) (fun q => q.K) (fun q => [mch b17 b15 m (.slice ha hn hcp) q.pv nm q.s, pt b8 (aU [.nilIface] 79), pt b6 (aU [.slice none 0 0] 29)]) (fun q => code.length - q.s.pc) ⟨0, Mach.start, .slice none 0 0, KD⟩ ⟨Hl.le_refl _, .inl ⟨none, 0, rfl, rfl⟩, MInv.start, Nat.zero_le _, Nat.zero_le _, code.length, by omega, by unfold Mach.run; rw [if_neg aH]⟩ (.cons 1 rfl (.cons 6 rfl (.cons 7 rfl (.cons 8 rfl (.cons 9 rfl (.cons 10 rfl .nil)))))) rfl (fun _ h => h) ?_;intro ⟨st, s, pv, K1⟩ ⟨hle, hpv, hinv, hst, hpc, f, hf, hx⟩;dsimp only at hle hpv hinv hst hpc hf hx ⊢;have hle0 := Hl.le_trans leD hle;have hcv1 := hcv.mono hle0;have hh1 := hh.mono hle0;have hg1 := hg.mono hle0;have hTab1 := hTab.mono hle;refine oP fun av sv fv c => ?_
  refine wO (p := av.oneCell' = true) (fun h hs => ?_) ?_
  ·obtain ⟨_, l, _, hl, _, _⟩ := hs; obtain ⟨y, _, hy, _, _, _⟩ := hl; obtain ⟨a, n, c, rfl⟩ := aCM y hy; rfl
  intro hav;refine aI (aI ?_);refine aB ?_;refine aA (aC rfl) rfl ?_;refine aA bS rfl ?_;refine aA (aD (o' := 10) iW rfl rfl) rfl ?_;refine aA (aK ts3 rfl aM rfl) rfl ?_;refine aA (aC rfl) rfl ?_;refine aA (cE (k := f5) rfl Tryz.underlying42 rfl aM) rfl ?_;refine aA (dA rfl rfl) rfl ?_;refine aG (aE ?_);refine bE 31 rfl (fun h31 => ?_) (fun h31 => ?_)
  ·
   have hilt : s.pc < vs.length := by omega
   obtain ⟨v, hvv⟩ : ∃ v, vs[s.pc]? = some v := ⟨vs[s.pc]'hilt, List.getElem?_eq_getElem hilt⟩;obtain ⟨o, ho, hro⟩ := (hR.mono hle0).get hvv;obtain ⟨vop, vn, vtag, voct, ⟨va, hva⟩, ⟨vb, hvb⟩, vat⟩ := v;obtain ⟨rfl, rfl, rfl, rfl, rfl, hra, hrb⟩ := hro;dsimp only at hra hrb;obtain ⟨sa, sn, sc, rfl⟩ := hra.isSlice;obtain ⟨ta, tn, tc, rfl⟩ := hrb.isSlice;have hoo := hc o (List.mem_of_getElem? ho);refine a6 ?_;refine aE (bF ?_);refine aI (aB ?_);refine aA (aC rfl) rfl ?_;refine aA (bZ rfl rfl aH aH) rfl ?_;refine aA (aF rfl) rfl ?_;refine aG (aE ?_);refine aI (aB ?_);refine aA (aC rfl) rfl ?_;refine aA (aC rfl) rfl ?_;refine aA bS rfl ?_;refine aA (aD (o' := 10) iW rfl rfl) rfl ?_;refine aA (aK ts3 rfl aM rfl) rfl ?_;refine aA (b0 (k := f5) gZ rfl aM rfl rfl (by first | assumption | omega)) rfl ?_;refine aA (fR (n := 0) (k := f5) jH rfl aM bP) rfl ?_;refine ol_s (cO tz41) rfl ?_;rintro _ K _ ⟨b11, rfl, rfl, rfl⟩ -;refine bR (cH jH rfl rfl rfl a7 (by first | (simp [Value.oneCell']; done) | exact fun c hc => El.one _ _ c hc) (.cons (.cons (.cons (.cons (.cons (.cons (.cons .nil))))))) (by intro j hj; simp)) ?_;rintro _ K _ ⟨rfl, rfl⟩ -;refine aG (aE ?_);refine aI (aI ?_);refine aB ?_;refine aA (aD (o' := 0) iX rfl rfl) rfl ?_;refine aA (aK ts3 rfl aM rfl) rfl ?_;refine aA (bT rfl rfl) rfl ?_;refine aG (aE ?_);refine bE 43 rfl (fun h43 => ?_) (fun h43 => ?_)
   ·
    have h43 : o.op = 14 := h43;have hx := hx.trans (aG6 ho h43);refine cY ?_;refine aV ?_;refine fV rfl ?_;refine aV ?_;refine bL ?_;refine aE (aI ?_);refine aI (aB ?_);refine aA (aC rfl) rfl ?_;refine aA bS rfl ?_;refine aA (aD (o' := 0) cV rfl rfl) rfl ?_;refine aA (aD (o' := 5) nU rfl rfl) rfl ?_;refine aA (aK ts4 rfl aM rfl) rfl ?_;refine aG (aE ?_);refine eB 77 rfl (fun h77 => ?_) (fun h77 => ?_)
    ·
     refine aB ?_;refine aA (aC rfl) rfl ?_;refine aA (aC rfl) rfl ?_;refine aA bS rfl ?_;refine aA (aD (o' := 0) cV rfl rfl) rfl ?_;refine aA (aD (o' := 4) eD rfl rfl) rfl ?_;refine aA (aK ts29 rfl aM rfl) rfl ?_;refine aA (cK tb34 wQ (.cons rfl rfl rfl (.cons .nil) .nil)) rfl ?_;refine ol_s (bO (z0 := [.int .i64 0, (str [])]) fZ tz34 rfl rfl rfl rfl (.cons rfl rfl rfl (.cons (.cons .nil)) .nil)) rfl ?_;rintro _ K _ ⟨b85, rfl, rfl, rfl⟩ -;refine ol_s (dQ (k := dG) (ys := [((1 : Int), ([] : List UInt8))]) lY rfl rfl a7 (fun w j => dN Tryz.underlying29 (SeesSl.at (k := dG) (.blk (.own .here) rfl rfl) j)) (by have := hinv.acts; simp; omega) (by have := hinv.acts; simp; omega)) rfl ?_;rintro v86 K _ ⟨rfl, rfl, ho86⟩ -;refine aA bS rfl ?_;refine aA (aD (o' := 0) cV rfl rfl) rfl ?_;refine aA (aD (o' := 4) eD rfl rfl) rfl ?_;refine bR (bI ts29 rfl rfl cG a7 (.succ (.succ (.succ (.succ .zero)))) rfl) ?_;rintro _ K _ ⟨rfl, rfl⟩ -;refine aG (aE ?_);refine aI (aB ?_);refine aA (aC rfl) rfl ?_;refine aA bS rfl ?_;refine aA (aD (o' := 0) cV rfl rfl) rfl ?_;refine aA (aD (o' := 4) eD rfl rfl) rfl ?_;refine aA (aK ts29 rfl aM rfl) rfl ?_;refine aA (aC rfl) rfl ?_;refine bR (bI ts29 rfl rfl cG a7 .zero rfl) ?_;rintro _ K _ ⟨rfl, rfl⟩ -;refine aA (aF rfl) rfl ?_;refine bR (bI ts79 rfl rfl cG a7 .zero rfl) ?_;rintro _ K _ ⟨rfl, rfl⟩ -;refine aG (aE ?_);refine bM ?_
     first
      | (refine aO (.cons (.there (.there (.there (.there (.there .here))))) (.cons (.there (.there (.there (.there .here)))) (.cons (.there .here) .nil))) ?_; exact gQ rfl rfl rfl hle0 (by rw [hx, if_neg (by rw [h77]; decide)]) aH)
      | (refine aO (.cons (.there (.there (.there (.there (.there (.there .here)))))) (.cons (.there (.there (.there (.there (.there .here))))) (.cons (.there (.there .here)) .nil))) ?_; exact gQ rfl rfl rfl hle0 (by rw [hx, if_neg (by rw [h77]; decide)]) aH)
      | (refine aO (.cons (.there (.there (.there (.there (.there (.there .here)))))) (.cons (.there (.there (.there (.there (.there .here))))) (.cons .here .nil))) ?_; exact gQ rfl rfl rfl hle0 (by rw [hx, if_pos h77]) aH)
      | (refine aO (.cons (.there (.there (.there (.there (.there (.there (.there .here))))))) (.cons (.there (.there (.there (.there (.there (.there .here)))))) (.cons .here .nil))) ?_; exact gQ rfl rfl rfl hle0 (by rw [hx, if_pos h77]) aH)
    ·
     refine a6 ?_;refine aE (aI ?_);refine aB ?_;refine aA (aC rfl) rfl ?_;refine aA bS rfl ?_;refine aA (aD (o' := 0) cV rfl rfl) rfl ?_;refine aA (aD (o' := 4) eD rfl rfl) rfl ?_;refine aA (aK ts29 rfl aM rfl) rfl ?_;refine aA (aC rfl) rfl ?_;refine bR (bI ts29 rfl rfl cG a7 .zero rfl) ?_;rintro _ K _ ⟨rfl, rfl⟩ -;refine aA (aF rfl) rfl ?_;refine bR (bI ts79 rfl rfl cG a7 .zero rfl) ?_;rintro _ K _ ⟨rfl, rfl⟩ -;refine aG (aE ?_);refine bM ?_
     first
      | (refine aO (.cons (.there (.there (.there (.there (.there .here))))) (.cons (.there (.there (.there (.there .here)))) (.cons (.there .here) .nil))) ?_; exact gQ rfl rfl rfl hle0 (by rw [hx, if_neg (by rw [h77]; decide)]) aH)
      | (refine aO (.cons (.there (.there (.there (.there (.there (.there .here)))))) (.cons (.there (.there (.there (.there (.there .here))))) (.cons (.there (.there .here)) .nil))) ?_; exact gQ rfl rfl rfl hle0 (by rw [hx, if_neg (by rw [h77]; decide)]) aH)
      | (refine aO (.cons (.there (.there (.there (.there (.there (.there .here)))))) (.cons (.there (.there (.there (.there (.there .here))))) (.cons .here .nil))) ?_; exact gQ rfl rfl rfl hle0 (by rw [hx, if_pos h77]) aH)
      | (refine aO (.cons (.there (.there (.there (.there (.there (.there (.there .here))))))) (.cons (.there (.there (.there (.there (.there (.there .here)))))) (.cons .here .nil))) ?_; exact gQ rfl rfl rfl hle0 (by rw [hx, if_pos h77]) aH)
   ·
    have h43 : ¬ o.op = 14 := h43;refine a6 ?_;refine aE (aI ?_);refine aB ?_;refine aA (aC rfl) rfl ?_;refine aA (aD (o' := 0) iX rfl rfl) rfl ?_;refine aA (aK ts3 rfl aM rfl) rfl ?_;refine aA (jG rfl rfl) rfl ?_;refine aA (aC rfl) rfl ?_;refine cA 48 rfl (fun g48 => ?_) (fun g48 => ?_)
    ·
     have g48 : 0 < o.op := g48;refine aT rfl rfl ?_;refine aA (aD (o' := 0) iX rfl rfl) rfl ?_;refine aT rfl rfl ?_;refine aA (aK ts3 rfl aM rfl) rfl ?_;refine aT rfl rfl ?_;refine aA (aC rfl) rfl ?_;refine aT rfl rfl ?_;refine aA (cE (k := (eJ 184)) rfl Tryz.underlying181 rfl aM) rfl ?_;refine aT rfl rfl ?_;refine aA (dA rfl rfl) rfl ?_;refine aA (bH rfl rfl) rfl ?_;refine aW rfl rfl (mN (o.op < (xS.length : Int)) _ _ _ _ _ _ _ _ _ _ _ _ _) (.cons (.there .here) .nil) rfl (fun _ _ => aX _ _) ?_ ?_
     ·
      rintro _ _ _ hTr le1;obtain ⟨e, p, hu, fb, h, rfl⟩ := aY hTr;cases h
      refine aO (.cons .here (.cons (.there (.there (.there (.there .here)))) (.cons (.there (.there (.there (.there .here)))) .nil))) ?_;refine aJ ?_;refine aP ?_;refine aJ ?_;refine aP ?_;refine aJ ?_;exact uI rfl rfl rfl (Hl.le_trans hle0 le1) (by (obtain ⟨q1, rfl, rfl⟩ := aKD hu; rw [hx, vT ho h43 (aCQ aH)])) aH
     rintro _ K _ hTr -;obtain ⟨u0, hu, rfl, rfl, rfl⟩ := aZ hTr;clear hTr;have hbl : o.op < (xS.length : Int) := Classical.byContradiction (fun h => by rw [if_neg h] at hu; cases hu);have hop : 1 ≤ o.op ∧ o.op ≤ 13 := ⟨by omega, by omega⟩;refine aG (aE ?_);refine aI ?_;refine qT (.cons .here (.cons (.there .here) (.cons (.there .here) (.cons (.there .here) .nil)))) ?_;refine yK (dK (m := m) (hv := .slice ha hn hcp) (pv := pv) (nm := nm) (s := s)) ?_;refine t_draw (anc := [0, 0, 2, 7, 15, 0, 0, 0, 128, 511]) (ord := [0, 1, 2, 3, 4, 5, 6, 7, 8, 9]) [9] [9] mixed (by decide +kernel) (cS _) ?_;refine dl_ev rfl rfl (.none rfl) rfl rfl (aC rfl) rfl ?_;refine dl_ev rfl rfl (.none rfl) rfl rfl (aD (o' := 0) iX rfl rfl) rfl ?_;refine dl_ev rfl rfl (.none rfl) rfl rfl (aK ts3 rfl aM rfl) rfl ?_;refine dl_ev rfl rfl (.none rfl) rfl rfl (b0 (k := eJ 184) (j := o.op.toNat) uB rfl (.known hTab1) rfl (show o.op = (o.op.toNat : Int) by omega) aH) rfl ?_;refine dl_ev rfl rfl (.none rfl) rfl rfl (dO (o := 0) (k := eJ 184) aRJ rfl (.known hTab1) (aJS hop) rfl) rfl ?_;refine dl_ev rfl rfl (.none rfl) rfl rfl (aC rfl) rfl ?_;refine dl_ev rfl rfl (.none rfl) rfl rfl (bW jH rfl aM rfl rfl) rfl ?_;refine dl_ev rfl rfl (.none rfl) rfl rfl (aC rfl) rfl ?_;refine dl_ev rfl rfl (.none rfl) rfl rfl (cE (k := f5) rfl Tryz.underlying42 rfl aM) rfl ?_;refine aDI (fr' := [(6, ptr b6), (7, i64 ((st : Int) + 1)), (8, ptr b8)]) rfl (.none rfl) rfl rfl rfl (aEK b17 b15 m (.slice ha hn hcp) pv nm s o (.slice sa sn sc) (.slice ta tn tc) vs.length _ hop hg1 hpv hra hrb hh1 hm hoo hinv aH aH) (.cons .here .nil) rfl (fun _ _ => aX _ _) (.cons 6 rfl (.cons 7 rfl (.cons 8 rfl .nil))) rfl ?_ ?_
     ·
      rintro _ _ _ hTr le1;obtain ⟨e, p, hq, fb, h, rfl⟩ := aY hTr;cases h
      refine aO (.cons .here (.cons (.there .here) (.cons (.there .here) .nil))) ?_;refine aJ ?_;refine aP ?_;refine aJ ?_;refine aP ?_;refine aJ ?_;exact uI rfl rfl rfl (Hl.le_trans hle0 le1) (by (rw [hlen] at hq; rw [hx, vT ho h43 hq])) aH
     rintro _ K3 _ hTr leK3;obtain ⟨t, hq, rfl, pv3, hpv3, rfl⟩ := aZ hTr;clear hTr;rw [hlen] at hq;have hinv2 := hinv.step hm hoo hq;have hinv3 : MInv { t with pc := t.pc + 1 } := ⟨hinv2.stack, hinv2.acts, hinv2.vars, hinv2.parts⟩;have hp2 := aFS hq (by omega : s.pc < code.length);refine dl_nil ?_;refine aE ?_;refine oP fun av3 sv3 fv3 c3 => ?_
     refine aB ?_;refine aA (aC rfl) rfl ?_;refine aA bS rfl ?_;refine aA (aD (o' := 10) iW rfl rfl) rfl ?_;refine aA (aK ts3 rfl aM rfl) rfl ?_;refine aA (bZ rfl rfl aH aH) rfl ?_;refine aA bS rfl ?_;refine aA (aD (o' := 10) iW rfl rfl) rfl ?_;refine bR (bI ts3 rfl rfl cG a7 (.succ (.succ (.succ (.succ (.succ (.succ (.succ (.succ (.succ (.succ .zero)))))))))) rfl) ?_;rintro _ K _ ⟨rfl, rfl⟩ -;refine aG (aN ?_);have hp3 := aFS hq (by omega : s.pc < code.length);have e : ((t.pc + 1 : Nat) : Int) = (t.pc : Int) + 1 := by omega
     refine dV (fun h hh => dK (m := m) (hv := .slice ha hn hcp) (pv := pv3) (nm := nm) (s := { t with pc := t.pc + 1 }) h (by show Sat (mblk _ _ _ _ _ _ _ _ _ _ _ ((t.pc + 1 : Nat) : Int) :: _) h; rw [e]; exact hh)) ?_;refine aO (.cons .here (.cons (.there .here) (.cons (.there .here) .nil))) ?_;exact cL ⟨st + 1, { t with pc := t.pc + 1 }, pv3, _⟩ ⟨Hl.le_trans hle leK3, hpv3, hinv3, by (show st + 1 ≤ t.pc + 1); omega, by (show t.pc + 1 ≤ code.length); omega, f - 1, by (show code.length ≤ f - 1 + (t.pc + 1)); omega, by have e2 : f - 1 + 1 = f := aH; rw [e2, hx, aM1 ho h43 hq]⟩ (by (show code.length - (t.pc + 1) < code.length - s.pc); omega) (.cons 1 rfl (.cons 6 rfl (.cons 7 rfl (.cons 8 rfl (.cons 9 rfl (.cons 10 rfl .nil)))))) rfl (fun _ h => h)
    ·
     have g48 : ¬ 0 < o.op := g48;refine aQ rfl rfl rfl ?_;refine aQ rfl rfl rfl ?_;refine aQ rfl rfl rfl ?_;refine aQ rfl rfl rfl ?_;refine aQ rfl rfl rfl ?_;refine aA (a8 rfl rfl) rfl ?_;refine aW rfl rfl (m8 _ _ _ _ _ _ _ _ _ _ _ _ _) (.cons (.there .here) .nil) rfl (by rintro _ _ ⟨_, h, _⟩; cases h) ?_ ?_
     ·
      rintro _ _ _ ⟨fb, h, rfl⟩ le1;cases h
      refine aO (.cons .here (.cons (.there (.there (.there (.there .here)))) (.cons (.there (.there (.there (.there .here)))) .nil))) ?_;refine aJ ?_;refine aP ?_;refine aJ ?_;refine aP ?_;refine aJ ?_;exact uI rfl rfl rfl (Hl.le_trans hle0 le1) (by rw [hx, vT ho h43 (aCQ aH)]) aH
     ·
      rintro _ _ _ ⟨_, h, _⟩; cases h
  ·
   have hx := hx.trans (aG5 aH);refine cY ?_;refine aV ?_;refine aV ?_;refine bL ?_;refine aE (aI ?_);refine aI (aB ?_);refine aA (aC rfl) rfl ?_;refine aA bS rfl ?_;refine aA (aD (o' := 0) cV rfl rfl) rfl ?_;refine aA (aD (o' := 5) nU rfl rfl) rfl ?_;refine aA (aK ts4 rfl aM rfl) rfl ?_;refine aG (aE ?_);refine eB 77 rfl (fun h77 => ?_) (fun h77 => ?_)
   ·
    refine aB ?_;refine aA (aC rfl) rfl ?_;refine aA (aC rfl) rfl ?_;refine aA bS rfl ?_;refine aA (aD (o' := 0) cV rfl rfl) rfl ?_;refine aA (aD (o' := 4) eD rfl rfl) rfl ?_;refine aA (aK ts29 rfl aM rfl) rfl ?_;refine aA (cK tb34 wQ (.cons rfl rfl rfl (.cons .nil) .nil)) rfl ?_;refine ol_s (bO (z0 := [.int .i64 0, (str [])]) fZ tz34 rfl rfl rfl rfl (.cons rfl rfl rfl (.cons (.cons .nil)) .nil)) rfl ?_;rintro _ K _ ⟨b85, rfl, rfl, rfl⟩ -;refine ol_s (dQ (k := dG) (ys := [((1 : Int), ([] : List UInt8))]) lY rfl rfl a7 (fun w j => dN Tryz.underlying29 (SeesSl.at (k := dG) (.blk (.own .here) rfl rfl) j)) (by have := hinv.acts; simp; omega) (by have := hinv.acts; simp; omega)) rfl ?_;rintro v86 K _ ⟨rfl, rfl, ho86⟩ -;refine aA bS rfl ?_;refine aA (aD (o' := 0) cV rfl rfl) rfl ?_;refine aA (aD (o' := 4) eD rfl rfl) rfl ?_;refine bR (bI ts29 rfl rfl cG a7 (.succ (.succ (.succ (.succ .zero)))) rfl) ?_;rintro _ K _ ⟨rfl, rfl⟩ -;refine aG (aE ?_);refine aI (aB ?_);refine aA (aC rfl) rfl ?_;refine aA bS rfl ?_;refine aA (aD (o' := 0) cV rfl rfl) rfl ?_;refine aA (aD (o' := 4) eD rfl rfl) rfl ?_;refine aA (aK ts29 rfl aM rfl) rfl ?_;refine aA (aC rfl) rfl ?_;refine bR (bI ts29 rfl rfl cG a7 .zero rfl) ?_;rintro _ K _ ⟨rfl, rfl⟩ -;refine aA (aF rfl) rfl ?_;refine bR (bI ts79 rfl rfl cG a7 .zero rfl) ?_;rintro _ K _ ⟨rfl, rfl⟩ -;refine aG (aE ?_);refine bM ?_
    first
     | (refine aO (.cons (.there (.there (.there (.there (.there .here))))) (.cons (.there (.there (.there (.there .here)))) (.cons (.there .here) .nil))) ?_; exact gQ rfl rfl rfl hle0 (by rw [hx, if_neg (by rw [h77]; decide)]) aH)
     | (refine aO (.cons (.there (.there (.there (.there (.there (.there .here)))))) (.cons (.there (.there (.there (.there (.there .here))))) (.cons (.there (.there .here)) .nil))) ?_; exact gQ rfl rfl rfl hle0 (by rw [hx, if_neg (by rw [h77]; decide)]) aH)
     | (refine aO (.cons (.there (.there (.there (.there (.there (.there .here)))))) (.cons (.there (.there (.there (.there (.there .here))))) (.cons .here .nil))) ?_; exact gQ rfl rfl rfl hle0 (by rw [hx, if_pos h77]) aH)
     | (refine aO (.cons (.there (.there (.there (.there (.there (.there (.there .here))))))) (.cons (.there (.there (.there (.there (.there (.there .here)))))) (.cons .here .nil))) ?_; exact gQ rfl rfl rfl hle0 (by rw [hx, if_pos h77]) aH)
   ·
    refine a6 ?_;refine aE (aI ?_);refine aB ?_;refine aA (aC rfl) rfl ?_;refine aA bS rfl ?_;refine aA (aD (o' := 0) cV rfl rfl) rfl ?_;refine aA (aD (o' := 4) eD rfl rfl) rfl ?_;refine aA (aK ts29 rfl aM rfl) rfl ?_;refine aA (aC rfl) rfl ?_;refine bR (bI ts29 rfl rfl cG a7 .zero rfl) ?_;rintro _ K _ ⟨rfl, rfl⟩ -;refine aA (aF rfl) rfl ?_;refine bR (bI ts79 rfl rfl cG a7 .zero rfl) ?_;rintro _ K _ ⟨rfl, rfl⟩ -;refine aG (aE ?_);refine bM ?_
    first
     | (refine aO (.cons (.there (.there (.there (.there (.there .here))))) (.cons (.there (.there (.there (.there .here)))) (.cons (.there .here) .nil))) ?_; exact gQ rfl rfl rfl hle0 (by rw [hx, if_neg (by rw [h77]; decide)]) aH)
     | (refine aO (.cons (.there (.there (.there (.there (.there (.there .here)))))) (.cons (.there (.there (.there (.there (.there .here))))) (.cons (.there (.there .here)) .nil))) ?_; exact gQ rfl rfl rfl hle0 (by rw [hx, if_neg (by rw [h77]; decide)]) aH)
     | (refine aO (.cons (.there (.there (.there (.there (.there (.there .here)))))) (.cons (.there (.there (.there (.there (.there .here))))) (.cons .here .nil))) ?_; exact gQ rfl rfl rfl hle0 (by rw [hx, if_pos h77]) aH)
     | (refine aO (.cons (.there (.there (.there (.there (.there (.there (.there .here))))))) (.cons (.there (.there (.there (.there (.there (.there .here)))))) (.cons .here .nil))) ?_; exact gQ rfl rfl rfl hle0 (by rw [hx, if_pos h77]) aH)
end Go.Proofs
end
section
namespace Go.Syn
open Go.Cmp
def sOk (n : Nat) : Tree → Prop
 | .const _ => True
 | .not_ t => sOk n t
 | .many _ l => sOk n l
 | .mat _ _ _ a b => (∀ x ∈ a, x.length ≤ n) ∧ (∀ x ∈ b, x.length ≤ n) ∧ a.length ≤ 2 * n + 1 ∧ b.length ≤ 2 * n + 1
 | .exi a => (∀ x ∈ a, x.length ≤ n) ∧ a.length ≤ 2 * n + 1
 | .siz _ _ => True
 | .tnil => True
 | .tcons t l => sOk n t ∧ sOk n l
 | .plain _ => True
 | .act _ a _ => a.length ≤ n
 | .set_ a v _ => a.length ≤ n ∧ v.length ≤ n
 | .iff bs => sOk n bs
 | .cnil => True
 | .ccons c l => sOk n c ∧ sOk n l
 | .bnil => True
 | .bcons t b l => sOk n t ∧ sOk n b ∧ sOk n l
 | .belse b l => sOk n b ∧ sOk n l
def Fit (s : aL) (k : Nat) (st : St) (r : Tree × St) : Prop := wf r.1 k = true ∧ sOk s.length r.1 ∧ cnt r.1 + mu s r.2 ≤ mu s st
def FitA (s : aL) (k : Nat) (T : St → Res (Tree × St)) : Prop := ∀ st r, Ok s st → T st = .ok r → Fit s k st r
def FitN (s : aL) (k : Nat) (T : St → Res (Tree × St)) : Prop := ∀ st r, Ok s st → st.2.kind ≠ 0 → T st = .ok r → Fit s k st r
variable {s : aL}
theorem aCV {st : St} {k : Nat} {texts : List aL} {r : Word × St} (hok : Ok s st) (h : take s st k texts = .ok r) : r.1.s.length ≤ s.length := by
 unfold take at h;split at h
 ·cases h
 ·split at h
  ·cases h
  ·cases h; exact hok.2
theorem sN {st : St} {ff : aL → Int} {r : aL × St} (hok : Ok s st) (h : text s st ff = .ok r) : r.1.length ≤ s.length := by
 unfold text at h;split at h
 ·cases h
 ·split at h
  ·cases h
  ·rename_i q hq; cases h; exact aCV hok hq
theorem aG3 {ff : aL → Int} : ∀ {f : Nat} {st : St} {acc : List aL} {r : List aL × St}, Ok s st → (∀ x ∈ acc, x.length ≤ s.length) → lG s ff f st acc = .ok r → ∀ x ∈ r.1, x.length ≤ s.length := by
 intro f;induction f with
 | zero => intro st acc r _ _ h; cases h
 | succ f ih =>
  intro st acc r hok ha h;simp only [lG] at h;split at h
  ·cases h
  ·rename_i q hq;have h1 := pV hok hq;split at h
   ·split at h
    ·cases h
    ·rename_i x hx;have h2 := lM h1.1 hx;refine ih h2.1 ?_ h
     intro y hy;rcases List.mem_append.1 hy with hy | hy
     ·exact ha y hy
     ·simp at hy; subst hy; exact sN h1.1 hx
   ·split at h
    ·cases h
    ·cases h; exact ha
theorem vS {ff : aL → Int} {st : St} {r : List aL × St} (hok : Ok s st) (h : list s st ff = .ok r) : ∀ x ∈ r.1, x.length ≤ s.length := by
 unfold list at h;split at h
 ·cases h
 ·rename_i q hq;have h1 := pV hok hq;split at h
  ·cases h
  ·rename_i x hx;have h2 := lM h1.1 hx;have h3 := sN h1.1 hx;split at h
   ·exact aG3 h2.1 (by intro y hy; simp at hy; subst hy; exact h3) h
   ·cases h; intro y hy; simp at hy; subst hy; exact h3
theorem rG {needs : List aL} {op : Int} {ext : aL} : FitN s 0 (iS s needs op ext) := by
 intro st r hok hk e;unfold iS at e;split at e
 ·cases e
 split at e
 ·cases e
 rename_i q hq;have h1 := dL hok hk hq;unfold lH at e;split at e
 ·cases e
 rename_i h hh;have h2 := yL h1.1 hh;split at e
 ·cases e
 rename_i a ha;have h3 := lC h2.1 ha;have h3l := o4 h2.1 ha;split at e
 ·cases e
 rename_i b hb;have h4 := lC h3.1 hb;have h4l := o4 h3.1 hb;cases e
 have hm := qQ s st;exact ⟨rfl, ⟨vS h2.1 ha, vS h3.1 hb, by omega, by omega⟩, by simp only [cnt]; omega⟩
theorem pA {c : Tree} (hc : wf c 2 = true ∧ sOk s.length c ∧ cnt c = 1) : FitN s 2 (jB s c) := by
 intro st r hok hk e;unfold jB at e;split at e
 ·cases e
 rename_i q hq;have h1 := dL hok hk hq;split at e
 ·cases e
 rename_i x hx;have h2 := fH h1.1 hx;cases e
 exact ⟨hc.1, hc.2.1, by simp only [hc.2.2]; omega⟩
theorem uT {needs : List aL} {k : Int} {ext : aL} {p : Int} : FitN s 2 (actC s needs k ext p) := by
 intro st r hok hk e;unfold actC at e;split at e
 ·cases e
 split at e
 ·cases e
 rename_i q hq;have h1 := dL hok hk hq;split at e
 ·cases e
 rename_i x hx;have h2 := nS h1.1 (by decide) hx;split at e
 ·cases e
 rename_i y hy;have h3 := fH h2.1 hy;cases e
 exact ⟨rfl, aCV h1.1 hx, by simp only [cnt]; omega⟩
theorem u6 {b : Bool} : FitN s 0 (jY s b) := by
 intro st r hok hk e;unfold jY at e;split at e
 ·cases e
 rename_i q hq;have h1 := dL hok hk hq;cases e
 exact ⟨rfl, trivial, by simp only [cnt]; omega⟩
theorem aBM : FitN s 0 (lB s) := by
 intro st r hok hk e;unfold lB at e;split at e
 ·cases e
 rename_i q hq;have h1 := dL hok hk hq;split at e
 ·cases e
 rename_i a ha;have h3 := lC h1.1 ha;have h3l := o4 h1.1 ha;cases e
 have hm := qQ s st;exact ⟨rfl, ⟨vS h1.1 ha, by omega⟩, by simp only [cnt]; omega⟩
theorem aH5 : FitN s 0 (nR s) := by
 intro st r hok hk e;unfold nR at e;split at e
 ·cases e
 rename_i q hq;have h1 := dL hok hk hq;split at e
 ·cases e
 rename_i x hx;have h2 := nS h1.1 (by decide) hx;split at e
 ·cases e
 rename_i y hy;have h3 := nS h2.1 (by decide) hy;cases e
 exact ⟨rfl, trivial, by simp only [cnt]; omega⟩
theorem aKI {T : St → Res (Tree × St)} (hT : FitA s 0 T) : FitN s 0 (notC s T) := by
 intro st r hok hk e;unfold notC at e;split at e
 ·cases e
 rename_i q hq;have h1 := dL hok hk hq;split at e
 ·cases e
 rename_i t ht;have h2 := hT _ _ h1.1 ht;cases e
 exact ⟨by simp [wf, h2.1], h2.2.1, by have := h2.2.2; simp only [cnt]; omega⟩
theorem aLG {n : Nat} {t : Tree} (h1 : wf t 0 = true) (h2 : sOk n t) : ∀ {l : Tree}, wf l 1 = true → sOk n l → wf (l.snocT t) 1 = true ∧ sOk n (l.snocT t) ∧ cnt (l.snocT t) = cnt l + cnt t := by
 intro l;induction l with
 | tnil => intro _ _; exact ⟨by simp [Tree.snocT, wf, h1], ⟨h2, trivial⟩, by simp [Tree.snocT, cnt]⟩
 | tcons x l ih1 ih2 =>
  intro hw hs;simp [wf] at hw;obtain ⟨a, b, c⟩ := ih2 hw.2 hs.2;exact ⟨by simp [Tree.snocT, wf, hw.1, a], ⟨hs.1, b⟩, by simp only [Tree.snocT, cnt, c]; omega⟩
 | _ => intro hw; simp [wf] at hw
theorem aLF {n : Nat} {t : Tree} (h1 : wf t 2 = true) (h2 : sOk n t) : ∀ {l : Tree}, wf l 3 = true → sOk n l → wf (l.snocC t) 3 = true ∧ sOk n (l.snocC t) ∧ cnt (l.snocC t) = cnt l + cnt t := by
 intro l;induction l with
 | cnil => intro _ _; exact ⟨by simp [Tree.snocC, wf, h1], ⟨h2, trivial⟩, by simp [Tree.snocC, cnt]⟩
 | ccons x l ih1 ih2 =>
  intro hw hs;simp [wf] at hw;obtain ⟨a, b, c⟩ := ih2 hw.2 hs.2;exact ⟨by simp [Tree.snocC, wf, hw.1, a], ⟨hs.1, b⟩, by simp only [Tree.snocC, cnt, c]; omega⟩
 | _ => intro hw; simp [wf] at hw
def cntO : Option Tree → Nat
 | none => 0
 | some t => cnt t
theorem aCN {n : Nat} {o : Option Tree} {b : Tree} (h0 : ∀ t, o = some t → wf t 0 = true ∧ sOk n t) (h1 : wf b 3 = true) (h2 : sOk n b) : ∀ {l : Tree}, wf l 4 = true → sOk n l → wf (l.snocB o b) 4 = true ∧ sOk n (l.snocB o b) ∧ cnt (l.snocB o b) = cnt l + cntO o + cnt b + 1 := by
 intro l;induction l with
 | bnil =>
  intro _ _;cases o with
  | none => exact ⟨by simp [Tree.snocB, mkB, wf, h1], ⟨h2, trivial⟩, by simp [Tree.snocB, mkB, cnt, cntO]⟩
  | some t =>
   obtain ⟨a, b2⟩ := h0 t rfl;exact ⟨by simp [Tree.snocB, mkB, wf, h1, a], ⟨b2, h2, trivial⟩, by simp [Tree.snocB, mkB, cnt, cntO]⟩
 | bcons x y l ih1 ih2 ih3 =>
  intro hw hs;simp [wf] at hw;obtain ⟨a, b, c⟩ := ih3 hw.2.2 hs.2.2;exact ⟨by simp [Tree.snocB, wf, hw.1, hw.2.1, a], ⟨hs.1, hs.2.1, b⟩, by simp only [Tree.snocB, cnt, c]; omega⟩
 | belse y l ih1 ih2 =>
  intro hw hs;simp [wf] at hw;obtain ⟨a, b, c⟩ := ih2 hw.2 hs.2;exact ⟨by simp [Tree.snocB, wf, hw.1, a], ⟨hs.1, b⟩, by simp only [Tree.snocB, cnt, c]; omega⟩
 | _ => intro hw; simp [wf] at hw
theorem aG8 {T : St → Res (Tree × St)} (hTa : Adv s T) (hT : FitA s 0 T) : ∀ {f : Nat} {acc : Tree} {st : St} {r : Tree × St}, Ok s st → wf acc 1 = true → sOk s.length acc → mM s T f acc st = .ok r → wf r.1 1 = true ∧ sOk s.length r.1 ∧ cnt r.1 + mu s r.2 ≤ cnt acc + mu s st := by
 intro f;induction f with
 | zero => intro acc st r _ _ _ e; cases e
 | succ f ih =>
  intro acc st r hok hw hs e;simp only [mM] at e;split at e
  ·cases e
  rename_i q hq;have h1 := pV hok hq;split at e
  ·split at e
   ·cases e
   rename_i t ht;have h2 := hT _ _ h1.1 ht;obtain ⟨a, b, c⟩ := aLG h2.1 h2.2.1 hw hs;have h3 := ih (hTa _ _ h1.1 ht).1 a b e;have h4 := h2.2.2;exact ⟨h3.1, h3.2.1, by omega⟩
  ·split at e
   ·cases e
   rename_i y hy;have h2 := fH h1.1 hy;cases e
   exact ⟨hw, hs, by simp only []; omega⟩
theorem xY {T : St → Res (Tree × St)} {all : Bool} (hTa : Adv s T) (hT : FitA s 0 T) : FitN s 0 (lT s T all) := by
 intro st r hok hk e;unfold lT at e;split at e
 ·cases e
 rename_i q hq;have h1 := dL hok hk hq;split at e
 ·cases e
 rename_i x hx;have h2 := fH h1.1 hx;split at e
 ·cases e
 rename_i t ht;have h3 := hT _ _ h2.1 ht;unfold sE at e;split at e
 ·cases e
 rename_i l hl;have h4 := aG8 (acc := .tcons t.1 .tnil) hTa hT (hTa _ _ h2.1 ht).1 (by simp [wf, h3.1]) ⟨h3.2.1, trivial⟩ hl;cases e
 have := h3.2.2;have := h4.2.2;refine ⟨by simp [wf, h4.1], h4.2.1, ?_⟩
 simp only [cnt] at *; omega
theorem aID {needs : List aL} {T : St → Res (Tree × St)} (hTa : Adv s T) (hT : FitA s 0 T) {st : St} {r : Tree × St} (hok : Ok s st) (hk : st.2.kind ≠ 0) (e : lK s needs T st = some (.ok r)) : Fit s 0 st r := by
 unfold lK at e;simp only [] at e;split at e
 ·exact u6 _ _ hok hk (by simpa using e)
 split at e
 ·exact u6 _ _ hok hk (by simpa using e)
 split at e
 ·exact aKI hT _ _ hok hk (by simpa using e)
 split at e
 ·exact xY hTa hT _ _ hok hk (by simpa using e)
 split at e
 ·exact xY hTa hT _ _ hok hk (by simpa using e)
 split at e
 ·exact rG _ _ hok hk (by simpa using e)
 split at e
 ·exact rG _ _ hok hk (by simpa using e)
 split at e
 ·exact rG _ _ hok hk (by simpa using e)
 split at e
 ·exact aBM _ _ hok hk (by simpa using e)
 split at e
 ·exact aH5 _ _ hok hk (by simpa using e)
 ·cases e
theorem aLN {needs : List aL} : ∀ n, FitA s 0 (test s needs n) := by
 intro n;induction n with
 | zero => intro st r hok e; simp only [test] at e; split at e <;> cases e
 | succ n ih =>
  intro st r hok e;simp only [test] at e;split at e
  ·rename_i hk;split at e
   ·rename_i x hx; subst e; exact aID (lL n) ih hok aH hx
   ·cases e
  ·cases e
theorem sU {B : St → Res (Tree × St)} (hBa : AdvE s B) (hB : FitA s 3 B) {st : St} {r : Tree × St} (hok : Ok s st) (e : mW s B st = .ok r) : wf r.1 3 = true ∧ sOk s.length r.1 ∧ cnt r.1 + 1 + mu s r.2 ≤ mu s st := by
 unfold mW at e;split at e
 ·cases e
 rename_i q hq;have h1 := fH hok hq;split at e
 ·cases e
 rename_i b hb;have h2 := hB _ _ h1.1 hb;have h2a := hBa _ _ h1.1 hb;split at e
 ·cases e
 rename_i y hy;have h3 := fH h2a.1 hy;cases e
 have := h2.2.2;exact ⟨h2.1, h2.2.1, by simp only []; omega⟩
theorem aGM {B : St → Res (Tree × St)} (hBa : AdvE s B) (hB : FitA s 3 B) {acc : Tree} {st : St} {r : Tree × St} (hok : Ok s st) (hw : wf acc 4 = true) (hs : sOk s.length acc) (e : gT s B acc st = .ok r) : wf r.1 2 = true ∧ sOk s.length r.1 ∧ cnt r.1 + mu s r.2 ≤ cnt acc + 1 + mu s st := by
 unfold gT at e;split at e
 ·rename_i hk;split at e
  ·cases e
  rename_i q hq;have h1 := dL hok aH hq;split at e
  ·cases e
  rename_i b hb;have h2 := sU hBa hB h1.1 hb;cases e
  obtain ⟨a, b, c⟩ := aCN (o := none) (fun t h => by cases h) h2.1 h2.2.1 hw hs;exact ⟨by simp [wf, a], b, by simp only [cnt, c, cntO]; omega⟩
 ·cases e; exact ⟨by simp [wf, hw], hs, by simp only [cnt]; omega⟩
theorem aDM {T B : St → Res (Tree × St)} (hTa : Adv s T) (hBa : AdvE s B) (hT : FitA s 0 T) (hB : FitA s 3 B) : ∀ {f : Nat} {acc : Tree} {st : St} {r : Tree × St}, Ok s st → wf acc 4 = true → sOk s.length acc → eQ s T B f acc st = .ok r → wf r.1 2 = true ∧ sOk s.length r.1 ∧ cnt r.1 + mu s r.2 ≤ cnt acc + 1 + mu s st := by
 intro f;induction f with
 | zero => intro acc st r _ _ _ e; cases e
 | succ f ih =>
  intro acc st r hok hw hs e;simp only [eQ] at e;split at e
  ·rename_i hk;split at e
   ·cases e
   rename_i q hq;have h1 := dL hok aH hq;split at e
   ·cases e
   rename_i t ht;have h2 := hT _ _ h1.1 ht;have h2a := hTa _ _ h1.1 ht;split at e
   ·cases e
   rename_i b hb;have h3 := sU hBa hB h2a.1 hb;have h3a := jT hBa _ _ h2a.1 hb;obtain ⟨a, b', c⟩ := aCN (o := some t.1) (fun x h => by cases h; exact ⟨h2.1, h2.2.1⟩) h3.1 h3.2.1 hw hs;have h4 := ih h3a.1 a b' e;have := h2.2.2;simp only [cntO] at c;exact ⟨h4.1, h4.2.1, by omega⟩
  ·exact aGM hBa hB hok hw hs e
theorem aMX {T B : St → Res (Tree × St)} (hTa : Adv s T) (hBa : AdvE s B) (hT : FitA s 0 T) (hB : FitA s 3 B) : FitN s 2 (ifC s T B) := by
 intro st r hok hk e;unfold ifC at e;split at e
 ·cases e
 rename_i q hq;have h1 := dL hok hk hq;split at e
 ·cases e
 rename_i t ht;have h2 := hT _ _ h1.1 ht;have h2a := hTa _ _ h1.1 ht;split at e
 ·cases e
 rename_i b hb;have h3 := sU hBa hB h2a.1 hb;have h3a := jT hBa _ _ h2a.1 hb;have h4 := aDM (acc := .bcons t.1 b.1 .bnil) hTa hBa hT hB h3a.1 (by simp [wf, h2.1, h3.1]) ⟨h2.2.1, h3.2.1, trivial⟩ e;have := h2.2.2;simp only [cnt] at h4;exact ⟨h4.1, h4.2.1, by omega⟩
theorem aH1 {needs : List aL} : FitN s 2 (sI s needs) := by
 intro st r hok hk e;unfold sI at e;split at e
 ·cases e
 rename_i q hq;have h1 := aCK _ _ hok hk hq;cases e
 refine ⟨rfl, ?_, by simp only [cnt]; omega⟩
 unfold setC at hq;split at hq
 ·split at hq
  ·cases hq
  rename_i r1 hr1;have g1 := dL hok hk hr1;split at hq
  ·cases hq
  rename_i t ht;have h2 : Ok s t.2 := by
   unfold iI at ht;split at ht
   ·split at ht
    ·cases ht
    split at ht
    ·cases ht
    rename_i x hx;cases ht
    exact (dL g1.1 aH hx).1
   ·cases ht; exact g1.1
  unfold kC at hq;split at hq
  ·cases hq
  rename_i n hn;have h3 := lM h2 hn;split at hq
  ·cases hq
  rename_i v hv;split at hq
  ·cases hq
  cases hq
  exact ⟨by rw [rO]; exact sN h2 hn, sN h3.1 hv⟩
 ·cases hq
theorem aI7 {needs : List aL} {T B : St → Res (Tree × St)} (hTa : Adv s T) (hBa : AdvE s B) (hT : FitA s 0 T) (hB : FitA s 3 B) {st : St} {r : Tree × St} (hok : Ok s st) (hk : st.2.kind ≠ 0) (e : cmdD s needs T B st = some (.ok r)) : Fit s 2 st r := by
 unfold cmdD at e;simp only [] at e;split at e
 ·exact pA (c := .act 1 [] st.2.at_) ⟨rfl, Nat.zero_le _, rfl⟩ _ _ hok hk (by simpa using e)
 split at e
 ·exact pA (c := .plain 13) ⟨rfl, trivial, rfl⟩ _ _ hok hk (by simpa using e)
 split at e
 ·exact pA (c := .plain 14) ⟨rfl, trivial, rfl⟩ _ _ hok hk (by simpa using e)
 split at e
 ·exact uT _ _ hok hk (by simpa using e)
 split at e
 ·exact uT _ _ hok hk (by simpa using e)
 split at e
 ·exact uT _ _ hok hk (by simpa using e)
 split at e
 ·exact aH1 _ _ hok hk (by simpa using e)
 split at e
 ·exact aMX hTa hBa hT hB _ _ hok hk (by simpa using e)
 ·cases e
theorem aDC {C : St → Option (Res (Tree × St))} (hCa : ∀ {st r}, Ok s st → st.2.kind ≠ 0 → C st = some (.ok r) → Ok s r.2 ∧ mu s r.2 < mu s st) (hC : ∀ {st r}, Ok s st → st.2.kind ≠ 0 → C st = some (.ok r) → Fit s 2 st r) :
  ∀ {f : Nat} {acc : Tree} {st : St} {r : Tree × St}, Ok s st → wf acc 3 = true → sOk s.length acc → iG s C f acc st = .ok r → wf r.1 3 = true ∧ sOk s.length r.1 ∧ cnt r.1 + mu s r.2 ≤ cnt acc + mu s st := by
 intro f;induction f with
 | zero => intro acc st r _ _ _ e; cases e
 | succ f ih =>
  intro acc st r hok hw hs e;simp only [iG] at e;split at e
  ·rename_i hk;split at e
   ·cases e
   ·cases e
   rename_i c hc;have h1 := hCa hok aH hc;have h2 := hC hok aH hc;obtain ⟨a, b, d⟩ := aLF h2.1 h2.2.1 hw hs;have h3 := ih h1.1 a b e;have := h2.2.2;exact ⟨h3.1, h3.2.1, by omega⟩
  ·cases e; exact ⟨hw, hs, Nat.le_refl _⟩
theorem aGA {needs : List aL} : ∀ n, FitA s 3 (block s needs n) := by
 intro n;induction n with
 | zero => intro st r hok e; simp only [block] at e; split at e <;> cases e; exact ⟨rfl, trivial, by simp [cnt]⟩
 | succ n ih =>
  intro st r hok e;simp only [block] at e;have := aDC (acc := .cnil) (fun h1 h2 h3 => u4 (lL n) (pT n) h1 h2 h3) (fun h1 h2 h3 => aI7 (lL n) (pT n) (aLN n) ih h1 h2 h3) hok rfl trivial e;simp only [cnt] at this;exact ⟨this.1, this.2.1, by omega⟩
theorem aKY : ∀ {f : Nat} {ns : List aL} {st : St} {r : List aL × St}, Ok s st → reqF s f ns st = .ok r → Ok s r.2 ∧ mu s r.2 ≤ mu s st := by
 intro f;induction f with
 | zero => intro ns st r _ e; cases e
 | succ f ih =>
  intro ns st r hok e;simp only [reqF] at e;split at e
  ·rename_i hk;split at e
   ·cases e
   rename_i q hq;have h1 := dL hok aH hq;split at e
   ·cases e
   rename_i l hl;have h2 := lC h1.1 hl;split at e
   ·cases e
   rename_i y hy;have h3 := fH h2.1 hy;have := ih h3.1 e;exact ⟨this.1, by omega⟩
  ·cases e; exact ⟨hok, Nat.le_refl _⟩
theorem yE {r : List aL × Tree} (h : e8 s = .ok r) : wf r.2 3 = true ∧ sOk s.length r.2 ∧ cnt r.2 ≤ 2 * s.length + 1 := by
 unfold e8 at h;split at h
 ·cases h
 rename_i q hq;have h1 := dR (Nat.zero_le _) hq;unfold f9 at h;split at h
 ·cases h
 rename_i n hn;have h2 := aKY h1 hn;split at h
 ·cases h
 rename_i b hb;have h3 := aGA 7 _ _ h2.1 hb;split at h
 ·cases h
  have := qQ s n.2;have := h3.2.2;exact ⟨h3.1, h3.2.1, by simp only []; omega⟩
 ·cases h
end Go.Syn
end
section
namespace Go.Cmp
open Go.Syn Go.Mach
def IFit (n : Nat) (o : Ins) : Prop := (∀ x ∈ o.a, x.length ≤ n) ∧ (∀ x ∈ o.b, x.length ≤ n) ∧ o.a.length ≤ 2 * n + 1 ∧ o.b.length ≤ 2 * n + 1
def AFit (n : Nat) (ops : List Ins) : Prop := ∀ o ∈ ops, IFit n o
theorem AFit.setN {n : Nat} {k : Nat} {m : Int} : ∀ {ops : List Ins}, AFit n ops → AFit n (setN ops k m) := by
 intro ops h o ho;unfold Cmp.setN at ho;obtain ⟨i, hi⟩ := List.getElem?_of_mem ho;rw [List.getElem?_modify] at hi;cases hx : ops[i]? with
 | none => rw [hx] at hi; cases hi
 | some x =>
  rw [hx] at hi;have hxo := h x (List.mem_of_getElem? hx);simp only [Option.map_eq_map, Option.map_some, Option.some.injEq] at hi
  by_cases hki : k = i
  ·rw [if_pos hki] at hi; subst hi; exact hxo
  ·rw [if_neg hki] at hi; subst hi; exact hxo
theorem AFit.fold {n : Nat} {m : Int} : ∀ (ps : List Nat) {ops : List Ins}, AFit n ops → AFit n (ps.foldl (fun o k => Cmp.setN o k (m - 1 - k)) ops)
 | [], _, h => h
 | p :: ps, _, h => AFit.fold ps h.setN
theorem AFit.land {n : Nat} {ops : List Ins} {ps : List Nat} (h : AFit n ops) : AFit n (land ops ps) := AFit.fold ps h
theorem AFit.app {n : Nat} {a b : List Ins} (h : AFit n a) (k : AFit n b) : AFit n (a ++ b) := fun o ho => (List.mem_append.1 ho).elim (h o) (k o)
theorem AFit.jmp {n : Nat} {ops : List Ins} {op : Int} (h : AFit n ops) : AFit n (ops ++ [Cmp.jmp op]) := h.app fun o ho => by
 rw [List.mem_singleton] at ho; subst ho; exact ⟨by simp [Cmp.jmp], by simp [Cmp.jmp], by simp [Cmp.jmp], by simp [Cmp.jmp]⟩
theorem AFit.two {n : Nat} {ops : List Ins} {o : Ins} {op : Int} (h : AFit n ops) (k : IFit n o) : AFit n (ops ++ [o, Cmp.jmp op]) := by
 have := (h.app (b := [o]) (fun x hx => by rw [List.mem_singleton] at hx; subst hx; exact k)).jmp (op := op)
 simpa using this
theorem aNX (n : Nat) : ∀ (t : Tree), sOk n t → (∀ tn ops, AFit n ops → AFit n (unl t tn ops).1) ∧ (∀ all tn ops away here, AFit n ops → AFit n (unlL all tn t ops away here).1) := by
 intro t;induction t with
 | not_ t ih => exact fun h => ⟨fun tn ops ho => by rw [unl]; exact (ih h).1 _ _ ho, fun all tn ops away here ho => by simpa [unlL] using ho⟩
 | const b => exact fun h => ⟨fun tn ops ho => by rw [unl]; split; exact ho.jmp; exact ho, fun all tn ops away here ho => by simpa [unlL] using ho⟩
 | many all l ih => exact fun h => ⟨fun tn ops ho => by rw [unl]; exact ((ih h).2 _ _ _ _ _ ho).land, fun all tn ops away here ho => by simpa [unlL] using ho⟩
 | mat tag oct op a b => exact fun h => ⟨fun tn ops ho => by rw [unl]; exact ho.two h, fun all tn ops away here ho => by simpa [unlL] using ho⟩
 | exi a => exact fun h => ⟨fun tn ops ho => by rw [unl]; exact ho.two ⟨h.1, by simp, h.2, by simp⟩, fun all tn ops away here ho => by simpa [unlL] using ho⟩
 | siz tag m => exact fun h => ⟨fun tn ops ho => by rw [unl]; exact ho.two ⟨by simp, by simp, by simp, by simp⟩, fun all tn ops away here ho => by simpa [unlL] using ho⟩
 | tcons t l ih1 ih2 =>
  refine fun h => ⟨fun tn ops ho => by simpa [unl] using ho, fun all tn ops away here ho => ?_⟩
  rw [unlL];split
  ·exact (ih2 h.2).2 _ _ _ _ _ ((ih1 h.1).1 _ _ ho)
  ·exact (ih2 h.2).2 _ _ _ _ _ ((ih1 h.1).1 _ _ ho)
 | _ => exact fun h => ⟨fun tn ops ho => by simpa [unl] using ho, fun all tn ops away here ho => by simpa [unlL] using ho⟩
theorem aI4 (n : Nat) : ∀ (t : Tree), sOk n t → (∀ ops, AFit n ops → AFit n (body t ops)) ∧ (∀ ops, AFit n ops → AFit n (cmdI t ops)) ∧ (∀ ops out, AFit n ops → AFit n (cW t ops out)) := by
 intro t;induction t with
 | plain op => exact fun h => ⟨fun ops ho => by simpa [body] using ho, fun ops ho => by rw [cmdI]; exact ho.jmp, fun ops out ho => by simpa [cW] using ho.land⟩
 | act k a p =>
  refine fun h => ⟨fun ops ho => by simpa [body] using ho, fun ops ho => ?_, fun ops out ho => by simpa [cW] using ho.land⟩
  rw [cmdI];refine ho.app fun o hx => ?_
  rw [List.mem_singleton] at hx; subst hx
  refine ⟨fun x hx => ?_, by simp, ?_, by simp⟩
  ·simp only at hx;split at hx
   ·cases hx
   ·rw [List.mem_singleton] at hx; subst hx; exact h
  ·simp only;split <;> simp
 | set_ a v t =>
  refine fun h => ⟨fun ops ho => by simpa [body] using ho, fun ops ho => ?_, fun ops out ho => by simpa [cW] using ho.land⟩
  rw [cmdI];refine ho.app fun o hx => ?_
  rw [List.mem_singleton] at hx; subst hx
  exact ⟨fun x hx => by rw [List.mem_singleton] at hx; subst hx; exact h.1, fun x hx => by rw [List.mem_singleton] at hx; subst hx; exact h.2, by simp, by simp⟩
 | iff bs ih => exact fun h => ⟨fun ops ho => by simpa [body] using ho, fun ops ho => by rw [cmdI]; exact (ih h).2.2 _ _ ho, fun ops out ho => by simpa [cW] using ho.land⟩
 | ccons c l ih1 ih2 => exact fun h => ⟨fun ops ho => by rw [body]; exact (ih2 h.2).1 _ ((ih1 h.1).2.1 _ ho), fun ops ho => by simpa [cmdI] using ho, fun ops out ho => by simpa [cW] using ho.land⟩
 | belse b l ih1 ih2 => exact fun h => ⟨fun ops ho => by simpa [body] using ho, fun ops ho => by simpa [cmdI] using ho, fun ops out ho => by rw [cW]; exact ((ih1 h.1).1 _ ho).land⟩
 | bcons t b l ih1 ih2 ih3 =>
  refine fun h => ⟨fun ops ho => by simpa [body] using ho, fun ops ho => by simpa [cmdI] using ho, fun ops out ho => ?_⟩
  have h1 := (ih2 h.2.1).1 _ ((aNX n t h.1).1 false _ ho);rw [cW];split
  ·exact (ih3 h.2.2).2.2 _ _ h1.land
  ·exact (ih3 h.2.2).2.2 _ _ h1.jmp.land
 | _ => exact fun h => ⟨fun ops ho => by simpa [body] using ho, fun ops ho => by simpa [cmdI] using ho, fun ops out ho => by simpa [cW] using ho.land⟩
theorem script_fit {n : Nat} {t : Tree} (h : sOk n t) : AFit n (script t) := (aI4 n t h).1 [] (fun o ho => by cases ho)
theorem script_len (t : Tree) : (script t).length ≤ 2 * cnt t := by have := ((rU t).1 []).2; unfold script; simpa using this
end Go.Cmp
end
section
namespace Go.Syn
variable {s : aL}
theorem rS : ∀ (l ns : List aL), (gS ns l).length ≤ ns.length + l.length
 | [], ns => by simp [gS]
 | e :: l, ns => by
  have h1 := rS l (addN ns e);have h2 := aIX ns e;unfold gS at h1 ⊢;simp only [List.foldl_cons, List.length_cons] at h1 ⊢;omega
theorem aCD : ∀ (f : Nat) (ns : List aL) (st : St) (r : List aL × St), Ok s st → reqF s f ns st = .ok r → r.1.length ≤ ns.length + mu s st
 | 0, ns, st, r, _, h => by cases h
 | f + 1, ns, st, r, hok, h => by
  unfold reqF at h;split at h
  ·rename_i hk;split at h
   ·cases h
   rename_i q hq;have hk2 : st.2.kind ≠ 0 := by omega
   have h1 := eP hok.1 hk2 hq;have h1o := dR hok.1 hq;split at h
   ·cases h
   rename_i l hl;have h2 := lC h1o hl;have h2l := o4 h1o hl;split at h
   ·cases h
   rename_i q2 hq2;have h3 := fH h2.1 hq2;have h4 := aCD f _ _ _ h3.1 h;have h5 := rS l.1 ns;omega
  ·cases h; simp
theorem aB6 {r : List aL × Tree} (h : e8 s = .ok r) : r.1.length ≤ 2 * s.length + 1 := by
 unfold e8 at h;split at h
 ·cases h
 rename_i q hq;have h1 := dR (Nat.zero_le _) hq;unfold f9 at h;split at h
 ·cases h
 rename_i n hn;have h2 := aCD _ _ _ _ h1 hn;have h3 := qQ s q;split at h
 ·cases h
 split at h
 ·cases h
  show n.1.length ≤ _
  have h2' : n.1.length ≤ mu s q := by simpa using h2
  omega
 ·cases h
end Go.Syn
end
section
namespace Go.SL
section
variable {E : Env} {fr : Fr} {K : Hl} {L L' : List Asn} {Q : Post} {ops : Array Oper} {rest : List Oper} {dst : Option Tmp} {ty : TypeId} {pos : String} {aft : Array Edge} {g : Option (Nat × Bool)} {x y : Operand} {v u : Value} {t : TypeId}
theorem vP {P : Program} {name : String} {os : List Operand} {vs : List Value} {ats : Array TypeId} {f : FuncId} {r : Value} {n : Nat} {ds : List Deferred} (hx : fr.ev x = some (.iface t u)) (hos : fr.evs os = some vs)
  (hm : ∀ w, (method (P.types.size + Made.depth) t u name).run P w = .ok (f, r) w) {a : Act} (fo : FrOk n ds fr a) (w : World) :
  (execOp a.eval ⟨dst, .call ⟨.invoke x name, os.toArray, ats⟩, ty, pos, aft, g⟩).run P w = (callFunc f (r :: vs).toArray).run P w := by
 have e1 : Array.map a.eval os.toArray = vs.toArray := by simp [fo.evs hos]
 have e2 : #[Value.iface t u] ++ vs.toArray = (Value.iface t u :: vs).toArray := by simp
 simp only [execOp, resolve, e1, fo.ev hx, bind, pure, Sem.bind, invoke, e2];have e3 : (Value.iface t u :: vs).toArray[0]? = some (.iface t u) := by simp
 have e4 : (Value.iface t u :: vs).toArray.extract 1 (Value.iface t u :: vs).toArray.size = vs.toArray := by simp
 simp only [e3, e4]
 show (callMethod (.iface t u) name vs.toArray).run P w = _
 unfold callMethod;simp only [];have hp : (program).run P w = .ok P w := rfl;rw [aS hp, aS (hm w)];simp
theorem dW {name : String} {os : List Operand} {vs : List Value} {ats : Array TypeId} {f : FuncId} {r : Value} {fn : Func} {ex : Array Value → Sem Value} (hx : fr.ev x = some (.iface t u)) (hos : fr.evs os = some vs)
  (hm : ∀ w, (method (E.P.types.size + Made.depth) t u name).run E.P w = .ok (f, r) w)
  (h1 : E.P.funcs[f]? = some fn) (h2 : (fn.name == "runtime.NumGoroutine") = false) (h3 : fn.body.isNone = true) (h4 : Extern.findNext fn = none) (h5 : Extern.find fn = some ex) (hr : ∀ w, In E.w0 E.F K L w → (ex (r :: vs).toArray).run E.P w = .ok v w) :
  Ev E fr K L ⟨dst, .call ⟨.invoke x name, os.toArray, ats⟩, ty, pos, aft, g⟩ v := fun a w fo j => by
 rw [vP hx hos hm fo w, run_callFunc_extern h1 h2 h3 h4 h5, hr w j]
 rfl
theorem wH {fv : Operand} {os : List Operand} {vs : List Value} {ats : Array TypeId} {f : FuncId} {fn : Func} {ex : Array Value → Sem Value} {N : Value → Hl → List Asn → Prop} (hf : fr.ev fv = some (.func (.func f) #[] #[])) (hos : fr.evs os = some vs)
  (h1 : E.P.funcs[f]? = some fn) (h2 : (fn.name == "runtime.NumGoroutine") = false) (h3 : fn.body.isNone = true) (h4 : Extern.findNext fn = none) (h5 : Extern.find fn = some ex)
  (hr : ∀ w, In E.w0 E.F K L w → ∃ v w' K' L', (ex vs.toArray).run E.P w = .ok v w' ∧ N v K' L' ∧ K.le K' ∧ In E.w0 E.F K' L' w') :
  EfS E fr K L ⟨dst, .call ⟨.value fv, os.toArray, ats⟩, ty, pos, aft, g⟩ N := fun a w fo j => by
 obtain ⟨v, w', K', L', h, hN, le, j'⟩ := hr w j;refine ⟨v, w', K', L', .inl ?_, hN, le, j'⟩
 have e1 : Array.map a.eval os.toArray = vs.toArray := by simp [fo.evs hos]
 simp only [execOp, resolve, e1, fo.ev hf, Deferred.ofValue, bind, pure, Sem.bind, invoke, List.append_toArray];simp only [List.nil_append, List.append_nil];rw [run_callFunc_extern h1 h2 h3 h4 h5, h]
 rfl
theorem aJU {o : Oper} {f : FuncId} {vs : List Value} {L1 L2 : List Asn} {R : Ending → Hl → List Asn → Prop} {N : Value → Hl → List Asn → Prop}
  (hrun : ∀ a w, FrOk E.n E.ds fr a → (execOp a.eval o).run E.P w = .ok (.enter f vs.toArray) w) (hL : Tks L1 L L2) (hs : Sp E.P f vs K L1 R)
  (hret : ∀ v K' L', R (.returned v) K' L' → N v K' (L' ++ L2)) (hpan : ∀ ch K' L', R (.panicked ch) K' L' → K.le K' → D E (.panic ch) fr K' (L' ++ L2) Q) (hout : ∀ K' L', R .outgrown K' L' → LetsOut Q) :
  Ef E fr K L o Q N := by
 intro a w k fo i hk;obtain ⟨F', i1, back⟩ := (i.imp hL.sat).hide;refine .inl ?_;unfold Oper.wp;rw [hrun a w fo];refine (hs.2 F' w i1).mono fun e w' ⟨K', L', r, le, j⟩ => ?_
 cases e with
 | returned v => exact hk _ _ _ _ (hret _ _ _ r) le (back j)
 | panicked ch => exact hpan _ _ _ r le _ _ fo (back j)
 | outgrown => exact hout _ _ r
theorem zZ {P : Program} {name : String} {os : List Operand} {vs : List Value} {ats : Array TypeId} {f : FuncId} {r : Value} {n : Nat} {ds : List Deferred} (hx : fr.ev x = some (.iface t u)) (hos : fr.evs os = some vs)
  (hm : ∀ w, (method (P.types.size + Made.depth) t u name).run P w = .ok (f, r) w) (hb : ∃ fn, P.funcs[f]? = some fn ∧ (fn.name == "runtime.NumGoroutine") = false ∧ fn.body.isSome = true) (a : Act) (w : World) (fo : FrOk n ds fr a) :
  (execOp a.eval ⟨dst, .call ⟨.invoke x name, os.toArray, ats⟩, ty, pos, aft, g⟩).run P w = .ok (.enter f (r :: vs).toArray) w := by
 obtain ⟨fn, h1, h2, h3⟩ := hb;rw [vP hx hos hm fo w];exact zH h1 h2 h3 w
theorem aD5 {d : Nat} {name : String} {os : List Operand} {vs : List Value} {ats : Array TypeId} {f : FuncId} {r : Value} {L1 L2 : List Asn} {N : Value → Hl → List Asn → Prop} (hx : fr.ev x = some (.iface t u)) (hos : fr.evs os = some vs)
  (hm : ∀ w, (method (E.P.types.size + Made.depth) t u name).run E.P w = .ok (f, r) w) (hs : Sp E.P f (r :: vs) K L1 (Ret N)) (hL : Tks L1 L L2) (hd : Nat.blt d E.n = true)
  (h : ∀ v K' L', N v K' L' → K.le K' → OL E ops rest ((d, v) :: fr) K' (L' ++ L2) Q) : OL E ops (⟨some d, .call ⟨.invoke x name, os.toArray, ats⟩, ty, pos, aft, none⟩ :: rest) fr K L Q :=
 aB4 (aJU (N := fun v K' L'' => ∃ L', L'' = L' ++ L2 ∧ N v K' L') (zZ hx hos hm hs.1) hL hs (fun v K' L' ⟨u, e, n⟩ => by cases e; exact ⟨L', rfl, n⟩) (fun ch K' L' ⟨u, e, n⟩ => by cases e) (fun K' L' ⟨u, e, n⟩ => by cases e)) hd
  (fun v K' L'' ⟨L', e, n⟩ le => by subst e; exact h v K' L' n le)
theorem aBJ {xt at_ : TypeId} {ok : Bool} (hx : fr.ev x = some u) (h : ∀ w, (Instr.typeAssert u xt at_ ok).run E.P w = .ok v w) : Ev E fr K L ⟨dst, .typeAssert x xt at_ ok, ty, pos, aft, g⟩ v := fun a w f j => by
 simp only [execOp, f.ev hx];exact d6 (h w)
theorem aDN {op : BinOp} {t' : TypeId} {v1 v2 : Value} (hx : fr.ev x = some v1) (hy : fr.ev y = some v2) (h0 : ∀ w, (eqGuard op t x y v1 v2).run E.P w = .ok () w) (h : ∀ w, (binOp op t v1 v2).run E.P w = .ok v w) :
  Ev E fr K L ⟨dst, .binOp op t x y t', ty, pos, aft, g⟩ v := fQ hx hy h0 h
end
end Go.SL
end
section
namespace Go.Proofs
open Go Go.SL Go.Extern
abbrev hd (t : Nat) : Value := .pointer (some ⟨7, t, none⟩)
theorem rlm (z : Sem Value) (f : TypeId → Addr → Nat → Nat → Sem Value) (v : Value) :
  ReflectliteValue.method z f #[v] = (do match ← ReflectliteValue.parts v with | none => z | some (t, a, fl) => f t a fl (fl % 32)) := rfl
theorem rls (v x : Value) : ReflectliteValue.set #[v, x] = (do
  let (some (dst, a, fl), some (src, b, _)) := (← ReflectliteValue.parts v, ← ReflectliteValue.parts x)
   | unsupported (.noEntry "extern/(internal/reflectlite.Value).Set.zeroValue")
  if fl / ReflectliteValue.flagAddr % 2 == 0 then unsupported (.noEntry "extern/(internal/reflectlite.Value).Set.unaddressable")
  let val ← loadVar src b
  if ← Rtype.directlyAssignable dst src then storeVar dst a val
  else if ← Rtype.implements dst src then
   if (← Rtype.kind src) == 20 then
    match val with
    | .nilIface => unsupported (.noEntry "extern/reflectlite: a nil value of one interface type handed on as a value of another")
    | _ => storeVar dst a val
   else storeVar dst a (.iface src val)
  else panicString ("reflectlite.Set: value of type " ++ (← Rtype.spelt src) ++ " is not assignable to type " ++ (← Rtype.spelt dst))
  pure (.tuple #[])) := rfl
theorem w6 (t : Nat) (w : World) : (ReflectliteValue.unpack (.iface 120 (ptr t))).run Tryz.prog w = .ok (.agg #[hd 120, ptr w.heap.size, .int .u64 150]) (w.alloc (.cells #[ptr t] 120)) := by kernel_rfl
theorem aF1 (a : Addr) (w : World) : (ReflectliteValue.methodAny (ReflectliteValue.valueError "reflectlite.Value.Type" 0) (fun t _ _ _ => ReflectliteType.toType t) #[.agg #[hd 120, .pointer (some a), .int .u64 150]]).run Tryz.prog w = .ok (.iface 265 (.agg #[hd 120])) w := by kernel_rfl
theorem aFL (w : World) : ((ReflectliteType.abiMethod fun t => (fun a : Nat => Value.int IntKind.u8 (a : Int)) <$> Rtype.kind t) #[hd 120]).run Tryz.prog w = .ok (.int .u8 22) w := by kernel_rfl
theorem aFK (w : World) : ((ReflectliteType.abiMethod fun t => (fun a : Nat => Value.int IntKind.u8 (a : Int)) <$> Rtype.kind t) #[hd 118]).run Tryz.prog w = .ok (.int .u8 22) w := by kernel_rfl
theorem aB8 (a : Addr) (w : World) : (ReflectliteValue.parts (.agg #[hd 120, .pointer (some a), .int .u64 150])).run Tryz.prog w = .ok (some (120, a, 150)) w := by kernel_rfl
theorem aBT (a p : Addr) (W : World) (ha : W.cell? a = some (.pointer (some p))) :
  (ReflectliteValue.method (ReflectliteValue.valueError "reflectlite.Value.IsNil" 0) ReflectliteValue.isNil #[.agg #[hd 120, .pointer (some a), .int .u64 150]]).run Tryz.prog W = .ok (.bool false) W := by
 rw [rlm];simp only [Sem.run_bind, aB8, Result.andThen];simp [ReflectliteValue.isNil, loadVar, isAgg, underlying, Tryz.underlying120, ha, Result.andThen]
theorem aE9 (w : World) : (ReflectliteType.method ReflectliteType.elem #[.agg #[hd 120]]).run Tryz.prog w = .ok (.iface 265 (.agg #[hd 118])) w := by kernel_rfl
theorem qO (w : World) : (ReflectliteType.relation "Implements" ReflectliteType.implements_ #[.agg #[hd 118], .iface 265 (.agg #[hd 79])]).run Tryz.prog w = .ok (.bool true) w := by kernel_rfl
theorem aIS (v : Value) (w : World) : (ReflectliteType.typeOf #[.iface 118 v]).run Tryz.prog w = .ok (.iface 265 (.agg #[hd 118])) w := by kernel_rfl
theorem xB (w : World) : (ReflectliteType.relation "AssignableTo" ReflectliteType.assignableTo #[.agg #[hd 118], .iface 265 (.agg #[hd 118])]).run Tryz.prog w = .ok (.bool true) w := by kernel_rfl
theorem aES (e : Nat) (w : World) : (ReflectliteValue.unpack (.iface 118 (ptr e))).run Tryz.prog w = .ok (.agg #[hd 118, ptr w.heap.size, .int .u64 150]) (w.alloc (.cells #[(ptr e)] 118)) := by kernel_rfl
theorem aGJ (w : World) : (Rtype.elem? 120).run Tryz.prog w = .ok (some 118) w := by kernel_rfl
theorem aQP (p : Addr) (w : World) : (ReflectliteValue.mk 118 p ReflectliteValue.flagAddr).run Tryz.prog w = .ok (.agg #[hd 118, .pointer (some p), .int .u64 406]) w := by kernel_rfl
theorem aJV (a p : Addr) (W : World) (ha : W.cell? a = some (.pointer (some p))) :
  (ReflectliteValue.method (ReflectliteValue.valueError "reflectlite.Value.Elem" 0) ReflectliteValue.elem #[.agg #[hd 120, .pointer (some a), .int .u64 150]]).run Tryz.prog W = .ok (.agg #[hd 118, .pointer (some p), .int .u64 406]) W := by
 rw [rlm];simp only [Sem.run_bind, aB8, Result.andThen];simp [ReflectliteValue.elem, loadVar, isAgg, underlying, Tryz.underlying120, ha, Result.andThen, aGJ, aQP]
theorem aHI (a : Addr) (w : World) : (ReflectliteValue.parts (.agg #[hd 118, .pointer (some a), .int .u64 406])).run Tryz.prog w = .ok (some (118, a, 406)) w := by kernel_rfl
theorem aKO (a : Addr) (w : World) : (ReflectliteValue.parts (.agg #[hd 118, .pointer (some a), .int .u64 150])).run Tryz.prog w = .ok (some (118, a, 150)) w := by kernel_rfl
theorem aGH (w : World) : (Rtype.directlyAssignable 118 118).run Tryz.prog w = .ok true w := by kernel_rfl
theorem aPW (ta b : Addr) (e : Nat) (old : Value) (W : World) (hb : W.cell? b = some (ptr e)) (ht : W.cell? ta = some old) (hf : W.frozen? ta = false) :
  (ReflectliteValue.set #[.agg #[hd 118, .pointer (some ta), .int .u64 406], .agg #[hd 118, .pointer (some b), .int .u64 150]]).run Tryz.prog W = .ok (.tuple #[]) (W.setCell ta (ptr e)) := by
 rw [rls];simp only [Sem.run_bind, aHI, aKO, Result.andThen];simp [ReflectliteValue.flagAddr, loadVar, isAgg, underlying, Tryz.underlying118, hb, Result.andThen, aGH, storeVar, Value.cells, storeCells, Addr.add];rw [run_store Tryz.prog W ta _ _ (by rfl)];simp [ht, hf]
theorem aET (t : Nat) (w : World) : (ReflectliteValue.unpack (.iface 124 (ptr t))).run Tryz.prog w = .ok (.agg #[hd 124, ptr w.heap.size, .int .u64 150]) (w.alloc (.cells #[ptr t] 124)) := by kernel_rfl
theorem aNU (a : Addr) (w : World) : (ReflectliteValue.methodAny (ReflectliteValue.valueError "reflectlite.Value.Type" 0) (fun t _ _ _ => ReflectliteType.toType t) #[.agg #[hd 124, .pointer (some a), .int .u64 150]]).run Tryz.prog w = .ok (.iface 265 (.agg #[hd 124])) w := by kernel_rfl
theorem aMZ (w : World) : ((ReflectliteType.abiMethod fun t => (fun a : Nat => Value.int IntKind.u8 (a : Int)) <$> Rtype.kind t) #[hd 124]).run Tryz.prog w = .ok (.int .u8 22) w := by kernel_rfl
theorem aPK (w : World) : ((ReflectliteType.abiMethod fun t => (fun a : Nat => Value.int IntKind.u8 (a : Int)) <$> Rtype.kind t) #[hd 30]).run Tryz.prog w = .ok (.int .u8 2) w := by kernel_rfl
theorem aB9 (a : Addr) (w : World) : (ReflectliteValue.parts (.agg #[hd 124, .pointer (some a), .int .u64 150])).run Tryz.prog w = .ok (some (124, a, 150)) w := by kernel_rfl
theorem aJ9 (a p : Addr) (W : World) (ha : W.cell? a = some (.pointer (some p))) :
  (ReflectliteValue.method (ReflectliteValue.valueError "reflectlite.Value.IsNil" 0) ReflectliteValue.isNil #[.agg #[hd 124, .pointer (some a), .int .u64 150]]).run Tryz.prog W = .ok (.bool false) W := by
 rw [rlm];simp only [Sem.run_bind, aB9, Result.andThen];simp [ReflectliteValue.isNil, loadVar, isAgg, underlying, Tryz.underlying124, ha, Result.andThen]
theorem aMQ (w : World) : (ReflectliteType.method ReflectliteType.elem #[.agg #[hd 124]]).run Tryz.prog w = .ok (.iface 265 (.agg #[hd 30])) w := by kernel_rfl
theorem zX (w : World) : (ReflectliteType.relation "Implements" ReflectliteType.implements_ #[.agg #[hd 30], .iface 265 (.agg #[hd 79])]).run Tryz.prog w = .ok (.bool true) w := by kernel_rfl
theorem sR (v : Value) (w : World) : (ReflectliteType.typeOf #[.iface 30 v]).run Tryz.prog w = .ok (.iface 265 (.agg #[hd 30])) w := by kernel_rfl
theorem y9 (w : World) : (ReflectliteType.relation "AssignableTo" ReflectliteType.assignableTo #[.agg #[hd 30], .iface 265 (.agg #[hd 30])]).run Tryz.prog w = .ok (.bool true) w := by kernel_rfl
theorem aIU (e : Int) (w : World) : (ReflectliteValue.unpack (.iface 30 (i64 e))).run Tryz.prog w = .ok (.agg #[hd 30, ptr w.heap.size, .int .u64 130]) (w.alloc (.cells #[(i64 e)] 30)) := by kernel_rfl
theorem aGK (w : World) : (Rtype.elem? 124).run Tryz.prog w = .ok (some 30) w := by kernel_rfl
theorem mk30 (p : Addr) (w : World) : (ReflectliteValue.mk 30 p ReflectliteValue.flagAddr).run Tryz.prog w = .ok (.agg #[hd 30, .pointer (some p), .int .u64 386]) w := by kernel_rfl
theorem aJW (a p : Addr) (W : World) (ha : W.cell? a = some (.pointer (some p))) :
  (ReflectliteValue.method (ReflectliteValue.valueError "reflectlite.Value.Elem" 0) ReflectliteValue.elem #[.agg #[hd 124, .pointer (some a), .int .u64 150]]).run Tryz.prog W = .ok (.agg #[hd 30, .pointer (some p), .int .u64 386]) W := by
 rw [rlm];simp only [Sem.run_bind, aB9, Result.andThen];simp [ReflectliteValue.elem, loadVar, isAgg, underlying, Tryz.underlying124, ha, Result.andThen, aGK, mk30]
theorem aKP (a : Addr) (w : World) : (ReflectliteValue.parts (.agg #[hd 30, .pointer (some a), .int .u64 386])).run Tryz.prog w = .ok (some (30, a, 386)) w := by kernel_rfl
theorem aM6 (a : Addr) (w : World) : (ReflectliteValue.parts (.agg #[hd 30, .pointer (some a), .int .u64 130])).run Tryz.prog w = .ok (some (30, a, 130)) w := by kernel_rfl
theorem aJJ (w : World) : (Rtype.directlyAssignable 30 30).run Tryz.prog w = .ok true w := by kernel_rfl
theorem aQ1 (ta b : Addr) (e : Int) (old : Value) (W : World) (hb : W.cell? b = some (i64 e)) (ht : W.cell? ta = some old) (hf : W.frozen? ta = false) :
  (ReflectliteValue.set #[.agg #[hd 30, .pointer (some ta), .int .u64 386], .agg #[hd 30, .pointer (some b), .int .u64 130]]).run Tryz.prog W = .ok (.tuple #[]) (W.setCell ta (i64 e)) := by
 rw [rls];simp only [Sem.run_bind, aKP, aM6, Result.andThen];simp [ReflectliteValue.flagAddr, loadVar, isAgg, underlying, Tryz.underlying30, hb, Result.andThen, aJJ, storeVar, Value.cells, storeCells, Addr.add];rw [run_store Tryz.prog W ta _ _ (by rfl)];simp [ht, hf]
theorem kR (h : Value) (w : World) : (Go.method (Tryz.prog.types.size + Made.depth) 265 (.agg #[h]) "Kind").run Tryz.prog w = .ok (396, h) w := by kernel_rfl
theorem rI (h : Value) (w : World) : (Go.method (Tryz.prog.types.size + Made.depth) 265 (.agg #[h]) "Elem").run Tryz.prog w = .ok (416, .agg #[h]) w := by kernel_rfl
theorem kQ (h : Value) (w : World) : (Go.method (Tryz.prog.types.size + Made.depth) 265 (.agg #[h]) "Implements").run Tryz.prog w = .ok (417, .agg #[h]) w := by kernel_rfl
theorem jO (h : Value) (w : World) : (Go.method (Tryz.prog.types.size + Made.depth) 265 (.agg #[h]) "AssignableTo").run Tryz.prog w = .ok (414, .agg #[h]) w := by kernel_rfl
theorem nO (h : Value) (w : World) : (Go.method (Tryz.prog.types.size + Made.depth) 265 (.agg #[h]) "Comparable").run Tryz.prog w = .ok (415, .agg #[h]) w := by kernel_rfl
theorem aAB (fb : Nat) (w : World) : (Go.method (Tryz.prog.types.size + Made.depth) 118 (ptr fb) "Unwrap").run Tryz.prog w = .ok (407, ptr fb) w := by kernel_rfl
theorem sS (w : World) : (ReflectliteType.relation "AssignableTo" ReflectliteType.assignableTo #[.agg #[hd 30], .iface 265 (.agg #[hd 118])]).run Tryz.prog w = .ok (.bool false) w := by kernel_rfl
theorem rX (w : World) : (ReflectliteType.method (fun t => do Rtype.noPackHeld "Comparable" t; pure (.bool (← typeInfo t).comparable)) #[.agg #[hd 30]]).run Tryz.prog w = .ok (.bool true) w := by kernel_rfl
theorem aPN (v : Value) (w : World) : (Instr.typeAssert (.iface 30 v) 79 269 true).run Tryz.prog w = .ok (.tuple #[.nilIface, .bool false]) w := run_typeAssert_lacksB Tryz.underlying269 cJ cJ v 79 w
theorem aD4 (v : Value) (w : World) : (Instr.typeAssert (.iface 30 v) 79 272 true).run Tryz.prog w = .ok (.tuple #[.nilIface, .bool false]) w := run_typeAssert_lacksB Tryz.underlying272 cJ cJ v 79 w
theorem aB1 (v : Value) (w : World) : (Instr.typeAssert (.iface 30 v) 79 273 true).run Tryz.prog w = .ok (.tuple #[.nilIface, .bool false]) w := run_typeAssert_lacksB Tryz.underlying273 cJ cJ v 79 w
theorem zW (v : Value) (w : World) : (Instr.typeAssert (.iface 118 v) 79 272 true).run Tryz.prog w = .ok (.tuple #[.iface 118 v, .bool true]) w := run_typeAssert_hasB Tryz.underlying272 cJ v 79 w
theorem aM3 (v : Value) (w : World) : (Instr.typeAssert (.iface 118 v) 79 276 true).run Tryz.prog w = .ok (.tuple #[.nilIface, .bool false]) w := run_typeAssert_lacksB Tryz.underlying276 cJ cJ v 79 w
theorem aJX (fb : Nat) (e : Int) (w : World) : (binOp .eql 79 (.iface 118 (ptr fb)) (.iface 30 (i64 e))).run Tryz.prog w = .ok (.bool false) w := by kernel_rfl
theorem eq30 (e : Int) (w : World) : (binOp .eql 79 (.iface 30 (i64 e)) (.iface 30 (i64 e))).run Tryz.prog w = .ok (.bool true) w := by
 have h : (binOp .eql 79 (.iface 30 (i64 e)) (.iface 30 (i64 e))).run Tryz.prog w = .ok (.bool (decide (e = e))) w := by kernel_rfl
 rw [h]; simp
end Go.Proofs
end
section
namespace Go.Proofs
open Go Go.SL Go.Extern
theorem nZ : (Tryz.f93.name == "runtime.NumGoroutine") = false := by kernel_rfl
theorem n3 : Tryz.f93.body.isNone = true := by kernel_rfl
theorem n4 : Go.Extern.findNext Tryz.f93 = none := by kernel_rfl
theorem n5 : Go.Extern.find Tryz.f93 = some (fun args => ReflectliteValue.unpack (args.getD 0 (.tuple #[]))) := by kernel_rfl
theorem aEZ : (Tryz.f94.name == "runtime.NumGoroutine") = false := by kernel_rfl
theorem aE0 : Tryz.f94.body.isNone = true := by kernel_rfl
theorem aE1 : Go.Extern.findNext Tryz.f94 = none := by kernel_rfl
theorem aE2 : Go.Extern.find Tryz.f94 = some (ReflectliteValue.methodAny (ReflectliteValue.valueError "reflectlite.Value.Type" 0) (fun t _ _ _ => ReflectliteType.toType t)) := by kernel_rfl
theorem aA3 : (Tryz.f95.name == "runtime.NumGoroutine") = false := by kernel_rfl
theorem aA4 : Tryz.f95.body.isNone = true := by kernel_rfl
theorem aA5 : Go.Extern.findNext Tryz.f95 = none := by kernel_rfl
theorem aA6 : Go.Extern.find Tryz.f95 = some (ReflectliteValue.method (ReflectliteValue.valueError "reflectlite.Value.IsNil" 0) ReflectliteValue.isNil) := by kernel_rfl
theorem pO : (Tryz.f97.name == "runtime.NumGoroutine") = false := by kernel_rfl
theorem pP : Tryz.f97.body.isNone = true := by kernel_rfl
theorem pQ : Go.Extern.findNext Tryz.f97 = none := by kernel_rfl
theorem pR : Go.Extern.find Tryz.f97 = some ReflectliteType.typeOf := by kernel_rfl
theorem aF3 : (Tryz.f156.name == "runtime.NumGoroutine") = false := by kernel_rfl
theorem aF4 : Tryz.f156.body.isNone = true := by kernel_rfl
theorem aF5 : Go.Extern.findNext Tryz.f156 = none := by kernel_rfl
theorem aF6 : Go.Extern.find Tryz.f156 = some (ReflectliteValue.method (ReflectliteValue.valueError "reflectlite.Value.Elem" 0) ReflectliteValue.elem) := by kernel_rfl
theorem aOV : (Tryz.f157.name == "runtime.NumGoroutine") = false := by kernel_rfl
theorem aOW : Tryz.f157.body.isNone = true := by kernel_rfl
theorem aOX : Go.Extern.findNext Tryz.f157 = none := by kernel_rfl
theorem aOY : Go.Extern.find Tryz.f157 = some ReflectliteValue.set := by kernel_rfl
theorem tN : (Tryz.f396.name == "runtime.NumGoroutine") = false := by kernel_rfl
theorem tO : Tryz.f396.body.isNone = true := by kernel_rfl
theorem tP : Go.Extern.findNext Tryz.f396 = none := by kernel_rfl
theorem tQ : Go.Extern.find Tryz.f396 = some (ReflectliteType.abiMethod fun t => do pure (.int .u8 (← Rtype.kind t))) := by kernel_rfl
theorem w7 : (Tryz.f414.name == "runtime.NumGoroutine") = false := by kernel_rfl
theorem w8 : Tryz.f414.body.isNone = true := by kernel_rfl
theorem w9 : Go.Extern.findNext Tryz.f414 = none := by kernel_rfl
theorem xA : Go.Extern.find Tryz.f414 = some (ReflectliteType.relation "AssignableTo" ReflectliteType.assignableTo) := by kernel_rfl
theorem aL9 : (Tryz.f415.name == "runtime.NumGoroutine") = false := by kernel_rfl
theorem aMA : Tryz.f415.body.isNone = true := by kernel_rfl
theorem aMB : Go.Extern.findNext Tryz.f415 = none := by kernel_rfl
theorem aMC : Go.Extern.find Tryz.f415 = some (ReflectliteType.method fun t => do Rtype.noPackHeld "Comparable" t; pure (.bool (← typeInfo t).comparable)) := by kernel_rfl
theorem aAZ : (Tryz.f416.name == "runtime.NumGoroutine") = false := by kernel_rfl
theorem aA0 : Tryz.f416.body.isNone = true := by kernel_rfl
theorem aA1 : Go.Extern.findNext Tryz.f416 = none := by kernel_rfl
theorem aA2 : Go.Extern.find Tryz.f416 = some (ReflectliteType.method ReflectliteType.elem) := by kernel_rfl
theorem aEV : (Tryz.f417.name == "runtime.NumGoroutine") = false := by kernel_rfl
theorem aEW : Tryz.f417.body.isNone = true := by kernel_rfl
theorem aEX : Go.Extern.findNext Tryz.f417 = none := by kernel_rfl
theorem aEY : Go.Extern.find Tryz.f417 = some (ReflectliteType.relation "Implements" ReflectliteType.implements_) := by kernel_rfl
def ErrT (K : Hl) : Prop := ∃ T fz, K 0 = some (aU [.iface 265 (.agg #[hd 79])] T fz)
theorem ErrT.mono {K K' : Hl} (h : ErrT K) (le : K.le K') : ErrT K' := let ⟨T, fz, h⟩ := h; ⟨T, fz, le _ _ h⟩
theorem mG {w0 w : World} {F K : Hl} {L : List Asn} {b : Nat} {v : Value} {T : TypeId} (i : In w0 F K L w) (h : Hs (pt b (aU [v] T)) L) : w.cell? ⟨b, 0, none⟩ = some v ∧ w.frozen? ⟨b, 0, none⟩ = false := by
 have := (Sees.own (K := K) h).at i;exact ⟨n8 this rfl, by simp [World.frozen?, this]⟩
theorem vL {w0 w : World} {F K : Hl} {L L' : List Asn} {b : Nat} {v v' : Value} {T : TypeId} (i : In w0 F K L w) (hT : Fnd (pt b (aU [v] T)) (pt b (aU [v'] T)) L L') : In w0 F K L' (w.setCell ⟨b, 0, none⟩ v') := by
 have hb := i.mem hT;have hlt : b < w.heap.size := (Array.getElem?_eq_some_iff.1 hb).1;have e : w.setCell ⟨b, 0, none⟩ v' = { w with heap := (w.setCell ⟨b, 0, none⟩ v').heap } := by
  unfold World.setCell; rfl
 rw [e];refine i.writeAt hT (by simp [World.setCell]) ?_ ?_
 ·show (w.heap.modify b _)[b]? = _
  rw [Array.getElem?_modify, if_pos rfl, hb]; rfl
 ·intro x hx;exact RowKit.Below.heap_setCell w ⟨b, 0, none⟩ v' x hx
theorem aIZ (e : Nat) (t bv : Nat) (old : Value) (K : Hl) : Sp Tryz.prog 96 [.iface 118 (ptr e), .iface 120 (ptr t), .agg #[hd 120, ptr bv, .int .u64 150], .iface 265 (.agg #[hd 118])] K [pt bv (aU [ptr t] 120), pt t (aU [old] 118)] (Ret fun r K' L' => r = .bool true ∧ K' = K ∧ L' = [pt t (aU [(ptr e)] 118)]) := by
 refine bB Tryz.func96 rfl Tryz.ntmps96 rfl rfl fun F w => ?_
 refine aI (aB ?_);refine ol_s (eM rfl rfl) rfl ?_;rintro _ K _ ⟨b6, rfl, rfl, rfl⟩ -;refine aA (aF rfl) rfl ?_;refine aG (aE ?_);refine bF ?_;refine eK (fun (u : Unit) => True) (fun _ => [(0, .iface 118 (ptr e)), (1, .iface 120 (ptr t)), (3, .iface 265 (.agg #[hd 118])), (6, ptr b6)]) (fun _ => K) (fun _ => [pt b6 (aU [hd 120, ptr bv, .int .u64 150] 188), pt bv (aU [ptr t] 120), pt t (aU [old] 118)]) (fun _ => 0) () trivial (.cons 0 rfl (.cons 1 rfl (.cons 3 rfl (.cons 6 rfl .nil)))) rfl (fun _ h => h) ?_;intro _ _;refine bF (aI ?_);refine aI (aB ?_);refine aA (aC rfl) rfl ?_;refine aA (j5 rfl rfl Tryz.func97 pO pP pQ pR (fun w _ => aIS _ w)) rfl ?_;refine aA (aC rfl) rfl ?_;refine aA (dW rfl rfl (jO _) Tryz.func414 w7 w8 w9 xA (fun w _ => xB w)) rfl ?_;refine aG (aE ?_);refine eS rfl ?_;refine aI (aB ?_);refine aA (bW iP rfl aM rfl rfl) rfl ?_;refine aA (j5 rfl rfl Tryz.func156 aF3 aF4 aF5 aF6 (fun w j => aJV _ _ w (mG j (.there .here)).1)) rfl ?_;refine aA (aC rfl) rfl ?_;refine ol_s (wH (N := fun v K' L' => ∃ bn, v = .agg #[hd 118, ptr bn, .int .u64 150] ∧ K' = K ∧ L' = [pt bn (aU [(ptr e)] 118), pt b6 (aU [hd 120, ptr bv, .int .u64 150] 188), pt bv (aU [ptr t] 120), pt t (aU [old] 118)]) rfl rfl Tryz.func93 nZ n3 n4 n5 (fun w j => ⟨_, _, K, _, aES e w, ⟨_, rfl, rfl, rfl⟩, Hl.le_refl _, j.alloc _⟩)) rfl ?_;rintro _ K _ ⟨bn, rfl, rfl, rfl⟩ -;refine ol_s (wH (N := fun v K' L' => v = .tuple #[] ∧ K' = K ∧ L' = [pt bn (aU [(ptr e)] 118), pt b6 (aU [hd 120, ptr bv, .int .u64 150] 188), pt bv (aU [ptr t] 120), pt t (aU [(ptr e)] 118)]) rfl rfl Tryz.func157 aOV aOW aOX aOY (fun w j => ⟨_, _, K, _, aPW ⟨t, 0, none⟩ ⟨bn, 0, none⟩ e old w (mG j .here).1 (mG j (.there (.there (.there .here)))).1 (mG j (.there (.there (.there .here)))).2, ⟨rfl, rfl, rfl⟩, Hl.le_refl _, vL j (.there (.there (.there .here)))⟩)) rfl ?_;rintro _ K _ ⟨rfl, rfl, rfl⟩ -;refine aG (aE ?_);refine aI (aB ?_);refine aA (aF rfl) rfl ?_;refine aG (aE ?_);refine bM ?_;refine bC ?_;refine bQ ?_;refine bC ?_;refine bQ ?_;refine aO (.cons (.there (.there (.there .here))) .nil) ?_;refine bJ rfl rfl (Hl.le_refl _) ?_;exact ⟨_, rfl, rfl, rfl, rfl⟩
theorem aMH (e : Int) (t bv : Nat) (old : Value) (K : Hl) : Sp Tryz.prog 96 [.iface 30 (i64 e), .iface 124 (ptr t), .agg #[hd 124, ptr bv, .int .u64 150], .iface 265 (.agg #[hd 30])] K [pt bv (aU [ptr t] 124), pt t (aU [old] 30)] (Ret fun r K' L' => r = .bool true ∧ K' = K ∧ L' = [pt t (aU [(i64 e)] 30)]) := by
 refine bB Tryz.func96 rfl Tryz.ntmps96 rfl rfl fun F w => ?_
 refine aI (aB ?_);refine ol_s (eM rfl rfl) rfl ?_;rintro _ K _ ⟨b6, rfl, rfl, rfl⟩ -;refine aA (aF rfl) rfl ?_;refine aG (aE ?_);refine bF ?_;refine eK (fun (u : Unit) => True) (fun _ => [(0, .iface 30 (i64 e)), (1, .iface 124 (ptr t)), (3, .iface 265 (.agg #[hd 30])), (6, ptr b6)]) (fun _ => K) (fun _ => [pt b6 (aU [hd 124, ptr bv, .int .u64 150] 188), pt bv (aU [ptr t] 124), pt t (aU [old] 30)]) (fun _ => 0) () trivial (.cons 0 rfl (.cons 1 rfl (.cons 3 rfl (.cons 6 rfl .nil)))) rfl (fun _ h => h) ?_;intro _ _;refine bF (aI ?_);refine aI (aB ?_);refine aA (aC rfl) rfl ?_;refine aA (j5 rfl rfl Tryz.func97 pO pP pQ pR (fun w _ => sR _ w)) rfl ?_;refine aA (aC rfl) rfl ?_;refine aA (dW rfl rfl (jO _) Tryz.func414 w7 w8 w9 xA (fun w _ => y9 w)) rfl ?_;refine aG (aE ?_);refine eS rfl ?_;refine aI (aB ?_);refine aA (bW iP rfl aM rfl rfl) rfl ?_;refine aA (j5 rfl rfl Tryz.func156 aF3 aF4 aF5 aF6 (fun w j => aJW _ _ w (mG j (.there .here)).1)) rfl ?_;refine aA (aC rfl) rfl ?_;refine ol_s (wH (N := fun v K' L' => ∃ bn, v = .agg #[hd 30, ptr bn, .int .u64 130] ∧ K' = K ∧ L' = [pt bn (aU [(i64 e)] 30), pt b6 (aU [hd 124, ptr bv, .int .u64 150] 188), pt bv (aU [ptr t] 124), pt t (aU [old] 30)]) rfl rfl Tryz.func93 nZ n3 n4 n5 (fun w j => ⟨_, _, K, _, aIU e w, ⟨_, rfl, rfl, rfl⟩, Hl.le_refl _, j.alloc _⟩)) rfl ?_;rintro _ K _ ⟨bn, rfl, rfl, rfl⟩ -;refine ol_s (wH (N := fun v K' L' => v = .tuple #[] ∧ K' = K ∧ L' = [pt bn (aU [(i64 e)] 30), pt b6 (aU [hd 124, ptr bv, .int .u64 150] 188), pt bv (aU [ptr t] 124), pt t (aU [(i64 e)] 30)]) rfl rfl Tryz.func157 aOV aOW aOX aOY (fun w j => ⟨_, _, K, _, aQ1 ⟨t, 0, none⟩ ⟨bn, 0, none⟩ e old w (mG j .here).1 (mG j (.there (.there (.there .here)))).1 (mG j (.there (.there (.there .here)))).2, ⟨rfl, rfl, rfl⟩, Hl.le_refl _, vL j (.there (.there (.there .here)))⟩)) rfl ?_;rintro _ K _ ⟨rfl, rfl, rfl⟩ -;refine aG (aE ?_);refine aI (aB ?_);refine aA (aF rfl) rfl ?_;refine aG (aE ?_);refine bM ?_;refine bC ?_;refine bQ ?_;refine bC ?_;refine bQ ?_;refine aO (.cons (.there (.there (.there .here))) .nil) ?_;refine bJ rfl rfl (Hl.le_refl _) ?_;exact ⟨_, rfl, rfl, rfl, rfl⟩
theorem aO4 (e : Int) (t bv : Nat) (old : Value) (K : Hl) : Sp Tryz.prog 96 [.iface 30 (i64 e), .iface 120 (ptr t), .agg #[hd 120, ptr bv, .int .u64 150], .iface 265 (.agg #[hd 118])] K [pt bv (aU [ptr t] 120), pt t (aU [old] 118)] (Ret fun r K' L' => r = .bool false ∧ K' = K ∧ L' = [pt t (aU [old] 118)]) := by
 refine bB Tryz.func96 rfl Tryz.ntmps96 rfl rfl fun F w => ?_
 refine aI (aB ?_);refine ol_s (eM rfl rfl) rfl ?_;rintro _ K _ ⟨b6, rfl, rfl, rfl⟩ -;refine aA (aF rfl) rfl ?_;refine aG (aE ?_);refine bF ?_;refine eK (fun (u : Unit) => True) (fun _ => [(0, .iface 30 (i64 e)), (1, .iface 120 (ptr t)), (3, .iface 265 (.agg #[hd 118])), (6, ptr b6)]) (fun _ => K) (fun _ => [pt b6 (aU [hd 120, ptr bv, .int .u64 150] 188), pt bv (aU [ptr t] 120), pt t (aU [old] 118)]) (fun _ => 0) () trivial (.cons 0 rfl (.cons 1 rfl (.cons 3 rfl (.cons 6 rfl .nil)))) rfl (fun _ h => h) ?_;intro _ _;refine bF (aI ?_);refine aI (aB ?_);refine aA (aC rfl) rfl ?_;refine aA (j5 rfl rfl Tryz.func97 pO pP pQ pR (fun w _ => sR _ w)) rfl ?_;refine aA (aC rfl) rfl ?_;refine aA (dW rfl rfl (jO _) Tryz.func414 w7 w8 w9 xA (fun w _ => sS w)) rfl ?_;refine aG (aE ?_);refine cQ rfl ?_;refine a6 ?_;refine aE (aI ?_);refine aI (aB ?_);refine aA (aC rfl) rfl ?_;refine aA (aBJ rfl (aPN _)) rfl ?_;refine aA (aC rfl) rfl ?_;refine aA (aR rfl rfl) rfl ?_;refine aA (aR rfl rfl) rfl ?_;refine aA (aF rfl) rfl ?_;refine aA (aF rfl) rfl ?_;refine aG (aE ?_);refine aI (aB ?_);refine aA (aC rfl) rfl ?_;refine aA (aC rfl) rfl ?_;refine aQ rfl rfl rfl ?_;refine aQ rfl rfl rfl ?_;refine aQ rfl rfl rfl ?_;refine aA (a8 rfl rfl) rfl ?_;refine aG (aE ?_);refine cQ rfl ?_;refine a6 ?_;refine aE (aI ?_);refine aB ?_;refine aA (aC rfl) rfl ?_;refine aG (aE ?_);refine bF (aI ?_);refine aB ?_;refine aA (aBJ rfl (aD4 _)) rfl ?_;refine aA (aR rfl rfl) rfl ?_;refine aA (aR rfl rfl) rfl ?_;refine aG (aE ?_);refine cQ rfl ?_;refine aI (aB ?_);refine aA (aBJ rfl (aB1 _)) rfl ?_;refine aA (aR rfl rfl) rfl ?_;refine aA (aR rfl rfl) rfl ?_;refine aG (aE ?_);refine cQ rfl ?_;refine aI (aB ?_);refine aA (aF rfl) rfl ?_;refine aG (aE ?_);refine aI (aB ?_);refine aA (aF rfl) rfl ?_;refine aG (aE ?_);refine bM ?_;refine bQ ?_;refine bQ ?_;refine bC ?_;refine bQ ?_;refine aO (.cons (.there (.there .here)) .nil) ?_;refine bJ rfl rfl (Hl.le_refl _) ?_;exact ⟨_, rfl, rfl, rfl, rfl⟩
theorem aQH (e : Nat) (t : Nat) (old : Value) (K : Hl) (hE : ErrT K) : Sp Tryz.prog 55 [.iface 118 (ptr e), .iface 120 (ptr t)] K [pt t (aU [old] 118)] (Ret fun r K' L' => r = .bool true ∧ K' = K ∧ L' = [pt t (aU [ptr e] 118)]) := by
 obtain ⟨ET, Efz, hE⟩ := hE;refine bB Tryz.func55 rfl Tryz.ntmps55 rfl rfl fun F w => ?_
 refine aI (aB ?_);refine aA (aF rfl) rfl ?_;refine aG (aE ?_);refine aI (aI ?_);refine aB ?_;refine aA (aC rfl) rfl ?_;refine aA (eT Tryz.underlying79 rfl rfl) rfl ?_;refine aG (aE ?_);refine cQ rfl ?_;refine a6 ?_;refine aE (aI ?_);refine aI (aB ?_);refine aA (aC rfl) rfl ?_;refine aA (eT Tryz.underlying20 rfl rfl) rfl ?_;refine aG (aE ?_);refine cQ rfl ?_;refine a6 ?_;refine aE (aI ?_);refine aB ?_;refine aA (aC rfl) rfl ?_;refine ol_s (wH (N := fun v K' L' => ∃ bv, v = .agg #[hd 120, ptr bv, .int .u64 150] ∧ K' = K ∧ L' = [pt bv (aU [ptr t] 120), pt t (aU [old] 118)]) rfl rfl Tryz.func93 nZ n3 n4 n5 (fun w j => ⟨_, _, K, _, w6 t w, ⟨_, rfl, rfl, rfl⟩, Hl.le_refl _, j.alloc _⟩)) rfl ?_;rintro _ K _ ⟨bv, rfl, rfl, rfl⟩ -;refine ol_s (cO aL5) rfl ?_;rintro _ K _ ⟨b5, rfl, rfl, rfl⟩ -;refine bR (cH iP rfl rfl rfl a7 (by first | (simp [Value.oneCell']; done) | exact fun c hc => El.one _ _ c hc) (.cons (.cons (.cons .nil))) (by intro j hj; simp)) ?_;rintro _ K _ ⟨rfl, rfl⟩ -;refine aG (aE ?_);refine aI (aB ?_);refine aA (bW iP rfl aM rfl rfl) rfl ?_;refine aA (j5 rfl rfl Tryz.func94 aEZ aE0 aE1 aE2 (fun w _ => aF1 _ w)) rfl ?_;refine aA (aF rfl) rfl ?_;refine aG (aE ?_);refine aI (aI ?_);refine aB ?_;refine aA (aC rfl) rfl ?_;refine aA (dW rfl rfl (kR _) Tryz.func396 tN tO tP tQ (fun w _ => aFL w)) rfl ?_;refine aA (fO rfl rfl) rfl ?_;refine aA (aC rfl) rfl ?_;refine aT rfl rfl ?_;refine aA (bW iP rfl aM rfl rfl) rfl ?_;refine aT rfl rfl ?_;refine aA (j5 rfl rfl Tryz.func95 aA3 aA4 aA5 aA6 (fun w j => aBT _ ⟨t, 0, none⟩ w (mG j (.there .here)).1)) rfl ?_;refine aA (a8 rfl rfl) rfl ?_;refine aG (aE ?_);refine cQ rfl ?_;refine a6 ?_;refine aE (aI ?_);refine aB ?_;refine aA (aC rfl) rfl ?_;refine aA (dW rfl rfl (rI _) Tryz.func416 aAZ aA0 aA1 aA2 (fun w _ => aE9 w)) rfl ?_;refine aA (aF rfl) rfl ?_;refine aG (aE ?_);refine aI (aI ?_);refine aB ?_;refine aA (aC rfl) rfl ?_;refine aA (dW rfl rfl (kR _) Tryz.func396 tN tO tP tQ (fun w _ => aFK w)) rfl ?_;refine aA (fO rfl rfl) rfl ?_;refine aA (aC rfl) rfl ?_;refine aT rfl rfl ?_;refine aA (aC rfl) rfl ?_;refine aT rfl rfl ?_;refine aA (aK aLZ rfl (.known hE) rfl) rfl ?_;refine aT rfl rfl ?_;refine aA (dW rfl rfl (kQ _) Tryz.func417 aEV aEW aEX aEY (fun w _ => qO w)) rfl ?_;refine aT rfl rfl ?_;refine aA (by first | exact dM rfl | exact dU rfl) rfl ?_;refine aA (bH rfl rfl) rfl ?_;refine aG (aE ?_);refine cQ rfl ?_;refine a6 ?_;refine aE (aI ?_);refine aB ?_;refine aA (aC rfl) rfl ?_;refine aA (aC rfl) rfl ?_;refine aA (bW iP rfl aM rfl rfl) rfl ?_;refine aA (aC rfl) rfl ?_;refine bD rfl rfl (aIZ e t bv old _) (.cons (.there .here) (.cons (.there .here) .nil)) rfl ?_;rintro _ K _ ⟨rfl, rfl, rfl⟩ -;refine aA (aF rfl) rfl ?_;refine aG (aE ?_);refine bM ?_;refine aO (.cons .here .nil) ?_;refine bJ rfl rfl (Hl.le_refl _) ?_;exact ⟨_, rfl, rfl, rfl, rfl⟩
theorem as30 (e : Int) (t : Nat) (old : Value) (K : Hl) (hE : ErrT K) : Sp Tryz.prog 55 [.iface 30 (i64 e), .iface 124 (ptr t)] K [pt t (aU [old] 30)] (Ret fun r K' L' => r = .bool true ∧ K' = K ∧ L' = [pt t (aU [i64 e] 30)]) := by
 obtain ⟨ET, Efz, hE⟩ := hE;refine bB Tryz.func55 rfl Tryz.ntmps55 rfl rfl fun F w => ?_
 refine aI (aB ?_);refine aA (aF rfl) rfl ?_;refine aG (aE ?_);refine aI (aI ?_);refine aB ?_;refine aA (aC rfl) rfl ?_;refine aA (eT Tryz.underlying79 rfl rfl) rfl ?_;refine aG (aE ?_);refine cQ rfl ?_;refine a6 ?_;refine aE (aI ?_);refine aI (aB ?_);refine aA (aC rfl) rfl ?_;refine aA (eT Tryz.underlying20 rfl rfl) rfl ?_;refine aG (aE ?_);refine cQ rfl ?_;refine a6 ?_;refine aE (aI ?_);refine aB ?_;refine aA (aC rfl) rfl ?_;refine ol_s (wH (N := fun v K' L' => ∃ bv, v = .agg #[hd 124, ptr bv, .int .u64 150] ∧ K' = K ∧ L' = [pt bv (aU [ptr t] 124), pt t (aU [old] 30)]) rfl rfl Tryz.func93 nZ n3 n4 n5 (fun w j => ⟨_, _, K, _, aET t w, ⟨_, rfl, rfl, rfl⟩, Hl.le_refl _, j.alloc _⟩)) rfl ?_;rintro _ K _ ⟨bv, rfl, rfl, rfl⟩ -;refine ol_s (cO aL5) rfl ?_;rintro _ K _ ⟨b5, rfl, rfl, rfl⟩ -;refine bR (cH iP rfl rfl rfl a7 (by first | (simp [Value.oneCell']; done) | exact fun c hc => El.one _ _ c hc) (.cons (.cons (.cons .nil))) (by intro j hj; simp)) ?_;rintro _ K _ ⟨rfl, rfl⟩ -;refine aG (aE ?_);refine aI (aB ?_);refine aA (bW iP rfl aM rfl rfl) rfl ?_;refine aA (j5 rfl rfl Tryz.func94 aEZ aE0 aE1 aE2 (fun w _ => aNU _ w)) rfl ?_;refine aA (aF rfl) rfl ?_;refine aG (aE ?_);refine aI (aI ?_);refine aB ?_;refine aA (aC rfl) rfl ?_;refine aA (dW rfl rfl (kR _) Tryz.func396 tN tO tP tQ (fun w _ => aMZ w)) rfl ?_;refine aA (fO rfl rfl) rfl ?_;refine aA (aC rfl) rfl ?_;refine aT rfl rfl ?_;refine aA (bW iP rfl aM rfl rfl) rfl ?_;refine aT rfl rfl ?_;refine aA (j5 rfl rfl Tryz.func95 aA3 aA4 aA5 aA6 (fun w j => aJ9 _ ⟨t, 0, none⟩ w (mG j (.there .here)).1)) rfl ?_;refine aA (a8 rfl rfl) rfl ?_;refine aG (aE ?_);refine cQ rfl ?_;refine a6 ?_;refine aE (aI ?_);refine aB ?_;refine aA (aC rfl) rfl ?_;refine aA (dW rfl rfl (rI _) Tryz.func416 aAZ aA0 aA1 aA2 (fun w _ => aMQ w)) rfl ?_;refine aA (aF rfl) rfl ?_;refine aG (aE ?_);refine aI (aI ?_);refine aB ?_;refine aA (aC rfl) rfl ?_;refine aA (dW rfl rfl (kR _) Tryz.func396 tN tO tP tQ (fun w _ => aPK w)) rfl ?_;refine aA (fO rfl rfl) rfl ?_;refine aA (aC rfl) rfl ?_;refine aT rfl rfl ?_;refine aA (aC rfl) rfl ?_;refine aT rfl rfl ?_;refine aA (aK aLZ rfl (.known hE) rfl) rfl ?_;refine aT rfl rfl ?_;refine aA (dW rfl rfl (kQ _) Tryz.func417 aEV aEW aEX aEY (fun w _ => zX w)) rfl ?_;refine aT rfl rfl ?_;refine aA (by first | exact dM rfl | exact dU rfl) rfl ?_;refine aA (bH rfl rfl) rfl ?_;refine aG (aE ?_);refine cQ rfl ?_;refine a6 ?_;refine aE (aI ?_);refine aB ?_;refine aA (aC rfl) rfl ?_;refine aA (aC rfl) rfl ?_;refine aA (bW iP rfl aM rfl rfl) rfl ?_;refine aA (aC rfl) rfl ?_;refine bD rfl rfl (aMH e t bv old _) (.cons (.there .here) (.cons (.there .here) .nil)) rfl ?_;rintro _ K _ ⟨rfl, rfl, rfl⟩ -;refine aA (aF rfl) rfl ?_;refine aG (aE ?_);refine bM ?_;refine aO (.cons .here .nil) ?_;refine bJ rfl rfl (Hl.le_refl _) ?_;exact ⟨_, rfl, rfl, rfl, rfl⟩
theorem aO3 (e : Int) (t : Nat) (old : Value) (K : Hl) (hE : ErrT K) : Sp Tryz.prog 55 [.iface 30 (i64 e), .iface 120 (ptr t)] K [pt t (aU [old] 118)] (Ret fun r K' L' => r = .bool false ∧ K' = K ∧ L' = [pt t (aU [old] 118)]) := by
 obtain ⟨ET, Efz, hE⟩ := hE;refine bB Tryz.func55 rfl Tryz.ntmps55 rfl rfl fun F w => ?_
 refine aI (aB ?_);refine aA (aF rfl) rfl ?_;refine aG (aE ?_);refine aI (aI ?_);refine aB ?_;refine aA (aC rfl) rfl ?_;refine aA (eT Tryz.underlying79 rfl rfl) rfl ?_;refine aG (aE ?_);refine cQ rfl ?_;refine a6 ?_;refine aE (aI ?_);refine aI (aB ?_);refine aA (aC rfl) rfl ?_;refine aA (eT Tryz.underlying20 rfl rfl) rfl ?_;refine aG (aE ?_);refine cQ rfl ?_;refine a6 ?_;refine aE (aI ?_);refine aB ?_;refine aA (aC rfl) rfl ?_;refine ol_s (wH (N := fun v K' L' => ∃ bv, v = .agg #[hd 120, ptr bv, .int .u64 150] ∧ K' = K ∧ L' = [pt bv (aU [ptr t] 120), pt t (aU [old] 118)]) rfl rfl Tryz.func93 nZ n3 n4 n5 (fun w j => ⟨_, _, K, _, w6 t w, ⟨_, rfl, rfl, rfl⟩, Hl.le_refl _, j.alloc _⟩)) rfl ?_;rintro _ K _ ⟨bv, rfl, rfl, rfl⟩ -;refine ol_s (cO aL5) rfl ?_;rintro _ K _ ⟨b5, rfl, rfl, rfl⟩ -;refine bR (cH iP rfl rfl rfl a7 (by first | (simp [Value.oneCell']; done) | exact fun c hc => El.one _ _ c hc) (.cons (.cons (.cons .nil))) (by intro j hj; simp)) ?_;rintro _ K _ ⟨rfl, rfl⟩ -;refine aG (aE ?_);refine aI (aB ?_);refine aA (bW iP rfl aM rfl rfl) rfl ?_;refine aA (j5 rfl rfl Tryz.func94 aEZ aE0 aE1 aE2 (fun w _ => aF1 _ w)) rfl ?_;refine aA (aF rfl) rfl ?_;refine aG (aE ?_);refine aI (aI ?_);refine aB ?_;refine aA (aC rfl) rfl ?_;refine aA (dW rfl rfl (kR _) Tryz.func396 tN tO tP tQ (fun w _ => aFL w)) rfl ?_;refine aA (fO rfl rfl) rfl ?_;refine aA (aC rfl) rfl ?_;refine aT rfl rfl ?_;refine aA (bW iP rfl aM rfl rfl) rfl ?_;refine aT rfl rfl ?_;refine aA (j5 rfl rfl Tryz.func95 aA3 aA4 aA5 aA6 (fun w j => aBT _ ⟨t, 0, none⟩ w (mG j (.there .here)).1)) rfl ?_;refine aA (a8 rfl rfl) rfl ?_;refine aG (aE ?_);refine cQ rfl ?_;refine a6 ?_;refine aE (aI ?_);refine aB ?_;refine aA (aC rfl) rfl ?_;refine aA (dW rfl rfl (rI _) Tryz.func416 aAZ aA0 aA1 aA2 (fun w _ => aE9 w)) rfl ?_;refine aA (aF rfl) rfl ?_;refine aG (aE ?_);refine aI (aI ?_);refine aB ?_;refine aA (aC rfl) rfl ?_;refine aA (dW rfl rfl (kR _) Tryz.func396 tN tO tP tQ (fun w _ => aFK w)) rfl ?_;refine aA (fO rfl rfl) rfl ?_;refine aA (aC rfl) rfl ?_;refine aT rfl rfl ?_;refine aA (aC rfl) rfl ?_;refine aT rfl rfl ?_;refine aA (aK aLZ rfl (.known hE) rfl) rfl ?_;refine aT rfl rfl ?_;refine aA (dW rfl rfl (kQ _) Tryz.func417 aEV aEW aEX aEY (fun w _ => qO w)) rfl ?_;refine aT rfl rfl ?_;refine aA (by first | exact dM rfl | exact dU rfl) rfl ?_;refine aA (bH rfl rfl) rfl ?_;refine aG (aE ?_);refine cQ rfl ?_;refine a6 ?_;refine aE (aI ?_);refine aB ?_;refine aA (aC rfl) rfl ?_;refine aA (aC rfl) rfl ?_;refine aA (bW iP rfl aM rfl rfl) rfl ?_;refine aA (aC rfl) rfl ?_;refine bD rfl rfl (aO4 e t bv old _) (.cons (.there .here) (.cons (.there .here) .nil)) rfl ?_;rintro _ K _ ⟨rfl, rfl, rfl⟩ -;refine aA (aF rfl) rfl ?_;refine aG (aE ?_);refine bM ?_;refine aO (.cons .here .nil) ?_;refine bJ rfl rfl (Hl.le_refl _) ?_;exact ⟨_, rfl, rfl, rfl, rfl⟩
theorem tC {K : Hl} {L : List Asn} {b : Nat} {o : Obj} {A : Asn} (h : Sees K L b o) : Sees K (A :: L) b o := by
 cases h with
 | own f => exact .own (.there f)
 | known h => exact .known h
theorem aC4 (fb : Nat) (e at_ : Int) (K : Hl) (L : List Asn) (hs : Sees K L fb (aU [i64 e, i64 at_] 123)) : Sp Tryz.prog 407 [ptr fb] K L (Ret fun v K' L' => v = .iface 30 (i64 e) ∧ K' = K ∧ L' = L) := by
 refine bB Tryz.func407 rfl Tryz.ntmps407 rfl rfl fun F w => ?_
 refine aI (aB ?_);refine aA (aF rfl) rfl ?_;refine aG (aE ?_);refine aI (aB ?_);refine aA (aC rfl) rfl ?_;refine aA bS rfl ?_;refine aA (aD (o' := 0) tF rfl rfl) rfl ?_;refine aA (aK ts30 rfl hs rfl) rfl ?_;refine aA (cZ Tryz.underlying30 (fun _ h => by cases h) rfl) rfl ?_;refine aA (aF rfl) rfl ?_;refine aG (aE ?_);refine bM ?_;refine bJ rfl rfl (Hl.le_refl _) ?_;exact ⟨_, rfl, rfl, rfl, rfl⟩
theorem aQK (fb : Nat) (e at_ : Int) (K : Hl) (L : List Asn) (hs : Sees K L fb (aU [i64 e, i64 at_] 123)) : Sp Tryz.prog 98 [.iface 118 (ptr fb), .iface 30 (i64 e), .bool true] K L (Ret fun v K' L' => v = .bool true ∧ K' = K ∧ L' = L) := by
 refine bB Tryz.func98 rfl Tryz.ntmps98 rfl rfl fun F w => ?_
 refine aI (aB ?_);refine aA (aF rfl) rfl ?_;refine aG (aE ?_);refine bF ?_;refine eK (fun (u : Bool) => True) (fun u => [(0, if u = true then .iface 118 (ptr fb) else .iface 30 (i64 e)), (1, .iface 30 (i64 e)), (2, .bool true)]) (fun _ => K) (fun _ => L) (fun u => if u = true then 1 else 0) true trivial (.cons 0 rfl (.cons 1 rfl (.cons 2 rfl .nil))) rfl (fun _ h => h) ?_;intro u _;refine bF ?_;cases u
 ·
  show T _ _ [(0, .iface 30 (i64 e)), (1, .iface 30 (i64 e)), (2, .bool true)] _ _ _
  refine aI (aI ?_);refine aB ?_;refine aA (aC rfl) rfl ?_;refine aA (aC rfl) rfl ?_;refine aT rfl rfl ?_;refine aA (aC rfl) rfl ?_;refine aT rfl rfl ?_;refine aA (aC rfl) rfl ?_;refine aT rfl rfl ?_;refine aA (aDN rfl rfl (fun _ => rfl) (fun w => eq30 e w)) rfl ?_;refine aA (bH rfl rfl) rfl ?_;refine aG (aE ?_);refine eS rfl ?_;refine aI (aB ?_);refine aA (aF rfl) rfl ?_;refine aG (aE ?_);refine bM ?_;refine bC ?_;refine bQ ?_;refine bC ?_;refine bQ ?_;refine bJ rfl rfl (Hl.le_refl _) ?_;exact ⟨_, rfl, rfl, rfl, rfl⟩
 ·
  show T _ _ [(0, .iface 118 (ptr fb)), (1, .iface 30 (i64 e)), (2, .bool true)] _ _ _
  refine aI (aI ?_);refine aB ?_;refine aA (aC rfl) rfl ?_;refine aA (aC rfl) rfl ?_;refine aT rfl rfl ?_;refine aA (aC rfl) rfl ?_;refine aT rfl rfl ?_;refine aA (aC rfl) rfl ?_;refine aT rfl rfl ?_;refine aA (aDN rfl rfl (fun _ => rfl) (fun w => aJX fb e w)) rfl ?_;refine aA (bH rfl rfl) rfl ?_;refine aG (aE ?_);refine cQ rfl ?_;refine a6 ?_;refine aE (aI ?_);refine aI (aB ?_);refine aA (aC rfl) rfl ?_;refine aA (aBJ rfl (aM3 _)) rfl ?_;refine aA (aC rfl) rfl ?_;refine aA (aR rfl rfl) rfl ?_;refine aA (aR rfl rfl) rfl ?_;refine aA (aF rfl) rfl ?_;refine aA (aF rfl) rfl ?_;refine aG (aE ?_);refine aI (aB ?_);refine aA (aC rfl) rfl ?_;refine aA (aC rfl) rfl ?_;refine aQ rfl rfl rfl ?_;refine aQ rfl rfl rfl ?_;refine aQ rfl rfl rfl ?_;refine aA (a8 rfl rfl) rfl ?_;refine aG (aE ?_);refine cQ rfl ?_;refine a6 ?_;refine aE (aI ?_);refine aB ?_;refine aA (aC rfl) rfl ?_;refine aG (aE ?_);refine bF (aI ?_);refine aB ?_;refine aA (aBJ rfl (zW _)) rfl ?_;refine aA (aR rfl rfl) rfl ?_;refine aA (aR rfl rfl) rfl ?_;refine aG (aE ?_);refine eS rfl ?_;refine aI (aB ?_);refine aA (aF rfl) rfl ?_;refine aG (aE ?_);refine aI (aB ?_);refine aA (aC rfl) rfl ?_;refine aD5 rfl rfl (aAB fb) (aC4 fb e at_ _ _ hs) (cS _) rfl ?_;rintro _ K _ ⟨rfl, rfl, rfl⟩ -;rw [List.append_nil];refine aA (aF rfl) rfl ?_;refine aG (aE ?_);refine aI (aB ?_);refine aA (aC rfl) rfl ?_;refine aA (eT Tryz.underlying79 rfl rfl) rfl ?_;refine aG (aE ?_);refine cQ rfl ?_;refine a6 ?_;refine aN (aN ?_);exact cL false trivial (by decide) (.cons 0 rfl (.cons 1 rfl (.cons 2 rfl .nil))) rfl (fun _ h => h)
end Go.Proofs
end

/-
  What the proof stands on, part 25: the logic of walks, the walks through the functions, the plain laws. Conditions: as each theorem says. (Merged and shortened by a program.)
-/
import Derived.Test.YthopmddkpdehiaaGreatDoorK15
set_option linter.unusedVariables false
set_option linter.unusedSimpArgs false
set_option maxRecDepth 4000
set_option maxHeartbeats 1000000
namespace Go
theorem gBO{p:Prop}(h:p:=by intro c hc;simp at hc;rcases hc with h|rfl|h;exact .inl (hp c h);exact .inr (.inr rfl);exact .inl (hq c h)):p:=h
theorem gBP{p:Prop}(h:p:=by intro c hc;simp at hc;rcases hc with h|rfl|h;exact .inl (hp c h);exact .inr (.inl rfl);exact .inl (hq c h)):p:=h
end Go
section
namespace Go.Syn
section
variable{s t b w:aJ}{a:Nat}{c:UInt8}
theorem aFV:∀ {w:aJ},(∀c∈w,¬(c.toNat=34∨c.toNat=92))→esc w=w
 | [],_=>rfl
 |c::w,h=>by
  have h1:=aFV (w:=w) fun x hx=>h x (by simp[hx])
  unfold esc at h1 ⊢;rw[List.flatMap_cons,h1,if_neg (h c (by simp))];rfl
end
end Go.Syn
end

/-
  What the proof stands on, part 43: the logic of walks, the walks through the functions, the plain laws. Conditions: as each theorem says. (Merged and shortened by a program.)
-/
import Derived.Test.YthopmddkpdehiaaGreatDoorK34
set_option linter.unusedVariables false
set_option linter.unusedSimpArgs false
set_option maxRecDepth 4000
set_option maxHeartbeats 1000000
section
namespace Go.Box
open Go.Syn Go.Proofs Go.SL
theorem aOK:∀ {xs ys:List fY},(xs.Pairwise fun a b=>a.1 < b.1)→(ys.Pairwise fun a b=>a.1 < b.1)→(∀x,x∈xs↔x∈ys)→xs=ys
 | [],[],_,_,_=>rfl
 | [],y::ys,_,_,h=>absurd ((h y).2 List.mem_cons_self) (by simp)
 |x::xs,[],_,_,h=>absurd ((h x).1 List.mem_cons_self) (by simp)
 |x::xs,y::ys,hx,hy,h=>by
  have hx':=List.pairwise_cons.1 hx;have hy':=List.pairwise_cons.1 hy;have e:x=y:=by
   rcases List.mem_cons.1 ((h x).1 List.mem_cons_self)with e|h1
   ·exact e
   rcases List.mem_cons.1 ((h y).2 List.mem_cons_self)with e|h2
   ·exact e.symm
   exact absurd (List.lt_trans (hx'.1 y h2) (hy'.1 x h1)) (List.lt_irrefl _)
  subst e;have e2:xs=ys:=aOK hx'.2 hy'.2 fun z=>by
   have hz:=h z;simp only[List.mem_cons]at hz
   constructor
   ·intro hm;rcases hz.1 (.inr hm)with rfl|h1
    ·exact absurd (hx'.1 _ hm) (List.lt_irrefl _)
    exact h1
   intro hm;rcases hz.2 (.inr hm)with rfl|h1
   ·exact absurd (hy'.1 _ hm) (List.lt_irrefl _)
   exact h1
  rw[e2]
theorem nI{f:DMap}{xs ys:List fY}(hx:gQ f xs)(hy:gQ f ys):xs=ys:=aOK hx.2 hy.2 fun⟨n,d⟩=>(hx.1 n d).trans (hy.1 n d).symm
end Go.Box
end

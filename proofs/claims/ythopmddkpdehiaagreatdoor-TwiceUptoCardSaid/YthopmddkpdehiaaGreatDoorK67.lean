/-
  What the proof stands on, part 69: the logic of walks, the walks through the functions, the plain laws. Conditions: as each theorem says. (Merged and shortened by a program.)
-/
import Derived.Test.YthopmddkpdehiaaGreatDoorK34
set_option linter.unusedVariables false
set_option linter.unusedSimpArgs false
set_option maxRecDepth 4000
set_option maxHeartbeats 1000000
section
namespace Go.Box
open Go.Syn Go.Proofs Go.SL
def boxF(id:aJ)(acts:List Mach.Action)(text:aJ)(f:DMap):Int×DMap:=match eY id acts text with
 | .error e=>(e,f)
 | .ok xs=>(0,after xs f)
theorem aDK{id:aJ}{acts:List Mach.Action}{text:aJ}{s:DSt}(h:Rest s)(hl:∀xs,eY id acts text=.ok xs→xs.length≤100):
  errn (iK id acts text (s.set (-1) (-1))).1=(boxF id acts text s.dur).1∧(iK id acts text (s.set (-1) (-1))).2.down=false∧∀t,kX (iK id acts text (s.set (-1) (-1))).2 t→Rest t∧t.dur=(boxF id acts text s.dur).2:=by
 rw[h.set];unfold iK boxF;cases hf:eY id acts text with
 |error e=>
  refine⟨rfl,h.down,fun t ht=>?_⟩
  unfold kX at ht;rw[if_neg (by simp[h.down]),h.set]at ht;subst ht;exact⟨h,rfl⟩
 |ok xs=>
  have:=hl xs hf;obtain⟨s',h1,h2,h3,h4,h5⟩:=aJK (xs:=xs) h.up h.coh aI;simp only[h1];refine⟨rfl,h2.down,fun t ht=>?_⟩
  unfold kX at ht;rw[if_neg (by simp[h2.down])]at ht;subst ht;rw[h.now]at h4 h5;exact⟨⟨h2.down,h3,by simp only[DSt.set];rw[h4,h5],rfl,rfl⟩,h4⟩
theorem yR(xs:List File)(f:DMap):after xs (after xs f)=after xs f:=by
 funext n
 by_cases hn:n=bM
 ·subst hn;rw[kH,kH]
 rw[lV hn,lV hn]
 by_cases h:∃x∈xs,x.1=n
 ·exact aBF h _
 rw[q9 h,lV hn]
end Go.Box
end

/-
  What the proof stands on, part 70: the logic of walks, the walks through the functions, the plain laws. Conditions: as each theorem says. (Merged and shortened by a program.)
-/
import Derived.Test.YthopmddkpdehiaaGreatDoorK36
import Derived.Test.YthopmddkpdehiaaGreatDoorK43
import Derived.Test.YthopmddkpdehiaaGreatDoorK67
set_option linter.unusedVariables false
set_option linter.unusedSimpArgs false
set_option maxRecDepth 4000
set_option maxHeartbeats 1000000
section
namespace Go.Box
open Go.Syn Go.Proofs Go.SL
theorem aV5{xs:List File}{f:DMap}{n:aJ}(hn:n≠bM)(h:(f n).isSome=true):(after xs f n).isSome=true:=by rw[lV hn];exact aGA h
theorem aWG(id:aJ)(acts:List Mach.Action)(text:aJ)(f:DMap):boxF id acts text (boxF id acts text f).2=boxF id acts text f:=by
 unfold boxF;cases eY id acts text with
 |error e=>rfl
 |ok xs=>simp only[yR]
theorem aMY{id:aJ}{acts:List Mach.Action}{text:aJ}{f:DMap}{n:aJ}(hn:n≠bM)(h:(f n).isSome=true):((boxF id acts text f).2 n).isSome=true:=by
 unfold boxF;cases eY id acts text with
 |error e=>exact h
 |ok xs=>exact aV5 hn h
theorem bQR{id:aJ}{acts:List Mach.Action}{text:aJ}{f:DMap}(h:f bM=none):(boxF id acts text f).2 bM=none:=by
 unfold boxF;cases eY id acts text with
 |error e=>exact h
 |ok xs=>exact kH (xs:=xs) (f:=f)
end Go.Box
end

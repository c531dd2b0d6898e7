/-
  What the proof stands on, part 64: the logic of walks, the walks through the functions, the plain laws. Conditions: as each theorem says. (Merged and shortened by a program.)
-/
import Derived.Test.YthopmddkpdehiaaGreatDoorK10
import Derived.Test.YthopmddkpdehiaaGreatDoorK14
import Derived.Test.YthopmddkpdehiaaGreatDoorK53
set_option linter.unusedVariables false
set_option linter.unusedSimpArgs false
set_option maxRecDepth 4000
set_option maxHeartbeats 1000000
section
attribute [local irreducible] Go.SL.T Go.SL.OL Go.SL.D Go.SL.DL Go.SL.Ev Go.SL.Ef Go.SL.EfS
namespace Go.Proofs
open Go Go.SL Go.Syn Go.Mach Go.Cmp
theorem bK3{c:Int}{n:Nat}(h:0≤c):c.tmod n=((c.toNat % n:Nat):Int):=by
 obtain⟨k,rfl⟩:=Int.eq_ofNat_of_zero_le h
 rfl
theorem aF6(c m:Int)(n:Nat)(K:Hl)(hm:m=n)(h1: -9223372036854775808≤c)(h2:c≤9223372036854775807)(hn:0 < n):Sp Tryz.prog 15 [i64 c,i64 m] K [] (Ret fun v K' L'=>∃r:Nat,v=i64 r∧r < n∧K'=K∧L'=[]):=by
 subst hm;refine a8 Tryz.func15 rfl Tryz.ntmps15 rfl rfl fun F w=>?_;refine zz5 ?_;refine gV (fun(d:Int)=>0≤d) (fun d=>[(0,i64 d),(1,i64 n)]) (fun _=>K) (fun _=>[]) ?_ ?_
 ·refine zz6 ?_;refine bK 6 rfl (fun h6=>?_) (fun h6=>?_)
  ·refine zz3 ?_;refine aA (bHG rfl aI aI) rfl ?_;refine zz2 ?_
   first|exact cN (-(c+1)) aI (.cons 0 rfl (.cons 1 rfl .nil)) rfl (fun _ h=>h)|exact cN c aI (.cons 0 rfl (.cons 1 rfl .nil)) rfl (fun _ h=>h)
  refine aW ?_
  first|exact cN (-(c+1)) aI (.cons 0 rfl (.cons 1 rfl .nil)) rfl (fun _ h=>h)|exact cN c aI (.cons 0 rfl (.cons 1 rfl .nil)) rfl (fun _ h=>h)
 intro d hd;refine zz4 ?_;refine aA (aPT rfl rfl aI) rfl ?_;refine zz5 ?_;exact⟨_,rfl,_,by rw[bK3 hd],Nat.mod_lt _ hn,rfl,rfl⟩
end Go.Proofs
end

/-
  What the proof stands on, part 57: the logic of walks, the walks through the functions, the plain laws. Conditions: as each theorem says. (Merged and shortened by a program.)
-/
import Derived.Test.YthopmddkpdehiaaGreatDoorK39
import Derived.Test.YthopmddkpdehiaaGreatDoorK53
set_option linter.unusedVariables false
set_option linter.unusedSimpArgs false
set_option maxRecDepth 4000
set_option maxHeartbeats 1000000
section
set_option maxRecDepth 100000
namespace Go.Proofs
open Go Go.SL Go.Mach Go.ChangeShapes Go.WideShapes Go.RowKit
open YthopmddkpdehiaaGreatDoor (Rows.laid_math_bits_deBruijn32tab Rows.laid_math_bits_deBruijn64tab Rows.laid_internal_strconv_uint64pow10 Rows.laid_errors_errorType)
namespace TzRow
abbrev laid4:List (String×DataW Unit):=[("math/bits.deBruijn32tab",YthopmddkpdehiaaGreatDoor.Rows.laid_math_bits_deBruijn32tab),("math/bits.deBruijn64tab",YthopmddkpdehiaaGreatDoor.Rows.laid_math_bits_deBruijn64tab),("internal/strconv.uint64pow10",YthopmddkpdehiaaGreatDoor.Rows.laid_internal_strconv_uint64pow10),("errors.errorType",YthopmddkpdehiaaGreatDoor.Rows.laid_errors_errorType)]
theorem of_laid{W:World}(hL:laidMetH Tryz.prog laid4 W)(hS:W.ShapedOpen Tryz.prog):Glob (hp W)∧ErrT (hp W):=by
 have h':laidMet Tryz.prog [("math/bits.deBruijn32tab",YthopmddkpdehiaaGreatDoor.Rows.laid_math_bits_deBruijn32tab),("math/bits.deBruijn64tab",YthopmddkpdehiaaGreatDoor.Rows.laid_math_bits_deBruijn64tab),("internal/strconv.uint64pow10",YthopmddkpdehiaaGreatDoor.Rows.laid_internal_strconv_uint64pow10)] W∧handlesMet Tryz.prog [("errors.errorType",YthopmddkpdehiaaGreatDoor.Rows.laid_errors_errorType)] W:=hL;refine⟨⟨aTZ hS,fun w le=>?_⟩,aNZ (l:=[]) h'.2⟩
 exact bKQ (Lib.tabIs_of_head (rest:=[]) bTF bPJ Tryz.underlying475 Tryz.underlying345 bJ bJ (h'.1.tail.tail)) le
theorem door_met(os:Os)(args:Array Value):laidMetH Tryz.prog laid4 ((World.doorLaid Tryz.prog 100 os).forCall (fun _ _=>0) ⟨#[],args,[]⟩).memory:=
 laidMetH_of_parts3 (fuel:=8) (laidMet_of_run' 8 bJ bJ) bJ bJ
end TzRow
end Go.Proofs
end

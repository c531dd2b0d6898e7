/-
  What the proof stands on, part 42: the logic of walks, the walks through the functions, the plain laws. Conditions: as each theorem says. (Merged and shortened by a program.)
-/
import Derived.Deep.DeepHandedRow
import Derived.Test.YthopmddkpdehiaaGreatDoorK33
import Derived.Test.YthopmddkpdehiaaGreatDoorK37
import Derived.Test.YthopmddkpdehiaaGreatDoorK38
set_option linter.unusedVariables false
set_option linter.unusedSimpArgs false
set_option maxRecDepth 4000
set_option maxHeartbeats 1000000
section
set_option maxRecDepth 100000
namespace Go.Proofs
open Go Go.SL Go.ChangeShapes Go.WideShapes Go.RowKit
namespace TzRow
abbrev laid6:List (String×DataW Unit):=[("math/bits.deBruijn32tab",YthopmddkpdehiaaGreatDoor.Rows.laid_math_bits_deBruijn32tab),("math/bits.deBruijn64tab",YthopmddkpdehiaaGreatDoor.Rows.laid_math_bits_deBruijn64tab),("internal/strconv.uint64pow10",YthopmddkpdehiaaGreatDoor.Rows.laid_internal_strconv_uint64pow10),("errors.errorType",YthopmddkpdehiaaGreatDoor.Rows.laid_errors_errorType),("strconv.ErrRange",YthopmddkpdehiaaGreatDoor.Rows.laid_strconv_ErrRange),("strconv.ErrSyntax",YthopmddkpdehiaaGreatDoor.Rows.laid_strconv_ErrSyntax)]
def bTA:List Int:=[0,1,56,2,57,49,28,3,61,58,42,50,38,29,17,4,62,47,59,36,45,43,51,22,53,39,33,30,24,18,12,5,63,55,48,27,60,41,37,16,46,35,44,21,52,32,23,11,54,26,40,15,34,20,31,10,25,14,19,9,13,8,7,6]
theorem bTD:Tryz.prog.globalNamed "math/bits.deBruijn64tab"=some 6:=by kernel_rfl
theorem bTE:(Tryz.prog.globals[6]?).map (·.type)=some 511:=by kernel_rfl
theorem of_laid6{W:World}(hL:laidMetH Tryz.prog laid6 W)(hS:W.ShapedOpen Tryz.prog):Glob (hp W)∧ErrT (hp W)∧Deb (hp W):=by
 have h':laidMet Tryz.prog [("math/bits.deBruijn32tab",YthopmddkpdehiaaGreatDoor.Rows.laid_math_bits_deBruijn32tab),("math/bits.deBruijn64tab",YthopmddkpdehiaaGreatDoor.Rows.laid_math_bits_deBruijn64tab),("internal/strconv.uint64pow10",YthopmddkpdehiaaGreatDoor.Rows.laid_internal_strconv_uint64pow10),("strconv.ErrRange",YthopmddkpdehiaaGreatDoor.Rows.laid_strconv_ErrRange),("strconv.ErrSyntax",YthopmddkpdehiaaGreatDoor.Rows.laid_strconv_ErrSyntax)] W∧handlesMet Tryz.prog [("errors.errorType",YthopmddkpdehiaaGreatDoor.Rows.laid_errors_errorType)] W:=hL;refine⟨⟨aTZ hS,fun w le=>?_⟩,aNZ (l:=[]) h'.2,?_⟩
 ·exact bKQ (Lib.tabIs_of_head (rest:=[("strconv.ErrRange",YthopmddkpdehiaaGreatDoor.Rows.laid_strconv_ErrRange),("strconv.ErrSyntax",YthopmddkpdehiaaGreatDoor.Rows.laid_strconv_ErrSyntax)]) bTF bPJ Tryz.underlying475 Tryz.underlying345 bJ bJ (h'.1.tail.tail)) le
 have ht:Lib.TabIs Tryz.prog W "math/bits.deBruijn64tab" .u8 bTA:=Lib.tabIs_of_head (rest:=[("internal/strconv.uint64pow10",YthopmddkpdehiaaGreatDoor.Rows.laid_internal_strconv_uint64pow10),("strconv.ErrRange",YthopmddkpdehiaaGreatDoor.Rows.laid_strconv_ErrRange),("strconv.ErrSyntax",YthopmddkpdehiaaGreatDoor.Rows.laid_strconv_ErrSyntax)]) bTD bTE Tryz.underlying511 Tryz.underlying5 bJ bJ h'.1.tail;unfold Lib.TabIs World.var? at ht;rw[bTD]at ht;simp only[Option.bind_some]at ht;split at ht
 ·rename_i cs T fz hw;have:=Option.some.inj ht;subst this;exact⟨_,T,fz,hw,rfl⟩
 cases ht
theorem door_met6(os:Os)(args:Array Value):laidMetH Tryz.prog laid6 ((World.doorLaid Tryz.prog 100 os).forCall (fun _ _=>0) ⟨#[],args,[]⟩).memory:=
 laidMetH_of_parts3 (fuel:=8) (laidMet_of_run' 8 bJ bJ) bJ bJ
end TzRow
end Go.Proofs
end

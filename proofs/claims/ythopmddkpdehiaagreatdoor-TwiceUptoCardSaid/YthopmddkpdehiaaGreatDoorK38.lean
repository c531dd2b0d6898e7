/-
  What the proof stands on, part 38: the logic of walks, the walks through the functions, the plain laws. Conditions: as each theorem says. (Merged and shortened by a program.)
-/
import Derived.Test.YthopmddkpdehiaaGreatDoorRows
import Derived.Lib.LaidTab
import Derived.LaidMore
import Derived.LaidHandle
import Derived.HandedShaped
import Derived.Shelf.Vars
import Derived.Stop.LaidErr
import Derived.OpenShut
import Derived.Test.YthopmddkpdehiaaGreatDoorK20
set_option linter.unusedVariables false
set_option linter.unusedSimpArgs false
set_option maxRecDepth 4000
set_option maxHeartbeats 1000000
section
set_option maxRecDepth 100000
namespace Go.Proofs
open Go Go.SL Go.Mach Go.ChangeShapes Go.WideShapes Go.RowKit
open YthopmddkpdehiaaGreatDoor (Rows.laid_math_bits_deBruijn32tab Rows.laid_math_bits_deBruijn64tab Rows.laid_internal_strconv_uint64pow10 Rows.laid_errors_errorType)
namespace TzRow
theorem own:ownKnob Tryz.prog.godebug=none:=by kernel_rfl
theorem laidOut:laidOutB Tryz.prog=true:=by kernel_rfl
theorem bTF:Tryz.prog.globalNamed "internal/strconv.uint64pow10"=some 2:=by kernel_rfl
theorem bPJ:(Tryz.prog.globals[2]?).map (·.type)=some 475:=by kernel_rfl
theorem rt:(Tryz.prog.cutTypes.find? (·.1== "internal/reflectlite.rtype")).map (·.2)=some 265:=by kernel_rfl
theorem et:Tryz.prog.globalNamed "errors.errorType"=some 0:=by kernel_rfl
theorem bRK:((List.range Tryz.prog.types.size).filter fun t=>Tryz.prog.rowNamed t [101,114,114,111,114])=[79]:=by kernel_rfl
theorem aNZ{W:World}{l:List (String×DataW Unit)}(hl:handlesMet Tryz.prog [("errors.errorType",YthopmddkpdehiaaGreatDoor.Rows.laid_errors_errorType)] W):ErrT (hp W):=by
 obtain⟨name,u,ty,e1,e2,e3,e4,e5⟩:=hl _ (List.mem_singleton.2 rfl);have en:name=[101,114,114,111,114]:=(Option.some.inj e1).symm;subst en;obtain rfl:=Option.some.inj (rt.symm.trans e2);have hm:ty∈(List.range Tryz.prog.types.size).filter fun t=>Tryz.prog.rowNamed t [101,114,114,111,114]:=List.mem_filter.2 ⟨List.mem_range.2 e3,e4⟩
 rw[bRK]at hm;obtain rfl:=List.mem_singleton.1 hm;have hh:typeHandle Tryz.prog 79=hd 79:=by kernel_rfl
 rw[hh]at e5;unfold World.var? at e5;rw[et]at e5;simp only[Option.bind_some]at e5;split at e5
 ·rename_i cs T fz hw;have:=Option.some.inj e5;subst this;exact⟨T,fz,hw⟩
 cases e5
theorem bKQ{w w':World}{nm:String}{k:IntKind}{zs:List Int}(h:Lib.TabIs Tryz.prog w nm k zs)(le:(hp w).le (hp w')):Lib.TabIs Tryz.prog w' nm k zs:=by
 unfold Lib.TabIs World.var? at*;cases hg:Tryz.prog.globalNamed nm with
 |none=>rw[hg]at h;simp at h
 |some g=>
  rw[hg]at h;simp only[Option.bind_some]at h ⊢;split at h
  ·rename_i cs T fz hw;have:=le g _ hw;simp only[hp]at this;rw[this];exact h
  cases h
theorem aTZ{W:World}(h:W.ShapedOpen Tryz.prog):∃m T fz,hp W 1=some (aZ [i64 m] T fz):=by
 obtain⟨m,hm⟩:=cell_of_shapedOpen_int (P:=Tryz.prog) (g:=1) (t:=3) (zero:= #[.int .i64 0]) (k:=.i64) h (of_decide_eq_true bJ) bJ rfl bJ bJ bJ;obtain⟨cs,hh,hs,_⟩:=h.1 1 #[.int .i64 0] 3 (of_decide_eq_true bJ) bJ;have h1:cs.size=1:=hs;refine⟨m,3,(0,0),?_⟩
 show W.heap[1]?=_
 rw[hh];have hc:cs= #[i64 m]:=by
  have:cs[0]?=some (i64 m):=by simpa[World.cell?,hh]using hm
  obtain⟨l⟩:=cs
  match l,h1,this with
  | [c],_,this=>simp at this;rw[this]
 rw[hc]
end TzRow
end Go.Proofs
end

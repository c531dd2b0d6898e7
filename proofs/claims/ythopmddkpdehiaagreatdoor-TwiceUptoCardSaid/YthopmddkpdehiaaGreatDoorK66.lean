/-
  What the proof stands on, part 68: the logic of walks, the walks through the functions, the plain laws. Conditions: as each theorem says. (Merged and shortened by a program.)
-/
import Derived.Test.YthopmddkpdehiaaGreatDoorK36
import Derived.Test.YthopmddkpdehiaaGreatDoorK42
set_option linter.unusedVariables false
set_option linter.unusedSimpArgs false
set_option maxRecDepth 4000
set_option maxHeartbeats 1000000
section
set_option maxRecDepth 100000
namespace Go.Proofs
open Go Go.SL Go.Syn Go.Mach Go.ChangeShapes Go.WideShapes Go.RowKit
namespace TzRow
abbrev bulk{H:Type}(d:DataW H):Nat:=YthopmddkpdehiaaGreatDoor.Rows.uptoBulk d
abbrev aM1{H:Type}(d:List (DataW H)):Nat:=YthopmddkpdehiaaGreatDoor.Rows.uptoBulkAll d
theorem bulk_in{H:Type}{d:DataW H}{l:List (DataW H)}(h:d∈l):bulk d≤aM1 l:=by
 induction l with
 |nil=>cases h
 |cons x r ih=>
  show _≤bulk x+aM1 r
  rcases List.mem_cons.1 h with e|e
  ·subst e;omega
  have:=ih e;omega
theorem aWK{H:Type}(l r:List (DataW H))(d:DataW H)(h:d∈l):bulk d≤bulk (.slice l r):=by
 have:=bulk_in h
 show _≤aM1 l+aM1 r+1
 omega
theorem bF4{H:Type}(s:aJ):bulk (DataW.lit (H:=H) (.string s))=s.length+1:=by simp[bulk,YthopmddkpdehiaaGreatDoor.Rows.uptoBulk]
theorem bulk_bound{H:Type}{l:List (DataW H)}(hk:YthopmddkpdehiaaGreatDoor.Rows.uptoSmall H l=true):aM1 l≤1048576:=of_decide_eq_true hk
section
variable{H:Type}{enc:TypeId×Value→H}{W:World}{base:Nat}{sp:Nat→Bool}{held:Bool}
theorem bQ4{n:Nat}{cs:List Value}{x:DataW H×List MemPlace}(h:DataW.trod enc Tryz.prog W base sp held n 34 cs=some x):∃a:Action,cs=cS.enc a∧a.2.length≤bulk x.1∧a.2.length∈x.1.weights Tryz.prog 34:=by
 obtain⟨m,hl,hf⟩:=aFB Tryz.underlying34 h;have c34:Tryz.prog.cellsOf 34=2:=by kernel_rfl
 have c9:Tryz.prog.cellsOf 9=1:=by kernel_rfl
 have c3:Tryz.prog.cellsOf 3=1:=by kernel_rfl
 rw[c34]at hl
 match cs,hl,hf with
 | [c0,c1],_,hf=>
  obtain⟨y0,h0,w0,_⟩:=hf 0 _ rfl;obtain⟨y1,h1,w1,parts,e1,e2⟩:=hf 1 _ rfl;dsimp only at h0 h1 w0 w1;rw[c3]at h0;rw[c9]at h1;obtain⟨i,k0,_⟩:=rS Tryz.underlying3 h0;obtain⟨l1,k1,k2⟩:=aVT Tryz.underlying9 h1;simp at k0 k1;subst k0 k1;refine⟨(i,l1),rfl,?_,w1 _ (by rw[k2];simp[DataW.weights])⟩
  have:=bulk_in e2;rw[k2,bF4]at this;rw[e1]
  show l1.length≤aM1 parts+1
  omega
theorem in_acts{v:Value}{d:DataW H}{p:List MemPlace}(hv:Value.okWide Tryz.prog W .any base 29 v)(h:DataW.Trod enc Tryz.prog W 0 sp held 29 v d p)(hw:∀k∈d.weights Tryz.prog 29,k≤reachBytes):
  ∃xs:List Action,Ksl cS (hp W) v xs∧(∀a∈xs,a.2.length≤bulk d)∧xs.length≤140737488355328:=by
 obtain⟨a,len,cap,rfl⟩:=okWide_slice Tryz.underlying29 hv;obtain⟨n,hf⟩:=h;have hf':DataW.trod enc Tryz.prog W 0 sp held n 29 [.slice a len cap]=some (d,p):=hf;have b34:Tryz.prog.bytesOf 34=24:=by kernel_rfl
 obtain ⟨xs, h1, h2, h3⟩ := aZ3 bulk aWK (k := cS) (G := fun a => a.2.length ≤ bulk d) Tryz.underlying29 bJ (by decide) (fun n cs y hy _ hm => by
  obtain⟨a,ha,hb,_⟩:=bQ4 hy;exact⟨a,ha,Nat.le_trans hb hm⟩) hf'
 refine⟨xs,h1,h2,?_⟩
 have hr:reachBytes=140737488351232:=rfl;rcases h3 with rfl|⟨k,hk,hk2⟩
 ·simp
 have e34:cS.e=34:=rfl;rw[e34,b34]at hk2;have:=hw k hk;omega
end
end TzRow
end Go.Proofs
end

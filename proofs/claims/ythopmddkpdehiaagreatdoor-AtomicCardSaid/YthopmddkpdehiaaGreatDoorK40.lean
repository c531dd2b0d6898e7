/-
  What the proof stands on, part 40: the logic of walks, the walks through the functions, the plain laws. Conditions: as each theorem says. (Merged and shortened by a program.)
-/
import Derived.Test.YthopmddkpdehiaaGreatDoorK37
import Derived.Test.YthopmddkpdehiaaGreatDoorK39
set_option linter.unusedVariables false
set_option linter.unusedSimpArgs false
set_option maxRecDepth 4000
set_option maxHeartbeats 1000000
section
namespace Go.SL
section
variable{H:Type}{enc:TypeId×Value→H}{P:Program}{w:World}{base:Nat}{sp:Nat→Bool}{held:Bool}{n:Nat}{t:TypeId}{cs:List Value}{x:DataW H×List MemPlace}
theorem u7{fs:Array Field}(hu:P.underlying t=some (.struct fs))(h:DataW.trod enc P w base sp held n t cs=some x):
  ∃m,cs.length=P.cellsOf t∧∀(i:Nat) f,fs.toList[i]?=some f→∃y,DataW.trod enc P w base sp held m f.type ((cs.drop f.offset).take (P.cellsOf f.type))=some y∧∀n∈y.1.weights P f.type,n∈x.1.weights P t:=
 let ⟨m,h1,h2⟩:=aFB hu h;⟨m,h1,fun i f hf=>let ⟨y,h3,h4,_⟩:=h2 i f hf;⟨y,h3,h4⟩⟩
theorem aQE{α:Type}{k:El α}{G:α→Prop}{v:Value}(hu:P.underlying t=some (.slice k.e))(hc:P.cellsOf k.e=k.sz)(hsz:0 < k.sz)
  (helt:∀n cs y,DataW.trod enc P w base sp held n k.e cs=some y→(∀n∈y.1.weights P k.e,n∈x.1.weights P t)→∃a,cs=k.enc a∧G a) (h:DataW.trod enc P w base sp held n t [v]=some x):
  ∃xs,Ksl k (hp w) v xs∧(∀a∈xs,G a)∧(xs=[]∨∃n∈x.1.weights P t,xs.length*P.bytesOf k.e≤n):=
 aZ3 (fun _=>0) (fun _ _ _ _=>Nat.le_refl _) hu hc hsz (fun n cs y h1 h2 _=>helt n cs y h1 h2) h
end
end Go.SL
end
section
set_option maxRecDepth 100000
namespace Go.Proofs
open Go Go.SL Go.Syn Go.Mach Go.ChangeShapes Go.WideShapes Go.RowKit
namespace TzRow
section
variable{H:Type}{enc:TypeId×Value→H}{W:World}{base:Nat}{sp:Nat→Bool}{held:Bool}
theorem aCJ{n:Nat}{cs:List Value}{x:DataW H×List MemPlace}(h:DataW.trod enc Tryz.prog W base sp held n 9 cs=some x):∃l:aJ,cs=[str l]∧l.length∈x.1.weights Tryz.prog 9:=by
 obtain⟨l,h1,h2⟩:=aVT Tryz.underlying9 h;exact⟨l,h1,by rw[h2];simp[DataW.weights]⟩
end
end TzRow
end Go.Proofs
end

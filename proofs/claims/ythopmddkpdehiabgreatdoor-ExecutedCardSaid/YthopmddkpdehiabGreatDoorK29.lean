/-
  What the proof stands on, part 29: the logic of walks, the walks through the functions, the plain laws. Conditions: as each theorem says. (Merged and shortened by a program.)
-/
import Derived.Test.YthopmddkpdehiabGreatDoorK10
import Derived.Test.YthopmddkpdehiabGreatDoorK26
set_option linter.unusedVariables false
set_option linter.unusedSimpArgs false
set_option linter.defProp false
set_option maxRecDepth 4000
set_option maxHeartbeats 1000000
section
namespace Go.SL
section
variable{P:Program}{fn:Func}{n:Nat}{w0:World}{F K0 K:Hl}{fr:Fr}{L:List Asn}{R:Ending→Hl→List Asn→Prop}{t1 t2 t3 t4:Nat}{v1 v2 v3 v4:Value}
def aTQ(h:fn.results= #[.tmp t1,.tmp t2,.tmp t3,.tmp t4])(tmps:Array Value)(w:World)(e1:tmps.getD t1 undef=v1)(e2:tmps.getD t2 undef=v2)(e3:tmps.getD t3 undef=v3)(e4:tmps.getD t4 undef=v4):(results fn tmps).run P w=.ok (.tuple #[v1,v2,v3,v4]) w:=by
 have e1:tmps[t1]?.getD undef=v1:=by simpa using e1
 have e2:tmps[t2]?.getD undef=v2:=by simpa using e2
 have e3:tmps[t3]?.getD undef=v3:=by simpa using e3
 have e4:tmps[t4]?.getD undef=v4:=by simpa using e4
 simp[results,h,e1,e2,e3,e4,Sem.run_bind,Result.andThen]
def bCM(hr:fn.results= #[.tmp t1,.tmp t2,.tmp t3,.tmp t4])(h1:fr.get t1=some v1)(h2:fr.get t2=some v2)(h3:fr.get t3=some v3)(h4:fr.get t4=some v4)(le:K0.le K)(h:R (.returned (.tuple #[v1,v2,v3,v4])) K L):
  D ⟨P,n,[],w0,F⟩ .ret fr K L (wO P fn w0 F K0 R):=
 fun a w f i=>⟨f.defers,_,aTQ hr _ _ (by simp[f.get _ _ h1]) (by simp[f.get _ _ h2]) (by simp[f.get _ _ h3]) (by simp[f.get _ _ h4]),K,L,h,le,i⟩
end
end Go.SL
end
section
namespace Go.Cmp
open Go Go.SL Go.Syn Go.Mach
def aCM{vs:List InsV}{os:List Ins}{v:InsV}{o:Ins}{L:List Asn}:
  ∀h,Sat (eX (v::vs) (o::os)::L) h→Sat (sl false (a7 9) v.a.1 o.a::sl false (a7 9) v.b.1 o.b::eX vs os::L) h:=by
 rintro h ⟨x,l,⟨a,c,⟨_,ha⟩,hc,hd,rfl⟩,hl,hdl,rfl⟩;have hd2:=Hl.join_dj.1 hdl;exact eY (L:=[_,_]).2 ⟨a,c.join l,ha,⟨c,l,hc,hl,hd2.2,Y⟩,Hl.dj_join.2 ⟨hd,hd2.1⟩,Hl.join_assoc _ _ _⟩
end Go.Cmp
end

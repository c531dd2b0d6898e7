/-
  What the proof stands on, part 5: the logic of walks, the walks through the functions, the plain laws. Conditions: as each theorem says. (Merged and shortened by a program.)
-/
import Derived.Test.YthopmddkpdehiaaGreatDoorK1
set_option linter.unusedVariables false
set_option linter.unusedSimpArgs false
set_option maxRecDepth 4000
set_option maxHeartbeats 1000000
section
namespace Go.SL
section
variable{E:Env}{ops:Array Oper}{eff stg:List Nat}{S:List Asn}{r:List Nat}{fr:Fr}{K:Hl}{M L:List Asn}{Q:Post}{i:Nat}{o:Oper}
theorem aII{d:Nat}{ty:TypeId}{pos:String}{aft:Array Edge}{g:Option (Nat×Bool)}{fv:Operand}{xs:List Operand}{ats:Array TypeId}{f:FuncId}{caps:Array Value}{vs:List Value}{L1 L2:List Asn}{N:Value→Hl→List Asn→Prop}
  (ho:ops[i]?=some ⟨some d,.call ⟨.value fv,xs.toArray,ats⟩,ty,pos,aft,g⟩) (hg:GOk ops fr ⟨some d,.call ⟨.value fv,xs.toArray,ats⟩,ty,pos,aft,g⟩ true) (hg0:stg.contains i=false) (he:eff.contains i=true)
  (hf:fr.ev fv=some (.func (.func f) #[] caps)) (hx:fr.evs xs=some vs) (hs:Sp E.P f (vs++caps.toList) K L1 (Ret N)) (hL:Tks L1 (S++M) L2) (hn:Nat.blt d E.n=true)
  (h:∀v K' L',N v K' L'→K.le K'→∃M',(∀x,Sat (L'++L2) x→Sat (S++M') x)∧DL E ops eff stg S r ((d,v)::fr) K' M' Q):DL E ops eff stg S (i::r) fr K M Q:=
 aDX ho hg hg0 he hf hx hs hL hn (fun K' L' ⟨u,e,n⟩=>by cases e) (fun ch K' L' ⟨u,e,n⟩=>by cases e) (fun v K' L' ⟨u,e,n⟩ le=>by cases e;exact h v K' L' n le)
end
end Go.SL
end

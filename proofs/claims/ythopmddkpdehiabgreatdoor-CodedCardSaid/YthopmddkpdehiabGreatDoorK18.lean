/-
  What the proof stands on, part 18: the logic of walks, the walks through the functions, the plain laws. Conditions: as each theorem says. (Merged and shortened by a program.)
-/
import Derived.Test.YthopmddkpdehiabGreatDoorK10
import Derived.Test.YthopmddkpdehiabGreatDoorK17
set_option linter.unusedVariables false
set_option linter.unusedSimpArgs false
set_option linter.defProp false
set_option maxRecDepth 4000
set_option maxHeartbeats 1000000
section
namespace Go.SL
section
variable{E:Env}{ops:Array Oper}{eff stg:List Nat}{S:List Asn}{r:List Nat}{fr:Fr}{K:Hl}{M L:List Asn}{Q:Post}{i:Nat}{o:Oper}
def aVK{d:Nat}{ty:TypeId}{pos:String}{aft:Array Edge}{g:Option (Nat×Bool)}{fv:Operand}{xs:List Operand}{ats:Array TypeId}{f:FuncId}{caps:Array Value}{vs:List Value}{L1 L2:List Asn}{N:Value→Hl→List Asn→Prop}
  (ho:ops[i]?=some ⟨some d,.call ⟨.value fv,xs.toArray,ats⟩,ty,pos,aft,g⟩) (hg:GOk ops fr ⟨some d,.call ⟨.value fv,xs.toArray,ats⟩,ty,pos,aft,g⟩ true) (hg0:stg.contains i=false) (he:eff.contains i=true)
  (hf:fr.ev fv=some (.func (.func f) #[] caps)) (hx:fr.evs xs=some vs) (hs:Sp E.P f (vs++caps.toList) K L1 (Ret N)) (hL:Tks L1 (S++M) L2) (hn:Nat.blt d E.n=true)
  (h:∀v K' L',N v K' L'→K.le K'→∃M',(∀x,Sat (L'++L2) x→Sat (S++M') x)∧DL E ops eff stg S r ((d,v)::fr) K' M' Q):DL E ops eff stg S (i::r) fr K M Q:=
 aBP ho hg hg0 he hf hx hs hL hn (fun K' L' ⟨u,e,n⟩=>by cases e) (fun ch K' L' ⟨u,e,n⟩=>by cases e) (fun v K' L' ⟨u,e,n⟩ le=>by cases e;exact h v K' L' n le)
end
section
variable{E:Env}{fr:Fr}{K:Hl}{L L':List Asn}{dst:Option Tmp}{ty:TypeId}{pos:String}{aft:Array Edge}{g:Option (Nat×Bool)}{t:TypeId}{α:Type}{k:El α}
def zZ(ht:i8 E.P t k.e k.sz=true):EfS E fr K L ⟨dst,.buildSlice t 0 #[],ty,pos,aft,g⟩ (fun v K' L'=>K'=K∧∃b,v=.slice (some ⟨b,0,none⟩) 0 0∧L'=sl false k (.slice (some ⟨b,0,none⟩) 0 0) []::L):=by
 intro a w f j;obtain⟨inf,h1,h2,h3⟩:=nH ht;have hu:(underlying t).run E.P w=.ok (.slice k.e) w:=by simp only[underlying,program,bind,Sem.bind,pure,Sem.run,h1]
 have hsz:(sizeOf k.e).run E.P w=.ok k.sz w:=by simp only[sizeOf,typeInfo,program,bind,Sem.bind,pure,Sem.run,h2,h3]
 have hr:(Instr.buildSlice t 0 #[]).run E.P w=.ok (.slice (some ⟨w.heap.size,0,none⟩) 0 0) {w with heap:=w.heap.push (bL [] k.e)}:=by
  unfold Instr.buildSlice;rw[bJ hu];simp only[];rw[bJ hsz];rw[x5 aH,x7 aH];rw[bJ (uY _ _)];have hz:0*k.sz=0:=by omega
  simp only[hz];have e0:(Array.range 0)= #[]:=by simp
  rw[e0,Array.map_empty]
  rfl
 refine⟨.slice (some ⟨w.heap.size,0,none⟩) 0 0,_,K,sl false k (.slice (some ⟨w.heap.size,0,none⟩) 0 0) []::L,.inl ?_,⟨Y,w.heap.size,Y,Y⟩,xAB _,(j.alloc (bL [] k.e)).imp ?_⟩
 ·simp only[execOp];have:=fO hr
  simpa using this
 rintro h ⟨x,l,hx,hl,hd,rfl⟩;refine⟨x,l,.inr ⟨w.heap.size,0,[],(0,0),Y,(fun h=>by cases h),xAA _,by simp,.inl (xAA _),?_⟩,hl,hd,Y⟩
 exact hx
end
end Go.SL
end

/-
  What the proof stands on, part 9: the logic of walks, the walks through the functions, the plain laws. Conditions: as each theorem says. (Merged and shortened by a program.)
-/
import Derived.Test.YthopmddkpdehiaaGreatDoorK7
import Derived.Test.YthopmddkpdehiaaGreatDoorK8
set_option linter.unusedVariables false
set_option linter.unusedSimpArgs false
set_option maxRecDepth 4000
set_option maxHeartbeats 1000000
section
namespace Go.SL
section
variable{E:Env}{fr:Fr}{K:Hl}{L:List Asn}{dst:Option Tmp}{ty:TypeId}{pos:String}{aft:Array Edge}{g:Option (Nat×Bool)}{x y:Operand}{t t':TypeId}{m n:Int}{k:IntKind}
theorem aW2(hx:fr.ev x=some (.int k m))(hy:fr.ev y=some (.int k n))(h0:n≠0):Ev E fr K L ⟨dst,.binOp .quo t x y t',ty,pos,aft,g⟩ (.int k (k.wrap (m.tdiv n))):=
 gT hx hy jR fun w=>by simp[binOp,Op.intDiv,h0,pure]
end
section
variable{E:Env}{fr:Fr}{K:Hl}{L:List Asn}{dst:Option Tmp}{ty:TypeId}{pos:String}{aft:Array Edge}{g:Option (Nat×Bool)}{x y:Operand}{t e:TypeId}{n b:Nat}{k:IntKind}
theorem aOF{P:Program}(h:eZ P e=true):∃inf,P.info? e=some inf∧inf.size=1:=by
 unfold eZ at h;split at h
 ·cases h
 ·cases h
 ·rename_i i h1 h2;exact⟨_,‹P.info? e=some _›,by simpa using h⟩
 cases h
theorem fJ{j:Nat}{jv:Int}(hu:E.P.underlying t=some (.array n e))(he:eZ E.P e=true)(hx:fr.ev x=some (ptr b))(hy:fr.ev y=some (.int k jv))(hjv:jv=(j:Int))(hj:j < n):
  Ev E fr K L ⟨dst,.indexAddr t x y,ty,pos,aft,g⟩ (ptr b j):=fun a w f i=>by
 subst hjv;obtain⟨inf,h2,h3⟩:=aOF he;simp only[execOp,f.ev hx,f.ev hy];refine eR ?_;unfold Instr.indexAt;simp[asIntOf,underlying,program,bind,Sem.bind,pure,Sem.run,hu,hj,sizeOf,typeInfo,h2,h3,Instr.sureAddr,kG]
end
def aDB(P:Program)(fv:Value)(f:FuncId)(vs:List Value):Prop:=∀w,(do let d ←Deferred.ofValue fv #[];invoke d.target d.args).run P w=.ok (.enter f vs.toArray) w
section
variable{E:Env}{fr:Fr}{K:Hl}{L L1 L2:List Asn}{Q:Post}{ops:Array Oper}{rest:List Oper}{ty:TypeId}{pos:String}{aft:Array Edge}
theorem aKV{d:Nat}{fv:Operand}{ats:Array TypeId}{x:Value}{f:FuncId}{vs:List Value}{N:Value→Hl→List Asn→Prop}(hf:fr.ev fv=some x)(he:aDB E.P x f vs)(hs:Sp E.P f vs K L1 (Ret N))(hL:Tks L1 L L2)(hd:Nat.blt d E.n=true)
  (h:∀v K' L',N v K' L'→K.le K'→OL E ops rest ((d,v)::fr) K' (L'++L2) Q):OL E ops (⟨some d,.call ⟨.value fv,#[],ats⟩,ty,pos,aft,none⟩::rest) fr K L Q:=
 aN1 (aSM (N := fun v K' L'' => ∃ L', L'' = L' ++ L2 ∧ N v K' L') (fun a w fo => by
  have:=he w
  simpa[execOp,resolve,fo.ev hf,bind,pure,Sem.bind]using this) hL hs (fun v K' L' ⟨u,e,n⟩=>by cases e;exact⟨L',rfl,n⟩) (fun ch K' L' ⟨u,e,n⟩=>by cases e) (fun K' L' ⟨u,e,n⟩=>by cases e)) hd
  (fun v K' L'' ⟨L',e,n⟩ le=>by subst e;exact h v K' L' n le)
theorem zB{o:Oper}{p:Prop}[Decidable p](h:Ev E fr K L o (.bool (decide p)))(hp:p):Ev E fr K L o (.bool true):=by rwa [decide_eq_true hp]at h
theorem vJ{o:Oper}{p:Prop}[Decidable p](h:Ev E fr K L o (.bool (decide p)))(hp:¬p):Ev E fr K L o (.bool false):=by rwa [decide_eq_false hp]at h
theorem gN{o:Oper}{u v:Value}(h:Ev E fr K L o u)(e:u=v):Ev E fr K L o v:=e▸h
end
theorem aGK{P:Program}{f:FuncId}{args:List Value}{K:Hl}{b:Nat}{o:Obj}{L:List Asn}{R:Ending→Hl→List Asn→Prop}(hb:∃fn,P.funcs[f]?=some fn∧(fn.name== "runtime.NumGoroutine")=false∧fn.body.isSome=true)
  (h:∀K',K.le K'→K' b=some o→Sp P f args K' L R):Sp P f args K (pt b o::L) R:=
 ⟨hb, fun F w i => by
  obtain⟨h1,h2,h3⟩:=i.settle;exact((h _ h1 h2).2 F w h3).mono fun e w' ⟨K',L',r,le,j⟩=>⟨K',L',r,Hl.le_trans h1 le,j⟩⟩
end Go.SL
end

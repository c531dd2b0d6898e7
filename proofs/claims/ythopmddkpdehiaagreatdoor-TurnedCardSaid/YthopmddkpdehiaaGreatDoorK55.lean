/-
  What the proof stands on, part 55: the logic of walks, the walks through the functions, the plain laws. Conditions: as each theorem says. (Merged and shortened by a program.)
-/
import Derived.Test.YthopmddkpdehiaaGreatDoorK3
import Derived.Test.YthopmddkpdehiaaGreatDoorK17
import Derived.Test.YthopmddkpdehiaaGreatDoorK54
set_option linter.unusedVariables false
set_option linter.unusedSimpArgs false
set_option maxRecDepth 4000
set_option maxHeartbeats 1000000
section
attribute [local irreducible] Go.SL.T Go.SL.OL Go.SL.D Go.SL.DL Go.SL.Ev Go.SL.Ef Go.SL.EfS
namespace Go.Proofs
open Go Go.SL Go.Syn Go.Mach Go.Cmp
theorem bBX{n:Nat}{ds:List Deferred}{w0:World}{F:Hl}{fr:Fr}{K:Hl}{L:List Asn}{dst:Option Tmp}{ty t':TypeId}{pos:String}{aft:Array Edge}{g:Option (Nat×Bool)}{x y:Operand}{a c:Action}(hx:fr.ev x=some (.agg #[i64 a.1,str a.2]))(hy:fr.ev y=some (.agg #[i64 c.1,str c.2])):
  Ev ⟨Tryz.prog,n,ds,w0,F⟩ fr K L ⟨dst,.binOp .neq 34 x y t',ty,pos,aft,g⟩ (.bool (!decide (a=c))):=
 gT hx hy (fun w=>run_eqGuard_agg w _ _ _ _ _ _ Tryz.eqGuardType34) fun w=>by
  rw[run_neq_struct,bHD];rfl
theorem tW(av bv:Value)(xs ys:List Action)(K:Hl)(hx:xs.length≤1000000)(hy:ys.length≤1000000):Sp Tryz.prog 22 [av,bv] K [sl true cS av xs,sl true cS bv ys] (Ret fun v K' L'=>v=.bool (decide (xs=ys))∧K'=K∧L'=[sl true cS av xs,sl true cS bv ys]):=by
 refine a8 Tryz.func22 rfl Tryz.ntmps22 rfl rfl fun F w=>?_;refine zz9 ?_;refine aA (bO (k:=cS) rfl Tryz.underlying29 rfl (.own .here)) rfl ?_;refine zz1 ?_;refine aA (bO (k:=cS) rfl Tryz.underlying29 rfl (.own (.there .here))) rfl ?_;refine zz3 ?_
 first|refine bK 10 rfl (fun h10=>?_) (fun h10=>?_)|refine eO 10 rfl (fun h10=>?_) (fun h10=>?_)
 ·refine zz8 ?_;have hne:¬xs=ys:=(fun e=>by rw[e]at h10;exact absurd rfl h10);exact⟨_,rfl,by rw[decide_eq_false hne],rfl,rfl⟩
 have hlen:xs.length=ys.length:=by omega
 refine zz9 ?_;refine eJ (fun(i:Nat)=>i≤xs.length∧xs.take i=ys.take i) (fun i=>[(0,av),(1,bv),(5,i64 i)]) (fun _=>K) (fun _=>[sl true cS av xs,sl true cS bv ys]) (fun i=>xs.length - i) 0 ⟨Nat.zero_le _,by simp⟩ (.cons 0 rfl (.cons 1 rfl (.cons 5 rfl .nil))) rfl (fun _ h=>h) ?_;intro i ⟨hi0,hi1⟩;refine zz5 ?_;refine aA (bO (k:=cS) rfl Tryz.underlying29 rfl (.own .here)) rfl ?_;refine zz3 ?_;refine bK 14 rfl (fun h14=>?_) (fun h14=>?_)
 ·have hilt:i < xs.length:=by omega
  obtain⟨x,hxx⟩:∃x,xs[i]?=some x:=⟨xs[i]'hilt,List.getElem?_eq_getElem hilt⟩;obtain⟨y,hyy⟩:∃y,ys[i]?=some y:=⟨ys[i]'(by omega),List.getElem?_eq_getElem aI⟩;refine zz5 ?_;refine dD (anc:=[0,0,3,7,0,0,48,112,255]) (ord:=[0,1,2,3,4,5,6,7,8]) [] [] mixed gAH (dI _) ?_;refine zz2 ?_;refine aK rfl rfl (.none rfl) rfl rfl (bE (k:=cS) (j:=i) gK rfl (.own .here) rfl rfl aI) rfl ?_;refine aK rfl rfl (.none rfl) rfl rfl (dC (n:=0) (k:=cS) lO rfl (.own .here) hxx) rfl ?_;refine zz2 ?_;refine aK rfl rfl (.none rfl) rfl rfl (bE (k:=cS) (j:=i) gK rfl (.own (.there .here)) rfl rfl aI) rfl ?_;refine aK rfl rfl (.none rfl) rfl rfl (dC (n:=0) (k:=cS) lO rfl (.own (.there .here)) hyy) rfl ?_;refine aK rfl rfl (.none rfl) rfl rfl (bBX (a:=x) (c:=y) rfl rfl) rfl ?_;refine zz2 ?_;refine eO 25 rfl (fun h25=>?_) (fun h25=>?_)
  ·have hxy:¬x=y:=by simpa using h25
   refine zz12 ?_;have hne:¬xs=ys:=(fun e=>by rw[e]at hxx;rw[hxx]at hyy;cases hyy;exact hxy rfl);exact⟨_,rfl,by rw[decide_eq_false hne],rfl,rfl⟩
  have hxy:x=y:=by simpa using h25
  refine zz8 ?_;exact dF (i+1) ⟨by omega,by rw[List.take_add_one,List.take_add_one,hi1,hxx,hyy,hxy]⟩ aI (.cons 0 rfl (.cons 1 rfl (.cons 5 rfl .nil))) rfl (fun _ h=>h)
 refine zz12 ?_;have he:xs=ys:=gCD;exact⟨_,rfl,by rw[decide_eq_true he],rfl,rfl⟩
end Go.Proofs
end
section
namespace Go.Proofs
open Go Go.SL Go.Syn Go.Mach Go.Cmp
theorem wX{E:Env}{fr:Fr}{K:Hl}{L:List Asn}{dst:Option Tmp}{ty t t':TypeId}{pos:String}{aft:Array Edge}{g:Option (Nat×Bool)}{x y:Operand}{k:IntKind}{m n:Int}(hx:fr.ev x=some (.int k m))(hy:fr.ev y=some (.int k n))(h:m=n):Ev E fr K L ⟨dst,.binOp .eql t x y t',ty,pos,aft,g⟩ (.bool true):=by
 have:=bZ (E:=E) (K:=K) (L:=L) (dst:=dst) (ty:=ty) (t:=t) (t':=t') (pos:=pos) (aft:=aft) (g:=g) hx hy
 rwa [decide_eq_true h]at this
theorem bCN{nm:Bool}{m:Msg}{code:List Ins}(hm:MsgOk m)(hc:∀o∈code,InsOk o):∀f st s,MInv s→(Mach.loop nm m code f st s).acts.length≤7:=by
 have fin:∀s:MS,MInv s→(if s.keep=true then s.acts++[(1,[])]else s.acts).length≤7:=by
  intro s h;have:=h.acts;split
  ·simp;omega
  omega
 intro f;induction f with
 |zero=>intro st s h;simp[Mach.loop]
 |succ f ih=>
  intro st s h;unfold Mach.loop;split
  ·exact fin s h
  rename_i o ho;split
  ·exact fin s h
  split
  ·simp
  rename_i t ht;have h2:=h.step hm (hc o (List.mem_of_getElem? ho)) ht;exact ih _ _ ⟨h2.stack,h2.acts,h2.vars,h2.parts⟩
theorem aLF{nm:Bool}{m:Msg}{code:List Ins}(hm:MsgOk m)(hc:∀o∈code,InsOk o):(Mach.run nm code m).acts.length≤7:=by
 unfold Mach.run;split
 ·simp
 exact bCN hm hc _ _ _ MInv.start
theorem aXH{s:aJ}{r:List aJ×Tree}(hr:eD s=.ok r)(hl:s.length≤600):(∀o∈Cmp.script r.2,InsOk o)∧(Cmp.script r.2).length≤1000000:=by
 have hfit:=sJ hr;have hsl:=Cmp.script_len r.2;refine⟨fun o ho=>?_,by omega⟩
 obtain⟨q1,q2,q3,q4⟩:=Cmp.script_fit hfit.2.1 o ho;exact⟨by omega,by omega,fun x hx=>by have:=q1 x hx;omega,fun x hx=>by have:=q2 x hx;omega⟩
end Go.Proofs
end

/-
  What the proof stands on, part 44: the logic of walks, the walks through the functions, the plain laws. Conditions: as each theorem says. (Merged and shortened by a program.)
-/
import Derived.Test.YthopmddkpdehiaaGreatDoorK35
import Derived.Test.YthopmddkpdehiaaGreatDoorK43
set_option linter.unusedVariables false
set_option linter.unusedSimpArgs false
set_option maxRecDepth 4000
set_option maxHeartbeats 1000000
section
namespace Go.Proofs
open Go Go.SL Go.Syn Go.Box Go.Mach
theorem bMK(w:World)(a c:fY):(Op.equalIn 10000 66 (.agg #[str a.1,str a.2]) (.agg #[str c.1,str c.2])).run Tryz.prog w=.ok (decide (a=c)) w:=by
 have hf:Tryz.prog.fieldsOf 66= #[{name:= "Name",type:=9,offset:=0,embedded:=false,tag:= "",pkgPath:= "",byteOffset:=0},{name:= "Data",type:=9,offset:=1,embedded:=false,tag:= "",pkgPath:= "",byteOffset:=16}]:=by unfold Program.fieldsOf;rw[Tryz.underlying66]
 rw[show (10000:Nat)=9999+1 from rfl,run_equalIn_agg w 9999 66 _ _ (by rw[hf];exact Tryz.underlying66) Tryz.stoodInHeld66,hf];obtain⟨k1,s1⟩:=a;obtain⟨k2,s2⟩:=c;have p1:=pK (P:=Tryz.prog) (w:=w) (xs:= #[str k1,str s1]) (i:=0) (v:=str k1) ts9 rfl;have p2:=pK (P:=Tryz.prog) (w:=w) (xs:= #[str k2,str s2]) (i:=0) (v:=str k2) ts9 rfl;have p3:=pK (P:=Tryz.prog) (w:=w) (xs:= #[str k1,str s1]) (i:=1) (v:=str s1) ts9 rfl;have p4:=pK (P:=Tryz.prog) (w:=w) (xs:= #[str k2,str s2]) (i:=1) (v:=str s2) ts9 rfl;have q:∀s1 s2:List UInt8,(Op.equalIn 9999 9 (str s1) (str s2)).run Tryz.prog w=.ok (decide (s1=s2)) w:=fun s1 s2=>by
  have:=run_equalIn_string (P:=Tryz.prog) w 9998 9 ⟨s1.toArray⟩ ⟨s2.toArray⟩ Tryz.underlying9;rw[←beq_toListBytes,aPB]at this;exact this
 have q1:=q k1 k2;have q2:=q s1 s2;simp only[Op.eqFields];rw[if_pos (by decide),aV p1,aV p2,aV q1]
 by_cases h:k1=k2
 ·subst h;rw[if_neg (by simp),if_pos (by decide),aV p3,aV p4,aV q2]
  by_cases h2:s1=s2
  ·subst h2;simp[pure,Sem.run]
  simp[h2,pure,Sem.run]
 rw[if_pos (by simp[h])];simp[h,pure,Sem.run]
theorem aJR{n:Nat}{ds:List Deferred}{w0:World}{F:Hl}{fr:Fr}{K:Hl}{L:List Asn}{dst:Option Tmp}{ty t':TypeId}{pos:String}{aft:Array Edge}{g:Option (Nat×Bool)}{x y:Operand}{a c:fY}(hx:fr.ev x=some (.agg #[str a.1,str a.2]))(hy:fr.ev y=some (.agg #[str c.1,str c.2])):
  Ev ⟨Tryz.prog,n,ds,w0,F⟩ fr K L ⟨dst,.binOp .neq 66 x y t',ty,pos,aft,g⟩ (.bool (!decide (a=c))):=
 gT hx hy (fun w=>run_eqGuard_agg w _ _ _ _ _ _ Tryz.eqGuardType66) fun w=>by
  rw[run_neq_struct,bMK];rfl
theorem aJW{f:DMap}{ys:List fY}{ns:List aJ}(h:gQ f ys)(hd:uI f ns):ys.length≤ns.length:=by
 have nd:(ys.map (·.1)).Nodup:=by rw[List.Nodup,List.pairwise_map];exact h.2.imp fun {a b} hab e=>by rw[e]at hab;exact List.lt_irrefl _ hab
 have:=vP (ns:=ns) nd fun x hx=>by obtain⟨⟨n,d⟩,hm,rfl⟩:=List.mem_map.1 hx;exact hd n (by rw[(h.1 n d).1 hm];rfl)
 simpa using this
end Go.Proofs
end

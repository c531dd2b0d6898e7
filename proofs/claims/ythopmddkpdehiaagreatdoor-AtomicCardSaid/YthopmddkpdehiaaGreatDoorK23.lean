/-
  What the proof stands on, part 23: the logic of walks, the walks through the functions, the plain laws. Conditions: as each theorem says. (Merged and shortened by a program.)
-/
import Derived.Test.YthopmddkpdehiaaGreatDoorK2
set_option linter.unusedVariables false
set_option linter.unusedSimpArgs false
set_option maxRecDepth 4000
set_option maxHeartbeats 1000000
section
namespace Go.SL
def rX(v:Value)(m sz:Nat):Value:=
 match v with
 | .slice a n c=>.slice (if c=m then a else a.map (·.add (m*sz))) (n - m) (c - m)
 |v=>v
def aIZ(v:Value):Prop:=∀a n c,v=.slice a n c→n≤c
section
variable{E:Env}{fr:Fr}{K:Hl}{L L':List Asn}{Q:Post}{dst:Option Tmp}{ty:TypeId}{pos:String}{aft:Array Edge}{g:Option (Nat×Bool)}{x y:Operand}{t:TypeId}{α:Type}{k:El α}{v u:Value}{xs ys:List α}{c0:Code}{x0:Exit}{m:Nat}
theorem aKF(h:Ksl k K v xs)(hm:m≤xs.length)(hf:aIZ v):Ksl k K (rX v m k.sz) (xs.drop m):=by
 rcases h with ⟨a,c,rfl,rfl⟩|⟨b,off,cap,cells,fz,rfl,h1,h2⟩
 ·have:m=0:=by simpa using hm
  subst this;exact .inl ⟨_,_,by simp[rX];exact⟨rfl,rfl⟩,by simp⟩
 have hle:=hf _ _ _ rfl
 by_cases hc:cap=m
 ·have:m=xs.length:=by omega
  subst this;exact .inl ⟨_,_,by simp[rX];exact⟨rfl,rfl⟩,by simp⟩
 refine .inr ⟨b,off+m*k.sz,cap - m,cells,fz,?_,h1,?_⟩
 ·simp only[rX,if_neg hc,List.length_drop,Option.map];unfold Addr.add;split
  ·rename_i h0;rw[h0];rfl
  rfl
 rw[List.length_drop,Nat.sub_mul,←k.cs_drop,←h2,←List.drop_drop,List.drop_take]
theorem rU{kk:IntKind}{mv:Int}{lo:Operand}(ht:jS E.P t k.e k.sz=true)(hx:fr.ev x=some v)(hs:SeesSl k K L v xs)(hh:fr.ev lo=some (.int kk mv))(hmv:mv=(m:Int))(hm:m≤xs.length):
  Ev E fr K L ⟨dst,.slice t x (some lo) none none,ty,pos,aft,g⟩ (rX v m k.sz):=fun a w f j=>by
 subst hmv;obtain⟨inf,h1,h2,h3⟩:=pC ht;simp only[execOp,f.ev hx,f.ev hh,Option.map];refine eR ?_;have hu:(underlying t).run E.P w=.ok (.slice k.e) w:=by simp only[underlying,program,bind,Sem.bind,pure,Sem.run,h1]
 have hsz:(sizeOf k.e).run E.P w=.ok inf.size w:=by simp only[sizeOf,typeInfo,program,bind,Sem.bind,pure,Sem.run,h2]
 have key:∀(a:Option Addr) (n c:Nat),m≤n→(Instr.sliceAt t (.slice a n c) (some (.int kk m)) none none).run E.P w=.ok (rX (.slice a n c) m k.sz) w:=by
  intro a n c hc;unfold Instr.sliceAt;rw[aV hu];simp only[Instr.slice];rw[aV hu];simp only[];have hb:(Instr.sliceBounds true n c (some (.int kk m)) none none).run E.P w=.ok (m,n,c) w:=by
   simp[Instr.sliceBounds,Instr.sliceBound,asIntOf,bind,Sem.bind,pure,Sem.run,hc]
  rw[aV hb];simp only[];rw[aV hsz];simp only[rX,h3,pure,Sem.run]
 rcases hs.at j with ⟨a0,c,rfl,rfl⟩|⟨b,off,cap,cells,fz,rfl,⟨u0,h4⟩,h5⟩
 ·exact key a0 0 c (by simpa using hm)
 exact key _ _ _ hm
end
end Go.SL
end

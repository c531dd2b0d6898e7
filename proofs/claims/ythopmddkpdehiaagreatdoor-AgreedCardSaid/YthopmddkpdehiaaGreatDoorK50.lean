/-
  What the proof stands on, part 50: the logic of walks, the walks through the functions, the plain laws. Conditions: as each theorem says. (Merged and shortened by a program.)
-/
import Derived.Test.YthopmddkpdehiaaGreatDoorK5
import Derived.Test.YthopmddkpdehiaaGreatDoorK17
import Derived.Test.YthopmddkpdehiaaGreatDoorK27
set_option linter.unusedVariables false
set_option linter.unusedSimpArgs false
set_option maxRecDepth 4000
set_option maxHeartbeats 1000000
section
namespace Go.Mach
open Go.Syn
theorem aXO(nm:Bool)(m:Msg)(code:List Ins):∀f st s,st≤s.pc→s.pc≤code.length→(loop nm m code f st s).steps≤code.length:=by
 intro f;induction f with
 |zero=>intro st s h h2;simp[loop];omega
 |succ f ih=>
  intro st s h h2;unfold loop;split
  ·simp;omega
  rename_i o ho;have hi:s.pc < code.length:=by
   rcases Nat.lt_or_ge s.pc code.length with h'|h'
   ·exact h'
   rw[List.getElem?_eq_none h']at ho;cases ho
  split
  ·simp;omega
  split
  ·simp;omega
  rename_i t ht;have:=aE3 ht hi;exact ih _ _ gAI gAI
theorem run_steps(nm:Bool)(m:Msg)(code:List Ins):(run nm code m).steps≤code.length:=by
 unfold run;split
 ·simp
 exact aXO nm m code _ _ _ (Nat.le_refl _) (Nat.zero_le _)
end Go.Mach
end
section
namespace Go.Syn
open Go.Mach
def preV:aJ:=[114,101,113,117,105,114,101,32,34,118,97,114,105,97,98,108,101,115,34,59]
theorem bRP(s:aJ):next (preV++s) 0=.ok (7,⟨1,dY,0,0⟩):=by kernel_rfl
theorem bRQ(s:aJ):next (preV++s) 7=.ok (19,⟨3,dB,0,8⟩):=by kernel_rfl
def aSD:List Ins:=[⟨1,1,0,false,[],[],0⟩,⟨4,1,0,false,[],[],0⟩,⟨14,0,0,false,[],[],0⟩,⟨13,0,0,false,[],[],0⟩]
theorem bDZ(m:Msg):Mach.run false aSD m=⟨[],3,none⟩:=by kernel_rfl
theorem bFP{ns:List aJ}{x e:aJ}(h:x∈ns):x∈addN ns e:=by
 unfold addN;split
 ·exact h
 exact List.mem_append_left _ h
theorem aDF{x:aJ}:∀ {l ns:List aJ},x∈ns→x∈gL ns l
 | [],_,h=>h
 |e::l,ns,h=>by
  have:=aDF (l:=l) (bFP (e:=e) h);exact this
theorem aUI{s x:aJ}:∀(f:Nat) (ns:List aJ) (st:St) (r:List aJ×St),x∈ns→reqF s f ns st=.ok r→x∈r.1
 |0,_,_,_,_,h=>by cases h
 |f+1,ns,st,r,hx,h=>by
  unfold reqF at h;split at h
  ·split at h
   ·cases h
   split at h
   ·cases h
   split at h
   ·cases h
   exact aUI f _ _ _ (aDF hx) h
  cases h;exact hx
theorem bTI(s:aJ):list (preV++s) (19,⟨3,dB,0,8⟩) (oneOf 6 rY)=.ok ([dB],(20,⟨5,[59],0,19⟩)):=by kernel_rfl
theorem bJJ{s:aJ}{r:List aJ×Tree}(h:eD (preV++s)=.ok r):dB∈r.1:=by
 unfold eD at h;rw[bRP]at h;simp only[]at h;unfold jL at h;split at h
 ·cases h
 rename_i n hn;have hm:dB∈n.1:=by
  unfold reqF at hn;rw[if_pos ⟨rfl,rfl⟩,bRQ]at hn;simp only[]at hn;rw[bTI]at hn;simp only[]at hn;split at hn
  ·cases hn
  exact aUI _ _ _ _ (by decide) hn
 split at h
 ·cases h
 split at h
 ·cases h;exact hm
 cases h
end Go.Syn
end

/-
  What the proof stands on, part 38: the logic of walks, the walks through the functions, the plain laws. Conditions: as each theorem says. (Merged and shortened by a program.)
-/
import Derived.Test.YthopmddkpdehiabGreatDoorK8
import Derived.Test.YthopmddkpdehiabGreatDoorK19
set_option linter.unusedVariables false
set_option linter.unusedSimpArgs false
set_option linter.defProp false
set_option maxRecDepth 4000
set_option maxHeartbeats 1000000
section
namespace Go.Say
open Go.Syn Go.Mach Go.SL Go.Proofs
def elems:Tree→List Tree
 | .tcons t l=>t::elems l
 |_=>[]
def rr_elems{K:Hl}:∀ {l:Tree} {xs:List Cell},wf l 1=true→RR K l xs []→xs.length=(elems l).length∧∀(i:Nat) x t,xs[i]?=some x→(elems l)[i]?=some t→RR K t [x] []
 | .tnil,xs,_,⟨h,_⟩=>by subst h;exact⟨Y,fun i x t h=>by simp at h⟩
 | .tcons t l,xs,hw,⟨_,v,ys,e,h1,h2⟩=>by
  subst e;simp[wf]at hw;obtain⟨h3,h4⟩:=rr_elems (l:=l) hw.2 h2;refine⟨by simp[elems,h3],fun i x u hx hu=>?_⟩
  cases i with
  |zero=>simp[elems]at hx hu;subst hx;subst hu;exact h1
  |succ i=>exact h4 i x u (by simpa using hx) (by simpa[elems]using hu)
section
variable{K:Hl}{t:Tree}{b:Nat}{w:aP}{tv av bv:Value}{tag n:Int}{oct:Bool}
def TSh(K:Hl)(t:Tree)(w:aP)(tv av bv:Value)(tag:Int)(oct:Bool)(n:Int):Prop:=
 (∃c,t=.const c∧w=if c=true then j6 else iB)∨(∃u v,t=.not_ u∧w=rJ∧RR K u [v] []∧Ksl (cC 159) K tv [v])∨
 (∃all l xs,t=.many all l∧w=xM all∧RR K l xs []∧Ksl (cC 159) K tv xs)∨(∃op x y,t=.mat tag oct op x y∧w=matW op∧Ksl (a7 9) K av x∧Ksl (a7 9) K bv y)∨
 (∃x,t=.exi x∧w=kP∧Ksl (a7 9) K av x∧lB av)∨(t=.siz tag n∧w=nL)
def rr_block{v:Cell}(hw:wf t 0=true)(h:RR K t [v] []):∃b w tv av bv tag oct n,v=pcl b∧K b=some (tsO w tv av bv tag oct n)∧TSh K t w tv av bv tag oct n:=by
 cases t with
 |const c=>obtain⟨_,b,e,hk⟩:=h;cases e;exact⟨b,_,_,_,_,_,_,_,Y,hk,.inl ⟨c,Y,Y⟩⟩
 |not_ u=>obtain⟨_,b,v,tv,e,h1,h2,hk⟩:=h;cases e;exact⟨b,_,_,_,_,_,_,_,Y,hk,.inr (.inl ⟨u,v,Y,Y,h1,h2⟩)⟩
 |many all l=>obtain⟨_,b,xs,tv,e,h1,h2,hk⟩:=h;cases e;exact⟨b,_,_,_,_,_,_,_,Y,hk,.inr (.inr (.inl ⟨all,l,xs,Y,Y,h1,h2⟩))⟩
 |mat tag oct op x y=>obtain⟨_,b,va,vb,e,h1,h2,hk⟩:=h;cases e;exact⟨b,_,_,_,_,_,_,_,Y,hk,.inr (.inr (.inr (.inl ⟨op,x,y,Y,Y,h1,h2⟩)))⟩
 |exi x=>obtain⟨_,b,va,e,h1,hf,hk⟩:=h;cases e;exact⟨b,_,_,_,_,_,_,_,Y,hk,.inr (.inr (.inr (.inr (.inl ⟨x,Y,Y,h1,hf⟩))))⟩
 |siz tag n=>obtain⟨_,b,e,hk⟩:=h;cases e;exact⟨b,_,_,_,_,_,_,_,Y,hk,.inr (.inr (.inr (.inr (.inr ⟨Y,Y⟩))))⟩
 |_=>simp[wf]at hw
def bDZ(all:Bool):xM all=lZ∨xM all=l4:=by cases all <;> simp[xM]
def y7(op:Int):matW op=gU∨matW op=dS∨matW op=gV:=by unfold matW;split;simp;split <;> simp
def aXK(c:Bool):(if c=true then j6 else iB)=j6∨(if c=true then j6 else iB)=iB:=by cases c <;> simp
def sh_cases(h:TSh K t w tv av bv tag oct n):w=j6∨w=iB∨w=rJ∨w=lZ∨w=l4∨w=gU∨w=dS∨w=gV∨w=kP∨w=nL:=by
 rcases h with ⟨c,_,e⟩|⟨_,_,_,e,_⟩|⟨all,_,_,_,e,_⟩|⟨op,_,_,_,e,_⟩|⟨_,_,e,_⟩|⟨_,e⟩
 ·rcases aXK c with h|h <;> rw[h]at e <;> simp[e]
 ·simp[e]
 ·rcases bDZ all with h|h <;> rw[h]at e <;> simp[e]
 ·rcases y7 op with h|h|h <;> rw[h]at e <;> simp[e]
 ·simp[e]
 simp[e]
def sh_const{c:Bool}(h:TSh K t w tv av bv tag oct n)(hw:w=if c=true then j6 else iB):t=.const c:=by
 rcases h with ⟨d,e,e2⟩|⟨_,_,_,e,_⟩|⟨all,_,_,_,e,_⟩|⟨op,_,_,_,e,_⟩|⟨_,_,e,_⟩|⟨_,e⟩
 ·have:d=c:=by revert hw;rw[e2];cases d <;> cases c <;> decide
  rw[e,this]
 all_goals exfalso;revert hw;rw[e]
 ·cases c <;> decide
 ·cases all <;> cases c <;> decide
 ·rcases y7 op with h|h|h <;> rw[h] <;> cases c <;> decide
 ·cases c <;> decide
 cases c <;> decide
def sh_not(h:TSh K t w tv av bv tag oct n)(hw:w=rJ):∃u v,t=.not_ u∧RR K u [v] []∧Ksl (cC 159) K tv [v]:=by
 rcases h with ⟨d,_,e⟩|⟨u,v,e,_,h1,h2⟩|⟨all,_,_,_,e,_⟩|⟨op,_,_,_,e,_⟩|⟨_,_,e,_⟩|⟨_,e⟩
 ·exfalso;revert hw;rw[e];cases d <;> decide
 ·exact⟨u,v,e,h1,h2⟩
 all_goals exfalso;revert hw;rw[e]
 ·cases all <;> decide
 ·rcases y7 op with h|h|h <;> rw[h] <;> decide
 ·decide
 decide
def sh_many{all:Bool}(h:TSh K t w tv av bv tag oct n)(hw:w=xM all):∃l xs,t=.many all l∧RR K l xs []∧Ksl (cC 159) K tv xs:=by
 rcases h with ⟨d,_,e⟩|⟨_,_,_,e,_⟩|⟨al2,l,xs,e,e2,h1,h2⟩|⟨op,_,_,_,e,_⟩|⟨_,_,e,_⟩|⟨_,e⟩
 ·exfalso;revert hw;rw[e];cases d <;> cases all <;> decide
 ·exfalso;revert hw;rw[e];cases all <;> decide
 ·have:al2=all:=by revert hw;rw[e2];cases all <;> cases al2 <;> decide
  subst this;exact⟨l,xs,e,h1,h2⟩
 all_goals exfalso;revert hw;rw[e]
 ·rcases y7 op with h|h|h <;> rw[h] <;> cases all <;> decide
 ·cases all <;> decide
 cases all <;> decide
def sh_mat(h:TSh K t w tv av bv tag oct n)(hw:w=gU∨w=dS∨w=gV):∃op x y,t=.mat tag oct op x y∧w=matW op∧Ksl (a7 9) K av x∧Ksl (a7 9) K bv y:=by
 rcases h with ⟨d,_,e⟩|⟨_,_,_,e,_⟩|⟨all,_,_,_,e,_⟩|⟨op,x,y,e,h1⟩|⟨_,_,e,_⟩|⟨_,e⟩
 ·exfalso;revert hw;rw[e];cases d <;> decide
 ·exfalso;revert hw;rw[e];decide
 ·exfalso;revert hw;rw[e];cases all <;> decide
 ·exact⟨op,x,y,e,h1⟩
 ·exfalso;revert hw;rw[e];decide
 exfalso;revert hw;rw[e];decide
def sh_exi(h:TSh K t w tv av bv tag oct n)(hw:w=kP):∃x,t=.exi x∧Ksl (a7 9) K av x∧lB av:=by
 rcases h with ⟨d,_,e⟩|⟨_,_,_,e,_⟩|⟨all,_,_,_,e,_⟩|⟨op,_,_,_,e,_⟩|⟨x,e,_,h1⟩|⟨_,e⟩
 ·exfalso;revert hw;rw[e];cases d <;> decide
 ·exfalso;revert hw;rw[e];decide
 ·exfalso;revert hw;rw[e];cases all <;> decide
 ·exfalso;revert hw;rw[e];rcases y7 op with h|h|h <;> rw[h] <;> decide
 ·exact⟨x,e,h1⟩
 exfalso;revert hw;rw[e];decide
def sh_siz(h:TSh K t w tv av bv tag oct n)(hw:w=nL):t=.siz tag n:=by
 rcases h with ⟨d,_,e⟩|⟨_,_,_,e,_⟩|⟨all,_,_,_,e,_⟩|⟨op,_,_,_,e,_⟩|⟨_,_,e,_⟩|⟨e,_⟩
 ·exfalso;revert hw;rw[e];cases d <;> decide
 ·exfalso;revert hw;rw[e];decide
 ·exfalso;revert hw;rw[e];cases all <;> decide
 ·exfalso;revert hw;rw[e];rcases y7 op with h|h|h <;> rw[h] <;> decide
 ·exfalso;revert hw;rw[e];decide
 exact e
end
def elemsC:Tree→List Tree
 | .ccons t l=>t::elemsC l
 |_=>[]
def rr_cmds{K:Hl}:∀ {l:Tree} {xs:List Cell},wf l 3=true→RR K l xs []→xs.length=(elemsC l).length∧∀(i:Nat) x t,xs[i]?=some x→(elemsC l)[i]?=some t→RR K t [x] []
 | .cnil,xs,_,⟨h,_⟩=>by subst h;exact⟨Y,fun i x t h=>by simp at h⟩
 | .ccons t l,xs,hw,⟨_,v,ys,e,h1,h2⟩=>by
  subst e;simp[wf]at hw;obtain⟨h3,h4⟩:=rr_cmds (l:=l) hw.2 h2;refine⟨by simp[elemsC,h3],fun i x u hx hu=>?_⟩
  cases i with
  |zero=>simp[elemsC]at hx hu;subst hx;subst hu;exact h1
  |succ i=>exact h4 i x u (by simpa using hx) (by simpa[elemsC]using hu)
def brL:Tree→List (Tree×Tree)
 | .bcons t b l=>(t,b)::brL l
 |_=>[]
def brO:Tree→Option Tree
 | .bcons _ _ l=>brO l
 | .belse b _=>some b
 |_=>none
def rr_brs{K:Hl}:∀ {l:Tree} {xs ys:List Cell},wf l 4=true→RR K l xs ys→xs.length=(brL l).length∧(∀(i:Nat) x pr,xs[i]?=some x→(brL l)[i]?=some pr→RR K pr.1 [x] []∧∃y zs,ys[i]?=some y∧RR K pr.2 zs []∧Ksl (cC 152) K y.1 zs)∧
  match brO l with
  |none=>ys.length=xs.length
  |some b=>ys.length=xs.length+1∧∃y zs,ys[xs.length]?=some y∧RR K b zs []∧Ksl (cC 152) K y.1 zs
 | .bnil,xs,ys,_,⟨h,h2⟩=>by subst h;subst h2;exact⟨Y,fun i x t h=>by simp at h,rfl⟩
 | .belse b l,xs,ys,_,⟨_,h,sv,zs,h2,h3,h4⟩=>by
  subst h;subst h2
  exact⟨Y,fun i x t h=>by simp at h,rfl,sv,zs,rfl,h3,h4⟩
 | .bcons t b l,xs,ys,hw,⟨v,xs2,sv,ys2,zs,e1,e2,h1,h2,h3,h4⟩=>by
  subst e1;subst e2
  simp[wf]at hw;obtain⟨g1,g2,g3⟩:=rr_brs (l:=l) hw.2.2 h4;refine⟨by simp[brL,g1],fun i x pr hx hp=>?_,?_⟩
  ·cases i with
   |zero=>simp[brL]at hx hp;subst hx;subst hp;exact⟨h1,sv,zs,Y,h2,h3⟩
   |succ i=>exact g2 i x pr (by simpa using hx) (by simpa[brL]using hp)
  show match brO l with|none=>_|some b=>_
  cases ho:brO l with
  |none=>rw[ho]at g3;simp[g3]
  |some b2=>
   rw[ho]at g3;obtain⟨g4,y,zs2,g5,g6,g7⟩:=g3;exact⟨by simp[g4],y,zs2,by simpa using g5,g6,g7⟩
end Go.Say
end

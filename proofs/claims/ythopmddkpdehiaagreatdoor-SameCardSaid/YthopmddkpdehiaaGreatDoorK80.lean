/-
  What the proof stands on, part 86: the logic of walks, the walks through the functions, the plain laws. Conditions: as each theorem says. (Merged and shortened by a program.)
-/
import Derived.Test.YthopmddkpdehiaaGreatDoorK78
import Derived.Test.YthopmddkpdehiaaGreatDoorK79
set_option linter.unusedVariables false
set_option linter.unusedSimpArgs false
set_option maxRecDepth 4000
set_option maxHeartbeats 1000000
section
attribute [local irreducible] Go.SL.T Go.SL.OL Go.SL.D Go.SL.DL Go.SL.Ev Go.SL.Ef Go.SL.EfS
namespace Go.Proofs
open Go Go.SL Go.Syn Go.Mach Go.Cmp
theorem aQX(s:aJ)(m:Msg)(hv:Value)(K:Hl)(hg:Glob K)(hE:ErrT K)(hh:Ksl hdEl K hv m.hs)(hz:MsgSz m):Sp Tryz.prog 12 [str s,msgV m hv] K [] (Ret fun v K' L'=>v=.bool true):=by
 have hh0:=hh;obtain⟨ha,hn,hc,rfl⟩:=hh.isSlice;refine a8 Tryz.func12 rfl Tryz.ntmps12 rfl rfl fun F w=>?_;refine zz3 ?_;rintro _ K _ ⟨b3,rfl,rfl,rfl⟩ -;refine zz5 ?_;refine aX rfl rfl (vT _ hg hE) .nil rfl ?_;rintro _ K1 _ ⟨rfl,rfl⟩ le1;refine zz6 ?_;refine aX rfl rfl (uU m (.slice ha hn hc) _ (hh0.mono le1) hz) .nil rfl ?_;rintro _ K1 _ ⟨sb,rfl,hsb,rfl,rfl⟩ -;refine zz12 ?_;refine aA gAF rfl ?_;refine zz3 ?_;refine eO 26 rfl (fun h26=>?_) (fun h26=>?_)
 ·refine zz8 ?_;refine uAl ?_;refine bD rfl rfl le1 ?_;exact⟨_,rfl,rfl⟩
 have hm:MsgOk m:=hsb (by simpa using h26);refine zz5 ?_;refine aX rfl rfl (lF s _ (hg.mono le1) (hE.mono le1)) .nil rfl ?_;rintro _ K4 _ ⟨x,rfl,hP,rfl⟩ le4;have le14:=Hl.le_trans le1 le4;refine zz9 ?_;rcases hP with ⟨b,r,h6,hr,rfl,hat⟩|⟨rfl,hno⟩
 ·refine zz13 ?_;refine aX rfl rfl (aU6 b r _ (hg.mono le14) (xK hr h6) hat) .nil rfl ?_;rintro _ K5 _ ⟨rfl,rfl⟩ le5;have htl:=(aGQ (xK hr h6)).2.2;have le15:=Hl.le_trans le14 le5;refine zz11 ?_;refine bK 40 rfl (fun h40=>?_) (fun h40=>?_)
  ·have le18:=le15;refine zz7 ?_;refine uAl ?_;refine bD rfl rfl le18 ?_;exact⟨_,rfl,rfl⟩
  have ht6:(mF r).length≤600:=aI;refine zz6 ?_;refine aX rfl rfl (aBD b r s m (.slice ha hn hc) _ (hg.mono le15) (hE.mono le15) hr h6 (hat.mono le5) (hh0.mono le15) hm) .nil rfl ?_;rintro _ K7 _ ⟨av,rfl,rfl⟩ le7;have le17:=Hl.le_trans le15 le7;refine zz13 ?_;refine aX rfl rfl (nZ (mF r) m (.slice ha hn hc) _ (hg.mono le17) (hE.mono le17) (hh0.mono le17) hm) .nil rfl ?_;rintro _ K8 _ ⟨bv,rfl,rfl⟩ le8;rw[Say.same_law m hr h6 ht6];have hal:(sayC r m).acts.length≤7:=aLF hm (aXH hr h6).1
  generalize hout:sayC r m=out at*
  have le18:=Hl.le_trans le17 le8;refine zz13 ?_;refine aX rfl rfl (tW av bv out.acts out.acts _ aI aI) (.cons (.there .here) (.cons .here .nil)) rfl ?_;rintro _ K8 _ ⟨rfl,rfl,rfl⟩ -;rw[decide_eq_true (rfl:out.acts=out.acts)];refine zz16 ?_;refine aA (wX rfl rfl rfl) rfl ?_;refine zz5 ?_;refine uAl ?_;refine bD rfl rfl le18 ?_;exact⟨_,rfl,rfl⟩
 refine zz15 ?_;refine uAl ?_;refine bD rfl rfl le14 ?_;exact⟨_,rfl,rfl⟩
end Go.Proofs
end

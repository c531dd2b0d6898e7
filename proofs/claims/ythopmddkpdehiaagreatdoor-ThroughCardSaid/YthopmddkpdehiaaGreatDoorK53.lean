/-
  What the proof stands on, part 53: the logic of walks, the walks through the functions, the plain laws. Conditions: as each theorem says. (Merged and shortened by a program.)
-/
import Derived.Test.YthopmddkpdehiaaGreatDoorK27
set_option linter.unusedVariables false
set_option linter.unusedSimpArgs false
set_option maxRecDepth 4000
set_option maxHeartbeats 1000000
section
attribute [local irreducible] Go.SL.T Go.SL.OL Go.SL.D Go.SL.DL Go.SL.Ev Go.SL.Ef Go.SL.EfS
namespace Go.Proofs
open Go Go.SL Go.Syn Go.Mach Go.Cmp
structure MsgSz (m:Msg):Prop where
 from_:m.from_.length≤140737488355328
 to_:m.to_.length≤140737488355328
 hn:m.hs.length≤140737488355328
 hs:∀h∈m.hs,h.1.length≤140737488355328∧h.2.length≤140737488355328
structure SI where
 i:Nat
 n:Int
theorem nZ(s:aJ)(m:Msg)(hv:Value)(K:Hl)(hg:Glob K)(hE:ErrT K)(hh:Ksl hdEl K hv m.hs)(hm:MsgOk m):Sp Tryz.prog 16 [str s,msgV m hv] K [] (Ret fun v K' L'=>∃av,v=.tuple #[av,i64 (rn s m).2.1,.bool (rn s m).2.2]∧L'=[sl true cS av (rn s m).1]):=by
 have hh0:=hh;obtain⟨ha,hn,hc,rfl⟩:=hh.isSlice;refine a8 Tryz.func16 rfl Tryz.ntmps16 rfl rfl fun F w=>?_;refine zz3 ?_;rintro _ K _ ⟨b3,rfl,rfl,rfl⟩ -;refine zz8 ?_;refine aX rfl rfl (lF s _ hg hE) .nil rfl ?_;rintro _ K1 _ ⟨x,rfl,hP,rfl⟩ le1;refine zz9 ?_;rcases hP with ⟨b,r,h6,hr,rfl,hat⟩|⟨rfl,hno⟩
 ·have hpc:pc s=(0,-1):=(by unfold pc;rw[if_neg aI,hr]);rw[hpc];have hrn:rn s m=((sayC r m).acts,(te (sayC r m).err).1,true):=(by unfold rn;rw[if_neg aI,hr]);refine zz13 ?_;refine bK 24 rfl (fun h24=>?_) (fun h24=>?_)
  ·exact absurd rfl h24
  refine zz6 ?_;refine aX rfl rfl (aBD b r s m (.slice ha hn hc) _ (hg.mono le1) (hE.mono le1) hr h6 hat (hh0.mono le1) hm) .nil rfl ?_;rintro _ K2 _ ⟨av,rfl,rfl⟩ le2;refine zz19 ?_;refine uAa ?_;refine yU rfl rfl rfl rfl (Hl.le_trans le1 le2) ?_;exact⟨_,rfl,av,by rw[hrn],by rw[hrn]⟩
 have hrn:rn s m=([],(pc s).1,false):=(by unfold rn pc;rcases hno with h|⟨e,h⟩;(rw[if_pos h,if_pos h]);(split;rfl;rw[h]));refine zz22 ?_;refine uAl ?_;refine fK (fun h hh=>tX (zf:=true) (k:=cS) hh) ?_;refine yU rfl rfl rfl rfl le1 ?_;exact⟨_,rfl,_,by rw[hrn],by rw[hrn]⟩
theorem aT3(K:Hl)(hg:Glob K)(hE:ErrT K):Sp Tryz.prog 23 [] K [] (Ret fun v K' L'=>v=.bool true∧L'=[]):=by
 have h1:=bTY;have h2:=bTZ;refine a8 Tryz.func23 rfl Tryz.ntmps23 rfl rfl fun F w=>?_;refine zz7 ?_;refine aX rfl rfl (lF t1 _ hg hE) .nil rfl ?_;rintro _ K1 _ ⟨x,rfl,hP,rfl⟩ le1;rw[h1];obtain⟨b,rfl⟩:∃b,x=ptr b:=(by rcases hP with ⟨b,_,_,_,rfl,_⟩|⟨_,hno⟩;exact⟨b,rfl⟩;(exfalso;unfold pc at h1;rcases hno with h|⟨e,h⟩;(rw[if_pos h]at h1;cases h1);(split at h1;cases h1;rw[h]at h1;simp only[]at h1;subst h1;exact absurd h (by intro h;have:=bUG;rw[h]at this;cases this))));refine zz11 ?_;refine aX rfl rfl (lF tb _ (hg.mono le1) (hE.mono le1)) .nil rfl ?_;rintro _ K2 _ ⟨y,rfl,hP2,rfl⟩ le2;rw[h2];obtain rfl:y=.pointer none:=(by rcases hP2 with ⟨b,r,h6,hr,_,_⟩|⟨rfl,_⟩;(exfalso;unfold pc at h2;rw[if_neg aI,hr]at h2;cases h2);rfl);refine zz41 ?_;refine bD rfl rfl (Hl.le_trans le1 le2) ?_;exact⟨_,rfl,rfl,rfl⟩
theorem bPL:MsgOk m1:=⟨by decide,by decide,by decide,by decide⟩
theorem vT(K:Hl)(hg:Glob K)(hE:ErrT K):Sp Tryz.prog 14 [] K [] (Ret fun v K' L'=>v=.bool true∧L'=[]):=by
 have h1:=bUB;have h2:=bUC;refine a8 Tryz.func14 rfl Tryz.ntmps14 rfl rfl fun F w=>?_;refine zz7 ?_;refine aX rfl rfl (aT3 _ hg hE) .nil rfl ?_;rintro _ K1 _ ⟨rfl,rfl⟩ le1;refine zz5 ?_;refine uBd ?_;refine cC (bH (z0:=[(str []),(str [])]) sU bSV rfl rfl rfl rfl (.cons rfl rfl rfl (.cons (.cons .nil)) .nil)) rfl ?_;rintro _ K _ ⟨b11,rfl,rfl,rfl⟩ -;refine fT fun K2 le2 hb11=>?_;have hh:Ksl hdEl K2 (.slice (some ⟨b11,0,none⟩) 1 1) m1.hs:=.inr ⟨b11,0,1,_,_,rfl,⟨_,hb11⟩,rfl⟩;have le12:=Hl.le_trans le1 le2;refine aA (cL bUO bPY (.cons rfl rfl rfl (.skip (.skip (.skip (.cons .nil)))) .nil)) rfl ?_;refine zz1 ?_;rintro _ K _ ⟨b2,rfl,rfl,rfl⟩ -;refine cA (cK gF rfl rfl rfl bF gAA (.cons (.cons (.cons (.cons .nil)))) gAJ) ?_;rintro _ K _ ⟨rfl,rfl⟩ -;refine zz5 ?_;refine aX rfl rfl (nZ t1 m1 _ _ (hg.mono le12) (hE.mono le12) hh bPL) .nil rfl ?_;rintro _ K3 _ ⟨av,rfl,rfl⟩ le3;rw[h1];have hh3:=hh.mono le3;have le13:=Hl.le_trans le12 le3;refine zz12 ?_;refine aX rfl rfl (nZ t2 m1 _ _ (hg.mono le13) (hE.mono le13) hh3 bPL) .nil rfl ?_;rintro _ K4 _ ⟨bv,rfl,rfl⟩ le4;rw[h2];have le14:=Hl.le_trans le13 le4;refine zz36 ?_;refine aA (bO (k:=cS) rfl Tryz.underlying29 rfl (.own (.there .here))) rfl ?_;refine zz7 ?_;refine aA (bO (k:=cS) rfl Tryz.underlying29 rfl (.own .here)) rfl ?_;refine zz7 ?_;refine aA (bE (k:=cS) (j:=0) gK rfl (.own .here) rfl rfl (by decide)) rfl ?_;refine zz1 ?_;refine aA (dC (n:=0) (k:=cS) lO rfl (.own .here) rfl) rfl ?_;refine zz1 ?_;refine aA (cL aVF aH2 (.cons rfl rfl rfl (.cons .nil) (.cons rfl rfl rfl (.skip (.cons .nil)) .nil))) rfl ?_;refine zz1 ?_;refine aA (aFW (a:=(3,[97,64,98])) (c:=(3,[97,64,98])) rfl rfl) rfl ?_;refine zz5 ?_;refine uAl ?_;refine bD rfl rfl le14 ?_;exact⟨_,rfl,rfl,rfl⟩
def vs4:List InsV:=[⟨1,1,0,false,nilC,nilC,0⟩,⟨4,1,0,false,nilC,nilC,0⟩,⟨14,0,0,false,nilC,nilC,0⟩,⟨13,0,0,false,nilC,nilC,0⟩]
end Go.Proofs
end

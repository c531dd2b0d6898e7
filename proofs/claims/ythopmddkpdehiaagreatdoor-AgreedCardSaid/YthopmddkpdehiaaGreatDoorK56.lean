/-
  What the proof stands on, part 56: the logic of walks, the walks through the functions, the plain laws. Conditions: as each theorem says. (Merged and shortened by a program.)
-/
import Derived.Test.YthopmddkpdehiaaGreatDoorK52
import Derived.Test.YthopmddkpdehiaaGreatDoorK55
set_option linter.unusedVariables false
set_option linter.unusedSimpArgs false
set_option maxRecDepth 4000
set_option maxHeartbeats 1000000
section
attribute [local irreducible] Go.SL.T Go.SL.OL Go.SL.D Go.SL.DL Go.SL.Ev Go.SL.Ef Go.SL.EfS
namespace Go.Proofs
open Go Go.SL Go.Syn Go.Mach Go.Cmp
theorem bVT(K:Hl):RIs K vs4 aSD:=by
 have n:Ksl (bN 9) K nilC.1 ([]:List aJ):=.inl ⟨none,0,rfl,rfl⟩;exact⟨⟨rfl,rfl,rfl,rfl,rfl,n,n⟩,⟨rfl,rfl,rfl,rfl,rfl,n,n⟩,⟨rfl,rfl,rfl,rfl,rfl,n,n⟩,⟨rfl,rfl,rfl,rfl,rfl,n,n⟩,trivial⟩
theorem ok4:∀o∈aSD,InsOk o:=by
 intro o ho;have:o=⟨1,1,0,false,[],[],0⟩∨o=⟨4,1,0,false,[],[],0⟩∨o=⟨14,0,0,false,[],[],0⟩∨o=⟨13,0,0,false,[],[],0⟩:=by simpa[aSD]using ho
 rcases this with rfl|rfl|rfl|rfl <;> exact⟨by simp,by simp,by simp,by simp⟩
theorem aR2(s:aJ)(m:Msg)(hv:Value)(K:Hl)(hg:Glob K)(hE:ErrT K)(hh:Ksl hdEl K hv m.hs)(hz:MsgSz m)(hs:s.length≤140737488355328):Sp Tryz.prog 4 [str s,msgV m hv] K [] (Ret fun v K' L'=>v=.bool true):=by
 have hh0:=hh;obtain⟨ha,hn,hc,rfl⟩:=hh.isSlice;refine a8 Tryz.func4 rfl Tryz.ntmps4 rfl rfl fun F w=>?_;refine zz3 ?_;rintro _ K _ ⟨b3,rfl,rfl,rfl⟩ -;refine zz5 ?_;refine aX rfl rfl (vT _ hg hE) .nil rfl ?_;rintro _ K1 _ ⟨rfl,rfl⟩ le1;refine zz6 ?_;refine aX rfl rfl (uU m (.slice ha hn hc) _ (hh0.mono le1) hz) .nil rfl ?_;rintro _ K1 _ ⟨sb,rfl,hsb,rfl,rfl⟩ -;refine zz12 ?_;refine aA gAF rfl ?_;refine zz3 ?_;refine eO 30 rfl (fun h30=>?_) (fun h30=>?_)
 ·refine zz8 ?_;refine uAl ?_;refine bD rfl rfl le1 ?_;exact⟨_,rfl,rfl⟩
 have hm:MsgOk m:=hsb (by simpa using h30);refine zz4 ?_;refine aA (cL wA pO (.cons rfl rfl rfl (.cons .nil) (.cons rfl rfl rfl (.skip (.cons .nil)) .nil))) rfl ?_;refine aA (cL wA pO (.cons rfl rfl rfl (.cons .nil) (.cons rfl rfl rfl (.skip (.cons .nil)) .nil))) rfl ?_;refine uAe ?_;refine uAe ?_;refine cC (bH (z0:=[.int .i64 0,.int .i64 0,.int .i64 0,.bool false,.slice none 0 0,.slice none 0 0,.int .i64 0,.int .i64 0,.int .i64 0,.int .i64 0,.bool false,.slice none 0 0,.slice none 0 0,.int .i64 0,.int .i64 0,.int .i64 0,.int .i64 0,.bool false,.slice none 0 0,.slice none 0 0,.int .i64 0,.int .i64 0,.int .i64 0,.int .i64 0,.bool false,.slice none 0 0,.slice none 0 0,.int .i64 0]) fV uH rfl rfl rfl rfl (.cons rfl rfl rfl (.cons (.cons (.cons (.cons (.cons (.cons (.cons .nil))))))) (.cons rfl rfl rfl (.skip (.skip (.skip (.skip (.skip (.skip (.skip (.cons (.cons (.cons (.cons (.cons (.cons (.cons .nil)))))))))))))) (.cons rfl rfl rfl (.skip (.skip (.skip (.skip (.skip (.skip (.skip (.skip (.skip (.skip (.skip (.skip (.skip (.skip (.cons (.cons (.cons (.cons (.cons (.cons (.cons .nil))))))))))))))))))))) (.cons rfl rfl rfl (.skip (.skip (.skip (.skip (.skip (.skip (.skip (.skip (.skip (.skip (.skip (.skip (.skip (.skip (.skip (.skip (.skip (.skip (.skip (.skip (.skip (.cons (.cons (.cons (.cons (.cons (.cons (.cons .nil)))))))))))))))))))))))))))) .nil))))) rfl ?_;rintro _ K _ ⟨b37,rfl,rfl,rfl⟩ -;refine fT fun K2 le2 hb37=>?_;have hk4:Ksl d9 K2 (.slice (some ⟨b37,0,none⟩) 4 4) vs4:=.inr ⟨b37,0,4,_,_,rfl,⟨_,hb37⟩,rfl⟩;have le12:=Hl.le_trans le1 le2;refine zz1 ?_;refine aX rfl rfl (aKX false _ (.slice ha hn hc) vs4 aSD m _ (hg.mono le12) (hE.mono le12) hk4 (bVT _) (hh0.mono le12) hm ok4 (by decide)) .nil rfl ?_;rintro _ K3 _ ⟨cv,rfl,rfl⟩ le3;rw[bDZ];have le13:=Hl.le_trans le12 le3;refine zz15 ?_;refine aA (bO (k:=cS) rfl Tryz.underlying29 rfl (.own .here)) rfl ?_;refine zz21 ?_;refine aA (cW rfl rfl gAI) rfl ?_;refine aX rfl rfl (lF (preV++s) _ (hg.mono le13) (hE.mono le13)) .nil rfl ?_;rintro _ K4 _ ⟨x,rfl,hP,rfl⟩ le4;have le14:=Hl.le_trans le13 le4;refine zz9 ?_;rcases hP with ⟨b,r,h6,hr,rfl,hat⟩|⟨rfl,hno⟩
 ·obtain⟨hins,hcl⟩:=aXH hr h6;have hsay:sayC r m=Mach.run true (Cmp.script r.2) m:=(by unfold sayC;rw[decide_eq_true (bJJ hr)]);have hst:=Mach.run_steps true m (Cmp.script r.2);have hal:=aLF (nm:=true) hm hins;refine zz13 ?_;refine aX rfl rfl (bBG b r (preV++s) _ hr h6 hat) .nil rfl ?_;rintro lv K4 _ ⟨rfl,ws,rfl⟩ -;refine gX fun K5 le5 hlv=>?_;refine aMM fun K6 le6 hws=>?_;have hlv6:=hlv.mono le6;have hwl:=hws.length;have le46:=Hl.le_trans le5 le6;have le16:=Hl.le_trans le14 le46;refine zz7 ?_;refine aX rfl rfl (aBD b r (preV++s) m (.slice ha hn hc) _ (hg.mono le16) (hE.mono le16) hr h6 (hat.mono le46) (hh0.mono le16) hm) .nil rfl ?_;rintro _ K7 _ ⟨av,rfl,rfl⟩ le7;rw[hsay];have le17:=Hl.le_trans le16 le7;have hlv7:=hlv6.mono le7;refine zz13 ?_;refine aX rfl rfl (aKX true lv (.slice ha hn hc) ws (Cmp.script r.2) m _ (hg.mono le17) (hE.mono le17) hlv7 (hws.mono le7) (hh0.mono le17) hm hins hcl) .nil rfl ?_;rintro _ K8 _ ⟨bv,rfl,rfl⟩ le8
  generalize hout:Mach.run true (Cmp.script r.2) m=out at*
  have hlv8:=hlv7.mono le8;refine zz15 ?_;refine aX rfl rfl (tW av bv out.acts out.acts _ aI aI) (.cons (.there .here) (.cons .here .nil)) rfl ?_;rintro _ K8 _ ⟨rfl,rfl,rfl⟩ -;rw[decide_eq_true (rfl:out.acts=out.acts)];refine zz12 ?_;refine aA (wX rfl rfl rfl) rfl ?_;refine zz7 ?_;refine aA (wX rfl rfl rfl) rfl ?_;refine zz7 ?_;refine aA (bO (k:=d9) rfl Tryz.underlying42 rfl (.known hlv8)) rfl ?_;refine zz7 ?_;refine uAl ?_;refine bD rfl rfl (Hl.le_trans le17 le8) ?_;exact⟨_,rfl,by rw[decide_eq_true aI]⟩
 refine zz15 ?_;refine uAl ?_;refine bD rfl rfl le14 ?_;exact⟨_,rfl,rfl⟩
end Go.Proofs
end

/-
  What the proof stands on, part 78: the logic of walks, the walks through the functions, the plain laws. Conditions: as each theorem says. (Merged and shortened by a program.)
-/
import Derived.Test.YthopmddkpdehiaaGreatDoorK49
set_option linter.unusedVariables false
set_option linter.unusedSimpArgs false
set_option maxRecDepth 4000
set_option maxHeartbeats 1000000
section
attribute [local irreducible] Go.SL.T Go.SL.OL Go.SL.D Go.SL.DL Go.SL.Ev Go.SL.Ef Go.SL.EfS
namespace Go.Proofs
open Go Go.SL Go.Syn Go.Box Go.Mach
theorem bRI:kW []:=⟨(fun f h=>by cases h),(by simp[Box.bodyC]),(by simp)⟩
theorem aV9(vv:Value)(vs:List StepV)(K:Hl)(hg:Glob K)(hdb:Deb K)(hE:ErrT K)(hv:Ksl gA K vv vs)(hs:∀x∈vs,StepIs K x)(hz:∀x∈vs,StepSz x)(hl:vs.length≤140737488355328):
  Sp Tryz.prog 11 [vv] K [] (Ret fun r K' L'=>r=.bool true):=by
 refine a8 Tryz.func11 rfl Tryz.ntmps11 rfl rfl fun F w=>?_;refine zz8 ?_;refine aX rfl rfl (bHO vv vs _ hv hs hz hl) .nil rfl ?_;rintro _ K _ ⟨fb,rfl,hfb,rfl,rfl⟩ -;refine zz7 ?_;refine aA gAF rfl ?_;refine zz2 ?_;refine eO 10 rfl (fun h10=>?_) (fun h10=>?_)
 ·refine zz7 ?_;refine uAl ?_;refine bD rfl rfl gBC ?_;exact⟨_,rfl,rfl⟩
 obtain⟨hvl,hfit⟩:=hfb (by simpa using h10);refine zz4 ?_;refine aX rfl rfl (aBB _ [] _ (.inl ⟨_,_,rfl,rfl⟩) (by simp)) .nil rfl ?_;rintro _ K1 _ ⟨bx,d,rfl,hbx,rfl⟩ le1;refine zz15 ?_;refine n8 (fun(i:Nat) (K2:Hl) (v:Value) (lu:List fY×DSt)=>i≤vs.length∧K1.le K2∧Ksl cD K2 v lu.1∧lu.1.length≤6*i∧Box.Rest lu.2∧gQ lu.2.dur lu.1∧lu.2.dur bM=none) (fun i _ v _=>[(0,vv),(4,ptr bx),(5,v),(6,i64 i)]) (fun _ K2 _ _=>K2) (fun _ K2 _ lu=>[dsk K2 d lu.2]) (fun i _ _ _=>vs.length - i) 0 K1 (.slice none 0 0) ([],durE) ⟨Nat.zero_le _,Hl.le_refl _,.inl ⟨_,_,rfl,rfl⟩,Nat.zero_le _,bPP,bHI,rfl⟩ (.cons 0 rfl (.cons 4 rfl (.cons 5 rfl (.cons 6 rfl .nil)))) rfl (fun _ h=>h) ?_;intro i K2 v ⟨l,u⟩ ⟨hi,leL,hvl2,hll,hR,hf,hj⟩;refine zz5 ?_;refine aA (bO (k:=gA) rfl Tryz.underlying68 rfl (.known (hv.mono (Hl.le_trans le1 leL)))) rfl ?_;refine zz3 ?_;refine bK 15 rfl (fun h15=>?_) (fun h15=>?_)
 ·have hlt:i < vs.length:=by omega
  obtain⟨x,hx⟩:∃x,vs[i]?=some x:=⟨vs[i]'hlt,List.getElem?_eq_getElem hlt⟩;have le02:=Hl.le_trans le1 leL;have hxs:=(hs x (List.mem_of_getElem? hx)).mono le02;have hxf:=hfit x (List.mem_of_getElem? hx);have hv2k:=hv.mono le02;simp only at hll hR hf hj hvl2;refine zz10 ?_;refine aA (bE (k:=gA) (j:=i) m7 rfl (.known hv2k) rfl rfl hlt) rfl ?_;refine aA (dC (n:=0) (k:=gA) aLR rfl (.known hv2k) hx) rfl ?_;refine aX rfl rfl (aDV bx d u v l x true _ _ (Hl.le_refl _) (hbx.mono leL) (hg.mono le02) (hdb.mono le02) (hE.mono le02) hvl2 hxs hxf hR hf hj aI) (.cons .here .nil) rfl ?_;rintro _ K3 _ ⟨v2,l2,u2,rfl,hv2,hl2,hR2,hf2,hj2,rfl⟩ le3;refine zz19 ?_;have le03:=Hl.le_trans le02 le3;have hv3k:=hv2k.mono le3;refine zz2 ?_;refine aA (bE (k:=gA) (j:=i) m7 rfl (.known hv3k) rfl rfl hlt) rfl ?_;refine aA (dQ (k:=gA) (j:=i) bK2 rfl (.known hv3k) hlt) rfl ?_;refine aA (fD (k:=gA) ts4 rfl (.known hv3k) hx rfl) rfl ?_;refine zz2 ?_;refine eO 34 rfl (fun h34=>?_) (fun h34=>?_)
  ·refine zz7 ?_;refine aA (bE (k:=gA) (j:=i) m7 rfl (.known hv3k) rfl rfl hlt) rfl ?_;refine aA (dC (n:=0) (k:=gA) aLR rfl (.known hv3k) hx) rfl ?_;refine aX rfl rfl (xN bx d u2 v2 v2 l2 l2 x [] u2.dur _ _ (Hl.le_refl _) ((hbx.mono leL).mono le3) (hg.mono le03) (hdb.mono le03) (hE.mono le03) hv2 hv2 (hxs.mono le3) hxf hf2 (by rw[aI4 (fun x h=>by cases h) hj2];exact hf2) aI aI bRI (fun x h=>by cases h) hj2 (aAT hR2 (bH8 hj2 (.inl rfl)))) (.cons .here .nil) rfl ?_;rintro _ K4 _ ⟨v3,l3,u3,rfl,hvl3,hR3,hf3,hd3,rfl⟩ le4;have hv3:Ksl cD _ v3 l3:=(by rcases hvl3 with ⟨rfl,rfl⟩|⟨rfl,rfl⟩ <;> exact hv2.mono le4);have hll3:l3.length=l2.length:=(by rcases hvl3 with ⟨rfl,rfl⟩|⟨rfl,rfl⟩ <;> rfl);have hj3:=bRH hj2 hd3;refine zz22 ?_
   first
    |exact gS (i+1) _ _ (l3,u3) ⟨by omega,Hl.le_trans leL (Hl.le_trans le3 le4),hv3,by (first|omega|(simp only at*;omega)),hR3,hf3,hj3⟩ aI (.cons 0 rfl (.cons 4 rfl (.cons 5 rfl (.cons 6 rfl .nil)))) rfl (fun _ h=>h)
    |exact gS (i+1) _ v2 (l2,u2) ⟨by omega,Hl.le_trans leL le3,hv2,by (first|omega|(simp only at*;omega)),hR2,hf2,hj2⟩ aI (.cons 0 rfl (.cons 4 rfl (.cons 5 rfl (.cons 6 rfl .nil)))) rfl (fun _ h=>h)
  refine zz8 ?_
  first
   |exact gS (i+1) _ _ (l3,u3) ⟨by omega,Hl.le_trans leL (Hl.le_trans le3 le4),hv3,by (first|omega|(simp only at*;omega)),hR3,hf3,hj3⟩ aI (.cons 0 rfl (.cons 4 rfl (.cons 5 rfl (.cons 6 rfl .nil)))) rfl (fun _ h=>h)
   |exact gS (i+1) _ v2 (l2,u2) ⟨by omega,Hl.le_trans leL le3,hv2,by (first|omega|(simp only at*;omega)),hR2,hf2,hj2⟩ aI (.cons 0 rfl (.cons 4 rfl (.cons 5 rfl (.cons 6 rfl .nil)))) rfl (fun _ h=>h)
 refine zz11 ?_;refine uAl ?_;refine bD rfl rfl gBC ?_;exact⟨_,rfl,rfl⟩
end Go.Proofs
end

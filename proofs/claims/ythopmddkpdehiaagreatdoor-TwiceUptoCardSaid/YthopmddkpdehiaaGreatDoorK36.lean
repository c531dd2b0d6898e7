/-
  What the proof stands on, part 36: the logic of walks, the walks through the functions, the plain laws. Conditions: as each theorem says. (Merged and shortened by a program.)
-/
import Derived.Test.YthopmddkpdehiaaGreatDoorK35
set_option linter.unusedVariables false
set_option linter.unusedSimpArgs false
set_option maxRecDepth 4000
set_option maxHeartbeats 1000000
namespace Go
theorem gBF{p:Prop}(h:p:=by first|assumption|exact Hl.le_refl _):p:=h
end Go
section
namespace Go.SL
section
variable{E:Env}{fr:Fr}{K:Hl}{L:List Asn}{Q:Post}{c x y:Code}{ops:Array Oper}{rest:List Oper}
theorem bR6{A:Asn}(h:T E c fr K L Q):T E c fr K (A::L) Q:=fun a w f i=>h a w f i.drop
end
end Go.SL
end
section
attribute [local irreducible] Go.SL.T Go.SL.OL Go.SL.D Go.SL.DL Go.SL.Ev Go.SL.Ef Go.SL.EfS
namespace Go.Proofs
open Go Go.SL Go.Syn Go.Box Go.Mach
theorem bKL(b:Nat)(s s':DSt)(hs:d6 s=(none,s'))(hd:s'.down=false)(hj:s'.now bM=none)(K K0:Hl)(le:K0.le K)(hp:s.pend.length≤600000):
  Sp Tryz.prog 82 [dV b] K [dsk K0 b s] (Ret fun r K' L'=>r=.nilIface∧L'=[dsk K' b s']):=by
 have hy:=aQ8 b s aI;rw[hs]at hy;have hr:=bAD b s' bM;rw[aCY hd hj]at hr;refine a8 Tryz.func82 rfl Tryz.ntmps82 rfl rfl fun F w=>?_;refine zz3 ?_;rintro _ K _ ⟨b1,rfl,rfl,rfl⟩ -;refine zz7 ?_;refine jA rfl rfl (bIH b) (hy _ _ le) (.cons (.there .here) .nil) rfl ?_;rintro _ K1 _ ⟨rfl,rfl⟩ le1;refine zz15 ?_;refine jA rfl rfl (bPM b) (hr _ _ (Hl.le_refl _)) (.cons .here .nil) rfl ?_;rintro _ K2 _ ⟨u,rfl,rfl⟩ le2;refine zz12 ?_;refine aA (cY Tryz.underlying30 (fun _ h=>by cases h) rfl) rfl ?_;refine aA (zB (vD rfl rfl (fun _=>aZN _ _) (fun w=>aZO (some 14) 14 w)) rfl) rfl ?_;refine zz12 ?_;refine uAv ?_;refine bD rfl rfl (Hl.le_trans le1 le2) ?_;exact⟨_,rfl,rfl,rfl⟩
theorem bIQ(b:Nat)(s s':DSt)(hs:d6 s=(none,s'))(hd:s'.down=false)(hj:s'.now bM=none)(K K0:Hl)(le:K0.le K)(hp:s.pend.length≤600000):
  Sp Tryz.prog 48 [dV b] K [dsk K0 b s] (Ret fun r K' L'=>r=.nilIface∧L'=[dsk K' b s']):=by
 refine a8 Tryz.func48 rfl Tryz.ntmps48 rfl rfl fun F w=>?_;refine zz8 ?_;refine aX rfl rfl (bKL b s s' hs hd hj _ _ le hp) (.cons .here .nil) rfl ?_;rintro _ K1 _ ⟨rfl,rfl⟩ le1;refine zz4 ?_;refine bD rfl rfl le1 ?_;exact⟨_,rfl,rfl,rfl⟩
theorem bF1(bx b:Nat)(l f kept part:Int)(s s':DSt)(hs:d6 (s.set l f)=(none,s'))(hd:s'.down=false)(hj:s'.now bM=none)(K K0:Hl)(le:K0.le K)(hx:yJ K bx b)(hE:ErrT K)(hp:s.pend.length≤600000):
  Sp Tryz.prog 28 [ptr bx,i64 l,i64 f,i64 kept,i64 part] K [dsk K0 b s] (Ret fun r K' L'=>r=i64 0∧L'=[dsk K' b (s'.set (-1) (-1))]):=by
 obtain⟨T,fz,hk⟩:=hx;refine a8 Tryz.func28 rfl Tryz.ntmps28 rfl rfl fun F w=>?_;refine zz6 ?_;refine aLP fun L2 hd2=>?_;obtain⟨m1,m2,es1,c1,es2,c2,pv,hm1,hm2,hop,hpv,rfl⟩:=hd2;refine dD (anc:=[0,1,3,7,0,16,48,112,0,0,511,1535,3583,8191,16383,32767]) (ord:=[0,1,2,3,4,5,6,7,8,9,10,11,12,13,14,15]) [12,15] [15] mixed gAH .nil ?_;refine zz12 ?_;refine uBi ?_;rintro _ K _ ⟨rfl,rfl⟩ -;refine⟨_,(show Tks _ _ _ from .nil).sat,?_⟩
 refine zz2 ?_;refine uAk ?_;rintro _ K _ ⟨rfl,rfl⟩ -;refine zz3 ?_;refine kF (aAX (s:=s) (M:=[]) (l:=l) (f:=f) hm1 hm2 hop hpv) ?_;refine zz5 ?_;refine aA (cY Tryz.underlying103 (fun _ h=>by cases h) rfl) rfl ?_;refine aX rfl rfl (bIQ b (s.set l f) s' hs hd hj _ _ le hp) (.cons .here .nil) rfl ?_;rintro _ K1 _ ⟨rfl,rfl⟩ le1;refine zz6 ?_;refine aX rfl rfl (aRK none _ (hE.mono le1)) .nil rfl ?_;rintro _ K1 _ ⟨rfl,rfl,rfl⟩ -;refine zz9 ?_;have hk3:=le1 _ _ hk;refine aLP fun L2 hd2=>?_;obtain⟨n1,n2,fs1,d1,fs2,d2,qv,hn1,hn2,hoq,hqv,rfl⟩:=hd2;refine zz7 ?_;refine aA (gN (v:=.bool false) (aL ts4 rfl (.own .here) rfl) (by rw[hd])) rfl ?_;refine zz6 ?_;refine dD (anc:=[0,1,3,7,0,16,48,112,255,511,1023,2047,4095,8191]) (ord:=[0,1,2,3,4,5,6,7,8,9,10,11,12,13]) [10,13] [10,13] mixed gAH .nil ?_;refine zz10 ?_;refine uBk ?_;rintro _ K _ ⟨rfl,rfl⟩ -;refine zz2 ?_;refine uAk ?_;rintro _ K _ ⟨rfl,rfl⟩ -;refine zz3 ?_;refine kF (aAX (s:=s') (M:=[]) (l:= -1) (f:= -1) hn1 hn2 hoq hqv) ?_;refine zz6 ?_;refine bD rfl rfl le1 ?_;exact⟨_,rfl,rfl,rfl⟩
end Go.Proofs
end

/-
  What the proof stands on, part 12: the logic of walks, the walks through the functions, the plain laws. Conditions: as each theorem says. (Merged and shortened by a program.)
-/
import Derived.Test.YthopmddkpdehiaaGreatDoorK4
set_option linter.unusedVariables false
set_option linter.unusedSimpArgs false
set_option maxRecDepth 4000
set_option maxHeartbeats 1000000
section
attribute [local irreducible] Go.SL.T Go.SL.OL Go.SL.D Go.SL.DL Go.SL.Ev Go.SL.Ef Go.SL.EfS
namespace Go.Proofs
open Go Go.SL
def aO8(K:Hl)(e at_:Int)(M:List Asn):Ending→Hl→List Asn→Prop:=fun en K' L'=>
 ∃b,en=.panicked [{v:=.iface 118 (ptr b),recovered:=false}]∧K'=K∧L'=pt b (aZ [i64 e,i64 at_] 123)::M
def aIE(p:Prop)(N:Value→Hl→List Asn→Prop)(K:Hl)(e at_:Int)(M:List Asn):Ending→Hl→List Asn→Prop:=fun en K' L'=>
 (p∧Ret N en K' L')∨(¬p∧aO8 K e at_ M en K' L')
theorem aHU{p:Prop}{N:Value→Hl→List Asn→Prop}{K:Hl}{e at_:Int}{M:List Asn}(K':Hl)(L':List Asn):¬aIE p N K e at_ M .outgrown K' L':=by
 rintro(⟨_,_,h,_⟩|⟨_,_,h,_⟩) <;> cases h
theorem aOL(x:Value)(e at_:Int)(K:Hl):Sp Tryz.prog 90 [x,i64 e,i64 at_] K [] (aO8 K e at_ []):=by
 refine a8 Tryz.func90 rfl Tryz.ntmps90 rfl rfl fun F w=>?_;refine zz3 ?_;refine aA (cL bPU bKS (.cons rfl rfl rfl (.cons .nil) (.cons rfl rfl rfl (.skip (.cons .nil)) .nil))) rfl ?_;refine zz1 ?_;rintro _ K _ ⟨b9,rfl,rfl,rfl⟩ -;refine aA (cY Tryz.underlying118 (fun _ h=>by cases h) rfl) rfl ?_;refine aT1 rfl ?_;refine bX (Hl.le_refl _) ?_;exact⟨_,rfl,rfl,rfl⟩
theorem aIL(x:Value)(K:Hl):Sp Tryz.prog 92 [x,.bool true] K [] (Val (.tuple #[]) K):=by
 refine a8 Tryz.func92 rfl Tryz.ntmps92 rfl rfl fun F w=>?_;refine zz3 ?_;refine aA gAF rfl ?_;refine zz5 ?_;exact⟨rfl,rfl,rfl⟩
abbrev mblk(b:Nat)(c0 c1 c2 c3 c4 c5 c6 c7 c8 c9:Value)(pc:Int):Asn:=pt b (aZ [c0,c1,c2,c3,c4,c5,c6,c7,c8,c9,i64 pc] 178)
theorem aKQ(b:Nat)(c0 c1 c2 c3 c4 c5 c6 c7 c8 c9:Value)(pc:Int)(K:Hl):Sp Tryz.prog 92 [ptr b,.bool false] K [mblk b c0 c1 c2 c3 c4 c5 c6 c7 c8 c9 pc] (aO8 K 12 pc [mblk b c0 c1 c2 c3 c4 c5 c6 c7 c8 c9 pc]):=by
 refine a8 Tryz.func92 rfl Tryz.ntmps92 rfl rfl fun F w=>?_;refine zz3 ?_;refine aA gAF rfl ?_;refine zz9 ?_;refine bL rfl rfl (aOL _ _ _ _) .nil rfl gAG ?_ ?_
 ·rintro _ _ _ ⟨fb,h,rfl,rfl⟩ -;cases h
  refine bX (Hl.le_refl _) ?_;exact⟨fb,rfl,rfl,rfl⟩
 rintro _ _ _ ⟨_,h,_⟩;cases h
theorem aF5(p:Prop)[Decidable p](b:Nat)(c0 c1 c2 c3 c4 c5 c6 c7 c8 c9:Value)(pc:Int)(K:Hl):Sp Tryz.prog 92 [ptr b,.bool (decide p)] K [mblk b c0 c1 c2 c3 c4 c5 c6 c7 c8 c9 pc]
  (aIE p (fun v K' L'=>v=.tuple #[]∧K'=K∧L'=[mblk b c0 c1 c2 c3 c4 c5 c6 c7 c8 c9 pc]) K 12 pc [mblk b c0 c1 c2 c3 c4 c5 c6 c7 c8 c9 pc]):=by
 by_cases h:p
 ·rw[decide_eq_true h];exact(aE2 [mblk b c0 c1 c2 c3 c4 c5 c6 c7 c8 c9 pc] (aIL (ptr b) K)).mono fun e K' L' ⟨N,⟨h1,h2,h3⟩,h4⟩=>.inl ⟨h,_,h1,rfl,h2,by rw[h4,h3];rfl⟩
 rw[decide_eq_false h];exact(aKQ b c0 c1 c2 c3 c4 c5 c6 c7 c8 c9 pc K).mono fun e K' L' q=>.inr ⟨h,q⟩
def j9:El Bool:={e:=4,sz:=1,enc:=fun b=>[.bool b],len:=fun _=>rfl,one:=fun _ u h=>by simp at h;subst h;rfl}
theorem bDO(b:Nat)(c0 c1 c2 c3 c4 c5 c6 c7 c8 c9:Value)(pc:Int)(st:List Bool)(v:Bool)(K:Hl):Sp Tryz.prog 142 [ptr b,.bool v] K [mblk b c0 c1 c2 c3 c4 c5 c6 c7 c8 c9 pc,sl false j9 c9 st]
  (aIE ((st.length:Int) < 8) (fun r K' L'=>r=.tuple #[]∧K'=K∧∃c9',L'=[mblk b c0 c1 c2 c3 c4 c5 c6 c7 c8 c9' pc,sl false j9 c9' (st++[v])]) K 12 pc [mblk b c0 c1 c2 c3 c4 c5 c6 c7 c8 c9 pc,sl false j9 c9 st]):=by
 refine a8 Tryz.func142 rfl Tryz.ntmps142 rfl rfl fun F w=>?_;refine zz7 ?_;refine aA (bO (k:=j9) rfl Tryz.underlying176 rfl aM) rfl ?_;refine zz1 ?_;refine bL rfl rfl (aF5 _ _ _ _ _ _ _ _ _ _ _ _ _ _) (.cons .here .nil) rfl aHU ?_ ?_
 ·rintro _ _ _ (⟨_,_,h,_⟩|⟨hp,fb,h,rfl,rfl⟩) -
  ·cases h
  cases h
  refine aP ?_;refine bX (Hl.le_refl _) ?_;exact .inr ⟨by omega,fb,rfl,rfl,rfl⟩
 rintro _ _ _ (⟨hp,_,h,rfl,rfl,rfl⟩|⟨_,_,h,_⟩) -
 rotate_left
 ·cases h
 cases h
 refine zz9 ?_;refine cC (bH (z0:=[.bool false]) aG0 tz4 rfl rfl rfl rfl (.cons rfl rfl rfl (.cons .nil) .nil)) rfl ?_;rintro _ K _ ⟨b18,rfl,rfl,rfl⟩ -;refine cC (dN (k:=j9) (ys:=[v]) aVG rfl rfl bF (fun w j=>dE Tryz.underlying176 (SeesSl.at (.blk (.own .here) rfl rfl) j)) gAE gAE) rfl ?_;rintro v19 K _ ⟨rfl,rfl,ho19⟩ -;refine zz2 ?_;refine cA (bP aB8 rfl rfl cJ bF (.succ (.succ (.succ (.succ (.succ (.succ (.succ (.succ (.succ .zero))))))))) rfl) ?_;rintro _ K _ ⟨rfl,rfl⟩ -;refine aG ?_;refine uAf ?_;refine zz1 ?_;exact .inl ⟨hp,_,rfl,rfl,rfl,_,rfl⟩
theorem bCH(b:Nat)(c0 c1 c2 c3 c4 c5 c6 c7 c8 c9:Value)(pc by_ n:Int)(yes:Bool)(K:Hl)(hp:0≤pc∧pc < 1000)(hn:0≤n∧n < 1000):Sp Tryz.prog 146 [ptr b,i64 by_,i64 n,.bool yes] K [mblk b c0 c1 c2 c3 c4 c5 c6 c7 c8 c9 pc]
  (aIE (0≤by_∧by_ < n - pc) (fun r K' L'=>r=.tuple #[]∧K'=K∧L'=[mblk b c0 c1 c2 c3 c4 c5 c6 c7 c8 c9 (if yes then pc+by_ else pc)]) K 12 pc [mblk b c0 c1 c2 c3 c4 c5 c6 c7 c8 c9 pc]):=by
 refine a8 Tryz.func146 rfl Tryz.ntmps146 rfl rfl fun F w=>?_;refine zz6 ?_;refine cH 11 rfl (fun g11=>?_) (fun g11=>?_)
 ·refine zz17 ?_;refine bL rfl rfl (aF5 _ _ _ _ _ _ _ _ _ _ _ _ _ _) (.cons .here .nil) rfl aHU ?_ ?_
  ·rintro _ _ _ (⟨_,_,h,_⟩|⟨hp,fb,h,rfl,rfl⟩) -
   ·cases h
   cases h
   refine aP ?_;refine bX (Hl.le_refl _) ?_;exact .inr ⟨by omega,fb,rfl,rfl,rfl⟩
  rintro _ _ _ (⟨hp,_,h,rfl,rfl,rfl⟩|⟨_,_,h,_⟩) -
  rotate_left
  ·cases h
  cases h
  refine zz7 ?_;refine eO 22 rfl (fun h22=>?_) (fun h22=>?_)
  ·subst h22;refine zz9 ?_;refine cA (bP ts3 rfl rfl cJ bF (.succ (.succ (.succ (.succ (.succ (.succ (.succ (.succ (.succ (.succ .zero)))))))))) rfl) ?_;rintro _ K _ ⟨rfl,rfl⟩ -;refine zz2 ?_;exact .inl ⟨by omega,_,rfl,rfl,rfl,rfl⟩
  subst h22;refine zz2 ?_;exact .inl ⟨by omega,_,rfl,rfl,rfl,rfl⟩
 refine zz9 ?_;refine bL rfl rfl (aKQ _ _ _ _ _ _ _ _ _ _ _ _ _) (.cons .here .nil) rfl gAG ?_ ?_
 ·rintro _ _ _ ⟨fb,h,rfl,rfl⟩ -;cases h
  refine aP ?_;refine bX (Hl.le_refl _) ?_;exact .inr ⟨by omega,fb,rfl,rfl,rfl⟩
 rintro _ _ _ ⟨_,h,_⟩;cases h
end Go.Proofs
end

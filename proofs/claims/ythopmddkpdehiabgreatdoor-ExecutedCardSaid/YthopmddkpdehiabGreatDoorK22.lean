/-
  What the proof stands on, part 22: the logic of walks, the walks through the functions, the plain laws. Conditions: as each theorem says. (Merged and shortened by a program.)
-/
import Derived.Test.YthopmddkpdehiabGreatDoorK12
import Derived.Test.YthopmddkpdehiabGreatDoorK17
set_option linter.unusedVariables false
set_option linter.unusedSimpArgs false
set_option linter.defProp false
set_option maxRecDepth 4000
set_option maxHeartbeats 1000000
section
attribute [local irreducible] Go.SL.T Go.SL.OL Go.SL.D Go.SL.DL Go.SL.Ev Go.SL.Ef Go.SL.EfS
namespace Go.Proofs
open Go Go.SL
def aLN(K:Hl)(e at_:Int)(M:List Asn):Ending→Hl→List Asn→Prop:=fun en K' L'=>
 ∃b,en=.panicked [{v:=.iface 126 (ptr b),recovered:=false}]∧K'=K∧L'=pt b (bL [i64 e,i64 at_] 131)::M
def aFM(p:Prop)(N:Value→Hl→List Asn→Prop)(K:Hl)(e at_:Int)(M:List Asn):Ending→Hl→List Asn→Prop:=fun en K' L'=>
 (p∧Ret N en K' L')∨(¬p∧aLN K e at_ M en K' L')
def aEV{p:Prop}{N:Value→Hl→List Asn→Prop}{K:Hl}{e at_:Int}{M:List Asn}(K':Hl)(L':List Asn):¬aFM p N K e at_ M .outgrown K' L':=by
 rintro(⟨_,_,h,_⟩|⟨_,_,h,_⟩) <;> cases h
def aKW(x:Value)(e at_:Int)(K:Hl):Sp x3 90 [x,i64 e,i64 at_] K [] (aLN K e at_ []):=by
 refine bN Tryz.func90 Y Tryz.ntmps90 Y Y fun F w=>?_;refine zz3 ?_;refine aA (dG bK8 bGS dF) Y (zz1 ?_);rintro _ K _ ⟨b9,rfl,rfl,rfl⟩ -;refine aA (fE Tryz.underlying126 (fun _ h=>by cases h) Y) Y ?_;refine aPP Y ?_;refine cK (xAB _) ?_;exact⟨_,Y,Y,Y⟩
def aFQ(x:Value)(K:Hl):Sp x3 92 [x,.bool true] K [] (Val (.tuple #[]) K):=by
 refine bN Tryz.func92 Y Tryz.ntmps92 Y Y fun F w=>?_;refine zz3 ?_;refine aA gC3 Y (zz5 ?_);exact⟨Y,Y,Y⟩
abbrev mblk(b:Nat)(c0 c1 c2 c3 c4 c5 c6 c7 c8 c9:Value)(pc:Int):Asn:=pt b (bL [c0,c1,c2,c3,c4,c5,c6,c7,c8,c9,i64 pc] 170)
def aHL(b:Nat)(c0 c1 c2 c3 c4 c5 c6 c7 c8 c9:Value)(pc:Int)(K:Hl):Sp x3 92 [ptr b,.bool false] K [mblk b c0 c1 c2 c3 c4 c5 c6 c7 c8 c9 pc] (aLN K 12 pc [mblk b c0 c1 c2 c3 c4 c5 c6 c7 c8 c9 pc]):=by
 refine bN Tryz.func92 Y Tryz.ntmps92 Y Y fun F w=>?_;refine zz3 ?_;refine aA gC3 Y (zz9 ?_);refine cA Y Y (aKW _ _ _ _) .nil Y gC6 ?_ ?_
 ·rintro _ _ _ ⟨fb,h,rfl,rfl⟩ -;cases h
  refine cK (xAB _) ?_;exact⟨fb,Y,Y,Y⟩
 rintro _ _ _ ⟨_,h,_⟩;cases h
def aDQ(p:Prop)[Decidable p](b:Nat)(c0 c1 c2 c3 c4 c5 c6 c7 c8 c9:Value)(pc:Int)(K:Hl):Sp x3 92 [ptr b,.bool (decide p)] K [mblk b c0 c1 c2 c3 c4 c5 c6 c7 c8 c9 pc]
  (aFM p (fun v K' L'=>v=.tuple #[]∧K'=K∧L'=[mblk b c0 c1 c2 c3 c4 c5 c6 c7 c8 c9 pc]) K 12 pc [mblk b c0 c1 c2 c3 c4 c5 c6 c7 c8 c9 pc]):=by
 by_cases h:p
 ·rw[xAM h];exact(yE [mblk b c0 c1 c2 c3 c4 c5 c6 c7 c8 c9 pc] (aFQ (ptr b) K)).mono fun e K' L' ⟨N,⟨h1,h2,h3⟩,h4⟩=>.inl ⟨h,_,h1,Y,h2,by rw[h4,h3];rfl⟩
 rw[xAJ h];exact(aHL b c0 c1 c2 c3 c4 c5 c6 c7 c8 c9 pc K).mono fun e K' L' q=>.inr ⟨h,q⟩
def aZQ(b:Nat)(c0 c1 c2 c3 c4 c5 c6 c7 c8 c9:Value)(pc:Int)(st:List Bool)(v:Bool)(K:Hl):Sp x3 122 [ptr b,.bool v] K [mblk b c0 c1 c2 c3 c4 c5 c6 c7 c8 c9 pc,sl false eE c9 st]
  (aFM ((st.length:Int) < 8) (fun r K' L'=>r=.tuple #[]∧K'=K∧∃c9',L'=[mblk b c0 c1 c2 c3 c4 c5 c6 c7 c8 c9' pc,sl false eE c9' (st++[v])]) K 12 pc [mblk b c0 c1 c2 c3 c4 c5 c6 c7 c8 c9 pc,sl false eE c9 st]):=by
 refine bN Tryz.func122 Y Tryz.ntmps122 Y Y fun F w=>?_;refine zz7 ?_;refine aA (bU (k:=eE) Y Tryz.underlying93 Y aL) Y (zz1 ?_);refine cA Y Y (aDQ _ _ _ _ _ _ _ _ _ _ _ _ _ _) bS Y aEV ?_ ?_
 ·rintro _ _ _ (⟨_,_,h,_⟩|⟨hp,fb,h,rfl,rfl⟩) -
  ·cases h
  cases h
  refine aV ?_;refine cK (xAB _) ?_;exact .inr ⟨by omega,fb,rfl,rfl,rfl⟩
 rintro _ _ _ (⟨hp,_,h,rfl,rfl,rfl⟩|⟨_,_,h,_⟩) -
 rotate_left
 ·cases h
 cases h
 refine zz9 ?_;refine cJ (bM (z0:=[.bool false]) gI tz4 Y Y Y Y dF) Y ?_;rintro _ K _ ⟨b18,rfl,rfl,rfl⟩ -;refine cJ (dQ (k:=eE) (ys:=[v]) wL Y Y bR (fun w j=>dJ Tryz.underlying93 (SeesSl.at (.blk aL Y Y) j)) gC9 gC9) Y ?_;rintro v19 K _ ⟨rfl,rfl,ho19⟩ -;refine zz2 ?_;refine cD (bX vG Y Y dA bR aZe Y) ?_;rintro _ K _ ⟨rfl,rfl⟩ -;refine aG ?_;refine uAj ?_;refine zz1 ?_;exact .inl ⟨hp,_,Y,Y,Y,_,Y⟩
def aYF(b:Nat)(c0 c1 c2 c3 c4 c5 c6 c7 c8 c9:Value)(pc by_ n:Int)(yes:Bool)(K:Hl)(hp:0≤pc∧pc < 1000)(hn:0≤n∧n < 1000):Sp x3 126 [ptr b,i64 by_,i64 n,.bool yes] K [mblk b c0 c1 c2 c3 c4 c5 c6 c7 c8 c9 pc]
  (aFM (0≤by_∧by_ < n - pc) (fun r K' L'=>r=.tuple #[]∧K'=K∧L'=[mblk b c0 c1 c2 c3 c4 c5 c6 c7 c8 c9 (if yes then pc+by_ else pc)]) K 12 pc [mblk b c0 c1 c2 c3 c4 c5 c6 c7 c8 c9 pc]):=by
 refine bN Tryz.func126 Y Tryz.ntmps126 Y Y fun F w=>?_;refine zz6 ?_;refine bV 11 Y (fun g11=>?_) (fun g11=>?_)
 ·refine zz17 ?_;refine cA Y Y (aDQ _ _ _ _ _ _ _ _ _ _ _ _ _ _) bS Y aEV ?_ ?_
  ·rintro _ _ _ (⟨_,_,h,_⟩|⟨hp,fb,h,rfl,rfl⟩) -
   ·cases h
   cases h
   refine aV ?_;refine cK (xAB _) ?_;exact .inr ⟨by omega,fb,rfl,rfl,rfl⟩
  rintro _ _ _ (⟨hp,_,h,rfl,rfl,rfl⟩|⟨_,_,h,_⟩) -
  rotate_left
  ·cases h
  cases h
  refine zz7 ?_;refine d9 22 Y (fun h22=>?_) (fun h22=>?_)
  ·subst h22;refine zz9 ?_;refine uAb ?_;rintro _ K _ ⟨rfl,rfl⟩ -;refine zz2 ?_;exact .inl ⟨by omega,_,rfl,rfl,rfl,rfl⟩
  subst h22;refine zz2 ?_;exact .inl ⟨by omega,_,rfl,rfl,rfl,rfl⟩
 refine zz9 ?_;refine cA Y Y (aHL _ _ _ _ _ _ _ _ _ _ _ _ _) bS Y gC6 ?_ ?_
 ·rintro _ _ _ ⟨fb,h,rfl,rfl⟩ -;cases h
  refine aV ?_;refine cK (xAB _) ?_;exact .inr ⟨by omega,fb,rfl,rfl,rfl⟩
 rintro _ _ _ ⟨_,h,_⟩;cases h
end Go.Proofs
end

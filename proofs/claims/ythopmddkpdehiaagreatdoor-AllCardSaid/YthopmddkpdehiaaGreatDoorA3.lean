/- Part 3 of what the proof stands on: walks and plain laws. Conditions: as each theorem says. -/
import Derived.Test.YthopmddkpdehiaaGreatDoorA2
set_option linter.unusedVariables false
set_option linter.unusedSimpArgs false
set_option linter.defProp false
set_option maxRecDepth 4000
set_option maxHeartbeats 1000000
section
attribute [local irreducible] Go.SL.T Go.SL.OL Go.SL.D Go.SL.DL Go.SL.Ev Go.SL.Ef Go.SL.EfS
section
namespace Go.Proofs
open Go Go.SL Tryz
def Gq(K:Hl)(e a:Int)(M:List Asn):Ending->Hl->List Asn->Prop:=fun A c g=>
 ∃b,A=.panicked [{v:=.iface 118 (ptr b),recovered:=false}]/\c=K/\g=pt b (bK [i64 e,i64 a] 123)::M
def Cz(p:Prop)(N:Value->Hl->List Asn->Prop)(K:Hl)(e a:Int)(M:List Asn):Ending->Hl->List Asn->Prop:=fun A b g=>
 (p/\Ret N A b g)\/(¬p/\Gq K e a M A b g)
def BW{p:Prop}{N:Value->Hl->List Asn->Prop}{K:Hl}{e a:Int}{M:List Asn}(b:Hl)(L':List Asn):¬Cz p N K e a M .outgrown b L':=by
 rintro(⟨_,_,h,_⟩|⟨_,_,h,_⟩)<;>cases h
def FQ(x:Value)(e a:Int)(K:Hl):Sp x3 90 [x,i64 e,i64 a] K [] (Gq K e a []):=by
 refine bL func90 Y ntmps90 Y Y fun F w=>Z3 ?_;refine aA (dA WH TE cW) Y (Z1 ?_);refine aCJ fun b=>aA (eX xBZ (fun _ h=>by cases h) Y) Y (IC Y (cF (xAB _) ?_));exact gEO
def C2(x:Value)(K:Hl):Sp x3 92 [x,.bool true] K [] (Val (.tuple #[]) K):=by
 refine bL func92 Y ntmps92 Y Y fun F w=>Z3 ?_;refine aA gAB Y (Z5 ?_);exact gDP
abbrev mblk(b:Nat)(W r N Q i p c e f d:Value)(pc:Int):Asn:=pt b (bK [W,r,N,Q,i,p,c,e,f,d,i64 pc] 178)
def D5(b:Nat)(W r N Q i p c e f d:Value)(pc:Int)(K:Hl):Sp x3 92 [ptr b,.bool false] K [mblk b W r N Q i p c e f d pc] (Gq K 12 pc [mblk b W r N Q i p c e f d pc]):=by
 refine bL func92 Y ntmps92 Y Y fun F w=>Z3 ?_;refine aA gAB Y (Z9 ?_);refine dB Y Y (FQ _ _ _ _) .nil Y gAE ?_ ?_
 ·rintro _ _ _ ⟨a,h,rfl,rfl⟩ -;cases h
  refine cF (xAB _) ?_;exact⟨a,Y,Y,Y⟩
 exact gDD
def Bq(p:Prop)[Decidable p](b:Nat)(W r a Q i c d f g j:Value)(pc:Int)(K:Hl):Sp x3 92 [ptr b,.bool (decide p)] K [mblk b W r a Q i c d f g j pc]
  (Cz p (fun v l L'=>v=.tuple #[]/\l=K/\L'=[mblk b W r a Q i c d f g j pc]) K 12 pc [mblk b W r a Q i c d f g j pc]):=by
 by_cases h:p
 ·rw[xAO h];exact(wO [mblk b W r a Q i c d f g j pc] (C2 (ptr b) K)).mono fun e l L' ⟨N,⟨s,t,u⟩,z⟩=>.inl ⟨h,_,s,Y,t,by rw[z,u];rfl⟩
 rw[xAQ h];exact(D5 b W r a Q i c d f g j pc K).mono fun e l L' q=>.inr ⟨h,q⟩
def d7:El Bool:={e:=4,sz:=1,enc:=fun b=>[.bool b],len:=fun _=>rfl,one:=fun _ u h=>by simp at h;subst h;rfl}
def OU(b:Nat)(W c N Q i p e f g d:Value)(pc:Int)(st:List Bool)(v:Bool)(K:Hl):Sp x3 142 [ptr b,.bool v] K [mblk b W c N Q i p e f g d pc,sl false d7 d st]
  (Cz ((st.length:Int)<8) (fun r q L'=>r=.tuple #[]/\q=K/\∃a,L'=[mblk b W c N Q i p e f g a pc,sl false d7 a (st++[v])]) K 12 pc [mblk b W c N Q i p e f g d pc,sl false d7 d st]):=by
 refine bL func142 Y ntmps142 Y Y fun F w=>Z7 ?_;refine aA (bU (k:=d7) Y xBP Y aL) Y (Z1 ?_);refine dB Y Y (Bq _ _ _ _ _ _ _ _ _ _ _ _ _ _) bQ Y BW ?_ ?_
 ·rintro _ _ _ (⟨_,_,h,_⟩|⟨hp,s,h,rfl,rfl⟩) -
  ·cases h
  cases h
  refine aT (cF (xAB _) ?_);exact .inr ⟨aH,s,Y,Y,Y⟩
 rintro _ _ _ (⟨hp,_,h,rfl,rfl,rfl⟩|⟨_,_,h,_⟩) -
 rotate_left
 ·cases h
 cases h
 refine Z9 ?_;refine cG (bJ (z0:=[.bool false]) fF tz4 Y Y Y Y cW) Y ?_;refine aCJ fun B=>cG (dJ (k:=d7) (ys:=[v]) sW Y Y bP (fun w j=>dC xBP (SeesSl.at (.blk aL Y Y) j)) gAH gAH) Y ?_;rintro x K _ ⟨rfl,rfl,l⟩ -;refine Z4 ?_;refine uAi ?_;refine Z1 ?_;exact .inl ⟨hp,_,Y,Y,Y,_,Y⟩
def Od(b:Nat)(W d N Q i p e f g j:Value)(pc a n:Int)(c:Bool)(K:Hl)(hp:0<=pc/\pc<1000)(u:0<=n/\n<1000):Sp x3 146 [ptr b,i64 a,i64 n,.bool c] K [mblk b W d N Q i p e f g j pc]
  (Cz (0<=a/\a<n-pc) (fun r s L'=>r=.tuple #[]/\s=K/\L'=[mblk b W d N Q i p e f g j (if c then pc+a else pc)]) K 12 pc [mblk b W d N Q i p e f g j pc]):=by
 refine bL func146 Y ntmps146 Y Y fun F w=>Z6 ?_;refine bV 11 Y (fun t=>ZH ?_) (fun t=>Z9 ?_)
 ·refine dB Y Y (Bq _ _ _ _ _ _ _ _ _ _ _ _ _ _) bQ Y BW ?_ ?_
  ·rintro _ _ _ (⟨_,_,h,_⟩|⟨hp,l,h,rfl,rfl⟩) -
   ·cases h
   cases h
   exact gHE
  rintro _ _ _ (⟨hp,_,h,rfl,rfl,rfl⟩|⟨_,_,h,_⟩) -
  rotate_left
  ·cases h
  cases h
  refine Z7 ?_;refine dZ 22 Y (fun q=>?_) (fun q=>?_)
  ·subst q;refine ZC ?_;exact .inl ⟨aH,_,Y,Y,Y,Y⟩
  subst q;refine Z2 ?_;exact .inl ⟨aH,_,Y,Y,Y,Y⟩
 refine dB Y Y (D5 _ _ _ _ _ _ _ _ _ _ _ _ _) bQ Y gAE ?_ ?_
 ·rintro _ _ _ ⟨l,h,rfl,rfl⟩ -;cases h
  exact gHE
 exact gDD
end Go.Proofs
end
end

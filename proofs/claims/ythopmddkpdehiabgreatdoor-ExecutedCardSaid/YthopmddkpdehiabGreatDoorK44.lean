/-
  What the proof stands on, part 44: the logic of walks, the walks through the functions, the plain laws. Conditions: as each theorem says. (Merged and shortened by a program.)
-/
import Derived.Test.YthopmddkpdehiabGreatDoorK21
import Derived.Test.YthopmddkpdehiabGreatDoorK39
set_option linter.unusedVariables false
set_option linter.unusedSimpArgs false
set_option linter.defProp false
set_option maxRecDepth 4000
set_option maxHeartbeats 1000000
section
namespace Go.Proofs
open Go Go.SL Go.Syn Go.Mach
open Go.Cmp (cT RIs InsV RIns eX nilC lU kT gQ)
section
variable{E:Env}{c0:Code}{x0:Exit}{ops:Array Oper}{fr:Fr}{K:Hl}{L:List Asn}{Q:Post}{wb:Nat}{W:WS}
def tH{l:List Asn}{A:Asn}:∀h,Sat (A::mD l::L) h→Sat (mD (l++[A])::L) h:=by
 rintro h ⟨a,r,ha,⟨c,m,hc,hm,hcm,rfl⟩,hd,rfl⟩;have hd2:=Hl.dj_join.1 hd;refine⟨c.join a,m,eY.2 ⟨c,a,hc,⟨a,.emp,ha,Y,Hl.dj_emp _,(Hl.join_emp _).symm⟩,hd2.1.symm,Y⟩,hm,Hl.join_dj.2 ⟨hcm,hd2.2⟩,?_⟩
 rw[←Hl.join_assoc,Hl.join_comm hd2.1]
end
def aCR{α:Type}{k:El α}{v:Value}{xs:List α}:∀h,sl true k v xs h→sl false k v xs h:=by
 rintro h (⟨rfl,rfl,rfl⟩|⟨b,cap,junk,fz,rfl,hz,hc,hj,hf,rfl⟩)
 ·exact .inl ⟨Y,Y,Y⟩
 exact .inr ⟨b,cap,junk,fz,Y,fun h=>(by cases h),hc,hj,hf,Y⟩
def bGB{α:Type}{k:El α}{v:Value}{L:List Asn}:∀h,Sat (sl true k v []::L) h→v=.slice none 0 0:=by
 rintro h ⟨a,l,(⟨rfl,_⟩|⟨b,cap,junk,fz,rfl,hz,_⟩),_⟩
 ·rfl
 exact absurd Y (hz Y)
def aA8(z1 z2:Bool)(av bv:Value)(xs:List gA)(K:Hl)(hx:xs.length≤1000000):Sp x3 26 [av,bv] K [sl z1 dP av xs,sl z2 dP bv xs] (Ret fun v K' L'=>v=.bool true∧K'=K∧L'=[sl z1 dP av xs,sl z2 dP bv xs]):=by
 have h:=yF (K:=K) (L1:=[sl z1 dP av xs,sl z2 dP bv xs]) (L:=[]) (R:=fun e L'=>e=.returned (.bool true)∧L'=[]) ⟨_,Tryz.func26,rfl,rfl⟩ (fun h1 hs d=>(aFA av bv xs xs (K.join h1) ((lS .here hs).mono (Hl.le_join_r d)) ((lS (.there .here) hs).mono (Hl.le_join_r d)) hx hx).mono fun e K' L' ⟨v,h1,h2,h3,h4⟩=>⟨⟨by rw[h1,h2,xAM rfl],h4⟩,h3⟩);exact h.mono fun e K' L' ⟨L'',⟨h1,h2⟩,h3,h4⟩=>⟨_,h1,Y,h3,by rw[h4,h2];rfl⟩
end Go.Proofs
end
section
namespace Go.Proofs
open Go Go.SL Go.Syn Go.Mach
open Go.Cmp (cT RIs InsV RIns eX kW gQ insA)
open Go.Say (Co)
def aYM{nm:Bool}{m:Msg}{code:List Ins}(hm:MsgOk m)(hc:∀o∈code,InsOk o):∀f st s,MInv s→(Mach.loop nm m code f st s).acts.length≤7:=by
 have fin:∀s:MS,MInv s→(if s.keep=true then s.acts++[(1,[])]else s.acts).length≤7:=by
  intro s h;have:=h.acts;split
  ·simp;omega
  omega
 intro f;induction f with
 |zero=>intro st s h;simp[Mach.loop]
 |succ f ih=>
  intro st s h;unfold Mach.loop;split
  ·exact fin s h
  rename_i o ho;split
  ·exact fin s h
  split
  ·simp
  rename_i t ht;have h2:=h.step hm (hc o (x8 ho)) ht;exact ih _ _ ⟨h2.stack,h2.acts,h2.vars,h2.parts⟩
def aH5{nm:Bool}{m:Msg}{code:List Ins}(hm:MsgOk m)(hc:∀o∈code,InsOk o):(Mach.run nm code m).acts.length≤7:=by
 unfold Mach.run;split
 ·simp
 exact aYM hm hc _ _ _ MInv.start
end Go.Proofs
end
section
namespace Go.Proofs
open Go Go.SL Go.Syn Go.Mach
open Go.Cmp (cT RIs InsV RIns eX kW gQ insA codeP_len)
def WFit.addA{n:Nat}{W:WS}{p:AP}(h:WFit n W)(hp:p.l.length≤1000000):WFit (n+1) {W with al:=W.al++[p]}:=⟨Nat.le_succ_of_le h.nx,by have:=h.na;simp;omega,Nat.le_succ_of_le h.nc,fun q hq=>by rcases xAT.1 hq with hq|hq;exact h.al q hq;(have hq:=List.mem_singleton.1 hq;subst hq;exact hp),h.cl⟩
end Go.Proofs
end

/-
  What the proof stands on, part 20: the logic of walks, the walks through the functions, the plain laws. Conditions: as each theorem says. (Merged and shortened by a program.)
-/
import Derived.Test.YthopmddkpdehiaaGreatDoorK19
set_option linter.unusedVariables false
set_option linter.unusedSimpArgs false
set_option maxRecDepth 4000
set_option maxHeartbeats 1000000
section
namespace Go.Proofs
open Go Go.SL Go.Syn Go.Mach
def ws:List UInt8:=[32,9,13,10]
structure MsgOk (m:Msg):Prop where
 hn:m.hs.length≤1000000
 hs:∀h∈m.hs,h.1.length≤100000∧h.2.length≤100000
 from_:m.from_.length≤100000
 to_:m.to_.length≤100000
structure InsOk (o:Ins):Prop where
 an:o.a.length≤1000000
 bn:o.b.length≤1000000
 a:∀x∈o.a,x.length≤100000
 b:∀x∈o.b,x.length≤100000
structure MInv (s:MS):Prop where
 stack:s.stack.length≤8
 acts:s.acts.length≤6
 vars:∀name,(vget s.vars name).length≤100000
 parts:∀x∈s.parts,x.length≤100000
theorem MInv.small{s:MS}(h:MInv s):vA s.vars s.parts:=by
 intro name;unfold held;split
 ·split
  ·rename_i c _;simp only[];cases hp:s.parts[c.toNat - 48]? with
   |none=>simp
   |some x=>exact h.parts x (List.mem_of_getElem? hp)
  exact h.vars _
 exact h.vars _
theorem MInv.start:MInv Mach.start:=⟨by simp[Mach.start],by simp[Mach.start],fun _=>by simp[Mach.start,vget],by simp[Mach.start]⟩
theorem aO5(k v name:aJ):∀vars:List (aJ×aJ),vget (vput vars k v) name=if k=name then v else vget vars name
 | []=>by unfold vput vget;rfl
 |(j,u)::r=>by
  unfold vput
  by_cases h:j=k
  ·rw[if_pos h];subst h
   unfold vget;split <;> rfl
  rw[if_neg h];unfold vget;rw[aO5 k v name r]
  by_cases h2:j=name
  ·rw[if_pos h2,if_pos h2,if_neg (fun e=>h (by rw[h2,e]))]
  rw[if_neg h2,if_neg h2]
theorem MInv.push{s t:MS}{b:Bool}(h:MInv s)(hp:Mach.push s b=.ok t):MInv t:=by
 unfold Mach.push at hp;split at hp
 ·cases hp;exact⟨by simp;omega,h.acts,h.vars,h.parts⟩
 cases hp
theorem MInv.pop{s:MS}{r:Bool×MS}(h:MInv s)(hp:Mach.pop s=.ok r):MInv r.2:=by
 unfold Mach.pop at hp;split at hp
 ·cases hp;exact⟨by have:=h.stack;simp;omega,h.acts,h.vars,h.parts⟩
 cases hp
theorem MInv.jump{s t:MS}{by_:Int}{n:Nat}{yes:Bool}(h:MInv s)(hp:Mach.jump s by_ n yes=.ok t):MInv t:=by
 unfold Mach.jump at hp;split at hp
 ·cases hp;split
  ·exact⟨h.stack,h.acts,h.vars,h.parts⟩
  exact h
 cases hp
theorem aS6(w v k:aJ):∀f i j ps,iR w v k f i j=some ps→∀x∈ps,x.length≤w.length:=by
 have one:∀e i,((w.take e).drop i).length≤w.length:=by intro e i;simp;omega
 intro f;induction f with
 |zero=>intro i j ps h;cases h
 |succ f ih=>
  intro i j ps h;have cons:∀e i' j' q,iR w v k f i' j'=q→q.map (fun ps=>((w.take e).drop i)::ps)=some ps→∀x∈ps,x.length≤w.length:=by
   intro e i' j' q hq hm;cases q with
   |none=>cases hm
   |some r=>
    cases hm
    intro x hx;rcases List.mem_cons.1 hx with rfl|hx
    ·exact one _ _
    exact ih _ _ _ hq x hx
  unfold iR at h;split at h
  ·split at h
   ·cases h;intro x hx;cases hx
   cases h
  split at h
  ·have key:∀n e,m8 (fun e=>(iR w v k f e (j+1)).map fun ps=>((w.take e).drop i)::ps) n e=some ps→∀x∈ps,x.length≤w.length:=by
    intro n;induction n with
    |zero=>intro e h;cases h
    |succ n ihn=>
     intro e h;unfold m8 at h;split at h
     ·rename_i x hx;cases h
      exact cons _ _ _ _ rfl hx
     exact ihn _ h
   exact key _ _ h
  split at h
  ·cases h
  split at h
  ·exact cons _ _ _ _ rfl h
  split at h
  ·split at h
   ·exact ih _ _ _ h
   cases h
  split at h
  ·exact ih _ _ _ h
  cases h
theorem zD{α β:Type}{f:α→Option β}{y:β}:∀ {l:List α},s9 f l=some y→∃x∈l,f x=some y
 | [],h=>by cases h
 |x::l,h=>by
  unfold s9 at h;split at h
  ·rename_i z hz;cases h;exact⟨x,by simp,hz⟩
  obtain⟨w,hw,hf⟩:=zD h;exact⟨w,by simp[hw],hf⟩
theorem aML{o:Ins}{x y:aJ}{ps:List aJ}(h:kL o x y=some ps):∀z∈ps,z.length≤x.length:=by
 unfold kL at h;split at h
 ·split at h
  ·cases h;intro z hz;cases hz
  cases h
 split at h
 ·split at h
  ·cases h;intro z hz;cases hz
  cases h
 exact aS6 _ _ _ _ _ _ _ h
theorem aKN{o:Ins}{vs ks ps:List aJ}{n:Nat}(hv:∀x∈vs,x.length≤n)(h:iZ o vs ks=some ps):∀z∈ps,z.length≤n:=by
 obtain⟨v,hv1,h1⟩:=zD h;obtain⟨k,hk1,h2⟩:=zD h1;cases hq:kL o v k with
 |none=>rw[hq]at h2;cases h2
 |some q=>
  rw[hq]at h2;cases h2
  intro z hz;rcases List.mem_cons.1 hz with rfl|hz
  ·exact hv _ hv1
  exact Nat.le_trans (aML hq z hz) (hv _ hv1)
theorem aO4{nm:Bool}{vars:List (aJ×aJ)}{parts:List aJ}{m:Msg}{o:Ins}(hm:MsgOk m)(ho:InsOk o):∀x∈gW (dM nm vars parts) m o,x.length≤100000:=by
 intro x hx;unfold gW at hx;split at hx
 ·obtain⟨y,hy,rfl⟩:=List.mem_map.1 hx;exact o0 (ho.a y hy)
 split at hx
 ·obtain⟨y,_,hy⟩:=List.mem_flatMap.1 hx;unfold jZ at hy;obtain⟨h,hh,rfl⟩:=List.mem_map.1 hy;exact(hm.hs h (List.mem_filter.1 hh).1).2
 split at hx
 ·obtain⟨y,_,hy⟩:=List.mem_flatMap.1 hx;unfold uK at hy;split at hy
  ·rw[List.mem_singleton]at hy;subst hy;exact hm.from_
  split at hy
  ·rw[List.mem_singleton]at hy;subst hy;exact hm.to_
  cases hy
 cases hx
theorem MInv.matchI{nm:Bool}{m:Msg}{o:Ins}{s t:MS}(h:MInv s)(hm:MsgOk m)(ho:InsOk o)(hp:Mach.matchI nm m o s=.ok t):MInv t:=by
 unfold Mach.matchI at hp;split at hp
 ·simp only[]at hp;split at hp
  ·rename_i ps hps;refine MInv.push ?_ hp
   split
   ·exact⟨h.stack,h.acts,h.vars,aKN (aO4 hm ho) hps⟩
   exact h
  exact h.push hp
 cases hp
theorem MInv.setI{nm:Bool}{o:Ins}{s t:MS}(h:MInv s)(hp:Mach.setI nm o s=.ok t):MInv t:=by
 unfold Mach.setI at hp;split at hp
 ·split at hp
  ·cases hp
   refine⟨h.stack,h.acts,fun name=>?_,h.parts⟩
   simp only[aO5];split
   ·simp;omega
   exact h.vars name
  cases hp
 cases hp
theorem MInv.actI{nm:Bool}{o:Ins}{s t:MS}(h:MInv s)(hp:Mach.actI nm o s=.ok t):MInv t:=by
 unfold Mach.actI at hp;split at hp
 ·simp only[]at hp;split at hp
  ·cases hp
  split at hp
  ·cases hp
  split at hp
  ·cases hp;exact⟨h.stack,h.acts,h.vars,h.parts⟩
  split at hp
  ·cases hp
  split at hp
  ·cases hp
  cases hp;exact⟨h.stack,by have:=h.acts;simp;omega,h.vars,h.parts⟩
 cases hp
theorem MInv.step{nm:Bool}{m:Msg}{n:Nat}{o:Ins}{s t:MS}(hi:MInv s)(hm:MsgOk m)(ho:InsOk o)(h:Mach.step nm m n o s=.ok t):MInv t:=by
 unfold Mach.step at h
 by_cases h0:o.op=1
 ·rw[if_pos h0]at h;split at h
  ·exact hi.push h
  cases h
 rw[if_neg h0]at h
 by_cases h1:o.op=2
 ·rw[if_pos h1]at h;split at h
  ·cases h
  rename_i r hr;exact(hi.pop hr).push h
 rw[if_neg h1]at h
 by_cases h2:o.op=3
 ·rw[if_pos h2]at h;exact hi.jump h
 rw[if_neg h2]at h
 by_cases h3:o.op=4
 ·rw[if_pos h3]at h;split at h
  ·cases h
  rename_i r hr;exact(hi.pop hr).jump h
 rw[if_neg h3]at h
 by_cases h4:o.op=5
 ·rw[if_pos h4]at h;split at h
  ·cases h
  rename_i r hr;exact(hi.pop hr).jump h
 rw[if_neg h4]at h
 by_cases h5:o.op=6∨o.op=7∨o.op=8
 ·rw[if_pos h5]at h;exact hi.matchI hm ho h
 rw[if_neg h5]at h
 by_cases h6:o.op=9
 ·rw[if_pos h6]at h;exact hi.push h
 rw[if_neg h6]at h
 by_cases h7:o.op=10
 ·rw[if_pos h7]at h;split at h
  ·exact hi.push h
  cases h
 rw[if_neg h7]at h
 by_cases h8:o.op=11
 ·rw[if_pos h8]at h;exact hi.actI h
 rw[if_neg h8]at h
 by_cases h9:o.op=12
 ·rw[if_pos h9]at h;exact hi.setI h
 rw[if_neg h9]at h
 by_cases h10:o.op=13
 ·rw[if_pos h10]at h;cases h;exact⟨hi.stack,hi.acts,hi.vars,hi.parts⟩
 rw[if_neg h10]at h;cases h
end Go.Proofs
end
section
namespace Go.Cmp
open Go.Syn Go.Mach
def IFit(n:Nat)(o:Ins):Prop:=(∀x∈o.a,x.length≤n)∧(∀x∈o.b,x.length≤n)∧o.a.length≤2*n+1∧o.b.length≤2*n+1
def AFit(n:Nat)(ops:List Ins):Prop:=∀o∈ops,IFit n o
theorem AFit.setN{n:Nat}{k:Nat}{m:Int}:∀ {ops:List Ins},AFit n ops→AFit n (setN ops k m):=by
 intro ops h o ho;unfold Cmp.setN at ho;obtain⟨i,hi⟩:=List.getElem?_of_mem ho;rw[List.getElem?_modify]at hi;cases hx:ops[i]? with
 |none=>rw[hx]at hi;cases hi
 |some x=>
  rw[hx]at hi;have hxo:=h x (List.mem_of_getElem? hx);simp only[Option.map_eq_map,Option.map_some,Option.some.injEq]at hi
  by_cases hki:k=i
  ·rw[if_pos hki]at hi;subst hi;exact hxo
  rw[if_neg hki]at hi;subst hi;exact hxo
theorem AFit.fold{n:Nat}{m:Int}:∀(ps:List Nat) {ops:List Ins},AFit n ops→AFit n (ps.foldl (fun o k=>Cmp.setN o k (m - 1 - k)) ops)
 | [],_,h=>h
 |p::ps,_,h=>AFit.fold ps h.setN
theorem AFit.land{n:Nat}{ops:List Ins}{ps:List Nat}(h:AFit n ops):AFit n (land ops ps):=AFit.fold ps h
theorem AFit.app{n:Nat}{a b:List Ins}(h:AFit n a)(k:AFit n b):AFit n (a++b):=fun o ho=>(List.mem_append.1 ho).elim (h o) (k o)
theorem AFit.jmp{n:Nat}{ops:List Ins}{op:Int}(h:AFit n ops):AFit n (ops++[Cmp.jmp op]):=h.app fun o ho=>by
 rw[List.mem_singleton]at ho;subst ho;exact⟨by simp[Cmp.jmp],by simp[Cmp.jmp],by simp[Cmp.jmp],by simp[Cmp.jmp]⟩
end Go.Cmp
end
section
namespace Go.Syn
open Go.Mach
def t1:aJ:=[105,102,32,104,101,97,100,101,114,32,34,83,117,98,106,101,99,116,34,32,34,120,34,32,123,32,100,105,115,99,97,114,100,59,32,125,32,101,108,115,101,32,123,32,107,101,101,112,59,32,125]
def t2:aJ:=[105,102,32,104,101,97,100,101,114,32,58,99,111,109,112,97,114,97,116,111,114,32,34,105,59,111,99,116,101,116,34,32,34,83,117,98,106,101,99,116,34,32,34,120,34,32,123,32,100,105,115,99,97,114,100,59,32,125,32,101,108,115,101,32,123,32,114,101,100,105,114,101,99,116,32,34,97,64,98,34,59,32,125]
def tb:aJ:=[107,101,101,112,59,32,105,102,32,123,32,125]
def m1:Msg:=⟨[],[],0,[([115,117,98,106,101,99,116],[88])]⟩
def pc(s:aJ):Int×Int:=if 600 < s.length then (1,-1)else match eD s with| .ok _=>(0,-1)| .error e=>e
end Go.Syn
end
section
namespace Go.Proofs
open Go Go.SL Go.Syn Go.Mach Go.Cmp
theorem ScriptAt.mono{K K':Hl}{b:Nat}{needs:List (List UInt8)}{t:Tree}(h:ScriptAt K b needs t)(le:K.le K'):ScriptAt K' b needs t:=
 let ⟨l,nv,bv,ys,fz,h1,h2,h3,h4,h5,h6,h7⟩:=h.at_
 ⟨l,nv,bv,ys,fz,le _ _ h1,h2,h3,h4.mono le,h5.mono le,h6.mono le,h7⟩
def aBU(K:Hl)(b:Nat)(r:List aJ×Tree):Prop:=∃tb cv vs fz,K b=some (aZ [ptr tb 6,cv] 89 fz)∧ScriptAt K tb r.1 r.2∧Ksl d9 K cv vs∧RIs K vs (Cmp.script r.2)
theorem aBU.mono{K K':Hl}{b:Nat}{r:List aJ×Tree}(h:aBU K b r)(le:K.le K'):aBU K' b r:=
 let ⟨tb,cv,vs,fz,h1,h2,h3,h4⟩:=h
 ⟨tb,cv,vs,fz,le _ _ h1,h2.mono le,h3.mono le,h4.mono le⟩
end Go.Proofs
end

/-
  What the proof stands on, part 29: the logic of walks, the walks through the functions, the plain laws. Conditions: as each theorem says. (Merged and shortened by a program.)
-/
import Derived.Test.YthopmddkpdehiaaGreatDoorK24
set_option linter.unusedVariables false
set_option linter.unusedSimpArgs false
set_option maxRecDepth 4000
set_option maxHeartbeats 1000000
section
namespace Go.Say
open Go.Syn Go.Mach Go.Cmp
structure Co where
 acts:List Action
 keep:Bool
 vars:List (aJ×aJ)
 parts:List aJ
def Co.ms(c:Co)(pc:Nat):MS:=⟨c.acts,c.keep,c.vars,c.parts,[],pc⟩
def matO(tag:Int)(oct:Bool)(op:Int)(a b:List aJ):Ins:=⟨op,0,tag,oct,a,b,0⟩
def matR(nm:Bool)(m:Msg)(o:Ins)(c:Co):Option (List aJ):=iZ o (gW (dM nm c.vars c.parts) m o) (o.b.map (dM nm c.vars c.parts))
def mat(nm:Bool)(m:Msg)(o:Ins)(c:Co):Bool×Co:=
 match matR nm m o c with
 |some ps=>(true,if o.tag=3∧nm=true then {c with parts:=ps}else c)
 |none=>(false,c)
section
variable(nm:Bool)(m:Msg)
mutual
def holds:Tree→Co→Bool×Co
 | .const b,c=>(b,c)
 | .not_ t,c=>(!(holds t c).1,(holds t c).2)
 | .many all l,c=>o4 all l c
 | .mat tag oct op a b,c=>mat nm m (matO tag oct op a b) c
 | .exi a,c=>(pW m (a.map (dM nm c.vars c.parts)),c)
 | .siz tag n,c=>(decide (tag=1∧n < m.size∨tag=2∧m.size < n),c)
 |_,c=>(true,c)
def o4(all:Bool):Tree→Co→Bool×Co
 | .tcons t l,c=>if (holds t c).1=all then o4 all l (holds t c).2 else holds t c
 |_,c=>(all,c)
end
def actX(k:Int)(arg:aJ):Action:=(k,if k=4 then arg.take 48 else arg)
def addX(x:Action)(p:Int)(c:Co):Res Co:=
 if x∈c.acts then .ok {c with keep:=false}
 else if ∃b∈c.acts,x.1=4∨b.1=4 then .error (10,p)
 else if c.acts.length=6 then .error (11,p)
 else .ok {c with keep:=false,acts:=c.acts++[x]}
def act(k:Int)(arg:aJ)(p:Int)(c:Co):Res Co:=
 if k=2∧boxed arg=false then .error (8,p)
 else if k=3∧kZ arg=false then .error (9,p)
 else addX (actX k arg) p c
def yO(k:Int)(a:aJ)(c:Co):aJ:=if k=1 then []else dM nm c.vars c.parts a
def setV(t:Int)(v:aJ):aJ:=(if t=1 then dG v else if t=2 then aP3 v else if t=3 then Lib.itoa v.length else v).take 48
mutual
def run:Tree→Co→Res (Bool×Co)
 | .ccons x l,c=>match cmd x c with
  | .error e=>.error e
  | .ok r=>if r.1=true then .ok r else run l r.2
 |_,c=>.ok (false,c)
def cmd:Tree→Co→Res (Bool×Co)
 | .plain op,c=>if op=14 then .ok (true,c)else .ok (false,{c with keep:=false})
 | .act k a p,c=>match act k (yO nm k a c) p c with
  | .error e=>.error e
  | .ok d=>.ok (false,d)
 | .set_ n v t,c=>.ok (false,{c with vars:=vput c.vars n (setV t (dM nm c.vars c.parts v))})
 | .iff bs,c=>brs bs c
 |_,c=>.ok (false,c)
def brs:Tree→Co→Res (Bool×Co)
 | .bcons t b l,c=>if (holds nm m t c).1=true then run b (holds nm m t c).2 else brs l (holds nm m t c).2
 | .belse b _,c=>run b c
 |_,c=>.ok (false,c)
end
end
def start:Co:=⟨[],true,[],[]⟩
def done(c:Co):List Action:=if c.keep=true then c.acts++[(1,[])]else c.acts
def out(r:Res (Bool×Co)):List Action×Option (Int×Int):=match r with
 | .error e=>([(1,[])],some e)
 | .ok r=>(done r.2,none)
section
variable{nm:Bool}{m:Msg}{C:List Ins}
def fin(nm:Bool)(m:Msg)(C:List Ins)(s:MS):List Action×Option (Int×Int):=((loop nm m C (C.length+1 - s.pc) 0 s).acts,(loop nm m C (C.length+1 - s.pc) 0 s).err)
theorem aTJ:∀(f g st st':Nat) (s:MS),s.pc≤C.length→C.length < f+s.pc→C.length < g+s.pc→
  ((loop nm m C f st s).acts,(loop nm m C f st s).err)=((loop nm m C g st' s).acts,(loop nm m C g st' s).err)
 |0,g,st,st',s,h,h1,h2=>by omega
 |f+1,0,st,st',s,h,h1,h2=>by omega
 |f+1,g+1,st,st',s,h,h1,h2=>by
  unfold loop;split
  ·rfl
  rename_i o ho;have hi:s.pc < C.length:=by
   rcases Nat.lt_or_ge s.pc C.length with h'|h'
   ·exact h'
   rw[List.getElem?_eq_none h']at ho;cases ho
  split
  ·rfl
  split
  ·rfl
  rename_i t ht;have:=aE3 ht hi;exact aTJ f g _ _ _ gB1 gB1 gB1
theorem bMP{s:MS}(h:s.pc=C.length):fin nm m C s=(if s.keep=true then s.acts++[(1,[])]else s.acts,none):=by
 unfold fin;rw[show C.length+1 - s.pc=0+1 from by omega];unfold loop;rw[List.getElem?_eq_none aI]
theorem bHL{s:MS}{o:Ins}(ho:C[s.pc]?=some o)(h:o.op=14):fin nm m C s=(if s.keep=true then s.acts++[(1,[])]else s.acts,none):=by
 have hi:s.pc < C.length:=by
  rcases Nat.lt_or_ge s.pc C.length with h'|h'
  ·exact h'
  rw[List.getElem?_eq_none h']at ho;cases ho
 unfold fin;rw[show C.length+1 - s.pc=(C.length - s.pc)+1 from by omega];unfold loop;rw[ho];simp only[h,if_true]
theorem bMQ{s:MS}{o:Ins}{e:Int×Int}(ho:C[s.pc]?=some o)(h:o.op≠14)(hs:Mach.step nm m C.length o s=.error e):fin nm m C s=([(1,[])],some e):=by
 have hi:s.pc < C.length:=by
  rcases Nat.lt_or_ge s.pc C.length with h'|h'
  ·exact h'
  rw[List.getElem?_eq_none h']at ho;cases ho
 unfold fin;rw[show C.length+1 - s.pc=(C.length - s.pc)+1 from by omega];unfold loop;rw[ho];simp only[if_neg h,hs]
theorem vK{s t:MS}{o:Ins}(ho:C[s.pc]?=some o)(h:o.op≠14)(hs:Mach.step nm m C.length o s=.ok t):fin nm m C s=fin nm m C {t with pc:=t.pc+1}:=by
 have hi:s.pc < C.length:=by
  rcases Nat.lt_or_ge s.pc C.length with h'|h'
  ·exact h'
  rw[List.getElem?_eq_none h']at ho;cases ho
 have hp:=aE3 hs hi;unfold fin;rw[show C.length+1 - s.pc=(C.length - s.pc)+1 from by omega,loop];rw[ho];simp only[if_neg h,hs];exact aTJ _ _ _ _ _ gB1 gB1 gB1
theorem aS1{c:Co}{i T:Nat}(ho:C[i]?=some {jmp 3 with n:=(T:Int) - 1 - i})(h1:i+1≤T)(h2:T≤C.length):fin nm m C (c.ms i)=fin nm m C (c.ms T):=by
 have hs:Mach.step nm m C.length {jmp 3 with n:=(T:Int) - 1 - i} (c.ms i)=.ok {c.ms i with pc:=i+(((T:Int) - 1 - i).toNat)}:=by
  unfold Mach.step jump;simp only[jmp,Co.ms];rw[if_neg (by decide),if_neg (by decide),if_pos trivial,if_pos aI];rfl
 rw[vK ho (by simp[jmp]) hs]
 congr 1
 simp only[Co.ms]
 congr 1
 omega
theorem aJX{c d:Co}{o:Ins}{b tn:Bool}{i T:Nat}(ho:C[i]?=some o)(hop:o.op≠14)(hs:Mach.step nm m C.length o (c.ms i)=.ok {d.ms i with stack:=[b]})
  (hj:C[i+1]?=some {jmp (if tn=true then 4 else 5)with n:=(T:Int) - 1 - (i+1:Nat)}) (h1:i+2≤T) (h2:T≤C.length):fin nm m C (c.ms i)=fin nm m C (d.ms (if b=tn then T else i+2)):=by
 rw[vK ho hop hs];have hs2:Mach.step nm m C.length {jmp (if tn=true then 4 else 5)with n:=(T:Int) - 1 - (i+1:Nat)} {d.ms i with stack:=[b],pc:=i+1}=.ok (d.ms (if b=tn then i+1+(((T:Int) - 1 - (i+1:Nat)).toNat)else i+1)):=by
  cases tn
  ·unfold Mach.step pop jump;simp only[jmp,Co.ms];cases b <;> simp <;> omega
  unfold Mach.step pop jump;simp only[jmp,Co.ms,if_true];cases b <;> simp <;> omega
 have e:{({d.ms i with stack:=[b]}:MS)with pc:=({d.ms i with stack:=[b]}:MS).pc+1}={d.ms i with stack:=[b],pc:=i+1}:=rfl;rw[e,vK (o:={jmp (if tn=true then 4 else 5)with n:=(T:Int) - 1 - (i+1:Nat)}) hj (by cases tn <;> simp[jmp]) hs2]
 congr 1
 simp only[Co.ms]
 congr 1
 split <;> omega
end
theorem aS4(n:Int):∀(ps:List Nat) (o:List Ins) (i:Nat),(ps.foldl (fun o k=>setN o k (n - 1 - k)) o)[i]?=if i∈ps then (o[i]?).map (fun x=>{x with n:=n - 1 - i})else o[i]?:=by
 intro ps;induction ps with
 |nil=>intro o i;simp
 |cons k ps ih=>
  intro o i;rw[List.foldl_cons,ih];unfold setN;rw[List.getElem?_modify]
  by_cases h:k=i
  ·subst h
   by_cases h2:k∈ps <;> cases o[k]? <;> simp[h2]
  by_cases h2:i∈ps <;> cases o[i]? <;> simp[h2,h,Ne.symm h]
theorem iY(ops:List Ins)(ps:List Nat)(i:Nat):(land ops ps)[i]?=if i∈ps then (ops[i]?).map (fun x=>{x with n:=(ops.length:Int) - 1 - i})else ops[i]?:=aS4 _ ps ops i
theorem rE:∀(t:Tree),(∀tn ops,(∀i,i < ops.length→(unl t tn ops).1[i]?=ops[i]?)∧∀k∈(unl t tn ops).2,ops.length≤k)∧
  (∀ all tn ops away here, (∀ i, i < ops.length → (unlL all tn t ops away here).1[i]? = ops[i]?) ∧ (∀ k ∈ (unlL all tn t ops away here).2.1, k ∈ away ∨ ops.length ≤ k) ∧ (∀ k ∈ (unlL all tn t ops away here).2.2, k ∈ here ∨ ops.length ≤ k) ∧
   (∀k∈away,k∈(unlL all tn t ops away here).2.1)∧(∀k∈here,k∈(unlL all tn t ops away here).2.2)):=by
 intro t;have app:∀(ops xs:List Ins) (i:Nat),i < ops.length→(ops++xs)[i]?=ops[i]?:=fun ops xs i h=>List.getElem?_append_left h
 induction t with
 |const b=>
  grind [unlL,unl]
 |not_ t ih=>
  grind [unlL,unl]
 |many all l ih=>
  grind [unlL,unl,iY]
 |mat tag oct op a b=>
  grind [unlL,unl]
 |exi a=>
  grind [unlL,unl]
 |siz tag n=>
  grind [unlL,unl]
 |tcons t l ih1 ih2=>
  refine⟨fun tn ops=>by simp[unl],fun all tn ops away here=>?_⟩
  simp only[unlL];split
  ·have l1:=((lU t).1 (!tn) ops).1;have h1:=ih1.1 (!tn) ops;have h2:=ih2.2 all tn (unl t (!tn) ops).1 away (here++(unl t (!tn) ops).2);refine⟨fun i hi=>(h2.1 i aI).trans (h1.1 i hi),fun k hk=>(h2.2.1 k hk).imp_right aI,fun k hk=>?_,h2.2.2.2.1,fun k hk=>h2.2.2.2.2 k (List.mem_append_left _ hk)⟩;rcases h2.2.2.1 k hk with h|h <;> grind
  have l1:=((lU t).1 tn ops).1;have h1:=ih1.1 tn ops;have h2:=ih2.2 all tn (unl t tn ops).1 (away++(unl t tn ops).2) here;refine⟨fun i hi=>(h2.1 i aI).trans (h1.1 i hi),fun k hk=>?_,fun k hk=>(h2.2.2.1 k hk).imp_right aI,fun k hk=>h2.2.2.2.1 k (List.mem_append_left _ hk),h2.2.2.2.2⟩;rcases h2.2.1 k hk with h|h <;> grind
 |_=>
  grind [unl,unlL]
def Agr(C new:List Ins)(a:Nat)(ps:List Nat):Prop:=∀i,a≤i→i < new.length→i∉ps→C[i]?=new[i]?
def Jmp(C new:List Ins)(a:Nat)(ps:List Nat)(T:Nat):Prop:=∀k∈ps,a≤k→C[k]?=(new[k]?).map fun o=>{o with n:=(T:Int) - 1 - k}
theorem bSZ(all tn:Bool):∀(t:Tree) ops away here,(∀k∈away,k < ops.length)→(∀k∈here,k < ops.length)→(∀k∈away,k∉here)→∀k∈(unlL all tn t ops away here).2.1,k∉(unlL all tn t ops away here).2.2:=by
 intro t;induction t with
 |tcons t l ih1 ih2=>
  intro ops away here ha hh hd;simp only[unlL];split
  ·have l0:=(lU t).1 (!tn) ops;have p0:=((rE t).1 (!tn) ops).2;refine ih2 _ _ _ (fun k hk=>by have:=ha k hk;omega) (fun k hk=>?_) (fun k hk hk2=>?_) <;> grind
  have l0:=(lU t).1 tn ops;have p0:=((rE t).1 tn ops).2;refine ih2 _ _ _ (fun k hk=>?_) (fun k hk=>by have:=hh k hk;omega) (fun k hk hk2=>?_) <;> grind
 |_=>intro ops away here ha hh hd;simp only[unlL];exact hd
theorem bTN{a b h:Bool}(hc:a=b)(hx:¬h=a):h=!b:=by cases a <;> cases b <;> cases h <;> simp at*
theorem bPN{a b h:Bool}(hc:a≠b)(hx:¬h=a):h=b:=by cases a <;> cases b <;> cases h <;> simp at*
theorem bTP(b:Bool):¬b=!b:=by cases b <;> simp
theorem bH7{α:Type}{a b:Bool}{x y:α}:(if a=!b then x else y)=if (!a)=b then x else y:=by cases a <;> cases b <;> rfl
section
variable{nm:Bool}{m:Msg}{C:List Ins}
theorem aFY{all:Bool}{t l:Tree}{c:Co}(h:(holds nm m t c).1=all):o4 nm m all (.tcons t l) c=o4 nm m all l (holds nm m t c).2:=by simp only[o4];exact if_pos h
theorem aCI{all:Bool}{t l:Tree}{c:Co}(h:¬(holds nm m t c).1=all):o4 nm m all (.tcons t l) c=holds nm m t c:=by simp only[o4];exact if_neg h
theorem bKN{tag:Int}{oct:Bool}{op:Int}{a b:List aJ}{c:Co}{i:Nat}(h:1≤tag∧tag≤3∧6≤op∧op≤8):
  Mach.step nm m C.length ⟨op,0,tag,oct,a,b,0⟩ (c.ms i)=.ok {(mat nm m (matO tag oct op a b) c).2.ms i with stack:=[(mat nm m (matO tag oct op a b) c).1]}:=by
 unfold Mach.step;simp only[];rw[if_neg aI,if_neg aI,if_neg aI,if_neg aI,if_neg aI,if_pos aI];unfold matchI;simp only[];rw[if_pos ⟨h.1,h.2.1,by simp[Co.ms]⟩];unfold mat matR matO;simp only[Co.ms];cases iZ ⟨op,0,tag,oct,a,b,0⟩ (gW (dM nm c.vars c.parts) m ⟨op,0,tag,oct,a,b,0⟩) (b.map (dM nm c.vars c.parts)) <;> grind [matchI,Co.ms,mat,matR,matO,push]
theorem bKM{a:List aJ}{c:Co}{i:Nat}:
  Mach.step nm m C.length ⟨9,0,0,false,a,[],0⟩ (c.ms i)=.ok {c.ms i with stack:=[pW m (a.map (dM nm c.vars c.parts))]}:=by
 unfold Mach.step;simp only[];rw[if_neg aI,if_neg aI,if_neg aI,if_neg aI,if_neg aI,if_neg aI,if_pos trivial];simp[push,Co.ms]
theorem bKO{tag n:Int}{c:Co}{i:Nat}(h:tag=1∨tag=2):
  Mach.step nm m C.length ⟨10,n,tag,false,[],[],0⟩ (c.ms i)=.ok {c.ms i with stack:=[decide (tag=1∧n < m.size∨tag=2∧m.size < n)]}:=by
 unfold Mach.step;simp only[];rw[if_neg aI,if_neg aI,if_neg aI,if_neg aI,if_neg aI,if_neg aI,if_neg aI,if_pos trivial,if_pos h];simp[push,Co.ms]
theorem two{ops:List Ins}{o j:Ins}{T:Nat}(hA:Agr C (ops++[o,j]) ops.length [ops.length+1])(hJ:Jmp C (ops++[o,j]) ops.length [ops.length+1] T):
  C[ops.length]?=some o∧C[ops.length+1]?=some {j with n:=(T:Int) - 1 - (ops.length+1:Nat)}:=by
 grind [Agr,Jmp]
theorem bLJ : ∀ (t : Tree), okT t = true → (∀ tn ops (T : Nat) (c : Co), wf t 0 = true → Agr C (unl t tn ops).1 ops.length (unl t tn ops).2 → Jmp C (unl t tn ops).1 ops.length (unl t tn ops).2 T → (unl t tn ops).1.length ≤ T → T ≤ C.length →
   fin nm m C (c.ms ops.length)=fin nm m C ((holds nm m t c).2.ms (if (holds nm m t c).1=tn then T else (unl t tn ops).1.length)))∧
  (∀ all tn ops away here (T : Nat) (c : Co), wf t 1 = true → iD t = false → (∀ k ∈ away, k < ops.length) → (∀ k ∈ here, k < ops.length) →
   (∀i,ops.length≤i→i < (unlL all tn t ops away here).1.length→i∉(unlL all tn t ops away here).2.1→i∉(unlL all tn t ops away here).2.2→C[i]?=(unlL all tn t ops away here).1[i]?)→
   Jmp C (unlL all tn t ops away here).1 ops.length (unlL all tn t ops away here).2.1 T→Jmp C (unlL all tn t ops away here).1 ops.length (unlL all tn t ops away here).2.2 (unlL all tn t ops away here).1.length→
   (unlL all tn t ops away here).1.length≤T→T≤C.length→
   fin nm m C (c.ms ops.length)=fin nm m C ((o4 nm m all t c).2.ms (if (o4 nm m all t c).1=tn then T else (unlL all tn t ops away here).1.length))):=by
 intro t;induction t with
 |const b=>
  grind [wf,unl,Agr,Jmp,holds,aS1]
 |not_ t ih=>
  intro hok;refine⟨fun tn ops T c hw hA hJ h1 h2=>?_,fun all tn ops away here T c hw=>by simp[wf]at hw⟩
  simp only[unl]at hA hJ h1 ⊢;simp only[wf,beq_self_eq_true,Bool.true_and]at hw;rw[(ih hok).1 (!tn) ops T c hw hA hJ h1 h2];simp only[holds];rw[bH7];rfl
 |many all l ih=>
  intro hok;refine⟨fun tn ops T c hw hA hJ h1 h2=>?_,fun all tn ops away here T c hw=>by simp[wf]at hw⟩
  simp only[okT,Bool.and_eq_true,Bool.not_eq_true']at hok;simp only[wf,beq_self_eq_true,Bool.true_and]at hw;simp only[unl]at hA hJ h1 ⊢;rw[dA]at h1 ⊢;have hp:=(rE l).2 all tn ops [] [];have hdj:∀k,k∈(unlL all tn l ops [] []).2.1→k∉(unlL all tn l ops [] []).2.2:=bSZ all tn l ops [] [] (by simp) (by simp) (by simp);simp only[holds];refine(ih hok.2).2 all tn ops [] [] T c hw hok.1 (by simp) (by simp) (fun i hi hi2 hn1 hn2=>?_) (fun k hk ha=>?_) (fun k hk ha=>?_) h1 h2
  ·rw[hA i hi (by rw[dA];exact hi2) hn1,iY,if_neg hn2]
  ·rw[hJ k hk ha,iY,if_neg (hdj k hk)]
  rw[hA k ha (by rw[dA];exact((lU l).2 all tn ops [] [] (by simp) (by simp)).2.2.2.2.2 k hk) (fun h=>hdj k h hk),iY,if_pos hk]
 |mat tag oct op a b=>
  intro hok;refine⟨fun tn ops T c hw hA hJ h1 h2=>?_,fun all tn ops away here T c hw=>by simp[wf]at hw⟩
  simp only[okT,decide_eq_true_eq]at hok;simp only[unl]at hA hJ h1 ⊢;obtain⟨e1,e2⟩:=two hA hJ;simp only[List.length_append,List.length_cons,List.length_nil]at h1 ⊢;simp only[holds];exact aJX e1 gB1 (bKN hok) e2 h1 h2
 |exi a=>
  intro hok;refine⟨fun tn ops T c hw hA hJ h1 h2=>?_,fun all tn ops away here T c hw=>by simp[wf]at hw⟩
  simp only[unl]at hA hJ h1 ⊢;obtain⟨e1,e2⟩:=two hA hJ;simp only[List.length_append,List.length_cons,List.length_nil]at h1 ⊢;simp only[holds];exact aJX e1 (by simp) bKM e2 h1 h2
 |siz tag n=>
  intro hok;refine⟨fun tn ops T c hw hA hJ h1 h2=>?_,fun all tn ops away here T c hw=>by simp[wf]at hw⟩
  simp only[okT,decide_eq_true_eq]at hok;simp only[unl]at hA hJ h1 ⊢;obtain⟨e1,e2⟩:=two hA hJ;simp only[List.length_append,List.length_cons,List.length_nil]at h1 ⊢;simp only[holds];exact aJX e1 (by simp) (bKO hok) e2 h1 h2
 |tcons t l ih1 ih2=>
  intro hok;refine⟨fun tn ops T c hw=>by simp[wf]at hw,fun all tn ops away here T c hw hn ha hh hA hJ hH h1 h2=>?_⟩
  simp only[okT,Bool.and_eq_true]at hok;simp only[wf,beq_self_eq_true,Bool.true_and,Bool.and_eq_true]at hw;simp only[unlL]at hA hJ hH h1 ⊢
  by_cases hc:all=tn∧iD l=false
  ·simp only[if_pos hc]at hA hJ hH h1 ⊢;have l0:=(lU t).1 (!tn) ops;have p0:=(rE t).1 (!tn) ops;have p1:=(rE l).2 all tn (unl t (!tn) ops).1 away (here++(unl t (!tn) ops).2);have hh':∀k∈here++(unl t (!tn) ops).2,k < (unl t (!tn) ops).1.length:=fun k hk=>by
    rcases List.mem_append.1 hk with h|h
    ·have:=hh k h;omega
    exact l0.2.2.2 k h
   have ha':∀k∈away,k < (unl t (!tn) ops).1.length:=fun k hk=>by have:=ha k hk;omega
   have l1 := (lU l).2 all tn (unl t (!tn) ops).1 away (here ++ (unl t (!tn) ops).2) ha' hh';have e1 := (ih1 hok.1).1 (!tn) ops (unlL all tn l (unl t (!tn) ops).1 away (here ++ (unl t (!tn) ops).2)).1.length c hw.1 (fun i hi hi2 hn1 => by
     rw [hA i hi aI (fun h => by
       rcases p1.2.1 i h with h|h
       ·have:=ha i h;omega
       ·omega) (fun h => by
       rcases p1.2.2.1 i h with h|h
       ·rcases List.mem_append.1 h with h|h
        ·have:=hh i h;omega
        exact hn1 h
       omega)]
     exact p1.1 i hi2) (fun k hk hk2 => by
     rw[hH k (p1.2.2.2.2 k (List.mem_append_right _ hk)) hk2,p1.1 k (l0.2.2.2 k hk)]) l1.1 aI
   rw[e1]
   by_cases hx:(holds nm m t c).1=all
   ·rw[if_neg (by rw[hx,hc.1];exact bTP tn),aFY hx];exact(ih2 hok.2).2 all tn _ away _ T _ hw.2 hc.2 ha' hh' (fun i hi hi2 hn1 hn2=>hA i aI hi2 hn1 hn2) (fun k hk hk2=>hJ k hk aI) (fun k hk hk2=>hH k hk aI) h1 h2
   rw[aCI hx,if_pos (bTN hc.1 hx),if_neg (by rw[←hc.1];exact hx)]
  simp only[if_neg hc]at hA hJ hH h1 ⊢;have l0:=(lU t).1 tn ops;have p0:=(rE t).1 tn ops;have p1:=(rE l).2 all tn (unl t tn ops).1 (away++(unl t tn ops).2) here;have ha':∀k∈away++(unl t tn ops).2,k < (unl t tn ops).1.length:=fun k hk=>by
   rcases List.mem_append.1 hk with h|h
   ·have:=ha k h;omega
   exact l0.2.2.2 k h
  have hh':∀k∈here,k < (unl t tn ops).1.length:=fun k hk=>by have:=hh k hk;omega
  have l1 := (lU l).2 all tn (unl t tn ops).1 (away ++ (unl t tn ops).2) here ha' hh';have e1 := (ih1 hok.1).1 tn ops T c hw.1 (fun i hi hi2 hn1 => by
    rw [hA i hi aI (fun h => by
      rcases p1.2.1 i h with h|h
      ·rcases List.mem_append.1 h with h|h
       ·have:=ha i h;omega
       exact hn1 h
      ·omega) (fun h => by
      rcases p1.2.2.1 i h with h|h
      ·have:=hh i h;omega
      omega)]
    exact p1.1 i hi2) (fun k hk hk2 => by
    rw[hJ k (p1.2.2.2.1 k (List.mem_append_right _ hk)) hk2,p1.1 k (l0.2.2.2 k hk)]) aI h2
  rw[e1]
  by_cases hn2:iD l=true
  ·have el:l=.tnil:=by cases l <;> simp[wf,iD]at hw hn2;rfl
   subst el;simp only[unlL]
   by_cases hx:(holds nm m t c).1=all
   ·rw[aFY hx];simp only[o4];rw[hx];rfl
   rw[aCI hx]
  have hat:all≠tn:=fun h=>hc ⟨h,by simpa using hn2⟩
  by_cases hx:(holds nm m t c).1=all
  ·grind [Agr,Jmp,aFY]
  rw[aCI hx,if_pos (bPN hat hx),if_pos (bPN hat hx)]
 |_=>grind [wf,iD,Agr,Jmp]
theorem aAU:∀(t:Tree),(∀ops,∀i,i < ops.length→(body t ops)[i]?=ops[i]?)∧(∀ops,∀i,i < ops.length→(cmdI t ops)[i]?=ops[i]?)∧(∀ops out,∀i,i < ops.length→i∉out→(cV t ops out)[i]?=ops[i]?):=by
 intro t;have app:∀(ops xs:List Ins) (i:Nat),i < ops.length→(ops++xs)[i]?=ops[i]?:=fun ops xs i h=>List.getElem?_append_left h
 have ld:∀(ops:List Ins) (out:List Nat) i,i∉out→(land ops out)[i]?=ops[i]?:=fun ops out i h=>by rw[iY,if_neg h]
 induction t with
 |plain op=>grind [body,out,cmdI,cV]
 |act k a p=>grind [body,out,cmdI,cV]
 |set_ n v t=>grind [body,out,cmdI,cV]
 |iff bs ih=>grind [body,cmdI,out,cV]
 |ccons c l ih1 ih2=>
  refine⟨fun ops i h=>?_,fun ops i h=>by simp[cmdI],fun ops out i h hn=>ld _ _ _ hn⟩
  have:=((nG c).2.1 ops).1;simp only[body];rw[ih2.1 _ i aI,ih1.2.1 ops i h]
 |belse b l ih1 ih2=>
  grind [body,cmdI,cV]
 |bcons t b l ih1 ih2 ih3=>
  refine⟨fun ops i h=>by simp[body],fun ops i h=>by simp[cmdI],fun ops out i h hn=>?_⟩
  have h0:=(lU t).1 false ops;have p0:=(rE t).1 false ops;have h1:=((nG b).1 (unl t false ops).1).1;have hn2:i∉(unl t false ops).2:=fun hk=>by have:=p0.2 i hk;omega
  simp only[cV];split
  ·grind [dA]
  rw[ih3.2.2 _ _ i (by rw[dA];simp;omega) (by simp;exact⟨hn,by omega⟩),ld _ _ _ hn2,app _ _ i aI,ih2.1 _ i aI,p0.1 i h]
 |_=>grind [body,cmdI,out,cV]
theorem bL1:∀(t:Tree),wf t 4=true→∀ops out,(∀k∈out,k < ops.length)→∀k∈out,(cV t ops out)[k]?=(ops[k]?).map fun o=>{o with n:=((cV t ops out).length:Int) - 1 - k}:=by
 intro t;induction t with
 |bnil=>intro hw ops out ho k hk;simp only[cV];rw[iY,if_pos hk,dA]
 |belse b l ih1 ih2=>
  intro hw ops out ho k hk;simp only[cV];rw[iY,if_pos hk,dA,(aAU b).1 ops k (ho k hk)]
 |bcons t b l ih1 ih2 ih3=>
  intro hw ops out ho k hk;simp only[wf,beq_self_eq_true,Bool.true_and,Bool.and_eq_true]at hw;have h0:=(lU t).1 false ops;have p0:=(rE t).1 false ops;have h1:=((nG b).1 (unl t false ops).1).1;have hn2:k∉(unl t false ops).2:=fun hq=>by have:=p0.2 k hq;have:=ho k hk;omega
  have hk2:=ho k hk;simp only[cV];split
  ·rw[ih3 hw.2.2 _ out (fun q hq=>by rw[dA];have:=ho q hq;omega) k hk,iY,if_neg hn2,(aAU b).1 _ k aI,p0.1 k hk2]
  rw [ih3 hw.2.2 _ _ (fun q hq => by
   rw[dA,List.length_append,List.length_singleton];rcases List.mem_append.1 hq with h|h
   ·have:=ho q h;omega
   simp at h;omega) k (List.mem_append_left _ hk),iY,if_neg hn2,List.getElem?_append_left aI,(aAU b).1 _ k aI,p0.1 k hk2]
 |_=>intro hw;simp[wf]at hw
theorem bNU(k:Int)(a:aJ)(p:Int)(c:Co)(i n:Nat)(h:1≤k∧k≤4):Mach.step nm m n ⟨11,0,k,false,if k=1 then []else [a],[],p⟩ (c.ms i)=match act k (yO nm k a c) p c with
  | .error e=>.error e
  | .ok d=>.ok (d.ms i):=by
 unfold Mach.step;simp only[];rw[if_neg (by decide),if_neg (by decide),if_neg (by decide),if_neg (by decide),if_neg (by decide),if_neg (by decide),if_neg (by decide),if_neg (by decide),if_pos trivial];unfold actI act addX;simp only[];have e1:actA nm ⟨11,0,k,false,if k=1 then []else [a],[],p⟩ (c.ms i)=yO nm k a c:=by
  unfold actA yO;simp only[Co.ms]
  by_cases hk:k=1
  ·rw[if_pos hk,if_pos hk]
  rw[if_neg hk,if_neg hk,if_neg hk];rfl
 rw[e1,if_pos (by by_cases hk:k=1;exact .inl hk;exact .inr ⟨by omega,by omega,by rw[if_neg hk];simp⟩)]
 generalize yO nm k a c=x
 have e2:actV ⟨11,0,k,false,if k=1 then []else [a],[],p⟩ x=actX k x:=rfl;rw[e2]
 generalize actX k x=X
 have ea:(c.ms i).acts=c.acts:=rfl;rw[ea]
 by_cases h1:k=2∧boxed x=false
 ·rw[if_pos h1,if_pos h1] <;> rfl
 rw[if_neg h1,if_neg h1]
 by_cases h2:k=3∧kZ x=false
 ·rw[if_pos h2,if_pos h2] <;> rfl
 rw[if_neg h2,if_neg h2]
 by_cases h3:X∈c.acts
 ·rw[if_pos h3,if_pos h3] <;> rfl
 rw[if_neg h3,if_neg h3]
 by_cases h4:∃b∈c.acts,X.1=4∨b.1=4
 ·rw[if_pos h4,if_pos h4] <;> rfl
 rw[if_neg h4,if_neg h4]
 by_cases h5:c.acts.length=6
 ·rw[if_pos h5,if_pos h5] <;> rfl
 rw[if_neg h5,if_neg h5] <;> rfl
theorem bNW(x v:aJ)(t:Int)(c:Co)(i n:Nat)(h:0≤t∧t≤3):Mach.step nm m n ⟨12,0,t,false,[x],[v],0⟩ (c.ms i)=.ok (({c with vars:=vput c.vars x (setV t (dM nm c.vars c.parts v))}:Co).ms i):=by
 unfold Mach.step;simp only[];rw[if_neg (by decide),if_neg (by decide),if_neg (by decide),if_neg (by decide),if_neg (by decide),if_neg (by decide),if_neg (by decide),if_neg (by decide),if_neg (by decide),if_pos trivial];unfold setI setV;simp only[];rw[if_pos h];rfl
def goOn(nm:Bool)(m:Msg)(C:List Ins)(T:Nat):Res (Bool×Co)→List Action×Option (Int×Int)
 | .error e=>([(1,[])],some e)
 | .ok r=>if r.1=true then (done r.2,none)else fin nm m C (r.2.ms T)
theorem aTE{ops:List Ins}{o:Ins}(hA:Agr C (ops++[o]) ops.length []):C[ops.length]?=some o:=by
 rw[hA ops.length (Nat.le_refl _) (by simp) (by simp)];simp
theorem bD5:∀(t:Tree),okT t=true→(∀ops c,wf t 3=true→Agr C (body t ops) ops.length []→(body t ops).length≤C.length→fin nm m C (c.ms ops.length)=goOn nm m C (body t ops).length (Say.run nm m t c))∧
  (∀ops c,wf t 2=true→Agr C (cmdI t ops) ops.length []→(cmdI t ops).length≤C.length→fin nm m C (c.ms ops.length)=goOn nm m C (cmdI t ops).length (Say.cmd nm m t c))∧
  (∀ops out c,wf t 4=true→(∀k∈out,k < ops.length)→Agr C (cV t ops out) ops.length []→(cV t ops out).length≤C.length→fin nm m C (c.ms ops.length)=goOn nm m C (cV t ops out).length (Say.brs nm m t c)):=by
 intro t;induction t with
 |plain op=>
  intro hok;refine⟨fun ops c hw=>by simp[wf]at hw,fun ops c hw hA hl=>?_,fun ops out c hw=>by simp[wf]at hw⟩
  simp only[okT,decide_eq_true_eq]at hok;simp only[cmdI]at hA hl ⊢;have e:=aTE hA;simp only[Say.cmd];rcases hok with rfl|rfl
  ·rw[if_neg (by decide)];rw[vK (t:={c.ms ops.length with keep:=false}) e (by simp[jmp]) (by unfold Mach.step;simp[jmp])];simp only[goOn,List.length_append,List.length_singleton];rfl
  rw[if_pos rfl,bHL e rfl];simp only[goOn,if_true];rfl
 |act k a p=>
  intro hok;refine⟨fun ops c hw=>by simp[wf]at hw,fun ops c hw hA hl=>?_,fun ops out c hw=>by simp[wf]at hw⟩
  simp only[okT,decide_eq_true_eq]at hok;simp only[cmdI]at hA hl ⊢;have e:=aTE hA;have hs:=bNU (nm:=nm) (m:=m) k a p c ops.length C.length hok;simp only[Say.cmd];cases hx:act k (yO nm k a c) p c with
  |error e1=>
   rw[hx]at hs;rw[bMQ e (by simp) hs];rfl
  |ok d=>
   rw[hx]at hs;rw[vK e (by simp) hs];simp only[goOn,List.length_append,List.length_singleton];rfl
 |set_ n v tg=>
  intro hok;refine⟨fun ops c hw=>by simp[wf]at hw,fun ops c hw hA hl=>?_,fun ops out c hw=>by simp[wf]at hw⟩
  simp only[okT,decide_eq_true_eq]at hok;simp only[cmdI]at hA hl ⊢;have e:=aTE hA;rw[vK e (by simp) (bNW n v tg c ops.length C.length hok)];simp only[Say.cmd,goOn,List.length_append,List.length_singleton];rfl
 |iff bs ih=>
  intro hok;refine⟨fun ops c hw=>by simp[wf]at hw,fun ops c hw hA hl=>?_,fun ops out c hw=>by simp[wf]at hw⟩
  simp only[wf,beq_self_eq_true,Bool.true_and]at hw;simp only[cmdI]at hA hl ⊢;rw[(ih hok).2.2 ops [] c hw (by simp) hA hl]
  rfl
 |cnil=>
  intro hok;refine⟨fun ops c hw hA hl=>?_,fun ops c hw=>by simp[wf]at hw,fun ops out c hw=>by simp[wf]at hw⟩
  simp[body,Say.run,goOn]
 |ccons x l ih1 ih2=>
  intro hok;refine⟨fun ops c hw hA hl=>?_,fun ops c hw=>by simp[wf]at hw,fun ops out c hw=>by simp[wf]at hw⟩;simp only[okT,Bool.and_eq_true]at hok;simp only[wf,beq_self_eq_true,Bool.true_and,Bool.and_eq_true]at hw;simp only[body]at hA hl ⊢;have l1:=(nG x).2.1 ops;have l2:=(nG l).1 (cmdI x ops);have p2:=(aAU l).1 (cmdI x ops);rw[(ih1 hok.1).2.1 ops c hw.1 (fun i hi hi2 _=>by rw[hA i hi aI (by simp),p2 i hi2]) aI];simp only[Say.run];cases hx:Say.cmd nm m x c <;> grind [wf,okT,body,goOn,Agr]
 |bnil=>
  intro hok;refine⟨fun ops c hw=>by simp[wf]at hw,fun ops c hw=>by simp[wf]at hw,fun ops out c hw ho hA hl=>?_⟩
  simp only[cV,dA,Say.brs,goOn,Bool.false_eq_true,if_false]
 |belse b l ih1 ih2=>
  intro hok;refine⟨fun ops c hw=>by simp[wf]at hw,fun ops c hw=>by simp[wf]at hw,fun ops out c hw ho hA hl=>?_⟩
  simp only[okT,Bool.and_eq_true]at hok;simp only[wf,beq_self_eq_true,Bool.true_and,Bool.and_eq_true]at hw;simp only[cV]at hA hl ⊢;rw[dA]at hl ⊢;simp only[Say.brs];exact(ih1 hok.1).1 ops c hw.1 (fun i hi hi2 _=>by rw[hA i hi (by rw[dA];exact hi2) (by simp),iY,if_neg (fun h=>by have:=ho i h;omega)]) hl
 |bcons t b l ih1 ih2 ih3=>
  intro hok;refine⟨fun ops c hw=>by simp[wf]at hw,fun ops c hw=>by simp[wf]at hw,fun ops out c hw ho hA hl=>?_⟩
  simp only[okT,Bool.and_eq_true]at hok;simp only[wf,beq_self_eq_true,Bool.true_and,Bool.and_eq_true]at hw;have h0:=(lU t).1 false ops;have p0:=(rE t).1 false ops;have h1:=(nG b).1 (unl t false ops).1;have p1:=(aAU b).1 (unl t false ops).1;have hou:∀i,ops.length≤i→i∉out:=fun i hi h=>by have:=ho i h;omega
  have hup:∀i,(unl t false ops).1.length≤i→i∉(unl t false ops).2:=fun i hi h=>by have:=h0.2.2.2 i h;omega
  simp only[cV]at hA hl ⊢;simp only[Say.brs]
  by_cases hn:iD l=true
  ·have el:l=.bnil:=by cases l <;> simp[wf,iD]at hw hn;rfl
   subst el;simp only[if_pos hn]at hA hl ⊢;simp only[cV,dA]at hA hl ⊢;have hget:∀i,ops.length≤i→i < (body b (unl t false ops).1).length→C[i]?=(land (body b (unl t false ops).1) (unl t false ops).2)[i]?:=fun i hi hi2=>by
    rw[hA i hi (by rw[dA,dA];exact hi2) (by simp),iY _ out,if_neg (hou i hi)]
   rw [(bLJ t hok.1).1 false ops (body b (unl t false ops).1).length c hw.1 (fun i hi hi2 hi3 => by rw [hget i hi aI, iY, if_neg hi3, p1 i hi2])
    (fun k hk hk2=>by have:=h0.2.2.2 k hk;rw[hget k hk2 aI,iY,if_pos hk,p1 k this]) h1.1 hl]
   cases hh:(holds nm m t c).1 with
   |true=>
    grind [Agr,iY]
   |false=>simp only[if_true,Bool.false_eq_true,if_false,Say.brs,goOn]
  simp only[if_neg hn]at hA hl ⊢;have l3:=(nG l).2.2 (land (body b (unl t false ops).1++[jmp 3]) (unl t false ops).2) (out++[(body b (unl t false ops).1).length]);rw[dA,List.length_append,List.length_singleton]at l3;have ho2:∀k∈out++[(body b (unl t false ops).1).length],k < (land (body b (unl t false ops).1++[jmp 3]) (unl t false ops).2).length:=fun q hq=>by
   rw[dA,List.length_append,List.length_singleton];rcases List.mem_append.1 hq with h|h
   ·have:=ho q h;omega
   simp at h;omega
  have hget:∀i,ops.length≤i→i < (body b (unl t false ops).1).length→C[i]?=(land (body b (unl t false ops).1++[jmp 3]) (unl t false ops).2)[i]?:=fun i hi hi2=>by
   rw[hA i hi aI (by simp),(aAU l).2.2 _ _ i (by rw[dA];simp;omega) (by simp;exact⟨hou i hi,by omega⟩)]
  have hj := bL1 l hw.2.2 _ _ ho2 (body b (unl t false ops).1).length (by simp);rw [iY, if_neg (hup _ h1.1), List.getElem?_append_right (Nat.le_refl _)] at hj;simp only [Nat.sub_self, List.getElem?_cons_zero, Option.map_some] at hj;rw [(bLJ t hok.1).1 false ops ((body b (unl t false ops).1).length + 1) c hw.1 (fun i hi hi2 hi3 => by rw [hget i hi aI, iY, if_neg hi3, List.getElem?_append_left aI, p1 i hi2])
   (fun k hk hk2 => by
    have:=h0.2.2.2 k hk;rw[hget k hk2 aI,iY,if_pos hk,List.getElem?_append_left aI,p1 k this,List.length_append,List.length_singleton]) aI aI]
  cases hh:(holds nm m t c).1 with
  |true=>
   simp only[Bool.true_eq_false,if_false,if_true];rw[(ih2 hok.2.1).1 _ _ hw.2.1 (fun i hi hi2 _=>by rw[hget i aI hi2,iY,if_neg (hup i hi),List.getElem?_append_left hi2]) aI];cases Say.run nm m b (holds nm m t c).2 <;> grind [goOn,Agr,iY,holds,aS1]
  |false=>
   simp only[if_true,Bool.false_eq_true,if_false];have:=(ih3 hok.2.2).2.2 _ _ (holds nm m t c).2 hw.2.2 ho2 (fun i hi hi2 _=>by rw[dA]at hi;simp at hi;exact hA i aI hi2 (by simp)) hl;rw[dA,List.length_append,List.length_singleton]at this;exact this
 |_=>grind [wf,Agr]
theorem bLH:∀(t:Tree),(∀tn ops,(unl t tn ops).1.length≤ops.length+ilen t)∧(∀all tn ops away here,(unlL all tn t ops away here).1.length≤ops.length+ilen t):=by
 intro t;induction t <;> grind [unlL,unl,ilen,dA]
theorem bA7:∀(t:Tree),(∀ops,(body t ops).length≤ops.length+ilen t)∧(∀ops,(cmdI t ops).length≤ops.length+ilen t)∧(∀ops out,(cV t ops out).length≤ops.length+ilen t):=by
 intro t;induction t with
 |plain op=>grind [body,cmdI,ilen,cV,dA]
 |act k a p=>grind [body,cmdI,ilen,cV,dA]
 |set_ n v t=>grind [body,cmdI,ilen,cV,dA]
 |iff bs ih=>grind [body,out,cV,ilen,cmdI,dA]
 |ccons c l ih1 ih2=>
  grind [cmdI,cV,body,ilen,dA]
 |belse b l ih1 ih2=>
  grind [body,cmdI,cV,ilen,dA]
 |bcons t b l ih1 ih2 ih3=>
  refine⟨fun ops=>by simp[body],fun ops=>by simp[cmdI],fun ops out=>?_⟩
  have h0:=(bLH t).1 false ops;have h1:=ih2.1 (unl t false ops).1;simp only[cV,ilen];split
  ·grind [dA]
  have h2:=ih3.2.2 (land (body b (unl t false ops).1++[jmp 3]) (unl t false ops).2) (out++[(body b (unl t false ops).1).length]);rw[dA]at h2;simp only[List.length_append,List.length_singleton]at h2;omega
 |_=>grind [body,cmdI,cV,dA]
theorem bL7{t:Tree}(h3:wf t 3=true)(hok:okT t=true)(hl:(script t).length≤400):((Mach.run nm (script t) m).acts,(Mach.run nm (script t) m).err)=out (Say.run nm m t start):=by
 unfold Mach.run;rw[if_neg aI];have:=(bD5 (nm:=nm) (m:=m) (C:=script t) t hok).1 [] start h3 (fun i _ _ _=>rfl) (Nat.le_refl _);have e:(Co.ms start ([]:List Ins).length)=Mach.start:=rfl;rw[e]at this;refine Eq.trans ?_ (this.trans ?_)
 ·rfl
 cases Say.run nm m t start with
 |error e=>rfl
 |ok r=>
  obtain⟨sp,d⟩:=r;cases sp with
  |true=>rfl
  |false=>
   simp only[goOn,Bool.false_eq_true,if_false,out];exact bMP rfl
theorem aX0{s:aJ}{r:List aJ×Tree}(h:eD s=.ok r)(hs:s.length≤600):(script r.2).length≤300∧((Mach.run nm (script r.2) m).acts,(Mach.run nm (script r.2) m).err)=out (Say.run nm m r.2 start):=by
 have hf:=sJ h;have hl:=(bA7 r.2).1 [];have hl:(script r.2).length≤0+ilen r.2:=hl;exact⟨by omega,bL7 hf.1 hf.2.2.2.1 aI⟩
end
end Go.Say
end

/-
  What the proof stands on, part 28: the logic of walks, the walks through the functions, the plain laws. Conditions: as each theorem says. (Merged and shortened by a program.)
-/
import Derived.Test.YthopmddkpdehiabGreatDoorK8
import Derived.Test.YthopmddkpdehiabGreatDoorK11
import Derived.Test.YthopmddkpdehiabGreatDoorK17
set_option linter.unusedVariables false
set_option linter.unusedSimpArgs false
set_option linter.defProp false
set_option maxRecDepth 4000
set_option maxHeartbeats 1000000
section
namespace Go.Cmp
open Go.Syn Go.Mach
def bKK(n:Nat):∀(t:Tree),sOk n t→(∀tn ops,AFit n ops→AFit n (unl t tn ops).1)∧(∀all tn ops away here,AFit n ops→AFit n (unlL all tn t ops away here).1):=by
 intro t;induction t with
 |not_ t ih=>exact fun h=>⟨fun tn ops ho=>by rw[unl];exact(ih h).1 _ _ ho,fun all tn ops away here ho=>by simpa[unlL]using ho⟩
 |const b=>exact fun h=>⟨fun tn ops ho=>by rw[unl];split;exact ho.jmp;exact ho,fun all tn ops away here ho=>by simpa[unlL]using ho⟩
 |many all l ih=>exact fun h=>⟨fun tn ops ho=>by rw[unl];exact((ih h).2 _ _ _ _ _ ho).land,fun all tn ops away here ho=>by simpa[unlL]using ho⟩
 |mat tag oct op a b=>exact fun h=>⟨fun tn ops ho=>by rw[unl];exact ho.two h,fun all tn ops away here ho=>by simpa[unlL]using ho⟩
 |exi a=>exact fun h=>⟨fun tn ops ho=>by rw[unl];exact ho.two ⟨h.1,by simp,h.2,by simp⟩,fun all tn ops away here ho=>by simpa[unlL]using ho⟩
 |siz tag m=>exact fun h=>⟨fun tn ops ho=>by rw[unl];exact ho.two ⟨by simp,by simp,by simp,by simp⟩,fun all tn ops away here ho=>by simpa[unlL]using ho⟩
 |tcons t l ih1 ih2=>
  refine fun h=>⟨fun tn ops ho=>by simpa[unl]using ho,fun all tn ops away here ho=>?_⟩
  rw[unlL];split
  ·exact(ih2 h.2).2 _ _ _ _ _ ((ih1 h.1).1 _ _ ho)
  exact(ih2 h.2).2 _ _ _ _ _ ((ih1 h.1).1 _ _ ho)
 |_=>exact fun h=>⟨fun tn ops ho=>by simpa[unl]using ho,fun all tn ops away here ho=>by simpa[unlL]using ho⟩
def bB1(n:Nat):∀(t:Tree),sOk n t→(∀ops,AFit n ops→AFit n (body t ops))∧(∀ops,AFit n ops→AFit n (cmdI t ops))∧(∀ops out,AFit n ops→AFit n (dZ t ops out)):=by
 intro t;induction t with
 |plain op=>exact fun h=>⟨fun ops ho=>by simpa[body]using ho,fun ops ho=>by rw[cmdI];exact ho.jmp,fun ops out ho=>by simpa[dZ]using ho.land⟩
 |act k a p=>
  refine fun h=>⟨fun ops ho=>by simpa[body]using ho,fun ops ho=>?_,fun ops out ho=>by simpa[dZ]using ho.land⟩
  rw[cmdI];refine ho.app fun o hx=>?_;rw[List.mem_singleton]at hx;subst hx
  refine⟨fun x hx=>?_,by simp,?_,by simp⟩
  ·simp only at hx;split at hx
   ·cases hx
   rw[List.mem_singleton]at hx;subst hx;exact h
  simp only;split <;> simp
 |set_ a v t=>
  refine fun h=>⟨fun ops ho=>by simpa[body]using ho,fun ops ho=>?_,fun ops out ho=>by simpa[dZ]using ho.land⟩
  rw[cmdI];refine ho.app fun o hx=>?_;rw[List.mem_singleton]at hx;subst hx
  exact⟨fun x hx=>by rw[List.mem_singleton]at hx;subst hx;exact h.1,fun x hx=>by rw[List.mem_singleton]at hx;subst hx;exact h.2,by simp,by simp⟩
 |iff bs ih=>exact fun h=>⟨fun ops ho=>by simpa[body]using ho,fun ops ho=>by rw[cmdI];exact(ih h).2.2 _ _ ho,fun ops out ho=>by simpa[dZ]using ho.land⟩
 |ccons c l ih1 ih2=>exact fun h=>⟨fun ops ho=>by rw[body];exact(ih2 h.2).1 _ ((ih1 h.1).2.1 _ ho),fun ops ho=>by simpa[cmdI]using ho,fun ops out ho=>by simpa[dZ]using ho.land⟩
 |belse b l ih1 ih2=>exact fun h=>⟨fun ops ho=>by simpa[body]using ho,fun ops ho=>by simpa[cmdI]using ho,fun ops out ho=>by rw[dZ];exact((ih1 h.1).1 _ ho).land⟩
 |bcons t b l ih1 ih2 ih3=>
  refine fun h=>⟨fun ops ho=>by simpa[body]using ho,fun ops ho=>by simpa[cmdI]using ho,fun ops out ho=>?_⟩
  have h1:=(ih2 h.2.1).1 _ ((bKK n t h.1).1 false _ ho);rw[dZ];split
  ·exact(ih3 h.2.2).2.2 _ _ h1.land
  exact(ih3 h.2.2).2.2 _ _ h1.jmp.land
 |_=>exact fun h=>⟨fun ops ho=>by simpa[body]using ho,fun ops ho=>by simpa[cmdI]using ho,fun ops out ho=>by simpa[dZ]using ho.land⟩
def script_fit{n:Nat}{t:Tree}(h:sOk n t):AFit n (script t):=(bB1 n t h).1 [] (fun o ho=>by cases ho)
def script_len(t:Tree):(script t).length≤2*cnt t:=by have:=((m8 t).1 []).2;unfold script;simpa using this
end Go.Cmp
end
section
namespace Go.Syn
open Go.Mach
def sayC(r:List aP×Tree)(m:Msg):Out:=Mach.run (decide (eB∈r.1)) (Cmp.script r.2) m
end Go.Syn
end
section
namespace Go.Say
open Go.Syn Go.Mach Go.Cmp
section
variable{nm:Bool}{m:Msg}{C:List Ins}
def aPC:∀(f g st st':Nat) (s:MS),s.pc≤C.length→C.length < f+s.pc→C.length < g+s.pc→
  ((loop nm m C f st s).acts,(loop nm m C f st s).err)=((loop nm m C g st' s).acts,(loop nm m C g st' s).err)
 |0,g,st,st',s,h,h1,h2=>by omega
 |f+1,0,st,st',s,h,h1,h2=>by omega
 |f+1,g+1,st,st',s,h,h1,h2=>by
  unfold loop;split
  ·rfl
  rename_i o ho;have hi:s.pc < C.length:=by
   rcases xAC s.pc C.length with h'|h'
   ·exact h'
   rw[xAD h']at ho;cases ho
  split
  ·rfl
  split
  ·rfl
  rename_i t ht;have:=aCS ht hi;exact aPC f g _ _ _ gFV gFV gFV
def bID{s:MS}(h:s.pc=C.length):fin nm m C s=(if s.keep=true then s.acts++[(1,[])]else s.acts,none):=by
 unfold fin;rw[show C.length+1 - s.pc=0+1 from by omega];unfold loop;rw[xAD aH]
def bDD{s:MS}{o:Ins}(ho:C[s.pc]?=some o)(h:o.op=14):fin nm m C s=(if s.keep=true then s.acts++[(1,[])]else s.acts,none):=by
 have hi:s.pc < C.length:=by
  rcases xAC s.pc C.length with h'|h'
  ·exact h'
  rw[xAD h']at ho;cases ho
 unfold fin;rw[show C.length+1 - s.pc=(C.length - s.pc)+1 from by omega];unfold loop;rw[ho];simp only[h,if_true]
def bIE{s:MS}{o:Ins}{e:Int×Int}(ho:C[s.pc]?=some o)(h:o.op≠14)(hs:Mach.step nm m C.length o s=.error e):fin nm m C s=([(1,[])],some e):=by
 have hi:s.pc < C.length:=by
  rcases xAC s.pc C.length with h'|h'
  ·exact h'
  rw[xAD h']at ho;cases ho
 unfold fin;rw[show C.length+1 - s.pc=(C.length - s.pc)+1 from by omega];unfold loop;rw[ho];simp only[if_neg h,hs]
def uU{s t:MS}{o:Ins}(ho:C[s.pc]?=some o)(h:o.op≠14)(hs:Mach.step nm m C.length o s=.ok t):fin nm m C s=fin nm m C {t with pc:=t.pc+1}:=by
 have hi:s.pc < C.length:=by
  rcases xAC s.pc C.length with h'|h'
  ·exact h'
  rw[xAD h']at ho;cases ho
 have hp:=aCS hs hi;unfold fin;rw[show C.length+1 - s.pc=(C.length - s.pc)+1 from by omega,loop];rw[ho];simp only[if_neg h,hs];exact aPC _ _ _ _ _ gFV gFV gFV
def aO0{c:Co}{i T:Nat}(ho:C[i]?=some {jmp 3 with n:=(T:Int) - 1 - i})(h1:i+1≤T)(h2:T≤C.length):fin nm m C (c.ms i)=fin nm m C (c.ms T):=by
 have hs:Mach.step nm m C.length {jmp 3 with n:=(T:Int) - 1 - i} (c.ms i)=.ok {c.ms i with pc:=i+(((T:Int) - 1 - i).toNat)}:=by
  unfold Mach.step jump;simp only[jmp,Co.ms];rw[x5 (by decide),x5 (by decide),x7 trivial,x7 aH];rfl
 rw[uU ho (by simp[jmp]) hs]
 congr 1
 simp only[Co.ms]
 congr 1
 omega
def aGV{c d:Co}{o:Ins}{b tn:Bool}{i T:Nat}(ho:C[i]?=some o)(hop:o.op≠14)(hs:Mach.step nm m C.length o (c.ms i)=.ok {d.ms i with stack:=[b]})
  (hj:C[i+1]?=some {jmp (if tn=true then 4 else 5)with n:=(T:Int) - 1 - (i+1:Nat)}) (h1:i+2≤T) (h2:T≤C.length):fin nm m C (c.ms i)=fin nm m C (d.ms (if b=tn then T else i+2)):=by
 rw[uU ho hop hs];have hs2:Mach.step nm m C.length {jmp (if tn=true then 4 else 5)with n:=(T:Int) - 1 - (i+1:Nat)} {d.ms i with stack:=[b],pc:=i+1}=.ok (d.ms (if b=tn then i+1+(((T:Int) - 1 - (i+1:Nat)).toNat)else i+1)):=by
  cases tn
  ·unfold Mach.step pop jump;simp only[jmp,Co.ms,if_false];cases b <;> simp <;> omega
  unfold Mach.step pop jump;simp only[jmp,Co.ms,if_true];cases b <;> simp <;> omega
 have e:{({d.ms i with stack:=[b]}:MS)with pc:=({d.ms i with stack:=[b]}:MS).pc+1}={d.ms i with stack:=[b],pc:=i+1}:=rfl;rw[e,uU (o:={jmp (if tn=true then 4 else 5)with n:=(T:Int) - 1 - (i+1:Nat)}) hj (by cases tn <;> simp[jmp]) hs2]
 congr 1
 simp only[Co.ms]
 congr 1
 split <;> omega
end
def aO1(n:Int):∀(ps:List Nat) (o:List Ins) (i:Nat),(ps.foldl (fun o k=>setN o k (n - 1 - k)) o)[i]?=if i∈ps then (o[i]?).map (fun x=>{x with n:=n - 1 - i})else o[i]?:=by
 intro ps;induction ps with
 |nil=>intro o i;simp
 |cons k ps ih=>
  intro o i;rw[List.foldl_cons,ih];unfold setN;rw[List.getElem?_modify]
  by_cases h:k=i
  ·subst h
   by_cases h2:k∈ps <;> cases o[k]? <;> simp[h2]
  by_cases h2:i∈ps <;> cases o[i]? <;> simp[h2,h,Ne.symm h]
def j8(ops:List Ins)(ps:List Nat)(i:Nat):(land ops ps)[i]?=if i∈ps then (ops[i]?).map (fun x=>{x with n:=(ops.length:Int) - 1 - i})else ops[i]?:=aO1 _ ps ops i
def qU:∀(t:Tree),(∀tn ops,(∀i,i < ops.length→(unl t tn ops).1[i]?=ops[i]?)∧∀k∈(unl t tn ops).2,ops.length≤k)∧
  (∀ all tn ops away here, (∀ i, i < ops.length → (unlL all tn t ops away here).1[i]? = ops[i]?) ∧ (∀ k ∈ (unlL all tn t ops away here).2.1, k ∈ away ∨ ops.length ≤ k) ∧ (∀ k ∈ (unlL all tn t ops away here).2.2, k ∈ here ∨ ops.length ≤ k) ∧
   (∀k∈away,k∈(unlL all tn t ops away here).2.1)∧(∀k∈here,k∈(unlL all tn t ops away here).2.2)):=by
 intro t;have app:∀(ops xs:List Ins) (i:Nat),i < ops.length→(ops++xs)[i]?=ops[i]?:=fun ops xs i h=>xA5 h
 induction t with
 |const b=>
  refine⟨fun tn ops=>?_,fun all tn ops away here=>by simp only[unlL];exact⟨fun _ _=>trivial,fun k h=>.inl h,fun k h=>.inl h,fun k h=>h,fun k h=>h⟩⟩
  simp only[unl];split
  ·exact⟨fun i h=>app _ _ i h,fun k h=>by simp at h;omega⟩
  exact⟨fun i h=>Y,fun k h=>by simp at h⟩
 |not_ t ih=>
  refine⟨fun tn ops=>?_,fun all tn ops away here=>by simp only[unlL];exact⟨fun _ _=>trivial,fun k h=>.inl h,fun k h=>.inl h,fun k h=>h,fun k h=>h⟩⟩
  simp only[unl];exact ih.1 _ _
 |many all l ih=>
  refine⟨fun tn ops=>?_,fun all tn ops away here=>by simp only[unlL];exact⟨fun _ _=>trivial,fun k h=>.inl h,fun k h=>.inl h,fun k h=>h,fun k h=>h⟩⟩
  have h:=ih.2 all tn ops [] [];simp only[unl];refine⟨fun i hi=>?_,fun k hk=>by simpa using h.2.1 k hk⟩
  rw[j8,x5 (fun hm=>by have:=h.2.2.1 i hm;simp at this;omega)];exact h.1 i hi
 |mat tag oct op a b=>
  refine⟨fun tn ops=>?_,fun all tn ops away here=>by simp only[unlL];exact⟨fun _ _=>trivial,fun k h=>.inl h,fun k h=>.inl h,fun k h=>h,fun k h=>h⟩⟩
  simp only[unl];exact⟨fun i h=>app _ _ i h,fun k h=>by simp at h;omega⟩
 |exi a=>
  refine⟨fun tn ops=>?_,fun all tn ops away here=>by simp only[unlL];exact⟨fun _ _=>trivial,fun k h=>.inl h,fun k h=>.inl h,fun k h=>h,fun k h=>h⟩⟩
  simp only[unl];exact⟨fun i h=>app _ _ i h,fun k h=>by simp at h;omega⟩
 |siz tag n=>
  refine⟨fun tn ops=>?_,fun all tn ops away here=>by simp only[unlL];exact⟨fun _ _=>trivial,fun k h=>.inl h,fun k h=>.inl h,fun k h=>h,fun k h=>h⟩⟩
  simp only[unl];exact⟨fun i h=>app _ _ i h,fun k h=>by simp at h;omega⟩
 |tcons t l ih1 ih2=>
  refine⟨fun tn ops=>by simp[unl],fun all tn ops away here=>?_⟩
  simp only[unlL];split
  ·have l1:=((mH t).1 (!tn) ops).1;have h1:=ih1.1 (!tn) ops;have h2:=ih2.2 all tn (unl t (!tn) ops).1 away (here++(unl t (!tn) ops).2);refine⟨fun i hi=>(h2.1 i aH).trans (h1.1 i hi),fun k hk=>(h2.2.1 k hk).imp_right aH,fun k hk=>?_,h2.2.2.2.1,fun k hk=>h2.2.2.2.2 k (List.mem_append_left _ hk)⟩
   rcases h2.2.2.1 k hk with h|h
   ·rcases xAT.1 h with h|h
    ·exact .inl h
    exact .inr (h1.2 k h)
   exact .inr aH
  have l1:=((mH t).1 tn ops).1;have h1:=ih1.1 tn ops;have h2:=ih2.2 all tn (unl t tn ops).1 (away++(unl t tn ops).2) here;refine⟨fun i hi=>(h2.1 i aH).trans (h1.1 i hi),fun k hk=>?_,fun k hk=>(h2.2.2.1 k hk).imp_right aH,fun k hk=>h2.2.2.2.1 k (List.mem_append_left _ hk),h2.2.2.2.2⟩
  rcases h2.2.1 k hk with h|h
  ·rcases xAT.1 h with h|h
   ·exact .inl h
   exact .inr (h1.2 k h)
  exact .inr aH
 |_=>
  refine⟨fun tn ops=>by simp[unl],fun all tn ops away here=>by simp only[unlL];exact⟨fun _ _=>trivial,fun k h=>.inl h,fun k h=>.inl h,fun k h=>h,fun k h=>h⟩⟩
def bNT(all tn:Bool):∀(t:Tree) ops away here,(∀k∈away,k < ops.length)→(∀k∈here,k < ops.length)→(∀k∈away,k∉here)→∀k∈(unlL all tn t ops away here).2.1,k∉(unlL all tn t ops away here).2.2:=by
 intro t;induction t with
 |tcons t l ih1 ih2=>
  intro ops away here ha hh hd;simp only[unlL];split
  ·have l0:=(mH t).1 (!tn) ops;have p0:=((qU t).1 (!tn) ops).2;refine ih2 _ _ _ (fun k hk=>by have:=ha k hk;omega) (fun k hk=>?_) (fun k hk hk2=>?_)
   ·rcases xAT.1 hk with h|h
    ·have:=hh k h;omega
    exact l0.2.2.2 k h
   rcases xAT.1 hk2 with h|h
   ·exact hd k hk h
   have:=p0 k h;have:=ha k hk;omega
  have l0:=(mH t).1 tn ops;have p0:=((qU t).1 tn ops).2;refine ih2 _ _ _ (fun k hk=>?_) (fun k hk=>by have:=hh k hk;omega) (fun k hk hk2=>?_)
  ·rcases xAT.1 hk with h|h
   ·have:=ha k h;omega
   exact l0.2.2.2 k h
  rcases xAT.1 hk with h|h
  ·exact hd k h hk2
  have:=p0 k h;have:=hh k hk2;omega
 |_=>intro ops away here ha hh hd;simp only[unlL];exact hd
def bOI{a b h:Bool}(hc:a=b)(hx:¬h=a):h=!b:=by cases a <;> cases b <;> cases h <;> simp at*
def bK0{a b h:Bool}(hc:a≠b)(hx:¬h=a):h=b:=by cases a <;> cases b <;> cases h <;> simp at*
def bOJ(b:Bool):¬b=!b:=by cases b <;> simp
def bDO{α:Type}{a b:Bool}{x y:α}:(if a=!b then x else y)=if (!a)=b then x else y:=by cases a <;> cases b <;> rfl
section
variable{nm:Bool}{m:Msg}{C:List Ins}
def aDJ{all:Bool}{t l:Tree}{c:Co}(h:(holds nm m t c).1=all):rQ nm m all (.tcons t l) c=rQ nm m all l (holds nm m t c).2:=by simp only[rQ];exact x7 h
def aAP{all:Bool}{t l:Tree}{c:Co}(h:¬(holds nm m t c).1=all):rQ nm m all (.tcons t l) c=holds nm m t c:=by simp only[rQ];exact x5 h
def bGK{tag:Int}{oct:Bool}{op:Int}{a b:List aP}{c:Co}{i:Nat}(h:1≤tag∧tag≤3∧6≤op∧op≤8):
  Mach.step nm m C.length ⟨op,0,tag,oct,a,b,0⟩ (c.ms i)=.ok {(mat nm m (matO tag oct op a b) c).2.ms i with stack:=[(mat nm m (matO tag oct op a b) c).1]}:=by
 unfold Mach.step;simp only[];rw[x5 aH,x5 aH,x5 aH,x5 aH,x5 aH,x7 aH];unfold matchI;simp only[];rw[x7 ⟨h.1,h.2.1,by simp[Co.ms]⟩];unfold mat matR matO;simp only[Co.ms];cases iZ ⟨op,0,tag,oct,a,b,0⟩ (jA (dH nm c.vars c.parts) m ⟨op,0,tag,oct,a,b,0⟩) (b.map (dH nm c.vars c.parts))with
 |none=>simp[push]
 |some ps=>
  by_cases h3:tag=3∧nm=true
  ·simp[push,h3.1,h3.2]
  simp only[];rw[x5 h3,x5 h3];simp[push]
def bGJ{a:List aP}{c:Co}{i:Nat}:
  Mach.step nm m C.length ⟨9,0,0,false,a,[],0⟩ (c.ms i)=.ok {c.ms i with stack:=[mE m (a.map (dH nm c.vars c.parts))]}:=by
 unfold Mach.step;simp only[];rw[x5 aH,x5 aH,x5 aH,x5 aH,x5 aH,x5 aH,x7 trivial];simp[push,Co.ms]
def bGM{tag n:Int}{c:Co}{i:Nat}(h:tag=1∨tag=2):
  Mach.step nm m C.length ⟨10,n,tag,false,[],[],0⟩ (c.ms i)=.ok {c.ms i with stack:=[decide (tag=1∧n < m.size∨tag=2∧m.size < n)]}:=by
 unfold Mach.step;simp only[];rw[x5 aH,x5 aH,x5 aH,x5 aH,x5 aH,x5 aH,x5 aH,x7 trivial,x7 h];simp[push,Co.ms]
def bHE : ∀ (t : Tree), okT t = true → (∀ tn ops (T : Nat) (c : Co), wf t 0 = true → Agr C (unl t tn ops).1 ops.length (unl t tn ops).2 → Jmp C (unl t tn ops).1 ops.length (unl t tn ops).2 T → (unl t tn ops).1.length ≤ T → T ≤ C.length →
   fin nm m C (c.ms ops.length)=fin nm m C ((holds nm m t c).2.ms (if (holds nm m t c).1=tn then T else (unl t tn ops).1.length)))∧
  (∀ all tn ops away here (T : Nat) (c : Co), wf t 1 = true → gS t = false → (∀ k ∈ away, k < ops.length) → (∀ k ∈ here, k < ops.length) →
   (∀i,ops.length≤i→i < (unlL all tn t ops away here).1.length→i∉(unlL all tn t ops away here).2.1→i∉(unlL all tn t ops away here).2.2→C[i]?=(unlL all tn t ops away here).1[i]?)→
   Jmp C (unlL all tn t ops away here).1 ops.length (unlL all tn t ops away here).2.1 T→Jmp C (unlL all tn t ops away here).1 ops.length (unlL all tn t ops away here).2.2 (unlL all tn t ops away here).1.length→
   (unlL all tn t ops away here).1.length≤T→T≤C.length→
   fin nm m C (c.ms ops.length)=fin nm m C ((rQ nm m all t c).2.ms (if (rQ nm m all t c).1=tn then T else (unlL all tn t ops away here).1.length))):=by
 intro t;induction t with
 |const b=>
  intro hok;refine⟨fun tn ops T c hw hA hJ h1 h2=>?_,fun all tn ops away here T c hw=>by simp[wf]at hw⟩
  simp only[unl]at hA hJ h1 ⊢;simp only[holds]
  by_cases hb:b=tn
  ·simp only[if_pos hb]at hA hJ h1 ⊢;simp at h1;exact aO0 (by rw[hJ ops.length (by simp) (xAA _)];simp) h1 h2
  simp only[if_neg hb]
 |not_ t ih=>
  intro hok;refine⟨fun tn ops T c hw hA hJ h1 h2=>?_,fun all tn ops away here T c hw=>by simp[wf]at hw⟩
  simp only[unl]at hA hJ h1 ⊢;simp only[wf,beq_self_eq_true,Bool.true_and]at hw;rw[(ih hok).1 (!tn) ops T c hw hA hJ h1 h2];simp only[holds];rw[bDO];rfl
 |many all l ih=>
  intro hok;refine⟨fun tn ops T c hw hA hJ h1 h2=>?_,fun all tn ops away here T c hw=>by simp[wf]at hw⟩
  simp only[okT,Bool.and_eq_true,Bool.not_eq_true']at hok;simp only[wf,beq_self_eq_true,Bool.true_and]at hw;simp only[unl]at hA hJ h1 ⊢;rw[dY]at h1 ⊢;have hp:=(qU l).2 all tn ops [] [];have hdj:∀k,k∈(unlL all tn l ops [] []).2.1→k∉(unlL all tn l ops [] []).2.2:=bNT all tn l ops [] [] (by simp) (by simp) (by simp);simp only[holds];refine(ih hok.2).2 all tn ops [] [] T c hw hok.1 (by simp) (by simp) (fun i hi hi2 hn1 hn2=>?_) (fun k hk ha=>?_) (fun k hk ha=>?_) h1 h2
  ·rw[hA i hi (by rw[dY];exact hi2) hn1,j8,x5 hn2]
  ·rw[hJ k hk ha,j8,x5 (hdj k hk)]
  rw[hA k ha (by rw[dY];exact((mH l).2 all tn ops [] [] (by simp) (by simp)).2.2.2.2.2 k hk) (fun h=>hdj k h hk),j8,x7 hk]
 |mat tag oct op a b=>
  intro hok;refine⟨fun tn ops T c hw hA hJ h1 h2=>?_,fun all tn ops away here T c hw=>by simp[wf]at hw⟩
  simp only[okT,decide_eq_true_eq]at hok;simp only[unl]at hA hJ h1 ⊢;obtain⟨e1,e2⟩:=two hA hJ;simp only[List.length_append,List.length_cons,List.length_nil]at h1 ⊢;simp only[holds];exact aGV e1 gFV (bGK hok) e2 h1 h2
 |exi a=>
  intro hok;refine⟨fun tn ops T c hw hA hJ h1 h2=>?_,fun all tn ops away here T c hw=>by simp[wf]at hw⟩
  simp only[unl]at hA hJ h1 ⊢;obtain⟨e1,e2⟩:=two hA hJ;simp only[List.length_append,List.length_cons,List.length_nil]at h1 ⊢;simp only[holds];exact aGV e1 (by simp) bGJ e2 h1 h2
 |siz tag n=>
  intro hok;refine⟨fun tn ops T c hw hA hJ h1 h2=>?_,fun all tn ops away here T c hw=>by simp[wf]at hw⟩
  simp only[okT,decide_eq_true_eq]at hok;simp only[unl]at hA hJ h1 ⊢;obtain⟨e1,e2⟩:=two hA hJ;simp only[List.length_append,List.length_cons,List.length_nil]at h1 ⊢;simp only[holds];exact aGV e1 (by simp) (bGM hok) e2 h1 h2
 |tcons t l ih1 ih2=>
  intro hok;refine⟨fun tn ops T c hw=>by simp[wf]at hw,fun all tn ops away here T c hw hn ha hh hA hJ hH h1 h2=>?_⟩
  simp only[okT,Bool.and_eq_true]at hok;simp only[wf,beq_self_eq_true,Bool.true_and,Bool.and_eq_true]at hw;simp only[unlL]at hA hJ hH h1 ⊢
  by_cases hc:all=tn∧gS l=false
  ·simp only[if_pos hc]at hA hJ hH h1 ⊢;have l0:=(mH t).1 (!tn) ops;have p0:=(qU t).1 (!tn) ops;have p1:=(qU l).2 all tn (unl t (!tn) ops).1 away (here++(unl t (!tn) ops).2);have hh':∀k∈here++(unl t (!tn) ops).2,k < (unl t (!tn) ops).1.length:=fun k hk=>by
    rcases xAT.1 hk with h|h
    ·have:=hh k h;omega
    exact l0.2.2.2 k h
   have ha':∀k∈away,k < (unl t (!tn) ops).1.length:=fun k hk=>by have:=ha k hk;omega
   have l1 := (mH l).2 all tn (unl t (!tn) ops).1 away (here ++ (unl t (!tn) ops).2) ha' hh';have e1 := (ih1 hok.1).1 (!tn) ops (unlL all tn l (unl t (!tn) ops).1 away (here ++ (unl t (!tn) ops).2)).1.length c hw.1 (fun i hi hi2 hn1 => by
     rw [hA i hi aH (fun h => by
       rcases p1.2.1 i h with h|h
       ·have:=ha i h;omega
       ·omega) (fun h => by
       rcases p1.2.2.1 i h with h|h
       ·rcases xAT.1 h with h|h
        ·have:=hh i h;omega
        exact hn1 h
       omega)]
     exact p1.1 i hi2) (fun k hk hk2 => by
     rw[hH k (p1.2.2.2.2 k (List.mem_append_right _ hk)) hk2,p1.1 k (l0.2.2.2 k hk)]) l1.1 aH
   rw[e1]
   by_cases hx:(holds nm m t c).1=all
   ·rw[x5 (by rw[hx,hc.1];exact bOJ tn),aDJ hx];exact(ih2 hok.2).2 all tn _ away _ T _ hw.2 hc.2 ha' hh' (fun i hi hi2 hn1 hn2=>hA i aH hi2 hn1 hn2) (fun k hk hk2=>hJ k hk aH) (fun k hk hk2=>hH k hk aH) h1 h2
   rw[aAP hx,x7 (bOI hc.1 hx),x5 (by rw[←hc.1];exact hx)]
  simp only[if_neg hc]at hA hJ hH h1 ⊢;have l0:=(mH t).1 tn ops;have p0:=(qU t).1 tn ops;have p1:=(qU l).2 all tn (unl t tn ops).1 (away++(unl t tn ops).2) here;have ha':∀k∈away++(unl t tn ops).2,k < (unl t tn ops).1.length:=fun k hk=>by
   rcases xAT.1 hk with h|h
   ·have:=ha k h;omega
   exact l0.2.2.2 k h
  have hh':∀k∈here,k < (unl t tn ops).1.length:=fun k hk=>by have:=hh k hk;omega
  have l1 := (mH l).2 all tn (unl t tn ops).1 (away ++ (unl t tn ops).2) here ha' hh';have e1 := (ih1 hok.1).1 tn ops T c hw.1 (fun i hi hi2 hn1 => by
    rw [hA i hi aH (fun h => by
      rcases p1.2.1 i h with h|h
      ·rcases xAT.1 h with h|h
       ·have:=ha i h;omega
       exact hn1 h
      ·omega) (fun h => by
      rcases p1.2.2.1 i h with h|h
      ·have:=hh i h;omega
      omega)]
    exact p1.1 i hi2) (fun k hk hk2 => by
    rw[hJ k (p1.2.2.2.1 k (List.mem_append_right _ hk)) hk2,p1.1 k (l0.2.2.2 k hk)]) aH h2
  rw[e1]
  by_cases hn2:gS l=true
  ·have el:l=.tnil:=by cases l <;> simp[wf,gS]at hw hn2;rfl
   subst el;simp only[unlL]
   by_cases hx:(holds nm m t c).1=all
   ·rw[aDJ hx];simp only[rQ];rw[hx];rfl
   rw[aAP hx]
  have hat:all≠tn:=fun h=>hc ⟨h,by simpa using hn2⟩
  by_cases hx:(holds nm m t c).1=all
  ·rw[x5 (by rw[hx];exact hat),aDJ hx];exact(ih2 hok.2).2 all tn _ _ here T _ hw.2 (by simpa using hn2) ha' hh' (fun i hi hi2 hn1 hn2=>hA i aH hi2 hn1 hn2) (fun k hk hk2=>hJ k hk aH) (fun k hk hk2=>hH k hk aH) h1 h2
  rw[aAP hx,x7 (bK0 hat hx),x7 (bK0 hat hx)]
 |_=>intro hok;exact⟨fun tn ops T c hw=>by simp[wf]at hw,fun all tn ops away here T c hw=>by simp[wf,gS]at hw ⊢⟩
def yT:∀(t:Tree),(∀ops,∀i,i < ops.length→(body t ops)[i]?=ops[i]?)∧(∀ops,∀i,i < ops.length→(cmdI t ops)[i]?=ops[i]?)∧(∀ops out,∀i,i < ops.length→i∉out→(dZ t ops out)[i]?=ops[i]?):=by
 intro t;have app:∀(ops xs:List Ins) (i:Nat),i < ops.length→(ops++xs)[i]?=ops[i]?:=fun ops xs i h=>xA5 h
 have ld:∀(ops:List Ins) (out:List Nat) i,i∉out→(land ops out)[i]?=ops[i]?:=fun ops out i h=>by rw[j8,x5 h]
 induction t with
 |plain op=>exact⟨fun ops i h=>by simp[body],fun ops i h=>app _ _ i h,fun ops out i h hn=>ld _ _ _ hn⟩
 |act k a p=>exact⟨fun ops i h=>by simp[body],fun ops i h=>app _ _ i h,fun ops out i h hn=>ld _ _ _ hn⟩
 |set_ n v t=>exact⟨fun ops i h=>by simp[body],fun ops i h=>app _ _ i h,fun ops out i h hn=>ld _ _ _ hn⟩
 |iff bs ih=>exact⟨fun ops i h=>by simp[body],fun ops i h=>by simp only[cmdI];exact ih.2.2 ops [] i h (by simp),fun ops out i h hn=>ld _ _ _ hn⟩
 |ccons c l ih1 ih2=>
  refine⟨fun ops i h=>?_,fun ops i h=>by simp[cmdI],fun ops out i h hn=>ld _ _ _ hn⟩
  have:=((m8 c).2.1 ops).1;simp only[body];rw[ih2.1 _ i aH,ih1.2.1 ops i h]
 |belse b l ih1 ih2=>
  refine⟨fun ops i h=>by simp[body],fun ops i h=>by simp[cmdI],fun ops out i h hn=>?_⟩
  simp only[dZ];rw[ld _ _ _ hn,ih1.1 ops i h]
 |bcons t b l ih1 ih2 ih3=>
  refine⟨fun ops i h=>by simp[body],fun ops i h=>by simp[cmdI],fun ops out i h hn=>?_⟩
  have h0:=(mH t).1 false ops;have p0:=(qU t).1 false ops;have h1:=((m8 b).1 (unl t false ops).1).1;have hn2:i∉(unl t false ops).2:=fun hk=>by have:=p0.2 i hk;omega
  simp only[dZ];split
  ·rw[ih3.2.2 _ _ i (by rw[dY];omega) hn,ld _ _ _ hn2,ih2.1 _ i aH,p0.1 i h]
  rw[ih3.2.2 _ _ i (by rw[dY];simp;omega) (by simp;exact⟨hn,by omega⟩),ld _ _ _ hn2,app _ _ i aH,ih2.1 _ i aH,p0.1 i h]
 |_=>exact⟨fun ops i h=>by simp[body],fun ops i h=>by simp[cmdI],fun ops out i h hn=>ld _ _ _ hn⟩
def bHZ:∀(t:Tree),wf t 4=true→∀ops out,(∀k∈out,k < ops.length)→∀k∈out,(dZ t ops out)[k]?=(ops[k]?).map fun o=>{o with n:=((dZ t ops out).length:Int) - 1 - k}:=by
 intro t;induction t with
 |bnil=>intro hw ops out ho k hk;simp only[dZ];rw[j8,x7 hk,dY]
 |belse b l ih1 ih2=>
  intro hw ops out ho k hk;simp only[dZ];rw[j8,x7 hk,dY,(yT b).1 ops k (ho k hk)]
 |bcons t b l ih1 ih2 ih3=>
  intro hw ops out ho k hk;simp only[wf,beq_self_eq_true,Bool.true_and,Bool.and_eq_true]at hw;have h0:=(mH t).1 false ops;have p0:=(qU t).1 false ops;have h1:=((m8 b).1 (unl t false ops).1).1;have hn2:k∉(unl t false ops).2:=fun hq=>by have:=p0.2 k hq;have:=ho k hk;omega
  have hk2:=ho k hk;simp only[dZ];split
  ·rw[ih3 hw.2.2 _ out (fun q hq=>by rw[dY];have:=ho q hq;omega) k hk,j8,x5 hn2,(yT b).1 _ k aH,p0.1 k hk2]
  rw [ih3 hw.2.2 _ _ (fun q hq => by
   rw[dY,xAF,xA6];rcases xAT.1 hq with h|h
   ·have:=ho q h;omega
   simp at h;omega) k (List.mem_append_left _ hk),j8,x5 hn2,xA5 aH,(yT b).1 _ k aH,p0.1 k hk2]
 |_=>intro hw;simp[wf]at hw
def bJG(k:Int)(a:aP)(p:Int)(c:Co)(i n:Nat)(h:1≤k∧k≤4):Mach.step nm m n ⟨11,0,k,false,if k=1 then []else [a],[],p⟩ (c.ms i)=match act k (actArg nm k a c) p c with
  | .error e=>.error e
  | .ok d=>.ok (d.ms i):=by
 unfold Mach.step;simp only[];rw[x5 (by decide),x5 (by decide),x5 (by decide),x5 (by decide),x5 (by decide),x5 (by decide),x5 (by decide),x5 (by decide),x7 trivial];unfold actI act addX;simp only[];have e1:actA nm ⟨11,0,k,false,if k=1 then []else [a],[],p⟩ (c.ms i)=actArg nm k a c:=by
  unfold actA actArg;simp only[Co.ms]
  by_cases hk:k=1
  ·rw[x7 hk,x7 hk]
  rw[x5 hk,x5 hk,x5 hk];rfl
 rw[e1,x7 (by by_cases hk:k=1;exact .inl hk;exact .inr ⟨by omega,by omega,by rw[x5 hk];simp⟩)]
 generalize actArg nm k a c=x
 have e2:actV ⟨11,0,k,false,if k=1 then []else [a],[],p⟩ x=actX k x:=rfl;rw[e2]
 generalize actX k x=X
 have ea:(c.ms i).acts=c.acts:=rfl;rw[ea]
 by_cases h1:k=2∧sT x=false
 ·rw[x7 h1,x7 h1] <;> rfl
 rw[x5 h1,x5 h1]
 by_cases h2:k=3∧fM x=false
 ·rw[x7 h2,x7 h2] <;> rfl
 rw[x5 h2,x5 h2]
 by_cases h3:X∈c.acts
 ·rw[x7 h3,x7 h3] <;> rfl
 rw[x5 h3,x5 h3]
 by_cases h4:∃b∈c.acts,X.1=4∨b.1=4
 ·rw[x7 h4,x7 h4] <;> rfl
 rw[x5 h4,x5 h4]
 by_cases h5:c.acts.length=6
 ·rw[x7 h5,x7 h5] <;> rfl
 rw[x5 h5,x5 h5] <;> rfl
def bJI(x v:aP)(t:Int)(c:Co)(i n:Nat)(h:0≤t∧t≤3):Mach.step nm m n ⟨12,0,t,false,[x],[v],0⟩ (c.ms i)=.ok (({c with vars:=vput c.vars x (setV t (dH nm c.vars c.parts v))}:Co).ms i):=by
 unfold Mach.step;simp only[];rw[x5 (by decide),x5 (by decide),x5 (by decide),x5 (by decide),x5 (by decide),x5 (by decide),x5 (by decide),x5 (by decide),x5 (by decide),x7 trivial];unfold setI setV;simp only[];rw[x7 h];rfl
def goOn(nm:Bool)(m:Msg)(C:List Ins)(T:Nat):Res (Bool×Co)→List gA×Option (Int×Int)
 | .error e=>([(1,[])],some e)
 | .ok r=>if r.1=true then (done r.2,none)else fin nm m C (r.2.ms T)
def bAA:∀(t:Tree),okT t=true→(∀ops c,wf t 3=true→Agr C (body t ops) ops.length []→(body t ops).length≤C.length→fin nm m C (c.ms ops.length)=goOn nm m C (body t ops).length (Say.run nm m t c))∧
  (∀ops c,wf t 2=true→Agr C (cmdI t ops) ops.length []→(cmdI t ops).length≤C.length→fin nm m C (c.ms ops.length)=goOn nm m C (cmdI t ops).length (Say.cmd nm m t c))∧
  (∀ops out c,wf t 4=true→(∀k∈out,k < ops.length)→Agr C (dZ t ops out) ops.length []→(dZ t ops out).length≤C.length→fin nm m C (c.ms ops.length)=goOn nm m C (dZ t ops out).length (Say.brs nm m t c)):=by
 intro t;induction t with
 |plain op=>
  intro hok;refine⟨fun ops c hw=>by simp[wf]at hw,fun ops c hw hA hl=>?_,fun ops out c hw=>by simp[wf]at hw⟩
  simp only[okT,decide_eq_true_eq]at hok;simp only[cmdI]at hA hl ⊢;have e:=last hA;simp only[Say.cmd];rcases hok with rfl|rfl
  ·rw[x5 (by decide)];rw[uU (t:={c.ms ops.length with keep:=false}) e (by simp[jmp]) (by unfold Mach.step;simp[jmp])];simp only[goOn,List.length_append,List.length_singleton];rfl
  rw[x7 rfl,bDD e rfl];simp only[goOn,if_true];rfl
 |act k a p=>
  intro hok;refine⟨fun ops c hw=>by simp[wf]at hw,fun ops c hw hA hl=>?_,fun ops out c hw=>by simp[wf]at hw⟩
  simp only[okT,decide_eq_true_eq]at hok;simp only[cmdI]at hA hl ⊢;have e:=last hA;have hs:=bJG (nm:=nm) (m:=m) k a p c ops.length C.length hok;simp only[Say.cmd];cases hx:act k (actArg nm k a c) p c with
  |error e1=>
   rw[hx]at hs;rw[bIE e (by simp) hs];rfl
  |ok d=>
   rw[hx]at hs;rw[uU e (by simp) hs];simp only[goOn,List.length_append,List.length_singleton];rfl
 |set_ n v tg=>
  intro hok;refine⟨fun ops c hw=>by simp[wf]at hw,fun ops c hw hA hl=>?_,fun ops out c hw=>by simp[wf]at hw⟩
  simp only[okT,decide_eq_true_eq]at hok;simp only[cmdI]at hA hl ⊢;have e:=last hA;rw[uU e (by simp) (bJI n v tg c ops.length C.length hok)];simp only[Say.cmd,goOn,List.length_append,List.length_singleton];rfl
 |iff bs ih=>
  intro hok;refine⟨fun ops c hw=>by simp[wf]at hw,fun ops c hw hA hl=>?_,fun ops out c hw=>by simp[wf]at hw⟩
  simp only[wf,beq_self_eq_true,Bool.true_and]at hw;simp only[cmdI]at hA hl ⊢;rw[(ih hok).2.2 ops [] c hw (by simp) hA hl]
  rfl
 |cnil=>
  intro hok;refine⟨fun ops c hw hA hl=>?_,fun ops c hw=>by simp[wf]at hw,fun ops out c hw=>by simp[wf]at hw⟩
  simp[body,Say.run,goOn]
 |ccons x l ih1 ih2=>
  intro hok;refine⟨fun ops c hw hA hl=>?_,fun ops c hw=>by simp[wf]at hw,fun ops out c hw=>by simp[wf]at hw⟩
  simp only[okT,Bool.and_eq_true]at hok;simp only[wf,beq_self_eq_true,Bool.true_and,Bool.and_eq_true]at hw;simp only[body]at hA hl ⊢;have l1:=(m8 x).2.1 ops;have l2:=(m8 l).1 (cmdI x ops);have p2:=(yT l).1 (cmdI x ops);rw[(ih1 hok.1).2.1 ops c hw.1 (fun i hi hi2 _=>by rw[hA i hi aH (by simp),p2 i hi2]) aH];simp only[Say.run];cases hx:Say.cmd nm m x c with
  |error e=>rfl
  |ok r=>
   obtain⟨st,d⟩:=r;cases st with
   |true=>rfl
   |false=>
    simp only[goOn,Bool.false_eq_true,if_false];rw[(ih2 hok.2).1 _ d hw.2 (fun i hi hi2 _=>hA i aH hi2 (by simp)) hl]
    rfl
 |bnil=>
  intro hok;refine⟨fun ops c hw=>by simp[wf]at hw,fun ops c hw=>by simp[wf]at hw,fun ops out c hw ho hA hl=>?_⟩
  simp only[dZ,dY,Say.brs,goOn,Bool.false_eq_true,if_false]
 |belse b l ih1 ih2=>
  intro hok;refine⟨fun ops c hw=>by simp[wf]at hw,fun ops c hw=>by simp[wf]at hw,fun ops out c hw ho hA hl=>?_⟩
  simp only[okT,Bool.and_eq_true]at hok;simp only[wf,beq_self_eq_true,Bool.true_and,Bool.and_eq_true]at hw;simp only[dZ]at hA hl ⊢;rw[dY]at hl ⊢;simp only[Say.brs];exact(ih1 hok.1).1 ops c hw.1 (fun i hi hi2 _=>by rw[hA i hi (by rw[dY];exact hi2) (by simp),j8,x5 (fun h=>by have:=ho i h;omega)]) hl
 |bcons t b l ih1 ih2 ih3=>
  intro hok;refine⟨fun ops c hw=>by simp[wf]at hw,fun ops c hw=>by simp[wf]at hw,fun ops out c hw ho hA hl=>?_⟩
  simp only[okT,Bool.and_eq_true]at hok;simp only[wf,beq_self_eq_true,Bool.true_and,Bool.and_eq_true]at hw;have h0:=(mH t).1 false ops;have p0:=(qU t).1 false ops;have h1:=(m8 b).1 (unl t false ops).1;have p1:=(yT b).1 (unl t false ops).1;have hou:∀i,ops.length≤i→i∉out:=fun i hi h=>by have:=ho i h;omega
  have hup:∀i,(unl t false ops).1.length≤i→i∉(unl t false ops).2:=fun i hi h=>by have:=h0.2.2.2 i h;omega
  simp only[dZ]at hA hl ⊢;simp only[Say.brs]
  by_cases hn:gS l=true
  ·have el:l=.bnil:=by cases l <;> simp[wf,gS]at hw hn;rfl
   subst el;simp only[if_pos hn]at hA hl ⊢;simp only[dZ,dY]at hA hl ⊢;have hget:∀i,ops.length≤i→i < (body b (unl t false ops).1).length→C[i]?=(land (body b (unl t false ops).1) (unl t false ops).2)[i]?:=fun i hi hi2=>by
    rw[hA i hi (by rw[dY,dY];exact hi2) (by simp),j8 _ out,x5 (hou i hi)]
   rw [(bHE t hok.1).1 false ops (body b (unl t false ops).1).length c hw.1 (fun i hi hi2 hi3 => by rw [hget i hi aH, j8, x5 hi3, p1 i hi2])
    (fun k hk hk2=>by have:=h0.2.2.2 k hk;rw[hget k hk2 aH,j8,x7 hk,p1 k this]) h1.1 hl]
   cases hh:(holds nm m t c).1 with
   |true=>
    simp only[Bool.true_eq_false,if_false,if_true];exact(ih2 hok.2.1).1 _ _ hw.2.1 (fun i hi hi2 _=>by rw[hget i aH hi2,j8,x5 (hup i hi)]) hl
   |false=>simp only[if_true,Bool.false_eq_true,if_false,Say.brs,goOn]
  simp only[if_neg hn]at hA hl ⊢;have l3:=(m8 l).2.2 (land (body b (unl t false ops).1++[jmp 3]) (unl t false ops).2) (out++[(body b (unl t false ops).1).length]);rw[dY,xAF,xA6]at l3;have ho2:∀k∈out++[(body b (unl t false ops).1).length],k < (land (body b (unl t false ops).1++[jmp 3]) (unl t false ops).2).length:=fun q hq=>by
   rw[dY,xAF,xA6];rcases xAT.1 hq with h|h
   ·have:=ho q h;omega
   simp at h;omega
  have hget:∀i,ops.length≤i→i < (body b (unl t false ops).1).length→C[i]?=(land (body b (unl t false ops).1++[jmp 3]) (unl t false ops).2)[i]?:=fun i hi hi2=>by
   rw[hA i hi aH (by simp),(yT l).2.2 _ _ i (by rw[dY];simp;omega) (by simp;exact⟨hou i hi,by omega⟩)]
  have hj := bHZ l hw.2.2 _ _ ho2 (body b (unl t false ops).1).length (by simp);rw [j8, x5 (hup _ h1.1), xBK (xAA _)] at hj;simp only [Nat.sub_self, List.getElem?_cons_zero, Option.map_some] at hj;rw [(bHE t hok.1).1 false ops ((body b (unl t false ops).1).length + 1) c hw.1 (fun i hi hi2 hi3 => by rw [hget i hi aH, j8, x5 hi3, xA5 aH, p1 i hi2])
   (fun k hk hk2 => by
    have:=h0.2.2.2 k hk;rw[hget k hk2 aH,j8,x7 hk,xA5 aH,p1 k this,xAF,xA6]) aH aH]
  cases hh:(holds nm m t c).1 with
  |true=>
   simp only[Bool.true_eq_false,if_false,if_true];rw[(ih2 hok.2.1).1 _ _ hw.2.1 (fun i hi hi2 _=>by rw[hget i aH hi2,j8,x5 (hup i hi),xA5 hi2]) aH];cases Say.run nm m b (holds nm m t c).2 with
   |error e=>rfl
   |ok r=>
    obtain⟨sp,d⟩:=r;cases sp with
    |true=>rfl
    |false=>
     simp only[goOn,Bool.false_eq_true,if_false];exact aO0 (by rw[hA _ aH aH (by simp),hj]) aH hl
  |false=>
   simp only[if_true,Bool.false_eq_true,if_false];have:=(ih3 hok.2.2).2.2 _ _ (holds nm m t c).2 hw.2.2 ho2 (fun i hi hi2 _=>by rw[dY]at hi;simp at hi;exact hA i aH hi2 (by simp)) hl;rw[dY,xAF,xA6]at this;exact this
 |_=>intro hok;exact⟨fun ops c hw=>by simp[wf]at hw,fun ops c hw=>by simp[wf]at hw,fun ops out c hw=>by simp[wf]at hw⟩
def bHC:∀(t:Tree),(∀tn ops,(unl t tn ops).1.length≤ops.length+ilen t)∧(∀all tn ops away here,(unlL all tn t ops away here).1.length≤ops.length+ilen t):=by
 intro t;induction t with
 |const b=>refine⟨fun tn ops=>?_,fun all tn ops away here=>by simp[unlL]⟩;simp only[unl];split <;> simp[ilen]
 |not_ t ih=>exact⟨fun tn ops=>by simp only[unl,ilen];exact ih.1 _ _,fun all tn ops away here=>by simp[unlL]⟩
 |many all l ih=>exact⟨fun tn ops=>by simp only[unl,ilen,dY];exact ih.2 _ _ _ _ _,fun all tn ops away here=>by simp[unlL]⟩
 |mat tag oct op a b=>exact⟨fun tn ops=>by simp[unl,ilen],fun all tn ops away here=>by simp[unlL]⟩
 |exi a=>exact⟨fun tn ops=>by simp[unl,ilen],fun all tn ops away here=>by simp[unlL]⟩
 |siz tag n=>exact⟨fun tn ops=>by simp[unl,ilen],fun all tn ops away here=>by simp[unlL]⟩
 |tcons t l ih1 ih2=>
  refine⟨fun tn ops=>by simp[unl],fun all tn ops away here=>?_⟩
  simp only[unlL,ilen];split
  ·have h1:=ih1.1 (!tn) ops;have h2:=ih2.2 all tn (unl t (!tn) ops).1 away (here++(unl t (!tn) ops).2);omega
  have h1:=ih1.1 tn ops;have h2:=ih2.2 all tn (unl t tn ops).1 (away++(unl t tn ops).2) here;omega
 |_=>exact⟨fun tn ops=>by simp[unl],fun all tn ops away here=>by simp[unlL]⟩
def aW9:∀(t:Tree),(∀ops,(body t ops).length≤ops.length+ilen t)∧(∀ops,(cmdI t ops).length≤ops.length+ilen t)∧(∀ops out,(dZ t ops out).length≤ops.length+ilen t):=by
 intro t;induction t with
 |plain op=>exact⟨fun ops=>by simp[body],fun ops=>by simp[cmdI,ilen],fun ops out=>by simp[dZ,dY]⟩
 |act k a p=>exact⟨fun ops=>by simp[body],fun ops=>by simp[cmdI,ilen],fun ops out=>by simp[dZ,dY]⟩
 |set_ n v t=>exact⟨fun ops=>by simp[body],fun ops=>by simp[cmdI,ilen],fun ops out=>by simp[dZ,dY]⟩
 |iff bs ih=>exact⟨fun ops=>by simp[body],fun ops=>ih.2.2 ops [],fun ops out=>by simp[dZ,dY]⟩
 |ccons c l ih1 ih2=>
  refine⟨fun ops=>?_,fun ops=>by simp[cmdI],fun ops out=>by simp[dZ,dY]⟩
  have h1:=ih1.2.1 ops;have h2:=ih2.1 (cmdI c ops);simp only[body,ilen];omega
 |belse b l ih1 ih2=>
  refine⟨fun ops=>by simp[body],fun ops=>by simp[cmdI],fun ops out=>?_⟩
  have h1:=ih1.1 ops;simp only[dZ,ilen,dY];omega
 |bcons t b l ih1 ih2 ih3=>
  refine⟨fun ops=>by simp[body],fun ops=>by simp[cmdI],fun ops out=>?_⟩
  have h0:=(bHC t).1 false ops;have h1:=ih2.1 (unl t false ops).1;simp only[dZ,ilen];split
  ·have h2:=ih3.2.2 (land (body b (unl t false ops).1) (unl t false ops).2) out;rw[dY]at h2;omega
  have h2:=ih3.2.2 (land (body b (unl t false ops).1++[jmp 3]) (unl t false ops).2) (out++[(body b (unl t false ops).1).length]);rw[dY]at h2;simp only[List.length_append,List.length_singleton]at h2;omega
 |_=>exact⟨fun ops=>by simp[body],fun ops=>by simp[cmdI],fun ops out=>by simp[dZ,dY]⟩
def bH5{t:Tree}(h3:wf t 3=true)(hok:okT t=true)(hl:(script t).length≤400):((Mach.run nm (script t) m).acts,(Mach.run nm (script t) m).err)=out (Say.run nm m t start):=by
 unfold Mach.run;rw[x5 aH];have:=(bAA (nm:=nm) (m:=m) (C:=script t) t hok).1 [] start h3 (fun i _ _ _=>rfl) (xAA _);have e:(Co.ms start ([]:List Ins).length)=Mach.start:=rfl;rw[e]at this;refine Eq.trans ?_ (this.trans ?_)
 ·rfl
 cases Say.run nm m t start with
 |error e=>rfl
 |ok r=>
  obtain⟨sp,d⟩:=r;cases sp with
  |true=>rfl
  |false=>
   simp only[goOn,Bool.false_eq_true,if_false,out];exact bID Y
def parse_code{s:aP}{r:List aP×Tree}(h:gN s=.ok r)(hs:s.length≤600):(script r.2).length≤300∧((Mach.run nm (script r.2) m).acts,(Mach.run nm (script r.2) m).err)=out (Say.run nm m r.2 start):=by
 have hf:=nP h;have hl:=(aW9 r.2).1 [];have hl:(script r.2).length≤0+ilen r.2:=hl;exact⟨by omega,bH5 hf.1 hf.2.2.2.1 aH⟩
end
end Go.Say
end

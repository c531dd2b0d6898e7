/-
  What the proof stands on, part 6: the logic of walks, the walks through the functions, the plain laws. Conditions: as each theorem says. (Merged and shortened by a program.)
-/
import Derived.Laws.MakeOwn
import Derived.Lib.MakeNoZero
import Derived.Laws.CopyRow
import Derived.Test.YthopmddkpdehiabGreatDoorK5
set_option linter.unusedVariables false
set_option linter.unusedSimpArgs false
set_option linter.defProp false
set_option maxRecDepth 4000
set_option maxHeartbeats 1000000
section
namespace Go.Syn
open Go.Cmp
def sOk(n:Nat):Tree→Prop
 | .const _=>True
 | .not_ t=>sOk n t
 | .many _ l=>sOk n l
 | .mat _ _ _ a b=>(∀x∈a,x.length≤n)∧(∀x∈b,x.length≤n)∧a.length≤2*n+1∧b.length≤2*n+1
 | .exi a=>(∀x∈a,x.length≤n)∧a.length≤2*n+1
 | .siz _ n=>0≤n∧n≤2147483647
 | .tnil=>True
 | .tcons t l=>sOk n t∧sOk n l
 | .plain _=>True
 | .act _ a _=>a.length≤n
 | .set_ a v _=>a.length≤n∧v.length≤n
 | .iff bs=>sOk n bs
 | .cnil=>True
 | .ccons c l=>sOk n c∧sOk n l
 | .bnil=>True
 | .bcons t b l=>sOk n t∧sOk n b∧sOk n l
 | .belse b l=>sOk n b∧sOk n l
def okT:Tree→Bool
 | .const _=>true
 | .not_ t=>okT t
 | .many _ l=>!gS l&&okT l
 | .mat tag _ op _ _=>decide (1≤tag∧tag≤3∧6≤op∧op≤8)
 | .exi _=>true
 | .siz tag _=>decide (tag=1∨tag=2)
 | .tnil=>true
 | .tcons t l=>okT t&&okT l
 | .plain op=>decide (op=13∨op=14)
 | .act k _ _=>decide (1≤k∧k≤4)
 | .set_ _ _ t=>decide (0≤t∧t≤3)
 | .iff bs=>okT bs
 | .cnil=>true
 | .ccons c l=>okT c&&okT l
 | .bnil=>true
 | .bcons t b l=>okT t&&(okT b&&okT l)
 | .belse b l=>okT b&&(gS l&&okT l)
def ilen:Tree→Nat
 | .const _=>1
 | .not_ t=>ilen t
 | .many _ l=>ilen l
 | .mat _ _ _ _ _=>2
 | .exi _=>2
 | .siz _ _=>2
 | .tnil=>0
 | .tcons t l=>ilen t+ilen l
 | .plain _=>1
 | .act _ _ _=>1
 | .set_ _ _ _=>1
 | .iff bs=>ilen bs
 | .cnil=>0
 | .ccons c l=>ilen c+ilen l
 | .bnil=>0
 | .bcons t b l=>ilen t+ilen b+ilen l+1
 | .belse b l=>ilen b+ilen l
def Fit(s:aP)(k:Nat)(st:St)(r:Tree×St):Prop:=wf r.1 k=true∧sOk s.length r.1∧cnt r.1+mu s r.2≤mu s st∧okT r.1=true∧2*ilen r.1+mu s r.2≤mu s st
def FitA(s:aP)(k:Nat)(T:St→Res (Tree×St)):Prop:=∀st r,Ok s st→T st=.ok r→Fit s k st r
def FitN(s:aP)(k n:Nat)(T:St→Res (Tree×St)):Prop:=∀st r,Ok s st→st.2.kind=1∧n≤st.2.s.length→T st=.ok r→Fit s k st r
variable{s:aP}
def lQ{st r:St}(hok:Ok s st)(hk:st.2.kind=1)(h:next s st.1=.ok r):Ok s r∧mu s r < mu s st∧mu s r+st.2.s.length≤mu s st:=by
 have:=jO hok aH h;exact⟨this.1,this.2,aMS hok.1 hok.2 hk h⟩
def bD8{a:Nat}{r:St}(h:next s a=.ok r):0≤r.2.n∧r.2.n≤2147483647:=by
 unfold next at h;split at h
 ·cases h
 split at h
 ·cases h;exact⟨by simp,by simp⟩
 unfold kX at h;split at h
 ·cases h;exact⟨by simp,by simp⟩
 split at h
 ·split at h
  ·cases h
  cases h;exact⟨by simp,by simp⟩
 split at h
 ·split at h
  ·cases h;exact⟨by simp,by simp⟩
  cases h
 split at h
 ·cases h;exact⟨by simp,by simp⟩
 split at h
 ·split at h
  ·cases h
  rename_i q hq;cases h
  unfold number at hq;split at hq
  ·cases hq
  split at hq
  ·cases hq
  rename_i hn;cases hq
  refine⟨?_,by simp only[];omega⟩
  have:=fun a=>(yU (eG s a)).1
  simp only[numN];split
  ·exact Int.mul_nonneg (Int.mul_nonneg (this _) (by decide)) (by decide)
  split
  ·exact Int.mul_nonneg (this _) (by decide)
  exact this _
 cases h
def aQ5{st:St}{k:Nat}{texts:List aP}{r:Word×St}(h:take s st k texts=.ok r):r.1=st.2∧next s st.1=.ok r.2:=by
 unfold take at h;split at h
 ·cases h
 split at h
 ·cases h
 rename_i q hq;cases h
 exact⟨Y,hq⟩
def zG(xs:List aP)(x:aP): -1≤dW xs x∧dW xs x < xs.length:=by
 unfold dW;cases h:xs.findIdx? (fun y=>decide (x=y))with
 |none=>exact⟨by simp,by simp only[];omega⟩
 |some i=>
  rw[xA8]at h;obtain⟨hi,_⟩:=h;exact⟨by simp only[];omega,by simp only[];omega⟩
def bAW:∀ {f:Nat} {h:How} {st:St} {r:How×St},0≤h.tag∧h.tag≤3→gT s f h st=.ok r→0≤r.1.tag∧r.1.tag≤3:=by
 intro f;induction f with
 |zero=>intro h st r _ e;cases e
 |succ f ih=>
  intro h st r ht e;simp only[gT]at e;split at e
  ·split at e
   ·cases e
   rename_i hne;split at e
   ·cases e
   split at e
   ·rename_i h3;split at e
    ·cases e
    have:=zG eT st.2.s;exact ih (by simp only[];omega) e
   split at e
   ·cases e
   split at e
   ·cases e
   exact ih (h:=⟨true,h.tag,_⟩) ht e
  cases e;exact ht
def aQ6{st:St}{k:Nat}{texts:List aP}{r:Word×St}(hok:Ok s st)(h:take s st k texts=.ok r):r.1.s.length≤s.length:=by
 unfold take at h;split at h
 ·cases h
 split at h
 ·cases h
 cases h;exact hok.2
def aCV{st:St}{ff:aP→Int}{r:aP×St}(hok:Ok s st)(h:text s st ff=.ok r):r.1.length≤s.length:=by
 unfold text at h;split at h
 ·cases h
 split at h
 ·cases h
 rename_i q hq;cases h;exact aQ6 hok hq
def aYJ{ff:aP→Int}:∀ {f:Nat} {st:St} {acc:List aP} {r:List aP×St},Ok s st→(∀x∈acc,x.length≤s.length)→pR s ff f st acc=.ok r→∀x∈r.1,x.length≤s.length:=by
 intro f;induction f with
 |zero=>intro st acc r _ _ h;cases h
 |succ f ih=>
  intro st acc r hok ha h;simp only[pR]at h;split at h
  ·cases h
  rename_i q hq;have h1:=yV hok hq;split at h
  ·split at h
   ·cases h
   rename_i x hx;have h2:=pO h1.1 hx;refine ih h2.1 ?_ h
   intro y hy;rcases xAT.1 hy with hy|hy
   ·exact ha y hy
   simp at hy;subst hy;exact aCV h1.1 hx
  split at h
  ·cases h
  cases h;exact ha
def aB8{ff:aP→Int}{st:St}{r:List aP×St}(hok:Ok s st)(h:list s st ff=.ok r):∀x∈r.1,x.length≤s.length:=by
 unfold list at h;split at h
 ·cases h
 rename_i q hq;have h1:=yV hok hq;split at h
 ·cases h
 rename_i x hx;have h2:=pO h1.1 hx;have h3:=aCV h1.1 hx;split at h
 ·exact aYJ h2.1 (by intro y hy;simp at hy;subst hy;exact h3) h
 cases h;intro y hy;simp at hy;subst hy;exact h3
def aAY{needs:List aP}{op:Int}{ext:aP}(hop:6≤op∧op≤8):FitN s 0 4 (l9 s needs op ext):=by
 intro st r hok hk e;unfold l9 at e;split at e
 ·cases e
 split at e
 ·cases e
 rename_i q hq;have h1:=lQ hok hk.1 hq;have hk2:=hk.2;unfold mI at e;split at e
 ·cases e
 rename_i h hh;have h2:=aKY h1.1 hh;split at e
 ·cases e
 rename_i a ha;have h3:=oK h2.1 ha;have h3l:=xK h2.1 ha;split at e
 ·cases e
 rename_i b hb;have h4:=oK h3.1 hb;have h4l:=xK h3.1 hb;cases e
 have hm:=xP s st;have ht:=bAW ⟨Int.le_refl _,by decide⟩ hh;exact⟨Y,⟨aB8 h2.1 ha,aB8 h3.1 hb,by omega,by omega⟩,by simp only[cnt];omega,by simp only[okT,decide_eq_true_eq];split <;> omega,by simp only[ilen];omega⟩
def yB{c:Tree}(hc:wf c 2=true∧sOk s.length c∧cnt c=1∧okT c=true∧ilen c=1):FitN s 2 2 (lJ s c):=by
 intro st r hok hk e;unfold lJ at e;split at e
 ·cases e
 rename_i q hq;have h1:=lQ hok hk.1 hq;have hk2:=hk.2;split at e
 ·cases e
 rename_i x hx;have h2:=jQ h1.1 hx;cases e
 exact⟨hc.1,hc.2.1,by simp only[hc.2.2.1];omega,hc.2.2.2.1,by simp only[hc.2.2.2.2];omega⟩
def aF7{needs:List aP}{k:Int}{ext:aP}{p:Int}(hkd:1≤k∧k≤4):FitN s 2 2 (actC s needs k ext p):=by
 intro st r hok hk e;unfold actC at e;split at e
 ·cases e
 split at e
 ·cases e
 rename_i q hq;have h1:=lQ hok hk.1 hq;have hk2:=hk.2;split at e
 ·cases e
 rename_i x hx;have h2:=u6 h1.1 (by decide) hx;split at e
 ·cases e
 rename_i y hy;have h3:=jQ h2.1 hy;cases e
 exact⟨Y,aQ6 h1.1 hx,by simp only[cnt];omega,by simp only[okT,decide_eq_true_eq];exact hkd,by simp only[ilen];omega⟩
def aGI{b:Bool}:FitN s 0 2 (m9 s b):=by
 intro st r hok hk e;unfold m9 at e;split at e
 ·cases e
 rename_i q hq;have h1:=lQ hok hk.1 hq;have hk2:=hk.2;cases e
 exact⟨Y,trivial,by simp only[cnt];omega,rfl,by simp only[ilen];omega⟩
def aOU:FitN s 0 4 (oI s):=by
 intro st r hok hk e;unfold oI at e;split at e
 ·cases e
 rename_i q hq;have h1:=lQ hok hk.1 hq;have hk2:=hk.2;split at e
 ·cases e
 rename_i a ha;have h3:=oK h1.1 ha;have h3l:=xK h1.1 ha;cases e
 have hm:=xP s st;exact⟨Y,⟨aB8 h1.1 ha,by omega⟩,by simp only[cnt];omega,rfl,by simp only[ilen];omega⟩
def bAL:FitN s 0 4 (tE s):=by
 intro st r hok hk e;unfold tE at e;split at e
 ·cases e
 rename_i q hq;have h1:=lQ hok hk.1 hq;have hk2:=hk.2;split at e
 ·cases e
 rename_i x hx;have h2:=u6 h1.1 (by decide) hx;split at e
 ·cases e
 rename_i y hy;have h3:=u6 h2.1 (by decide) hy;cases e
 exact⟨Y,by rw[(aQ5 hy).1];exact bD8 (aQ5 hx).2,by simp only[cnt];omega,by simp only[okT,decide_eq_true_eq];split <;> omega,by simp only[ilen];omega⟩
def bED{T:St→Res (Tree×St)}(hT:FitA s 0 T):FitN s 0 0 (notC s T):=by
 intro st r hok hk e;unfold notC at e;split at e
 ·cases e
 rename_i q hq;have h1:=lQ hok hk.1 hq;have hk2:=hk.2;split at e
 ·cases e
 rename_i t ht;have h2:=hT _ _ h1.1 ht;cases e
 exact⟨by simp[wf,h2.1],h2.2.1,by have:=h2.2.2.1;simp only[cnt];omega,h2.2.2.2.1,by have:=h2.2.2.2.2;simp only[ilen];omega⟩
def bGE{n:Nat}{t:Tree}(h1:wf t 0=true)(h2:sOk n t)(h3:okT t=true):∀ {l:Tree},wf l 1=true→sOk n l→okT l=true→wf (l.snocT t) 1=true∧sOk n (l.snocT t)∧cnt (l.snocT t)=cnt l+cnt t∧okT (l.snocT t)=true∧ilen (l.snocT t)=ilen l+ilen t∧gS (l.snocT t)=false:=by
 intro l;induction l with
 |tnil=>intro _ _ _;exact⟨by simp[Tree.snocT,wf,h1],⟨h2,trivial⟩,by simp[Tree.snocT,cnt],by simp[Tree.snocT,okT,h3],by simp[Tree.snocT,ilen],rfl⟩
 |tcons x l ih1 ih2=>
  intro hw hs ho;simp[wf]at hw;simp[okT]at ho;obtain⟨a,b,c,d,e,f⟩:=ih2 hw.2 hs.2 ho.2;exact⟨by simp[Tree.snocT,wf,hw.1,a],⟨hs.1,b⟩,by simp only[Tree.snocT,cnt,c];omega,by simp[Tree.snocT,okT,ho.1,d],by simp only[Tree.snocT,ilen,e];omega,rfl⟩
 |_=>intro hw;simp[wf]at hw
def bGD{n:Nat}{t:Tree}(h1:wf t 2=true)(h2:sOk n t)(h3:okT t=true):∀ {l:Tree},wf l 3=true→sOk n l→okT l=true→wf (l.snocC t) 3=true∧sOk n (l.snocC t)∧cnt (l.snocC t)=cnt l+cnt t∧okT (l.snocC t)=true∧ilen (l.snocC t)=ilen l+ilen t:=by
 intro l;induction l with
 |cnil=>intro _ _ _;exact⟨by simp[Tree.snocC,wf,h1],⟨h2,trivial⟩,by simp[Tree.snocC,cnt],by simp[Tree.snocC,okT,h3],by simp[Tree.snocC,ilen]⟩
 |ccons x l ih1 ih2=>
  intro hw hs ho;simp[wf]at hw;simp[okT]at ho;obtain⟨a,b,c,d,e⟩:=ih2 hw.2 hs.2 ho.2;exact⟨by simp[Tree.snocC,wf,hw.1,a],⟨hs.1,b⟩,by simp only[Tree.snocC,cnt,c];omega,by simp[Tree.snocC,okT,ho.1,d],by simp only[Tree.snocC,ilen,e];omega⟩
 |_=>intro hw;simp[wf]at hw
def cntO:Option Tree→Nat
 |none=>0
 |some t=>cnt t
def aO6:Option Tree→Nat
 |none=>0
 |some t=>ilen t+1
def aPQ:Tree→Bool
 | .bcons _ _ l=>aPQ l
 | .belse _ _=>false
 |_=>true
def aQP{n:Nat}{o:Option Tree}{b:Tree}(h0:∀t,o=some t→wf t 0=true∧sOk n t∧okT t=true)(h1:wf b 3=true)(h2:sOk n b)(h3:okT b=true):∀ {l:Tree},wf l 4=true→sOk n l→okT l=true→aPQ l=true→
  wf (l.snocB o b) 4=true∧sOk n (l.snocB o b)∧cnt (l.snocB o b)=cnt l+cntO o+cnt b+1∧okT (l.snocB o b)=true∧ilen (l.snocB o b)=ilen l+aO6 o+ilen b∧aPQ (l.snocB o b)=o.isSome:=by
 intro l;induction l with
 |bnil=>
  intro _ _ _ _;cases o with
  |none=>exact⟨by simp[Tree.snocB,mkB,wf,h1],⟨h2,trivial⟩,by simp[Tree.snocB,mkB,cnt,cntO],by simp[Tree.snocB,mkB,okT,h3,gS],by simp[Tree.snocB,mkB,ilen,aO6],rfl⟩
  |some t=>
   obtain⟨a,b2,c2⟩:=h0 t rfl;exact⟨by simp[Tree.snocB,mkB,wf,h1,a],⟨b2,h2,trivial⟩,by simp[Tree.snocB,mkB,cnt,cntO],by simp[Tree.snocB,mkB,okT,h3,c2],by simp[Tree.snocB,mkB,ilen,aO6];omega,rfl⟩
 |bcons x y l ih1 ih2 ih3=>
  intro hw hs ho hp;simp[wf]at hw;simp[okT]at ho;obtain⟨a,b,c,d,e,f⟩:=ih3 hw.2.2 hs.2.2 ho.2.2 hp;exact⟨by simp[Tree.snocB,wf,hw.1,hw.2.1,a],⟨hs.1,hs.2.1,b⟩,by simp only[Tree.snocB,cnt,c];omega,by simp[Tree.snocB,okT,ho.1,ho.2.1,d],by simp only[Tree.snocB,ilen,e];omega,f⟩
 |belse y l ih1 ih2=>intro _ _ _ hp;cases hp
 |_=>intro hw;simp[wf]at hw
def aY0{T:St→Res (Tree×St)}(hTa:Adv s T)(hT:FitA s 0 T):∀ {f:Nat} {acc:Tree} {st:St} {r:Tree×St},Ok s st→wf acc 1=true→sOk s.length acc→okT acc=true→gS acc=false→pS s T f acc st=.ok r→wf r.1 1=true∧sOk s.length r.1∧cnt r.1+mu s r.2≤cnt acc+mu s st∧okT r.1=true∧2*ilen r.1+mu s r.2≤2*ilen acc+mu s st∧gS r.1=false:=by
 intro f;induction f with
 |zero=>intro acc st r _ _ _ _ _ e;cases e
 |succ f ih=>
  intro acc st r hok hw hs ho hn e;simp only[pS]at e;split at e
  ·cases e
  rename_i q hq;have h1:=yV hok hq;split at e
  ·split at e
   ·cases e
   rename_i t ht;have h2:=hT _ _ h1.1 ht;obtain⟨a,b,c,d,d2,d3⟩:=bGE h2.1 h2.2.1 h2.2.2.2.1 hw hs ho;have h3:=ih (hTa _ _ h1.1 ht).1 a b d d3 e;have h4:=h2.2.2;exact⟨h3.1,h3.2.1,by omega,h3.2.2.2.1,by omega,h3.2.2.2.2.2⟩
  split at e
  ·cases e
  rename_i y hy;have h2:=jQ h1.1 hy;cases e
  exact⟨hw,hs,by simp only[];omega,ho,by simp only[];omega,hn⟩
def aJ8{T:St→Res (Tree×St)}{all:Bool}(hTa:Adv s T)(hT:FitA s 0 T):FitN s 0 0 (pD s T all):=by
 intro st r hok hk e;unfold pD at e;split at e
 ·cases e
 rename_i q hq;have h1:=lQ hok hk.1 hq;have hk2:=hk.2;split at e
 ·cases e
 rename_i x hx;have h2:=jQ h1.1 hx;split at e
 ·cases e
 rename_i t ht;have h3:=hT _ _ h2.1 ht;unfold r8 at e;split at e
 ·cases e
 rename_i l hl;have h4:=aY0 (acc:=.tcons t.1 .tnil) hTa hT (hTa _ _ h2.1 ht).1 (by simp[wf,h3.1]) ⟨h3.2.1,trivial⟩ (by simp[okT,h3.2.2.2.1]) rfl hl;cases e
 have:=h3.2.2;have:=h4.2.2;refine⟨by simp[wf,h4.1],h4.2.1,?_,by simp[okT,h4.2.2.2.1,h4.2.2.2.2.2],?_⟩
 ·simp only[cnt]at*;omega
 simp only[ilen]at*;omega
def bAZ{needs:List aP}{T:St→Res (Tree×St)}(hTa:Adv s T)(hT:FitA s 0 T){st:St}{r:Tree×St}(hok:Ok s st)(hk:st.2.kind=1)(e:pN s needs T st=some (.ok r)):Fit s 0 st r:=by
 unfold pN at e;simp only[]at e;split at e
 ·rename_i hw;exact aGI _ _ hok ⟨hk,by rw[hw];decide⟩ gDL
 split at e
 ·rename_i hw;exact aGI _ _ hok ⟨hk,by rw[hw];decide⟩ gDL
 split at e
 ·rename_i hw;exact bED hT _ _ hok ⟨hk,by rw[hw];decide⟩ gDL
 split at e
 ·rename_i hw;exact aJ8 hTa hT _ _ hok ⟨hk,by rw[hw];decide⟩ gDL
 split at e
 ·rename_i hw;exact aJ8 hTa hT _ _ hok ⟨hk,by rw[hw];decide⟩ gDL
 split at e
 ·rename_i hw;exact aAY (op:=6) (by decide) _ _ hok ⟨hk,by rw[hw];decide⟩ gDL
 split at e
 ·rename_i hw;exact aAY (op:=7) (by decide) _ _ hok ⟨hk,by rw[hw];decide⟩ gDL
 split at e
 ·rename_i hw;exact aAY (op:=8) (by decide) _ _ hok ⟨hk,by rw[hw];decide⟩ gDL
 split at e
 ·rename_i hw;exact aOU _ _ hok ⟨hk,by rw[hw];decide⟩ gDL
 split at e
 ·rename_i hw;exact bAL _ _ hok ⟨hk,by rw[hw];decide⟩ gDL
 cases e
def bGW{needs:List aP}:∀n,FitA s 0 (test s needs n):=by
 intro n;induction n with
 |zero=>intro st r hok e;simp only[test]at e;split at e <;> cases e
 |succ n ih=>
  intro st r hok e;simp only[test]at e;split at e
  ·rename_i hk;split at e
   ·rename_i x hx;subst e;exact bAZ (nI n) ih hok hk hx
   cases e
  cases e
def aC5{B:St→Res (Tree×St)}(hBa:AdvE s B)(hB:FitA s 3 B){st:St}{r:Tree×St}(hok:Ok s st)(e:kV s B st=.ok r):wf r.1 3=true∧sOk s.length r.1∧cnt r.1+1+mu s r.2≤mu s st∧okT r.1=true∧2*ilen r.1+mu s r.2≤mu s st:=by
 unfold kV at e;split at e
 ·cases e
 rename_i q hq;have h1:=jQ hok hq;split at e
 ·cases e
 rename_i b hb;have h2:=hB _ _ h1.1 hb;have h2a:=hBa _ _ h1.1 hb;split at e
 ·cases e
 rename_i y hy;have h3:=jQ h2a.1 hy;cases e
 have:=h2.2.2;exact⟨h2.1,h2.2.1,by simp only[];omega,h2.2.2.2.1,by simp only[];omega⟩
def aXX{B:St→Res (Tree×St)}(hBa:AdvE s B)(hB:FitA s 3 B){acc:Tree}{st:St}{r:Tree×St}(hok:Ok s st)(hw:wf acc 4=true)(hs:sOk s.length acc)(ho:okT acc=true)(hp:aPQ acc=true)(e:lC s B acc st=.ok r):wf r.1 2=true∧sOk s.length r.1∧cnt r.1+mu s r.2≤cnt acc+1+mu s st∧okT r.1=true∧2*ilen r.1+mu s r.2≤2*ilen acc+mu s st:=by
 unfold lC at e;split at e
 ·rename_i hk;split at e
  ·cases e
  rename_i q hq;have h1:=lQ hok hk.1 hq;split at e
  ·cases e
  rename_i b hb;have h2:=aC5 hBa hB h1.1 hb;cases e
  obtain⟨a,b,c,d,d2,_⟩:=aQP (o:=none) (fun t h=>by cases h) h2.1 h2.2.1 h2.2.2.2.1 hw hs ho hp;exact⟨by simp[wf,a],b,by simp only[cnt,c,cntO];omega,d,by simp only[ilen,d2,aO6];omega⟩
 cases e;exact⟨by simp[wf,hw],hs,by simp only[cnt];omega,ho,by simp only[ilen];omega⟩
def aSK{T B:St→Res (Tree×St)}(hTa:Adv s T)(hBa:AdvE s B)(hT:FitA s 0 T)(hB:FitA s 3 B):∀ {f:Nat} {acc:Tree} {st:St} {r:Tree×St},Ok s st→wf acc 4=true→sOk s.length acc→okT acc=true→aPQ acc=true→hO s T B f acc st=.ok r→wf r.1 2=true∧sOk s.length r.1∧cnt r.1+mu s r.2≤cnt acc+1+mu s st∧okT r.1=true∧2*ilen r.1+mu s r.2≤2*ilen acc+mu s st:=by
 intro f;induction f with
 |zero=>intro acc st r _ _ _ _ _ e;cases e
 |succ f ih=>
  intro acc st r hok hw hs ho hp e;simp only[hO]at e;split at e
  ·rename_i hk;split at e
   ·cases e
   rename_i q hq;have h1:=lQ hok hk.1 hq;have hel:st.2.s.length=5:=by rw[hk.2];rfl
   split at e
   ·cases e
   rename_i t ht;have h2:=hT _ _ h1.1 ht;have h2a:=hTa _ _ h1.1 ht;split at e
   ·cases e
   rename_i b hb;have h3:=aC5 hBa hB h2a.1 hb;have h3a:=mX hBa _ _ h2a.1 hb;obtain⟨a,b',c,d,d2,d3⟩:=aQP (o:=some t.1) (fun x h=>by cases h;exact⟨h2.1,h2.2.1,h2.2.2.2.1⟩) h3.1 h3.2.1 h3.2.2.2.1 hw hs ho hp;have h4:=ih h3a.1 a b' d d3 e;have:=h2.2.2;simp only[cntO]at c;simp only[aO6]at d2;exact⟨h4.1,h4.2.1,by omega,h4.2.2.2.1,by omega⟩
  exact aXX hBa hB hok hw hs ho hp e
def bIM{T B:St→Res (Tree×St)}(hTa:Adv s T)(hBa:AdvE s B)(hT:FitA s 0 T)(hB:FitA s 3 B):FitN s 2 2 (ifC s T B):=by
 intro st r hok hk e;unfold ifC at e;split at e
 ·cases e
 rename_i q hq;have h1:=lQ hok hk.1 hq;have hk2:=hk.2;split at e
 ·cases e
 rename_i t ht;have h2:=hT _ _ h1.1 ht;have h2a:=hTa _ _ h1.1 ht;split at e
 ·cases e
 rename_i b hb;have h3:=aC5 hBa hB h2a.1 hb;have h3a:=mX hBa _ _ h2a.1 hb;have h4:=aSK (acc:=.bcons t.1 b.1 .bnil) hTa hBa hT hB h3a.1 (by simp[wf,h2.1,h3.1]) ⟨h2.2.1,h3.2.1,trivial⟩ (by simp[okT,h2.2.2.2.1,h3.2.2.2.1]) rfl e;have:=h2.2.2;simp only[cnt,ilen]at h4;exact⟨h4.1,h4.2.1,by omega,h4.2.2.2.1,by omega⟩
def bAE{needs:List aP}:FitN s 2 2 (rC s needs):=by
 intro st r hok hk e;unfold rC at e;split at e
 ·cases e
 rename_i q hq;have h1:=aQJ _ _ hok aH hq;have hsm:mu s r.2+st.2.s.length≤mu s st∧(0≤q.1.tag∧q.1.tag≤3)∧(q.1.name.length≤s.length∧q.1.value.length≤s.length)→Fit s 2 st r:=by
  intro h;cases e
  exact⟨Y,h.2.2,by simp only[cnt];omega,by simp only[okT,decide_eq_true_eq];exact h.2.1,by simp only[ilen];have h1:mu s q.2+_≤_:=h.1;have:=hk.2;show 2*1+mu s q.2≤_;omega⟩
 have er:r.2=q.2:=by cases e;rfl
 refine hsm ?_;rw[er];unfold setC at hq;split at hq
 ·split at hq
  ·cases hq
  rename_i r1 hr1;have g1:=lQ hok hk.1 hr1;split at hq
  ·cases hq
  rename_i t ht;have h2:(Ok s t.2∧mu s t.2≤mu s r1)∧0≤t.1∧t.1≤3:=by
   unfold lF at ht;split at ht
   ·split at ht
    ·cases ht
    split at ht
    ·cases ht
    rename_i x hx;cases ht
    have g2:=jO g1.1 aH hx;have:=zG [fU,gH,gE] r1.2.s;simp only[List.length_cons,List.length_nil]at this;exact⟨⟨g2.1,by simp only[];omega⟩,by simp only[];omega⟩
   cases ht;exact⟨⟨g1.1,xAA _⟩,by simp⟩
  unfold nW at hq;split at hq
  ·cases hq
  rename_i n hn;have h3:=pO h2.1.1 hn;split at hq
  ·cases hq
  rename_i v hv;have h4:=pO h3.1 hv;split at hq
  ·cases hq
  rename_i y hy;have h5:=jQ h4.1 hy;cases hq
  exact⟨by simp only[];omega,h2.2,by rw[mN];exact aCV h2.1.1 hn,aCV h3.1 hv⟩
 cases hq
def bB9{needs:List aP}{T B:St→Res (Tree×St)}(hTa:Adv s T)(hBa:AdvE s B)(hT:FitA s 0 T)(hB:FitA s 3 B){st:St}{r:Tree×St}(hok:Ok s st)(hk:st.2.kind=1)(e:cmdD s needs T B st=some (.ok r)):Fit s 2 st r:=by
 unfold cmdD at e;simp only[]at e;split at e
 ·rename_i hw;exact yB (c:=.act 1 [] st.2.at_) ⟨Y,x9 _,Y,Y,Y⟩ _ _ hok ⟨hk,by rw[hw];decide⟩ gDL
 split at e
 ·rename_i hw;exact yB (c:=.plain 13) ⟨Y,trivial,Y,Y,Y⟩ _ _ hok ⟨hk,by rw[hw];decide⟩ gDL
 split at e
 ·rename_i hw;exact yB (c:=.plain 14) ⟨Y,trivial,Y,Y,Y⟩ _ _ hok ⟨hk,by rw[hw];decide⟩ gDL
 split at e
 ·rename_i hw;exact aF7 (k:=2) (by decide) _ _ hok ⟨hk,by rw[hw];decide⟩ gDL
 split at e
 ·rename_i hw;exact aF7 (k:=3) (by decide) _ _ hok ⟨hk,by rw[hw];decide⟩ gDL
 split at e
 ·rename_i hw;exact aF7 (k:=4) (by decide) _ _ hok ⟨hk,by rw[hw];decide⟩ gDL
 split at e
 ·rename_i hw;exact bAE _ _ hok ⟨hk,by rw[hw];decide⟩ gDL
 split at e
 ·rename_i hw;exact bIM hTa hBa hT hB _ _ hok ⟨hk,by rw[hw];decide⟩ gDL
 cases e
def aRX{C:St→Option (Res (Tree×St))}(hCa:∀ {st r},Ok s st→st.2.kind≠0→C st=some (.ok r)→Ok s r.2∧mu s r.2 < mu s st)(hC:∀ {st r},Ok s st→st.2.kind=1→C st=some (.ok r)→Fit s 2 st r):
  ∀ {f:Nat} {acc:Tree} {st:St} {r:Tree×St},Ok s st→wf acc 3=true→sOk s.length acc→okT acc=true→kQ s C f acc st=.ok r→wf r.1 3=true∧sOk s.length r.1∧cnt r.1+mu s r.2≤cnt acc+mu s st∧okT r.1=true∧2*ilen r.1+mu s r.2≤2*ilen acc+mu s st:=by
 intro f;induction f with
 |zero=>intro acc st r _ _ _ _ e;cases e
 |succ f ih=>
  intro acc st r hok hw hs ho e;simp only[kQ]at e;split at e
  ·rename_i hk;split at e
   ·cases e
   ·cases e
   rename_i c hc;have h1:=hCa hok aH hc;have h2:=hC hok hk hc;obtain⟨a,b,d,d2,d3⟩:=bGD h2.1 h2.2.1 h2.2.2.2.1 hw hs ho;have h3:=ih h1.1 a b d2 e;have:=h2.2.2;exact⟨h3.1,h3.2.1,by omega,h3.2.2.2.1,by omega⟩
  cases e;exact⟨hw,hs,xAA _,ho,xAA _⟩
def aW8{needs:List aP}:∀n,FitA s 3 (block s needs n):=by
 intro n;induction n with
 |zero=>intro st r hok e;simp only[block]at e;split at e <;> cases e;exact⟨Y,trivial,by simp[cnt],rfl,by simp[ilen]⟩
 |succ n ih=>
  intro st r hok e;simp only[block]at e;have:=aRX (acc:=.cnil) (fun h1 h2 h3=>aBI (nI n) (sF n) h1 h2 h3) (fun h1 h2 h3=>bB9 (nI n) (sF n) (bGW n) ih h1 h2 h3) hok rfl trivial rfl e;simp only[cnt,ilen]at this;exact⟨this.1,this.2.1,by omega,this.2.2.2.1,by omega⟩
def bFC:∀ {f:Nat} {ns:List aP} {st:St} {r:List aP×St},Ok s st→reqF s f ns st=.ok r→Ok s r.2∧mu s r.2≤mu s st:=by
 intro f;induction f with
 |zero=>intro ns st r _ e;cases e
 |succ f ih=>
  intro ns st r hok e;simp only[reqF]at e;split at e
  ·rename_i hk;split at e
   ·cases e
   rename_i q hq;have h1:=jO hok aH hq;split at e
   ·cases e
   rename_i l hl;have h2:=oK h1.1 hl;split at e
   ·cases e
   rename_i y hy;have h3:=jQ h2.1 hy;have:=ih h3.1 e;exact⟨this.1,by omega⟩
  cases e;exact⟨hok,xAA _⟩
def nP{r:List aP×Tree}(h:gN s=.ok r):wf r.2 3=true∧sOk s.length r.2∧cnt r.2≤2*s.length+1∧okT r.2=true∧2*ilen r.2≤s.length:=by
 unfold gN at h;split at h
 ·cases h
 rename_i q hq;have h1:=fX (x9 _) hq;unfold jP at h;split at h
 ·cases h
 rename_i n hn;have h2:=bFC h1 hn;split at h
 ·cases h
 rename_i b hb;have h3:=aW8 7 _ _ h2.1 hb;split at h
 ·cases h
  have:=bD3 hq;have:=h3.2.2;exact⟨h3.1,h3.2.1,by simp only[];omega,h3.2.2.2.1,by simp only[];omega⟩
 cases h
end Go.Syn
end
section
namespace Go.SL
section
variable{E:Env}{fr:Fr}{K:Hl}{L L':List Asn}{Q:Post}{ops:Array Oper}{rest:List Oper}{dst:Option Tmp}{ty:TypeId}{pos:String}{aft:Array Edge}{g:Option (Nat×Bool)}{x y:Operand}{v u:Value}{t:TypeId}
def aG4{P:Program}{name:String}{os:List Operand}{vs:List Value}{ats:Array TypeId}{f:FuncId}{r:Value}{n:Nat}{ds:List Deferred}(hx:fr.ev x=some (.iface t u))(hos:fr.evs os=some vs)
  (hm:∀w,(method (P.types.size+Made.depth) t u name).run P w=.ok (f,r) w) {a:Act} (fo:FrOk n ds fr a) (w:World):
  (execOp a.eval ⟨dst,.call ⟨.invoke x name,os.toArray,ats⟩,ty,pos,aft,g⟩).run P w=(callFunc f (r::vs).toArray).run P w:=by
 have e1:Array.map a.eval os.toArray=vs.toArray:=by simp[fo.evs hos]
 have e2: #[Value.iface t u]++vs.toArray=(Value.iface t u::vs).toArray:=by simp
 simp only[execOp,resolve,e1,fo.ev hx,bind,pure,Sem.bind,invoke,e2];have e3:(Value.iface t u::vs).toArray[0]?=some (.iface t u):=by simp
 have e4:(Value.iface t u::vs).toArray.extract 1 (Value.iface t u::vs).toArray.size=vs.toArray:=by simp
 simp only[e3,e4]
 show (callMethod (.iface t u) name vs.toArray).run P w=_
 unfold callMethod;simp only[];have hp:(program).run P w=.ok P w:=rfl;rw[bJ hp,bJ (hm w)];simp
def iC{name:String}{os:List Operand}{vs:List Value}{ats:Array TypeId}{f:FuncId}{r:Value}{fn:Func}{ex:Array Value→Sem Value}(hx:fr.ev x=some (.iface t u))(hos:fr.evs os=some vs)
  (hm:∀w,(method (E.P.types.size+Made.depth) t u name).run E.P w=.ok (f,r) w)
  (h1:E.P.funcs[f]?=some fn) (h2:(fn.name== "runtime.NumGoroutine")=false) (h3:fn.body.isNone=true) (h4:Extern.findNext fn=none) (h5:Extern.find fn=some ex) (hr:∀w,In E.w0 E.F K L w→(ex (r::vs).toArray).run E.P w=.ok v w):
  Ev E fr K L ⟨dst,.call ⟨.invoke x name,os.toArray,ats⟩,ty,pos,aft,g⟩ v:=fun a w fo j=>by
 rw[aG4 hx hos hm fo w,run_callFunc_extern h1 h2 h3 h4 h5,hr w j]
 rfl
def aE0{fv:Operand}{os:List Operand}{vs:List Value}{ats:Array TypeId}{f:FuncId}{fn:Func}{ex:Array Value→Sem Value}{N:Value→Hl→List Asn→Prop}(hf:fr.ev fv=some (.func (.func f) #[] #[]))(hos:fr.evs os=some vs)
  (h1:E.P.funcs[f]?=some fn) (h2:(fn.name== "runtime.NumGoroutine")=false) (h3:fn.body.isNone=true) (h4:Extern.findNext fn=none) (h5:Extern.find fn=some ex)
  (hr:∀w,In E.w0 E.F K L w→∃v w' K' L',(ex vs.toArray).run E.P w=.ok v w'∧N v K' L'∧K.le K'∧In E.w0 E.F K' L' w'):
  EfS E fr K L ⟨dst,.call ⟨.value fv,os.toArray,ats⟩,ty,pos,aft,g⟩ N:=fun a w fo j=>by
 obtain⟨v,w',K',L',h,hN,le,j'⟩:=hr w j;refine⟨v,w',K',L',.inl ?_,hN,le,j'⟩
 have e1:Array.map a.eval os.toArray=vs.toArray:=by simp[fo.evs hos]
 simp only[execOp,resolve,e1,fo.ev hf,Deferred.ofValue,bind,pure,Sem.bind,invoke,List.append_toArray];simp only[List.nil_append,List.append_nil];rw[run_callFunc_extern h1 h2 h3 h4 h5,h]
 rfl
def aOK{o:Oper}{f:FuncId}{vs:List Value}{L1 L2:List Asn}{R:Ending→Hl→List Asn→Prop}{N:Value→Hl→List Asn→Prop}
  (hrun:∀a w,FrOk E.n E.ds fr a→(execOp a.eval o).run E.P w=.ok (.enter f vs.toArray) w) (hL:Tks L1 L L2) (hs:Sp E.P f vs K L1 R)
  (hret:∀v K' L',R (.returned v) K' L'→N v K' (L'++L2)) (hpan:∀ch K' L',R (.panicked ch) K' L'→K.le K'→D E (.panic ch) fr K' (L'++L2) Q) (hout:∀K' L',R .outgrown K' L'→LetsOut Q):
  Ef E fr K L o Q N:=by
 intro a w k fo i hk;obtain⟨F',i1,back⟩:=(i.imp hL.sat).hide;refine .inl ?_;unfold Oper.wp;rw[hrun a w fo];refine(hs.2 F' w i1).mono fun e w' ⟨K',L',r,le,j⟩=>?_;cases e with
 |returned v=>exact hk _ _ _ _ (hret _ _ _ r) le (back j)
 |panicked ch=>exact hpan _ _ _ r le _ _ fo (back j)
 |outgrown=>exact hout _ _ r
def aML{P:Program}{name:String}{os:List Operand}{vs:List Value}{ats:Array TypeId}{f:FuncId}{r:Value}{n:Nat}{ds:List Deferred}(hx:fr.ev x=some (.iface t u))(hos:fr.evs os=some vs)
  (hm:∀w,(method (P.types.size+Made.depth) t u name).run P w=.ok (f,r) w) (hb:∃fn,P.funcs[f]?=some fn∧(fn.name== "runtime.NumGoroutine")=false∧fn.body.isSome=true) (a:Act) (w:World) (fo:FrOk n ds fr a):
  (execOp a.eval ⟨dst,.call ⟨.invoke x name,os.toArray,ats⟩,ty,pos,aft,g⟩).run P w=.ok (.enter f (r::vs).toArray) w:=by
 obtain⟨fn,h1,h2,h3⟩:=hb;rw[aG4 hx hos hm fo w];exact aDC h1 h2 h3 w
def oP{d:Nat}{name:String}{os:List Operand}{vs:List Value}{ats:Array TypeId}{f:FuncId}{r:Value}{L1 L2:List Asn}{N:Value→Hl→List Asn→Prop}(hx:fr.ev x=some (.iface t u))(hos:fr.evs os=some vs)
  (hm:∀w,(method (E.P.types.size+Made.depth) t u name).run E.P w=.ok (f,r) w) (hs:Sp E.P f (r::vs) K L1 (Ret N)) (hL:Tks L1 L L2) (hd:Nat.blt d E.n=true)
  (h:∀v K' L',N v K' L'→K.le K'→OL E ops rest ((d,v)::fr) K' (L'++L2) Q):OL E ops (⟨some d,.call ⟨.invoke x name,os.toArray,ats⟩,ty,pos,aft,none⟩::rest) fr K L Q:=
 aKD (aOK (N:=fun v K' L''=>∃L',L''=L'++L2∧N v K' L') (aML hx hos hm hs.1) hL hs (fun v K' L' ⟨u,e,n⟩=>by cases e;exact⟨L',Y,n⟩) (fun ch K' L' ⟨u,e,n⟩=>by cases e) (fun K' L' ⟨u,e,n⟩=>by cases e)) hd
  (fun v K' L'' ⟨L',e,n⟩ le=>by subst e;exact h v K' L' n le)
def aOR{xt at_:TypeId}{ok:Bool}(hx:fr.ev x=some u)(h:∀w,(Instr.typeAssert u xt at_ ok).run E.P w=.ok v w):Ev E fr K L ⟨dst,.typeAssert x xt at_ ok,ty,pos,aft,g⟩ v:=fun a w f j=>by
 simp only[execOp,f.ev hx];exact fO (h w)
def aAG{op:BinOp}{t':TypeId}{v1 v2:Value}(hx:fr.ev x=some v1)(hy:fr.ev y=some v2)(h0:∀w,(eqGuard op t x y v1 v2).run E.P w=.ok () w)(h:∀w,(binOp op t v1 v2).run E.P w=.ok v w):
  Ev E fr K L ⟨dst,.binOp op t x y t',ty,pos,aft,g⟩ v:=jN hx hy h0 h
end
def Hl.less(k h:Hl):Hl:=fun x=>if (h x).isSome then none else k x
def Hl.less_le(k h:Hl):(k.less h).le k:=by
 intro x o e;unfold Hl.less at e;split at e
 ·cases e
 exact e
def Hl.less_dj(k h:Hl):h.dj (k.less h):=by
 intro x;cases e:h x with
 |none=>exact .inl Y
 |some o=>exact .inr (by simp[Hl.less,e])
def Hl.le_join_l{a b:Hl}:a.le (a.join b):=fun x o e=>by simp[Hl.join,e]
def Hl.le_join_r{a b:Hl}(d:a.dj b):b.le (a.join b):=fun x o e=>by
 rcases d x with q|q
 ·simp[Hl.join,q,e]
 rw[q]at e;cases e
def In.freeze{w0 w:World}{F K:Hl}{L1 L:List Asn}(i:In w0 F K (L1++L) w):∃h,Sat L1 h∧K.dj h∧In w0 F (K.join h) L w:=by
 obtain⟨x,hs,d1,d2,d3,l1,l2,l3⟩:=i.rep;obtain⟨a,n,ha,hn,han,rfl⟩:=eY.1 hs;have hd2:=Hl.dj_join.1 d2;have hd3:=Hl.dj_join.1 d3;exact⟨a,ha,hd3.1,i.os,i.tape,i.output,i.size,n,hn,Hl.dj_join.2 ⟨d1,hd2.1⟩,hd2.2,Hl.join_dj.2 ⟨hd3.2,han⟩,l1,Hl.join_le l2 (Hl.le_join_left l3),Hl.le_join_right han l3⟩
def In.thaw{w0 w:World}{F K' h:Hl}{L1 L:List Asn}(i:In w0 F K' L w)(hs1:Sat L1 h)(le:h.le K'):In w0 F (K'.less h) (L1++L) w:=by
 obtain⟨x,hs,d1,d2,d3,l1,l2,l3⟩:=i.rep;have sub:∀y,K' y=none→h y=none:=by
  intro y hy;cases e:h y with
  |none=>rfl
  |some o=>rw[le y o e]at hy;cases hy
 have hx:h.dj x:=fun y=>(d3 y).imp_left (sub y)
 have hF:F.dj h:=fun y=>(d1 y).imp_right (sub y)
 refine⟨i.os,i.tape,i.output,i.size,h.join x,eY.2 ⟨h,x,hs1,hs,hx,Y⟩,?_,Hl.dj_join.2 ⟨hF,d2⟩,Hl.dj_join.2 ⟨(Hl.less_dj K' h).symm,?_⟩,l1,x6 (Hl.less_le _ _) l2,Hl.join_le (x6 le l2) l3⟩
 ·intro y;rcases d1 y with q|q
  ·exact .inl q
  exact .inr (by unfold Hl.less;split <;> first|rfl|exact q)
 intro y;rcases d3 y with q|q
 ·exact .inl (by unfold Hl.less;split <;> first|rfl|exact q)
 exact .inr q
def bME{α:Type}{z:Bool}{k:El α}{v:Value}{xs:List α}{h:Hl}(hs:sl z k v xs h):Ksl k h v xs:=by
 rcases hs with ⟨rfl,rfl,rfl⟩|⟨b,cap,junk,fz,rfl,hz,hc,hj,hf,rfl⟩
 ·exact .inl ⟨none,0,Y,Y⟩
 refine .inr ⟨b,0,cap,k.cs xs++junk,fz,Y,⟨k.e,by simp[Hl.one]⟩,?_⟩
 rw[xBG,←k.cs_length,List.take_left]
def tD{A:Asn}{L:List Asn}{h:Hl}(hh:Hs A L)(hs:Sat L h):∃a,A a∧a.le h:=by
 obtain⟨M,hM⟩:=hh.split;obtain⟨a,m,ha,hm,hd,rfl⟩:=hM h hs;exact⟨a,ha,Hl.le_join_l⟩
def lS{α:Type}{z:Bool}{k:El α}{v:Value}{xs:List α}{L:List Asn}{h:Hl}(hh:Hs (sl z k v xs) L)(hs:Sat L h):Ksl k h v xs:=by
 obtain⟨a,ha,le⟩:=tD hh hs;exact(bME ha).mono le
def aIE:∀ {o:Nat} {l cs:List Value},o+cs.length≤l.length→Spl l o cs (l.take o++cs++l.drop (o+cs.length))
 |0,l,[],h=>by simpa using Spl.nil
 |0,a::l,c::cs,h=>by
  have:=aIE (o:=0) (l:=l) (cs:=cs) (by simp at h ⊢;omega);have e:(a::l).take 0++c::cs++(a::l).drop (0+(c::cs).length)=c::(l.take 0++cs++l.drop (0+cs.length)):=by simp
  rw[e];exact .cons this
 |0,[],c::cs,h=>by simp at h
 |o+1,a::l,cs,h=>by
  have:=aIE (o:=o) (l:=l) (cs:=cs) (by simp at h;omega);have e:(a::l).take (o+1)++cs++(a::l).drop (o+1+cs.length)=a::(l.take o++cs++l.drop (o+cs.length)):=by
   have:o+1+cs.length=(o+cs.length)+1:=by omega
   rw[this];simp
  rw[e];exact .skip this
 |o+1,[],cs,h=>by simp at h
def aOH{α:Type}(k:El α){y:α}:∀ {xs:List α} {j:Nat} {r:List Value},j < xs.length→(k.cs xs++r).take (j*k.sz)++k.enc y++(k.cs xs++r).drop (j*k.sz+(k.enc y).length)=k.cs (xs.set j y)++r
 | [],_,_,h=>by simp at h
 |x::xs,0,r,h=>by
  simp only[Nat.zero_mul,List.take_zero,List.nil_append,Nat.zero_add,List.set_cons_zero,El.cs,List.flatMap_cons,List.append_assoc];have:(k.enc y).length=(k.enc x).length:=by rw[k.len,k.len]
  rw[this,List.drop_left]
 |x::xs,j+1,r,h=>by
  have ih:=aOH k (y:=y) (xs:=xs) (j:=j) (r:=r) gFC;have hx:=k.len x;simp only[El.cs,List.set_cons_succ,List.flatMap_cons,List.append_assoc]at ih ⊢;have e1:(j+1)*k.sz=(k.enc x).length+j*k.sz:=by rw[Nat.succ_mul,hx];omega
  have e2:(j+1)*k.sz+(k.enc y).length=(k.enc x).length+(j*k.sz+(k.enc y).length):=by rw[e1];omega
  rw[e1,List.take_append,xAI aH,show (k.enc x).length+j*k.sz - (k.enc x).length=j*k.sz by omega];rw[show (k.enc x).length+j*k.sz+(k.enc y).length=(k.enc x).length+(j*k.sz+(k.enc y).length) by omega,List.drop_append,List.drop_eq_nil_of_le aH,show (k.enc x).length+(j*k.sz+(k.enc y).length) - (k.enc x).length=j*k.sz+(k.enc y).length by omega];rw[xBL,xA0,ih]
section
variable{E:Env}{fr:Fr}{K:Hl}{L L':List Asn}{dst:Option Tmp}{ty:TypeId}{pos:String}{aft:Array Edge}{g:Option (Nat×Bool)}{x y:Operand}{t:TypeId}{α:Type}{k:El α}{v:Value}{xs:List α}
def pH{zf:Bool}{j:Nat}{y0:α}(ht:aggB E.P t k.sz=true)(hx:fr.ev x=some (nG v (j*k.sz)))(hy:fr.ev y=some (.agg (k.enc y0).toArray))(hj:j < xs.length)
  (hF:Fnd (sl zf k v xs) (sl zf k v (xs.set j y0)) L L'):EfS E fr K L ⟨dst,.store t x y,ty,pos,aft,g⟩ (fun _ K' L''=>K'=K∧L''=L'):=by
 intro a w f q;obtain⟨M,m1,m2⟩:=hF.split;rcases(q.imp m1).slCases with ⟨rfl,rfl,_⟩|⟨b,cap,junk,fz,rfl,hz,hcap,hjk,hf,q0⟩
 ·simp at hj
 have hx':fr.ev x=some (ptr b (j*k.sz)):=by rw[hx];simp[nG,lI]
 have hle:j*k.sz+k.sz≤xs.length*k.sz:=by rw[←Nat.succ_mul];exact xAW _ hj
 have hle2:xs.length*k.sz≤cap*k.sz:=xAW _ hcap;obtain⟨u,w',K',L'',hr,⟨rfl,rfl⟩,le,q1⟩:=cX (K:=K) (dst:=dst) (ty:=ty) (pos:=pos) (aft:=aft) (g:=g) (l:=k.cs xs++junk) (u:=k.e) (fz:=fz) ht hx' hy (k.len y0) (.here (L:=M)) (fun c hc=>k.one y0 c hc) (aIE (by rw[xAF,k.cs_length,k.len];omega)) (fun i hi=>hf.at aH) a w f q0;refine⟨u,w',_,_,hr,⟨Y,Y⟩,le,q1.imp fun h hh=>m2 h ?_⟩
 obtain⟨aa,l,ha,hl,hd,he⟩:=hh;refine⟨aa,l,?_,hl,hd,he⟩
 rw[aOH k hj]at ha;refine .inr ⟨b,cap,junk,fz,by rw[xBC],?_,by rw[xBC];exact hcap,by rw[xBC];exact hjk,hf,ha⟩
 intro h1 h2;exact hz h1 gEI
end
section
variable{P:Program}{fn:Func}{n:Nat}{w0:World}{F K0 K:Hl}{fr:Fr}{L:List Asn}{R:Ending→Hl→List Asn→Prop}{t1 t2 t3 t4:Nat}{v1 v2 v3 v4:Value}
def aTP(h:fn.results= #[.tmp t1,.tmp t2,.tmp t3])(tmps:Array Value)(w:World)(e1:tmps.getD t1 undef=v1)(e2:tmps.getD t2 undef=v2)(e3:tmps.getD t3 undef=v3):(results fn tmps).run P w=.ok (.tuple #[v1,v2,v3]) w:=by
 have e1:tmps[t1]?.getD undef=v1:=by simpa using e1
 have e2:tmps[t2]?.getD undef=v2:=by simpa using e2
 have e3:tmps[t3]?.getD undef=v3:=by simpa using e3
 simp[results,h,e1,e2,e3,Sem.run_bind,Result.andThen]
def vS(hr:fn.results= #[.tmp t1,.tmp t2,.tmp t3])(h1:fr.get t1=some v1)(h2:fr.get t2=some v2)(h3:fr.get t3=some v3)(le:K0.le K)(h:R (.returned (.tuple #[v1,v2,v3])) K L):
  D ⟨P,n,[],w0,F⟩ .ret fr K L (wO P fn w0 F K0 R):=
 fun a w f i=>⟨f.defers,_,aTP hr _ _ (by simp[f.get _ _ h1]) (by simp[f.get _ _ h2]) (by simp[f.get _ _ h3]),K,L,h,le,i⟩
end
end Go.SL
end
section
namespace Go.Cmp
open Go Go.SL Go.Syn Go.Mach
def insA(v:InsV)(o:Ins):Asn:=fun h=>(v.op=o.op∧v.n=o.n∧v.tag=o.tag∧v.oct=o.oct∧v.at_=o.at_)∧Sat [sl false (a7 9) v.a.1 o.a,sl false (a7 9) v.b.1 o.b] h
def kW:List InsV→List Ins→List Asn
 | [],[]=>[]
 |v::vs,o::os=>insA v o::kW vs os
 |_,_=>[fun _=>False]
def eX(vs:List InsV)(os:List Ins):Asn:=fun h=>Sat (kW vs os) h
def aJX{h:Hl}:∀ {vs:List InsV} {os:List Ins},Sat (kW vs os) h→vs.length=os.length:=by
 intro vs;induction vs generalizing h with
 |nil=>intro os hs;cases os with
  |nil=>rfl
  |cons o os=>obtain⟨_,_,hf,_⟩:=hs;exact hf.elim
 |cons v vs ih=>intro os hs;cases os with
  |nil=>obtain⟨_,_,hf,_⟩:=hs;exact hf.elim
  |cons o os=>obtain⟨_,l,_,hl,_⟩:=hs;simp[ih hl]
def aJV:∀ {vs:List InsV} {os:List Ins},vs.length=os.length→∀(ws:List InsV) (ps:List Ins),kW (vs++ws) (os++ps)=kW vs os++kW ws ps
 | [],[],_,_,_=>rfl
 |v::vs,o::os,h,ws,ps=>by simp only[List.cons_append,kW,aJV (show vs.length=os.length by simpa using h) ws ps]
 | [],_::_,h,_,_=>by simp at h
 |_::_,[],h,_,_=>by simp at h
def lU{L:List Asn}:∀h,Sat L h→Sat (eX [] []::L) h:=fun h hs=>⟨.emp,h,rfl,hs,(Hl.dj_emp h).symm,(Hl.emp_join h).symm⟩
def kT{vs:List InsV}{os:List Ins}{v:InsV}{o:Ins}{L:List Asn}(e1:v.op=o.op)(e2:v.n=o.n)(e3:v.tag=o.tag)(e4:v.oct=o.oct)(e5:v.at_=o.at_):
  ∀h,Sat (sl false (a7 9) v.a.1 o.a::sl false (a7 9) v.b.1 o.b::eX vs os::L) h→Sat (eX (vs++[v]) (os++[o])::L) h:=by
 intro h hs;obtain⟨ab,r,hab,⟨c,l,hc,hl,hcl,rfl⟩,hd,rfl⟩:=eY (L:=[_,_]).1 hs;have hd2:=Hl.dj_join.1 hd;refine⟨c.join ab,l,?_,hl,Hl.join_dj.2 ⟨hcl,hd2.2⟩,?_⟩
 ·show Sat (kW (vs++[v]) (os++[o])) _
  rw[aJV (aJX hc)];exact eY.2 ⟨c,ab,hc,⟨ab,.emp,⟨⟨e1,e2,e3,e4,e5⟩,hab⟩,Y,Hl.dj_emp _,(Hl.join_emp _).symm⟩,hd2.1.symm,Y⟩
 rw[←Hl.join_assoc,Hl.join_comm hd2.1]
def codeP_len{vs:List InsV}{os:List Ins}{L:List Asn}:∀h,Sat (eX vs os::L) h→vs.length=os.length:=by
 rintro h ⟨x,l,hx,_⟩;exact aJX hx
def gQ{h:Hl}:∀ {vs:List InsV} {os:List Ins},Sat (kW vs os) h→RIs h vs os:=by
 intro vs;induction vs generalizing h with
 |nil=>intro os hs;cases os with
  |nil=>trivial
  |cons o os=>obtain⟨_,_,hf,_⟩:=hs;exact hf.elim
 |cons v vs ih=>intro os hs;cases os with
  |nil=>obtain⟨_,_,hf,_⟩:=hs;exact hf.elim
  |cons o os=>
   obtain⟨a,l,⟨⟨e1,e2,e3,e4,e5⟩,ha⟩,hl,hd,rfl⟩:=hs;refine⟨⟨e1,e2,e3,e4,e5,(lS .here ha).mono Hl.le_join_l,(lS (.there .here) ha).mono Hl.le_join_l⟩,(ih hl).mono (Hl.le_join_r hd)⟩
end Go.Cmp
end
section
namespace Go.SL
section
variable{E:Env}{fr:Fr}{K:Hl}{L:List Asn}{dst:Option Tmp}{ty:TypeId}{pos:String}{aft:Array Edge}{g:Option (Nat×Bool)}{x y:Operand}{t t':TypeId}{m n:Int}{k:IntKind}
def aL7(hx:fr.ev x=some (.int k m))(hy:fr.ev y=some (.int k n))(h0:n≠0):Ev E fr K L ⟨dst,.binOp .rem t x y t',ty,pos,aft,g⟩ (.int k (m.tmod n)):=
 jN hx hy lP fun w=>by simp[binOp,Op.intDiv,h0,pure]
def bL8(hx:fr.ev x=some (i64 m))(h1: -9223372036854775807≤m)(h2:m≤9223372036854775808):Ev E fr K L ⟨dst,.unOp .neg t x,ty,pos,aft,g⟩ (i64 (-m)):=fun a w f _=>by
 simp only[execOp,f.ev hx];refine fO ?_;have e:IntKind.i64.wrap (-m)= -m:=vH aH aH;simp[Op.unary,Op.intArith,e]
def aSP(hx:fr.ev x=some (.int k m))(hy:fr.ev y=some (.int k n))(h0:n≠0):Ev E fr K L ⟨dst,.binOp .quo t x y t',ty,pos,aft,g⟩ (.int k (k.wrap (m.tdiv n))):=
 jN hx hy lP fun w=>by simp[binOp,Op.intDiv,h0,pure]
end
def pL(v:Value)(m sz:Nat):Value:=
 match v with
 | .slice a n c=>.slice (if c=m then a else a.map (·.add (m*sz))) (n - m) (c - m)
 |v=>v
def lB(v:Value):Prop:=∀a n c,v=.slice a n c→n≤c
section
variable{E:Env}{fr:Fr}{K:Hl}{L L':List Asn}{Q:Post}{dst:Option Tmp}{ty:TypeId}{pos:String}{aft:Array Edge}{g:Option (Nat×Bool)}{x y:Operand}{t:TypeId}{α:Type}{k:El α}{v u:Value}{xs ys:List α}{c0:Code}{x0:Exit}{m:Nat}
def aO9(h:Ksl k K v xs)(hm:m≤xs.length)(hf:lB v):Ksl k K (pL v m k.sz) (xs.drop m):=by
 rcases h with ⟨a,c,rfl,rfl⟩|⟨b,off,cap,cells,fz,rfl,h1,h2⟩
 ·have:m=0:=by simpa using hm
  subst this;exact .inl ⟨_,_,by simp[pL];exact⟨Y,Y⟩,by simp⟩
 have hle:=hf _ _ _ rfl
 by_cases hc:cap=m
 ·have:m=xs.length:=by omega
  subst this;exact .inl ⟨_,_,by simp[pL];exact⟨Y,Y⟩,by simp⟩
 refine .inr ⟨b,off+m*k.sz,cap - m,cells,fz,?_,h1,?_⟩
 ·simp only[pL,if_neg hc,List.length_drop,Option.map];unfold Addr.add;split
  ·rename_i h0;rw[h0];rfl
  rfl
 rw[xBA,Nat.sub_mul,←k.cs_drop,←h2,←List.drop_drop,List.drop_take]
end
def aPD(v:Value)(hv:v.cells= #[v])(n:Nat):madeCells v.cells n=(List.replicate n v).toArray:=by
 unfold madeCells;rw[hv]
 apply Array.ext
 ·simp
 intro i h1 h2;simp[Nat.mod_one]
def aBN{α:Type}(k:El α){x0:α}{v:Value}(h:k.enc x0=[v]):∀n,k.cs (List.replicate n x0)=List.replicate n v
 |0=>rfl
 |n+1=>by
  have:=aBN k h n;simp only[El.cs,List.replicate_succ,List.flatMap_cons,h]at this ⊢;rw[this];rfl
section
variable{E:Env}{fr:Fr}{K:Hl}{L L' M:List Asn}{dst:Option Tmp}{ty:TypeId}{pos:String}{aft:Array Edge}{g:Option (Nat×Bool)}{x y:Operand}{t t2 t' bytes:Nat}{α:Type}{k:El α}{v u:Value}{xs ys:List α}{n m j:Nat}
def aWE{x0:α}{kl kc:IntKind}{vl vc:Int}(hok:elOk E.P t k.e k.sz bytes=true)(hz:iK E.P k.e=some v)(hv:v.cells= #[v])(he:k.enc x0=[v])(hx:fr.ev x=some (.int kl vl))(hy:fr.ev y=some (.int kc vc))(h1:vl=n)(h2:vc=n)(hb:bytes*n≤281474976710656)(h63:n≤9223372036854775807):
  EfS E fr K L ⟨dst,.makeSlice t x y,ty,pos,aft,g⟩ (fun r K' L'=>∃b,r=.slice (some ⟨b,0,none⟩) n n∧K'=K∧L'=sl false k (.slice (some ⟨b,0,none⟩) n n) (List.replicate n x0)::L):=by
 subst h1 h2;intro a w f q;obtain⟨i,z,e1,e2,e3,e4,e5,e6⟩:=aDB hok;have hzz:z=v:=by
  unfold iK at hz;rw[e2]at hz
  simpa[e5]using hz
 subst hzz;have hs1:k.sz=1:=by have:=k.len x0;rw[he]at this;exact this.symm
 have hr:=run_make (P:=E.P) w t k.e i z e1 e2 e5 kl kc n n aH (Int.le_refl _) (by rw[e4,←Int.natCast_mul];omega) aH;simp only[Int.toNat_natCast]at hr;rw[aPD z hv,e3,hs1,Nat.mul_one]at hr;refine⟨.slice (some ⟨w.heap.size,0,none⟩) n n,_,K,_,.inl ?_,⟨_,Y,Y,Y⟩,xAB _,(q.alloc (bL (List.replicate n z) k.e)).imp fun h hh=>?_⟩
 ·simp only[execOp,f.ev hx,f.ev hy];exact fO hr
 obtain⟨aa,l,ha,hl,hd,he2⟩:=hh;refine⟨aa,l,?_,hl,hd,he2⟩
 refine .inr ⟨w.heap.size,n,[],(0,0),by simp,(fun h=>by cases h),by simp,by simp,.inl (xAA _),?_⟩
 rw[xAL,aBN k he];exact ha
end
section
variable{E:Env}{fr:Fr}{K:Hl}{L L1 L2:List Asn}{Q:Post}{ops:Array Oper}{rest:List Oper}{ty:TypeId}{pos:String}{aft:Array Edge}
def xA{o:Oper}{p:Prop}[Decidable p](h:Ev E fr K L o (.bool (decide p)))(hp:p):Ev E fr K L o (.bool true):=by rwa [xAM hp]at h
def uL{o:Oper}{p:Prop}[Decidable p](h:Ev E fr K L o (.bool (decide p)))(hp:¬p):Ev E fr K L o (.bool false):=by rwa [xAJ hp]at h
def kK{o:Oper}{u v:Value}(h:Ev E fr K L o u)(e:u=v):Ev E fr K L o v:=e▸h
end
section
variable{E:Env}{fr:Fr}{K:Hl}{L L':List Asn}{Q:Post}{dst:Option Tmp}{ty:TypeId}{pos:String}{aft:Array Edge}{g:Option (Nat×Bool)}{x y:Operand}{t:TypeId}{α:Type}{k:El α}{v u:Value}{xs ys:List α}{c0:Code}{x0:Exit}{m n:Nat}
def bI1{ops:Array Oper}{rest:List Oper}{z:Bool}(h:lB v→OL E ops rest fr K (sl z k v xs::L) Q):OL E ops rest fr K (sl z k v xs::L) Q:=fun a w f i=>h (bGA .here i) a w f i
end
section
variable{E:Env}{fr:Fr}{K:Hl}{L L':List Asn}{dst:Option Tmp}{ty:TypeId}{pos:String}{aft:Array Edge}{g:Option (Nat×Bool)}{x y:Operand}{t:TypeId}{α:Type}{k:El α}{v:Value}{xs:List α}
def aH8{zf:Bool}{j o:Nat}{x0 y0:α}{c:Value}(ht:fP E.P t=true)(hx:fr.ev x=some (nG v (j*k.sz+o)))(hy:fr.ev y=some c)(hx0:xs[j]?=some x0)(ho:o < k.sz)(he:(k.enc x0).set o c=k.enc y0)(h1:c.oneCell'=true)
  (hF:Fnd (sl zf k v xs) (sl zf k v (xs.set j y0)) L L'):EfS E fr K L ⟨dst,.store t x y,ty,pos,aft,g⟩ (fun _ K' L''=>K'=K∧L''=L'):=by
 intro a w f q;have hj:j < xs.length:=by
  rcases xAC j xs.length with h|h
  ·exact h
  simp[List.getElem?_eq_none h]at hx0
 obtain⟨M,m1,m2⟩:=hF.split;rcases(q.imp m1).slCases with ⟨rfl,rfl,_⟩|⟨b,cap,junk,fz,rfl,hz,hcap,hjk,hf,q0⟩
 ·simp at hj
 have hx':fr.ev x=some (ptr b (j*k.sz+o)):=by rw[hx];simp[nG,lI]
 have hle:j*k.sz+k.sz≤xs.length*k.sz:=by rw[←Nat.succ_mul];exact xAW _ hj
 have hle2:xs.length*k.sz≤cap*k.sz:=xAW _ hcap;obtain⟨u,w',K',L'',hr,⟨rfl,rfl⟩,le,q1⟩:=bX (K:=K) (dst:=dst) (ty:=ty) (pos:=pos) (aft:=aft) (g:=g) (l:=k.cs xs++junk) (u:=k.e) (fz:=fz) ht hx' hy h1 (.here (L:=M)) (zH (by rw[xAF,k.cs_length];omega)) (hf.at aH) a w f q0;refine⟨u,w',_,_,hr,⟨Y,Y⟩,le,q1.imp fun h hh=>m2 h ?_⟩
 obtain⟨aa,l,ha,hl,hd,he'⟩:=hh;refine⟨aa,l,?_,hl,hd,he'⟩
 rw[cs_set k ho he hx0]at ha;refine .inr ⟨b,cap,junk,fz,by rw[xBC],?_,by rw[xBC];exact hcap,by rw[xBC];exact hjk,hf,ha⟩
 intro h1 h2;exact hz h1 gEI
end
end Go.SL
end

/-
  What the proof stands on, part 5: the logic of walks, the walks through the functions, the plain laws. Conditions: as each theorem says. (Merged and shortened by a program.)
-/
import Derived.Stop.Asserts
import Derived.RowKitTokens
import Derived.LaidEql
import Derived.KernelRfl
import Derived.Test.YthopmddkpdehiaaGreatDoorRows
import Derived.Lib.LaidTab
import Derived.LaidMore
import Derived.LaidHandle
import Derived.HandedShaped
import Derived.Shelf.Vars
import Derived.Stop.LaidErr
import Derived.OpenShut
import Derived.Below
import Derived.Test.YthopmddkpdehiaaGreatDoorK1
import Derived.Test.YthopmddkpdehiaaGreatDoorK2
import Derived.Test.YthopmddkpdehiaaGreatDoorK3
import Derived.Test.YthopmddkpdehiaaGreatDoorK4
set_option linter.unusedVariables false
set_option linter.unusedSimpArgs false
section
namespace Go.Syn
open Go.Cmp
def sOk(n:Nat):Tree→Prop
 | .const _=>True
 | .not_ t=>sOk n t
 | .many _ l=>sOk n l
 | .mat _ _ _ a b=>(∀x∈a,x.length≤n)∧(∀x∈b,x.length≤n)∧a.length≤2*n+1∧b.length≤2*n+1
 | .exi a=>(∀x∈a,x.length≤n)∧a.length≤2*n+1
 | .siz _ _=>True
 | .tnil=>True
 | .tcons t l=>sOk n t∧sOk n l
 | .plain _=>True
 | .act _ a _=>a.length≤n
 | .set_ a v _=>a.length≤n∧v.length≤n
 | .iff bs=>sOk n bs
 | .cnil=>True
 | .ccons c l=>sOk n c∧sOk n l
 | .bnil=>True
 | .bcons t b l=>sOk n t∧sOk n b∧sOk n l
 | .belse b l=>sOk n b∧sOk n l
def Fit(s:aM)(k:Nat)(st:St)(r:Tree×St):Prop:=wf r.1 k=true∧sOk s.length r.1∧cnt r.1+mu s r.2≤mu s st
def FitA(s:aM)(k:Nat)(T:St→Res (Tree×St)):Prop:=∀st r,Ok s st→T st=.ok r→Fit s k st r
def FitN(s:aM)(k:Nat)(T:St→Res (Tree×St)):Prop:=∀st r,Ok s st→st.2.kind≠0→T st=.ok r→Fit s k st r
variable{s:aM}
theorem aHP{st:St}{k:Nat}{texts:List aM}{r:Word×St}(hok:Ok s st)(h:take s st k texts=.ok r):r.1.s.length≤s.length:=by
 unfold take at h;split at h
 ·cases h
 ·split at h
  ·cases h
  ·cases h;exact hok.2
theorem vM{st:St}{ff:aM→Int}{r:aM×St}(hok:Ok s st)(h:text s st ff=.ok r):r.1.length≤s.length:=by
 unfold text at h;split at h
 ·cases h
 ·split at h
  ·cases h
  ·rename_i q hq;cases h;exact aHP hok hq
theorem aMT{ff:aM→Int}:∀ {f:Nat} {st:St} {acc:List aM} {r:List aM×St},Ok s st→(∀x∈acc,x.length≤s.length)→oO s ff f st acc=.ok r→∀x∈r.1,x.length≤s.length:=by
 intro f;induction f with
 |zero=>intro st acc r _ _ h;cases h
 |succ f ih=>
  intro st acc r hok ha h;simp only[oO]at h;split at h
  ·cases h
  ·rename_i q hq;have h1:=sF hok hq;split at h
   ·split at h
    ·cases h
    ·rename_i x hx;have h2:=m4 h1.1 hx;refine ih h2.1 ?_ h
     intro y hy;rcases List.mem_append.1 hy with hy|hy
     ·exact ha y hy
     ·simp at hy;subst hy;exact vM h1.1 hx
   ·split at h
    ·cases h
    ·cases h;exact ha
theorem zT{ff:aM→Int}{st:St}{r:List aM×St}(hok:Ok s st)(h:list s st ff=.ok r):∀x∈r.1,x.length≤s.length:=by
 unfold list at h;split at h
 ·cases h
 ·rename_i q hq;have h1:=sF hok hq;split at h
  ·cases h
  ·rename_i x hx;have h2:=m4 h1.1 hx;have h3:=vM h1.1 hx;split at h
   ·exact aMT h2.1 (by intro y hy;simp at hy;subst hy;exact h3) h
   ·cases h;intro y hy;simp at hy;subst hy;exact h3
theorem tT{needs:List aM}{op:Int}{ext:aM}:FitN s 0 (kO s needs op ext):=by
 intro st r hok hk e;unfold kO at e;split at e
 ·cases e
 split at e
 ·cases e
 rename_i q hq;have h1:=dS hok hk hq;unfold n5 at e;split at e
 ·cases e
 rename_i h hh;have h2:=aCS h1.1 hh;split at e
 ·cases e
 rename_i a ha;have h3:=mN h2.1 ha;have h3l:=rB h2.1 ha;split at e
 ·cases e
 rename_i b hb;have h4:=mN h3.1 hb;have h4l:=rB h3.1 hb;cases e
 have hm:=tA s st;exact⟨rfl,⟨zT h2.1 ha,zT h3.1 hb,by omega,by omega⟩,by simp only[cnt];omega⟩
theorem rK{c:Tree}(hc:wf c 2=true∧sOk s.length c∧cnt c=1):FitN s 2 (lN s c):=by
 intro st r hok hk e;unfold lN at e;split at e
 ·cases e
 rename_i q hq;have h1:=dS hok hk hq;split at e
 ·cases e
 rename_i x hx;have h2:=fX h1.1 hx;cases e
 exact⟨hc.1,hc.2.1,by simp only[hc.2.2];omega⟩
theorem yR{needs:List aM}{k:Int}{ext:aM}{p:Int}:FitN s 2 (actC s needs k ext p):=by
 intro st r hok hk e;unfold actC at e;split at e
 ·cases e
 split at e
 ·cases e
 rename_i q hq;have h1:=dS hok hk hq;split at e
 ·cases e
 rename_i x hx;have h2:=pJ h1.1 (by decide) hx;split at e
 ·cases e
 rename_i y hy;have h3:=fX h2.1 hy;cases e
 exact⟨rfl,aHP h1.1 hx,by simp only[cnt];omega⟩
theorem y6{b:Bool}:FitN s 0 (m8 s b):=by
 intro st r hok hk e;unfold m8 at e;split at e
 ·cases e
 rename_i q hq;have h1:=dS hok hk hq;cases e
 exact⟨rfl,trivial,by simp only[cnt];omega⟩
theorem aF5:FitN s 0 (nF s):=by
 intro st r hok hk e;unfold nF at e;split at e
 ·cases e
 rename_i q hq;have h1:=dS hok hk hq;split at e
 ·cases e
 rename_i a ha;have h3:=mN h1.1 ha;have h3l:=rB h1.1 ha;cases e
 have hm:=tA s st;exact⟨rfl,⟨zT h1.1 ha,by omega⟩,by simp only[cnt];omega⟩
theorem aN1:FitN s 0 (qP s):=by
 intro st r hok hk e;unfold qP at e;split at e
 ·cases e
 rename_i q hq;have h1:=dS hok hk hq;split at e
 ·cases e
 rename_i x hx;have h2:=pJ h1.1 (by decide) hx;split at e
 ·cases e
 rename_i y hy;have h3:=pJ h2.1 (by decide) hy;cases e
 exact⟨rfl,trivial,by simp only[cnt];omega⟩
theorem aQY{T:St→Res (Tree×St)}(hT:FitA s 0 T):FitN s 0 (notC s T):=by
 intro st r hok hk e;unfold notC at e;split at e
 ·cases e
 rename_i q hq;have h1:=dS hok hk hq;split at e
 ·cases e
 rename_i t ht;have h2:=hT _ _ h1.1 ht;cases e
 exact⟨by simp[wf,h2.1],h2.2.1,by have:=h2.2.2;simp only[cnt];omega⟩
theorem aR1{n:Nat}{t:Tree}(h1:wf t 0=true)(h2:sOk n t):∀ {l:Tree},wf l 1=true→sOk n l→wf (l.snocT t) 1=true∧sOk n (l.snocT t)∧cnt (l.snocT t)=cnt l+cnt t:=by
 intro l;induction l with
 |tnil=>intro _ _;exact⟨by simp[Tree.snocT,wf,h1],⟨h2,trivial⟩,by simp[Tree.snocT,cnt]⟩
 |tcons x l ih1 ih2=>
  intro hw hs;simp[wf]at hw;obtain⟨a,b,c⟩:=ih2 hw.2 hs.2;exact⟨by simp[Tree.snocT,wf,hw.1,a],⟨hs.1,b⟩,by simp only[Tree.snocT,cnt,c];omega⟩
 |_=>intro hw;simp[wf]at hw
theorem aR0{n:Nat}{t:Tree}(h1:wf t 2=true)(h2:sOk n t):∀ {l:Tree},wf l 3=true→sOk n l→wf (l.snocC t) 3=true∧sOk n (l.snocC t)∧cnt (l.snocC t)=cnt l+cnt t:=by
 intro l;induction l with
 |cnil=>intro _ _;exact⟨by simp[Tree.snocC,wf,h1],⟨h2,trivial⟩,by simp[Tree.snocC,cnt]⟩
 |ccons x l ih1 ih2=>
  intro hw hs;simp[wf]at hw;obtain⟨a,b,c⟩:=ih2 hw.2 hs.2;exact⟨by simp[Tree.snocC,wf,hw.1,a],⟨hs.1,b⟩,by simp only[Tree.snocC,cnt,c];omega⟩
 |_=>intro hw;simp[wf]at hw
def cntO:Option Tree→Nat
 |none=>0
 |some t=>cnt t
theorem aHI{n:Nat}{o:Option Tree}{b:Tree}(h0:∀t,o=some t→wf t 0=true∧sOk n t)(h1:wf b 3=true)(h2:sOk n b):∀ {l:Tree},wf l 4=true→sOk n l→wf (l.snocB o b) 4=true∧sOk n (l.snocB o b)∧cnt (l.snocB o b)=cnt l+cntO o+cnt b+1:=by
 intro l;induction l with
 |bnil=>
  intro _ _;cases o with
  |none=>exact⟨by simp[Tree.snocB,mkB,wf,h1],⟨h2,trivial⟩,by simp[Tree.snocB,mkB,cnt,cntO]⟩
  |some t=>
   obtain⟨a,b2⟩:=h0 t rfl;exact⟨by simp[Tree.snocB,mkB,wf,h1,a],⟨b2,h2,trivial⟩,by simp[Tree.snocB,mkB,cnt,cntO]⟩
 |bcons x y l ih1 ih2 ih3=>
  intro hw hs;simp[wf]at hw;obtain⟨a,b,c⟩:=ih3 hw.2.2 hs.2.2;exact⟨by simp[Tree.snocB,wf,hw.1,hw.2.1,a],⟨hs.1,hs.2.1,b⟩,by simp only[Tree.snocB,cnt,c];omega⟩
 |belse y l ih1 ih2=>
  intro hw hs;simp[wf]at hw;obtain⟨a,b,c⟩:=ih2 hw.2 hs.2;exact⟨by simp[Tree.snocB,wf,hw.1,a],⟨hs.1,b⟩,by simp only[Tree.snocB,cnt,c];omega⟩
 |_=>intro hw;simp[wf]at hw
theorem aMY{T:St→Res (Tree×St)}(hTa:Adv s T)(hT:FitA s 0 T):∀ {f:Nat} {acc:Tree} {st:St} {r:Tree×St},Ok s st→wf acc 1=true→sOk s.length acc→qN s T f acc st=.ok r→wf r.1 1=true∧sOk s.length r.1∧cnt r.1+mu s r.2≤cnt acc+mu s st:=by
 intro f;induction f with
 |zero=>intro acc st r _ _ _ e;cases e
 |succ f ih=>
  intro acc st r hok hw hs e;simp only[qN]at e;split at e
  ·cases e
  rename_i q hq;have h1:=sF hok hq;split at e
  ·split at e
   ·cases e
   rename_i t ht;have h2:=hT _ _ h1.1 ht;obtain⟨a,b,c⟩:=aR1 h2.1 h2.2.1 hw hs;have h3:=ih (hTa _ _ h1.1 ht).1 a b e;have h4:=h2.2.2;exact⟨h3.1,h3.2.1,by omega⟩
  ·split at e
   ·cases e
   rename_i y hy;have h2:=fX h1.1 hy;cases e
   exact⟨hw,hs,by simp only[];omega⟩
theorem aB8{T:St→Res (Tree×St)}{all:Bool}(hTa:Adv s T)(hT:FitA s 0 T):FitN s 0 (oP s T all):=by
 intro st r hok hk e;unfold oP at e;split at e
 ·cases e
 rename_i q hq;have h1:=dS hok hk hq;split at e
 ·cases e
 rename_i x hx;have h2:=fX h1.1 hx;split at e
 ·cases e
 rename_i t ht;have h3:=hT _ _ h2.1 ht;unfold vC at e;split at e
 ·cases e
 rename_i l hl;have h4:=aMY (acc:=.tcons t.1 .tnil) hTa hT (hTa _ _ h2.1 ht).1 (by simp[wf,h3.1]) ⟨h3.2.1,trivial⟩ hl;cases e
 have:=h3.2.2;have:=h4.2.2;refine⟨by simp[wf,h4.1],h4.2.1,?_⟩
 simp only[cnt]at*;omega
theorem aOA{needs:List aM}{T:St→Res (Tree×St)}(hTa:Adv s T)(hT:FitA s 0 T){st:St}{r:Tree×St}(hok:Ok s st)(hk:st.2.kind≠0)(e:tE s needs T st=some (.ok r)):Fit s 0 st r:=by
 unfold tE at e;simp only[]at e;split at e
 ·exact y6 _ _ hok hk (by simpa using e)
 split at e
 ·exact y6 _ _ hok hk (by simpa using e)
 split at e
 ·exact aQY hT _ _ hok hk (by simpa using e)
 split at e
 ·exact aB8 hTa hT _ _ hok hk (by simpa using e)
 split at e
 ·exact aB8 hTa hT _ _ hok hk (by simpa using e)
 split at e
 ·exact tT _ _ hok hk (by simpa using e)
 split at e
 ·exact tT _ _ hok hk (by simpa using e)
 split at e
 ·exact tT _ _ hok hk (by simpa using e)
 split at e
 ·exact aF5 _ _ hok hk (by simpa using e)
 split at e
 ·exact aN1 _ _ hok hk (by simpa using e)
 ·cases e
theorem aSA{needs:List aM}:∀n,FitA s 0 (test s needs n):=by
 intro n;induction n with
 |zero=>intro st r hok e;simp only[test]at e;split at e <;> cases e
 |succ n ih=>
  intro st r hok e;simp only[test]at e;split at e
  ·rename_i hk;split at e
   ·rename_i x hx;subst e;exact aOA (m0 n) ih hok aI hx
   ·cases e
  ·cases e
theorem vU{B:St→Res (Tree×St)}(hBa:AdvE s B)(hB:FitA s 3 B){st:St}{r:Tree×St}(hok:Ok s st)(e:bodyC s B st=.ok r):wf r.1 3=true∧sOk s.length r.1∧cnt r.1+1+mu s r.2≤mu s st:=by
 unfold bodyC at e;split at e
 ·cases e
 rename_i q hq;have h1:=fX hok hq;split at e
 ·cases e
 rename_i b hb;have h2:=hB _ _ h1.1 hb;have h2a:=hBa _ _ h1.1 hb;split at e
 ·cases e
 rename_i y hy;have h3:=fX h2a.1 hy;cases e
 have:=h2.2.2;exact⟨h2.1,h2.2.1,by simp only[];omega⟩
theorem aMB{B:St→Res (Tree×St)}(hBa:AdvE s B)(hB:FitA s 3 B){acc:Tree}{st:St}{r:Tree×St}(hok:Ok s st)(hw:wf acc 4=true)(hs:sOk s.length acc)(e:jA s B acc st=.ok r):wf r.1 2=true∧sOk s.length r.1∧cnt r.1+mu s r.2≤cnt acc+1+mu s st:=by
 unfold jA at e;split at e
 ·rename_i hk;split at e
  ·cases e
  rename_i q hq;have h1:=dS hok aI hq;split at e
  ·cases e
  rename_i b hb;have h2:=vU hBa hB h1.1 hb;cases e
  obtain⟨a,b,c⟩:=aHI (o:=none) (fun t h=>by cases h) h2.1 h2.2.1 hw hs;exact⟨by simp[wf,a],b,by simp only[cnt,c,cntO];omega⟩
 ·cases e;exact⟨by simp[wf,hw],hs,by simp only[cnt];omega⟩
theorem aIK{T B:St→Res (Tree×St)}(hTa:Adv s T)(hBa:AdvE s B)(hT:FitA s 0 T)(hB:FitA s 3 B):∀ {f:Nat} {acc:Tree} {st:St} {r:Tree×St},Ok s st→wf acc 4=true→sOk s.length acc→fK s T B f acc st=.ok r→wf r.1 2=true∧sOk s.length r.1∧cnt r.1+mu s r.2≤cnt acc+1+mu s st:=by
 intro f;induction f with
 |zero=>intro acc st r _ _ _ e;cases e
 |succ f ih=>
  intro acc st r hok hw hs e;simp only[fK]at e;split at e
  ·rename_i hk;split at e
   ·cases e
   rename_i q hq;have h1:=dS hok aI hq;split at e
   ·cases e
   rename_i t ht;have h2:=hT _ _ h1.1 ht;have h2a:=hTa _ _ h1.1 ht;split at e
   ·cases e
   rename_i b hb;have h3:=vU hBa hB h2a.1 hb;have h3a:=kS hBa _ _ h2a.1 hb;obtain⟨a,b',c⟩:=aHI (o:=some t.1) (fun x h=>by cases h;exact⟨h2.1,h2.2.1⟩) h3.1 h3.2.1 hw hs;have h4:=ih h3a.1 a b' e;have:=h2.2.2;simp only[cntO]at c;exact⟨h4.1,h4.2.1,by omega⟩
  ·exact aMB hBa hB hok hw hs e
theorem aTW{T B:St→Res (Tree×St)}(hTa:Adv s T)(hBa:AdvE s B)(hT:FitA s 0 T)(hB:FitA s 3 B):FitN s 2 (ifC s T B):=by
 intro st r hok hk e;unfold ifC at e;split at e
 ·cases e
 rename_i q hq;have h1:=dS hok hk hq;split at e
 ·cases e
 rename_i t ht;have h2:=hT _ _ h1.1 ht;have h2a:=hTa _ _ h1.1 ht;split at e
 ·cases e
 rename_i b hb;have h3:=vU hBa hB h2a.1 hb;have h3a:=kS hBa _ _ h2a.1 hb;have h4:=aIK (acc:=.bcons t.1 b.1 .bnil) hTa hBa hT hB h3a.1 (by simp[wf,h2.1,h3.1]) ⟨h2.2.1,h3.2.1,trivial⟩ e;have:=h2.2.2;simp only[cnt]at h4;exact⟨h4.1,h4.2.1,by omega⟩
theorem aNW{needs:List aM}:FitN s 2 (aAN s needs):=by
 intro st r hok hk e;unfold aAN at e;split at e
 ·cases e
 rename_i q hq;have h1:=aHE _ _ hok hk hq;cases e
 refine⟨rfl,?_,by simp only[cnt];omega⟩
 unfold setC at hq;split at hq
 ·split at hq
  ·cases hq
  rename_i r1 hr1;have g1:=dS hok hk hr1;split at hq
  ·cases hq
  rename_i t ht;have h2:Ok s t.2:=by
   unfold kB at ht;split at ht
   ·split at ht
    ·cases ht
    split at ht
    ·cases ht
    rename_i x hx;cases ht
    exact(dS g1.1 aI hx).1
   ·cases ht;exact g1.1
  unfold nJ at hq;split at hq
  ·cases hq
  rename_i n hn;have h3:=m4 h2 hn;split at hq
  ·cases hq
  rename_i v hv;split at hq
  ·cases hq
  cases hq
  exact⟨by rw[t7];exact vM h2 hn,vM h3.1 hv⟩
 ·cases hq
theorem aPF{needs:List aM}{T B:St→Res (Tree×St)}(hTa:Adv s T)(hBa:AdvE s B)(hT:FitA s 0 T)(hB:FitA s 3 B){st:St}{r:Tree×St}(hok:Ok s st)(hk:st.2.kind≠0)(e:cmdD s needs T B st=some (.ok r)):Fit s 2 st r:=by
 unfold cmdD at e;simp only[]at e;split at e
 ·exact rK (c:=.act 1 [] st.2.at_) ⟨rfl,Nat.zero_le _,rfl⟩ _ _ hok hk (by simpa using e)
 split at e
 ·exact rK (c:=.plain 13) ⟨rfl,trivial,rfl⟩ _ _ hok hk (by simpa using e)
 split at e
 ·exact rK (c:=.plain 14) ⟨rfl,trivial,rfl⟩ _ _ hok hk (by simpa using e)
 split at e
 ·exact yR _ _ hok hk (by simpa using e)
 split at e
 ·exact yR _ _ hok hk (by simpa using e)
 split at e
 ·exact yR _ _ hok hk (by simpa using e)
 split at e
 ·exact aNW _ _ hok hk (by simpa using e)
 split at e
 ·exact aTW hTa hBa hT hB _ _ hok hk (by simpa using e)
 ·cases e
theorem aIA{C:St→Option (Res (Tree×St))}(hCa:∀ {st r},Ok s st→st.2.kind≠0→C st=some (.ok r)→Ok s r.2∧mu s r.2 < mu s st)(hC:∀ {st r},Ok s st→st.2.kind≠0→C st=some (.ok r)→Fit s 2 st r):
  ∀ {f:Nat} {acc:Tree} {st:St} {r:Tree×St},Ok s st→wf acc 3=true→sOk s.length acc→kM s C f acc st=.ok r→wf r.1 3=true∧sOk s.length r.1∧cnt r.1+mu s r.2≤cnt acc+mu s st:=by
 intro f;induction f with
 |zero=>intro acc st r _ _ _ e;cases e
 |succ f ih=>
  intro acc st r hok hw hs e;simp only[kM]at e;split at e
  ·rename_i hk;split at e
   ·cases e
   ·cases e
   rename_i c hc;have h1:=hCa hok aI hc;have h2:=hC hok aI hc;obtain⟨a,b,d⟩:=aR0 h2.1 h2.2.1 hw hs;have h3:=ih h1.1 a b e;have:=h2.2.2;exact⟨h3.1,h3.2.1,by omega⟩
  ·cases e;exact⟨hw,hs,Nat.le_refl _⟩
theorem aLW{needs:List aM}:∀n,FitA s 3 (block s needs n):=by
 intro n;induction n with
 |zero=>intro st r hok e;simp only[block]at e;split at e <;> cases e;exact⟨rfl,trivial,by simp[cnt]⟩
 |succ n ih=>
  intro st r hok e;simp only[block]at e;have:=aIA (acc:=.cnil) (fun h1 h2 h3=>y4 (m0 n) (sD n) h1 h2 h3) (fun h1 h2 h3=>aPF (m0 n) (sD n) (aSA n) ih h1 h2 h3) hok rfl trivial e;simp only[cnt]at this;exact⟨this.1,this.2.1,by omega⟩
theorem aRK:∀ {f:Nat} {ns:List aM} {st:St} {r:List aM×St},Ok s st→reqF s f ns st=.ok r→Ok s r.2∧mu s r.2≤mu s st:=by
 intro f;induction f with
 |zero=>intro ns st r _ e;cases e
 |succ f ih=>
  intro ns st r hok e;simp only[reqF]at e;split at e
  ·rename_i hk;split at e
   ·cases e
   rename_i q hq;have h1:=dS hok aI hq;split at e
   ·cases e
   rename_i l hl;have h2:=mN h1.1 hl;split at e
   ·cases e
   rename_i y hy;have h3:=fX h2.1 hy;have:=ih h3.1 e;exact⟨this.1,by omega⟩
  ·cases e;exact⟨hok,Nat.le_refl _⟩
theorem aCG{r:List aM×Tree}(h:gR s=.ok r):wf r.2 3=true∧sOk s.length r.2∧cnt r.2≤2*s.length+1:=by
 unfold gR at h;split at h
 ·cases h
 rename_i q hq;have h1:=eB (Nat.zero_le _) hq;unfold hZ at h;split at h
 ·cases h
 rename_i n hn;have h2:=aRK h1 hn;split at h
 ·cases h
 rename_i b hb;have h3:=aLW 7 _ _ h2.1 hb;split at h
 ·cases h
  have:=tA s n.2;have:=h3.2.2;exact⟨h3.1,h3.2.1,by simp only[];omega⟩
 ·cases h
end Go.Syn
end
section
namespace Go.Cmp
open Go.Syn Go.Mach
def IFit(n:Nat)(o:Ins):Prop:=(∀x∈o.a,x.length≤n)∧(∀x∈o.b,x.length≤n)∧o.a.length≤2*n+1∧o.b.length≤2*n+1
def AFit(n:Nat)(ops:List Ins):Prop:=∀o∈ops,IFit n o
theorem AFit.setN{n:Nat}{k:Nat}{m:Int}:∀ {ops:List Ins},AFit n ops→AFit n (setN ops k m):=by
 intro ops h o ho;unfold Cmp.setN at ho;obtain⟨i,hi⟩:=List.getElem?_of_mem ho;rw[List.getElem?_modify]at hi;cases hx:ops[i]? with
 |none=>rw[hx]at hi;cases hi
 |some x=>
  rw[hx]at hi;have hxo:=h x (List.mem_of_getElem? hx);simp only[Option.map_eq_map,Option.map_some,Option.some.injEq]at hi
  by_cases hki:k=i
  ·rw[if_pos hki]at hi;subst hi;exact hxo
  ·rw[if_neg hki]at hi;subst hi;exact hxo
theorem AFit.fold{n:Nat}{m:Int}:∀(ps:List Nat) {ops:List Ins},AFit n ops→AFit n (ps.foldl (fun o k=>Cmp.setN o k (m - 1 - k)) ops)
 | [],_,h=>h
 |p::ps,_,h=>AFit.fold ps h.setN
theorem AFit.land{n:Nat}{ops:List Ins}{ps:List Nat}(h:AFit n ops):AFit n (land ops ps):=AFit.fold ps h
theorem AFit.app{n:Nat}{a b:List Ins}(h:AFit n a)(k:AFit n b):AFit n (a++b):=fun o ho=>(List.mem_append.1 ho).elim (h o) (k o)
theorem AFit.jmp{n:Nat}{ops:List Ins}{op:Int}(h:AFit n ops):AFit n (ops++[Cmp.jmp op]):=h.app fun o ho=>by
 rw[List.mem_singleton]at ho;subst ho;exact⟨by simp[Cmp.jmp],by simp[Cmp.jmp],by simp[Cmp.jmp],by simp[Cmp.jmp]⟩
theorem AFit.two{n:Nat}{ops:List Ins}{o:Ins}{op:Int}(h:AFit n ops)(k:IFit n o):AFit n (ops++[o,Cmp.jmp op]):=by
 have:=(h.app (b:=[o]) (fun x hx=>by rw[List.mem_singleton]at hx;subst hx;exact k)).jmp (op:=op)
 simpa using this
theorem aU2(n:Nat):∀(t:Tree),sOk n t→(∀tn ops,AFit n ops→AFit n (unl t tn ops).1)∧(∀all tn ops away here,AFit n ops→AFit n (unlL all tn t ops away here).1):=by
 intro t;induction t with
 |not_ t ih=>exact fun h=>⟨fun tn ops ho=>by rw[unl];exact(ih h).1 _ _ ho,fun all tn ops away here ho=>by simpa[unlL]using ho⟩
 |const b=>exact fun h=>⟨fun tn ops ho=>by rw[unl];split;exact ho.jmp;exact ho,fun all tn ops away here ho=>by simpa[unlL]using ho⟩
 |many all l ih=>exact fun h=>⟨fun tn ops ho=>by rw[unl];exact((ih h).2 _ _ _ _ _ ho).land,fun all tn ops away here ho=>by simpa[unlL]using ho⟩
 |mat tag oct op a b=>exact fun h=>⟨fun tn ops ho=>by rw[unl];exact ho.two h,fun all tn ops away here ho=>by simpa[unlL]using ho⟩
 |exi a=>exact fun h=>⟨fun tn ops ho=>by rw[unl];exact ho.two ⟨h.1,by simp,h.2,by simp⟩,fun all tn ops away here ho=>by simpa[unlL]using ho⟩
 |siz tag m=>exact fun h=>⟨fun tn ops ho=>by rw[unl];exact ho.two ⟨by simp,by simp,by simp,by simp⟩,fun all tn ops away here ho=>by simpa[unlL]using ho⟩
 |tcons t l ih1 ih2=>
  refine fun h=>⟨fun tn ops ho=>by simpa[unl]using ho,fun all tn ops away here ho=>?_⟩
  rw[unlL];split
  ·exact(ih2 h.2).2 _ _ _ _ _ ((ih1 h.1).1 _ _ ho)
  ·exact(ih2 h.2).2 _ _ _ _ _ ((ih1 h.1).1 _ _ ho)
 |_=>exact fun h=>⟨fun tn ops ho=>by simpa[unl]using ho,fun all tn ops away here ho=>by simpa[unlL]using ho⟩
theorem aPA(n:Nat):∀(t:Tree),sOk n t→(∀ops,AFit n ops→AFit n (body t ops))∧(∀ops,AFit n ops→AFit n (cmdI t ops))∧(∀ops out,AFit n ops→AFit n (dC t ops out)):=by
 intro t;induction t with
 |plain op=>exact fun h=>⟨fun ops ho=>by simpa[body]using ho,fun ops ho=>by rw[cmdI];exact ho.jmp,fun ops out ho=>by simpa[dC]using ho.land⟩
 |act k a p=>
  refine fun h=>⟨fun ops ho=>by simpa[body]using ho,fun ops ho=>?_,fun ops out ho=>by simpa[dC]using ho.land⟩
  rw[cmdI];refine ho.app fun o hx=>?_
  rw[List.mem_singleton]at hx;subst hx
  refine⟨fun x hx=>?_,by simp,?_,by simp⟩
  ·simp only at hx;split at hx
   ·cases hx
   ·rw[List.mem_singleton]at hx;subst hx;exact h
  ·simp only;split <;> simp
 |set_ a v t=>
  refine fun h=>⟨fun ops ho=>by simpa[body]using ho,fun ops ho=>?_,fun ops out ho=>by simpa[dC]using ho.land⟩
  rw[cmdI];refine ho.app fun o hx=>?_
  rw[List.mem_singleton]at hx;subst hx
  exact⟨fun x hx=>by rw[List.mem_singleton]at hx;subst hx;exact h.1,fun x hx=>by rw[List.mem_singleton]at hx;subst hx;exact h.2,by simp,by simp⟩
 |iff bs ih=>exact fun h=>⟨fun ops ho=>by simpa[body]using ho,fun ops ho=>by rw[cmdI];exact(ih h).2.2 _ _ ho,fun ops out ho=>by simpa[dC]using ho.land⟩
 |ccons c l ih1 ih2=>exact fun h=>⟨fun ops ho=>by rw[body];exact(ih2 h.2).1 _ ((ih1 h.1).2.1 _ ho),fun ops ho=>by simpa[cmdI]using ho,fun ops out ho=>by simpa[dC]using ho.land⟩
 |belse b l ih1 ih2=>exact fun h=>⟨fun ops ho=>by simpa[body]using ho,fun ops ho=>by simpa[cmdI]using ho,fun ops out ho=>by rw[dC];exact((ih1 h.1).1 _ ho).land⟩
 |bcons t b l ih1 ih2 ih3=>
  refine fun h=>⟨fun ops ho=>by simpa[body]using ho,fun ops ho=>by simpa[cmdI]using ho,fun ops out ho=>?_⟩
  have h1:=(ih2 h.2.1).1 _ ((aU2 n t h.1).1 false _ ho);rw[dC];split
  ·exact(ih3 h.2.2).2.2 _ _ h1.land
  ·exact(ih3 h.2.2).2.2 _ _ h1.jmp.land
 |_=>exact fun h=>⟨fun ops ho=>by simpa[body]using ho,fun ops ho=>by simpa[cmdI]using ho,fun ops out ho=>by simpa[dC]using ho.land⟩
theorem script_fit{n:Nat}{t:Tree}(h:sOk n t):AFit n (script t):=(aPA n t h).1 [] (fun o ho=>by cases ho)
theorem script_len(t:Tree):(script t).length≤2*cnt t:=by have:=((uK t).1 []).2;unfold script;simpa using this
end Go.Cmp
end
section
namespace Go.Syn
variable{s:aM}
theorem uI:∀(l ns:List aM),(iO ns l).length≤ns.length+l.length
 | [],ns=>by simp[iO]
 |e::l,ns=>by
  have h1:=uI l (addN ns e);have h2:=aO1 ns e;unfold iO at h1 ⊢;simp only[List.foldl_cons,List.length_cons]at h1 ⊢;omega
theorem aG4:∀(f:Nat) (ns:List aM) (st:St) (r:List aM×St),Ok s st→reqF s f ns st=.ok r→r.1.length≤ns.length+mu s st
 |0,ns,st,r,_,h=>by cases h
 |f+1,ns,st,r,hok,h=>by
  unfold reqF at h;split at h
  ·rename_i hk;split at h
   ·cases h
   rename_i q hq;have hk2:st.2.kind≠0:=by omega
   have h1:=fG hok.1 hk2 hq;have h1o:=eB hok.1 hq;split at h
   ·cases h
   rename_i l hl;have h2:=mN h1o hl;have h2l:=rB h1o hl;split at h
   ·cases h
   rename_i q2 hq2;have h3:=fX h2.1 hq2;have h4:=aG4 f _ _ _ h3.1 h;have h5:=uI l.1 ns;omega
  ·cases h;simp
theorem aGU{r:List aM×Tree}(h:gR s=.ok r):r.1.length≤2*s.length+1:=by
 unfold gR at h;split at h
 ·cases h
 rename_i q hq;have h1:=eB (Nat.zero_le _) hq;unfold hZ at h;split at h
 ·cases h
 rename_i n hn;have h2:=aG4 _ _ _ _ h1 hn;have h3:=tA s q;split at h
 ·cases h
 split at h
 ·cases h
  show n.1.length≤_
  have h2':n.1.length≤mu s q:=by simpa using h2
  omega
 ·cases h
end Go.Syn
end
section
namespace Go.SL
section
variable{E:Env}{fr:Fr}{K:Hl}{L L':List Asn}{Q:Post}{ops:Array Oper}{rest:List Oper}{dst:Option Tmp}{ty:TypeId}{pos:String}{aft:Array Edge}{g:Option (Nat×Bool)}{x y:Operand}{v u:Value}{t:TypeId}
theorem zQ{P:Program}{name:String}{os:List Operand}{vs:List Value}{ats:Array TypeId}{f:FuncId}{r:Value}{n:Nat}{ds:List Deferred}(hx:fr.ev x=some (.iface t u))(hos:fr.evs os=some vs)
  (hm:∀w,(method (P.types.size+Made.depth) t u name).run P w=.ok (f,r) w) {a:Act} (fo:FrOk n ds fr a) (w:World):
  (execOp a.eval ⟨dst,.call ⟨.invoke x name,os.toArray,ats⟩,ty,pos,aft,g⟩).run P w=(callFunc f (r::vs).toArray).run P w:=by
 have e1:Array.map a.eval os.toArray=vs.toArray:=by simp[fo.evs hos]
 have e2: #[Value.iface t u]++vs.toArray=(Value.iface t u::vs).toArray:=by simp
 simp only[execOp,resolve,e1,fo.ev hx,bind,pure,Sem.bind,invoke,e2];have e3:(Value.iface t u::vs).toArray[0]?=some (.iface t u):=by simp
 have e4:(Value.iface t u::vs).toArray.extract 1 (Value.iface t u::vs).toArray.size=vs.toArray:=by simp
 simp only[e3,e4]
 show (callMethod (.iface t u) name vs.toArray).run P w=_
 unfold callMethod;simp only[];have hp:(program).run P w=.ok P w:=rfl;rw[aT hp,aT (hm w)];simp
theorem eL{name:String}{os:List Operand}{vs:List Value}{ats:Array TypeId}{f:FuncId}{r:Value}{fn:Func}{ex:Array Value→Sem Value}(hx:fr.ev x=some (.iface t u))(hos:fr.evs os=some vs)
  (hm:∀w,(method (E.P.types.size+Made.depth) t u name).run E.P w=.ok (f,r) w)
  (h1:E.P.funcs[f]?=some fn) (h2:(fn.name=="runtime.NumGoroutine")=false) (h3:fn.body.isNone=true) (h4:Extern.findNext fn=none) (h5:Extern.find fn=some ex) (hr:∀w,In E.w0 E.F K L w→(ex (r::vs).toArray).run E.P w=.ok v w):
  Ev E fr K L ⟨dst,.call ⟨.invoke x name,os.toArray,ats⟩,ty,pos,aft,g⟩ v:=fun a w fo j=>by
 rw[zQ hx hos hm fo w,run_callFunc_extern h1 h2 h3 h4 h5,hr w j]
 rfl
theorem aAI{fv:Operand}{os:List Operand}{vs:List Value}{ats:Array TypeId}{f:FuncId}{fn:Func}{ex:Array Value→Sem Value}{N:Value→Hl→List Asn→Prop}(hf:fr.ev fv=some (.func (.func f) #[] #[]))(hos:fr.evs os=some vs)
  (h1:E.P.funcs[f]?=some fn) (h2:(fn.name=="runtime.NumGoroutine")=false) (h3:fn.body.isNone=true) (h4:Extern.findNext fn=none) (h5:Extern.find fn=some ex)
  (hr:∀w,In E.w0 E.F K L w→∃v w' K' L',(ex vs.toArray).run E.P w=.ok v w'∧N v K' L'∧K.le K'∧In E.w0 E.F K' L' w'):
  EfS E fr K L ⟨dst,.call ⟨.value fv,os.toArray,ats⟩,ty,pos,aft,g⟩ N:=fun a w fo j=>by
 obtain⟨v,w',K',L',h,hN,le,j'⟩:=hr w j;refine⟨v,w',K',L',.inl ?_,hN,le,j'⟩
 have e1:Array.map a.eval os.toArray=vs.toArray:=by simp[fo.evs hos]
 simp only[execOp,resolve,e1,fo.ev hf,Deferred.ofValue,bind,pure,Sem.bind,invoke,List.append_toArray];simp only[List.nil_append,List.append_nil];rw[run_callFunc_extern h1 h2 h3 h4 h5,h]
 rfl
theorem aFX{o:Oper}{f:FuncId}{vs:List Value}{L1 L2:List Asn}{R:Ending→Hl→List Asn→Prop}{N:Value→Hl→List Asn→Prop}
  (hrun:∀a w,FrOk E.n E.ds fr a→(execOp a.eval o).run E.P w=.ok (.enter f vs.toArray) w) (hL:Tks L1 L L2) (hs:Sp E.P f vs K L1 R)
  (hret:∀v K' L',R (.returned v) K' L'→N v K' (L'++L2)) (hpan:∀ch K' L',R (.panicked ch) K' L'→K.le K'→D E (.panic ch) fr K' (L'++L2) Q) (hout:∀K' L',R .outgrown K' L'→LetsOut Q):
  Ef E fr K L o Q N:=by
 intro a w k fo i hk;obtain⟨F',i1,back⟩:=(i.imp hL.sat).hide;refine .inl ?_;unfold Oper.wp;rw[hrun a w fo];refine(hs.2 F' w i1).mono fun e w' ⟨K',L',r,le,j⟩=>?_
 cases e with
 |returned v=>exact hk _ _ _ _ (hret _ _ _ r) le (back j)
 |panicked ch=>exact hpan _ _ _ r le _ _ fo (back j)
 |outgrown=>exact hout _ _ r
theorem aEC{P:Program}{name:String}{os:List Operand}{vs:List Value}{ats:Array TypeId}{f:FuncId}{r:Value}{n:Nat}{ds:List Deferred}(hx:fr.ev x=some (.iface t u))(hos:fr.evs os=some vs)
  (hm:∀w,(method (P.types.size+Made.depth) t u name).run P w=.ok (f,r) w) (hb:∃fn,P.funcs[f]?=some fn∧(fn.name=="runtime.NumGoroutine")=false∧fn.body.isSome=true) (a:Act) (w:World) (fo:FrOk n ds fr a):
  (execOp a.eval ⟨dst,.call ⟨.invoke x name,os.toArray,ats⟩,ty,pos,aft,g⟩).run P w=.ok (.enter f (r::vs).toArray) w:=by
 obtain⟨fn,h1,h2,h3⟩:=hb;rw[zQ hx hos hm fo w];exact wB h1 h2 h3 w
theorem l9{d:Nat}{name:String}{os:List Operand}{vs:List Value}{ats:Array TypeId}{f:FuncId}{r:Value}{L1 L2:List Asn}{N:Value→Hl→List Asn→Prop}(hx:fr.ev x=some (.iface t u))(hos:fr.evs os=some vs)
  (hm:∀w,(method (E.P.types.size+Made.depth) t u name).run E.P w=.ok (f,r) w) (hs:Sp E.P f (r::vs) K L1 (Ret N)) (hL:Tks L1 L L2) (hd:Nat.blt d E.n=true)
  (h:∀v K' L',N v K' L'→K.le K'→OL E ops rest ((d,v)::fr) K' (L'++L2) Q):OL E ops (⟨some d,.call ⟨.invoke x name,os.toArray,ats⟩,ty,pos,aft,none⟩::rest) fr K L Q:=
 aCE (aFX (N:=fun v K' L''=>∃L',L''=L'++L2∧N v K' L') (aEC hx hos hm hs.1) hL hs (fun v K' L' ⟨u,e,n⟩=>by cases e;exact⟨L',rfl,n⟩) (fun ch K' L' ⟨u,e,n⟩=>by cases e) (fun K' L' ⟨u,e,n⟩=>by cases e)) hd
  (fun v K' L'' ⟨L',e,n⟩ le=>by subst e;exact h v K' L' n le)
theorem aF2{xt at_:TypeId}{ok:Bool}(hx:fr.ev x=some u)(h:∀w,(Instr.typeAssert u xt at_ ok).run E.P w=.ok v w):Ev E fr K L ⟨dst,.typeAssert x xt at_ ok,ty,pos,aft,g⟩ v:=fun a w f j=>by
 simp only[execOp,f.ev hx];exact d9 (h w)
theorem wC{op:BinOp}{t':TypeId}{v1 v2:Value}(hx:fr.ev x=some v1)(hy:fr.ev y=some v2)(h0:∀w,(eqGuard op t x y v1 v2).run E.P w=.ok () w)(h:∀w,(binOp op t v1 v2).run E.P w=.ok v w):
  Ev E fr K L ⟨dst,.binOp op t x y t',ty,pos,aft,g⟩ v:=fF hx hy h0 h
end
end Go.SL
end
section
namespace Go.Proofs
open Go Go.SL Go.Extern
abbrev hd(t:Nat):Value:=.pointer (some ⟨7,t,none⟩)
theorem rlm(z:Sem Value)(f:TypeId→Addr→Nat→Nat→Sem Value)(v:Value):
  ReflectliteValue.method z f #[v]=(do match ←ReflectliteValue.parts v with|none=>z|some (t,a,fl)=>f t a fl (fl % 32)):=rfl
theorem rls (v x : Value) : ReflectliteValue.set #[v, x] = (do
  let (some (dst,a,fl),some (src,b,_)):=(←ReflectliteValue.parts v,←ReflectliteValue.parts x)
   |unsupported (.noEntry "extern/(internal/reflectlite.Value).Set.zeroValue")
  if fl / ReflectliteValue.flagAddr % 2==0 then unsupported (.noEntry "extern/(internal/reflectlite.Value).Set.unaddressable")
  let val ←loadVar src b
  if ←Rtype.directlyAssignable dst src then storeVar dst a val
  else if ←Rtype.implements dst src then
   if (←Rtype.kind src)==20 then
    match val with
    | .nilIface=>unsupported (.noEntry "extern/reflectlite: a nil value of one interface type handed on as a value of another")
    |_=>storeVar dst a val
   else storeVar dst a (.iface src val)
  else panicString ("reflectlite.Set: value of type "++(←Rtype.spelt src)++" is not assignable to type "++(←Rtype.spelt dst))
  pure (.tuple #[])):=rfl
theorem aA6(t:Nat)(w:World):(ReflectliteValue.unpack (.iface 120 (ptr t))).run Tryz.prog w=.ok (.agg #[hd 120,ptr w.heap.size,.int .u64 150]) (w.alloc (.cells #[ptr t] 120)):=by kernel_rfl
theorem aLK(a:Addr)(w:World):(ReflectliteValue.methodAny (ReflectliteValue.valueError "reflectlite.Value.Type" 0) (fun t _ _ _=>ReflectliteType.toType t) #[.agg #[hd 120,.pointer (some a),.int .u64 150]]).run Tryz.prog w=.ok (.iface 265 (.agg #[hd 120])) w:=by kernel_rfl
theorem aKT(w:World):((ReflectliteType.abiMethod fun t=>(fun a:Nat=>Value.int IntKind.u8 (a:Int))<$>Rtype.kind t) #[hd 120]).run Tryz.prog w=.ok (.int .u8 22) w:=by kernel_rfl
theorem aKS(w:World):((ReflectliteType.abiMethod fun t=>(fun a:Nat=>Value.int IntKind.u8 (a:Int))<$>Rtype.kind t) #[hd 118]).run Tryz.prog w=.ok (.int .u8 22) w:=by kernel_rfl
theorem aGW(a:Addr)(w:World):(ReflectliteValue.parts (.agg #[hd 120,.pointer (some a),.int .u64 150])).run Tryz.prog w=.ok (some (120,a,150)) w:=by kernel_rfl
theorem aGD(a p:Addr)(W:World)(ha:W.cell? a=some (.pointer (some p))):
  (ReflectliteValue.method (ReflectliteValue.valueError "reflectlite.Value.IsNil" 0) ReflectliteValue.isNil #[.agg #[hd 120,.pointer (some a),.int .u64 150]]).run Tryz.prog W=.ok (.bool false) W:=by
 rw[rlm];simp only[Sem.run_bind,aGW,Result.andThen];simp[ReflectliteValue.isNil,loadVar,isAgg,underlying,Tryz.underlying120,ha,Result.andThen]
theorem aKJ(w:World):(ReflectliteType.method ReflectliteType.elem #[.agg #[hd 120]]).run Tryz.prog w=.ok (.iface 265 (.agg #[hd 118])) w:=by kernel_rfl
theorem s8(w:World):(ReflectliteType.relation "Implements" ReflectliteType.implements_ #[.agg #[hd 118],.iface 265 (.agg #[hd 79])]).run Tryz.prog w=.ok (.bool true) w:=by kernel_rfl
theorem aOR(v:Value)(w:World):(ReflectliteType.typeOf #[.iface 118 v]).run Tryz.prog w=.ok (.iface 265 (.agg #[hd 118])) w:=by kernel_rfl
theorem aBE(w:World):(ReflectliteType.relation "AssignableTo" ReflectliteType.assignableTo #[.agg #[hd 118],.iface 265 (.agg #[hd 118])]).run Tryz.prog w=.ok (.bool true) w:=by kernel_rfl
theorem aJT(e:Nat)(w:World):(ReflectliteValue.unpack (.iface 118 (ptr e))).run Tryz.prog w=.ok (.agg #[hd 118,ptr w.heap.size,.int .u64 150]) (w.alloc (.cells #[(ptr e)] 118)):=by kernel_rfl
theorem aL8(w:World):(Rtype.elem? 120).run Tryz.prog w=.ok (some 118) w:=by kernel_rfl
theorem aYD(p:Addr)(w:World):(ReflectliteValue.mk 118 p ReflectliteValue.flagAddr).run Tryz.prog w=.ok (.agg #[hd 118,.pointer (some p),.int .u64 406]) w:=by kernel_rfl
theorem aP5(a p:Addr)(W:World)(ha:W.cell? a=some (.pointer (some p))):
  (ReflectliteValue.method (ReflectliteValue.valueError "reflectlite.Value.Elem" 0) ReflectliteValue.elem #[.agg #[hd 120,.pointer (some a),.int .u64 150]]).run Tryz.prog W=.ok (.agg #[hd 118,.pointer (some p),.int .u64 406]) W:=by
 rw[rlm];simp only[Sem.run_bind,aGW,Result.andThen];simp[ReflectliteValue.elem,loadVar,isAgg,underlying,Tryz.underlying120,ha,Result.andThen,aL8,aYD]
theorem aNB(a:Addr)(w:World):(ReflectliteValue.parts (.agg #[hd 118,.pointer (some a),.int .u64 406])).run Tryz.prog w=.ok (some (118,a,406)) w:=by kernel_rfl
theorem aQ7(a:Addr)(w:World):(ReflectliteValue.parts (.agg #[hd 118,.pointer (some a),.int .u64 150])).run Tryz.prog w=.ok (some (118,a,150)) w:=by kernel_rfl
theorem aL5(w:World):(Rtype.directlyAssignable 118 118).run Tryz.prog w=.ok true w:=by kernel_rfl
theorem aW9(ta b:Addr)(e:Nat)(old:Value)(W:World)(hb:W.cell? b=some (ptr e))(ht:W.cell? ta=some old)(hf:W.frozen? ta=false):
  (ReflectliteValue.set #[.agg #[hd 118,.pointer (some ta),.int .u64 406],.agg #[hd 118,.pointer (some b),.int .u64 150]]).run Tryz.prog W=.ok (.tuple #[]) (W.setCell ta (ptr e)):=by
 rw[rls];simp only[Sem.run_bind,aNB,aQ7,Result.andThen];simp[ReflectliteValue.flagAddr,loadVar,isAgg,underlying,Tryz.underlying118,hb,Result.andThen,aL5,storeVar,Value.cells,storeCells,Addr.add];rw[run_store Tryz.prog W ta _ _ (by rfl)];simp[ht,hf]
theorem aJU(t:Nat)(w:World):(ReflectliteValue.unpack (.iface 124 (ptr t))).run Tryz.prog w=.ok (.agg #[hd 124,ptr w.heap.size,.int .u64 150]) (w.alloc (.cells #[ptr t] 124)):=by kernel_rfl
theorem aUY(a:Addr)(w:World):(ReflectliteValue.methodAny (ReflectliteValue.valueError "reflectlite.Value.Type" 0) (fun t _ _ _=>ReflectliteType.toType t) #[.agg #[hd 124,.pointer (some a),.int .u64 150]]).run Tryz.prog w=.ok (.iface 265 (.agg #[hd 124])) w:=by kernel_rfl
theorem aTZ(w:World):((ReflectliteType.abiMethod fun t=>(fun a:Nat=>Value.int IntKind.u8 (a:Int))<$>Rtype.kind t) #[hd 124]).run Tryz.prog w=.ok (.int .u8 22) w:=by kernel_rfl
theorem aWV(w:World):((ReflectliteType.abiMethod fun t=>(fun a:Nat=>Value.int IntKind.u8 (a:Int))<$>Rtype.kind t) #[hd 30]).run Tryz.prog w=.ok (.int .u8 2) w:=by kernel_rfl
theorem aGX(a:Addr)(w:World):(ReflectliteValue.parts (.agg #[hd 124,.pointer (some a),.int .u64 150])).run Tryz.prog w=.ok (some (124,a,150)) w:=by kernel_rfl
theorem aQL(a p:Addr)(W:World)(ha:W.cell? a=some (.pointer (some p))):
  (ReflectliteValue.method (ReflectliteValue.valueError "reflectlite.Value.IsNil" 0) ReflectliteValue.isNil #[.agg #[hd 124,.pointer (some a),.int .u64 150]]).run Tryz.prog W=.ok (.bool false) W:=by
 rw[rlm];simp only[Sem.run_bind,aGX,Result.andThen];simp[ReflectliteValue.isNil,loadVar,isAgg,underlying,Tryz.underlying124,ha,Result.andThen]
theorem aTJ(w:World):(ReflectliteType.method ReflectliteType.elem #[.agg #[hd 124]]).run Tryz.prog w=.ok (.iface 265 (.agg #[hd 30])) w:=by kernel_rfl
theorem aD9(w:World):(ReflectliteType.relation "Implements" ReflectliteType.implements_ #[.agg #[hd 30],.iface 265 (.agg #[hd 79])]).run Tryz.prog w=.ok (.bool true) w:=by kernel_rfl
theorem vR(v:Value)(w:World):(ReflectliteType.typeOf #[.iface 30 v]).run Tryz.prog w=.ok (.iface 265 (.agg #[hd 30])) w:=by kernel_rfl
theorem aDK(w:World):(ReflectliteType.relation "AssignableTo" ReflectliteType.assignableTo #[.agg #[hd 30],.iface 265 (.agg #[hd 30])]).run Tryz.prog w=.ok (.bool true) w:=by kernel_rfl
theorem aOX(e:Int)(w:World):(ReflectliteValue.unpack (.iface 30 (i64 e))).run Tryz.prog w=.ok (.agg #[hd 30,ptr w.heap.size,.int .u64 130]) (w.alloc (.cells #[(i64 e)] 30)):=by kernel_rfl
theorem aL9(w:World):(Rtype.elem? 124).run Tryz.prog w=.ok (some 30) w:=by kernel_rfl
theorem mk30(p:Addr)(w:World):(ReflectliteValue.mk 30 p ReflectliteValue.flagAddr).run Tryz.prog w=.ok (.agg #[hd 30,.pointer (some p),.int .u64 386]) w:=by kernel_rfl
theorem aP6(a p:Addr)(W:World)(ha:W.cell? a=some (.pointer (some p))):
  (ReflectliteValue.method (ReflectliteValue.valueError "reflectlite.Value.Elem" 0) ReflectliteValue.elem #[.agg #[hd 124,.pointer (some a),.int .u64 150]]).run Tryz.prog W=.ok (.agg #[hd 30,.pointer (some p),.int .u64 386]) W:=by
 rw[rlm];simp only[Sem.run_bind,aGX,Result.andThen];simp[ReflectliteValue.elem,loadVar,isAgg,underlying,Tryz.underlying124,ha,Result.andThen,aL9,mk30]
theorem aQ8(a:Addr)(w:World):(ReflectliteValue.parts (.agg #[hd 30,.pointer (some a),.int .u64 386])).run Tryz.prog w=.ok (some (30,a,386)) w:=by kernel_rfl
theorem aT5(a:Addr)(w:World):(ReflectliteValue.parts (.agg #[hd 30,.pointer (some a),.int .u64 130])).run Tryz.prog w=.ok (some (30,a,130)) w:=by kernel_rfl
theorem aPU(w:World):(Rtype.directlyAssignable 30 30).run Tryz.prog w=.ok true w:=by kernel_rfl
theorem aYQ(ta b:Addr)(e:Int)(old:Value)(W:World)(hb:W.cell? b=some (i64 e))(ht:W.cell? ta=some old)(hf:W.frozen? ta=false):
  (ReflectliteValue.set #[.agg #[hd 30,.pointer (some ta),.int .u64 386],.agg #[hd 30,.pointer (some b),.int .u64 130]]).run Tryz.prog W=.ok (.tuple #[]) (W.setCell ta (i64 e)):=by
 rw[rls];simp only[Sem.run_bind,aQ8,aT5,Result.andThen];simp[ReflectliteValue.flagAddr,loadVar,isAgg,underlying,Tryz.underlying30,hb,Result.andThen,aPU,storeVar,Value.cells,storeCells,Addr.add];rw[run_store Tryz.prog W ta _ _ (by rfl)];simp[ht,hf]
theorem l8(h:Value)(w:World):(Go.method (Tryz.prog.types.size+Made.depth) 265 (.agg #[h]) "Kind").run Tryz.prog w=.ok (396,h) w:=by kernel_rfl
theorem tV(h:Value)(w:World):(Go.method (Tryz.prog.types.size+Made.depth) 265 (.agg #[h]) "Elem").run Tryz.prog w=.ok (416,.agg #[h]) w:=by kernel_rfl
theorem l7(h:Value)(w:World):(Go.method (Tryz.prog.types.size+Made.depth) 265 (.agg #[h]) "Implements").run Tryz.prog w=.ok (417,.agg #[h]) w:=by kernel_rfl
theorem kP(h:Value)(w:World):(Go.method (Tryz.prog.types.size+Made.depth) 265 (.agg #[h]) "AssignableTo").run Tryz.prog w=.ok (414,.agg #[h]) w:=by kernel_rfl
theorem pE(h:Value)(w:World):(Go.method (Tryz.prog.types.size+Made.depth) 265 (.agg #[h]) "Comparable").run Tryz.prog w=.ok (415,.agg #[h]) w:=by kernel_rfl
theorem aEI(fb:Nat)(w:World):(Go.method (Tryz.prog.types.size+Made.depth) 118 (ptr fb) "Unwrap").run Tryz.prog w=.ok (407,ptr fb) w:=by kernel_rfl
theorem vS(w:World):(ReflectliteType.relation "AssignableTo" ReflectliteType.assignableTo #[.agg #[hd 30],.iface 265 (.agg #[hd 118])]).run Tryz.prog w=.ok (.bool false) w:=by kernel_rfl
theorem uP(w:World):(ReflectliteType.method (fun t=>do Rtype.noPackHeld "Comparable" t;pure (.bool (←typeInfo t).comparable)) #[.agg #[hd 30]]).run Tryz.prog w=.ok (.bool true) w:=by kernel_rfl
theorem aW1(v:Value)(w:World):(Instr.typeAssert (.iface 30 v) 79 269 true).run Tryz.prog w=.ok (.tuple #[.nilIface,.bool false]) w:=run_typeAssert_lacksB Tryz.underlying269 bR bR v 79 w
theorem aI6(v:Value)(w:World):(Instr.typeAssert (.iface 30 v) 79 272 true).run Tryz.prog w=.ok (.tuple #[.nilIface,.bool false]) w:=run_typeAssert_lacksB Tryz.underlying272 bR bR v 79 w
theorem aGO(v:Value)(w:World):(Instr.typeAssert (.iface 30 v) 79 273 true).run Tryz.prog w=.ok (.tuple #[.nilIface,.bool false]) w:=run_typeAssert_lacksB Tryz.underlying273 bR bR v 79 w
theorem aD7(v:Value)(w:World):(Instr.typeAssert (.iface 118 v) 79 272 true).run Tryz.prog w=.ok (.tuple #[.iface 118 v,.bool true]) w:=run_typeAssert_hasB Tryz.underlying272 bR v 79 w
theorem aT3(v:Value)(w:World):(Instr.typeAssert (.iface 118 v) 79 276 true).run Tryz.prog w=.ok (.tuple #[.nilIface,.bool false]) w:=run_typeAssert_lacksB Tryz.underlying276 bR bR v 79 w
theorem aP8(fb:Nat)(e:Int)(w:World):(binOp .eql 79 (.iface 118 (ptr fb)) (.iface 30 (i64 e))).run Tryz.prog w=.ok (.bool false) w:=by kernel_rfl
theorem eq30(e:Int)(w:World):(binOp .eql 79 (.iface 30 (i64 e)) (.iface 30 (i64 e))).run Tryz.prog w=.ok (.bool true) w:=by
 have h:(binOp .eql 79 (.iface 30 (i64 e)) (.iface 30 (i64 e))).run Tryz.prog w=.ok (.bool (decide (e=e))) w:=by kernel_rfl
 rw[h];simp
end Go.Proofs
end
section
namespace Go.Proofs
open Go Go.SL Go.Extern
theorem pS:(Tryz.f93.name=="runtime.NumGoroutine")=false:=by kernel_rfl
theorem pT:Tryz.f93.body.isNone=true:=by kernel_rfl
theorem pU:Go.Extern.findNext Tryz.f93=none:=by kernel_rfl
theorem pV:Go.Extern.find Tryz.f93=some (fun args=>ReflectliteValue.unpack (args.getD 0 (.tuple #[]))):=by kernel_rfl
theorem aJ1:(Tryz.f94.name=="runtime.NumGoroutine")=false:=by kernel_rfl
theorem aJ2:Tryz.f94.body.isNone=true:=by kernel_rfl
theorem aJ3:Go.Extern.findNext Tryz.f94=none:=by kernel_rfl
theorem aJ4:Go.Extern.find Tryz.f94=some (ReflectliteValue.methodAny (ReflectliteValue.valueError "reflectlite.Value.Type" 0) (fun t _ _ _=>ReflectliteType.toType t)):=by kernel_rfl
theorem aFH:(Tryz.f95.name=="runtime.NumGoroutine")=false:=by kernel_rfl
theorem aFI:Tryz.f95.body.isNone=true:=by kernel_rfl
theorem aFJ:Go.Extern.findNext Tryz.f95=none:=by kernel_rfl
theorem aFK:Go.Extern.find Tryz.f95=some (ReflectliteValue.method (ReflectliteValue.valueError "reflectlite.Value.IsNil" 0) ReflectliteValue.isNil):=by kernel_rfl
theorem r7:(Tryz.f97.name=="runtime.NumGoroutine")=false:=by kernel_rfl
theorem r8:Tryz.f97.body.isNone=true:=by kernel_rfl
theorem r9:Go.Extern.findNext Tryz.f97=none:=by kernel_rfl
theorem sA:Go.Extern.find Tryz.f97=some ReflectliteType.typeOf:=by kernel_rfl
theorem aLM:(Tryz.f156.name=="runtime.NumGoroutine")=false:=by kernel_rfl
theorem aLN:Tryz.f156.body.isNone=true:=by kernel_rfl
theorem aLO:Go.Extern.findNext Tryz.f156=none:=by kernel_rfl
theorem aLP:Go.Extern.find Tryz.f156=some (ReflectliteValue.method (ReflectliteValue.valueError "reflectlite.Value.Elem" 0) ReflectliteValue.elem):=by kernel_rfl
theorem aV3:(Tryz.f157.name=="runtime.NumGoroutine")=false:=by kernel_rfl
theorem aV4:Tryz.f157.body.isNone=true:=by kernel_rfl
theorem aV5:Go.Extern.findNext Tryz.f157=none:=by kernel_rfl
theorem aV6:Go.Extern.find Tryz.f157=some ReflectliteValue.set:=by kernel_rfl
theorem w4:(Tryz.f396.name=="runtime.NumGoroutine")=false:=by kernel_rfl
theorem w5:Tryz.f396.body.isNone=true:=by kernel_rfl
theorem w6:Go.Extern.findNext Tryz.f396=none:=by kernel_rfl
theorem w7:Go.Extern.find Tryz.f396=some (ReflectliteType.abiMethod fun t=>do pure (.int .u8 (←Rtype.kind t))):=by kernel_rfl
theorem aA9:(Tryz.f414.name=="runtime.NumGoroutine")=false:=by kernel_rfl
theorem aBA:Tryz.f414.body.isNone=true:=by kernel_rfl
theorem aBB:Go.Extern.findNext Tryz.f414=none:=by kernel_rfl
theorem aBC:Go.Extern.find Tryz.f414=some (ReflectliteType.relation "AssignableTo" ReflectliteType.assignableTo):=by kernel_rfl
theorem aS1:(Tryz.f415.name=="runtime.NumGoroutine")=false:=by kernel_rfl
theorem aS2:Tryz.f415.body.isNone=true:=by kernel_rfl
theorem aS3:Go.Extern.findNext Tryz.f415=none:=by kernel_rfl
theorem aS4:Go.Extern.find Tryz.f415=some (ReflectliteType.method fun t=>do Rtype.noPackHeld "Comparable" t;pure (.bool (←typeInfo t).comparable)):=by kernel_rfl
theorem aFD:(Tryz.f416.name=="runtime.NumGoroutine")=false:=by kernel_rfl
theorem aFE:Tryz.f416.body.isNone=true:=by kernel_rfl
theorem aFF:Go.Extern.findNext Tryz.f416=none:=by kernel_rfl
theorem aFG:Go.Extern.find Tryz.f416=some (ReflectliteType.method ReflectliteType.elem):=by kernel_rfl
theorem aJX:(Tryz.f417.name=="runtime.NumGoroutine")=false:=by kernel_rfl
theorem aJY:Tryz.f417.body.isNone=true:=by kernel_rfl
theorem aJZ:Go.Extern.findNext Tryz.f417=none:=by kernel_rfl
theorem aJ0:Go.Extern.find Tryz.f417=some (ReflectliteType.relation "Implements" ReflectliteType.implements_):=by kernel_rfl
def ErrT(K:Hl):Prop:=∃T fz,K 0=some (aU [.iface 265 (.agg #[hd 79])] T fz)
theorem ErrT.mono{K K':Hl}(h:ErrT K)(le:K.le K'):ErrT K':=let ⟨T,fz,h⟩:=h;⟨T,fz,le _ _ h⟩
theorem nW{w0 w:World}{F K:Hl}{L:List Asn}{b:Nat}{v:Value}{T:TypeId}(i:In w0 F K L w)(h:Hs (pt b (aU [v] T)) L):w.cell? ⟨b,0,none⟩=some v∧w.frozen? ⟨b,0,none⟩=false:=by
 have:=(Sees.own (K:=K) h).at i;exact⟨mM this rfl,by simp[World.frozen?,this]⟩
theorem zM{w0 w:World}{F K:Hl}{L L':List Asn}{b:Nat}{v v':Value}{T:TypeId}(i:In w0 F K L w)(hT:Fnd (pt b (aU [v] T)) (pt b (aU [v'] T)) L L'):In w0 F K L' (w.setCell ⟨b,0,none⟩ v'):=by
 have hb:=i.mem hT;have hlt:b < w.heap.size:=(Array.getElem?_eq_some_iff.1 hb).1;have e:w.setCell ⟨b,0,none⟩ v'={w with heap:=(w.setCell ⟨b,0,none⟩ v').heap}:=by
  unfold World.setCell;rfl
 rw[e];refine i.writeAt hT (by simp[World.setCell]) ?_ ?_
 ·show (w.heap.modify b _)[b]?=_
  rw[Array.getElem?_modify,if_pos rfl,hb];rfl
 ·intro x hx;exact RowKit.Below.heap_setCell w ⟨b,0,none⟩ v' x hx
theorem aO3(e:Nat)(t bv:Nat)(old:Value)(K:Hl):Sp Tryz.prog 96 [.iface 118 (ptr e),.iface 120 (ptr t),.agg #[hd 120,ptr bv,.int .u64 150],.iface 265 (.agg #[hd 118])] K [pt bv (aU [ptr t] 120),pt t (aU [old] 118)] (Ret fun r K' L'=>r=.bool true∧K'=K∧L'=[pt t (aU [(ptr e)] 118)]):=by
 refine aZ Tryz.func96 rfl Tryz.ntmps96 rfl rfl fun F w=>?_
 refine aH (aB ?_);refine uBk ?_;rintro _ K _ ⟨b6,rfl,rfl,rfl⟩ -;refine uAb ?_;refine aG (aE ?_);refine bE ?_;refine eR (fun(u:Unit)=>True) (fun _=>[(0,.iface 118 (ptr e)),(1,.iface 120 (ptr t)),(3,.iface 265 (.agg #[hd 118])),(6,ptr b6)]) (fun _=>K) (fun _=>[pt b6 (aU [hd 120,ptr bv,.int .u64 150] 188),pt bv (aU [ptr t] 120),pt t (aU [old] 118)]) (fun _=>0) () trivial (.cons 0 rfl (.cons 1 rfl (.cons 3 rfl (.cons 6 rfl .nil)))) rfl (fun _ h=>h) ?_;intro _ _;refine bE (aH ?_);refine aH (aB ?_);refine uAa ?_;refine aA (lG rfl rfl Tryz.func97 r7 r8 r9 sA (fun w _=>aOR _ w)) rfl ?_;refine uAa ?_;refine aA (eL rfl rfl (kP _) Tryz.func414 aA9 aBA aBB aBC (fun w _=>aBE w)) rfl ?_;refine aG (aE ?_);refine uGe ?_;refine aH (aB ?_);refine uEo ?_;refine aA (lG rfl rfl Tryz.func156 aLM aLN aLO aLP (fun w j=>aP5 _ _ w (nW j (.there .here)).1)) rfl ?_;refine uAa ?_;refine ol_s (aAI (N:=fun v K' L'=>∃bn,v=.agg #[hd 118,ptr bn,.int .u64 150]∧K'=K∧L'=[pt bn (aU [(ptr e)] 118),pt b6 (aU [hd 120,ptr bv,.int .u64 150] 188),pt bv (aU [ptr t] 120),pt t (aU [old] 118)]) rfl rfl Tryz.func93 pS pT pU pV (fun w j=>⟨_,_,K,_,aJT e w,⟨_,rfl,rfl,rfl⟩,Hl.le_refl _,j.alloc _⟩)) rfl ?_;rintro _ K _ ⟨bn,rfl,rfl,rfl⟩ -;refine ol_s (aAI (N:=fun v K' L'=>v=.tuple #[]∧K'=K∧L'=[pt bn (aU [(ptr e)] 118),pt b6 (aU [hd 120,ptr bv,.int .u64 150] 188),pt bv (aU [ptr t] 120),pt t (aU [(ptr e)] 118)]) rfl rfl Tryz.func157 aV3 aV4 aV5 aV6 (fun w j=>⟨_,_,K,_,aW9 ⟨t,0,none⟩ ⟨bn,0,none⟩ e old w (nW j .here).1 (nW j (.there (.there (.there .here)))).1 (nW j (.there (.there (.there .here)))).2,⟨rfl,rfl,rfl⟩,Hl.le_refl _,zM j (.there (.there (.there .here)))⟩)) rfl ?_;rintro _ K _ ⟨rfl,rfl,rfl⟩ -;refine aG (aE ?_);refine aH (aB ?_);refine uAb ?_;refine aG (aE ?_);refine uCk ?_;refine uGj ?_;refine aO (.cons (.there (.there (.there .here))) .nil) ?_;refine bF rfl rfl (Hl.le_refl _) ?_;exact⟨_,rfl,rfl,rfl,rfl⟩
theorem aS9(e:Int)(t bv:Nat)(old:Value)(K:Hl):Sp Tryz.prog 96 [.iface 30 (i64 e),.iface 124 (ptr t),.agg #[hd 124,ptr bv,.int .u64 150],.iface 265 (.agg #[hd 30])] K [pt bv (aU [ptr t] 124),pt t (aU [old] 30)] (Ret fun r K' L'=>r=.bool true∧K'=K∧L'=[pt t (aU [(i64 e)] 30)]):=by
 refine aZ Tryz.func96 rfl Tryz.ntmps96 rfl rfl fun F w=>?_
 refine aH (aB ?_);refine uBk ?_;rintro _ K _ ⟨b6,rfl,rfl,rfl⟩ -;refine uAb ?_;refine aG (aE ?_);refine bE ?_;refine eR (fun(u:Unit)=>True) (fun _=>[(0,.iface 30 (i64 e)),(1,.iface 124 (ptr t)),(3,.iface 265 (.agg #[hd 30])),(6,ptr b6)]) (fun _=>K) (fun _=>[pt b6 (aU [hd 124,ptr bv,.int .u64 150] 188),pt bv (aU [ptr t] 124),pt t (aU [old] 30)]) (fun _=>0) () trivial (.cons 0 rfl (.cons 1 rfl (.cons 3 rfl (.cons 6 rfl .nil)))) rfl (fun _ h=>h) ?_;intro _ _;refine bE (aH ?_);refine aH (aB ?_);refine uAa ?_;refine aA (lG rfl rfl Tryz.func97 r7 r8 r9 sA (fun w _=>vR _ w)) rfl ?_;refine uAa ?_;refine aA (eL rfl rfl (kP _) Tryz.func414 aA9 aBA aBB aBC (fun w _=>aDK w)) rfl ?_;refine aG (aE ?_);refine uGe ?_;refine aH (aB ?_);refine uEo ?_;refine aA (lG rfl rfl Tryz.func156 aLM aLN aLO aLP (fun w j=>aP6 _ _ w (nW j (.there .here)).1)) rfl ?_;refine uAa ?_;refine ol_s (aAI (N:=fun v K' L'=>∃bn,v=.agg #[hd 30,ptr bn,.int .u64 130]∧K'=K∧L'=[pt bn (aU [(i64 e)] 30),pt b6 (aU [hd 124,ptr bv,.int .u64 150] 188),pt bv (aU [ptr t] 124),pt t (aU [old] 30)]) rfl rfl Tryz.func93 pS pT pU pV (fun w j=>⟨_,_,K,_,aOX e w,⟨_,rfl,rfl,rfl⟩,Hl.le_refl _,j.alloc _⟩)) rfl ?_;rintro _ K _ ⟨bn,rfl,rfl,rfl⟩ -;refine ol_s (aAI (N:=fun v K' L'=>v=.tuple #[]∧K'=K∧L'=[pt bn (aU [(i64 e)] 30),pt b6 (aU [hd 124,ptr bv,.int .u64 150] 188),pt bv (aU [ptr t] 124),pt t (aU [(i64 e)] 30)]) rfl rfl Tryz.func157 aV3 aV4 aV5 aV6 (fun w j=>⟨_,_,K,_,aYQ ⟨t,0,none⟩ ⟨bn,0,none⟩ e old w (nW j .here).1 (nW j (.there (.there (.there .here)))).1 (nW j (.there (.there (.there .here)))).2,⟨rfl,rfl,rfl⟩,Hl.le_refl _,zM j (.there (.there (.there .here)))⟩)) rfl ?_;rintro _ K _ ⟨rfl,rfl,rfl⟩ -;refine aG (aE ?_);refine aH (aB ?_);refine uAb ?_;refine aG (aE ?_);refine uCk ?_;refine uGj ?_;refine aO (.cons (.there (.there (.there .here))) .nil) ?_;refine bF rfl rfl (Hl.le_refl _) ?_;exact⟨_,rfl,rfl,rfl,rfl⟩
theorem aWD(e:Int)(t bv:Nat)(old:Value)(K:Hl):Sp Tryz.prog 96 [.iface 30 (i64 e),.iface 120 (ptr t),.agg #[hd 120,ptr bv,.int .u64 150],.iface 265 (.agg #[hd 118])] K [pt bv (aU [ptr t] 120),pt t (aU [old] 118)] (Ret fun r K' L'=>r=.bool false∧K'=K∧L'=[pt t (aU [old] 118)]):=by
 refine aZ Tryz.func96 rfl Tryz.ntmps96 rfl rfl fun F w=>?_
 refine aH (aB ?_);refine uBk ?_;rintro _ K _ ⟨b6,rfl,rfl,rfl⟩ -;refine uAb ?_;refine aG (aE ?_);refine bE ?_;refine eR (fun(u:Unit)=>True) (fun _=>[(0,.iface 30 (i64 e)),(1,.iface 120 (ptr t)),(3,.iface 265 (.agg #[hd 118])),(6,ptr b6)]) (fun _=>K) (fun _=>[pt b6 (aU [hd 120,ptr bv,.int .u64 150] 188),pt bv (aU [ptr t] 120),pt t (aU [old] 118)]) (fun _=>0) () trivial (.cons 0 rfl (.cons 1 rfl (.cons 3 rfl (.cons 6 rfl .nil)))) rfl (fun _ h=>h) ?_;intro _ _;refine bE (aH ?_);refine aH (aB ?_);refine uAa ?_;refine aA (lG rfl rfl Tryz.func97 r7 r8 r9 sA (fun w _=>vR _ w)) rfl ?_;refine uAa ?_;refine aA (eL rfl rfl (kP _) Tryz.func414 aA9 aBA aBB aBC (fun w _=>vS w)) rfl ?_;refine aG (aE ?_);refine uBf ?_;refine aE (aH ?_);refine aH (aB ?_);refine uAa ?_;refine aA (aF2 rfl (aW1 _)) rfl ?_;refine uBy ?_;refine aG (aE ?_);refine aH (aB ?_);refine uAx ?_;refine uFa ?_;refine aG (aE ?_);refine uBf ?_;refine aE (aH ?_);refine uAf ?_;refine aG (aE ?_);refine bE (aH ?_);refine aB ?_;refine aA (aF2 rfl (aI6 _)) rfl ?_;refine uAh ?_;refine aG (aE ?_);refine uHq ?_;refine aH (aB ?_);refine aA (aF2 rfl (aGO _)) rfl ?_;refine uAh ?_;refine aG (aE ?_);refine uHq ?_;refine aH (aB ?_);refine uAb ?_;refine aG (aE ?_);refine aH (aB ?_);refine uAb ?_;refine aG (aE ?_);refine bI ?_;refine bS ?_;refine uGj ?_;refine aO (.cons (.there (.there .here)) .nil) ?_;refine bF rfl rfl (Hl.le_refl _) ?_;exact⟨_,rfl,rfl,rfl,rfl⟩
theorem aXY(e:Nat)(t:Nat)(old:Value)(K:Hl)(hE:ErrT K):Sp Tryz.prog 55 [.iface 118 (ptr e),.iface 120 (ptr t)] K [pt t (aU [old] 118)] (Ret fun r K' L'=>r=.bool true∧K'=K∧L'=[pt t (aU [ptr e] 118)]):=by
 obtain⟨ET,Efz,hE⟩:=hE;refine aZ Tryz.func55 rfl Tryz.ntmps55 rfl rfl fun F w=>?_
 refine aH (aB ?_);refine uAb ?_;refine aG (aE ?_);refine aH (aH ?_);refine uAf ?_;refine uEe ?_;refine aG (aE ?_);refine uBf ?_;refine aE (aH ?_);refine aH (aB ?_);refine uAa ?_;refine aA (e8 Tryz.underlying20 rfl rfl) rfl ?_;refine aG (aE ?_);refine uBf ?_;refine aE (aH ?_);refine uAf ?_;refine ol_s (aAI (N:=fun v K' L'=>∃bv,v=.agg #[hd 120,ptr bv,.int .u64 150]∧K'=K∧L'=[pt bv (aU [ptr t] 120),pt t (aU [old] 118)]) rfl rfl Tryz.func93 pS pT pU pV (fun w j=>⟨_,_,K,_,aA6 t w,⟨_,rfl,rfl,rfl⟩,Hl.le_refl _,j.alloc _⟩)) rfl ?_;rintro _ K _ ⟨bv,rfl,rfl,rfl⟩ -;refine ol_s (cN aSS) rfl ?_;rintro _ K _ ⟨b5,rfl,rfl,rfl⟩ -;refine bP (cJ jO rfl rfl rfl aX (by first|(simp[Value.oneCell'];done)|exact fun c hc=>El.one _ _ c hc) (.cons (.cons (.cons .nil))) (by intro j hj;simp)) ?_;rintro _ K _ ⟨rfl,rfl⟩ -;refine aG (aE ?_);refine aH (aB ?_);refine uEo ?_;refine aA (lG rfl rfl Tryz.func94 aJ1 aJ2 aJ3 aJ4 (fun w _=>aLK _ w)) rfl ?_;refine uAb ?_;refine aG (aE ?_);refine aH (aH ?_);refine uAf ?_;refine aA (eL rfl rfl (l8 _) Tryz.func396 w4 w5 w6 w7 (fun w _=>aKT w)) rfl ?_;refine uDu ?_;refine uGq ?_;refine uEo ?_;refine uAz ?_;refine aA (lG rfl rfl Tryz.func95 aFH aFI aFJ aFK (fun w j=>aGD _ ⟨t,0,none⟩ w (nW j (.there .here)).1)) rfl ?_;refine uAt ?_;refine aG (aE ?_);refine uBf ?_;refine aE (aH ?_);refine uAf ?_;refine aA (eL rfl rfl (tV _) Tryz.func416 aFD aFE aFF aFG (fun w _=>aKJ w)) rfl ?_;refine uAb ?_;refine aG (aE ?_);refine aH (aH ?_);refine uAf ?_;refine aA (eL rfl rfl (l8 _) Tryz.func396 w4 w5 w6 w7 (fun w _=>aKS w)) rfl ?_;refine uDu ?_;refine uDg ?_;refine aA (aJ aSL rfl (.known hE) rfl) rfl ?_;refine uAz ?_;refine aA (eL rfl rfl (l7 _) Tryz.func417 aJX aJY aJZ aJ0 (fun w _=>s8 w)) rfl ?_;refine uAz ?_;refine aA (by first|exact dP rfl|exact dO rfl) rfl ?_;refine uAy ?_;refine aG (aE ?_);refine uBf ?_;refine aE (aH ?_);refine uCf ?_;refine uEo ?_;refine uAa ?_;refine bC rfl rfl (aO3 e t bv old _) (.cons (.there .here) (.cons (.there .here) .nil)) rfl ?_;rintro _ K _ ⟨rfl,rfl,rfl⟩ -;refine uAb ?_;refine aG (aE ?_);refine uDi ?_;refine bF rfl rfl (Hl.le_refl _) ?_;exact⟨_,rfl,rfl,rfl,rfl⟩
theorem as30(e:Int)(t:Nat)(old:Value)(K:Hl)(hE:ErrT K):Sp Tryz.prog 55 [.iface 30 (i64 e),.iface 124 (ptr t)] K [pt t (aU [old] 30)] (Ret fun r K' L'=>r=.bool true∧K'=K∧L'=[pt t (aU [i64 e] 30)]):=by
 obtain⟨ET,Efz,hE⟩:=hE;refine aZ Tryz.func55 rfl Tryz.ntmps55 rfl rfl fun F w=>?_
 refine aH (aB ?_);refine uAb ?_;refine aG (aE ?_);refine aH (aH ?_);refine uAf ?_;refine uEe ?_;refine aG (aE ?_);refine uBf ?_;refine aE (aH ?_);refine aH (aB ?_);refine uAa ?_;refine aA (e8 Tryz.underlying20 rfl rfl) rfl ?_;refine aG (aE ?_);refine uBf ?_;refine aE (aH ?_);refine uAf ?_;refine ol_s (aAI (N:=fun v K' L'=>∃bv,v=.agg #[hd 124,ptr bv,.int .u64 150]∧K'=K∧L'=[pt bv (aU [ptr t] 124),pt t (aU [old] 30)]) rfl rfl Tryz.func93 pS pT pU pV (fun w j=>⟨_,_,K,_,aJU t w,⟨_,rfl,rfl,rfl⟩,Hl.le_refl _,j.alloc _⟩)) rfl ?_;rintro _ K _ ⟨bv,rfl,rfl,rfl⟩ -;refine ol_s (cN aSS) rfl ?_;rintro _ K _ ⟨b5,rfl,rfl,rfl⟩ -;refine bP (cJ jO rfl rfl rfl aX (by first|(simp[Value.oneCell'];done)|exact fun c hc=>El.one _ _ c hc) (.cons (.cons (.cons .nil))) (by intro j hj;simp)) ?_;rintro _ K _ ⟨rfl,rfl⟩ -;refine aG (aE ?_);refine aH (aB ?_);refine uEo ?_;refine aA (lG rfl rfl Tryz.func94 aJ1 aJ2 aJ3 aJ4 (fun w _=>aUY _ w)) rfl ?_;refine uAb ?_;refine aG (aE ?_);refine aH (aH ?_);refine uAf ?_;refine aA (eL rfl rfl (l8 _) Tryz.func396 w4 w5 w6 w7 (fun w _=>aTZ w)) rfl ?_;refine uDu ?_;refine uGq ?_;refine uEo ?_;refine uAz ?_;refine aA (lG rfl rfl Tryz.func95 aFH aFI aFJ aFK (fun w j=>aQL _ ⟨t,0,none⟩ w (nW j (.there .here)).1)) rfl ?_;refine uAt ?_;refine aG (aE ?_);refine uBf ?_;refine aE (aH ?_);refine uAf ?_;refine aA (eL rfl rfl (tV _) Tryz.func416 aFD aFE aFF aFG (fun w _=>aTJ w)) rfl ?_;refine uAb ?_;refine aG (aE ?_);refine aH (aH ?_);refine uAf ?_;refine aA (eL rfl rfl (l8 _) Tryz.func396 w4 w5 w6 w7 (fun w _=>aWV w)) rfl ?_;refine uDu ?_;refine uDg ?_;refine aA (aJ aSL rfl (.known hE) rfl) rfl ?_;refine uAz ?_;refine aA (eL rfl rfl (l7 _) Tryz.func417 aJX aJY aJZ aJ0 (fun w _=>aD9 w)) rfl ?_;refine uAz ?_;refine aA (by first|exact dP rfl|exact dO rfl) rfl ?_;refine uAy ?_;refine aG (aE ?_);refine uBf ?_;refine aE (aH ?_);refine uCf ?_;refine uEo ?_;refine uAa ?_;refine bC rfl rfl (aS9 e t bv old _) (.cons (.there .here) (.cons (.there .here) .nil)) rfl ?_;rintro _ K _ ⟨rfl,rfl,rfl⟩ -;refine uAb ?_;refine aG (aE ?_);refine uDi ?_;refine bF rfl rfl (Hl.le_refl _) ?_;exact⟨_,rfl,rfl,rfl,rfl⟩
theorem aWC(e:Int)(t:Nat)(old:Value)(K:Hl)(hE:ErrT K):Sp Tryz.prog 55 [.iface 30 (i64 e),.iface 120 (ptr t)] K [pt t (aU [old] 118)] (Ret fun r K' L'=>r=.bool false∧K'=K∧L'=[pt t (aU [old] 118)]):=by
 obtain⟨ET,Efz,hE⟩:=hE;refine aZ Tryz.func55 rfl Tryz.ntmps55 rfl rfl fun F w=>?_
 refine aH (aB ?_);refine uAb ?_;refine aG (aE ?_);refine aH (aH ?_);refine uAf ?_;refine uEe ?_;refine aG (aE ?_);refine uBf ?_;refine aE (aH ?_);refine aH (aB ?_);refine uAa ?_;refine aA (e8 Tryz.underlying20 rfl rfl) rfl ?_;refine aG (aE ?_);refine uBf ?_;refine aE (aH ?_);refine uAf ?_;refine ol_s (aAI (N:=fun v K' L'=>∃bv,v=.agg #[hd 120,ptr bv,.int .u64 150]∧K'=K∧L'=[pt bv (aU [ptr t] 120),pt t (aU [old] 118)]) rfl rfl Tryz.func93 pS pT pU pV (fun w j=>⟨_,_,K,_,aA6 t w,⟨_,rfl,rfl,rfl⟩,Hl.le_refl _,j.alloc _⟩)) rfl ?_;rintro _ K _ ⟨bv,rfl,rfl,rfl⟩ -;refine ol_s (cN aSS) rfl ?_;rintro _ K _ ⟨b5,rfl,rfl,rfl⟩ -;refine bP (cJ jO rfl rfl rfl aX (by first|(simp[Value.oneCell'];done)|exact fun c hc=>El.one _ _ c hc) (.cons (.cons (.cons .nil))) (by intro j hj;simp)) ?_;rintro _ K _ ⟨rfl,rfl⟩ -;refine aG (aE ?_);refine aH (aB ?_);refine uEo ?_;refine aA (lG rfl rfl Tryz.func94 aJ1 aJ2 aJ3 aJ4 (fun w _=>aLK _ w)) rfl ?_;refine uAb ?_;refine aG (aE ?_);refine aH (aH ?_);refine uAf ?_;refine aA (eL rfl rfl (l8 _) Tryz.func396 w4 w5 w6 w7 (fun w _=>aKT w)) rfl ?_;refine uDu ?_;refine uGq ?_;refine uEo ?_;refine uAz ?_;refine aA (lG rfl rfl Tryz.func95 aFH aFI aFJ aFK (fun w j=>aGD _ ⟨t,0,none⟩ w (nW j (.there .here)).1)) rfl ?_;refine uAt ?_;refine aG (aE ?_);refine uBf ?_;refine aE (aH ?_);refine uAf ?_;refine aA (eL rfl rfl (tV _) Tryz.func416 aFD aFE aFF aFG (fun w _=>aKJ w)) rfl ?_;refine uAb ?_;refine aG (aE ?_);refine aH (aH ?_);refine uAf ?_;refine aA (eL rfl rfl (l8 _) Tryz.func396 w4 w5 w6 w7 (fun w _=>aKS w)) rfl ?_;refine uDu ?_;refine uDg ?_;refine aA (aJ aSL rfl (.known hE) rfl) rfl ?_;refine uAz ?_;refine aA (eL rfl rfl (l7 _) Tryz.func417 aJX aJY aJZ aJ0 (fun w _=>s8 w)) rfl ?_;refine uAz ?_;refine aA (by first|exact dP rfl|exact dO rfl) rfl ?_;refine uAy ?_;refine aG (aE ?_);refine uBf ?_;refine aE (aH ?_);refine uCf ?_;refine uEo ?_;refine uAa ?_;refine bC rfl rfl (aWD e t bv old _) (.cons (.there .here) (.cons (.there .here) .nil)) rfl ?_;rintro _ K _ ⟨rfl,rfl,rfl⟩ -;refine uAb ?_;refine aG (aE ?_);refine uDi ?_;refine bF rfl rfl (Hl.le_refl _) ?_;exact⟨_,rfl,rfl,rfl,rfl⟩
theorem wN{K:Hl}{L:List Asn}{b:Nat}{o:Obj}{A:Asn}(h:Sees K L b o):Sees K (A::L) b o:=by
 cases h with
 |own f=>exact .own (.there f)
 |known h=>exact .known h
theorem aH2(fb:Nat)(e at_:Int)(K:Hl)(L:List Asn)(hs:Sees K L fb (aU [i64 e,i64 at_] 123)):Sp Tryz.prog 407 [ptr fb] K L (Ret fun v K' L'=>v=.iface 30 (i64 e)∧K'=K∧L'=L):=by
 refine aZ Tryz.func407 rfl Tryz.ntmps407 rfl rfl fun F w=>?_
 refine aH (aB ?_);refine uAb ?_;refine aG (aE ?_);refine aH (aB ?_);refine uBz ?_;refine aA (aD (o':=0) wU rfl rfl) rfl ?_;refine aA (aJ ts30 rfl hs rfl) rfl ?_;refine aA (cL Tryz.underlying30 (fun _ h=>by cases h) rfl) rfl ?_;refine uAb ?_;refine aG (aE ?_);refine bI ?_;refine bF rfl rfl (Hl.le_refl _) ?_;exact⟨_,rfl,rfl,rfl,rfl⟩
theorem aX5(fb:Nat)(e at_:Int)(K:Hl)(L:List Asn)(hs:Sees K L fb (aU [i64 e,i64 at_] 123)):Sp Tryz.prog 98 [.iface 118 (ptr fb),.iface 30 (i64 e),.bool true] K L (Ret fun v K' L'=>v=.bool true∧K'=K∧L'=L):=by
 refine aZ Tryz.func98 rfl Tryz.ntmps98 rfl rfl fun F w=>?_
 refine aH (aB ?_);refine uAb ?_;refine aG (aE ?_);refine bE ?_;refine eR (fun(u:Bool)=>True) (fun u=>[(0,if u=true then .iface 118 (ptr fb)else .iface 30 (i64 e)),(1,.iface 30 (i64 e)),(2,.bool true)]) (fun _=>K) (fun _=>L) (fun u=>if u=true then 1 else 0) true trivial (.cons 0 rfl (.cons 1 rfl (.cons 2 rfl .nil))) rfl (fun _ h=>h) ?_;intro u _;refine bE ?_;cases u
 ·
  show T _ _ [(0,.iface 30 (i64 e)),(1,.iface 30 (i64 e)),(2,.bool true)] _ _ _
  refine aH (aH ?_);refine uCf ?_;refine uAi ?_;refine uGq ?_;refine aA (wC rfl rfl (fun _=>rfl) (fun w=>eq30 e w)) rfl ?_;refine uAy ?_;refine aG (aE ?_);refine uGe ?_;refine aH (aB ?_);refine uAb ?_;refine aG (aE ?_);refine uCk ?_;refine uGj ?_;refine bF rfl rfl (Hl.le_refl _) ?_;exact⟨_,rfl,rfl,rfl,rfl⟩
 ·
  show T _ _ [(0,.iface 118 (ptr fb)),(1,.iface 30 (i64 e)),(2,.bool true)] _ _ _
  refine aH (aH ?_);refine uCf ?_;refine uAi ?_;refine uGq ?_;refine aA (wC rfl rfl (fun _=>rfl) (fun w=>aP8 fb e w)) rfl ?_;refine uAy ?_;refine aG (aE ?_);refine uBf ?_;refine aE (aH ?_);refine aH (aB ?_);refine uAa ?_;refine aA (aF2 rfl (aT3 _)) rfl ?_;refine uBy ?_;refine aG (aE ?_);refine aH (aB ?_);refine uAx ?_;refine uFa ?_;refine aG (aE ?_);refine uBf ?_;refine aE (aH ?_);refine uAf ?_;refine aG (aE ?_);refine bE (aH ?_);refine aB ?_;refine aA (aF2 rfl (aD7 _)) rfl ?_;refine uAh ?_;refine aG (aE ?_);refine uGe ?_;refine aH (aB ?_);refine uAb ?_;refine aG (aE ?_);refine aH (aB ?_);refine uAa ?_;refine l9 rfl rfl (aEI fb) (aH2 fb e at_ _ _ hs) (cS _) rfl ?_;rintro _ K _ ⟨rfl,rfl,rfl⟩ -;rw[List.append_nil];refine uAb ?_;refine aG (aE ?_);refine aH (aB ?_);refine uAa ?_;refine uEe ?_;refine aG (aE ?_);refine uBf ?_;refine aN (aN ?_);exact cQ false trivial (by decide) (.cons 0 rfl (.cons 1 rfl (.cons 2 rfl .nil))) rfl (fun _ h=>h)
end Go.Proofs
end
section
namespace Go.Proofs
open Go Go.SL Go.Extern
theorem aKE{E:Env}{x:Exit}{fr:Fr}{K:Hl}{L:List Asn}{A:Asn}{Q:Post}(h:D E x fr K L Q):D E x fr K (A::L) Q:=fun a w f i=>h a w f i.drop
theorem is30(e:Int)(K:Hl):Sp Tryz.prog 98 [.iface 30 (i64 e),.iface 30 (i64 e),.bool true] K [] (Val (.bool true) K):=by
 refine aZ Tryz.func98 rfl Tryz.ntmps98 rfl rfl fun F w=>?_
 refine aH (aB ?_);refine uAb ?_;refine aG (aE ?_);refine bE ?_;refine eR (fun(u:Unit)=>True) (fun u=>[(0,.iface 30 (i64 e)),(1,.iface 30 (i64 e)),(2,.bool true)]) (fun _=>K) (fun _=>[]) (fun u=>0) () trivial (.cons 0 rfl (.cons 1 rfl (.cons 2 rfl .nil))) rfl (fun _ h=>h) ?_;intro u _;refine bE (aH ?_);refine aH (aB ?_);refine uAx ?_;refine uAi ?_;refine uGq ?_;refine aA (wC rfl rfl (fun _=>rfl) (fun w=>eq30 e w)) rfl ?_;refine uAy ?_;refine aG (aE ?_);refine uGe ?_;refine aH (aB ?_);refine uAb ?_;refine aG (aE ?_);refine uCk ?_;refine uGj ?_;refine bF rfl rfl (Hl.le_refl _) ?_;exact⟨rfl,rfl,rfl⟩
theorem aO7(fb:Nat)(e at_:Int)(K:Hl)(L:List Asn)(hs:Sees K L fb (aU [i64 e,i64 at_] 123)):Sp Tryz.prog 56 [.iface 118 (ptr fb),.iface 30 (i64 e)] K L (Ret fun v K' L'=>v=.bool true∧K'=K∧L'=L):=by
 refine aZ Tryz.func56 rfl Tryz.ntmps56 rfl rfl fun F w=>?_
 refine aH (aB ?_);refine uAb ?_;refine aG (aE ?_);refine aH (aH ?_);refine uAf ?_;refine uEe ?_;refine uDg ?_;refine uEe ?_;refine uAt ?_;refine aG (aE ?_);refine uBf ?_;refine aE (aH ?_);refine uAf ?_;refine aA (lG rfl rfl Tryz.func97 r7 r8 r9 sA (fun w _=>vR _ w)) rfl ?_;refine aA (eL rfl rfl (pE _) Tryz.func415 aS1 aS2 aS3 aS4 (fun w _=>uP w)) rfl ?_;refine uAb ?_;refine aG (aE ?_);refine aH (aB ?_);refine uEg ?_;refine bC rfl rfl (aX5 fb e at_ _ L hs) (cS _) rfl ?_;rintro _ K _ ⟨rfl,rfl,rfl⟩ -;rw[List.append_nil];refine uAb ?_;refine aG (aE ?_);refine bI ?_;refine bF rfl rfl (Hl.le_refl _) ?_;exact⟨_,rfl,rfl,rfl,rfl⟩
theorem aTB(e:Int)(K:Hl):Sp Tryz.prog 56 [.iface 30 (i64 e),.iface 30 (i64 e)] K [] (Val (.bool true) K):=by
 refine aZ Tryz.func56 rfl Tryz.ntmps56 rfl rfl fun F w=>?_
 refine aH (aB ?_);refine uAb ?_;refine aG (aE ?_);refine aH (aH ?_);refine uAf ?_;refine uEe ?_;refine uDg ?_;refine uEe ?_;refine uAt ?_;refine aG (aE ?_);refine uBf ?_;refine aE (aH ?_);refine uAf ?_;refine aA (lG rfl rfl Tryz.func97 r7 r8 r9 sA (fun w _=>vR _ w)) rfl ?_;refine aA (eL rfl rfl (pE _) Tryz.func415 aS1 aS2 aS3 aS4 (fun w _=>uP w)) rfl ?_;refine uAb ?_;refine aG (aE ?_);refine aH (aB ?_);refine uEg ?_;refine cA rfl rfl (is30 e _) rfl ?_;refine uAb ?_;refine aG (aE ?_);refine bI ?_;refine bF rfl rfl (Hl.le_refl _) ?_;exact⟨rfl,rfl,rfl⟩
theorem aAY(K:Hl):Sp Tryz.prog 37 [.nilIface] K [] (Val (.tuple #[i64 0,i64 (-1)]) K):=by
 refine aZ Tryz.func37 rfl Tryz.ntmps37 rfl rfl fun F w=>?_
 refine aH (aB ?_);refine uAw ?_;refine aG (aE ?_);refine aH (aB ?_);refine ol_s (cN aSQ) rfl ?_;rintro _ K _ ⟨b4,rfl,rfl,rfl⟩ -;refine aG (aE ?_);refine aH (aB ?_);refine ol_s (cN tz30) rfl ?_;rintro _ K _ ⟨b5,rfl,rfl,rfl⟩ -;refine aG (aE ?_);refine aH (bE ?_);refine aH (aB ?_);refine uAa ?_;refine aA (zD Tryz.underlying79 rfl) rfl ?_;refine uAb ?_;refine aG (aE ?_);refine uGe ?_;refine aH (aB ?_);refine uAw ?_;refine aG (aE ?_);refine uCi ?_;refine aO .nil ?_;refine e7 rfl rfl rfl (Hl.le_refl _) ?_;exact⟨rfl,rfl,rfl⟩
theorem aLD(fb:Nat)(e at_:Int)(K:Hl)(L:List Asn)(hE:ErrT K)(hs:Sees K L fb (aU [i64 e,i64 at_] 123)):Sp Tryz.prog 37 [.iface 118 (ptr fb)] K L (Ret fun v K' L'=>v=.tuple #[i64 e,i64 at_]∧K'=K∧L'=L):=by
 have hsA:∀A:Asn,Sees K (A::L) fb (aU [i64 e,i64 at_] 123):=fun A=>wN hs
 refine aZ Tryz.func37 rfl Tryz.ntmps37 rfl rfl fun F w=>?_
 refine aH (aB ?_);refine uAw ?_;refine aG (aE ?_);refine aH (aB ?_);refine ol_s (cN aSQ) rfl ?_;rintro _ K _ ⟨b4,rfl,rfl,rfl⟩ -;refine aG (aE ?_);refine aH (aB ?_);refine ol_s (cN tz30) rfl ?_;rintro _ K _ ⟨b5,rfl,rfl,rfl⟩ -;refine aG (aE ?_);refine aH (bE ?_);refine aH (aB ?_);refine uAa ?_;refine uEe ?_;refine uAb ?_;refine aG (aE ?_);refine uHq ?_;refine aH (aB ?_);refine uAa ?_;refine aA (cL Tryz.underlying120 (fun _ h=>by cases h) rfl) rfl ?_;refine bC rfl rfl (aXY fb b4 _ _ hE) (.cons (.there .here) .nil) rfl ?_;rintro _ K _ ⟨rfl,rfl,rfl⟩ -;have hs2:=wN (A:=pt b4 (aU [ptr fb] 118)) (wN (A:=pt b5 (aU [i64 0] 30)) hs);refine uDg ?_;refine aA (aJ aSK rfl aL rfl) rfl ?_;refine uAz ?_;refine uEw ?_;refine uAz ?_;refine aA (aD (o':=0) wU rfl rfl) rfl ?_;refine uAz ?_;refine aA (aJ ts30 rfl hs2 rfl) rfl ?_;refine uAz ?_;refine aA (cL Tryz.underlying30 (fun _ h=>by cases h) rfl) rfl ?_;refine uAz ?_;refine bC rfl rfl (aO7 fb e at_ _ _ hs2) (cS _) rfl ?_;rintro _ K _ ⟨rfl,rfl,rfl⟩ -;rw[List.append_nil];refine uDv ?_;refine aG (aE ?_);refine uGe ?_;refine aH ?_;refine t_draw (anc:=[0,1,3,7,0,16,48,112,15,511]) (ord:=[0,1,2,3,4,5,6,7,8,9]) [] [] mixed (by decide+kernel) (cS _) ?_;refine dl_ev rfl rfl (.none rfl) rfl rfl (aJ aSK rfl aL rfl) rfl ?_;refine uCw ?_;refine dl_ev rfl rfl (.none rfl) rfl rfl (aD (o':=0) wU rfl rfl) rfl ?_;refine dl_ev rfl rfl (.none rfl) rfl rfl (aJ ts30 rfl hs2 rfl) rfl ?_;refine dl_ev rfl rfl (.none rfl) rfl rfl (aJ aSK rfl aL rfl) rfl ?_;refine uCw ?_;refine dl_ev rfl rfl (.none rfl) rfl rfl (aD (o':=1) aOD rfl rfl) rfl ?_;refine dl_ev rfl rfl (.none rfl) rfl rfl (aJ ts3 rfl hs2 rfl) rfl ?_;refine uAv ?_;refine uAv ?_;refine uDf ?_;refine uCi ?_;refine aKE (aKE ?_)
 refine e7 rfl rfl rfl (Hl.le_refl _) ?_;exact⟨_,rfl,rfl,rfl,List.append_nil L⟩
theorem aSG(e:Int)(K:Hl)(hE:ErrT K):Sp Tryz.prog 37 [.iface 30 (i64 e)] K [] (Ret fun v K' L'=>v=.tuple #[i64 e,i64 (-1)]∧K'=K∧L'=[]):=by
 refine aZ Tryz.func37 rfl Tryz.ntmps37 rfl rfl fun F w=>?_
 refine aH (aB ?_);refine uAw ?_;refine aG (aE ?_);refine aH (aB ?_);refine ol_s (cN aSQ) rfl ?_;rintro _ K _ ⟨b4,rfl,rfl,rfl⟩ -;refine aG (aE ?_);refine aH (aB ?_);refine ol_s (cN tz30) rfl ?_;rintro _ K _ ⟨b5,rfl,rfl,rfl⟩ -;refine aG (aE ?_);refine aH (bE ?_);refine aH (aB ?_);refine uAa ?_;refine uEe ?_;refine uAb ?_;refine aG (aE ?_);refine uHq ?_;refine aH (aB ?_);refine uAa ?_;refine aA (cL Tryz.underlying120 (fun _ h=>by cases h) rfl) rfl ?_;refine bC rfl rfl (aWC e b4 _ _ hE) (.cons (.there .here) .nil) rfl ?_;rintro _ K _ ⟨rfl,rfl,rfl⟩ -;refine uAa ?_;refine uAc ?_;refine uIo ?_;refine aG (aE ?_);refine uHq ?_;refine aH (aB ?_);refine uAa ?_;refine aA (cL Tryz.underlying124 (fun _ h=>by cases h) rfl) rfl ?_;refine bC rfl rfl (as30 e b5 _ _ hE) (.cons (.there .here) .nil) rfl ?_;rintro _ K _ ⟨rfl,rfl,rfl⟩ -;refine uDg ?_;refine aA (aJ ts30 rfl aL rfl) rfl ?_;refine uAz ?_;refine aA (cL Tryz.underlying30 (fun _ h=>by cases h) rfl) rfl ?_;refine uAz ?_;refine cA rfl rfl (aTB e _) rfl ?_;refine uDv ?_;refine aG (aE ?_);refine uGe ?_;refine aH (aB ?_);refine aA (aJ ts30 rfl aL rfl) rfl ?_;refine uAw ?_;refine aG (aE ?_);refine uCi ?_;refine aO .nil ?_;refine e7 rfl rfl rfl (Hl.le_refl _) ?_;exact⟨_,rfl,rfl,rfl,rfl⟩
end Go.Proofs
end
section
namespace Go.SL
def Hl.less(k h:Hl):Hl:=fun x=>if (h x).isSome then none else k x
theorem Hl.less_le(k h:Hl):(k.less h).le k:=by
 intro x o e;unfold Hl.less at e;split at e
 ·cases e
 ·exact e
theorem Hl.less_dj(k h:Hl):h.dj (k.less h):=by
 intro x;cases e:h x with
 |none=>exact .inl rfl
 |some o=>exact .inr (by simp[Hl.less,e])
theorem Hl.le_less{K K' h:Hl}(le:K.le K')(d:K.dj h):K.le (K'.less h):=by
 intro x o e;unfold Hl.less;rcases d x with q|q
 ·rw[q]at e;cases e
 ·simp only[q,Option.isSome_none,Bool.false_eq_true,if_false];exact le x o e
theorem Hl.le_join_l{a b:Hl}:a.le (a.join b):=fun x o e=>by simp[Hl.join,e]
theorem Hl.le_join_r{a b:Hl}(d:a.dj b):b.le (a.join b):=fun x o e=>by
 rcases d x with q|q
 ·simp[Hl.join,q,e]
 ·rw[q]at e;cases e
theorem In.freeze{w0 w:World}{F K:Hl}{L1 L:List Asn}(i:In w0 F K (L1++L) w):∃h,Sat L1 h∧K.dj h∧In w0 F (K.join h) L w:=by
 obtain⟨x,hs,d1,d2,d3,l1,l2,l3⟩:=i.rep;obtain⟨a,n,ha,hn,han,rfl⟩:=eX.1 hs;have hd2:=Hl.dj_join.1 d2;have hd3:=Hl.dj_join.1 d3;exact⟨a,ha,hd3.1,i.os,i.tape,i.output,i.size,n,hn,Hl.dj_join.2 ⟨d1,hd2.1⟩,hd2.2,Hl.join_dj.2 ⟨hd3.2,han⟩,l1,Hl.join_le l2 (Hl.le_join_left l3),Hl.le_join_right han l3⟩
theorem In.thaw{w0 w:World}{F K' h:Hl}{L1 L:List Asn}(i:In w0 F K' L w)(hs1:Sat L1 h)(le:h.le K'):In w0 F (K'.less h) (L1++L) w:=by
 obtain⟨x,hs,d1,d2,d3,l1,l2,l3⟩:=i.rep;have sub:∀y,K' y=none→h y=none:=by
  intro y hy;cases e:h y with
  |none=>rfl
  |some o=>rw[le y o e]at hy;cases hy
 have hx:h.dj x:=fun y=>(d3 y).imp_left (sub y)
 have hF:F.dj h:=fun y=>(d1 y).imp_right (sub y)
 refine⟨i.os,i.tape,i.output,i.size,h.join x,eX.2 ⟨h,x,hs1,hs,hx,rfl⟩,?_,Hl.dj_join.2 ⟨hF,d2⟩,Hl.dj_join.2 ⟨(Hl.less_dj K' h).symm,?_⟩,l1,Hl.le_trans (Hl.less_le _ _) l2,Hl.join_le (Hl.le_trans le l2) l3⟩
 ·intro y;rcases d1 y with q|q
  ·exact .inl q
  ·exact .inr (by unfold Hl.less;split <;> first|rfl|exact q)
 ·intro y;rcases d3 y with q|q
  ·exact .inl (by unfold Hl.less;split <;> first|rfl|exact q)
  ·exact .inr q
theorem aK5{P:Program}{f:FuncId}{args:List Value}{K:Hl}{L1 L:List Asn}{R:Ending→List Asn→Prop}(hb:∃fn,P.funcs[f]?=some fn∧(fn.name=="runtime.NumGoroutine")=false∧fn.body.isSome=true)
  (h:∀h1,Sat L1 h1→K.dj h1→Sp P f args (K.join h1) L fun e _ L'=>R e L'):Sp P f args K (L1++L) fun e _ L'=>∃L'',R e L''∧L'=L1++L'':=
 ⟨hb, fun F w i => by
  obtain⟨h1,hs,d,i1⟩:=i.freeze;exact((h h1 hs d).2 F w i1).mono fun e w' ⟨K',L',r,le,j⟩=>⟨K'.less h1,L1++L',⟨L',r,rfl⟩,Hl.le_less (Hl.le_trans Hl.le_join_l le) d,j.thaw hs (Hl.le_trans (Hl.le_join_r d) le)⟩⟩
theorem aWX{α:Type}{z:Bool}{k:El α}{v:Value}{xs:List α}{h:Hl}(hs:sl z k v xs h):Ksl k h v xs:=by
 rcases hs with ⟨rfl,rfl,rfl⟩|⟨b,cap,junk,fz,rfl,hz,hc,hj,hf,rfl⟩
 ·exact .inl ⟨none,0,rfl,rfl⟩
 ·refine .inr ⟨b,0,cap,k.cs xs++junk,fz,rfl,⟨k.e,by simp[Hl.one]⟩,?_⟩
  rw[List.drop_zero,←k.cs_length,List.take_left]
theorem aW7{A:Asn}{L:List Asn}{h:Hl}(hh:Hs A L)(hs:Sat L h):∃a,A a∧a.le h:=by
 obtain⟨M,hM⟩:=hh.split;obtain⟨a,m,ha,hm,hd,rfl⟩:=hM h hs;exact⟨a,ha,Hl.le_join_l⟩
theorem aKU{α:Type}{z:Bool}{k:El α}{v:Value}{xs:List α}{L:List Asn}{h:Hl}(hh:Hs (sl z k v xs) L)(hs:Sat L h):Ksl k h v xs:=by
 obtain⟨a,ha,le⟩:=aW7 hh hs;exact(aWX ha).mono le
end Go.SL
end
section
namespace Go.SL
theorem aJK:∀ {o:Nat} {l cs:List Value},o+cs.length≤l.length→Spl l o cs (l.take o++cs++l.drop (o+cs.length))
 |0,l,[],h=>by simpa using Spl.nil
 |0,a::l,c::cs,h=>by
  have:=aJK (o:=0) (l:=l) (cs:=cs) (by simp at h ⊢;omega);have e:(a::l).take 0++c::cs++(a::l).drop (0+(c::cs).length)=c::(l.take 0++cs++l.drop (0+cs.length)):=by simp
  rw[e];exact .cons this
 |0,[],c::cs,h=>by simp at h
 |o+1,a::l,cs,h=>by
  have:=aJK (o:=o) (l:=l) (cs:=cs) (by simp at h;omega);have e:(a::l).take (o+1)++cs++(a::l).drop (o+1+cs.length)=a::(l.take o++cs++l.drop (o+cs.length)):=by
   have:o+1+cs.length=(o+cs.length)+1:=by omega
   rw[this];simp
  rw[e];exact .skip this
 |o+1,[],cs,h=>by simp at h
theorem aFS{α:Type}(k:El α){y:α}:∀ {xs:List α} {j:Nat} {r:List Value},j < xs.length→(k.cs xs++r).take (j*k.sz)++k.enc y++(k.cs xs++r).drop (j*k.sz+(k.enc y).length)=k.cs (xs.set j y)++r
 | [],_,_,h=>by simp at h
 |x::xs,0,r,h=>by
  simp only[Nat.zero_mul,List.take_zero,List.nil_append,Nat.zero_add,List.set_cons_zero,El.cs,List.flatMap_cons,List.append_assoc];have:(k.enc y).length=(k.enc x).length:=by rw[k.len,k.len]
  rw[this,List.drop_left]
 |x::xs,j+1,r,h=>by
  have ih:=aFS k (y:=y) (xs:=xs) (j:=j) (r:=r) (by simpa using h);have hx:=k.len x;simp only[El.cs,List.set_cons_succ,List.flatMap_cons,List.append_assoc]at ih ⊢;have e1:(j+1)*k.sz=(k.enc x).length+j*k.sz:=by rw[Nat.succ_mul,hx];omega
  have e2:(j+1)*k.sz+(k.enc y).length=(k.enc x).length+(j*k.sz+(k.enc y).length):=by rw[e1];omega
  rw[e1,List.take_append,List.take_of_length_le aI,show (k.enc x).length+j*k.sz - (k.enc x).length=j*k.sz by omega];rw[show (k.enc x).length+j*k.sz+(k.enc y).length=(k.enc x).length+(j*k.sz+(k.enc y).length) by omega,List.drop_append,List.drop_eq_nil_of_le aI,show (k.enc x).length+(j*k.sz+(k.enc y).length) - (k.enc x).length=j*k.sz+(k.enc y).length by omega];rw[List.nil_append,List.append_assoc,ih]
section
variable{E:Env}{fr:Fr}{K:Hl}{L L':List Asn}{dst:Option Tmp}{ty:TypeId}{pos:String}{aft:Array Edge}{g:Option (Nat×Bool)}{x y:Operand}{t:TypeId}{α:Type}{k:El α}{v:Value}{xs:List α}
theorem aEP{zf:Bool}{j:Nat}{y0:α}(ht:aggB E.P t k.sz=true)(hx:fr.ev x=some (jV v (j*k.sz)))(hy:fr.ev y=some (.agg (k.enc y0).toArray))(hj:j < xs.length)
  (hF:Fnd (sl zf k v xs) (sl zf k v (xs.set j y0)) L L'):EfS E fr K L ⟨dst,.store t x y,ty,pos,aft,g⟩ (fun _ K' L''=>K'=K∧L''=L'):=by
 intro a w f q;obtain⟨M,m1,m2⟩:=hF.split;rcases(q.imp m1).slCases with ⟨rfl,rfl,_⟩|⟨b,cap,junk,fz,rfl,hz,hcap,hjk,hf,q0⟩
 ·simp at hj
 ·have hx':fr.ev x=some (ptr b (j*k.sz)):=by rw[hx];simp[jV,gC]
  have hle:j*k.sz+k.sz≤xs.length*k.sz:=by rw[←Nat.succ_mul];exact Nat.mul_le_mul_right _ hj
  have hle2:xs.length*k.sz≤cap*k.sz:=Nat.mul_le_mul_right _ hcap;obtain⟨u,w',K',L'',hr,⟨rfl,rfl⟩,le,q1⟩:=cJ (K:=K) (dst:=dst) (ty:=ty) (pos:=pos) (aft:=aft) (g:=g) (l:=k.cs xs++junk) (u:=k.e) (fz:=fz) ht hx' hy (k.len y0) (.here (L:=M)) (fun c hc=>k.one y0 c hc) (aJK (by rw[List.length_append,k.cs_length,k.len];omega)) (fun i hi=>hf.at aI) a w f q0;refine⟨u,w',_,_,hr,⟨rfl,rfl⟩,le,q1.imp fun h hh=>m2 h ?_⟩
  obtain⟨aa,l,ha,hl,hd,he⟩:=hh;refine⟨aa,l,?_,hl,hd,he⟩
  rw[aFS k hj]at ha;refine .inr ⟨b,cap,junk,fz,by rw[List.length_set],?_,by rw[List.length_set];exact hcap,by rw[List.length_set];exact hjk,hf,ha⟩
  intro h1 h2;exact hz h1 (by have:=congrArg List.length h2;simp at this;exact List.length_eq_zero_iff.1 (by simpa using this))
end
end Go.SL
end
section
namespace Go.SL
section
variable{P:Program}{fn:Func}{n:Nat}{w0:World}{F K0 K:Hl}{fr:Fr}{L:List Asn}{R:Ending→Hl→List Asn→Prop}{t1 t2 t3 t4:Nat}{v1 v2 v3 v4:Value}
theorem aJC(h:fn.results= #[.tmp t1,.tmp t2,.tmp t3])(tmps:Array Value)(w:World)(e1:tmps.getD t1 undef=v1)(e2:tmps.getD t2 undef=v2)(e3:tmps.getD t3 undef=v3):(results fn tmps).run P w=.ok (.tuple #[v1,v2,v3]) w:=by
 have e1:tmps[t1]?.getD undef=v1:=by simpa using e1
 have e2:tmps[t2]?.getD undef=v2:=by simpa using e2
 have e3:tmps[t3]?.getD undef=v3:=by simpa using e3
 simp[results,h,e1,e2,e3,Sem.run_bind,Result.andThen]
theorem tL(hr:fn.results= #[.tmp t1,.tmp t2,.tmp t3])(h1:fr.get t1=some v1)(h2:fr.get t2=some v2)(h3:fr.get t3=some v3)(le:K0.le K)(h:R (.returned (.tuple #[v1,v2,v3])) K L):
  D ⟨P,n,[],w0,F⟩ .ret fr K L (uG P fn w0 F K0 R):=
 fun a w f i=>⟨f.defers,_,aJC hr _ _ (by simp[f.get _ _ h1]) (by simp[f.get _ _ h2]) (by simp[f.get _ _ h3]),K,L,h,le,i⟩
end
theorem aPM{E:Env}{x:Exit}{fr:Fr}{K:Hl}{L M:List Asn}{Q:Post}(h:D E x fr K L Q):D E x fr K (L++M) Q:=fun a w f i=>h a w f i.left
theorem aAP{α:Type}{z:Bool}{k:El α}{v:Value}{xs:List α}{L:List Asn}:∀h,Sat (sl z k v xs::L) h→∃a n c,v=.slice a n c:=by
 rintro h ⟨a,l,ha,_⟩;rcases ha with ⟨rfl,_⟩|⟨b,cap,junk,fz,rfl,_⟩ <;> exact⟨_,_,_,rfl⟩
end Go.SL
end
section
namespace Go.Syn
open Go.Mach
def t1:aM:=[105,102,32,104,101,97,100,101,114,32,34,83,117,98,106,101,99,116,34,32,34,120,34,32,123,32,100,105,115,99,97,114,100,59,32,125,32,101,108,115,101,32,123,32,107,101,101,112,59,32,125]
def t2:aM:=[105,102,32,104,101,97,100,101,114,32,58,99,111,109,112,97,114,97,116,111,114,32,34,105,59,111,99,116,101,116,34,32,34,83,117,98,106,101,99,116,34,32,34,120,34,32,123,32,100,105,115,99,97,114,100,59,32,125,32,101,108,115,101,32,123,32,114,101,100,105,114,101,99,116,32,34,97,64,98,34,59,32,125]
def tb:aM:=[107,101,101,112,59,32,105,102,32,123,32,125]
def m1:Msg:=⟨[],[],0,[([115,117,98,106,101,99,116],[88])]⟩
def pc(s:aM):Int×Int:=if 600 < s.length then (1,-1)else match gR s with| .ok _=>(0,-1)| .error e=>e
def sayC(r:List aM×Tree)(m:Msg):Out:=Mach.run (decide (eO∈r.1)) (Cmp.script r.2) m
def te:Option (Int×Int)→Int×Int
 |none=>(0,-1)
 |some e=>e
def rn(s:aM)(m:Msg):List Action×Int×Bool:=
 if 600 < s.length then ([],1,false)
 else match gR s with
  | .error e=>([],e.1,false)
  | .ok r=>((sayC r m).acts,(te (sayC r m).err).1,true)
def okB{α:Type}(r:Res α):Bool:=match r with| .ok _=>true| .error _=>false
theorem aYS:okB (gR t1)=true:=by kernel_rfl
theorem aYK:pc t1=(0,-1):=by kernel_rfl
theorem aYL:pc tb=(4,9):=by kernel_rfl
theorem aYO:rn t1 m1=([],0,true):=by kernel_rfl
theorem aYP:rn t2 m1=([(3,[97,64,98])],0,true):=by kernel_rfl
end Go.Syn
end
section
namespace Go.Proofs
open Go Go.SL Go.Syn Go.Mach Go.Cmp
theorem ScriptAt.mono{K K':Hl}{b:Nat}{needs:List (List UInt8)}{t:Tree}(h:ScriptAt K b needs t)(le:K.le K'):ScriptAt K' b needs t:=
 let ⟨l,nv,bv,ys,fz,h1,h2,h3,h4,h5,h6,h7⟩:=h.at_
 ⟨l,nv,bv,ys,fz,le _ _ h1,h2,h3,h4.mono le,h5.mono le,h6.mono le,h7⟩
def xA(K:Hl)(b:Nat)(r:List aM×Tree):Prop:=∃tb cv vs fz,K b=some (aU [ptr tb 6,cv] 89 fz)∧ScriptAt K tb r.1 r.2∧Ksl gO K cv vs∧RIs K vs (Cmp.script r.2)
theorem xA.mono{K K':Hl}{b:Nat}{r:List aM×Tree}(h:xA K b r)(le:K.le K'):xA K' b r:=
 let ⟨tb,cv,vs,fz,h1,h2,h3,h4⟩:=h
 ⟨tb,cv,vs,fz,le _ _ h1,h2.mono le,h3.mono le,h4.mono le⟩
def aV8(s:aM)(x y:Value)(K:Hl):Prop:=
 (600 < s.length∧x=.pointer none∧y=.iface 30 (i64 1))∨
 (s.length≤600∧∃b r,gR s=.ok r∧x=ptr b∧y=.nilIface∧xA K b r)∨
 (s.length≤600∧∃fb e p,gR s=.error (e,p)∧x=.pointer none∧y=.iface 118 (ptr fb)∧K fb=some (aU [i64 e,i64 p] 123))
theorem aGN(s:aM)(K:Hl)(hg:Glob K):Sp Tryz.prog 38 [str s] K [] (Ret fun v K' L'=>∃x y,v=.tuple #[x,y]∧aV8 s x y K'∧L'=[]):=by
 refine aZ Tryz.func38 rfl Tryz.ntmps38 rfl rfl fun F w=>?_
 refine aH (aB ?_);refine uAw ?_;refine aG (aE ?_);refine aH (aB ?_);refine uAa ?_;refine bC rfl rfl (aJA s _ hg) .nil rfl ?_;rintro v8 K1 _ ⟨hP,rfl⟩ le1;obtain⟨x,y,rfl,hxy⟩:∃x y,v8=.tuple #[x,y]∧((600 < s.length∧x=.pointer none∧y=.iface 30 (i64 1))∨(s.length≤600∧∃b r,gR s=.ok r∧x=ptr b 6∧y=.nilIface∧ScriptAt K1 b r.1 r.2)∨(s.length≤600∧∃fb e p,gR s=.error (e,p)∧x=.pointer none∧y=.iface 118 (ptr fb)∧K1 fb=some (aU [i64 e,i64 p] 123))):=(by rcases hP with ⟨h6,rfl⟩|⟨h6,⟨b,r,hr,rfl,hat⟩|⟨fb,e,p,hr,rfl,hfb⟩⟩;exact⟨_,_,rfl,.inl ⟨h6,rfl,rfl⟩⟩;exact⟨_,_,rfl,.inr (.inl ⟨h6,b,r,hr,rfl,rfl,hat⟩)⟩;exact⟨_,_,rfl,.inr (.inr ⟨h6,fb,e,p,hr,rfl,rfl,hfb⟩)⟩);refine uBy ?_;refine aG (aE ?_);rcases hxy with ⟨h6,rfl,rfl⟩|⟨h6,b,r,hr,rfl,rfl,hat⟩|⟨h6,fb,e,p,hr,rfl,rfl,hfb⟩
 ·
  refine aH (aH ?_);refine uAf ?_;refine uFb ?_;refine aG (aE ?_);refine uGe ?_;refine aH (aB ?_);refine uAa ?_;refine uAw ?_;refine aG (aE ?_);refine uCk ?_;refine aO .nil ?_;refine e7 rfl rfl rfl le1 ?_;exact⟨_,rfl,_,_,rfl,.inl ⟨h6,rfl,rfl⟩,rfl⟩
 ·
  have hfit:=aCG hr;refine aH (aH ?_);refine uAf ?_;refine uEz ?_;refine aG (aE ?_);refine uBf ?_;refine aE (aH ?_);refine uCf ?_;refine bC rfl rfl (aHC b r.1 r.2 _ hat hfit.1 aI) .nil rfl ?_;rintro cv K2 _ ⟨vs,hvs,rfl⟩ le2;refine hU fun K3 le3 hcv=>?_
  obtain⟨ca,cn,cc,rfl⟩:=hcv.isSlice;refine aA (cP tb89 aY9 (.cons rfl rfl rfl (.cons .nil) (.cons rfl rfl rfl (.skip (.cons .nil)) .nil))) rfl ?_;refine uBk ?_;rintro _ K _ ⟨b18,rfl,rfl,rfl⟩ -;refine uAw ?_;refine aG (aE ?_);refine bI ?_;refine gI fun K4 le4 hb=>?_
  refine aO .nil ?_;refine e7 rfl rfl rfl (Hl.le_trans le1 (Hl.le_trans le2 (Hl.le_trans le3 le4))) ?_;exact⟨_,rfl,_,_,rfl,.inr (.inl ⟨h6,b18,r,hr,rfl,rfl,b,_,vs,_,hb,hat.mono (Hl.le_trans le2 (Hl.le_trans le3 le4)),hcv.mono le4,hvs.mono (Hl.le_trans le3 le4)⟩),rfl⟩
 ·
  refine aH (aH ?_);refine uAf ?_;refine uFb ?_;refine aG (aE ?_);refine uGe ?_;refine aH (aB ?_);refine uAa ?_;refine uAw ?_;refine aG (aE ?_);refine uCk ?_;refine aO .nil ?_;refine e7 rfl rfl rfl le1 ?_;exact⟨_,rfl,_,_,rfl,.inr (.inr ⟨h6,fb,e,p,hr,rfl,rfl,hfb⟩),rfl⟩
def aV9(s:aM)(x:Value)(K:Hl):Prop:=(∃b r,s.length≤600∧gR s=.ok r∧x=ptr b∧xA K b r)∨(x=.pointer none∧(600 < s.length∨∃e,gR s=.error e))
theorem oS(s:aM)(K:Hl)(hg:Glob K)(hE:ErrT K):Sp Tryz.prog 19 [str s] K [] (Ret fun v K' L'=>∃x,v=.tuple #[x,i64 (pc s).1,i64 (pc s).2]∧aV9 s x K'∧L'=[]):=by
 refine aZ Tryz.func19 rfl Tryz.ntmps19 rfl rfl fun F w=>?_
 refine aH (aB ?_);refine uIp ?_;refine aG (aE ?_);refine aH (aB ?_);refine uAa ?_;refine bC rfl rfl (aGN s _ hg) .nil rfl ?_;rintro _ K1 _ ⟨x,y,rfl,hP,rfl⟩ le1;refine uBy ?_;refine aG (aE ?_);rcases hP with ⟨h6,rfl,rfl⟩|⟨h6,b,r,hr,rfl,rfl,hat⟩|⟨h6,fb,e,p,hr,rfl,rfl,hfb⟩
 ·
  refine aH (aB ?_);refine uAa ?_;refine bC rfl rfl (aSG 1 _ (hE.mono le1)) .nil rfl ?_;rintro _ K _ ⟨rfl,rfl,rfl⟩ -;refine uBy ?_;refine aG (aE ?_);refine aH (aB ?_);refine uEg ?_;refine uIp ?_;refine aG (aE ?_);refine uCx ?_;refine tL rfl rfl rfl rfl le1 ?_;have hpc:pc s=(1,-1):=(by unfold pc;rw[if_pos h6]);exact⟨_,rfl,_,by rw[hpc],.inr ⟨rfl,.inl h6⟩,rfl⟩
 ·
  refine aH (aB ?_);refine uAa ?_;refine cA rfl rfl (aAY _) rfl ?_;refine uBy ?_;refine aG (aE ?_);refine aH (aB ?_);refine uEg ?_;refine uIp ?_;refine aG (aE ?_);refine uCx ?_;refine tL rfl rfl rfl rfl le1 ?_;have hpc:pc s=(0,-1):=(by unfold pc;rw[if_neg aI,hr]);exact⟨_,rfl,_,by rw[hpc],.inl ⟨b,r,h6,hr,rfl,hat⟩,rfl⟩
 ·
  refine aH (aB ?_);refine uAa ?_;refine bC rfl rfl (aLD fb e p _ [] (hE.mono le1) (.known hfb)) .nil rfl ?_;rintro _ K _ ⟨rfl,rfl,rfl⟩ -;refine uBy ?_;refine aG (aE ?_);refine aH (aB ?_);refine uEg ?_;refine uIp ?_;refine aG (aE ?_);refine uCx ?_;refine tL rfl rfl rfl rfl le1 ?_;have hpc:pc s=(e,p):=(by unfold pc;rw[if_neg aI,hr]);exact⟨_,rfl,_,by rw[hpc],.inr ⟨rfl,.inr ⟨_,hr⟩⟩,rfl⟩
theorem aTQ(b:Nat)(x:List UInt8)(xs:List (List UInt8))(l:List Value)(nv:Value)(fz:Nat×Nat)(K:Hl)(hb:K b=some (aU l 208 fz))(hl:l[6]?=some nv)(hv:Ksl (bT 9) K nv xs)(hn:xs.length≤1000000):
  Sp Tryz.prog 59 [ptr b 6,str x] K [] (Val (.bool (decide (x∈xs))) K):=by
 refine aZ Tryz.func59 rfl Tryz.ntmps59 rfl rfl fun F w=>?_
 refine aH (aB ?_);refine uAb ?_;refine aG (aE ?_);refine aH (aB ?_);refine uBz ?_;refine aA (aD (o':=6) sP rfl rfl) rfl ?_;refine aA (aJ ts39 rfl (.known hb) hl) rfl ?_;refine uAa ?_;refine bC rfl rfl (lM nv x xs _ [] (.known hv) hn) .nil rfl ?_;rintro _ K _ ⟨rfl,rfl,rfl⟩ -;refine uAb ?_;refine aG (aE ?_);refine uCx ?_;refine bF rfl rfl (Hl.le_refl _) ?_;exact⟨rfl,rfl,rfl⟩
abbrev msgV(m:Msg)(hv:Value):Value:=.agg #[str m.from_,str m.to_,i64 m.size,hv]
def aXU(out:Out):Ending→Hl→List Asn→Prop:=Ret fun v K' L'=>∃av ev M,v=.tuple #[av,ev]∧L'=sl true cY av out.acts::M∧ErrP out.err ev M
theorem aM2(b:Nat)(r:List aM×Tree)(s:aM)(m:Msg)(hv:Value)(K:Hl)(hg:Glob K)(hr:gR s=.ok r)(hl:s.length≤600)(hat:xA K b r)(hh:Ksl hdEl K hv m.hs)(hm:MsgOk m):
  Sp Tryz.prog 40 [ptr b,msgV m hv] K [] (aXU (sayC r m)):=by
 obtain⟨tb,cv,vs,fz,hb,hS,hcv,hvs⟩:=hat;obtain⟨l,nv,bv,ys,fz2,htb,hl6,hl7,hnv,_,_,_⟩:=hS.at_;obtain⟨ha,hn,hc,rfl⟩:=hh.isSlice;have hfit:=aCG hr;have hneeds:=aGU hr;have hsl:=Cmp.script_len r.2;have hins:∀o∈Cmp.script r.2,InsOk o:=fun o ho=>by
  obtain⟨q1,q2,q3,q4⟩:=Cmp.script_fit hfit.2.1 o ho;exact⟨by omega,by omega,fun x hx=>by have:=q1 x hx;omega,fun x hx=>by have:=q2 x hx;omega⟩
 refine aZ Tryz.func40 rfl Tryz.ntmps40 rfl rfl fun F w=>?_
 refine aH (aB ?_);refine uBk ?_;rintro _ K _ ⟨b3,rfl,rfl,rfl⟩ -;refine uAw ?_;refine aG (aE ?_);refine aH ?_;refine t_draw (anc:=[0,1,3,7,15,0,32,96,224,0,1023,2047,4095,4095,4095,8191,49151,131071]) (ord:=[0,1,2,3,5,6,7,8,9,4,10,11,12,13,14,15,16,17]) [4,10] [10] mixed (by decide+kernel) (cS _) ?_;refine uAd ?_;refine dl_ev rfl rfl (.none rfl) rfl rfl (aD (o':=0) aSD rfl rfl) rfl ?_;refine dl_ev rfl rfl (.none rfl) rfl rfl (aJ ts87 rfl (.known hb) rfl) rfl ?_;refine uAd ?_;refine dl_ev rfl rfl (.none rfl) rfl rfl (aD (o':=1) aSE rfl rfl) rfl ?_;refine dl_ev rfl rfl (.none rfl) rfl rfl (aJ ts42 rfl (.known hb) rfl) rfl ?_;refine dl_ev rfl rfl (.none rfl) rfl rfl (bX kC rfl aL rfl rfl) rfl ?_;refine dl_callv rfl (.none rfl) rfl rfl rfl rfl (aTQ tb eO r.1 l nv fz2 _ htb hl6 hnv aI) rfl ?_;refine gK rfl (.none rfl) rfl rfl rfl (aRN (decide (eO∈r.1)) cv (.slice ha hn hc) vs (Cmp.script r.2) m _ hg hcv hvs hh hm hins aI) .nil rfl ?_;rintro _ K1 _ ⟨av,ev,M,rfl,rfl,hev⟩ le1;refine uAj ?_;refine dl_ev rfl rfl (.none rfl) rfl rfl (aP rfl rfl) rfl ?_;refine dl_ev rfl rfl (.none rfl) rfl rfl (aP rfl rfl) rfl ?_;refine dl_ev rfl rfl (.none rfl) rfl rfl (aP rfl rfl) rfl ?_;refine uAv ?_;refine uAv ?_;refine uGn ?_;refine aE (aH ?_);refine uCf ?_;refine uAw ?_;refine aG (aE ?_);refine bI ?_;refine aPM (aPM ?_)
 refine e7 rfl rfl rfl le1 ?_;exact⟨_,rfl,av,ev,M,rfl,rfl,hev⟩
end Go.Proofs
end
section
namespace Go.Proofs
open Go Go.SL Go.Syn Go.Mach Go.Cmp
theorem aEM(m:Msg)(hv:Value)(K:Hl)(hh:Ksl hdEl K hv m.hs)(hn:m.hs.length≤1000000):Sp Tryz.prog 34 [msgV m hv] K [] (Ret fun v K' L'=>∃a n c,v=msgV m (.slice a n c)∧K'=K∧L'=[sl false hdEl (.slice a n c) m.hs]):=by
 obtain⟨ha,hn1,hc,rfl⟩:=hh.isSlice;refine aZ Tryz.func34 rfl Tryz.ntmps34 rfl rfl fun F w=>?_
 refine aH (aB ?_);refine uBk ?_;rintro _ K _ ⟨b1,rfl,rfl,rfl⟩ -;refine ol_s (cN tz28) rfl ?_;rintro _ K _ ⟨b2,rfl,rfl,rfl⟩ -;refine aG (aE ?_);refine aH (aB ?_);refine uDw ?_;refine lL (dX hdEl) ?_;refine ol_s (dM (k:=hdEl) (ys:=m.hs) aE4 rfl rfl .here (fun w j=>dB Tryz.underlying26 (SeesSl.at (k:=hdEl) (.known hh) j)) (by simp;omega) (by simp;omega)) rfl ?_;rintro v5 K _ ⟨rfl,rfl,ho5⟩ -;refine aT4 aAP ?_;rintro⟨sa,sn,sc,rfl⟩;refine aA (aD (o':=3) lQ rfl rfl) rfl ?_;refine bP (bH ts26 rfl rfl cD aX (.succ (.succ (.succ .zero))) rfl) ?_;rintro _ K _ ⟨rfl,rfl⟩ -;refine aG (aE ?_);refine aH (aB ?_);refine uEp ?_;refine bP (cJ kC rfl rfl rfl aX (by first|(simp[Value.oneCell'];done)|exact fun c hc=>El.one _ _ c hc) (.cons (.cons (.cons (.cons .nil)))) (by intro j hj;simp)) ?_;rintro _ K _ ⟨rfl,rfl⟩ -;refine aG (aE ?_);refine bI ?_;refine vX rfl rfl kC aL rfl rfl (Hl.le_refl _) (.cons .here .nil) ?_;exact⟨_,rfl,_,_,_,rfl,rfl,rfl⟩
structure TI where
 i:Nat
 xs:List (aM×aM)
def mine:aM:=[109,105,110,101]
theorem aC8(m:Msg)(hv:Value)(hs:List (aM×aM))(K:Hl)(hn:hs.length≤1000000):Sp Tryz.prog 36 [msgV m hv] K [sl false hdEl hv hs] (Ret fun v K' L'=>v=.tuple #[]∧K'=K∧L'=[]):=by
 refine aZ Tryz.func36 rfl Tryz.ntmps36 rfl rfl fun F w=>?_
 refine aAS aAP ?_;rintro⟨sa,sn,sc,rfl⟩;refine aH (aB ?_);refine uBk ?_;rintro _ K _ ⟨b1,rfl,rfl,rfl⟩ -;refine aG (aE ?_);refine aH (aB ?_);refine uDw ?_;refine aA (cB (k:=hdEl) rfl Tryz.underlying26 rfl aL) rfl ?_;refine uAa ?_;refine aG (aE ?_);refine bE ?_;refine eR (fun(q:TI)=>q.i≤hs.length∧q.xs.length=hs.length) (fun q=>[(1,ptr b1),(5,i64 hs.length),(6,i64 q.i)]) (fun _=>K) (fun q=>[pt b1 (aU [str m.from_,str m.to_,i64 m.size,.slice sa sn sc] 28),sl false hdEl (.slice sa sn sc) q.xs]) (fun q=>hs.length - q.i) ⟨0,hs⟩ ⟨Nat.zero_le _,rfl⟩ (.cons 1 rfl (.cons 5 rfl (.cons 6 rfl .nil))) rfl (fun _ h=>h) ?_;intro ⟨i,xs⟩ ⟨hi0,hx⟩;dsimp only at hi0 hx ⊢;refine aH (aB ?_);refine uBn ?_;refine aG (aE ?_);refine aH ?_;refine bK 7 rfl (fun h7=>?_) (fun h7=>?_)
 ·
  have hilt:i < xs.length:=by omega
  refine aW ?_;refine aE (aH ?_);refine bE (aH ?_);refine uFz ?_;refine aG (aE ?_);refine aB ?_;refine uDw ?_;refine uAa ?_;refine aA (cP tb25 aVN (.cons rfl rfl rfl (.cons .nil) (.cons rfl rfl rfl (.skip (.cons .nil)) .nil))) rfl ?_;refine aA (b0 (k:=hdEl) pO rfl aL rfl rfl (by first|assumption|omega)) rfl ?_;refine bP (aEP (k:=hdEl) (y0:=(mine,mine)) aJN rfl rfl (by first|assumption|omega) aX) ?_;rintro _ K _ ⟨rfl,rfl⟩ -;refine aG (aN ?_);refine aE (aB ?_);refine uAo ?_;exact cQ ⟨i+1,xs.set i (mine,mine)⟩ ⟨by (show i+1≤hs.length);omega,by simpa using hx⟩ (by (show hs.length - (i+1) < hs.length - i);omega) (.cons 1 rfl (.cons 5 rfl (.cons 6 rfl .nil))) rfl (fun _ h=>h)
 ·
  refine uAp ?_;refine aO .nil ?_;refine dD rfl (Hl.le_refl _) ?_;exact⟨_,rfl,rfl,rfl,rfl⟩
theorem aM3(b:Nat)(r:List aM×Tree)(s:aM)(m:Msg)(hv:Value)(K:Hl)(hg:Glob K)(hr:gR s=.ok r)(hl:s.length≤600)(hat:xA K b r)(hm:MsgOk m):
  Sp Tryz.prog 40 [ptr b,msgV m hv] K [sl false hdEl hv m.hs] (Ret fun v K' L'=>∃av ev M,v=.tuple #[av,ev]∧L'=sl false hdEl hv m.hs::sl true cY av (sayC r m).acts::M∧ErrP (sayC r m).err ev M):=by
 have h:=aK5 (K:=K) (L1:=[sl false hdEl hv m.hs]) (L:=[]) (R:=fun e L'=>∃v,e=.returned v∧∃av ev M,v=.tuple #[av,ev]∧L'=sl true cY av (sayC r m).acts::M∧ErrP (sayC r m).err ev M) ⟨_,Tryz.func40,rfl,rfl⟩ (fun h1 hs d=>(aM2 b r s m hv (K.join h1) (hg.mono Hl.le_join_l) hr hl (hat.mono Hl.le_join_l) ((aKU .here hs).mono (Hl.le_join_r d)) hm).mono fun e K' L' q=>q);refine h.mono ?_;rintro e K' L' ⟨L'',⟨v,rfl,av,ev,M,rfl,rfl,hev⟩,rfl⟩;exact⟨_,rfl,av,ev,M,rfl,rfl,hev⟩
theorem aCH(b:Nat)(r:List aM×Tree)(s:aM)(m:Msg)(hv:Value)(K:Hl)(hg:Glob K)(hE:ErrT K)(hr:gR s=.ok r)(hl:s.length≤600)(hat:xA K b r)(hh:Ksl hdEl K hv m.hs)(hm:MsgOk m):
  Sp Tryz.prog 21 [ptr b,msgV m hv] K [] (Ret fun v K' L'=>∃av,v=.tuple #[av,i64 (te (sayC r m).err).1,i64 (te (sayC r m).err).2]∧L'=[sl true cY av (sayC r m).acts]):=by
 have hhn:=hm.hn;obtain⟨ha,hn,hc,rfl⟩:=hh.isSlice;refine aZ Tryz.func21 rfl Tryz.ntmps21 rfl rfl fun F w=>?_
 refine aH (aB ?_);refine uBk ?_;rintro _ K _ ⟨b3,rfl,rfl,rfl⟩ -;refine uIp ?_;refine aG (aE ?_);refine aH (aB ?_);refine uEp ?_;refine bC rfl rfl (aEM m _ _ hh hhn) .nil rfl ?_;rintro _ K _ ⟨sa,sn,sc,rfl,rfl,rfl⟩ -;refine ol_s (cN tz28) rfl ?_;rintro _ K _ ⟨b7,rfl,rfl,rfl⟩ -;refine bP (cJ kC rfl rfl rfl aX (by first|(simp[Value.oneCell'];done)|exact fun c hc=>El.one _ _ c hc) (.cons (.cons (.cons (.cons .nil)))) (by intro j hj;simp)) ?_;rintro _ K _ ⟨rfl,rfl⟩ -;refine aG (aE ?_);refine aH (aB ?_);refine uAa ?_;refine uEp ?_;refine bC rfl rfl (aM3 b r s m (.slice sa sn sc) _ hg hr hl hat hm) (.cons (.there .here) .nil) rfl ?_;rintro _ K1 _ ⟨av,ev,M,rfl,rfl,hev⟩ le1;refine uBy ?_;refine aG (aE ?_);rcases herr:(sayC r m).err with _|⟨e,p⟩
 ·
  rw[herr]at hev;obtain⟨rfl,rfl⟩:=hev;refine aH (aB ?_);refine uEp ?_;refine bC rfl rfl (aC8 m (.slice sa sn sc) m.hs _ hhn) (.cons .here .nil) rfl ?_;rintro _ K1 _ ⟨rfl,rfl,rfl⟩ -;refine aG (aE ?_);refine aH (aB ?_);refine uAa ?_;refine cA rfl rfl (aAY _) rfl ?_;refine uBy ?_;refine aG (aE ?_);refine aH (aB ?_);refine uEg ?_;refine uIp ?_;refine aG (aE ?_);refine uDi ?_;refine tL rfl rfl rfl rfl le1 ?_;exact⟨_,rfl,av,rfl,rfl⟩
 ·
  rw[herr]at hev;obtain⟨fb,rfl,rfl⟩:=hev;refine aH (aB ?_);refine uEp ?_;refine bC rfl rfl (aC8 m (.slice sa sn sc) m.hs _ hhn) (.cons .here .nil) rfl ?_;rintro _ K1 _ ⟨rfl,rfl,rfl⟩ -;refine aG (aE ?_);refine aH (aB ?_);refine uAa ?_;refine bC rfl rfl (aLD fb e p _ [pt fb (aU [i64 e,i64 p] 123)] (hE.mono le1) (.own .here)) (.cons (.there .here) .nil) rfl ?_;rintro _ K1 _ ⟨rfl,rfl,rfl⟩ -;refine uBy ?_;refine aG (aE ?_);refine aH (aB ?_);refine uEg ?_;refine uIp ?_;refine aG (aE ?_);refine bI ?_;refine uEy ?_;refine tL rfl rfl rfl rfl le1 ?_;exact⟨_,rfl,av,rfl,rfl⟩
end Go.Proofs
end
section
namespace Go.Proofs
open Go Go.SL Go.Syn Go.Mach Go.Cmp
structure CI where
 i:Nat
 v:Value
 ws:List InsV
end Go.Proofs
end
section
namespace Go.Proofs
open Go Go.SL Go.Syn Go.Mach Go.Cmp
structure PI where
 i:Nat
 ws:List InsV
structure PJ where
 k:Nat
 xs:List aM
end Go.Proofs
end
section
namespace Go.Proofs
open Go Go.SL Go.Syn Go.Mach Go.Cmp
structure MsgSz (m:Msg):Prop where
 from_:m.from_.length≤140737488355328
 to_:m.to_.length≤140737488355328
 hn:m.hs.length≤140737488355328
 hs:∀h∈m.hs,h.1.length≤140737488355328∧h.2.length≤140737488355328
structure SI where
 i:Nat
 n:Int
theorem aHH(m:Msg)(hv:Value)(K:Hl)(hh:Ksl hdEl K hv m.hs)(hz:MsgSz m):Sp Tryz.prog 17 [msgV m hv] K [] (Ret fun v K' L'=>∃b:Bool,v=.bool b∧(b=true→MsgOk m)∧K'=K∧L'=[]):=by
 obtain⟨z1,z2,z3,z4⟩:=hz;obtain⟨ha,hn,hc,rfl⟩:=hh.isSlice;refine aZ Tryz.func17 rfl Tryz.ntmps17 rfl rfl fun F w=>?_
 refine aH (aB ?_);refine uBk ?_;rintro _ K _ ⟨b1,rfl,rfl,rfl⟩ -;refine uAb ?_;refine aG (aE ?_);refine aH (aB ?_);refine aA (aD (o':=0) aHU rfl rfl) rfl ?_;refine uBl ?_;refine uBs ?_;refine aA (aD (o':=1) aHV rfl rfl) rfl ?_;refine uBl ?_;refine uBs ?_;refine uCj ?_;refine uDw ?_;refine aA (cB (k:=hdEl) rfl Tryz.underlying26 rfl aL) rfl ?_;refine uCj ?_;refine uAb ?_;refine aG (aE ?_);refine aH (aH ?_);refine uFr ?_;refine aG (aE ?_);refine bE ?_;refine eR (fun(q:SI)=>q.i≤m.hs.length∧0≤q.n∧q.n≤844424930131968∧(q.n≤16384→m.from_.length≤16384∧m.to_.length≤16384∧m.hs.length≤16384∧∀j h,j < q.i→m.hs[j]?=some h→h.1.length≤16384∧h.2.length≤16384)) (fun q=>[(1,ptr b1),(3,i64 q.n),(4,i64 q.i)]) (fun _=>K) (fun _=>[pt b1 (aU [str m.from_,str m.to_,i64 m.size,.slice ha hn hc] 28)]) (fun q=>m.hs.length - q.i) ⟨0,(m.from_.length:Int)+m.to_.length+m.hs.length⟩ ⟨Nat.zero_le _,by simp only[];omega,by simp only[];omega,fun h=>⟨by simp only[]at h;omega,by simp only[]at h;omega,by simp only[]at h;omega,fun j h hj=>by simp only[]at hj;omega⟩⟩ (.cons 1 rfl (.cons 3 rfl (.cons 4 rfl .nil))) rfl (fun _ h=>h) ?_;intro ⟨i,n⟩ ⟨hi0,hn0,hn1,hn2⟩;dsimp only at hi0 hn0 hn1 hn2 ⊢;refine aH (aH ?_);refine uAf ?_;refine uDw ?_;refine aA (cB (k:=hdEl) rfl Tryz.underlying26 rfl aL) rfl ?_;refine uBn ?_;refine uAa ?_;refine cG 21 rfl (fun g21=>?_) (fun g21=>?_)
 ·
  have hilt:i < m.hs.length:=by omega
  obtain⟨x,hx⟩:∃x,m.hs[i]?=some x:=⟨m.hs[i]'hilt,List.getElem?_eq_getElem hilt⟩;have hxz:=z4 x (List.mem_of_getElem? hx);refine uAi ?_;refine uEs ?_;refine uAy ?_;refine aG (aE ?_);refine bK 24 rfl (fun h24=>?_) (fun h24=>?_)
  ·
   refine aW ?_;refine aE (aH ?_);refine bE ?_;refine t_draw (anc:=[0,0,2,0,14,30,62,126,255,0,512,0,3584,7680,15872,32256,65535,131071]) (ord:=[0,1,2,3,4,5,6,7,8,9,10,11,12,13,14,15,16,17]) [] [] mixed (by decide+kernel) (cS _) ?_;refine uAj ?_;refine uHs ?_;refine dl_ev rfl rfl (.none rfl) rfl rfl (b0 (k:=hdEl) pO rfl aL rfl rfl (by first|assumption|omega)) rfl ?_;refine dl_ev rfl rfl (.none rfl) rfl rfl (m9 (k:=hdEl) aHS rfl aL (by first|assumption|omega)) rfl ?_;refine dl_ev rfl rfl (.none rfl) rfl rfl (zF (k:=hdEl) ts9 rfl aL bU rfl) rfl ?_;refine uDp ?_;refine uCp ?_;refine uHs ?_;refine dl_ev rfl rfl (.none rfl) rfl rfl (b0 (k:=hdEl) pO rfl aL rfl rfl (by first|assumption|omega)) rfl ?_;refine dl_ev rfl rfl (.none rfl) rfl rfl (m9 (k:=hdEl) aHT rfl aL (by first|assumption|omega)) rfl ?_;refine dl_ev rfl rfl (.none rfl) rfl rfl (zF (k:=hdEl) ts9 rfl aL bU rfl) rfl ?_;refine uDp ?_;refine uCp ?_;refine uGn ?_;refine aN (aE ?_);refine uAf ?_;refine uCj ?_;refine uAb ?_;refine aG ?_;exact cQ ⟨i+1,n+x.1.length+x.2.length⟩ ⟨by (show i+1≤m.hs.length);omega,by (show (0:Int)≤n+x.1.length+x.2.length);omega,by (show n+x.1.length+x.2.length≤(844424930131968:Int));omega,fun h=>by simp only[]at h;obtain⟨q1,q2,q3,q4⟩:=hn2 aI;exact⟨q1,q2,q3,fun j y hj hy=>by rcases Nat.lt_or_ge j i with h5|h5;exact q4 j y h5 hy;(obtain rfl:j=i:=(by simp only[]at hj;omega));rw[hx]at hy;cases hy;omega⟩⟩ (by (show m.hs.length - (i+1) < m.hs.length - i);omega) (.cons 1 rfl (.cons 3 rfl (.cons 4 rfl .nil))) rfl (fun _ h=>h)
  ·
   refine uAp ?_;refine aE (aH ?_);refine uAf ?_;refine uEs ?_;refine uAb ?_;refine aG (aE ?_);refine uCx ?_;refine bF rfl rfl (Hl.le_refl _) ?_;exact⟨_,rfl,_,rfl,fun h=>absurd (of_decide_eq_true h) h24,rfl,rfl⟩
 ·
  refine uGo ?_;refine aG (aE ?_);refine uHq ?_;refine uAp ?_;refine aE (aH ?_);refine uAf ?_;refine uEs ?_;refine uAb ?_;refine aG (aE ?_);refine uCx ?_;refine bF rfl rfl (Hl.le_refl _) ?_;refine⟨_,rfl,_,rfl,fun h=>?_,rfl,rfl⟩
  obtain⟨q1,q2,q3,q4⟩:=hn2 (of_decide_eq_true h);exact⟨by omega,fun x hx=>by obtain⟨j,hj⟩:=List.getElem?_of_mem hx;have:=q4 j x (by have:=nP hj;omega) hj;omega,by omega,by omega⟩
theorem aB4(s:aM)(m:Msg)(hv:Value)(K:Hl)(hg:Glob K)(hE:ErrT K)(hh:Ksl hdEl K hv m.hs)(hm:MsgOk m):Sp Tryz.prog 16 [str s,msgV m hv] K [] (Ret fun v K' L'=>∃av,v=.tuple #[av,i64 (rn s m).2.1,.bool (rn s m).2.2]∧L'=[sl true cY av (rn s m).1]):=by
 have hh0:=hh;obtain⟨ha,hn,hc,rfl⟩:=hh.isSlice;refine aZ Tryz.func16 rfl Tryz.ntmps16 rfl rfl fun F w=>?_
 refine aH (aB ?_);refine uBk ?_;rintro _ K _ ⟨b3,rfl,rfl,rfl⟩ -;refine uIp ?_;refine aG (aE ?_);refine aH (aB ?_);refine uAa ?_;refine bC rfl rfl (oS s _ hg hE) .nil rfl ?_;rintro _ K1 _ ⟨x,rfl,hP,rfl⟩ le1;refine uBw ?_;refine aG (aE ?_);rcases hP with ⟨b,r,h6,hr,rfl,hat⟩|⟨rfl,hno⟩
 ·
  have hpc:pc s=(0,-1):=(by unfold pc;rw[if_neg aI,hr]);rw[hpc];have hrn:rn s m=((sayC r m).acts,(te (sayC r m).err).1,true):=(by unfold rn;rw[if_neg aI,hr]);refine aH (aH ?_);refine uHn ?_;refine uDg ?_;refine uDu ?_;refine uAt ?_;refine aG (aE ?_);refine bK 24 rfl (fun h24=>?_) (fun h24=>?_)
  ·
   exact absurd rfl h24
  ·
   refine aW ?_;refine aE (aH ?_);refine uAf ?_;refine uEp ?_;refine bC rfl rfl (aCH b r s m (.slice ha hn hc) _ (hg.mono le1) (hE.mono le1) hr h6 hat (hh0.mono le1) hm) .nil rfl ?_;rintro _ K2 _ ⟨av,rfl,rfl⟩ le2;refine uBw ?_;refine aG (aE ?_);refine aH (aB ?_);refine uAx ?_;refine uIp ?_;refine aG (aE ?_);refine uDi ?_;refine tL rfl rfl rfl rfl (Hl.le_trans le1 le2) ?_;exact⟨_,rfl,av,by rw[hrn],by rw[hrn]⟩
 ·
  have hrn:rn s m=([],(pc s).1,false):=(by unfold rn pc;rcases hno with h|⟨e,h⟩;(rw[if_pos h,if_pos h]);(split;rfl;rw[h]));refine aH (aH ?_);refine uHn ?_;refine uAa ?_;refine uBj ?_;refine uAy ?_;refine aG (aE ?_);refine uGe ?_;refine aH (aB ?_);refine uAa ?_;refine uIp ?_;refine aG (aE ?_);refine uCk ?_;refine aO .nil ?_;refine dN (fun h hh=>tZ (zf:=true) (k:=cY) hh) ?_;refine tL rfl rfl rfl rfl le1 ?_;exact⟨_,rfl,_,by rw[hrn],by rw[hrn]⟩
theorem aGV(K:Hl)(hg:Glob K)(hE:ErrT K):Sp Tryz.prog 23 [] K [] (Ret fun v K' L'=>v=.bool true∧L'=[]):=by
 have h1:=aYK;have h2:=aYL;refine aZ Tryz.func23 rfl Tryz.ntmps23 rfl rfl fun F w=>?_
 refine aH (aB ?_);refine uAb ?_;refine aG (aE ?_);refine aH (aB ?_);refine bC rfl rfl (oS t1 _ hg hE) .nil rfl ?_;rintro _ K1 _ ⟨x,rfl,hP,rfl⟩ le1;rw[h1];obtain⟨b,rfl⟩:∃b,x=ptr b:=(by rcases hP with ⟨b,_,_,_,rfl,_⟩|⟨_,hno⟩;exact⟨b,rfl⟩;(exfalso;unfold pc at h1;rcases hno with h|⟨e,h⟩;(rw[if_pos h]at h1;cases h1);(split at h1;cases h1;rw[h]at h1;simp only[]at h1;subst h1;exact absurd h (by intro h;have:=aYS;rw[h]at this;cases this))));refine uBw ?_;refine aG (aE ?_);refine aH (aB ?_);refine bC rfl rfl (oS tb _ (hg.mono le1) (hE.mono le1)) .nil rfl ?_;rintro _ K2 _ ⟨y,rfl,hP2,rfl⟩ le2;rw[h2];obtain rfl:y=.pointer none:=(by rcases hP2 with ⟨b,r,h6,hr,_,_⟩|⟨rfl,_⟩;(exfalso;unfold pc at h2;rw[if_neg aI,hr]at h2;cases h2);rfl);refine uBw ?_;refine aG (aE ?_);refine aH (aB ?_);refine uAa ?_;refine aA (aIN Tryz.underlying43 rfl rfl) rfl ?_;refine uDg ?_;refine uHy ?_;refine aA (kN Tryz.underlying43 rfl rfl) rfl ?_;refine uAy ?_;refine uDg ?_;refine uHy ?_;refine uAq ?_;refine uDv ?_;refine aG (aE ?_);refine bI ?_;refine bF rfl rfl (Hl.le_trans le1 le2) ?_;exact⟨_,rfl,rfl,rfl⟩
end Go.Proofs
end
section
namespace Go.Proofs
open Go Go.SL Go.Syn Go.Mach Go.Cmp
theorem aVG:MsgOk m1:=⟨by decide,by decide,by decide,by decide⟩
theorem aNM(K:Hl)(hg:Glob K)(hE:ErrT K):Sp Tryz.prog 14 [] K [] (Ret fun v K' L'=>v=.bool true∧L'=[]):=by
 have h1:=aYO;have h2:=aYP;refine aZ Tryz.func14 rfl Tryz.ntmps14 rfl rfl fun F w=>?_
 refine aH (aB ?_);refine uAb ?_;refine aG (aE ?_);refine aH (aB ?_);refine bC rfl rfl (aGV _ hg hE) .nil rfl ?_;rintro _ K1 _ ⟨rfl,rfl⟩ le1;refine uAb ?_;refine aG (aE ?_);refine aH (aB ?_);refine aA (cP tb25 aVN (.cons rfl rfl rfl (.cons .nil) (.cons rfl rfl rfl (.skip (.cons .nil)) .nil))) rfl ?_;refine ol_s (bN (z0:=[(str []),(str [])]) pO tz25 rfl rfl rfl rfl (.cons rfl rfl rfl (.cons (.cons .nil)) .nil)) rfl ?_;rintro _ K _ ⟨b11,rfl,rfl,rfl⟩ -;refine fD fun K2 le2 hb11=>?_
 have hh:Ksl hdEl K2 (.slice (some ⟨b11,0,none⟩) 1 1) m1.hs:=.inr ⟨b11,0,1,_,_,rfl,⟨_,hb11⟩,rfl⟩;have le12:=Hl.le_trans le1 le2;refine aA (cP tb28 aY1 (.cons rfl rfl rfl (.skip (.skip (.skip (.cons .nil)))) .nil)) rfl ?_;refine ol_s (cN tz28) rfl ?_;rintro _ K _ ⟨b2,rfl,rfl,rfl⟩ -;refine bP (cJ kC rfl rfl rfl aX (by first|(simp[Value.oneCell'];done)|exact fun c hc=>El.one _ _ c hc) (.cons (.cons (.cons (.cons .nil)))) (by intro j hj;simp)) ?_;rintro _ K _ ⟨rfl,rfl⟩ -;refine aG (aE ?_);refine aH (aB ?_);refine uEp ?_;refine bC rfl rfl (aB4 t1 m1 _ _ (hg.mono le12) (hE.mono le12) hh aVG) .nil rfl ?_;rintro _ K3 _ ⟨av,rfl,rfl⟩ le3;rw[h1];have hh3:=hh.mono le3;have le13:=Hl.le_trans le12 le3;refine uBw ?_;refine aG (aE ?_);refine aH (aB ?_);refine uEp ?_;refine bC rfl rfl (aB4 t2 m1 _ _ (hg.mono le13) (hE.mono le13) hh3 aVG) .nil rfl ?_;rintro _ K4 _ ⟨bv,rfl,rfl⟩ le4;rw[h2];have le14:=Hl.le_trans le13 le4;refine uBw ?_;refine aG (aE ?_);refine aH (aB ?_);refine uAx ?_;refine uHx ?_;refine uFo ?_;refine uHx ?_;refine uAy ?_;refine uDg ?_;refine uHy ?_;refine uHy ?_;refine aA (cB (k:=cY) rfl Tryz.underlying29 rfl (.own (.there .here))) rfl ?_;refine uAz ?_;refine uHy ?_;refine aA (cB (k:=cY) rfl Tryz.underlying29 rfl (.own .here)) rfl ?_;refine uAz ?_;refine uHy ?_;refine aA (b0 (k:=cY) (j:=0) iS rfl (.own .here) rfl rfl (by decide)) rfl ?_;refine uAz ?_;refine aA (eE (n:=0) (k:=cY) kD rfl (.own .here) rfl) rfl ?_;refine uAz ?_;refine aA (cP tb34 aCV (.cons rfl rfl rfl (.cons .nil) (.cons rfl rfl rfl (.skip (.cons .nil)) .nil))) rfl ?_;refine uAz ?_;refine aA (aBY (a:=(3,[97,64,98])) (c:=(3,[97,64,98])) rfl rfl) rfl ?_;refine uDv ?_;refine aG (aE ?_);refine uCx ?_;refine bF rfl rfl le14 ?_;exact⟨_,rfl,rfl,rfl⟩
def vs4:List InsV:=[⟨1,1,0,false,nilC,nilC,0⟩,⟨4,1,0,false,nilC,nilC,0⟩,⟨14,0,0,false,nilC,nilC,0⟩,⟨13,0,0,false,nilC,nilC,0⟩]
end Go.Proofs
end
section
set_option maxRecDepth 100000
namespace Go
theorem mD{H:Type}{enc:TypeId×Value→H}{a:Assume}{C:Checked}{os:Os}{f:FuncId}{fn:Func}{s:ChangeSpec}{conds:List PathCond}{apart fresh handsOn again:Bool}{X:World→Array Value→Prop}
  (hX:∀(w w':World) (args:Array Value),w.heap=w'.heap→X w args→X w' args)
  (own:ownKnob C.prog.godebug=none) (started:os.Started) (noInit:C.prog.inits.idxOf? f=none) (hfn:C.prog.funcs[f]?=some fn)
  (witness : ∃ (w : World) (tape : Tape) (i : Input), w.os = os ∧ (w.forCall tape i).Shaped C.prog ∧ i.vars = [] ∧ Input.okWide C.prog (w.forCall tape i) .any w.heap.size f i ∧
   ((s.pre enc C.prog fn conds apart (w.forCall tape i).memory i.args∧X (w.forCall tape i).memory i.args)∧sizedMet enc C.prog fn (OpenSpec.ofChange s) apart (w.forCall tape i).memory i.args)∧a.holds C.prog (lone (Frame.enter C.prog f i.args .normal) [] (w.forCall tape i)))
  (contract : ∀ (W : World) (base : Nat) (args : Array Value) (ds gs : List (DataW H)) (before : List MemPlace),
   (∀(j:Nat) t v,fn.params[j]?=some t→args[j]?=some v→Value.okWide C.prog W .any base t v)→
   DataW.Whole enc C.prog fn.params.toList s.vars apart W args.toList ds gs before→
   conds.all (PathCond.test C.prog ⟨fn.params.toList,ds,s.plain.varTypes C.prog,gs⟩)=true→
   (DataW.weightsEach C.prog (fn.params.toList++s.plain.varTypes C.prog) (ds++gs)).all (· ≤reachBytes)=true→X W args→W.ShapedOpen C.prog→
   a.holds C.prog (lone (Frame.enter C.prog f args .normal) [] W)→
   Calls C.prog f args W fun e W'=>∃v,e=.returned v∧s.post enc C.prog fn apart fresh handsOn again W args v W'):
  ReturnsInHanded a C os f .any (fun w args=>(s.pre enc C.prog fn conds apart w args∧X w args)∧sizedMet enc C.prog fn (OpenSpec.ofChange s) apart w args) (s.post enc C.prog fn apart fresh handsOn again):=by
 refine returnsInHanded_of_calls own started noInit witness ?_;intro w tape i _ hsh _ hok hpre hholds;obtain⟨_,_,_,fn',hfn',_,_,_,_,hval⟩:=hok;have e:fn'=fn:=Option.some.inj (hfn'.symm.trans hfn);subst e;obtain⟨⟨⟨ds,gs,before,hw,hc⟩,hx⟩,hz⟩:=hpre;have hw':=DataW.Whole.of_heap (w':=w.forCall tape i) (by rfl) hw;refine(contract (w.forCall tape i) w.heap.size i.args ds gs before hval hw' hc (hz.weights hw) (hX _ _ _ (by rfl) hx) hsh hholds).mono fun e W' ⟨v,he,hp⟩=>?_
 subst he;exact ChangeSpec.post_blind hp
end Go
namespace Go.Proofs
open Go Go.SL Go.Mach Go.ChangeShapes Go.WideShapes Go.RowKit
open YthopmddkpdehiaaGreatDoor (Rows.laid_math_bits_deBruijn32tab Rows.laid_math_bits_deBruijn64tab Rows.laid_internal_strconv_uint64pow10 Rows.laid_errors_errorType)
namespace TzRow
theorem own:ownKnob Tryz.prog.godebug=none:=by kernel_rfl
theorem laidOut:laidOutB Tryz.prog=true:=by kernel_rfl
theorem gPow:Tryz.prog.globalNamed "internal/strconv.uint64pow10"=some 2:=by kernel_rfl
theorem aX3:(Tryz.prog.globals[2]?).map (·.type)=some 475:=by kernel_rfl
theorem rt:(Tryz.prog.cutTypes.find? (·.1=="internal/reflectlite.rtype")).map (·.2)=some 265:=by kernel_rfl
theorem et:Tryz.prog.globalNamed "errors.errorType"=some 0:=by kernel_rfl
theorem aW3:((List.range Tryz.prog.types.size).filter fun t=>Tryz.prog.rowNamed t [101,114,114,111,114])=[79]:=by kernel_rfl
theorem aM9{W:World}{l:List (String×DataW Unit)}(hl:handlesMet Tryz.prog [("errors.errorType",YthopmddkpdehiaaGreatDoor.Rows.laid_errors_errorType)] W):ErrT (hp W):=by
 obtain⟨name,u,ty,e1,e2,e3,e4,e5⟩:=hl _ (List.mem_singleton.2 rfl);have en:name=[101,114,114,111,114]:=(Option.some.inj e1).symm;subst en;obtain rfl:=Option.some.inj (rt.symm.trans e2);have hm:ty∈(List.range Tryz.prog.types.size).filter fun t=>Tryz.prog.rowNamed t [101,114,114,111,114]:=List.mem_filter.2 ⟨List.mem_range.2 e3,e4⟩
 rw[aW3]at hm;obtain rfl:=List.mem_singleton.1 hm;have hh:typeHandle Tryz.prog 79=hd 79:=by kernel_rfl
 rw[hh]at e5;unfold World.var? at e5;rw[et]at e5;simp only[Option.bind_some]at e5;split at e5
 ·rename_i cs T fz hw;have:=Option.some.inj e5;subst this;exact⟨T,fz,hw⟩
 ·cases e5
theorem aXD{w w':World}{nm:String}{k:IntKind}{zs:List Int}(h:Lib.TabIs Tryz.prog w nm k zs)(le:(hp w).le (hp w')):Lib.TabIs Tryz.prog w' nm k zs:=by
 unfold Lib.TabIs World.var? at*;cases hg:Tryz.prog.globalNamed nm with
 |none=>rw[hg]at h;simp at h
 |some g=>
  rw[hg]at h;simp only[Option.bind_some]at h ⊢;split at h
  ·rename_i cs T fz hw;have:=le g _ hw;simp only[hp]at this;rw[this];exact h
  ·cases h
theorem aQ0{W:World}(h:W.ShapedOpen Tryz.prog):∃m T fz,hp W 1=some (aU [i64 m] T fz):=by
 obtain⟨m,hm⟩:=cell_of_shapedOpen_int (P:=Tryz.prog) (g:=1) (t:=3) (zero:= #[.int .i64 0]) (k:=.i64) h (of_decide_eq_true bR) bR rfl bR bR bR;obtain⟨cs,hh,hs,_⟩:=h.1 1 #[.int .i64 0] 3 (of_decide_eq_true bR) bR;have h1:cs.size=1:=hs;refine⟨m,3,(0,0),?_⟩
 show W.heap[1]?=_
 rw[hh];have hc:cs= #[i64 m]:=by
  have:cs[0]?=some (i64 m):=by simpa[World.cell?,hh]using hm
  obtain⟨l⟩:=cs
  match l,h1,this with
  | [c],_,this=>simp at this;rw[this]
 rw[hc]
theorem door_shaped(os:Os)(args:Array Value):((World.doorLaid Tryz.prog 100 os).forCall (fun _ _=>0) ⟨#[],args,[]⟩).Shaped Tryz.prog:=
 World.shaped_of_RefB bR bR
end TzRow
end Go.Proofs
end

/-
  What the proof stands on, part 8: the logic of walks, the walks through the functions, the plain laws. Conditions: as each theorem says. (Merged and shortened by a program.)
-/
import Derived.Test.YthopmddkpdehiabGreatDoorK6
set_option linter.unusedVariables false
set_option linter.unusedSimpArgs false
set_option linter.defProp false
set_option maxRecDepth 4000
set_option maxHeartbeats 1000000
namespace Go
def gDV{p:Prop}(h:p:=by simp[wf]at hw):p:=h
def gFO{p:Prop}(h:p:=by simp only[cnt]at hc;omega):p:=h
def gGG{p:Prop}(h:p:=by simpa[wf]using hw):p:=h
end Go
section
namespace Go.Syn
variable{s:aP}
def bBO(ns:List aP)(e:aP):(addN ns e).length≤ns.length+1:=by unfold addN;split <;> simp
variable{s:aP}
def aBC:∀(l ns:List aP),(jK ns l).length≤ns.length+l.length
 | [],ns=>by simp[jK]
 |e::l,ns=>by
  have h1:=aBC l (addN ns e);have h2:=bBO ns e;unfold jK at h1 ⊢;simp only[List.foldl_cons,List.length_cons]at h1 ⊢;omega
def aP6:∀(f:Nat) (ns:List aP) (st:St) (r:List aP×St),Ok s st→reqF s f ns st=.ok r→r.1.length≤ns.length+mu s st
 |0,ns,st,r,_,h=>by cases h
 |f+1,ns,st,r,hok,h=>by
  unfold reqF at h;split at h
  ·rename_i hk;split at h
   ·cases h
   rename_i q hq;have hk2:st.2.kind≠0:=by omega
   have h1:=gY hok.1 hk2 hq;have h1o:=fX hok.1 hq;split at h
   ·cases h
   rename_i l hl;have h2:=oK h1o hl;have h2l:=xK h1o hl;split at h
   ·cases h
   rename_i q2 hq2;have h3:=jQ h2.1 hq2;have h4:=aP6 f _ _ _ h3.1 h;have h5:=aBC l.1 ns;omega
  cases h;simp
def tX{r:List aP×Tree}(h:gN s=.ok r):r.1.length≤2*s.length+1:=by
 unfold gN at h;split at h
 ·cases h
 rename_i q hq;have h1:=fX (x9 _) hq;unfold jP at h;split at h
 ·cases h
 rename_i n hn;have h2:=aP6 _ _ _ _ h1 hn;have h3:=xP s q;split at h
 ·cases h
 split at h
 ·cases h
  show n.1.length≤_
  have h2':n.1.length≤mu s q:=by simpa using h2
  omega
 cases h
end Go.Syn
end

/-
  What the proof stands on, part 60: the logic of walks, the walks through the functions, the plain laws. Conditions: as each theorem says. (Merged and shortened by a program.)
-/
import Derived.Test.YthopmddkpdehiabGreatDoorK38
import Derived.Test.YthopmddkpdehiabGreatDoorK56
set_option linter.unusedVariables false
set_option linter.unusedSimpArgs false
set_option linter.defProp false
set_option maxRecDepth 4000
set_option maxHeartbeats 1000000
section
namespace Go.Syn
open Go.SL Go.Proofs
open Go.Say (elems elemsC brL brO)
open Go.Cmp (gS cnt)
def aZS(c:UInt8):(jE c).length≤2:=by unfold jE;split;decide;split;decide;simp
def aGW:∀l:aP,(l.flatMap jE).length≤2*l.length
 | []=>by simp
 |c::l=>by have:=aGW l;have:=aZS c;rw[xBM,xAF,xBI];omega
def p5{s:aP}{i:Nat}{c:UInt8}(h:s[i]?=some c):(s.take (i+1)).flatMap jE=(s.take i).flatMap jE++jE c:=by
 rw[xAX,h];simp
def aHA{sep x:aP}:∀ {l:List aP},l≠[]→pC sep (l++[x])=pC sep l++sep++x
 | [],h=>absurd rfl h
 | [y],_=>rfl
 |y::z::l,_=>by
  have:=aHA (sep:=sep) (x:=x) (l:=z::l) (by simp)
  show y++sep++pC sep ((z::l)++[x])=(y++sep++pC sep (z::l))++sep++x
  rw[this];simp
def bDP{l:List aP}{x:aP}(h:l[0]?=some x):pC [44,32] ((l.take (0+1)).map iE)=iE x:=by
 rw[xAX,h];rfl
def bDQ{l:List aP}{x:aP}{i:Nat}(hi:0 < i)(h:l[i]?=some x):pC [44,32] ((l.take (i+1)).map iE)=pC [44,32] ((l.take i).map iE)++[44,32]++iE x:=by
 have hl:=(xAG.1 h).1;rw[xAX,h]
 show pC _ ((l.take i++[x]).map iE)=_
 rw[List.map_append];refine aHA fun e=>?_;have:=xAE List.length e;rw[xAS,xA4,List.length_nil]at this;omega
def prnE(d:Nat):List Tree→Bool→aP
 | [],_=>[]
 |t::l,f=>(if f=true then []else [44,32])++(prn t d true++prnE d l false)
def aV7{d:Nat}:∀ {l:Tree} {f:Bool},wf l 1=true→prn l d f=prnE d (elems l) f:=by
 intro l;induction l with
 |tnil=>intro f _;rfl
 |tcons t l ih1 ih2=>intro f h;simp[wf]at h;simp only[prn,elems,prnE];rw[ih2 h.2,xA0]
 |_=>intro f h;simp[wf]at h
def aV5{d:Nat}{acc W:aP}{u:Tree}{l:List Tree}{i:Nat}(hd:l.drop i=u::l.drop (i+1))(h0:i=0)(h:acc++prnE d (l.drop i) (decide (i=0))=W):(acc++prn u d true)++prnE d (l.drop (i+1)) (decide (i+1=0))=W:=by
 rw[←h,hd,xAM h0,xAJ (Nat.succ_ne_zero i)];simp[prnE]
def aV6{d:Nat}{acc W:aP}{u:Tree}{l:List Tree}{i:Nat}(hd:l.drop i=u::l.drop (i+1))(h0:0 < i)(h:acc++prnE d (l.drop i) (decide (i=0))=W):((acc++[44,32])++prn u d true)++prnE d (l.drop (i+1)) (decide (i+1=0))=W:=by
 rw[←h,hd,xAJ (show ¬i=0 by omega),xAJ (Nat.succ_ne_zero i)];simp[prnE]
def lnE(d:Nat):List Tree→aP
 | []=>[]
 |c::l=>indC d++(prn c d true++[10])++lnE d l
def bOU{d:Nat}:∀ {l:Tree} {f:Bool},wf l 3=true→prn l d f=lnE d (elemsC l):=by
 intro l;induction l with
 |cnil=>intro f _;rfl
 |ccons t l ih1 ih2=>intro f h;simp[wf]at h;simp only[prn,elemsC,lnE];rw[ih2 h.2];simp
 |_=>intro f h;simp[wf]at h
def aB9{d:Nat}{acc W X:aP}{u:Tree}{l:List Tree}{i:Nat}(hd:l.drop i=u::l.drop (i+1))(hx:X=acc++(indC d++(prn u d true++[10])))(h:acc++lnE d (l.drop i)=W):X++lnE d (l.drop (i+1))=W:=by
 rw[←h,hd,hx];simp[lnE]
def bdT(d:Nat)(b:Tree):aP:=[32,123,10]++(prn b (d+1) true++(indC d++[125]))
def brE(d:Nat)(o:Option Tree):List (Tree×Tree)→Bool→aP
 | [],_=>match o with
  |some b=>[32,101,108,115,101]++bdT d b
  |none=>[]
 |p::l,f=>(if f=true then [32]else [32,101,108,115,105,102,32])++(prn p.1 d true++(bdT d p.2++brE d o l false))
def bOT{d:Nat}:∀ {l:Tree} {f:Bool},wf l 4=true→okT l=true→prn l d false=brE d (brO l) (brL l) false:=by
 intro l;induction l with
 |bnil=>intro f _ _;rfl
 |bcons t b l ih1 ih2 ih3=>
  intro f h ho;simp[wf]at h;simp[okT]at ho
  simp only[prn,brL,brO,brE];rw[ih3 (f:=f) h.2.2 ho.2.2];simp[bdT]
 |belse b l ih1 ih2=>
  intro f h ho;simp[wf]at h;simp[okT]at ho
  simp only[prn,brL,brO,brE];have:prn l d false=[]:=by
   cases l with
   |bnil=>rfl
   |_=>first|(simp[wf]at h;done)|(have:=ho.2.1;simp[gS]at this;done)
  rw[this];simp[bdT]
 |_=>intro f h;simp[wf]at h
def isBc:Tree→Bool
 | .bcons _ _ _=>true
 |_=>false
def bE0{d:Nat}{bs:Tree}(h:wf bs 4=true)(ho:okT bs=true)(hb:isBc bs=true):prn bs d true=[105,102]++brE d (brO bs) (brL bs) true:=by
 cases bs with
 |bcons t b l=>
  simp[wf]at h;simp[okT]at ho
  simp only[prn,brL,brO,brE];rw[bOT (f:=true) h.2.2 ho.2.2];simp[bdT]
 |_=>cases hb
def brR(d:Nat)(o:Option Tree)(l:List (Tree×Tree))(k:Nat):aP:=if k≤l.length then brE d o (l.drop k) (decide (k=0))else []
def bN1{d:Nat}{o:Option Tree}{l:List (Tree×Tree)}:brR d o l 0=brE d o l true:=by unfold brR;rw[x7 (x9 _)];rfl
def bB2{d:Nat}{b:Tree}{l:List (Tree×Tree)}{k:Nat}(hk:k=l.length):brR d (some b) l k=[32,101,108,115,101]++(bdT d b++brR d (some b) l (k+1)):=by
 unfold brR;rw[x7 aH,x5 aH,xAU aH];simp[brE]
def bL3{d:Nat}{o:Option Tree}{p:Tree×Tree}{l:List (Tree×Tree)}{k:Nat}(hp:l[k]?=some p):brR d o l k=(if k=0 then [32]else [32,101,108,115,105,102,32])++(prn p.1 d true++(bdT d p.2++brR d o l (k+1))):=by
 have hl:=(xAG.1 hp).1;unfold brR;rw[x7 (show k≤l.length by omega),x7 (show k+1≤l.length by omega),xAR hl,(xAG.1 hp).2,xAJ (Nat.succ_ne_zero k)];simp only[brE,decide_eq_true_eq]
def bHY{d:Nat}{o:Option Tree}{l:List (Tree×Tree)}{k:Nat}(hk:k=l.length∧o=none∨l.length < k):brR d o l k=[]:=by
 unfold brR;rcases hk with ⟨rfl,rfl⟩|h
 ·rw[x7 (xAA _),xAU (xAA _)];rfl
 rw[x5 aH]
def ifB:Tree→Bool
 | .iff bs=>isBc bs&&ifB bs
 | .ccons c l=>ifB c&&ifB l
 | .bcons _ b l=>ifB b&&ifB l
 | .belse b l=>ifB b&&ifB l
 |_=>true
def bGC{t:Tree}(h:ifB t=true):∀ {l:Tree},ifB l=true→ifB (l.snocC t)=true:=by
 intro l;induction l with
 |ccons c l ih1 ih2=>intro hl;simp only[ifB,Tree.snocC,Bool.and_eq_true]at hl ⊢;exact⟨hl.1,ih2 hl.2⟩
 |_=>intro _;simp[Tree.snocC,ifB,h]
def aQO{o:Option Tree}{b:Tree}(h:ifB b=true):∀ {l:Tree},ifB l=true→ifB (l.snocB o b)=true:=by
 intro l;induction l with
 |bcons t c l ih1 ih2 ih3=>intro hl;simp only[ifB,Tree.snocB,Bool.and_eq_true]at hl ⊢;exact⟨hl.1,ih3 hl.2⟩
 |belse c l ih1 ih2=>intro hl;simp only[ifB,Tree.snocB,Bool.and_eq_true]at hl ⊢;exact⟨hl.1,ih2 hl.2⟩
 |_=>intro _;cases o <;> simp[Tree.snocB,mkB,ifB,h]
def aQN{o:Option Tree}{b l:Tree}(h:isBc l=true):isBc (l.snocB o b)=true:=by
 cases l with
 |bcons t c l=>rfl
 |_=>cases h
def IfA(T:St→Res (Tree×St)):Prop:=∀st r,T st=.ok r→ifB r.1=true
section
variable{s:aP}{needs:List aP}
def aLR{B:St→Res (Tree×St)}(hB:IfA B):IfA (kV s B):=by
 intro st r h;unfold kV at h;cases h1:sign s st [123]with
 |error e=>rw[h1]at h;cases h
 |ok q=>
  rw[h1]at h;simp only at h;cases h2:B q with
  |error e=>rw[h2]at h;cases h
  |ok b=>
   rw[h2]at h;simp only at h;cases h3:sign s b.2 [125]with
   |error e=>rw[h3]at h;cases h
   |ok p=>rw[h3]at h;cases h;exact hB q b h2
def bIB{B:St→Res (Tree×St)}(hB:IfA B){acc:Tree}(h1:isBc acc=true)(h2:ifB acc=true):IfA (lC s B acc):=by
 intro st r h;unfold lC at h;split at h
 ·cases h3:next s st.1 with
  |error e=>rw[h3]at h;cases h
  |ok q=>
   rw[h3]at h;simp only at h;cases h4:kV s B q with
   |error e=>rw[h4]at h;cases h
   |ok b=>rw[h4]at h;cases h;simp only[ifB,Bool.and_eq_true];exact⟨aQN h1,aQO (aLR hB _ _ h4) h2⟩
 cases h;simp only[ifB,Bool.and_eq_true];exact⟨h1,h2⟩
def bC5{T B:St→Res (Tree×St)}(hB:IfA B):∀ {f:Nat} {acc:Tree},isBc acc=true→ifB acc=true→IfA (hO s T B f acc):=by
 intro f;induction f with
 |zero=>intro acc _ _ st r h;cases h
 |succ f ih=>
  intro acc h1 h2 st r h;simp only[hO]at h;split at h
  ·cases h3:next s st.1 with
   |error e=>rw[h3]at h;cases h
   |ok q=>
    rw[h3]at h;simp only at h;cases h4:T q with
    |error e=>rw[h4]at h;cases h
    |ok t=>
     rw[h4]at h;simp only at h;cases h5:kV s B t.2 with
     |error e=>rw[h5]at h;cases h
     |ok b=>rw[h5]at h;exact ih (aQN h1) (aQO (aLR hB _ _ h5) h2) _ _ h
  exact bIB hB h1 h2 _ _ h
def bN6{T B:St→Res (Tree×St)}(hB:IfA B):IfA (ifC s T B):=by
 intro st r h;unfold ifC at h;cases h3:next s st.1 with
 |error e=>rw[h3]at h;cases h
 |ok q=>
  rw[h3]at h;simp only at h;cases h4:T q with
  |error e=>rw[h4]at h;cases h
  |ok t=>
   rw[h4]at h;simp only at h;cases h5:kV s B t.2 with
   |error e=>rw[h5]at h;cases h
   |ok b=>rw[h5]at h;exact bC5 hB Y (by simp[ifB,aLR hB _ _ h5]) _ _ h
def bAJ{c:Tree}(hc:ifB c=true):IfA (lJ s c):=by
 intro st r h;unfold lJ at h;cases h3:next s st.1 with
 |error e=>rw[h3]at h;cases h
 |ok q=>
  rw[h3]at h;simp only at h;cases h4:sign s q [59]with
  |error e=>rw[h4]at h;cases h
  |ok p=>rw[h4]at h;cases h;exact hc
def bLZ{k:Int}{ext:aP}{p:Int}:IfA (actC s needs k ext p):=by
 intro st r h;unfold actC at h;split at h
 ·cases h
 cases h3:next s st.1 with
 |error e=>rw[h3]at h;cases h
 |ok q=>
  rw[h3]at h;simp only at h;cases h4:take s q 3 []with
  |error e=>rw[h4]at h;cases h
  |ok x=>
   rw[h4]at h;simp only at h;cases h5:sign s x.2 [59]with
   |error e=>rw[h5]at h;cases h
   |ok y=>rw[h5]at h;cases h;rfl
def bH0{T B:St→Res (Tree×St)}(hB:IfA B){st:St}{r:Tree×St}(h:cmdD s needs T B st=some (.ok r)):ifB r.1=true:=by
  unfold cmdD at h;simp only at h
  repeat' split at h
  all_goals first
    |(cases h;done)
    |exact bAJ Y st r (xAY h)
    |exact bLZ st r (xAY h)
    |exact bN6 hB st r (xAY h)
    | (have h := xAY h
       unfold rC at h;split at h
       · cases h
       cases h;rfl)
def aW6{C:St→Option (Res (Tree×St))}(hC:∀st r,C st=some (.ok r)→ifB r.1=true):∀ {f:Nat} {acc:Tree},ifB acc=true→IfA (kQ s C f acc):=by
 intro f;induction f with
 |zero=>intro acc _ st r h;cases h
 |succ f ih=>
  intro acc h1 st r h;simp only[kQ]at h;split at h
  ·cases h2:C st with
   |none=>rw[h2]at h;cases h
   |some x=>
    rw[h2]at h;cases x with
    |error e=>cases h
    |ok c=>exact ih (bGC (hC _ _ h2) h1) _ _ h
  cases h;exact h1
def aOA:∀n,IfA (block s needs n)
 |0=>by
  intro st r h;unfold block at h;split at h
  ·cases h
  cases h;rfl
 |n+1=>fun st r h=>aW6 (fun st r h=>bH0 (aOA n) h) rfl st r h
end
def bEO{s:aP}{r:List aP×Tree}(h:gN s=.ok r):ifB r.2=true:=by
 unfold gN at h;cases h1:next s 0 with
 |error e=>rw[h1]at h;cases h
 |ok q=>
  rw[h1]at h;simp only at h;unfold jP at h;split at h
  ·cases h
  rename_i n hn;cases h2:block s n.1 7 n.2 with
  |error e=>rw[h2]at h;cases h
  |ok b=>
   rw[h2]at h;simp only at h;split at h
   ·cases h;exact aOA 7 _ _ h2
   cases h
def sqE(l:List aP):aP:=l.flatMap fun x=>32::iE x
def bGG{l:List aP}{i:Nat}{x:aP}(h:l[i]?=some x):sqE (l.take (i+1))=sqE (l.take i)++([32]++iE x):=by
 unfold sqE;rw[xAX,h];simp
def aUH:∀ {l:List aP},(∀x∈l,x.length≤600)→(sqE l).length≤1210*l.length
 | [],_=>by simp[sqE]
 |x::l,h=>by
  have:=aUH (l:=l) fun y hy=>h y (by simp[hy])
  have h1:=nR x;have h2:=h x (by simp);unfold sqE at this ⊢;rw[xBM,xAF,xBI,xBI];omega
def bJF{K:Hl}{t:Tree}{v:Cell}(hw:wf t 2=true)(ho:okT t=true)(hs:sOk 600 t)(hi:ifB t=true)(h:RR K t [v] []):∃b w av tag tv bv p,v=pcl b∧K b=some (cmO w av tag tv bv p)∧w.length≤8∧
    ((¬ w = txIf ∧ ∃ xs, Ksl (a7 9) K av xs ∧ xs.length ≤ 2 ∧ (∀ x ∈ xs, x.length ≤ 600) ∧ 0 ≤ tag ∧ tag ≤ 3 ∧ ∀ d, prn t d true = w ++ (nV tag ++ (sqE xs ++ [59]))) ∨
     (w=txIf∧∃bs xs ys,t=.iff bs∧isBc bs=true∧RR K bs xs ys∧Ksl (cC 159) K tv xs∧Ksl (cC 103) K bv ys)):=by
  have hnil:∀K,Ksl (a7 9) K nilS []:=fun K=>.inl ⟨none,0,rfl,rfl⟩
  cases t with
  |plain op=>
    obtain⟨_,b,p,e,hk⟩:=h;cases e
    simp[okT]at ho;refine⟨b,_,_,_,_,_,_,Y,hk,?_,.inl ⟨?_,[],hnil K,by simp,by simp,by decide,by decide,fun d=>?_⟩⟩
    · rcases ho with rfl|rfl <;> decide
    · rcases ho with rfl|rfl <;> decide
    rcases ho with rfl|rfl <;> rfl
  |act k a p=>
    obtain⟨_,b,av,e,h1,hk⟩:=h;cases e
    simp[okT]at ho;have hk4:k=1∨k=2∨k=3∨k=4:=by omega
    refine⟨b,_,_,_,_,_,_,Y,hk,?_,.inl ⟨?_,_,h1,?_,?_,by decide,by decide,fun d=>?_⟩⟩
    · rcases hk4 with rfl|rfl|rfl|rfl <;> decide
    · rcases hk4 with rfl|rfl|rfl|rfl <;> decide
    · split <;> simp
    · intro x hx;split at hx;cases hx;(have:=List.mem_singleton.1 hx;subst this;exact hs)
    rcases hk4 with rfl|rfl|rfl|rfl <;> simp[prn,actW,vN,nV,sqE,qL,fV,gR,iO]
  |set_ n x t=>
    obtain⟨_,b,av,p,e,h1,hk⟩:=h;cases e
    simp[okT]at ho;refine⟨b,_,_,_,_,_,_,Y,hk,by decide,.inl ⟨by decide,_,h1,by simp,?_,ho.1,ho.2,fun d=>?_⟩⟩
    · intro y hy;simp at hy;rcases hy with rfl|rfl;exact hs.1;exact hs.2
    simp[prn,sqE,tM]
  |iff bs=>
    obtain⟨_,b,xs,ys,tv,bv,p,e,h1,h2,h3,hk⟩:=h;cases e
    simp[ifB]at hi;exact⟨b,_,_,_,_,_,_,Y,hk,by decide,.inr ⟨rfl,bs,xs,ys,rfl,hi.1,h1,h2,h3⟩⟩
  |_=>simp[wf]at hw
end Go.Syn
end

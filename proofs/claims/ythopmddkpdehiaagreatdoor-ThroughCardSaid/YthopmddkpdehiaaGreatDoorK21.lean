/-
  What the proof stands on, part 21: the logic of walks, the walks through the functions, the plain laws. Conditions: as each theorem says. (Merged and shortened by a program.)
-/
import Derived.Test.YthopmddkpdehiaaGreatDoorK13
import Derived.Test.YthopmddkpdehiaaGreatDoorK18
import Derived.Test.YthopmddkpdehiaaGreatDoorK20
set_option linter.unusedVariables false
set_option linter.unusedSimpArgs false
set_option maxRecDepth 4000
set_option maxHeartbeats 1000000
section
namespace Go.Mach
open Go.Syn
theorem aBE{s t:MS}{b:Bool}(h:push s b=.ok t):t.pc=s.pc:=by
 unfold push at h;split at h <;> cases h;rfl
theorem aKZ{s:MS}{r:Bool×MS}(h:pop s=.ok r):r.2.pc=s.pc:=by
 unfold pop at h;split at h <;> cases h;rfl
theorem aQB{s t:MS}{by_:Int}{n:Nat}{yes:Bool}(h:jump s by_ n yes=.ok t)(hp:s.pc < n):s.pc≤t.pc∧t.pc < n:=by
 unfold jump at h;split at h
 ·cases h;split
  ·simp only[];omega
  exact⟨Nat.le_refl _,hp⟩
 cases h
theorem bC4{nm:Bool}{m:Msg}{o:Ins}{s t:MS}(h:matchI nm m o s=.ok t):t.pc=s.pc:=by
 unfold matchI at h;split at h
 ·simp only[]at h;split at h
  ·have:=aBE h;rw[this];split <;> rfl
  exact aBE h
 cases h
theorem bN5{nm:Bool}{o:Ins}{s t:MS}(h:setI nm o s=.ok t):t.pc=s.pc:=by
 unfold setI at h;split at h
 ·split at h
  ·cases h;rfl
  cases h
 cases h
theorem bLW{nm:Bool}{o:Ins}{s t:MS}(h:actI nm o s=.ok t):t.pc=s.pc:=by
 unfold actI at h;split at h
 ·simp only[]at h;split at h
  ·cases h
  split at h
  ·cases h
  split at h
  ·cases h;rfl
  split at h
  ·cases h
  split at h
  ·cases h
  cases h;rfl
 cases h
theorem aE3{nm:Bool}{m:Msg}{n:Nat}{o:Ins}{s t:MS}(h:step nm m n o s=.ok t)(hp:s.pc < n):s.pc≤t.pc∧t.pc < n:=by
 have key:t.pc=s.pc→s.pc≤t.pc∧t.pc < n:=fun e=>by rw[e];exact⟨Nat.le_refl _,hp⟩
 unfold step at h
 by_cases h0:o.op=1
 ·rw[if_pos h0]at h;split at h
  ·exact key (aBE h)
  cases h
 rw[if_neg h0]at h
 by_cases h1:o.op=2
 ·rw[if_pos h1]at h;split at h
  ·cases h
  rename_i r hr;exact key ((aBE h).trans (aKZ hr))
 rw[if_neg h1]at h
 by_cases h2:o.op=3
 ·rw[if_pos h2]at h;exact aQB h hp
 rw[if_neg h2]at h
 by_cases h3:o.op=4
 ·rw[if_pos h3]at h;split at h
  ·cases h
  rename_i r hr;have e:=aKZ hr;have:=aQB h (by rw[e];exact hp);omega
 rw[if_neg h3]at h
 by_cases h4:o.op=5
 ·rw[if_pos h4]at h;split at h
  ·cases h
  rename_i r hr;have e:=aKZ hr;have:=aQB h (by rw[e];exact hp);omega
 rw[if_neg h4]at h
 by_cases h5:o.op=6∨o.op=7∨o.op=8
 ·rw[if_pos h5]at h;exact key (bC4 h)
 rw[if_neg h5]at h
 by_cases h6:o.op=9
 ·rw[if_pos h6]at h;exact key (aBE h)
 rw[if_neg h6]at h
 by_cases h7:o.op=10
 ·rw[if_pos h7]at h;split at h
  ·exact key (aBE h)
  cases h
 rw[if_neg h7]at h
 by_cases h8:o.op=11
 ·rw[if_pos h8]at h;exact key (bLW h)
 rw[if_neg h8]at h
 by_cases h9:o.op=12
 ·rw[if_pos h9]at h;exact key (bN5 h)
 rw[if_neg h9]at h
 by_cases h10:o.op=13
 ·rw[if_pos h10]at h;cases h;exact key rfl
 rw[if_neg h10]at h;cases h
end Go.Mach
end
section
namespace Go.Cmp
open Go.Syn Go.Mach
theorem aUU(ops:List Ins)(k:Nat)(n:Int):(setN ops k n).length=ops.length:=by simp[setN]
theorem aQF(n:Int):∀(ps:List Nat) (o:List Ins),(ps.foldl (fun o k=>setN o k (n - 1 - k)) o).length=o.length:=by
 intro ps;induction ps <;> grind [aUU]
theorem dA(ops:List Ins)(ps:List Nat):(land ops ps).length=ops.length:=aQF _ ps ops
def cnt:Tree→Nat
 | .const _=>1
 | .not_ t=>cnt t+1
 | .many _ l=>cnt l+1
 | .mat _ _ _ _ _=>1
 | .exi _=>1
 | .siz _ _=>1
 | .tnil=>0
 | .tcons t l=>cnt t+cnt l
 | .plain _=>1
 | .act _ _ _=>1
 | .set_ _ _ _=>1
 | .iff bs=>cnt bs+1
 | .cnil=>0
 | .ccons c l=>cnt c+cnt l
 | .bnil=>0
 | .bcons t b l=>cnt t+cnt b+cnt l+1
 | .belse b l=>cnt b+cnt l+1
theorem lU:∀(t:Tree),(∀tn ops,ops.length≤(unl t tn ops).1.length∧(unl t tn ops).1.length≤ops.length+2*cnt t∧(unl t tn ops).2.length≤cnt t∧∀k∈(unl t tn ops).2,k < (unl t tn ops).1.length)∧
  (∀all tn ops away here,(∀k∈away,k < ops.length)→(∀k∈here,k < ops.length)→ops.length≤(unlL all tn t ops away here).1.length∧(unlL all tn t ops away here).1.length≤ops.length+2*cnt t∧(unlL all tn t ops away here).2.1.length≤away.length+cnt t∧(unlL all tn t ops away here).2.2.length≤here.length+cnt t∧(∀k∈(unlL all tn t ops away here).2.1,k < (unlL all tn t ops away here).1.length)∧(∀k∈(unlL all tn t ops away here).2.2,k < (unlL all tn t ops away here).1.length)):=by
 intro t;induction t with
 |const b=>
  grind [unl,cnt,unlL]
 |not_ t ih=>
  grind [unl,cnt,unlL]
 |many all l ih=>
  grind [unl,cnt,unlL,dA]
 |mat tag oct op a b=>
  grind [unl,cnt,unlL]
 |exi a=>
  grind [unl,cnt,unlL]
 |siz tag n=>
  grind [unl,cnt,unlL]
 |tcons t l ih1 ih2=>
  refine⟨fun tn ops=>?_,fun all tn ops away here h1 h2=>?_⟩ <;> grind [unl,unlL,cnt]
 |_=>
  grind [unl,unlL]
theorem nG:∀(t:Tree),(∀ops,ops.length≤(body t ops).length∧(body t ops).length≤ops.length+2*cnt t)∧(∀ops,ops.length≤(cmdI t ops).length∧(cmdI t ops).length≤ops.length+2*cnt t)∧(∀ops out,ops.length≤(cV t ops out).length∧(cV t ops out).length≤ops.length+2*cnt t):=by
 intro t;induction t with
 |plain op=>grind [body,cmdI,cnt,cV,dA]
 |act k a p=>grind [body,cmdI,cnt,cV,dA]
 |set_ n v t=>grind [body,cmdI,cnt,cV,dA]
 |iff bs ih=>grind [body,cmdI,cnt,cV,dA]
 |ccons c l ih1 ih2=>
  grind [cmdI,cV,body,cnt,dA]
 |belse b l ih1 ih2=>
  grind [body,cmdI,cV,cnt,dA]
 |bcons t b l ih1 ih2 ih3=>
  refine⟨fun ops=>by simp[body],fun ops=>by simp[cmdI],fun ops out=>?_⟩
  have h0:=(lU t).1 false ops;have h1:=ih2.1 (unl t false ops).1;simp only[cV,cnt];split
  ·grind [dA]
  have h2:=ih3.2.2 (land (body b (unl t false ops).1++[jmp 3]) (unl t false ops).2) (out++[(body b (unl t false ops).1).length]);rw[dA]at h2;simp only[List.length_append,List.length_singleton]at h2;omega
 |_=>grind [body,cmdI,cV,dA]
end Go.Cmp
end
section
namespace Go.Cmp
open Go Go.SL Go.Syn Go.Mach
def nilC:Cell:=⟨.slice none 0 0,rfl⟩
def m9(e:TypeId):El Nat:={e:=e,sz:=1,enc:=fun n=>[i64 n],len:=fun _=>rfl,one:=fun _ u h=>by simp at h;subst h;rfl}
theorem aQ0(vs:List InsV)(k:Nat)(n:Int):(r7 vs k n).length=vs.length:=by simp[r7]
theorem aXM{vs:List InsV}{ps:List Nat}{i p:Nat}{m:Int}(h:ps[i]?=some p):(ps.take (i+1)).foldl (fun o k=>r7 o k (m - 1 - k)) vs=r7 ((ps.take i).foldl (fun o k=>r7 o k (m - 1 - k)) vs) p (m - 1 - p):=by
 have hi:i < ps.length:=by
  rcases Nat.lt_or_ge i ps.length with h'|h'
  ·exact h'
  simp[List.getElem?_eq_none h']at h
 have hc:ps[i]=p:=by simpa[List.getElem?_eq_getElem hi]using h
 rw[List.take_succ_eq_append_getElem hi,hc];simp
theorem aD9(m:Int):∀(ps:List Nat) (o:List InsV),(ps.foldl (fun o k=>r7 o k (m - 1 - k)) o).length=o.length:=by
 intro ps;induction ps <;> grind [aQ0]
theorem sD(vs:List InsV)(ps:List Nat):(aKG vs ps).length=vs.length:=aD9 _ ps vs
theorem bEA{vs:List InsV}{k:Nat}{n:Int}{v:InsV}(h:vs[k]?=some v):r7 vs k n=vs.set k {v with n:=n}:=by
 unfold r7;have hi:k < vs.length:=by
  rcases Nat.lt_or_ge k vs.length with h'|h'
  ·exact h'
  simp[List.getElem?_eq_none h']at h
 have hc:vs[k]=v:=by simpa[List.getElem?_eq_getElem hi]using h
 apply List.ext_getElem (by simp)
 intro i h1 h2;rw[List.getElem_modify,List.getElem_set];split
 ·rename_i e;subst e;rw[hc]
 rfl
def cdr(b:Nat)(vs:List InsV):Asn:=exA fun cv=>[pt b (aZ [cv] 217),sl false d9 cv vs]
theorem aQY{b:Nat}{vs:List InsV}{cv:Value}{M:List Asn}:∀h,Sat (pt b (aZ [cv] 217)::sl false d9 cv vs::M) h→Sat (cdr b vs::M) h:=fun h hh=>oW.2 ⟨cv,hh⟩
end Go.Cmp
end
section
namespace Go.Mach
open Go Go.SL Go.Syn
def lK:List (aJ×aJ)→(Nat→Nat)→List Ent
 | [],_=>[]
 |(k,v)::r,f=>(k,.agg #[str v],f 0)::lK r (fun n=>f (n+1))
theorem bFH(k:aJ):∀(vars:List (aJ×aJ)) (f:Nat→Nat),(mget (lK vars f) k).getD (.agg #[str []])=.agg #[str (vget vars k)]:=by
 intro vars;induction vars <;> grind [lK,vget,mget]
theorem bFI(k v:aJ)(c:Nat):∀(vars:List (aJ×aJ)) (f:Nat→Nat),∃f',mset k (.agg #[str v]) c (lK vars f)=lK (vput vars k v) f':=by
 intro vars;induction vars with
 |nil=>intro f;exact⟨fun _=>c,rfl⟩
 |cons p r ih=>
  obtain⟨j,u⟩:=p;intro f;unfold lK vput mset
  by_cases h:k=j
  ·subst h;rw[if_pos rfl,if_pos rfl];exact⟨f,rfl⟩
  rw[if_neg h,if_neg (fun e=>h e.symm)];obtain⟨f',hf⟩:=ih (fun n=>f (n+1));refine⟨fun n=>match n with|0=>f 0|n+1=>f' n,?_⟩
  rw[hf]
theorem aP9(s:aJ)(c:UInt8): -1≤Lib.indexByte s c∧Lib.indexByte s c < s.length:=by
 refine⟨Lib.indexByte_ge s c,?_⟩
 by_cases h:Lib.indexByte s c < 0
 ·omega
 have e:Lib.indexByte s c=((Lib.indexByte s c).toNat:Nat):=by omega
 obtain⟨h1,_⟩:=Lib.indexByte_some e;rcases Nat.lt_or_ge (Lib.indexByte s c).toNat s.length with h'|h'
 ·omega
 rw[List.getElem?_eq_none h']at h1;cases h1
end Go.Mach
end
section
attribute [local irreducible] Go.SL.T Go.SL.OL Go.SL.D Go.SL.DL Go.SL.Ev Go.SL.Ef Go.SL.EfS
namespace Go.Proofs
open Go Go.SL Go.Syn Go.Cmp
theorem nX(b yb:Nat)(vs ys:List InsV)(cells:List Value)(K:Hl)(hc:cells=d9.cs ys)(hl:vs.length+ys.length≤1000000):
  Sp Tryz.prog 193 [ptr b,.slice (some ⟨yb,0,none⟩) ys.length ys.length] K [cdr b vs,pt yb (aZ cells 41)]
   (Ret fun v K' L'=>v=i64 (((vs++ys).length:Int) - 1)∧K'=K∧L'=[cdr b (vs++ys)]):=by
 have hys:(cells.drop 0).take (ys.length*7)=d9.cs ys:=by
  subst hc;rw[List.drop_zero,List.take_of_length_le (by rw[d9.cs_length];exact Nat.le_refl _)]
 have hla:(vs++ys).length=vs.length+ys.length:=List.length_append;refine a8 Tryz.func193 rfl Tryz.ntmps193 rfl rfl fun F w=>?_;refine vY fun cv=>?_;refine zz13 ?_;refine cC (dN (k:=d9) (ys:=ys) xW rfl rfl bF (fun w j=>dE Tryz.underlying42 (SeesSl.at (k:=d9) (.blk (.own (.there (.there .here))) rfl hys) j)) gAE gAE) rfl ?_;rintro v11 K _ ⟨rfl,rfl,ho11⟩ -;refine zz2 ?_;refine cA (bP aVW rfl rfl cJ bF .zero rfl) ?_;rintro _ K _ ⟨rfl,rfl⟩ -;refine zz8 ?_;refine aA (bO (k:=d9) rfl Tryz.underlying42 rfl aM) rfl ?_;refine zz5 ?_;refine uAp ?_;refine fK aQY ?_;refine zz1 ?_;exact⟨_,rfl,rfl,rfl,rfl⟩
theorem vN(b:Nat)(pv:Value)(vs:List InsV)(ps:List Nat)(K:Hl)(hl:vs.length≤1000000)(hpl:ps.length≤1000000)(hp:∀p∈ps,p < vs.length):
  Sp Tryz.prog 271 [ptr b,pv] K [cdr b vs,sl false (m9 3) pv ps] (Ret fun v K' L'=>v=.tuple #[]∧K'=K∧L'=[cdr b (aKG vs ps)]):=by
 refine a8 Tryz.func271 rfl Tryz.ntmps271 rfl rfl fun F w=>?_;refine vY fun cv=>?_;refine zz3 ?_;refine aA (bO (k:=(m9 3)) rfl Tryz.underlying55 rfl aM) rfl ?_;refine zz4 ?_;refine eJ (fun(i:Nat)=>i≤ps.length) (fun i=>[(0,ptr b),(6,pv),(7,i64 ps.length),(8,i64 i)]) (fun _=>_) (fun i=>[sl false d9 cv ((ps.take i).foldl (fun o k=>r7 o k ((vs.length:Int) - 1 - k)) vs),pt b (aZ [cv] 217),sl false (m9 3) pv ps]) (fun i=>ps.length - i) 0 (Nat.zero_le _) (.cons 0 rfl (.cons 6 rfl (.cons 7 rfl (.cons 8 rfl .nil)))) rfl (fun _ h=>fL h) ?_;intro i hi0;refine zz6 ?_;refine bK 9 rfl (fun h9=>?_) (fun h9=>?_)
 ·have hilt:i < ps.length:=by omega
  obtain⟨p,hpi⟩:∃p,ps[i]?=some p:=⟨ps[i]'hilt,List.getElem?_eq_getElem hilt⟩;have hpv:p < vs.length:=hp p (List.mem_of_getElem? hpi);obtain⟨xs,hxs⟩:∃xs,xs=(ps.take i).foldl (fun o k=>r7 o k ((vs.length:Int) - 1 - k)) vs:=⟨_,rfl⟩;rw[←hxs];have hxl:xs.length=vs.length:=(by rw[hxs,aD9]);obtain⟨x,hx⟩:∃x,xs[p]?=some x:=⟨xs[p]'(by omega),List.getElem?_eq_getElem aI⟩;refine zz6 ?_;refine aA (bE (k:=(m9 3)) uC rfl aM rfl rfl gAD) rfl ?_;refine aA (dP (o:=0) (k:=(m9 3)) ts3 rfl aM cB rfl) rfl ?_;refine zz3 ?_;refine bR7 (by intro h;rw[h]at hx;simp at hx) fun bb cap junk fz hcv h2 h3 h4=>?_;subst hcv;have hcs:((d9.cs xs++junk).drop 0).take (xs.length*d9.sz)=d9.cs xs:=(by rw[List.drop_zero,←d9.cs_length,List.take_left]);have hlen:(d9.cs xs++junk).length=cap*7:=(by rw[List.length_append,d9.cs_length,h3];show xs.length*7+(cap - xs.length)*7=_;omega);refine dD (anc:=[0,1,3,7,0,0,32,96,224,480,992,0,4064,8191,16383,32767]) (ord:=[0,1,2,3,4,5,6,7,8,9,10,11,12,13,14,15]) [15] [15] mixed gAH (dI _) ?_;refine zz9 ?_;refine aK rfl rfl (.none rfl) rfl rfl (bO (k:=d9) rfl Tryz.underlying42 rfl (.blk (.own .here) rfl hcs)) rfl ?_;refine zz3 ?_;refine aK rfl rfl (.none rfl) rfl rfl (aJQ (k:=d9) (j:=p) (m:=0+p*7) rfl fV rfl (.blk (.own .here) rfl hcs) rfl rfl aI) rfl ?_;refine aK rfl rfl (.none rfl) rfl rfl (aF (o:=0+p*7) (o':=0+p*7+1) lI rfl rfl) rfl ?_;refine mS rfl rfl (.none rfl) rfl (bP ts3 rfl rfl rfl .here (sN (by rw[hlen];omega)) (h4.at (by show 0+p*7+1 < cap*7;omega))) ?_;rintro _ K _ ⟨rfl,rfl⟩ -;refine zz7 ?_;have e3:((d9.cs xs++junk).set (0+p*7+1) (i64 (xs.length - 1 - p)))=d9.cs (xs.set p {x with n:=xs.length - 1 - p})++junk:=(by rw[show 0+p*7+1=p*d9.sz+1 from by show _=p*7+1;omega];exact cs_set d9 (by decide) rfl hx);have e4:(ps.take (i+1)).foldl (fun o k=>r7 o k ((vs.length:Int) - 1 - k)) vs=xs.set p {x with n:=xs.length - 1 - p}:=(by rw[aXM hpi,←hxs,bEA hx,hxl]);have e5:(xs.set p {x with n:=xs.length - 1 - p}).length=xs.length:=List.length_set;refine fK (fun h hh=>bJ8 (k:=d9) (z:=false) (xs:=xs.set p {x with n:=xs.length - 1 - p}) (fun h=>by cases h) (by rw[e5];exact h2) (by rw[e5];exact h3) h4 e3 hh) ?_;refine dF (i+1) aI aI (.cons 0 rfl (.cons 6 rfl (.cons 7 rfl (.cons 8 rfl .nil)))) rfl ?_;rw[e4,e5];exact fun _ h=>h
 have hfin:(ps.take i).foldl (fun o k=>r7 o k ((vs.length:Int) - 1 - k)) vs=aKG vs ps:=(by rw[List.take_of_length_le aI];rfl);refine zz4 ?_;rw[hfin];refine uAp ?_;refine fK aQY ?_;refine zz1 ?_;exact⟨_,rfl,rfl,rfl,rfl⟩
theorem aIM(b e n:Nat)(x:Value)(hx:x=i64 n):∀h,pt b (aZ [x] e) h→sl false (m9 e) (.slice (some ⟨b,0,none⟩) 1 1) [n] h:=by
 subst hx;exact aE0 (k:=m9 e) (xs:=[n]) (cells:=[i64 n]) (Nat.le_refl _) rfl rfl (.inl (Nat.le_refl _)) (fun h=>by cases h)
theorem uR(K:Hl):Ksl (bN 9) K nilC.1 []:=.inl ⟨none,0,rfl,rfl⟩
abbrev jmpV(op:Int):InsV:=⟨op,0,0,false,nilC,nilC,0⟩
theorem vR(K:Hl)(op:Int):RIns K (jmpV op) (jmp op):=⟨rfl,rfl,rfl,rfl,rfl,uR K,uR K⟩
theorem RIs.two{K:Hl}{x y:InsV}{o p:Mach.Ins}(h1:RIns K x o)(h2:RIns K y p):RIs K [x,y] [o,p]:=⟨h1,h2,trivial⟩
abbrev UnlR(b:Nat)(r:List Mach.Ins×List Nat):Ending→Hl→List Asn→Prop:=Ret fun pv K' L'=>∃vs',RIs K' vs' r.1∧L'=[sl false (m9 3) pv r.2,cdr b vs']
def UnlS(t:Tree):Prop:=wf t 0=true→∀(b:Nat) (tn:Bool) (ty:TypeId) (u:Value) (vs:List InsV) (ops:List Mach.Ins) (K:Hl),Rep K t [(⟨.iface ty u,rfl⟩,u0)]→RIs K vs ops→vs.length+2*cnt t≤900000→Sp Tryz.prog 270 [ptr b,.iface ty u,.bool tn] K [cdr b vs] (UnlR b (unl t tn ops))
def UnlL:Tree→Prop
 | .tcons t l=>UnlS t∧UnlL l
 |_=>True
theorem bDX{K:Hl}{rest:Tree}{xs:List (Cell×Cell)}{i:Nat}(hw:wf rest 1=true)(hr:Rep K rest (xs.drop i))(hi:i < xs.length):
  ∃t l c,rest=.tcons t l∧Rep K t [(c,u0)]∧Rep K l (xs.drop (i+1))∧xs[i]?=some (c,u0)∧wf t 0=true∧wf l 1=true:=by
 have hd:xs.drop i≠[]:=by intro h;have:=congrArg List.length h;simp at this;omega
 cases rest <;> simp only[wf,Rep]at hw hr
 case tnil=>exact absurd hr hd
 case tcons t l=>
  obtain⟨c,ys,h1,h2,h3⟩:=hr;simp at hw;have e:xs.drop (i+1)=ys:=by rw[←List.drop_drop,h3];rfl
  refine⟨t,l,c,rfl,h1,by rw[e];exact h2,?_,hw.1,hw.2⟩
  have:=List.getElem?_drop (xs:=xs) (i:=i) (j:=0);rw[h3]at this;simpa using this.symm
 all_goals simp at hw
theorem bJU{K:Hl}{l:Tree}{ys:List (Cell×Cell)}(hw:wf l 1=true)(hr:Rep K l ys):iD l=false↔0 < ys.length:=by
 cases l <;> simp only[wf,Rep]at hw hr
 case tnil=>subst hr;simp[iD]
 case tcons t l=>obtain⟨c,zs,_,_,rfl⟩:=hr;simp[iD]
 all_goals simp at hw
theorem bJP{K:Hl}{rest:Tree}{ys:List (Cell×Cell)}(hw:wf rest 1=true)(hr:Rep K rest ys)(he:ys=[]){all tn:Bool}{ops:List Mach.Ins}{a h:List Nat}:unlL all tn rest ops a h=(ops,a,h):=by
 cases rest <;> simp only[wf,Rep]at hw hr
 case tnil=>simp[unlL]
 case tcons t l=>obtain⟨c,zs,_,_,rfl⟩:=hr;cases he
 all_goals simp at hw
theorem bFB(p:Bool):UnlS (.const p):=by
 intro hw b tn ty u vs ops K hr hv hl;cases (show [(_,u0)]=[(_,u0)]from hr)
 have hvl:=hv.length;refine a8 Tryz.func270 rfl Tryz.ntmps270 rfl rfl fun F w=>?_;refine zz7 ?_;refine uAe ?_;refine zz1 ?_;rintro _ K _ ⟨b7,rfl,rfl,rfl⟩ -;refine cA (cK kM rfl rfl rfl bF gAA (.cons (.cons (.cons (.cons (.cons (.cons (.cons .nil))))))) gAJ) ?_;rintro _ K _ ⟨rfl,rfl⟩ -;refine zz2 ?_;refine gV (fun(j:Int)=>j=if tn=true then 4 else 5) (fun _=>[(0,ptr b),(1,.iface 289 (.bool p)),(2,.bool tn),(7,ptr b7)]) (fun _=>K) (fun j=>[pt b7 (aZ [i64 j,i64 0,i64 0,.bool false,.slice none 0 0,.slice none 0 0,i64 0] 41),cdr b vs]) ?_ ?_
 ·refine zz5 ?_;refine eO 19 rfl (fun h19=>?_) (fun h19=>?_)
  ·refine zz2 ?_;refine uAs ?_;rintro _ K _ ⟨rfl,rfl⟩ -;refine aG ?_;exact cN _ gBK (.cons 0 rfl (.cons 1 rfl (.cons 2 rfl (.cons 7 rfl .nil)))) rfl (fun _ h=>h)
  refine aW ?_;exact cN _ gBK (.cons 0 rfl (.cons 1 rfl (.cons 2 rfl (.cons 7 rfl .nil)))) rfl (fun _ h=>h)
 intro j hj;refine zz9 ?_;refine aA (eI Tryz.underlying293 (fun _ h=>by cases h) rfl aVX rfl) rfl ?_;refine zz7 ?_;refine aA (jI Tryz.underlying289 (fun _ h=>by cases h) rfl) rfl ?_;refine zz15 ?_;refine aA (aZS Tryz.underlying4 rfl rfl) rfl ?_;refine zz2 ?_;refine eO 36 rfl (fun h36=>?_) (fun h36=>?_)
 ·have e36:unl (.const p) tn ops=(ops,[]):=(by unfold unl;rw[if_neg (by intro h;subst h;simp at h36)]);refine zz9 ?_;refine uAv ?_;refine fK (eF (m9 3)) ?_;refine zz1 ?_;rw[e36];exact⟨_,rfl,vs,hv,rfl⟩
 have e36:unl (.const p) tn ops=(ops++[jmp 3],[ops.length]):=(by unfold unl;rw[if_pos (by simpa using h36)]);refine zz5 ?_;refine uAe ?_;refine cC (bH (z0:=[.int .i64 0,.int .i64 0,.int .i64 0,.bool false,.slice none 0 0,.slice none 0 0,.int .i64 0]) fV uH rfl rfl rfl rfl (.cons rfl rfl rfl (.cons (.cons (.cons (.cons (.cons (.cons (.cons .nil))))))) .nil)) rfl ?_;rintro _ K _ ⟨b39,rfl,rfl,rfl⟩ -;refine aX rfl rfl (nX b b39 vs [jmpV 3] _ _ rfl gAI) (.cons (.there (.there .here)) (.cons .here .nil)) rfl ?_;rintro _ K _ ⟨rfl,rfl,rfl⟩ -;refine cC (bH (z0:=[.int .i64 0]) uC tz3 rfl rfl rfl rfl (.cons rfl rfl rfl (.cons .nil) .nil)) rfl ?_;rintro _ K _ ⟨b41,rfl,rfl,rfl⟩ -;refine zz6 ?_;refine uAj ?_;refine fK (fH (aIM b41 3 ops.length _ (by rw[List.length_append,hvl];simp))) ?_;refine zz1 ?_;rw[e36];exact⟨_,rfl,_,RIs.append (ws:=[jmpV 3]) (ps:=[jmp 3]) ⟨vR _ _,trivial⟩ hv,rfl⟩
theorem bO4(t:Tree)(ih:UnlS t):UnlS (.not_ t):=by
 intro hw b tn ty u vs ops K hr hv hl;obtain⟨⟨cv,hcv⟩,hr1,he⟩:=hr;have hwt:wf t 0=true:=by simpa[wf]using hw
 obtain⟨ty2,u2,hc⟩:=aGC (.inl hwt) hr1;cases hc
 cases he
 simp only[cnt]at hl;have hvl:=hv.length;refine a8 Tryz.func270 rfl Tryz.ntmps270 rfl rfl fun F w=>?_;refine zz7 ?_;refine uAe ?_;refine zz1 ?_;rintro _ K _ ⟨b7,rfl,rfl,rfl⟩ -;refine cA (cK kM rfl rfl rfl bF gAA (.cons (.cons (.cons (.cons (.cons (.cons (.cons .nil))))))) gAJ) ?_;rintro _ K _ ⟨rfl,rfl⟩ -;refine zz2 ?_;refine gV (fun(j:Int)=>j=if tn=true then 4 else 5) (fun _=>[(0,ptr b),(1,.iface 293 (.agg #[.iface ty2 u2])),(2,.bool tn),(7,ptr b7)]) (fun _=>K) (fun j=>[pt b7 (aZ [i64 j,i64 0,i64 0,.bool false,.slice none 0 0,.slice none 0 0,i64 0] 41),cdr b vs]) ?_ ?_
 ·refine zz5 ?_;refine eO 19 rfl (fun h19=>?_) (fun h19=>?_)
  ·refine zz2 ?_;refine uAs ?_;rintro _ K _ ⟨rfl,rfl⟩ -;refine aG ?_;exact cN _ gBK (.cons 0 rfl (.cons 1 rfl (.cons 2 rfl (.cons 7 rfl .nil)))) rfl (fun _ h=>h)
  refine aW ?_;exact cN _ gBK (.cons 0 rfl (.cons 1 rfl (.cons 2 rfl (.cons 7 rfl .nil)))) rfl (fun _ h=>h)
 intro j hj;refine zz9 ?_;refine aA (jI Tryz.underlying293 (fun _ h=>by cases h) rfl) rfl ?_;refine zz8 ?_;rintro _ K _ ⟨b8,rfl,rfl,rfl⟩ -;refine cA (cK bOO rfl rfl rfl bF gAA (.cons .nil) gAJ) ?_;rintro _ K _ ⟨rfl,rfl⟩ -;refine zz8 ?_;refine aA gAF rfl ?_;refine aX rfl rfl (ih hwt b (!tn) ty2 u2 vs ops _ hr1 hv aI) (.cons (.there (.there .here)) .nil) rfl ?_;rintro _ K1 _ ⟨vs1,hv1,rfl⟩ le1;refine zz6 ?_;refine uAj ?_;refine bD rfl rfl le1 ?_;exact⟨_,rfl,vs1,hv1,rfl⟩
theorem bO3(tag:Int)(oct:Bool)(op:Int)(a b1:List (List UInt8)):UnlS (.mat tag oct op a b1):=by
 intro hw b tn ty u vs ops K hr hv hl;obtain⟨va,vb,hA,hB,he⟩:=hr;obtain⟨sa,sn,sc,rfl⟩:=hA.isSlice;obtain⟨ta,tn2,tc,rfl⟩:=hB.isSlice;cases he
 have hvl:=hv.length;refine a8 Tryz.func270 rfl Tryz.ntmps270 rfl rfl fun F w=>?_;refine zz7 ?_;refine uAe ?_;refine zz1 ?_;rintro _ K _ ⟨b7,rfl,rfl,rfl⟩ -;refine cA (cK kM rfl rfl rfl bF gAA (.cons (.cons (.cons (.cons (.cons (.cons (.cons .nil))))))) gAJ) ?_;rintro _ K _ ⟨rfl,rfl⟩ -;refine zz2 ?_;refine gV (fun(j:Int)=>j=if tn=true then 4 else 5) (fun _=>[(0,ptr b),(1,.iface 380 (.agg #[i64 tag,.bool oct,i64 op,.slice sa sn sc,.slice ta tn2 tc])),(2,.bool tn),(7,ptr b7)]) (fun _=>K) (fun j=>[pt b7 (aZ [i64 j,i64 0,i64 0,.bool false,.slice none 0 0,.slice none 0 0,i64 0] 41),cdr b vs]) ?_ ?_
 ·refine zz5 ?_;refine eO 19 rfl (fun h19=>?_) (fun h19=>?_)
  ·refine zz2 ?_;refine uAs ?_;rintro _ K _ ⟨rfl,rfl⟩ -;refine aG ?_;exact cN _ gBK (.cons 0 rfl (.cons 1 rfl (.cons 2 rfl (.cons 7 rfl .nil)))) rfl (fun _ h=>h)
  refine aW ?_;exact cN _ gBK (.cons 0 rfl (.cons 1 rfl (.cons 2 rfl (.cons 7 rfl .nil)))) rfl (fun _ h=>h)
 intro j hj;refine zz9 ?_;refine aA (eI Tryz.underlying293 (fun _ h=>by cases h) rfl aVX rfl) rfl ?_;refine zz7 ?_;refine aA (eI Tryz.underlying289 (fun _ h=>by cases h) rfl bAS rfl) rfl ?_;refine zz7 ?_;refine aA (eI Tryz.underlying376 (fun _ h=>by cases h) rfl bLB rfl) rfl ?_;refine zz7 ?_;refine aA (jI Tryz.underlying380 (fun _ h=>by cases h) rfl) rfl ?_;refine zz8 ?_;rintro _ K _ ⟨b15,rfl,rfl,rfl⟩ -;refine cA (cK aRD rfl rfl rfl bF gAA (.cons (.cons (.cons (.cons (.cons .nil))))) gAJ) ?_;rintro _ K _ ⟨rfl,rfl⟩ -;refine zz17 ?_;refine aA (cL wA pO (.cons rfl rfl rfl (.cons .nil) (.cons rfl rfl rfl (.skip (.skip (.cons .nil))) (.cons rfl rfl rfl (.skip (.skip (.skip (.cons .nil)))) (.cons rfl rfl rfl (.skip (.skip (.skip (.skip (.cons .nil))))) (.cons rfl rfl rfl (.skip (.skip (.skip (.skip (.skip (.cons .nil)))))) .nil)))))) rfl ?_;refine zz1 ?_;refine cC (bH (z0:=[.int .i64 0,.int .i64 0,.int .i64 0,.bool false,.slice none 0 0,.slice none 0 0,.int .i64 0,.int .i64 0,.int .i64 0,.int .i64 0,.bool false,.slice none 0 0,.slice none 0 0,.int .i64 0]) fV uH rfl rfl rfl rfl (.cons rfl rfl rfl (.cons (.cons (.cons (.cons (.cons (.cons (.cons .nil))))))) (.cons rfl rfl rfl (.skip (.skip (.skip (.skip (.skip (.skip (.skip (.cons (.cons (.cons (.cons (.cons (.cons (.cons .nil)))))))))))))) .nil))) rfl ?_;rintro _ K _ ⟨b107,rfl,rfl,rfl⟩ -;refine aX rfl rfl (nX b b107 vs [⟨op,0,tag,oct,⟨.slice sa sn sc,rfl⟩,⟨.slice ta tn2 tc,rfl⟩,0⟩,jmpV j] _ _ rfl gAI) (.cons (.there (.there (.there .here))) (.cons .here .nil)) rfl ?_;rintro _ K _ ⟨rfl,rfl,rfl⟩ -;refine cC (bH (z0:=[.int .i64 0]) uC tz3 rfl rfl rfl rfl (.cons rfl rfl rfl (.cons .nil) .nil)) rfl ?_;rintro _ K _ ⟨b109,rfl,rfl,rfl⟩ -;refine zz6 ?_;refine uAj ?_;refine fK (fH (aIM b109 3 (ops.length+1) _ gCC)) ?_;refine zz1 ?_;unfold unl;exact⟨_,rfl,_,RIs.append (RIs.two ⟨rfl,rfl,rfl,rfl,rfl,hA,hB⟩ (by rw[hj];exact vR _ _)) hv,rfl⟩
theorem bO1(a:List (List UInt8)):UnlS (.exi a):=by
 intro hw b tn ty u vs ops K hr hv hl;obtain⟨va,hA,he⟩:=hr;obtain⟨sa,sn,sc,rfl⟩:=hA.isSlice;cases he
 have hvl:=hv.length;refine a8 Tryz.func270 rfl Tryz.ntmps270 rfl rfl fun F w=>?_;refine zz7 ?_;refine uAe ?_;refine zz1 ?_;rintro _ K _ ⟨b7,rfl,rfl,rfl⟩ -;refine cA (cK kM rfl rfl rfl bF gAA (.cons (.cons (.cons (.cons (.cons (.cons (.cons .nil))))))) gAJ) ?_;rintro _ K _ ⟨rfl,rfl⟩ -;refine zz2 ?_;refine gV (fun(j:Int)=>j=if tn=true then 4 else 5) (fun _=>[(0,ptr b),(1,.iface 297 (.agg #[.slice sa sn sc])),(2,.bool tn),(7,ptr b7)]) (fun _=>K) (fun j=>[pt b7 (aZ [i64 j,i64 0,i64 0,.bool false,.slice none 0 0,.slice none 0 0,i64 0] 41),cdr b vs]) ?_ ?_
 ·refine zz5 ?_;refine eO 19 rfl (fun h19=>?_) (fun h19=>?_)
  ·refine zz2 ?_;refine uAs ?_;rintro _ K _ ⟨rfl,rfl⟩ -;refine aG ?_;exact cN _ gBK (.cons 0 rfl (.cons 1 rfl (.cons 2 rfl (.cons 7 rfl .nil)))) rfl (fun _ h=>h)
  refine aW ?_;exact cN _ gBK (.cons 0 rfl (.cons 1 rfl (.cons 2 rfl (.cons 7 rfl .nil)))) rfl (fun _ h=>h)
 intro j hj;refine zz9 ?_;refine aA (eI Tryz.underlying293 (fun _ h=>by cases h) rfl aVX rfl) rfl ?_;refine zz7 ?_;refine aA (eI Tryz.underlying289 (fun _ h=>by cases h) rfl bAS rfl) rfl ?_;refine zz7 ?_;refine aA (eI Tryz.underlying376 (fun _ h=>by cases h) rfl bLB rfl) rfl ?_;refine zz7 ?_;refine aA (eI Tryz.underlying380 (fun _ h=>by cases h) rfl bP5 rfl) rfl ?_;refine zz7 ?_;refine aA (jI Tryz.underlying297 (fun _ h=>by cases h) rfl) rfl ?_;refine zz8 ?_;rintro _ K _ ⟨b16,rfl,rfl,rfl⟩ -;refine cA (cK bOP rfl rfl rfl bF gAA (.cons .nil) gAJ) ?_;rintro _ K _ ⟨rfl,rfl⟩ -;refine zz7 ?_;refine aA (cL wA pO (.cons rfl rfl rfl (.cons .nil) (.cons rfl rfl rfl (.skip (.skip (.skip (.skip (.cons .nil))))) .nil))) rfl ?_;refine zz1 ?_;refine cC (bH (z0:=[.int .i64 0,.int .i64 0,.int .i64 0,.bool false,.slice none 0 0,.slice none 0 0,.int .i64 0,.int .i64 0,.int .i64 0,.int .i64 0,.bool false,.slice none 0 0,.slice none 0 0,.int .i64 0]) fV uH rfl rfl rfl rfl (.cons rfl rfl rfl (.cons (.cons (.cons (.cons (.cons (.cons (.cons .nil))))))) (.cons rfl rfl rfl (.skip (.skip (.skip (.skip (.skip (.skip (.skip (.cons (.cons (.cons (.cons (.cons (.cons (.cons .nil)))))))))))))) .nil))) rfl ?_;rintro _ K _ ⟨b118,rfl,rfl,rfl⟩ -;refine aX rfl rfl (nX b b118 vs [⟨9,0,0,false,⟨.slice sa sn sc,rfl⟩,nilC,0⟩,jmpV j] _ _ rfl gAI) (.cons (.there (.there (.there .here))) (.cons .here .nil)) rfl ?_;rintro _ K _ ⟨rfl,rfl,rfl⟩ -;refine cC (bH (z0:=[.int .i64 0]) uC tz3 rfl rfl rfl rfl (.cons rfl rfl rfl (.cons .nil) .nil)) rfl ?_;rintro _ K _ ⟨b120,rfl,rfl,rfl⟩ -;refine zz6 ?_;refine uAj ?_;refine fK (fH (aIM b120 3 (ops.length+1) _ gCC)) ?_;refine zz1 ?_;unfold unl;exact⟨_,rfl,_,RIs.append (RIs.two ⟨rfl,rfl,rfl,rfl,rfl,hA,uR _⟩ (by rw[hj];exact vR _ _)) hv,rfl⟩
theorem bO5(tag n:Int):UnlS (.siz tag n):=by
 intro hw b tn ty u vs ops K hr hv hl;cases (show [(_,u0)]=[(_,u0)]from hr)
 have hvl:=hv.length;refine a8 Tryz.func270 rfl Tryz.ntmps270 rfl rfl fun F w=>?_;refine zz7 ?_;refine uAe ?_;refine zz1 ?_;rintro _ K _ ⟨b7,rfl,rfl,rfl⟩ -;refine cA (cK kM rfl rfl rfl bF gAA (.cons (.cons (.cons (.cons (.cons (.cons (.cons .nil))))))) gAJ) ?_;rintro _ K _ ⟨rfl,rfl⟩ -;refine zz2 ?_;refine gV (fun(j:Int)=>j=if tn=true then 4 else 5) (fun _=>[(0,ptr b),(1,.iface 300 (.agg #[i64 tag,i64 n])),(2,.bool tn),(7,ptr b7)]) (fun _=>K) (fun j=>[pt b7 (aZ [i64 j,i64 0,i64 0,.bool false,.slice none 0 0,.slice none 0 0,i64 0] 41),cdr b vs]) ?_ ?_
 ·refine zz5 ?_;refine eO 19 rfl (fun h19=>?_) (fun h19=>?_)
  ·refine zz2 ?_;refine uAs ?_;rintro _ K _ ⟨rfl,rfl⟩ -;refine aG ?_;exact cN _ gBK (.cons 0 rfl (.cons 1 rfl (.cons 2 rfl (.cons 7 rfl .nil)))) rfl (fun _ h=>h)
  refine aW ?_;exact cN _ gBK (.cons 0 rfl (.cons 1 rfl (.cons 2 rfl (.cons 7 rfl .nil)))) rfl (fun _ h=>h)
 intro j hj;refine zz9 ?_;refine aA (eI Tryz.underlying293 (fun _ h=>by cases h) rfl aVX rfl) rfl ?_;refine zz7 ?_;refine aA (eI Tryz.underlying289 (fun _ h=>by cases h) rfl bAS rfl) rfl ?_;refine zz7 ?_;refine aA (eI Tryz.underlying376 (fun _ h=>by cases h) rfl bLB rfl) rfl ?_;refine zz7 ?_;refine aA (eI Tryz.underlying380 (fun _ h=>by cases h) rfl bP5 rfl) rfl ?_;refine zz7 ?_;refine aA (eI Tryz.underlying297 (fun _ h=>by cases h) rfl bU3 rfl) rfl ?_;refine zz7 ?_;refine aA (jI Tryz.underlying300 (fun _ h=>by cases h) rfl) rfl ?_;refine zz8 ?_;rintro _ K _ ⟨b17,rfl,rfl,rfl⟩ -;refine cA (cK bOQ rfl rfl rfl bF gAA (.cons (.cons .nil)) gAJ) ?_;rintro _ K _ ⟨rfl,rfl⟩ -;refine zz9 ?_;refine aA (cL wA pO (.cons rfl rfl rfl (.cons .nil) (.cons rfl rfl rfl (.skip (.skip (.cons .nil))) (.cons rfl rfl rfl (.skip (.cons .nil)) .nil)))) rfl ?_;refine zz1 ?_;refine cC (bH (z0:=[.int .i64 0,.int .i64 0,.int .i64 0,.bool false,.slice none 0 0,.slice none 0 0,.int .i64 0,.int .i64 0,.int .i64 0,.int .i64 0,.bool false,.slice none 0 0,.slice none 0 0,.int .i64 0]) fV uH rfl rfl rfl rfl (.cons rfl rfl rfl (.cons (.cons (.cons (.cons (.cons (.cons (.cons .nil))))))) (.cons rfl rfl rfl (.skip (.skip (.skip (.skip (.skip (.skip (.skip (.cons (.cons (.cons (.cons (.cons (.cons (.cons .nil)))))))))))))) .nil))) rfl ?_;rintro _ K _ ⟨b131,rfl,rfl,rfl⟩ -;refine aX rfl rfl (nX b b131 vs [⟨10,n,tag,false,nilC,nilC,0⟩,jmpV j] _ _ rfl gAI) (.cons (.there (.there (.there .here))) (.cons .here .nil)) rfl ?_;rintro _ K _ ⟨rfl,rfl,rfl⟩ -;refine cC (bH (z0:=[.int .i64 0]) uC tz3 rfl rfl rfl rfl (.cons rfl rfl rfl (.cons .nil) .nil)) rfl ?_;rintro _ K _ ⟨b133,rfl,rfl,rfl⟩ -;refine zz6 ?_;refine uAj ?_;refine fK (fH (aIM b133 3 (ops.length+1) _ gCC)) ?_;refine zz1 ?_;unfold unl;exact⟨_,rfl,_,RIs.append (RIs.two ⟨rfl,rfl,rfl,rfl,rfl,uR _,uR _⟩ (by rw[hj];exact vR _ _)) hv,rfl⟩
theorem bLG{all tn:Bool}{t l:Tree}{ops:List Mach.Ins}{a h:List Nat}(hc:¬(all=tn∧iD l=false)):unlL all tn (.tcons t l) ops a h=unlL all tn l (unl t tn ops).1 (a++(unl t tn ops).2) h:=by
 simp only[unlL];rw[if_neg hc]
theorem bSY{all tn:Bool}{t l:Tree}{ops:List Mach.Ins}{a h:List Nat}(hc:all=tn∧iD l=false):unlL all tn (.tcons t l) ops a h=unlL all tn l (unl t (!tn) ops).1 a (h++(unl t (!tn) ops).2):=by
 simp only[unlL];rw[if_pos hc]
theorem bL6{t:Tree}(h:wf t 0=true):1≤cnt t:=by
 cases t <;> simp only[wf,cnt]at h ⊢ <;> first|omega|(simp at h)
theorem bJS{K:Hl}:∀ {l:Tree} {xs:List (Cell×Cell)},wf l 1=true→Rep K l xs→xs.length≤cnt l:=by
 intro l;induction l with
 |tnil=>intro xs _ h;cases (show xs=[]from h);simp
 |tcons t l ih1 ih2=>
  rintro xs hw ⟨v,ys,h1,h2,rfl⟩;simp[wf]at hw;have:=ih2 hw.2 h2;have:=bL6 hw.1;simp only[cnt,List.length_cons];omega
 |_=>intro xs hw _;simp[wf]at hw
theorem bLI(all:Bool)(l:Tree)(ih:UnlL l):UnlS (.many all l):=by
  intro hw b tn ty u vs ops K hr hv hl;obtain⟨xs,sv,hrl,hS,he⟩:=hr;obtain⟨sa,sn,sc,rfl⟩:=hS.isSlice;cases he
  have hwl:wf l 1=true:=by simpa[wf]using hw
  have hxl:=bJS hwl hrl;simp only[cnt]at hl;have hvl:=hv.length;refine a8 Tryz.func270 rfl Tryz.ntmps270 rfl rfl fun F w=>?_;refine zz7 ?_;refine uAe ?_;refine zz1 ?_;rintro _ K _ ⟨b7,rfl,rfl,rfl⟩ -;refine cA (cK kM rfl rfl rfl bF gAA (.cons (.cons (.cons (.cons (.cons (.cons (.cons .nil))))))) gAJ) ?_;rintro _ K _ ⟨rfl,rfl⟩ -;refine zz2 ?_;refine gV (fun(j:Int)=>j=if tn=true then 4 else 5) (fun _=>[(0,ptr b),(1,.iface 376 (.agg #[.bool all,.slice sa sn sc])),(2,.bool tn),(7,ptr b7)]) (fun _=>K) (fun j=>[pt b7 (aZ [i64 j,i64 0,i64 0,.bool false,.slice none 0 0,.slice none 0 0,i64 0] 41),cdr b vs]) ?_ ?_
  · refine zz5 ?_;refine eO 19 rfl (fun h19=>?_) (fun h19=>?_)
    · refine zz2 ?_;refine uAs ?_;rintro _ K _ ⟨rfl,rfl⟩ -;refine aG ?_;exact cN _ gBK (.cons 0 rfl (.cons 1 rfl (.cons 2 rfl (.cons 7 rfl .nil)))) rfl (fun _ h=>h)
    refine aW ?_;exact cN _ gBK (.cons 0 rfl (.cons 1 rfl (.cons 2 rfl (.cons 7 rfl .nil)))) rfl (fun _ h=>h)
  intro j hj;refine zz9 ?_;refine aA (eI Tryz.underlying293 (fun _ h=>by cases h) rfl aVX rfl) rfl ?_;refine zz7 ?_;refine aA (eI Tryz.underlying289 (fun _ h=>by cases h) rfl bAS rfl) rfl ?_;refine zz7 ?_;refine aA (jI Tryz.underlying376 (fun _ h=>by cases h) rfl) rfl ?_;refine zz8 ?_;rintro _ K _ ⟨b10,rfl,rfl,rfl⟩ -;refine cA (cK aRC rfl rfl rfl bF gAA (.cons (.cons .nil)) gAJ) ?_;rintro _ K _ ⟨rfl,rfl⟩ -;refine zz11 ?_;refine kB (eF (m9 3)) ?_;refine kB (eF (m9 3)) ?_;refine zz2 ?_;refine aA (bO (k:=(e7 288)) rfl Tryz.underlying374 rfl aM) rfl ?_;refine zz4 ?_;refine z8 (.cons (.there (.there .here)) (.cons .here (.cons .here (.cons (.there .here) .nil)))) ?_;refine aQ9 (fun(K2:Hl) (i:Nat) (av hv2:Value) (vs2:List InsV) (aw he:List Nat)=>K.le K2∧i≤xs.length∧∃rest ops2,Rep K2 rest (xs.drop i)∧wf rest 1=true∧UnlL rest∧RIs K2 vs2 ops2∧unlL all tn l ops [] []=unlL all tn rest ops2 aw he∧vs2.length+2*cnt rest≤900000∧aw.length+cnt rest≤900000∧he.length+cnt rest≤900000) (fun _ i av hv2 _ _ _=>[(0,ptr b),(2,.bool tn),(10,ptr b10),(11,av),(12,hv2),(46,.slice sa sn sc),(47,i64 (xs.map Prod.fst).length),(48,i64 i)]) (fun K2 _ _ _ _ _ _=>K2) (fun _ _ av hv2 vs2 aw he=>[pt b10 (aZ [.bool all,.slice sa sn sc] 376),sl false (m9 3) av aw,sl false (m9 3) hv2 he,cdr b vs2]) (fun _ i _ _ _ _ _=>xs.length - i) K 0 _ _ vs [] [] ⟨Hl.le_refl _,Nat.zero_le _,l,ops,hrl,hwl,ih,hv,rfl,by omega,by simp;omega,by simp;omega⟩ (.cons 0 rfl (.cons 2 rfl (.cons 10 rfl (.cons 11 rfl (.cons 12 rfl (.cons 46 rfl (.cons 47 rfl (.cons 48 rfl .nil)))))))) rfl (fun _ h=>h) ?_;intro K2 i av hv2 vs2 aw he ⟨leL,hi0,rest,ops2,hrr,hwr,ihr,hv2r,hx,hb1,hb2,hb3⟩;have hSl:Ksl (e7 288) K2 (.slice sa sn sc) (xs.map Prod.fst):=hS.mono leL;have hml:(xs.map Prod.fst).length=xs.length:=List.length_map _;refine zz6 ?_;refine bK 49 rfl (fun h49=>?_) (fun h49=>?_)
  · have hilt:i < xs.length:=by omega
    obtain⟨t1,l1,c,rfl,hrt,hrl1,hxi,hwt,hwl1⟩:=bDX hwr hrr hilt;obtain⟨⟨cv,hcv⟩,hc⟩:∃c2,c=c2:=⟨_,rfl⟩;subst hc;obtain⟨ty2,u2,hce⟩:=aGC (.inl hwt) hrt;cases hce
    have hget:(xs.map Prod.fst)[i]?=some ⟨.iface ty2 u2,hcv⟩:=(by rw[List.getElem?_map,hxi];rfl);simp only[cnt]at hb1 hb2 hb3;have hun:=(lU t1).1;have hnil:=bJU hwl1 hrl1;have hdl:(xs.drop (i+1)).length=xs.length - (i+1):=List.length_drop;have hv2l:=hv2r.length;refine zz7 ?_;refine aA (bE (k:=(e7 288)) u6 rfl aM rfl rfl gAD) rfl ?_;refine aA (dP (o:=0) (k:=(e7 288)) aAI rfl aM cB rfl) rfl ?_;refine zz10 ?_;refine aA (aZS Tryz.underlying4 rfl rfl) rfl ?_;refine zz3 ?_;refine eO 59 rfl (fun h59=>?_) (fun h59=>?_)
    · refine zz5 ?_;refine aX rfl rfl (ihr.1 hwt b tn ty2 u2 vs2 ops2 _ hrt hv2r aI) (.cons (.there (.there (.there .here))) .nil) rfl ?_;rintro pv K3 _ ⟨vs3,hv3,rfl⟩ leM;have hu:=hun tn ops2;refine cC (dN (k:=(m9 3)) (ys:=(unl t1 tn ops2).2) xX rfl rfl (.there (.there (.there .here))) (fun w j=>dE Tryz.underlying55 (SeesSl.at (k:=m9 3) (.own .here) j)) gAE gAE) rfl ?_;rintro v69 K _ ⟨rfl,rfl,ho69⟩ -;refine zz9 ?_
      (have hcc : ¬ (all = tn ∧ iD l1 = false) := gBL
       refine aU (.cons (.there (.there (.there .here))) (.cons .here (.cons (.there (.there .here)) (.cons (.there .here) .nil)))) ?_;refine sX _ (i+1) _ hv2 vs3 (aw++(unl t1 tn ops2).2) he ⟨Hl.le_trans leL leM,by omega,l1,_,hrl1.mono leM,hwl1,ihr.2,hv3,by rw[hx,bLG hcc],by have:=hv3.length;omega,by rw[List.length_append];omega,by omega⟩ aI (.cons 0 rfl (.cons 2 rfl (.cons 10 rfl (.cons 11 rfl (.cons 12 rfl (.cons 46 rfl (.cons 47 rfl (.cons 48 rfl .nil)))))))) rfl fM)
    refine zz5 ?_;refine aA (bO (k:=(e7 288)) rfl Tryz.underlying374 rfl aM) rfl ?_;refine zz5 ?_;refine bK 70 rfl (fun h70=>?_) (fun h70=>?_)
    · refine zz5 ?_;refine aA gAF rfl ?_;refine aX rfl rfl (ihr.1 hwt b (!tn) ty2 u2 vs2 ops2 _ hrt hv2r aI) (.cons (.there (.there (.there .here))) .nil) rfl ?_;rintro pv K3 _ ⟨vs3,hv3,rfl⟩ leM;have hu:=hun (!tn) ops2;refine cC (dN (k:=(m9 3)) (ys:=(unl t1 (!tn) ops2).2) xX rfl rfl (.there (.there (.there (.there .here)))) (fun w j=>dE Tryz.underlying55 (SeesSl.at (k:=m9 3) (.own .here) j)) gAE gAE) rfl ?_;rintro v83 K _ ⟨rfl,rfl,ho83⟩ -;refine zz9 ?_
      (have hcc : all = tn ∧ iD l1 = false := ⟨by simpa using h59, hnil.2 aI⟩
       refine aU (.cons (.there (.there (.there .here))) (.cons (.there (.there (.there .here))) (.cons .here (.cons (.there .here) .nil)))) ?_;refine sX _ (i+1) av _ vs3 aw (he++(unl t1 (!tn) ops2).2) ⟨Hl.le_trans leL leM,by omega,l1,_,hrl1.mono leM,hwl1,ihr.2,hv3,by rw[hx,bSY hcc],by have:=hv3.length;omega,by omega,by rw[List.length_append];omega⟩ aI (.cons 0 rfl (.cons 2 rfl (.cons 10 rfl (.cons 11 rfl (.cons 12 rfl (.cons 46 rfl (.cons 47 rfl (.cons 48 rfl .nil)))))))) rfl fM)
    refine zz5 ?_;refine aX rfl rfl (ihr.1 hwt b tn ty2 u2 vs2 ops2 _ hrt hv2r aI) (.cons (.there (.there (.there .here))) .nil) rfl ?_;rintro pv K3 _ ⟨vs3,hv3,rfl⟩ leM;have hu:=hun tn ops2;refine cC (dN (k:=(m9 3)) (ys:=(unl t1 tn ops2).2) xX rfl rfl (.there (.there (.there .here))) (fun w j=>dE Tryz.underlying55 (SeesSl.at (k:=m9 3) (.own .here) j)) gAE gAE) rfl ?_;rintro v58 K _ ⟨rfl,rfl,ho58⟩ -;refine zz9 ?_
    (have hcc : ¬ (all = tn ∧ iD l1 = false) := gBL
     refine aU (.cons (.there (.there (.there .here))) (.cons .here (.cons (.there (.there .here)) (.cons (.there .here) .nil)))) ?_;refine sX _ (i+1) _ hv2 vs3 (aw++(unl t1 tn ops2).2) he ⟨Hl.le_trans leL leM,by omega,l1,_,hrl1.mono leM,hwl1,ihr.2,hv3,by rw[hx,bLG hcc],by have:=hv3.length;omega,by rw[List.length_append];omega,by omega⟩ aI (.cons 0 rfl (.cons 2 rfl (.cons 10 rfl (.cons 11 rfl (.cons 12 rfl (.cons 46 rfl (.cons 47 rfl (.cons 48 rfl .nil)))))))) rfl fM)
  have hend:unlL all tn l ops [] []=(ops2,aw,he):=(by rw[hx];exact bJP hwr hrr (List.drop_eq_nil_of_le aI));have hpl:=((lU l).2 all tn ops [] [] (by simp) (by simp));rw[hend]at hpl;simp only[List.length_nil]at hpl;have hv2l:=hv2r.length;refine zz9 ?_;refine aX rfl rfl (vN b hv2 vs2 he _ aI aI (fun k hk=>by have:=hpl.2.2.2.2.2 k hk;omega)) (.cons (.there (.there (.there .here))) (.cons (.there (.there .here)) .nil)) rfl ?_;rintro _ K _ ⟨rfl,rfl,rfl⟩ -;refine zz11 ?_;refine uAf ?_;refine bD rfl rfl leL ?_;have e:unl (.many all l) tn ops=(land ops2 he,aw):=(by simp only[unl,hend]);rw[e];exact⟨_,rfl,_,hv2r.land,rfl⟩
theorem bO0:∀(t:Tree),UnlS t∧UnlL t:=by
 intro t;induction t with
 |const p=>exact⟨bFB p,trivial⟩
 |not_ t ih=>exact⟨bO4 t ih.1,trivial⟩
 |many all l ih=>exact⟨bLI all l ih.2,trivial⟩
 |mat tag oct op a b=>exact⟨bO3 tag oct op a b,trivial⟩
 |exi a=>exact⟨bO1 a,trivial⟩
 |siz tag n=>exact⟨bO5 tag n,trivial⟩
 |tcons t l ih1 ih2=>exact⟨fun h=>by simp[wf]at h,ih1.1,ih2.2⟩
 |_=>exact⟨fun h=>by simp[wf]at h,trivial⟩
theorem bDU{K:Hl}{rest:Tree}{xs:List (Cell×Cell)}{i:Nat}(hw:wf rest 3=true)(hr:Rep K rest (xs.drop i))(hi:i < xs.length):
  ∃t l c,rest=.ccons t l∧Rep K t [(c,u0)]∧Rep K l (xs.drop (i+1))∧xs[i]?=some (c,u0)∧wf t 2=true∧wf l 3=true:=by
 have hd:xs.drop i≠[]:=by intro h;have:=congrArg List.length h;simp at this;omega
 cases rest <;> simp only[wf,Rep]at hw hr
 case cnil=>exact absurd hr hd
 case ccons t l=>
  obtain⟨c,ys,h1,h2,h3⟩:=hr;simp at hw;have e:xs.drop (i+1)=ys:=by rw[←List.drop_drop,h3];rfl
  refine⟨t,l,c,rfl,h1,by rw[e];exact h2,?_,hw.1,hw.2⟩
  have:=List.getElem?_drop (xs:=xs) (i:=i) (j:=0);rw[h3]at this;simpa using this.symm
 all_goals simp at hw
theorem bJO{K:Hl}{rest:Tree}{ys:List (Cell×Cell)}(hw:wf rest 3=true)(hr:Rep K rest ys)(he:ys=[]){ops:List Mach.Ins}:body rest ops=ops:=by
 cases rest <;> simp only[wf,Rep]at hw hr
 case cnil=>simp[body]
 case ccons t l=>obtain⟨c,zs,_,_,rfl⟩:=hr;cases he
 all_goals simp at hw
theorem bNR{K:Hl}{c:Tree}{ty:TypeId}{u:Value}{hc:(Value.iface ty u).oneCell'=true}(hw:wf c 2=true)(h:Rep K c [(⟨.iface ty u,hc⟩,u0)]):
  (∃op,c=.plain op∧ty=285∧u=.agg #[i64 op])∨(∃k a p,c=.act k a p∧ty=282∧u=.agg #[i64 k,str a,i64 p])∨(∃n v t,c=.set_ n v t∧ty=308∧u=.agg #[str n,str v,i64 t])∨
  (∃bs ys sa sn sc,c=.iff bs∧ty=311∧u=.agg #[.slice sa sn sc]∧Rep K bs ys∧Ksl (kJ 371) K (.slice sa sn sc) ys∧wf bs 4=true):=by
 cases c <;> simp only[wf,Rep]at hw h
 case plain op=>cases h;exact .inl ⟨op,rfl,rfl,rfl⟩
 case act k a p=>cases h;exact .inr (.inl ⟨k,a,p,rfl,rfl,rfl⟩)
 case set_ n v t=>cases h;exact .inr (.inr (.inl ⟨n,v,t,rfl,rfl,rfl⟩))
 case iff bs=>
  obtain⟨ys,sv,h1,h2,h3⟩:=h;obtain⟨sa,sn,sc,rfl⟩:=h2.isSlice;cases h3
  exact .inr (.inr (.inr ⟨bs,ys,sa,sn,sc,rfl,rfl,rfl,h1,h2,by simpa using hw⟩))
 all_goals simp at hw
theorem RIs.one_{K:Hl}{x:InsV}{o:Mach.Ins}(h1:RIns K x o):RIs K [x] [o]:=⟨h1,trivial⟩
abbrev bPA(b:Nat)(r:List Mach.Ins):Ending→Hl→List Asn→Prop:=Ret fun v K' L'=>v=.tuple #[]∧∃vs',RIs K' vs' r∧L'=[cdr b vs']
def aY9(l:Tree):Prop:=wf l 3=true→∀(b:Nat) (sv:Value) (xs:List (Cell×Cell)) (vs:List InsV) (ops:List Mach.Ins) (K:Hl),Rep K l xs→Ksl (e7 224) K sv (xs.map Prod.fst)→RIs K vs ops→vs.length+2*cnt l≤900000→Sp Tryz.prog 107 [ptr b,sv] K [cdr b vs] (bPA b (body l ops))
def BrS(l:Tree):Prop:=wf l 4=true→∀(b:Nat) (sa:Option Addr) (sn sc:Nat) (xs:List (Cell×Cell)) (vs:List InsV) (ops:List Mach.Ins) (K:Hl),Rep K l xs→Ksl (kJ 371) K (.slice sa sn sc) xs→RIs K vs ops→vs.length+2*cnt l≤900000→Sp Tryz.prog 194 [ptr b,.agg #[.slice sa sn sc]] K [cdr b vs] (bPA b (cV l ops []))
def bPB:Tree→Prop
 | .iff bs=>BrS bs
 |_=>True
def aY8:Tree→Prop
 | .ccons c l=>bPB c∧aY8 l
 |_=>True
theorem bGD{t:Tree}(h:wf t 2=true):1≤cnt t:=by
 cases t <;> simp only[wf,cnt]at h ⊢ <;> first|omega|(simp at h)
theorem bJR{K:Hl}:∀ {l:Tree} {xs:List (Cell×Cell)},wf l 3=true→Rep K l xs→xs.length≤cnt l:=by
 intro l;induction l with
 |cnil=>intro xs _ h;cases (show xs=[]from h);simp
 |ccons t l ih1 ih2=>
  rintro xs hw ⟨v,ys,h1,h2,rfl⟩;simp[wf]at hw;have:=ih2 hw.2 h2;have:=bGD hw.1;simp only[cnt,List.length_cons];omega
 |_=>intro xs hw _;simp[wf]at hw
theorem aR8(l:Tree)(ih:aY8 l):aY9 l:=by
 intro hw b sv xs vs ops K hr hS hv hl;have hxl:=bJR hw hr;refine a8 Tryz.func107 rfl Tryz.ntmps107 rfl rfl fun F w=>?_;have hml:(xs.map Prod.fst).length=xs.length:=List.length_map _;refine zz3 ?_;refine aA (bO (k:=(e7 224)) rfl Tryz.underlying135 rfl aM) rfl ?_;refine zz4 ?_;refine n7 (fun(K2:Hl) (i:Nat) (vs2:List InsV)=>K.le K2∧i≤xs.length∧∃rest ops2,Rep K2 rest (xs.drop i)∧wf rest 3=true∧aY8 rest∧RIs K2 vs2 ops2∧body l ops=body rest ops2∧vs2.length+2*cnt rest≤900000) (fun _ i _=>[(0,ptr b),(11,sv),(12,i64 (xs.map Prod.fst).length),(13,i64 i)]) (fun K2 _ _=>K2) (fun _ _ vs2=>[cdr b vs2]) (fun _ i _=>xs.length - i) K 0 vs ⟨Hl.le_refl _,Nat.zero_le _,l,ops,hr,hw,ih,hv,rfl,hl⟩ (.cons 0 rfl (.cons 11 rfl (.cons 12 rfl (.cons 13 rfl .nil)))) rfl (fun _ h=>h) ?_;intro K2 i vs2 ⟨leL,hi0,rest,ops2,hrr,hwr,ihr,hv2,hx,hb⟩;have hSl:Ksl (e7 224) K2 sv (xs.map Prod.fst):=hS.mono leL;have hv2l:=hv2.length;refine zz6 ?_;refine bK 14 rfl (fun h14=>?_) (fun h14=>?_)
 ·have hilt:i < xs.length:=by omega
  obtain⟨c,l1,cc,rfl,hrt,hrl1,hxi,hwt,hwl1⟩:=bDU hwr hrr hilt;obtain⟨⟨cv,hcv⟩,hc⟩:∃c2,cc=c2:=⟨_,rfl⟩;subst hc;obtain⟨ty2,u2,hce⟩:=aGC (.inr hwt) hrt;cases hce
  have hget:(xs.map Prod.fst)[i]?=some ⟨.iface ty2 u2,hcv⟩:=(by rw[List.getElem?_map,hxi];rfl);simp only[cnt]at hb;have hcl:=(nG c).2.1 ops2;refine zz6 ?_;refine aA (bE (k:=(e7 224)) aAG rfl aM rfl rfl gAD) rfl ?_;refine aA (dP (o:=0) (k:=(e7 224)) bP3 rfl aM cB rfl) rfl ?_;refine zz3 ?_;rcases bNR hwt hrt with ⟨op,rfl,rfl,rfl⟩|⟨k,a,p,rfl,rfl,rfl⟩|⟨n,v,t,rfl,rfl,rfl⟩|⟨bs,ys,sa,sn,sc,rfl,rfl,rfl,hrb,hSb,hwb⟩
  ·refine zz8 ?_;refine aA (jI Tryz.underlying285 (fun _ h=>by cases h) rfl) rfl ?_;refine zz8 ?_;rintro _ K _ ⟨b6,rfl,rfl,rfl⟩ -;refine cA (cK bON rfl rfl rfl bF gAA (.cons .nil) gAJ) ?_;rintro _ K _ ⟨rfl,rfl⟩ -;refine zz6 ?_;refine uAe ?_;refine cC (bH (z0:=[.int .i64 0,.int .i64 0,.int .i64 0,.bool false,.slice none 0 0,.slice none 0 0,.int .i64 0]) fV uH rfl rfl rfl rfl (.cons rfl rfl rfl (.cons (.cons (.cons (.cons (.cons (.cons (.cons .nil))))))) .nil)) rfl ?_;rintro _ K _ ⟨b25,rfl,rfl,rfl⟩ -;refine aX rfl rfl (nX b b25 vs2 [jmpV op] _ _ rfl gB0) (.cons (.there (.there .here)) (.cons .here .nil)) rfl ?_;rintro _ K _ ⟨rfl,rfl,rfl⟩ -;have hv3:RIs _ _ (cmdI (.plain op) ops2):=RIs.append (ws:=[jmpV op]) (ps:=[jmp op]) ⟨vR _ _,trivial⟩ hv2;have leM:=Hl.le_refl K;refine zz8 ?_;refine uAa ?_;refine iU _ (i+1) _ ⟨Hl.le_trans leL leM,by omega,l1,_,hrl1.mono leM,hwl1,ihr.2,hv3,by rw[hx];simp only[body,cmdI],by have:=hv3.length;simp only[cmdI]at this hcl;omega⟩ aI (.cons 0 rfl (.cons 11 rfl (.cons 12 rfl (.cons 13 rfl .nil)))) rfl fM
  ·refine zz8 ?_;refine aA (eI Tryz.underlying285 (fun _ h=>by cases h) rfl bK9 rfl) rfl ?_;refine zz7 ?_;refine aA (jI Tryz.underlying282 (fun _ h=>by cases h) rfl) rfl ?_;refine zz8 ?_;rintro _ K _ ⟨b7,rfl,rfl,rfl⟩ -;refine cA (cK bOM rfl rfl rfl bF gAA (.cons (.cons (.cons .nil))) gAJ) ?_;rintro _ K _ ⟨rfl,rfl⟩ -;refine zz8 ?_;refine aA (cL wA pO (.cons rfl rfl rfl (.cons .nil) (.cons rfl rfl rfl (.skip (.skip (.cons .nil))) (.cons rfl rfl rfl (.skip (.skip (.skip (.skip (.skip (.skip (.cons .nil))))))) .nil)))) rfl ?_;refine zz1 ?_;rintro _ K _ ⟨b8,rfl,rfl,rfl⟩ -;refine cA (cK kM rfl rfl rfl bF gAA (.cons (.cons (.cons (.cons (.cons (.cons (.cons .nil))))))) gAJ) ?_;rintro _ K _ ⟨rfl,rfl⟩ -;refine zz10 ?_;refine bK 37 rfl (fun h37=>?_) (fun h37=>?_)
   ·refine zz3 ?_;refine cC (bH (z0:=[(str [])]) cG tz9 rfl rfl rfl rfl (.cons rfl rfl rfl (.cons .nil) .nil)) rfl ?_;rintro _ K _ ⟨b40,rfl,rfl,rfl⟩ -;refine fT fun K3 leM hb40=>?_;refine zz1 ?_;refine uBe ?_;rintro _ K _ ⟨rfl,rfl⟩ -;refine zz5 ?_;refine cC (bH (z0:=[.int .i64 0,.int .i64 0,.int .i64 0,.bool false,.slice none 0 0,.slice none 0 0,.int .i64 0]) fV uH rfl rfl rfl rfl (.cons rfl rfl rfl (.cons (.cons (.cons (.cons (.cons (.cons (.cons .nil))))))) .nil)) rfl ?_;rintro _ K _ ⟨b44,rfl,rfl,rfl⟩ -;refine aX rfl rfl (nX b b44 vs2 [⟨11,0,k,false,⟨.slice (some ⟨b40,0,none⟩) 1 1,rfl⟩,nilC,p⟩] _ _ rfl gB0) (.cons (.there (.there (.there .here))) (.cons .here .nil)) rfl ?_;rintro _ K _ ⟨rfl,rfl,rfl⟩ -;have hv3:RIs _ _ (cmdI (.act k a p) ops2):=(by simp only[cmdI];rw[if_neg h37];exact RIs.append (RIs.one_ (x:=⟨11,0,k,false,⟨.slice (some ⟨b40,0,none⟩) 1 1,rfl⟩,nilC,p⟩) ⟨rfl,rfl,rfl,rfl,rfl,.inr ⟨b40,0,1,[str a],(0,0),rfl,⟨_,hb40⟩,rfl⟩,uR _⟩) (hv2.mono leM));refine zz8 ?_;refine uAa ?_;refine iU _ (i+1) _ ⟨Hl.le_trans leL leM,by omega,l1,_,hrl1.mono leM,hwl1,ihr.2,hv3,by rw[hx];simp only[body,cmdI],by have:=hv3.length;simp only[cmdI]at this hcl;omega⟩ aI (.cons 0 rfl (.cons 11 rfl (.cons 12 rfl (.cons 13 rfl .nil)))) rfl fM
   refine zz5 ?_;refine cC (bH (z0:=[.int .i64 0,.int .i64 0,.int .i64 0,.bool false,.slice none 0 0,.slice none 0 0,.int .i64 0]) fV uH rfl rfl rfl rfl (.cons rfl rfl rfl (.cons (.cons (.cons (.cons (.cons (.cons (.cons .nil))))))) .nil)) rfl ?_;rintro _ K _ ⟨b44,rfl,rfl,rfl⟩ -;refine aX rfl rfl (nX b b44 vs2 [⟨11,0,k,false,nilC,nilC,p⟩] _ _ rfl gB0) (.cons (.there (.there (.there .here))) (.cons .here .nil)) rfl ?_;rintro _ K _ ⟨rfl,rfl,rfl⟩ -;have leM:=Hl.le_refl K;have hv3:RIs _ _ (cmdI (.act k a p) ops2):=(by simp only[cmdI];rw[if_pos (Classical.not_not.1 h37)];exact RIs.append (RIs.one_ (x:=⟨11,0,k,false,nilC,nilC,p⟩) ⟨rfl,rfl,rfl,rfl,rfl,uR _,uR _⟩) hv2);refine zz8 ?_;refine uAa ?_;refine iU _ (i+1) _ ⟨Hl.le_trans leL leM,by omega,l1,_,hrl1.mono leM,hwl1,ihr.2,hv3,by rw[hx];simp only[body,cmdI],by have:=hv3.length;simp only[cmdI]at this hcl;omega⟩ aI (.cons 0 rfl (.cons 11 rfl (.cons 12 rfl (.cons 13 rfl .nil)))) rfl fM
  ·refine zz8 ?_;refine aA (eI Tryz.underlying285 (fun _ h=>by cases h) rfl bK9 rfl) rfl ?_;refine zz7 ?_;refine aA (eI Tryz.underlying282 (fun _ h=>by cases h) rfl bP4 rfl) rfl ?_;refine zz7 ?_;refine aA (jI Tryz.underlying308 (fun _ h=>by cases h) rfl) rfl ?_;refine zz8 ?_;rintro _ K _ ⟨b9,rfl,rfl,rfl⟩ -;refine cA (cK aRB rfl rfl rfl bF gAA (.cons (.cons (.cons .nil))) gAJ) ?_;rintro _ K _ ⟨rfl,rfl⟩ -;refine zz8 ?_;refine cC (bH (z0:=[(str [])]) cG tz9 rfl rfl rfl rfl (.cons rfl rfl rfl (.cons .nil) .nil)) rfl ?_;rintro _ K _ ⟨b54,rfl,rfl,rfl⟩ -;refine zz2 ?_;refine cC (bH (z0:=[(str [])]) cG tz9 rfl rfl rfl rfl (.cons rfl rfl rfl (.cons .nil) .nil)) rfl ?_;rintro _ K _ ⟨b57,rfl,rfl,rfl⟩ -;refine fT fun K3 leM1 hb57=>?_;refine fT fun K4 leM2 hb54=>?_;have leM:=Hl.le_trans leM1 leM2;have hb57:=leM2 _ _ hb57;refine aA (cL wA pO (.cons rfl rfl rfl (.cons .nil) (.cons rfl rfl rfl (.skip (.skip (.cons .nil))) (.cons rfl rfl rfl (.skip (.skip (.skip (.skip (.cons .nil))))) (.cons rfl rfl rfl (.skip (.skip (.skip (.skip (.skip (.cons .nil)))))) .nil))))) rfl ?_;refine cC (bH (z0:=[.int .i64 0,.int .i64 0,.int .i64 0,.bool false,.slice none 0 0,.slice none 0 0,.int .i64 0]) fV uH rfl rfl rfl rfl (.cons rfl rfl rfl (.cons (.cons (.cons (.cons (.cons (.cons (.cons .nil))))))) .nil)) rfl ?_;rintro _ K _ ⟨b59,rfl,rfl,rfl⟩ -;refine aX rfl rfl (nX b b59 vs2 [⟨12,0,t,false,⟨.slice (some ⟨b54,0,none⟩) 1 1,rfl⟩,⟨.slice (some ⟨b57,0,none⟩) 1 1,rfl⟩,0⟩] _ _ rfl gB0) (.cons (.there (.there .here)) (.cons .here .nil)) rfl ?_;rintro _ K _ ⟨rfl,rfl,rfl⟩ -;have hv3:RIs _ _ (cmdI (.set_ n v t) ops2):=RIs.append (RIs.one_ (x:=⟨12,0,t,false,⟨.slice (some ⟨b54,0,none⟩) 1 1,rfl⟩,⟨.slice (some ⟨b57,0,none⟩) 1 1,rfl⟩,0⟩) ⟨rfl,rfl,rfl,rfl,rfl,.inr ⟨b54,0,1,[str n],(0,0),rfl,⟨_,hb54⟩,rfl⟩,.inr ⟨b57,0,1,[str v],(0,0),rfl,⟨_,hb57⟩,rfl⟩⟩) (hv2.mono leM);refine zz8 ?_;refine uAa ?_;refine iU _ (i+1) _ ⟨Hl.le_trans leL leM,by omega,l1,_,hrl1.mono leM,hwl1,ihr.2,hv3,by rw[hx];simp only[body,cmdI],by have:=hv3.length;simp only[cmdI]at this hcl;omega⟩ aI (.cons 0 rfl (.cons 11 rfl (.cons 12 rfl (.cons 13 rfl .nil)))) rfl fM
  refine zz8 ?_;refine aA (eI Tryz.underlying285 (fun _ h=>by cases h) rfl bK9 rfl) rfl ?_;refine zz7 ?_;refine aA (eI Tryz.underlying282 (fun _ h=>by cases h) rfl bP4 rfl) rfl ?_;refine zz7 ?_;refine aA (eI Tryz.underlying308 (fun _ h=>by cases h) rfl bU4 rfl) rfl ?_;refine zz7 ?_;refine aA (jI Tryz.underlying311 (fun _ h=>by cases h) rfl) rfl ?_;refine zz8 ?_;rintro _ K _ ⟨b10,rfl,rfl,rfl⟩ -;refine cA (cK uX rfl rfl rfl bF gAA (.cons .nil) gAJ) ?_;rintro _ K _ ⟨rfl,rfl⟩ -;refine zz5 ?_;refine aX rfl rfl (ihr.1 hwb b sa sn sc ys vs2 ops2 _ hrb hSb hv2 (by simp only[cnt]at hb;omega)) (.cons (.there .here) .nil) rfl ?_;rintro _ K3 _ ⟨rfl,vs3,hv3,rfl⟩ leM;refine zz8 ?_;refine uAa ?_;refine iU _ (i+1) _ ⟨Hl.le_trans leL leM,by omega,l1,_,hrl1.mono leM,hwl1,ihr.2,hv3,by rw[hx];simp only[body,cmdI],by have:=hv3.length;simp only[cmdI]at this hcl;omega⟩ aI (.cons 0 rfl (.cons 11 rfl (.cons 12 rfl (.cons 13 rfl .nil)))) rfl fM
 have hend:body l ops=ops2:=(by rw[hx];exact bJO hwr hrr (List.drop_eq_nil_of_le aI));refine zz4 ?_;refine uAa ?_;refine dK rfl leL ?_;rw[hend];exact⟨_,rfl,rfl,vs2,hv2,rfl⟩
def BrL:Tree→Prop
 | .bcons _ b l=>aY9 b∧BrL l
 | .belse b l=>aY9 b∧BrL l
 |_=>True
theorem bRV{K:Hl}{rest:Tree}{xs:List (Cell×Cell)}{i:Nat}(hw:wf rest 4=true)(hr:Rep K rest (xs.drop i))(hi:i < xs.length):
  ∃ tv sa sn sc, xs[i]? = some (tv, ⟨.slice sa sn sc, rfl⟩) ∧ ((∃ t bd l ys ty u, rest = .bcons t bd l ∧ tv.1 = .iface ty u ∧ Rep K t [(tv, u0)] ∧ Rep K bd ys ∧ Ksl (e7 224) K (.slice sa sn sc) (ys.map Prod.fst) ∧ Rep K l (xs.drop (i + 1)) ∧ wf t 0 = true ∧ wf bd 3 = true ∧ wf l 4 = true) ∨
   (∃bd l ys,rest=.belse bd l∧tv.1=.nilIface∧Rep K bd ys∧Ksl (e7 224) K (.slice sa sn sc) (ys.map Prod.fst)∧wf bd 3=true)):=by
 have hd:xs.drop i≠[]:=by intro h;have:=congrArg List.length h;simp at this;omega
 have hget:∀ {x:Cell×Cell} {ys:List (Cell×Cell)},xs.drop i=x::ys→xs[i]?=some x∧xs.drop (i+1)=ys:=by
  intro x ys h3;refine⟨?_,by rw[←List.drop_drop,h3];rfl⟩
  have:=List.getElem?_drop (xs:=xs) (i:=i) (j:=0);rw[h3]at this;simpa using this.symm
 cases rest <;> simp only[wf,Rep]at hw hr
 case bnil=>exact absurd hr hd
 case bcons t bd l=>
  obtain⟨v,ys,⟨sv,hsv⟩,zs,h1,h2,h3,h4,h5,h6⟩:=hr;obtain⟨ty,u,h2⟩:=h2;simp at hw;obtain⟨sa,sn,sc,rfl⟩:=h4.isSlice;obtain⟨e1,e2⟩:=hget h6;exact⟨v,sa,sn,sc,e1,.inl ⟨t,bd,l,ys,ty,u,rfl,h2,h1,h3,h4,by rw[e2];exact h5,hw.1,hw.2.1,hw.2.2⟩⟩
 case belse bd l=>
  obtain⟨ys,⟨sv,hsv⟩,zs,h3,h4,h5,h6⟩:=hr;simp at hw;obtain⟨sa,sn,sc,rfl⟩:=h4.isSlice;obtain⟨e1,e2⟩:=hget h6;exact⟨_,sa,sn,sc,e1,.inr ⟨bd,l,ys,rfl,rfl,h3,h4,hw.1⟩⟩
 all_goals simp at hw
theorem bJT{K:Hl}{l:Tree}{ys:List (Cell×Cell)}(hw:wf l 4=true)(hr:Rep K l ys):iD l=true↔ys.length=0:=by
 cases l <;> simp only[wf,Rep]at hw hr
 case bnil=>subst hr;simp[iD]
 case bcons t b l=>obtain⟨v,zs,sv,ws,_,_,_,_,_,rfl⟩:=hr;simp[iD]
 case belse b l=>obtain⟨zs,sv,ws,_,_,_,rfl⟩:=hr;simp[iD]
 all_goals simp at hw
theorem bJN{K:Hl}{rest:Tree}{ys:List (Cell×Cell)}(hw:wf rest 4=true)(hr:Rep K rest ys)(he:ys=[]){ops:List Mach.Ins}{out:List Nat}:cV rest ops out=land ops out:=by
 cases rest <;> simp only[wf,Rep]at hw hr
 case bnil=>simp[cV]
 case bcons t b l=>obtain⟨v,zs,sv,ws,_,_,_,_,_,rfl⟩:=hr;cases he
 case belse b l=>obtain⟨zs,sv,ws,_,_,_,rfl⟩:=hr;cases he
 all_goals simp at hw
theorem bJQ{K:Hl}:∀ {l:Tree} {xs:List (Cell×Cell)},wf l 4=true→Rep K l xs→xs.length≤cnt l:=by
 intro l;induction l with
 |bnil=>intro xs _ h;cases (show xs=[]from h);simp
 |bcons t b l ih1 ih2 ih3=>
  rintro xs hw ⟨v,ys,sv,ws,h1,h2,h3,h4,h5,rfl⟩;simp[wf]at hw;have:=ih3 hw.2.2 h5;simp only[cnt,List.length_cons];omega
 |belse b l ih1 ih2=>
  rintro xs hw ⟨ys,sv,ws,h3,h4,h5,rfl⟩;simp[wf]at hw;have:=ih2 hw.2 h5;simp only[cnt,List.length_cons];omega
 |_=>intro xs hw _;simp[wf]at hw
theorem aWI{t b l:Tree}{ops:List Mach.Ins}{out:List Nat}(h:iD l=true):cV (.bcons t b l) ops out=cV l (land (body b (unl t false ops).1) (unl t false ops).2) out:=by
 simp only[cV];rw[if_pos h]
theorem aWJ{t b l:Tree}{ops:List Mach.Ins}{out:List Nat}(h:¬iD l=true):cV (.bcons t b l) ops out=cV l (land (body b (unl t false ops).1++[jmp 3]) (unl t false ops).2) (out++[(body b (unl t false ops).1).length]):=by
 simp only[cV];rw[if_neg h]
theorem aWH(bs:Tree)(ih:BrL bs):BrS bs:=by
  intro hw b sa sn sc xs vs ops K hr hS hv hl;have hxl:=bJQ hw hr;refine a8 Tryz.func194 rfl Tryz.ntmps194 rfl rfl fun F w=>?_;refine zz3 ?_;rintro _ K _ ⟨b3,rfl,rfl,rfl⟩ -;refine zz10 ?_;refine kB (eF (m9 3)) ?_;refine zz2 ?_;refine aA (bO (k:=(kJ 371)) rfl Tryz.underlying309 rfl aM) rfl ?_;refine zz4 ?_;refine aQ9 (fun(K2:Hl) (i:Nat) (ov:Value) (vs2:List InsV) (out:List Nat) (_ _:Unit)=>K.le K2∧i≤xs.length∧∃rest ops2,Rep K2 rest (xs.drop i)∧wf rest 4=true∧BrL rest∧RIs K2 vs2 ops2∧cV bs ops []=cV rest ops2 out∧vs2.length+2*cnt rest≤900000∧out.length+cnt rest≤900000∧∀k∈out,k < vs2.length) (fun _ i ov _ _ _ _=>[(0,ptr b),(3,ptr b3),(4,ov),(9,.slice sa sn sc),(10,i64 xs.length),(11,i64 i)]) (fun K2 _ _ _ _ _ _=>K2) (fun _ _ ov vs2 out _ _=>[sl false (m9 3) ov out,pt b3 (aZ [.slice sa sn sc] 311),cdr b vs2]) (fun _ i _ _ _ _ _=>xs.length - i) K 0 _ vs [] () () ⟨Hl.le_refl _,Nat.zero_le _,bs,ops,hr,hw,ih,hv,rfl,hl,by simp;omega,by simp⟩ (.cons 0 rfl (.cons 3 rfl (.cons 4 rfl (.cons 9 rfl (.cons 10 rfl (.cons 11 rfl .nil)))))) rfl (fun _ h=>h) ?_;intro K2 i ov vs2 out _ _ ⟨leL,hi0,rest,ops2,hrr,hwr,ihr,hv2,hx,hb1,hb2,hout⟩;have hSl:Ksl (kJ 371) K2 (.slice sa sn sc) xs:=hS.mono leL;have hv2l:=hv2.length;refine zz6 ?_;refine bK 12 rfl (fun h12=>?_) (fun h12=>?_)
  · have hilt:i < xs.length:=by omega
    obtain⟨⟨tv,htv⟩,ta,tn,tc,hget,hcase⟩:=bRV hwr hrr hilt;refine zz2 ?_;rcases hcase with ⟨t,bd,l1,ys,ty,u,rfl,htv2,hrt,hrbd,hSbd,hrl1,hwt,hwbd,hwl1⟩|⟨bd,l1,ys,rfl,htv2,hrbd,hSbd,hwbd⟩
    · obtain rfl:tv=.iface ty u:=htv2;simp only[cnt]at hb1 hb2;have hu:=(lU t).1 false ops2;have hbl:=(nG bd).1 (unl t false ops2).1;have hdl:(xs.drop (i+1)).length=xs.length - (i+1):=List.length_drop;have hnil:=bJT hwl1 hrl1;refine zz5 ?_;refine aA (bE (k:=(kJ 371)) uY rfl aM rfl rfl gAD) rfl ?_;refine aA (dC (n:=0) (k:=(kJ 371)) aBJ rfl aM cB) rfl ?_;refine zz1 ?_;rintro _ K _ ⟨b6,rfl,rfl,rfl⟩ -;refine zz1 ?_;refine cA (cK aBJ rfl rfl rfl bF gAA (.cons (.cons .nil)) gAJ) ?_;rintro _ K _ ⟨rfl,rfl⟩ -;refine zz18 ?_;refine aX rfl rfl ((bO0 t).1 hwt b false ty u vs2 ops2 _ hrt hv2 aI) (.cons (.there (.there (.there .here))) .nil) rfl ?_;rintro nv K3 _ ⟨vs3,hv3,rfl⟩ leM;have hv3l:=hv3.length;refine zz8 ?_;refine aX rfl rfl (ihr.1 hwbd b (.slice ta tn tc) ys vs3 _ _ (hrbd.mono leM) (hSbd.mono leM) hv3 aI) (.cons (.there .here) .nil) rfl ?_;rintro _ K4 _ ⟨rfl,vs4,hv4,rfl⟩ leN;have hv4l:=hv4.length;have hSl:=hSl.mono (Hl.le_trans leM leN);have leMN:=Hl.le_trans leM leN;have hva:(vs4++[jmpV 3]).length=vs4.length+1:=List.length_append;refine zz8 ?_;refine aA (bO (k:=(kJ 371)) rfl Tryz.underlying309 rfl aM) rfl ?_;refine zz4 ?_;refine bK 36 rfl (fun h36=>?_) (fun h36=>?_)
      · refine zz3 ?_;refine uAe ?_;refine cC (bH (z0:=[.int .i64 0,.int .i64 0,.int .i64 0,.bool false,.slice none 0 0,.slice none 0 0,.int .i64 0]) fV uH rfl rfl rfl rfl (.cons rfl rfl rfl (.cons (.cons (.cons (.cons (.cons (.cons (.cons .nil))))))) .nil)) rfl ?_;rintro _ K _ ⟨b40,rfl,rfl,rfl⟩ -;refine aX rfl rfl (nX b b40 vs4 [jmpV 3] _ _ rfl gAI) (.cons (.there .here) (.cons .here .nil)) rfl ?_;rintro _ K _ ⟨rfl,rfl,rfl⟩ -;refine cC (bH (z0:=[.int .i64 0]) uC tz3 rfl rfl rfl rfl (.cons rfl rfl rfl (.cons .nil) .nil)) rfl ?_;rintro _ K _ ⟨b42,rfl,rfl,rfl⟩ -;refine cC (dN (k:=(m9 3)) (ys:=[vs4.length]) xX rfl rfl (.there (.there (.there (.there .here)))) (fun w j=>dE Tryz.underlying55 (SeesSl.at (k:=m9 3) (xs:=[vs4.length]) (.blk (.own .here) rfl (by simp[m9,El.cs])) j)) gAE gAE) rfl ?_;rintro v43 K _ ⟨rfl,rfl,ho43⟩ -;refine zz6 ?_;refine aX rfl rfl (vN b nv (vs4++[jmpV 3]) _ _ aI aI (fun k hk=>by have:=hu.2.2.2 k hk;omega)) (.cons (.there (.there .here)) (.cons (.there (.there .here)) .nil)) rfl ?_;rintro _ K _ ⟨rfl,rfl,rfl⟩ -;refine zz7 ?_
        (have hnl : ¬ iD l1 = true := (by rw [hnil]; omega)
         refine aU (.cons (.there .here) (.cons (.there (.there (.there .here))) (.cons .here .nil))) ?_;refine sX _ (i+1) _ (aKG (vs4++[jmpV 3]) (unl t false ops2).2) (out++[vs4.length]) () () ⟨Hl.le_trans leL leMN,by omega,l1,_,hrl1.mono leMN,hwl1,ihr.2,(RIs.append (ws:=[jmpV 3]) (ps:=[jmp 3]) ⟨vR _ _,trivial⟩ hv4).land,by rw[hx,aWJ hnl,hv4l],by rw[sD];omega,by rw[List.length_append];simp;omega,fun k hk=>by rw[sD];rcases List.mem_append.1 hk with h|h;(have:=hout k h;omega);(simp at h;omega)⟩ aI (.cons 0 rfl (.cons 3 rfl (.cons 4 rfl (.cons 9 rfl (.cons 10 rfl (.cons 11 rfl .nil)))))) rfl fM)
      refine zz5 ?_;refine aX rfl rfl (vN b nv vs4 _ _ aI aI (fun k hk=>by have:=hu.2.2.2 k hk;omega)) (.cons .here (.cons .here .nil)) rfl ?_;rintro _ K _ ⟨rfl,rfl,rfl⟩ -;refine zz7 ?_
      (have hnl : iD l1 = true := (by rw [hnil]; omega)
       refine aU (.cons (.there (.there .here)) (.cons (.there (.there .here)) (.cons .here .nil))) ?_;refine sX _ (i+1) ov (aKG vs4 (unl t false ops2).2) out () () ⟨Hl.le_trans leL leMN,by omega,l1,_,hrl1.mono leMN,hwl1,ihr.2,hv4.land,by rw[hx,aWI hnl],by rw[sD];omega,by omega,fun k hk=>by rw[sD];have:=hout k hk;omega⟩ aI (.cons 0 rfl (.cons 3 rfl (.cons 4 rfl (.cons 9 rfl (.cons 10 rfl (.cons 11 rfl .nil)))))) rfl fM)
    obtain rfl:tv=.nilIface:=htv2;simp only[cnt]at hb1 hb2;have hbl:=(nG bd).1 ops2;refine zz5 ?_;refine aA (bE (k:=(kJ 371)) uY rfl aM rfl rfl gAD) rfl ?_;refine aA (dC (n:=0) (k:=(kJ 371)) aBJ rfl aM cB) rfl ?_;refine zz1 ?_;rintro _ K _ ⟨b6,rfl,rfl,rfl⟩ -;refine zz1 ?_;refine cA (cK aBJ rfl rfl rfl bF gAA (.cons (.cons .nil)) gAJ) ?_;rintro _ K _ ⟨rfl,rfl⟩ -;refine zz16 ?_;refine aX rfl rfl (ihr.1 hwbd b (.slice ta tn tc) ys vs2 ops2 _ hrbd hSbd hv2 aI) (.cons (.there (.there (.there .here))) .nil) rfl ?_;rintro _ K4 _ ⟨rfl,vs4,hv4,rfl⟩ leN;have hv4l:=hv4.length;refine zz12 ?_;refine aX rfl rfl (vN b ov vs4 out _ aI aI (fun k hk=>by have:=hout k hk;omega)) (.cons .here (.cons (.there .here) .nil)) rfl ?_;rintro _ K _ ⟨rfl,rfl,rfl⟩ -;refine uAz ?_;refine dK rfl (by first|exact Hl.le_trans leL leN|exact leL) ?_
    (rw[hx];simp only[cV];exact⟨_,rfl,rfl,_,hv4.land,rfl⟩)
  have hend:cV bs ops []=land ops2 out:=(by rw[hx];exact bJN hwr hrr (List.drop_eq_nil_of_le aI));refine zz8 ?_;refine aX rfl rfl (vN b ov vs2 out _ aI aI (fun k hk=>hout k hk)) (.cons (.there (.there .here)) (.cons .here .nil)) rfl ?_;rintro _ K _ ⟨rfl,rfl,rfl⟩ -;refine uAz ?_;refine dK rfl (by first|exact Hl.le_trans leL leN|exact leL) ?_
  (rw[hend];exact⟨_,rfl,rfl,_,hv2.land,rfl⟩)
theorem bFY:∀(t:Tree),aY9 t∧aY8 t∧BrS t∧BrL t∧bPB t:=by
 intro t;induction t with
 |iff bs ih=>exact⟨fun h=>by simp[wf]at h,trivial,fun h=>by simp[wf]at h,trivial,ih.2.2.1⟩
 |cnil=>exact⟨aR8 _ trivial,trivial,fun h=>by simp[wf]at h,trivial,trivial⟩
 |ccons c l ih1 ih2=>exact⟨aR8 _ ⟨ih1.2.2.2.2,ih2.2.1⟩,⟨ih1.2.2.2.2,ih2.2.1⟩,fun h=>by simp[wf]at h,trivial,trivial⟩
 |bnil=>exact⟨fun h=>by simp[wf]at h,trivial,aWH _ trivial,trivial,trivial⟩
 |bcons t b l ih1 ih2 ih3=>exact⟨fun h=>by simp[wf]at h,trivial,aWH _ ⟨ih2.1,ih3.2.2.2.1⟩,⟨ih2.1,ih3.2.2.2.1⟩,trivial⟩
 |belse b l ih1 ih2=>exact⟨fun h=>by simp[wf]at h,trivial,aWH _ ⟨ih1.1,ih2.2.2.2.1⟩,⟨ih1.1,ih2.2.2.2.1⟩,trivial⟩
 |_=>exact⟨fun h=>by simp[wf]at h,trivial,fun h=>by simp[wf]at h,trivial,trivial⟩
theorem aUS(b:Nat)(needs:List (List UInt8))(t:Tree)(K:Hl)(hat:ScriptAt K b needs t)(hw:wf t 3=true)(hc:cnt t≤400000):
  Sp Tryz.prog 58 [ptr b 6] K [] (Ret fun v K' L'=>∃vs,RIs K' vs (script t)∧L'=[sl false d9 v vs]):=by
 obtain⟨l,nv,bv,ys,fz,hb,h6,h7,hv,hS,hrep,hcl⟩:=hat.at_;refine a8 Tryz.func58 rfl Tryz.ntmps58 rfl rfl fun F w=>?_;refine zz7 ?_;refine aA (cL bUN bSE .nil) rfl ?_;refine zz1 ?_;rintro _ K _ ⟨b5,rfl,rfl,rfl⟩ -;refine zz9 ?_;refine aA (aL aL0 rfl (.known hb) h7) rfl ?_;refine kB (eF d9) ?_;refine kB (fun h hh=>fL hh) ?_;refine kB aQY ?_;refine aX rfl rfl ((bFY t).1 hw b5 bv ys [] [] _ hrep hS trivial gAI) (.cons .here .nil) rfl ?_;rintro _ K1 _ ⟨rfl,vs1,hv1,rfl⟩ le1;refine bTR fun cv=>?_;refine zz12 ?_;refine uAv ?_;refine bD rfl rfl le1 ?_;exact⟨_,rfl,vs1,hv1,rfl⟩
end Go.Proofs
end
section
attribute [local irreducible] Go.SL.T Go.SL.OL Go.SL.D Go.SL.DL Go.SL.Ev Go.SL.Ef Go.SL.EfS
namespace Go.Proofs
open Go Go.SL Go.Syn Go.Mach
theorem aJ8(s:List UInt8)(c:UInt8)(K:Hl):Sp Tryz.prog 308 [str s,.int .u8 c.toNat] K [] (Val (i64 (Lib.indexByte s c)) K):=by
 refine pD ⟨_,Tryz.func308,rfl,rfl⟩ fun w hw=>?_;have:=Tryz.strings_IndexByte ⟨s.toArray⟩ (c.toNat:Int) w
 simpa using this
theorem xB{E:Env}{fr:Fr}{K:Hl}{L:List Asn}{dst:Option Tmp}{ty:TypeId}{pos:String}{aft:Array Edge}{g:Option (Nat×Bool)}{x y:Operand}{t kt et b c:Nat}{k:List UInt8}{vars:List (List UInt8×List UInt8)}{f:Nat→Nat}
  (hm:E.P.underlying t=some (.map kt et)) (hk:E.P.underlying kt=some .string) (hz:gH E.P et=some (.agg #[str []])) (hx:fr.ev x=some (.map (some b))) (hy:fr.ev y=some (str k)) (hs:Sees K L b (mapO (lK vars f) c)):
  Ev E fr K L ⟨dst,.lookup t x y false,ty,pos,aft,g⟩ (.agg #[str (vget vars k)]):=by
 have:=aWZ (dst:=dst) (ty:=ty) (pos:=pos) (aft:=aft) (g:=g) hm hk hz hx hy hs;rw[bFH]at this;exact this
theorem aJ2{vars:List (List UInt8×List UInt8)}{parts:List (List UInt8)}{d:UInt8}(h:48≤d.toNat∧d.toNat≤57):held vars parts [d]=((parts[d.toNat - 48]?).getD [],true):=by
 unfold held;simp only[];rw[if_pos (by simp[eL,h.1,h.2])]
theorem aCH{vars:List (List UInt8×List UInt8)}{parts:List (List UInt8)}{name:List UInt8}(h:¬(∃d,name=[d]∧48≤d.toNat∧d.toNat≤57)):held vars parts name=(vget vars (dG name),named name):=by
 unfold held;split
 ·rename_i d;rw[if_neg (by intro e;simp[eL]at e;exact h ⟨d,rfl,e⟩)]
 rfl
theorem bCC(b mb:Nat)(c0 c1 c2 c3 c4 c5 c6 pv c9:Value)(pc:Int)(vars:List (List UInt8×List UInt8))(f:Nat→Nat)(c:Nat)(parts:List (List UInt8))(name:List UInt8)(K:Hl)(hpv:Ksl (bN 9) K pv parts)(hn:name.length≤100000000):
  Sp Tryz.prog 309 [ptr b,str name] K [mblk b c0 c1 c2 c3 c4 c5 c6 (.map (some mb)) pv c9 pc,pt mb (mapO (lK vars f) c)]
   (Ret fun v K' L'=>v=.tuple #[str (held vars parts name).1,.bool (held vars parts name).2]∧K'=K∧L'=[mblk b c0 c1 c2 c3 c4 c5 c6 (.map (some mb)) pv c9 pc,pt mb (mapO (lK vars f) c)]):=by
 refine a8 Tryz.func309 rfl Tryz.ntmps309 rfl rfl fun F w=>?_;refine zz13 ?_;refine cH 10 rfl (fun g10=>?_) (fun g10=>?_)
 ·obtain⟨d,rfl⟩:∃d,name=[d]:=List.length_eq_one_iff.1 aI;have hd0:([d]:List UInt8)[0]?=some d:=rfl;refine zz8 ?_;refine cH 15 rfl (fun g15=>?_) (fun g15=>?_)
  ·refine zz9 ?_;refine bK 19 rfl (fun h19=>?_) (fun h19=>?_)
   ·refine zz5 ?_;refine aA (aZT (m:=d.toNat) (n:=48) aI aI rfl rfl) rfl ?_;refine aA (zC Tryz.underlying3 Tryz.underlying5 rfl aI aI) rfl ?_;refine zz10 ?_;refine uAd ?_;refine zz3 ?_;refine bK 30 rfl (fun h30=>?_) (fun h30=>?_)
    ·obtain⟨p,hp⟩:∃p,parts[d.toNat - 48]?=some p:=⟨parts[d.toNat - 48]'(by omega),List.getElem?_eq_getElem aI⟩;refine zz7 ?_;refine aA (bE (k:=(bN 9)) cG rfl aM rfl rfl gAD) rfl ?_;refine uAg ?_;refine zz7 ?_;refine uAj ?_;refine fA rfl rfl rfl (Hl.le_refl _) ?_
     (rw[aJ2 aI,hp];exact⟨_,rfl,rfl,rfl,rfl⟩)
    have hp:parts[d.toNat - 48]?=none:=List.getElem?_eq_none aI;refine zz10 ?_;refine uAj ?_;refine fA rfl rfl rfl (Hl.le_refl _) ?_
    (rw[aJ2 aI,hp];exact⟨_,rfl,rfl,rfl,rfl⟩)
   have hno:¬(∃e,[d]=[e]∧48≤e.toNat∧e.toNat≤57):=(by rintro⟨e,h1,h2,h3⟩;cases h1;omega);refine zz3 ?_;refine dD (anc:=[0,1,3,7,0,16,63,127,0,304,1023,2047]) (ord:=[0,1,2,3,4,8,5,6,7,9,10,11]) [5,9] [] mixed gAH (dI _) ?_;refine zz6 ?_;refine lC rfl (.none rfl) rfl rfl rfl rfl (jT _ _ gA7) rfl ?_;refine aK rfl rfl (.none rfl) rfl rfl (xB Tryz.underlying175 Tryz.underlying9 bLA rfl rfl (.own (.there .here))) rfl ?_;refine zz1 ?_;refine lC rfl (.none rfl) rfl rfl rfl rfl (xI _ _ gA7) rfl ?_;refine zz5 ?_;refine uAj ?_;refine fA rfl rfl rfl (Hl.le_refl _) ?_
   (rw[aCH hno];exact⟨_,rfl,rfl,rfl,rfl⟩)
  have hno:¬(∃e,[d]=[e]∧48≤e.toNat∧e.toNat≤57):=(by rintro⟨e,h1,h2,h3⟩;cases h1;omega);refine zz10 ?_;refine dD (anc:=[0,1,3,7,0,16,63,127,0,304,1023,2047]) (ord:=[0,1,2,3,4,8,5,6,7,9,10,11]) [5,9] [] mixed gAH (dI _) ?_;refine zz6 ?_;refine lC rfl (.none rfl) rfl rfl rfl rfl (jT _ _ gA7) rfl ?_;refine aK rfl rfl (.none rfl) rfl rfl (xB Tryz.underlying175 Tryz.underlying9 bLA rfl rfl (.own (.there .here))) rfl ?_;refine zz1 ?_;refine lC rfl (.none rfl) rfl rfl rfl rfl (xI _ _ gA7) rfl ?_;refine zz5 ?_;refine uAj ?_;refine fA rfl rfl rfl (Hl.le_refl _) ?_
  (rw[aCH hno];exact⟨_,rfl,rfl,rfl,rfl⟩)
 have hno:¬(∃d,name=[d]∧48≤d.toNat∧d.toNat≤57):=(by rintro⟨d,rfl,_⟩;exact g10 rfl);refine zz15 ?_;refine dD (anc:=[0,1,3,7,0,16,63,127,0,304,1023,2047]) (ord:=[0,1,2,3,4,8,5,6,7,9,10,11]) [5,9] [] mixed gAH (dI _) ?_;refine zz6 ?_;refine lC rfl (.none rfl) rfl rfl rfl rfl (jT _ _ gA7) rfl ?_;refine aK rfl rfl (.none rfl) rfl rfl (xB Tryz.underlying175 Tryz.underlying9 bLA rfl rfl (.own (.there .here))) rfl ?_;refine zz1 ?_;refine lC rfl (.none rfl) rfl rfl rfl rfl (xI _ _ gA7) rfl ?_;refine zz5 ?_;refine uAj ?_;refine fA rfl rfl rfl (Hl.le_refl _) ?_
 (rw[aCH hno];exact⟨_,rfl,rfl,rfl,rfl⟩)
theorem aSY(vars:List (List UInt8×List UInt8))(parts:List (List UInt8))(f:Nat)(acc:List UInt8):j6 vars parts (f+1) [] acc=acc++[]:=by simp[j6]
theorem aW5{vars:List (List UInt8×List UInt8)}{parts:List (List UInt8)}{f:Nat}{s acc:List UInt8}(h0:s≠[])(h:Lib.index s [36,123] < 0):j6 vars parts (f+1) s acc=acc++s:=by
 simp only[j6];rw[if_neg h0,if_pos h]
theorem aSZ{vars:List (List UInt8×List UInt8)}{parts:List (List UInt8)}{f i:Nat}{s acc:List UInt8}{e:Int}{hd:List UInt8×Bool}(h0:s≠[])(h:Lib.index s [36,123]=(i:Int))(he:Lib.indexByte (s.drop i) 125=e)(hh:held vars parts (((s.drop i).take (max e 2).toNat).drop 2)=hd):
  j6 vars parts (f+1) s acc=if 0 < e∧hd.2=true then j6 vars parts f ((s.drop i).drop (e.toNat+1)) (acc++s.take i++hd.1)else j6 vars parts f ((s.drop i).drop 1) (acc++s.take i++[36]):=by
 simp only[j6];rw[if_neg h0,if_neg aI]
 have:(Lib.index s [36,123]).toNat=i:=by omega
 rw[this,he,hh]
theorem uN(b mb:Nat)(c0 c1 c2 c3 c4 c5 pv c9:Value)(pc:Int)(nm:Bool)(vars:List (List UInt8×List UInt8))(f:Nat→Nat)(c:Nat)(parts:List (List UInt8))(s:List UInt8)(K:Hl)(hg:Glob K)(hpv:Ksl (bN 9) K pv parts)(hs:s.length≤100000)(hsm:vA vars parts):
  Sp Tryz.prog 255 [ptr b,str s] K [mblk b c0 c1 c2 c3 c4 c5 (.bool nm) (.map (some mb)) pv c9 pc,pt mb (mapO (lK vars f) c)]
   (Ret fun v K' L'=>v=str (dM nm vars parts s)∧K'=K∧L'=[mblk b c0 c1 c2 c3 c4 c5 (.bool nm) (.map (some mb)) pv c9 pc,pt mb (mapO (lK vars f) c)]):=by
 refine a8 Tryz.func255 rfl Tryz.ntmps255 rfl rfl fun F w=>?_;refine zz12 ?_;refine aA gAF rfl ?_;refine zz2 ?_;refine eO 15 rfl (fun h15=>?_) (fun h15=>?_)
 ·refine zz8 ?_;refine uAj ?_;refine zz1 ?_;have hnm:nm=false:=by simpa using h15
  unfold dM;rw[if_neg (by simp[hnm])];exact⟨_,rfl,rfl,rfl,rfl⟩
 refine zz5 ?_;rintro _ K _ ⟨b5,rfl,rfl,rfl⟩ -;refine zz4 ?_;refine kF (fH (aFI b5)) ?_;refine rC (fun(s2 acc:List UInt8)=>s2.length≤s.length∧acc.length+100001*s2.length≤100001*s.length∧∃f2,s2.length≤f2∧j6 vars parts (s.length+1) s []=j6 vars parts (f2+1) s2 acc) (fun s2 _=>[(0,ptr b),(1,str s2),(5,ptr b5)]) (fun _ _=>K) (fun _ acc=>[bldr b5 acc,mblk b c0 c1 c2 c3 c4 c5 (.bool nm) (.map (some mb)) pv c9 pc,pt mb (mapO (lK vars f) c)]) (fun s2 _=>s2.length) s [] ⟨Nat.le_refl _,by simp,s.length,Nat.le_refl _,rfl⟩ (.cons 0 rfl (.cons 1 rfl (.cons 5 rfl .nil))) rfl (fun _ h=>h) ?_;intro s2 acc ⟨hi1,hi2,f2,hi3,hx⟩;refine zz7 ?_;refine bK 18 rfl (fun h18=>?_) (fun h18=>?_)
 ·have hne:s2≠[]:=h18;have hib:=zH s2 [36,123];refine zz6 ?_;refine cF rfl rfl (aKA s2 [36,123] _ hg aI) rfl ?_;refine zz10 ?_;refine bK 22 rfl (fun h22=>?_) (fun h22=>?_)
  ·have hout:j6 vars parts (s.length+1) s []=acc++s2:=(by rw[hx];exact aW5 hne h22);refine zz8 ?_;refine aX rfl rfl (pU b5 acc aI _) (.cons .here .nil) rfl ?_;rintro _ K _ ⟨rfl,rfl,rfl⟩ -;have hla:(acc++s2).length=acc.length+s2.length:=List.length_append;refine zz1 ?_;refine aA (cW rfl rfl gAE) rfl ?_;refine zz9 ?_;refine aA (fB (n:=min (acc++s2).length 1024) Tryz.underlying9 rfl rfl gA6 aI) rfl ?_;refine zz4 ?_;refine uAj ?_;refine zz1 ?_;have hnm:nm=true:=by simpa using h15
   have ht:(acc++s2).take (min (acc++s2).length 1024)=(acc++s2).take 1024:=gBD;unfold dM;rw[if_pos hnm,hout,ht];exact⟨_,rfl,rfl,rfl,rfl⟩
  obtain⟨i,hii⟩:∃i:Nat,Lib.index s2 [36,123]=(i:Int):=⟨(Lib.index s2 [36,123]).toNat,by omega⟩;have hi5:i+2≤s2.length:=(by simp only[List.length_cons,List.length_nil]at hib;omega);refine zz6 ?_;refine aA (fB (n:=i) Tryz.underlying9 rfl rfl hii aI) rfl ?_;refine aX rfl rfl (mE b5 (s2.take i) acc (by have:(s2.take i).length≤s2.length:=List.length_take_le' _ _;omega) _) (.cons .here .nil) rfl ?_;rintro _ K _ ⟨rfl,rfl,rfl⟩ -;refine zz6 ?_;refine aA (iT (m:=i) Tryz.underlying9 rfl rfl hii aI) rfl ?_;refine zz6 ?_;refine cF rfl rfl (aJ8 (s2.drop i) 125 _) rfl ?_;have hib2:=aP9 (s2.drop i) 125;obtain⟨e,hee⟩:∃e,Lib.indexByte (s2.drop i) 125=e:=⟨_,rfl⟩;rw[hee]at hib2 ⊢;have hdl:(s2.drop i).length=s2.length - i:=List.length_drop;have htl:(s2.take i).length=i:=List.length_take_of_le aI;refine zz10 ?_;refine aA (nY (m:=2) (n:=(max e 2).toNat) Tryz.underlying9 rfl rfl rfl rfl gA6 aI aI) rfl ?_;refine aX rfl rfl (bCC b mb c0 c1 c2 c3 c4 c5 (.bool nm) pv c9 pc vars f c parts _ _ hpv (by have:=List.length_drop (l:=(s2.drop i).take (max e 2).toNat) (i:=2);have:=List.length_take_le (max e 2).toNat (s2.drop i);omega)) (.cons (.there .here) (.cons (.there .here) .nil)) rfl ?_;rintro _ K _ ⟨rfl,rfl,rfl⟩ -;obtain⟨hd,hhd⟩:∃hd,held vars parts (((s2.drop i).take (max e 2).toNat).drop 2)=hd:=⟨_,rfl⟩;have hhl:=hsm (((s2.drop i).take (max e 2).toNat).drop 2);rw[hhd]at hhl ⊢;have hey:=aSZ (acc:=acc) (f:=f2) hne hii hee hhd;refine zz12 ?_;refine cH 43 rfl (fun g43=>?_) (fun g43=>?_)
  ·refine zz5 ?_;refine eO 45 rfl (fun h45=>?_) (fun h45=>?_)
   ·have hcc:0 < e∧hd.2=true:=⟨g43,h45⟩;refine zz3 ?_;refine aX rfl rfl (mE b5 hd.1 (acc++s2.take i) gAU _) (.cons (.there (.there .here)) .nil) rfl ?_;rintro _ K _ ⟨rfl,rfl,rfl⟩ -;refine zz7 ?_;refine aA (iT (m:=e.toNat+1) Tryz.underlying9 rfl rfl aI aI) rfl ?_;refine zz6 ?_;have hdd:((s2.drop i).drop (e.toNat+1)).length≤s2.length - 1 - i:=gA4;have hd1:((s2.drop i).drop 1).length≤s2.length - 1 - i:=gA4;have hf2:f2=(f2 - 1)+1:=by omega
    (refine fR ((s2.drop i).drop (e.toNat+1)) (acc++s2.take i++hd.1) ⟨by omega,by rw[List.length_append,List.length_append];omega,f2 - 1,by omega,by rw[hx,hey,if_pos hcc,←hf2]⟩ aI (.cons 0 rfl (.cons 1 rfl (.cons 5 rfl .nil))) rfl (fun _ h=>h))
   have hcc:¬(0 < e∧hd.2=true):=fun h=>by rw[h45]at h;exact absurd h.2 (by decide)
   refine zz4 ?_;refine aX rfl rfl (mD b5 36 (acc++s2.take i) gAU _) (.cons (.there (.there .here)) .nil) rfl ?_;rintro _ K _ ⟨rfl,rfl,rfl⟩ -;refine zz4 ?_;refine aA (iT (m:=1) Tryz.underlying9 rfl rfl rfl aI) rfl ?_;refine zz3 ?_;have hdd:((s2.drop i).drop (e.toNat+1)).length≤s2.length - 1 - i:=gA4;have hd1:((s2.drop i).drop 1).length≤s2.length - 1 - i:=gA4;have hf2:f2=(f2 - 1)+1:=by omega
   (refine fR ((s2.drop i).drop 1) (acc++s2.take i++[36]) ⟨by omega,by rw[List.length_append,List.length_append];simp only[List.length_singleton];omega,f2 - 1,by omega,by rw[hx,hey,if_neg hcc,←hf2]⟩ aI (.cons 0 rfl (.cons 1 rfl (.cons 5 rfl .nil))) rfl (fun _ h=>h))
  have hcc:¬(0 < e∧hd.2=true):=fun h=>g43 h.1
  refine zz9 ?_;refine aX rfl rfl (mD b5 36 (acc++s2.take i) gAU _) (.cons (.there (.there .here)) .nil) rfl ?_;rintro _ K _ ⟨rfl,rfl,rfl⟩ -;refine zz4 ?_;refine aA (iT (m:=1) Tryz.underlying9 rfl rfl rfl aI) rfl ?_;refine zz3 ?_;have hdd:((s2.drop i).drop (e.toNat+1)).length≤s2.length - 1 - i:=gA4;have hd1:((s2.drop i).drop 1).length≤s2.length - 1 - i:=gA4;have hf2:f2=(f2 - 1)+1:=by omega
  (refine fR ((s2.drop i).drop 1) (acc++s2.take i++[36]) ⟨by omega,by rw[List.length_append,List.length_append];simp only[List.length_singleton];omega,f2 - 1,by omega,by rw[hx,hey,if_neg hcc,←hf2]⟩ aI (.cons 0 rfl (.cons 1 rfl (.cons 5 rfl .nil))) rfl (fun _ h=>h))
 have hout:j6 vars parts (s.length+1) s []=acc++s2:=(by rw[hx,show s2=[]from Classical.not_not.1 h18];exact aSY _ _ _ _);refine zz7 ?_;refine aX rfl rfl (pU b5 acc aI _) (.cons .here .nil) rfl ?_;rintro _ K _ ⟨rfl,rfl,rfl⟩ -;have hla:(acc++s2).length=acc.length+s2.length:=List.length_append;refine zz1 ?_;refine aA (cW rfl rfl gAE) rfl ?_;refine zz9 ?_;refine aA (fB (n:=min (acc++s2).length 1024) Tryz.underlying9 rfl rfl gA6 aI) rfl ?_;refine zz4 ?_;refine uAj ?_;refine zz1 ?_;have hnm:nm=true:=by simpa using h15
 have ht:(acc++s2).take (min (acc++s2).length 1024)=(acc++s2).take 1024:=gBD;unfold dM;rw[if_pos hnm,hout,ht];exact⟨_,rfl,rfl,rfl,rfl⟩
theorem aMK{α β:Type}(g:α→β){l:List α}{i:Nat}{x:α}(h:l[i]?=some x):(l.take (i+1)).map g=(l.take i).map g++[g x]:=by
 have hi:i < l.length:=by
  rcases Nat.lt_or_ge i l.length with h'|h'
  ·exact h'
  simp[List.getElem?_eq_none h']at h
 have hc:l[i]=x:=by simpa[List.getElem?_eq_getElem hi]using h
 rw[List.take_succ_eq_append_getElem hi,hc];simp
theorem bFQ(b mb:Nat)(c0 c1 c2 c3 c4 c5 pv c9:Value)(pc:Int)(nm:Bool)(vars:List (List UInt8×List UInt8))(f:Nat→Nat)(c:Nat)(parts:List (List UInt8))(lv:Value)(l:List (List UInt8))(K:Hl)(hg:Glob K)(hpv:Ksl (bN 9) K pv parts)(hlv:Ksl (bN 9) K lv l)(hl:l.length≤1000000)(hs:∀s∈l,s.length≤100000)(hsm:vA vars parts):
  Sp Tryz.prog 250 [ptr b,lv] K [mblk b c0 c1 c2 c3 c4 c5 (.bool nm) (.map (some mb)) pv c9 pc,pt mb (mapO (lK vars f) c)]
   (Ret fun v K' L'=>K'=K∧L'=[sl false (bN 9) v (l.map (dM nm vars parts)),mblk b c0 c1 c2 c3 c4 c5 (.bool nm) (.map (some mb)) pv c9 pc,pt mb (mapO (lK vars f) c)]):=by
 refine a8 Tryz.func250 rfl Tryz.ntmps250 rfl rfl fun F w=>?_;refine zz14 ?_;refine uAd ?_;refine zz4 ?_;refine rC (fun(i:Nat) (v:Value)=>i≤l.length) (fun i v=>[(0,ptr b),(5,v),(8,lv),(9,i64 l.length),(10,i64 i)]) (fun _ _=>K) (fun i v=>[sl false (bN 9) v ((l.take i).map (dM nm vars parts)),mblk b c0 c1 c2 c3 c4 c5 (.bool nm) (.map (some mb)) pv c9 pc,pt mb (mapO (lK vars f) c)]) (fun i _=>l.length - i) 0 (.slice none 0 0) (Nat.zero_le _) (.cons 0 rfl (.cons 5 rfl (.cons 8 rfl (.cons 9 rfl (.cons 10 rfl .nil))))) rfl (eF (bN 9)) ?_;intro i v hi0;have hml:((l.take i).map (dM nm vars parts)).length=i:=(by rw[List.length_map,List.length_take_of_le hi0]);refine zz6 ?_;refine bK 11 rfl (fun h11=>?_) (fun h11=>?_)
 ·have hilt:i < l.length:=by omega
  obtain⟨x,hx⟩:∃x,l[i]?=some x:=⟨l[i]'hilt,List.getElem?_eq_getElem hilt⟩;refine zz6 ?_;refine aA (bE (k:=(bN 9)) cG rfl aM rfl rfl gAD) rfl ?_;refine uAg ?_;refine zz7 ?_;refine aX rfl rfl (uN b mb c0 c1 c2 c3 c4 c5 pv c9 pc nm vars f c parts x _ hg hpv (hs x (List.mem_of_getElem? hx)) hsm) (.cons (.there .here) (.cons (.there .here) .nil)) rfl ?_;rintro _ K _ ⟨rfl,rfl,rfl⟩ -;refine cC (bH (z0:=[(str [])]) cG tz9 rfl rfl rfl rfl (.cons rfl rfl rfl (.cons .nil) .nil)) rfl ?_;rintro _ K _ ⟨b18,rfl,rfl,rfl⟩ -;refine cC (dN (k:=(bN 9)) (ys:=[dM nm vars parts x]) fS rfl rfl (.there (.there (.there .here))) (fun w j=>dE Tryz.underlying39 (SeesSl.at (.blk (.own .here) rfl rfl) j)) (by rw[hml];simp;omega) (by rw[hml];simp;omega)) rfl ?_;rintro v19 K _ ⟨rfl,rfl,ho19⟩ -;refine zz8 ?_;refine uAr ?_;refine fR (i+1) _ aI aI (.cons 0 rfl (.cons 5 rfl (.cons 8 rfl (.cons 9 rfl (.cons 10 rfl .nil))))) rfl (by rw[aMK _ hx];exact fun _ h=>h)
 have hfin:(l.take i).map (dM nm vars parts)=l.map (dM nm vars parts):=(by rw[List.take_of_length_le aI]);refine zz12 ?_;refine uAq ?_;refine zz1 ?_;rw[hfin];exact⟨_,rfl,rfl,rfl⟩
theorem bD3(s:List UInt8)(K:Hl):Sp Tryz.prog 303 [str s] K [] (Val (str s) K):=by
 refine a8 Tryz.func303 rfl Tryz.ntmps303 rfl rfl fun F w=>?_;refine zz13 ?_;exact⟨rfl,rfl,rfl⟩
abbrev aJZ(oct:Bool):FuncId:=if oct=true then 303 else 185
theorem aP0(oct:Bool)(K:Hl):Sp Tryz.prog 249 [.bool oct] K [] (Val (.func (.func (aJZ oct)) #[] #[]) K):=by
 refine a8 Tryz.func249 rfl Tryz.ntmps249 rfl rfl fun F w=>?_;refine zz11 ?_;refine eO 3 rfl (fun h3=>?_) (fun h3=>?_)
 ·refine zz8 ?_;subst h3;exact⟨rfl,rfl,rfl⟩
 refine zz9 ?_;subst h3;exact⟨rfl,rfl,rfl⟩
theorem qM(oct:Bool)(s:List UInt8)(K:Hl)(hs:s.length≤100000000):Sp Tryz.prog (aJZ oct) [str s] K [] (Val (str (j4 oct s)) K):=by
 cases oct
 ·exact jT s K aI
 exact bD3 s K
theorem aDR(s sub:List UInt8)(K:Hl)(hg:Glob K)(hs:s.length < 4294967281):Sp Tryz.prog 305 [str s,str sub] K [] (Val (.bool (decide (0≤Lib.index s sub))) K):=by
 refine pD ⟨_,Tryz.func305,rfl,rfl⟩ fun w hw=>?_;obtain⟨m,T,fz,hm⟩:=hg.maxLen;exact Tryz.strings_Contains ⟨s.toArray⟩ ⟨sub.toArray⟩ m w gB3 (mI (hw _ _ hm) rfl)
theorem aKO(v k:List UInt8)(oct:Bool)(K:Hl)(hg:Glob K)(hv:v.length≤100000000)(hk:k.length≤100000000):Sp Tryz.prog 252 [str v,str k,.func (.func (aJZ oct)) #[] #[]] K [] (Val (.bool (decide (0≤Lib.index (j4 oct v) (j4 oct k)))) K):=by
 have hfl:∀s:List UInt8,(j4 oct s).length=s.length:=by intro s;unfold j4;split <;> simp[dG]
 refine a8 Tryz.func252 rfl Tryz.ntmps252 rfl rfl fun F w=>?_;refine zz9 ?_;refine cF rfl rfl (qM oct v _ hv) rfl ?_;refine zz2 ?_;refine cF rfl rfl (qM oct k _ hk) rfl ?_;refine cF rfl rfl (aDR _ _ _ hg (by rw[hfl];omega)) rfl ?_;refine zz5 ?_;exact⟨rfl,rfl,rfl⟩
def mch(b mb:Nat)(m:Msg)(hv pv:Value)(nm:Bool)(s:MS):Asn:=fun h=>∃av sv f c,Sat [mblk b (str m.from_) (str m.to_) (i64 m.size) hv av (.bool s.keep) (.bool nm) (.map (some mb)) pv sv s.pc,sl true cS av s.acts,sl false j9 sv s.stack,pt mb (mapO (lK s.vars f) c)] h
section
variable{E:Env}{c0:Code}{x0:Exit}{fr:Fr}{K:Hl}{L:List Asn}{Q:Post}{b mb:Nat}{m:Msg}{hv pv:Value}{nm:Bool}{s:MS}
theorem aQZ{h:Hl}:Sat (mch b mb m hv pv nm s::L) h↔∃av sv f c,Sat ([mblk b (str m.from_) (str m.to_) (i64 m.size) hv av (.bool s.keep) (.bool nm) (.map (some mb)) pv sv s.pc,sl true cS av s.acts,sl false j9 sv s.stack,pt mb (mapO (lK s.vars f) c)]++L) h:=by
 constructor
 ·rintro⟨a,l,⟨av,sv,f,c,hs⟩,hl,hd,rfl⟩;exact⟨av,sv,f,c,gE.2 ⟨a,l,hs,hl,hd,rfl⟩⟩
 rintro⟨av,sv,f,c,hs⟩;obtain⟨a,l,ha,hl,hd,rfl⟩:=gE.1 hs;exact⟨a,l,⟨av,sv,f,c,ha⟩,hl,hd,rfl⟩
attribute [local semireducible] Go.SL.T Go.SL.OL Go.SL.D Go.SL.DL Go.SL.Ev Go.SL.Ef Go.SL.EfS in
theorem yG(h:∀av sv f c,T E c0 fr K ([mblk b (str m.from_) (str m.to_) (i64 m.size) hv av (.bool s.keep) (.bool nm) (.map (some mb)) pv sv s.pc,sl true cS av s.acts,sl false j9 sv s.stack,pt mb (mapO (lK s.vars f) c)]++L) Q):T E c0 fr K (mch b mb m hv pv nm s::L) Q:=fun a w f i=>by
 obtain⟨x,hs,r⟩:=i.rep;obtain⟨av,sv,f1,c,hs⟩:=aQZ.1 hs;exact h av sv f1 c a w f ⟨i.os,i.tape,i.output,i.size,x,hs,r⟩
theorem j5{av sv:Value}{f:Nat→Nat}{c:Nat}:∀h,Sat (mblk b (str m.from_) (str m.to_) (i64 m.size) hv av (.bool s.keep) (.bool nm) (.map (some mb)) pv sv s.pc::sl true cS av s.acts::sl false j9 sv s.stack::pt mb (mapO (lK s.vars f) c)::L) h→Sat (mch b mb m hv pv nm s::L) h:=fun h hs=>aQZ.2 ⟨av,sv,f,c,hs⟩
end
def MI(b mb:Nat)(m:Msg)(hv:Value)(nm:Bool)(r:Res MS):Ending→Hl→List Asn→Prop:=jX r fun s' v K' L'=>v=.tuple #[]∧∃pv',Ksl (bN 9) K' pv' s'.parts∧L'=[mch b mb m hv pv' nm s']
theorem aLK{P:Program}{f:FuncId}{args:List Value}{K:Hl}{L:List Asn}{R R':Ending→Hl→List Asn→Prop}(h:Sp P f args K L R)(k:∀e K' L',R e K' L'→∃S M,L'=S++M∧R' e K' S):Sp P f args K L R':=
 ⟨h.1,fun F w i=>(h.2 F w i).mono fun e w' ⟨K',L',r,le,j⟩=>let ⟨S,M,e1,r'⟩:=k _ _ _ r;⟨K',S,r',le,by subst e1;exact j.left⟩⟩
theorem tR(p:Prop)[Decidable p](b:Nat)(c0 c1 c2 c3 c4 c5 c6 c7 c8 c9:Value)(pc:Int)(K:Hl):Sp Tryz.prog 92 [ptr b,.bool (decide p)] K [mblk b c0 c1 c2 c3 c4 c5 c6 c7 c8 c9 pc]
  (jX (if p then .ok ()else .error (12,pc)) fun _ v K' L'=>v=.tuple #[]∧K'=K∧L'=[mblk b c0 c1 c2 c3 c4 c5 c6 c7 c8 c9 pc]):=by
 refine aLK (aF5 p b c0 c1 c2 c3 c4 c5 c6 c7 c8 c9 pc K) fun e K' L' h=>?_;rcases h with ⟨hp,v,rfl,rfl,rfl,rfl⟩|⟨hp,fb,rfl,rfl,rfl⟩
 ·rw[if_pos hp];exact⟨_,[],(List.append_nil _).symm,_,rfl,rfl,rfl,rfl⟩
 rw[if_neg hp];exact⟨[_],_,rfl,fb,rfl,rfl⟩
theorem uP(b:Nat)(c0 c1 c2 c3 c4 c5 c6 c7 c8 c9:Value)(pc:Int)(K:Hl):Sp Tryz.prog 92 [ptr b,.bool false] K [mblk b c0 c1 c2 c3 c4 c5 c6 c7 c8 c9 pc] (Flt 12 pc):=by
 refine aLK (aKQ b c0 c1 c2 c3 c4 c5 c6 c7 c8 c9 pc K) fun e K' L' h=>?_;obtain⟨fb,rfl,rfl,rfl⟩:=h;exact⟨[_],_,rfl,fb,rfl,rfl⟩
theorem l7(x:Value)(e at_:Int)(K:Hl):Sp Tryz.prog 90 [x,i64 e,i64 at_] K [] (Flt e at_):=by
 refine aLK (aOL x e at_ K) fun en K' L' h=>?_;obtain⟨fb,rfl,rfl,rfl⟩:=h;exact⟨[_],[],rfl,fb,rfl,rfl⟩
theorem qC(l:List UInt8)(n:Nat):l.take (min l.length n)=l.take n:=by
 rcases Nat.le_total l.length n with h|h
 ·rw[Nat.min_eq_left h,List.take_length,List.take_of_length_le h]
 rw[Nat.min_eq_right h]
abbrev qN(o:Ins)(av bv:Value):Value:=.agg #[i64 o.op,i64 o.n,i64 o.tag,.bool o.oct,av,bv,i64 o.at_]
theorem bN4{nm:Bool}{o:Ins}{s:MS}{a b:List UInt8}(ht:0≤o.tag∧o.tag≤3)(ha:o.a[0]?=some a)(hb:o.b[0]?=some b):setI nm o s=.ok {s with vars:=vput s.vars a ((if o.tag=1 then dG (dM nm s.vars s.parts b)else if o.tag=2 then aP3 (dM nm s.vars s.parts b)else if o.tag=3 then Lib.itoa (dM nm s.vars s.parts b).length else dM nm s.vars s.parts b).take 48)}:=by
 obtain⟨op,n,tag,oct,oa,ob,p⟩:=o;cases oa with
 |nil=>cases ha
 |cons x xs=>
  cases ob with
  |nil=>cases hb
  |cons y ys=>
   cases ha;cases hb
   unfold setI;rw[if_pos ht]
theorem aIT{nm:Bool}{o:Ins}{s:MS}(h:¬(0≤o.tag∧o.tag≤3∧0 < o.a.length∧0 < o.b.length)):setI nm o s=.error (12,s.pc):=by
 obtain⟨op,n,tag,oct,oa,ob,p⟩:=o;unfold setI;split
 ·rename_i ht;split
  ·rename_i h1 h2;simp only at h1 h2;subst h1;subst h2;exact absurd ⟨ht.1,ht.2,by simp,by simp⟩ h
  rfl
 rfl
theorem bEC(b mb:Nat)(m:Msg)(hv pv:Value)(nm:Bool)(s:MS)(o:Ins)(av bv:Value)(n:Int)(K:Hl)(hg:Glob K)(hpv:Ksl (bN 9) K pv s.parts)(ha:Ksl (bN 9) K av o.a)(hb:Ksl (bN 9) K bv o.b)(hs:∀x∈o.b,x.length≤100000)(hsm:vA s.vars s.parts):
  Sp Tryz.prog 154 [ptr b,qN o av bv,i64 n] K [mch b mb m hv pv nm s] (MI b mb m hv nm (setI nm o s)):=by
 obtain⟨sa,sn,sc,rfl⟩:=ha.isSlice;obtain⟨ta,tn,tc,rfl⟩:=hb.isSlice;refine a8 Tryz.func154 rfl Tryz.ntmps154 rfl rfl fun F w=>?_;refine yG fun av sv f c=>?_;refine zz3 ?_;rintro _ K _ ⟨b4,rfl,rfl,rfl⟩ -;refine zz9 ?_;refine cH 11 rfl (fun g11=>?_) (fun g11=>?_)
 ·refine zz8 ?_;refine cH 16 rfl (fun g16=>?_) (fun g16=>?_)
  ·refine zz5 ?_;refine uAd ?_;refine zz4 ?_;refine cH 22 rfl (fun g22=>?_) (fun g22=>?_)
   ·refine zz5 ?_;refine uAd ?_;refine zz3 ?_;refine bL rfl rfl (tR (0 < (o.b.length:Int)) _ _ _ _ _ _ _ _ _ _ _ _ _) (.cons (.there .here) .nil) rfl (fun _ _=>bQ _ _) ?_ ?_
    ·rintro _ _ _ hTr le1;obtain⟨e,p,hu,fb,h,rfl⟩:=bR hTr;cases h
     refine uAa ?_;refine zz2 ?_;have hbl:¬(0 < (o.b.length:Int)):=gAW;rw[if_neg hbl]at hu;cases hu
     have hno:=aIT (nm:=nm) (s:=s) (o:=o) aI;unfold MI;rw[hno];exact⟨fb,rfl,rfl⟩
    rintro _ K _ hTr -;obtain⟨u0,hu,rfl,rfl,rfl⟩:=bS hTr;clear hTr;have hbl:0 < (o.b.length:Int):=Classical.byContradiction (fun h=>by rw[if_neg h]at hu;cases hu);obtain⟨xa,hxa⟩:∃x,o.a[0]?=some x:=⟨o.a[0]'(by omega),List.getElem?_eq_getElem aI⟩;obtain⟨xb,hxb⟩:∃x,o.b[0]?=some x:=⟨o.b[0]'(by omega),List.getElem?_eq_getElem aI⟩;have hok:=bN4 (nm:=nm) (s:=s) (show 0≤o.tag∧o.tag≤3 by omega) hxa hxb;have hel:(dM nm s.vars s.parts xb).length≤100000:=o0 (hs xb (List.mem_of_getElem? hxb));refine zz7 ?_;refine aA (bE (k:=bN 9) (j:=0) cG rfl (.known hb) rfl rfl aI) rfl ?_;refine uAg ?_;refine aX rfl rfl (uN b mb _ _ _ _ _ _ pv _ _ nm s.vars f c s.parts xb _ hg hpv (hs xb (List.mem_of_getElem? hxb)) hsm) (.cons .here (.cons (.there (.there (.there .here))) .nil)) rfl ?_;rintro _ K _ ⟨rfl,rfl,rfl⟩ -;refine zz3 ?_;refine gV (fun(u:List UInt8)=>setI nm o s=.ok {s with vars:=vput s.vars xa (u.take 48)}) (fun u=>[(0,ptr b),(4,ptr b4),(6,str u)]) (fun _=>K) (fun _=>[mblk b (str m.from_) (str m.to_) (i64 m.size) hv av (.bool s.keep) (.bool nm) (.map (some mb)) pv sv s.pc,sl true cS av s.acts,sl false j9 sv s.stack,pt mb (mapO (lK s.vars f) c),pt b4 (aZ [i64 o.op,i64 o.n,i64 o.tag,.bool o.oct,.slice sa sn sc,.slice ta tn tc,i64 o.at_] 41)]) ?_ ?_
    ·refine zz13 ?_;refine bK 37 rfl (fun h37=>?_) (fun h37=>?_)
     ·refine zz2 ?_;refine cF rfl rfl (jT _ _ aI) rfl ?_;refine zz3 ?_;refine uAo ?_;refine cN _ ?_ (.cons 0 rfl (.cons 4 rfl (.cons 6 rfl .nil))) rfl (fun _ h=>h)
      (rw[hok,if_pos h37];done)
     refine zz6 ?_;refine bK 41 rfl (fun h41=>?_) (fun h41=>?_)
     ·refine zz2 ?_;refine cF rfl rfl (aXE _ _ aI) rfl ?_;refine zz3 ?_;refine uAo ?_;refine cN _ ?_ (.cons 0 rfl (.cons 4 rfl (.cons 6 rfl .nil))) rfl (fun _ h=>h)
      (rw[hok,if_neg h37,if_pos h41];done)
     refine zz6 ?_;refine bK 45 rfl (fun h45=>?_) (fun h45=>?_)
     ·refine zz3 ?_;refine cF rfl rfl (qO _ aI aI _ hg) rfl ?_;refine zz3 ?_;refine uAo ?_;refine cN _ ?_ (.cons 0 rfl (.cons 4 rfl (.cons 6 rfl .nil))) rfl (fun _ h=>h)
      (rw[hok,if_neg h37,if_neg h41,if_pos h45];done)
     refine zz2 ?_;refine uAo ?_;refine cN _ ?_ (.cons 0 rfl (.cons 4 rfl (.cons 6 rfl .nil))) rfl (fun _ h=>h)
     (rw[hok,if_neg h37,if_neg h41,if_neg h45];done)
    intro u hok;refine dD (anc:=[0,1,3,7,0,16,48,112,0,0,512,1536,3840,7936,16383]) (ord:=[0,1,2,3,4,5,6,7,8,9,10,11,12,13,14]) [14] [14] mixed gAH (dI _) ?_;refine zz6 ?_;refine aK rfl rfl (.none rfl) rfl rfl (bE (k:=bN 9) (j:=0) cG rfl (.known ha) rfl rfl aI) rfl ?_;refine aK rfl rfl (.none rfl) rfl rfl (dP (o:=0) (k:=(bN 9)) ts9 rfl aM cB rfl) rfl ?_;refine zz4 ?_;refine aK rfl rfl (.none rfl) rfl rfl (fB (n:=min u.length 48) Tryz.underlying9 rfl rfl gA6 aI) rfl ?_;refine aK rfl rfl (.none rfl) rfl rfl (cL bUS bSJ (.cons rfl rfl rfl (.cons .nil) .nil)) rfl ?_;refine mS rfl rfl (.none rfl) rfl (bAH Tryz.underlying175 Tryz.underlying9 rfl rfl rfl bF) ?_;rintro _ K _ ⟨rfl,rfl⟩ -;refine cO ?_;obtain⟨f',hf'⟩:=bFI xa (u.take (min u.length 48)) c s.vars f;rw[hf',qC];refine aU (.cons .here (.cons .here (.cons .here (.cons .here .nil)))) ?_;refine fK (j5 (m:=m) (hv:=hv) (pv:=pv) (nm:=nm) (s:={s with vars:=vput s.vars xa (u.take 48)})) ?_;refine zz1 ?_;unfold MI;rw[hok];exact⟨_,rfl,rfl,pv,hpv,rfl⟩
   have hno:=aIT (nm:=nm) (s:=s) (o:=o) aI;refine zz5 ?_;refine bL rfl rfl (uP _ _ _ _ _ _ _ _ _ _ _ _ _) (.cons (.there .here) .nil) rfl gAG ?_ ?_
   ·rintro _ _ _ ⟨fb,h,rfl⟩ le1;cases h
    refine uAa ?_;refine zz2 ?_;simp only[MI,hno];exact⟨fb,rfl,rfl⟩
   rintro _ _ _ ⟨_,h,_⟩;cases h
  have hno:=aIT (nm:=nm) (s:=s) (o:=o) aI;refine zz11 ?_;refine bL rfl rfl (uP _ _ _ _ _ _ _ _ _ _ _ _ _) (.cons (.there .here) .nil) rfl gAG ?_ ?_
  ·rintro _ _ _ ⟨fb,h,rfl⟩ le1;cases h
   refine uAa ?_;refine zz2 ?_;simp only[MI,hno];exact⟨fb,rfl,rfl⟩
  rintro _ _ _ ⟨_,h,_⟩;cases h
 have hno:=aIT (nm:=nm) (s:=s) (o:=o) aI;refine zz16 ?_;refine bL rfl rfl (uP _ _ _ _ _ _ _ _ _ _ _ _ _) (.cons (.there .here) .nil) rfl gAG ?_ ?_
 ·rintro _ _ _ ⟨fb,h,rfl⟩ le1;cases h
  refine uAa ?_;refine zz2 ?_;simp only[MI,hno];exact⟨fb,rfl,rfl⟩
 rintro _ _ _ ⟨_,h,_⟩;cases h
theorem aYM{P:Program}{g:FuncId}{args:List Value}{K:Hl}{L:List Asn}{R:Ending→Hl→List Asn→Prop}{b mb:Nat}{m:Msg}{hv pv:Value}{nm:Bool}{s:MS}(hb:∃fn,P.funcs[g]?=some fn∧(fn.name== "runtime.NumGoroutine")=false∧fn.body.isSome=true)
  (h:∀av sv f c,Sp P g args K ([mblk b (str m.from_) (str m.to_) (i64 m.size) hv av (.bool s.keep) (.bool nm) (.map (some mb)) pv sv s.pc,sl true cS av s.acts,sl false j9 sv s.stack,pt mb (mapO (lK s.vars f) c)]++L) R):Sp P g args K (mch b mb m hv pv nm s::L) R:=
 ⟨hb, fun F w j => by
  obtain⟨x,hs,r⟩:=j.rep;obtain⟨av,sv,f,c,hs⟩:=aQZ.1 hs;exact(h av sv f c).2 F w ⟨j.os,j.tape,j.output,j.size,x,hs,r⟩⟩
theorem aQ4{P:Program}{f:FuncId}{args:List Value}{K:Hl}{L:List Asn}{R R':Ending→Hl→List Asn→Prop}(h:Sp P f args K L R)(k:∀e K' L',R e K' L'→∃S M,(∀h,Sat L' h→Sat (S++M) h)∧R' e K' S):Sp P f args K L R':=
 ⟨h.1,fun F w i=>(h.2 F w i).mono fun e w' ⟨K',L',r,le,j⟩=>let ⟨S,M,e1,r'⟩:=k _ _ _ r;⟨K',S,r',le,(j.imp e1).left⟩⟩
theorem pA(b mb:Nat)(m:Msg)(hv pv:Value)(nm:Bool)(s:MS)(v:Bool)(K:Hl):Sp Tryz.prog 142 [ptr b,.bool v] K [mch b mb m hv pv nm s] (jX (push s v) fun s' r K' L'=>r=.tuple #[]∧K'=K∧L'=[mch b mb m hv pv nm s']):=by
 refine aYM ⟨_,Tryz.func142,rfl,rfl⟩ fun av sv f c=>?_;refine aGJ (show Tks [_,_] _ _ from .cons .here (.cons (.there .here) .nil)).sat (aQ4 (aE2 _ (bDO b _ _ _ _ _ _ _ _ _ sv s.pc s.stack v K)) ?_)
 rintro e K' L' ⟨N,h,rfl⟩;unfold push;rcases h with ⟨hp,r,rfl,rfl,rfl,sv',rfl⟩|⟨hp,fb,rfl,rfl,rfl⟩
 ·rw[if_pos aI];refine⟨[mch b mb m hv pv nm {s with stack:=s.stack++[v]}],[],fun h hh=>?_,_,rfl,rfl,rfl,rfl⟩
  refine j5 (s:={s with stack:=s.stack++[v]}) h ((show Tks [_,_,_,_] _ []from .cons .here (.cons (.there .here) (.cons .here (.cons .here .nil)))).sat h hh)
 rw[if_neg aI];exact⟨[_],_,fun h hh=>hh,fb,rfl,rfl⟩
theorem aCL(b mb:Nat)(m:Msg)(hv pv:Value)(nm:Bool)(s:MS)(by_:Int)(n:Nat)(yes:Bool)(K:Hl)(hp:s.pc < 1000)(hn:n < 1000):Sp Tryz.prog 146 [ptr b,i64 by_,i64 n,.bool yes] K [mch b mb m hv pv nm s] (jX (jump s by_ n yes) fun s' r K' L'=>r=.tuple #[]∧K'=K∧L'=[mch b mb m hv pv nm s']):=by
 refine aYM ⟨_,Tryz.func146,rfl,rfl⟩ fun av sv f c=>?_;refine aGJ (show Tks [_] _ _ from .cons .here .nil).sat (aQ4 (aE2 _ (bCH b _ _ _ _ _ _ _ _ _ _ s.pc by_ n yes K ⟨by omega,by omega⟩ ⟨by omega,by omega⟩)) ?_)
 rintro e K' L' ⟨N,h,rfl⟩;unfold jump;rcases h with ⟨hq,r,rfl,rfl,rfl,rfl⟩|⟨hq,fb,rfl,rfl,rfl⟩
 ·rw[if_pos hq];refine⟨[mch b mb m hv pv nm (if yes=true then {s with pc:=s.pc+by_.toNat}else s)],[],fun h hh=>?_,_,rfl,rfl,rfl,rfl⟩
  cases yes
  ·exact j5 h hh
  refine j5 (av:=av) (sv:=sv) (f:=f) (c:=c) (s:={s with pc:=s.pc+by_.toNat}) h ?_;have e:((s.pc+by_.toNat:Nat):Int)=(s.pc:Int)+by_:=by omega
  show Sat (mblk b _ _ _ _ _ _ _ _ _ _ ((s.pc+by_.toNat:Nat):Int)::_) h
  rw[e];exact hh
 rw[if_neg hq];exact⟨[_],_,fun h hh=>hh,fb,rfl,rfl⟩
theorem aUW{α:Type}{z:Bool}{k:El α}{v:Value}{xs:List α}:∀h,sl z k v xs h→∃a n c,v=.slice a n c:=by
 rintro h (⟨rfl,_⟩|⟨b,cap,junk,fz,rfl,_⟩) <;> exact⟨_,_,_,rfl⟩
theorem aF7(b mb:Nat)(m:Msg)(hv pv:Value)(nm:Bool)(s:MS)(K:Hl)(hl:s.stack.length≤100):Sp Tryz.prog 144 [ptr b] K [mch b mb m hv pv nm s] (jX (pop s) fun r v K' L'=>v=.bool r.1∧K'=K∧L'=[mch b mb m hv pv nm r.2]):=by
 refine a8 Tryz.func144 rfl Tryz.ntmps144 rfl rfl fun F w=>?_;refine yG fun av sv f c=>?_;refine aLQ (p:=∃a n c,sv=.slice a n c) (fun h hs=>?_) ?_
 ·obtain⟨_,l,_,hl,_,_⟩:=hs;obtain⟨_,l2,_,hl2,_,_⟩:=hl;obtain⟨x,_,hx,_,_,_⟩:=hl2;exact aUW x hx
 rintro⟨sa,sn,sc,rfl⟩;refine zz12 ?_;refine aA (bO (k:=j9) rfl Tryz.underlying176 rfl aM) rfl ?_;refine zz1 ?_;refine bL rfl rfl (tR (0 < (s.stack.length:Int)) _ _ _ _ _ _ _ _ _ _ _ _ _) (.cons .here .nil) rfl (fun _ _=>bQ _ _) ?_ ?_
 ·rintro _ _ _ hTr le1;obtain⟨e,p,hu,fb,h,rfl⟩:=bR hTr;cases h
  refine uAa ?_;refine zz2 ?_;have hbl:¬(0 < (s.stack.length:Int)):=gAW;rw[if_neg hbl]at hu;cases hu
  have hg:s.stack.getLast?=none:=(by rw[List.getLast?_eq_none_iff];exact List.eq_nil_of_length_eq_zero aI);unfold pop;rw[hg];exact⟨fb,rfl,rfl⟩
 rintro _ K _ hTr -;obtain⟨u0,hu,rfl,rfl,rfl⟩:=bS hTr;clear hTr;have hbl:0 < (s.stack.length:Int):=Classical.byContradiction (fun h=>by rw[if_neg h]at hu;cases hu);obtain⟨x,hx⟩:∃x,s.stack[s.stack.length - 1]?=some x:=⟨s.stack[s.stack.length - 1]'(by omega),List.getElem?_eq_getElem aI⟩;have hg:s.stack.getLast?=some x:=(by rw[List.getLast?_eq_getElem?];exact hx);refine zz3 ?_;refine dD (anc:=[0,1,3,7,0,16,48,112,240,496,1023,2047,4095]) (ord:=[0,1,2,3,4,5,6,7,8,9,10,11,12]) [] [] mixed gAH (dI _) ?_;refine zz8 ?_;refine aK rfl rfl (.none rfl) rfl rfl (bO (k:=j9) rfl Tryz.underlying176 rfl aM) rfl ?_;refine zz1 ?_;refine aK rfl rfl (.none rfl) rfl rfl (bE (k:=j9) (j:=s.stack.length - 1) aG0 rfl (.own (.there (.there .here))) rfl aI aI) rfl ?_;refine aK rfl rfl (.none rfl) rfl rfl (dP (o:=0) (k:=j9) ts4 rfl aM cB rfl) rfl ?_;refine zz4 ?_;refine dD (anc:=[0,0,2,6,14,0,32,96,224,480,992,2046,4095,8191,16383]) (ord:=[0,1,2,3,4,5,6,7,8,9,10,11,12,13,14]) [14] [14] mixed gAH (dI _) ?_;refine zz9 ?_;refine aK rfl rfl (.none rfl) rfl rfl (bO (k:=j9) rfl Tryz.underlying176 rfl aM) rfl ?_;refine zz1 ?_;refine aK rfl rfl (.none rfl) rfl rfl (aCD (k:=j9) (m:=s.stack.length - 1) aG0 rfl (.there (.there .here)) (.there (.there .here)) rfl aI aI) rfl ?_;refine zz2 ?_;refine mS rfl rfl (.none rfl) rfl (bP aB8 rfl rfl cJ bF (.succ (.succ (.succ (.succ (.succ (.succ (.succ (.succ (.succ .zero))))))))) rfl) ?_;rintro _ K _ ⟨rfl,rfl⟩ -;refine zz9 ?_;refine aU (.cons (.there (.there .here)) (.cons .here (.cons .here (.cons .here .nil)))) ?_;refine fK (fH (aQ2 (m:=s.stack.length - 1) aI)) ?_;refine aU (.cons (.there .here) (.cons (.there .here) (.cons .here (.cons .here .nil)))) ?_;rw[←List.dropLast_eq_take];refine fK (j5 (m:=m) (hv:=hv) (pv:=pv) (nm:=nm) (s:={s with stack:=s.stack.dropLast})) ?_;refine zz1 ?_;unfold pop;rw[hg];exact⟨_,rfl,rfl,rfl,rfl⟩
theorem gU{s t:MS}{v:Bool}(h:push s v=.ok t):t.parts=s.parts:=by unfold push at h;split at h <;> cases h;rfl
theorem aF8{s:MS}{r:Bool×MS}(h:pop s=.ok r):r.2.parts=s.parts:=by unfold pop at h;split at h <;> cases h;rfl
theorem aCM{s t:MS}{by_:Int}{n:Nat}{yes:Bool}(h:jump s by_ n yes=.ok t):t.parts=s.parts:=by
 unfold jump at h;split at h
 ·cases h;split <;> rfl
 cases h
theorem bGZ(b mb:Nat)(m:Msg)(hv pv:Value)(nm:Bool)(s:MS)(o:Ins)(av bv:Value)(n:Nat)(K:Hl)(hpv:Ksl (bN 9) K pv s.parts)(ha:Ksl (bN 9) K av o.a)(hb:Ksl (bN 9) K bv o.b)(hp:s.pc < 1000)(hn:n < 1000)(hst:s.stack.length≤100):
  Sp Tryz.prog 143 [ptr b,qN o av bv,i64 n] K [mch b mb m hv pv nm s] (MI b mb m hv nm (match pop s with| .error e=>.error e| .ok r=>push r.2 (!r.1))):=by
 obtain⟨sa,sn,sc,rfl⟩:=ha.isSlice;obtain⟨ta,tn,tc,rfl⟩:=hb.isSlice;refine a8 Tryz.func143 rfl Tryz.ntmps143 rfl rfl fun F w=>?_;refine zz3 ?_;rintro _ K _ ⟨b4,rfl,rfl,rfl⟩ -;refine zz5 ?_;refine bL rfl rfl (aF7 b mb m hv pv nm s _ hst) (.cons (.there .here) .nil) rfl (fun _ _=>bQ _ _) ?_ ?_
 ·rintro _ _ _ hTr le1;obtain⟨e,p,hr,fb,h,rfl⟩:=bR hTr;cases h
  refine uAa ?_;refine zz1 ?_;simp only[MI,hr];exact⟨fb,rfl,rfl⟩
 rintro _ K _ hTr -;obtain⟨r,hr,rfl,rfl,rfl⟩:=bS hTr;clear hTr;have hpp:=aF8 hr;refine aA gAF rfl ?_;refine bL rfl rfl (pA b mb m hv pv nm r.2 (!r.1) _) (.cons .here .nil) rfl (fun _ _=>bQ _ _) ?_ ?_
 ·rintro _ _ _ hTr le1;obtain⟨e,p,hq,fb,h,rfl⟩:=bR hTr;cases h
  refine uAa ?_;refine zz1 ?_;simp only[MI,hr,hq];exact⟨fb,rfl,rfl⟩
 rintro _ K _ hTr -;obtain⟨q,hq,rfl,rfl,rfl⟩:=bS hTr;clear hTr;have hqp:=gU hq;refine uAz ?_;refine zz1 ?_;simp only[MI,hr,hq];exact⟨_,rfl,rfl,pv,by rw[hqp,hpp];exact hpv,rfl⟩
theorem bG0(b mb:Nat)(m:Msg)(hv pv:Value)(nm:Bool)(s:MS)(o:Ins)(av bv:Value)(n:Nat)(K:Hl)(hpv:Ksl (bN 9) K pv s.parts)(ha:Ksl (bN 9) K av o.a)(hb:Ksl (bN 9) K bv o.b)(hp:s.pc < 1000)(hn:n < 1000)(hst:s.stack.length≤100):
  Sp Tryz.prog 145 [ptr b,qN o av bv,i64 n] K [mch b mb m hv pv nm s] (MI b mb m hv nm (jump s o.n n true)):=by
 obtain⟨sa,sn,sc,rfl⟩:=ha.isSlice;obtain⟨ta,tn,tc,rfl⟩:=hb.isSlice;refine a8 Tryz.func145 rfl Tryz.ntmps145 rfl rfl fun F w=>?_;refine zz3 ?_;rintro _ K _ ⟨b4,rfl,rfl,rfl⟩ -;refine zz7 ?_;refine bL rfl rfl (aCL b mb m hv pv nm s o.n n true _ hp hn) (.cons (.there .here) .nil) rfl (fun _ _=>bQ _ _) ?_ ?_
 ·rintro _ _ _ hTr le1;obtain⟨e,p,hq,fb,h,rfl⟩:=bR hTr;cases h
  refine uAa ?_;refine zz1 ?_;simp only[MI,hq];exact⟨fb,rfl,rfl⟩
 rintro _ K _ hTr -;obtain⟨q,hq,rfl,rfl,rfl⟩:=bS hTr;clear hTr;have hqp:=aCM hq;refine uAz ?_;refine zz1 ?_;simp only[MI,hq];exact⟨_,rfl,rfl,pv,by rw[hqp];exact hpv,rfl⟩
theorem bG1(b mb:Nat)(m:Msg)(hv pv:Value)(nm:Bool)(s:MS)(o:Ins)(av bv:Value)(n:Nat)(K:Hl)(hpv:Ksl (bN 9) K pv s.parts)(ha:Ksl (bN 9) K av o.a)(hb:Ksl (bN 9) K bv o.b)(hp:s.pc < 1000)(hn:n < 1000)(hst:s.stack.length≤100):
  Sp Tryz.prog 147 [ptr b,qN o av bv,i64 n] K [mch b mb m hv pv nm s] (MI b mb m hv nm (match pop s with| .error e=>.error e| .ok r=>jump r.2 o.n n (r.1))):=by
 obtain⟨sa,sn,sc,rfl⟩:=ha.isSlice;obtain⟨ta,tn,tc,rfl⟩:=hb.isSlice;refine a8 Tryz.func147 rfl Tryz.ntmps147 rfl rfl fun F w=>?_;refine zz3 ?_;rintro _ K _ ⟨b4,rfl,rfl,rfl⟩ -;refine zz2 ?_;refine dD (anc:=[0,0,2,0,0,16,63]) (ord:=[0,1,2,3,4,5,6]) [5,6] [6] mixed gAH (.cons .here .nil) ?_;refine zz5 ?_;refine aDX rfl (.none rfl) rfl rfl rfl rfl (aF7 b mb m hv pv nm s _ hst) (.cons (.there .here) .nil) rfl (fun _ _=>bQ _ _) ?_ ?_
 ·rintro _ _ _ hTr le1;obtain⟨e,p,hr,fb,h,rfl⟩:=bR hTr;cases h
  intro a0 w0 hd0 hi0;refine⟨hd0,_,_,?_,cB,hi0.left⟩
  simp only[MI,hr];exact⟨fb,rfl,rfl⟩
 rintro _ K _ hTr -;obtain⟨r,hr,rfl,rfl,rfl⟩:=bS hTr;clear hTr;have hpp:=aF8 hr;have hpc:=aKZ hr;refine⟨_,(show Tks _ _ _ from (.cons (.there .here) .nil)).sat,?_⟩
 refine kP rfl (.none rfl) rfl rfl rfl (aCL b mb m hv pv nm r.2 o.n n (r.1) _ aI hn) (.cons (.there .here) .nil) rfl (fun _ _=>bQ _ _) ?_ ?_
 ·rintro _ _ _ hTr le1;obtain⟨e,p,hq,fb,h,rfl⟩:=bR hTr;cases h
  intro a0 w0 hd0 hi0;refine⟨hd0,_,_,?_,cB,hi0.left⟩
  simp only[MI,hr,hq];exact⟨fb,rfl,rfl⟩
 rintro _ K _ hTr -;obtain⟨q,hq,rfl,rfl,rfl⟩:=bS hTr;clear hTr;have hqp:=aCM hq;refine uBg ?_;refine zz1 ?_;simp only[MI,hr,hq];exact⟨_,rfl,rfl,pv,by rw[hqp,hpp];exact hpv,rfl⟩
theorem bG2(b mb:Nat)(m:Msg)(hv pv:Value)(nm:Bool)(s:MS)(o:Ins)(av bv:Value)(n:Nat)(K:Hl)(hpv:Ksl (bN 9) K pv s.parts)(ha:Ksl (bN 9) K av o.a)(hb:Ksl (bN 9) K bv o.b)(hp:s.pc < 1000)(hn:n < 1000)(hst:s.stack.length≤100):
  Sp Tryz.prog 148 [ptr b,qN o av bv,i64 n] K [mch b mb m hv pv nm s] (MI b mb m hv nm (match pop s with| .error e=>.error e| .ok r=>jump r.2 o.n n (!r.1))):=by
 obtain⟨sa,sn,sc,rfl⟩:=ha.isSlice;obtain⟨ta,tn,tc,rfl⟩:=hb.isSlice;refine a8 Tryz.func148 rfl Tryz.ntmps148 rfl rfl fun F w=>?_;refine zz3 ?_;rintro _ K _ ⟨b4,rfl,rfl,rfl⟩ -;refine zz2 ?_;refine dD (anc:=[0,0,2,0,0,16,48,127]) (ord:=[0,1,2,3,4,5,6,7]) [5,7] [7] mixed gAH (.cons .here .nil) ?_;refine zz5 ?_;refine aDX rfl (.none rfl) rfl rfl rfl rfl (aF7 b mb m hv pv nm s _ hst) (.cons (.there .here) .nil) rfl (fun _ _=>bQ _ _) ?_ ?_
 ·rintro _ _ _ hTr le1;obtain⟨e,p,hr,fb,h,rfl⟩:=bR hTr;cases h
  intro a0 w0 hd0 hi0;refine⟨hd0,_,_,?_,cB,hi0.left⟩
  simp only[MI,hr];exact⟨fb,rfl,rfl⟩
 rintro _ K _ hTr -;obtain⟨r,hr,rfl,rfl,rfl⟩:=bS hTr;clear hTr;have hpp:=aF8 hr;have hpc:=aKZ hr;refine⟨_,(show Tks _ _ _ from (.cons (.there .here) .nil)).sat,?_⟩
 refine aK rfl rfl (.none rfl) rfl rfl gAF rfl ?_;refine kP rfl (.none rfl) rfl rfl rfl (aCL b mb m hv pv nm r.2 o.n n (!r.1) _ aI hn) (.cons (.there .here) .nil) rfl (fun _ _=>bQ _ _) ?_ ?_
 ·rintro _ _ _ hTr le1;obtain⟨e,p,hq,fb,h,rfl⟩:=bR hTr;cases h
  intro a0 w0 hd0 hi0;refine⟨hd0,_,_,?_,cB,hi0.left⟩
  simp only[MI,hr,hq];exact⟨fb,rfl,rfl⟩
 rintro _ K _ hTr -;obtain⟨q,hq,rfl,rfl,rfl⟩:=bS hTr;clear hTr;have hqp:=aCM hq;refine uBg ?_;refine zz1 ?_;simp only[MI,hr,hq];exact⟨_,rfl,rfl,pv,by rw[hqp,hpp];exact hpv,rfl⟩
theorem bG5(b mb:Nat)(m:Msg)(hv pv:Value)(nm:Bool)(s:MS)(o:Ins)(av bv:Value)(n:Nat)(K:Hl)(hpv:Ksl (bN 9) K pv s.parts)(ha:Ksl (bN 9) K av o.a)(hb:Ksl (bN 9) K bv o.b):
  Sp Tryz.prog 155 [ptr b,qN o av bv,i64 n] K [mch b mb m hv pv nm s] (MI b mb m hv nm (.ok {s with keep:=false})):=by
 obtain⟨sa,sn,sc,rfl⟩:=ha.isSlice;obtain⟨ta,tn,tc,rfl⟩:=hb.isSlice;refine a8 Tryz.func155 rfl Tryz.ntmps155 rfl rfl fun F w=>?_;refine zz3 ?_;rintro _ K _ ⟨b4,rfl,rfl,rfl⟩ -;refine zz2 ?_;refine uBr ?_;refine yG fun av sv f c=>?_;refine zz5 ?_;refine uAn ?_;rintro _ K _ ⟨rfl,rfl⟩ -;refine aG ?_;refine aU (.cons .here (.cons .here (.cons .here (.cons .here .nil)))) ?_;refine fK (j5 (m:=m) (hv:=hv) (pv:=pv) (nm:=nm) (s:={s with keep:=false})) ?_;refine zz1 ?_;exact⟨_,rfl,rfl,pv,hpv,rfl⟩
theorem bGY(b mb:Nat)(m:Msg)(hv pv:Value)(nm:Bool)(s:MS)(o:Ins)(av bv:Value)(n:Nat)(K:Hl)(hpv:Ksl (bN 9) K pv s.parts)(ha:Ksl (bN 9) K av o.a)(hb:Ksl (bN 9) K bv o.b):
  Sp Tryz.prog 141 [ptr b,qN o av bv,i64 n] K [mch b mb m hv pv nm s] (MI b mb m hv nm (if o.n=0∨o.n=1 then push s (decide (o.n=1))else .error (rT s.pc))):=by
 obtain⟨sa,sn,sc,rfl⟩:=ha.isSlice;obtain⟨ta,tn,tc,rfl⟩:=hb.isSlice;refine a8 Tryz.func141 rfl Tryz.ntmps141 rfl rfl fun F w=>?_;refine zz3 ?_;rintro _ K _ ⟨b4,rfl,rfl,rfl⟩ -;refine zz3 ?_;refine uBr ?_;refine yG fun av sv f c=>?_;refine zz6 ?_;refine cH 10 rfl (fun g10=>?_) (fun g10=>?_)
 ·refine zz4 ?_;refine cF rfl rfl (aIL _ _) rfl ?_;have hcc:o.n=0∨o.n=1:=.inl g10;refine kB j5 ?_;refine zz7 ?_;refine bL rfl rfl (pA b mb m hv pv nm s (decide (o.n=1)) _) (.cons .here .nil) rfl (fun _ _=>bQ _ _) ?_ ?_
  ·rintro _ _ _ hTr le1;obtain⟨e,p,hq,fb,h,rfl⟩:=bR hTr;cases h
   refine uAa ?_;refine zz1 ?_;unfold MI;rw[if_pos hcc,hq];exact⟨fb,rfl,rfl⟩
  rintro _ K _ hTr -;obtain⟨q,hq,rfl,rfl,rfl⟩:=bS hTr;clear hTr;have hqp:=gU hq;refine uAz ?_;refine zz1 ?_;unfold MI;rw[if_pos hcc,hq];exact⟨_,rfl,rfl,pv,by rw[hqp];exact hpv,rfl⟩
 refine zz7 ?_;refine bL rfl rfl (tR (o.n=1) _ _ _ _ _ _ _ _ _ _ _ _ _) (.cons .here .nil) rfl (fun _ _=>bQ _ _) ?_ ?_
 ·rintro _ _ _ hTr le1;obtain⟨e,p,hu,fb,h,rfl⟩:=bR hTr;cases h
  refine uAa ?_;refine zz2 ?_;have hbl:¬(o.n=1):=gAW;rw[if_neg hbl]at hu;cases hu
  unfold MI;rw[if_neg aI];exact⟨fb,rfl,rfl⟩
 rintro _ K _ hTr -;obtain⟨u0,hu,rfl,rfl,rfl⟩:=bS hTr;clear hTr;have hbl:o.n=1:=Classical.byContradiction (fun h=>by rw[if_neg h]at hu;cases hu);have hcc:o.n=0∨o.n=1:=.inr hbl;refine kB j5 ?_;refine zz7 ?_;refine bL rfl rfl (pA b mb m hv pv nm s (decide (o.n=1)) _) (.cons .here .nil) rfl (fun _ _=>bQ _ _) ?_ ?_
 ·rintro _ _ _ hTr le1;obtain⟨e,p,hq,fb,h,rfl⟩:=bR hTr;cases h
  refine uAa ?_;refine zz1 ?_;unfold MI;rw[if_pos hcc,hq];exact⟨fb,rfl,rfl⟩
 rintro _ K _ hTr -;obtain⟨q,hq,rfl,rfl,rfl⟩:=bS hTr;clear hTr;have hqp:=gU hq;refine uAz ?_;refine zz1 ?_;unfold MI;rw[if_pos hcc,hq];exact⟨_,rfl,rfl,pv,by rw[hqp];exact hpv,rfl⟩
theorem aX5(b mb:Nat)(m:Msg)(hv pv:Value)(nm:Bool)(s:MS)(av sv:Value)(f:Nat→Nat)(c:Nat)(v:Bool)(K:Hl):Sp Tryz.prog 142 [ptr b,.bool v] K [mblk b (str m.from_) (str m.to_) (i64 m.size) hv av (.bool s.keep) (.bool nm) (.map (some mb)) pv sv s.pc,sl true cS av s.acts,sl false j9 sv s.stack,pt mb (mapO (lK s.vars f) c)] (jX (push s v) fun s' r K' L'=>r=.tuple #[]∧K'=K∧L'=[mch b mb m hv pv nm s']):=
 aGJ (fun h hh=>j5 h hh) (pA b mb m hv pv nm s v K)
abbrev bKC(o:Ins)(m:Msg):Bool:=decide (o.tag=1∧o.n < m.size∨o.tag=2∧m.size < o.n)
theorem lM(b mb:Nat)(m:Msg)(hv pv:Value)(nm:Bool)(s:MS)(av sv:Value)(f:Nat→Nat)(c:Nat)(q:Bool)(o:Ins)(K:Hl)(hq:q=bKC o m):Sp Tryz.prog 142 [ptr b,.bool q] K [mblk b (str m.from_) (str m.to_) (i64 m.size) hv av (.bool s.keep) (.bool nm) (.map (some mb)) pv sv s.pc,sl true cS av s.acts,sl false j9 sv s.stack,pt mb (mapO (lK s.vars f) c)] (jX (push s (bKC o m)) fun s' r K' L'=>r=.tuple #[]∧K'=K∧L'=[mch b mb m hv pv nm s']):=by
 subst hq;exact aX5 b mb m hv pv nm s av sv f c _ K
theorem bG4(b mb:Nat)(m:Msg)(hv pv:Value)(nm:Bool)(s:MS)(o:Ins)(av bv:Value)(n:Nat)(K:Hl)(hpv:Ksl (bN 9) K pv s.parts)(ha:Ksl (bN 9) K av o.a)(hb:Ksl (bN 9) K bv o.b):
  Sp Tryz.prog 152 [ptr b,qN o av bv,i64 n] K [mch b mb m hv pv nm s] (MI b mb m hv nm (if o.tag=1∨o.tag=2 then push s (bKC o m)else .error (rT s.pc))):=by
 obtain⟨sa,sn,sc,rfl⟩:=ha.isSlice;obtain⟨ta,tn,tc,rfl⟩:=hb.isSlice;refine a8 Tryz.func152 rfl Tryz.ntmps152 rfl rfl fun F w=>?_;refine zz3 ?_;rintro _ K _ ⟨b4,rfl,rfl,rfl⟩ -;refine zz3 ?_;refine uBr ?_;refine yG fun av sv f c=>?_;refine zz6 ?_;refine cH 10 rfl (fun g10=>?_) (fun g10=>?_)
 ·refine zz4 ?_;refine cF rfl rfl (aIL _ _) rfl ?_;have hcc:o.tag=1∨o.tag=2:=.inl g10;refine zz2 ?_;refine dD (anc:=[0,0,2,6,14,30,62,126,254,510,1022,30,2078,8190,16382,32766,65534,131070,262142,524286,1048574,2097150,4194302,8388606,16777214,33554430,1048574,68157438,268435454,536870910,1073741822,2147483647]) (ord:=[0,1,2,3,4,5,6,7,8,9,10,11,12,13,14,15,16,17,18,19,20,21,22,23,24,25,26,27,28,29,30,31]) [31] [31] mixed gAH (dI _) ?_;refine zz5 ?_;refine jD 20 rfl (fun s20=>?_) (fun s20=>?_)
  ·refine zz11 ?_;refine jD 31 rfl (fun s31=>?_) (fun s31=>?_)
   ·refine zz4 ?_;refine cE rfl rfl (.offu rfl rfl rfl) rfl ?_;refine cE rfl rfl (.offu rfl rfl rfl) rfl ?_;refine cE rfl rfl (.offu rfl rfl rfl) rfl ?_;refine cE rfl rfl (.offu rfl rfl rfl) rfl ?_;refine cE rfl rfl (.offu rfl rfl rfl) rfl ?_;refine cE rfl rfl (.offu rfl rfl rfl) rfl ?_;refine cE rfl rfl (.offu rfl rfl rfl) rfl ?_;refine cE rfl rfl (.offu rfl rfl rfl) rfl ?_;refine cE rfl rfl (.offu rfl rfl rfl) rfl ?_;refine zz2 ?_;refine kP rfl (.none rfl) rfl rfl rfl (lM b mb m hv pv nm s av sv f c _ o _ gAV) (.cons .here (.cons .here (.cons .here (.cons .here .nil)))) rfl (fun _ _=>bQ _ _) ?_ ?_
    ·rintro _ _ _ hTr le1;obtain⟨e,p,hq,fb,h,rfl⟩:=bR hTr;cases h
     intro a0 w0 hd0 hi0;refine⟨hd0,_,_,?_,cB,hi0.left⟩
     unfold MI;rw[if_pos hcc,hq];exact⟨fb,rfl,rfl⟩
    rintro _ K _ hTr -;obtain⟨q,hq,rfl,rfl,rfl⟩:=bS hTr;clear hTr;have hqp:=gU hq;refine uBg ?_;refine zz1 ?_;unfold MI;rw[if_pos hcc,hq];exact⟨_,rfl,rfl,pv,by rw[hqp];exact hpv,rfl⟩
   refine zz4 ?_;refine jD 35 rfl (fun s35=>?_) (fun s35=>?_)
   ·refine zz11 ?_;refine kP rfl (.none rfl) rfl rfl rfl (lM b mb m hv pv nm s av sv f c _ o _ gAV) (.cons .here (.cons .here (.cons .here (.cons .here .nil)))) rfl (fun _ _=>bQ _ _) ?_ ?_
    ·rintro _ _ _ hTr le1;obtain⟨e,p,hq,fb,h,rfl⟩:=bR hTr;cases h
     intro a0 w0 hd0 hi0;refine⟨hd0,_,_,?_,cB,hi0.left⟩
     unfold MI;rw[if_pos hcc,hq];exact⟨fb,rfl,rfl⟩
    rintro _ K _ hTr -;obtain⟨q,hq,rfl,rfl,rfl⟩:=bS hTr;clear hTr;have hqp:=gU hq;refine uBg ?_;refine zz1 ?_;unfold MI;rw[if_pos hcc,hq];exact⟨_,rfl,rfl,pv,by rw[hqp];exact hpv,rfl⟩
   refine zz11 ?_;refine kP rfl (.none rfl) rfl rfl rfl (lM b mb m hv pv nm s av sv f c _ o _ gAV) (.cons .here (.cons .here (.cons .here (.cons .here .nil)))) rfl (fun _ _=>bQ _ _) ?_ ?_
   ·rintro _ _ _ hTr le1;obtain⟨e,p,hq,fb,h,rfl⟩:=bR hTr;cases h
    intro a0 w0 hd0 hi0;refine⟨hd0,_,_,?_,cB,hi0.left⟩
    unfold MI;rw[if_pos hcc,hq];exact⟨fb,rfl,rfl⟩
   rintro _ K _ hTr -;obtain⟨q,hq,rfl,rfl,rfl⟩:=bS hTr;clear hTr;have hqp:=gU hq;refine uBg ?_;refine zz1 ?_;unfold MI;rw[if_pos hcc,hq];exact⟨_,rfl,rfl,pv,by rw[hqp];exact hpv,rfl⟩
  refine zz15 ?_;refine jD 35 rfl (fun s35=>?_) (fun s35=>?_)
  ·refine zz11 ?_;refine kP rfl (.none rfl) rfl rfl rfl (lM b mb m hv pv nm s av sv f c _ o _ gAV) (.cons .here (.cons .here (.cons .here (.cons .here .nil)))) rfl (fun _ _=>bQ _ _) ?_ ?_
   ·rintro _ _ _ hTr le1;obtain⟨e,p,hq,fb,h,rfl⟩:=bR hTr;cases h
    intro a0 w0 hd0 hi0;refine⟨hd0,_,_,?_,cB,hi0.left⟩
    unfold MI;rw[if_pos hcc,hq];exact⟨fb,rfl,rfl⟩
   rintro _ K _ hTr -;obtain⟨q,hq,rfl,rfl,rfl⟩:=bS hTr;clear hTr;have hqp:=gU hq;refine uBg ?_;refine zz1 ?_;unfold MI;rw[if_pos hcc,hq];exact⟨_,rfl,rfl,pv,by rw[hqp];exact hpv,rfl⟩
  refine zz11 ?_;refine kP rfl (.none rfl) rfl rfl rfl (lM b mb m hv pv nm s av sv f c _ o _ gAV) (.cons .here (.cons .here (.cons .here (.cons .here .nil)))) rfl (fun _ _=>bQ _ _) ?_ ?_
  ·rintro _ _ _ hTr le1;obtain⟨e,p,hq,fb,h,rfl⟩:=bR hTr;cases h
   intro a0 w0 hd0 hi0;refine⟨hd0,_,_,?_,cB,hi0.left⟩
   unfold MI;rw[if_pos hcc,hq];exact⟨fb,rfl,rfl⟩
  rintro _ K _ hTr -;obtain⟨q,hq,rfl,rfl,rfl⟩:=bS hTr;clear hTr;have hqp:=gU hq;refine uBg ?_;refine zz1 ?_;unfold MI;rw[if_pos hcc,hq];exact⟨_,rfl,rfl,pv,by rw[hqp];exact hpv,rfl⟩
 refine zz7 ?_;refine bL rfl rfl (tR (o.tag=2) _ _ _ _ _ _ _ _ _ _ _ _ _) (.cons .here .nil) rfl (fun _ _=>bQ _ _) ?_ ?_
 ·rintro _ _ _ hTr le1;obtain⟨e,p,hu,fb,h,rfl⟩:=bR hTr;cases h
  refine uAa ?_;refine zz2 ?_;have hbl:¬(o.tag=2):=gAW;rw[if_neg hbl]at hu;cases hu
  unfold MI;rw[if_neg aI];exact⟨fb,rfl,rfl⟩
 rintro _ K _ hTr -;obtain⟨u0,hu,rfl,rfl,rfl⟩:=bS hTr;clear hTr;have hbl:o.tag=2:=Classical.byContradiction (fun h=>by rw[if_neg h]at hu;cases hu);have hcc:o.tag=1∨o.tag=2:=.inr hbl;refine zz2 ?_;refine dD (anc:=[0,0,2,6,14,30,62,126,254,510,1022,30,2078,8190,16382,32766,65534,131070,262142,524286,1048574,2097150,4194302,8388606,16777214,33554430,1048574,68157438,268435454,536870910,1073741822,2147483647]) (ord:=[0,1,2,3,4,5,6,7,8,9,10,11,12,13,14,15,16,17,18,19,20,21,22,23,24,25,26,27,28,29,30,31]) [31] [31] mixed gAH (dI _) ?_;refine zz5 ?_;refine jD 20 rfl (fun s20=>?_) (fun s20=>?_)
 ·refine zz11 ?_;refine jD 31 rfl (fun s31=>?_) (fun s31=>?_)
  ·refine zz4 ?_;refine cE rfl rfl (.offu rfl rfl rfl) rfl ?_;refine cE rfl rfl (.offu rfl rfl rfl) rfl ?_;refine cE rfl rfl (.offu rfl rfl rfl) rfl ?_;refine cE rfl rfl (.offu rfl rfl rfl) rfl ?_;refine cE rfl rfl (.offu rfl rfl rfl) rfl ?_;refine cE rfl rfl (.offu rfl rfl rfl) rfl ?_;refine cE rfl rfl (.offu rfl rfl rfl) rfl ?_;refine cE rfl rfl (.offu rfl rfl rfl) rfl ?_;refine cE rfl rfl (.offu rfl rfl rfl) rfl ?_;refine zz2 ?_;refine kP rfl (.none rfl) rfl rfl rfl (lM b mb m hv pv nm s av sv f c _ o _ gAV) (.cons .here (.cons .here (.cons .here (.cons .here .nil)))) rfl (fun _ _=>bQ _ _) ?_ ?_
   ·rintro _ _ _ hTr le1;obtain⟨e,p,hq,fb,h,rfl⟩:=bR hTr;cases h
    intro a0 w0 hd0 hi0;refine⟨hd0,_,_,?_,cB,hi0.left⟩
    unfold MI;rw[if_pos hcc,hq];exact⟨fb,rfl,rfl⟩
   rintro _ K _ hTr -;obtain⟨q,hq,rfl,rfl,rfl⟩:=bS hTr;clear hTr;have hqp:=gU hq;refine uBg ?_;refine zz1 ?_;unfold MI;rw[if_pos hcc,hq];exact⟨_,rfl,rfl,pv,by rw[hqp];exact hpv,rfl⟩
  refine zz4 ?_;refine jD 35 rfl (fun s35=>?_) (fun s35=>?_)
  ·refine zz11 ?_;refine kP rfl (.none rfl) rfl rfl rfl (lM b mb m hv pv nm s av sv f c _ o _ gAV) (.cons .here (.cons .here (.cons .here (.cons .here .nil)))) rfl (fun _ _=>bQ _ _) ?_ ?_
   ·rintro _ _ _ hTr le1;obtain⟨e,p,hq,fb,h,rfl⟩:=bR hTr;cases h
    intro a0 w0 hd0 hi0;refine⟨hd0,_,_,?_,cB,hi0.left⟩
    unfold MI;rw[if_pos hcc,hq];exact⟨fb,rfl,rfl⟩
   rintro _ K _ hTr -;obtain⟨q,hq,rfl,rfl,rfl⟩:=bS hTr;clear hTr;have hqp:=gU hq;refine uBg ?_;refine zz1 ?_;unfold MI;rw[if_pos hcc,hq];exact⟨_,rfl,rfl,pv,by rw[hqp];exact hpv,rfl⟩
  refine zz11 ?_;refine kP rfl (.none rfl) rfl rfl rfl (lM b mb m hv pv nm s av sv f c _ o _ gAV) (.cons .here (.cons .here (.cons .here (.cons .here .nil)))) rfl (fun _ _=>bQ _ _) ?_ ?_
  ·rintro _ _ _ hTr le1;obtain⟨e,p,hq,fb,h,rfl⟩:=bR hTr;cases h
   intro a0 w0 hd0 hi0;refine⟨hd0,_,_,?_,cB,hi0.left⟩
   unfold MI;rw[if_pos hcc,hq];exact⟨fb,rfl,rfl⟩
  rintro _ K _ hTr -;obtain⟨q,hq,rfl,rfl,rfl⟩:=bS hTr;clear hTr;have hqp:=gU hq;refine uBg ?_;refine zz1 ?_;unfold MI;rw[if_pos hcc,hq];exact⟨_,rfl,rfl,pv,by rw[hqp];exact hpv,rfl⟩
 refine zz15 ?_;refine jD 35 rfl (fun s35=>?_) (fun s35=>?_)
 ·refine zz11 ?_;refine kP rfl (.none rfl) rfl rfl rfl (lM b mb m hv pv nm s av sv f c _ o _ gAV) (.cons .here (.cons .here (.cons .here (.cons .here .nil)))) rfl (fun _ _=>bQ _ _) ?_ ?_
  ·rintro _ _ _ hTr le1;obtain⟨e,p,hq,fb,h,rfl⟩:=bR hTr;cases h
   intro a0 w0 hd0 hi0;refine⟨hd0,_,_,?_,cB,hi0.left⟩
   unfold MI;rw[if_pos hcc,hq];exact⟨fb,rfl,rfl⟩
  rintro _ K _ hTr -;obtain⟨q,hq,rfl,rfl,rfl⟩:=bS hTr;clear hTr;have hqp:=gU hq;refine uBg ?_;refine zz1 ?_;unfold MI;rw[if_pos hcc,hq];exact⟨_,rfl,rfl,pv,by rw[hqp];exact hpv,rfl⟩
 refine zz11 ?_;refine kP rfl (.none rfl) rfl rfl rfl (lM b mb m hv pv nm s av sv f c _ o _ gAV) (.cons .here (.cons .here (.cons .here (.cons .here .nil)))) rfl (fun _ _=>bQ _ _) ?_ ?_
 ·rintro _ _ _ hTr le1;obtain⟨e,p,hq,fb,h,rfl⟩:=bR hTr;cases h
  intro a0 w0 hd0 hi0;refine⟨hd0,_,_,?_,cB,hi0.left⟩
  unfold MI;rw[if_pos hcc,hq];exact⟨fb,rfl,rfl⟩
 rintro _ K _ hTr -;obtain⟨q,hq,rfl,rfl,rfl⟩:=bS hTr;clear hTr;have hqp:=gU hq;refine uBg ?_;refine zz1 ?_;unfold MI;rw[if_pos hcc,hq];exact⟨_,rfl,rfl,pv,by rw[hqp];exact hpv,rfl⟩
theorem bHD(w:World)(a c:Action):(Op.equalIn 10000 34 (.agg #[i64 a.1,str a.2]) (.agg #[i64 c.1,str c.2])).run Tryz.prog w=.ok (decide (a=c)) w:=by
 have hf:Tryz.prog.fieldsOf 34= #[{name:= "Kind",type:=3,offset:=0,embedded:=false,tag:= "",pkgPath:= "",byteOffset:=0},{name:= "Arg",type:=9,offset:=1,embedded:=false,tag:= "",pkgPath:= "",byteOffset:=8}]:=by unfold Program.fieldsOf;rw[Tryz.underlying34]
 rw[show (10000:Nat)=9999+1 from rfl,run_equalIn_agg w 9999 34 _ _ (by rw[hf];exact Tryz.underlying34) Tryz.stoodInHeld34,hf];obtain⟨k1,s1⟩:=a;obtain⟨k2,s2⟩:=c;have p1:=pK (P:=Tryz.prog) (w:=w) (xs:= #[i64 k1,str s1]) (i:=0) (v:=i64 k1) ts3 rfl;have p2:=pK (P:=Tryz.prog) (w:=w) (xs:= #[i64 k2,str s2]) (i:=0) (v:=i64 k2) ts3 rfl;have p3:=pK (P:=Tryz.prog) (w:=w) (xs:= #[i64 k1,str s1]) (i:=1) (v:=str s1) ts9 rfl;have p4:=pK (P:=Tryz.prog) (w:=w) (xs:= #[i64 k2,str s2]) (i:=1) (v:=str s2) ts9 rfl;have q1:(Op.equalIn 9999 3 (i64 k1) (i64 k2)).run Tryz.prog w=.ok (k1==k2) w:=run_equalIn_int (P:=Tryz.prog) w 9998 3 .i64 .i64 k1 k2 Tryz.underlying3;have q2:(Op.equalIn 9999 9 (str s1) (str s2)).run Tryz.prog w=.ok (decide (s1=s2)) w:=by
  have:=run_equalIn_string (P:=Tryz.prog) w 9998 9 ⟨s1.toArray⟩ ⟨s2.toArray⟩ Tryz.underlying9;rw[←beq_toListBytes,aPB]at this;exact this
 simp only[Op.eqFields];rw[if_pos (by decide),aV p1,aV p2,aV q1]
 by_cases h:k1=k2
 ·subst h;rw[if_neg (by simp),if_pos (by decide),aV p3,aV p4,aV q2]
  by_cases h2:s1=s2
  ·subst h2;simp[pure,Sem.run]
  simp[h2,pure,Sem.run]
 rw[if_pos (by simp[h])];simp[h,pure,Sem.run]
theorem aFW{n:Nat}{ds:List Deferred}{w0:World}{F:Hl}{fr:Fr}{K:Hl}{L:List Asn}{dst:Option Tmp}{ty t':TypeId}{pos:String}{aft:Array Edge}{g:Option (Nat×Bool)}{x y:Operand}{a c:Action}(hx:fr.ev x=some (.agg #[i64 a.1,str a.2]))(hy:fr.ev y=some (.agg #[i64 c.1,str c.2])):
  Ev ⟨Tryz.prog,n,ds,w0,F⟩ fr K L ⟨dst,.binOp .eql 34 x y t',ty,pos,aft,g⟩ (.bool (decide (a=c))):=
 gT hx hy (fun w=>run_eqGuard_agg w _ _ _ _ _ _ Tryz.eqGuardType34) fun w=>by
  rw[run_eql_struct,bHD];rfl
theorem aR3(av:Value)(l:List Action)(a:Action)(K:Hl)(hl:l.length≤100):Sp Tryz.prog 310 [av,.agg #[i64 a.1,str a.2]] K [sl true cS av l] (Ret fun v K' L'=>∃i:Int,v=i64 i∧(0≤i↔a∈l)∧K'=K∧L'=[sl true cS av l]):=by
 refine a8 Tryz.func310 rfl Tryz.ntmps310 rfl rfl fun F w=>?_;refine zz3 ?_;rintro _ K _ ⟨b3,rfl,rfl,rfl⟩ -;refine zz7 ?_;refine aA (bO (k:=cS) rfl Tryz.underlying29 rfl aM) rfl ?_;refine zz4 ?_;refine eJ (fun(i:Nat)=>i≤l.length∧a∉l.take i) (fun i=>[(0,av),(3,ptr b3),(7,i64 l.length),(8,i64 i)]) (fun _=>_) (fun i=>[pt b3 (aZ [i64 a.1,str a.2] 34),sl true cS av l]) (fun i=>l.length - i) 0 ⟨Nat.zero_le _,by simp⟩ (.cons 0 rfl (.cons 3 rfl (.cons 7 rfl (.cons 8 rfl .nil)))) rfl (fun _ h=>h) ?_;intro i ⟨hi0,hi1⟩;refine zz6 ?_;refine bK 9 rfl (fun h9=>?_) (fun h9=>?_)
 ·have hilt:i < l.length:=by omega
  obtain⟨x,hx⟩:∃x,l[i]?=some x:=⟨l[i]'hilt,List.getElem?_eq_getElem hilt⟩;refine zz11 ?_;refine dD (anc:=[0,0,0,6,14,31]) (ord:=[0,1,2,3,4,5]) [] [] mixed gAH (dI _) ?_;refine zz3 ?_;refine aK rfl rfl (.none rfl) rfl rfl (bE (k:=cS) gK rfl aM rfl rfl gAD) rfl ?_;refine aK rfl rfl (.none rfl) rfl rfl (dC (n:=0) (k:=cS) lO rfl aM cB) rfl ?_;refine aK rfl rfl (.none rfl) rfl rfl (aFW (a:=a) (c:=x) rfl rfl) rfl ?_;refine zz2 ?_;refine bK 16 rfl (fun h16=>?_) (fun h16=>?_)
  ·refine zz12 ?_;refine uAv ?_;refine zz1 ?_;exact⟨_,rfl,i,rfl,⟨fun _=>by rw[h16];exact List.mem_of_getElem? hx,fun _=>by omega⟩,rfl,rfl⟩
  refine zz7 ?_;refine dF (i+1) ⟨by omega,?_⟩ aI (.cons 0 rfl (.cons 3 rfl (.cons 7 rfl (.cons 8 rfl .nil)))) rfl (fun _ h=>h)
  have hxe:l[i]'hilt=x:=by simpa[List.getElem?_eq_getElem hilt]using hx
  rw[List.take_succ_eq_append_getElem hilt,hxe];intro hm;rcases List.mem_append.1 hm with h|h
  ·exact hi1 h
  simp at h;exact h16 h
 have hno:a∉l:=(by rw[List.take_of_length_le aI]at hi1;exact hi1);refine zz11 ?_;refine uAv ?_;refine zz1 ?_;exact⟨_,rfl,-1,rfl,⟨fun h=>by omega,fun h=>absurd h hno⟩,rfl,rfl⟩
theorem yN(av:Value)(l:List Action)(a:Action)(K:Hl)(hl:l.length≤100):Sp Tryz.prog 257 [av,.agg #[i64 a.1,str a.2]] K [sl true cS av l] (Ret fun v K' L'=>v=.bool (decide (a∈l))∧K'=K∧L'=[sl true cS av l]):=by
 refine a8 Tryz.func257 rfl Tryz.ntmps257 rfl rfl fun F w=>?_;refine zz3 ?_;rintro _ K _ ⟨b3,rfl,rfl,rfl⟩ -;refine zz7 ?_;refine aX rfl rfl (aR3 av l a _ hl) (.cons (.there .here) .nil) rfl ?_;rintro _ K _ ⟨i,rfl,hi,rfl,rfl⟩ -;refine zz5 ?_;refine uAa ?_;refine zz1 ?_;have e:decide (0≤i)=decide (a∈l):=decide_eq_decide.2 hi;rw[e];exact⟨_,rfl,rfl,rfl,rfl⟩
def actB(o:Ins)(s:MS)(arg:List UInt8):Res MS:=
 if o.tag=2∧boxed arg=false then .error (8,o.at_)
 else if o.tag=3∧kZ arg=false then .error (9,o.at_)
 else actC o s (Mach.actV o arg)
theorem bLU{nm:Bool}{o:Ins}{s:MS}(h:o.tag=1∨(2≤o.tag∧o.tag≤4∧o.a≠[])):actI nm o s=actB o s (actA nm o s):=by
 unfold actI;rw[if_pos h];rfl
theorem bLV{nm:Bool}{o:Ins}{s:MS}(h:¬(o.tag=1∨(2≤o.tag∧o.tag≤4∧o.a≠[]))):actI nm o s=.error (12,s.pc):=by
 unfold actI;rw[if_neg h];rfl
theorem aI2{nm:Bool}{o:Ins}{s:MS}(h:¬(o.tag=1∨(2≤o.tag∧o.tag≤4∧0 < o.a.length))):actI nm o s=.error (12,s.pc):=
 bLV fun h'=>h (h'.imp_right fun⟨a,b,c⟩=>⟨a,b,List.length_pos_iff.2 c⟩)
theorem aDD{nm:Bool}{o:Ins}{s:MS}(h:o.tag=1∨(2≤o.tag∧o.tag≤4∧0 < o.a.length)):actI nm o s=actB o s (actA nm o s):=bLU (h.imp_right fun⟨a,b,c⟩=>⟨a,b,List.length_pos_iff.1 c⟩)
theorem bFM{nm:Bool}{o:Ins}{s:MS}(h:o.tag=1):actA nm o s=[]:=by unfold actA;rw[if_pos h]
theorem bFN{nm:Bool}{o:Ins}{s:MS}{x:List UInt8}(h:¬o.tag=1)(hx:o.a[0]?=some x):actA nm o s=dM nm s.vars s.parts x:=by unfold actA;rw[if_neg h,hx];rfl
theorem bA2(b mb:Nat)(m:Msg)(hv pv:Value)(nm:Bool)(s:MS)(o:Ins)(av0 bv:Value)(n:Int)(K:Hl)(hg:Glob K)(hpv:Ksl (bN 9) K pv s.parts)(ha:Ksl (bN 9) K av0 o.a)(hb:Ksl (bN 9) K bv o.b)(hs:∀x∈o.a,x.length≤100000)(hsm:vA s.vars s.parts)(hl:s.acts.length≤6)
  (hadr:∀(x:List UInt8) (K:Hl),Glob K→x.length≤100000→Sp Tryz.prog 256 [str x] K [] (Val (.bool (kZ x)) K)):
  Sp Tryz.prog 153 [ptr b,qN o av0 bv,i64 n] K [mch b mb m hv pv nm s] (MI b mb m hv nm (actI nm o s)):=by
 obtain⟨sa,sn,sc,rfl⟩:=ha.isSlice;obtain⟨ta,tn,tc,rfl⟩:=hb.isSlice;refine a8 Tryz.func153 rfl Tryz.ntmps153 rfl rfl fun F w=>?_;refine yG fun av sv f c=>?_;refine zz3 ?_;rintro _ K _ ⟨b4,rfl,rfl,rfl⟩ -;refine zz9 ?_;refine cH 13 rfl (fun g13=>?_) (fun g13=>?_)
 ·refine zz15 ?_;refine cF rfl rfl (aIL _ _) rfl ?_;have hcc:o.tag=1∨(2≤o.tag∧o.tag≤4∧0 < o.a.length):=.inl g13;refine bI0 (.cons (.there .here) (.cons .here .nil)) ?_;refine zz6 ?_;refine uAu ?_;refine zz1 ?_;rintro _ K _ ⟨b6,rfl,rfl,rfl⟩ -;refine cA (cK lO rfl rfl rfl bF gAA (.cons (.cons .nil)) gAJ) ?_;rintro _ K _ ⟨rfl,rfl⟩ -;refine zz2 ?_;refine gV (fun(u:List UInt8)=>u.length≤100000∧actI nm o s=actB o s u) (fun u=>[(0,ptr b),(4,ptr b4),(6,ptr b6)]) (fun _=>K) (fun u=>[pt b6 (aZ [i64 o.tag,str u] 34),mblk b (str m.from_) (str m.to_) (i64 m.size) hv av (.bool s.keep) (.bool nm) (.map (some mb)) pv sv s.pc,sl true cS av s.acts,sl false j9 sv s.stack,pt mb (mapO (lK s.vars f) c),pt b4 (aZ [i64 o.op,i64 o.n,i64 o.tag,.bool o.oct,.slice sa sn sc,.slice ta tn tc,i64 o.at_] 41)]) ?_ ?_
  ·refine zz7 ?_;refine bK 35 rfl (fun h35=>?_) (fun h35=>?_)
   ·obtain⟨xa,hxa⟩:∃x,o.a[0]?=some x:=⟨o.a[0]'(by omega),List.getElem?_eq_getElem aI⟩;refine zz4 ?_;refine aA (bE (k:=bN 9) (j:=0) cG rfl (.known ha) rfl rfl aI) rfl ?_;refine uAg ?_;refine aX rfl rfl (uN b mb _ _ _ _ _ _ pv _ _ nm s.vars f c s.parts xa _ hg hpv (hs xa (List.mem_of_getElem? hxa)) hsm) (.cons (.there .here) (.cons (.there (.there (.there (.there .here)))) .nil)) rfl ?_;rintro _ K _ ⟨rfl,rfl,rfl⟩ -;refine zz1 ?_;refine uAh ?_;rintro _ K _ ⟨rfl,rfl⟩ -;refine aG ?_
    (refine aU (.cons (.there (.there .here)) (.cons .here (.cons (.there (.there .here)) (.cons (.there (.there .here)) (.cons .here (.cons .here .nil)))))) ?_;exact cN _ ⟨o0 (hs xa (List.mem_of_getElem? hxa)),by rw[aDD hcc,bFN h35 hxa]⟩ (.cons 0 rfl (.cons 4 rfl (.cons 6 rfl .nil))) rfl fM)
   refine aW ?_
   (refine aU (.cons .here (.cons .here (.cons (.there .here) (.cons (.there .here) (.cons (.there .here) (.cons .here .nil)))))) ?_;exact cN [] ⟨by simp,by rw[aDD hcc,bFM (Classical.not_not.1 h35)]⟩ (.cons 0 rfl (.cons 4 rfl (.cons 6 rfl .nil))) rfl fM)
  intro u ⟨hul,hok⟩;refine gV (fun(a:Action)=>actI nm o s=actC o s a) (fun _=>[(0,ptr b),(4,ptr b4),(6,ptr b6)]) (fun _=>K) (fun a=>[pt b6 (aZ [i64 a.1,str a.2] 34),mblk b (str m.from_) (str m.to_) (i64 m.size) hv av (.bool s.keep) (.bool nm) (.map (some mb)) pv sv s.pc,sl true cS av s.acts,sl false j9 sv s.stack,pt mb (mapO (lK s.vars f) c),pt b4 (aZ [i64 o.op,i64 o.n,i64 o.tag,.bool o.oct,.slice sa sn sc,.slice ta tn tc,i64 o.at_] 41)]) ?_ ?_
  ·refine zz7 ?_;refine cH 47 rfl (fun g47=>?_) (fun g47=>?_)
   ·refine zz5 ?_;refine cF rfl rfl (wQ u _ aI) rfl ?_;refine zz1 ?_;refine aA gAF rfl ?_;refine zz4 ?_;refine eO 43 rfl (fun h43=>?_) (fun h43=>?_)
    ·have hB:actB o s u=.error (8,o.at_):=(by unfold actB;rw[if_pos ⟨g47,by simpa using h43⟩]);refine zz4 ?_;refine bL rfl rfl (l7 _ 8 o.at_ _) .nil rfl gAG ?_ ?_
     ·rintro _ _ _ ⟨fb,h,rfl⟩ le1;cases h
      refine uAa ?_;refine zz3 ?_;unfold MI;rw[hok,hB];exact⟨fb,rfl,rfl⟩
     rintro _ _ _ ⟨_,h,_⟩;cases h
    refine zz6 ?_;refine cH 61 rfl (fun g61=>?_) (fun g61=>?_)
    ·refine zz5 ?_;refine cF rfl rfl (hadr u _ hg hul) rfl ?_;refine zz1 ?_;refine aA gAF rfl ?_;refine zz4 ?_;refine eO 57 rfl (fun h57=>?_) (fun h57=>?_)
     ·have hB:actB o s u=.error (9,o.at_):=gA1;refine zz4 ?_;refine bL rfl rfl (l7 _ 9 o.at_ _) .nil rfl gAG ?_ ?_
      ·rintro _ _ _ ⟨fb,h,rfl⟩ le1;cases h
       refine uAa ?_;refine zz3 ?_;unfold MI;rw[hok,hB];exact⟨fb,rfl,rfl⟩
      rintro _ _ _ ⟨_,h,_⟩;cases h
     refine zz8 ?_;refine bK 71 rfl (fun h71=>?_) (fun h71=>?_)
     ·refine zz7 ?_;refine aA (fB (n:=min u.length 48) Tryz.underlying9 rfl rfl gA6 aI) rfl ?_;refine zz1 ?_;refine uAh ?_;rintro _ K _ ⟨rfl,rfl⟩ -;refine zz2 ?_;have hB:actB o s u=actC o s (Mach.actV o u):=gAC
      (exact cN (o.tag,u.take (min u.length 48)) gAO (.cons 0 rfl (.cons 4 rfl (.cons 6 rfl .nil))) rfl fM)
     refine zz2 ?_;have hB:actB o s u=actC o s (Mach.actV o u):=gAC
     (exact cN (o.tag,u) gAQ (.cons 0 rfl (.cons 4 rfl (.cons 6 rfl .nil))) rfl fM)
    refine zz17 ?_;refine bK 71 rfl (fun h71=>?_) (fun h71=>?_)
    ·refine zz7 ?_;refine aA (fB (n:=min u.length 48) Tryz.underlying9 rfl rfl gA6 aI) rfl ?_;refine zz1 ?_;refine uAh ?_;rintro _ K _ ⟨rfl,rfl⟩ -;refine zz2 ?_;have hB:actB o s u=actC o s (Mach.actV o u):=gAC
     (exact cN (o.tag,u.take (min u.length 48)) gAO (.cons 0 rfl (.cons 4 rfl (.cons 6 rfl .nil))) rfl fM)
    refine zz2 ?_;have hB:actB o s u=actC o s (Mach.actV o u):=gAC
    (exact cN (o.tag,u) gAQ (.cons 0 rfl (.cons 4 rfl (.cons 6 rfl .nil))) rfl fM)
   refine zz15 ?_;refine cH 61 rfl (fun g61=>?_) (fun g61=>?_)
   ·refine zz5 ?_;refine cF rfl rfl (hadr u _ hg hul) rfl ?_;refine zz1 ?_;refine aA gAF rfl ?_;refine zz4 ?_;refine eO 57 rfl (fun h57=>?_) (fun h57=>?_)
    ·have hB:actB o s u=.error (9,o.at_):=gA1;refine zz4 ?_;refine bL rfl rfl (l7 _ 9 o.at_ _) .nil rfl gAG ?_ ?_
     ·rintro _ _ _ ⟨fb,h,rfl⟩ le1;cases h
      refine uAa ?_;refine zz3 ?_;unfold MI;rw[hok,hB];exact⟨fb,rfl,rfl⟩
     rintro _ _ _ ⟨_,h,_⟩;cases h
    refine zz8 ?_;refine bK 71 rfl (fun h71=>?_) (fun h71=>?_)
    ·refine zz7 ?_;refine aA (fB (n:=min u.length 48) Tryz.underlying9 rfl rfl gA6 aI) rfl ?_;refine zz1 ?_;refine uAh ?_;rintro _ K _ ⟨rfl,rfl⟩ -;refine zz2 ?_;have hB:actB o s u=actC o s (Mach.actV o u):=gAC
     (exact cN (o.tag,u.take (min u.length 48)) gAO (.cons 0 rfl (.cons 4 rfl (.cons 6 rfl .nil))) rfl fM)
    refine zz2 ?_;have hB:actB o s u=actC o s (Mach.actV o u):=gAC
    (exact cN (o.tag,u) gAQ (.cons 0 rfl (.cons 4 rfl (.cons 6 rfl .nil))) rfl fM)
   refine zz17 ?_;refine bK 71 rfl (fun h71=>?_) (fun h71=>?_)
   ·refine zz7 ?_;refine aA (fB (n:=min u.length 48) Tryz.underlying9 rfl rfl gA6 aI) rfl ?_;refine zz1 ?_;refine uAh ?_;rintro _ K _ ⟨rfl,rfl⟩ -;refine zz2 ?_;have hB:actB o s u=actC o s (Mach.actV o u):=gAC
    (exact cN (o.tag,u.take (min u.length 48)) gAO (.cons 0 rfl (.cons 4 rfl (.cons 6 rfl .nil))) rfl fM)
   refine zz2 ?_;have hB:actB o s u=actC o s (Mach.actV o u):=gAC
   (exact cN (o.tag,u) gAQ (.cons 0 rfl (.cons 4 rfl (.cons 6 rfl .nil))) rfl fM)
  intro a hok;refine zz6 ?_;refine uAn ?_;rintro _ K _ ⟨rfl,rfl⟩ -;refine zz4 ?_;refine dD (anc:=[0,1,3,7,15,0,63]) (ord:=[0,1,2,3,4,5,6]) [6] [6] mixed gAH (dI _) ?_;refine zz6 ?_;refine iJ rfl (.none rfl) rfl rfl rfl (yN av s.acts a _ aI) (.cons (.there (.there .here)) .nil) rfl ?_;rintro _ K _ ⟨rfl,rfl,rfl⟩ -;refine zz2 ?_;refine bK 93 rfl (fun h93=>?_) (fun h93=>?_)
  ·refine zz2 ?_
   (refine aU (.cons (.there (.there .here)) (.cons .here (.cons (.there .here) (.cons (.there .here) .nil)))) ?_;refine fK (j5 (m:=m) (hv:=hv) (pv:=pv) (nm:=nm) (s:={s with keep:=false})) ?_)
   refine wT rfl (Hl.le_refl _) ?_;unfold MI;rw[hok];unfold actC
   (rw[if_pos h93];exact⟨_,rfl,rfl,pv,hpv,rfl⟩)
  refine zz10 ?_;refine aA (bO (k:=cS) rfl Tryz.underlying29 rfl aM) rfl ?_;refine zz4 ?_;refine eJ (fun(i:Nat)=>i≤s.acts.length∧∀(j:Nat) (x:Action),j < i→s.acts[j]?=some x→¬(a.1=4∨x.1=4)) (fun i=>[(0,ptr b),(4,ptr b4),(6,ptr b6),(98,av),(99,i64 s.acts.length),(100,i64 i)]) (fun _=>K) (fun i=>[sl true cS av s.acts,pt b6 (aZ [i64 a.1,str a.2] 34),mblk b (str m.from_) (str m.to_) (i64 m.size) hv av (.bool false) (.bool nm) (.map (some mb)) pv sv s.pc,sl false j9 sv s.stack,pt mb (mapO (lK s.vars f) c),pt b4 (aZ [i64 o.op,i64 o.n,i64 o.tag,.bool o.oct,.slice sa sn sc,.slice ta tn tc,i64 o.at_] 41)]) (fun i=>s.acts.length - i) 0 ⟨Nat.zero_le _,fun j x h _=>by omega⟩ (.cons 0 rfl (.cons 4 rfl (.cons 6 rfl (.cons 98 rfl (.cons 99 rfl (.cons 100 rfl .nil)))))) rfl (fun _ h=>h) ?_;intro i ⟨hi0,hi1⟩;refine zz6 ?_;refine bK 101 rfl (fun h101=>?_) (fun h101=>?_)
  ·have hilt:i < s.acts.length:=by omega
   obtain⟨x,hx⟩:∃x,s.acts[i]?=some x:=⟨s.acts[i]'hilt,List.getElem?_eq_getElem hilt⟩;refine zz6 ?_;refine aA (bE (k:=cS) gK rfl aM rfl rfl gAD) rfl ?_;refine aA (dC (n:=0) (k:=cS) lO rfl aM cB) rfl ?_;refine zz1 ?_;rintro _ K _ ⟨b8,rfl,rfl,rfl⟩ -;refine cA (cK lO rfl rfl rfl bF gAA (.cons (.cons .nil)) gAJ) ?_;rintro _ K _ ⟨rfl,rfl⟩ -;refine zz8 ?_;refine cH 107 rfl (fun g107=>?_) (fun g107=>?_)
   ·refine zz11 ?_;refine bL rfl rfl (l7 _ 10 o.at_ _) .nil rfl gAG ?_ ?_
    ·rintro _ _ _ ⟨fb,h,rfl⟩ le1;cases h
     refine uAa ?_;refine zz6 ?_;have hco:∃b∈s.acts,a.1=4∨b.1=4:=⟨x,List.mem_of_getElem? hx,by omega⟩;unfold MI;rw[hok];unfold actC;rw[if_neg h93,if_pos hco]
     exact⟨fb,rfl,rfl⟩
    rintro _ _ _ ⟨_,h,_⟩;cases h
   refine zz9 ?_;refine bK 111 rfl (fun h111=>?_) (fun h111=>?_)
   ·refine zz4 ?_;refine bL rfl rfl (l7 _ 10 o.at_ _) .nil rfl gAG ?_ ?_
    ·rintro _ _ _ ⟨fb,h,rfl⟩ le1;cases h
     refine uAa ?_;refine zz6 ?_;have hco:∃b∈s.acts,a.1=4∨b.1=4:=⟨x,List.mem_of_getElem? hx,by omega⟩;unfold MI;rw[hok];unfold actC;rw[if_neg h93,if_pos hco]
     exact⟨fb,rfl,rfl⟩
    rintro _ _ _ ⟨_,h,_⟩;cases h
   refine zz7 ?_;refine uBn ?_;refine dF (i+1) ⟨by omega,fun j y hj hy=>?_⟩ aI (.cons 0 rfl (.cons 4 rfl (.cons 6 rfl (.cons 98 rfl (.cons 99 rfl (.cons 100 rfl .nil)))))) rfl fM
   rcases Nat.lt_or_ge j i with h|h
   ·exact hi1 j y h hy
   have e:j=i:=by omega
   subst e;rw[hx]at hy;cases hy;intro hh;omega
  have hnc:¬ ∃b∈s.acts,a.1=4∨b.1=4:=gA5;refine zz13 ?_;refine aA (bO (k:=cS) rfl Tryz.underlying29 rfl aM) rfl ?_;refine zz3 ?_;refine bK 123 rfl (fun h123=>?_) (fun h123=>?_)
  ·refine zz4 ?_;refine bL rfl rfl (l7 _ 11 o.at_ _) .nil rfl gAG ?_ ?_
   ·rintro _ _ _ ⟨fb,h,rfl⟩ le1;cases h
    refine uAa ?_;refine zz2 ?_;unfold MI;rw[hok];unfold actC;rw[if_neg h93,if_neg hnc,if_pos aI]
    exact⟨fb,rfl,rfl⟩
   rintro _ _ _ ⟨_,h,_⟩;cases h
  refine zz2 ?_;refine dD (anc:=[0,0,2,6,14,30,0,64,254,511,1023,2047,4095]) (ord:=[0,1,2,3,4,5,6,7,8,9,10,11,12]) [7,8,12] [12] mixed gAH (.cons (.there .here) (.cons (.there .here) .nil)) ?_;refine zz7 ?_;refine sY rfl rfl (.none rfl) rfl rfl (bH (z0:=[.int .i64 0,(str [])]) gK aIC rfl rfl rfl rfl (.cons rfl rfl rfl (.cons (.cons .nil)) .nil)) rfl ?_;rintro _ K _ ⟨b135,rfl,rfl,rfl⟩ -;refine⟨_,(show Tks _ _ _ from (.cons (.there .here) (.cons (.there .here) .nil))).sat,?_⟩
  refine sY rfl rfl (.none rfl) rfl rfl (dN (k:=cS) (ys:=[a]) qD rfl rfl (.there (.there (.there .here))) (fun w j=>dE Tryz.underlying29 (SeesSl.at (k:=cS) (.blk (.own (.there (.there .here))) rfl rfl) j)) gAI gAE) rfl ?_;rintro v136 K _ ⟨rfl,rfl,ho136⟩ -;refine⟨_,(show Tks _ _ _ from (.cons (.there .here) (.cons (.there .here) .nil))).sat,?_⟩
  refine zz3 ?_;refine mS rfl rfl (.none rfl) rfl (bP oS rfl rfl cJ bF (.succ (.succ (.succ (.succ .zero)))) rfl) ?_;rintro _ K _ ⟨rfl,rfl⟩ -;refine cO ?_
  (refine aU (.cons (.there .here) (.cons (.there .here) (.cons (.there (.there .here)) (.cons (.there (.there .here)) .nil)))) ?_;refine fK (j5 (m:=m) (hv:=hv) (pv:=pv) (nm:=nm) (s:={s with keep:=false,acts:=s.acts++[a]})) ?_)
  refine zz1 ?_;unfold MI;rw[hok];unfold actC
  (rw[if_neg h93,if_neg hnc,if_neg aI];exact⟨_,rfl,rfl,pv,hpv,rfl⟩)
 refine zz8 ?_;refine cH 17 rfl (fun g17=>?_) (fun g17=>?_)
 ·refine zz10 ?_;refine cH 22 rfl (fun g22=>?_) (fun g22=>?_)
  ·refine zz5 ?_;refine uAd ?_;refine zz5 ?_;refine bL rfl rfl (tR (0 < (o.a.length:Int)) _ _ _ _ _ _ _ _ _ _ _ _ _) (.cons (.there .here) .nil) rfl (fun _ _=>bQ _ _) ?_ ?_
   ·rintro _ _ _ hTr le1;obtain⟨e,p,hu,fb,h,rfl⟩:=bR hTr;cases h
    refine uAa ?_;refine zz2 ?_;have hbl:¬(0 < (o.a.length:Int)):=gAW;rw[if_neg hbl]at hu;cases hu
    have hno:=aI2 (nm:=nm) (s:=s) (o:=o) aI;unfold MI;rw[hno];exact⟨fb,rfl,rfl⟩
   rintro _ K _ hTr -;obtain⟨u0,hu,rfl,rfl,rfl⟩:=bS hTr;clear hTr;have hbl:0 < (o.a.length:Int):=Classical.byContradiction (fun h=>by rw[if_neg h]at hu;cases hu);have hcc:o.tag=1∨(2≤o.tag∧o.tag≤4∧0 < o.a.length):=.inr ⟨by omega,by omega,by omega⟩;refine zz6 ?_;refine uAu ?_;refine zz1 ?_;rintro _ K _ ⟨b6,rfl,rfl,rfl⟩ -;refine cA (cK lO rfl rfl rfl bF gAA (.cons (.cons .nil)) gAJ) ?_;rintro _ K _ ⟨rfl,rfl⟩ -;refine zz2 ?_;refine gV (fun(u:List UInt8)=>u.length≤100000∧actI nm o s=actB o s u) (fun u=>[(0,ptr b),(4,ptr b4),(6,ptr b6)]) (fun _=>K) (fun u=>[pt b6 (aZ [i64 o.tag,str u] 34),mblk b (str m.from_) (str m.to_) (i64 m.size) hv av (.bool s.keep) (.bool nm) (.map (some mb)) pv sv s.pc,sl true cS av s.acts,sl false j9 sv s.stack,pt mb (mapO (lK s.vars f) c),pt b4 (aZ [i64 o.op,i64 o.n,i64 o.tag,.bool o.oct,.slice sa sn sc,.slice ta tn tc,i64 o.at_] 41)]) ?_ ?_
   ·refine zz7 ?_;refine bK 35 rfl (fun h35=>?_) (fun h35=>?_)
    ·obtain⟨xa,hxa⟩:∃x,o.a[0]?=some x:=⟨o.a[0]'(by omega),List.getElem?_eq_getElem aI⟩;refine zz4 ?_;refine aA (bE (k:=bN 9) (j:=0) cG rfl (.known ha) rfl rfl aI) rfl ?_;refine uAg ?_;refine aX rfl rfl (uN b mb _ _ _ _ _ _ pv _ _ nm s.vars f c s.parts xa _ hg hpv (hs xa (List.mem_of_getElem? hxa)) hsm) (.cons (.there .here) (.cons (.there (.there (.there (.there .here)))) .nil)) rfl ?_;rintro _ K _ ⟨rfl,rfl,rfl⟩ -;refine zz1 ?_;refine uAh ?_;rintro _ K _ ⟨rfl,rfl⟩ -;refine aG ?_
     (refine aU (.cons (.there (.there .here)) (.cons .here (.cons (.there (.there .here)) (.cons (.there (.there .here)) (.cons .here (.cons .here .nil)))))) ?_;exact cN _ ⟨o0 (hs xa (List.mem_of_getElem? hxa)),by rw[aDD hcc,bFN h35 hxa]⟩ (.cons 0 rfl (.cons 4 rfl (.cons 6 rfl .nil))) rfl fM)
    refine aW ?_
    (refine aU (.cons .here (.cons .here (.cons (.there .here) (.cons (.there .here) (.cons (.there .here) (.cons .here .nil)))))) ?_;exact cN [] ⟨by simp,by rw[aDD hcc,bFM (Classical.not_not.1 h35)]⟩ (.cons 0 rfl (.cons 4 rfl (.cons 6 rfl .nil))) rfl fM)
   intro u ⟨hul,hok⟩;refine gV (fun(a:Action)=>actI nm o s=actC o s a) (fun _=>[(0,ptr b),(4,ptr b4),(6,ptr b6)]) (fun _=>K) (fun a=>[pt b6 (aZ [i64 a.1,str a.2] 34),mblk b (str m.from_) (str m.to_) (i64 m.size) hv av (.bool s.keep) (.bool nm) (.map (some mb)) pv sv s.pc,sl true cS av s.acts,sl false j9 sv s.stack,pt mb (mapO (lK s.vars f) c),pt b4 (aZ [i64 o.op,i64 o.n,i64 o.tag,.bool o.oct,.slice sa sn sc,.slice ta tn tc,i64 o.at_] 41)]) ?_ ?_
   ·refine zz7 ?_;refine cH 47 rfl (fun g47=>?_) (fun g47=>?_)
    ·refine zz5 ?_;refine cF rfl rfl (wQ u _ aI) rfl ?_;refine zz1 ?_;refine aA gAF rfl ?_;refine zz4 ?_;refine eO 43 rfl (fun h43=>?_) (fun h43=>?_)
     ·have hB:actB o s u=.error (8,o.at_):=(by unfold actB;rw[if_pos ⟨g47,by simpa using h43⟩]);refine zz4 ?_;refine bL rfl rfl (l7 _ 8 o.at_ _) .nil rfl gAG ?_ ?_
      ·rintro _ _ _ ⟨fb,h,rfl⟩ le1;cases h
       refine uAa ?_;refine zz3 ?_;unfold MI;rw[hok,hB];exact⟨fb,rfl,rfl⟩
      rintro _ _ _ ⟨_,h,_⟩;cases h
     refine zz6 ?_;refine cH 61 rfl (fun g61=>?_) (fun g61=>?_)
     ·refine zz5 ?_;refine cF rfl rfl (hadr u _ hg hul) rfl ?_;refine zz1 ?_;refine aA gAF rfl ?_;refine zz4 ?_;refine eO 57 rfl (fun h57=>?_) (fun h57=>?_)
      ·have hB:actB o s u=.error (9,o.at_):=gA1;refine zz4 ?_;refine bL rfl rfl (l7 _ 9 o.at_ _) .nil rfl gAG ?_ ?_
       ·rintro _ _ _ ⟨fb,h,rfl⟩ le1;cases h
        refine uAa ?_;refine zz3 ?_;unfold MI;rw[hok,hB];exact⟨fb,rfl,rfl⟩
       rintro _ _ _ ⟨_,h,_⟩;cases h
      refine zz8 ?_;refine bK 71 rfl (fun h71=>?_) (fun h71=>?_)
      ·refine zz7 ?_;refine aA (fB (n:=min u.length 48) Tryz.underlying9 rfl rfl gA6 aI) rfl ?_;refine zz1 ?_;refine uAh ?_;rintro _ K _ ⟨rfl,rfl⟩ -;refine zz2 ?_;have hB:actB o s u=actC o s (Mach.actV o u):=gAC
       (exact cN (o.tag,u.take (min u.length 48)) gAO (.cons 0 rfl (.cons 4 rfl (.cons 6 rfl .nil))) rfl fM)
      refine zz2 ?_;have hB:actB o s u=actC o s (Mach.actV o u):=gAC
      (exact cN (o.tag,u) gAQ (.cons 0 rfl (.cons 4 rfl (.cons 6 rfl .nil))) rfl fM)
     refine zz17 ?_;refine bK 71 rfl (fun h71=>?_) (fun h71=>?_)
     ·refine zz7 ?_;refine aA (fB (n:=min u.length 48) Tryz.underlying9 rfl rfl gA6 aI) rfl ?_;refine zz1 ?_;refine uAh ?_;rintro _ K _ ⟨rfl,rfl⟩ -;refine zz2 ?_;have hB:actB o s u=actC o s (Mach.actV o u):=gAC
      (exact cN (o.tag,u.take (min u.length 48)) gAO (.cons 0 rfl (.cons 4 rfl (.cons 6 rfl .nil))) rfl fM)
     refine zz2 ?_;have hB:actB o s u=actC o s (Mach.actV o u):=gAC
     (exact cN (o.tag,u) gAQ (.cons 0 rfl (.cons 4 rfl (.cons 6 rfl .nil))) rfl fM)
    refine zz15 ?_;refine cH 61 rfl (fun g61=>?_) (fun g61=>?_)
    ·refine zz5 ?_;refine cF rfl rfl (hadr u _ hg hul) rfl ?_;refine zz1 ?_;refine aA gAF rfl ?_;refine zz4 ?_;refine eO 57 rfl (fun h57=>?_) (fun h57=>?_)
     ·have hB:actB o s u=.error (9,o.at_):=gA1;refine zz4 ?_;refine bL rfl rfl (l7 _ 9 o.at_ _) .nil rfl gAG ?_ ?_
      ·rintro _ _ _ ⟨fb,h,rfl⟩ le1;cases h
       refine uAa ?_;refine zz3 ?_;unfold MI;rw[hok,hB];exact⟨fb,rfl,rfl⟩
      rintro _ _ _ ⟨_,h,_⟩;cases h
     refine zz8 ?_;refine bK 71 rfl (fun h71=>?_) (fun h71=>?_)
     ·refine zz7 ?_;refine aA (fB (n:=min u.length 48) Tryz.underlying9 rfl rfl gA6 aI) rfl ?_;refine zz1 ?_;refine uAh ?_;rintro _ K _ ⟨rfl,rfl⟩ -;refine zz2 ?_;have hB:actB o s u=actC o s (Mach.actV o u):=gAC
      (exact cN (o.tag,u.take (min u.length 48)) gAO (.cons 0 rfl (.cons 4 rfl (.cons 6 rfl .nil))) rfl fM)
     refine zz2 ?_;have hB:actB o s u=actC o s (Mach.actV o u):=gAC
     (exact cN (o.tag,u) gAQ (.cons 0 rfl (.cons 4 rfl (.cons 6 rfl .nil))) rfl fM)
    refine zz17 ?_;refine bK 71 rfl (fun h71=>?_) (fun h71=>?_)
    ·refine zz7 ?_;refine aA (fB (n:=min u.length 48) Tryz.underlying9 rfl rfl gA6 aI) rfl ?_;refine zz1 ?_;refine uAh ?_;rintro _ K _ ⟨rfl,rfl⟩ -;refine zz2 ?_;have hB:actB o s u=actC o s (Mach.actV o u):=gAC
     (exact cN (o.tag,u.take (min u.length 48)) gAO (.cons 0 rfl (.cons 4 rfl (.cons 6 rfl .nil))) rfl fM)
    refine zz2 ?_;have hB:actB o s u=actC o s (Mach.actV o u):=gAC
    (exact cN (o.tag,u) gAQ (.cons 0 rfl (.cons 4 rfl (.cons 6 rfl .nil))) rfl fM)
   intro a hok;refine zz6 ?_;refine uAn ?_;rintro _ K _ ⟨rfl,rfl⟩ -;refine zz4 ?_;refine dD (anc:=[0,1,3,7,15,0,63]) (ord:=[0,1,2,3,4,5,6]) [6] [6] mixed gAH (dI _) ?_;refine zz6 ?_;refine iJ rfl (.none rfl) rfl rfl rfl (yN av s.acts a _ aI) (.cons (.there (.there .here)) .nil) rfl ?_;rintro _ K _ ⟨rfl,rfl,rfl⟩ -;refine zz2 ?_;refine bK 93 rfl (fun h93=>?_) (fun h93=>?_)
   ·refine zz2 ?_
    (refine aU (.cons (.there (.there .here)) (.cons .here (.cons (.there .here) (.cons (.there .here) .nil)))) ?_;refine fK (j5 (m:=m) (hv:=hv) (pv:=pv) (nm:=nm) (s:={s with keep:=false})) ?_)
    refine wT rfl (Hl.le_refl _) ?_;unfold MI;rw[hok];unfold actC
    (rw[if_pos h93];exact⟨_,rfl,rfl,pv,hpv,rfl⟩)
   refine zz10 ?_;refine aA (bO (k:=cS) rfl Tryz.underlying29 rfl aM) rfl ?_;refine zz4 ?_;refine eJ (fun(i:Nat)=>i≤s.acts.length∧∀(j:Nat) (x:Action),j < i→s.acts[j]?=some x→¬(a.1=4∨x.1=4)) (fun i=>[(0,ptr b),(4,ptr b4),(6,ptr b6),(98,av),(99,i64 s.acts.length),(100,i64 i)]) (fun _=>K) (fun i=>[sl true cS av s.acts,pt b6 (aZ [i64 a.1,str a.2] 34),mblk b (str m.from_) (str m.to_) (i64 m.size) hv av (.bool false) (.bool nm) (.map (some mb)) pv sv s.pc,sl false j9 sv s.stack,pt mb (mapO (lK s.vars f) c),pt b4 (aZ [i64 o.op,i64 o.n,i64 o.tag,.bool o.oct,.slice sa sn sc,.slice ta tn tc,i64 o.at_] 41)]) (fun i=>s.acts.length - i) 0 ⟨Nat.zero_le _,fun j x h _=>by omega⟩ (.cons 0 rfl (.cons 4 rfl (.cons 6 rfl (.cons 98 rfl (.cons 99 rfl (.cons 100 rfl .nil)))))) rfl (fun _ h=>h) ?_;intro i ⟨hi0,hi1⟩;refine zz6 ?_;refine bK 101 rfl (fun h101=>?_) (fun h101=>?_)
   ·have hilt:i < s.acts.length:=by omega
    obtain⟨x,hx⟩:∃x,s.acts[i]?=some x:=⟨s.acts[i]'hilt,List.getElem?_eq_getElem hilt⟩;refine zz6 ?_;refine aA (bE (k:=cS) gK rfl aM rfl rfl gAD) rfl ?_;refine aA (dC (n:=0) (k:=cS) lO rfl aM cB) rfl ?_;refine zz1 ?_;rintro _ K _ ⟨b8,rfl,rfl,rfl⟩ -;refine cA (cK lO rfl rfl rfl bF gAA (.cons (.cons .nil)) gAJ) ?_;rintro _ K _ ⟨rfl,rfl⟩ -;refine zz8 ?_;refine cH 107 rfl (fun g107=>?_) (fun g107=>?_)
    ·refine zz11 ?_;refine bL rfl rfl (l7 _ 10 o.at_ _) .nil rfl gAG ?_ ?_
     ·rintro _ _ _ ⟨fb,h,rfl⟩ le1;cases h
      refine uAa ?_;refine zz6 ?_;have hco:∃b∈s.acts,a.1=4∨b.1=4:=⟨x,List.mem_of_getElem? hx,by omega⟩;unfold MI;rw[hok];unfold actC;rw[if_neg h93,if_pos hco]
      exact⟨fb,rfl,rfl⟩
     rintro _ _ _ ⟨_,h,_⟩;cases h
    refine zz9 ?_;refine bK 111 rfl (fun h111=>?_) (fun h111=>?_)
    ·refine zz4 ?_;refine bL rfl rfl (l7 _ 10 o.at_ _) .nil rfl gAG ?_ ?_
     ·rintro _ _ _ ⟨fb,h,rfl⟩ le1;cases h
      refine uAa ?_;refine zz6 ?_;have hco:∃b∈s.acts,a.1=4∨b.1=4:=⟨x,List.mem_of_getElem? hx,by omega⟩;unfold MI;rw[hok];unfold actC;rw[if_neg h93,if_pos hco]
      exact⟨fb,rfl,rfl⟩
     rintro _ _ _ ⟨_,h,_⟩;cases h
    refine zz7 ?_;refine uBn ?_;refine dF (i+1) ⟨by omega,fun j y hj hy=>?_⟩ aI (.cons 0 rfl (.cons 4 rfl (.cons 6 rfl (.cons 98 rfl (.cons 99 rfl (.cons 100 rfl .nil)))))) rfl fM
    rcases Nat.lt_or_ge j i with h|h
    ·exact hi1 j y h hy
    have e:j=i:=by omega
    subst e;rw[hx]at hy;cases hy;intro hh;omega
   have hnc:¬ ∃b∈s.acts,a.1=4∨b.1=4:=gA5;refine zz13 ?_;refine aA (bO (k:=cS) rfl Tryz.underlying29 rfl aM) rfl ?_;refine zz3 ?_;refine bK 123 rfl (fun h123=>?_) (fun h123=>?_)
   ·refine zz4 ?_;refine bL rfl rfl (l7 _ 11 o.at_ _) .nil rfl gAG ?_ ?_
    ·rintro _ _ _ ⟨fb,h,rfl⟩ le1;cases h
     refine uAa ?_;refine zz2 ?_;unfold MI;rw[hok];unfold actC;rw[if_neg h93,if_neg hnc,if_pos aI]
     exact⟨fb,rfl,rfl⟩
    rintro _ _ _ ⟨_,h,_⟩;cases h
   refine zz2 ?_;refine dD (anc:=[0,0,2,6,14,30,0,64,254,511,1023,2047,4095]) (ord:=[0,1,2,3,4,5,6,7,8,9,10,11,12]) [7,8,12] [12] mixed gAH (.cons (.there .here) (.cons (.there .here) .nil)) ?_;refine zz7 ?_;refine sY rfl rfl (.none rfl) rfl rfl (bH (z0:=[.int .i64 0,(str [])]) gK aIC rfl rfl rfl rfl (.cons rfl rfl rfl (.cons (.cons .nil)) .nil)) rfl ?_;rintro _ K _ ⟨b135,rfl,rfl,rfl⟩ -;refine⟨_,(show Tks _ _ _ from (.cons (.there .here) (.cons (.there .here) .nil))).sat,?_⟩
   refine sY rfl rfl (.none rfl) rfl rfl (dN (k:=cS) (ys:=[a]) qD rfl rfl (.there (.there (.there .here))) (fun w j=>dE Tryz.underlying29 (SeesSl.at (k:=cS) (.blk (.own (.there (.there .here))) rfl rfl) j)) gAI gAE) rfl ?_;rintro v136 K _ ⟨rfl,rfl,ho136⟩ -;refine⟨_,(show Tks _ _ _ from (.cons (.there .here) (.cons (.there .here) .nil))).sat,?_⟩
   refine zz3 ?_;refine mS rfl rfl (.none rfl) rfl (bP oS rfl rfl cJ bF (.succ (.succ (.succ (.succ .zero)))) rfl) ?_;rintro _ K _ ⟨rfl,rfl⟩ -;refine cO ?_
   (refine aU (.cons (.there .here) (.cons (.there .here) (.cons (.there (.there .here)) (.cons (.there (.there .here)) .nil)))) ?_;refine fK (j5 (m:=m) (hv:=hv) (pv:=pv) (nm:=nm) (s:={s with keep:=false,acts:=s.acts++[a]})) ?_)
   refine zz1 ?_;unfold MI;rw[hok];unfold actC
   (rw[if_neg h93,if_neg hnc,if_neg aI];exact⟨_,rfl,rfl,pv,hpv,rfl⟩)
  have hno:=aI2 (nm:=nm) (s:=s) (o:=o) aI;refine zz7 ?_;refine bL rfl rfl (uP _ _ _ _ _ _ _ _ _ _ _ _ _) (.cons (.there .here) .nil) rfl gAG ?_ ?_
  ·rintro _ _ _ ⟨fb,h,rfl⟩ le1;cases h
   refine uAa ?_;refine zz2 ?_;simp only[MI,hno];exact⟨fb,rfl,rfl⟩
  rintro _ _ _ ⟨_,h,_⟩;cases h
 have hno:=aI2 (nm:=nm) (s:=s) (o:=o) aI;refine zz14 ?_;refine bL rfl rfl (uP _ _ _ _ _ _ _ _ _ _ _ _ _) (.cons (.there .here) .nil) rfl gAG ?_ ?_
 ·rintro _ _ _ ⟨fb,h,rfl⟩ le1;cases h
  refine uAa ?_;refine zz2 ?_;simp only[MI,hno];exact⟨fb,rfl,rfl⟩
 rintro _ _ _ ⟨_,h,_⟩;cases h
end Go.Proofs
end
section
attribute [local irreducible] Go.SL.T Go.SL.OL Go.SL.D Go.SL.DL Go.SL.Ev Go.SL.Ef Go.SL.EfS
namespace Go.Proofs
open Go Go.SL Go.Syn Go.Mach
open R (Yl)
def hdEl:El (List UInt8×List UInt8):={e:=25,sz:=2,enc:=fun a=>[str a.1,str a.2],len:=fun _=>rfl,one:=fun _ u h=>by simp at h;rcases h with rfl|rfl <;> rfl}
theorem aC6:∀(As:List Asn) (B:Asn),Tks As (B::As) [B]
 | [],_=>.nil
 |_::As,B=>.cons (.there .here) (aC6 As B)
theorem aGZ:∀(As M:List Asn),Tks As (As++M) M
 | [],_=>.nil
 |_::As,M=>.cons .here (aGZ As M)
def lY(m:Msg)(name:aJ)(i:Nat):List aJ:=((m.hs.take i).filter fun h=>decide (dG h.1=name)).map (·.2)
theorem aPY(m:Msg)(name:aJ){i:Nat}(h:m.hs.length≤i):lY m name i=jZ m name:=by unfold lY jZ;rw[List.take_of_length_le h]
theorem vE{m:Msg}{name:aJ}{i:Nat}{x:aJ×aJ}(hx:m.hs[i]?=some x):lY m name (i+1)=if dG x.1=name then lY m name i++[x.2]else lY m name i:=by
 have hi:i < m.hs.length:=by
  rcases Nat.lt_or_ge i m.hs.length with h'|h'
  ·exact h'
  simp[List.getElem?_eq_none h']at hx
 have hc:m.hs[i]=x:=by simpa[List.getElem?_eq_getElem hi]using hx
 unfold lY;rw[List.take_succ_eq_append_getElem hi,hc,List.filter_append]
 by_cases h:dG x.1=name
 ·simp[h]
 simp[h]
theorem aPZ(m:Msg)(name:aJ)(i:Nat):lY m name i<+:jZ m name:=by
 unfold lY jZ;refine List.IsPrefix.map _ (List.IsPrefix.filter _ (List.take_prefix _ _))
structure FI where
 i:Nat
 K:Hl
 L:List Asn
theorem aD6(l bx by_ b mb:Nat)(m:Msg)(hv pv:Value)(nm:Bool)(s:MS)(name:aJ)(K0:Hl)(L0:List Asn)(J Jx:List aJ→Hl→List Asn→Prop)
  (hbx:K0 bx=some (aZ [ptr b] 172)) (hy:K0 by_=some (aZ [str name] 9)) (hh:Ksl hdEl K0 hv m.hs) (hln:m.hs.length≤1000000) (hs:∀h∈m.hs,h.1.length≤1000000)
  (hJ0:J [] K0 (mch b mb m hv pv nm s::L0))
  (hY:∀pre x K' L',K0.le K'→J pre K' L'→(pre++[x])<+:jZ m name→Yl Tryz.prog l [str x] K' L' fun t K'' L''=>(t=true∧J (pre++[x]) K'' L'')∨(t=false∧Jx (pre++[x]) K'' L'')):
  Sp Tryz.prog 307 [.func (.yield l) #[] #[],ptr bx,ptr by_] K0 (mch b mb m hv pv nm s::L0)
   (Ret fun v K' L'=>v=.tuple #[]∧K0.le K'∧(J (jZ m name) K' L'∨∃pre,pre<+:jZ m name∧Jx pre K' L')):=by
 refine a8 Tryz.func307 rfl Tryz.ntmps307 rfl rfl fun F w=>?_;refine yG fun av sv f c=>?_;refine zz8 ?_;refine aA (bO (k:=hdEl) rfl Tryz.underlying26 rfl aM) rfl ?_;refine zz4 ?_;refine kF (j5 (m:=m) (hv:=hv) (pv:=pv) (nm:=nm) (s:=s)) ?_;refine eJ (fun(q:FI)=>q.i≤m.hs.length∧K0.le q.K∧J (lY m name q.i) q.K q.L) (fun q=>[(0,.func (.yield l) #[] #[]),(2,ptr by_),(11,hv),(12,i64 m.hs.length),(13,i64 q.i)]) (fun q=>q.K) (fun q=>q.L) (fun q=>m.hs.length - q.i) ⟨0,K0,mch b mb m hv pv nm s::L0⟩ ⟨Nat.zero_le _,Hl.le_refl _,hJ0⟩ (.cons 0 rfl (.cons 2 rfl (.cons 11 rfl (.cons 12 rfl (.cons 13 rfl .nil))))) rfl (fun _ h=>h) ?_;intro ⟨i,K1,L1⟩ ⟨hi0,hle,hJ⟩;dsimp only at hi0 hle hJ ⊢;have hh1:=hh.mono hle;have hy1:=hle _ _ hy;refine zz6 ?_;refine bK 14 rfl (fun h14=>?_) (fun h14=>?_)
 ·have hilt:i < m.hs.length:=by omega
  obtain⟨x,hx⟩:∃x,m.hs[i]?=some x:=⟨m.hs[i]'hilt,List.getElem?_eq_getElem hilt⟩;refine zz6 ?_;refine aA (bE (k:=hdEl) sU rfl aM rfl rfl gAD) rfl ?_;refine aA (dC (n:=0) (k:=hdEl) aYO rfl aM cB) rfl ?_;refine zz1 ?_;rintro _ K _ ⟨b5,rfl,rfl,rfl⟩ -;refine cA (cK aYO rfl rfl rfl bF gAA (.cons (.cons .nil)) gAJ) ?_;rintro _ K _ ⟨rfl,rfl⟩ -;refine zz3 ?_;refine dD (anc:=[0,1,3,0,15,31,63,63,191,511,1023,2047]) (ord:=[0,1,3,2,4,5,6,7,8,9,10,11]) [2,9] [9] mixed gAH (.cons .here .nil) ?_;refine zz3 ?_;refine lC rfl (.none rfl) rfl rfl rfl rfl (jT _ _ (by have:=hs x (List.mem_of_getElem? hx);omega)) rfl ?_;refine zz2 ?_;refine jD 22 rfl (fun g22=>?_) (fun g22=>?_)
  ·refine zz3 ?_;have hpre:lY m name i++[x.2]<+:jZ m name:=(by have:=aPZ m name (i+1);rwa [vE hx,if_pos g22]at this);refine R.dl_round rfl (.on rfl rfl rfl) rfl rfl rfl (hY (lY m name i) x.2 _ _ hle hJ hpre) (aC6 _ _) rfl ?_;rintro t K2 M2 hR le2;refine aK rfl rfl (.on rfl rfl rfl) rfl rfl gAF rfl ?_;refine zz3 ?_;refine eO 28 rfl (fun h28=>?_) (fun h28=>?_)
   ·refine zz5 ?_;refine aU (by rw[List.append_nil];exact aGZ M2 _) ?_;refine wT rfl (by first|exact Hl.le_trans hle le2|exact hle) ?_;refine⟨_,rfl,rfl,Hl.le_trans hle le2,.inr ⟨_,hpre,?_⟩⟩
    rcases hR with ⟨h,_⟩|⟨_,h⟩
    ·exfalso;subst h;simp at h28
    exact h
   refine zz7 ?_
   (refine aU (by rw[List.append_nil];exact aGZ M2 _) ?_;exact dF ⟨i+1,K2,M2⟩ ⟨by (show i+1≤m.hs.length);omega,Hl.le_trans hle le2,by (show J (lY m name (i+1)) K2 M2);rw[vE hx,if_pos g22];rcases hR with ⟨_,h⟩|⟨h,_⟩;exact h;(exfalso;subst h;simp at h28)⟩ gBR (.cons 0 rfl (.cons 2 rfl (.cons 11 rfl (.cons 12 rfl (.cons 13 rfl .nil))))) rfl (fun _ h=>h))
  refine zz16 ?_
  (refine aU (aC6 L1 _) ?_;exact dF ⟨i+1,_,L1⟩ ⟨by (show i+1≤m.hs.length);omega,hle,by (show J (lY m name (i+1)) _ L1);rw[vE hx,if_neg g22];exact hJ⟩ gBR (.cons 0 rfl (.cons 2 rfl (.cons 11 rfl (.cons 12 rfl (.cons 13 rfl .nil))))) rfl (fun _ h=>h))
 refine zz4 ?_;refine dK rfl (by first|exact Hl.le_trans hle le2|exact hle) ?_;refine⟨_,rfl,rfl,hle,.inl ?_⟩
 have:=aPY m name (i:=i) aI;rw[←this];exact hJ
theorem aHH(b:Nat)(name:List UInt8)(K:Hl):Sp Tryz.prog 254 [ptr b,str name] K []
  (Ret fun v K' L'=>∃bx by_,v=.func (.func 307) #[] #[ptr bx,ptr by_]∧K' bx=some (aZ [ptr b] 172)∧K' by_=some (aZ [str name] 9)∧L'=[]):=by
 refine a8 Tryz.func254 rfl Tryz.ntmps254 rfl rfl fun F w=>?_;refine zz3 ?_;rintro _ K _ ⟨b2,rfl,rfl,rfl⟩ -;refine zz1 ?_;rintro _ K _ ⟨b3,rfl,rfl,rfl⟩ -;refine zz10 ?_;refine kE fun K1 le1 hK1=>?_;refine kE fun K2 le2 hK2=>?_;refine bD rfl rfl (Hl.le_trans le1 le2) ?_;exact⟨_,rfl,b2,b3,rfl,hK2,le2 _ _ hK1,rfl⟩
theorem aUQ{α:Type}{z:Bool}{k:El α}{v:Value}{xs:List α}{L:List Asn}{h:Hl}(hs:Sat (sl z k v xs::L) h):∃a n c,v=.slice a n c:=by
 obtain⟨a,l,ha,_⟩:=hs;rcases ha with ⟨rfl,_⟩|⟨b,cap,junk,fz,rfl,_⟩ <;> exact⟨_,_,_,rfl⟩
theorem aCE(m:Msg)(name:aJ):(jZ m name).length≤m.hs.length:=by
 unfold jZ;rw[List.length_map];exact List.length_filter_le _ _
attribute [local semireducible] Go.SL.T Go.SL.OL Go.SL.D Go.SL.DL Go.SL.Ev Go.SL.Ef Go.SL.EfS in
theorem bA3(bx by_ b mb:Nat)(m:Msg)(hv pv:Value)(nm:Bool)(s:MS)(name:aJ)(sv:Value)(xs:List aJ)(K0:Hl)
  (hbx:K0 bx=some (aZ [ptr b] 172)) (hy:K0 by_=some (aZ [str name] 9)) (hh:Ksl hdEl K0 hv m.hs) (hln:m.hs.length≤1000000) (hs:∀h∈m.hs,h.1.length≤1000000) (hxs:xs.length≤4000000000000):
  Sp Tryz.prog 304 [sv,.func (.func 307) #[] #[ptr bx,ptr by_]] K0 [sl false (bN 9) sv xs,mch b mb m hv pv nm s]
   (Ret fun v K' L'=>L'=[sl false (bN 9) v (xs++jZ m name),mch b mb m hv pv nm s]):=by
 refine aU4 Tryz.func304 rfl Tryz.ntmps304 rfl rfl fun F w=>?_;refine aLQ (fun h hs=>aUQ hs) ?_;rintro⟨sa,sn,sc,rfl⟩;refine aH (aC ?_);refine cC (eH rfl rfl) rfl ?_;rintro _ K _ ⟨b2,rfl,rfl,rfl⟩ -;refine aA (aD rfl) rfl ?_;refine aG (aE ?_);refine aH (aH ?_);refine aC ?_;refine aA (aB rfl) rfl ?_;refine aG (aE ?_);refine bB ?_;refine bAM (RR:=fun r l d e K1 L1=>e=.returned (.tuple #[])∧r.state=.ready∧r.pending=none∧∃v,v.oneCell'=true∧L1=[mch b mb m hv pv nm s,pt l (.loop r),dblk d,pt b2 (aZ [v] 39),sl false (bN 9) v (xs++jZ m name)]) rfl (dI _) (fun r l d hr0 hr1 hr2 hr3 hr4 hsz hfr=>?_) (fun r l d e K1 L1 hR le=>?_)
 ·refine aGJ (M:=mch b mb m hv pv nm s::[pt l (.loop r),dblk d,pt b2 (aZ [.slice sa sn sc] 39),sl false (bN 9) (.slice sa sn sc) xs]) (Tks.sat (N:=[]) (.cons (.there (.there (.there (.there .here)))) (.cons .here (.cons .here (.cons .here (.cons .here .nil)))))) ?_;refine(aD6 l bx by_ b mb m hv pv nm s name _ _ (fun pre K1 L1=>∃v,v.oneCell'=true∧L1=[mch b mb m hv pv nm s,pt l (.loop r),dblk d,pt b2 (aZ [v] 39),sl false (bN 9) v (xs++pre)]) (fun _ _ _=>False) hbx hy hh hln hs ⟨.slice sa sn sc,rfl,by rw[List.append_nil]⟩ ?_).mono ?_
  ·rintro pre x K1 _ le1 ⟨v,hv1,rfl⟩ hpre;have hlen:(pre++[x]).length≤1000000:=Nat.le_trans hpre.length_le (Nat.le_trans (aCE m name) hln);simp only[List.length_append,List.length_singleton]at hlen;refine bLT (Tks.sat (N:=[]) (.cons (.there .here) (.cons .here (.cons .here (.cons .here (.cons .here .nil)))))) ?_;refine bA1 (bQJ (n:=13) (fr1:=(5,str x)::(7,str x)::(6,.func (.func 307) #[] #[ptr bx,ptr by_])::(4,.slice none 0 0)::(2,ptr b2)::Fr.init 0 [.slice sa sn sc,.func (.func 307) #[] #[ptr bx,ptr by_]] 13) (R:=fun t K2 L2=>t=true∧∃v,v.oneCell'=true∧L2=[pt l (.loop r.on),mch b mb m hv pv nm s,dblk d,pt b2 (aZ [v] 39),sl false (bN 9) v (xs++(pre++[x]))]) hr0 hr2 rfl hsz hfr (fun F w Q hQ=>?_) (fun F w=>?_)) ?_
   ·rw[hr3];exact aO1 (bI3 (aD rfl) rfl rfl (bI4 hQ))
   ·rw[hr4];refine aVS ?_;refine aO1 ?_
    refine bI3 (aL iS rfl (.own (.there (.there (.there .here)))) rfl) rfl rfl ?_;refine bI3 (aB rfl) rfl rfl ?_;refine bTU (bH (z0:=[(str [])]) cG tz9 rfl rfl rfl rfl (.cons rfl rfl rfl (.cons .nil) .nil)) rfl rfl ?_;rintro _ K _ ⟨b10,rfl,rfl,rfl⟩ -;refine bTU (dN (k:=bN 9) (ys:=[x]) fS rfl rfl (.there (.there (.there (.there (.there .here))))) (fun w j=>dE Tryz.underlying39 (SeesSl.at (.blk (.own .here) rfl rfl) j)) gAI gAI) rfl rfl ?_;rintro v11 K _ ⟨rfl,rfl,ho11⟩ -;refine bTV (bP iS rfl rfl ho11 (.there (.there (.there (.there (.there .here))))) .zero rfl) rfl ?_;rintro _ K _ ⟨rfl,rfl⟩ -;refine bI4 ?_;refine aO ?_;intro a w fo i;exact⟨_,[mch b mb m hv pv nm s,dblk d,pt b2 (aZ [v11] 39),sl false (bN 9) v11 (xs++(pre++[x]))],(i.imp (Tks.sat (.cons (.there (.there .here)) (.cons (.there (.there .here)) (.cons (.there (.there .here)) (.cons (.there (.there .here)) (.cons .here .nil))))))).left.imp (fun h k=>by rw[←List.append_assoc];exact k),Hl.le_refl _,rfl,v11,ho11,rfl⟩
   rintro t K2 _ ⟨rfl,v2,hv2,rfl⟩;rw[bTS hr0 hr1];exact⟨_,Tks.sat (N:=[]) (.cons (.there .here) (.cons .here (.cons .here (.cons .here (.cons .here .nil))))),.inl ⟨rfl,v2,hv2,rfl⟩⟩
  rintro e K1 L1 ⟨v,rfl,rfl,le,h|⟨_,_,h⟩⟩
  ·obtain⟨v,hv1,rfl⟩:=h;exact⟨rfl,hr0,hr1,v,hv1,rfl⟩
  exact h.elim
 obtain⟨rfl,hr0,hr1,v,hv1,rfl⟩:=hR;refine⟨_,r,[mch b mb m hv pv nm s,dblk d,pt b2 (aZ [v] 39),sl false (bN 9) v (xs++jZ m name)],rfl,Tks.sat (N:=[]) (.cons (.there .here) (.cons .here (.cons .here (.cons .here (.cons .here .nil))))),by rw[hr0];simp,?_⟩
 rw[hr1]
 show D ⟨Tryz.prog,13,[mrk d],w,F⟩ _ _ _ _ _
 refine aO (aE ?_);refine aH (aC ?_);refine aA (aL iS rfl aM rfl) rfl ?_;refine aA (aD rfl) rfl ?_;refine aG (aE ?_);refine bG ?_;refine aU (.cons (.there .here) (.cons (.there (.there .here)) (.cons .here .nil))) ?_;exact aPI [d] (L:=[sl false (bN 9) v (xs++jZ m name),mch b mb m hv pv nm s]) rfl rfl (fun _ h=>h) le ⟨_,rfl,rfl⟩
end Go.Proofs
end
section
attribute [local irreducible] Go.SL.T Go.SL.OL Go.SL.D Go.SL.DL Go.SL.Ev Go.SL.Ef Go.SL.EfS
namespace Go.Proofs
open Go Go.SL Go.Syn Go.Mach
theorem aAP(b mb:Nat)(m:Msg)(hv pv:Value)(nm:Bool)(s:MS)(lv:Value)(l:List (List UInt8))(K:Hl)(hg:Glob K)(hpv:Ksl (bN 9) K pv s.parts)(hlv:Ksl (bN 9) K lv l)(hl:l.length≤1000000)(hs:∀x∈l,x.length≤100000)(hsm:vA s.vars s.parts):
  Sp Tryz.prog 250 [ptr b,lv] K [mch b mb m hv pv nm s] (Ret fun v K' L'=>K'=K∧L'=[sl false (bN 9) v (l.map (dM nm s.vars s.parts)),mch b mb m hv pv nm s]):=by
 refine aYM ⟨_,Tryz.func250,rfl,rfl⟩ fun av sv f c=>?_;refine aGJ (show Tks [_,_] _ _ from .cons .here (.cons (.there (.there .here)) .nil)).sat (aQ4 (aE2 _ (bFQ b mb _ _ _ _ _ _ pv sv s.pc nm s.vars f c s.parts lv l K hg hpv hlv hl hs hsm)) ?_)
 rintro e K' L' ⟨N,⟨v,rfl,rfl,rfl⟩,rfl⟩;exact⟨[_,mch b mb m hv pv nm s],[],fun h hh=>fE (fun h hh=>j5 (s:=s) h hh) ((show Tks [_,_,_,_,_] _ []from .cons .here (.cons .here (.cons (.there .here) (.cons (.there .here) (.cons .here .nil))))).sat h hh),_,rfl,rfl,rfl⟩
theorem aA3{α β:Type}(g:α→List β){l:List α}{i:Nat}{x:α}(h:l[i]?=some x):(l.take (i+1)).flatMap g=(l.take i).flatMap g++g x:=by
 have hi:i < l.length:=by
  rcases Nat.lt_or_ge i l.length with h'|h'
  ·exact h'
  simp[List.getElem?_eq_none h']at h
 have hc:l[i]=x:=by simpa[List.getElem?_eq_getElem hi]using h
 rw[List.take_succ_eq_append_getElem hi,hc];simp
theorem zE{α β:Type}{g:α→List β}{n:Nat}(h:∀x,(g x).length≤n):∀l:List α,(l.flatMap g).length≤l.length*n
 | []=>by simp
 |x::l=>by simp only[List.flatMap_cons,List.length_append,List.length_cons,Nat.succ_mul];have:=zE h l;have:=h x;omega
theorem aZM(m:Msg)(n:aJ):(uK m n).length≤1:=by unfold uK;split;simp;split <;> simp
theorem bO9{ex:aJ→aJ}{m:Msg}{o:Ins}(h:o.op=8):gW ex m o=o.a.map ex:=by unfold gW;rw[if_pos h]
theorem bO7{ex:aJ→aJ}{m:Msg}{o:Ins}(h:o.op=6):gW ex m o=(o.a.map ex).flatMap fun n=>jZ m (dG n):=by unfold gW;rw[if_neg aI,if_pos h]
theorem bO8{ex:aJ→aJ}{m:Msg}{o:Ins}(h:o.op=7):gW ex m o=o.a.flatMap (uK m):=by unfold gW;rw[if_neg aI,if_neg aI,if_pos h]
theorem bO6{ex:aJ→aJ}{m:Msg}{o:Ins}(h8:¬o.op=8)(h6:¬o.op=6)(h7:¬o.op=7):gW ex m o=[]:=by unfold gW;rw[if_neg h8,if_neg h6,if_neg h7]
theorem bMH{m:Msg}{n:aJ}(h:dG n=[102,114,111,109]):uK m n=[m.from_]:=by unfold uK;rw[if_pos h]
theorem bMJ{m:Msg}{n:aJ}(h0:¬dG n=[102,114,111,109])(h:dG n=[116,111]):uK m n=[m.to_]:=by unfold uK;rw[if_neg h0,if_pos h]
theorem bMI{m:Msg}{n:aJ}(h0:¬dG n=[102,114,111,109])(h:¬dG n=[116,111]):uK m n=[]:=by unfold uK;rw[if_neg h0,if_neg h]
structure MV where
 v:Value
 K:Hl
structure MW where
 i:Nat
 v:Value
 K:Hl
theorem aV1(b mb:Nat)(m:Msg)(hv pv:Value)(nm:Bool)(s:MS)(o:Ins)(av bv:Value)(K0:Hl)(hg:Glob K0)(hpv:Ksl (bN 9) K0 pv s.parts)(ha:Ksl (bN 9) K0 av o.a)(hb:Ksl (bN 9) K0 bv o.b)(hh:Ksl hdEl K0 hv m.hs)(hln:m.hs.length≤1000000)(hhs:∀h∈m.hs,h.1.length≤1000000)(hl:o.a.length≤1000000)(hs:∀x∈o.a,x.length≤100000)(hsm:vA s.vars s.parts):
  Sp Tryz.prog 251 [ptr b,qN o av bv] K0 [mch b mb m hv pv nm s] (Ret fun v K' L'=>L'=[sl false (bN 9) v (gW (dM nm s.vars s.parts) m o),mch b mb m hv pv nm s]):=by
 obtain⟨sa,sn,sc,rfl⟩:=ha.isSlice;obtain⟨ta,tn,tc,rfl⟩:=hb.isSlice;refine a8 Tryz.func251 rfl Tryz.ntmps251 rfl rfl fun F w=>?_;refine zz3 ?_;rintro _ K _ ⟨b3,rfl,rfl,rfl⟩ -;refine zz8 ?_;refine gV (fun(q:MV)=>K.le q.K) (fun q=>[(5,q.v)]) (fun q=>q.K) (fun q=>[sl false (bN 9) q.v (gW (dM nm s.vars s.parts) m o),mch b mb m hv pv nm s]) ?_ ?_
 ·refine zz13 ?_;refine bK 12 rfl (fun h12=>?_) (fun h12=>?_)
  ·refine zz5 ?_;refine aX rfl rfl (aAP b mb m hv pv nm s _ o.a _ hg hpv ha hl hs hsm) (.cons (.there .here) .nil) rfl ?_;rintro _ K _ ⟨rfl,rfl⟩ -;refine zz6 ?_;refine uAj ?_;refine bD rfl rfl (by first|exact hle|exact Hl.le_refl _) ?_;rw[←bO9 (ex:=dM nm s.vars s.parts) (m:=m) h12];exact⟨_,rfl,rfl⟩
  refine zz6 ?_;refine bK 18 rfl (fun h18=>?_) (fun h18=>?_)
  ·refine zz5 ?_;refine aX rfl rfl (aAP b mb m hv pv nm s _ o.a _ hg hpv ha hl hs hsm) (.cons (.there .here) .nil) rfl ?_;rintro nv K _ ⟨rfl,rfl⟩ -;have hnl:∀x∈o.a.map (dM nm s.vars s.parts),x.length≤100000:=gCG;have hnn:(o.a.map (dM nm s.vars s.parts)).length≤1000000:=(by simpa using hl)
   generalize hnames:o.a.map (dM nm s.vars s.parts)=names at*
   refine uAd ?_;refine zz4 ?_;refine z8 (.cons .here (.cons .here .nil)) ?_;refine eJ (fun(q:MW)=>q.i≤names.length∧K.le q.K) (fun q=>[(0,ptr b),(5,q.v),(23,nv),(24,i64 names.length),(25,i64 q.i)]) (fun q=>q.K) (fun q=>[sl false (bN 9) q.v ((names.take q.i).flatMap fun n=>jZ m (dG n)),sl false (bN 9) nv names,mch b mb m hv pv nm s]) (fun q=>names.length - q.i) ⟨0,.slice none 0 0,K⟩ ⟨Nat.zero_le _,Hl.le_refl _⟩ (.cons 0 rfl (.cons 5 rfl (.cons 23 rfl (.cons 24 rfl (.cons 25 rfl .nil))))) rfl (eF (bN 9)) ?_;intro ⟨i,v,K1⟩ ⟨hi0,hle⟩;dsimp only at hi0 hle ⊢;have hh1:=hh.mono hle;have hfl:((names.take i).flatMap fun n=>jZ m (dG n)).length≤1000000*1000000:=Nat.le_trans (zE (n:=1000000) (fun x=>Nat.le_trans (aCE m _) hln) _) (Nat.mul_le_mul_right _ gBQ);refine zz6 ?_;refine bK 26 rfl (fun h26=>?_) (fun h26=>?_)
   ·have hilt:i < names.length:=by omega
    obtain⟨x,hx⟩:∃x,names[i]?=some x:=⟨names[i]'hilt,List.getElem?_eq_getElem hilt⟩;refine zz6 ?_;refine aA (bE (k:=(bN 9)) cG rfl aM rfl rfl gAD) rfl ?_;refine uAg ?_;refine zz7 ?_;refine cF rfl rfl (jT _ _ (by have:=hnl x (List.mem_of_getElem? hx);omega)) rfl ?_;refine aX rfl rfl (aHH b (dG x) _) .nil rfl ?_;rintro _ K2 _ ⟨bx,bY,rfl,hbx,hbY,rfl⟩ le2;refine aX rfl rfl (bA3 bx bY b mb m hv pv nm s (dG x) _ _ _ hbx hbY (hh1.mono le2) hln hhs aI) (.cons .here (.cons (.there .here) .nil)) rfl ?_;rintro v34 K3 _ rfl le3;refine zz8 ?_;refine aU (.cons .here (.cons (.there .here) (.cons .here .nil))) ?_;refine dF ⟨i+1,_,_⟩ ⟨by (show i+1≤names.length);omega,Hl.le_trans hle (Hl.le_trans le2 le3)⟩ (by (show names.length - (i+1) < names.length - i);omega) (.cons 0 rfl (.cons 5 rfl (.cons 23 rfl (.cons 24 rfl (.cons 25 rfl .nil))))) rfl ?_;dsimp only;rw[aA3 _ hx];exact fun _ h=>h
   have hfin:((names.take i).flatMap fun n=>jZ m (dG n))=gW (dM nm s.vars s.parts) m o:=(by rw[List.take_of_length_le aI,bO7 h18,hnames]);refine zz5 ?_
   (refine aU (.cons .here (.cons (.there .here) .nil)) ?_;exact cN ⟨v,K1⟩ hle (.cons 5 rfl .nil) rfl (by rw[←hfin];exact fun _ h=>h))
  refine zz6 ?_;refine bK 36 rfl (fun h36=>?_) (fun h36=>?_)
  ·refine zz4 ?_;refine uAd ?_;refine zz4 ?_;refine eJ (fun(q:Nat×Value)=>q.1≤o.a.length) (fun q=>[(0,ptr b),(5,q.2),(39,.slice sa sn sc),(40,i64 o.a.length),(41,i64 q.1)]) (fun _=>K) (fun q=>[mch b mb m hv pv nm s,sl false (bN 9) q.2 ((o.a.take q.1).flatMap (uK m)),pt b3 (aZ [i64 o.op,i64 o.n,i64 o.tag,.bool o.oct,.slice sa sn sc,.slice ta tn tc,i64 o.at_] 41)]) (fun q=>o.a.length - q.1) ⟨0,.slice none 0 0⟩ (Nat.zero_le _) (.cons 0 rfl (.cons 5 rfl (.cons 39 rfl (.cons 40 rfl (.cons 41 rfl .nil))))) rfl (fun h hh=>fL (eF (bN 9) h (fL hh))) ?_;intro ⟨i,v⟩ hi0;dsimp only at hi0 ⊢;refine yG fun av sv f c=>?_;have hfl:((o.a.take i).flatMap (uK m)).length≤1000000*1:=Nat.le_trans (zE (n:=1) (aZM m) _) (Nat.mul_le_mul_right _ gBQ);refine zz6 ?_;refine bK 42 rfl (fun h42=>?_) (fun h42=>?_)
   ·have hilt:i < o.a.length:=by omega
    obtain⟨x,hx⟩:∃x,o.a[i]?=some x:=⟨o.a[i]'hilt,List.getElem?_eq_getElem hilt⟩;refine zz6 ?_;refine aA (bE (k:=(bN 9)) cG rfl aM rfl rfl gAD) rfl ?_;refine uAg ?_;refine zz6 ?_;refine cF rfl rfl (jT _ _ (by have:=hs x (List.mem_of_getElem? hx);omega)) rfl ?_;refine zz9 ?_;refine bK 47 rfl (fun h47=>?_) (fun h47=>?_)
    ·refine zz8 ?_;refine cC (bH (z0:=[(str [])]) cG tz9 rfl rfl rfl rfl (.cons rfl rfl rfl (.cons .nil) .nil)) rfl ?_;rintro _ K _ ⟨b56,rfl,rfl,rfl⟩ -;refine cC (dN (k:=(bN 9)) (ys:=[m.from_]) fS rfl rfl (.there (.there (.there (.there (.there .here))))) (fun w j=>dE Tryz.underlying39 (SeesSl.at (k:=bN 9) (.blk (.own .here) rfl rfl) j)) gAP gAP) rfl ?_;rintro v57 K _ ⟨rfl,rfl,ho57⟩ -;refine zz9 ?_
     (refine aU (.cons (.there (.there .here)) (.cons (.there (.there .here)) (.cons (.there (.there .here)) (.cons (.there (.there .here)) (.cons .here (.cons (.there .here) .nil)))))) ?_;refine fK (j5 (s:=s)) ?_;exact dF ⟨i+1,v57⟩ (by (show i+1≤o.a.length);omega) gBU (.cons 0 rfl (.cons 5 rfl (.cons 39 rfl (.cons 40 rfl (.cons 41 rfl .nil))))) rfl (by dsimp only;rw[aA3 _ hx,bMH h47];exact fun _ h=>h))
    refine zz6 ?_;refine bK 58 rfl (fun h58=>?_) (fun h58=>?_)
    ·refine zz8 ?_;refine cC (bH (z0:=[(str [])]) cG tz9 rfl rfl rfl rfl (.cons rfl rfl rfl (.cons .nil) .nil)) rfl ?_;rintro _ K _ ⟨b67,rfl,rfl,rfl⟩ -;refine cC (dN (k:=(bN 9)) (ys:=[m.to_]) fS rfl rfl (.there (.there (.there (.there (.there .here))))) (fun w j=>dE Tryz.underlying39 (SeesSl.at (k:=bN 9) (.blk (.own .here) rfl rfl) j)) gAP gAP) rfl ?_;rintro v68 K _ ⟨rfl,rfl,ho68⟩ -;refine zz9 ?_
     (refine aU (.cons (.there (.there .here)) (.cons (.there (.there .here)) (.cons (.there (.there .here)) (.cons (.there (.there .here)) (.cons .here (.cons (.there .here) .nil)))))) ?_;refine fK (j5 (s:=s)) ?_;exact dF ⟨i+1,v68⟩ (by (show i+1≤o.a.length);omega) gBU (.cons 0 rfl (.cons 5 rfl (.cons 39 rfl (.cons 40 rfl (.cons 41 rfl .nil))))) rfl (by dsimp only;rw[aA3 _ hx,bMJ h47 h58];exact fun _ h=>h))
    refine zz8 ?_
    (refine fK (j5 (s:=s)) ?_;exact dF ⟨i+1,v⟩ (by (show i+1≤o.a.length);omega) gBU (.cons 0 rfl (.cons 5 rfl (.cons 39 rfl (.cons 40 rfl (.cons 41 rfl .nil))))) rfl (by dsimp only;rw[aA3 _ hx,bMI h47 h58,List.append_nil];exact fun _ h=>h))
   have hfin:((o.a.take i).flatMap (uK m))=gW (dM nm s.vars s.parts) m o:=(by rw[List.take_of_length_le aI,bO8 h36]);refine zz5 ?_
   (refine aU (.cons (.there (.there (.there (.there .here)))) (.cons .here (.cons .here (.cons .here (.cons .here .nil))))) ?_;exact cN ⟨v,K⟩ (Hl.le_refl _) (.cons 5 rfl .nil) rfl (by rw[←hfin];exact fun h hh=>fE (fun h hh=>j5 (s:=s) h hh) hh))
  refine zz2 ?_
  (refine aU (.cons (.there .here) .nil) ?_;exact cN ⟨.slice none 0 0,K⟩ (Hl.le_refl _) (.cons 5 rfl .nil) rfl (by rw[bO6 h12 h18 h36];exact eF (bN 9)))
 intro ⟨v,K1⟩ hle;dsimp only at hle ⊢;refine zz7 ?_;refine bD rfl rfl (by first|exact hle|exact Hl.le_refl _) ?_;exact⟨_,rfl,rfl⟩
end Go.Proofs
end
section
attribute [local irreducible] Go.SL.T Go.SL.OL Go.SL.D Go.SL.DL Go.SL.Ev Go.SL.Ef Go.SL.EfS
namespace Go.Proofs
open Go Go.SL Go.Syn Go.Mach
open R (Yl)
attribute [local semireducible] Go.SL.T Go.SL.OL Go.SL.D Go.SL.DL Go.SL.Ev Go.SL.Ef Go.SL.EfS in
theorem bGJ{E:Env}{x:Exit}{fr:Fr}{K:Hl}{L:List Asn}{A:Asn}{Q:Post}(h:D E x fr K L Q):D E x fr K (A::L) Q:=fun a w f i=>h a w f i.drop
structure XI where
 i:Nat
 ds:List Nat
 K:Hl
theorem bBY{m:Msg}{l:List aJ}{x:aJ}(hx:x∈l)(h:jZ m (dG x)=[]):pW m l=false:=by
 unfold pW;rw[List.all_eq_false];exact⟨x,hx,by simp[h]⟩
theorem aW4{m:Msg}{l:List aJ}(h:∀x∈l,jZ m (dG x)≠[]):pW m l=true:=by
 unfold pW;rw[List.all_eq_true];exact fun x hx=>by simpa using h x hx
theorem take_all_succ{α:Type}{p:α→Prop}{l:List α}{i:Nat}{x:α}(h:∀y∈l.take i,p y)(hx:l[i]?=some x)(hp:p x):∀y∈l.take (i+1),p y:=by
 have hi:i < l.length:=by
  rcases Nat.lt_or_ge i l.length with h'|h'
  ·exact h'
  simp[List.getElem?_eq_none h']at hx
 have hc:l[i]=x:=by simpa[List.getElem?_eq_getElem hi]using hx
 rw[List.take_succ_eq_append_getElem hi,hc];intro y hy;rcases List.mem_append.1 hy with h1|h1
 ·exact h y h1
 rw[List.mem_singleton.1 h1];exact hp
attribute [local semireducible] Go.SL.T Go.SL.OL Go.SL.D Go.SL.DL Go.SL.Ev Go.SL.Ef Go.SL.EfS in
theorem aPW(b mb:Nat)(m:Msg)(hv pv:Value)(nm:Bool)(s:MS)(lv:Value)(l:List aJ)(K0:Hl)(hg:Glob K0)(hpv:Ksl (bN 9) K0 pv s.parts)(hlv:Ksl (bN 9) K0 lv l)(hh:Ksl hdEl K0 hv m.hs)(hln:m.hs.length≤1000000)(hhs:∀h∈m.hs,h.1.length≤1000000)(hl:l.length≤1000000)(hs:∀x∈l,x.length≤100000)(hsm:vA s.vars s.parts):
  Sp Tryz.prog 151 [ptr b,lv] K0 [mch b mb m hv pv nm s] (Ret fun v K' L'=>v=.bool (pW m (l.map (dM nm s.vars s.parts)))∧L'=[mch b mb m hv pv nm s]):=by
 have hnl:∀x∈l.map (dM nm s.vars s.parts),x.length≤100000:=gCG;have hnn:(l.map (dM nm s.vars s.parts)).length≤1000000:=by simpa using hl
 have hall:=aAP b mb m hv pv nm s lv l K0 hg hpv hlv hl hs hsm
 generalize l.map (dM nm s.vars s.parts)=names at*
 refine aU4 Tryz.func151 rfl Tryz.ntmps151 rfl rfl fun F w=>?_;refine aH (aC ?_);refine aA (aD rfl) rfl ?_;refine aG (aE ?_);refine aRA ?_;refine aH ?_;refine bOJ ?_;refine aE (aH ?_);refine aH (aC ?_);refine aA (aB rfl) rfl ?_;refine aA (aB rfl) rfl ?_;refine aX rfl rfl hall (.cons .here .nil) rfl ?_;rintro nv K _ ⟨rfl,rfl⟩ -;refine uAd ?_;refine aA (aB rfl) rfl ?_;refine aG (aE ?_);refine bB ?_;refine bOK (fun(q:XI)=>q.i≤names.length∧K.le q.K∧∀y∈names.take q.i,jZ m (dG y)≠[]) (fun q=>q.ds.map mrk) (fun q=>[(0,ptr b),(9,nv),(10,i64 names.length),(11,i64 q.i)]) (fun q=>q.K) (fun q=>sl false (bN 9) nv names::mch b mb m hv pv nm s::q.ds.map dblk) (fun q=>names.length - q.i) ⟨0,[],K⟩ ⟨Nat.zero_le _,Hl.le_refl _,by simp⟩ rfl (.cons 0 rfl (.cons 9 rfl (.cons 10 rfl (.cons 11 rfl .nil)))) rfl (fun _ h=>h) ?_;intro ⟨i,ds,K1⟩ ⟨hi0,hle,hall⟩;dsimp only at hi0 hle hall ⊢;have hh1:=hh.mono hle;refine aH (aC ?_);refine aA (cP rfl rfl) rfl ?_;refine aG (aE ?_);refine aH ?_;refine bK 12 rfl (fun h12=>?_) (fun h12=>?_)
 ·have hilt:i < names.length:=by omega
  obtain⟨x,hx⟩:∃x,names[i]?=some x:=⟨names[i]'hilt,List.getElem?_eq_getElem hilt⟩;refine aW ?_;refine aE (aH ?_);refine bB (aH ?_);refine aC ?_;refine aA (bE (k:=(bN 9)) cG rfl aM rfl rfl gAD) rfl ?_;refine uAg ?_;refine aA (aD rfl) rfl ?_;refine aG (aE ?_);refine aH (aH ?_);refine aC ?_;refine aA (aB rfl) rfl ?_;refine aA (aB rfl) rfl ?_;refine cF rfl rfl (jT _ _ (by have:=hnl x (List.mem_of_getElem? hx);omega)) rfl ?_;refine aX rfl rfl (aHH b (dG x) _) .nil rfl ?_;rintro _ K2 _ ⟨bx,bY,rfl,hbx,hbY,rfl⟩ le2;refine aG (aE ?_);refine bB ?_;refine bAM (RR:=fun r l d e K4 L4=>e=.returned (.tuple #[])∧((jZ m (dG x)=[]∧r.state=.ready∧r.pending=none∧L4=mch b mb m hv pv nm s::pt l (.loop r)::dblk d::sl false (bN 9) nv names::ds.map dblk)∨(jZ m (dG x)≠[]∧L4=pt l (.loop (r.off (.exit 1)))::mch b mb m hv pv nm s::dblk d::sl false (bN 9) nv names::ds.map dblk))) rfl (dI _) (fun r l d hr0 hr1 hr2 hr3 hr4 hsz hfr=>?_) (fun r l d e K3 L3 hR le3=>?_)
  ·refine aGJ (M:=mch b mb m hv pv nm s::pt l (.loop r)::dblk d::sl false (bN 9) nv names::ds.map dblk) (Tks.sat (As:=[_,_,_,_]) (.cons (.there (.there (.there .here))) (.cons .here (.cons .here (.cons .here .nil))))) ?_;refine(aD6 l bx bY b mb m hv pv nm s (dG x) _ _ (fun pre K4 L4=>pre=[]∧L4=mch b mb m hv pv nm s::pt l (.loop r)::dblk d::sl false (bN 9) nv names::ds.map dblk) (fun pre K4 L4=>pre≠[]∧L4=pt l (.loop (r.off (.exit 1)))::mch b mb m hv pv nm s::dblk d::sl false (bN 9) nv names::ds.map dblk) hbx hbY (hh1.mono le2) hln hhs ⟨rfl,rfl⟩ ?_).mono ?_
   ·rintro pre x1 K4 _ le4 ⟨rfl,rfl⟩ hpre;refine bLT (Tks.sat (As:=[_,_]) (.cons (.there .here) (.cons .here .nil))) ?_;refine bA1 (bQJ (n:=21) (fr1:=[]) (R:=fun t K5 L5=>t=false∧L5=pt l (.loop (r.off (.exit 1)))::mch b mb m hv pv nm s::dblk d::sl false (bN 9) nv names::ds.map dblk) hr0 hr2 rfl hsz hfr (fun F w Q hQ=>?_) (fun F w=>?_)) ?_
    ·rw[hr3];exact fun a w f i=>bOX hQ a w (f.keep .nil) i
    ·rw[hr4];refine aVS ?_;refine bOW ?_;refine jY rfl ?_
     intro a w fo i;exact⟨_,_,i,Hl.le_refl _,rfl,rfl⟩
    rintro t K5 _ ⟨rfl,rfl⟩;exact⟨_,fun _ h=>h,.inr ⟨rfl,by simp,rfl⟩⟩
   rintro e K4 L4 ⟨v,rfl,rfl,le,h|⟨pre,h1,h2,h3⟩⟩
   ·exact⟨rfl,.inl ⟨h.1,hr0,hr1,h.2⟩⟩
   exact⟨rfl,.inr ⟨fun e=>h2 (by rw[e]at h1;exact List.prefix_nil.1 h1),h3⟩⟩
  obtain⟨rfl,hR⟩:=hR;rcases hR with ⟨hne,hr0,hr1,rfl⟩|⟨hne,rfl⟩
  ·refine⟨_,r,mch b mb m hv pv nm s::dblk d::sl false (bN 9) nv names::ds.map dblk,rfl,fun h=>fL,by rw[hr0];simp,?_⟩
   rw[hr1,List.append_nil]
   show D ⟨Tryz.prog,21,mrk d::ds.map mrk,w,F⟩ _ _ _ _ _
   refine aO (aE ?_);refine aH (aC ?_);refine aA (aD rfl) rfl ?_;refine aG (aE ?_);refine bG ?_;refine bU ?_;refine aY ?_;refine aY ?_;refine bU ?_;refine aY ?_;refine rG ?_;refine fK (Tks.sat (As:=[_,_]) (.cons (.there (.there .here)) (.cons .here .nil))) ?_;refine bGJ ?_;exact aPI (d::ds) (L:=[mch b mb m hv pv nm s]) rfl rfl (fun _ h=>aUP (A:=[_]) h) (Hl.le_trans hle (Hl.le_trans le2 le3)) ⟨_,rfl,by rw[bBY (List.mem_of_getElem? hx) hne],rfl⟩
  refine⟨_,r.off (.exit 1),mch b mb m hv pv nm s::dblk d::sl false (bN 9) nv names::ds.map dblk,rfl,fun h k=>k,by simp,?_⟩
  rw[List.append_nil]
  show T ⟨Tryz.prog,21,mrk d::ds.map mrk,w,F⟩ (.exit 1) _ _ _ _
  refine cM ?_;refine jY rfl ?_;refine aR ?_;refine bC ?_;refine aE (aC ?_);refine aA (bW rfl rfl aI aI) rfl ?_;refine aA (aB rfl) rfl ?_;refine aG ?_;exact bGO ⟨i+1,d::ds,_⟩ ⟨by (show i+1≤names.length);omega,Hl.le_trans hle (Hl.le_trans le2 le3),take_all_succ hall hx hne⟩ (by (show names.length - (i+1) < names.length - i);omega) rfl (.cons 0 rfl (.cons 9 rfl (.cons 10 rfl (.cons 11 rfl .nil)))) rfl (Tks.sat (As:=[_,_]) (.cons (.there (.there .here)) (.cons .here .nil)))
 refine cM ?_;refine aR ?_;refine aR ?_;refine bC ?_;refine aE (aH ?_);refine aC ?_;refine aA (aD rfl) rfl ?_;refine aG (aE ?_);refine bG ?_;refine rG ?_;refine bGJ ?_;exact aPI ds (L:=[mch b mb m hv pv nm s]) rfl rfl (fun _ h=>aUP (A:=[_]) h) hle ⟨_,rfl,by rw[aW4 (by rw[List.take_of_length_le aI]at hall;exact hall)],rfl⟩
theorem bG3(b mb:Nat)(m:Msg)(hv pv:Value)(nm:Bool)(s:MS)(o:Ins)(av bv:Value)(n:Int)(K0:Hl)(hg:Glob K0)(hpv:Ksl (bN 9) K0 pv s.parts)(ha:Ksl (bN 9) K0 av o.a)(hb:Ksl (bN 9) K0 bv o.b)(hh:Ksl hdEl K0 hv m.hs)(hln:m.hs.length≤1000000)(hhs:∀h∈m.hs,h.1.length≤1000000)(hl:o.a.length≤1000000)(hs:∀x∈o.a,x.length≤100000)(hsm:vA s.vars s.parts):
  Sp Tryz.prog 150 [ptr b,qN o av bv,i64 n] K0 [mch b mb m hv pv nm s] (MI b mb m hv nm (push s (pW m (o.a.map (dM nm s.vars s.parts))))):=by
 obtain⟨sa,sn,sc,rfl⟩:=ha.isSlice;obtain⟨ta,tn,tc,rfl⟩:=hb.isSlice;refine a8 Tryz.func150 rfl Tryz.ntmps150 rfl rfl fun F w=>?_;refine zz3 ?_;rintro _ K _ ⟨b4,rfl,rfl,rfl⟩ -;refine zz7 ?_;refine aX rfl rfl (aPW b mb m hv pv nm s _ o.a _ hg hpv ha hh hln hhs hl hs hsm) (.cons (.there .here) .nil) rfl ?_;rintro _ K2 _ ⟨rfl,rfl⟩ le2;have hpv2:=hpv.mono le2;refine bL rfl rfl (pA b mb m hv pv nm s (pW m (o.a.map (dM nm s.vars s.parts))) _) (.cons .here .nil) rfl (fun _ _=>bQ _ _) ?_ ?_
 ·rintro _ _ _ hTr le1;obtain⟨e,p,hq,fb,h,rfl⟩:=bR hTr;cases h
  refine uAa ?_;refine bX (Hl.le_trans le2 le1) ?_;unfold MI;rw[hq];exact⟨fb,rfl,rfl⟩
 rintro _ K _ hTr -;obtain⟨q,hq,rfl,rfl,rfl⟩:=bS hTr;clear hTr;have hqp:=gU hq;refine uAz ?_;refine dK rfl le2 ?_;unfold MI;rw[hq];exact⟨_,rfl,rfl,pv,by rw[hqp];exact hpv2,rfl⟩
end Go.Proofs
end
section
namespace Go.Mach
open Go.Syn
theorem aD8{α:Type}{f g:Nat→Option α}(h:∀e,f e=g e):∀n e,m8 f n e=m8 g n e:=by
 intro n;induction n <;> grind [m8]
theorem bB7(w v k:aJ):∀(f f' i j:Nat),k.length+1 - j≤f→k.length+1 - j≤f'→j≤k.length+1→iR w v k f i j=iR w v k f' i j∨k.length < j:=by
 intro f;induction f with
 |zero=>intro f' i j h1 h2 h3;right;omega
 |succ f ih=>
  intro f' i j h1 h2 h3;rcases Nat.lt_or_ge k.length j with hj|hj
  ·exact .inr hj
  cases f' with
  |zero=>right;omega
  |succ f'=>
   left
   have e1:∀i',j+1≤k.length→iR w v k f i' (j+1)=iR w v k f' i' (j+1):=fun i' hh=>by
    rcases ih f' i' (j+1) aI aI aI with h|h
    ·exact h
    omega
   have e2:∀i',j+2≤k.length→iR w v k f i' (j+2)=iR w v k f' i' (j+2):=fun i' hh=>by
    rcases ih f' i' (j+2) aI aI aI with h|h
    ·exact h
    omega
   unfold iR;cases hk:k[j]? with
   |none=>rfl
   |some c=>
    have hjl:j < k.length:=by
     rcases Nat.lt_or_ge j k.length with h'|h'
     ·exact h'
     simp[List.getElem?_eq_none h']at hk
    simp only[];split
    ·exact aD8 (fun e=>by rw[e1 e aI]) _ _
    cases v[i]? <;> grind
def gl(w v k:aJ)(i j:Nat):Option (List aJ):=iR w v k (k.length+1 - j) i j
variable{w v k:aJ}{i j:Nat}{c d x:UInt8}
theorem bQ2(h:j=k.length):gl w v k i j=if i=v.length then some []else none:=by
 unfold gl;subst h
 rw[show k.length+1 - k.length=0+1 from by omega];unfold iR;rw[List.getElem?_eq_none (Nat.le_refl _)]
theorem aEA(h:j < k.length):gl w v k i j=iR w v k ((k.length - (j+1)+1)+1) i j:=by
 unfold gl;congr 1;omega
theorem bMT(hc:k[j]?=some c)(h:j < k.length)(h42:c.toNat=42):gl w v k i j=m8 (fun e=>(gl w v k e (j+1)).map fun ps=>((w.take e).drop i)::ps) (v.length+1 - i) i:=by
 grind [iR,gl,aEA,aD8]
theorem bMU(hc:k[j]?=some c)(h:j < k.length)(h42:¬c.toNat=42)(hi:v.length≤i):gl w v k i j=none:=by
 rw[aEA h];unfold iR;simp only[hc];rw[if_neg h42,List.getElem?_eq_none hi]
theorem bVO(hc:k[j]?=some c)(h:j < k.length)(hx:v[i]?=some x)(h63:c.toNat=63):gl w v k i j=(gl w v k (i+1) (j+1)).map fun ps=>((w.take (i+1)).drop i)::ps:=by
 grind [iR,gl,aEA]
theorem bHT(hc:k[j]?=some c)(h:j+1 < k.length)(hx:v[i]?=some x)(h92:c.toNat=92)(hd:k[j+1]?=some d):gl w v k i j=if x=d then gl w v k (i+1) (j+2)else none:=by
 rw[aEA aI];unfold iR;simp only[hc,hx];rw[if_neg aI,if_neg aI,if_pos h92,hd]
 simp only[];split
 ·grind [gl,bB7]
 rfl
theorem aP1(hc:k[j]?=some c)(h:j < k.length)(hx:v[i]?=some x)(h42:¬c.toNat=42)(h63:¬c.toNat=63)(h92:¬(c.toNat=92∧j+1 < k.length)):gl w v k i j=if x=c then gl w v k (i+1) (j+1)else none:=by
 grind [iR,gl,aEA]
end Go.Mach
end
section
attribute [local irreducible] Go.SL.T Go.SL.OL Go.SL.D Go.SL.DL Go.SL.Ev Go.SL.Ef Go.SL.EfS
namespace Go.Proofs
open Go Go.SL Go.Syn Go.Mach
theorem aQD:KeyA Tryz.prog 428:=⟨⟨3,Tryz.underlying428,Tryz.underlying3,by kernel_rfl,by kernel_rfl,info_of_underlying Tryz.underlying3⟩⟩
def aIY(w v k:List UInt8)(es:List EntA):Prop:=∀e∈es,gl w v k e.1.1 e.1.2=none
abbrev GlR(w v k:List UInt8)(i j:Nat)(bp md:Nat)(ps:List (List UInt8))(es:List EntA)(K:Hl):Ending→Hl→List Asn→Prop:=Ret fun r K' L'=>K'=K∧r=.bool (gl w v k i j).isSome∧∃pv es' c',aIY w v k es'∧(∀e∈es',e∈es∨j≤e.1.2)∧L'=[pt bp (aZ [pv] 39),sl false (bN 9) pv (ps++(gl w v k i j).getD []),pt md (mapA es' c')]
structure GlK (w v k:List UInt8) (bd md bp bk bv bw bm:Nat) (K:Hl):Prop where
 hd:K bd=some (aZ [.map (some md)] 427)
 hk:K bk=some (aZ [str k] 9)
 hv:K bv=some (aZ [str v] 9)
 hw:K bw=some (aZ [str w] 9)
 hm:K bm=some (aZ [.func (.func 306) #[] #[ptr bd,ptr bp,ptr bk,ptr bv,ptr bw,ptr bm]] 169)
theorem bGR{w v k:List UInt8}{es:List EntA}{i j:Nat}(h:aIY w v k es)(hm:(i,j)∈es.map (fun x=>x.1)):gl w v k i j=none:=by
 obtain⟨e,he,e2⟩:=List.mem_map.1 hm;have:=h e he;rw[e2]at this;exact this
theorem bB3{α:Type}{f:Nat→Option α}{n e:Nat}(he:e≤n)(h:f e=none):m8 f (n+1 - e) e=m8 f (n+1 - (e+1)) (e+1):=by
 rw[show n+1 - e=(n+1 - (e+1))+1 from by omega];simp only[m8,h]
theorem aXB{α:Type}{f:Nat→Option α}{n e:Nat}{x:α}(he:e≤n)(h:f e=some x):m8 f (n+1 - e) e=some x:=by
 rw[show n+1 - e=(n+1 - (e+1))+1 from by omega];simp only[m8,h]
theorem aDL(j:Nat):((j:Int)+1)=((j+1:Nat):Int):=by omega
theorem bS8(j:Nat):((j:Int)+2)=((j+2:Nat):Int):=by omega
theorem bJ4{α:Type}{A B:Asn}{z:Bool}{k:El α}{v:Value}{xs:List α}{L:List Asn}{n:Nat}{h:Hl}(hs:Sat (A::B::sl z k v xs::L) h):(slTo v n).oneCell'=true:=by
 obtain⟨_,l,_,hl,_,_⟩:=hs;obtain⟨_,l2,_,hl2,_,_⟩:=hl;obtain⟨x,_,hx,_,_,_⟩:=hl2;rcases hx with ⟨rfl,_⟩|⟨b,cap,junk,fz,rfl,_⟩ <;> rfl
theorem aXD(w0 v k:List UInt8)(bd md bp bk bv bw bm:Nat)(hlw:w0.length=v.length)(hv:v.length≤1000000)(hk:k.length≤1000000):∀(n i j:Nat) (ps:List (List UInt8)) (es:List EntA) (c:Nat) (pv:Value) (K:Hl),k.length+1 - j≤n→GlK w0 v k bd md bp bk bv bw bm K→i≤v.length→j≤k.length→ps.length≤j→aIY w0 v k es→
    Sp Tryz.prog 306 [i64 i,i64 j,ptr bd,ptr bp,ptr bk,ptr bv,ptr bw,ptr bm] K [pt bp (aZ [pv] 39),sl false (bN 9) pv ps,pt md (mapA es c)] (GlR w0 v k i j bp md ps es K):=by
  intro n;induction n with
  |zero=>intro i j ps es c pv K h1 h2 h3 h4;omega
  |succ n ih=>
    intro i j ps es c pv K hn hK hi hj hps hes;obtain⟨kd,kk,kv,kw,km⟩:=hK;refine a8 Tryz.func306 rfl Tryz.ntmps306 rfl rfl fun F w=>?_;refine zz9 ?_;refine aA (bBW aQD bU5 rfl rfl) rfl ?_;refine zz1 ?_;rintro _ K _ ⟨b11,rfl,rfl,rfl⟩ -;refine cA (cK aRE rfl rfl rfl bF gAA (.cons (.cons .nil)) gAJ) ?_;rintro _ K _ ⟨rfl,rfl⟩ -;refine zz7 ?_;refine aA (aW0 Tryz.underlying427 aQD tv3 rfl rfl (by first|exact .own .here|exact .own (.there .here)|exact .own (.there (.there .here))|exact .own (.there (.there (.there .here)))|exact .own (.there (.there (.there (.there .here)))))) rfl ?_;refine zz12 ?_;refine bK 26 rfl (fun h26=>?_) (fun h26=>?_)
    · refine zz7 ?_;refine aU (.cons (.there .here) (.cons (.there .here) (.cons (.there .here) .nil))) ?_;refine zz1 ?_;have hgn:=bGR hes h26;exact⟨_,rfl,rfl,by rw[hgn];rfl,pv,es,c,hes,fun e h=>.inl h,by rw[hgn];simp⟩
    refine zz5 ?_;refine uAd ?_;refine zz8 ?_;refine bOL (fun(r:Option (List (List UInt8))) (pv2:Value) (cur:List (List UInt8)) (es2:List EntA) (c2:Nat)=>gl w0 v k i j=r∧(∀qs,r=some qs→cur=ps++qs)∧(r=none→cur.take ps.length=ps∧ps.length≤cur.length)∧aIY w0 v k es2∧(∀e∈es2,e∈es∨j+1≤e.1.2)) (fun r _ _ _ _=>[(2,ptr bd),(3,ptr bp),(11,ptr b11),(14,i64 ps.length),(15,.bool r.isSome)]) (fun _ _ _ _ _=>K) (fun r pv2 cur es2 c2=>[pt b11 (aZ [i64 i,i64 j] 428),pt bp (aZ [pv2] 39),sl false (bN 9) pv2 cur,pt md (mapA es2 c2)]) ?_ ?_
    · refine zz10 ?_;refine bK 44 rfl (fun h44=>?_) (fun h44=>?_)
      · refine zz8 ?_
        (have hge := bQ2 (w := w0) (v := v) (k := k) (i := i) (j := j) aI
         by_cases hiv:i=v.length
         · (rw[if_pos hiv]at hge;rw[show decide ((i:Int)=(v.length:Int))=true from decide_eq_true aI];exact oJ (some []) pv ps es c ⟨hge,(fun qs h=>by cases h;simp),(fun h=>by cases h),hes,(fun q hq=>.inl hq)⟩ (.cons 2 rfl (.cons 3 rfl (.cons 11 rfl (.cons 14 rfl (.cons 15 rfl .nil))))) rfl fM)
         (rw[if_neg hiv]at hge;rw[show decide ((i:Int)=(v.length:Int))=false from decide_eq_false aI];exact oJ none pv ps es c ⟨hge,(fun qs h=>by cases h),(fun _=>⟨List.take_length,Nat.le_refl _⟩),hes,(fun q hq=>.inl hq)⟩ (.cons 2 rfl (.cons 3 rfl (.cons 11 rfl (.cons 14 rfl (.cons 15 rfl .nil))))) rfl fM))
      have hjl:j < k.length:=by omega
      obtain⟨c1,hc⟩:∃c1,k[j]?=some c1:=⟨k[j]'hjl,List.getElem?_eq_getElem hjl⟩;refine zz9 ?_;refine bK 53 rfl (fun h53=>?_) (fun h53=>?_)
      · refine zz7 ?_;refine aQ9 (fun(e:Nat) (r2:Option (List (List UInt8))) (pv2:Value) (cur:List (List UInt8)) (es2:List EntA) (c2:Nat) (_:Unit)=>(i≤e∧e≤v.length+1)∧(r2=none→gl w0 v k i j=m8 (fun e=>(gl w0 v k e (j+1)).map fun qs=>((w0.take e).drop i)::qs) (v.length+1 - e) e)∧(∀qs,r2=some qs→gl w0 v k i j=some qs∧cur=ps++qs)∧(r2=none→cur.take ps.length=ps∧ps.length≤cur.length)∧aIY w0 v k es2∧(∀e∈es2,e∈es∨j+1≤e.1.2)) (fun e r2 _ _ _ _ _=>[(0,i64 i),(1,i64 j),(2,ptr bd),(3,ptr bp),(4,ptr bk),(5,ptr bv),(6,ptr bw),(7,ptr bm),(11,ptr b11),(14,i64 ps.length),(15,.bool r2.isSome),(16,i64 e)]) (fun _ _ _ _ _ _ _=>K) (fun _ _ pv2 cur es2 c2 _=>[pt b11 (aZ [i64 i,i64 j] 428),pt bp (aZ [pv2] 39),sl false (bN 9) pv2 cur,pt md (mapA es2 c2)]) (fun e _ _ _ _ _ _=>v.length+1 - e) i none pv ps es c () ⟨⟨Nat.le_refl _,by omega⟩,fun _=>bMT hc hjl aI,(fun qs h=>by cases h),(fun _=>⟨List.take_length,Nat.le_refl _⟩),hes,(fun q hq=>.inl hq)⟩ (.cons 0 rfl (.cons 1 rfl (.cons 2 rfl (.cons 3 rfl (.cons 4 rfl (.cons 5 rfl (.cons 6 rfl (.cons 7 rfl (.cons 11 rfl (.cons 14 rfl (.cons 15 rfl (.cons 16 rfl .nil)))))))))))) rfl (fun _ h=>h) ?_;intro e r2 pv2 cur es2 c2 _ ⟨hle,hln,hls,hlt,hld,hlw⟩;refine zz8 ?_;refine cH 63 rfl (fun g63=>?_) (fun g63=>?_)
        · refine zz3 ?_;refine aA gAF rfl ?_;refine zz3 ?_;refine eO 66 rfl (fun h66=>?_) (fun h66=>?_)
          · obtain rfl:r2=none:=(by cases r2 with|none=>rfl|some q=>simp at h66);obtain⟨hct,hcl⟩:=hlt rfl;refine zz5 ?_;refine dD (anc:=[0,0,3,0,0,0,56,120,255,511]) (ord:=[0,1,2,3,4,5,6,7,8,9]) [7,8,9] [8,9] mixed gAH (.cons (.there .here) (.cons (.there .here) .nil)) ?_;refine zz2 ?_;refine aK rfl rfl (.none rfl) rfl rfl (aCD (k:=bN 9) (m:=ps.length) cG rfl (.there .here) (.there .here) rfl rfl hcl) rfl ?_;refine zz3 ?_;refine aK rfl rfl (.none rfl) rfl rfl (nY (m:=i) (n:=e) Tryz.underlying9 rfl rfl rfl rfl rfl aI aI) rfl ?_;refine sY rfl rfl (.none rfl) rfl rfl (bH (z0:=[(str [])]) cG tz9 rfl rfl rfl rfl (.cons rfl rfl rfl (.cons .nil) .nil)) rfl ?_;rintro _ K _ ⟨b76,rfl,rfl,rfl⟩ -;refine⟨_,(show Tks _ _ _ from (.cons (.there .here) (.cons (.there .here) .nil))).sat,?_⟩
            refine aSJ rfl rfl (.none rfl) rfl (bMF (fun h hh=>fH (aQ2 (m:=ps.length) hcl) h ((show Tks [_] _ _ from .cons (.there .here) .nil).sat h hh)) (dN (k:=(bN 9)) (ys:=[((w0.take e).drop i)]) fS rfl rfl .here (fun w j=>dE Tryz.underlying39 (SeesSl.at (.blk (.own (.there (.there .here))) rfl rfl) j)) (by rw[hct];first|(simp;omega)|omega) (by rw[hct];first|(simp;omega)|omega))) rfl ?_;rintro v77 K _ ⟨rfl,rfl,ho77⟩ -;refine mS rfl rfl (.none rfl) rfl (bP iS rfl rfl cJ bF .zero rfl) ?_;rintro _ K _ ⟨rfl,rfl⟩ -;refine zz2 ?_;rw[hct];refine zz5 ?_;rw[aDL j];refine aX rfl rfl (ih e (j+1) (ps++[((w0.take e).drop i)]) es2 c2 _ _ aI ⟨kd,kk,kv,kw,km⟩ aI aI (by rw[List.length_append];simp only[List.length_singleton];omega) hld) (.cons (.there .here) (.cons .here (.cons (.there (.there .here)) .nil))) rfl ?_;rintro _ K _ ⟨rfl,rfl,pv3,es3,c3,hde3,hnew3,rfl⟩ -;refine zz9 ?_;refine aU (.cons (.there (.there (.there (.there .here)))) (.cons .here (.cons .here (.cons .here .nil)))) ?_;rcases hq:gl w0 v k e (j+1)with _|qs
            · (refine sX (e+1) none pv3 (ps++[((w0.take e).drop i)]++[]) es3 c3 () ⟨⟨by omega,by omega⟩,(fun _=>by rw[hln rfl,bB3 aI (by rw[hq];rfl)]),(fun qs h=>by cases h),(fun _=>⟨by simp,by simp⟩),hde3,(fun q hq2=>(hnew3 q hq2).elim (fun h=>hlw q h) (fun h=>.inr h))⟩ aI (.cons 0 rfl (.cons 1 rfl (.cons 2 rfl (.cons 3 rfl (.cons 4 rfl (.cons 5 rfl (.cons 6 rfl (.cons 7 rfl (.cons 11 rfl (.cons 14 rfl (.cons 15 rfl (.cons 16 rfl .nil)))))))))))) rfl fM)
            (refine sX (e+1) (some (((w0.take e).drop i)::qs)) pv3 (ps++[((w0.take e).drop i)]++qs) es3 c3 () ⟨⟨by omega,by omega⟩,(fun h=>by cases h),(fun qs2 h=>by cases h;exact⟨by rw[hln rfl,aXB aI (by rw[hq];rfl)],by simp⟩),(fun h=>by cases h),hde3,(fun q hq2=>(hnew3 q hq2).elim (fun h=>hlw q h) (fun h=>.inr h))⟩ aI (.cons 0 rfl (.cons 1 rfl (.cons 2 rfl (.cons 3 rfl (.cons 4 rfl (.cons 5 rfl (.cons 6 rfl (.cons 7 rfl (.cons 11 rfl (.cons 14 rfl (.cons 15 rfl (.cons 16 rfl .nil)))))))))))) rfl fM)
          refine zz5 ?_
          (exact oJ r2 pv2 cur es2 c2 ⟨gBJ,fun qs h=>(hls qs h).2,hlt,hld,hlw⟩ (.cons 2 rfl (.cons 3 rfl (.cons 11 rfl (.cons 14 rfl (.cons 15 rfl .nil))))) rfl fM)
        refine zz11 ?_
        (exact oJ r2 pv2 cur es2 c2 ⟨gBJ,fun qs h=>(hls qs h).2,hlt,hld,hlw⟩ (.cons 2 rfl (.cons 3 rfl (.cons 11 rfl (.cons 14 rfl (.cons 15 rfl .nil))))) rfl fM)
      refine zz9 ?_;refine bK 83 rfl (fun h83=>?_) (fun h83=>?_)
      · refine zz2 ?_
        (exact oJ none pv ps es c ⟨bMU hc hjl aI aI,(fun qs h=>by cases h),(fun _=>⟨List.take_length,Nat.le_refl _⟩),hes,(fun q hq=>.inl hq)⟩ (.cons 2 rfl (.cons 3 rfl (.cons 11 rfl (.cons 14 rfl (.cons 15 rfl .nil))))) rfl fM)
      obtain⟨x,hx⟩:∃x,v[i]?=some x:=⟨v[i]'(by omega),List.getElem?_eq_getElem aI⟩;refine zz9 ?_;refine bK 88 rfl (fun h88=>?_) (fun h88=>?_)
      · refine aH ?_;refine dD (anc:=[0,0,0,0,8,30,62,127,255]) (ord:=[0,1,2,3,4,5,6,7,8]) [6,7,8] [7,8] mixed gAH (.cons (.there .here) .nil) ?_;refine zz5 ?_;refine aK rfl rfl (.none rfl) rfl rfl (nY (m:=i) (n:=i+1) Tryz.underlying9 rfl rfl rfl rfl rfl aI aI) rfl ?_;refine sY rfl rfl (.none rfl) rfl rfl (bH (z0:=[(str [])]) cG tz9 rfl rfl rfl rfl (.cons rfl rfl rfl (.cons .nil) .nil)) rfl ?_;rintro _ K _ ⟨b99,rfl,rfl,rfl⟩ -;refine⟨_,(show Tks _ _ _ from (.cons (.there .here) .nil)).sat,?_⟩
        refine aSJ rfl rfl (.none rfl) rfl (dN (k:=(bN 9)) (ys:=[((w0.take (i+1)).drop i)]) fS rfl rfl (.there (.there (.there .here))) (fun w j=>dE Tryz.underlying39 (SeesSl.at (.blk (.own (.there .here)) rfl rfl) j)) gAE gAE) rfl ?_;rintro v100 K _ ⟨rfl,rfl,ho100⟩ -;refine mS rfl rfl (.none rfl) rfl (bP iS rfl rfl cJ bF .zero rfl) ?_;rintro _ K _ ⟨rfl,rfl⟩ -;refine zz8 ?_;rw[aDL j,aDL i];refine aX rfl rfl (ih (i+1) (j+1) (ps++[((w0.take (i+1)).drop i)]) es c _ _ aI ⟨kd,kk,kv,kw,km⟩ aI aI (by rw[List.length_append];simp only[List.length_singleton];omega) hes) (.cons (.there .here) (.cons .here (.cons (.there (.there .here)) .nil))) rfl ?_;rintro _ K _ ⟨rfl,rfl,pv3,es3,c3,hde3,hnew3,rfl⟩ -;refine zz3 ?_
        (have hge := bVO (w := w0) hc hjl hx aI
         refine aU (.cons (.there (.there (.there (.there .here)))) (.cons .here (.cons .here (.cons .here .nil)))) ?_;rcases hq:gl w0 v k (i+1) (j+1)with _|qs
         · (rw[hq]at hge;exact oJ none pv3 (ps++[((w0.take (i+1)).drop i)]++[]) es3 c3 ⟨hge,(fun qs h=>by cases h),(fun _=>⟨by simp,by simp⟩),hde3,(fun q hq2=>(hnew3 q hq2).elim (fun h=>.inl h) (fun h=>.inr h))⟩ (.cons 2 rfl (.cons 3 rfl (.cons 11 rfl (.cons 14 rfl (.cons 15 rfl .nil))))) rfl fM)
         (rw[hq]at hge;exact oJ (some (((w0.take (i+1)).drop i)::qs)) pv3 (ps++[((w0.take (i+1)).drop i)]++qs) es3 c3 ⟨hge,(fun qs2 h=>by cases h;simp),(fun h=>by cases h),hde3,(fun q hq2=>(hnew3 q hq2).elim (fun h=>.inl h) (fun h=>.inr h))⟩ (.cons 2 rfl (.cons 3 rfl (.cons 11 rfl (.cons 14 rfl (.cons 15 rfl .nil))))) rfl fM))
      refine zz7 ?_;refine cH 112 rfl (fun g112=>?_) (fun g112=>?_)
      · refine zz14 ?_;refine bK 107 rfl (fun h107=>?_) (fun h107=>?_)
        · obtain⟨d,hd⟩:∃d,k[j+1]?=some d:=⟨k[j+1]'(by omega),List.getElem?_eq_getElem aI⟩;refine dD (anc:=[0,0,3,0,0,16,56,127,255,511,511,1535,511,4607,16383,32767,65535]) (ord:=[0,1,2,3,4,5,6,7,8,9,10,11,12,13,14,15,16]) [14] [14] mixed gAH (dI _) ?_;refine zz6 ?_;refine aK rfl rfl (.none rfl) rfl rfl (cZ Tryz.underlying9 rfl (j:=j+1) rfl (aDL j) hd) rfl ?_;refine zz2 ?_;refine jD 127 rfl (fun g127=>?_) (fun g127=>?_)
          · refine zz5 ?_;rw[bS8 j,aDL i];refine iJ rfl (.on rfl rfl rfl) rfl rfl rfl (ih (i+1) (j+2) ps es c _ _ aI ⟨kd,kk,kv,kw,km⟩ aI aI aI hes) (.cons (.there .here) (.cons (.there .here) (.cons (.there .here) .nil))) rfl ?_;rintro _ K _ ⟨rfl,rfl,pv3,es3,c3,hde3,hnew3,rfl⟩ -;refine zz4 ?_
            (have hxd : x = d := UInt8.toNat_inj.1 aI
             have hge:=bHT (w:=w0) hc aI hx aI hd;rw[if_pos hxd]at hge;refine uBh ?_;rcases hq:gl w0 v k (i+1) (j+2)with _|qs
             · (rw[hq]at hge;exact oJ none pv3 (ps++[]) es3 c3 ⟨hge,(fun qs h=>by cases h),(fun _=>⟨by simp,by simp⟩),hde3,(fun q hq2=>(hnew3 q hq2).elim (fun h=>.inl h) (fun h=>.inr aI))⟩ (.cons 2 rfl (.cons 3 rfl (.cons 11 rfl (.cons 14 rfl (.cons 15 rfl .nil))))) rfl fM)
             (rw[hq]at hge;exact oJ (some qs) pv3 (ps++qs) es3 c3 ⟨hge,(fun qs2 h=>by cases h;simp),(fun h=>by cases h),hde3,(fun q hq2=>(hnew3 q hq2).elim (fun h=>.inl h) (fun h=>.inr aI))⟩ (.cons 2 rfl (.cons 3 rfl (.cons 11 rfl (.cons 14 rfl (.cons 15 rfl .nil))))) rfl fM))
          refine zz10 ?_
          (have hxd : ¬ x = d := (fun h => by subst h; omega)
           have hge:=bHT (w:=w0) hc aI hx aI hd;rw[if_neg hxd]at hge;exact oJ none pv ps es c ⟨hge,(fun qs h=>by cases h),(fun _=>⟨List.take_length,Nat.le_refl _⟩),hes,(fun q hq=>.inl hq)⟩ (.cons 2 rfl (.cons 3 rfl (.cons 11 rfl (.cons 14 rfl (.cons 15 rfl .nil))))) rfl fM)
        refine dD (anc:=[0,0,3,0,0,24,63,127,255,255,767,255,2303,8191,16383,32767]) (ord:=[0,1,2,3,4,5,6,7,8,9,10,11,12,13,14,15]) [13] [13] mixed gAH (dI _) ?_;refine zz8 ?_;refine jD 36 rfl (fun g36=>?_) (fun g36=>?_)
        · refine zz5 ?_;rw[aDL j,aDL i];refine iJ rfl (.on rfl rfl rfl) rfl rfl rfl (ih (i+1) (j+1) ps es c _ _ aI ⟨kd,kk,kv,kw,km⟩ aI aI aI hes) (.cons (.there .here) (.cons (.there .here) (.cons (.there .here) .nil))) rfl ?_;rintro _ K _ ⟨rfl,rfl,pv3,es3,c3,hde3,hnew3,rfl⟩ -;refine zz4 ?_
          (have hxd : x = c1 := UInt8.toNat_inj.1 aI
           have hge:=aP1 (w:=w0) hc hjl hx aI aI aI;rw[if_pos hxd]at hge;refine uBh ?_;rcases hq:gl w0 v k (i+1) (j+1)with _|qs
           · (rw[hq]at hge;exact oJ none pv3 (ps++[]) es3 c3 ⟨hge,(fun qs h=>by cases h),(fun _=>⟨by simp,by simp⟩),hde3,(fun q hq2=>(hnew3 q hq2).elim (fun h=>.inl h) (fun h=>.inr h))⟩ (.cons 2 rfl (.cons 3 rfl (.cons 11 rfl (.cons 14 rfl (.cons 15 rfl .nil))))) rfl fM)
           (rw[hq]at hge;exact oJ (some qs) pv3 (ps++qs) es3 c3 ⟨hge,(fun qs2 h=>by cases h;simp),(fun h=>by cases h),hde3,(fun q hq2=>(hnew3 q hq2).elim (fun h=>.inl h) (fun h=>.inr h))⟩ (.cons 2 rfl (.cons 3 rfl (.cons 11 rfl (.cons 14 rfl (.cons 15 rfl .nil))))) rfl fM))
        refine zz10 ?_
        (have hxd : ¬ x = c1 := (fun h => by subst h; omega)
         have hge:=aP1 (w:=w0) hc hjl hx aI aI aI;rw[if_neg hxd]at hge;exact oJ none pv ps es c ⟨hge,(fun qs h=>by cases h),(fun _=>⟨List.take_length,Nat.le_refl _⟩),hes,(fun q hq=>.inl hq)⟩ (.cons 2 rfl (.cons 3 rfl (.cons 11 rfl (.cons 14 rfl (.cons 15 rfl .nil))))) rfl fM)
      refine zz10 ?_;refine dD (anc:=[0,0,3,0,0,24,63,127,255,255,767,255,2303,8191,16383,32767]) (ord:=[0,1,2,3,4,5,6,7,8,9,10,11,12,13,14,15]) [13] [13] mixed gAH (dI _) ?_;refine zz8 ?_;refine jD 36 rfl (fun g36=>?_) (fun g36=>?_)
      · refine zz5 ?_;rw[aDL j,aDL i];refine iJ rfl (.on rfl rfl rfl) rfl rfl rfl (ih (i+1) (j+1) ps es c _ _ aI ⟨kd,kk,kv,kw,km⟩ aI aI aI hes) (.cons (.there .here) (.cons (.there .here) (.cons (.there .here) .nil))) rfl ?_;rintro _ K _ ⟨rfl,rfl,pv3,es3,c3,hde3,hnew3,rfl⟩ -;refine zz4 ?_
        (have hxd : x = c1 := UInt8.toNat_inj.1 aI
         have hge:=aP1 (w:=w0) hc hjl hx aI aI aI;rw[if_pos hxd]at hge;refine uBh ?_;rcases hq:gl w0 v k (i+1) (j+1)with _|qs
         · (rw[hq]at hge;exact oJ none pv3 (ps++[]) es3 c3 ⟨hge,(fun qs h=>by cases h),(fun _=>⟨by simp,by simp⟩),hde3,(fun q hq2=>(hnew3 q hq2).elim (fun h=>.inl h) (fun h=>.inr h))⟩ (.cons 2 rfl (.cons 3 rfl (.cons 11 rfl (.cons 14 rfl (.cons 15 rfl .nil))))) rfl fM)
         (rw[hq]at hge;exact oJ (some qs) pv3 (ps++qs) es3 c3 ⟨hge,(fun qs2 h=>by cases h;simp),(fun h=>by cases h),hde3,(fun q hq2=>(hnew3 q hq2).elim (fun h=>.inl h) (fun h=>.inr h))⟩ (.cons 2 rfl (.cons 3 rfl (.cons 11 rfl (.cons 14 rfl (.cons 15 rfl .nil))))) rfl fM))
      refine zz10 ?_
      (have hxd : ¬ x = c1 := (fun h => by subst h; omega)
       have hge:=aP1 (w:=w0) hc hjl hx aI aI aI;rw[if_neg hxd]at hge;exact oJ none pv ps es c ⟨hge,(fun qs h=>by cases h),(fun _=>⟨List.take_length,Nat.le_refl _⟩),hes,(fun q hq=>.inl hq)⟩ (.cons 2 rfl (.cons 3 rfl (.cons 11 rfl (.cons 14 rfl (.cons 15 rfl .nil))))) rfl fM)
    intro r pv2 cur es2 c2 ⟨hgr,hsm,hno,hde,hnw⟩;refine zz4 ?_;refine aA gAF rfl ?_;refine zz2 ?_;refine eO 136 rfl (fun h136=>?_) (fun h136=>?_)
    · obtain rfl:r=none:=(by cases r with|none=>rfl|some q=>simp at h136);obtain⟨hct,hcl⟩:=hno rfl;have hnm:(i,j)∉es2.map (fun x=>x.1):=(by intro hm;obtain⟨e,he,e2⟩:=List.mem_map.1 hm;rcases hnw e he with h|h;exact h26 (List.mem_map.2 ⟨e,h,e2⟩);(rw[e2]at h;simp at h;omega));refine aH ?_;refine aLQ (fun h hs=>bJ4 (n:=ps.length) hs) fun hone=>?_;refine zz3 ?_;refine aA (aCD (k:=bN 9) (m:=ps.length) cG rfl (.there (.there .here)) (.there (.there .here)) rfl rfl hcl) rfl ?_;refine cA (bP iS rfl rfl cJ bF .zero rfl) ?_;rintro _ K _ ⟨rfl,rfl⟩ -;refine zz5 ?_;refine cA (bR2 Tryz.underlying427 aQD rfl rfl rfl hnm (by first|exact .here|exact .there .here|exact .there (.there .here)|exact .there (.there (.there .here)))) ?_;rintro _ K _ ⟨rfl,rfl⟩ -;refine zz9 ?_
      (refine aU (.cons (.there (.there .here)) (.cons (.there .here) (.cons (.there .here) .nil))) ?_;refine fK (fH (aQ2 (m:=ps.length) hcl)) ?_;rw[hct];refine aU (.cons (.there .here) (.cons .here (.cons .here .nil))) ?_)
      refine zz1 ?_;exact⟨_,rfl,rfl,by simp[hgr],slTo pv2 ps.length,es2++[((i,j),c2)],c2+1,(fun e he=>by rcases List.mem_append.1 he with h|h;exact hde e h;(simp at h;subst h;exact hgr)),(fun e he=>by rcases List.mem_append.1 he with h|h;exact(hnw e h).imp_right (fun h=>by omega);(simp at h;subst h;exact .inr (Nat.le_refl _))),by simp[hgr]⟩
    obtain⟨qs,rfl⟩:∃qs,r=some qs:=(by cases r with|none=>simp at h136|some q=>exact⟨q,rfl⟩);obtain rfl:=hsm qs rfl;refine zz9 ?_
    (refine aU (.cons (.there .here) (.cons (.there .here) (.cons (.there .here) .nil))) ?_)
    refine zz1 ?_;exact⟨_,rfl,rfl,by simp[hgr],pv2,es2,c2,hde,(fun e he=>(hnw e he).imp_right (fun h=>by omega)),by simp[hgr]⟩
theorem aA4(oct:Bool)(s:List UInt8):(j4 oct s).length=s.length:=by unfold j4;split <;> simp[dG]
theorem bMV(w k:List UInt8)(oct:Bool):glob w k oct=gl w (j4 oct w) (j4 oct k) 0 0:=by
 unfold glob gl;rw[aA4];rfl
theorem bB8(w0 k0:List UInt8)(oct:Bool)(K:Hl)(hw:w0.length≤1000000)(hk:k0.length≤1000000):
  Sp Tryz.prog 253 [str w0,str k0,.func (.func (aJZ oct)) #[] #[]] K [] (Ret fun v K' L'=>∃pv,v=.tuple #[pv,.bool (glob w0 k0 oct).isSome]∧L'=[sl false (bN 9) pv ((glob w0 k0 oct).getD [])]):=by
 refine a8 Tryz.func253 rfl Tryz.ntmps253 rfl rfl fun F w=>?_;refine zz3 ?_;rintro _ K _ ⟨b3,rfl,rfl,rfl⟩ -;refine zz8 ?_;refine cF rfl rfl (qM oct w0 _ aI) rfl ?_;refine zz2 ?_;refine cF rfl rfl (qM oct k0 _ aI) rfl ?_;refine zz1 ?_;rintro _ K _ ⟨b8,rfl,rfl,rfl⟩ -;refine zz1 ?_;rintro _ K _ ⟨b9,rfl,rfl,rfl⟩ -;refine uAy ?_;rintro _ K _ ⟨rfl,rfl⟩ -;refine uAy ?_;rintro _ K _ ⟨rfl,rfl⟩ -;refine zz4 ?_;refine cC qT rfl ?_;rintro _ K _ ⟨b20,rfl,rfl,rfl⟩ -;refine zz1 ?_;rintro _ K _ ⟨b10,rfl,rfl,rfl⟩ -;refine cA (bP bK8 rfl rfl cJ bF .zero rfl) ?_;rintro _ K _ ⟨rfl,rfl⟩ -;refine zz5 ?_;rintro _ K _ ⟨b11,rfl,rfl,rfl⟩ -;refine zz5 ?_;rintro _ K _ ⟨b12,rfl,rfl,rfl⟩ -;refine zz5 ?_;refine cA (bP aL1 rfl rfl cJ bF .zero rfl) ?_;rintro _ K _ ⟨rfl,rfl⟩ -;refine zz3 ?_;refine l8 fun K1 le1 h1=>?_;refine aB5 (.cons (.there .here) .nil) ?_;refine l8 fun K2 le2 h2=>?_;refine aB5 (.cons (.there (.there .here)) .nil) ?_;refine l8 fun K3 le3 h3=>?_;refine aB5 (.cons (.there (.there .here)) .nil) ?_;refine l8 fun K4 le4 h4=>?_;refine aB5 (.cons (.there (.there .here)) .nil) ?_;refine l8 fun K5 le5 h5=>?_;have l45:=le5;have l35:=Hl.le_trans le4 l45;have l25:=Hl.le_trans le3 l35;have l15:=Hl.le_trans le2 l25;have h1:=l15 _ _ h1;have h2:=l25 _ _ h2;have h3:=l35 _ _ h3;have h4:=l45 _ _ h4;refine kF (eF (bN 9)) ?_;refine uBr ?_;refine aC ?_;refine aA (aL aL1 rfl (.known h1) rfl) rfl ?_;refine aX rfl rfl (aXD w0 (j4 oct w0) (j4 oct k0) b10 b20 b11 b9 b8 b3 b12 (aA4 oct w0).symm (by rw[aA4];exact hw) (by rw[aA4];exact hk) _ 0 0 [] [] 0 _ _ (Nat.le_refl _) ⟨h2,h3,h4,h5,h1⟩ (Nat.zero_le _) (Nat.zero_le _) (Nat.zero_le _) (fun e h=>by cases h)) (.cons .here (.cons .here (.cons .here .nil))) rfl ?_;rintro _ K _ ⟨rfl,rfl,pv,es,c,hde,hnew,rfl⟩ -;refine zz12 ?_;refine uAv ?_;refine fA rfl rfl rfl (Hl.le_trans le1 l15) ?_;rw[bMV];exact⟨_,rfl,pv,rfl,rfl⟩
theorem bD4{α:Type}{k:El α}{b:Nat}{xs:List α}{n:Nat}{M:List Asn}(hn:n=xs.length):∀h,Sat (pt b (aZ (k.cs xs) k.e)::M) h→Sat (sl false k (.slice (some ⟨b,0,none⟩) n n) xs::M) h:=by
 subst hn;rintro h ⟨a,l,ha,hl,hd,rfl⟩;refine⟨a,l,.inr ⟨b,xs.length,[],(0,0),rfl,(fun h=>by cases h),Nat.le_refl _,by simp,.inl (Nat.le_refl _),?_⟩,hl,hd,rfl⟩
 rw[List.append_nil];exact ha
def tH(o:Ins)(x:aJ)(ks:List aJ):Option (List aJ):=s9 (fun k=>(kL o x k).map fun ps=>x::ps) ks
theorem aNP{o:Ins}{vs ks:List aJ}{i:Nat}{x:aJ}(hx:vs[i]?=some x):iZ o (vs.drop i) ks=(match tH o x ks with|some z=>some z|none=>iZ o (vs.drop (i+1)) ks):=by
 rw[kK hx];unfold iZ tH;rw[s9]
 cases s9 (fun k=>(kL o x k).map fun ps=>x::ps) ks <;> rfl
theorem bCG{o:Ins}{x y:aJ}{ks ps:List aJ}{j:Nat}(hy:ks[j]?=some y)(h:kL o x y=some ps):tH o x (ks.drop j)=some (x::ps):=by
 rw[kK hy];unfold tH;rw[s9,h];rfl
theorem bH5{o:Ins}{x y:aJ}{ks:List aJ}{j:Nat}(hy:ks[j]?=some y)(h:kL o x y=none):tH o x (ks.drop j)=tH o x (ks.drop (j+1)):=by
 rw[kK hy];unfold tH;rw[s9,h];rfl
theorem bCF{o:Ins}{x:aJ}{ks:List aJ}{j:Nat}(h:ks.length≤j):tH o x (ks.drop j)=none:=by rw[List.drop_of_length_le h];rfl
theorem bII{o:Ins}{vs ks:List aJ}{j:Nat}(h:vs.length≤j):iZ o (vs.drop j) ks=none:=by rw[List.drop_of_length_le h];rfl
theorem bVI{o:Ins}{x y:aJ}(h:o.tag=1):kL o x y=if decide (j4 o.oct x=j4 o.oct y)=true then some []else none:=by unfold kL;rw[if_pos h];simp
theorem bS0{o:Ins}{x y:aJ}(h:o.tag=2):kL o x y=if decide (0≤Lib.index (j4 o.oct x) (j4 o.oct y))=true then some []else none:=by unfold kL;rw[if_neg aI,if_pos h];simp
theorem aRP{o:Ins}{x y:aJ}(h:o.tag=3):kL o x y=glob x y o.oct:=by unfold kL;rw[if_neg aI,if_neg aI]
theorem aF3{nm:Bool}{m:Msg}{o:Ins}{s:MS}(h:¬(1≤o.tag∧o.tag≤3∧s.stack.length < 8)):matchI nm m o s=.error (12,s.pc):=by unfold matchI;rw[if_neg h];rfl
theorem aTN{nm:Bool}{m:Msg}{o:Ins}{s:MS}(h:1≤o.tag∧o.tag≤3∧s.stack.length < 8)(hm:iZ o (gW (dM nm s.vars s.parts) m o) (o.b.map (dM nm s.vars s.parts))=none):matchI nm m o s=push s false:=by unfold matchI;rw[if_pos h];simp only[hm]
theorem aTO{nm:Bool}{m:Msg}{o:Ins}{s:MS}{ps:List aJ}(h:1≤o.tag∧o.tag≤3∧s.stack.length < 8)(hm:iZ o (gW (dM nm s.vars s.parts) m o) (o.b.map (dM nm s.vars s.parts))=some ps):matchI nm m o s=push (if o.tag=3∧nm=true then {s with parts:=ps}else s) true:=by unfold matchI;rw[if_pos h];simp only[hm]
def MMI(nm:Bool)(o:Ins)(x y:aJ)(s:MS)(pv:Value)(ok:Bool)(pv':Value)(s':MS):Prop:=
 (ok=true∧∃ps,kL o x y=some ps∧s'=(if o.tag=3∧nm=true then {s with parts:=x::ps}else s))∨(ok=false∧kL o x y=none∧s=s'∧pv=pv')
theorem bRA{nm:Bool}{o:Ins}{x y:aJ}{s:MS}{pv:Value}(h:o.tag=1):MMI nm o x y s pv (decide (j4 o.oct x=j4 o.oct y)) pv s:=by
 unfold MMI;rw[bVI h]
 by_cases hd:j4 o.oct x=j4 o.oct y
 ·exact .inl ⟨by simp[hd],[],by simp[hd],by rw[if_neg aI]⟩
 exact .inr ⟨by simp[hd],by simp[hd],rfl,rfl⟩
theorem bNC{nm:Bool}{o:Ins}{x y:aJ}{s:MS}{pv:Value}(h:o.tag=2):MMI nm o x y s pv (decide (0≤Lib.index (j4 o.oct x) (j4 o.oct y))) pv s:=by
 unfold MMI;rw[bS0 h]
 by_cases hd:0≤Lib.index (j4 o.oct x) (j4 o.oct y)
 ·exact .inl ⟨by simp[hd],[],by simp[hd],by rw[if_neg aI]⟩
 exact .inr ⟨by simp[hd],by simp[hd],rfl,rfl⟩
theorem bIO{nm:Bool}{o:Ins}{x y:aJ}{s:MS}{pv:Value}(h:o.tag=3)(hg:(glob x y o.oct).isSome=false):MMI nm o x y s pv (glob x y o.oct).isSome pv s:=by
 unfold MMI;rw[aRP h];exact .inr ⟨hg,by simpa using hg,rfl,rfl⟩
theorem bIP{o:Ins}{x y:aJ}{s:MS}{pv:Value}(h:o.tag=3):MMI false o x y s pv (glob x y o.oct).isSome pv s:=by
 unfold MMI;rw[aRP h];cases hg:glob x y o.oct with
 |none=>exact .inr ⟨rfl,rfl,rfl,rfl⟩
 |some ps=>exact .inl ⟨rfl,ps,rfl,by simp⟩
theorem bND{o:Ins}{x y:aJ}{s:MS}{pv pv':Value}(h:o.tag=3)(hg:(glob x y o.oct).isSome=true):MMI true o x y s pv (glob x y o.oct).isSome pv' {s with parts:=x::(glob x y o.oct).getD []}:=by
 unfold MMI;rw[aRP h];cases hg':glob x y o.oct with
 |none=>rw[hg']at hg;cases hg
 |some ps=>exact .inl ⟨rfl,ps,rfl,by rw[if_pos ⟨h,rfl⟩];rfl⟩
theorem bB6(w v k:aJ):∀f i j ps,iR w v k f i j=some ps→ps.length≤f:=by
 intro f;induction f with
 |zero=>intro i j ps h;cases h
 |succ f ih=>
  intro i j ps h;unfold iR at h;split at h
  ·split at h
   ·cases h;simp
   cases h
  split at h
  ·have key:∀n e,m8 (fun e=>(iR w v k f e (j+1)).map fun ps=>((w.take e).drop i)::ps) n e=some ps→ps.length≤f+1:=by
    intro n;induction n with
    |zero=>intro e h;cases h
    |succ n ihn=>
     intro e h;unfold m8 at h;split at h
     ·rename_i x hx;cases h
      cases hy:iR w v k f e (j+1)with
      |none=>rw[hy]at hx;cases hx
      |some q=>rw[hy]at hx;cases hx;have:=ih _ _ _ hy;simpa using this
     exact ihn _ h
   exact key _ _ h
  split at h
  ·cases h
  split at h
  ·cases hy:iR w v k f (i+1) (j+1)with
   |none=>rw[hy]at h;cases h
   |some q=>rw[hy]at h;cases h;have:=ih _ _ _ hy;simpa using this
  split at h
  ·split at h
   ·have:=ih _ _ _ h;omega
   cases h
  split at h
  ·have:=ih _ _ _ h;omega
  cases h
theorem bHV(x y:aJ)(oct:Bool):((glob x y oct).getD []).length≤y.length+1:=by
 cases h:glob x y oct with
 |none=>simp
 |some ps=>exact bB6 _ _ _ _ _ _ _ h
theorem aTP(b mb:Nat)(m:Msg)(hv pv:Value)(nm:Bool)(s:MS)(o:Ins)(av0 bv:Value)(n:Int)(K0:Hl)(hg:Glob K0)(hpv:Ksl (bN 9) K0 pv s.parts)(ha:Ksl (bN 9) K0 av0 o.a)(hb:Ksl (bN 9) K0 bv o.b)(hh:Ksl hdEl K0 hv m.hs)(hln:m.hs.length≤1000000)(hhs:∀h∈m.hs,h.1.length≤1000000)(hl:o.a.length≤1000000)(hs:∀x∈o.a,x.length≤100000)(hlb:o.b.length≤1000000)(hsb:∀x∈o.b,x.length≤100000)(hsm:vA s.vars s.parts)
  (hvl:∀x∈gW (dM nm s.vars s.parts) m o,x.length≤1000000):
  Sp Tryz.prog 149 [ptr b,qN o av0 bv,i64 n] K0 [mch b mb m hv pv nm s] (MI b mb m hv nm (matchI nm m o s)):=by
 have hkl:∀x∈o.b.map (dM nm s.vars s.parts),x.length≤100000:=(by intro x hx;obtain⟨y,hy,rfl⟩:=List.mem_map.1 hx;exact o0 (hsb y hy));have hkn:(o.b.map (dM nm s.vars s.parts)).length≤1000000:=(by simpa using hlb);have hvn:(gW (dM nm s.vars s.parts) m o).length≤1000000*1000000:=by
  unfold gW;split
  ·simp;omega
  split
  ·exact Nat.le_trans (zE (n:=1000000) (fun x=>Nat.le_trans (aCE m _) hln) _) (Nat.mul_le_mul_right _ (by simpa using hl))
  split
  ·exact Nat.le_trans (zE (n:=1) (aZM m) _) aI
  simp
 have hm0:∀r,iZ o (gW (dM nm s.vars s.parts) m o) (o.b.map (dM nm s.vars s.parts))=r→iZ o ((gW (dM nm s.vars s.parts) m o).drop 0) (o.b.map (dM nm s.vars s.parts))=r:=fun r h=>h
 have hall:=fun(K:Hl) (hg:Glob K) (hpv:Ksl (bN 9) K pv s.parts) (hb:Ksl (bN 9) K bv o.b)=>aAP b mb m hv pv nm s bv o.b K hg hpv hb hlb hsb hsm
 have hval:=fun(K:Hl) (hg:Glob K) (hpv:Ksl (bN 9) K pv s.parts) (ha:Ksl (bN 9) K av0 o.a) (hb:Ksl (bN 9) K bv o.b) (hh:Ksl hdEl K hv m.hs)=>aV1 b mb m hv pv nm s o av0 bv K hg hpv ha hb hh hln hhs hl hs hsm
 have hnone:=aTN (nm:=nm) (m:=m) (o:=o) (s:=s);have hsome:=fun ps=>aTO (nm:=nm) (m:=m) (o:=o) (s:=s) (ps:=ps)
 generalize hvse:gW (dM nm s.vars s.parts) m o=vs at*
 generalize hkse:o.b.map (dM nm s.vars s.parts)=ks at*
 clear hm0;obtain⟨sa,sn,sc,rfl⟩:=ha.isSlice;obtain⟨ta,tn,tc,rfl⟩:=hb.isSlice;refine a8 Tryz.func149 rfl Tryz.ntmps149 rfl rfl fun F w=>?_;refine yG fun av sv f c=>?_;refine zz3 ?_;rintro _ K _ ⟨b4,rfl,rfl,rfl⟩ -;refine zz9 ?_;refine cH 18 rfl (fun g18=>?_) (fun g18=>?_)
 ·refine zz8 ?_;refine cH 23 rfl (fun g23=>?_) (fun g23=>?_)
  ·refine zz9 ?_;refine aA (bO rfl Tryz.underlying176 rfl aM) rfl ?_;refine zz3 ?_;refine bL rfl rfl (tR ((s.stack.length:Int) < 8) _ _ _ _ _ _ _ _ _ _ _ _ _) (.cons (.there .here) .nil) rfl (fun _ _=>bQ _ _) ?_ ?_
   ·rintro _ _ _ hTr le1;obtain⟨e,p,hu,fb,h,rfl⟩:=bR hTr;cases h
    refine uAa ?_;refine zz2 ?_;have hbl:¬((s.stack.length:Int) < 8):=gAW;rw[if_neg hbl]at hu;cases hu
    have hno:=aF3 (nm:=nm) (m:=m) (s:=s) (o:=o) aI;unfold MI;rw[hno];exact⟨fb,rfl,rfl⟩
   rintro _ K _ hTr -;obtain⟨u0,hu,rfl,rfl,rfl⟩:=bS hTr;clear hTr;have hbl:(s.stack.length:Int) < 8:=Classical.byContradiction (fun h=>by rw[if_neg h]at hu;cases hu);have hcc:1≤o.tag∧o.tag≤3∧s.stack.length < 8:=⟨by omega,by omega,by omega⟩;refine bI0 (As:=[_,_,_,_]) (.cons .here (.cons (.there .here) (.cons (.there .here) (.cons (.there .here) .nil)))) ?_;refine kB (j5 (m:=m) (hv:=hv) (pv:=pv) (nm:=nm) (s:=s)) ?_;refine zz6 ?_;refine cF rfl rfl (aP0 o.oct _) rfl ?_;refine zz8 ?_;refine aX rfl rfl (hall _ hg hpv hb) (.cons .here .nil) rfl ?_;rintro kv K _ ⟨rfl,rfl⟩ -;refine zz8 ?_;refine aX rfl rfl (hval _ hg hpv ha hb hh) (.cons (.there .here) .nil) rfl ?_;rintro vv K1 _ rfl le1;refine uAd ?_;refine zz4 ?_;refine eJ (fun(q:MZ)=>q.i≤vs.length∧K.le q.K∧iZ o (vs.drop q.i) ks=iZ o vs ks) (fun q=>[(0,ptr b),(4,ptr b4),(6,.func (.func (aJZ o.oct)) #[] #[]),(7,kv),(41,vv),(42,i64 vs.length),(43,i64 q.i)]) (fun q=>q.K) (fun _=>[sl false (bN 9) vv vs,mch b mb m hv pv nm s,sl false (bN 9) kv ks,pt b4 (aZ [i64 o.op,i64 o.n,i64 o.tag,.bool o.oct,.slice sa sn sc,.slice ta tn tc,i64 o.at_] 41)]) (fun q=>vs.length - q.i) ⟨0,K1⟩ ⟨Nat.zero_le _,le1,by rw[List.drop_zero]⟩ (.cons 0 rfl (.cons 4 rfl (.cons 6 rfl (.cons 7 rfl (.cons 41 rfl (.cons 42 rfl (.cons 43 rfl .nil))))))) rfl (fun _ h=>h) ?_;intro ⟨i,K2⟩ ⟨hi0,hle2,hmall⟩;dsimp only at hi0 hle2 hmall ⊢;refine zz6 ?_;refine bK 44 rfl (fun h44=>?_) (fun h44=>?_)
   ·have hilt:i < vs.length:=by omega
    obtain⟨x,hx⟩:∃x,vs[i]?=some x:=⟨vs[i]'hilt,List.getElem?_eq_getElem hilt⟩;have hxl:=hvl x (List.mem_of_getElem? hx);refine zz6 ?_;refine aA (bE (k:=(bN 9)) cG rfl aM rfl rfl gAD) rfl ?_;refine uAg ?_;refine zz6 ?_;refine uAd ?_;refine zz4 ?_;refine eJ (fun(q:MZ)=>q.i≤ks.length∧K.le q.K∧tH o x (ks.drop q.i)=tH o x ks) (fun q=>[(0,ptr b),(4,ptr b4),(6,.func (.func (aJZ o.oct)) #[] #[]),(7,kv),(9,str x),(41,vv),(42,i64 vs.length),(43,i64 i),(47,kv),(48,i64 ks.length),(49,i64 q.i)]) (fun q=>q.K) (fun _=>[sl false (bN 9) vv vs,mch b mb m hv pv nm s,sl false (bN 9) kv ks,pt b4 (aZ [i64 o.op,i64 o.n,i64 o.tag,.bool o.oct,.slice sa sn sc,.slice ta tn tc,i64 o.at_] 41)]) (fun q=>ks.length - q.i) ⟨0,K2⟩ ⟨Nat.zero_le _,hle2,by rw[List.drop_zero]⟩ (.cons 0 rfl (.cons 4 rfl (.cons 6 rfl (.cons 7 rfl (.cons 9 rfl (.cons 41 rfl (.cons 42 rfl (.cons 43 rfl (.cons 47 rfl (.cons 48 rfl (.cons 49 rfl .nil))))))))))) rfl (fun _ h=>h) ?_;intro ⟨j,K3⟩ ⟨hj0,hle3,hin⟩;dsimp only at hj0 hle3 hin ⊢;refine zz6 ?_;refine bK 50 rfl (fun h50=>?_) (fun h50=>?_)
    ·have hjlt:j < ks.length:=by omega
     obtain⟨y,hy⟩:∃y,ks[j]?=some y:=⟨ks[j]'hjlt,List.getElem?_eq_getElem hjlt⟩;have hyl:=hkl y (List.mem_of_getElem? hy);refine zz6 ?_;refine aA (bE (k:=(bN 9)) cG rfl aM rfl rfl gAD) rfl ?_;refine uAg ?_;refine zz8 ?_;refine gV (fun(q:MM)=>K.le q.K∧MMI nm o x y s pv q.ok q.pv q.s∧Ksl (bN 9) q.K q.pv q.s.parts) (fun q=>[(0,ptr b),(4,ptr b4),(6,.func (.func (aJZ o.oct)) #[] #[]),(7,kv),(9,str x),(12,.bool q.ok),(41,vv),(42,i64 vs.length),(43,i64 i),(47,kv),(48,i64 ks.length),(49,i64 j)]) (fun q=>q.K) (fun q=>[mch b mb m hv q.pv nm q.s,sl false (bN 9) vv vs,sl false (bN 9) kv ks,pt b4 (aZ [i64 o.op,i64 o.n,i64 o.tag,.bool o.oct,.slice sa sn sc,.slice ta tn tc,i64 o.at_] 41)]) ?_ ?_
     ·refine zz13 ?_;refine bK 55 rfl (fun h55=>?_) (fun h55=>?_)
      ·refine zz3 ?_;refine cF rfl rfl (qM o.oct x _ aI) rfl ?_;refine zz2 ?_;refine cF rfl rfl (qM o.oct y _ aI) rfl ?_;refine zz4 ?_
       (refine aU (.cons (.there .here) (.cons .here (.cons .here (.cons .here .nil)))) ?_;exact cN ⟨decide (j4 o.oct x=j4 o.oct y),K3,pv,s⟩ ⟨hle3,bRA h55,hpv.mono hle3⟩ (.cons 0 rfl (.cons 4 rfl (.cons 6 rfl (.cons 7 rfl (.cons 9 rfl (.cons 12 rfl (.cons 41 rfl (.cons 42 rfl (.cons 43 rfl (.cons 47 rfl (.cons 48 rfl (.cons 49 rfl .nil)))))))))))) rfl (fun _ h=>h))
      refine zz6 ?_;refine bK 64 rfl (fun h64=>?_) (fun h64=>?_)
      ·refine zz4 ?_;refine cF rfl rfl (aKO x y o.oct _ (hg.mono hle3) aI aI) rfl ?_;refine zz3 ?_
       (refine aU (.cons (.there .here) (.cons .here (.cons .here (.cons .here .nil)))) ?_;exact cN ⟨decide (0≤Lib.index (j4 o.oct x) (j4 o.oct y)),K3,pv,s⟩ ⟨hle3,bNC h64,hpv.mono hle3⟩ (.cons 0 rfl (.cons 4 rfl (.cons 6 rfl (.cons 7 rfl (.cons 9 rfl (.cons 12 rfl (.cons 41 rfl (.cons 42 rfl (.cons 43 rfl (.cons 47 rfl (.cons 48 rfl (.cons 49 rfl .nil)))))))))))) rfl (fun _ h=>h))
      refine zz6 ?_;refine bK 70 rfl (fun h70=>?_) (fun h70=>?_)
      ·refine zz10 ?_;refine aX rfl rfl (bB8 x y o.oct _ aI aI) .nil rfl ?_;rintro _ K4 _ ⟨gv,rfl,rfl⟩ le4;have hgl:=bHV x y o.oct;refine zz8 ?_;refine aB5 (.cons (.there (.there .here)) .nil) ?_;refine yG fun av sv f c=>?_;refine zz3 ?_;refine lE 80 rfl (fun g80=>?_) (fun g80=>?_)
       ·refine zz11 ?_;refine eO 85 rfl (fun h85=>?_) (fun h85=>?_)
        ·refine zz3 ?_;refine cC (bH (z0:=[(str [])]) cG tz9 rfl rfl rfl rfl (.cons rfl rfl rfl (.cons .nil) .nil)) rfl ?_;rintro _ K _ ⟨b88,rfl,rfl,rfl⟩ -;refine zz1 ?_;refine kB (bD4 (k:=bN 9) (xs:=[x]) rfl) ?_;refine cC (dN (k:=(bN 9)) (ys:=((glob x y o.oct).getD [])) fS rfl rfl .here (fun w j=>dE Tryz.underlying39 (SeesSl.at (k:=bN 9) (.own (.there (.there (.there (.there (.there .here)))))) j)) gAP gAP) rfl ?_;rintro v90 K _ ⟨rfl,rfl,ho90⟩ -;refine zz2 ?_;refine cA (bP iS rfl rfl cJ bF (.succ (.succ (.succ (.succ (.succ (.succ (.succ (.succ .zero)))))))) rfl) ?_;rintro _ K _ ⟨rfl,rfl⟩ -;refine zz2 ?_
         (refine mJ fun K5 le5 hK5=>?_;refine fK (j5 (m:=m) (hv:=hv) (pv:=v90) (nm:=nm) (s:={s with parts:=x::(glob x y o.oct).getD []})) ?_;refine aU (.cons .here (.cons (.there .here) (.cons (.there .here) (.cons (.there .here) .nil)))) ?_;subst h85;exact cN ⟨(glob x y o.oct).isSome,K5,v90,{s with parts:=x::(glob x y o.oct).getD []}⟩ ⟨Hl.le_trans (Hl.le_trans hle3 le4) le5,bND h70 g80,hK5⟩ (.cons 0 rfl (.cons 4 rfl (.cons 6 rfl (.cons 7 rfl (.cons 9 rfl (.cons 12 rfl (.cons 41 rfl (.cons 42 rfl (.cons 43 rfl (.cons 47 rfl (.cons 48 rfl (.cons 49 rfl .nil)))))))))))) rfl (fun _ h=>h))
        refine zz2 ?_
        (refine fK (j5 (m:=m) (hv:=hv) (pv:=pv) (nm:=nm) (s:=s)) ?_;refine aU (.cons .here (.cons (.there .here) (.cons (.there .here) (.cons (.there .here) .nil)))) ?_;exact cN ⟨(glob x y o.oct).isSome,K4,pv,s⟩ ⟨Hl.le_trans hle3 le4,by first|exact bIO h70 g80|(subst h85;exact bIP h70),hpv.mono (Hl.le_trans hle3 le4)⟩ (.cons 0 rfl (.cons 4 rfl (.cons 6 rfl (.cons 7 rfl (.cons 9 rfl (.cons 12 rfl (.cons 41 rfl (.cons 42 rfl (.cons 43 rfl (.cons 47 rfl (.cons 48 rfl (.cons 49 rfl .nil)))))))))))) rfl (fun _ h=>h))
       refine zz10 ?_
       (refine fK (j5 (m:=m) (hv:=hv) (pv:=pv) (nm:=nm) (s:=s)) ?_;refine aU (.cons .here (.cons (.there .here) (.cons (.there .here) (.cons (.there .here) .nil)))) ?_;exact cN ⟨(glob x y o.oct).isSome,K4,pv,s⟩ ⟨Hl.le_trans hle3 le4,by first|exact bIO h70 g80|(subst h85;exact bIP h70),hpv.mono (Hl.le_trans hle3 le4)⟩ (.cons 0 rfl (.cons 4 rfl (.cons 6 rfl (.cons 7 rfl (.cons 9 rfl (.cons 12 rfl (.cons 41 rfl (.cons 42 rfl (.cons 43 rfl (.cons 47 rfl (.cons 48 rfl (.cons 49 rfl .nil)))))))))))) rfl (fun _ h=>h))
      exact absurd (show o.tag=3 by omega) h70
     intro ⟨ok,K4,pv4,s4⟩ ⟨hle4,hmm,hks4⟩;dsimp only at hle4 hmm hks4 ⊢;refine zz5 ?_;refine eO 93 rfl (fun h93=>?_) (fun h93=>?_)
     ·obtain⟨ps,hvk,hs4⟩:∃ps,kL o x y=some ps∧s4=(if o.tag=3∧nm=true then {s with parts:=x::ps}else s):=(by rcases hmm with ⟨_,h⟩|⟨h,_⟩;exact h;(rw[h93]at h;cases h));have hres:matchI nm m o s=push s4 true:=(by rw[hs4];exact hsome (x::ps) hcc (by rw[←hmall,aNP hx,←hin,bCG hy hvk]));refine zz3 ?_;refine bL rfl rfl (pA b mb m hv pv4 nm s4 true _) (.cons .here .nil) rfl (fun _ _=>bQ _ _) ?_ ?_
      ·rintro _ _ _ hTr le1;obtain⟨e,p,hq,fb,h,rfl⟩:=bR hTr;cases h
       refine uAa ?_;refine zz10 ?_;refine bX (Hl.le_trans hle4 le1) ?_;unfold MI;rw[hres,hq];exact⟨fb,rfl,rfl⟩
      rintro _ K _ hTr -;obtain⟨q,hq,rfl,rfl,rfl⟩:=bS hTr;clear hTr;have hqp:=gU hq;refine zz12 ?_;refine uAa ?_;refine wT rfl (by first|exact hle4|exact hle2) ?_;unfold MI;rw[hres,hq];exact⟨_,rfl,rfl,pv4,by rw[hqp];exact hks4,rfl⟩
     obtain⟨hvk,rfl,rfl⟩:kL o x y=none∧s=s4∧pv=pv4:=(by rcases hmm with ⟨h,_⟩|⟨_,h⟩;(rw[h93]at h;cases h);exact h);refine zz7 ?_;refine aU (.cons (.there .here) (.cons .here (.cons .here (.cons .here .nil)))) ?_;exact dF ⟨j+1,K4⟩ ⟨by (show j+1≤ks.length);omega,hle4,(bH5 hy hvk).symm.trans hin⟩ (by (show ks.length - (j+1) < ks.length - j);omega) (.cons 0 rfl (.cons 4 rfl (.cons 6 rfl (.cons 7 rfl (.cons 9 rfl (.cons 41 rfl (.cons 42 rfl (.cons 43 rfl (.cons 47 rfl (.cons 48 rfl (.cons 49 rfl .nil))))))))))) rfl (fun _ h=>h)
    have hin0:tH o x ks=none:=(by rw[←hin];exact bCF aI);refine zz10 ?_;exact dF ⟨i+1,K3⟩ ⟨by (show i+1≤vs.length);omega,hle3,by have h:=aNP (o:=o) (ks:=ks) hx;rw[hin0]at h;exact h.symm.trans hmall⟩ gBY (.cons 0 rfl (.cons 4 rfl (.cons 6 rfl (.cons 7 rfl (.cons 41 rfl (.cons 42 rfl (.cons 43 rfl .nil))))))) rfl (fun _ h=>h)
   have hres:matchI nm m o s=push s false:=hnone hcc (by rw[←hmall];exact bII aI);refine zz7 ?_;refine bL rfl rfl (pA b mb m hv pv nm s false _) (.cons (.there .here) .nil) rfl (fun _ _=>bQ _ _) ?_ ?_
   ·rintro _ _ _ hTr le1;obtain⟨e,p,hq,fb,h,rfl⟩:=bR hTr;cases h
    refine uAa ?_;refine bX (Hl.le_trans hle2 le1) ?_;unfold MI;rw[hres,hq];exact⟨fb,rfl,rfl⟩
   rintro _ K _ hTr -;obtain⟨q,hq,rfl,rfl,rfl⟩:=bS hTr;clear hTr;have hqp:=gU hq;refine uAz ?_;refine dK rfl (by first|exact hle4|exact hle2) ?_;unfold MI;rw[hres,hq];exact⟨_,rfl,rfl,pv,by rw[hqp];exact hpv.mono hle2,rfl⟩
  have hno:=aF3 (nm:=nm) (m:=m) (s:=s) (o:=o) aI;refine zz7 ?_;refine bL rfl rfl (uP _ _ _ _ _ _ _ _ _ _ _ _ _) (.cons (.there .here) .nil) rfl gAG ?_ ?_
  ·rintro _ _ _ ⟨fb,h,rfl⟩ le1;cases h
   refine uAa ?_;refine zz2 ?_;simp only[MI,hno];exact⟨fb,rfl,rfl⟩
  rintro _ _ _ ⟨_,h,_⟩;cases h
 have hno:=aF3 (nm:=nm) (m:=m) (s:=s) (o:=o) aI;refine zz12 ?_;refine bL rfl rfl (uP _ _ _ _ _ _ _ _ _ _ _ _ _) (.cons (.there .here) .nil) rfl gAG ?_ ?_
 ·rintro _ _ _ ⟨fb,h,rfl⟩ le1;cases h
  refine uAa ?_;refine zz2 ?_;simp only[MI,hno];exact⟨fb,rfl,rfl⟩
 rintro _ _ _ ⟨_,h,_⟩;cases h
end Go.Proofs
end
section
namespace Go.Mach
open Go.Syn
theorem bHM(s:aJ):s.findIdx? (fun x=>decide (x=64))=if Lib.indexByte s 64 < 0 then none else some (Lib.indexByte s 64).toNat:=by
 split
 ·rename_i h;have h1:=Lib.indexByte_ge s 64;have h2:=Lib.indexByte_none (l:=s) (c:=64) aI;rw[List.findIdx?_eq_none_iff];intro x hx;obtain⟨k,hk⟩:=List.getElem?_of_mem hx;have:=h2 k;rw[hk]at this
  simpa using this
 rename_i h;obtain⟨h1,h2⟩:=Lib.indexByte_some (l:=s) (c:=64) (o:=(Lib.indexByte s 64).toNat) aI;rw[List.findIdx?_eq_some_iff_getElem];have hlt:(Lib.indexByte s 64).toNat < s.length:=by
  rcases Nat.lt_or_ge (Lib.indexByte s 64).toNat s.length with h'|h'
  ·exact h'
  rw[List.getElem?_eq_none h']at h1;cases h1
 rw[List.getElem?_eq_getElem hlt]at h1;refine⟨hlt,by simpa using h1,fun j hj=>?_⟩
 have:=h2 j hj;rw[List.getElem?_eq_getElem aI]at this
 simpa using this
theorem bS5(s:aJ):(s.any fun c=>decide (c=64))=decide (0≤Lib.index s [64]):=by
 rw[Lib.index_one];have h1:=Lib.indexByte_ge s 64
 by_cases h:Lib.indexByte s 64 < 0
 ·have h2:=Lib.indexByte_none (l:=s) (c:=64) aI;rw[decide_eq_false aI,List.any_eq_false];intro x hx;obtain⟨k,hk⟩:=List.getElem?_of_mem hx;have:=h2 k;rw[hk]at this
  simpa using this
 obtain⟨h1,h2⟩:=Lib.indexByte_some (l:=s) (c:=64) (o:=(Lib.indexByte s 64).toNat) aI;rw[decide_eq_true aI,List.any_eq_true];exact⟨64,List.mem_of_getElem? h1,by simp⟩
theorem nV(s:aJ):kZ s=ad s:=by
 unfold kZ ad Lib.cut;rw[bHM,Lib.index_one];by_cases h:Lib.indexByte s 64 < 0 <;> grind [kZ,ad,bHM,bS5]
theorem aMU(c:UInt8):mL c=[32,9,13,10].contains c:=by
 unfold mL;rw[Bool.eq_iff_iff];simp only[decide_eq_true_eq,List.contains_iff_mem,List.mem_cons,List.not_mem_nil,or_false]
 constructor
 ·rintro(h|h|h|h)
  ·left;exact UInt8.toNat_inj.1 h
  ·right;left;exact UInt8.toNat_inj.1 h
  ·right;right;left;exact UInt8.toNat_inj.1 h
  right;right;right;exact UInt8.toNat_inj.1 h
 rintro(h|h|h|h) <;> subst h <;> decide
theorem zG:∀s:aJ,decide (0≤Lib.indexAny s [32,9,13,10])=s.any mL
 | []=>rfl
 |b::l=>by
  have ih:=zG l;have hg:=Lib.indexAny_ge [32,9,13,10] l;rw[Lib.indexAny,List.any_cons,aMU,←ih];cases h:[32,9,13,10].contains b with
  |true=>simp
  |false=>
   simp only[Bool.false_eq_true,if_false,Bool.false_or];split
   ·rename_i h2;have:=beq_iff_eq.1 h2;rw[this]
   rename_i h2;have h3:Lib.indexAny l [32,9,13,10]≠ -1:=fun e=>h2 (by rw[e];rfl)
   rw[decide_eq_true aI,decide_eq_true aI]
end Go.Mach
end
section
attribute [local irreducible] Go.SL.T Go.SL.OL Go.SL.D Go.SL.DL Go.SL.Ev Go.SL.Ef Go.SL.EfS
namespace Go.Proofs
open Go Go.SL Go.Syn Go.Mach
theorem bVJ{i:Nat}(h:i < 4):∃c,ws[i]?=some c∧c.toNat < 128:=by
 rcases(show i=0∨i=1∨i=2∨i=3 by omega)with rfl|rfl|rfl|rfl
 ·exact⟨32,rfl,by decide⟩
 ·exact⟨9,rfl,by decide⟩
 ·exact⟨13,rfl,by decide⟩
 exact⟨10,rfl,by decide⟩
theorem aXF(s:List UInt8)(h8:s.length≤8)(K:Hl):Sp Tryz.prog 221 [str s,str ws] K [] (Ret fun v K' L'=>∃n:Int,v=i64 n∧(0≤n↔s.any mL=true)∧K'=K∧L'=[]):=by
 have e:(fun c=>ws.contains c)=mL:=by funext c;rw[aMU];rfl
 have:=aG7 ws (by decide) (by decide) s h8 K;rw[e]at this;exact this
theorem bCD(s:List UInt8)(hs:s.length≤1000000)(K:Hl):Sp Tryz.prog 221 [str s,str ws] K [] (Ret fun v K' L'=>∃n:Int,v=i64 n∧(0≤n↔s.any mL=true)∧K'=K∧L'=[]):=by
 rcases Nat.lt_or_ge 8 s.length with h8|h8
 ·have h116:(Tryz.prog.info? 415).map (fun i=>(i.zero,i.size))=some (some (.agg (Array.replicate 256 (.bool false))),256):=by kernel_rfl
  refine(nQ (v:=i64 (Lib.indexAny s ws)) ⟨_,Tryz.func221,rfl,rfl⟩ fun w hw=>?_).mono ?_
  ·refine(Tryz.strings_IndexAny_long (zero_of_info h116).1 ⟨s.toArray⟩ ⟨ws.toArray⟩ w (by decide) (by simpa[ByteArray.size]using h8) (by simp[ByteArray.size];omega) (by decide) ?_).mono fun e w' ⟨he,hw'⟩=>⟨he,?_⟩
   ·intro j b hj;have hlt:j < 4:=jF (l:=ws) hj;obtain⟨c,hc,hc2⟩:=bVJ hlt;have hj':ws[j]?=some b:=hj;rw[hc]at hj';cases hj';exact hc2
   rw[hw'];exact((RowKit.Below.refl _ _).alloc (Nat.le_refl _) _).alloc (by simp) _
  rintro e K' L' ⟨rfl,rfl,rfl⟩;have:=zG s;exact⟨_,rfl,_,rfl,by rw[←this];exact decide_eq_true_iff.symm,rfl,rfl⟩
 exact aXF s h8 K
theorem bBB(s:List UInt8)(hs:s.length≤1000000)(K:Hl):Sp Tryz.prog 127 [str s,str ws] K [] (Val (.bool (s.any mL)) K):=by
 refine a8 Tryz.func127 rfl Tryz.ntmps127 rfl rfl fun F w=>?_;refine zz9 ?_;refine aX rfl rfl (bCD s hs _) .nil rfl ?_;rintro _ K _ ⟨n,rfl,hn,rfl,rfl⟩ -;refine zz5 ?_;refine uAl ?_;refine zz1 ?_;refine lN ?_ _
 rw[Bool.eq_iff_iff,←hn];simp
theorem bD6(s sep:List UInt8)(K:Hl)(hg:Glob K)(hs:s.length < 4294967281):Sp Tryz.prog 228 [str s,str sep] K [] (Val (.tuple #[str (Lib.cut s sep).1,str (Lib.cut s sep).2.1,.bool (Lib.cut s sep).2.2]) K):=by
 refine nQ ⟨_,Tryz.func228,rfl,rfl⟩ fun w hw=>?_;obtain⟨m,T,fz,hm⟩:=hg.maxLen;refine(Tryz.strings_Cut ⟨s.toArray⟩ ⟨sep.toArray⟩ m w gB3 (mI (hw _ _ hm) rfl)).mono fun e w' ⟨he,n,hw'⟩=>⟨he,?_⟩
 rw[hw'];exact⟨rfl,rfl,rfl,Nat.le_refl _,fun _ _=>rfl⟩
theorem bL8(s sep:List UInt8):(Lib.cut s sep).2.1.length≤s.length:=by
 unfold Lib.cut;split
 ·simp
 simp
theorem aI3(s:List UInt8)(K:Hl)(hg:Glob K)(hs:s.length≤100000):Sp Tryz.prog 256 [str s] K [] (Val (.bool (kZ s)) K):=by
 have hcl:=bL8 s [64];refine a8 Tryz.func256 rfl Tryz.ntmps256 rfl rfl fun F w=>?_;refine zz8 ?_;refine cF rfl rfl (bD6 s [64] _ hg aI) rfl ?_;refine zz13 ?_;refine lE 13 rfl (fun g13=>?_) (fun g13=>?_)
 ·refine zz6 ?_;refine cH 17 rfl (fun g17=>?_) (fun g17=>?_)
  ·refine zz6 ?_;refine cH 21 rfl (fun g21=>?_) (fun g21=>?_)
   ·refine zz3 ?_;refine cF rfl rfl (bBB s aI _) rfl ?_;refine zz1 ?_;refine aA gAF rfl ?_;refine zz2 ?_;refine lE 26 rfl (fun g26=>?_) (fun g26=>?_)
    ·refine zz3 ?_;refine cF rfl rfl (aDR (Lib.cut s [64]).2.1 [64] _ hg aI) rfl ?_;refine zz1 ?_;refine aA gAF rfl ?_;refine zz2 ?_;refine lE 31 rfl (fun g31=>?_) (fun g31=>?_)
     ·refine zz11 ?_;refine uAl ?_;refine zz1 ?_;refine lN ?_ _
      rw[nV];unfold ad;have hd32:decide ((s.length:Int)≤32)=decide (s.length≤32):=gBG
      generalize s.any mL=xb at*
      by_cases hix:0≤Lib.index (Lib.cut s [64]).2.1 [64]
      ·simp_all
      simp_all
     refine zz8 ?_;refine uAl ?_;refine zz1 ?_;refine lN ?_ _
     rw[nV];unfold ad;have hd32:decide ((s.length:Int)≤32)=decide (s.length≤32):=gBG
     generalize s.any mL=xb at*
     by_cases hix:0≤Lib.index (Lib.cut s [64]).2.1 [64]
     ·simp_all
     simp_all
    refine zz13 ?_;refine uAl ?_;refine zz1 ?_;refine lN ?_ _
    rw[nV];unfold ad;have hd32:decide ((s.length:Int)≤32)=decide (s.length≤32):=gBG
    generalize s.any mL=xb at*
    by_cases hix:0≤Lib.index (Lib.cut s [64]).2.1 [64]
    ·simp_all
    simp_all
   refine zz18 ?_;refine uAl ?_;refine zz1 ?_;refine lN ?_ _
   rw[nV];unfold ad;have hd32:decide ((s.length:Int)≤32)=decide (s.length≤32):=gBG
   generalize s.any mL=xb at*
   by_cases hix:0≤Lib.index (Lib.cut s [64]).2.1 [64]
   ·simp_all
   simp_all
  refine zz22 ?_;refine uAl ?_;refine zz1 ?_;refine lN ?_ _
  rw[nV];unfold ad;have hd32:decide ((s.length:Int)≤32)=decide (s.length≤32):=gBG
  generalize s.any mL=xb at*
  by_cases hix:0≤Lib.index (Lib.cut s [64]).2.1 [64]
  ·simp_all
  simp_all
 refine zz26 ?_;refine uAl ?_;refine zz1 ?_;refine lN ?_ _
 rw[nV];unfold ad;have hd32:decide ((s.length:Int)≤32)=decide (s.length≤32):=gBG
 generalize s.any mL=xb at*
 by_cases hix:0≤Lib.index (Lib.cut s [64]).2.1 [64]
 ·simp_all
 simp_all
def fnOf(op:Int):Nat:=if op=1 then 141 else if op=2 then 143 else if op=3 then 145 else if op=4 then 147 else if op=5 then 148 else if op=9 then 150 else if op=10 then 152 else if op=11 then 153 else if op=12 then 154 else if op=13 then 155 else 149
theorem aYN(b mb:Nat)(m:Msg)(hv pv:Value)(nm:Bool)(s:MS)(o:Ins)(av bv:Value)(n:Nat)(K:Hl)(hop:1≤o.op∧o.op≤13)(hg:Glob K)(hpv:Ksl (bN 9) K pv s.parts)(ha:Ksl (bN 9) K av o.a)(hb:Ksl (bN 9) K bv o.b)(hh:Ksl hdEl K hv m.hs)(hm:MsgOk m)(ho:InsOk o)(hs:MInv s)(hp:s.pc < 1000)(hn:n < 1000):
  Sp Tryz.prog (fnOf o.op) [ptr b,qN o av bv,i64 n] K [mch b mb m hv pv nm s] (MI b mb m hv nm (Mach.step nm m n o s)):=by
 have hst:s.stack.length≤100:=by have:=hs.stack;omega
 have hhs:∀h∈m.hs,h.1.length≤1000000:=fun h hh=>by have:=(hm.hs h hh).1;omega
 have hvl:∀x∈gW (dM nm s.vars s.parts) m o,x.length≤1000000:=fun x hx=>by have:=aO4 hm ho x hx;omega
 unfold fnOf Mach.step
 by_cases h1:o.op=1
 ·rw[if_pos h1,if_pos h1];exact bGY b mb m hv pv nm s o av bv n K hpv ha hb
 rw[if_neg h1,if_neg h1]
 by_cases h2:o.op=2
 ·rw[if_pos h2,if_pos h2];exact bGZ b mb m hv pv nm s o av bv n K hpv ha hb hp hn hst
 rw[if_neg h2,if_neg h2]
 by_cases h3:o.op=3
 ·rw[if_pos h3,if_pos h3];exact bG0 b mb m hv pv nm s o av bv n K hpv ha hb hp hn hst
 rw[if_neg h3,if_neg h3]
 by_cases h4:o.op=4
 ·rw[if_pos h4,if_pos h4];exact bG1 b mb m hv pv nm s o av bv n K hpv ha hb hp hn hst
 rw[if_neg h4,if_neg h4]
 by_cases h5:o.op=5
 ·rw[if_pos h5,if_pos h5];exact bG2 b mb m hv pv nm s o av bv n K hpv ha hb hp hn hst
 rw[if_neg h5,if_neg h5]
 by_cases h9:o.op=9
 ·rw[if_pos h9,if_neg aI,if_pos h9];exact bG3 b mb m hv pv nm s o av bv n K hg hpv ha hb hh hm.hn hhs ho.an ho.a hs.small
 rw[if_neg h9]
 by_cases h10:o.op=10
 ·rw[if_pos h10,if_neg aI,if_neg h9,if_pos h10];exact bG4 b mb m hv pv nm s o av bv n K hpv ha hb
 rw[if_neg h10]
 by_cases h11:o.op=11
 ·rw[if_pos h11,if_neg aI,if_neg h9,if_neg h10,if_pos h11];exact bA2 b mb m hv pv nm s o av bv n K hg hpv ha hb ho.a hs.small hs.acts (fun x K hg hx=>aI3 x K hg hx)
 rw[if_neg h11]
 by_cases h12:o.op=12
 ·rw[if_pos h12,if_neg aI,if_neg h9,if_neg h10,if_neg h11,if_pos h12];exact bEC b mb m hv pv nm s o av bv n K hg hpv ha hb ho.b hs.small
 rw[if_neg h12]
 by_cases h13:o.op=13
 ·rw[if_pos h13,if_neg aI,if_neg h9,if_neg h10,if_neg h11,if_neg h12,if_pos h13];exact bG5 b mb m hv pv nm s o av bv n K hpv ha hb
 rw[if_neg h13,if_pos aI];exact aTP b mb m hv pv nm s o av bv n K hg hpv ha hb hh hm.hn hhs ho.an ho.a ho.bn ho.b hs.small hvl
def aNA:List Cell:=⟨.nilFunc,rfl⟩::([1,2,3,4,5,6,7,8,9,10,11,12,13].map fun op=>(⟨.func (.func (fnOf op)) #[] #[],rfl⟩:Cell))++[⟨.nilFunc,rfl⟩]
theorem bTT:∀k:Fin 13,([1,2,3,4,5,6,7,8,9,10,11,12,13]:List Int)[k.1]?=some ((k.1:Int)+1):=by decide
theorem bG6{op:Int}(h:1≤op∧op≤13):aNA[op.toNat]?=some ⟨.func (.func (fnOf op)) #[] #[],rfl⟩:=by
 obtain⟨n,hn⟩:∃n:Nat,op.toNat=n+1:=⟨op.toNat - 1,by omega⟩;have hlt:n < 13:=by omega
 have h2:=bTT ⟨n,hlt⟩;simp only at h2;have e:(n:Int)+1=op:=by omega
 rw[e]at h2;unfold aNA;rw[hn,List.cons_append,List.getElem?_cons_succ,List.getElem?_append_left (by simpa using hlt),List.getElem?_map,h2]
 rfl
theorem aWQ(K:Hl):Sp Tryz.prog 91 [] K [] (Ret fun v K' L'=>Ksl (e7 184) K' v aNA∧L'=[]):=by
 refine a8 Tryz.func91 rfl Tryz.ntmps91 rfl rfl fun F w=>?_;refine zz7 ?_;refine cC (bH (z0:=[.nilFunc,.nilFunc,.nilFunc,.nilFunc,.nilFunc,.nilFunc,.nilFunc,.nilFunc,.nilFunc,.nilFunc,.nilFunc,.nilFunc,.nilFunc,.nilFunc,.nilFunc]) aH3 bU7 rfl rfl rfl rfl (.cons rfl rfl rfl (.skip (.cons .nil)) (.cons rfl rfl rfl (.skip (.skip (.cons .nil))) (.cons rfl rfl rfl (.skip (.skip (.skip (.cons .nil)))) (.cons rfl rfl rfl (.skip (.skip (.skip (.skip (.cons .nil))))) (.cons rfl rfl rfl (.skip (.skip (.skip (.skip (.skip (.cons .nil)))))) (.cons rfl rfl rfl (.skip (.skip (.skip (.skip (.skip (.skip (.cons .nil))))))) (.cons rfl rfl rfl (.skip (.skip (.skip (.skip (.skip (.skip (.skip (.cons .nil)))))))) (.cons rfl rfl rfl (.skip (.skip (.skip (.skip (.skip (.skip (.skip (.skip (.cons .nil))))))))) (.cons rfl rfl rfl (.skip (.skip (.skip (.skip (.skip (.skip (.skip (.skip (.skip (.cons .nil)))))))))) (.cons rfl rfl rfl (.skip (.skip (.skip (.skip (.skip (.skip (.skip (.skip (.skip (.skip (.cons .nil))))))))))) (.cons rfl rfl rfl (.skip (.skip (.skip (.skip (.skip (.skip (.skip (.skip (.skip (.skip (.skip (.cons .nil)))))))))))) (.cons rfl rfl rfl (.skip (.skip (.skip (.skip (.skip (.skip (.skip (.skip (.skip (.skip (.skip (.skip (.cons .nil))))))))))))) (.cons rfl rfl rfl (.skip (.skip (.skip (.skip (.skip (.skip (.skip (.skip (.skip (.skip (.skip (.skip (.skip (.cons .nil)))))))))))))) (.cons rfl rfl rfl (.skip (.skip (.skip (.skip (.skip (.skip (.skip (.skip (.skip (.skip (.skip (.skip (.skip (.skip (.cons .nil))))))))))))))) .nil))))))))))))))) rfl ?_;rintro _ K _ ⟨b1,rfl,rfl,rfl⟩ -;refine zz4 ?_;refine kE fun KS leS hS=>?_;refine bD rfl rfl leS ?_;exact⟨_,rfl,.inr ⟨b1,0,15,_,_,rfl,⟨_,hS⟩,rfl⟩,rfl⟩
end Go.Proofs
end
section
attribute [local irreducible] Go.SL.T Go.SL.OL Go.SL.D Go.SL.DL Go.SL.Ev Go.SL.Ef Go.SL.EfS
namespace Go.Proofs
open Go Go.SL Go.Syn Go.Mach Go.Cmp
theorem bJY(b6 b8:Nat)(K:Hl):SpD Tryz.prog 89 [ptr b6,ptr b8] K [] .returning fun e u' K' L'=>u'=.returning∧(e=.returned (.tuple #[])∧K'=K∧L'=[]):=by
 refine aQ3 (rv:=.nilIface) (u':=.returning) Tryz.func89 rfl Tryz.ntmps89 rfl rfl rfl rfl aB3 fun F w=>?_;refine zz9 ?_;exact⟨rfl,rfl,rfl⟩
theorem bJX(b6 b8 fb:Nat)(v1 v2:Value)(K:Hl):SpD Tryz.prog 89 [ptr b6,ptr b8] K [pt b8 (aZ [v2] 79),pt b6 (aZ [v1] 29)] (.panicking [{v:=.iface 118 (ptr fb),recovered:=false}])
  fun e u' K' L'=>u'=.panicking [{v:=.iface 118 (ptr fb),recovered:=true}]∧(e=.returned (.tuple #[])∧K'=K∧∃bk,L'=[pt b8 (aZ [.iface 118 (ptr fb)] 79),pt b6 (aZ [.slice (some ⟨bk,0,none⟩) 1 1] 29),pt bk (aZ [i64 1,str []] 34)]):=by
 refine aQ3 (rv:=.iface 118 (ptr fb)) (u':=.panicking [{v:=.iface 118 (ptr fb),recovered:=true}]) Tryz.func89 rfl Tryz.ntmps89 rfl rfl rfl rfl aB2 fun F w=>?_;refine zz10 ?_;refine aA (jI Tryz.underlying118 (fun _ h=>by cases h) rfl) rfl ?_;refine zz11 ?_;refine aA gAF rfl ?_;refine zz6 ?_;refine uAu ?_;refine cC (bH (z0:=[.int .i64 0,(str [])]) gK aIC rfl rfl rfl rfl (.cons rfl rfl rfl (.cons (.cons .nil)) .nil)) rfl ?_;rintro _ K _ ⟨b17,rfl,rfl,rfl⟩ -;refine zz1 ?_;refine aA (cY Tryz.underlying118 (fun _ h=>by cases h) rfl) rfl ?_;refine uBt ?_;rintro _ K _ ⟨rfl,rfl⟩ -;refine uAx ?_;rintro _ K _ ⟨rfl,rfl⟩ -;refine aG ?_;refine aU (.cons (.there .here) (.cons (.there .here) (.cons .here .nil))) ?_;refine zz1 ?_;exact⟨rfl,rfl,b17,rfl⟩
def ErrP(e:Option (Int×Int))(ev:Value)(M:List Asn):Prop:=match e with
 |none=>ev=.nilIface∧M=[]
 |some (e,p)=>∃fb,ev=.iface 118 (ptr fb)∧M=[pt fb (aZ [i64 e,i64 p] 123)]
def RunR(out:Out):Ending→Hl→List Asn→Prop:=Ret fun v K' L'=>∃av ev M,v=.tuple #[av,i64 out.steps,ev]∧L'=sl true cS av out.acts::M∧ErrP out.err ev M
theorem bJ6{α:Type}{k:El α}{b:Nat}{xs:List α}{n:Nat}{M:List Asn}(hx:xs≠[])(hn:n=xs.length):∀h,Sat (pt b (aZ (k.cs xs) k.e)::M) h→Sat (sl true k (.slice (some ⟨b,0,none⟩) n n) xs::M) h:=by
 subst hn;rintro h ⟨a,l,ha,hl,hd,rfl⟩;refine⟨a,l,.inr ⟨b,xs.length,[],(0,0),rfl,fun _=>hx,Nat.le_refl _,by simp,.inl (Nat.le_refl _),?_⟩,hl,hd,rfl⟩
 rw[List.append_nil];exact ha
theorem aIS{n:Nat}{w:World}{F K0 K:Hl}{fr:Fr}{b6 b8 fb:Nat}{v1 v2:Value}{e p x:Int}{out:Out}{st:Nat}(g6:fr.get 6=some (ptr b6))(g7:fr.get 7=some (i64 x))(g8:fr.get 8=some (ptr b8))(le:K0.le K)(ho:out=⟨[(1,[])],st,some (e,p)⟩)(hx:x=st):
  D ⟨Tryz.prog,n,[dfr 89 #[ptr b6,ptr b8]],w,F⟩ (.panic [{v:=.iface 118 (ptr fb),recovered:=false}]) fr K [pt fb (aZ [i64 e,i64 p] 123),pt b8 (aZ [v2] 79),pt b6 (aZ [v1] 29)] (aDA Tryz.prog Tryz.f54 w F K0 (RunR out)):=by
 subst ho;subst hx
 refine bGM (.pan _) rfl oS aFC g6 g7 g8 (.cons (.there .here) (.cons (.there .here) .nil)) (bJX b6 b8 fb v1 v2 K) rfl ?_;rintro _ _ _ ⟨rfl,rfl,bk,rfl⟩;refine⟨⟨_,rfl⟩,fun le2=>⟨_,_,[sl true cS (.slice (some ⟨bk,0,none⟩) 1 1) [(1,[])],pt fb (aZ [i64 e,i64 p] 123)],fun h hh=>?_,⟨_,rfl,_,_,_,rfl,rfl,fb,rfl,rfl⟩,le⟩⟩
 exact fL (fE (fun h hh=>fE (fun h hh=>bJ6 (k:=cS) (xs:=[(1,[])]) (by simp) rfl h hh) hh) hh)
theorem aIR{n:Nat}{w:World}{F K0 K:Hl}{fr:Fr}{b6 b8:Nat}{av:Value}{out:Out}{x:Int}{st:Nat}{acts:List Action}(g6:fr.get 6=some (ptr b6))(g7:fr.get 7=some (i64 x))(g8:fr.get 8=some (ptr b8))(le:K0.le K)(ho:out=⟨acts,st,none⟩)(hx:x=st):
  D ⟨Tryz.prog,n,[dfr 89 #[ptr b6,ptr b8]],w,F⟩ .ret fr K [pt b6 (aZ [av] 29),pt b8 (aZ [.nilIface] 79),sl true cS av acts] (aDA Tryz.prog Tryz.f54 w F K0 (RunR out)):=by
 subst ho;subst hx
 refine bGM .ret rfl oS aFC g6 g7 g8 .nil (bJY b6 b8 K) rfl ?_;rintro _ _ _ ⟨rfl,rfl,rfl⟩;exact⟨⟨_,rfl⟩,fun le2=>⟨_,_,[sl true cS av acts],fun h hh=>hh,⟨_,rfl,_,_,_,rfl,rfl,rfl,rfl⟩,le⟩⟩
theorem bC5{b mb:Nat}{m:Msg}{hv:Value}{nm:Bool}{L:List Asn}:∀h,Sat (pt b (aZ [str m.from_,str m.to_,i64 m.size,hv,.slice none 0 0,.bool true,.bool nm,.map (some mb),.slice none 0 0,.slice none 0 0,i64 0] 178)::pt mb (mapO [] 0)::L) h→Sat (mch b mb m hv (.slice none 0 0) nm Mach.start::L) h:=by
 intro h hh;refine j5 (av:=.slice none 0 0) (sv:=.slice none 0 0) (f:=fun _=>0) (c:=0) (s:=Mach.start) h ?_;exact fE (fun h hh=>tX (tX hh)) hh
theorem bCO{nm:Bool}{m:Msg}{code:List Ins}{f st:Nat}{s:MS}(h:code.length≤s.pc):Mach.loop nm m code (f+1) st s=⟨if s.keep=true then s.acts++[(1,[])]else s.acts,st,none⟩:=by
 rw[Mach.loop,List.getElem?_eq_none h]
theorem bCP{nm:Bool}{m:Msg}{code:List Ins}{f st:Nat}{s:MS}{o:Ins}(h:code[s.pc]?=some o)(ho:o.op=14):Mach.loop nm m code (f+1) st s=⟨if s.keep=true then s.acts++[(1,[])]else s.acts,st+1,none⟩:=by
 rw[Mach.loop,h];simp only[if_pos ho]
theorem aKM{nm:Bool}{m:Msg}{code:List Ins}{f st:Nat}{s:MS}{o:Ins}{e:Int×Int}(h:code[s.pc]?=some o)(ho:¬o.op=14)(hs:Mach.step nm m code.length o s=.error e):Mach.loop nm m code (f+1) st s=⟨[(1,[])],st+1,some e⟩:=by
 rw[Mach.loop,h];simp only[if_neg ho,hs]
theorem aIK{nm:Bool}{m:Msg}{code:List Ins}{f st:Nat}{s t:MS}{o:Ins}(h:code[s.pc]?=some o)(ho:¬o.op=14)(hs:Mach.step nm m code.length o s=.ok t):Mach.loop nm m code (f+1) st s=Mach.loop nm m code f (st+1) {t with pc:=t.pc+1}:=by
 rw[Mach.loop,h];simp only[if_neg ho,hs]
theorem aU5{nm:Bool}{m:Msg}{n:Nat}{o:Ins}{s:MS}(h:¬(1≤o.op∧o.op≤13)):Mach.step nm m n o s=.error (12,s.pc):=by
 unfold Mach.step;rw[if_neg aI,if_neg aI,if_neg aI,if_neg aI,if_neg aI,if_neg aI,if_neg aI,if_neg aI,if_neg aI,if_neg aI,if_neg aI]
 rfl
theorem bIS{p:Prop}[Decidable p]{e q pc:Int}(h:(if p then (Except.ok ():Res Unit)else .error (12,pc))=.error (e,q)):¬p∧e=12∧q=pc:=by
 split at h
 ·cases h
 rename_i hp;cases h;exact⟨hp,rfl,rfl⟩
structure RI where
 st:Nat
 s:MS
 pv:Value
 K:Hl
theorem aUL(nm:Bool)(cv hv:Value)(vs:List InsV)(code:List Ins)(m:Msg)(K:Hl)(hg:Glob K)(hcv:Ksl d9 K cv vs)(hR:RIs K vs code)(hh:Ksl hdEl K hv m.hs)(hm:MsgOk m)(hc:∀o∈code,InsOk o)(hcl:code.length≤1000000):
  Sp Tryz.prog 54 [.bool nm,cv,.agg #[str m.from_,str m.to_,i64 m.size,hv]] K [] (RunR (Mach.run nm code m)):=by
 have hlen:vs.length=code.length:=hR.length;have hdl:aNA.length=15:=rfl;obtain⟨ha,hn,hcp,rfl⟩:=hh.isSlice;obtain⟨ca,cn,ccp,rfl⟩:=hcv.isSlice;refine aLN Tryz.func54 rfl Tryz.ntmps54 rfl rfl fun F w=>?_;refine zz3 ?_;rintro _ K _ ⟨b5,rfl,rfl,rfl⟩ -;refine zz1 ?_;rintro _ K _ ⟨b6,rfl,rfl,rfl⟩ -;refine zz2 ?_;rintro _ K _ ⟨b8,rfl,rfl,rfl⟩ -;refine zz5 ?_;refine aA (cL bUJ bSA (.cons rfl rfl rfl (.cons (.cons (.cons (.cons .nil)))) (.cons rfl rfl rfl (.skip (.skip (.skip (.skip (.skip (.cons .nil)))))) .nil))) rfl ?_;refine zz1 ?_;refine cC qT rfl ?_;rintro _ K _ ⟨b15,rfl,rfl,rfl⟩ -;refine aA (cL bUK bSB (.cons rfl rfl rfl (.cons (.cons (.cons (.cons (.cons (.cons .nil)))))) (.cons rfl rfl rfl (.skip (.skip (.skip (.skip (.skip (.skip (.cons .nil))))))) (.cons rfl rfl rfl (.skip (.skip (.skip (.skip (.skip (.skip (.skip (.cons .nil)))))))) .nil)))) rfl ?_;refine zz1 ?_;rintro _ K _ ⟨b17,rfl,rfl,rfl⟩ -;refine zz4 ?_;refine kF (bC5 (m:=m) (hv:=.slice ha hn hcp) (nm:=nm)) ?_;refine z8 (.cons .here (.cons .here (.cons .here .nil))) ?_;refine zz2 ?_;refine aT0 rfl ?_;refine zz6 ?_;refine aA (bO (k:=d9) rfl Tryz.underlying42 rfl aM) rfl ?_;refine zz3 ?_;refine bK 21 rfl (fun h21=>?_) (fun h21=>?_)
 ·refine zz2 ?_;refine bL rfl rfl (l7 _ 12 400 _) .nil rfl gAG ?_ ?_
  ·rintro _ _ _ ⟨fb,h,rfl⟩ le1;cases h
   refine uAr ?_;refine aP ?_;exact aIS rfl rfl rfl cB (by (unfold Mach.run;rw[if_pos aI])) aI
  rintro _ _ _ ⟨_,h,_⟩;cases h
 have hc4:code.length≤400:=by omega
 refine zz4 ?_;refine aX rfl rfl (aWQ _) .nil rfl ?_;rintro tv KD _ ⟨hTab,rfl⟩ leD;refine zz5 ?_;refine eJ (fun(q:RI)=>KD.le q.K∧Ksl (bN 9) q.K q.pv q.s.parts∧MInv q.s∧q.st≤q.s.pc∧q.s.pc≤code.length∧∃f,code.length≤f+q.s.pc∧Mach.run nm code m=Mach.loop nm m code (f+1) q.st q.s) (fun q=>[(1,.slice ca cn ccp),(6,ptr b6),(7,i64 q.st),(8,ptr b8),(9,ptr b17),(10,tv)]) (fun q=>q.K) (fun q=>[mch b17 b15 m (.slice ha hn hcp) q.pv nm q.s,pt b8 (aZ [.nilIface] 79),pt b6 (aZ [.slice none 0 0] 29)]) (fun q=>code.length - q.s.pc) ⟨0,Mach.start,.slice none 0 0,KD⟩ ⟨Hl.le_refl _,.inl ⟨none,0,rfl,rfl⟩,MInv.start,Nat.zero_le _,Nat.zero_le _,code.length,by omega,by unfold Mach.run;rw[if_neg aI]⟩ (.cons 1 rfl (.cons 6 rfl (.cons 7 rfl (.cons 8 rfl (.cons 9 rfl (.cons 10 rfl .nil)))))) rfl (fun _ h=>h) ?_;intro ⟨st,s,pv,K1⟩ ⟨hle,hpv,hinv,hst,hpc,f,hf,hx⟩;dsimp only at hle hpv hinv hst hpc hf hx ⊢;have hle0:=Hl.le_trans leD hle;have hcv1:=hcv.mono hle0;have hh1:=hh.mono hle0;have hg1:=hg.mono hle0;have hTab1:=hTab.mono hle;refine yG fun av sv fv c=>?_;refine aLQ (p:=av.oneCell'=true) (fun h hs=>?_) ?_
 ·obtain⟨_,l,_,hl,_,_⟩:=hs;obtain⟨y,_,hy,_,_,_⟩:=hl;obtain⟨a,n,c,rfl⟩:=aUW y hy;rfl
 intro hav;refine zz8 ?_;refine aA (bO (k:=d9) rfl Tryz.underlying42 rfl aM) rfl ?_;refine zz3 ?_;refine bK 31 rfl (fun h31=>?_) (fun h31=>?_)
 ·have hilt:s.pc < vs.length:=by omega
  obtain⟨v,hvv⟩:∃v,vs[s.pc]?=some v:=⟨vs[s.pc]'hilt,List.getElem?_eq_getElem hilt⟩;obtain⟨o,ho,hro⟩:=(hR.mono hle0).get hvv;obtain⟨vop,vn,vtag,voct,⟨va,hva⟩,⟨vb,hvb⟩,vat⟩:=v;obtain⟨rfl,rfl,rfl,rfl,rfl,hra,hrb⟩:=hro;dsimp only at hra hrb;obtain⟨sa,sn,sc,rfl⟩:=hra.isSlice;obtain⟨ta,tn,tc,rfl⟩:=hrb.isSlice;have hoo:=hc o (List.mem_of_getElem? ho);refine zz17 ?_;refine aA (bE (k:=d9) fV rfl aM rfl rfl gAD) rfl ?_;refine aA (dC (n:=0) (k:=d9) kM rfl aM cB) rfl ?_;refine zz1 ?_;rintro _ K _ ⟨b11,rfl,rfl,rfl⟩ -;refine cA (cK kM rfl rfl rfl bF gAA (.cons (.cons (.cons (.cons (.cons (.cons (.cons .nil))))))) gAJ) ?_;rintro _ K _ ⟨rfl,rfl⟩ -;refine zz10 ?_;refine bK 43 rfl (fun h43=>?_) (fun h43=>?_)
  ·have h43:o.op=14:=h43;have hx:=hx.trans (bCP ho h43);refine zz16 ?_;refine eO 77 rfl (fun h77=>?_) (fun h77=>?_)
   ·refine zz7 ?_;refine uAu ?_;refine cC (bH (z0:=[.int .i64 0,(str [])]) gK aIC rfl rfl rfl rfl (.cons rfl rfl rfl (.cons (.cons .nil)) .nil)) rfl ?_;rintro _ K _ ⟨b85,rfl,rfl,rfl⟩ -;refine cC (dN (k:=cS) (ys:=[((1:Int),([]:List UInt8))]) qD rfl rfl bF (fun w j=>dE Tryz.underlying29 (SeesSl.at (k:=cS) (.blk (.own .here) rfl rfl) j)) gCB gCB) rfl ?_;rintro v86 K _ ⟨rfl,rfl,ho86⟩ -;refine zz3 ?_;refine cA (bP oS rfl rfl cJ bF (.succ (.succ (.succ (.succ .zero)))) rfl) ?_;rintro _ K _ ⟨rfl,rfl⟩ -;refine zz10 ?_;refine uBt ?_;rintro _ K _ ⟨rfl,rfl⟩ -;refine zz1 ?_;refine uAx ?_;rintro _ K _ ⟨rfl,rfl⟩ -;refine zz3 ?_
    (refine aU (.cons (.there (.there (.there (.there (.there (.there (.there .here))))))) (.cons (.there (.there (.there (.there (.there (.there .here)))))) (.cons .here .nil))) ?_;exact aIR rfl rfl rfl hle0 (by rw[hx,if_pos h77]) aI)
   refine zz10 ?_;refine uBt ?_;rintro _ K _ ⟨rfl,rfl⟩ -;refine zz1 ?_;refine uAx ?_;rintro _ K _ ⟨rfl,rfl⟩ -;refine zz3 ?_
   (refine aU (.cons (.there (.there (.there (.there (.there (.there .here)))))) (.cons (.there (.there (.there (.there (.there .here))))) (.cons (.there (.there .here)) .nil))) ?_;exact aIR rfl rfl rfl hle0 (by rw[hx,if_neg (by rw[h77];decide)]) aI)
  have h43:¬o.op=14:=h43;refine zz9 ?_;refine cH 48 rfl (fun g48=>?_) (fun g48=>?_)
  ·have g48:0 < o.op:=g48;refine zz7 ?_;refine aA (bO (k:=(e7 184)) rfl Tryz.underlying181 rfl aM) rfl ?_;refine zz3 ?_;refine bL rfl rfl (tR (o.op < (aNA.length:Int)) _ _ _ _ _ _ _ _ _ _ _ _ _) (.cons (.there .here) .nil) rfl (fun _ _=>bQ _ _) ?_ ?_
   ·rintro _ _ _ hTr le1;obtain⟨e,p,hu,fb,h,rfl⟩:=bR hTr;cases h
    refine aU (.cons .here (.cons (.there (.there (.there (.there .here)))) (.cons (.there (.there (.there (.there .here)))) .nil))) ?_;refine zz5 ?_;exact aIS rfl rfl rfl (Hl.le_trans hle0 le1) (by (obtain⟨q1,rfl,rfl⟩:=bIS hu;rw[hx,aKM ho h43 (aU5 aI)])) aI
   rintro _ K _ hTr -;obtain⟨u0,hu,rfl,rfl,rfl⟩:=bS hTr;clear hTr;have hbl:o.op < (aNA.length:Int):=Classical.byContradiction (fun h=>by rw[if_neg h]at hu;cases hu);have hop:1≤o.op∧o.op≤13:=⟨by omega,by omega⟩;refine zz3 ?_;refine aB5 (.cons .here (.cons (.there .here) (.cons (.there .here) (.cons (.there .here) .nil)))) ?_;refine kF (j5 (m:=m) (hv:=.slice ha hn hcp) (pv:=pv) (nm:=nm) (s:=s)) ?_;refine dD (anc:=[0,0,2,7,15,0,0,0,128,511]) (ord:=[0,1,2,3,4,5,6,7,8,9]) [9] [9] mixed gAH (dI _) ?_;refine zz3 ?_;refine aK rfl rfl (.none rfl) rfl rfl (bE (k:=e7 184) (j:=o.op.toNat) aH3 rfl (.known hTab1) rfl (show o.op=(o.op.toNat:Int) by omega) aI) rfl ?_;refine aK rfl rfl (.none rfl) rfl rfl (dP (o:=0) (k:=e7 184) bUY rfl (.known hTab1) (bG6 hop) rfl) rfl ?_;refine zz3 ?_;refine aK rfl rfl (.none rfl) rfl rfl (bO (k:=d9) rfl Tryz.underlying42 rfl aM) rfl ?_;refine aWP (fr':=[(6,ptr b6),(7,i64 ((st:Int)+1)),(8,ptr b8)]) rfl (.none rfl) rfl rfl rfl (aYN b17 b15 m (.slice ha hn hcp) pv nm s o (.slice sa sn sc) (.slice ta tn tc) vs.length _ hop hg1 hpv hra hrb hh1 hm hoo hinv aI aI) (.cons .here .nil) rfl (fun _ _=>bQ _ _) (.cons 6 rfl (.cons 7 rfl (.cons 8 rfl .nil))) rfl ?_ ?_
   ·rintro _ _ _ hTr le1;obtain⟨e,p,hq,fb,h,rfl⟩:=bR hTr;cases h
    refine uAr ?_;refine zz5 ?_;exact aIS rfl rfl rfl (Hl.le_trans hle0 le1) (by (rw[hlen]at hq;rw[hx,aKM ho h43 hq])) aI
   rintro _ K3 _ hTr leK3;obtain⟨t,hq,rfl,pv3,hpv3,rfl⟩:=bS hTr;clear hTr;rw[hlen]at hq;have hinv2:=hinv.step hm hoo hq;have hinv3:MInv {t with pc:=t.pc+1}:=⟨hinv2.stack,hinv2.acts,hinv2.vars,hinv2.parts⟩;have hp2:=aE3 hq (by omega:s.pc < code.length);refine zz2 ?_;refine yG fun av3 sv3 fv3 c3=>?_;refine zz8 ?_;refine cA (bP ts3 rfl rfl cJ bF (.succ (.succ (.succ (.succ (.succ (.succ (.succ (.succ (.succ (.succ .zero)))))))))) rfl) ?_;rintro _ K _ ⟨rfl,rfl⟩ -;refine zz2 ?_;have hp3:=aE3 hq (by omega:s.pc < code.length);have e:((t.pc+1:Nat):Int)=(t.pc:Int)+1:=by omega
   refine fK (fun h hh=>j5 (m:=m) (hv:=.slice ha hn hcp) (pv:=pv3) (nm:=nm) (s:={t with pc:=t.pc+1}) h (by show Sat (mblk _ _ _ _ _ _ _ _ _ _ _ ((t.pc+1:Nat):Int)::_) h;rw[e];exact hh)) ?_;refine uAr ?_;exact dF ⟨st+1,{t with pc:=t.pc+1},pv3,_⟩ ⟨Hl.le_trans hle leK3,hpv3,hinv3,by (show st+1≤t.pc+1);omega,by (show t.pc+1≤code.length);omega,f - 1,by (show code.length≤f - 1+(t.pc+1));omega,by have e2:f - 1+1=f:=aI;rw[e2,hx,aIK ho h43 hq]⟩ (by (show code.length - (t.pc+1) < code.length - s.pc);omega) (.cons 1 rfl (.cons 6 rfl (.cons 7 rfl (.cons 8 rfl (.cons 9 rfl (.cons 10 rfl .nil)))))) rfl (fun _ h=>h)
  have g48:¬0 < o.op:=g48;refine zz6 ?_;refine bL rfl rfl (uP _ _ _ _ _ _ _ _ _ _ _ _ _) (.cons (.there .here) .nil) rfl gAG ?_ ?_
  ·rintro _ _ _ ⟨fb,h,rfl⟩ le1;cases h
   refine aU (.cons .here (.cons (.there (.there (.there (.there .here)))) (.cons (.there (.there (.there (.there .here)))) .nil))) ?_;refine zz5 ?_;exact aIS rfl rfl rfl (Hl.le_trans hle0 le1) (by rw[hx,aKM ho h43 (aU5 aI)]) aI
  rintro _ _ _ ⟨_,h,_⟩;cases h
 have hx:=hx.trans (bCO aI);refine zz15 ?_;refine eO 77 rfl (fun h77=>?_) (fun h77=>?_)
 ·refine zz7 ?_;refine uAu ?_;refine cC (bH (z0:=[.int .i64 0,(str [])]) gK aIC rfl rfl rfl rfl (.cons rfl rfl rfl (.cons (.cons .nil)) .nil)) rfl ?_;rintro _ K _ ⟨b85,rfl,rfl,rfl⟩ -;refine cC (dN (k:=cS) (ys:=[((1:Int),([]:List UInt8))]) qD rfl rfl bF (fun w j=>dE Tryz.underlying29 (SeesSl.at (k:=cS) (.blk (.own .here) rfl rfl) j)) gCB gCB) rfl ?_;rintro v86 K _ ⟨rfl,rfl,ho86⟩ -;refine zz3 ?_;refine cA (bP oS rfl rfl cJ bF (.succ (.succ (.succ (.succ .zero)))) rfl) ?_;rintro _ K _ ⟨rfl,rfl⟩ -;refine zz10 ?_;refine uBt ?_;rintro _ K _ ⟨rfl,rfl⟩ -;refine zz1 ?_;refine uAx ?_;rintro _ K _ ⟨rfl,rfl⟩ -;refine zz3 ?_
  (refine aU (.cons (.there (.there (.there (.there (.there (.there .here)))))) (.cons (.there (.there (.there (.there (.there .here))))) (.cons .here .nil))) ?_;exact aIR rfl rfl rfl hle0 (by rw[hx,if_pos h77]) aI)
 refine zz10 ?_;refine uBt ?_;rintro _ K _ ⟨rfl,rfl⟩ -;refine zz1 ?_;refine uAx ?_;rintro _ K _ ⟨rfl,rfl⟩ -;refine zz3 ?_
 (refine aU (.cons (.there (.there (.there (.there (.there .here))))) (.cons (.there (.there (.there (.there .here)))) (.cons (.there .here) .nil))) ?_;exact aIR rfl rfl rfl hle0 (by rw[hx,if_neg (by rw[h77];decide)]) aI)
end Go.Proofs
end

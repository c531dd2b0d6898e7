/-
  What the proof stands on, part 32: the logic of walks, the walks through the functions, the plain laws. Conditions: as each theorem says. (Merged and shortened by a program.)
-/
import Derived.Lib.ItoaLen
import Derived.Test.YthopmddkpdehiaaGreatDoorK11
set_option linter.unusedVariables false
set_option linter.unusedSimpArgs false
set_option maxRecDepth 4000
set_option maxHeartbeats 1000000
section
namespace Go.Box
open Go.Syn
abbrev File:=aJ×aJ
abbrev DMap:=aJ→Option aJ
def DMap.put(f:DMap)(n d:aJ):DMap:=fun x=>if x=n then some d else f x
def DMap.cut(f:DMap)(n:aJ):DMap:=fun x=>if x=n then none else f x
abbrev Er:=Option Int
structure OpR where
 kind:Int
 name:aJ
 to:aJ
 data:aJ
def doF(f:DMap)(o:OpR):DMap:=if o.kind=1 then f.put o.name o.data else f.cut o.name
structure DSt where
 dur:DMap
 now:DMap
 pend:List OpR
 left:Int
 full:Int
 down:Bool
def fX(l f:Int)(dn:Bool):Er×Int×Int×Bool:=
 if dn=true∨l=0 then (some 16,l,f,true)
 else if f=0 then (some 15,IntKind.i64.wrap (l - 1),-1,false)
 else (none,IntKind.i64.wrap (l - 1),IntKind.i64.wrap (f - 1),false)
def DSt.we(s:DSt):Er:=(fX s.left s.full s.down).1
def DSt.ws(s:DSt):DSt:={s with left:=(fX s.left s.full s.down).2.1,full:=(fX s.left s.full s.down).2.2.1,down:=(fX s.left s.full s.down).2.2.2}
def DSt.told(s:DSt)(o:OpR):DSt:={s with now:=doF s.now o,pend:=s.pend++[o]}
def DSt.add(s:DSt)(o:OpR):DSt:={s with pend:=s.pend++[o]}
def gP(o:OpR)(s:DSt):Er×DSt:=
 if s.we.isSome=true then (s.we,s.ws)else if s.now o.name=none∧1 < o.kind then (some 14,s.ws)else (none,s.ws.told o)
theorem bEU{o:OpR}{s:DSt}{e l2 f2:Int}{dn2:Bool}(hw:fX s.left s.full s.down=(some e,l2,f2,dn2)):gP o s=(some e,{s with left:=l2,full:=f2,down:=dn2}):=by
 simp[gP,DSt.we,DSt.ws,hw]
theorem bKY{o:OpR}{s:DSt}{l2 f2:Int}{dn2:Bool}(hw:fX s.left s.full s.down=(none,l2,f2,dn2))(h1:s.now o.name=none)(h2:1 < o.kind):gP o s=(some 14,{s with left:=l2,full:=f2,down:=dn2}):=by
 simp[gP,DSt.we,DSt.ws,hw,h1,h2]
theorem aE9{o:OpR}{s:DSt}{l2 f2:Int}{dn2:Bool}(hw:fX s.left s.full s.down=(none,l2,f2,dn2))(h:¬(s.now o.name=none∧1 < o.kind)):gP o s=(none,({s with left:=l2,full:=f2,down:=dn2}:DSt).told o):=by
 simp only[gP,DSt.we,DSt.ws,hw];rw[if_neg (by simp),if_neg h]
theorem aC4(o:OpR)(s:DSt):(gP o s).2.pend.length≤s.pend.length+1:=by
 unfold gP;split
 ·exact Nat.le_succ _
 split
 ·exact Nat.le_succ _
 simp[DSt.told,DSt.ws]
def fC(n d:aJ)(s:DSt):Er×DSt:=
 if (gP ⟨1,n,[],d⟩ s).1=some 16 then (some 16,(gP ⟨1,n,[],d⟩ s).2.add ⟨1,n,[],d⟩)else gP ⟨1,n,[],d⟩ s
theorem bLN(n d:aJ)(s:DSt):(fC n d s).1=(gP ⟨1,n,[],d⟩ s).1:=by unfold fC;split <;> simp_all
theorem aBT{n d:aJ}{s:DSt}(h:(gP ⟨1,n,[],d⟩ s).1=some 16):(fC n d s).2=(gP ⟨1,n,[],d⟩ s).2.add ⟨1,n,[],d⟩:=by unfold fC;rw[if_pos h]
theorem aBS{n d:aJ}{s:DSt}(h:¬(gP ⟨1,n,[],d⟩ s).1=some 16):(fC n d s).2=(gP ⟨1,n,[],d⟩ s).2:=by unfold fC;rw[if_neg h]
theorem u9(n d:aJ)(s:DSt):(fC n d s).2.pend.length≤s.pend.length+1:=by
 by_cases h:(gP ⟨1,n,[],d⟩ s).1=some 16
 ·rw[aBT h];have:(gP ⟨1,n,[],d⟩ s).2.pend.length=s.pend.length:=by
   unfold gP at h ⊢;split
   ·rfl
   rename_i hn;rw[if_neg hn]at h;split at h <;> cases h
  simp[DSt.add,this]
 rw[aBS h];exact aC4 _ _
def eV(n:aJ)(s:DSt):Er×DSt:=gP ⟨3,n,[],[]⟩ s
def DSt.flush(s:DSt):DSt:={s with dur:=s.pend.foldl doF s.dur,pend:=[]}
def d6(s:DSt):Er×DSt:=if s.we.isSome=true then (s.we,s.ws)else (none,s.ws.flush)
def r6(n:aJ)(s:DSt):aJ×Er:=if s.down=true then ([],some 16)else match s.now n with
 |none=>([],some 14)
 |some d=>(d,none)
def dZ:List (DSt→Er×DSt)→DSt→Er×DSt
 | [],s=>(none,s)
 |f::fs,s=>if (f s).1.isSome=true then f s else dZ fs (f s).2
def bM:aJ:=[46,106,111,117,114,110,97,108]
def sumC(s:aJ):Nat:=s.foldl (fun h c=>((h^^^c.toNat)*1099511628211) % 18446744073709551616) 14695981039346656037
def xE(n:Nat):UInt8:=if n < 10 then UInt8.ofNat (48+n)else UInt8.ofNat (87+n)
def hexN(n:Nat):aJ:=if h:n < 16 then [xE n]else hexN (n / 16)++[xE (n % 16)]
 termination_by n
 decreasing_by omega
def entryC(f:File):aJ:=f.1++[32]++Lib.itoa f.2.length++[10]++f.2
def bodyC(files:List File):aJ:=files.flatMap entryC
def tD(body:aJ):aJ:=Lib.itoa body.length++[32]++hexN (sumC body)
def gJ(files:List File):aJ:=tD (bodyC files)++[10]++bodyC files
def gB(files:List File):List (DSt→Er×DSt):=files.map fun f=>fC f.1 f.2
def iM(files:List File):DSt→Er×DSt:=dZ (gB files++[d6,eV bM,d6])
def iC(files:List File):DSt→Er×DSt:=dZ [fC bM (gJ files),d6,iM files]
theorem zZ:∀(gs:List (DSt→Er×DSt)) (s:DSt),(∀g∈gs,∀s:DSt,(g s).2.pend.length≤s.pend.length+1)→(dZ gs s).2.pend.length≤s.pend.length+gs.length
 | [],s,_=>Nat.le_refl _
 |g::gs,s,h=>by
  have h1:=h g List.mem_cons_self s;have h2:=zZ gs (g s).2 fun g' hg=>h g' (List.mem_cons_of_mem _ hg)
  simp only[dZ,List.length_cons];split <;> omega
theorem pE(s:DSt):(d6 s).2.pend.length≤s.pend.length:=by
 unfold d6;split
 ·exact Nat.le_refl _
 simp[DSt.flush]
theorem sE(n:aJ)(s:DSt):(eV n s).2.pend.length≤s.pend.length+1:=aC4 _ _
theorem xD(files:List File)(s:DSt):(iM files s).2.pend.length≤s.pend.length+files.length+3:=by
 have:=zZ (gB files++[d6,eV bM,d6]) s fun g hg s=>by
  rcases List.mem_append.1 hg with h|h
  ·obtain⟨f,_,rfl⟩:=List.mem_map.1 h;exact u9 _ _ _
  simp at h;rcases h with rfl|rfl|rfl
  ·have:=pE s;omega
  ·exact sE _ _
  have:=pE s;omega
 simp[gB]at this;unfold iM;simp only[gB];omega
theorem yZ{f:File}{files:List File}(h:f∈files):(entryC f).length≤(bodyC files).length:=by
 induction files with
 |nil=>cases h
 |cons a r ih=>
  simp only[bodyC,List.flatMap_cons,List.length_append];rcases List.mem_cons.1 h with rfl|h
  ·omega
  have:=ih h;simp only[bodyC]at this;omega
theorem aMX{files:List File}{i:Nat}{f:File}(h:files[i]?=some f):bodyC (files.take (i+1))=bodyC (files.take i)++entryC f:=by
 have hi:i < files.length:=by
  rcases Nat.lt_or_ge i files.length with h'|h'
  ·exact h'
  simp[List.getElem?_eq_none h']at h
 rw[List.getElem?_eq_getElem hi]at h;cases h
 unfold bodyC;rw[List.take_succ_eq_append_getElem hi,List.flatMap_append];simp only[List.flatMap_cons,List.flatMap_nil,List.append_nil]
theorem aDJ(files:List File)(i:Nat):(bodyC (files.take i)).length≤(bodyC files).length:=by
 have:bodyC files=bodyC (files.take i)++bodyC (files.drop i):=by
  unfold bodyC;rw[←List.flatMap_append,List.take_append_drop]
 rw[this];simp
def sH(h:Nat)(c:UInt8):Nat:=((h^^^c.toNat)*1099511628211) % 18446744073709551616
theorem bAL(s:aJ):sumC s=s.foldl sH 14695981039346656037:=rfl
theorem aC3(s:aJ):sumC s < 18446744073709551616:=by
 rw[bAL];have:∀(l:aJ) (h:Nat),h < 18446744073709551616→l.foldl sH h < 18446744073709551616:=by
  intro l;induction l with
  |nil=>intro h hh;exact hh
  |cons c r ih=>intro h _;exact ih _ (Nat.mod_lt _ aI)
 exact this s _ aI
theorem aEC{n:Nat}(h:n < 18446744073709551616):(hexN n).length≤16:=by
 have:∀k n,n < 16 ^ (k+1)→(hexN n).length≤k+1:=by
  intro k;induction k with
  |zero=>intro n hn;rw[hexN,dif_pos (by simpa using hn)];simp
  |succ k ih=>
   intro n hn;rw[hexN];split
   ·simp
   rw[List.length_append];have:=ih (n / 16) (Nat.div_lt_of_lt_mul (by rw[Nat.mul_comm,←Nat.pow_succ];exact hn));simp;omega
 exact this 15 n gBZ
inductive Left:Bool→List OpR→DMap→DMap→Prop where
 |nil {b f}:Left b [] f f
 |lost {b o os f g}:Left b os f g→Left b (o::os) f g
 |kept {b o os f g}:Left b os (doF f o) g→Left b (o::os) f g
 |torn {o os f g d}:o.kind=1→d<+:o.data→Left false os (f.put o.name d) g→Left true (o::os) f g
 |none {b o os f g}:1 < o.kind→f o.name=none→Left b os f g→Left b (o::os) f g
theorem kK{α:Type}{l:List α}{i:Nat}{o:α}(hx:l[i]?=some o):l.drop i=o::l.drop (i+1):=by
 have hi:i < l.length:=by
  rcases Nat.lt_or_ge i l.length with h|h
  ·exact h
  simp[List.getElem?_eq_none h]at hx
 rw[List.drop_eq_getElem_cons hi];rw[List.getElem?_eq_getElem hi]at hx;cases hx;rfl
theorem Left.mono{b:Bool}{os:List OpR}{f g:DMap}(h:Left b os f g):∀ {b':Bool},(b=true→b'=true)→Left b' os f g:=by
 induction h with
 |nil=>intro b' _;exact .nil
 |lost _ ih=>intro b' hb;exact .lost (ih hb)
 |kept _ ih=>intro b' hb;exact .kept (ih hb)
 |torn h1 h2 h3 ih=>intro b' hb;rw[hb rfl];exact .torn h1 h2 h3
 |none h1 h2 _ ih=>intro b' hb;exact .none h1 h2 (ih hb)
def CrI(pend:List OpR)(dur:DMap)(r i:Nat)(g:DMap):Prop:=∀x,Left (decide (i≤r)) (pend.drop i) g x→Left true pend dur x
section
variable{pend:List OpR}{dur g:DMap}{r i:Nat}{o:OpR}
theorem CrI.init:CrI pend dur r 0 dur:=fun x h=>by simpa using h
theorem CrI.lost (hx : pend[i]? = some o) (h : CrI pend dur r i g) : CrI pend dur r (i + 1) g := fun x k => h x (by
 rw[kK hx];exact .lost (k.mono fun e=>by have:=of_decide_eq_true e;exact decide_eq_true aI))
theorem CrI.none (hx : pend[i]? = some o) (h1 : 1 < o.kind) (h2 : g o.name = Option.none) (h : CrI pend dur r i g) : CrI pend dur r (i + 1) g := fun x k => h x (by
 rw[kK hx];exact .none h1 h2 (k.mono fun e=>by have:=of_decide_eq_true e;exact decide_eq_true aI))
theorem CrI.kept (hx : pend[i]? = some o) (h : CrI pend dur r i g) : CrI pend dur r (i + 1) (doF g o) := fun x k => h x (by
 rw[kK hx];exact .kept (k.mono fun e=>by have:=of_decide_eq_true e;exact decide_eq_true aI))
theorem CrI.torn {d : aJ} (hx : pend[i]? = some o) (h1 : o.kind = 1) (hr : i = r) (hd : d <+: o.data) (h : CrI pend dur r i g) : CrI pend dur r (i + 1) (g.put o.name d) := fun x k => h x (by
 rw[kK hx,decide_eq_true (by omega:i≤r)];rw[decide_eq_false (by omega:¬i+1≤r)]at k;exact .torn h1 hd k)
theorem CrI.do{d:aJ}(hx:pend[i]?=some o)(hd:d=o.data∨o.kind=1∧i=r∧d<+:o.data)(h:CrI pend dur r i g):CrI pend dur r (i+1) (doF g {o with data:=d}):=by
 rcases hd with rfl|⟨h1,h2,h3⟩
 ·exact h.kept hx
 have:=h.torn hx h1 h2 h3
 simpa[doF,h1]using this
theorem CrI.done(h:CrI pend dur r pend.length g):Left true pend dur g:=h g (by simpa using Left.nil)
end
def aC9(s t:DSt):Prop:=Left true s.pend s.dur t.dur∧t.now=t.dur∧t.pend=[]∧t.left= -1∧t.full= -1∧t.down=false
def vX:aJ:=[47]
def vM:aJ:=[105,110,98,111,120,47]
def boxP:aJ:=[98,111,120,47]
def outP:aJ:=[111,117,116,47]
def toP:aJ:=[116,111,32]
def rejP:aJ:=[114,101,106,101,99,116,32]
def outN(id:aJ)(i:Nat):aJ:=outP++id++[46]++Lib.itoa i
def eQ(id text:aJ)(i:Nat)(a:Mach.Action):Except Int File:=
 if a.1=1 then .ok (vM++id,text)
 else if a.1=2 then if Mach.boxed a.2=true then .ok (boxP++a.2++vX++id,text)else .error 8
 else if a.1=3 then .ok (outN id i,toP++a.2++[10]++text)
 else if a.1=4 then .ok (outN id i,rejP++a.2++[10]++text)
 else .error 7
def lZ(id text:aJ):Nat→List Mach.Action→Except Int (List File)
 |_,[]=>.ok []
 |i,a::r=>match eQ id text i a with
  | .error e=>.error e
  | .ok f=>match lZ id text (i+1) r with
   | .error e=>.error e
   | .ok fs=>.ok (f::fs)
def nJ(id:aJ):Bool:=decide (id=[])||decide (8 < id.length)||(id.any fun c=>[46,45].contains c)||!Mach.boxed id
def eY(id:aJ)(acts:List Mach.Action)(text:aJ):Except Int (List File):=
 if nJ id=true then .error 13 else if 6 < acts.length then .error 11 else lZ id text 0 acts
def vC(acc:List File):Except Int (List File)→Except Int (List File)
 | .error e=>.error e
 | .ok fs=>.ok (acc++fs)
theorem aS0{id text:aJ}{i:Nat}{acts:List Mach.Action}{a:Mach.Action}{f:File}{acc:List File}(ha:acts[i]?=some a)(hf:eQ id text i a=.ok f):
  vC acc (lZ id text i (acts.drop i))=vC (acc++[f]) (lZ id text (i+1) (acts.drop (i+1))):=by
 rw[kK ha,lZ,hf];cases lZ id text (i+1) (acts.drop (i+1))with
 |error e=>rfl
 |ok fs=>simp[vC]
theorem aA1{id text:aJ}{i:Nat}{acts:List Mach.Action}{a:Mach.Action}{e:Int}{acc:List File}(ha:acts[i]?=some a)(hf:eQ id text i a=.error e):
  vC acc (lZ id text i (acts.drop i))=.error e:=by rw[kK ha,lZ,hf];rfl
theorem aIO{xs:List File}(hb:(bodyC xs).length≤1000000000):(gJ xs).length≤140737488355328:=by
 have h1:=Lib.itoa_length_le ((bodyC xs).length:Int) aI aI;have h2:=aEC (aC3 (bodyC xs));simp only[gJ,tD,List.length_append,List.length_singleton];omega
theorem boxed_len{a:aJ}(h:Mach.boxed a=true):a.length≤16:=by
 unfold Mach.boxed at h;simp only[Bool.and_eq_true,decide_eq_true_eq]at h;exact h.2
theorem bI6(id:aJ){i:Nat}(hi:i≤1000000):(outN id i).length≤id.length+26:=by
 have:=Lib.itoa_length_le (i:Int) aI aI;simp only[outN,outP,List.length_append,List.length_cons,List.length_nil];omega
theorem aW8{id text:aJ}{i:Nat}{a:Mach.Action}{f:File}(h:eQ id text i a=.ok f)(hid:id.length≤8)(ht:text.length≤1048576)(ha:a.2.length≤1048576)(hi:i≤1000000):(entryC f).length≤3000000:=by
 have ho:=bI6 id hi;have key:∀f:File,f.1.length≤40→f.2.length≤2100000→(entryC f).length≤3000000:=fun f h1 h2=>by
  have:=Lib.itoa_length_le (f.2.length:Int) aI aI;simp only[entryC,List.length_append,List.length_cons,List.length_nil];omega
 unfold eQ at h;split at h
 ·cases h;exact key _ (by simp[vM];omega) gAI
 split at h
 ·split at h
  ·rename_i hb;have:=boxed_len hb;cases h;exact key _ (by simp[boxP,vX];omega) gAI
  cases h
 split at h
 ·cases h;exact key _ gAI (by simp[toP];omega)
 split at h
 ·cases h;exact key _ gAI (by simp[rejP];omega)
 cases h
theorem aNE{id text:aJ}(hid:id.length≤8)(ht:text.length≤1048576):∀ {acts:List Mach.Action} {i:Nat} {fs:List File},(∀a∈acts,a.2.length≤1048576)→i+acts.length≤1000000→lZ id text i acts=.ok fs→fs.length=acts.length∧(bodyC fs).length≤3000000*acts.length
 | [],i,fs,_,_,h=>by cases h;exact⟨rfl,by simp[bodyC]⟩
 |a::r,i,fs,ha,hi,h=>by
  simp only[List.length_cons]at hi;unfold lZ at h;cases hf:eQ id text i a with
  |error e=>rw[hf]at h;cases h
  |ok f=>
   rw[hf]at h;simp only at h;cases hr:lZ id text (i+1) r with
   |error e=>rw[hr]at h;cases h
   |ok fs'=>
    rw[hr]at h;cases h
    have h1:=aW8 hf hid ht (ha a List.mem_cons_self) aI;have h2:=aNE hid ht (fun a h=>ha a (List.mem_cons_of_mem _ h)) aI hr;refine⟨by simp[h2.1],?_⟩
    have h3:=h2.2;simp only[bodyC,List.flatMap_cons,List.length_append,List.length_cons]at h3 ⊢;omega
theorem xC{id text:aJ}{acts:List Mach.Action}{fs:List File}(ht:text.length≤1048576)(ha:∀a∈acts,a.2.length≤1048576)(h:eY id acts text=.ok fs):fs.length=acts.length∧acts.length≤6∧(bodyC fs).length≤100000000:=by
 unfold eY at h;split at h
 ·cases h
 rename_i hb;split at h
 ·cases h
 have hid:id.length≤8:=by
  unfold nJ at hb;simp only[Bool.or_eq_true,not_or,decide_eq_true_eq]at hb;omega
 have:=aNE hid ht ha aI h;refine⟨this.1,by omega,?_⟩
 have:=this.2;omega
def DSt.set(s:DSt)(l f:Int):DSt:={s with left:=l,full:=f}
def iK(id:aJ)(acts:List Mach.Action)(text:aJ)(s:DSt):Er×DSt:=match eY id acts text with
 | .error e=>(some e,s)
 | .ok xs=>iC xs s
def errn:Er→Int
 |none=>0
 |some n=>n
def kX(s t:DSt):Prop:=if s.down=true then ∃u,aC9 s u∧t=u.set (-1) (-1)else t=s.set (-1) (-1)
end Go.Box
end

/-
  What the proof stands on, part 8: the logic of walks, the walks through the functions, the plain laws. Conditions: as each theorem says. (Merged and shortened by a program.)
-/
import Derived.Lib.ItoaLen
import Derived.KernelRfl
import Derived.Deep.DeepHandedRow
import Derived.Laws.IdiomRangeMap
import Derived.Test.YthopmddkpdehiaaGreatDoorProg
import Derived.Shelf.GgSortFunc.Lays
import Derived.Shelf.SlSortFuncK.WholeK
import Derived.Shelf.GgSortFunc.Tiny
import Derived.Sort.Walk0
import Derived.Lib.Atoi
import Derived.Lib.ItoaMem
import Derived.Lib.IndexMore
import Derived.Shelf.Strconv.Atoi
import Derived.Test.YthopmddkpdehiaaGreatDoorK1
import Derived.Test.YthopmddkpdehiaaGreatDoorK2
import Derived.Test.YthopmddkpdehiaaGreatDoorK3
import Derived.Test.YthopmddkpdehiaaGreatDoorK4
import Derived.Test.YthopmddkpdehiaaGreatDoorK5
import Derived.Test.YthopmddkpdehiaaGreatDoorK6
import Derived.Test.YthopmddkpdehiaaGreatDoorK7
set_option linter.unusedVariables false
set_option linter.unusedSimpArgs false
section
namespace Go.Box
open Go.Syn
abbrev File:=aM×aM
abbrev DMap:=aM→Option aM
def DMap.put(f:DMap)(n d:aM):DMap:=fun x=>if x=n then some d else f x
def DMap.cut(f:DMap)(n:aM):DMap:=fun x=>if x=n then none else f x
abbrev Er:=Option Int
structure OpR where
 kind:Int
 name:aM
 to:aM
 data:aM
def doF(f:DMap)(o:OpR):DMap:=if o.kind=1 then f.put o.name o.data else f.cut o.name
structure DSt where
 dur:DMap
 now:DMap
 pend:List OpR
 left:Int
 full:Int
 down:Bool
def eC(l f:Int)(dn:Bool):Er×Int×Int×Bool:=
 if dn=true∨l=0 then (some 16,l,f,true)
 else if f=0 then (some 15,IntKind.i64.wrap (l - 1),-1,false)
 else (none,IntKind.i64.wrap (l - 1),IntKind.i64.wrap (f - 1),false)
def DSt.we(s:DSt):Er:=(eC s.left s.full s.down).1
def DSt.ws(s:DSt):DSt:={s with left:=(eC s.left s.full s.down).2.1,full:=(eC s.left s.full s.down).2.2.1,down:=(eC s.left s.full s.down).2.2.2}
def DSt.told(s:DSt)(o:OpR):DSt:={s with now:=doF s.now o,pend:=s.pend++[o]}
def DSt.add(s:DSt)(o:OpR):DSt:={s with pend:=s.pend++[o]}
def e6(o:OpR)(s:DSt):Er×DSt:=
 if s.we.isSome=true then (s.we,s.ws)else if s.now o.name=none∧1 < o.kind then (some 14,s.ws)else (none,s.ws.told o)
theorem aN7{o:OpR}{s:DSt}{e l2 f2:Int}{dn2:Bool}(hw:eC s.left s.full s.down=(some e,l2,f2,dn2)):e6 o s=(some e,{s with left:=l2,full:=f2,down:=dn2}):=by
 simp[e6,DSt.we,DSt.ws,hw]
theorem aR9{o:OpR}{s:DSt}{l2 f2:Int}{dn2:Bool}(hw:eC s.left s.full s.down=(none,l2,f2,dn2))(h1:s.now o.name=none)(h2:1 < o.kind):e6 o s=(some 14,{s with left:=l2,full:=f2,down:=dn2}):=by
 simp[e6,DSt.we,DSt.ws,hw,h1,h2]
theorem vL{o:OpR}{s:DSt}{l2 f2:Int}{dn2:Bool}(hw:eC s.left s.full s.down=(none,l2,f2,dn2))(h:¬(s.now o.name=none∧1 < o.kind)):e6 o s=(none,({s with left:=l2,full:=f2,down:=dn2}:DSt).told o):=by
 simp only[e6,DSt.we,DSt.ws,hw];rw[if_neg (by simp),if_neg h]
theorem uC(o:OpR)(s:DSt):(e6 o s).2.pend.length≤s.pend.length+1:=by
 unfold e6;split
 ·exact Nat.le_succ _
 ·split
  ·exact Nat.le_succ _
  ·simp[DSt.told,DSt.ws]
def eP(n d:aM)(s:DSt):Er×DSt:=
 if (e6 ⟨1,n,[],d⟩ s).1=some 16 then (some 16,(e6 ⟨1,n,[],d⟩ s).2.add ⟨1,n,[],d⟩)else e6 ⟨1,n,[],d⟩ s
theorem aSZ(n d:aM)(s:DSt):(eP n d s).1=(e6 ⟨1,n,[],d⟩ s).1:=by unfold eP;split <;> simp_all
theorem s0{n d:aM}{s:DSt}(h:(e6 ⟨1,n,[],d⟩ s).1=some 16):(eP n d s).2=(e6 ⟨1,n,[],d⟩ s).2.add ⟨1,n,[],d⟩:=by unfold eP;rw[if_pos h]
theorem sZ{n d:aM}{s:DSt}(h:¬(e6 ⟨1,n,[],d⟩ s).1=some 16):(eP n d s).2=(e6 ⟨1,n,[],d⟩ s).2:=by unfold eP;rw[if_neg h]
theorem o0(n d:aM)(s:DSt):(eP n d s).2.pend.length≤s.pend.length+1:=by
 by_cases h:(e6 ⟨1,n,[],d⟩ s).1=some 16
 ·rw[s0 h];have:(e6 ⟨1,n,[],d⟩ s).2.pend.length=s.pend.length:=by
   unfold e6 at h ⊢;split
   ·rfl
   ·rename_i hn;rw[if_neg hn]at h;split at h <;> cases h
  simp[DSt.add,this]
 ·rw[sZ h];exact uC _ _
def eK(n:aM)(s:DSt):Er×DSt:=e6 ⟨3,n,[],[]⟩ s
def DSt.flush(s:DSt):DSt:={s with dur:=s.pend.foldl doF s.dur,pend:=[]}
def d7(s:DSt):Er×DSt:=if s.we.isSome=true then (s.we,s.ws)else (none,s.ws.flush)
def pI(n:aM)(s:DSt):aM×Er:=if s.down=true then ([],some 16)else match s.now n with
 |none=>([],some 14)
 |some d=>(d,none)
def dY:List (DSt→Er×DSt)→DSt→Er×DSt
 | [],s=>(none,s)
 |f::fs,s=>if (f s).1.isSome=true then f s else dY fs (f s).2
def bQ:aM:=[46,106,111,117,114,110,97,108]
def sumC(s:aM):Nat:=s.foldl (fun h c=>((h^^^c.toNat)*1099511628211) % 18446744073709551616) 14695981039346656037
def p8(n:Nat):UInt8:=if n < 10 then UInt8.ofNat (48+n)else UInt8.ofNat (87+n)
def hexN(n:Nat):aM:=if h:n < 16 then [p8 n]else hexN (n / 16)++[p8 (n % 16)]
 termination_by n
 decreasing_by omega
def entryC(f:File):aM:=f.1++[32]++Lib.itoa f.2.length++[10]++f.2
def bodyC(files:List File):aM:=files.flatMap entryC
def nZ(body:aM):aM:=Lib.itoa body.length++[32]++hexN (sumC body)
def eV(files:List File):aM:=nZ (bodyC files)++[10]++bodyC files
def fC(files:List File):List (DSt→Er×DSt):=files.map fun f=>eP f.1 f.2
def fZ(files:List File):DSt→Er×DSt:=dY (fC files++[d7,eK bQ,d7])
def gJ(files:List File):DSt→Er×DSt:=dY [eP bQ (eV files),d7,fZ files]
theorem xP:∀(gs:List (DSt→Er×DSt)) (s:DSt),(∀g∈gs,∀s:DSt,(g s).2.pend.length≤s.pend.length+1)→(dY gs s).2.pend.length≤s.pend.length+gs.length
 | [],s,_=>Nat.le_refl _
 |g::gs,s,h=>by
  have h1:=h g List.mem_cons_self s;have h2:=xP gs (g s).2 fun g' hg=>h g' (List.mem_cons_of_mem _ hg)
  simp only[dY,List.length_cons];split <;> omega
theorem oD(s:DSt):(d7 s).2.pend.length≤s.pend.length:=by
 unfold d7;split
 ·exact Nat.le_refl _
 ·simp[DSt.flush]
theorem qB(n:aM)(s:DSt):(eK n s).2.pend.length≤s.pend.length+1:=uC _ _
theorem uY(files:List File)(s:DSt):(fZ files s).2.pend.length≤s.pend.length+files.length+3:=by
 have:=xP (fC files++[d7,eK bQ,d7]) s fun g hg s=>by
  rcases List.mem_append.1 hg with h|h
  ·obtain⟨f,_,rfl⟩:=List.mem_map.1 h;exact o0 _ _ _
  ·simp at h;rcases h with rfl|rfl|rfl
   ·have:=oD s;omega
   ·exact qB _ _
   ·have:=oD s;omega
 simp[fC]at this;unfold fZ;simp only[fC];omega
def m6(n:aM):Prop:=(10:UInt8)∉n∧(32:UInt8)∉n
def oJ(files:List File):Prop:=(∀f∈files,m6 f.1)∧(bodyC files).length≤1000000000∧files.length≤100
theorem uT{f:File}{files:List File}(h:f∈files):(entryC f).length≤(bodyC files).length:=by
 induction files with
 |nil=>cases h
 |cons a r ih=>
  simp only[bodyC,List.flatMap_cons,List.length_append];rcases List.mem_cons.1 h with rfl|h
  ·omega
  ·have:=ih h;simp only[bodyC]at this;omega
theorem aBT{files:List File}{i:Nat}{f:File}(h:files[i]?=some f):bodyC (files.take (i+1))=bodyC (files.take i)++entryC f:=by
 have hi:i < files.length:=by
  rcases Nat.lt_or_ge i files.length with h'|h'
  ·exact h'
  ·simp[List.getElem?_eq_none h']at h
 rw[List.getElem?_eq_getElem hi]at h;cases h
 unfold bodyC;rw[List.take_succ_eq_append_getElem hi,List.flatMap_append];simp only[List.flatMap_cons,List.flatMap_nil,List.append_nil]
theorem uL(files:List File)(i:Nat):(bodyC (files.take i)).length≤(bodyC files).length:=by
 have:bodyC files=bodyC (files.take i)++bodyC (files.drop i):=by
  unfold bodyC;rw[←List.flatMap_append,List.take_append_drop]
 rw[this];simp
def nK(h:Nat)(c:UInt8):Nat:=((h^^^c.toNat)*1099511628211) % 18446744073709551616
theorem aK7(s:aM):sumC s=s.foldl nK 14695981039346656037:=rfl
theorem uA(s:aM):sumC s < 18446744073709551616:=by
 rw[aK7];have:∀(l:aM) (h:Nat),h < 18446744073709551616→l.foldl nK h < 18446744073709551616:=by
  intro l;induction l with
  |nil=>intro h hh;exact hh
  |cons c r ih=>intro h _;exact ih _ (Nat.mod_lt _ aI)
 exact this s _ aI
theorem u9{n:Nat}(h:n < 18446744073709551616):(hexN n).length≤16:=by
 have:∀k n,n < 16 ^ (k+1)→(hexN n).length≤k+1:=by
  intro k;induction k with
  |zero=>intro n hn;rw[hexN,dif_pos (by simpa using hn)];simp
  |succ k ih=>
   intro n hn;rw[hexN];split
   ·simp
   ·rw[List.length_append];have:=ih (n / 16) (Nat.div_lt_of_lt_mul (by rw[Nat.mul_comm,←Nat.pow_succ];exact hn));simp;omega
 exact this 15 n (by simpa using h)
def o6(d:aM)(r:Option (List File)):Prop:=∃files,oJ files∧((d=eV files∧r=some files)∨(d<+:eV files∧d≠eV files∧r=none))
def yU(r:Option (List File)):DSt→Er×DSt:=match r with
 |some files=>fZ files
 |none=>dY [eK bQ,d7]
def dZ(r:Option (List File))(s:DSt):Er×DSt:=
 if (d7 s).1.isSome=true then d7 s
 else match (pI bQ (d7 s).2).2 with
  |none=>yU r (d7 s).2
  |some e=>if e=14 then (none,(d7 s).2)else (some e,(d7 s).2)
inductive Left:Bool→List OpR→DMap→DMap→Prop where
 |nil {b f}:Left b [] f f
 |lost {b o os f g}:Left b os f g→Left b (o::os) f g
 |kept {b o os f g}:Left b os (doF f o) g→Left b (o::os) f g
 |torn {o os f g d}:o.kind=1→d<+:o.data→Left false os (f.put o.name d) g→Left true (o::os) f g
 |none {b o os f g}:1 < o.kind→f o.name=none→Left b os f g→Left b (o::os) f g
theorem jK{α:Type}{l:List α}{i:Nat}{o:α}(hx:l[i]?=some o):l.drop i=o::l.drop (i+1):=by
 have hi:i < l.length:=by
  rcases Nat.lt_or_ge i l.length with h|h
  ·exact h
  ·simp[List.getElem?_eq_none h]at hx
 rw[List.drop_eq_getElem_cons hi];rw[List.getElem?_eq_getElem hi]at hx;cases hx;rfl
theorem Left.mono{b:Bool}{os:List OpR}{f g:DMap}(h:Left b os f g):∀ {b':Bool},(b=true→b'=true)→Left b' os f g:=by
 induction h with
 |nil=>intro b' _;exact .nil
 |lost _ ih=>intro b' hb;exact .lost (ih hb)
 |kept _ ih=>intro b' hb;exact .kept (ih hb)
 |torn h1 h2 h3 ih=>intro b' hb;rw[hb rfl];exact .torn h1 h2 h3
 |none h1 h2 _ ih=>intro b' hb;exact .none h1 h2 (ih hb)
def CrI(pend:List OpR)(dur:DMap)(r i:Nat)(g:DMap):Prop:=∀x,Left (decide (i≤r)) (pend.drop i) g x→Left true pend dur x
section
variable{pend:List OpR}{dur g:DMap}{r i:Nat}{o:OpR}
theorem CrI.init:CrI pend dur r 0 dur:=fun x h=>by simpa using h
theorem CrI.lost (hx : pend[i]? = some o) (h : CrI pend dur r i g) : CrI pend dur r (i + 1) g := fun x k => h x (by
 rw[jK hx];exact .lost (k.mono fun e=>by have:=of_decide_eq_true e;exact decide_eq_true aI))
theorem CrI.none (hx : pend[i]? = some o) (h1 : 1 < o.kind) (h2 : g o.name = Option.none) (h : CrI pend dur r i g) : CrI pend dur r (i + 1) g := fun x k => h x (by
 rw[jK hx];exact .none h1 h2 (k.mono fun e=>by have:=of_decide_eq_true e;exact decide_eq_true aI))
theorem CrI.kept (hx : pend[i]? = some o) (h : CrI pend dur r i g) : CrI pend dur r (i + 1) (doF g o) := fun x k => h x (by
 rw[jK hx];exact .kept (k.mono fun e=>by have:=of_decide_eq_true e;exact decide_eq_true aI))
theorem CrI.torn {d : aM} (hx : pend[i]? = some o) (h1 : o.kind = 1) (hr : i = r) (hd : d <+: o.data) (h : CrI pend dur r i g) : CrI pend dur r (i + 1) (g.put o.name d) := fun x k => h x (by
 rw[jK hx,decide_eq_true (by omega:i≤r)];rw[decide_eq_false (by omega:¬i+1≤r)]at k;exact .torn h1 hd k)
theorem CrI.do{d:aM}(hx:pend[i]?=some o)(hd:d=o.data∨o.kind=1∧i=r∧d<+:o.data)(h:CrI pend dur r i g):CrI pend dur r (i+1) (doF g {o with data:=d}):=by
 rcases hd with rfl|⟨h1,h2,h3⟩
 ·exact h.kept hx
 ·have:=h.torn hx h1 h2 h3
  simpa[doF,h1]using this
theorem CrI.done(h:CrI pend dur r pend.length g):Left true pend dur g:=h g (by simpa using Left.nil)
end
def aJ7(s t:DSt):Prop:=Left true s.pend s.dur t.dur∧t.now=t.dur∧t.pend=[]∧t.left= -1∧t.full= -1∧t.down=false
def xO:aM:=[47]
def xK:aM:=[105,110,98,111,120,47]
def boxP:aM:=[98,111,120,47]
def outP:aM:=[111,117,116,47]
def toP:aM:=[116,111,32]
def rejP:aM:=[114,101,106,101,99,116,32]
def outN(id:aM)(i:Nat):aM:=outP++id++[46]++Lib.itoa i
def fM(id text:aM)(i:Nat)(a:Mach.Action):Except Int File:=
 if a.1=1 then .ok (xK++id,text)
 else if a.1=2 then if Mach.boxed a.2=true then .ok (boxP++a.2++xO++id,text)else .error 8
 else if a.1=3 then .ok (outN id i,toP++a.2++[10]++text)
 else if a.1=4 then .ok (outN id i,rejP++a.2++[10]++text)
 else .error 7
def mU(id text:aM):Nat→List Mach.Action→Except Int (List File)
 |_,[]=>.ok []
 |i,a::r=>match fM id text i a with
  | .error e=>.error e
  | .ok f=>match mU id text (i+1) r with
   | .error e=>.error e
   | .ok fs=>.ok (f::fs)
def pC(id:aM):Bool:=decide (id=[])||decide (8 < id.length)||(id.any fun c=>[46,45].contains c)||!Mach.boxed id
def gN(id:aM)(acts:List Mach.Action)(text:aM):Except Int (List File):=
 if pC id=true then .error 13 else if 6 < acts.length then .error 11 else mU id text 0 acts
def tI(acc:List File):Except Int (List File)→Except Int (List File)
 | .error e=>.error e
 | .ok fs=>.ok (acc++fs)
theorem aQF{id text:aM}{i:Nat}{acts:List Mach.Action}{a:Mach.Action}{f:File}{acc:List File}(ha:acts[i]?=some a)(hf:fM id text i a=.ok f):
  tI acc (mU id text i (acts.drop i))=tI (acc++[f]) (mU id text (i+1) (acts.drop (i+1))):=by
 rw[jK ha,mU,hf];cases mU id text (i+1) (acts.drop (i+1))with
 |error e=>rfl
 |ok fs=>simp[tI]
theorem aB0{id text:aM}{i:Nat}{acts:List Mach.Action}{a:Mach.Action}{e:Int}{acc:List File}(ha:acts[i]?=some a)(hf:fM id text i a=.error e):
  tI acc (mU id text i (acts.drop i))=.error e:=by rw[jK ha,mU,hf];rfl
theorem aK1{xs:List File}(hb:(bodyC xs).length≤1000000000):(eV xs).length≤140737488355328:=by
 have h1:=Lib.itoa_length_le ((bodyC xs).length:Int) aI aI;have h2:=u9 (uA (bodyC xs));simp only[eV,nZ,List.length_append,List.length_singleton];omega
theorem boxed_len{a:aM}(h:Mach.boxed a=true):a.length≤16:=by
 unfold Mach.boxed at h;simp only[Bool.and_eq_true,decide_eq_true_eq]at h;exact h.2
theorem aQ5(id:aM){i:Nat}(hi:i≤1000000):(outN id i).length≤id.length+26:=by
 have:=Lib.itoa_length_le (i:Int) aI aI;simp only[outN,outP,List.length_append,List.length_cons,List.length_nil];omega
theorem aIT{id text:aM}{i:Nat}{a:Mach.Action}{f:File}(h:fM id text i a=.ok f)(hid:id.length≤8)(ht:text.length≤1048576)(ha:a.2.length≤1048576)(hi:i≤1000000):(entryC f).length≤3000000:=by
 have ho:=aQ5 id hi;have key:∀f:File,f.1.length≤40→f.2.length≤2100000→(entryC f).length≤3000000:=fun f h1 h2=>by
  have:=Lib.itoa_length_le (f.2.length:Int) aI aI;simp only[entryC,List.length_append,List.length_cons,List.length_nil];omega
 unfold fM at h;split at h
 ·cases h;exact key _ (by simp[xK];omega) (by simp;omega)
 ·split at h
  ·split at h
   ·rename_i hb;have:=boxed_len hb;cases h;exact key _ (by simp[boxP,xO];omega) (by simp;omega)
   ·cases h
  ·split at h
   ·cases h;exact key _ (by simp;omega) (by simp[toP];omega)
   ·split at h
    ·cases h;exact key _ (by simp;omega) (by simp[rejP];omega)
    ·cases h
theorem aB1{id text:aM}(hid:id.length≤8)(ht:text.length≤1048576):∀ {acts:List Mach.Action} {i:Nat} {fs:List File},(∀a∈acts,a.2.length≤1048576)→i+acts.length≤1000000→mU id text i acts=.ok fs→fs.length=acts.length∧(bodyC fs).length≤3000000*acts.length
 | [],i,fs,_,_,h=>by cases h;exact⟨rfl,by simp[bodyC]⟩
 |a::r,i,fs,ha,hi,h=>by
  simp only[List.length_cons]at hi;unfold mU at h;cases hf:fM id text i a with
  |error e=>rw[hf]at h;cases h
  |ok f=>
   rw[hf]at h;simp only at h;cases hr:mU id text (i+1) r with
   |error e=>rw[hr]at h;cases h
   |ok fs'=>
    rw[hr]at h;cases h
    have h1:=aIT hf hid ht (ha a List.mem_cons_self) aI;have h2:=aB1 hid ht (fun a h=>ha a (List.mem_cons_of_mem _ h)) aI hr;refine⟨by simp[h2.1],?_⟩
    have h3:=h2.2;simp only[bodyC,List.flatMap_cons,List.length_append,List.length_cons]at h3 ⊢;omega
theorem zI{id text:aM}{acts:List Mach.Action}{fs:List File}(ht:text.length≤1048576)(ha:∀a∈acts,a.2.length≤1048576)(h:gN id acts text=.ok fs):fs.length=acts.length∧acts.length≤6∧(bodyC fs).length≤100000000:=by
 unfold gN at h;split at h
 ·cases h
 ·rename_i hb;split at h
  ·cases h
  ·have hid:id.length≤8:=by
    unfold pC at hb;simp only[Bool.or_eq_true,not_or,decide_eq_true_eq]at hb;omega
   have:=aB1 hid ht ha aI h;refine⟨this.1,by omega,?_⟩
   have:=this.2;omega
def DSt.set(s:DSt)(l f:Int):DSt:={s with left:=l,full:=f}
def iV(id:aM)(acts:List Mach.Action)(text:aM)(s:DSt):Er×DSt:=match gN id acts text with
 | .error e=>(some e,s)
 | .ok xs=>gJ xs s
def errn:Er→Int
 |none=>0
 |some n=>n
def kF(s t:DSt):Prop:=if s.down=true then ∃u,aJ7 s u∧t=u.set (-1) (-1)else t=s.set (-1) (-1)
end Go.Box
end
section
namespace Go.SL
section
variable{E:Env}{fr:Fr}{K:Hl}{L:List Asn}{dst:Option Tmp}{ty:TypeId}{pos:String}{aft:Array Edge}{g:Option (Nat×Bool)}{x y:Operand}{t t':TypeId}{m n:Int}{k:IntKind}
theorem aIO(hx:fr.ev x=some (.int k m))(hy:fr.ev y=some (.int k n))(h0:n≠0):Ev E fr K L ⟨dst,.binOp .rem t x y t',ty,pos,aft,g⟩ (.int k (m.tmod n)):=
 fF hx hy fN fun w=>by simp[binOp,Op.intDiv,h0,pure]
theorem aQD(hx:fr.ev x=some (i64 m))(h1: -9223372036854775807≤m)(h2:m≤9223372036854775808):Ev E fr K L ⟨dst,.unOp .neg t x,ty,pos,aft,g⟩ (i64 (-m)):=fun a w f _=>by
 simp only[execOp,f.ev hx];refine d9 ?_;have e:IntKind.i64.wrap (-m)= -m:=lT aI aI;simp[Op.unary,Op.intArith,e]
theorem aWL(hx:fr.ev x=some (.int k m))(hy:fr.ev y=some (.int k n))(h0:n≠0):Ev E fr K L ⟨dst,.binOp .quo t x y t',ty,pos,aft,g⟩ (.int k (k.wrap (m.tdiv n))):=
 fF hx hy fN fun w=>by simp[binOp,Op.intDiv,h0,pure]
theorem aIP{k':IntKind}(hx:fr.ev x=some (.int k m))(hy:fr.ev y=some (.int k' n))(h0:0≤n):Ev E fr K L ⟨dst,.binOp .shr t x y t',ty,pos,aft,g⟩ (.int k (m.fdiv (2 ^ (min n.toNat k.bits)))):=
 fF hx hy fN fun w=>by
  have:¬n < 0:=by omega
  simp[binOp,Op.shift,this,pure]
theorem yB(hx:fr.ev x=some (.int k m))(hy:fr.ev y=some (.int k n)):Ev E fr K L ⟨dst,.binOp .and t x y t',ty,pos,aft,g⟩ (.int k (k.wrap (BitVec.ofInt k.bits m&&&BitVec.ofInt k.bits n).toNat)):=
 fF hx hy fN fun w=>by simp[binOp,Op.intBits,pure]
theorem aTM(hx:fr.ev x=some (.int k m))(hy:fr.ev y=some (.int k n)):Ev E fr K L ⟨dst,.binOp .xor t x y t',ty,pos,aft,g⟩ (.int k (k.wrap (BitVec.ofInt k.bits m^^^BitVec.ofInt k.bits n).toNat)):=
 fF hx hy fN fun w=>by simp[binOp,Op.intBits,pure]
theorem aOP{d:Int}{n:Nat}(h:0≤d):d.tmod n=((d.toNat % n:Nat):Int):=by
 rw[Int.tmod_eq_emod_of_nonneg h];have:d=(d.toNat:Int):=by omega
 rw[this];simp
end
end Go.SL
end
section
namespace Go.SL
section
variable{E:Env}{fr:Fr}{K:Hl}{L:List Asn}{dst:Option Tmp}{ty:TypeId}{pos:String}{aft:Array Edge}{g:Option (Nat×Bool)}{x y:Operand}{t e:TypeId}{n b:Nat}{k:IntKind}
theorem aCO{P:Program}(h:dT P e=true):∃inf,P.info? e=some inf∧inf.size=1:=by
 unfold dT at h;split at h
 ·cases h
 ·cases h
 ·rename_i i h1 h2;exact⟨_,‹P.info? e=some _›,by simpa using h⟩
 ·cases h
theorem nA{j:Nat}{jv:Int}(hu:E.P.underlying t=some (.array n e))(he:dT E.P e=true)(hx:fr.ev x=some (ptr b))(hy:fr.ev y=some (.int k jv))(hjv:jv=(j:Int))(hj:j < n):
  Ev E fr K L ⟨dst,.indexAddr t x y,ty,pos,aft,g⟩ (ptr b j):=fun a w f i=>by
 subst hjv;obtain⟨inf,h2,h3⟩:=aCO he;simp only[execOp,f.ev hx,f.ev hy];refine d9 ?_;unfold Instr.indexAt;simp[asIntOf,underlying,program,bind,Sem.bind,pure,Sem.run,hu,hj,sizeOf,typeInfo,h2,h3,Instr.sureAddr,gC]
theorem xV{m:Nat}{mv:Int}{lo:Operand}(hu:E.P.underlying t=some (.array n e))(he:dT E.P e=true)(hx:fr.ev x=some (ptr b))(hl:fr.ev lo=some (.int k mv))(hm:mv=(m:Int))(h:m < n):
  Ev E fr K L ⟨dst,.slice t x (some lo) none none,ty,pos,aft,g⟩ (.slice (some ⟨b,m,none⟩) (n - m) (n - m)):=fun a w f i=>by
 subst hm;obtain⟨inf,h2,h3⟩:=aCO he;simp only[execOp,f.ev hx,f.ev hl,Option.map];refine d9 ?_;unfold Instr.sliceAt;have hne:¬n=m:=by omega
 have hle:m≤n:=by omega
 simp[underlying,program,bind,Sem.bind,pure,Sem.run,hu,Instr.sliceBounds,Instr.sliceBound,asIntOf,sizeOf,typeInfo,h2,h3,Instr.sureAddr,gC,hne,hle]
theorem aTL{m:Int}(hx:fr.ev x=some (.int k m)):Ev E fr K L ⟨dst,.unOp .neg t x,ty,pos,aft,g⟩ (.int k (k.wrap (-m))):=fun a w f _=>by
 simp only[execOp,f.ev hx];refine d9 ?_;simp[Op.unary,Op.intArith]
end
end Go.SL
end
section
namespace Go.SL
theorem aVK{P:Program}{f:FuncId}{args:List Value}{K:Hl}{L:List Asn}{R R':Ending→Hl→List Asn→Prop}(h:Sp P f args K L R)
  (k:∀e K' L',K.le K'→R e K' L'→R' e K' L'):Sp P f args K L R':=
 ⟨h.1,fun F w i=>(h.2 F w i).mono fun _ _ ⟨K',L',r,le,j⟩=>⟨K',L',k _ _ _ le r,le,j⟩⟩
def xW(P:Program)(fv:Value)(f:FuncId)(vs:List Value):Prop:=∀w,(do let d ←Deferred.ofValue fv #[];invoke d.target d.args).run P w=.ok (.enter f vs.toArray) w
theorem pZ{P:Program}{f:FuncId}{caps:Array Value}(hb:∃fn,P.funcs[f]?=some fn∧(fn.name=="runtime.NumGoroutine")=false∧fn.body.isSome=true):xW P (.func (.func f) #[] caps) f caps.toList:=by
 intro w;obtain⟨fn,h1,h2,h3⟩:=hb;simp only[Deferred.ofValue,bind,pure,Sem.bind,invoke];have:=wB (vs:=caps) h1 h2 h3 w
 simpa using this
theorem aFY{P:Program}{name:String}{t:TypeId}{u r:Value}{f:FuncId}(hm:∀w,(method (P.types.size+Made.depth) t u name).run P w=.ok (f,r) w)
  (hb:∃fn,P.funcs[f]?=some fn∧(fn.name=="runtime.NumGoroutine")=false∧fn.body.isSome=true):xW P (.func (.method name) #[.iface t u] #[]) f [r]:=by
 intro w;obtain⟨fn,h1,h2,h3⟩:=hb;simp only[Deferred.ofValue,bind,pure,Sem.bind,invoke]
 show (callMethod (.iface t u) name #[]).run P w=_
 unfold callMethod;simp only[];have hp:(program).run P w=.ok P w:=rfl;rw[aT hp,aT (hm w)];have:=wB (vs:= #[r]) h1 h2 h3 w
 simpa using this
section
variable{E:Env}{fr:Fr}{K:Hl}{L L1 L2:List Asn}{Q:Post}{ops:Array Oper}{rest:List Oper}{ty:TypeId}{pos:String}{aft:Array Edge}
theorem aGQ{d:Nat}{fv:Operand}{ats:Array TypeId}{x:Value}{f:FuncId}{vs:List Value}{N:Value→Hl→List Asn→Prop}(hf:fr.ev fv=some x)(he:xW E.P x f vs)(hs:Sp E.P f vs K L1 (Ret N))(hL:Tks L1 L L2)(hd:Nat.blt d E.n=true)
  (h:∀v K' L',N v K' L'→K.le K'→OL E ops rest ((d,v)::fr) K' (L'++L2) Q):OL E ops (⟨some d,.call ⟨.value fv,#[],ats⟩,ty,pos,aft,none⟩::rest) fr K L Q:=
 aCE (aFX (N := fun v K' L'' => ∃ L', L'' = L' ++ L2 ∧ N v K' L') (fun a w fo => by
  have:=he w
  simpa[execOp,resolve,fo.ev hf,bind,pure,Sem.bind]using this) hL hs (fun v K' L' ⟨u,e,n⟩=>by cases e;exact⟨L',rfl,n⟩) (fun ch K' L' ⟨u,e,n⟩=>by cases e) (fun K' L' ⟨u,e,n⟩=>by cases e)) hd
  (fun v K' L'' ⟨L',e,n⟩ le=>by subst e;exact h v K' L' n le)
theorem ev_T{o:Oper}{p:Prop}[Decidable p](h:Ev E fr K L o (.bool (decide p)))(hp:p):Ev E fr K L o (.bool true):=by rwa [decide_eq_true hp]at h
theorem ev_F{o:Oper}{p:Prop}[Decidable p](h:Ev E fr K L o (.bool (decide p)))(hp:¬p):Ev E fr K L o (.bool false):=by rwa [decide_eq_false hp]at h
theorem j9{o:Oper}{u v:Value}(h:Ev E fr K L o u)(e:u=v):Ev E fr K L o v:=e▸h
theorem p6{dst:Option Tmp}{g:Option (Nat×Bool)}{t kt et:TypeId}{x y:Operand}{b c:Nat}{k:List UInt8}{es:List Ent}{z v:Value}(hm:E.P.underlying t=some (.map kt et))(hk:E.P.underlying kt=some .string)(hz:fS E.P et=some z)(hx:fr.ev x=some (.map (some b)))(hy:fr.ev y=some (str k))(hs:Sees K L b (mapO es c))(hg:mget es k=some v):
  Ev E fr K L ⟨dst,.lookup t x y true,ty,pos,aft,g⟩ (.tuple #[v,.bool true]):=j9 (p5 hm hk hz hx hy hs) (by rw[hg];rfl)
theorem nX{dst:Option Tmp}{g:Option (Nat×Bool)}{t kt et:TypeId}{x y:Operand}{b c:Nat}{k:List UInt8}{es:List Ent}{z:Value}(hm:E.P.underlying t=some (.map kt et))(hk:E.P.underlying kt=some .string)(hz:fS E.P et=some z)(hx:fr.ev x=some (.map (some b)))(hy:fr.ev y=some (str k))(hs:Sees K L b (mapO es c))(hg:mget es k=none):
  Ev E fr K L ⟨dst,.lookup t x y true,ty,pos,aft,g⟩ (.tuple #[z,.bool false]):=j9 (p5 hm hk hz hx hy hs) (by rw[hg];rfl)
end
end Go.SL
end
section
namespace Go.Proofs
open Go Go.SL Go.Syn Go.Box
def Deb(K:Hl):Prop:=∃l T fz,K 6=some (aU l T fz)∧l[15]?=some (.int .u8 4)
theorem Deb.mono{K K':Hl}(h:Deb K)(le:K.le K'):Deb K':=let ⟨l,T,fz,h1,h2⟩:=h;⟨l,T,fz,le _ _ h1,h2⟩
theorem aOS(K:Hl)(hd:Deb K):Sp Tryz.prog 363 [.int .u64 16] K [] (Val (i64 4) K):=by
 obtain⟨l,T,fz,hk,hl⟩:=hd;refine aZ Tryz.func363 rfl Tryz.ntmps363 rfl rfl fun F w=>?_
 refine aH (aB ?_);refine uAb ?_;refine aG (aE ?_);refine aH (aH ?_);refine uAf ?_;refine uAq ?_;refine aG (aE ?_);refine uBf ?_;refine aE (aH ?_);refine uCf ?_;refine aA (j9 (v:=.int .u64 18446744073709551600) (aTL rfl) bR) rfl ?_;refine aA (j9 (v:=.int .u64 16) (yB rfl rfl) bR) rfl ?_;refine aA (j9 (v:=.int .u64 4573923408821661840) (aDZ rfl rfl) bR) rfl ?_;refine aA (j9 (v:=.int .u64 15) (aIP rfl rfl aI) bR) rfl ?_;refine aA (nA (j:=15) Tryz.underlying511 ts5 rfl rfl rfl aI) rfl ?_;refine aA (aJ ts5 rfl (.known hk) hl) rfl ?_;refine aA (j9 (v:=i64 4) (jQ Tryz.underlying3 Tryz.underlying5 rfl) bR) rfl ?_;refine uAb ?_;refine aG (aE ?_);refine bI ?_;refine bF rfl rfl (Hl.le_refl _) ?_;exact⟨rfl,rfl,rfl⟩
theorem aUZ(K:Hl)(hd:Deb K):Sp Tryz.prog 349 [.int .u64 16] K [] (Val (i64 4) K):=by
 refine aZ Tryz.func349 rfl Tryz.ntmps349 rfl rfl fun F w=>?_
 refine aH (aB ?_);refine uAb ?_;refine aG (aE ?_);refine aH ?_;refine uBf ?_;refine aE (aH ?_);refine uAf ?_;refine cA rfl rfl (aOS _ hd) rfl ?_;refine uAb ?_;refine aG (aE ?_);refine bI ?_;refine bF rfl rfl (Hl.le_refl _) ?_;exact⟨rfl,rfl,rfl⟩
theorem aND(K:Hl):Sp Tryz.prog 348 [i64 16] K [] (Val (.bool true) K):=by
 refine aZ Tryz.func348 rfl Tryz.ntmps348 rfl rfl fun F w=>?_
 refine aH (aB ?_);refine uAb ?_;refine aG (aE ?_);refine aH (aB ?_);refine uAx ?_;refine aA (nB rfl rfl aI aI) rfl ?_;refine aA (j9 (v:=i64 0) (yB rfl rfl) bR) rfl ?_;refine uCe ?_;refine aG (aE ?_);refine bI ?_;refine bF rfl rfl (Hl.le_refl _) ?_;exact⟨rfl,rfl,rfl⟩
abbrev digs:aM:=[48,49,50,51,52,53,54,55,56,57,97,98,99,100,101,102,103,104,105,106,107,108,109,110,111,112,113,114,115,116,117,118,119,120,121,122]
theorem aKH:∀ {m:Nat},m < 16→digs[m]?=some (p8 m):=by
 intro m h;have:∀k:Fin 16,digs[k.1]?=some (p8 k.1):=by decide
 exact this ⟨m,h⟩
theorem aXW{u:Nat}(h:u < 18446744073709551616):IntKind.u64.wrap (BitVec.ofInt 64 (u:Int)&&&BitVec.ofInt 64 (15:Int)).toNat=((u % 16:Nat):Int):=by
 have e:(BitVec.ofInt 64 (u:Int)&&&BitVec.ofInt 64 (15:Int)).toNat=u % 16:=by
  rw[BitVec.toNat_and];have h1:(BitVec.ofInt 64 (u:Int)).toNat=u:=by rw[BitVec.ofInt_natCast,BitVec.toNat_ofNat];omega
  have h2:(BitVec.ofInt 64 (15:Int)).toNat=2 ^ 4 - 1:=rfl;rw[h1,h2,Nat.and_two_pow_sub_one_eq_mod]
 rw[e];unfold IntKind.wrap IntKind.bits IntKind.signed;simp only[Bool.false_and];have:u % 16 < 16:=Nat.mod_lt _ aI;simp;omega
theorem shr4{u:Nat}:(u:Int).fdiv (2 ^ (min ((4:Int).toNat) 64))=((u / 16:Nat):Int):=by
 show (u:Int).fdiv (2 ^ 4)=_
 rw[Int.fdiv_eq_ediv_of_nonneg _ aI];omega
theorem aTS{u:Nat}(h:u < 16):hexN u=[p8 u]:=by rw[hexN,dif_pos h]
theorem aTR{u:Nat}(h:¬u < 16):hexN u=hexN (u / 16)++[p8 (u % 16)]:=by rw[hexN,dif_neg h]
abbrev u8s(l:aM):List Value:=l.map fun c=>.int .u8 c.toNat
theorem aLL{cells:List Value}{acc:aM}{i:Nat}{c:UInt8}(h:cells.drop i=u8s acc)(hi:0 < i)(hl:i≤cells.length):(cells.set (i - 1) (.int .u8 c.toNat)).drop (i - 1)=u8s (c::acc):=by
 have h1:i - 1 < (cells.set (i - 1) (.int .u8 c.toNat)).length:=by rw[List.length_set];omega
 rw[List.drop_eq_getElem_cons h1,List.getElem_set_self,show i - 1+1=i by omega,List.drop_set_of_lt aI,h]
 rfl
theorem aTT{cells:List Value}{acc:aM}{i b:Nat}{c:UInt8}{K:Hl}{T:TypeId}{fz:Nat×Nat}(hc:cells.length=65)(hi1:0 < i)(hi2:i≤65)(ha:cells.drop i=u8s acc)(hk:K b=some (aU (cells.set (i - 1) (.int .u8 c.toNat)) T fz)):
  Ksl (elB 5) K (.slice (some ⟨b,i - 1,none⟩) (65 - (i - 1)) (65 - (i - 1))) (c::acc):=by
 have hl:acc.length=65 - i:=by have:=congrArg List.length ha;simp[hc]at this;omega
 refine .inr ⟨b,i - 1,65 - (i - 1),_,fz,?_,⟨_,hk⟩,?_⟩
 ·rw[show (c::acc).length=65 - (i - 1) by simp[hl];omega]
 ·rw[aLL ha hi1 aI,wA];exact List.take_of_length_le (by simp[elB,tJ])
theorem aRA{u i:Nat}(h1:49 < i)(h:u < 16 ^ (i - 49))(hu:¬u < 16):49 < i - 1∧u / 16 < 16 ^ (i - 1 - 49):=by
 obtain⟨k,rfl⟩:∃k,i=k+50:=⟨i - 50,by omega⟩;cases k with
 |zero=>exact absurd (by simpa using h) hu
 |succ k=>
  refine⟨by omega,?_⟩
  have e1:k+1+50 - 49=k+1+1:=by omega
  have e2:k+1+50 - 1 - 49=k+1:=by omega
  rw[e1,Nat.pow_succ]at h;rw[e2];exact Nat.div_lt_of_lt_mul (by rw[Nat.mul_comm];exact h)
theorem aFO(n:Nat)(hn:n < 18446744073709551616)(K:Hl)(hd:Deb K):Sp Tryz.prog 328 [.slice none 0 0,.int .u64 n,i64 16,.bool false,.bool false] K [] (Ret fun v K' L'=>v=.tuple #[.slice none 0 0,str (hexN n)]):=by
 refine aZ Tryz.func328 rfl Tryz.ntmps328 rfl rfl fun F w=>?_
 refine aH (aB ?_);refine uAw ?_;refine aG (aE ?_);refine aH (aH ?_);refine uAf ?_;refine uBn ?_;refine uDg ?_;refine uHe ?_;refine uDg ?_;refine uEr ?_;refine uAt ?_;refine aG (aE ?_);refine uBf ?_;refine aE (aH ?_);refine aB ?_;refine ol_s (cN aZU) rfl ?_;rintro _ K _ ⟨b12,rfl,rfl,rfl⟩ -;refine aG (aE ?_);refine aH (aB ?_);refine uAb ?_;refine aG (aE ?_);refine aH (aH ?_);refine uAf ?_;refine aG (aE ?_);refine uBf ?_;refine aE (aH ?_);refine aH (aB ?_);refine uAa ?_;refine cA rfl rfl (aND _) rfl ?_;refine aG (aE ?_);refine uGe ?_;refine aH (aB ?_);refine uAa ?_;refine aA (j9 (v:=.int .u64 16) (jQ Tryz.underlying257 Tryz.underlying3 rfl) bR) rfl ?_;refine cA rfl rfl (aUZ _ hd) rfl ?_;refine aA (j9 (v:=.int .u64 4) (jQ Tryz.underlying257 Tryz.underlying3 rfl) bR) rfl ?_;refine uAb ?_;refine aG (aE ?_);refine aH (aB ?_);refine uAa ?_;refine aA (j9 (v:=.int .u64 16) (jQ Tryz.underlying345 Tryz.underlying3 rfl) bR) rfl ?_;refine uAb ?_;refine aG (aE ?_);refine aH (aB ?_);refine uAa ?_;refine aA (j9 (v:=.int .u64 16) (jQ Tryz.underlying257 Tryz.underlying3 rfl) bR) rfl ?_;refine aA (j9 (v:=.int .u64 15) (uV rfl rfl) bR) rfl ?_;refine uAb ?_;refine aG (aE ?_);refine aH (bE ?_);refine mP (fun(u i:Nat) (cells:List Value)=>cells.length=65∧49 < i∧i≤65∧u < 16 ^ (i - 49)∧u < 18446744073709551616∧∃acc,cells.drop i=u8s acc∧hexN n=hexN u++acc) (fun u i _=>[(1,.int .u64 u),(3,.bool false),(4,.bool false),(10,.slice none 0 0),(12,ptr b12),(13,i64 i),(14,.int .u64 4),(15,.int .u64 16),(16,.int .u64 15)]) (fun _ _ _=>K) (fun _ _ cells=>[pt b12 (aU cells 476)]) (fun u _ _=>u) n 65 _ ⟨rfl,by omega,by omega,by simpa using hn,hn,[],rfl,by simp⟩ (.cons 1 rfl (.cons 3 rfl (.cons 4 rfl (.cons 10 rfl (.cons 12 rfl (.cons 13 rfl (.cons 14 rfl (.cons 15 rfl (.cons 16 rfl .nil))))))))) rfl (fun _ h=>h) ?_;intro u i cells ⟨hc,hi1,hi2,hu1,hu2,acc,ha1,ha2⟩;refine aH (aH ?_);refine uCf ?_;refine uEl ?_;refine aG (aE ?_);refine bK 46 rfl (fun h46=>?_) (fun h46=>?_)
 ·
  have hi3:=aRA hi1 hu1 aI;refine aW ?_;refine aE (bE ?_);refine aH (aB ?_);refine uAa ?_;refine aA (j9 (v:=i64 ((i - 1:Nat):Int)) (nB rfl rfl aI aI) (congrArg i64 aI)) rfl ?_;refine uAb ?_;refine aG (aE ?_);refine aH (aB ?_);refine uEg ?_;refine aA (j9 (v:=.int .u64 ((u % 16:Nat):Int)) (yB rfl rfl) (congrArg (Value.int .u64) (aXW hu2))) rfl ?_;refine aA (dJ Tryz.underlying9 (l:=digs) rfl rfl rfl (aKH (Nat.mod_lt _ aI))) rfl ?_;refine aA (nA Tryz.underlying476 ts5 rfl rfl rfl aI) rfl ?_;refine bP (bH ts5 rfl rfl rfl aX (sM aI) rfl) ?_;rintro _ K _ ⟨rfl,rfl⟩ -;refine aG (aE ?_);refine uCf ?_;refine aA (j9 (v:=.int .u64 ((u / 16:Nat):Int)) (aIP rfl rfl aI) (congrArg (Value.int .u64) shr4)) rfl ?_;refine uAb ?_;refine aG (aN ?_);exact fU (u / 16) (i - 1) _ ⟨by simpa using hc,hi3.1,by omega,hi3.2,by omega,_,aLL (c:=p8 (u % 16)) ha1 aI aI,by rw[ha2,aTR aI];simp⟩ aI (.cons 1 rfl (.cons 3 rfl (.cons 4 rfl (.cons 10 rfl (.cons 12 rfl (.cons 13 rfl (.cons 14 rfl (.cons 15 rfl (.cons 16 rfl .nil))))))))) rfl (fun _ h=>h)
 ·
  refine uAp ?_;refine aE (aH ?_);refine uAf ?_;refine aA (j9 (v:=i64 ((i - 1:Nat):Int)) (nB rfl rfl aI aI) (congrArg i64 aI)) rfl ?_;refine uAb ?_;refine aG (aE ?_);refine uCf ?_;refine aA (dJ Tryz.underlying9 (l:=digs) rfl rfl rfl (aKH aI)) rfl ?_;refine aA (nA Tryz.underlying476 ts5 rfl rfl rfl aI) rfl ?_;refine bP (bH ts5 rfl rfl rfl aX (sM aI) rfl) ?_;rintro _ K _ ⟨rfl,rfl⟩ -;refine aG (aE ?_);refine aH (aH ?_);refine uAf ?_;refine aG (aE ?_);refine uBf ?_;refine aE (aH ?_);refine aH (aB ?_);refine uAa ?_;refine aG (aE ?_);refine uBf ?_;refine aE (aH ?_);refine aB ?_;refine fD fun K2 le2 hb=>?_
  refine uAa ?_;refine aA (xV Tryz.underlying476 ts5 rfl rfl rfl aI) rfl ?_;refine aA (lI Tryz.underlying130 Tryz.underlying5 Tryz.underlying9 rfl (.known (aTT hc aI hi2 ha1 hb))) rfl ?_;refine uAb ?_;refine aG (aE ?_);refine bI ?_;refine e7 rfl rfl rfl le2 ?_;exact⟨_,rfl,by rw[ha2,aTS aI];rfl⟩
theorem aWQ(n:Nat)(hn:n < 18446744073709551616)(K:Hl)(hd:Deb K):Sp Tryz.prog 294 [.int .u64 n,i64 16] K [] (Ret fun v K' L'=>v=str (hexN n)):=by
 refine aZ Tryz.func294 rfl Tryz.ntmps294 rfl rfl fun F w=>?_
 refine aH (aB ?_);refine uAb ?_;refine aG (aE ?_);refine aH (aH ?_);refine uAf ?_;refine uAq ?_;refine aG (aE ?_);refine uBf ?_;refine aE (aH ?_);refine uCf ?_;refine bC rfl rfl (aFO n hn _ hd) .nil rfl ?_;rintro _ K1 L1 rfl le1;refine uBy ?_;refine aG (aE ?_);refine aH (aB ?_);refine uEj ?_;refine aG (aE ?_);refine bI ?_;refine bF rfl rfl le1 ?_;exact⟨_,rfl,rfl⟩
theorem aD8(n:Nat)(hn:n < 18446744073709551616)(K:Hl)(hd:Deb K):Sp Tryz.prog 225 [.int .u64 n,i64 16] K [] (Val (str (hexN n)) K):=by
 have h:Sp Tryz.prog 225 [.int .u64 n,i64 16] K [] (fun e _ L'=>(fun e L'=>e=.returned (str (hexN n))∧L'=[]) e L'):=by
  refine aZ Tryz.func225 rfl Tryz.ntmps225 rfl rfl fun F w=>?_
  refine aH (aB ?_);refine uAb ?_;refine aG (aE ?_);refine aH (aB ?_);refine uAx ?_;refine bC rfl rfl (aWQ n hn _ hd) .nil rfl ?_;rintro _ K1 L1 rfl le1;refine uAb ?_;refine aG (aE ?_);refine uCx ?_;refine bF rfl rfl le1 ?_;exact⟨rfl,rfl⟩
 exact(aEW h).mono fun e K' L' ⟨h1,h2,h3⟩=>⟨h2,h1,h3⟩
end Go.Proofs
end
section
set_option maxRecDepth 100000
namespace Go.Proofs
open Go Go.SL Go.ChangeShapes Go.WideShapes Go.RowKit
namespace TzRow
abbrev laid6:List (String×DataW Unit):=[("math/bits.deBruijn32tab",YthopmddkpdehiaaGreatDoor.Rows.laid_math_bits_deBruijn32tab),("math/bits.deBruijn64tab",YthopmddkpdehiaaGreatDoor.Rows.laid_math_bits_deBruijn64tab),("internal/strconv.uint64pow10",YthopmddkpdehiaaGreatDoor.Rows.laid_internal_strconv_uint64pow10),("errors.errorType",YthopmddkpdehiaaGreatDoor.Rows.laid_errors_errorType),("strconv.ErrRange",YthopmddkpdehiaaGreatDoor.Rows.laid_strconv_ErrRange),("strconv.ErrSyntax",YthopmddkpdehiaaGreatDoor.Rows.laid_strconv_ErrSyntax)]
def aX1:List Int:=[0,1,56,2,57,49,28,3,61,58,42,50,38,29,17,4,62,47,59,36,45,43,51,22,53,39,33,30,24,18,12,5,63,55,48,27,60,41,37,16,46,35,44,21,52,32,23,11,54,26,40,15,34,20,31,10,25,14,19,9,13,8,7,6]
theorem gDeb:Tryz.prog.globalNamed "math/bits.deBruijn64tab"=some 6:=by kernel_rfl
theorem aX2:(Tryz.prog.globals[6]?).map (·.type)=some 511:=by kernel_rfl
theorem of_laid6{W:World}(hL:laidMetH Tryz.prog laid6 W)(hS:W.ShapedOpen Tryz.prog):Glob (hp W)∧ErrT (hp W)∧Deb (hp W):=by
 have h':laidMet Tryz.prog [("math/bits.deBruijn32tab",YthopmddkpdehiaaGreatDoor.Rows.laid_math_bits_deBruijn32tab),("math/bits.deBruijn64tab",YthopmddkpdehiaaGreatDoor.Rows.laid_math_bits_deBruijn64tab),("internal/strconv.uint64pow10",YthopmddkpdehiaaGreatDoor.Rows.laid_internal_strconv_uint64pow10),("strconv.ErrRange",YthopmddkpdehiaaGreatDoor.Rows.laid_strconv_ErrRange),("strconv.ErrSyntax",YthopmddkpdehiaaGreatDoor.Rows.laid_strconv_ErrSyntax)] W∧handlesMet Tryz.prog [("errors.errorType",YthopmddkpdehiaaGreatDoor.Rows.laid_errors_errorType)] W:=hL;refine⟨⟨aQ0 hS,fun w le=>?_⟩,aM9 (l:=[]) h'.2,?_⟩
 ·exact aXD (Lib.tabIs_of_head (rest:=[("strconv.ErrRange",YthopmddkpdehiaaGreatDoor.Rows.laid_strconv_ErrRange),("strconv.ErrSyntax",YthopmddkpdehiaaGreatDoor.Rows.laid_strconv_ErrSyntax)]) gPow aX3 Tryz.underlying475 Tryz.underlying345 bR bR (h'.1.tail.tail)) le
 ·have ht:Lib.TabIs Tryz.prog W "math/bits.deBruijn64tab" .u8 aX1:=Lib.tabIs_of_head (rest:=[("internal/strconv.uint64pow10",YthopmddkpdehiaaGreatDoor.Rows.laid_internal_strconv_uint64pow10),("strconv.ErrRange",YthopmddkpdehiaaGreatDoor.Rows.laid_strconv_ErrRange),("strconv.ErrSyntax",YthopmddkpdehiaaGreatDoor.Rows.laid_strconv_ErrSyntax)]) gDeb aX2 Tryz.underlying511 Tryz.underlying5 bR bR h'.1.tail;unfold Lib.TabIs World.var? at ht;rw[gDeb]at ht;simp only[Option.bind_some]at ht;split at ht
  ·rename_i cs T fz hw;have:=Option.some.inj ht;subst this;exact⟨_,T,fz,hw,rfl⟩
  ·cases ht
theorem door_met6(os:Os)(args:Array Value):laidMetH Tryz.prog laid6 ((World.doorLaid Tryz.prog 100 os).forCall (fun _ _=>0) ⟨#[],args,[]⟩).memory:=
 laidMetH_of_parts3 (fuel:=8) (laidMet_of_run' 8 bR bR) bR bR
end TzRow
end Go.Proofs
end
section
set_option maxRecDepth 100000
namespace Go.Proofs
open Go Go.SL Go.Syn Go.Mach Go.ChangeShapes Go.WideShapes Go.RowKit
namespace TzRow
section
variable{H:Type}{enc:TypeId×Value→H}{W:World}{base:Nat}{sp:Nat→Bool}{held:Bool}
theorem aEA{n:Nat}{cs:List Value}{x:DataW H×List MemPlace}(h:DataW.trod enc Tryz.prog W base sp held n 9 cs=some x):∃l:aM,cs=[str l]∧l.length∈x.1.weights Tryz.prog 9:=by
 obtain⟨l,h1,h2⟩:=aSJ Tryz.underlying9 h;exact⟨l,h1,by rw[h2];simp[DataW.weights]⟩
theorem aX4{n:Nat}{cs:List Value}{x:DataW H×List MemPlace}{M:List Nat}(h:DataW.trod enc Tryz.prog W base sp held n 25 cs=some x)(hM:∀k∈x.1.weights Tryz.prog 25,k∈M):∃a:aM×aM,cs=hdEl.enc a∧a.1.length∈M∧a.2.length∈M:=by
 obtain⟨m,hl,hf⟩:=xT Tryz.underlying25 h;have c25:Tryz.prog.cellsOf 25=2:=by kernel_rfl
 have c9:Tryz.prog.cellsOf 9=1:=by kernel_rfl
 rw[c25]at hl
 match cs,hl,hf with
 | [c0,c1],_,hf=>
  obtain⟨y0,h0,w0⟩:=hf 0 _ rfl;obtain⟨y1,h1,w1⟩:=hf 1 _ rfl;dsimp only at h0 h1 w0 w1;rw[c9]at h0 h1;obtain⟨l0,e0,k0⟩:=aEA h0;obtain⟨l1,e1,k1⟩:=aEA h1;simp at e0 e1;subst e0 e1;exact⟨(l0,l1),rfl,hM _ (w0 _ k0),hM _ (w1 _ k1)⟩
theorem in_msg{v:Value}{d:DataW H}{p:List MemPlace}{M:List Nat}(hv:Value.okWide Tryz.prog W .any base 28 v)(h:DataW.Trod enc Tryz.prog W 0 sp held 28 v d p)(hM:∀k∈d.weights Tryz.prog 28,k∈M)(hB:∀k∈M,k≤reachBytes):
  ∃m hv,v=msgV m hv∧Ksl hdEl (hp W) hv m.hs∧MsgSz m:=by
 obtain⟨cs,rfl,hc⟩:=okWide_struct Tryz.underlying28 hv;obtain⟨n,hf⟩:=h;have c28:Tryz.prog.cellsOf 28=4:=by kernel_rfl
 have c9:Tryz.prog.cellsOf 9=1:=by kernel_rfl
 have c3:Tryz.prog.cellsOf 3=1:=by kernel_rfl
 have c26:Tryz.prog.cellsOf 26=1:=by kernel_rfl
 have b25:Tryz.prog.bytesOf 25=32:=by kernel_rfl
 obtain⟨m,hl,hf⟩:=xT Tryz.underlying28 hf;rw[c28]at hc hl;obtain⟨l⟩:=cs;have hl':l.length=4:=hl
 match l,hl',hf with
 | [c0,c1,c2,c3'],_,hf=>
  obtain ⟨y0, h0, w0⟩ := hf 0 _ rfl;obtain ⟨y1, h1, w1⟩ := hf 1 _ rfl;obtain ⟨y2, h2, w2⟩ := hf 2 _ rfl;obtain ⟨y3, h3, w3⟩ := hf 3 _ rfl;dsimp only at h0 h1 h2 h3 w0 w1 w2 w3;rw [c9] at h0 h1;rw [c3] at h2;rw [c26] at h3;obtain ⟨l0, e0, k0⟩ := aEA h0;obtain ⟨l1, e1, k1⟩ := aEA h1;obtain ⟨i, e2, _⟩ := aSI Tryz.underlying3 h2;have h3' : DataW.trod enc Tryz.prog W 0 sp held m 26 [c3'] = some y3 := h3;obtain ⟨xs, ks, hG, hlen⟩ := aWW (k := hdEl) (G := fun a => a.1.length ≤ reachBytes ∧ a.2.length ≤ reachBytes) Tryz.underlying26 bR (by decide) (fun n cs y hy hw => by
   obtain⟨a,ha,k1,k2⟩:=aX4 (M:=y3.1.weights Tryz.prog 26) hy hw;exact⟨a,ha,hB _ (hM _ (w3 _ k1)),hB _ (hM _ (w3 _ k2))⟩) h3'
  simp[Value.cells]at e0 e1 e2;subst e0 e1 e2;have q0:=hB _ (hM _ (w0 _ k0));have q1:=hB _ (hM _ (w1 _ k1));refine⟨⟨l0,l1,i,xs⟩,c3',rfl,ks,?_⟩
  have hr:reachBytes=140737488351232:=rfl;rw[hr]at q0 q1 hG;refine⟨by show l0.length≤_;omega,by show l1.length≤_;omega,?_,fun a ha=>?_⟩
  ·show xs.length≤_
   rcases hlen with rfl|⟨k,hk,hk2⟩
   ·simp
   ·have:=hB _ (hM _ (w3 _ hk));rw[hr]at this;have e25:hdEl.e=25:=rfl;rw[e25,b25]at hk2;omega
  ·have:=hG a ha;exact⟨by omega,by omega⟩
end
end TzRow
end Go.Proofs
end
section
namespace Go.SL
open Go.MapKept
def mdel(k:List UInt8):List Ent→List Ent
 | []=>[]
 |e::r=>if k=e.1 then r else e::mdel k r
theorem aCA{k:List UInt8}:∀ {es:List Ent} {i:Nat},jT k es i=none→mdel k es=es
 | [],_,_=>rfl
 |e::es,i,h=>by
  unfold jT at h;unfold mdel;split at h
  ·cases h
  ·rename_i hk;rw[if_neg hk,aCA h]
theorem aKX{k:List UInt8}:∀ {es:List Ent} {i j:Nat} {u:Value},jT k es i=some (j,u)→i≤j∧j - i < es.length∧es.eraseIdx (j - i)=mdel k es
 | [],_,_,_,h=>by cases h
 |e::es,i,j,u,h=>by
  unfold jT at h;unfold mdel;split at h
  ·rename_i hk;cases h
   rw[if_pos hk,Nat.sub_self];exact⟨Nat.le_refl _,by simp,rfl⟩
  ·rename_i hk;obtain⟨h1,h2,h3⟩:=aKX h;have e1:j - i=(j - (i+1))+1:=by omega
   rw[if_neg hk,e1];refine⟨by omega,by simp only[List.length_cons];omega,?_⟩
   rw[List.eraseIdx_cons_succ,h3]
theorem uU{α β:Type}(f:α→β):∀(l:List α) (i:Nat),(l.map f).eraseIdx i=(l.eraseIdx i).map f
 | [],_=>rfl
 |_::_,0=>rfl
 |a::l,i+1=>by simp[List.eraseIdx_cons_succ,uU f l i]
section
variable{E:Env}{fr:Fr}{K:Hl}{L L':List Asn}{dst:Option Tmp}{ty:TypeId}{pos:String}{aft:Array Edge}{g:Option (Nat×Bool)}{x y:Operand}{t kt et t2:TypeId}{b:Nat}{es:List Ent}{c:Nat}{k:List UInt8}
theorem aJD{P:Program}{w:World}(hm:P.underlying t=some (.map kt et))(hk:P.underlying kt=some .string)(hb:w.heap[b]?=some (mapO es c)):
  (Builtin.delete_ #[t,t2] ty #[.map (some b),str k]).run P w=.ok (.tuple #[]) {w with heap:=w.heap.setIfInBounds b (mapO (mdel k es) c)}:=by
 have h1:∀z,(Instr.checkKey z 10000 kt (str k)).run P w=.ok () w:=fun z=>run_checkKey hk (d:=.string) (k:=str k) trivial _ 9999
 have h2:=run_findKey (w:=w) (kt:=kt) hk (mV k es 0);unfold Builtin.delete_;simp only[List.getElem?_toArray,List.getElem?_cons_zero,List.getElem?_cons_succ];rw[aT (run_underlying hm w)];simp only[];have key:∀o:Obj,(setObj b o).run P w=.ok () {w with heap:=w.heap.setIfInBounds b o}:=fun o=>MapKept.run_setObj_map _ hb
 show ((getObj b)>>=fun _=>_).run P w=_
 rw[aT (MapKept.run_getObj_map hb)];simp only[];rw[aT (h1 _)]
 show ((Instr.findKey kt (str k) (es.map ent))>>=fun _=>_).run P w=_
 rw[aT h2];cases hf:jT k es 0 with
 |none=>
  show ((setObj b (mapO es c))>>=fun _=>_).run P w=_
  rw[aT (key _),aCA hf];rfl
 |some p=>
  obtain⟨i,u⟩:=p;obtain⟨_,h3,h4⟩:=aKX hf;rw[Nat.sub_zero]at h3 h4;have e1:((es.map ent).toArray.eraseIdxIfInBounds i)=((mdel k es).map ent).toArray:=by
   rw[←h4];simp[Array.eraseIdxIfInBounds,h3,List.eraseIdx_toArray,uU]
  show ((setObj b (.map ((es.map ent).toArray.eraseIdxIfInBounds i) c))>>=fun _=>_).run P w=_
  rw[aT (key _),e1];rfl
theorem aRP{dst:Option Tmp}{ats:Array TypeId}(ha:ats= #[t,t2])(hm:E.P.underlying t=some (.map kt et))(hk:E.P.underlying kt=some .string)(hx:fr.ev x=some (.map (some b)))(hy:fr.ev y=some (str k))
  (hF:Fnd (pt b (mapO es c)) (pt b (mapO (mdel k es) c)) L L'):EfS E fr K L ⟨dst,.call ⟨.builtin .delete,#[x,y],ats⟩,ty,pos,aft,g⟩ (fun u K' L''=>u=.tuple #[]∧K'=K∧L''=L'):=by
 intro a w f j;subst ha;have hb:=j.mem hF;have e1:Array.map a.eval #[x,y]= #[.map (some b),str k]:=by simp[f.ev hx,f.ev hy]
 have hs:=MapKept.heap_set (o':=mapO (mdel k es) c) hb;refine⟨_,_,_,_,.inl ?_,⟨rfl,rfl,rfl⟩,Hl.le_refl _,j.writeAt hF (by simp) hs.1 hs.2⟩
 simp only[execOp,resolve,e1,bind,pure,Sem.bind,invoke,builtin];exact d9 (aJD hm hk hb)
end
end Go.SL
end
section
namespace Go.SL
open Go.MapKept
theorem aG6{P:Program}(w:World)(ty:TypeId)(b bm since c0:Nat)(seen:Array Nat)(es:Array MapEntry)(clock:Nat)(hbi:w.heap[b]?=some (.mapIter (some bm) since seen c0))(hb:w.heap[bm]?=some (.map es clock))(hold:∀x∈es.toList,x.born < since)(hsc:since≤c0):
  ((leftOf es seen).size=0∧(Instr.next (.pointer (some ⟨b,0,none⟩)) false ty).run P w=.ok (.tuple #[.bool false]) w)∨
  ∃e∈(leftOf es seen).toList,∃w1:World,w1.os=w.os∧w1.tape=w.tape∧w1.output=w.output∧w1.heap=w.heap∧(Instr.next (.pointer (some ⟨b,0,none⟩)) false ty).run P w=.ok (.tuple #[.bool true,e.key,e.val]) {w1 with heap:=w.heap.setIfInBounds b (.mapIter (some bm) since (seen.push e.born) clock)}:=by
 simp only[Instr.next,getObj,Sem.run_bind,Sem.run,hbi,hb,Result.andThen,next_test_false seen es since c0 hold hsc,Bool.false_eq_true,if_false];unfold leftOf;have hmem:∀x∈(Array.filter (fun e=>!seen.contains e.born) es).toList,x.born < since:=fun x hx=>hold x (by simp at hx ⊢;exact hx.1)
 generalize Array.filter (fun e=>!seen.contains e.born) es=L at hmem ⊢
 have e1:L.filter (fun x=>decide (x.born < since))=L:=Array.filter_eq_self.2 (fun x hx=>by simpa using hmem x (by simpa using hx));have e2:L.filter (fun x=>decide (x.born≥since))= #[]:=by
  rw[Array.filter_eq_empty_iff];intro x hx;have:=hmem x (by simpa using hx);simp;omega
 simp only[e1,e2,Array.append_empty]
 by_cases h0:L.size=0
 ·left
  have:L= #[]:=Array.eq_empty_of_size_eq_zero h0;subst this;refine⟨rfl,?_⟩
  simp[choose,Sem.run,Question.forced]
 ·right
  have hne:L.isEmpty=false:=by simp[Array.isEmpty,h0]
  simp only[hne,Bool.false_eq_true,if_false,Array.empty_append,Array.size_map];have hch:∃(j:Nat) (w1:World),j < L.size∧(w1.os=w.os∧w1.tape=w.tape∧w1.output=w.output∧w1.heap=w.heap)∧(choose (Question.mapNext L.size)).run P w=.ok j w1:=by
   by_cases hf:L.size≤1
   ·exact⟨0,w,by omega,⟨rfl,rfl,rfl,rfl⟩,by simp[choose,Sem.run,Question.forced,hf]⟩
   ·exact ⟨_, w.drew, Nat.mod_lt _ aI, ⟨rfl, rfl, rfl, rfl⟩, by
     simp only[choose,Sem.run,Question.forced,decide_eq_true_eq,hf,if_false,Question.cut]
     rfl⟩
  obtain⟨j,w1,hj,⟨a1,a2,a3,a4⟩,hrun⟩:=hch;refine⟨L[j],by simp,w1,a1,a2,a3,a4,?_⟩
  have hset:∀(o':Obj),(setObj b o').run P w1=.ok () {w1 with heap:=w.heap.setIfInBounds b o'}:=fun o'=>by
   simp only[setObj,Sem.run];rw[a4,hbi]
  simp only[hrun,Array.getElem?_map,Array.getElem?_eq_getElem hj,Option.map_some,Sem.run_bind,hset,Result.andThen]
  rfl
abbrev mit(b m since:Nat)(seen:List Nat)(last:Nat):Asn:=pt b (.mapIter (some m) since seen.toArray last)
structure Fresh (es:List Ent) (c:Nat):Prop where
 lt:∀e∈es,e.2.2 < c
 nd:(es.map (·.2.2)).Nodup
section
variable{E:Env}{fr:Fr}{K:Hl}{L L':List Asn}{dst:Option Tmp}{ty:TypeId}{pos:String}{aft:Array Edge}{g:Option (Nat×Bool)}{x:Operand}{t kt et:TypeId}{b m c:Nat}{es:List Ent}{seen:List Nat}
theorem aAK(hu:E.P.underlying t=some (.map kt et))(hx:fr.ev x=some (.map (some m)))(hs:Sees K L m (mapO es c)):EfS E fr K L ⟨dst,.range t x,ty,pos,aft,g⟩ (fun v K' L'=>∃b,v=ptr b∧K'=K∧L'=mit b m c [] c::L):=by
 intro a w f i;have hb:=hs.at i;refine⟨ptr w.heap.size,w.alloc (.mapIter (some m) c #[] c),K,mit w.heap.size m c [] c::L,.inl ?_,⟨_,rfl,rfl,rfl⟩,Hl.le_refl _,i.alloc _⟩
 simp only[execOp,f.ev hx,bind];exact aT (run_range_map w t kt et m _ c hu hb)
theorem aCM{M:Nat→List Asn}(hx:fr.ev x=some (ptr b))(hs:Sees K L m (mapO es c))(hf:Fresh es c)(hT:∀n,Fnd (mit b m c seen c) (mit b m c (seen++[n]) c) L (M n)):
  EfS E fr K L ⟨dst,.next x false,ty,pos,aft,g⟩ (fun v K' L''=>K'=K∧((v=.tuple #[.bool false]∧L''=L∧∀e∈es,e.2.2∈seen)∨∃e∈es,e.2.2∉seen∧v=.tuple #[.bool true,str e.1,e.2.1]∧L''=M e.2.2)):=by
 intro a w f i;have hb:=hs.at i;have hbi:=i.mem (hT 0);have hold:∀y∈((es.map ent).toArray).toList,y.born < c:=by
  intro y hy;have hy2:y∈es.map ent:=hy;obtain⟨e,he,rfl⟩:=List.mem_map.1 hy2;exact hf.lt e he
 rcases aG6 (P:=E.P) w ty b m c c seen.toArray (es.map ent).toArray c hbi hb hold (Nat.le_refl _)with ⟨h0,hr⟩|⟨y,hy,w1,a1,a2,a3,a4,hr⟩
 ·refine⟨_,w,K,L,.inl ?_,⟨rfl,.inl ⟨rfl,rfl,fun e he=>?_⟩⟩,Hl.le_refl _,i⟩
  ·simp only[execOp,f.ev hx,bind];exact aT hr
  ·apply Classical.byContradiction
   intro hn;have:ent e∈(leftOf (es.map ent).toArray seen.toArray).toList:=by
    unfold leftOf;simp only[Array.toList_filter,List.mem_filter];exact⟨List.mem_map_of_mem he,by simp[ent,hn]⟩
   have h1:=List.length_pos_of_mem this;rw[Array.length_toList]at h1;omega
 ·unfold leftOf at hy;simp only[Array.toList_filter,List.mem_filter]at hy;obtain⟨e,he,rfl⟩:=List.mem_map.1 hy.1;have hn:e.2.2∉seen:=by have:=hy.2;simpa[ent]using this
  refine⟨_,{w1 with heap:=w.heap.setIfInBounds b (.mapIter (some m) c (seen.toArray.push (ent e).born) c)},K,M e.2.2,.inl ?_,⟨rfl,.inr ⟨e,he,hn,rfl,rfl⟩⟩,Hl.le_refl _,?_⟩
  ·simp only[execOp,f.ev hx,bind];exact aT hr
  ·have hlt:b < w.heap.size:=(Array.getElem?_eq_some_iff.1 hbi).1;have e1:(seen.toArray.push (ent e).born)=(seen++[e.2.2]).toArray:=by simp[ent]
   rw[e1];have j:=i.writeAt (hT e.2.2) (H:=w.heap.setIfInBounds b (.mapIter (some m) c (seen++[e.2.2]).toArray c)) (by simp) (by simp[hlt]) (fun y hy=>by rw[Array.getElem?_setIfInBounds_ne (Ne.symm hy)]);exact⟨a1.trans j.os,a2.trans j.tape,a3.trans j.output,j.size,j.rep⟩
theorem aEO{P:Program}(w:World)(b bm since:Nat)(seen:Array Nat)(es:Array MapEntry)(clock:Nat)(e:MapEntry)(hbi:w.heap[b]?=some (.mapIter (some bm) since (seen.push e.born) clock))(hb:w.heap[bm]?=some (.map es clock))(he:e∈es.toList)(hn:(es.toList.map (·.born)).Nodup):
  (Instr.entry (.pointer (some ⟨b,0,none⟩))).run P w=.ok (.tuple #[e.key,e.val]) w:=by
 have hf:es.find? (·.born==e.born)=some e:=by rw[←Array.find?_toList];exact find_born e es.toList hn he
 simp only[Instr.entry,getObj,Sem.run_bind,Sem.run,hbi,hb,Result.andThen,Array.back?_push,bne_self_eq_false,Bool.false_eq_true,if_false,hf]
 rfl
theorem xI{e:Ent}(hx:fr.ev x=some (ptr b))(hs:Sees K L m (mapO es c))(hf:Fresh es c)(he:e∈es)(hT:Hs (mit b m c (seen++[e.2.2]) c) L):Ev E fr K L ⟨dst,.entry x,ty,pos,aft,g⟩ (.tuple #[str e.1,e.2.1]):=by
 intro a w f i;have hb:=hs.at i;have hbi:=(Sees.own (K:=K) hT).at i;have e1:(seen.toArray.push (ent e).born)=(seen++[e.2.2]).toArray:=by simp[ent]
 simp only[execOp,f.ev hx,bind];refine aT (aEO w b m c seen.toArray (es.map ent).toArray c (ent e) (by rw[e1];exact hbi) hb (List.mem_map_of_mem he) ?_)
 have:=hf.nd
 show ((es.map ent).map (·.born)).Nodup
 rw[List.map_map];exact this
end
end Go.SL
end
section
namespace Go.SL
theorem f4(k:List UInt8)(e:Ent)(es:List Ent):mget (e::es) k=if k=e.1 then some e.2.1 else mget es k:=by
 unfold mget;rw[List.find?_cons]
 by_cases h:k=e.1
 ·simp[h]
 ·rw[if_neg h];simp[h]
theorem z6{k:List UInt8}{v:Value}{c:Nat}:∀(es:List Ent),(mset k v c es).map (·.2.2)=if (mget es k).isSome=true then es.map (·.2.2)else es.map (·.2.2)++[c]
 | []=>by simp[mset,mget]
 |e::es=>by
  unfold mset;rw[f4]
  by_cases h:k=e.1
  ·rw[if_pos h,if_pos h];simp
  ·rw[if_neg h,if_neg h,List.map_cons,z6 es];split <;> simp
theorem aCC{k:List UInt8}{v:Value}{c:Nat}:∀(es:List Ent),(mset k v c es).map (·.1)=if (mget es k).isSome=true then es.map (·.1)else es.map (·.1)++[k]
 | []=>by simp[mset,mget]
 |e::es=>by
  unfold mset;rw[f4]
  by_cases h:k=e.1
  ·rw[if_pos h,if_pos h];simp
  ·rw[if_neg h,if_neg h,List.map_cons,aCC es];split <;> simp
theorem rE{k:List UInt8}:∀(es:List Ent),(mget es k).isSome=true↔k∈es.map (·.1)
 | []=>by simp[mget]
 |e::es=>by
  rw[f4]
  by_cases h:k=e.1
  ·rw[if_pos h];simp[h]
  ·rw[if_neg h,rE es];simp[h]
theorem wG{k j:List UInt8}{v:Value}{c:Nat}:∀(es:List Ent),mget (mset k v c es) j=if j=k then some v else mget es j
 | []=>by
  unfold mset;rw[f4]
 |e::es=>by
  unfold mset
  by_cases h:k=e.1
  ·rw[if_pos h,f4,f4]
   by_cases h2:j=k
   ·rw[if_pos h2,if_pos (by rw[h2];exact h)]
   ·rw[if_neg h2,if_neg (fun h3=>h2 (h3.trans h.symm)),if_neg (fun h3=>h2 (h3.trans h.symm))]
  ·rw[if_neg h,f4,f4,wG es]
   by_cases h2:j=e.1
   ·rw[if_pos h2,if_pos h2,if_neg (fun h3=>h (h3.symm.trans h2))]
   ·rw[if_neg h2,if_neg h2]
theorem vD{k:List UInt8}:∀(es:List Ent),(mdel k es).Sublist es
 | []=>.slnil
 |e::es=>by
  unfold mdel;split
  ·exact List.sublist_cons_self _ _
  ·exact(vD es).cons_cons _
theorem aEJ{k:List UInt8}{es:List Ent}(h:k∉es.map (·.1)):mget es k=none:=by
 cases hm:mget es k with
 |none=>rfl
 |some v=>exact absurd ((rE es).1 (by rw[hm];rfl)) h
theorem aCB{k j:List UInt8}:∀ {es:List Ent},(es.map (·.1)).Nodup→mget (mdel k es) j=if j=k then none else mget es j
 | [],_=>by simp[mdel,mget]
 |e::es,hn=>by
  have hn':e.1∉es.map (·.1)∧(es.map (·.1)).Nodup:=List.nodup_cons.1 hn;unfold mdel
  by_cases h:k=e.1
  ·rw[if_pos h,f4]
   by_cases h2:j=k
   ·rw[if_pos h2];exact aEJ (by rw[h2,h];exact hn'.1)
   ·rw[if_neg h2,if_neg (fun h3=>h2 (h3.trans h.symm))]
  ·rw[if_neg h,f4,f4,aCB hn'.2]
   by_cases h2:j=e.1
   ·rw[if_pos h2,if_pos h2,if_neg (fun h3=>h (h3.symm.trans h2))]
   ·rw[if_neg h2,if_neg h2]
theorem Fresh.nil:Fresh [] 0:=by
 refine⟨?_,List.nodup_nil⟩
 intro e h;cases h
theorem Fresh.set{es:List Ent}{c:Nat}{k:List UInt8}{v:Value}(h:Fresh es c):Fresh (mset k v c es) (qO es k c):=by
 have hb:=z6 (k:=k) (v:=v) (c:=c) es;refine⟨fun e he=>?_,?_⟩
 ·have hm:e.2.2∈(mset k v c es).map (·.2.2):=List.mem_map_of_mem he;rw[hb]at hm;unfold qO;split at hm
  ·rename_i h1;rw[if_pos h1];obtain⟨f,hf,e2⟩:=List.mem_map.1 hm;rw[←e2];exact h.lt f hf
  ·rename_i h1;rw[if_neg h1];rcases List.mem_append.1 hm with hm|hm
   ·obtain⟨f,hf,e2⟩:=List.mem_map.1 hm;have:=h.lt f hf;omega
   ·have:=List.mem_singleton.1 hm;omega
 ·rw[hb];split
  ·exact h.nd
  ·refine List.nodup_append.2 ⟨h.nd,by simp,fun a ha b hb=>?_⟩
   obtain⟨f,hf,rfl⟩:=List.mem_map.1 ha;have:=h.lt f hf;have:=List.mem_singleton.1 hb;omega
theorem Fresh.del{es:List Ent}{c:Nat}{k:List UInt8}(h:Fresh es c):Fresh (mdel k es) c:=
 ⟨fun e he=>h.lt e ((vD es).subset he),h.nd.sublist ((vD es).map _)⟩
theorem aGF{es:List Ent}{c:Nat}{k:List UInt8}{v:Value}(h:(es.map (·.1)).Nodup):((mset k v c es).map (·.1)).Nodup:=by
 rw[aCC];split
 ·exact h
 ·rename_i h1;refine List.nodup_append.2 ⟨h,by simp,fun a ha b hb=>?_⟩
  have:=List.mem_singleton.1 hb;subst this;rintro rfl;exact h1 ((rE es).2 ha)
theorem aQO{es:List Ent}{k:List UInt8}(h:(es.map (·.1)).Nodup):((mdel k es).map (·.1)).Nodup:=h.sublist ((vD es).map _)
end Go.SL
end
section
namespace Go.Proofs
open Go Go.SL Go.Syn Go.Box
abbrev errV(n:Int):Value:=.iface 30 (i64 n)
def erV:Er→Value
 |none=>.nilIface
 |some n=>errV n
abbrev dskO(m1 m2 pv:Value)(l f:Int)(dn:Bool):Obj:=aU [m1,m2,pv,i64 l,i64 f,.bool dn] 110
theorem qM(b:Nat)(m1 m2 pv:Value)(l f:Int)(dn:Bool)(K:Hl):Sp Tryz.prog 405 [ptr b] K [pt b (dskO m1 m2 pv l f dn)] (Ret fun v K' L'=>v=erV (eC l f dn).1∧K'=K∧L'=[pt b (dskO m1 m2 pv (eC l f dn).2.1 (eC l f dn).2.2.1 (eC l f dn).2.2.2)]):=by
 refine aZ Tryz.func405 rfl Tryz.ntmps405 rfl rfl fun F w=>?_
 cases dn with
 |true=>
  refine aH (aB ?_);refine uAb ?_;refine aG (aE ?_);refine aH (aH ?_);refine uDs ?_;refine uAa ?_;refine uAc ?_;refine uBj ?_;refine uAy ?_;refine aG (aE ?_);refine uGe ?_;refine aH (aB ?_);refine uBz ?_;refine aA (aD (o':=5) jI rfl rfl) rfl ?_;refine uDt ?_;rintro _ K _ ⟨rfl,rfl⟩ -;refine aG (aE ?_);refine aH (aB ?_);refine aA (cL Tryz.underlying30 (fun _ h=>by cases h) rfl) rfl ?_;refine uAb ?_;refine aG (aE ?_);refine uCk ?_;refine uAg ?_;refine bF rfl rfl (Hl.le_refl _) ?_;have e:eC l f true=(some 16,l,f,true):=by unfold eC;rw[if_pos (.inl rfl)]
  rw[e];exact⟨_,rfl,rfl,rfl,rfl⟩
 |false=>
  refine aH (aB ?_);refine uAb ?_;refine aG (aE ?_);refine aH (aH ?_);refine uDs ?_;refine uDg ?_;refine uEw ?_;refine uAz ?_;refine aA (aD (o':=3) lB rfl rfl) rfl ?_;refine uDr ?_;refine uHe ?_;refine aG (aE ?_);refine bK 13 rfl (fun h13=>?_) (fun h13=>?_)
  ·
   refine aH (aB ?_);refine uBz ?_;refine aA (aD (o':=5) jI rfl rfl) rfl ?_;refine uDt ?_;rintro _ K _ ⟨rfl,rfl⟩ -;refine aG (aE ?_);refine aH (aB ?_);refine aA (cL Tryz.underlying30 (fun _ h=>by cases h) rfl) rfl ?_;refine uAb ?_;refine aG (aE ?_);refine uCk ?_;refine uAg ?_;refine bF rfl rfl (Hl.le_refl _) ?_;have e:eC l f false=(some 16,l,f,true):=by unfold eC;rw[if_pos (.inr bU)]
   rw[e];exact⟨_,rfl,rfl,rfl,rfl⟩
  ·
   refine aW ?_;refine aE (aH ?_);refine uBv ?_;refine aA (aD (o':=3) lB rfl rfl) rfl ?_;refine uAn ?_;refine aA (uV rfl rfl) rfl ?_;refine uEw ?_;refine aA (aD (o':=3) lB rfl rfl) rfl ?_;refine bP (bH ts3 rfl rfl cD aX (.succ (.succ (.succ .zero))) rfl) ?_;rintro _ K _ ⟨rfl,rfl⟩ -;refine aG (aE ?_);refine aH (aH ?_);refine uBv ?_;refine aA (aD (o':=4) j6 rfl rfl) rfl ?_;refine uAn ?_;refine uAq ?_;refine aG (aE ?_);refine bK 29 rfl (fun h29=>?_) (fun h29=>?_)
   ·
    refine aH (aB ?_);refine uBz ?_;refine uFn ?_;rintro _ K _ ⟨rfl,rfl⟩ -;refine aG (aE ?_);refine aH (aB ?_);refine aA (cL Tryz.underlying30 (fun _ h=>by cases h) rfl) rfl ?_;refine uAb ?_;refine aG (aE ?_);refine uCk ?_;refine uAg ?_;refine bF rfl rfl (Hl.le_refl _) ?_;have e:eC l f false=(some 15,IntKind.i64.wrap (l - 1),-1,false):=by unfold eC;rw[if_neg (by rintro(h|h);cases h;contradiction),if_pos bU]
    rw[e];exact⟨_,rfl,rfl,rfl,rfl⟩
   ·
    refine aW ?_;refine aE (aH ?_);refine uBv ?_;refine aA (aD (o':=4) j6 rfl rfl) rfl ?_;refine uAn ?_;refine aA (uV rfl rfl) rfl ?_;refine uEw ?_;refine uFn ?_;rintro _ K _ ⟨rfl,rfl⟩ -;refine aG (aE ?_);refine aH (aB ?_);refine uAb ?_;refine aG (aE ?_);refine uDi ?_;refine bF rfl rfl (Hl.le_refl _) ?_;have e:eC l f false=(none,IntKind.i64.wrap (l - 1),IntKind.i64.wrap (f - 1),false):=by unfold eC;rw[if_neg (by rintro(h|h);cases h;contradiction),if_neg bU]
    rw[e];exact⟨_,rfl,rfl,rfl,rfl⟩
def qT(K:Hl)(v:Value)(d:aM):Prop:=∃b T fz,v=ptr b∧K b=some (aU [str d] T fz)
theorem qT.mono{K K':Hl}{v:Value}{d:aM}(h:qT K v d)(le:K.le K'):qT K' v d:=let ⟨b,T,fz,e,h⟩:=h;⟨b,T,fz,e,le _ _ h⟩
abbrev opV(o:OpR):Value:=.agg #[i64 o.kind,str o.name,str o.to,str o.data]
theorem aL3(m:Nat)(es:List Ent)(c:Nat)(name to data:aM)(K:Hl):Sp Tryz.prog 81 [.map (some m),opV ⟨1,name,to,data⟩] K [pt m (mapO es c)]
  (Ret fun v K' L'=>v=.tuple #[]∧∃u,qT K' u data∧L'=[pt m (mapO (mset name u c es) (qO es name c))]):=by
 refine aZ Tryz.func81 rfl Tryz.ntmps81 rfl rfl fun F w=>?_
 refine aH (aB ?_);refine uBk ?_;rintro _ K _ ⟨b3,rfl,rfl,rfl⟩ -;refine aG (aE ?_);refine aH (aB ?_);refine uGk ?_;refine uAn ?_;refine aG (aE ?_);refine bE (aH ?_);refine aB ?_;refine uCe ?_;refine aG (aE ?_);refine uGe ?_;refine aH (aB ?_);refine aA (aD (o':=3) sQ rfl rfl) rfl ?_;refine uBl ?_;refine ol_s (cN tz9) rfl ?_;rintro _ K _ ⟨b4,rfl,rfl,rfl⟩ -;refine uGa ?_;rintro _ K _ ⟨rfl,rfl⟩ -;refine aG (aE ?_);refine aB ?_;refine fD fun K2 le2 hb4=>?_
 refine uAa ?_;refine aA (aD (o':=1) nS rfl rfl) rfl ?_;refine uBl ?_;refine bP (aK2 Tryz.underlying107 Tryz.underlying9 rfl rfl rfl aX) ?_;rintro _ K _ ⟨rfl,rfl⟩ -;refine aG (aN ?_);refine uEy ?_;refine dD rfl le2 ?_;exact⟨_,rfl,rfl,_,⟨_,_,_,rfl,hb4⟩,rfl⟩
theorem aL4(m:Nat)(es:List Ent)(c:Nat)(name to data:aM)(K:Hl):Sp Tryz.prog 81 [.map (some m),opV ⟨3,name,to,data⟩] K [pt m (mapO es c)]
  (Ret fun v K' L'=>v=.tuple #[]∧K'=K∧L'=[pt m (mapO (mdel name es) c)]):=by
 refine aZ Tryz.func81 rfl Tryz.ntmps81 rfl rfl fun F w=>?_
 refine aH (aB ?_);refine uBk ?_;rintro _ K _ ⟨b3,rfl,rfl,rfl⟩ -;refine aG (aE ?_);refine aH (aB ?_);refine uGk ?_;refine uAn ?_;refine aG (aE ?_);refine bE (aH ?_);refine aB ?_;refine uCe ?_;refine aG (aE ?_);refine uHq ?_;refine aH (aB ?_);refine uCe ?_;refine aG (aE ?_);refine uHq ?_;refine aH (aB ?_);refine uCe ?_;refine aG (aE ?_);refine uGe ?_;refine uAf ?_;refine aA (aD (o':=1) nS rfl rfl) rfl ?_;refine uBl ?_;refine bP (aRP rfl Tryz.underlying107 Tryz.underlying9 rfl rfl aX) ?_;rintro _ K _ ⟨rfl,rfl,rfl⟩ -;refine aG (aN ?_);refine uEy ?_;refine dD rfl (Hl.le_refl _) ?_;exact⟨_,rfl,rfl,rfl,rfl⟩
structure MapOk (K:Hl) (es:List Ent) (c:Nat) (f:DMap):Prop where
 fresh:Fresh es c
 nd:(es.map (·.1)).Nodup
 has:∀n v,mget es n=some v→∃d,f n=some d∧qT K v d
 lacks:∀n,mget es n=none→f n=none
theorem MapOk.mono{K K':Hl}{es:List Ent}{c:Nat}{f:DMap}(h:MapOk K es c f)(le:K.le K'):MapOk K' es c f:=
 ⟨h.fresh,h.nd,fun n v e=>let ⟨d,h1,h2⟩:=h.has n v e;⟨d,h1,h2.mono le⟩,h.lacks⟩
theorem MapOk.nil{K:Hl}:MapOk K [] 0 (fun _=>none):=⟨Fresh.nil,List.nodup_nil,fun n v e=>by simp[mget]at e,fun n _=>rfl⟩
theorem MapOk.put{K:Hl}{es:List Ent}{c:Nat}{f:DMap}{n d:aM}{u:Value}(h:MapOk K es c f)(hu:qT K u d):MapOk K (mset n u c es) (qO es n c) (f.put n d):=by
 refine⟨h.fresh.set,aGF h.nd,fun j v e=>?_,fun j e=>?_⟩ <;> rw[wG]at e <;> unfold DMap.put <;> split at e
 ·rename_i hj;cases e;rw[if_pos hj];exact⟨d,rfl,hu⟩
 ·rename_i hj;rw[if_neg hj];exact h.has j v e
 ·cases e
 ·rename_i hj;rw[if_neg hj];exact h.lacks j e
theorem MapOk.cut{K:Hl}{es:List Ent}{c:Nat}{f:DMap}{n:aM}(h:MapOk K es c f):MapOk K (mdel n es) c (f.cut n):=by
 refine⟨h.fresh.del,aQO h.nd,fun j v e=>?_,fun j e=>?_⟩ <;> rw[aCB h.nd]at e <;> unfold DMap.cut <;> split at e
 ·cases e
 ·rename_i hj;rw[if_neg hj];exact h.has j v e
 ·rename_i hj;rw[if_pos hj]
 ·rename_i hj;rw[if_neg hj];exact h.lacks j e
theorem MapOk.isSome{K:Hl}{es:List Ent}{c:Nat}{f:DMap}(h:MapOk K es c f)(n:aM):(mget es n).isSome=(f n).isSome:=by
 cases e:mget es n with
 |none=>rw[h.lacks n e];rfl
 |some v=>obtain⟨d,h1,_⟩:=h.has n v e;rw[h1];rfl
def OpOk(o:OpR):Prop:=o.kind=1∨o.kind=3
theorem qY(m:Nat)(es:List Ent)(c:Nat)(f:DMap)(o:OpR)(ho:OpOk o)(K:Hl)(hm:MapOk K es c f):Sp Tryz.prog 81 [.map (some m),opV o] K [pt m (mapO es c)]
  (Ret fun v K' L'=>v=.tuple #[]∧∃es' c',MapOk K' es' c' (doF f o)∧L'=[pt m (mapO es' c')]):=by
 obtain⟨k,n,t,d⟩:=o;rcases ho with h|h <;> (simp only at h;subst h)
 ·refine aVK (aL3 m es c n t d K) ?_;rintro e K' L' le ⟨v,rfl,rfl,u,hu,rfl⟩;exact⟨_,rfl,rfl,_,_,(hm.mono le).put hu,rfl⟩
 ·refine aVK (aL4 m es c n t d K) ?_;rintro e K' L' le ⟨v,rfl,rfl,rfl,rfl⟩;exact⟨_,rfl,rfl,_,_,hm.cut,rfl⟩
end Go.Proofs
end
section
namespace Go.Proofs
open Go Go.SL Go.Syn Go.Box
def opEl:El OpR:={e:=165,sz:=4,enc:=fun o=>[i64 o.kind,str o.name,str o.to,str o.data],len:=fun _=>rfl,one:=fun _ u h=>by simp at h;rcases h with rfl|rfl|rfl|rfl <;> rfl}
abbrev dskL(b m1 m2:Nat)(es1:List Ent)(c1:Nat)(es2:List Ent)(c2:Nat)(pv:Value)(s:DSt):List Asn:=
 [pt b (dskO (.map (some m1)) (.map (some m2)) pv s.left s.full s.down),pt m1 (mapO es1 c1),pt m2 (mapO es2 c2),sl false opEl pv s.pend]
def lE(K:Hl)(b:Nat)(s:DSt)(L:List Asn):Prop:=∃m1 m2 es1 c1 es2 c2 pv,MapOk K es1 c1 s.dur∧MapOk K es2 c2 s.now∧(∀o∈s.pend,OpOk o)∧pv.oneCell'=true∧L=dskL b m1 m2 es1 c1 es2 c2 pv s
theorem lE.mono{K K':Hl}{b:Nat}{s:DSt}{L:List Asn}(h:lE K b s L)(le:K.le K'):lE K' b s L:=
 let ⟨m1,m2,es1,c1,es2,c2,pv,h1,h2,h3,h4,h5⟩:=h
 ⟨m1,m2,es1,c1,es2,c2,pv,h1.mono le,h2.mono le,h3,h4,h5⟩
theorem aN8(b:Nat)(s:DSt)(o:OpR)(ho:OpOk o)(hp:s.pend.length≤1000000)(K:Hl)(L:List Asn)(hd:lE K b s L):Sp Tryz.prog 404 [ptr b,opV o] K L
  (Ret fun v K' L'=>v=erV (e6 o s).1∧lE K' b (e6 o s).2 L'):=by
 obtain⟨m1,m2,es1,c1,es2,c2,pv,hm1,hm2,hop,hpv,rfl⟩:=hd;obtain⟨dur,now,pend,l,f,dn⟩:=s;obtain⟨k,n,t,d⟩:=o;simp only at hm1 hm2 hop hp;refine aZ Tryz.func404 rfl Tryz.ntmps404 rfl rfl fun F w=>?_
 refine aH (aB ?_);refine uBk ?_;rintro _ K _ ⟨b3,rfl,rfl,rfl⟩ -;refine uAb ?_;refine aG (aE ?_);refine aH (aH ?_);refine uAf ?_;refine bC rfl rfl (qM b _ _ pv l f dn _) (.cons (.there .here) .nil) rfl ?_;rintro _ K _ ⟨rfl,rfl,rfl⟩ -;refine uAb ?_;refine aG (aE ?_);rcases hw:eC l f dn with ⟨_|e,l2,f2,dn2⟩
 ·
  refine aH (aB ?_);refine uAa ?_;refine uEz ?_;refine aG (aE ?_);refine uBf ?_;refine aE ?_;cases hg:mget es2 n
  ·
   refine aH (aH ?_);refine t_draw (anc:=[0,1,3,7,0,16,63,127,255,255,511,2047]) (ord:=[0,1,2,3,4,5,6,7,8,9,10,11]) [] [] mixed (by decide+kernel) (cS _) ?_;refine uDd ?_;refine uFi ?_;refine dl_ev rfl rfl (.none rfl) rfl rfl (nX Tryz.underlying107 Tryz.underlying9 aC9 rfl rfl aL hg) rfl ?_;refine uBp ?_;refine aE (aH ?_);refine uFd ?_;refine uGq ?_;refine uGk ?_;refine uDr ?_;refine uEr ?_;refine uAy ?_;refine aG (aE ?_);refine bK 29 rfl (fun h29=>?_) (fun h29=>?_)
   ·
    refine aH (aB ?_);refine aA (cL Tryz.underlying30 (fun _ h=>by cases h) rfl) rfl ?_;refine uAb ?_;refine aG (aE ?_);refine uCk ?_;refine aO (.cons .here (.cons (.there .here) (.cons (.there .here) (.cons (.there .here) .nil)))) ?_;refine bF rfl rfl (by first|exact Hl.le_refl _|assumption) ?_;rw[aR9 (s:=⟨dur,now,pend,l,f,dn⟩) hw (hm2.lacks _ hg) h29];exact⟨_,rfl,rfl,m1,m2,es1,c1,es2,c2,pv,hm1,hm2,hop,hpv,rfl⟩
   ·
    refine aW ?_;refine aE (aH ?_);refine aH (aB ?_);refine uGk ?_;refine uAn ?_;refine aA (ev_F (bW rfl rfl) (by show ¬k=2;rcases ho with h|h <;> simp only at h <;> omega)) rfl ?_;refine uAa ?_;refine uAc ?_;refine uGo ?_;refine aG (aE ?_);refine uBf ?_;refine aE (aH ?_);refine t_draw (anc:=[0,1,3,7,0,31]) (ord:=[0,1,2,3,4,5]) [5] [5] mixed (by decide+kernel) (cS _) ?_;refine uDd ?_;refine uFf ?_;refine gK rfl (.none rfl) rfl rfl rfl (qY m2 es2 c2 now ⟨k,n,t,d⟩ ho _ hm2) (.cons (.there (.there (.there .here))) .nil) rfl ?_;rintro _ K1 _ ⟨rfl,es3,c3,hm3,rfl⟩ le1;refine dl_nil ?_;refine aE (aH ?_);refine t_draw (anc:=[0,0,2,6,14,0,32,126,255,511,1023]) (ord:=[0,1,2,3,4,5,6,7,8,9,10]) [6,7,10] [10] mixed (by decide+kernel) (.cons (.there .here) (.cons (.there .here) .nil)) ?_;refine uCt ?_;refine dl_s rfl rfl (.none rfl) rfl rfl (bN (z0:=[.int .i64 0,(str []),(str []),(str [])]) m5 aDB rfl rfl rfl rfl (.cons rfl rfl rfl (.cons (.cons (.cons (.cons .nil)))) .nil)) rfl ?_;rintro _ K _ ⟨b53,rfl,rfl,rfl⟩ -;refine⟨_,(show Tks _ _ _ from (.cons (.there .here) (.cons (.there .here) .nil))).sat,?_⟩
    refine dl_s rfl rfl (.none rfl) rfl rfl (dM (k:=opEl) (ys:=[(⟨k,n,t,d⟩:OpR)]) oE rfl rfl (.there (.there (.there (.there (.there .here))))) (fun w j=>dB Tryz.underlying108 (SeesSl.at (k:=opEl) (.blk (.own (.there (.there .here))) rfl rfl) j)) (by show (pend.length+1)*56≤140737488355328;omega) (by show pend.length+1≤9223372036854775807;omega)) rfl ?_;rintro v54 K _ ⟨rfl,rfl,ho54⟩ -;refine⟨_,(show Tks _ _ _ from (.cons (.there .here) (.cons (.there .here) .nil))).sat,?_⟩
    refine uEb ?_;rintro _ K _ ⟨rfl,rfl⟩ -;refine dl_nil ?_;refine aE (aH ?_);refine uFr ?_;refine aG (aE ?_);refine uHl ?_;refine bF rfl rfl (by first|exact Hl.le_refl _|assumption) ?_;rw[vL (s:=⟨dur,now,pend,l,f,dn⟩) hw (by have:=hm2.isSome n;first|exact fun⟨_,h⟩=>h29 h|(rintro⟨h,_⟩;rw[hg,show now n=none from h]at this;cases this))];exact⟨_,rfl,rfl,m1,m2,es1,c1,es3,c3,v54,hm1.mono le1,hm3,fun o h=>by rcases List.mem_append.1 h with h|h;exact hop o h;rw[List.mem_singleton.1 h];exact ho,ho54,rfl⟩
  ·
   refine aH (aH ?_);refine t_draw (anc:=[0,1,3,7,0,16,63,127,255,255,511,2047]) (ord:=[0,1,2,3,4,5,6,7,8,9,10,11]) [] [] mixed (by decide+kernel) (cS _) ?_;refine uDd ?_;refine uFi ?_;refine dl_ev rfl rfl (.none rfl) rfl rfl (p6 Tryz.underlying107 Tryz.underlying9 aC9 rfl rfl aL hg) rfl ?_;refine uBp ?_;refine aE (aH ?_);refine uFd ?_;refine uAa ?_;refine uFa ?_;refine aG (aE ?_);refine uBf ?_;refine aE (aH ?_);refine aH (aB ?_);refine uGk ?_;refine uAn ?_;refine aA (ev_F (bW rfl rfl) (by show ¬k=2;rcases ho with h|h <;> simp only at h <;> omega)) rfl ?_;refine uAa ?_;refine uAc ?_;refine uGo ?_;refine aG (aE ?_);refine uBf ?_;refine aE (aH ?_);refine t_draw (anc:=[0,1,3,7,0,31]) (ord:=[0,1,2,3,4,5]) [5] [5] mixed (by decide+kernel) (cS _) ?_;refine uDd ?_;refine uFf ?_;refine gK rfl (.none rfl) rfl rfl rfl (qY m2 es2 c2 now ⟨k,n,t,d⟩ ho _ hm2) (.cons (.there (.there (.there .here))) .nil) rfl ?_;rintro _ K1 _ ⟨rfl,es3,c3,hm3,rfl⟩ le1;refine dl_nil ?_;refine aE (aH ?_);refine t_draw (anc:=[0,0,2,6,14,0,32,126,255,511,1023]) (ord:=[0,1,2,3,4,5,6,7,8,9,10]) [6,7,10] [10] mixed (by decide+kernel) (.cons (.there .here) (.cons (.there .here) .nil)) ?_;refine uCt ?_;refine dl_s rfl rfl (.none rfl) rfl rfl (bN (z0:=[.int .i64 0,(str []),(str []),(str [])]) m5 aDB rfl rfl rfl rfl (.cons rfl rfl rfl (.cons (.cons (.cons (.cons .nil)))) .nil)) rfl ?_;rintro _ K _ ⟨b53,rfl,rfl,rfl⟩ -;refine⟨_,(show Tks _ _ _ from (.cons (.there .here) (.cons (.there .here) .nil))).sat,?_⟩
   refine dl_s rfl rfl (.none rfl) rfl rfl (dM (k:=opEl) (ys:=[(⟨k,n,t,d⟩:OpR)]) oE rfl rfl (.there (.there (.there (.there (.there .here))))) (fun w j=>dB Tryz.underlying108 (SeesSl.at (k:=opEl) (.blk (.own (.there (.there .here))) rfl rfl) j)) (by show (pend.length+1)*56≤140737488355328;omega) (by show pend.length+1≤9223372036854775807;omega)) rfl ?_;rintro v54 K _ ⟨rfl,rfl,ho54⟩ -;refine⟨_,(show Tks _ _ _ from (.cons (.there .here) (.cons (.there .here) .nil))).sat,?_⟩
   refine uEb ?_;rintro _ K _ ⟨rfl,rfl⟩ -;refine dl_nil ?_;refine aE (aH ?_);refine uFr ?_;refine aG (aE ?_);refine uHl ?_;refine bF rfl rfl (by first|exact Hl.le_refl _|assumption) ?_;rw[vL (s:=⟨dur,now,pend,l,f,dn⟩) hw (by have:=hm2.isSome n;first|exact fun⟨_,h⟩=>h29 h|(rintro⟨h,_⟩;rw[hg,show now n=none from h]at this;cases this))];exact⟨_,rfl,rfl,m1,m2,es1,c1,es3,c3,v54,hm1.mono le1,hm3,fun o h=>by rcases List.mem_append.1 h with h|h;exact hop o h;rw[List.mem_singleton.1 h];exact ho,ho54,rfl⟩
 ·
  refine aH (aB ?_);refine uAa ?_;refine uFb ?_;refine aG (aE ?_);refine uGe ?_;refine aH (aB ?_);refine uEj ?_;refine aG (aE ?_);refine uCk ?_;refine aO (.cons .here (.cons (.there .here) (.cons (.there .here) (.cons (.there .here) .nil)))) ?_;refine bF rfl rfl (by first|exact Hl.le_refl _|assumption) ?_;rw[aN7 (s:=⟨dur,now,pend,l,f,dn⟩) hw];exact⟨_,rfl,rfl,m1,m2,es1,c1,es2,c2,pv,hm1,hm2,hop,hpv,rfl⟩
end Go.Proofs
end
section
namespace Go.Proofs
open Go Go.SL Go.Syn Go.Box
def dsk(K:Hl)(b:Nat)(s:DSt):Asn:=fun h=>∃L,lE K b s L∧Sat L h
theorem uS{K K':Hl}{b:Nat}{s:DSt}(le:K.le K'):∀h,dsk K b s h→dsk K' b s h:=fun h ⟨L,hd,hs⟩=>⟨L,hd.mono le,hs⟩
theorem mT{K:Hl}{b:Nat}{s:DSt}{L M:List Asn}(hd:lE K b s L):∀h,Sat (L++M) h→Sat (dsk K b s::M) h:=fun h hs=>
 let ⟨x,y,hx,hy,hj,e⟩:=eX.1 hs;⟨x,y,⟨L,hd,hx⟩,hy,hj,e⟩
theorem kT{K:Hl}{b:Nat}{s:DSt}{L:List Asn}(hd:lE K b s L):∀h,Sat L h→Sat [dsk K b s] h:=fun h hs=>mT (M:=[]) hd h (by rwa [List.append_nil])
theorem aUB{K:Hl}{b:Nat}{s:DSt}{M:List Asn}{h:Hl}:Sat (dsk K b s::M) h→∃L,lE K b s L∧Sat (L++M) h:=fun⟨x,y,⟨L,hd,hx⟩,hy,hj,e⟩=>⟨L,hd,eX.2 ⟨x,y,hx,hy,hj,e⟩⟩
theorem In.dsk{w0 w:World}{F K K0:Hl}{b:Nat}{s:DSt}{M:List Asn}(i:In w0 F K (dsk K0 b s::M) w):∃L,lE K0 b s L∧In w0 F K (L++M) w:=
 let ⟨h,hs,r⟩:=i.rep;let ⟨L,hd,hs2⟩:=aUB hs;⟨L,hd,i.os,i.tape,i.output,i.size,h,hs2,r⟩
section
variable{E:Env}{fr:Fr}{K K0:Hl}{M:List Asn}{Q:Post}{b:Nat}{s:DSt}
theorem aHN{c:Code}(h:∀L,lE K0 b s L→T E c fr K (L++M) Q):T E c fr K (dsk K0 b s::M) Q:=fun a w f i=>let ⟨L,hd,j⟩:=In.dsk i;h L hd a w f j
theorem aQ1{ops:Array Oper}{l:List Oper}(h:∀L,lE K0 b s L→OL E ops l fr K (L++M) Q):OL E ops l fr K (dsk K0 b s::M) Q:=fun a w f i=>let ⟨L,hd,j⟩:=In.dsk i;h L hd a w f j
theorem aAR{P:Program}{f:FuncId}{args:List Value}{R:Ending→Hl→List Asn→Prop}(hb:∃fn,P.funcs[f]?=some fn∧(fn.name=="runtime.NumGoroutine")=false∧fn.body.isSome=true)
  (h:∀L,lE K0 b s L→Sp P f args K (L++M) R):Sp P f args K (dsk K0 b s::M) R:=
 ⟨hb,fun F w i=>let ⟨L,hd,j⟩:=In.dsk i;(h L hd).2 F w j⟩
end
theorem aLB(b:Nat)(s:DSt)(o:OpR)(ho:OpOk o)(hp:s.pend.length≤1000000)(K K0:Hl)(le:K0.le K):Sp Tryz.prog 404 [ptr b,opV o] K [dsk K0 b s]
  (Ret fun v K' L'=>v=erV (e6 o s).1∧L'=[dsk K' b (e6 o s).2]):=by
 refine aAR ⟨_,Tryz.func404,rfl,rfl⟩ fun L hd=>?_
 rw[List.append_nil];refine aUH (aN8 b s o ho hp K L (hd.mono le)) ?_;rintro e K' L' ⟨v,rfl,rfl,hd2⟩;exact⟨_,kT hd2,_,rfl,rfl,rfl⟩
theorem aCK(b:Nat)(s:DSt)(n:aM)(hp:s.pend.length≤1000000)(K K0:Hl)(le:K0.le K):Sp Tryz.prog 401 [ptr b,str n] K [dsk K0 b s]
  (Ret fun v K' L'=>v=erV (eK n s).1∧L'=[dsk K' b (eK n s).2]):=by
 refine aZ Tryz.func401 rfl Tryz.ntmps401 rfl rfl fun F w=>?_
 refine aH (aB ?_);refine uAb ?_;refine aG (aE ?_);refine aH (aB ?_);refine uAx ?_;refine aA (cP aVM aR5 (.cons rfl rfl rfl (.cons .nil) (.cons rfl rfl rfl (.skip (.cons .nil)) .nil))) rfl ?_;refine bC rfl rfl (aLB b s ⟨3,n,[],[]⟩ (.inr rfl) hp _ _ le) (.cons .here .nil) rfl ?_;rintro _ K1 _ ⟨rfl,rfl⟩ le1;refine uAb ?_;refine aG (aE ?_);refine uDi ?_;refine bF rfl rfl bU ?_;exact⟨_,rfl,rfl,rfl⟩
theorem aP9{x y:Operand}(e:Er)(n:Int){w:World}:(eqGuard .eql 79 x y (erV e) (errV n)).run Tryz.prog w=.ok () w:=by cases e <;> rfl
theorem aQA(e:Er)(n:Int)(w:World):(binOp .eql 79 (erV e) (errV n)).run Tryz.prog w=.ok (.bool (decide (e=some n))) w:=by
 cases e with
 |none=>show (binOp .eql 79 .nilIface (.iface 30 (i64 n))).run Tryz.prog w=_;rw[decide_eq_false (by simp)];kernel_rfl
 |some m=>
  have h:(binOp .eql 79 (.iface 30 (i64 m)) (.iface 30 (i64 n))).run Tryz.prog w=.ok (.bool (decide (m=n))) w:=by kernel_rfl
  show (binOp .eql 79 (.iface 30 (i64 m)) (.iface 30 (i64 n))).run Tryz.prog w=_
  rw[h];simp
def bang(i:Nat)(xs:aM):aM:=List.replicate i 33++xs.drop i
theorem aO5{i:Nat}{xs:aM}(h:i≤xs.length):(bang i xs).length=xs.length:=by simp[bang];omega
theorem aO6{i:Nat}{xs:aM}(h:i < xs.length):(bang i xs).set i 33=bang (i+1) xs:=by
 unfold bang;rw[List.set_append_right _ _ (by simp),List.length_replicate,Nat.sub_self,List.drop_eq_getElem_cons h,List.set_cons_zero,List.replicate_succ',List.append_assoc];rfl
theorem aS0(b:Nat)(s:DSt)(n xs:aM)(v:Value)(z:Bool)(hp:s.pend.length≤900000)(hxl:xs.length≤140737488355328)(K K0:Hl)(le:K0.le K):Sp Tryz.prog 403 [ptr b,str n,v] K [dsk K0 b s,sl z (elB 5) v xs]
  (Ret fun r K' L'=>r=erV (eP n xs s).1∧L'=[dsk K' b (eP n xs s).2]):=by
 refine aZ Tryz.func403 rfl Tryz.ntmps403 rfl rfl fun F w=>?_
 have hpt:(e6 ⟨1,n,[],xs⟩ s).2.pend.length≤1000000:=by have:=uC ⟨1,n,[],xs⟩ s;omega
 refine aH (aB ?_);refine uAb ?_;refine aG (aE ?_);refine aH (aB ?_);refine uAx ?_;refine aA (lI Tryz.underlying130 Tryz.underlying5 Tryz.underlying9 rfl (.own (.there .here))) rfl ?_;refine aA (cP aVM aR5 (.cons rfl rfl rfl (.cons .nil) (.cons rfl rfl rfl (.skip (.cons .nil)) (.cons rfl rfl rfl (.skip (.skip (.skip (.cons .nil)))) .nil)))) rfl ?_;refine ol_s (cN aDB) rfl ?_;rintro _ K _ ⟨b7,rfl,rfl,rfl⟩ -;refine bP (cJ jN rfl rfl rfl aX (by first|(simp[Value.oneCell'];done)|exact fun c hc=>El.one _ _ c hc) (.cons (.cons (.cons (.cons .nil)))) (by intro j hj;simp)) ?_;rintro _ K _ ⟨rfl,rfl⟩ -;refine aG (aE ?_);refine aH (aB ?_);refine uAa ?_;refine aA (bX jN rfl aL rfl rfl) rfl ?_;refine bC rfl rfl (aLB b s ⟨1,n,[],xs⟩ (.inl rfl) aI _ _ le) (.cons (.there .here) .nil) rfl ?_;rintro _ K1 _ ⟨rfl,rfl⟩ le1;refine uAb ?_;refine aG (aE ?_);refine gS (fun(_:Unit)=>True) (fun _=>[(2,v),(8,erV (e6 ⟨1,n,[],xs⟩ s).1)]) (fun _=>K1) (fun _=>[sl z (elB 5) v xs,dsk K1 b (eP n xs s).2]) ?_ ?_
 ·
  refine aH (aB ?_);refine uAa ?_;refine aA (cL Tryz.underlying30 (fun _ h=>by cases h) rfl) rfl ?_;refine aA (wC rfl rfl (fun _=>aP9 _ _) (fun w=>aQA _ _ w)) rfl ?_;refine aG (aE ?_);refine bK 19 rfl (fun h19=>?_) (fun h19=>?_)
  ·
   refine aHN fun L2 hd2=>?_
   obtain⟨m1,m2,es1,c1,es2,c2,pv,hm1,hm2,hop,hpv,rfl⟩:=hd2
   generalize hs1:(e6 ⟨1,n,[],xs⟩ s).2=s1 at hm1 hm2 hop hpt ⊢
   refine t_draw (anc:=[0,0,2,6,14,0,32,126,255,511,1023]) (ord:=[0,1,2,3,4,5,6,7,8,9,10]) [6,7,10] [10] mixed (by decide+kernel) (.cons .here (.cons (.there (.there (.there .here))) .nil)) ?_;refine uCt ?_;refine dl_s rfl rfl (.none rfl) rfl rfl (bN (z0:=[.int .i64 0,(str []),(str []),(str [])]) m5 aDB rfl rfl rfl rfl (.cons rfl rfl rfl (.cons (.cons (.cons (.cons .nil)))) .nil)) rfl ?_;rintro _ K _ ⟨b26,rfl,rfl,rfl⟩ -;refine⟨_,(show Tks _ _ _ from (.cons (.there .here) (.cons (.there .here) .nil))).sat,?_⟩
   refine dl_s rfl rfl (.none rfl) rfl rfl (dM (k:=opEl) (ys:=[(⟨1,n,[],xs⟩:OpR)]) oE rfl rfl (.there (.there (.there (.there (.there .here))))) (fun w j=>dB Tryz.underlying108 (SeesSl.at (k:=opEl) (.blk (.own (.there (.there .here))) rfl rfl) j)) (by show (s1.pend.length+1)*56≤140737488355328;omega) (by show s1.pend.length+1≤9223372036854775807;omega)) rfl ?_;rintro v27 K _ ⟨rfl,rfl,ho27⟩ -;refine⟨_,(show Tks _ _ _ from (.cons (.there .here) (.cons (.there .here) .nil))).sat,?_⟩
   refine uEb ?_;rintro _ K _ ⟨rfl,rfl⟩ -;refine dl_nil ?_
   first|(rw[s0 h19,hs1];refine aO (.cons .here (.cons (.there (.there (.there .here))) (.cons (.there (.there (.there .here))) (.cons (.there .here) (.cons (.there (.there .here)) .nil))))) ?_;refine dN (mT (s:=s1.add ⟨1,n,[],xs⟩) (L:=[_,_,_,_]) ⟨m1,m2,es1,c1,es2,c2,v27,hm1,hm2,fun o h=>by rcases List.mem_append.1 h with h|h;exact hop o h;rw[List.mem_singleton.1 h];exact .inl rfl,ho27,rfl⟩) ?_;exact bZ () trivial (.cons 2 rfl (.cons 8 rfl .nil)) rfl (fun _ h=>eH h))|(rw[sZ h19];refine aO (.cons .here (.cons (.there .here) .nil)) ?_;exact bZ () trivial (.cons 2 rfl (.cons 8 rfl .nil)) rfl (fun _ h=>eH h))
  ·
   refine aW ?_
   first|(rw[s0 h19,hs1];refine aO (.cons .here (.cons (.there (.there (.there .here))) (.cons (.there (.there (.there .here))) (.cons (.there .here) (.cons (.there (.there .here)) .nil))))) ?_;refine dN (mT (s:=s1.add ⟨1,n,[],xs⟩) (L:=[_,_,_,_]) ⟨m1,m2,es1,c1,es2,c2,v27,hm1,hm2,fun o h=>by rcases List.mem_append.1 h with h|h;exact hop o h;rw[List.mem_singleton.1 h];exact .inl rfl,ho27,rfl⟩) ?_;exact bZ () trivial (.cons 2 rfl (.cons 8 rfl .nil)) rfl (fun _ h=>eH h))|(rw[sZ h19];refine aO (.cons .here (.cons (.there .here) .nil)) ?_;exact bZ () trivial (.cons 2 rfl (.cons 8 rfl .nil)) rfl (fun _ h=>eH h))
 ·
  intro _ _;refine aH (aH ?_);refine uAf ?_;refine uDx ?_;refine aG (aE ?_);refine bE ?_;refine eR (fun(i:Nat)=>i≤xs.length) (fun i=>[(2,v),(8,erV (e6 ⟨1,n,[],xs⟩ s).1),(31,i64 xs.length),(32,i64 i)]) (fun _=>K1) (fun i=>[sl z (elB 5) v (bang i xs),dsk K1 b (eP n xs s).2]) (fun i=>xs.length - i) 0 (Nat.zero_le _) (.cons 2 rfl (.cons 8 rfl (.cons 31 rfl (.cons 32 rfl .nil)))) rfl (fun _ h=>h) ?_;intro i hi;refine aH (aB ?_);refine uBn ?_;refine aG (aE ?_);refine aH ?_;refine bK 33 rfl (fun h33=>?_) (fun h33=>?_)
  ·
   have hbl:=aO5 (i:=i) (xs:=xs) hi;have hlt:i < (bang i xs).length:=by omega
   refine aW ?_;refine aE (aH ?_);refine bE (aH ?_);refine uFz ?_;refine aG (aE ?_);refine uCf ?_;refine aA (b0 (k:=(elB 5)) lD rfl aL rfl rfl (by first|assumption|omega)) rfl ?_;refine bP (aCN (k:=(elB 5)) (y0:=33) ts5 rfl rfl rfl rfl (by first|assumption|omega) aX) ?_;rintro _ K _ ⟨rfl,rfl⟩ -;refine aG (aN ?_);refine aE (aB ?_);refine uAo ?_;rw[aO6 (hbl▸hlt)];exact cQ (i+1) aI aI (.cons 2 rfl (.cons 8 rfl (.cons 31 rfl (.cons 32 rfl .nil)))) rfl (fun _ h=>h)
  ·
   have hie:i=xs.length:=by omega
   refine uAp ?_;refine aE (aH ?_);refine uFz ?_;refine aG (aE ?_);refine bI ?_;refine uEy ?_;refine bF rfl rfl le1 ?_;exact⟨_,rfl,by rw[aSZ],rfl⟩
theorem aT6(b:Nat)(s:DSt)(n:aM)(K K0:Hl)(le:K0.le K):Sp Tryz.prog 400 [ptr b,str n] K [dsk K0 b s]
  (Ret fun r K' L'=>∃v,r=.tuple #[v,erV (pI n s).2]∧L'=[sl false (elB 5) v (pI n s).1,dsk K' b s]):=by
 refine aAR ⟨_,Tryz.func400,rfl,rfl⟩ fun L hd=>?_
 rw[List.append_nil];obtain⟨m1,m2,es1,c1,es2,c2,pv,hm1,hm2,hop,hpv,rfl⟩:=hd;obtain⟨dur,now,pend,l,f,dn⟩:=s;simp only at hm1 hm2 hop;have hd0:lE K b ⟨dur,now,pend,l,f,dn⟩ (dskL b m1 m2 es1 c1 es2 c2 pv ⟨dur,now,pend,l,f,dn⟩):=⟨m1,m2,es1,c1,es2,c2,pv,hm1.mono le,hm2.mono le,hop,hpv,rfl⟩;refine aZ Tryz.func400 rfl Tryz.ntmps400 rfl rfl fun F w=>?_
 cases dn with
 |true=>
  refine aH (aB ?_);refine uAw ?_;refine aG (aE ?_);refine aH (aH ?_);refine uDs ?_;refine aG (aE ?_);refine uGe ?_;refine aH (aB ?_);refine aA (cL Tryz.underlying30 (fun _ h=>by cases h) rfl) rfl ?_;refine uAw ?_;refine aG (aE ?_);refine uCk ?_;refine dN (kT hd0) ?_;refine dN (dX (elB 5)) ?_;refine e7 rfl rfl rfl (Hl.le_refl _) ?_;exact⟨_,rfl,_,rfl,rfl⟩
 |false=>
  cases hg:mget es2 n with
  |none=>
   have e:pI n ⟨dur,now,pend,l,f,false⟩=([],some 14):=by simp[pI,hm2.lacks _ hg]
   rw[e];refine aH (aB ?_);refine uAw ?_;refine aG (aE ?_);refine aH (aH ?_);refine uDs ?_;refine aG (aE ?_);refine uBf ?_;refine aE (aH ?_);refine uGz ?_;refine uAa ?_;refine aA (nX Tryz.underlying107 Tryz.underlying9 aC9 rfl rfl aL hg) rfl ?_;refine uBy ?_;refine aG (aE ?_);refine aH (aH ?_);refine uFd ?_;refine aG (aE ?_);refine uGe ?_;refine aH (aB ?_);refine aA (cL Tryz.underlying30 (fun _ h=>by cases h) rfl) rfl ?_;refine uAw ?_;refine aG (aE ?_);refine uCk ?_;refine dN (kT hd0) ?_;refine dN (dX (elB 5)) ?_;refine e7 rfl rfl rfl (Hl.le_refl _) ?_;exact⟨_,rfl,_,rfl,rfl⟩
  |some u=>
   obtain⟨d,hnd,bs,T,fz,rfl,hbs⟩:=hm2.has _ _ hg;have hbs2:=le _ _ hbs;have e:pI n ⟨dur,now,pend,l,f,false⟩=(d,none):=by simp[pI,hnd]
   rw[e];refine aH (aB ?_);refine uAw ?_;refine aG (aE ?_);refine aH (aH ?_);refine uDs ?_;refine aG (aE ?_);refine uBf ?_;refine aE (aH ?_);refine uGz ?_;refine uAa ?_;refine aA (p6 Tryz.underlying107 Tryz.underlying9 aC9 rfl rfl aL hg) rfl ?_;refine uBy ?_;refine aG (aE ?_);refine aH (aH ?_);refine uFd ?_;refine aG (aE ?_);refine uBf ?_;refine aE (aH ?_);refine uBv ?_;refine aA (aJ ts9 rfl (.known hbs2) rfl) rfl ?_;refine uDk ?_;rintro v28 K _ ⟨rfl,rfl⟩ -;refine uAw ?_;refine aG (aE ?_);refine bI ?_;refine dN (fun _=>dU (kT hd0)) ?_;refine e7 rfl rfl rfl (Hl.le_refl _) ?_;exact⟨_,rfl,_,rfl,rfl⟩
theorem aK8(b:Nat)(s:DSt)(hpl:s.pend.length≤1000000)(K K0:Hl)(le:K0.le K):Sp Tryz.prog 402 [ptr b] K [dsk K0 b s]
  (Ret fun r K' L'=>r=erV (d7 s).1∧L'=[dsk K' b (d7 s).2]):=by
 refine aAR ⟨_,Tryz.func402,rfl,rfl⟩ fun L hd=>?_
 rw[List.append_nil];obtain⟨m1,m2,es1,c1,es2,c2,pv,hm1,hm2,hop,hpv,rfl⟩:=hd;obtain⟨dur,now,pend,l,f,dn⟩:=s;simp only at hm1 hm2 hop hpl;refine aZ Tryz.func402 rfl Tryz.ntmps402 rfl rfl fun F w=>?_
 rcases hw:eC l f dn with ⟨_|e,l2,f2,dn2⟩
 ·have e:d7 ⟨dur,now,pend,l,f,dn⟩=(none,⟨pend.foldl doF dur,now,[],l2,f2,dn2⟩):=by simp[d7,DSt.we,DSt.ws,hw,DSt.flush]
  rw[e];refine aH (aB ?_);refine uAb ?_;refine aG (aE ?_);refine aH (aH ?_);refine uAf ?_;refine bC rfl rfl (qM b _ _ pv l f dn _) (.cons .here .nil) rfl ?_;rintro _ K _ ⟨rfl,rfl,rfl⟩ -;rw[hw];refine uAb ?_;refine aG (aE ?_);refine aH (aB ?_);refine uAa ?_;refine uEz ?_;refine aG (aE ?_);refine uBf ?_;refine aE (aH ?_);refine aH (aB ?_);refine uBz ?_;refine uIe ?_;refine aA (cB (k:=opEl) rfl Tryz.underlying108 rfl aL) rfl ?_;refine uAa ?_;refine aG (aE ?_);refine bE ?_;refine sN (fun(i:Nat) (K2:Hl) (es:List Ent) (c:Nat)=>i≤pend.length∧K.le K2∧MapOk K2 es c ((pend.take i).foldl doF dur)) (fun i _ _ _=>[(0,ptr b),(14,pv),(15,i64 pend.length),(16,i64 i)]) (fun _ K2 _ _=>K2) (fun _ _ es c=>[pt b (dskO (.map (some m1)) (.map (some m2)) pv l2 f2 dn2),pt m1 (mapO es c),pt m2 (mapO es2 c2),sl false opEl pv pend]) (fun i _ _ _=>pend.length - i) 0 K es1 c1 ⟨Nat.zero_le _,Hl.le_refl _,hm1.mono le⟩ (.cons 0 rfl (.cons 14 rfl (.cons 15 rfl (.cons 16 rfl .nil)))) rfl (fun _ h=>h) ?_;intro i K2 es c ⟨hi,leL,hmi⟩;refine aH (aB ?_);refine uBn ?_;refine aG (aE ?_);refine aH ?_;refine bK 17 rfl (fun h17=>?_) (fun h17=>?_)
  ·
   have hlt:i < pend.length:=by omega
   obtain⟨o,hx⟩:∃o,pend[i]?=some o:=⟨pend[i]'hlt,List.getElem?_eq_getElem hlt⟩;have hoo:=hop o (List.mem_of_getElem? hx);refine aW ?_;refine aE (aH ?_);refine bE (aH ?_);refine aB ?_;refine aA (b0 (k:=opEl) m5 rfl aL rfl rfl (by first|assumption|omega)) rfl ?_;refine aA (eE (n:=0) (k:=opEl) jN rfl aL bU) rfl ?_;refine ol_s (cN aDB) rfl ?_;rintro _ K _ ⟨b5,rfl,rfl,rfl⟩ -;refine bP (cJ jN rfl rfl rfl aX (by first|(simp[Value.oneCell'];done)|exact fun c hc=>El.one _ _ c hc) (.cons (.cons (.cons (.cons .nil)))) (by intro j hj;simp)) ?_;rintro _ K _ ⟨rfl,rfl⟩ -;refine aG (aE ?_);refine t_draw (anc:=[0,1,3,7,0,31]) (ord:=[0,1,2,3,4,5]) [5] [5] mixed (by decide+kernel) (cS _) ?_;refine uBx ?_;refine uFf ?_;refine gK rfl (.none rfl) rfl rfl rfl (qY m1 es c _ o hoo _ hmi) (.cons (.there (.there .here)) .nil) rfl ?_;rintro _ K3 _ ⟨rfl,es3,c3,hm3,rfl⟩ le3;refine dl_nil ?_;refine aN (aE ?_);refine uDj ?_;refine aO (.cons (.there (.there .here)) (.cons .here (.cons (.there .here) (.cons (.there .here) .nil)))) ?_;exact o9 (i+1) _ es3 c3 ⟨hlt,Hl.le_trans leL le3,by rw[List.take_succ_eq_append_getElem hlt,List.foldl_append];rw[List.getElem?_eq_getElem hlt]at hx;cases hx;exact hm3⟩ aI (.cons 0 rfl (.cons 14 rfl (.cons 15 rfl (.cons 16 rfl .nil)))) rfl (fun _ h=>h)
  ·
   have hie:i=pend.length:=by omega
   subst hie;rw[List.take_length]at hmi;refine uAp ?_;refine aE (aH ?_);refine uBv ?_;refine aA (aD (o':=2) iR rfl rfl) rfl ?_;refine bP (bH rV rfl rfl cD aX (.succ (.succ .zero)) rfl) ?_;rintro _ K _ ⟨rfl,rfl⟩ -;refine aG (aE ?_);refine aH (aB ?_);refine uAb ?_;refine aG (aE ?_);refine bI ?_;refine uDz ?_;refine dN (dX opEl) ?_;refine aO (.cons (.there .here) (.cons (.there .here) (.cons (.there .here) (.cons .here .nil)))) ?_;refine dN (kT (s:=⟨pend.foldl doF dur,now,[],l2,f2,dn2⟩) ⟨m1,m2,es,c,es2,c2,_,hmi,(hm2.mono le).mono leL,(fun o h=>by cases h),rfl,rfl⟩) ?_;refine bF rfl rfl leL ?_;exact⟨_,rfl,rfl,rfl⟩
 ·have e:d7 ⟨dur,now,pend,l,f,dn⟩=(some e,⟨dur,now,pend,l2,f2,dn2⟩):=by simp[d7,DSt.we,DSt.ws,hw]
  rw[e];refine aH (aB ?_);refine uAb ?_;refine aG (aE ?_);refine aH (aH ?_);refine uAf ?_;refine bC rfl rfl (qM b _ _ pv l f dn _) (.cons .here .nil) rfl ?_;rintro _ K _ ⟨rfl,rfl,rfl⟩ -;rw[hw];refine uAb ?_;refine aG (aE ?_);refine aH (aB ?_);refine uAa ?_;refine uFb ?_;refine aG (aE ?_);refine uGe ?_;refine aH (aB ?_);refine uEj ?_;refine aG (aE ?_);refine uCk ?_;refine dN (kT (s:=⟨dur,now,pend,l2,f2,dn2⟩) ⟨m1,m2,es1,c1,es2,c2,pv,hm1.mono le,hm2.mono le,hop,hpv,rfl⟩) ?_;refine bF rfl rfl (Hl.le_refl _) ?_;exact⟨_,rfl,rfl,rfl⟩
end Go.Proofs
end
section
namespace Go.Proofs
open Go.Shelf
def Tryz.sl6_ren:Go.Shelf.Ren:=⟨fun|6=>83|10=>93|11=>137|12=>138|13=>139|14=>140|24=>239|25=>240|26=>241|27=>242|28=>243|29=>244|30=>245|31=>246|32=>247|33=>248|34=>298|35=>299|36=>300|37=>301|38=>302|39=>334|n=>n,fun|20=>20|26=>169|35=>188|0=>0|37=>112|3=>3|41=>257|44=>260|49=>350|51=>345|4=>4|54=>354|53=>353|58=>358|5=>5|9=>9|60=>420|64=>424|66=>454|67=>455|17=>17|32=>185|33=>186|82=>525|12=>12|75=>520|76=>193|77=>521|78=>227|79=>522|80=>523|n=>n,fun n=>n⟩
theorem Tryz.sl6 : LaysGg.n6 Tryz.prog Tryz.sl6_ren := {
 mixed:=by kernel_rfl
 f6:=Tryz.func83.trans (congrArg some bR)
 f10:=Tryz.func93.trans (congrArg some bR)
 f11:=Tryz.func137.trans (congrArg some bR)
 f12:=Tryz.func138.trans (congrArg some bR)
 f13:=Tryz.func139.trans (congrArg some bR)
 f14:=Tryz.func140.trans (congrArg some bR)
 f24:=Tryz.func239.trans (congrArg some bR)
 f25:=Tryz.func240.trans (congrArg some bR)
 f26:=Tryz.func241.trans (congrArg some bR)
 f27:=Tryz.func242.trans (congrArg some bR)
 f28:=Tryz.func243.trans (congrArg some bR)
 f29:=Tryz.func244.trans (congrArg some bR)
 f30:=Tryz.func245.trans (congrArg some bR)
 f31:=Tryz.func246.trans (congrArg some bR)
 f32:=Tryz.func247.trans (congrArg some bR)
 f33:=Tryz.func248.trans (congrArg some bR)
 f34:=Tryz.func298.trans (congrArg some bR)
 f35:=Tryz.func299.trans (congrArg some bR)
 f36:=Tryz.func300.trans (congrArg some bR)
 f37:=Tryz.func301.trans (congrArg some bR)
 f38:=Tryz.func302.trans (congrArg some bR)
 f39:=Tryz.func334.trans (congrArg some bR)
 t0:=Tryz.underlying0
 a0:=Tryz.isAgg0
 z0:=Tryz.sizeOf0
 v0:=Tryz.zeroValue0
 i0:=by kernel_rfl
 t3:=Tryz.underlying3
 a3:=Tryz.isAgg3
 z3:=Tryz.sizeOf3
 v3:=Tryz.zeroValue3
 i3:=by kernel_rfl
 t4:=Tryz.underlying4
 a4:=Tryz.isAgg4
 z4:=Tryz.sizeOf4
 v4:=Tryz.zeroValue4
 i4:=by kernel_rfl
 t5:=Tryz.underlying5
 a5:=Tryz.isAgg5
 z5:=Tryz.sizeOf5
 v5:=Tryz.zeroValue5
 i5:=by kernel_rfl
 t9:=Tryz.underlying9
 a9:=Tryz.isAgg9
 z9:=Tryz.sizeOf9
 v9:=Tryz.zeroValue9
 i9:=by kernel_rfl
 t12:=Tryz.underlying12
 a12:=Tryz.isAgg12
 z12:=Tryz.sizeOf12
 v12:=Tryz.zeroValue12
 i12:=by kernel_rfl
 t17:=Tryz.underlying17
 a17:=Tryz.isAgg17
 z17:=Tryz.sizeOf17
 v17:=Tryz.zeroValue17
 i17:=by kernel_rfl
 t20:=Tryz.underlying20
 a20:=Tryz.isAgg20
 z20:=Tryz.sizeOf20
 v20:=Tryz.zeroValue20
 i20:=by kernel_rfl
 t26:=Tryz.underlying169
 a26:=Tryz.isAgg169
 z26:=Tryz.sizeOf169
 v26:=Tryz.zeroValue169
 i26:=by kernel_rfl
 t32:=Tryz.underlying185
 a32:=Tryz.isAgg185
 z32:=Tryz.sizeOf185
 v32:=Tryz.zeroValue185
 i32:=by kernel_rfl
 t33:=Tryz.underlying186
 a33:=Tryz.isAgg186
 z33:=Tryz.sizeOf186
 v33:=Tryz.zeroValue186
 i33:=by kernel_rfl
 t35:=Tryz.underlying188
 a35:=Tryz.isAgg188
 z35:=Tryz.sizeOf188
 v35:=Tryz.zeroValue188
 i35:=by kernel_rfl
 t37:=Tryz.underlying112
 a37:=Tryz.isAgg112
 z37:=Tryz.sizeOf112
 v37:=Tryz.zeroValue112
 i37:=by kernel_rfl
 t41:=Tryz.underlying257
 a41:=Tryz.isAgg257
 z41:=Tryz.sizeOf257
 v41:=Tryz.zeroValue257
 i41:=by kernel_rfl
 t44:=Tryz.underlying260
 a44:=Tryz.isAgg260
 z44:=Tryz.sizeOf260
 v44:=Tryz.zeroValue260
 i44:=by kernel_rfl
 t49:=Tryz.underlying350
 a49:=Tryz.isAgg350
 z49:=Tryz.sizeOf350
 v49:=Tryz.zeroValue350
 i49:=by kernel_rfl
 t51:=Tryz.underlying345
 a51:=Tryz.isAgg345
 z51:=Tryz.sizeOf345
 v51:=Tryz.zeroValue345
 i51:=by kernel_rfl
 t53:=Tryz.underlying353
 a53:=Tryz.isAgg353
 z53:=Tryz.sizeOf353
 v53:=Tryz.zeroValue353
 i53:=by kernel_rfl
 t54:=Tryz.underlying354
 a54:=Tryz.isAgg354
 z54:=Tryz.sizeOf354
 v54:=Tryz.zeroValue354
 i54:=by kernel_rfl
 t58:=Tryz.underlying358
 a58:=Tryz.isAgg358
 z58:=Tryz.sizeOf358
 v58:=Tryz.zeroValue358
 i58:=by kernel_rfl
 t60:=Tryz.underlying420
 a60:=Tryz.isAgg420
 z60:=Tryz.sizeOf420
 v60:=Tryz.zeroValue420
 i60:=by kernel_rfl
 t64:=Tryz.underlying424
 a64:=Tryz.isAgg424
 z64:=Tryz.sizeOf424
 v64:=Tryz.zeroValue424
 i64:=by kernel_rfl
 t66:=Tryz.underlying454
 a66:=Tryz.isAgg454
 z66:=Tryz.sizeOf454
 v66:=Tryz.zeroValue454
 i66:=by kernel_rfl
 t67:=Tryz.underlying455
 a67:=Tryz.isAgg455
 z67:=Tryz.sizeOf455
 v67:=Tryz.zeroValue455
 i67:=by kernel_rfl
 t75:=Tryz.underlying520
 a75:=Tryz.isAgg520
 z75:=Tryz.sizeOf520
 v75:=Tryz.zeroValue520
 i75:=by kernel_rfl
 t76:=Tryz.underlying193
 a76:=Tryz.isAgg193
 z76:=Tryz.sizeOf193
 v76:=Tryz.zeroValue193
 i76:=by kernel_rfl
 t77:=Tryz.underlying521
 a77:=Tryz.isAgg521
 z77:=Tryz.sizeOf521
 v77:=Tryz.zeroValue521
 i77:=by kernel_rfl
 t78:=Tryz.underlying227
 a78:=Tryz.isAgg227
 z78:=Tryz.sizeOf227
 v78:=Tryz.zeroValue227
 i78:=by kernel_rfl
 t79:=Tryz.underlying522
 a79:=Tryz.isAgg522
 z79:=Tryz.sizeOf522
 v79:=Tryz.zeroValue522
 i79:=by kernel_rfl
 t80:=Tryz.underlying523
 a80:=Tryz.isAgg523
 z80:=Tryz.sizeOf523
 v80:=Tryz.zeroValue523
 i80:=by kernel_rfl
 t82:=Tryz.underlying525
 a82:=Tryz.isAgg525
 z82:=Tryz.sizeOf525
 v82:=Tryz.zeroValue525
 i82:=by kernel_rfl}
end Go.Proofs
end
section
namespace Go.Proofs
open Go.Shelf Go.RowKit Go.Lib Go.Sort
abbrev iZ:=List UInt8×List UInt8
def encF(f:iZ):List Value:=[SL.str f.1,SL.str f.2]
def ltF(a b:iZ):Bool:=ltStr a.1 b.1
theorem aUK:SWO ltF where
 irrefl x:=swo_ltStr.irrefl x.1
 trans x y z:=swo_ltStr.trans x.1 y.1 z.1
 ntrans x y z:=swo_ltStr.ntrans x.1 y.1 z.1
noncomputable def Tryz.svT:TypeInfo:=(Tryz.prog.info? 62).get bR
noncomputable def Tryz.svE:TypeInfo:=(Tryz.prog.info? 66).get bR
theorem Tryz.svK(n:Nat)(h2:2≤n):Lib.swapperK n Tryz.svE 25=9:=by
 have a:Tryz.svE.hasPointers=true:=by kernel_rfl
 have b:Tryz.svE.bytes=32:=by kernel_rfl
 have c:(n==0)=false:=by simp;omega
 have d:(n==1)=false:=by simp;omega
 simp[Lib.swapperK,a,b,c,d]
set_option maxHeartbeats 2000000 in
theorem Tryz.less(blk off c Bs size:Nat)(W:World)(G:Nat→List UInt8)(hs:W.cell? ⟨Bs,0,none⟩=some (.slice (some ⟨blk,off,none⟩) size c))
  (hc:∀t,t < size→W.cell? ⟨blk,off+t*2,none⟩=some (SL.str (G t))) (i j:Nat) (hi:i < size) (hj:j < size) (_hsz:size < 4611686018427387904):
  Calls Tryz.prog 84 #[.int .i64 i,.int .i64 j,.pointer (some ⟨Bs,0,none⟩)] W fun e w'=>e=.returned (.bool (ltStr (G i) (G j)))∧∃q,w'=W.drewN q:=by
 have ci:=hc i hi;have cj:=hc j hj
 go_enter Tryz.func84,Tryz.ntmps84
 go_wp2
 go_quiet (fail)
 go_wp2
 go_ret
 refine⟨?_,nq,rfl⟩
 rw[bytesLess_eq]
 rfl
theorem Tryz.sortMany(blk off c Bs:Nat)(d:Array iZ)(h2:2≤d.size)(hsz:d.size < 4611686018427387904)(w:World)(hH:HoldsK encF 2 w blk off d)(hblk:blk < w.heap.size)
  (hBs:w.cell? ⟨Bs,0,none⟩=some (.slice (some ⟨blk,off,none⟩) d.size c)) (hB1:Bs < w.heap.size) (hB2:Bs≠blk):
  Calls Tryz.prog 83 #[.iface 62 (.slice (some ⟨blk,off,none⟩) d.size c),.func (.func 84) #[] #[.pointer (some ⟨Bs,0,none⟩)]] w fun e w'=>
   e=.returned (.tuple #[])∧∃d' n os,PermIn 0 d.size d d'∧SortedIn ltF 0 d.size d'∧w'=grow (putRowK encF 2 (Sort.ahead w n) blk off d') os:=by
 have hless:LessReadsK Tryz.prog 84 #[.pointer (some ⟨Bs,0,none⟩)] encF 2 ltF blk off d.size w:=by
  intro m os dk hs i j hi hj;have e:sortWorldK encF 2 w blk off m dk os=putRowK encF 2 (grow (Sort.ahead w m) os) blk off dk:=by
   unfold sortWorldK;rw[putRowK_grow _ _ (Sort.ahead w m) _ blk off _ hblk]
  have hHg:HoldsK encF 2 (grow (Sort.ahead w m) os) blk off d:=holdsK_grow _ _ _ _ blk off d hblk (holdsK_ahead _ _ _ _ _ _ _ hH);refine Tryz.less blk off c Bs d.size _ (fun t=>dk[t]!.1) ?_ (fun t ht=>?_) i j hi hj aI
  ·rw[e,cell?_putRowK_other _ _ _ blk off dk _ (by exact hB2),cell?_grow _ _ _ (by exact hB1)];exact hBs
  ·rw[e];exact((holdsK_putRowK _ _ _ blk off d dk hHg hs).cell (i:=t) (c:=0) aI aI).1
 exact Any.sort_Slice_cells_sorted Tryz.sl6 62 66 Tryz.svT Tryz.svE bR bR bR bR 25 (fun _=>by kernel_rfl) encF 2 (fun _=>rfl) bR (fun _=>by kernel_rfl)
  (fun x v hv=>by simp[encF]at hv;rcases hv with rfl|rfl <;> rfl) ltF aUK 84 _
  (enters_of Tryz.func84 bR rfl) blk off c d h2 hsz 238 (by rw[Tryz.svK _ h2];kernel_rfl) false
  (fun args W=>run_callFunc_extern Tryz.func238 bR bR bR (e:=Extern.ReflectliteSwapper.swap false) bR args W) w hless hH hblk
theorem Tryz.sortTiny(p:Option Addr)(n c:Nat)(h1:n≤1)(lf:Fn)(la lb:Array Value)(w:World):
  Calls Tryz.prog 83 #[.iface 62 (.slice p n c),.func lf la lb] w fun e w'=>e=.returned (.tuple #[])∧∃os,w'=grow w os:=by
 rcases(show n=0∨n=1 by omega)with rfl|rfl
 ·exact Any.sort_Slice_tiny Tryz.sl6 62 66 Tryz.svT Tryz.svE bR bR bR bR 25 (fun _=>by kernel_rfl) p 0 c h1 230 bR lf la lb w
 ·exact Any.sort_Slice_tiny Tryz.sl6 62 66 Tryz.svT Tryz.svE bR bR bR bR 25 (fun _=>by kernel_rfl) p 1 c h1 231 bR lf la lb w
end Go.Proofs
end
section
namespace Go.Proofs
open Go Go.SL Go.Sort
def dG:El iZ:={e:=66,sz:=2,enc:=encF,len:=fun _=>rfl,one:=fun _ u h=>by simp[encF]at h;rcases h with rfl|rfl <;> rfl}
theorem In.grow{w0:World}{F K:Hl}{L:List Asn}:∀(os:List Obj) {w:World},In w0 F K L w→In w0 F K L (Sort.grow w os.toArray)
 | [],w,i=>by simpa using i
 |o::os,w,i=>by
  have e:Sort.grow w (o::os).toArray=Sort.grow (w.alloc o) os.toArray:=by rw[alloc_eq_grow,grow_grow];congr 1;simp
  rw[e];exact In.grow os (i.alloc o).drop
theorem aPI:∀(xs:List iZ) (t:Nat),(dG.cs xs)[t]?=(xs[t / 2]?).bind fun f=>(encF f)[t % 2]?
 | [],t=>by simp[El.cs]
 |x::r,0=>rfl
 |x::r,1=>rfl
 |x::r,t+2=>by
  have:=aPI r t;have e1:(t+2) / 2=t / 2+1:=by omega
  have e2:(t+2) % 2=t % 2:=by omega
  rw[e1,e2,List.getElem?_cons_succ,←this]
  rfl
theorem aF9(d:Array iZ)(t:Nat)(h:t < d.size*2):(dG.cs d.toList)[t]?=some ((flatK encF 2 d)[t]!):=by
 have h2:t / 2 < d.size:=by omega
 rw[aPI,get_flatK _ _ _ _ h];have e:d.toList[t / 2]?=some d[t / 2]!:=by rw[Array.getElem?_toList,Array.getElem?_eq_getElem h2,getElem!_pos d _ h2]
 rw[e];simp only[Option.bind_some];rcases Nat.mod_two_eq_zero_or_one t with e|e <;> rw[e] <;> rfl
theorem aQJ{w:World}{xs:List iZ}{b:Nat}{junk:List Value}{cap:Nat}{fz:Nat×Nat}(hb:w.heap[b]?=some (aU (dG.cs xs++junk) 66 fz))(hf:FzOk (cap*2) fz)(hc:xs.length≤cap):HoldsK encF 2 w b 0 xs.toArray:=by
 intro j hj;have hj':j < xs.length*2:=by simpa using hj
 have hl:(dG.cs xs).length=xs.length*2:=dG.cs_length xs;refine⟨?_,?_⟩
 ·rw[Nat.zero_add];refine mM hb ?_;rw[List.getElem?_append_left aI];exact aF9 xs.toArray j (by simpa using hj')
 ·have:=hf.at (o:=0+j) aI;obtain⟨lo,hi⟩:=fz;simp only[World.frozen?,hb];exact this
theorem aNF(xs:List iZ)(d':Array iZ)(junk:List Value)(hs:d'.size=xs.length):putCells id 0 (flatK encF 2 d') (dG.cs xs++junk).toArray=(dG.cs d'.toList++junk).toArray:=by
 have hl:(dG.cs xs).length=xs.length*2:=dG.cs_length xs;have hl':(dG.cs d'.toList).length=xs.length*2:=by rw[dG.cs_length];simp[hs];rfl
 apply Array.ext_getElem?
 intro k;simp only[putCells,Array.getElem?_mapIdx,size_flatK,List.getElem?_toArray]
 by_cases hk:k < xs.length*2
 ·rw[List.getElem?_append_left aI,List.getElem?_append_left aI,List.getElem?_eq_getElem aI,aF9 d' k aI];simp only[Option.map_some];rw[if_pos ⟨by omega,by omega⟩];rfl
 ·rw[List.getElem?_append_right aI,List.getElem?_append_right aI,hl,hl'];cases junk[k - xs.length*2]? with
  |none=>rfl
  |some y=>simp only[Option.map_some];rw[if_neg aI]
theorem In.putRow{w0 w:World}{F K:Hl}{L:List Asn}{b:Nat}{xs:List iZ}{d':Array iZ}{junk:List Value}{fz:Nat×Nat}{t:TypeId}(hs:d'.size=xs.length)(i:In w0 F K (pt b (aU (dG.cs xs++junk) t fz)::L) w):
  In w0 F K (pt b (aU (dG.cs d'.toList++junk) t fz)::L) (putRowK encF 2 w b 0 d'):=by
 have hb:=i.piece;refine In.write (H:=(putRowK encF 2 w b 0 d').heap) i (by rw[←size_putRowK encF 2 w b 0 d']) ?_ ?_
 ·simp only[putRowK,Sort.putRow,mapBlock,Array.getElem?_modify,if_true,hb,Option.map_some,onCells];rw[aNF xs d' junk hs]
 ·intro x hx;simp only[putRowK,Sort.putRow,mapBlock,Array.getElem?_modify];rw[if_neg (Ne.symm hx)]
abbrev sB(ys:List iZ):Prop:=ys.Pairwise fun a b=>¬b.1 < a.1
theorem aI7{d:Array iZ}(h:SortedIn ltF 0 d.size d):sB d.toList:=by
 rw[sB,List.pairwise_iff_getElem];intro i j hi hj hij;have:=h i j (Nat.zero_le _) hij (by simpa using hj);simp only[ltF,ltStr,decide_eq_false_iff_not]at this
 simpa[getElem!_pos d i (by simpa using hi),getElem!_pos d j (by simpa using hj)]using this
theorem aUG(Bs:Nat)(z:Bool)(v:Value)(xs:List iZ)(hn:xs.length < 4611686018427387904)(K:Hl):Sp Tryz.prog 83 [.iface 62 v,.func (.func 84) #[] #[ptr Bs]] K [pt Bs (aU [v] 62),sl z dG v xs]
  (Ret fun u K' L'=>u=.tuple #[]∧K'=K∧∃ys,ys.Perm xs∧sB ys∧L'=[pt Bs (aU [v] 62),sl z dG v ys]):=by
 refine⟨⟨_,Tryz.func83,rfl,rfl⟩,fun F w i=>?_⟩
 have iB:w.heap[Bs]?=some (aU [v] 62):=i.piece;have small:∀p c,v=.slice p xs.length c→xs.length≤1→Calls Tryz.prog 83 [.iface 62 v,.func (.func 84) #[] #[ptr Bs]].toArray w fun e w'=>∃K' L',(Ret fun u K' L'=>u=.tuple #[]∧K'=K∧∃ys,ys.Perm xs∧sB ys∧L'=[pt Bs (aU [v] 62),sl z dG v ys]) e K' L'∧K.le K'∧In w F K' L' w':=by
  intro p c hv h1;have hord:sB xs:=by
   match xs,h1 with
   | [],_=>exact List.Pairwise.nil
   | [x],_=>exact List.pairwise_singleton _ _
  rw[hv];refine(Tryz.sortTiny p xs.length c h1 (.func 84) #[] #[ptr Bs] w).mono ?_;rintro e w' ⟨rfl,os,rfl⟩;rw[←hv];exact⟨K,_,⟨_,rfl,rfl,rfl,xs,.refl _,hord,rfl⟩,Hl.le_refl _,by simpa using In.grow os.toList i⟩
 have i2:=i.imp (fun h=>eH);obtain⟨h,⟨a,l,ha,hl,hal,rfl⟩,d1,d2,d3,l1,l2,l3⟩:=id i2.rep;rcases ha with ⟨hv,hx,-⟩|⟨b,cap,junk,fz,hv,hz,hc,hj,hf,he⟩
 ·exact small none 0 (by rw[hv,hx];rfl) (by rw[hx];exact Nat.zero_le _)
 ·rcases Nat.lt_or_ge 1 xs.length with h1|h1
  ·have i3:In w F K [pt b (aU (dG.cs xs++junk) 66 fz),pt Bs (aU [v] 62)] w:=⟨i2.os,i2.tape,i2.output,i2.size,a.join l,⟨a,l,he,hl,hal,rfl⟩,d1,d2,d3,l1,l2,l3⟩;have hbb:=i3.piece;have hlt:∀ {x o},w.heap[x]?=some o→x < w.heap.size:=fun {x o} e=>by
    rcases Nat.lt_or_ge x w.heap.size with h|h
    ·exact h
    ·simp[Array.getElem?_eq_none h]at e
   have hne:Bs≠b:=by
    rintro rfl;obtain⟨_,⟨a1,m1,ha1,⟨a2,m2,ha2,_,_,rfl⟩,hd,rfl⟩,_⟩:=i3.rep;simp only[pt]at ha1 ha2;subst ha1;subst ha2
    have:=(Hl.dj_join.1 hd).1 Bs;simp[Hl.one]at this
   rw[hv];refine(Tryz.sortMany b 0 cap Bs xs.toArray (by simpa using Nat.succ_le_of_lt h1) (by simpa using hn) w (aQJ hbb hf hc) (hlt hbb) (by have:=mM iB (o:=0) (v:=v) rfl;rw[this,hv];simp) (hlt iB) hne).mono ?_;rintro e w' ⟨rfl,d',n,os,hP,hS,rfl⟩;have hsz:d'.size=xs.length:=by simpa using hP.1
   have hperm:d'.toList.Perm xs:=by
    have:=hP.2.2;have e1:d'.extract 0 xs.toArray.size=d':=by rw[←hP.1];simp
    rw[e1]at this
    simpa using this
   rw[←hv];have i4:In w F K [pt b (aU (dG.cs d'.toList++junk) 66 fz),pt Bs (aU [v] 62)] (putRowK encF 2 (Sort.ahead w n) b 0 d'):=In.putRow hsz (i3.drew _);have i5:=In.grow os.toList i4;refine⟨K,_,⟨_,rfl,rfl,rfl,d'.toList,hperm,aI7 (by rw[hP.1];exact hS),rfl⟩,Hl.le_refl _,?_⟩
   refine In.imp (fun h hh=>eH (fA (fun h' hh'=>?_) h hh)) (by simpa using i5)
   exact .inr ⟨b,cap,junk,fz,by rw[hv];simp[hsz],fun hz' e0=>by have:=congrArg List.length e0;rw[Array.length_toList,hsz]at this;simp at this;rw[this]at h1;simp at h1,by simpa[hsz]using hc,by simpa[hsz]using hj,hf,hh'⟩
  ·exact small _ cap hv h1
end Go.Proofs
end
section
namespace Go.Proofs
open Go Go.SL Go.Syn Go.Box
theorem xor8{h:Nat}{c:UInt8}(hh:h < 18446744073709551616):IntKind.u64.wrap (BitVec.ofInt 64 (h:Int)^^^BitVec.ofInt 64 (c.toNat:Int)).toNat=((h^^^c.toNat:Nat):Int):=by
 have hc:=c.toNat_lt;have e:(BitVec.ofInt 64 (h:Int)^^^BitVec.ofInt 64 (c.toNat:Int)).toNat=h^^^c.toNat:=by
  rw[BitVec.toNat_xor,BitVec.ofInt_natCast,BitVec.ofInt_natCast,BitVec.toNat_ofNat,BitVec.toNat_ofNat,Nat.mod_eq_of_lt aI,Nat.mod_eq_of_lt aI]
 rw[e];have:h^^^c.toNat < 2 ^ 64:=Nat.xor_lt_two_pow aI aI;unfold IntKind.wrap IntKind.bits IntKind.signed;simp only[Bool.false_and];simp;omega
theorem aYE{m:Nat}:IntKind.u64.wrap ((m:Int)*1099511628211)=((m*1099511628211 % 18446744073709551616:Nat):Int):=by
 unfold IntKind.wrap IntKind.bits IntKind.signed;simp only[Bool.false_and];simp
theorem aT2{h:Nat}{c:UInt8}:IntKind.u64.wrap (((h^^^c.toNat:Nat):Int)*1099511628211)=((nK h c:Nat):Int):=by unfold nK;exact aYE
theorem aUJ{h:Nat}{c:UInt8}:nK h c < 18446744073709551616:=by unfold nK;exact Nat.mod_lt _ aI
theorem wQ(s:aM)(hs:s.length≤140737488355328)(K:Hl):Sp Tryz.prog 226 [str s] K [] (Val (.int .u64 (sumC s)) K):=by
 refine aZ Tryz.func226 rfl Tryz.ntmps226 rfl rfl fun F w=>?_
 refine aH (aB ?_);refine uAb ?_;refine aG (aE ?_);refine aH (aB ?_);refine uAb ?_;refine aG (aE ?_);refine aH (aH ?_);refine uAf ?_;refine uDk ?_;rintro v7 K _ ⟨rfl,rfl⟩ -;refine uDx ?_;refine aG (aE ?_);refine bE ?_;refine qE (fun(i h:Nat)=>i≤s.length∧h < 18446744073709551616∧h=(s.take i).foldl nK 14695981039346656037) (fun i h=>[(3,.int .u64 h),(7,v7),(8,i64 s.length),(9,i64 i)]) (fun _ _=>K) (fun _ _=>[sl false (elB 5) v7 s]) (fun i _=>s.length - i) 0 14695981039346656037 ⟨Nat.zero_le _,by omega,by rw[List.take_zero];exact List.foldl_nil.symm⟩ (.cons 3 rfl (.cons 7 rfl (.cons 8 rfl (.cons 9 rfl .nil)))) rfl (fun _ h=>h) ?_;intro i h ⟨hi,hst,hh⟩;refine aH (aB ?_);refine uBn ?_;refine aG (aE ?_);refine aH ?_;refine bK 10 rfl (fun h10=>?_) (fun h10=>?_)
 ·
  have hlt:i < s.length:=by omega
  obtain⟨c,hx⟩:∃c,s[i]?=some c:=⟨s[i]'hlt,List.getElem?_eq_getElem hlt⟩;refine aW ?_;refine aE (aH ?_);refine bE (aH ?_);refine aB ?_;refine aA (b0 (k:=(elB 5)) lD rfl aL rfl rfl (by first|assumption|omega)) rfl ?_;refine uFx ?_;refine uAb ?_;refine aG (aE ?_);refine uCf ?_;refine aA (j9 (v:=.int .u64 (c.toNat:Int)) (jQ Tryz.underlying345 Tryz.underlying5 rfl) (by have:=c.toNat_lt;unfold IntKind.wrap IntKind.bits IntKind.signed;simp only[Bool.false_and];simp;omega)) rfl ?_;refine aA (j9 (v:=.int .u64 ((h^^^c.toNat:Nat):Int)) (aTM rfl rfl) (congrArg (Value.int .u64) (xor8 hst))) rfl ?_;refine aA (j9 (v:=.int .u64 ((nK h c:Nat):Int)) (aDZ rfl rfl) (congrArg (Value.int .u64) aT2)) rfl ?_;refine uAb ?_;refine aG (aN ?_);refine aE (aB ?_);refine uAo ?_;refine dI (i+1) (nK h c) ⟨by omega,aUJ,?_⟩ aI (.cons 3 rfl (.cons 7 rfl (.cons 8 rfl (.cons 9 rfl .nil)))) rfl (fun _ h=>h)
  rw[List.take_succ_eq_append_getElem hlt,List.foldl_append,←hh];rw[List.getElem?_eq_getElem hlt]at hx;cases hx;rw[List.foldl_cons,List.foldl_nil]
 ·
  have hie:i=s.length:=by omega
  subst hie;rw[List.take_length,←aK7]at hh;subst hh;refine uAp ?_;refine aE (aH ?_);refine uFz ?_;refine aG (aE ?_);refine uCx ?_;refine bF rfl rfl (Hl.le_refl _) ?_;exact⟨rfl,rfl,rfl⟩
theorem aNA(v:Value)(xs:List File)(K:Hl)(hv:Ksl dG K v xs)(hg:Glob K)(hd:Deb K)(hb:(bodyC xs).length≤1000000000)(hn:xs.length≤100):Sp Tryz.prog 132 [v] K [] (Val (str (eV xs)) K):=by
 refine aZ Tryz.func132 rfl Tryz.ntmps132 rfl rfl fun F w=>?_
 refine aH (aB ?_);refine uAb ?_;refine aG (aE ?_);refine aH (aB ?_);refine ol_s (cN aSR) rfl ?_;rintro _ K _ ⟨b3,rfl,rfl,rfl⟩ -;refine aG (aE ?_);refine aH (aH ?_);refine uAf ?_;refine aA (cB (k:=dG) rfl Tryz.underlying62 rfl (.known hv)) rfl ?_;refine uAa ?_;refine aG (aE ?_);refine bE ?_;refine kJ (fA (vT b3)) ?_;refine eR (fun(i:Nat)=>i≤xs.length) (fun i=>[(3,ptr b3),(7,v),(8,i64 xs.length),(9,i64 i)]) (fun _=>K) (fun i=>[bldr b3 (bodyC (xs.take i))]) (fun i=>xs.length - i) 0 (Nat.zero_le _) (.cons 3 rfl (.cons 7 rfl (.cons 8 rfl (.cons 9 rfl .nil)))) rfl (fun _ h=>h) ?_;intro i hi;refine aH (aB ?_);refine uBn ?_;refine aG (aE ?_);refine aH ?_;refine bK 10 rfl (fun h10=>?_) (fun h10=>?_)
 ·
  have hlt:i < xs.length:=by omega
  obtain⟨o,hx⟩:∃o,xs[i]?=some o:=⟨xs[i]'hlt,List.getElem?_eq_getElem hlt⟩;have hel:=uT (List.mem_of_getElem? hx);have hbt:=uL xs i;have hbt2:=uL xs (i+1);rw[aBT hx,List.length_append]at hbt2;have hel2:(entryC o).length=o.1.length+1+(Lib.itoa o.2.length).length+1+o.2.length:=by simp[entryC];omega
  refine aW ?_;refine aE (aH ?_);refine bE (aH ?_);refine aB ?_;refine aA (b0 (k:=dG) nU rfl (.known hv) rfl rfl (by first|assumption|omega)) rfl ?_;refine aA (eE (n:=0) (k:=dG) qF rfl (.known hv) bU) rfl ?_;refine ol_s (cN tz66) rfl ?_;rintro _ K _ ⟨b5,rfl,rfl,rfl⟩ -;refine bP (cJ qF rfl rfl rfl aX (by first|(simp[Value.oneCell'];done)|exact fun c hc=>El.one _ _ c hc) (.cons (.cons .nil)) (by intro j hj;simp)) ?_;rintro _ K _ ⟨rfl,rfl⟩ -;refine aG (aE ?_);refine t_draw (anc:=[0,1,3,0,8,24,56,127,255,0,512,2047,4095]) (ord:=[0,1,2,3,4,5,9,10,6,7,8,11,12]) [6,12] [12] mixed (by decide+kernel) (.cons .here .nil) ?_;refine dl_ev rfl rfl (.none rfl) rfl rfl (aD (o':=0) rS rfl rfl) rfl ?_;refine uBa ?_;refine dl_ev rfl rfl (.none rfl) rfl rfl (fL rfl rfl (by first|(simp;omega)|omega)) rfl ?_;refine dl_ev rfl rfl (.none rfl) rfl rfl (aD (o':=1) pN rfl rfl) rfl ?_;refine uBa ?_;refine uDp ?_;refine dl_ev rfl rfl (.none rfl) rfl rfl (aD (o':=1) pN rfl rfl) rfl ?_;refine uBa ?_;refine dl_callv rfl (.none rfl) rfl rfl rfl rfl (nO _ aI aI _ hg) rfl ?_;refine dl_ev rfl rfl (.none rfl) rfl rfl (fL rfl rfl (by first|(simp;omega)|omega)) rfl ?_;refine dl_ev rfl rfl (.none rfl) rfl rfl (fL rfl rfl (by first|(simp;omega)|omega)) rfl ?_;refine dl_ev rfl rfl (.none rfl) rfl rfl (fL rfl rfl (by first|(simp;omega)|omega)) rfl ?_;refine gK rfl (.none rfl) rfl rfl rfl (mI b3 (entryC o) _ aI _) (.cons (.there .here) .nil) rfl ?_;rintro _ K _ ⟨rfl,rfl,rfl⟩ -;refine dl_nil ?_;refine aN (aE ?_);refine uDj ?_;refine uAg ?_;refine cQ (i+1) aI aI (.cons 3 rfl (.cons 7 rfl (.cons 8 rfl (.cons 9 rfl .nil)))) rfl (fun _ h=>by rw[aBT hx];exact h)
 ·
  have hie:i=xs.length:=by omega
  subst hie;rw[List.take_length];have hil:=Lib.itoa_length_le ((bodyC xs).length:Int) aI aI;have hxl:=u9 (uA (bodyC xs));refine uAp ?_;refine aE (aH ?_);refine aB ?_;refine bC rfl rfl (nE b3 _ aI _) (.cons .here .nil) rfl ?_;rintro _ K _ ⟨rfl,rfl,rfl⟩ -;refine uAb ?_;refine aG (aE ?_);refine aH (aB ?_);refine uAa ?_;refine uBs ?_;refine cA rfl rfl (nO _ aI aI _ hg) rfl ?_;refine aA (fL rfl rfl (by simp only[List.length_singleton];omega)) rfl ?_;refine uAa ?_;refine cA rfl rfl (wQ _ aI _) rfl ?_;refine cA rfl rfl (aD8 _ (uA _) _ hd) rfl ?_;refine aA (fL rfl rfl (by simp only[List.length_append,List.length_singleton];omega)) rfl ?_;refine aA (fL rfl rfl (by simp only[List.length_append,List.length_singleton];omega)) rfl ?_;refine uAa ?_;refine aA (fL rfl rfl (by simp only[List.length_append,List.length_singleton];omega)) rfl ?_;refine uAb ?_;refine aG (aE ?_);refine uCx ?_;refine bF rfl rfl (Hl.le_refl _) ?_;exact⟨rfl,rfl,rfl⟩
end Go.Proofs
end
section
namespace Go.Proofs
open Go Go.SL Go.Syn Go.Box
abbrev dV(b:Nat):Value:=.iface 103 (ptr b)
theorem aWY(b:Nat)(w:World):(Go.method (Tryz.prog.types.size+Made.depth) 103 (ptr b) "Write").run Tryz.prog w=.ok (403,ptr b) w:=by kernel_rfl
theorem aKW(b:Nat)(w:World):(Go.method (Tryz.prog.types.size+Made.depth) 103 (ptr b) "Remove").run Tryz.prog w=.ok (401,ptr b) w:=by kernel_rfl
theorem aVH(b:Nat)(w:World):(Go.method (Tryz.prog.types.size+Made.depth) 103 (ptr b) "Sync").run Tryz.prog w=.ok (402,ptr b) w:=by kernel_rfl
theorem aYB(b:Nat)(w:World):(Go.method (Tryz.prog.types.size+Made.depth) 103 (ptr b) "Read").run Tryz.prog w=.ok (400,ptr b) w:=by kernel_rfl
def Clo(N:Nat)(K:Hl)(b:Nat)(fv:Value)(g:DSt→Er×DSt):Prop:=∃f vs,xW Tryz.prog fv f vs∧∀(K1 K0:Hl) (s:DSt),K.le K1→K0.le K1→s.pend.length≤N→
 Sp Tryz.prog f vs K1 [dsk K0 b s] (Ret fun v K' L'=>v=erV (g s).1∧L'=[dsk K' b (g s).2])∧(g s).2.pend.length≤s.pend.length+200
theorem Clo.weak{N N':Nat}{K:Hl}{b:Nat}{fv:Value}{g:DSt→Er×DSt}(h:Clo N K b fv g)(hN:N'≤N):Clo N' K b fv g:=let ⟨f,vs,h1,h2⟩:=h;⟨f,vs,h1,fun K1 K0 s le1 le0 hp=>h2 K1 K0 s le1 le0 aI⟩
theorem Clo.mono{N:Nat}{K K':Hl}{b:Nat}{fv:Value}{g:DSt→Er×DSt}(h:Clo N K b fv g)(le:K.le K'):Clo N K' b fv g:=let ⟨f,vs,h1,h2⟩:=h;⟨f,vs,h1,fun K1 K0 s le1 le0 hp=>h2 K1 K0 s (Hl.le_trans le le1) le0 hp⟩
theorem uO(K:Hl)(b:Nat):Clo 800000 K b (.func (.method "Sync") #[dV b] #[]) d7:=
 ⟨_,_,aFY (aVH b) ⟨_,Tryz.func402,rfl,rfl⟩,fun K1 K0 s _ le0 hp=>⟨aK8 b s aI K1 K0 le0,by have:=oD s;omega⟩⟩
theorem aO0(b bd bf:Nat)(n d:aM)(s:DSt)(K K0:Hl)(le:K0.le K)(T1 T2:TypeId)(z1 z2:Nat×Nat)(h1:K bd=some (aU [dV b] T1 z1))(h2:K bf=some (aU [str n,str d] T2 z2))(hd:d.length≤140737488355328)(hp:s.pend.length≤900000):
  Sp Tryz.prog 224 [ptr bd,ptr bf] K [dsk K0 b s] (Ret fun v K' L'=>v=erV (eP n d s).1∧L'=[dsk K' b (eP n d s).2]):=by
 refine aZ Tryz.func224 rfl Tryz.ntmps224 rfl rfl fun F w=>?_
 refine aH (aB ?_);refine uAb ?_;refine aG (aE ?_);refine aH (aB ?_);refine uGh ?_;refine aA (aD (o':=0) rS rfl rfl) rfl ?_;refine uBl ?_;refine aA (aD (o':=1) pN rfl rfl) rfl ?_;refine uBl ?_;refine uDk ?_;rintro v8 K _ ⟨rfl,rfl⟩ -;refine l9 rfl rfl (aWY b) (aS0 b s n d v8 false hp hd _ _ le) (.cons (.there .here) (.cons .here .nil)) rfl ?_;rintro _ K1 _ ⟨rfl,rfl⟩ le1;refine uAb ?_;refine aG (aE ?_);refine uDi ?_;refine bF rfl rfl le1 ?_;exact⟨_,rfl,rfl,rfl⟩
theorem aCR(b:Nat)(n d:aM)(hd:d.length≤140737488355328)(K:Hl):Sp Tryz.prog 131 [dV b,.agg #[str n,str d]] K [] (Ret fun v K' L'=>L'=[]∧∃x y,v=.func (.func 224) #[] #[ptr x,ptr y]∧Clo 800000 K' b v (eP n d)):=by
 refine aZ Tryz.func131 rfl Tryz.ntmps131 rfl rfl fun F w=>?_
 refine aH (aB ?_);refine uBk ?_;rintro _ K _ ⟨b2,rfl,rfl,rfl⟩ -;refine uBk ?_;rintro _ K _ ⟨b3,rfl,rfl,rfl⟩ -;refine uAb ?_;refine aG (aE ?_);refine aH ?_;refine jD fun K1 le1 hb3=>?_
 refine jD fun K2 le2 hb2=>?_
 refine aB ?_;refine uGi ?_;refine uAb ?_;refine aG (aE ?_);refine uCx ?_;refine bF rfl rfl (Hl.le_trans le1 le2) ?_;exact⟨_,rfl,rfl,_,_,rfl,_,_,pZ ⟨_,Tryz.func224,rfl,rfl⟩,fun K3 K0 s le3 le0 hp=>⟨aO0 b b2 b3 n d s K3 K0 le0 _ _ _ _ (le3 _ _ hb2) (le3 _ _ (le2 _ _ hb3)) hd aI,by have:=o0 n d s;omega⟩⟩
theorem oU(g:DSt→Er×DSt)(gs:List (DSt→Er×DSt))(s:DSt):dY (g::gs) s=if (g s).1.isSome=true then g s else dY gs (g s).2:=rfl
theorem aR2(N b:Nat)(v:Value)(cs:List Cell)(gs:List (DSt→Er×DSt))(s:DSt)(K K0:Hl)(le:K0.le K)(hv:Ksl (eD 247) K v cs)(hl:gs.length=cs.length)(hc:∀(i:Nat) (c:Cell) (g:DSt→Er×DSt),cs[i]?=some c→gs[i]?=some g→Clo N K b c.1 g)(hp:s.pend.length+200*cs.length≤N)(hcl:cs.length≤100):
  Sp Tryz.prog 130 [v] K [dsk K0 b s] (Ret fun r K' L'=>r=erV (dY gs s).1∧L'=[dsk K' b (dY gs s).2]):=by
 refine aZ Tryz.func130 rfl Tryz.ntmps130 rfl rfl fun F w=>?_
 refine aH (aB ?_);refine uAb ?_;refine aG (aE ?_);refine aH (aH ?_);refine uAf ?_;refine aA (cB (k:=eD 247) rfl Tryz.underlying342 rfl (.known hv)) rfl ?_;refine uAa ?_;refine aG (aE ?_);refine bE ?_;refine kJ (fA (uS le)) ?_;refine mP (fun(i:Nat) (K2:Hl) (s2:DSt)=>i≤cs.length∧K.le K2∧s2.pend.length≤s.pend.length+200*i∧dY gs s=dY (gs.drop i) s2) (fun i _ _=>[(6,v),(7,i64 cs.length),(8,i64 i)]) (fun _ K2 _=>K2) (fun _ K2 s2=>[dsk K2 b s2]) (fun i _ _=>cs.length - i) 0 K s ⟨Nat.zero_le _,Hl.le_refl _,Nat.le_refl _,rfl⟩ (.cons 6 rfl (.cons 7 rfl (.cons 8 rfl .nil))) rfl (fun _ h=>h) ?_;intro i K2 s2 ⟨hi,leL,hp2,hx⟩;refine aH (aB ?_);refine uBn ?_;refine aG (aE ?_);refine aH ?_;refine bK 9 rfl (fun h9=>?_) (fun h9=>?_)
 ·
  have hlt:i < cs.length:=by omega
  obtain⟨c,hcc⟩:∃c,cs[i]?=some c:=⟨cs[i]'hlt,List.getElem?_eq_getElem hlt⟩;obtain⟨g,hg⟩:∃g,gs[i]?=some g:=⟨gs[i]'(by omega),List.getElem?_eq_getElem aI⟩;obtain⟨f,vs,hen,hsp⟩:=hc i c g hcc hg;obtain⟨hs1,hs2⟩:=hsp K2 K2 s2 leL (Hl.le_refl _) aI;have hv2:=hv.mono leL;refine aW ?_;refine aE (aH ?_);refine bE (aH ?_);refine aB ?_;refine aA (b0 (k:=eD 247) oY rfl (.known hv2) rfl rfl (by first|assumption|omega)) rfl ?_;refine aA (dW (o:=0) (k:=eD 247) aZD rfl (.known hv2) hcc rfl) rfl ?_;refine uAb ?_;refine aG (aE ?_);refine aH (aB ?_);refine uAa ?_;refine aGQ rfl hen hs1 (.cons .here .nil) rfl ?_;rintro _ K3 _ ⟨rfl,rfl⟩ le3;refine uAb ?_;refine aG (aE ?_);rcases hr:g s2 with ⟨_|e,s3⟩
  ·
   refine aH (aB ?_);refine uAa ?_;refine uEz ?_;refine aG (aE ?_);refine uBf ?_;refine aN (aE ?_);refine uDj ?_;exact fU (i+1) K3 s3 ⟨by omega,Hl.le_trans leL le3,by have:=hs2;rw[hr]at this;simp only at this;omega,by rw[hx,jK hg,oU,hr];rfl⟩ aI (.cons 6 rfl (.cons 7 rfl (.cons 8 rfl .nil))) rfl (fun _ h=>h)
  ·
   refine aH (aB ?_);refine uAa ?_;refine uFb ?_;refine aG (aE ?_);refine uGe ?_;refine aH (aB ?_);refine uEj ?_;refine aG (aE ?_);refine uEk ?_;refine bF rfl rfl (Hl.le_trans leL le3) ?_;have hy:dY gs s=(some e,s3):=(by rw[hx,jK hg,oU,hr];rfl);rw[hy];exact⟨_,rfl,rfl,rfl⟩
 ·
  have hie:i=cs.length:=by omega
  subst hie;rw[List.drop_of_length_le aI]at hx;rw[hx];refine uAp ?_;refine aE (aH ?_);refine uFr ?_;refine aG (aE ?_);refine bI ?_;refine bF rfl rfl leL ?_;exact⟨_,rfl,rfl,rfl⟩
theorem aN6{P:Program}{f:FuncId}{args:List Value}{K:Hl}{b:Nat}{o:Obj}{L:List Asn}{R:Ending→Hl→List Asn→Prop}(hb:∃fn,P.funcs[f]?=some fn∧(fn.name=="runtime.NumGoroutine")=false∧fn.body.isSome=true)
  (h:∀K',K.le K'→K' b=some o→Sp P f args K' L R):Sp P f args K (pt b o::L) R:=
 ⟨hb, fun F w i => by
  obtain⟨h1,h2,h3⟩:=i.settle;exact((h _ h1 h2).2 F w h3).mono fun e w' ⟨K',L',r,le,j⟩=>⟨K',L',r,Hl.le_trans h1 le,j⟩⟩
theorem aFQ(e:TypeId):∀cs:List Cell,(eD e).cs cs=cs.map (·.1)
 | []=>rfl
 |a::r=>congrArg (a.1:: ·) (aFQ e r)
theorem wR(N b bs:Nat)(cs:List Cell)(gs:List (DSt→Er×DSt))(s:DSt)(K K0:Hl)(le:K0.le K)(fz:Nat×Nat)(hl:gs.length=cs.length)(hc:∀(i:Nat) (c:Cell) (g:DSt→Er×DSt),cs[i]?=some c→gs[i]?=some g→Clo N K b c.1 g)(hp:s.pend.length+200*cs.length≤N)(hcl:cs.length≤100):
  Sp Tryz.prog 130 [.slice (some ⟨bs,0,none⟩) cs.length cs.length] K [pt bs (aU (cs.map (·.1)) 247 fz),dsk K0 b s] (Ret fun r K' L'=>r=erV (dY gs s).1∧L'=[dsk K' b (dY gs s).2]):=by
 refine aN6 ⟨_,Tryz.func130,rfl,rfl⟩ fun K' le' hk=>?_
 refine aR2 N b _ cs gs s K' K0 (Hl.le_trans le le') (.inr ⟨bs,0,cs.length,_,fz,rfl,⟨_,hk⟩,?_⟩) hl (fun i c g h1 h2=>(hc i c g h1 h2).mono le') hp hcl
 rw[aFQ];exact List.take_of_length_le (by simp[eD])
theorem aTN(b bd:Nat)(s:DSt)(K K0:Hl)(le:K0.le K)(T1:TypeId)(z1:Nat×Nat)(h1:K bd=some (aU [dV b] T1 z1))(hp:s.pend.length≤900000):
  Sp Tryz.prog 227 [ptr bd] K [dsk K0 b s] (Ret fun v K' L'=>v=erV (eK bQ s).1∧L'=[dsk K' b (eK bQ s).2]):=by
 refine aZ Tryz.func227 rfl Tryz.ntmps227 rfl rfl fun F w=>?_
 refine aH (aB ?_);refine uAb ?_;refine aG (aE ?_);refine aH (aB ?_);refine uGh ?_;refine l9 rfl rfl (aKW b) (aCK b s bQ aI _ _ le) (.cons .here .nil) rfl ?_;rintro _ K1 _ ⟨rfl,rfl⟩ le1;refine uAb ?_;refine aG (aE ?_);refine uDi ?_;refine bF rfl rfl le1 ?_;exact⟨_,rfl,rfl,rfl⟩
theorem aT7(b bd:Nat)(s:DSt)(K K0:Hl)(le:K0.le K)(T1:TypeId)(z1:Nat×Nat)(h1:K bd=some (aU [dV b] T1 z1))(hp:s.pend.length≤900000):
  Sp Tryz.prog 136 [ptr bd] K [dsk K0 b s] (Ret fun v K' L'=>v=erV (eK bQ s).1∧L'=[dsk K' b (eK bQ s).2]):=by
 refine aZ Tryz.func136 rfl Tryz.ntmps136 rfl rfl fun F w=>?_
 refine aH (aB ?_);refine uAb ?_;refine aG (aE ?_);refine aH (aB ?_);refine uGh ?_;refine l9 rfl rfl (aKW b) (aCK b s bQ aI _ _ le) (.cons .here .nil) rfl ?_;rintro _ K1 _ ⟨rfl,rfl⟩ le1;refine uAb ?_;refine aG (aE ?_);refine uDi ?_;refine bF rfl rfl le1 ?_;exact⟨_,rfl,rfl,rfl⟩
theorem aTD(K:Hl)(b bd:Nat)(T1:TypeId)(z1:Nat×Nat)(h1:K bd=some (aU [dV b] T1 z1)):Clo 800000 K b (.func (.func 227) #[] #[ptr bd]) (eK bQ):=
 ⟨_,_,pZ ⟨_,Tryz.func227,rfl,rfl⟩,fun K1 K0 s le1 le0 hp=>⟨aTN b bd s K1 K0 le0 _ _ (le1 _ _ h1) aI,by have:=qB bQ s;omega⟩⟩
theorem aTE(K:Hl)(b bd:Nat)(T1:TypeId)(z1:Nat×Nat)(h1:K bd=some (aU [dV b] T1 z1)):Clo 800000 K b (.func (.func 136) #[] #[ptr bd]) (eK bQ):=
 ⟨_,_,pZ ⟨_,Tryz.func136,rfl,rfl⟩,fun K1 K0 s le1 le0 hp=>⟨aT7 b bd s K1 K0 le0 _ _ (le1 _ _ h1) aI,by have:=qB bQ s;omega⟩⟩
theorem aX0{N:Nat}{K:Hl}{b:Nat}{v1 v2:Cell}{g1 g2:DSt→Er×DSt}(h1:Clo N K b v1.1 g1)(h2:Clo N K b v2.1 g2):∀(i:Nat) (c:Cell) (g:DSt→Er×DSt),[v1,v2][i]?=some c→[g1,g2][i]?=some g→Clo N K b c.1 g
 |0,c,g,e1,e2=>by cases e1;cases e2;exact h1
 |1,c,g,e1,e2=>by cases e1;cases e2;exact h2
 |i+2,c,g,e1,_=>by simp at e1
theorem aVD{N:Nat}{K:Hl}{b:Nat}{v1 v2 v3:Cell}{g1 g2 g3:DSt→Er×DSt}(h1:Clo N K b v1.1 g1)(h2:Clo N K b v2.1 g2)(h3:Clo N K b v3.1 g3):∀(i:Nat) (c:Cell) (g:DSt→Er×DSt),[v1,v2,v3][i]?=some c→[g1,g2,g3][i]?=some g→Clo N K b c.1 g
 |0,c,g,e1,e2=>by cases e1;cases e2;exact h1
 |1,c,g,e1,e2=>by cases e1;cases e2;exact h2
 |2,c,g,e1,e2=>by cases e1;cases e2;exact h3
 |i+3,c,g,e1,_=>by simp at e1
end Go.Proofs
end
section
namespace Go.Proofs
open Go Go.SL Go.Syn Go.Box
theorem aV1{xs:List File}{i:Nat}{f:File}(h:xs[i]?=some f)(t:List (DSt→Er×DSt)):(fC xs++t).drop i=eP f.1 f.2::(fC xs++t).drop (i+1):=by
 refine jK ?_;rw[List.getElem?_append_left (by have:=nP h;simpa[fC]using this)];simp[fC,h]
theorem aB2(b:Nat)(v:Value)(xs:List File)(s:DSt)(K K0:Hl)(le:K0.le K)(hv:Ksl dG K v xs)(hn:xs.length≤100)(hd:∀f∈xs,f.2.length≤140737488355328)(hp:s.pend.length≤700000):
  Sp Tryz.prog 134 [dV b,v] K [dsk K0 b s] (Ret fun r K' L'=>r=erV (fZ xs s).1∧L'=[dsk K' b (fZ xs s).2]):=by
 refine aZ Tryz.func134 rfl Tryz.ntmps134 rfl rfl fun F w=>?_
 refine aH (aB ?_);refine uBk ?_;rintro _ K _ ⟨b2,rfl,rfl,rfl⟩ -;refine uAb ?_;refine aG (aE ?_);refine aH (aH ?_);refine jD fun K1 le1 hb2=>?_
 have hv1:=hv.mono le1;refine uAf ?_;refine aA (cB (k:=dG) rfl Tryz.underlying62 rfl (.known hv1)) rfl ?_;refine uAa ?_;refine aG (aE ?_);refine bE ?_;refine kJ (fA (uS (Hl.le_trans le le1))) ?_;refine mP (fun(i:Nat) (K2:Hl) (s2:DSt)=>i≤xs.length∧K1.le K2∧s2.pend.length≤s.pend.length+i∧fZ xs s=dY ((fC xs++[d7,eK bQ,d7]).drop i) s2) (fun i _ _=>[(2,ptr b2),(8,v),(9,i64 xs.length),(10,i64 i)]) (fun _ K2 _=>K2) (fun _ K2 s2=>[dsk K2 b s2]) (fun i _ _=>xs.length - i) 0 K1 s ⟨Nat.zero_le _,Hl.le_refl _,Nat.le_refl _,rfl⟩ (.cons 2 rfl (.cons 8 rfl (.cons 9 rfl (.cons 10 rfl .nil)))) rfl (fun _ h=>h) ?_;intro i K2 s2 ⟨hi,leL,hp2,hx⟩;refine aH (aB ?_);refine uBn ?_;refine aG (aE ?_);refine aH ?_;refine bK 11 rfl (fun h11=>?_) (fun h11=>?_)
 ·
  have hlt:i < xs.length:=by omega
  obtain⟨f,hxx⟩:∃f,xs[i]?=some f:=⟨xs[i]'hlt,List.getElem?_eq_getElem hlt⟩;have hv2:=hv1.mono leL;have hb22:=leL _ _ hb2;have hfl:=hd f (List.mem_of_getElem? hxx);refine aW ?_;refine aE (aH ?_);refine bE (aH ?_);refine aB ?_;refine aA (b0 (k:=dG) nU rfl (.known hv2) rfl rfl (by first|assumption|omega)) rfl ?_;refine aA (eE (n:=0) (k:=dG) qF rfl (.known hv2) bU) rfl ?_;refine ol_s (cN tz66) rfl ?_;rintro _ K _ ⟨b6,rfl,rfl,rfl⟩ -;refine bP (cJ qF rfl rfl rfl aX (by first|(simp[Value.oneCell'];done)|exact fun c hc=>El.one _ _ c hc) (.cons (.cons .nil)) (by intro j hj;simp)) ?_;rintro _ K _ ⟨rfl,rfl⟩ -;refine aG (aE ?_);refine aH (aB ?_);refine uGh ?_;refine aA (bX qF rfl aL rfl rfl) rfl ?_;refine bC rfl rfl (aCR b f.1 f.2 hfl _) .nil rfl ?_;rintro _ K _ ⟨rfl,x16,y16,rfl,hclo⟩ le2;obtain⟨fn,vs,hen,hsp⟩:=hclo;obtain⟨hs1,hs2⟩:=hsp K _ s2 (Hl.le_refl _) le2 aI;refine aGQ rfl hen hs1 (.cons (.there .here) .nil) rfl ?_;rintro _ K3 _ ⟨rfl,rfl⟩ le3;refine uAb ?_;refine aG (aE ?_);rcases hr:eP f.1 f.2 s2 with ⟨_|e,s3⟩
  ·
   refine aH (aB ?_);refine uAa ?_;refine uEz ?_;refine aG (aE ?_);refine uBf ?_;refine aN (aE ?_);refine uDj ?_;refine uAg ?_;exact fU (i+1) K3 s3 ⟨by omega,Hl.le_trans leL (Hl.le_trans le2 le3),by have:=o0 f.1 f.2 s2;rw[hr]at this;simp only at this;omega,by rw[hx,aV1 hxx,oU,hr];rfl⟩ aI (.cons 2 rfl (.cons 8 rfl (.cons 9 rfl (.cons 10 rfl .nil)))) rfl (fun _ h=>h)
  ·
   refine aH (aB ?_);refine uAa ?_;refine uFb ?_;refine aG (aE ?_);refine uGe ?_;refine aH (aB ?_);refine uEj ?_;refine aG (aE ?_);refine uEk ?_;refine uAg ?_;refine bF rfl rfl (Hl.le_trans le1 (Hl.le_trans leL (Hl.le_trans le2 le3))) ?_;have hy:fZ xs s=(some e,s3):=(by rw[hx,aV1 hxx,oU,hr];rfl);rw[hy];exact⟨_,rfl,rfl,rfl⟩
 ·
  have hie:i=xs.length:=by omega
  subst hie;rw[show (fC xs++[d7,eK bQ,d7]).drop xs.length=[d7,eK bQ,d7]from by rw[List.drop_append,List.drop_of_length_le (by simp[fC])];simp[fC]]at hx;rw[hx];have hb22:=leL _ _ hb2;refine uAp ?_;refine aE (aH ?_);refine t_draw (anc:=[0,1,3,0,0,16,48,127,255,511]) (ord:=[0,1,2,3,4,5,6,7,8,9]) [7,8] [7,8] mixed (by decide+kernel) .nil ?_;refine uEq ?_;refine dl_ev rfl rfl (.none rfl) rfl rfl (d8 rfl rfl) rfl ?_;refine uEq ?_;refine dl_g rfl rfl (.none rfl) rfl (bN (z0:=[.nilFunc,.nilFunc,.nilFunc]) oY aST rfl rfl rfl rfl (.cons rfl rfl rfl (.cons .nil) (.cons rfl rfl rfl (.skip (.cons .nil)) (.cons rfl rfl rfl (.skip (.skip (.cons .nil))) .nil)))) rfl ?_;rintro _ K _ ⟨b29,rfl,rfl,rfl⟩ -;refine gK rfl (.none rfl) rfl rfl rfl (wR 800000 b b29 [⟨.func (.method "Sync") #[dV b] #[],rfl⟩,⟨.func (.func 227) #[] #[ptr b2],rfl⟩,⟨.func (.method "Sync") #[dV b] #[],rfl⟩] [d7,eK bQ,d7] s2 _ _ (Hl.le_refl _) _ rfl (aVD (uO _ _) (aTD _ _ _ _ _ hb22) (uO _ _)) (by simp;omega) (by simp)) (.cons .here (.cons .here .nil)) rfl ?_;rintro _ K3 _ ⟨rfl,rfl⟩ le3;refine uAv ?_;refine uDf ?_;refine uDi ?_;refine bF rfl rfl (Hl.le_trans le1 (Hl.le_trans leL le3)) ?_;exact⟨_,rfl,rfl,rfl⟩
theorem aFU(b bd bf:Nat)(v:Value)(xs:List File)(s:DSt)(K K0:Hl)(le:K0.le K)(T1 T2:TypeId)(z1 z2:Nat×Nat)(h1:K bd=some (aU [dV b] T1 z1))(h2:K bf=some (aU [v] T2 z2))(hv:Ksl dG K v xs)(hn:xs.length≤100)(hd:∀f∈xs,f.2.length≤140737488355328)(hp:s.pend.length≤700000):
  Sp Tryz.prog 133 [ptr bd,ptr bf] K [dsk K0 b s] (Ret fun r K' L'=>r=erV (fZ xs s).1∧L'=[dsk K' b (fZ xs s).2]):=by
 refine aZ Tryz.func133 rfl Tryz.ntmps133 rfl rfl fun F w=>?_
 refine aH (aB ?_);refine uAb ?_;refine aG (aE ?_);refine aH (aB ?_);refine uGh ?_;refine aA (aJ ts62 rfl aL rfl) rfl ?_;refine bC rfl rfl (aB2 b v xs s _ _ le hv hn hd hp) (.cons .here .nil) rfl ?_;rintro _ K1 _ ⟨rfl,rfl⟩ le1;refine uAb ?_;refine aG (aE ?_);refine bI ?_;refine bF rfl rfl le1 ?_;exact⟨_,rfl,rfl,rfl⟩
theorem aID(b:Nat)(v:Value)(xs:List File)(s:DSt)(K K0:Hl)(le:K0.le K)(hv:Ksl dG K v xs)(hg:Glob K)(hdb:Deb K)(hb:(bodyC xs).length≤1000000000)(hn:xs.length≤100)(hp:s.pend.length≤600000):
  Sp Tryz.prog 79 [dV b,v] K [dsk K0 b s] (Ret fun r K' L'=>r=erV (gJ xs s).1∧L'=[dsk K' b (gJ xs s).2]):=by
 have hd:∀f∈xs,f.2.length≤140737488355328:=fun f hf=>by have:=uT hf;simp[entryC]at this;omega
 obtain⟨va,vn,vc,rfl⟩:=hv.isSlice;refine aZ Tryz.func79 rfl Tryz.ntmps79 rfl rfl fun F w=>?_
 refine aH (aB ?_);refine uBk ?_;rintro _ K _ ⟨b2,rfl,rfl,rfl⟩ -;refine uBk ?_;rintro _ K _ ⟨b3,rfl,rfl,rfl⟩ -;refine uAb ?_;refine aG (aE ?_);refine aH ?_;refine jD fun K1 le1 hb3=>?_
 refine jD fun K2 le2 hb2=>?_
 have hv2:=(hv.mono le1).mono le2;have hb32:=le2 _ _ hb3;refine t_draw (anc:=[0,0,2,6,15,0,32,96,0,511,1023,2047]) (ord:=[0,1,5,6,7,8,2,3,4,9,10,11]) [2,4,9,10] [9,10] mixed (by decide+kernel) .nil ?_;refine dl_ev rfl rfl (.none rfl) rfl rfl (aJ pQ rfl aL rfl) rfl ?_;refine dl_ev rfl rfl (.none rfl) rfl rfl (aJ ts62 rfl aL rfl) rfl ?_;refine uEq ?_;refine dl_ev rfl rfl (.none rfl) rfl rfl (d8 rfl rfl) rfl ?_;refine dl_callv rfl (.none rfl) rfl rfl rfl rfl (aNA _ xs _ hv2 ((hg.mono le1).mono le2) ((hdb.mono le1).mono le2) hb hn) rfl ?_;refine uIm ?_;refine aDS rfl (.none rfl) rfl rfl rfl rfl (aCR b bQ (eV xs) (aK1 hb) _) .nil rfl ?_;rintro _ K9 _ ⟨rfl,x9,y9,rfl,hclo⟩ le9;refine⟨_,(show Tks _ _ _ from .nil).sat,?_⟩
 refine dl_g rfl rfl (.none rfl) rfl (bN (z0:=[.nilFunc,.nilFunc,.nilFunc]) oY aST rfl rfl rfl rfl (.cons rfl rfl rfl (.cons .nil) (.cons rfl rfl rfl (.skip (.cons .nil)) (.cons rfl rfl rfl (.skip (.skip (.cons .nil))) .nil)))) rfl ?_;rintro _ K _ ⟨b14,rfl,rfl,rfl⟩ -;refine gK rfl (.none rfl) rfl rfl rfl (wR 700000 b b14 [⟨.func (.func 224) #[] #[ptr x9,ptr y9],rfl⟩,⟨.func (.method "Sync") #[dV b] #[],rfl⟩,⟨.func (.func 133) #[] #[ptr b2,ptr b3],rfl⟩] [eP bQ (eV xs),d7,fZ xs] s _ _ (Hl.le_trans le (Hl.le_trans le1 (Hl.le_trans le2 le9))) _ rfl (aVD (hclo.weak aI) ((uO _ _).weak aI) ⟨_,_,pZ ⟨_,Tryz.func133,rfl,rfl⟩,fun K3 K4 s3 le3 le4 hp3=>⟨aFU b b2 b3 _ xs s3 K3 K4 le4 _ _ _ _ (le3 _ _ (le9 _ _ hb2)) (le3 _ _ (le9 _ _ hb32)) (hv2.mono (Hl.le_trans le9 le3)) hn hd aI,by have:=uY xs s3;omega⟩⟩) (by simp;omega) (by simp)) (.cons .here (.cons .here .nil)) rfl ?_;rintro _ K3 _ ⟨rfl,rfl⟩ le3;refine uAv ?_;refine uDf ?_;refine bI ?_;refine bF rfl rfl (Hl.le_trans le1 (Hl.le_trans le2 (Hl.le_trans le9 le3))) ?_;exact⟨_,rfl,rfl,rfl⟩
end Go.Proofs
end
section
namespace Go.Box
open Go.Syn
theorem zN{c:UInt8}:∀ {a:aM} (b:aM),c∉a→Lib.index (a++c::b) [c]=(a.length:Int)
 | [],b,_=>by simp[Lib.index]
 |x::r,b,h=>by
  have hx:(c==x)=false:=by simp;exact fun e=>h (e▸List.mem_cons_self)
  have ih:=zN (a:=r) b fun hr=>h (List.mem_cons_of_mem _ hr)
  show Lib.index (x::(r++c::b)) [c]=_
  rw[Lib.index,if_neg (by simp[List.isPrefixOf,hx]),ih,if_neg (by simp)];simp
theorem xL{c:UInt8}:∀ {s:aM},c∉s→Lib.index s [c]= -1
 | [],_=>rfl
 |x::r,h=>by
  have hx:(c==x)=false:=by simp;exact fun e=>h (e▸List.mem_cons_self)
  have ih:=xL (s:=r) fun hr=>h (List.mem_cons_of_mem _ hr)
  rw[Lib.index,if_neg (by simp[List.isPrefixOf,hx]),ih];rfl
theorem o8{c:UInt8}{a:aM}(b:aM)(h:c∉a):Lib.cut (a++c::b) [c]=(a,b,true):=by
 unfold Lib.cut;rw[zN b h,if_pos aI];simp[List.drop_append]
theorem aBU{c:UInt8}{s:aM}(h:c∉s):Lib.cut s [c]=(s,[],false):=by
 unfold Lib.cut;rw[xL h,if_neg aI]
theorem y7(c:UInt8)(s:aM):(Lib.cut s [c]).2.2=false∨∃a b,c∉a∧s=a++c::b∧Lib.cut s [c]=(a,b,true):=by
 by_cases h:c∈s
 ·right
  obtain⟨a,b,e,h2⟩:∃a b,s=a++c::b∧c∉a:=by
   induction s with
   |nil=>cases h
   |cons x r ih=>
    by_cases hx:x=c
    ·exact⟨[],r,by rw[hx];rfl,by simp⟩
    ·obtain⟨a,b,e,h2⟩:=ih (by rcases List.mem_cons.1 h with h|h;exact absurd h.symm hx;exact h);exact⟨x::a,b,by rw[e];rfl,by simp[h2];exact fun e=>hx e.symm⟩
  exact⟨a,b,h2,e,by rw[e];exact o8 b h2⟩
 ·left;rw[aBU h]
theorem aDR{k:Nat}(h:k < 10):(UInt8.ofNat (48+k)).toNat=48+k:=by
 rw[UInt8.toNat_ofNat'];omega
theorem aKG:∀(n:Nat),∀c∈Lib.decDigits n,48≤c.toNat∧c.toNat≤57:=by
 intro n;induction n using Nat.strongRecOn with
 |_ n ih=>
  intro c hc;rw[Lib.decDigits]at hc;split at hc
  ·rename_i h;rw[List.mem_singleton.1 hc,aDR h];omega
  ·rename_i h;rcases List.mem_append.1 hc with hc|hc
   ·exact ih (n / 10) aI c hc
   ·rw[List.mem_singleton.1 hc,aDR aI];omega
theorem uR(b:UInt8):∀(l:aM) (acc:Nat),Lib.decFrom acc (l++[b])=(Lib.decFrom acc l).bind fun m=>(Lib.digitVal b).map fun d=>m*10+d
 | [],acc=>by
  show Lib.decFrom acc [b]=_
  unfold Lib.decFrom;cases Lib.digitVal b <;> rfl
 |x::r,acc=>by
  show Lib.decFrom acc (x::(r++[b]))=_
  rw[Lib.decFrom,Lib.decFrom];cases Lib.digitVal x with
  |none=>rfl
  |some d=>exact uR b r _
theorem xG{k:Nat}(h:k < 10):Lib.digitVal (UInt8.ofNat (48+k))=some k:=by
 unfold Lib.digitVal;rw[aDR h,if_pos aI]
 congr 1;omega
theorem aFT:∀n:Nat,Lib.decFrom 0 (Lib.decDigits n)=some n:=by
 intro n;induction n using Nat.strongRecOn with
 |_ n ih=>
  rw[Lib.decDigits];split
  ·rename_i h;rw[Lib.decFrom,xG h];simp[Lib.decFrom]
  ·rename_i h;rw[uR,ih (n / 10) aI,xG aI];simp only[Option.bind_some,Option.map_some]
   congr 1;omega
theorem aWH(n:Nat):Lib.decDigits n≠[]:=by
 rw[Lib.decDigits];split <;> simp
theorem yW(n:Nat):Lib.atoi (Lib.itoa (n:Int))=some (n:Int):=by
 rw[Lib.itoa_nonneg];have hf:=aFT n;have hm:=aKG n;cases hd:Lib.decDigits n with
 |nil=>exact absurd hd (aWH n)
 |cons b r=>
  rw[hd]at hf hm;have hb:=hm b List.mem_cons_self;unfold Lib.atoi
  show (if (b==45)=true then _ else if (b==43)=true then _ else _)=_
  rw[if_neg (by simp;intro e;rw[e]at hb;simp at hb),if_neg (by simp;intro e;rw[e]at hb;simp at hb)];unfold Lib.decNat;rw[if_neg (by simp),hf];rfl
theorem aKF:∀(k n:Nat),n < 10 ^ (k+1)→(Lib.decDigits n).length≤k+1
 |0,n,h=>by rw[Lib.decDigits,dif_pos (by simpa using h)];simp
 |k+1,n,h=>by
  rw[Lib.decDigits];split
  ·simp
  ·have:=aKF k (n / 10) (Nat.div_lt_of_lt_mul (by rw[Nat.mul_comm,←Nat.pow_succ];exact h));simp;omega
theorem zR{n:Nat}{c:UInt8}(h:c∈Lib.itoa (n:Int)):48≤c.toNat∧c.toNat≤57:=by rw[Lib.itoa_nonneg]at h;exact aKG n c h
theorem aGE{a b:Nat}(h:Lib.itoa (a:Int)=Lib.itoa (b:Int)):a=b:=by
 have h1:=yW a;rw[h,yW b]at h1
 injection h1 with h1;omega
theorem zL{k:Nat}(h:k < 16):48≤(p8 k).toNat:=by
 have:∀k:Fin 16,48≤(p8 k.1).toNat:=by decide
 exact this ⟨k,h⟩
theorem aTU:∀(n:Nat),∀c∈hexN n,48≤c.toNat:=by
 intro n;induction n using Nat.strongRecOn with
 |_ n ih=>
  intro c hc;rw[hexN]at hc;split at hc
  ·rename_i h;rw[List.mem_singleton.1 hc];exact zL h
  ·rename_i h;rcases List.mem_append.1 hc with hc|hc
   ·exact ih (n / 16) aI c hc
   ·rw[List.mem_singleton.1 hc];exact zL (Nat.mod_lt _ aI)
theorem aKR(body:aM):(10:UInt8)∉nZ body:=by
 intro h;unfold nZ at h;rcases List.mem_append.1 h with h|h
 ·rcases List.mem_append.1 h with h|h
  ·have:=zR h;simp at this
  ·simp at h
 ·have:=aTU _ _ h;simp at this
theorem yV{c:UInt8}{a b x y:aM}(ha:c∉a)(hb:c∉b)(h:a++c::x=b++c::y):a=b∧x=y:=by
 have h1:=o8 x ha;rw[h,o8 y hb]at h1
 injection h1 with h1 h2
 injection h2 with h2 _
 exact⟨h1.symm,h2.symm⟩
theorem wE(n:Nat):(32:UInt8)∉Lib.itoa (n:Int):=fun h=>by have:=zR h;simp at this
theorem aB3(n:Nat):(10:UInt8)∉Lib.itoa (n:Int):=fun h=>by have:=zR h;simp at this
theorem aQI{x y:aM}(h:nZ x=nZ y):x.length=y.length:=by
 unfold nZ at h;simp only[List.append_assoc,List.singleton_append]at h;exact aGE (yV (wE _) (wE _) h).1
theorem aQ6(files:List File):Lib.cut (eV files) [10]=(nZ (bodyC files),bodyC files,true):=by
 unfold eV;rw[List.append_assoc];exact o8 _ (aKR _)
theorem aSH{d:aM}{files:List File}(h:d<+:eV files)(hne:d≠eV files):(Lib.cut d [10]).2.2=false∨(Lib.cut d [10]).1≠nZ (Lib.cut d [10]).2.1:=by
 rcases y7 10 d with h1|⟨a,b,h1,h2,h3⟩
 ·exact .inl h1
 ·right
  rw[h3];intro he;obtain⟨t,ht⟩:=h;have e1:eV files=nZ (bodyC files)++10::bodyC files:=by unfold eV;rw[List.append_assoc];rfl
  rw[h2,e1,List.append_assoc]at ht;have h4:=yV h1 (aKR _) (show a++10::(b++t)=nZ (bodyC files)++10::bodyC files from ht);have h5:a=nZ b:=he;have h6:=aQI (h5.symm.trans h4.1);rw[←h4.2,List.length_append]at h6;have ht0:t=[]:=List.length_eq_zero_iff.1 aI
  apply hne
  rw[h2,e1,h4.1,←h4.2,ht0,List.append_nil]
theorem aM5{f:File}{r:aM}(hn:m6 f.1):Lib.cut (entryC f++r) [10]=(f.1++[32]++Lib.itoa (f.2.length:Int),f.2++r,true):=by
 have:entryC f++r=(f.1++[32]++Lib.itoa (f.2.length:Int))++10::(f.2++r):=by simp[entryC]
 rw[this];refine o8 _ ?_;simp only[List.mem_append,not_or];exact⟨⟨hn.1,by decide⟩,aB3 _⟩
theorem aM6{f:File}(hn:m6 f.1):Lib.cut (f.1++[32]++Lib.itoa (f.2.length:Int)) [32]=(f.1,Lib.itoa (f.2.length:Int),true):=by
 rw[List.append_assoc];exact o8 _ hn.2
theorem aKC{files:List File}{i:Nat}{f:File}(h:files[i]?=some f):bodyC (files.drop i)=entryC f++bodyC (files.drop (i+1)):=by
 rw[jK h];rfl
theorem aP7(f:File)(r:aM):entryC f++r≠[]:=by simp[entryC]
end Go.Box
end
section
namespace Go.Proofs
open Go.Shelf
def Tryz.lays172_ren:Go.Shelf.Ren:=⟨fun|172=>229|244=>296|245=>297|247=>329|279=>330|280=>331|281=>332|282=>333|287=>350|316=>351|171=>129|205=>352|321=>364|322=>365|243=>223|246=>293|283=>325|284=>326|285=>327|286=>328|129=>240|317=>346|318=>347|319=>348|320=>349|337=>362|338=>363|n=>n,fun|9=>9|3=>3|75=>79|76=>219|4=>4|5=>5|167=>448|37=>130|0=>0|85=>449|2=>2|168=>451|53=>345|175=>477|46=>257|210=>480|127=>227|145=>500|143=>498|21=>21|171=>444|173=>446|212=>475|51=>350|20=>20|213=>476|232=>510|233=>511|80=>51|n=>n,fun|15=>3|16=>4|17=>2|18=>5|19=>6|n=>n⟩
theorem Tryz.lays172 : Lays.n172 Tryz.prog Tryz.lays172_ren := {
 mixed:=by kernel_rfl
 f129:=Tryz.func240.trans (congrArg some bR)
 f171:=Tryz.func129.trans (congrArg some bR)
 f172:=Tryz.func229.trans (congrArg some bR)
 f205:=Tryz.func352.trans (congrArg some bR)
 f243:=Tryz.func223.trans (congrArg some bR)
 f244:=Tryz.func296.trans (congrArg some bR)
 f245:=Tryz.func297.trans (congrArg some bR)
 f246:=Tryz.func293.trans (congrArg some bR)
 f247:=Tryz.func329.trans (congrArg some bR)
 f279:=Tryz.func330.trans (congrArg some bR)
 f280:=Tryz.func331.trans (congrArg some bR)
 f281:=Tryz.func332.trans (congrArg some bR)
 f282:=Tryz.func333.trans (congrArg some bR)
 f283:=Tryz.func325.trans (congrArg some bR)
 f284:=Tryz.func326.trans (congrArg some bR)
 f285:=Tryz.func327.trans (congrArg some bR)
 f286:=Tryz.func328.trans (congrArg some bR)
 f287:=Tryz.func350.trans (congrArg some bR)
 f316:=Tryz.func351.trans (congrArg some bR)
 f317:=Tryz.func346.trans (congrArg some bR)
 f318:=Tryz.func347.trans (congrArg some bR)
 f319:=Tryz.func348.trans (congrArg some bR)
 f320:=Tryz.func349.trans (congrArg some bR)
 f321:=Tryz.func364.trans (congrArg some bR)
 f322:=Tryz.func365.trans (congrArg some bR)
 f337:=Tryz.func362.trans (congrArg some bR)
 f338:=Tryz.func363.trans (congrArg some bR)
 t0:=Tryz.underlying0
 a0:=Tryz.isAgg0
 z0:=Tryz.sizeOf0
 v0:=Tryz.zeroValue0
 t2:=Tryz.underlying2
 a2:=Tryz.isAgg2
 z2:=Tryz.sizeOf2
 v2:=Tryz.zeroValue2
 t3:=Tryz.underlying3
 a3:=Tryz.isAgg3
 z3:=Tryz.sizeOf3
 v3:=Tryz.zeroValue3
 t4:=Tryz.underlying4
 a4:=Tryz.isAgg4
 z4:=Tryz.sizeOf4
 v4:=Tryz.zeroValue4
 t5:=Tryz.underlying5
 a5:=Tryz.isAgg5
 z5:=Tryz.sizeOf5
 v5:=Tryz.zeroValue5
 t9:=Tryz.underlying9
 a9:=Tryz.isAgg9
 z9:=Tryz.sizeOf9
 v9:=Tryz.zeroValue9
 t20:=Tryz.underlying20
 a20:=Tryz.isAgg20
 z20:=Tryz.sizeOf20
 v20:=Tryz.zeroValue20
 t21:=Tryz.underlying21
 a21:=Tryz.isAgg21
 z21:=Tryz.sizeOf21
 v21:=Tryz.zeroValue21
 t37:=Tryz.underlying130
 a37:=Tryz.isAgg130
 z37:=Tryz.sizeOf130
 v37:=Tryz.zeroValue130
 t46:=Tryz.underlying257
 a46:=Tryz.isAgg257
 z46:=Tryz.sizeOf257
 v46:=Tryz.zeroValue257
 t51:=Tryz.underlying350
 a51:=Tryz.isAgg350
 z51:=Tryz.sizeOf350
 v51:=Tryz.zeroValue350
 t53:=Tryz.underlying345
 a53:=Tryz.isAgg345
 z53:=Tryz.sizeOf345
 v53:=Tryz.zeroValue345
 t75:=Tryz.underlying79
 a75:=Tryz.isAgg79
 z75:=Tryz.sizeOf79
 v75:=Tryz.zeroValue79
 t76:=Tryz.underlying219
 a76:=Tryz.isAgg219
 z76:=Tryz.sizeOf219
 v76:=Tryz.zeroValue219
 t85:=Tryz.underlying449
 a85:=Tryz.isAgg449
 z85:=Tryz.sizeOf449
 v85:=Tryz.zeroValue449
 t127:=Tryz.underlying227
 a127:=Tryz.isAgg227
 z127:=Tryz.sizeOf227
 v127:=Tryz.zeroValue227
 t143:=Tryz.underlying498
 a143:=Tryz.isAgg498
 z143:=Tryz.sizeOf498
 v143:=Tryz.zeroValue498
 t145:=Tryz.underlying500
 a145:=Tryz.isAgg500
 z145:=Tryz.sizeOf500
 v145:=Tryz.zeroValue500
 t167:=Tryz.underlying448
 a167:=Tryz.isAgg448
 z167:=Tryz.sizeOf448
 v167:=Tryz.zeroValue448
 t168:=Tryz.underlying451
 a168:=Tryz.isAgg451
 z168:=Tryz.sizeOf451
 v168:=Tryz.zeroValue451
 t171:=Tryz.underlying444
 a171:=Tryz.isAgg444
 z171:=Tryz.sizeOf444
 v171:=Tryz.zeroValue444
 t173:=Tryz.underlying446
 a173:=Tryz.isAgg446
 z173:=Tryz.sizeOf446
 v173:=Tryz.zeroValue446
 t175:=Tryz.underlying477
 a175:=Tryz.isAgg477
 z175:=Tryz.sizeOf477
 v175:=Tryz.zeroValue477
 t210:=Tryz.underlying480
 a210:=Tryz.isAgg480
 z210:=Tryz.sizeOf480
 v210:=Tryz.zeroValue480
 t212:=Tryz.underlying475
 a212:=Tryz.isAgg475
 z212:=Tryz.sizeOf475
 v212:=Tryz.zeroValue475
 t213:=Tryz.underlying476
 a213:=Tryz.isAgg476
 z213:=Tryz.sizeOf476
 t232:=Tryz.underlying510
 a232:=Tryz.isAgg510
 z232:=Tryz.sizeOf510
 v232:=Tryz.zeroValue510
 t233:=Tryz.underlying511
 a233:=Tryz.isAgg511
 z233:=Tryz.sizeOf511
 v233:=Tryz.zeroValue511
 g15:=by kernel_rfl
 g16:=by kernel_rfl
 g17:=by kernel_rfl
 g18:=by kernel_rfl
 g19:=by kernel_rfl}
open Go.SL in
theorem aLT(s:List UInt8)(n:Int)(hl:s.length≤18)(h:Lib.atoi s=some n)(K:Hl):Sp Tryz.prog 229 [str s] K [] (Val (.tuple #[i64 n,.nilIface]) K):=by
 refine kY ⟨_,Tryz.func229,rfl,rfl⟩ fun w hw=>(Any.strconv_Atoi Tryz.lays172 ⟨s.toArray⟩ n (by simpa[ByteArray.size]using hl) h w).mono fun e w' ⟨he,t,hw'⟩=>⟨he,?_⟩
 rw[hw'];exact⟨rfl,rfl,rfl,by rw[Lib.bytesWorld_size];omega,fun j hj=>Lib.bytesWorld_at_old w _ t j hj⟩
end Go.Proofs
end
section
namespace Go.Proofs
open Go Go.SL Go.Syn Go.Box
theorem aPK(s sep:aM)(K:Hl)(hg:Glob K)(hs:s.length < 4294967281):Sp Tryz.prog 228 [str s,str sep] K [] (Val (.tuple #[str (Lib.cut s sep).1,str (Lib.cut s sep).2.1,.bool (Lib.cut s sep).2.2]) K):=by
 obtain⟨m,T,fz,hm⟩:=hg.maxLen;refine kY ⟨_,Tryz.func228,rfl,rfl⟩ fun w hw=>(Tryz.strings_Cut ⟨s.toArray⟩ ⟨sep.toArray⟩ m w (by simpa[ByteArray.size]using hs) (mM (hw _ _ hm) rfl)).mono fun e w' ⟨he,n,hw'⟩=>⟨he,?_⟩
 rw[hw'];exact⟨rfl,rfl,rfl,Nat.le_refl _,fun j hj=>rfl⟩
theorem vW{s sep a b:aM}{ok:Bool}(h:Lib.cut s sep=(a,b,ok))(K:Hl)(hg:Glob K)(hs:s.length < 4294967281):Sp Tryz.prog 228 [str s,str sep] K [] (Val (.tuple #[str a,str b,.bool ok]) K):=by
 have:=aPK s sep K hg hs;rw[h]at this;exact this
def UnpR(r:Option (List File)):Ending→Hl→List Asn→Prop:=Ret fun v K' L'=>match r with
 |some xs=>∃u,v=.tuple #[u,.bool true]∧L'=[sl false dG u xs]
 |none=>v=.tuple #[.slice none 0 0,.bool false]∧L'=[]
theorem aPJ{s a b:aM}{ok:Bool}(h:Lib.cut s [10]=(a,b,ok)):b.length≤s.length:=by
 rcases y7 10 s with h1|⟨x,y,h1,h2,h3⟩
 ·by_cases hm:(10:UInt8)∈s
  ·rw[h]at h1;obtain rfl:ok=false:=h1;unfold Lib.cut at h;split at h
   ·cases h
   ·cases h;exact Nat.zero_le _
  ·rw[aBU hm]at h;cases h;exact Nat.zero_le _
 ·rw[h3]at h;cases h;rw[h2];simp;omega
theorem aOU{d:aM}{r:Option (List File)}(h:o6 d r):∃a b ok,Lib.cut d [10]=(a,b,ok)∧d.length≤1000000100∧((r=none∧ok=false)∨(r=none∧ok=true∧a≠nZ b)∨(∃xs,r=some xs∧oJ xs∧ok=true∧a=nZ b∧b=bodyC xs)):=by
 obtain⟨xs,hx,h⟩:=h;have hl:(eV xs).length≤1000000100:=by
  have h1:=Lib.itoa_length_le ((bodyC xs).length:Int) (by have:=hx.2.1;omega) (by have:=hx.2.1;omega);have h2:=u9 (uA (bodyC xs));have:=hx.2.1;simp only[eV,nZ,List.length_append,List.length_singleton];omega
 rcases h with ⟨rfl,rfl⟩|⟨h1,h2,rfl⟩
 ·exact⟨_,_,_,aQ6 xs,hl,.inr (.inr ⟨xs,rfl,hx,rfl,rfl,rfl⟩)⟩
 ·have h3:=aSH h1 h2;have h4:=h1.length_le
  generalize hc:Lib.cut d [10]=c at h3
  obtain⟨a,b,ok⟩:=c;refine⟨a,b,ok,rfl,by omega,?_⟩
  cases ok with
  |false=>exact .inl ⟨rfl,rfl⟩
  |true=>exact .inr (.inl ⟨rfl,rfl,by rcases h3 with h3|h3;cases h3;exact h3⟩)
theorem aOV(d:aM)(r:Option (List File))(h:o6 d r)(K:Hl)(hg:Glob K)(hdb:Deb K):Sp Tryz.prog 135 [str d] K [] (UnpR r):=by
 obtain⟨a,b,ok,hcut,hdl,hcase⟩:=aOU h;have hbl:=aPJ hcut;have hil:=Lib.itoa_length_le (b.length:Int) aI aI;have hxl:=u9 (uA b);refine aZ Tryz.func135 rfl Tryz.ntmps135 rfl rfl fun F w=>?_
 refine aH (aB ?_);refine uAw ?_;refine aG (aE ?_);refine aH (aB ?_);refine uAa ?_;refine cA rfl rfl (vW hcut _ hg aI) rfl ?_;refine uBw ?_;refine aG (aE ?_);rcases hcase with ⟨rfl,rfl⟩|⟨rfl,rfl,hne⟩|⟨xs,rfl,hok,rfl,rfl,rfl⟩
 ·
  refine aH (aH ?_);refine uFd ?_;refine uAa ?_;refine uAc ?_;refine uAc ?_;refine uAc ?_;refine uIt ?_;refine uAy ?_;refine aG (aE ?_);refine uGe ?_;refine aH (aB ?_);refine uAw ?_;refine aG (aE ?_);refine uCk ?_;refine e7 rfl rfl rfl (Hl.le_refl _) ?_;exact⟨_,rfl,rfl,rfl⟩
 ·
  refine aH (aH ?_);refine uFd ?_;refine uDg ?_;refine uGq ?_;refine uBs ?_;refine uAz ?_;refine cA rfl rfl (nO _ aI aI _ hg) rfl ?_;refine uAz ?_;refine aA (fL rfl rfl (by simp only[List.length_singleton];omega)) rfl ?_;refine uAi ?_;refine cA rfl rfl (wQ _ aI _) rfl ?_;refine uAz ?_;refine cA rfl rfl (aD8 _ (uA _) _ hdb) rfl ?_;refine uAz ?_;refine aA (fL rfl rfl (by simp only[List.length_append,List.length_singleton];omega)) rfl ?_;refine uAz ?_;refine aA (ev_T (o2 rfl rfl) hne) rfl ?_;refine uAt ?_;refine aG (aE ?_);refine uGe ?_;refine aH (aB ?_);refine uAw ?_;refine aG (aE ?_);refine uCk ?_;refine e7 rfl rfl rfl (Hl.le_refl _) ?_;exact⟨_,rfl,rfl,rfl⟩
 ·
  refine aH (aH ?_);refine uFd ?_;refine uDg ?_;refine uGq ?_;refine uBs ?_;refine uAz ?_;refine cA rfl rfl (nO _ aI aI _ hg) rfl ?_;refine uAz ?_;refine aA (fL rfl rfl (by simp only[List.length_singleton];omega)) rfl ?_;refine uAi ?_;refine cA rfl rfl (wQ _ aI _) rfl ?_;refine uAz ?_;refine cA rfl rfl (aD8 _ (uA _) _ hdb) rfl ?_;refine uAz ?_;refine aA (fL rfl rfl (by simp only[List.length_append,List.length_singleton];omega)) rfl ?_;refine uAz ?_;refine aA (ev_F (o2 rfl rfl) (fun h=>h rfl)) rfl ?_;refine uAt ?_;refine aG (aE ?_);refine uBf ?_;refine aE (aH ?_);refine uFr ?_;refine aG (aE ?_);refine aH (bE ?_);refine kJ (dX dG) ?_;refine qE (fun(i:Nat) (u:Value)=>i≤xs.length) (fun i u=>[(5,str (bodyC (xs.drop i))),(7,u)]) (fun _ _=>K) (fun i u=>[sl false dG u (xs.take i)]) (fun i _=>xs.length - i) 0 (.slice none 0 0) (Nat.zero_le _) (.cons 5 rfl (.cons 7 rfl .nil)) rfl (fun _ h=>h) ?_;intro i u hi;refine aH (aH ?_);refine uAf ?_;refine aA (o2 rfl rfl) rfl ?_;refine aG (aE ?_);refine bK 35 rfl (fun h35=>?_) (fun h35=>?_)
  ·
   have hlt:i < xs.length:=by rcases Nat.lt_or_ge i xs.length with h|h;exact h;rw[List.drop_of_length_le h]at h35;exact absurd rfl h35
   obtain⟨f,hx,hxi⟩:∃f,xs[i]?=some f∧f=xs[i]'hlt:=⟨xs[i]'hlt,List.getElem?_eq_getElem hlt,rfl⟩;rw[aKC hx];have hnm:=hok.1 f (List.mem_of_getElem? hx);have hel:=uT (List.mem_of_getElem? hx);have hbl2:=hok.2.1;have hbt:(bodyC (xs.drop (i+1))).length≤(bodyC xs).length:=(by rw[show bodyC xs=bodyC (xs.take (i+1))++bodyC (xs.drop (i+1))from by unfold Box.bodyC;rw[←List.flatMap_append,List.take_append_drop]];simp);have hel2:(entryC f).length=f.1.length+1+(Lib.itoa f.2.length).length+1+f.2.length:=by simp[entryC];omega
   have hil2:(Lib.itoa (f.2.length:Int)).length≤10:=(by rw[Lib.itoa_nonneg];exact aKF 9 _ aI);refine aW ?_;refine aE (bE ?_);refine aH (aB ?_);refine uAb ?_;refine aG (aE ?_);refine aH (aB ?_);refine uAa ?_;refine cA rfl rfl (vW (aM5 hnm) _ hg (by rw[List.length_append];omega)) rfl ?_;refine uAa ?_;refine uAh ?_;refine uGw ?_;refine uAw ?_;refine aG (aE ?_);refine aH (aB ?_);refine uAa ?_;refine cA rfl rfl (vW (aM6 hnm) _ hg (by simp only[List.length_append,List.length_singleton];omega)) rfl ?_;refine uBw ?_;refine aG (aE ?_);refine aH (aB ?_);refine uAa ?_;refine cA rfl rfl (aLT _ _ aI (yW f.2.length) _) rfl ?_;refine uBy ?_;refine aG (aE ?_);refine aH (aH ?_);refine uAf ?_;refine uEz ?_;refine uDg ?_;refine uGq ?_;refine uBs ?_;refine uAz ?_;refine aA (ev_F (iP rfl rfl) (by rw[List.length_append];omega)) rfl ?_;refine uAt ?_;refine aG (aE ?_);refine uBf ?_;refine aE (aH ?_);refine uAf ?_;refine uEg ?_;refine aA (j9 (v:=str f.2) (eS (n:=f.2.length) Tryz.underlying9 rfl rfl rfl (by rw[List.length_append];omega)) (by rw[List.take_left])) rfl ?_;refine aA (cP tb66 aLA (.cons rfl rfl rfl (.cons .nil) (.cons rfl rfl rfl (.skip (.cons .nil)) .nil))) rfl ?_;refine ol_s (bN (z0:=[(str []),(str [])]) nU tz66 rfl rfl rfl rfl (.cons rfl rfl rfl (.cons (.cons .nil)) .nil)) rfl ?_;rintro _ K _ ⟨b67,rfl,rfl,rfl⟩ -;refine ol_s (dM (k:=dG) (ys:=[f]) qH rfl rfl aX (fun w j=>dB Tryz.underlying62 (SeesSl.at (k:=dG) (.blk (.own .here) rfl rfl) j)) (by show ((xs.take i).length+1)*32≤140737488355328;rw[List.length_take];have:=hok.2.2;omega) (by show (xs.take i).length+1≤9223372036854775807;rw[List.length_take];have:=hok.2.2;omega)) rfl ?_;rintro v68 K _ ⟨rfl,rfl,ho68⟩ -;refine uAb ?_;refine aG (aE ?_);refine uCf ?_;refine aA (j9 (v:=str (bodyC (xs.drop (i+1)))) (iG (m:=f.2.length) Tryz.underlying9 rfl rfl rfl (by rw[List.length_append];omega)) (by rw[List.drop_left])) rfl ?_;refine uAb ?_;refine aG (aN ?_);refine uAg ?_;refine dI (i+1) _ aI aI (.cons 5 rfl (.cons 7 rfl .nil)) rfl (fun _ h=>by rw[List.take_succ_eq_append_getElem hlt,←hxi];exact h)
  ·
   have hie:i=xs.length:=(Nat.lt_or_ge i xs.length).elim (fun h=>absurd (by rw[aKC (List.getElem?_eq_getElem h)];exact aP7 _ _) h35) (fun h=>by omega);subst hie;rw[List.take_length];refine uAp ?_;refine aE (aH ?_);refine uAf ?_;refine uAw ?_;refine aG (aE ?_);refine uDi ?_;refine e7 rfl rfl rfl (Hl.le_refl _) ?_;exact⟨_,rfl,_,rfl,rfl⟩
end Go.Proofs
end
section
namespace Go.Proofs
open Go Go.SL Go.Syn Go.Box Go.Mach
def qS(r:Except Int (List File)):Ending→Hl→List Asn→Prop:=Ret fun v K' L'=>match r with
 | .ok xs=>∃u,v=.tuple #[u,.nilIface]∧L'=[sl false dG u xs]
 | .error e=>v=.tuple #[.slice none 0 0,errV e]∧L'=[]
theorem aNZ(id text:aM)(v:Value)(acts:List Action)(K:Hl)(hg:Glob K)(hv:Ksl cY K v acts)(hid:id.length≤140737488355328)(ht:text.length≤1048576)(ha:∀a∈acts,a.2.length≤1048576)(hal:acts.length≤140737488355328):
  Sp Tryz.prog 78 [str id,v,str text] K [] (qS (gN id acts text)):=by
 refine aZ Tryz.func78 rfl Tryz.ntmps78 rfl rfl fun F w=>?_
 refine aH (aB ?_);refine uAw ?_;refine aG (aE ?_);refine aH (aH ?_);refine uAf ?_;refine uIl ?_;refine uAa ?_;refine cG 14 rfl (fun g14=>?_) (fun g14=>?_)
 ·
  refine uAc ?_;refine uFo ?_;refine uBj ?_;refine uFo ?_;refine uAc ?_;refine uAy ?_;refine aG (aE ?_);refine uGe ?_;refine aH (aB ?_);refine aA (cL Tryz.underlying30 (fun _ h=>by cases h) rfl) rfl ?_;refine uAw ?_;refine aG (aE ?_);refine uCk ?_;refine e7 rfl rfl rfl (Hl.le_refl _) ?_;have hb:pC id=true:=(by simp[pC,g14]);unfold qS gN;rw[if_pos hb];exact⟨_,rfl,rfl,rfl⟩
 ·
  refine uAi ?_;refine uBs ?_;refine uAz ?_;refine uEr ?_;refine uAt ?_;refine uAa ?_;refine cG 19 rfl (fun g19=>?_) (fun g19=>?_)
  ·
   refine uBj ?_;refine uFo ?_;refine uAc ?_;refine uAy ?_;refine aG (aE ?_);refine uGe ?_;refine aH (aB ?_);refine aA (cL Tryz.underlying30 (fun _ h=>by cases h) rfl) rfl ?_;refine uAw ?_;refine aG (aE ?_);refine uCk ?_;refine e7 rfl rfl rfl (Hl.le_refl _) ?_;have hb:pC id=true:=(by unfold pC;rw[decide_eq_true (show 8 < id.length by omega)];simp);unfold qS gN;rw[if_pos hb];exact⟨_,rfl,rfl,rfl⟩
  ·
   refine uAi ?_;refine cA rfl rfl (aDN [46,45] (by decide) (by decide) id aI _) rfl ?_;refine uAt ?_;refine uAa ?_;refine mW 23 rfl (fun g23=>?_) (fun g23=>?_)
   ·
    refine uAc ?_;refine uAy ?_;refine aG (aE ?_);refine uGe ?_;refine aH (aB ?_);refine aA (cL Tryz.underlying30 (fun _ h=>by cases h) rfl) rfl ?_;refine uAw ?_;refine aG (aE ?_);refine uCk ?_;refine e7 rfl rfl rfl (Hl.le_refl _) ?_;have hb:pC id=true:=(by unfold pC;rw[g23];simp);unfold qS gN;rw[if_pos hb];exact⟨_,rfl,rfl,rfl⟩
   ·
    refine uAi ?_;refine cA rfl rfl (pX id _ aI) rfl ?_;refine uAz ?_;refine aA (by first|exact dP rfl|exact dO rfl) rfl ?_;refine uAt ?_;refine aG (aE ?_);refine eJ 27 rfl (fun h27=>?_) (fun h27=>?_)
    ·
     refine aH (aB ?_);refine aA (cL Tryz.underlying30 (fun _ h=>by cases h) rfl) rfl ?_;refine uAw ?_;refine aG (aE ?_);refine uCk ?_;refine e7 rfl rfl rfl (Hl.le_refl _) ?_;have hb:pC id=true:=(by unfold pC;rw[h27];simp);unfold qS gN;rw[if_pos hb];exact⟨_,rfl,rfl,rfl⟩
    ·
     have hbad:pC id=false:=by simp only[pC,g14,g23,decide_false,Bool.false_or];rw[decide_eq_false aI];simpa using h27
     refine aW ?_;refine aE (aH ?_);refine aH (aB ?_);refine uAa ?_;refine aA (cB (k:=cY) rfl Tryz.underlying29 rfl (.known hv)) rfl ?_;refine uEr ?_;refine aG (aE ?_);refine bK 31 rfl (fun h31=>?_) (fun h31=>?_)
     ·
      refine aH (aB ?_);refine aA (cL Tryz.underlying30 (fun _ h=>by cases h) rfl) rfl ?_;refine uAw ?_;refine aG (aE ?_);refine uCk ?_;refine e7 rfl rfl rfl (Hl.le_refl _) ?_;unfold qS gN;rw[if_neg (by rw[hbad];simp),if_pos aI];exact⟨_,rfl,rfl,rfl⟩
     ·
      refine aW ?_;refine aE (aH ?_);refine uFr ?_;refine aG (aE ?_);refine aH (aH ?_);refine uAf ?_;refine aA (cB (k:=cY) rfl Tryz.underlying29 rfl (.known hv)) rfl ?_;refine uAa ?_;refine aG (aE ?_);refine bE ?_;have hfc:gN id acts text=tI [] (mU id text 0 (acts.drop 0)):=(by unfold gN;rw[if_neg (by rw[hbad];simp),if_neg aI,List.drop_zero];cases mU id text 0 acts <;> rfl);refine kJ (dX dG) ?_;refine mP (fun(i:Nat) (u:Value) (acc:List File)=>i≤acts.length∧acc.length=i∧gN id acts text=tI acc (mU id text i (acts.drop i))) (fun i u _=>[(0,str id),(2,str text),(8,u),(33,v),(34,i64 acts.length),(35,i64 i)]) (fun _ _ _=>K) (fun _ u acc=>[sl false dG u acc]) (fun i _ _=>acts.length - i) 0 (.slice none 0 0) [] ⟨Nat.zero_le _,rfl,hfc⟩ (.cons 0 rfl (.cons 2 rfl (.cons 8 rfl (.cons 33 rfl (.cons 34 rfl (.cons 35 rfl .nil)))))) rfl (fun _ h=>h) ?_;intro i u acc ⟨hi,hal2,hx⟩;refine aH (aB ?_);refine uBn ?_;refine aG (aE ?_);refine aH ?_;refine bK 36 rfl (fun h36=>?_) (fun h36=>?_)
      ·
       have hlt:i < acts.length:=by omega
       obtain⟨a,haa⟩:∃a,acts[i]?=some a:=⟨acts[i]'hlt,List.getElem?_eq_getElem hlt⟩;have hae:=ha a (List.mem_of_getElem? haa);have hil:=Lib.itoa_length_le (i:Int) aI aI;refine aW ?_;refine aE (aH ?_);refine bE (aH ?_);refine uAf ?_;refine aA (b0 (k:=cY) iS rfl (.known hv) rfl rfl (by first|assumption|omega)) rfl ?_;refine aA (eE (n:=0) (k:=cY) kD rfl (.known hv) haa) rfl ?_;refine ol_s (cN tz34) rfl ?_;rintro _ K _ ⟨b10,rfl,rfl,rfl⟩ -;refine uAb ?_;refine bP (cJ kD rfl rfl rfl aX (by first|(simp[Value.oneCell'];done)|exact fun c hc=>El.one _ _ c hc) (.cons (.cons .nil)) (by intro j hj;simp)) ?_;rintro _ K _ ⟨rfl,rfl⟩ -;refine aG (aE ?_);refine aH (aB ?_);refine uAa ?_;refine aA (fL rfl rfl (by first|(simp;omega)|omega)) rfl ?_;refine aA (fL rfl rfl (by first|(simp;omega)|omega)) rfl ?_;refine uAa ?_;refine cA rfl rfl (nO _ aI aI _ hg) rfl ?_;refine aA (fL rfl rfl (by first|(simp;omega)|omega)) rfl ?_;refine uAa ?_;refine aA (cP tb66 aLA (.cons rfl rfl rfl (.cons .nil) (.cons rfl rfl rfl (.skip (.cons .nil)) .nil))) rfl ?_;refine ol_s (cN tz66) rfl ?_;rintro _ K _ ⟨b11,rfl,rfl,rfl⟩ -;refine bP (cJ qF rfl rfl rfl aX (by first|(simp[Value.oneCell'];done)|exact fun c hc=>El.one _ _ c hc) (.cons (.cons .nil)) (by intro j hj;simp)) ?_;rintro _ K _ ⟨rfl,rfl⟩ -;refine aG (aE ?_);refine gS (fun(f:File)=>fM id text i a=.ok f) (fun _=>[(0,str id),(2,str text),(8,u),(11,ptr b11),(33,v),(34,i64 acts.length),(35,i64 i)]) (fun _=>K) (fun f=>[pt b11 (aU [str f.1,str f.2] 66),sl false dG u acc]) ?_ ?_
       ·
        refine aH (aB ?_);refine aA (aD (o':=0) fB rfl rfl) rfl ?_;refine uAn ?_;refine aG (aE ?_);refine bE (aH ?_);refine aB ?_;refine uCe ?_;refine aG (aE ?_);refine bK 51 rfl (fun h51=>?_) (fun h51=>?_)
        ·
         refine uAf ?_;refine aA (fL rfl rfl (by first|(simp;omega)|omega)) rfl ?_;refine aA (aD (o':=0) rS rfl rfl) rfl ?_;refine uGa ?_;rintro _ K _ ⟨rfl,rfl⟩ -;refine aG (aN ?_);refine uFs ?_
         first|exact bZ (xK++id,text) (by simp only[fM];rw[if_pos h51]) (.cons 0 rfl (.cons 2 rfl (.cons 8 rfl (.cons 11 rfl (.cons 33 rfl (.cons 34 rfl (.cons 35 rfl .nil))))))) rfl (fun _ h=>h)|exact bZ (boxP++a.2++xO++id,text) (by simp only[fM];rw[if_neg h51,if_pos h56,if_pos (by simpa using h61)]) (.cons 0 rfl (.cons 2 rfl (.cons 8 rfl (.cons 11 rfl (.cons 33 rfl (.cons 34 rfl (.cons 35 rfl .nil))))))) rfl (fun _ h=>h)|exact bZ (outN id i,toP++a.2++[10]++text) (by simp only[fM];rw[if_neg h51,if_neg h56,if_pos h70]) (.cons 0 rfl (.cons 2 rfl (.cons 8 rfl (.cons 11 rfl (.cons 33 rfl (.cons 34 rfl (.cons 35 rfl .nil))))))) rfl (fun _ h=>h)|exact bZ (outN id i,rejP++a.2++[10]++text) (by simp only[fM];rw[if_neg h51,if_neg h56,if_neg h70,if_pos h79]) (.cons 0 rfl (.cons 2 rfl (.cons 8 rfl (.cons 11 rfl (.cons 33 rfl (.cons 34 rfl (.cons 35 rfl .nil))))))) rfl (fun _ h=>h)
        ·
         refine aH (aB ?_);refine uCe ?_;refine aG (aE ?_);refine bK 56 rfl (fun h56=>?_) (fun h56=>?_)
         ·
          refine aH (aH ?_);refine aB ?_;refine uIj ?_;refine cA rfl rfl (pX a.2 _ aI) rfl ?_;refine aA (by first|exact dP rfl|exact dO rfl) rfl ?_;refine aG (aE ?_);refine eJ 61 rfl (fun h61=>?_) (fun h61=>?_)
          ·
           refine aH (aB ?_);refine aA (cL Tryz.underlying30 (fun _ h=>by cases h) rfl) rfl ?_;refine uAw ?_;refine aG (aE ?_);refine uCk ?_;refine bS ?_;refine a7 ?_;refine aO .nil ?_;refine e7 rfl rfl rfl (Hl.le_refl _) ?_;rw[hx,aB0 haa (e:=8) (by simp only[fM];rw[if_neg h51,if_pos h56,if_neg (by simpa using h61)])];exact⟨_,rfl,rfl,rfl⟩
          ·
           refine aW ?_;refine aE (aB ?_);refine uIj ?_;refine aA (fL rfl rfl (by first|(simp;omega)|omega)) rfl ?_;refine aA (fL rfl rfl (by first|(simp;omega)|omega)) rfl ?_;refine uAa ?_;refine aA (fL rfl rfl (by first|(simp;omega)|omega)) rfl ?_;refine aA (aD (o':=0) rS rfl rfl) rfl ?_;refine uGa ?_;rintro _ K _ ⟨rfl,rfl⟩ -;refine aG (aN ?_);refine uFs ?_
           first|exact bZ (xK++id,text) (by simp only[fM];rw[if_pos h51]) (.cons 0 rfl (.cons 2 rfl (.cons 8 rfl (.cons 11 rfl (.cons 33 rfl (.cons 34 rfl (.cons 35 rfl .nil))))))) rfl (fun _ h=>h)|exact bZ (boxP++a.2++xO++id,text) (by simp only[fM];rw[if_neg h51,if_pos h56,if_pos (by simpa using h61)]) (.cons 0 rfl (.cons 2 rfl (.cons 8 rfl (.cons 11 rfl (.cons 33 rfl (.cons 34 rfl (.cons 35 rfl .nil))))))) rfl (fun _ h=>h)|exact bZ (outN id i,toP++a.2++[10]++text) (by simp only[fM];rw[if_neg h51,if_neg h56,if_pos h70]) (.cons 0 rfl (.cons 2 rfl (.cons 8 rfl (.cons 11 rfl (.cons 33 rfl (.cons 34 rfl (.cons 35 rfl .nil))))))) rfl (fun _ h=>h)|exact bZ (outN id i,rejP++a.2++[10]++text) (by simp only[fM];rw[if_neg h51,if_neg h56,if_neg h70,if_pos h79]) (.cons 0 rfl (.cons 2 rfl (.cons 8 rfl (.cons 11 rfl (.cons 33 rfl (.cons 34 rfl (.cons 35 rfl .nil))))))) rfl (fun _ h=>h)
         ·
          refine aH (aB ?_);refine uCe ?_;refine aG (aE ?_);refine bK 70 rfl (fun h70=>?_) (fun h70=>?_)
          ·
           refine aB ?_;refine uIj ?_;refine aA (fL rfl rfl (by first|(simp;omega)|omega)) rfl ?_;refine aA (fL rfl rfl (by first|(simp;omega)|omega)) rfl ?_;refine uAa ?_;refine aA (fL rfl rfl (by first|(simp;omega)|omega)) rfl ?_;refine aA (aD (o':=1) pN rfl rfl) rfl ?_;refine bP (bH ts9 rfl rfl cD aX (.succ .zero) rfl) ?_;rintro _ K _ ⟨rfl,rfl⟩ -;refine aG (aN ?_);refine uFs ?_
           first|exact bZ (xK++id,text) (by simp only[fM];rw[if_pos h51]) (.cons 0 rfl (.cons 2 rfl (.cons 8 rfl (.cons 11 rfl (.cons 33 rfl (.cons 34 rfl (.cons 35 rfl .nil))))))) rfl (fun _ h=>h)|exact bZ (boxP++a.2++xO++id,text) (by simp only[fM];rw[if_neg h51,if_pos h56,if_pos (by simpa using h61)]) (.cons 0 rfl (.cons 2 rfl (.cons 8 rfl (.cons 11 rfl (.cons 33 rfl (.cons 34 rfl (.cons 35 rfl .nil))))))) rfl (fun _ h=>h)|exact bZ (outN id i,toP++a.2++[10]++text) (by simp only[fM];rw[if_neg h51,if_neg h56,if_pos h70]) (.cons 0 rfl (.cons 2 rfl (.cons 8 rfl (.cons 11 rfl (.cons 33 rfl (.cons 34 rfl (.cons 35 rfl .nil))))))) rfl (fun _ h=>h)|exact bZ (outN id i,rejP++a.2++[10]++text) (by simp only[fM];rw[if_neg h51,if_neg h56,if_neg h70,if_pos h79]) (.cons 0 rfl (.cons 2 rfl (.cons 8 rfl (.cons 11 rfl (.cons 33 rfl (.cons 34 rfl (.cons 35 rfl .nil))))))) rfl (fun _ h=>h)
          ·
           refine aH (aB ?_);refine uCe ?_;refine aG (aE ?_);refine bK 79 rfl (fun h79=>?_) (fun h79=>?_)
           ·
            refine aB ?_;refine uIj ?_;refine aA (fL rfl rfl (by first|(simp;omega)|omega)) rfl ?_;refine aA (fL rfl rfl (by first|(simp;omega)|omega)) rfl ?_;refine uAa ?_;refine aA (fL rfl rfl (by first|(simp;omega)|omega)) rfl ?_;refine aA (aD (o':=1) pN rfl rfl) rfl ?_;refine bP (bH ts9 rfl rfl cD aX (.succ .zero) rfl) ?_;rintro _ K _ ⟨rfl,rfl⟩ -;refine aG (aN ?_);refine uFs ?_
            first|exact bZ (xK++id,text) (by simp only[fM];rw[if_pos h51]) (.cons 0 rfl (.cons 2 rfl (.cons 8 rfl (.cons 11 rfl (.cons 33 rfl (.cons 34 rfl (.cons 35 rfl .nil))))))) rfl (fun _ h=>h)|exact bZ (boxP++a.2++xO++id,text) (by simp only[fM];rw[if_neg h51,if_pos h56,if_pos (by simpa using h61)]) (.cons 0 rfl (.cons 2 rfl (.cons 8 rfl (.cons 11 rfl (.cons 33 rfl (.cons 34 rfl (.cons 35 rfl .nil))))))) rfl (fun _ h=>h)|exact bZ (outN id i,toP++a.2++[10]++text) (by simp only[fM];rw[if_neg h51,if_neg h56,if_pos h70]) (.cons 0 rfl (.cons 2 rfl (.cons 8 rfl (.cons 11 rfl (.cons 33 rfl (.cons 34 rfl (.cons 35 rfl .nil))))))) rfl (fun _ h=>h)|exact bZ (outN id i,rejP++a.2++[10]++text) (by simp only[fM];rw[if_neg h51,if_neg h56,if_neg h70,if_pos h79]) (.cons 0 rfl (.cons 2 rfl (.cons 8 rfl (.cons 11 rfl (.cons 33 rfl (.cons 34 rfl (.cons 35 rfl .nil))))))) rfl (fun _ h=>h)
           ·
            refine aH (aB ?_);refine aA (cL Tryz.underlying30 (fun _ h=>by cases h) rfl) rfl ?_;refine uAw ?_;refine aG (aE ?_);refine uCi ?_;refine aO .nil ?_;refine e7 rfl rfl rfl (Hl.le_refl _) ?_;rw[hx,aB0 haa (e:=7) (by simp only[fM];rw[if_neg h51,if_neg h56,if_neg h70,if_neg h79])];exact⟨_,rfl,rfl,rfl⟩
       ·
        intro f hff;refine uAf ?_;refine aA (bX qF rfl aL rfl rfl) rfl ?_;refine ol_s (bN (z0:=[(str []),(str [])]) nU tz66 rfl rfl rfl rfl (.cons rfl rfl rfl (.cons (.cons .nil)) .nil)) rfl ?_;rintro _ K _ ⟨b90,rfl,rfl,rfl⟩ -;refine ol_s (dM (k:=dG) (ys:=[f]) qH rfl rfl aX (fun w j=>dB Tryz.underlying62 (SeesSl.at (k:=dG) (.blk (.own .here) rfl rfl) j)) (by show (acc.length+1)*32≤140737488355328;omega) (by show acc.length+1≤9223372036854775807;omega)) rfl ?_;rintro v91 K _ ⟨rfl,rfl,ho91⟩ -;refine uAb ?_;refine aG (aN ?_);refine aE (aB ?_);refine uAo ?_;refine uAg ?_;exact fU (i+1) _ (acc++[f]) ⟨by omega,by simp[hal2],by rw[hx];exact aQF haa hff⟩ aI (.cons 0 rfl (.cons 2 rfl (.cons 8 rfl (.cons 33 rfl (.cons 34 rfl (.cons 35 rfl .nil)))))) rfl (fun _ h=>h)
      ·
       have hie:i=acts.length:=by omega
       subst hie;rw[List.drop_length,mU]at hx;simp only[tI,List.append_nil]at hx;refine uAp ?_;refine aE (aH ?_);refine uAf ?_;refine uAw ?_;refine aG (aE ?_);refine uDi ?_;refine e7 rfl rfl rfl (Hl.le_refl _) ?_;rw[hx];exact⟨_,rfl,_,rfl,rfl⟩
end Go.Proofs
end
section
namespace Go.Proofs
open Go Go.SL Go.Syn Go.Box
def aB5(es:List Ent)(seen:List Nat):Nat:=(es.filter fun e=>!seen.contains e.2.2).length
theorem aGG{es:List Ent}{seen:List Nat}{e:Ent}(he:e∈es)(hn:e.2.2∉seen):aB5 es (seen++[e.2.2]) < aB5 es seen:=by
 have hs:(es.filter fun e'=>!(seen++[e.2.2]).contains e'.2.2).Sublist (es.filter fun e'=>!seen.contains e'.2.2):=by
  have:(es.filter fun e'=>!(seen++[e.2.2]).contains e'.2.2)=(es.filter fun e'=>!seen.contains e'.2.2).filter fun e'=>!(seen++[e.2.2]).contains e'.2.2:=by
   rw[List.filter_filter]
   congr 1;funext e'
   simp only[List.contains_eq_mem,List.mem_append,List.mem_singleton]
   by_cases h1:e'.2.2∈seen <;> simp[h1]
  rw[this];exact List.filter_sublist
 rcases Nat.lt_or_ge (aB5 es (seen++[e.2.2])) (aB5 es seen)with h|h
 ·exact h
 ·have e1:=hs.eq_of_length_le h;have:e∈es.filter fun e'=>!(seen++[e.2.2]).contains e'.2.2:=by rw[e1];exact List.mem_filter.2 ⟨he,by simpa using hn⟩
  have:=(List.mem_filter.1 this).2;simp at this
structure PartOk (es:List Ent) (seen:List Nat) (es2:List Ent) (c2:Nat):Prop where
 fresh:Fresh es2 c2
 nd:(es2.map (·.1)).Nodup
 get:∀n,mget es2 n=((es.find? fun e=>decide (n=e.1)).bind fun e=>if e.2.2∈seen then some e.2.1 else none)
theorem PartOk.nil{es:List Ent}:PartOk es [] [] 0:=⟨Fresh.nil,List.nodup_nil,fun n=>by cases h:es.find? fun e=>decide (n=e.1) <;> simp[mget,h]⟩
theorem uX{es:List Ent}{e:Ent}(nd:(es.map (·.1)).Nodup)(he:e∈es):(es.find? fun e'=>decide (e.1=e'.1))=some e:=by
 induction es with
 |nil=>cases he
 |cons a r ih=>
  have nd':=List.nodup_cons.1 nd;rcases List.mem_cons.1 he with rfl|h
  ·simp
  ·have:¬e.1=a.1:=fun h2=>nd'.1 (by have:=List.mem_map_of_mem (f:=fun x:Ent=>x.1) h;rw[h2]at this;exact this)
   rw[List.find?_cons_of_neg (by simpa using this)];exact ih nd'.2 h
theorem PartOk.step{es:List Ent}{seen:List Nat}{es2:List Ent}{c2:Nat}{e:Ent}(nd:(es.map (·.1)).Nodup)(ndb:(es.map (·.2.2)).Nodup)(h:PartOk es seen es2 c2)(he:e∈es):PartOk es (seen++[e.2.2]) (mset e.1 e.2.1 c2 es2) (qO es2 e.1 c2):=by
 refine⟨h.fresh.set,aGF h.nd,fun n=>?_⟩
 rw[wG]
 by_cases hn:n=e.1
 ·subst hn;rw[if_pos rfl,uX nd he];simp
 ·rw[if_neg hn,h.get];cases hf:es.find? fun e'=>decide (n=e'.1)with
  |none=>rfl
  |some e'=>
   have hm:=List.mem_of_find?_eq_some hf;have hk:n=e'.1:=by simpa using List.find?_some hf
   have hb:e'.2.2≠e.2.2:=fun hb=>by
    have:e'=e:=by
     have key:∀(l:List Ent),(l.map (·.2.2)).Nodup→e'∈l→e∈l→e'=e:=by
      intro l;induction l with
      |nil=>intro _ h;cases h
      |cons a r ih=>
       intro nd h1 h2;have nd':=List.nodup_cons.1 nd;rcases List.mem_cons.1 h1 with e1|g1 <;> rcases List.mem_cons.1 h2 with e2|g2
       ·exact e1.trans e2.symm
       ·exact absurd (by have:=List.mem_map_of_mem (f:=fun e:Ent=>e.2.2) g2;rw[←hb,e1]at this;exact this) nd'.1
       ·exact absurd (by have:=List.mem_map_of_mem (f:=fun e:Ent=>e.2.2) g1;rw[hb,e2]at this;exact this) nd'.1
       ·exact ih nd'.2 g1 g2
     exact key es ndb hm he
    exact hn (by rw[hk,this])
   simp[hb]
theorem PartOk.full{K:Hl}{es:List Ent}{c:Nat}{seen:List Nat}{es2:List Ent}{c2:Nat}{f:DMap}(hm:MapOk K es c f)(h:PartOk es seen es2 c2)(hall:∀e∈es,e.2.2∈seen):MapOk K es2 c2 f:=by
 have hg:∀n,mget es2 n=mget es n:=fun n=>by
  rw[h.get];cases hf:es.find? fun e=>decide (n=e.1)with
  |none=>simp[mget,hf]
  |some e=>simp[mget,hf,hall e (List.mem_of_find?_eq_some hf)]
 exact⟨h.fresh,h.nd,fun n v e=>hm.has n v (by rw[←hg];exact e),fun n e=>hm.lacks n (by rw[←hg];exact e)⟩
theorem aSW(b m1:Nat)(es1:List Ent)(c1:Nat)(nv pv:Value)(l f:Int)(dn:Bool)(dur:DMap)(K:Hl)(hm1:MapOk K es1 c1 dur):Sp Tryz.prog 77 [ptr b] K [pt b (dskO (.map (some m1)) nv pv l f dn),pt m1 (mapO es1 c1)]
  (Ret fun r K' L'=>r=.tuple #[]∧K'=K∧L'=[dsk K' b ⟨dur,dur,[],l,f,false⟩]):=by
 refine aZ Tryz.func77 rfl Tryz.ntmps77 rfl rfl fun F w=>?_
 refine aH (aB ?_);refine uAa ?_;refine ol_s nQ rfl ?_;rintro _ K _ ⟨b5,rfl,rfl,rfl⟩ -;refine uEw ?_;refine aA (aD (o':=1) lA rfl rfl) rfl ?_;refine bP (bH nD rfl rfl cD aX (.succ .zero) rfl) ?_;rintro _ K _ ⟨rfl,rfl⟩ -;refine aG (aE ?_);refine aH (aH ?_);refine uBv ?_;refine aA (aD (o':=0) kZ rfl rfl) rfl ?_;refine aA (aJ nD rfl aL rfl) rfl ?_;refine ol_s (aAK Tryz.underlying107 rfl aL) rfl ?_;rintro _ K _ ⟨b12,rfl,rfl,rfl⟩ -;refine aG (aE ?_);refine bE ?_;refine aAT (.cons .here (.cons (.there .here) (.cons .here (.cons .here .nil)))) ?_;refine mP (fun(seen:List Nat) (es3:List Ent) (c3:Nat)=>PartOk es1 seen es3 c3) (fun _ _ _=>[(0,ptr b),(12,ptr b12)]) (fun _ _ _=>K) (fun seen es3 c3=>[mit b12 m1 c1 seen c1,pt b (dskO (.map (some m1)) (.map (some b5)) pv l f dn),pt b5 (mapO es3 c3),pt m1 (mapO es1 c1)]) (fun seen _ _=>aB5 es1 seen) [] [] 0 PartOk.nil (.cons 0 rfl (.cons 12 rfl .nil)) rfl (fun _ h=>h) ?_;intro seen es3 c3 hpo;refine aH (aB ?_);refine ol_s (aCM (m:=m1) rfl aL hm1.fresh (fun _=>aX)) rfl ?_;rintro _ K _ ⟨rfl,hN13⟩ -;rcases hN13 with ⟨rfl,rfl,hall⟩|⟨e,he,hne,rfl,rfl⟩
 ·
  refine uGw ?_;refine aG (aE ?_);refine aH ?_;refine uHq ?_;refine uAp ?_;refine aE (aH ?_);refine uBv ?_;refine aA (aD (o':=2) iR rfl rfl) rfl ?_;refine bP (bH rV rfl rfl cD aX (.succ (.succ .zero)) rfl) ?_;rintro _ K _ ⟨rfl,rfl⟩ -;refine aG (aE ?_);refine uBv ?_;refine aA (aD (o':=5) jI rfl rfl) rfl ?_;refine uDt ?_;rintro _ K _ ⟨rfl,rfl⟩ -;refine aG ?_;refine dN (dX opEl) ?_;refine aO (.cons (.there (.there .here)) (.cons (.there (.there (.there .here))) (.cons (.there (.there .here)) (.cons .here .nil)))) ?_;refine dN (kT (s:=⟨dur,dur,[],l,f,false⟩) ⟨m1,b5,es1,c1,es3,c3,_,hm1,hpo.full hm1 hall,(fun o h=>by cases h),rfl,rfl⟩) ?_;refine dD rfl (Hl.le_refl _) ?_;exact⟨_,rfl,rfl,rfl,rfl⟩
 ·
  refine uGw ?_;refine aG (aE ?_);refine aH ?_;refine uGe ?_;refine aW ?_;refine aE (bE ?_);refine aH (aB ?_);refine aA (xI (m:=m1) rfl aL hm1.fresh he (by first|exact .here|exact .there .here|exact .there (.there .here)|exact .there (.there (.there .here))|exact .there (.there (.there (.there .here)))|exact .there (.there (.there (.there (.there .here)))))) rfl ?_;refine uAh ?_;refine uAw ?_;refine aG (aE ?_);refine uGz ?_;refine uAx ?_;refine bP (aK2 Tryz.underlying107 Tryz.underlying9 rfl rfl rfl aX) ?_;rintro _ K _ ⟨rfl,rfl⟩ -;refine aG (aN ?_);exact fU (seen++[e.2.2]) _ _ (hpo.step hm1.nd hm1.fresh.nd he) (aGG he hne) (.cons 0 rfl (.cons 12 rfl .nil)) rfl (fun _ h=>h)
end Go.Proofs
end
section
namespace Go.Proofs
open Go Go.SL Go.Syn Go.Box
def xX(f:DMap)(ys:List iZ):Prop:=(∀n d,(n,d)∈ys↔f n=some d)∧ys.Pairwise fun a b=>a.1 < b.1
def uH(K:Hl)(es:List Ent)(seen:List Nat)(xs:List iZ):Prop:=(xs.map (·.1)).Nodup∧∀n d,(n,d)∈xs↔∃e∈es,e.2.2∈seen∧e.1=n∧qT K e.2.1 d
def kW(xs:List iZ)(f:DMap):DMap:=xs.foldl (fun f x=>f.put x.1 x.2) f
theorem aWZ(v:Value)(xs:List iZ)(K:Hl)(hv:Ksl dG K v xs)(hn:xs.length≤1000000):Sp Tryz.prog 45 [v] K []
  (Ret fun r K' L'=>∃b,r=ptr b∧L'=[dsk K' b ⟨kW xs (fun _=>none),kW xs (fun _=>none),[],-1,-1,false⟩]):=by
 refine aZ Tryz.func45 rfl Tryz.ntmps45 rfl rfl fun F w=>?_
 refine aH (aB ?_);refine uAb ?_;refine aG (aE ?_);refine aH (aB ?_);refine ol_s nQ rfl ?_;rintro _ K _ ⟨b7,rfl,rfl,rfl⟩ -;refine aA (cP aYU aXF (.cons rfl rfl rfl (.cons .nil) (.cons rfl rfl rfl (.skip (.skip (.skip (.cons .nil)))) (.cons rfl rfl rfl (.skip (.skip (.skip (.skip (.cons .nil))))) .nil)))) rfl ?_;refine uBk ?_;rintro _ K _ ⟨b9,rfl,rfl,rfl⟩ -;refine uAb ?_;refine aG (aE ?_);refine aH (aH ?_);refine uAf ?_;refine aA (cB (k:=dG) rfl Tryz.underlying62 rfl (.known hv)) rfl ?_;refine uAa ?_;refine aG (aE ?_);refine bE ?_;refine sN (fun(i:Nat) (K2:Hl) (es:List Ent) (c:Nat)=>i≤xs.length∧K.le K2∧MapOk K2 es c (kW (xs.take i) (fun _=>none))) (fun i _ _ _=>[(3,ptr b9),(10,v),(11,i64 xs.length),(12,i64 i)]) (fun _ K2 _ _=>K2) (fun _ _ es c=>[pt b9 (dskO (.map (some b7)) (.map none) (.slice none 0 0) (-1) (-1) false),pt b7 (mapO es c)]) (fun i _ _ _=>xs.length - i) 0 K [] 0 ⟨Nat.zero_le _,Hl.le_refl _,MapOk.nil⟩ (.cons 3 rfl (.cons 10 rfl (.cons 11 rfl (.cons 12 rfl .nil)))) rfl (fun _ h=>h) ?_;intro i K2 es c ⟨hi,leL,hmi⟩;refine aH (aB ?_);refine uBn ?_;refine aG (aE ?_);refine aH ?_;refine bK 13 rfl (fun h13=>?_) (fun h13=>?_)
 ·
  have hlt:i < xs.length:=by omega
  obtain⟨o,hx⟩:∃o,xs[i]?=some o:=⟨xs[i]'hlt,List.getElem?_eq_getElem hlt⟩;have hv2:=hv.mono leL;refine aW ?_;refine aE (aH ?_);refine bE (aH ?_);refine aB ?_;refine aA (b0 (k:=dG) nU rfl (.known hv2) rfl rfl (by first|assumption|omega)) rfl ?_;refine aA (eE (n:=0) (k:=dG) qF rfl (.known hv2) bU) rfl ?_;refine ol_s (cN tz66) rfl ?_;rintro _ K _ ⟨b5,rfl,rfl,rfl⟩ -;refine bP (cJ qF rfl rfl rfl aX (by first|(simp[Value.oneCell'];done)|exact fun c hc=>El.one _ _ c hc) (.cons (.cons .nil)) (by intro j hj;simp)) ?_;rintro _ K _ ⟨rfl,rfl⟩ -;refine aG (aE ?_);refine aH (aB ?_);refine aA (aD (o':=1) pN rfl rfl) rfl ?_;refine uBl ?_;refine ol_s (cN tz9) rfl ?_;rintro _ K _ ⟨b6,rfl,rfl,rfl⟩ -;refine uGa ?_;rintro _ K _ ⟨rfl,rfl⟩ -;refine aG (aE ?_);refine jD fun K3 le3 hb6=>?_
  refine t_draw (anc:=[0,1,3,7,0,16,63]) (ord:=[0,1,2,3,4,5,6]) [6] [6] mixed (by decide+kernel) (cS _) ?_;refine uBx ?_;refine dl_ev rfl rfl (.none rfl) rfl rfl (aD (o':=0) rS rfl rfl) rfl ?_;refine uBa ?_;refine kH rfl rfl (.none rfl) rfl (aK2 Tryz.underlying107 Tryz.underlying9 rfl rfl rfl aX) ?_;rintro _ K _ ⟨rfl,rfl⟩ -;refine dl_nil ?_;refine aN (aE ?_);refine uDj ?_;refine aO (.cons (.there .here) (.cons (.there .here) .nil)) ?_;exact o9 (i+1) _ _ _ ⟨hlt,Hl.le_trans leL le3,by rw[List.take_succ_eq_append_getElem hlt];rw[List.getElem?_eq_getElem hlt]at hx;cases hx;unfold kW;rw[List.foldl_append];exact(hmi.mono le3).put ⟨_,_,_,rfl,hb6⟩⟩ aI (.cons 3 rfl (.cons 10 rfl (.cons 11 rfl (.cons 12 rfl .nil)))) rfl (fun _ h=>h)
 ·
  have hie:i=xs.length:=by omega
  subst hie;rw[List.take_length]at hmi;refine uAp ?_;refine aE (aH ?_);refine uAf ?_;refine bC rfl rfl (aSW b9 b7 es c _ _ (-1) (-1) false _ _ hmi) (.cons .here (.cons .here .nil)) rfl ?_;rintro _ K5 _ ⟨rfl,rfl,rfl⟩ -;refine aG (aE ?_);refine aH (aB ?_);refine uEj ?_;refine aG (aE ?_);refine uDi ?_;refine bF rfl rfl leL ?_;exact⟨_,rfl,b9,rfl,rfl⟩
end Go.Proofs
end
section
namespace Go.Proofs
open Go Go.SL Go.Syn Go.Box
theorem rG{α:Type}[DecidableEq α]:∀ {l ns:List α},l.Nodup→(∀x∈l,x∈ns)→l.length≤ns.length
 | [],_,_,_=>Nat.zero_le _
 |a::r,ns,nd,h=>by
  have nd':=List.nodup_cons.1 nd;have ha:=h a List.mem_cons_self;have:=rG (ns:=ns.erase a) nd'.2 fun x hx=>(List.mem_erase_of_ne (fun e:x=a=>nd'.1 (by rw[←e];exact hx))).2 (h x (List.mem_cons_of_mem _ hx))
  rw[List.length_erase_of_mem ha]at this;have:=List.length_pos_of_mem ha;simp only[List.length_cons];omega
def aBO(f:DMap)(ns:List aM):Prop:=∀n,(f n).isSome=true→n∈ns
theorem aTY{K:Hl}{es:List Ent}{c:Nat}{f:DMap}{ns:List aM}(hm:MapOk K es c f)(hd:aBO f ns):es.length≤ns.length:=by
 have:=rG (ns:=ns) hm.nd fun x hx=>hd x (by rw[←hm.isSome x];exact(rE es).2 hx)
 simpa using this
theorem aGT{K:Hl}{es:List Ent}{seen:List Nat}{xs:List iZ}(h:uH K es seen xs):xs.length≤es.length:=by
 have:=rG (ns:=es.map (·.1)) h.1 fun x hx=>by
  obtain⟨⟨n,d⟩,hm,rfl⟩:=List.mem_map.1 hx;obtain⟨e,he,_,rfl,_⟩:=(h.2 n d).1 hm;exact List.mem_map_of_mem (f:=fun e:Ent=>e.1) he
 simpa using this
theorem qT.one{K:Hl}{v:Value}{d d':aM}(h:qT K v d)(h':qT K v d'):d=d':=by
 obtain⟨b,T,fz,rfl,hb⟩:=h;obtain⟨b',T',fz',e,hb'⟩:=h';have:b=b':=by injection e with e;injection e with e;injection e
 subst this;rw[hb]at hb'
 injection hb' with e2;injection e2 with e3 e4 e5
 have:=congrArg Array.toList e3;simp at this;exact this
theorem rF{es:List Ent}{e:Ent}(nd:(es.map (·.1)).Nodup)(he:e∈es):mget es e.1=some e.2.1:=by
 unfold mget;rw[uX nd he];rfl
theorem uH.nil{K:Hl}{es:List Ent}:uH K es [] []:=⟨List.nodup_nil,fun n d=>by simp⟩
theorem uH.step{K:Hl}{es:List Ent}{c:Nat}{f:DMap}{seen:List Nat}{xs:List iZ}{e:Ent}{d:aM}(hm:MapOk K es c f)(h:uH K es seen xs)(he:e∈es)(hn:e.2.2∉seen)(hd:qT K e.2.1 d):uH K es (seen++[e.2.2]) (xs++[(e.1,d)]):=by
 have hnew:e.1∉xs.map (·.1):=by
  intro hx;obtain⟨⟨n,d'⟩,hmm,e1⟩:=List.mem_map.1 hx;obtain⟨e',he',hs',hn',_⟩:=(h.2 n d').1 hmm;have e1':n=e.1:=e1;have:e'=e:=by
   have a:=uX hm.nd he;have b:=uX hm.nd he'
   rw[hn',e1']at b;rw[a]at b;injection b with b;exact b.symm
  exact hn (this▸hs')
 refine⟨?_,fun n d'=>?_⟩
 ·rw[List.map_append,List.nodup_append];refine⟨h.1,by simp,fun a ha b hb=>?_⟩
  rintro rfl;simp at hb;subst hb;exact hnew ha
 ·rw[List.mem_append,h.2]
  constructor
  ·rintro(⟨e',he',hs',hn',hd'⟩|hq)
   ·exact⟨e',he',List.mem_append_left _ hs',hn',hd'⟩
   ·rw[List.mem_singleton]at hq;cases hq
    exact⟨e,he,List.mem_append_right _ (List.mem_singleton.2 rfl),rfl,hd⟩
  ·rintro⟨e',he',hs',hn',hd'⟩;rcases List.mem_append.1 hs' with hs'|hs'
   ·exact .inl ⟨e',he',hs',hn',hd'⟩
   ·rw[List.mem_singleton]at hs';have:e'=e:=by
     have key:∀(l:List Ent),(l.map (·.2.2)).Nodup→e'∈l→e∈l→e'=e:=by
      intro l;induction l with
      |nil=>intro _ h;cases h
      |cons a r ih=>
       intro nd h1 h2;have nd':=List.nodup_cons.1 nd;rcases List.mem_cons.1 h1 with e1|g1 <;> rcases List.mem_cons.1 h2 with e2|g2
       ·exact e1.trans e2.symm
       ·exact absurd (by have:=List.mem_map_of_mem (f:=fun e:Ent=>e.2.2) g2;rw[←hs',e1]at this;exact this) nd'.1
       ·exact absurd (by have:=List.mem_map_of_mem (f:=fun e:Ent=>e.2.2) g1;rw[hs',e2]at this;exact this) nd'.1
       ·exact ih nd'.2 g1 g2
     exact key es hm.fresh.nd he' he
    subst this;rw[←hn',hd'.one hd];exact .inr (List.mem_singleton.2 rfl)
theorem aIU{K:Hl}{es:List Ent}{c:Nat}{f:DMap}{seen:List Nat}{xs ys:List iZ}(hm:MapOk K es c f)(h:uH K es seen xs)(hall:∀e∈es,e.2.2∈seen)(hp:ys.Perm xs)(ho:sB ys):xX f ys:=by
 refine⟨fun n d=>?_,?_⟩
 ·rw[hp.mem_iff,h.2]
  constructor
  ·rintro⟨e,he,_,rfl,hd⟩;obtain⟨d',h1,h2⟩:=hm.has _ _ (rF hm.nd he);rw[h1,hd.one h2]
  ·intro hf;cases hg:mget es n with
   |none=>rw[hm.lacks n hg]at hf;cases hf
   |some v=>
    obtain⟨d',h1,h2⟩:=hm.has _ _ hg;have hk:=(rE (k:=n) es).1 (by rw[hg];rfl);obtain⟨e,he,rfl⟩:=List.mem_map.1 hk;rw[rF hm.nd he]at hg;cases hg
    rw[h1]at hf;cases hf
    exact⟨e,he,hall e he,rfl,h2⟩
 ·have nd:(ys.map (·.1)).Nodup:=(hp.map _).nodup_iff.2 h.1;rw[List.Nodup,List.pairwise_map]at nd;refine(ho.and nd).imp ?_;rintro a b ⟨h1,h2⟩;rcases List.le_iff_lt_or_eq.1 (List.not_lt.1 h1)with h|h
  ·exact h
  ·exact absurd h h2
theorem aQG(b:Nat)(s:DSt)(ns:List aM)(hdom:aBO s.dur ns)(hns:ns.length≤1000000)(K K0:Hl)(le:K0.le K):Sp Tryz.prog 49 [ptr b] K [dsk K0 b s]
  (Ret fun r K' L'=>K'=K∧∃ys,xX s.dur ys∧L'=[sl false dG r ys,dsk K' b s]):=by
 refine aAR ⟨_,Tryz.func49,rfl,rfl⟩ fun L hd=>?_
 rw[List.append_nil];obtain⟨m1,m2,es1,c1,es2,c2,pv,hm1,hm2,hop,hpv,rfl⟩:=hd;obtain⟨dur,now,pend,l,f,dn⟩:=s;simp only at hm1 hm2 hop hdom;have hm1':=hm1.mono le;have hkl:=aTY hm1 hdom;refine aZ Tryz.func49 rfl Tryz.ntmps49 rfl rfl fun F w=>?_
 refine aH (aB ?_);refine uAb ?_;refine aG (aE ?_);refine aH (aB ?_);refine ol_s (cN tz62) rfl ?_;rintro _ K _ ⟨b3,rfl,rfl,rfl⟩ -;refine aG (aE ?_);refine aH (aH ?_);refine uBv ?_;refine aA (aD (o':=0) kZ rfl rfl) rfl ?_;refine aA (aJ nD rfl aL rfl) rfl ?_;refine ol_s (aAK Tryz.underlying107 rfl aL) rfl ?_;rintro _ K _ ⟨b10,rfl,rfl,rfl⟩ -;refine aG (aE ?_);refine bE ?_;refine kJ (dX dG) ?_;refine aAT (.cons (.there .here) (.cons (.there .here) (.cons .here (.cons .here (.cons .here (.cons .here (.cons .here .nil))))))) ?_;refine mP (fun(seen:List Nat) (xs:List iZ) (v:Value)=>uH K es1 seen xs∧v.oneCell'=true) (fun _ _ _=>[(0,ptr b),(3,ptr b3),(10,ptr b10)]) (fun _ _ _=>K) (fun seen xs v=>[mit b10 m1 c1 seen c1,pt b3 (aU [v] 62),sl false dG v xs,pt b (dskO (.map (some m1)) (.map (some m2)) pv l f dn),pt m1 (mapO es1 c1),pt m2 (mapO es2 c2),sl false opEl pv pend]) (fun seen _ _=>aB5 es1 seen) [] [] (.slice none 0 0) ⟨uH.nil,rfl⟩ (.cons 0 rfl (.cons 3 rfl (.cons 10 rfl .nil))) rfl (fun _ h=>h) ?_;intro seen xs v ⟨hpo,hv1⟩;refine aH (aB ?_);refine ol_s (aCM (m:=m1) rfl aL hm1.fresh (fun _=>aX)) rfl ?_;rintro _ K _ ⟨rfl,hN11⟩ -;rcases hN11 with ⟨rfl,rfl,hall⟩|⟨e,he,hne,rfl,rfl⟩
 ·
  refine uGw ?_;refine aG (aE ?_);refine aH ?_;refine uHq ?_;refine uAp ?_;refine aE (aH ?_);refine aB ?_;refine aA (aJ ts62 rfl aL rfl) rfl ?_;refine aA (cL Tryz.underlying62 (fun _ h=>by cases h) rfl) rfl ?_;refine uGi ?_;refine bC rfl rfl (aUG b3 false v xs (by have:=aGT hpo;omega) _) (.cons (.there .here) (.cons (.there .here) .nil)) rfl ?_;rintro _ K6 _ ⟨rfl,rfl,ys,hperm,hord,rfl⟩ -;refine aG (aE ?_);refine aH (aB ?_);refine aA (aJ ts62 rfl aL rfl) rfl ?_;refine uAb ?_;refine aG (aE ?_);refine bI ?_;refine aO (.cons (.there .here) (.cons (.there (.there .here)) (.cons (.there (.there .here)) (.cons (.there (.there .here)) (.cons (.there (.there .here)) .nil))))) ?_;refine dN (fun _=>dU (kT (s:=⟨dur,now,pend,l,f,dn⟩) ⟨m1,m2,es1,c1,es2,c2,pv,hm1',hm2.mono le,hop,hpv,rfl⟩)) ?_;refine bF rfl rfl (Hl.le_refl _) ?_;exact⟨_,rfl,rfl,ys,aIU hm1' hpo hall hperm hord,rfl⟩
 ·
  obtain⟨d,hfd,sb,sT,sfz,hde,hdb⟩:=hm1'.has _ _ (rF hm1.nd he);have hxl:=aGT hpo;refine uGw ?_;refine aG (aE ?_);refine aH ?_;refine uGe ?_;refine aW ?_;refine aE (bE ?_);refine aH (aB ?_);refine aA (xI (m:=m1) rfl aL hm1.fresh he (by first|exact .here|exact .there .here|exact .there (.there .here)|exact .there (.there (.there .here))|exact .there (.there (.there (.there .here)))|exact .there (.there (.there (.there (.there .here)))))) rfl ?_;refine uGw ?_;refine aA (aP (v:=ptr sb) rfl (by simp[hde])) rfl ?_;refine uAw ?_;refine aG (aE ?_);refine t_draw (anc:=[0,0,0,4,12,30,62,127,255]) (ord:=[0,1,2,3,4,5,6,7,8]) [6,7,8] [7,8] mixed (by decide+kernel) (.cons (.there .here) .nil) ?_;refine dl_ev rfl rfl (.none rfl) rfl rfl (aJ ts62 rfl aL rfl) rfl ?_;refine uAj ?_;refine uAd ?_;refine dl_ev rfl rfl (.none rfl) rfl rfl (aJ ts9 rfl (.known hdb) rfl) rfl ?_;refine uIm ?_;refine dl_s rfl rfl (.none rfl) rfl rfl (bN (z0:=[(str []),(str [])]) nU tz66 rfl rfl rfl rfl (.cons rfl rfl rfl (.cons (.cons .nil)) .nil)) rfl ?_;rintro _ K _ ⟨b22,rfl,rfl,rfl⟩ -;refine⟨_,(show Tks _ _ _ from (.cons (.there .here) .nil)).sat,?_⟩
  refine dl_g rfl rfl (.none rfl) rfl (dM (k:=dG) (ys:=[((e.1,d):iZ)]) qH rfl rfl (.there (.there (.there .here))) (fun w j=>dB Tryz.underlying62 (SeesSl.at (k:=dG) (.blk (.own (.there .here)) rfl rfl) j)) (by show (xs.length+1)*32≤140737488355328;omega) (by show xs.length+1≤9223372036854775807;omega)) rfl ?_;rintro v23 K _ ⟨rfl,rfl,ho23⟩ -;refine kH rfl rfl (.none rfl) rfl (bH ts62 rfl rfl cD aX .zero rfl) ?_;rintro _ K _ ⟨rfl,rfl⟩ -;refine dl_nil ?_;refine aN ?_;refine aO (.cons (.there (.there (.there .here))) (.cons (.there .here) (.cons .here (.cons (.there .here) (.cons (.there .here) (.cons (.there .here) (.cons (.there .here) .nil))))))) ?_;exact fU (seen++[e.2.2]) _ _ ⟨hpo.step hm1' he hne ⟨_,_,_,hde,hdb⟩,ho23⟩ (aGG he hne) (.cons 0 rfl (.cons 3 rfl (.cons 10 rfl .nil))) rfl (fun _ h=>h)
end Go.Proofs
end
section
namespace Go.Proofs
open Go Go.SL Go.Syn Go.Box
theorem aA7(n:Int): -9223372036854775808≤IntKind.i64.wrap n∧IntKind.i64.wrap n≤9223372036854775807:=by
 unfold IntKind.wrap;simp[IntKind.bits,IntKind.signed];split <;> omega
theorem aAA(c m:Int)(n:Nat)(K:Hl)(hm:m=n)(h1: -9223372036854775808≤c)(h2:c≤9223372036854775807)(hn:0 < n):Sp Tryz.prog 80 [i64 c,i64 m] K [] (Ret fun v K' L'=>∃r:Nat,v=i64 r∧r < n∧K'=K∧L'=[]):=by
 subst hm;refine aZ Tryz.func80 rfl Tryz.ntmps80 rfl rfl fun F w=>?_
 refine aH (aB ?_);refine uAb ?_;refine aG (aE ?_);refine gS (fun(d:Int)=>0≤d) (fun d=>[(0,i64 d),(1,i64 n)]) (fun _=>K) (fun _=>[]) ?_ ?_
 ·
  refine aH (aB ?_);refine uAa ?_;refine uBn ?_;refine aG (aE ?_);refine bK 6 rfl (fun h6=>?_) (fun h6=>?_)
  ·
   refine uAf ?_;refine uCj ?_;refine aA (aQD rfl aI aI) rfl ?_;refine uAb ?_;refine aG ?_
   first|exact bZ (-(c+1)) aI (.cons 0 rfl (.cons 1 rfl .nil)) rfl (fun _ h=>h)|exact bZ c aI (.cons 0 rfl (.cons 1 rfl .nil)) rfl (fun _ h=>h)
  ·
   refine aW ?_
   first|exact bZ (-(c+1)) aI (.cons 0 rfl (.cons 1 rfl .nil)) rfl (fun _ h=>h)|exact bZ c aI (.cons 0 rfl (.cons 1 rfl .nil)) rfl (fun _ h=>h)
 ·
  intro d hd;refine aH (aB ?_);refine uAx ?_;refine aA (aIO rfl rfl aI) rfl ?_;refine uAb ?_;refine aG (aE ?_);refine bI ?_;refine bF rfl rfl (Hl.le_refl _) ?_;exact⟨_,rfl,_,by rw[aOP hd],Nat.mod_lt _ hn,rfl,rfl⟩
theorem aFR(b:Nat)(s:DSt)(kept part:Int)(hpl:s.pend.length≤1000000)(hdl:∀o∈s.pend,o.data.length≤140737488355328)(hk1: -9223372036854775808≤part)(hk2:part≤9223372036854775807)(K K0:Hl)(le:K0.le K):Sp Tryz.prog 47 [ptr b,i64 kept,i64 part] K [dsk K0 b s]
  (Ret fun r K' L'=>r=.tuple #[]∧∃t,aJ7 s t∧L'=[dsk K' b t]):=by
 refine aAR ⟨_,Tryz.func47,rfl,rfl⟩ fun L hd=>?_
 rw[List.append_nil];obtain⟨m1,m2,es1,c1,es2,c2,pv,hm1,hm2,hop,hpv,rfl⟩:=hd;obtain⟨dur,now,pend,l,f,dn⟩:=s;simp only at hm1 hm2 hop hpl hdl;refine aZ Tryz.func47 rfl Tryz.ntmps47 rfl rfl fun F w=>?_
 refine aH (aB ?_);refine uAx ?_;refine uEw ?_;refine uIe ?_;refine aA (cB (k:=opEl) (xs:=pend) rfl Tryz.underlying108 rfl aL) rfl ?_;refine uCj ?_;refine bC rfl rfl (aAA part _ (pend.length+1) _ aI hk1 hk2 aI) .nil rfl ?_;rintro _ K _ ⟨r,rfl,hr,rfl,rfl⟩ -;refine uAb ?_;refine aG (aE ?_);refine aH (aH ?_);refine uBv ?_;refine uIe ?_;refine aA (cB (k:=opEl) (xs:=pend) rfl Tryz.underlying108 rfl aL) rfl ?_;refine uAa ?_;refine aG (aE ?_);refine bE ?_;refine aAT (.cons .here (.cons .here (.cons (.there .here) .nil))) ?_;refine sN (fun(i:Nat) (K2:Hl) (es:List Ent) (c:Nat)=>i≤pend.length∧K.le K2∧∃g,MapOk K2 es c g∧CrI pend dur r i g) (fun i _ _ _=>[(0,ptr b),(1,i64 kept),(2,i64 part),(6,i64 r),(22,pv),(23,i64 pend.length),(24,i64 i)]) (fun _ K2 _ _=>K2) (fun _ _ es c=>[pt b (dskO (.map (some m1)) (.map (some m2)) pv l f dn),pt m1 (mapO es c),sl false opEl pv pend]) (fun i _ _ _=>pend.length - i) 0 K es1 c1 ⟨Nat.zero_le _,Hl.le_refl _,dur,hm1.mono le,CrI.init⟩ (.cons 0 rfl (.cons 1 rfl (.cons 2 rfl (.cons 6 rfl (.cons 22 rfl (.cons 23 rfl (.cons 24 rfl .nil))))))) rfl (fun h hh=>hh) ?_;intro i K2 es c ⟨hi,leL,g,hmi,hci⟩;refine aH (aB ?_);refine uBn ?_;refine aG (aE ?_);refine aH ?_;refine bK 25 rfl (fun h25=>?_) (fun h25=>?_)
 ·
  have hlt:i < pend.length:=by omega
  obtain⟨o,hx⟩:∃o,pend[i]?=some o:=⟨pend[i]'hlt,List.getElem?_eq_getElem hlt⟩;have hoo:=hop o (List.mem_of_getElem? hx);have hol:=hdl o (List.mem_of_getElem? hx);refine uHp ?_;refine yJ (fun(ec:List Ent×Nat) (K3:Hl)=>K2.le K3∧∃g3,MapOk K3 ec.1 ec.2 g3∧CrI pend dur r (i+1) g3) (fun _ _=>[(0,ptr b),(1,i64 kept),(2,i64 part),(6,i64 r),(22,pv),(23,i64 pend.length),(24,i64 i)]) (fun _ K3=>K3) (fun ec _=>[pt b (dskO (.map (some m1)) (.map (some m2)) pv l f dn),pt m1 (mapO ec.1 ec.2),sl false opEl pv pend]) ?_ ?_
  ·
   refine bE (aH ?_);refine uAf ?_;refine aA (b0 (k:=opEl) m5 rfl aL rfl rfl (by first|assumption|omega)) rfl ?_;refine aA (eE (n:=0) (k:=opEl) jN rfl aL bU) rfl ?_;refine ol_s (cN aDB) rfl ?_;rintro _ K _ ⟨b8,rfl,rfl,rfl⟩ -;refine uAb ?_;refine bP (cJ jN rfl rfl rfl aX (by first|(simp[Value.oneCell'];done)|exact fun c hc=>El.one _ _ c hc) (.cons (.cons (.cons (.cons .nil)))) (by intro j hj;simp)) ?_;rintro _ K _ ⟨rfl,rfl⟩ -;refine aG (aE ?_);refine aH (aH ?_);refine uCf ?_;refine aA (aIO rfl rfl aI) rfl ?_;refine aA (aIP rfl rfl (by exact Int.tmod_nonneg _ aI)) rfl ?_;refine aA (yB rfl rfl) rfl ?_;refine uAq ?_;refine aG (aE ?_);refine bK 34 rfl (fun h34=>?_) (fun h34=>?_)
   ·
    refine cR ?_;refine aS ?_;refine bG ?_
    first|(refine aO (.cons (.there (.there .here)) (.cons .here (.cons (.there .here) .nil))) ?_;exact gD (es3,c3) K3 ⟨le3,_,hm3,hci.do hx hdd⟩ (.cons 0 rfl (.cons 1 rfl (.cons 2 rfl (.cons 6 rfl (.cons 22 rfl (.cons 23 rfl (.cons 24 rfl .nil))))))) rfl (fun _ h=>h))|(refine aO (.cons (.there .here) (.cons (.there .here) (.cons (.there .here) .nil))) ?_;exact gD (es,c) K ⟨Hl.le_refl _,g,hmi,hci.lost hx⟩ (.cons 0 rfl (.cons 1 rfl (.cons 2 rfl (.cons 6 rfl (.cons 22 rfl (.cons 23 rfl (.cons 24 rfl .nil))))))) rfl (fun _ h=>h))|(refine aO (.cons (.there .here) (.cons (.there .here) (.cons (.there .here) .nil))) ?_;exact gD (es,c) K ⟨Hl.le_refl _,g,hmi,hci.none hx h70 (hmi.lacks _ hg)⟩ (.cons 0 rfl (.cons 1 rfl (.cons 2 rfl (.cons 6 rfl (.cons 22 rfl (.cons 23 rfl (.cons 24 rfl .nil))))))) rfl (fun _ h=>h))
   ·
    refine uHp ?_;refine gS (fun(d:aM)=>d=o.data∨o.kind=1∧i=r∧d<+:o.data) (fun _=>[(0,ptr b),(1,i64 kept),(2,i64 part),(6,i64 r),(8,ptr b8),(22,pv),(23,i64 pend.length),(24,i64 i)]) (fun _=>K) (fun d=>[pt b8 (aU [i64 o.kind,str o.name,str o.to,str d] 165),pt b (dskO (.map (some m1)) (.map (some m2)) pv l f dn),pt m1 (mapO es c),sl false opEl pv pend]) ?_ ?_
    ·
     refine aH (aB ?_);refine uGk ?_;refine uAn ?_;refine uHf ?_;refine cG 38 rfl (fun g38=>?_) (fun g38=>?_)
     ·
      refine uAi ?_;refine uGq ?_;refine uAq ?_;refine uAy ?_;refine aG (aE ?_);refine bK 42 rfl (fun h42=>?_) (fun h42=>?_)
      ·
       refine t_draw (anc:=[0,1,0,4,0,16,48,112,252,511,1023,2047]) (ord:=[0,1,2,3,4,5,6,7,8,9,10,11]) [8,11] [11] mixed (by decide+kernel) (.cons .here .nil) ?_;refine uIu ?_;refine uBa ?_;refine uAj ?_;refine dl_ev rfl rfl (.none rfl) rfl rfl (aWL rfl rfl aI) rfl ?_;refine uIu ?_;refine uBa ?_;refine uDp ?_;refine uCp ?_;refine aDS rfl (.none rfl) rfl rfl rfl rfl (aAA _ _ (o.data.length+1) _ aI (aA7 _).1 (aA7 _).2 aI) .nil rfl ?_;rintro _ K _ ⟨q,rfl,hq,rfl,rfl⟩ -;refine⟨_,(show Tks _ _ _ from (.cons .here .nil)).sat,?_⟩
       refine dl_ev rfl rfl (.none rfl) rfl rfl (eS Tryz.underlying9 rfl rfl rfl aI) rfl ?_;refine uIu ?_;refine kH rfl rfl (.none rfl) rfl (bH ts9 rfl rfl cD aX (.succ (.succ (.succ .zero))) rfl) ?_;rintro _ K _ ⟨rfl,rfl⟩ -;refine dl_nil ?_
       first|exact bZ _ (.inr ⟨g38,by omega,List.take_prefix _ _⟩) (.cons 0 rfl (.cons 1 rfl (.cons 2 rfl (.cons 6 rfl (.cons 8 rfl (.cons 22 rfl (.cons 23 rfl (.cons 24 rfl .nil)))))))) rfl (fun _ h=>h)|exact bZ o.data (.inl rfl) (.cons 0 rfl (.cons 1 rfl (.cons 2 rfl (.cons 6 rfl (.cons 8 rfl (.cons 22 rfl (.cons 23 rfl (.cons 24 rfl .nil)))))))) rfl (fun _ h=>h)
      ·
       refine aW ?_
       first|exact bZ _ (.inr ⟨g38,by omega,List.take_prefix _ _⟩) (.cons 0 rfl (.cons 1 rfl (.cons 2 rfl (.cons 6 rfl (.cons 8 rfl (.cons 22 rfl (.cons 23 rfl (.cons 24 rfl .nil)))))))) rfl (fun _ h=>h)|exact bZ o.data (.inl rfl) (.cons 0 rfl (.cons 1 rfl (.cons 2 rfl (.cons 6 rfl (.cons 8 rfl (.cons 22 rfl (.cons 23 rfl (.cons 24 rfl .nil)))))))) rfl (fun _ h=>h)
     ·
      refine uFa ?_;refine aG (aE ?_);refine uBf ?_
      first|exact bZ _ (.inr ⟨g38,by omega,List.take_prefix _ _⟩) (.cons 0 rfl (.cons 1 rfl (.cons 2 rfl (.cons 6 rfl (.cons 8 rfl (.cons 22 rfl (.cons 23 rfl (.cons 24 rfl .nil)))))))) rfl (fun _ h=>h)|exact bZ o.data (.inl rfl) (.cons 0 rfl (.cons 1 rfl (.cons 2 rfl (.cons 6 rfl (.cons 8 rfl (.cons 22 rfl (.cons 23 rfl (.cons 24 rfl .nil)))))))) rfl (fun _ h=>h)
    ·
     intro d hdd;cases hg:mget es o.name
     ·
      refine aH (aH ?_);refine t_draw (anc:=[0,1,3,7,0,16,63,127,255,255,511,2047]) (ord:=[0,1,2,3,4,5,6,7,8,9,10,11]) [] [] mixed (by decide+kernel) (cS _) ?_;refine uBx ?_;refine uFi ?_;refine dl_ev rfl rfl (.none rfl) rfl rfl (nX Tryz.underlying107 Tryz.underlying9 aC9 rfl rfl aL hg) rfl ?_;refine uBp ?_;refine aE (aH ?_);refine uFd ?_;refine uGq ?_;refine uGk ?_;refine uDr ?_;refine uEr ?_;refine uAy ?_;refine aG (aE ?_);refine bK 70 rfl (fun h70=>?_) (fun h70=>?_)
      ·
       refine cR ?_;refine aS ?_;refine bG ?_
       first|(refine aO (.cons (.there (.there .here)) (.cons .here (.cons (.there .here) .nil))) ?_;exact gD (es3,c3) K3 ⟨le3,_,hm3,hci.do hx hdd⟩ (.cons 0 rfl (.cons 1 rfl (.cons 2 rfl (.cons 6 rfl (.cons 22 rfl (.cons 23 rfl (.cons 24 rfl .nil))))))) rfl (fun _ h=>h))|(refine aO (.cons (.there .here) (.cons (.there .here) (.cons (.there .here) .nil))) ?_;exact gD (es,c) K ⟨Hl.le_refl _,g,hmi,hci.lost hx⟩ (.cons 0 rfl (.cons 1 rfl (.cons 2 rfl (.cons 6 rfl (.cons 22 rfl (.cons 23 rfl (.cons 24 rfl .nil))))))) rfl (fun _ h=>h))|(refine aO (.cons (.there .here) (.cons (.there .here) (.cons (.there .here) .nil))) ?_;exact gD (es,c) K ⟨Hl.le_refl _,g,hmi,hci.none hx h70 (hmi.lacks _ hg)⟩ (.cons 0 rfl (.cons 1 rfl (.cons 2 rfl (.cons 6 rfl (.cons 22 rfl (.cons 23 rfl (.cons 24 rfl .nil))))))) rfl (fun _ h=>h))
      ·
       refine uHp ?_;refine t_draw (anc:=[0,1,3,7,0,31]) (ord:=[0,1,2,3,4,5]) [5] [5] mixed (by decide+kernel) (cS _) ?_;refine uBx ?_;refine uFf ?_;refine gK rfl (.none rfl) rfl rfl rfl (qY m1 es c _ {o with data:=d} hoo _ hmi) (.cons (.there (.there .here)) .nil) rfl ?_;rintro _ K3 _ ⟨rfl,es3,c3,hm3,rfl⟩ le3;refine dl_nil ?_;refine aN ?_
       first|(refine aO (.cons (.there (.there .here)) (.cons .here (.cons (.there .here) .nil))) ?_;exact gD (es3,c3) K3 ⟨le3,_,hm3,hci.do hx hdd⟩ (.cons 0 rfl (.cons 1 rfl (.cons 2 rfl (.cons 6 rfl (.cons 22 rfl (.cons 23 rfl (.cons 24 rfl .nil))))))) rfl (fun _ h=>h))|(refine aO (.cons (.there .here) (.cons (.there .here) (.cons (.there .here) .nil))) ?_;exact gD (es,c) K ⟨Hl.le_refl _,g,hmi,hci.lost hx⟩ (.cons 0 rfl (.cons 1 rfl (.cons 2 rfl (.cons 6 rfl (.cons 22 rfl (.cons 23 rfl (.cons 24 rfl .nil))))))) rfl (fun _ h=>h))|(refine aO (.cons (.there .here) (.cons (.there .here) (.cons (.there .here) .nil))) ?_;exact gD (es,c) K ⟨Hl.le_refl _,g,hmi,hci.none hx h70 (hmi.lacks _ hg)⟩ (.cons 0 rfl (.cons 1 rfl (.cons 2 rfl (.cons 6 rfl (.cons 22 rfl (.cons 23 rfl (.cons 24 rfl .nil))))))) rfl (fun _ h=>h))
     ·
      refine aH (aH ?_);refine t_draw (anc:=[0,1,3,7,0,16,63,127,255,255,511,2047]) (ord:=[0,1,2,3,4,5,6,7,8,9,10,11]) [] [] mixed (by decide+kernel) (cS _) ?_;refine uBx ?_;refine uFi ?_;refine dl_ev rfl rfl (.none rfl) rfl rfl (p6 Tryz.underlying107 Tryz.underlying9 aC9 rfl rfl aL hg) rfl ?_;refine uBp ?_;refine aE (aH ?_);refine uFd ?_;refine uAa ?_;refine uFa ?_;refine aG (aE ?_);refine uBf ?_;refine aE ?_;refine t_draw (anc:=[0,1,3,7,0,31]) (ord:=[0,1,2,3,4,5]) [5] [5] mixed (by decide+kernel) (cS _) ?_;refine uBx ?_;refine uFf ?_;refine gK rfl (.none rfl) rfl rfl rfl (qY m1 es c _ {o with data:=d} hoo _ hmi) (.cons (.there (.there .here)) .nil) rfl ?_;rintro _ K3 _ ⟨rfl,es3,c3,hm3,rfl⟩ le3;refine dl_nil ?_;refine aN ?_
      first|(refine aO (.cons (.there (.there .here)) (.cons .here (.cons (.there .here) .nil))) ?_;exact gD (es3,c3) K3 ⟨le3,_,hm3,hci.do hx hdd⟩ (.cons 0 rfl (.cons 1 rfl (.cons 2 rfl (.cons 6 rfl (.cons 22 rfl (.cons 23 rfl (.cons 24 rfl .nil))))))) rfl (fun _ h=>h))|(refine aO (.cons (.there .here) (.cons (.there .here) (.cons (.there .here) .nil))) ?_;exact gD (es,c) K ⟨Hl.le_refl _,g,hmi,hci.lost hx⟩ (.cons 0 rfl (.cons 1 rfl (.cons 2 rfl (.cons 6 rfl (.cons 22 rfl (.cons 23 rfl (.cons 24 rfl .nil))))))) rfl (fun _ h=>h))|(refine aO (.cons (.there .here) (.cons (.there .here) (.cons (.there .here) .nil))) ?_;exact gD (es,c) K ⟨Hl.le_refl _,g,hmi,hci.none hx h70 (hmi.lacks _ hg)⟩ (.cons 0 rfl (.cons 1 rfl (.cons 2 rfl (.cons 6 rfl (.cons 22 rfl (.cons 23 rfl (.cons 24 rfl .nil))))))) rfl (fun _ h=>h))
  ·
   intro ec K3 ⟨le3,g3,hm3,hc3⟩;refine uDj ?_;exact o9 (i+1) K3 ec.1 ec.2 ⟨hlt,Hl.le_trans leL le3,g3,hm3,hc3⟩ aI (.cons 0 rfl (.cons 1 rfl (.cons 2 rfl (.cons 6 rfl (.cons 22 rfl (.cons 23 rfl (.cons 24 rfl .nil))))))) rfl (fun _ h=>h)
 ·
  have hie:i=pend.length:=by omega
  subst hie;refine uAp ?_;refine aE (aH ?_);refine uAf ?_;refine uBz ?_;refine aA (aD (o':=3) lB rfl rfl) rfl ?_;refine bP (bH ts3 rfl rfl cD aX (.succ (.succ (.succ .zero))) rfl) ?_;rintro _ K _ ⟨rfl,rfl⟩ -;refine uEw ?_;refine uFn ?_;rintro _ K _ ⟨rfl,rfl⟩ -;refine aG (aE ?_);refine uAf ?_;refine bC rfl rfl (aSW b m1 es c _ _ (-1) (-1) dn _ _ hmi) (.cons .here (.cons .here .nil)) rfl ?_;rintro _ K5 _ ⟨rfl,rfl,rfl⟩ -;refine uIg ?_;refine dD rfl leL ?_;exact⟨_,rfl,rfl,⟨g,g,[],-1,-1,false⟩,⟨hci.done,rfl,rfl,rfl,rfl,rfl⟩,rfl⟩
end Go.Proofs
end
section
namespace Go.Proofs
open Go Go.SL Go.Syn Go.Box Go.Mach
def yO(K:Hl)(bx b:Nat):Prop:=∃T fz,K bx=some (aU [ptr b] T fz)
theorem yO.mono{K K':Hl}{bx b:Nat}(h:yO K bx b)(le:K.le K'):yO K' bx b:=let ⟨T,fz,h⟩:=h;⟨T,fz,le _ _ h⟩
theorem aLE(e:Er)(K:Hl)(hE:ErrT K):Sp Tryz.prog 37 [erV e] K [] (Ret fun v K' L'=>v=.tuple #[i64 (errn e),i64 (-1)]∧K'=K∧L'=[]):=by
 cases e with
 |none=>exact(aAY K).mono fun e K' L' ⟨h1,h2,h3⟩=>⟨_,h1,rfl,h2,h3⟩
 |some n=>exact aSG n K hE
theorem aM7(v:Value)(xs:List iZ)(K:Hl)(hv:Ksl dG K v xs)(hn:xs.length≤1000000):Sp Tryz.prog 26 [v] K []
  (Ret fun r K' L'=>∃bx b,r=ptr bx∧yO K' bx b∧L'=[dsk K' b ⟨kW xs (fun _=>none),kW xs (fun _=>none),[],-1,-1,false⟩]):=by
 refine aZ Tryz.func26 rfl Tryz.ntmps26 rfl rfl fun F w=>?_
 refine aH (aB ?_);refine uAb ?_;refine aG (aE ?_);refine aH (aB ?_);refine uAa ?_;refine bC rfl rfl (aWZ v xs _ hv hn) .nil rfl ?_;rintro _ K1 _ ⟨b,rfl,rfl⟩ le1;refine aA (cP aYT aXE (.cons rfl rfl rfl (.cons .nil) .nil)) rfl ?_;refine uBk ?_;rintro _ K _ ⟨b6,rfl,rfl,rfl⟩ -;refine uAb ?_;refine aG (aE ?_);refine bI ?_;refine gI fun K2 le2 hb=>?_
 refine dN (fA (uS le2)) ?_;refine bF rfl rfl (Hl.le_trans le1 le2) ?_;exact⟨_,rfl,_,b,rfl,⟨_,_,hb⟩,rfl⟩
theorem aBQ(bx b:Nat)(s:DSt)(ns:List aM)(hdom:aBO s.dur ns)(hns:ns.length≤1000000)(K K0:Hl)(le:K0.le K)(hx:yO K bx b):Sp Tryz.prog 29 [ptr bx] K [dsk K0 b s]
  (Ret fun r K' L'=>K'=K∧∃ys,xX s.dur ys∧L'=[sl false dG r ys,dsk K' b s]):=by
 obtain⟨T,fz,hk⟩:=hx;refine aZ Tryz.func29 rfl Tryz.ntmps29 rfl rfl fun F w=>?_
 refine aH (aB ?_);refine uAb ?_;refine aG (aE ?_);refine aH (aB ?_);refine uBz ?_;refine uDo ?_;refine bC rfl rfl (aQG b s ns hdom hns _ _ le) (.cons .here .nil) rfl ?_;rintro _ K _ ⟨rfl,ys,hys,rfl⟩ -;refine uAb ?_;refine aG (aE ?_);refine bI ?_;refine bF rfl rfl (Hl.le_refl _) ?_;exact⟨_,rfl,rfl,ys,hys,rfl⟩
end Go.Proofs
end
section
namespace Go.SL
section
variable{E:Env}{fr:Fr}{K:Hl}{L L':List Asn}{dst:Option Tmp}{ty:TypeId}{pos:String}{aft:Array Edge}{g:Option (Nat×Bool)}{x y:Operand}{t:TypeId}{α:Type}{k:El α}{v:Value}{xs:List α}
theorem aJF{zf:Bool}{j o:Nat}{x0 y0:α}{c:Value}(ht:dT E.P t=true)(hx:fr.ev x=some (jV v (j*k.sz+o)))(hy:fr.ev y=some c)(hx0:xs[j]?=some x0)(ho:o < k.sz)(he:(k.enc x0).set o c=k.enc y0)(h1:c.oneCell'=true)
  (hF:Fnd (sl zf k v xs) (sl zf k v (xs.set j y0)) L L'):EfS E fr K L ⟨dst,.store t x y,ty,pos,aft,g⟩ (fun _ K' L''=>K'=K∧L''=L'):=by
 intro a w f q;have hj:j < xs.length:=by
  rcases Nat.lt_or_ge j xs.length with h|h
  ·exact h
  ·simp[List.getElem?_eq_none h]at hx0
 obtain⟨M,m1,m2⟩:=hF.split;rcases(q.imp m1).slCases with ⟨rfl,rfl,_⟩|⟨b,cap,junk,fz,rfl,hz,hcap,hjk,hf,q0⟩
 ·simp at hj
 ·have hx':fr.ev x=some (ptr b (j*k.sz+o)):=by rw[hx];simp[jV,gC]
  have hle:j*k.sz+k.sz≤xs.length*k.sz:=by rw[←Nat.succ_mul];exact Nat.mul_le_mul_right _ hj
  have hle2:xs.length*k.sz≤cap*k.sz:=Nat.mul_le_mul_right _ hcap;obtain⟨u,w',K',L'',hr,⟨rfl,rfl⟩,le,q1⟩:=bH (K:=K) (dst:=dst) (ty:=ty) (pos:=pos) (aft:=aft) (g:=g) (l:=k.cs xs++junk) (u:=k.e) (fz:=fz) ht hx' hy h1 (.here (L:=M)) (sM (by rw[List.length_append,k.cs_length];omega)) (hf.at aI) a w f q0;refine⟨u,w',_,_,hr,⟨rfl,rfl⟩,le,q1.imp fun h hh=>m2 h ?_⟩
  obtain⟨aa,l,ha,hl,hd,he'⟩:=hh;refine⟨aa,l,?_,hl,hd,he'⟩
  rw[cs_set k ho he hx0]at ha;refine .inr ⟨b,cap,junk,fz,by rw[List.length_set],?_,by rw[List.length_set];exact hcap,by rw[List.length_set];exact hjk,hf,ha⟩
  intro h1 h2;exact hz h1 (by have:=congrArg List.length h2;simp at this;exact List.length_eq_zero_iff.1 (by simpa using this))
end
end Go.SL
end
section
namespace Go.Proofs
open Go Go.SL Go.Syn Go.Box Go.Mach
theorem aJH(id text:aM)(z:Bool)(v:Value)(acts:List Action)(K:Hl)(hg:Glob K)(hid:id.length≤140737488355328)(ht:text.length≤1048576)(ha:∀a∈acts,a.2.length≤1048576)(hal:acts.length≤140737488355328):
  Sp Tryz.prog 78 [str id,v,str text] K [sl z cY v acts] (fun e _ L'=>∃L'',qS (gN id acts text) e Hl.emp L''∧L'=[sl z cY v acts]++L''):=
 aK5 (L1:=[sl z cY v acts]) (L:=[]) (R:=fun e L'=>qS (gN id acts text) e Hl.emp L') ⟨_,Tryz.func78,rfl,rfl⟩ fun h1 hs hd=>
  (aNZ id text v acts (K.join h1) (hg.mono Hl.le_join_l) ((aKU .here hs).mono (Hl.le_join_r hd)) hid ht ha hal).mono fun e K' L' h=>h
theorem aQS(b:Nat)(id text:aM)(z:Bool)(v:Value)(acts:List Action)(s:DSt)(K K0:Hl)(le:K0.le K)(hg:Glob K)(hdb:Deb K)(hid:id.length≤140737488355328)(ht:text.length≤1048576)(ha:∀a∈acts,a.2.length≤1048576)(hal:acts.length≤140737488355328)(hp:s.pend.length≤600000):
  Sp Tryz.prog 46 [dV b,str id,v,str text] K [dsk K0 b s,sl z cY v acts] (Ret fun r K' L'=>r=erV (iV id acts text s).1∧L'=[dsk K' b (iV id acts text s).2,sl z cY v acts]):=by
 have hsf:=aJH id text z v acts K hg hid ht ha hal;refine aZ Tryz.func46 rfl Tryz.ntmps46 rfl rfl fun F w=>?_
 cases hf:gN id acts text with
 |error e=>
  have he:iV id acts text s=(some e,s):=by unfold iV;rw[hf]
  rw[he];rw[hf]at hsf;have hsf2:=hsf.mono (R':=Ret fun v' K' L'=>v'=.tuple #[.slice none 0 0,errV e]∧L'=[sl z cY v acts]) (by rintro e' K' L' ⟨L'',⟨v',rfl,rfl,rfl⟩,rfl⟩;exact⟨_,rfl,rfl,rfl⟩);refine aH (aB ?_);refine uAb ?_;refine aG (aE ?_);refine aH (aB ?_);refine uEg ?_;refine bC rfl rfl hsf2 (.cons (.there .here) .nil) rfl ?_;rintro _ K1 _ ⟨rfl,rfl⟩ le1;refine uBy ?_;refine aG (aE ?_);refine aH (aH ?_);refine uAf ?_;refine uFb ?_;refine aG (aE ?_);refine uGe ?_;refine aH (aB ?_);refine uEj ?_;refine aG (aE ?_);refine uCk ?_;refine dN (fun _=>eH) ?_;refine dN (fA (uS (Hl.le_trans le le1))) ?_;refine bF rfl rfl le1 ?_;exact⟨_,rfl,rfl,rfl⟩
 |ok xs=>
  have he:iV id acts text s=gJ xs s:=by unfold iV;rw[hf]
  obtain⟨hl1,hl2,hl3⟩:=zI ht ha hf;rw[he];rw[hf]at hsf;have hsf2:=hsf.mono (R':=Ret fun v' K' L'=>∃u,v'=.tuple #[u,.nilIface]∧L'=[sl z cY v acts,sl false dG u xs]) (by rintro e' K' L' ⟨L'',⟨v',rfl,u,rfl,rfl⟩,rfl⟩;exact⟨_,rfl,_,rfl,rfl⟩);refine aH (aB ?_);refine uAb ?_;refine aG (aE ?_);refine aH (aB ?_);refine uEg ?_;refine bC rfl rfl hsf2 (.cons (.there .here) .nil) rfl ?_;rintro _ K1 _ ⟨u,rfl,rfl⟩ le1;refine uBy ?_;refine aG (aE ?_);refine aH (aH ?_);refine uAf ?_;refine uEz ?_;refine aG (aE ?_);refine uBf ?_;refine aE (aH ?_);refine kJ (fun _=>eH) ?_;refine uB fun K2 le2 hu=>?_
  refine uCf ?_;refine bC rfl rfl (aID b u xs s _ _ (Hl.le_trans le (Hl.le_trans le1 le2)) hu ((hg.mono le1).mono le2) ((hdb.mono le1).mono le2) aI aI hp) (.cons (.there .here) .nil) rfl ?_;rintro _ K3 _ ⟨rfl,rfl⟩ le3;refine uAb ?_;refine aG (aE ?_);refine bI ?_;refine bF rfl rfl (Hl.le_trans le1 (Hl.le_trans le2 le3)) ?_;exact⟨_,rfl,rfl,rfl⟩
theorem yA{K:Hl}{b m1 m2:Nat}{es1:List Ent}{c1:Nat}{es2:List Ent}{c2:Nat}{pv:Value}{s:DSt}{M:List Asn}{l f:Int}(hm1:MapOk K es1 c1 s.dur)(hm2:MapOk K es2 c2 s.now)(hop:∀o∈s.pend,OpOk o)(hpv:pv.oneCell'=true):
  ∀h,Sat ([pt b (dskO (.map (some m1)) (.map (some m2)) pv l f s.down),pt m1 (mapO es1 c1),pt m2 (mapO es2 c2),sl false opEl pv s.pend]++M) h→Sat (dsk K b (s.set l f)::M) h:=
 mT (s:=s.set l f) ⟨m1,m2,es1,c1,es2,c2,pv,hm1,hm2,hop,hpv,rfl⟩
abbrev aYC:aM:=[109,105,110,101]
theorem aKA(bx b:Nat)(id text:aM)(v:Value)(acts:List Action)(l f kept part:Int)(s:DSt)(K K0:Hl)(le:K0.le K)(hx:yO K bx b)(hg:Glob K)(hdb:Deb K)(hE:ErrT K)(hv:Ksl cY K v acts)(hid:id.length≤140737488355328)(ht:text.length≤1048576)(ha:∀a∈acts,a.2.length≤1048576)(hal:acts.length≤1048576)(hp:s.pend.length≤600000)
  (hk1: -9223372036854775808≤part) (hk2:part≤9223372036854775807) (hcr:(iV id acts text (s.set l f)).2.down=true→(iV id acts text (s.set l f)).2.pend.length≤1000000∧∀o∈(iV id acts text (s.set l f)).2.pend,o.data.length≤140737488355328):
  Sp Tryz.prog 27 [ptr bx,str id,v,str text,i64 l,i64 f,i64 kept,i64 part] K [dsk K0 b s] (Ret fun r K' L'=>r=i64 (errn (iV id acts text (s.set l f)).1)∧∃t,kF (iV id acts text (s.set l f)).2 t∧L'=[dsk K' b t]):=by
 obtain⟨T,fz,hk⟩:=hx
 generalize hmd:iV id acts text (s.set l f)=md at hcr ⊢
 refine aZ Tryz.func27 rfl Tryz.ntmps27 rfl rfl fun F w=>?_
 refine aH (aB ?_);refine uAb ?_;refine aG (aE ?_);refine aH ?_;refine aHN fun L2 hd2=>?_
 obtain⟨m1,m2,es1,c1,es2,c2,pv,hm1,hm2,hop,hpv,rfl⟩:=hd2;refine t_draw (anc:=[0,1,3,7,0,16,48,112,0,0,511,1535,3583,8191,16383,32767]) (ord:=[0,1,2,3,4,5,6,7,8,9,10,11,12,13,14,15]) [12,15] [15] mixed (by decide+kernel) .nil ?_;refine uFl ?_;rintro _ K _ ⟨rfl,rfl⟩ -;refine⟨_,(show Tks _ _ _ from .nil).sat,?_⟩
 refine uCc ?_;rintro _ K _ ⟨rfl,rfl⟩ -;refine dl_nil ?_;refine aE (aH ?_);refine kJ (yA (s:=s) (M:=[]) (l:=l) (f:=f) hm1 hm2 hop hpv) ?_;refine uAf ?_;refine lL (dX cY) ?_;refine ol_s (dM (k:=cY) (ys:=acts) lO rfl rfl .here (fun w j=>dB Tryz.underlying29 (SeesSl.at (k:=cY) (.known hv) j)) (by show (0+acts.length)*24≤140737488355328;omega) (by show 0+acts.length≤9223372036854775807;omega)) rfl ?_;rintro v37 K _ ⟨rfl,rfl,ho37⟩ -;refine uAb ?_;refine aG (aE ?_);refine aH (aB ?_);refine uBz ?_;refine uDo ?_;refine aA (cL Tryz.underlying103 (fun _ h=>by cases h) rfl) rfl ?_;refine uEg ?_;refine bC rfl rfl (aQS b id text false v37 acts (s.set l f) _ _ le hg hdb hid ht ha aI hp) (.cons (.there .here) (.cons .here .nil)) rfl ?_;rintro _ K1 _ ⟨rfl,rfl⟩ le1;rw[hmd];refine uAb ?_;refine aG (aE ?_);refine aH (aH ?_);refine uAf ?_;refine aA (cB (k:=cY) (xs:=acts) rfl Tryz.underlying29 rfl aL) rfl ?_;refine uAa ?_;refine aG (aE ?_);refine bE ?_;refine qE (fun(i:Nat) (ys:List Action)=>i≤acts.length∧ys.length=acts.length) (fun i _=>[(0,ptr bx),(6,i64 kept),(7,i64 part),(17,v37),(18,erV md.1),(48,i64 acts.length),(49,i64 i)]) (fun _ _=>K1) (fun _ ys=>[dsk K1 b md.2,sl false cY v37 ys]) (fun i _=>acts.length - i) 0 acts ⟨Nat.zero_le _,rfl⟩ (.cons 0 rfl (.cons 6 rfl (.cons 7 rfl (.cons 17 rfl (.cons 18 rfl (.cons 48 rfl (.cons 49 rfl .nil))))))) rfl (fun _ h=>h) ?_;intro i ys ⟨hi,hyl⟩;refine aH (aB ?_);refine uBn ?_;refine aG (aE ?_);refine aH ?_;refine bK 50 rfl (fun h50=>?_) (fun h50=>?_)
 ·
  have hlt:i < ys.length:=by omega
  obtain⟨a0,ha0⟩:∃a,ys[i]?=some a:=⟨ys[i]'hlt,List.getElem?_eq_getElem hlt⟩;refine aW ?_;refine aE (aH ?_);refine bE (aH ?_);refine uFz ?_;refine aG (aE ?_);refine uCf ?_;refine aA (b0 (k:=cY) iS rfl aL rfl rfl (by first|assumption|omega)) rfl ?_;refine aA (m9 (k:=cY) dA rfl aL (by first|assumption|omega)) rfl ?_;refine bP (aJF (k:=cY) (y0:=(a0.1,aYC)) ts9 rfl rfl ha0 (by show 1 < 2;omega) rfl rfl aX) ?_;rintro _ K _ ⟨rfl,rfl⟩ -;refine aG (aN ?_);refine aE (aB ?_);refine uAo ?_;exact dI (i+1) _ ⟨by omega,by rw[List.length_set];exact hyl⟩ aI (.cons 0 rfl (.cons 6 rfl (.cons 7 rfl (.cons 17 rfl (.cons 18 rfl (.cons 48 rfl (.cons 49 rfl .nil))))))) rfl (fun _ h=>h)
 ·
  refine uAp ?_;refine aE (aH ?_);refine uAf ?_;refine bC rfl rfl (aLE md.1 _ (hE.mono le1)) .nil rfl ?_;rintro _ K1 _ ⟨rfl,rfl,rfl⟩ -;refine uBy ?_;refine aG (aE ?_);refine yJ (fun(t:DSt) (K4:Hl)=>K1.le K4∧kF md.2 (t.set (-1) (-1))) (fun _ _=>[(0,ptr bx),(20,i64 (errn md.1))]) (fun _ K4=>K4) (fun t K4=>[dsk K4 b t]) ?_ ?_
  ·
   refine aH (aB ?_);refine aQ1 fun L2 hd2=>?_
   have hd3:=hd2;obtain⟨n1,n2,fs1,d1,fs2,d2,qv,hn1,hn2,hoq,hqv,rfl⟩:=hd2;have hk3:=le1 _ _ hk;refine uBz ?_;refine uDo ?_;refine uEw ?_;refine aA (aD (o':=5) jI rfl rfl) rfl ?_;refine uGc ?_;refine aG (aE ?_);refine eJ 68 rfl (fun h68=>?_) (fun h68=>?_)
   ·
    refine kJ (mT hd3) ?_;refine uBv ?_;refine uDo ?_;refine uAx ?_;refine bC rfl rfl (aFR b md.2 kept part (hcr h68).1 (hcr h68).2 hk1 hk2 _ _ (Hl.le_refl _)) (.cons .here .nil) rfl ?_;rintro _ K4 _ ⟨rfl,t,hct,rfl⟩ le4;refine uIg ?_
    first|exact gD t K4 ⟨le4,by unfold kF;rw[if_pos h68];exact⟨t,hct,rfl⟩⟩ (.cons 0 rfl (.cons 20 rfl .nil)) rfl (fun _ h=>h)|exact gD md.2 K1 ⟨Hl.le_refl _,by unfold kF;rw[if_neg (by rw[h68];simp)]⟩ (.cons 0 rfl (.cons 20 rfl .nil)) rfl (fun _ h=>h)
   ·
    refine kJ (mT hd3) ?_;refine aW ?_;refine uAg ?_
    first|exact gD t K4 ⟨le4,by unfold kF;rw[if_pos h68];exact⟨t,hct,rfl⟩⟩ (.cons 0 rfl (.cons 20 rfl .nil)) rfl (fun _ h=>h)|exact gD md.2 K1 ⟨Hl.le_refl _,by unfold kF;rw[if_neg (by rw[h68];simp)]⟩ (.cons 0 rfl (.cons 20 rfl .nil)) rfl (fun _ h=>h)
  ·
   intro t K4 ⟨le4,hend⟩;refine aH ?_;have hk4:=le4 _ _ (le1 _ _ hk);refine aHN fun L2 hd2=>?_
   obtain⟨m1,m2,es1,c1,es2,c2,pv,hm1,hm2,hop,hpv,rfl⟩:=hd2;refine t_draw (anc:=[0,1,3,7,0,16,48,112,255,511,1023,2047,4095,8191]) (ord:=[0,1,2,3,4,5,6,7,8,9,10,11,12,13]) [10,13] [10,13] mixed (by decide+kernel) .nil ?_;refine uFy ?_;rintro _ K _ ⟨rfl,rfl⟩ -;refine uCc ?_;rintro _ K _ ⟨rfl,rfl⟩ -;refine dl_nil ?_;refine aE (aH ?_);refine kJ (yA (s:=t) (M:=[]) (l:= -1) (f:= -1) hm1 hm2 hop hpv) ?_;refine uFz ?_;refine aG (aE ?_);refine bI ?_;refine bF rfl rfl (Hl.le_trans le1 le4) ?_;exact⟨_,rfl,rfl,_,hend,rfl⟩
end Go.Proofs
end
section
namespace Go.Proofs
open Go Go.SL Go.Syn Go.Box Go.Mach
theorem aAD{n:aM}{s:DSt}(hd:s.down=false)(hn:s.now n=none):pI n s=([],some 14):=by unfold pI;rw[if_neg (by rw[hd];simp),hn]
end Go.Proofs
end
section
namespace Go.Proofs
open Go Go.SL Go.Syn Go.Box Go.Mach
theorem wT{s s1:DSt}(h:d7 s=(none,s1)):s1.down=false:=by
 unfold d7 at h;split at h
 ·rename_i he;rw[show s.we=none from congrArg Prod.fst h]at he;cases he
 ·rename_i he;cases h
  show (eC s.left s.full s.down).2.2.2=false
  have:(eC s.left s.full s.down).1.isSome≠true:=he;unfold eC at this ⊢;split
  ·rw[if_pos bU]at this;simp at this
  ·split <;> rfl
theorem aAE{n d:aM}{s:DSt}(hd:s.down=false)(hn:s.now n=some d):pI n s=(d,none):=by unfold pI;rw[if_neg (by rw[hd];simp),hn]
theorem aRB{r:Option (List File)}{s s1:DSt}{e:Int}(h:d7 s=(some e,s1)):dZ r s=(some e,s1):=by unfold dZ;rw[h];rfl
theorem aNG{r:Option (List File)}{s s1:DSt}(h:d7 s=(none,s1))(hj:s1.now bQ=none):dZ r s=(none,s1):=by unfold dZ;rw[h];simp[aAD (wT h) hj]
theorem aCJ{r:Option (List File)}{s s1:DSt}{d:aM}(h:d7 s=(none,s1))(hj:s1.now bQ=some d):dZ r s=yU r s1:=by unfold dZ;rw[h];simp[aAE (wT h) hj]
def Says(s:DSt)(r:Option (List File)):Prop:=∀s1 d,d7 s=(none,s1)→s1.now bQ=some d→o6 d r
theorem aUC{d:aM}{xs:List File}(h:o6 d (some xs)):oJ xs:=by
 obtain⟨fs,h1,⟨-,h2⟩|⟨-,-,h2⟩⟩:=h
 ·injection h2 with h2;rw[h2];exact h1
 ·cases h2
theorem aPQ{xs:List File}(h:oJ xs):∀f∈xs,f.2.length≤140737488355328:=fun f hf=>by
 have h1:=uT hf;have h2:=h.2.1;have h3:(Box.entryC f).length=f.1.length+1+(Lib.itoa f.2.length).length+1+f.2.length:=by simp[Box.entryC];omega
 omega
theorem aUI(b:Nat)(s:DSt)(r:Option (List File))(hun:Says s r)(K K0:Hl)(le:K0.le K)(hg:Glob K)(hdb:Deb K)(hp:s.pend.length≤600000):
  Sp Tryz.prog 82 [dV b] K [dsk K0 b s] (Ret fun v K' L'=>v=erV (dZ r s).1∧L'=[dsk K' b (dZ r s).2]):=by
 have hsp:=oD s;refine aZ Tryz.func82 rfl Tryz.ntmps82 rfl rfl fun F w=>?_
 refine aH (aB ?_);refine uBk ?_;rintro _ K _ ⟨b1,rfl,rfl,rfl⟩ -;refine uAb ?_;refine aG (aE ?_);refine aH (aH ?_);refine jD fun K1 le1 hb1=>?_
 refine aB ?_;refine uGh ?_;refine l9 rfl rfl (aVH b) (aK8 b s aI _ _ (Hl.le_trans le le1)) (.cons .here .nil) rfl ?_;rintro _ K2 _ ⟨rfl,rfl⟩ le2;refine uAb ?_;refine aG (aE ?_);rcases hsy:d7 s with ⟨_|e,s1⟩
 ·
  refine aH (aB ?_);refine uAa ?_;refine uEz ?_;refine aG (aE ?_);refine uBf ?_;refine aE (aH ?_);have hdn:=wT hsy;have hb12:=le2 _ _ hb1;have hr:=aT6 b s1 bQ;rw[hsy]at hsp
  replace hsp:s1.pend.length≤s.pend.length:=hsp
  refine aB ?_;refine uGh ?_;refine l9 rfl rfl (aYB b) (hr _ _ (Hl.le_refl _)) (.cons .here .nil) rfl ?_;rintro _ K3 _ ⟨u,rfl,rfl⟩ le3;have hb13:=le3 _ _ hb12;refine uBy ?_;refine aG (aE ?_);rcases hj:s1.now bQ with _|d
  ·
   refine aH (bE ?_);refine aH (aB ?_);rw[aAD hdn hj];refine uAa ?_;refine aA (cL Tryz.underlying30 (fun _ h=>by cases h) rfl) rfl ?_;refine aA (ev_T (wC rfl rfl (fun _=>aP9 _ _) (fun w=>aQA (some 14) 14 w)) rfl) rfl ?_;refine uAb ?_;refine aG (aE ?_);refine uGe ?_;refine aH (aB ?_);refine uAb ?_;refine aG (aE ?_);refine uCi ?_;refine uEy ?_;refine bF rfl rfl (Hl.le_trans le1 (Hl.le_trans le2 le3)) ?_;rw[aNG hsy hj];exact⟨_,rfl,rfl,rfl⟩
  ·
   refine aH (bE ?_);refine aH (aB ?_);rw[aAE hdn hj];refine uAa ?_;refine aA (cL Tryz.underlying30 (fun _ h=>by cases h) rfl) rfl ?_;refine aA (ev_F (wC rfl rfl (fun _=>aP9 _ _) (fun w=>aQA none 14 w)) (by decide)) rfl ?_;refine uAb ?_;refine aG (aE ?_);refine uHq ?_;refine aH (aB ?_);refine uAa ?_;refine uEz ?_;refine uAb ?_;refine aG (aE ?_);refine uBf ?_;refine aN (aE ?_);have hu:=aOV d r (hun _ _ hsy hj) K3 (((hg.mono le1).mono le2).mono le3) (((hdb.mono le1).mono le2).mono le3);rcases r with _|xs
   ·
    refine aH (aH ?_);refine uGu ?_;refine bC rfl rfl hu .nil rfl ?_;rintro _ K4 _ ⟨rfl,rfl⟩ le4;have hb14:=le4 _ _ hb13;refine uBy ?_;refine aG (aE ?_);refine aH (aB ?_);refine uAa ?_;refine aG (aE ?_);refine uBf ?_;refine aE (aH ?_);refine aB ?_;refine uGi ?_;refine uGh ?_;refine uEw ?_;refine uGi ?_;refine ol_s (bN (z0:=[.nilFunc,.nilFunc]) oY aST rfl rfl rfl rfl (.cons rfl rfl rfl (.cons .nil) (.cons rfl rfl rfl (.skip (.cons .nil)) .nil))) rfl ?_;rintro _ K _ ⟨b40,rfl,rfl,rfl⟩ -;refine bC rfl rfl (wR 800000 b b40 [⟨.func (.func 136) #[] #[ptr b1],rfl⟩,⟨.func (.method "Sync") #[dV b] #[],rfl⟩] [eK bQ,d7] s1 _ _ le4 _ rfl (aX0 (aTE _ _ _ _ _ hb14) (uO _ _)) (by simp;omega) (by simp)) (.cons .here (.cons (.there .here) .nil)) rfl ?_;rintro _ K5 _ ⟨rfl,rfl⟩ le5;refine uAb ?_;refine aG (aE ?_);refine uDi ?_;refine bF rfl rfl (Hl.le_trans le1 (Hl.le_trans le2 (Hl.le_trans le3 (Hl.le_trans le4 le5)))) ?_;rw[aCJ hsy hj];exact⟨_,rfl,rfl,rfl⟩
   ·
    refine aH (aH ?_);refine uGu ?_;refine bC rfl rfl hu .nil rfl ?_;rintro _ K4 _ ⟨u2,rfl,rfl⟩ le4;have hb14:=le4 _ _ hb13;refine uBy ?_;refine aG (aE ?_);refine aH (aB ?_);refine uAa ?_;refine aG (aE ?_);refine uGe ?_;refine aH ?_;refine uB fun K5 le5 hu5=>?_
    have hb15:=le5 _ _ hb14;have hfo:=aUC (hun _ _ hsy hj);refine aB ?_;refine uGh ?_;refine uAa ?_;refine bC rfl rfl (aB2 b u2 xs s1 _ _ (Hl.le_trans le4 le5) hu5 hfo.2.2 (aPQ hfo) aI) (.cons (.there .here) .nil) rfl ?_;rintro _ K6 _ ⟨rfl,rfl⟩ le6;refine uAb ?_;refine aG (aE ?_);refine uCk ?_;refine uAg ?_;refine bF rfl rfl (Hl.le_trans le1 (Hl.le_trans le2 (Hl.le_trans le3 (Hl.le_trans le4 (Hl.le_trans le5 le6))))) ?_;rw[aCJ hsy hj];exact⟨_,rfl,rfl,rfl⟩
 ·
  refine aH (aB ?_);refine uAa ?_;refine uFb ?_;refine aG (aE ?_);refine uGe ?_;refine aH (aB ?_);refine uEj ?_;refine aG (aE ?_);refine uCk ?_;refine uAg ?_;refine bF rfl rfl (Hl.le_trans le1 le2) ?_;rw[aRB hsy];exact⟨_,rfl,rfl,rfl⟩
theorem aT1(b:Nat)(s:DSt)(r:Option (List File))(hun:Says s r)(K K0:Hl)(le:K0.le K)(hg:Glob K)(hdb:Deb K)(hp:s.pend.length≤600000):
  Sp Tryz.prog 48 [dV b] K [dsk K0 b s] (Ret fun v K' L'=>v=erV (dZ r s).1∧L'=[dsk K' b (dZ r s).2]):=by
 refine aZ Tryz.func48 rfl Tryz.ntmps48 rfl rfl fun F w=>?_
 refine aH (aB ?_);refine uAb ?_;refine aG (aE ?_);refine aH (aB ?_);refine uAa ?_;refine bC rfl rfl (aUI b s r hun _ _ le hg hdb hp) (.cons .here .nil) rfl ?_;rintro _ K1 _ ⟨rfl,rfl⟩ le1;refine uAb ?_;refine aG (aE ?_);refine bI ?_;refine bF rfl rfl le1 ?_;exact⟨_,rfl,rfl,rfl⟩
end Go.Proofs
end
section
namespace Go.Proofs
open Go Go.SL Go.Syn Go.Box Go.Mach
theorem aKD(bx b:Nat)(l f kept part:Int)(s:DSt)(r:Option (List File))(hun:Says (s.set l f) r)(K K0:Hl)(le:K0.le K)(hx:yO K bx b)(hg:Glob K)(hdb:Deb K)(hE:ErrT K)(hp:s.pend.length≤600000)
  (hk1: -9223372036854775808≤part) (hk2:part≤9223372036854775807) (hcr:(dZ r (s.set l f)).2.down=true→(dZ r (s.set l f)).2.pend.length≤1000000∧∀o∈(dZ r (s.set l f)).2.pend,o.data.length≤140737488355328):
  Sp Tryz.prog 28 [ptr bx,i64 l,i64 f,i64 kept,i64 part] K [dsk K0 b s] (Ret fun v K' L'=>v=i64 (errn (dZ r (s.set l f)).1)∧∃t,kF (dZ r (s.set l f)).2 t∧L'=[dsk K' b t]):=by
 obtain⟨T,fz,hk⟩:=hx;have hmr:=aT1 b (s.set l f) r hun
 generalize dZ r (s.set l f)=md at hcr hmr ⊢
 refine aZ Tryz.func28 rfl Tryz.ntmps28 rfl rfl fun F w=>?_
 refine aH (aB ?_);refine uAb ?_;refine aG (aE ?_);refine aH ?_;refine aHN fun L2 hd2=>?_
 obtain⟨m1,m2,es1,c1,es2,c2,pv,hm1,hm2,hop,hpv,rfl⟩:=hd2;refine t_draw (anc:=[0,1,3,7,0,16,48,112,0,0,511,1535,3583,8191,16383,32767]) (ord:=[0,1,2,3,4,5,6,7,8,9,10,11,12,13,14,15]) [12,15] [15] mixed (by decide+kernel) .nil ?_;refine uFl ?_;rintro _ K _ ⟨rfl,rfl⟩ -;refine⟨_,(show Tks _ _ _ from .nil).sat,?_⟩
 refine uCc ?_;rintro _ K _ ⟨rfl,rfl⟩ -;refine dl_nil ?_;refine aE (aH ?_);refine kJ (yA (s:=s) (M:=[]) (l:=l) (f:=f) hm1 hm2 hop hpv) ?_;refine uBv ?_;refine uDo ?_;refine aA (cL Tryz.underlying103 (fun _ h=>by cases h) rfl) rfl ?_;refine bC rfl rfl (hmr _ _ le hg hdb hp) (.cons .here .nil) rfl ?_;rintro _ K1 _ ⟨rfl,rfl⟩ le1;refine uAb ?_;refine aG (aE ?_);refine aH (aB ?_);refine uAa ?_;refine bC rfl rfl (aLE md.1 _ (hE.mono le1)) .nil rfl ?_;rintro _ K1 _ ⟨rfl,rfl,rfl⟩ -;refine uBy ?_;refine aG (aE ?_);refine yJ (fun(t:DSt) (K4:Hl)=>K1.le K4∧kF md.2 (t.set (-1) (-1))) (fun _ _=>[(0,ptr bx),(12,i64 (errn md.1))]) (fun _ K4=>K4) (fun t K4=>[dsk K4 b t]) ?_ ?_
 ·
  refine aH (aB ?_);refine aQ1 fun L2 hd2=>?_
  have hd3:=hd2;obtain⟨n1,n2,fs1,d1,fs2,d2,qv,hn1,hn2,hoq,hqv,rfl⟩:=hd2;have hk3:=le1 _ _ hk;refine uBz ?_;refine uDo ?_;refine uEw ?_;refine aA (aD (o':=5) jI rfl rfl) rfl ?_;refine uGc ?_;refine aG (aE ?_);refine eJ 45 rfl (fun h45=>?_) (fun h45=>?_)
  ·
   refine kJ (mT hd3) ?_;refine uBv ?_;refine uDo ?_;refine uAx ?_;refine bC rfl rfl (aFR b md.2 kept part (hcr h45).1 (hcr h45).2 hk1 hk2 _ _ (Hl.le_refl _)) (.cons .here .nil) rfl ?_;rintro _ K4 _ ⟨rfl,t,hct,rfl⟩ le4;refine uIg ?_
   first|exact gD t K4 ⟨le4,by unfold kF;rw[if_pos h45];exact⟨t,hct,rfl⟩⟩ (.cons 0 rfl (.cons 12 rfl .nil)) rfl (fun _ h=>h)|exact gD md.2 K1 ⟨Hl.le_refl _,by unfold kF;rw[if_neg (by rw[h45];simp)]⟩ (.cons 0 rfl (.cons 12 rfl .nil)) rfl (fun _ h=>h)
  ·
   refine kJ (mT hd3) ?_;refine aW ?_;refine uAg ?_
   first|exact gD t K4 ⟨le4,by unfold kF;rw[if_pos h45];exact⟨t,hct,rfl⟩⟩ (.cons 0 rfl (.cons 12 rfl .nil)) rfl (fun _ h=>h)|exact gD md.2 K1 ⟨Hl.le_refl _,by unfold kF;rw[if_neg (by rw[h45];simp)]⟩ (.cons 0 rfl (.cons 12 rfl .nil)) rfl (fun _ h=>h)
 ·
  intro t K4 ⟨le4,hend⟩;refine aH ?_;have hk4:=le4 _ _ (le1 _ _ hk);refine aHN fun L2 hd2=>?_
  obtain⟨m1,m2,es1,c1,es2,c2,pv,hm1,hm2,hop,hpv,rfl⟩:=hd2;refine t_draw (anc:=[0,1,3,7,0,16,48,112,255,511,1023,2047,4095,8191]) (ord:=[0,1,2,3,4,5,6,7,8,9,10,11,12,13]) [10,13] [10,13] mixed (by decide+kernel) .nil ?_;refine uFy ?_;rintro _ K _ ⟨rfl,rfl⟩ -;refine uCc ?_;rintro _ K _ ⟨rfl,rfl⟩ -;refine dl_nil ?_;refine aE (aH ?_);refine kJ (yA (s:=t) (M:=[]) (l:= -1) (f:= -1) hm1 hm2 hop hpv) ?_;refine uFz ?_;refine aG (aE ?_);refine bI ?_;refine bF rfl rfl (Hl.le_trans le1 le4) ?_;exact⟨_,rfl,rfl,_,hend,rfl⟩
end Go.Proofs
end
section
namespace Go.Mach
open Go.Syn
structure ActOk (a:Action):Prop where
 lo:1≤a.1
 hi:a.1≤4
 keep:a.1=1→a.2=[]
 box:a.1=2→boxed a.2=true
 len:a.2.length≤48
structure ActsOk (l:List Action):Prop where
 len:l.length≤6
 nodup:l.Nodup
 ok:∀a∈l,ActOk a
structure AInv (s:MS):Prop where
 acts:ActsOk s.acts
 keep:s.keep=true→s.acts=[]
theorem AInv.same{s t:MS}(h:AInv s)(h1:t.acts=s.acts)(h2:t.keep=s.keep∨t.keep=false):AInv t:=
 ⟨h1▸h.acts,fun hk=>by rcases h2 with h2|h2;rw[h1];exact h.keep (h2▸hk);rw[h2]at hk;cases hk⟩
theorem wK{s t:MS}{b:Bool}(h:push s b=.ok t):t.acts=s.acts∧t.keep=s.keep:=by
 unfold push at h;split at h <;> cases h;exact⟨rfl,rfl⟩
theorem aQ9{s:MS}{r:Bool×MS}(h:pop s=.ok r):r.2.acts=s.acts∧r.2.keep=s.keep:=by
 unfold pop at h;split at h <;> cases h;exact⟨rfl,rfl⟩
theorem aI2{s t:MS}{by_:Int}{n:Nat}{yes:Bool}(h:jump s by_ n yes=.ok t):t.acts=s.acts∧t.keep=s.keep:=by
 unfold jump at h;split at h
 ·cases h;split <;> exact⟨rfl,rfl⟩
 ·cases h
theorem aQR{nm:Bool}{m:Msg}{o:Ins}{s t:MS}(h:matchI nm m o s=.ok t):t.acts=s.acts∧t.keep=s.keep:=by
 unfold matchI at h;split at h
 ·simp only[]at h;split at h
  ·have:=wK h;revert this;split <;> exact fun h=>h
  ·exact wK h
 ·cases h
theorem aXA{nm:Bool}{o:Ins}{s t:MS}(h:setI nm o s=.ok t):t.acts=s.acts∧t.keep=s.keep:=by
 unfold setI at h;split at h
 ·split at h
  ·cases h;exact⟨rfl,rfl⟩
  ·cases h
 ·cases h
theorem aBD{s:aM}(h:jY s=true):s.length≤32:=by
 unfold jY at h;split at h
 ·cases h
 ·simp only[Bool.and_eq_true,decide_eq_true_eq]at h;exact h.2
theorem aWB{nm:Bool}{o:Ins}{s t:MS}(hi:AInv s)(h:actI nm o s=.ok t):AInv t:=by
 unfold actI at h;split at h
 ·rename_i ht;simp only[]at h;split at h
  ·cases h
  ·rename_i hb;split at h
   ·cases h
   ·rename_i ha;split at h
    ·cases h;exact hi.same rfl (.inr rfl)
    ·rename_i hm;split at h
     ·cases h
     ·split at h
      ·cases h
      ·rename_i hl;cases h
       have hok:ActOk (actV o (actA nm o s)):=by
        have h1:o.tag=1→actA nm o s=[]:=fun e=>by unfold actA;rw[if_pos e]
        refine⟨by show 1≤o.tag;omega,by show o.tag≤4;omega,fun e=>?_,fun e=>?_,?_⟩
        ·have e':o.tag=1:=e;unfold actV;rw[if_neg aI];exact h1 e'
        ·have e':o.tag=2:=e;unfold actV;rw[if_neg aI]
         cases hbx:boxed (actA nm o s)with
         |true=>rfl
         |false=>exact absurd ⟨e',hbx⟩ hb
        ·unfold actV;split
         ·exact Nat.le_trans (List.length_take_le _ _) (Nat.le_refl _)
         ·rename_i h4
          show (actA nm o s).length≤48
          rcases(show o.tag=1∨o.tag=2∨o.tag=3 by omega)with e|e|e
          ·rw[h1 e];exact Nat.zero_le _
          ·cases hbx:boxed (actA nm o s)with
           |true=>have:=Go.Box.boxed_len hbx;omega
           |false=>exact absurd ⟨e,hbx⟩ hb
          ·cases hbx:jY (actA nm o s)with
           |true=>have:=aBD hbx;omega
           |false=>exact absurd ⟨e,hbx⟩ ha
       refine⟨⟨?_,?_,?_⟩,fun e=>by cases e⟩
       ·have:=hi.acts.len;simp only[List.length_append,List.length_singleton];omega
       ·refine List.nodup_append.2 ⟨hi.acts.nodup,by simp,fun a h1 b h2 e=>?_⟩
        rw[List.mem_singleton.1 h2]at e;exact hm (e▸h1)
       ·intro a h1;rcases List.mem_append.1 h1 with h1|h1
        ·exact hi.acts.ok a h1
        ·rw[List.mem_singleton.1 h1];exact hok
 ·cases h
theorem aXB{nm:Bool}{m:Msg}{n:Nat}{o:Ins}{s t:MS}(hi:AInv s)(h:step nm m n o s=.ok t):AInv t:=by
 have sm:∀ {t:MS},t.acts=s.acts∧t.keep=s.keep→AInv t:=fun h=>hi.same h.1 (.inl h.2)
 unfold step at h;split at h
 ·split at h
  ·exact sm (wK h)
  ·cases h
 split at h
 ·split at h
  ·cases h
  ·rename_i r hr;have h1:=aQ9 hr;have h2:=wK h
   exact sm ⟨h2.1.trans h1.1,h2.2.trans h1.2⟩
 split at h
 ·exact sm (aI2 h)
 split at h
 ·split at h
  ·cases h
  ·rename_i r hr;have h1:=aQ9 hr;have h2:=aI2 h
   exact sm ⟨h2.1.trans h1.1,h2.2.trans h1.2⟩
 split at h
 ·split at h
  ·cases h
  ·rename_i r hr;have h1:=aQ9 hr;have h2:=aI2 h
   exact sm ⟨h2.1.trans h1.1,h2.2.trans h1.2⟩
 split at h
 ·exact sm (aQR h)
 split at h
 ·exact sm (wK h)
 split at h
 ·split at h
  ·exact sm (wK h)
  ·cases h
 split at h
 ·exact aWB hi h
 split at h
 ·exact sm (aXA h)
 split at h
 ·cases h;exact hi.same rfl (.inr rfl)
 ·cases h
theorem aEE:ActsOk [(1,[])]:=⟨by simp,by simp,fun a h=>by rw[List.mem_singleton.1 h];exact⟨by omega,by omega,fun _=>rfl,fun h=>by simp at h,by simp⟩⟩
theorem AInv.out{s:MS}(h:AInv s):ActsOk (if s.keep=true then s.acts++[(1,[])]else s.acts):=by
 split
 ·rename_i hk;rw[h.keep hk];exact aEE
 ·exact h.acts
theorem AInv.start:AInv Mach.start:=⟨⟨by simp[Mach.start],by simp[Mach.start],fun a h=>by simp[Mach.start]at h⟩,fun _=>rfl⟩
theorem yC{nm:Bool}{m:Msg}{code:List Ins}:∀f st s,AInv s→ActsOk (loop nm m code f st s).acts
 |0,st,s,_=>⟨Nat.zero_le _,List.nodup_nil,fun a h=>by cases h⟩
 |f+1,st,s,h=>by
  unfold loop;split
  ·exact h.out
  ·split
   ·exact h.out
   ·split
    ·exact aEE
    ·rename_i t ht;exact yC f _ _ ((aXB h ht).same rfl (.inl rfl))
theorem aW5(nm:Bool)(code:List Ins)(m:Msg):ActsOk (run nm code m).acts:=by
 unfold run;split
 ·exact aEE
 ·exact yC _ _ _ AInv.start
end Go.Mach
namespace Go.Box
open Go.Syn Go.Mach
def nm(id:aM)(i:Nat)(a:Action):aM:=if a.1=1 then xK++id else if a.1=2 then boxP++a.2++xO++id else outN id i
theorem aMG{id text:aM}{i:Nat}{a:Action}(h:ActOk a):∃d,fM id text i a=.ok (nm id i a,d):=by
 have h1:=h.lo;have h2:=h.hi
 unfold fM nm
 by_cases e1:a.1=1
 ·exact⟨_,by rw[if_pos e1,if_pos e1]⟩
 by_cases e2:a.1=2
 ·exact⟨_,by rw[if_neg e1,if_pos e2,if_neg e1,if_pos e2,if_pos (h.box e2)]⟩
 by_cases e3:a.1=3
 ·exact⟨_,by rw[if_neg e1,if_neg e2,if_neg e1,if_neg e2,if_pos e3]⟩
 ·exact⟨_,by rw[if_neg e1,if_neg e2,if_neg e1,if_neg e2,if_neg e3,if_pos aI]⟩
def nms(id:aM):Nat→List Action→List aM
 |_,[]=>[]
 |i,a::r=>nm id i a::nms id (i+1) r
theorem aBZ{id text:aM}:∀ {acts:List Action} {i:Nat},(∀a∈acts,ActOk a)→∃fs,mU id text i acts=.ok fs∧fs.map (·.1)=nms id i acts
 | [],i,_=>⟨[],rfl,rfl⟩
 |a::r,i,h=>by
  obtain⟨d,hd⟩:=aMG (id:=id) (text:=text) (i:=i) (h a List.mem_cons_self);obtain⟨fs,h1,h2⟩:=aBZ (id:=id) (text:=text) (acts:=r) (i:=i+1) fun b hb=>h b (List.mem_cons_of_mem _ hb)
  exact⟨(nm id i a,d)::fs,by unfold mU;rw[hd,h1],by simp[nms,h2]⟩
theorem aEK{id:aM}{i:Nat}{a:Action}:∃c r,nm id i a=c::r∧(a.1=1→c=105)∧(a.1=2→c=98)∧(a.1≠1→a.1≠2→c=111):=by
 unfold nm
 by_cases e1:a.1=1
 ·exact⟨105,_,by rw[if_pos e1];rfl,fun _=>rfl,fun h=>by omega,fun h=>absurd e1 h⟩
 by_cases e2:a.1=2
 ·exact⟨98,_,by rw[if_neg e1,if_pos e2];rfl,fun h=>by omega,fun _=>rfl,fun _ h=>absurd e2 h⟩
 ·exact⟨111,_,by rw[if_neg e1,if_neg e2];rfl,fun h=>absurd h e1,fun h=>absurd h e2,fun _ _=>rfl⟩
theorem aI5{id:aM}{i:Nat}{a:Action}:nm id i a≠bQ:=by
 obtain⟨c,r,h,h1,h2,h3⟩:=aEK (id:=id) (i:=i) (a:=a);intro e;rw[h]at e;have ec:c=46:=by injection e
 by_cases e1:a.1=1
 ·rw[h1 e1]at ec;cases ec
 by_cases e2:a.1=2
 ·rw[h2 e2]at ec;cases ec
 ·rw[h3 e1 e2]at ec;cases ec
end Go.Box
end
section
namespace Go.Box
open Go.Syn Go.Proofs Go.SL
structure Up (k:Nat) (s:DSt):Prop where
 down:s.down=false
 l1:s.left < 0
 l2: -1 - (k:Int)≤s.left
 f1:s.full < 0
 f2: -1 - (k:Int)≤s.full
def DSt.dec(s:DSt):DSt:={s with left:=s.left - 1,full:=s.full - 1}
theorem Up.more{k j:Nat}{s:DSt}(h:Up k s)(hj:k≤j):Up j s:=⟨h.down,h.l1,by have:=h.l2;omega,h.f1,by have:=h.f2;omega⟩
theorem Up.dec{k:Nat}{s:DSt}(h:Up k s):Up (k+1) s.dec:=⟨h.down,by have:=h.l1;simp only[DSt.dec];omega,by have:=h.l2;simp only[DSt.dec];omega,by have:=h.f1;simp only[DSt.dec];omega,by have:=h.f2;simp only[DSt.dec];omega⟩
theorem Up.told{k:Nat}{s:DSt}(h:Up k s)(o:OpR):Up k (s.told o):=⟨h.down,h.l1,h.l2,h.f1,h.f2⟩
theorem Up.flush{k:Nat}{s:DSt}(h:Up k s):Up k s.flush:=⟨h.down,h.l1,h.l2,h.f1,h.f2⟩
theorem s5{k:Nat}{s:DSt}(h:Up k s)(hk:k≤1000000):eC s.left s.full s.down=(none,s.left - 1,s.full - 1,false):=by
 have:=h.l1;have:=h.l2;have:=h.f1;have:=h.f2
 unfold eC;rw[if_neg (by rw[h.down];simp;omega),if_neg aI,lT aI aI,lT aI aI]
theorem aDP{k:Nat}{s:DSt}(h:Up k s):({s with left:=s.left - 1,full:=s.full - 1,down:=false}:DSt)=s.dec:=by
 have:=h.down;cases s;simp_all[DSt.dec]
theorem aA8{k:Nat}{s:DSt}(h:Up k s)(hk:k≤1000000)(n d:aM):eP n d s=(none,s.dec.told ⟨1,n,[],d⟩):=by
 have ht:e6 ⟨1,n,[],d⟩ s=(none,s.dec.told ⟨1,n,[],d⟩):=by
  rw[vL (s5 h hk) (by simp),aDP h]
 unfold eP;rw[ht];rfl
theorem aNH{k:Nat}{s:DSt}(h:Up k s)(hk:k≤1000000){n d:aM}(hn:s.now n=some d):eK n s=(none,s.dec.told ⟨3,n,[],[]⟩):=by
 unfold eK;rw[vL (s5 h hk) (by simp[hn]),aDP h]
theorem vJ{k:Nat}{s:DSt}(h:Up k s)(hk:k≤1000000):d7 s=(none,s.dec.flush):=by
 unfold d7 DSt.we DSt.ws;rw[s5 h hk,aDP h];rfl
def Coh(s:DSt):Prop:=s.now=s.pend.foldl doF s.dur
theorem Coh.dec{s:DSt}(h:Coh s):Coh s.dec:=h
theorem Coh.told{s:DSt}(h:Coh s)(o:OpR):Coh (s.told o):=by
 unfold Coh DSt.told;simp only[List.foldl_append,List.foldl_cons,List.foldl_nil];rw[←show s.now=_ from h]
theorem Coh.flush{s:DSt}(h:Coh s):Coh s.flush∧s.flush.dur=s.now∧s.flush.now=s.now:=⟨h,h.symm,rfl⟩
theorem aJW{xs:List File}:∀ {k:Nat} {s:DSt} (t:List (DSt→Er×DSt)),Up k s→Coh s→k+xs.length≤1000000→∃s',dY (fC xs++t) s=dY t s'∧Up (k+xs.length) s'∧Coh s'∧s'.now=kW xs s.now:=by
 induction xs with
 |nil=>intro k s t h hc _;exact⟨s,rfl,h,hc,rfl⟩
 |cons x r ih=>
  intro k s t h hc hk;simp only[List.length_cons]at hk;have hw:=aA8 h aI x.1 x.2;obtain⟨s',h1,h2,h3,h4⟩:=ih (k:=k+1) (s:=s.dec.told ⟨1,x.1,[],x.2⟩) t (h.dec.told _) (hc.dec.told _) aI;refine⟨s',?_,?_,h3,?_⟩
  ·show dY (eP x.1 x.2::(fC r++t)) s=_
   simp only[dY,hw];exact h1
  ·have e:k+(x::r).length=k+1+r.length:=by simp only[List.length_cons];omega
   rw[e];exact h2
  ·rw[h4];rfl
theorem aCI{xs:List File}{n:aM}:∀ {f:DMap},(f n).isSome=true→(kW xs f n).isSome=true:=by
 induction xs with
 |nil=>intro f h;exact h
 |cons x r ih=>intro f h;exact ih (f:=f.put x.1 x.2) (by unfold DMap.put;split <;> first|rfl|exact h)
def after(xs:List File)(f:DMap):DMap:=(kW xs (f.put bQ (eV xs))).cut bQ
theorem aIE{xs:List File}{k:Nat}{s:DSt}(h:Up k s)(hc:Coh s)(hk:k+xs.length≤900000):
  ∃s',gJ xs s=(none,s')∧Up (k+xs.length+5) s'∧s'.pend=[]∧s'.dur=after xs s.now∧s'.now=after xs s.now:=by
 have hw:=aA8 h aI bQ (eV xs);have u1:=h.dec.told ⟨1,bQ,[],eV xs⟩;have c1:=hc.dec.told ⟨1,bQ,[],eV xs⟩;have hs:=vJ u1 aI;have u2:=u1.dec.flush;have c2:=c1.dec.flush;obtain⟨s',h1,h2,h3,h4⟩:=aJW (xs:=xs) [d7,eK bQ,d7] u2 c2.1 aI;have hs2:=vJ h2 aI;have u3:=h2.dec.flush;have c3:=h3.dec.flush;obtain⟨d,hd⟩:∃d,(s'.dec.flush).now bQ=some d:=by
  have:(kW xs (s.now.put bQ (eV xs)) bQ).isSome=true:=aCI (by unfold DMap.put;rw[if_pos rfl];rfl);have e:(s'.dec.flush).now=kW xs (s.now.put bQ (eV xs)):=h4;rw[←e]at this;exact Option.isSome_iff_exists.1 this
 have hr:=aNH u3 aI hd;have u4:=u3.dec.told ⟨3,bQ,[],[]⟩;have c4:=c3.1.dec.told ⟨3,bQ,[],[]⟩;have hs3:=vJ u4 aI;have u5:=u4.dec.flush;have c5:=c4.dec.flush;refine⟨_,?_,u5.more aI,rfl,?_,?_⟩
 ·unfold gJ;simp only[dY,hw,hs];unfold fZ;rw[h1];simp only[dY,hs2,hr,hs3]
  rfl
 ·rw[c5.2.1]
  show doF (s'.now) ⟨3,bQ,[],[]⟩=_
  rw[h4];rfl
 ·rw[c5.2.2]
  show doF (s'.now) ⟨3,bQ,[],[]⟩=_
  rw[h4];rfl
structure Rest (s:DSt):Prop where
 down:s.down=false
 pend:s.pend=[]
 now:s.now=s.dur
 left:s.left= -1
 full:s.full= -1
theorem Rest.up{s:DSt}(h:Rest s):Up 0 s:=⟨h.down,by rw[h.left];omega,by rw[h.left];omega,by rw[h.full];omega,by rw[h.full];omega⟩
theorem Rest.set{s:DSt}(h:Rest s):s.set (-1) (-1)=s:=by have:=h.left;have:=h.full;cases s;simp_all[DSt.set]
theorem Rest.coh{s:DSt}(h:Rest s):Coh s:=by unfold Coh;rw[h.pend,h.now];rfl
def boxF(id:aM)(acts:List Mach.Action)(text:aM)(f:DMap):Int×DMap:=match gN id acts text with
 | .error e=>(e,f)
 | .ok xs=>(0,after xs f)
theorem aPB{id:aM}{acts:List Mach.Action}{text:aM}{s:DSt}(h:Rest s)(hl:∀xs,gN id acts text=.ok xs→xs.length≤100):
  errn (iV id acts text (s.set (-1) (-1))).1=(boxF id acts text s.dur).1∧(iV id acts text (s.set (-1) (-1))).2.down=false∧∀t,kF (iV id acts text (s.set (-1) (-1))).2 t→Rest t∧t.dur=(boxF id acts text s.dur).2:=by
 rw[h.set];unfold iV boxF;cases hf:gN id acts text with
 |error e=>
  refine⟨rfl,h.down,fun t ht=>?_⟩
  unfold kF at ht;rw[if_neg (by simp[h.down]),h.set]at ht;subst ht;exact⟨h,rfl⟩
 |ok xs=>
  have:=hl xs hf;obtain⟨s',h1,h2,h3,h4,h5⟩:=aIE (xs:=xs) h.up h.coh aI;simp only[h1];refine⟨rfl,h2.down,fun t ht=>?_⟩
  unfold kF at ht;rw[if_neg (by simp[h2.down])]at ht;subst ht;rw[h.now]at h4 h5;exact⟨⟨h2.down,h3,by simp only[DSt.set];rw[h4,h5],rfl,rfl⟩,h4⟩
theorem aGY{xs:List File}{n:aM}:∀ {f g:DMap},f n=g n→kW xs f n=kW xs g n:=by
 induction xs with
 |nil=>intro f g h;exact h
 |cons x r ih=>intro f g h;exact ih (f:=f.put x.1 x.2) (g:=g.put x.1 x.2) (by unfold DMap.put;split <;> first|rfl|exact h)
theorem wL{xs:List File}{n:aM}:∀ {f:DMap},(∃x∈xs,x.1=n)→∀g:DMap,kW xs f n=kW xs g n:=by
 induction xs with
 |nil=>intro f ⟨x,h,_⟩;cases h
 |cons x r ih=>
  intro f ⟨y,hy,e⟩ g
  by_cases h:∃x∈r,x.1=n
  ·exact ih h _
  ·rcases List.mem_cons.1 hy with rfl|hy
   ·exact aGY (f:=f.put y.1 y.2) (g:=g.put y.1 y.2) (by unfold DMap.put;rw[if_pos e.symm,if_pos e.symm])
   ·exact absurd ⟨y,hy,e⟩ h
theorem sK{xs:List File}{n:aM}:∀ {f:DMap},(¬ ∃x∈xs,x.1=n)→kW xs f n=f n:=by
 induction xs with
 |nil=>intro f _;rfl
 |cons x r ih=>
  intro f h;have h1:kW r (f.put x.1 x.2) n=f.put x.1 x.2 n:=ih fun⟨y,hy,e⟩=>h ⟨y,List.mem_cons_of_mem _ hy,e⟩
  show kW r (f.put x.1 x.2) n=f n
  rw[h1];unfold DMap.put;rw[if_neg fun e=>h ⟨x,List.mem_cons_self,e.symm⟩]
theorem lW{xs:List File}{f:DMap}{n:aM}(hn:n≠bQ):after xs f n=kW xs f n:=by
 unfold after DMap.cut;rw[if_neg hn];exact aGY (by unfold DMap.put;rw[if_neg hn])
theorem mK{xs:List File}{f:DMap}:after xs f bQ=none:=by unfold after DMap.cut;rw[if_pos rfl]
theorem xB(xs:List File)(f:DMap):after xs (after xs f)=after xs f:=by
 funext n
 by_cases hn:n=bQ
 ·subst hn;rw[mK,mK]
 ·rw[lW hn,lW hn]
  by_cases h:∃x∈xs,x.1=n
  ·exact wL h _
  ·rw[sK h,lW hn]
theorem aL6{xs:List File}{f:DMap}{ns:List aM}(h:aBO f ns):aBO (after xs f) (xs.map (·.1)++ns):=by
 intro n hn
 by_cases hj:n=bQ
 ·subst hj;rw[mK]at hn;cases hn
 ·rw[lW hj]at hn
  by_cases hx:∃x∈xs,x.1=n
  ·obtain⟨x,hx,rfl⟩:=hx;exact List.mem_append_left _ (List.mem_map_of_mem hx)
  ·rw[sK hx]at hn;exact List.mem_append_right _ (h n hn)
end Go.Box
end
section
namespace Go.Box
open Go.Syn Go.Proofs Go.SL
structure Run (k:Nat) (s:DSt):Prop where
 down:s.down=false
 l1: -1 - (k:Int)≤s.left
 l2:s.left≤1000000
 f1:s.full < 0
 f2: -1 - (k:Int)≤s.full
theorem Run.told{k:Nat}{s:DSt}(h:Run k s)(o:OpR):Run k (s.told o):=⟨h.down,h.l1,h.l2,h.f1,h.f2⟩
theorem Run.flush{k:Nat}{s:DSt}(h:Run k s):Run k s.flush:=⟨h.down,h.l1,h.l2,h.f1,h.f2⟩
theorem Run.more{k j:Nat}{s:DSt}(h:Run k s)(hj:k≤j):Run j s:=⟨h.down,by have:=h.l1;omega,h.l2,h.f1,by have:=h.f2;omega⟩
theorem uF{k:Nat}{s:DSt}(h:Run k s)(hk:k≤1000000):
  (s.we=none∧s.ws=s.dec∧Run (k+1) s.dec)∨(s.we=some 16∧s.ws={s with down:=true}):=by
 have h1:=h.l1;have h2:=h.l2;have h3:=h.f1;have h4:=h.f2
 by_cases hl:s.left=0
 ·right
  have e:eC s.left s.full s.down=(some 16,s.left,s.full,true):=by unfold eC;rw[if_pos (.inr hl)]
  unfold DSt.we DSt.ws;rw[e];exact⟨rfl,rfl⟩
 ·left
  have e:eC s.left s.full s.down=(none,s.left - 1,s.full - 1,false):=by
   unfold eC;rw[if_neg (by rw[h.down];simp;exact hl),if_neg aI,lT aI aI,lT aI aI]
  unfold DSt.we DSt.ws;rw[e]
  refine⟨rfl,?_,h.down,?_,?_,?_,?_⟩
  ·have:=h.down;cases s;simp_all[DSt.dec]
  all_goals simp only[DSt.dec];omega
theorem aDF{k:Nat}{s:DSt}(h:Run k s)(hk:k≤1000000)(n d:aM):
  eP n d s=(none,s.dec.told ⟨1,n,[],d⟩)∧Run (k+1) (s.dec.told ⟨1,n,[],d⟩)∨
  ∃s',eP n d s=(some 16,s')∧s'.down=true∧s'.dur=s.dur∧s'.pend=s.pend++[⟨1,n,[],d⟩]:=by
 rcases uF h hk with ⟨h1,h2,h3⟩|⟨h1,h2⟩
 ·left
  have ht:e6 ⟨1,n,[],d⟩ s=(none,s.dec.told ⟨1,n,[],d⟩):=by
   unfold e6;rw[h1,h2,if_neg (by simp),if_neg (by simp)]
  exact⟨by unfold eP;rw[ht];rfl,h3.told _⟩
 ·right
  have ht:e6 ⟨1,n,[],d⟩ s=(some 16,{s with down:=true}):=by unfold e6;rw[h1,h2];rfl
  refine⟨({s with down:=true}:DSt).add ⟨1,n,[],d⟩,by unfold eP;rw[ht];rfl,rfl,rfl,rfl⟩
theorem aAF{k:Nat}{s:DSt}(h:Run k s)(hk:k≤1000000){n d:aM}(hn:s.now n=some d):
  eK n s=(none,s.dec.told ⟨3,n,[],[]⟩)∧Run (k+1) (s.dec.told ⟨3,n,[],[]⟩)∨
  ∃s',eK n s=(some 16,s')∧s'.down=true∧s'.dur=s.dur∧s'.pend=s.pend:=by
 rcases uF h hk with ⟨h1,h2,h3⟩|⟨h1,h2⟩
 ·left
  exact⟨by unfold eK e6;rw[h1,h2,if_neg (by simp),if_neg (by simp[hn])],h3.told _⟩
 ·right
  exact⟨{s with down:=true},by unfold eK e6;rw[h1,h2];rfl,rfl,rfl,rfl⟩
theorem rR{k:Nat}{s:DSt}(h:Run k s)(hk:k≤1000000):
  d7 s=(none,s.dec.flush)∧Run (k+1) s.dec.flush∨∃s',d7 s=(some 16,s')∧s'.down=true∧s'.dur=s.dur∧s'.pend=s.pend:=by
 rcases uF h hk with ⟨h1,h2,h3⟩|⟨h1,h2⟩
 ·left;exact⟨by unfold d7;rw[h1,h2];rfl,h3.flush⟩
 ·right;exact⟨{s with down:=true},by unfold d7;rw[h1,h2];rfl,rfl,rfl,rfl⟩
theorem aGH{P:DMap→Prop}{b:Bool}{os:List OpR}{f g:DMap}(h:Left b os f g):(∀o∈os,∀m,P m→P (doF m o))→(∀o∈os,o.kind=1→∀d,d<+:o.data→∀m,P m→P (m.put o.name d))→P f→P g:=by
 induction h with
 |nil=>intro _ _ h;exact h
 |lost _ ih=>intro h1 h2 h;exact ih (fun o ho=>h1 o (List.mem_cons_of_mem _ ho)) (fun o ho=>h2 o (List.mem_cons_of_mem _ ho)) h
 |kept _ ih=>intro h1 h2 h;exact ih (fun o ho=>h1 o (List.mem_cons_of_mem _ ho)) (fun o ho=>h2 o (List.mem_cons_of_mem _ ho)) (h1 _ List.mem_cons_self _ h)
 |torn hk hd _ ih=>intro h1 h2 h;exact ih (fun o ho=>h1 o (List.mem_cons_of_mem _ ho)) (fun o ho=>h2 o (List.mem_cons_of_mem _ ho)) (h2 _ List.mem_cons_self hk _ hd _ h)
 |none _ _ _ ih=>intro h1 h2 h;exact ih (fun o ho=>h1 o (List.mem_cons_of_mem _ ho)) (fun o ho=>h2 o (List.mem_cons_of_mem _ ho)) h
def J1(xs:List File)(f g:DMap):Prop:=(∀n,n≠bQ→g n=f n)∧(g bQ=none∨∃d,d<+:eV xs∧g bQ=some d)
def J2(xs:List File)(f g:DMap):Prop:=g bQ=some (eV xs)∧∀n,n≠bQ→(¬ ∃x∈xs,x.1=n)→g n=f n
def J(xs:List File)(f g:DMap):Prop:=J1 xs f g∨J2 xs f g∨g=after xs f
section
variable{xs:List File}{f:DMap}
theorem aQM{os:List OpR}{m g:DMap}(ho:∀o∈os,o=⟨1,bQ,[],eV xs⟩)(h:J1 xs f m)(hl:Left true os m g):J1 xs f g:=by
 refine aGH (P:=J1 xs f) hl (fun o h1 m' hm=>?_) (fun o h1 _ d hd m' hm=>?_) h
 ·rw[ho o h1];exact⟨fun n hn=>by show (m'.put bQ _) n=_;unfold DMap.put;rw[if_neg hn];exact hm.1 n hn,.inr ⟨_,List.prefix_refl _,by show (m'.put bQ _) bQ=_;unfold DMap.put;rw[if_pos rfl]⟩⟩
 ·rw[ho o h1]at hd ⊢;exact⟨fun n hn=>by unfold DMap.put;rw[if_neg hn];exact hm.1 n hn,.inr ⟨_,hd,by unfold DMap.put;rw[if_pos rfl]⟩⟩
theorem aQN{os:List OpR}{m g:DMap}(ho:∀o∈os,∃x∈xs,o.kind=1∧o.name=x.1)(hj:∀x∈xs,x.1≠bQ)(h:J2 xs f m)(hl:Left true os m g):J2 xs f g:=by
 have key:∀o∈os,∀d m',J2 xs f m'→J2 xs f (m'.put o.name d):=fun o h1 d m' hm=>by
  obtain⟨x,hx,-,h3⟩:=ho o h1;refine⟨?_,fun n hn hno=>?_⟩
  ·unfold DMap.put;rw[if_neg (by rw[h3];exact fun e=>hj x hx e.symm)];exact hm.1
  ·unfold DMap.put;rw[if_neg (by rw[h3];exact fun e=>hno ⟨x,hx,e.symm⟩)];exact hm.2 n hn hno
 refine aGH (P:=J2 xs f) hl (fun o h1 m' hm=>?_) (fun o h1 _ d hd m' hm=>key o h1 d m' hm) h
 obtain⟨x,hx,h2,h3⟩:=ho o h1;unfold doF;rw[if_pos h2];exact key o h1 _ m' hm
theorem r6:∀ {ys:List File} {k:Nat} {s:DSt} (t:List (DSt→Er×DSt)),(∀y∈ys,y∈xs)→Run k s→Coh s→k+ys.length≤1000000→(∀o∈s.pend,∃x∈xs,o.kind=1∧o.name=x.1)→
  (∃s',dY (fC ys++t) s=dY t s'∧Run (k+ys.length) s'∧Coh s'∧s'.now=kW ys s.now∧s'.dur=s.dur∧∀o∈s'.pend,∃x∈xs,o.kind=1∧o.name=x.1)∨
  (∃s',dY (fC ys++t) s=(some 16,s')∧s'.down=true∧s'.dur=s.dur∧∀o∈s'.pend,∃x∈xs,o.kind=1∧o.name=x.1)
 | [],k,s,t,_,h,hc,_,hp=>.inl ⟨s,rfl,h,hc,rfl,rfl,hp⟩
 |y::ys,k,s,t,hy,h,hc,hk,hp=>by
  simp only[List.length_cons]at hk;have hp2:∀o∈s.pend++[(⟨1,y.1,[],y.2⟩:OpR)],∃x∈xs,o.kind=1∧o.name=x.1:=fun o ho=>by
   rcases List.mem_append.1 ho with ho|ho
   ·exact hp o ho
   ·rw[List.mem_singleton.1 ho];exact⟨y,hy y List.mem_cons_self,rfl,rfl⟩
  have e:∀s,dY (fC (y::ys)++t) s=if (eP y.1 y.2 s).1.isSome=true then eP y.1 y.2 s else dY (fC ys++t) (eP y.1 y.2 s).2:=fun s=>rfl
  rcases aDF h aI y.1 y.2 with ⟨h1,h2⟩|⟨s',h1,h2,h3,h4⟩
  ·rw[e,h1];rcases r6 (ys:=ys) (k:=k+1) t (fun z hz=>hy z (List.mem_cons_of_mem _ hz)) h2 (hc.dec.told _) aI hp2 with ⟨s',g1,g2,g3,g4,g5,g6⟩|⟨s',g1,g2,g3,g4⟩
   ·have e2:k+(y::ys).length=k+1+ys.length:=by simp only[List.length_cons];omega
    exact .inl ⟨s',g1,e2▸g2,g3,g4,g5,g6⟩
   ·exact .inr ⟨s',g1,g2,g3,g4⟩
  ·rw[e,h1];exact .inr ⟨s',rfl,h2,h3,h4▸hp2⟩
theorem zJ{k:Nat}{s:DSt}(hj:∀x∈xs,x.1≠bQ)(h:Run k s)(hc:Coh s)(hp:s.pend=[])(h2:J2 xs f s.dur)(hk:k+xs.length≤900000):
  (∃s',fZ xs s=(none,s')∧s'.down=false∧s'.pend=[]∧s'.dur=after xs f∧s'.now=after xs f)∨
  (∃s',fZ xs s=(some 16,s')∧s'.down=true∧∀g,Left true s'.pend s'.dur g→J xs f g):=by
 have hsn:s.now=s.dur:=by have:=hc;unfold Coh at this;rw[hp]at this;exact this
 unfold fZ;rcases r6 (xs:=xs) [d7,eK bQ,d7] (fun _ h=>h) h hc aI (by rw[hp];intro o ho;cases ho)with ⟨s1,a1,a2,a3,a4,a5,a6⟩|⟨s',a1,a2,a3,a4⟩
 ·rw[a1];have hjs:s1.now bQ=some (eV xs):=by
   rw[a4,hsn,sK (fun⟨x,hx,e⟩=>hj x hx e)];exact h2.1
  have hJ2:J2 xs f s1.now:=by
   refine⟨hjs,fun n hn hno=>?_⟩
   rw[a4,hsn,sK hno];exact h2.2 n hn hno
  have haf:s1.now.cut bQ=after xs f:=by
   funext n
   by_cases hn:n=bQ
   ·subst hn;rw[mK];unfold DMap.cut;rw[if_pos rfl]
   ·rw[lW hn];unfold DMap.cut;rw[if_neg hn]
    by_cases hx:∃x∈xs,x.1=n
    ·rw[a4];exact wL hx f
    ·rw[sK hx];exact hJ2.2 n hn hx
  rcases rR a2 aI with ⟨b1,b2⟩|⟨s',b1,b2,b3,b4⟩
  ·have c1:=(a3.dec).flush;rcases aAF b2 aI (show s1.dec.flush.now bQ=some (eV xs)from hjs)with ⟨d1,d2⟩|⟨s',d1,d2,d3,d4⟩
   ·have c2:=(c1.1.dec.told ⟨3,bQ,[],[]⟩);rcases rR d2 aI with ⟨e1,e2⟩|⟨s',e1,e2,e3,e4⟩
    ·left
     refine⟨_,by simp only[dY,b1,d1,e1];rfl,e2.down,rfl,?_,?_⟩
     ·rw[(c2.dec.flush).2.1];exact haf
     ·rw[(c2.dec.flush).2.2];exact haf
    ·right
     refine⟨s',by simp only[dY,b1,d1,e1];rfl,e2,fun g hg=>?_⟩
     rw[e4,e3]at hg;have hpd:(s1.dec.flush.dec.told ⟨3,bQ,[],[]⟩).pend=[⟨3,bQ,[],[]⟩]:=rfl;have hdd:(s1.dec.flush.dec.told ⟨3,bQ,[],[]⟩).dur=s1.now:=c1.2.1;rw[hpd,hdd]at hg;have hP:∀g,Left true [⟨3,bQ,[],[]⟩] s1.now g→g=s1.now∨g=s1.now.cut bQ:=fun g hg=>by
      cases hg with
      |lost h=>cases h;exact .inl rfl
      |kept h=>cases h;exact .inr rfl
      |torn h1 _ _=>exact absurd h1 (by decide)
      |none _ _ h=>cases h;exact .inl rfl
     rcases hP g hg with rfl|rfl
     ·exact .inr (.inl hJ2)
     ·exact .inr (.inr haf)
   ·right
    refine⟨s',by simp only[dY,b1,d1];rfl,d2,fun g hg=>?_⟩
    rw[d4,d3]at hg;have hpd:s1.dec.flush.pend=[]:=rfl;rw[hpd,c1.2.1]at hg;cases hg
    exact .inr (.inl hJ2)
  ·right
   refine⟨s',by simp only[dY,b1];rfl,b2,fun g hg=>?_⟩
   rw[b4,b3,a5]at hg;exact .inr (.inl (aQN a6 hj h2 hg))
 ·rw[a1]
  right
  refine⟨s',rfl,a2,fun g hg=>?_⟩
  rw[a3]at hg;exact .inr (.inl (aQN a4 hj h2 hg))
theorem aFV{k:Nat}{s:DSt}(hj:∀x∈xs,x.1≠bQ)(h:Run k s)(hn:s.now=f)(hd:s.dur=f)(hp:s.pend=[])(hfj:f bQ=none)(hk:k+xs.length≤800000):
  (∃s',gJ xs s=(none,s')∧s'.down=false∧s'.pend=[]∧s'.dur=after xs f∧s'.now=after xs f)∨
  (∃s',gJ xs s=(some 16,s')∧s'.down=true∧∀g,Left true s'.pend s'.dur g→J xs f g):=by
 have hc:Coh s:=by unfold Coh;rw[hp,hn,hd];rfl
 have hf1:J1 xs f f:=⟨fun _ _=>rfl,.inl hfj⟩;unfold gJ;rcases aDF h aI bQ (eV xs)with ⟨a1,a2⟩|⟨s',a1,a2,a3,a4⟩
 ·have c1:=hc.dec.told ⟨1,bQ,[],eV xs⟩;have hp1:(s.dec.told ⟨1,bQ,[],eV xs⟩).pend=[⟨1,bQ,[],eV xs⟩]:=by show s.pend++_=_;rw[hp];rfl
  rcases rR a2 aI with ⟨b1,b2⟩|⟨s',b1,b2,b3,b4⟩
  ·have c2:=c1.dec.flush;have hJ2:J2 xs f (s.dec.told ⟨1,bQ,[],eV xs⟩).dec.flush.dur:=by
    rw[c2.2.1]
    show J2 xs f (s.now.put bQ (eV xs))
    rw[hn];exact⟨by unfold DMap.put;rw[if_pos rfl],fun n hn _=>by unfold DMap.put;rw[if_neg hn]⟩
   have:=zJ hj b2 c2.1 rfl hJ2 aI;simp only[dY,a1,b1];rcases this with ⟨s',e1,e2,e3,e4,e5⟩|⟨s',e1,e2,e3⟩
   ·exact .inl ⟨s',by rw[e1];rfl,e2,e3,e4,e5⟩
   ·exact .inr ⟨s',by rw[e1];rfl,e2,e3⟩
  ·right
   refine⟨s',by simp only[dY,a1,b1];rfl,b2,fun g hg=>?_⟩
   rw[b4,b3,hp1,show (s.dec.told ⟨1,bQ,[],eV xs⟩).dur=f from hd]at hg;exact .inl (aQM (fun o ho=>List.mem_singleton.1 ho) hf1 hg)
 ·right
  refine⟨s',by simp only[dY,a1];rfl,a2,fun g hg=>?_⟩
  rw[a4,a3,hp,hd]at hg;exact .inl (aQM (fun o ho=>List.mem_singleton.1 ho) hf1 hg)
end
noncomputable def saysOf(xs:List File)(g:DMap):Option (List File):=open Classical in if g bQ=some (eV xs)then some xs else none
theorem aW8{xs:List File}{f g:DMap}(hx:oJ xs)(hfj:f bQ=none)(h:J xs f g){d:aM}(hd:g bQ=some d):o6 d (saysOf xs g):=by
 refine⟨xs,hx,?_⟩
 unfold saysOf
 by_cases hp:d=eV xs
 ·left;exact⟨hp,by rw[if_pos (by rw[hd,hp])]⟩
 ·right
  refine⟨?_,hp,by rw[if_neg (by rw[hd];intro e;injection e with e;exact hp e)]⟩
  rcases h with h|h|h
  ·rcases h.2 with h2|⟨d',h2,h3⟩
   ·rw[h2]at hd;cases hd
   ·rw[h3]at hd;cases hd;exact h2
  ·rw[h.1]at hd;injection hd with hd;exact absurd hd.symm hp
  ·rw[h,mK]at hd;cases hd
theorem aG2{xs:List File}{f:DMap}{k:Nat}{s:DSt}(hj:∀x∈xs,x.1≠bQ)(h:Run k s)(hr:s.pend=[])(hn:s.now=s.dur)(hfj:f bQ=none)(hJ:J xs f s.dur)(hk:k+xs.length≤800000):
  (∃s',dZ (saysOf xs s.dur) s=(none,s')∧s'.down=false∧s'.pend=[]∧s'.now=s'.dur∧(s'.dur=f∨s'.dur=after xs f))∨
  (∃s',dZ (saysOf xs s.dur) s=(some 16,s')∧s'.down=true∧∀g,Left true s'.pend s'.dur g→J xs f g):=by
 have hc:Coh s:=by unfold Coh;rw[hr,hn];rfl
 rcases rR h aI with ⟨a1,a2⟩|⟨s',a1,a2,a3,a4⟩
 ·have c1:=hc.dec.flush;have hd1:s.dec.flush.dur=s.dur:=c1.2.1.trans hn;have hn1:s.dec.flush.now=s.dur:=c1.2.2.trans hn;have hrd:pI bQ s.dec.flush=match s.dur bQ with|none=>([],some 14)|some d=>(d,none):=by
   unfold pI;rw[if_neg (by rw[a2.down];simp),hn1] <;> cases s.dur bQ <;> rfl
  cases hdj:s.dur bQ with
  |none=>
   left
   rw[hdj]at hrd;refine⟨_,by unfold dZ;rw[a1];simp only[hrd];rfl,a2.down,rfl,hn1.trans hd1.symm,?_⟩
   rw[hd1];rcases hJ with h1|h1|h1
   ·left;funext n
    by_cases hnj:n=bQ
    ·rw[hnj,hdj,hfj]
    ·exact h1.1 n hnj
   ·rw[h1.1]at hdj;cases hdj
   ·exact .inr h1
  |some d=>
   rw[hdj]at hrd;have e:dZ (saysOf xs s.dur) s=yU (saysOf xs s.dur) s.dec.flush:=by unfold dZ;rw[a1];simp only[hrd];rfl
   rw[e];unfold saysOf
   by_cases hp:s.dur bQ=some (eV xs)
   ·rw[if_pos hp];have h2:J2 xs f s.dec.flush.dur:=by
     rw[hd1];rcases hJ with h1|h1|h1
     ·exact⟨hp,fun n hn _=>h1.1 n hn⟩
     ·exact h1
     ·rw[h1,mK]at hp;cases hp
    rcases zJ hj a2 c1.1 rfl h2 aI with ⟨s',e1,e2,e3,e4,e5⟩|h3
    ·exact .inl ⟨s',e1,e2,e3,e5.trans e4.symm,.inr e4⟩
    ·exact .inr h3
   ·rw[if_neg hp];have h1:J1 xs f s.dur:=by
     rcases hJ with h1|h1|h1
     ·exact h1
     ·exact absurd h1.1 hp
     ·rw[h1,mK]at hdj;cases hdj
    have hcut:s.dur.cut bQ=f:=by
     funext n
     by_cases hnj:n=bQ
     ·subst hnj;unfold DMap.cut;rw[if_pos rfl,hfj]
     ·unfold DMap.cut;rw[if_neg hnj];exact h1.1 n hnj
    unfold yU;rcases aAF a2 aI (show s.dec.flush.now bQ=some d by rw[hn1];exact hdj)with ⟨d1,d2⟩|⟨s',d1,d2,d3,d4⟩
    ·have c2:=c1.1.dec.told ⟨3,bQ,[],[]⟩;have hpd:(s.dec.flush.dec.told ⟨3,bQ,[],[]⟩).pend=[⟨3,bQ,[],[]⟩]:=rfl;have hdd:(s.dec.flush.dec.told ⟨3,bQ,[],[]⟩).dur=s.dur:=hd1;have hnn:(s.dec.flush.dec.told ⟨3,bQ,[],[]⟩).now=f:=by
      show (s.dec.flush.now).cut bQ=f
      rw[hn1,hcut]
     rcases rR d2 aI with ⟨e1,e2⟩|⟨s',e1,e2,e3,e4⟩
     ·left
      refine⟨_,by simp only[dY,d1,e1];rfl,e2.down,rfl,?_,.inl ?_⟩
      ·exact((c2.dec.flush).2.2).trans ((c2.dec.flush).2.1).symm
      ·exact((c2.dec.flush).2.1).trans hnn
     ·right
      refine⟨s',by simp only[dY,d1,e1];rfl,e2,fun g hg=>?_⟩
      rw[e4,e3,hpd,hdd]at hg;cases hg with
      |lost h=>cases h;exact .inl h1
      |kept h=>
       cases h
       show J xs f (s.dur.cut bQ)
       rw[hcut];exact .inl ⟨fun _ _=>rfl,.inl hfj⟩
      |torn h1 _ _=>exact absurd h1 (by decide)
      |none _ _ h=>cases h;exact .inl h1
    ·right
     refine⟨s',by simp only[dY,d1];rfl,d2,fun g hg=>?_⟩
     have hpd:s.dec.flush.pend=[]:=rfl;rw[d4,d3,hpd,hd1]at hg;cases hg;exact .inl h1
 ·right
  refine⟨s',by unfold dZ;rw[a1];rfl,a2,fun g hg=>?_⟩
  rw[a4,a3,hr]at hg;cases hg;exact hJ
end Go.Box
end
section
namespace Go.Box
open Go.Syn Go.Mach Go.Proofs Go.SL
theorem aW0{id:aM}{i j:Nat}{a b:Action}(ha:ActOk a)(hb:ActOk b)(hij:i≠j)(hab:a≠b):nm id i a≠nm id j b:=by
 intro e;obtain⟨c,r,h,h1,h2,h3⟩:=aEK (id:=id) (i:=i) (a:=a);obtain⟨c',r',h',h1',h2',h3'⟩:=aEK (id:=id) (i:=j) (a:=b);have hc:c=c':=by rw[h,h']at e;injection e
 have ne1:(105:UInt8)≠98:=by decide
 have ne2:(105:UInt8)≠111:=by decide
 have ne3:(98:UInt8)≠111:=by decide
 by_cases e1:a.1=1
 ·by_cases f1:b.1=1
  ·exact hab (Prod.ext (e1.trans f1.symm) ((ha.keep e1).trans (hb.keep f1).symm))
  by_cases f2:b.1=2
  ·exact ne1 (by rw[←h1 e1,←h2' f2,hc])
  ·exact ne2 (by rw[←h1 e1,←h3' f1 f2,hc])
 by_cases e2:a.1=2
 ·by_cases f1:b.1=1
  ·exact ne1 (by rw[←h1' f1,←h2 e2,hc])
  by_cases f2:b.1=2
  ·unfold nm at e;rw[if_neg e1,if_pos e2,if_neg f1,if_pos f2]at e;exact hab (Prod.ext (e2.trans f2.symm) (List.append_cancel_left (List.append_cancel_right (List.append_cancel_right e))))
  ·exact ne3 (by rw[←h2 e2,←h3' f1 f2,hc])
 ·by_cases f1:b.1=1
  ·exact ne2 (by rw[←h1' f1,←h3 e1 e2,hc])
  by_cases f2:b.1=2
  ·exact ne3 (by rw[←h2' f2,←h3 e1 e2,hc])
  ·unfold nm at e;rw[if_neg e1,if_neg e2,if_neg f1,if_neg f2]at e;exact hij (aGE (List.append_cancel_left (show outP++id++[46]++Lib.itoa (i:Int)=outP++id++[46]++Lib.itoa (j:Int)from e)))
theorem aEL{id:aM}{n:aM}:∀ {acts:List Action} {i:Nat},n∈nms id i acts→∃j a,i≤j∧a∈acts∧n=nm id j a
 | [],i,h=>by cases h
 |a::r,i,h=>by
  rcases List.mem_cons.1 h with h|h
  ·exact⟨i,a,Nat.le_refl _,List.mem_cons_self,h⟩
  ·obtain⟨j,b,h1,h2,h3⟩:=aEL h;exact⟨j,b,by omega,List.mem_cons_of_mem _ h2,h3⟩
theorem aCD{id:aM}:∀ {acts:List Action} {i:Nat},(∀a∈acts,ActOk a)→acts.Nodup→(nms id i acts).Nodup
 | [],i,_,_=>List.nodup_nil
 |a::r,i,h,nd=>by
  have nd':=List.nodup_cons.1 nd;refine List.nodup_cons.2 ⟨fun hm=>?_,aCD (fun b hb=>h b (List.mem_cons_of_mem _ hb)) nd'.2⟩
  obtain⟨j,b,h1,h2,h3⟩:=aEL hm;exact aW0 (h a List.mem_cons_self) (h b (List.mem_cons_of_mem _ h2)) aI (fun e=>nd'.1 (e▸h2)) h3
theorem aPC{s:aM}(h:boxed s=true):m6 s:=by
 have key:∀c∈s,∃i,g0 i c=true:=fun c hc=>by
  unfold boxed at h;simp only[Bool.and_eq_true,List.all_eq_true]at h;obtain⟨i,hi,e⟩:=List.mem_iff_getElem.1 hc;refine⟨i,?_⟩
  have:=h.1.1 i (List.mem_range.2 hi);rw[List.getElem?_eq_getElem hi,e]at this;exact this
 have no:∀c:UInt8,f3 c=false→c.toNat≠45→c.toNat≠46→∀i,g0 i c=false:=fun c h1 h2 h3 i=>by
  unfold g0;rw[h1,decide_eq_false h2,decide_eq_false h3];rfl
 constructor
 ·intro hc;obtain⟨i,hi⟩:=key _ hc;rw[no 10 (by decide) (by decide) (by decide) i]at hi;cases hi
 ·intro hc;obtain⟨i,hi⟩:=key _ hc;rw[no 32 (by decide) (by decide) (by decide) i]at hi;cases hi
theorem m6.app{a b:aM}(h1:m6 a)(h2:m6 b):m6 (a++b):=⟨fun h=>(List.mem_append.1 h).elim h1.1 h2.1,fun h=>(List.mem_append.1 h).elim h1.2 h2.2⟩
theorem aYF{id:aM}{i:Nat}{a:Action}(hid:m6 id)(ha:ActOk a):m6 (nm id i a):=by
 have lit:∀l:aM,(l.all fun c=>decide (c≠10)&&decide (c≠32))=true→m6 l:=fun l h=>
  ⟨fun hm=>by have:=List.all_eq_true.1 h _ hm;simp at this,fun hm=>by have:=List.all_eq_true.1 h _ hm;simp at this⟩
 unfold nm;split
 ·exact(lit xK (by decide)).app hid
 ·split
  ·rename_i h2;exact(((lit boxP (by decide)).app (aPC (ha.box h2))).app (lit xO (by decide))).app hid
  ·exact(((lit outP (by decide)).app hid).app (lit [46] (by decide))).app ⟨aB3 i,wE i⟩
theorem aMH{id text:aM}{acts:List Action}(hid:pC id=false)(hin:m6 id)(ht:text.length≤1048576)(h:ActsOk acts):
  ∃xs,gN id acts text=.ok xs∧xs.length=acts.length∧oJ xs∧(xs.map (·.1)).Nodup∧∀x∈xs,x.1≠bQ:=by
 obtain⟨xs,h1,h2⟩:=aBZ (id:=id) (text:=text) (acts:=acts) (i:=0) h.ok;have h3:gN id acts text=.ok xs:=by unfold gN;rw[if_neg (by rw[hid];simp),if_neg (by have:=h.len;omega)];exact h1
 obtain⟨l1,l2,l3⟩:=zI ht (fun a ha=>by have:=(h.ok a ha).len;omega) h3;have hm:∀x∈xs,∃j a,a∈acts∧x.1=nm id j a:=fun x hx=>by
  obtain⟨j,a,_,h4,h5⟩:=aEL (i:=0) (show x.1∈nms id 0 acts from h2▸List.mem_map_of_mem (f:=fun x:File=>x.1) hx);exact⟨j,a,h4,h5⟩
 refine⟨xs,h3,l1,⟨fun x hx=>?_,by omega,by omega⟩,h2▸aCD h.ok h.nodup,fun x hx=>?_⟩
 ·obtain⟨j,a,h4,h5⟩:=hm x hx;rw[h5];exact aYF hin (h.ok a h4)
 ·obtain⟨j,a,h4,h5⟩:=hm x hx;rw[h5];exact aI5
theorem xF{xs:List File}{ys:List iZ}(hj:∀x∈xs,x.1≠bQ)(nd:(xs.map (·.1)).Nodup)(h:xX (after xs fun _=>none) ys):ys.length=xs.length:=by
 have hdom:∀n,n∈ys.map (·.1)↔n∈xs.map (·.1):=fun n=>by
  constructor
  ·intro hm;obtain⟨⟨n',d⟩,hm2,rfl⟩:=List.mem_map.1 hm;have:=(h.1 n' d).1 hm2
   show n'∈_
   by_cases hnj:n'=bQ
   ·rw[hnj,mK]at this;cases this
   ·rw[lW hnj]at this
    by_cases hx:∃x∈xs,x.1=n'
    ·obtain⟨x,hx,e⟩:=hx;exact List.mem_map.2 ⟨x,hx,e⟩
    ·rw[sK hx]at this;cases this
  ·intro hm;obtain⟨x,hx,rfl⟩:=List.mem_map.1 hm;have hs:(after xs (fun _=>none) x.1).isSome=true:=by
    rw[lW (hj x hx),wL ⟨x,hx,rfl⟩ (fun _=>some [])];exact aCI rfl
   obtain⟨d,hd⟩:=Option.isSome_iff_exists.1 hs;exact List.mem_map.2 ⟨(x.1,d),(h.1 x.1 d).2 hd,rfl⟩
 have nd2:(ys.map (·.1)).Nodup:=by rw[List.Nodup,List.pairwise_map];exact h.2.imp fun {a b} hab e=>by rw[e]at hab;exact List.lt_irrefl _ hab
 have l1:=rG nd2 (ns:=xs.map (·.1)) fun n hn=>(hdom n).1 hn
 have l2:=rG nd (ns:=ys.map (·.1)) fun n hn=>(hdom n).2 hn
 simp only[List.length_map]at l1 l2;omega
theorem zB{xs:List File}:aBO (after xs fun _=>none) (xs.map (·.1)):=by
 have:=aL6 (xs:=xs) (f:=fun _=>none) (ns:=[]) (fun n h=>by cases h)
 simpa using this
end Go.Box
end
section
namespace Go.Box
open Go.Syn Go.Mach Go.Proofs Go.SL
def Bd(B:Nat)(s:DSt):Prop:=∀o∈s.pend,o.data.length≤B
theorem aJ9{B:Nat}{o:OpR}{s:DSt}(ho:o.data.length≤B)(h:Bd B s):Bd B (e6 o s).2:=by
 unfold e6;split
 ·exact h
 ·split
  ·exact h
  ·intro p hp;rcases List.mem_append.1 (show p∈s.pend++[o]from hp)with hp|hp
   ·exact h p hp
   ·rw[List.mem_singleton.1 hp];exact ho
theorem aFN{B:Nat}{n d:aM}{s:DSt}(hd:d.length≤B)(h:Bd B s):Bd B (eP n d s).2:=by
 have h1:=aJ9 (o:=⟨1,n,[],d⟩) hd h
 by_cases he:(e6 ⟨1,n,[],d⟩ s).1=some 16
 ·rw[s0 he];intro p hp;rcases List.mem_append.1 (show p∈(e6 ⟨1,n,[],d⟩ s).2.pend++[⟨1,n,[],d⟩]from hp)with hp|hp
  ·exact h1 p hp
  ·rw[List.mem_singleton.1 hp];exact hd
 ·rw[sZ he];exact h1
theorem aDL{B:Nat}{s:DSt}(h:Bd B s):Bd B (d7 s).2:=by
 unfold d7;split
 ·exact h
 ·intro p hp;exact absurd hp (by simp[DSt.flush])
theorem aLV{B:Nat}{n:aM}{s:DSt}(h:Bd B s):Bd B (eK n s).2:=aJ9 (Nat.zero_le _) h
theorem t8{P:DSt→Prop}:∀ {gs:List (DSt→Er×DSt)} {s:DSt},(∀g∈gs,∀s,P s→P (g s).2)→P s→P (dY gs s).2
 | [],s,_,h=>h
 |g::gs,s,hg,h=>by
  have h1:=hg g List.mem_cons_self s h;unfold dY;split
  ·exact h1
  ·exact t8 (fun g' h'=>hg g' (List.mem_cons_of_mem _ h')) h1
theorem aLU{B:Nat}{xs:List File}{s:DSt}(hx:∀x∈xs,x.2.length≤B)(h:Bd B s):Bd B (fZ xs s).2:=by
 unfold fZ;refine t8 (fun g hg s hs=>?_) h
 rcases List.mem_append.1 hg with hg|hg
 ·obtain⟨x,hm,rfl⟩:=List.mem_map.1 hg;exact aFN (hx x hm) hs
 ·simp only[List.mem_cons,List.not_mem_nil,or_false]at hg;rcases hg with rfl|rfl|rfl
  ·exact aDL hs
  ·exact aLV hs
  ·exact aDL hs
theorem aH8{B:Nat}{xs:List File}{s:DSt}(hx:∀x∈xs,x.2.length≤B)(hp:(eV xs).length≤B)(h:Bd B s):Bd B (gJ xs s).2:=by
 unfold gJ;refine t8 (fun g hg s hs=>?_) h
 simp only[List.mem_cons,List.not_mem_nil,or_false]at hg;rcases hg with rfl|rfl|rfl
 ·exact aFN hp hs
 ·exact aDL hs
 ·exact aLU hx hs
theorem aDQ(xs:List File)(s:DSt)(hx:xs.length≤100):(gJ xs s).2.pend.length≤s.pend.length+500:=by
 unfold gJ;have a1:=o0 bQ (eV xs) s;simp only[dY];split
 ·omega
 ·have a2:=oD (eP bQ (eV xs) s).2;split
  ·omega
  ·have a3:=uY xs (d7 (eP bQ (eV xs) s).2).2;split
   ·omega
   ·show (fZ xs (d7 (eP bQ (eV xs) s).2).2).2.pend.length≤_
    omega
theorem aSX{k:Nat}{n d:aM}{s:DSt}(h:Up k s)(hk:k≤1000000):Up (k+1) (eP n d s).2:=by rw[aA8 h hk];exact h.dec.told _
theorem yM{k:Nat}{s:DSt}(h:Up k s)(hk:k≤1000000):Up (k+1) (d7 s).2:=by rw[vJ h hk];exact h.dec.flush
theorem aDC{k:Nat}{n:aM}{s:DSt}(h:Up k s)(hk:k≤1000000):Up (k+1) (eK n s).2:=by
 have e:=s5 h hk;unfold eK e6 DSt.we DSt.ws;rw[e,aDP h];split
 ·exact h.dec
 ·split
  ·exact h.dec
  ·exact h.dec.told _
theorem aA5:∀ {gs:List (DSt→Er×DSt)} {k:Nat} {s:DSt},(∀g∈gs,∀k s,k≤1000000→Up k s→Up (k+1) (g s).2)→k+gs.length≤1000000→Up k s→(dY gs s).2.down=false
 | [],k,s,_,_,h=>h.down
 |g::gs,k,s,hg,hk,h=>by
  simp only[List.length_cons]at hk;have h1:=hg g List.mem_cons_self k s aI h;unfold dY;split
  ·exact h1.down
  ·exact aA5 (fun g' h'=>hg g' (List.mem_cons_of_mem _ h')) aI h1
theorem aOW{k:Nat}{xs:List File}{s:DSt}(h:Up k s)(hk:k+xs.length≤900000):(fZ xs s).2.down=false:=by
 unfold fZ;refine aA5 (k:=k) (fun g hg k s hk hs=>?_) (by simp[fC];omega) h
 rcases List.mem_append.1 hg with hg|hg
 ·obtain⟨x,hm,rfl⟩:=List.mem_map.1 hg;exact aSX hs hk
 ·simp only[List.mem_cons,List.not_mem_nil,or_false]at hg;rcases hg with rfl|rfl|rfl
  ·exact yM hs hk
  ·exact aDC hs hk
  ·exact yM hs hk
theorem aJS{r:Option (List File)}{s:DSt}(h:Up 0 s)(hr:∀xs,r=some xs→xs.length≤1000):(dZ r s).2.down=false:=by
 have h1:=yM h aI;unfold dZ;split
 ·exact h1.down
 ·split
  ·unfold yU;split
   ·exact aOW h1 (by have:=hr _ rfl;omega)
   ·refine aA5 (k:=1) (fun g hg k s hk hs=>?_) (by simp) h1
    simp only[List.mem_cons,List.not_mem_nil,or_false]at hg;rcases hg with rfl|rfl
    ·exact aDC hs hk
    ·exact yM hs hk
  ·split <;> exact h1.down
theorem aOO{id:aM}{acts:List Action}{text:aM}{xs:List File}{s:DSt}{l:Nat}(hR:Rest s)(hf:gN id acts text=.ok xs)(hj:∀x∈xs,x.1≠bQ)(hx:xs.length≤100)(hfj:s.dur bQ=none)(hl:l≤1000):
  ((iV id acts text (s.set l (-1))).1=none∧∀t,kF (iV id acts text (s.set l (-1))).2 t→Rest t∧t.dur=after xs s.dur)∨
  ((iV id acts text (s.set l (-1))).1=some 16∧∀t,kF (iV id acts text (s.set l (-1))).2 t→Rest t∧J xs s.dur t.dur):=by
 have hm:iV id acts text (s.set l (-1))=gJ xs (s.set l (-1)):=by unfold iV;rw[hf]
 have hrun:Run 0 (s.set l (-1)):=⟨hR.down,by show -1 - ((0:Nat):Int)≤(l:Int);omega,by show (l:Int)≤1000000;omega,by show (-1:Int) < 0;omega,by show -1 - ((0:Nat):Int)≤ -1;omega⟩;rw[hm];rcases aFV (f:=s.dur) hj hrun (show s.now=s.dur from hR.now) rfl (show s.pend=[]from hR.pend) hfj aI with ⟨s',h1,h2,h3,h4,h5⟩|⟨s',h1,h2,h3⟩
 ·left
  rw[h1];refine⟨rfl,fun t ht=>?_⟩
  unfold kF at ht;rw[if_neg (by simp[h2])]at ht;subst ht;exact⟨⟨h2,h3,by show s'.now=s'.dur;rw[h4,h5],rfl,rfl⟩,h4⟩
 ·right
  rw[h1];refine⟨rfl,fun t ht=>?_⟩
  unfold kF at ht;rw[if_pos (show s'.down=true from h2)]at ht;obtain⟨u,hu,rfl⟩:=ht;exact⟨⟨hu.2.2.2.2.2,hu.2.2.1,hu.2.1,rfl,rfl⟩,h3 _ hu.1⟩
theorem aRV{xs:List File}{g:DMap}:∀ys,saysOf xs g=some ys→ys=xs:=fun ys h=>by
 unfold saysOf at h;split at h
 ·injection h with h;exact h.symm
 ·cases h
theorem aLC{xs:List File}{f:DMap}{s:DSt}(hR:Rest s)(hok:oJ xs)(hj:∀x∈xs,x.1≠bQ)(hfj:f bQ=none)(hJ:J xs f s.dur):
  (∀s1 d,d7 (s.set (-1) (-1))=(none,s1)→s1.now bQ=some d→o6 d (saysOf xs s.dur))∧(dZ (saysOf xs s.dur) (s.set (-1) (-1))).1=none∧(dZ (saysOf xs s.dur) (s.set (-1) (-1))).2.down=false∧∀t,kF (dZ (saysOf xs s.dur) (s.set (-1) (-1))).2 t→Rest t∧(t.dur=f∨t.dur=after xs f):=by
 rw[hR.set];refine⟨fun s1 d h1 h2=>?_,?_⟩
 ·rw[vJ hR.up aI]at h1
  injection h1 with _ h1
  subst h1;exact aW8 hok hfj hJ (by rw[←h2];show s.dur bQ=s.now bQ;rw[hR.now])
 ·have hrun:Run 0 s:=⟨hR.down,by rw[hR.left];omega,by rw[hR.left];omega,by rw[hR.full];omega,by rw[hR.full];omega⟩;have hup:=aJS (r:=saysOf xs s.dur) hR.up fun ys h=>by rw[aRV ys h];have:=hok.2.2;omega
  rcases aG2 hj hrun hR.pend hR.now hfj hJ (by have:=hok.2.2;omega)with ⟨s',h1,h2,h3,h4,h5⟩|⟨s',h1,h2,h3⟩
  ·rw[h1];refine⟨rfl,h2,fun t ht=>?_⟩
   unfold kF at ht;rw[if_neg (by simp[h2])]at ht;subst ht;exact⟨⟨h2,h3,h4,rfl,rfl⟩,h5⟩
  ·rw[h1]at hup;rw[show s'.down=false from hup]at h2;cases h2
end Go.Box
end
section
namespace Go.Syn
section
variable{s t b w:aM}{a:Nat}{c:UInt8}
def esc(w:aM):aM:=w.flatMap fun c=>if c.toNat=34∨c.toNat=92 then [92,c]else [c]
end
inductive Tk where
 |sg (c:UInt8)
 |nm (w:aM)
 |tg (w:aM)
 |tx (w:aM)
def Tk.body:Tk→aM
 | .sg c=>[c]
 | .nm w=>w
 | .tg w=>58::w
 | .tx w=>34::(esc w++[34])
def Tk.word:Tk→Nat→Word
 | .sg c,a=>⟨5,[c],0,a⟩
 | .nm w,a=>⟨1,dH w,0,a⟩
 | .tg w,a=>⟨2,dH w,0,a⟩
 | .tx w,a=>⟨3,w,0,a⟩
def Tk.sep:Tk→aM→Prop
 | .nm _,t=>∀c,t.head?=some c→e9 c=false
 | .tg _,t=>∀c,t.head?=some c→e9 c=false
 |_,_=>True
end Go.Syn
end
section
namespace Go.Syn
abbrev Wd:=Nat×aM×Int
abbrev wTx(w:aM):Wd:=(3,w,0)
abbrev wSg(c:UInt8):Wd:=(5,[c],0)
abbrev wNm(w:aM):Wd:=(1,w,0)
abbrev wTg(w:aM):Wd:=(2,w,0)
abbrev wNu(n:Int):Wd:=(4,[],n)
section
variable{s:aM}{st st':St}{ws:List Wd}{c:UInt8}{w:aM}{n:Int}
end
inductive GList:List Wd→List aM→Prop where
 |one (w:aM):GList [wTx w] [w]
 |many (w:aM) (ws:List aM):GList (wSg 91::wTx w::(ws.flatMap (fun x=>[wSg 44,wTx x])++[wSg 93])) (w::ws)
inductive GTags:How→List Wd→How→Prop where
 |nil (h:How):GTags h [] h
 |tag (h h':How) (x:aM) (i:Nat) (u:List Wd):h.tag=0→i < 3→cT dK x=i→GTags ⟨h.cmp,1+(i:Int),h.oct⟩ u h'→GTags h (wTg x::u) h'
 |cmp (h h':How) (x:aM) (u:List Wd):h.cmp=false→x∈[eZ,f9]→GTags ⟨true,h.tag,decide (x=eZ)⟩ u h'→GTags h (wTg qJ::wTx x::u) h'
inductive GTest (needs:List aM):Nat→List Wd→Tree→Prop where
 |tru (n:Nat):GTest needs (n+1) [wNm aA4] (.const true)
 |fls (n:Nat):GTest needs (n+1) [wNm vQ] (.const false)
 |not_ (n:Nat) (u:List Wd) (t:Tree):GTest needs n u t→GTest needs (n+1) (wNm aH0::u) (.not_ t)
 |many (n:Nat) (all:Bool) (u:List Wd) (t:Tree) (us:List (List Wd×Tree)):GTest needs n u t→(∀p,p∈us→GTest needs n p.1 p.2)→
   GTest needs (n+1) (wNm (if all=true then vN else vO)::wSg 40::(u++(us.flatMap (fun p=>wSg 44::p.1)++[wSg 41]))) (.many all (us.foldl (fun l p=>l.snocT p.2) (.tcons t .tnil)))
 |mat (n:Nat) (word:aM) (op:Int) (ext:aM) (u v w:List Wd) (h:How) (a b:List aM):(word,op,ext)∈[(rY,(6:Int),([]:aM)),(gT,7,gT),(rZ,8,eO)]→
   (ext≠[]→ext∈needs)→GTags ⟨false,0,false⟩ u h→GList v a→(∀x∈a,mX op x=0)→GList w b→
   GTest needs (n+1) (wNm word::(u++(v++w))) (.mat (if 1>h.tag then 1 else h.tag) h.oct op a b)
 |exi (n:Nat) (v:List Wd) (a:List aM):GList v a→GTest needs (n+1) (wNm rX::v) (.exi a)
 |siz (n:Nat) (x:aM) (k:Int):x∈[aE9,oZ]→GTest needs (n+1) [wNm aA3,wTg x,wNu k] (.siz (if x=oZ then 2 else 1) k)
end Go.Syn
end
section
namespace Go.Syn
structure Br where
 ut:List Wd
 t:Tree
 ub:List Wd
 b:Tree
def Br.words(p:Br):List Wd:=wNm vP::(p.ut++(wSg 123::(p.ub++[wSg 125])))
def aMC:Option (List Wd×Tree)→List Wd
 |none=>[]
 |some p=>wNm rW::wSg 123::(p.1++[wSg 125])
def endB(acc:Tree):Option (List Wd×Tree)→Tree
 |none=>.iff acc
 |some p=>.iff (acc.snocB none p.2)
inductive GCmd (needs:List aM) (n:Nat) (B:List Wd→Tree→Prop):List Wd→Tree→Prop where
 |simple (word:aM) (c:Tree):(word=aE8∧c=.act 1 [] 0)∨(word=sY∧c=.plain 13)∨(word=aFA∧c=.plain 14)→GCmd needs n B [wNm word,wSg 59] c
 |act (word:aM) (kind:Int) (ext arg:aM):(word=iK∧kind=2∧ext=iK)∨(word=qK∧kind=3∧ext=[])∨(word=kL∧kind=4∧ext=kL)→
   (ext≠[]→ext∈needs)→GCmd needs n B [wNm word,wTx arg,wSg 59] (.act kind arg 0)
 |set0 (name value:aM):eO∈needs→named name=true→GCmd needs n B [wNm aH1,wTx name,wTx value,wSg 59] (.set_ (dH name) value 0)
 |set1 (x name value:aM) (i:Nat):eO∈needs→named name=true→i < 3→cT [nM,nN,lS] x=i→GCmd needs n B [wNm aH1,wTg x,wTx name,wTx value,wSg 59] (.set_ (dH name) value (1+(i:Int)))
 |iff (ut:List Wd) (t:Tree) (ub:List Wd) (b:Tree) (brs:List Br) (els:Option (List Wd×Tree)):GTest needs n ut t→B ub b→(∀p,p∈brs→GTest needs n p.ut p.t∧B p.ub p.b)→(∀p,els=some p→B p.1 p.2)→
   GCmd needs n B (wNm txIf::(ut++(wSg 123::(ub++(wSg 125::(brs.flatMap Br.words++aMC els)))))) (endB (brs.foldl (fun l p=>l.snocB (some p.t) p.b) (.bcons t b .bnil)) els)
section
variable{s:aM}{needs:List aM}{n:Nat}{B:List Wd→Tree→Prop}{T Bf:St→Res (Tree×St)}
end
inductive GReq:List aM→List Wd→List aM→Prop where
 |nil (ns:List aM):GReq ns [] ns
 |cons (ns ns':List aM) (u v:List Wd) (l:List aM):GList u l→(∀x∈l,x∈aA1)→GReq (iO ns l) v ns'→GReq ns (wNm pR::(u++(wSg 59::v))) ns'
end Go.Syn
end
section
namespace Go.Proofs
open Go Go.SL Go.Syn Go.Mach Go.Cmp
theorem aSF{c:Int}{n:Nat}(h:0≤c):c.tmod n=((c.toNat % n:Nat):Int):=by
 obtain⟨k,rfl⟩:=Int.eq_ofNat_of_zero_le h
 rfl
theorem aNC(c m:Int)(n:Nat)(K:Hl)(hm:m=n)(h1: -9223372036854775808≤c)(h2:c≤9223372036854775807)(hn:0 < n):Sp Tryz.prog 15 [i64 c,i64 m] K [] (Ret fun v K' L'=>∃r:Nat,v=i64 r∧r < n∧K'=K∧L'=[]):=by
 subst hm;refine aZ Tryz.func15 rfl Tryz.ntmps15 rfl rfl fun F w=>?_
 refine aH (aB ?_);refine uAb ?_;refine aG (aE ?_);refine gS (fun(d:Int)=>0≤d) (fun d=>[(0,i64 d),(1,i64 n)]) (fun _=>K) (fun _=>[]) ?_ ?_
 ·
  refine aH (aB ?_);refine uAa ?_;refine uBn ?_;refine aG (aE ?_);refine bK 6 rfl (fun h6=>?_) (fun h6=>?_)
  ·
   refine uAf ?_;refine uCj ?_;refine aA (aQD rfl aI aI) rfl ?_;refine uAb ?_;refine aG ?_
   first|exact bZ (-(c+1)) aI (.cons 0 rfl (.cons 1 rfl .nil)) rfl (fun _ h=>h)|exact bZ c aI (.cons 0 rfl (.cons 1 rfl .nil)) rfl (fun _ h=>h)
  ·
   refine aW ?_
   first|exact bZ (-(c+1)) aI (.cons 0 rfl (.cons 1 rfl .nil)) rfl (fun _ h=>h)|exact bZ c aI (.cons 0 rfl (.cons 1 rfl .nil)) rfl (fun _ h=>h)
 ·
  intro d hd;refine aH (aB ?_);refine uAx ?_;refine aA (aIO rfl rfl aI) rfl ?_;refine uAb ?_;refine aG (aE ?_);refine bI ?_;refine bF rfl rfl (Hl.le_refl _) ?_;exact⟨_,rfl,_,by rw[aSF hd],Nat.mod_lt _ hn,rfl,rfl⟩
end Go.Proofs
end
section
namespace Go.Proofs
open Go Go.SL Go.Syn Go.Box Go.Mach
abbrev aHR:aM:=[116,101,120,116]
abbrev dur1:DSt:=⟨fun _=>none,fun _=>none,[],-1,-1,false⟩
theorem aYN:Box.Rest dur1:=⟨rfl,rfl,rfl,rfl,rfl⟩
theorem aWI{id text:aM}{acts:List Action}{xs:List File}{s:DSt}(hf:gN id acts text=.ok xs)(hx:oJ xs)(hp:s.pend=[]):
  (iV id acts text s).2.pend.length≤1000000∧∀o∈(iV id acts text s).2.pend,o.data.length≤140737488355328:=by
 have hm:iV id acts text s=gJ xs s:=by unfold iV;rw[hf]
 have h1:=aDQ xs s hx.2.2;rw[hp]at h1;have h2:Bd 140737488355328 s:=by intro o ho;rw[hp]at ho;cases ho
 rw[hm];exact⟨by simp at h1;omega,aH8 (aPQ hx) (aK1 hx.2.1) h2⟩
theorem aE6(s:aM)(m:Msg)(hv:Value)(at_ kept part:Int)(K:Hl)(hg:Glob K)(hdb:Deb K)(hE:ErrT K)(hh:Ksl hdEl K hv m.hs)(hz:MsgSz m)(ha1: -9223372036854775808≤at_)(ha2:at_≤9223372036854775807)(hk1: -9223372036854775808≤part)(hk2:part≤9223372036854775807):
  Sp Tryz.prog 8 [str s,msgV m hv,i64 at_,i64 kept,i64 part] K [] (Ret fun v K' L'=>v=.bool true):=by
 have hh0:=hh;obtain⟨ha,hn,hc,rfl⟩:=hh.isSlice;refine aZ Tryz.func8 rfl Tryz.ntmps8 rfl rfl fun F w=>?_
 refine aH (aB ?_);refine uBk ?_;rintro _ K _ ⟨b6,rfl,rfl,rfl⟩ -;refine uAb ?_;refine aG (aE ?_);refine aH (aB ?_);refine bC rfl rfl (aNM _ hg hE) .nil rfl ?_;rintro _ K1 _ ⟨rfl,rfl⟩ le1;refine uAb ?_;refine aG (aE ?_);refine aH (aB ?_);refine uEp ?_;refine bC rfl rfl (aHH m (.slice ha hn hc) _ (hh0.mono le1) hz) .nil rfl ?_;rintro _ K1 _ ⟨sb,rfl,hsb,rfl,rfl⟩ -;refine uAb ?_;refine aG (aE ?_);refine aH (aH ?_);refine uFd ?_;refine uDg ?_;refine aA (by first|exact dP rfl|exact dO rfl) rfl ?_;refine uAt ?_;refine aG (aE ?_);refine eJ 33 rfl (fun h33=>?_) (fun h33=>?_)
 ·
  refine aH (aB ?_);refine uEj ?_;refine aG (aE ?_);refine uCk ?_;refine aO .nil ?_;refine bF rfl rfl le1 ?_;exact⟨_,rfl,rfl⟩
 ·
  have hm:MsgOk m:=hsb (by simpa using h33);refine aW ?_;refine aE (aH ?_);refine uAf ?_;refine bC rfl rfl (oS s _ (hg.mono le1) (hE.mono le1)) .nil rfl ?_;rintro _ K2 _ ⟨x,rfl,hP,rfl⟩ le2;have le12:=Hl.le_trans le1 le2;refine uBw ?_;refine aG (aE ?_);rcases hP with ⟨b,r,h6,hr,rfl,hat⟩|⟨rfl,hno⟩
  ·
   refine aH (aH ?_);refine uHn ?_;refine aG (aE ?_);refine uBf ?_;refine aE (aH ?_);refine uAf ?_;refine uEp ?_;refine bC rfl rfl (aCH b r s m (.slice ha hn hc) _ (hg.mono le12) (hE.mono le12) hr h6 hat (hh0.mono le12) hm) .nil rfl ?_;rintro _ K3 _ ⟨av,rfl,rfl⟩ le3;have le13:=Hl.le_trans le12 le3;have hao:ActsOk (sayC r m).acts:=aW5 _ _ _
   generalize sayC r m=out at*
   obtain⟨xs,hf,hxl,hfo,hnd,hj⟩:=aMH (id:=[109]) (text:=aHR) (by decide) ⟨by decide,by decide⟩ (by simp) hao;have hal:=hao.len;have hae:∀a∈out.acts,a.2.length≤1048576:=fun a h=>by have:=(hao.ok a h).len;omega
   refine uBw ?_;refine aG (aE ?_);refine aH ?_;refine uB fun K4 le4 hv4=>?_
   have le14:=Hl.le_trans le13 le4;refine aB ?_;refine bC rfl rfl (aM7 _ [] _ (.inl ⟨_,_,rfl,rfl⟩) (by simp)) .nil rfl ?_;rintro _ K5 _ ⟨bx,d,rfl,hbx,rfl⟩ le5;have le15:=Hl.le_trans le14 le5;have hv5:=hv4.mono le5;refine uAb ?_;refine aG (aE ?_);refine aH (aB ?_);refine uEg ?_;refine bC rfl rfl (aNC at_ 40 40 _ rfl ha1 ha2 aI) .nil rfl ?_;rintro _ K5 _ ⟨l0,rfl,hl0,rfl,rfl⟩ -;refine uAx ?_;refine bC rfl rfl (aKA bx d [109] aHR _ out.acts l0 (-1) kept part dur1 _ _ (Hl.le_refl _) hbx (hg.mono le15) (hdb.mono le15) (hE.mono le15) hv5 (by simp) (by simp) hae aI (by simp) hk1 hk2 (fun _=>aWI hf hfo rfl)) (.cons .here .nil) rfl ?_;rintro _ K6 _ ⟨rfl,t,hend,rfl⟩ le6;have le16:=Hl.le_trans le15 le6;have hbx6:=hbx.mono le6;have hv6:=hv5.mono le6;have hT:=aOO (l:=l0) aYN hf hj hfo.2.2 rfl aI;refine uAb ?_;refine aG (aE ?_);rcases hT with ⟨he,hT⟩|⟨he,hT⟩
   ·
    obtain⟨hR,hd⟩:=hT t hend
    replace hd:t.dur=after xs (fun _=>none):=hd
    rw[he];obtain⟨hs1,hs2,hs3,hs4⟩:=aLC (xs:=xs) (f:=after xs (fun _=>none)) hR hfo hj mK (.inl ⟨fun n _=>by rw[hd],.inl (by rw[hd];exact mK)⟩);refine aH (aB ?_);refine uAa ?_;refine bC rfl rfl (aKD bx d (-1) (-1) 0 0 t _ hs1 _ _ (Hl.le_refl _) hbx6 (hg.mono le16) (hdb.mono le16) (hE.mono le16) (by rw[hR.pend];simp) aI aI (fun h=>by rw[hs3]at h;cases h)) (.cons .here .nil) rfl ?_;rintro _ K7 _ ⟨rfl,u,hu,rfl⟩ le7;rw[hs2];have le17:=Hl.le_trans le16 le7;obtain⟨hRu,hdu⟩:=hs4 u hu;rw[xB,or_self]at hdu;refine uAb ?_;refine aG (aE ?_);refine aH (aH ?_);refine uAf ?_;refine uDu ?_;refine aG (aE ?_);refine uBf ?_;refine aE (aH ?_);refine aH (aB ?_);refine uAa ?_;refine uAq ?_;refine aG (aE ?_);refine uGe ?_;refine aH (aB ?_);refine uAa ?_;refine bC rfl rfl (aBQ bx d u (xs.map (·.1)) (by rw[hdu];exact zB) (by simp;omega) _ _ (Hl.le_refl _) (hbx6.mono le7)) (.cons .here .nil) rfl ?_;rintro _ K7 _ ⟨rfl,ys,hys,rfl⟩ -;rw[hdu]at hys;have hyl:=xF hj hnd hys;have hv7:=hv6.mono le7;refine uAb ?_;refine aG (aE ?_);refine aH (aB ?_);refine uAa ?_;refine aA (cB (k:=dG) rfl Tryz.underlying62 rfl (.own .here)) rfl ?_;refine uAa ?_;refine aA (cB (k:=cY) rfl Tryz.underlying29 rfl (.known hv7)) rfl ?_;refine aA (ev_T (bW rfl rfl) aI) rfl ?_;refine uAb ?_;refine aG (aE ?_);refine uCk ?_;refine aO .nil ?_;refine bF rfl rfl le17 ?_;exact⟨_,rfl,rfl⟩
   ·
    obtain⟨hR,hJ⟩:=hT t hend;rw[he];obtain⟨hs1,hs2,hs3,hs4⟩:=aLC (xs:=xs) (f:=fun _=>none) hR hfo hj rfl hJ;refine aH (aB ?_);refine uAa ?_;refine bC rfl rfl (aKD bx d (-1) (-1) 0 0 t _ hs1 _ _ (Hl.le_refl _) hbx6 (hg.mono le16) (hdb.mono le16) (hE.mono le16) (by rw[hR.pend];simp) aI aI (fun h=>by rw[hs3]at h;cases h)) (.cons .here .nil) rfl ?_;rintro _ K7 _ ⟨rfl,u,hu,rfl⟩ le7;rw[hs2];have le17:=Hl.le_trans le16 le7;obtain⟨hRu,hdu⟩:=hs4 u hu;have hbx7:=hbx6.mono le7;have hv7:=hv6.mono le7;have hbF:boxF [109] out.acts aHR u.dur=(0,after xs fun _=>none):=(by unfold boxF;rw[hf];rcases hdu with e|e <;> rw[e];simp only[xB]);obtain⟨hB1,hB2,hB3⟩:=aPB (id:=[109]) (acts:=out.acts) (text:=aHR) hRu (fun ys h=>by rw[hf]at h;cases h;exact hfo.2.2);refine uAb ?_;refine aG (aE ?_);refine aH (aH ?_);refine uAf ?_;refine uDu ?_;refine aG (aE ?_);refine uBf ?_;refine aE (aH ?_);refine aH (aB ?_);refine uAa ?_;refine uAq ?_;refine aG (aE ?_);refine uBf ?_;refine aE (aH ?_);refine uCf ?_;refine bC rfl rfl (aKA bx d [109] aHR _ out.acts (-1) (-1) 0 0 u _ _ (Hl.le_refl _) hbx7 (hg.mono le17) (hdb.mono le17) (hE.mono le17) hv7 (by simp) (by simp) hae aI (by rw[hRu.pend];simp) aI aI (fun h=>by rw[hB2]at h;cases h)) (.cons .here .nil) rfl ?_;rintro _ K8 _ ⟨rfl,z,hz2,rfl⟩ le8;obtain⟨hRz,hdz⟩:=hB3 z hz2;rw[hB1,hbF];rw[hbF]at hdz
    replace hdz:z.dur=after xs (fun _=>none):=hdz
    have le18:=Hl.le_trans le17 le8;have hv8:=hv7.mono le8;refine uAb ?_;refine aG (aE ?_);refine aH (aB ?_);refine uAa ?_;refine bC rfl rfl (aBQ bx d z (xs.map (·.1)) (by rw[hdz];exact zB) (by simp;omega) _ _ (Hl.le_refl _) (hbx7.mono le8)) (.cons .here .nil) rfl ?_;rintro _ K8 _ ⟨rfl,ys,hys,rfl⟩ -;rw[hdz]at hys;have hyl:=xF hj hnd hys;refine uAb ?_;refine aG (aE ?_);refine aH (aB ?_);refine uAa ?_;refine uAq ?_;refine uDg ?_;refine aA (cB (k:=dG) rfl Tryz.underlying62 rfl (.own .here)) rfl ?_;refine uAi ?_;refine aA (cB (k:=cY) rfl Tryz.underlying29 rfl (.known hv8)) rfl ?_;refine uAz ?_;refine aA (ev_T (bW rfl rfl) aI) rfl ?_;refine uDv ?_;refine aG (aE ?_);refine uCx ?_;refine bF rfl rfl le18 ?_;exact⟨_,rfl,rfl⟩
  ·
   refine aH (aH ?_);refine uHn ?_;refine aG (aE ?_);refine uGe ?_;refine aH (aB ?_);refine uAb ?_;refine aG (aE ?_);refine uCk ?_;refine aO .nil ?_;refine bF rfl rfl le12 ?_;exact⟨_,rfl,rfl⟩
end Go.Proofs
end

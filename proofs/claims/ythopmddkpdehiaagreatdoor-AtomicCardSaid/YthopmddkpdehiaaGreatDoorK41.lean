/-
  What the proof stands on, part 41: the logic of walks, the walks through the functions, the plain laws. Conditions: as each theorem says. (Merged and shortened by a program.)
-/
import Derived.Lib.Atoi
import Derived.Lib.ItoaMem
import Derived.Lib.IndexMore
import Derived.Test.YthopmddkpdehiaaGreatDoorK2
import Derived.Test.YthopmddkpdehiaaGreatDoorK34
set_option linter.unusedVariables false
set_option linter.unusedSimpArgs false
set_option maxRecDepth 4000
set_option maxHeartbeats 1000000
section
namespace Go.Box
open Go.Syn
def oH(n:aJ):Prop:=(10:UInt8)∉n∧(32:UInt8)∉n
def kW(files:List File):Prop:=(∀f∈files,oH f.1)∧(bodyC files).length≤1000000000∧files.length≤100
def sV(d:aJ)(r:Option (List File)):Prop:=∃files,kW files∧((d=gJ files∧r=some files)∨(d<+:gJ files∧d≠gJ files∧r=none))
def vB(r:Option (List File)):DSt→Er×DSt:=match r with
 |some files=>iM files
 |none=>dZ [eV bM,d6]
def dT(r:Option (List File))(s:DSt):Er×DSt:=
 if (d6 s).1.isSome=true then d6 s
 else match (r6 bM (d6 s).2).2 with
  |none=>vB r (d6 s).2
  |some e=>if e=14 then (none,(d6 s).2)else (some e,(d6 s).2)
end Go.Box
end
section
attribute [local irreducible] Go.SL.T Go.SL.OL Go.SL.D Go.SL.DL Go.SL.Ev Go.SL.Ef Go.SL.EfS
namespace Go.Proofs
open Go Go.SL Go.Syn Go.Box
theorem bNQ(b bd:Nat)(s:DSt)(K K0:Hl)(le:K0.le K)(T1:TypeId)(z1:Nat×Nat)(h1:K bd=some (aZ [dV b] T1 z1))(hp:s.pend.length≤900000):
  Sp Tryz.prog 136 [ptr bd] K [dsk K0 b s] (Ret fun v K' L'=>v=erV (eV bM s).1∧L'=[dsk K' b (eV bM s).2]):=by
 refine a8 Tryz.func136 rfl Tryz.ntmps136 rfl rfl fun F w=>?_;refine zz8 ?_;refine jA rfl rfl (aZ6 b) (aOA b s bM aI _ _ le) (.cons .here .nil) rfl ?_;rintro _ K1 _ ⟨rfl,rfl⟩ le1;refine zz4 ?_;refine uAa ?_;refine bD rfl rfl le1 ?_;exact⟨_,rfl,rfl,rfl⟩
theorem bL3(K:Hl)(b bd:Nat)(T1:TypeId)(z1:Nat×Nat)(h1:K bd=some (aZ [dV b] T1 z1)):Clo 800000 K b (.func (.func 136) #[] #[ptr bd]) (eV bM):=
 ⟨_,_,wW ⟨_,Tryz.func136,rfl,rfl⟩,fun K1 K0 s le1 le0 hp=>⟨bNQ b bd s K1 K0 le0 _ _ (le1 _ _ h1) aI,by have:=sE bM s;omega⟩⟩
theorem bS9{N:Nat}{K:Hl}{b:Nat}{v1 v2:Cell}{g1 g2:DSt→Er×DSt}(h1:Clo N K b v1.1 g1)(h2:Clo N K b v2.1 g2):∀(i:Nat) (c:Cell) (g:DSt→Er×DSt),[v1,v2][i]?=some c→[g1,g2][i]?=some g→Clo N K b c.1 g
 |0,c,g,e1,e2=>by cases e1;cases e2;exact h1
 |1,c,g,e1,e2=>by cases e1;cases e2;exact h2
 |i+2,c,g,e1,_=>by simp at e1
end Go.Proofs
end
section
namespace Go.Box
open Go.Syn
theorem aJ7{c:UInt8}:∀ {a:aJ} (b:aJ),c∉a→Lib.index (a++c::b) [c]=(a.length:Int)
 | [],b,_=>by simp[Lib.index]
 |x::r,b,h=>by
  have hx:(c==x)=false:=by simp;exact fun e=>h (e▸List.mem_cons_self)
  have ih:=aJ7 (a:=r) b fun hr=>h (List.mem_cons_of_mem _ hr)
  show Lib.index (x::(r++c::b)) [c]=_
  rw[Lib.index,if_neg (by simp[List.isPrefixOf,hx]),ih,if_neg (by simp)];simp
theorem aHO{c:UInt8}:∀ {s:aJ},c∉s→Lib.index s [c]= -1
 | [],_=>rfl
 |x::r,h=>by
  have hx:(c==x)=false:=by simp;exact fun e=>h (e▸List.mem_cons_self)
  have ih:=aHO (s:=r) fun hr=>h (List.mem_cons_of_mem _ hr)
  rw[Lib.index,if_neg (by simp[List.isPrefixOf,hx]),ih];rfl
theorem vI{c:UInt8}{a:aJ}(b:aJ)(h:c∉a):Lib.cut (a++c::b) [c]=(a,b,true):=by
 unfold Lib.cut;rw[aJ7 b h,if_pos aI];simp[List.drop_append]
theorem aM8{c:UInt8}{s:aJ}(h:c∉s):Lib.cut s [c]=(s,[],false):=by
 unfold Lib.cut;rw[aHO h,if_neg aI]
theorem aJI(c:UInt8)(s:aJ):(Lib.cut s [c]).2.2=false∨∃a b,c∉a∧s=a++c::b∧Lib.cut s [c]=(a,b,true):=by
 by_cases h:c∈s
 ·right
  obtain⟨a,b,e,h2⟩:∃a b,s=a++c::b∧c∉a:=by
   induction s with
   |nil=>cases h
   |cons x r ih=>
    by_cases hx:x=c
    ·exact⟨[],r,by rw[hx];rfl,by simp⟩
    obtain⟨a,b,e,h2⟩:=ih (by rcases List.mem_cons.1 h with h|h;exact absurd h.symm hx;exact h);exact⟨x::a,b,by rw[e];rfl,by simp[h2];exact fun e=>hx e.symm⟩
  exact⟨a,b,h2,e,by rw[e];exact vI b h2⟩
 left;rw[aM8 h]
theorem aPK{k:Nat}(h:k < 10):(UInt8.ofNat (48+k)).toNat=48+k:=by
 rw[UInt8.toNat_ofNat'];omega
theorem aZG:∀(n:Nat),∀c∈Lib.decDigits n,48≤c.toNat∧c.toNat≤57:=by
 intro n;induction n using Nat.strongRecOn with
 |_ n ih=>
  intro c hc;rw[Lib.decDigits]at hc;split at hc
  ·rename_i h;rw[List.mem_singleton.1 hc,aPK h];omega
  rename_i h;rcases List.mem_append.1 hc with hc|hc
  ·exact ih (n / 10) aI c hc
  rw[List.mem_singleton.1 hc,aPK aI];omega
theorem aDU(b:UInt8):∀(l:aJ) (acc:Nat),Lib.decFrom acc (l++[b])=(Lib.decFrom acc l).bind fun m=>(Lib.digitVal b).map fun d=>m*10+d
 | [],acc=>by
  show Lib.decFrom acc [b]=_
  unfold Lib.decFrom;cases Lib.digitVal b <;> rfl
 |x::r,acc=>by
  show Lib.decFrom acc (x::(r++[b]))=_
  rw[Lib.decFrom,Lib.decFrom];cases Lib.digitVal x with
  |none=>rfl
  |some d=>exact aDU b r _
theorem aHD{k:Nat}(h:k < 10):Lib.digitVal (UInt8.ofNat (48+k))=some k:=by
 unfold Lib.digitVal;rw[aPK h,if_pos aI]
 congr 1;omega
theorem aSF:∀n:Nat,Lib.decFrom 0 (Lib.decDigits n)=some n:=by
 intro n;induction n using Nat.strongRecOn with
 |_ n ih=>
  rw[Lib.decDigits];split
  ·rename_i h;rw[Lib.decFrom,aHD h];simp[Lib.decFrom]
  rename_i h;rw[aDU,ih (n / 10) aI,aHD aI];simp only[Option.bind_some,Option.map_some]
  congr 1;omega
theorem bQV(n:Nat):Lib.decDigits n≠[]:=by
 rw[Lib.decDigits];split <;> simp
theorem aI7(n:Nat):Lib.atoi (Lib.itoa (n:Int))=some (n:Int):=by
 rw[Lib.itoa_nonneg];have hf:=aSF n;have hm:=aZG n;cases hd:Lib.decDigits n with
 |nil=>exact absurd hd (bQV n)
 |cons b r=>
  rw[hd]at hf hm;have hb:=hm b List.mem_cons_self;unfold Lib.atoi
  show (if (b==45)=true then _ else if (b==43)=true then _ else _)=_
  rw[if_neg (by simp;intro e;rw[e]at hb;simp at hb),if_neg (by simp;intro e;rw[e]at hb;simp at hb)];unfold Lib.decNat;rw[if_neg (by simp),hf];rfl
theorem aZF:∀(k n:Nat),n < 10 ^ (k+1)→(Lib.decDigits n).length≤k+1
 |0,n,h=>by rw[Lib.decDigits,dif_pos gBZ];simp
 |k+1,n,h=>by
  rw[Lib.decDigits];split
  ·simp
  have:=aZF k (n / 10) (Nat.div_lt_of_lt_mul (by rw[Nat.mul_comm,←Nat.pow_succ];exact h));simp;omega
theorem aKC{n:Nat}{c:UInt8}(h:c∈Lib.itoa (n:Int)):48≤c.toNat∧c.toNat≤57:=by rw[Lib.itoa_nonneg]at h;exact aZG n c h
theorem aTB{a b:Nat}(h:Lib.itoa (a:Int)=Lib.itoa (b:Int)):a=b:=by
 have h1:=aI7 a;rw[h,aI7 b]at h1
 injection h1 with h1;omega
theorem aJ3{k:Nat}(h:k < 16):48≤(xE k).toNat:=by
 have:∀k:Fin 16,48≤(xE k.1).toNat:=by decide
 exact this ⟨k,h⟩
theorem bM1:∀(n:Nat),∀c∈hexN n,48≤c.toNat:=by
 intro n;induction n using Nat.strongRecOn with
 |_ n ih=>
  intro c hc;rw[hexN]at hc;split at hc
  ·rename_i h;rw[List.mem_singleton.1 hc];exact aJ3 h
  rename_i h;rcases List.mem_append.1 hc with hc|hc
  ·exact ih (n / 16) aI c hc
  rw[List.mem_singleton.1 hc];exact aJ3 (Nat.mod_lt _ aI)
theorem aZZ(body:aJ):(10:UInt8)∉tD body:=by
 intro h;unfold tD at h;rcases List.mem_append.1 h with h|h
 ·rcases List.mem_append.1 h with h|h
  ·have:=aKC h;simp at this
  simp at h
 have:=bM1 _ _ h;simp at this
theorem aI6{c:UInt8}{a b x y:aJ}(ha:c∉a)(hb:c∉b)(h:a++c::x=b++c::y):a=b∧x=y:=by
 have h1:=vI x ha;rw[h,vI y hb]at h1
 injection h1 with h1 h2
 injection h2 with h2 _
 exact⟨h1.symm,h2.symm⟩
theorem aA6(n:Nat):(32:UInt8)∉Lib.itoa (n:Int):=fun h=>by have:=aKC h;simp at this
theorem aFZ(n:Nat):(10:UInt8)∉Lib.itoa (n:Int):=fun h=>by have:=aKC h;simp at this
theorem bHY{x y:aJ}(h:tD x=tD y):x.length=y.length:=by
 unfold tD at h;simp only[List.append_assoc,List.singleton_append]at h;exact aTB (aI6 (aA6 _) (aA6 _) h).1
theorem bI7(files:List File):Lib.cut (gJ files) [10]=(tD (bodyC files),bodyC files,true):=by
 unfold gJ;rw[List.append_assoc];exact vI _ (aZZ _)
theorem bK5{d:aJ}{files:List File}(h:d<+:gJ files)(hne:d≠gJ files):(Lib.cut d [10]).2.2=false∨(Lib.cut d [10]).1≠tD (Lib.cut d [10]).2.1:=by
 rcases aJI 10 d with h1|⟨a,b,h1,h2,h3⟩
 ·exact .inl h1
 right
 rw[h3];intro he;obtain⟨t,ht⟩:=h;have e1:gJ files=tD (bodyC files)++10::bodyC files:=by unfold gJ;rw[List.append_assoc];rfl
 rw[h2,e1,List.append_assoc]at ht;have h4:=aI6 h1 (aZZ _) (show a++10::(b++t)=tD (bodyC files)++10::bodyC files from ht);have h5:a=tD b:=he;have h6:=bHY (h5.symm.trans h4.1);rw[←h4.2,List.length_append]at h6;have ht0:t=[]:=List.length_eq_zero_iff.1 aI
 apply hne
 rw[h2,e1,h4.1,←h4.2,ht0,List.append_nil]
theorem bDA{f:File}{r:aJ}(hn:oH f.1):Lib.cut (entryC f++r) [10]=(f.1++[32]++Lib.itoa (f.2.length:Int),f.2++r,true):=by
 have:entryC f++r=(f.1++[32]++Lib.itoa (f.2.length:Int))++10::(f.2++r):=by simp[entryC]
 rw[this];refine vI _ ?_;simp only[List.mem_append,not_or];exact⟨⟨hn.1,by decide⟩,aFZ _⟩
theorem bDB{f:File}(hn:oH f.1):Lib.cut (f.1++[32]++Lib.itoa (f.2.length:Int)) [32]=(f.1,Lib.itoa (f.2.length:Int),true):=by
 rw[List.append_assoc];exact vI _ hn.2
theorem aZB{files:List File}{i:Nat}{f:File}(h:files[i]?=some f):bodyC (files.drop i)=entryC f++bodyC (files.drop (i+1)):=by
 rw[kK h];rfl
theorem bHA(f:File)(r:aJ):entryC f++r≠[]:=by simp[entryC]
end Go.Box
end
section
namespace Go.Box
open Go.Syn Go.Proofs Go.SL
structure Run (k:Nat) (s:DSt):Prop where
 down:s.down=false
 l1: -1 - (k:Int)≤s.left
 l2:s.left≤1000000
 f1:s.full < 0
 f2: -1 - (k:Int)≤s.full
theorem Run.told{k:Nat}{s:DSt}(h:Run k s)(o:OpR):Run k (s.told o):=⟨h.down,h.l1,h.l2,h.f1,h.f2⟩
theorem Run.flush{k:Nat}{s:DSt}(h:Run k s):Run k s.flush:=⟨h.down,h.l1,h.l2,h.f1,h.f2⟩
theorem Run.more{k j:Nat}{s:DSt}(h:Run k s)(hj:k≤j):Run j s:=⟨h.down,by have:=h.l1;omega,h.l2,h.f1,by have:=h.f2;omega⟩
theorem aTH{P:DMap→Prop}{b:Bool}{os:List OpR}{f g:DMap}(h:Left b os f g):(∀o∈os,∀m,P m→P (doF m o))→(∀o∈os,o.kind=1→∀d,d<+:o.data→∀m,P m→P (m.put o.name d))→P f→P g:=by
 induction h with
 |nil=>intro _ _ h;exact h
 |lost _ ih=>intro h1 h2 h;exact ih (fun o ho=>h1 o (List.mem_cons_of_mem _ ho)) (fun o ho=>h2 o (List.mem_cons_of_mem _ ho)) h
 |kept _ ih=>intro h1 h2 h;exact ih (fun o ho=>h1 o (List.mem_cons_of_mem _ ho)) (fun o ho=>h2 o (List.mem_cons_of_mem _ ho)) (h1 _ List.mem_cons_self _ h)
 |torn hk hd _ ih=>intro h1 h2 h;exact ih (fun o ho=>h1 o (List.mem_cons_of_mem _ ho)) (fun o ho=>h2 o (List.mem_cons_of_mem _ ho)) (h2 _ List.mem_cons_self hk _ hd _ h)
 |none _ _ _ ih=>intro h1 h2 h;exact ih (fun o ho=>h1 o (List.mem_cons_of_mem _ ho)) (fun o ho=>h2 o (List.mem_cons_of_mem _ ho)) h
def J1(xs:List File)(f g:DMap):Prop:=(∀n,n≠bM→g n=f n)∧(g bM=none∨∃d,d<+:gJ xs∧g bM=some d)
def J2(xs:List File)(f g:DMap):Prop:=g bM=some (gJ xs)∧∀n,n≠bM→(¬ ∃x∈xs,x.1=n)→g n=f n
def J(xs:List File)(f g:DMap):Prop:=J1 xs f g∨J2 xs f g∨g=after xs f
section
variable{xs:List File}{f:DMap}
theorem aXJ{os:List OpR}{m g:DMap}(ho:∀o∈os,o=⟨1,bM,[],gJ xs⟩)(h:J1 xs f m)(hl:Left true os m g):J1 xs f g:=by
 refine aTH (P:=J1 xs f) hl (fun o h1 m' hm=>?_) (fun o h1 _ d hd m' hm=>?_) h
 ·rw[ho o h1];exact⟨fun n hn=>by show (m'.put bM _) n=_;unfold DMap.put;rw[if_neg hn];exact hm.1 n hn,.inr ⟨_,List.prefix_refl _,by show (m'.put bM _) bM=_;unfold DMap.put;rw[if_pos rfl]⟩⟩
 rw[ho o h1]at hd ⊢;exact⟨fun n hn=>by unfold DMap.put;rw[if_neg hn];exact hm.1 n hn,.inr ⟨_,hd,by unfold DMap.put;rw[if_pos rfl]⟩⟩
theorem aKD{os:List OpR}{m g:DMap}(ho:∀o∈os,∃x∈xs,o.kind=1∧o.name=x.1)(hj:∀x∈xs,x.1≠bM)(h:J2 xs f m)(hl:Left true os m g):J2 xs f g:=by
 have key:∀o∈os,∀d m',J2 xs f m'→J2 xs f (m'.put o.name d):=fun o h1 d m' hm=>by
  obtain⟨x,hx,-,h3⟩:=ho o h1;refine⟨?_,fun n hn hno=>?_⟩
  ·unfold DMap.put;rw[if_neg (by rw[h3];exact fun e=>hj x hx e.symm)];exact hm.1
  unfold DMap.put;rw[if_neg (by rw[h3];exact fun e=>hno ⟨x,hx,e.symm⟩)];exact hm.2 n hn hno
 refine aTH (P:=J2 xs f) hl (fun o h1 m' hm=>?_) (fun o h1 _ d hd m' hm=>key o h1 d m' hm) h
 obtain⟨x,hx,h2,h3⟩:=ho o h1;unfold doF;rw[if_pos h2];exact key o h1 _ m' hm
end
noncomputable def saysOf(xs:List File)(g:DMap):Option (List File):=open Classical in if g bM=some (gJ xs)then some xs else none
theorem bJ9{xs:List File}{f g:DMap}(hx:kW xs)(hfj:f bM=none)(h:J xs f g){d:aJ}(hd:g bM=some d):sV d (saysOf xs g):=by
 refine⟨xs,hx,?_⟩
 unfold saysOf
 by_cases hp:d=gJ xs
 ·left;exact⟨hp,by rw[if_pos (by rw[hd,hp])]⟩
 right
 refine⟨?_,hp,by rw[if_neg (by rw[hd];intro e;injection e with e;exact hp e)]⟩
 rcases h with h|h|h
 ·rcases h.2 with h2|⟨d',h2,h3⟩
  ·rw[h2]at hd;cases hd
  rw[h3]at hd;cases hd;exact h2
 ·rw[h.1]at hd;injection hd with hd;exact absurd hd.symm hp
 rw[h,kH]at hd;cases hd
end Go.Box
end

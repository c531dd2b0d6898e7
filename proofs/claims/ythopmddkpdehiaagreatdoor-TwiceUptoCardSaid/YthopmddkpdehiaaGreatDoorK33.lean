/-
  What the proof stands on, part 33: the logic of walks, the walks through the functions, the plain laws. Conditions: as each theorem says. (Merged and shortened by a program.)
-/
import Derived.Laws.IdiomRangeMap
import Derived.Shelf.GgSortFunc.Lays
import Derived.Shelf.SlSortFuncK.WholeK
import Derived.Shelf.GgSortFunc.Tiny
import Derived.Sort.Walk0
import Derived.Test.YthopmddkpdehiaaGreatDoorK32
set_option linter.unusedVariables false
set_option linter.unusedSimpArgs false
set_option maxRecDepth 4000
set_option maxHeartbeats 1000000
section
attribute [local irreducible] Go.SL.T Go.SL.OL Go.SL.D Go.SL.DL Go.SL.Ev Go.SL.Ef Go.SL.EfS
namespace Go.Proofs
open Go Go.SL Go.Syn Go.Box
def Deb(K:Hl):Prop:=∃l T fz,K 6=some (aZ l T fz)∧l[15]?=some (.int .u8 4)
theorem Deb.mono{K K':Hl}(h:Deb K)(le:K.le K'):Deb K':=let ⟨l,T,fz,h1,h2⟩:=h;⟨l,T,fz,le _ _ h1,h2⟩
theorem bFA(K:Hl)(hd:Deb K):Sp Tryz.prog 363 [.int .u64 16] K [] (Val (i64 4) K):=by
 obtain⟨l,T,fz,hk,hl⟩:=hd;refine a8 Tryz.func363 rfl Tryz.ntmps363 rfl rfl fun F w=>?_;refine zz19 ?_;refine aA (gN (v:=.int .u64 18446744073709551600) (bMM rfl) bJ) rfl ?_;refine aA (gN (v:=.int .u64 16) (aIJ rfl rfl) bJ) rfl ?_;refine aA (gN (v:=.int .u64 4573923408821661840) (aPR rfl rfl) bJ) rfl ?_;refine aA (gN (v:=.int .u64 15) (aW3 rfl rfl aI) bJ) rfl ?_;refine aA (fJ (j:=15) Tryz.underlying511 ts5 rfl rfl rfl aI) rfl ?_;refine aA (aL ts5 rfl (.known hk) hl) rfl ?_;refine aA (gN (v:=i64 4) (kO Tryz.underlying3 Tryz.underlying5 rfl) bJ) rfl ?_;refine zz5 ?_;exact⟨rfl,rfl,rfl⟩
theorem bOZ(K:Hl)(hd:Deb K):Sp Tryz.prog 349 [.int .u64 16] K [] (Val (i64 4) K):=by
 refine a8 Tryz.func349 rfl Tryz.ntmps349 rfl rfl fun F w=>?_;refine zz12 ?_;refine cF rfl rfl (bFA _ hd) rfl ?_;refine zz5 ?_;exact⟨rfl,rfl,rfl⟩
theorem bDL(K:Hl):Sp Tryz.prog 348 [i64 16] K [] (Val (.bool true) K):=by
 refine a8 Tryz.func348 rfl Tryz.ntmps348 rfl rfl fun F w=>?_;refine zz10 ?_;refine aA (gN (v:=i64 0) (aIJ rfl rfl) bJ) rfl ?_;refine zz6 ?_;exact⟨rfl,rfl,rfl⟩
abbrev digs:aJ:=[48,49,50,51,52,53,54,55,56,57,97,98,99,100,101,102,103,104,105,106,107,108,109,110,111,112,113,114,115,116,117,118,119,120,121,122]
theorem aZI:∀ {m:Nat},m < 16→digs[m]?=some (xE m):=by
 intro m h;have:∀k:Fin 16,digs[k.1]?=some (xE k.1):=by decide
 exact this ⟨m,h⟩
theorem bS4{u:Nat}(h:u < 18446744073709551616):IntKind.u64.wrap (BitVec.ofInt 64 (u:Int)&&&BitVec.ofInt 64 (15:Int)).toNat=((u % 16:Nat):Int):=by
 have e:(BitVec.ofInt 64 (u:Int)&&&BitVec.ofInt 64 (15:Int)).toNat=u % 16:=by
  rw[BitVec.toNat_and];have h1:(BitVec.ofInt 64 (u:Int)).toNat=u:=by rw[BitVec.ofInt_natCast,BitVec.toNat_ofNat];omega
  have h2:(BitVec.ofInt 64 (15:Int)).toNat=2 ^ 4 - 1:=rfl;rw[h1,h2,Nat.and_two_pow_sub_one_eq_mod]
 rw[e];unfold IntKind.wrap IntKind.bits IntKind.signed;simp only[Bool.false_and];have:u % 16 < 16:=Nat.mod_lt _ aI;simp;omega
theorem bVU{u:Nat}:(u:Int).fdiv (2 ^ (min ((4:Int).toNat) 64))=((u / 16:Nat):Int):=by
 show (u:Int).fdiv (2 ^ 4)=_
 rw[Int.fdiv_eq_ediv_of_nonneg _ aI];omega
theorem bMZ{u:Nat}(h:u < 16):hexN u=[xE u]:=by rw[hexN,dif_pos h]
theorem bMY{u:Nat}(h:¬u < 16):hexN u=hexN (u / 16)++[xE (u % 16)]:=by rw[hexN,dif_neg h]
abbrev u8s(l:aJ):List Value:=l.map fun c=>.int .u8 c.toNat
theorem bAW{cells:List Value}{acc:aJ}{i:Nat}{c:UInt8}(h:cells.drop i=u8s acc)(hi:0 < i)(hl:i≤cells.length):(cells.set (i - 1) (.int .u8 c.toNat)).drop (i - 1)=u8s (c::acc):=by
 have h1:i - 1 < (cells.set (i - 1) (.int .u8 c.toNat)).length:=by rw[List.length_set];omega
 rw[List.drop_eq_getElem_cons h1,List.getElem_set_self,show i - 1+1=i by omega,List.drop_set_of_lt aI,h]
 rfl
theorem bM0{cells:List Value}{acc:aJ}{i b:Nat}{c:UInt8}{K:Hl}{T:TypeId}{fz:Nat×Nat}(hc:cells.length=65)(hi1:0 < i)(hi2:i≤65)(ha:cells.drop i=u8s acc)(hk:K b=some (aZ (cells.set (i - 1) (.int .u8 c.toNat)) T fz)):
  Ksl (elB 5) K (.slice (some ⟨b,i - 1,none⟩) (65 - (i - 1)) (65 - (i - 1))) (c::acc):=by
 have hl:acc.length=65 - i:=by have:=congrArg List.length ha;simp[hc]at this;omega
 refine .inr ⟨b,i - 1,65 - (i - 1),_,fz,?_,⟨_,hk⟩,?_⟩
 ·rw[show (c::acc).length=65 - (i - 1) by simp[hl];omega]
 rw[bAW ha hi1 aI,aFT];exact List.take_of_length_le (by simp[elB,wR])
theorem bJE{u i:Nat}(h1:49 < i)(h:u < 16 ^ (i - 49))(hu:¬u < 16):49 < i - 1∧u / 16 < 16 ^ (i - 1 - 49):=by
 obtain⟨k,rfl⟩:∃k,i=k+50:=⟨i - 50,by omega⟩;cases k with
 |zero=>exact absurd gBZ hu
 |succ k=>
  refine⟨by omega,?_⟩
  have e1:k+1+50 - 49=k+1+1:=by omega
  have e2:k+1+50 - 1 - 49=k+1:=by omega
  rw[e1,Nat.pow_succ]at h;rw[e2];exact Nat.div_lt_of_lt_mul (by rw[Nat.mul_comm];exact h)
theorem aR6(n:Nat)(hn:n < 18446744073709551616)(K:Hl)(hd:Deb K):Sp Tryz.prog 328 [.slice none 0 0,.int .u64 n,i64 16,.bool false,.bool false] K [] (Ret fun v K' L'=>v=.tuple #[.slice none 0 0,str (hexN n)]):=by
 refine a8 Tryz.func328 rfl Tryz.ntmps328 rfl rfl fun F w=>?_;refine zz31 ?_;rintro _ K _ ⟨b12,rfl,rfl,rfl⟩ -;refine zz20 ?_;refine cF rfl rfl (bDL _) rfl ?_;refine zz6 ?_;refine aA (gN (v:=.int .u64 16) (kO Tryz.underlying257 Tryz.underlying3 rfl) bJ) rfl ?_;refine cF rfl rfl (bOZ _ hd) rfl ?_;refine aA (gN (v:=.int .u64 4) (kO Tryz.underlying257 Tryz.underlying3 rfl) bJ) rfl ?_;refine zz6 ?_;refine aA (gN (v:=.int .u64 16) (kO Tryz.underlying345 Tryz.underlying3 rfl) bJ) rfl ?_;refine zz6 ?_;refine aA (gN (v:=.int .u64 16) (kO Tryz.underlying257 Tryz.underlying3 rfl) bJ) rfl ?_;refine aA (gN (v:=.int .u64 15) (aD4 rfl rfl) bJ) rfl ?_;refine zz5 ?_;refine n7 (fun(u i:Nat) (cells:List Value)=>cells.length=65∧49 < i∧i≤65∧u < 16 ^ (i - 49)∧u < 18446744073709551616∧∃acc,cells.drop i=u8s acc∧hexN n=hexN u++acc) (fun u i _=>[(1,.int .u64 u),(3,.bool false),(4,.bool false),(10,.slice none 0 0),(12,ptr b12),(13,i64 i),(14,.int .u64 4),(15,.int .u64 16),(16,.int .u64 15)]) (fun _ _ _=>K) (fun _ _ cells=>[pt b12 (aZ cells 476)]) (fun u _ _=>u) n 65 _ ⟨rfl,by omega,by omega,by simpa using hn,hn,[],rfl,by simp⟩ (.cons 1 rfl (.cons 3 rfl (.cons 4 rfl (.cons 10 rfl (.cons 12 rfl (.cons 13 rfl (.cons 14 rfl (.cons 15 rfl (.cons 16 rfl .nil))))))))) rfl (fun _ h=>h) ?_;intro u i cells ⟨hc,hi1,hi2,hu1,hu2,acc,ha1,ha2⟩;refine zz8 ?_;refine bK 46 rfl (fun h46=>?_) (fun h46=>?_)
 ·have hi3:=bJE hi1 hu1 aI;refine zz6 ?_;refine aA (gN (v:=i64 ((i - 1:Nat):Int)) (kT rfl rfl aI aI) (congrArg i64 aI)) rfl ?_;refine zz8 ?_;refine aA (gN (v:=.int .u64 ((u % 16:Nat):Int)) (aIJ rfl rfl) (congrArg (Value.int .u64) (bS4 hu2))) rfl ?_;refine aA (cZ Tryz.underlying9 (l:=digs) rfl rfl rfl (aZI (Nat.mod_lt _ aI))) rfl ?_;refine aA (fJ Tryz.underlying476 ts5 rfl rfl rfl aI) rfl ?_;refine cA (bP ts5 rfl rfl rfl bF (sN aI) rfl) ?_;rintro _ K _ ⟨rfl,rfl⟩ -;refine zz5 ?_;refine aA (gN (v:=.int .u64 ((u / 16:Nat):Int)) (aW3 rfl rfl aI) (congrArg (Value.int .u64) bVU)) rfl ?_;refine zz3 ?_;exact iU (u / 16) (i - 1) _ ⟨by simpa using hc,hi3.1,by omega,hi3.2,by omega,_,bAW (c:=xE (u % 16)) ha1 aI aI,by rw[ha2,bMY aI];simp⟩ aI (.cons 1 rfl (.cons 3 rfl (.cons 4 rfl (.cons 10 rfl (.cons 12 rfl (.cons 13 rfl (.cons 14 rfl (.cons 15 rfl (.cons 16 rfl .nil))))))))) rfl (fun _ h=>h)
 refine zz8 ?_;refine aA (gN (v:=i64 ((i - 1:Nat):Int)) (kT rfl rfl aI aI) (congrArg i64 aI)) rfl ?_;refine zz6 ?_;refine aA (cZ Tryz.underlying9 (l:=digs) rfl rfl rfl (aZI aI)) rfl ?_;refine aA (fJ Tryz.underlying476 ts5 rfl rfl rfl aI) rfl ?_;refine cA (bP ts5 rfl rfl rfl bF (sN aI) rfl) ?_;rintro _ K _ ⟨rfl,rfl⟩ -;refine zz22 ?_;refine fT fun K2 le2 hb=>?_;refine zz1 ?_;refine aA (aH9 Tryz.underlying476 ts5 rfl rfl rfl aI) rfl ?_;refine aA (lD Tryz.underlying130 Tryz.underlying5 Tryz.underlying9 rfl (.known (bM0 hc aI hi2 ha1 hb))) rfl ?_;refine zz4 ?_;refine fA rfl rfl rfl le2 ?_;exact⟨_,rfl,by rw[ha2,bMZ aI];rfl⟩
theorem bQ3(n:Nat)(hn:n < 18446744073709551616)(K:Hl)(hd:Deb K):Sp Tryz.prog 294 [.int .u64 n,i64 16] K [] (Ret fun v K' L'=>v=str (hexN n)):=by
 refine a8 Tryz.func294 rfl Tryz.ntmps294 rfl rfl fun F w=>?_;refine zz19 ?_;refine aX rfl rfl (aR6 n hn _ hd) .nil rfl ?_;rintro _ K1 L1 rfl le1;refine zz14 ?_;refine bD rfl rfl le1 ?_;exact⟨_,rfl,rfl⟩
theorem aP6(n:Nat)(hn:n < 18446744073709551616)(K:Hl)(hd:Deb K):Sp Tryz.prog 225 [.int .u64 n,i64 16] K [] (Val (str (hexN n)) K):=by
 have h:Sp Tryz.prog 225 [.int .u64 n,i64 16] K [] (fun e _ L'=>(fun e L'=>e=.returned (str (hexN n))∧L'=[]) e L'):=by
  refine a8 Tryz.func225 rfl Tryz.ntmps225 rfl rfl fun F w=>?_;refine zz9 ?_;refine aX rfl rfl (bQ3 n hn _ hd) .nil rfl ?_;rintro _ K1 L1 rfl le1;refine zz4 ?_;refine uAl ?_;refine bD rfl rfl le1 ?_;exact⟨rfl,rfl⟩
 exact(aQ5 h).mono fun e K' L' ⟨h1,h2,h3⟩=>⟨h2,h1,h3⟩
end Go.Proofs
end
section
namespace Go.SL
open Go.MapKept
def mdel(k:List UInt8):List Ent→List Ent
 | []=>[]
 |e::r=>if k=e.1 then r else e::mdel k r
theorem aNU{k:List UInt8}:∀ {es:List Ent} {i:Nat},nK k es i=none→mdel k es=es
 | [],_,_=>rfl
 |e::es,i,h=>by
  unfold nK at h;unfold mdel;split at h
  ·cases h
  rename_i hk;rw[if_neg hk,aNU h]
theorem aZ7{k:List UInt8}:∀ {es:List Ent} {i j:Nat} {u:Value},nK k es i=some (j,u)→i≤j∧j - i < es.length∧es.eraseIdx (j - i)=mdel k es
 | [],_,_,_,h=>by cases h
 |e::es,i,j,u,h=>by
  unfold nK at h;unfold mdel;split at h
  ·rename_i hk;cases h
   rw[if_pos hk,Nat.sub_self];exact⟨Nat.le_refl _,by simp,rfl⟩
  rename_i hk;obtain⟨h1,h2,h3⟩:=aZ7 h;have e1:j - i=(j - (i+1))+1:=by omega
  rw[if_neg hk,e1];refine⟨by omega,by simp only[List.length_cons];omega,?_⟩
  rw[List.eraseIdx_cons_succ,h3]
theorem aD2{α β:Type}(f:α→β):∀(l:List α) (i:Nat),(l.map f).eraseIdx i=(l.eraseIdx i).map f
 | [],_=>rfl
 |_::_,0=>rfl
 |a::l,i+1=>by simp[List.eraseIdx_cons_succ,aD2 f l i]
section
variable{E:Env}{fr:Fr}{K:Hl}{L L':List Asn}{dst:Option Tmp}{ty:TypeId}{pos:String}{aft:Array Edge}{g:Option (Nat×Bool)}{x y:Operand}{t kt et t2:TypeId}{b:Nat}{es:List Ent}{c:Nat}{k:List UInt8}
theorem aYC{P:Program}{w:World}(hm:P.underlying t=some (.map kt et))(hk:P.underlying kt=some .string)(hb:w.heap[b]?=some (mapO es c)):
  (Builtin.delete_ #[t,t2] ty #[.map (some b),str k]).run P w=.ok (.tuple #[]) {w with heap:=w.heap.setIfInBounds b (mapO (mdel k es) c)}:=by
 have h1:∀z,(Instr.checkKey z 10000 kt (str k)).run P w=.ok () w:=fun z=>run_checkKey hk (d:=.string) (k:=str k) trivial _ 9999
 have h2:=run_findKey (w:=w) (kt:=kt) hk (rJ k es 0);unfold Builtin.delete_;simp only[List.getElem?_toArray,List.getElem?_cons_zero,List.getElem?_cons_succ];rw[aV (run_underlying hm w)];simp only[];have key:∀o:Obj,(setObj b o).run P w=.ok () {w with heap:=w.heap.setIfInBounds b o}:=fun o=>MapKept.run_setObj_map _ hb
 show ((getObj b)>>=fun _=>_).run P w=_
 rw[aV (MapKept.run_getObj_map hb)];simp only[];rw[aV (h1 _)]
 show ((Instr.findKey kt (str k) (es.map ent))>>=fun _=>_).run P w=_
 rw[aV h2];cases hf:nK k es 0 with
 |none=>
  show ((setObj b (mapO es c))>>=fun _=>_).run P w=_
  rw[aV (key _),aNU hf];rfl
 |some p=>
  obtain⟨i,u⟩:=p;obtain⟨_,h3,h4⟩:=aZ7 hf;rw[Nat.sub_zero]at h3 h4;have e1:((es.map ent).toArray.eraseIdxIfInBounds i)=((mdel k es).map ent).toArray:=by
   rw[←h4];simp[Array.eraseIdxIfInBounds,h3,List.eraseIdx_toArray,aD2]
  show ((setObj b (.map ((es.map ent).toArray.eraseIdxIfInBounds i) c))>>=fun _=>_).run P w=_
  rw[aV (key _),e1];rfl
theorem bJ2{dst:Option Tmp}{ats:Array TypeId}(ha:ats= #[t,t2])(hm:E.P.underlying t=some (.map kt et))(hk:E.P.underlying kt=some .string)(hx:fr.ev x=some (.map (some b)))(hy:fr.ev y=some (str k))
  (hF:Fnd (pt b (mapO es c)) (pt b (mapO (mdel k es) c)) L L'):EfS E fr K L ⟨dst,.call ⟨.builtin .delete,#[x,y],ats⟩,ty,pos,aft,g⟩ (fun u K' L''=>u=.tuple #[]∧K'=K∧L''=L'):=by
 intro a w f j;subst ha;have hb:=j.mem hF;have e1:Array.map a.eval #[x,y]= #[.map (some b),str k]:=by simp[f.ev hx,f.ev hy]
 have hs:=MapKept.heap_set (o':=mapO (mdel k es) c) hb;refine⟨_,_,_,_,.inl ?_,⟨rfl,rfl,rfl⟩,Hl.le_refl _,j.writeAt hF (by simp) hs.1 hs.2⟩
 simp only[execOp,resolve,e1,bind,pure,Sem.bind,invoke,builtin];exact eR (aYC hm hk hb)
end
theorem aUK{P:Program}(w:World)(ty:TypeId)(b bm since c0:Nat)(seen:Array Nat)(es:Array MapEntry)(clock:Nat)(hbi:w.heap[b]?=some (.mapIter (some bm) since seen c0))(hb:w.heap[bm]?=some (.map es clock))(hold:∀x∈es.toList,x.born < since)(hsc:since≤c0):
  ((leftOf es seen).size=0∧(Instr.next (.pointer (some ⟨b,0,none⟩)) false ty).run P w=.ok (.tuple #[.bool false]) w)∨
  ∃e∈(leftOf es seen).toList,∃w1:World,w1.os=w.os∧w1.tape=w.tape∧w1.output=w.output∧w1.heap=w.heap∧(Instr.next (.pointer (some ⟨b,0,none⟩)) false ty).run P w=.ok (.tuple #[.bool true,e.key,e.val]) {w1 with heap:=w.heap.setIfInBounds b (.mapIter (some bm) since (seen.push e.born) clock)}:=by
 simp only[Instr.next,getObj,Sem.run_bind,Sem.run,hbi,hb,Result.andThen,next_test_false seen es since c0 hold hsc,Bool.false_eq_true,if_false];unfold leftOf;have hmem:∀x∈(Array.filter (fun e=>!seen.contains e.born) es).toList,x.born < since:=fun x hx=>hold x (by simp at hx ⊢;exact hx.1)
 generalize Array.filter (fun e=>!seen.contains e.born) es=L at hmem ⊢
 have e1:L.filter (fun x=>decide (x.born < since))=L:=Array.filter_eq_self.2 (fun x hx=>by simpa using hmem x gBE);have e2:L.filter (fun x=>decide (x.born≥since))= #[]:=by
  rw[Array.filter_eq_empty_iff];intro x hx;have:=hmem x gBE;simp;omega
 simp only[e1,e2,Array.append_empty]
 by_cases h0:L.size=0
 ·left
  have:L= #[]:=Array.eq_empty_of_size_eq_zero h0;subst this;refine⟨rfl,?_⟩
  simp[choose,Sem.run,Question.forced]
 right
 have hne:L.isEmpty=false:=by simp[Array.isEmpty,h0]
 simp only[hne,Bool.false_eq_true,if_false,Array.empty_append,Array.size_map];have hch:∃(j:Nat) (w1:World),j < L.size∧(w1.os=w.os∧w1.tape=w.tape∧w1.output=w.output∧w1.heap=w.heap)∧(choose (Question.mapNext L.size)).run P w=.ok j w1:=by
  by_cases hf:L.size≤1
  ·exact⟨0,w,by omega,⟨rfl,rfl,rfl,rfl⟩,by simp[choose,Sem.run,Question.forced,hf]⟩
  exact ⟨_, w.drew, Nat.mod_lt _ aI, ⟨rfl, rfl, rfl, rfl⟩, by
   simp only[choose,Sem.run,Question.forced,decide_eq_true_eq,hf,if_false,Question.cut]
   rfl⟩
 obtain⟨j,w1,hj,⟨a1,a2,a3,a4⟩,hrun⟩:=hch;refine⟨L[j],by simp,w1,a1,a2,a3,a4,?_⟩
 have hset:∀(o':Obj),(setObj b o').run P w1=.ok () {w1 with heap:=w.heap.setIfInBounds b o'}:=fun o'=>by
  simp only[setObj,Sem.run];rw[a4,hbi]
 simp only[hrun,Array.getElem?_map,Array.getElem?_eq_getElem hj,Option.map_some,Sem.run_bind,hset,Result.andThen]
 rfl
abbrev mit(b m since:Nat)(seen:List Nat)(aTE:Nat):Asn:=pt b (.mapIter (some m) since seen.toArray aTE)
structure Fresh (es:List Ent) (c:Nat):Prop where
 lt:∀e∈es,e.2.2 < c
 nd:(es.map (·.2.2)).Nodup
section
variable{E:Env}{fr:Fr}{K:Hl}{L L':List Asn}{dst:Option Tmp}{ty:TypeId}{pos:String}{aft:Array Edge}{g:Option (Nat×Bool)}{x:Operand}{t kt et:TypeId}{b m c:Nat}{es:List Ent}{seen:List Nat}
theorem aLH(hu:E.P.underlying t=some (.map kt et))(hx:fr.ev x=some (.map (some m)))(hs:Sees K L m (mapO es c)):EfS E fr K L ⟨dst,.range t x,ty,pos,aft,g⟩ (fun v K' L'=>∃b,v=ptr b∧K'=K∧L'=mit b m c [] c::L):=by
 intro a w f i;have hb:=hs.at i;refine⟨ptr w.heap.size,w.alloc (.mapIter (some m) c #[] c),K,mit w.heap.size m c [] c::L,.inl ?_,⟨_,rfl,rfl,rfl⟩,Hl.le_refl _,i.alloc _⟩
 simp only[execOp,f.ev hx,bind];exact aV (run_range_map w t kt et m _ c hu hb)
theorem aOE{M:Nat→List Asn}(hx:fr.ev x=some (ptr b))(hs:Sees K L m (mapO es c))(hf:Fresh es c)(hT:∀n,Fnd (mit b m c seen c) (mit b m c (seen++[n]) c) L (M n)):
  EfS E fr K L ⟨dst,.next x false,ty,pos,aft,g⟩ (fun v K' L''=>K'=K∧((v=.tuple #[.bool false]∧L''=L∧∀e∈es,e.2.2∈seen)∨∃e∈es,e.2.2∉seen∧v=.tuple #[.bool true,str e.1,e.2.1]∧L''=M e.2.2)):=by
 intro a w f i;have hb:=hs.at i;have hbi:=i.mem (hT 0);have hold:∀y∈((es.map ent).toArray).toList,y.born < c:=by
  intro y hy;have hy2:y∈es.map ent:=hy;obtain⟨e,he,rfl⟩:=List.mem_map.1 hy2;exact hf.lt e he
 rcases aUK (P:=E.P) w ty b m c c seen.toArray (es.map ent).toArray c hbi hb hold (Nat.le_refl _)with ⟨h0,hr⟩|⟨y,hy,w1,a1,a2,a3,a4,hr⟩
 ·refine⟨_,w,K,L,.inl ?_,⟨rfl,.inl ⟨rfl,rfl,fun e he=>?_⟩⟩,Hl.le_refl _,i⟩
  ·simp only[execOp,f.ev hx,bind];exact aV hr
  apply Classical.byContradiction
  intro hn;have:ent e∈(leftOf (es.map ent).toArray seen.toArray).toList:=by
   unfold leftOf;simp only[Array.toList_filter,List.mem_filter];exact⟨List.mem_map_of_mem he,by simp[ent,hn]⟩
  have h1:=List.length_pos_of_mem this;rw[Array.length_toList]at h1;omega
 unfold leftOf at hy;simp only[Array.toList_filter,List.mem_filter]at hy;obtain⟨e,he,rfl⟩:=List.mem_map.1 hy.1;have hn:e.2.2∉seen:=by have:=hy.2;simpa[ent]using this
 refine⟨_,{w1 with heap:=w.heap.setIfInBounds b (.mapIter (some m) c (seen.toArray.push (ent e).born) c)},K,M e.2.2,.inl ?_,⟨rfl,.inr ⟨e,he,hn,rfl,rfl⟩⟩,Hl.le_refl _,?_⟩
 ·simp only[execOp,f.ev hx,bind];exact aV hr
 have hlt:b < w.heap.size:=(Array.getElem?_eq_some_iff.1 hbi).1;have e1:(seen.toArray.push (ent e).born)=(seen++[e.2.2]).toArray:=by simp[ent]
 rw[e1];have j:=i.writeAt (hT e.2.2) (H:=w.heap.setIfInBounds b (.mapIter (some m) c (seen++[e.2.2]).toArray c)) (by simp) (by simp[hlt]) (fun y hy=>by rw[Array.getElem?_setIfInBounds_ne (Ne.symm hy)]);exact⟨a1.trans j.os,a2.trans j.tape,a3.trans j.output,j.size,j.rep⟩
theorem aQW{P:Program}(w:World)(b bm since:Nat)(seen:Array Nat)(es:Array MapEntry)(clock:Nat)(e:MapEntry)(hbi:w.heap[b]?=some (.mapIter (some bm) since (seen.push e.born) clock))(hb:w.heap[bm]?=some (.map es clock))(he:e∈es.toList)(hn:(es.toList.map (·.born)).Nodup):
  (Instr.entry (.pointer (some ⟨b,0,none⟩))).run P w=.ok (.tuple #[e.key,e.val]) w:=by
 have hf:es.find? (·.born==e.born)=some e:=by rw[←Array.find?_toList];exact find_born e es.toList hn he
 simp only[Instr.entry,getObj,Sem.run_bind,Sem.run,hbi,hb,Result.andThen,Array.back?_push,bne_self_eq_false,Bool.false_eq_true,if_false,hf]
 rfl
theorem aHE{e:Ent}(hx:fr.ev x=some (ptr b))(hs:Sees K L m (mapO es c))(hf:Fresh es c)(he:e∈es)(hT:Hs (mit b m c (seen++[e.2.2]) c) L):Ev E fr K L ⟨dst,.entry x,ty,pos,aft,g⟩ (.tuple #[str e.1,e.2.1]):=by
 intro a w f i;have hb:=hs.at i;have hbi:=(Sees.own (K:=K) hT).at i;have e1:(seen.toArray.push (ent e).born)=(seen++[e.2.2]).toArray:=by simp[ent]
 simp only[execOp,f.ev hx,bind];refine aV (aQW w b m c seen.toArray (es.map ent).toArray c (ent e) (by rw[e1];exact hbi) hb (List.mem_map_of_mem he) ?_)
 have:=hf.nd
 show ((es.map ent).map (·.born)).Nodup
 rw[List.map_map];exact this
end
end Go.SL
end
section
namespace Go.SL
theorem j7(k:List UInt8)(e:Ent)(es:List Ent):mget (e::es) k=if k=e.1 then some e.2.1 else mget es k:=by
 unfold mget;rw[List.find?_cons]
 by_cases h:k=e.1
 ·simp[h]
 rw[if_neg h];simp[h]
theorem aKP{k:List UInt8}{v:Value}{c:Nat}:∀(es:List Ent),(mset k v c es).map (·.2.2)=if (mget es k).isSome=true then es.map (·.2.2)else es.map (·.2.2)++[c]
 | []=>by simp[mset,mget]
 |e::es=>by
  unfold mset;rw[j7]
  by_cases h:k=e.1
  ·rw[if_pos h,if_pos h];simp
  rw[if_neg h,if_neg h,List.map_cons,aKP es];split <;> simp
theorem aNW{k:List UInt8}{v:Value}{c:Nat}:∀(es:List Ent),(mset k v c es).map (·.1)=if (mget es k).isSome=true then es.map (·.1)else es.map (·.1)++[k]
 | []=>by simp[mset,mget]
 |e::es=>by
  unfold mset;rw[j7]
  by_cases h:k=e.1
  ·rw[if_pos h,if_pos h];simp
  rw[if_neg h,if_neg h,List.map_cons,aNW es];split <;> simp
theorem zM{k:List UInt8}:∀(es:List Ent),(mget es k).isSome=true↔k∈es.map (·.1)
 | []=>by simp[mget]
 |e::es=>by
  rw[j7]
  by_cases h:k=e.1
  ·rw[if_pos h];simp[h]
  rw[if_neg h,zM es];simp[h]
theorem aF4{k j:List UInt8}{v:Value}{c:Nat}:∀(es:List Ent),mget (mset k v c es) j=if j=k then some v else mget es j
 | []=>by
  unfold mset;rw[j7]
 |e::es=>by
  unfold mset
  by_cases h:k=e.1
  ·rw[if_pos h,j7,j7]
   by_cases h2:j=k
   ·rw[if_pos h2,if_pos (by rw[h2];exact h)]
   rw[if_neg h2,if_neg (fun h3=>h2 (h3.trans h.symm)),if_neg (fun h3=>h2 (h3.trans h.symm))]
  rw[if_neg h,j7,j7,aF4 es]
  by_cases h2:j=e.1
  ·rw[if_pos h2,if_pos h2,if_neg (fun h3=>h (h3.symm.trans h2))]
  rw[if_neg h2,if_neg h2]
theorem aEI{k:List UInt8}:∀(es:List Ent),(mdel k es).Sublist es
 | []=>.slnil
 |e::es=>by
  unfold mdel;split
  ·exact List.sublist_cons_self _ _
  exact(aEI es).cons_cons _
theorem aQJ{k:List UInt8}{es:List Ent}(h:k∉es.map (·.1)):mget es k=none:=by
 cases hm:mget es k with
 |none=>rfl
 |some v=>exact absurd ((zM es).1 (by rw[hm];rfl)) h
theorem aNV{k j:List UInt8}:∀ {es:List Ent},(es.map (·.1)).Nodup→mget (mdel k es) j=if j=k then none else mget es j
 | [],_=>by simp[mdel,mget]
 |e::es,hn=>by
  have hn':e.1∉es.map (·.1)∧(es.map (·.1)).Nodup:=List.nodup_cons.1 hn;unfold mdel
  by_cases h:k=e.1
  ·rw[if_pos h,j7]
   by_cases h2:j=k
   ·rw[if_pos h2];exact aQJ (by rw[h2,h];exact hn'.1)
   rw[if_neg h2,if_neg (fun h3=>h2 (h3.trans h.symm))]
  rw[if_neg h,j7,j7,aNV hn'.2]
  by_cases h2:j=e.1
  ·rw[if_pos h2,if_pos h2,if_neg (fun h3=>h (h3.symm.trans h2))]
  rw[if_neg h2,if_neg h2]
theorem Fresh.nil:Fresh [] 0:=by
 refine⟨?_,List.nodup_nil⟩
 intro e h;cases h
theorem Fresh.set{es:List Ent}{c:Nat}{k:List UInt8}{v:Value}(h:Fresh es c):Fresh (mset k v c es) (yE es k c):=by
 have hb:=aKP (k:=k) (v:=v) (c:=c) es;refine⟨fun e he=>?_,?_⟩
 ·have hm:e.2.2∈(mset k v c es).map (·.2.2):=List.mem_map_of_mem he;rw[hb]at hm;unfold yE;split at hm
  ·rename_i h1;rw[if_pos h1];obtain⟨f,hf,e2⟩:=List.mem_map.1 hm;rw[←e2];exact h.lt f hf
  rename_i h1;rw[if_neg h1];rcases List.mem_append.1 hm with hm|hm
  ·obtain⟨f,hf,e2⟩:=List.mem_map.1 hm;have:=h.lt f hf;omega
  have:=List.mem_singleton.1 hm;omega
 rw[hb];split
 ·exact h.nd
 refine List.nodup_append.2 ⟨h.nd,by simp,fun a ha b hb=>?_⟩
 obtain⟨f,hf,rfl⟩:=List.mem_map.1 ha;have:=h.lt f hf;have:=List.mem_singleton.1 hb;omega
theorem Fresh.del{es:List Ent}{c:Nat}{k:List UInt8}(h:Fresh es c):Fresh (mdel k es) c:=
 ⟨fun e he=>h.lt e ((aEI es).subset he),h.nd.sublist ((aEI es).map _)⟩
theorem aTC{es:List Ent}{c:Nat}{k:List UInt8}{v:Value}(h:(es.map (·.1)).Nodup):((mset k v c es).map (·.1)).Nodup:=by
 rw[aNW];split
 ·exact h
 rename_i h1;refine List.nodup_append.2 ⟨h,by simp,fun a ha b hb=>?_⟩
 have:=List.mem_singleton.1 hb;subst this;rintro rfl;exact h1 ((zM es).2 ha)
theorem bH9{es:List Ent}{k:List UInt8}(h:(es.map (·.1)).Nodup):((mdel k es).map (·.1)).Nodup:=h.sublist ((aEI es).map _)
end Go.SL
end
section
namespace Go.Proofs
open Go.Shelf
def Tryz.sl6_ren:Go.Shelf.Ren:=⟨fun|6=>83|10=>93|11=>137|12=>138|13=>139|14=>140|24=>239|25=>240|26=>241|27=>242|28=>243|29=>244|30=>245|31=>246|32=>247|33=>248|34=>298|35=>299|36=>300|37=>301|38=>302|39=>334|n=>n,fun|20=>20|26=>169|35=>188|0=>0|37=>112|3=>3|41=>257|44=>260|49=>350|51=>345|4=>4|54=>354|53=>353|58=>358|5=>5|9=>9|60=>420|64=>424|66=>454|67=>455|17=>17|32=>185|33=>186|82=>525|12=>12|75=>520|76=>193|77=>521|78=>227|79=>522|80=>523|n=>n,fun n=>n⟩
theorem Tryz.sl6 : LaysGg.n6 Tryz.prog Tryz.sl6_ren := {
 mixed:=by kernel_rfl
 f6:=Tryz.func83.trans (congrArg some bJ)
 f10:=Tryz.func93.trans (congrArg some bJ)
 f11:=Tryz.func137.trans (congrArg some bJ)
 f12:=Tryz.func138.trans (congrArg some bJ)
 f13:=Tryz.func139.trans (congrArg some bJ)
 f14:=Tryz.func140.trans (congrArg some bJ)
 f24:=Tryz.func239.trans (congrArg some bJ)
 f25:=Tryz.func240.trans (congrArg some bJ)
 f26:=Tryz.func241.trans (congrArg some bJ)
 f27:=Tryz.func242.trans (congrArg some bJ)
 f28:=Tryz.func243.trans (congrArg some bJ)
 f29:=Tryz.func244.trans (congrArg some bJ)
 f30:=Tryz.func245.trans (congrArg some bJ)
 f31:=Tryz.func246.trans (congrArg some bJ)
 f32:=Tryz.func247.trans (congrArg some bJ)
 f33:=Tryz.func248.trans (congrArg some bJ)
 f34:=Tryz.func298.trans (congrArg some bJ)
 f35:=Tryz.func299.trans (congrArg some bJ)
 f36:=Tryz.func300.trans (congrArg some bJ)
 f37:=Tryz.func301.trans (congrArg some bJ)
 f38:=Tryz.func302.trans (congrArg some bJ)
 f39:=Tryz.func334.trans (congrArg some bJ)
 t0:=Tryz.underlying0
 a0:=Tryz.isAgg0
 z0:=Tryz.sizeOf0
 v0:=Tryz.zeroValue0
 i0:=by kernel_rfl
 t3:=Tryz.underlying3
 a3:=Tryz.isAgg3
 z3:=Tryz.sizeOf3
 v3:=Tryz.zeroValue3
 i3:=by kernel_rfl
 t4:=Tryz.underlying4
 a4:=Tryz.isAgg4
 z4:=Tryz.sizeOf4
 v4:=Tryz.zeroValue4
 i4:=by kernel_rfl
 t5:=Tryz.underlying5
 a5:=Tryz.isAgg5
 z5:=Tryz.sizeOf5
 v5:=Tryz.zeroValue5
 i5:=by kernel_rfl
 t9:=Tryz.underlying9
 a9:=Tryz.isAgg9
 z9:=Tryz.sizeOf9
 v9:=Tryz.zeroValue9
 i9:=by kernel_rfl
 t12:=Tryz.underlying12
 a12:=Tryz.isAgg12
 z12:=Tryz.sizeOf12
 v12:=Tryz.zeroValue12
 i12:=by kernel_rfl
 t17:=Tryz.underlying17
 a17:=Tryz.isAgg17
 z17:=Tryz.sizeOf17
 v17:=Tryz.zeroValue17
 i17:=by kernel_rfl
 t20:=Tryz.underlying20
 a20:=Tryz.isAgg20
 z20:=Tryz.sizeOf20
 v20:=Tryz.zeroValue20
 i20:=by kernel_rfl
 t26:=Tryz.underlying169
 a26:=Tryz.isAgg169
 z26:=Tryz.sizeOf169
 v26:=Tryz.zeroValue169
 i26:=by kernel_rfl
 t32:=Tryz.underlying185
 a32:=Tryz.isAgg185
 z32:=Tryz.sizeOf185
 v32:=Tryz.zeroValue185
 i32:=by kernel_rfl
 t33:=Tryz.underlying186
 a33:=Tryz.isAgg186
 z33:=Tryz.sizeOf186
 v33:=Tryz.zeroValue186
 i33:=by kernel_rfl
 t35:=Tryz.underlying188
 a35:=Tryz.isAgg188
 z35:=Tryz.sizeOf188
 v35:=Tryz.zeroValue188
 i35:=by kernel_rfl
 t37:=Tryz.underlying112
 a37:=Tryz.isAgg112
 z37:=Tryz.sizeOf112
 v37:=Tryz.zeroValue112
 i37:=by kernel_rfl
 t41:=Tryz.underlying257
 a41:=Tryz.isAgg257
 z41:=Tryz.sizeOf257
 v41:=Tryz.zeroValue257
 i41:=by kernel_rfl
 t44:=Tryz.underlying260
 a44:=Tryz.isAgg260
 z44:=Tryz.sizeOf260
 v44:=Tryz.zeroValue260
 i44:=by kernel_rfl
 t49:=Tryz.underlying350
 a49:=Tryz.isAgg350
 z49:=Tryz.sizeOf350
 v49:=Tryz.zeroValue350
 i49:=by kernel_rfl
 t51:=Tryz.underlying345
 a51:=Tryz.isAgg345
 z51:=Tryz.sizeOf345
 v51:=Tryz.zeroValue345
 i51:=by kernel_rfl
 t53:=Tryz.underlying353
 a53:=Tryz.isAgg353
 z53:=Tryz.sizeOf353
 v53:=Tryz.zeroValue353
 i53:=by kernel_rfl
 t54:=Tryz.underlying354
 a54:=Tryz.isAgg354
 z54:=Tryz.sizeOf354
 v54:=Tryz.zeroValue354
 i54:=by kernel_rfl
 t58:=Tryz.underlying358
 a58:=Tryz.isAgg358
 z58:=Tryz.sizeOf358
 v58:=Tryz.zeroValue358
 i58:=by kernel_rfl
 t60:=Tryz.underlying420
 a60:=Tryz.isAgg420
 z60:=Tryz.sizeOf420
 v60:=Tryz.zeroValue420
 i60:=by kernel_rfl
 t64:=Tryz.underlying424
 a64:=Tryz.isAgg424
 z64:=Tryz.sizeOf424
 v64:=Tryz.zeroValue424
 i64:=by kernel_rfl
 t66:=Tryz.underlying454
 a66:=Tryz.isAgg454
 z66:=Tryz.sizeOf454
 v66:=Tryz.zeroValue454
 i66:=by kernel_rfl
 t67:=Tryz.underlying455
 a67:=Tryz.isAgg455
 z67:=Tryz.sizeOf455
 v67:=Tryz.zeroValue455
 i67:=by kernel_rfl
 t75:=Tryz.underlying520
 a75:=Tryz.isAgg520
 z75:=Tryz.sizeOf520
 v75:=Tryz.zeroValue520
 i75:=by kernel_rfl
 t76:=Tryz.underlying193
 a76:=Tryz.isAgg193
 z76:=Tryz.sizeOf193
 v76:=Tryz.zeroValue193
 i76:=by kernel_rfl
 t77:=Tryz.underlying521
 a77:=Tryz.isAgg521
 z77:=Tryz.sizeOf521
 v77:=Tryz.zeroValue521
 i77:=by kernel_rfl
 t78:=Tryz.underlying227
 a78:=Tryz.isAgg227
 z78:=Tryz.sizeOf227
 v78:=Tryz.zeroValue227
 i78:=by kernel_rfl
 t79:=Tryz.underlying522
 a79:=Tryz.isAgg522
 z79:=Tryz.sizeOf522
 v79:=Tryz.zeroValue522
 i79:=by kernel_rfl
 t80:=Tryz.underlying523
 a80:=Tryz.isAgg523
 z80:=Tryz.sizeOf523
 v80:=Tryz.zeroValue523
 i80:=by kernel_rfl
 t82:=Tryz.underlying525
 a82:=Tryz.isAgg525
 z82:=Tryz.sizeOf525
 v82:=Tryz.zeroValue525
 i82:=by kernel_rfl}
end Go.Proofs
end
section
namespace Go.Proofs
open Go.Shelf Go.RowKit Go.Lib Go.Sort
abbrev fY:=List UInt8×List UInt8
def encF(f:fY):List Value:=[SL.str f.1,SL.str f.2]
def ltF(a b:fY):Bool:=ltStr a.1 b.1
theorem bOF:SWO ltF where
 irrefl x:=swo_ltStr.irrefl x.1
 trans x y z:=swo_ltStr.trans x.1 y.1 z.1
 ntrans x y z:=swo_ltStr.ntrans x.1 y.1 z.1
noncomputable def Tryz.svT:TypeInfo:=(Tryz.prog.info? 62).get bJ
noncomputable def Tryz.svE:TypeInfo:=(Tryz.prog.info? 66).get bJ
theorem Tryz.svK(n:Nat)(h2:2≤n):Lib.swapperK n Tryz.svE 25=9:=by
 have a:Tryz.svE.hasPointers=true:=by kernel_rfl
 have b:Tryz.svE.bytes=32:=by kernel_rfl
 have c:(n==0)=false:=by simp;omega
 have d:(n==1)=false:=by simp;omega
 simp[Lib.swapperK,a,b,c,d]
set_option maxHeartbeats 2000000 in
theorem Tryz.less(blk off c Bs size:Nat)(W:World)(G:Nat→List UInt8)(hs:W.cell? ⟨Bs,0,none⟩=some (.slice (some ⟨blk,off,none⟩) size c))
  (hc:∀t,t < size→W.cell? ⟨blk,off+t*2,none⟩=some (SL.str (G t))) (i j:Nat) (hi:i < size) (hj:j < size) (_hsz:size < 4611686018427387904):
  Calls Tryz.prog 84 #[.int .i64 i,.int .i64 j,.pointer (some ⟨Bs,0,none⟩)] W fun e w'=>e=.returned (.bool (ltStr (G i) (G j)))∧∃q,w'=W.drewN q:=by
 have ci:=hc i hi;have cj:=hc j hj
 go_enter Tryz.func84,Tryz.ntmps84
 go_wp2
 go_quiet (fail)
 go_wp2
 go_ret
 refine⟨?_,nq,rfl⟩
 rw[bytesLess_eq]
 rfl
theorem Tryz.sortMany(blk off c Bs:Nat)(d:Array fY)(h2:2≤d.size)(hsz:d.size < 4611686018427387904)(w:World)(hH:HoldsK encF 2 w blk off d)(hblk:blk < w.heap.size)
  (hBs:w.cell? ⟨Bs,0,none⟩=some (.slice (some ⟨blk,off,none⟩) d.size c)) (hB1:Bs < w.heap.size) (hB2:Bs≠blk):
  Calls Tryz.prog 83 #[.iface 62 (.slice (some ⟨blk,off,none⟩) d.size c),.func (.func 84) #[] #[.pointer (some ⟨Bs,0,none⟩)]] w fun e w'=>
   e=.returned (.tuple #[])∧∃d' n os,PermIn 0 d.size d d'∧SortedIn ltF 0 d.size d'∧w'=grow (putRowK encF 2 (Sort.ahead w n) blk off d') os:=by
 have hless:LessReadsK Tryz.prog 84 #[.pointer (some ⟨Bs,0,none⟩)] encF 2 ltF blk off d.size w:=by
  intro m os dk hs i j hi hj;have e:sortWorldK encF 2 w blk off m dk os=putRowK encF 2 (grow (Sort.ahead w m) os) blk off dk:=by
   unfold sortWorldK;rw[putRowK_grow _ _ (Sort.ahead w m) _ blk off _ hblk]
  have hHg:HoldsK encF 2 (grow (Sort.ahead w m) os) blk off d:=holdsK_grow _ _ _ _ blk off d hblk (holdsK_ahead _ _ _ _ _ _ _ hH);refine Tryz.less blk off c Bs d.size _ (fun t=>dk[t]!.1) ?_ (fun t ht=>?_) i j hi hj aI
  ·rw[e,cell?_putRowK_other _ _ _ blk off dk _ (by exact hB2),cell?_grow _ _ _ (by exact hB1)];exact hBs
  rw[e];exact((holdsK_putRowK _ _ _ blk off d dk hHg hs).cell (i:=t) (c:=0) aI aI).1
 exact Any.sort_Slice_cells_sorted Tryz.sl6 62 66 Tryz.svT Tryz.svE bJ bJ bJ bJ 25 (fun _=>by kernel_rfl) encF 2 (fun _=>rfl) bJ (fun _=>by kernel_rfl)
  (fun x v hv=>by simp[encF]at hv;rcases hv with rfl|rfl <;> rfl) ltF bOF 84 _
  (enters_of Tryz.func84 bJ rfl) blk off c d h2 hsz 238 (by rw[Tryz.svK _ h2];kernel_rfl) false
  (fun args W=>run_callFunc_extern Tryz.func238 bJ bJ bJ (e:=Extern.ReflectliteSwapper.swap false) bJ args W) w hless hH hblk
theorem Tryz.sortTiny(p:Option Addr)(n c:Nat)(h1:n≤1)(lf:Fn)(la lb:Array Value)(w:World):
  Calls Tryz.prog 83 #[.iface 62 (.slice p n c),.func lf la lb] w fun e w'=>e=.returned (.tuple #[])∧∃os,w'=grow w os:=by
 rcases(show n=0∨n=1 by omega)with rfl|rfl
 ·exact Any.sort_Slice_tiny Tryz.sl6 62 66 Tryz.svT Tryz.svE bJ bJ bJ bJ 25 (fun _=>by kernel_rfl) p 0 c h1 230 bJ lf la lb w
 exact Any.sort_Slice_tiny Tryz.sl6 62 66 Tryz.svT Tryz.svE bJ bJ bJ bJ 25 (fun _=>by kernel_rfl) p 1 c h1 231 bJ lf la lb w
end Go.Proofs
end
section
namespace Go.Proofs
open Go Go.SL Go.Sort
def cD:El fY:={e:=66,sz:=2,enc:=encF,len:=fun _=>rfl,one:=fun _ u h=>by simp[encF]at h;rcases h with rfl|rfl <;> rfl}
theorem In.grow{w0:World}{F K:Hl}{L:List Asn}:∀(os:List Obj) {w:World},In w0 F K L w→In w0 F K L (Sort.grow w os.toArray)
 | [],w,i=>by simpa using i
 |o::os,w,i=>by
  have e:Sort.grow w (o::os).toArray=Sort.grow (w.alloc o) os.toArray:=by rw[alloc_eq_grow,grow_grow];congr 1;simp
  rw[e];exact In.grow os (i.alloc o).drop
theorem bGG:∀(xs:List fY) (t:Nat),(cD.cs xs)[t]?=(xs[t / 2]?).bind fun f=>(encF f)[t % 2]?
 | [],t=>by simp[El.cs]
 |x::r,0=>rfl
 |x::r,1=>rfl
 |x::r,t+2=>by
  have:=bGG r t;have e1:(t+2) / 2=t / 2+1:=by omega
  have e2:(t+2) % 2=t % 2:=by omega
  rw[e1,e2,List.getElem?_cons_succ,←this]
  rfl
theorem aS3(d:Array fY)(t:Nat)(h:t < d.size*2):(cD.cs d.toList)[t]?=some ((flatK encF 2 d)[t]!):=by
 have h2:t / 2 < d.size:=by omega
 rw[bGG,get_flatK _ _ _ _ h];have e:d.toList[t / 2]?=some d[t / 2]!:=by rw[Array.getElem?_toList,Array.getElem?_eq_getElem h2,getElem!_pos d _ h2]
 rw[e];simp only[Option.bind_some];rcases Nat.mod_two_eq_zero_or_one t with e|e <;> rw[e] <;> rfl
theorem bHZ{w:World}{xs:List fY}{b:Nat}{junk:List Value}{cap:Nat}{fz:Nat×Nat}(hb:w.heap[b]?=some (aZ (cD.cs xs++junk) 66 fz))(hf:FzOk (cap*2) fz)(hc:xs.length≤cap):HoldsK encF 2 w b 0 xs.toArray:=by
 intro j hj;have hj':j < xs.length*2:=by simpa using hj
 have hl:(cD.cs xs).length=xs.length*2:=cD.cs_length xs;refine⟨?_,?_⟩
 ·rw[Nat.zero_add];refine mI hb ?_;rw[List.getElem?_append_left aI];exact aS3 xs.toArray j (by simpa using hj')
 have:=hf.at (o:=0+j) aI;obtain⟨lo,hi⟩:=fz;simp only[World.frozen?,hb];exact this
theorem bDP(xs:List fY)(d':Array fY)(junk:List Value)(hs:d'.size=xs.length):putCells id 0 (flatK encF 2 d') (cD.cs xs++junk).toArray=(cD.cs d'.toList++junk).toArray:=by
 have hl:(cD.cs xs).length=xs.length*2:=cD.cs_length xs;have hl':(cD.cs d'.toList).length=xs.length*2:=by rw[cD.cs_length];simp[hs];rfl
 apply Array.ext_getElem?
 intro k;simp only[putCells,Array.getElem?_mapIdx,size_flatK,List.getElem?_toArray]
 by_cases hk:k < xs.length*2
 ·rw[List.getElem?_append_left aI,List.getElem?_append_left aI,List.getElem?_eq_getElem aI,aS3 d' k aI];simp only[Option.map_some];rw[if_pos ⟨by omega,by omega⟩];rfl
 rw[List.getElem?_append_right aI,List.getElem?_append_right aI,hl,hl'];cases junk[k - xs.length*2]? with
 |none=>rfl
 |some y=>simp only[Option.map_some];rw[if_neg aI]
theorem In.putRow{w0 w:World}{F K:Hl}{L:List Asn}{b:Nat}{xs:List fY}{d':Array fY}{junk:List Value}{fz:Nat×Nat}{t:TypeId}(hs:d'.size=xs.length)(i:In w0 F K (pt b (aZ (cD.cs xs++junk) t fz)::L) w):
  In w0 F K (pt b (aZ (cD.cs d'.toList++junk) t fz)::L) (putRowK encF 2 w b 0 d'):=by
 have hb:=i.piece;refine In.write (H:=(putRowK encF 2 w b 0 d').heap) i (by rw[←size_putRowK encF 2 w b 0 d']) ?_ ?_
 ·simp only[putRowK,Sort.putRow,mapBlock,Array.getElem?_modify,if_true,hb,Option.map_some,onCells];rw[bDP xs d' junk hs]
 intro x hx;simp only[putRowK,Sort.putRow,mapBlock,Array.getElem?_modify];rw[if_neg (Ne.symm hx)]
abbrev aAO(ys:List fY):Prop:=ys.Pairwise fun a b=>¬b.1 < a.1
theorem aXX{d:Array fY}(h:SortedIn ltF 0 d.size d):aAO d.toList:=by
 rw[aAO,List.pairwise_iff_getElem];intro i j hi hj hij;have:=h i j (Nat.zero_le _) hij (by simpa using hj);simp only[ltF,ltStr,decide_eq_false_iff_not]at this
 simpa[getElem!_pos d i (by simpa using hi),getElem!_pos d j (by simpa using hj)]using this
theorem bN9(Bs:Nat)(z:Bool)(v:Value)(xs:List fY)(hn:xs.length < 4611686018427387904)(K:Hl):Sp Tryz.prog 83 [.iface 62 v,.func (.func 84) #[] #[ptr Bs]] K [pt Bs (aZ [v] 62),sl z cD v xs]
  (Ret fun u K' L'=>u=.tuple #[]∧K'=K∧∃ys,ys.Perm xs∧aAO ys∧L'=[pt Bs (aZ [v] 62),sl z cD v ys]):=by
 refine⟨⟨_,Tryz.func83,rfl,rfl⟩,fun F w i=>?_⟩
 have iB:w.heap[Bs]?=some (aZ [v] 62):=i.piece;have small:∀p c,v=.slice p xs.length c→xs.length≤1→Calls Tryz.prog 83 [.iface 62 v,.func (.func 84) #[] #[ptr Bs]].toArray w fun e w'=>∃K' L',(Ret fun u K' L'=>u=.tuple #[]∧K'=K∧∃ys,ys.Perm xs∧aAO ys∧L'=[pt Bs (aZ [v] 62),sl z cD v ys]) e K' L'∧K.le K'∧In w F K' L' w':=by
  intro p c hv h1;have hord:aAO xs:=by
   match xs,h1 with
   | [],_=>exact List.Pairwise.nil
   | [x],_=>exact List.pairwise_singleton _ _
  rw[hv];refine(Tryz.sortTiny p xs.length c h1 (.func 84) #[] #[ptr Bs] w).mono ?_;rintro e w' ⟨rfl,os,rfl⟩;rw[←hv];exact⟨K,_,⟨_,rfl,rfl,rfl,xs,.refl _,hord,rfl⟩,Hl.le_refl _,by simpa using In.grow os.toList i⟩
 have i2:=i.imp (fun h=>fL);obtain⟨h,⟨a,l,ha,hl,hal,rfl⟩,d1,d2,d3,l1,l2,l3⟩:=id i2.rep;rcases ha with ⟨hv,hx,-⟩|⟨b,cap,junk,fz,hv,hz,hc,hj,hf,he⟩
 ·exact small none 0 (by rw[hv,hx];rfl) (by rw[hx];exact Nat.zero_le _)
 rcases Nat.lt_or_ge 1 xs.length with h1|h1
 ·have i3:In w F K [pt b (aZ (cD.cs xs++junk) 66 fz),pt Bs (aZ [v] 62)] w:=⟨i2.os,i2.tape,i2.output,i2.size,a.join l,⟨a,l,he,hl,hal,rfl⟩,d1,d2,d3,l1,l2,l3⟩;have hbb:=i3.piece;have hlt:∀ {x o},w.heap[x]?=some o→x < w.heap.size:=fun {x o} e=>by
   rcases Nat.lt_or_ge x w.heap.size with h|h
   ·exact h
   simp[Array.getElem?_eq_none h]at e
  have hne:Bs≠b:=by
   rintro rfl;obtain⟨_,⟨a1,m1,ha1,⟨a2,m2,ha2,_,_,rfl⟩,hd,rfl⟩,_⟩:=i3.rep;simp only[pt]at ha1 ha2;subst ha1;subst ha2
   have:=(Hl.dj_join.1 hd).1 Bs;simp[Hl.one]at this
  rw[hv];refine(Tryz.sortMany b 0 cap Bs xs.toArray (by simpa using Nat.succ_le_of_lt h1) (by simpa using hn) w (bHZ hbb hf hc) (hlt hbb) (by have:=mI iB (o:=0) (v:=v) rfl;rw[this,hv];simp) (hlt iB) hne).mono ?_;rintro e w' ⟨rfl,d',n,os,hP,hS,rfl⟩;have hsz:d'.size=xs.length:=by simpa using hP.1
  have hperm:d'.toList.Perm xs:=by
   have:=hP.2.2;have e1:d'.extract 0 xs.toArray.size=d':=by rw[←hP.1];simp
   rw[e1]at this
   simpa using this
  rw[←hv];have i4:In w F K [pt b (aZ (cD.cs d'.toList++junk) 66 fz),pt Bs (aZ [v] 62)] (putRowK encF 2 (Sort.ahead w n) b 0 d'):=In.putRow hsz (i3.drew _);have i5:=In.grow os.toList i4;refine⟨K,_,⟨_,rfl,rfl,rfl,d'.toList,hperm,aXX (by rw[hP.1];exact hS),rfl⟩,Hl.le_refl _,?_⟩
  refine In.imp (fun h hh=>fL (fH (fun h' hh'=>?_) h hh)) (by simpa using i5)
  exact .inr ⟨b,cap,junk,fz,by rw[hv];simp[hsz],fun hz' e0=>by have:=congrArg List.length e0;rw[Array.length_toList,hsz]at this;simp at this;rw[this]at h1;simp at h1,by simpa[hsz]using hc,by simpa[hsz]using hj,hf,hh'⟩
 exact small _ cap hv h1
end Go.Proofs
end

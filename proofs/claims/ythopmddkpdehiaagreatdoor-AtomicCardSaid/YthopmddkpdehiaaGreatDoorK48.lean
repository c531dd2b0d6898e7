/-
  What the proof stands on, part 48: the logic of walks, the walks through the functions, the plain laws. Conditions: as each theorem says. (Merged and shortened by a program.)
-/
import Derived.Test.YthopmddkpdehiaaGreatDoorK23
import Derived.Test.YthopmddkpdehiaaGreatDoorK46
import Derived.Test.YthopmddkpdehiaaGreatDoorK47
set_option linter.unusedVariables false
set_option linter.unusedSimpArgs false
set_option maxRecDepth 4000
set_option maxHeartbeats 1000000
section
namespace Go.Box
open Go.Syn Go.Proofs Go.SL
theorem aHJ{f:DMap}{P M S:List fY}{x:fY}(h:gQ f (P++(M++S)))(hM:∀m∈M,m.1=x.1)(hP:∀p∈P,p.1 < x.1)(hS:∀s∈S,x.1 < s.1):gQ (f.put x.1 x.2) (P++x::S):=by
 have hp:=List.pairwise_append.1 h.2;have hp2:=List.pairwise_append.1 hp.2.1;refine⟨fun n d=>?_,List.pairwise_append.2 ⟨hp.1,List.pairwise_cons.2 ⟨hS,hp2.2.1⟩,fun a ha b hb=>?_⟩⟩
 ·unfold DMap.put
  by_cases hn:n=x.1
  ·subst hn;rw[if_pos rfl];simp only[List.mem_append,List.mem_cons,Option.some.injEq]
   constructor
   ·rintro(h1|h1|h1)
    ·exact absurd (hP _ h1) (List.lt_irrefl _)
    ·rw[←h1]
    exact absurd (hS _ h1) (List.lt_irrefl _)
   intro h1;exact .inr (.inl (by rw[←h1]))
  rw[if_neg hn,←h.1 n d];simp only[List.mem_append,List.mem_cons]
  constructor
  ·rintro(h1|h1|h1)
   ·exact .inl h1
   ·exact absurd (congrArg Prod.fst h1) hn
   exact .inr (.inr h1)
  rintro(h1|h1|h1)
  ·exact .inl h1
  ·exact absurd (hM _ h1) hn
  exact .inr (.inr h1)
 rcases List.mem_cons.1 hb with rfl|hb
 ·exact hP a ha
 exact hp.2.2 a ha b (List.mem_append_right _ hb)
def aIW(x:fY)(k:Nat)(l:List fY):Prop:=∀j y,j < k→l[j]?=some y→y.1 < x.1
theorem aG8{x:fY}{k:Nat}{l:List fY}(h:aIW x k l):∀p∈l.take k,p.1 < x.1:=fun p hp=>by
 obtain⟨j,hj,e⟩:=List.mem_iff_getElem.1 hp;rw[List.length_take]at hj;exact h j p aI (by rw[List.getElem?_eq_getElem aI,←e,List.getElem_take])
theorem aQT{f:DMap}{l:List fY}{x y:fY}{k:Nat}(h:gQ f l)(hb:aIW x k l)(hy:l[k]?=some y)(he:y.1=x.1):gQ (f.put x.1 x.2) (l.set k x):=by
 have hk:k < l.length:=jF hy;have e:l=l.take k++([y]++l.drop (k+1)):=by rw[List.singleton_append,←kK hy,List.take_append_drop]
 rw[List.set_eq_take_append_cons_drop,if_pos hk];rw[e]at h;refine aHJ h (fun m hm=>by rw[List.mem_singleton.1 hm];exact he) (aG8 hb) fun s hs=>?_;have hp:=(List.pairwise_append.1 h.2).2.1;rw[←he];exact(List.pairwise_cons.1 hp).1 s hs
theorem aK1{f:DMap}{l:List fY}{x:fY}{k:Nat}(h:gQ f l)(hb:aIW x k l)(hk:k≤l.length)(hn:∀y,l[k]?=some y→¬y.1 < x.1∧y.1≠x.1):gQ (f.put x.1 x.2) (l.take k++x::l.drop k):=by
 have e:l=l.take k++([]++l.drop k):=by rw[List.nil_append,List.take_append_drop]
 rw[e]at h;refine aHJ h (fun m hm=>by cases hm) (aG8 hb) fun s hs=>?_;have hp:=(List.pairwise_append.1 h.2).2.1;rw[List.nil_append]at hp;rcases Nat.lt_or_ge k l.length with hl|hl
 ·have hy:=List.getElem?_eq_getElem hl;rw[kK hy]at hs hp;obtain⟨n1,n2⟩:=hn _ hy;have hx:x.1 < (l[k]'hl).1:=by
   rcases List.le_iff_lt_or_eq.1 (List.not_lt.1 n1)with h|h
   ·exact h
   exact absurd h.symm n2
  rcases List.mem_cons.1 hs with rfl|hs
  ·exact hx
  exact List.lt_trans hx ((List.pairwise_cons.1 hp).1 s hs)
 rw[List.drop_of_length_le hl]at hs;cases hs
theorem aI4{xs:List File}{f:DMap}(hj:∀x∈xs,x.1≠bM)(hf:f bM=none):after xs f=lQ xs f:=by
 funext n
 by_cases hn:n=bM
 ·subst hn;rw[kH,q9 (fun⟨x,hx,e⟩=>hj x hx e),hf]
 exact lV hn
theorem sK{xs:List File}{i:Nat}{x:File}(h:xs[i]?=some x)(f:DMap):lQ (xs.take (i+1)) f=(lQ (xs.take i) f).put x.1 x.2:=by
 have hi:i < xs.length:=jF h;rw[List.getElem?_eq_getElem hi]at h;cases h
 rw[List.take_succ_eq_append_getElem hi];unfold lQ;rw[List.foldl_append];rfl
theorem pG{f:DMap}{l:List fY}(h:gQ f l):uI f (l.map (·.1)):=fun n hn=>by
 obtain⟨d,hd⟩:=Option.isSome_iff_exists.1 hn;exact List.mem_map.2 ⟨(n,d),(h.1 n d).2 hd,rfl⟩
theorem aZJ{xs:List File}{f g:DMap}{ns:List aJ}(h:J xs f g)(hd:uI f ns):uI g (bM::(xs.map (·.1)++ns)):=by
 intro n hn
 by_cases hj:n=bM
 ·rw[hj];exact List.mem_cons_self
 refine List.mem_cons_of_mem _ ?_;rcases h with h|h|h
 ·rw[h.1 n hj]at hn;exact List.mem_append_right _ (hd n hn)
 ·by_cases hx:∃x∈xs,x.1=n
  ·obtain⟨x,hx,e⟩:=hx;exact List.mem_append_left _ (List.mem_map.2 ⟨x,hx,e⟩)
  rw[h.2 n hj hx]at hn;exact List.mem_append_right _ (hd n hn)
 rw[h]at hn;exact aFQ hd n hn
end Go.Box
end
section
namespace Go.Box
open Go.Syn Go.Mach Go.Proofs Go.SL
theorem aIH{xs:List File}(h:kW xs):∀x∈xs,x.2.length≤140737488355328:=fun f hf=>by
 have h1:=yZ hf;have h2:=h.2.1;have h3:(entryC f).length=f.1.length+1+(Lib.itoa f.2.length).length+1+f.2.length:=by simp[entryC];omega
 omega
theorem aNN:∀(os:List OpR) (f:DMap),Left true os f f
 | [],f=>.nil
 |o::os,f=>.lost (aNN os f)
structure BoxI (xs:List File) (f:DMap) (t:DSt):Prop where
 down:t.down=false
 coh:Coh t
 safe:Safe xs f t
 left:t.left= -1
 full:t.full= -1
 len:t.pend.length≤1000
 bd:Bd 140737488355328 t
theorem BoxI.up{xs:List File}{f:DMap}{t:DSt}(h:BoxI xs f t):Up 0 t:=⟨h.down,by rw[h.left];omega,by rw[h.left];omega,by rw[h.full];omega,by rw[h.full];omega⟩
theorem BoxI.set{xs:List File}{f:DMap}{t:DSt}(h:BoxI xs f t):t.set (-1) (-1)=t:=by have:=h.left;have:=h.full;cases t;simp_all[DSt.set]
theorem aAT{xs:List File}{f:DMap}{t:DSt}(h:Rest t)(hJ:J xs f t.dur):BoxI xs f t:=
 ⟨h.down,h.coh,fun g hg=>by rw[h.pend]at hg;cases hg;exact hJ,h.left,h.full,by rw[h.pend];exact Nat.zero_le _,fun o ho=>by rw[h.pend]at ho;cases ho⟩
theorem aPH{s u:DSt}(h:aC9 s u):Rest (u.set (-1) (-1)):=⟨h.2.2.2.2.2,h.2.2.1,h.2.1,rfl,rfl⟩
theorem aJB{xs:List File}{f:DMap}{e:Int}{s t:DSt}(hb:Bent xs f e s)(hl:s.pend.length≤1000)(hd:Bd 140737488355328 s)(ht:kX s t):BoxI xs f t:=by
 unfold kX at ht;rcases hb.2 with ⟨_,h2⟩|⟨_,h2,h3⟩
 ·rw[if_pos h2]at ht;obtain⟨u,hu,rfl⟩:=ht;exact aAT (aPH hu) (hb.1 _ hu.1)
 rw[if_neg (by rw[h2];simp)]at ht;subst ht;exact⟨h2,h3,hb.1,rfl,rfl,hl,hd⟩
theorem aCZ{s t:DSt}(h1:s.down=false)(h2:s.pend=[])(h3:s.now=s.dur)(ht:kX s t):Rest t∧t.dur=s.dur:=by
 unfold kX at ht;rw[if_neg (by rw[h1];simp)]at ht;subst ht;exact⟨⟨h1,h2,h3,rfl,rfl⟩,rfl⟩
theorem aES{r:Option (List File)}{s:DSt}(hr:∀xs,r=some xs→xs.length≤100)(hs:s.pend.length≤1000):(dT r s).2.pend.length≤1000:=by
 have h0:=pE s;unfold dT;split
 ·omega
 rename_i hn;have hp:(d6 s).2.pend=[]:=by
  unfold d6 at hn ⊢;split
  ·rename_i h;rw[if_pos h]at hn;exact absurd h hn
  rfl
 have hpl:(d6 s).2.pend.length=0:=by rw[hp];rfl
 split
 ·unfold vB;split
  ·have:=xD ‹_› (d6 s).2;have:=hr _ rfl;omega
  have:=zZ [eV bM,d6] (d6 s).2 fun g hg s=>by
   simp only[List.mem_cons,List.not_mem_nil,or_false]at hg;rcases hg with rfl|rfl
   ·exact sE _ _
   have:=pE s;omega
  simp only[List.length_cons,List.length_nil]at this;omega
 split <;> (simp only[];omega)
theorem aK7{B:Nat}{r:Option (List File)}{s:DSt}(hr:∀xs,r=some xs→∀x∈xs,x.2.length≤B)(hs:Bd B s):Bd B (dT r s).2:=by
 have h0:=aDI hs;unfold dT;split
 ·exact h0
 split
 ·unfold vB;split
  ·exact aMS (hr _ rfl) h0
  refine xS (fun g hg s hs=>?_) h0
  simp only[List.mem_cons,List.not_mem_nil,or_false]at hg;rcases hg with rfl|rfl
  ·exact aMT hs
  exact aDI hs
 split <;> exact h0
def Mild(e:Er):Prop:=e=none∨e=some 14
theorem aCU:∀ {gs:List (DSt→Er×DSt)} {k:Nat} {s:DSt},(∀g∈gs,∀k s,k≤1000000→Up k s→Up (k+1) (g s).2∧Mild (g s).1)→k+gs.length≤1000000→Up k s→Mild (dZ gs s).1
 | [],k,s,_,_,h=>.inl rfl
 |g::gs,k,s,hg,hk,h=>by
  simp only[List.length_cons]at hk;have h1:=hg g List.mem_cons_self k s aI h;unfold dZ;split
  ·exact h1.2
  exact aCU (fun g' h'=>hg g' (List.mem_cons_of_mem _ h')) aI h1.1
theorem aXU{k:Nat}{n d:aJ}{s:DSt}(h:Up k s)(hk:k≤1000000):Up (k+1) (fC n d s).2∧Mild (fC n d s).1:=⟨aV0 h hk,by rw[aFF h hk];exact .inl rfl⟩
theorem aBA{k:Nat}{s:DSt}(h:Up k s)(hk:k≤1000000):Up (k+1) (d6 s).2∧Mild (d6 s).1:=⟨aFE h hk,by rw[xT h hk];exact .inl rfl⟩
theorem aHR {k : Nat} {n : aJ} {s : DSt} (h : Up k s) (hk : k ≤ 1000000) : Up (k + 1) (eV n s).2 ∧ Mild (eV n s).1 := ⟨aG1 h hk, by
 have e:=wJ h hk;unfold eV gP DSt.we DSt.ws;rw[e,aJJ h];split
 ·rename_i hc;cases hc
 split
 ·exact .inr rfl
 exact .inl rfl⟩
theorem bIN{k:Nat}{xs:List File}:∀g∈gB xs++[d6,eV bM,d6],∀k s,k≤1000000→Up k s→Up (k+1) (g s).2∧Mild (g s).1:=fun g hg k s hk hs=>by
 rcases List.mem_append.1 hg with hg|hg
 ·obtain⟨x,hm,rfl⟩:=List.mem_map.1 hg;exact aXU hs hk
 simp only[List.mem_cons,List.not_mem_nil,or_false]at hg;rcases hg with rfl|rfl|rfl
 ·exact aBA hs hk
 ·exact aHR hs hk
 exact aBA hs hk
theorem aTR{k:Nat}{xs:List File}{s:DSt}(h:Up k s)(hk:k+xs.length≤900000):Mild (iM xs s).1:=aCU (k:=k) (bIN (k:=k)) (by simp[gB];omega) h
theorem aQK{r:Option (List File)}{s:DSt}(h:Up 0 s)(hr:∀xs,r=some xs→xs.length≤1000):Mild (dT r s).1:=by
 have h1:=aBA h aI;unfold dT;split
 ·exact h1.2
 split
 ·unfold vB;split
  ·exact aTR h1.1 (by have:=hr _ rfl;omega)
  refine aCU (k:=1) (fun g hg k s hk hs=>?_) (by simp) h1.1
  simp only[List.mem_cons,List.not_mem_nil,or_false]at hg;rcases hg with rfl|rfl
  ·exact aHR hs hk
  exact aBA hs hk
 split
 ·exact .inl rfl
 rename_i e he hne
 exfalso
 unfold r6 at he;rw[if_neg (by rw[h1.1.down];simp)]at he;split at he
 ·injection he with he;exact hne he.symm
 cases he
section
variable{xs:List File}{f:DMap}{t:DSt}
theorem aUR(hok:kW xs)(hfj:f bM=none)(h:BoxI xs f t)(l fl:Int):∀s1 d,d6 (t.set l fl)=(none,s1)→s1.now bM=some d→sV d (saysOf xs t.now):=fun s1 d h1 h2=>by
 refine bJ9 hok hfj (h.safe.now h.coh) ?_;rw[←h2];unfold d6 at h1;split at h1
 ·rename_i hc;rw[show (t.set l fl).we=none from congrArg Prod.fst h1]at hc;cases hc
 cases h1;rfl
theorem aZC(hj:∀x∈xs,x.1≠bM)(hok:kW xs)(hfj:f bM=none)(h:BoxI xs f t)(l fl:Int):
  ((dT (saysOf xs t.now) (t.set l fl)).1=none∧∀u,kX (dT (saysOf xs t.now) (t.set l fl)).2 u→Rest u∧(u.dur=f∨u.dur=after xs f))∨
  (∃e,(dT (saysOf xs t.now) (t.set l fl)).1=some e∧(e=16∨e=15)∧∀u,kX (dT (saysOf xs t.now) (t.set l fl)).2 u→BoxI xs f u):=by
 have hp:=aES (r:=saysOf xs t.now) (s:=t.set l fl) (fun ys hy=>by rw[vV ys hy];exact hok.2.2) h.len;have hb:=aK7 (B:=140737488355328) (r:=saysOf xs t.now) (s:=t.set l fl) (fun ys hy=>by rw[vV ys hy];exact aIH hok) h.bd;rcases bJM (s:=t.set l fl) hj h.down h.coh h.safe hfj with ⟨s',h1,h2,h3,h4,h5⟩|⟨e,s',h1,h2⟩
 ·left
  rw[show (t.set l fl).now=t.now from rfl]at h1;rw[h1];refine⟨rfl,fun u hu=>?_⟩
  obtain⟨r1,r2⟩:=aCZ h2 h3 h4 hu;exact⟨r1,r2▸h5⟩
 right
 rw[show (t.set l fl).now=t.now from rfl]at h1;rw[h1]at hp hb ⊢;refine⟨e,rfl,?_,fun u hu=>aJB h2 hp hb hu⟩
 rcases h2.2 with ⟨h3,_⟩|⟨h3,_⟩
 ·exact .inl h3
 exact .inr h3
theorem aJC(hok:kW xs)(h:BoxI xs f t)(l fl:Int):(dT (saysOf xs t.now) (t.set l fl)).2.pend.length≤1000000∧∀o∈(dT (saysOf xs t.now) (t.set l fl)).2.pend,o.data.length≤140737488355328:=by
 have hp:=aES (r:=saysOf xs t.now) (s:=t.set l fl) (fun ys hy=>by rw[vV ys hy];exact hok.2.2) h.len;exact⟨by omega,aK7 (r:=saysOf xs t.now) (s:=t.set l fl) (fun ys hy=>by rw[vV ys hy];exact aIH hok) h.bd⟩
theorem bF0(hj:∀x∈xs,x.1≠bM)(hok:kW xs)(hfj:f bM=none)(h:BoxI xs f t):
  (dT (saysOf xs t.now) (t.set (-1) (-1))).1=none∧∀u,kX (dT (saysOf xs t.now) (t.set (-1) (-1))).2 u→Rest u∧(u.dur=f∨u.dur=after xs f):=by
 rcases aZC hj hok hfj h (-1) (-1)with h1|⟨e,h1,h2,_⟩
 ·exact h1
 exfalso
 have hm:=aQK (r:=saysOf xs t.now) (s:=t.set (-1) (-1)) (by rw[h.set];exact h.up) fun ys hy=>by rw[vV ys hy];have:=hok.2.2;omega
 rw[h1]at hm;rcases hm with hm|hm
 ·cases hm
 injection hm with hm;omega
end
theorem bL0{id:aJ}{acts:List Action}{text:aJ}{xs:List File}{t:DSt}(hR:Rest t)(hf:eY id acts text=.ok xs)(hj:∀x∈xs,x.1≠bM)(hok:kW xs)(hfj:t.dur bM=none)(l fl:Int):
  ((iK id acts text (t.set l fl)).1=none∧∀u,kX (iK id acts text (t.set l fl)).2 u→Rest u∧u.dur=after xs t.dur)∨
  (∃e,(iK id acts text (t.set l fl)).1=some e∧(e=16∨e=15)∧¬(l= -1∧fl= -1)∧∀u,kX (iK id acts text (t.set l fl)).2 u→BoxI xs t.dur u):=by
 have hm:iK id acts text (t.set l fl)=iC xs (t.set l fl):=by unfold iK;rw[hf]
 have hp:=wU xs (t.set l fl) hok.2.2;rw[show (t.set l fl).pend=[]from hR.pend]at hp;have hb:Bd 140737488355328 (iC xs (t.set l fl)).2:=aB9 (aIH hok) (aIO hok.2.1) (fun o ho=>by rw[show (t.set l fl).pend=[]from hR.pend]at ho;cases ho);rw[hm];rcases bGS (f:=t.dur) (s:=t.set l fl) hj hR.down hR.now rfl hR.pend hfj with ⟨s',h1,h2,h3,h4,h5⟩|⟨e,s',h1,h2⟩
 ·left
  rw[h1];refine⟨rfl,fun u hu=>?_⟩
  obtain⟨r1,r2⟩:=aCZ h2 h3 (h5.trans h4.symm) hu;exact⟨r1,r2.trans h4⟩
 right
 have hno:¬(l= -1∧fl= -1):=by
  rintro⟨rfl,rfl⟩;rw[hR.set]at h1;obtain⟨s2,h3,_⟩:=aJK (xs:=xs) hR.up hR.coh (by have:=hok.2.2;omega);rw[h3]at h1;cases h1
 rw[h1]at hp hb ⊢;refine⟨e,rfl,?_,hno,fun u hu=>aJB h2 (by simp at hp;omega) hb hu⟩
 rcases h2.2 with ⟨h3,_⟩|⟨h3,_⟩
 ·exact .inl h3
 exact .inr h3
theorem aLD{s u:DSt}(h:Rest s)(hc:aC9 s u):Rest u∧u.dur=s.dur:=by
 have h1:=hc.1;rw[h.pend]at h1;refine⟨⟨hc.2.2.2.2.2,hc.2.2.1,hc.2.1,hc.2.2.2.1,hc.2.2.2.2.1⟩,?_⟩
 generalize u.dur=g at h1
 cases h1;rfl
end Go.Box
end
section
namespace Go.Box
open Go Go.SL Go.Syn Go.Mach Go.Proofs
structure StepV where
 id:aJ
 av:Cell
 text:aJ
 left:Int
 full:Int
 kept:Int
 part:Int
 dv:Cell
 again:Bool
 acts:List Action
 downs:List Int
def gA:El StepV:={e:=73,sz:=9,enc:=fun v=>[str v.id,v.av.1,str v.text,i64 v.left,i64 v.full,i64 v.kept,i64 v.part,v.dv.1,.bool v.again],len:=fun _=>rfl,one:=fun v u h=>by simp at h;rcases h with rfl|rfl|rfl|rfl|rfl|rfl|rfl|rfl|rfl;rfl;exact v.av.2;rfl;rfl;rfl;rfl;rfl;exact v.dv.2;rfl}
abbrev bPR(v:StepV):Value:=.agg #[str v.id,v.av.1,str v.text,i64 v.left,i64 v.full,i64 v.kept,i64 v.part,v.dv.1,.bool v.again]
structure StepIs (K:Hl) (v:StepV):Prop where
 acts:Ksl cS K v.av.1 v.acts
 downs:Ksl (aHP 3) K v.dv.1 v.downs
 part: -9223372036854775808≤v.part∧v.part≤9223372036854775807
theorem StepIs.mono{K K':Hl}{v:StepV}(h:StepIs K v)(le:K.le K'):StepIs K' v:=⟨h.acts.mono le,h.downs.mono le,h.part⟩
structure StepSz (v:StepV):Prop where
 id:v.id.length≤140737488355328
 text:v.text.length≤140737488355328
 acts:v.acts.length≤140737488355328
 downs:v.downs.length≤140737488355328
 args:∀a∈v.acts,a.2.length≤140737488355328
structure StepFit (n:Nat) (v:StepV):Prop where
 id:v.id.length≤n
 text:v.text.length≤n
 acts:v.acts.length≤n
 downs:v.downs.length≤n
 args:∀a∈v.acts,a.2.length≤n
theorem StepFit.mono{n m:Nat}{v:StepV}(h:StepFit n v)(hm:n≤m):StepFit m v:=⟨Nat.le_trans h.id hm,Nat.le_trans h.text hm,Nat.le_trans h.acts hm,Nat.le_trans h.downs hm,fun a ha=>Nat.le_trans (h.args a ha) hm⟩
theorem aHI{id text:aJ}:∀ {acts:List Action} {i:Nat} {fs:List File},lZ id text i acts=.ok fs→∀x∈fs,∃j a,x.1=nm id j a∧(a.1=2→boxed a.2=true)
 | [],i,fs,h,x,hx=>by cases h;cases hx
 |a::r,i,fs,h,x,hx=>by
  unfold lZ at h;cases hf:eQ id text i a with
  |error e=>rw[hf]at h;cases h
  |ok f=>
   rw[hf]at h;simp only at h;cases hr:lZ id text (i+1) r with
   |error e=>rw[hr]at h;cases h
   |ok fs'=>
    rw[hr]at h;cases h
    rcases List.mem_cons.1 hx with rfl|hx
    ·refine⟨i,a,?_,?_⟩
     ·unfold eQ at hf;unfold nm;split at hf
      ·rename_i h1;cases hf;rw[if_pos h1]
      rename_i h1;rw[if_neg h1];split at hf
      ·rename_i h2;rw[if_pos h2];split at hf
       ·cases hf;rfl
       cases hf
      rename_i h2;rw[if_neg h2];split at hf
      ·cases hf;rfl
      split at hf
      ·cases hf;rfl
      cases hf
     intro h2;unfold eQ at hf;rw[if_neg aI,if_pos h2]at hf;split at hf
     ·assumption
     cases hf
    exact aHI hr x hx
theorem bRE{id:aJ}{i:Nat}{a:Action}(hid:oH id)(hb:a.1=2→boxed a.2=true):oH (nm id i a):=by
 have lit:∀l:aJ,(l.all fun c=>decide (c≠10)&&decide (c≠32))=true→oH l:=fun l h=>
  ⟨fun hm=>by have:=List.all_eq_true.1 h _ hm;simp at this,fun hm=>by have:=List.all_eq_true.1 h _ hm;simp at this⟩
 unfold nm;split
 ·exact(lit vM (by decide)).app hid
 split
 ·rename_i h2;exact(((lit boxP (by decide)).app (aJD (hb h2))).app (lit vX (by decide))).app hid
 exact(((lit outP (by decide)).app hid).app (lit [46] (by decide))).app ⟨aFZ i,aA6 i⟩
theorem bB1{id text:aJ}{acts:List Action}{xs:List File}(ht:text.length≤1048576)(ha:∀a∈acts,a.2.length≤1048576)(h:eY id acts text=.ok xs):kW xs∧xs.length≤6∧∀x∈xs,x.1≠bM:=by
 obtain⟨l1,l2,l3⟩:=xC ht ha h;unfold eY at h;split at h
 ·cases h
 rename_i hb;split at h
 ·cases h
 have hid:oH id:=by
  unfold nJ at hb;simp only[Bool.or_eq_true,not_or,Bool.not_eq_true',Bool.not_eq_false,decide_eq_true_eq]at hb;exact aJD (by simpa using hb.2)
 have hm:=aHI h;refine⟨⟨fun x hx=>?_,by omega,by omega⟩,by omega,fun x hx=>?_⟩
 ·obtain⟨j,a,h1,h2⟩:=hm x hx;rw[h1];exact bRE hid h2
 obtain⟨j,a,h1,_⟩:=hm x hx;rw[h1];exact aKT
theorem aW7{id text:aJ}{i:Nat}{a:Action}{e:Int}(h:eQ id text i a=.error e):e≠0:=by
 unfold eQ at h;split at h
 ·cases h
 split at h
 ·split at h
  ·cases h
  cases h;decide
 split at h
 ·cases h
 split at h
 ·cases h
 cases h;decide
theorem aJV{id text:aJ}:∀ {acts:List Action} {i:Nat} {e:Int},lZ id text i acts=.error e→e≠0
 | [],i,e,h=>by cases h
 |a::r,i,e,h=>by
  unfold lZ at h;cases hf:eQ id text i a with
  |error e'=>rw[hf]at h;cases h;exact aW7 hf
  |ok f=>
   rw[hf]at h;simp only at h;cases hr:lZ id text (i+1) r with
   |error e'=>rw[hr]at h;cases h;exact aJV hr
   |ok fs'=>rw[hr]at h;cases h
theorem aW9{id text:aJ}{acts:List Action}{e:Int}(h:eY id acts text=.error e):e≠0:=by
 unfold eY at h;split at h
 ·cases h;decide
 split at h
 ·cases h;decide
 exact aJV h
end Go.Box
end
section
namespace Go.SL
section
variable{E:Env}{fr:Fr}{K:Hl}{L L':List Asn}{Q:Post}{dst:Option Tmp}{ty:TypeId}{pos:String}{aft:Array Edge}{g:Option (Nat×Bool)}{x y:Operand}{t:TypeId}{α:Type}{k:El α}{v u:Value}{xs ys:List α}{c0:Code}{x0:Exit}{m:Nat}
theorem bIE(h:Ksl k K v xs)(hm:m≤xs.length):Ksl k K (slTo v m) (xs.take m):=by
 rcases h with ⟨a,c,rfl,rfl⟩|⟨b,off,cap,cells,fz,rfl,h1,h2⟩
 ·have:m=0:=by simpa using hm
  subst this;exact .inl ⟨a,c,rfl,rfl⟩
 refine .inr ⟨b,off,cap,cells,fz,?_,h1,?_⟩
 ·simp only[slTo,List.length_take,Nat.min_eq_left hm]
 rw[List.length_take,Nat.min_eq_left hm,←k.cs_take,←h2,List.take_take,Nat.min_eq_left (Nat.mul_le_mul_right _ hm)]
theorem aVA{z:Bool}(h:aIZ v→T E c0 fr K (sl z k v xs::L) Q):T E c0 fr K (sl z k v xs::L) Q:=fun a w f i=>h (bKG .here i) a w f i
theorem aHG{kk:IntKind}{mv:Int}{hi:Operand}(ht:jS E.P t k.e k.sz=true)(hx:fr.ev x=some v)(hs:SeesSl k K L v xs)(hf:aIZ v)(hh:fr.ev hi=some (.int kk mv))(hmv:mv=(m:Int))(hm:m≤xs.length):
  Ev E fr K L ⟨dst,.slice t x none (some hi) none,ty,pos,aft,g⟩ (slTo v m):=aBY ht hx hs hh hmv hm fun _ _=>hf
end
end Go.SL
end

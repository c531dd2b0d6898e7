/-
  What the proof stands on, part 75: the logic of walks, the walks through the functions, the plain laws. Conditions: as each theorem says. (Merged and shortened by a program.)
-/
import Derived.Test.YthopmddkpdehiaaGreatDoorK45
import Derived.Test.YthopmddkpdehiaaGreatDoorK54
import Derived.Test.YthopmddkpdehiaaGreatDoorK63
import Derived.Test.YthopmddkpdehiaaGreatDoorK71
set_option linter.unusedVariables false
set_option linter.unusedSimpArgs false
set_option maxRecDepth 4000
set_option maxHeartbeats 1000000
section
namespace Go.Mach
open Go.Syn
theorem aF9{s t:MS}{b:Bool}(h:push s b=.ok t):t.acts=s.acts∧t.keep=s.keep:=by
 unfold push at h;split at h <;> cases h;exact⟨rfl,rfl⟩
theorem bJD{s:MS}{r:Bool×MS}(h:pop s=.ok r):r.2.acts=s.acts∧r.2.keep=s.keep:=by
 unfold pop at h;split at h <;> cases h;exact⟨rfl,rfl⟩
theorem aXL{s t:MS}{by_:Int}{n:Nat}{yes:Bool}(h:jump s by_ n yes=.ok t):t.acts=s.acts∧t.keep=s.keep:=by
 unfold jump at h;split at h
 ·cases h;split <;> exact⟨rfl,rfl⟩
 cases h
theorem bIJ{nm:Bool}{m:Msg}{o:Ins}{s t:MS}(h:matchI nm m o s=.ok t):t.acts=s.acts∧t.keep=s.keep:=by
 unfold matchI at h;split at h
 ·simp only[]at h;split at h
  ·have:=aF9 h;revert this;split <;> exact fun h=>h
  exact aF9 h
 cases h
theorem bR4{nm:Bool}{o:Ins}{s t:MS}(h:setI nm o s=.ok t):t.acts=s.acts∧t.keep=s.keep:=by
 unfold setI at h;split at h
 ·split at h
  ·cases h;exact⟨rfl,rfl⟩
  cases h
 cases h
theorem aMC{s:aJ}(h:kZ s=true):s.length≤32:=by
 unfold kZ at h;split at h
 ·cases h
 simp only[Bool.and_eq_true,decide_eq_true_eq]at h;exact h.2
theorem bQO{nm:Bool}{o:Ins}{s t:MS}(hi:AInv s)(h:actI nm o s=.ok t):AInv t:=by
 unfold actI at h;split at h
 ·rename_i ht;simp only[]at h;split at h
  ·cases h
  rename_i hb;split at h
  ·cases h
  rename_i ha;split at h
  ·cases h;exact hi.same rfl (.inr rfl)
  rename_i hm;split at h
  ·cases h
  split at h
  ·cases h
  rename_i hl;cases h
  have hok:ActOk (actV o (actA nm o s)):=by
   have h1:o.tag=1→actA nm o s=[]:=fun e=>by unfold actA;rw[if_pos e]
   refine⟨by show 1≤o.tag;omega,by show o.tag≤4;omega,fun e=>?_,fun e=>?_,?_⟩
   ·have e':o.tag=1:=e;unfold actV;rw[if_neg aI];exact h1 e'
   ·have e':o.tag=2:=e;unfold actV;rw[if_neg aI]
    cases hbx:boxed (actA nm o s)with
    |true=>rfl
    |false=>exact absurd ⟨e',hbx⟩ hb
   unfold actV;split
   ·exact Nat.le_trans (List.length_take_le _ _) (Nat.le_refl _)
   rename_i h4
   show (actA nm o s).length≤48
   rcases(show o.tag=1∨o.tag=2∨o.tag=3 by omega)with e|e|e
   ·rw[h1 e];exact Nat.zero_le _
   ·cases hbx:boxed (actA nm o s)with
    |true=>have:=Go.Box.boxed_len hbx;omega
    |false=>exact absurd ⟨e,hbx⟩ hb
   cases hbx:kZ (actA nm o s)with
   |true=>have:=aMC hbx;omega
   |false=>exact absurd ⟨e,hbx⟩ ha
  refine⟨⟨?_,?_,?_⟩,fun e=>by cases e⟩
  ·have:=hi.acts.len;simp only[List.length_append,List.length_singleton];omega
  ·refine List.nodup_append.2 ⟨hi.acts.nodup,by simp,fun a h1 b h2 e=>?_⟩
   rw[List.mem_singleton.1 h2]at e;exact hm (e▸h1)
  intro a h1;rcases List.mem_append.1 h1 with h1|h1
  ·exact hi.acts.ok a h1
  rw[List.mem_singleton.1 h1];exact hok
 cases h
theorem bR5{nm:Bool}{m:Msg}{n:Nat}{o:Ins}{s t:MS}(hi:AInv s)(h:step nm m n o s=.ok t):AInv t:=by
 have sm:∀ {t:MS},t.acts=s.acts∧t.keep=s.keep→AInv t:=fun h=>hi.same h.1 (.inl h.2)
 unfold step at h;split at h
 ·split at h
  ·exact sm (aF9 h)
  cases h
 split at h
 ·split at h
  ·cases h
  rename_i r hr;have h1:=bJD hr;have h2:=aF9 h
  exact sm ⟨h2.1.trans h1.1,h2.2.trans h1.2⟩
 split at h
 ·exact sm (aXL h)
 split at h
 ·split at h
  ·cases h
  rename_i r hr;have h1:=bJD hr;have h2:=aXL h
  exact sm ⟨h2.1.trans h1.1,h2.2.trans h1.2⟩
 split at h
 ·split at h
  ·cases h
  rename_i r hr;have h1:=bJD hr;have h2:=aXL h
  exact sm ⟨h2.1.trans h1.1,h2.2.trans h1.2⟩
 split at h
 ·exact sm (bIJ h)
 split at h
 ·exact sm (aF9 h)
 split at h
 ·split at h
  ·exact sm (aF9 h)
  cases h
 split at h
 ·exact bQO hi h
 split at h
 ·exact sm (bR4 h)
 split at h
 ·cases h;exact hi.same rfl (.inr rfl)
 cases h
theorem aIK{nm:Bool}{m:Msg}{code:List Ins}:∀f st s,AInv s→ActsOk (loop nm m code f st s).acts
 |0,st,s,_=>⟨Nat.zero_le _,List.nodup_nil,fun a h=>by cases h⟩
 |f+1,st,s,h=>by
  unfold loop;split
  ·exact h.out
  split
  ·exact h.out
  split
  ·exact aQC
  rename_i t ht;exact aIK f _ _ ((bR5 h ht).same rfl (.inl rfl))
theorem bR0(nm:Bool)(code:List Ins)(m:Msg):ActsOk (run nm code m).acts:=by
 unfold run;split
 ·exact aQC
 exact aIK _ _ _ AInv.start
end Go.Mach
namespace Go.Box
open Go.Syn Go.Mach
theorem bB0{id text:aJ}{i:Nat}{a:Action}(h:ActOk a):∃d,eQ id text i a=.ok (nm id i a,d):=by
 have h1:=h.lo;have h2:=h.hi
 unfold eQ nm
 by_cases e1:a.1=1
 ·exact⟨_,by rw[if_pos e1,if_pos e1]⟩
 by_cases e2:a.1=2
 ·exact⟨_,by rw[if_neg e1,if_pos e2,if_neg e1,if_pos e2,if_pos (h.box e2)]⟩
 by_cases e3:a.1=3
 ·exact⟨_,by rw[if_neg e1,if_neg e2,if_neg e1,if_neg e2,if_pos e3]⟩
 exact⟨_,by rw[if_neg e1,if_neg e2,if_neg e1,if_neg e2,if_neg e3,if_pos aI]⟩
def nms(id:aJ):Nat→List Action→List aJ
 |_,[]=>[]
 |i,a::r=>nm id i a::nms id (i+1) r
theorem aND{id text:aJ}:∀ {acts:List Action} {i:Nat},(∀a∈acts,ActOk a)→∃fs,lZ id text i acts=.ok fs∧fs.map (·.1)=nms id i acts
 | [],i,_=>⟨[],rfl,rfl⟩
 |a::r,i,h=>by
  obtain⟨d,hd⟩:=bB0 (id:=id) (text:=text) (i:=i) (h a List.mem_cons_self);obtain⟨fs,h1,h2⟩:=aND (id:=id) (text:=text) (acts:=r) (i:=i+1) fun b hb=>h b (List.mem_cons_of_mem _ hb)
  exact⟨(nm id i a,d)::fs,by unfold lZ;rw[hd,h1],by simp[nms,h2]⟩
end Go.Box
end
section
namespace Go.Box
open Go.Syn Go.Mach Go.Proofs Go.SL
theorem bRD{id:aJ}{i j:Nat}{a b:Action}(ha:ActOk a)(hb:ActOk b)(hij:i≠j)(hab:a≠b):nm id i a≠nm id j b:=by
 intro e;obtain⟨c,r,h,h1,h2,h3⟩:=aQN (id:=id) (i:=i) (a:=a);obtain⟨c',r',h',h1',h2',h3'⟩:=aQN (id:=id) (i:=j) (a:=b);have hc:c=c':=by rw[h,h']at e;injection e
 have ne1:(105:UInt8)≠98:=by decide
 have ne2:(105:UInt8)≠111:=by decide
 have ne3:(98:UInt8)≠111:=by decide
 by_cases e1:a.1=1
 ·by_cases f1:b.1=1
  ·exact hab (Prod.ext (e1.trans f1.symm) ((ha.keep e1).trans (hb.keep f1).symm))
  by_cases f2:b.1=2
  ·exact ne1 (by rw[←h1 e1,←h2' f2,hc])
  exact ne2 (by rw[←h1 e1,←h3' f1 f2,hc])
 by_cases e2:a.1=2
 ·by_cases f1:b.1=1
  ·exact ne1 (by rw[←h1' f1,←h2 e2,hc])
  by_cases f2:b.1=2
  ·unfold nm at e;rw[if_neg e1,if_pos e2,if_neg f1,if_pos f2]at e;exact hab (Prod.ext (e2.trans f2.symm) (List.append_cancel_left (List.append_cancel_right (List.append_cancel_right e))))
  exact ne3 (by rw[←h2 e2,←h3' f1 f2,hc])
 by_cases f1:b.1=1
 ·exact ne2 (by rw[←h1' f1,←h3 e1 e2,hc])
 by_cases f2:b.1=2
 ·exact ne3 (by rw[←h2' f2,←h3 e1 e2,hc])
 unfold nm at e;rw[if_neg e1,if_neg e2,if_neg f1,if_neg f2]at e;exact hij (aTB (List.append_cancel_left (show outP++id++[46]++Lib.itoa (i:Int)=outP++id++[46]++Lib.itoa (j:Int)from e)))
theorem aQO{id:aJ}{n:aJ}:∀ {acts:List Action} {i:Nat},n∈nms id i acts→∃j a,i≤j∧a∈acts∧n=nm id j a
 | [],i,h=>by cases h
 |a::r,i,h=>by
  rcases List.mem_cons.1 h with h|h
  ·exact⟨i,a,Nat.le_refl _,List.mem_cons_self,h⟩
  obtain⟨j,b,h1,h2,h3⟩:=aQO h;exact⟨j,b,by omega,List.mem_cons_of_mem _ h2,h3⟩
theorem aNX{id:aJ}:∀ {acts:List Action} {i:Nat},(∀a∈acts,ActOk a)→acts.Nodup→(nms id i acts).Nodup
 | [],i,_,_=>List.nodup_nil
 |a::r,i,h,nd=>by
  have nd':=List.nodup_cons.1 nd;refine List.nodup_cons.2 ⟨fun hm=>?_,aNX (fun b hb=>h b (List.mem_cons_of_mem _ hb)) nd'.2⟩
  obtain⟨j,b,h1,h2,h3⟩:=aQO hm;exact bRD (h a List.mem_cons_self) (h b (List.mem_cons_of_mem _ h2)) aI (fun e=>nd'.1 (e▸h2)) h3
theorem bTO{id:aJ}{i:Nat}{a:Action}(hid:oH id)(ha:ActOk a):oH (nm id i a):=by
 have lit:∀l:aJ,(l.all fun c=>decide (c≠10)&&decide (c≠32))=true→oH l:=fun l h=>
  ⟨fun hm=>by have:=List.all_eq_true.1 h _ hm;simp at this,fun hm=>by have:=List.all_eq_true.1 h _ hm;simp at this⟩
 unfold nm;split
 ·exact(lit vM (by decide)).app hid
 split
 ·rename_i h2;exact(((lit boxP (by decide)).app (aJD (ha.box h2))).app (lit vX (by decide))).app hid
 exact(((lit outP (by decide)).app hid).app (lit [46] (by decide))).app ⟨aFZ i,aA6 i⟩
theorem bB2{id text:aJ}{acts:List Action}(hid:nJ id=false)(hin:oH id)(ht:text.length≤1048576)(h:ActsOk acts):
  ∃xs,eY id acts text=.ok xs∧xs.length=acts.length∧kW xs∧(xs.map (·.1)).Nodup∧∀x∈xs,x.1≠bM:=by
 obtain⟨xs,h1,h2⟩:=aND (id:=id) (text:=text) (acts:=acts) (i:=0) h.ok;have h3:eY id acts text=.ok xs:=by unfold eY;rw[if_neg (by rw[hid];simp),if_neg (by have:=h.len;omega)];exact h1
 obtain⟨l1,l2,l3⟩:=xC ht (fun a ha=>by have:=(h.ok a ha).len;omega) h3;have hm:∀x∈xs,∃j a,a∈acts∧x.1=nm id j a:=fun x hx=>by
  obtain⟨j,a,_,h4,h5⟩:=aQO (i:=0) (show x.1∈nms id 0 acts from h2▸List.mem_map_of_mem (f:=fun x:File=>x.1) hx);exact⟨j,a,h4,h5⟩
 refine⟨xs,h3,l1,⟨fun x hx=>?_,by omega,by omega⟩,h2▸aNX h.ok h.nodup,fun x hx=>?_⟩
 ·obtain⟨j,a,h4,h5⟩:=hm x hx;rw[h5];exact bTO hin (h.ok a h4)
 obtain⟨j,a,h4,h5⟩:=hm x hx;rw[h5];exact aKT
theorem aHC{xs:List File}{ys:List fY}(hj:∀x∈xs,x.1≠bM)(nd:(xs.map (·.1)).Nodup)(h:gQ (after xs fun _=>none) ys):ys.length=xs.length:=by
 have hdom:∀n,n∈ys.map (·.1)↔n∈xs.map (·.1):=fun n=>by
  constructor
  ·intro hm;obtain⟨⟨n',d⟩,hm2,rfl⟩:=List.mem_map.1 hm;have:=(h.1 n' d).1 hm2
   show n'∈_
   by_cases hnj:n'=bM
   ·rw[hnj,kH]at this;cases this
   rw[lV hnj]at this
   by_cases hx:∃x∈xs,x.1=n'
   ·obtain⟨x,hx,e⟩:=hx;exact List.mem_map.2 ⟨x,hx,e⟩
   rw[q9 hx]at this;cases this
  intro hm;obtain⟨x,hx,rfl⟩:=List.mem_map.1 hm;have hs:(after xs (fun _=>none) x.1).isSome=true:=by
   rw[lV (hj x hx),aBF ⟨x,hx,rfl⟩ (fun _=>some [])];exact aGA rfl
  obtain⟨d,hd⟩:=Option.isSome_iff_exists.1 hs;exact List.mem_map.2 ⟨(x.1,d),(h.1 x.1 d).2 hd,rfl⟩
 have nd2:(ys.map (·.1)).Nodup:=by rw[List.Nodup,List.pairwise_map];exact h.2.imp fun {a b} hab e=>by rw[e]at hab;exact List.lt_irrefl _ hab
 have l1:=vP nd2 (ns:=xs.map (·.1)) fun n hn=>(hdom n).1 hn
 have l2:=vP nd (ns:=ys.map (·.1)) fun n hn=>(hdom n).2 hn
 simp only[List.length_map]at l1 l2;omega
theorem aJL{xs:List File}:uI (after xs fun _=>none) (xs.map (·.1)):=by
 have:=aFQ (xs:=xs) (f:=fun _=>none) (ns:=[]) (fun n h=>by cases h)
 simpa using this
theorem aL4:∀ {gs:List (DSt→Er×DSt)} {k:Nat} {s:DSt},(∀g∈gs,∀k s,k≤1000000→Up k s→Up (k+1) (g s).2)→k+gs.length≤1000000→Up k s→(dZ gs s).2.down=false
 | [],k,s,_,_,h=>h.down
 |g::gs,k,s,hg,hk,h=>by
  simp only[List.length_cons]at hk;have h1:=hg g List.mem_cons_self k s aI h;unfold dZ;split
  ·exact h1.down
  exact aL4 (fun g' h'=>hg g' (List.mem_cons_of_mem _ h')) aI h1
theorem bFF{k:Nat}{xs:List File}{s:DSt}(h:Up k s)(hk:k+xs.length≤900000):(iM xs s).2.down=false:=by
 unfold iM;refine aL4 (k:=k) (fun g hg k s hk hs=>?_) (by simp[gB];omega) h
 rcases List.mem_append.1 hg with hg|hg
 ·obtain⟨x,hm,rfl⟩:=List.mem_map.1 hg;exact aV0 hs hk
 simp only[List.mem_cons,List.not_mem_nil,or_false]at hg;rcases hg with rfl|rfl|rfl
 ·exact aFE hs hk
 ·exact aG1 hs hk
 exact aFE hs hk
theorem aYV{r:Option (List File)}{s:DSt}(h:Up 0 s)(hr:∀xs,r=some xs→xs.length≤1000):(dT r s).2.down=false:=by
 have h1:=aFE h aI;unfold dT;split
 ·exact h1.down
 split
 ·unfold vB;split
  ·exact bFF h1 (by have:=hr _ rfl;omega)
  refine aL4 (k:=1) (fun g hg k s hk hs=>?_) (by simp) h1
  simp only[List.mem_cons,List.not_mem_nil,or_false]at hg;rcases hg with rfl|rfl
  ·exact aG1 hs hk
  exact aFE hs hk
 split <;> exact h1.down
theorem bE3{id:aJ}{acts:List Action}{text:aJ}{xs:List File}{s:DSt}{l:Nat}(hR:Rest s)(hf:eY id acts text=.ok xs)(hj:∀x∈xs,x.1≠bM)(hx:xs.length≤100)(hfj:s.dur bM=none)(hl:l≤1000):
  ((iK id acts text (s.set l (-1))).1=none∧∀t,kX (iK id acts text (s.set l (-1))).2 t→Rest t∧t.dur=after xs s.dur)∨
  ((iK id acts text (s.set l (-1))).1=some 16∧∀t,kX (iK id acts text (s.set l (-1))).2 t→Rest t∧J xs s.dur t.dur):=by
 have hm:iK id acts text (s.set l (-1))=iC xs (s.set l (-1)):=by unfold iK;rw[hf]
 have hrun:Run 0 (s.set l (-1)):=⟨hR.down,by show -1 - ((0:Nat):Int)≤(l:Int);omega,by show (l:Int)≤1000000;omega,by show (-1:Int) < 0;omega,by show -1 - ((0:Nat):Int)≤ -1;omega⟩;rw[hm];rcases aSH (f:=s.dur) hj hrun (show s.now=s.dur from hR.now) rfl (show s.pend=[]from hR.pend) hfj aI with ⟨s',h1,h2,h3,h4,h5⟩|⟨s',h1,h2,h3⟩
 ·left
  rw[h1];refine⟨rfl,fun t ht=>?_⟩
  unfold kX at ht;rw[if_neg (by simp[h2])]at ht;subst ht;exact⟨⟨h2,h3,by show s'.now=s'.dur;rw[h4,h5],rfl,rfl⟩,h4⟩
 right
 rw[h1];refine⟨rfl,fun t ht=>?_⟩
 unfold kX at ht;rw[if_pos (show s'.down=true from h2)]at ht;obtain⟨u,hu,rfl⟩:=ht;exact⟨⟨hu.2.2.2.2.2,hu.2.2.1,hu.2.1,rfl,rfl⟩,h3 _ hu.1⟩
theorem bAQ{xs:List File}{f:DMap}{s:DSt}(hR:Rest s)(hok:kW xs)(hj:∀x∈xs,x.1≠bM)(hfj:f bM=none)(hJ:J xs f s.dur):
  (∀s1 d,d6 (s.set (-1) (-1))=(none,s1)→s1.now bM=some d→sV d (saysOf xs s.dur))∧(dT (saysOf xs s.dur) (s.set (-1) (-1))).1=none∧(dT (saysOf xs s.dur) (s.set (-1) (-1))).2.down=false∧∀t,kX (dT (saysOf xs s.dur) (s.set (-1) (-1))).2 t→Rest t∧(t.dur=f∨t.dur=after xs f):=by
 rw[hR.set];refine⟨fun s1 d h1 h2=>?_,?_⟩
 ·rw[xT hR.up aI]at h1
  injection h1 with _ h1
  subst h1;exact bJ9 hok hfj hJ (by rw[←h2];show s.dur bM=s.now bM;rw[hR.now])
 have hrun:Run 0 s:=⟨hR.down,by rw[hR.left];omega,by rw[hR.left];omega,by rw[hR.full];omega,by rw[hR.full];omega⟩;have hup:=aYV (r:=saysOf xs s.dur) hR.up fun ys h=>by rw[vV ys h];have:=hok.2.2;omega
 rcases aUE hj hrun hR.pend hR.now hfj hJ (by have:=hok.2.2;omega)with ⟨s',h1,h2,h3,h4,h5⟩|⟨s',h1,h2,h3⟩
 ·rw[h1];refine⟨rfl,h2,fun t ht=>?_⟩
  unfold kX at ht;rw[if_neg (by simp[h2])]at ht;subst ht;exact⟨⟨h2,h3,h4,rfl,rfl⟩,h5⟩
 rw[h1]at hup;rw[show s'.down=false from hup]at h2;cases h2
end Go.Box
end
section
attribute [local irreducible] Go.SL.T Go.SL.OL Go.SL.D Go.SL.DL Go.SL.Ev Go.SL.Ef Go.SL.EfS
namespace Go.Proofs
open Go Go.SL Go.Syn Go.Box Go.Mach
abbrev aVI:aJ:=[116,101,120,116]
abbrev dur1:DSt:=⟨fun _=>none,fun _=>none,[],-1,-1,false⟩
theorem bT9:Box.Rest dur1:=⟨rfl,rfl,rfl,rfl,rfl⟩
theorem bQX{id text:aJ}{acts:List Action}{xs:List File}{s:DSt}(hf:eY id acts text=.ok xs)(hx:kW xs)(hp:s.pend=[]):
  (iK id acts text s).2.pend.length≤1000000∧∀o∈(iK id acts text s).2.pend,o.data.length≤140737488355328:=by
 have hm:iK id acts text s=iC xs s:=by unfold iK;rw[hf]
 have h1:=wU xs s hx.2.2;rw[hp]at h1;have h2:Bd 140737488355328 s:=by intro o ho;rw[hp]at ho;cases ho
 rw[hm];exact⟨by simp at h1;omega,aB9 (bGP hx) (aIO hx.2.1) h2⟩
theorem aRI(s:aJ)(m:Msg)(hv:Value)(at_ kept part:Int)(K:Hl)(hg:Glob K)(hdb:Deb K)(hE:ErrT K)(hh:Ksl hdEl K hv m.hs)(hz:MsgSz m)(ha1: -9223372036854775808≤at_)(ha2:at_≤9223372036854775807)(hk1: -9223372036854775808≤part)(hk2:part≤9223372036854775807):
  Sp Tryz.prog 8 [str s,msgV m hv,i64 at_,i64 kept,i64 part] K [] (Ret fun v K' L'=>v=.bool true):=by
 have hh0:=hh;obtain⟨ha,hn,hc,rfl⟩:=hh.isSlice;refine a8 Tryz.func8 rfl Tryz.ntmps8 rfl rfl fun F w=>?_;refine zz3 ?_;rintro _ K _ ⟨b6,rfl,rfl,rfl⟩ -;refine zz5 ?_;refine aX rfl rfl (vT _ hg hE) .nil rfl ?_;rintro _ K1 _ ⟨rfl,rfl⟩ le1;refine zz6 ?_;refine aX rfl rfl (uU m (.slice ha hn hc) _ (hh0.mono le1) hz) .nil rfl ?_;rintro _ K1 _ ⟨sb,rfl,hsb,rfl,rfl⟩ -;refine zz12 ?_;refine aA gAF rfl ?_;refine zz3 ?_;refine eO 33 rfl (fun h33=>?_) (fun h33=>?_)
 ·refine zz8 ?_;refine uAl ?_;refine bD rfl rfl le1 ?_;exact⟨_,rfl,rfl⟩
 have hm:MsgOk m:=hsb (by simpa using h33);refine zz5 ?_;refine aX rfl rfl (lF s _ (hg.mono le1) (hE.mono le1)) .nil rfl ?_;rintro _ K2 _ ⟨x,rfl,hP,rfl⟩ le2;have le12:=Hl.le_trans le1 le2;refine zz9 ?_;rcases hP with ⟨b,r,h6,hr,rfl,hat⟩|⟨rfl,hno⟩
 ·refine zz14 ?_;refine aX rfl rfl (aBD b r s m (.slice ha hn hc) _ (hg.mono le12) (hE.mono le12) hr h6 hat (hh0.mono le12) hm) .nil rfl ?_;rintro _ K3 _ ⟨av,rfl,rfl⟩ le3;have le13:=Hl.le_trans le12 le3;have hao:ActsOk (sayC r m).acts:=bR0 _ _ _
  generalize sayC r m=out at*
  obtain⟨xs,hf,hxl,hfo,hnd,hj⟩:=bB2 (id:=[109]) (text:=aVI) (by decide) ⟨by decide,by decide⟩ (by simp) hao;have hal:=hao.len;have hae:∀a∈out.acts,a.2.length≤1048576:=fun a h=>by have:=(hao.ok a h).len;omega
  refine zz10 ?_;refine kC fun K4 le4 hv4=>?_;have le14:=Hl.le_trans le13 le4;refine aC ?_;refine aX rfl rfl (aBB _ [] _ (.inl ⟨_,_,rfl,rfl⟩) (by simp)) .nil rfl ?_;rintro _ K5 _ ⟨bx,d,rfl,hbx,rfl⟩ le5;have le15:=Hl.le_trans le14 le5;have hv5:=hv4.mono le5;refine zz8 ?_;refine aX rfl rfl (aF6 at_ 40 40 _ rfl ha1 ha2 aI) .nil rfl ?_;rintro _ K5 _ ⟨l0,rfl,hl0,rfl,rfl⟩ -;refine zz2 ?_;refine aX rfl rfl (wP bx d [109] aVI _ out.acts l0 (-1) kept part dur1 _ _ (Hl.le_refl _) hbx (hg.mono le15) (hdb.mono le15) (hE.mono le15) hv5 (by simp) (by simp) hae aI (by simp) hk1 hk2 (fun _=>bQX hf hfo rfl)) (.cons .here .nil) rfl ?_;rintro _ K6 _ ⟨rfl,t,hend,rfl⟩ le6;have le16:=Hl.le_trans le15 le6;have hbx6:=hbx.mono le6;have hv6:=hv5.mono le6;have hT:=bE3 (l:=l0) bT9 hf hj hfo.2.2 rfl aI;refine zz3 ?_;rcases hT with ⟨he,hT⟩|⟨he,hT⟩
  ·obtain⟨hR,hd⟩:=hT t hend
   replace hd:t.dur=after xs (fun _=>none):=hd
   rw[he];obtain⟨hs1,hs2,hs3,hs4⟩:=bAQ (xs:=xs) (f:=after xs (fun _=>none)) hR hfo hj kH (.inl ⟨fun n _=>by rw[hd],.inl (by rw[hd];exact kH)⟩);refine zz3 ?_;refine aX rfl rfl (aIG bx d (-1) (-1) 0 0 t _ hs1 _ _ (Hl.le_refl _) hbx6 (hg.mono le16) (hdb.mono le16) (hE.mono le16) (by rw[hR.pend];simp) aI aI (fun h=>by rw[hs3]at h;cases h)) (.cons .here .nil) rfl ?_;rintro _ K7 _ ⟨rfl,u,hu,rfl⟩ le7;rw[hs2];have le17:=Hl.le_trans le16 le7;obtain⟨hRu,hdu⟩:=hs4 u hu;rw[yR,or_self]at hdu;refine zz24 ?_;refine aX rfl rfl (mV bx d u (xs.map (·.1)) (by rw[hdu];exact aJL) gAI _ _ (Hl.le_refl _) (hbx6.mono le7)) (.cons .here .nil) rfl ?_;rintro _ K7 _ ⟨rfl,ys,hys,rfl⟩ -;rw[hdu]at hys;have hyl:=aHC hj hnd hys;have hv7:=hv6.mono le7;refine zz6 ?_;refine aA (bO (k:=cD) rfl Tryz.underlying62 rfl (.own .here)) rfl ?_;refine zz1 ?_;refine aA (bO (k:=cS) rfl Tryz.underlying29 rfl (.known hv7)) rfl ?_;refine aA (zB (bZ rfl rfl) aI) rfl ?_;refine zz5 ?_;refine uAl ?_;refine bD rfl rfl le17 ?_;exact⟨_,rfl,rfl⟩
  obtain⟨hR,hJ⟩:=hT t hend;rw[he];obtain⟨hs1,hs2,hs3,hs4⟩:=bAQ (xs:=xs) (f:=fun _=>none) hR hfo hj rfl hJ;refine zz3 ?_;refine aX rfl rfl (aIG bx d (-1) (-1) 0 0 t _ hs1 _ _ (Hl.le_refl _) hbx6 (hg.mono le16) (hdb.mono le16) (hE.mono le16) (by rw[hR.pend];simp) aI aI (fun h=>by rw[hs3]at h;cases h)) (.cons .here .nil) rfl ?_;rintro _ K7 _ ⟨rfl,u,hu,rfl⟩ le7;rw[hs2];have le17:=Hl.le_trans le16 le7;obtain⟨hRu,hdu⟩:=hs4 u hu;have hbx7:=hbx6.mono le7;have hv7:=hv6.mono le7;have hbF:boxF [109] out.acts aVI u.dur=(0,after xs fun _=>none):=(by unfold boxF;rw[hf];rcases hdu with e|e <;> rw[e];simp only[yR]);obtain⟨hB1,hB2,hB3⟩:=aDK (id:=[109]) (acts:=out.acts) (text:=aVI) hRu (fun ys h=>by rw[hf]at h;cases h;exact hfo.2.2);refine zz27 ?_;refine aX rfl rfl (wP bx d [109] aVI _ out.acts (-1) (-1) 0 0 u _ _ (Hl.le_refl _) hbx7 (hg.mono le17) (hdb.mono le17) (hE.mono le17) hv7 (by simp) (by simp) hae aI (by rw[hRu.pend];simp) aI aI (fun h=>by rw[hB2]at h;cases h)) (.cons .here .nil) rfl ?_;rintro _ K8 _ ⟨rfl,z,hz2,rfl⟩ le8;obtain⟨hRz,hdz⟩:=hB3 z hz2;rw[hB1,hbF];rw[hbF]at hdz
  replace hdz:z.dur=after xs (fun _=>none):=hdz
  have le18:=Hl.le_trans le17 le8;have hv8:=hv7.mono le8;refine zz6 ?_;refine aX rfl rfl (mV bx d z (xs.map (·.1)) (by rw[hdz];exact aJL) gAI _ _ (Hl.le_refl _) (hbx7.mono le8)) (.cons .here .nil) rfl ?_;rintro _ K8 _ ⟨rfl,ys,hys,rfl⟩ -;rw[hdz]at hys;have hyl:=aHC hj hnd hys;refine zz11 ?_;refine aA (bO (k:=cD) rfl Tryz.underlying62 rfl (.own .here)) rfl ?_;refine zz3 ?_;refine aA (bO (k:=cS) rfl Tryz.underlying29 rfl (.known hv8)) rfl ?_;refine zz1 ?_;refine aA (zB (bZ rfl rfl) aI) rfl ?_;refine zz5 ?_;refine uAl ?_;refine bD rfl rfl le18 ?_;exact⟨_,rfl,rfl⟩
 refine zz15 ?_;refine uAl ?_;refine bD rfl rfl le12 ?_;exact⟨_,rfl,rfl⟩
end Go.Proofs
end

/-
  What the proof stands on, part 74: the logic of walks, the walks through the functions, the plain laws. Conditions: as each theorem says. (Merged and shortened by a program.)
-/
import Derived.Test.YthopmddkpdehiaaGreatDoorK22
import Derived.Test.YthopmddkpdehiaaGreatDoorK26
import Derived.Test.YthopmddkpdehiaaGreatDoorK41
import Derived.Test.YthopmddkpdehiaaGreatDoorK67
set_option linter.unusedVariables false
set_option linter.unusedSimpArgs false
set_option maxRecDepth 4000
set_option maxHeartbeats 1000000
section
namespace Go.Box
open Go.Syn Go.Proofs Go.SL
theorem aC8{k:Nat}{s:DSt}(h:Run k s)(hk:k≤1000000):
  (s.we=none∧s.ws=s.dec∧Run (k+1) s.dec)∨(s.we=some 16∧s.ws={s with down:=true}):=by
 have h1:=h.l1;have h2:=h.l2;have h3:=h.f1;have h4:=h.f2
 by_cases hl:s.left=0
 ·right
  have e:fX s.left s.full s.down=(some 16,s.left,s.full,true):=by unfold fX;rw[if_pos (.inr hl)]
  unfold DSt.we DSt.ws;rw[e];exact⟨rfl,rfl⟩
 left
 have e:fX s.left s.full s.down=(none,s.left - 1,s.full - 1,false):=by
  unfold fX;rw[if_neg (by rw[h.down];simp;exact hl),if_neg aI,qG aI aI,qG aI aI]
 unfold DSt.we DSt.ws;rw[e]
 refine⟨rfl,?_,h.down,?_,?_,?_,?_⟩
 ·have:=h.down;cases s;simp_all[DSt.dec]
 all_goals simp only[DSt.dec];omega
theorem aO7{k:Nat}{s:DSt}(h:Run k s)(hk:k≤1000000)(n d:aJ):
  fC n d s=(none,s.dec.told ⟨1,n,[],d⟩)∧Run (k+1) (s.dec.told ⟨1,n,[],d⟩)∨
  ∃s',fC n d s=(some 16,s')∧s'.down=true∧s'.dur=s.dur∧s'.pend=s.pend++[⟨1,n,[],d⟩]:=by
 rcases aC8 h hk with ⟨h1,h2,h3⟩|⟨h1,h2⟩
 ·left
  have ht:gP ⟨1,n,[],d⟩ s=(none,s.dec.told ⟨1,n,[],d⟩):=by
   unfold gP;rw[h1,h2,if_neg (by simp),if_neg (by simp)]
  exact⟨by unfold fC;rw[ht];rfl,h3.told _⟩
 right
 have ht:gP ⟨1,n,[],d⟩ s=(some 16,{s with down:=true}):=by unfold gP;rw[h1,h2];rfl
 refine⟨({s with down:=true}:DSt).add ⟨1,n,[],d⟩,by unfold fC;rw[ht];rfl,rfl,rfl,rfl⟩
theorem aK8{k:Nat}{s:DSt}(h:Run k s)(hk:k≤1000000){n d:aJ}(hn:s.now n=some d):
  eV n s=(none,s.dec.told ⟨3,n,[],[]⟩)∧Run (k+1) (s.dec.told ⟨3,n,[],[]⟩)∨
  ∃s',eV n s=(some 16,s')∧s'.down=true∧s'.dur=s.dur∧s'.pend=s.pend:=by
 rcases aC8 h hk with ⟨h1,h2,h3⟩|⟨h1,h2⟩
 ·left
  exact⟨by unfold eV gP;rw[h1,h2,if_neg (by simp),if_neg (by simp[hn])],h3.told _⟩
 right
 exact⟨{s with down:=true},by unfold eV gP;rw[h1,h2];rfl,rfl,rfl,rfl⟩
theorem z7{k:Nat}{s:DSt}(h:Run k s)(hk:k≤1000000):
  d6 s=(none,s.dec.flush)∧Run (k+1) s.dec.flush∨∃s',d6 s=(some 16,s')∧s'.down=true∧s'.dur=s.dur∧s'.pend=s.pend:=by
 rcases aC8 h hk with ⟨h1,h2,h3⟩|⟨h1,h2⟩
 ·left;exact⟨by unfold d6;rw[h1,h2];rfl,h3.flush⟩
 right;exact⟨{s with down:=true},by unfold d6;rw[h1,h2];rfl,rfl,rfl,rfl⟩
section
variable{xs:List File}{f:DMap}
theorem aAJ:∀ {ys:List File} {k:Nat} {s:DSt} (t:List (DSt→Er×DSt)),(∀y∈ys,y∈xs)→Run k s→Coh s→k+ys.length≤1000000→(∀o∈s.pend,∃x∈xs,o.kind=1∧o.name=x.1)→
  (∃s',dZ (gB ys++t) s=dZ t s'∧Run (k+ys.length) s'∧Coh s'∧s'.now=lQ ys s.now∧s'.dur=s.dur∧∀o∈s'.pend,∃x∈xs,o.kind=1∧o.name=x.1)∨
  (∃s',dZ (gB ys++t) s=(some 16,s')∧s'.down=true∧s'.dur=s.dur∧∀o∈s'.pend,∃x∈xs,o.kind=1∧o.name=x.1)
 | [],k,s,t,_,h,hc,_,hp=>.inl ⟨s,rfl,h,hc,rfl,rfl,hp⟩
 |y::ys,k,s,t,hy,h,hc,hk,hp=>by
  simp only[List.length_cons]at hk;have hp2:∀o∈s.pend++[(⟨1,y.1,[],y.2⟩:OpR)],∃x∈xs,o.kind=1∧o.name=x.1:=fun o ho=>by
   rcases List.mem_append.1 ho with ho|ho
   ·exact hp o ho
   rw[List.mem_singleton.1 ho];exact⟨y,hy y List.mem_cons_self,rfl,rfl⟩
  have e:∀s,dZ (gB (y::ys)++t) s=if (fC y.1 y.2 s).1.isSome=true then fC y.1 y.2 s else dZ (gB ys++t) (fC y.1 y.2 s).2:=fun s=>rfl
  rcases aO7 h aI y.1 y.2 with ⟨h1,h2⟩|⟨s',h1,h2,h3,h4⟩
  ·rw[e,h1];rcases aAJ (ys:=ys) (k:=k+1) t (fun z hz=>hy z (List.mem_cons_of_mem _ hz)) h2 (hc.dec.told _) aI hp2 with ⟨s',g1,g2,g3,g4,g5,g6⟩|⟨s',g1,g2,g3,g4⟩
   ·have e2:k+(y::ys).length=k+1+ys.length:=by simp only[List.length_cons];omega
    exact .inl ⟨s',g1,e2▸g2,g3,g4,g5,g6⟩
   exact .inr ⟨s',g1,g2,g3,g4⟩
  rw[e,h1];exact .inr ⟨s',rfl,h2,h3,h4▸hp2⟩
theorem aJY{k:Nat}{s:DSt}(hj:∀x∈xs,x.1≠bM)(h:Run k s)(hc:Coh s)(hp:s.pend=[])(h2:J2 xs f s.dur)(hk:k+xs.length≤900000):
  (∃s',iM xs s=(none,s')∧s'.down=false∧s'.pend=[]∧s'.dur=after xs f∧s'.now=after xs f)∨
  (∃s',iM xs s=(some 16,s')∧s'.down=true∧∀g,Left true s'.pend s'.dur g→J xs f g):=by
 have hsn:s.now=s.dur:=by have:=hc;unfold Coh at this;rw[hp]at this;exact this
 unfold iM;rcases aAJ (xs:=xs) [d6,eV bM,d6] (fun _ h=>h) h hc aI (by rw[hp];intro o ho;cases ho)with ⟨s1,a1,a2,a3,a4,a5,a6⟩|⟨s',a1,a2,a3,a4⟩
 ·rw[a1];have hjs:s1.now bM=some (gJ xs):=by
   rw[a4,hsn,q9 (fun⟨x,hx,e⟩=>hj x hx e)];exact h2.1
  have hJ2:J2 xs f s1.now:=by
   refine⟨hjs,fun n hn hno=>?_⟩
   rw[a4,hsn,q9 hno];exact h2.2 n hn hno
  have haf:s1.now.cut bM=after xs f:=by
   funext n
   by_cases hn:n=bM
   ·subst hn;rw[kH];unfold DMap.cut;rw[if_pos rfl]
   rw[lV hn];unfold DMap.cut;rw[if_neg hn]
   by_cases hx:∃x∈xs,x.1=n
   ·rw[a4];exact aBF hx f
   rw[q9 hx];exact hJ2.2 n hn hx
  rcases z7 a2 aI with ⟨b1,b2⟩|⟨s',b1,b2,b3,b4⟩
  ·have c1:=(a3.dec).flush;rcases aK8 b2 aI (show s1.dec.flush.now bM=some (gJ xs)from hjs)with ⟨d1,d2⟩|⟨s',d1,d2,d3,d4⟩
   ·have c2:=(c1.1.dec.told ⟨3,bM,[],[]⟩);rcases z7 d2 aI with ⟨e1,e2⟩|⟨s',e1,e2,e3,e4⟩
    ·left
     refine⟨_,by simp only[dZ,b1,d1,e1];rfl,e2.down,rfl,?_,?_⟩
     ·rw[(c2.dec.flush).2.1];exact haf
     rw[(c2.dec.flush).2.2];exact haf
    right
    refine⟨s',by simp only[dZ,b1,d1,e1];rfl,e2,fun g hg=>?_⟩
    rw[e4,e3]at hg;have hpd:(s1.dec.flush.dec.told ⟨3,bM,[],[]⟩).pend=[⟨3,bM,[],[]⟩]:=rfl;have hdd:(s1.dec.flush.dec.told ⟨3,bM,[],[]⟩).dur=s1.now:=c1.2.1;rw[hpd,hdd]at hg;have hP:∀g,Left true [⟨3,bM,[],[]⟩] s1.now g→g=s1.now∨g=s1.now.cut bM:=fun g hg=>by
     cases hg with
     |lost h=>cases h;exact .inl rfl
     |kept h=>cases h;exact .inr rfl
     |torn h1 _ _=>exact absurd h1 (by decide)
     |none _ _ h=>cases h;exact .inl rfl
    rcases hP g hg with rfl|rfl
    ·exact .inr (.inl hJ2)
    exact .inr (.inr haf)
   right
   refine⟨s',by simp only[dZ,b1,d1];rfl,d2,fun g hg=>?_⟩
   rw[d4,d3]at hg;have hpd:s1.dec.flush.pend=[]:=rfl;rw[hpd,c1.2.1]at hg;cases hg
   exact .inr (.inl hJ2)
  right
  refine⟨s',by simp only[dZ,b1];rfl,b2,fun g hg=>?_⟩
  rw[b4,b3,a5]at hg;exact .inr (.inl (aKD a6 hj h2 hg))
 rw[a1]
 right
 refine⟨s',rfl,a2,fun g hg=>?_⟩
 rw[a3]at hg;exact .inr (.inl (aKD a4 hj h2 hg))
theorem aSH{k:Nat}{s:DSt}(hj:∀x∈xs,x.1≠bM)(h:Run k s)(hn:s.now=f)(hd:s.dur=f)(hp:s.pend=[])(hfj:f bM=none)(hk:k+xs.length≤800000):
  (∃s',iC xs s=(none,s')∧s'.down=false∧s'.pend=[]∧s'.dur=after xs f∧s'.now=after xs f)∨
  (∃s',iC xs s=(some 16,s')∧s'.down=true∧∀g,Left true s'.pend s'.dur g→J xs f g):=by
 have hc:Coh s:=by unfold Coh;rw[hp,hn,hd];rfl
 have hf1:J1 xs f f:=⟨fun _ _=>rfl,.inl hfj⟩;unfold iC;rcases aO7 h aI bM (gJ xs)with ⟨a1,a2⟩|⟨s',a1,a2,a3,a4⟩
 ·have c1:=hc.dec.told ⟨1,bM,[],gJ xs⟩;have hp1:(s.dec.told ⟨1,bM,[],gJ xs⟩).pend=[⟨1,bM,[],gJ xs⟩]:=by show s.pend++_=_;rw[hp];rfl
  rcases z7 a2 aI with ⟨b1,b2⟩|⟨s',b1,b2,b3,b4⟩
  ·have c2:=c1.dec.flush;have hJ2:J2 xs f (s.dec.told ⟨1,bM,[],gJ xs⟩).dec.flush.dur:=by
    rw[c2.2.1]
    show J2 xs f (s.now.put bM (gJ xs))
    rw[hn];exact⟨by unfold DMap.put;rw[if_pos rfl],fun n hn _=>by unfold DMap.put;rw[if_neg hn]⟩
   have:=aJY hj b2 c2.1 rfl hJ2 aI;simp only[dZ,a1,b1];rcases this with ⟨s',e1,e2,e3,e4,e5⟩|⟨s',e1,e2,e3⟩
   ·exact .inl ⟨s',by rw[e1];rfl,e2,e3,e4,e5⟩
   exact .inr ⟨s',by rw[e1];rfl,e2,e3⟩
  right
  refine⟨s',by simp only[dZ,a1,b1];rfl,b2,fun g hg=>?_⟩
  rw[b4,b3,hp1,show (s.dec.told ⟨1,bM,[],gJ xs⟩).dur=f from hd]at hg;exact .inl (aXJ (fun o ho=>List.mem_singleton.1 ho) hf1 hg)
 right
 refine⟨s',by simp only[dZ,a1];rfl,a2,fun g hg=>?_⟩
 rw[a4,a3,hp,hd]at hg;exact .inl (aXJ (fun o ho=>List.mem_singleton.1 ho) hf1 hg)
end
theorem aUE{xs:List File}{f:DMap}{k:Nat}{s:DSt}(hj:∀x∈xs,x.1≠bM)(h:Run k s)(hr:s.pend=[])(hn:s.now=s.dur)(hfj:f bM=none)(hJ:J xs f s.dur)(hk:k+xs.length≤800000):
  (∃s',dT (saysOf xs s.dur) s=(none,s')∧s'.down=false∧s'.pend=[]∧s'.now=s'.dur∧(s'.dur=f∨s'.dur=after xs f))∨
  (∃s',dT (saysOf xs s.dur) s=(some 16,s')∧s'.down=true∧∀g,Left true s'.pend s'.dur g→J xs f g):=by
 have hc:Coh s:=by unfold Coh;rw[hr,hn];rfl
 rcases z7 h aI with ⟨a1,a2⟩|⟨s',a1,a2,a3,a4⟩
 ·have c1:=hc.dec.flush;have hd1:s.dec.flush.dur=s.dur:=c1.2.1.trans hn;have hn1:s.dec.flush.now=s.dur:=c1.2.2.trans hn;have hrd:r6 bM s.dec.flush=match s.dur bM with|none=>([],some 14)|some d=>(d,none):=by
   unfold r6;rw[if_neg (by rw[a2.down];simp),hn1] <;> cases s.dur bM <;> rfl
  cases hdj:s.dur bM with
  |none=>
   left
   rw[hdj]at hrd;refine⟨_,by unfold dT;rw[a1];simp only[hrd];rfl,a2.down,rfl,hn1.trans hd1.symm,?_⟩
   rw[hd1];rcases hJ with h1|h1|h1
   ·left;funext n
    by_cases hnj:n=bM
    ·rw[hnj,hdj,hfj]
    exact h1.1 n hnj
   ·rw[h1.1]at hdj;cases hdj
   exact .inr h1
  |some d=>
   rw[hdj]at hrd;have e:dT (saysOf xs s.dur) s=vB (saysOf xs s.dur) s.dec.flush:=by unfold dT;rw[a1];simp only[hrd];rfl
   rw[e];unfold saysOf
   by_cases hp:s.dur bM=some (gJ xs)
   ·rw[if_pos hp];have h2:J2 xs f s.dec.flush.dur:=by
     rw[hd1];rcases hJ with h1|h1|h1
     ·exact⟨hp,fun n hn _=>h1.1 n hn⟩
     ·exact h1
     rw[h1,kH]at hp;cases hp
    rcases aJY hj a2 c1.1 rfl h2 aI with ⟨s',e1,e2,e3,e4,e5⟩|h3
    ·exact .inl ⟨s',e1,e2,e3,e5.trans e4.symm,.inr e4⟩
    exact .inr h3
   rw[if_neg hp];have h1:J1 xs f s.dur:=by
    rcases hJ with h1|h1|h1
    ·exact h1
    ·exact absurd h1.1 hp
    rw[h1,kH]at hdj;cases hdj
   have hcut:s.dur.cut bM=f:=by
    funext n
    by_cases hnj:n=bM
    ·subst hnj;unfold DMap.cut;rw[if_pos rfl,hfj]
    unfold DMap.cut;rw[if_neg hnj];exact h1.1 n hnj
   unfold vB;rcases aK8 a2 aI (show s.dec.flush.now bM=some d by rw[hn1];exact hdj)with ⟨d1,d2⟩|⟨s',d1,d2,d3,d4⟩
   ·have c2:=c1.1.dec.told ⟨3,bM,[],[]⟩;have hpd:(s.dec.flush.dec.told ⟨3,bM,[],[]⟩).pend=[⟨3,bM,[],[]⟩]:=rfl;have hdd:(s.dec.flush.dec.told ⟨3,bM,[],[]⟩).dur=s.dur:=hd1;have hnn:(s.dec.flush.dec.told ⟨3,bM,[],[]⟩).now=f:=by
     show (s.dec.flush.now).cut bM=f
     rw[hn1,hcut]
    rcases z7 d2 aI with ⟨e1,e2⟩|⟨s',e1,e2,e3,e4⟩
    ·left
     refine⟨_,by simp only[dZ,d1,e1];rfl,e2.down,rfl,?_,.inl ?_⟩
     ·exact((c2.dec.flush).2.2).trans ((c2.dec.flush).2.1).symm
     exact((c2.dec.flush).2.1).trans hnn
    right
    refine⟨s',by simp only[dZ,d1,e1];rfl,e2,fun g hg=>?_⟩
    rw[e4,e3,hpd,hdd]at hg;cases hg with
    |lost h=>cases h;exact .inl h1
    |kept h=>
     cases h
     show J xs f (s.dur.cut bM)
     rw[hcut];exact .inl ⟨fun _ _=>rfl,.inl hfj⟩
    |torn h1 _ _=>exact absurd h1 (by decide)
    |none _ _ h=>cases h;exact .inl h1
   right
   refine⟨s',by simp only[dZ,d1];rfl,d2,fun g hg=>?_⟩
   have hpd:s.dec.flush.pend=[]:=rfl;rw[d4,d3,hpd,hd1]at hg;cases hg;exact .inl h1
 right
 refine⟨s',by unfold dT;rw[a1];rfl,a2,fun g hg=>?_⟩
 rw[a4,a3,hr]at hg;cases hg;exact hJ
end Go.Box
end

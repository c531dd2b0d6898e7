/-
  What the proof stands on, part 47: the logic of walks, the walks through the functions, the plain laws. Conditions: as each theorem says. (Merged and shortened by a program.)
-/
import Derived.Test.YthopmddkpdehiaaGreatDoorK16
import Derived.Test.YthopmddkpdehiaaGreatDoorK43
import Derived.Test.YthopmddkpdehiaaGreatDoorK45
set_option linter.unusedVariables false
set_option linter.unusedSimpArgs false
set_option maxRecDepth 4000
set_option maxHeartbeats 1000000
section
namespace Go.Box
open Go.Syn Go.Proofs Go.SL
structure Bad (e:Int) (s s':DSt) (o:Option OpR):Prop where
 dur:s'.dur=s.dur
 now:s'.now=s.now
 one:e=16∧s'.down=true∧(s'.pend=s.pend∨∃p,o=some p∧s'.pend=s.pend++[p])∨e=15∧s'.down=false∧s'.pend=s.pend
structure Good (s s':DSt):Prop where
 down:s'.down=false
 dur:s'.dur=s.dur
theorem aRR{s:DSt}(h:s.down=false):(s.we=none∧s.ws.down=false)∨∃e,s.we=some e∧(e=16∧s.ws.down=true∨e=15∧s.ws.down=false):=by
 unfold DSt.we DSt.ws fX;split
 ·right;exact⟨16,rfl,.inl ⟨rfl,rfl⟩⟩
 split
 ·right;exact⟨15,rfl,.inr ⟨rfl,rfl⟩⟩
 left;exact⟨rfl,rfl⟩
theorem bLM{s:DSt}(h:s.down=false)(n d:aJ):
  (∃s',fC n d s=(none,s')∧s'.down=false∧s'.dur=s.dur∧s'.now=s.now.put n d∧s'.pend=s.pend++[⟨1,n,[],d⟩])∨
  ∃e s',fC n d s=(some e,s')∧Bad e s s' (some ⟨1,n,[],d⟩):=by
 rcases aRR h with ⟨h1,h2⟩|⟨e,h1,h2⟩
 ·left
  have ht:gP ⟨1,n,[],d⟩ s=(none,s.ws.told ⟨1,n,[],d⟩):=by unfold gP;rw[h1,if_neg (by simp),if_neg (by simp)]
  exact⟨s.ws.told ⟨1,n,[],d⟩,by unfold fC;rw[ht];rfl,h2,rfl,rfl,rfl⟩
 right
 have ht:gP ⟨1,n,[],d⟩ s=(some e,s.ws):=by unfold gP;rw[h1];rfl
 rcases h2 with ⟨rfl,h2⟩|⟨rfl,h2⟩
 ·exact⟨16,s.ws.add ⟨1,n,[],d⟩,by unfold fC;rw[ht];rfl,rfl,rfl,.inl ⟨rfl,h2,.inr ⟨_,rfl,rfl⟩⟩⟩
 exact⟨15,s.ws,by unfold fC;rw[ht];rfl,rfl,rfl,.inr ⟨rfl,h2,rfl⟩⟩
theorem bAE{s:DSt}(h:s.down=false){n d:aJ}(hn:s.now n=some d):
  (∃s',eV n s=(none,s')∧s'.down=false∧s'.dur=s.dur∧s'.now=s.now.cut n∧s'.pend=s.pend++[⟨3,n,[],[]⟩])∨
  ∃e s',eV n s=(some e,s')∧Bad e s s' none:=by
 rcases aRR h with ⟨h1,h2⟩|⟨e,h1,h2⟩
 ·left
  exact⟨s.ws.told ⟨3,n,[],[]⟩,by unfold eV gP;rw[h1,if_neg (by simp),if_neg (by simp[hn])],h2,rfl,rfl,rfl⟩
 right
 refine⟨e,s.ws,by unfold eV gP;rw[h1];rfl,rfl,rfl,?_⟩
 rcases h2 with ⟨rfl,h2⟩|⟨rfl,h2⟩
 ·exact .inl ⟨rfl,h2,.inl rfl⟩
 exact .inr ⟨rfl,h2,rfl⟩
theorem aU9{s:DSt}(h:s.down=false)(hc:Coh s):
  (∃s',d6 s=(none,s')∧s'.down=false∧s'.dur=s.now∧s'.now=s.now∧s'.pend=[])∨∃e s',d6 s=(some e,s')∧Bad e s s' none:=by
 rcases aRR h with ⟨h1,h2⟩|⟨e,h1,h2⟩
 ·left;exact⟨s.ws.flush,by unfold d6;rw[h1];rfl,h2,hc.symm,rfl,rfl⟩
 right
 refine⟨e,s.ws,by unfold d6;rw[h1];rfl,rfl,rfl,?_⟩
 rcases h2 with ⟨rfl,h2⟩|⟨rfl,h2⟩
 ·exact .inl ⟨rfl,h2,.inl rfl⟩
 exact .inr ⟨rfl,h2,rfl⟩
theorem aTG:∀(os:List OpR) (f:DMap),Left true os f (os.foldl doF f)
 | [],f=>.nil
 |o::os,f=>.kept (aTG os _)
def Safe(xs:List File)(f:DMap)(s:DSt):Prop:=∀g,Left true s.pend s.dur g→J xs f g
def Bent(xs:List File)(f:DMap)(e:Int)(s:DSt):Prop:=Safe xs f s∧(e=16∧s.down=true∨e=15∧s.down=false∧Coh s)
section
variable{xs:List File}{f:DMap}
theorem Safe.now{s:DSt}(h:Safe xs f s)(hc:Coh s):J xs f s.now:=by rw[show s.now=_ from hc];exact h _ (aTG _ _)
theorem sB{e:Int}{s s':DSt}{o:Option OpR}(hb:Bad e s s' o)(hc:Coh s)(h:Safe xs f s)(h2:∀p,o=some p→∀g,Left true (s.pend++[p]) s.dur g→J xs f g):Bent xs f e s':=by
 rcases hb.one with ⟨h3,h4,h5⟩|⟨h3,h4,h5⟩
 ·refine⟨fun g hg=>?_,.inl ⟨h3,h4⟩⟩
  rw[hb.dur]at hg;rcases h5 with h5|⟨p,h5,h6⟩
  ·rw[h5]at hg;exact h g hg
  rw[h6]at hg;exact h2 p h5 g hg
 refine⟨fun g hg=>?_,.inr ⟨h3,h4,?_⟩⟩
 ·rw[hb.dur,h5]at hg;exact h g hg
 unfold Coh;rw[hb.now,hb.dur,h5];exact hc
theorem aH7:∀ {ys:List File} {s:DSt} (t:List (DSt→Er×DSt)),(∀y∈ys,y∈xs)→(∀x∈xs,x.1≠bM)→s.down=false→Coh s→J2 xs f s.dur→(∀o∈s.pend,∃x∈xs,o.kind=1∧o.name=x.1)→
  (∃s',dZ (gB ys++t) s=dZ t s'∧s'.down=false∧Coh s'∧s'.now=lQ ys s.now∧s'.dur=s.dur∧∀o∈s'.pend,∃x∈xs,o.kind=1∧o.name=x.1)∨
  (∃e s',dZ (gB ys++t) s=(some e,s')∧Bent xs f e s')
 | [],s,t,_,_,h,hc,_,hp=>.inl ⟨s,rfl,h,hc,rfl,rfl,hp⟩
 |y::ys,s,t,hy,hj,h,hc,h2,hp=>by
  have hp2:∀o∈s.pend++[(⟨1,y.1,[],y.2⟩:OpR)],∃x∈xs,o.kind=1∧o.name=x.1:=fun o ho=>by
   rcases List.mem_append.1 ho with ho|ho
   ·exact hp o ho
   rw[List.mem_singleton.1 ho];exact⟨y,hy y List.mem_cons_self,rfl,rfl⟩
  have e:∀s,dZ (gB (y::ys)++t) s=if (fC y.1 y.2 s).1.isSome=true then fC y.1 y.2 s else dZ (gB ys++t) (fC y.1 y.2 s).2:=fun s=>rfl
  rcases bLM h y.1 y.2 with ⟨s',h1,h3,h4,h5,h6⟩|⟨er,s',h1,h3⟩
  ·rw[e,h1];have hc':Coh s':=by unfold Coh;rw[h5,h4,h6,List.foldl_append,←show s.now=_ from hc];rfl
   rcases aH7 (ys:=ys) t (fun z hz=>hy z (List.mem_cons_of_mem _ hz)) hj h3 hc' (by rw[h4];exact h2) (by rw[h6];exact hp2)with ⟨s2,g1,g2,g3,g4,g5,g6⟩|⟨er,s2,g1,g2⟩
   ·exact .inl ⟨s2,g1,g2,g3,by rw[g4,h5];rfl,g5.trans h4,g6⟩
   exact .inr ⟨er,s2,g1,g2⟩
  rw [e, h1];exact .inr ⟨er, s', rfl, sB h3 hc (fun g hg => .inr (.inl (aKD hp hj h2 hg))) fun p hq g hg => by
   injection hq with hq;subst hq;exact .inr (.inl (aKD hp2 hj h2 hg))⟩
theorem aZV{s:DSt}(hj:∀x∈xs,x.1≠bM)(h:s.down=false)(hn:s.now=s.dur)(hp:s.pend=[])(h2:J2 xs f s.dur):
  (∃s',iM xs s=(none,s')∧s'.down=false∧s'.pend=[]∧s'.dur=after xs f∧s'.now=after xs f)∨
  (∃e s',iM xs s=(some e,s')∧Bent xs f e s'):=by
 have hc:Coh s:=by unfold Coh;rw[hp,hn];rfl
 unfold iM;rcases aH7 (xs:=xs) [d6,eV bM,d6] (fun _ h=>h) hj h hc h2 (by rw[hp];intro o ho;cases ho)with ⟨s1,a1,a2,a3,a4,a5,a6⟩|⟨e,s',a1,a2⟩
 ·rw[a1];have hjs:s1.now bM=some (gJ xs):=by
   rw[a4,hn,q9 (fun⟨x,hx,e⟩=>hj x hx e)];exact h2.1
  have hJ2:J2 xs f s1.now:=by
   refine⟨hjs,fun n hn' hno=>?_⟩
   rw[a4,hn,q9 hno];exact h2.2 n hn' hno
  have haf:s1.now.cut bM=after xs f:=by
   funext n
   by_cases hn':n=bM
   ·subst hn';rw[kH];unfold DMap.cut;rw[if_pos rfl]
   rw[lV hn'];unfold DMap.cut;rw[if_neg hn']
   by_cases hx:∃x∈xs,x.1=n
   ·rw[a4];exact aBF hx f
   rw[q9 hx];exact hJ2.2 n hn' hx
  rcases aU9 a2 a3 with ⟨s2,b1,b2,b3,b4,b5⟩|⟨e,s',b1,b2⟩
  ·have c2:Coh s2:=by unfold Coh;rw[b5,b3,b4];rfl
   have sf2:Safe xs f s2:=fun g hg=>by rw[b5,b3]at hg;cases hg;exact .inr (.inl hJ2)
   rcases bAE b2 (n:=bM) (d:=gJ xs) (by rw[b4];exact hjs)with ⟨s3,d1,d2,d3,d4,d5⟩|⟨e,s',d1,d2⟩
   ·rw[b5]at d5;rw[b4]at d4;rw[b3]at d3
    have c3:Coh s3:=by unfold Coh;rw[d5,d4,d3];rfl
    have sf3:Safe xs f s3:=fun g hg=>by
     rw[d5,d3]at hg;cases hg with
     |lost h=>cases h;exact .inr (.inl hJ2)
     |kept h=>cases h;exact .inr (.inr haf)
     |torn h1 _ _=>exact absurd h1 (by decide)
     |none _ _ h=>cases h;exact .inr (.inl hJ2)
    rcases aU9 d2 c3 with ⟨s4,e1,e2,e3,e4,e5⟩|⟨e,s',e1,e2⟩
    ·left
     exact⟨s4,by simp only[dZ,b1,d1,e1];rfl,e2,e5,by rw[e3,d4];exact haf,by rw[e4,d4];exact haf⟩
    right
    exact⟨e,s',by simp only[dZ,b1,d1,e1];rfl,sB e2 c3 sf3 fun p hq=>by cases hq⟩
   right
   exact⟨e,s',by simp only[dZ,b1,d1];rfl,sB d2 c2 sf2 fun p hq=>by cases hq⟩
  right
  exact⟨e,s',by simp only[dZ,b1];rfl,sB b2 a3 (fun g hg=>by rw[a5]at hg;exact .inr (.inl (aKD a6 hj h2 hg))) fun p hq=>by cases hq⟩
 rw[a1];exact .inr ⟨e,s',rfl,a2⟩
theorem bGS{s:DSt}(hj:∀x∈xs,x.1≠bM)(h:s.down=false)(hn:s.now=f)(hd:s.dur=f)(hp:s.pend=[])(hfj:f bM=none):
  (∃s',iC xs s=(none,s')∧s'.down=false∧s'.pend=[]∧s'.dur=after xs f∧s'.now=after xs f)∨
  (∃e s',iC xs s=(some e,s')∧Bent xs f e s'):=by
 have hc:Coh s:=by unfold Coh;rw[hp,hn,hd];rfl
 have hf1:J1 xs f f:=⟨fun _ _=>rfl,.inl hfj⟩;have hs0:Safe xs f s:=fun g hg=>by rw[hp,hd]at hg;cases hg;exact .inl hf1
 have hs1:∀g,Left true (s.pend++[⟨1,bM,[],gJ xs⟩]) s.dur g→J xs f g:=fun g hg=>by
  rw[hp,hd]at hg;exact .inl (aXJ (fun o ho=>List.mem_singleton.1 ho) hf1 hg)
 unfold iC;rcases bLM h bM (gJ xs)with ⟨s1,a1,a2,a3,a4,a5⟩|⟨e,s',a1,a2⟩
 ·have c1:Coh s1:=by unfold Coh;rw[a4,a3,a5,hp,hn,hd];rfl
  have sf1:Safe xs f s1:=fun g hg=>hs1 g (by rw[a5,a3]at hg;exact hg)
  rcases aU9 a2 c1 with ⟨s2,b1,b2,b3,b4,b5⟩|⟨e,s',b1,b2⟩
  ·have hJ2:J2 xs f s2.dur:=by
    rw[b3,a4,hn];exact⟨by unfold DMap.put;rw[if_pos rfl],fun n hn _=>by unfold DMap.put;rw[if_neg hn]⟩
   have:=aZV hj b2 (b4.trans b3.symm) b5 hJ2;simp only[dZ,a1,b1];rcases this with ⟨s',e1,e2,e3,e4,e5⟩|⟨e,s',e1,e2⟩
   ·exact .inl ⟨s',by rw[e1];rfl,e2,e3,e4,e5⟩
   exact .inr ⟨e,s',by rw[e1];rfl,e2⟩
  right
  exact⟨e,s',by simp only[dZ,a1,b1];rfl,sB b2 c1 sf1 fun p hq=>by cases hq⟩
 right
 exact⟨e,s',by simp only[dZ,a1];rfl,sB a2 hc hs0 fun p hq g hg=>by injection hq with hq;subst hq;exact hs1 g hg⟩
theorem bJM{s:DSt}(hj:∀x∈xs,x.1≠bM)(h:s.down=false)(hc:Coh s)(hs:Safe xs f s)(hfj:f bM=none):
  (∃s',dT (saysOf xs s.now) s=(none,s')∧s'.down=false∧s'.pend=[]∧s'.now=s'.dur∧(s'.dur=f∨s'.dur=after xs f))∨
  (∃e s',dT (saysOf xs s.now) s=(some e,s')∧Bent xs f e s'):=by
 have hJ:=hs.now hc;rcases aU9 h hc with ⟨s1,a1,a2,a3,a4,a5⟩|⟨e,s',a1,a2⟩
 ·have c1:Coh s1:=by unfold Coh;rw[a5,a3,a4];rfl
  have sf1:Safe xs f s1:=fun g hg=>by rw[a5,a3]at hg;cases hg;exact hJ
  have hrd:r6 bM s1=match s.now bM with|none=>([],some 14)|some d=>(d,none):=by
   unfold r6;rw[if_neg (by rw[a2];simp),a4] <;> cases s.now bM <;> rfl
  cases hdj:s.now bM with
  |none=>
   left
   rw[hdj]at hrd;refine⟨s1,by unfold dT;rw[a1];simp only[hrd];rfl,a2,a5,a4.trans a3.symm,?_⟩
   rw[a3];rcases hJ with h1|h1|h1
   ·left;funext n
    by_cases hnj:n=bM
    ·rw[hnj,hdj,hfj]
    exact h1.1 n hnj
   ·rw[h1.1]at hdj;cases hdj
   exact .inr h1
  |some d=>
   rw[hdj]at hrd;have e:dT (saysOf xs s.now) s=vB (saysOf xs s.now) s1:=by unfold dT;rw[a1];simp only[hrd];rfl
   rw[e];unfold saysOf
   by_cases hp:s.now bM=some (gJ xs)
   ·rw[if_pos hp];have h2:J2 xs f s1.dur:=by
     rw[a3];rcases hJ with h1|h1|h1
     ·exact⟨hp,fun n hn _=>h1.1 n hn⟩
     ·exact h1
     rw[h1,kH]at hp;cases hp
    rcases aZV hj a2 (a4.trans a3.symm) a5 h2 with ⟨s',e1,e2,e3,e4,e5⟩|h3
    ·exact .inl ⟨s',e1,e2,e3,e5.trans e4.symm,.inr e4⟩
    exact .inr h3
   rw[if_neg hp];have h1:J1 xs f s.now:=by
    rcases hJ with h1|h1|h1
    ·exact h1
    ·exact absurd h1.1 hp
    rw[h1,kH]at hdj;cases hdj
   have hcut:s.now.cut bM=f:=by
    funext n
    by_cases hnj:n=bM
    ·subst hnj;unfold DMap.cut;rw[if_pos rfl,hfj]
    unfold DMap.cut;rw[if_neg hnj];exact h1.1 n hnj
   unfold vB;rcases bAE a2 (n:=bM) (d:=d) (by rw[a4];exact hdj)with ⟨s3,d1,d2,d3,d4,d5⟩|⟨e,s',d1,d2⟩
   ·rw[a5]at d5;rw[a4]at d4;rw[a3]at d3
    have c3:Coh s3:=by unfold Coh;rw[d5,d4,d3];rfl
    have sf3:Safe xs f s3:=fun g hg=>by
     rw[d5,d3]at hg;cases hg with
     |lost h=>cases h;exact .inl h1
     |kept h=>
      cases h
      show J xs f (s.now.cut bM)
      rw[hcut];exact .inl ⟨fun _ _=>rfl,.inl hfj⟩
     |torn h1 _ _=>exact absurd h1 (by decide)
     |none _ _ h=>cases h;exact .inl h1
    rcases aU9 d2 c3 with ⟨s4,e1,e2,e3,e4,e5⟩|⟨e,s',e1,e2⟩
    ·left
     exact⟨s4,by simp only[dZ,d1,e1];rfl,e2,e5,e4.trans e3.symm,.inl (by rw[e3,d4,hcut])⟩
    right
    exact⟨e,s',by simp only[dZ,d1,e1];rfl,sB e2 c3 sf3 fun p hq=>by cases hq⟩
   right
   exact⟨e,s',by simp only[dZ,d1];rfl,sB d2 c1 sf1 fun p hq=>by cases hq⟩
 right
 exact⟨e,s',by unfold dT;rw[a1];rfl,sB a2 hc hs fun p hq=>by cases hq⟩
end
end Go.Box
end

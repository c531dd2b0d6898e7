/-
  What the proof stands on, part 62: the logic of walks, the walks through the functions, the plain laws. Conditions: as each theorem says. (Merged and shortened by a program.)
-/
import Derived.Test.YthopmddkpdehiaaGreatDoorK15
set_option linter.unusedVariables false
set_option linter.unusedSimpArgs false
set_option maxRecDepth 4000
set_option maxHeartbeats 1000000
section
namespace Go.Syn
theorem bDI{s:aJ}{ns:List aJ}{u v:List Wd}{t:Tree}{st st':St}(h0:next s 0=.ok st)(hr:GReq [] u ns)(hb:fZ ns 7 v t)(hp:Path s st (u++v) st')(he:st'.2.kind=0)(hv:∀w r,v=w::r→w≠wNm dY):
  ∃t',eD s=.ok (ns,t')∧dJ t'=t:=by
 have ha:=(oV (Nat.zero_le _) h0).2.1;obtain⟨q,h1,h2⟩:=jB.1 hp;have m1:=lS ha h1;have hk:¬(q.2.kind=1∧q.2.s=dY):=by
  cases v with
  |nil=>have:st'=q:=h2;subst this;rw[he];simp
  |cons w r=>
   obtain⟨k,x,m⟩:=w;rintro⟨a1,a2⟩;obtain⟨b1,b2,b3⟩:=rF h2.2.1;have hm:m=0:=by
    obtain⟨cs,hc,e,_⟩:=hb;cases cs with
    |nil=>cases e
    |cons p cs=>
     obtain⟨w',r',e',_,_⟩:=tB (hc p (by simp));rw[List.flatMap_cons,e']at e;simp at e;exact e.1.2.2
   exact hv _ _ rfl (by rw[hm,←b1,←b2,a1,a2])
 obtain⟨t',h3,h4⟩:=aAR 7 v t hb q st' m1.2 h2 (by rw[he];simp);refine⟨t',?_,h4⟩
 unfold eD;rw[h0];simp only[];rw[aLA hr _ st q aI ha h1 hk];unfold jL;simp only[];rw[h3];simp only[];rw[if_pos he]
theorem aFN{r:List (aJ×Tk)}{e:aJ}(hc:jJ r=true)(hg:d8 r=true)(he:∀c∈e,jQ c=true):∀c,(rend r e).head?=some c→dO c=false:=by
 intro c h;cases r with
 |nil=>
  cases e with
  |nil=>cases h
  |cons x e=>simp[rend]at h;subst h;exact tU (.inl (he x (by simp)))
 |cons x r=>
  obtain⟨b,tk⟩:=x;obtain⟨g1,g2,_⟩:=vL hg;cases b with
  |cons x b=>simp[rend]at h;subst h;exact tU (.inl (g1 x (by simp)))
  |nil=>
   cases tk with
   |sg d=>simp[rend,Tk.body]at h;subst h;exact tU (.inr g2)
   |nm w=>cases hc
   |tg w=>simp[rend,Tk.body]at h;subst h;decide
   |tx w=>simp[rend,Tk.body]at h;subst h;decide
   |nu n=>cases hc
theorem bHX{b:aJ}{tk:Tk}{r:List (aJ×Tk)}{e:aJ}(h:d8 ((b,tk)::r)=true)(he:∀c∈e,jQ c=true):tk.sep (rend r e):=by
 cases tk with
 |sg c=>trivial
 |tx w=>trivial
 |nm w=>simp only[d8,Bool.and_eq_true]at h;exact aFN h.2.2.1 h.2.2.2 he
 |tg w=>simp only[d8,Bool.and_eq_true]at h;exact aFN h.2.2.1 h.2.2.2 he
 |nu w=>simp only[d8,Bool.and_eq_true]at h;exact aFN h.2.2.1 h.2.2.2 he
theorem aN4{s e:aJ}(he:∀c∈e,jQ c=true):∀(ts:List (aJ×Tk)) (a:Nat),a≤s.length→d8 ts=true→s.drop a=rend ts e→
  ∃st st',next s a=.ok st∧Path s st (ts.map fun x=>x.2.wd) st'∧st'.2.kind=0
 | [],a,ha,_,h=>⟨_,_,aEK h he ha,rfl,rfl⟩
 |(b,tk)::r,a,ha,hg,h=>by
  obtain⟨g1,g2,g3⟩:=vL hg;obtain⟨h1,h2⟩:=bAA h g1 g2 (bHX hg he);obtain⟨w1,w2⟩:=Tk.word_wd tk (a+b.length);obtain⟨q,st',h3,h4,h5⟩:=aN4 he r (a+b.length+tk.body.length) (oV ha h1).2.1 g3 h2;exact⟨_,st',h1,⟨w2,w1,q,h3,h4⟩,h5⟩
theorem xJ{s e:aJ}{ts us:List (aJ×Tk)}{ns:List aJ}{t:Tree}(he:∀c∈e,jQ c=true)(hg:d8 (ts++us)=true)(hs:s=rend (ts++us) e)(hr:GReq [] (ts.map fun x=>x.2.wd) ns)(hb:fZ ns 7 (us.map fun x=>x.2.wd) t)
  (hv:∀w r,us.map (fun x=>x.2.wd)=w::r→w≠wNm dY):∃t',eD s=.ok (ns,t')∧dJ t'=t:=by
 obtain⟨st,st',h1,h2,h3⟩:=aN4 (s:=s) he (ts++us) 0 (Nat.zero_le _) hg (by rw[hs];rfl);rw[List.map_append]at h2;exact bDI h1 hr hb h2 h3 hv
end Go.Syn
end

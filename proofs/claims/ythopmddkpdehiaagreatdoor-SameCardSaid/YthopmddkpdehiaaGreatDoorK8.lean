/-
  What the proof stands on, part 8: the logic of walks, the walks through the functions, the plain laws. Conditions: as each theorem says. (Merged and shortened by a program.)
-/
import Derived.Test.YthopmddkpdehiaaGreatDoorK1
import Derived.Test.YthopmddkpdehiaaGreatDoorK2
import Derived.Test.YthopmddkpdehiaaGreatDoorK3
import Derived.Test.YthopmddkpdehiaaGreatDoorK4
import Derived.Test.YthopmddkpdehiaaGreatDoorK5
import Derived.Test.YthopmddkpdehiaaGreatDoorK6
import Derived.Test.YthopmddkpdehiaaGreatDoorK7
set_option linter.unusedVariables false
set_option linter.unusedSimpArgs false
set_option maxRecDepth 4000
set_option maxHeartbeats 1000000
section
namespace Go.Syn
def WOk(w:Word):Prop:=(w.kind=4→w.s=[])∧(w.kind≠4→w.n=0)∧(0≤w.n∧w.n≤2147483647)
section
variable{s:aJ}
theorem aA9{a:Nat}{r:St}(h:next s a=.ok r):WOk r.2:=by
 have hn:=aHT h
 suffices h:(r.2.kind=4→r.2.s=[])∧(r.2.kind≠4→r.2.n=0)from ⟨h.1,h.2,hn⟩
 unfold next at h;split at h
 ·cases h
 ·split at h
  ·cases h;exact⟨fun h=>rfl,fun _=>rfl⟩
  ·unfold kI at h;split at h
   ·cases h;exact⟨fun h=>by simp at h,fun _=>rfl⟩
   ·split at h
    ·split at h
     ·cases h
     ·cases h;exact⟨fun h=>by simp at h,fun _=>rfl⟩
    ·split at h
     ·split at h
      ·cases h;exact⟨fun h=>by simp at h,fun _=>rfl⟩
      ·cases h
     ·split at h
      ·cases h;exact⟨fun h=>by simp at h,fun _=>rfl⟩
      ·split at h
       ·split at h
        ·cases h
        ·cases h;exact⟨fun _=>rfl,fun h=>by simp at h⟩
       ·cases h
theorem bBX{w:Word}{k:Nat}(h:WOk w)(hk:w.kind=k)(h4:k≠4):w.wd=(k,w.s,0):=by
 have:=h.2.1 aH;unfold Word.wd;rw[hk,this]
theorem sF{st q:St}{k:Nat}(h:WOk st.2)(hk:st.2.kind=k)(h4:k≠4)(h0:k≠0)(hq:next s st.1=.ok q):Path s st [(k,st.2.s,0)] q∧WOk q.2:=⟨⟨by omega,bBX h hk h4,q,hq,rfl⟩,aA9 hq⟩
theorem wR{st:St}{k:Nat}{texts:List aJ}{r:Word×St}(hw:WOk st.2)(h4:k≠4)(h0:k≠0)(h:take s st k texts=.ok r):Path s st [(k,r.1.s,0)] r.2∧WOk r.2.2∧(texts=[]∨r.1.s∈texts):=by
 obtain⟨e1,e2⟩:=sU h;unfold take at h;split at h
 ·cases h
 ·rename_i hn;have hk:st.2.kind=k:=Classical.byContradiction fun h=>hn (.inl h)
  have ht:texts=[]∨st.2.s∈texts:=by
   by_cases h1:texts=[]
   ·exact .inl h1
   ·exact .inr (Classical.byContradiction fun h=>hn (.inr ⟨h1,h⟩))
  obtain⟨p1,p2⟩:=sF hw hk h4 h0 e2;rw[e1];exact⟨p1,p2,ht⟩
theorem aPV{st:St}{r:Word×St}(hw:WOk st.2)(h:take s st 4 []=.ok r):Path s st [wNu r.1.n] r.2∧WOk r.2.2∧0≤r.1.n∧r.1.n≤2147483647:=by
 obtain⟨e1,e2⟩:=sU h;unfold take at h;split at h
 ·cases h
 ·rename_i hn;have hk:st.2.kind=4:=Classical.byContradiction fun h=>hn (.inl h)
  rw[e1];refine⟨⟨by omega,?_,r.2,e2,rfl⟩,aA9 e2,hw.2.2⟩
  unfold Word.wd;rw[hk,hw.1 hk]
theorem kW{st q:St}{c:UInt8}(hw:WOk st.2)(h:sign s st [c]=.ok q):Path s st [wSg c] q∧WOk q.2:=by
 unfold sign at h;split at h
 ·cases h
 ·rename_i r hr;cases h
  obtain⟨p1,p2,p3⟩:=wR hw (by decide) (by decide) hr;rcases p3 with h|h
  ·cases h
  ·simp at h;rw[h]at p1;exact⟨p1,p2⟩
theorem vN{st:St}{c:UInt8}{r:Bool×St}(hw:WOk st.2)(h:eat s st [c]=.ok r):(r.1=true∧Path s st [wSg c] r.2∧WOk r.2.2)∨(r.1=false∧r.2=st):=by
 unfold eat at h;split at h
 ·rename_i hk;split at h
  ·cases h
  ·rename_i q hq;cases h
   obtain⟨p1,p2⟩:=sF hw hk.1 (by decide) (by decide) hq;rw[hk.2]at p1;exact .inl ⟨rfl,p1,p2⟩
 ·cases h;exact .inr ⟨rfl,rfl⟩
theorem nI{st:St}{ff:aJ→Int}{r:aJ×St}(hw:WOk st.2)(h:text s st ff=.ok r):Path s st [wTx r.1] r.2∧WOk r.2.2∧ff r.1=0:=by
 unfold text at h;split at h
 ·cases h
 ·rename_i hn;split at h
  ·cases h
  ·rename_i x hx;cases h
   obtain⟨p1,p2,_⟩:=wR hw (by decide) (by decide) hx;obtain⟨e1,_⟩:=sU hx;refine⟨p1,p2,?_⟩
   have hk:st.2.kind=3:=(dO p1).1;simp only[];rw[e1];exact Classical.byContradiction fun h=>hn ⟨hk,h⟩
theorem cZ{st q r:St}{u v:List Wd}(h1:Path s st u q)(h2:Path s q v r):Path s st (u++v) r:=jZ.2 ⟨q,h1,h2⟩
theorem aNV{ff:aJ→Int}:∀ {f:Nat} {st:St} {acc:List aJ} {r:List aJ×St},WOk st.2→lZ s ff f st acc=.ok r→
  ∃ws,r.1=acc++ws∧(∀x∈ws,ff x=0)∧Path s st (ws.flatMap (fun x=>[wSg 44,wTx x])++[wSg 93]) r.2∧WOk r.2.2:=by
 intro f;induction f with
 |zero=>intro st acc r _ h;cases h
 |succ f ih=>
  intro st acc r hw h;simp only[lZ]at h;split at h
  ·cases h
  ·rename_i q hq;split at h
   ·rename_i ht;split at h
    ·cases h
    ·rename_i x hx;rcases vN hw hq with ⟨_,p1,p2⟩|⟨e,_⟩
     ·obtain⟨p3,p4,p5⟩:=nI p2 hx;obtain⟨ws,e1,e2,e3,e4⟩:=ih p4 h;refine⟨x.1::ws,by rw[e1];simp,fun y hy=>?_,?_,e4⟩
      ·rcases List.mem_cons.1 hy with rfl|hy
       ·exact p5
       ·exact e2 y hy
      ·have:=cZ p1 (cZ p3 e3)
       simpa using this
     ·rw[e]at ht;cases ht
   ·rename_i ht;split at h
    ·cases h
    ·rename_i y hy;cases h
     rcases vN hw hq with ⟨e,_⟩|⟨_,e⟩
     ·exact absurd e ht
     ·rw[e]at hy;obtain⟨p1,p2⟩:=kW hw hy;exact⟨[],by simp,by simp,p1,p2⟩
theorem wB{ff:aJ→Int}{st:St}{r:List aJ×St}(hw:WOk st.2)(h:list s st ff=.ok r):∃u,GList u r.1∧(∀x∈r.1,ff x=0)∧Path s st u r.2∧WOk r.2.2:=by
 unfold list at h;split at h
 ·cases h
 ·rename_i q hq;split at h
  ·cases h
  ·rename_i x hx;rcases vN hw hq with ⟨e,p1,p2⟩|⟨e,e2⟩
   ·obtain⟨p3,p4,p5⟩:=nI p2 hx;rw[if_pos e]at h;obtain⟨ws,e1,e2,e3,e4⟩:=aNV p4 h;refine⟨_,?_,?_,cZ p1 (cZ p3 e3),e4⟩
    ·rw[e1];exact GList.many x.1 ws
    ·intro y hy;rw[e1]at hy;rcases List.mem_append.1 hy with hy|hy
     ·simp at hy;rw[hy];exact p5
     ·exact e2 y hy
   ·rw[e2]at hx;obtain⟨p3,p4,p5⟩:=nI hw hx;rw[if_neg (by rw[e];simp)]at h;cases h
    exact⟨_,GList.one x.1,by simpa using p5,p3,p4⟩
theorem aPS:∀ {f:Nat} {h:How} {st:St} {r:How×St},WOk st.2→eG s f h st=.ok r→∃u,GTags h u r.1∧Path s st u r.2∧WOk r.2.2:=by
 intro f;induction f with
 |zero=>intro h st r _ e;cases e
 |succ f ih=>
  intro h st r hw e;simp only[eG]at e;split at e
  ·rename_i hk;split at e
   ·cases e
   rename_i hne;split at e
   ·cases e
   rename_i hnc;have hlt:=n5 dE st.2.s;have hl4:(dE.length:Int)=4:=rfl;split at e
   ·rename_i h3;split at e
    ·cases e
    rename_i q hq;obtain⟨p1,p2⟩:=sF hw hk (by decide) (by decide) hq;obtain⟨u,g,p3,p4⟩:=ih p2 e;obtain⟨i,hi⟩:∃i:Nat,cQ dE st.2.s=i:=⟨(cQ dE st.2.s).toNat,by omega⟩;rw[hi]at g;exact⟨_,GTags.tag h r.1 st.2.s i u (Classical.byContradiction fun hh=>hnc (.inr ⟨h3,hh⟩)) aH hi g,cZ p1 p3,p4⟩
   ·rename_i h3;split at e
    ·cases e
    rename_i q hq;split at e
    ·cases e
    rename_i x hx;obtain⟨p1,p2⟩:=sF hw hk (by decide) (by decide) hq;obtain⟨p3,p4,p5⟩:=nI p2 hx;obtain⟨u,g,p6,p7⟩:=ih p4 e;have hs3:cQ dE st.2.s=3:=by omega
    have hw3:st.2.s=iJ:=by
     unfold cQ at hs3;cases hf:dE.findIdx? (fun y=>decide (st.2.s=y))with
     |none=>rw[hf]at hs3;simp at hs3
     |some i=>
      rw[hf]at hs3;have hi:i=3:=by simp only[]at hs3;omega
      subst hi;rw[List.findIdx?_eq_some_iff_getElem]at hf;obtain⟨_,h1,_⟩:=hf
      simpa[dE]using of_decide_eq_true h1
    rw[hw3]at p1;have hx5:x.1∈[eB,fJ]:=by
     unfold oneOf at p5;split at p5
     ·assumption
     ·cases p5
    exact⟨_,GTags.cmp h r.1 x.1 u (by cases hc:h.cmp with|false=>rfl|true=>exact absurd (.inl ⟨hs3,hc⟩) hnc) hx5 g,cZ p1 (cZ p3 p6),p7⟩
  ·cases e;exact⟨[],GTags.nil h,rfl,hw⟩
end
section
variable{s:aJ}{needs:List aJ}
def Snd(s:aJ)(P:List Wd→Tree→Prop)(T:St→Res (Tree×St)):Prop:=∀st r,WOk st.2→T st=.ok r→∃u,P u r.1∧Path s st u r.2∧WOk r.2.2
theorem uS{n:Nat}{word:aJ}{op:Int}{ext:aJ}(hm:(word,op,ext)∈[(oY,(6:Int),([]:aJ)),(e8,7,e8),(o0,8,dN)]){st:St}{r:Tree×St}(hw:WOk st.2)(hk:st.2.kind=1)(hs:st.2.s=word)(e:jC s needs op ext st=.ok r):
  ∃u,GTest needs (n+1) u r.1∧Path s st u r.2∧WOk r.2.2:=by
 unfold jC at e;split at e
 ·cases e
 rename_i hx;split at e
 ·cases e
 rename_i q hq;obtain⟨p1,p2⟩:=sF hw hk (by decide) (by decide) hq;unfold l4 at e;split at e
 ·cases e
 rename_i h hh;obtain⟨u,g,p3,p4⟩:=aPS p2 hh;split at e
 ·cases e
 rename_i a ha;obtain⟨v,ga,fa,p5,p6⟩:=wB p4 ha;split at e
 ·cases e
 rename_i b hb;obtain⟨w,gb,_,p7,p8⟩:=wB p6 hb;cases e
 rw[hs]at p1;exact⟨_,GTest.mat n word op ext u v w h.1 a.1 b.1 hm (fun he=>Classical.byContradiction fun hn=>hx ⟨he,hn⟩) g ga fa gb,cZ p1 (cZ p3 (cZ p5 p7)),p8⟩
theorem aOD{n:Nat}{T:St→Res (Tree×St)}(hT:Snd s (GTest needs n) T):∀ {f:Nat} {acc:Tree} {st:St} {r:Tree×St},WOk st.2→nA s T f acc st=.ok r→
  ∃us:List (List Wd×Tree),(∀p,p∈us→GTest needs n p.1 p.2)∧r.1=us.foldl (fun l p=>l.snocT p.2) acc∧Path s st (us.flatMap (fun p=>wSg 44::p.1)++[wSg 41]) r.2∧WOk r.2.2:=by
 intro f;induction f with
 |zero=>intro acc st r _ e;cases e
 |succ f ih=>
  intro acc st r hw e;simp only[nA]at e;split at e
  ·cases e
  rename_i q hq;split at e
  ·rename_i ht;split at e
   ·cases e
   rename_i t hht;rcases vN hw hq with ⟨_,p1,p2⟩|⟨e0,_⟩
   ·obtain⟨u,g,p3,p4⟩:=hT _ _ p2 hht;obtain⟨us,g2,e1,p5,p6⟩:=ih p4 e;refine⟨(u,t.1)::us,fun p hp=>?_,e1,?_,p6⟩
    ·rcases List.mem_cons.1 hp with rfl|hp
     ·exact g
     ·exact g2 p hp
    ·have:=cZ p1 (cZ p3 p5)
     simpa using this
   ·rw[e0]at ht;cases ht
  ·rename_i ht;split at e
   ·cases e
   rename_i y hy;cases e
   rcases vN hw hq with ⟨e0,_⟩|⟨_,e0⟩
   ·exact absurd e0 ht
   ·rw[e0]at hy;obtain⟨p1,p2⟩:=kW hw hy;exact⟨[],by simp,rfl,p1,p2⟩
theorem aI0:∀n,Snd s (GTest needs n) (test s needs n)
 |0=>by intro st r _ e;simp only[test]at e;split at e <;> cases e
 |n+1=>by
  intro st r hw e;have hT:=aI0 n;simp only[test]at e;split at e
  ·rename_i hk;split at e
   ·rename_i x hx;subst e;have base:∀ {q:St},next s st.1=.ok q→∀ {w:aJ},st.2.s=w→Path s st [wNm w] q∧WOk q.2:=fun hq w hs=>by
     have:=sF hw hk (by decide) (by decide) hq;rw[hs]at this;exact this
    have hconst:∀ {b:Bool},st.2.s=(if b=true then nO else lD)→kJ s b st=.ok r→∃u,GTest needs (n+1) u r.1∧Path s st u r.2∧WOk r.2.2:=by
     intro b hs e;unfold kJ at e;split at e
     ·cases e
     rename_i q hq;cases e
     obtain⟨p1,p2⟩:=base hq hs;cases b
     ·exact⟨_,GTest.fls n,p1,p2⟩
     ·exact⟨_,GTest.tru n,p1,p2⟩
    have hmany:∀ {all:Bool},st.2.s=(if all=true then nW else nX)→mC s (test s needs n) all st=.ok r→∃u,GTest needs (n+1) u r.1∧Path s st u r.2∧WOk r.2.2:=by
     intro all hs e;unfold mC at e;split at e
     ·cases e
     rename_i q hq;split at e
     ·cases e
     rename_i y hy;split at e
     ·cases e
     rename_i t ht;unfold tE at e;split at e
     ·cases e
     rename_i l hl;cases e
     obtain⟨p1,p2⟩:=base hq hs;obtain⟨p3,p4⟩:=kW p2 hy;obtain⟨u,g,p5,p6⟩:=hT _ _ p4 ht;obtain⟨us,g2,e1,p7,p8⟩:=aOD hT p6 hl;refine⟨_,?_,cZ p1 (cZ p3 (cZ p5 p7)),p8⟩
     simp only[];rw[e1];exact GTest.many n all u t.1 us g g2
    unfold mE at hx;simp only[]at hx;split at hx
    ·rename_i hs;exact hconst (b:=true) hs gCO
    split at hx
    ·rename_i hs;exact hconst (b:=false) hs gCO
    split at hx
    ·rename_i hs;have e:notC s (test s needs n) st=.ok r:=by simpa using hx
     unfold notC at e;split at e
     ·cases e
     rename_i q hq;split at e
     ·cases e
     rename_i t ht;cases e
     obtain⟨p1,p2⟩:=base hq hs;obtain⟨u,g,p3,p4⟩:=hT _ _ p2 ht;exact⟨_,GTest.not_ n u t.1 g,cZ p1 p3,p4⟩
    split at hx
    ·rename_i hs;exact hmany (all:=true) hs gCO
    split at hx
    ·rename_i hs;exact hmany (all:=false) hs gCO
    split at hx
    ·rename_i hs;exact uS (word:=oY) (op:=6) (ext:=[]) (by simp) hw hk hs gCO
    split at hx
    ·rename_i hs;exact uS (word:=e8) (op:=7) (ext:=e8) (by simp) hw hk hs gCO
    split at hx
    ·rename_i hs;exact uS (word:=o0) (op:=8) (ext:=dN) (by simp) hw hk hs gCO
    split at hx
    ·rename_i hs;have e:lA s st=.ok r:=by simpa using hx
     unfold lA at e;split at e
     ·cases e
     rename_i q hq;split at e
     ·cases e
     rename_i a ha;cases e
     obtain⟨p1,p2⟩:=base hq hs;obtain⟨v,ga,_,p3,p4⟩:=wB p2 ha;exact⟨_,GTest.exi n v a.1 ga,cZ p1 p3,p4⟩
    split at hx
    ·rename_i hs;have e:oT s st=.ok r:=by simpa using hx
     unfold oT at e;split at e
     ·cases e
     rename_i q hq;split at e
     ·cases e
     rename_i y hy;split at e
     ·cases e
     rename_i z hz;cases e
     obtain⟨p1,p2⟩:=base hq hs;obtain⟨p3,p4,p5⟩:=wR p2 (by decide) (by decide) hy;obtain⟨p6,p7,p8⟩:=aPV p4 hz;rcases p5 with h|h
     ·cases h
     ·exact⟨_,GTest.siz n y.1.s z.1.n h p8,cZ p1 (cZ p3 p6),p7⟩
    ·cases hx
   ·cases e
  ·cases e
def SndB(s:aJ)(P:List Wd→Tree→Prop)(T:St→Res (Tree×St)):Prop:=∀st r,WOk st.2→T st=.ok r→∃u,P u (dB r.1)∧Path s st u r.2∧WOk r.2.2
theorem w5{P:List Wd→Tree→Prop}{B:St→Res (Tree×St)}(hB:SndB s P B){st:St}{r:Tree×St}(hw:WOk st.2)(e:lS s B st=.ok r):∃u,P u (dB r.1)∧Path s st (wSg 123::(u++[wSg 125])) r.2∧WOk r.2.2:=by
 unfold lS at e;split at e
 ·cases e
 rename_i q hq;split at e
 ·cases e
 rename_i b hb;split at e
 ·cases e
 rename_i y hy;cases e
 obtain⟨p1,p2⟩:=kW hw hq;obtain⟨u,g,p3,p4⟩:=hB _ _ p2 hb;obtain⟨p5,p6⟩:=kW p4 hy;exact⟨u,g,cZ p1 (cZ p3 p5),p6⟩
theorem aJ1{n:Nat}{P:List Wd→Tree→Prop}{T B:St→Res (Tree×St)}(hT:Snd s (GTest needs n) T)(hB:SndB s P B):∀ {f:Nat} {acc:Tree} {st:St} {r:Tree×St},WOk st.2→eM s T B f acc st=.ok r→
  ∃(brs:List Br) (els:Option (List Wd×Tree)),(∀p,p∈brs→GTest needs n p.ut p.t∧P p.ub p.b)∧(∀p,els=some p→P p.1 p.2)∧dB r.1=endB (brs.foldl (fun l p=>l.snocB (some p.t) p.b) (dB acc)) els∧Path s st (brs.flatMap Br.words++lL els) r.2∧WOk r.2.2:=by
 intro f;induction f with
 |zero=>intro acc st r _ e;cases e
 |succ f ih=>
  intro acc st r hw e;simp only[eM]at e;split at e
  ·rename_i hk;split at e
   ·cases e
   rename_i q hq;split at e
   ·cases e
   rename_i t ht;split at e
   ·cases e
   rename_i b hb;obtain⟨p1,p2⟩:=sF hw hk.1 (by decide) (by decide) hq;rw[hk.2]at p1;obtain⟨ut,gt,p3,p4⟩:=hT _ _ p2 ht;obtain⟨ub,gb,p5,p6⟩:=w5 hB p4 hb;obtain⟨brs,els,g1,g2,e1,p7,p8⟩:=ih p6 e;refine⟨⟨ut,t.1,ub,dB b.1⟩::brs,els,fun p hp=>?_,g2,?_,?_,p8⟩
   ·rcases List.mem_cons.1 hp with rfl|hp
    ·exact⟨gt,gb⟩
    ·exact g1 p hp
   ·rw[e1,pF];rfl
   ·have:=cZ p1 (cZ p3 (cZ p5 p7))
    simpa[Br.words]using this
  ·unfold iA at e;split at e
   ·rename_i hk;split at e
    ·cases e
    rename_i q hq;split at e
    ·cases e
    rename_i b hb;cases e
    obtain⟨p1,p2⟩:=sF hw hk.1 (by decide) (by decide) hq;rw[hk.2]at p1;obtain⟨ub,gb,p5,p6⟩:=w5 hB p2 hb;exact⟨[],some (ub,dB b.1),by simp,fun p hp=>by cases hp;exact gb,by simp only[dB,pF,List.foldl_nil,endB],(by simpa[lL]using cZ p1 p5),p6⟩
   ·cases e
    exact⟨[],none,(by simp),(fun p (hp:none=some p)=>by cases hp),rfl,rfl,hw⟩
theorem aQP{n:Nat}{P:List Wd→Tree→Prop}{T B:St→Res (Tree×St)}(hT:Snd s (GTest needs n) T)(hB:SndB s P B){st:St}{r:Tree×St}(hw:WOk st.2)(hk:st.2.kind=1)(e:cmdD s needs T B st=some (.ok r)):∃u,GCmd needs n P u (dB r.1)∧Path s st u r.2∧WOk r.2.2:=by
 have base:∀ {q:St},next s st.1=.ok q→∀ {w:aJ},st.2.s=w→Path s st [wNm w] q∧WOk q.2:=fun hq w hs=>by
  have:=sF hw hk (by decide) (by decide) hq;rw[hs]at this;exact this
 have simple:∀ {w:aJ} {c:Tree},st.2.s=w→((w=pQ∧dB c=.act 1 [] 0)∨(w=gM∧dB c=.plain 13)∨(w=mV∧dB c=.plain 14))→iG s c st=.ok r→∃u,GCmd needs n P u (dB r.1)∧Path s st u r.2∧WOk r.2.2:=by
  intro w c hs hc e;unfold iG at e;split at e
  ·cases e
  rename_i q hq;split at e
  ·cases e
  rename_i y hy;cases e
  obtain⟨p1,p2⟩:=base hq hs;obtain⟨p3,p4⟩:=kW p2 hy;exact⟨_,GCmd.simple w _ hc,cZ p1 p3,p4⟩
 have acting:∀ {w:aJ} {k:Int} {x:aJ} {p:Int},st.2.s=w→((w=e9∧k=2∧x=e9)∨(w=kB∧k=3∧x=[])∨(w=gS∧k=4∧x=gS))→actC s needs k x p st=.ok r→∃u,GCmd needs n P u (dB r.1)∧Path s st u r.2∧WOk r.2.2:=by
  intro w k x p hs hc e;unfold actC at e;split at e
  ·cases e
  rename_i hx;split at e
  ·cases e
  rename_i q hq;split at e
  ·cases e
  rename_i y hy;split at e
  ·cases e
  rename_i z hz;cases e
  obtain⟨p1,p2⟩:=base hq hs;obtain⟨p3,p4,_⟩:=wR p2 (by decide) (by decide) hy;obtain⟨p5,p6⟩:=kW p4 hz;exact⟨_,GCmd.act w k x y.1.s hc (fun he=>Classical.byContradiction fun hn=>hx ⟨he,hn⟩),cZ p1 (cZ p3 p5),p6⟩
 unfold cmdD at e;simp only[]at e;split at e
 ·rename_i hs;exact simple hs (.inl ⟨rfl,rfl⟩) gBS
 split at e
 ·rename_i hs;exact simple hs (.inr (.inl ⟨rfl,rfl⟩)) gBS
 split at e
 ·rename_i hs;exact simple hs (.inr (.inr ⟨rfl,rfl⟩)) gBS
 split at e
 ·rename_i hs;exact acting hs (.inl ⟨rfl,rfl,rfl⟩) gBS
 split at e
 ·rename_i hs;exact acting hs (.inr (.inl ⟨rfl,rfl,rfl⟩)) gBS
 split at e
 ·rename_i hs;exact acting hs (.inr (.inr ⟨rfl,rfl,rfl⟩)) gBS
 split at e
 ·rename_i hs;have e:qB s needs st=.ok r:=by simpa using e
  unfold qB at e;split at e
  ·cases e
  rename_i c hc;cases e
  unfold setC at hc;split at hc
  ·rename_i hv;split at hc
   ·cases hc
   rename_i q hq;obtain⟨p1,p2⟩:=base hq hs;split at hc
   ·cases hc
   rename_i t ht;unfold lC at hc;split at hc
   ·cases hc
   rename_i nm hnm;split at hc
   ·cases hc
   rename_i vl hvl;split at hc
   ·cases hc
   rename_i y hy;cases hc
   have hn1:∀ {x:aJ},(if named x=true then (0:Int)else 7)=0→named x=true:=by
    intro x h;split at h
    ·assumption
    ·cases h
   unfold jD at ht;split at ht
   ·rename_i hk2;split at ht
    ·cases ht
    rename_i hne;split at ht
    ·cases ht
    rename_i q2 hq2;cases ht
    obtain⟨p3,p4⟩:=sF p2 hk2 (by decide) (by decide) hq2;obtain⟨p5,p6,p7⟩:=nI p4 hnm;obtain⟨p8,p9,_⟩:=nI p6 hvl;obtain⟨p10,p11⟩:=kW p9 hy;have hlt:=n5 [iS,iT,gH] q.2.s;simp only[List.length_cons,List.length_nil]at hlt;obtain⟨i,hi⟩:∃i:Nat,cQ [iS,iT,gH] q.2.s=i:=⟨(cQ [iS,iT,gH] q.2.s).toNat,by omega⟩;refine⟨_,?_,cZ p1 (cZ p3 (cZ p5 (cZ p8 p10))),p11⟩
    simp only[dB];rw[hi];exact GCmd.set1 q.2.s nm.1 vl.1 i hv (hn1 p7) aH hi
   ·cases ht
    obtain⟨p5,p6,p7⟩:=nI p2 hnm;obtain⟨p8,p9,_⟩:=nI p6 hvl;obtain⟨p10,p11⟩:=kW p9 hy;exact⟨_,GCmd.set0 nm.1 vl.1 hv (hn1 p7),cZ p1 (cZ p5 (cZ p8 p10)),p11⟩
  ·cases hc
 split at e
 ·rename_i hs;have e:ifC s T B st=.ok r:=by simpa using e
  unfold ifC at e;split at e
  ·cases e
  rename_i q hq;split at e
  ·cases e
  rename_i t ht;split at e
  ·cases e
  rename_i b hb;obtain⟨p1,p2⟩:=base hq hs;obtain⟨ut,gt,p3,p4⟩:=hT _ _ p2 ht;obtain⟨ub,gb,p5,p6⟩:=w5 hB p4 hb;obtain⟨brs,els,g1,g2,e1,p7,p8⟩:=aJ1 hT hB p6 e;refine⟨_,by rw[e1];exact GCmd.iff ut t.1 ub (dB b.1) brs els gt gb g1 g2,?_,p8⟩
  have:=cZ p1 (cZ p3 (cZ p5 p7))
  simpa using this
 ·cases e
theorem aJP{n:Nat}{P:List Wd→Tree→Prop}{C:St→Option (Res (Tree×St))}(hC:∀ {st r},WOk st.2→st.2.kind=1→C st=some (.ok r)→∃u,GCmd needs n P u (dB r.1)∧Path s st u r.2∧WOk r.2.2):
  ∀ {f:Nat} {acc:Tree} {st:St} {r:Tree×St},WOk st.2→gW s C f acc st=.ok r→∃cs:List (List Wd×Tree),(∀p,p∈cs→GCmd needs n P p.1 p.2)∧dB r.1=cs.foldl (fun l p=>l.snocC p.2) (dB acc)∧Path s st (cs.flatMap (·.1)) r.2∧WOk r.2.2:=by
 intro f;induction f with
 |zero=>intro acc st r _ e;cases e
 |succ f ih=>
  intro acc st r hw e;simp only[gW]at e;split at e
  ·rename_i hk;split at e
   ·cases e
   ·cases e
   rename_i c hc;obtain⟨u,g,p1,p2⟩:=hC hw hk hc;obtain⟨cs,g2,e1,p3,p4⟩:=ih p2 e;refine⟨(u,dB c.1)::cs,fun p hp=>?_,?_,?_,p4⟩
   ·rcases List.mem_cons.1 hp with rfl|hp
    ·exact g
    ·exact g2 p hp
   ·rw[e1,yX];rfl
   ·rw[List.flatMap_cons];exact cZ p1 p3
  ·cases e;exact⟨[],by simp,rfl,rfl,hw⟩
theorem aCL:∀n,SndB s (n9 needs n) (block s needs n)
 |0=>by intro st r hw e;simp only[block]at e;split at e <;> cases e;exact⟨[],⟨rfl,rfl⟩,rfl,hw⟩
 |n+1=>by
  intro st r hw e;simp only[block]at e;obtain⟨cs,g,e1,p1,p2⟩:=aJP (needs:=needs) (n:=n) (P:=n9 needs n) (fun h1 h2 h3=>aQP (aI0 n) (aCL n) h1 h2 h3) hw e;exact⟨_,⟨cs,g,rfl,e1⟩,p1,p2⟩
theorem aTB:∀ {f:Nat} {ns:List aJ} {st:St} {r:List aJ×St},WOk st.2→reqF s f ns st=.ok r→∃u,GReq ns u r.1∧Path s st u r.2∧WOk r.2.2:=by
 intro f;induction f with
 |zero=>intro ns st r _ e;cases e
 |succ f ih=>
  intro ns st r hw e;simp only[reqF]at e;split at e
  ·rename_i hk;split at e
   ·cases e
   rename_i q hq;split at e
   ·cases e
   rename_i l hl;split at e
   ·cases e
   rename_i y hy;obtain⟨p1,p2⟩:=sF hw hk.1 (by decide) (by decide) hq;rw[hk.2]at p1;obtain⟨u,g,gf,p3,p4⟩:=wB p2 hl;obtain⟨p5,p6⟩:=kW p4 hy;obtain⟨v,g2,p7,p8⟩:=ih p6 e;refine⟨_,GReq.cons ns r.1 u v l.1 g (fun x hx=>?_) g2,cZ p1 (cZ p3 (cZ p5 p7)),p8⟩
   have:=gf x hx;unfold oneOf at this;split at this
   ·assumption
   ·cases this
  ·cases e;exact⟨[],GReq.nil ns,rfl,hw⟩
theorem aDD{r:List aJ×Tree}(h:eE s=.ok r):∃st st' u v,next s 0=.ok st∧GReq [] u r.1∧n9 r.1 7 v (dB r.2)∧Path s st (u++v) st'∧st'.2.kind=0:=by
 unfold eE at h;split at h
 ·cases h
 rename_i q hq;unfold f9 at h;split at h
 ·cases h
 rename_i n hn;split at h
 ·cases h
 rename_i b hb;split at h
 ·rename_i hk;cases h
  obtain⟨u,g,p1,p2⟩:=aTB (aA9 hq) hn;obtain⟨v,g2,p3,p4⟩:=aCL 7 _ _ p2 hb;exact⟨q,_,u,v,hq,g,g2,cZ p1 p3,hk⟩
 ·cases h
end
end Go.Syn
end
section
namespace Go.Syn
theorem j4:∀(x y:List (aJ×Tk)) (e:aJ),rend (x++y) e=rend x (rend y e)
 | [],y,e=>rfl
 |a::x,y,e=>by simp only[List.cons_append,rend,j4 x y e]
theorem tC(w:aJ):w.flatMap j1=esc w:=by
 unfold esc
 congr 1
 funext c
 unfold j1
 by_cases h1:c=92
 ·rw[h1];rfl
 ·by_cases h2:c=34
  ·rw[h2];rfl
  ·rw[if_neg h1,if_neg h2,if_neg];rintro(h|h)
   ·exact h2 (UInt8.toNat_inj.1 h)
   ·exact h1 (UInt8.toNat_inj.1 h)
theorem rB(w e:aJ):(Tk.tx w).body++e=fD w++e:=by
 simp[Tk.body,fD,tC]
theorem aMA(c:UInt8):(Tk.sg c).body=[c]:=rfl
theorem tA(c:UInt8)(b:aJ)(t:Tk)(r:List (aJ×Tk)):f7 ((c::b,t)::r)=true:=rfl
def aBI(l:List aJ):List (aJ×Tk):=l.flatMap fun z=>[([],.sg 44),([32],.tx z)]
def kV(b:aJ):List aJ→List (aJ×Tk)
 | []=>[(b,.sg 91),([],.sg 93)]
 | [x]=>[(b,.tx x)]
 |x::y::r=>(b,.sg 91)::([],.tx x)::(aBI (y::r)++[([],.sg 93)])
theorem aDH(e:aJ):∀(x:aJ) (l:List aJ),fD x++rend (aBI l) e=rL [44,32] ((x::l).map fD)++e
 |x,[]=>rfl
 |x,y::l=>by
  have ih:=aDH e y l;simp only[List.map_cons,rL]at ih ⊢;rw[List.append_assoc,List.append_assoc,←ih];simp[aBI,rend,rB,Tk.body,fD,tC]
theorem uP(b e:aJ)(l:List aJ):rend (kV b l) e=b++(lY l++e):=by
 match l with
 | []=>simp[kV,rend,lY,Tk.body,rL]
 | [x]=>simp only[kV,rend,lY,rB]
 |x::y::r=>
  have:=aDH ([93]++e) x (y::r);simp only[kV,rend,j4,lY,rB,aMA,List.nil_append,List.append_assoc,List.singleton_append,List.cons_append]at this ⊢;rw[this]
theorem aBJ:∀(l:List aJ) {r:List (aJ×Tk)},dR r=true→dR (aBI l++r)=true
 | [],r,h=>h
 |x::l,r,h=>by
  have:=aBJ l h;simp only[aBI,List.flatMap_cons,List.append_assoc,List.cons_append,List.nil_append,dR]at this ⊢;rw[this];decide
theorem qZ{b:aJ}(l:List aJ){r:List (aJ×Tk)}(hb:b.all gN=true)(h:dR r=true):dR (kV b l++r)=true:=by
 match l with
 | []=>simp only[kV,List.cons_append,List.nil_append,dR,hb,h];decide
 | [x]=>simp only[kV,List.cons_append,List.nil_append,dR,hb,h];decide
 |x::y::l=>
  have:=aBJ (y::l) (r:=([],.sg 93)::r) (by simp only[dR,h];decide);simp only[kV,List.cons_append,List.nil_append,List.append_assoc,dR,hb,this];decide
theorem wA{u:List Wd}{l:List aJ}(h:GList u l)(b:aJ):GList ((kV b l).map fun x=>x.2.wd) l:=by
 cases h with
 |one w=>exact GList.one w
 |many w ws=>
  cases ws with
  |nil=>exact GList.one w
  |cons y r=>
   have e:∀l:List aJ,(aBI l).map (fun x=>x.2.wd)=l.flatMap (fun x=>[wSg 44,wTx x]):=by
    intro l;induction l with
    |nil=>rfl
    |cons x l ih=>simp only[aBI,List.flatMap_cons,List.map_append]at ih ⊢;rw[ih];rfl
   have:=GList.many w (y::r);rw[←e]at this
   simpa[kV,Tk.wd]using this
def ws:Tree→Nat→Bool→aJ→List (aJ×Tk)
 | .const t,_,_,b=>[(b,.nm (if t=true then nO else lD))]
 | .not_ t,d,_,b=>(b,.nm aD8)::ws t d true [32]
 | .many all l,d,_,b=>(b,.nm (if all=true then nW else nX))::([32],.sg 40)::(ws l d true []++[([],.sg 41)])
 | .mat tag oct op x y,_,_,b=>(b,.nm (nL op))::((if oct=true then [([32],.tg iJ),([32],.tx eB)]else [])++((if tag=2 then [([32],.tg kA)]else if tag=3 then [([32],.tg lR)]else [])++(kV [32] x++kV [32] y)))
 | .exi x,_,_,b=>(b,.nm qK)::kV [32] x
 | .siz tag n,_,_,b=>[(b,.nm rH),([32],.tg (if tag=2 then jE else oZ)),([32],.nu n.toNat)]
 | .tnil,_,_,_=>[]
 | .tcons t l,d,f,b=>(if f=true then ws t d true b else ([],.sg 44)::ws t d true [32])++ws l d false []
 | .plain op,_,_,b=>[(b,.nm (if op=14 then mV else gM)),([],.sg 59)]
 | .act k a _,_,_,b=>if k=1 then [(b,.nm pQ),([],.sg 59)]else [(b,.nm (if k=2 then e9 else if k=3 then kB else gS)),([32],.tx a),([],.sg 59)]
 | .set_ n v tag,_,_,b=>(b,.nm y6)::((if tag=1 then [([32],.tg iS)]else if tag=2 then [([32],.tg iT)]else if tag=3 then [([32],.tg gH)]else [])++[([32],.tx n),([32],.tx v),([],.sg 59)])
 | .iff bs,d,_,b=>ws bs d true b
 | .cnil,_,_,_=>[]
 | .ccons c l,d,_,b=>ws c d true (b++indC d)++ws l d true [10]
 | .bnil,_,_,_=>[]
 | .bcons t k l,d,f,b=>(if f=true then (b,.nm txIf)else ([32],.nm mB))::(ws t d true [32]++(([32],.sg 123)::(ws k (d+1) true [10]++((10::indC d,.sg 125)::ws l d false []))))
 | .belse k l,d,_,b=>([32],.nm mA)::([32],.sg 123)::(ws k (d+1) true [10]++((10::indC d,.sg 125)::ws l d false []))
theorem bBZ:∀(t:Tree) (d:Nat) (f:Bool) (b b':aJ),(ws t d f b).map (fun x=>x.2.wd)=(ws t d f b').map fun x=>x.2.wd:=by
 intro t;induction t with
 |iff bs ih=>intro d f b b';exact ih d true b b'
 |tcons t l ih1 ih2=>
  intro d f b b';cases f
  ·rfl
  ·simp only[ws,if_true,List.map_append];rw[ih1 d true b b']
 |ccons c l ih1 ih2=>intro d f b b';simp only[ws,List.map_append];rw[ih1 d true (b++indC d) (b'++indC d)]
 |bcons t k l _ _ _=>intro d f b b';cases f <;> rfl
 |act k a p=>
  intro d f b b';simp only[ws];split <;> rfl
 |exi x=>intro d f b b';simp only[ws,List.map_cons]
 |set_ n v tag=>intro d f b b';simp only[ws,List.map_cons]
 |mat tag oct op x y=>intro d f b b';simp only[ws,List.map_cons]
 |_=>intro d f b b';rfl
theorem oL:∀n,(indC n).all gN=true
 |0=>rfl
 |n+1=>by simp only[indC,List.all_append,oL n];decide
theorem aOT:∀(t:Tree) (d:Nat) (f:Bool),prn (dB t) d f=prn t d f:=by
 intro t;induction t with
 |iff bs ih=>intro d f;simp only[dB,prn,ih]
 |ccons c l ih1 ih2=>intro d f;simp only[dB,prn,ih1,ih2]
 |bcons t b l _ ih1 ih2=>intro d f;simp only[dB,prn,ih1,ih2]
 |belse b l ih1 ih2=>intro d f;simp only[dB,prn,ih1,ih2]
 |_=>intro d f;simp only[dB,prn]
def tl:List Tree→Tree
 | []=>.tnil
 |x::r=>.tcons x (tl r)
def cl:List Tree→Tree
 | []=>.cnil
 |x::r=>.ccons x (cl r)
def bl:List (Tree×Tree)→Option Tree→Tree
 | [],none=>.bnil
 | [],some b=>.belse b .bnil
 |p::r,e=>.bcons p.1 p.2 (bl r e)
theorem aIQ(x:Tree):∀l,(tl l).snocT x=tl (l++[x])
 | []=>rfl
 |y::l=>by simp only[tl,Tree.snocT,aIQ x l,List.cons_append]
theorem aIP(x:Tree):∀l,(cl l).snocC x=cl (l++[x])
 | []=>rfl
 |y::l=>by simp only[cl,Tree.snocC,aIP x l,List.cons_append]
theorem aIM(t b:Tree):∀l,(bl l none).snocB (some t) b=bl (l++[(t,b)]) none
 | []=>rfl
 |y::l=>by simp only[bl,Tree.snocB,aIM t b l,List.cons_append]
theorem aIN(b:Tree):∀l,(bl l none).snocB none b=bl l (some b)
 | []=>rfl
 |y::l=>by simp only[bl,Tree.snocB,aIN b l]
theorem aXJ(us:List (List Wd×Tree)):∀l,us.foldl (fun l p=>l.snocT p.2) (tl l)=tl (l++us.map (·.2)):=by
 induction us with
 |nil=>intro l;simp
 |cons p us ih=>intro l;simp only[List.foldl_cons,aIQ,ih,List.map_cons,List.append_assoc,List.singleton_append]
theorem aXI(us:List (List Wd×Tree)):∀l,us.foldl (fun l p=>l.snocC p.2) (cl l)=cl (l++us.map (·.2)):=by
 induction us with
 |nil=>intro l;simp
 |cons p us ih=>intro l;simp only[List.foldl_cons,aIP,ih,List.map_cons,List.append_assoc,List.singleton_append]
theorem aXH(us:List Br):∀l,us.foldl (fun l p=>l.snocB (some p.t) p.b) (bl l none)=bl (l++us.map fun p=>(p.t,p.b)) none:=by
 induction us with
 |nil=>intro l;simp
 |cons p us ih=>intro l;simp only[List.foldl_cons,aIM,ih,List.map_cons,List.append_assoc,List.singleton_append]
theorem aLR(l:List (Tree×Tree))(els:Option (List Wd×Tree)):endB (bl l none) els=.iff (bl l (els.map (·.2))):=by
 cases els with
 |none=>rfl
 |some p=>simp only[endB,aIN,Option.map_some]
structure WT (G:List Wd→Tree→Prop) (t:Tree):Prop where
 txt:∀d b e,rend (ws t d true b) e=b++(prn t d true++e)
 gd:∀d b r,b.all gN=true→dR r=true→f7 r=true→dR (ws t d true b++r)=true
 cl:∀d b c r,f7 (ws t d true (c::b)++r)=true
 gr:∀d b,G ((ws t d true b).map fun x=>x.2.wd) t
theorem aPO:∀n:Fin 256,gV 65 90 32 (gV 65 90 32 (UInt8.ofNat n.val))=gV 65 90 32 (UInt8.ofNat n.val)∧dI (gV 65 90 32 (UInt8.ofNat n.val))=dI (UInt8.ofNat n.val)∧dX (gV 65 90 32 (UInt8.ofNat n.val))=dX (UInt8.ofNat n.val):=by decide+kernel
theorem aF9(c:UInt8):gV 65 90 32 (gV 65 90 32 c)=gV 65 90 32 c∧dI (gV 65 90 32 c)=dI c∧dX (gV 65 90 32 c)=dX c:=by
 have:=aPO ⟨c.toNat,c.toNat_lt⟩
 simpa only[UInt8.ofNat_toNat]using this
theorem wN(w:aJ):cN (cN w)=cN w:=by
 unfold cN;rw[List.map_map]
 apply List.map_congr_left
 intro c _;exact(aF9 c).1
theorem pA(w:aJ):named (cN w)=named w:=by
 cases w with
 |nil=>rfl
 |cons c w=>
  unfold named cN;have e:∀l:aJ,(l.map (gV 65 90 32)).all dI=l.all dI:=by
   intro l;induction l with
   |nil=>rfl
   |cons x l ih=>simp only[List.map_cons,List.all_cons,ih,(aF9 x).2.1]
  rw[e];simp[(aF9 c).2.2]
section
variable{needs:List aJ}
theorem aWX{G:List Wd→Tree→Prop}{l:List Tree}(h:∀t∈l,WT G t)(d:Nat):
  (∀e,rend (ws (tl l) d false []) e=prn (tl l) d false++e)∧(∀r,dR r=true→f7 r=true→dR (ws (tl l) d false []++r)=true∧f7 (ws (tl l) d false []++r)=true):=by
 induction l with
 |nil=>exact⟨fun e=>rfl,fun r h1 h2=>⟨h1,h2⟩⟩
 |cons t l ih=>
  obtain⟨i1,i2⟩:=ih fun x hx=>h x (by simp[hx])
  have ht:=h t (by simp);refine⟨fun e=>?_,fun r h1 h2=>?_⟩
  ·simp only[tl,ws,prn,if_neg Bool.false_ne_true,rend,j4,List.cons_append,i1,ht.txt,Tk.body,List.nil_append,List.append_assoc]
  ·obtain⟨g1,g2⟩:=i2 r h1 h2;have:=ht.gd d [32] _ (by decide) g1 g2;refine⟨?_,by simp only[tl,ws,if_neg Bool.false_ne_true,List.cons_append,f7]⟩
   simp only[tl,ws,if_neg Bool.false_ne_true,List.cons_append,dR,List.append_assoc,this]
   decide
theorem aI6{G:List Wd→Tree→Prop}{t:Tree}{l:List Tree}(ht:WT G t)(h:∀t∈l,WT G t)(d:Nat):
  (∀e,rend (ws (tl (t::l)) d true []) e=prn (tl (t::l)) d true++e)∧(∀r,dR r=true→f7 r=true→dR (ws (tl (t::l)) d true []++r)=true):=by
 obtain⟨i1,i2⟩:=aWX h d;refine⟨fun e=>?_,fun r h1 h2=>?_⟩
 ·simp only[tl,ws,prn,if_true,j4,i1,ht.txt,List.nil_append,List.append_assoc]
 ·obtain⟨g1,g2⟩:=i2 r h1 h2;have:=ht.gd d [] _ (by decide) g1 g2
  simpa only[tl,ws,if_true,List.append_assoc]using this
theorem aXV{G:List Wd→Tree→Prop}(d:Nat):∀(us:List (List Wd×Tree)),(ws (tl (us.map (·.2))) d false []).map (fun x=>x.2.wd)=(us.map fun p=>((ws p.2 d true [32]).map (fun x=>x.2.wd),p.2)).flatMap fun p=>wSg 44::p.1
 | []=>rfl
 |p::us=>by
  have:=aXV (G:=G) d us;simp only[List.map_cons,tl,ws,if_neg Bool.false_ne_true,List.flatMap_cons,List.map_append,this,List.cons_append]
  rfl
theorem aWU(tag:Int)(oct:Bool)(ht:tag=0∨tag=1∨tag=2∨tag=3):∃tag':Int,GTags ⟨false,0,false⟩ (((if oct=true then [([32],Tk.tg iJ),([32],.tx eB)]else [])++(if tag=2 then [(([32]:aJ),Tk.tg kA)]else if tag=3 then [([32],.tg lR)]else []):List (aJ×Tk)).map fun x=>x.2.wd) ⟨oct,tag',oct⟩∧(if 1>tag' then 1 else tag')=if 1>tag then 1 else tag:=by
 have h2:∀c o,GTags ⟨c,0,o⟩ [wTg kA] ⟨c,2,o⟩:=fun c o=>GTags.tag ⟨c,0,o⟩ _ kA 1 [] rfl (by decide) (by decide) (GTags.nil _)
 have h3:∀c o,GTags ⟨c,0,o⟩ [wTg lR] ⟨c,3,o⟩:=fun c o=>GTags.tag ⟨c,0,o⟩ _ lR 2 [] rfl (by decide) (by decide) (GTags.nil _)
 have hr:∃tag':Int,(∀c o,GTags ⟨c,0,o⟩ ((if tag=2 then [(([32]:aJ),Tk.tg kA)]else if tag=3 then [([32],.tg lR)]else []:List (aJ×Tk)).map fun x=>x.2.wd) ⟨c,tag',o⟩)∧(if 1>tag' then 1 else tag')=if 1>tag then 1 else tag:=by
  rcases ht with rfl|rfl|rfl|rfl
  ·exact⟨0,fun c o=>GTags.nil _,rfl⟩
  ·exact⟨0,fun c o=>GTags.nil _,rfl⟩
  ·exact⟨2,fun c o=>h2 c o,rfl⟩
  ·exact⟨3,fun c o=>h3 c o,rfl⟩
 obtain⟨tag',h,e⟩:=hr;refine⟨tag',?_,e⟩
 cases oct
 ·exact h false false
 ·exact GTags.cmp ⟨false,0,false⟩ _ eB _ rfl (by decide) (h true true)
theorem aWT{h h':How}{u:List Wd}(g:GTags h u h')(h0:0≤h.tag∧h.tag≤3):0≤h'.tag∧h'.tag≤3:=by
 induction g with
 |nil h=>exact h0
 |tag h h' x i u ht hi hx _ ih=>exact ih (by simp only[];omega)
 |cmp h h' x u hc hx _ ih=>exact ih h0
theorem u3{n:Nat}{u:List Wd}{t:Tree}(h:GTest needs n u t):WT (GTest needs n) t:=by
 induction h with
 |tru n=>exact⟨fun d b e=>by simp only[ws,rend,prn,Tk.body,if_true];rfl,fun d b r hb hg hc=>by simp only[ws,List.cons_append,List.nil_append,dR,hb,hg,hc];decide,fun d b c r=>rfl,fun d b=>GTest.tru n⟩
 |fls n=>exact⟨fun d b e=>by simp only[ws,rend,prn,Tk.body,if_true];rfl,fun d b r hb hg hc=>by simp only[ws,List.cons_append,List.nil_append,dR,hb,hg,hc];decide,fun d b c r=>rfl,fun d b=>GTest.fls n⟩
 |not_ n u t _ ih=>
  refine⟨fun d b e=>?_,fun d b r hb hg hc=>?_,fun d b c r=>rfl,fun d b=>GTest.not_ n _ t (ih.gr d [32])⟩
  ·simp only[ws,rend,prn,Tk.body,ih.txt,List.append_assoc];rfl
  ·have h1:=ih.gd d [32] r (by decide) hg hc;have h2:=ih.cl d [] 32 r;simp only[ws,List.cons_append,dR,hb,h1,h2];decide
 |many n all u t us _ _ ih1 ih2=>
  have hl:∀x∈us.map (·.2),WT (GTest needs n) x:=by
   intro x hx;obtain⟨p,hp,rfl⟩:=List.mem_map.1 hx;exact ih2 p hp
  have e:us.foldl (fun l p=>l.snocT p.2) (.tcons t .tnil)=tl (t::us.map (·.2)):=aXJ us [t];rw[e];refine⟨fun d b e=>?_,fun d b r hb hg hc=>?_,fun d b c r=>rfl,fun d b=>?_⟩
  ·have:=(aI6 ih1 hl d).1 ([41]++e);simp only[ws,rend,prn,Tk.body,j4,List.nil_append,List.append_assoc,this];cases all <;> rfl
  ·have:=(aI6 ih1 hl d).2 (([],.sg 41)::r) (by simp only[dR,hg];decide) rfl;simp only[ws,List.cons_append,List.nil_append,List.append_assoc,dR,hb,this,tA];cases all <;> decide
  ·have := GTest.many n all _ t (us.map fun p => ((ws p.2 d true [32]).map (fun x => x.2.wd), p.2)) (ih1.gr d []) (fun p hp => by
    obtain⟨q,hq,rfl⟩:=List.mem_map.1 hp;exact(ih2 q hq).gr d [32])
   have e2:(us.map fun p=>((ws p.2 d true [32]).map (fun x=>x.2.wd),p.2)).foldl (fun l p=>l.snocT p.2) (.tcons t .tnil)=tl (t::us.map (·.2)):=by
    have:=aXJ (us.map fun p=>((ws p.2 d true [32]).map (fun x=>x.2.wd),p.2)) [t];rw[List.map_map]at this;exact this
   rw[e2,←aXV (G:=GTest needs n)]at this;simp only[ws,tl,if_true,List.map_cons,List.map_append,List.map_nil];have e3:cN nW=nW:=by decide
   have e4:cN nX=nX:=by decide
   cases all <;> simpa[Tk.wd,e3,e4,tl]using this
 |mat n word op ext u v w h a b hm hx hg ga fa gb=>
  have ht:=aWT hg ⟨by decide,by decide⟩;have hk:(if 1>h.tag then 1 else h.tag)=1∨(if 1>h.tag then 1 else h.tag)=2∨(if 1>h.tag then 1 else h.tag)=(3:Int):=by split <;> omega
  have hop:nL op=word∧yS (nL op)=true∧cN (nL op)=nL op∧(op=6∨op=7∨op=8):=by
   simp only[List.mem_cons,Prod.mk.injEq,List.not_mem_nil,or_false]at hm;rcases hm with ⟨rfl,rfl,rfl⟩|⟨rfl,rfl,rfl⟩|⟨rfl,rfl,rfl⟩ <;> exact⟨by decide,by decide,by decide,by decide⟩
  generalize (if 1>h.tag then 1 else h.tag)=tag at hk
  generalize h.oct=oct
  refine⟨fun d b' e=>?_,fun d b' r hb hgr hc=>?_,fun d b' c r=>rfl,fun d b'=>?_⟩
  ·simp only[ws,rend,prn,Tk.body,j4,uP,List.append_assoc]
   congr 2
   rcases hk with rfl|rfl|rfl <;> cases oct <;> simp[rend,Tk.body,tG,tM,iJ,eB,kA,lR,esc]
  ·have h1:=qZ (b:=[32]) a (r:=kV [32] b++r) (by decide) (qZ b (by decide) hgr);have h2:f7 (kV [32] a++(kV [32] b++r))=true:=by
    match a with
    | []=>rfl
    | [_]=>rfl
    |_::_::_=>rfl
   simp only[ws,List.cons_append,List.append_assoc,dR,hb,hop.2.1];rcases hk with rfl|rfl|rfl <;> cases oct <;> simp[dR,h1,h2,tA] <;> decide
  ·obtain⟨tag',g,e⟩:=aWU tag oct aH;have:=GTest.mat n word op ext _ _ _ _ a b hm hx g (wA ga [32]) fa (wA gb [32]);simp only[e]at this;have et:(if 1>tag then 1 else tag)=tag:=by split <;> omega
   rw[et]at this;have hs:cN word=word:=by rw[←hop.1];exact hop.2.2.1
   simp only[ws,List.map_cons,List.map_append,Tk.wd,hop.1,hs]at this ⊢
   simpa only[List.append_assoc]using this
 |exi n v a ga=>
  refine⟨fun d b' e=>?_,fun d b' r hb hgr hc=>?_,fun d b' c r=>rfl,fun d b'=>GTest.exi n _ a (wA ga [32])⟩
  ·simp only[ws,rend,prn,Tk.body,uP,List.append_assoc];rfl
  ·have h1:=qZ (b:=[32]) a (r:=r) (by decide) hgr;have h2:f7 (kV [32] a++r)=true:=by
    match a with
    | []=>rfl
    | [_]=>rfl
    |_::_::_=>rfl
   simp only[ws,List.cons_append,dR,hb,h1,h2];decide
 |siz n x k hx hk=>
  have e:((k.toNat:Nat):Int)=k:=Int.toNat_of_nonneg hk.1;have hx:x=oZ∨x=jE:=by simpa using hx
  refine⟨fun d b' e=>?_,fun d b' r hb hgr hc=>?_,fun d b' c r=>rfl,fun d b'=>?_⟩
  ·have e2:Lib.decDigits k.toNat=Lib.itoa k:=by rw[Lib.itoa,if_neg aH]
   rcases hx with rfl|rfl <;> simp[ws,rend,prn,Tk.body,e2,qC,rH,jE,oZ]
  ·have:k.toNat≤2147483647:=by omega
   rcases hx with rfl|rfl <;> simp[ws,dR,hb,hgr,hc,this,tA] <;> decide
  ·have:=GTest.siz (needs:=needs) n x k gCO hk;have e3:cN rH=rH:=by decide
   have e4:cN oZ=oZ:=by decide
   have e5:cN jE=jE:=by decide
   have e6:¬oZ=jE:=by decide
   rcases hx with rfl|rfl <;> simpa[ws,Tk.wd,e,e3,e4,e5,e6]using this
structure WB (G:List Wd→Tree→Prop) (t:Tree):Prop where
 txt:∀d b e,b=[10]∨t≠.cnil→rend (ws t d true b) (10::e)=b++(prn t d true++e)
 gd:∀d b r,b.all gN=true→dR r=true→f7 r=true→dR (ws t d true b++r)=true
 cl:∀d c b r,f7 r=true→f7 (ws t d true (c::b)++r)=true
 gr:∀d b,G ((ws t d true b).map fun x=>x.2.wd) t
theorem aMT{G:List Wd→Tree→Prop}(h:G [] .cnil):WB G .cnil:=
 ⟨fun d b e hb=>by rcases hb with rfl|hb;rfl;exact absurd rfl hb,fun d b r _ h _=>h,fun d c b r h=>h,fun d b=>h⟩
theorem vD{G:List Wd→Tree→Prop}:∀ {l:List Tree},(∀t∈l,WT G t)→∀d b,
  (∀e,b=[10]∨l≠[]→rend (ws (cl l) d true b) (10::e)=b++(prn (cl l) d true++e))∧
  (∀r,b.all gN=true→dR r=true→f7 r=true→dR (ws (cl l) d true b++r)=true)∧
  (∀r,b≠[]→f7 r=true→f7 (ws (cl l) d true b++r)=true)
 | [],h,d,b=>⟨fun e hb=>by rcases hb with rfl|hb;rfl;exact absurd rfl hb,fun r _ h _=>h,fun r _ h=>h⟩
 |t::l,h,d,b=>by
  obtain⟨i1,i2,i3⟩:=vD (l:=l) (fun x hx=>h x (by simp[hx])) d [10];have ht:=h t (by simp);refine⟨fun e _=>?_,fun r hb h1 h2=>?_,fun r hb h2=>?_⟩
  ·simp only[cl,ws,prn,j4,i1 e (.inl rfl),ht.txt,List.append_assoc]
  ·have:=ht.gd d (b++indC d) _ (by rw[List.all_append,hb,oL];rfl) (i2 r (by decide) h1 h2) (i3 r (by simp) h2)
   simpa only[cl,ws,List.append_assoc]using this
  ·obtain⟨c,b,rfl⟩:∃c b',b=c::b':=by cases b with|nil=>exact absurd rfl hb|cons c b=>exact⟨c,b,rfl⟩
   have:=ht.cl d (b++indC d) c (ws (cl l) d true [10]++r)
   simpa only[cl,ws,List.append_assoc,List.cons_append]using this
theorem aXF(d:Nat):∀(us:List (List Wd×Tree)) (b:aJ),(ws (cl (us.map (·.2))) d true b).map (fun x=>x.2.wd)=(us.map fun p=>((ws p.2 d true []).map (fun x=>x.2.wd),p.2)).flatMap fun p=>p.1
 | [],b=>rfl
 |p::us,b=>by
  have:=aXF d us [10];simp only[List.map_cons,cl,ws,List.flatMap_cons,List.map_append,this,bBZ p.2 d true (b++indC d) []]
theorem aEI{n:Nat}{B:List Wd→Tree→Prop}{els:Option (List Wd×Tree)}(he:∀p,els=some p→WB B p.2)(d:Nat):∀ {l:List (Tree×Tree)},(∀p∈l,WT (GTest needs n) p.1∧WB B p.2)→
  (∀e,rend (ws (bl l (els.map (·.2))) d false []) e=prn (bl l (els.map (·.2))) d false++e)∧(∀r,dR r=true→f7 r=true→dR (ws (bl l (els.map (·.2))) d false []++r)=true∧f7 (ws (bl l (els.map (·.2))) d false []++r)=true)
 | [],h=>by
  cases els with
  |none=>exact⟨fun e=>rfl,fun r h1 h2=>⟨h1,h2⟩⟩
  |some p=>
   have hb:=he p rfl;refine⟨fun e=>?_,fun r h1 h2=>?_⟩
   ·have:=hb.txt (d+1) [10] (indC d++([125]++e)) (.inl rfl);simp only[Option.map_some,bl,ws,rend,j4,prn,Tk.body,List.nil_append,List.cons_append,List.append_assoc]at this ⊢;rw[this];rfl
   ·have h3:=hb.gd (d+1) [10] ((10::indC d,.sg 125)::r) (by decide) (by simp only[dR,h1,List.all_cons,oL];decide) rfl;refine⟨?_,rfl⟩
    simp only[Option.map_some,bl,ws,List.nil_append,List.cons_append,List.append_assoc,dR,h3,tA]
    decide
 |(t,b)::l,h=>by
  obtain⟨i1,i2⟩:=aEI he d (l:=l) fun x hx=>h x (by simp[hx])
  obtain⟨ht,hb⟩:=h (t,b) (by simp);refine⟨fun e=>?_,fun r h1 h2=>?_⟩
  ·have:=hb.txt (d+1) [10] (indC d++([125]++(prn (bl l (els.map (·.2))) d false++e))) (.inl rfl);simp only[bl,ws,if_neg Bool.false_ne_true,rend,j4,prn,Tk.body,List.nil_append,List.cons_append,List.append_assoc,ht.txt,i1]at this ⊢;rw[this];rfl
  ·obtain⟨g1,g2⟩:=i2 r h1 h2;have h3:=hb.gd (d+1) [10] ((10::indC d,.sg 125)::(ws (bl l (els.map (·.2))) d false []++r)) (by decide) (by simp only[dR,g1,List.all_cons,oL];decide) rfl;have h4:=ht.gd d [32] (([32],.sg 123)::(ws b (d+1) true [10]++((10::indC d,.sg 125)::(ws (bl l (els.map (·.2))) d false []++r)))) (by decide) (by simp only[dR,h3];decide) rfl;have h5:=ht.cl d [] 32 (([32],.sg 123)::(ws b (d+1) true [10]++((10::indC d,.sg 125)::(ws (bl l (els.map (·.2))) d false []++r))));refine⟨?_,by simp only[bl,ws,if_neg Bool.false_ne_true,List.cons_append,tA]⟩
   simp only[bl,ws,if_neg Bool.false_ne_true,List.nil_append,List.cons_append,List.append_assoc,dR,h4,h5]
   decide
def aHS(d:Nat)(p:Br):Br:=⟨(ws p.t d true [32]).map fun x=>x.2.wd,p.t,(ws p.b (d+1) true [10]).map fun x=>x.2.wd,p.b⟩
def aL6(d:Nat)(p:List Wd×Tree):List Wd×Tree:=((ws p.2 (d+1) true [10]).map fun x=>x.2.wd,p.2)
theorem aXE(d:Nat)(els:Option (List Wd×Tree)):∀(brs:List Br),(ws (bl (brs.map fun p=>(p.t,p.b)) (els.map (·.2))) d false []).map (fun x=>x.2.wd)=(brs.map (aHS d)).flatMap Br.words++lL (els.map (aL6 d))
 | []=>by
  cases els with
  |none=>rfl
  |some p=>
   have e1:cN mA=mA:=by decide
   simp[bl,ws,lL,aL6,Tk.wd,e1]
 |p::brs=>by
  have:=aXE d els brs;have e1:cN mB=mB:=by decide
  rw[List.map_cons,List.map_cons,List.flatMap_cons,List.append_assoc,←this];simp only[bl,ws,if_neg Bool.false_ne_true,List.map_cons,List.map_append,Br.words,aHS,Tk.wd,e1,List.cons_append,List.append_assoc,List.nil_append]
theorem aCR{n:Nat}{B:List Wd→Tree→Prop}(hB:∀u t,B u t→WB B t){u:List Wd}{t:Tree}(h:GCmd needs n B u t):WT (GCmd needs n B) t:=by
 cases h with
 |simple word c h=>
  have hw:WT (GCmd needs n B) t↔WT (GCmd needs n B) t:=Iff.rfl;have key:∀op:Int,op=13∨op=14→GCmd needs n B [wNm (if op=14 then mV else gM),wSg 59] (.plain op)→WT (GCmd needs n B) (.plain op):=by
   intro op ho hg;refine⟨fun d b e=>?_,fun d b r hb h1 h2=>?_,fun d b c r=>rfl,fun d b=>?_⟩
   ·rcases ho with rfl|rfl <;> simp[ws,rend,prn,Tk.body,mV,gM]
   ·rcases ho with rfl|rfl <;> simp[ws,dR,hb,h1,f7] <;> decide
   ·have e3:cN (if op=14 then mV else gM)=if op=14 then mV else gM:=by rcases ho with rfl|rfl <;> decide
    simpa only[ws,List.map_cons,List.map_nil,Tk.wd,e3]using hg
  rcases h with ⟨rfl,rfl⟩|⟨rfl,rfl⟩|⟨rfl,rfl⟩
  ·refine⟨fun d b e=>?_,fun d b r hb h1 h2=>?_,fun d b c r=>rfl,fun d b=>GCmd.simple pQ _ (.inl ⟨rfl,rfl⟩)⟩
   ·simp[ws,rend,prn,Tk.body,pQ]
   ·simp[ws,dR,hb,h1,f7];decide
  ·exact key 13 (.inl rfl) (GCmd.simple gM _ (.inr (.inl ⟨rfl,rfl⟩)))
  ·exact key 14 (.inr rfl) (GCmd.simple mV _ (.inr (.inr ⟨rfl,rfl⟩)))
 |act word kind ext arg h hx=>
  have hk:(if kind=2 then e9 else if kind=3 then kB else gS)=word∧yS word=true∧cN word=word∧(kind=2∨kind=3∨kind=4):=by
   rcases h with ⟨rfl,rfl,_⟩|⟨rfl,rfl,_⟩|⟨rfl,rfl,_⟩ <;> exact⟨by decide,by decide,by decide,by decide⟩
  have h1k:¬kind=1:=by omega
  refine⟨fun d b e=>?_,fun d b r hb h1 h2=>?_,fun d b c r=>?_,fun d b=>?_⟩
  ·simp only[ws,if_neg h1k,rend,rB,aMA,prn];rcases hk.2.2.2 with rfl|rfl|rfl <;> simp[Tk.body,qP,e9,kB,gS]
  ·simp only[ws,if_neg h1k,List.cons_append,List.nil_append,dR,hb,h1,hk.1,hk.2.1,tA];decide
  ·simp only[ws,if_neg h1k];rfl
  ·have:=GCmd.act (needs:=needs) (n:=n) (B:=B) word kind ext arg h hx
   simpa only[ws,if_neg h1k,List.map_cons,List.map_nil,Tk.wd,hk.1,hk.2.2.1]using this
 |set0 name value hv hn=>
  refine⟨fun d b e=>?_,fun d b r hb h1 h2=>?_,fun d b c r=>rfl,fun d b=>?_⟩
  ·simp[ws,rend,prn,Tk.body,y6,rC,fD,tC]
  ·simp[ws,dR,hb,h1,f7];decide
  ·have:=GCmd.set0 (needs:=needs) (n:=n) (B:=B) (cN name) value hv (by rw[pA];exact hn);rw[wN]at this;exact this
 |set1 x name value i hv hn hi hx=>
  have hi:i=0∨i=1∨i=2:=by omega
  refine⟨fun d b e=>?_,fun d b r hb h1 h2=>?_,fun d b c r=>rfl,fun d b=>?_⟩
  ·rcases hi with rfl|rfl|rfl <;> simp[ws,rend,prn,Tk.body,y6,rC,fD,tC,iS,iT,gH]
  ·rcases hi with rfl|rfl|rfl <;> simp[ws,dR,hb,h1,f7] <;> decide
  ·have h0:=GCmd.set1 (needs:=needs) (n:=n) (B:=B) iS (cN name) value 0 hv (by rw[pA];exact hn) (by decide) (by decide);have h1:=GCmd.set1 (needs:=needs) (n:=n) (B:=B) iT (cN name) value 1 hv (by rw[pA];exact hn) (by decide) (by decide);have h2:=GCmd.set1 (needs:=needs) (n:=n) (B:=B) gH (cN name) value 2 hv (by rw[pA];exact hn) (by decide) (by decide);rw[wN]at h0 h1 h2;rcases hi with rfl|rfl|rfl
   ·exact h0
   ·exact h1
   ·exact h2
 |iff ut t ub b brs els ht hb hbr hel=>
  have wt:=u3 ht;have wb:=hB _ _ hb;have e:brs.foldl (fun l p=>l.snocB (some p.t) p.b) (.bcons t b .bnil)=bl ((t,b)::brs.map fun p=>(p.t,p.b)) none:=aXH brs [(t,b)];rw[e,aLR];have hr:∀p∈brs.map (fun p=>(p.t,p.b)),WT (GTest needs n) p.1∧WB B p.2:=by
   intro x hx;obtain⟨p,hp,rfl⟩:=List.mem_map.1 hx;exact⟨u3 (hbr p hp).1,hB _ _ (hbr p hp).2⟩
  have he:∀p,els=some p→WB B p.2:=fun p hp=>hB _ _ (hel p hp)
  refine⟨fun d b' e=>?_,fun d b' r hb' h1 h2=>?_,fun d b c r=>rfl,fun d b'=>?_⟩
  ·have i1:=(aEI he d hr).1;have:=wb.txt (d+1) [10] (indC d++([125]++(prn (bl (brs.map fun p=>(p.t,p.b)) (els.map (·.2))) d false++e))) (.inl rfl);simp only[bl,ws,if_true,rend,j4,prn,Tk.body,List.nil_append,List.cons_append,List.append_assoc,wt.txt,i1]at this ⊢;rw[this];rfl
  ·obtain⟨g1,g2⟩:=(aEI he d hr).2 r h1 h2;have h3:=wb.gd (d+1) [10] ((10::indC d,.sg 125)::(ws (bl (brs.map fun p=>(p.t,p.b)) (els.map (·.2))) d false []++r)) (by decide) (by simp only[dR,g1,List.all_cons,oL];decide) rfl;have h4:=wt.gd d [32] (([32],.sg 123)::(ws b (d+1) true [10]++((10::indC d,.sg 125)::(ws (bl (brs.map fun p=>(p.t,p.b)) (els.map (·.2))) d false []++r)))) (by decide) (by simp only[dR,h3];decide) rfl;have h5:=wt.cl d [] 32 (([32],.sg 123)::(ws b (d+1) true [10]++((10::indC d,.sg 125)::(ws (bl (brs.map fun p=>(p.t,p.b)) (els.map (·.2))) d false []++r))));simp only[bl,ws,if_true,List.nil_append,List.cons_append,List.append_assoc,dR,h4,h5,hb']
   decide
  ·have := GCmd.iff (needs := needs) (n := n) (B := B) _ t _ b (brs.map (aHS d)) (els.map (aL6 d)) (wt.gr d [32]) (wb.gr (d + 1) [10]) (fun p hp => by
    obtain ⟨q, hq, rfl⟩ := List.mem_map.1 hp;exact ⟨(u3 (hbr q hq).1).gr d [32], (hB _ _ (hbr q hq).2).gr (d + 1) [10]⟩) (fun p hp => by
    obtain⟨q,hq,rfl⟩:=Option.map_eq_some_iff.1 hp;exact(hB _ _ (hel q hq)).gr (d+1) [10])
   have e2:(brs.map (aHS d)).foldl (fun l p=>l.snocB (some p.t) p.b) (.bcons t b .bnil)=bl ((t,b)::brs.map fun p=>(p.t,p.b)) none:=by
    have:=aXH (brs.map (aHS d)) [(t,b)];rw[List.map_map]at this;exact this
   have e3:(els.map (aL6 d)).map (·.2)=els.map (·.2):=by cases els <;> rfl
   rw[e2,aLR,e3,←aXE]at this;have e1:cN txIf=txIf:=by decide
   simpa only[bl,ws,if_true,List.map_cons,List.map_append,Tk.wd,e1,List.cons_append,List.append_assoc,List.nil_append]using this
theorem rS:∀(n:Nat) (u:List Wd) (t:Tree),n9 needs n u t→WB (n9 needs n) t
 |0,u,t,h=>by obtain⟨_,rfl⟩:=h;exact aMT ⟨rfl,rfl⟩
 |n+1,u,t,⟨cs,hc,_,e⟩=>by
  have e:t=cl (cs.map (·.2)):=by rw[e];exact aXI cs []
  have hw:∀x∈cs.map (·.2),WT (GCmd needs n (n9 needs n)) x:=by
   intro x hx;obtain⟨p,hp,rfl⟩:=List.mem_map.1 hx;exact aCR (rS n) (hc p hp)
  subst e;refine⟨fun d b e hb=>(vD hw d b).1 e (hb.imp id fun h1 h2=>h1 (by rw[h2];rfl)),fun d b r h1 h2 h3=>(vD hw d b).2.1 r h1 h2 h3,fun d c b r h=>(vD hw d (c::b)).2.2 r (by simp) h,fun d b=>?_⟩
  refine⟨cs.map fun p=>((ws p.2 d true []).map (fun x=>x.2.wd),p.2),fun p hp=>?_,aXF d cs b,?_⟩
  ·obtain⟨q,hq,rfl⟩:=List.mem_map.1 hp;exact(aCR (rS n) (hc q hq)).gr d []
  ·have:=aXI (cs.map fun p=>((ws p.2 d true []).map (fun x=>x.2.wd),p.2)) [];rw[List.map_map]at this;exact this.symm
end
end Go.Syn
end
section
namespace Go.Syn
theorem aL2{ns ns':List aJ}{u:List Wd}(h:GReq ns u ns'):(∀x∈ns,x∈oX)→ns.Nodup→(∀x∈ns',x∈oX)∧ns'.Nodup:=by
 induction h with
 |nil ns=>intro h1 h2;exact⟨h1,h2⟩
 |cons ns ns' u v l gl hl _ ih=>
  intro h1 h2;have:∀(l ns:List aJ),(∀x∈l,x∈oX)→(∀x∈ns,x∈oX)→ns.Nodup→(∀x∈eX ns l,x∈oX)∧(eX ns l).Nodup:=by
   intro l;induction l with
   |nil=>intro ns _ h1 h2;exact⟨h1,h2⟩
   |cons x l ih=>
    intro ns hl h1 h2;refine ih (addN ns x) (fun y hy=>hl y (by simp[hy])) ?_ ?_
    ·unfold addN;split
     ·exact h1
     ·intro y hy;rcases List.mem_append.1 hy with hy|hy
      ·exact h1 y hy
      ·rw[List.mem_singleton.1 hy];exact hl x (by simp)
    ·unfold addN;split
     ·exact h2
     ·rename_i hx;rw[List.nodup_append];exact⟨h2,by simp,fun a ha b hb=>by rw[List.mem_singleton.1 hb];exact fun e=>hx (e▸ha)⟩
  obtain⟨a,b⟩:=this l ns hl h1 h2;exact ih a b
theorem aGN:∀(l ns:List aJ),(ns++l).Nodup→eX ns l=ns++l
 | [],ns,_=>by simp[eX]
 |x::l,ns,h=>by
  have hx:x∉ns:=fun hx=>by
   rw[List.nodup_append]at h;exact h.2.2 x hx x (by simp) rfl
  have e:eX ns (x::l)=eX (ns++[x]) l:=by
   show eX (addN ns x) l=_
   unfold addN;rw[if_neg hx]
  rw[e,aGN l (ns++[x]) (by simpa using h)];simp
theorem aRS{needs:List aJ}{n:Nat}{B:List Wd→Tree→Prop}{u:List Wd}{c:Tree}(h:GCmd needs n B u c):∃w r,u=wNm w::r∧w≠fB:=by
 cases h with
 |simple word c h=>rcases h with ⟨rfl,rfl⟩|⟨rfl,rfl⟩|⟨rfl,rfl⟩ <;> exact⟨_,_,rfl,by decide⟩
 |act word kind ext arg h _=>rcases h with ⟨rfl,_,_⟩|⟨rfl,_,_⟩|⟨rfl,_,_⟩ <;> exact⟨_,_,rfl,by decide⟩
 |set0=>exact⟨_,_,rfl,by decide⟩
 |set1=>exact⟨_,_,rfl,by decide⟩
 |iff=>exact⟨_,_,rfl,by decide⟩
theorem aAN{needs:List aJ}{n:Nat}{u:List Wd}{t:Tree}(h:n9 needs (n+1) u t):∀w r,u=w::r→w≠wNm fB:=by
 obtain⟨cs,hc,e,_⟩:=h;intro w r hw;cases cs with
 |nil=>rw[e]at hw;cases hw
 |cons p cs=>
  obtain⟨w',r',e1,e2⟩:=aRS (hc p (by simp));rw[e,List.flatMap_cons,e1]at hw
  injection hw with h1 h2
  rw[←h1];intro h
  injection h with h3 h4
  injection h4 with h5
  exact e2 h5
theorem aK6{s:aJ}{r:List aJ×Tree}(h:eE s=.ok r):∃t',eE (oV r)=.ok (r.1,t')∧dB t'=dB r.2:=by
 obtain⟨st,st',u,v,_,g1,g2,_,_⟩:=aDD h;obtain⟨n1,n2⟩:=aL2 g1 (by simp) (by simp);have wb:=rS 7 _ _ g2;have hp:prn r.2 0 true=prn (dB r.2) 0 true:=(aOT _ _ _).symm
 by_cases hn:r.1=[]
 ·have gd:dR (ws (dB r.2) 0 true [])=true:=by
   have:=wb.gd 0 [] [] (by decide) (by decide) (by decide)
   simpa using this
  have hv:=aAN (wb.gr 0 [])
  by_cases ht:dB r.2=.cnil
  ·have e:oV r=[]:=by unfold oV;rw[if_pos hn,hp,ht];rfl
   have:=uX (s:=[]) (e:=[]) (ts:=[]) (us:=ws (dB r.2) 0 true []) (ns:=r.1) (t:=dB r.2) (by simp) (by simpa using gd) (by rw[ht];rfl) (by rw[hn];exact GReq.nil []) (wb.gr 0 []) hv;rw[e];exact this
  ·have e:oV r=rend (ws (dB r.2) 0 true []) [10]:=by
    have:=wb.txt 0 [] [] (.inr ht);unfold oV;rw[if_pos hn,hp,this];simp
   exact uX (e:=[10]) (ts:=[]) (us:=ws (dB r.2) 0 true []) (by decide) (by simpa using gd) e (by rw[hn];exact GReq.nil []) (wb.gr 0 []) hv
 ·have gl:∃u,GList u r.1:=by
   cases h:r.1 with
   |nil=>exact absurd h hn
   |cons w ws=>exact⟨_,GList.many w ws⟩
  obtain⟨w,gl⟩:=gl;have e3:cN fB=fB:=by decide
  have gr:GReq [] ((([],Tk.nm fB)::(kV [32] r.1++[([],.sg 59)])).map fun x=>x.2.wd) r.1:=by
   have h0:eX [] r.1=r.1:=aGN r.1 [] (by simpa using n2);have:=GReq.cons [] r.1 _ [] r.1 (wA gl [32]) n1 (by rw[h0];exact GReq.nil r.1)
   simpa only[List.map_cons,List.map_append,List.map_nil,Tk.wd,e3]using this
  have gd:dR ((([],Tk.nm fB)::(kV [32] r.1++[([],.sg 59)]))++ws (dB r.2) 0 true [10])=true:=by
   have h1:=wb.gd 0 [10] [] (by decide) (by decide) (by decide);rw[List.append_nil]at h1;have h2:=qZ (b:=[32]) r.1 (r:=([],.sg 59)::ws (dB r.2) 0 true [10]) (by decide) (by simp only[dR,h1];decide);have h3:f7 (kV [32] r.1++(([],.sg 59)::ws (dB r.2) 0 true [10]))=true:=by
    match r.1 with
    | []=>rfl
    | [_]=>rfl
    |_::_::_=>rfl
   simp only[List.cons_append,List.append_assoc,List.nil_append,dR,h2,h3]
   decide
  have e:oV r=rend ((([],Tk.nm fB)::(kV [32] r.1++[([],.sg 59)]))++ws (dB r.2) 0 true [10]) [10]:=by
   have:=wb.txt 0 [10] [] (.inl rfl);simp only[j4,rend,this,uP,Tk.body,List.append_assoc,List.nil_append,List.append_nil];unfold oV;rw[if_neg hn,hp]
   simp[fB]
  exact uX (e:=[10]) (by decide) gd e gr (wb.gr 0 [10]) (aAN (wb.gr 0 [10]))
end Go.Syn
end
section
namespace Go.Say
open Go.Syn Go.Mach Go.Cmp
def forget{α:Type}:Res α→Res α
 | .error e=>.error (e.1,0)
 | .ok r=>.ok r
section
variable(nm:Bool)(m:Msg)
theorem aJJ(k:Int)(arg:aJ)(p:Int)(c:Co):act k arg 0 c=forget (act k arg p c):=by
 unfold act;split
 ·rfl
 ·split
  ·rfl
  ·unfold addX;split
   ·rfl
   ·split
    ·rfl
    ·split <;> rfl
theorem aDN:∀(t:Tree) (c:Co),Say.run nm m (dB t) c=forget (Say.run nm m t c)∧cmd nm m (dB t) c=forget (cmd nm m t c)∧brs nm m (dB t) c=forget (brs nm m t c):=by
 intro t;induction t with
 |act k a p=>
  intro c;refine⟨rfl,?_,rfl⟩
  simp only[dB,cmd];rw[aJJ k (rP nm k a c) p c];cases act k (rP nm k a c) p c <;> rfl
 |iff bs ih=>intro c;exact⟨rfl,by simp only[dB,cmd];exact(ih c).2.2,rfl⟩
 |ccons x l ih1 ih2=>
  intro c;refine⟨?_,rfl,rfl⟩
  simp only[dB,Say.run];rw[(ih1 c).2.1];cases cmd nm m x c with
  |error e=>rfl
  |ok r=>
   simp only[forget];split
   ·rfl
   ·exact(ih2 r.2).1
 |bcons t b l _ ih2 ih3=>
  intro c;refine⟨rfl,rfl,?_⟩
  simp only[dB,brs];split
  ·exact(ih2 _).1
  ·exact(ih3 _).2.2
 |belse b l ih1 _=>intro c;exact⟨rfl,rfl,by simp only[dB,brs];exact(ih1 c).1⟩
 |_=>
  intro c;refine⟨rfl,?_,rfl⟩
  simp only[dB,cmd]
  try (split <;> rfl)
  try rfl
end
theorem aOO{nm:Bool}{m:Msg}{t t':Tree}{c:Co}(h:dB t=dB t'):(out (Say.run nm m t c)).1=(out (Say.run nm m t' c)).1∧(te (out (Say.run nm m t c)).2).1=(te (out (Say.run nm m t' c)).2).1:=by
 have h1:=(aDN nm m t c).1;rw[h,(aDN nm m t' c).1]at h1;cases e1:Say.run nm m t c <;> cases e2:Say.run nm m t' c <;> rw[e1,e2]at h1 <;> simp only[forget]at h1
 ·injection h1 with h1;simp only[out,te];exact⟨trivial,(congrArg Prod.fst h1).symm⟩
 ·cases h1
 ·cases h1
 ·injection h1 with h1;rw[h1];exact⟨rfl,rfl⟩
theorem aTO{s:aJ}{r:List aJ×Tree}{m:Msg}(h:eE s=.ok r)(hs:s.length≤600):(sayC r m).acts=(out (Say.run (decide (dN∈r.1)) m r.2 start)).1∧te (sayC r m).err=te (out (Say.run (decide (dN∈r.1)) m r.2 start)).2:=by
 have:=(aKP (nm:=decide (dN∈r.1)) (m:=m) h hs).2;have h1:=congrArg Prod.fst this;have h2:=congrArg Prod.snd this;exact⟨h1,congrArg te h2⟩
theorem same_law{s:aJ}{r:List aJ×Tree}(m:Msg)(h:eE s=.ok r)(hs:s.length≤600)(ht:(oV r).length≤600):rn (oV r) m=((sayC r m).acts,(te (sayC r m).err).1,true):=by
 obtain⟨t',h1,h2⟩:=aK6 h;have h3:=aTO (m:=m) h hs;have h4:=aTO (m:=m) h1 ht;have h5:=aOO (nm:=decide (dN∈r.1)) (m:=m) (c:=start) h2;unfold rn;rw[if_neg aH,h1];simp only[h4,h3];rw[h5.1,h5.2]
end Go.Say
end
section
attribute [local irreducible] Go.SL.T Go.SL.OL Go.SL.D Go.SL.DL Go.SL.Ev Go.SL.Ef Go.SL.EfS
namespace Go.Proofs
open Go Go.SL Go.Syn Go.Mach Go.Cmp
theorem aZF{n k:Nat}(h:n≤k):∀ {t:Tree},sOk n t→sOk k t:=by
 intro t;induction t with
 |const=>intro _;trivial
 |not_ t ih=>intro h1;exact ih h1
 |many a l ih=>intro h1;exact ih h1
 |mat tag oct op a b=>intro h1;exact⟨fun x hx=>by have:=h1.1 x hx;omega,fun x hx=>by have:=h1.2.1 x hx;omega,by have:=h1.2.2.1;omega,by have:=h1.2.2.2;omega⟩
 |exi a=>intro h1;exact⟨fun x hx=>by have:=h1.1 x hx;omega,by have:=h1.2;omega⟩
 |siz=>intro h1;exact h1
 |tnil=>intro _;trivial
 |tcons t l i1 i2=>intro h1;exact⟨i1 h1.1,i2 h1.2⟩
 |plain=>intro _;trivial
 |act k a p=>intro h1;exact Nat.le_trans h1 h
 |set_ a v t=>intro h1;exact⟨Nat.le_trans h1.1 h,Nat.le_trans h1.2 h⟩
 |iff bs ih=>intro h1;exact ih h1
 |cnil=>intro _;trivial
 |ccons c l i1 i2=>intro h1;exact⟨i1 h1.1,i2 h1.2⟩
 |bnil=>intro _;trivial
 |bcons t b l i1 i2 i3=>intro h1;exact⟨i1 h1.1,i2 h1.2.1,i3 h1.2.2⟩
 |belse b l i1 i2=>intro h1;exact⟨i1 h1.1,i2 h1.2⟩
theorem aBC{s:aJ}{r:List aJ×Tree}(h:eE s=.ok r)(hs:s.length≤600):TextFit r:=by
 obtain⟨f1,f2,f3,f4,_⟩:=pX h;have hn:=yU h;obtain⟨_,_,_,_,_,g1,_,_,_⟩:=aDD h;obtain⟨n1,_⟩:=aL2 g1 (by simp) (by simp);refine⟨f1,f4,aZF hs f2,by omega,aOP h,by omega,fun x hx=>?_⟩
 have:=n1 x hx;simp only[oX,List.mem_cons,List.not_mem_nil,or_false]at this;rcases this with rfl|rfl|rfl|rfl <;> decide
theorem aFQ(s:aJ)(m:Msg)(hv:Value)(K:Hl)(hg:Glob K)(hE:ErrT K)(hh:Ksl hdEl K hv m.hs)(hz:MsgSz m):Sp Tryz.prog 12 [str s,msgV m hv] K [] (Ret fun v K' L'=>v=.bool true):=by
 have hh0:=hh;obtain⟨ha,hn,hc,rfl⟩:=hh.isSlice;refine aZ Tryz.func12 rfl Tryz.ntmps12 rfl rfl fun F w=>?_
 refine zz3 ?_;rintro _ K _ ⟨b3,rfl,rfl,rfl⟩ -;refine zz5 ?_;refine aY rfl rfl (aO1 _ hg hE) .nil rfl ?_;rintro _ K1 _ ⟨rfl,rfl⟩ le1;refine zz6 ?_;refine aY rfl rfl (aIL m (.slice ha hn hc) _ (hh0.mono le1) hz) .nil rfl ?_;rintro _ K1 _ ⟨sb,rfl,hsb,rfl,rfl⟩ -;refine zz12 ?_;refine aA gBN rfl ?_;refine zz3 ?_;refine d8 26 rfl (fun h26=>?_) (fun h26=>?_)
 ·
  refine zz8 ?_;refine uAw ?_;refine bJ rfl rfl le1 ?_;exact⟨_,rfl,rfl⟩
 ·
  have hm:MsgOk m:=hsb (by simpa using h26);refine zz5 ?_;refine aY rfl rfl (pC s _ (hg.mono le1) (hE.mono le1)) .nil rfl ?_;rintro _ K4 _ ⟨x,rfl,hP,rfl⟩ le4;have le14:=Hl.le_trans le1 le4;refine zz9 ?_;rcases hP with ⟨b,r,h6,hr,rfl,hat⟩|⟨rfl,hno⟩
  ·
   refine zz13 ?_;refine aY rfl rfl (aT0 b r _ (hg.mono le14) (aBC hr h6) hat) .nil rfl ?_;rintro _ K5 _ ⟨rfl,rfl⟩ le5;have htl:=(aDU (aBC hr h6)).2.2;have le15:=Hl.le_trans le14 le5;refine zz11 ?_;refine bG 40 rfl (fun h40=>?_) (fun h40=>?_)
   ·
    have le18:=le15;refine zz7 ?_;refine uAw ?_;refine bJ rfl rfl le18 ?_;exact⟨_,rfl,rfl⟩
   ·
    have ht6:(oV r).length≤600:=aH;refine zz6 ?_;refine aY rfl rfl (aDF b r s m (.slice ha hn hc) _ (hg.mono le15) (hE.mono le15) hr h6 (hat.mono le5) (hh0.mono le15) hm) .nil rfl ?_;rintro _ K7 _ ⟨av,rfl,rfl⟩ le7;have le17:=Hl.le_trans le15 le7;refine zz13 ?_;refine aY rfl rfl (xK (oV r) m (.slice ha hn hc) _ (hg.mono le17) (hE.mono le17) (hh0.mono le17) hm) .nil rfl ?_;rintro _ K8 _ ⟨bv,rfl,rfl⟩ le8;rw[Say.same_law m hr h6 ht6];have hal:(sayC r m).acts.length≤7:=aTF hm (aYT hr h6).1
    generalize hout:sayC r m=out at*
    have le18:=Hl.le_trans le17 le8;refine zz13 ?_;refine aY rfl rfl (aKV av bv out.acts out.acts _ aH aH) (.cons (.there .here) (.cons .here .nil)) rfl ?_;rintro _ K8 _ ⟨rfl,rfl,rfl⟩ -;rw[decide_eq_true (rfl:out.acts=out.acts)];refine zz16 ?_;refine aA (aLW rfl rfl rfl) rfl ?_;refine zz5 ?_;refine uAw ?_;refine bJ rfl rfl le18 ?_;exact⟨_,rfl,rfl⟩
  ·
   refine zz15 ?_;refine uAw ?_;refine bJ rfl rfl le14 ?_;exact⟨_,rfl,rfl⟩
end Go.Proofs
end
section
set_option maxRecDepth 100000
namespace Go.Proofs
open Go Go.SL Go.Syn Go.Mach Go.ChangeShapes Go.WideShapes Go.RowKit
namespace TzRow
section
variable{H:Type}{enc:TypeId×Value→H}{W:World}{base:Nat}{sp:Nat→Bool}{held:Bool}
theorem aE8{n:Nat}{cs:List Value}{x:DataW H×List MemPlace}(h:DataW.trod enc Tryz.prog W base sp held n 9 cs=some x):∃l:aJ,cs=[str l]∧l.length∈x.1.weights Tryz.prog 9:=by
 obtain⟨l,h1,h2⟩:=aUC Tryz.underlying9 h;exact⟨l,h1,by rw[h2];simp[DataW.weights]⟩
theorem aZ9{n:Nat}{cs:List Value}{x:DataW H×List MemPlace}{M:List Nat}(h:DataW.trod enc Tryz.prog W base sp held n 25 cs=some x)(hM:∀k∈x.1.weights Tryz.prog 25,k∈M):∃a:aJ×aJ,cs=hdEl.enc a∧a.1.length∈M∧a.2.length∈M:=by
 obtain⟨m,hl,hf⟩:=yZ Tryz.underlying25 h;have c25:Tryz.prog.cellsOf 25=2:=by kernel_rfl
 have c9:Tryz.prog.cellsOf 9=1:=by kernel_rfl
 rw[c25]at hl
 match cs,hl,hf with
 | [c0,c1],_,hf=>
  obtain⟨y0,h0,w0⟩:=hf 0 _ rfl;obtain⟨y1,h1,w1⟩:=hf 1 _ rfl;dsimp only at h0 h1 w0 w1;rw[c9]at h0 h1;obtain⟨l0,e0,k0⟩:=aE8 h0;obtain⟨l1,e1,k1⟩:=aE8 h1;simp at e0 e1;subst e0 e1;exact⟨(l0,l1),rfl,hM _ (w0 _ k0),hM _ (w1 _ k1)⟩
theorem in_msg{v:Value}{d:DataW H}{p:List MemPlace}{M:List Nat}(hv:Value.okWide Tryz.prog W .any base 28 v)(h:DataW.Trod enc Tryz.prog W 0 sp held 28 v d p)(hM:∀k∈d.weights Tryz.prog 28,k∈M)(hB:∀k∈M,k≤reachBytes):
  ∃m hv,v=msgV m hv∧Ksl hdEl (hp W) hv m.hs∧MsgSz m:=by
 obtain⟨cs,rfl,hc⟩:=okWide_struct Tryz.underlying28 hv;obtain⟨n,hf⟩:=h;have c28:Tryz.prog.cellsOf 28=4:=by kernel_rfl
 have c9:Tryz.prog.cellsOf 9=1:=by kernel_rfl
 have c3:Tryz.prog.cellsOf 3=1:=by kernel_rfl
 have c26:Tryz.prog.cellsOf 26=1:=by kernel_rfl
 have b25:Tryz.prog.bytesOf 25=32:=by kernel_rfl
 obtain⟨m,hl,hf⟩:=yZ Tryz.underlying28 hf;rw[c28]at hc hl;obtain⟨l⟩:=cs;have hl':l.length=4:=hl
 match l,hl',hf with
 | [c0,c1,c2,c3'],_,hf=>
  obtain ⟨y0, h0, w0⟩ := hf 0 _ rfl;obtain ⟨y1, h1, w1⟩ := hf 1 _ rfl;obtain ⟨y2, h2, w2⟩ := hf 2 _ rfl;obtain ⟨y3, h3, w3⟩ := hf 3 _ rfl;dsimp only at h0 h1 h2 h3 w0 w1 w2 w3;rw [c9] at h0 h1;rw [c3] at h2;rw [c26] at h3;obtain ⟨l0, e0, k0⟩ := aE8 h0;obtain ⟨l1, e1, k1⟩ := aE8 h1;obtain ⟨i, e2, _⟩ := aUB Tryz.underlying3 h2;have h3' : DataW.trod enc Tryz.prog W 0 sp held m 26 [c3'] = some y3 := h3;obtain ⟨xs, ks, hG, hlen⟩ := aY0 (k := hdEl) (G := fun a => a.1.length ≤ reachBytes ∧ a.2.length ≤ reachBytes) Tryz.underlying26 b0 (by decide) (fun n cs y hy hw => by
   obtain⟨a,ha,k1,k2⟩:=aZ9 (M:=y3.1.weights Tryz.prog 26) hy hw;exact⟨a,ha,hB _ (hM _ (w3 _ k1)),hB _ (hM _ (w3 _ k2))⟩) h3'
  simp[Value.cells]at e0 e1 e2;subst e0 e1 e2;have q0:=hB _ (hM _ (w0 _ k0));have q1:=hB _ (hM _ (w1 _ k1));refine⟨⟨l0,l1,i,xs⟩,c3',rfl,ks,?_⟩
  have hr:reachBytes=140737488351232:=rfl;rw[hr]at q0 q1 hG;refine⟨by show l0.length≤_;omega,by show l1.length≤_;omega,?_,fun a ha=>?_⟩
  ·show xs.length≤_
   rcases hlen with rfl|⟨k,hk,hk2⟩
   ·simp
   ·have:=hB _ (hM _ (w3 _ hk));rw[hr]at this;have e25:hdEl.e=25:=rfl;rw[e25,b25]at hk2;omega
  ·have:=hG a ha;exact⟨by omega,by omega⟩
end
end TzRow
end Go.Proofs
end

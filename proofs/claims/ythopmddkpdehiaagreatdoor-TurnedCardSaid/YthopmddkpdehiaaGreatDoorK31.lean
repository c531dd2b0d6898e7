/-
  What the proof stands on, part 31: the logic of walks, the walks through the functions, the plain laws. Conditions: as each theorem says. (Merged and shortened by a program.)
-/
import Derived.Test.YthopmddkpdehiaaGreatDoorK30
set_option linter.unusedVariables false
set_option linter.unusedSimpArgs false
set_option maxRecDepth 4000
set_option maxHeartbeats 1000000
namespace Go
theorem gAB{p:Prop}(h:p:=by simp only[List.length_append,List.length_cons,List.length_nil,hhl];omega):p:=h
theorem gBX{p:Prop}(h:p:=by intro h0;rw[List.append_eq_nil_iff]at h0;rw[h0.1]at hl;simp only[List.length_nil]at hl;omega):p:=h
theorem gCA{p:Prop}(h:p:=by simpa using g143):p:=h
end Go
section
namespace Go.Syn
theorem t6{s:aJ}:∀(n f g a:Nat),s.length+1 - a≤n→s.length+1 - a≤f→s.length+1 - a≤g→0 < f→0 < g→l6 s f a=l6 s g a
 |n,0,g,a,hn,hf,hg,h1,h2=>by omega
 |n,f+1,0,a,hn,hf,hg,h1,h2=>by omega
 |n,f+1,g+1,a,hn,hf,hg,h1,h2=>by
  rcases Nat.lt_or_ge a s.length with ha|ha
  ·obtain⟨n,rfl⟩:∃m,n=m+1:=⟨n - 1,by omega⟩;have hc:s[a]?=some s[a]:=List.getElem?_eq_getElem ha
   by_cases b1:s[a].toNat=32∨s[a].toNat=9∨s[a].toNat=13∨s[a].toNat=10
   ·rw[nN hc b1,nN hc b1];exact t6 n f g (a+1) aI aI aI aI aI
   by_cases b2:s[a].toNat=35
   ·have:=aJ1 hc b2;rw[xQ hc b2,xQ hc b2];exact t6 n f g _ aI aI aI aI aI
   by_cases b3:s[a].toNat=47
   ·by_cases b4:((s[a+1]?).getD 0).toNat=42
    ·by_cases b5:Lib.index (s.drop (min (a+2) s.length)) [42,47] < 0
     ·rw[aBH hc b3 b4 b5,aBH hc b3 b4 b5]
     rw[rB hc b3 b4 b5,rB hc b3 b4 b5];exact t6 n f g _ aI aI aI aI aI
    rw[nO hc b3 b4,nO hc b3 b4]
   rw[pN hc aI,pN hc aI]
  rw[sO ha,sO ha]
theorem aOH{s:aJ}{a:Nat}{c:UInt8}(hc:s[a]?=some c)(h:c.toNat=35):skip s a=skip s (a+((s.drop a).takeWhile fun c=>decide (¬c.toNat=10)).length):=by
 have h1:=aJ1 hc h;unfold skip;rw[show s.length+1 - a=(s.length - a)+1 from by omega,xQ hc h];exact t6 _ _ _ _ (Nat.le_refl _) aI aI aI aI
theorem aEY{s:aJ}{a:Nat}{c:UInt8}(hc:s[a]?=some c)(h:c.toNat=47)(hn:((s[a+1]?).getD 0).toNat=42)(hx:¬Lib.index (s.drop (min (a+2) s.length)) [42,47] < 0)(hl:a+2+(Lib.index (s.drop (min (a+2) s.length)) [42,47]).toNat+2≤s.length):skip s a=skip s (a+2+(Lib.index (s.drop (min (a+2) s.length)) [42,47]).toNat+2):=by
 unfold skip;rw[show s.length+1 - a=(s.length - a)+1 from by omega,rB hc h hn hx];exact t6 _ _ _ _ (Nat.le_refl _) aI aI aI aI
def aE4:aJ→Bool
 | []=>true
 |c::r=>decide (c.toNat=10)&&r.all fun c=>decide (c.toNat≠34∧c.toNat≠42)
def r8:aJ→Bool
 | []=>true
 |c::r=>decide (c.toNat=10)
theorem xV{R:aJ}(h:aE4 R=true):r8 R=true:=by
 cases R with
 |nil=>rfl
 |cons c r=>simp only[aE4,Bool.and_eq_true]at h;exact h.1
theorem aVD{R:aJ}(h:aE4 R=true):∀c∈R,c.toNat≠34∧c.toNat≠42:=by
 cases R with
 |nil=>simp
 |cons c r=>
  simp only[aE4,Bool.and_eq_true,decide_eq_true_eq,List.all_eq_true]at h;intro x hx;rcases List.mem_cons.1 hx with rfl|hx
  ·omega
  exact h.2 x hx
theorem aE7{p:UInt8→Bool}{Y R R':aJ}(h:∀c,R.head?=some c→p c=false)(h':∀c,R'.head?=some c→p c=false):(Y++R).takeWhile p=Y.takeWhile p∧(Y++R').takeWhile p=Y.takeWhile p:=by
 have key:∀(Y R:aJ),(∀c,R.head?=some c→p c=false)→(Y++R).takeWhile p=Y.takeWhile p:=by
  intro Y R h;induction Y with
  |nil=>
   cases R with
   |nil=>rfl
   |cons c r=>rw[List.nil_append,List.takeWhile_cons,h c rfl];rfl
  |cons c Y ih=>
   rw[List.cons_append,List.takeWhile_cons,List.takeWhile_cons,ih]
 exact⟨key Y R h,key Y R' h'⟩
theorem mX{R:aJ}(h:r8 R=true){p:UInt8→Bool}(hp:p 10=false):∀c,R.head?=some c→p c=false:=by
 intro c hc;cases R with
 |nil=>cases hc
 |cons x r=>
  simp at hc;subst hc
  simp only[r8,decide_eq_true_eq]at h;have:x=10:=UInt8.toNat_inj.1 h;rw[this];exact hp
theorem bH4{R:aJ}(h:∀c∈R,c.toNat≠42):Lib.index R [42,47]= -1:=by
 induction R with
 |nil=>rfl
 |cons c r ih=>
  have h1:=ih fun x hx=>h x (by simp[hx])
  have h2:¬(42=c):=fun e=>h c (by simp) (by rw[←e];rfl)
  simp[Lib.index,List.isPrefixOf,h1,h2]
theorem aNK{R R':aJ}(hR:aE4 R=true)(hR':r8 R'=true):∀Y:aJ,¬Lib.index (Y++R) [42,47] < 0→Lib.index (Y++R') [42,47]=Lib.index (Y++R) [42,47]∧(Lib.index (Y++R) [42,47]).toNat+2≤Y.length
 | [],h=>absurd (by rw[List.nil_append,bH4 fun c hc=>(aVD hR c hc).2];decide) h
 |b::Y,h=>by
  have hp:∀(b:UInt8) (Q:aJ),r8 Q=true→([42,47].isPrefixOf (b::(Y++Q))=true↔b=42∧∃Y2,Y=47::Y2):=by
   intro b Q hQ;cases Y with
   |nil=>
    cases Q with
    |nil=>simp[List.isPrefixOf]
    |cons q Q=>
     simp only[r8,decide_eq_true_eq]at hQ;have:q=10:=UInt8.toNat_inj.1 hQ;subst this;simp[List.isPrefixOf]
   |cons y Y=>
    simp[List.isPrefixOf];exact⟨fun h=>⟨h.1.symm,h.2.symm⟩,fun h=>⟨h.1.symm,h.2.symm⟩⟩
  have p1:=hp b R (xV hR);have p2:=hp b R' hR';simp only[List.cons_append,Lib.index]at h ⊢
  by_cases hc:b=42∧∃Y2,Y=47::Y2
  ·rw[if_pos (p1.2 hc),if_pos (p2.2 hc)];obtain⟨_,Y2,rfl⟩:=hc;simp
  rw[if_neg (fun e=>hc (p1.1 e))]at h ⊢;rw[if_neg (fun e=>hc (p2.1 e))]
  by_cases hi:Lib.index (Y++R) [42,47] < 0
  ·have:Lib.index (Y++R) [42,47]= -1:=by have:=Lib.index_ge (Y++R) [42,47];omega
   rw[this]at h;simp at h
  obtain⟨i1,i2⟩:=aNK hR hR' Y hi;have hne:¬(Lib.index (Y++R) [42,47]== -1)=true:=by simp;omega
  rw[i1,if_neg hne];refine⟨rfl,?_⟩
  simp only[List.length_cons];omega
section
variable{s s' R R':aJ}
theorem nW{a:Nat}{c:UInt8}{Y:aJ}(h:s.drop a=c::Y++R):s[a]?=some c∧s.drop (a+1)=Y++R:=by
 obtain⟨h1,_,h3⟩:=gC (show s.drop a=c::(Y++R)from h);exact⟨h1,h3⟩
theorem sA{a:Nat}{Q:aJ}(h:s.drop a=Q):s[a]?=Q.head?:=by
 cases Q with
 |nil=>
  have:=congrArg List.length h;rw[List.length_drop]at this;simp at this;rw[List.getElem?_eq_none aI];rfl
 |cons c Q=>rw[(gC h).1];rfl
theorem bKE(hR:aE4 R=true)(hR':r8 R'=true):∀(n:Nat) (Y:aJ) (a a' b:Nat),Y.length≤n→s.drop a=Y++R→s'.drop a'=Y++R'→skip s a=.ok b→
  (∃Z c Y2,Y=Z++c::Y2∧b=a+Z.length∧skip s' a'=.ok (a'+Z.length))∨(skip s a=skip s (a+Y.length)∧skip s' a'=skip s' (a'+Y.length)):=by
 intro n;induction n with
 |zero=>
  intro Y a a' b hn h h' e;have:Y=[]:=List.length_eq_zero_iff.1 aI;subst this;exact .inr ⟨rfl,rfl⟩
 |succ n ih=>
  intro Y a a' b hn h h' e;cases Y with
  |nil=>exact .inr ⟨rfl,rfl⟩
  |cons c Y=>
   obtain⟨h1,h2⟩:=nW h;obtain⟨h1',h2'⟩:=nW h';have step:∀W Y':aJ,c::Y=W++Y'→W≠[]→skip s a=skip s (a+W.length)→skip s' a'=skip s' (a'+W.length)→
     (∃Z d Y2,c::Y=Z++d::Y2∧b=a+Z.length∧skip s' a'=.ok (a'+Z.length))∨(skip s a=skip s (a+(c::Y).length)∧skip s' a'=skip s' (a'+(c::Y).length)):=by
    intro W Y' hW h0 q q';have hl:W.length+Y'.length=Y.length+1:=by have:=congrArg List.length hW;simp at this;omega
    have h0:0 < W.length:=List.length_pos_iff.2 h0;rw[hW]at h h';rw[List.append_assoc]at h h';rw[q]at e;rcases ih Y' (a+W.length) (a'+W.length) b (by simp at hn;omega) (jK h) (jK h') e with ⟨Z,d,Y2,e1,e2,e3⟩|⟨e1,e2⟩
    ·refine .inl ⟨W++Z,d,Y2,by rw[hW,e1,List.append_assoc],by rw[List.length_append];omega,?_⟩
     rw[q',e3,List.length_append]
     congr 1;omega
    refine .inr ⟨?_,?_⟩
    ·rw[q,e1];congr 1;simp;omega
    rw[q',e2];congr 1;simp;omega
   have here:skip s a=.ok a→skip s' a'=.ok a'→(∃Z d Y2,c::Y=Z++d::Y2∧b=a+Z.length∧skip s' a'=.ok (a'+Z.length))∨(skip s a=skip s (a+(c::Y).length)∧skip s' a'=skip s' (a'+(c::Y).length)):=by
    intro q q';rw[q]at e;cases e
    exact .inl ⟨[],c,Y,rfl,rfl,q'⟩
   by_cases b1:jQ c=true
   ·exact step [c] Y rfl (by simp) (xR (t:=Y++R) h b1) (xR (t:=Y++R') h' b1)
   by_cases b2:c.toNat=35
   ·have t:=aE7 (Y:=c::Y) (p:=fun c=>decide (¬c.toNat=10)) (mX (xV hR) rfl) (mX hR' rfl);have q:=aOH h1 b2;have q':=aOH h1' b2;rw[h,t.1]at q;rw[h',t.2]at q';refine step _ _ (List.takeWhile_append_dropWhile (p:=fun c:UInt8=>decide (¬c.toNat=10)) (l:=c::Y)).symm ?_ q q'
    rw[List.takeWhile_cons,if_pos gAI];simp
   by_cases b3:c.toNat=47
   ·have hY:∀Q:aJ,r8 Q=true→((((Y++Q).head?).getD 0).toNat=42↔∃Y2,Y=42::Y2):=by
     intro Q hQ;cases Y with
     |nil=>
      cases Q with
      |nil=>simp
      |cons q Q=>simp only[r8,decide_eq_true_eq]at hQ;simp[hQ]
     |cons y Y=>
      simp;exact⟨fun e=>UInt8.toNat_inj.1 e,fun e=>by rw[e];rfl⟩
    have g1:((s[a+1]?).getD 0).toNat=42↔∃Y2,Y=42::Y2:=by rw[sA h2];exact hY R (xV hR)
    have g2:((s'[a'+1]?).getD 0).toNat=42↔∃Y2,Y=42::Y2:=by rw[sA h2'];exact hY R' hR'
    have len:∀ {q:aJ} {a:Nat} {c:UInt8},q[a]?=some c→q.length+1 - a=(q.length - a)+1:=by
     intro q a c hh;rcases Nat.lt_or_ge a q.length with h'|h'
     ·omega
     rw[List.getElem?_eq_none h']at hh;cases hh
    by_cases b4:∃Y2,Y=42::Y2
    ·obtain⟨Y2,rfl⟩:=b4;obtain⟨_,k2⟩:=nW h2;obtain⟨_,k2'⟩:=nW h2';have l1:=rH h (by simp);have l2:=rH h' (by simp);simp only[List.length_append,List.length_cons]at l1 l2;have m1:min (a+2) s.length=a+2:=by omega
     have m2:min (a'+2) s'.length=a'+2:=by omega
     by_cases b5:Lib.index (s.drop (min (a+2) s.length)) [42,47] < 0
     ·unfold skip at e;rw[len h1,aBH h1 b3 (g1.2 ⟨Y2,rfl⟩) b5]at e;cases e
     have b6:¬Lib.index (Y2++R) [42,47] < 0:=by
      rw[m1,show a+2=a+1+1 from rfl,k2]at b5;exact b5
     obtain⟨i1,i2⟩:=aNK hR hR' Y2 b6;have q:=aEY h1 b3 (g1.2 ⟨Y2,rfl⟩) b5 (by rw[m1,show a+2=a+1+1 from rfl,k2];omega);have b5':¬Lib.index (s'.drop (min (a'+2) s'.length)) [42,47] < 0:=by
      rw[m2,show a'+2=a'+1+1 from rfl,k2',i1];exact b6
     have q':=aEY h1' b3 (g2.2 ⟨Y2,rfl⟩) b5' (by rw[m2,show a'+2=a'+1+1 from rfl,k2',i1];omega);rw[m1,show a+2=a+1+1 from rfl,k2]at q;rw[m2,show a'+2=a'+1+1 from rfl,k2',i1]at q';refine step ((c::42::Y2).take ((Lib.index (Y2++R) [42,47]).toNat+4)) ((c::42::Y2).drop ((Lib.index (Y2++R) [42,47]).toNat+4)) (List.take_append_drop _ _).symm (by simp) ?_ ?_
     ·rw[q];congr 1;rw[List.length_take,List.length_cons,List.length_cons];omega
     rw[q'];congr 1;rw[List.length_take,List.length_cons,List.length_cons];omega
    refine here ?_ ?_
    ·unfold skip;rw[len h1,nO h1 b3 (fun e=>b4 (g1.1 e))]
    unfold skip;rw[len h1',nO h1' b3 (fun e=>b4 (g2.1 e))]
   have hf:s8 c=true:=by
    simp only[jQ,decide_eq_true_eq]at b1;simp only[s8,decide_eq_true_eq];omega
   exact here (aGI (t:=Y++R) h hf) (aGI (t:=Y++R') h' hf)
theorem aN8{w:Int}:∀(f:Nat) (a:Nat) (acc:aJ) (r:Nat×aJ),(∀c∈s.drop a,c.toNat≠34)→iO s w f a acc=.ok r→False:=by
 intro f;induction f with
 |zero=>intro a acc r _ e;cases e
 |succ f ih=>
  intro a acc r hq e;have hn:¬(a < s.length∧((s[a]?).getD 0).toNat=34):=by
   rintro⟨h1,h2⟩;rw[List.getElem?_eq_getElem h1]at h2;exact hq s[a] (List.mem_of_getElem? (show (s.drop a)[0]?=some s[a] by rw[List.getElem?_drop,Nat.add_zero,List.getElem?_eq_getElem h1])) h2
  have hmem:∀k,∀c∈s.drop (a+k),c.toNat≠34:=fun k c hc=>hq c (by rw[←List.drop_drop]at hc;exact List.mem_of_mem_drop hc)
  by_cases hc:((s[a]?).getD 0).toNat=92
  ·by_cases hl:s.length≤a+1
   ·rw[xM hn hc hl]at e;cases e
   rw[pL hn hc hl]at e;exact ih _ _ _ (hmem 2) e
  by_cases hl:s.length≤a
  ·rw[rA hn hc hl]at e;cases e
  rw[n5 hn hc hl]at e;exact ih _ _ _ (hmem 1) e
theorem aX6(hR:∀c∈R,c.toNat≠34){w w':Int}:∀(f:Nat) (Y:aJ) (a a' f':Nat) (acc:aJ) (r:Nat×aJ),s.drop a=Y++R→s'.drop a'=Y++R'→Y.length < f'→iO s w f a acc=.ok r→
  ∃Z Y2,Y=Z++Y2∧Z≠[]∧r.1=a+Z.length∧iO s' w' f' a' acc=.ok (a'+Z.length,r.2)∧∀x∈r.2,x∈acc∨x∈Y:=by
 intro f;induction f with
 |zero=>intro Y a a' f' acc r h h' hf e;cases e
 |succ f ih=>
  intro Y a a' f' acc r h h' hf e;obtain⟨f',rfl⟩:∃g,f'=g+1:=⟨f' - 1,by omega⟩;cases Y with
  |nil=>
   exact(aN8 (f+1) a acc r (by rw[h];exact hR) e).elim
  |cons c Y=>
   obtain⟨h1,h2⟩:=nW h;obtain⟨h1',h2'⟩:=nW h';have l1:=rH h (by simp);have l2:=rH h' (by simp);simp only[List.length_append,List.length_cons]at l1 l2 hf
   by_cases b1:c.toNat=34
   ·rw[uS aI (by rw[h1];exact b1)]at e;cases e
    refine⟨[c],Y,rfl,by simp,rfl,?_,fun x hx=>.inl hx⟩
    rw[uS aI (by rw[h1'];exact b1)];rfl
   have n1:¬(a < s.length∧((s[a]?).getD 0).toNat=34):=by rw[h1];exact fun h=>b1 h.2
   have n2:¬(a' < s'.length∧((s'[a']?).getD 0).toNat=34):=by rw[h1'];exact fun h=>b1 h.2
   by_cases b2:c.toNat=92
   ·by_cases hl:s.length≤a+1
    ·rw[xM n1 (by rw[h1];exact b2) hl]at e;cases e
    rw[pL n1 (by rw[h1];exact b2) hl]at e;cases Y with
    |nil=>exact(aN8 f (a+2) _ r (fun c hc=>hR c (by rw[show a+2=a+1+1 from rfl,←List.drop_drop,h2]at hc;exact List.mem_of_mem_drop hc)) e).elim
    |cons d Y=>
     obtain⟨k1,k2⟩:=nW h2;obtain⟨k1',k2'⟩:=nW h2';simp only[List.length_cons]at l2 hf;obtain⟨Z,Y2,e1,e2,e3,e4,e5⟩:=ih Y (a+2) (a'+2) f' _ r k2 k2' aI e;refine⟨c::d::Z,Y2,by rw[e1];rfl,by simp,by simp;omega,?_,fun x hx=>?_⟩
     ·rw[pL n2 (by rw[h1'];exact b2) aI,k1',←k1,e4];congr 2;simp;omega
     rcases e5 x hx with h|h
     ·rcases List.mem_append.1 h with h|h
      ·exact .inl h
      rw[k1]at h;simp at h;exact .inr (by simp[h])
     exact .inr (by simp[h])
   rw[n5 n1 (by rw[h1];exact b2) aI]at e;obtain⟨Z,Y2,e1,e2,e3,e4,e5⟩:=ih Y (a+1) (a'+1) f' _ r h2 h2' aI e;refine⟨c::Z,Y2,by rw[e1];rfl,by simp,by simp;omega,?_,fun x hx=>?_⟩
   ·rw[n5 n2 (by rw[h1'];exact b2) aI,h1',←h1,e4];congr 2;simp;omega
   rcases e5 x hx with h|h
   ·rcases List.mem_append.1 h with h|h
    ·exact .inl h
    rw[h1]at h;simp at h;exact .inr (by simp[h])
   exact .inr (by simp[h])
def CutW(s':aJ)(Y:aJ)(b b':Nat)(q:Nat×Word)(e':Res (Nat×Word)):Prop:=
 ∃Z Y2,Y=Z++Y2∧Z≠[]∧q.1=b+Z.length∧q.2.kind≠0∧(∃q',e'=.ok q'∧q'.1=b'+Z.length∧q'.2.wd=q.2.wd∧q'.2.kind≠0)∧((∀y∈Y,y≠36)→∀x∈q.2.s,x≠36)
theorem bN8:∀n:Fin 256,mG 65 90 32 (UInt8.ofNat n.val)=36→UInt8.ofNat n.val=36:=by decide+kernel
theorem aOI{w:aJ}(h:∀y∈w,y≠36):∀x∈dG w,x≠36:=by
 intro x hx e;obtain⟨y,hy,rfl⟩:=List.mem_map.1 hx;have:=bN8 ⟨y.toNat,y.toNat_lt⟩;simp only[UInt8.ofNat_toNat]at this;exact h y hy (this e)
theorem bDC(hR:aE4 R=true)(hR':r8 R'=true){b b':Nat}{c:UInt8}{Y:aJ}{q:Nat×Word}(h:s.drop b=c::Y++R)(h':s'.drop b'=c::Y++R')(e:mT s b c=.ok q):CutW s' (c::Y) b b' q (mT s' b' c):=by
 obtain⟨h1,h2⟩:=nW h;obtain⟨h1',h2'⟩:=nW h';have wd2:=aE7 (Y:=c::Y) (p:=dO) (mX (xV hR) (by decide)) (mX hR' (by decide));have wd1:=aE7 (Y:=Y) (p:=dO) (mX (xV hR) (by decide)) (mX hR' (by decide));have hsub:∀ {l:aJ} {y},y∈l.takeWhile dO→y∈l:=fun hy=>(List.takeWhile_sublist _).subset hy
 unfold mT at e ⊢
 by_cases b1:fO c=true
 ·rw[if_pos b1]at e ⊢;cases e
  exact⟨[c],Y,rfl,by simp,rfl,by simp,⟨_,rfl,rfl,rfl,by simp⟩,fun hy x hx=>by simp at hx;rw[hx];exact hy c (by simp)⟩
 rw[if_neg b1]at e ⊢
 by_cases b2:c.toNat=34
 ·rw[if_pos b2]at e ⊢;split at e
  ·cases e
  rename_i r hr;cases e
  have l2:=rH h' (by simp);simp only[List.length_append,List.length_cons]at l2;unfold quoted at hr ⊢;obtain⟨Z,Y2,e1,e2,e3,e4,e5⟩:=aX6 (w':=(b':Int)) (fun c hc=>(aVD hR c hc).1) _ Y (b+1) (b'+1) (s'.length+1 - b') [] r h2 h2' aI hr;rw[e4];refine⟨c::Z,Y2,by rw[e1];rfl,by simp,by simp;omega,by simp,⟨_,rfl,by simp;omega,rfl,by simp⟩,fun hy x hx=>?_⟩
  rcases e5 x hx with h|h
  ·cases h
  exact hy x (by simp[h])
 rw[if_neg b2]at e ⊢
 by_cases b3:c.toNat=58
 ·rw[if_pos b3]at e ⊢
  by_cases b4:jE ((s[b+1]?).getD 0)=true
  ·rw[if_pos b4]at e;cases e
   have hY:Y≠[]:=by
    rintro rfl;rw[sA h2]at b4;have:=mX (xV hR) (p:=jE) (by decide);cases R with
    |nil=>exact absurd b4 (by decide)
    |cons d R=>rw[show ([]++d::R:aJ).head?=some d from rfl]at b4;simp only[Option.getD_some]at b4;rw[this d rfl]at b4;cases b4
   have hs:(s[b+1]?).getD 0=(s'[b'+1]?).getD 0:=by
    rw[sA h2,sA h2'];cases Y with
    |nil=>exact absurd rfl hY
    |cons y Y=>rfl
   rw[hs]at b4;rw[if_pos b4];have w1:kY s (b+1)=Y.takeWhile dO:=by unfold kY;rw[h2,wd1.1]
   have w2:kY s' (b'+1)=Y.takeWhile dO:=by unfold kY;rw[h2',wd1.2]
   rw[w1,w2];refine⟨c::Y.takeWhile dO,Y.dropWhile dO,by rw[List.cons_append,List.takeWhile_append_dropWhile],by simp,by simp;omega,by simp,⟨_,rfl,by simp;omega,rfl,by simp⟩,fun hy=>?_⟩
   exact aOI fun y hh=>hy y (by simp[hsub hh])
  rw[if_neg b4]at e;cases e
 rw[if_neg b3]at e ⊢
 by_cases b4:jE c=true
 ·rw[if_pos b4]at e ⊢;cases e
  have w1:kY s b=(c::Y).takeWhile dO:=by unfold kY;rw[h,wd2.1]
  have w2:kY s' b'=(c::Y).takeWhile dO:=by unfold kY;rw[h',wd2.2]
  rw[w1,w2];have hne:(c::Y).takeWhile dO≠[]:=by
   rw[List.takeWhile_cons,if_pos (by simp[dO,b4])];simp
  exact⟨(c::Y).takeWhile dO,(c::Y).dropWhile dO,by rw[List.takeWhile_append_dropWhile],hne,rfl,by simp,⟨_,rfl,rfl,rfl,by simp⟩,fun hy=>aOI fun y hh=>hy y (hsub hh)⟩
 rw[if_neg b4]at e ⊢
 by_cases b5:eL c=true
 ·rw[if_pos b5]at e ⊢;split at e
  ·cases e
  rename_i r hr;cases e
  have dg:=aE7 (Y:=c::Y) (p:=eL) (mX (xV hR) (by decide)) (mX hR' (by decide));have d1:eT s b=(c::Y).takeWhile eL:=by unfold eT;rw[h,dg.1]
  have d2:eT s' b'=(c::Y).takeWhile eL:=by unfold eT;rw[h',dg.2]
  have hne:(c::Y).takeWhile eL≠[]:=by
   rw[List.takeWhile_cons,if_pos b5];simp
  have hsplit:c::Y=(c::Y).takeWhile eL++(c::Y).dropWhile eL:=by rw[List.takeWhile_append_dropWhile]
  generalize (c::Y).takeWhile eL=D at d1 d2 hne hsplit
  generalize (c::Y).dropWhile eL=Y2 at hsplit
  have k1:s.drop (b+D.length)=Y2++R:=jK (by rw[h,hsplit,List.append_assoc]);have k2:s'.drop (b'+D.length)=Y2++R':=jK (by rw[h',hsplit,List.append_assoc]);have hlt:∀Q:aJ,r8 Q=true→(((Y2++Q).head?).getD 0).toNat=((Y2.head?).getD 10).toNat∨Y2=[]∧(((Y2++Q).head?).getD 0).toNat=0:=by
   intro Q hQ;cases Y2 with
   |nil=>
    cases Q with
    |nil=>exact .inr ⟨rfl,rfl⟩
    |cons x Q=>simp only[r8,decide_eq_true_eq]at hQ;exact .inl (by simpa using hQ)
   |cons y Y2=>exact .inl rfl
  have n1:numC s b=((Y2.head?).getD 10).toNat∨Y2=[]∧numC s b=0:=by unfold numC;rw[d1,sA k1];exact hlt R (xV hR)
  have n2:numC s' b'=((Y2.head?).getD 10).toNat∨Y2=[]∧numC s' b'=0:=by unfold numC;rw[d2,sA k2];exact hlt R' hR'
  have km:∀k:Nat,k=77∨k=109∨k=75∨k=107→(numC s b=k↔numC s' b'=k)∧(numC s b=k→Y2≠[]):=by
   intro k hk;have h10:Y2=[]→((Y2.head?).getD 10).toNat=10:=by rintro rfl;rfl
   refine⟨?_,?_⟩
   ·rcases n1 with n1|⟨a1,n1⟩ <;> rcases n2 with n2|⟨a2,n2⟩ <;> (try have:=h10 ‹_›) <;> omega
   intro hh h0;have:=h10 h0;rcases n1 with n1|⟨a1,n1⟩ <;> omega
  have hv:numN s b=numN s' b':=by
   unfold numN;rw[d1,d2];simp only[(km 77 (by simp)).1,(km 109 (by simp)).1,(km 75 (by simp)).1,(km 107 (by simp)).1]
  have hx:∃Z Y3,c::Y=Z++Y3∧Z≠[]∧numA s b=b+Z.length∧numA s' b'=b'+Z.length:=by
   by_cases hk:numC s b=77∨numC s b=109∨numC s b=75∨numC s b=107
   ·have hY2:Y2≠[]:=by
     rcases hk with h|h|h|h
     ·exact(km 77 (by simp)).2 h
     ·exact(km 109 (by simp)).2 h
     ·exact(km 75 (by simp)).2 h
     exact(km 107 (by simp)).2 h
    have hk':numC s' b'=77∨numC s' b'=109∨numC s' b'=75∨numC s' b'=107:=by
     simpa only[(km 77 (by simp)).1,(km 109 (by simp)).1,(km 75 (by simp)).1,(km 107 (by simp)).1]using hk
    cases Y2 with
    |nil=>exact absurd rfl hY2
    |cons y Y2=>
     refine⟨D++[y],Y2,by rw[hsplit];simp,by simp,?_,?_⟩
     ·unfold numA;rw[if_pos hk,d1];simp;omega
     unfold numA;rw[if_pos hk',d2];simp;omega
   have hk':¬(numC s' b'=77∨numC s' b'=109∨numC s' b'=75∨numC s' b'=107):=by
    simpa only[(km 77 (by simp)).1,(km 109 (by simp)).1,(km 75 (by simp)).1,(km 107 (by simp)).1]using hk
   refine⟨D,Y2,hsplit,hne,?_,?_⟩
   ·unfold numA;rw[if_neg hk,d1]
   unfold numA;rw[if_neg hk',d2]
  obtain⟨Z,Y3,z1,z2,z3,z4⟩:=hx;have j1:s.drop (b+Z.length)=Y3++R:=jK (by rw[h,z1,List.append_assoc]);have j2:s'.drop (b'+Z.length)=Y3++R':=jK (by rw[h',z1,List.append_assoc]);have hwb:dO ((s[numA s b]?).getD 0)=dO ((s'[numA s' b']?).getD 0):=by
   rw[z3,z4,sA j1,sA j2];cases Y3 with
   |cons y Y3=>rfl
   |nil=>
    have key:∀Q:aJ,r8 Q=true→dO ((([]++Q:aJ).head?).getD 0)=false:=by
     intro Q hQ;cases Q with
     |nil=>decide
     |cons x Q=>exact mX hQ (p:=dO) (by decide) x rfl
    rw[key R (xV hR),key R' hR']
  unfold tV at hr ⊢;rw[←hwb,←hv];split at hr
  ·cases hr
  rename_i g1;split at hr
  ·cases hr
  rename_i g2;cases hr
  rw[if_neg g1,if_neg g2];exact⟨Z,Y3,z1,z2,z3,by simp,⟨_,rfl,z4,rfl,by simp⟩,fun _ x hx=>by cases hx⟩
 rw[if_neg b5]at e;cases e
theorem aKS(hR:aE4 R=true)(hR':r8 R'=true){a a':Nat}{Y:aJ}{q:St}(h:s.drop a=Y++R)(h':s'.drop a'=Y++R')(e:next s a=.ok q):
  CutW s' Y a a' q (next s' a')∨(next s a=next s (a+Y.length)∧next s' a'=next s' (a'+Y.length)):=by
 cases hk:skip s a with
 |error x=>unfold next at e;rw[hk]at e;cases e
 |ok b=>
  rcases bKE hR hR' _ Y a a' b (Nat.le_refl _) h h' hk with ⟨Z,c,Y2,e1,e2,e3⟩|⟨e1,e2⟩
  ·have k1:s.drop b=c::Y2++R:=by rw[e2];exact jK (by rw[h,e1,List.append_assoc])
   have k2:s'.drop (a'+Z.length)=c::Y2++R':=jK (by rw[h',e1,List.append_assoc]);unfold next at e;rw[hk]at e;simp only[(nW k1).1]at e;obtain⟨W,Y3,w1,w2,w3,w4,⟨q',w5,w6,w7,w8⟩,w9⟩:=bDC hR hR' k1 k2 e;refine .inl ⟨Z++W,Y3,by rw[e1,w1,List.append_assoc],by simp[w2],by rw[w3,e2,List.length_append];omega,w4,⟨q',?_,by rw[w6,List.length_append];omega,w7,w8⟩,fun hy=>w9 fun y hh=>hy y (by rw[e1];exact List.mem_append_right _ hh)⟩
   unfold next;rw[e3];simp only[(nW k2).1];exact w5
  refine .inr ⟨?_,?_⟩
  ·unfold next;rw[e1]
  unfold next;rw[e2]
def Rds(s:aJ)(a:Nat)(ws:List Wd)(c:Nat):Prop:=∀st3,next s c=.ok st3→∃st,next s a=.ok st∧Path s st ws st3
theorem Rds.cat{a b c:Nat}{u v:List Wd}(h1:Rds s a u b)(h2:Rds s b v c):Rds s a (u++v) c:=fun st3 e=>by
 obtain⟨st2,e2,p2⟩:=h2 st3 e;obtain⟨st1,e1,p1⟩:=h1 st2 e2;exact⟨st1,e1,jB.2 ⟨st2,p1,p2⟩⟩
theorem aT6(hR:aE4 R=true):∀(n:Nat) (Y:aJ) (a:Nat) (ws:List Wd) (st st2:St),Y.length≤n→s.drop a=Y++R→next s a=.ok st→Path s st ws st2→st2.2.kind=0→
  ∃wy wr st3,ws=wy++wr∧next s (a+Y.length)=.ok st3∧Path s st3 wr st2∧(∀s' a' R',r8 R'=true→s'.drop a'=Y++R'→Rds s' a' wy (a'+Y.length))∧((∀y∈Y,y≠36)→∀w∈wy,∀x∈w.2.1,x≠36):=by
 intro n;induction n with
 |zero=>
  intro Y a ws st st2 hn h e hp hk;have:Y=[]:=List.length_eq_zero_iff.1 aI;subst this;exact⟨[],ws,st,rfl,e,hp,fun s' a' R' _ _ st3 e3=>⟨st3,e3,rfl⟩,fun _ w hw=>by cases hw⟩
 |succ n ih=>
  intro Y a ws st st2 hn h e hp hk;have c0:=aKS (s':=Y) (R':=[]) (a':=0) hR rfl h (by simp) e;rcases c0 with ⟨Z,Y2,z1,z2,z3,z4,_,z6⟩|⟨c1,_⟩
  ·cases ws with
   |nil=>
    have:st2=st:=hp;rw[this]at hk;exact absurd hk z4
   |cons w ws=>
    obtain⟨_,p2,q,p3,p4⟩:=hp;have hz:0 < Z.length:=List.length_pos_iff.2 z2;have hl:Z.length+Y2.length=Y.length:=by rw[z1,List.length_append]
    obtain⟨wy,wr,st3,e1,e2,e3,e4,e5⟩:=ih Y2 (a+Z.length) ws q st2 aI (jK (by rw[h,z1,List.append_assoc])) (by rw[←z3];exact p3) p4 hk;refine⟨w::wy,wr,st3,by rw[e1];rfl,by rw[←e2];congr 1;omega,e3,fun s' a' R' hR' h' st4 e4'=>?_,fun hy w' hw'=>?_⟩
    ·rcases aKS hR hR' h h' e with ⟨Z',Y3,y1,y2,y3,y4,⟨q',y5,y6,y7,y8⟩,_⟩|⟨c1,_⟩
     ·have hZ:Z'.length=Z.length:=by have:=y3.symm.trans z3;omega
      obtain⟨st5,f1,f2⟩:=e4 s' (a'+Z.length) R' hR' (jK (by rw[h',z1,List.append_assoc])) st4 (by rw[←e4'];congr 1;omega);exact⟨q',y5,y8,by rw[y7];exact p2,st5,by rw[y6,hZ];exact f1,f2⟩
     exfalso
     rw[e]at c1;have hlen:=rH h gBX;rw[List.length_append]at hlen;have:=(oV (s:=s) (a:=a+Y.length) aI c1.symm).2.2 z4;rw[z3]at this;omega
    rcases List.mem_cons.1 hw' with rfl|hw'
    ·have:=z6 hy;intro x hx
     apply this
     have:st.2.wd.2.1=w'.2.1:=by rw[p2]
     rw[←this]at hx;exact hx
    exact e5 (fun y hh=>hy y (by rw[z1];exact List.mem_append_right _ hh)) w' hw'
  refine⟨[],ws,st,rfl,by rw[←c1];exact e,hp,fun s' a' R' hR' h' st3 e3=>?_,fun _ w hw=>by cases hw⟩
  rcases aKS hR hR' h h' e with ⟨Z,Y2,z1,z2,z3,z4,_⟩|⟨_,c2⟩
  ·exfalso
   rw[e]at c1;have hz:0 < Z.length:=List.length_pos_iff.2 z2;have hl:Z.length+Y2.length=Y.length:=by rw[z1,List.length_append]
   have hlen:=rH h gBX;rw[List.length_append]at hlen;have:=(oV (s:=s) (a:=a+Y.length) aI c1.symm).2.2 z4;rw[z3]at this;omega
  exact⟨st3,by rw[c2];exact e3,rfl⟩
end
section
variable{needs:List aJ}
theorem aEB{n:Nat}{u:List Wd}{t:Tree}(h:GTest needs n u t):GTest needs (n+1) u t:=by
 induction h with
 |tru n=>exact GTest.tru _
 |fls n=>exact GTest.fls _
 |not_ n u t _ ih=>exact GTest.not_ _ u t ih
 |many n all u t us _ _ ih1 ih2=>exact GTest.many _ all u t us ih1 ih2
 |mat n word op ext u v w h a b hm hx hg ga fa gb=>exact GTest.mat _ word op ext u v w h a b hm hx hg ga fa gb
 |exi n v a ga=>exact GTest.exi _ v a ga
 |siz n x k hx hk=>exact GTest.siz _ x k hx hk
theorem bMS{n:Nat}{B B':List Wd→Tree→Prop}(hB:∀u t,B u t→B' u t){u:List Wd}{t:Tree}(h:GCmd needs n B u t):GCmd needs (n+1) B' u t:=by
 cases h with
 |simple word c h=>exact GCmd.simple word _ h
 |act word kind ext arg h hx=>exact GCmd.act word kind ext arg h hx
 |set0 name value hv hn=>exact GCmd.set0 name value hv hn
 |set1 x name value i hv hn hi hx=>exact GCmd.set1 x name value i hv hn hi hx
 |iff ut t ub b brs els ht hb hbr hel=>exact GCmd.iff ut t ub b brs els (aEB ht) (hB _ _ hb) (fun p hp=>⟨aEB (hbr p hp).1,hB _ _ (hbr p hp).2⟩) (fun p hp=>hB _ _ (hel p hp))
theorem aNI:∀ {n:Nat} {u:List Wd} {t:Tree},fZ needs n u t→fZ needs (n+1) u t
 |0,u,t,h=>⟨[],by simp,h.1,h.2⟩
 |n+1,u,t,⟨cs,hc,e1,e2⟩=>⟨cs,fun p hp=>bMS (fun _ _ h=>aNI h) (hc p hp),e1,e2⟩
end
section
variable{s:aJ}
theorem aIN{ns:List aJ}{n:Nat}{v:List Wd}{t:Tree}{q e:St}(hb:fZ ns (n+1) v t)(hp:Path s q v e)(he:e.2.kind=0):¬(q.2.kind=1∧q.2.s=dY):=by
 have hv:=aCF hb;cases v with
 |nil=>have:e=q:=hp;subst this;rw[he];simp
 |cons w r=>
  obtain⟨k,x,m⟩:=w;rintro⟨a1,a2⟩;obtain⟨b1,b2,b3⟩:=rF hp.2.1;have hm:m=0:=by
   obtain⟨cs,hc,e,_⟩:=hb;cases cs with
   |nil=>cases e
   |cons p cs=>
    obtain⟨w',r',e',_,_⟩:=tB (hc p (by simp));rw[List.flatMap_cons,e']at e;simp at e;exact e.1.2.2
  exact hv _ _ rfl (by rw[hm,←b1,←b2,a1,a2])
theorem aKW{q e e':St}:∀ {v v':List Wd},Path s q v e→Path s q v' e'→e.2.kind=0→e'.2.kind=0→v=v'∧e=e':=by
 intro v;induction v generalizing q with
 |nil=>
  intro v' h h' k k';have:e=q:=h;subst this;cases v' with
  |nil=>exact⟨rfl,(show e'=e from h').symm⟩
  |cons w v'=>exact absurd k h'.1
 |cons w v ih=>
  intro v' h h' k k';cases v' with
  |nil=>
   have:e'=q:=h';subst this;exact absurd k' h.1
  |cons w' v'=>
   obtain⟨a1,a2,q1,a3,a4⟩:=h;obtain⟨b1,b2,q2,b3,b4⟩:=h';rw[a3]at b3;cases b3
   obtain⟨e1,e2⟩:=ih a4 b4 k k';exact⟨by rw[e1,←a2,←b2],e2⟩
theorem aQU{ns ns':List aJ}{u u':List Wd}{st q q':St}(ha:st.1≤s.length)(g:GReq [] u ns)(g':GReq [] u' ns')(p:Path s st u q)(p':Path s st u' q')(hk:¬(q.2.kind=1∧q.2.s=dY))(hk':¬(q'.2.kind=1∧q'.2.s=dY)):ns=ns'∧q=q':=by
 have h1:=aLA g (u.length+u'.length+1) st q aI ha p hk;have h2:=aLA g' (u.length+u'.length+1) st q' aI ha p' hk';rw[h1]at h2
 injection h2 with h2
 injection h2 with h3 h4
 exact⟨h3,h4⟩
theorem bVP{ns:List aJ}{v:List Wd}{t:Tree}(h:fZ ns 7 v t):fZ ns 8 v t:=aNI h
theorem aX2{r:List aJ×Tree}{u' v':List Wd}{ns':List aJ}{t':Tree}{st st':St}(h:eD s=.ok r)(h0:next s 0=.ok st)(hr:GReq [] u' ns')(hb:fZ ns' 8 v' t')(hp:Path s st (u'++v') st')(he:st'.2.kind=0):r.1=ns'∧dJ r.2=t':=by
 obtain⟨st0,e0,u,v,k0,g1,g2,k1,k2⟩:=vQ h;rw[h0]at k0;cases k0
 have ha:=(oV (Nat.zero_le _) h0).2.1;obtain⟨q,p1,p2⟩:=jB.1 k1;obtain⟨q',p1',p2'⟩:=jB.1 hp;obtain⟨e1,e2⟩:=aQU ha g1 hr p1 p1' (aIN g2 p2 k2) (aIN hb p2' he);subst e2;have m:=(lS ha p1).2;refine⟨e1,?_⟩
 rw[e1]at g2;obtain⟨t1,b1,b2⟩:=aAR 8 v _ (bVP g2) q e0 m p2 aI;obtain⟨t2,b3,b4⟩:=aAR 8 v' t' hb q st' m p2' aI;rw[b1]at b3
 injection b3 with b3
 injection b3 with b5 b6
 rw[←b2,←b4,b5]
def Rdx(X:aJ)(ws:List Wd)(P:aJ→Prop):Prop:=∀s a R,P R→s.drop a=X++R→Rds s a ws (a+X.length)
theorem Rdx.app{X Y:aJ}{u v:List Wd}{P Q:aJ→Prop}(h1:Rdx X u P)(h2:Rdx Y v Q)(hp:∀R,Q R→P (Y++R)):Rdx (X++Y) (u++v) Q:=fun s a R hR h=>by
 rw[List.append_assoc]at h;have:=(h1 s a (Y++R) (hp R hR) h).cat (h2 s (a+X.length) R hR (jK h));rw[List.length_append,←Nat.add_assoc];exact this
theorem aHT{a:Nat}{c:UInt8}{t:aJ}(h:s.drop a=c::t)(hc:jQ c=true):next s a=next s (a+1):=by
 unfold next;rw[xR h hc]
theorem Rdx.blank{X:aJ}{u:List Wd}{P:aJ→Prop}{c:UInt8}(h:Rdx X u P)(hc:jQ c=true):Rdx (c::X) u P:=fun s a R hR hd st3 e=>by
 obtain⟨_,k⟩:=nW hd;obtain⟨st,e1,e2⟩:=h s (a+1) R hR k st3 (by rw[←e];congr 1;simp;omega);exact⟨st,by rw[aHT (show s.drop a=c::(X++R)from hd) hc];exact e1,e2⟩
theorem Rdx.mono{X:aJ}{u:List Wd}{P Q:aJ→Prop}(h:Rdx X u P)(hq:∀R,Q R→P R):Rdx X u Q:=fun s a R hR=>h s a R (hq R hR)
def NW(R:aJ):Prop:=∀c,R.head?=some c→dO c=false
def NL(R:aJ):Prop:=r8 R=true
theorem aCB{r:List (aJ×Tk)}{e:aJ}(hc:jJ r=true)(hg:d8 r=true)(he:NW e):∀c,(rend r e).head?=some c→dO c=false:=by
 cases r with
 |nil=>exact he
 |cons x r=>
  intro c h;obtain⟨b,tk⟩:=x;obtain⟨g1,g2,_⟩:=vL hg;cases b with
  |cons x b=>simp[rend]at h;subst h;exact tU (.inl (g1 x (by simp)))
  |nil=>
   cases tk with
   |sg d=>simp[rend,Tk.body]at h;subst h;exact tU (.inr g2)
   |nm w=>cases hc
   |tg w=>simp[rend,Tk.body]at h;subst h;decide
   |tx w=>simp[rend,Tk.body]at h;subst h;decide
   |nu n=>cases hc
def lastS:List (aJ×Tk)→Bool
 | []=>false
 | [(_,.sg _)]=>true
 | [(_,.tx _)]=>true
 | [_]=>false
 |_::y::r=>lastS (y::r)
theorem bCA{b:aJ}{tk:Tk}{r:List (aJ×Tk)}{e:aJ}(h:d8 ((b,tk)::r)=true)(he:NW e∨lastS ((b,tk)::r)=true):tk.sep (rend r e):=by
 have key:jJ r=true→d8 r=true→lastS ((b,tk)::r)=true→(r=[]→False)→∀c,(rend r e).head?=some c→dO c=false:=by
  intro hc hg hl hr c hh;cases r with
  |nil=>exact(hr rfl).elim
  |cons x r=>
   obtain⟨b',tk'⟩:=x;obtain⟨g1,g2,_⟩:=vL hg;cases b' with
   |cons x b'=>simp[rend]at hh;subst hh;exact tU (.inl (g1 x (by simp)))
   |nil=>
    cases tk' with
    |sg d=>simp[rend,Tk.body]at hh;subst hh;exact tU (.inr g2)
    |nm w=>cases hc
    |tg w=>simp[rend,Tk.body]at hh;subst hh;decide
    |tx w=>simp[rend,Tk.body]at hh;subst hh;decide
    |nu n=>cases hc
 cases tk with
 |sg c=>trivial
 |tx w=>trivial
 |nm w=>
  simp only[d8,Bool.and_eq_true]at h;rcases he with he|he
  ·exact aCB h.2.2.1 h.2.2.2 he
  exact key h.2.2.1 h.2.2.2 he (by rintro rfl;cases he)
 |tg w=>
  simp only[d8,Bool.and_eq_true]at h;rcases he with he|he
  ·exact aCB h.2.2.1 h.2.2.2 he
  exact key h.2.2.1 h.2.2.2 he (by rintro rfl;cases he)
 |nu w=>
  simp only[d8,Bool.and_eq_true]at h;rcases he with he|he
  ·exact aCB h.2.2.1 h.2.2.2 he
  exact key h.2.2.1 h.2.2.2 he (by rintro rfl;cases he)
theorem aKH{x:aJ×Tk}{r:List (aJ×Tk)}(h:lastS (x::r)=true):r=[]∨lastS r=true:=by
 cases r with
 |nil=>exact .inl rfl
 |cons y r=>exact .inr (by obtain⟨b,tk⟩:=x;cases tk <;> exact h)
theorem aUF(ts:List (aJ×Tk))(e:aJ):rend ts e=rend ts []++e:=by
 have:=l5 ts [] e;rw[List.append_nil]at this;induction ts with
 |nil=>rfl
 |cons x ts ih=>
  have h:=l5 ts [] e;rw[List.append_nil]at h;simp only[rend,List.append_assoc];rw[ih h]
theorem qY{R:aJ}:∀(ts:List (aJ×Tk)) (a:Nat),d8 ts=true→(NW R∨lastS ts=true∨ts=[])→s.drop a=rend ts R→∀q,next s (a+(rend ts []).length)=.ok q∨ts≠[]→∃st,next s a=.ok st∧
  (∀W e,Path s st W e→e.2.kind=0→∃W' q',W=ts.map (fun x=>x.2.wd)++W'∧next s (a+(rend ts []).length)=.ok q'∧Path s q' W' e)∧(∀q,next s (a+(rend ts []).length)=.ok q→Path s st (ts.map fun x=>x.2.wd) q)
 | [],a,hg,hc,h,q,hq=>by
  rcases hq with hq|hq
  ·exact⟨q,hq,fun W e p k=>⟨W,q,rfl,hq,p⟩,fun q2 h2=>by rw[show a+(rend [] []).length=a from rfl,show next s a=.ok q from hq]at h2;cases h2;rfl⟩
  exact absurd rfl hq
 |(b,tk)::r,a,hg,hc,h,q,hq=>by
  obtain⟨g1,g2,g3⟩:=vL hg;have hc':NW R∨lastS ((b,tk)::r)=true:=by
   rcases hc with h|h|h
   ·exact .inl h
   ·exact .inr h
   cases h
  obtain⟨h1,h2⟩:=bAA h g1 g2 (bCA hg hc');obtain⟨w1,w2⟩:=Tk.word_wd tk (a+b.length);have hl:a+(rend ((b,tk)::r) []).length=a+b.length+tk.body.length+(rend r []).length:=by simp only[rend,List.length_append];omega
  refine⟨_,h1,fun W e p k=>?_,fun q2 h2'=>?_⟩
  ·cases W with
   |nil=>
    have:e=_:=p;subst this;exact absurd k w2
   |cons w W=>
    obtain⟨p1,p2,q1,p3,p4⟩:=p;have hc2:NW R∨lastS r=true∨r=[]:=by
     rcases hc' with h|h
     ·exact .inl h
     rcases aKH h with h|h
     ·exact .inr (.inr h)
     exact .inr (.inl h)
    by_cases hr:r=[]
    ·subst hr;exact⟨W,q1,by simp only[List.map_cons,List.map_nil,List.cons_append,List.nil_append];rw[←p2,w1],by rw[hl];exact p3,p4⟩
    obtain⟨st2,f1,f2,_⟩:=qY r (a+b.length+tk.body.length) g3 hc2 h2 q (.inr hr);have:next s (a+b.length+tk.body.length)=.ok q1:=p3;rw[f1]at this;cases this
    obtain⟨W',q',e1,e2,e3⟩:=f2 W e p4 k;exact⟨W',q',by simp only[List.map_cons,List.cons_append];rw[←e1,←p2,w1],by rw[hl];exact e2,e3⟩
  refine⟨w2,w1,?_⟩
  have hc2:NW R∨lastS r=true∨r=[]:=by
   rcases hc' with h|h
   ·exact .inl h
   rcases aKH h with h|h
   ·exact .inr (.inr h)
   exact .inr (.inl h)
  rw[hl]at h2';obtain⟨st2,f1,_,f3⟩:=qY r (a+b.length+tk.body.length) g3 hc2 h2 q2 (.inl h2');exact⟨st2,f1,f3 q2 h2'⟩
theorem Rdx.toks{ts:List (aJ×Tk)}(hg:d8 ts=true):Rdx (rend ts []) (ts.map fun x=>x.2.wd) (fun R=>NW R∨lastS ts=true):=fun s a R hR h st3 e=>by
 rw[←aUF]at h;obtain⟨st,e1,_,e3⟩:=qY ts a hg (by rcases hR with h|h;exact .inl h;exact .inr (.inl h)) h st3 (.inl e);exact⟨st,e1,e3 st3 e⟩
theorem Rdx.whole{X:aJ}{ws:List Wd}{P:aJ→Prop}(h:Rdx X ws P)(hP:P []):∃st st',next X 0=.ok st∧Path X st ws st'∧st'.2.kind=0:=by
 have he:next X (0+X.length)=.ok (X.length,⟨0,[],0,X.length⟩):=aEK (b:=[]) (by simp) (by simp) aI;obtain⟨st,e1,e2⟩:=h X 0 [] hP (by simp) _ he;exact⟨st,_,e1,e2,rfl⟩
end
def hdT:List (aJ×Tk):=[([],.nm dY),([32],.sg 91),([],.tx dB),([],.sg 44),([32],.tx fF),([],.sg 44),([32],.tx fG),([],.sg 44),([32],.tx eW),([],.sg 93),([],.sg 59)]
def iG:aJ:=rend hdT []
def ns4:List aJ:=[dB,fF,fG,eW]
def hwT:List Wd:=hdT.map fun x=>x.2.wd
theorem bRW:GReq [] hwT ns4:=by
 have := GReq.cons [] ns4 _ [] [dB, fF, fG, eW] (GList.many dB [fF, fG, eW]) (by decide) (by
  have:gL [] [dB,fF,fG,eW]=ns4:=by decide
  rw[this];exact GReq.nil ns4)
 have e:hwT=wNm dY::((wSg 91::wTx dB::([fF,fG,eW].flatMap (fun x=>[wSg 44,wTx x])++[wSg 93]))++(wSg 59::[])):=by decide
 rw[e];exact this
theorem bMW:d8 hdT=true:=by decide
theorem bNA:lastS hdT=true:=by decide
section
variable{s:aJ}
theorem aG9{a:aJ}{r:List aJ×Tree}(h:eD (iG++a)=.ok r):∃st0 q e v,next (iG++a) 0=.ok st0∧Path (iG++a) st0 hwT q∧next (iG++a) iG.length=.ok q∧Path (iG++a) q v e∧e.2.kind=0∧WOk q.2∧
  (q.2.kind=1∧q.2.s=dY∨r.1=ns4∧fZ ns4 7 v (dJ r.2)):=by
 obtain⟨st0,e,u,v,k0,g1,g2,k1,k2⟩:=vQ h;have hd:(iG++a).drop 0=rend hdT a:=by rw[List.drop_zero,aUF];rfl
 obtain⟨st,f1,f2,f3⟩:=qY hdT 0 bMW (.inr (.inl bNA)) hd st0 (.inr (by decide));rw[f1]at k0;cases k0
 obtain⟨W',q',e1,e2,e3⟩:=f2 _ e k1 k2;rw[Nat.zero_add]at e2;have p':=f3 q' (by rw[Nat.zero_add];exact e2)
 by_cases hk:q'.2.kind=1∧q'.2.s=dY
 ·exact⟨_,q',e,W',f1,p',e2,e3,k2,zP e2,.inl hk⟩
 obtain⟨q,p1,p2⟩:=jB.1 k1;obtain⟨d1,d2⟩:=aQU (oV (Nat.zero_le _) f1).2.1 g1 bRW p1 p' (aIN g2 p2 k2) hk;subst d2;obtain⟨d3,_⟩:=aKW p2 e3 k2 k2;subst d3;rw[d1]at g2;exact⟨_,q,e,v,f1,p',e2,e3,k2,zP e2,.inr ⟨d1,g2⟩⟩
theorem aHW{a:aJ}{r:List aJ×Tree}(h:eD (iG++a)=.ok r):∃wa,Rdx a wa NL∧((∃w,wa=wNm dY::w)∨fZ ns4 7 wa (dJ r.2)):=by
 obtain⟨st0,q,e,v,k0,k1,k2,k3,k4,k5,k6⟩:=aG9 h;have hd:(iG++a).drop iG.length=a++[]:=by rw[List.append_nil];exact List.drop_left
 obtain⟨wy,wr,st3,e1,e2,e3,e4,_⟩:=aT6 (R:=[]) rfl _ a iG.length v q e (Nat.le_refl _) hd k2 k3 k4;have hr:wr=[]:=by
  cases wr with
  |nil=>rfl
  |cons w wr=>
   have he:next (iG++a) (iG.length+a.length)=.ok ((iG++a).length,⟨0,[],0,(iG++a).length⟩):=aEK (b:=[]) (by rw[List.drop_eq_nil_of_le (by simp)]) (by simp) (by simp);rw[he]at e2;cases e2
   exact absurd rfl e3.1
 rw[hr,List.append_nil]at e1;subst e1;refine⟨v,fun s' a' R' hR' h'=>e4 s' a' R' hR' h',?_⟩
 rcases k6 with ⟨j1,j2⟩|⟨_,j⟩
 ·refine .inl ?_;cases v with
  |nil=>have:e=q:=k3;subst this;rw[j1]at k4;cases k4
  |cons w v=>
   obtain⟨_,p2,_⟩:=k3;exact⟨v,by rw[←p2,bQD k5 j1 (by decide),j2]⟩
 exact .inr j
def nl(x:aJ):Nat:=x.count 10
theorem aCW(x y:aJ):nl (x++y)=nl x+nl y:=List.count_append
theorem bF7(d:Nat):∀l:List Tree,l.length≤nl (prn (cl l) d true)
 | []=>Nat.zero_le _
 |c::l=>by
  have:=bF7 d l;simp only[cl,prn,aCW,List.length_cons];have:nl [10]=1:=rfl;omega
theorem bPF(d:Nat):∀(l:List (Tree×Tree)) (els:Option Tree),l.length+(if els=none then 0 else 1)≤nl (prn (bl l els) d false)
 | [],none=>by simp[bl]
 | [],some b=>by
  simp only[bl,prn,aCW];have:nl [32,123,10]=1:=rfl;simp;omega
 |p::l,els=>by
  have:=bPF d l els;simp only[bl,prn,aCW,List.length_cons];have:nl [32,123,10]=1:=rfl;omega
theorem aZD{needs:List aJ}{n:Nat}{B:List Wd→Tree→Prop}{u:List Wd}{c:Tree}(h:GCmd needs n B u c):(∃x,prn c 0 true=x++[59])∨∃(ut:List Wd) (t:Tree) (ub:List Wd) (b:Tree) (brs:List Br) (els:Option (List Wd×Tree)),u=wNm txIf::(ut++(wSg 123::(ub++(wSg 125::(brs.flatMap Br.words++kQ els)))))∧c=.iff (bl ((t,b)::brs.map fun p=>(p.t,p.b)) (els.map (·.2)))∧GTest needs n ut t∧B ub b:=by
 cases h with
 |simple word c h=>rcases h with ⟨rfl,rfl⟩|⟨rfl,rfl⟩|⟨rfl,rfl⟩ <;> exact .inl ⟨_,by simp only[prn];first|exact(show ([107,101,101,112,59]:aJ)=[107,101,101,112]++[59]from rfl)|exact(show ([100,105,115,99,97,114,100,59]:aJ)=[100,105,115,99,97,114,100]++[59]from rfl)|exact(show ([115,116,111,112,59]:aJ)=[115,116,111,112]++[59]from rfl)⟩
 |act word kind ext arg h hx=>
  have hk:¬kind=1:=by rcases h with ⟨_,rfl,_⟩|⟨_,rfl,_⟩|⟨_,rfl,_⟩ <;> decide
  exact .inl ⟨uJ kind++iI arg,by simp only[prn,if_neg hk,List.append_assoc]⟩
 |set0 name value hv hn=>exact .inl ⟨_,by simp only[prn];rfl⟩
 |set1 x name value i hv hn hi hx=>exact .inl ⟨_,by simp only[prn];rfl⟩
 |iff ut t ub b brs els ht hb hbr hel=>
  refine .inr ⟨ut,t,ub,b,brs,els,rfl,?_,ht,hb⟩
  have e:brs.foldl (fun l p=>l.snocB (some p.t) p.b) (.bcons t b .bnil)=bl ((t,b)::brs.map fun p=>(p.t,p.b)) none:=bHP brs [(t,b)];rw[e,aPO]
theorem bNH:nl ([114,101,113,117,105,114,101,32]++oE ns4++[59,10])=1:=by decide+kernel
theorem aVQ{r:List aJ×Tree}{v:List Wd}{pre:aJ}(h1:r.1=ns4)(h2:fZ ns4 7 v (dJ r.2))(h3:nl (mF r)=3)(h4:mF r=pre++[123,10,125,10]):
  ∃ut t,v=wNm txIf::(ut++[wSg 123,wSg 125])∧GTest ns4 6 ut t:=by
 obtain⟨cs,hc,e1,e2⟩:=h2;have e2:dJ r.2=cl (cs.map (·.2)):=by rw[e2];exact aZW cs []
 have ht:mF r=([114,101,113,117,105,114,101,32]++oE ns4++[59,10])++prn (cl (cs.map (·.2))) 0 true:=by
  unfold mF;rw[h1,if_neg (by decide),←e2,aN5]
 have hn:nl (prn (cl (cs.map (·.2))) 0 true)=2:=by
  rw[ht,aCW,bNH]at h3;omega
 rw[ht]at h4
 generalize hH:([114,101,113,117,105,114,101,32]++oE ns4++[59,10]:aJ)=H at h4
 have aTE:∀ {x y:aJ} {c d:UInt8},x++[c]=y++[d]→x=y∧c=d:=fun h=>by
  have:=List.append_inj' h rfl;exact⟨this.1,by simpa using this.2⟩
 have h4':∀(x:aJ) (l:List Tree) (c:Tree),H++(x++(prn c 0 true++[10]))=pre++[123,10,125,10]→∀y,prn c 0 true=y++[59]→False:=by
  intro x l c e y hy;rw[hy]at e;have e:(H++(x++y)++[59])++[10]=(pre++[123,10,125])++[10]:=by simpa using e
  have e:=(aTE e).1;have e:(H++(x++y))++[59]=(pre++[123,10])++[125]:=by simpa using e
  have:=(aTE e).2;exact absurd this (by decide)
 match cs,hc,e1,e2,hn,h4 with
 | [],_,_,_,hn,_=>exact absurd hn (by decide)
 |p::q::w::cs,_,_,_,hn,_=>
  have:=bF7 0 ((p::q::w::cs).map (·.2));simp only[List.map_cons,List.length_cons]at this hn;omega
 | [p,q],hc,_,_,hn,h4=>
  exfalso
  simp only[List.map_cons,List.map_nil,cl,prn,indC,List.nil_append,List.append_nil]at h4 hn;rcases aZD (hc q (by simp))with ⟨x,hx⟩|⟨ut,t,ub,b,brs,els,_,hq,_⟩
  ·exact h4' (prn p.2 0 true++[10]) [] q.2 (by simpa using h4) x hx
  rw[hq]at hn;simp only[bl,prn,aCW,if_true]at hn;have n1:nl [10]=1:=rfl;have n2:nl [32,123,10]=1:=rfl;omega
 | [p],hc,e1,e2,hn,h4=>
  simp only[List.map_cons,List.map_nil,cl,prn,indC,List.nil_append,List.append_nil]at h4 hn;have hp:=hc p (by simp);rcases aZD hp with ⟨x,hx⟩|⟨ut,t,ub,b,brs,els,hw,hq,ht,hb⟩
  ·exact(h4' [] [] p.2 (by simpa using h4) x hx).elim
  rw[hq]at hn;simp only[bl,prn,aCW,if_true]at hn;have n1:nl [10]=1:=rfl;have n2:nl [32,123,10]=1:=rfl;have n3:=bPF 0 (brs.map fun p=>(p.t,p.b)) (els.map (·.2));rw[List.length_map]at n3;have hbr:brs=[]:=by
   cases brs with
   |nil=>rfl
   |cons x l=>rw[List.length_cons]at n3;omega
  have hel:els=none:=by
   cases els with
   |none=>rfl
   |some x=>
    simp only[Option.map_some]at n3 hn;rw[if_neg (by simp)]at n3;omega
  obtain⟨cs2,hc2,f1,f2⟩:=hb;have f2:b=cl (cs2.map (·.2)):=by rw[f2];exact aZW cs2 []
  have hcs:cs2=[]:=by
   cases cs2 with
   |nil=>rfl
   |cons x l=>
    have:=bF7 (0+1) ((x::l).map (·.2));rw[←f2,List.length_map,List.length_cons]at this;omega
  refine⟨ut,t,?_,ht⟩
  rw[e1,List.flatMap_cons,hw,hbr,hel,f1,hcs];simp[kQ]
theorem bDK{s:aJ}{q e:St}{W:List Wd}(hq:q.2.kind=0)(p:Path s q W e):W=[]:=by
 cases W with
 |nil=>rfl
 |cons w W=>exact absurd hq p.1
def tx0(t:aJ):aJ:=iG++([105,102,32]++(t++[10,32,123,125]))
theorem aX4{t pre:aJ}{r:List aJ×Tree}(h:eD (tx0 t)=.ok r)(h3:nl (mF r)=3)(h4:mF r=pre++[123,10,125,10]):
  ∃wt T,Rdx t wt NL∧GTest ns4 6 wt T∧((∀y∈t,y≠36)→∀w∈wt,∀x∈w.2.1,x≠36):=by
 unfold tx0 at h;obtain⟨st0,q,e,v,k0,k1,k2,k3,k4,k5,k6⟩:=aG9 h
 generalize hs:iG++([105,102,32]++(t++[10,32,123,125]))=s at*
 have d0:s.drop iG.length=rend [([],.nm txIf)] (32::(t++[10,32,123,125])):=by rw[←hs];exact List.drop_left
 obtain⟨st,f1,f2,_⟩:=qY [([],Tk.nm txIf)] iG.length (by decide) (.inl (fun c hc=>by simp at hc;subst hc;decide)) d0 q (.inr (by simp));rw[k2]at f1;cases f1
 obtain⟨W',q',e1,e2,e3⟩:=f2 v e k3 k4;have hif:dG txIf=txIf:=by decide
 have e1:v=wNm txIf::W':=by rw[e1];simp[Tk.wd,hif]
 subst e1;have hne:¬(q.2.kind=1∧q.2.s=dY):=by
  rintro⟨_,j⟩;have:q.2.wd.2.1=txIf:=by rw[k3.2.1]
  rw[show q.2.wd.2.1=q.2.s from rfl,j]at this;exact absurd this (by decide)
 rcases k6 with j|⟨j1,j2⟩
 ·exact absurd j hne
 obtain⟨ut,T,g1,g2⟩:=aVQ j1 j2 h3 h4;have hl:(rend [([],Tk.nm txIf)] []).length=2:=by decide
 rw[hl]at e2;have d2:s.drop (iG.length+2)=32::(t++[10,32,123,125]):=by
  have:=jK (b:=[105,102]) d0;exact this
 rw[aHT d2 (by decide)]at e2;have d3:s.drop (iG.length+2+1)=t++[10,32,123,125]:=(gC d2).2.2;obtain⟨wy,wr,st3,y1,y2,y3,y4,y5⟩:=aT6 (R:=[10,32,123,125]) (by decide) _ t _ W' q' e (Nat.le_refl _) d3 e2 e3 k4;have d4:s.drop (iG.length+2+1+t.length)=rend [([10,32],.sg 123),([],.sg 125)] []:=jK d3;obtain⟨st4,z1,z2,_⟩:=qY [([10,32],Tk.sg 123),([],.sg 125)] _ (by decide) (.inr (.inl (by decide))) d4 q (.inr (by simp));rw[y2]at z1;cases z1
 obtain⟨W2,q2,x1,x2,x3⟩:=z2 wr e y3 k4;have hend:W2=[]:=by
  have d5:s.drop (iG.length+2+1+t.length+(rend [([10,32],Tk.sg 123),([],.sg 125)] []).length)=[]:=jK (t:=[]) (by rw[d4,List.append_nil]);have hle:iG.length+2+1+t.length+(rend [([10,32],Tk.sg 123),([],.sg 125)] []).length≤s.length:=by
   rw[←hs];have:(rend [([10,32],Tk.sg 123),([],.sg 125)] []).length=4:=by decide
   rw[this];simp only[List.length_append,List.length_cons,List.length_nil];omega
  rw[aEK d5 (by simp) hle]at x2;cases x2
  exact bDK rfl x3
 rw[hend,List.append_nil]at x1;refine⟨wy,T,fun s' a' R' hR' h'=>y4 s' a' R' hR' h',?_,y5⟩
 have:ut=wy:=by
  injection g1 with _ g1
  rw[y1,x1]at g1;exact(List.append_inj_left' (show ut++[wSg 123,wSg 125]=wy++[wSg 123,wSg 125]from g1.symm) rfl)
 rw[←this];exact g2
def tM:List (aJ×Tk):=[([10,32],.sg 123)]
def tE:List (aJ×Tk):=[([10],.sg 125),([32],.nm mC),([32],.sg 123)]
def tZ:List (aJ×Tk):=[([10],.sg 125)]
def tI:List (aJ×Tk):=hdT++[([],.nm txIf)]
def tN:List (aJ×Tk):=hdT++[([],.nm txIf),([32],.nm yH)]
def tA:List (aJ×Tk):=hdT++[([],.nm txIf),([32],.nm nC),([32],.sg 40)]
def tO:List (aJ×Tk):=hdT++[([],.nm txIf),([32],.nm nD),([32],.sg 40)]
def tC:List (aJ×Tk):=[([10],.sg 44)]
def tP:List (aJ×Tk):=[([10],.sg 41),([32],.sg 123)]
def tF:List (aJ×Tk):=[([10],.sg 125),([32],.nm nE),([32],.nm lT),([32],.sg 123),([],.nm mP),([],.sg 59),([],.sg 125),([32],.nm mC),([32],.sg 123)]
def two(e:List (aJ×Tk))(a b:aJ):aJ:=a++(rend e []++(b++rend tZ []))
def tx1(t a b:aJ):aJ:=rend tI []++(32::t++(rend tM []++two tE a b))
def tx2(t a b:aJ):aJ:=rend tN []++(32::t++(rend tM []++two tE a b))
def tx3(t a b:aJ):aJ:=rend tA []++(t++(rend tC []++(32::t++(rend tP []++two tE a b))))
def tx4(t a b:aJ):aJ:=rend tO []++(t++(rend tP []++two tF a b))
def wdT(l:List (aJ×Tk)):List Wd:=l.map fun x=>x.2.wd
def wtwo(e:List (aJ×Tk))(wa wb:List Wd):List Wd:=wa++(wdT e++(wb++wdT tZ))
section
variable{t a b:aJ}{wt wa wb:List Wd}
theorem Rdx.lastS{l:List (aJ×Tk)}(hg:d8 l=true)(hl:Syn.lastS l=true):Rdx (rend l []) (wdT l) fun _=>True:=(Rdx.toks hg).mono fun _ _=>.inr hl
theorem Rdx.lastN{l:List (aJ×Tk)}(hg:d8 l=true):Rdx (rend l []) (wdT l) NW:=(Rdx.toks hg).mono fun _ h=>.inl h
theorem aXV(x:aJ):NL (10::x):=rfl
theorem bTQ(x:aJ):NW (32::x):=fun c hc=>by simp at hc;subst hc;decide
theorem aER{e:List (aJ×Tk)}(he:d8 e=true)(hl:lastS e=true)(h10:∃x,rend e []=10::x)(ha:Rdx a wa NL)(hb:Rdx b wb NL):Rdx (two e a b) (wtwo e wa wb) fun _=>True:=by
 obtain⟨x,hx⟩:=h10;exact ha.app ((Rdx.lastS he hl).app (hb.app (Rdx.lastS (l:=tZ) (by decide) (by decide)) fun R _=>aXV _) fun _ _=>trivial) fun R _=>by rw[hx];exact aXV _
theorem bT4(ht:Rdx t wt NL)(ha:Rdx a wa NL)(hb:Rdx b wb NL):Rdx (tx1 t a b) (wdT tI++(wt++(wdT tM++wtwo tE wa wb))) fun _=>True:=
 (Rdx.lastN (l:=tI) (by decide)).app ((ht.blank (c:=32) (by decide)).app ((Rdx.lastS (l:=tM) (by decide) (by decide)).app (aER (by decide) (by decide) ⟨_,rfl⟩ ha hb) fun _ _=>trivial) fun R _=>aXV _) fun R _=>bTQ _
theorem bT5(ht:Rdx t wt NL)(ha:Rdx a wa NL)(hb:Rdx b wb NL):Rdx (tx2 t a b) (wdT tN++(wt++(wdT tM++wtwo tE wa wb))) fun _=>True:=
 (Rdx.lastN (l:=tN) (by decide)).app ((ht.blank (c:=32) (by decide)).app ((Rdx.lastS (l:=tM) (by decide) (by decide)).app (aER (by decide) (by decide) ⟨_,rfl⟩ ha hb) fun _ _=>trivial) fun R _=>aXV _) fun R _=>bTQ _
theorem bT6(ht:Rdx t wt NL)(ha:Rdx a wa NL)(hb:Rdx b wb NL):Rdx (tx3 t a b) (wdT tA++(wt++(wdT tC++(wt++(wdT tP++wtwo tE wa wb))))) fun _=>True:=
 (Rdx.lastS (l:=tA) (by decide) (by decide)).app (ht.app ((Rdx.lastS (l:=tC) (by decide) (by decide)).app ((ht.blank (c:=32) (by decide)).app ((Rdx.lastS (l:=tP) (by decide) (by decide)).app (aER (by decide) (by decide) ⟨_,rfl⟩ ha hb) fun _ _=>trivial) fun R _=>aXV _) fun _ _=>trivial) fun R _=>aXV _) fun _ _=>trivial
theorem bT7(ht:Rdx t wt NL)(ha:Rdx a wa NL)(hb:Rdx b wb NL):Rdx (tx4 t a b) (wdT tO++(wt++(wdT tP++wtwo tF wa wb))) fun _=>True:=
 (Rdx.lastS (l:=tO) (by decide) (by decide)).app (ht.app ((Rdx.lastS (l:=tP) (by decide) (by decide)).app (aER (by decide) (by decide) ⟨_,rfl⟩ ha hb) fun _ _=>trivial) fun R _=>aXV _) fun _ _=>trivial
theorem bIV{s:aJ}{r:List aJ×Tree}{P:aJ→Prop}{ux rest:List Wd}{T:Tree}(h:eD s=.ok r)(hr:Rdx s (hwT++(wNm txIf::(ux++(wSg 123::(wNm dY::rest))))) P)(hP:P [])(hT:GTest ns4 7 ux T):False:=by
 obtain⟨st0,e',a0,a1,a2⟩:=hr.whole hP;obtain⟨st,e,u,v,k0,g1,g2,k1,k2⟩:=vQ h;rw[a0]at k0;cases k0
 obtain ⟨q, p1, p2⟩ := jB.1 k1;obtain ⟨q', p1', p2'⟩ := jB.1 a1;have hst := (oV (Nat.zero_le _) a0).2.1;obtain ⟨d1, d2⟩ := aQU hst g1 bRW p1 p1' (aIN g2 p2 k2) (by
  rintro⟨_,j⟩;have:q'.2.wd.2.1=txIf:=by rw[p2'.2.1]
  rw[show q'.2.wd.2.1=q'.2.s from rfl,j]at this;exact absurd this (by decide))
 subst d2;rw[d1]at g2;obtain⟨d3,d4⟩:=aKW p2 p2' k2 a2;obtain⟨cs,hc,e1,_⟩:=g2;cases cs with
 |nil=>rw[e1]at d3;cases d3
 |cons p cs=>
  rw[List.flatMap_cons]at e1;have hq1:=(lS hst p1).2;have hp:=hc p (by simp);rw[e1]at d3;have key:∀ {u c},GCmd ns4 6 (fZ ns4 6) u c→u++cs.flatMap (·.1)=wNm txIf::(ux++(wSg 123::(wNm dY::rest)))→False:=by
   intro u c hg he;cases hg with
   |simple word c h=>rcases h with ⟨rfl,rfl⟩|⟨rfl,rfl⟩|⟨rfl,rfl⟩ <;> exact absurd (List.cons.inj he).1 (by decide)
   |act word kind ext arg h hx=>rcases h with ⟨rfl,_,_⟩|⟨rfl,_,_⟩|⟨rfl,_,_⟩ <;> exact absurd (List.cons.inj he).1 (by decide)
   |set0 name value hv hn=>exact absurd (List.cons.inj he).1 (by decide)
   |set1 x name value i hv hn hi hx=>exact absurd (List.cons.inj he).1 (by decide)
   |iff ut t ub b brs els ht hb hbr hel=>
    rw[e1,d3]at p2;have p3:=p2;rw[←he]at p3;have n1:=gI hq1 p2;have n2:=gI hq1 p3;obtain⟨q1,m1,m2,m3⟩:=n1;obtain⟨q2,m4,_,m5⟩:=n2;rw[m1]at m4;cases m4
    have m5:Path s q1 (ut++(wSg 123::(ub++(wSg 125::(brs.flatMap Br.words++kQ els))++cs.flatMap (·.1)))) e:=by simpa using m5
    obtain⟨q3,w1,w2⟩:=jB.1 m3;obtain⟨q4,w3,w4⟩:=jB.1 m5;have t1:=aLW hT q1 q3 m2 w1;have t2:=aLW (aEB ht) q1 q4 m2 w3;rw[t1]at t2
    injection t2 with t2
    injection t2 with _ t2
    subst t2;obtain⟨y1,_⟩:=aKW w2 w4 k2 k2;have y1:=(List.cons.inj y1).2;obtain⟨cs2,hc2,f1,_⟩:=hb;cases cs2 with
    |nil=>rw[f1]at y1;exact absurd (List.cons.inj y1).1 (by decide)
    |cons x cs2=>
     obtain⟨w',r',f3,f4⟩:=aS5 (hc2 x (by simp));rw[f1,List.flatMap_cons,f3]at y1;have:=(List.cons.inj y1).1
     injection this with _ this
     injection this with this
     exact f4 this.symm
  exact key hp d3
variable{T A B:Tree}{r:List aJ×Tree}
theorem yB{s:aJ}{P:aJ→Prop}{v:List Wd}{t':Tree}(h:eD s=.ok r)(hr:Rdx s (hwT++v) P)(hP:P [])(hb:fZ ns4 8 v t'):r.1=ns4∧dJ r.2=t':=by
 obtain⟨st0,e',a0,a1,a2⟩:=hr.whole hP;exact aX2 h a0 bRW hb a1 a2
theorem aQQ{needs:List aJ}{n:Nat}{u:List Wd}{c:Tree}(h:GCmd needs n (fZ needs n) u c):fZ needs (n+1) u (cl [c]):=⟨[(u,c)],by simpa using h,by simp,rfl⟩
theorem aP7{n:Nat}{ux:List Wd}{T:Tree}(hT:GTest ns4 n ux T)(ha:fZ ns4 n wa A)(hb:fZ ns4 n wb B):fZ ns4 (n+1) (wNm txIf::(ux++(wdT tM++wtwo tE wa wb))) (cl [.iff (bl [(T,A)] (some B))]):=by
 have:fZ ns4 (n+1) _ (cl [.iff (bl [(T,A)] (some B))]):=aQQ (GCmd.iff ux T wa A [] (some (wb,B)) hT ha (by simp) (fun p hp=>by cases hp;exact hb));have e:wtwo tE wa wb=wa++(wSg 125::(wNm mC::wSg 123::(wb++[wSg 125]))):=by
  have h1:wdT tE=[wSg 125,wNm mC,wSg 123]:=by decide
  have h2:wdT tZ=[wSg 125]:=by decide
  unfold wtwo;rw[h1,h2];simp
 have h3:wdT tM=[wSg 123]:=by decide
 rw[e,h3]
 simpa[kQ]using this
theorem bH1{n:Nat}{ux:List Wd}{T:Tree}(hT:GTest ns4 (n+1) ux T)(ha:fZ ns4 (n+1) wa A)(hb:fZ ns4 (n+1) wb B):fZ ns4 (n+2) (wNm txIf::(ux++(wdT tM++wtwo tF wa wb))) (cl [.iff (bl [(T,A),(.const false,cl [.plain 14])] (some B))]):=by
 have hs : fZ ns4 (n + 1) [wNm mP, wSg 59] (cl [.plain 14]) := aQQ (GCmd.simple mP _ (.inr (.inr ⟨rfl, rfl⟩)));have : fZ ns4 (n + 2) _ (cl [.iff (bl [(T, A), (.const false, cl [.plain 14])] (some B))]) := aQQ (GCmd.iff ux T wa A [⟨[wNm lT], .const false, [wNm mP, wSg 59], cl [.plain 14]⟩] (some (wb, B)) hT ha (fun p hp => by
  rw[List.mem_singleton.1 hp];exact⟨GTest.fls n,hs⟩) (fun p hp=>by cases hp;exact hb))
 have e:wtwo tF wa wb=wa++(wSg 125::(([wNm nE,wNm lT,wSg 123,wNm mP,wSg 59,wSg 125]:List Wd)++(wNm mC::wSg 123::(wb++[wSg 125])))):=by
  have h1:wdT tF=[wSg 125,wNm nE,wNm lT,wSg 123,wNm mP,wSg 59,wSg 125,wNm mC,wSg 123]:=by decide
  have h2:wdT tZ=[wSg 125]:=by decide
  unfold wtwo;rw[h1,h2];simp
 have h3:wdT tM=[wSg 123]:=by decide
 rw[e,h3]
 simpa[kQ,Br.words]using this
end
end
end Go.Syn
end
section
namespace Go.Say
open Go.Syn Go.Mach Go.Cmp
def vo(x:Res (Bool×Co)):List Action×Int×Bool:=((out x).1,(te (out x).2).1,true)
theorem bFJ(x:Res (Bool×Co)):vo (forget x)=vo x:=by cases x <;> rfl
theorem aEV{s:aJ}{r:List aJ×Tree}{m:Msg}(h:eD s=.ok r)(hs:s.length≤600)(h4:r.1=ns4):rn s m=vo (Say.run true m (dJ r.2) start):=by
 have h3:=aYG (m:=m) h hs;have e:decide (dB∈r.1)=true:=by rw[h4];decide
 rw[e]at h3;unfold rn;rw[if_neg aI,h];simp only[h3];rw[(aGO true m r.2 start).1,bFJ];rfl
section
variable{m:Msg}
theorem bAG(x:Tree)(c:Co):Say.run true m (cl [x]) c=cmd true m x c:=by
 simp only[cl,Say.run];cases cmd true m x c with
 |error e=>rfl
 |ok r=>
  simp only[];split
  ·rfl
  rename_i h;obtain⟨a,b⟩:=r;simp at h;subst h;rfl
theorem aLJ(T A B:Tree)(c:Co):Say.run true m (cl [.iff (bl [(T,A)] (some B))]) c=if (holds true m T c).1=true then Say.run true m A (holds true m T c).2 else Say.run true m B (holds true m T c).2:=by
 rw[bAG];simp only[cmd,bl,brs]
theorem bN3(T A B:Tree)(c:Co):Say.run true m (cl [.iff (bl [(.not_ T,B)] (some A))]) c=Say.run true m (cl [.iff (bl [(T,A)] (some B))]) c:=by
 rw[aLJ,aLJ];simp only[holds]
 by_cases h:(holds true m T c).1=true <;> simp[h]
theorem bN2(T A B:Tree)(c:Co):Say.run true m (cl [.iff (bl [(.many false (tl [T]),A),(.const false,cl [.plain 14])] (some B))]) c=Say.run true m (cl [.iff (bl [(T,A)] (some B))]) c:=by
 rw[bAG,aLJ];simp only[cmd,bl,brs,holds,tl,o4]
 by_cases h:(holds true m T c).1=true <;> simp[h]
def setP(p:Option (List aJ))(c:Co):Co:=match p with
 |none=>c
 |some ps=>{c with parts:=ps}
theorem aUV(p q:Option (List aJ))(c:Co):setP q (setP p c)=setP (q.or p) c:=by cases p <;> cases q <;> rfl
theorem bBZ{vars:List (aJ×aJ)}{parts:List aJ}{x:aJ}(h:∀c∈x,c≠36):dM true vars parts x=x.take 1024:=by
 have hi:Lib.index x [36,123]= -1:=by
  induction x with
  |nil=>rfl
  |cons c r ih=>
   have h1:=ih fun y hy=>h y (by simp[hy])
   have h2:¬(36=c):=fun e=>h c (by simp) e.symm
   simp[Lib.index,List.isPrefixOf,h1,h2]
 unfold dM;rw[if_pos rfl]
 congr 1
 unfold j6;split
 ·rename_i e;rw[e]
 rw[hi,if_pos (by decide)];rfl
theorem aXP{vars:List (aJ×aJ)}{parts:List aJ}{l:List aJ}(h:∀x∈l,∀c∈x,c≠36):l.map (dM true vars parts)=l.map (·.take 1024):=List.map_congr_left fun x hx=>bBZ (h x hx)
def No36(u:List Wd):Prop:=∀w∈u,∀x∈w.2.1,x≠36
theorem No36.left{u v:List Wd}(h:No36 (u++v)):No36 u:=fun w hw=>h w (by simp[hw])
theorem No36.right{u v:List Wd}(h:No36 (u++v)):No36 v:=fun w hw=>h w (by simp[hw])
theorem No36.tail{w:Wd}{v:List Wd}(h:No36 (w::v)):No36 v:=fun x hx=>h x (by simp[hx])
theorem aJ0{u:List Wd}{l:List aJ}(g:GList u l)(h:No36 u):∀x∈l,∀c∈x,c≠36:=by
 cases g with
 |one w=>intro x hx;rw[List.mem_singleton.1 hx];exact h (wTx w) (by simp)
 |many w ws=>
  intro x hx;rcases List.mem_cons.1 hx with rfl|hx
  ·exact h (wTx x) (by simp)
  refine h (wTx x) ?_;simp only[List.mem_cons,List.mem_append,List.mem_flatMap];exact .inr (.inr (.inl ⟨x,hx,by simp⟩))
def Pure(m:Msg)(T:Tree):Prop:=∃(g:Bool) (p:Option (List aJ)),∀c,holds true m T c=(g,setP p c)
theorem aN6(all:Bool):∀l:List Tree,(∀t∈l,Pure m t)→∃(g:Bool) (p:Option (List aJ)),∀c,o4 true m all (tl l) c=(g,setP p c)
 | [],_=>⟨all,none,fun c=>rfl⟩
 |t::l,h=>by
  obtain⟨g1,p1,h1⟩:=h t (by simp);obtain⟨g2,p2,h2⟩:=aN6 all l fun x hx=>h x (by simp[hx])
  by_cases hg:g1=all
  ·exact⟨g2,p2.or p1,fun c=>by simp only[tl,o4,h1,h2,aUV,if_pos hg]⟩
  exact⟨g1,p1,fun c=>by simp only[tl,o4,h1,if_neg hg]⟩
theorem bDN{needs:List aJ}{n:Nat}{u:List Wd}{T:Tree}(g:GTest needs n u T)(h:No36 u):Pure m T:=by
 induction g with
 |tru n=>exact⟨true,none,fun c=>rfl⟩
 |fls n=>exact⟨false,none,fun c=>rfl⟩
 |not_ n u t _ ih=>
  obtain⟨g,p,e⟩:=ih h.tail;exact⟨!g,p,fun c=>by simp only[holds,e]⟩
 |many n all u t us _ _ ih1 ih2=>
  have hl:∀x∈t::us.map (·.2),Pure m x:=by
   intro x hx;rcases List.mem_cons.1 hx with rfl|hx
   ·exact ih1 (No36.left (No36.tail (No36.tail h)))
   obtain⟨p,hp,rfl⟩:=List.mem_map.1 hx;refine ih2 p hp fun w hw=>?_;have h2:=No36.left (No36.right (No36.tail (No36.tail h)));exact h2 w (List.mem_flatMap.2 ⟨p,hp,by simp[hw]⟩)
  have e:us.foldl (fun l p=>l.snocT p.2) (.tcons t .tnil)=tl (t::us.map (·.2)):=bHQ us [t];obtain⟨g,p,e2⟩:=aN6 (m:=m) all _ hl;exact⟨g,p,fun c=>by rw[e];simp only[holds];exact e2 c⟩
 |mat n word op ext u v w hw a b hm hx hg ga fa gb=>
  have ha:=aJ0 ga (No36.left (No36.right (No36.tail h)));have hb:=aJ0 gb (No36.right (No36.right (No36.tail h)))
  generalize (if 1>hw.tag then 1 else hw.tag)=tag
  generalize hw.oct=oct
  have hv:∀c:Co,gW (dM true c.vars c.parts) m (matO tag oct op a b)=gW (·.take 1024) m (matO tag oct op a b):=by
   intro c;unfold gW;simp only[matO];rw[aXP ha]
  have hr:∀c:Co,matR true m (matO tag oct op a b) c=iZ (matO tag oct op a b) (gW (·.take 1024) m (matO tag oct op a b)) (b.map (·.take 1024)):=by
   intro c;unfold matR;rw[hv c];simp only[matO];rw[aXP hb]
  cases hz:iZ (matO tag oct op a b) (gW (·.take 1024) m (matO tag oct op a b)) (b.map (·.take 1024))with
  |none=>exact⟨false,none,fun c=>by simp only[holds,mat,hr,hz];rfl⟩
  |some ps=>
   by_cases ht:tag=3
   ·exact⟨true,some ps,fun c=>by simp only[holds,mat,hr,hz];simp[matO,ht,setP]⟩
   exact⟨true,none,fun c=>by simp only[holds,mat,hr,hz];simp[matO,ht,setP]⟩
 |exi n v a ga=>
  have ha:=aJ0 ga h.tail;exact⟨pW m (a.map (·.take 1024)),none,fun c=>by simp only[holds];rw[aXP ha];rfl⟩
 |siz n x k hx hk=>exact⟨_,none,fun c=>by simp only[holds];rfl⟩
theorem bN1{T A B:Tree}(h:Pure m T)(c:Co):Say.run true m (cl [.iff (bl [(.many true (tl [T,T]),A)] (some B))]) c=Say.run true m (cl [.iff (bl [(T,A)] (some B))]) c:=by
 obtain⟨g,p,e⟩:=h;rw[aLJ,aLJ];have:holds true m (.many true (tl [T,T])) c=holds true m T c:=by
  simp only[holds,tl,o4,e,aUV];cases g
  ·simp
  simp[Option.or_self]
 rw[this]
end
theorem turned_law{m:Msg}{t a b pre:aJ}{rx ra rb:List aJ×Tree}(hx:eD (tx0 t)=.ok rx)(h3:nl (mF rx)=3)(h4:mF rx=pre++[123,10,125,10])(ha:eD (iG++a)=.ok ra)(hb:eD (iG++b)=.ok rb)
  (one:(rn (tx1 t a b) m).2.2=true) (two:(rn (tx2 t b a) m).2.2=true):
  rn (tx2 t b a) m=rn (tx1 t a b) m∧((rn (tx3 t a b) m).2.2=true→(∀y∈t,y≠36)→rn (tx3 t a b) m=rn (tx1 t a b) m)∧((rn (tx4 t a b) m).2.2=true→rn (tx4 t a b) m=rn (tx1 t a b) m):=by
 have good:∀ {s:aJ},(rn s m).2.2=true→s.length≤600∧∃r,eD s=.ok r:=by
  intro s h;unfold rn at h;split at h
  ·cases h
  split at h
  ·cases h
  rename_i r hr;exact⟨by omega,r,hr⟩
 obtain⟨wt,T,rt,gt,gp⟩:=aX4 hx h3 h4;obtain⟨wa,rda,ga⟩:=aHW ha;obtain⟨wb,rdb,gb⟩:=aHW hb;obtain⟨l1,r1,p1⟩:=good one;obtain⟨l2,r2,p2⟩:=good two;have R1:=bT4 (t:=t) (a:=a) (b:=b) rt rda rdb;have R2:=bT5 (t:=t) (a:=b) (b:=a) rt rdb rda;have R3:=bT6 (t:=t) (a:=a) (b:=b) rt rda rdb;have R4:=bT7 (t:=t) (a:=a) (b:=b) rt rda rdb;have gt7:=aEB gt;have e1:wdT tI=hwT++[wNm txIf]:=by decide
 have e2:wdT tN=hwT++[wNm txIf,wNm yH]:=by decide
 have e3:wdT tA=hwT++[wNm txIf,wNm nC,wSg 40]:=by decide
 have e4:wdT tO=hwT++[wNm txIf,wNm nD,wSg 40]:=by decide
 have eM:wdT tM=[wSg 123]:=by decide
 have eC:wdT tC=[wSg 44]:=by decide
 have eP:wdT tP=[wSg 41,wSg 123]:=by decide
 have ga:fZ ns4 7 wa (dJ ra.2):=by
  rcases ga with ⟨w,rfl⟩|h
  ·exfalso
   refine bIV (ux:=wt) (rest:=w++(wdT tE++(wb++wdT tZ))) (T:=T) p1 (P:=fun _=>True) ?_ trivial gt7
   have:wdT tI++(wt++(wdT tM++wtwo tE (wNm dY::w) wb))=hwT++(wNm txIf::(wt++(wSg 123::(wNm dY::(w++(wdT tE++(wb++wdT tZ))))))):=by
    rw[e1,eM];simp[wtwo]
   rw[←this];exact R1
  exact h
 have gb:fZ ns4 7 wb (dJ rb.2):=by
  rcases gb with ⟨w,rfl⟩|h
  ·exfalso
   refine bIV (ux:=wNm yH::wt) (rest:=w++(wdT tE++(wa++wdT tZ))) (T:=.not_ T) p2 (P:=fun _=>True) ?_ trivial (GTest.not_ 6 wt T gt)
   have:wdT tN++(wt++(wdT tM++wtwo tE (wNm dY::w) wa))=hwT++(wNm txIf::((wNm yH::wt)++(wSg 123::(wNm dY::(w++(wdT tE++(wa++wdT tZ))))))):=by
    rw[e2,eM];simp[wtwo]
   rw[←this];exact R2
  exact h
 generalize dJ ra.2=A at ga
 generalize dJ rb.2=B at gb
 have w1 := yB (P := fun _ => True) (v := wNm txIf :: (wt ++ (wdT tM ++ wtwo tE wa wb))) p1 (by
  have:wdT tI++(wt++(wdT tM++wtwo tE wa wb))=hwT++(wNm txIf::(wt++(wdT tM++wtwo tE wa wb))):=by rw[e1];simp
  rw[←this];exact R1) trivial (aP7 gt7 ga gb)
 have w2 := yB (P := fun _ => True) (v := wNm txIf :: ((wNm yH :: wt) ++ (wdT tM ++ wtwo tE wb wa))) p2 (by
  have:wdT tN++(wt++(wdT tM++wtwo tE wb wa))=hwT++(wNm txIf::((wNm yH::wt)++(wdT tM++wtwo tE wb wa))):=by rw[e2];simp
  rw[←this];exact R2) trivial (aP7 (GTest.not_ 6 wt T gt) gb ga)
 have v1:rn (tx1 t a b) m=vo (Say.run true m (cl [.iff (bl [(T,A)] (some B))]) start):=by rw[aEV p1 l1 w1.1,w1.2]
 refine⟨?_,fun h hd=>?_,fun h=>?_⟩
 ·rw[v1,aEV p2 l2 w2.1,w2.2,bN3]
 ·obtain⟨l3,r3,p3⟩:=good h;have gm:GTest ns4 7 (wNm nC::wSg 40::(wt++(wSg 44::(wt++[wSg 41])))) (.many true (tl [T,T])):=by
   have:=GTest.many 6 true wt T [(wt,T)] gt (by simpa using gt)
   simpa[tl,Tree.snocT]using this
  have w3 := yB (P := fun _ => True) (v := wNm txIf :: ((wNm nC :: wSg 40 :: (wt ++ (wSg 44 :: (wt ++ [wSg 41])))) ++ (wdT tM ++ wtwo tE wa wb))) p3 (by
   have:wdT tA++(wt++(wdT tC++(wt++(wdT tP++wtwo tE wa wb))))=hwT++(wNm txIf::((wNm nC::wSg 40::(wt++(wSg 44::(wt++[wSg 41]))))++(wdT tM++wtwo tE wa wb))):=by
    rw[e3,eC,eP,eM];simp
   rw[←this];exact R3) trivial (aP7 gm ga gb)
  rw[v1,aEV p3 l3 w3.1,w3.2,bN1 (bDN gt (gp hd))]
 obtain⟨l4,r4,p4⟩:=good h;have gm:GTest ns4 7 (wNm nD::wSg 40::(wt++[wSg 41])) (.many false (tl [T])):=by
  have:=GTest.many 6 false wt T [] gt (by simp)
  simpa[tl]using this
 have w4 := yB (P := fun _ => True) (v := wNm txIf :: ((wNm nD :: wSg 40 :: (wt ++ [wSg 41])) ++ (wdT tM ++ wtwo tF wa wb))) p4 (by
  have:wdT tO++(wt++(wdT tP++wtwo tF wa wb))=hwT++(wNm txIf::((wNm nD::wSg 40::(wt++[wSg 41]))++(wdT tM++wtwo tF wa wb))):=by
   rw[e4,eP,eM];simp
  rw[←this];exact R4) trivial (bH1 (n:=6) gm ga gb)
 rw[v1,aEV p4 l4 w4.1,w4.2,bN2]
end Go.Say
end

/-
  What the proof stands on, part 89: the logic of walks, the walks through the functions, the plain laws. Conditions: as each theorem says. (Merged and shortened by a program.)
-/
import Derived.Test.YthopmddkpdehiaaGreatDoorK31
import Derived.Test.YthopmddkpdehiaaGreatDoorK79
set_option linter.unusedVariables false
set_option linter.unusedSimpArgs false
set_option maxRecDepth 4000
set_option maxHeartbeats 1000000
section
attribute [local irreducible] Go.SL.T Go.SL.OL Go.SL.D Go.SL.DL Go.SL.Ev Go.SL.Ef Go.SL.EfS
namespace Go.Proofs
open Go Go.SL Go.Syn Go.Mach Go.Cmp
def bQN(t a b:aJ):Prop:=∃rx ra rb pre,eD (tx0 t)=.ok rx∧nl (mF rx)=3∧mF rx=pre++[123,10,125,10]∧eD (iG++a)=.ok ra∧eD (iG++b)=.ok rb
theorem aNC{E:Env}{fr:Fr}{K:Hl}{L:List Asn}{o:_}{u v:Value}(h:Ev E fr K L o u)(hb:u=v):Ev E fr K L o v:=hb▸h
theorem bSQ(t:aJ):iG++[105,102,32]++t++[10,32,123,125]=tx0 t:=by simp[tx0]
theorem bPO{s:aJ}{i:Nat}{c:UInt8}(h:s[i]?=some c):nl (s.take (i+1))=nl (s.take i)+if c.toNat=10 then 1 else 0:=by
 have hi:i < s.length:=by
  rcases Nat.lt_or_ge i s.length with h'|h'
  ·exact h'
  rw[List.getElem?_eq_none h']at h;cases h
 have hc:s[i]=c:=by simpa[List.getElem?_eq_getElem hi]using h
 rw[List.take_succ_eq_append_getElem hi,hc,aCW]
 congr 1
 unfold nl
 by_cases h10:c.toNat=10
 ·have:c=10:=UInt8.toNat_inj.1 h10;subst this;rfl
 rw[if_neg h10,List.count_eq_zero];intro hm;rw[List.mem_singleton]at hm;exact h10 (by rw[←hm];rfl)
theorem aNJ:iG.length=56:=by decide
theorem aX3(t a b:aJ)(K:Hl)(hg:Glob K)(hE:ErrT K)(hs:t.length+a.length+b.length≤250):Sp Tryz.prog 33 [str iG,str t,str a,str b] K [] (Ret fun v K' L'=>∃ok:Bool,v=.bool ok∧L'=[]∧(ok=true→bQN t a b)):=by
 have hhl:=aNJ;refine a8 Tryz.func33 rfl Tryz.ntmps33 rfl rfl fun F w=>?_;refine zz8 ?_;refine aA (cW rfl rfl (by rw[hhl];simp)) rfl ?_;refine zz1 ?_;refine aA (cW rfl rfl (by rw[List.length_append,hhl];simp;omega)) rfl ?_;refine aA (aNC (cW rfl rfl (by rw[List.length_append,List.length_append,hhl];simp;omega)) (congrArg str (bSQ t))) rfl ?_;refine aX rfl rfl (lF (tx0 t) _ hg hE) .nil rfl ?_;rintro _ K1 _ ⟨x,rfl,hP1,rfl⟩ le1;refine zz13 ?_;refine aA (cW rfl rfl (by rw[hhl];omega)) rfl ?_;refine aX rfl rfl (lF (iG++a) _ (hg.mono le1) (hE.mono le1)) .nil rfl ?_;rintro _ K2 _ ⟨y,rfl,hP2,rfl⟩ le2;have le12:=Hl.le_trans le1 le2;refine zz13 ?_;refine aA (cW rfl rfl (by rw[hhl];omega)) rfl ?_;refine aX rfl rfl (lF (iG++b) _ (hg.mono le12) (hE.mono le12)) .nil rfl ?_;rintro _ K3 _ ⟨z,rfl,hP3,rfl⟩ le3;have le13:=Hl.le_trans le12 le3;refine zz9 ?_;rcases hP1 with ⟨b1,r1,hl1,hr1,rfl,hat1⟩|⟨rfl,_⟩;rcases hP2 with ⟨b2,r2,_,hr2,rfl,_⟩|⟨rfl,_⟩;rcases hP3 with ⟨b3,r3,_,hr3,rfl,_⟩|⟨rfl,_⟩
 ·refine zz25 ?_;refine aX rfl rfl (aU6 b1 r1 _ (hg.mono le13) (xK hr1 hl1) (hat1.mono (Hl.le_trans le2 le3))) .nil rfl ?_;rintro _ K5 _ ⟨rfl,rfl⟩ le5;have htl:=(aGQ (xK hr1 hl1)).2.2;have le15:=Hl.le_trans le13 le5
  generalize hS:mF r1=S at*
  refine zz15 ?_;refine eJ (fun(i:Nat)=>i≤S.length) (fun i=>[(18,str S),(19,i64 (nl (S.take i))),(20,i64 i)]) (fun _=>K5) (fun _=>[]) (fun i=>S.length - i) 0 (Nat.zero_le _) (.cons 18 rfl (.cons 19 rfl (.cons 20 rfl .nil))) rfl (fun _ h=>h) ?_;intro i hi;have hnb:nl (S.take i)≤S.length:=Nat.le_trans List.count_le_length gBQ;refine zz9 ?_;refine bK 62 rfl (fun h62=>?_) (fun h62=>?_)
  ·have hilt:i < S.length:=by omega
   obtain⟨c,hc⟩:∃c,S[i]?=some c:=⟨S[i]'hilt,List.getElem?_eq_getElem hilt⟩;refine zz8 ?_;refine aA (cZ Tryz.underlying9 rfl rfl rfl hc) rfl ?_;refine zz3 ?_;refine bK 68 rfl (fun h68=>?_) (fun h68=>?_)
   ·refine zz12 ?_;have hup:=bPO hc
    first|(rw[if_pos aI]at hup;exact dF (i+1) aI aI (.cons 18 rfl (.cons 19 (by rw[hup];rfl) (.cons 20 rfl .nil))) rfl (fun _ h=>h))|(rw[if_neg aI]at hup;exact dF (i+1) aI aI (.cons 18 rfl (.cons 19 (by rw[hup];rfl) (.cons 20 rfl .nil))) rfl (fun _ h=>h))
   refine zz8 ?_;have hup:=bPO hc
   first|(rw[if_pos aI]at hup;exact dF (i+1) aI aI (.cons 18 rfl (.cons 19 (by rw[hup];rfl) (.cons 20 rfl .nil))) rfl (fun _ h=>h))|(rw[if_neg aI]at hup;exact dF (i+1) aI aI (.cons 18 rfl (.cons 19 (by rw[hup];rfl) (.cons 20 rfl .nil))) rfl (fun _ h=>h))
  have hie:S.take i=S:=List.take_of_length_le aI;refine zz10 ?_;refine cH 73 rfl (fun g73=>?_) (fun g73=>?_)
  ·refine zz8 ?_;refine cH 78 rfl (fun g78=>?_) (fun g78=>?_)
   ·refine zz9 ?_;refine aA (iT (m:=S.length - 4) Tryz.underlying9 rfl rfl (by show ((S.length:Int) - 4)=_;omega) aI) rfl ?_;refine zz7 ?_;refine uAl ?_;refine bD rfl rfl le15 ?_
    first|exact⟨_,rfl,false,rfl,rfl,fun h=>by cases h⟩|exact⟨_,rfl,_,rfl,rfl,fun h=>⟨r1,r2,r3,S.take (S.length - 4),hr1,by rw[hS,←hie];omega,by rw[hS];have:=of_decide_eq_true h;rw[←this,List.take_append_drop],hr2,hr3⟩⟩
   refine zz11 ?_;refine uAl ?_;refine bD rfl rfl le15 ?_
   first|exact⟨_,rfl,false,rfl,rfl,fun h=>by cases h⟩|exact⟨_,rfl,_,rfl,rfl,fun h=>⟨r1,r2,r3,S.take (S.length - 4),hr1,by rw[hS,←hie];omega,by rw[hS];have:=of_decide_eq_true h;rw[←this,List.take_append_drop],hr2,hr3⟩⟩
  refine zz16 ?_;refine uAl ?_;refine bD rfl rfl le15 ?_
  first|exact⟨_,rfl,false,rfl,rfl,fun h=>by cases h⟩|exact⟨_,rfl,_,rfl,rfl,fun h=>⟨r1,r2,r3,S.take (S.length - 4),hr1,by rw[hS,←hie];omega,by rw[hS];have:=of_decide_eq_true h;rw[←this,List.take_append_drop],hr2,hr3⟩⟩
 ·refine zz27 ?_;refine uAl ?_;refine bD rfl rfl le13 ?_;exact⟨_,rfl,false,rfl,rfl,fun h=>by cases h⟩
 ·refine zz25 ?_;refine uAl ?_;refine bD rfl rfl le13 ?_;exact⟨_,rfl,false,rfl,rfl,fun h=>by cases h⟩
 refine zz23 ?_;refine uAl ?_;refine bD rfl rfl le13 ?_;exact⟨_,rfl,false,rfl,rfl,fun h=>by cases h⟩
theorem bSR(t a b:aJ):iG++[105,102,32]++(t++[10])++[32,123]++(a++[10])++[125,32,101,108,115,101,32,123]++(b++[10])++[125]=tx1 t a b:=by
 have e1:rend tI []=iG++[105,102]:=by decide
 have e2:rend tM []=[10,32,123]:=by decide
 have e3:rend tE []=[10,125,32,101,108,115,101,32,123]:=by decide
 have e4:rend tZ []=[10,125]:=by decide
 simp[tx1,two,e1,e2,e3,e4]
theorem bSS(t a b:aJ):iG++[105,102,32,110,111,116,32]++(t++[10])++[32,123]++(a++[10])++[125,32,101,108,115,101,32,123]++(b++[10])++[125]=tx2 t a b:=by
 have e1:rend tN []=iG++[105,102,32,110,111,116]:=by decide
 have e2:rend tM []=[10,32,123]:=by decide
 have e3:rend tE []=[10,125,32,101,108,115,101,32,123]:=by decide
 have e4:rend tZ []=[10,125]:=by decide
 simp[tx2,two,e1,e2,e3,e4]
theorem bST(t a b:aJ):iG++[105,102,32,97,108,108,111,102,32,40]++(t++[10])++[44,32]++(t++[10])++[41,32,123]++(a++[10])++[125,32,101,108,115,101,32,123]++(b++[10])++[125]=tx3 t a b:=by
 have e1:rend tA []=iG++[105,102,32,97,108,108,111,102,32,40]:=by decide
 have e2:rend tC []=[10,44]:=by decide
 have e5:rend tP []=[10,41,32,123]:=by decide
 have e3:rend tE []=[10,125,32,101,108,115,101,32,123]:=by decide
 have e4:rend tZ []=[10,125]:=by decide
 simp[tx3,two,e1,e2,e3,e4,e5]
theorem bSU(t a b:aJ):iG++[105,102,32,97,110,121,111,102,32,40]++(t++[10])++[41,32,123]++(a++[10])++[125,32,101,108,115,105,102,32,102,97,108,115,101,32,123,115,116,111,112,59,125,32,101,108,115,101,32,123]++(b++[10])++[125]=tx4 t a b:=by
 have e1:rend tO []=iG++[105,102,32,97,110,121,111,102,32,40]:=by decide
 have e5:rend tP []=[10,41,32,123]:=by decide
 have e3:rend tF []=[10,125,32,101,108,115,105,102,32,102,97,108,115,101,32,123,115,116,111,112,59,125,32,101,108,115,101,32,123]:=by decide
 have e4:rend tZ []=[10,125]:=by decide
 simp[tx4,two,e1,e3,e4,e5]
theorem aYA{s:aJ}{m:Msg}(hm:MsgOk m):(rn s m).1.length≤1000000:=by
 unfold rn;split
 ·simp
 split
 ·simp
 rename_i r hr;have:=aLF (nm:=decide (dB∈r.1)) hm (aXH hr aI).1
 show (sayC r m).acts.length≤_
 unfold sayC;omega
def Dol(t:aJ)(i:Nat):Prop:=∃(j:Nat) (c:UInt8),i≤j∧t[j]?=some c∧c.toNat=36
theorem bQY{t:aJ}(h:¬ ∀y∈t,y≠36):Dol (t++[10]) 0:=by
 have:∃y,y∈t∧y=36:=Classical.byContradiction fun hn=>h fun y hy e=>hn ⟨y,hy,e⟩
 obtain⟨y,hy,rfl⟩:=this;obtain⟨j,hj⟩:=List.mem_iff_getElem?.1 hy;have hl:j < t.length:=by
  rcases Nat.lt_or_ge j t.length with h'|h'
  ·exact h'
  rw[List.getElem?_eq_none h']at hj;cases hj
 exact⟨j,36,Nat.zero_le _,by rw[List.getElem?_append_left hl];exact hj,rfl⟩
theorem aSP{E:Env}{fr:Fr}{K:Hl}{L:List Asn}{o:_}{b c:Bool}(h:Ev E fr K L o (.bool b))(hb:b=c):Ev E fr K L o (.bool c):=hb▸h
theorem aSK{t:aJ}{i:Nat}{c:UInt8}(hc:t[i]?=some c)(h:false=true∨Dol t i):decide ((c.toNat:Int)=36)=true∨Dol t (i+1):=by
 rcases h with h|⟨j,d,h1,h2,h3⟩
 ·cases h
 by_cases hj:j=i
 ·subst hj;rw[hc]at h2;cases h2
  exact .inl (decide_eq_true aI)
 exact .inr ⟨j,d,by omega,h2,h3⟩
theorem bMC{t:aJ}{i:Nat}{y:Bool}(hi:t.length≤i)(h:y=true∨Dol t i):y=true:=by
 rcases h with h|⟨j,d,h1,h2,h3⟩
 ·exact h
 rw[List.getElem?_eq_none aI]at h2;cases h2
theorem aRN(t a b:aJ)(m:Msg)(hv:Value)(K:Hl)(hg:Glob K)(hE:ErrT K)(hh:Ksl hdEl K hv m.hs)(hz:MsgSz m)(ht:t.length≤140737488355328)(ha':a.length≤140737488355328)(hb':b.length≤140737488355328):Sp Tryz.prog 13 [str t,str a,str b,msgV m hv] K [] (Ret fun v K' L'=>v=.bool true):=by
 have hh0:=hh;have hhl:=aNJ;obtain⟨ha,hn,hc,rfl⟩:=hh.isSlice;refine a8 Tryz.func13 rfl Tryz.ntmps13 rfl rfl fun F w=>?_;refine zz3 ?_;rintro _ K _ ⟨b7,rfl,rfl,rfl⟩ -;refine zz5 ?_;refine aX rfl rfl (vT _ hg hE) .nil rfl ?_;rintro _ K1 _ ⟨rfl,rfl⟩ le1;refine zz6 ?_;refine aX rfl rfl (uU m (.slice ha hn hc) _ (hh0.mono le1) hz) .nil rfl ?_;rintro _ K1 _ ⟨sb,rfl,hsb,rfl,rfl⟩ -;refine zz12 ?_;refine aA gAF rfl ?_;refine zz3 ?_;refine eO 37 rfl (fun h37=>?_) (fun h37=>?_)
 ·have le9:=le1;refine zz8 ?_;refine uAl ?_;refine bD rfl rfl le9 ?_;exact⟨_,rfl,rfl⟩
 have hm:MsgOk m:=hsb (by simpa using h37);refine zz16 ?_;refine bK 47 rfl (fun h47=>?_) (fun h47=>?_)
 ·have le9:=le1;refine zz7 ?_;refine uAl ?_;refine bD rfl rfl le9 ?_;exact⟨_,rfl,rfl⟩
 have hs:t.length+a.length+b.length≤250:=aI;refine zz4 ?_;refine aA (aNC (v:=str iG) (aD rfl) (by rfl)) rfl ?_;refine zz8 ?_;refine aX rfl rfl (aX3 t a b _ (hg.mono le1) (hE.mono le1) hs) .nil rfl ?_;rintro _ K2 _ ⟨pb,rfl,rfl,hpb⟩ le2;have le12:=Hl.le_trans le1 le2;refine zz7 ?_;refine aA gAF rfl ?_;refine zz2 ?_;refine eO 54 rfl (fun h54=>?_) (fun h54=>?_)
 ·have le9:=le12;refine zz7 ?_;refine uAl ?_;refine bD rfl rfl le9 ?_;exact⟨_,rfl,rfl⟩
 obtain⟨rx,ra,rb,pre,px,hnl,hpre,pa,pb2⟩:=hpb (by simpa using h54);refine zz5 ?_;refine aA (cW rfl rfl gAI) rfl ?_;refine zz6 ?_;refine aA (cW rfl rfl gAI) rfl ?_;refine zz6 ?_;refine aA (cW rfl rfl gAI) rfl ?_;refine zz6 ?_;refine aA (cW rfl rfl gAB) rfl ?_;refine zz1 ?_;refine aA (cW rfl rfl gAB) rfl ?_;refine aA (cW rfl rfl gAB) rfl ?_;refine zz1 ?_;refine aA (cW rfl rfl gAB) rfl ?_;refine aA (cW rfl rfl gAB) rfl ?_;refine zz1 ?_;refine aA (cW rfl rfl gAB) rfl ?_;refine aA (aNC (cW rfl rfl gAB) (congrArg str (bSR t a b))) rfl ?_;refine zz1 ?_;refine aX rfl rfl (nZ (tx1 t a b) m (.slice ha hn hc) _ (hg.mono le12) (hE.mono le12) (hh0.mono le12) hm) .nil rfl ?_;rintro _ K3 _ ⟨v1,rfl,rfl⟩ le3;have le13:=Hl.le_trans le12 le3;refine zz12 ?_;refine aA (cW rfl rfl gAB) rfl ?_;refine zz1 ?_;refine aA (cW rfl rfl gAB) rfl ?_;refine aA (cW rfl rfl gAB) rfl ?_;refine zz1 ?_;refine aA (cW rfl rfl gAB) rfl ?_;refine aA (cW rfl rfl gAB) rfl ?_;refine zz1 ?_;refine aA (cW rfl rfl gAB) rfl ?_;refine aA (aNC (cW rfl rfl gAB) (congrArg str (bSS t b a))) rfl ?_;refine zz1 ?_;refine aX rfl rfl (nZ (tx2 t b a) m (.slice ha hn hc) _ (hg.mono le13) (hE.mono le13) (hh0.mono le13) hm) .nil rfl ?_;rintro _ K4 _ ⟨v2,rfl,rfl⟩ le4;have le14:=Hl.le_trans le13 le4;refine zz9 ?_;rcases Bool.eq_false_or_eq_true (rn (tx1 t a b) m).2.2 with hO|hO;rcases Bool.eq_false_or_eq_true (rn (tx2 t b a) m).2.2 with hW|hW
 ·have hL:=Say.turned_law px hnl hpre pa pb2 hO hW;have hal:=aYA (s:=tx1 t a b) hm;rw[hL.1];refine zz3 ?_;refine aA (aSP (c:=true) (aB rfl) hO) rfl ?_;refine zz3 ?_;refine aA (aSP (c:=true) (aB rfl) hO) rfl ?_;refine zz11 ?_;refine aA (cW rfl rfl gAB) rfl ?_;refine zz1 ?_;refine aA (cW rfl rfl gAB) rfl ?_;refine aA (cW rfl rfl gAB) rfl ?_;refine zz1 ?_;refine aA (cW rfl rfl gAB) rfl ?_;refine aA (cW rfl rfl gAB) rfl ?_;refine zz1 ?_;refine aA (cW rfl rfl gAB) rfl ?_;refine aA (cW rfl rfl gAB) rfl ?_;refine zz1 ?_;refine aA (cW rfl rfl gAB) rfl ?_;refine aA (aNC (cW rfl rfl gAB) (congrArg str (bST t a b))) rfl ?_;refine zz1 ?_;refine aX rfl rfl (nZ (tx3 t a b) m (.slice ha hn hc) _ (hg.mono le14) (hE.mono le14) (hh0.mono le14) hm) .nil rfl ?_;rintro _ K5 _ ⟨v3,rfl,rfl⟩ le5;have le15:=Hl.le_trans le14 le5;refine zz12 ?_;refine aA (cW rfl rfl gAB) rfl ?_;refine zz1 ?_;refine aA (cW rfl rfl gAB) rfl ?_;refine aA (cW rfl rfl gAB) rfl ?_;refine zz1 ?_;refine aA (cW rfl rfl gAB) rfl ?_;refine aA (cW rfl rfl gAB) rfl ?_;refine zz1 ?_;refine aA (cW rfl rfl gAB) rfl ?_;refine aA (aNC (cW rfl rfl gAB) (congrArg str (bSU t a b))) rfl ?_;refine zz1 ?_;refine aX rfl rfl (nZ (tx4 t a b) m (.slice ha hn hc) _ (hg.mono le15) (hE.mono le15) (hh0.mono le15) hm) .nil rfl ?_;rintro _ K6 _ ⟨v4,rfl,rfl⟩ le6;have le9:=Hl.le_trans le15 le6;have hal3:=aYA (s:=tx3 t a b) hm;have hal4:=aYA (s:=tx4 t a b) hm;have hD:(rn (tx3 t a b) m).2.2=true→rn (tx3 t a b) m=rn (tx1 t a b) m∨Dol (t++[10]) 0:=fun h3=>(Classical.em (∀y∈t,y≠36)).elim (fun hd=>.inl (hL.2.1 h3 hd)) (fun hd=>.inr (bQY hd))
  have hL4:=hL.2.2;clear hL
  generalize rn (tx1 t a b) m=R at*
  refine zz13 ?_;refine aX rfl rfl (tW v1 v2 R.1 R.1 _ hal hal) (.cons (.there (.there (.there .here))) (.cons (.there (.there .here)) .nil)) rfl ?_;rintro _ K6 _ ⟨rfl,rfl,rfl⟩ -;rw[decide_eq_true (rfl:R.1=R.1)];refine zz3 ?_;refine gV (fun(y:Bool)=>y=true∨Dol (t++[10]) 0) (fun y=>[(0,str (t++[10])),(13,v1),(14,i64 R.2.1),(17,i64 R.2.1),(22,v4),(23,i64 (rn (tx4 t a b) m).2.1),(24,.bool (rn (tx4 t a b) m).2.2),(25,.bool true),(26,.bool y)]) (fun _=>K6) (fun _=>[sl true cS v1 R.1,sl true cS v4 (rn (tx4 t a b) m).1]) ?_ ?_
  ·refine zz2 ?_;refine aA gAF rfl ?_;refine zz1 ?_;refine lE 143 rfl (fun g143=>?_) (fun g143=>?_)
   ·refine zz11 ?_
    first|(refine aU (.cons .here (.cons (.there .here) .nil)) ?_;exact cN true (.inl rfl) (.cons 0 rfl (.cons 13 rfl (.cons 14 rfl (.cons 17 rfl (.cons 22 rfl (.cons 23 rfl (.cons 24 rfl (.cons 25 rfl (.cons 26 rfl .nil))))))))) rfl (fun _ h=>h))|(refine aU (.cons .here (.cons (.there (.there .here)) .nil)) ?_;exact cN (decide (R.2.1=(rn (tx3 t a b) m).2.1)) ((hD gCA).elim (fun e=>.inl (by rw[e];exact decide_eq_true rfl)) .inr) (.cons 0 rfl (.cons 13 rfl (.cons 14 rfl (.cons 17 rfl (.cons 22 rfl (.cons 23 rfl (.cons 24 rfl (.cons 25 rfl (.cons 26 rfl .nil))))))))) rfl (fun _ h=>h))|(refine aU (.cons .here (.cons (.there (.there .here)) .nil)) ?_;exact cN false ((hD gCA).elim (fun e=>absurd (by rw[e]) g147) .inr) (.cons 0 rfl (.cons 13 rfl (.cons 14 rfl (.cons 17 rfl (.cons 22 rfl (.cons 23 rfl (.cons 24 rfl (.cons 25 rfl (.cons 26 rfl .nil))))))))) rfl (fun _ h=>h))
   refine zz5 ?_;refine aX rfl rfl (tW v1 v3 R.1 (rn (tx3 t a b) m).1 _ hal hal3) (.cons .here (.cons (.there (.there .here)) .nil)) rfl ?_;rintro _ K6 _ ⟨rfl,rfl,rfl⟩ -;refine zz2 ?_;refine cH 147 rfl (fun g147=>?_) (fun g147=>?_)
   ·refine zz11 ?_
    first|(refine aU (.cons .here (.cons (.there .here) .nil)) ?_;exact cN true (.inl rfl) (.cons 0 rfl (.cons 13 rfl (.cons 14 rfl (.cons 17 rfl (.cons 22 rfl (.cons 23 rfl (.cons 24 rfl (.cons 25 rfl (.cons 26 rfl .nil))))))))) rfl (fun _ h=>h))|(refine aU (.cons .here (.cons (.there (.there .here)) .nil)) ?_;exact cN (decide (R.2.1=(rn (tx3 t a b) m).2.1)) ((hD gCA).elim (fun e=>.inl (by rw[e];exact decide_eq_true rfl)) .inr) (.cons 0 rfl (.cons 13 rfl (.cons 14 rfl (.cons 17 rfl (.cons 22 rfl (.cons 23 rfl (.cons 24 rfl (.cons 25 rfl (.cons 26 rfl .nil))))))))) rfl (fun _ h=>h))|(refine aU (.cons .here (.cons (.there (.there .here)) .nil)) ?_;exact cN false ((hD gCA).elim (fun e=>absurd (by rw[e]) g147) .inr) (.cons 0 rfl (.cons 13 rfl (.cons 14 rfl (.cons 17 rfl (.cons 22 rfl (.cons 23 rfl (.cons 24 rfl (.cons 25 rfl (.cons 26 rfl .nil))))))))) rfl (fun _ h=>h))
   refine zz8 ?_
   first|(refine aU (.cons .here (.cons (.there .here) .nil)) ?_;exact cN true (.inl rfl) (.cons 0 rfl (.cons 13 rfl (.cons 14 rfl (.cons 17 rfl (.cons 22 rfl (.cons 23 rfl (.cons 24 rfl (.cons 25 rfl (.cons 26 rfl .nil))))))))) rfl (fun _ h=>h))|(refine aU (.cons .here (.cons (.there (.there .here)) .nil)) ?_;exact cN (decide (R.2.1=(rn (tx3 t a b) m).2.1)) ((hD gCA).elim (fun e=>.inl (by rw[e];exact decide_eq_true rfl)) .inr) (.cons 0 rfl (.cons 13 rfl (.cons 14 rfl (.cons 17 rfl (.cons 22 rfl (.cons 23 rfl (.cons 24 rfl (.cons 25 rfl (.cons 26 rfl .nil))))))))) rfl (fun _ h=>h))|(refine aU (.cons .here (.cons (.there (.there .here)) .nil)) ?_;exact cN false ((hD gCA).elim (fun e=>absurd (by rw[e]) g147) .inr) (.cons 0 rfl (.cons 13 rfl (.cons 14 rfl (.cons 17 rfl (.cons 22 rfl (.cons 23 rfl (.cons 24 rfl (.cons 25 rfl (.cons 26 rfl .nil))))))))) rfl (fun _ h=>h))
  intro y hy;refine zz7 ?_;refine rC (fun(i:Nat) (y2:Bool)=>i≤(t++[10]).length∧(y2=true∨Dol (t++[10]) i)) (fun i y2=>[(0,str (t++[10])),(13,v1),(14,i64 R.2.1),(17,i64 R.2.1),(22,v4),(23,i64 (rn (tx4 t a b) m).2.1),(24,.bool (rn (tx4 t a b) m).2.2),(25,.bool true),(26,.bool y2),(27,i64 i)]) (fun _ _=>K6) (fun _ _=>[sl true cS v1 R.1,sl true cS v4 (rn (tx4 t a b) m).1]) (fun i _=>(t++[10]).length - i) 0 y ⟨Nat.zero_le _,hy⟩ (.cons 0 rfl (.cons 13 rfl (.cons 14 rfl (.cons 17 rfl (.cons 22 rfl (.cons 23 rfl (.cons 24 rfl (.cons 25 rfl (.cons 26 rfl (.cons 27 rfl .nil)))))))))) rfl (fun _ h=>h) ?_;intro i y2 ⟨hi,hy2⟩;have htl:(t++[10]).length≤251:=by simp;omega
  refine zz9 ?_;refine bK 156 rfl (fun h156=>?_) (fun h156=>?_)
  ·have hilt:i < (t++[10]).length:=by omega
   obtain⟨c,hc⟩:∃c,(t++[10])[i]?=some c:=⟨(t++[10])[i]'hilt,List.getElem?_eq_getElem hilt⟩;refine zz7 ?_;refine lE 160 rfl (fun g160=>?_) (fun g160=>?_)
   ·refine zz14 ?_
    first|exact fR (i+1) true ⟨by omega,.inl rfl⟩ aI (.cons 0 rfl (.cons 13 rfl (.cons 14 rfl (.cons 17 rfl (.cons 22 rfl (.cons 23 rfl (.cons 24 rfl (.cons 25 rfl (.cons 26 rfl (.cons 27 rfl .nil)))))))))) rfl (fun _ h=>h)|exact fR (i+1) (decide ((c.toNat:Int)=36)) ⟨by omega,aSK hc hy2⟩ aI (.cons 0 rfl (.cons 13 rfl (.cons 14 rfl (.cons 17 rfl (.cons 22 rfl (.cons 23 rfl (.cons 24 rfl (.cons 25 rfl (.cons 26 rfl (.cons 27 rfl .nil)))))))))) rfl (fun _ h=>h)
   subst g160;refine zz5 ?_;refine aA (cZ Tryz.underlying9 rfl rfl rfl hc) rfl ?_;refine zz12 ?_
   first|exact fR (i+1) true ⟨by omega,.inl rfl⟩ aI (.cons 0 rfl (.cons 13 rfl (.cons 14 rfl (.cons 17 rfl (.cons 22 rfl (.cons 23 rfl (.cons 24 rfl (.cons 25 rfl (.cons 26 rfl (.cons 27 rfl .nil)))))))))) rfl (fun _ h=>h)|exact fR (i+1) (decide ((c.toNat:Int)=36)) ⟨by omega,aSK hc hy2⟩ aI (.cons 0 rfl (.cons 13 rfl (.cons 14 rfl (.cons 17 rfl (.cons 22 rfl (.cons 23 rfl (.cons 24 rfl (.cons 25 rfl (.cons 26 rfl (.cons 27 rfl .nil)))))))))) rfl (fun _ h=>h)
  have hy3:y2=true:=bMC aI hy2;subst hy3;refine zz8 ?_;refine aA gAF rfl ?_;refine zz1 ?_;refine lE 168 rfl (fun g168=>?_) (fun g168=>?_)
  ·refine zz21 ?_;refine aA (wX rfl rfl rfl) rfl ?_;refine zz13 ?_;refine uAl ?_;refine bD rfl rfl le9 ?_;exact⟨_,rfl,rfl⟩
  rw[hL4 (by simpa using g168)];refine zz5 ?_;refine aX rfl rfl (tW v1 v4 R.1 R.1 _ hal hal) (.cons .here (.cons .here .nil)) rfl ?_;rintro _ K6 _ ⟨rfl,rfl,rfl⟩ -;rw[decide_eq_true (rfl:R.1=R.1)];refine zz7 ?_;refine aA (wX rfl rfl rfl) rfl ?_;refine zz15 ?_;refine aA (wX rfl rfl rfl) rfl ?_;refine zz13 ?_;refine uAl ?_;refine bD rfl rfl le9 ?_;exact⟨_,rfl,rfl⟩
 ·refine zz3 ?_;refine aA (aSP (c:=true) (aB rfl) hO) rfl ?_;refine zz3 ?_;refine aA (aSP (c:=false) (aB rfl) hW) rfl ?_;refine zz13 ?_;refine uAl ?_;refine bD rfl rfl le14 ?_;exact⟨_,rfl,rfl⟩
 refine zz3 ?_;refine aA (aSP (c:=false) (aB rfl) hO) rfl ?_;refine zz15 ?_;refine uAl ?_;refine bD rfl rfl le14 ?_;exact⟨_,rfl,rfl⟩
end Go.Proofs
end

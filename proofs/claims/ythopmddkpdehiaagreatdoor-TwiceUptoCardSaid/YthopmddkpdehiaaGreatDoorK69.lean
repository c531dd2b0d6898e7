/-
  What the proof stands on, part 71: the logic of walks, the walks through the functions, the plain laws. Conditions: as each theorem says. (Merged and shortened by a program.)
-/
import Derived.Test.YthopmddkpdehiaaGreatDoorK44
import Derived.Test.YthopmddkpdehiaaGreatDoorK68
set_option linter.unusedVariables false
set_option linter.unusedSimpArgs false
set_option maxRecDepth 4000
set_option maxHeartbeats 1000000
section
attribute [local irreducible] Go.SL.T Go.SL.OL Go.SL.D Go.SL.DL Go.SL.Ev Go.SL.Ef Go.SL.EfS
namespace Go.Proofs
open Go Go.SL Go.Syn Go.Box Go.Mach
theorem uM{n:Nat}{ds:List Deferred}{w0:World}{F:Hl}{fr:Fr}{K:Hl}{L:List Asn}{dst:Option Tmp}{ty t':TypeId}{pos:String}{aft:Array Edge}{g:Option (Nat×Bool)}{x y:Operand}{a c:fY}(hx:fr.ev x=some (.agg #[str a.1,str a.2]))(hy:fr.ev y=some (.agg #[str c.1,str c.2]))(e:a=c):
  Ev ⟨Tryz.prog,n,ds,w0,F⟩ fr K L ⟨dst,.binOp .neq 66 x y t',ty,pos,aft,g⟩ (.bool false):=gN (aJR (a:=a) (c:=c) hx hy) (by rw[decide_eq_true e];rfl)
abbrev zN:aJ:=[105,110,98,111,120,47,122]
abbrev aN:aJ:=[105,110,98,111,120,47,97,49]
abbrev oldB:aJ:=[111,108,100]
abbrev newB:aJ:=[110,101,119]
def dur0:DMap:=lQ [(zN,oldB)] (fun _=>none)
theorem aHM:eY [97,49] [(1,[])] newB=.ok [(aN,newB)]:=by rfl
theorem aNG:boxF [97,49] [(1,[])] newB dur0=(0,after [(aN,newB)] dur0):=by unfold boxF;rw[aHM]
theorem bV1:zN≠bM:=by decide
theorem bVL:aN≠bM:=by decide
theorem aA2(n:aJ):after [(aN,newB)] dur0 n=if n=aN then some newB else if n=zN then some oldB else none:=by
 by_cases hj:n=bM
 ·subst hj;rw[kH];rfl
 rw[lV hj];rfl
theorem bHN:gQ (after [(aN,newB)] dur0) [(aN,newB),(zN,oldB)]:=by
 refine⟨fun n d=>?_,by simp[List.pairwise_cons];decide⟩
 rw[aA2];simp only[List.mem_cons,List.not_mem_nil,or_false,Prod.mk.injEq];split
 ·rename_i h;subst h;simp[eq_comm]
 rename_i h1;split
 ·rename_i h;subst h;simp[eq_comm]
 rename_i h2;simp[h1,h2]
theorem bB4:uI (after [(aN,newB)] dur0) [aN,zN]:=by
 intro n hn;rw[aA2]at hn
 by_cases h1:n=aN
 ·rw[h1];exact List.mem_cons_self
 by_cases h2:n=zN
 ·rw[h2];exact List.mem_cons_of_mem _ List.mem_cons_self
 rw[if_neg h1,if_neg h2]at hn;cases hn
theorem bSP{f:DMap}{ys:List fY}{n m:aJ}(h:gQ f ys)(hn:(f n).isSome=true)(hm:(f m).isSome=true)(hne:n≠m):2≤ys.length:=by
 obtain⟨d,hd⟩:=Option.isSome_iff_exists.1 hn;obtain⟨e,he⟩:=Option.isSome_iff_exists.1 hm;have h1:=(h.1 n d).2 hd;have h2:=(h.1 m e).2 he
 match ys,h1,h2 with
 | [x],h1,h2=>rw[List.mem_singleton]at h1 h2;rw[←h1]at h2;exact absurd (congrArg Prod.fst h2).symm hne
 |_::_::_,_,_=>simp
theorem bMD{id:aJ}{acts:List Action}{text:aJ}{f:DMap}{ns:List aJ}(h:uI f ns)(hl:∀xs,eY id acts text=.ok xs→xs.length≤100)(hn:ns.length≤1000):∃ms,uI (boxF id acts text f).2 ms∧ms.length≤ns.length+100:=by
 unfold boxF;cases hf:eY id acts text with
 |error e=>exact⟨ns,h,by omega⟩
 |ok xs=>exact⟨_,aFQ h,by have:=hl xs hf;simp;omega⟩
theorem bEM{s:DSt}(h:Box.Rest s):d6 (s.set (-1) (-1))=(none,s.dec.flush):=by rw[h.set];exact xT h.up aI
theorem aX7{s:DSt}(h:Box.Rest s):Box.Rest (s.dec.flush.set (-1) (-1))∧(s.dec.flush.set (-1) (-1)).dur=s.dur:=by
 have e:s.dec.flush.dur=s.dur:=by show s.pend.foldl doF s.dur=_;rw[h.pend];rfl
 exact⟨⟨h.down,rfl,by show s.now=s.dec.flush.dur;rw[e,h.now],rfl,rfl⟩,e⟩
theorem aYU(id text:aJ)(v:Value)(acts:List Action)(K:Hl)(hg:Glob K)(hdb:Deb K)(hE:ErrT K)(hv:Ksl cS K v acts)(hid:id.length≤140737488355328)(htx:text.length≤140737488355328)(hal:acts.length≤140737488355328)(ha:∀a∈acts,a.2.length≤1048576):
  Sp Tryz.prog 9 [str id,v,str text] K [] (Ret fun r K' L'=>r=.bool true):=by
 have hlen:text.length≤1048576→∀xs,eY id acts text=.ok xs→xs.length≤100:=fun ht xs h=>by have:=xC ht ha h;omega
 have hlen1:∀xs,eY [97,49] [(1,[])] newB=.ok xs→xs.length≤100:=fun xs h=>by rw[aHM]at h;cases h;simp
 have hr0:Box.Rest ⟨dur0,dur0,[],-1,-1,false⟩:=⟨rfl,rfl,rfl,rfl,rfl⟩;refine a8 Tryz.func9 rfl Tryz.ntmps9 rfl rfl fun F w=>?_;refine zz12 ?_;refine cH 21 rfl (fun g21=>?_) (fun g21=>?_)
 ·refine zz14 ?_;refine uAl ?_;refine bD rfl rfl gBF ?_;exact⟨_,rfl,rfl⟩
 refine zz3 ?_;refine aA (bO (k:=cS) rfl Tryz.underlying29 rfl (.known hv)) rfl ?_;refine zz5 ?_;refine bK 25 rfl (fun h25=>?_) (fun h25=>?_)
 ·refine zz7 ?_;refine uAl ?_;refine bD rfl rfl gBF ?_;exact⟨_,rfl,rfl⟩
 have ht:text.length≤1048576:=by omega
 have hlen2:=hlen ht;refine zz4 ?_;refine uAc ?_;refine cC (bH (z0:=[(str []),(str [])]) eK aID rfl rfl rfl rfl (.cons rfl rfl rfl (.cons (.cons .nil)) .nil)) rfl ?_;rintro _ K _ ⟨b27,rfl,rfl,rfl⟩ -;refine fT fun K1 le1 hb27=>?_;have hvz:Ksl cD K1 (.slice (some ⟨b27,0,none⟩) 1 1) [(zN,oldB)]:=.inr ⟨b27,0,1,_,_,rfl,⟨_,hb27⟩,rfl⟩;refine aX rfl rfl (aBB _ [(zN,oldB)] _ hvz (by simp)) .nil rfl ?_;rintro _ K2 _ ⟨bx,b,rfl,hbx,rfl⟩ le2;have hle2:=Hl.le_trans le1 le2;refine zz5 ?_;refine uAu ?_;refine cC (bH (z0:=[.int .i64 0,(str [])]) gK aIC rfl rfl rfl rfl (.cons rfl rfl rfl (.cons (.cons .nil)) .nil)) rfl ?_;rintro _ K _ ⟨b30,rfl,rfl,rfl⟩ -;refine zz4 ?_;refine l8 fun K3 le3 hb30=>?_;have hva:Ksl cS K3 (.slice (some ⟨b30,0,none⟩) 1 1) [(1,[])]:=.inr ⟨b30,0,1,_,_,rfl,⟨_,hb30⟩,rfl⟩;have hle3:=Hl.le_trans hle2 le3;obtain⟨hB1,hB2,hB3⟩:=aDK hr0 hlen1;refine zz3 ?_;refine aX rfl rfl (wP bx b [97,49] newB _ [(1,[])] (-1) (-1) 0 0 ⟨dur0,dur0,[],-1,-1,false⟩ _ _ le3 (hbx.mono le3) (hg.mono hle3) (hdb.mono hle3) (hE.mono hle3) hva (by simp) (by simp) (by simp) (by simp) (by simp) aI aI (fun h=>by rw[hB2]at h;cases h)) (.cons .here .nil) rfl ?_;rintro _ K4 _ ⟨rfl,t1,hend,rfl⟩ le4;obtain⟨hR1,hd1⟩:=hB3 t1 hend;rw[hB1,aNG];rw[aNG]at hd1
 replace hd1:t1.dur=after [(aN,newB)] dur0:=hd1
 have hle4:=Hl.le_trans hle3 le4;have hbx4:=(hbx.mono le3).mono le4;have hdom1:uI t1.dur [aN,zN]:=(by rw[hd1];exact bB4);refine zz6 ?_;refine aX rfl rfl (mV bx b t1 [aN,zN] hdom1 (by simp) _ _ (Hl.le_refl _) hbx4) (.cons .here .nil) rfl ?_;rintro v35 K4 _ ⟨rfl,ys,hys,rfl⟩ -;rw[hd1]at hys;obtain rfl:=nI hys bHN;refine zz12 ?_;refine aA (bO (k:=cD) rfl Tryz.underlying62 rfl (.own .here)) rfl ?_;refine zz7 ?_;refine aA (bE (j:=0) (k:=cD) eK rfl (.own .here) rfl rfl (by simp)) rfl ?_;refine zz1 ?_;refine aA (dC (n:=0) (k:=cD) kD rfl (.own .here) rfl) rfl ?_;refine zz1 ?_;refine uAc ?_;refine zz1 ?_;refine aA (uM (a:=(aN,newB)) (c:=(aN,newB)) rfl rfl rfl) rfl ?_;refine zz5 ?_;refine aA (bE (j:=1) (k:=cD) eK rfl (.own .here) rfl rfl (by simp)) rfl ?_;refine zz1 ?_;refine aA (dC (n:=0) (k:=cD) kD rfl (.own .here) rfl) rfl ?_;refine zz1 ?_;refine uAc ?_;refine zz1 ?_;refine aA (uM (a:=(zN,oldB)) (c:=(zN,oldB)) rfl rfl rfl) rfl ?_;refine zz7 ?_;refine bR6 ?_;obtain⟨hB4,hB5,hB6⟩:=aDK hR1 hlen2;obtain⟨ms,hms,hml⟩:=bMD (id:=id) (acts:=acts) (text:=text) hdom1 hlen2 (by simp);simp only[List.length_cons,List.length_nil]at hml;refine zz5 ?_;refine aX rfl rfl (wP bx b id text v acts (-1) (-1) 0 0 t1 _ _ (Hl.le_refl _) hbx4 (hg.mono hle4) (hdb.mono hle4) (hE.mono hle4) (hv.mono hle4) hid ht ha aI (by rw[hR1.pend];simp) aI aI (fun h=>by rw[hB5]at h;cases h)) (.cons .here .nil) rfl ?_;rintro _ K5 _ ⟨rfl,t2,hend2,rfl⟩ le5;obtain⟨hR2,hd2⟩:=hB6 t2 hend2;rw[hB4];have hle5:=Hl.le_trans hle4 le5;have hbx5:=hbx4.mono le5;rw[←hd2]at hms;have hz2:(t2.dur zN).isSome=true:=(by rw[hd2];exact aMY bV1 (by rw[hd1,aA2];rfl));have ha2:(t2.dur aN).isSome=true:=(by rw[hd2];exact aMY bVL (by rw[hd1,aA2];rfl));have hj2:t2.dur bM=none:=(by rw[hd2];exact bQR (by rw[hd1];exact kH));have htw:boxF id acts text t2.dur=boxF id acts text t1.dur:=(by rw[hd2];exact aWG id acts text t1.dur);obtain⟨hB7,hB8,hB9⟩:=aDK hR2 hlen2;refine zz6 ?_;refine aX rfl rfl (mV bx b t2 ms hms aI _ _ (Hl.le_refl _) hbx5) (.cons .here .nil) rfl ?_;rintro v63 K5 _ ⟨rfl,ps,hps,rfl⟩ -;have hpl:=aJW hps hms;refine zz9 ?_;refine aX rfl rfl (wP bx b id text v acts (-1) (-1) 0 0 t2 _ _ (Hl.le_refl _) hbx5 (hg.mono hle5) (hdb.mono hle5) (hE.mono hle5) (hv.mono hle5) hid ht ha aI (by rw[hR2.pend];simp) aI aI (fun h=>by rw[hB8]at h;cases h)) (.cons (.there .here) .nil) rfl ?_;rintro _ K6 _ ⟨rfl,t3,hend3,rfl⟩ le6;obtain⟨hR3,hd3⟩:=hB9 t3 hend3;rw[hB7,htw];rw[htw,←hd2]at hd3;have hle6:=Hl.le_trans hle5 le6;have hbx6:=hbx5.mono le6;rw[←hd3]at hms;obtain⟨hR4,hd4⟩:=aX7 hR3;have hj3:t3.dec.flush.now bM=none:=(by show t3.now bM=none;rw[hR3.now,hd3];exact hj2)
 refine zz6 ?_;refine aX rfl rfl (mV bx b t3 ms hms aI _ _ (Hl.le_refl _) hbx6) (.cons .here .nil) rfl ?_;rintro v70 K6 _ ⟨rfl,qs,hqs,rfl⟩ -;rw[hd3]at hqs;obtain rfl:=nI hps hqs;refine zz6 ?_;refine aX rfl rfl (bF1 bx b (-1) (-1) 0 0 t3 _ (bEM hR3) hR3.down hj3 _ _ (Hl.le_refl _) hbx6 (hE.mono hle6) (by rw[hR3.pend];simp)) (.cons (.there .here) .nil) rfl ?_;rintro _ K7 _ ⟨rfl,rfl⟩ le7;rw[←hd4]at hms;have hle7:=Hl.le_trans hle6 le7;refine zz6 ?_;refine aX rfl rfl (mV bx b _ ms hms aI _ _ (Hl.le_refl _) (hbx6.mono le7)) (.cons .here .nil) rfl ?_;rintro v74 K7 _ ⟨rfl,rs,hrs,rfl⟩ -;rw[hd4,hd3]at hrs;obtain rfl:=nI hps hrs;have h2l:=bSP hps hz2 ha2 (by decide);refine zz8 ?_;refine aA (vJ (eB rfl rfl) (fun h=>h rfl)) rfl ?_;refine zz10 ?_;refine aA (bO (k:=cD) rfl Tryz.underlying62 rfl aM) rfl ?_;refine zz3 ?_;refine aA (bO (k:=cD) rfl Tryz.underlying62 rfl aM) rfl ?_;refine zz1 ?_;refine aA (vJ (eB rfl rfl) (fun h=>h rfl)) rfl ?_;refine zz5 ?_;refine aA (bO (k:=cD) rfl Tryz.underlying62 rfl aM) rfl ?_;refine zz3 ?_;refine aA (bO (k:=cD) rfl Tryz.underlying62 rfl aM) rfl ?_;refine zz1 ?_;refine aA (vJ (eB rfl rfl) (fun h=>h rfl)) rfl ?_;refine zz13 ?_;refine z8 (.cons .here (.cons (.there .here) (.cons (.there .here) .nil))) ?_;refine eJ (fun(i:Nat)=>i≤ps.length) (fun i=>[(1,v),(11,i64 (boxF id acts text t1.dur).1),(12,v63),(14,v70),(16,v74),(17,i64 i)]) (fun _=>K7) (fun _=>[sl false cD v74 ps,sl false cD v70 ps,sl false cD v63 ps]) (fun i=>ps.length - i) 0 (Nat.zero_le _) (.cons 1 rfl (.cons 11 rfl (.cons 12 rfl (.cons 14 rfl (.cons 16 rfl (.cons 17 rfl .nil)))))) rfl (fun _ h=>h) ?_;intro i hi;refine zz5 ?_;refine aA (bO (k:=cD) rfl Tryz.underlying62 rfl aM) rfl ?_;refine zz3 ?_;refine bK 99 rfl (fun h99=>?_) (fun h99=>?_)
 ·have hlt:i < ps.length:=by omega
  obtain⟨x,hx⟩:∃x,ps[i]?=some x:=⟨ps[i]'hlt,List.getElem?_eq_getElem hlt⟩;refine zz5 ?_;refine dD (anc:=[0,0,3,7,0,0,48,112,255,511,1023,1023,4095,8191,1023,1023,50175,115711,262143,524287]) (ord:=[0,1,2,3,4,5,6,7,8,9,10,11,12,13,14,15,16,17,18,19]) [] [] mixed gAH (dI _) ?_;refine zz2 ?_;refine aK rfl rfl (.none rfl) rfl rfl (bE (k:=cD) eK rfl aM rfl rfl gAD) rfl ?_;refine aK rfl rfl (.none rfl) rfl rfl (dC (n:=0) (k:=cD) kD rfl aM cB) rfl ?_;refine zz2 ?_;refine aK rfl rfl (.none rfl) rfl rfl (bE (k:=cD) eK rfl aM rfl rfl gAD) rfl ?_;refine aK rfl rfl (.none rfl) rfl rfl (dC (n:=0) (k:=cD) kD rfl aM cB) rfl ?_;refine aK rfl rfl (.none rfl) rfl rfl (uM (a:=x) (c:=x) rfl rfl rfl) rfl ?_;refine zz3 ?_;refine aK rfl rfl (.on rfl rfl rfl) rfl rfl (bE (k:=cD) eK rfl aM rfl rfl gAD) rfl ?_;refine aK rfl rfl (.on rfl rfl rfl) rfl rfl (dC (n:=0) (k:=cD) kD rfl aM cB) rfl ?_;refine zz2 ?_;refine aK rfl rfl (.on rfl rfl rfl) rfl rfl (bE (k:=cD) eK rfl aM rfl rfl gAD) rfl ?_;refine aK rfl rfl (.on rfl rfl rfl) rfl rfl (dC (n:=0) (k:=cD) kD rfl aM cB) rfl ?_;refine aK rfl rfl (.on rfl rfl rfl) rfl rfl (uM (a:=x) (c:=x) rfl rfl rfl) rfl ?_;refine zz12 ?_;exact dF (i+1) aI aI (.cons 1 rfl (.cons 11 rfl (.cons 12 rfl (.cons 14 rfl (.cons 16 rfl (.cons 17 rfl .nil)))))) rfl (fun _ h=>h)
 refine zz10 ?_;refine cH 124 rfl (fun g124=>?_) (fun g124=>?_)
 ·refine zz13 ?_;refine uAl ?_;refine bD rfl rfl gBF ?_;exact⟨_,rfl,rfl⟩
 refine zz3 ?_;refine aA (bO (k:=cS) rfl Tryz.underlying29 rfl (.known (hv.mono hle7))) rfl ?_;refine zz4 ?_;refine cH 129 rfl (fun g129=>?_) (fun g129=>?_)
 ·refine zz8 ?_;refine uAl ?_;refine bD rfl rfl gBF ?_;exact⟨_,rfl,rfl⟩
 refine zz3 ?_;refine aA (bO (k:=cD) rfl Tryz.underlying62 rfl aM) rfl ?_;refine zz1 ?_;refine aA (zB (iQ rfl rfl) aI) rfl ?_;refine zz5 ?_;refine uAl ?_;refine bD rfl rfl gBF ?_;exact⟨_,rfl,rfl⟩
end Go.Proofs
end

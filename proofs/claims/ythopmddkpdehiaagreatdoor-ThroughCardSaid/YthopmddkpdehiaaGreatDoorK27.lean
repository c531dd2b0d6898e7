/-
  What the proof stands on, part 27: the logic of walks, the walks through the functions, the plain laws. Conditions: as each theorem says. (Merged and shortened by a program.)
-/
import Derived.Test.YthopmddkpdehiaaGreatDoorK22
import Derived.Test.YthopmddkpdehiaaGreatDoorK26
set_option linter.unusedVariables false
set_option linter.unusedSimpArgs false
set_option maxRecDepth 4000
set_option maxHeartbeats 1000000
section
namespace Go.Cmp
open Go.Syn Go.Mach
theorem AFit.two{n:Nat}{ops:List Ins}{o:Ins}{op:Int}(h:AFit n ops)(k:IFit n o):AFit n (ops++[o,Cmp.jmp op]):=by
 have:=(h.app (b:=[o]) (fun x hx=>by rw[List.mem_singleton]at hx;subst hx;exact k)).jmp (op:=op)
 simpa using this
theorem bO2(n:Nat):∀(t:Tree),sOk n t→(∀tn ops,AFit n ops→AFit n (unl t tn ops).1)∧(∀all tn ops away here,AFit n ops→AFit n (unlL all tn t ops away here).1):=by
 intro t;induction t with
 |not_ t ih=>grind [unl,unlL,sOk,AFit]
 |const b=>exact fun h=>⟨fun tn ops ho=>by rw[unl];split;exact ho.jmp;exact ho,fun all tn ops away here ho=>by simpa[unlL]using ho⟩
 |many all l ih=>exact fun h=>⟨fun tn ops ho=>by rw[unl];exact((ih h).2 _ _ _ _ _ ho).land,fun all tn ops away here ho=>by simpa[unlL]using ho⟩
 |mat tag oct op a b=>exact fun h=>⟨fun tn ops ho=>by rw[unl];exact ho.two h,fun all tn ops away here ho=>by simpa[unlL]using ho⟩
 |exi a=>exact fun h=>⟨fun tn ops ho=>by rw[unl];exact ho.two ⟨h.1,by simp,h.2,by simp⟩,fun all tn ops away here ho=>by simpa[unlL]using ho⟩
 |siz tag m=>exact fun h=>⟨fun tn ops ho=>by rw[unl];exact ho.two ⟨by simp,by simp,by simp,by simp⟩,fun all tn ops away here ho=>by simpa[unlL]using ho⟩
 |tcons t l ih1 ih2=>
  grind [unl,unlL,sOk,AFit]
 |_=>grind [unl,unlL,AFit]
theorem bFZ(n:Nat):∀(t:Tree),sOk n t→(∀ops,AFit n ops→AFit n (body t ops))∧(∀ops,AFit n ops→AFit n (cmdI t ops))∧(∀ops out,AFit n ops→AFit n (cV t ops out)):=by
 intro t;induction t with
 |plain op=>exact fun h=>⟨fun ops ho=>by simpa[body]using ho,fun ops ho=>by rw[cmdI];exact ho.jmp,fun ops out ho=>by simpa[cV]using ho.land⟩
 |act k a p=>
  refine fun h=>⟨fun ops ho=>by simpa[body]using ho,fun ops ho=>?_,fun ops out ho=>by simpa[cV]using ho.land⟩
  rw[cmdI];refine ho.app fun o hx=>?_;rw[List.mem_singleton]at hx;subst hx
  refine⟨fun x hx=>?_,by simp,?_,by simp⟩
  ·simp only at hx;split at hx
   ·cases hx
   rw[List.mem_singleton]at hx;subst hx;exact h
  simp only;split <;> simp
 |set_ a v t=>
  refine fun h=>⟨fun ops ho=>by simpa[body]using ho,fun ops ho=>?_,fun ops out ho=>by simpa[cV]using ho.land⟩
  rw[cmdI];refine ho.app fun o hx=>?_;rw[List.mem_singleton]at hx;subst hx
  exact⟨fun x hx=>by rw[List.mem_singleton]at hx;subst hx;exact h.1,fun x hx=>by rw[List.mem_singleton]at hx;subst hx;exact h.2,by simp,by simp⟩
 |iff bs ih=>exact fun h=>⟨fun ops ho=>by simpa[body]using ho,fun ops ho=>by rw[cmdI];exact(ih h).2.2 _ _ ho,fun ops out ho=>by simpa[cV]using ho.land⟩
 |ccons c l ih1 ih2=>exact fun h=>⟨fun ops ho=>by rw[body];exact(ih2 h.2).1 _ ((ih1 h.1).2.1 _ ho),fun ops ho=>by simpa[cmdI]using ho,fun ops out ho=>by simpa[cV]using ho.land⟩
 |belse b l ih1 ih2=>exact fun h=>⟨fun ops ho=>by simpa[body]using ho,fun ops ho=>by simpa[cmdI]using ho,fun ops out ho=>by rw[cV];exact((ih1 h.1).1 _ ho).land⟩
 |bcons t b l ih1 ih2 ih3=>
  refine fun h=>⟨fun ops ho=>by simpa[body]using ho,fun ops ho=>by simpa[cmdI]using ho,fun ops out ho=>?_⟩
  have h1:=(ih2 h.2.1).1 _ ((bO2 n t h.1).1 false _ ho);rw[cV];split
  ·exact(ih3 h.2.2).2.2 _ _ h1.land
  exact(ih3 h.2.2).2.2 _ _ h1.jmp.land
 |_=>exact fun h=>⟨fun ops ho=>by simpa[body]using ho,fun ops ho=>by simpa[cmdI]using ho,fun ops out ho=>by simpa[cV]using ho.land⟩
theorem script_fit{n:Nat}{t:Tree}(h:sOk n t):AFit n (script t):=(bFZ n t h).1 [] (fun o ho=>by cases ho)
theorem script_len(t:Tree):(script t).length≤2*cnt t:=by have:=((nG t).1 []).2;unfold script;simpa using this
end Go.Cmp
end
section
namespace Go.Syn
open Go.Mach
def sayC(r:List aJ×Tree)(m:Msg):Out:=Mach.run (decide (dB∈r.1)) (Cmp.script r.2) m
def te:Option (Int×Int)→Int×Int
 |none=>(0,-1)
 |some e=>e
def rn(s:aJ)(m:Msg):List Action×Int×Bool:=
 if 600 < s.length then ([],1,false)
 else match eD s with
  | .error e=>([],e.1,false)
  | .ok r=>((sayC r m).acts,(te (sayC r m).err).1,true)
def okB{α:Type}(r:Res α):Bool:=match r with| .ok _=>true| .error _=>false
theorem bUG:okB (eD t1)=true:=by kernel_rfl
theorem bTY:pc t1=(0,-1):=by kernel_rfl
theorem bTZ:pc tb=(4,9):=by kernel_rfl
theorem bUB:rn t1 m1=([],0,true):=by kernel_rfl
theorem bUC:rn t2 m1=([(3,[97,64,98])],0,true):=by kernel_rfl
end Go.Syn
end
section
attribute [local irreducible] Go.SL.T Go.SL.OL Go.SL.D Go.SL.DL Go.SL.Ev Go.SL.Ef Go.SL.EfS
namespace Go.Proofs
open Go Go.SL Go.Syn Go.Mach Go.Cmp
def bQK(s:aJ)(x y:Value)(K:Hl):Prop:=
 (600 < s.length∧x=.pointer none∧y=.iface 30 (i64 1))∨
 (s.length≤600∧∃b r,eD s=.ok r∧x=ptr b∧y=.nilIface∧aBU K b r)∨
 (s.length≤600∧∃fb e p,eD s=.error (e,p)∧x=.pointer none∧y=.iface 118 (ptr fb)∧K fb=some (aZ [i64 e,i64 p] 123))
theorem aTS(s:aJ)(K:Hl)(hg:Glob K):Sp Tryz.prog 38 [str s] K [] (Ret fun v K' L'=>∃x y,v=.tuple #[x,y]∧bQK s x y K'∧L'=[]):=by
 refine a8 Tryz.func38 rfl Tryz.ntmps38 rfl rfl fun F w=>?_;refine zz9 ?_;refine aX rfl rfl (aX1 s _ hg) .nil rfl ?_;rintro v8 K1 _ ⟨hP,rfl⟩ le1;obtain⟨x,y,rfl,hxy⟩:∃x y,v8=.tuple #[x,y]∧((600 < s.length∧x=.pointer none∧y=.iface 30 (i64 1))∨(s.length≤600∧∃b r,eD s=.ok r∧x=ptr b 6∧y=.nilIface∧ScriptAt K1 b r.1 r.2)∨(s.length≤600∧∃fb e p,eD s=.error (e,p)∧x=.pointer none∧y=.iface 118 (ptr fb)∧K1 fb=some (aZ [i64 e,i64 p] 123))):=(by rcases hP with ⟨h6,rfl⟩|⟨h6,⟨b,r,hr,rfl,hat⟩|⟨fb,e,p,hr,rfl,hfb⟩⟩;exact⟨_,_,rfl,.inl ⟨h6,rfl,rfl⟩⟩;exact⟨_,_,rfl,.inr (.inl ⟨h6,b,r,hr,rfl,rfl,hat⟩)⟩;exact⟨_,_,rfl,.inr (.inr ⟨h6,fb,e,p,hr,rfl,rfl,hfb⟩)⟩);refine zz7 ?_;rcases hxy with ⟨h6,rfl,rfl⟩|⟨h6,b,r,hr,rfl,rfl,hat⟩|⟨h6,fb,e,p,hr,rfl,rfl,hfb⟩
 ·refine zz17 ?_;refine uAl ?_;refine fA rfl rfl rfl le1 ?_;exact⟨_,rfl,_,_,rfl,.inl ⟨h6,rfl,rfl⟩,rfl⟩
 ·have hfit:=sJ hr;refine zz14 ?_;refine aX rfl rfl (aUS b r.1 r.2 _ hat hfit.1 aI) .nil rfl ?_;rintro cv K2 _ ⟨vs,hvs,rfl⟩ le2;refine gX fun K3 le3 hcv=>?_;obtain⟨ca,cn,cc,rfl⟩:=hcv.isSlice;refine aA (cL bVV bUW (.cons rfl rfl rfl (.cons .nil) (.cons rfl rfl rfl (.skip (.cons .nil)) .nil))) rfl ?_;refine zz1 ?_;rintro _ K _ ⟨b18,rfl,rfl,rfl⟩ -;refine zz5 ?_;refine kE fun K4 le4 hb=>?_;refine uAl ?_;refine fA rfl rfl rfl (Hl.le_trans le1 (Hl.le_trans le2 (Hl.le_trans le3 le4))) ?_;exact⟨_,rfl,_,_,rfl,.inr (.inl ⟨h6,b18,r,hr,rfl,rfl,b,_,vs,_,hb,hat.mono (Hl.le_trans le2 (Hl.le_trans le3 le4)),hcv.mono le4,hvs.mono (Hl.le_trans le3 le4)⟩),rfl⟩
 refine zz17 ?_;refine uAl ?_;refine fA rfl rfl rfl le1 ?_;exact⟨_,rfl,_,_,rfl,.inr (.inr ⟨h6,fb,e,p,hr,rfl,rfl,hfb⟩),rfl⟩
def bQL(s:aJ)(x:Value)(K:Hl):Prop:=(∃b r,s.length≤600∧eD s=.ok r∧x=ptr b∧aBU K b r)∨(x=.pointer none∧(600 < s.length∨∃e,eD s=.error e))
theorem lF(s:aJ)(K:Hl)(hg:Glob K)(hE:ErrT K):Sp Tryz.prog 19 [str s] K [] (Ret fun v K' L'=>∃x,v=.tuple #[x,i64 (pc s).1,i64 (pc s).2]∧bQL s x K'∧L'=[]):=by
 refine a8 Tryz.func19 rfl Tryz.ntmps19 rfl rfl fun F w=>?_;refine zz10 ?_;refine aX rfl rfl (aTS s _ hg) .nil rfl ?_;rintro _ K1 _ ⟨x,y,rfl,hP,rfl⟩ le1;refine zz7 ?_;rcases hP with ⟨h6,rfl,rfl⟩|⟨h6,b,r,hr,rfl,rfl,hat⟩|⟨h6,fb,e,p,hr,rfl,rfl,hfb⟩
 ·refine zz3 ?_;refine aX rfl rfl (bK4 1 _ (hE.mono le1)) .nil rfl ?_;rintro _ K _ ⟨rfl,rfl,rfl⟩ -;refine zz18 ?_;refine uAl ?_;refine yU rfl rfl rfl rfl le1 ?_;have hpc:pc s=(1,-1):=(by unfold pc;rw[if_pos h6]);exact⟨_,rfl,_,by rw[hpc],.inr ⟨rfl,.inl h6⟩,rfl⟩
 ·refine zz3 ?_;refine cF rfl rfl (aFA _) rfl ?_;refine zz18 ?_;refine uAl ?_;refine yU rfl rfl rfl rfl le1 ?_;have hpc:pc s=(0,-1):=(by unfold pc;rw[if_neg aI,hr]);exact⟨_,rfl,_,by rw[hpc],.inl ⟨b,r,h6,hr,rfl,hat⟩,rfl⟩
 refine zz3 ?_;refine aX rfl rfl (aRJ fb e p _ [] (hE.mono le1) (.known hfb)) .nil rfl ?_;rintro _ K _ ⟨rfl,rfl,rfl⟩ -;refine zz18 ?_;refine uAl ?_;refine yU rfl rfl rfl rfl le1 ?_;have hpc:pc s=(e,p):=(by unfold pc;rw[if_neg aI,hr]);exact⟨_,rfl,_,by rw[hpc],.inr ⟨rfl,.inr ⟨_,hr⟩⟩,rfl⟩
theorem bMX(b:Nat)(x:List UInt8)(xs:List (List UInt8))(l:List Value)(nv:Value)(fz:Nat×Nat)(K:Hl)(hb:K b=some (aZ l 208 fz))(hl:l[6]?=some nv)(hv:Ksl (bN 9) K nv xs)(hn:xs.length≤1000000):
  Sp Tryz.prog 59 [ptr b 6,str x] K [] (Val (.bool (decide (x∈xs))) K):=by
 refine a8 Tryz.func59 rfl Tryz.ntmps59 rfl rfl fun F w=>?_;refine zz10 ?_;refine aA (aL iS rfl (.known hb) hl) rfl ?_;refine zz1 ?_;refine aX rfl rfl (qB nv x xs _ [] (.known hv) hn) .nil rfl ?_;rintro _ K _ ⟨rfl,rfl,rfl⟩ -;refine zz4 ?_;refine uAl ?_;refine zz1 ?_;exact⟨rfl,rfl,rfl⟩
abbrev msgV(m:Msg)(hv:Value):Value:=.agg #[str m.from_,str m.to_,i64 m.size,hv]
def bS2(out:Out):Ending→Hl→List Asn→Prop:=Ret fun v K' L'=>∃av ev M,v=.tuple #[av,ev]∧L'=sl true cS av out.acts::M∧ErrP out.err ev M
theorem bC7(b:Nat)(r:List aJ×Tree)(s:aJ)(m:Msg)(hv:Value)(K:Hl)(hg:Glob K)(hr:eD s=.ok r)(hl:s.length≤600)(hat:aBU K b r)(hh:Ksl hdEl K hv m.hs)(hm:MsgOk m):
  Sp Tryz.prog 40 [ptr b,msgV m hv] K [] (bS2 (sayC r m)):=by
 obtain⟨tb,cv,vs,fz,hb,hS,hcv,hvs⟩:=hat;obtain⟨l,nv,bv,ys,fz2,htb,hl6,hl7,hnv,_,_,_⟩:=hS.at_;obtain⟨ha,hn,hc,rfl⟩:=hh.isSlice;have hfit:=sJ hr;have hneeds:=aHV hr;have hsl:=Cmp.script_len r.2;have hins:∀o∈Cmp.script r.2,InsOk o:=fun o ho=>by
  obtain⟨q1,q2,q3,q4⟩:=Cmp.script_fit hfit.2.1 o ho;exact⟨by omega,by omega,fun x hx=>by have:=q1 x hx;omega,fun x hx=>by have:=q2 x hx;omega⟩
 refine a8 Tryz.func40 rfl Tryz.ntmps40 rfl rfl fun F w=>?_;refine zz3 ?_;rintro _ K _ ⟨b3,rfl,rfl,rfl⟩ -;refine zz5 ?_;refine dD (anc:=[0,1,3,7,15,0,32,96,224,0,1023,2047,4095,4095,4095,8191,49151,131071]) (ord:=[0,1,2,3,5,6,7,8,9,4,10,11,12,13,14,15,16,17]) [4,10] [10] mixed gAH (dI _) ?_;refine zz3 ?_;refine aK rfl rfl (.none rfl) rfl rfl (aL aRM rfl (.known hb) rfl) rfl ?_;refine zz3 ?_;refine aK rfl rfl (.none rfl) rfl rfl (aL aVW rfl (.known hb) rfl) rfl ?_;refine zz1 ?_;refine lC rfl (.none rfl) rfl rfl rfl rfl (bMX tb dB r.1 l nv fz2 _ htb hl6 hnv aI) rfl ?_;refine iJ rfl (.none rfl) rfl rfl rfl (aUL (decide (dB∈r.1)) cv (.slice ha hn hc) vs (Cmp.script r.2) m _ hg hcv hvs hh hm hins aI) .nil rfl ?_;rintro _ K1 _ ⟨av,ev,M,rfl,rfl,hev⟩ le1;refine zz18 ?_;refine aWL (aWL ?_)
 refine fA rfl rfl rfl le1 ?_;exact⟨_,rfl,av,ev,M,rfl,rfl,hev⟩
theorem aEN(m:Msg)(hv:Value)(K:Hl)(hh:Ksl hdEl K hv m.hs)(hn:m.hs.length≤1000000):Sp Tryz.prog 34 [msgV m hv] K [] (Ret fun v K' L'=>∃a n c,v=msgV m (.slice a n c)∧K'=K∧L'=[sl false hdEl (.slice a n c) m.hs]):=by
 obtain⟨ha,hn1,hc,rfl⟩:=hh.isSlice;refine a8 Tryz.func34 rfl Tryz.ntmps34 rfl rfl fun F w=>?_;refine zz3 ?_;rintro _ K _ ⟨b1,rfl,rfl,rfl⟩ -;refine zz1 ?_;rintro _ K _ ⟨b2,rfl,rfl,rfl⟩ -;refine zz6 ?_;refine kB (eF hdEl) ?_;refine cC (dN (k:=hdEl) (ys:=m.hs) aRH rfl rfl .here (fun w j=>dE Tryz.underlying26 (SeesSl.at (k:=hdEl) (.known hh) j)) gAI gAI) rfl ?_;rintro v5 K _ ⟨rfl,rfl,ho5⟩ -;refine aEL qU ?_;rintro⟨sa,sn,sc,rfl⟩;refine zz1 ?_;refine cA (bP aRL rfl rfl cJ bF (.succ (.succ (.succ .zero))) rfl) ?_;rintro _ K _ ⟨rfl,rfl⟩ -;refine zz5 ?_;refine cA (cK gF rfl rfl rfl bF gAA (.cons (.cons (.cons (.cons .nil)))) gAJ) ?_;rintro _ K _ ⟨rfl,rfl⟩ -;refine zz3 ?_;refine aFP rfl rfl gF aM rfl rfl (Hl.le_refl _) (.cons .here .nil) ?_;exact⟨_,rfl,_,_,_,rfl,rfl,rfl⟩
structure TI where
 i:Nat
 xs:List (aJ×aJ)
def mine:aJ:=[109,105,110,101]
theorem aBR(m:Msg)(hv:Value)(hs:List (aJ×aJ))(K:Hl)(hn:hs.length≤1000000):Sp Tryz.prog 36 [msgV m hv] K [sl false hdEl hv hs] (Ret fun v K' L'=>v=.tuple #[]∧K'=K∧L'=[]):=by
 refine a8 Tryz.func36 rfl Tryz.ntmps36 rfl rfl fun F w=>?_;refine aLQ qU ?_;rintro⟨sa,sn,sc,rfl⟩;refine zz3 ?_;rintro _ K _ ⟨b1,rfl,rfl,rfl⟩ -;refine zz6 ?_;refine aA (bO (k:=hdEl) rfl Tryz.underlying26 rfl aM) rfl ?_;refine zz4 ?_;refine eJ (fun(q:TI)=>q.i≤hs.length∧q.xs.length=hs.length) (fun q=>[(1,ptr b1),(5,i64 hs.length),(6,i64 q.i)]) (fun _=>K) (fun q=>[pt b1 (aZ [str m.from_,str m.to_,i64 m.size,.slice sa sn sc] 28),sl false hdEl (.slice sa sn sc) q.xs]) (fun q=>hs.length - q.i) ⟨0,hs⟩ ⟨Nat.zero_le _,rfl⟩ (.cons 1 rfl (.cons 5 rfl (.cons 6 rfl .nil))) rfl (fun _ h=>h) ?_;intro ⟨i,xs⟩ ⟨hi0,hx⟩;dsimp only at hi0 hx ⊢;refine zz6 ?_;refine bK 7 rfl (fun h7=>?_) (fun h7=>?_)
 ·have hilt:i < xs.length:=by omega
  refine zz14 ?_;refine uBd ?_;refine aA (bE (k:=hdEl) sU rfl aM rfl rfl gAD) rfl ?_;refine cA (sF (k:=hdEl) (y0:=(mine,mine)) aYO rfl rfl gAD bF) ?_;rintro _ K _ ⟨rfl,rfl⟩ -;refine zz7 ?_;exact dF ⟨i+1,xs.set i (mine,mine)⟩ ⟨by (show i+1≤hs.length);omega,by simpa using hx⟩ (by (show hs.length - (i+1) < hs.length - i);omega) (.cons 1 rfl (.cons 5 rfl (.cons 6 rfl .nil))) rfl (fun _ h=>h)
 refine zz4 ?_;refine uAl ?_;refine zz1 ?_;exact⟨_,rfl,rfl,rfl,rfl⟩
theorem bC8(b:Nat)(r:List aJ×Tree)(s:aJ)(m:Msg)(hv:Value)(K:Hl)(hg:Glob K)(hr:eD s=.ok r)(hl:s.length≤600)(hat:aBU K b r)(hm:MsgOk m):
  Sp Tryz.prog 40 [ptr b,msgV m hv] K [sl false hdEl hv m.hs] (Ret fun v K' L'=>∃av ev M,v=.tuple #[av,ev]∧L'=sl false hdEl hv m.hs::sl true cS av (sayC r m).acts::M∧ErrP (sayC r m).err ev M):=by
 have h:=aQ6 (K:=K) (L1:=[sl false hdEl hv m.hs]) (L:=[]) (R:=fun e L'=>∃v,e=.returned v∧∃av ev M,v=.tuple #[av,ev]∧L'=sl true cS av (sayC r m).acts::M∧ErrP (sayC r m).err ev M) ⟨_,Tryz.func40,rfl,rfl⟩ (fun h1 hs d=>(bC7 b r s m hv (K.join h1) (hg.mono Hl.le_join_l) hr hl (hat.mono Hl.le_join_l) ((aA7 .here hs).mono (Hl.le_join_r d)) hm).mono fun e K' L' q=>q);refine h.mono ?_;rintro e K' L' ⟨L'',⟨v,rfl,av,ev,M,rfl,rfl,hev⟩,rfl⟩;exact⟨_,rfl,av,ev,M,rfl,rfl,hev⟩
theorem aBD(b:Nat)(r:List aJ×Tree)(s:aJ)(m:Msg)(hv:Value)(K:Hl)(hg:Glob K)(hE:ErrT K)(hr:eD s=.ok r)(hl:s.length≤600)(hat:aBU K b r)(hh:Ksl hdEl K hv m.hs)(hm:MsgOk m):
  Sp Tryz.prog 21 [ptr b,msgV m hv] K [] (Ret fun v K' L'=>∃av,v=.tuple #[av,i64 (te (sayC r m).err).1,i64 (te (sayC r m).err).2]∧L'=[sl true cS av (sayC r m).acts]):=by
 have hhn:=hm.hn;obtain⟨ha,hn,hc,rfl⟩:=hh.isSlice;refine a8 Tryz.func21 rfl Tryz.ntmps21 rfl rfl fun F w=>?_;refine zz3 ?_;rintro _ K _ ⟨b3,rfl,rfl,rfl⟩ -;refine zz8 ?_;refine aX rfl rfl (aEN m _ _ hh hhn) .nil rfl ?_;rintro _ K _ ⟨sa,sn,sc,rfl,rfl,rfl⟩ -;refine zz1 ?_;rintro _ K _ ⟨b7,rfl,rfl,rfl⟩ -;refine cA (cK gF rfl rfl rfl bF gAA (.cons (.cons (.cons (.cons .nil)))) gAJ) ?_;rintro _ K _ ⟨rfl,rfl⟩ -;refine zz6 ?_;refine aX rfl rfl (bC8 b r s m (.slice sa sn sc) _ hg hr hl hat hm) (.cons (.there .here) .nil) rfl ?_;rintro _ K1 _ ⟨av,ev,M,rfl,rfl,hev⟩ le1;refine zz7 ?_;rcases herr:(sayC r m).err with _|⟨e,p⟩
 ·rw[herr]at hev;obtain⟨rfl,rfl⟩:=hev;refine zz3 ?_;refine aX rfl rfl (aBR m (.slice sa sn sc) m.hs _ hhn) (.cons .here .nil) rfl ?_;rintro _ K1 _ ⟨rfl,rfl,rfl⟩ -;refine zz5 ?_;refine cF rfl rfl (aFA _) rfl ?_;refine zz18 ?_;refine uAa ?_;refine yU rfl rfl rfl rfl le1 ?_;exact⟨_,rfl,av,rfl,rfl⟩
 rw[herr]at hev;obtain⟨fb,rfl,rfl⟩:=hev;refine zz3 ?_;refine aX rfl rfl (aBR m (.slice sa sn sc) m.hs _ hhn) (.cons .here .nil) rfl ?_;rintro _ K1 _ ⟨rfl,rfl,rfl⟩ -;refine zz5 ?_;refine aX rfl rfl (aRJ fb e p _ [pt fb (aZ [i64 e,i64 p] 123)] (hE.mono le1) (.own .here)) (.cons (.there .here) .nil) rfl ?_;rintro _ K1 _ ⟨rfl,rfl,rfl⟩ -;refine zz18 ?_;refine uAv ?_;refine yU rfl rfl rfl rfl le1 ?_;exact⟨_,rfl,av,rfl,rfl⟩
end Go.Proofs
end

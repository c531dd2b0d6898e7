/-
  What the proof stands on, part 31: the logic of walks, the walks through the functions, the plain laws. Conditions: as each theorem says. (Merged and shortened by a program.)
-/
import Derived.Test.YthopmddkpdehiabGreatDoorK27
import Derived.Test.YthopmddkpdehiabGreatDoorK28
set_option linter.unusedVariables false
set_option linter.unusedSimpArgs false
set_option linter.defProp false
set_option maxRecDepth 4000
set_option maxHeartbeats 1000000
section
attribute [local irreducible] Go.SL.T Go.SL.OL Go.SL.D Go.SL.DL Go.SL.Ev Go.SL.Ef Go.SL.EfS
namespace Go.Proofs
open Go Go.SL Go.Syn Go.Mach Go.Cmp
def bIK(b:Nat)(x:List UInt8)(xs:List (List UInt8))(l:List Value)(nv:Value)(fz:Nat×Nat)(K:Hl)(hb:K b=some (bL l 213 fz))(hl:l[6]?=some nv)(hv:Ksl (a7 9) K nv xs)(hn:xs.length≤1000000):
  Sp x3 76 [ptr b 6,str x] K [] (Val (.bool (decide (x∈xs))) K):=by
 refine bN Tryz.func76 Y Tryz.ntmps76 Y Y fun F w=>?_;refine zz10 ?_;refine aA (aK eP Y (.known hb) hl) Y (zz1 ?_);refine bA Y Y (pJ nv x xs _ [] (.known hv) hn) .nil Y ?_;rintro _ K _ ⟨rfl,rfl,rfl⟩ -;refine zz4 ?_;refine uAf ?_;refine zz1 ?_;exact⟨Y,Y,Y⟩
def bNW(out:Out):Ending→Hl→List Asn→Prop:=Ret fun v K' L'=>∃av ev M,v=.tuple #[av,ev]∧L'=sl true dP av out.acts::M∧ErrP out.err ev M
def aY7(b:Nat)(r:List aP×Tree)(s:aP)(m:Msg)(hv:Value)(K:Hl)(hg:Glob K)(hr:gN s=.ok r)(hl:s.length≤600)(hat:wS K b r)(hh:Ksl hdEl K hv m.hs)(hm:MsgOk m):
  Sp x3 44 [ptr b,msgV m hv] K [] (bNW (sayC r m)):=by
 obtain⟨tb,cv,vs,fz,hb,hS,hcv,hvs⟩:=hat;obtain⟨l,nv,bv,ys,fz2,htb,hl6,hl7,hnv,_,_,_⟩:=hS.at_;obtain⟨ha,hn,hc,rfl⟩:=hh.isSlice;have hfit:=nP hr;have hneeds:=tX hr;have hsl:=Cmp.script_len r.2;have hins:∀o∈Cmp.script r.2,InsOk o:=fun o ho=>by
  obtain⟨q1,q2,q3,q4⟩:=Cmp.script_fit hfit.2.1 o ho;exact⟨by omega,by omega,fun x hx=>by have:=q1 x hx;omega,fun x hx=>by have:=q2 x hx;omega⟩
 refine bN Tryz.func44 Y Tryz.ntmps44 Y Y fun F w=>?_;refine zz3 ?_;rintro _ K _ ⟨b3,rfl,rfl,rfl⟩ -;refine zz5 ?_;refine cZ (anc:=[0,1,3,7,15,0,32,96,224,0,1023,2047,4095,4095,4095,8191,49151,131071]) (ord:=[0,1,2,3,5,6,7,8,9,4,10,11,12,13,14,15,16,17]) [4,10] [10] mixed gC5 (cQ _) (zz3 ?_);refine aJ Y Y (.none Y) Y Y (aK aCX Y (.known hb) Y) Y (zz3 ?_);refine aJ Y Y (.none Y) Y Y (aK vF Y (.known hb) Y) Y (zz1 ?_);refine iL Y (.none Y) Y Y Y Y (bIK tb eB r.1 l nv fz2 _ htb hl6 hnv aH) Y ?_;refine eQ Y (.none Y) Y Y Y (aQE (decide (eB∈r.1)) cv (.slice ha hn hc) vs (Cmp.script r.2) m _ hg hcv hvs hh hm hins aH) .nil Y ?_;rintro _ K1 _ ⟨av,ev,M,rfl,rfl,hev⟩ le1;refine zz18 ?_;refine aSA (aSA ?_)
 refine j1 Y Y Y le1 ?_;exact⟨_,Y,av,ev,M,Y,Y,hev⟩
def aY8(b:Nat)(r:List aP×Tree)(s:aP)(m:Msg)(hv:Value)(K:Hl)(hg:Glob K)(hr:gN s=.ok r)(hl:s.length≤600)(hat:wS K b r)(hm:MsgOk m):
  Sp x3 44 [ptr b,msgV m hv] K [sl false hdEl hv m.hs] (Ret fun v K' L'=>∃av ev M,v=.tuple #[av,ev]∧L'=sl false hdEl hv m.hs::sl true dP av (sayC r m).acts::M∧ErrP (sayC r m).err ev M):=by
 have h:=aNB (K:=K) (L1:=[sl false hdEl hv m.hs]) (L:=[]) (R:=fun e L'=>∃v,e=.returned v∧∃av ev M,v=.tuple #[av,ev]∧L'=sl true dP av (sayC r m).acts::M∧ErrP (sayC r m).err ev M) ⟨_,Tryz.func44,rfl,rfl⟩ (fun h1 hs d=>(aY7 b r s m hv (K.join h1) (hg.mono Hl.le_join_l) hr hl (hat.mono Hl.le_join_l) ((lS .here hs).mono (Hl.le_join_r d)) hm).mono fun e K' L' q=>q);refine h.mono ?_;rintro e K' L' ⟨L'',⟨v,rfl,av,ev,M,rfl,rfl,hev⟩,rfl⟩;exact⟨_,Y,av,ev,M,Y,Y,hev⟩
def aZP(b:Nat)(r:List aP×Tree)(s:aP)(m:Msg)(hv:Value)(K:Hl)(hg:Glob K)(hE:ErrT K)(hr:gN s=.ok r)(hl:s.length≤600)(hat:wS K b r)(hh:Ksl hdEl K hv m.hs)(hm:MsgOk m):
  Sp x3 23 [ptr b,msgV m hv] K [] (Ret fun v K' L'=>∃av,v=.tuple #[av,i64 (te (sayC r m).err).1,i64 (te (sayC r m).err).2]∧L'=[sl true dP av (sayC r m).acts]):=by
 have hhn:=hm.hn;obtain⟨ha,hn,hc,rfl⟩:=hh.isSlice;refine bN Tryz.func23 Y Tryz.ntmps23 Y Y fun F w=>?_;refine zz3 ?_;rintro _ K _ ⟨b3,rfl,rfl,rfl⟩ -;refine zz8 ?_;refine bA Y Y (aCF m _ _ hh hhn) .nil Y ?_;rintro _ K _ ⟨sa,sn,sc,rfl,rfl,rfl⟩ -;refine zz1 ?_;rintro _ K _ ⟨b7,rfl,rfl,rfl⟩ -;refine cD (cX j5 Y Y Y bR gC1 (.cons (.cons (.cons (.cons .nil)))) gC8) ?_;rintro _ K _ ⟨rfl,rfl⟩ -;refine zz6 ?_;refine bA Y Y (aY8 b r s m (.slice sa sn sc) _ hg hr hl hat hm) bS Y ?_;rintro _ K1 _ ⟨av,ev,M,rfl,rfl,hev⟩ le1;refine zz7 ?_;rcases herr:(sayC r m).err with _|⟨e,p⟩
 ·rw[herr]at hev;obtain⟨rfl,rfl⟩:=hev;refine zz3 ?_;refine bA Y Y (zP m (.slice sa sn sc) m.hs _ hhn) bS Y ?_;rintro _ K1 _ ⟨rfl,rfl,rfl⟩ -;refine zz5 ?_;refine cN Y Y (aIP _) Y (zz18 ?_);refine uAa ?_;refine vS Y Y Y Y le1 ?_;exact⟨_,Y,av,Y,Y⟩
 rw[herr]at hev;obtain⟨fb,rfl,rfl⟩:=hev;refine zz3 ?_;refine bA Y Y (zP m (.slice sa sn sc) m.hs _ hhn) bS Y ?_;rintro _ K1 _ ⟨rfl,rfl,rfl⟩ -;refine zz5 ?_;refine bA Y Y (aNS fb e p _ [pt fb (bL [i64 e,i64 p] 131)] (hE.mono le1) aL) bS Y ?_;rintro _ K1 _ ⟨rfl,rfl,rfl⟩ -;refine zz18 ?_;refine aQ (aM cI bF) ?_;refine vS Y Y Y Y le1 ?_;exact⟨_,Y,av,Y,Y⟩
end Go.Proofs
end

/-
  What the proof stands on, part 35: the logic of walks, the walks through the functions, the plain laws. Conditions: as each theorem says. (Merged and shortened by a program.)
-/
import Derived.Test.YthopmddkpdehiaaGreatDoorK34
set_option linter.unusedVariables false
set_option linter.unusedSimpArgs false
set_option maxRecDepth 4000
set_option maxHeartbeats 1000000
section
attribute [local irreducible] Go.SL.T Go.SL.OL Go.SL.D Go.SL.DL Go.SL.Ev Go.SL.Ef Go.SL.EfS
namespace Go.Proofs
open Go Go.SL Go.Syn Go.Box Go.Mach
def yJ(K:Hl)(bx b:Nat):Prop:=∃T fz,K bx=some (aZ [ptr b] T fz)
theorem yJ.mono{K K':Hl}{bx b:Nat}(h:yJ K bx b)(le:K.le K'):yJ K' bx b:=let ⟨T,fz,h⟩:=h;⟨T,fz,le _ _ h⟩
theorem aRK(e:Er)(K:Hl)(hE:ErrT K):Sp Tryz.prog 37 [erV e] K [] (Ret fun v K' L'=>v=.tuple #[i64 (errn e),i64 (-1)]∧K'=K∧L'=[]):=by
 cases e with
 |none=>exact(aFA K).mono fun e K' L' ⟨h1,h2,h3⟩=>⟨_,h1,rfl,h2,h3⟩
 |some n=>exact bK4 n K hE
theorem aBB(v:Value)(xs:List fY)(K:Hl)(hv:Ksl cD K v xs)(hn:xs.length≤1000000):Sp Tryz.prog 26 [v] K []
  (Ret fun r K' L'=>∃bx b,r=ptr bx∧yJ K' bx b∧L'=[dsk K' b ⟨lQ xs (fun _=>none),lQ xs (fun _=>none),[],-1,-1,false⟩]):=by
 refine a8 Tryz.func26 rfl Tryz.ntmps26 rfl rfl fun F w=>?_;refine zz8 ?_;refine aX rfl rfl (bRC v xs _ hv hn) .nil rfl ?_;rintro _ K1 _ ⟨b,rfl,rfl⟩ le1;refine aA (cL bUH bR8 (.cons rfl rfl rfl (.cons .nil) .nil)) rfl ?_;refine zz1 ?_;rintro _ K _ ⟨b6,rfl,rfl,rfl⟩ -;refine zz4 ?_;refine kE fun K2 le2 hb=>?_;refine fK (fH (lW le2)) ?_;refine bD rfl rfl (Hl.le_trans le1 le2) ?_;exact⟨_,rfl,_,b,rfl,⟨_,_,hb⟩,rfl⟩
theorem mV(bx b:Nat)(s:DSt)(ns:List aJ)(hdom:uI s.dur ns)(hns:ns.length≤1000000)(K K0:Hl)(le:K0.le K)(hx:yJ K bx b):Sp Tryz.prog 29 [ptr bx] K [dsk K0 b s]
  (Ret fun r K' L'=>K'=K∧∃ys,gQ s.dur ys∧L'=[sl false cD r ys,dsk K' b s]):=by
 obtain⟨T,fz,hk⟩:=hx;refine a8 Tryz.func29 rfl Tryz.ntmps29 rfl rfl fun F w=>?_;refine zz11 ?_;refine aX rfl rfl (bHJ b s ns hdom hns _ _ le) (.cons .here .nil) rfl ?_;rintro _ K _ ⟨rfl,ys,hys,rfl⟩ -;refine zz5 ?_;exact⟨_,rfl,rfl,ys,hys,rfl⟩
end Go.Proofs
end
section
namespace Go.SL
section
variable{E:Env}{fr:Fr}{K:Hl}{L L':List Asn}{dst:Option Tmp}{ty:TypeId}{pos:String}{aft:Array Edge}{g:Option (Nat×Bool)}{x y:Operand}{t:TypeId}{α:Type}{k:El α}{v:Value}{xs:List α}
theorem aYF{zf:Bool}{j o:Nat}{x0 y0:α}{c:Value}(ht:eZ E.P t=true)(hx:fr.ev x=some (nP v (j*k.sz+o)))(hy:fr.ev y=some c)(hx0:xs[j]?=some x0)(ho:o < k.sz)(he:(k.enc x0).set o c=k.enc y0)(h1:c.oneCell'=true)
  (hF:Fnd (sl zf k v xs) (sl zf k v (xs.set j y0)) L L'):EfS E fr K L ⟨dst,.store t x y,ty,pos,aft,g⟩ (fun _ K' L''=>K'=K∧L''=L'):=by
 intro a w f q;have hj:j < xs.length:=by
  rcases Nat.lt_or_ge j xs.length with h|h
  ·exact h
  simp[List.getElem?_eq_none h]at hx0
 obtain⟨M,m1,m2⟩:=hF.split;rcases(q.imp m1).slCases with ⟨rfl,rfl,_⟩|⟨b,cap,junk,fz,rfl,hz,hcap,hjk,hf,q0⟩
 ·simp at hj
 have hx':fr.ev x=some (ptr b (j*k.sz+o)):=by rw[hx];simp[nP,kG]
 have hle:j*k.sz+k.sz≤xs.length*k.sz:=by rw[←Nat.succ_mul];exact Nat.mul_le_mul_right _ hj
 have hle2:xs.length*k.sz≤cap*k.sz:=Nat.mul_le_mul_right _ hcap;obtain⟨u,w',K',L'',hr,⟨rfl,rfl⟩,le,q1⟩:=bP (K:=K) (dst:=dst) (ty:=ty) (pos:=pos) (aft:=aft) (g:=g) (l:=k.cs xs++junk) (u:=k.e) (fz:=fz) ht hx' hy h1 (.here (L:=M)) (sN (by rw[List.length_append,k.cs_length];omega)) (hf.at aI) a w f q0;refine⟨u,w',_,_,hr,⟨rfl,rfl⟩,le,q1.imp fun h hh=>m2 h ?_⟩
 obtain⟨aa,l,ha,hl,hd,he'⟩:=hh;refine⟨aa,l,?_,hl,hd,he'⟩
 rw[cs_set k ho he hx0]at ha;refine .inr ⟨b,cap,junk,fz,by rw[List.length_set],?_,by rw[List.length_set];exact hcap,by rw[List.length_set];exact hjk,hf,ha⟩
 intro h1 h2;exact hz h1 gA0
end
end Go.SL
end
section
attribute [local irreducible] Go.SL.T Go.SL.OL Go.SL.D Go.SL.DL Go.SL.Ev Go.SL.Ef Go.SL.EfS
namespace Go.Proofs
open Go Go.SL Go.Syn Go.Box Go.Mach
theorem aYI(id text:aJ)(z:Bool)(v:Value)(acts:List Action)(K:Hl)(hg:Glob K)(hid:id.length≤140737488355328)(ht:text.length≤1048576)(ha:∀a∈acts,a.2.length≤1048576)(hal:acts.length≤140737488355328):
  Sp Tryz.prog 78 [str id,v,str text] K [sl z cS v acts] (fun e _ L'=>∃L'',yL (eY id acts text) e Hl.emp L''∧L'=[sl z cS v acts]++L''):=
 aQ6 (L1:=[sl z cS v acts]) (L:=[]) (R:=fun e L'=>yL (eY id acts text) e Hl.emp L') ⟨_,Tryz.func78,rfl,rfl⟩ fun h1 hs hd=>
  (bED id text v acts (K.join h1) (hg.mono Hl.le_join_l) ((aA7 .here hs).mono (Hl.le_join_r hd)) hid ht ha hal).mono fun e K' L' h=>h
theorem bIK(b:Nat)(id text:aJ)(z:Bool)(v:Value)(acts:List Action)(s:DSt)(K K0:Hl)(le:K0.le K)(hg:Glob K)(hdb:Deb K)(hid:id.length≤140737488355328)(ht:text.length≤1048576)(ha:∀a∈acts,a.2.length≤1048576)(hal:acts.length≤140737488355328)(hp:s.pend.length≤600000):
  Sp Tryz.prog 46 [dV b,str id,v,str text] K [dsk K0 b s,sl z cS v acts] (Ret fun r K' L'=>r=erV (iK id acts text s).1∧L'=[dsk K' b (iK id acts text s).2,sl z cS v acts]):=by
 have hsf:=aYI id text z v acts K hg hid ht ha hal;refine a8 Tryz.func46 rfl Tryz.ntmps46 rfl rfl fun F w=>?_;cases hf:eY id acts text with
 |error e=>
  have he:iK id acts text s=(some e,s):=by unfold iK;rw[hf]
  rw[he];rw[hf]at hsf;have hsf2:=hsf.mono (R':=Ret fun v' K' L'=>v'=.tuple #[.slice none 0 0,errV e]∧L'=[sl z cS v acts]) (by rintro e' K' L' ⟨L'',⟨v',rfl,rfl,rfl⟩,rfl⟩;exact⟨_,rfl,rfl,rfl⟩);refine zz10 ?_;refine aX rfl rfl hsf2 (.cons (.there .here) .nil) rfl ?_;rintro _ K1 _ ⟨rfl,rfl⟩ le1;refine zz23 ?_;refine fK (fun _=>fL) ?_;refine fK (fH (lW (Hl.le_trans le le1))) ?_;refine bD rfl rfl le1 ?_;exact⟨_,rfl,rfl,rfl⟩
 |ok xs=>
  have he:iK id acts text s=iC xs s:=by unfold iK;rw[hf]
  obtain⟨hl1,hl2,hl3⟩:=xC ht ha hf;rw[he];rw[hf]at hsf;have hsf2:=hsf.mono (R':=Ret fun v' K' L'=>∃u,v'=.tuple #[u,.nilIface]∧L'=[sl z cS v acts,sl false cD u xs]) (by rintro e' K' L' ⟨L'',⟨v',rfl,u,rfl,rfl⟩,rfl⟩;exact⟨_,rfl,_,rfl,rfl⟩);refine zz10 ?_;refine aX rfl rfl hsf2 (.cons (.there .here) .nil) rfl ?_;rintro _ K1 _ ⟨u,rfl,rfl⟩ le1;refine zz18 ?_;refine kF (fun _=>fL) ?_;refine kC fun K2 le2 hu=>?_;refine zz3 ?_;refine aX rfl rfl (aWM b u xs s _ _ (Hl.le_trans le (Hl.le_trans le1 le2)) hu ((hg.mono le1).mono le2) ((hdb.mono le1).mono le2) aI aI hp) (.cons (.there .here) .nil) rfl ?_;rintro _ K3 _ ⟨rfl,rfl⟩ le3;refine zz4 ?_;refine bD rfl rfl (Hl.le_trans le1 (Hl.le_trans le2 le3)) ?_;exact⟨_,rfl,rfl,rfl⟩
theorem aAX{K:Hl}{b m1 m2:Nat}{es1:List Ent}{c1:Nat}{es2:List Ent}{c2:Nat}{pv:Value}{s:DSt}{M:List Asn}{l f:Int}(hm1:MapOk K es1 c1 s.dur)(hm2:MapOk K es2 c2 s.now)(hop:∀o∈s.pend,OpOk o)(hpv:pv.oneCell'=true):
  ∀h,Sat ([pt b (dskO (.map (some m1)) (.map (some m2)) pv l f s.down),pt m1 (mapO es1 c1),pt m2 (mapO es2 c2),sl false oD pv s.pend]++M) h→Sat (dsk K b (s.set l f)::M) h:=
 rI (s:=s.set l f) ⟨m1,m2,es1,c1,es2,c2,pv,hm1,hm2,hop,hpv,rfl⟩
abbrev bTK:aJ:=[109,105,110,101]
theorem wP(bx b:Nat)(id text:aJ)(v:Value)(acts:List Action)(l f kept part:Int)(s:DSt)(K K0:Hl)(le:K0.le K)(hx:yJ K bx b)(hg:Glob K)(hdb:Deb K)(hE:ErrT K)(hv:Ksl cS K v acts)(hid:id.length≤140737488355328)(ht:text.length≤1048576)(ha:∀a∈acts,a.2.length≤1048576)(hal:acts.length≤1048576)(hp:s.pend.length≤600000)
  (hk1: -9223372036854775808≤part) (hk2:part≤9223372036854775807) (hcr:(iK id acts text (s.set l f)).2.down=true→(iK id acts text (s.set l f)).2.pend.length≤1000000∧∀o∈(iK id acts text (s.set l f)).2.pend,o.data.length≤140737488355328):
  Sp Tryz.prog 27 [ptr bx,str id,v,str text,i64 l,i64 f,i64 kept,i64 part] K [dsk K0 b s] (Ret fun r K' L'=>r=i64 (errn (iK id acts text (s.set l f)).1)∧∃t,kX (iK id acts text (s.set l f)).2 t∧L'=[dsk K' b t]):=by
 obtain⟨T,fz,hk⟩:=hx
 generalize hmd:iK id acts text (s.set l f)=md at hcr ⊢
 refine a8 Tryz.func27 rfl Tryz.ntmps27 rfl rfl fun F w=>?_;refine zz6 ?_;refine aLP fun L2 hd2=>?_;obtain⟨m1,m2,es1,c1,es2,c2,pv,hm1,hm2,hop,hpv,rfl⟩:=hd2;refine dD (anc:=[0,1,3,7,0,16,48,112,0,0,511,1535,3583,8191,16383,32767]) (ord:=[0,1,2,3,4,5,6,7,8,9,10,11,12,13,14,15]) [12,15] [15] mixed gAH .nil ?_;refine zz12 ?_;refine uBi ?_;rintro _ K _ ⟨rfl,rfl⟩ -;refine⟨_,(show Tks _ _ _ from .nil).sat,?_⟩
 refine zz2 ?_;refine uAk ?_;rintro _ K _ ⟨rfl,rfl⟩ -;refine zz3 ?_;refine kF (aAX (s:=s) (M:=[]) (l:=l) (f:=f) hm1 hm2 hop hpv) ?_;refine zz2 ?_;refine kB (eF cS) ?_;refine cC (dN (k:=cS) (ys:=acts) qD rfl rfl .here (fun w j=>dE Tryz.underlying29 (SeesSl.at (k:=cS) (.known hv) j)) (by show (0+acts.length)*24≤140737488355328;omega) (by show 0+acts.length≤9223372036854775807;omega)) rfl ?_;rintro v37 K _ ⟨rfl,rfl,ho37⟩ -;refine zz9 ?_;refine aA (cY Tryz.underlying103 (fun _ h=>by cases h) rfl) rfl ?_;refine zz3 ?_;refine aX rfl rfl (bIK b id text false v37 acts (s.set l f) _ _ le hg hdb hid ht ha aI hp) (.cons (.there .here) (.cons .here .nil)) rfl ?_;rintro _ K1 _ ⟨rfl,rfl⟩ le1;rw[hmd];refine zz7 ?_;refine aA (bO (k:=cS) (xs:=acts) rfl Tryz.underlying29 rfl aM) rfl ?_;refine zz4 ?_;refine rC (fun(i:Nat) (ys:List Action)=>i≤acts.length∧ys.length=acts.length) (fun i _=>[(0,ptr bx),(6,i64 kept),(7,i64 part),(17,v37),(18,erV md.1),(48,i64 acts.length),(49,i64 i)]) (fun _ _=>K1) (fun _ ys=>[dsk K1 b md.2,sl false cS v37 ys]) (fun i _=>acts.length - i) 0 acts ⟨Nat.zero_le _,rfl⟩ (.cons 0 rfl (.cons 6 rfl (.cons 7 rfl (.cons 17 rfl (.cons 18 rfl (.cons 48 rfl (.cons 49 rfl .nil))))))) rfl (fun _ h=>h) ?_;intro i ys ⟨hi,hyl⟩;refine zz6 ?_;refine bK 50 rfl (fun h50=>?_) (fun h50=>?_)
 ·have hlt:i < ys.length:=by omega
  obtain⟨a0,ha0⟩:∃a,ys[i]?=some a:=⟨ys[i]'hlt,List.getElem?_eq_getElem hlt⟩;refine zz13 ?_;refine aA (bE (k:=cS) gK rfl aM rfl rfl gAD) rfl ?_;refine aA (dQ (k:=cS) dW rfl aM gAD) rfl ?_;refine cA (aYF (k:=cS) (y0:=(a0.1,bTK)) ts9 rfl rfl ha0 (by show 1 < 2;omega) rfl rfl bF) ?_;rintro _ K _ ⟨rfl,rfl⟩ -;refine zz7 ?_;exact fR (i+1) _ ⟨by omega,by rw[List.length_set];exact hyl⟩ aI (.cons 0 rfl (.cons 6 rfl (.cons 7 rfl (.cons 17 rfl (.cons 18 rfl (.cons 48 rfl (.cons 49 rfl .nil))))))) rfl (fun _ h=>h)
 refine zz8 ?_;refine aX rfl rfl (aRK md.1 _ (hE.mono le1)) .nil rfl ?_;rintro _ K1 _ ⟨rfl,rfl,rfl⟩ -;refine zz7 ?_;refine xU (fun(t:DSt) (K4:Hl)=>K1.le K4∧kX md.2 (t.set (-1) (-1))) (fun _ _=>[(0,ptr bx),(20,i64 (errn md.1))]) (fun _ K4=>K4) (fun t K4=>[dsk K4 b t]) ?_ ?_
 ·refine zz2 ?_;refine bIZ fun L2 hd2=>?_;have hd3:=hd2;obtain⟨n1,n2,fs1,d1,fs2,d2,qv,hn1,hn2,hoq,hqv,rfl⟩:=hd2;have hk3:=le1 _ _ hk;refine zz9 ?_;refine eO 68 rfl (fun h68=>?_) (fun h68=>?_)
  ·refine kF (rI hd3) ?_;refine zz7 ?_;refine aX rfl rfl (aJH b md.2 kept part (hcr h68).1 (hcr h68).2 hk1 hk2 _ _ (Hl.le_refl _)) (.cons .here .nil) rfl ?_;rintro _ K4 _ ⟨rfl,t,hct,rfl⟩ le4;refine uAz ?_
   first|exact iP t K4 ⟨le4,by unfold kX;rw[if_pos h68];exact⟨t,hct,rfl⟩⟩ (.cons 0 rfl (.cons 20 rfl .nil)) rfl (fun _ h=>h)|exact iP md.2 K1 ⟨Hl.le_refl _,by unfold kX;rw[if_neg (by rw[h68];simp)]⟩ (.cons 0 rfl (.cons 20 rfl .nil)) rfl (fun _ h=>h)
  refine kF (rI hd3) ?_;refine aW ?_;refine uAa ?_
  first|exact iP t K4 ⟨le4,by unfold kX;rw[if_pos h68];exact⟨t,hct,rfl⟩⟩ (.cons 0 rfl (.cons 20 rfl .nil)) rfl (fun _ h=>h)|exact iP md.2 K1 ⟨Hl.le_refl _,by unfold kX;rw[if_neg (by rw[h68];simp)]⟩ (.cons 0 rfl (.cons 20 rfl .nil)) rfl (fun _ h=>h)
 intro t K4 ⟨le4,hend⟩;refine aH ?_;have hk4:=le4 _ _ (le1 _ _ hk);refine aLP fun L2 hd2=>?_;obtain⟨m1,m2,es1,c1,es2,c2,pv,hm1,hm2,hop,hpv,rfl⟩:=hd2;refine dD (anc:=[0,1,3,7,0,16,48,112,255,511,1023,2047,4095,8191]) (ord:=[0,1,2,3,4,5,6,7,8,9,10,11,12,13]) [10,13] [10,13] mixed gAH .nil ?_;refine zz10 ?_;refine uBk ?_;rintro _ K _ ⟨rfl,rfl⟩ -;refine zz2 ?_;refine uAk ?_;rintro _ K _ ⟨rfl,rfl⟩ -;refine zz3 ?_;refine kF (aAX (s:=t) (M:=[]) (l:= -1) (f:= -1) hm1 hm2 hop hpv) ?_;refine zz6 ?_;refine bD rfl rfl (Hl.le_trans le1 le4) ?_;exact⟨_,rfl,rfl,_,hend,rfl⟩
end Go.Proofs
end
section
namespace Go.Proofs
open Go Go.SL Go.Syn Go.Box Go.Mach
theorem aCY{n:aJ}{s:DSt}(hd:s.down=false)(hn:s.now n=none):r6 n s=([],some 14):=by unfold r6;rw[if_neg (by rw[hd];simp),hn]
end Go.Proofs
end

/-
  What the proof stands on, part 45: the logic of walks, the walks through the functions, the plain laws. Conditions: as each theorem says. (Merged and shortened by a program.)
-/
import Derived.Shelf.Strconv.Atoi
import Derived.Test.YthopmddkpdehiaaGreatDoorK35
import Derived.Test.YthopmddkpdehiaaGreatDoorK41
set_option linter.unusedVariables false
set_option linter.unusedSimpArgs false
set_option maxRecDepth 4000
set_option maxHeartbeats 1000000
section
namespace Go.Proofs
open Go.Shelf
def Tryz.lays172_ren:Go.Shelf.Ren:=⟨fun|172=>229|244=>296|245=>297|247=>329|279=>330|280=>331|281=>332|282=>333|287=>350|316=>351|171=>129|205=>352|321=>364|322=>365|243=>223|246=>293|283=>325|284=>326|285=>327|286=>328|129=>240|317=>346|318=>347|319=>348|320=>349|337=>362|338=>363|n=>n,fun|9=>9|3=>3|75=>79|76=>219|4=>4|5=>5|167=>448|37=>130|0=>0|85=>449|2=>2|168=>451|53=>345|175=>477|46=>257|210=>480|127=>227|145=>500|143=>498|21=>21|171=>444|173=>446|212=>475|51=>350|20=>20|213=>476|232=>510|233=>511|80=>51|n=>n,fun|15=>3|16=>4|17=>2|18=>5|19=>6|n=>n⟩
theorem Tryz.lays172 : Lays.n172 Tryz.prog Tryz.lays172_ren := {
 mixed:=by kernel_rfl
 f129:=Tryz.func240.trans (congrArg some bJ)
 f171:=Tryz.func129.trans (congrArg some bJ)
 f172:=Tryz.func229.trans (congrArg some bJ)
 f205:=Tryz.func352.trans (congrArg some bJ)
 f243:=Tryz.func223.trans (congrArg some bJ)
 f244:=Tryz.func296.trans (congrArg some bJ)
 f245:=Tryz.func297.trans (congrArg some bJ)
 f246:=Tryz.func293.trans (congrArg some bJ)
 f247:=Tryz.func329.trans (congrArg some bJ)
 f279:=Tryz.func330.trans (congrArg some bJ)
 f280:=Tryz.func331.trans (congrArg some bJ)
 f281:=Tryz.func332.trans (congrArg some bJ)
 f282:=Tryz.func333.trans (congrArg some bJ)
 f283:=Tryz.func325.trans (congrArg some bJ)
 f284:=Tryz.func326.trans (congrArg some bJ)
 f285:=Tryz.func327.trans (congrArg some bJ)
 f286:=Tryz.func328.trans (congrArg some bJ)
 f287:=Tryz.func350.trans (congrArg some bJ)
 f316:=Tryz.func351.trans (congrArg some bJ)
 f317:=Tryz.func346.trans (congrArg some bJ)
 f318:=Tryz.func347.trans (congrArg some bJ)
 f319:=Tryz.func348.trans (congrArg some bJ)
 f320:=Tryz.func349.trans (congrArg some bJ)
 f321:=Tryz.func364.trans (congrArg some bJ)
 f322:=Tryz.func365.trans (congrArg some bJ)
 f337:=Tryz.func362.trans (congrArg some bJ)
 f338:=Tryz.func363.trans (congrArg some bJ)
 t0:=Tryz.underlying0
 a0:=Tryz.isAgg0
 z0:=Tryz.sizeOf0
 v0:=Tryz.zeroValue0
 t2:=Tryz.underlying2
 a2:=Tryz.isAgg2
 z2:=Tryz.sizeOf2
 v2:=Tryz.zeroValue2
 t3:=Tryz.underlying3
 a3:=Tryz.isAgg3
 z3:=Tryz.sizeOf3
 v3:=Tryz.zeroValue3
 t4:=Tryz.underlying4
 a4:=Tryz.isAgg4
 z4:=Tryz.sizeOf4
 v4:=Tryz.zeroValue4
 t5:=Tryz.underlying5
 a5:=Tryz.isAgg5
 z5:=Tryz.sizeOf5
 v5:=Tryz.zeroValue5
 t9:=Tryz.underlying9
 a9:=Tryz.isAgg9
 z9:=Tryz.sizeOf9
 v9:=Tryz.zeroValue9
 t20:=Tryz.underlying20
 a20:=Tryz.isAgg20
 z20:=Tryz.sizeOf20
 v20:=Tryz.zeroValue20
 t21:=Tryz.underlying21
 a21:=Tryz.isAgg21
 z21:=Tryz.sizeOf21
 v21:=Tryz.zeroValue21
 t37:=Tryz.underlying130
 a37:=Tryz.isAgg130
 z37:=Tryz.sizeOf130
 v37:=Tryz.zeroValue130
 t46:=Tryz.underlying257
 a46:=Tryz.isAgg257
 z46:=Tryz.sizeOf257
 v46:=Tryz.zeroValue257
 t51:=Tryz.underlying350
 a51:=Tryz.isAgg350
 z51:=Tryz.sizeOf350
 v51:=Tryz.zeroValue350
 t53:=Tryz.underlying345
 a53:=Tryz.isAgg345
 z53:=Tryz.sizeOf345
 v53:=Tryz.zeroValue345
 t75:=Tryz.underlying79
 a75:=Tryz.isAgg79
 z75:=Tryz.sizeOf79
 v75:=Tryz.zeroValue79
 t76:=Tryz.underlying219
 a76:=Tryz.isAgg219
 z76:=Tryz.sizeOf219
 v76:=Tryz.zeroValue219
 t85:=Tryz.underlying449
 a85:=Tryz.isAgg449
 z85:=Tryz.sizeOf449
 v85:=Tryz.zeroValue449
 t127:=Tryz.underlying227
 a127:=Tryz.isAgg227
 z127:=Tryz.sizeOf227
 v127:=Tryz.zeroValue227
 t143:=Tryz.underlying498
 a143:=Tryz.isAgg498
 z143:=Tryz.sizeOf498
 v143:=Tryz.zeroValue498
 t145:=Tryz.underlying500
 a145:=Tryz.isAgg500
 z145:=Tryz.sizeOf500
 v145:=Tryz.zeroValue500
 t167:=Tryz.underlying448
 a167:=Tryz.isAgg448
 z167:=Tryz.sizeOf448
 v167:=Tryz.zeroValue448
 t168:=Tryz.underlying451
 a168:=Tryz.isAgg451
 z168:=Tryz.sizeOf451
 v168:=Tryz.zeroValue451
 t171:=Tryz.underlying444
 a171:=Tryz.isAgg444
 z171:=Tryz.sizeOf444
 v171:=Tryz.zeroValue444
 t173:=Tryz.underlying446
 a173:=Tryz.isAgg446
 z173:=Tryz.sizeOf446
 v173:=Tryz.zeroValue446
 t175:=Tryz.underlying477
 a175:=Tryz.isAgg477
 z175:=Tryz.sizeOf477
 v175:=Tryz.zeroValue477
 t210:=Tryz.underlying480
 a210:=Tryz.isAgg480
 z210:=Tryz.sizeOf480
 v210:=Tryz.zeroValue480
 t212:=Tryz.underlying475
 a212:=Tryz.isAgg475
 z212:=Tryz.sizeOf475
 v212:=Tryz.zeroValue475
 t213:=Tryz.underlying476
 a213:=Tryz.isAgg476
 z213:=Tryz.sizeOf476
 t232:=Tryz.underlying510
 a232:=Tryz.isAgg510
 z232:=Tryz.sizeOf510
 v232:=Tryz.zeroValue510
 t233:=Tryz.underlying511
 a233:=Tryz.isAgg511
 z233:=Tryz.sizeOf511
 v233:=Tryz.zeroValue511
 g15:=by kernel_rfl
 g16:=by kernel_rfl
 g17:=by kernel_rfl
 g18:=by kernel_rfl
 g19:=by kernel_rfl}
open Go.SL in
theorem bA4(s:List UInt8)(n:Int)(hl:s.length≤18)(h:Lib.atoi s=some n)(K:Hl):Sp Tryz.prog 229 [str s] K [] (Val (.tuple #[i64 n,.nilIface]) K):=by
 refine nQ ⟨_,Tryz.func229,rfl,rfl⟩ fun w hw=>(Any.strconv_Atoi Tryz.lays172 ⟨s.toArray⟩ n (by simpa[ByteArray.size]using hl) h w).mono fun e w' ⟨he,t,hw'⟩=>⟨he,?_⟩
 rw[hw'];exact⟨rfl,rfl,rfl,by rw[Lib.bytesWorld_size];omega,fun j hj=>Lib.bytesWorld_at_old w _ t j hj⟩
end Go.Proofs
end
section
attribute [local irreducible] Go.SL.T Go.SL.OL Go.SL.D Go.SL.DL Go.SL.Ev Go.SL.Ef Go.SL.EfS
namespace Go.Proofs
open Go Go.SL Go.Syn Go.Box
theorem bGI(s sep:aJ)(K:Hl)(hg:Glob K)(hs:s.length < 4294967281):Sp Tryz.prog 228 [str s,str sep] K [] (Val (.tuple #[str (Lib.cut s sep).1,str (Lib.cut s sep).2.1,.bool (Lib.cut s sep).2.2]) K):=by
 obtain⟨m,T,fz,hm⟩:=hg.maxLen;refine nQ ⟨_,Tryz.func228,rfl,rfl⟩ fun w hw=>(Tryz.strings_Cut ⟨s.toArray⟩ ⟨sep.toArray⟩ m w gB3 (mI (hw _ _ hm) rfl)).mono fun e w' ⟨he,n,hw'⟩=>⟨he,?_⟩
 rw[hw'];exact⟨rfl,rfl,rfl,Nat.le_refl _,fun j hj=>rfl⟩
theorem aFO{s sep a b:aJ}{ok:Bool}(h:Lib.cut s sep=(a,b,ok))(K:Hl)(hg:Glob K)(hs:s.length < 4294967281):Sp Tryz.prog 228 [str s,str sep] K [] (Val (.tuple #[str a,str b,.bool ok]) K):=by
 have:=bGI s sep K hg hs;rw[h]at this;exact this
def UnpR(r:Option (List File)):Ending→Hl→List Asn→Prop:=Ret fun v K' L'=>match r with
 |some xs=>∃u,v=.tuple #[u,.bool true]∧L'=[sl false cD u xs]
 |none=>v=.tuple #[.slice none 0 0,.bool false]∧L'=[]
theorem bGH{s a b:aJ}{ok:Bool}(h:Lib.cut s [10]=(a,b,ok)):b.length≤s.length:=by
 rcases aJI 10 s with h1|⟨x,y,h1,h2,h3⟩
 ·by_cases hm:(10:UInt8)∈s
  ·rw[h]at h1;obtain rfl:ok=false:=h1;unfold Lib.cut at h;split at h
   ·cases h
   cases h;exact Nat.zero_le _
  rw[aM8 hm]at h;cases h;exact Nat.zero_le _
 rw[h3]at h;cases h;rw[h2];simp;omega
theorem bFD{d:aJ}{r:Option (List File)}(h:sV d r):∃a b ok,Lib.cut d [10]=(a,b,ok)∧d.length≤1000000100∧((r=none∧ok=false)∨(r=none∧ok=true∧a≠tD b)∨(∃xs,r=some xs∧kW xs∧ok=true∧a=tD b∧b=bodyC xs)):=by
 obtain⟨xs,hx,h⟩:=h;have hl:(gJ xs).length≤1000000100:=by
  have h1:=Lib.itoa_length_le ((bodyC xs).length:Int) (by have:=hx.2.1;omega) (by have:=hx.2.1;omega);have h2:=aEC (aC3 (bodyC xs));have:=hx.2.1;simp only[gJ,tD,List.length_append,List.length_singleton];omega
 rcases h with ⟨rfl,rfl⟩|⟨h1,h2,rfl⟩
 ·exact⟨_,_,_,bI7 xs,hl,.inr (.inr ⟨xs,rfl,hx,rfl,rfl,rfl⟩)⟩
 have h3:=bK5 h1 h2;have h4:=h1.length_le
 generalize hc:Lib.cut d [10]=c at h3
 obtain⟨a,b,ok⟩:=c;refine⟨a,b,ok,rfl,by omega,?_⟩
 cases ok with
 |false=>exact .inl ⟨rfl,rfl⟩
 |true=>exact .inr (.inl ⟨rfl,rfl,by rcases h3 with h3|h3;cases h3;exact h3⟩)
theorem bFE(d:aJ)(r:Option (List File))(h:sV d r)(K:Hl)(hg:Glob K)(hdb:Deb K):Sp Tryz.prog 135 [str d] K [] (UnpR r):=by
 obtain⟨a,b,ok,hcut,hdl,hcase⟩:=bFD h;have hbl:=bGH hcut;have hil:=Lib.itoa_length_le (b.length:Int) aI aI;have hxl:=aEC (aC3 b);refine a8 Tryz.func135 rfl Tryz.ntmps135 rfl rfl fun F w=>?_;refine zz9 ?_;refine cF rfl rfl (aFO hcut _ hg aI) rfl ?_;refine zz9 ?_;rcases hcase with ⟨rfl,rfl⟩|⟨rfl,rfl,hne⟩|⟨xs,rfl,hok,rfl,rfl,rfl⟩
 ·refine zz28 ?_;refine fA rfl rfl rfl (Hl.le_refl _) ?_;exact⟨_,rfl,rfl,rfl⟩
 ·refine zz13 ?_;refine cF rfl rfl (qO _ aI aI _ hg) rfl ?_;refine zz1 ?_;refine aA (cW rfl rfl gAP) rfl ?_;refine zz3 ?_;refine cF rfl rfl (aGL _ aI _) rfl ?_;refine zz1 ?_;refine cF rfl rfl (aP6 _ (aC3 _) _ hdb) rfl ?_;refine zz1 ?_;refine aA (cW rfl rfl gAS) rfl ?_;refine zz1 ?_;refine aA (zB (s7 rfl rfl) hne) rfl ?_;refine zz12 ?_;refine fA rfl rfl rfl (Hl.le_refl _) ?_;exact⟨_,rfl,rfl,rfl⟩
 refine zz13 ?_;refine cF rfl rfl (qO _ aI aI _ hg) rfl ?_;refine zz1 ?_;refine aA (cW rfl rfl gAP) rfl ?_;refine zz3 ?_;refine cF rfl rfl (aGL _ aI _) rfl ?_;refine zz1 ?_;refine cF rfl rfl (aP6 _ (aC3 _) _ hdb) rfl ?_;refine zz1 ?_;refine aA (cW rfl rfl gAS) rfl ?_;refine zz1 ?_;refine aA (vJ (s7 rfl rfl) (fun h=>h rfl)) rfl ?_;refine zz13 ?_;refine kF (eF cD) ?_;refine rC (fun(i:Nat) (u:Value)=>i≤xs.length) (fun i u=>[(5,str (bodyC (xs.drop i))),(7,u)]) (fun _ _=>K) (fun i u=>[sl false cD u (xs.take i)]) (fun i _=>xs.length - i) 0 (.slice none 0 0) (Nat.zero_le _) (.cons 5 rfl (.cons 7 rfl .nil)) rfl (fun _ h=>h) ?_;intro i u hi;refine zz7 ?_;refine bK 35 rfl (fun h35=>?_) (fun h35=>?_)
 ·have hlt:i < xs.length:=by rcases Nat.lt_or_ge i xs.length with h|h;exact h;rw[List.drop_of_length_le h]at h35;exact absurd rfl h35
  obtain⟨f,hx,hxi⟩:∃f,xs[i]?=some f∧f=xs[i]'hlt:=⟨xs[i]'hlt,List.getElem?_eq_getElem hlt,rfl⟩;rw[aZB hx];have hnm:=hok.1 f (List.mem_of_getElem? hx);have hel:=yZ (List.mem_of_getElem? hx);have hbl2:=hok.2.1;have hbt:(bodyC (xs.drop (i+1))).length≤(bodyC xs).length:=(by rw[show bodyC xs=bodyC (xs.take (i+1))++bodyC (xs.drop (i+1))from by unfold Box.bodyC;rw[←List.flatMap_append,List.take_append_drop]];simp);have hel2:(entryC f).length=f.1.length+1+(Lib.itoa f.2.length).length+1+f.2.length:=by simp[entryC];omega
  have hil2:(Lib.itoa (f.2.length:Int)).length≤10:=(by rw[Lib.itoa_nonneg];exact aZF 9 _ aI);refine zz11 ?_;refine cF rfl rfl (aFO (bDA hnm) _ hg gAU) rfl ?_;refine zz11 ?_;refine cF rfl rfl (aFO (bDB hnm) _ hg gAS) rfl ?_;refine zz12 ?_;refine cF rfl rfl (bA4 _ _ aI (aI7 f.2.length) _) rfl ?_;refine zz20 ?_;refine aA (vJ (gD rfl rfl) gAU) rfl ?_;refine zz12 ?_;refine aA (gN (v:=str f.2) (fB (n:=f.2.length) Tryz.underlying9 rfl rfl rfl gAU) (by rw[List.take_left])) rfl ?_;refine uAc ?_;refine cC (bH (z0:=[(str []),(str [])]) eK aID rfl rfl rfl rfl (.cons rfl rfl rfl (.cons (.cons .nil)) .nil)) rfl ?_;rintro _ K _ ⟨b67,rfl,rfl,rfl⟩ -;refine cC (dN (k:=cD) (ys:=[f]) jC rfl rfl bF (fun w j=>dE Tryz.underlying62 (SeesSl.at (k:=cD) (.blk (.own .here) rfl rfl) j)) (by show ((xs.take i).length+1)*32≤140737488355328;rw[List.length_take];have:=hok.2.2;omega) (by show (xs.take i).length+1≤9223372036854775807;rw[List.length_take];have:=hok.2.2;omega)) rfl ?_;rintro v68 K _ ⟨rfl,rfl,ho68⟩ -;refine zz6 ?_;refine aA (gN (v:=str (bodyC (xs.drop (i+1)))) (iT (m:=f.2.length) Tryz.underlying9 rfl rfl rfl gAU) (by rw[List.drop_left])) rfl ?_;refine zz3 ?_;refine uAa ?_;refine fR (i+1) _ aI aI (.cons 5 rfl (.cons 7 rfl .nil)) rfl (fun _ h=>by rw[List.take_succ_eq_append_getElem hlt,←hxi];exact h)
 have hie:i=xs.length:=(Nat.lt_or_ge i xs.length).elim (fun h=>absurd (by rw[aZB (List.getElem?_eq_getElem h)];exact bHA _ _) h35) (fun h=>by omega);subst hie;rw[List.take_length];refine zz13 ?_;refine uAa ?_;refine fA rfl rfl rfl (Hl.le_refl _) ?_;exact⟨_,rfl,_,rfl,rfl⟩
end Go.Proofs
end
section
attribute [local irreducible] Go.SL.T Go.SL.OL Go.SL.D Go.SL.DL Go.SL.Ev Go.SL.Ef Go.SL.EfS
namespace Go.Proofs
open Go Go.SL Go.Syn Go.Box Go.Mach
theorem aGP{s s1:DSt}(h:d6 s=(none,s1)):s1.down=false:=by
 unfold d6 at h;split at h
 ·rename_i he;rw[show s.we=none from congrArg Prod.fst h]at he;cases he
 rename_i he;cases h
 show (fX s.left s.full s.down).2.2.2=false
 have:(fX s.left s.full s.down).1.isSome≠true:=he;unfold fX at this ⊢;split
 ·rw[if_pos cB]at this;simp at this
 split <;> rfl
theorem aK6{n d:aJ}{s:DSt}(hd:s.down=false)(hn:s.now n=some d):r6 n s=(d,none):=by unfold r6;rw[if_neg (by rw[hd];simp),hn]
theorem bJL{r:Option (List File)}{s s1:DSt}{e:Int}(h:d6 s=(some e,s1)):dT r s=(some e,s1):=by unfold dT;rw[h];rfl
theorem bDS{r:Option (List File)}{s s1:DSt}(h:d6 s=(none,s1))(hj:s1.now bM=none):dT r s=(none,s1):=by unfold dT;rw[h];simp[aCY (aGP h) hj]
theorem aN9{r:Option (List File)}{s s1:DSt}{d:aJ}(h:d6 s=(none,s1))(hj:s1.now bM=some d):dT r s=vB r s1:=by unfold dT;rw[h];simp[aK6 (aGP h) hj]
def Says(s:DSt)(r:Option (List File)):Prop:=∀s1 d,d6 s=(none,s1)→s1.now bM=some d→sV d r
theorem bN0{d:aJ}{xs:List File}(h:sV d (some xs)):kW xs:=by
 obtain⟨fs,h1,⟨-,h2⟩|⟨-,-,h2⟩⟩:=h
 ·injection h2 with h2;rw[h2];exact h1
 cases h2
theorem bGP{xs:List File}(h:kW xs):∀f∈xs,f.2.length≤140737488355328:=fun f hf=>by
 have h1:=yZ hf;have h2:=h.2.1;have h3:(Box.entryC f).length=f.1.length+1+(Lib.itoa f.2.length).length+1+f.2.length:=by simp[Box.entryC];omega
 omega
theorem bOB(b:Nat)(s:DSt)(r:Option (List File))(hun:Says s r)(K K0:Hl)(le:K0.le K)(hg:Glob K)(hdb:Deb K)(hp:s.pend.length≤600000):
  Sp Tryz.prog 82 [dV b] K [dsk K0 b s] (Ret fun v K' L'=>v=erV (dT r s).1∧L'=[dsk K' b (dT r s).2]):=by
 have hsp:=pE s;refine a8 Tryz.func82 rfl Tryz.ntmps82 rfl rfl fun F w=>?_;refine zz3 ?_;rintro _ K _ ⟨b1,rfl,rfl,rfl⟩ -;refine zz5 ?_;refine l8 fun K1 le1 hb1=>?_;refine zz2 ?_;refine jA rfl rfl (bIH b) (aQ8 b s aI _ _ (Hl.le_trans le le1)) (.cons .here .nil) rfl ?_;rintro _ K2 _ ⟨rfl,rfl⟩ le2;refine zz3 ?_;rcases hsy:d6 s with ⟨_|e,s1⟩
 ·refine zz10 ?_;have hdn:=aGP hsy;have hb12:=le2 _ _ hb1;have hr:=bAD b s1 bM;rw[hsy]at hsp
  replace hsp:s1.pend.length≤s.pend.length:=hsp
  refine zz2 ?_;refine jA rfl rfl (bPM b) (hr _ _ (Hl.le_refl _)) (.cons .here .nil) rfl ?_;rintro _ K3 _ ⟨u,rfl,rfl⟩ le3;have hb13:=le3 _ _ hb12;refine zz7 ?_;rcases hj:s1.now bM with _|d
  ·refine zz4 ?_;rw[aCY hdn hj];refine zz1 ?_;refine aA (cY Tryz.underlying30 (fun _ h=>by cases h) rfl) rfl ?_;refine aA (zB (vD rfl rfl (fun _=>aZN _ _) (fun w=>aZO (some 14) 14 w)) rfl) rfl ?_;refine zz12 ?_;refine uAv ?_;refine bD rfl rfl (Hl.le_trans le1 (Hl.le_trans le2 le3)) ?_;rw[bDS hsy hj];exact⟨_,rfl,rfl,rfl⟩
  refine zz4 ?_;rw[aK6 hdn hj];refine zz1 ?_;refine aA (cY Tryz.underlying30 (fun _ h=>by cases h) rfl) rfl ?_;refine aA (vJ (vD rfl rfl (fun _=>aZN _ _) (fun w=>aZO none 14 w)) (by decide)) rfl ?_;refine zz15 ?_;have hu:=bFE d r (hun _ _ hsy hj) K3 (((hg.mono le1).mono le2).mono le3) (((hdb.mono le1).mono le2).mono le3);rcases r with _|xs
  ·refine zz4 ?_;refine uBa ?_;refine aX rfl rfl hu .nil rfl ?_;rintro _ K4 _ ⟨rfl,rfl⟩ le4;have hb14:=le4 _ _ hb13;refine zz21 ?_;refine cC (bH (z0:=[.nilFunc,.nilFunc]) uZ bLE rfl rfl rfl rfl (.cons rfl rfl rfl (.cons .nil) (.cons rfl rfl rfl (.skip (.cons .nil)) .nil))) rfl ?_;rintro _ K _ ⟨b40,rfl,rfl,rfl⟩ -;refine aX rfl rfl (aGM 800000 b b40 [⟨.func (.func 136) #[] #[ptr b1],rfl⟩,⟨.func (.method "Sync") #[dV b] #[],rfl⟩] [eV bM,d6] s1 _ _ le4 _ rfl (bS9 (bL3 _ _ _ _ _ hb14) (aDN _ _)) gAI (by simp)) (.cons .here (.cons (.there .here) .nil)) rfl ?_;rintro _ K5 _ ⟨rfl,rfl⟩ le5;refine zz4 ?_;refine uAa ?_;refine bD rfl rfl (Hl.le_trans le1 (Hl.le_trans le2 (Hl.le_trans le3 (Hl.le_trans le4 le5)))) ?_;rw[aN9 hsy hj];exact⟨_,rfl,rfl,rfl⟩
  refine zz4 ?_;refine uBa ?_;refine aX rfl rfl hu .nil rfl ?_;rintro _ K4 _ ⟨u2,rfl,rfl⟩ le4;have hb14:=le4 _ _ hb13;refine zz14 ?_;refine kC fun K5 le5 hu5=>?_;have hb15:=le5 _ _ hb14;have hfo:=bN0 (hun _ _ hsy hj);refine zz3 ?_;refine aX rfl rfl (aNF b u2 xs s1 _ _ (Hl.le_trans le4 le5) hu5 hfo.2.2 (bGP hfo) aI) (.cons (.there .here) .nil) rfl ?_;rintro _ K6 _ ⟨rfl,rfl⟩ le6;refine zz5 ?_;refine uAa ?_;refine bD rfl rfl (Hl.le_trans le1 (Hl.le_trans le2 (Hl.le_trans le3 (Hl.le_trans le4 (Hl.le_trans le5 le6))))) ?_;rw[aN9 hsy hj];exact⟨_,rfl,rfl,rfl⟩
 refine zz15 ?_;refine uAa ?_;refine bD rfl rfl (Hl.le_trans le1 le2) ?_;rw[bJL hsy];exact⟨_,rfl,rfl,rfl⟩
theorem bNE(b:Nat)(s:DSt)(r:Option (List File))(hun:Says s r)(K K0:Hl)(le:K0.le K)(hg:Glob K)(hdb:Deb K)(hp:s.pend.length≤600000):
  Sp Tryz.prog 48 [dV b] K [dsk K0 b s] (Ret fun v K' L'=>v=erV (dT r s).1∧L'=[dsk K' b (dT r s).2]):=by
 refine a8 Tryz.func48 rfl Tryz.ntmps48 rfl rfl fun F w=>?_;refine zz8 ?_;refine aX rfl rfl (bOB b s r hun _ _ le hg hdb hp) (.cons .here .nil) rfl ?_;rintro _ K1 _ ⟨rfl,rfl⟩ le1;refine zz4 ?_;refine bD rfl rfl le1 ?_;exact⟨_,rfl,rfl,rfl⟩
theorem aIG(bx b:Nat)(l f kept part:Int)(s:DSt)(r:Option (List File))(hun:Says (s.set l f) r)(K K0:Hl)(le:K0.le K)(hx:yJ K bx b)(hg:Glob K)(hdb:Deb K)(hE:ErrT K)(hp:s.pend.length≤600000)
  (hk1: -9223372036854775808≤part) (hk2:part≤9223372036854775807) (hcr:(dT r (s.set l f)).2.down=true→(dT r (s.set l f)).2.pend.length≤1000000∧∀o∈(dT r (s.set l f)).2.pend,o.data.length≤140737488355328):
  Sp Tryz.prog 28 [ptr bx,i64 l,i64 f,i64 kept,i64 part] K [dsk K0 b s] (Ret fun v K' L'=>v=i64 (errn (dT r (s.set l f)).1)∧∃t,kX (dT r (s.set l f)).2 t∧L'=[dsk K' b t]):=by
 obtain⟨T,fz,hk⟩:=hx;have hmr:=bNE b (s.set l f) r hun
 generalize dT r (s.set l f)=md at hcr hmr ⊢
 refine a8 Tryz.func28 rfl Tryz.ntmps28 rfl rfl fun F w=>?_;refine zz6 ?_;refine aLP fun L2 hd2=>?_;obtain⟨m1,m2,es1,c1,es2,c2,pv,hm1,hm2,hop,hpv,rfl⟩:=hd2;refine dD (anc:=[0,1,3,7,0,16,48,112,0,0,511,1535,3583,8191,16383,32767]) (ord:=[0,1,2,3,4,5,6,7,8,9,10,11,12,13,14,15]) [12,15] [15] mixed gAH .nil ?_;refine zz12 ?_;refine uBi ?_;rintro _ K _ ⟨rfl,rfl⟩ -;refine⟨_,(show Tks _ _ _ from .nil).sat,?_⟩
 refine zz2 ?_;refine uAk ?_;rintro _ K _ ⟨rfl,rfl⟩ -;refine zz3 ?_;refine kF (aAX (s:=s) (M:=[]) (l:=l) (f:=f) hm1 hm2 hop hpv) ?_;refine zz5 ?_;refine aA (cY Tryz.underlying103 (fun _ h=>by cases h) rfl) rfl ?_;refine aX rfl rfl (hmr _ _ le hg hdb hp) (.cons .here .nil) rfl ?_;rintro _ K1 _ ⟨rfl,rfl⟩ le1;refine zz6 ?_;refine aX rfl rfl (aRK md.1 _ (hE.mono le1)) .nil rfl ?_;rintro _ K1 _ ⟨rfl,rfl,rfl⟩ -;refine zz7 ?_;refine xU (fun(t:DSt) (K4:Hl)=>K1.le K4∧kX md.2 (t.set (-1) (-1))) (fun _ _=>[(0,ptr bx),(12,i64 (errn md.1))]) (fun _ K4=>K4) (fun t K4=>[dsk K4 b t]) ?_ ?_
 ·refine zz2 ?_;refine bIZ fun L2 hd2=>?_;have hd3:=hd2;obtain⟨n1,n2,fs1,d1,fs2,d2,qv,hn1,hn2,hoq,hqv,rfl⟩:=hd2;have hk3:=le1 _ _ hk;refine zz9 ?_;refine eO 45 rfl (fun h45=>?_) (fun h45=>?_)
  ·refine kF (rI hd3) ?_;refine zz7 ?_;refine aX rfl rfl (aJH b md.2 kept part (hcr h45).1 (hcr h45).2 hk1 hk2 _ _ (Hl.le_refl _)) (.cons .here .nil) rfl ?_;rintro _ K4 _ ⟨rfl,t,hct,rfl⟩ le4;refine uAz ?_
   first|exact iP t K4 ⟨le4,by unfold kX;rw[if_pos h45];exact⟨t,hct,rfl⟩⟩ (.cons 0 rfl (.cons 12 rfl .nil)) rfl (fun _ h=>h)|exact iP md.2 K1 ⟨Hl.le_refl _,by unfold kX;rw[if_neg (by rw[h45];simp)]⟩ (.cons 0 rfl (.cons 12 rfl .nil)) rfl (fun _ h=>h)
  refine kF (rI hd3) ?_;refine aW ?_;refine uAa ?_
  first|exact iP t K4 ⟨le4,by unfold kX;rw[if_pos h45];exact⟨t,hct,rfl⟩⟩ (.cons 0 rfl (.cons 12 rfl .nil)) rfl (fun _ h=>h)|exact iP md.2 K1 ⟨Hl.le_refl _,by unfold kX;rw[if_neg (by rw[h45];simp)]⟩ (.cons 0 rfl (.cons 12 rfl .nil)) rfl (fun _ h=>h)
 intro t K4 ⟨le4,hend⟩;refine aH ?_;have hk4:=le4 _ _ (le1 _ _ hk);refine aLP fun L2 hd2=>?_;obtain⟨m1,m2,es1,c1,es2,c2,pv,hm1,hm2,hop,hpv,rfl⟩:=hd2;refine dD (anc:=[0,1,3,7,0,16,48,112,255,511,1023,2047,4095,8191]) (ord:=[0,1,2,3,4,5,6,7,8,9,10,11,12,13]) [10,13] [10,13] mixed gAH .nil ?_;refine zz10 ?_;refine uBk ?_;rintro _ K _ ⟨rfl,rfl⟩ -;refine zz2 ?_;refine uAk ?_;rintro _ K _ ⟨rfl,rfl⟩ -;refine zz3 ?_;refine kF (aAX (s:=t) (M:=[]) (l:= -1) (f:= -1) hm1 hm2 hop hpv) ?_;refine zz6 ?_;refine bD rfl rfl (Hl.le_trans le1 le4) ?_;exact⟨_,rfl,rfl,_,hend,rfl⟩
end Go.Proofs
end
section
namespace Go.Mach
open Go.Syn
structure ActOk (a:Action):Prop where
 lo:1≤a.1
 hi:a.1≤4
 keep:a.1=1→a.2=[]
 box:a.1=2→boxed a.2=true
 len:a.2.length≤48
structure ActsOk (l:List Action):Prop where
 len:l.length≤6
 nodup:l.Nodup
 ok:∀a∈l,ActOk a
structure AInv (s:MS):Prop where
 acts:ActsOk s.acts
 keep:s.keep=true→s.acts=[]
theorem AInv.same{s t:MS}(h:AInv s)(h1:t.acts=s.acts)(h2:t.keep=s.keep∨t.keep=false):AInv t:=
 ⟨h1▸h.acts,fun hk=>by rcases h2 with h2|h2;rw[h1];exact h.keep (h2▸hk);rw[h2]at hk;cases hk⟩
theorem aQC:ActsOk [(1,[])]:=⟨by simp,by simp,fun a h=>by rw[List.mem_singleton.1 h];exact⟨by omega,by omega,fun _=>rfl,fun h=>by simp at h,by simp⟩⟩
theorem AInv.out{s:MS}(h:AInv s):ActsOk (if s.keep=true then s.acts++[(1,[])]else s.acts):=by
 split
 ·rename_i hk;rw[h.keep hk];exact aQC
 exact h.acts
theorem AInv.start:AInv Mach.start:=⟨⟨by simp[Mach.start],by simp[Mach.start],fun a h=>by simp[Mach.start]at h⟩,fun _=>rfl⟩
end Go.Mach
namespace Go.Box
open Go.Syn Go.Mach
def nm(id:aJ)(i:Nat)(a:Action):aJ:=if a.1=1 then vM++id else if a.1=2 then boxP++a.2++vX++id else outN id i
theorem aQN{id:aJ}{i:Nat}{a:Action}:∃c r,nm id i a=c::r∧(a.1=1→c=105)∧(a.1=2→c=98)∧(a.1≠1→a.1≠2→c=111):=by
 unfold nm
 by_cases e1:a.1=1
 ·exact⟨105,_,by rw[if_pos e1];rfl,fun _=>rfl,fun h=>by omega,fun h=>absurd e1 h⟩
 by_cases e2:a.1=2
 ·exact⟨98,_,by rw[if_neg e1,if_pos e2];rfl,fun h=>by omega,fun _=>rfl,fun _ h=>absurd e2 h⟩
 exact⟨111,_,by rw[if_neg e1,if_neg e2];rfl,fun h=>absurd h e1,fun h=>absurd h e2,fun _ _=>rfl⟩
theorem aKT{id:aJ}{i:Nat}{a:Action}:nm id i a≠bM:=by
 obtain⟨c,r,h,h1,h2,h3⟩:=aQN (id:=id) (i:=i) (a:=a);intro e;rw[h]at e;have ec:c=46:=by injection e
 by_cases e1:a.1=1
 ·rw[h1 e1]at ec;cases ec
 by_cases e2:a.1=2
 ·rw[h2 e2]at ec;cases ec
 rw[h3 e1 e2]at ec;cases ec
end Go.Box
end
section
namespace Go.Box
open Go.Syn Go.Mach Go.Proofs Go.SL
theorem aJD{s:aJ}(h:boxed s=true):oH s:=by
 have key:∀c∈s,∃i,fW i c=true:=fun c hc=>by
  unfold boxed at h;simp only[Bool.and_eq_true,List.all_eq_true]at h;obtain⟨i,hi,e⟩:=List.mem_iff_getElem.1 hc;refine⟨i,?_⟩
  have:=h.1.1 i (List.mem_range.2 hi);rw[List.getElem?_eq_getElem hi,e]at this;exact this
 have no:∀c:UInt8,eX c=false→c.toNat≠45→c.toNat≠46→∀i,fW i c=false:=fun c h1 h2 h3 i=>by
  unfold fW;rw[h1,decide_eq_false h2,decide_eq_false h3];rfl
 constructor
 ·intro hc;obtain⟨i,hi⟩:=key _ hc;rw[no 10 (by decide) (by decide) (by decide) i]at hi;cases hi
 intro hc;obtain⟨i,hi⟩:=key _ hc;rw[no 32 (by decide) (by decide) (by decide) i]at hi;cases hi
theorem oH.app{a b:aJ}(h1:oH a)(h2:oH b):oH (a++b):=⟨fun h=>(List.mem_append.1 h).elim h1.1 h2.1,fun h=>(List.mem_append.1 h).elim h1.2 h2.2⟩
def Bd(B:Nat)(s:DSt):Prop:=∀o∈s.pend,o.data.length≤B
theorem aZA{B:Nat}{o:OpR}{s:DSt}(ho:o.data.length≤B)(h:Bd B s):Bd B (gP o s).2:=by
 unfold gP;split
 ·exact h
 split
 ·exact h
 intro p hp;rcases List.mem_append.1 (show p∈s.pend++[o]from hp)with hp|hp
 ·exact h p hp
 rw[List.mem_singleton.1 hp];exact ho
theorem aR5{B:Nat}{n d:aJ}{s:DSt}(hd:d.length≤B)(h:Bd B s):Bd B (fC n d s).2:=by
 have h1:=aZA (o:=⟨1,n,[],d⟩) hd h
 by_cases he:(gP ⟨1,n,[],d⟩ s).1=some 16
 ·rw[aBT he];intro p hp;rcases List.mem_append.1 (show p∈(gP ⟨1,n,[],d⟩ s).2.pend++[⟨1,n,[],d⟩]from hp)with hp|hp
  ·exact h1 p hp
  rw[List.mem_singleton.1 hp];exact hd
 rw[aBS he];exact h1
theorem aDI{B:Nat}{s:DSt}(h:Bd B s):Bd B (d6 s).2:=by
 unfold d6;split
 ·exact h
 intro p hp;exact absurd hp (by simp[DSt.flush])
theorem aMT{B:Nat}{n:aJ}{s:DSt}(h:Bd B s):Bd B (eV n s).2:=aZA (Nat.zero_le _) h
theorem xS{P:DSt→Prop}:∀ {gs:List (DSt→Er×DSt)} {s:DSt},(∀g∈gs,∀s,P s→P (g s).2)→P s→P (dZ gs s).2
 | [],s,_,h=>h
 |g::gs,s,hg,h=>by
  have h1:=hg g List.mem_cons_self s h;unfold dZ;split
  ·exact h1
  exact xS (fun g' h'=>hg g' (List.mem_cons_of_mem _ h')) h1
theorem aMS{B:Nat}{xs:List File}{s:DSt}(hx:∀x∈xs,x.2.length≤B)(h:Bd B s):Bd B (iM xs s).2:=by
 unfold iM;refine xS (fun g hg s hs=>?_) h
 rcases List.mem_append.1 hg with hg|hg
 ·obtain⟨x,hm,rfl⟩:=List.mem_map.1 hg;exact aR5 (hx x hm) hs
 simp only[List.mem_cons,List.not_mem_nil,or_false]at hg;rcases hg with rfl|rfl|rfl
 ·exact aDI hs
 ·exact aMT hs
 exact aDI hs
theorem aB9{B:Nat}{xs:List File}{s:DSt}(hx:∀x∈xs,x.2.length≤B)(hp:(gJ xs).length≤B)(h:Bd B s):Bd B (iC xs s).2:=by
 unfold iC;refine xS (fun g hg s hs=>?_) h
 simp only[List.mem_cons,List.not_mem_nil,or_false]at hg;rcases hg with rfl|rfl|rfl
 ·exact aR5 hp hs
 ·exact aDI hs
 exact aMS hx hs
theorem wU(xs:List File)(s:DSt)(hx:xs.length≤100):(iC xs s).2.pend.length≤s.pend.length+500:=by
 unfold iC;have a1:=u9 bM (gJ xs) s;simp only[dZ];split
 ·omega
 have a2:=pE (fC bM (gJ xs) s).2;split
 ·omega
 have a3:=xD xs (d6 (fC bM (gJ xs) s).2).2;split
 ·omega
 show (iM xs (d6 (fC bM (gJ xs) s).2).2).2.pend.length≤_
 omega
theorem aV0{k:Nat}{n d:aJ}{s:DSt}(h:Up k s)(hk:k≤1000000):Up (k+1) (fC n d s).2:=by rw[aFF h hk];exact h.dec.told _
theorem aFE{k:Nat}{s:DSt}(h:Up k s)(hk:k≤1000000):Up (k+1) (d6 s).2:=by rw[xT h hk];exact h.dec.flush
theorem aG1{k:Nat}{n:aJ}{s:DSt}(h:Up k s)(hk:k≤1000000):Up (k+1) (eV n s).2:=by
 have e:=wJ h hk;unfold eV gP DSt.we DSt.ws;rw[e,aJJ h];split
 ·exact h.dec
 split
 ·exact h.dec
 exact h.dec.told _
theorem vV{xs:List File}{g:DMap}:∀ys,saysOf xs g=some ys→ys=xs:=fun ys h=>by
 unfold saysOf at h;split at h
 ·injection h with h;exact h.symm
 cases h
end Go.Box
end

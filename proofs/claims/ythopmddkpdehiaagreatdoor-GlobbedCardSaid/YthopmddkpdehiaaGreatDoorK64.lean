/-
  What the proof stands on, part 65: the logic of walks, the walks through the functions, the plain laws. Conditions: as each theorem says. (Merged and shortened by a program.)
-/
import Derived.Test.YthopmddkpdehiaaGreatDoorK62
import Derived.Test.YthopmddkpdehiaaGreatDoorK63
set_option linter.unusedVariables false
set_option linter.unusedSimpArgs false
set_option maxRecDepth 4000
set_option maxHeartbeats 1000000
section
attribute [local irreducible] Go.SL.T Go.SL.OL Go.SL.D Go.SL.DL Go.SL.Ev Go.SL.Ef Go.SL.EfS
namespace Go.Proofs
open Go Go.SL Go.Syn Go.Mach Go.Cmp
theorem bHE{E:Env}{fr:Fr}{K:Hl}{L:List Asn}{o:_}{b c:Bool}(h:Ev E fr K L o (.bool b))(hb:b=c):Ev E fr K L o (.bool c):=hb▸h
def bPT:aJ:=[34,32,123,32,114,101,106,101,99,116,32,34,36,123,48,125,124,36,123,49,125,124,36,123,50,125,34,59,32,125]
def bPS:aJ:=[34,32,123,32,114,101,106,101,99,116,32,34,36,123,49,125,36,123,50,125,34,59,32,125]
def txS(v:aJ)(a d:Nat):aJ:=aZY++ifG++v.take a++[42]++v.drop (a+d)++bPT
def txO(v:aJ)(a:Nat):aJ:=aZY++ifG++v.take a++[63]++v.drop (a+1)++bPS
theorem aLS{v:aJ}{n:Nat}(h:∀c∈v,lowB c=true):∀c∈v.take n,lowB c=true:=fun c hc=>h c (List.mem_of_mem_take hc)
theorem aJN{v:aJ}{n:Nat}(h:∀c∈v,lowB c=true):∀c∈v.drop n,lowB c=true:=fun c hc=>h c (List.mem_of_mem_drop hc)
theorem bRZ{v:aJ}{a d:Nat}(h:∀c∈v,lowB c=true)(hl:v.length≤16)(ha:a+d≤v.length):rn (txS v a d) (msgG v)=([(4,v++(124::((v.take (a+d)).drop a++[124])))],0,true):=by
 have e:v.take a++((v.take (a+d)).drop a++v.drop (a+d))=v:=by
  have h1:(v.take (a+d)).take a=v.take a:=by rw[List.take_take];congr 1;omega
  rw[←h1,←List.append_assoc,List.take_append_drop,List.take_append_drop]
 have e2:txS v a d=wB (v.take a++42::v.drop (a+d)) aBQ:=by
  simp only[txS,wB,bPT,aVC,aBQ,List.append_assoc,List.cons_append,List.nil_append]
 have:=bNT (p:=v.take a) (mid:=(v.take (a+d)).drop a) (q:=v.drop (a+d)) (aLS h) (aJN (aLS h)) (aJN h) (by rw[e];exact hl);rw[e]at this;rw[e2,this]
theorem bRY{v:aJ}{a:Nat}(h:∀c∈v,lowB c=true)(hl:v.length≤16)(ha:a < v.length):rn (txO v a) (msgG v)=([(4,(v.take (a+1)).drop a)],0,true):=by
 have e1:(v.take (a+1)).drop a=[v[a]]:=by rw[List.take_succ_eq_append_getElem ha,List.drop_append_of_le_length gAI,List.drop_eq_nil_of_le gAI];rfl
 have e:v.take a++v[a]::v.drop (a+1)=v:=by rw[←List.drop_eq_getElem_cons ha,List.take_append_drop]
 have e2:txO v a=wB (v.take a++63::v.drop (a+1)) aYT:=by
  simp only[txO,wB,bPS,aVC,aYT,List.append_assoc,List.cons_append,List.nil_append]
 have:=bRX (p:=v.take a) (x:=v[a]) (q:=v.drop (a+1)) (aLS h) (h _ (List.getElem_mem ha)) (aJN h) (by rw[e];exact hl);rw[e]at this;rw[e2,this,e1]
theorem aZ8{v:aJ}(h:v.length≤16):MsgOk (msgG v):=⟨by simp[msgG],by intro x hx;simp[msgG]at hx;subst hx;simp;omega,by simp[msgG],by simp[msgG]⟩
theorem bQ8{v:aJ}{i:Nat}(h:∀(j:Nat) (c:UInt8),j < i→v[j]?=some c→lowB c=true)(hi:v.length≤i):∀c∈v,lowB c=true:=by
 intro c hc;obtain⟨j,hj⟩:=List.getElem?_of_mem hc;exact h j c gCH hj
theorem aP2(v:aJ)(k n:Int)(K:Hl)(hg:Glob K)(hE:ErrT K)(hv:v.length≤140737488355328)(hk1: -9223372036854775808≤k)(hk2:k≤9223372036854775807)(hn1: -9223372036854775808≤n)(hn2:n≤9223372036854775807):
  Sp Tryz.prog 3 [str v,i64 k,i64 n] K [] (Ret fun v K' L'=>v=.bool true):=by
 refine a8 Tryz.func3 rfl Tryz.ntmps3 rfl rfl fun F w=>?_;refine zz7 ?_;refine aX rfl rfl (vT _ hg hE) .nil rfl ?_;rintro _ K1 _ ⟨rfl,rfl⟩ le1;refine zz21 ?_;refine bK 24 rfl (fun h24=>?_) (fun h24=>?_)
 ·refine zz7 ?_;refine uAl ?_;refine bD rfl rfl cB ?_;exact⟨_,rfl,rfl⟩
 refine zz9 ?_;refine eJ (fun(i:Nat)=>i≤v.length∧∀(j:Nat) (c:UInt8),j < i→v[j]?=some c→lowB c=true) (fun i=>[(0,str v),(1,i64 k),(2,i64 n),(8,i64 i)]) (fun _=>K1) (fun _=>[]) (fun i=>v.length - i) 0 ⟨Nat.zero_le _,fun j c h=>by omega⟩ (.cons 0 rfl (.cons 1 rfl (.cons 2 rfl (.cons 8 rfl .nil)))) rfl (fun _ h=>h) ?_;intro i ⟨hi0,hi1⟩;refine zz9 ?_;refine bK 28 rfl (fun h28=>?_) (fun h28=>?_)
 ·have hilt:i < v.length:=by omega
  obtain⟨c,hc⟩:∃c,v[i]?=some c:=⟨v[i]'hilt,List.getElem?_eq_getElem hilt⟩;refine zz8 ?_;refine aA (cZ Tryz.underlying9 rfl rfl rfl hc) rfl ?_;refine zz2 ?_;refine cH 35 rfl (fun g35=>?_) (fun g35=>?_)
  ·refine zz19 ?_;refine uAl ?_;refine bD rfl rfl cB ?_;exact⟨_,rfl,rfl⟩
  refine zz5 ?_;refine aA (cZ Tryz.underlying9 rfl rfl rfl hc) rfl ?_;refine zz5 ?_;refine bK 40 rfl (fun h40=>?_) (fun h40=>?_)
  ·refine zz11 ?_;refine uAl ?_;refine bD rfl rfl cB ?_;exact⟨_,rfl,rfl⟩
  refine zz8 ?_;exact dF (i+1) ⟨by omega,fun j y hj hy=>by rcases Nat.lt_or_ge j i with h5|h5;exact hi1 j y h5 hy;(obtain rfl:j=i:=by omega);rw[hc]at hy;cases hy;unfold lowB;exact decide_eq_true aI⟩ aI (.cons 0 rfl (.cons 1 rfl (.cons 2 rfl (.cons 8 rfl .nil)))) rfl (fun _ h=>h)
 have hie:v.length≤i:=by omega
 have hlow:=bQ8 hi1 hie;refine zz11 ?_;refine aX rfl rfl (aF6 k _ (v.length+1) _ aI hk1 hk2 aI) .nil rfl ?_;rintro _ K1 _ ⟨a,rfl,ha,rfl,rfl⟩ -;refine zz12 ?_;refine aX rfl rfl (aF6 n _ (v.length - a+1) _ aI hn1 hn2 aI) .nil rfl ?_;rintro _ K1 _ ⟨d,rfl,hd,rfl,rfl⟩ -;refine zz7 ?_;refine uBd ?_;refine cC (bH (z0:=[(str []),(str [])]) sU bSV rfl rfl rfl rfl (.cons rfl rfl rfl (.cons (.cons .nil)) .nil)) rfl ?_;rintro _ K _ ⟨b57,rfl,rfl,rfl⟩ -;refine fT fun K2 le2 hb57=>?_;have hh:Ksl hdEl K2 (.slice (some ⟨b57,0,none⟩) 1 1) (msgG v).hs:=.inr ⟨b57,0,1,_,_,rfl,⟨_,hb57⟩,rfl⟩;have le12:=Hl.le_trans le1 le2;have hl16:v.length≤16:=by omega
 refine aA (cL bUO bPY (.cons rfl rfl rfl (.skip (.skip (.skip (.cons .nil)))) .nil)) rfl ?_;refine zz1 ?_;rintro _ K _ ⟨b11,rfl,rfl,rfl⟩ -;refine cA (cK gF rfl rfl rfl bF gAA (.cons (.cons (.cons (.cons .nil)))) gAJ) ?_;rintro _ K _ ⟨rfl,rfl⟩ -;refine zz8 ?_;refine dD (anc:=[0,1,0,0,12,31,63,0,0,384,1023,2047,0,8191,16383,32767,32767,32767,65535,393215,1048575]) (ord:=[0,1,2,3,4,5,6,7,8,9,10,11,12,13,14,15,16,17,18,19,20]) [13] [13] mixed gAH (.cons .here .nil) ?_;refine zz1 ?_;refine aK rfl rfl (.none rfl) rfl rfl (cW rfl rfl (by decide)) rfl ?_;refine zz2 ?_;refine uBo ?_;refine aK rfl rfl (.none rfl) rfl rfl (cW rfl rfl gAE) rfl ?_;refine aK rfl rfl (.none rfl) rfl rfl (cW rfl rfl gAE) rfl ?_;refine zz2 ?_;refine aK rfl rfl (.none rfl) rfl rfl (iT (m:=a+d) Tryz.underlying9 rfl rfl aI aI) rfl ?_;refine aK rfl rfl (.none rfl) rfl rfl (cW rfl rfl gAE) rfl ?_;refine aK rfl rfl (.none rfl) rfl rfl (cW rfl rfl gAE) rfl ?_;refine zz1 ?_;refine iJ rfl (.none rfl) rfl rfl rfl (nZ (txS v a d) (msgG v) _ _ (hg.mono le12) (hE.mono le12) hh (aZ8 hl16)) .nil rfl ?_;rintro _ K3 _ ⟨av,rfl,rfl⟩ le3;rw[bRZ hlow hl16 aI];obtain⟨w0,hw0⟩:∃w,w=v++(124::((v.take (a+d)).drop a++[124])):=⟨_,rfl⟩;rw[←hw0];have hw1:v.length≤w0.length:=by rw[hw0];simp
 have hw2:w0.take v.length=v:=by rw[hw0];exact List.take_left
 have hx0:(([((4:Int),w0)],(0:Int),true):List Action×Int×Bool).1[0]?=some (4,w0):=rfl;have hxl:0 < (([((4:Int),w0)],(0:Int),true):List Action×Int×Bool).1.length:=Nat.zero_lt_one;have hh3:=hh.mono le3;have le13:=Hl.le_trans le12 le3;refine zz24 ?_;refine aA (bO (k:=cS) rfl Tryz.underlying29 rfl (.own .here)) rfl ?_;refine zz7 ?_;refine aA (bE (k:=cS) gK rfl aM rfl rfl gAD) rfl ?_;refine zz1 ?_;refine aA (dQ (k:=cS) iE rfl aM gAD) rfl ?_;refine zz1 ?_;refine aA (fD (k:=cS) ts3 rfl aM cB rfl) rfl ?_;refine zz7 ?_;refine aA (bE (k:=cS) gK rfl aM rfl rfl gAD) rfl ?_;refine zz1 ?_;refine aA (dQ (k:=cS) dW rfl aM gAD) rfl ?_;refine zz1 ?_;refine aA (fD (k:=cS) ts9 rfl aM cB rfl) rfl ?_;refine zz7 ?_;refine aA (bHE (c:=false) (cP rfl rfl) (decide_eq_false (by show ¬((w0.length:Int) < (v.length:Int));omega))) rfl ?_;refine zz5 ?_;refine aA (bE (k:=cS) gK rfl aM rfl rfl gAD) rfl ?_;refine zz1 ?_;refine aA (dQ (k:=cS) dW rfl aM gAD) rfl ?_;refine zz1 ?_;refine aA (fD (k:=cS) ts9 rfl aM cB rfl) rfl ?_;refine zz5 ?_;refine aA (fB Tryz.underlying9 rfl rfl rfl (by exact hw1)) rfl ?_;refine zz3 ?_;refine aA (bHE (c:=false) (s7 rfl rfl) (decide_eq_false (by rw[hw2];simp))) rfl ?_;refine zz15 ?_;refine bK 119 rfl (fun h119=>?_) (fun h119=>?_)
 ·refine zz7 ?_;refine uAl ?_;refine bD rfl rfl cB ?_;exact⟨_,rfl,rfl⟩
 have halt:a < v.length:=by omega
 refine zz3 ?_;refine dD (anc:=[0,1,0,0,12,31,63,0,0,256,896,2047,4095,0,16383,32767,65535,65535,65535,131071,786431,2097151]) (ord:=[0,1,2,3,4,5,6,7,8,9,10,11,12,13,14,15,16,17,18,19,20,21]) [14] [14] mixed gAH (.cons (.there .here) .nil) ?_;refine zz1 ?_;refine aK rfl rfl (.none rfl) rfl rfl (cW rfl rfl (by decide)) rfl ?_;refine zz2 ?_;refine uBo ?_;refine aK rfl rfl (.none rfl) rfl rfl (cW rfl rfl gAE) rfl ?_;refine aK rfl rfl (.none rfl) rfl rfl (cW rfl rfl gAE) rfl ?_;refine zz3 ?_;refine aK rfl rfl (.none rfl) rfl rfl (iT (m:=a+1) Tryz.underlying9 rfl rfl aI aI) rfl ?_;refine aK rfl rfl (.none rfl) rfl rfl (cW rfl rfl gAE) rfl ?_;refine aK rfl rfl (.none rfl) rfl rfl (cW rfl rfl gAE) rfl ?_;refine zz1 ?_;refine iJ rfl (.none rfl) rfl rfl rfl (nZ (txO v a) (msgG v) _ _ (hg.mono le13) (hE.mono le13) hh3 (aZ8 hl16)) .nil rfl ?_;rintro _ K4 _ ⟨bv,rfl,rfl⟩ le4;rw[bRY hlow hl16 halt];obtain⟨w1,hw3⟩:∃w,w=(v.take (a+1)).drop a:=⟨_,rfl⟩;rw[←hw3];have hy0:(([((4:Int),w1)],(0:Int),true):List Action×Int×Bool).1[0]?=some (4,w1):=rfl;have hyl:0 < (([((4:Int),w1)],(0:Int),true):List Action×Int×Bool).1.length:=Nat.zero_lt_one;have le14:=Hl.le_trans le13 le4;refine zz10 ?_;refine dD (anc:=[0,1,3,7,15,31,63,127,255,511,1023,2047,4095,8191,2047,2047,2047,67583,247807,509951,1048575,2097151,4194303]) (ord:=[0,1,2,3,4,5,6,7,8,9,10,11,12,13,14,15,16,17,18,19,20,21,22]) [] [] mixed gAH (dI _) ?_;refine zz7 ?_;refine aK rfl rfl (.on rfl rfl rfl) rfl rfl (bO (k:=cS) rfl Tryz.underlying29 rfl (.own .here)) rfl ?_;refine zz4 ?_;refine aK rfl rfl (.on rfl rfl rfl) rfl rfl (bE (k:=cS) (j:=0) gK rfl (.own .here) rfl rfl hyl) rfl ?_;refine aK rfl rfl (.on rfl rfl rfl) rfl rfl (dC (n:=0) (k:=cS) lO rfl (.own .here) hy0) rfl ?_;refine zz4 ?_;refine aK rfl rfl (.on rfl rfl rfl) rfl rfl (nY (m:=a) (n:=a+1) Tryz.underlying9 rfl rfl rfl rfl aI aI aI) rfl ?_;refine aK rfl rfl (.on rfl rfl rfl) rfl rfl (cL aVF aH2 (.cons rfl rfl rfl (.cons .nil) (.cons rfl rfl rfl (.skip (.cons .nil)) .nil))) rfl ?_
 refine aK rfl rfl (.on rfl rfl rfl) rfl rfl (bHE (c:=true) (aFW (a:=(4,w1)) (c:=(4,(v.take (a+1)).drop a)) rfl rfl) (by rw[hw3];simp)) rfl ?_;refine zz5 ?_;refine uAl ?_;refine bD rfl rfl cB ?_;exact⟨_,rfl,rfl⟩
end Go.Proofs
end

/-
  What the proof stands on, part 63: the logic of walks, the walks through the functions, the plain laws. Conditions: as each theorem says. (Merged and shortened by a program.)
-/
import Derived.Test.YthopmddkpdehiaaGreatDoorK25
import Derived.Test.YthopmddkpdehiaaGreatDoorK27
import Derived.Test.YthopmddkpdehiaaGreatDoorK61
set_option linter.unusedVariables false
set_option linter.unusedSimpArgs false
set_option maxRecDepth 4000
set_option maxHeartbeats 1000000
section
namespace Go.Mach
open Go.Syn
def lowB(c:UInt8):Bool:=decide (97≤c.toNat∧c.toNat≤122)
theorem aBI{w:aJ}(h:∀c∈w,lowB c=true∨c.toNat=42∨c.toNat=63):dG w=w:=by
 unfold dG;rw[List.map_congr_left (g:=id),List.map_id];intro c hc;unfold mG;rw[if_neg];rfl
 have:=h c hc;unfold lowB at this;simp at this
 show ¬(65≤c.toNat∧c.toNat≤90)
 omega
theorem aJ9:∀ {w:aJ},(∀c∈w,c.toNat≠36)→Lib.index w [36,123] < 0
 | [],_=>by decide
 |c::w,h=>by
  have h1:=aJ9 (w:=w) fun x hx=>h x (by simp[hx])
  have h2:=h c (by simp);have h3:c≠36:=fun e=>h2 (by rw[e];rfl)
  have h4:Lib.index w [36,123]= -1:=by have:=Lib.index_ge w [36,123];omega
  unfold Lib.index;rw[h4,if_neg (by simp[List.isPrefixOf];intro e;exact absurd e.symm h3)]
  decide
theorem aPX{nm:Bool}{vars:List (aJ×aJ)}{parts:List aJ}{w:aJ}(h:∀c∈w,c.toNat≠36)(hl:w.length≤1024):dM nm vars parts w=w:=by
 unfold dM;split
 ·unfold j6
  by_cases hw:w=[]
  ·rw[if_pos hw,hw];rfl
  rw[if_neg hw,if_pos (aJ9 h),List.nil_append,List.take_of_length_le hl]
 rfl
theorem aCG{w v k:aJ}:∀(q:aJ) (f i j:Nat),q.length < f→k.drop j=q→(∀c∈q,lowB c=true)→i≤v.length→iR w v k f i j=if v.drop i=q then some []else none
 | [],f,i,j,hf,hk,_,hi=>by
  obtain⟨f,rfl⟩:∃g,f=g+1:=⟨f - 1,by omega⟩;have:k.length≤j:=by have:=congrArg List.length hk;simp at this;omega
  unfold iR;rw[List.getElem?_eq_none this];simp only[List.drop_eq_nil_iff]
  by_cases h:i=v.length
  ·rw[if_pos h,if_pos aI]
  rw[if_neg h,if_neg aI]
 |c::q,f,i,j,hf,hk,hq,hi=>by
  obtain⟨f,rfl⟩:∃g,f=g+1:=⟨f - 1,by omega⟩;obtain⟨h1,h2,h3⟩:=gC hk;have hc:=hq c (by simp);unfold lowB at hc;simp at hc;unfold iR;rw[h1];simp only[];rw[if_neg aI];cases hv:v[i]? with
  |none=>
   have:v.length≤i:=by simpa using hv
   rw[List.drop_eq_nil_of_le this];simp
  |some x=>
   have hlt:i < v.length:=by
    rcases Nat.lt_or_ge i v.length with h|h
    ·exact h
    rw[List.getElem?_eq_none h]at hv;cases hv
   have e:v.drop i=x::v.drop (i+1):=by
    rw[List.drop_eq_getElem_cons hlt];rw[List.getElem?_eq_getElem hlt]at hv;rw[Option.some.inj hv]
   simp only[];rw[if_neg aI,if_neg aI];simp only[];rw[e]
   by_cases hx:x=c
   ·rw[if_pos hx,aCG q f (i+1) (j+1) gB6 h3 (fun y hy=>hq y (by simp[hy])) aI,hx];simp
   rw[if_neg hx,if_neg (by simp[hx])]
theorem zF{w v k:aJ}:∀(p ks vs:aJ) (f i j:Nat),p.length≤f→k.drop j=p++ks→v.drop i=p++vs→(∀c∈p,lowB c=true)→iR w v k f i j=iR w v k (f - p.length) (i+p.length) (j+p.length)
 | [],ks,vs,f,i,j,_,_,_,_=>rfl
 |c::p,ks,vs,f,i,j,hf,hk,hv,hp=>by
  obtain⟨f,rfl⟩:∃g,f=g+1:=⟨f - 1,by simp at hf;omega⟩;obtain⟨h1,h2,h3⟩:=gC (show k.drop j=c::(p++ks)from hk);obtain⟨h4,h5,h6⟩:=gC (show v.drop i=c::(p++vs)from hv);have hc:=hp c (by simp);unfold lowB at hc;simp at hc;have e:iR w v k (f+1) i j=iR w v k f (i+1) (j+1):=by
   conv=>lhs;unfold iR
   rw[h1];simp only[];rw[if_neg aI,h4];simp only[];rw[if_neg aI,if_neg aI];simp
  rw[e,zF p ks vs f (i+1) (j+1) gB6 h3 h6 (fun y hy=>hp y (by simp[hy]))];simp only[List.length_cons]
  congr 1 <;> omega
theorem aHL{α:Type}{F:Nat→Option α}{x:α}:∀(n i e:Nat),i≤e→e < i+n→F e=some x→(∀d,i≤d→d < e→F d=none)→m8 F n i=some x
 |0,i,e,h1,h2,_,_=>by omega
 |n+1,i,e,h1,h2,h3,h4=>by
  unfold m8;rcases Nat.lt_or_ge i e with h|h
  ·rw[h4 i (Nat.le_refl _) h];exact aHL n (i+1) e h aI h3 fun d hd=>h4 d aI
  have:i=e:=by omega
  subst this;rw[h3]
theorem bB9{p mid q:aJ}(hp:∀c∈p,lowB c=true)(hm:∀c∈mid,lowB c=true)(hq:∀c∈q,lowB c=true):glob (p++(mid++q)) (p++42::q) false=some [mid]:=by
 unfold glob j4;simp only [Bool.false_eq_true, if_false];rw [aBI (w := p ++ (mid ++ q)) (by intro c hc; simp at hc; rcases hc with h | h | h; exact .inl (hp c h); exact .inl (hm c h); exact .inl (hq c h)),
  aBI (w:=p++42::q) gBP]
 have hk:(p++42::q).drop p.length=42::q:=List.drop_left;have hv:(p++(mid++q)).drop p.length=mid++q:=List.drop_left;rw[zF p (42::q) (mid++q) _ 0 0 gAI rfl rfl hp,Nat.zero_add,show (p++42::q).length+1 - p.length=(q.length+1)+1 from by simp;omega];obtain⟨h1,h2,h3⟩:=gC hk
 conv=>lhs;unfold iR
 rw[h1];simp only[];rw[if_pos (by rfl)];have hr:∀e,e≤(p++(mid++q)).length→iR (p++(mid++q)) (p++(mid++q)) (p++42::q) (q.length+1) e (p.length+1)=if (p++(mid++q)).drop e=q then some []else none:=fun e he=>aCG q _ e _ aI h3 hq he
 have hd:(p++(mid++q)).drop (p.length+mid.length)=q:=by rw[←List.drop_drop,hv,List.drop_left]
 refine aHL _ _ (p.length+mid.length) aI gAI ?_ fun d h5 h6=>?_
 ·rw[hr _ (by simp),if_pos hd];simp only[Option.map_some,Option.some.injEq,List.cons.injEq,and_true];rw[List.drop_take,hv,Nat.add_sub_cancel_left,List.take_left]
 rw[hr _ gAI,if_neg (fun h=>by have:=congrArg List.length h;simp at this;omega)];rfl
theorem bHW{p q:aJ}{x:UInt8}(hp:∀c∈p,lowB c=true)(hx:lowB x=true)(hq:∀c∈q,lowB c=true):glob (p++x::q) (p++63::q) false=some [[x]]:=by
 unfold glob j4;simp only [Bool.false_eq_true, if_false];rw [aBI (w := p ++ x :: q) (by intro c hc; simp at hc; rcases hc with h | rfl | h; exact .inl (hp c h); exact .inl hx; exact .inl (hq c h)),
  aBI (w:=p++63::q) gBO]
 have hk:(p++63::q).drop p.length=63::q:=List.drop_left;have hv:(p++x::q).drop p.length=x::q:=List.drop_left;rw[zF p (63::q) (x::q) _ 0 0 gAI rfl rfl hp,Nat.zero_add,show (p++63::q).length+1 - p.length=(q.length+1)+1 from by simp;omega];obtain⟨h1,h2,h3⟩:=gC hk;obtain⟨h4,h5,h6⟩:=gC hv
 conv=>lhs;unfold iR
 rw[h1];simp only[];rw[if_neg (by decide),h4];simp only[];rw[if_pos (by rfl),aCG q _ _ _ aI h3 hq aI,if_pos h6];simp only[Option.map_some,Option.some.injEq,List.cons.injEq,and_true];rw[List.drop_take,hv];simp
theorem aF2{nm:Bool}{m:Msg}{code:List Ins}{f st:Nat}{s t:MS}{o:Ins}(ho:code[s.pc]?=some o)(h14:o.op≠14)(hs:step nm m code.length o s=.ok t):loop nm m code (f+1) st s=loop nm m code f (st+1) {t with pc:=t.pc+1}:=by
 conv=>lhs;unfold loop
 rw[ho];simp only[];rw[if_neg h14,hs]
def bGE(w tpl:aJ)(p:Int):List Ins:=[⟨6,0,3,false,[[115]],[w],0⟩,⟨5,1,0,false,[],[],0⟩,⟨11,0,4,false,[tpl],[],p⟩]
def msgG(v:aJ):Msg:=⟨[],[],0,[([115],v)]⟩
theorem bJZ{v w tpl:aJ}{p:Int}{ps:List aJ}(hg:glob v w false=some ps)(hw:dM true [] [] w=w):
  Mach.run true (bGE w tpl p) (msgG v)=⟨[(4,(dM true [] (v::ps) tpl).take 48)],3,none⟩:=by
 have e1:gW (dM true [] []) (msgG v) ⟨6,0,3,false,[[115]],[w],0⟩=[v]:=by rfl
 have e2:iZ ⟨6,0,3,false,[[115]],[w],0⟩ [v] [w]=some (v::ps):=by
  simp only[iZ,s9,kL];rw[if_neg (by decide),if_neg (by decide),hg];rfl
 have s1:step true (msgG v) 3 ⟨6,0,3,false,[[115]],[w],0⟩ start=.ok ⟨[],true,[],v::ps,[true],0⟩:=by
  show matchI true (msgG v) ⟨6,0,3,false,[[115]],[w],0⟩ start=_
  unfold matchI;rw[if_pos ⟨by show (1:Int)≤3;decide,by show (3:Int)≤3;decide,by decide⟩]
  show (match iZ ⟨6, 0, 3, false, [[115]], [w], 0⟩ (gW (dM true [] []) (msgG v) ⟨6, 0, 3, false, [[115]], [w], 0⟩) [dM true [] [] w] with
   |some ps=>push (if (3:Int)=3∧true=true then {start with parts:=ps}else start) true
   |none=>push start false)=_
  rw[hw,e1,e2];rfl
 have s2:step true (msgG v) 3 ⟨5,1,0,false,[],[],0⟩ ⟨[],true,[],v::ps,[true],1⟩=.ok ⟨[],true,[],v::ps,[],1⟩:=by rfl
 have s3:step true (msgG v) 3 ⟨11,0,4,false,[tpl],[],p⟩ ⟨[],true,[],v::ps,[],2⟩=.ok ⟨[(4,(dM true [] (v::ps) tpl).take 48)],false,[],v::ps,[],2⟩:=by
  show actI true ⟨11,0,4,false,[tpl],[],p⟩ ⟨[],true,[],v::ps,[],2⟩=_
  unfold actI;rw[if_pos (.inr ⟨by show (2:Int)≤4;decide,by show (4:Int)≤4;decide,by simp⟩)];simp only[];rw[if_neg (by simp),if_neg (by simp),if_neg (by simp),if_neg (by simp),if_neg (by simp)]
  rfl
 unfold Mach.run;rw[if_neg (by show ¬400 < 3;decide)]
 show loop true (msgG v) (bGE w tpl p) 4 0 start=_
 rw[aF2 (o:=⟨6,0,3,false,[[115]],[w],0⟩) rfl (by show (6:Int)≠14;decide) s1,aF2 (o:=⟨5,1,0,false,[],[],0⟩) rfl (by decide) s2,aF2 (o:=⟨11,0,4,false,[tpl],[],p⟩) rfl (by show (11:Int)≠14;decide) s3]
 rfl
def aZY:aJ:=[114,101,113,117,105,114,101,32,91,34,118,97,114,105,97,98,108,101,115,34,44,32,34,114,101,106,101,99,116,34,93,59]
def ifG:aJ:=[105,102,32,104,101,97,100,101,114,32,58,109,97,116,99,104,101,115,32,34,115,34,32,34]
def aVC(tpl:aJ):aJ:=[34,32,123,32,114,101,106,101,99,116,32,34]++(tpl++[34,59,32,125])
def wB(w tpl:aJ):aJ:=aZY++(ifG++(w++aVC tpl))
def tsG:List (aJ×Tk):=[([],.nm dY),([32],.sg 91),([],.tx dB),([],.sg 44),([32],.tx eW),([],.sg 93),([],.sg 59)]
def usG(w tpl:aJ):List (aJ×Tk):=[([],.nm txIf),([32],.nm oT),([32],.tg lB),([32],.tx [115]),([32],.tx w),([32],.sg 123),([32],.nm eW),([32],.tx tpl),([],.sg 59),([32],.sg 125)]
theorem aYR{w tpl:aJ}(hw:∀c∈w,¬(c.toNat=34∨c.toNat=92))(ht:∀c∈tpl,¬(c.toNat=34∨c.toNat=92)):wB w tpl=rend (tsG++usG w tpl) []:=by
 have e1:esc w=w:=aFV hw;have e2:esc tpl=tpl:=aFV ht;simp only[tsG,usG,List.cons_append,List.nil_append,rend,Tk.body,e1,e2,wB,aZY,ifG,aVC,List.append_assoc]
 rfl
def tS:List aJ:=[dB,eW]
def aLZ(w tpl:aJ)(p:Int):Tree:=.ccons (.iff (.bcons (.mat 3 false 6 [[115]] [w]) (.ccons (.act 4 tpl p) .cnil) .bnil)) .cnil
theorem bOD{w tpl:aJ}{t:Tree}(h:dJ t=aLZ w tpl 0):∃p,t=aLZ w tpl p:=by
 unfold aLZ at h ⊢;cases t <;> simp only[dJ]at h <;> try (cases h;done)
 rename_i c l
 injection h with h1 h2
 cases l <;> simp only[dJ]at h2 <;> try (cases h2;done)
 cases c <;> simp only[dJ]at h1 <;> try (cases h1;done)
 rename_i bs
 injection h1 with h1
 cases bs <;> simp only[dJ]at h1 <;> try (cases h1;done)
 rename_i t b l
 injection h1 with h3 h4 h5
 subst h3;cases l <;> simp only[dJ]at h5 <;> try (cases h5;done)
 cases b <;> simp only[dJ]at h4 <;> try (cases h4;done)
 rename_i c l
 injection h4 with h6 h7
 cases l <;> simp only[dJ]at h7 <;> try (cases h7;done)
 cases c <;> simp only[dJ]at h6 <;> try (cases h6;done)
 injection h6 with h8 h9
 subst h8 h9;exact⟨_,rfl⟩
theorem bNJ{w tpl:aJ}(hw:∀c∈w,¬(c.toNat=34∨c.toNat=92))(ht:∀c∈tpl,¬(c.toNat=34∨c.toNat=92)):∃p,eD (wB w tpl)=.ok (tS,aLZ w tpl p):=by
 have hr:GReq [] (tsG.map fun x=>x.2.wd) tS:=by
  have:=GReq.cons [] tS [wSg 91,wTx dB,wSg 44,wTx eW,wSg 93] [] [dB,eW] (GList.many dB [eW]) (by decide) (GReq.nil _);exact this
 have ht1:GTest tS 6 [wNm oT,wTg lB,wTx [115],wTx w] (.mat 3 false 6 [[115]] [w]):=by
  have:=GTest.mat (needs:=tS) 5 oT 6 [] [wTg lB] [wTx [115]] [wTx w] ⟨false,3,false⟩ [[115]] [w] (by simp) (fun h=>absurd rfl h) (GTags.tag _ _ lB 2 [] rfl (by decide) (by decide) (GTags.nil _)) (GList.one _) (fun x _=>by unfold qA;rw[if_neg (by decide)]) (GList.one _);exact this
 have hb1:fZ tS 6 [wNm eW,wTx tpl,wSg 59] (.ccons (.act 4 tpl 0) .cnil):=by
  refine⟨[([wNm eW,wTx tpl,wSg 59],.act 4 tpl 0)],fun p hp=>?_,rfl,rfl⟩
  obtain rfl:=List.mem_singleton.1 hp;exact GCmd.act eW 4 eW tpl (.inr (.inr ⟨rfl,rfl,rfl⟩)) (fun _=>by decide)
 have hb:fZ tS 7 ((usG w tpl).map fun x=>x.2.wd) (aLZ w tpl 0):=by
  refine⟨[((usG w tpl).map fun x=>x.2.wd,.iff (.bcons (.mat 3 false 6 [[115]] [w]) (.ccons (.act 4 tpl 0) .cnil) .bnil))],fun p hp=>?_,by simp,rfl⟩
  obtain rfl:=List.mem_singleton.1 hp;have:=GCmd.iff (needs:=tS) (n:=6) (B:=fZ tS 6) _ _ _ _ [] none ht1 hb1 (fun _ h=>by cases h) (fun _ h=>by cases h);exact this
 obtain ⟨t', h1, h2⟩ := xJ (s := wB w tpl) (e := []) (ts := tsG) (us := usG w tpl) (fun _ h => by cases h) (by rfl) (aYR hw ht) hr hb (by
  intro a r h;have e:a=wNm txIf:=by simp[usG,Tk.wd]at h;rw[←h.1];rfl
  rw[e];decide)
 obtain⟨p,rfl⟩:=bOD h2;exact⟨p,h1⟩
theorem bUE{v w tpl:aJ}{p:Int}{ps:List aJ}(hg:glob v w false=some ps)(hw:dM true [] [] w=w):sayC (tS,aLZ w tpl p) (msgG v)=⟨[(4,(dM true [] (v::ps) tpl).take 48)],3,none⟩:=by
 have h1:Cmp.script (aLZ w tpl p)=bGE w tpl p:=by rfl
 have h2:decide (dB∈tS)=true:=by rfl
 unfold sayC;rw[h1,h2,bJZ hg hw]
theorem bUA{v w tpl:aJ}{ps:List aJ}(hw:∀c∈w,lowB c=true∨c.toNat=42∨c.toNat=63)(hl:w.length≤500)(ht:∀c∈tpl,¬(c.toNat=34∨c.toNat=92))(hlt:tpl.length≤20)(hg:glob v w false=some ps):
  rn (wB w tpl) (msgG v)=([(4,(dM true [] (v::ps) tpl).take 48)],0,true):=by
 have hc:∀c∈w,42≤c.toNat∧c.toNat≠92:=by
  intro c h;have:=hw c h;unfold lowB at this;simp at this;omega
 obtain⟨p,hp⟩:=bNJ (w:=w) (tpl:=tpl) (fun c h=>by have:=hc c h;omega) ht;have hlen:(wB w tpl).length=32+(24+(w.length+(12+(tpl.length+4)))):=by
  simp only[wB,aVC,List.length_append];rfl
 unfold rn;rw[if_neg aI,hp];simp only[];rw[bUE hg (aPX (fun c h=>by have:=hc c h;omega) aI)]
 rfl
def aBQ:aJ:=[36,123,48,125,124,36,123,49,125,124,36,123,50,125]
def aYT:aJ:=[36,123,49,125,36,123,50,125]
theorem bNT{p mid q:aJ}(hp:∀c∈p,lowB c=true)(hm:∀c∈mid,lowB c=true)(hq:∀c∈q,lowB c=true)(hl:(p++(mid++q)).length≤16):
  rn (wB (p++42::q) aBQ) (msgG (p++(mid++q)))=([(4,(p++(mid++q))++(124::(mid++[124])))],0,true):=by
 rw[bUA (ps:=[mid]) gBP (by simp at hl ⊢;omega) (by decide) (by decide) (bB9 hp hm hq)];have e:j6 [] [p++(mid++q),mid] 15 aBQ []=[]++[]++(p++(mid++q))++[124]++mid++[124]++[]:=by rfl
 have e2:dM true [] [p++(mid++q),mid] aBQ=(j6 [] [p++(mid++q),mid] 15 aBQ []).take 1024:=by rfl
 rw[e2,e,List.take_of_length_le (by simp at hl ⊢;omega),List.take_of_length_le (by simp at hl ⊢;omega)];simp
theorem bRX{p q:aJ}{x:UInt8}(hp:∀c∈p,lowB c=true)(hx:lowB x=true)(hq:∀c∈q,lowB c=true)(hl:(p++x::q).length≤16):
  rn (wB (p++63::q) aYT) (msgG (p++x::q))=([(4,[x])],0,true):=by
 rw[bUA (ps:=[[x]]) gBO (by simp at hl ⊢;omega) (by decide) (by decide) (bHW hp hx hq)]
 rfl
end Go.Mach
end

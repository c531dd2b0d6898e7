/-
  What the proof stands on, part 84: the logic of walks, the walks through the functions, the plain laws. Conditions: as each theorem says. (Merged and shortened by a program.)
-/
import Derived.Test.YthopmddkpdehiaaGreatDoorK30
import Derived.Test.YthopmddkpdehiaaGreatDoorK61
set_option linter.unusedVariables false
set_option linter.unusedSimpArgs false
set_option maxRecDepth 4000
set_option maxHeartbeats 1000000
section
namespace Go.Syn
theorem aA0(w:aJ):w.flatMap nL=esc w:=by
 unfold esc
 congr 1
 funext c
 unfold nL
 by_cases h1:c=92
 ·rw[h1];rfl
 by_cases h2:c=34
 ·rw[h2];rfl
 rw[if_neg h1,if_neg h2,if_neg];rintro(h|h)
 ·exact h2 (UInt8.toNat_inj.1 h)
 exact h1 (UInt8.toNat_inj.1 h)
theorem xL(w e:aJ):(Tk.tx w).body++e=iI w++e:=by
 simp[Tk.body,iI,aA0]
theorem bAJ(c:UInt8):(Tk.sg c).body=[c]:=rfl
theorem aAV(c:UInt8)(b:aJ)(t:Tk)(r:List (aJ×Tk)):jJ ((c::b,t)::r)=true:=rfl
theorem aOC(e:aJ):∀(x:aJ) (l:List aJ),iI x++rend (aLB l) e=yD [44,32] ((x::l).map iI)++e
 |x,[]=>rfl
 |x,y::l=>by
  have ih:=aOC e y l;simp only[List.map_cons,yD]at ih ⊢;rw[List.append_assoc,List.append_assoc,←ih];simp[aLB,rend,xL,Tk.body,iI,aA0]
theorem aCO(b e:aJ)(l:List aJ):rend (oN b l) e=b++(oE l++e):=by
 match l with
 | []=>simp[oN,rend,oE,Tk.body,yD]
 | [x]=>simp only[oN,rend,oE,xL]
 |x::y::r=>
  have:=aOC ([93]++e) x (y::r);simp only[oN,rend,l5,oE,xL,bAJ,List.nil_append,List.append_assoc,List.singleton_append,List.cons_append]at this ⊢;rw[this]
theorem aLC:∀(l:List aJ) {r:List (aJ×Tk)},d8 r=true→d8 (aLB l++r)=true
 | [],r,h=>h
 |x::l,r,h=>by
  have:=aLC l h;simp only[aLB,List.flatMap_cons,List.append_assoc,List.cons_append,List.nil_append,d8]at this ⊢;rw[this];decide
theorem xF{b:aJ}(l:List aJ){r:List (aJ×Tk)}(hb:b.all jQ=true)(h:d8 r=true):d8 (oN b l++r)=true:=by
 match l with
 | []=>simp only[oN,List.cons_append,List.nil_append,d8,hb,h];decide
 | [x]=>simp only[oN,List.cons_append,List.nil_append,d8,hb,h];decide
 |x::y::l=>
  have:=aLC (y::l) (r:=([],.sg 93)::r) (by simp only[d8,h];decide);simp only[oN,List.cons_append,List.nil_append,List.append_assoc,d8,hb,this];decide
theorem aEF{u:List Wd}{l:List aJ}(h:GList u l)(b:aJ):GList ((oN b l).map fun x=>x.2.wd) l:=by
 cases h with
 |one w=>exact GList.one w
 |many w ws=>
  cases ws with
  |nil=>exact GList.one w
  |cons y r=>
   have e:∀l:List aJ,(aLB l).map (fun x=>x.2.wd)=l.flatMap (fun x=>[wSg 44,wTx x]):=by
    intro l;induction l with
    |nil=>rfl
    |cons x l ih=>simp only[aLB,List.flatMap_cons,List.map_append]at ih ⊢;rw[ih];rfl
   have:=GList.many w (y::r);rw[←e]at this
   simpa[oN,Tk.wd]using this
theorem bVK:∀(t:Tree) (d:Nat) (f:Bool) (b b':aJ),(ws t d f b).map (fun x=>x.2.wd)=(ws t d f b').map fun x=>x.2.wd:=by
 intro t;induction t with
 |iff bs ih=>intro d f b b';exact ih d true b b'
 |tcons t l ih1 ih2=>
  intro d f b b';cases f
  ·rfl
  simp only[ws,if_true,List.map_append];rw[ih1 d true b b']
 |ccons c l ih1 ih2=>intro d f b b';simp only[ws,List.map_append];rw[ih1 d true (b++indC d) (b'++indC d)]
 |bcons t k l _ _ _=>intro d f b b';cases f <;> rfl
 |act k a p=>
  intro d f b b';simp only[ws];split <;> rfl
 |exi x=>intro d f b b';simp only[ws,List.map_cons]
 |set_ n v tag=>intro d f b b';simp only[ws,List.map_cons]
 |mat tag oct op x y=>intro d f b b';simp only[ws,List.map_cons]
 |_=>intro d f b b';rfl
theorem tG:∀n,(indC n).all jQ=true
 |0=>rfl
 |n+1=>by simp only[indC,List.all_append,tG n];decide
theorem bEK:∀n:Fin 256,mG 65 90 32 (mG 65 90 32 (UInt8.ofNat n.val))=mG 65 90 32 (UInt8.ofNat n.val)∧dO (mG 65 90 32 (UInt8.ofNat n.val))=dO (UInt8.ofNat n.val)∧eL (mG 65 90 32 (UInt8.ofNat n.val))=eL (UInt8.ofNat n.val):=by decide+kernel
theorem aRO(c:UInt8):mG 65 90 32 (mG 65 90 32 c)=mG 65 90 32 c∧dO (mG 65 90 32 c)=dO c∧eL (mG 65 90 32 c)=eL c:=by
 have:=bEK ⟨c.toNat,c.toNat_lt⟩
 simpa only[UInt8.ofNat_toNat]using this
theorem aE1(w:aJ):dG (dG w)=dG w:=by
 unfold dG;rw[List.map_map]
 apply List.map_congr_left
 intro c _;exact(aRO c).1
theorem uQ(w:aJ):named (dG w)=named w:=by
 cases w with
 |nil=>rfl
 |cons c w=>
  unfold named dG;have e:∀l:aJ,(l.map (mG 65 90 32)).all dO=l.all dO:=by
   intro l;induction l with
   |nil=>rfl
   |cons x l ih=>simp only[List.map_cons,List.all_cons,ih,(aRO x).2.1]
  rw[e];simp[(aRO c).2.2]
section
variable{needs:List aJ}
theorem bOV{G:List Wd→Tree→Prop}{l:List Tree}(h:∀t∈l,WT G t)(d:Nat):
  (∀e,rend (ws (tl l) d false []) e=prn (tl l) d false++e)∧(∀r,d8 r=true→jJ r=true→d8 (ws (tl l) d false []++r)=true∧jJ (ws (tl l) d false []++r)=true):=by
 induction l with
 |nil=>exact⟨fun e=>rfl,fun r h1 h2=>⟨h1,h2⟩⟩
 |cons t l ih=>
  obtain⟨i1,i2⟩:=ih fun x hx=>h x (by simp[hx])
  have ht:=h t (by simp);refine⟨fun e=>?_,fun r h1 h2=>?_⟩
  ·simp only[tl,ws,prn,if_neg Bool.false_ne_true,rend,l5,List.cons_append,i1,ht.txt,Tk.body,List.nil_append,List.append_assoc]
  obtain⟨g1,g2⟩:=i2 r h1 h2;have:=ht.gd d [32] _ (by decide) g1 g2;refine⟨?_,by simp only[tl,ws,if_neg Bool.false_ne_true,List.cons_append,jJ]⟩
  simp only[tl,ws,if_neg Bool.false_ne_true,List.cons_append,d8,List.append_assoc,this]
  decide
theorem aVR{G:List Wd→Tree→Prop}{t:Tree}{l:List Tree}(ht:WT G t)(h:∀t∈l,WT G t)(d:Nat):
  (∀e,rend (ws (tl (t::l)) d true []) e=prn (tl (t::l)) d true++e)∧(∀r,d8 r=true→jJ r=true→d8 (ws (tl (t::l)) d true []++r)=true):=by
 obtain⟨i1,i2⟩:=bOV h d;refine⟨fun e=>?_,fun r h1 h2=>?_⟩
 ·simp only[tl,ws,prn,if_true,l5,i1,ht.txt,List.nil_append,List.append_assoc]
 obtain⟨g1,g2⟩:=i2 r h1 h2;have:=ht.gd d [] _ (by decide) g1 g2
 simpa only[tl,ws,if_true,List.append_assoc]using this
theorem bP0{G:List Wd→Tree→Prop}(d:Nat):∀(us:List (List Wd×Tree)),(ws (tl (us.map (·.2))) d false []).map (fun x=>x.2.wd)=(us.map fun p=>((ws p.2 d true [32]).map (fun x=>x.2.wd),p.2)).flatMap fun p=>wSg 44::p.1
 | []=>rfl
 |p::us=>by
  have:=bP0 (G:=G) d us;simp only[List.map_cons,tl,ws,if_neg Bool.false_ne_true,List.flatMap_cons,List.map_append,this,List.cons_append]
  rfl
theorem bOS(tag:Int)(oct:Bool)(ht:tag=0∨tag=1∨tag=2∨tag=3):∃tag':Int,GTags ⟨false,0,false⟩ (((if oct=true then [([32],Tk.tg lJ),([32],.tx gY)]else [])++(if tag=2 then [(([32]:aJ),Tk.tg nT)]else if tag=3 then [([32],.tg lB)]else []):List (aJ×Tk)).map fun x=>x.2.wd) ⟨oct,tag',oct⟩∧(if 1>tag' then 1 else tag')=if 1>tag then 1 else tag:=by
 have h2:∀c o,GTags ⟨c,0,o⟩ [wTg nT] ⟨c,2,o⟩:=fun c o=>GTags.tag ⟨c,0,o⟩ _ nT 1 [] rfl (by decide) (by decide) (GTags.nil _)
 have h3:∀c o,GTags ⟨c,0,o⟩ [wTg lB] ⟨c,3,o⟩:=fun c o=>GTags.tag ⟨c,0,o⟩ _ lB 2 [] rfl (by decide) (by decide) (GTags.nil _)
 have hr:∃tag':Int,(∀c o,GTags ⟨c,0,o⟩ ((if tag=2 then [(([32]:aJ),Tk.tg nT)]else if tag=3 then [([32],.tg lB)]else []:List (aJ×Tk)).map fun x=>x.2.wd) ⟨c,tag',o⟩)∧(if 1>tag' then 1 else tag')=if 1>tag then 1 else tag:=by
  rcases ht with rfl|rfl|rfl|rfl
  ·exact⟨0,fun c o=>GTags.nil _,rfl⟩
  ·exact⟨0,fun c o=>GTags.nil _,rfl⟩
  ·exact⟨2,fun c o=>h2 c o,rfl⟩
  exact⟨3,fun c o=>h3 c o,rfl⟩
 obtain⟨tag',h,e⟩:=hr;refine⟨tag',?_,e⟩
 cases oct
 ·exact h false false
 exact GTags.cmp ⟨false,0,false⟩ _ gY _ rfl (by decide) (h true true)
theorem bOR{h h':How}{u:List Wd}(g:GTags h u h')(h0:0≤h.tag∧h.tag≤3):0≤h'.tag∧h'.tag≤3:=by
 induction g with
 |nil h=>exact h0
 |tag h h' x i u ht hi hx _ ih=>exact ih (by simp only[];omega)
 |cmp h h' x u hc hx _ ih=>exact ih h0
theorem aC5{n:Nat}{u:List Wd}{t:Tree}(h:GTest needs n u t):WT (GTest needs n) t:=by
 induction h with
 |tru n=>exact⟨fun d b e=>by simp only[ws,rend,prn,Tk.body,if_true];rfl,fun d b r hb hg hc=>by simp only[ws,List.cons_append,List.nil_append,d8,hb,hg,hc];decide,fun d b c r=>rfl,fun d b=>GTest.tru n⟩
 |fls n=>exact⟨fun d b e=>by simp only[ws,rend,prn,Tk.body,if_true];rfl,fun d b r hb hg hc=>by simp only[ws,List.cons_append,List.nil_append,d8,hb,hg,hc];decide,fun d b c r=>rfl,fun d b=>GTest.fls n⟩
 |not_ n u t _ ih=>
  refine⟨fun d b e=>?_,fun d b r hb hg hc=>?_,fun d b c r=>rfl,fun d b=>GTest.not_ n _ t (ih.gr d [32])⟩
  ·simp only[ws,rend,prn,Tk.body,ih.txt,List.append_assoc];rfl
  have h1:=ih.gd d [32] r (by decide) hg hc;have h2:=ih.cl d [] 32 r;simp only[ws,List.cons_append,d8,hb,h1,h2];decide
 |many n all u t us _ _ ih1 ih2=>
  have hl:∀x∈us.map (·.2),WT (GTest needs n) x:=by
   intro x hx;obtain⟨p,hp,rfl⟩:=List.mem_map.1 hx;exact ih2 p hp
  have e:us.foldl (fun l p=>l.snocT p.2) (.tcons t .tnil)=tl (t::us.map (·.2)):=bHQ us [t];rw[e];refine⟨fun d b e=>?_,fun d b r hb hg hc=>?_,fun d b c r=>rfl,fun d b=>?_⟩
  ·have:=(aVR ih1 hl d).1 ([41]++e);simp only[ws,rend,prn,Tk.body,l5,List.nil_append,List.append_assoc,this];cases all <;> rfl
  ·have:=(aVR ih1 hl d).2 (([],.sg 41)::r) (by simp only[d8,hg];decide) rfl;simp only[ws,List.cons_append,List.nil_append,List.append_assoc,d8,hb,this,aAV];cases all <;> decide
  have := GTest.many n all _ t (us.map fun p => ((ws p.2 d true [32]).map (fun x => x.2.wd), p.2)) (ih1.gr d []) (fun p hp => by
   obtain⟨q,hq,rfl⟩:=List.mem_map.1 hp;exact(ih2 q hq).gr d [32])
  have e2:(us.map fun p=>((ws p.2 d true [32]).map (fun x=>x.2.wd),p.2)).foldl (fun l p=>l.snocT p.2) (.tcons t .tnil)=tl (t::us.map (·.2)):=by
   have:=bHQ (us.map fun p=>((ws p.2 d true [32]).map (fun x=>x.2.wd),p.2)) [t];rw[List.map_map]at this;exact this
  rw[e2,←bP0 (G:=GTest needs n)]at this;simp only[ws,tl,if_true,List.map_cons,List.map_append,List.map_nil];have e3:dG nC=nC:=by decide
  have e4:dG nD=nD:=by decide
  cases all <;> simpa[Tk.wd,e3,e4,tl]using this
 |mat n word op ext u v w h a b hm hx hg ga fa gb=>
  have ht:=bOR hg ⟨by decide,by decide⟩;have hk:(if 1>h.tag then 1 else h.tag)=1∨(if 1>h.tag then 1 else h.tag)=2∨(if 1>h.tag then 1 else h.tag)=(3:Int):=by split <;> omega
  have hop:rV op=word∧aHS (rV op)=true∧dG (rV op)=rV op∧(op=6∨op=7∨op=8):=by
   simp only[List.mem_cons,Prod.mk.injEq,List.not_mem_nil,or_false]at hm;rcases hm with ⟨rfl,rfl,rfl⟩|⟨rfl,rfl,rfl⟩|⟨rfl,rfl,rfl⟩ <;> exact⟨by decide,by decide,by decide,by decide⟩
  generalize (if 1>h.tag then 1 else h.tag)=tag at hk
  generalize h.oct=oct
  refine⟨fun d b' e=>?_,fun d b' r hb hgr hc=>?_,fun d b' c r=>rfl,fun d b'=>?_⟩
  ·simp only[ws,rend,prn,Tk.body,l5,aCO,List.append_assoc]
   congr 2
   rcases hk with rfl|rfl|rfl <;> cases oct <;> simp[rend,Tk.body,aBC,aBK,lJ,gY,nT,lB,esc]
  ·have h1:=xF (b:=[32]) a (r:=oN [32] b++r) (by decide) (xF b (by decide) hgr);have h2:jJ (oN [32] a++(oN [32] b++r))=true:=by
    match a with
    | []=>rfl
    | [_]=>rfl
    |_::_::_=>rfl
   simp only[ws,List.cons_append,List.append_assoc,d8,hb,hop.2.1];rcases hk with rfl|rfl|rfl <;> cases oct <;> simp[d8,h1,h2,aAV] <;> decide
  obtain⟨tag',g,e⟩:=bOS tag oct aI;have:=GTest.mat n word op ext _ _ _ _ a b hm hx g (aEF ga [32]) fa (aEF gb [32]);simp only[e]at this;have et:(if 1>tag then 1 else tag)=tag:=by split <;> omega
  rw[et]at this;have hs:dG word=word:=by rw[←hop.1];exact hop.2.2.1
  simp only[ws,List.map_cons,List.map_append,Tk.wd,hop.1,hs]at this ⊢
  simpa only[List.append_assoc]using this
 |exi n v a ga=>
  refine⟨fun d b' e=>?_,fun d b' r hb hgr hc=>?_,fun d b' c r=>rfl,fun d b'=>GTest.exi n _ a (aEF ga [32])⟩
  ·simp only[ws,rend,prn,Tk.body,aCO,List.append_assoc];rfl
  have h1:=xF (b:=[32]) a (r:=r) (by decide) hgr;have h2:jJ (oN [32] a++r)=true:=by
   match a with
   | []=>rfl
   | [_]=>rfl
   |_::_::_=>rfl
  simp only[ws,List.cons_append,d8,hb,h1,h2];decide
 |siz n x k hx hk=>
  have e:((k.toNat:Nat):Int)=k:=Int.toNat_of_nonneg hk.1;have hx:x=uF∨x=mQ:=by simpa using hx
  refine⟨fun d b' e=>?_,fun d b' r hb hgr hc=>?_,fun d b' c r=>rfl,fun d b'=>?_⟩
  ·have e2:Lib.decDigits k.toNat=Lib.itoa k:=by rw[Lib.itoa,if_neg aI]
   rcases hx with rfl|rfl <;> simp[ws,rend,prn,Tk.body,e2,vW,xY,mQ,uF]
  ·have:k.toNat≤2147483647:=by omega
   rcases hx with rfl|rfl <;> simp[ws,d8,hb,hgr,hc,this,aAV] <;> decide
  have:=GTest.siz (needs:=needs) n x k gBE hk;have e3:dG xY=xY:=by decide
  have e4:dG uF=uF:=by decide
  have e5:dG mQ=mQ:=by decide
  have e6:¬uF=mQ:=by decide
  rcases hx with rfl|rfl <;> simpa[ws,Tk.wd,e,e3,e4,e5,e6]using this
theorem bA6{G:List Wd→Tree→Prop}(h:G [] .cnil):WB G .cnil:=
 ⟨fun d b e hb=>by rcases hb with rfl|hb;rfl;exact absurd rfl hb,fun d b r _ h _=>h,fun d c b r h=>h,fun d b=>h⟩
theorem aDM{G:List Wd→Tree→Prop}:∀ {l:List Tree},(∀t∈l,WT G t)→∀d b,
  (∀e,b=[10]∨l≠[]→rend (ws (cl l) d true b) (10::e)=b++(prn (cl l) d true++e))∧
  (∀r,b.all jQ=true→d8 r=true→jJ r=true→d8 (ws (cl l) d true b++r)=true)∧
  (∀r,b≠[]→jJ r=true→jJ (ws (cl l) d true b++r)=true)
 | [],h,d,b=>⟨fun e hb=>by rcases hb with rfl|hb;rfl;exact absurd rfl hb,fun r _ h _=>h,fun r _ h=>h⟩
 |t::l,h,d,b=>by
  obtain⟨i1,i2,i3⟩:=aDM (l:=l) (fun x hx=>h x (by simp[hx])) d [10];have ht:=h t (by simp);refine⟨fun e _=>?_,fun r hb h1 h2=>?_,fun r hb h2=>?_⟩
  ·simp only[cl,ws,prn,l5,i1 e (.inl rfl),ht.txt,List.append_assoc]
  ·have:=ht.gd d (b++indC d) _ (by rw[List.all_append,hb,tG];rfl) (i2 r (by decide) h1 h2) (i3 r (by simp) h2)
   simpa only[cl,ws,List.append_assoc]using this
  obtain⟨c,b,rfl⟩:∃c b',b=c::b':=by cases b with|nil=>exact absurd rfl hb|cons c b=>exact⟨c,b,rfl⟩
  have:=ht.cl d (b++indC d) c (ws (cl l) d true [10]++r)
  simpa only[cl,ws,List.append_assoc,List.cons_append]using this
theorem bPG(d:Nat):∀(us:List (List Wd×Tree)) (b:aJ),(ws (cl (us.map (·.2))) d true b).map (fun x=>x.2.wd)=(us.map fun p=>((ws p.2 d true []).map (fun x=>x.2.wd),p.2)).flatMap fun p=>p.1
 | [],b=>rfl
 |p::us,b=>by
  have:=bPG d us [10];simp only[List.map_cons,cl,ws,List.flatMap_cons,List.map_append,this,bVK p.2 d true (b++indC d) []]
theorem aPC{n:Nat}{B:List Wd→Tree→Prop}{els:Option (List Wd×Tree)}(he:∀p,els=some p→WB B p.2)(d:Nat):∀ {l:List (Tree×Tree)},(∀p∈l,WT (GTest needs n) p.1∧WB B p.2)→
  (∀e,rend (ws (bl l (els.map (·.2))) d false []) e=prn (bl l (els.map (·.2))) d false++e)∧(∀r,d8 r=true→jJ r=true→d8 (ws (bl l (els.map (·.2))) d false []++r)=true∧jJ (ws (bl l (els.map (·.2))) d false []++r)=true)
 | [],h=>by
  cases els with
  |none=>exact⟨fun e=>rfl,fun r h1 h2=>⟨h1,h2⟩⟩
  |some p=>
   have hb:=he p rfl;refine⟨fun e=>?_,fun r h1 h2=>?_⟩
   ·have:=hb.txt (d+1) [10] (indC d++([125]++e)) (.inl rfl);simp only[Option.map_some,bl,ws,rend,l5,prn,Tk.body,List.nil_append,List.cons_append,List.append_assoc]at this ⊢;rw[this];rfl
   have h3:=hb.gd (d+1) [10] ((10::indC d,.sg 125)::r) (by decide) (by simp only[d8,h1,List.all_cons,tG];decide) rfl;refine⟨?_,rfl⟩
   simp only[Option.map_some,bl,ws,List.nil_append,List.cons_append,List.append_assoc,d8,h3,aAV]
   decide
 |(t,b)::l,h=>by
  obtain⟨i1,i2⟩:=aPC he d (l:=l) fun x hx=>h x (by simp[hx])
  obtain⟨ht,hb⟩:=h (t,b) (by simp);refine⟨fun e=>?_,fun r h1 h2=>?_⟩
  ·have:=hb.txt (d+1) [10] (indC d++([125]++(prn (bl l (els.map (·.2))) d false++e))) (.inl rfl);simp only[bl,ws,if_neg Bool.false_ne_true,rend,l5,prn,Tk.body,List.nil_append,List.cons_append,List.append_assoc,ht.txt,i1]at this ⊢;rw[this];rfl
  obtain⟨g1,g2⟩:=i2 r h1 h2;have h3:=hb.gd (d+1) [10] ((10::indC d,.sg 125)::(ws (bl l (els.map (·.2))) d false []++r)) (by decide) (by simp only[d8,g1,List.all_cons,tG];decide) rfl;have h4:=ht.gd d [32] (([32],.sg 123)::(ws b (d+1) true [10]++((10::indC d,.sg 125)::(ws (bl l (els.map (·.2))) d false []++r)))) (by decide) (by simp only[d8,h3];decide) rfl;have h5:=ht.cl d [] 32 (([32],.sg 123)::(ws b (d+1) true [10]++((10::indC d,.sg 125)::(ws (bl l (els.map (·.2))) d false []++r))));refine⟨?_,by simp only[bl,ws,if_neg Bool.false_ne_true,List.cons_append,aAV]⟩
  simp only[bl,ws,if_neg Bool.false_ne_true,List.nil_append,List.cons_append,List.append_assoc,d8,h4,h5]
  decide
def aTU(d:Nat)(p:Br):Br:=⟨(ws p.t d true [32]).map fun x=>x.2.wd,p.t,(ws p.b (d+1) true [10]).map fun x=>x.2.wd,p.b⟩
def aZ9(d:Nat)(p:List Wd×Tree):List Wd×Tree:=((ws p.2 (d+1) true [10]).map fun x=>x.2.wd,p.2)
theorem bPE(d:Nat)(els:Option (List Wd×Tree)):∀(brs:List Br),(ws (bl (brs.map fun p=>(p.t,p.b)) (els.map (·.2))) d false []).map (fun x=>x.2.wd)=(brs.map (aTU d)).flatMap Br.words++kQ (els.map (aZ9 d))
 | []=>by
  cases els with
  |none=>rfl
  |some p=>
   have e1:dG mC=mC:=by decide
   simp[bl,ws,kQ,aZ9,Tk.wd,e1]
 |p::brs=>by
  have:=bPE d els brs;have e1:dG nE=nE:=by decide
  rw[List.map_cons,List.map_cons,List.flatMap_cons,List.append_assoc,←this];simp only[bl,ws,if_neg Bool.false_ne_true,List.map_cons,List.map_append,Br.words,aTU,Tk.wd,e1,List.cons_append,List.append_assoc,List.nil_append]
theorem aM5{n:Nat}{B:List Wd→Tree→Prop}(hB:∀u t,B u t→WB B t){u:List Wd}{t:Tree}(h:GCmd needs n B u t):WT (GCmd needs n B) t:=by
 cases h with
 |simple word c h=>
  have hw:WT (GCmd needs n B) t↔WT (GCmd needs n B) t:=Iff.rfl;have key:∀op:Int,op=13∨op=14→GCmd needs n B [wNm (if op=14 then mP else kS),wSg 59] (.plain op)→WT (GCmd needs n B) (.plain op):=by
   intro op ho hg;refine⟨fun d b e=>?_,fun d b r hb h1 h2=>?_,fun d b c r=>rfl,fun d b=>?_⟩
   ·rcases ho with rfl|rfl <;> simp[ws,rend,prn,Tk.body,mP,kS]
   ·rcases ho with rfl|rfl <;> simp[ws,d8,hb,h1,jJ] <;> decide
   have e3:dG (if op=14 then mP else kS)=if op=14 then mP else kS:=by rcases ho with rfl|rfl <;> decide
   simpa only[ws,List.map_cons,List.map_nil,Tk.wd,e3]using hg
  rcases h with ⟨rfl,rfl⟩|⟨rfl,rfl⟩|⟨rfl,rfl⟩
  ·refine⟨fun d b e=>?_,fun d b r hb h1 h2=>?_,fun d b c r=>rfl,fun d b=>GCmd.simple vG _ (.inl ⟨rfl,rfl⟩)⟩
   ·simp[ws,rend,prn,Tk.body,vG]
   simp[ws,d8,hb,h1,jJ];decide
  ·exact key 13 (.inl rfl) (GCmd.simple kS _ (.inr (.inl ⟨rfl,rfl⟩)))
  exact key 14 (.inr rfl) (GCmd.simple mP _ (.inr (.inr ⟨rfl,rfl⟩)))
 |act word kind ext arg h hx=>
  have hk:(if kind=2 then fG else if kind=3 then nU else eW)=word∧aHS word=true∧dG word=word∧(kind=2∨kind=3∨kind=4):=by
   rcases h with ⟨rfl,rfl,_⟩|⟨rfl,rfl,_⟩|⟨rfl,rfl,_⟩ <;> exact⟨by decide,by decide,by decide,by decide⟩
  have h1k:¬kind=1:=by omega
  refine⟨fun d b e=>?_,fun d b r hb h1 h2=>?_,fun d b c r=>?_,fun d b=>?_⟩
  ·simp only[ws,if_neg h1k,rend,xL,bAJ,prn];rcases hk.2.2.2 with rfl|rfl|rfl <;> simp[Tk.body,uJ,fG,nU,eW]
  ·simp only[ws,if_neg h1k,List.cons_append,List.nil_append,d8,hb,h1,hk.1,hk.2.1,aAV];decide
  ·simp only[ws,if_neg h1k];rfl
  have:=GCmd.act (needs:=needs) (n:=n) (B:=B) word kind ext arg h hx
  simpa only[ws,if_neg h1k,List.map_cons,List.map_nil,Tk.wd,hk.1,hk.2.2.1]using this
 |set0 name value hv hn=>
  refine⟨fun d b e=>?_,fun d b r hb h1 h2=>?_,fun d b c r=>rfl,fun d b=>?_⟩
  ·simp[ws,rend,prn,Tk.body,aH6,xO,iI,aA0]
  ·simp[ws,d8,hb,h1,jJ];decide
  have:=GCmd.set0 (needs:=needs) (n:=n) (B:=B) (dG name) value hv (by rw[uQ];exact hn);rw[aE1]at this;exact this
 |set1 x name value i hv hn hi hx=>
  have hi:i=0∨i=1∨i=2:=by omega
  refine⟨fun d b e=>?_,fun d b r hb h1 h2=>?_,fun d b c r=>rfl,fun d b=>?_⟩
  ·rcases hi with rfl|rfl|rfl <;> simp[ws,rend,prn,Tk.body,aH6,xO,iI,aA0,mO,mR,kV]
  ·rcases hi with rfl|rfl|rfl <;> simp[ws,d8,hb,h1,jJ] <;> decide
  have h0:=GCmd.set1 (needs:=needs) (n:=n) (B:=B) mO (dG name) value 0 hv (by rw[uQ];exact hn) (by decide) (by decide);have h1:=GCmd.set1 (needs:=needs) (n:=n) (B:=B) mR (dG name) value 1 hv (by rw[uQ];exact hn) (by decide) (by decide);have h2:=GCmd.set1 (needs:=needs) (n:=n) (B:=B) kV (dG name) value 2 hv (by rw[uQ];exact hn) (by decide) (by decide);rw[aE1]at h0 h1 h2;rcases hi with rfl|rfl|rfl
  ·exact h0
  ·exact h1
  exact h2
 |iff ut t ub b brs els ht hb hbr hel=>
  have wt:=aC5 ht;have wb:=hB _ _ hb;have e:brs.foldl (fun l p=>l.snocB (some p.t) p.b) (.bcons t b .bnil)=bl ((t,b)::brs.map fun p=>(p.t,p.b)) none:=bHP brs [(t,b)];rw[e,aPO];have hr:∀p∈brs.map (fun p=>(p.t,p.b)),WT (GTest needs n) p.1∧WB B p.2:=by
   intro x hx;obtain⟨p,hp,rfl⟩:=List.mem_map.1 hx;exact⟨aC5 (hbr p hp).1,hB _ _ (hbr p hp).2⟩
  have he:∀p,els=some p→WB B p.2:=fun p hp=>hB _ _ (hel p hp)
  refine⟨fun d b' e=>?_,fun d b' r hb' h1 h2=>?_,fun d b c r=>rfl,fun d b'=>?_⟩
  ·have i1:=(aPC he d hr).1;have:=wb.txt (d+1) [10] (indC d++([125]++(prn (bl (brs.map fun p=>(p.t,p.b)) (els.map (·.2))) d false++e))) (.inl rfl);simp only[bl,ws,if_true,rend,l5,prn,Tk.body,List.nil_append,List.cons_append,List.append_assoc,wt.txt,i1]at this ⊢;rw[this];rfl
  ·obtain⟨g1,g2⟩:=(aPC he d hr).2 r h1 h2;have h3:=wb.gd (d+1) [10] ((10::indC d,.sg 125)::(ws (bl (brs.map fun p=>(p.t,p.b)) (els.map (·.2))) d false []++r)) (by decide) (by simp only[d8,g1,List.all_cons,tG];decide) rfl;have h4:=wt.gd d [32] (([32],.sg 123)::(ws b (d+1) true [10]++((10::indC d,.sg 125)::(ws (bl (brs.map fun p=>(p.t,p.b)) (els.map (·.2))) d false []++r)))) (by decide) (by simp only[d8,h3];decide) rfl;have h5:=wt.cl d [] 32 (([32],.sg 123)::(ws b (d+1) true [10]++((10::indC d,.sg 125)::(ws (bl (brs.map fun p=>(p.t,p.b)) (els.map (·.2))) d false []++r))));simp only[bl,ws,if_true,List.nil_append,List.cons_append,List.append_assoc,d8,h4,h5,hb']
   decide
  have := GCmd.iff (needs := needs) (n := n) (B := B) _ t _ b (brs.map (aTU d)) (els.map (aZ9 d)) (wt.gr d [32]) (wb.gr (d + 1) [10]) (fun p hp => by
   obtain ⟨q, hq, rfl⟩ := List.mem_map.1 hp;exact ⟨(aC5 (hbr q hq).1).gr d [32], (hB _ _ (hbr q hq).2).gr (d + 1) [10]⟩) (fun p hp => by
   obtain⟨q,hq,rfl⟩:=Option.map_eq_some_iff.1 hp;exact(hB _ _ (hel q hq)).gr (d+1) [10])
  have e2:(brs.map (aTU d)).foldl (fun l p=>l.snocB (some p.t) p.b) (.bcons t b .bnil)=bl ((t,b)::brs.map fun p=>(p.t,p.b)) none:=by
   have:=bHP (brs.map (aTU d)) [(t,b)];rw[List.map_map]at this;exact this
  have e3:(els.map (aZ9 d)).map (·.2)=els.map (·.2):=by cases els <;> rfl
  rw[e2,aPO,e3,←bPE]at this;have e1:dG txIf=txIf:=by decide
  simpa only[bl,ws,if_true,List.map_cons,List.map_append,Tk.wd,e1,List.cons_append,List.append_assoc,List.nil_append]using this
theorem yS:∀(n:Nat) (u:List Wd) (t:Tree),fZ needs n u t→WB (fZ needs n) t
 |0,u,t,h=>by obtain⟨_,rfl⟩:=h;exact bA6 ⟨rfl,rfl⟩
 |n+1,u,t,⟨cs,hc,_,e⟩=>by
  have e:t=cl (cs.map (·.2)):=by rw[e];exact aZW cs []
  have hw:∀x∈cs.map (·.2),WT (GCmd needs n (fZ needs n)) x:=by
   intro x hx;obtain⟨p,hp,rfl⟩:=List.mem_map.1 hx;exact aM5 (yS n) (hc p hp)
  subst e;refine⟨fun d b e hb=>(aDM hw d b).1 e (hb.imp id fun h1 h2=>h1 (by rw[h2];rfl)),fun d b r h1 h2 h3=>(aDM hw d b).2.1 r h1 h2 h3,fun d c b r h=>(aDM hw d (c::b)).2.2 r (by simp) h,fun d b=>?_⟩
  refine⟨cs.map fun p=>((ws p.2 d true []).map (fun x=>x.2.wd),p.2),fun p hp=>?_,bPG d cs b,?_⟩
  ·obtain⟨q,hq,rfl⟩:=List.mem_map.1 hp;exact(aM5 (yS n) (hc q hq)).gr d []
  have:=aZW (cs.map fun p=>((ws p.2 d true []).map (fun x=>x.2.wd),p.2)) [];rw[List.map_map]at this;exact this.symm
end
theorem aR1:∀(l ns:List aJ),(ns++l).Nodup→gL ns l=ns++l
 | [],ns,_=>by simp[gL]
 |x::l,ns,h=>by
  have hx:x∉ns:=fun hx=>by
   rw[List.nodup_append]at h;exact h.2.2 x hx x (by simp) rfl
  have e:gL ns (x::l)=gL (ns++[x]) l:=by
   show gL (addN ns x) l=_
   unfold addN;rw[if_neg hx]
  rw[e,aR1 l (ns++[x]) gBZ];simp
theorem aYS{s:aJ}{r:List aJ×Tree}(h:eD s=.ok r):∃t',eD (mF r)=.ok (r.1,t')∧dJ t'=dJ r.2:=by
 obtain⟨st,st',u,v,_,g1,g2,_,_⟩:=vQ h;obtain⟨n1,n2⟩:=aZX g1 (by simp) (by simp);have wb:=yS 7 _ _ g2;have hp:prn r.2 0 true=prn (dJ r.2) 0 true:=(aN5 _ _ _).symm
 by_cases hn:r.1=[]
 ·have gd:d8 (ws (dJ r.2) 0 true [])=true:=by
   have:=wb.gd 0 [] [] (by decide) (by decide) (by decide)
   simpa using this
  have hv:=aCF (wb.gr 0 [])
  by_cases ht:dJ r.2=.cnil
  ·have e:mF r=[]:=by unfold mF;rw[if_pos hn,hp,ht];rfl
   have:=xJ (s:=[]) (e:=[]) (ts:=[]) (us:=ws (dJ r.2) 0 true []) (ns:=r.1) (t:=dJ r.2) (by simp) (by simpa using gd) (by rw[ht];rfl) (by rw[hn];exact GReq.nil []) (wb.gr 0 []) hv;rw[e];exact this
  have e:mF r=rend (ws (dJ r.2) 0 true []) [10]:=by
   have:=wb.txt 0 [] [] (.inr ht);unfold mF;rw[if_pos hn,hp,this];simp
  exact xJ (e:=[10]) (ts:=[]) (us:=ws (dJ r.2) 0 true []) (by decide) (by simpa using gd) e (by rw[hn];exact GReq.nil []) (wb.gr 0 []) hv
 have gl:∃u,GList u r.1:=by
  cases h:r.1 with
  |nil=>exact absurd h hn
  |cons w ws=>exact⟨_,GList.many w ws⟩
 obtain⟨w,gl⟩:=gl;have e3:dG dY=dY:=by decide
 have gr:GReq [] ((([],Tk.nm dY)::(oN [32] r.1++[([],.sg 59)])).map fun x=>x.2.wd) r.1:=by
  have h0:gL [] r.1=r.1:=aR1 r.1 [] (by simpa using n2);have:=GReq.cons [] r.1 _ [] r.1 (aEF gl [32]) n1 (by rw[h0];exact GReq.nil r.1)
  simpa only[List.map_cons,List.map_append,List.map_nil,Tk.wd,e3]using this
 have gd:d8 ((([],Tk.nm dY)::(oN [32] r.1++[([],.sg 59)]))++ws (dJ r.2) 0 true [10])=true:=by
  have h1:=wb.gd 0 [10] [] (by decide) (by decide) (by decide);rw[List.append_nil]at h1;have h2:=xF (b:=[32]) r.1 (r:=([],.sg 59)::ws (dJ r.2) 0 true [10]) (by decide) (by simp only[d8,h1];decide);have h3:jJ (oN [32] r.1++(([],.sg 59)::ws (dJ r.2) 0 true [10]))=true:=by
   match r.1 with
   | []=>rfl
   | [_]=>rfl
   |_::_::_=>rfl
  simp only[List.cons_append,List.append_assoc,List.nil_append,d8,h2,h3]
  decide
 have e:mF r=rend ((([],Tk.nm dY)::(oN [32] r.1++[([],.sg 59)]))++ws (dJ r.2) 0 true [10]) [10]:=by
  have:=wb.txt 0 [10] [] (.inl rfl);simp only[l5,rend,this,aCO,Tk.body,List.append_assoc,List.nil_append,List.append_nil];unfold mF;rw[if_neg hn,hp]
  simp[dY]
 exact xJ (e:=[10]) (by decide) gd e gr (wb.gr 0 [10]) (aCF (wb.gr 0 [10]))
end Go.Syn
end
section
namespace Go.Say
open Go.Syn Go.Mach Go.Cmp
theorem bDF{nm:Bool}{m:Msg}{t t':Tree}{c:Co}(h:dJ t=dJ t'):(out (Say.run nm m t c)).1=(out (Say.run nm m t' c)).1∧(te (out (Say.run nm m t c)).2).1=(te (out (Say.run nm m t' c)).2).1:=by
 have h1:=(aGO nm m t c).1;rw[h,(aGO nm m t' c).1]at h1;cases e1:Say.run nm m t c <;> cases e2:Say.run nm m t' c <;> rw[e1,e2]at h1 <;> simp only[forget]at h1
 ·injection h1 with h1;simp only[out,te];exact⟨trivial,(congrArg Prod.fst h1).symm⟩
 ·cases h1
 ·cases h1
 injection h1 with h1;rw[h1];exact⟨rfl,rfl⟩
theorem same_law{s:aJ}{r:List aJ×Tree}(m:Msg)(h:eD s=.ok r)(hs:s.length≤600)(ht:(mF r).length≤600):rn (mF r) m=((sayC r m).acts,(te (sayC r m).err).1,true):=by
 obtain⟨t',h1,h2⟩:=aYS h;have h3:=aYG (m:=m) h hs;have h4:=aYG (m:=m) h1 ht;have h5:=bDF (nm:=decide (dB∈r.1)) (m:=m) (c:=start) h2;unfold rn;rw[if_neg aI,h1];simp only[h4,h3];rw[h5.1,h5.2]
end Go.Say
end

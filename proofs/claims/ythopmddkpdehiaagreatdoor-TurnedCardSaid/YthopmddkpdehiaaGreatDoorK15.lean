/-
  What the proof stands on, part 15: the logic of walks, the walks through the functions, the plain laws. Conditions: as each theorem says. (Merged and shortened by a program.)
-/
import Derived.Test.YthopmddkpdehiaaGreatDoorK13
import Derived.Test.YthopmddkpdehiaaGreatDoorK14
set_option linter.unusedVariables false
set_option linter.unusedSimpArgs false
set_option maxRecDepth 4000
set_option maxHeartbeats 1000000
namespace Go
theorem gB6{p:Prop}(h:p:=by simpa using hf):p:=h
end Go
section
namespace Go.Syn
section
variable{s t b w:aJ}{a:Nat}{c:UInt8}
theorem gC(h:s.drop a=c::t):s[a]?=some c∧a < s.length∧s.drop (a+1)=t:=by
 have h1:(s.drop a)[0]?=some c:=by rw[h];rfl
 rw[List.getElem?_drop,Nat.add_zero]at h1;refine⟨h1,?_,?_⟩
 ·rcases Nat.lt_or_ge a s.length with h'|h'
  ·exact h'
  rw[List.getElem?_eq_none h']at h1;cases h1
 rw[←List.drop_drop,h];rfl
theorem jK(h:s.drop a=b++t):s.drop (a+b.length)=t:=by
 rw[←List.drop_drop,h,List.drop_left]
theorem rH(h:s.drop a=t)(h0:t≠[]):s.length=a+t.length:=by
 have:=congrArg List.length h;rw[List.length_drop]at this;have:0 < t.length:=List.length_pos_iff.2 h0;omega
def jQ(c:UInt8):Bool:=decide (c.toNat=32∨c.toNat=9∨c.toNat=13∨c.toNat=10)
def s8(c:UInt8):Bool:=decide (¬(c.toNat=32∨c.toNat=9∨c.toNat=13∨c.toNat=10∨c.toNat=35∨c.toNat=47))
theorem aGI(h:s.drop a=c::t)(hc:s8 c=true):skip s a=.ok a:=by
 obtain⟨h1,h2,_⟩:=gC h;unfold skip;rw[show s.length+1 - a=(s.length - a)+1 from by omega];exact pN h1 (by simpa[s8]using hc)
theorem xR(h:s.drop a=c::t)(hc:jQ c=true):skip s a=skip s (a+1):=by
 obtain⟨h1,h2,_⟩:=gC h;unfold skip;rw[show s.length+1 - a=(s.length+1 - (a+1))+1 from by omega];exact nN h1 (by simpa[jQ]using hc)
theorem zY:∀ {b:aJ} {a:Nat},s.drop a=b++t→(∀c∈b,jQ c=true)→skip s a=skip s (a+b.length)
 | [],a,h,_=>rfl
 |c::b,a,h,hb=>by
  rw[xR h (hb c (by simp)),zY (b:=b) (gC h).2.2 (fun c hc=>hb c (by simp[hc]))]
  congr 1;simp;omega
theorem bKF(h:s.length≤a):skip s a=.ok a:=by
 unfold skip;rcases Nat.lt_or_ge s.length a with h'|h'
 ·rw[show s.length+1 - a=0 from by omega];rfl
 rw[show s.length+1 - a=0+1 from by omega];exact sO h
theorem tT(h:s.drop a=b++c::t)(hb:∀c∈b,jQ c=true)(hc:s8 c=true):next s a=mT s (a+b.length) c:=by
 have h2:=jK h;unfold next;rw[zY h hb,aGI h2 hc];simp only[(gC h2).1]
theorem aEK(h:s.drop a=b)(hb:∀c∈b,jQ c=true)(ha:a≤s.length):next s a=.ok (s.length,⟨0,[],0,s.length⟩):=by
 have hl:a+b.length=s.length:=by have:=congrArg List.length h;rw[List.length_drop]at this;omega
 unfold next;rw[zY (t:=[]) (by rw[h,List.append_nil]) hb,hl,bKF (Nat.le_refl _)];simp
theorem rD{p:UInt8→Bool}:∀ {w t:aJ},(∀c∈w,p c=true)→(∀c,t.head?=some c→p c=false)→(w++t).takeWhile p=w
 | [],t,_,ht=>by
  cases t with
  |nil=>rfl
  |cons c t=>rw[List.nil_append,List.takeWhile_cons,ht c rfl];rfl
 |c::w,t,hw,ht=>by
  rw[List.cons_append,List.takeWhile_cons,hw c (by simp),rD (fun x hx=>hw x (by simp[hx])) ht];rfl
theorem rW{wat:Int}:∀ {w:aJ} {a f:Nat} {acc:aJ},s.drop a=esc w++34::t→w.length < f→iO s wat f a acc=.ok (a+(esc w).length+1,acc++w)
 | [],a,f,acc,h,hf=>by
  obtain⟨f,rfl⟩:∃g,f=g+1:=⟨f - 1,by omega⟩;obtain⟨h1,h2,_⟩:=gC (show s.drop a=34::t from h);rw[uS h2 (by rw[h1];rfl)];simp[esc]
 |c::w,a,f,acc,h,hf=>by
  obtain⟨f,rfl⟩:∃g,f=g+1:=⟨f - 1,by omega⟩;have hf':w.length < f:=by simpa using hf
  by_cases hc:c.toNat=34∨c.toNat=92
  ·have e:esc (c::w)=92::c::esc w:=by unfold esc;rw[List.flatMap_cons,if_pos hc];rfl
   rw[e]at h ⊢;obtain⟨h1,h2,h3⟩:=gC (show s.drop a=92::(c::esc w++34::t)from h);obtain⟨h4,h5,h6⟩:=gC (show s.drop (a+1)=c::(esc w++34::t)from h3);rw[pL (fun h0=>absurd h0.2 (by rw[h1];decide)) (by rw[h1];rfl) aI,h4,rW (w:=w) (a:=a+2) (by rw[show a+2=a+1+1 from rfl,h6]) hf'];simp;omega
  have e:esc (c::w)=c::esc w:=by unfold esc;rw[List.flatMap_cons,if_neg hc];rfl
  rw[e]at h ⊢;obtain⟨h1,h2,h3⟩:=gC (show s.drop a=c::(esc w++34::t)from h);rw[n5 (by rw[h1];simp only[Option.getD_some];omega) (by rw[h1];simp only[Option.getD_some];omega) aI,h1,rW (w:=w) (a:=a+1) h3 hf'];simp;omega
end
def Tk.word:Tk→Nat→Word
 | .sg c,a=>⟨5,[c],0,a⟩
 | .nm w,a=>⟨1,dG w,0,a⟩
 | .tg w,a=>⟨2,dG w,0,a⟩
 | .tx w,a=>⟨3,w,0,a⟩
 | .nu n,a=>⟨4,[],n,a⟩
def aHS:aJ→Bool
 | []=>false
 |c::w=>jE c&&w.all dO
def Tk.good:Tk→Bool
 | .sg c=>fO c
 | .nm w=>aHS w
 | .tg w=>aHS w
 | .tx _=>true
 | .nu n=>decide (n≤2147483647)
theorem aYJ{c:UInt8}(h:fO c=true):s8 c=true:=by
 unfold fO at h;unfold s8;simp at h ⊢;omega
def aKJ(c:UInt8):Bool:=!jE c||(s8 c&&(!fO c&&(decide (c.toNat≠34)&&decide (c.toNat≠58))))
theorem aXN:∀n:Fin 256,aKJ (UInt8.ofNat n.val)=true:=by decide+kernel
theorem aQG(c:UInt8)(h:jE c=true):s8 c=true∧fO c=false∧c.toNat≠34∧c.toNat≠58:=by
 have:=aXN ⟨c.toNat,c.toNat_lt⟩;simp only[UInt8.ofNat_toNat]at this;unfold aKJ at this;rw[h]at this
 simpa using this
theorem aZQ:∀w:aJ,w.length≤(esc w).length
 | []=>Nat.le_refl _
 |c::w=>by
  have ih:=aZQ w;unfold esc at ih ⊢;rw[List.flatMap_cons];rw[List.length_append];split <;> simp only[List.length_cons,List.length_nil] <;> omega
theorem aTT{w:aJ}(h:aHS w=true):∃c r,w=c::r∧jE c=true∧∀x∈w,dO x=true:=by
 cases w with
 |nil=>cases h
 |cons c r=>
  simp only[aHS,Bool.and_eq_true,List.all_eq_true]at h;refine⟨c,r,rfl,h.1,fun x hx=>?_⟩
  rcases List.mem_cons.1 hx with rfl|hx
  ·simp[dO,h.1]
  exact h.2 x hx
def aZH(c:UInt8):Bool:=!eL c||(dO c&&(s8 c&&(!fO c&&(!jE c&&(decide (c.toNat≠34)&&decide (c.toNat≠58))))))
theorem bMB:∀n:Fin 256,aZH (UInt8.ofNat n.val)=true:=by decide+kernel
theorem bBJ(c:UInt8)(h:eL c=true):dO c=true∧s8 c=true∧fO c=false∧jE c=false∧c.toNat≠34∧c.toNat≠58:=by
 have:=bMB ⟨c.toNat,c.toNat_lt⟩;simp only[UInt8.ofNat_toNat]at this;unfold aZH at this;rw[h]at this
 simpa using this
theorem aPJ:∀n:Fin 10,eL (UInt8.ofNat (48+n.val))=true∧(UInt8.ofNat (48+n.val)).toNat - 48=n.val:=by decide+kernel
theorem bGQ:∀(n:Nat),∀c∈Lib.decDigits n,eL c=true:=by
 intro n;induction n using Nat.strongRecOn with
 |_ n ih=>
  intro c hc;rw[Lib.decDigits]at hc;split at hc
  ·rename_i h;rw[List.mem_singleton.1 hc];exact(aPJ ⟨n,h⟩).1
  rename_i h;rcases List.mem_append.1 hc with hc|hc
  ·exact ih (n / 10) aI c hc
  rw[List.mem_singleton.1 hc];exact(aPJ ⟨n % 10,by omega⟩).1
theorem bQS:∀(n:Nat),n≤2147483647→mK (Lib.decDigits n)=(n:Int):=by
 intro n;induction n using Nat.strongRecOn with
 |_ n ih=>
  intro hn;rw[Lib.decDigits];split
  ·rename_i h;have:=(aPJ ⟨n,h⟩).2;simp only at this;simp only[mK,List.foldl_cons,List.foldl_nil,aDW];rw[this];rw[if_neg aI];omega
  rename_i h;have h1:=ih (n / 10) aI aI;have:=(aPJ ⟨n % 10,by omega⟩).2;simp only at this;unfold mK at h1 ⊢;rw[List.foldl_append,h1];simp only[List.foldl_cons,List.foldl_nil,aDW];rw[this,if_neg aI];omega
theorem bMA(n:Nat):∃c r,Lib.decDigits n=c::r∧eL c=true:=by
 cases hd:Lib.decDigits n with
 |nil=>rw[Lib.decDigits]at hd;split at hd <;> simp at hd
 |cons c r=>exact⟨c,r,rfl,bGQ n c (by rw[hd];simp)⟩
def bIB(c:UInt8):Bool:=dO c||(!eL c&&(decide (c.toNat≠77)&&(decide (c.toNat≠109)&&(decide (c.toNat≠75)&&decide (c.toNat≠107)))))
theorem bQ6:∀n:Fin 256,bIB (UInt8.ofNat n.val)=true:=by decide+kernel
theorem bIC(c:UInt8)(h:dO c=false):eL c=false∧c.toNat≠77∧c.toNat≠109∧c.toNat≠75∧c.toNat≠107:=by
 have:=bQ6 ⟨c.toNat,c.toNat_lt⟩;simp only[UInt8.ofNat_toNat]at this;unfold bIB at this;rw[h]at this
 simpa using this
theorem aTX{s t:aJ}{a n:Nat}{wat:Int}(h:s.drop a=Lib.decDigits n++t)(hn:n≤2147483647)(ht:∀c,t.head?=some c→dO c=false):tV s a wat=.ok (a+(Lib.decDigits n).length,(n:Int)):=by
 have e:eT s a=Lib.decDigits n:=by
  unfold eT;rw[h];exact rD (bGQ n) (fun c hc=>(bIC c (ht c hc)).1)
 have h2:=jK h;have hw:dO ((s[a+(Lib.decDigits n).length]?).getD 0)=false:=by
  cases t with
  |nil=>
   have:s.length≤a+(Lib.decDigits n).length:=by
    have:=congrArg List.length h2;rw[List.length_drop]at this;simp at this;omega
   rw[List.getElem?_eq_none this];rfl
  |cons c t=>rw[(gC h2).1];exact ht c rfl
 have hk:=bIC _ hw;have ec:numC s a=((s[a+(Lib.decDigits n).length]?).getD 0).toNat:=by unfold numC;rw[e]
 have ea:numA s a=a+(Lib.decDigits n).length:=by
  unfold numA;rw[if_neg (by rw[ec];omega),e]
 have en:numN s a=(n:Int):=by
  unfold numN;rw[if_neg (by rw[ec];omega),if_neg (by rw[ec];omega),e,bQS n hn]
 unfold tV;rw[ea,en,if_neg (by rw[hw];simp),if_neg aI]
theorem bAA{s t b:aJ}{a:Nat}{tk:Tk}(h:s.drop a=b++(tk.body++t))(hb:∀c∈b,jQ c=true)(hg:tk.good=true)(hs:tk.sep t):
  next s a=.ok (a+b.length+tk.body.length,tk.word (a+b.length))∧s.drop (a+b.length+tk.body.length)=t:=by
 have h2:=jK h;have h3:=jK h2;refine⟨?_,h3⟩
 cases tk with
 |sg c=>
  rw[tT (t:=t) h hb (aYJ hg)];unfold mT;rw[if_pos (show fO c=true from hg)];rfl
 |nm w=>
  obtain⟨c,r,rfl,hl,hw⟩:=aTT hg;obtain⟨q1,q2,q3,q4⟩:=aQG c hl;rw[tT (t:=r++t) h hb q1];unfold mT;rw[if_neg (by simp[q2]),if_neg q3,if_neg q4,if_pos hl];have e:kY s (a+b.length)=c::r:=by
   unfold kY;rw[h2];exact rD hw hs
  rw[e];rfl
 |tg w=>
  obtain⟨c,r,rfl,hl,hw⟩:=aTT hg;obtain⟨h4,h5,h6⟩:=gC (show s.drop (a+b.length)=58::(c::r++t)from h2);rw[tT (c:=58) (t:=c::r++t) h hb (by decide)];unfold mT;rw[if_neg (by decide),if_neg (by decide),if_pos (by decide)];have e:kY s (a+b.length+1)=c::r:=by
   unfold kY;rw[h6];exact rD hw hs
  rw[if_pos (by rw[(gC (show s.drop (a+b.length+1)=c::(r++t)from h6)).1];exact hl),e];simp[Tk.body,Tk.word];omega
 |tx w=>
  have h2':s.drop (a+b.length)=34::(esc w++34::t):=by rw[h2];simp[Tk.body]
  obtain⟨h4,h5,h6⟩:=gC h2';rw[tT (c:=34) (t:=esc w++34::t) (by rw[h];simp[Tk.body]) hb (by decide)];unfold mT;rw[if_neg (by decide),if_pos (by decide)];have hle:=aZQ w;have hl:=rH h6 (by simp);simp at hl;have e:quoted s (a+b.length) ((a+b.length:Nat):Int)=.ok (a+b.length+1+(esc w).length+1,w):=by
   unfold quoted;rw[rW h6 aI];rfl
  rw[e];simp[Tk.body,Tk.word];omega
 |nu n=>
  obtain⟨c,r,e1,e2⟩:=bMA n;obtain⟨q1,q2,q3,q4,q5,q6⟩:=bBJ c e2;have hg':n≤2147483647:=by simpa[Tk.good]using hg
  rw[tT (c:=c) (t:=r++t) (by rw[h];simp[Tk.body,e1]) hb q2];unfold mT;rw[if_neg (by simp[q3]),if_neg q5,if_neg q6,if_neg (by simp[q4]),if_pos e2,aTX (n:=n) (t:=t) h2 hg' hs]
  rfl
abbrev Wd:=Nat×aJ×Int
def Word.wd(w:Word):Wd:=(w.kind,w.s,w.n)
abbrev wTx(w:aJ):Wd:=(3,w,0)
abbrev wSg(c:UInt8):Wd:=(5,[c],0)
abbrev wNm(w:aJ):Wd:=(1,w,0)
abbrev wTg(w:aJ):Wd:=(2,w,0)
abbrev wNu(n:Int):Wd:=(4,[],n)
def Path(s:aJ):St→List Wd→St→Prop
 |st,[],st'=>st'=st
 |st,w::ws,st'=>st.2.kind≠0∧st.2.wd=w∧∃q,next s st.1=.ok q∧Path s q ws st'
theorem jB{s:aJ}{u v:List Wd}{st st':St}:Path s st (u++v) st'↔∃q,Path s st u q∧Path s q v st':=by
 induction u generalizing st with
 |nil=>simp[Path]
 |cons w u ih=>
  constructor
  ·rintro⟨h1,h2,q,h3,h4⟩;obtain⟨q2,h5,h6⟩:=ih.1 h4;exact⟨q2,⟨h1,h2,q,h3,h5⟩,h6⟩
  rintro⟨q2,⟨h1,h2,q,h3,h5⟩,h6⟩;exact⟨h1,h2,q,h3,ih.2 ⟨q2,h5,h6⟩⟩
theorem lS{s:aJ}{u:List Wd}{st st':St}(ha:st.1≤s.length)(h:Path s st u st'):mu s st'+u.length≤mu s st∧st'.1≤s.length:=by
 induction u generalizing st with
 |nil=>have:st'=st:=h;subst this;exact⟨Nat.le_refl _,ha⟩
 |cons w u ih=>
  obtain⟨h1,h2,q,h3,h4⟩:=h;obtain⟨m1,m2⟩:=lR ha h1 h3;have:=ih m2 h4;simp only[List.length_cons];exact⟨by omega,this.2⟩
section
variable{s:aJ}{st st':St}{ws:List Wd}{c:UInt8}{w:aJ}{n:Int}
theorem rF{x:Word}{k:Nat}{t:aJ}{n:Int}(h:x.wd=(k,t,n)):x.kind=k∧x.s=t∧x.n=n:=by
 cases x;simp[Word.wd]at h;exact h
theorem aPM(h:Path s st (wSg c::ws) st'):∃q,eat s st [c]=.ok (true,q)∧Path s q ws st':=by
 obtain⟨_,h2,q,h3,h4⟩:=h;obtain⟨e1,e2,_⟩:=rF h2;exact⟨q,by unfold eat;rw[if_pos ⟨e1,e2⟩,h3],h4⟩
theorem aWT(h:¬(st.2.kind=5∧st.2.s=[c])):eat s st [c]=.ok (false,st):=by unfold eat;rw[if_neg h]
theorem oP(h:Path s st (wSg c::ws) st'):∃q,sign s st [c]=.ok q∧Path s q ws st':=by
 obtain⟨_,h2,q,h3,h4⟩:=h;obtain⟨e1,e2,_⟩:=rF h2;exact⟨q,by unfold sign take;rw[if_neg (by simp[e1,e2]),h3],h4⟩
theorem aE8{k:Nat}{t:aJ}{n:Int}{texts:List aJ}(ht:texts=[]∨t∈texts)(h:Path s st ((k,t,n)::ws) st'):∃q,take s st k texts=.ok (st.2,q)∧st.2.wd=(k,t,n)∧Path s q ws st':=by
 obtain⟨_,h2,q,h3,h4⟩:=h;obtain⟨e1,e2,_⟩:=rF h2;refine⟨q,?_,h2,h4⟩
 unfold take;rw[if_neg (by rw[e1,e2];rcases ht with rfl|ht <;> simp[*]),h3]
theorem rQ{ff:aJ→Int}(hf:ff w=0)(h:Path s st (wTx w::ws) st'):∃q,text s st ff=.ok (w,q)∧Path s q ws st':=by
 obtain⟨q,h1,h2,h3⟩:=aE8 (texts:=[]) (.inl rfl) h;obtain⟨e1,e2,_⟩:=rF h2;refine⟨q,?_,h3⟩
 unfold text;rw[if_neg (by rw[e2];exact fun h=>h.2 hf),h1];simp only[e2]
end
inductive GList:List Wd→List aJ→Prop where
 |one (w:aJ):GList [wTx w] [w]
 |many (w:aJ) (ws:List aJ):GList (wSg 91::wTx w::(ws.flatMap (fun x=>[wSg 44,wTx x])++[wSg 93])) (w::ws)
theorem eU{s:aJ}{st st':St}{w:Wd}{ws:List Wd}(h:Path s st (w::ws) st'):st.2.kind=w.1∧st.2.s=w.2.1:=by
 obtain⟨k,t,n⟩:=w;obtain⟨e1,e2,_⟩:=rF h.2.1;exact⟨e1,e2⟩
theorem aNO{s:aJ}{ff:aJ→Int}:∀(ws:List aJ) (f:Nat) (st st':St) (acc:List aJ),ws.length < f→(∀x∈ws,ff x=0)→
  Path s st (ws.flatMap (fun x=>[wSg 44,wTx x])++[wSg 93]) st'→pY s ff f st acc=.ok (acc++ws,st')
 | [],f,st,st',acc,hf,_,h=>by
  obtain⟨f,rfl⟩:∃g,f=g+1:=⟨f - 1,by omega⟩;have h:Path s st [wSg 93] st':=h;obtain⟨e1,e2⟩:=eU h;obtain⟨q,h1,h2⟩:=oP h;unfold pY;rw[aWT (by rw[e2];simp)];simp only[Bool.false_eq_true,if_false];rw[h1];have:st'=q:=h2;rw[this,List.append_nil]
 |w::ws,f,st,st',acc,hf,hg,h=>by
  obtain⟨f,rfl⟩:∃g,f=g+1:=⟨f - 1,by omega⟩;have h:Path s st (wSg 44::wTx w::(ws.flatMap (fun x=>[wSg 44,wTx x])++[wSg 93])) st':=h;obtain⟨q,h1,h2⟩:=aPM h;obtain⟨q2,h3,h4⟩:=rQ (ff:=ff) (hg w (by simp)) h2;unfold pY;rw[h1];simp only[if_true];rw[h3];simp only[];rw[aNO ws f q2 st' _ gB6 (fun x hx=>hg x (by simp[hx])) h4];simp
theorem aEH{s:aJ}{ff:aJ→Int}{u:List Wd}{l:List aJ}{st st':St}(hu:GList u l)(hg:∀x∈l,ff x=0)(ha:st.1≤s.length)(h:Path s st u st'):list s st ff=.ok (l,st'):=by
 cases hu with
 |one w=>
  obtain⟨e1,e2⟩:=eU h;obtain⟨q,h1,h2⟩:=rQ (ff:=ff) (hg w (by simp)) h;have:st'=q:=h2;subst this;unfold list;rw[aWT (by rw[e1];simp)];simp only[];rw[h1];simp
 |many w ws=>
  obtain⟨q,h1,h2⟩:=aPM h;obtain⟨q2,h3,h4⟩:=rQ (ff:=ff) (hg w (by simp)) h2;have m0:q.1≤s.length:=(yX ha h1).1;have m1:q2.1≤s.length:=(oY (r:=(w,q2)) m0 h3).2;have m2:=lS m1 h4;have hx:∀l:List aJ,l.length≤(l.flatMap (fun x=>[wSg 44,wTx x])).length:=by
   intro l;induction l with
   |nil=>simp
   |cons x l ih=>rw[List.flatMap_cons,List.length_append];simp only[List.length_cons,List.length_nil];omega
  have hx1:=hx ws;rw[List.length_append]at m2;unfold list;rw[h1];simp only[];rw[h3];simp only[if_true];rw[aNO ws _ q2 st' _ aI (fun x hx=>hg x (by simp[hx])) h4];simp
theorem gI{s:aJ}{st st':St}{w:Wd}{ws:List Wd}(ha:st.1≤s.length)(h:Path s st (w::ws) st'):∃q,next s st.1=.ok q∧q.1≤s.length∧Path s q ws st':=by
 obtain⟨h1,h2,q,h3,h4⟩:=h;exact⟨q,h3,(lR ha h1 h3).2,h4⟩
inductive GTags:How→List Wd→How→Prop where
 |nil (h:How):GTags h [] h
 |tag (h h':How) (x:aJ) (i:Nat) (u:List Wd):h.tag=0→i < 3→dR eG x=i→GTags ⟨h.cmp,1+(i:Int),h.oct⟩ u h'→GTags h (wTg x::u) h'
 |cmp (h h':How) (x:aJ) (u:List Wd):h.cmp=false→x∈[gY,jH]→GTags ⟨true,h.tag,decide (x=gY)⟩ u h'→GTags h (wTg lJ::wTx x::u) h'
theorem bEQ{s:aJ}{h h':How}{u:List Wd}(hu:GTags h u h'):∀(f:Nat) (st st':St),u.length < f→st.1≤s.length→Path s st u st'→st'.2.kind≠2→iL s f h st=.ok (h',st'):=by
 induction hu with
 |nil h=>
  intro f st st' hf ha hp hk;obtain⟨f,rfl⟩:∃g,f=g+1:=⟨f - 1,by omega⟩;have:st'=st:=hp;subst this;unfold iL;rw[if_neg hk]
 |tag h h' x i u ht hi hx _ ih=>
  intro f st st' hf ha hp hk;obtain⟨f,rfl⟩:∃g,f=g+1:=⟨f - 1,by omega⟩;obtain⟨e1,e2⟩:=eU hp;obtain⟨q,h1,h2,h3⟩:=gI ha hp;unfold iL;rw[if_pos e1,e2,hx,if_neg aI,if_neg (by rintro(⟨h,_⟩|⟨_,h⟩);omega;exact h ht),if_pos aI,h1];simp only[];exact ih f q st' gB6 h2 h3 hk
 |cmp h h' x u hc hx _ ih=>
  intro f st st' hf ha hp hk;obtain⟨f,rfl⟩:∃g,f=g+1:=⟨f - 1,by omega⟩;obtain⟨e1,e2⟩:=eU hp;obtain⟨q,h1,h2,h3⟩:=gI ha hp;obtain⟨q2,h4,h5⟩:=rQ (ff:=oneOf 7 [gY,jH]) (by unfold oneOf;rw[if_pos hx]) h3;have m1:q2.1≤s.length:=(oY (r:=(x,q2)) h2 h4).2;have e3:dR eG lJ=3:=by decide
  unfold iL;rw[if_pos e1,e2,e3,if_neg (by decide),if_neg (by rw[hc];simp),if_neg (by decide),h1];simp only[];rw[h4];simp only[];exact ih f q2 st' (by simp at hf;omega) m1 h5 hk
inductive GTest (needs:List aJ):Nat→List Wd→Tree→Prop where
 |tru (n:Nat):GTest needs (n+1) [wNm rZ] (.const true)
 |fls (n:Nat):GTest needs (n+1) [wNm lT] (.const false)
 |not_ (n:Nat) (u:List Wd) (t:Tree):GTest needs n u t→GTest needs (n+1) (wNm yH::u) (.not_ t)
 |many (n:Nat) (all:Bool) (u:List Wd) (t:Tree) (us:List (List Wd×Tree)):GTest needs n u t→(∀p,p∈us→GTest needs n p.1 p.2)→
   GTest needs (n+1) (wNm (if all=true then nC else nD)::wSg 40::(u++(us.flatMap (fun p=>wSg 44::p.1)++[wSg 41]))) (.many all (us.foldl (fun l p=>l.snocT p.2) (.tcons t .tnil)))
 |mat (n:Nat) (word:aJ) (op:Int) (ext:aJ) (u v w:List Wd) (h:How) (a b:List aJ):(word,op,ext)∈[(oT,(6:Int),([]:aJ)),(fF,7,fF),(uG,8,dB)]→
   (ext≠[]→ext∈needs)→GTags ⟨false,0,false⟩ u h→GList v a→(∀x∈a,qA op x=0)→GList w b→
   GTest needs (n+1) (wNm word::(u++(v++w))) (.mat (if 1>h.tag then 1 else h.tag) h.oct op a b)
 |exi (n:Nat) (v:List Wd) (a:List aJ):GList v a→GTest needs (n+1) (wNm wI::v) (.exi a)
 |siz (n:Nat) (x:aJ) (k:Int):x∈[uF,mQ]→0≤k∧k≤2147483647→GTest needs (n+1) [wNm xY,wTg x,wNu k] (.siz (if x=mQ then 2 else 1) k)
theorem bHU{u:List Wd}{l:List aJ}(h:GList u l):∃w r,u=w::r∧w.1≠2:=by
 cases h with
 |one w=>exact⟨_,_,rfl,by simp⟩
 |many w ws=>exact⟨_,_,rfl,by simp⟩
theorem aNS{s:aJ}{T:St→Res (Tree×St)}:∀(us:List (List Wd×Tree)) (f:Nat) (acc:Tree) (st st':St),us.length < f→st.1≤s.length→
  (∀p,p∈us→∀st st',st.1≤s.length→Path s st p.1 st'→T st=.ok (p.2,st'))→Path s st (us.flatMap (fun p=>wSg 44::p.1)++[wSg 41]) st'→
  rK s T f acc st=.ok (us.foldl (fun l p=>l.snocT p.2) acc,st')
 | [],f,acc,st,st',hf,ha,_,h=>by
  obtain⟨f,rfl⟩:∃g,f=g+1:=⟨f - 1,by omega⟩;have h:Path s st [wSg 41] st':=h;obtain⟨e1,e2⟩:=eU h;obtain⟨q,h1,h2⟩:=oP h;have:st'=q:=h2;subst this;unfold rK;rw[aWT (by rw[e2];simp)];simp only[Bool.false_eq_true,if_false];rw[h1];rfl
 |p::us,f,acc,st,st',hf,ha,hT,h=>by
  obtain⟨f,rfl⟩:∃g,f=g+1:=⟨f - 1,by omega⟩;have h:Path s st (wSg 44::(p.1++(us.flatMap (fun p=>wSg 44::p.1)++[wSg 41]))) st':=by
   have:=h;rw[List.flatMap_cons]at this;simpa using this
  obtain⟨q,h1,h2⟩:=aPM h;have m0:q.1≤s.length:=(yX ha h1).1;obtain⟨q2,h3,h4⟩:=jB.1 h2;have m1:=(lS m0 h3).2;unfold rK;rw[h1];simp only[if_true];rw[hT p (by simp) q q2 m0 h3];simp only[];exact aNS us f _ q2 st' gB6 m1 (fun x hx=>hT x (by simp[hx])) h4
theorem aLW{s:aJ}{needs:List aJ}{n:Nat}{u:List Wd}{t:Tree}(h:GTest needs n u t):∀st st',st.1≤s.length→Path s st u st'→test s needs n st=.ok (t,st'):=by
 induction h with
 |tru n=>
  intro st st' ha hp;obtain⟨e1,e2⟩:=eU hp;obtain⟨q,h1,h2,h3⟩:=gI ha hp;have:st'=q:=h3;subst this;unfold test qI;rw[if_pos e1,e2]
  simp only[if_true,oI,h1]
 |fls n=>
  intro st st' ha hp;obtain⟨e1,e2⟩:=eU hp;obtain⟨q,h1,h2,h3⟩:=gI ha hp;have:st'=q:=h3;subst this;unfold test qI;rw[if_pos e1,e2]
  rw[if_neg (by decide),if_pos rfl];simp only[oI,h1]
 |not_ n u t _ ih=>
  intro st st' ha hp;obtain⟨e1,e2⟩:=eU hp;obtain⟨q,h1,h2,h3⟩:=gI ha hp;unfold test qI;rw[if_pos e1,e2]
  rw[if_neg (by decide),if_neg (by decide),if_pos rfl];simp only[notC,h1];rw[ih q st' h2 h3]
 |many n all u t us _ _ ih1 ih2=>
  intro st st' ha hp;obtain⟨e1,e2⟩:=eU hp;obtain⟨q,h1,h2,h3⟩:=gI ha hp;obtain⟨q1,h4,h5⟩:=oP h3;have m1:=(aBG h2 h4).2;obtain⟨q2,h6,h7⟩:=jB.1 h5;have m2:=(lS m1 h6).2;have m3:=lS m2 h7;have hx:∀l:List (List Wd×Tree),l.length≤(l.flatMap (fun p=>wSg 44::p.1)).length:=by
   intro l;induction l with
   |nil=>simp
   |cons x l ih=>rw[List.flatMap_cons,List.length_append];simp only[List.length_cons];omega
  have hx1:=hx us;rw[List.length_append]at m3;have key:qH s (test s needs n) all st=.ok (.many all (us.foldl (fun l p=>l.snocT p.2) (.tcons t .tnil)),st'):=by
   unfold qH;rw[h1];simp only[];rw[h4];simp only[];rw[ih1 q1 q2 m1 h6];simp only[];rw[aNS us _ _ q2 st' aI m2 (fun p hp=>ih2 p hp) h7]
   rfl
  unfold test qI;rw[if_pos e1,e2]
  cases all with
  |true=>
   simp only[if_true];rw[if_neg (by decide),if_neg (by decide),if_neg (by decide)];exact key
  |false=>
   simp only[Bool.false_eq_true,if_false];rw[if_neg (by decide),if_neg (by decide),if_neg (by decide),if_neg (by decide),if_pos trivial];exact key
 |mat n word op ext u v w h a b hw hn ht ga hf gb=>
  intro st st' ha hp;obtain⟨e1,e2⟩:=eU hp;obtain⟨q,h1,h2,h3⟩:=gI ha hp;obtain⟨q1,h4,h5⟩:=jB.1 h3;have m1:=lS h2 h4;obtain⟨q2,h6,h7⟩:=jB.1 h5;have m2:=(lS m1.2 h6).2;obtain⟨y,r,rfl,hy⟩:=bHU ga;have hk:q1.2.kind≠2:=by rw[(eU h6).1];exact hy
  have key:mN s needs op ext st=.ok (.mat (if 1>h.tag then 1 else h.tag) h.oct op a b,st'):=by
   unfold mN;rw[if_neg (by rintro⟨q1,q2⟩;exact q2 (hn q1)),h1];simp only[];rw[bEQ ht _ q q1 aI h2 h4 hk];unfold pZ;simp only[];rw[aEH ga hf m1.2 h6];simp only[];rw[aEH gb (fun _ _=>rfl) m2 h7]
  unfold test qI;rw[if_pos e1,e2]
  simp only[List.mem_cons,List.not_mem_nil,or_false,Prod.mk.injEq]at hw;rcases hw with ⟨rfl,rfl,rfl⟩|⟨rfl,rfl,rfl⟩|⟨rfl,rfl,rfl⟩
  ·rw[if_neg (by decide),if_neg (by decide),if_neg (by decide),if_neg (by decide),if_neg (by decide),if_pos rfl];exact key
  ·rw[if_neg (by decide),if_neg (by decide),if_neg (by decide),if_neg (by decide),if_neg (by decide),if_neg (by decide),if_pos rfl];exact key
  rw[if_neg (by decide),if_neg (by decide),if_neg (by decide),if_neg (by decide),if_neg (by decide),if_neg (by decide),if_neg (by decide),if_pos rfl];exact key
 |exi n v a ga=>
  intro st st' ha hp;obtain⟨e1,e2⟩:=eU hp;obtain⟨q,h1,h2,h3⟩:=gI ha hp;unfold test qI;rw[if_pos e1,e2]
  rw[if_neg (by decide),if_neg (by decide),if_neg (by decide),if_neg (by decide),if_neg (by decide),if_neg (by decide),if_neg (by decide),if_neg (by decide),if_pos rfl];simp only[oU,h1];rw[aEH ga (fun _ _=>rfl) h2 h3]
 |siz n x k hx _=>
  intro st st' ha hp;obtain⟨e1,e2⟩:=eU hp;obtain⟨q,h1,h2,h3⟩:=gI ha hp;obtain⟨q1,h4,e3,h5⟩:=aE8 (texts:=[uF,mQ]) (.inr hx) h3;obtain⟨q2,h6,e4,h7⟩:=aE8 (texts:=[]) (.inl rfl) h5;have:st'=q2:=h7;subst this;unfold test qI;rw[if_pos e1,e2]
  rw[if_neg (by decide),if_neg (by decide),if_neg (by decide),if_neg (by decide),if_neg (by decide),if_neg (by decide),if_neg (by decide),if_neg (by decide),if_neg (by decide),if_pos rfl];simp only[tY,h1];rw[h4];simp only[];rw[h6];simp only[(rF e3).2.1,(rF e4).2.2]
def dJ:Tree→Tree
 | .act k a _=>.act k a 0
 | .iff bs=>.iff (dJ bs)
 | .ccons c l=>.ccons (dJ c) (dJ l)
 | .bcons t b l=>.bcons t (dJ b) (dJ l)
 | .belse b l=>.belse (dJ b) (dJ l)
 |t=>t
theorem aH1(x:Tree):∀l:Tree,dJ (l.snocC x)=(dJ l).snocC (dJ x):=by
 intro l;induction l with
 |ccons c l _ ih=>simp only[Tree.snocC,dJ,ih]
 |_=>simp[Tree.snocC,dJ]
theorem uW(o:Option Tree)(x:Tree):∀l:Tree,dJ (l.snocB o x)=(dJ l).snocB o (dJ x):=by
 intro l;induction l with
 |bcons t b l _ _ ih=>simp only[Tree.snocB,dJ,ih]
 |belse b l _ ih=>simp only[Tree.snocB,dJ,ih]
 |_=>cases o <;> simp[Tree.snocB,mkB,dJ]
structure Br where
 ut:List Wd
 t:Tree
 ub:List Wd
 b:Tree
def Br.words(p:Br):List Wd:=wNm nE::(p.ut++(wSg 123::(p.ub++[wSg 125])))
def kQ:Option (List Wd×Tree)→List Wd
 |none=>[]
 |some p=>wNm mC::wSg 123::(p.1++[wSg 125])
def endB(acc:Tree):Option (List Wd×Tree)→Tree
 |none=>.iff acc
 |some p=>.iff (acc.snocB none p.2)
inductive GCmd (needs:List aJ) (n:Nat) (B:List Wd→Tree→Prop):List Wd→Tree→Prop where
 |simple (word:aJ) (c:Tree):(word=vG∧c=.act 1 [] 0)∨(word=kS∧c=.plain 13)∨(word=mP∧c=.plain 14)→GCmd needs n B [wNm word,wSg 59] c
 |act (word:aJ) (kind:Int) (ext arg:aJ):(word=fG∧kind=2∧ext=fG)∨(word=nU∧kind=3∧ext=[])∨(word=eW∧kind=4∧ext=eW)→
   (ext≠[]→ext∈needs)→GCmd needs n B [wNm word,wTx arg,wSg 59] (.act kind arg 0)
 |set0 (name value:aJ):dB∈needs→named name=true→GCmd needs n B [wNm aH6,wTx name,wTx value,wSg 59] (.set_ (dG name) value 0)
 |set1 (x name value:aJ) (i:Nat):dB∈needs→named name=true→i < 3→dR [mO,mR,kV] x=i→GCmd needs n B [wNm aH6,wTg x,wTx name,wTx value,wSg 59] (.set_ (dG name) value (1+(i:Int)))
 |iff (ut:List Wd) (t:Tree) (ub:List Wd) (b:Tree) (brs:List Br) (els:Option (List Wd×Tree)):GTest needs n ut t→B ub b→(∀p,p∈brs→GTest needs n p.ut p.t∧B p.ub p.b)→(∀p,els=some p→B p.1 p.2)→
   GCmd needs n B (wNm txIf::(ut++(wSg 123::(ub++(wSg 125::(brs.flatMap Br.words++kQ els)))))) (endB (brs.foldl (fun l p=>l.snocB (some p.t) p.b) (.bcons t b .bnil)) els)
def fZ(needs:List aJ):Nat→List Wd→Tree→Prop
 |0=>fun u t=>u=[]∧t=.cnil
 |n+1=>fun u t=>∃cs:List (List Wd×Tree),(∀p,p∈cs→GCmd needs n (fZ needs n) p.1 p.2)∧u=cs.flatMap (·.1)∧t=cs.foldl (fun l p=>l.snocC p.2) .cnil
def aQP(st:St):Prop:=¬(st.2.kind=1∧(st.2.s=nE∨st.2.s=mC))
theorem tB{needs:List aJ}{n:Nat}{B:List Wd→Tree→Prop}{u:List Wd}{c:Tree}(h:GCmd needs n B u c):∃w r,u=wNm w::r∧w≠nE∧w≠mC:=by
 cases h with
 |simple word c h=>rcases h with ⟨rfl,rfl⟩|⟨rfl,rfl⟩|⟨rfl,rfl⟩ <;> exact⟨_,_,rfl,by decide,by decide⟩
 |act word kind ext arg h _=>rcases h with ⟨rfl,_,_⟩|⟨rfl,_,_⟩|⟨rfl,_,_⟩ <;> exact⟨_,_,rfl,by decide,by decide⟩
 |set0=>exact⟨_,_,rfl,by decide,by decide⟩
 |set1=>exact⟨_,_,rfl,by decide,by decide⟩
 |iff=>exact⟨_,_,rfl,by decide,by decide⟩
section
variable{s:aJ}{needs:List aJ}{n:Nat}{B:List Wd→Tree→Prop}{T Bf:St→Res (Tree×St)}
theorem aJA(hB:∀u t,B u t→∀st st',st.1≤s.length→Path s st u st'→st'.2.kind≠1→∃t',Bf st=.ok (t',st')∧dJ t'=t){u:List Wd}{t:Tree}{ws:List Wd}{st st':St}
  (hu:B u t) (ha:st.1≤s.length) (h:Path s st (wSg 123::(u++(wSg 125::ws))) st'):∃t' q,bodyC s Bf st=.ok (t',q)∧dJ t'=t∧q.1≤s.length∧Path s q ws st':=by
 obtain⟨q,h1,h2⟩:=oP h;have m1:=(aBG ha h1).2;obtain⟨q2,h3,h4⟩:=jB.1 h2;have m2:=(lS m1 h3).2;obtain⟨t',h5,h6⟩:=hB u t hu q q2 m1 h3 (by rw[(eU h4).1];simp);obtain⟨q3,h7,h8⟩:=oP h4;refine⟨t',q3,?_,h6,(aBG m2 h7).2,h8⟩
 unfold bodyC;rw[h1];simp only[];rw[h5];simp only[];rw[h7]
theorem aNB(hT:∀u t,GTest needs n u t→∀st st',st.1≤s.length→Path s st u st'→T st=.ok (t,st'))(hB:∀u t,B u t→∀st st',st.1≤s.length→Path s st u st'→st'.2.kind≠1→∃t',Bf st=.ok (t',st')∧dJ t'=t)
  {els:Option (List Wd×Tree)} (he:∀p,els=some p→B p.1 p.2):∀(brs:List Br) (f:Nat) (acc acc0:Tree) (st st':St),brs.length < f→(∀p,p∈brs→GTest needs n p.ut p.t∧B p.ub p.b)→st.1≤s.length→dJ acc=acc0→
  Path s st (brs.flatMap Br.words++kQ els) st'→aQP st'→∃c',iV s T Bf f acc st=.ok (c',st')∧dJ c'=endB (brs.foldl (fun l p=>l.snocB (some p.t) p.b) acc0) els
 | [],f,acc,acc0,st,st',hf,_,ha,hacc,h,hn=>by
  obtain⟨f,rfl⟩:∃g,f=g+1:=⟨f - 1,by omega⟩;have h:Path s st (kQ els) st':=h;unfold iV;cases els with
  |none=>
   have:st'=st:=h;subst this;rw[if_neg fun h=>hn ⟨h.1,.inl h.2⟩];unfold nH;rw[if_neg fun h=>hn ⟨h.1,.inr h.2⟩];exact⟨_,rfl,by simp only[dJ,hacc,List.foldl_nil,endB]⟩
  |some p=>
   have h:Path s st (wNm mC::wSg 123::(p.1++[wSg 125])) st':=h;obtain⟨e1,e2⟩:=eU h;obtain⟨q,h1,h2,h3⟩:=gI ha h;obtain⟨b',q2,h4,h5,_,h6⟩:=aJA hB (he p rfl) h2 h3;have:st'=q2:=h6;subst this;rw[if_neg (by rw[e2];exact fun h=>absurd h.2 (by decide))];unfold nH;rw[if_pos ⟨e1,e2⟩,h1];simp only[];rw[h4];exact⟨_,rfl,by simp only[dJ,uW,hacc,h5,List.foldl_nil,endB]⟩
 |p::brs,f,acc,acc0,st,st',hf,hb,ha,hacc,h,hn=>by
  obtain⟨f,rfl⟩:∃g,f=g+1:=⟨f - 1,by omega⟩;have h:Path s st (wNm nE::(p.ut++(wSg 123::(p.ub++(wSg 125::(brs.flatMap Br.words++kQ els)))))) st':=by
   have:=h;rw[List.flatMap_cons]at this;simpa[Br.words]using this
  obtain⟨e1,e2⟩:=eU h;obtain⟨q,h1,h2,h3⟩:=gI ha h;obtain⟨q2,h4,h5⟩:=jB.1 h3;have m2:=(lS h2 h4).2;obtain⟨g1,g2⟩:=hb p (by simp);obtain⟨b',q3,h6,h7,m3,h8⟩:=aJA hB g2 m2 h5;unfold iV;rw[if_pos ⟨e1,e2⟩,h1];simp only[];rw[hT _ _ g1 q q2 h2 h4];simp only[];rw[h6];simp only[];exact aNB hT hB he brs f _ _ q3 st' gB6 (fun x hx=>hb x (by simp[hx])) m3 (by rw[uW,hacc,h7]) h8 hn
theorem aO6:∀l:List Br,l.length≤(l.flatMap Br.words).length
 | []=>Nat.le_refl _
 |p::l=>by
  have:=aO6 l;rw[List.flatMap_cons,List.length_append];simp only[Br.words,List.length_cons];omega
theorem bL4(hT:∀u t,GTest needs n u t→∀st st',st.1≤s.length→Path s st u st'→T st=.ok (t,st'))(hB:∀u t,B u t→∀st st',st.1≤s.length→Path s st u st'→st'.2.kind≠1→∃t',Bf st=.ok (t',st')∧dJ t'=t)
  {u:List Wd} {c:Tree} (h:GCmd needs n B u c) {st st':St} (ha:st.1≤s.length) (hp:Path s st u st') (hn:aQP st'):∃c',cmdD s needs T Bf st=some (.ok (c',st'))∧dJ c'=c:=by
 cases h with
 |simple word c h=>
  obtain⟨e1,e2⟩:=eU hp;obtain⟨q,h1,h2,h3⟩:=gI ha hp;obtain⟨q2,h4,h5⟩:=oP h3;have:st'=q2:=h5;subst this;have key:∀x:Tree,lG s x st=.ok (x,st'):=fun x=>by unfold lG;rw[h1];simp only[];rw[h4]
  unfold cmdD;rw[e2];rcases h with ⟨rfl,rfl⟩|⟨rfl,rfl⟩|⟨rfl,rfl⟩
  ·simp only[if_true,key];exact⟨_,rfl,rfl⟩
  ·simp only[show (kS=vG)=False from by decide,if_false,if_true,key];exact⟨_,rfl,rfl⟩
  simp only[show (mP=vG)=False from by decide,show (mP=kS)=False from by decide,if_false,if_true,key];exact⟨_,rfl,rfl⟩
 |act word kind ext arg h hx=>
  obtain⟨e1,e2⟩:=eU hp;obtain⟨q,h1,h2,h3⟩:=gI ha hp;obtain⟨q1,h4,e4,h5⟩:=aE8 (texts:=[]) (.inl rfl) h3;obtain⟨q2,h6,h7⟩:=oP h5;have:st'=q2:=h7;subst this;have key:∀x:Int,actC s needs kind ext x st=.ok (.act kind arg x,st'):=fun x=>by
   unfold actC;rw[if_neg (by rintro⟨q1,q2⟩;exact q2 (hx q1)),h1];simp only[];rw[h4];simp only[];rw[h6];simp only[(rF e4).2.1]
  unfold cmdD;rw[e2];rcases h with ⟨rfl,rfl,rfl⟩|⟨rfl,rfl,rfl⟩|⟨rfl,rfl,rfl⟩
  ·rw[if_neg (by decide),if_neg (by decide),if_neg (by decide),if_pos rfl,key];exact⟨_,rfl,rfl⟩
  ·rw[if_neg (by decide),if_neg (by decide),if_neg (by decide),if_neg (by decide),if_pos rfl,key];exact⟨_,rfl,rfl⟩
  rw[if_neg (by decide),if_neg (by decide),if_neg (by decide),if_neg (by decide),if_neg (by decide),if_pos rfl,key];exact⟨_,rfl,rfl⟩
 |set0 name value hv hname=>
  obtain⟨e1,e2⟩:=eU hp;obtain⟨q,h1,h2,h3⟩:=gI ha hp;obtain⟨e3,_⟩:=eU h3;obtain⟨q1,h4,h5⟩:=rQ (ff:=fun x=>if named x=true then 0 else 7) (by rw[if_pos hname]) h3;obtain⟨q2,h6,h7⟩:=rQ (ff:=fun _=>0) rfl h5;obtain⟨q3,h8,h9⟩:=oP h7;have:st'=q3:=h9;subst this;have key:setC s needs st=.ok (⟨dG name,value,0⟩,st'):=by
   unfold setC pB;rw[if_pos hv,h1];simp only[];rw[if_neg (by rw[e3];simp)];unfold oX;simp only[];rw[h4];simp only[];rw[h6];simp only[];rw[h8]
  unfold cmdD yF;rw[e2,if_neg (by decide),if_neg (by decide),if_neg (by decide),if_neg (by decide),if_neg (by decide),if_neg (by decide),if_pos rfl,key];exact⟨_,rfl,rfl⟩
 |set1 x name value i hv hname hi hx=>
  obtain⟨e1,e2⟩:=eU hp;obtain⟨q,h1,h2,h3⟩:=gI ha hp;obtain⟨e3,e4⟩:=eU h3;obtain⟨q0,h10,h11,h12⟩:=gI h2 h3;obtain⟨q1,h4,h5⟩:=rQ (ff:=fun x=>if named x=true then 0 else 7) (by rw[if_pos hname]) h12;obtain⟨q2,h6,h7⟩:=rQ (ff:=fun _=>0) rfl h5;obtain⟨q3,h8,h9⟩:=oP h7;have:st'=q3:=h9;subst this;have key:setC s needs st=.ok (⟨dG name,value,1+(i:Int)⟩,st'):=by
   unfold setC pB;rw[if_pos hv,h1];simp only[];rw[if_pos e3,e4,hx,if_neg aI,h10];unfold oX;simp only[];rw[h4];simp only[];rw[h6];simp only[];rw[h8]
  unfold cmdD yF;rw[e2,if_neg (by decide),if_neg (by decide),if_neg (by decide),if_neg (by decide),if_neg (by decide),if_neg (by decide),if_pos rfl,key];exact⟨_,rfl,rfl⟩
 |iff ut t ub b brs els gt gb gbrs gels=>
  obtain⟨e1,e2⟩:=eU hp;obtain⟨q,h1,h2,h3⟩:=gI ha hp;obtain⟨q2,h4,h5⟩:=jB.1 h3;have m2:=(lS h2 h4).2;obtain⟨b',q3,h6,h7,m3,h8⟩:=aJA hB gb m2 h5;have m4:=lS m3 h8;have hl:=aO6 brs;rw[List.length_append]at m4;obtain⟨c',h9,h10⟩:=aNB hT hB gels brs (mu s q3+1) (.bcons t b' .bnil) (.bcons t b .bnil) q3 st' aI gbrs m3 (by simp only[dJ,h7]) h8 hn;have key:ifC s T Bf st=.ok (c',st'):=by
   unfold ifC;rw[h1];simp only[];rw[hT _ _ gt q q2 h2 h4];simp only[];rw[h6];simp only[];exact h9
  unfold cmdD;rw[e2,if_neg (by decide),if_neg (by decide),if_neg (by decide),if_neg (by decide),if_neg (by decide),if_neg (by decide),if_neg (by decide),if_pos rfl,key];exact⟨_,rfl,h10⟩
theorem aI8(hT:∀u t,GTest needs n u t→∀st st',st.1≤s.length→Path s st u st'→T st=.ok (t,st'))(hB:∀u t,B u t→∀st st',st.1≤s.length→Path s st u st'→st'.2.kind≠1→∃t',Bf st=.ok (t',st')∧dJ t'=t):
  ∀(cs:List (List Wd×Tree)) (f:Nat) (acc acc0:Tree) (st st':St),cs.length < f→(∀p,p∈cs→GCmd needs n B p.1 p.2)→st.1≤s.length→dJ acc=acc0→Path s st (cs.flatMap (·.1)) st'→st'.2.kind≠1→
  ∃t',kI s (cmdD s needs T Bf) f acc st=.ok (t',st')∧dJ t'=cs.foldl (fun l p=>l.snocC p.2) acc0
 | [],f,acc,acc0,st,st',hf,_,ha,hacc,h,hk=>by
  obtain⟨f,rfl⟩:∃g,f=g+1:=⟨f - 1,by omega⟩;have:st'=st:=h;subst this;unfold kI;rw[if_neg hk];exact⟨_,rfl,hacc⟩
 |p::cs,f,acc,acc0,st,st',hf,hc,ha,hacc,h,hk=>by
  obtain⟨f,rfl⟩:∃g,f=g+1:=⟨f - 1,by omega⟩;rw[List.flatMap_cons]at h;obtain⟨q,h1,h2⟩:=jB.1 h;have m1:=(lS ha h1).2;have hn:aQP q:=by
   cases cs with
   |nil=>have:st'=q:=h2;subst this;exact fun h=>hk h.1
   |cons p2 cs=>
    obtain⟨w,r,e,w1,w2⟩:=tB (hc p2 (by simp));rw[List.flatMap_cons,e]at h2;have e2:=(eU h2).2;rintro⟨_,h|h⟩
    ·exact w1 (e2.symm.trans h)
    exact w2 (e2.symm.trans h)
  obtain⟨c',h3,h4⟩:=bL4 hT hB (hc p (by simp)) ha h1 hn;have hk1:st.2.kind=1:=by
   obtain⟨w,r,e,_,_⟩:=tB (hc p (by simp));rw[e]at h1;exact(eU h1).1
  unfold kI;rw[if_pos hk1,h3];simp only[];obtain⟨t',h5,h6⟩:=aI8 hT hB cs f _ _ q st' gB6 (fun x hx=>hc x (by simp[hx])) m1 (show dJ (acc.snocC c')=_ from rfl) h2 hk;exact⟨t',h5,by rw[h6,aH1,hacc,h4];rfl⟩
end
theorem aSB{needs:List aJ}{n:Nat}{B:List Wd→Tree→Prop}:∀l:List (List Wd×Tree),(∀p,p∈l→GCmd needs n B p.1 p.2)→l.length≤(l.flatMap (·.1)).length
 | [],_=>Nat.le_refl _
 |p::l,h=>by
  have:=aSB l fun x hx=>h x (by simp[hx])
  obtain⟨w,r,e,_,_⟩:=tB (h p (by simp));rw[List.flatMap_cons,List.length_append,e];simp only[List.length_cons];omega
theorem aAR{s:aJ}{needs:List aJ}:∀(n:Nat) (u:List Wd) (t:Tree),fZ needs n u t→∀st st',st.1≤s.length→Path s st u st'→st'.2.kind≠1→∃t',block s needs n st=.ok (t',st')∧dJ t'=t
 |0,u,t,h,st,st',ha,hp,hk=>by
  obtain⟨rfl,rfl⟩:=h;have:st'=st:=hp;subst this;unfold block;rw[if_neg hk];exact⟨_,rfl,rfl⟩
 |n+1,u,t,h,st,st',ha,hp,hk=>by
  obtain⟨cs,hc,rfl,rfl⟩:=h;have m:=lS ha hp;have hl:=aSB cs hc;unfold block;exact aI8 (fun u t h=>aLW h) (aAR n) cs _ _ _ st st' aI hc ha rfl hp hk
inductive GReq:List aJ→List Wd→List aJ→Prop where
 |nil (ns:List aJ):GReq ns [] ns
 |cons (ns ns':List aJ) (u v:List Wd) (l:List aJ):GList u l→(∀x∈l,x∈rY)→GReq (gL ns l) v ns'→GReq ns (wNm dY::(u++(wSg 59::v))) ns'
theorem aLA{s:aJ}{ns ns':List aJ}{u:List Wd}(hu:GReq ns u ns'):∀(f:Nat) (st st':St),u.length < f→st.1≤s.length→Path s st u st'→¬(st'.2.kind=1∧st'.2.s=dY)→reqF s f ns st=.ok (ns',st'):=by
 induction hu with
 |nil ns=>
  intro f st st' hf ha hp hk;obtain⟨f,rfl⟩:∃g,f=g+1:=⟨f - 1,by omega⟩;have:st'=st:=hp;subst this;unfold reqF;rw[if_neg hk]
 |cons ns ns' u v l hl hx _ ih=>
  intro f st st' hf ha hp hk;obtain⟨f,rfl⟩:∃g,f=g+1:=⟨f - 1,by omega⟩;obtain⟨e1,e2⟩:=eU hp;obtain⟨q,h1,h2,h3⟩:=gI ha hp;obtain⟨q1,h4,h5⟩:=jB.1 h3;have m1:=(lS h2 h4).2;obtain⟨q2,h6,h7⟩:=oP h5;have m2:=(aBG m1 h6).2;unfold reqF;rw[if_pos ⟨e1,e2⟩,h1];simp only[];rw[aEH hl (fun x hx'=>by unfold oneOf;rw[if_pos (hx x hx')]) h2 h4];simp only[];rw[h6];simp only[];exact ih f q2 st' (by simp at hf;omega) m2 h7 hk
def Tk.wd:Tk→Wd
 | .sg c=>wSg c
 | .nm w=>wNm (dG w)
 | .tg w=>wTg (dG w)
 | .tx w=>wTx w
 | .nu n=>wNu n
theorem Tk.word_wd(t:Tk)(a:Nat):(t.word a).wd=t.wd∧(t.word a).kind≠0:=by
 cases t <;> simp[Tk.word,Tk.wd,Word.wd]
def rend:List (aJ×Tk)→aJ→aJ
 | [],e=>e
 |x::r,e=>x.1++(x.2.body++rend r e)
def jJ:List (aJ×Tk)→Bool
 | []=>true
 |(_::_,_)::_=>true
 |([],.nm _)::_=>false
 |([],.nu _)::_=>false
 |([],_)::_=>true
def d8:List (aJ×Tk)→Bool
 | []=>true
 |(b,.sg c)::r=>b.all jQ&&(fO c&&d8 r)
 |(b,.nm w)::r=>b.all jQ&&(aHS w&&(jJ r&&d8 r))
 |(b,.tg w)::r=>b.all jQ&&(aHS w&&(jJ r&&d8 r))
 |(b,.tx _)::r=>b.all jQ&&d8 r
 |(b,.nu n)::r=>b.all jQ&&(decide (n≤2147483647)&&(jJ r&&d8 r))
def aV2(c:UInt8):Bool:=!(jQ c||fO c)||!dO c
theorem aRQ:∀n:Fin 256,aV2 (UInt8.ofNat n.val)=true:=by decide+kernel
theorem tU{c:UInt8}(h:jQ c=true∨fO c=true):dO c=false:=by
 have:=aRQ ⟨c.toNat,c.toNat_lt⟩;simp only[UInt8.ofNat_toNat]at this;unfold aV2 at this;rcases h with h|h <;> rw[h]at this <;> simpa using this
theorem vL{b:aJ}{tk:Tk}{r:List (aJ×Tk)}(h:d8 ((b,tk)::r)=true):(∀c∈b,jQ c=true)∧tk.good=true∧d8 r=true:=by
 cases tk <;> simp only[d8,Bool.and_eq_true,List.all_eq_true]at h
 ·exact⟨h.1,h.2.1,h.2.2⟩
 ·exact⟨h.1,h.2.1,h.2.2.2⟩
 ·exact⟨h.1,h.2.1,h.2.2.2⟩
 ·exact⟨h.1,rfl,h.2⟩
 exact⟨h.1,h.2.1,h.2.2.2⟩
end Go.Syn
end

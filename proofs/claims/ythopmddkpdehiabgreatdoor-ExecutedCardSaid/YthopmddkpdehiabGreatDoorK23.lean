/-
  What the proof stands on, part 23: the logic of walks, the walks through the functions, the plain laws. Conditions: as each theorem says. (Merged and shortened by a program.)
-/
import Derived.ChangeKeysEq
import Derived.Test.YthopmddkpdehiabGreatDoorK22
set_option linter.unusedVariables false
set_option linter.unusedSimpArgs false
set_option linter.defProp false
set_option maxRecDepth 4000
set_option maxHeartbeats 1000000
section
attribute [local irreducible] Go.SL.T Go.SL.OL Go.SL.D Go.SL.DL Go.SL.Ev Go.SL.Ef Go.SL.EfS
namespace Go.Proofs
open Go Go.SL Go.Syn
def aSY(s:List UInt8)(K:Hl)(hs:s.length≤140737488351232):Sp x3 198 [str s] K [] (Val (str (rO s)) K):=by
 refine bN Tryz.func198 Y Tryz.ntmps198 Y Y fun F w=>?_;refine zz8 ?_;refine cN Y Y (aE9 s 97 122 224 _ hs) Y (zz5 ?_);exact⟨Y,Y,Y⟩
end Go.Proofs
end
section
namespace Go.SL.R
def dl_round{E:Env}{ops:Array Oper}{eff stg:List Nat}{S:List Asn}{r:List Nat}{fr:Fr}{K:Hl}{M:List Asn}{Q:Post}{i:Nat}{d:Nat}{ty:TypeId}{pos:String}{aft:Array Edge}{g:Option (Nat×Bool)}{fv:Operand}{xs:List Operand}{ats:Array TypeId}{l:Nat}{vs:List Value}{L1 L2:List Asn}{R:Bool→Hl→List Asn→Prop}
  (ho:ops[i]?=some ⟨some d,.call ⟨.value fv,xs.toArray,ats⟩,ty,pos,aft,g⟩) (hg:GOk ops fr ⟨some d,.call ⟨.value fv,xs.toArray,ats⟩,ty,pos,aft,g⟩ true) (he:stg.contains i=true)
  (hf:fr.ev fv=some (.func (.yield l) #[] #[])) (hx:fr.evs xs=some vs) (hs:Yl E.P l vs K L1 R) (hL:Tks L1 (S++M) L2) (hn:Nat.blt d E.n=true)
  (h:∀b K' L',R b K' L'→K.le K'→DL E ops eff stg (L'++L2) r ((d,.bool b)::fr) K' [] Q):DL E ops eff stg S (i::r) fr K M Q:=by
 intro a fo;unfold DX;simp only[ho,hg.wanted fo,if_true,he];intro w j;obtain⟨F',i1,back⟩:=(j.imp hL.sat).hide;obtain⟨fn,tm,x,y,hy,hr⟩:=hs F' w i1;refine .inr (.inr (.inr ⟨l,fn,tm,x,y,w,?_,hr.mono fun e w' ⟨b,K',L',q1,q,le,j'⟩=>?_⟩))
 ·have e1:Array.map a.eval xs.toArray=vs.toArray:=by simp[fo.evs hx]
  simp only[execOp,resolve,e1,fo.ev hf,Deferred.ofValue,bind,pure,Sem.bind,invoke,Array.empty_append];exact hy
 subst q1;exact⟨K',L'++L2,[],le,by simpa using back j',h b K' L' q le _ (fo.put hn _)⟩
end Go.SL.R
end
section
namespace Go.SL
open R (Yl)
abbrev dblk(D:Nat):Asn:=pt D (.deferred (some []))
def bKU(P:Program)(fn:Func)(w0:World)(F K0:Hl)(R:Ending→Hl→List Asn→Prop):Post:=
 bodyPostM Fence.wide 0 P fn fun e w'=>∃K' L',R e K' L'∧K0.le K'∧In w0 F K' L' w'
def aQU{P:Program}{f:FuncId}{fn:Func}{c:Code}{args:List Value}{n:Nat}{K:Hl}{L:List Asn}{R:Ending→Hl→List Asn→Prop}
  (hf:P.funcs[f]?=some fn) (hb:fn.body=some c) (hn:fn.ntmps=n) (hl:Nat.ble args.length n=true) (hname:(fn.name== "runtime.NumGoroutine")=false)
  (h:∀(F:Hl) (w:World),T ⟨P,n,[],w,F⟩ c (Fr.init 0 args n) K L (bKU P fn w F K R)):Sp P f args K L R:=by
 refine⟨⟨fn,hf,hname,by simp[hb]⟩,fun F w i=>callsIn_wide.1 (callsIn_of_wp_marks (n:=0) hf hb trivial (wpIn_wide.2 (h F w _ _ ⟨Y,?_,?_⟩ i)))⟩
 ·have:args.length≤n:=xBB hl;simp[hn];omega
 intro k v e;obtain⟨_,h2⟩:=xJ e;have hk:k < args.length:=by
  rcases xAC k args.length with h|h
  ·exact h
  simp[List.getElem?_eq_none h]at h2
 show (args.toArray++Array.replicate _ _)[k]?=some v
 rw[Array.getElem?_append_left gGD]
 simpa using h2
def aV1{P:Program}{fn:Func}{tmps:Array Value}{R:Ending→World→Prop}{u:FrameMode}(hu:u≠.run){w0:World}{F K:Hl}{L:List Asn}(fin:∀w',In w0 F K L w'→LeavesIn Fence.wide 0 P fn tmps R [] u w'):
  ∀(ds:List Nat) (w:World),In w0 F K (ds.map dblk++L) w→LeavesInM Fence.wide 0 P fn tmps R (ds.map mrk) u w
 | [],w,i=>fin w i
 |d::ds,w,i=>by
  have hp:=i.piece;refine⟨hu,.inl ⟨d,_,Y,run_takeDeferred hp,aV1 hu fin ds _ ?_⟩⟩
  have hlt:d < w.heap.size:=(xBH.1 hp).1;exact(i.write (o':=.deferred none) (H:=w.heap.setIfInBounds d (.deferred none)) (by simp) (by simp[hlt]) (fun x hx=>by rw[xBE (Ne.symm hx)])).drop
section
variable{P:Program}{fn:Func}{n:Nat}{w0:World}{F K0 K:Hl}{fr:Fr}{L:List Asn}{R:Ending→Hl→List Asn→Prop}
def aLY{t:Nat}{v:Value}{L0:List Asn}(ds:List Nat)(hr:fn.results= #[.tmp t])(ht:fr.get t=some v)(hL:∀h,Sat L0 h→Sat (ds.map dblk++L) h)(le:K0.le K)(h:R (.returned v) K L):
  D ⟨P,n,ds.map mrk,w0,F⟩ .ret fr K L0 (bKU P fn w0 F K0 R):=fun a w f i=>by
 show LeavesInM Fence.wide 0 P fn a.tmps _ a.defers .returning w
 rw[f.defers];refine aV1 (by simp) (fun w' j=>?_) ds w (i.imp hL)
 exact⟨v,by rw[results_tmp hr];simp[f.get _ _ ht],K,L,h,le,j⟩
end
section
variable{E:Env}{fr:Fr}{K:Hl}{L L1 L2:List Asn}{Q:Post}
def aWK{g:Operand}{ps:Array Tmp}{assign body:Code}{f:FuncId}{caps:Array Value}{RR:Loop→Nat→Nat→Ending→Hl→List Asn→Prop}(hg:fr.ev g=some (.func (.func f) #[] caps))(hL:Tks L1 L L2)
  (hs : ∀ (r : Loop) (l d : Nat), r.state = .ready → r.pending = none → r.params = ps → r.assign = assign → r.body = body → r.tmps.size = E.n → (∀ k v, fr.get k = some v → r.tmps[k]? = some v) →
   Sp E.P f (.func (.yield l) #[] #[]::caps.toList) K (pt l (.loop r)::dblk d::L1) (RR r l d))
  (hend : ∀ r l d e K' L', RR r l d e K' L' → K.le K' → ∃ v r' M, e = .returned v ∧ (∀ h, Sat L' h → Sat (pt l (.loop r') :: M) h) ∧ r'.state ≠ .busy ∧
   match r'.pending with
   |none=>D (E.mark d) .normal fr K' (M++L2) Q
   |some c=>T (E.mark d) c fr K' (M++L2) Q):
  T E (.rangeFunc g ps assign body) fr K L Q:=by
 intro a w fo i;refine(wpIn_wide (n:=0)).1 (wpIn_rangeFunc fun fn _=>?_)
 let r:Loop:={state:=.ready,pending:=none,fn,tmps:=a.tmps,params:=ps,assign,body,defers:=w.heap.size}
 have i3:=(i.alloc (.deferred (some []))).alloc (.loop r);have hsz:({w with heap:=w.heap.push (.deferred (some []))}:World).heap.size=w.heap.size+1:=by simp
 rw[hsz]at i3;obtain⟨F',i1,back⟩:=(i3.imp (M:=(pt (w.heap.size+1) (.loop r)::dblk w.heap.size::L1)++L2) (fun h=>eR fun h=>eR fun h k=>hL.sat h k)).hide;have hs':=hs r (w.heap.size+1) w.heap.size rfl rfl rfl rfl rfl fo.size fo.get;obtain⟨⟨fd,g1,g2,g3⟩,hcall⟩:=hs';have ev:∀x:Value,a.eval (.const x)=x:=fun _=>rfl
 refine⟨w.heap.size+1,[mrk w.heap.size],_,{target:=.fn (.func f) caps,args:= #[.func (.yield (w.heap.size+1)) #[] #[]]},(w.alloc (.deferred (some []))).alloc (.loop r),f,(.func (.yield (w.heap.size+1)) #[] #[]::caps.toList).toArray,(w.alloc (.deferred (some []))).alloc (.loop r),run_enterLoop_outer fn a.tmps ps assign body,?_,fun _ _=>trivial,?_,fun h=>Bool.noConfusion h,callsIn_wide.2 ((hcall F' _ i1).mono fun e w' ⟨K',L',q,le,j⟩=>?_)⟩
 ·simp only[resolve,rangeCall,fo.ev hg,Deferred.ofValue,bind,pure,Sem.bind,List.map_toArray,List.map_cons,List.map_nil,ev,Array.empty_append]
  rfl
 ·have e2: #[Value.func (.yield (w.heap.size+1)) #[] #[]]++caps=(.func (.yield (w.heap.size+1)) #[] #[]::caps.toList).toArray:=by simp
  simp only[invoke];rw[e2];exact aDC g1 g2 g3 _
 obtain⟨v,r',M,rfl,hM,hst,hgo⟩:=hend _ _ _ _ _ _ q le;have j2:In E.w0 E.F K' (pt (w.heap.size+1) (.loop r')::(M++L2)) w':=(back j).imp fun h k=>by
  obtain⟨x,y,hx,hy,hd,rfl⟩:=eY.1 k;exact eY (L:=pt (w.heap.size+1) (.loop r')::M).2 ⟨x,y,hM _ hx,hy,hd,Y⟩
 have hp:=j2.piece;have hlt:w.heap.size+1 < w'.heap.size:=(xBH.1 hp).1;have j3:In E.w0 E.F K' (M++L2) (w'.putObj (w.heap.size+1) (.loop {r' with state:=.exhausted})):=
  (j2.write (o':=.loop {r' with state:=.exhausted}) (H:=w'.heap.setIfInBounds (w.heap.size+1) (.loop {r' with state:=.exhausted})) (by simp) (by simp[hlt]) (fun x hx=>by rw[xBE (Ne.symm hx)])).drop
 have fo':FrOk E.n (mrk w.heap.size::E.ds) fr {a with defers:=[mrk w.heap.size]++a.defers}:=⟨by simp[fo.defers],fo.size,fo.get⟩;refine⟨r'.pending,_,run_endLoop hp hst,?_⟩
 generalize w'.putObj (w.heap.size+1) (.loop {r' with state:=.exhausted})=W at j3 ⊢
 cases hpe:r'.pending with
 |none=>rw[hpe]at hgo;exact hgo _ _ fo' j3
 |some c=>rw[hpe]at hgo;exact wpIn_wide.2 (hgo _ _ fo' j3)
end
def TR(E:Env)(l:Nat)(c:Code)(fr:Fr)(K:Hl)(L:List Asn)(Q:Post):Prop:=
 ∀a w,FrOk E.n E.ds fr a→In E.w0 E.F K L w→c.wpIn (Fence.wide.inRound l) 0 E.P Q a w
def OR(E:Env)(l:Nat)(ops:Array Oper)(os:List Oper)(fr:Fr)(K:Hl)(L:List Asn)(Q:Post):Prop:=
 ∀a w,FrOk E.n E.ds fr a→In E.w0 E.F K L w→wpListIn (Fence.wide.inRound l) 0 E.P ops Q os a w
section
variable{E:Env}{fr:Fr}{K:Hl}{L:List Asn}{Q:Post}{c x y:Code}{ops:Array Oper}{rest:List Oper}{l:Nat}
def bKG(h:D E .normal fr K L Q):TR E l .skip fr K L Q:=fun a w f i=>wpIn_skip (h a w f i)
def bKF{id:Nat}(h:D E (.exit id) fr K L Q):TR E l (.exit id) fr K L Q:=fun a w f i=>wpIn_exit (h a w f i)
def aRE{id:Nat}(h:TR E l c fr K L (Exit.inBlock id Q)):TR E l (.block id c) fr K L Q:=fun a w f i=>wpIn_block (h a w f i)
def aLJ{id:Nat}{os:List Oper}(h:OR E l os.toArray os fr K L Q):TR E l (.region id os.toArray false) fr K L Q:=fun a w f i=>wpIn_region_lit (h a w f i)
def bEM(h:D E .normal fr K L Q):OR E l ops [] fr K L Q:=fun a w f i=>wpListIn_nil (h a w f i)
def aV3:Op→Bool| .defer _=>false|_=>true
def aA2{o:Oper}(h:aV3 o.op=true):∀c,o.op≠.defer c:=fun c e=>by rw[e]at h;cases h
def bEL{d:Nat}{op:Op}{ty:TypeId}{pos:String}{aft:Array Edge}{v:Value}(hv:Ev E fr K L ⟨some d,op,ty,pos,aft,none⟩ v)(hd:Nat.blt d E.n=true)(ho:aV3 op=true)
  (h:OR E l ops rest ((d,v)::fr) K L Q):OR E l ops (⟨some d,op,ty,pos,aft,none⟩::rest) fr K L Q:=by
 intro a w f i;refine wpListIn_plain Y fun k hk=>⟨fun _ _=>trivial,?_⟩
 rw[Oper.semAt_eq _ _ _ (aA2 ho),hv a w f i];exact hk _ _ (h _ _ (f.put hd v) i)
def bON{d:Nat}{op:Op}{ty:TypeId}{pos:String}{aft:Array Edge}{N:Value→Hl→List Asn→Prop}(hv:EfS E fr K L ⟨some d,op,ty,pos,aft,none⟩ N)(hd:Nat.blt d E.n=true)(ho:aV3 op=true)
  (h:∀v K' L',N v K' L'→K.le K'→OR E l ops rest ((d,v)::fr) K' L' Q):OR E l ops (⟨some d,op,ty,pos,aft,none⟩::rest) fr K L Q:=by
 intro a w f i;refine wpListIn_plain Y fun k hk=>⟨fun _ _=>trivial,?_⟩
 rw[Oper.semAt_eq _ _ _ (aA2 ho)];obtain⟨u,w',K',L',hr,hN,le,j⟩:=hv a w f i;rcases hr with hr|⟨hr,rfl⟩
 ·rw[hr];exact hk _ _ (h _ _ _ hN le _ _ (f.put hd u) j)
 rw[hr];exact hk _ _ (h _ _ _ hN le _ _ (f.put hd _) j)
def bOO{op:Op}{ty:TypeId}{pos:String}{aft:Array Edge}{N:Value→Hl→List Asn→Prop}(hv:EfS E fr K L ⟨none,op,ty,pos,aft,none⟩ N)(ho:aV3 op=true)
  (h:∀v K' L',N v K' L'→K.le K'→OR E l ops rest fr K' L' Q):OR E l ops (⟨none,op,ty,pos,aft,none⟩::rest) fr K L Q:=by
 intro a w f i;refine wpListIn_plain Y fun k hk=>⟨fun _ _=>trivial,?_⟩
 rw[Oper.semAt_eq _ _ _ (aA2 ho)];obtain⟨u,w',K',L',hr,hN,le,j⟩:=hv a w f i;rcases hr with hr|⟨hr,rfl⟩
 ·rw[hr];exact hk _ _ (h _ _ _ hN le _ _ f j)
 rw[hr];exact hk _ _ (h _ _ _ hN le _ _ f j)
end
end Go.SL
namespace Go.Loop
abbrev bz(r:Loop):Loop:={r with state:=.busy}
end Go.Loop
namespace Go.SL
open R (Yl)
def bNX(P:Program)(l:Nat)(r:Loop)(w0:World)(F K0:Hl)(R:Bool→Hl→List Asn→Prop):Post
 | .normal,_,w=>∃K' M,In w0 F K' (pt l (.loop r.bz)::M) w∧K0.le K'∧R true K' (pt l (.loop r.on)::M)
 | .exit id,_,w=>∃K' M,In w0 F K' (pt l (.loop r.bz)::M) w∧K0.le K'∧R false K' (pt l (.loop (r.off (.exit id)))::M)
 |_,_,_=>False
def bLV{P:Program}{l p n:Nat}{r:Loop}{v:Value}{fr0 fr1:Fr}{K:Hl}{L:List Asn}{R:Bool→Hl→List Asn→Prop}(hr:r.state=.ready)(hp:r.params= #[p])(hpn:Nat.blt p n=true)(hsz:r.tmps.size=n)
  (hfr:∀k v,fr0.get k=some v→r.tmps[k]?=some v)
  (hA:∀(F:Hl) (w:World) (Q:Post),D ⟨P,n,[],w,F⟩ .normal fr1 K (pt l (.loop r)::L) Q→TR ⟨P,n,[],w,F⟩ l r.assign ((p,v)::fr0) K (pt l (.loop r)::L) Q)
  (hB:∀(F:Hl) (w:World),TR ⟨P,n,[],w,F⟩ l r.body fr1 K (pt l (.loop r.bz)::L) (bNX P l r w F K R)):Yl P l [v] K (pt l (.loop r)::L) R:=by
 intro F w i;have hc:=i.piece;refine⟨r.fn,_,r.assign,r.body,run_yield hc (by simp[hp]),roundIn_of_wpIn trivial ?_⟩
 have f0:FrOk n [] ((p,v)::fr0) {tmps:=r.tmps.setIfInBounds p v,defers:=[]}:=FrOk.put (a:={tmps:=r.tmps,defers:=[]}) ⟨rfl,hsz,hfr⟩ hpn v;have e0:(r.params.zip [v].toArray).foldl (fun tmps (t,a)=>tmps.setIfInBounds t a) r.tmps=r.tmps.setIfInBounds p v:=by simp[hp]
 rw[e0];refine hA F w _ (fun a₁ w₁ f₁ j=>?_) _ _ f0 i
 have hc1:=j.piece;refine⟨_,run_beginRound hc1 hr,?_⟩
 have hlt:l < w₁.heap.size:=(xBH.1 hc1).1;have j2:In w F K (pt l (.loop r.bz)::L) (w₁.putObj l (.loop r.bz)):=
  j.write (o':=.loop r.bz) (H:=w₁.heap.setIfInBounds l (.loop r.bz)) (by simp) (by simp[hlt]) (fun x hx=>by rw[xBE (Ne.symm hx)])
 refine wpIn_mono (hB F w _ _ f₁ j2) fun e a w' q=>?_;have fin:∀(jump:Option Code) (K':Hl) (M:List Asn) (r':Loop),In w F K' (pt l (.loop r.bz)::M) w'→K.le K'→r'={r.bz with state:=if jump.isNone then .ready else .done,pending:=jump}→R jump.isNone K' (pt l (.loop r')::M)→
   ∃v w'',(Instr.endRound l jump).run P w'=.ok v w''∧∃b K' L',Ending.returned v=.returned (.bool b)∧R b K' L'∧K.le K'∧In w F K' L' w'':=by
  intro jump K' M r' j le er hR;have hc2:=j.piece;have hlt2:l < w'.heap.size:=(xBH.1 hc2).1;refine⟨_,_,run_endRound jump hc2,jump.isNone,K',_,Y,hR,le,?_⟩
  subst er;exact j.write (H:=w'.heap.setIfInBounds l _) (by simp) (by simp[hlt2]) (fun x hx=>by rw[xBE (Ne.symm hx)])
 cases e with
 |normal=>obtain⟨K',M,j,le,hR⟩:=q;exact fin none K' M _ j le Y hR
 |exit id=>obtain⟨K',M,j,le,hR⟩:=q;exact fin (some (.exit id)) K' M _ j le Y hR
 |goto t=>exact q.elim
 |ret=>exact q.elim
 |panic ch=>exact q.elim
 |outgrown=>exact q.elim
def bHM{P:Program}{l:Nat}{vs:List Value}{K:Hl}{L L':List Asn}{R:Bool→Hl→List Asn→Prop}(k:∀h,Sat L h→Sat L' h)(h:Yl P l vs K L' R):Yl P l vs K L R:=
 fun F w i=>h F w (i.imp k)
def aW0{P:Program}{l:Nat}{vs:List Value}{K:Hl}{L:List Asn}{R R':Bool→Hl→List Asn→Prop}(h:Yl P l vs K L R)(k:∀b K' L',R b K' L'→∃L'',(∀h,Sat L' h→Sat L'' h)∧R' b K' L''):Yl P l vs K L R':=by
 intro F w i;obtain⟨fn,t,x,y,e,hr⟩:=h F w i;refine⟨fn,t,x,y,e,hr.mono fun en w' ⟨b,K',L',e1,r,le,j⟩=>?_⟩
 obtain⟨L'',hs,r'⟩:=k _ _ _ r;exact⟨b,K',L'',e1,r',le,j.imp hs⟩
def bOL{r:Loop}(h1:r.state=.ready)(h2:r.pending=none):r.on=r:=by cases r;simp_all
section
variable{E:Env}{fr:Fr}{K:Hl}{L:List Asn}{Q:Post}{c:Code}
def aNG(h:T E c fr K L (Exit.noGoto Q)):T E (.scope c) fr K L Q:=fun a w f i=>wp_scope_straight (h a w f i)
def qX(h:D E .ret fr K L Q):D E .ret fr K L (Exit.noGoto Q):=h
def bJ2{ι:Type}(I:ι→Prop)(ds':ι→List Deferred)(fr':ι→Fr)(K':ι→Hl)(L':ι→List Asn)(μ:ι→Nat)(i0:ι)(h0:I i0)(hd:ds' i0=E.ds)(k:Kp fr (fr' i0))(hK:K' i0=K)(hL:∀h,Sat L h→Sat (L' i0) h)
  (round:∀i,I i→T ⟨E.P,E.n,ds' i,E.w0,E.F⟩ c (fr' i) (K' i) (L' i) (Exit.then (fun a w=>∃j,I j∧μ j < μ i∧FrOk E.n (ds' j) (fr' j) a∧In E.w0 E.F (K' j) (L' j) w) Q)):T E (.loop c) fr K L Q:=by
 intro a w f i b kk cs;have key:∀n j,μ j=n→I j→∀a w,FrOk E.n (ds' j) (fr' j) a→In E.w0 E.F (K' j) (L' j) w→
   ∃e a' w',Q e a' w'∧Arrives E.P (lone (b.at a (.code c::.inLoop c::kk)) cs w) b kk cs e a' w':=by
  intro n;induction n using Nat.strongRecOn with
  |_ n ih=>
   intro j hj hIj a w f i;obtain⟨e,a₁,w₁,hq,harr⟩:=round j hIj a w f i b (.inLoop c::kk) cs;cases e with
   |normal=>
    obtain⟨j',hI',hlt,f',i'⟩:=hq;obtain⟨e₂,a₂,w₂,hq₂,harr₂⟩:=ih _ (hj▸hlt) j' rfl hI' _ _ f' i';exact⟨e₂,a₂,w₂,hq₂,.of_steps (Steps.trans harr (.one step_inLoop)) harr₂⟩
   |exit id=>exact⟨_,a₁,w₁,hq,.pass (x:=.inLoop c) Y (fun _ _=>.inl (by simp)) harr⟩
   |goto l=>exact⟨_,a₁,w₁,hq,.pass (x:=.inLoop c) Y (fun _ _=>.inl (by simp)) harr⟩
   |ret=>exact⟨_,a₁,w₁,hq,.pass (x:=.inLoop c) Y (fun _ _=>.inl (by simp)) harr⟩
   |panic ch=>exact⟨_,a₁,w₁,hq,.pass (x:=.inLoop c) Y (fun _ _=>.inl (by simp)) harr⟩
   |outgrown=>exact⟨_,a₁,w₁,hq,.pass (x:=.inLoop c) Y (fun _ _=>.inl (by simp)) harr⟩
 have f0:FrOk E.n (ds' i0) (fr' i0) a:=by rw[hd];exact f.keep k
 obtain⟨e,a',w',hq,harr⟩:=key _ i0 rfl h0 a w f0 (by rw[hK];exact i.imp hL);exact⟨e,a',w',hq,.of_steps (.one step_loop) harr⟩
def bCN{ι:Type}{P:Program}{n:Nat}{ds:List Deferred}{w0:World}{F:Hl}{I:ι→Prop}{ds':ι→List Deferred}{fr':ι→Fr}{K':ι→Hl}{L':ι→List Asn}{μ:ι→Nat}{m:Nat}(j:ι)(hj:I j)(hlt:μ j < m)(hd:ds' j=ds)(k:Kp fr (fr' j))(hK:K' j=K)(hL:∀h,Sat L h→Sat (L' j) h):
  D ⟨P,n,ds,w0,F⟩ .normal fr K L (Exit.then (fun a w=>∃j,I j∧μ j < m∧FrOk n (ds' j) (fr' j) a∧In w0 F (K' j) (L' j) w) Q):=
 fun a w f i=>⟨j,hj,hlt,by rw[hd];exact f.keep k,by rw[hK];exact i.imp hL⟩
end
end Go.SL
end
section
namespace Go.SL
open Go.MapKept
abbrev keyA(i j:Nat):Value:=.agg #[i64 i,i64 j]
abbrev EntA:=(Nat×Nat)×Nat
def entA(p:EntA):MapEntry:={key:=keyA p.1.1 p.1.2,val:=i64 1,born:=p.2}
abbrev mapA(es:List EntA)(c:Nat):Obj:=.map (es.map entA).toArray c
structure KeyA (P:Program) (kt:TypeId):Prop where
 arr:∃e,P.underlying kt=some (.array 2 e)∧P.underlying e=some (.int .i64)∧P.plainKey e=true∧P.cellsOf e=1∧∃i,P.info? e=some i
section
variable{P:Program}{w:World}{kt:TypeId}
def eqA(h:KeyA P kt)(a b c d:Nat):(Op.equal kt (keyA a b) (keyA c d)).run P w=.ok (decide ((a,b)=(c,d))) w:=by
 obtain⟨e,h1,h2,h3,h4,i,h5⟩:=h.arr
 show (Op.equalIn (9999+1) kt _ _).run P w=_
 rw[run_equalIn_array w 9999 _ _ h1 h5,h4];have p:∀(x y:Nat) (o:Nat) (v:Value),(#[i64 x,i64 y]:Array Value)[o]?=some v→(part e #[i64 x,i64 y] o).run P w=.ok v w:=fun x y o v h=>run_part_plain w h3 h
 have q:∀(x y:Nat),(Op.equalIn 9999 e (i64 x) (i64 y)).run P w=.ok ((x:Int)==y) w:=fun x y=>run_equalIn_int w 9998 e .i64 .i64 x y h2
 show (Op.eqItems 9999 e 1 _ _ [0,1]).run P w=_
 unfold Op.eqItems;rw[bJ (p a b 0 (i64 a) rfl),bJ (p c d 0 (i64 c) rfl),bJ (q a c)]
 by_cases h:a=c
 ·subst h;rw[x5 (by simp)];unfold Op.eqItems;rw[bJ (p a b 1 (i64 b) rfl),bJ (p a d 1 (i64 d) rfl),bJ (q b d)]
  by_cases h2:b=d
  ·subst h2;simp[Op.eqItems,pure,Sem.run]
  rw[x7 gC7];simp[h2,pure,Sem.run]
 rw[x7 gC7];simp[h,pure,Sem.run]
def bB7(h:KeyA P kt)(b:Bool)(i j:Nat):(Instr.checkKey b 10000 kt (keyA i j)).run P w=.ok () w:=by
 obtain⟨e,h1,h2,h3,h4,inf,h5⟩:=h.arr;have p:∀(o:Nat) (v:Value),(#[i64 i,i64 j]:Array Value)[o]?=some v→(part e #[i64 i,i64 j] o).run P w=.ok v w:=fun o v h=>run_part_plain w h3 h
 have c:∀(n:Nat),(Instr.checkKey b 9999 e (i64 n)).run P w=.ok () w:=fun n=>run_checkKey h2 (d:=.int .i64) (k:=i64 n) (by trivial) b 9998
 have s:(sizeOf e).run P w=.ok 1 w:=by rw[run_sizeOf w h5,h4]
 show (Instr.checkKey b (9999+1) kt _).run P w=_
 unfold Instr.checkKey;rw[bJ (run_underlying h1 w)];simp only[Std.Legacy.Range.forIn_eq_forIn_range',Std.Legacy.Range.size];simp[List.range'_succ,Sem.run_bind,s,Result.andThen,p 0 (i64 i) rfl,p 1 (i64 j) rfl,c]
def wV(k:Nat×Nat):List EntA→Nat→Option (Nat×Value)
 | [],_=>none
 |e::es,i=>if k=e.1 then some (i,i64 1)else wV k es (i+1)
def bP8(h:KeyA P kt)(k:Nat×Nat):∀(es:List EntA) (i:Nat),(Instr.findAsking kt (keyA k.1 k.2) (es.map entA) i).run P w=.ok (wV k es i) w:=by
 intro es;induction es with
 |nil=>intro i;rfl
 |cons e es ih=>
  intro i
  show (Instr.findAsking kt (keyA k.1 k.2) (entA e::es.map entA) i).run P w=_
  unfold Instr.findAsking wV;rw[show (entA e).key=keyA e.1.1 e.1.2 from rfl,bJ (eqA h k.1 k.2 e.1.1 e.1.2)]
  by_cases hk:k=e.1
  ·rw[x7 (xAM (show (k.1,k.2)=(e.1.1,e.1.2)from hk)),x7 hk];rfl
  rw[x5 (fun h=>hk (xAH h)),x5 hk];exact ih _
def bKW(h:KeyA P kt)(k:Nat×Nat)(es:List EntA):(Instr.findKey kt (keyA k.1 k.2) (es.map entA)).run P w=.ok (wV k es 0) w:=by
 obtain⟨e,h1,_⟩:=h.arr;unfold Instr.findKey;rw[bJ (run_underlying h1 w)];cases es with
 |nil=>rfl
 |cons x xs=>exact bP8 h k (x::xs) 0
def aJL(k:Nat×Nat):∀(es:List EntA) (i:Nat),(wV k es i).isSome=decide (k∈es.map (·.1)):=by
 intro es;induction es with
 |nil=>intro i;simp[wV]
 |cons e es ih=>
  intro i;unfold wV
  by_cases hk:k=e.1
  ·simp[hk]
  rw[x5 hk,ih];simp[hk]
end
section
variable{E:Env}{fr:Fr}{K:Hl}{L L':List Asn}{Q:Post}{dst:Option Tmp}{ty:TypeId}{pos:String}{aft:Array Edge}{g:Option (Nat×Bool)}{x y m:Operand}{t kt et b c i j:Nat}{v z:Value}{es:List EntA}
def aSN(hm:E.P.underlying t=some (.map kt et))(hk:KeyA E.P kt)(hz:iK E.P et=some z)(hx:fr.ev x=some (.map (some b)))(hy:fr.ev y=some (keyA i j))(hs:Sees K L b (mapA es c)):
  Ev E fr K L ⟨dst,.lookup t x y true,ty,pos,aft,g⟩ (.tuple #[if (i,j)∈es.map (·.1)then i64 1 else z,.bool (decide ((i,j)∈es.map (·.1)))]):=fun a w f q=>by
 simp only[execOp,f.ev hx,f.ev hy];refine fO ?_;have hb:=hs.at q;have h1:(Instr.checkKey (es.map entA).toArray.isEmpty 10000 kt (keyA i j)).run E.P w=.ok () w:=bB7 hk _ i j;have h2:(Instr.findKey kt (keyA i j) (es.map entA)).run E.P w=_:=bKW (w:=w) hk (i,j) es;have h3:(zeroValue et).run E.P w=.ok z w:=by
  unfold iK at hz;cases hi:E.P.info? et with
  |none=>simp[hi]at hz
  |some inf=>simp[hi]at hz;simp only[zeroValue,typeInfo,program,bind,Sem.bind,pure,Sem.run,hi,hz]
 have h4:=aJL (i,j) es 0;have h5:∀(es:List EntA) (o:Nat) (p:Nat×Value),wV (i,j) es o=some p→p.2=i64 1:=by
  intro es;induction es with
  |nil=>intro o p h;cases h
  |cons e es ih=>
   intro o p h;unfold wV at h;split at h
   ·cases h;rfl
   exact ih _ _ h
 unfold Instr.lookup;rw[bJ (run_underlying hm w)];simp only[]
 show ((getObj b)>>=fun _=>_).run E.P w=_
 rw[bJ (MapKept.run_getObj_map hb)];simp only[];rw[bJ (uY _ _),bJ h1]
 show ((Instr.findKey kt (keyA i j) (es.map entA))>>=fun _=>_).run E.P w=_
 rw[bJ h2];cases hf:wV (i,j) es 0 with
 |some p=>
  rw[hf]at h4;have hm:(i,j)∈es.map (·.1):=by simpa using h4.symm
  rw[x7 hm,xAM hm,←h5 es 0 p hf];rfl
 |none=>
  rw[hf]at h4;have hm:¬(i,j)∈es.map (·.1):=by simpa using h4.symm
  rw[x5 hm,xAJ hm]
  show ((zeroValue et)>>=fun _=>_).run E.P w=_
  rw[bJ h3];rfl
def bM5(hm:E.P.underlying t=some (.map kt et))(hk:KeyA E.P kt)(hx:fr.ev m=some (.map (some b)))(hy:fr.ev x=some (keyA i j))(hv:fr.ev y=some (i64 1))(hn:(i,j)∉es.map (·.1))
  (hF:Fnd (pt b (mapA es c)) (pt b (mapA (es++[((i,j),c)]) (c+1))) L L'):EfS E fr K L ⟨dst,.mapUpdate t m x y,ty,pos,aft,g⟩ (fun _ K' L''=>K'=K∧L''=L'):=by
 intro a w f q;have hb:=q.mem hF;have h1:(Instr.checkKey false 10000 kt (keyA i j)).run E.P w=.ok () w:=bB7 hk _ i j;have h2:(Instr.findKey kt (keyA i j) (es.map entA)).run E.P w=_:=bKW (w:=w) hk (i,j) es;have hf:wV (i,j) es 0=none:=by
  have:=aJL (i,j) es 0;rw[xAJ hn]at this
  simpa using this
 have hr:(execOp a.eval ⟨dst,.mapUpdate t m x y,ty,pos,aft,g⟩).run E.P w=.ok .skip {w with heap:=w.heap.setIfInBounds b (mapA (es++[((i,j),c)]) (c+1))}:=by
  simp only[execOp,f.ev hx,f.ev hy,f.ev hv];have:(Instr.mapUpdate t (.map (some b)) (keyA i j) (i64 1)).run E.P w=.ok () {w with heap:=w.heap.setIfInBounds b (mapA (es++[((i,j),c)]) (c+1))}:=by
   unfold Instr.mapUpdate;rw[bJ (run_underlying hm w)];simp only[]
   show ((getObj b)>>=fun _=>_).run E.P w=_
   rw[bJ (MapKept.run_getObj_map hb)];simp only[];rw[bJ h1]
   show ((Instr.findKey kt (keyA i j) (es.map entA))>>=fun _=>_).run E.P w=_
   rw[bJ h2,hf]
   show (setObj b _).run E.P w=_
   rw[MapKept.run_setObj_map _ hb];have e1:(es.map entA).toArray.push {key:=keyA i j,val:=i64 1,born:=c}=((es++[((i,j),c)]).map entA).toArray:=by simp[entA]
   rw[e1]
  rw[bJ this];rfl
 have hs:=MapKept.heap_set (o':=mapA (es++[((i,j),c)]) (c+1)) hb;exact⟨_,_,_,_,.inr ⟨hr,Y⟩,⟨Y,Y⟩,xAB _,q.writeAt hF (by simp) hs.1 hs.2⟩
end
def aX0{E:Env}{fr:Fr}{K:Hl}{L:List Asn}{dst:Option Tmp}{ty:TypeId}{pos:String}{aft:Array Edge}{g:Option (Nat×Bool)}{x y:Operand}{t:TypeId}{a b:Int}(hk:KeyA E.P t)(hz:iK E.P t=some (.agg #[i64 0,i64 0]))(hx:fr.ev x=some (i64 a))(hy:fr.ev y=some (i64 b)):
  Ev E fr K L ⟨dst,.build t #[(0,x),(1,y)],ty,pos,aft,g⟩ (.agg #[i64 a,i64 b]):=fun ac w f j=>by
 obtain⟨e,h1,h2,h3,h4,inf,h5⟩:=hk.arr;have hz3:(zeroValue t).run E.P w=.ok (.agg #[i64 0,i64 0]) w:=by
  unfold iK at hz;cases hi:E.P.info? t with
  |none=>simp[hi]at hz
  |some inf=>simp[hi]at hz;simp only[zeroValue,typeInfo,program,bind,Sem.bind,pure,Sem.run,hi,hz]
 have s:(sizeOf e).run E.P w=.ok 1 w:=by rw[run_sizeOf w h5,h4]
 simp only[execOp];refine fO ?_;have em:Array.map (fun(p:Nat×Operand)=>(p.1,ac.eval p.2)) #[(0,x),(1,y)]= #[(0,i64 a),(1,i64 b)]:=by simp[f.ev hx,f.ev hy]
 show (Instr.build t (Array.map (fun(p:Nat×Operand)=>(p.1,ac.eval p.2)) #[(0,x),(1,y)])).run E.P w=_
 rw[em];unfold Instr.build;rw[bJ hz3,bJ (run_underlying h1 w)];simp only[];rw[bJ s]
 rfl
def bH9{E:Env}{fr:Fr}{K:Hl}{L L':List Asn}{o:Oper}{N:Value→Hl→List Asn→Prop}(k:∀h,Sat L h→Sat L' h)(h:EfS E fr K L' o N):EfS E fr K L o N:=fun a w f i=>h a w f (i.imp k)
section
variable{E:Env}{c x y:Code}{fr:Fr}{K:Hl}{L:List Asn}{Q:Post}{α1 α2 α3 α4 α5:Type}
def Mid5(E:Env)(I:α1→α2→α3→α4→α5→Prop)(fr:α1→α2→α3→α4→α5→Fr)(K:α1→α2→α3→α4→α5→Hl)(L:α1→α2→α3→α4→α5→List Asn):Act→World→Prop:=fun a w=>∃i1 i2 i3 i4 i5,I i1 i2 i3 i4 i5∧FrOk E.n E.ds (fr i1 i2 i3 i4 i5) a∧In E.w0 E.F (K i1 i2 i3 i4 i5) (L i1 i2 i3 i4 i5) w
def bJ3(I:α1→α2→α3→α4→α5→Prop)(fr':α1→α2→α3→α4→α5→Fr)(K':α1→α2→α3→α4→α5→Hl)(L':α1→α2→α3→α4→α5→List Asn)(h1:T E x fr K L (Exit.then (Mid5 E I fr' K' L') Q))(h2:∀i1 i2 i3 i4 i5,I i1 i2 i3 i4 i5→T E y (fr' i1 i2 i3 i4 i5) (K' i1 i2 i3 i4 i5) (L' i1 i2 i3 i4 i5) Q):
  T E (.seq x y) fr K L Q:=by
 intro a w f i;refine wp_seq (Code.wp_mono (fun e a w q=>?_) (h1 a w f i))
 cases e <;> first|exact q|(obtain⟨i1,i2,i3,i4,i5,hj,fj,ij⟩:=q;exact h2 i1 i2 i3 i4 i5 hj _ _ fj ij)
def dC{I:α1→α2→α3→α4→α5→Prop}{fr':α1→α2→α3→α4→α5→Fr}{K':α1→α2→α3→α4→α5→Hl}{L':α1→α2→α3→α4→α5→List Asn}(i1:α1)(i2:α2)(i3:α3)(i4:α4)(i5:α5)(hi:I i1 i2 i3 i4 i5)(k:Kp fr (fr' i1 i2 i3 i4 i5))(hK:K' i1 i2 i3 i4 i5=K)(hL:∀h,Sat L h→Sat (L' i1 i2 i3 i4 i5) h):
  D E .normal fr K L (Exit.then (Mid5 E I fr' K' L') Q):=fun a w f q=>⟨i1,i2,i3,i4,i5,hi,f.keep k,by rw[hK];exact q.imp hL⟩
end
end Go.SL
end
section
namespace Go.SL
abbrev itr(b:Nat)(l:List UInt8)(p:Nat):Asn:=pt b (.stringIter ⟨l.toArray⟩ p)
abbrev dec(l:List UInt8)(p:Nat):Nat×Nat:=Utf8.decode ⟨l.toArray⟩ p
section
variable{E:Env}{fr:Fr}{K:Hl}{L L':List Asn}{dst:Option Tmp}{ty:TypeId}{pos:String}{aft:Array Edge}{g:Option (Nat×Bool)}{x:Operand}{t:TypeId}{l:List UInt8}{b p:Nat}
def aH7(hu:E.P.underlying t=some .string)(hx:fr.ev x=some (str l)):EfS E fr K L ⟨dst,.range t x,ty,pos,aft,g⟩ (fun v K' L'=>∃b,v=ptr b∧K'=K∧L'=itr b l 0::L):=by
 intro a w f i;refine⟨ptr w.heap.size,w.iter ⟨l.toArray⟩ 0,K,itr w.heap.size l 0::L,.inl ?_,⟨_,Y,Y,Y⟩,xAB _,i.alloc _⟩
 simp only[execOp,f.ev hx,bind];exact bJ (run_range_string w t ⟨l.toArray⟩ hu)
def aH6(hp:p < l.length)(hx:fr.ev x=some (ptr b))(hT:Fnd (itr b l p) (itr b l (p+(dec l p).2)) L L'):
  EfS E fr K L ⟨dst,.next x true,ty,pos,aft,g⟩ (fun v K' L''=>v=.tuple #[.bool true,i64 p,.int .i32 (dec l p).1]∧K'=K∧L''=L'):=by
 intro a w f i;have hb:=i.mem hT;have hp':p < (⟨l.toArray⟩:ByteArray).size:=by simpa[ByteArray.size]using hp
 refine⟨_,w.iterAt b ⟨l.toArray⟩ (p+(dec l p).2),K,L',.inl ?_,⟨Y,Y,Y⟩,xAB _,?_⟩
 ·simp only[execOp,f.ev hx,bind];exact bJ (Lib.run_next_any_at w b ⟨l.toArray⟩ p ty hb hp')
 have hlt:b < w.heap.size:=(xBH.1 hb).1;exact i.writeAt hT (H:=w.heap.setIfInBounds b (.stringIter ⟨l.toArray⟩ (p+(dec l p).2))) (by simp) (by simp[hlt]) (fun y hy=>by rw[xBE (Ne.symm hy)])
def aKM(hp:¬p < l.length)(hx:fr.ev x=some (ptr b))(hT:Hs (itr b l p) L):
  EfS E fr K L ⟨dst,.next x true,ty,pos,aft,g⟩ (fun v K' L''=>v=.tuple #[.bool false]∧K'=K∧L''=L):=by
 intro a w f i;have hb:=(Sees.own (K:=K) hT).at i;have hp':¬p < (⟨l.toArray⟩:ByteArray).size:=by simpa[ByteArray.size]using hp
 refine⟨_,w,K,L,.inl ?_,⟨Y,Y,Y⟩,xAB _,i⟩
 simp only[execOp,f.ev hx,bind];exact bJ (Lib.run_next_end_at w b ⟨l.toArray⟩ p ty hb hp')
end
def bBW(l:List UInt8)(p:Nat)(h:p < l.length):(⟨l.toArray⟩:ByteArray).get! p=l[p]:=by
 have hps:p < (⟨l.toArray⟩:ByteArray).size:=by simpa[ByteArray.size]using h
 have:=get_at ⟨l.toArray⟩ p hps;rw[Nat.add_zero]at this;rw[this];rfl
def bL6{l:List UInt8}{p:Nat}{c:UInt8}(hc:l[p]?=some c)(h:c.toNat < 128):dec l p=(c.toNat,1):=by
 have hp:p < l.length:=by
  rcases xAC p l.length with h'|h'
  ·exact h'
  rw[xAD h']at hc;cases hc
 have hcl:l[p]=c:=by rw[x4 hp]at hc;exact xAY hc
 have hps:p < (⟨l.toArray⟩:ByteArray).size:=by simpa[ByteArray.size]using hp
 have e:(⟨l.toArray⟩:ByteArray)[p]'hps=c:=hcl;have:=decode_ascii ⟨l.toArray⟩ p hps (by rw[e];exact h);rw[e]at this;exact this
def bL5{l:List UInt8}{p:Nat}{c:UInt8}(hc:l[p]?=some c)(h:128≤c.toNat):
    128≤(dec l p).1∧(dec l p).1≤2147483647∧1≤(dec l p).2∧p+(dec l p).2≤l.length∧∀j d,p≤j→j < p+(dec l p).2→l[j]?=some d→128≤d.toNat:=by
  have hp:p < l.length:=by
    rcases xAC p l.length with h'|h'
    · exact h'
    rw[xAD h']at hc;cases hc
  have hcl:l[p]=c:=by rw[x4 hp]at hc;exact xAY hc
  have hps:p < (⟨l.toArray⟩:ByteArray).size:=by simpa[ByteArray.size]using hp
  have hsz:(⟨l.toArray⟩:ByteArray).size=l.length:=by simp[ByteArray.size]
  have e:(⟨l.toArray⟩:ByteArray)[p]'hps=c:=hcl;have h1:=decode_high ⟨l.toArray⟩ p hps (by rw[e];exact h);have h2:=decode_le ⟨l.toArray⟩ p;refine⟨h1.1,h2,h1.2,?_⟩
  have hb0:((⟨l.toArray⟩:ByteArray).get! (p+0)).toNat=c.toNat:=by rw[Nat.add_zero,bBW l p hp,hcl]
  have cont:∀k,p+k < l.length→((⟨l.toArray⟩:ByteArray).get! (p+k)).toNat / 64=2→∀d,l[p+k]?=some d→128≤d.toNat:=by
    intro k hk hq d hd;rw[bBW l _ hk]at hq;rw[x4 hk]at hd;cases hd;omega
  have key:∀n,(∀k,1≤k→k < n→p+k < l.length∧((⟨l.toArray⟩:ByteArray).get! (p+k)).toNat / 64=2)→1≤n→(dec l p).2=n→p+(dec l p).2≤l.length∧∀j d,p≤j→j < p+(dec l p).2→l[j]?=some d→128≤d.toNat:=by
    intro n hk hn he;rw[he];refine⟨?_,fun j d hj hj2 hd=>?_⟩
    · rcases xAC 1 n with h3|h3
      · have:=(hk (n - 1) aH aH).1;omega
      omega
    rcases xAC p j with h3|h3
    · obtain⟨q1,q2⟩:=hk (j - p) aH aH;have ej:p+(j - p)=j:=by omega
      exact cont (j - p) q1 q2 d (by rw[ej];exact hd)
    have:j=p:=by omega
    subst this;rw[hc]at hd;cases hd;exact h
  have hn:¬(((⟨l.toArray⟩:ByteArray).get! (p+0)).toNat < 128):=by rw[hb0];omega
  have hone:(dec l p).2=1→p+(dec l p).2≤l.length∧∀j d,p≤j→j < p+(dec l p).2→l[j]?=some d→128≤d.toNat:=key 1 (fun k h1 h2=>by omega) (xAA _);obtain⟨D,hD⟩:∃D,D=Utf8.decode ⟨l.toArray⟩ p:=⟨_,rfl⟩;have hD2:dec l p=D:=hD.symm;rw[hD2]at key hone ⊢;have unf:=hD;simp only[Utf8.decode,hn,if_false]at unf;split at unf
  · rename_i hq;simp only[Bool.and_eq_true,beq_iff_eq,decide_eq_true_eq,hsz]at hq;split at unf
    · exact key 2 (fun k k1 k2 => by obtain rfl : k = 1 := by omega
                                     exact hq.2) aH (by rw[unf])
    exact hone (by rw[unf])
  split at unf
  · rename_i hq;simp only[Bool.and_eq_true,beq_iff_eq,decide_eq_true_eq,hsz]at hq;split at unf
    · exact key 3 (fun k k1 k2 => by
        rcases(show k=1∨k=2 by omega)with rfl|rfl
        · exact hq.1.2
        exact hq.2) aH (by rw[unf])
    exact hone (by rw[unf])
  split at unf
  · rename_i hq;simp only[Bool.and_eq_true,beq_iff_eq,decide_eq_true_eq,hsz]at hq;split at unf
    · exact key 4 (fun k k1 k2 => by
        rcases(show k=1∨k=2∨k=3 by omega)with rfl|rfl|rfl
        · exact hq.1.1.2
        · exact hq.1.2
        exact hq.2) aH (by rw[unf])
    exact hone (by rw[unf])
  exact hone (by rw[unf])
section
variable{E:Env}{fr:Fr}{K:Hl}{L:List Asn}{L':Nat→List Asn}{dst:Option Tmp}{ty:TypeId}{pos:String}{aft:Array Edge}{g:Option (Nat×Bool)}{x:Operand}{t t2:TypeId}{l:List UInt8}{b p:Nat}{c:UInt8}
def aQH(hc:l[p]?=some c)(h:c.toNat < 128)(hx:fr.ev x=some (ptr b))(hT:∀n,Fnd (itr b l p) (itr b l (p+n)) L (L' n)):
  EfS E fr K L ⟨dst,.next x true,ty,pos,aft,g⟩ (fun v K' L''=>v=.tuple #[.bool true,i64 p,.int .i32 c.toNat]∧K'=K∧L''=L' 1):=by
 intro a w f i;have hd:=bL6 hc h;have:=aH6 (dst:=dst) (ty:=ty) (pos:=pos) (aft:=aft) (g:=g) (lA hc) hx (hT (dec l p).2) a w f i;rw[hd]at this;exact this
def bFZ(hc:l[p]?=some c)(h:128≤c.toNat)(hx:fr.ev x=some (ptr b))(hT:∀n,Fnd (itr b l p) (itr b l (p+n)) L (L' n)):
  EfS E fr K L ⟨dst,.next x true,ty,pos,aft,g⟩ (fun v K' L''=>∃r n:Nat,v=.tuple #[.bool true,i64 p,.int .i32 r]∧K'=K∧L''=L' n∧128≤r∧r≤2147483647∧1≤n∧p+n≤l.length∧∀j d,p≤j→j < p+n→l[j]?=some d→128≤d.toNat):=by
 intro a w f i;obtain⟨d1,d2,d3,d4,d5⟩:=bL5 hc h;obtain⟨u,w',K',L'',hr,⟨hv,hK,hL⟩,le,j⟩:=aH6 (dst:=dst) (ty:=ty) (pos:=pos) (aft:=aft) (g:=g) (lA hc) hx (hT (dec l p).2) a w f i;exact⟨u,w',K',L'',hr,⟨_,_,hv,hK,hL,d1,d2,d3,d4,d5⟩,le,j⟩
def q9(r:Int):List UInt8:=(Utf8.encode r).data.toList
def aL8{k':IntKind}{r:Int}(hs:E.P.underlying t=some (.int k'))(hd:E.P.underlying t2=some .string)(hx:fr.ev x=some (.int .i32 r)):
  Ev E fr K L ⟨dst,.convert t t2 x,ty,pos,aft,g⟩ (str (q9 r)):=fun a w f j=>by
 simp only[execOp,f.ev hx];refine fO ?_;unfold convert;rw[bJ (run_underlying hs w),bJ (run_underlying hd w)]
 show Result.ok (Value.string (Utf8.encode _)) w=_
 simp[q9]
def bFR(r:Int)(h:128≤r):2≤(q9 r).length∧(q9 r).length≤4∧∃c,(q9 r)[(q9 r).length - 1]?=some c∧128≤c.toNat:=by
 unfold q9 Utf8.encode;have hc:128≤(if Utf8.valid r then r.toNat else Utf8.runeError):=by
  split
  ·omega
  decide
 generalize (if Utf8.valid r then r.toNat else Utf8.runeError)=c at hc
 have hb:∀n:Nat,128≤(UInt8.ofNat (0x80+n % 64)).toNat:=by
  intro n;simp;omega
 simp only[if_neg (show ¬c < 0x80 by omega)];split
 ·exact⟨by simp,by simp,_,rfl,hb _⟩
 split
 ·exact⟨by simp,by simp,_,rfl,hb _⟩
 exact⟨by simp,by simp,_,rfl,hb _⟩
end
end Go.SL
end

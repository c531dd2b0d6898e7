/-
  What the proof stands on, part 4: the logic of walks, the walks through the functions, the plain laws. Conditions: as each theorem says. (Merged and shortened by a program.)
-/
import Derived.Scope
import Derived.ChangeKeysEq
import Derived.Lib.OthersKept
import Derived.Lib.IndexMore
import Derived.Lib.IndexLaws
import Derived.Lib.IndexBytes
import Derived.Stop.Asserts
import Derived.RowKitTokens
import Derived.LaidEql
import Derived.Test.YthopmddkpdehiaaGreatDoorK1
import Derived.Test.YthopmddkpdehiaaGreatDoorK2
import Derived.Test.YthopmddkpdehiaaGreatDoorK3
set_option linter.unusedVariables false
set_option linter.unusedSimpArgs false
section
namespace Go.SL
open R (Yl)
abbrev mrk(D:Nat):Deferred:={target:=.collected D,args:= #[]}
abbrev dblk(D:Nat):Asn:=pt D (.deferred (some []))
def aVB(P:Program)(fn:Func)(w0:World)(F K0:Hl)(R:Ending→Hl→List Asn→Prop):Post:=
 bodyPostM Fence.wide 0 P fn fun e w'=>∃K' L',R e K' L'∧K0.le K'∧In w0 F K' L' w'
theorem aHK{P:Program}{f:FuncId}{fn:Func}{c:Code}{args:List Value}{n:Nat}{K:Hl}{L:List Asn}{R:Ending→Hl→List Asn→Prop}
  (hf:P.funcs[f]?=some fn) (hb:fn.body=some c) (hn:fn.ntmps=n) (hl:Nat.ble args.length n=true) (hname:(fn.name=="runtime.NumGoroutine")=false)
  (h:∀(F:Hl) (w:World),T ⟨P,n,[],w,F⟩ c (Fr.init 0 args n) K L (aVB P fn w F K R)):Sp P f args K L R:=by
 refine⟨⟨fn,hf,hname,by simp[hb]⟩,fun F w i=>callsIn_wide.1 (callsIn_of_wp_marks (n:=0) hf hb trivial (wpIn_wide.2 (h F w _ _ ⟨rfl,?_,?_⟩ i)))⟩
 ·have:args.length≤n:=Nat.le_of_ble_eq_true hl;simp[hn];omega
 ·intro k v e;obtain⟨_,h2⟩:=vA e;have hk:k < args.length:=by
   rcases Nat.lt_or_ge k args.length with h|h
   ·exact h
   ·simp[List.getElem?_eq_none h]at h2
  show (args.toArray++Array.replicate _ _)[k]?=some v
  rw[Array.getElem?_append_left (by simpa using hk)]
  simpa using h2
theorem aKV{P:Program}{fn:Func}{tmps:Array Value}{R:Ending→World→Prop}{u:FrameMode}(hu:u≠.run){w0:World}{F K:Hl}{L:List Asn}(fin:∀w',In w0 F K L w'→LeavesIn Fence.wide 0 P fn tmps R [] u w'):
  ∀(ds:List Nat) (w:World),In w0 F K (ds.map dblk++L) w→LeavesInM Fence.wide 0 P fn tmps R (ds.map mrk) u w
 | [],w,i=>fin w i
 |d::ds,w,i=>by
  have hp:=i.piece;refine⟨hu,.inl ⟨d,_,rfl,run_takeDeferred hp,aKV hu fin ds _ ?_⟩⟩
  have hlt:d < w.heap.size:=(Array.getElem?_eq_some_iff.1 hp).1;exact(i.write (o':=.deferred none) (H:=w.heap.setIfInBounds d (.deferred none)) (by simp) (by simp[hlt]) (fun x hx=>by rw[Array.getElem?_setIfInBounds_ne (Ne.symm hx)])).drop
section
variable{P:Program}{fn:Func}{n:Nat}{w0:World}{F K0 K:Hl}{fr:Fr}{L:List Asn}{R:Ending→Hl→List Asn→Prop}
theorem aDO{t:Nat}{v:Value}{L0:List Asn}(ds:List Nat)(hr:fn.results= #[.tmp t])(ht:fr.get t=some v)(hL:∀h,Sat L0 h→Sat (ds.map dblk++L) h)(le:K0.le K)(h:R (.returned v) K L):
  D ⟨P,n,ds.map mrk,w0,F⟩ .ret fr K L0 (aVB P fn w0 F K0 R):=fun a w f i=>by
 show LeavesInM Fence.wide 0 P fn a.tmps _ a.defers .returning w
 rw[f.defers];refine aKV (by simp) (fun w' j=>?_) ds w (i.imp hL)
 exact⟨v,by rw[results_tmp hr];simp[f.get _ _ ht],K,L,h,le,j⟩
end
section
variable{E:Env}{fr:Fr}{K:Hl}{L L1 L2:List Asn}{Q:Post}
abbrev Env.mark(E:Env)(D:Nat):Env:=⟨E.P,E.n,mrk D::E.ds,E.w0,E.F⟩
theorem aK9{g:Operand}{ps:Array Tmp}{assign body:Code}{f:FuncId}{caps:Array Value}{RR:Loop→Nat→Nat→Ending→Hl→List Asn→Prop}(hg:fr.ev g=some (.func (.func f) #[] caps))(hL:Tks L1 L L2)
  (hs:∀(r:Loop) (l d:Nat),r.state=.ready→r.pending=none→r.params=ps→r.assign=assign→r.body=body→r.tmps.size=E.n→(∀k v,fr.get k=some v→r.tmps[k]?=some v)→
   Sp E.P f (.func (.yield l) #[] #[]::caps.toList) K (pt l (.loop r)::dblk d::L1) (RR r l d))
  (hend:∀r l d e K' L',RR r l d e K' L'→K.le K'→∃v r' M,e=.returned v∧(∀h,Sat L' h→Sat (pt l (.loop r')::M) h)∧r'.state≠.busy∧
   match r'.pending with
   |none=>D (E.mark d) .normal fr K' (M++L2) Q
   |some c=>T (E.mark d) c fr K' (M++L2) Q):
  T E (.rangeFunc g ps assign body) fr K L Q:=by
 intro a w fo i;refine(wpIn_wide (n:=0)).1 (wpIn_rangeFunc fun fn _=>?_)
 let r:Loop:={state:=.ready,pending:=none,fn,tmps:=a.tmps,params:=ps,assign,body,defers:=w.heap.size}
 have i3:=(i.alloc (.deferred (some []))).alloc (.loop r);have hsz:({w with heap:=w.heap.push (.deferred (some []))}:World).heap.size=w.heap.size+1:=by simp
 rw[hsz]at i3;obtain⟨F',i1,back⟩:=(i3.imp (M:=(pt (w.heap.size+1) (.loop r)::dblk w.heap.size::L1)++L2) (fun h=>dU fun h=>dU fun h k=>hL.sat h k)).hide;have hs':=hs r (w.heap.size+1) w.heap.size rfl rfl rfl rfl rfl fo.size fo.get;obtain⟨⟨fd,g1,g2,g3⟩,hcall⟩:=hs';have ev:∀x:Value,a.eval (.const x)=x:=fun _=>rfl
 refine⟨w.heap.size+1,[mrk w.heap.size],_,{target:=.fn (.func f) caps,args:= #[.func (.yield (w.heap.size+1)) #[] #[]]},(w.alloc (.deferred (some []))).alloc (.loop r),f,(.func (.yield (w.heap.size+1)) #[] #[]::caps.toList).toArray,(w.alloc (.deferred (some []))).alloc (.loop r),run_enterLoop_outer fn a.tmps ps assign body,?_,fun _ _=>trivial,?_,fun h=>Bool.noConfusion h,callsIn_wide.2 ((hcall F' _ i1).mono fun e w' ⟨K',L',q,le,j⟩=>?_)⟩
 ·simp only[resolve,rangeCall,fo.ev hg,Deferred.ofValue,bind,pure,Sem.bind,List.map_toArray,List.map_cons,List.map_nil,ev,Array.empty_append]
  rfl
 ·have e2: #[Value.func (.yield (w.heap.size+1)) #[] #[]]++caps=(.func (.yield (w.heap.size+1)) #[] #[]::caps.toList).toArray:=by simp
  simp only[invoke];rw[e2];exact wB g1 g2 g3 _
 ·obtain⟨v,r',M,rfl,hM,hst,hgo⟩:=hend _ _ _ _ _ _ q le;have j2:In E.w0 E.F K' (pt (w.heap.size+1) (.loop r')::(M++L2)) w':=(back j).imp fun h k=>by
   obtain⟨x,y,hx,hy,hd,rfl⟩:=eX.1 k;exact eX (L:=pt (w.heap.size+1) (.loop r')::M).2 ⟨x,y,hM _ hx,hy,hd,rfl⟩
  have hp:=j2.piece;have hlt:w.heap.size+1 < w'.heap.size:=(Array.getElem?_eq_some_iff.1 hp).1;have j3:In E.w0 E.F K' (M++L2) (w'.putObj (w.heap.size+1) (.loop {r' with state:=.exhausted})):=
   (j2.write (o':=.loop {r' with state:=.exhausted}) (H:=w'.heap.setIfInBounds (w.heap.size+1) (.loop {r' with state:=.exhausted})) (by simp) (by simp[hlt]) (fun x hx=>by rw[Array.getElem?_setIfInBounds_ne (Ne.symm hx)])).drop
  have fo':FrOk E.n (mrk w.heap.size::E.ds) fr {a with defers:=[mrk w.heap.size]++a.defers}:=⟨by simp[fo.defers],fo.size,fo.get⟩;refine⟨r'.pending,_,run_endLoop hp hst,?_⟩
  generalize w'.putObj (w.heap.size+1) (.loop {r' with state:=.exhausted})=W at j3 ⊢
  cases hpe:r'.pending with
  |none=>rw[hpe]at hgo;exact hgo _ _ fo' j3
  |some c=>rw[hpe]at hgo;exact wpIn_wide.2 (hgo _ _ fo' j3)
end
def TR(E:Env)(l:Nat)(c:Code)(fr:Fr)(K:Hl)(L:List Asn)(Q:Post):Prop:=
 ∀a w,FrOk E.n E.ds fr a→In E.w0 E.F K L w→c.wpIn (Fence.wide.inRound l) 0 E.P Q a w
def OR(E:Env)(l:Nat)(ops:Array Oper)(os:List Oper)(fr:Fr)(K:Hl)(L:List Asn)(Q:Post):Prop:=
 ∀a w,FrOk E.n E.ds fr a→In E.w0 E.F K L w→wpListIn (Fence.wide.inRound l) 0 E.P ops Q os a w
section
variable{E:Env}{fr:Fr}{K:Hl}{L:List Asn}{Q:Post}{c x y:Code}{ops:Array Oper}{rest:List Oper}{l:Nat}
theorem aUX(h:D E .normal fr K L Q):TR E l .skip fr K L Q:=fun a w f i=>wpIn_skip (h a w f i)
theorem aUW{id:Nat}(h:D E (.exit id) fr K L Q):TR E l (.exit id) fr K L Q:=fun a w f i=>wpIn_exit (h a w f i)
theorem aHW{id:Nat}(h:TR E l c fr K L (Exit.inBlock id Q)):TR E l (.block id c) fr K L Q:=fun a w f i=>wpIn_block (h a w f i)
theorem aC6{id:Nat}{os:List Oper}(h:OR E l os.toArray os fr K L Q):TR E l (.region id os.toArray false) fr K L Q:=fun a w f i=>wpIn_region_lit (h a w f i)
theorem aQ4(h:D E .normal fr K L Q):OR E l ops [] fr K L Q:=fun a w f i=>wpListIn_nil (h a w f i)
def aKZ:Op→Bool| .defer _=>false|_=>true
theorem tX{o:Oper}(h:aKZ o.op=true):∀c,o.op≠.defer c:=fun c e=>by rw[e]at h;cases h
theorem aQ3{d:Nat}{op:Op}{ty:TypeId}{pos:String}{aft:Array Edge}{v:Value}(hv:Ev E fr K L ⟨some d,op,ty,pos,aft,none⟩ v)(hd:Nat.blt d E.n=true)(ho:aKZ op=true)
  (h:OR E l ops rest ((d,v)::fr) K L Q):OR E l ops (⟨some d,op,ty,pos,aft,none⟩::rest) fr K L Q:=by
 intro a w f i;refine wpListIn_plain rfl fun k hk=>⟨fun _ _=>trivial,?_⟩
 rw[Oper.semAt_eq _ _ _ (tX ho),hv a w f i];exact hk _ _ (h _ _ (f.put hd v) i)
theorem or_s{d:Nat}{op:Op}{ty:TypeId}{pos:String}{aft:Array Edge}{N:Value→Hl→List Asn→Prop}(hv:EfS E fr K L ⟨some d,op,ty,pos,aft,none⟩ N)(hd:Nat.blt d E.n=true)(ho:aKZ op=true)
  (h:∀v K' L',N v K' L'→K.le K'→OR E l ops rest ((d,v)::fr) K' L' Q):OR E l ops (⟨some d,op,ty,pos,aft,none⟩::rest) fr K L Q:=by
 intro a w f i;refine wpListIn_plain rfl fun k hk=>⟨fun _ _=>trivial,?_⟩
 rw[Oper.semAt_eq _ _ _ (tX ho)];obtain⟨u,w',K',L',hr,hN,le,j⟩:=hv a w f i;rcases hr with hr|⟨hr,rfl⟩
 ·rw[hr];exact hk _ _ (h _ _ _ hN le _ _ (f.put hd u) j)
 ·rw[hr];exact hk _ _ (h _ _ _ hN le _ _ (f.put hd _) j)
theorem aYJ{op:Op}{ty:TypeId}{pos:String}{aft:Array Edge}{N:Value→Hl→List Asn→Prop}(hv:EfS E fr K L ⟨none,op,ty,pos,aft,none⟩ N)(ho:aKZ op=true)
  (h:∀v K' L',N v K' L'→K.le K'→OR E l ops rest fr K' L' Q):OR E l ops (⟨none,op,ty,pos,aft,none⟩::rest) fr K L Q:=by
 intro a w f i;refine wpListIn_plain rfl fun k hk=>⟨fun _ _=>trivial,?_⟩
 rw[Oper.semAt_eq _ _ _ (tX ho)];obtain⟨u,w',K',L',hr,hN,le,j⟩:=hv a w f i;rcases hr with hr|⟨hr,rfl⟩
 ·rw[hr];exact hk _ _ (h _ _ _ hN le _ _ f j)
 ·rw[hr];exact hk _ _ (h _ _ _ hN le _ _ f j)
end
abbrev _root_.Go.Loop.bz(r:Loop):Loop:={r with state:=.busy}
abbrev _root_.Go.Loop.on(r:Loop):Loop:={r with state:=.ready,pending:=none}
abbrev _root_.Go.Loop.off(r:Loop)(c:Code):Loop:={r with state:=.done,pending:=some c}
def aXV(P:Program)(l:Nat)(r:Loop)(w0:World)(F K0:Hl)(R:Bool→Hl→List Asn→Prop):Post
 | .normal,_,w=>∃K' M,In w0 F K' (pt l (.loop r.bz)::M) w∧K0.le K'∧R true K' (pt l (.loop r.on)::M)
 | .exit id,_,w=>∃K' M,In w0 F K' (pt l (.loop r.bz)::M) w∧K0.le K'∧R false K' (pt l (.loop (r.off (.exit id)))::M)
 |_,_,_=>False
theorem aV7{P:Program}{l p n:Nat}{r:Loop}{v:Value}{fr0 fr1:Fr}{K:Hl}{L:List Asn}{R:Bool→Hl→List Asn→Prop}(hr:r.state=.ready)(hp:r.params= #[p])(hpn:Nat.blt p n=true)(hsz:r.tmps.size=n)
  (hfr:∀k v,fr0.get k=some v→r.tmps[k]?=some v)
  (hA:∀(F:Hl) (w:World) (Q:Post),D ⟨P,n,[],w,F⟩ .normal fr1 K (pt l (.loop r)::L) Q→TR ⟨P,n,[],w,F⟩ l r.assign ((p,v)::fr0) K (pt l (.loop r)::L) Q)
  (hB:∀(F:Hl) (w:World),TR ⟨P,n,[],w,F⟩ l r.body fr1 K (pt l (.loop r.bz)::L) (aXV P l r w F K R)):Yl P l [v] K (pt l (.loop r)::L) R:=by
 intro F w i;have hc:=i.piece;refine⟨r.fn,_,r.assign,r.body,run_yield hc (by simp[hp]),roundIn_of_wpIn trivial ?_⟩
 have f0:FrOk n [] ((p,v)::fr0) {tmps:=r.tmps.setIfInBounds p v,defers:=[]}:=FrOk.put (a:={tmps:=r.tmps,defers:=[]}) ⟨rfl,hsz,hfr⟩ hpn v;have e0:(r.params.zip [v].toArray).foldl (fun tmps (t,a)=>tmps.setIfInBounds t a) r.tmps=r.tmps.setIfInBounds p v:=by simp[hp]
 rw[e0];refine hA F w _ (fun a₁ w₁ f₁ j=>?_) _ _ f0 i
 have hc1:=j.piece;refine⟨_,run_beginRound hc1 hr,?_⟩
 have hlt:l < w₁.heap.size:=(Array.getElem?_eq_some_iff.1 hc1).1;have j2:In w F K (pt l (.loop r.bz)::L) (w₁.putObj l (.loop r.bz)):=
  j.write (o':=.loop r.bz) (H:=w₁.heap.setIfInBounds l (.loop r.bz)) (by simp) (by simp[hlt]) (fun x hx=>by rw[Array.getElem?_setIfInBounds_ne (Ne.symm hx)])
 refine wpIn_mono (hB F w _ _ f₁ j2) fun e a w' q=>?_
 have fin:∀(jump:Option Code) (K':Hl) (M:List Asn) (r':Loop),In w F K' (pt l (.loop r.bz)::M) w'→K.le K'→r'={r.bz with state:=if jump.isNone then .ready else .done,pending:=jump}→R jump.isNone K' (pt l (.loop r')::M)→
   ∃v w'',(Instr.endRound l jump).run P w'=.ok v w''∧∃b K' L',Ending.returned v=.returned (.bool b)∧R b K' L'∧K.le K'∧In w F K' L' w'':=by
  intro jump K' M r' j le er hR;have hc2:=j.piece;have hlt2:l < w'.heap.size:=(Array.getElem?_eq_some_iff.1 hc2).1;refine⟨_,_,run_endRound jump hc2,jump.isNone,K',_,rfl,hR,le,?_⟩
  subst er;exact j.write (H:=w'.heap.setIfInBounds l _) (by simp) (by simp[hlt2]) (fun x hx=>by rw[Array.getElem?_setIfInBounds_ne (Ne.symm hx)])
 cases e with
 |normal=>obtain⟨K',M,j,le,hR⟩:=q;exact fin none K' M _ j le rfl hR
 |exit id=>obtain⟨K',M,j,le,hR⟩:=q;exact fin (some (.exit id)) K' M _ j le rfl hR
 |goto t=>exact q.elim
 |ret=>exact q.elim
 |panic ch=>exact q.elim
 |outgrown=>exact q.elim
theorem aS5{P:Program}{l:Nat}{vs:List Value}{K:Hl}{L L':List Asn}{R:Bool→Hl→List Asn→Prop}(k:∀h,Sat L h→Sat L' h)(h:Yl P l vs K L' R):Yl P l vs K L R:=
 fun F w i=>h F w (i.imp k)
theorem aLQ{P:Program}{l:Nat}{vs:List Value}{K:Hl}{L:List Asn}{R R':Bool→Hl→List Asn→Prop}(h:Yl P l vs K L R)(k:∀b K' L',R b K' L'→∃L'',(∀h,Sat L' h→Sat L'' h)∧R' b K' L''):Yl P l vs K L R':=by
 intro F w i;obtain⟨fn,t,x,y,e,hr⟩:=h F w i;refine⟨fn,t,x,y,e,hr.mono fun en w' ⟨b,K',L',e1,r,le,j⟩=>?_⟩
 obtain⟨L'',hs,r'⟩:=k _ _ _ r;exact⟨b,K',L'',e1,r',le,j.imp hs⟩
theorem aYH{r:Loop}(h1:r.state=.ready)(h2:r.pending=none):r.on=r:=by cases r;simp_all
theorem aHA{A B:List Asn}{h:Hl}(k:Sat (A++B) h):Sat (B++A) h:=by
 obtain⟨a,b,ha,hb,hd,rfl⟩:=eX.1 k;exact eX.2 ⟨b,a,hb,ha,hd.symm,Hl.join_comm hd⟩
section
variable{E:Env}{fr:Fr}{K:Hl}{L:List Asn}{Q:Post}{c:Code}
theorem aEY(h:T E c fr K L (Exit.noGoto Q)):T E (.scope c) fr K L Q:=fun a w f i=>wp_scope_straight (h a w f i)
theorem mS(h:D E .ret fr K L Q):D E .ret fr K L (Exit.noGoto Q):=h
theorem aUP{ι:Type}(I:ι→Prop)(ds':ι→List Deferred)(fr':ι→Fr)(K':ι→Hl)(L':ι→List Asn)(μ:ι→Nat)(i0:ι)(h0:I i0)(hd:ds' i0=E.ds)(k:Kp fr (fr' i0))(hK:K' i0=K)(hL:∀h,Sat L h→Sat (L' i0) h)
  (round:∀i,I i→T ⟨E.P,E.n,ds' i,E.w0,E.F⟩ c (fr' i) (K' i) (L' i) (Exit.then (fun a w=>∃j,I j∧μ j < μ i∧FrOk E.n (ds' j) (fr' j) a∧In E.w0 E.F (K' j) (L' j) w) Q)):T E (.loop c) fr K L Q:=by
 intro a w f i b kk cs;have key:∀n j,μ j=n→I j→∀a w,FrOk E.n (ds' j) (fr' j) a→In E.w0 E.F (K' j) (L' j) w→
   ∃e a' w',Q e a' w'∧Arrives E.P (lone (b.at a (.code c::.inLoop c::kk)) cs w) b kk cs e a' w':=by
  intro n;induction n using Nat.strongRecOn with
  |_ n ih=>
   intro j hj hIj a w f i;obtain⟨e,a₁,w₁,hq,harr⟩:=round j hIj a w f i b (.inLoop c::kk) cs;cases e with
   |normal=>
    obtain⟨j',hI',hlt,f',i'⟩:=hq;obtain⟨e₂,a₂,w₂,hq₂,harr₂⟩:=ih _ (hj▸hlt) j' rfl hI' _ _ f' i';exact⟨e₂,a₂,w₂,hq₂,.of_steps (Steps.trans harr (.one step_inLoop)) harr₂⟩
   |exit id=>exact⟨_,a₁,w₁,hq,.pass (x:=.inLoop c) rfl (fun _ _=>.inl (by simp)) harr⟩
   |goto l=>exact⟨_,a₁,w₁,hq,.pass (x:=.inLoop c) rfl (fun _ _=>.inl (by simp)) harr⟩
   |ret=>exact⟨_,a₁,w₁,hq,.pass (x:=.inLoop c) rfl (fun _ _=>.inl (by simp)) harr⟩
   |panic ch=>exact⟨_,a₁,w₁,hq,.pass (x:=.inLoop c) rfl (fun _ _=>.inl (by simp)) harr⟩
   |outgrown=>exact⟨_,a₁,w₁,hq,.pass (x:=.inLoop c) rfl (fun _ _=>.inl (by simp)) harr⟩
 have f0:FrOk E.n (ds' i0) (fr' i0) a:=by rw[hd];exact f.keep k
 obtain⟨e,a',w',hq,harr⟩:=key _ i0 rfl h0 a w f0 (by rw[hK];exact i.imp hL);exact⟨e,a',w',hq,.of_steps (.one step_loop) harr⟩
theorem aPP{ι:Type}{P:Program}{n:Nat}{ds:List Deferred}{w0:World}{F:Hl}{I:ι→Prop}{ds':ι→List Deferred}{fr':ι→Fr}{K':ι→Hl}{L':ι→List Asn}{μ:ι→Nat}{m:Nat}(j:ι)(hj:I j)(hlt:μ j < m)(hd:ds' j=ds)(k:Kp fr (fr' j))(hK:K' j=K)(hL:∀h,Sat L h→Sat (L' j) h):
  D ⟨P,n,ds,w0,F⟩ .normal fr K L (Exit.then (fun a w=>∃j,I j∧μ j < m∧FrOk n (ds' j) (fr' j) a∧In w0 F (K' j) (L' j) w) Q):=
 fun a w f i=>⟨j,hj,hlt,by rw[hd];exact f.keep k,by rw[hK];exact i.imp hL⟩
end
end Go.SL
end
section
namespace Go.Proofs
open Go Go.SL Go.Syn Go.Mach
open R (Yl)
def hdEl:El (List UInt8×List UInt8):={e:=25,sz:=2,enc:=fun a=>[str a.1,str a.2],len:=fun _=>rfl,one:=fun _ u h=>by simp at h;rcases h with rfl|rfl <;> rfl}
theorem qI:∀(As:List Asn) (B:Asn),Tks As (B::As) [B]
 | [],_=>.nil
 |_::As,B=>.cons (.there .here) (qI As B)
theorem sW:∀(As M:List Asn),Tks As (As++M) M
 | [],_=>.nil
 |_::As,M=>.cons .here (sW As M)
def gM(m:Msg)(name:aM)(i:Nat):List aM:=((m.hs.take i).filter fun h=>decide (dH h.1=name)).map (·.2)
theorem aD4(m:Msg)(name:aM){i:Nat}(h:m.hs.length≤i):gM m name i=fW m name:=by unfold gM fW;rw[List.take_of_length_le h]
theorem kI{m:Msg}{name:aM}{i:Nat}{x:aM×aM}(hx:m.hs[i]?=some x):gM m name (i+1)=if dH x.1=name then gM m name i++[x.2]else gM m name i:=by
 have hi:i < m.hs.length:=by
  rcases Nat.lt_or_ge i m.hs.length with h'|h'
  ·exact h'
  ·simp[List.getElem?_eq_none h']at hx
 have hc:m.hs[i]=x:=by simpa[List.getElem?_eq_getElem hi]using hx
 unfold gM;rw[List.take_succ_eq_append_getElem hi,hc,List.filter_append]
 by_cases h:dH x.1=name
 ·simp[h]
 ·simp[h]
theorem aD5(m:Msg)(name:aM)(i:Nat):gM m name i<+:fW m name:=by
 unfold gM fW;refine List.IsPrefix.map _ (List.IsPrefix.filter _ (List.take_prefix _ _))
structure FI where
 i:Nat
 K:Hl
 L:List Asn
theorem uW(l bx by_ b mb:Nat)(m:Msg)(hv pv:Value)(nm:Bool)(s:MS)(name:aM)(K0:Hl)(L0:List Asn)(J Jx:List aM→Hl→List Asn→Prop)
  (hbx:K0 bx=some (aU [ptr b] 172)) (hy:K0 by_=some (aU [str name] 9)) (hh:Ksl hdEl K0 hv m.hs) (hln:m.hs.length≤1000000) (hs:∀h∈m.hs,h.1.length≤1000000)
  (hJ0:J [] K0 (mch b mb m hv pv nm s::L0))
  (hY:∀pre x K' L',K0.le K'→J pre K' L'→(pre++[x])<+:fW m name→Yl Tryz.prog l [str x] K' L' fun t K'' L''=>(t=true∧J (pre++[x]) K'' L'')∨(t=false∧Jx (pre++[x]) K'' L'')):
  Sp Tryz.prog 307 [.func (.yield l) #[] #[],ptr bx,ptr by_] K0 (mch b mb m hv pv nm s::L0)
   (Ret fun v K' L'=>v=.tuple #[]∧K0.le K'∧(J (fW m name) K' L'∨∃pre,pre<+:fW m name∧Jx pre K' L')):=by
 refine aZ Tryz.func307 rfl Tryz.ntmps307 rfl rfl fun F w=>?_
 refine qQ fun av sv f c=>?_
 refine aH (aB ?_);refine aA (aJ aZA rfl aL rfl) rfl ?_;refine uEy ?_;refine uHq ?_;refine uDy ?_;refine aA (cB (k:=hdEl) rfl Tryz.underlying26 rfl aL) rfl ?_;refine uAa ?_;refine aG (aE ?_);refine bE ?_;refine kJ (dR (m:=m) (hv:=hv) (pv:=pv) (nm:=nm) (s:=s)) ?_;refine eR (fun(q:FI)=>q.i≤m.hs.length∧K0.le q.K∧J (gM m name q.i) q.K q.L) (fun q=>[(0,.func (.yield l) #[] #[]),(2,ptr by_),(11,hv),(12,i64 m.hs.length),(13,i64 q.i)]) (fun q=>q.K) (fun q=>q.L) (fun q=>m.hs.length - q.i) ⟨0,K0,mch b mb m hv pv nm s::L0⟩ ⟨Nat.zero_le _,Hl.le_refl _,hJ0⟩ (.cons 0 rfl (.cons 2 rfl (.cons 11 rfl (.cons 12 rfl (.cons 13 rfl .nil))))) rfl (fun _ h=>h) ?_;intro ⟨i,K1,L1⟩ ⟨hi0,hle,hJ⟩;dsimp only at hi0 hle hJ ⊢;have hh1:=hh.mono hle;have hy1:=hle _ _ hy;refine aH (aB ?_);refine uBn ?_;refine aG (aE ?_);refine aH ?_;refine bK 14 rfl (fun h14=>?_) (fun h14=>?_)
 ·
  have hilt:i < m.hs.length:=by omega
  obtain⟨x,hx⟩:∃x,m.hs[i]?=some x:=⟨m.hs[i]'hilt,List.getElem?_eq_getElem hilt⟩;refine aW ?_;refine aE (aH ?_);refine bE (aH ?_);refine aB ?_;refine aA (b0 (k:=hdEl) pO rfl aL rfl rfl (by first|assumption|omega)) rfl ?_;refine aA (eE (n:=0) (k:=hdEl) aJN rfl aL bU) rfl ?_;refine ol_s (cN tz25) rfl ?_;rintro _ K _ ⟨b5,rfl,rfl,rfl⟩ -;refine bP (cJ aJN rfl rfl rfl aX (by first|(simp[Value.oneCell'];done)|exact fun c hc=>El.one _ _ c hc) (.cons (.cons .nil)) (by intro j hj;simp)) ?_;rintro _ K _ ⟨rfl,rfl⟩ -;refine aG (aE ?_);refine aH ?_;refine R.t_draw (anc:=[0,1,3,0,15,31,63,63,191,511,1023,2047]) (ord:=[0,1,3,2,4,5,6,7,8,9,10,11]) [2,9] [9] mixed (by decide+kernel) (.cons .here .nil) ?_;refine R.dl_ev rfl rfl (.none rfl) rfl rfl (aD (o':=0) aHS rfl rfl) rfl ?_;refine R.dl_ev rfl rfl (.none rfl) rfl rfl (aJ ts9 rfl aL rfl) rfl ?_;refine R.dl_ev rfl rfl (.none rfl) rfl rfl (aJ ts9 rfl aL rfl) rfl ?_;refine R.dl_callv rfl (.none rfl) rfl rfl rfl rfl (fO _ _ (by have:=hs x (List.mem_of_getElem? hx);omega)) rfl ?_;refine R.dl_ev rfl rfl (.none rfl) rfl rfl (jR rfl rfl) rfl ?_;refine R.dl_ev rfl rfl (.none rfl) rfl rfl (aC rfl) rfl ?_;refine R.dl_splitp 22 rfl (fun g22=>?_) (fun g22=>?_)
  ·
   refine R.dl_ev rfl rfl (.on rfl rfl rfl) rfl rfl (aC rfl) rfl ?_;refine R.dl_ev rfl rfl (.on rfl rfl rfl) rfl rfl (aD (o':=1) aHT rfl rfl) rfl ?_;refine R.dl_ev rfl rfl (.on rfl rfl rfl) rfl rfl (aJ ts9 rfl aL rfl) rfl ?_;have hpre:gM m name i++[x.2]<+:fW m name:=(by have:=aD5 m name (i+1);rwa [kI hx,if_pos g22]at this);refine R.dl_round rfl (.on rfl rfl rfl) rfl rfl rfl (hY (gM m name i) x.2 _ _ hle hJ hpre) (qI _ _) rfl ?_;rintro t K2 M2 hR le2;refine R.dl_ev rfl rfl (.on rfl rfl rfl) rfl rfl (by first|exact dP rfl|exact dO rfl) rfl ?_;refine R.dl_ev rfl rfl (.none rfl) rfl rfl (bL rfl rfl) rfl ?_;refine R.dl_nil ?_;refine aE ?_;refine eJ 28 rfl (fun h28=>?_) (fun h28=>?_)
   ·
    refine uCi ?_;refine a7 ?_;refine bS ?_;refine aO (by rw[List.append_nil];exact sW M2 _) ?_;refine tK rfl (by first|exact Hl.le_trans hle le2|exact hle) ?_;refine⟨_,rfl,rfl,Hl.le_trans hle le2,.inr ⟨_,hpre,?_⟩⟩
    rcases hR with ⟨h,_⟩|⟨_,h⟩
    ·exfalso;subst h;simp at h28
    ·exact h
   ·
    refine aW ?_;refine aN (aE ?_);refine uDl ?_
    first
     |(refine aO (by rw[List.append_nil];exact sW M2 _) ?_;exact cQ ⟨i+1,K2,M2⟩ ⟨by (show i+1≤m.hs.length);omega,Hl.le_trans hle le2,by (show J (gM m name (i+1)) K2 M2);rw[kI hx,if_pos g22];rcases hR with ⟨_,h⟩|⟨h,_⟩;exact h;(exfalso;subst h;simp at h28)⟩ (by (show m.hs.length - (i+1) < m.hs.length - i);omega) (.cons 0 rfl (.cons 2 rfl (.cons 11 rfl (.cons 12 rfl (.cons 13 rfl .nil))))) rfl (fun _ h=>h))
     |(refine aO (qI L1 _) ?_;exact cQ ⟨i+1,_,L1⟩ ⟨by (show i+1≤m.hs.length);omega,hle,by (show J (gM m name (i+1)) _ L1);rw[kI hx,if_neg g22];exact hJ⟩ (by (show m.hs.length - (i+1) < m.hs.length - i);omega) (.cons 0 rfl (.cons 2 rfl (.cons 11 rfl (.cons 12 rfl (.cons 13 rfl .nil))))) rfl (fun _ h=>h))
  ·
   refine R.dl_off rfl rfl (.off rfl rfl rfl) rfl ?_;refine R.dl_off rfl rfl (.off rfl rfl rfl) rfl ?_;refine R.dl_off rfl rfl (.off rfl rfl rfl) rfl ?_;refine R.dl_off rfl rfl (.off rfl rfl rfl) rfl ?_;refine R.dl_off rfl rfl (.off rfl rfl rfl) rfl ?_;refine R.dl_ev rfl rfl (.none rfl) rfl rfl (bD rfl rfl) rfl ?_;refine R.dl_nil ?_;refine aE ?_;refine uBf ?_;refine aN (aE ?_);refine uDl ?_
   first
    |(refine aO (by rw[List.append_nil];exact sW M2 _) ?_;exact cQ ⟨i+1,K2,M2⟩ ⟨by (show i+1≤m.hs.length);omega,Hl.le_trans hle le2,by (show J (gM m name (i+1)) K2 M2);rw[kI hx,if_pos g22];rcases hR with ⟨_,h⟩|⟨h,_⟩;exact h;(exfalso;subst h;simp at h28)⟩ (by (show m.hs.length - (i+1) < m.hs.length - i);omega) (.cons 0 rfl (.cons 2 rfl (.cons 11 rfl (.cons 12 rfl (.cons 13 rfl .nil))))) rfl (fun _ h=>h))
    |(refine aO (qI L1 _) ?_;exact cQ ⟨i+1,_,L1⟩ ⟨by (show i+1≤m.hs.length);omega,hle,by (show J (gM m name (i+1)) _ L1);rw[kI hx,if_neg g22];exact hJ⟩ (by (show m.hs.length - (i+1) < m.hs.length - i);omega) (.cons 0 rfl (.cons 2 rfl (.cons 11 rfl (.cons 12 rfl (.cons 13 rfl .nil))))) rfl (fun _ h=>h))
 ·
  refine uAp ?_;refine dD rfl (by first|exact Hl.le_trans hle le2|exact hle) ?_;refine⟨_,rfl,rfl,hle,.inl ?_⟩
  have:=aD4 m name (i:=i) aI;rw[←this];exact hJ
end Go.Proofs
end
section
namespace Go.Proofs
open Go Go.SL Go.Syn Go.Mach
open R (Yl)
theorem xJ(b:Nat)(name:List UInt8)(K:Hl):Sp Tryz.prog 254 [ptr b,str name] K []
  (Ret fun v K' L'=>∃bx by_,v=.func (.func 307) #[] #[ptr bx,ptr by_]∧K' bx=some (aU [ptr b] 172)∧K' by_=some (aU [str name] 9)∧L'=[]):=by
 refine aZ Tryz.func254 rfl Tryz.ntmps254 rfl rfl fun F w=>?_
 refine aH (aB ?_);refine uBk ?_;rintro _ K _ ⟨b2,rfl,rfl,rfl⟩ -;refine uBk ?_;rintro _ K _ ⟨b3,rfl,rfl,rfl⟩ -;refine uAb ?_;refine aG (aE ?_);refine aH (aB ?_);refine uGk ?_;refine uAb ?_;refine aG (aE ?_);refine bI ?_;refine gI fun K1 le1 hK1=>?_
 refine gI fun K2 le2 hK2=>?_
 refine bF rfl rfl (Hl.le_trans le1 le2) ?_;exact⟨_,rfl,b2,b3,rfl,hK2,le2 _ _ hK1,rfl⟩
theorem aHB{α:Type}{z:Bool}{k:El α}{v:Value}{xs:List α}{L:List Asn}{h:Hl}(hs:Sat (sl z k v xs::L) h):∃a n c,v=.slice a n c:=by
 obtain⟨a,l,ha,_⟩:=hs;rcases ha with ⟨rfl,_⟩|⟨b,cap,junk,fz,rfl,_⟩ <;> exact⟨_,_,_,rfl⟩
theorem tP(m:Msg)(name:aM):(fW m name).length≤m.hs.length:=by
 unfold fW;rw[List.length_map];exact List.length_filter_le _ _
theorem aLS(bx by_ b mb:Nat)(m:Msg)(hv pv:Value)(nm:Bool)(s:MS)(name:aM)(sv:Value)(xs:List aM)(K0:Hl)
  (hbx:K0 bx=some (aU [ptr b] 172)) (hy:K0 by_=some (aU [str name] 9)) (hh:Ksl hdEl K0 hv m.hs) (hln:m.hs.length≤1000000) (hs:∀h∈m.hs,h.1.length≤1000000) (hxs:xs.length≤4000000000000):
  Sp Tryz.prog 304 [sv,.func (.func 307) #[] #[ptr bx,ptr by_]] K0 [sl false (bT 9) sv xs,mch b mb m hv pv nm s]
   (Ret fun v K' L'=>L'=[sl false (bT 9) v (xs++fW m name),mch b mb m hv pv nm s]):=by
 refine aHK Tryz.func304 rfl Tryz.ntmps304 rfl rfl fun F w=>?_
 refine aAS (fun h hs=>aHB hs) ?_;rintro⟨sa,sn,sc,rfl⟩;refine aH (aB ?_);refine uBk ?_;rintro _ K _ ⟨b2,rfl,rfl,rfl⟩ -;refine uAb ?_;refine aG (aE ?_);refine aH (aH ?_);refine uAf ?_;refine aG (aE ?_);refine bE ?_;refine aK9 (RR:=fun r l d e K1 L1=>e=.returned (.tuple #[])∧r.state=.ready∧r.pending=none∧∃v,v.oneCell'=true∧L1=[mch b mb m hv pv nm s,pt l (.loop r),dblk d,pt b2 (aU [v] 39),sl false (bT 9) v (xs++fW m name)]) rfl (cS _) (fun r l d hr0 hr1 hr2 hr3 hr4 hsz hfr=>?_) (fun r l d e K1 L1 hR le=>?_)
 ·refine wP (M:=mch b mb m hv pv nm s::[pt l (.loop r),dblk d,pt b2 (aU [.slice sa sn sc] 39),sl false (bT 9) (.slice sa sn sc) xs]) (Tks.sat (N:=[]) (.cons (.there (.there (.there (.there .here)))) (.cons .here (.cons .here (.cons .here (.cons .here .nil)))))) ?_;refine(uW l bx by_ b mb m hv pv nm s name _ _ (fun pre K1 L1=>∃v,v.oneCell'=true∧L1=[mch b mb m hv pv nm s,pt l (.loop r),dblk d,pt b2 (aU [v] 39),sl false (bT 9) v (xs++pre)]) (fun _ _ _=>False) hbx hy hh hln hs ⟨.slice sa sn sc,rfl,by rw[List.append_nil]⟩ ?_).mono ?_
  ·rintro pre x K1 _ le1 ⟨v,hv1,rfl⟩ hpre;have hlen:(pre++[x]).length≤1000000:=Nat.le_trans hpre.length_le (Nat.le_trans (tP m name) hln);simp only[List.length_append,List.length_singleton]at hlen;refine aS5 (Tks.sat (N:=[]) (.cons (.there .here) (.cons .here (.cons .here (.cons .here (.cons .here .nil)))))) ?_;refine aLQ (aV7 (n:=13) (fr1:=(5,str x)::(7,str x)::(6,.func (.func 307) #[] #[ptr bx,ptr by_])::(4,.slice none 0 0)::(2,ptr b2)::Fr.init 0 [.slice sa sn sc,.func (.func 307) #[] #[ptr bx,ptr by_]] 13) (R:=fun t K2 L2=>t=true∧∃v,v.oneCell'=true∧L2=[pt l (.loop r.on),mch b mb m hv pv nm s,dblk d,pt b2 (aU [v] 39),sl false (bT 9) v (xs++(pre++[x]))]) hr0 hr2 rfl hsz hfr (fun F w Q hQ=>?_) (fun F w=>?_)) ?_
   ·rw[hr3];exact aC6 (aQ3 (aF rfl) rfl rfl (aQ4 hQ))
   ·rw[hr4];refine aHW ?_;refine aC6 ?_
    refine aQ3 (aJ ts39 rfl (.own (.there (.there (.there .here)))) rfl) rfl rfl ?_;refine aQ3 (aC rfl) rfl rfl ?_;refine or_s (bN (z0:=[(str [])]) cX tz9 rfl rfl rfl rfl (.cons rfl rfl rfl (.cons .nil) .nil)) rfl rfl ?_;rintro _ K _ ⟨b10,rfl,rfl,rfl⟩ -;refine or_s (dM (k:=bT 9) (ys:=[x]) iC rfl rfl (.there (.there (.there (.there (.there .here))))) (fun w j=>dB Tryz.underlying39 (SeesSl.at (.blk (.own .here) rfl rfl) j)) (by simp;omega) (by simp;omega)) rfl rfl ?_;rintro v11 K _ ⟨rfl,rfl,ho11⟩ -;refine aYJ (bH ts39 rfl rfl ho11 (.there (.there (.there (.there (.there .here))))) .zero rfl) rfl ?_;rintro _ K _ ⟨rfl,rfl⟩ -;refine aQ4 ?_;refine aN ?_;intro a w fo i;exact⟨_,[mch b mb m hv pv nm s,dblk d,pt b2 (aU [v11] 39),sl false (bT 9) v11 (xs++(pre++[x]))],(i.imp (Tks.sat (.cons (.there (.there .here)) (.cons (.there (.there .here)) (.cons (.there (.there .here)) (.cons (.there (.there .here)) (.cons .here .nil))))))).left.imp (fun h k=>by rw[←List.append_assoc];exact k),Hl.le_refl _,rfl,v11,ho11,rfl⟩
   ·rintro t K2 _ ⟨rfl,v2,hv2,rfl⟩;rw[aYH hr0 hr1];exact⟨_,Tks.sat (N:=[]) (.cons (.there .here) (.cons .here (.cons .here (.cons .here (.cons .here .nil))))),.inl ⟨rfl,v2,hv2,rfl⟩⟩
  ·rintro e K1 L1 ⟨v,rfl,rfl,le,h|⟨_,_,h⟩⟩
   ·obtain⟨v,hv1,rfl⟩:=h;exact⟨rfl,hr0,hr1,v,hv1,rfl⟩
   ·exact h.elim
 obtain⟨rfl,hr0,hr1,v,hv1,rfl⟩:=hR;refine⟨_,r,[mch b mb m hv pv nm s,dblk d,pt b2 (aU [v] 39),sl false (bT 9) v (xs++fW m name)],rfl,Tks.sat (N:=[]) (.cons (.there .here) (.cons .here (.cons .here (.cons .here (.cons .here .nil))))),by rw[hr0];simp,?_⟩
 rw[hr1]
 show D ⟨Tryz.prog,13,[mrk d],w,F⟩ _ _ _ _ _
 refine aN (aE ?_);refine aH (aB ?_);refine uCp ?_;refine uAb ?_;refine aG (aE ?_);refine bI ?_;refine aO (.cons (.there .here) (.cons (.there (.there .here)) (.cons .here .nil))) ?_;exact aDO [d] (L:=[sl false (bT 9) v (xs++fW m name),mch b mb m hv pv nm s]) rfl rfl (fun _ h=>h) le ⟨_,rfl,rfl⟩
end Go.Proofs
end
section
namespace Go.Proofs
open Go Go.SL Go.Syn Go.Mach
theorem sC(b mb:Nat)(m:Msg)(hv pv:Value)(nm:Bool)(s:MS)(lv:Value)(l:List (List UInt8))(K:Hl)(hg:Glob K)(hpv:Ksl (bT 9) K pv s.parts)(hlv:Ksl (bT 9) K lv l)(hl:l.length≤1000000)(hs:∀x∈l,x.length≤100000)(hsm:o1 s.vars s.parts):
  Sp Tryz.prog 250 [ptr b,lv] K [mch b mb m hv pv nm s] (Ret fun v K' L'=>K'=K∧L'=[sl false (bT 9) v (l.map (dF nm s.vars s.parts)),mch b mb m hv pv nm s]):=by
 refine aJJ ⟨_,Tryz.func250,rfl,rfl⟩ fun av sv f c=>?_
 refine wP (show Tks [_,_] _ _ from .cons .here (.cons (.there (.there .here)) .nil)).sat (aEV (vI _ (aO2 b mb _ _ _ _ _ _ pv sv s.pc nm s.vars f c s.parts lv l K hg hpv hlv hl hs hsm)) ?_)
 rintro e K' L' ⟨N,⟨v,rfl,rfl,rfl⟩,rfl⟩;exact⟨[_,mch b mb m hv pv nm s],[],fun h hh=>dU (fun h hh=>dR (s:=s) h hh) ((show Tks [_,_,_,_,_] _ []from .cons .here (.cons .here (.cons (.there .here) (.cons (.there .here) (.cons .here .nil))))).sat h hh),_,rfl,rfl,rfl⟩
theorem jF{α β:Type}(g:α→List β){l:List α}{i:Nat}{x:α}(h:l[i]?=some x):(l.take (i+1)).flatMap g=(l.take i).flatMap g++g x:=by
 have hi:i < l.length:=by
  rcases Nat.lt_or_ge i l.length with h'|h'
  ·exact h'
  ·simp[List.getElem?_eq_none h']at h
 have hc:l[i]=x:=by simpa[List.getElem?_eq_getElem hi]using h
 rw[List.take_succ_eq_append_getElem hi,hc];simp
theorem q7{α β:Type}{g:α→List β}{n:Nat}(h:∀x,(g x).length≤n):∀l:List α,(l.flatMap g).length≤l.length*n
 | []=>by simp
 |x::l=>by simp only[List.flatMap_cons,List.length_append,List.length_cons,Nat.succ_mul];have:=q7 h l;have:=h x;omega
theorem aKK(m:Msg)(n:aM):(oK m n).length≤1:=by unfold oK;split;simp;split <;> simp
theorem aU8{ex:aM→aM}{m:Msg}{o:Ins}(h:o.op=8):gF ex m o=o.a.map ex:=by unfold gF;rw[if_pos h]
theorem aU6{ex:aM→aM}{m:Msg}{o:Ins}(h:o.op=6):gF ex m o=(o.a.map ex).flatMap fun n=>fW m (dH n):=by unfold gF;rw[if_neg aI,if_pos h]
theorem aU7{ex:aM→aM}{m:Msg}{o:Ins}(h:o.op=7):gF ex m o=o.a.flatMap (oK m):=by unfold gF;rw[if_neg aI,if_neg aI,if_pos h]
theorem aFB{ex:aM→aM}{m:Msg}{o:Ins}(h8:¬o.op=8)(h6:¬o.op=6)(h7:¬o.op=7):gF ex m o=[]:=by unfold gF;rw[if_neg h8,if_neg h6,if_neg h7]
theorem aDV{m:Msg}{n:aM}(h:dH n=[102,114,111,109]):oK m n=[m.from_]:=by unfold oK;rw[if_pos h]
theorem aDX{m:Msg}{n:aM}(h0:¬dH n=[102,114,111,109])(h:dH n=[116,111]):oK m n=[m.to_]:=by unfold oK;rw[if_neg h0,if_pos h]
theorem aDW{m:Msg}{n:aM}(h0:¬dH n=[102,114,111,109])(h:¬dH n=[116,111]):oK m n=[]:=by unfold oK;rw[if_neg h0,if_neg h]
structure MV where
 v:Value
 K:Hl
structure MW where
 i:Nat
 v:Value
 K:Hl
theorem aH3(b mb:Nat)(m:Msg)(hv pv:Value)(nm:Bool)(s:MS)(o:Ins)(av bv:Value)(K0:Hl)(hg:Glob K0)(hpv:Ksl (bT 9) K0 pv s.parts)(ha:Ksl (bT 9) K0 av o.a)(hb:Ksl (bT 9) K0 bv o.b)(hh:Ksl hdEl K0 hv m.hs)(hln:m.hs.length≤1000000)(hhs:∀h∈m.hs,h.1.length≤1000000)(hl:o.a.length≤1000000)(hs:∀x∈o.a,x.length≤100000)(hsm:o1 s.vars s.parts):
  Sp Tryz.prog 251 [ptr b,l4 o av bv] K0 [mch b mb m hv pv nm s] (Ret fun v K' L'=>L'=[sl false (bT 9) v (gF (dF nm s.vars s.parts) m o),mch b mb m hv pv nm s]):=by
 obtain⟨sa,sn,sc,rfl⟩:=ha.isSlice;obtain⟨ta,tn,tc,rfl⟩:=hb.isSlice;refine aZ Tryz.func251 rfl Tryz.ntmps251 rfl rfl fun F w=>?_
 refine aH (aB ?_);refine uBk ?_;rintro _ K _ ⟨b3,rfl,rfl,rfl⟩ -;refine uAb ?_;refine aG (aE ?_);refine aH (aB ?_);refine uAb ?_;refine aG (aE ?_);refine gS (fun(q:MV)=>K.le q.K) (fun q=>[(5,q.v)]) (fun q=>q.K) (fun q=>[sl false (bT 9) q.v (gF (dF nm s.vars s.parts) m o),mch b mb m hv pv nm s]) ?_ ?_
 ·
  refine aH (aB ?_);refine aA (aD (o':=0) jX rfl rfl) rfl ?_;refine uAn ?_;refine aG (aE ?_);refine bE (aH ?_);refine aB ?_;refine uCe ?_;refine aG (aE ?_);refine bK 12 rfl (fun h12=>?_) (fun h12=>?_)
  ·
   refine aH (aB ?_);refine uAa ?_;refine uFg ?_;refine uCp ?_;refine bC rfl rfl (sC b mb m hv pv nm s _ o.a _ hg hpv ha hl hs hsm) (.cons (.there .here) .nil) rfl ?_;rintro _ K _ ⟨rfl,rfl⟩ -;refine uAb ?_;refine aG (aE ?_);refine uCi ?_;refine uCv ?_;refine bF rfl rfl (by first|exact hle|exact Hl.le_refl _) ?_;rw[←aU8 (ex:=dF nm s.vars s.parts) (m:=m) h12];exact⟨_,rfl,rfl⟩
  ·
   refine aH (aB ?_);refine uCe ?_;refine aG (aE ?_);refine bK 18 rfl (fun h18=>?_) (fun h18=>?_)
   ·
    refine aH (aB ?_);refine uAa ?_;refine uFg ?_;refine uCp ?_;refine bC rfl rfl (sC b mb m hv pv nm s _ o.a _ hg hpv ha hl hs hsm) (.cons (.there .here) .nil) rfl ?_;rintro nv K _ ⟨rfl,rfl⟩ -;have hnl:∀x∈o.a.map (dF nm s.vars s.parts),x.length≤100000:=(by intro x hx;obtain⟨y,hy,rfl⟩:=List.mem_map.1 hx;exact iX (hs y hy));have hnn:(o.a.map (dF nm s.vars s.parts)).length≤1000000:=(by simpa using hl)
    generalize hnames:o.a.map (dF nm s.vars s.parts)=names at*
    refine uCh ?_;refine uAa ?_;refine aG (aE ?_);refine bE ?_;refine aAT (.cons .here (.cons .here .nil)) ?_;refine eR (fun(q:MW)=>q.i≤names.length∧K.le q.K) (fun q=>[(0,ptr b),(5,q.v),(23,nv),(24,i64 names.length),(25,i64 q.i)]) (fun q=>q.K) (fun q=>[sl false (bT 9) q.v ((names.take q.i).flatMap fun n=>fW m (dH n)),sl false (bT 9) nv names,mch b mb m hv pv nm s]) (fun q=>names.length - q.i) ⟨0,.slice none 0 0,K⟩ ⟨Nat.zero_le _,Hl.le_refl _⟩ (.cons 0 rfl (.cons 5 rfl (.cons 23 rfl (.cons 24 rfl (.cons 25 rfl .nil))))) rfl (dX (bT 9)) ?_;intro ⟨i,v,K1⟩ ⟨hi0,hle⟩;dsimp only at hi0 hle ⊢;have hh1:=hh.mono hle;have hfl:((names.take i).flatMap fun n=>fW m (dH n)).length≤1000000*1000000:=Nat.le_trans (q7 (n:=1000000) (fun x=>Nat.le_trans (tP m _) hln) _) (Nat.mul_le_mul_right _ (by rw[List.length_take];omega));refine aH (aB ?_);refine uBn ?_;refine aG (aE ?_);refine aH ?_;refine bK 26 rfl (fun h26=>?_) (fun h26=>?_)
    ·
     have hilt:i < names.length:=by omega
     obtain⟨x,hx⟩:∃x,names[i]?=some x:=⟨names[i]'hilt,List.getElem?_eq_getElem hilt⟩;refine aW ?_;refine aE (aH ?_);refine bE (aH ?_);refine aB ?_;refine aA (b0 (k:=(bT 9)) cX rfl aL rfl rfl (by first|assumption|omega)) rfl ?_;refine uCn ?_;refine uAb ?_;refine aG (aE ?_);refine uAf ?_;refine uAx ?_;refine cA rfl rfl (fO _ _ (by have:=hnl x (List.mem_of_getElem? hx);omega)) rfl ?_;refine bC rfl rfl (xJ b (dH x) _) .nil rfl ?_;rintro _ K2 _ ⟨bx,bY,rfl,hbx,hbY,rfl⟩ le2;refine bC rfl rfl (aLS bx bY b mb m hv pv nm s (dH x) _ _ _ hbx hbY (hh1.mono le2) hln hhs aI) (.cons .here (.cons (.there .here) .nil)) rfl ?_;rintro v34 K3 _ rfl le3;refine uAb ?_;refine aG (aN ?_);refine aE (aB ?_);refine uAo ?_;refine aO (.cons .here (.cons (.there .here) (.cons .here .nil))) ?_;refine cQ ⟨i+1,_,_⟩ ⟨by (show i+1≤names.length);omega,Hl.le_trans hle (Hl.le_trans le2 le3)⟩ (by (show names.length - (i+1) < names.length - i);omega) (.cons 0 rfl (.cons 5 rfl (.cons 23 rfl (.cons 24 rfl (.cons 25 rfl .nil))))) rfl ?_;dsimp only;rw[jF _ hx];exact fun _ h=>h
    ·
     have hfin:((names.take i).flatMap fun n=>fW m (dH n))=gF (dF nm s.vars s.parts) m o:=(by rw[List.take_of_length_le aI,aU6 h18,hnames]);refine uAp ?_;refine aN ?_
     first
      |(refine aO (.cons .here (.cons (.there .here) .nil)) ?_;exact bZ ⟨v,K1⟩ hle (.cons 5 rfl .nil) rfl (by rw[←hfin];exact fun _ h=>h))
      |(refine aO (.cons (.there (.there (.there (.there .here)))) (.cons .here (.cons .here (.cons .here (.cons .here .nil))))) ?_;exact bZ ⟨v,K⟩ (Hl.le_refl _) (.cons 5 rfl .nil) rfl (by rw[←hfin];exact fun h hh=>dU (fun h hh=>dR (s:=s) h hh) hh))
      |(refine aO (.cons (.there .here) .nil) ?_;exact bZ ⟨.slice none 0 0,K⟩ (Hl.le_refl _) (.cons 5 rfl .nil) rfl (by rw[aFB h12 h18 h36];exact dX (bT 9)))
   ·
    refine aH (aB ?_);refine uCe ?_;refine aG (aE ?_);refine bK 36 rfl (fun h36=>?_) (fun h36=>?_)
    ·
     refine aH (aB ?_);refine uFg ?_;refine uCp ?_;refine uCh ?_;refine uAa ?_;refine aG (aE ?_);refine bE ?_;refine eR (fun(q:Nat×Value)=>q.1≤o.a.length) (fun q=>[(0,ptr b),(5,q.2),(39,.slice sa sn sc),(40,i64 o.a.length),(41,i64 q.1)]) (fun _=>K) (fun q=>[mch b mb m hv pv nm s,sl false (bT 9) q.2 ((o.a.take q.1).flatMap (oK m)),pt b3 (aU [i64 o.op,i64 o.n,i64 o.tag,.bool o.oct,.slice sa sn sc,.slice ta tn tc,i64 o.at_] 41)]) (fun q=>o.a.length - q.1) ⟨0,.slice none 0 0⟩ (Nat.zero_le _) (.cons 0 rfl (.cons 5 rfl (.cons 39 rfl (.cons 40 rfl (.cons 41 rfl .nil))))) rfl (fun h hh=>eH (dX (bT 9) h (eH hh))) ?_;intro ⟨i,v⟩ hi0;dsimp only at hi0 ⊢;refine qQ fun av sv f c=>?_
     have hfl:((o.a.take i).flatMap (oK m)).length≤1000000*1:=Nat.le_trans (q7 (n:=1) (aKK m) _) (Nat.mul_le_mul_right _ (by rw[List.length_take];omega));refine aH (aB ?_);refine uBn ?_;refine aG (aE ?_);refine aH ?_;refine bK 42 rfl (fun h42=>?_) (fun h42=>?_)
     ·
      have hilt:i < o.a.length:=by omega
      obtain⟨x,hx⟩:∃x,o.a[i]?=some x:=⟨o.a[i]'hilt,List.getElem?_eq_getElem hilt⟩;refine aW ?_;refine aE (aH ?_);refine bE (aH ?_);refine aB ?_;refine aA (b0 (k:=(bT 9)) cX rfl aL rfl rfl (by first|assumption|omega)) rfl ?_;refine uCn ?_;refine uAb ?_;refine aG (aE ?_);refine aH (aB ?_);refine uAa ?_;refine cA rfl rfl (fO _ _ (by have:=hs x (List.mem_of_getElem? hx);omega)) rfl ?_;refine aG (aE ?_);refine bE (aH ?_);refine aB ?_;refine uIn ?_;refine uAb ?_;refine aG (aE ?_);refine bK 47 rfl (fun h47=>?_) (fun h47=>?_)
      ·
       refine uAf ?_;refine uBz ?_;refine uHq ?_;refine aA (aD (o':=0) aHU rfl rfl) rfl ?_;refine uBl ?_;refine ol_s (bN (z0:=[(str [])]) cX tz9 rfl rfl rfl rfl (.cons rfl rfl rfl (.cons .nil) .nil)) rfl ?_;rintro _ K _ ⟨b56,rfl,rfl,rfl⟩ -;refine ol_s (dM (k:=(bT 9)) (ys:=[m.from_]) iC rfl rfl (.there (.there (.there (.there (.there .here))))) (fun w j=>dB Tryz.underlying39 (SeesSl.at (k:=bT 9) (.blk (.own .here) rfl rfl) j)) (by simp only[List.length_singleton];omega) (by simp only[List.length_singleton];omega)) rfl ?_;rintro v57 K _ ⟨rfl,rfl,ho57⟩ -;refine uAb ?_;refine aG (aN ?_);refine aN (aE ?_);refine uDl ?_
       first
        |(refine aO (.cons (.there (.there .here)) (.cons (.there (.there .here)) (.cons (.there (.there .here)) (.cons (.there (.there .here)) (.cons .here (.cons (.there .here) .nil)))))) ?_;refine dN (dR (s:=s)) ?_;exact cQ ⟨i+1,v57⟩ (by (show i+1≤o.a.length);omega) (by (show o.a.length - (i+1) < o.a.length - i);omega) (.cons 0 rfl (.cons 5 rfl (.cons 39 rfl (.cons 40 rfl (.cons 41 rfl .nil))))) rfl (by dsimp only;rw[jF _ hx,aDV h47];exact fun _ h=>h))
        |(refine aO (.cons (.there (.there .here)) (.cons (.there (.there .here)) (.cons (.there (.there .here)) (.cons (.there (.there .here)) (.cons .here (.cons (.there .here) .nil)))))) ?_;refine dN (dR (s:=s)) ?_;exact cQ ⟨i+1,v68⟩ (by (show i+1≤o.a.length);omega) (by (show o.a.length - (i+1) < o.a.length - i);omega) (.cons 0 rfl (.cons 5 rfl (.cons 39 rfl (.cons 40 rfl (.cons 41 rfl .nil))))) rfl (by dsimp only;rw[jF _ hx,aDX h47 h58];exact fun _ h=>h))
        |(refine dN (dR (s:=s)) ?_;exact cQ ⟨i+1,v⟩ (by (show i+1≤o.a.length);omega) (by (show o.a.length - (i+1) < o.a.length - i);omega) (.cons 0 rfl (.cons 5 rfl (.cons 39 rfl (.cons 40 rfl (.cons 41 rfl .nil))))) rfl (by dsimp only;rw[jF _ hx,aDW h47 h58,List.append_nil];exact fun _ h=>h))
      ·
       refine aH (aB ?_);refine uIn ?_;refine uAb ?_;refine aG (aE ?_);refine bK 58 rfl (fun h58=>?_) (fun h58=>?_)
       ·
        refine uAf ?_;refine uBz ?_;refine uHq ?_;refine aA (aD (o':=1) aHV rfl rfl) rfl ?_;refine uBl ?_;refine ol_s (bN (z0:=[(str [])]) cX tz9 rfl rfl rfl rfl (.cons rfl rfl rfl (.cons .nil) .nil)) rfl ?_;rintro _ K _ ⟨b67,rfl,rfl,rfl⟩ -;refine ol_s (dM (k:=(bT 9)) (ys:=[m.to_]) iC rfl rfl (.there (.there (.there (.there (.there .here))))) (fun w j=>dB Tryz.underlying39 (SeesSl.at (k:=bT 9) (.blk (.own .here) rfl rfl) j)) (by simp only[List.length_singleton];omega) (by simp only[List.length_singleton];omega)) rfl ?_;rintro v68 K _ ⟨rfl,rfl,ho68⟩ -;refine uAb ?_;refine aG (aN ?_);refine aN (aE ?_);refine uDl ?_
        first
         |(refine aO (.cons (.there (.there .here)) (.cons (.there (.there .here)) (.cons (.there (.there .here)) (.cons (.there (.there .here)) (.cons .here (.cons (.there .here) .nil)))))) ?_;refine dN (dR (s:=s)) ?_;exact cQ ⟨i+1,v57⟩ (by (show i+1≤o.a.length);omega) (by (show o.a.length - (i+1) < o.a.length - i);omega) (.cons 0 rfl (.cons 5 rfl (.cons 39 rfl (.cons 40 rfl (.cons 41 rfl .nil))))) rfl (by dsimp only;rw[jF _ hx,aDV h47];exact fun _ h=>h))
         |(refine aO (.cons (.there (.there .here)) (.cons (.there (.there .here)) (.cons (.there (.there .here)) (.cons (.there (.there .here)) (.cons .here (.cons (.there .here) .nil)))))) ?_;refine dN (dR (s:=s)) ?_;exact cQ ⟨i+1,v68⟩ (by (show i+1≤o.a.length);omega) (by (show o.a.length - (i+1) < o.a.length - i);omega) (.cons 0 rfl (.cons 5 rfl (.cons 39 rfl (.cons 40 rfl (.cons 41 rfl .nil))))) rfl (by dsimp only;rw[jF _ hx,aDX h47 h58];exact fun _ h=>h))
         |(refine dN (dR (s:=s)) ?_;exact cQ ⟨i+1,v⟩ (by (show i+1≤o.a.length);omega) (by (show o.a.length - (i+1) < o.a.length - i);omega) (.cons 0 rfl (.cons 5 rfl (.cons 39 rfl (.cons 40 rfl (.cons 41 rfl .nil))))) rfl (by dsimp only;rw[jF _ hx,aDW h47 h58,List.append_nil];exact fun _ h=>h))
       ·
        refine aW ?_;refine aN (aN ?_);refine aE (aB ?_);refine uAo ?_
        first
         |(refine aO (.cons (.there (.there .here)) (.cons (.there (.there .here)) (.cons (.there (.there .here)) (.cons (.there (.there .here)) (.cons .here (.cons (.there .here) .nil)))))) ?_;refine dN (dR (s:=s)) ?_;exact cQ ⟨i+1,v57⟩ (by (show i+1≤o.a.length);omega) (by (show o.a.length - (i+1) < o.a.length - i);omega) (.cons 0 rfl (.cons 5 rfl (.cons 39 rfl (.cons 40 rfl (.cons 41 rfl .nil))))) rfl (by dsimp only;rw[jF _ hx,aDV h47];exact fun _ h=>h))
         |(refine aO (.cons (.there (.there .here)) (.cons (.there (.there .here)) (.cons (.there (.there .here)) (.cons (.there (.there .here)) (.cons .here (.cons (.there .here) .nil)))))) ?_;refine dN (dR (s:=s)) ?_;exact cQ ⟨i+1,v68⟩ (by (show i+1≤o.a.length);omega) (by (show o.a.length - (i+1) < o.a.length - i);omega) (.cons 0 rfl (.cons 5 rfl (.cons 39 rfl (.cons 40 rfl (.cons 41 rfl .nil))))) rfl (by dsimp only;rw[jF _ hx,aDX h47 h58];exact fun _ h=>h))
         |(refine dN (dR (s:=s)) ?_;exact cQ ⟨i+1,v⟩ (by (show i+1≤o.a.length);omega) (by (show o.a.length - (i+1) < o.a.length - i);omega) (.cons 0 rfl (.cons 5 rfl (.cons 39 rfl (.cons 40 rfl (.cons 41 rfl .nil))))) rfl (by dsimp only;rw[jF _ hx,aDW h47 h58,List.append_nil];exact fun _ h=>h))
     ·
      have hfin:((o.a.take i).flatMap (oK m))=gF (dF nm s.vars s.parts) m o:=(by rw[List.take_of_length_le aI,aU7 h36]);refine uAp ?_;refine aN ?_
      first
       |(refine aO (.cons .here (.cons (.there .here) .nil)) ?_;exact bZ ⟨v,K1⟩ hle (.cons 5 rfl .nil) rfl (by rw[←hfin];exact fun _ h=>h))
       |(refine aO (.cons (.there (.there (.there (.there .here)))) (.cons .here (.cons .here (.cons .here (.cons .here .nil))))) ?_;exact bZ ⟨v,K⟩ (Hl.le_refl _) (.cons 5 rfl .nil) rfl (by rw[←hfin];exact fun h hh=>dU (fun h hh=>dR (s:=s) h hh) hh))
       |(refine aO (.cons (.there .here) .nil) ?_;exact bZ ⟨.slice none 0 0,K⟩ (Hl.le_refl _) (.cons 5 rfl .nil) rfl (by rw[aFB h12 h18 h36];exact dX (bT 9)))
    ·
     refine uGt ?_
     first
      |(refine aO (.cons .here (.cons (.there .here) .nil)) ?_;exact bZ ⟨v,K1⟩ hle (.cons 5 rfl .nil) rfl (by rw[←hfin];exact fun _ h=>h))
      |(refine aO (.cons (.there (.there (.there (.there .here)))) (.cons .here (.cons .here (.cons .here (.cons .here .nil))))) ?_;exact bZ ⟨v,K⟩ (Hl.le_refl _) (.cons 5 rfl .nil) rfl (by rw[←hfin];exact fun h hh=>dU (fun h hh=>dR (s:=s) h hh) hh))
      |(refine aO (.cons (.there .here) .nil) ?_;exact bZ ⟨.slice none 0 0,K⟩ (Hl.le_refl _) (.cons 5 rfl .nil) rfl (by rw[aFB h12 h18 h36];exact dX (bT 9)))
 ·
  intro ⟨v,K1⟩ hle;dsimp only at hle ⊢;refine aH (aB ?_);refine uEl ?_;refine aG (aE ?_);refine bI ?_;refine bF rfl rfl (by first|exact hle|exact Hl.le_refl _) ?_;exact⟨_,rfl,rfl⟩
end Go.Proofs
end
section
namespace Go.Proofs
open Go Go.SL Go.Syn Go.Mach
open R (Yl)
theorem aPL{E:Env}{x:Exit}{fr:Fr}{K:Hl}{L:List Asn}{A:Asn}{Q:Post}(h:D E x fr K L Q):D E x fr K (A::L) Q:=fun a w f i=>h a w f i.drop
structure XI where
 i:Nat
 ds:List Nat
 K:Hl
theorem aMF{m:Msg}{l:List aM}{x:aM}(hx:x∈l)(h:fW m (dH x)=[]):oL m l=false:=by
 unfold oL;rw[List.all_eq_false];exact⟨x,hx,by simp[h]⟩
theorem aIQ{m:Msg}{l:List aM}(h:∀x∈l,fW m (dH x)≠[]):oL m l=true:=by
 unfold oL;rw[List.all_eq_true];exact fun x hx=>by simpa using h x hx
theorem take_all_succ{α:Type}{p:α→Prop}{l:List α}{i:Nat}{x:α}(h:∀y∈l.take i,p y)(hx:l[i]?=some x)(hp:p x):∀y∈l.take (i+1),p y:=by
 have hi:i < l.length:=by
  rcases Nat.lt_or_ge i l.length with h'|h'
  ·exact h'
  ·simp[List.getElem?_eq_none h']at hx
 have hc:l[i]=x:=by simpa[List.getElem?_eq_getElem hi]using hx
 rw[List.take_succ_eq_append_getElem hi,hc];intro y hy;rcases List.mem_append.1 hy with h1|h1
 ·exact h y h1
 ·rw[List.mem_singleton.1 h1];exact hp
theorem aD3(b mb:Nat)(m:Msg)(hv pv:Value)(nm:Bool)(s:MS)(lv:Value)(l:List aM)(K0:Hl)(hg:Glob K0)(hpv:Ksl (bT 9) K0 pv s.parts)(hlv:Ksl (bT 9) K0 lv l)(hh:Ksl hdEl K0 hv m.hs)(hln:m.hs.length≤1000000)(hhs:∀h∈m.hs,h.1.length≤1000000)(hl:l.length≤1000000)(hs:∀x∈l,x.length≤100000)(hsm:o1 s.vars s.parts):
  Sp Tryz.prog 151 [ptr b,lv] K0 [mch b mb m hv pv nm s] (Ret fun v K' L'=>v=.bool (oL m (l.map (dF nm s.vars s.parts)))∧L'=[mch b mb m hv pv nm s]):=by
 have hnl:∀x∈l.map (dF nm s.vars s.parts),x.length≤100000:=(by intro x hx;obtain⟨y,hy,rfl⟩:=List.mem_map.1 hx;exact iX (hs y hy));have hnn:(l.map (dF nm s.vars s.parts)).length≤1000000:=by simpa using hl
 have hall:=sC b mb m hv pv nm s lv l K0 hg hpv hlv hl hs hsm
 generalize l.map (dF nm s.vars s.parts)=names at*
 refine aHK Tryz.func151 rfl Tryz.ntmps151 rfl rfl fun F w=>?_
 refine aH (aB ?_);refine uAb ?_;refine aG (aE ?_);refine aEY ?_;refine aH ?_;refine aUO ?_;refine aE (aH ?_);refine aH (aB ?_);refine uAx ?_;refine bC rfl rfl hall (.cons .here .nil) rfl ?_;rintro nv K _ ⟨rfl,rfl⟩ -;refine uCh ?_;refine uAa ?_;refine aG (aE ?_);refine bE ?_;refine aUP (fun(q:XI)=>q.i≤names.length∧K.le q.K∧∀y∈names.take q.i,fW m (dH y)≠[]) (fun q=>q.ds.map mrk) (fun q=>[(0,ptr b),(9,nv),(10,i64 names.length),(11,i64 q.i)]) (fun q=>q.K) (fun q=>sl false (bT 9) nv names::mch b mb m hv pv nm s::q.ds.map dblk) (fun q=>names.length - q.i) ⟨0,[],K⟩ ⟨Nat.zero_le _,Hl.le_refl _,by simp⟩ rfl (.cons 0 rfl (.cons 9 rfl (.cons 10 rfl (.cons 11 rfl .nil)))) rfl (fun _ h=>h) ?_;intro ⟨i,ds,K1⟩ ⟨hi0,hle,hall⟩;dsimp only at hi0 hle hall ⊢;have hh1:=hh.mono hle;refine aH (aB ?_);refine uBn ?_;refine aG (aE ?_);refine aH ?_;refine bK 12 rfl (fun h12=>?_) (fun h12=>?_)
 ·
  have hilt:i < names.length:=by omega
  obtain⟨x,hx⟩:∃x,names[i]?=some x:=⟨names[i]'hilt,List.getElem?_eq_getElem hilt⟩;refine aW ?_;refine aE (aH ?_);refine bE (aH ?_);refine aB ?_;refine aA (b0 (k:=(bT 9)) cX rfl aL rfl rfl (by first|assumption|omega)) rfl ?_;refine uCn ?_;refine uAb ?_;refine aG (aE ?_);refine aH (aH ?_);refine uCf ?_;refine cA rfl rfl (fO _ _ (by have:=hnl x (List.mem_of_getElem? hx);omega)) rfl ?_;refine bC rfl rfl (xJ b (dH x) _) .nil rfl ?_;rintro _ K2 _ ⟨bx,bY,rfl,hbx,hbY,rfl⟩ le2;refine aG (aE ?_);refine bE ?_;refine aK9 (RR:=fun r l d e K4 L4=>e=.returned (.tuple #[])∧((fW m (dH x)=[]∧r.state=.ready∧r.pending=none∧L4=mch b mb m hv pv nm s::pt l (.loop r)::dblk d::sl false (bT 9) nv names::ds.map dblk)∨(fW m (dH x)≠[]∧L4=pt l (.loop (r.off (.exit 1)))::mch b mb m hv pv nm s::dblk d::sl false (bT 9) nv names::ds.map dblk))) rfl (cS _) (fun r l d hr0 hr1 hr2 hr3 hr4 hsz hfr=>?_) (fun r l d e K3 L3 hR le3=>?_)
  ·refine wP (M:=mch b mb m hv pv nm s::pt l (.loop r)::dblk d::sl false (bT 9) nv names::ds.map dblk) (Tks.sat (As:=[_,_,_,_]) (.cons (.there (.there (.there .here))) (.cons .here (.cons .here (.cons .here .nil))))) ?_;refine(uW l bx bY b mb m hv pv nm s (dH x) _ _ (fun pre K4 L4=>pre=[]∧L4=mch b mb m hv pv nm s::pt l (.loop r)::dblk d::sl false (bT 9) nv names::ds.map dblk) (fun pre K4 L4=>pre≠[]∧L4=pt l (.loop (r.off (.exit 1)))::mch b mb m hv pv nm s::dblk d::sl false (bT 9) nv names::ds.map dblk) hbx hbY (hh1.mono le2) hln hhs ⟨rfl,rfl⟩ ?_).mono ?_
   ·rintro pre x1 K4 _ le4 ⟨rfl,rfl⟩ hpre;refine aS5 (Tks.sat (As:=[_,_]) (.cons (.there .here) (.cons .here .nil))) ?_;refine aLQ (aV7 (n:=21) (fr1:=[]) (R:=fun t K5 L5=>t=false∧L5=pt l (.loop (r.off (.exit 1)))::mch b mb m hv pv nm s::dblk d::sl false (bT 9) nv names::ds.map dblk) hr0 hr2 rfl hsz hfr (fun F w Q hQ=>?_) (fun F w=>?_)) ?_
    ·rw[hr3];exact fun a w f i=>aUX hQ a w (f.keep .nil) i
    ·rw[hr4];refine aHW ?_;refine aUW ?_;refine gG rfl ?_
     intro a w fo i;exact⟨_,_,i,Hl.le_refl _,rfl,rfl⟩
    ·rintro t K5 _ ⟨rfl,rfl⟩;exact⟨_,fun _ h=>h,.inr ⟨rfl,by simp,rfl⟩⟩
   ·rintro e K4 L4 ⟨v,rfl,rfl,le,h|⟨pre,h1,h2,h3⟩⟩
    ·exact⟨rfl,.inl ⟨h.1,hr0,hr1,h.2⟩⟩
    ·exact⟨rfl,.inr ⟨fun e=>h2 (by rw[e]at h1;exact List.prefix_nil.1 h1),h3⟩⟩
  obtain⟨rfl,hR⟩:=hR;rcases hR with ⟨hne,hr0,hr1,rfl⟩|⟨hne,rfl⟩
  ·
   refine⟨_,r,mch b mb m hv pv nm s::dblk d::sl false (bT 9) nv names::ds.map dblk,rfl,fun h=>eH,by rw[hr0];simp,?_⟩
   rw[hr1,List.append_nil]
   show D ⟨Tryz.prog,21,mrk d::ds.map mrk,w,F⟩ _ _ _ _ _
   refine aN (aE ?_);refine aH (aB ?_);refine uAb ?_;refine aG (aE ?_);refine uEm ?_;refine mS ?_;refine dN (Tks.sat (As:=[_,_]) (.cons (.there (.there .here)) (.cons .here .nil))) ?_;refine aPL ?_;exact aDO (d::ds) (L:=[mch b mb m hv pv nm s]) rfl rfl (fun _ h=>aHA (A:=[_]) h) (Hl.le_trans hle (Hl.le_trans le2 le3)) ⟨_,rfl,by rw[aMF (List.mem_of_getElem? hx) hne],rfl⟩
  ·
   refine⟨_,r.off (.exit 1),mch b mb m hv pv nm s::dblk d::sl false (bT 9) nv names::ds.map dblk,rfl,fun h k=>k,by simp,?_⟩
   rw[List.append_nil]
   show T ⟨Tryz.prog,21,mrk d::ds.map mrk,w,F⟩ (.exit 1) _ _ _ _
   refine cR ?_;refine gG rfl ?_;refine aS ?_;refine bG ?_;refine aE (aB ?_);refine uAo ?_;exact aPP ⟨i+1,d::ds,_⟩ ⟨by (show i+1≤names.length);omega,Hl.le_trans hle (Hl.le_trans le2 le3),take_all_succ hall hx hne⟩ (by (show names.length - (i+1) < names.length - i);omega) rfl (.cons 0 rfl (.cons 9 rfl (.cons 10 rfl (.cons 11 rfl .nil)))) rfl (Tks.sat (As:=[_,_]) (.cons (.there (.there .here)) (.cons .here .nil)))
 ·
  refine uAp ?_;refine aE (aH ?_);refine uFt ?_;refine aG (aE ?_);refine bI ?_;refine mS ?_;refine aPL ?_;exact aDO ds (L:=[mch b mb m hv pv nm s]) rfl rfl (fun _ h=>aHA (A:=[_]) h) hle ⟨_,rfl,by rw[aIQ (by rw[List.take_of_length_le aI]at hall;exact hall)],rfl⟩
theorem aP1(b mb:Nat)(m:Msg)(hv pv:Value)(nm:Bool)(s:MS)(o:Ins)(av bv:Value)(n:Int)(K0:Hl)(hg:Glob K0)(hpv:Ksl (bT 9) K0 pv s.parts)(ha:Ksl (bT 9) K0 av o.a)(hb:Ksl (bT 9) K0 bv o.b)(hh:Ksl hdEl K0 hv m.hs)(hln:m.hs.length≤1000000)(hhs:∀h∈m.hs,h.1.length≤1000000)(hl:o.a.length≤1000000)(hs:∀x∈o.a,x.length≤100000)(hsm:o1 s.vars s.parts):
  Sp Tryz.prog 150 [ptr b,l4 o av bv,i64 n] K0 [mch b mb m hv pv nm s] (MI b mb m hv nm (push s (oL m (o.a.map (dF nm s.vars s.parts))))):=by
 obtain⟨sa,sn,sc,rfl⟩:=ha.isSlice;obtain⟨ta,tn,tc,rfl⟩:=hb.isSlice;refine aZ Tryz.func150 rfl Tryz.ntmps150 rfl rfl fun F w=>?_
 refine aH (aB ?_);refine uBk ?_;rintro _ K _ ⟨b4,rfl,rfl,rfl⟩ -;refine aG (aE ?_);refine uCf ?_;refine uFg ?_;refine uCp ?_;refine bC rfl rfl (aD3 b mb m hv pv nm s _ o.a _ hg hpv ha hh hln hhs hl hs hsm) (.cons (.there .here) .nil) rfl ?_;rintro _ K2 _ ⟨rfl,rfl⟩ le2;have hpv2:=hpv.mono le2;refine aY rfl rfl (kQ b mb m hv pv nm s (oL m (o.a.map (dF nm s.vars s.parts))) _) (.cons .here .nil) rfl (fun _ _=>a8 _ _) ?_ ?_
 ·
  rintro _ _ _ hTr le1;obtain⟨e,p,hq,fb,h,rfl⟩:=bA hTr;cases h
  refine uAg ?_;refine bJ (Hl.le_trans le2 le1) ?_;unfold MI;rw[hq];exact⟨fb,rfl,rfl⟩
 rintro _ K _ hTr -;obtain⟨q,hq,rfl,rfl,rfl⟩:=bB hTr;clear hTr;have hqp:=eQ hq;refine uIi ?_;refine dD rfl le2 ?_;unfold MI;rw[hq];exact⟨_,rfl,rfl,pv,by rw[hqp];exact hpv2,rfl⟩
end Go.Proofs
end
section
namespace Go.SL
open Go.MapKept
abbrev keyA(i j:Nat):Value:=.agg #[i64 i,i64 j]
abbrev EntA:=(Nat×Nat)×Nat
def entA(p:EntA):MapEntry:={key:=keyA p.1.1 p.1.2,val:=i64 1,born:=p.2}
abbrev mapA(es:List EntA)(c:Nat):Obj:=.map (es.map entA).toArray c
structure KeyA (P:Program) (kt:TypeId):Prop where
 arr:∃e,P.underlying kt=some (.array 2 e)∧P.underlying e=some (.int .i64)∧P.plainKey e=true∧P.cellsOf e=1∧∃i,P.info? e=some i
section
variable{P:Program}{w:World}{kt:TypeId}
theorem eqA(h:KeyA P kt)(a b c d:Nat):(Op.equal kt (keyA a b) (keyA c d)).run P w=.ok (decide ((a,b)=(c,d))) w:=by
 obtain⟨e,h1,h2,h3,h4,i,h5⟩:=h.arr
 show (Op.equalIn (9999+1) kt _ _).run P w=_
 rw[run_equalIn_array w 9999 _ _ h1 h5,h4];have p:∀(x y:Nat) (o:Nat) (v:Value),(#[i64 x,i64 y]:Array Value)[o]?=some v→(part e #[i64 x,i64 y] o).run P w=.ok v w:=fun x y o v h=>run_part_plain w h3 h
 have q:∀(x y:Nat),(Op.equalIn 9999 e (i64 x) (i64 y)).run P w=.ok ((x:Int)==y) w:=fun x y=>run_equalIn_int w 9998 e .i64 .i64 x y h2
 show (Op.eqItems 9999 e 1 _ _ [0,1]).run P w=_
 unfold Op.eqItems;rw[aT (p a b 0 (i64 a) rfl),aT (p c d 0 (i64 c) rfl),aT (q a c)]
 by_cases h:a=c
 ·subst h;rw[if_neg (by simp)];unfold Op.eqItems;rw[aT (p a b 1 (i64 b) rfl),aT (p a d 1 (i64 d) rfl),aT (q b d)]
  by_cases h2:b=d
  ·subst h2;simp[Op.eqItems,pure,Sem.run]
  ·rw[if_pos (by simp;omega)];simp[h2,pure,Sem.run]
 ·rw[if_pos (by simp;omega)];simp[h,pure,Sem.run]
theorem aPE(h:KeyA P kt)(b:Bool)(i j:Nat):(Instr.checkKey b 10000 kt (keyA i j)).run P w=.ok () w:=by
 obtain⟨e,h1,h2,h3,h4,inf,h5⟩:=h.arr;have p:∀(o:Nat) (v:Value),(#[i64 i,i64 j]:Array Value)[o]?=some v→(part e #[i64 i,i64 j] o).run P w=.ok v w:=fun o v h=>run_part_plain w h3 h
 have c:∀(n:Nat),(Instr.checkKey b 9999 e (i64 n)).run P w=.ok () w:=fun n=>run_checkKey h2 (d:=.int .i64) (k:=i64 n) (by trivial) b 9998
 have s:(sizeOf e).run P w=.ok 1 w:=by rw[run_sizeOf w h5,h4]
 show (Instr.checkKey b (9999+1) kt _).run P w=_
 unfold Instr.checkKey;rw[aT (run_underlying h1 w)];simp only[Std.Legacy.Range.forIn_eq_forIn_range',Std.Legacy.Range.size];simp[List.range'_succ,Sem.run_bind,s,Result.andThen,p 0 (i64 i) rfl,p 1 (i64 j) rfl,c]
def qW(k:Nat×Nat):List EntA→Nat→Option (Nat×Value)
 | [],_=>none
 |e::es,i=>if k=e.1 then some (i,i64 1)else qW k es (i+1)
theorem askA(h:KeyA P kt)(k:Nat×Nat):∀(es:List EntA) (i:Nat),(Instr.findAsking kt (keyA k.1 k.2) (es.map entA) i).run P w=.ok (qW k es i) w:=by
 intro es;induction es with
 |nil=>intro i;rfl
 |cons e es ih=>
  intro i
  show (Instr.findAsking kt (keyA k.1 k.2) (entA e::es.map entA) i).run P w=_
  unfold Instr.findAsking qW;rw[show (entA e).key=keyA e.1.1 e.1.2 from rfl,aT (eqA h k.1 k.2 e.1.1 e.1.2)]
  by_cases hk:k=e.1
  ·rw[if_pos (decide_eq_true (show (k.1,k.2)=(e.1.1,e.1.2)from hk)),if_pos hk];rfl
  ·rw[if_neg (fun h=>hk (of_decide_eq_true h)),if_neg hk];exact ih _
theorem aVE(h:KeyA P kt)(k:Nat×Nat)(es:List EntA):(Instr.findKey kt (keyA k.1 k.2) (es.map entA)).run P w=.ok (qW k es 0) w:=by
 obtain⟨e,h1,_⟩:=h.arr;unfold Instr.findKey;rw[aT (run_underlying h1 w)];cases es with
 |nil=>rfl
 |cons x xs=>exact askA h k (x::xs) 0
theorem aBP(k:Nat×Nat):∀(es:List EntA) (i:Nat),(qW k es i).isSome=decide (k∈es.map (·.1)):=by
 intro es;induction es with
 |nil=>intro i;simp[qW]
 |cons e es ih=>
  intro i;unfold qW
  by_cases hk:k=e.1
  ·simp[hk]
  ·rw[if_neg hk,ih];simp[hk]
end
section
variable{E:Env}{fr:Fr}{K:Hl}{L L':List Asn}{Q:Post}{dst:Option Tmp}{ty:TypeId}{pos:String}{aft:Array Edge}{g:Option (Nat×Bool)}{x y m:Operand}{t kt et b c i j:Nat}{v z:Value}{es:List EntA}
theorem aIM(hm:E.P.underlying t=some (.map kt et))(hk:KeyA E.P kt)(hz:fS E.P et=some z)(hx:fr.ev x=some (.map (some b)))(hy:fr.ev y=some (keyA i j))(hs:Sees K L b (mapA es c)):
  Ev E fr K L ⟨dst,.lookup t x y true,ty,pos,aft,g⟩ (.tuple #[if (i,j)∈es.map (·.1)then i64 1 else z,.bool (decide ((i,j)∈es.map (·.1)))]):=fun a w f q=>by
 simp only[execOp,f.ev hx,f.ev hy];refine d9 ?_;have hb:=hs.at q;have h1:(Instr.checkKey (es.map entA).toArray.isEmpty 10000 kt (keyA i j)).run E.P w=.ok () w:=aPE hk _ i j;have h2:(Instr.findKey kt (keyA i j) (es.map entA)).run E.P w=_:=aVE (w:=w) hk (i,j) es;have h3:(zeroValue et).run E.P w=.ok z w:=by
  unfold fS at hz;cases hi:E.P.info? et with
  |none=>simp[hi]at hz
  |some inf=>simp[hi]at hz;simp only[zeroValue,typeInfo,program,bind,Sem.bind,pure,Sem.run,hi,hz]
 have h4:=aBP (i,j) es 0;have h5:∀(es:List EntA) (o:Nat) (p:Nat×Value),qW (i,j) es o=some p→p.2=i64 1:=by
  intro es;induction es with
  |nil=>intro o p h;cases h
  |cons e es ih=>
   intro o p h;unfold qW at h;split at h
   ·cases h;rfl
   ·exact ih _ _ h
 unfold Instr.lookup;rw[aT (run_underlying hm w)];simp only[]
 show ((getObj b)>>=fun _=>_).run E.P w=_
 rw[aT (MapKept.run_getObj_map hb)];simp only[];rw[aT (vG _ _),aT h1]
 show ((Instr.findKey kt (keyA i j) (es.map entA))>>=fun _=>_).run E.P w=_
 rw[aT h2];cases hf:qW (i,j) es 0 with
 |some p=>
  rw[hf]at h4;have hm:(i,j)∈es.map (·.1):=by simpa using h4.symm
  rw[if_pos hm,decide_eq_true hm,←h5 es 0 p hf];rfl
 |none=>
  rw[hf]at h4;have hm:¬(i,j)∈es.map (·.1):=by simpa using h4.symm
  rw[if_neg hm,decide_eq_false hm]
  show ((zeroValue et)>>=fun _=>_).run E.P w=_
  rw[aT h3];rfl
theorem aW6(hm:E.P.underlying t=some (.map kt et))(hk:KeyA E.P kt)(hx:fr.ev m=some (.map (some b)))(hy:fr.ev x=some (keyA i j))(hv:fr.ev y=some (i64 1))(hn:(i,j)∉es.map (·.1))
  (hF:Fnd (pt b (mapA es c)) (pt b (mapA (es++[((i,j),c)]) (c+1))) L L'):EfS E fr K L ⟨dst,.mapUpdate t m x y,ty,pos,aft,g⟩ (fun _ K' L''=>K'=K∧L''=L'):=by
 intro a w f q;have hb:=q.mem hF;have h1:(Instr.checkKey false 10000 kt (keyA i j)).run E.P w=.ok () w:=aPE hk _ i j;have h2:(Instr.findKey kt (keyA i j) (es.map entA)).run E.P w=_:=aVE (w:=w) hk (i,j) es;have hf:qW (i,j) es 0=none:=by
  have:=aBP (i,j) es 0;rw[decide_eq_false hn]at this
  simpa using this
 have hr:(execOp a.eval ⟨dst,.mapUpdate t m x y,ty,pos,aft,g⟩).run E.P w=.ok .skip {w with heap:=w.heap.setIfInBounds b (mapA (es++[((i,j),c)]) (c+1))}:=by
  simp only[execOp,f.ev hx,f.ev hy,f.ev hv];have:(Instr.mapUpdate t (.map (some b)) (keyA i j) (i64 1)).run E.P w=.ok () {w with heap:=w.heap.setIfInBounds b (mapA (es++[((i,j),c)]) (c+1))}:=by
   unfold Instr.mapUpdate;rw[aT (run_underlying hm w)];simp only[]
   show ((getObj b)>>=fun _=>_).run E.P w=_
   rw[aT (MapKept.run_getObj_map hb)];simp only[];rw[aT h1]
   show ((Instr.findKey kt (keyA i j) (es.map entA))>>=fun _=>_).run E.P w=_
   rw[aT h2,hf]
   show (setObj b _).run E.P w=_
   rw[MapKept.run_setObj_map _ hb];have e1:(es.map entA).toArray.push {key:=keyA i j,val:=i64 1,born:=c}=((es++[((i,j),c)]).map entA).toArray:=by simp[entA]
   rw[e1]
  rw[aT this];rfl
 have hs:=MapKept.heap_set (o':=mapA (es++[((i,j),c)]) (c+1)) hb;exact⟨_,_,_,_,.inr ⟨hr,rfl⟩,⟨rfl,rfl⟩,Hl.le_refl _,q.writeAt hF (by simp) hs.1 hs.2⟩
end
theorem aME{E:Env}{fr:Fr}{K:Hl}{L:List Asn}{dst:Option Tmp}{ty:TypeId}{pos:String}{aft:Array Edge}{g:Option (Nat×Bool)}{x y:Operand}{t:TypeId}{a b:Int}(hk:KeyA E.P t)(hz:fS E.P t=some (.agg #[i64 0,i64 0]))(hx:fr.ev x=some (i64 a))(hy:fr.ev y=some (i64 b)):
  Ev E fr K L ⟨dst,.build t #[(0,x),(1,y)],ty,pos,aft,g⟩ (.agg #[i64 a,i64 b]):=fun ac w f j=>by
 obtain⟨e,h1,h2,h3,h4,inf,h5⟩:=hk.arr;have hz3:(zeroValue t).run E.P w=.ok (.agg #[i64 0,i64 0]) w:=by
  unfold fS at hz;cases hi:E.P.info? t with
  |none=>simp[hi]at hz
  |some inf=>simp[hi]at hz;simp only[zeroValue,typeInfo,program,bind,Sem.bind,pure,Sem.run,hi,hz]
 have s:(sizeOf e).run E.P w=.ok 1 w:=by rw[run_sizeOf w h5,h4]
 simp only[execOp];refine d9 ?_;have em:Array.map (fun(p:Nat×Operand)=>(p.1,ac.eval p.2)) #[(0,x),(1,y)]= #[(0,i64 a),(1,i64 b)]:=by simp[f.ev hx,f.ev hy]
 show (Instr.build t (Array.map (fun(p:Nat×Operand)=>(p.1,ac.eval p.2)) #[(0,x),(1,y)])).run E.P w=_
 rw[em];unfold Instr.build;rw[aT hz3,aT (run_underlying h1 w)];simp only[];rw[aT s]
 rfl
theorem aTI{E:Env}{fr:Fr}{K:Hl}{L L':List Asn}{o:Oper}{N:Value→Hl→List Asn→Prop}(k:∀h,Sat L h→Sat L' h)(h:EfS E fr K L' o N):EfS E fr K L o N:=fun a w f i=>h a w f (i.imp k)
section
variable{E:Env}{c x y:Code}{fr:Fr}{K:Hl}{L:List Asn}{Q:Post}{α1 α2 α3 α4 α5:Type}
def Mid5(E:Env)(I:α1→α2→α3→α4→α5→Prop)(fr:α1→α2→α3→α4→α5→Fr)(K:α1→α2→α3→α4→α5→Hl)(L:α1→α2→α3→α4→α5→List Asn):Act→World→Prop:=fun a w=>∃i1 i2 i3 i4 i5,I i1 i2 i3 i4 i5∧FrOk E.n E.ds (fr i1 i2 i3 i4 i5) a∧In E.w0 E.F (K i1 i2 i3 i4 i5) (L i1 i2 i3 i4 i5) w
theorem aUQ(I:α1→α2→α3→α4→α5→Prop)(fr':α1→α2→α3→α4→α5→Fr)(K':α1→α2→α3→α4→α5→Hl)(L':α1→α2→α3→α4→α5→List Asn)(h1:T E x fr K L (Exit.then (Mid5 E I fr' K' L') Q))(h2:∀i1 i2 i3 i4 i5,I i1 i2 i3 i4 i5→T E y (fr' i1 i2 i3 i4 i5) (K' i1 i2 i3 i4 i5) (L' i1 i2 i3 i4 i5) Q):
  T E (.seq x y) fr K L Q:=by
 intro a w f i;refine wp_seq (Code.wp_mono (fun e a w q=>?_) (h1 a w f i))
 cases e <;> first|exact q|(obtain⟨i1,i2,i3,i4,i5,hj,fj,ij⟩:=q;exact h2 i1 i2 i3 i4 i5 hj _ _ fj ij)
theorem bV{I:α1→α2→α3→α4→α5→Prop}{fr':α1→α2→α3→α4→α5→Fr}{K':α1→α2→α3→α4→α5→Hl}{L':α1→α2→α3→α4→α5→List Asn}(i1:α1)(i2:α2)(i3:α3)(i4:α4)(i5:α5)(hi:I i1 i2 i3 i4 i5)(k:Kp fr (fr' i1 i2 i3 i4 i5))(hK:K' i1 i2 i3 i4 i5=K)(hL:∀h,Sat L h→Sat (L' i1 i2 i3 i4 i5) h):
  D E .normal fr K L (Exit.then (Mid5 E I fr' K' L') Q):=fun a w f q=>⟨i1,i2,i3,i4,i5,hi,f.keep k,by rw[hK];exact q.imp hL⟩
end
end Go.SL
end
section
namespace Go.Mach
open Go.Syn
theorem uZ{α:Type}{f g:Nat→Option α}(h:∀e,f e=g e):∀n e,kA f n e=kA g n e:=by
 intro n;induction n with
 |zero=>intro e;rfl
 |succ n ih=>intro e;simp only[kA,h,ih]
theorem aML(w v k:aM):∀(f f' i j:Nat),k.length+1 - j≤f→k.length+1 - j≤f'→j≤k.length+1→g9 w v k f i j=g9 w v k f' i j∨k.length < j:=by
 intro f;induction f with
 |zero=>intro f' i j h1 h2 h3;right;omega
 |succ f ih=>
  intro f' i j h1 h2 h3;rcases Nat.lt_or_ge k.length j with hj|hj
  ·exact .inr hj
  cases f' with
  |zero=>right;omega
  |succ f'=>
   left
   have e1:∀i',j+1≤k.length→g9 w v k f i' (j+1)=g9 w v k f' i' (j+1):=fun i' hh=>by
    rcases ih f' i' (j+1) aI aI aI with h|h
    ·exact h
    ·omega
   have e2:∀i',j+2≤k.length→g9 w v k f i' (j+2)=g9 w v k f' i' (j+2):=fun i' hh=>by
    rcases ih f' i' (j+2) aI aI aI with h|h
    ·exact h
    ·omega
   unfold g9;cases hk:k[j]? with
   |none=>rfl
   |some c=>
    have hjl:j < k.length:=by
     rcases Nat.lt_or_ge j k.length with h'|h'
     ·exact h'
     ·simp[List.getElem?_eq_none h']at hk
    simp only[];split
    ·exact uZ (fun e=>by rw[e1 e aI]) _ _
    ·cases v[i]? with
     |none=>rfl
     |some x=>
      simp only[];split
      ·rw[e1 _ aI]
      ·split
       ·rename_i d hd;split
        ·split at hd
         ·have:j+1 < k.length:=by
           rcases Nat.lt_or_ge (j+1) k.length with h'|h'
           ·exact h'
           ·simp[List.getElem?_eq_none h']at hd
          rw[e2 _ aI]
         ·cases hd
        ·rfl
       ·split
        ·rw[e1 _ aI]
        ·rfl
def gl(w v k:aM)(i j:Nat):Option (List aM):=g9 w v k (k.length+1 - j) i j
variable{w v k:aM}{i j:Nat}{c d x:UInt8}
theorem nY(h:j=k.length):gl w v k i j=if i=v.length then some []else none:=by
 unfold gl;subst h
 rw[show k.length+1 - k.length=0+1 from by omega];unfold g9;rw[List.getElem?_eq_none (Nat.le_refl _)]
theorem u7(h:j < k.length):gl w v k i j=g9 w v k ((k.length - (j+1)+1)+1) i j:=by
 unfold gl;congr 1;omega
theorem aTO(hc:k[j]?=some c)(h:j < k.length)(h42:c.toNat=42):gl w v k i j=kA (fun e=>(gl w v k e (j+1)).map fun ps=>((w.take e).drop i)::ps) (v.length+1 - i) i:=by
 rw[u7 h];unfold g9;simp only[hc];rw[if_pos h42]
 refine uZ (fun e=>?_) _ _
 unfold gl;congr 2;omega
theorem lK(hc:k[j]?=some c)(h:j < k.length)(h42:¬c.toNat=42)(hi:v.length≤i):gl w v k i j=none:=by
 rw[u7 h];unfold g9;simp only[hc];rw[if_neg h42,List.getElem?_eq_none hi]
theorem gl_q(hc:k[j]?=some c)(h:j < k.length)(hx:v[i]?=some x)(h63:c.toNat=63):gl w v k i j=(gl w v k (i+1) (j+1)).map fun ps=>((w.take (i+1)).drop i)::ps:=by
 rw[u7 h];unfold g9;simp only[hc,hx];rw[if_neg aI,if_pos h63]
 unfold gl;congr 2;omega
theorem gX(hc:k[j]?=some c)(h:j+1 < k.length)(hx:v[i]?=some x)(h92:c.toNat=92)(hd:k[j+1]?=some d):gl w v k i j=if x=d then gl w v k (i+1) (j+2)else none:=by
 rw[u7 aI];unfold g9;simp only[hc,hx];rw[if_neg aI,if_neg aI,if_pos h92,hd]
 simp only[];split
 ·unfold gl;rcases aML w v k (k.length - (j+1)+1) (k.length+1 - (j+2)) (i+1) (j+2) aI aI aI with h'|h'
  ·exact h'
  ·omega
 ·rfl
theorem gY(hc:k[j]?=some c)(h:j < k.length)(hx:v[i]?=some x)(h42:¬c.toNat=42)(h63:¬c.toNat=63)(h92:¬(c.toNat=92∧j+1 < k.length)):gl w v k i j=if x=c then gl w v k (i+1) (j+1)else none:=by
 rw[u7 h];unfold g9;simp only[hc,hx];rw[if_neg h42,if_neg h63]
 have e:(if c.toNat=92 then k[j+1]? else none)=none:=by
  split
  ·exact List.getElem?_eq_none aI
  ·rfl
 rw[e];simp only[];split
 ·unfold gl;congr 1;omega
 ·rfl
end Go.Mach
end
section
namespace Go.Proofs
open Go Go.SL Go.Syn Go.Mach
theorem aEF:KeyA Tryz.prog 428:=⟨⟨3,Tryz.underlying428,Tryz.underlying3,by kernel_rfl,by kernel_rfl,info_of_underlying Tryz.underlying3⟩⟩
def yP(w v k:List UInt8)(es:List EntA):Prop:=∀e∈es,gl w v k e.1.1 e.1.2=none
abbrev GlR(w v k:List UInt8)(i j:Nat)(bp md:Nat)(ps:List (List UInt8))(es:List EntA)(K:Hl):Ending→Hl→List Asn→Prop:=Ret fun r K' L'=>K'=K∧r=.bool (gl w v k i j).isSome∧∃pv es' c',yP w v k es'∧(∀e∈es',e∈es∨j≤e.1.2)∧L'=[pt bp (aU [pv] 39),sl false (bT 9) pv (ps++(gl w v k i j).getD []),pt md (mapA es' c')]
structure GlK (w v k:List UInt8) (bd md bp bk bv bw bm:Nat) (K:Hl):Prop where
 hd:K bd=some (aU [.map (some md)] 427)
 hk:K bk=some (aU [str k] 9)
 hv:K bv=some (aU [str v] 9)
 hw:K bw=some (aU [str w] 9)
 hm:K bm=some (aU [.func (.func 306) #[] #[ptr bd,ptr bp,ptr bk,ptr bv,ptr bw,ptr bm]] 169)
theorem aPR{w v k:List UInt8}{es:List EntA}{i j:Nat}(h:yP w v k es)(hm:(i,j)∈es.map (fun x=>x.1)):gl w v k i j=none:=by
 obtain⟨e,he,e2⟩:=List.mem_map.1 hm;have:=h e he;rw[e2]at this;exact this
theorem aMI{α:Type}{f:Nat→Option α}{n e:Nat}(he:e≤n)(h:f e=none):kA f (n+1 - e) e=kA f (n+1 - (e+1)) (e+1):=by
 rw[show n+1 - e=(n+1 - (e+1))+1 from by omega];simp only[kA,h]
theorem aIV{α:Type}{f:Nat→Option α}{n e:Nat}{x:α}(he:e≤n)(h:f e=some x):kA f (n+1 - e) e=some x:=by
 rw[show n+1 - e=(n+1 - (e+1))+1 from by omega];simp only[kA,h]
theorem uN(j:Nat):((j:Int)+1)=((j+1:Nat):Int):=by omega
theorem aXZ(j:Nat):((j:Int)+2)=((j+2:Nat):Int):=by omega
theorem aRR{α:Type}{A B:Asn}{z:Bool}{k:El α}{v:Value}{xs:List α}{L:List Asn}{n:Nat}{h:Hl}(hs:Sat (A::B::sl z k v xs::L) h):(slTo v n).oneCell'=true:=by
 obtain⟨_,l,_,hl,_,_⟩:=hs;obtain⟨_,l2,_,hl2,_,_⟩:=hl;obtain⟨x,_,hx,_,_,_⟩:=hl2;rcases hx with ⟨rfl,_⟩|⟨b,cap,junk,fz,rfl,_⟩ <;> rfl
theorem aIX(w0 v k:List UInt8)(bd md bp bk bv bw bm:Nat)(hlw:w0.length=v.length)(hv:v.length≤1000000)(hk:k.length≤1000000):∀(n i j:Nat) (ps:List (List UInt8)) (es:List EntA) (c:Nat) (pv:Value) (K:Hl),k.length+1 - j≤n→GlK w0 v k bd md bp bk bv bw bm K→i≤v.length→j≤k.length→ps.length≤j→yP w0 v k es→
    Sp Tryz.prog 306 [i64 i,i64 j,ptr bd,ptr bp,ptr bk,ptr bv,ptr bw,ptr bm] K [pt bp (aU [pv] 39),sl false (bT 9) pv ps,pt md (mapA es c)] (GlR w0 v k i j bp md ps es K):=by
  intro n;induction n with
  |zero=>intro i j ps es c pv K h1 h2 h3 h4;omega
  |succ n ih=>
    intro i j ps es c pv K hn hK hi hj hps hes;obtain⟨kd,kk,kv,kw,km⟩:=hK;refine aZ Tryz.func306 rfl Tryz.ntmps306 rfl rfl fun F w=>?_
    refine aH (aB ?_);refine uAb ?_;refine aG (aE ?_);refine aH (aB ?_);refine uAx ?_;refine aA (aME aEF aZJ rfl rfl) rfl ?_;refine ol_s (cN aZT) rfl ?_;rintro _ K _ ⟨b11,rfl,rfl,rfl⟩ -;refine bP (cJ aE2 rfl rfl rfl aX (by first|(simp[Value.oneCell'];done)|exact fun c hc=>El.one _ _ c hc) (.cons (.cons .nil)) (by intro j hj;simp)) ?_;rintro _ K _ ⟨rfl,rfl⟩ -;refine aG (aE ?_);refine aH (aH ?_);refine aB ?_;refine aA (aJ aSM rfl aL rfl) rfl ?_;refine aA (bX aE2 rfl aL rfl rfl) rfl ?_;refine aA (aIM Tryz.underlying427 aEF tv3 rfl rfl (by first|exact .own .here|exact .own (.there .here)|exact .own (.there (.there .here))|exact .own (.there (.there (.there .here)))|exact .own (.there (.there (.there (.there .here)))))) rfl ?_;refine uBy ?_;refine aG (aE ?_);refine aH (aB ?_);refine uAa ?_;refine aG (aE ?_);refine bK 26 rfl (fun h26=>?_) (fun h26=>?_)
    ·
      refine aH (aB ?_);refine uAb ?_;refine aG (aE ?_);refine uCk ?_;refine aO (.cons (.there .here) (.cons (.there .here) (.cons (.there .here) .nil))) ?_;refine bF rfl rfl (Hl.le_refl _) ?_;have hgn:=aPR hes h26;exact⟨_,rfl,rfl,by rw[hgn];rfl,pv,es,c,hes,fun e h=>.inl h,by rw[hgn];simp⟩
    ·
      refine aW ?_;refine aE (aH ?_);refine aB ?_;refine uCp ?_;refine uCh ?_;refine uAb ?_;refine aG (aE ?_);refine aH (aB ?_);refine uAb ?_;refine aG (aE ?_);refine aUQ (fun(r:Option (List (List UInt8))) (pv2:Value) (cur:List (List UInt8)) (es2:List EntA) (c2:Nat)=>gl w0 v k i j=r∧(∀qs,r=some qs→cur=ps++qs)∧(r=none→cur.take ps.length=ps∧ps.length≤cur.length)∧yP w0 v k es2∧(∀e∈es2,e∈es∨j+1≤e.1.2)) (fun r _ _ _ _=>[(2,ptr bd),(3,ptr bp),(11,ptr b11),(14,i64 ps.length),(15,.bool r.isSome)]) (fun _ _ _ _ _=>K) (fun r pv2 cur es2 c2=>[pt b11 (aU [i64 i,i64 j] 428),pt bp (aU [pv2] 39),sl false (bT 9) pv2 cur,pt md (mapA es2 c2)]) ?_ ?_
      ·
        refine bE (aH ?_);refine uAf ?_;refine uBl ?_;refine uBs ?_;refine uCe ?_;refine aG (aE ?_);refine bK 44 rfl (fun h44=>?_) (fun h44=>?_)
        ·
          refine uAf ?_;refine uBl ?_;refine uBs ?_;refine uCe ?_;refine aG (aN ?_)
          first
            |(exact bV r2 pv2 cur es2 c2 ⟨(by cases r2 with|none=>(first|(rw[hln rfl,show v.length+1 - e=0 from by omega];rfl)|(simp at h66))|some q=>exact(hls q rfl).1),fun qs h=>(hls qs h).2,hlt,hld,hlw⟩ (.cons 2 rfl (.cons 3 rfl (.cons 11 rfl (.cons 14 rfl (.cons 15 rfl .nil))))) rfl bO)
            |(exact bV none pv ps es c ⟨lK hc hjl aI aI,(fun qs h=>by cases h),(fun _=>⟨List.take_length,Nat.le_refl _⟩),hes,(fun q hq=>.inl hq)⟩ (.cons 2 rfl (.cons 3 rfl (.cons 11 rfl (.cons 14 rfl (.cons 15 rfl .nil))))) rfl bO)
            |(have hge:=gl_q (w:=w0) hc hjl hx aI
               refine uBg ?_;rcases hq:gl w0 v k (i+1) (j+1)with _|qs
               · (rw[hq]at hge;exact bV none pv3 (ps++[((w0.take (i+1)).drop i)]++[]) es3 c3 ⟨hge,(fun qs h=>by cases h),(fun _=>⟨by simp,by simp⟩),hde3,(fun q hq2=>(hnew3 q hq2).elim (fun h=>.inl h) (fun h=>.inr h))⟩ (.cons 2 rfl (.cons 3 rfl (.cons 11 rfl (.cons 14 rfl (.cons 15 rfl .nil))))) rfl bO)
               · (rw[hq]at hge;exact bV (some (((w0.take (i+1)).drop i)::qs)) pv3 (ps++[((w0.take (i+1)).drop i)]++qs) es3 c3 ⟨hge,(fun qs2 h=>by cases h;simp),(fun h=>by cases h),hde3,(fun q hq2=>(hnew3 q hq2).elim (fun h=>.inl h) (fun h=>.inr h))⟩ (.cons 2 rfl (.cons 3 rfl (.cons 11 rfl (.cons 14 rfl (.cons 15 rfl .nil))))) rfl bO))
            |(have hxd:x=d:=UInt8.toNat_inj.1 aI
               have hge:=gX (w:=w0) hc aI hx aI hd;rw[if_pos hxd]at hge;refine uAs ?_;rcases hq:gl w0 v k (i+1) (j+2)with _|qs
               · (rw[hq]at hge;exact bV none pv3 (ps++[]) es3 c3 ⟨hge,(fun qs h=>by cases h),(fun _=>⟨by simp,by simp⟩),hde3,(fun q hq2=>(hnew3 q hq2).elim (fun h=>.inl h) (fun h=>.inr aI))⟩ (.cons 2 rfl (.cons 3 rfl (.cons 11 rfl (.cons 14 rfl (.cons 15 rfl .nil))))) rfl bO)
               · (rw[hq]at hge;exact bV (some qs) pv3 (ps++qs) es3 c3 ⟨hge,(fun qs2 h=>by cases h;simp),(fun h=>by cases h),hde3,(fun q hq2=>(hnew3 q hq2).elim (fun h=>.inl h) (fun h=>.inr aI))⟩ (.cons 2 rfl (.cons 3 rfl (.cons 11 rfl (.cons 14 rfl (.cons 15 rfl .nil))))) rfl bO))
            |(have hxd:¬x=d:=(fun h=>by subst h;omega)
               have hge:=gX (w:=w0) hc aI hx aI hd;rw[if_neg hxd]at hge;exact bV none pv ps es c ⟨hge,(fun qs h=>by cases h),(fun _=>⟨List.take_length,Nat.le_refl _⟩),hes,(fun q hq=>.inl hq)⟩ (.cons 2 rfl (.cons 3 rfl (.cons 11 rfl (.cons 14 rfl (.cons 15 rfl .nil))))) rfl bO)
            |(have hxd:x=c1:=UInt8.toNat_inj.1 aI
               have hge:=gY (w:=w0) hc hjl hx aI aI aI;rw[if_pos hxd]at hge;refine uAs ?_;rcases hq:gl w0 v k (i+1) (j+1)with _|qs
               · (rw[hq]at hge;exact bV none pv3 (ps++[]) es3 c3 ⟨hge,(fun qs h=>by cases h),(fun _=>⟨by simp,by simp⟩),hde3,(fun q hq2=>(hnew3 q hq2).elim (fun h=>.inl h) (fun h=>.inr h))⟩ (.cons 2 rfl (.cons 3 rfl (.cons 11 rfl (.cons 14 rfl (.cons 15 rfl .nil))))) rfl bO)
               · (rw[hq]at hge;exact bV (some qs) pv3 (ps++qs) es3 c3 ⟨hge,(fun qs2 h=>by cases h;simp),(fun h=>by cases h),hde3,(fun q hq2=>(hnew3 q hq2).elim (fun h=>.inl h) (fun h=>.inr h))⟩ (.cons 2 rfl (.cons 3 rfl (.cons 11 rfl (.cons 14 rfl (.cons 15 rfl .nil))))) rfl bO))
            |(have hxd:¬x=c1:=(fun h=>by subst h;omega)
               have hge:=gY (w:=w0) hc hjl hx aI aI aI;rw[if_neg hxd]at hge;exact bV none pv ps es c ⟨hge,(fun qs h=>by cases h),(fun _=>⟨List.take_length,Nat.le_refl _⟩),hes,(fun q hq=>.inl hq)⟩ (.cons 2 rfl (.cons 3 rfl (.cons 11 rfl (.cons 14 rfl (.cons 15 rfl .nil))))) rfl bO)
            |(have hge:=nY (w:=w0) (v:=v) (k:=k) (i:=i) (j:=j) aI
               by_cases hiv:i=v.length
               · (rw[if_pos hiv]at hge;rw[show decide ((i:Int)=(v.length:Int))=true from decide_eq_true aI];exact bV (some []) pv ps es c ⟨hge,(fun qs h=>by cases h;simp),(fun h=>by cases h),hes,(fun q hq=>.inl hq)⟩ (.cons 2 rfl (.cons 3 rfl (.cons 11 rfl (.cons 14 rfl (.cons 15 rfl .nil))))) rfl bO)
               · (rw[if_neg hiv]at hge;rw[show decide ((i:Int)=(v.length:Int))=false from decide_eq_false aI];exact bV none pv ps es c ⟨hge,(fun qs h=>by cases h),(fun _=>⟨List.take_length,Nat.le_refl _⟩),hes,(fun q hq=>.inl hq)⟩ (.cons 2 rfl (.cons 3 rfl (.cons 11 rfl (.cons 14 rfl (.cons 15 rfl .nil))))) rfl bO))
        ·
          have hjl:j < k.length:=by omega
          obtain⟨c1,hc⟩:∃c1,k[j]?=some c1:=⟨k[j]'hjl,List.getElem?_eq_getElem hjl⟩;refine aH (aB ?_);refine uBl ?_;refine uAa ?_;refine uFy ?_;refine uCe ?_;refine aG (aE ?_);refine bK 53 rfl (fun h53=>?_) (fun h53=>?_)
          ·
            refine aH (aB ?_);refine uEl ?_;refine aG (aE ?_);refine bE ?_;refine aEX (fun(e:Nat) (r2:Option (List (List UInt8))) (pv2:Value) (cur:List (List UInt8)) (es2:List EntA) (c2:Nat) (_:Unit)=>(i≤e∧e≤v.length+1)∧(r2=none→gl w0 v k i j=kA (fun e=>(gl w0 v k e (j+1)).map fun qs=>((w0.take e).drop i)::qs) (v.length+1 - e) e)∧(∀qs,r2=some qs→gl w0 v k i j=some qs∧cur=ps++qs)∧(r2=none→cur.take ps.length=ps∧ps.length≤cur.length)∧yP w0 v k es2∧(∀e∈es2,e∈es∨j+1≤e.1.2)) (fun e r2 _ _ _ _ _=>[(0,i64 i),(1,i64 j),(2,ptr bd),(3,ptr bp),(4,ptr bk),(5,ptr bv),(6,ptr bw),(7,ptr bm),(11,ptr b11),(14,i64 ps.length),(15,.bool r2.isSome),(16,i64 e)]) (fun _ _ _ _ _ _ _=>K) (fun _ _ pv2 cur es2 c2 _=>[pt b11 (aU [i64 i,i64 j] 428),pt bp (aU [pv2] 39),sl false (bT 9) pv2 cur,pt md (mapA es2 c2)]) (fun e _ _ _ _ _ _=>v.length+1 - e) i none pv ps es c () ⟨⟨Nat.le_refl _,by omega⟩,fun _=>aTO hc hjl aI,(fun qs h=>by cases h),(fun _=>⟨List.take_length,Nat.le_refl _⟩),hes,(fun q hq=>.inl hq)⟩ (.cons 0 rfl (.cons 1 rfl (.cons 2 rfl (.cons 3 rfl (.cons 4 rfl (.cons 5 rfl (.cons 6 rfl (.cons 7 rfl (.cons 11 rfl (.cons 14 rfl (.cons 15 rfl (.cons 16 rfl .nil)))))))))))) rfl (fun _ h=>h) ?_;intro e r2 pv2 cur es2 c2 _ ⟨hle,hln,hls,hlt,hld,hlw⟩;refine aH (aH ?_);refine uAf ?_;refine uBl ?_;refine uBs ?_;refine uEu ?_;refine uAa ?_;refine cG 63 rfl (fun g63=>?_) (fun g63=>?_)
            ·
              refine uAi ?_;refine aA (by first|exact dP rfl|exact dO rfl) rfl ?_;refine uAy ?_;refine aG (aE ?_);refine eJ 66 rfl (fun h66=>?_) (fun h66=>?_)
              ·
                obtain rfl:r2=none:=(by cases r2 with|none=>rfl|some q=>simp at h66);obtain⟨hct,hcl⟩:=hlt rfl;refine aW ?_;refine aE (aH ?_);refine bE (aH ?_);refine t_draw (anc:=[0,0,3,0,0,0,56,120,255,511]) (ord:=[0,1,2,3,4,5,6,7,8,9]) [7,8,9] [8,9] mixed (by decide+kernel) (.cons (.there .here) (.cons (.there .here) .nil)) ?_;refine dl_ev rfl rfl (.none rfl) rfl rfl (aJ ts39 rfl aL rfl) rfl ?_;refine uAj ?_;refine dl_ev rfl rfl (.none rfl) rfl rfl (tO (k:=bT 9) (m:=ps.length) cX rfl (.there .here) (.there .here) rfl rfl hcl) rfl ?_;refine uBa ?_;refine uGi ?_;refine dl_ev rfl rfl (.none rfl) rfl rfl (lJ (m:=i) (n:=e) Tryz.underlying9 rfl rfl rfl rfl rfl aI aI) rfl ?_;refine dl_s rfl rfl (.none rfl) rfl rfl (bN (z0:=[(str [])]) cX tz9 rfl rfl rfl rfl (.cons rfl rfl rfl (.cons .nil) .nil)) rfl ?_;rintro _ K _ ⟨b76,rfl,rfl,rfl⟩ -;refine⟨_,(show Tks _ _ _ from (.cons (.there .here) (.cons (.there .here) .nil))).sat,?_⟩
                refine dl_g rfl rfl (.none rfl) rfl (aTI (fun h hh=>fA (yI (m:=ps.length) hcl) h ((show Tks [_] _ _ from .cons (.there .here) .nil).sat h hh)) (dM (k:=(bT 9)) (ys:=[((w0.take e).drop i)]) iC rfl rfl .here (fun w j=>dB Tryz.underlying39 (SeesSl.at (.blk (.own (.there (.there .here))) rfl rfl) j)) (by rw[hct];first|(simp;omega)|omega) (by rw[hct];first|(simp;omega)|omega))) rfl ?_;rintro v77 K _ ⟨rfl,rfl,ho77⟩ -;refine kH rfl rfl (.none rfl) rfl (bH ts39 rfl rfl cD aX .zero rfl) ?_;rintro _ K _ ⟨rfl,rfl⟩ -;refine uDg ?_;rw[hct];refine aB ?_;refine aA (aJ aAZ rfl aL rfl) rfl ?_;refine uAx ?_;refine uCj ?_;rw[uN j];refine bC rfl rfl (ih e (j+1) (ps++[((w0.take e).drop i)]) es2 c2 _ _ aI ⟨kd,kk,kv,kw,km⟩ aI aI (by rw[List.length_append];simp only[List.length_singleton];omega) hld) (.cons (.there .here) (.cons .here (.cons (.there (.there .here)) .nil))) rfl ?_;rintro _ K _ ⟨rfl,rfl,pv3,es3,c3,hde3,hnew3,rfl⟩ -;refine uAb ?_;refine aG (aN ?_);refine aE (aB ?_);refine uAa ?_;refine uCj ?_;refine uAb ?_;refine aG ?_;refine uBg ?_;rcases hq:gl w0 v k e (j+1)with _|qs
                · (refine i8 (e+1) none pv3 (ps++[((w0.take e).drop i)]++[]) es3 c3 () ⟨⟨by omega,by omega⟩,(fun _=>by rw[hln rfl,aMI aI (by rw[hq];rfl)]),(fun qs h=>by cases h),(fun _=>⟨by simp,by simp⟩),hde3,(fun q hq2=>(hnew3 q hq2).elim (fun h=>hlw q h) (fun h=>.inr h))⟩ aI (.cons 0 rfl (.cons 1 rfl (.cons 2 rfl (.cons 3 rfl (.cons 4 rfl (.cons 5 rfl (.cons 6 rfl (.cons 7 rfl (.cons 11 rfl (.cons 14 rfl (.cons 15 rfl (.cons 16 rfl .nil)))))))))))) rfl bO)
                · (refine i8 (e+1) (some (((w0.take e).drop i)::qs)) pv3 (ps++[((w0.take e).drop i)]++qs) es3 c3 () ⟨⟨by omega,by omega⟩,(fun h=>by cases h),(fun qs2 h=>by cases h;exact⟨by rw[hln rfl,aIV aI (by rw[hq];rfl)],by simp⟩),(fun h=>by cases h),hde3,(fun q hq2=>(hnew3 q hq2).elim (fun h=>hlw q h) (fun h=>.inr h))⟩ aI (.cons 0 rfl (.cons 1 rfl (.cons 2 rfl (.cons 3 rfl (.cons 4 rfl (.cons 5 rfl (.cons 6 rfl (.cons 7 rfl (.cons 11 rfl (.cons 14 rfl (.cons 15 rfl (.cons 16 rfl .nil)))))))))))) rfl bO)
              ·
                refine uAp ?_;refine aN ?_
                first
                  |(exact bV r2 pv2 cur es2 c2 ⟨(by cases r2 with|none=>(first|(rw[hln rfl,show v.length+1 - e=0 from by omega];rfl)|(simp at h66))|some q=>exact(hls q rfl).1),fun qs h=>(hls qs h).2,hlt,hld,hlw⟩ (.cons 2 rfl (.cons 3 rfl (.cons 11 rfl (.cons 14 rfl (.cons 15 rfl .nil))))) rfl bO)
                  |(exact bV none pv ps es c ⟨lK hc hjl aI aI,(fun qs h=>by cases h),(fun _=>⟨List.take_length,Nat.le_refl _⟩),hes,(fun q hq=>.inl hq)⟩ (.cons 2 rfl (.cons 3 rfl (.cons 11 rfl (.cons 14 rfl (.cons 15 rfl .nil))))) rfl bO)
                  |(have hge:=gl_q (w:=w0) hc hjl hx aI
                     refine uBg ?_;rcases hq:gl w0 v k (i+1) (j+1)with _|qs
                     · (rw[hq]at hge;exact bV none pv3 (ps++[((w0.take (i+1)).drop i)]++[]) es3 c3 ⟨hge,(fun qs h=>by cases h),(fun _=>⟨by simp,by simp⟩),hde3,(fun q hq2=>(hnew3 q hq2).elim (fun h=>.inl h) (fun h=>.inr h))⟩ (.cons 2 rfl (.cons 3 rfl (.cons 11 rfl (.cons 14 rfl (.cons 15 rfl .nil))))) rfl bO)
                     · (rw[hq]at hge;exact bV (some (((w0.take (i+1)).drop i)::qs)) pv3 (ps++[((w0.take (i+1)).drop i)]++qs) es3 c3 ⟨hge,(fun qs2 h=>by cases h;simp),(fun h=>by cases h),hde3,(fun q hq2=>(hnew3 q hq2).elim (fun h=>.inl h) (fun h=>.inr h))⟩ (.cons 2 rfl (.cons 3 rfl (.cons 11 rfl (.cons 14 rfl (.cons 15 rfl .nil))))) rfl bO))
                  |(have hxd:x=d:=UInt8.toNat_inj.1 aI
                     have hge:=gX (w:=w0) hc aI hx aI hd;rw[if_pos hxd]at hge;refine uAs ?_;rcases hq:gl w0 v k (i+1) (j+2)with _|qs
                     · (rw[hq]at hge;exact bV none pv3 (ps++[]) es3 c3 ⟨hge,(fun qs h=>by cases h),(fun _=>⟨by simp,by simp⟩),hde3,(fun q hq2=>(hnew3 q hq2).elim (fun h=>.inl h) (fun h=>.inr aI))⟩ (.cons 2 rfl (.cons 3 rfl (.cons 11 rfl (.cons 14 rfl (.cons 15 rfl .nil))))) rfl bO)
                     · (rw[hq]at hge;exact bV (some qs) pv3 (ps++qs) es3 c3 ⟨hge,(fun qs2 h=>by cases h;simp),(fun h=>by cases h),hde3,(fun q hq2=>(hnew3 q hq2).elim (fun h=>.inl h) (fun h=>.inr aI))⟩ (.cons 2 rfl (.cons 3 rfl (.cons 11 rfl (.cons 14 rfl (.cons 15 rfl .nil))))) rfl bO))
                  |(have hxd:¬x=d:=(fun h=>by subst h;omega)
                     have hge:=gX (w:=w0) hc aI hx aI hd;rw[if_neg hxd]at hge;exact bV none pv ps es c ⟨hge,(fun qs h=>by cases h),(fun _=>⟨List.take_length,Nat.le_refl _⟩),hes,(fun q hq=>.inl hq)⟩ (.cons 2 rfl (.cons 3 rfl (.cons 11 rfl (.cons 14 rfl (.cons 15 rfl .nil))))) rfl bO)
                  |(have hxd:x=c1:=UInt8.toNat_inj.1 aI
                     have hge:=gY (w:=w0) hc hjl hx aI aI aI;rw[if_pos hxd]at hge;refine uAs ?_;rcases hq:gl w0 v k (i+1) (j+1)with _|qs
                     · (rw[hq]at hge;exact bV none pv3 (ps++[]) es3 c3 ⟨hge,(fun qs h=>by cases h),(fun _=>⟨by simp,by simp⟩),hde3,(fun q hq2=>(hnew3 q hq2).elim (fun h=>.inl h) (fun h=>.inr h))⟩ (.cons 2 rfl (.cons 3 rfl (.cons 11 rfl (.cons 14 rfl (.cons 15 rfl .nil))))) rfl bO)
                     · (rw[hq]at hge;exact bV (some qs) pv3 (ps++qs) es3 c3 ⟨hge,(fun qs2 h=>by cases h;simp),(fun h=>by cases h),hde3,(fun q hq2=>(hnew3 q hq2).elim (fun h=>.inl h) (fun h=>.inr h))⟩ (.cons 2 rfl (.cons 3 rfl (.cons 11 rfl (.cons 14 rfl (.cons 15 rfl .nil))))) rfl bO))
                  |(have hxd:¬x=c1:=(fun h=>by subst h;omega)
                     have hge:=gY (w:=w0) hc hjl hx aI aI aI;rw[if_neg hxd]at hge;exact bV none pv ps es c ⟨hge,(fun qs h=>by cases h),(fun _=>⟨List.take_length,Nat.le_refl _⟩),hes,(fun q hq=>.inl hq)⟩ (.cons 2 rfl (.cons 3 rfl (.cons 11 rfl (.cons 14 rfl (.cons 15 rfl .nil))))) rfl bO)
                  |(have hge:=nY (w:=w0) (v:=v) (k:=k) (i:=i) (j:=j) aI
                     by_cases hiv:i=v.length
                     · (rw[if_pos hiv]at hge;rw[show decide ((i:Int)=(v.length:Int))=true from decide_eq_true aI];exact bV (some []) pv ps es c ⟨hge,(fun qs h=>by cases h;simp),(fun h=>by cases h),hes,(fun q hq=>.inl hq)⟩ (.cons 2 rfl (.cons 3 rfl (.cons 11 rfl (.cons 14 rfl (.cons 15 rfl .nil))))) rfl bO)
                     · (rw[if_neg hiv]at hge;rw[show decide ((i:Int)=(v.length:Int))=false from decide_eq_false aI];exact bV none pv ps es c ⟨hge,(fun qs h=>by cases h),(fun _=>⟨List.take_length,Nat.le_refl _⟩),hes,(fun q hq=>.inl hq)⟩ (.cons 2 rfl (.cons 3 rfl (.cons 11 rfl (.cons 14 rfl (.cons 15 rfl .nil))))) rfl bO))
            ·
              refine uGq ?_;refine aG (aE ?_);refine uHs ?_;refine uAp ?_;refine aN ?_
              first
                |(exact bV r2 pv2 cur es2 c2 ⟨(by cases r2 with|none=>(first|(rw[hln rfl,show v.length+1 - e=0 from by omega];rfl)|(simp at h66))|some q=>exact(hls q rfl).1),fun qs h=>(hls qs h).2,hlt,hld,hlw⟩ (.cons 2 rfl (.cons 3 rfl (.cons 11 rfl (.cons 14 rfl (.cons 15 rfl .nil))))) rfl bO)
                |(exact bV none pv ps es c ⟨lK hc hjl aI aI,(fun qs h=>by cases h),(fun _=>⟨List.take_length,Nat.le_refl _⟩),hes,(fun q hq=>.inl hq)⟩ (.cons 2 rfl (.cons 3 rfl (.cons 11 rfl (.cons 14 rfl (.cons 15 rfl .nil))))) rfl bO)
                |(have hge:=gl_q (w:=w0) hc hjl hx aI
                   refine uBg ?_;rcases hq:gl w0 v k (i+1) (j+1)with _|qs
                   · (rw[hq]at hge;exact bV none pv3 (ps++[((w0.take (i+1)).drop i)]++[]) es3 c3 ⟨hge,(fun qs h=>by cases h),(fun _=>⟨by simp,by simp⟩),hde3,(fun q hq2=>(hnew3 q hq2).elim (fun h=>.inl h) (fun h=>.inr h))⟩ (.cons 2 rfl (.cons 3 rfl (.cons 11 rfl (.cons 14 rfl (.cons 15 rfl .nil))))) rfl bO)
                   · (rw[hq]at hge;exact bV (some (((w0.take (i+1)).drop i)::qs)) pv3 (ps++[((w0.take (i+1)).drop i)]++qs) es3 c3 ⟨hge,(fun qs2 h=>by cases h;simp),(fun h=>by cases h),hde3,(fun q hq2=>(hnew3 q hq2).elim (fun h=>.inl h) (fun h=>.inr h))⟩ (.cons 2 rfl (.cons 3 rfl (.cons 11 rfl (.cons 14 rfl (.cons 15 rfl .nil))))) rfl bO))
                |(have hxd:x=d:=UInt8.toNat_inj.1 aI
                   have hge:=gX (w:=w0) hc aI hx aI hd;rw[if_pos hxd]at hge;refine uAs ?_;rcases hq:gl w0 v k (i+1) (j+2)with _|qs
                   · (rw[hq]at hge;exact bV none pv3 (ps++[]) es3 c3 ⟨hge,(fun qs h=>by cases h),(fun _=>⟨by simp,by simp⟩),hde3,(fun q hq2=>(hnew3 q hq2).elim (fun h=>.inl h) (fun h=>.inr aI))⟩ (.cons 2 rfl (.cons 3 rfl (.cons 11 rfl (.cons 14 rfl (.cons 15 rfl .nil))))) rfl bO)
                   · (rw[hq]at hge;exact bV (some qs) pv3 (ps++qs) es3 c3 ⟨hge,(fun qs2 h=>by cases h;simp),(fun h=>by cases h),hde3,(fun q hq2=>(hnew3 q hq2).elim (fun h=>.inl h) (fun h=>.inr aI))⟩ (.cons 2 rfl (.cons 3 rfl (.cons 11 rfl (.cons 14 rfl (.cons 15 rfl .nil))))) rfl bO))
                |(have hxd:¬x=d:=(fun h=>by subst h;omega)
                   have hge:=gX (w:=w0) hc aI hx aI hd;rw[if_neg hxd]at hge;exact bV none pv ps es c ⟨hge,(fun qs h=>by cases h),(fun _=>⟨List.take_length,Nat.le_refl _⟩),hes,(fun q hq=>.inl hq)⟩ (.cons 2 rfl (.cons 3 rfl (.cons 11 rfl (.cons 14 rfl (.cons 15 rfl .nil))))) rfl bO)
                |(have hxd:x=c1:=UInt8.toNat_inj.1 aI
                   have hge:=gY (w:=w0) hc hjl hx aI aI aI;rw[if_pos hxd]at hge;refine uAs ?_;rcases hq:gl w0 v k (i+1) (j+1)with _|qs
                   · (rw[hq]at hge;exact bV none pv3 (ps++[]) es3 c3 ⟨hge,(fun qs h=>by cases h),(fun _=>⟨by simp,by simp⟩),hde3,(fun q hq2=>(hnew3 q hq2).elim (fun h=>.inl h) (fun h=>.inr h))⟩ (.cons 2 rfl (.cons 3 rfl (.cons 11 rfl (.cons 14 rfl (.cons 15 rfl .nil))))) rfl bO)
                   · (rw[hq]at hge;exact bV (some qs) pv3 (ps++qs) es3 c3 ⟨hge,(fun qs2 h=>by cases h;simp),(fun h=>by cases h),hde3,(fun q hq2=>(hnew3 q hq2).elim (fun h=>.inl h) (fun h=>.inr h))⟩ (.cons 2 rfl (.cons 3 rfl (.cons 11 rfl (.cons 14 rfl (.cons 15 rfl .nil))))) rfl bO))
                |(have hxd:¬x=c1:=(fun h=>by subst h;omega)
                   have hge:=gY (w:=w0) hc hjl hx aI aI aI;rw[if_neg hxd]at hge;exact bV none pv ps es c ⟨hge,(fun qs h=>by cases h),(fun _=>⟨List.take_length,Nat.le_refl _⟩),hes,(fun q hq=>.inl hq)⟩ (.cons 2 rfl (.cons 3 rfl (.cons 11 rfl (.cons 14 rfl (.cons 15 rfl .nil))))) rfl bO)
                |(have hge:=nY (w:=w0) (v:=v) (k:=k) (i:=i) (j:=j) aI
                   by_cases hiv:i=v.length
                   · (rw[if_pos hiv]at hge;rw[show decide ((i:Int)=(v.length:Int))=true from decide_eq_true aI];exact bV (some []) pv ps es c ⟨hge,(fun qs h=>by cases h;simp),(fun h=>by cases h),hes,(fun q hq=>.inl hq)⟩ (.cons 2 rfl (.cons 3 rfl (.cons 11 rfl (.cons 14 rfl (.cons 15 rfl .nil))))) rfl bO)
                   · (rw[if_neg hiv]at hge;rw[show decide ((i:Int)=(v.length:Int))=false from decide_eq_false aI];exact bV none pv ps es c ⟨hge,(fun qs h=>by cases h),(fun _=>⟨List.take_length,Nat.le_refl _⟩),hes,(fun q hq=>.inl hq)⟩ (.cons 2 rfl (.cons 3 rfl (.cons 11 rfl (.cons 14 rfl (.cons 15 rfl .nil))))) rfl bO))
          ·
            refine aH (aB ?_);refine uAa ?_;refine uBl ?_;refine uBs ?_;refine uCe ?_;refine aG (aE ?_);refine bK 83 rfl (fun h83=>?_) (fun h83=>?_)
            ·
              refine uGt ?_
              first
                |(exact bV r2 pv2 cur es2 c2 ⟨(by cases r2 with|none=>(first|(rw[hln rfl,show v.length+1 - e=0 from by omega];rfl)|(simp at h66))|some q=>exact(hls q rfl).1),fun qs h=>(hls qs h).2,hlt,hld,hlw⟩ (.cons 2 rfl (.cons 3 rfl (.cons 11 rfl (.cons 14 rfl (.cons 15 rfl .nil))))) rfl bO)
                |(exact bV none pv ps es c ⟨lK hc hjl aI aI,(fun qs h=>by cases h),(fun _=>⟨List.take_length,Nat.le_refl _⟩),hes,(fun q hq=>.inl hq)⟩ (.cons 2 rfl (.cons 3 rfl (.cons 11 rfl (.cons 14 rfl (.cons 15 rfl .nil))))) rfl bO)
                |(have hge:=gl_q (w:=w0) hc hjl hx aI
                   refine uBg ?_;rcases hq:gl w0 v k (i+1) (j+1)with _|qs
                   · (rw[hq]at hge;exact bV none pv3 (ps++[((w0.take (i+1)).drop i)]++[]) es3 c3 ⟨hge,(fun qs h=>by cases h),(fun _=>⟨by simp,by simp⟩),hde3,(fun q hq2=>(hnew3 q hq2).elim (fun h=>.inl h) (fun h=>.inr h))⟩ (.cons 2 rfl (.cons 3 rfl (.cons 11 rfl (.cons 14 rfl (.cons 15 rfl .nil))))) rfl bO)
                   · (rw[hq]at hge;exact bV (some (((w0.take (i+1)).drop i)::qs)) pv3 (ps++[((w0.take (i+1)).drop i)]++qs) es3 c3 ⟨hge,(fun qs2 h=>by cases h;simp),(fun h=>by cases h),hde3,(fun q hq2=>(hnew3 q hq2).elim (fun h=>.inl h) (fun h=>.inr h))⟩ (.cons 2 rfl (.cons 3 rfl (.cons 11 rfl (.cons 14 rfl (.cons 15 rfl .nil))))) rfl bO))
                |(have hxd:x=d:=UInt8.toNat_inj.1 aI
                   have hge:=gX (w:=w0) hc aI hx aI hd;rw[if_pos hxd]at hge;refine uAs ?_;rcases hq:gl w0 v k (i+1) (j+2)with _|qs
                   · (rw[hq]at hge;exact bV none pv3 (ps++[]) es3 c3 ⟨hge,(fun qs h=>by cases h),(fun _=>⟨by simp,by simp⟩),hde3,(fun q hq2=>(hnew3 q hq2).elim (fun h=>.inl h) (fun h=>.inr aI))⟩ (.cons 2 rfl (.cons 3 rfl (.cons 11 rfl (.cons 14 rfl (.cons 15 rfl .nil))))) rfl bO)
                   · (rw[hq]at hge;exact bV (some qs) pv3 (ps++qs) es3 c3 ⟨hge,(fun qs2 h=>by cases h;simp),(fun h=>by cases h),hde3,(fun q hq2=>(hnew3 q hq2).elim (fun h=>.inl h) (fun h=>.inr aI))⟩ (.cons 2 rfl (.cons 3 rfl (.cons 11 rfl (.cons 14 rfl (.cons 15 rfl .nil))))) rfl bO))
                |(have hxd:¬x=d:=(fun h=>by subst h;omega)
                   have hge:=gX (w:=w0) hc aI hx aI hd;rw[if_neg hxd]at hge;exact bV none pv ps es c ⟨hge,(fun qs h=>by cases h),(fun _=>⟨List.take_length,Nat.le_refl _⟩),hes,(fun q hq=>.inl hq)⟩ (.cons 2 rfl (.cons 3 rfl (.cons 11 rfl (.cons 14 rfl (.cons 15 rfl .nil))))) rfl bO)
                |(have hxd:x=c1:=UInt8.toNat_inj.1 aI
                   have hge:=gY (w:=w0) hc hjl hx aI aI aI;rw[if_pos hxd]at hge;refine uAs ?_;rcases hq:gl w0 v k (i+1) (j+1)with _|qs
                   · (rw[hq]at hge;exact bV none pv3 (ps++[]) es3 c3 ⟨hge,(fun qs h=>by cases h),(fun _=>⟨by simp,by simp⟩),hde3,(fun q hq2=>(hnew3 q hq2).elim (fun h=>.inl h) (fun h=>.inr h))⟩ (.cons 2 rfl (.cons 3 rfl (.cons 11 rfl (.cons 14 rfl (.cons 15 rfl .nil))))) rfl bO)
                   · (rw[hq]at hge;exact bV (some qs) pv3 (ps++qs) es3 c3 ⟨hge,(fun qs2 h=>by cases h;simp),(fun h=>by cases h),hde3,(fun q hq2=>(hnew3 q hq2).elim (fun h=>.inl h) (fun h=>.inr h))⟩ (.cons 2 rfl (.cons 3 rfl (.cons 11 rfl (.cons 14 rfl (.cons 15 rfl .nil))))) rfl bO))
                |(have hxd:¬x=c1:=(fun h=>by subst h;omega)
                   have hge:=gY (w:=w0) hc hjl hx aI aI aI;rw[if_neg hxd]at hge;exact bV none pv ps es c ⟨hge,(fun qs h=>by cases h),(fun _=>⟨List.take_length,Nat.le_refl _⟩),hes,(fun q hq=>.inl hq)⟩ (.cons 2 rfl (.cons 3 rfl (.cons 11 rfl (.cons 14 rfl (.cons 15 rfl .nil))))) rfl bO)
                |(have hge:=nY (w:=w0) (v:=v) (k:=k) (i:=i) (j:=j) aI
                   by_cases hiv:i=v.length
                   · (rw[if_pos hiv]at hge;rw[show decide ((i:Int)=(v.length:Int))=true from decide_eq_true aI];exact bV (some []) pv ps es c ⟨hge,(fun qs h=>by cases h;simp),(fun h=>by cases h),hes,(fun q hq=>.inl hq)⟩ (.cons 2 rfl (.cons 3 rfl (.cons 11 rfl (.cons 14 rfl (.cons 15 rfl .nil))))) rfl bO)
                   · (rw[if_neg hiv]at hge;rw[show decide ((i:Int)=(v.length:Int))=false from decide_eq_false aI];exact bV none pv ps es c ⟨hge,(fun qs h=>by cases h),(fun _=>⟨List.take_length,Nat.le_refl _⟩),hes,(fun q hq=>.inl hq)⟩ (.cons 2 rfl (.cons 3 rfl (.cons 11 rfl (.cons 14 rfl (.cons 15 rfl .nil))))) rfl bO))
            ·
              obtain⟨x,hx⟩:∃x,v[i]?=some x:=⟨v[i]'(by omega),List.getElem?_eq_getElem aI⟩;refine aH (aB ?_);refine uBl ?_;refine uAa ?_;refine uFy ?_;refine uCe ?_;refine aG (aE ?_);refine bK 88 rfl (fun h88=>?_) (fun h88=>?_)
              ·
                refine aH ?_;refine t_draw (anc:=[0,0,0,0,8,30,62,127,255]) (ord:=[0,1,2,3,4,5,6,7,8]) [6,7,8] [7,8] mixed (by decide+kernel) (.cons (.there .here) .nil) ?_;refine dl_ev rfl rfl (.none rfl) rfl rfl (aJ ts39 rfl aL rfl) rfl ?_;refine uBa ?_;refine uGi ?_;refine uCq ?_;refine dl_ev rfl rfl (.none rfl) rfl rfl (lJ (m:=i) (n:=i+1) Tryz.underlying9 rfl rfl rfl rfl rfl aI aI) rfl ?_;refine dl_s rfl rfl (.none rfl) rfl rfl (bN (z0:=[(str [])]) cX tz9 rfl rfl rfl rfl (.cons rfl rfl rfl (.cons .nil) .nil)) rfl ?_;rintro _ K _ ⟨b99,rfl,rfl,rfl⟩ -;refine⟨_,(show Tks _ _ _ from (.cons (.there .here) .nil)).sat,?_⟩
                refine dl_g rfl rfl (.none rfl) rfl (dM (k:=(bT 9)) (ys:=[((w0.take (i+1)).drop i)]) iC rfl rfl (.there (.there (.there .here))) (fun w j=>dB Tryz.underlying39 (SeesSl.at (.blk (.own (.there .here)) rfl rfl) j)) (by first|(simp;omega)|omega) (by first|(simp;omega)|omega)) rfl ?_;rintro v100 K _ ⟨rfl,rfl,ho100⟩ -;refine kH rfl rfl (.none rfl) rfl (bH ts39 rfl rfl cD aX .zero rfl) ?_;rintro _ K _ ⟨rfl,rfl⟩ -;refine dl_nil ?_;refine aE (aB ?_);refine aA (aJ aAZ rfl aL rfl) rfl ?_;refine uAa ?_;refine uCj ?_;refine uAa ?_;refine uCj ?_;rw[uN j,uN i];refine bC rfl rfl (ih (i+1) (j+1) (ps++[((w0.take (i+1)).drop i)]) es c _ _ aI ⟨kd,kk,kv,kw,km⟩ aI aI (by rw[List.length_append];simp only[List.length_singleton];omega) hes) (.cons (.there .here) (.cons .here (.cons (.there (.there .here)) .nil))) rfl ?_;rintro _ K _ ⟨rfl,rfl,pv3,es3,c3,hde3,hnew3,rfl⟩ -;refine uAb ?_;refine aG (aN ?_)
                first
                  |(exact bV r2 pv2 cur es2 c2 ⟨(by cases r2 with|none=>(first|(rw[hln rfl,show v.length+1 - e=0 from by omega];rfl)|(simp at h66))|some q=>exact(hls q rfl).1),fun qs h=>(hls qs h).2,hlt,hld,hlw⟩ (.cons 2 rfl (.cons 3 rfl (.cons 11 rfl (.cons 14 rfl (.cons 15 rfl .nil))))) rfl bO)
                  |(exact bV none pv ps es c ⟨lK hc hjl aI aI,(fun qs h=>by cases h),(fun _=>⟨List.take_length,Nat.le_refl _⟩),hes,(fun q hq=>.inl hq)⟩ (.cons 2 rfl (.cons 3 rfl (.cons 11 rfl (.cons 14 rfl (.cons 15 rfl .nil))))) rfl bO)
                  |(have hge:=gl_q (w:=w0) hc hjl hx aI
                     refine uBg ?_;rcases hq:gl w0 v k (i+1) (j+1)with _|qs
                     · (rw[hq]at hge;exact bV none pv3 (ps++[((w0.take (i+1)).drop i)]++[]) es3 c3 ⟨hge,(fun qs h=>by cases h),(fun _=>⟨by simp,by simp⟩),hde3,(fun q hq2=>(hnew3 q hq2).elim (fun h=>.inl h) (fun h=>.inr h))⟩ (.cons 2 rfl (.cons 3 rfl (.cons 11 rfl (.cons 14 rfl (.cons 15 rfl .nil))))) rfl bO)
                     · (rw[hq]at hge;exact bV (some (((w0.take (i+1)).drop i)::qs)) pv3 (ps++[((w0.take (i+1)).drop i)]++qs) es3 c3 ⟨hge,(fun qs2 h=>by cases h;simp),(fun h=>by cases h),hde3,(fun q hq2=>(hnew3 q hq2).elim (fun h=>.inl h) (fun h=>.inr h))⟩ (.cons 2 rfl (.cons 3 rfl (.cons 11 rfl (.cons 14 rfl (.cons 15 rfl .nil))))) rfl bO))
                  |(have hxd:x=d:=UInt8.toNat_inj.1 aI
                     have hge:=gX (w:=w0) hc aI hx aI hd;rw[if_pos hxd]at hge;refine uAs ?_;rcases hq:gl w0 v k (i+1) (j+2)with _|qs
                     · (rw[hq]at hge;exact bV none pv3 (ps++[]) es3 c3 ⟨hge,(fun qs h=>by cases h),(fun _=>⟨by simp,by simp⟩),hde3,(fun q hq2=>(hnew3 q hq2).elim (fun h=>.inl h) (fun h=>.inr aI))⟩ (.cons 2 rfl (.cons 3 rfl (.cons 11 rfl (.cons 14 rfl (.cons 15 rfl .nil))))) rfl bO)
                     · (rw[hq]at hge;exact bV (some qs) pv3 (ps++qs) es3 c3 ⟨hge,(fun qs2 h=>by cases h;simp),(fun h=>by cases h),hde3,(fun q hq2=>(hnew3 q hq2).elim (fun h=>.inl h) (fun h=>.inr aI))⟩ (.cons 2 rfl (.cons 3 rfl (.cons 11 rfl (.cons 14 rfl (.cons 15 rfl .nil))))) rfl bO))
                  |(have hxd:¬x=d:=(fun h=>by subst h;omega)
                     have hge:=gX (w:=w0) hc aI hx aI hd;rw[if_neg hxd]at hge;exact bV none pv ps es c ⟨hge,(fun qs h=>by cases h),(fun _=>⟨List.take_length,Nat.le_refl _⟩),hes,(fun q hq=>.inl hq)⟩ (.cons 2 rfl (.cons 3 rfl (.cons 11 rfl (.cons 14 rfl (.cons 15 rfl .nil))))) rfl bO)
                  |(have hxd:x=c1:=UInt8.toNat_inj.1 aI
                     have hge:=gY (w:=w0) hc hjl hx aI aI aI;rw[if_pos hxd]at hge;refine uAs ?_;rcases hq:gl w0 v k (i+1) (j+1)with _|qs
                     · (rw[hq]at hge;exact bV none pv3 (ps++[]) es3 c3 ⟨hge,(fun qs h=>by cases h),(fun _=>⟨by simp,by simp⟩),hde3,(fun q hq2=>(hnew3 q hq2).elim (fun h=>.inl h) (fun h=>.inr h))⟩ (.cons 2 rfl (.cons 3 rfl (.cons 11 rfl (.cons 14 rfl (.cons 15 rfl .nil))))) rfl bO)
                     · (rw[hq]at hge;exact bV (some qs) pv3 (ps++qs) es3 c3 ⟨hge,(fun qs2 h=>by cases h;simp),(fun h=>by cases h),hde3,(fun q hq2=>(hnew3 q hq2).elim (fun h=>.inl h) (fun h=>.inr h))⟩ (.cons 2 rfl (.cons 3 rfl (.cons 11 rfl (.cons 14 rfl (.cons 15 rfl .nil))))) rfl bO))
                  |(have hxd:¬x=c1:=(fun h=>by subst h;omega)
                     have hge:=gY (w:=w0) hc hjl hx aI aI aI;rw[if_neg hxd]at hge;exact bV none pv ps es c ⟨hge,(fun qs h=>by cases h),(fun _=>⟨List.take_length,Nat.le_refl _⟩),hes,(fun q hq=>.inl hq)⟩ (.cons 2 rfl (.cons 3 rfl (.cons 11 rfl (.cons 14 rfl (.cons 15 rfl .nil))))) rfl bO)
                  |(have hge:=nY (w:=w0) (v:=v) (k:=k) (i:=i) (j:=j) aI
                     by_cases hiv:i=v.length
                     · (rw[if_pos hiv]at hge;rw[show decide ((i:Int)=(v.length:Int))=true from decide_eq_true aI];exact bV (some []) pv ps es c ⟨hge,(fun qs h=>by cases h;simp),(fun h=>by cases h),hes,(fun q hq=>.inl hq)⟩ (.cons 2 rfl (.cons 3 rfl (.cons 11 rfl (.cons 14 rfl (.cons 15 rfl .nil))))) rfl bO)
                     · (rw[if_neg hiv]at hge;rw[show decide ((i:Int)=(v.length:Int))=false from decide_eq_false aI];exact bV none pv ps es c ⟨hge,(fun qs h=>by cases h),(fun _=>⟨List.take_length,Nat.le_refl _⟩),hes,(fun q hq=>.inl hq)⟩ (.cons 2 rfl (.cons 3 rfl (.cons 11 rfl (.cons 14 rfl (.cons 15 rfl .nil))))) rfl bO))
              ·
                refine aH (aB ?_);refine uBl ?_;refine uAa ?_;refine uFy ?_;refine uHh ?_;refine cG 112 rfl (fun g112=>?_) (fun g112=>?_)
                ·
                  refine uAi ?_;refine uCj ?_;refine uAz ?_;refine uBl ?_;refine uAz ?_;refine uBs ?_;refine uAz ?_;refine uBn ?_;refine uDx ?_;refine aG (aE ?_);refine bK 107 rfl (fun h107=>?_) (fun h107=>?_)
                  ·
                    obtain⟨d,hd⟩:∃d,k[j+1]?=some d:=⟨k[j+1]'(by omega),List.getElem?_eq_getElem aI⟩;refine t_draw (anc:=[0,0,3,0,0,16,56,127,255,511,511,1535,511,4607,16383,32767,65535]) (ord:=[0,1,2,3,4,5,6,7,8,9,10,11,12,13,14,15,16]) [14] [14] mixed (by decide+kernel) (cS _) ?_;refine uDn ?_;refine uBa ?_;refine uAj ?_;refine uCq ?_;refine dl_ev rfl rfl (.none rfl) rfl rfl (dJ Tryz.underlying9 rfl (j:=j+1) rfl (uN j) hd) rfl ?_;refine uEz ?_;refine dl_splitp 127 rfl (fun g127=>?_) (fun g127=>?_)
                    ·
                      refine uCa ?_;rw[aXZ j,uN i];refine gK rfl (.on rfl rfl rfl) rfl rfl rfl (ih (i+1) (j+2) ps es c _ _ aI ⟨kd,kk,kv,kw,km⟩ aI aI aI hes) (.cons (.there .here) (.cons (.there .here) (.cons (.there .here) .nil))) rfl ?_;rintro _ K _ ⟨rfl,rfl,pv3,es3,c3,hde3,hnew3,rfl⟩ -;refine uDs ?_;refine uGp ?_;refine aN ?_
                      first
                        |(exact bV r2 pv2 cur es2 c2 ⟨(by cases r2 with|none=>(first|(rw[hln rfl,show v.length+1 - e=0 from by omega];rfl)|(simp at h66))|some q=>exact(hls q rfl).1),fun qs h=>(hls qs h).2,hlt,hld,hlw⟩ (.cons 2 rfl (.cons 3 rfl (.cons 11 rfl (.cons 14 rfl (.cons 15 rfl .nil))))) rfl bO)
                        |(exact bV none pv ps es c ⟨lK hc hjl aI aI,(fun qs h=>by cases h),(fun _=>⟨List.take_length,Nat.le_refl _⟩),hes,(fun q hq=>.inl hq)⟩ (.cons 2 rfl (.cons 3 rfl (.cons 11 rfl (.cons 14 rfl (.cons 15 rfl .nil))))) rfl bO)
                        |(have hge:=gl_q (w:=w0) hc hjl hx aI
                           refine uBg ?_;rcases hq:gl w0 v k (i+1) (j+1)with _|qs
                           · (rw[hq]at hge;exact bV none pv3 (ps++[((w0.take (i+1)).drop i)]++[]) es3 c3 ⟨hge,(fun qs h=>by cases h),(fun _=>⟨by simp,by simp⟩),hde3,(fun q hq2=>(hnew3 q hq2).elim (fun h=>.inl h) (fun h=>.inr h))⟩ (.cons 2 rfl (.cons 3 rfl (.cons 11 rfl (.cons 14 rfl (.cons 15 rfl .nil))))) rfl bO)
                           · (rw[hq]at hge;exact bV (some (((w0.take (i+1)).drop i)::qs)) pv3 (ps++[((w0.take (i+1)).drop i)]++qs) es3 c3 ⟨hge,(fun qs2 h=>by cases h;simp),(fun h=>by cases h),hde3,(fun q hq2=>(hnew3 q hq2).elim (fun h=>.inl h) (fun h=>.inr h))⟩ (.cons 2 rfl (.cons 3 rfl (.cons 11 rfl (.cons 14 rfl (.cons 15 rfl .nil))))) rfl bO))
                        |(have hxd:x=d:=UInt8.toNat_inj.1 aI
                           have hge:=gX (w:=w0) hc aI hx aI hd;rw[if_pos hxd]at hge;refine uAs ?_;rcases hq:gl w0 v k (i+1) (j+2)with _|qs
                           · (rw[hq]at hge;exact bV none pv3 (ps++[]) es3 c3 ⟨hge,(fun qs h=>by cases h),(fun _=>⟨by simp,by simp⟩),hde3,(fun q hq2=>(hnew3 q hq2).elim (fun h=>.inl h) (fun h=>.inr aI))⟩ (.cons 2 rfl (.cons 3 rfl (.cons 11 rfl (.cons 14 rfl (.cons 15 rfl .nil))))) rfl bO)
                           · (rw[hq]at hge;exact bV (some qs) pv3 (ps++qs) es3 c3 ⟨hge,(fun qs2 h=>by cases h;simp),(fun h=>by cases h),hde3,(fun q hq2=>(hnew3 q hq2).elim (fun h=>.inl h) (fun h=>.inr aI))⟩ (.cons 2 rfl (.cons 3 rfl (.cons 11 rfl (.cons 14 rfl (.cons 15 rfl .nil))))) rfl bO))
                        |(have hxd:¬x=d:=(fun h=>by subst h;omega)
                           have hge:=gX (w:=w0) hc aI hx aI hd;rw[if_neg hxd]at hge;exact bV none pv ps es c ⟨hge,(fun qs h=>by cases h),(fun _=>⟨List.take_length,Nat.le_refl _⟩),hes,(fun q hq=>.inl hq)⟩ (.cons 2 rfl (.cons 3 rfl (.cons 11 rfl (.cons 14 rfl (.cons 15 rfl .nil))))) rfl bO)
                        |(have hxd:x=c1:=UInt8.toNat_inj.1 aI
                           have hge:=gY (w:=w0) hc hjl hx aI aI aI;rw[if_pos hxd]at hge;refine uAs ?_;rcases hq:gl w0 v k (i+1) (j+1)with _|qs
                           · (rw[hq]at hge;exact bV none pv3 (ps++[]) es3 c3 ⟨hge,(fun qs h=>by cases h),(fun _=>⟨by simp,by simp⟩),hde3,(fun q hq2=>(hnew3 q hq2).elim (fun h=>.inl h) (fun h=>.inr h))⟩ (.cons 2 rfl (.cons 3 rfl (.cons 11 rfl (.cons 14 rfl (.cons 15 rfl .nil))))) rfl bO)
                           · (rw[hq]at hge;exact bV (some qs) pv3 (ps++qs) es3 c3 ⟨hge,(fun qs2 h=>by cases h;simp),(fun h=>by cases h),hde3,(fun q hq2=>(hnew3 q hq2).elim (fun h=>.inl h) (fun h=>.inr h))⟩ (.cons 2 rfl (.cons 3 rfl (.cons 11 rfl (.cons 14 rfl (.cons 15 rfl .nil))))) rfl bO))
                        |(have hxd:¬x=c1:=(fun h=>by subst h;omega)
                           have hge:=gY (w:=w0) hc hjl hx aI aI aI;rw[if_neg hxd]at hge;exact bV none pv ps es c ⟨hge,(fun qs h=>by cases h),(fun _=>⟨List.take_length,Nat.le_refl _⟩),hes,(fun q hq=>.inl hq)⟩ (.cons 2 rfl (.cons 3 rfl (.cons 11 rfl (.cons 14 rfl (.cons 15 rfl .nil))))) rfl bO)
                        |(have hge:=nY (w:=w0) (v:=v) (k:=k) (i:=i) (j:=j) aI
                           by_cases hiv:i=v.length
                           · (rw[if_pos hiv]at hge;rw[show decide ((i:Int)=(v.length:Int))=true from decide_eq_true aI];exact bV (some []) pv ps es c ⟨hge,(fun qs h=>by cases h;simp),(fun h=>by cases h),hes,(fun q hq=>.inl hq)⟩ (.cons 2 rfl (.cons 3 rfl (.cons 11 rfl (.cons 14 rfl (.cons 15 rfl .nil))))) rfl bO)
                           · (rw[if_neg hiv]at hge;rw[show decide ((i:Int)=(v.length:Int))=false from decide_eq_false aI];exact bV none pv ps es c ⟨hge,(fun qs h=>by cases h),(fun _=>⟨List.take_length,Nat.le_refl _⟩),hes,(fun q hq=>.inl hq)⟩ (.cons 2 rfl (.cons 3 rfl (.cons 11 rfl (.cons 14 rfl (.cons 15 rfl .nil))))) rfl bO))
                    ·
                      refine dl_off rfl rfl (.off rfl rfl rfl) rfl ?_;refine dl_off rfl rfl (.off rfl rfl rfl) rfl ?_;refine dl_off rfl rfl (.off rfl rfl rfl) rfl ?_;refine dl_off rfl rfl (.off rfl rfl rfl) rfl ?_;refine dl_off rfl rfl (.off rfl rfl rfl) rfl ?_;refine dl_off rfl rfl (.off rfl rfl rfl) rfl ?_;refine uCb ?_;refine uGp ?_;refine aN ?_
                      first
                        |(exact bV r2 pv2 cur es2 c2 ⟨(by cases r2 with|none=>(first|(rw[hln rfl,show v.length+1 - e=0 from by omega];rfl)|(simp at h66))|some q=>exact(hls q rfl).1),fun qs h=>(hls qs h).2,hlt,hld,hlw⟩ (.cons 2 rfl (.cons 3 rfl (.cons 11 rfl (.cons 14 rfl (.cons 15 rfl .nil))))) rfl bO)
                        |(exact bV none pv ps es c ⟨lK hc hjl aI aI,(fun qs h=>by cases h),(fun _=>⟨List.take_length,Nat.le_refl _⟩),hes,(fun q hq=>.inl hq)⟩ (.cons 2 rfl (.cons 3 rfl (.cons 11 rfl (.cons 14 rfl (.cons 15 rfl .nil))))) rfl bO)
                        |(have hge:=gl_q (w:=w0) hc hjl hx aI
                           refine uBg ?_;rcases hq:gl w0 v k (i+1) (j+1)with _|qs
                           · (rw[hq]at hge;exact bV none pv3 (ps++[((w0.take (i+1)).drop i)]++[]) es3 c3 ⟨hge,(fun qs h=>by cases h),(fun _=>⟨by simp,by simp⟩),hde3,(fun q hq2=>(hnew3 q hq2).elim (fun h=>.inl h) (fun h=>.inr h))⟩ (.cons 2 rfl (.cons 3 rfl (.cons 11 rfl (.cons 14 rfl (.cons 15 rfl .nil))))) rfl bO)
                           · (rw[hq]at hge;exact bV (some (((w0.take (i+1)).drop i)::qs)) pv3 (ps++[((w0.take (i+1)).drop i)]++qs) es3 c3 ⟨hge,(fun qs2 h=>by cases h;simp),(fun h=>by cases h),hde3,(fun q hq2=>(hnew3 q hq2).elim (fun h=>.inl h) (fun h=>.inr h))⟩ (.cons 2 rfl (.cons 3 rfl (.cons 11 rfl (.cons 14 rfl (.cons 15 rfl .nil))))) rfl bO))
                        |(have hxd:x=d:=UInt8.toNat_inj.1 aI
                           have hge:=gX (w:=w0) hc aI hx aI hd;rw[if_pos hxd]at hge;refine uAs ?_;rcases hq:gl w0 v k (i+1) (j+2)with _|qs
                           · (rw[hq]at hge;exact bV none pv3 (ps++[]) es3 c3 ⟨hge,(fun qs h=>by cases h),(fun _=>⟨by simp,by simp⟩),hde3,(fun q hq2=>(hnew3 q hq2).elim (fun h=>.inl h) (fun h=>.inr aI))⟩ (.cons 2 rfl (.cons 3 rfl (.cons 11 rfl (.cons 14 rfl (.cons 15 rfl .nil))))) rfl bO)
                           · (rw[hq]at hge;exact bV (some qs) pv3 (ps++qs) es3 c3 ⟨hge,(fun qs2 h=>by cases h;simp),(fun h=>by cases h),hde3,(fun q hq2=>(hnew3 q hq2).elim (fun h=>.inl h) (fun h=>.inr aI))⟩ (.cons 2 rfl (.cons 3 rfl (.cons 11 rfl (.cons 14 rfl (.cons 15 rfl .nil))))) rfl bO))
                        |(have hxd:¬x=d:=(fun h=>by subst h;omega)
                           have hge:=gX (w:=w0) hc aI hx aI hd;rw[if_neg hxd]at hge;exact bV none pv ps es c ⟨hge,(fun qs h=>by cases h),(fun _=>⟨List.take_length,Nat.le_refl _⟩),hes,(fun q hq=>.inl hq)⟩ (.cons 2 rfl (.cons 3 rfl (.cons 11 rfl (.cons 14 rfl (.cons 15 rfl .nil))))) rfl bO)
                        |(have hxd:x=c1:=UInt8.toNat_inj.1 aI
                           have hge:=gY (w:=w0) hc hjl hx aI aI aI;rw[if_pos hxd]at hge;refine uAs ?_;rcases hq:gl w0 v k (i+1) (j+1)with _|qs
                           · (rw[hq]at hge;exact bV none pv3 (ps++[]) es3 c3 ⟨hge,(fun qs h=>by cases h),(fun _=>⟨by simp,by simp⟩),hde3,(fun q hq2=>(hnew3 q hq2).elim (fun h=>.inl h) (fun h=>.inr h))⟩ (.cons 2 rfl (.cons 3 rfl (.cons 11 rfl (.cons 14 rfl (.cons 15 rfl .nil))))) rfl bO)
                           · (rw[hq]at hge;exact bV (some qs) pv3 (ps++qs) es3 c3 ⟨hge,(fun qs2 h=>by cases h;simp),(fun h=>by cases h),hde3,(fun q hq2=>(hnew3 q hq2).elim (fun h=>.inl h) (fun h=>.inr h))⟩ (.cons 2 rfl (.cons 3 rfl (.cons 11 rfl (.cons 14 rfl (.cons 15 rfl .nil))))) rfl bO))
                        |(have hxd:¬x=c1:=(fun h=>by subst h;omega)
                           have hge:=gY (w:=w0) hc hjl hx aI aI aI;rw[if_neg hxd]at hge;exact bV none pv ps es c ⟨hge,(fun qs h=>by cases h),(fun _=>⟨List.take_length,Nat.le_refl _⟩),hes,(fun q hq=>.inl hq)⟩ (.cons 2 rfl (.cons 3 rfl (.cons 11 rfl (.cons 14 rfl (.cons 15 rfl .nil))))) rfl bO)
                        |(have hge:=nY (w:=w0) (v:=v) (k:=k) (i:=i) (j:=j) aI
                           by_cases hiv:i=v.length
                           · (rw[if_pos hiv]at hge;rw[show decide ((i:Int)=(v.length:Int))=true from decide_eq_true aI];exact bV (some []) pv ps es c ⟨hge,(fun qs h=>by cases h;simp),(fun h=>by cases h),hes,(fun q hq=>.inl hq)⟩ (.cons 2 rfl (.cons 3 rfl (.cons 11 rfl (.cons 14 rfl (.cons 15 rfl .nil))))) rfl bO)
                           · (rw[if_neg hiv]at hge;rw[show decide ((i:Int)=(v.length:Int))=false from decide_eq_false aI];exact bV none pv ps es c ⟨hge,(fun qs h=>by cases h),(fun _=>⟨List.take_length,Nat.le_refl _⟩),hes,(fun q hq=>.inl hq)⟩ (.cons 2 rfl (.cons 3 rfl (.cons 11 rfl (.cons 14 rfl (.cons 15 rfl .nil))))) rfl bO))
                  ·
                    refine t_draw (anc:=[0,0,3,0,0,24,63,127,255,255,767,255,2303,8191,16383,32767]) (ord:=[0,1,2,3,4,5,6,7,8,9,10,11,12,13,14,15]) [13] [13] mixed (by decide+kernel) (cS _) ?_;refine uDn ?_;refine uDn ?_;refine uEz ?_;refine dl_splitp 36 rfl (fun g36=>?_) (fun g36=>?_)
                    ·
                      refine uCa ?_;rw[uN j,uN i];refine gK rfl (.on rfl rfl rfl) rfl rfl rfl (ih (i+1) (j+1) ps es c _ _ aI ⟨kd,kk,kv,kw,km⟩ aI aI aI hes) (.cons (.there .here) (.cons (.there .here) (.cons (.there .here) .nil))) rfl ?_;rintro _ K _ ⟨rfl,rfl,pv3,es3,c3,hde3,hnew3,rfl⟩ -;refine uDs ?_;refine uGp ?_;refine aN ?_
                      first
                        |(exact bV r2 pv2 cur es2 c2 ⟨(by cases r2 with|none=>(first|(rw[hln rfl,show v.length+1 - e=0 from by omega];rfl)|(simp at h66))|some q=>exact(hls q rfl).1),fun qs h=>(hls qs h).2,hlt,hld,hlw⟩ (.cons 2 rfl (.cons 3 rfl (.cons 11 rfl (.cons 14 rfl (.cons 15 rfl .nil))))) rfl bO)
                        |(exact bV none pv ps es c ⟨lK hc hjl aI aI,(fun qs h=>by cases h),(fun _=>⟨List.take_length,Nat.le_refl _⟩),hes,(fun q hq=>.inl hq)⟩ (.cons 2 rfl (.cons 3 rfl (.cons 11 rfl (.cons 14 rfl (.cons 15 rfl .nil))))) rfl bO)
                        |(have hge:=gl_q (w:=w0) hc hjl hx aI
                           refine uBg ?_;rcases hq:gl w0 v k (i+1) (j+1)with _|qs
                           · (rw[hq]at hge;exact bV none pv3 (ps++[((w0.take (i+1)).drop i)]++[]) es3 c3 ⟨hge,(fun qs h=>by cases h),(fun _=>⟨by simp,by simp⟩),hde3,(fun q hq2=>(hnew3 q hq2).elim (fun h=>.inl h) (fun h=>.inr h))⟩ (.cons 2 rfl (.cons 3 rfl (.cons 11 rfl (.cons 14 rfl (.cons 15 rfl .nil))))) rfl bO)
                           · (rw[hq]at hge;exact bV (some (((w0.take (i+1)).drop i)::qs)) pv3 (ps++[((w0.take (i+1)).drop i)]++qs) es3 c3 ⟨hge,(fun qs2 h=>by cases h;simp),(fun h=>by cases h),hde3,(fun q hq2=>(hnew3 q hq2).elim (fun h=>.inl h) (fun h=>.inr h))⟩ (.cons 2 rfl (.cons 3 rfl (.cons 11 rfl (.cons 14 rfl (.cons 15 rfl .nil))))) rfl bO))
                        |(have hxd:x=d:=UInt8.toNat_inj.1 aI
                           have hge:=gX (w:=w0) hc aI hx aI hd;rw[if_pos hxd]at hge;refine uAs ?_;rcases hq:gl w0 v k (i+1) (j+2)with _|qs
                           · (rw[hq]at hge;exact bV none pv3 (ps++[]) es3 c3 ⟨hge,(fun qs h=>by cases h),(fun _=>⟨by simp,by simp⟩),hde3,(fun q hq2=>(hnew3 q hq2).elim (fun h=>.inl h) (fun h=>.inr aI))⟩ (.cons 2 rfl (.cons 3 rfl (.cons 11 rfl (.cons 14 rfl (.cons 15 rfl .nil))))) rfl bO)
                           · (rw[hq]at hge;exact bV (some qs) pv3 (ps++qs) es3 c3 ⟨hge,(fun qs2 h=>by cases h;simp),(fun h=>by cases h),hde3,(fun q hq2=>(hnew3 q hq2).elim (fun h=>.inl h) (fun h=>.inr aI))⟩ (.cons 2 rfl (.cons 3 rfl (.cons 11 rfl (.cons 14 rfl (.cons 15 rfl .nil))))) rfl bO))
                        |(have hxd:¬x=d:=(fun h=>by subst h;omega)
                           have hge:=gX (w:=w0) hc aI hx aI hd;rw[if_neg hxd]at hge;exact bV none pv ps es c ⟨hge,(fun qs h=>by cases h),(fun _=>⟨List.take_length,Nat.le_refl _⟩),hes,(fun q hq=>.inl hq)⟩ (.cons 2 rfl (.cons 3 rfl (.cons 11 rfl (.cons 14 rfl (.cons 15 rfl .nil))))) rfl bO)
                        |(have hxd:x=c1:=UInt8.toNat_inj.1 aI
                           have hge:=gY (w:=w0) hc hjl hx aI aI aI;rw[if_pos hxd]at hge;refine uAs ?_;rcases hq:gl w0 v k (i+1) (j+1)with _|qs
                           · (rw[hq]at hge;exact bV none pv3 (ps++[]) es3 c3 ⟨hge,(fun qs h=>by cases h),(fun _=>⟨by simp,by simp⟩),hde3,(fun q hq2=>(hnew3 q hq2).elim (fun h=>.inl h) (fun h=>.inr h))⟩ (.cons 2 rfl (.cons 3 rfl (.cons 11 rfl (.cons 14 rfl (.cons 15 rfl .nil))))) rfl bO)
                           · (rw[hq]at hge;exact bV (some qs) pv3 (ps++qs) es3 c3 ⟨hge,(fun qs2 h=>by cases h;simp),(fun h=>by cases h),hde3,(fun q hq2=>(hnew3 q hq2).elim (fun h=>.inl h) (fun h=>.inr h))⟩ (.cons 2 rfl (.cons 3 rfl (.cons 11 rfl (.cons 14 rfl (.cons 15 rfl .nil))))) rfl bO))
                        |(have hxd:¬x=c1:=(fun h=>by subst h;omega)
                           have hge:=gY (w:=w0) hc hjl hx aI aI aI;rw[if_neg hxd]at hge;exact bV none pv ps es c ⟨hge,(fun qs h=>by cases h),(fun _=>⟨List.take_length,Nat.le_refl _⟩),hes,(fun q hq=>.inl hq)⟩ (.cons 2 rfl (.cons 3 rfl (.cons 11 rfl (.cons 14 rfl (.cons 15 rfl .nil))))) rfl bO)
                        |(have hge:=nY (w:=w0) (v:=v) (k:=k) (i:=i) (j:=j) aI
                           by_cases hiv:i=v.length
                           · (rw[if_pos hiv]at hge;rw[show decide ((i:Int)=(v.length:Int))=true from decide_eq_true aI];exact bV (some []) pv ps es c ⟨hge,(fun qs h=>by cases h;simp),(fun h=>by cases h),hes,(fun q hq=>.inl hq)⟩ (.cons 2 rfl (.cons 3 rfl (.cons 11 rfl (.cons 14 rfl (.cons 15 rfl .nil))))) rfl bO)
                           · (rw[if_neg hiv]at hge;rw[show decide ((i:Int)=(v.length:Int))=false from decide_eq_false aI];exact bV none pv ps es c ⟨hge,(fun qs h=>by cases h),(fun _=>⟨List.take_length,Nat.le_refl _⟩),hes,(fun q hq=>.inl hq)⟩ (.cons 2 rfl (.cons 3 rfl (.cons 11 rfl (.cons 14 rfl (.cons 15 rfl .nil))))) rfl bO))
                    ·
                      refine dl_off rfl rfl (.off rfl rfl rfl) rfl ?_;refine dl_off rfl rfl (.off rfl rfl rfl) rfl ?_;refine dl_off rfl rfl (.off rfl rfl rfl) rfl ?_;refine dl_off rfl rfl (.off rfl rfl rfl) rfl ?_;refine dl_off rfl rfl (.off rfl rfl rfl) rfl ?_;refine dl_off rfl rfl (.off rfl rfl rfl) rfl ?_;refine uCb ?_;refine uGp ?_;refine aN ?_
                      first
                        |(exact bV r2 pv2 cur es2 c2 ⟨(by cases r2 with|none=>(first|(rw[hln rfl,show v.length+1 - e=0 from by omega];rfl)|(simp at h66))|some q=>exact(hls q rfl).1),fun qs h=>(hls qs h).2,hlt,hld,hlw⟩ (.cons 2 rfl (.cons 3 rfl (.cons 11 rfl (.cons 14 rfl (.cons 15 rfl .nil))))) rfl bO)
                        |(exact bV none pv ps es c ⟨lK hc hjl aI aI,(fun qs h=>by cases h),(fun _=>⟨List.take_length,Nat.le_refl _⟩),hes,(fun q hq=>.inl hq)⟩ (.cons 2 rfl (.cons 3 rfl (.cons 11 rfl (.cons 14 rfl (.cons 15 rfl .nil))))) rfl bO)
                        |(have hge:=gl_q (w:=w0) hc hjl hx aI
                           refine uBg ?_;rcases hq:gl w0 v k (i+1) (j+1)with _|qs
                           · (rw[hq]at hge;exact bV none pv3 (ps++[((w0.take (i+1)).drop i)]++[]) es3 c3 ⟨hge,(fun qs h=>by cases h),(fun _=>⟨by simp,by simp⟩),hde3,(fun q hq2=>(hnew3 q hq2).elim (fun h=>.inl h) (fun h=>.inr h))⟩ (.cons 2 rfl (.cons 3 rfl (.cons 11 rfl (.cons 14 rfl (.cons 15 rfl .nil))))) rfl bO)
                           · (rw[hq]at hge;exact bV (some (((w0.take (i+1)).drop i)::qs)) pv3 (ps++[((w0.take (i+1)).drop i)]++qs) es3 c3 ⟨hge,(fun qs2 h=>by cases h;simp),(fun h=>by cases h),hde3,(fun q hq2=>(hnew3 q hq2).elim (fun h=>.inl h) (fun h=>.inr h))⟩ (.cons 2 rfl (.cons 3 rfl (.cons 11 rfl (.cons 14 rfl (.cons 15 rfl .nil))))) rfl bO))
                        |(have hxd:x=d:=UInt8.toNat_inj.1 aI
                           have hge:=gX (w:=w0) hc aI hx aI hd;rw[if_pos hxd]at hge;refine uAs ?_;rcases hq:gl w0 v k (i+1) (j+2)with _|qs
                           · (rw[hq]at hge;exact bV none pv3 (ps++[]) es3 c3 ⟨hge,(fun qs h=>by cases h),(fun _=>⟨by simp,by simp⟩),hde3,(fun q hq2=>(hnew3 q hq2).elim (fun h=>.inl h) (fun h=>.inr aI))⟩ (.cons 2 rfl (.cons 3 rfl (.cons 11 rfl (.cons 14 rfl (.cons 15 rfl .nil))))) rfl bO)
                           · (rw[hq]at hge;exact bV (some qs) pv3 (ps++qs) es3 c3 ⟨hge,(fun qs2 h=>by cases h;simp),(fun h=>by cases h),hde3,(fun q hq2=>(hnew3 q hq2).elim (fun h=>.inl h) (fun h=>.inr aI))⟩ (.cons 2 rfl (.cons 3 rfl (.cons 11 rfl (.cons 14 rfl (.cons 15 rfl .nil))))) rfl bO))
                        |(have hxd:¬x=d:=(fun h=>by subst h;omega)
                           have hge:=gX (w:=w0) hc aI hx aI hd;rw[if_neg hxd]at hge;exact bV none pv ps es c ⟨hge,(fun qs h=>by cases h),(fun _=>⟨List.take_length,Nat.le_refl _⟩),hes,(fun q hq=>.inl hq)⟩ (.cons 2 rfl (.cons 3 rfl (.cons 11 rfl (.cons 14 rfl (.cons 15 rfl .nil))))) rfl bO)
                        |(have hxd:x=c1:=UInt8.toNat_inj.1 aI
                           have hge:=gY (w:=w0) hc hjl hx aI aI aI;rw[if_pos hxd]at hge;refine uAs ?_;rcases hq:gl w0 v k (i+1) (j+1)with _|qs
                           · (rw[hq]at hge;exact bV none pv3 (ps++[]) es3 c3 ⟨hge,(fun qs h=>by cases h),(fun _=>⟨by simp,by simp⟩),hde3,(fun q hq2=>(hnew3 q hq2).elim (fun h=>.inl h) (fun h=>.inr h))⟩ (.cons 2 rfl (.cons 3 rfl (.cons 11 rfl (.cons 14 rfl (.cons 15 rfl .nil))))) rfl bO)
                           · (rw[hq]at hge;exact bV (some qs) pv3 (ps++qs) es3 c3 ⟨hge,(fun qs2 h=>by cases h;simp),(fun h=>by cases h),hde3,(fun q hq2=>(hnew3 q hq2).elim (fun h=>.inl h) (fun h=>.inr h))⟩ (.cons 2 rfl (.cons 3 rfl (.cons 11 rfl (.cons 14 rfl (.cons 15 rfl .nil))))) rfl bO))
                        |(have hxd:¬x=c1:=(fun h=>by subst h;omega)
                           have hge:=gY (w:=w0) hc hjl hx aI aI aI;rw[if_neg hxd]at hge;exact bV none pv ps es c ⟨hge,(fun qs h=>by cases h),(fun _=>⟨List.take_length,Nat.le_refl _⟩),hes,(fun q hq=>.inl hq)⟩ (.cons 2 rfl (.cons 3 rfl (.cons 11 rfl (.cons 14 rfl (.cons 15 rfl .nil))))) rfl bO)
                        |(have hge:=nY (w:=w0) (v:=v) (k:=k) (i:=i) (j:=j) aI
                           by_cases hiv:i=v.length
                           · (rw[if_pos hiv]at hge;rw[show decide ((i:Int)=(v.length:Int))=true from decide_eq_true aI];exact bV (some []) pv ps es c ⟨hge,(fun qs h=>by cases h;simp),(fun h=>by cases h),hes,(fun q hq=>.inl hq)⟩ (.cons 2 rfl (.cons 3 rfl (.cons 11 rfl (.cons 14 rfl (.cons 15 rfl .nil))))) rfl bO)
                           · (rw[if_neg hiv]at hge;rw[show decide ((i:Int)=(v.length:Int))=false from decide_eq_false aI];exact bV none pv ps es c ⟨hge,(fun qs h=>by cases h),(fun _=>⟨List.take_length,Nat.le_refl _⟩),hes,(fun q hq=>.inl hq)⟩ (.cons 2 rfl (.cons 3 rfl (.cons 11 rfl (.cons 14 rfl (.cons 15 rfl .nil))))) rfl bO))
                ·
                  refine uAc ?_;refine uGq ?_;refine uAb ?_;refine aG (aE ?_);refine uHs ?_;refine t_draw (anc:=[0,0,3,0,0,24,63,127,255,255,767,255,2303,8191,16383,32767]) (ord:=[0,1,2,3,4,5,6,7,8,9,10,11,12,13,14,15]) [13] [13] mixed (by decide+kernel) (cS _) ?_;refine uDn ?_;refine uDn ?_;refine uEz ?_;refine dl_splitp 36 rfl (fun g36=>?_) (fun g36=>?_)
                  ·
                    refine uCa ?_;rw[uN j,uN i];refine gK rfl (.on rfl rfl rfl) rfl rfl rfl (ih (i+1) (j+1) ps es c _ _ aI ⟨kd,kk,kv,kw,km⟩ aI aI aI hes) (.cons (.there .here) (.cons (.there .here) (.cons (.there .here) .nil))) rfl ?_;rintro _ K _ ⟨rfl,rfl,pv3,es3,c3,hde3,hnew3,rfl⟩ -;refine uDs ?_;refine uGp ?_;refine aN ?_
                    first
                      |(exact bV r2 pv2 cur es2 c2 ⟨(by cases r2 with|none=>(first|(rw[hln rfl,show v.length+1 - e=0 from by omega];rfl)|(simp at h66))|some q=>exact(hls q rfl).1),fun qs h=>(hls qs h).2,hlt,hld,hlw⟩ (.cons 2 rfl (.cons 3 rfl (.cons 11 rfl (.cons 14 rfl (.cons 15 rfl .nil))))) rfl bO)
                      |(exact bV none pv ps es c ⟨lK hc hjl aI aI,(fun qs h=>by cases h),(fun _=>⟨List.take_length,Nat.le_refl _⟩),hes,(fun q hq=>.inl hq)⟩ (.cons 2 rfl (.cons 3 rfl (.cons 11 rfl (.cons 14 rfl (.cons 15 rfl .nil))))) rfl bO)
                      |(have hge:=gl_q (w:=w0) hc hjl hx aI
                         refine uBg ?_;rcases hq:gl w0 v k (i+1) (j+1)with _|qs
                         · (rw[hq]at hge;exact bV none pv3 (ps++[((w0.take (i+1)).drop i)]++[]) es3 c3 ⟨hge,(fun qs h=>by cases h),(fun _=>⟨by simp,by simp⟩),hde3,(fun q hq2=>(hnew3 q hq2).elim (fun h=>.inl h) (fun h=>.inr h))⟩ (.cons 2 rfl (.cons 3 rfl (.cons 11 rfl (.cons 14 rfl (.cons 15 rfl .nil))))) rfl bO)
                         · (rw[hq]at hge;exact bV (some (((w0.take (i+1)).drop i)::qs)) pv3 (ps++[((w0.take (i+1)).drop i)]++qs) es3 c3 ⟨hge,(fun qs2 h=>by cases h;simp),(fun h=>by cases h),hde3,(fun q hq2=>(hnew3 q hq2).elim (fun h=>.inl h) (fun h=>.inr h))⟩ (.cons 2 rfl (.cons 3 rfl (.cons 11 rfl (.cons 14 rfl (.cons 15 rfl .nil))))) rfl bO))
                      |(have hxd:x=d:=UInt8.toNat_inj.1 aI
                         have hge:=gX (w:=w0) hc aI hx aI hd;rw[if_pos hxd]at hge;refine uAs ?_;rcases hq:gl w0 v k (i+1) (j+2)with _|qs
                         · (rw[hq]at hge;exact bV none pv3 (ps++[]) es3 c3 ⟨hge,(fun qs h=>by cases h),(fun _=>⟨by simp,by simp⟩),hde3,(fun q hq2=>(hnew3 q hq2).elim (fun h=>.inl h) (fun h=>.inr aI))⟩ (.cons 2 rfl (.cons 3 rfl (.cons 11 rfl (.cons 14 rfl (.cons 15 rfl .nil))))) rfl bO)
                         · (rw[hq]at hge;exact bV (some qs) pv3 (ps++qs) es3 c3 ⟨hge,(fun qs2 h=>by cases h;simp),(fun h=>by cases h),hde3,(fun q hq2=>(hnew3 q hq2).elim (fun h=>.inl h) (fun h=>.inr aI))⟩ (.cons 2 rfl (.cons 3 rfl (.cons 11 rfl (.cons 14 rfl (.cons 15 rfl .nil))))) rfl bO))
                      |(have hxd:¬x=d:=(fun h=>by subst h;omega)
                         have hge:=gX (w:=w0) hc aI hx aI hd;rw[if_neg hxd]at hge;exact bV none pv ps es c ⟨hge,(fun qs h=>by cases h),(fun _=>⟨List.take_length,Nat.le_refl _⟩),hes,(fun q hq=>.inl hq)⟩ (.cons 2 rfl (.cons 3 rfl (.cons 11 rfl (.cons 14 rfl (.cons 15 rfl .nil))))) rfl bO)
                      |(have hxd:x=c1:=UInt8.toNat_inj.1 aI
                         have hge:=gY (w:=w0) hc hjl hx aI aI aI;rw[if_pos hxd]at hge;refine uAs ?_;rcases hq:gl w0 v k (i+1) (j+1)with _|qs
                         · (rw[hq]at hge;exact bV none pv3 (ps++[]) es3 c3 ⟨hge,(fun qs h=>by cases h),(fun _=>⟨by simp,by simp⟩),hde3,(fun q hq2=>(hnew3 q hq2).elim (fun h=>.inl h) (fun h=>.inr h))⟩ (.cons 2 rfl (.cons 3 rfl (.cons 11 rfl (.cons 14 rfl (.cons 15 rfl .nil))))) rfl bO)
                         · (rw[hq]at hge;exact bV (some qs) pv3 (ps++qs) es3 c3 ⟨hge,(fun qs2 h=>by cases h;simp),(fun h=>by cases h),hde3,(fun q hq2=>(hnew3 q hq2).elim (fun h=>.inl h) (fun h=>.inr h))⟩ (.cons 2 rfl (.cons 3 rfl (.cons 11 rfl (.cons 14 rfl (.cons 15 rfl .nil))))) rfl bO))
                      |(have hxd:¬x=c1:=(fun h=>by subst h;omega)
                         have hge:=gY (w:=w0) hc hjl hx aI aI aI;rw[if_neg hxd]at hge;exact bV none pv ps es c ⟨hge,(fun qs h=>by cases h),(fun _=>⟨List.take_length,Nat.le_refl _⟩),hes,(fun q hq=>.inl hq)⟩ (.cons 2 rfl (.cons 3 rfl (.cons 11 rfl (.cons 14 rfl (.cons 15 rfl .nil))))) rfl bO)
                      |(have hge:=nY (w:=w0) (v:=v) (k:=k) (i:=i) (j:=j) aI
                         by_cases hiv:i=v.length
                         · (rw[if_pos hiv]at hge;rw[show decide ((i:Int)=(v.length:Int))=true from decide_eq_true aI];exact bV (some []) pv ps es c ⟨hge,(fun qs h=>by cases h;simp),(fun h=>by cases h),hes,(fun q hq=>.inl hq)⟩ (.cons 2 rfl (.cons 3 rfl (.cons 11 rfl (.cons 14 rfl (.cons 15 rfl .nil))))) rfl bO)
                         · (rw[if_neg hiv]at hge;rw[show decide ((i:Int)=(v.length:Int))=false from decide_eq_false aI];exact bV none pv ps es c ⟨hge,(fun qs h=>by cases h),(fun _=>⟨List.take_length,Nat.le_refl _⟩),hes,(fun q hq=>.inl hq)⟩ (.cons 2 rfl (.cons 3 rfl (.cons 11 rfl (.cons 14 rfl (.cons 15 rfl .nil))))) rfl bO))
                  ·
                    refine dl_off rfl rfl (.off rfl rfl rfl) rfl ?_;refine dl_off rfl rfl (.off rfl rfl rfl) rfl ?_;refine dl_off rfl rfl (.off rfl rfl rfl) rfl ?_;refine dl_off rfl rfl (.off rfl rfl rfl) rfl ?_;refine dl_off rfl rfl (.off rfl rfl rfl) rfl ?_;refine dl_off rfl rfl (.off rfl rfl rfl) rfl ?_;refine uCb ?_;refine uGp ?_;refine aN ?_
                    first
                      |(exact bV r2 pv2 cur es2 c2 ⟨(by cases r2 with|none=>(first|(rw[hln rfl,show v.length+1 - e=0 from by omega];rfl)|(simp at h66))|some q=>exact(hls q rfl).1),fun qs h=>(hls qs h).2,hlt,hld,hlw⟩ (.cons 2 rfl (.cons 3 rfl (.cons 11 rfl (.cons 14 rfl (.cons 15 rfl .nil))))) rfl bO)
                      |(exact bV none pv ps es c ⟨lK hc hjl aI aI,(fun qs h=>by cases h),(fun _=>⟨List.take_length,Nat.le_refl _⟩),hes,(fun q hq=>.inl hq)⟩ (.cons 2 rfl (.cons 3 rfl (.cons 11 rfl (.cons 14 rfl (.cons 15 rfl .nil))))) rfl bO)
                      |(have hge:=gl_q (w:=w0) hc hjl hx aI
                         refine uBg ?_;rcases hq:gl w0 v k (i+1) (j+1)with _|qs
                         · (rw[hq]at hge;exact bV none pv3 (ps++[((w0.take (i+1)).drop i)]++[]) es3 c3 ⟨hge,(fun qs h=>by cases h),(fun _=>⟨by simp,by simp⟩),hde3,(fun q hq2=>(hnew3 q hq2).elim (fun h=>.inl h) (fun h=>.inr h))⟩ (.cons 2 rfl (.cons 3 rfl (.cons 11 rfl (.cons 14 rfl (.cons 15 rfl .nil))))) rfl bO)
                         · (rw[hq]at hge;exact bV (some (((w0.take (i+1)).drop i)::qs)) pv3 (ps++[((w0.take (i+1)).drop i)]++qs) es3 c3 ⟨hge,(fun qs2 h=>by cases h;simp),(fun h=>by cases h),hde3,(fun q hq2=>(hnew3 q hq2).elim (fun h=>.inl h) (fun h=>.inr h))⟩ (.cons 2 rfl (.cons 3 rfl (.cons 11 rfl (.cons 14 rfl (.cons 15 rfl .nil))))) rfl bO))
                      |(have hxd:x=d:=UInt8.toNat_inj.1 aI
                         have hge:=gX (w:=w0) hc aI hx aI hd;rw[if_pos hxd]at hge;refine uAs ?_;rcases hq:gl w0 v k (i+1) (j+2)with _|qs
                         · (rw[hq]at hge;exact bV none pv3 (ps++[]) es3 c3 ⟨hge,(fun qs h=>by cases h),(fun _=>⟨by simp,by simp⟩),hde3,(fun q hq2=>(hnew3 q hq2).elim (fun h=>.inl h) (fun h=>.inr aI))⟩ (.cons 2 rfl (.cons 3 rfl (.cons 11 rfl (.cons 14 rfl (.cons 15 rfl .nil))))) rfl bO)
                         · (rw[hq]at hge;exact bV (some qs) pv3 (ps++qs) es3 c3 ⟨hge,(fun qs2 h=>by cases h;simp),(fun h=>by cases h),hde3,(fun q hq2=>(hnew3 q hq2).elim (fun h=>.inl h) (fun h=>.inr aI))⟩ (.cons 2 rfl (.cons 3 rfl (.cons 11 rfl (.cons 14 rfl (.cons 15 rfl .nil))))) rfl bO))
                      |(have hxd:¬x=d:=(fun h=>by subst h;omega)
                         have hge:=gX (w:=w0) hc aI hx aI hd;rw[if_neg hxd]at hge;exact bV none pv ps es c ⟨hge,(fun qs h=>by cases h),(fun _=>⟨List.take_length,Nat.le_refl _⟩),hes,(fun q hq=>.inl hq)⟩ (.cons 2 rfl (.cons 3 rfl (.cons 11 rfl (.cons 14 rfl (.cons 15 rfl .nil))))) rfl bO)
                      |(have hxd:x=c1:=UInt8.toNat_inj.1 aI
                         have hge:=gY (w:=w0) hc hjl hx aI aI aI;rw[if_pos hxd]at hge;refine uAs ?_;rcases hq:gl w0 v k (i+1) (j+1)with _|qs
                         · (rw[hq]at hge;exact bV none pv3 (ps++[]) es3 c3 ⟨hge,(fun qs h=>by cases h),(fun _=>⟨by simp,by simp⟩),hde3,(fun q hq2=>(hnew3 q hq2).elim (fun h=>.inl h) (fun h=>.inr h))⟩ (.cons 2 rfl (.cons 3 rfl (.cons 11 rfl (.cons 14 rfl (.cons 15 rfl .nil))))) rfl bO)
                         · (rw[hq]at hge;exact bV (some qs) pv3 (ps++qs) es3 c3 ⟨hge,(fun qs2 h=>by cases h;simp),(fun h=>by cases h),hde3,(fun q hq2=>(hnew3 q hq2).elim (fun h=>.inl h) (fun h=>.inr h))⟩ (.cons 2 rfl (.cons 3 rfl (.cons 11 rfl (.cons 14 rfl (.cons 15 rfl .nil))))) rfl bO))
                      |(have hxd:¬x=c1:=(fun h=>by subst h;omega)
                         have hge:=gY (w:=w0) hc hjl hx aI aI aI;rw[if_neg hxd]at hge;exact bV none pv ps es c ⟨hge,(fun qs h=>by cases h),(fun _=>⟨List.take_length,Nat.le_refl _⟩),hes,(fun q hq=>.inl hq)⟩ (.cons 2 rfl (.cons 3 rfl (.cons 11 rfl (.cons 14 rfl (.cons 15 rfl .nil))))) rfl bO)
                      |(have hge:=nY (w:=w0) (v:=v) (k:=k) (i:=i) (j:=j) aI
                         by_cases hiv:i=v.length
                         · (rw[if_pos hiv]at hge;rw[show decide ((i:Int)=(v.length:Int))=true from decide_eq_true aI];exact bV (some []) pv ps es c ⟨hge,(fun qs h=>by cases h;simp),(fun h=>by cases h),hes,(fun q hq=>.inl hq)⟩ (.cons 2 rfl (.cons 3 rfl (.cons 11 rfl (.cons 14 rfl (.cons 15 rfl .nil))))) rfl bO)
                         · (rw[if_neg hiv]at hge;rw[show decide ((i:Int)=(v.length:Int))=false from decide_eq_false aI];exact bV none pv ps es c ⟨hge,(fun qs h=>by cases h),(fun _=>⟨List.take_length,Nat.le_refl _⟩),hes,(fun q hq=>.inl hq)⟩ (.cons 2 rfl (.cons 3 rfl (.cons 11 rfl (.cons 14 rfl (.cons 15 rfl .nil))))) rfl bO))
      ·
        intro r pv2 cur es2 c2 ⟨hgr,hsm,hno,hde,hnw⟩;refine aH (aH ?_);refine uAf ?_;refine aA (by first|exact dP rfl|exact dO rfl) rfl ?_;refine aG (aE ?_);refine eJ 136 rfl (fun h136=>?_) (fun h136=>?_)
        ·
          obtain rfl:r=none:=(by cases r with|none=>rfl|some q=>simp at h136);obtain⟨hct,hcl⟩:=hno rfl;have hnm:(i,j)∉es2.map (fun x=>x.1):=(by intro hm;obtain⟨e,he,e2⟩:=List.mem_map.1 hm;rcases hnw e he with h|h;exact h26 (List.mem_map.2 ⟨e,h,e2⟩);(rw[e2]at h;simp at h;omega));refine aH ?_;refine aAS (fun h hs=>aRR (n:=ps.length) hs) fun hone=>?_
          refine aB ?_;refine uCp ?_;refine uAa ?_;refine aA (tO (k:=bT 9) (m:=ps.length) cX rfl (.there (.there .here)) (.there (.there .here)) rfl rfl hcl) rfl ?_;refine bP (bH ts39 rfl rfl cD aX .zero rfl) ?_;rintro _ K _ ⟨rfl,rfl⟩ -;refine aG (aE ?_);refine aB ?_;refine aA (aJ aSM rfl aL rfl) rfl ?_;refine aA (bX aE2 rfl aL rfl rfl) rfl ?_;refine bP (aW6 Tryz.underlying427 aEF rfl rfl rfl hnm (by first|exact .here|exact .there .here|exact .there (.there .here)|exact .there (.there (.there .here)))) ?_;rintro _ K _ ⟨rfl,rfl⟩ -;refine aG (aE ?_);refine aH (aB ?_);refine uEl ?_;refine aG (aE ?_);refine bI ?_
          first
            |(refine aO (.cons (.there (.there .here)) (.cons (.there .here) (.cons (.there .here) .nil))) ?_;refine dN (fA (yI (m:=ps.length) hcl)) ?_;rw[hct];refine aO (.cons (.there .here) (.cons .here (.cons .here .nil))) ?_)
            |(refine aO (.cons (.there .here) (.cons (.there .here) (.cons (.there .here) .nil))) ?_)
          refine bF rfl rfl (Hl.le_refl _) ?_
          first
            |exact⟨_,rfl,rfl,by simp[hgr],slTo pv2 ps.length,es2++[((i,j),c2)],c2+1,(fun e he=>by rcases List.mem_append.1 he with h|h;exact hde e h;(simp at h;subst h;exact hgr)),(fun e he=>by rcases List.mem_append.1 he with h|h;exact(hnw e h).imp_right (fun h=>by omega);(simp at h;subst h;exact .inr (Nat.le_refl _))),by simp[hgr]⟩
            |exact⟨_,rfl,rfl,by simp[hgr],pv2,es2,c2,hde,(fun e he=>(hnw e he).imp_right (fun h=>by omega)),by simp[hgr]⟩
        ·
          obtain⟨qs,rfl⟩:∃qs,r=some qs:=(by cases r with|none=>simp at h136|some q=>exact⟨q,rfl⟩);obtain rfl:=hsm qs rfl;refine aW ?_;refine aE (aH ?_);refine uGb ?_;refine aG (aE ?_);refine bI ?_
          first
            |(refine aO (.cons (.there (.there .here)) (.cons (.there .here) (.cons (.there .here) .nil))) ?_;refine dN (fA (yI (m:=ps.length) hcl)) ?_;rw[hct];refine aO (.cons (.there .here) (.cons .here (.cons .here .nil))) ?_)
            |(refine aO (.cons (.there .here) (.cons (.there .here) (.cons (.there .here) .nil))) ?_)
          refine bF rfl rfl (Hl.le_refl _) ?_
          first
            |exact⟨_,rfl,rfl,by simp[hgr],slTo pv2 ps.length,es2++[((i,j),c2)],c2+1,(fun e he=>by rcases List.mem_append.1 he with h|h;exact hde e h;(simp at h;subst h;exact hgr)),(fun e he=>by rcases List.mem_append.1 he with h|h;exact(hnw e h).imp_right (fun h=>by omega);(simp at h;subst h;exact .inr (Nat.le_refl _))),by simp[hgr]⟩
            |exact⟨_,rfl,rfl,by simp[hgr],pv2,es2,c2,hde,(fun e he=>(hnw e he).imp_right (fun h=>by omega)),by simp[hgr]⟩
end Go.Proofs
end
section
namespace Go.Proofs
open Go Go.SL Go.Syn Go.Mach
theorem sG(oct:Bool)(s:List UInt8):(eG oct s).length=s.length:=by unfold eG;split <;> simp[dH]
theorem aTP(w k:List UInt8)(oct:Bool):glob w k oct=gl w (eG oct w) (eG oct k) 0 0:=by
 unfold glob gl;rw[sG];rfl
theorem aMM(w0 k0:List UInt8)(oct:Bool)(K:Hl)(hw:w0.length≤1000000)(hk:k0.length≤1000000):
  Sp Tryz.prog 253 [str w0,str k0,.func (.func (zK oct)) #[] #[]] K [] (Ret fun v K' L'=>∃pv,v=.tuple #[pv,.bool (glob w0 k0 oct).isSome]∧L'=[sl false (bT 9) pv ((glob w0 k0 oct).getD [])]):=by
 refine aZ Tryz.func253 rfl Tryz.ntmps253 rfl rfl fun F w=>?_
 refine aH (aB ?_);refine uBk ?_;rintro _ K _ ⟨b3,rfl,rfl,rfl⟩ -;refine uAw ?_;refine aG (aE ?_);refine aH (aB ?_);refine uAa ?_;refine uBl ?_;refine cA rfl rfl (lZ oct w0 _ aI) rfl ?_;refine uAx ?_;refine cA rfl rfl (lZ oct k0 _ aI) rfl ?_;refine ol_s (cN tz9) rfl ?_;rintro _ K _ ⟨b8,rfl,rfl,rfl⟩ -;refine ol_s (cN tz9) rfl ?_;rintro _ K _ ⟨b9,rfl,rfl,rfl⟩ -;refine uGc ?_;rintro _ K _ ⟨rfl,rfl⟩ -;refine uGc ?_;rintro _ K _ ⟨rfl,rfl⟩ -;refine aG (aE ?_);refine aH (aB ?_);refine ol_s nQ rfl ?_;rintro _ K _ ⟨b20,rfl,rfl,rfl⟩ -;refine ol_s (cN aZS) rfl ?_;rintro _ K _ ⟨b10,rfl,rfl,rfl⟩ -;refine bP (bH aSM rfl rfl cD aX .zero rfl) ?_;rintro _ K _ ⟨rfl,rfl⟩ -;refine aG (aE ?_);refine aH (aB ?_);refine ol_s (cN tz39) rfl ?_;rintro _ K _ ⟨b11,rfl,rfl,rfl⟩ -;refine aG (aE ?_);refine aH (aB ?_);refine ol_s (cN aZK) rfl ?_;rintro _ K _ ⟨b12,rfl,rfl,rfl⟩ -;refine aG (aE ?_);refine aH (aB ?_);refine uGk ?_;refine bP (bH aAZ rfl rfl cD aX .zero rfl) ?_;rintro _ K _ ⟨rfl,rfl⟩ -;refine aG (aE ?_);refine aH ?_;refine jD fun K1 le1 h1=>?_
 refine tD (.cons (.there .here) .nil) ?_;refine jD fun K2 le2 h2=>?_
 refine tD (.cons (.there (.there .here)) .nil) ?_;refine jD fun K3 le3 h3=>?_
 refine tD (.cons (.there (.there .here)) .nil) ?_;refine jD fun K4 le4 h4=>?_
 refine tD (.cons (.there (.there .here)) .nil) ?_;refine jD fun K5 le5 h5=>?_
 have l45:=le5;have l35:=Hl.le_trans le4 l45;have l25:=Hl.le_trans le3 l35;have l15:=Hl.le_trans le2 l25;have h1:=l15 _ _ h1;have h2:=l25 _ _ h2;have h3:=l35 _ _ h3;have h4:=l45 _ _ h4;refine kJ (dX (bT 9)) ?_;refine uIt ?_;refine aB ?_;refine aA (aJ aAZ rfl (.known h1) rfl) rfl ?_;refine bC rfl rfl (aIX w0 (eG oct w0) (eG oct k0) b10 b20 b11 b9 b8 b3 b12 (sG oct w0).symm (by rw[sG];exact hw) (by rw[sG];exact hk) _ 0 0 [] [] 0 _ _ (Nat.le_refl _) ⟨h2,h3,h4,h5,h1⟩ (Nat.zero_le _) (Nat.zero_le _) (Nat.zero_le _) (fun e h=>by cases h)) (.cons .here (.cons .here (.cons .here .nil))) rfl ?_;rintro _ K _ ⟨rfl,rfl,pv,es,c,hde,hnew,rfl⟩ -;refine uAb ?_;refine aG (aE ?_);refine aH (aB ?_);refine uCp ?_;refine uAa ?_;refine uAw ?_;refine aG (aE ?_);refine bI ?_;refine uFa ?_;refine e7 rfl rfl rfl (Hl.le_trans le1 l15) ?_;rw[aTP];exact⟨_,rfl,pv,rfl,rfl⟩
end Go.Proofs
end
section
namespace Go.Proofs
open Go Go.SL Go.Syn Go.Mach
theorem aNS{α:Type}{k:El α}{b:Nat}{xs:List α}{n:Nat}{M:List Asn}(hn:n=xs.length):∀h,Sat (pt b (aU (k.cs xs) k.e)::M) h→Sat (sl false k (.slice (some ⟨b,0,none⟩) n n) xs::M) h:=by
 subst hn;rintro h ⟨a,l,ha,hl,hd,rfl⟩;refine⟨a,l,.inr ⟨b,xs.length,[],(0,0),rfl,(fun h=>by cases h),Nat.le_refl _,by simp,.inl (Nat.le_refl _),?_⟩,hl,hd,rfl⟩
 rw[List.append_nil];exact ha
def rA(o:Ins)(x:aM)(ks:List aM):Option (List aM):=o3 (fun k=>(gU o x k).map fun ps=>x::ps) ks
theorem jK{α:Type}{l:List α}{i:Nat}{x:α}(hx:l[i]?=some x):l.drop i=x::l.drop (i+1):=by
 have hi:i < l.length:=by
  rcases Nat.lt_or_ge i l.length with h'|h'
  ·exact h'
  ·simp[List.getElem?_eq_none h']at hx
 have hc:l[i]=x:=by simpa[List.getElem?_eq_getElem hi]using hx
 rw[List.drop_eq_getElem_cons hi,hc]
theorem aB6{o:Ins}{vs ks:List aM}{i:Nat}{x:aM}(hx:vs[i]?=some x):jB o (vs.drop i) ks=(match rA o x ks with|some z=>some z|none=>jB o (vs.drop (i+1)) ks):=by
 rw[jK hx];unfold jB rA;rw[o3]
 cases o3 (fun k=>(gU o x k).map fun ps=>x::ps) ks <;> rfl
theorem aMQ{o:Ins}{x y:aM}{ks ps:List aM}{j:Nat}(hy:ks[j]?=some y)(h:gU o x y=some ps):rA o x (ks.drop j)=some (x::ps):=by
 rw[jK hy];unfold rA;rw[o3,h];rfl
theorem aQK{o:Ins}{x y:aM}{ks:List aM}{j:Nat}(hy:ks[j]?=some y)(h:gU o x y=none):rA o x (ks.drop j)=rA o x (ks.drop (j+1)):=by
 rw[jK hy];unfold rA;rw[o3,h];rfl
theorem aMP{o:Ins}{x:aM}{ks:List aM}{j:Nat}(h:ks.length≤j):rA o x (ks.drop j)=none:=by rw[List.drop_of_length_le h];rfl
theorem aQQ{o:Ins}{vs ks:List aM}{j:Nat}(h:vs.length≤j):jB o (vs.drop j) ks=none:=by rw[List.drop_of_length_le h];rfl
theorem aZV{o:Ins}{x y:aM}(h:o.tag=1):gU o x y=if decide (eG o.oct x=eG o.oct y)=true then some []else none:=by unfold gU;rw[if_pos h];simp
theorem aXT{o:Ins}{x y:aM}(h:o.tag=2):gU o x y=if decide (0≤Lib.index (eG o.oct x) (eG o.oct y))=true then some []else none:=by unfold gU;rw[if_neg aI,if_pos h];simp
theorem aFC{o:Ins}{x y:aM}(h:o.tag=3):gU o x y=glob x y o.oct:=by unfold gU;rw[if_neg aI,if_neg aI]
theorem wF{nm:Bool}{m:Msg}{o:Ins}{s:MS}(h:¬(1≤o.tag∧o.tag≤3∧s.stack.length < 8)):matchI nm m o s=.error (12,s.pc):=by unfold matchI;rw[if_neg h];rfl
theorem aGJ{nm:Bool}{m:Msg}{o:Ins}{s:MS}(h:1≤o.tag∧o.tag≤3∧s.stack.length < 8)(hm:jB o (gF (dF nm s.vars s.parts) m o) (o.b.map (dF nm s.vars s.parts))=none):matchI nm m o s=push s false:=by unfold matchI;rw[if_pos h];simp only[hm]
theorem aGK{nm:Bool}{m:Msg}{o:Ins}{s:MS}{ps:List aM}(h:1≤o.tag∧o.tag≤3∧s.stack.length < 8)(hm:jB o (gF (dF nm s.vars s.parts) m o) (o.b.map (dF nm s.vars s.parts))=some ps):matchI nm m o s=push (if o.tag=3∧nm=true then {s with parts:=ps}else s) true:=by unfold matchI;rw[if_pos h];simp only[hm]
def MMI(nm:Bool)(o:Ins)(x y:aM)(s:MS)(pv:Value)(ok:Bool)(pv':Value)(s':MS):Prop:=
 (ok=true∧∃ps,gU o x y=some ps∧s'=(if o.tag=3∧nm=true then {s with parts:=x::ps}else s))∨(ok=false∧gU o x y=none∧s=s'∧pv=pv')
theorem zX{nm:Bool}{o:Ins}{x y:aM}{s:MS}{pv:Value}(h:o.tag=1):MMI nm o x y s pv (decide (eG o.oct x=eG o.oct y)) pv s:=by
 unfold MMI;rw[aZV h]
 by_cases hd:eG o.oct x=eG o.oct y
 ·exact .inl ⟨by simp[hd],[],by simp[hd],by rw[if_neg aI]⟩
 ·exact .inr ⟨by simp[hd],by simp[hd],rfl,rfl⟩
theorem vE{nm:Bool}{o:Ins}{x y:aM}{s:MS}{pv:Value}(h:o.tag=2):MMI nm o x y s pv (decide (0≤Lib.index (eG o.oct x) (eG o.oct y))) pv s:=by
 unfold MMI;rw[aXT h]
 by_cases hd:0≤Lib.index (eG o.oct x) (eG o.oct y)
 ·exact .inl ⟨by simp[hd],[],by simp[hd],by rw[if_neg aI]⟩
 ·exact .inr ⟨by simp[hd],by simp[hd],rfl,rfl⟩
theorem zY{nm:Bool}{o:Ins}{x y:aM}{s:MS}{pv:Value}(h:o.tag=3)(hg:(glob x y o.oct).isSome=false):MMI nm o x y s pv (glob x y o.oct).isSome pv s:=by
 unfold MMI;rw[aFC h];exact .inr ⟨hg,by simpa using hg,rfl,rfl⟩
theorem zZ{o:Ins}{x y:aM}{s:MS}{pv:Value}(h:o.tag=3):MMI false o x y s pv (glob x y o.oct).isSome pv s:=by
 unfold MMI;rw[aFC h];cases hg:glob x y o.oct with
 |none=>exact .inr ⟨rfl,rfl,rfl,rfl⟩
 |some ps=>exact .inl ⟨rfl,ps,rfl,by simp⟩
theorem vF{o:Ins}{x y:aM}{s:MS}{pv pv':Value}(h:o.tag=3)(hg:(glob x y o.oct).isSome=true):MMI true o x y s pv (glob x y o.oct).isSome pv' {s with parts:=x::(glob x y o.oct).getD []}:=by
 unfold MMI;rw[aFC h];cases hg':glob x y o.oct with
 |none=>rw[hg']at hg;cases hg
 |some ps=>exact .inl ⟨rfl,ps,rfl,by rw[if_pos ⟨h,rfl⟩];rfl⟩
theorem aMK(w v k:aM):∀f i j ps,g9 w v k f i j=some ps→ps.length≤f:=by
 intro f;induction f with
 |zero=>intro i j ps h;cases h
 |succ f ih=>
  intro i j ps h;unfold g9 at h;split at h
  ·split at h
   ·cases h;simp
   ·cases h
  ·split at h
   ·have key:∀n e,kA (fun e=>(g9 w v k f e (j+1)).map fun ps=>((w.take e).drop i)::ps) n e=some ps→ps.length≤f+1:=by
     intro n;induction n with
     |zero=>intro e h;cases h
     |succ n ihn=>
      intro e h;unfold kA at h;split at h
      ·rename_i x hx;cases h
       cases hy:g9 w v k f e (j+1)with
       |none=>rw[hy]at hx;cases hx
       |some q=>rw[hy]at hx;cases hx;have:=ih _ _ _ hy;simpa using this
      ·exact ihn _ h
    exact key _ _ h
   ·split at h
    ·cases h
    ·split at h
     ·cases hy:g9 w v k f (i+1) (j+1)with
      |none=>rw[hy]at h;cases h
      |some q=>rw[hy]at h;cases h;have:=ih _ _ _ hy;simpa using this
     ·split at h
      ·split at h
       ·have:=ih _ _ _ h;omega
       ·cases h
      ·split at h
       ·have:=ih _ _ _ h;omega
       ·cases h
theorem aQH(x y:aM)(oct:Bool):((glob x y oct).getD []).length≤y.length+1:=by
 cases h:glob x y oct with
 |none=>simp
 |some ps=>exact aMK _ _ _ _ _ _ _ h
structure MZ where
 i:Nat
 K:Hl
structure MM where
 ok:Bool
 K:Hl
 pv:Value
 s:MS
theorem aGL(b mb:Nat)(m:Msg)(hv pv:Value)(nm:Bool)(s:MS)(o:Ins)(av0 bv:Value)(n:Int)(K0:Hl)(hg:Glob K0)(hpv:Ksl (bT 9) K0 pv s.parts)(ha:Ksl (bT 9) K0 av0 o.a)(hb:Ksl (bT 9) K0 bv o.b)(hh:Ksl hdEl K0 hv m.hs)(hln:m.hs.length≤1000000)(hhs:∀h∈m.hs,h.1.length≤1000000)(hl:o.a.length≤1000000)(hs:∀x∈o.a,x.length≤100000)(hlb:o.b.length≤1000000)(hsb:∀x∈o.b,x.length≤100000)(hsm:o1 s.vars s.parts)
  (hvl:∀x∈gF (dF nm s.vars s.parts) m o,x.length≤1000000):
  Sp Tryz.prog 149 [ptr b,l4 o av0 bv,i64 n] K0 [mch b mb m hv pv nm s] (MI b mb m hv nm (matchI nm m o s)):=by
 have hkl:∀x∈o.b.map (dF nm s.vars s.parts),x.length≤100000:=(by intro x hx;obtain⟨y,hy,rfl⟩:=List.mem_map.1 hx;exact iX (hsb y hy));have hkn:(o.b.map (dF nm s.vars s.parts)).length≤1000000:=(by simpa using hlb);have hvn:(gF (dF nm s.vars s.parts) m o).length≤1000000*1000000:=by
  unfold gF;split
  ·simp;omega
  ·split
   ·exact Nat.le_trans (q7 (n:=1000000) (fun x=>Nat.le_trans (tP m _) hln) _) (Nat.mul_le_mul_right _ (by simpa using hl))
   ·split
    ·exact Nat.le_trans (q7 (n:=1) (aKK m) _) aI
    ·simp
 have hm0:∀r,jB o (gF (dF nm s.vars s.parts) m o) (o.b.map (dF nm s.vars s.parts))=r→jB o ((gF (dF nm s.vars s.parts) m o).drop 0) (o.b.map (dF nm s.vars s.parts))=r:=fun r h=>h
 have hall:=fun(K:Hl) (hg:Glob K) (hpv:Ksl (bT 9) K pv s.parts) (hb:Ksl (bT 9) K bv o.b)=>sC b mb m hv pv nm s bv o.b K hg hpv hb hlb hsb hsm
 have hval:=fun(K:Hl) (hg:Glob K) (hpv:Ksl (bT 9) K pv s.parts) (ha:Ksl (bT 9) K av0 o.a) (hb:Ksl (bT 9) K bv o.b) (hh:Ksl hdEl K hv m.hs)=>aH3 b mb m hv pv nm s o av0 bv K hg hpv ha hb hh hln hhs hl hs hsm
 have hnone:=aGJ (nm:=nm) (m:=m) (o:=o) (s:=s);have hsome:=fun ps=>aGK (nm:=nm) (m:=m) (o:=o) (s:=s) (ps:=ps)
 generalize hvse:gF (dF nm s.vars s.parts) m o=vs at*
 generalize hkse:o.b.map (dF nm s.vars s.parts)=ks at*
 clear hm0;obtain⟨sa,sn,sc,rfl⟩:=ha.isSlice;obtain⟨ta,tn,tc,rfl⟩:=hb.isSlice;refine aZ Tryz.func149 rfl Tryz.ntmps149 rfl rfl fun F w=>?_
 refine qQ fun av sv f c=>?_
 refine aH (aB ?_);refine uBk ?_;rintro _ K _ ⟨b4,rfl,rfl,rfl⟩ -;refine aG (aE ?_);refine aH (aB ?_);refine uAa ?_;refine uIp ?_;refine uEn ?_;refine uAa ?_;refine cG 18 rfl (fun g18=>?_) (fun g18=>?_)
 ·
  refine uAz ?_;refine uDi ?_;refine uDt ?_;refine uEu ?_;refine uFq ?_;refine cG 23 rfl (fun g23=>?_) (fun g23=>?_)
  ·
   refine uAi ?_;refine uEy ?_;refine uAz ?_;refine aA (aD (o':=9) jJ rfl rfl) rfl ?_;refine uAz ?_;refine aA (aJ tG rfl aL rfl) rfl ?_;refine uAz ?_;refine aA (cB rfl Tryz.underlying176 rfl aL) rfl ?_;refine uAz ?_;refine uBn ?_;refine uAy ?_;refine aY rfl rfl (n7 ((s.stack.length:Int) < 8) _ _ _ _ _ _ _ _ _ _ _ _ _) (.cons (.there .here) .nil) rfl (fun _ _=>a8 _ _) ?_ ?_
   ·
    rintro _ _ _ hTr le1;obtain⟨e,p,hu,fb,h,rfl⟩:=bA hTr;cases h
    refine uAr ?_;have hbl:¬((s.stack.length:Int) < 8):=(by intro h;rw[if_pos h]at hu;cases hu);rw[if_neg hbl]at hu;cases hu
    have hno:=wF (nm:=nm) (m:=m) (s:=s) (o:=o) aI;unfold MI;rw[hno];exact⟨fb,rfl,rfl⟩
   rintro _ K _ hTr -;obtain⟨u0,hu,rfl,rfl,rfl⟩:=bB hTr;clear hTr;have hbl:(s.stack.length:Int) < 8:=Classical.byContradiction (fun h=>by rw[if_neg h]at hu;cases hu);have hcc:1≤o.tag∧o.tag≤3∧s.stack.length < 8:=⟨by omega,by omega,by omega⟩;refine aQ2 (As:=[_,_,_,_]) (.cons .here (.cons (.there .here) (.cons (.there .here) (.cons (.there .here) .nil)))) ?_;refine lL (dR (m:=m) (hv:=hv) (pv:=pv) (nm:=nm) (s:=s)) ?_;refine aG (aE ?_);refine aH (aB ?_);refine aA (aD (o':=3) aSC rfl rfl) rfl ?_;refine uGe ?_;refine cA rfl rfl (aD6 o.oct _) rfl ?_;refine uAb ?_;refine aG (aE ?_);refine aH (aB ?_);refine uAa ?_;refine aA (aD (o':=5) aAX rfl rfl) rfl ?_;refine uCp ?_;refine bC rfl rfl (hall _ hg hpv hb) (.cons .here .nil) rfl ?_;rintro kv K _ ⟨rfl,rfl⟩ -;refine uAb ?_;refine aG (aE ?_);refine aH (aH ?_);refine uAf ?_;refine uIh ?_;refine bC rfl rfl (hval _ hg hpv ha hb hh) (.cons (.there .here) .nil) rfl ?_;rintro vv K1 _ rfl le1;refine uCh ?_;refine uAa ?_;refine aG (aE ?_);refine bE ?_;refine eR (fun(q:MZ)=>q.i≤vs.length∧K.le q.K∧jB o (vs.drop q.i) ks=jB o vs ks) (fun q=>[(0,ptr b),(4,ptr b4),(6,.func (.func (zK o.oct)) #[] #[]),(7,kv),(41,vv),(42,i64 vs.length),(43,i64 q.i)]) (fun q=>q.K) (fun _=>[sl false (bT 9) vv vs,mch b mb m hv pv nm s,sl false (bT 9) kv ks,pt b4 (aU [i64 o.op,i64 o.n,i64 o.tag,.bool o.oct,.slice sa sn sc,.slice ta tn tc,i64 o.at_] 41)]) (fun q=>vs.length - q.i) ⟨0,K1⟩ ⟨Nat.zero_le _,le1,by rw[List.drop_zero]⟩ (.cons 0 rfl (.cons 4 rfl (.cons 6 rfl (.cons 7 rfl (.cons 41 rfl (.cons 42 rfl (.cons 43 rfl .nil))))))) rfl (fun _ h=>h) ?_;intro ⟨i,K2⟩ ⟨hi0,hle2,hmall⟩;dsimp only at hi0 hle2 hmall ⊢;refine aH (aB ?_);refine uBn ?_;refine aG (aE ?_);refine aH ?_;refine bK 44 rfl (fun h44=>?_) (fun h44=>?_)
   ·
    have hilt:i < vs.length:=by omega
    obtain⟨x,hx⟩:∃x,vs[i]?=some x:=⟨vs[i]'hilt,List.getElem?_eq_getElem hilt⟩;have hxl:=hvl x (List.mem_of_getElem? hx);refine aW ?_;refine aE (aH ?_);refine bE (aH ?_);refine aB ?_;refine aA (b0 (k:=(bT 9)) cX rfl aL rfl rfl (by first|assumption|omega)) rfl ?_;refine uCn ?_;refine uAb ?_;refine aG (aE ?_);refine aH (aB ?_);refine uAa ?_;refine uCh ?_;refine uAa ?_;refine aG (aE ?_);refine bE ?_;refine eR (fun(q:MZ)=>q.i≤ks.length∧K.le q.K∧rA o x (ks.drop q.i)=rA o x ks) (fun q=>[(0,ptr b),(4,ptr b4),(6,.func (.func (zK o.oct)) #[] #[]),(7,kv),(9,str x),(41,vv),(42,i64 vs.length),(43,i64 i),(47,kv),(48,i64 ks.length),(49,i64 q.i)]) (fun q=>q.K) (fun _=>[sl false (bT 9) vv vs,mch b mb m hv pv nm s,sl false (bT 9) kv ks,pt b4 (aU [i64 o.op,i64 o.n,i64 o.tag,.bool o.oct,.slice sa sn sc,.slice ta tn tc,i64 o.at_] 41)]) (fun q=>ks.length - q.i) ⟨0,K2⟩ ⟨Nat.zero_le _,hle2,by rw[List.drop_zero]⟩ (.cons 0 rfl (.cons 4 rfl (.cons 6 rfl (.cons 7 rfl (.cons 9 rfl (.cons 41 rfl (.cons 42 rfl (.cons 43 rfl (.cons 47 rfl (.cons 48 rfl (.cons 49 rfl .nil))))))))))) rfl (fun _ h=>h) ?_;intro ⟨j,K3⟩ ⟨hj0,hle3,hin⟩;dsimp only at hj0 hle3 hin ⊢;refine aH (aB ?_);refine uBn ?_;refine aG (aE ?_);refine aH ?_;refine bK 50 rfl (fun h50=>?_) (fun h50=>?_)
    ·
     have hjlt:j < ks.length:=by omega
     obtain⟨y,hy⟩:∃y,ks[j]?=some y:=⟨ks[j]'hjlt,List.getElem?_eq_getElem hjlt⟩;have hyl:=hkl y (List.mem_of_getElem? hy);refine aW ?_;refine aE (aH ?_);refine bE (aH ?_);refine aB ?_;refine aA (b0 (k:=(bT 9)) cX rfl aL rfl rfl (by first|assumption|omega)) rfl ?_;refine uCn ?_;refine uAb ?_;refine aG (aE ?_);refine aH (aB ?_);refine uAb ?_;refine aG (aE ?_);refine gS (fun(q:MM)=>K.le q.K∧MMI nm o x y s pv q.ok q.pv q.s∧Ksl (bT 9) q.K q.pv q.s.parts) (fun q=>[(0,ptr b),(4,ptr b4),(6,.func (.func (zK o.oct)) #[] #[]),(7,kv),(9,str x),(12,.bool q.ok),(41,vv),(42,i64 vs.length),(43,i64 i),(47,kv),(48,i64 ks.length),(49,i64 j)]) (fun q=>q.K) (fun q=>[mch b mb m hv q.pv nm q.s,sl false (bT 9) vv vs,sl false (bT 9) kv ks,pt b4 (aU [i64 o.op,i64 o.n,i64 o.tag,.bool o.oct,.slice sa sn sc,.slice ta tn tc,i64 o.at_] 41)]) ?_ ?_
     ·
      refine aH (aB ?_);refine uIp ?_;refine aG (aE ?_);refine bE (aH ?_);refine aB ?_;refine uCe ?_;refine aG (aE ?_);refine bK 55 rfl (fun h55=>?_) (fun h55=>?_)
      ·
       refine uCf ?_;refine cA rfl rfl (lZ o.oct x _ aI) rfl ?_;refine uAx ?_;refine cA rfl rfl (lZ o.oct y _ aI) rfl ?_;refine uIn ?_;refine uAb ?_;refine aG (aN ?_)
       first
        |(refine aO (.cons (.there .here) (.cons .here (.cons .here (.cons .here .nil)))) ?_;exact bZ ⟨decide (eG o.oct x=eG o.oct y),K3,pv,s⟩ ⟨hle3,zX h55,hpv.mono hle3⟩ (.cons 0 rfl (.cons 4 rfl (.cons 6 rfl (.cons 7 rfl (.cons 9 rfl (.cons 12 rfl (.cons 41 rfl (.cons 42 rfl (.cons 43 rfl (.cons 47 rfl (.cons 48 rfl (.cons 49 rfl .nil)))))))))))) rfl (fun _ h=>h))
        |(refine aO (.cons (.there .here) (.cons .here (.cons .here (.cons .here .nil)))) ?_;exact bZ ⟨decide (0≤Lib.index (eG o.oct x) (eG o.oct y)),K3,pv,s⟩ ⟨hle3,vE h64,hpv.mono hle3⟩ (.cons 0 rfl (.cons 4 rfl (.cons 6 rfl (.cons 7 rfl (.cons 9 rfl (.cons 12 rfl (.cons 41 rfl (.cons 42 rfl (.cons 43 rfl (.cons 47 rfl (.cons 48 rfl (.cons 49 rfl .nil)))))))))))) rfl (fun _ h=>h))
        |(refine gB fun K5 le5 hK5=>?_;refine dN (dR (m:=m) (hv:=hv) (pv:=v90) (nm:=nm) (s:={s with parts:=x::(glob x y o.oct).getD []})) ?_;refine aO (.cons .here (.cons (.there .here) (.cons (.there .here) (.cons (.there .here) .nil)))) ?_;subst h85;exact bZ ⟨(glob x y o.oct).isSome,K5,v90,{s with parts:=x::(glob x y o.oct).getD []}⟩ ⟨Hl.le_trans (Hl.le_trans hle3 le4) le5,vF h70 g80,hK5⟩ (.cons 0 rfl (.cons 4 rfl (.cons 6 rfl (.cons 7 rfl (.cons 9 rfl (.cons 12 rfl (.cons 41 rfl (.cons 42 rfl (.cons 43 rfl (.cons 47 rfl (.cons 48 rfl (.cons 49 rfl .nil)))))))))))) rfl (fun _ h=>h))
        |(refine dN (dR (m:=m) (hv:=hv) (pv:=pv) (nm:=nm) (s:=s)) ?_;refine aO (.cons .here (.cons (.there .here) (.cons (.there .here) (.cons (.there .here) .nil)))) ?_;exact bZ ⟨(glob x y o.oct).isSome,K4,pv,s⟩ ⟨Hl.le_trans hle3 le4,by first|exact zY h70 g80|(subst h85;exact zZ h70),hpv.mono (Hl.le_trans hle3 le4)⟩ (.cons 0 rfl (.cons 4 rfl (.cons 6 rfl (.cons 7 rfl (.cons 9 rfl (.cons 12 rfl (.cons 41 rfl (.cons 42 rfl (.cons 43 rfl (.cons 47 rfl (.cons 48 rfl (.cons 49 rfl .nil)))))))))))) rfl (fun _ h=>h))
      ·
       refine aH (aB ?_);refine uCe ?_;refine aG (aE ?_);refine bK 64 rfl (fun h64=>?_) (fun h64=>?_)
       ·
        refine uAf ?_;refine uAx ?_;refine cA rfl rfl (zW x y o.oct _ (hg.mono hle3) aI aI) rfl ?_;refine uAb ?_;refine aG (aN ?_)
        first
         |(refine aO (.cons (.there .here) (.cons .here (.cons .here (.cons .here .nil)))) ?_;exact bZ ⟨decide (eG o.oct x=eG o.oct y),K3,pv,s⟩ ⟨hle3,zX h55,hpv.mono hle3⟩ (.cons 0 rfl (.cons 4 rfl (.cons 6 rfl (.cons 7 rfl (.cons 9 rfl (.cons 12 rfl (.cons 41 rfl (.cons 42 rfl (.cons 43 rfl (.cons 47 rfl (.cons 48 rfl (.cons 49 rfl .nil)))))))))))) rfl (fun _ h=>h))
         |(refine aO (.cons (.there .here) (.cons .here (.cons .here (.cons .here .nil)))) ?_;exact bZ ⟨decide (0≤Lib.index (eG o.oct x) (eG o.oct y)),K3,pv,s⟩ ⟨hle3,vE h64,hpv.mono hle3⟩ (.cons 0 rfl (.cons 4 rfl (.cons 6 rfl (.cons 7 rfl (.cons 9 rfl (.cons 12 rfl (.cons 41 rfl (.cons 42 rfl (.cons 43 rfl (.cons 47 rfl (.cons 48 rfl (.cons 49 rfl .nil)))))))))))) rfl (fun _ h=>h))
         |(refine gB fun K5 le5 hK5=>?_;refine dN (dR (m:=m) (hv:=hv) (pv:=v90) (nm:=nm) (s:={s with parts:=x::(glob x y o.oct).getD []})) ?_;refine aO (.cons .here (.cons (.there .here) (.cons (.there .here) (.cons (.there .here) .nil)))) ?_;subst h85;exact bZ ⟨(glob x y o.oct).isSome,K5,v90,{s with parts:=x::(glob x y o.oct).getD []}⟩ ⟨Hl.le_trans (Hl.le_trans hle3 le4) le5,vF h70 g80,hK5⟩ (.cons 0 rfl (.cons 4 rfl (.cons 6 rfl (.cons 7 rfl (.cons 9 rfl (.cons 12 rfl (.cons 41 rfl (.cons 42 rfl (.cons 43 rfl (.cons 47 rfl (.cons 48 rfl (.cons 49 rfl .nil)))))))))))) rfl (fun _ h=>h))
         |(refine dN (dR (m:=m) (hv:=hv) (pv:=pv) (nm:=nm) (s:=s)) ?_;refine aO (.cons .here (.cons (.there .here) (.cons (.there .here) (.cons (.there .here) .nil)))) ?_;exact bZ ⟨(glob x y o.oct).isSome,K4,pv,s⟩ ⟨Hl.le_trans hle3 le4,by first|exact zY h70 g80|(subst h85;exact zZ h70),hpv.mono (Hl.le_trans hle3 le4)⟩ (.cons 0 rfl (.cons 4 rfl (.cons 6 rfl (.cons 7 rfl (.cons 9 rfl (.cons 12 rfl (.cons 41 rfl (.cons 42 rfl (.cons 43 rfl (.cons 47 rfl (.cons 48 rfl (.cons 49 rfl .nil)))))))))))) rfl (fun _ h=>h))
       ·
        refine aH (aB ?_);refine uCe ?_;refine aG (aE ?_);refine bK 70 rfl (fun h70=>?_) (fun h70=>?_)
        ·
         refine aH (aB ?_);refine uAb ?_;refine aG (aE ?_);refine aH (aB ?_);refine uEi ?_;refine bC rfl rfl (aMM x y o.oct _ aI aI) .nil rfl ?_;rintro _ K4 _ ⟨gv,rfl,rfl⟩ le4;have hgl:=aQH x y o.oct;refine uBy ?_;refine aG (aE ?_);refine aH ?_;refine tD (.cons (.there (.there .here)) .nil) ?_;refine qQ fun av sv f c=>?_
         refine uCf ?_;refine mW 80 rfl (fun g80=>?_) (fun g80=>?_)
         ·
          refine uAi ?_;refine uEy ?_;refine uAz ?_;refine aA (aD (o':=6) aCX rfl rfl) rfl ?_;refine uAz ?_;refine uGe ?_;refine uAy ?_;refine aG (aE ?_);refine eJ 85 rfl (fun h85=>?_) (fun h85=>?_)
          ·
           refine uCf ?_;refine ol_s (bN (z0:=[(str [])]) cX tz9 rfl rfl rfl rfl (.cons rfl rfl rfl (.cons .nil) .nil)) rfl ?_;rintro _ K _ ⟨b88,rfl,rfl,rfl⟩ -;refine uAa ?_;refine lL (aNS (k:=bT 9) (xs:=[x]) rfl) ?_;refine ol_s (dM (k:=(bT 9)) (ys:=((glob x y o.oct).getD [])) iC rfl rfl .here (fun w j=>dB Tryz.underlying39 (SeesSl.at (k:=bT 9) (.own (.there (.there (.there (.there (.there .here)))))) j)) (by simp only[List.length_singleton];omega) (by simp only[List.length_singleton];omega)) rfl ?_;rintro v90 K _ ⟨rfl,rfl,ho90⟩ -;refine uEy ?_;refine aA (aD (o':=8) wW rfl rfl) rfl ?_;refine bP (bH ts39 rfl rfl cD aX (.succ (.succ (.succ (.succ (.succ (.succ (.succ (.succ .zero)))))))) rfl) ?_;rintro _ K _ ⟨rfl,rfl⟩ -;refine aG (aN ?_)
           first
            |(refine aO (.cons (.there .here) (.cons .here (.cons .here (.cons .here .nil)))) ?_;exact bZ ⟨decide (eG o.oct x=eG o.oct y),K3,pv,s⟩ ⟨hle3,zX h55,hpv.mono hle3⟩ (.cons 0 rfl (.cons 4 rfl (.cons 6 rfl (.cons 7 rfl (.cons 9 rfl (.cons 12 rfl (.cons 41 rfl (.cons 42 rfl (.cons 43 rfl (.cons 47 rfl (.cons 48 rfl (.cons 49 rfl .nil)))))))))))) rfl (fun _ h=>h))
            |(refine aO (.cons (.there .here) (.cons .here (.cons .here (.cons .here .nil)))) ?_;exact bZ ⟨decide (0≤Lib.index (eG o.oct x) (eG o.oct y)),K3,pv,s⟩ ⟨hle3,vE h64,hpv.mono hle3⟩ (.cons 0 rfl (.cons 4 rfl (.cons 6 rfl (.cons 7 rfl (.cons 9 rfl (.cons 12 rfl (.cons 41 rfl (.cons 42 rfl (.cons 43 rfl (.cons 47 rfl (.cons 48 rfl (.cons 49 rfl .nil)))))))))))) rfl (fun _ h=>h))
            |(refine gB fun K5 le5 hK5=>?_;refine dN (dR (m:=m) (hv:=hv) (pv:=v90) (nm:=nm) (s:={s with parts:=x::(glob x y o.oct).getD []})) ?_;refine aO (.cons .here (.cons (.there .here) (.cons (.there .here) (.cons (.there .here) .nil)))) ?_;subst h85;exact bZ ⟨(glob x y o.oct).isSome,K5,v90,{s with parts:=x::(glob x y o.oct).getD []}⟩ ⟨Hl.le_trans (Hl.le_trans hle3 le4) le5,vF h70 g80,hK5⟩ (.cons 0 rfl (.cons 4 rfl (.cons 6 rfl (.cons 7 rfl (.cons 9 rfl (.cons 12 rfl (.cons 41 rfl (.cons 42 rfl (.cons 43 rfl (.cons 47 rfl (.cons 48 rfl (.cons 49 rfl .nil)))))))))))) rfl (fun _ h=>h))
            |(refine dN (dR (m:=m) (hv:=hv) (pv:=pv) (nm:=nm) (s:=s)) ?_;refine aO (.cons .here (.cons (.there .here) (.cons (.there .here) (.cons (.there .here) .nil)))) ?_;exact bZ ⟨(glob x y o.oct).isSome,K4,pv,s⟩ ⟨Hl.le_trans hle3 le4,by first|exact zY h70 g80|(subst h85;exact zZ h70),hpv.mono (Hl.le_trans hle3 le4)⟩ (.cons 0 rfl (.cons 4 rfl (.cons 6 rfl (.cons 7 rfl (.cons 9 rfl (.cons 12 rfl (.cons 41 rfl (.cons 42 rfl (.cons 43 rfl (.cons 47 rfl (.cons 48 rfl (.cons 49 rfl .nil)))))))))))) rfl (fun _ h=>h))
          ·
           refine uGt ?_
           first
            |(refine aO (.cons (.there .here) (.cons .here (.cons .here (.cons .here .nil)))) ?_;exact bZ ⟨decide (eG o.oct x=eG o.oct y),K3,pv,s⟩ ⟨hle3,zX h55,hpv.mono hle3⟩ (.cons 0 rfl (.cons 4 rfl (.cons 6 rfl (.cons 7 rfl (.cons 9 rfl (.cons 12 rfl (.cons 41 rfl (.cons 42 rfl (.cons 43 rfl (.cons 47 rfl (.cons 48 rfl (.cons 49 rfl .nil)))))))))))) rfl (fun _ h=>h))
            |(refine aO (.cons (.there .here) (.cons .here (.cons .here (.cons .here .nil)))) ?_;exact bZ ⟨decide (0≤Lib.index (eG o.oct x) (eG o.oct y)),K3,pv,s⟩ ⟨hle3,vE h64,hpv.mono hle3⟩ (.cons 0 rfl (.cons 4 rfl (.cons 6 rfl (.cons 7 rfl (.cons 9 rfl (.cons 12 rfl (.cons 41 rfl (.cons 42 rfl (.cons 43 rfl (.cons 47 rfl (.cons 48 rfl (.cons 49 rfl .nil)))))))))))) rfl (fun _ h=>h))
            |(refine gB fun K5 le5 hK5=>?_;refine dN (dR (m:=m) (hv:=hv) (pv:=v90) (nm:=nm) (s:={s with parts:=x::(glob x y o.oct).getD []})) ?_;refine aO (.cons .here (.cons (.there .here) (.cons (.there .here) (.cons (.there .here) .nil)))) ?_;subst h85;exact bZ ⟨(glob x y o.oct).isSome,K5,v90,{s with parts:=x::(glob x y o.oct).getD []}⟩ ⟨Hl.le_trans (Hl.le_trans hle3 le4) le5,vF h70 g80,hK5⟩ (.cons 0 rfl (.cons 4 rfl (.cons 6 rfl (.cons 7 rfl (.cons 9 rfl (.cons 12 rfl (.cons 41 rfl (.cons 42 rfl (.cons 43 rfl (.cons 47 rfl (.cons 48 rfl (.cons 49 rfl .nil)))))))))))) rfl (fun _ h=>h))
            |(refine dN (dR (m:=m) (hv:=hv) (pv:=pv) (nm:=nm) (s:=s)) ?_;refine aO (.cons .here (.cons (.there .here) (.cons (.there .here) (.cons (.there .here) .nil)))) ?_;exact bZ ⟨(glob x y o.oct).isSome,K4,pv,s⟩ ⟨Hl.le_trans hle3 le4,by first|exact zY h70 g80|(subst h85;exact zZ h70),hpv.mono (Hl.le_trans hle3 le4)⟩ (.cons 0 rfl (.cons 4 rfl (.cons 6 rfl (.cons 7 rfl (.cons 9 rfl (.cons 12 rfl (.cons 41 rfl (.cons 42 rfl (.cons 43 rfl (.cons 47 rfl (.cons 48 rfl (.cons 49 rfl .nil)))))))))))) rfl (fun _ h=>h))
         ·
          refine uBu ?_;refine aG (aE ?_);refine uBf ?_;refine aN ?_
          first
           |(refine aO (.cons (.there .here) (.cons .here (.cons .here (.cons .here .nil)))) ?_;exact bZ ⟨decide (eG o.oct x=eG o.oct y),K3,pv,s⟩ ⟨hle3,zX h55,hpv.mono hle3⟩ (.cons 0 rfl (.cons 4 rfl (.cons 6 rfl (.cons 7 rfl (.cons 9 rfl (.cons 12 rfl (.cons 41 rfl (.cons 42 rfl (.cons 43 rfl (.cons 47 rfl (.cons 48 rfl (.cons 49 rfl .nil)))))))))))) rfl (fun _ h=>h))
           |(refine aO (.cons (.there .here) (.cons .here (.cons .here (.cons .here .nil)))) ?_;exact bZ ⟨decide (0≤Lib.index (eG o.oct x) (eG o.oct y)),K3,pv,s⟩ ⟨hle3,vE h64,hpv.mono hle3⟩ (.cons 0 rfl (.cons 4 rfl (.cons 6 rfl (.cons 7 rfl (.cons 9 rfl (.cons 12 rfl (.cons 41 rfl (.cons 42 rfl (.cons 43 rfl (.cons 47 rfl (.cons 48 rfl (.cons 49 rfl .nil)))))))))))) rfl (fun _ h=>h))
           |(refine gB fun K5 le5 hK5=>?_;refine dN (dR (m:=m) (hv:=hv) (pv:=v90) (nm:=nm) (s:={s with parts:=x::(glob x y o.oct).getD []})) ?_;refine aO (.cons .here (.cons (.there .here) (.cons (.there .here) (.cons (.there .here) .nil)))) ?_;subst h85;exact bZ ⟨(glob x y o.oct).isSome,K5,v90,{s with parts:=x::(glob x y o.oct).getD []}⟩ ⟨Hl.le_trans (Hl.le_trans hle3 le4) le5,vF h70 g80,hK5⟩ (.cons 0 rfl (.cons 4 rfl (.cons 6 rfl (.cons 7 rfl (.cons 9 rfl (.cons 12 rfl (.cons 41 rfl (.cons 42 rfl (.cons 43 rfl (.cons 47 rfl (.cons 48 rfl (.cons 49 rfl .nil)))))))))))) rfl (fun _ h=>h))
           |(refine dN (dR (m:=m) (hv:=hv) (pv:=pv) (nm:=nm) (s:=s)) ?_;refine aO (.cons .here (.cons (.there .here) (.cons (.there .here) (.cons (.there .here) .nil)))) ?_;exact bZ ⟨(glob x y o.oct).isSome,K4,pv,s⟩ ⟨Hl.le_trans hle3 le4,by first|exact zY h70 g80|(subst h85;exact zZ h70),hpv.mono (Hl.le_trans hle3 le4)⟩ (.cons 0 rfl (.cons 4 rfl (.cons 6 rfl (.cons 7 rfl (.cons 9 rfl (.cons 12 rfl (.cons 41 rfl (.cons 42 rfl (.cons 43 rfl (.cons 47 rfl (.cons 48 rfl (.cons 49 rfl .nil)))))))))))) rfl (fun _ h=>h))
        ·
         exact absurd (show o.tag=3 by omega) h70
     ·
      intro ⟨ok,K4,pv4,s4⟩ ⟨hle4,hmm,hks4⟩;dsimp only at hle4 hmm hks4 ⊢;refine aH (aB ?_);refine uAa ?_;refine aG (aE ?_);refine eJ 93 rfl (fun h93=>?_) (fun h93=>?_)
      ·
       obtain⟨ps,hvk,hs4⟩:∃ps,gU o x y=some ps∧s4=(if o.tag=3∧nm=true then {s with parts:=x::ps}else s):=(by rcases hmm with ⟨_,h⟩|⟨h,_⟩;exact h;(rw[h93]at h;cases h));have hres:matchI nm m o s=push s4 true:=(by rw[hs4];exact hsome (x::ps) hcc (by rw[←hmall,aB6 hx,←hin,aMQ hy hvk]));refine aH (aB ?_);refine uAa ?_;refine aY rfl rfl (kQ b mb m hv pv4 nm s4 true _) (.cons .here .nil) rfl (fun _ _=>a8 _ _) ?_ ?_
       ·
        rintro _ _ _ hTr le1;obtain⟨e,p,hq,fb,h,rfl⟩:=bA hTr;cases h
        refine uAg ?_;refine uBc ?_;refine aK ?_;refine aR ?_;refine aR ?_;refine aK ?_;refine uBc ?_;refine bJ (Hl.le_trans hle4 le1) ?_;unfold MI;rw[hres,hq];exact⟨fb,rfl,rfl⟩
       rintro _ K _ hTr -;obtain⟨q,hq,rfl,rfl,rfl⟩:=bB hTr;clear hTr;have hqp:=eQ hq;refine aG (aE ?_);refine uCi ?_;refine a7 ?_;refine bS ?_;refine bS ?_;refine a7 ?_;refine a7 ?_;refine bS ?_;refine a7 ?_;refine uAg ?_;refine tK rfl (by first|exact hle4|exact hle2) ?_;unfold MI;rw[hres,hq];exact⟨_,rfl,rfl,pv4,by rw[hqp];exact hks4,rfl⟩
      ·
       obtain⟨hvk,rfl,rfl⟩:gU o x y=none∧s=s4∧pv=pv4:=(by rcases hmm with ⟨h,_⟩|⟨_,h⟩;(rw[h93]at h;cases h);exact h);refine aW ?_;refine aN (aE ?_);refine uDl ?_;refine aO (.cons (.there .here) (.cons .here (.cons .here (.cons .here .nil)))) ?_;exact cQ ⟨j+1,K4⟩ ⟨by (show j+1≤ks.length);omega,hle4,(aQK hy hvk).symm.trans hin⟩ (by (show ks.length - (j+1) < ks.length - j);omega) (.cons 0 rfl (.cons 4 rfl (.cons 6 rfl (.cons 7 rfl (.cons 9 rfl (.cons 41 rfl (.cons 42 rfl (.cons 43 rfl (.cons 47 rfl (.cons 48 rfl (.cons 49 rfl .nil))))))))))) rfl (fun _ h=>h)
    ·
     have hin0:rA o x ks=none:=(by rw[←hin];exact aMP aI);refine uAp ?_;refine aN (aE ?_);refine uDl ?_;exact cQ ⟨i+1,K3⟩ ⟨by (show i+1≤vs.length);omega,hle3,by have h:=aB6 (o:=o) (ks:=ks) hx;rw[hin0]at h;exact h.symm.trans hmall⟩ (by (show vs.length - (i+1) < vs.length - i);omega) (.cons 0 rfl (.cons 4 rfl (.cons 6 rfl (.cons 7 rfl (.cons 41 rfl (.cons 42 rfl (.cons 43 rfl .nil))))))) rfl (fun _ h=>h)
   ·
    have hres:matchI nm m o s=push s false:=hnone hcc (by rw[←hmall];exact aQQ aI);refine uAp ?_;refine aE (aB ?_);refine uAa ?_;refine aY rfl rfl (kQ b mb m hv pv nm s false _) (.cons (.there .here) .nil) rfl (fun _ _=>a8 _ _) ?_ ?_
    ·
     rintro _ _ _ hTr le1;obtain⟨e,p,hq,fb,h,rfl⟩:=bA hTr;cases h
     refine uAg ?_;refine bJ (Hl.le_trans hle2 le1) ?_;unfold MI;rw[hres,hq];exact⟨fb,rfl,rfl⟩
    rintro _ K _ hTr -;obtain⟨q,hq,rfl,rfl,rfl⟩:=bB hTr;clear hTr;have hqp:=eQ hq;refine uIi ?_;refine dD rfl (by first|exact hle4|exact hle2) ?_;unfold MI;rw[hres,hq];exact⟨_,rfl,rfl,pv,by rw[hqp];exact hpv.mono hle2,rfl⟩
  ·
   have hno:=wF (nm:=nm) (m:=m) (s:=s) (o:=o) aI;refine uAc ?_;refine uFc ?_;refine aY rfl rfl (oQ _ _ _ _ _ _ _ _ _ _ _ _ _) (.cons (.there .here) .nil) rfl (by rintro _ _ ⟨_,h,_⟩;cases h) ?_ ?_
   ·
    rintro _ _ _ ⟨fb,h,rfl⟩ le1;cases h
    refine uAr ?_;simp only[MI,hno,if_true,if_false,↓reduceIte];exact⟨fb,rfl,rfl⟩
   ·
    rintro _ _ _ ⟨_,h,_⟩;cases h
 ·
  have hno:=wF (nm:=nm) (m:=m) (s:=s) (o:=o) aI;refine uFc ?_;refine uAa ?_;refine uAc ?_;refine uFc ?_;refine aY rfl rfl (oQ _ _ _ _ _ _ _ _ _ _ _ _ _) (.cons (.there .here) .nil) rfl (by rintro _ _ ⟨_,h,_⟩;cases h) ?_ ?_
  ·
   rintro _ _ _ ⟨fb,h,rfl⟩ le1;cases h
   refine uAr ?_;simp only[MI,hno,if_true,if_false,↓reduceIte];exact⟨fb,rfl,rfl⟩
  ·
   rintro _ _ _ ⟨_,h,_⟩;cases h
end Go.Proofs
end
section
namespace Go.SL
abbrev itr(b:Nat)(l:List UInt8)(p:Nat):Asn:=pt b (.stringIter ⟨l.toArray⟩ p)
abbrev dec(l:List UInt8)(p:Nat):Nat×Nat:=Utf8.decode ⟨l.toArray⟩ p
section
variable{E:Env}{fr:Fr}{K:Hl}{L L':List Asn}{dst:Option Tmp}{ty:TypeId}{pos:String}{aft:Array Edge}{g:Option (Nat×Bool)}{x:Operand}{t:TypeId}{l:List UInt8}{b p:Nat}
theorem aAL(hu:E.P.underlying t=some .string)(hx:fr.ev x=some (str l)):EfS E fr K L ⟨dst,.range t x,ty,pos,aft,g⟩ (fun v K' L'=>∃b,v=ptr b∧K'=K∧L'=itr b l 0::L):=by
 intro a w f i;refine⟨ptr w.heap.size,w.iter ⟨l.toArray⟩ 0,K,itr w.heap.size l 0::L,.inl ?_,⟨_,rfl,rfl,rfl⟩,Hl.le_refl _,i.alloc _⟩
 simp only[execOp,f.ev hx,bind];exact aT (run_range_string w t ⟨l.toArray⟩ hu)
theorem aAJ(hp:p < l.length)(hx:fr.ev x=some (ptr b))(hT:Fnd (itr b l p) (itr b l (p+(dec l p).2)) L L'):
  EfS E fr K L ⟨dst,.next x true,ty,pos,aft,g⟩ (fun v K' L''=>v=.tuple #[.bool true,i64 p,.int .i32 (dec l p).1]∧K'=K∧L''=L'):=by
 intro a w f i;have hb:=i.mem hT;have hp':p < (⟨l.toArray⟩:ByteArray).size:=by simpa[ByteArray.size]using hp
 refine⟨_,w.iterAt b ⟨l.toArray⟩ (p+(dec l p).2),K,L',.inl ?_,⟨rfl,rfl,rfl⟩,Hl.le_refl _,?_⟩
 ·simp only[execOp,f.ev hx,bind];exact aT (Lib.run_next_any_at w b ⟨l.toArray⟩ p ty hb hp')
 ·have hlt:b < w.heap.size:=(Array.getElem?_eq_some_iff.1 hb).1;exact i.writeAt hT (H:=w.heap.setIfInBounds b (.stringIter ⟨l.toArray⟩ (p+(dec l p).2))) (by simp) (by simp[hlt]) (fun y hy=>by rw[Array.getElem?_setIfInBounds_ne (Ne.symm hy)])
theorem aCL(hp:¬p < l.length)(hx:fr.ev x=some (ptr b))(hT:Hs (itr b l p) L):
  EfS E fr K L ⟨dst,.next x true,ty,pos,aft,g⟩ (fun v K' L''=>v=.tuple #[.bool false]∧K'=K∧L''=L):=by
 intro a w f i;have hb:=(Sees.own (K:=K) hT).at i;have hp':¬p < (⟨l.toArray⟩:ByteArray).size:=by simpa[ByteArray.size]using hp
 refine⟨_,w,K,L,.inl ?_,⟨rfl,rfl,rfl⟩,Hl.le_refl _,i⟩
 simp only[execOp,f.ev hx,bind];exact aT (Lib.run_next_end_at w b ⟨l.toArray⟩ p ty hb hp')
end
theorem aO4(l:List UInt8)(p:Nat)(h:p < l.length):(⟨l.toArray⟩:ByteArray).get! p=l[p]:=by
 have h':p < (⟨l.toArray⟩:ByteArray).size:=by simpa[ByteArray.size]using h
 have:=get_at ⟨l.toArray⟩ p h';rw[Nat.add_zero]at this;rw[this];rfl
theorem aWG{l:List UInt8}{p:Nat}{c:UInt8}(hc:l[p]?=some c)(h:c.toNat < 128):dec l p=(c.toNat,1):=by
 have hp:p < l.length:=by
  rcases Nat.lt_or_ge p l.length with h'|h'
  ·exact h'
  ·rw[List.getElem?_eq_none h']at hc;cases hc
 have hcl:l[p]=c:=by rw[List.getElem?_eq_getElem hp]at hc;exact Option.some.inj hc
 have h':p < (⟨l.toArray⟩:ByteArray).size:=by simpa[ByteArray.size]using hp
 have e:(⟨l.toArray⟩:ByteArray)[p]'h'=c:=hcl;have:=decode_ascii ⟨l.toArray⟩ p h' (by rw[e];exact h);rw[e]at this;exact this
theorem aWF{l:List UInt8}{p:Nat}{c:UInt8}(hc:l[p]?=some c)(h:128≤c.toNat):
    128≤(dec l p).1∧(dec l p).1≤2147483647∧1≤(dec l p).2∧p+(dec l p).2≤l.length∧∀j d,p≤j→j < p+(dec l p).2→l[j]?=some d→128≤d.toNat:=by
  have hp:p < l.length:=by
    rcases Nat.lt_or_ge p l.length with h'|h'
    · exact h'
    · rw[List.getElem?_eq_none h']at hc;cases hc
  have hcl:l[p]=c:=by rw[List.getElem?_eq_getElem hp]at hc;exact Option.some.inj hc
  have h':p < (⟨l.toArray⟩:ByteArray).size:=by simpa[ByteArray.size]using hp
  have hsz:(⟨l.toArray⟩:ByteArray).size=l.length:=by simp[ByteArray.size]
  have e:(⟨l.toArray⟩:ByteArray)[p]'h'=c:=hcl;have h1:=decode_high ⟨l.toArray⟩ p h' (by rw[e];exact h);have h2:=decode_le ⟨l.toArray⟩ p;refine⟨h1.1,h2,h1.2,?_⟩
  have hb0:((⟨l.toArray⟩:ByteArray).get! (p+0)).toNat=c.toNat:=by rw[Nat.add_zero,aO4 l p hp,hcl]
  have cont:∀k,p+k < l.length→((⟨l.toArray⟩:ByteArray).get! (p+k)).toNat / 64=2→∀d,l[p+k]?=some d→128≤d.toNat:=by
    intro k hk hq d hd;rw[aO4 l _ hk]at hq;rw[List.getElem?_eq_getElem hk]at hd;cases hd;omega
  have key:∀n,(∀k,1≤k→k < n→p+k < l.length∧((⟨l.toArray⟩:ByteArray).get! (p+k)).toNat / 64=2)→1≤n→(dec l p).2=n→p+(dec l p).2≤l.length∧∀j d,p≤j→j < p+(dec l p).2→l[j]?=some d→128≤d.toNat:=by
    intro n hk hn he;rw[he];refine⟨?_,fun j d hj hj2 hd=>?_⟩
    · rcases Nat.lt_or_ge 1 n with h3|h3
      · have:=(hk (n - 1) aI aI).1;omega
      · omega
    · rcases Nat.lt_or_ge p j with h3|h3
      · obtain⟨q1,q2⟩:=hk (j - p) aI aI;have ej:p+(j - p)=j:=by omega
        exact cont (j - p) q1 q2 d (by rw[ej];exact hd)
      · have:j=p:=by omega
        subst this;rw[hc]at hd;cases hd;exact h
  have hn:¬(((⟨l.toArray⟩:ByteArray).get! (p+0)).toNat < 128):=by rw[hb0];omega
  have hone:(dec l p).2=1→p+(dec l p).2≤l.length∧∀j d,p≤j→j < p+(dec l p).2→l[j]?=some d→128≤d.toNat:=key 1 (fun k h1 h2=>by omega) (Nat.le_refl _);obtain⟨D,hD⟩:∃D,D=Utf8.decode ⟨l.toArray⟩ p:=⟨_,rfl⟩;have hD2:dec l p=D:=hD.symm;rw[hD2]at key hone ⊢;have unf:=hD;simp only[Utf8.decode,hn,if_false]at unf;split at unf
  · rename_i hq;simp only[Bool.and_eq_true,beq_iff_eq,decide_eq_true_eq,hsz]at hq;split at unf
    · exact key 2 (fun k k1 k2=>by obtain rfl:k=1:=by omega
                                     exact hq.2) aI (by rw[unf])
    · exact hone (by rw[unf])
  · split at unf
    · rename_i hq;simp only[Bool.and_eq_true,beq_iff_eq,decide_eq_true_eq,hsz]at hq;split at unf
      · exact key 3 (fun k k1 k2=>by
          rcases(show k=1∨k=2 by omega)with rfl|rfl
          · exact hq.1.2
          · exact hq.2) aI (by rw[unf])
      · exact hone (by rw[unf])
    · split at unf
      · rename_i hq;simp only[Bool.and_eq_true,beq_iff_eq,decide_eq_true_eq,hsz]at hq;split at unf
        · exact key 4 (fun k k1 k2=>by
            rcases(show k=1∨k=2∨k=3 by omega)with rfl|rfl|rfl
            · exact hq.1.1.2
            · exact hq.1.2
            · exact hq.2) aI (by rw[unf])
        · exact hone (by rw[unf])
      · exact hone (by rw[unf])
section
variable{E:Env}{fr:Fr}{K:Hl}{L:List Asn}{L':Nat→List Asn}{dst:Option Tmp}{ty:TypeId}{pos:String}{aft:Array Edge}{g:Option (Nat×Bool)}{x:Operand}{t t2:TypeId}{l:List UInt8}{b p:Nat}{c:UInt8}
theorem nP{α:Type}{l:List α}{p:Nat}{c:α}(hc:l[p]?=some c):p < l.length:=by
 rcases Nat.lt_or_ge p l.length with h'|h'
 ·exact h'
 ·rw[List.getElem?_eq_none h']at hc;cases hc
theorem aG9(hc:l[p]?=some c)(h:c.toNat < 128)(hx:fr.ev x=some (ptr b))(hT:∀n,Fnd (itr b l p) (itr b l (p+n)) L (L' n)):
  EfS E fr K L ⟨dst,.next x true,ty,pos,aft,g⟩ (fun v K' L''=>v=.tuple #[.bool true,i64 p,.int .i32 c.toNat]∧K'=K∧L''=L' 1):=by
 intro a w f i;have hd:=aWG hc h;have:=aAJ (dst:=dst) (ty:=ty) (pos:=pos) (aft:=aft) (g:=g) (nP hc) hx (hT (dec l p).2) a w f i;rw[hd]at this;exact this
theorem aRQ(hc:l[p]?=some c)(h:128≤c.toNat)(hx:fr.ev x=some (ptr b))(hT:∀n,Fnd (itr b l p) (itr b l (p+n)) L (L' n)):
  EfS E fr K L ⟨dst,.next x true,ty,pos,aft,g⟩ (fun v K' L''=>∃r n:Nat,v=.tuple #[.bool true,i64 p,.int .i32 r]∧K'=K∧L''=L' n∧128≤r∧r≤2147483647∧1≤n∧p+n≤l.length∧∀j d,p≤j→j < p+n→l[j]?=some d→128≤d.toNat):=by
 intro a w f i;obtain⟨d1,d2,d3,d4,d5⟩:=aWF hc h;obtain⟨u,w',K',L'',hr,⟨hv,hK,hL⟩,le,j⟩:=aAJ (dst:=dst) (ty:=ty) (pos:=pos) (aft:=aft) (g:=g) (nP hc) hx (hT (dec l p).2) a w f i;exact⟨u,w',K',L'',hr,⟨_,_,hv,hK,hL,d1,d2,d3,d4,d5⟩,le,j⟩
def mY(r:Int):List UInt8:=(Utf8.encode r).data.toList
theorem aD1{k':IntKind}{r:Int}(hs:E.P.underlying t=some (.int k'))(hd:E.P.underlying t2=some .string)(hx:fr.ev x=some (.int .i32 r)):
  Ev E fr K L ⟨dst,.convert t t2 x,ty,pos,aft,g⟩ (str (mY r)):=fun a w f j=>by
 simp only[execOp,f.ev hx];refine d9 ?_;unfold convert;rw[aT (run_underlying hs w),aT (run_underlying hd w)]
 show Result.ok (Value.string (Utf8.encode _)) w=_
 simp[mY]
theorem aRO(r:Int)(h:128≤r):2≤(mY r).length∧(mY r).length≤4∧∃c,(mY r)[(mY r).length - 1]?=some c∧128≤c.toNat:=by
 unfold mY Utf8.encode;have hc:128≤(if Utf8.valid r then r.toNat else Utf8.runeError):=by
  split
  ·omega
  ·decide
 generalize (if Utf8.valid r then r.toNat else Utf8.runeError)=c at hc
 have hb:∀n:Nat,128≤(UInt8.ofNat (0x80+n % 64)).toNat:=by
  intro n;simp;omega
 simp only[if_neg (show ¬c < 0x80 by omega)];split
 ·exact⟨by simp,by simp,_,rfl,hb _⟩
 ·split
  ·exact⟨by simp,by simp,_,rfl,hb _⟩
  ·exact⟨by simp,by simp,_,rfl,hb _⟩
end
end Go.SL
end
section
namespace Go.Proofs
open Go Go.SL Go.Syn Go.Mach
theorem aVF{cs:List UInt8}(hcs:∀c∈cs,c.toNat < 128){i:Nat}(h:i < cs.length):∃c,cs[i]?=some c∧c.toNat < 128:=⟨_,List.getElem?_eq_getElem h,hcs _ (List.getElem_mem h)⟩
theorem aYA{cs:List UInt8}(hcs:∀c∈cs,c.toNat < 128){c:UInt8}(h:128≤c.toNat)(k:Nat):Lib.indexByte (cs.drop k) c= -1:=by
 have h1:=Lib.indexByte_ge (cs.drop k) c
 by_cases hc:Lib.indexByte (cs.drop k) c= -1
 ·exact hc
 ·obtain⟨h2,_⟩:=Lib.indexByte_some (l:=cs.drop k) (c:=c) (o:=(Lib.indexByte (cs.drop k) c).toNat) aI;rw[List.getElem?_drop]at h2;have:=hcs _ (List.mem_of_getElem? h2);omega
theorem aI1(s:List UInt8)(c:UInt8)(K:Hl):Sp Tryz.prog 308 [str s,.int .u8 c.toNat] K [] (Val (i64 (Lib.indexByte s c)) K):=by
 refine kR ⟨_,Tryz.func308,rfl,rfl⟩ fun w hw=>?_
 have:=Tryz.strings_IndexByte ⟨s.toArray⟩ c.toNat w;have e:((c.toNat:Int).toNat).toUInt8=c:=by simp
 rw[e]at this;exact this
theorem aG8(cs:List UInt8)(c:UInt8)(hc:c.toNat < 128)(K:Hl):Sp Tryz.prog 289 [str cs,.int .i32 c.toNat] K [] (Val (i64 (Lib.indexByte cs c)) K):=by
 refine kR ⟨_,Tryz.func289,rfl,rfl⟩ fun w hw=>?_
 have:=Tryz.strings_IndexRune_ascii ⟨cs.toArray⟩ c.toNat w aI aI;have e:((c.toNat:Int).toNat).toUInt8=c:=by simp
 rw[e]at this;exact this
theorem aJV(r:Int)(K:Hl):Sp Tryz.prog 322 [.int .i32 r] K [] (Val (.bool (Lib.validRune r)) K):=
 kR ⟨_,Tryz.func322,rfl,rfl⟩ fun w hw=>Tryz.utf8_ValidRune r w
theorem aG7(cs:List UInt8)(hcs:∀c∈cs,c.toNat < 128)(hl:2≤cs.length)(r:Int)(h1:128≤r)(K:Hl):Sp Tryz.prog 289 [str cs,.int .i32 r] K [] (Ret fun v K' L'=>v=i64 (-1)∧K'=K∧L'=[]):=by
 obtain⟨q1,q2,cl,q3,q4⟩:=aRO r h1;refine aZ Tryz.func289 rfl Tryz.ntmps289 rfl rfl fun F w=>?_
 refine aH (aB ?_);refine uAb ?_;refine aG (aE ?_);refine bE (aH ?_);refine uAf ?_;refine uEu ?_;refine uAa ?_;refine cG 163 rfl (fun g163=>?_) (fun g163=>?_)
 ·
  refine uAi ?_;refine uBn ?_;refine uDx ?_;refine aG (aE ?_);refine bK 160 rfl (fun h160=>?_) (fun h160=>?_)
  ·
   exact absurd h160 aI
  ·
   refine aH (aB ?_);refine uAa ?_;refine uCe ?_;refine aG (aE ?_);refine bK 171 rfl (fun h171=>?_) (fun h171=>?_)
   ·
    refine aH (aH ?_);refine uAf ?_;refine ol_s (aAL Tryz.underlying9 rfl) rfl ?_;rintro _ K _ ⟨b175,rfl,rfl,rfl⟩ -;refine aG (aE ?_);refine bE ?_;refine eR (fun(i:Nat)=>i≤cs.length) (fun i=>[(0,str cs),(1,.int .i32 r),(175,ptr b175)]) (fun _=>K) (fun i=>[itr b175 cs i]) (fun i=>cs.length - i) 0 (Nat.zero_le _) (.cons 0 rfl (.cons 1 rfl (.cons 175 rfl .nil))) rfl (fun _ h=>h) ?_;intro i hi0;rcases Nat.lt_or_ge i cs.length with hi|hi
    ·
     obtain⟨c,hc,hlo⟩:=aVF hcs hi;refine aH (aB ?_);refine ol_s (aG9 (L':=fun n=>[itr b175 cs (i+n)]) hc hlo rfl (fun _=>.here)) rfl ?_;rintro _ K _ ⟨rfl,rfl,rfl⟩ -;refine uGy ?_;refine aG (aE ?_);refine aH ?_;refine uGg ?_;refine aW ?_;refine aE (bE ?_);refine aH (aB ?_);refine uAh ?_;refine uAw ?_;refine aG (aE ?_);refine aH (aB ?_);refine uAa ?_;refine uAq ?_;refine aG (aE ?_);refine bK 181 rfl (fun h181=>?_) (fun h181=>?_)
     ·
      exact absurd h181 aI
     ·
      refine uGt ?_;exact cQ (i+1) aI aI (.cons 0 rfl (.cons 1 rfl (.cons 175 rfl .nil))) rfl (fun _ h=>h)
    ·
     have hn:¬i < cs.length:=aI;refine aH (aB ?_);refine ol_s (aCL hn rfl .here) rfl ?_;rintro _ K _ ⟨rfl,rfl,rfl⟩ -;refine uGy ?_;refine aG (aE ?_);refine aH ?_;refine uHs ?_;refine uAp ?_;refine aE (aH ?_);refine uFt ?_;refine aG (aE ?_);refine bI ?_;refine bS ?_;refine aO .nil ?_;refine bF rfl rfl (Hl.le_refl _) ?_;exact⟨_,rfl,rfl,rfl,rfl⟩
   ·
    refine aH (aB ?_);refine uAa ?_;refine cA rfl rfl (aJV r _) rfl ?_;refine aA (by first|exact dP rfl|exact dO rfl) rfl ?_;refine uAb ?_;refine aG (aE ?_)
    first|refine bK 183 rfl (fun h183=>?_) (fun h183=>?_)|refine eJ 183 rfl (fun h183=>?_) (fun h183=>?_)
    ·
     refine aH (aB ?_);refine uAb ?_;refine aG (aE ?_);refine bI ?_;refine bS ?_;refine aO .nil ?_;refine bF rfl rfl (Hl.le_refl _) ?_;exact⟨_,rfl,rfl,rfl,rfl⟩
    ·
     refine aEY ?_;refine aH (aB ?_);refine uAa ?_;refine aA (aD1 Tryz.underlying21 Tryz.underlying9 rfl) rfl ?_;refine uAb ?_;refine aG (aE ?_);refine aH (aB ?_);refine uAa ?_;refine uBs ?_;refine aA (nB rfl rfl aI aI) rfl ?_;refine uAb ?_;refine aG (aE ?_);refine aH (aB ?_);refine uEl ?_;refine aG (aE ?_);refine aH (aB ?_);refine uAb ?_;refine aG (aE ?_);refine aH (bE ?_);refine eR (fun(u:Unit)=>True) (fun _=>[(0,str cs),(7,str (mY r)),(8,i64 ((mY r).length - 1)),(9,i64 ((mY r).length - 1))]) (fun _=>K) (fun _=>[]) (fun _=>0) () trivial (.cons 0 rfl (.cons 7 rfl (.cons 8 rfl (.cons 9 rfl .nil)))) rfl (fun _ h=>h) ?_;intro _ _;refine aH (aH ?_);refine uCf ?_;refine uBs ?_;refine uBn ?_;refine aG (aE ?_);refine bK 26 rfl (fun h26=>?_) (fun h26=>?_)
     ·
      obtain⟨c,hc,hlo⟩:=aVF hcs (i:=(mY r).length - 1) aI;refine aW ?_;refine aE (bE ?_);refine aEY ?_;refine aH (aH ?_);refine t_draw (anc:=[0,0,3,0,0,24,63]) (ord:=[0,1,2,3,4,5,6]) [] [] mixed (by decide+kernel) (cS _) ?_;refine uGi ?_;refine dl_ev rfl rfl (.none rfl) rfl rfl (dJ (j:=(mY r).length - 1) Tryz.underlying9 rfl rfl aI hc) rfl ?_;refine uGi ?_;refine dl_ev rfl rfl (.none rfl) rfl rfl (dJ (j:=(mY r).length - 1) Tryz.underlying9 rfl rfl aI q3) rfl ?_;refine dl_ev rfl rfl (.none rfl) rfl rfl (gE rfl rfl) rfl ?_;refine uDg ?_;refine bK 33 rfl (fun h33=>?_) (fun h33=>?_)
      ·
       refine aH ?_;refine t_draw (anc:=[0,0,2,7,0,0,48,127,255]) (ord:=[0,1,2,3,4,5,6,7,8]) [7] [] mixed (by decide+kernel) (cS _) ?_;refine uGi ?_;refine uCq ?_;refine dl_ev rfl rfl (.none rfl) rfl rfl (iG (m:=(mY r).length) Tryz.underlying9 rfl rfl aI aI) rfl ?_;refine uGi ?_;refine dl_ev rfl rfl (.none rfl) rfl rfl (dJ (j:=(mY r).length - 1) Tryz.underlying9 rfl rfl aI q3) rfl ?_;refine dl_callv rfl (.none rfl) rfl rfl rfl rfl (aI1 (cs.drop (mY r).length) cl _) rfl ?_;refine uGp ?_;refine aE (aH ?_);refine aH (aB ?_);refine uAa ?_;refine uBn ?_;refine aG (aE ?_);refine bK 43 rfl (fun h43=>?_) (fun h43=>?_)
       ·
        refine aH (aB ?_);refine uAb ?_;refine aG (aE ?_);refine uCk ?_;refine a7 ?_;refine mS ?_;refine uGl ?_;refine a7 ?_;refine mS ?_;refine bS ?_;refine aO .nil ?_;refine bF rfl rfl (Hl.le_refl _) ?_;exact⟨_,rfl,rfl,rfl,rfl⟩
       ·
        exact absurd (show Lib.indexByte (cs.drop (mY r).length) cl < 0 by rw[aYA hcs q4];omega) h43
      ·
       exact absurd (show ¬((c.toNat:Int)=cl.toNat) by omega) h33
     ·
      refine uAp ?_;refine aE (aH ?_);refine aH (aB ?_);refine uAb ?_;refine aG (aE ?_);refine uCk ?_;refine mS ?_;refine bS ?_;refine aO .nil ?_;refine bF rfl rfl (Hl.le_refl _) ?_;exact⟨_,rfl,rfl,rfl,rfl⟩
 ·
  exact absurd (show (0:Int)≤r by omega) g163
theorem xC(cs:List UInt8)(hcs:∀c∈cs,c.toNat < 128)(hl:2≤cs.length)(s:List UInt8)(h8:s.length≤8)(K:Hl):Sp Tryz.prog 221 [str s,str cs] K [] (Ret fun v K' L'=>∃n:Int,v=i64 n∧(0≤n↔(s.any fun c=>cs.contains c)=true)∧K'=K∧L'=[]):=by
 have husc:∀(n:Int) (K:Hl),Sp Tryz.prog 290 [i64 n] K [] (Val (.bool (decide (8 < n))) K):=fun n K=>kR ⟨_,Tryz.func290,rfl,rfl⟩ fun w hw=>Tryz.strings_shouldUseASCIISet n w
 refine aZ Tryz.func221 rfl Tryz.ntmps221 rfl rfl fun F w=>?_
 refine aH (aB ?_);refine uAb ?_;refine aG (aE ?_);refine aH (aH ?_);refine uAf ?_;refine uIn ?_;refine aG (aE ?_);refine bK 12 rfl (fun h12=>?_) (fun h12=>?_)
 ·
  exact absurd h12 (by rintro rfl;simp at hl)
 ·
  refine aW ?_;refine aE (aH ?_);refine aH (aB ?_);refine uAa ?_;refine uBs ?_;refine uAq ?_;refine aG (aE ?_);refine bK 15 rfl (fun h15=>?_) (fun h15=>?_)
  ·
   exact absurd h15 aI
  ·
   refine aW ?_;refine aE (aH ?_);refine aH (aB ?_);refine uAa ?_;refine uBs ?_;refine cA rfl rfl (husc _ _) rfl ?_;refine aG (aE ?_);refine bK 26 rfl (fun h26=>?_) (fun h26=>?_)
   ·
    exact absurd h26 aI
   ·
    refine aW ?_;refine aE (aH ?_);refine aH (aB ?_);refine uAa ?_;refine ol_s (aAL Tryz.underlying9 rfl) rfl ?_;rintro _ K _ ⟨b45,rfl,rfl,rfl⟩ -;refine aG (aE ?_);refine bE ?_;refine eR (fun(i:Nat)=>i≤s.length∧∀j d,j < i→s[j]?=some d→cs.contains d=false) (fun i=>[(0,str s),(1,str cs),(45,ptr b45)]) (fun _=>K) (fun i=>[itr b45 s i]) (fun i=>s.length - i) 0 ⟨Nat.zero_le _,fun j d h _=>by omega⟩ (.cons 0 rfl (.cons 1 rfl (.cons 45 rfl .nil))) rfl (fun _ h=>h) ?_;intro i ⟨hi0,hno⟩;rcases Nat.lt_or_ge i s.length with hi|hi
    ·
     obtain⟨c,hc⟩:∃c,s[i]?=some c:=⟨s[i]'hi,List.getElem?_eq_getElem hi⟩;rcases Nat.lt_or_ge c.toNat 128 with hlo|hhi
     ·
      refine aH (aB ?_);refine ol_s (aG9 (L':=fun n=>[itr b45 s (i+n)]) hc hlo rfl (fun _=>.here)) rfl ?_;rintro _ K _ ⟨rfl,rfl,rfl⟩ -;refine uGy ?_;refine aG (aE ?_);refine aH ?_;refine uGg ?_;refine aW ?_;refine aE (bE ?_);refine aH (aB ?_);refine uAh ?_;refine uAw ?_;refine aG (aE ?_);refine aH (aB ?_);refine uAx ?_;refine cA rfl rfl (aG8 cs c hlo _) rfl ?_;refine uEn ?_;refine aG (aE ?_);refine bK 53 rfl (fun h53=>?_) (fun h53=>?_)
      ·
       have hbl:cs.contains c=true:=(by rw[Lib.contains_iff_indexByte];exact decide_eq_true h53);refine aH (aB ?_);refine uEl ?_;refine aG (aE ?_);refine uCi ?_;refine bS ?_;refine a7 ?_;refine aO .nil ?_;refine bF rfl rfl (Hl.le_refl _) ?_
       first
        |exact⟨_,rfl,-1,rfl,⟨fun h=>by omega,fun h=>by rw[hall]at h;cases h⟩,rfl,rfl⟩
        |exact⟨_,rfl,i,rfl,⟨fun _=>List.any_eq_true.2 ⟨c,List.mem_of_getElem? hc,hbl⟩,fun _=>by omega⟩,rfl,rfl⟩
      ·
       have hbl:cs.contains c=false:=(by rw[Lib.contains_iff_indexByte];exact decide_eq_false h53);refine uGt ?_
       first
        |(exact cQ (i+1) ⟨by omega,fun j d hj hd=>by rcases Nat.lt_or_ge j i with h|h;exact hno j d h hd;(obtain rfl:j=i:=by omega);rw[hc]at hd;cases hd;exact hbl⟩ aI (.cons 0 rfl (.cons 1 rfl (.cons 45 rfl .nil))) rfl (fun _ h=>h))
        |(exact cQ (i+n) ⟨h4,fun j d hj hd=>by rcases Nat.lt_or_ge j i with h|h;exact hno j d h hd;(have:=h5 j d h hj hd);cases hbd:cs.contains d with|false=>rfl|true=>exact absurd (hcs _ (List.contains_iff_mem.1 hbd)) aI⟩ aI (.cons 0 rfl (.cons 1 rfl (.cons 45 rfl .nil))) rfl (fun _ h=>h))
     ·
      refine aH (aB ?_);refine ol_s (aRQ (L':=fun n=>[itr b45 s (i+n)]) hc hhi rfl (fun _=>.here)) rfl ?_;rintro _ K _ ⟨r,n,rfl,rfl,rfl,h1,h2,h3,h4,h5⟩ -;refine uGy ?_;refine aG (aE ?_);refine aH ?_;refine uGg ?_;refine aW ?_;refine aE (bE ?_);refine aH (aB ?_);refine uAh ?_;refine uAw ?_;refine aG (aE ?_);refine aH (aB ?_);refine uAx ?_;refine bC rfl rfl (aG7 cs hcs hl r aI _) .nil rfl ?_;rintro _ K _ ⟨rfl,rfl,rfl⟩ -;refine uEn ?_;refine aG (aE ?_);refine bK 53 rfl (fun h53=>?_) (fun h53=>?_)
      ·
       exact absurd h53 aI
      ·
       refine uGt ?_
       first
        |(exact cQ (i+1) ⟨by omega,fun j d hj hd=>by rcases Nat.lt_or_ge j i with h|h;exact hno j d h hd;(obtain rfl:j=i:=by omega);rw[hc]at hd;cases hd;exact hbl⟩ aI (.cons 0 rfl (.cons 1 rfl (.cons 45 rfl .nil))) rfl (fun _ h=>h))
        |(exact cQ (i+n) ⟨h4,fun j d hj hd=>by rcases Nat.lt_or_ge j i with h|h;exact hno j d h hd;(have:=h5 j d h hj hd);cases hbd:cs.contains d with|false=>rfl|true=>exact absurd (hcs _ (List.contains_iff_mem.1 hbd)) aI⟩ aI (.cons 0 rfl (.cons 1 rfl (.cons 45 rfl .nil))) rfl (fun _ h=>h))
    ·
     have hn:¬i < s.length:=aI;have hall:(s.any fun c=>cs.contains c)=false:=(by rw[List.any_eq_false];intro x hx;obtain⟨j,hj⟩:=List.getElem?_of_mem hx;have:=hno j x (by have:=nP hj;omega) hj;simpa using this);refine aH (aB ?_);refine ol_s (aCL hn rfl .here) rfl ?_;rintro _ K _ ⟨rfl,rfl,rfl⟩ -;refine uGy ?_;refine aG (aE ?_);refine aH ?_;refine uHs ?_;refine uAp ?_;refine aE (aH ?_);refine uFt ?_;refine aG (aE ?_);refine uCy ?_;refine bF rfl rfl (Hl.le_refl _) ?_
     first
      |exact⟨_,rfl,-1,rfl,⟨fun h=>by omega,fun h=>by rw[hall]at h;cases h⟩,rfl,rfl⟩
      |exact⟨_,rfl,i,rfl,⟨fun _=>List.any_eq_true.2 ⟨c,List.mem_of_getElem? hc,hbl⟩,fun _=>by omega⟩,rfl,rfl⟩
theorem aDN(cs:List UInt8)(hcs:∀c∈cs,c.toNat < 128)(hl:2≤cs.length)(s:List UInt8)(h8:s.length≤8)(K:Hl):Sp Tryz.prog 127 [str s,str cs] K [] (Val (.bool (s.any fun c=>cs.contains c)) K):=by
 refine aZ Tryz.func127 rfl Tryz.ntmps127 rfl rfl fun F w=>?_
 refine aH (aB ?_);refine uAb ?_;refine aG (aE ?_);refine aH (aB ?_);refine uAx ?_;refine bC rfl rfl (xC cs hcs hl s h8 _) .nil rfl ?_;rintro _ K _ ⟨n,rfl,hn,rfl,rfl⟩ -;refine uEn ?_;refine uAb ?_;refine aG (aE ?_);refine uCy ?_;refine bF rfl rfl (Hl.le_refl _) ?_;refine retB ?_ _
 rw[Bool.eq_iff_iff,←hn];simp
end Go.Proofs
end
section
namespace Go.Mach
open Go.Syn
theorem aWO(s:aM):s.findIdx? (fun x=>decide (x=64))=if Lib.indexByte s 64 < 0 then none else some (Lib.indexByte s 64).toNat:=by
 split
 ·rename_i h;have h1:=Lib.indexByte_ge s 64;have h2:=Lib.indexByte_none (l:=s) (c:=64) aI;rw[List.findIdx?_eq_none_iff];intro x hx;obtain⟨k,hk⟩:=List.getElem?_of_mem hx;have:=h2 k;rw[hk]at this
  simpa using this
 ·rename_i h;obtain⟨h1,h2⟩:=Lib.indexByte_some (l:=s) (c:=64) (o:=(Lib.indexByte s 64).toNat) aI;rw[List.findIdx?_eq_some_iff_getElem];have hlt:(Lib.indexByte s 64).toNat < s.length:=by
   rcases Nat.lt_or_ge (Lib.indexByte s 64).toNat s.length with h'|h'
   ·exact h'
   ·rw[List.getElem?_eq_none h']at h1;cases h1
  rw[List.getElem?_eq_getElem hlt]at h1;refine⟨hlt,by simpa using h1,fun j hj=>?_⟩
  have:=h2 j hj;rw[List.getElem?_eq_getElem aI]at this
  simpa using this
theorem aXX(s:aM):(s.any fun c=>decide (c=64))=decide (0≤Lib.index s [64]):=by
 rw[Lib.index_one];have h1:=Lib.indexByte_ge s 64
 by_cases h:Lib.indexByte s 64 < 0
 ·have h2:=Lib.indexByte_none (l:=s) (c:=64) aI;rw[decide_eq_false aI,List.any_eq_false];intro x hx;obtain⟨k,hk⟩:=List.getElem?_of_mem hx;have:=h2 k;rw[hk]at this
  simpa using this
 ·obtain⟨h1,h2⟩:=Lib.indexByte_some (l:=s) (c:=64) (o:=(Lib.indexByte s 64).toNat) aI;rw[decide_eq_true aI,List.any_eq_true];exact⟨64,List.mem_of_getElem? h1,by simp⟩
def ad(s:aM):Bool:=(Lib.cut s [64]).2.2&&(decide ((Lib.cut s [64]).1≠[])&&(decide ((Lib.cut s [64]).2.1≠[])&&(!(s.any iY)&&(!(decide (0≤Lib.index (Lib.cut s [64]).2.1 [64]))&&decide (s.length≤32)))))
theorem jZ(s:aM):jY s=ad s:=by
 unfold jY ad Lib.cut;rw[aWO,Lib.index_one]
 by_cases h:Lib.indexByte s 64 < 0
 ·rw[if_pos h,if_neg aI];rfl
 ·rw[if_neg h,if_pos aI];simp only[aXX,List.length_singleton,Bool.true_and,Bool.and_assoc]
theorem aBR(c:UInt8):iY c=[32,9,13,10].contains c:=by
 unfold iY;rw[Bool.eq_iff_iff];simp only[decide_eq_true_eq,List.contains_iff_mem,List.mem_cons,List.not_mem_nil,or_false]
 constructor
 ·rintro(h|h|h|h)
  ·left;exact UInt8.toNat_inj.1 h
  ·right;left;exact UInt8.toNat_inj.1 h
  ·right;right;left;exact UInt8.toNat_inj.1 h
  ·right;right;right;exact UInt8.toNat_inj.1 h
 ·rintro(h|h|h|h) <;> subst h <;> decide
theorem q8:∀s:aM,decide (0≤Lib.indexAny s [32,9,13,10])=s.any iY
 | []=>rfl
 |b::l=>by
  have ih:=q8 l;have hg:=Lib.indexAny_ge [32,9,13,10] l;rw[Lib.indexAny,List.any_cons,aBR,←ih];cases h:[32,9,13,10].contains b with
  |true=>simp
  |false=>
   simp only[Bool.false_eq_true,if_false,Bool.false_or];split
   ·rename_i h2;have:=beq_iff_eq.1 h2;rw[this]
   ·rename_i h2;have h3:Lib.indexAny l [32,9,13,10]≠ -1:=fun e=>h2 (by rw[e];rfl)
    rw[decide_eq_true aI,decide_eq_true aI]
end Go.Mach
end
section
namespace Go.Proofs
open Go Go.SL Go.Syn Go.Mach
def ws:List UInt8:=[32,9,13,10]
theorem aZW{i:Nat}(h:i < 4):∃c,ws[i]?=some c∧c.toNat < 128:=by
 rcases(show i=0∨i=1∨i=2∨i=3 by omega)with rfl|rfl|rfl|rfl
 ·exact⟨32,rfl,by decide⟩
 ·exact⟨9,rfl,by decide⟩
 ·exact⟨13,rfl,by decide⟩
 ·exact⟨10,rfl,by decide⟩
theorem aI0(s:List UInt8)(h8:s.length≤8)(K:Hl):Sp Tryz.prog 221 [str s,str ws] K [] (Ret fun v K' L'=>∃n:Int,v=i64 n∧(0≤n↔s.any iY=true)∧K'=K∧L'=[]):=by
 have e:(fun c=>ws.contains c)=iY:=by funext c;rw[aBR];rfl
 have:=xC ws (by decide) (by decide) s h8 K;rw[e]at this;exact this
theorem aMO(s:List UInt8)(hs:s.length≤1000000)(K:Hl):Sp Tryz.prog 221 [str s,str ws] K [] (Ret fun v K' L'=>∃n:Int,v=i64 n∧(0≤n↔s.any iY=true)∧K'=K∧L'=[]):=by
 rcases Nat.lt_or_ge 8 s.length with h8|h8
 ·have h116:(Tryz.prog.info? 415).map (fun i=>(i.zero,i.size))=some (some (.agg (Array.replicate 256 (.bool false))),256):=by kernel_rfl
  refine(kY (v:=i64 (Lib.indexAny s ws)) ⟨_,Tryz.func221,rfl,rfl⟩ fun w hw=>?_).mono ?_
  ·refine(Tryz.strings_IndexAny_long (zero_of_info h116).1 ⟨s.toArray⟩ ⟨ws.toArray⟩ w (by decide) (by simpa[ByteArray.size]using h8) (by simp[ByteArray.size];omega) (by decide) ?_).mono fun e w' ⟨he,hw'⟩=>⟨he,?_⟩
   ·intro j b hj;have hlt:j < 4:=nP (l:=ws) hj;obtain⟨c,hc,hc2⟩:=aZW hlt;have hj':ws[j]?=some b:=hj;rw[hc]at hj';cases hj';exact hc2
   ·rw[hw'];exact((RowKit.Below.refl _ _).alloc (Nat.le_refl _) _).alloc (by simp) _
  ·rintro e K' L' ⟨rfl,rfl,rfl⟩;have:=q8 s;exact⟨_,rfl,_,rfl,by rw[←this];exact decide_eq_true_iff.symm,rfl,rfl⟩
 ·exact aI0 s h8 K
theorem aLY(s:List UInt8)(hs:s.length≤1000000)(K:Hl):Sp Tryz.prog 127 [str s,str ws] K [] (Val (.bool (s.any iY)) K):=by
 refine aZ Tryz.func127 rfl Tryz.ntmps127 rfl rfl fun F w=>?_
 refine aH (aB ?_);refine uAb ?_;refine aG (aE ?_);refine aH (aB ?_);refine uAx ?_;refine bC rfl rfl (aMO s hs _) .nil rfl ?_;rintro _ K _ ⟨n,rfl,hn,rfl,rfl⟩ -;refine uEn ?_;refine uAb ?_;refine aG (aE ?_);refine uCy ?_;refine bF rfl rfl (Hl.le_refl _) ?_;refine retB ?_ _
 rw[Bool.eq_iff_iff,←hn];simp
theorem aNT(s sep:List UInt8)(K:Hl)(hg:Glob K)(hs:s.length < 4294967281):Sp Tryz.prog 228 [str s,str sep] K [] (Val (.tuple #[str (Lib.cut s sep).1,str (Lib.cut s sep).2.1,.bool (Lib.cut s sep).2.2]) K):=by
 refine kY ⟨_,Tryz.func228,rfl,rfl⟩ fun w hw=>?_
 obtain⟨m,T,fz,hm⟩:=hg.maxLen;refine(Tryz.strings_Cut ⟨s.toArray⟩ ⟨sep.toArray⟩ m w (by simpa[ByteArray.size]using hs) (mM (hw _ _ hm) rfl)).mono fun e w' ⟨he,n,hw'⟩=>⟨he,?_⟩
 rw[hw'];exact⟨rfl,rfl,rfl,Nat.le_refl _,fun _ _=>rfl⟩
theorem aTG(s sep:List UInt8):(Lib.cut s sep).2.1.length≤s.length:=by
 unfold Lib.cut;split
 ·simp
 ·simp
theorem yT(s:List UInt8)(K:Hl)(hg:Glob K)(hs:s.length≤100000):Sp Tryz.prog 256 [str s] K [] (Val (.bool (jY s)) K):=by
 have hcl:=aTG s [64];refine aZ Tryz.func256 rfl Tryz.ntmps256 rfl rfl fun F w=>?_
 refine aH (aB ?_);refine uAb ?_;refine aG (aE ?_);refine aH (aB ?_);refine uAa ?_;refine cA rfl rfl (aNT s [64] _ hg aI) rfl ?_;refine uBw ?_;refine aG (aE ?_);refine aH (aB ?_);refine uAx ?_;refine mW 13 rfl (fun g13=>?_) (fun g13=>?_)
 ·
  refine uAi ?_;refine aA (o2 rfl rfl) rfl ?_;refine uFq ?_;refine cG 17 rfl (fun g17=>?_) (fun g17=>?_)
  ·
   refine uAi ?_;refine aA (o2 rfl rfl) rfl ?_;refine uFq ?_;refine cG 21 rfl (fun g21=>?_) (fun g21=>?_)
   ·
    refine uAi ?_;refine cA rfl rfl (aLY s aI _) rfl ?_;refine uAz ?_;refine aA (by first|exact dP rfl|exact dO rfl) rfl ?_;refine uFq ?_;refine mW 26 rfl (fun g26=>?_) (fun g26=>?_)
    ·
     refine uAi ?_;refine cA rfl rfl (uQ (Lib.cut s [64]).2.1 [64] _ hg aI) rfl ?_;refine uAz ?_;refine aA (by first|exact dP rfl|exact dO rfl) rfl ?_;refine uFq ?_;refine mW 31 rfl (fun g31=>?_) (fun g31=>?_)
     ·
      refine uAi ?_;refine uBs ?_;refine uAz ?_;refine uEu ?_;refine uDx ?_;refine aG (aE ?_);refine uCy ?_;refine bF rfl rfl (Hl.le_refl _) ?_;refine retB ?_ _
      rw[jZ];unfold ad;have hd32:decide ((s.length:Int)≤32)=decide (s.length≤32):=(by rw[decide_eq_decide];omega)
      generalize s.any iY=xb at*
      by_cases hix:0≤Lib.index (Lib.cut s [64]).2.1 [64]
      ·simp_all
      ·simp_all
     ·
      refine uFc ?_;refine uAb ?_;refine aG (aE ?_);refine uCy ?_;refine bF rfl rfl (Hl.le_refl _) ?_;refine retB ?_ _
      rw[jZ];unfold ad;have hd32:decide ((s.length:Int)≤32)=decide (s.length≤32):=(by rw[decide_eq_decide];omega)
      generalize s.any iY=xb at*
      by_cases hix:0≤Lib.index (Lib.cut s [64]).2.1 [64]
      ·simp_all
      ·simp_all
    ·
     refine uDp ?_;refine uAb ?_;refine aG (aE ?_);refine uCy ?_;refine bF rfl rfl (Hl.le_refl _) ?_;refine retB ?_ _
     rw[jZ];unfold ad;have hd32:decide ((s.length:Int)≤32)=decide (s.length≤32):=(by rw[decide_eq_decide];omega)
     generalize s.any iY=xb at*
     by_cases hix:0≤Lib.index (Lib.cut s [64]).2.1 [64]
     ·simp_all
     ·simp_all
   ·
    refine uDp ?_;refine uAa ?_;refine uFc ?_;refine uAb ?_;refine aG (aE ?_);refine uCy ?_;refine bF rfl rfl (Hl.le_refl _) ?_;refine retB ?_ _
    rw[jZ];unfold ad;have hd32:decide ((s.length:Int)≤32)=decide (s.length≤32):=(by rw[decide_eq_decide];omega)
    generalize s.any iY=xb at*
    by_cases hix:0≤Lib.index (Lib.cut s [64]).2.1 [64]
    ·simp_all
    ·simp_all
  ·
   refine uGq ?_;refine uAa ?_;refine uDp ?_;refine uAa ?_;refine uFc ?_;refine uAb ?_;refine aG (aE ?_);refine uCy ?_;refine bF rfl rfl (Hl.le_refl _) ?_;refine retB ?_ _
   rw[jZ];unfold ad;have hd32:decide ((s.length:Int)≤32)=decide (s.length≤32):=(by rw[decide_eq_decide];omega)
   generalize s.any iY=xb at*
   by_cases hix:0≤Lib.index (Lib.cut s [64]).2.1 [64]
   ·simp_all
   ·simp_all
 ·
  refine uGq ?_;refine uAa ?_;refine uGq ?_;refine uAa ?_;refine uDp ?_;refine uAa ?_;refine uFc ?_;refine uAb ?_;refine aG (aE ?_);refine uCy ?_;refine bF rfl rfl (Hl.le_refl _) ?_;refine retB ?_ _
  rw[jZ];unfold ad;have hd32:decide ((s.length:Int)≤32)=decide (s.length≤32):=(by rw[decide_eq_decide];omega)
  generalize s.any iY=xb at*
  by_cases hix:0≤Lib.index (Lib.cut s [64]).2.1 [64]
  ·simp_all
  ·simp_all
end Go.Proofs
end
section
namespace Go.Proofs
open Go Go.SL Go.Syn Go.Mach
structure MsgOk (m:Msg):Prop where
 hn:m.hs.length≤1000000
 hs:∀h∈m.hs,h.1.length≤100000∧h.2.length≤100000
 from_:m.from_.length≤100000
 to_:m.to_.length≤100000
structure InsOk (o:Ins):Prop where
 an:o.a.length≤1000000
 bn:o.b.length≤1000000
 a:∀x∈o.a,x.length≤100000
 b:∀x∈o.b,x.length≤100000
structure MInv (s:MS):Prop where
 stack:s.stack.length≤8
 acts:s.acts.length≤6
 vars:∀name,(vget s.vars name).length≤100000
 parts:∀x∈s.parts,x.length≤100000
theorem MInv.small{s:MS}(h:MInv s):o1 s.vars s.parts:=by
 intro name;unfold held;split
 ·split
  ·rename_i c _;simp only[];cases hp:s.parts[c.toNat - 48]? with
   |none=>simp
   |some x=>exact h.parts x (List.mem_of_getElem? hp)
  ·exact h.vars _
 ·exact h.vars _
theorem MInv.start:MInv Mach.start:=⟨by simp[Mach.start],by simp[Mach.start],fun _=>by simp[Mach.start,vget],by simp[Mach.start]⟩
theorem aDE(k v name:aM):∀vars:List (aM×aM),vget (vput vars k v) name=if k=name then v else vget vars name
 | []=>by unfold vput vget;rfl
 |(j,u)::r=>by
  unfold vput
  by_cases h:j=k
  ·rw[if_pos h];subst h
   unfold vget;split <;> rfl
  ·rw[if_neg h];unfold vget;rw[aDE k v name r]
   by_cases h2:j=name
   ·rw[if_pos h2,if_pos h2,if_neg (fun e=>h (by rw[h2,e]))]
   ·rw[if_neg h2,if_neg h2]
theorem MInv.push{s t:MS}{b:Bool}(h:MInv s)(hp:Mach.push s b=.ok t):MInv t:=by
 unfold Mach.push at hp;split at hp
 ·cases hp;exact⟨by simp;omega,h.acts,h.vars,h.parts⟩
 ·cases hp
theorem MInv.pop{s:MS}{r:Bool×MS}(h:MInv s)(hp:Mach.pop s=.ok r):MInv r.2:=by
 unfold Mach.pop at hp;split at hp
 ·cases hp;exact⟨by have:=h.stack;simp;omega,h.acts,h.vars,h.parts⟩
 ·cases hp
theorem MInv.jump{s t:MS}{by_:Int}{n:Nat}{yes:Bool}(h:MInv s)(hp:Mach.jump s by_ n yes=.ok t):MInv t:=by
 unfold Mach.jump at hp;split at hp
 ·cases hp;split
  ·exact⟨h.stack,h.acts,h.vars,h.parts⟩
  ·exact h
 ·cases hp
theorem aGA(w v k:aM):∀f i j ps,g9 w v k f i j=some ps→∀x∈ps,x.length≤w.length:=by
 have one:∀e i,((w.take e).drop i).length≤w.length:=by intro e i;simp;omega
 intro f;induction f with
 |zero=>intro i j ps h;cases h
 |succ f ih=>
  intro i j ps h;have cons:∀e i' j' q,g9 w v k f i' j'=q→q.map (fun ps=>((w.take e).drop i)::ps)=some ps→∀x∈ps,x.length≤w.length:=by
   intro e i' j' q hq hm;cases q with
   |none=>cases hm
   |some r=>
    cases hm
    intro x hx;rcases List.mem_cons.1 hx with rfl|hx
    ·exact one _ _
    ·exact ih _ _ _ hq x hx
  unfold g9 at h;split at h
  ·split at h
   ·cases h;intro x hx;cases hx
   ·cases h
  ·split at h
   ·have key:∀n e,kA (fun e=>(g9 w v k f e (j+1)).map fun ps=>((w.take e).drop i)::ps) n e=some ps→∀x∈ps,x.length≤w.length:=by
     intro n;induction n with
     |zero=>intro e h;cases h
     |succ n ihn=>
      intro e h;unfold kA at h;split at h
      ·rename_i x hx;cases h
       exact cons _ _ _ _ rfl hx
      ·exact ihn _ h
    exact key _ _ h
   ·split at h
    ·cases h
    ·split at h
     ·exact cons _ _ _ _ rfl h
     ·split at h
      ·split at h
       ·exact ih _ _ _ h
       ·cases h
      ·split at h
       ·exact ih _ _ _ h
       ·cases h
theorem q6{α β:Type}{f:α→Option β}{y:β}:∀ {l:List α},o3 f l=some y→∃x∈l,f x=some y
 | [],h=>by cases h
 |x::l,h=>by
  unfold o3 at h;split at h
  ·rename_i z hz;cases h;exact⟨x,by simp,hz⟩
  ·obtain⟨w,hw,hf⟩:=q6 h;exact⟨w,by simp[hw],hf⟩
theorem aBM{o:Ins}{x y:aM}{ps:List aM}(h:gU o x y=some ps):∀z∈ps,z.length≤x.length:=by
 unfold gU at h;split at h
 ·split at h
  ·cases h;intro z hz;cases hz
  ·cases h
 ·split at h
  ·split at h
   ·cases h;intro z hz;cases hz
   ·cases h
  ·exact aGA _ _ _ _ _ _ _ h
theorem zV{o:Ins}{vs ks ps:List aM}{n:Nat}(hv:∀x∈vs,x.length≤n)(h:jB o vs ks=some ps):∀z∈ps,z.length≤n:=by
 obtain⟨v,hv1,h1⟩:=q6 h;obtain⟨k,hk1,h2⟩:=q6 h1;cases hq:gU o v k with
 |none=>rw[hq]at h2;cases h2
 |some q=>
  rw[hq]at h2;cases h2
  intro z hz;rcases List.mem_cons.1 hz with rfl|hz
  ·exact hv _ hv1
  ·exact Nat.le_trans (aBM hq z hz) (hv _ hv1)
theorem aDD{nm:Bool}{vars:List (aM×aM)}{parts:List aM}{m:Msg}{o:Ins}(hm:MsgOk m)(ho:InsOk o):∀x∈gF (dF nm vars parts) m o,x.length≤100000:=by
 intro x hx;unfold gF at hx;split at hx
 ·obtain⟨y,hy,rfl⟩:=List.mem_map.1 hx;exact iX (ho.a y hy)
 ·split at hx
  ·obtain⟨y,_,hy⟩:=List.mem_flatMap.1 hx;unfold fW at hy;obtain⟨h,hh,rfl⟩:=List.mem_map.1 hy;exact(hm.hs h (List.mem_filter.1 hh).1).2
  ·split at hx
   ·obtain⟨y,_,hy⟩:=List.mem_flatMap.1 hx;unfold oK at hy;split at hy
    ·rw[List.mem_singleton]at hy;subst hy;exact hm.from_
    ·split at hy
     ·rw[List.mem_singleton]at hy;subst hy;exact hm.to_
     ·cases hy
   ·cases hx
theorem MInv.matchI{nm:Bool}{m:Msg}{o:Ins}{s t:MS}(h:MInv s)(hm:MsgOk m)(ho:InsOk o)(hp:Mach.matchI nm m o s=.ok t):MInv t:=by
 unfold Mach.matchI at hp;split at hp
 ·simp only[]at hp;split at hp
  ·rename_i ps hps;refine MInv.push ?_ hp
   split
   ·exact⟨h.stack,h.acts,h.vars,zV (aDD hm ho) hps⟩
   ·exact h
  ·exact h.push hp
 ·cases hp
theorem MInv.setI{nm:Bool}{o:Ins}{s t:MS}(h:MInv s)(hp:Mach.setI nm o s=.ok t):MInv t:=by
 unfold Mach.setI at hp;split at hp
 ·split at hp
  ·cases hp
   refine⟨h.stack,h.acts,fun name=>?_,h.parts⟩
   simp only[aDE];split
   ·simp;omega
   ·exact h.vars name
  ·cases hp
 ·cases hp
theorem MInv.actI{nm:Bool}{o:Ins}{s t:MS}(h:MInv s)(hp:Mach.actI nm o s=.ok t):MInv t:=by
 unfold Mach.actI at hp;split at hp
 ·simp only[]at hp;split at hp
  ·cases hp
  split at hp
  ·cases hp
  split at hp
  ·cases hp;exact⟨h.stack,h.acts,h.vars,h.parts⟩
  split at hp
  ·cases hp
  split at hp
  ·cases hp
  ·cases hp;exact⟨h.stack,by have:=h.acts;simp;omega,h.vars,h.parts⟩
 ·cases hp
theorem MInv.step{nm:Bool}{m:Msg}{n:Nat}{o:Ins}{s t:MS}(hi:MInv s)(hm:MsgOk m)(ho:InsOk o)(h:Mach.step nm m n o s=.ok t):MInv t:=by
 unfold Mach.step at h
 by_cases h0:o.op=1
 ·rw[if_pos h0]at h;split at h
  ·exact hi.push h
  ·cases h
 rw[if_neg h0]at h
 by_cases h1:o.op=2
 ·rw[if_pos h1]at h;split at h
  ·cases h
  ·rename_i r hr;exact(hi.pop hr).push h
 rw[if_neg h1]at h
 by_cases h2:o.op=3
 ·rw[if_pos h2]at h;exact hi.jump h
 rw[if_neg h2]at h
 by_cases h3:o.op=4
 ·rw[if_pos h3]at h;split at h
  ·cases h
  ·rename_i r hr;exact(hi.pop hr).jump h
 rw[if_neg h3]at h
 by_cases h4:o.op=5
 ·rw[if_pos h4]at h;split at h
  ·cases h
  ·rename_i r hr;exact(hi.pop hr).jump h
 rw[if_neg h4]at h
 by_cases h5:o.op=6∨o.op=7∨o.op=8
 ·rw[if_pos h5]at h;exact hi.matchI hm ho h
 rw[if_neg h5]at h
 by_cases h6:o.op=9
 ·rw[if_pos h6]at h;exact hi.push h
 rw[if_neg h6]at h
 by_cases h7:o.op=10
 ·rw[if_pos h7]at h;split at h
  ·exact hi.push h
  ·cases h
 rw[if_neg h7]at h
 by_cases h8:o.op=11
 ·rw[if_pos h8]at h;exact hi.actI h
 rw[if_neg h8]at h
 by_cases h9:o.op=12
 ·rw[if_pos h9]at h;exact hi.setI h
 rw[if_neg h9]at h
 by_cases h10:o.op=13
 ·rw[if_pos h10]at h;cases h;exact⟨hi.stack,hi.acts,hi.vars,hi.parts⟩
 rw[if_neg h10]at h;cases h
def fnOf(op:Int):Nat:=if op=1 then 141 else if op=2 then 143 else if op=3 then 145 else if op=4 then 147 else if op=5 then 148 else if op=9 then 150 else if op=10 then 152 else if op=11 then 153 else if op=12 then 154 else if op=13 then 155 else 149
theorem aJM(b mb:Nat)(m:Msg)(hv pv:Value)(nm:Bool)(s:MS)(o:Ins)(av bv:Value)(n:Nat)(K:Hl)(hop:1≤o.op∧o.op≤13)(hg:Glob K)(hpv:Ksl (bT 9) K pv s.parts)(ha:Ksl (bT 9) K av o.a)(hb:Ksl (bT 9) K bv o.b)(hh:Ksl hdEl K hv m.hs)(hm:MsgOk m)(ho:InsOk o)(hs:MInv s)(hp:s.pc < 1000)(hn:n < 1000):
  Sp Tryz.prog (fnOf o.op) [ptr b,l4 o av bv,i64 n] K [mch b mb m hv pv nm s] (MI b mb m hv nm (Mach.step nm m n o s)):=by
 have hst:s.stack.length≤100:=by have:=hs.stack;omega
 have hhs:∀h∈m.hs,h.1.length≤1000000:=fun h hh=>by have:=(hm.hs h hh).1;omega
 have hvl:∀x∈gF (dF nm s.vars s.parts) m o,x.length≤1000000:=fun x hx=>by have:=aDD hm ho x hx;omega
 unfold fnOf Mach.step
 by_cases h1:o.op=1
 ·rw[if_pos h1,if_pos h1];exact aPW b mb m hv pv nm s o av bv n K hpv ha hb
 rw[if_neg h1,if_neg h1]
 by_cases h2:o.op=2
 ·rw[if_pos h2,if_pos h2];exact aPX b mb m hv pv nm s o av bv n K hpv ha hb hp hn hst
 rw[if_neg h2,if_neg h2]
 by_cases h3:o.op=3
 ·rw[if_pos h3,if_pos h3];exact aPY b mb m hv pv nm s o av bv n K hpv ha hb hp hn hst
 rw[if_neg h3,if_neg h3]
 by_cases h4:o.op=4
 ·rw[if_pos h4,if_pos h4];exact aPZ b mb m hv pv nm s o av bv n K hpv ha hb hp hn hst
 rw[if_neg h4,if_neg h4]
 by_cases h5:o.op=5
 ·rw[if_pos h5,if_pos h5];exact aP0 b mb m hv pv nm s o av bv n K hpv ha hb hp hn hst
 rw[if_neg h5,if_neg h5]
 by_cases h9:o.op=9
 ·rw[if_pos h9,if_neg aI,if_pos h9];exact aP1 b mb m hv pv nm s o av bv n K hg hpv ha hb hh hm.hn hhs ho.an ho.a hs.small
 rw[if_neg h9]
 by_cases h10:o.op=10
 ·rw[if_pos h10,if_neg aI,if_neg h9,if_pos h10];exact aP2 b mb m hv pv nm s o av bv n K hpv ha hb
 rw[if_neg h10]
 by_cases h11:o.op=11
 ·rw[if_pos h11,if_neg aI,if_neg h9,if_neg h10,if_pos h11];exact aLR b mb m hv pv nm s o av bv n K hg hpv ha hb ho.a hs.small hs.acts (fun x K hg hx=>yT x K hg hx)
 rw[if_neg h11]
 by_cases h12:o.op=12
 ·rw[if_pos h12,if_neg aI,if_neg h9,if_neg h10,if_neg h11,if_pos h12];exact aNY b mb m hv pv nm s o av bv n K hg hpv ha hb ho.b hs.small
 rw[if_neg h12]
 by_cases h13:o.op=13
 ·rw[if_pos h13,if_neg aI,if_neg h9,if_neg h10,if_neg h11,if_neg h12,if_pos h13];exact aP3 b mb m hv pv nm s o av bv n K hpv ha hb
 rw[if_neg h13,if_pos aI];exact aGL b mb m hv pv nm s o av bv n K hg hpv ha hb hh hm.hn hhs ho.an ho.a ho.bn ho.b hs.small hvl
def aBX:List Cell:=⟨.nilFunc,rfl⟩::([1,2,3,4,5,6,7,8,9,10,11,12,13].map fun op=>(⟨.func (.func (fnOf op)) #[] #[],rfl⟩:Cell))++[⟨.nilFunc,rfl⟩]
theorem aYI:∀k:Fin 13,([1,2,3,4,5,6,7,8,9,10,11,12,13]:List Int)[k.1]?=some ((k.1:Int)+1):=by decide
theorem aP4{op:Int}(h:1≤op∧op≤13):aBX[op.toNat]?=some ⟨.func (.func (fnOf op)) #[] #[],rfl⟩:=by
 obtain⟨n,hn⟩:∃n:Nat,op.toNat=n+1:=⟨op.toNat - 1,by omega⟩;have hlt:n < 13:=by omega
 have h2:=aYI ⟨n,hlt⟩;simp only at h2;have e:(n:Int)+1=op:=by omega
 rw[e]at h2;unfold aBX;rw[hn,List.cons_append,List.getElem?_cons_succ,List.getElem?_append_left (by simpa using hlt),List.getElem?_map,h2]
 rfl
theorem aII(K:Hl):Sp Tryz.prog 91 [] K [] (Ret fun v K' L'=>Ksl (eD 184) K' v aBX∧L'=[]):=by
 refine aZ Tryz.func91 rfl Tryz.ntmps91 rfl rfl fun F w=>?_
 refine aH (aB ?_);refine uAb ?_;refine aG (aE ?_);refine aH (aB ?_);refine ol_s (bN (z0:=[.nilFunc,.nilFunc,.nilFunc,.nilFunc,.nilFunc,.nilFunc,.nilFunc,.nilFunc,.nilFunc,.nilFunc,.nilFunc,.nilFunc,.nilFunc,.nilFunc,.nilFunc]) xS aZL rfl rfl rfl rfl (.cons rfl rfl rfl (.skip (.cons .nil)) (.cons rfl rfl rfl (.skip (.skip (.cons .nil))) (.cons rfl rfl rfl (.skip (.skip (.skip (.cons .nil)))) (.cons rfl rfl rfl (.skip (.skip (.skip (.skip (.cons .nil))))) (.cons rfl rfl rfl (.skip (.skip (.skip (.skip (.skip (.cons .nil)))))) (.cons rfl rfl rfl (.skip (.skip (.skip (.skip (.skip (.skip (.cons .nil))))))) (.cons rfl rfl rfl (.skip (.skip (.skip (.skip (.skip (.skip (.skip (.cons .nil)))))))) (.cons rfl rfl rfl (.skip (.skip (.skip (.skip (.skip (.skip (.skip (.skip (.cons .nil))))))))) (.cons rfl rfl rfl (.skip (.skip (.skip (.skip (.skip (.skip (.skip (.skip (.skip (.cons .nil)))))))))) (.cons rfl rfl rfl (.skip (.skip (.skip (.skip (.skip (.skip (.skip (.skip (.skip (.skip (.cons .nil))))))))))) (.cons rfl rfl rfl (.skip (.skip (.skip (.skip (.skip (.skip (.skip (.skip (.skip (.skip (.skip (.cons .nil)))))))))))) (.cons rfl rfl rfl (.skip (.skip (.skip (.skip (.skip (.skip (.skip (.skip (.skip (.skip (.skip (.skip (.cons .nil))))))))))))) (.cons rfl rfl rfl (.skip (.skip (.skip (.skip (.skip (.skip (.skip (.skip (.skip (.skip (.skip (.skip (.skip (.cons .nil)))))))))))))) (.cons rfl rfl rfl (.skip (.skip (.skip (.skip (.skip (.skip (.skip (.skip (.skip (.skip (.skip (.skip (.skip (.skip (.cons .nil))))))))))))))) .nil))))))))))))))) rfl ?_;rintro _ K _ ⟨b1,rfl,rfl,rfl⟩ -;refine uAb ?_;refine aG (aE ?_);refine bI ?_;refine gI fun KS leS hS=>?_
 refine bF rfl rfl leS ?_;exact⟨_,rfl,.inr ⟨b1,0,15,_,_,rfl,⟨_,hS⟩,rfl⟩,rfl⟩
end Go.Proofs
end
section
namespace Go.Proofs
open Go Go.SL Go.Syn Go.Mach Go.Cmp
theorem aRM(b6 b8:Nat)(K:Hl):SpD Tryz.prog 89 [ptr b6,ptr b8] K [] .returning fun e u' K' L'=>u'=.returning∧(e=.returned (.tuple #[])∧K'=K∧L'=[]):=by
 refine aEU (rv:=.nilIface) (u':=.returning) Tryz.func89 rfl Tryz.ntmps89 rfl rfl rfl rfl tC fun F w=>?_
 refine aH (aB ?_);refine uAa ?_;refine aA (gL Tryz.underlying20 rfl) rfl ?_;refine aG (aE ?_);refine uBf ?_;refine dD rfl (Hl.le_refl _) ?_;exact⟨rfl,rfl,rfl⟩
theorem aRL(b6 b8 fb:Nat)(v1 v2:Value)(K:Hl):SpD Tryz.prog 89 [ptr b6,ptr b8] K [pt b8 (aU [v2] 79),pt b6 (aU [v1] 29)] (.panicking [{v:=.iface 118 (ptr fb),recovered:=false}])
  fun e u' K' L'=>u'=.panicking [{v:=.iface 118 (ptr fb),recovered:=true}]∧(e=.returned (.tuple #[])∧K'=K∧∃bk,L'=[pt b8 (aU [.iface 118 (ptr fb)] 79),pt b6 (aU [.slice (some ⟨bk,0,none⟩) 1 1] 29),pt bk (aU [i64 1,str []] 34)]):=by
 refine aEU (rv:=.iface 118 (ptr fb)) (u':=.panicking [{v:=.iface 118 (ptr fb),recovered:=true}]) Tryz.func89 rfl Tryz.ntmps89 rfl rfl rfl rfl tB fun F w=>?_
 refine aH (aB ?_);refine uAa ?_;refine aA (iF Tryz.underlying20 rfl rfl) rfl ?_;refine aG (aE ?_);refine uGg ?_;refine aH (aB ?_);refine uAa ?_;refine aA (fE Tryz.underlying118 (fun _ h=>by cases h) rfl) rfl ?_;refine uBy ?_;refine aG (aE ?_);refine aH (aH ?_);refine uAf ?_;refine aA (by first|exact dP rfl|exact dO rfl) rfl ?_;refine aG (aE ?_);refine uBf ?_;refine aE (aB ?_);refine uFl ?_;refine ol_s (bN (z0:=[.int .i64 0,(str [])]) iS tz34 rfl rfl rfl rfl (.cons rfl rfl rfl (.cons (.cons .nil)) .nil)) rfl ?_;rintro _ K _ ⟨b17,rfl,rfl,rfl⟩ -;refine uAa ?_;refine aA (cL Tryz.underlying118 (fun _ h=>by cases h) rfl) rfl ?_;refine bP (bH ts29 rfl rfl cD aX .zero rfl) ?_;rintro _ K _ ⟨rfl,rfl⟩ -;refine uEo ?_;rintro _ K _ ⟨rfl,rfl⟩ -;refine aG ?_;refine aO (.cons (.there .here) (.cons (.there .here) (.cons .here .nil))) ?_;refine dD rfl (Hl.le_refl _) ?_;exact⟨rfl,rfl,b17,rfl⟩
def ErrP(e:Option (Int×Int))(ev:Value)(M:List Asn):Prop:=match e with
 |none=>ev=.nilIface∧M=[]
 |some (e,p)=>∃fb,ev=.iface 118 (ptr fb)∧M=[pt fb (aU [i64 e,i64 p] 123)]
def RunR(out:Out):Ending→Hl→List Asn→Prop:=Ret fun v K' L'=>∃av ev M,v=.tuple #[av,i64 out.steps,ev]∧L'=sl true cY av out.acts::M∧ErrP out.err ev M
theorem aRS{α:Type}{k:El α}{b:Nat}{xs:List α}{n:Nat}{M:List Asn}(hx:xs≠[])(hn:n=xs.length):∀h,Sat (pt b (aU (k.cs xs) k.e)::M) h→Sat (sl true k (.slice (some ⟨b,0,none⟩) n n) xs::M) h:=by
 subst hn;rintro h ⟨a,l,ha,hl,hd,rfl⟩;refine⟨a,l,.inr ⟨b,xs.length,[],(0,0),rfl,fun _=>hx,Nat.le_refl _,by simp,.inl (Nat.le_refl _),?_⟩,hl,hd,rfl⟩
 rw[List.append_nil];exact ha
theorem yF{n:Nat}{w:World}{F K0 K:Hl}{fr:Fr}{b6 b8 fb:Nat}{v1 v2:Value}{e p x:Int}{out:Out}{st:Nat}(g6:fr.get 6=some (ptr b6))(g7:fr.get 7=some (i64 x))(g8:fr.get 8=some (ptr b8))(le:K0.le K)(ho:out=⟨[(1,[])],st,some (e,p)⟩)(hx:x=st):
  D ⟨Tryz.prog,n,[dfr 89 #[ptr b6,ptr b8]],w,F⟩ (.panic [{v:=.iface 118 (ptr fb),recovered:=false}]) fr K [pt fb (aU [i64 e,i64 p] 123),pt b8 (aU [v2] 79),pt b6 (aU [v1] 29)] (w9 Tryz.prog Tryz.f54 w F K0 (RunR out)):=by
 subst ho;subst hx
 refine aPO (.pan _) rfl ts29 ts79 g6 g7 g8 (.cons (.there .here) (.cons (.there .here) .nil)) (aRL b6 b8 fb v1 v2 K) rfl ?_;rintro _ _ _ ⟨rfl,rfl,bk,rfl⟩;refine⟨⟨_,rfl⟩,fun le2=>⟨_,_,[sl true cY (.slice (some ⟨bk,0,none⟩) 1 1) [(1,[])],pt fb (aU [i64 e,i64 p] 123)],fun h hh=>?_,⟨_,rfl,_,_,_,rfl,rfl,fb,rfl,rfl⟩,le⟩⟩
 exact eH (dU (fun h hh=>dU (fun h hh=>aRS (k:=cY) (xs:=[(1,[])]) (by simp) rfl h hh) hh) hh)
theorem iM{n:Nat}{w:World}{F K0 K:Hl}{fr:Fr}{b6 b8:Nat}{av:Value}{out:Out}{x:Int}{st:Nat}{acts:List Action}(g6:fr.get 6=some (ptr b6))(g7:fr.get 7=some (i64 x))(g8:fr.get 8=some (ptr b8))(le:K0.le K)(ho:out=⟨acts,st,none⟩)(hx:x=st):
  D ⟨Tryz.prog,n,[dfr 89 #[ptr b6,ptr b8]],w,F⟩ .ret fr K [pt b6 (aU [av] 29),pt b8 (aU [.nilIface] 79),sl true cY av acts] (w9 Tryz.prog Tryz.f54 w F K0 (RunR out)):=by
 subst ho;subst hx
 refine aPO .ret rfl ts29 ts79 g6 g7 g8 .nil (aRM b6 b8 K) rfl ?_;rintro _ _ _ ⟨rfl,rfl,rfl⟩;exact⟨⟨_,rfl⟩,fun le2=>⟨_,_,[sl true cY av acts],fun h hh=>hh,⟨_,rfl,_,_,_,rfl,rfl,rfl,rfl⟩,le⟩⟩
theorem aM0{b mb:Nat}{m:Msg}{hv:Value}{nm:Bool}{L:List Asn}:∀h,Sat (pt b (aU [str m.from_,str m.to_,i64 m.size,hv,.slice none 0 0,.bool true,.bool nm,.map (some mb),.slice none 0 0,.slice none 0 0,i64 0] 178)::pt mb (mapO [] 0)::L) h→Sat (mch b mb m hv (.slice none 0 0) nm Mach.start::L) h:=by
 intro h hh;refine dR (av:=.slice none 0 0) (sv:=.slice none 0 0) (f:=fun _=>0) (c:=0) (s:=Mach.start) h ?_;exact dU (fun h hh=>tZ (tZ hh)) hh
theorem aMV{nm:Bool}{m:Msg}{code:List Ins}{f st:Nat}{s:MS}(h:code.length≤s.pc):Mach.loop nm m code (f+1) st s=⟨if s.keep=true then s.acts++[(1,[])]else s.acts,st,none⟩:=by
 rw[Mach.loop,List.getElem?_eq_none h]
theorem aMW{nm:Bool}{m:Msg}{code:List Ins}{f st:Nat}{s:MS}{o:Ins}(h:code[s.pc]?=some o)(ho:o.op=14):Mach.loop nm m code (f+1) st s=⟨if s.keep=true then s.acts++[(1,[])]else s.acts,st+1,none⟩:=by
 rw[Mach.loop,h];simp only[if_pos ho]
theorem zU{nm:Bool}{m:Msg}{code:List Ins}{f st:Nat}{s:MS}{o:Ins}{e:Int×Int}(h:code[s.pc]?=some o)(ho:¬o.op=14)(hs:Mach.step nm m code.length o s=.error e):Mach.loop nm m code (f+1) st s=⟨[(1,[])],st+1,some e⟩:=by
 rw[Mach.loop,h];simp only[if_neg ho,hs]
theorem yC{nm:Bool}{m:Msg}{code:List Ins}{f st:Nat}{s t:MS}{o:Ins}(h:code[s.pc]?=some o)(ho:¬o.op=14)(hs:Mach.step nm m code.length o s=.ok t):Mach.loop nm m code (f+1) st s=Mach.loop nm m code f (st+1) {t with pc:=t.pc+1}:=by
 rw[Mach.loop,h];simp only[if_neg ho,hs]
theorem aHL{nm:Bool}{m:Msg}{n:Nat}{o:Ins}{s:MS}(h:¬(1≤o.op∧o.op≤13)):Mach.step nm m n o s=.error (12,s.pc):=by
 unfold Mach.step;rw[if_neg aI,if_neg aI,if_neg aI,if_neg aI,if_neg aI,if_neg aI,if_neg aI,if_neg aI,if_neg aI,if_neg aI,if_neg aI]
 rfl
theorem aQU{p:Prop}[Decidable p]{e q pc:Int}(h:(if p then (Except.ok ():Res Unit)else .error (12,pc))=.error (e,q)):¬p∧e=12∧q=pc:=by
 split at h
 ·cases h
 ·rename_i hp;cases h;exact⟨hp,rfl,rfl⟩
structure RI where
 st:Nat
 s:MS
 pv:Value
 K:Hl
theorem aRN(nm:Bool)(cv hv:Value)(vs:List InsV)(code:List Ins)(m:Msg)(K:Hl)(hg:Glob K)(hcv:Ksl gO K cv vs)(hR:RIs K vs code)(hh:Ksl hdEl K hv m.hs)(hm:MsgOk m)(hc:∀o∈code,InsOk o)(hcl:code.length≤1000000):
  Sp Tryz.prog 54 [.bool nm,cv,.agg #[str m.from_,str m.to_,i64 m.size,hv]] K [] (RunR (Mach.run nm code m)):=by
 have hlen:vs.length=code.length:=hR.length;have hdl:aBX.length=15:=rfl;obtain⟨ha,hn,hcp,rfl⟩:=hh.isSlice;obtain⟨ca,cn,ccp,rfl⟩:=hcv.isSlice;refine aHJ Tryz.func54 rfl Tryz.ntmps54 rfl rfl fun F w=>?_
 refine aH (aB ?_);refine uBk ?_;rintro _ K _ ⟨b5,rfl,rfl,rfl⟩ -;refine ol_s (cN tz29) rfl ?_;rintro _ K _ ⟨b6,rfl,rfl,rfl⟩ -;refine uAb ?_;refine ol_s (cN tz79) rfl ?_;rintro _ K _ ⟨b8,rfl,rfl,rfl⟩ -;refine aG (aE ?_);refine aH (aB ?_);refine uEr ?_;refine aA (cP aYV aXG (.cons rfl rfl rfl (.cons (.cons (.cons (.cons .nil)))) (.cons rfl rfl rfl (.skip (.skip (.skip (.skip (.skip (.cons .nil)))))) .nil))) rfl ?_;refine uAa ?_;refine ol_s nQ rfl ?_;rintro _ K _ ⟨b15,rfl,rfl,rfl⟩ -;refine aA (cP aYW aXH (.cons rfl rfl rfl (.cons (.cons (.cons (.cons (.cons (.cons .nil)))))) (.cons rfl rfl rfl (.skip (.skip (.skip (.skip (.skip (.skip (.cons .nil))))))) (.cons rfl rfl rfl (.skip (.skip (.skip (.skip (.skip (.skip (.skip (.cons .nil)))))))) .nil)))) rfl ?_;refine uBk ?_;rintro _ K _ ⟨b17,rfl,rfl,rfl⟩ -;refine uAb ?_;refine aG (aE ?_);refine aH ?_;refine kJ (aM0 (m:=m) (hv:=.slice ha hn hcp) (nm:=nm)) ?_;refine aAT (.cons .here (.cons .here (.cons .here .nil))) ?_;refine aB ?_;refine uGk ?_;refine aGR rfl ?_;refine aG (aE ?_);refine aH (aH ?_);refine uAf ?_;refine aA (cB (k:=gO) rfl Tryz.underlying42 rfl aL) rfl ?_;refine uEt ?_;refine aG (aE ?_);refine bK 21 rfl (fun h21=>?_) (fun h21=>?_)
 ·
  refine uAf ?_;refine aY rfl rfl (iQ _ 12 400 _) .nil rfl (by rintro _ _ ⟨_,h,_⟩;cases h) ?_ ?_
  ·
   rintro _ _ _ ⟨fb,h,rfl⟩ le1;cases h
   refine uEc ?_;refine aK ?_;exact yF rfl rfl rfl bU (by (unfold Mach.run;rw[if_pos aI])) aI
  ·
   rintro _ _ _ ⟨_,h,_⟩;cases h
 ·
  have hc4:code.length≤400:=by omega
  refine aW ?_;refine aE (aH ?_);refine aB ?_;refine bC rfl rfl (aII _) .nil rfl ?_;rintro tv KD _ ⟨hTab,rfl⟩ leD;refine uAb ?_;refine aG (aE ?_);refine aH (bE ?_);refine eR (fun(q:RI)=>KD.le q.K∧Ksl (bT 9) q.K q.pv q.s.parts∧MInv q.s∧q.st≤q.s.pc∧q.s.pc≤code.length∧∃f,code.length≤f+q.s.pc∧Mach.run nm code m=Mach.loop nm m code (f+1) q.st q.s) (fun q=>[(1,.slice ca cn ccp),(6,ptr b6),(7,i64 q.st),(8,ptr b8),(9,ptr b17),(10,tv)]) (fun q=>q.K) (fun q=>[mch b17 b15 m (.slice ha hn hcp) q.pv nm q.s,pt b8 (aU [.nilIface] 79),pt b6 (aU [.slice none 0 0] 29)]) (fun q=>code.length - q.s.pc) ⟨0,Mach.start,.slice none 0 0,KD⟩ ⟨Hl.le_refl _,.inl ⟨none,0,rfl,rfl⟩,MInv.start,Nat.zero_le _,Nat.zero_le _,code.length,by omega,by unfold Mach.run;rw[if_neg aI]⟩ (.cons 1 rfl (.cons 6 rfl (.cons 7 rfl (.cons 8 rfl (.cons 9 rfl (.cons 10 rfl .nil)))))) rfl (fun _ h=>h) ?_;intro ⟨st,s,pv,K1⟩ ⟨hle,hpv,hinv,hst,hpc,f,hf,hx⟩;dsimp only at hle hpv hinv hst hpc hf hx ⊢;have hle0:=Hl.le_trans leD hle;have hcv1:=hcv.mono hle0;have hh1:=hh.mono hle0;have hg1:=hg.mono hle0;have hTab1:=hTab.mono hle;refine qQ fun av sv fv c=>?_
  refine aAS (p:=av.oneCell'=true) (fun h hs=>?_) ?_
  ·obtain⟨_,l,_,hl,_,_⟩:=hs;obtain⟨y,_,hy,_,_,_⟩:=hl;obtain⟨a,n,c,rfl⟩:=aHG y hy;rfl
  intro hav;refine aH (aH ?_);refine uBv ?_;refine uFs ?_;refine uAn ?_;refine uAa ?_;refine aA (cB (k:=gO) rfl Tryz.underlying42 rfl aL) rfl ?_;refine uBn ?_;refine aG (aE ?_);refine bK 31 rfl (fun h31=>?_) (fun h31=>?_)
  ·
   have hilt:s.pc < vs.length:=by omega
   obtain⟨v,hvv⟩:∃v,vs[s.pc]?=some v:=⟨vs[s.pc]'hilt,List.getElem?_eq_getElem hilt⟩;obtain⟨o,ho,hro⟩:=(hR.mono hle0).get hvv;obtain⟨vop,vn,vtag,voct,⟨va,hva⟩,⟨vb,hvb⟩,vat⟩:=v;obtain⟨rfl,rfl,rfl,rfl,rfl,hra,hrb⟩:=hro;dsimp only at hra hrb;obtain⟨sa,sn,sc,rfl⟩:=hra.isSlice;obtain⟨ta,tn,tc,rfl⟩:=hrb.isSlice;have hoo:=hc o (List.mem_of_getElem? ho);refine aW ?_;refine aE (bE ?_);refine aH (aB ?_);refine uAa ?_;refine uCj ?_;refine uAb ?_;refine aG (aE ?_);refine aH (aB ?_);refine uAx ?_;refine uEy ?_;refine uFs ?_;refine uAn ?_;refine aA (b0 (k:=gO) iT rfl aL rfl rfl (by first|assumption|omega)) rfl ?_;refine aA (eE (n:=0) (k:=gO) kE rfl aL bU) rfl ?_;refine ol_s (cN tz41) rfl ?_;rintro _ K _ ⟨b11,rfl,rfl,rfl⟩ -;refine bP (cJ kE rfl rfl rfl aX (by first|(simp[Value.oneCell'];done)|exact fun c hc=>El.one _ _ c hc) (.cons (.cons (.cons (.cons (.cons (.cons (.cons .nil))))))) (by intro j hj;simp)) ?_;rintro _ K _ ⟨rfl,rfl⟩ -;refine aG (aE ?_);refine aH (aH ?_);refine aB ?_;refine aA (aD (o':=0) jX rfl rfl) rfl ?_;refine uAn ?_;refine uAq ?_;refine aG (aE ?_);refine bK 43 rfl (fun h43=>?_) (fun h43=>?_)
   ·
    have h43:o.op=14:=h43;have hx:=hx.trans (aMW ho h43);refine uFr ?_;refine bG ?_;refine aE (aH ?_);refine aH (aB ?_);refine uBz ?_;refine uEj ?_;refine uGe ?_;refine aG (aE ?_);refine eJ 77 rfl (fun h77=>?_) (fun h77=>?_)
    ·
     refine uCf ?_;refine uBd ?_;refine uFl ?_;refine ol_s (bN (z0:=[.int .i64 0,(str [])]) iS tz34 rfl rfl rfl rfl (.cons rfl rfl rfl (.cons (.cons .nil)) .nil)) rfl ?_;rintro _ K _ ⟨b85,rfl,rfl,rfl⟩ -;refine ol_s (dM (k:=cY) (ys:=[((1:Int),([]:List UInt8))]) lO rfl rfl aX (fun w j=>dB Tryz.underlying29 (SeesSl.at (k:=cY) (.blk (.own .here) rfl rfl) j)) (by have:=hinv.acts;simp;omega) (by have:=hinv.acts;simp;omega)) rfl ?_;rintro v86 K _ ⟨rfl,rfl,ho86⟩ -;refine uGu ?_;rintro _ K _ ⟨rfl,rfl⟩ -;refine aG (aE ?_);refine aH (aB ?_);refine uAa ?_;refine uGf ?_;rintro _ K _ ⟨rfl,rfl⟩ -;refine uAb ?_;refine uEo ?_;rintro _ K _ ⟨rfl,rfl⟩ -;refine aG (aE ?_);refine bI ?_
     first
      |(refine aO (.cons (.there (.there (.there (.there (.there .here))))) (.cons (.there (.there (.there (.there .here)))) (.cons (.there .here) .nil))) ?_;exact iM rfl rfl rfl hle0 (by rw[hx,if_neg (by rw[h77];decide)]) aI)
      |(refine aO (.cons (.there (.there (.there (.there (.there (.there .here)))))) (.cons (.there (.there (.there (.there (.there .here))))) (.cons (.there (.there .here)) .nil))) ?_;exact iM rfl rfl rfl hle0 (by rw[hx,if_neg (by rw[h77];decide)]) aI)
      |(refine aO (.cons (.there (.there (.there (.there (.there (.there .here)))))) (.cons (.there (.there (.there (.there (.there .here))))) (.cons .here .nil))) ?_;exact iM rfl rfl rfl hle0 (by rw[hx,if_pos h77]) aI)
      |(refine aO (.cons (.there (.there (.there (.there (.there (.there (.there .here))))))) (.cons (.there (.there (.there (.there (.there (.there .here)))))) (.cons .here .nil))) ?_;exact iM rfl rfl rfl hle0 (by rw[hx,if_pos h77]) aI)
    ·
     refine aW ?_;refine aE (aH ?_);refine uAf ?_;refine uGf ?_;rintro _ K _ ⟨rfl,rfl⟩ -;refine uAb ?_;refine uEo ?_;rintro _ K _ ⟨rfl,rfl⟩ -;refine aG (aE ?_);refine bI ?_
     first
      |(refine aO (.cons (.there (.there (.there (.there (.there .here))))) (.cons (.there (.there (.there (.there .here)))) (.cons (.there .here) .nil))) ?_;exact iM rfl rfl rfl hle0 (by rw[hx,if_neg (by rw[h77];decide)]) aI)
      |(refine aO (.cons (.there (.there (.there (.there (.there (.there .here)))))) (.cons (.there (.there (.there (.there (.there .here))))) (.cons (.there (.there .here)) .nil))) ?_;exact iM rfl rfl rfl hle0 (by rw[hx,if_neg (by rw[h77];decide)]) aI)
      |(refine aO (.cons (.there (.there (.there (.there (.there (.there .here)))))) (.cons (.there (.there (.there (.there (.there .here))))) (.cons .here .nil))) ?_;exact iM rfl rfl rfl hle0 (by rw[hx,if_pos h77]) aI)
      |(refine aO (.cons (.there (.there (.there (.there (.there (.there (.there .here))))))) (.cons (.there (.there (.there (.there (.there (.there .here)))))) (.cons .here .nil))) ?_;exact iM rfl rfl rfl hle0 (by rw[hx,if_pos h77]) aI)
   ·
    have h43:¬o.op=14:=h43;refine aW ?_;refine aE (aH ?_);refine uAf ?_;refine aA (aD (o':=0) jX rfl rfl) rfl ?_;refine uAn ?_;refine uEt ?_;refine uAa ?_;refine cG 48 rfl (fun g48=>?_) (fun g48=>?_)
    ·
     have g48:0 < o.op:=g48;refine uAz ?_;refine aA (aD (o':=0) jX rfl rfl) rfl ?_;refine uAz ?_;refine uAn ?_;refine uAi ?_;refine aA (cB (k:=(eD 184)) rfl Tryz.underlying181 rfl aL) rfl ?_;refine uAz ?_;refine uBn ?_;refine uAy ?_;refine aY rfl rfl (n7 (o.op < (aBX.length:Int)) _ _ _ _ _ _ _ _ _ _ _ _ _) (.cons (.there .here) .nil) rfl (fun _ _=>a8 _ _) ?_ ?_
     ·
      rintro _ _ _ hTr le1;obtain⟨e,p,hu,fb,h,rfl⟩:=bA hTr;cases h
      refine uIe ?_;exact yF rfl rfl rfl (Hl.le_trans hle0 le1) (by (obtain⟨q1,rfl,rfl⟩:=aQU hu;rw[hx,zU ho h43 (aHL aI)])) aI
     rintro _ K _ hTr -;obtain⟨u0,hu,rfl,rfl,rfl⟩:=bB hTr;clear hTr;have hbl:o.op < (aBX.length:Int):=Classical.byContradiction (fun h=>by rw[if_neg h]at hu;cases hu);have hop:1≤o.op∧o.op≤13:=⟨by omega,by omega⟩;refine aG (aE ?_);refine aH ?_;refine tD (.cons .here (.cons (.there .here) (.cons (.there .here) (.cons (.there .here) .nil)))) ?_;refine kJ (dR (m:=m) (hv:=.slice ha hn hcp) (pv:=pv) (nm:=nm) (s:=s)) ?_;refine t_draw (anc:=[0,0,2,7,15,0,0,0,128,511]) (ord:=[0,1,2,3,4,5,6,7,8,9]) [9] [9] mixed (by decide+kernel) (cS _) ?_;refine uAj ?_;refine dl_ev rfl rfl (.none rfl) rfl rfl (aD (o':=0) jX rfl rfl) rfl ?_;refine uFm ?_;refine dl_ev rfl rfl (.none rfl) rfl rfl (b0 (k:=eD 184) (j:=o.op.toNat) xS rfl (.known hTab1) rfl (show o.op=(o.op.toNat:Int) by omega) aI) rfl ?_;refine dl_ev rfl rfl (.none rfl) rfl rfl (dW (o:=0) (k:=eD 184) aZB rfl (.known hTab1) (aP4 hop) rfl) rfl ?_;refine uAj ?_;refine dl_ev rfl rfl (.none rfl) rfl rfl (bX kE rfl aL rfl rfl) rfl ?_;refine uAj ?_;refine dl_ev rfl rfl (.none rfl) rfl rfl (cB (k:=gO) rfl Tryz.underlying42 rfl aL) rfl ?_;refine aIH (fr':=[(6,ptr b6),(7,i64 ((st:Int)+1)),(8,ptr b8)]) rfl (.none rfl) rfl rfl rfl (aJM b17 b15 m (.slice ha hn hcp) pv nm s o (.slice sa sn sc) (.slice ta tn tc) vs.length _ hop hg1 hpv hra hrb hh1 hm hoo hinv aI aI) (.cons .here .nil) rfl (fun _ _=>a8 _ _) (.cons 6 rfl (.cons 7 rfl (.cons 8 rfl .nil))) rfl ?_ ?_
     ·
      rintro _ _ _ hTr le1;obtain⟨e,p,hq,fb,h,rfl⟩:=bA hTr;cases h
      refine uEc ?_;refine uGh ?_;exact yF rfl rfl rfl (Hl.le_trans hle0 le1) (by (rw[hlen]at hq;rw[hx,zU ho h43 hq])) aI
     rintro _ K3 _ hTr leK3;obtain⟨t,hq,rfl,pv3,hpv3,rfl⟩:=bB hTr;clear hTr;rw[hlen]at hq;have hinv2:=hinv.step hm hoo hq;have hinv3:MInv {t with pc:=t.pc+1}:=⟨hinv2.stack,hinv2.acts,hinv2.vars,hinv2.parts⟩;have hp2:=aK6 hq (by omega:s.pc < code.length);refine uDg ?_;refine qQ fun av3 sv3 fv3 c3=>?_
     refine uBv ?_;refine uFs ?_;refine uAn ?_;refine uHf ?_;rintro _ K _ ⟨rfl,rfl⟩ -;refine aG (aN ?_);have hp3:=aK6 hq (by omega:s.pc < code.length);have e:((t.pc+1:Nat):Int)=(t.pc:Int)+1:=by omega
     refine dN (fun h hh=>dR (m:=m) (hv:=.slice ha hn hcp) (pv:=pv3) (nm:=nm) (s:={t with pc:=t.pc+1}) h (by show Sat (mblk _ _ _ _ _ _ _ _ _ _ _ ((t.pc+1:Nat):Int)::_) h;rw[e];exact hh)) ?_;refine uEc ?_;exact cQ ⟨st+1,{t with pc:=t.pc+1},pv3,_⟩ ⟨Hl.le_trans hle leK3,hpv3,hinv3,by (show st+1≤t.pc+1);omega,by (show t.pc+1≤code.length);omega,f - 1,by (show code.length≤f - 1+(t.pc+1));omega,by have e2:f - 1+1=f:=aI;rw[e2,hx,yC ho h43 hq]⟩ (by (show code.length - (t.pc+1) < code.length - s.pc);omega) (.cons 1 rfl (.cons 6 rfl (.cons 7 rfl (.cons 8 rfl (.cons 9 rfl (.cons 10 rfl .nil)))))) rfl (fun _ h=>h)
    ·
     have g48:¬0 < o.op:=g48;refine uAc ?_;refine uGq ?_;refine aY rfl rfl (oQ _ _ _ _ _ _ _ _ _ _ _ _ _) (.cons (.there .here) .nil) rfl (by rintro _ _ ⟨_,h,_⟩;cases h) ?_ ?_
     ·
      rintro _ _ _ ⟨fb,h,rfl⟩ le1;cases h
      refine uIe ?_;exact yF rfl rfl rfl (Hl.le_trans hle0 le1) (by rw[hx,zU ho h43 (aHL aI)]) aI
     ·
      rintro _ _ _ ⟨_,h,_⟩;cases h
  ·
   have hx:=hx.trans (aMV aI);refine uAp ?_;refine aE (aH ?_);refine aH (aB ?_);refine uBz ?_;refine uEj ?_;refine uGe ?_;refine aG (aE ?_);refine eJ 77 rfl (fun h77=>?_) (fun h77=>?_)
   ·
    refine uCf ?_;refine uBd ?_;refine uFl ?_;refine ol_s (bN (z0:=[.int .i64 0,(str [])]) iS tz34 rfl rfl rfl rfl (.cons rfl rfl rfl (.cons (.cons .nil)) .nil)) rfl ?_;rintro _ K _ ⟨b85,rfl,rfl,rfl⟩ -;refine ol_s (dM (k:=cY) (ys:=[((1:Int),([]:List UInt8))]) lO rfl rfl aX (fun w j=>dB Tryz.underlying29 (SeesSl.at (k:=cY) (.blk (.own .here) rfl rfl) j)) (by have:=hinv.acts;simp;omega) (by have:=hinv.acts;simp;omega)) rfl ?_;rintro v86 K _ ⟨rfl,rfl,ho86⟩ -;refine uGu ?_;rintro _ K _ ⟨rfl,rfl⟩ -;refine aG (aE ?_);refine aH (aB ?_);refine uAa ?_;refine uGf ?_;rintro _ K _ ⟨rfl,rfl⟩ -;refine uAb ?_;refine uEo ?_;rintro _ K _ ⟨rfl,rfl⟩ -;refine aG (aE ?_);refine bI ?_
    first
     |(refine aO (.cons (.there (.there (.there (.there (.there .here))))) (.cons (.there (.there (.there (.there .here)))) (.cons (.there .here) .nil))) ?_;exact iM rfl rfl rfl hle0 (by rw[hx,if_neg (by rw[h77];decide)]) aI)
     |(refine aO (.cons (.there (.there (.there (.there (.there (.there .here)))))) (.cons (.there (.there (.there (.there (.there .here))))) (.cons (.there (.there .here)) .nil))) ?_;exact iM rfl rfl rfl hle0 (by rw[hx,if_neg (by rw[h77];decide)]) aI)
     |(refine aO (.cons (.there (.there (.there (.there (.there (.there .here)))))) (.cons (.there (.there (.there (.there (.there .here))))) (.cons .here .nil))) ?_;exact iM rfl rfl rfl hle0 (by rw[hx,if_pos h77]) aI)
     |(refine aO (.cons (.there (.there (.there (.there (.there (.there (.there .here))))))) (.cons (.there (.there (.there (.there (.there (.there .here)))))) (.cons .here .nil))) ?_;exact iM rfl rfl rfl hle0 (by rw[hx,if_pos h77]) aI)
   ·
    refine aW ?_;refine aE (aH ?_);refine uAf ?_;refine uGf ?_;rintro _ K _ ⟨rfl,rfl⟩ -;refine uAb ?_;refine uEo ?_;rintro _ K _ ⟨rfl,rfl⟩ -;refine aG (aE ?_);refine bI ?_
    first
     |(refine aO (.cons (.there (.there (.there (.there (.there .here))))) (.cons (.there (.there (.there (.there .here)))) (.cons (.there .here) .nil))) ?_;exact iM rfl rfl rfl hle0 (by rw[hx,if_neg (by rw[h77];decide)]) aI)
     |(refine aO (.cons (.there (.there (.there (.there (.there (.there .here)))))) (.cons (.there (.there (.there (.there (.there .here))))) (.cons (.there (.there .here)) .nil))) ?_;exact iM rfl rfl rfl hle0 (by rw[hx,if_neg (by rw[h77];decide)]) aI)
     |(refine aO (.cons (.there (.there (.there (.there (.there (.there .here)))))) (.cons (.there (.there (.there (.there (.there .here))))) (.cons .here .nil))) ?_;exact iM rfl rfl rfl hle0 (by rw[hx,if_pos h77]) aI)
     |(refine aO (.cons (.there (.there (.there (.there (.there (.there (.there .here))))))) (.cons (.there (.there (.there (.there (.there (.there .here)))))) (.cons .here .nil))) ?_;exact iM rfl rfl rfl hle0 (by rw[hx,if_pos h77]) aI)
end Go.Proofs
end
section
namespace Go.Syn
open Go.Cmp
def sOk(n:Nat):Tree→Prop
 | .const _=>True
 | .not_ t=>sOk n t
 | .many _ l=>sOk n l
 | .mat _ _ _ a b=>(∀x∈a,x.length≤n)∧(∀x∈b,x.length≤n)∧a.length≤2*n+1∧b.length≤2*n+1
 | .exi a=>(∀x∈a,x.length≤n)∧a.length≤2*n+1
 | .siz _ _=>True
 | .tnil=>True
 | .tcons t l=>sOk n t∧sOk n l
 | .plain _=>True
 | .act _ a _=>a.length≤n
 | .set_ a v _=>a.length≤n∧v.length≤n
 | .iff bs=>sOk n bs
 | .cnil=>True
 | .ccons c l=>sOk n c∧sOk n l
 | .bnil=>True
 | .bcons t b l=>sOk n t∧sOk n b∧sOk n l
 | .belse b l=>sOk n b∧sOk n l
def Fit(s:aM)(k:Nat)(st:St)(r:Tree×St):Prop:=wf r.1 k=true∧sOk s.length r.1∧cnt r.1+mu s r.2≤mu s st
def FitA(s:aM)(k:Nat)(T:St→Res (Tree×St)):Prop:=∀st r,Ok s st→T st=.ok r→Fit s k st r
def FitN(s:aM)(k:Nat)(T:St→Res (Tree×St)):Prop:=∀st r,Ok s st→st.2.kind≠0→T st=.ok r→Fit s k st r
variable{s:aM}
theorem aHP{st:St}{k:Nat}{texts:List aM}{r:Word×St}(hok:Ok s st)(h:take s st k texts=.ok r):r.1.s.length≤s.length:=by
 unfold take at h;split at h
 ·cases h
 ·split at h
  ·cases h
  ·cases h;exact hok.2
theorem vM{st:St}{ff:aM→Int}{r:aM×St}(hok:Ok s st)(h:text s st ff=.ok r):r.1.length≤s.length:=by
 unfold text at h;split at h
 ·cases h
 ·split at h
  ·cases h
  ·rename_i q hq;cases h;exact aHP hok hq
theorem aMT{ff:aM→Int}:∀ {f:Nat} {st:St} {acc:List aM} {r:List aM×St},Ok s st→(∀x∈acc,x.length≤s.length)→oO s ff f st acc=.ok r→∀x∈r.1,x.length≤s.length:=by
 intro f;induction f with
 |zero=>intro st acc r _ _ h;cases h
 |succ f ih=>
  intro st acc r hok ha h;simp only[oO]at h;split at h
  ·cases h
  ·rename_i q hq;have h1:=sF hok hq;split at h
   ·split at h
    ·cases h
    ·rename_i x hx;have h2:=m4 h1.1 hx;refine ih h2.1 ?_ h
     intro y hy;rcases List.mem_append.1 hy with hy|hy
     ·exact ha y hy
     ·simp at hy;subst hy;exact vM h1.1 hx
   ·split at h
    ·cases h
    ·cases h;exact ha
theorem zT{ff:aM→Int}{st:St}{r:List aM×St}(hok:Ok s st)(h:list s st ff=.ok r):∀x∈r.1,x.length≤s.length:=by
 unfold list at h;split at h
 ·cases h
 ·rename_i q hq;have h1:=sF hok hq;split at h
  ·cases h
  ·rename_i x hx;have h2:=m4 h1.1 hx;have h3:=vM h1.1 hx;split at h
   ·exact aMT h2.1 (by intro y hy;simp at hy;subst hy;exact h3) h
   ·cases h;intro y hy;simp at hy;subst hy;exact h3
theorem tT{needs:List aM}{op:Int}{ext:aM}:FitN s 0 (kO s needs op ext):=by
 intro st r hok hk e;unfold kO at e;split at e
 ·cases e
 split at e
 ·cases e
 rename_i q hq;have h1:=dS hok hk hq;unfold n5 at e;split at e
 ·cases e
 rename_i h hh;have h2:=aCS h1.1 hh;split at e
 ·cases e
 rename_i a ha;have h3:=mN h2.1 ha;have h3l:=rB h2.1 ha;split at e
 ·cases e
 rename_i b hb;have h4:=mN h3.1 hb;have h4l:=rB h3.1 hb;cases e
 have hm:=tA s st;exact⟨rfl,⟨zT h2.1 ha,zT h3.1 hb,by omega,by omega⟩,by simp only[cnt];omega⟩
theorem rK{c:Tree}(hc:wf c 2=true∧sOk s.length c∧cnt c=1):FitN s 2 (lN s c):=by
 intro st r hok hk e;unfold lN at e;split at e
 ·cases e
 rename_i q hq;have h1:=dS hok hk hq;split at e
 ·cases e
 rename_i x hx;have h2:=fX h1.1 hx;cases e
 exact⟨hc.1,hc.2.1,by simp only[hc.2.2];omega⟩
theorem yR{needs:List aM}{k:Int}{ext:aM}{p:Int}:FitN s 2 (actC s needs k ext p):=by
 intro st r hok hk e;unfold actC at e;split at e
 ·cases e
 split at e
 ·cases e
 rename_i q hq;have h1:=dS hok hk hq;split at e
 ·cases e
 rename_i x hx;have h2:=pJ h1.1 (by decide) hx;split at e
 ·cases e
 rename_i y hy;have h3:=fX h2.1 hy;cases e
 exact⟨rfl,aHP h1.1 hx,by simp only[cnt];omega⟩
theorem y6{b:Bool}:FitN s 0 (m8 s b):=by
 intro st r hok hk e;unfold m8 at e;split at e
 ·cases e
 rename_i q hq;have h1:=dS hok hk hq;cases e
 exact⟨rfl,trivial,by simp only[cnt];omega⟩
theorem aF5:FitN s 0 (nF s):=by
 intro st r hok hk e;unfold nF at e;split at e
 ·cases e
 rename_i q hq;have h1:=dS hok hk hq;split at e
 ·cases e
 rename_i a ha;have h3:=mN h1.1 ha;have h3l:=rB h1.1 ha;cases e
 have hm:=tA s st;exact⟨rfl,⟨zT h1.1 ha,by omega⟩,by simp only[cnt];omega⟩
theorem aN1:FitN s 0 (qP s):=by
 intro st r hok hk e;unfold qP at e;split at e
 ·cases e
 rename_i q hq;have h1:=dS hok hk hq;split at e
 ·cases e
 rename_i x hx;have h2:=pJ h1.1 (by decide) hx;split at e
 ·cases e
 rename_i y hy;have h3:=pJ h2.1 (by decide) hy;cases e
 exact⟨rfl,trivial,by simp only[cnt];omega⟩
theorem aQY{T:St→Res (Tree×St)}(hT:FitA s 0 T):FitN s 0 (notC s T):=by
 intro st r hok hk e;unfold notC at e;split at e
 ·cases e
 rename_i q hq;have h1:=dS hok hk hq;split at e
 ·cases e
 rename_i t ht;have h2:=hT _ _ h1.1 ht;cases e
 exact⟨by simp[wf,h2.1],h2.2.1,by have:=h2.2.2;simp only[cnt];omega⟩
theorem aR1{n:Nat}{t:Tree}(h1:wf t 0=true)(h2:sOk n t):∀ {l:Tree},wf l 1=true→sOk n l→wf (l.snocT t) 1=true∧sOk n (l.snocT t)∧cnt (l.snocT t)=cnt l+cnt t:=by
 intro l;induction l with
 |tnil=>intro _ _;exact⟨by simp[Tree.snocT,wf,h1],⟨h2,trivial⟩,by simp[Tree.snocT,cnt]⟩
 |tcons x l ih1 ih2=>
  intro hw hs;simp[wf]at hw;obtain⟨a,b,c⟩:=ih2 hw.2 hs.2;exact⟨by simp[Tree.snocT,wf,hw.1,a],⟨hs.1,b⟩,by simp only[Tree.snocT,cnt,c];omega⟩
 |_=>intro hw;simp[wf]at hw
theorem aR0{n:Nat}{t:Tree}(h1:wf t 2=true)(h2:sOk n t):∀ {l:Tree},wf l 3=true→sOk n l→wf (l.snocC t) 3=true∧sOk n (l.snocC t)∧cnt (l.snocC t)=cnt l+cnt t:=by
 intro l;induction l with
 |cnil=>intro _ _;exact⟨by simp[Tree.snocC,wf,h1],⟨h2,trivial⟩,by simp[Tree.snocC,cnt]⟩
 |ccons x l ih1 ih2=>
  intro hw hs;simp[wf]at hw;obtain⟨a,b,c⟩:=ih2 hw.2 hs.2;exact⟨by simp[Tree.snocC,wf,hw.1,a],⟨hs.1,b⟩,by simp only[Tree.snocC,cnt,c];omega⟩
 |_=>intro hw;simp[wf]at hw
def cntO:Option Tree→Nat
 |none=>0
 |some t=>cnt t
theorem aHI{n:Nat}{o:Option Tree}{b:Tree}(h0:∀t,o=some t→wf t 0=true∧sOk n t)(h1:wf b 3=true)(h2:sOk n b):∀ {l:Tree},wf l 4=true→sOk n l→wf (l.snocB o b) 4=true∧sOk n (l.snocB o b)∧cnt (l.snocB o b)=cnt l+cntO o+cnt b+1:=by
 intro l;induction l with
 |bnil=>
  intro _ _;cases o with
  |none=>exact⟨by simp[Tree.snocB,mkB,wf,h1],⟨h2,trivial⟩,by simp[Tree.snocB,mkB,cnt,cntO]⟩
  |some t=>
   obtain⟨a,b2⟩:=h0 t rfl;exact⟨by simp[Tree.snocB,mkB,wf,h1,a],⟨b2,h2,trivial⟩,by simp[Tree.snocB,mkB,cnt,cntO]⟩
 |bcons x y l ih1 ih2 ih3=>
  intro hw hs;simp[wf]at hw;obtain⟨a,b,c⟩:=ih3 hw.2.2 hs.2.2;exact⟨by simp[Tree.snocB,wf,hw.1,hw.2.1,a],⟨hs.1,hs.2.1,b⟩,by simp only[Tree.snocB,cnt,c];omega⟩
 |belse y l ih1 ih2=>
  intro hw hs;simp[wf]at hw;obtain⟨a,b,c⟩:=ih2 hw.2 hs.2;exact⟨by simp[Tree.snocB,wf,hw.1,a],⟨hs.1,b⟩,by simp only[Tree.snocB,cnt,c];omega⟩
 |_=>intro hw;simp[wf]at hw
theorem aMY{T:St→Res (Tree×St)}(hTa:Adv s T)(hT:FitA s 0 T):∀ {f:Nat} {acc:Tree} {st:St} {r:Tree×St},Ok s st→wf acc 1=true→sOk s.length acc→qN s T f acc st=.ok r→wf r.1 1=true∧sOk s.length r.1∧cnt r.1+mu s r.2≤cnt acc+mu s st:=by
 intro f;induction f with
 |zero=>intro acc st r _ _ _ e;cases e
 |succ f ih=>
  intro acc st r hok hw hs e;simp only[qN]at e;split at e
  ·cases e
  rename_i q hq;have h1:=sF hok hq;split at e
  ·split at e
   ·cases e
   rename_i t ht;have h2:=hT _ _ h1.1 ht;obtain⟨a,b,c⟩:=aR1 h2.1 h2.2.1 hw hs;have h3:=ih (hTa _ _ h1.1 ht).1 a b e;have h4:=h2.2.2;exact⟨h3.1,h3.2.1,by omega⟩
  ·split at e
   ·cases e
   rename_i y hy;have h2:=fX h1.1 hy;cases e
   exact⟨hw,hs,by simp only[];omega⟩
theorem aB8{T:St→Res (Tree×St)}{all:Bool}(hTa:Adv s T)(hT:FitA s 0 T):FitN s 0 (oP s T all):=by
 intro st r hok hk e;unfold oP at e;split at e
 ·cases e
 rename_i q hq;have h1:=dS hok hk hq;split at e
 ·cases e
 rename_i x hx;have h2:=fX h1.1 hx;split at e
 ·cases e
 rename_i t ht;have h3:=hT _ _ h2.1 ht;unfold vC at e;split at e
 ·cases e
 rename_i l hl;have h4:=aMY (acc:=.tcons t.1 .tnil) hTa hT (hTa _ _ h2.1 ht).1 (by simp[wf,h3.1]) ⟨h3.2.1,trivial⟩ hl;cases e
 have:=h3.2.2;have:=h4.2.2;refine⟨by simp[wf,h4.1],h4.2.1,?_⟩
 simp only[cnt]at*;omega
theorem aOA{needs:List aM}{T:St→Res (Tree×St)}(hTa:Adv s T)(hT:FitA s 0 T){st:St}{r:Tree×St}(hok:Ok s st)(hk:st.2.kind≠0)(e:tE s needs T st=some (.ok r)):Fit s 0 st r:=by
 unfold tE at e;simp only[]at e;split at e
 ·exact y6 _ _ hok hk (by simpa using e)
 split at e
 ·exact y6 _ _ hok hk (by simpa using e)
 split at e
 ·exact aQY hT _ _ hok hk (by simpa using e)
 split at e
 ·exact aB8 hTa hT _ _ hok hk (by simpa using e)
 split at e
 ·exact aB8 hTa hT _ _ hok hk (by simpa using e)
 split at e
 ·exact tT _ _ hok hk (by simpa using e)
 split at e
 ·exact tT _ _ hok hk (by simpa using e)
 split at e
 ·exact tT _ _ hok hk (by simpa using e)
 split at e
 ·exact aF5 _ _ hok hk (by simpa using e)
 split at e
 ·exact aN1 _ _ hok hk (by simpa using e)
 ·cases e
theorem aSA{needs:List aM}:∀n,FitA s 0 (test s needs n):=by
 intro n;induction n with
 |zero=>intro st r hok e;simp only[test]at e;split at e <;> cases e
 |succ n ih=>
  intro st r hok e;simp only[test]at e;split at e
  ·rename_i hk;split at e
   ·rename_i x hx;subst e;exact aOA (m0 n) ih hok aI hx
   ·cases e
  ·cases e
theorem vU{B:St→Res (Tree×St)}(hBa:AdvE s B)(hB:FitA s 3 B){st:St}{r:Tree×St}(hok:Ok s st)(e:bodyC s B st=.ok r):wf r.1 3=true∧sOk s.length r.1∧cnt r.1+1+mu s r.2≤mu s st:=by
 unfold bodyC at e;split at e
 ·cases e
 rename_i q hq;have h1:=fX hok hq;split at e
 ·cases e
 rename_i b hb;have h2:=hB _ _ h1.1 hb;have h2a:=hBa _ _ h1.1 hb;split at e
 ·cases e
 rename_i y hy;have h3:=fX h2a.1 hy;cases e
 have:=h2.2.2;exact⟨h2.1,h2.2.1,by simp only[];omega⟩
theorem aMB{B:St→Res (Tree×St)}(hBa:AdvE s B)(hB:FitA s 3 B){acc:Tree}{st:St}{r:Tree×St}(hok:Ok s st)(hw:wf acc 4=true)(hs:sOk s.length acc)(e:jA s B acc st=.ok r):wf r.1 2=true∧sOk s.length r.1∧cnt r.1+mu s r.2≤cnt acc+1+mu s st:=by
 unfold jA at e;split at e
 ·rename_i hk;split at e
  ·cases e
  rename_i q hq;have h1:=dS hok aI hq;split at e
  ·cases e
  rename_i b hb;have h2:=vU hBa hB h1.1 hb;cases e
  obtain⟨a,b,c⟩:=aHI (o:=none) (fun t h=>by cases h) h2.1 h2.2.1 hw hs;exact⟨by simp[wf,a],b,by simp only[cnt,c,cntO];omega⟩
 ·cases e;exact⟨by simp[wf,hw],hs,by simp only[cnt];omega⟩
theorem aIK{T B:St→Res (Tree×St)}(hTa:Adv s T)(hBa:AdvE s B)(hT:FitA s 0 T)(hB:FitA s 3 B):∀ {f:Nat} {acc:Tree} {st:St} {r:Tree×St},Ok s st→wf acc 4=true→sOk s.length acc→fK s T B f acc st=.ok r→wf r.1 2=true∧sOk s.length r.1∧cnt r.1+mu s r.2≤cnt acc+1+mu s st:=by
 intro f;induction f with
 |zero=>intro acc st r _ _ _ e;cases e
 |succ f ih=>
  intro acc st r hok hw hs e;simp only[fK]at e;split at e
  ·rename_i hk;split at e
   ·cases e
   rename_i q hq;have h1:=dS hok aI hq;split at e
   ·cases e
   rename_i t ht;have h2:=hT _ _ h1.1 ht;have h2a:=hTa _ _ h1.1 ht;split at e
   ·cases e
   rename_i b hb;have h3:=vU hBa hB h2a.1 hb;have h3a:=kS hBa _ _ h2a.1 hb;obtain⟨a,b',c⟩:=aHI (o:=some t.1) (fun x h=>by cases h;exact⟨h2.1,h2.2.1⟩) h3.1 h3.2.1 hw hs;have h4:=ih h3a.1 a b' e;have:=h2.2.2;simp only[cntO]at c;exact⟨h4.1,h4.2.1,by omega⟩
  ·exact aMB hBa hB hok hw hs e
theorem aTW{T B:St→Res (Tree×St)}(hTa:Adv s T)(hBa:AdvE s B)(hT:FitA s 0 T)(hB:FitA s 3 B):FitN s 2 (ifC s T B):=by
 intro st r hok hk e;unfold ifC at e;split at e
 ·cases e
 rename_i q hq;have h1:=dS hok hk hq;split at e
 ·cases e
 rename_i t ht;have h2:=hT _ _ h1.1 ht;have h2a:=hTa _ _ h1.1 ht;split at e
 ·cases e
 rename_i b hb;have h3:=vU hBa hB h2a.1 hb;have h3a:=kS hBa _ _ h2a.1 hb;have h4:=aIK (acc:=.bcons t.1 b.1 .bnil) hTa hBa hT hB h3a.1 (by simp[wf,h2.1,h3.1]) ⟨h2.2.1,h3.2.1,trivial⟩ e;have:=h2.2.2;simp only[cnt]at h4;exact⟨h4.1,h4.2.1,by omega⟩
theorem aNW{needs:List aM}:FitN s 2 (aAN s needs):=by
 intro st r hok hk e;unfold aAN at e;split at e
 ·cases e
 rename_i q hq;have h1:=aHE _ _ hok hk hq;cases e
 refine⟨rfl,?_,by simp only[cnt];omega⟩
 unfold setC at hq;split at hq
 ·split at hq
  ·cases hq
  rename_i r1 hr1;have g1:=dS hok hk hr1;split at hq
  ·cases hq
  rename_i t ht;have h2:Ok s t.2:=by
   unfold kB at ht;split at ht
   ·split at ht
    ·cases ht
    split at ht
    ·cases ht
    rename_i x hx;cases ht
    exact(dS g1.1 aI hx).1
   ·cases ht;exact g1.1
  unfold nJ at hq;split at hq
  ·cases hq
  rename_i n hn;have h3:=m4 h2 hn;split at hq
  ·cases hq
  rename_i v hv;split at hq
  ·cases hq
  cases hq
  exact⟨by rw[t7];exact vM h2 hn,vM h3.1 hv⟩
 ·cases hq
theorem aPF{needs:List aM}{T B:St→Res (Tree×St)}(hTa:Adv s T)(hBa:AdvE s B)(hT:FitA s 0 T)(hB:FitA s 3 B){st:St}{r:Tree×St}(hok:Ok s st)(hk:st.2.kind≠0)(e:cmdD s needs T B st=some (.ok r)):Fit s 2 st r:=by
 unfold cmdD at e;simp only[]at e;split at e
 ·exact rK (c:=.act 1 [] st.2.at_) ⟨rfl,Nat.zero_le _,rfl⟩ _ _ hok hk (by simpa using e)
 split at e
 ·exact rK (c:=.plain 13) ⟨rfl,trivial,rfl⟩ _ _ hok hk (by simpa using e)
 split at e
 ·exact rK (c:=.plain 14) ⟨rfl,trivial,rfl⟩ _ _ hok hk (by simpa using e)
 split at e
 ·exact yR _ _ hok hk (by simpa using e)
 split at e
 ·exact yR _ _ hok hk (by simpa using e)
 split at e
 ·exact yR _ _ hok hk (by simpa using e)
 split at e
 ·exact aNW _ _ hok hk (by simpa using e)
 split at e
 ·exact aTW hTa hBa hT hB _ _ hok hk (by simpa using e)
 ·cases e
theorem aIA{C:St→Option (Res (Tree×St))}(hCa:∀ {st r},Ok s st→st.2.kind≠0→C st=some (.ok r)→Ok s r.2∧mu s r.2 < mu s st)(hC:∀ {st r},Ok s st→st.2.kind≠0→C st=some (.ok r)→Fit s 2 st r):
  ∀ {f:Nat} {acc:Tree} {st:St} {r:Tree×St},Ok s st→wf acc 3=true→sOk s.length acc→kM s C f acc st=.ok r→wf r.1 3=true∧sOk s.length r.1∧cnt r.1+mu s r.2≤cnt acc+mu s st:=by
 intro f;induction f with
 |zero=>intro acc st r _ _ _ e;cases e
 |succ f ih=>
  intro acc st r hok hw hs e;simp only[kM]at e;split at e
  ·rename_i hk;split at e
   ·cases e
   ·cases e
   rename_i c hc;have h1:=hCa hok aI hc;have h2:=hC hok aI hc;obtain⟨a,b,d⟩:=aR0 h2.1 h2.2.1 hw hs;have h3:=ih h1.1 a b e;have:=h2.2.2;exact⟨h3.1,h3.2.1,by omega⟩
  ·cases e;exact⟨hw,hs,Nat.le_refl _⟩
theorem aLW{needs:List aM}:∀n,FitA s 3 (block s needs n):=by
 intro n;induction n with
 |zero=>intro st r hok e;simp only[block]at e;split at e <;> cases e;exact⟨rfl,trivial,by simp[cnt]⟩
 |succ n ih=>
  intro st r hok e;simp only[block]at e;have:=aIA (acc:=.cnil) (fun h1 h2 h3=>y4 (m0 n) (sD n) h1 h2 h3) (fun h1 h2 h3=>aPF (m0 n) (sD n) (aSA n) ih h1 h2 h3) hok rfl trivial e;simp only[cnt]at this;exact⟨this.1,this.2.1,by omega⟩
theorem aRK:∀ {f:Nat} {ns:List aM} {st:St} {r:List aM×St},Ok s st→reqF s f ns st=.ok r→Ok s r.2∧mu s r.2≤mu s st:=by
 intro f;induction f with
 |zero=>intro ns st r _ e;cases e
 |succ f ih=>
  intro ns st r hok e;simp only[reqF]at e;split at e
  ·rename_i hk;split at e
   ·cases e
   rename_i q hq;have h1:=dS hok aI hq;split at e
   ·cases e
   rename_i l hl;have h2:=mN h1.1 hl;split at e
   ·cases e
   rename_i y hy;have h3:=fX h2.1 hy;have:=ih h3.1 e;exact⟨this.1,by omega⟩
  ·cases e;exact⟨hok,Nat.le_refl _⟩
theorem aCG{r:List aM×Tree}(h:gR s=.ok r):wf r.2 3=true∧sOk s.length r.2∧cnt r.2≤2*s.length+1:=by
 unfold gR at h;split at h
 ·cases h
 rename_i q hq;have h1:=eB (Nat.zero_le _) hq;unfold hZ at h;split at h
 ·cases h
 rename_i n hn;have h2:=aRK h1 hn;split at h
 ·cases h
 rename_i b hb;have h3:=aLW 7 _ _ h2.1 hb;split at h
 ·cases h
  have:=tA s n.2;have:=h3.2.2;exact⟨h3.1,h3.2.1,by simp only[];omega⟩
 ·cases h
end Go.Syn
end
section
namespace Go.Cmp
open Go.Syn Go.Mach
def IFit(n:Nat)(o:Ins):Prop:=(∀x∈o.a,x.length≤n)∧(∀x∈o.b,x.length≤n)∧o.a.length≤2*n+1∧o.b.length≤2*n+1
def AFit(n:Nat)(ops:List Ins):Prop:=∀o∈ops,IFit n o
theorem AFit.setN{n:Nat}{k:Nat}{m:Int}:∀ {ops:List Ins},AFit n ops→AFit n (setN ops k m):=by
 intro ops h o ho;unfold Cmp.setN at ho;obtain⟨i,hi⟩:=List.getElem?_of_mem ho;rw[List.getElem?_modify]at hi;cases hx:ops[i]? with
 |none=>rw[hx]at hi;cases hi
 |some x=>
  rw[hx]at hi;have hxo:=h x (List.mem_of_getElem? hx);simp only[Option.map_eq_map,Option.map_some,Option.some.injEq]at hi
  by_cases hki:k=i
  ·rw[if_pos hki]at hi;subst hi;exact hxo
  ·rw[if_neg hki]at hi;subst hi;exact hxo
theorem AFit.fold{n:Nat}{m:Int}:∀(ps:List Nat) {ops:List Ins},AFit n ops→AFit n (ps.foldl (fun o k=>Cmp.setN o k (m - 1 - k)) ops)
 | [],_,h=>h
 |p::ps,_,h=>AFit.fold ps h.setN
theorem AFit.land{n:Nat}{ops:List Ins}{ps:List Nat}(h:AFit n ops):AFit n (land ops ps):=AFit.fold ps h
theorem AFit.app{n:Nat}{a b:List Ins}(h:AFit n a)(k:AFit n b):AFit n (a++b):=fun o ho=>(List.mem_append.1 ho).elim (h o) (k o)
theorem AFit.jmp{n:Nat}{ops:List Ins}{op:Int}(h:AFit n ops):AFit n (ops++[Cmp.jmp op]):=h.app fun o ho=>by
 rw[List.mem_singleton]at ho;subst ho;exact⟨by simp[Cmp.jmp],by simp[Cmp.jmp],by simp[Cmp.jmp],by simp[Cmp.jmp]⟩
theorem AFit.two{n:Nat}{ops:List Ins}{o:Ins}{op:Int}(h:AFit n ops)(k:IFit n o):AFit n (ops++[o,Cmp.jmp op]):=by
 have:=(h.app (b:=[o]) (fun x hx=>by rw[List.mem_singleton]at hx;subst hx;exact k)).jmp (op:=op)
 simpa using this
theorem aU2(n:Nat):∀(t:Tree),sOk n t→(∀tn ops,AFit n ops→AFit n (unl t tn ops).1)∧(∀all tn ops away here,AFit n ops→AFit n (unlL all tn t ops away here).1):=by
 intro t;induction t with
 |not_ t ih=>exact fun h=>⟨fun tn ops ho=>by rw[unl];exact(ih h).1 _ _ ho,fun all tn ops away here ho=>by simpa[unlL]using ho⟩
 |const b=>exact fun h=>⟨fun tn ops ho=>by rw[unl];split;exact ho.jmp;exact ho,fun all tn ops away here ho=>by simpa[unlL]using ho⟩
 |many all l ih=>exact fun h=>⟨fun tn ops ho=>by rw[unl];exact((ih h).2 _ _ _ _ _ ho).land,fun all tn ops away here ho=>by simpa[unlL]using ho⟩
 |mat tag oct op a b=>exact fun h=>⟨fun tn ops ho=>by rw[unl];exact ho.two h,fun all tn ops away here ho=>by simpa[unlL]using ho⟩
 |exi a=>exact fun h=>⟨fun tn ops ho=>by rw[unl];exact ho.two ⟨h.1,by simp,h.2,by simp⟩,fun all tn ops away here ho=>by simpa[unlL]using ho⟩
 |siz tag m=>exact fun h=>⟨fun tn ops ho=>by rw[unl];exact ho.two ⟨by simp,by simp,by simp,by simp⟩,fun all tn ops away here ho=>by simpa[unlL]using ho⟩
 |tcons t l ih1 ih2=>
  refine fun h=>⟨fun tn ops ho=>by simpa[unl]using ho,fun all tn ops away here ho=>?_⟩
  rw[unlL];split
  ·exact(ih2 h.2).2 _ _ _ _ _ ((ih1 h.1).1 _ _ ho)
  ·exact(ih2 h.2).2 _ _ _ _ _ ((ih1 h.1).1 _ _ ho)
 |_=>exact fun h=>⟨fun tn ops ho=>by simpa[unl]using ho,fun all tn ops away here ho=>by simpa[unlL]using ho⟩
theorem aPA(n:Nat):∀(t:Tree),sOk n t→(∀ops,AFit n ops→AFit n (body t ops))∧(∀ops,AFit n ops→AFit n (cmdI t ops))∧(∀ops out,AFit n ops→AFit n (dC t ops out)):=by
 intro t;induction t with
 |plain op=>exact fun h=>⟨fun ops ho=>by simpa[body]using ho,fun ops ho=>by rw[cmdI];exact ho.jmp,fun ops out ho=>by simpa[dC]using ho.land⟩
 |act k a p=>
  refine fun h=>⟨fun ops ho=>by simpa[body]using ho,fun ops ho=>?_,fun ops out ho=>by simpa[dC]using ho.land⟩
  rw[cmdI];refine ho.app fun o hx=>?_
  rw[List.mem_singleton]at hx;subst hx
  refine⟨fun x hx=>?_,by simp,?_,by simp⟩
  ·simp only at hx;split at hx
   ·cases hx
   ·rw[List.mem_singleton]at hx;subst hx;exact h
  ·simp only;split <;> simp
 |set_ a v t=>
  refine fun h=>⟨fun ops ho=>by simpa[body]using ho,fun ops ho=>?_,fun ops out ho=>by simpa[dC]using ho.land⟩
  rw[cmdI];refine ho.app fun o hx=>?_
  rw[List.mem_singleton]at hx;subst hx
  exact⟨fun x hx=>by rw[List.mem_singleton]at hx;subst hx;exact h.1,fun x hx=>by rw[List.mem_singleton]at hx;subst hx;exact h.2,by simp,by simp⟩
 |iff bs ih=>exact fun h=>⟨fun ops ho=>by simpa[body]using ho,fun ops ho=>by rw[cmdI];exact(ih h).2.2 _ _ ho,fun ops out ho=>by simpa[dC]using ho.land⟩
 |ccons c l ih1 ih2=>exact fun h=>⟨fun ops ho=>by rw[body];exact(ih2 h.2).1 _ ((ih1 h.1).2.1 _ ho),fun ops ho=>by simpa[cmdI]using ho,fun ops out ho=>by simpa[dC]using ho.land⟩
 |belse b l ih1 ih2=>exact fun h=>⟨fun ops ho=>by simpa[body]using ho,fun ops ho=>by simpa[cmdI]using ho,fun ops out ho=>by rw[dC];exact((ih1 h.1).1 _ ho).land⟩
 |bcons t b l ih1 ih2 ih3=>
  refine fun h=>⟨fun ops ho=>by simpa[body]using ho,fun ops ho=>by simpa[cmdI]using ho,fun ops out ho=>?_⟩
  have h1:=(ih2 h.2.1).1 _ ((aU2 n t h.1).1 false _ ho);rw[dC];split
  ·exact(ih3 h.2.2).2.2 _ _ h1.land
  ·exact(ih3 h.2.2).2.2 _ _ h1.jmp.land
 |_=>exact fun h=>⟨fun ops ho=>by simpa[body]using ho,fun ops ho=>by simpa[cmdI]using ho,fun ops out ho=>by simpa[dC]using ho.land⟩
theorem script_fit{n:Nat}{t:Tree}(h:sOk n t):AFit n (script t):=(aPA n t h).1 [] (fun o ho=>by cases ho)
theorem script_len(t:Tree):(script t).length≤2*cnt t:=by have:=((uK t).1 []).2;unfold script;simpa using this
end Go.Cmp
end
section
namespace Go.Syn
variable{s:aM}
theorem uI:∀(l ns:List aM),(iO ns l).length≤ns.length+l.length
 | [],ns=>by simp[iO]
 |e::l,ns=>by
  have h1:=uI l (addN ns e);have h2:=aO1 ns e;unfold iO at h1 ⊢;simp only[List.foldl_cons,List.length_cons]at h1 ⊢;omega
theorem aG4:∀(f:Nat) (ns:List aM) (st:St) (r:List aM×St),Ok s st→reqF s f ns st=.ok r→r.1.length≤ns.length+mu s st
 |0,ns,st,r,_,h=>by cases h
 |f+1,ns,st,r,hok,h=>by
  unfold reqF at h;split at h
  ·rename_i hk;split at h
   ·cases h
   rename_i q hq;have hk2:st.2.kind≠0:=by omega
   have h1:=fG hok.1 hk2 hq;have h1o:=eB hok.1 hq;split at h
   ·cases h
   rename_i l hl;have h2:=mN h1o hl;have h2l:=rB h1o hl;split at h
   ·cases h
   rename_i q2 hq2;have h3:=fX h2.1 hq2;have h4:=aG4 f _ _ _ h3.1 h;have h5:=uI l.1 ns;omega
  ·cases h;simp
theorem aGU{r:List aM×Tree}(h:gR s=.ok r):r.1.length≤2*s.length+1:=by
 unfold gR at h;split at h
 ·cases h
 rename_i q hq;have h1:=eB (Nat.zero_le _) hq;unfold hZ at h;split at h
 ·cases h
 rename_i n hn;have h2:=aG4 _ _ _ _ h1 hn;have h3:=tA s q;split at h
 ·cases h
 split at h
 ·cases h
  show n.1.length≤_
  have h2':n.1.length≤mu s q:=by simpa using h2
  omega
 ·cases h
end Go.Syn
end
section
namespace Go.SL
section
variable{E:Env}{fr:Fr}{K:Hl}{L L':List Asn}{Q:Post}{ops:Array Oper}{rest:List Oper}{dst:Option Tmp}{ty:TypeId}{pos:String}{aft:Array Edge}{g:Option (Nat×Bool)}{x y:Operand}{v u:Value}{t:TypeId}
theorem zQ{P:Program}{name:String}{os:List Operand}{vs:List Value}{ats:Array TypeId}{f:FuncId}{r:Value}{n:Nat}{ds:List Deferred}(hx:fr.ev x=some (.iface t u))(hos:fr.evs os=some vs)
  (hm:∀w,(method (P.types.size+Made.depth) t u name).run P w=.ok (f,r) w) {a:Act} (fo:FrOk n ds fr a) (w:World):
  (execOp a.eval ⟨dst,.call ⟨.invoke x name,os.toArray,ats⟩,ty,pos,aft,g⟩).run P w=(callFunc f (r::vs).toArray).run P w:=by
 have e1:Array.map a.eval os.toArray=vs.toArray:=by simp[fo.evs hos]
 have e2: #[Value.iface t u]++vs.toArray=(Value.iface t u::vs).toArray:=by simp
 simp only[execOp,resolve,e1,fo.ev hx,bind,pure,Sem.bind,invoke,e2];have e3:(Value.iface t u::vs).toArray[0]?=some (.iface t u):=by simp
 have e4:(Value.iface t u::vs).toArray.extract 1 (Value.iface t u::vs).toArray.size=vs.toArray:=by simp
 simp only[e3,e4]
 show (callMethod (.iface t u) name vs.toArray).run P w=_
 unfold callMethod;simp only[];have hp:(program).run P w=.ok P w:=rfl;rw[aT hp,aT (hm w)];simp
theorem eL{name:String}{os:List Operand}{vs:List Value}{ats:Array TypeId}{f:FuncId}{r:Value}{fn:Func}{ex:Array Value→Sem Value}(hx:fr.ev x=some (.iface t u))(hos:fr.evs os=some vs)
  (hm:∀w,(method (E.P.types.size+Made.depth) t u name).run E.P w=.ok (f,r) w)
  (h1:E.P.funcs[f]?=some fn) (h2:(fn.name=="runtime.NumGoroutine")=false) (h3:fn.body.isNone=true) (h4:Extern.findNext fn=none) (h5:Extern.find fn=some ex) (hr:∀w,In E.w0 E.F K L w→(ex (r::vs).toArray).run E.P w=.ok v w):
  Ev E fr K L ⟨dst,.call ⟨.invoke x name,os.toArray,ats⟩,ty,pos,aft,g⟩ v:=fun a w fo j=>by
 rw[zQ hx hos hm fo w,run_callFunc_extern h1 h2 h3 h4 h5,hr w j]
 rfl
theorem aAI{fv:Operand}{os:List Operand}{vs:List Value}{ats:Array TypeId}{f:FuncId}{fn:Func}{ex:Array Value→Sem Value}{N:Value→Hl→List Asn→Prop}(hf:fr.ev fv=some (.func (.func f) #[] #[]))(hos:fr.evs os=some vs)
  (h1:E.P.funcs[f]?=some fn) (h2:(fn.name=="runtime.NumGoroutine")=false) (h3:fn.body.isNone=true) (h4:Extern.findNext fn=none) (h5:Extern.find fn=some ex)
  (hr:∀w,In E.w0 E.F K L w→∃v w' K' L',(ex vs.toArray).run E.P w=.ok v w'∧N v K' L'∧K.le K'∧In E.w0 E.F K' L' w'):
  EfS E fr K L ⟨dst,.call ⟨.value fv,os.toArray,ats⟩,ty,pos,aft,g⟩ N:=fun a w fo j=>by
 obtain⟨v,w',K',L',h,hN,le,j'⟩:=hr w j;refine⟨v,w',K',L',.inl ?_,hN,le,j'⟩
 have e1:Array.map a.eval os.toArray=vs.toArray:=by simp[fo.evs hos]
 simp only[execOp,resolve,e1,fo.ev hf,Deferred.ofValue,bind,pure,Sem.bind,invoke,List.append_toArray];simp only[List.nil_append,List.append_nil];rw[run_callFunc_extern h1 h2 h3 h4 h5,h]
 rfl
theorem aFX{o:Oper}{f:FuncId}{vs:List Value}{L1 L2:List Asn}{R:Ending→Hl→List Asn→Prop}{N:Value→Hl→List Asn→Prop}
  (hrun:∀a w,FrOk E.n E.ds fr a→(execOp a.eval o).run E.P w=.ok (.enter f vs.toArray) w) (hL:Tks L1 L L2) (hs:Sp E.P f vs K L1 R)
  (hret:∀v K' L',R (.returned v) K' L'→N v K' (L'++L2)) (hpan:∀ch K' L',R (.panicked ch) K' L'→K.le K'→D E (.panic ch) fr K' (L'++L2) Q) (hout:∀K' L',R .outgrown K' L'→LetsOut Q):
  Ef E fr K L o Q N:=by
 intro a w k fo i hk;obtain⟨F',i1,back⟩:=(i.imp hL.sat).hide;refine .inl ?_;unfold Oper.wp;rw[hrun a w fo];refine(hs.2 F' w i1).mono fun e w' ⟨K',L',r,le,j⟩=>?_
 cases e with
 |returned v=>exact hk _ _ _ _ (hret _ _ _ r) le (back j)
 |panicked ch=>exact hpan _ _ _ r le _ _ fo (back j)
 |outgrown=>exact hout _ _ r
theorem aEC{P:Program}{name:String}{os:List Operand}{vs:List Value}{ats:Array TypeId}{f:FuncId}{r:Value}{n:Nat}{ds:List Deferred}(hx:fr.ev x=some (.iface t u))(hos:fr.evs os=some vs)
  (hm:∀w,(method (P.types.size+Made.depth) t u name).run P w=.ok (f,r) w) (hb:∃fn,P.funcs[f]?=some fn∧(fn.name=="runtime.NumGoroutine")=false∧fn.body.isSome=true) (a:Act) (w:World) (fo:FrOk n ds fr a):
  (execOp a.eval ⟨dst,.call ⟨.invoke x name,os.toArray,ats⟩,ty,pos,aft,g⟩).run P w=.ok (.enter f (r::vs).toArray) w:=by
 obtain⟨fn,h1,h2,h3⟩:=hb;rw[zQ hx hos hm fo w];exact wB h1 h2 h3 w
theorem l9{d:Nat}{name:String}{os:List Operand}{vs:List Value}{ats:Array TypeId}{f:FuncId}{r:Value}{L1 L2:List Asn}{N:Value→Hl→List Asn→Prop}(hx:fr.ev x=some (.iface t u))(hos:fr.evs os=some vs)
  (hm:∀w,(method (E.P.types.size+Made.depth) t u name).run E.P w=.ok (f,r) w) (hs:Sp E.P f (r::vs) K L1 (Ret N)) (hL:Tks L1 L L2) (hd:Nat.blt d E.n=true)
  (h:∀v K' L',N v K' L'→K.le K'→OL E ops rest ((d,v)::fr) K' (L'++L2) Q):OL E ops (⟨some d,.call ⟨.invoke x name,os.toArray,ats⟩,ty,pos,aft,none⟩::rest) fr K L Q:=
 aCE (aFX (N:=fun v K' L''=>∃L',L''=L'++L2∧N v K' L') (aEC hx hos hm hs.1) hL hs (fun v K' L' ⟨u,e,n⟩=>by cases e;exact⟨L',rfl,n⟩) (fun ch K' L' ⟨u,e,n⟩=>by cases e) (fun K' L' ⟨u,e,n⟩=>by cases e)) hd
  (fun v K' L'' ⟨L',e,n⟩ le=>by subst e;exact h v K' L' n le)
theorem aF2{xt at_:TypeId}{ok:Bool}(hx:fr.ev x=some u)(h:∀w,(Instr.typeAssert u xt at_ ok).run E.P w=.ok v w):Ev E fr K L ⟨dst,.typeAssert x xt at_ ok,ty,pos,aft,g⟩ v:=fun a w f j=>by
 simp only[execOp,f.ev hx];exact d9 (h w)
theorem wC{op:BinOp}{t':TypeId}{v1 v2:Value}(hx:fr.ev x=some v1)(hy:fr.ev y=some v2)(h0:∀w,(eqGuard op t x y v1 v2).run E.P w=.ok () w)(h:∀w,(binOp op t v1 v2).run E.P w=.ok v w):
  Ev E fr K L ⟨dst,.binOp op t x y t',ty,pos,aft,g⟩ v:=fF hx hy h0 h
end
end Go.SL
end
section
namespace Go.Proofs
open Go Go.SL Go.Extern
abbrev hd(t:Nat):Value:=.pointer (some ⟨7,t,none⟩)
theorem rlm(z:Sem Value)(f:TypeId→Addr→Nat→Nat→Sem Value)(v:Value):
  ReflectliteValue.method z f #[v]=(do match ←ReflectliteValue.parts v with|none=>z|some (t,a,fl)=>f t a fl (fl % 32)):=rfl
theorem rls(v x:Value):ReflectliteValue.set #[v,x]=(do
  let (some (dst,a,fl),some (src,b,_)):=(←ReflectliteValue.parts v,←ReflectliteValue.parts x)
   |unsupported (.noEntry "extern/(internal/reflectlite.Value).Set.zeroValue")
  if fl / ReflectliteValue.flagAddr % 2==0 then unsupported (.noEntry "extern/(internal/reflectlite.Value).Set.unaddressable")
  let val ←loadVar src b
  if ←Rtype.directlyAssignable dst src then storeVar dst a val
  else if ←Rtype.implements dst src then
   if (←Rtype.kind src)==20 then
    match val with
    | .nilIface=>unsupported (.noEntry "extern/reflectlite: a nil value of one interface type handed on as a value of another")
    |_=>storeVar dst a val
   else storeVar dst a (.iface src val)
  else panicString ("reflectlite.Set: value of type "++(←Rtype.spelt src)++" is not assignable to type "++(←Rtype.spelt dst))
  pure (.tuple #[])):=rfl
theorem aA6(t:Nat)(w:World):(ReflectliteValue.unpack (.iface 120 (ptr t))).run Tryz.prog w=.ok (.agg #[hd 120,ptr w.heap.size,.int .u64 150]) (w.alloc (.cells #[ptr t] 120)):=by kernel_rfl
theorem aLK(a:Addr)(w:World):(ReflectliteValue.methodAny (ReflectliteValue.valueError "reflectlite.Value.Type" 0) (fun t _ _ _=>ReflectliteType.toType t) #[.agg #[hd 120,.pointer (some a),.int .u64 150]]).run Tryz.prog w=.ok (.iface 265 (.agg #[hd 120])) w:=by kernel_rfl
theorem aKT(w:World):((ReflectliteType.abiMethod fun t=>(fun a:Nat=>Value.int IntKind.u8 (a:Int))<$>Rtype.kind t) #[hd 120]).run Tryz.prog w=.ok (.int .u8 22) w:=by kernel_rfl
theorem aKS(w:World):((ReflectliteType.abiMethod fun t=>(fun a:Nat=>Value.int IntKind.u8 (a:Int))<$>Rtype.kind t) #[hd 118]).run Tryz.prog w=.ok (.int .u8 22) w:=by kernel_rfl
theorem aGW(a:Addr)(w:World):(ReflectliteValue.parts (.agg #[hd 120,.pointer (some a),.int .u64 150])).run Tryz.prog w=.ok (some (120,a,150)) w:=by kernel_rfl
theorem aGD(a p:Addr)(W:World)(ha:W.cell? a=some (.pointer (some p))):
  (ReflectliteValue.method (ReflectliteValue.valueError "reflectlite.Value.IsNil" 0) ReflectliteValue.isNil #[.agg #[hd 120,.pointer (some a),.int .u64 150]]).run Tryz.prog W=.ok (.bool false) W:=by
 rw[rlm];simp only[Sem.run_bind,aGW,Result.andThen];simp[ReflectliteValue.isNil,loadVar,isAgg,underlying,Tryz.underlying120,ha,Result.andThen]
theorem aKJ(w:World):(ReflectliteType.method ReflectliteType.elem #[.agg #[hd 120]]).run Tryz.prog w=.ok (.iface 265 (.agg #[hd 118])) w:=by kernel_rfl
theorem s8(w:World):(ReflectliteType.relation "Implements" ReflectliteType.implements_ #[.agg #[hd 118],.iface 265 (.agg #[hd 79])]).run Tryz.prog w=.ok (.bool true) w:=by kernel_rfl
theorem aOR(v:Value)(w:World):(ReflectliteType.typeOf #[.iface 118 v]).run Tryz.prog w=.ok (.iface 265 (.agg #[hd 118])) w:=by kernel_rfl
theorem aBE(w:World):(ReflectliteType.relation "AssignableTo" ReflectliteType.assignableTo #[.agg #[hd 118],.iface 265 (.agg #[hd 118])]).run Tryz.prog w=.ok (.bool true) w:=by kernel_rfl
theorem aJT(e:Nat)(w:World):(ReflectliteValue.unpack (.iface 118 (ptr e))).run Tryz.prog w=.ok (.agg #[hd 118,ptr w.heap.size,.int .u64 150]) (w.alloc (.cells #[(ptr e)] 118)):=by kernel_rfl
theorem aL8(w:World):(Rtype.elem? 120).run Tryz.prog w=.ok (some 118) w:=by kernel_rfl
theorem aYD(p:Addr)(w:World):(ReflectliteValue.mk 118 p ReflectliteValue.flagAddr).run Tryz.prog w=.ok (.agg #[hd 118,.pointer (some p),.int .u64 406]) w:=by kernel_rfl
theorem aP5(a p:Addr)(W:World)(ha:W.cell? a=some (.pointer (some p))):
  (ReflectliteValue.method (ReflectliteValue.valueError "reflectlite.Value.Elem" 0) ReflectliteValue.elem #[.agg #[hd 120,.pointer (some a),.int .u64 150]]).run Tryz.prog W=.ok (.agg #[hd 118,.pointer (some p),.int .u64 406]) W:=by
 rw[rlm];simp only[Sem.run_bind,aGW,Result.andThen];simp[ReflectliteValue.elem,loadVar,isAgg,underlying,Tryz.underlying120,ha,Result.andThen,aL8,aYD]
theorem aNB(a:Addr)(w:World):(ReflectliteValue.parts (.agg #[hd 118,.pointer (some a),.int .u64 406])).run Tryz.prog w=.ok (some (118,a,406)) w:=by kernel_rfl
theorem aQ7(a:Addr)(w:World):(ReflectliteValue.parts (.agg #[hd 118,.pointer (some a),.int .u64 150])).run Tryz.prog w=.ok (some (118,a,150)) w:=by kernel_rfl
theorem aL5(w:World):(Rtype.directlyAssignable 118 118).run Tryz.prog w=.ok true w:=by kernel_rfl
theorem aW9(ta b:Addr)(e:Nat)(old:Value)(W:World)(hb:W.cell? b=some (ptr e))(ht:W.cell? ta=some old)(hf:W.frozen? ta=false):
  (ReflectliteValue.set #[.agg #[hd 118,.pointer (some ta),.int .u64 406],.agg #[hd 118,.pointer (some b),.int .u64 150]]).run Tryz.prog W=.ok (.tuple #[]) (W.setCell ta (ptr e)):=by
 rw[rls];simp only[Sem.run_bind,aNB,aQ7,Result.andThen];simp[ReflectliteValue.flagAddr,loadVar,isAgg,underlying,Tryz.underlying118,hb,Result.andThen,aL5,storeVar,Value.cells,storeCells,Addr.add];rw[run_store Tryz.prog W ta _ _ (by rfl)];simp[ht,hf]
theorem aJU(t:Nat)(w:World):(ReflectliteValue.unpack (.iface 124 (ptr t))).run Tryz.prog w=.ok (.agg #[hd 124,ptr w.heap.size,.int .u64 150]) (w.alloc (.cells #[ptr t] 124)):=by kernel_rfl
theorem aUY(a:Addr)(w:World):(ReflectliteValue.methodAny (ReflectliteValue.valueError "reflectlite.Value.Type" 0) (fun t _ _ _=>ReflectliteType.toType t) #[.agg #[hd 124,.pointer (some a),.int .u64 150]]).run Tryz.prog w=.ok (.iface 265 (.agg #[hd 124])) w:=by kernel_rfl
theorem aTZ(w:World):((ReflectliteType.abiMethod fun t=>(fun a:Nat=>Value.int IntKind.u8 (a:Int))<$>Rtype.kind t) #[hd 124]).run Tryz.prog w=.ok (.int .u8 22) w:=by kernel_rfl
theorem aWV(w:World):((ReflectliteType.abiMethod fun t=>(fun a:Nat=>Value.int IntKind.u8 (a:Int))<$>Rtype.kind t) #[hd 30]).run Tryz.prog w=.ok (.int .u8 2) w:=by kernel_rfl
theorem aGX(a:Addr)(w:World):(ReflectliteValue.parts (.agg #[hd 124,.pointer (some a),.int .u64 150])).run Tryz.prog w=.ok (some (124,a,150)) w:=by kernel_rfl
theorem aQL(a p:Addr)(W:World)(ha:W.cell? a=some (.pointer (some p))):
  (ReflectliteValue.method (ReflectliteValue.valueError "reflectlite.Value.IsNil" 0) ReflectliteValue.isNil #[.agg #[hd 124,.pointer (some a),.int .u64 150]]).run Tryz.prog W=.ok (.bool false) W:=by
 rw[rlm];simp only[Sem.run_bind,aGX,Result.andThen];simp[ReflectliteValue.isNil,loadVar,isAgg,underlying,Tryz.underlying124,ha,Result.andThen]
theorem aTJ(w:World):(ReflectliteType.method ReflectliteType.elem #[.agg #[hd 124]]).run Tryz.prog w=.ok (.iface 265 (.agg #[hd 30])) w:=by kernel_rfl
theorem aD9(w:World):(ReflectliteType.relation "Implements" ReflectliteType.implements_ #[.agg #[hd 30],.iface 265 (.agg #[hd 79])]).run Tryz.prog w=.ok (.bool true) w:=by kernel_rfl
theorem vR(v:Value)(w:World):(ReflectliteType.typeOf #[.iface 30 v]).run Tryz.prog w=.ok (.iface 265 (.agg #[hd 30])) w:=by kernel_rfl
theorem aDK(w:World):(ReflectliteType.relation "AssignableTo" ReflectliteType.assignableTo #[.agg #[hd 30],.iface 265 (.agg #[hd 30])]).run Tryz.prog w=.ok (.bool true) w:=by kernel_rfl
theorem aOX(e:Int)(w:World):(ReflectliteValue.unpack (.iface 30 (i64 e))).run Tryz.prog w=.ok (.agg #[hd 30,ptr w.heap.size,.int .u64 130]) (w.alloc (.cells #[(i64 e)] 30)):=by kernel_rfl
theorem aL9(w:World):(Rtype.elem? 124).run Tryz.prog w=.ok (some 30) w:=by kernel_rfl
theorem mk30(p:Addr)(w:World):(ReflectliteValue.mk 30 p ReflectliteValue.flagAddr).run Tryz.prog w=.ok (.agg #[hd 30,.pointer (some p),.int .u64 386]) w:=by kernel_rfl
theorem aP6(a p:Addr)(W:World)(ha:W.cell? a=some (.pointer (some p))):
  (ReflectliteValue.method (ReflectliteValue.valueError "reflectlite.Value.Elem" 0) ReflectliteValue.elem #[.agg #[hd 124,.pointer (some a),.int .u64 150]]).run Tryz.prog W=.ok (.agg #[hd 30,.pointer (some p),.int .u64 386]) W:=by
 rw[rlm];simp only[Sem.run_bind,aGX,Result.andThen];simp[ReflectliteValue.elem,loadVar,isAgg,underlying,Tryz.underlying124,ha,Result.andThen,aL9,mk30]
theorem aQ8(a:Addr)(w:World):(ReflectliteValue.parts (.agg #[hd 30,.pointer (some a),.int .u64 386])).run Tryz.prog w=.ok (some (30,a,386)) w:=by kernel_rfl
theorem aT5(a:Addr)(w:World):(ReflectliteValue.parts (.agg #[hd 30,.pointer (some a),.int .u64 130])).run Tryz.prog w=.ok (some (30,a,130)) w:=by kernel_rfl
theorem aPU(w:World):(Rtype.directlyAssignable 30 30).run Tryz.prog w=.ok true w:=by kernel_rfl
theorem aYQ(ta b:Addr)(e:Int)(old:Value)(W:World)(hb:W.cell? b=some (i64 e))(ht:W.cell? ta=some old)(hf:W.frozen? ta=false):
  (ReflectliteValue.set #[.agg #[hd 30,.pointer (some ta),.int .u64 386],.agg #[hd 30,.pointer (some b),.int .u64 130]]).run Tryz.prog W=.ok (.tuple #[]) (W.setCell ta (i64 e)):=by
 rw[rls];simp only[Sem.run_bind,aQ8,aT5,Result.andThen];simp[ReflectliteValue.flagAddr,loadVar,isAgg,underlying,Tryz.underlying30,hb,Result.andThen,aPU,storeVar,Value.cells,storeCells,Addr.add];rw[run_store Tryz.prog W ta _ _ (by rfl)];simp[ht,hf]
theorem l8(h:Value)(w:World):(Go.method (Tryz.prog.types.size+Made.depth) 265 (.agg #[h]) "Kind").run Tryz.prog w=.ok (396,h) w:=by kernel_rfl
theorem tV(h:Value)(w:World):(Go.method (Tryz.prog.types.size+Made.depth) 265 (.agg #[h]) "Elem").run Tryz.prog w=.ok (416,.agg #[h]) w:=by kernel_rfl
theorem l7(h:Value)(w:World):(Go.method (Tryz.prog.types.size+Made.depth) 265 (.agg #[h]) "Implements").run Tryz.prog w=.ok (417,.agg #[h]) w:=by kernel_rfl
theorem kP(h:Value)(w:World):(Go.method (Tryz.prog.types.size+Made.depth) 265 (.agg #[h]) "AssignableTo").run Tryz.prog w=.ok (414,.agg #[h]) w:=by kernel_rfl
theorem pE(h:Value)(w:World):(Go.method (Tryz.prog.types.size+Made.depth) 265 (.agg #[h]) "Comparable").run Tryz.prog w=.ok (415,.agg #[h]) w:=by kernel_rfl
theorem aEI(fb:Nat)(w:World):(Go.method (Tryz.prog.types.size+Made.depth) 118 (ptr fb) "Unwrap").run Tryz.prog w=.ok (407,ptr fb) w:=by kernel_rfl
theorem vS(w:World):(ReflectliteType.relation "AssignableTo" ReflectliteType.assignableTo #[.agg #[hd 30],.iface 265 (.agg #[hd 118])]).run Tryz.prog w=.ok (.bool false) w:=by kernel_rfl
theorem uP(w:World):(ReflectliteType.method (fun t=>do Rtype.noPackHeld "Comparable" t;pure (.bool (←typeInfo t).comparable)) #[.agg #[hd 30]]).run Tryz.prog w=.ok (.bool true) w:=by kernel_rfl
theorem aW1(v:Value)(w:World):(Instr.typeAssert (.iface 30 v) 79 269 true).run Tryz.prog w=.ok (.tuple #[.nilIface,.bool false]) w:=run_typeAssert_lacksB Tryz.underlying269 bR bR v 79 w
theorem aI6(v:Value)(w:World):(Instr.typeAssert (.iface 30 v) 79 272 true).run Tryz.prog w=.ok (.tuple #[.nilIface,.bool false]) w:=run_typeAssert_lacksB Tryz.underlying272 bR bR v 79 w
theorem aGO(v:Value)(w:World):(Instr.typeAssert (.iface 30 v) 79 273 true).run Tryz.prog w=.ok (.tuple #[.nilIface,.bool false]) w:=run_typeAssert_lacksB Tryz.underlying273 bR bR v 79 w
theorem aD7(v:Value)(w:World):(Instr.typeAssert (.iface 118 v) 79 272 true).run Tryz.prog w=.ok (.tuple #[.iface 118 v,.bool true]) w:=run_typeAssert_hasB Tryz.underlying272 bR v 79 w
theorem aT3(v:Value)(w:World):(Instr.typeAssert (.iface 118 v) 79 276 true).run Tryz.prog w=.ok (.tuple #[.nilIface,.bool false]) w:=run_typeAssert_lacksB Tryz.underlying276 bR bR v 79 w
theorem aP8(fb:Nat)(e:Int)(w:World):(binOp .eql 79 (.iface 118 (ptr fb)) (.iface 30 (i64 e))).run Tryz.prog w=.ok (.bool false) w:=by kernel_rfl
theorem eq30(e:Int)(w:World):(binOp .eql 79 (.iface 30 (i64 e)) (.iface 30 (i64 e))).run Tryz.prog w=.ok (.bool true) w:=by
 have h:(binOp .eql 79 (.iface 30 (i64 e)) (.iface 30 (i64 e))).run Tryz.prog w=.ok (.bool (decide (e=e))) w:=by kernel_rfl
 rw[h];simp
end Go.Proofs
end

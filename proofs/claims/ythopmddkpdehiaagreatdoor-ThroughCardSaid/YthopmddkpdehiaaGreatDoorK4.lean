/-
  What the proof stands on, part 4: the logic of walks, the walks through the functions, the plain laws. Conditions: as each theorem says. (Merged and shortened by a program.)
-/
import Derived.Test.YthopmddkpdehiaaGreatDoorK2
set_option linter.unusedVariables false
set_option linter.unusedSimpArgs false
set_option maxRecDepth 4000
set_option maxHeartbeats 1000000
namespace Go
theorem gA1{p:Prop}(h:p:=by unfold actB;rw[if_neg aI,if_pos ⟨g61,by simpa using h57⟩]):p:=h
theorem gA5{p:Prop}(h:p:=by rintro⟨x,hx,hh⟩;obtain⟨j,hj⟩:=List.getElem?_of_mem hx;exact hi1 j x (by rcases Nat.lt_or_ge j s.acts.length with h|h;omega;(rw[List.getElem?_eq_none h]at hj;cases hj)) hj hh):p:=h
theorem gA6{p:Prop}(h:p:=by split <;> omega):p:=h
theorem gA7{p:Prop}(h:p:=by first|omega|(simp;done)|(simp;omega)):p:=h
theorem gA9{p:Prop}(h:p:=by first|exact .inl ⟨by omega,by assumption⟩|exact .inr ⟨by omega,by omega⟩):p:=h
theorem gAC{p:Prop}(h:p:=by unfold actB;rw[if_neg (by first|omega|(rintro⟨_,hq⟩;simp[hq]at h43)),if_neg (by first|omega|(rintro⟨_,hq⟩;simp[hq]at h57))]):p:=h
theorem gAG{p:Prop}(h:p:=by rintro _ _ ⟨_,h,_⟩;cases h):p:=h
theorem gAM{p:Prop}(h:p:=by rintro(⟨a,b⟩|⟨a,b⟩) <;> first|omega|(simp_all;done)):p:=h
theorem gAN{p:Prop}(h:p:=by first|exact Hl.le_trans le2 (Hl.le_trans leK6 leS)|exact Hl.le_trans le2 leS):p:=h
theorem gAO{p:Prop}(h:p:=by rw[hok,hB];unfold Mach.actV;rw[if_pos h71,qC]):p:=h
theorem gAQ{p:Prop}(h:p:=by rw[hok,hB];unfold Mach.actV;rw[if_neg h71]):p:=h
theorem gAT{p:Prop}(h:p:=by unfold fO; simp only [decide_eq_true_eq]; omega):p:=h
theorem gAV{p:Prop}(h:p:=by rw[Bool.eq_iff_iff];simp;omega):p:=h
theorem gAW{p:Prop}(h:p:=by intro h;rw[if_pos h]at hu;cases hu):p:=h
theorem gB0{p:Prop}(h:p:=by simp only[cnt]at hb;simp;omega):p:=h
theorem gB9{p:Prop}(h:p:=by (unfold numA;rw[if_pos aI])):p:=h
theorem gBD{p:Prop}(h:p:=by rcases Nat.le_total (acc++s2).length 1024 with h|h;(rw[Nat.min_eq_left h,List.take_length,List.take_of_length_le h]);(rw[Nat.min_eq_right h])):p:=h
theorem gBG{p:Prop}(h:p:=by rw[decide_eq_decide];omega):p:=h
theorem gBJ{p:Prop}(h:p:=by cases r2 with|none=>(first|(rw[hln rfl,show v.length+1 - e=0 from by omega];rfl)|(simp at h66))|some q=>exact(hls q rfl).1):p:=h
theorem gBK{p:Prop}(h:p:=by rw[h19];rfl):p:=h
theorem gBL{p:Prop}(h:p:=by first | exact (fun h => (show ¬ all = tn from by simpa using h59) h.1) | exact (fun h => by have := hnil.1 h.2; omega)):p:=h
theorem gBR{p:Prop}(h:p:=by (show m.hs.length - (i+1) < m.hs.length - i);omega):p:=h
theorem gBU{p:Prop}(h:p:=by (show o.a.length - (i+1) < o.a.length - i);omega):p:=h
theorem gBW{p:Prop}(h:p:=by rw[eA];exact fun _ h=>h):p:=h
theorem gBY{p:Prop}(h:p:=by (show vs.length - (i+1) < vs.length - i);omega):p:=h
theorem gCB{p:Prop}(h:p:=by have:=hinv.acts;simp;omega):p:=h
theorem gCC{p:Prop}(h:p:=by rw[List.length_append,hvl];simp;omega):p:=h
theorem gCF{p:Prop}(h:p:=by rw[hb];rfl):p:=h
theorem gCG{p:Prop}(h:p:=by intro x hx;obtain⟨y,hy,rfl⟩:=List.mem_map.1 hx;exact o0 (hs y hy)):p:=h
end Go
section
namespace Go.SL
section
variable{E:Env}{fr:Fr}{K:Hl}{L:List Asn}{Q:Post}{c x y:Code}{ops:Array Oper}{rest:List Oper}
theorem bOJ{l:Nat}(h:D E .normal fr K L Q):T E (.label l) fr K L Q:=fun a w f i=>wp_label (h a w f i)
theorem aP{ch:List PanicEntry}{next:Act→World→Prop}(h:D E (.panic ch) fr K L Q):D E (.panic ch) fr K L (Exit.then next Q):=h
theorem a7{id:Nat}{ch:List PanicEntry}(h:D E (.panic ch) fr K L Q):D E (.panic ch) fr K L (Exit.inBlock id Q):=h
theorem aB5{As M:List Asn}(k:Tks As L M)(h:T E c fr K (As++M) Q):T E c fr K L Q:=kF k.sat h
theorem bI0{l:List Oper}{As M:List Asn}(k:Tks As L M)(h:OL E ops l fr K (As++M) Q):OL E ops l fr K L Q:=kB k.sat h
theorem aEL{l:List Oper}{p:Prop}(k:∀h,Sat L h→p)(h:p→OL E ops l fr K L Q):OL E ops l fr K L Q:=fun a w f i=>h (let ⟨x,hx,_⟩:=i.rep;k x hx) a w f i
theorem aLQ{p:Prop}(k:∀h,Sat L h→p)(h:p→T E c fr K L Q):T E c fr K L Q:=fun a w f i=>h (let ⟨x,hx,_⟩:=i.rep;k x hx) a w f i
theorem bTR{ι:Type}{l:List Oper}{Ls:ι→List Asn}(h:∀i,OL E ops l fr K (Ls i++L) Q):OL E ops l fr K (exA Ls::L) Q:=fun a w f j=>let ⟨i,ji⟩:=j.ex;h i a w f ji
theorem aE2{P:Program}{f:FuncId}{args:List Value}{L:List Asn}{R:Ending→Hl→List Asn→Prop}(M:List Asn)(h:Sp P f args K L R):Sp P f args K (L++M) (fun e K' L'=>∃N,R e K' N∧L'=N++M):=
 ⟨h.1, fun F w j => by
  obtain⟨F',i1,back⟩:=j.hide;exact(h.2 F' w i1).mono fun _ _ ⟨K',L',r,le,j'⟩=>⟨K',L'++M,⟨L',r,rfl⟩,le,back j'⟩⟩
theorem aGJ{P:Program}{f:FuncId}{args:List Value}{L M:List Asn}{R:Ending→Hl→List Asn→Prop}(k:∀h,Sat L h→Sat M h)(h:Sp P f args K M R):Sp P f args K L R:=
 ⟨h.1,fun F w j=>h.2 F w (j.imp k)⟩
theorem aT1{dst:Option Tmp}{ty:TypeId}{pos:String}{aft:Array Edge}{x:Operand}{t:TypeId}{v:Value}(hx:fr.ev x=some (.iface t v))(h:D E (.panic [{v:=.iface t v,recovered:=false}]) fr K L Q):
  OL E ops (⟨dst,.panic x,ty,pos,aft,none⟩::rest) fr K L Q:=by
 intro a w f i;refine wpList_plain rfl fun k hk=>?_;unfold Oper.wp;have:(execOp a.eval ⟨dst,.panic x,ty,pos,aft,none⟩).run E.P w=.halt (.panic (.iface t v)) w:=by
  simp only[execOp,f.ev hx];rfl
 rw[this];exact h a w f i
theorem bL{d:Nat}{ty:TypeId}{pos:String}{aft:Array Edge}{fv:Operand}{xs:List Operand}{ats:Array TypeId}{f:FuncId}{caps:Array Value}{vs:List Value}{L1 L2:List Asn}{R:Ending→Hl→List Asn→Prop}
  (hf:fr.ev fv=some (.func (.func f) #[] caps)) (hx:fr.evs xs=some vs) (hs:Sp E.P f (vs++caps.toList) K L1 R) (hL:Tks L1 L L2) (hd:Nat.blt d E.n=true)
  (hout:∀K' L',¬R .outgrown K' L')
  (hpan:∀ch K' L',R (.panicked ch) K' L'→K.le K'→D E (.panic ch) fr K' (L'++L2) Q)
  (h:∀v K' L',R (.returned v) K' L'→K.le K'→OL E ops rest ((d,v)::fr) K' (L'++L2) Q):OL E ops (⟨some d,.call ⟨.value fv,xs.toArray,ats⟩,ty,pos,aft,none⟩::rest) fr K L Q:=
 aN1 (aPN (N:=fun v K' L''=>∃L',L''=L'++L2∧R (.returned v) K' L') hf hx hL hs (fun v K' L' n=>⟨L',rfl,n⟩) hpan (fun K' L' n=>absurd n (hout _ _))) hd
  (fun v K' L'' ⟨L',e,n⟩ le=>by subst e;exact h v K' L' n le)
section
variable{P:Program}{fn:Func}{n:Nat}{w0:World}{F K0 K:Hl}{fr:Fr}{L:List Asn}{R:Ending→Hl→List Asn→Prop}
theorem wT(hr:fn.results= #[])(le:K0.le K)(h:R (.returned (.tuple #[])) K L):D ⟨P,n,[],w0,F⟩ .ret fr K L (yK P fn w0 F K0 R):=
 fun a w f i=>⟨f.defers,_,results_none hr _ _ _,K,L,h,le,i⟩
theorem bX{ch:List PanicEntry}(le:K0.le K)(h:R (.panicked ch) K L):D ⟨P,n,[],w0,F⟩ (.panic ch) fr K L (yK P fn w0 F K0 R):=
 fun a w f i=>⟨f.defers,K,L,h,le,i⟩
end
end
section
variable{E:Env}{fr:Fr}{K:Hl}{L:List Asn}{Q:Post}{dst:Option Tmp}{ty:TypeId}{pos:String}{aft:Array Edge}{g:Option (Nat×Bool)}
variable{x y:Operand}{t t':TypeId}{m n:Int}{k:IntKind}
theorem s6(hx:fr.ev x=some (i64 m))(hy:fr.ev y=some (i64 n))(h1: -9223372036854775808≤m*n)(h2:m*n≤9223372036854775807):
  Ev E fr K L ⟨dst,.binOp .mul t x y t',ty,pos,aft,g⟩ (i64 (m*n)):=by have:=aPR (E:=E) (K:=K) (L:=L) (dst:=dst) (ty:=ty) (pos:=pos) (aft:=aft) (g:=g) (t:=t) (t':=t') hx hy;rwa [qG h1 h2]at this
variable{l l':List UInt8}
end
section
variable{E:Env}{fr:Fr}{K:Hl}{L L':List Asn}{Q:Post}{dst:Option Tmp}{ty:TypeId}{pos:String}{aft:Array Edge}{g:Option (Nat×Bool)}{x y:Operand}{t s e sz i off b:Nat}
theorem nY{l:List UInt8}{lo hi:Operand}{k k':IntKind}{m n:Nat}{mv nv:Int}(hu:E.P.underlying t=some .string)(hx:fr.ev x=some (str l))(hl:fr.ev lo=some (.int k mv))(hh:fr.ev hi=some (.int k' nv))(hm:mv=(m:Int))(hn:nv=(n:Int))
  (h1:m≤n) (h2:n≤l.length):Ev E fr K L ⟨dst,.slice t x (some lo) (some hi) none,ty,pos,aft,g⟩ (str ((l.take n).drop m)):=fun a w f _=>by
 subst hm;subst hn
 simp only[execOp,f.ev hx,f.ev hl,f.ev hh,Option.map];refine eR ?_;unfold Instr.sliceAt;simp only[underlying,program,bind,Sem.bind,pure,Sem.run,hu,Instr.slice];simp[Instr.sliceBounds,Instr.sliceBound,asIntOf,bind,Sem.bind,pure,qK,h1,h2,q7]
end
section
variable{E:Env}{ops:Array Oper}{eff stg:List Nat}{S:List Asn}{r:List Nat}{fr:Fr}{K:Hl}{M L:List Asn}{Q:Post}{i:Nat}{o:Oper}
def bPD(ops:Array Oper)(fr':Fr):Bool:=fr'.all fun p=>ops.toList.all fun o=>match o.dst with|some d=>!Nat.beq d p.1|none=>true
theorem bQ1{fr:Fr}{k:Nat}{v:Value}(h:fr.get k=some v):∃p∈fr,p.1=k:=by
 induction fr with
 |nil=>cases h
 |cons p r ih=>
  obtain⟨j,u⟩:=p;simp only[Fr.get]at h
  by_cases hk:j=k
  ·exact⟨_,List.mem_cons_self ..,hk⟩
  rw[aWA hk]at h;obtain⟨q,hq,e⟩:=ih h;exact⟨q,List.mem_cons_of_mem _ hq,e⟩
theorem FrOk.alike{n:Nat}{ds:List Deferred}{fr fr':Fr}{a a':Act}{ops:Array Oper}(f:FrOk n ds fr a)(k:Kp fr fr')(hs:bPD ops fr'=true)(h:nF ops a' a):FrOk n ds fr' a':=by
 have f2:=f.keep k;refine⟨h.1.trans f.defers,h.2.1.trans f.size,fun j v e=>?_⟩
 obtain⟨p,hp,rfl⟩:=bQ1 e;rw[h.2.2 p.1 ?_];exact f2.get _ _ e
 intro o ho hd;have:=List.all_eq_true.1 (List.all_eq_true.1 hs p hp) o ho;rw[hd]at this;simp at this
theorem aWP{d:Nat}{ty:TypeId}{pos:String}{aft:Array Edge}{g:Option (Nat×Bool)}{fv:Operand}{xs:List Operand}{ats:Array TypeId}{f:FuncId}{caps:Array Value}{vs:List Value}{L1 L2:List Asn}{R:Ending→Hl→List Asn→Prop}{fr':Fr}
  (ho:ops[i]?=some ⟨some d,.call ⟨.value fv,xs.toArray,ats⟩,ty,pos,aft,g⟩) (hg:GOk ops fr ⟨some d,.call ⟨.value fv,xs.toArray,ats⟩,ty,pos,aft,g⟩ true) (he:stg.contains i=true)
  (hf:fr.ev fv=some (.func (.func f) #[] caps)) (hx:fr.evs xs=some vs) (hs:Sp E.P f (vs++caps.toList) K L1 R) (hL:Tks L1 (S++M) L2) (hn:Nat.blt d E.n=true)
  (hout:∀K' L',¬R .outgrown K' L') (hk:Kp fr fr') (has:bPD ops fr'=true)
  (hpan:∀ch K' L',R (.panicked ch) K' L'→K.le K'→D E (.panic ch) fr' K' (L'++L2) Q)
  (h:∀v K' L',R (.returned v) K' L'→K.le K'→DL E ops eff stg (L'++L2) r ((d,v)::fr) K' [] Q):DL E ops eff stg S (i::r) fr K M Q:=by
 intro a fo;unfold DX;simp only[ho,hg.wanted fo,if_true,he];intro w j;obtain⟨F',i1,back⟩:=(j.imp hL.sat).hide;refine .inr (.inr (.inl ⟨f,_,w,vH hf hx hs fo w,(hs.2 F' w i1).mono fun e w' ⟨K',L',q,le,j'⟩=>?_⟩))
 cases e with
 |returned v=>exact⟨K',L'++L2,[],le,by simpa using back j',h v K' L' q le _ (fo.put hn v)⟩
 |panicked ch=>exact fun a' ha'=>hpan ch K' L' q le a' w' (fo.alike hk has ha') (back j')
 |outgrown=>exact absurd q (hout _ _)
end
section
variable{E:Env}{fr:Fr}{K:Hl}{L L':List Asn}{Q:Post}{dst:Option Tmp}{ty:TypeId}{pos:String}{aft:Array Edge}{g:Option (Nat×Bool)}{x y:Operand}{t t' s e sz i off b:Nat}{α:Type}{k:El α}{v u:Value}{xs:List α}
theorem oM{fs:Array Field}{fl:Field}{cs:List Value}{c:Value}(hu:E.P.underlying t=some (.struct fs))(hi:fs[i]?=some fl)(hs:eZ E.P fl.type=true)(hx:fr.ev x=some (.agg cs.toArray))(hc:cs[fl.offset]?=some c):
  Ev E fr K L ⟨dst,.field t x i,ty,pos,aft,g⟩ c:=fun a w f j=>by
 simp only[execOp,f.ev hx];refine eR ?_;unfold Instr.field;have h2:(underlying t).run E.P w=.ok (.struct fs) w:=by simp only[underlying,program,bind,Sem.bind,pure,Sem.run,hu]
 rw[aV h2];simp only[hi];have h3:(asAgg (.agg cs.toArray)).run E.P w=.ok cs.toArray w:=rfl;rw[aV h3];unfold part;rw[aV (rM hs w).1];simp[hc,pure]
theorem jI{d:TypeDesc}{xt at_:TypeId}(hu:E.P.underlying at_=some d)(hd:∀ms,d≠.interface ms)(hx:fr.ev x=some (.iface at_ v)):
  Ev E fr K L ⟨dst,.typeAssert x xt at_ true,ty,pos,aft,g⟩ (.tuple #[v,.bool true]):=fun a w f j=>by
 simp only[execOp,f.ev hx];refine eR ?_;unfold Instr.typeAssert;have h2:(underlying at_).run E.P w=.ok d w:=by simp only[underlying,program,bind,Sem.bind,pure,Sem.run,hu]
 rw[aV h2];cases d <;> first|(simp[pure];done)|exact absurd rfl (hd _)
theorem aSO{d:TypeDesc}{xt at_ u:TypeId}{inf:TypeInfo}{z:Value}(hu:E.P.underlying at_=some d)(hd:∀ms,d≠.interface ms)(hne:Nat.beq u at_=false)(hi:E.P.info? at_=some inf)(hz:inf.zero=some z)(hx:fr.ev x=some (.iface u v)):
  Ev E fr K L ⟨dst,.typeAssert x xt at_ true,ty,pos,aft,g⟩ (.tuple #[z,.bool false]):=fun a w f j=>by
 simp only[execOp,f.ev hx];refine eR ?_;unfold Instr.typeAssert;have h2:(underlying at_).run E.P w=.ok d w:=by simp only[underlying,program,bind,Sem.bind,pure,Sem.run,hu]
 rw[aV h2];have h1:(zeroValue at_).run E.P w=.ok z w:=by simp only[zeroValue,typeInfo,program,bind,Sem.bind,pure,Sem.run,hi,hz]
 cases d <;> first|(simp only[if_neg (bS7 hne),if_true];rw[aV h1];rfl)|exact absurd rfl (hd _)
theorem eI{d:TypeDesc}{xt at_ u:TypeId}{z:Value}(hu:E.P.underlying at_=some d)(hd:∀ms,d≠.interface ms)(hne:Nat.beq u at_=false)(hz:gH E.P at_=some z)(hx:fr.ev x=some (.iface u v)):
  Ev E fr K L ⟨dst,.typeAssert x xt at_ true,ty,pos,aft,g⟩ (.tuple #[z,.bool false]):=by
 unfold gH at hz;cases hi:E.P.info? at_ with
 |none=>simp[hi]at hz
 |some inf=>simp[hi]at hz;exact aSO hu hd hne hi hz hx
theorem bBV{P:Program}(d:Nat){p q:Bool}(hu:P.underlying t=some .bool)(w:World):(Op.equalIn (d+1) t (.bool p) (.bool q)).run P w=.ok (p==q) w:=by
 simp only[Op.equalIn,underlying,program,bind,Sem.bind,pure,Sem.run,hu]
theorem aZS{p q:Bool}(hu:E.P.underlying t=some .bool)(hx:fr.ev x=some (.bool p))(hy:fr.ev y=some (.bool q)):Ev E fr K L ⟨dst,.binOp .neq t x y t',ty,pos,aft,g⟩ (.bool (!(p==q))):=
 gT hx hy (fun w=>rfl) fun w=>by
  have h:(Op.equal t (.bool p) (.bool q)).run E.P w=.ok (p==q) w:=bBV 9999 hu w
  show (do pure (Value.bool (!(←Op.equal t (.bool p) (.bool q)))):Sem Value).run E.P w=_
  rw[aV h];rfl
theorem aW1{el:TypeId}{pa:Option Addr}(hu:E.P.underlying t=some (.pointer el))(hx:fr.ev x=some (.pointer pa))(hy:fr.ev y=some (.pointer none)):Ev E fr K L ⟨dst,.binOp .neq t x y t',ty,pos,aft,g⟩ (.bool (!pa.isNone)):=
 gT hx hy (fun w=>rfl) fun w=>by
  show (do pure (Value.bool (!(←Op.equal t (.pointer pa) (.pointer none)))):Sem Value).run E.P w=_
  rw[aV (aZP hu w)];rfl
theorem qL{kk:IntKind}{m n:Int}{ats:Array TypeId}(hx:fr.ev x=some (.int kk m))(hy:fr.ev y=some (.int kk n)):Ev E fr K L ⟨dst,.call ⟨.builtin .min,#[x,y],ats⟩,ty,pos,aft,g⟩ (.int kk (if n < m then n else m)):=fun a w f j=>by
 have e:Array.map a.eval #[x,y]= #[.int kk m,.int kk n]:=by simp[f.ev hx,f.ev hy]
 simp only[execOp,resolve,e,bind,pure,Sem.bind,invoke,builtin]
 rfl
theorem bHF{kk:IntKind}{m n:Int}{ats:Array TypeId}(hx:fr.ev x=some (.int kk m))(hy:fr.ev y=some (.int kk n)):Ev E fr K L ⟨dst,.call ⟨.builtin .max,#[x,y],ats⟩,ty,pos,aft,g⟩ (.int kk (if n>m then n else m)):=fun a w f j=>by
 have e:Array.map a.eval #[x,y]= #[.int kk m,.int kk n]:=by simp[f.ev hx,f.ev hy]
 simp only[execOp,resolve,e,bind,pure,Sem.bind,invoke,builtin]
 rfl
end
section
variable{E:Env}{fr:Fr}{K:Hl}{L L':List Asn}{Q:Post}{dst:Option Tmp}{ty:TypeId}{pos:String}{aft:Array Edge}{g:Option (Nat×Bool)}{x y:Operand}{t t2 t' s e sz bytes i off b:Nat}{α:Type}{k:El α}{v u:Value}{xs ys:List α}
theorem bQZ{zf:Bool}:sl zf k (.slice none 0 0) ([]:List α) .emp:=.inl ⟨rfl,rfl,rfl⟩
theorem tX{zf:Bool}{M:List Asn}{h:Hl}(hM:Sat M h):Sat (sl zf k (.slice none 0 0) ([]:List α)::M) h:=⟨.emp,h,bQZ,hM,(Hl.dj_emp h).symm,(Hl.emp_join h).symm⟩
end
section
variable{E:Env}{fr:Fr}{K:Hl}{L L':List Asn}{Q:Post}{dst:Option Tmp}{ty:TypeId}{pos:String}{aft:Array Edge}{g:Option (Nat×Bool)}{x y:Operand}{t t2 t' s e sz bytes i off b:Nat}{α:Type}{k:El α}{v u:Value}{xs ys:List α}
theorem aCD{kk:IntKind}{m:Nat}{mv:Int}{zf:Bool}{M:List Asn}{hi:Operand}(ht:jS E.P t k.e k.sz=true)(hx:fr.ev x=some v)(hT:Tk (sl zf k v xs) L M)(hF:Hs (sl zf k v xs) L)(hh:fr.ev hi=some (.int kk mv))(hmv:mv=(m:Int))(hm:m≤xs.length):
  Ev E fr K L ⟨dst,.slice t x none (some hi) none,ty,pos,aft,g⟩ (slTo v m):=
 aBY ht hx (.own hF) hh hmv hm (fun w j=>bKG hT j)
theorem aQ2{zf:Bool}{m:Nat}(hm:m≤xs.length):∀h,sl zf k v xs h→sl false k (slTo v m) (xs.take m) h:=by
 rintro h (⟨rfl,rfl,rfl⟩|⟨b,cap,junk,fz,rfl,hz,hc,hj,hf,rfl⟩)
 ·have:m=0:=by simpa using hm
  subst this;exact .inl ⟨rfl,by simp,rfl⟩
 have hl:(xs.take m).length=m:=by rw[List.length_take];omega
 refine .inr ⟨b,cap,(k.cs xs).drop (m*k.sz)++junk,fz,by rw[hl];rfl,by simp,by omega,?_,hf,?_⟩
 ·have hmul:m*k.sz≤xs.length*k.sz:=Nat.mul_le_mul_right _ hm;have hmul2:xs.length*k.sz≤cap*k.sz:=Nat.mul_le_mul_right _ hc;rw[List.length_append,List.length_drop,k.cs_length,hj,hl,Nat.sub_mul,Nat.sub_mul];omega
 rw[←k.cs_take,←List.append_assoc,List.take_append_drop]
end
section
variable{E:Env}{fr:Fr}{K:Hl}{L L':List Asn}{Q:Post}{dst:Option Tmp}{ty:TypeId}{pos:String}{aft:Array Edge}{g:Option (Nat×Bool)}{x y:Operand}{t t2 t' s e:Nat}{v:Value}{xs ys:List UInt8}
theorem bQE(m:Int):IntKind.u8.wrap m=m % 256:=by
 unfold IntKind.wrap IntKind.bits IntKind.signed;simp
theorem bML(c d:UInt8)(hx:fr.ev x=some (.int .u8 c.toNat))(hy:fr.ev y=some (.int .u8 d.toNat)):Ev E fr K L ⟨dst,.binOp .add t x y t',ty,pos,aft,g⟩ (.int .u8 (c+d).toNat):=by
 have:=aZR (E:=E) (K:=K) (L:=L) (dst:=dst) (ty:=ty) (pos:=pos) (aft:=aft) (g:=g) (t:=t) (t':=t') hx hy;rw[bQE]at this;have e1:((c+d).toNat:Int)=((c.toNat:Int)+(d.toNat:Int)) % 256:=by rw[UInt8.toNat_add];omega
 rw[e1];exact this
theorem aZT{m n:Nat}(hmn:n≤m)(hm:m < 256)(hx:fr.ev x=some (.int .u8 m))(hy:fr.ev y=some (.int .u8 n)):Ev E fr K L ⟨dst,.binOp .sub t x y t',ty,pos,aft,g⟩ (.int .u8 (m - n:Nat)):=by
 have:=aD4 (E:=E) (K:=K) (L:=L) (dst:=dst) (ty:=ty) (pos:=pos) (aft:=aft) (g:=g) (t:=t) (t':=t') hx hy;have e1:IntKind.u8.wrap ((m:Int) - (n:Int))=((m - n:Nat):Int):=by rw[bQE];omega
 rwa [e1]at this
theorem zC{k:IntKind}{m:Int}{ds:TypeDesc}(hd:E.P.underlying t2=some (.int .i64))(hs:E.P.underlying t=some ds)(hx:fr.ev x=some (.int k m))(h1: -9223372036854775808≤m)(h2:m≤9223372036854775807):
  Ev E fr K L ⟨dst,.convert t t2 x,ty,pos,aft,g⟩ (i64 m):=by
 have:=kO (E:=E) (K:=K) (L:=L) (dst:=dst) (ty:=ty) (pos:=pos) (aft:=aft) (g:=g) hd hs hx
 rwa [qG h1 h2]at this
theorem aPQ{k':IntKind}{c:UInt8}(hs:E.P.underlying t=some (.int k'))(hd:E.P.underlying t2=some .string)(hx:fr.ev x=some (.int .u8 c.toNat))(hc:c.toNat < 128):
  Ev E fr K L ⟨dst,.convert t t2 x,ty,pos,aft,g⟩ (str [c]):=fun a w f j=>by
 simp only[execOp,f.ev hx];refine eR ?_;unfold convert;rw[aV (run_underlying hs w),aV (run_underlying hd w)]
 show Result.ok (Value.string (Utf8.encode _)) w=_
 have e1:Utf8.encode (c.toNat:Int)=⟨[c].toArray⟩:=by
  unfold Utf8.encode;have hv:Utf8.valid (c.toNat:Int)=true:=by unfold Utf8.valid;simp;omega
  simp only[hv,if_true,Int.toNat_natCast];rw[if_pos aI];simp
 rw[e1]
end
end Go.SL
end
section
namespace Go.SL
open Go.MapKept
section
variable{E:Env}{fr:Fr}{K:Hl}{L L':List Asn}{Q:Post}{dst:Option Tmp}{ty:TypeId}{pos:String}{aft:Array Edge}{g:Option (Nat×Bool)}{x y m:Operand}{t t' kt et b c:Nat}{v z:Value}{k:List UInt8}{es:List Ent}
theorem jN(hm:E.P.underlying t=some (.map kt et))(hk:E.P.underlying kt=some .string)(hx:fr.ev m=some (.map (some b)))(hy:fr.ev x=some (str k))(hv:fr.ev y=some v)(hn:es.any (fun e=>decide (k=e.1))=false)
  (hF:Fnd (pt b (mapO es c)) (pt b (mapO (es++[(k,v,c)]) (c+1))) L L'):EfS E fr K L ⟨dst,.insert t m x y,ty,pos,aft,g⟩ (fun _ K' L''=>K'=K∧L''=L'):=by
 intro a w f j;have hb:=j.mem hF;have hr:(execOp a.eval ⟨dst,.insert t m x y,ty,pos,aft,g⟩).run E.P w=.ok .skip {w with heap:=w.heap.setIfInBounds b (mapO (es++[(k,v,c)]) (c+1))}:=by
  simp only[execOp,f.ev hx,f.ev hy,f.ev hv];rw[aV (zR hm hk hb hn)];rfl
 have hs:=MapKept.heap_set (o':=mapO (es++[(k,v,c)]) (c+1)) hb;exact⟨_,_,_,_,.inr ⟨hr,rfl⟩,⟨rfl,rfl⟩,Hl.le_refl _,j.writeAt hF (by simp) hs.1 hs.2⟩
end
theorem aQV{fn:Func}{t:Tmp}{ty:TypeId}(h:fn.results= #[.cell t ty])(tmps:Array Value)(P:Program)(w:World){ad:Addr}{v:Value}(ha:tmps.getD t undef=.pointer (some ad))(hl:(loadVar ty ad).run P w=.ok v w):
  (results fn tmps).run P w=.ok v w:=by
 have e1:tmps[t]?.getD undef=.pointer (some ad):=by simpa using ha
 simp[results,h,e1,asAddr,hl]
theorem aFP{P:Program}{fn:Func}{n:Nat}{w0:World}{F K0 K:Hl}{fr:Fr}{L L1 M:List Asn}{R:Ending→Hl→List Asn→Prop}{t b m:Nat}{T u:TypeId}{l vs:List Value}{fz:Nat×Nat}
  (hr:fn.results= #[.cell t T]) (hx:fr.get t=some (ptr b)) (hT:aggB P T m=true) (hs:Sees K L b (aZ l u fz)) (hv:l.take m=vs) (hn:vs.length=m) (le:K0.le K) (hL:Tks L1 L M) (h:R (.returned (.agg vs.toArray)) K L1):
  D ⟨P,n,[],w0,F⟩ .ret fr K L (yK P fn w0 F K0 R):=fun a w f i=>by
 refine⟨f.defers,.agg vs.toArray,?_,K,L1,h,le,(i.imp hL.sat).left⟩
 refine aQV hr _ _ _ (ad:=⟨b,0,none⟩) (by simp[f.get _ _ hx]) ?_;obtain⟨h1,h2⟩:=aIF hT w;unfold loadVar;rw[aV h1];simp only[if_true];rw[aV h2];have:=mW (P:=P) (hs.at i) m vs 0 0 [] (by simpa using hv) hn;simp only[List.nil_append]at this;unfold loadCells;rw[aV this];rfl
end Go.SL
end
section
namespace Go.SL
section
variable{E:Env}{c:Code}{ops:Array Oper}{x:Exit}{fr:Fr}{K:Hl}{L:List Asn}{Q:Post}{α:Type}{z:Bool}{k:El α}{v:Value}{xs:List α}
theorem mJ(h:∀K',K.le K'→Ksl k K' v xs→D E x fr K' L Q):D E x fr K (sl z k v xs::L) Q:=fun a w f i=>let ⟨_,h1,h2,h3⟩:=i.settleSl;h _ h1 h2 a w f h3
end
theorem yT{E:Env}{x:Exit}{fr:Fr}{K K2:Hl}{L:List Asn}{Q:Post}(le:K.le K2)(h:D E x fr K L Q):D E x fr K2 L Q:=fun a w f i=>h a w f (i.forget le)
section
variable{E:Env}{c x y:Code}{fr:Fr}{K:Hl}{L:List Asn}{Q:Post}{α1 α2 α3 α4 α5 α6 α7:Type}
def Rnd7(E:Env)(I:α1→α2→α3→α4→α5→α6→α7→Prop)(fr':α1→α2→α3→α4→α5→α6→α7→Fr)(K':α1→α2→α3→α4→α5→α6→α7→Hl)(L':α1→α2→α3→α4→α5→α6→α7→List Asn)(μ:α1→α2→α3→α4→α5→α6→α7→Nat)(m:Nat):Act→World→Prop:=
 fun a w=>∃i1 i2 i3 i4 i5 i6 i7,I i1 i2 i3 i4 i5 i6 i7∧μ i1 i2 i3 i4 i5 i6 i7 < m∧FrOk E.n E.ds (fr' i1 i2 i3 i4 i5 i6 i7) a∧In E.w0 E.F (K' i1 i2 i3 i4 i5 i6 i7) (L' i1 i2 i3 i4 i5 i6 i7) w
theorem aQ9(I:α1→α2→α3→α4→α5→α6→α7→Prop)(fr':α1→α2→α3→α4→α5→α6→α7→Fr)(K':α1→α2→α3→α4→α5→α6→α7→Hl)(L':α1→α2→α3→α4→α5→α6→α7→List Asn)(μ:α1→α2→α3→α4→α5→α6→α7→Nat)(i10:α1)(i20:α2)(i30:α3)(i40:α4)(i50:α5)(i60:α6)(i70:α7)(h0:I i10 i20 i30 i40 i50 i60 i70)(k:Kp fr (fr' i10 i20 i30 i40 i50 i60 i70))(hK:K' i10 i20 i30 i40 i50 i60 i70=K)(hL:∀h,Sat L h→Sat (L' i10 i20 i30 i40 i50 i60 i70) h)
  (round:∀i1 i2 i3 i4 i5 i6 i7,I i1 i2 i3 i4 i5 i6 i7→T E c (fr' i1 i2 i3 i4 i5 i6 i7) (K' i1 i2 i3 i4 i5 i6 i7) (L' i1 i2 i3 i4 i5 i6 i7) (Exit.then (Rnd7 E I fr' K' L' μ (μ i1 i2 i3 i4 i5 i6 i7)) Q)):T E (.loop c) fr K L Q:=by
 refine eJ (fun p:α1×α2×α3×α4×α5×α6×α7=>I p.1 p.2.1 p.2.2.1 p.2.2.2.1 p.2.2.2.2.1 p.2.2.2.2.2.1 p.2.2.2.2.2.2) (fun p=>fr' p.1 p.2.1 p.2.2.1 p.2.2.2.1 p.2.2.2.2.1 p.2.2.2.2.2.1 p.2.2.2.2.2.2) (fun p=>K' p.1 p.2.1 p.2.2.1 p.2.2.2.1 p.2.2.2.2.1 p.2.2.2.2.2.1 p.2.2.2.2.2.2) (fun p=>L' p.1 p.2.1 p.2.2.1 p.2.2.2.1 p.2.2.2.2.1 p.2.2.2.2.2.1 p.2.2.2.2.2.2) (fun p=>μ p.1 p.2.1 p.2.2.1 p.2.2.2.1 p.2.2.2.2.1 p.2.2.2.2.2.1 p.2.2.2.2.2.2) (i10,i20,i30,i40,i50,i60,i70) h0 k hK hL ?_;rintro⟨i1,i2,i3,i4,i5,i6,i7⟩ hI a w f w1;refine Code.wp_mono ?_ (round i1 i2 i3 i4 i5 i6 i7 hI a w f w1)
 exact aBP fun a w ⟨i1',i2',i3',i4',i5',i6',i7',h1,h2,h3,h4⟩=>⟨(i1',i2',i3',i4',i5',i6',i7'),h1,h2,h3,h4⟩
theorem sX{I:α1→α2→α3→α4→α5→α6→α7→Prop}{fr':α1→α2→α3→α4→α5→α6→α7→Fr}{K':α1→α2→α3→α4→α5→α6→α7→Hl}{L':α1→α2→α3→α4→α5→α6→α7→List Asn}{μ:α1→α2→α3→α4→α5→α6→α7→Nat}{m:Nat}(i1:α1)(i2:α2)(i3:α3)(i4:α4)(i5:α5)(i6:α6)(i7:α7)(hj:I i1 i2 i3 i4 i5 i6 i7)(hlt:μ i1 i2 i3 i4 i5 i6 i7 < m)(k:Kp fr (fr' i1 i2 i3 i4 i5 i6 i7))(hK:K' i1 i2 i3 i4 i5 i6 i7=K)(hL:∀h,Sat L h→Sat (L' i1 i2 i3 i4 i5 i6 i7) h):
  D E .normal fr K L (Exit.then (Rnd7 E I fr' K' L' μ m) Q):=
 fun a w f q=>⟨i1,i2,i3,i4,i5,i6,i7,hj,hlt,f.keep k,by rw[hK];exact q.imp hL⟩
end
def aDA(P:Program)(fn:Func)(w0:World)(F K0:Hl)(R:Ending→Hl→List Asn→Prop):Post:=
 bodyPostD P fn fun e w'=>∃K' L',R e K' L'∧K0.le K'∧In w0 F K' L' w'
theorem aLN{P:Program}{f:FuncId}{fn:Func}{c:Code}{args:List Value}{n:Nat}{K:Hl}{L:List Asn}{R:Ending→Hl→List Asn→Prop}
  (hf:P.funcs[f]?=some fn) (hb:fn.body=some c) (hn:fn.ntmps=n) (hl:Nat.ble args.length n=true) (hname:(fn.name== "runtime.NumGoroutine")=false)
  (h:∀(F:Hl) (w:World),T ⟨P,n,[],w,F⟩ c (Fr.init 0 args n) K L (aDA P fn w F K R)):Sp P f args K L R:=by
 refine⟨⟨fn,hf,hname,by simp[hb]⟩,fun F w i=>calls_of_wp_defers hf hb (h F w _ _ ⟨rfl,?_,?_⟩ i)⟩
 ·have:args.length≤n:=Nat.le_of_ble_eq_true hl;simp[hn];omega
 intro k v e;obtain⟨_,h2⟩:=zI e;have hk:k < args.length:=by
  rcases Nat.lt_or_ge k args.length with h|h
  ·exact h
  simp[List.getElem?_eq_none h]at h2
 show (args.toArray++Array.replicate _ _)[k]?=some v
 rw[Array.getElem?_append_left gCE]
 simpa using h2
abbrev dfr(f:FuncId)(caps:Array Value):Deferred:={target:=.fn (.func f) caps,args:= #[]}
section
variable{E:Env}{fr:Fr}{K:Hl}{L:List Asn}{Q:Post}{ops:Array Oper}{rest:List Oper}
theorem aT0{ty:TypeId}{pos:String}{aft:Array Edge}{fv:Operand}{f:FuncId}{caps:Array Value}(hf:fr.ev fv=some (.func (.func f) #[] caps))
  (h:OL ⟨E.P,E.n,dfr f caps::E.ds,E.w0,E.F⟩ ops rest fr K L Q):OL E ops (⟨none,.defer ⟨.value fv,#[],#[]⟩,ty,pos,aft,none⟩::rest) fr K L Q:=by
 intro a w f1 i;refine wpList_plain rfl fun k hk=>?_;unfold Oper.wp;have:(execOp a.eval ⟨none,.defer ⟨.value fv,#[],#[]⟩,ty,pos,aft,none⟩).run E.P w=.ok (.defer (dfr f caps)) w:=by
  simp only[execOp,resolve,f1.ev hf,Deferred.ofValue,bind,pure,Sem.bind];simp[Sem.run,dfr]
 rw[this];refine hk _ _ (h _ _ ⟨?_,f1.size,fun k v e=>f1.get k v e⟩ i)
 show dfr f caps::a.defers=_
 rw[f1.defers]
end
def SpD(P:Program)(f:FuncId)(args:List Value)(K:Hl)(L:List Asn)(u:FrameMode)(R:Ending→FrameMode→Hl→List Asn→Prop):Prop:=
 (∃fn,P.funcs[f]?=some fn∧(fn.name== "runtime.NumGoroutine")=false∧fn.body.isSome=true)∧
 ∀F w,In w F K L w→CallsD P f args.toArray u w fun e u' w'=>∃K' L',R e u' K' L'∧K.le K'∧In w F K' L' w'
theorem bT8{P:Program}{w:World}{ρ:Operand→Value}{d:Nat}{ty:TypeId}{pos:String}{aft:Array Edge}:(execOp ρ ⟨some d,.call ⟨.builtin .recover,#[],#[]⟩,ty,pos,aft,none⟩).run P w=.ok .recover w:=by
 simp only[execOp,resolve,bind,pure,Sem.bind];rfl
theorem aQ3{P:Program}{f:FuncId}{fn:Func}{rest:Code}{args:List Value}{n d d2:Nat}{ty ty2:TypeId}{pos pos2:String}{aft aft2:Array Edge}{id:Nat}{K:Hl}{L:List Asn}{R:Ending→Hl→List Asn→Prop}{u u':FrameMode}{rv:Value}
  (hf:P.funcs[f]?=some fn) (hb:fn.body=some (.seq (.region id #[⟨some d,.call ⟨.builtin .recover,#[],#[]⟩,ty,pos,aft,none⟩,⟨some d2,.assign (.tmp d),ty2,pos2,aft2,none⟩] false) rest)) (hn:fn.ntmps=n) (hl:Nat.ble args.length n=true) (hd:Nat.blt d n=true) (hd2:Nat.blt d2 n=true) (hname:(fn.name== "runtime.NumGoroutine")=false)
  (hrec:∀(c:Frame) (cs:List Frame),c.mode=u→recoverD (c::cs)=some (rv,{c with mode:=u'}::cs)∨(recoverD (c::cs)=none∧rv=.nilIface∧u'=u))
  (h:∀(F:Hl) (w:World),T ⟨P,n,[],w,F⟩ rest ((d2,rv)::(d,rv)::Fr.init 0 args n) K L (yK P fn w F K R)):
  SpD P f args K L u fun e u'' K' L'=>u''=u'∧R e K' L':=by
 refine⟨⟨fn,hf,hname,by simp[hb]⟩,fun F w i=>callsD_of_wpS hf hb fun c0 cs hu=>?_⟩
 have hlen:args.length≤n:=Nat.le_of_ble_eq_true hl;have f0:FrOk n [] (Fr.init 0 args n) {tmps:=args.toArray++Array.replicate (fn.ntmps - args.toArray.size) undef,defers:=[]}:=by
  refine⟨rfl,by simp[hn];omega,?_⟩
  intro k v e;obtain⟨_,h2⟩:=zI e;have hk:k < args.length:=by
   rcases Nat.lt_or_ge k args.length with h|h
   ·exact h
   simp[List.getElem?_eq_none h]at h2
  show (args.toArray++Array.replicate _ _)[k]?=some v
  rw[Array.getElem?_append_left gCE]
  simpa using h2
 have f2:=(f0.put hd rv).put hd2 rv;refine wpS_seq (wpS_region ?_)
 have fin:∀cs',cs'={c0 with mode:=u'}::cs→(rest.wpS P (bodyPostS P fn c0 cs fun e u'' w'=>∃K' L',(u''=u'∧R e K' L')∧K.le K'∧In w F K' L' w') (({tmps:=args.toArray++Array.replicate (fn.ntmps - args.toArray.size) undef,defers:=[]:Act}.put (some d) rv).put (some d2) rv) cs' w):=by
  intro cs' hcs;refine wpS_of_wp (Code.wp_mono ?_ (h F w _ _ f2 i))
  intro e a' w' q;subst hcs;cases e with
  |normal=>obtain⟨h1,v,h2,K',L',h3,h4,h5⟩:=q;exact⟨h1,_,rfl,v,h2,K',L',⟨rfl,h3⟩,h4,h5⟩
  |ret=>obtain⟨h1,v,h2,K',L',h3,h4,h5⟩:=q;exact⟨h1,_,rfl,v,h2,K',L',⟨rfl,h3⟩,h4,h5⟩
  |panic ch=>obtain⟨h1,K',L',h3,h4,h5⟩:=q;exact⟨h1,_,rfl,K',L',⟨rfl,h3⟩,h4,h5⟩
  |exit id=>exact q.elim
  |goto l=>exact q.elim
  |outgrown=>obtain⟨K',L',h3,h4,h5⟩:=q;exact⟨_,K',L',⟨rfl,h3⟩,h4,h5⟩
 have ev:∀(a:Act) (w:World),(execOp (a.put (some d) rv).eval ⟨some d2,.assign (.tmp d),ty2,pos2,aft2,none⟩).run P w=.ok (.value ((a.put (some d) rv).eval (.tmp d))) w:=fun a w=>rfl
 have evd:({tmps:=args.toArray++Array.replicate (fn.ntmps - args.toArray.size) undef,defers:=[]:Act}.put (some d) rv).eval (.tmp d)=rv:=(f0.put hd rv).ev (x:=.tmp d) (by simp[Fr.ev,Fr.get])
 show wpOpsS P _ _ [0,1] _ _ _
 unfold wpOpsS;simp only[List.getElem?_toArray,List.getElem?_cons_zero,Region.wanted,if_true];rw[bT8];simp only[];rcases hrec c0 cs hu with hr|⟨hr,e1,e2⟩
 ·rw[hr];simp only[];unfold wpOpsS;simp only[List.getElem?_toArray,List.getElem?_cons_succ,List.getElem?_cons_zero,Region.wanted,if_true];rw[ev];simp only[];rw[evd];exact fin _ rfl
 rw[hr];simp only[];unfold wpOpsS;simp only[List.getElem?_toArray,List.getElem?_cons_succ,List.getElem?_cons_zero,Region.wanted,if_true];have ev':∀(a:Act) (w:World),(execOp (a.put (some d) .nilIface).eval ⟨some d2,.assign (.tmp d),ty2,pos2,aft2,none⟩).run P w=.ok (.value ((a.put (some d) .nilIface).eval (.tmp d))) w:=fun a w=>rfl
 rw[ev'];simp only[];subst e1;rw[evd];refine fin _ ?_;rw[e2,←hu]
theorem aB3(c:Frame)(cs:List Frame)(h:c.mode=.returning):recoverD (c::cs)=some (.nilIface,{c with mode:=.returning}::cs)∨(recoverD (c::cs)=none∧Value.nilIface=.nilIface∧FrameMode.returning=.returning):=
 .inr ⟨by cases c;simp only at h;subst h;rfl,rfl,rfl⟩
theorem aB2{v:Value}(c:Frame)(cs:List Frame)(h:c.mode=.panicking [{v,recovered:=false}]):
  recoverD (c::cs)=some (v,{c with mode:=.panicking [{v,recovered:=true}]}::cs)∨(recoverD (c::cs)=none∧v=.nilIface∧FrameMode.panicking [{v,recovered:=true}]=.panicking [{v,recovered:=false}]):=
 .inl (by cases c;simp only at h;subst h;rfl)
section
variable{P:Program}{fn:Func}{n:Nat}{w0:World}{F K0 K:Hl}{fr:Fr}{L L1 L2:List Asn}{R:Ending→Hl→List Asn→Prop}
theorem aKI{f:FuncId}{caps:Array Value}{u:FrameMode}{RD:Ending→FrameMode→Hl→List Asn→Prop}{a:Act}{w:World}(fo:FrOk n [dfr f caps] fr a)(i:In w0 F K L w)(hu:u≠.run)(hL:Tks L1 L L2)(hs:SpD P f caps.toList K L1 u RD)
  (hret:∀v u' K' L',RD (.returned v) u' K' L'→K.le K'→settle u'=.returning∧∀w',In w0 F K' (L'++L2) w'→∃v,(results fn a.tmps).run P w'=.ok v w'∧∃K'' L'',R (.returned v) K'' L''∧K0.le K''∧In w0 F K'' L'' w')
  (hpan:∀ch u' K' L',¬RD (.panicked ch) u' K' L') (hout:∀u' K' L',¬RD .outgrown u' K' L'):
  Leaves P fn a.tmps (fun e w'=>∃K' L',R e K' L'∧K0.le K'∧In w0 F K' L' w') a.defers u w:=by
 rw[fo.defers];obtain⟨F',i1,back⟩:=(i.imp hL.sat).hide;obtain⟨⟨g,g1,g2,g3⟩,hs⟩:=hs;refine leaves_cons hu (f:=f) (args:=caps.toList.toArray) ?_ ((hs F' w i1).mono fun e u' w' ⟨K',L',r,le,j⟩=>?_)
 ·have:=yY (vs:=caps) g1 g2 g3 w;simp only[invoke]
  simpa using this
 cases e with
 |returned v=>
  obtain⟨h1,h2⟩:=hret _ _ _ _ r le;simp only[];rw[h1];exact h2 w' (back j)
 |panicked ch=>exact absurd r (hpan _ _ _ _)
 |outgrown=>exact absurd r (hout _ _ _)
end
theorem qP{P:Program}{w:World}{T u:TypeId}{b:Nat}{l:List Value}{fz:Nat×Nat}{v:Value}(ht:eZ P T=true)(h:w.heap[b]?=some (aZ l u fz))(hv:l[0]?=some v):(loadVar T ⟨b,0,none⟩).run P w=.ok v w:=by
 obtain⟨h1,h2⟩:=rM ht w;unfold loadVar;rw[aV h1];exact zK h hv
theorem aLE{P:Program}{fn:Func}{t1 t2:Tmp}{T1 T2:TypeId}(h:fn.results= #[.cell t1 T1,.cell t2 T2])(tmps:Array Value)(w:World){a1 a2:Addr}{v1 v2:Value}(e1:tmps.getD t1 undef=.pointer (some a1))(e2:tmps.getD t2 undef=.pointer (some a2))
  (l1:(loadVar T1 a1).run P w=.ok v1 w) (l2:(loadVar T2 a2).run P w=.ok v2 w):(results fn tmps).run P w=.ok (.tuple #[v1,v2]) w:=by
 have e1:tmps[t1]?.getD undef=.pointer (some a1):=by simpa using e1
 have e2:tmps[t2]?.getD undef=.pointer (some a2):=by simpa using e2
 simp[results,h,e1,e2,asAddr,Sem.run_bind,Result.andThen,l1,l2]
theorem aUJ{P:Program}{fn:Func}{t1 t2 t3:Tmp}{T1 T3:TypeId}(h:fn.results= #[.cell t1 T1,.tmp t2,.cell t3 T3])(tmps:Array Value)(w:World){a1 a3:Addr}{v1 v2 v3:Value}(e1:tmps.getD t1 undef=.pointer (some a1))(e2:tmps.getD t2 undef=v2)(e3:tmps.getD t3 undef=.pointer (some a3))
  (l1:(loadVar T1 a1).run P w=.ok v1 w) (l3:(loadVar T3 a3).run P w=.ok v3 w):(results fn tmps).run P w=.ok (.tuple #[v1,v2,v3]) w:=by
 have e1:tmps[t1]?.getD undef=.pointer (some a1):=by simpa using e1
 have e3:tmps[t3]?.getD undef=.pointer (some a3):=by simpa using e3
 have e2:tmps[t2]?.getD undef=v2:=by simpa using e2
 simp[results,h,e1,e2,e3,asAddr,Sem.run_bind,Result.andThen,l1,l3]
theorem Way.ne{x:Exit}{u:FrameMode}(h:Way x u):u≠.run:=by cases h <;> simp
section
variable{P:Program}{fn:Func}{n:Nat}{w0:World}{F K0 K:Hl}{fr:Fr}{L L1 L2 M:List Asn}{R:Ending→Hl→List Asn→Prop}{x:Exit}{u u':FrameMode}{f:FuncId}{caps:Array Value}{t1 t2 t3:Nat}{T1 T2 T3 b1 b2 b3:Nat}{RD:Ending→Hl→List Asn→Prop}
theorem bGL(hw:Way x u)(hr:fn.results= #[.cell t1 T1,.cell t2 T2])(s1:eZ P T1=true)(s2:eZ P T2=true)(g1:fr.get t1=some (ptr b1))(g2:fr.get t2=some (ptr b2))(hL:Tks L1 L L2)
  (hs:SpD P f caps.toList K L1 u fun e u'' K' L'=>u''=u'∧RD e K' L') (hset:settle u'=.returning)
  (hret:∀e K' L',RD e K' L'→(∃v,e=.returned v)∧(K.le K'→∃v1 v2 M,(∀h,Sat (L'++L2) h→Sat (pt b1 (aZ [v1] T1)::pt b2 (aZ [v2] T2)::M) h)∧R (.returned (.tuple #[v1,v2])) K' M∧K0.le K')):
  D ⟨P,n,[dfr f caps],w0,F⟩ x fr K L (aDA P fn w0 F K0 R):=fun a w fo i=>by
 refine hw.post (aKI fo i hw.ne hL hs ?_ ?_ ?_)
 ·rintro v u'' K' L' ⟨rfl,hrd⟩ le;refine⟨hset,fun w' j=>?_⟩
  obtain⟨_,h⟩:=hret _ _ _ hrd;obtain⟨v1,v2,M,hsat,hR,le0⟩:=h le;have j2:=j.imp hsat;have c1:=j2.piece;have c2:=(j2.imp (fun h=>fL)).piece;have j3:In w0 F K' M w':=(j2.drop).drop;exact⟨_,aLE hr a.tmps w' (a1:=⟨b1,0,none⟩) (a2:=⟨b2,0,none⟩) (by simp[fo.get _ _ g1]) (by simp[fo.get _ _ g2]) (qP s1 c1 rfl) (qP s2 c2 rfl),K',M,hR,le0,j3⟩
 ·rintro ch u'' K' L' ⟨_,hrd⟩;obtain⟨⟨v,he⟩,_⟩:=hret _ _ _ hrd;cases he
 rintro u'' K' L' ⟨_,hrd⟩;obtain⟨⟨v,he⟩,_⟩:=hret _ _ _ hrd;cases he
theorem bGM(hw:Way x u)(hr:fn.results= #[.cell t1 T1,.tmp t2,.cell t3 T3])(s1:eZ P T1=true)(s3:eZ P T3=true){v2:Value}(g1:fr.get t1=some (ptr b1))(g2:fr.get t2=some v2)(g3:fr.get t3=some (ptr b3))(hL:Tks L1 L L2)
  (hs:SpD P f caps.toList K L1 u fun e u'' K' L'=>u''=u'∧RD e K' L') (hset:settle u'=.returning)
  (hret:∀e K' L',RD e K' L'→(∃v,e=.returned v)∧(K.le K'→∃v1 v3 M,(∀h,Sat (L'++L2) h→Sat (pt b1 (aZ [v1] T1)::pt b3 (aZ [v3] T3)::M) h)∧R (.returned (.tuple #[v1,v2,v3])) K' M∧K0.le K')):
  D ⟨P,n,[dfr f caps],w0,F⟩ x fr K L (aDA P fn w0 F K0 R):=fun a w fo i=>by
 refine hw.post (aKI fo i hw.ne hL hs ?_ ?_ ?_)
 ·rintro v u'' K' L' ⟨rfl,hrd⟩ le;refine⟨hset,fun w' j=>?_⟩
  obtain⟨_,h⟩:=hret _ _ _ hrd;obtain⟨v1,v3,M,hsat,hR,le0⟩:=h le;have j2:=j.imp hsat;have c1:=j2.piece;have c2:=(j2.imp (fun h=>fL)).piece;have j3:In w0 F K' M w':=(j2.drop).drop;exact⟨_,aUJ hr a.tmps w' (a1:=⟨b1,0,none⟩) (a3:=⟨b3,0,none⟩) (by simp[fo.get _ _ g1]) (by simp[fo.get _ _ g2]) (by simp[fo.get _ _ g3]) (qP s1 c1 rfl) (qP s3 c2 rfl),K',M,hR,le0,j3⟩
 ·rintro ch u'' K' L' ⟨_,hrd⟩;obtain⟨⟨v,he⟩,_⟩:=hret _ _ _ hrd;cases he
 rintro u'' K' L' ⟨_,hrd⟩;obtain⟨⟨v,he⟩,_⟩:=hret _ _ _ hrd;cases he
theorem bL9(hr:fn.results= #[.cell t1 T1,.cell t2 T2])(s1:eZ P T1=true)(s2:eZ P T2=true)(g1:fr.get t1=some (ptr b1))(g2:fr.get t2=some (ptr b2)){v1 v2:Value}(hL:Tks [pt b1 (aZ [v1] T1),pt b2 (aZ [v2] T2)] L M)(le:K0.le K)(h:R (.returned (.tuple #[v1,v2])) K M):
  D ⟨P,n,[],w0,F⟩ .ret fr K L (aDA P fn w0 F K0 R):=fun a w fo i=>by
 show Leaves P fn a.tmps _ a.defers .returning w
 rw[fo.defers];have j2:=i.imp hL.sat;have c1:=j2.piece;have c2:=(j2.imp (fun h=>fL)).piece;have j3:In w0 F K M w:=(j2.drop).drop;exact⟨_,aLE hr a.tmps w (a1:=⟨b1,0,none⟩) (a2:=⟨b2,0,none⟩) (by simp[fo.get _ _ g1]) (by simp[fo.get _ _ g2]) (qP s1 c1 rfl) (qP s2 c2 rfl),K,M,h,le,j3⟩
end
section
variable{α:Type}{k:El α}{z:Bool}{v:Value}{xs:List α}
theorem bJ7{L:List Asn}{h:Hl}(hx:xs≠[])(hs:Sat (sl z k v xs::L) h):∃b cap junk fz,v=.slice (some ⟨b,0,none⟩) xs.length cap∧xs.length≤cap∧junk.length=(cap - xs.length)*k.sz∧FzOk (cap*k.sz) fz∧Sat (pt b (aZ (k.cs xs++junk) k.e fz)::L) h:=by
 obtain⟨a,l,ha,hl,hd,he⟩:=hs;rcases ha with ⟨_,e,_⟩|⟨b,cap,junk,fz,h1,h2,h3,h4,h5,h6⟩
 ·exact absurd e hx
 exact⟨b,cap,junk,fz,h1,h3,h4,h5,a,l,h6,hl,hd,he⟩
theorem bJ8{L:List Asn}{h:Hl}{b cap:Nat}{junk cells:List Value}{fz:Nat×Nat}(hz:z=true→xs≠[])(hc:xs.length≤cap)(hj:junk.length=(cap - xs.length)*k.sz)(hf:FzOk (cap*k.sz) fz)(he:cells=k.cs xs++junk)
  (hs:Sat (pt b (aZ cells k.e fz)::L) h):Sat (sl z k (.slice (some ⟨b,0,none⟩) xs.length cap) xs::L) h:=by
 subst he;obtain⟨a,l,ha,hl,hd,hh⟩:=hs;exact⟨a,l,.inr ⟨b,cap,junk,fz,rfl,hz,hc,hj,hf,ha⟩,hl,hd,hh⟩
theorem bR7{E:Env}{c:Code}{fr:Fr}{K:Hl}{L:List Asn}{Q:Post}(hx:xs≠[])(h:∀b cap junk fz,v=.slice (some ⟨b,0,none⟩) xs.length cap→xs.length≤cap→junk.length=(cap - xs.length)*k.sz→FzOk (cap*k.sz) fz→T E c fr K (pt b (aZ (k.cs xs++junk) k.e fz)::L) Q):
  T E c fr K (sl z k v xs::L) Q:=fun a w f i=>by
 obtain⟨x,hs,r⟩:=i.rep;obtain⟨b,cap,junk,fz,h1,h2,h3,h4,h5⟩:=bJ7 hx hs;exact h b cap junk fz h1 h2 h3 h4 a w f ⟨i.os,i.tape,i.output,i.size,x,h5,r⟩
end
theorem bEI(b off n c m:Nat):nP (.slice (some ⟨b,off,none⟩) n c) m=ptr b (off+m):=by
 simp[nP,Addr.add]
theorem aJQ{α:Type}{k:El α}{xs:List α}{E:Env}{fr:Fr}{K:Hl}{L:List Asn}{dst:Option Tmp}{ty:TypeId}{pos:String}{aft:Array Edge}{g:Option (Nat×Bool)}{x y:Operand}{t:TypeId}{b off n c j m:Nat}{jv:Int}{kk:IntKind}(hm:off+j*k.sz=m)(ht:jS E.P t k.e k.sz=true)(hx:fr.ev x=some (.slice (some ⟨b,off,none⟩) n c))(hs:SeesSl k K L (.slice (some ⟨b,off,none⟩) n c) xs)(hy:fr.ev y=some (.int kk jv))(hjv:jv=(j:Int))(hj:j < xs.length):
  Ev E fr K L ⟨dst,.indexAddr t x y,ty,pos,aft,g⟩ (ptr b m):=by
 have:=bE (dst:=dst) (ty:=ty) (pos:=pos) (aft:=aft) (g:=g) ht hx hs hy hjv hj;rw[bEI,hm]at this;exact this
end Go.SL
end
section
namespace Go.SL
open Go.MapKept
section
variable{E:Env}{fr:Fr}{K:Hl}{L L':List Asn}{Q:Post}{dst:Option Tmp}{ty:TypeId}{pos:String}{aft:Array Edge}{g:Option (Nat×Bool)}{x y m:Operand}{t t' kt et b c:Nat}{v z:Value}{k:List UInt8}{es:List Ent}
theorem aWZ(hm:E.P.underlying t=some (.map kt et))(hk:E.P.underlying kt=some .string)(hz:gH E.P et=some z)(hx:fr.ev x=some (.map (some b)))(hy:fr.ev y=some (str k))(hs:Sees K L b (mapO es c)):
  Ev E fr K L ⟨dst,.lookup t x y false,ty,pos,aft,g⟩ ((mget es k).getD z):=fun a w f j=>by
 simp only[execOp,f.ev hx,f.ev hy];refine eR ?_;have hb:=hs.at j;have h1:(Instr.checkKey (es.map ent).toArray.isEmpty 10000 kt (str k)).run E.P w=.ok () w:=run_checkKey hk (d:=.string) (k:=str k) trivial _ 9999;have h2:=run_findKey (w:=w) (kt:=kt) hk (rJ k es 0);have h3:(zeroValue et).run E.P w=.ok z w:=by
  unfold gH at hz;cases hi:E.P.info? et with
  |none=>simp[hi]at hz
  |some inf=>simp[hi]at hz;simp only[zeroValue,typeInfo,program,bind,Sem.bind,pure,Sem.run,hi,hz]
 have h4:=aA9 k es 0;unfold Instr.lookup;rw[aV (run_underlying hm w)];simp only[]
 show ((getObj b)>>=fun _=>_).run E.P w=_
 rw[aV (MapKept.run_getObj_map hb)];simp only[];rw[aV (vS _ _),aV h1]
 show ((Instr.findKey kt (str k) (es.map ent))>>=fun _=>_).run E.P w=_
 rw[aV h2,←h4];cases nK k es 0 with
 |some p=>rfl
 |none=>
  show ((zeroValue et)>>=fun _=>_).run E.P w=_
  rw[aV h3];rfl
end
end Go.SL
end
section
namespace Go.Plain
theorem takeWhile_stop{α:Type}(p:α→Bool):∀(l:List α) (k:Nat),k≤l.length→(l.take k).all p=true→(∀c,l[k]?=some c→p c=false)→l.takeWhile p=l.take k
 | [],k,hk,_,_=>by simp
 |x::l,0,_,_,h=>by simp[h x (by simp)]
 |x::l,k+1,hk,ha,h=>by
  simp only[List.take_succ_cons,List.all_cons,Bool.and_eq_true]at ha;simp only[List.takeWhile_cons,ha.1,if_true,List.take_succ_cons];rw[takeWhile_stop p l k gCE ha.2 (fun c hc=>h c (by simpa using hc))]
theorem take_all_succ{α:Type}{p:α→Bool}{l:List α}{k:Nat}{c:α}(hc:l[k]?=some c)(h:(l.take k).all p=true)(hp:p c=true):(l.take (k+1)).all p=true:=by
 have hk:k < l.length:=by
  rcases Nat.lt_or_ge k l.length with h|h
  ·exact h
  simp[List.getElem?_eq_none h]at hc
 rw[List.take_succ_eq_append_getElem hk,List.all_append,h];have:l[k]=c:=by simpa[List.getElem?_eq_getElem hk]using hc
 simp[this,hp]
def mp{α:Type}(f:α→α)(s:List α)(i:Nat):List α:=(s.take i).map f++s.drop i
theorem mp_zero{α:Type}(f:α→α)(s:List α):mp f s 0=s:=by simp[mp]
theorem mp_len{α:Type}(f:α→α)(s:List α)(i:Nat):(mp f s i).length=s.length:=by simp[mp];omega
theorem mp_end{α:Type}(f:α→α)(s:List α){i:Nat}(h:s.length≤i):mp f s i=s.map f:=by simp[mp,List.take_of_length_le h,List.drop_of_length_le h]
theorem mp_get{α:Type}(f:α→α)(s:List α)(i:Nat):(mp f s i)[i]?=s[i]?:=by
 unfold mp;rcases Nat.lt_or_ge i s.length with h|h
 ·rw[List.getElem?_append_right gAI];simp only[List.length_map,List.length_take,List.getElem?_drop]
  congr 1;omega
 rw[List.getElem?_eq_none h,List.getElem?_eq_none];simp;omega
theorem mp_set{α:Type}{f:α→α}{s:List α}{i:Nat}{c:α}(h:s[i]?=some c):(mp f s i).set i (f c)=mp f s (i+1):=by
 unfold mp;have hi:i < s.length:=by
  rcases Nat.lt_or_ge i s.length with h'|h'
  ·exact h'
  simp[List.getElem?_eq_none h']at h
 have hc:s[i]=c:=by simpa[List.getElem?_eq_getElem hi]using h
 have hl:((s.take i).map f).length=i:=by simp;omega
 rw[List.set_append_right _ _ (by rw[hl];exact Nat.le_refl _),hl,Nat.sub_self,List.drop_eq_getElem_cons hi,List.set_cons_zero,List.take_succ_eq_append_getElem hi,List.map_append,hc];simp
theorem mp_same{α:Type}{f:α→α}{s:List α}{i:Nat}{c:α}(h:s[i]?=some c)(hf:f c=c):mp f s i=mp f s (i+1):=by
 rw[←mp_set h,hf];have:=mp_get f s i;rw[h]at this
 apply List.ext_getElem?
 intro j;rw[List.getElem?_set];split
 ·rename_i e;subst e
  rw[this];split
  ·rfl
  rename_i h2;rw[List.getElem?_eq_none aI]at this;cases this
 rfl
end Go.Plain
end
section
namespace Go.Syn
section
variable{s:aJ}{f i:Nat}{c:UInt8}
theorem sO(h:s.length≤i):l6 s (f+1) i=.ok i:=by simp only[l6];rw[List.getElem?_eq_none h]
theorem nN(hc:s[i]?=some c)(h:c.toNat=32∨c.toNat=9∨c.toNat=13∨c.toNat=10):l6 s (f+1) i=l6 s f (i+1):=by simp only[l6,hc];rw[if_pos h]
theorem xQ(hc:s[i]?=some c)(h:c.toNat=35):l6 s (f+1) i=l6 s f (i+((s.drop i).takeWhile fun c=>decide (¬c.toNat=10)).length):=by
 simp only[l6,hc];rw[if_neg aI,if_pos h]
theorem nO(hc:s[i]?=some c)(h:c.toNat=47)(hn:¬((s[i+1]?).getD 0).toNat=42):l6 s (f+1) i=.ok i:=by
 simp only[l6,hc];rw[if_neg aI,if_neg aI,if_pos h,if_pos hn]
theorem aBH(hc:s[i]?=some c)(h:c.toNat=47)(hn:((s[i+1]?).getD 0).toNat=42)(hx:Lib.index (s.drop (min (i+2) s.length)) [42,47] < 0):l6 s (f+1) i=.error (2,i):=by
 simp only[l6,hc];rw[if_neg aI,if_neg aI,if_pos h,if_neg (by simpa using hn),if_pos hx]
theorem rB(hc:s[i]?=some c)(h:c.toNat=47)(hn:((s[i+1]?).getD 0).toNat=42)(hx:¬Lib.index (s.drop (min (i+2) s.length)) [42,47] < 0):
  l6 s (f+1) i=l6 s f (i+2+(Lib.index (s.drop (min (i+2) s.length)) [42,47]).toNat+2):=by
 simp only[l6,hc];rw[if_neg aI,if_neg aI,if_pos h,if_neg (by simpa using hn),if_neg hx]
theorem pN(hc:s[i]?=some c)(h:¬(c.toNat=32∨c.toNat=9∨c.toNat=13∨c.toNat=10∨c.toNat=35∨c.toNat=47)):l6 s (f+1) i=.ok i:=by
 simp only[l6,hc];rw[if_neg aI,if_neg aI,if_neg aI]
theorem aJ1(hc:s[i]?=some c)(h:c.toNat=35):0 < ((s.drop i).takeWhile fun c=>decide (¬c.toNat=10)).length∧i+((s.drop i).takeWhile fun c=>decide (¬c.toNat=10)).length≤s.length:=by
 have hi:i < s.length:=by
  rcases Nat.lt_or_ge i s.length with h|h
  ·exact h
  simp[List.getElem?_eq_none h]at hc
 have e:s[i]=c:=by simpa[List.getElem?_eq_getElem hi]using hc
 have h2:=(List.takeWhile_sublist (fun c:UInt8=>decide (¬c.toNat=10)) (l:=s.drop i)).length_le;simp only[List.length_drop]at h2;refine⟨?_,by omega⟩
 rw[List.drop_eq_getElem_cons hi,e,List.takeWhile_cons,if_pos gAI];simp
end
theorem bGT{n:Int}{c:UInt8}(h:0≤n∧n≤2147483648):0≤aDW n c∧aDW n c≤2147483648:=by
 unfold aDW;split <;> omega
theorem aWN(ds:aJ):∀n:Int,0≤n∧n≤2147483648→0≤ds.foldl aDW n∧ds.foldl aDW n≤2147483648:=by
 induction ds with
 |nil=>intro n h;exact h
 |cons c ds ih=>intro n h;exact ih _ (bGT h)
theorem aAW(ds:aJ):0≤mK ds∧mK ds≤2147483648:=aWN ds 0 aI
theorem aSI{ds:aJ}{i:Nat}{c:UInt8}(h:ds[i]?=some c):mK (ds.take (i+1))=aDW (mK (ds.take i)) c:=by
 have hi:i < ds.length:=by
  rcases Nat.lt_or_ge i ds.length with h'|h'
  ·exact h'
  simp[List.getElem?_eq_none h']at h
 have hc:ds[i]=c:=by simpa[List.getElem?_eq_getElem hi]using h
 rw[List.take_succ_eq_append_getElem hi,hc];simp[mK]
theorem aM9(s:aJ)(a:Nat)(h:a≤s.length):a+(eT s a).length≤s.length:=by
 have:=(List.takeWhile_sublist eL (l:=s.drop a)).length_le;simp only[List.length_drop]at this;unfold eT;omega
theorem aB1{α:Type}{p:α→Bool}:∀ {l:List α} {x:α},x∈l.takeWhile p→p x=true
 | [],x,h=>by simp at h
 |y::l,x,h=>by
  rw[List.takeWhile_cons]at h;split at h
  ·rename_i hy;rcases List.mem_cons.1 h with rfl|h
   ·exact hy
   exact aB1 h
  simp at h
theorem bGU{s:aJ}{a i:Nat}{c:UInt8}(h:(eT s a)[i]?=some c):48≤c.toNat∧c.toNat≤57:=by
 have:=aB1 (List.mem_of_getElem? h)
 simpa[eL]using this
theorem bAC(s:aJ)(a:Nat)(h:a≤s.length):numA s a≤s.length:=by
 have h1:=aM9 s a h;unfold numA;split
 ·rename_i hc;rcases Nat.lt_or_ge (a+(eT s a).length) s.length with h'|h'
  ·omega
  unfold numC at hc;rw[List.getElem?_eq_none h']at hc;simp at hc
 exact h1
section
variable{s acc:aJ}{wat:Int}{f i:Nat}
theorem uS(h:i < s.length)(hc:((s[i]?).getD 0).toNat=34):iO s wat (f+1) i acc=.ok (i+1,acc):=by
 simp only[iO];rw[if_pos ⟨h,hc⟩]
theorem pL(hn:¬(i < s.length∧((s[i]?).getD 0).toNat=34))(hc:((s[i]?).getD 0).toNat=92)(h:¬s.length≤i+1):iO s wat (f+1) i acc=iO s wat f (i+2) (acc++[(s[i+1]?).getD 0]):=by
 simp only[iO];rw[if_neg hn,if_pos hc,if_neg h]
theorem xM(hn:¬(i < s.length∧((s[i]?).getD 0).toNat=34))(hc:((s[i]?).getD 0).toNat=92)(h:s.length≤i+1):iO s wat (f+1) i acc=.error (2,wat):=by
 simp only[iO];rw[if_neg hn,if_pos hc,if_pos h]
theorem n5(hn:¬(i < s.length∧((s[i]?).getD 0).toNat=34))(hc:¬((s[i]?).getD 0).toNat=92)(h:¬s.length≤i):iO s wat (f+1) i acc=iO s wat f (i+1) (acc++[(s[i]?).getD 0]):=by
 simp only[iO];rw[if_neg hn,if_neg hc,if_neg h]
theorem rA(hn:¬(i < s.length∧((s[i]?).getD 0).toNat=34))(hc:¬((s[i]?).getD 0).toNat=92)(h:s.length≤i):iO s wat (f+1) i acc=.error (2,wat):=by
 simp only[iO];rw[if_neg hn,if_neg hc,if_pos h]
end
theorem bN6{c:UInt8}(h:fO c=true):c.toNat < 128:=by
 unfold fO at h;simp at h;omega
theorem bD0{xs:List aJ}{x:aJ}{i:Nat}(h:∀j:Nat,j < i→xs[j]?≠some x)(hx:xs[i]?=some x):dR xs x=i:=by
 have hi:i < xs.length:=by
  rcases Nat.lt_or_ge i xs.length with h'|h'
  ·exact h'
  simp[List.getElem?_eq_none h']at hx
 have:xs.findIdx? (fun y=>decide (x=y))=some i:=by
  rw[List.findIdx?_eq_some_iff_getElem];refine⟨hi,?_,?_⟩
  ·rw[List.getElem?_eq_getElem hi]at hx;simp at hx;simp[hx]
  intro j hj;have:=h j hj;rw[List.getElem?_eq_getElem aI]at this;simp at this ⊢;exact fun e=>this e.symm
 unfold dR;rw[this]
theorem bD2{xs:List aJ}{x:aJ}(h:∀j:Nat,j < xs.length→xs[j]?≠some x):dR xs x= -1:=by
 have:xs.findIdx? (fun y=>decide (x=y))=none:=by
  rw[List.findIdx?_eq_none_iff];intro y hy;obtain⟨j,hj,e⟩:=List.getElem_of_mem hy;have:=h j hj;rw[List.getElem?_eq_getElem hj,e]at this;simp at this ⊢;exact fun e=>this e.symm
 unfold dR;rw[this]
theorem aYD(xs:List aJ)(x:aJ):0≤dR xs x↔x∈xs:=by
 unfold dR;cases h:xs.findIdx? (fun y=>decide (x=y))with
 |some i=>
  rw[List.findIdx?_eq_some_iff_getElem]at h;obtain⟨hi,h1,_⟩:=h;simp at h1;simp only[Int.natCast_nonneg,true_iff];rw[h1];exact List.getElem_mem hi
 |none=>
  rw[List.findIdx?_eq_none_iff]at h
  constructor
  ·intro h0;exact absurd h0 (by decide)
  intro hm;have:=h x hm;simp at this
end Go.Syn
end

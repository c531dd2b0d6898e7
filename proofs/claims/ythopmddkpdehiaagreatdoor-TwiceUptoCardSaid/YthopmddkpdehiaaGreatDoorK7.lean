/-
  What the proof stands on, part 7: the logic of walks, the walks through the functions, the plain laws. Conditions: as each theorem says. (Merged and shortened by a program.)
-/
import Derived.Test.YthopmddkpdehiaaGreatDoorK6
set_option linter.unusedVariables false
set_option linter.unusedSimpArgs false
set_option maxRecDepth 4000
set_option maxHeartbeats 1000000
section
attribute [local irreducible] Go.SL.T Go.SL.OL Go.SL.D Go.SL.DL Go.SL.Ev Go.SL.Ef Go.SL.EfS
namespace Go.Proofs
open Go Go.SL Go.Syn Go.Mach
theorem bPK{cs:List UInt8}(hcs:∀c∈cs,c.toNat < 128){i:Nat}(h:i < cs.length):∃c,cs[i]?=some c∧c.toNat < 128:=⟨_,List.getElem?_eq_getElem h,hcs _ (List.getElem_mem h)⟩
theorem bTJ{cs:List UInt8}(hcs:∀c∈cs,c.toNat < 128){c:UInt8}(h:128≤c.toNat)(k:Nat):Lib.indexByte (cs.drop k) c= -1:=by
 have h1:=Lib.indexByte_ge (cs.drop k) c
 by_cases hc:Lib.indexByte (cs.drop k) c= -1
 ·exact hc
 obtain⟨h2,_⟩:=Lib.indexByte_some (l:=cs.drop k) (c:=c) (o:=(Lib.indexByte (cs.drop k) c).toNat) aI;rw[List.getElem?_drop]at h2;have:=hcs _ (List.mem_of_getElem? h2);omega
theorem aXG(s:List UInt8)(c:UInt8)(K:Hl):Sp Tryz.prog 308 [str s,.int .u8 c.toNat] K [] (Val (i64 (Lib.indexByte s c)) K):=by
 refine pD ⟨_,Tryz.func308,rfl,rfl⟩ fun w hw=>?_;have:=Tryz.strings_IndexByte ⟨s.toArray⟩ c.toNat w;have e:((c.toNat:Int).toNat).toUInt8=c:=by simp
 rw[e]at this;exact this
theorem aUN(cs:List UInt8)(c:UInt8)(hc:c.toNat < 128)(K:Hl):Sp Tryz.prog 289 [str cs,.int .i32 c.toNat] K [] (Val (i64 (Lib.indexByte cs c)) K):=by
 refine pD ⟨_,Tryz.func289,rfl,rfl⟩ fun w hw=>?_;have:=Tryz.strings_IndexRune_ascii ⟨cs.toArray⟩ c.toNat w aI aI;have e:((c.toNat:Int).toNat).toUInt8=c:=by simp
 rw[e]at this;exact this
theorem aYY(r:Int)(K:Hl):Sp Tryz.prog 322 [.int .i32 r] K [] (Val (.bool (Lib.validRune r)) K):=
 pD ⟨_,Tryz.func322,rfl,rfl⟩ fun w hw=>Tryz.utf8_ValidRune r w
theorem aUM(cs:List UInt8)(hcs:∀c∈cs,c.toNat < 128)(hl:2≤cs.length)(r:Int)(h1:128≤r)(K:Hl):Sp Tryz.prog 289 [str cs,.int .i32 r] K [] (Ret fun v K' L'=>v=i64 (-1)∧K'=K∧L'=[]):=by
 obtain⟨q1,q2,cl,q3,q4⟩:=bJ0 r h1;refine a8 Tryz.func289 rfl Tryz.ntmps289 rfl rfl fun F w=>?_;refine zz11 ?_;refine cH 163 rfl (fun g163=>?_) (fun g163=>?_)
 ·refine zz8 ?_;refine bK 160 rfl (fun h160=>?_) (fun h160=>?_)
  ·exact absurd h160 aI
  refine zz7 ?_;refine bK 171 rfl (fun h171=>?_) (fun h171=>?_)
  ·refine zz4 ?_;refine cC (aLI Tryz.underlying9 rfl) rfl ?_;rintro _ K _ ⟨b175,rfl,rfl,rfl⟩ -;refine zz3 ?_;refine eJ (fun(i:Nat)=>i≤cs.length) (fun i=>[(0,str cs),(1,.int .i32 r),(175,ptr b175)]) (fun _=>K) (fun i=>[itr b175 cs i]) (fun i=>cs.length - i) 0 (Nat.zero_le _) (.cons 0 rfl (.cons 1 rfl (.cons 175 rfl .nil))) rfl (fun _ h=>h) ?_;intro i hi0;rcases Nat.lt_or_ge i cs.length with hi|hi
   ·obtain⟨c,hc,hlo⟩:=bPK hcs hi;refine zz2 ?_;refine cC (aUO (L':=fun n=>[itr b175 cs (i+n)]) hc hlo rfl (fun _=>.here)) rfl ?_;rintro _ K _ ⟨rfl,rfl,rfl⟩ -;refine zz22 ?_;refine bK 181 rfl (fun h181=>?_) (fun h181=>?_)
    ·exact absurd h181 aI
    refine zz2 ?_;exact dF (i+1) aI aI (.cons 0 rfl (.cons 1 rfl (.cons 175 rfl .nil))) rfl (fun _ h=>h)
   have hn:¬i < cs.length:=aI;refine zz2 ?_;refine cC (aOD hn rfl .here) rfl ?_;rintro _ K _ ⟨rfl,rfl,rfl⟩ -;refine zz17 ?_;refine uAl ?_;refine zz1 ?_;exact⟨_,rfl,rfl,rfl,rfl⟩
  refine zz3 ?_;refine cF rfl rfl (aYY r _) rfl ?_;refine aA gAF rfl ?_;refine zz3 ?_
  first|refine bK 183 rfl (fun h183=>?_) (fun h183=>?_)|refine eO 183 rfl (fun h183=>?_) (fun h183=>?_)
  ·refine zz7 ?_;refine uAl ?_;refine zz1 ?_;exact⟨_,rfl,rfl,rfl,rfl⟩
  refine aRA ?_;refine zz3 ?_;refine aA (aPU Tryz.underlying21 Tryz.underlying9 rfl) rfl ?_;refine zz24 ?_;refine eJ (fun(u:Unit)=>True) (fun _=>[(0,str cs),(7,str (rL r)),(8,i64 ((rL r).length - 1)),(9,i64 ((rL r).length - 1))]) (fun _=>K) (fun _=>[]) (fun _=>0) () trivial (.cons 0 rfl (.cons 7 rfl (.cons 8 rfl (.cons 9 rfl .nil)))) rfl (fun _ h=>h) ?_;intro _ _;refine zz9 ?_;refine bK 26 rfl (fun h26=>?_) (fun h26=>?_)
  ·obtain⟨c,hc,hlo⟩:=bPK hcs (i:=(rL r).length - 1) aI;refine zz3 ?_;refine aRA ?_;refine zz2 ?_;refine dD (anc:=[0,0,3,0,0,24,63]) (ord:=[0,1,2,3,4,5,6]) [] [] mixed gAH (dI _) ?_;refine zz2 ?_;refine aK rfl rfl (.none rfl) rfl rfl (cZ (j:=(rL r).length - 1) Tryz.underlying9 rfl rfl aI hc) rfl ?_;refine zz2 ?_;refine aK rfl rfl (.none rfl) rfl rfl (cZ (j:=(rL r).length - 1) Tryz.underlying9 rfl rfl aI q3) rfl ?_;refine zz3 ?_;refine bK 33 rfl (fun h33=>?_) (fun h33=>?_)
   ·refine aH ?_;refine dD (anc:=[0,0,2,7,0,0,48,127,255]) (ord:=[0,1,2,3,4,5,6,7,8]) [7] [] mixed gAH (dI _) ?_;refine zz3 ?_;refine aK rfl rfl (.none rfl) rfl rfl (iT (m:=(rL r).length) Tryz.underlying9 rfl rfl aI aI) rfl ?_;refine zz2 ?_;refine aK rfl rfl (.none rfl) rfl rfl (cZ (j:=(rL r).length - 1) Tryz.underlying9 rfl rfl aI q3) rfl ?_;refine lC rfl (.none rfl) rfl rfl rfl rfl (aXG (cs.drop (rL r).length) cl _) rfl ?_;refine zz10 ?_;refine bK 43 rfl (fun h43=>?_) (fun h43=>?_)
    ·refine zz8 ?_;refine rG ?_;refine zz4 ?_;refine rG ?_;refine bU ?_;refine uAl ?_;refine zz1 ?_;exact⟨_,rfl,rfl,rfl,rfl⟩
    exact absurd (show Lib.indexByte (cs.drop (rL r).length) cl < 0 by rw[bTJ hcs q4];omega) h43
   exact absurd (show ¬((c.toNat:Int)=cl.toNat) by omega) h33
  refine zz13 ?_;refine rG ?_;refine bU ?_;refine uAl ?_;refine zz1 ?_;exact⟨_,rfl,rfl,rfl,rfl⟩
 exact absurd (show (0:Int)≤r by omega) g163
theorem aG7(cs:List UInt8)(hcs:∀c∈cs,c.toNat < 128)(hl:2≤cs.length)(s:List UInt8)(h8:s.length≤8)(K:Hl):Sp Tryz.prog 221 [str s,str cs] K [] (Ret fun v K' L'=>∃n:Int,v=i64 n∧(0≤n↔(s.any fun c=>cs.contains c)=true)∧K'=K∧L'=[]):=by
 have husc:∀(n:Int) (K:Hl),Sp Tryz.prog 290 [i64 n] K [] (Val (.bool (decide (8 < n))) K):=fun n K=>pD ⟨_,Tryz.func290,rfl,rfl⟩ fun w hw=>Tryz.strings_shouldUseASCIISet n w
 refine a8 Tryz.func221 rfl Tryz.ntmps221 rfl rfl fun F w=>?_;refine zz12 ?_;refine bK 12 rfl (fun h12=>?_) (fun h12=>?_)
 ·exact absurd h12 (by rintro rfl;simp at hl)
 refine zz10 ?_;refine bK 15 rfl (fun h15=>?_) (fun h15=>?_)
 ·exact absurd h15 aI
 refine zz7 ?_;refine cF rfl rfl (husc _ _) rfl ?_;refine zz2 ?_;refine bK 26 rfl (fun h26=>?_) (fun h26=>?_)
 ·exact absurd h26 aI
 refine zz6 ?_;refine cC (aLI Tryz.underlying9 rfl) rfl ?_;rintro _ K _ ⟨b45,rfl,rfl,rfl⟩ -;refine zz3 ?_;refine eJ (fun(i:Nat)=>i≤s.length∧∀j d,j < i→s[j]?=some d→cs.contains d=false) (fun i=>[(0,str s),(1,str cs),(45,ptr b45)]) (fun _=>K) (fun i=>[itr b45 s i]) (fun i=>s.length - i) 0 ⟨Nat.zero_le _,fun j d h _=>by omega⟩ (.cons 0 rfl (.cons 1 rfl (.cons 45 rfl .nil))) rfl (fun _ h=>h) ?_;intro i ⟨hi0,hno⟩;rcases Nat.lt_or_ge i s.length with hi|hi
 ·obtain⟨c,hc⟩:∃c,s[i]?=some c:=⟨s[i]'hi,List.getElem?_eq_getElem hi⟩;rcases Nat.lt_or_ge c.toNat 128 with hlo|hhi
  ·refine zz2 ?_;refine cC (aUO (L':=fun n=>[itr b45 s (i+n)]) hc hlo rfl (fun _=>.here)) rfl ?_;rintro _ K _ ⟨rfl,rfl,rfl⟩ -;refine zz20 ?_;refine cF rfl rfl (aUN cs c hlo _) rfl ?_;refine zz3 ?_;refine bK 53 rfl (fun h53=>?_) (fun h53=>?_)
   ·have hbl:cs.contains c=true:=(by rw[Lib.contains_iff_indexByte];exact decide_eq_true h53);refine zz11 ?_;refine uAl ?_;refine zz1 ?_;exact⟨_,rfl,i,rfl,⟨fun _=>List.any_eq_true.2 ⟨c,List.mem_of_getElem? hc,hbl⟩,fun _=>by omega⟩,rfl,rfl⟩
   have hbl:cs.contains c=false:=(by rw[Lib.contains_iff_indexByte];exact decide_eq_false h53);refine zz2 ?_
   (exact dF (i+1) ⟨by omega,fun j d hj hd=>by rcases Nat.lt_or_ge j i with h|h;exact hno j d h hd;(obtain rfl:j=i:=by omega);rw[hc]at hd;cases hd;exact hbl⟩ aI (.cons 0 rfl (.cons 1 rfl (.cons 45 rfl .nil))) rfl (fun _ h=>h))
  refine zz2 ?_;refine cC (bJ3 (L':=fun n=>[itr b45 s (i+n)]) hc hhi rfl (fun _=>.here)) rfl ?_;rintro _ K _ ⟨r,n,rfl,rfl,rfl,h1,h2,h3,h4,h5⟩ -;refine zz20 ?_;refine aX rfl rfl (aUM cs hcs hl r aI _) .nil rfl ?_;rintro _ K _ ⟨rfl,rfl,rfl⟩ -;refine zz3 ?_;refine bK 53 rfl (fun h53=>?_) (fun h53=>?_)
  ·exact absurd h53 aI
  refine zz2 ?_
  (exact dF (i+n) ⟨h4,fun j d hj hd=>by rcases Nat.lt_or_ge j i with h|h;exact hno j d h hd;(have:=h5 j d h hj hd);cases hbd:cs.contains d with|false=>rfl|true=>exact absurd (hcs _ (List.contains_iff_mem.1 hbd)) aI⟩ aI (.cons 0 rfl (.cons 1 rfl (.cons 45 rfl .nil))) rfl (fun _ h=>h))
 have hn:¬i < s.length:=aI;have hall:(s.any fun c=>cs.contains c)=false:=(by rw[List.any_eq_false];intro x hx;obtain⟨j,hj⟩:=List.getElem?_of_mem hx;have:=hno j x gCH hj;simpa using this);refine zz2 ?_;refine cC (aOD hn rfl .here) rfl ?_;rintro _ K _ ⟨rfl,rfl,rfl⟩ -;refine zz16 ?_;refine uAl ?_;refine zz1 ?_;exact⟨_,rfl,-1,rfl,⟨fun h=>by omega,fun h=>by rw[hall]at h;cases h⟩,rfl,rfl⟩
end Go.Proofs
end
section
namespace Go.SL
section
variable{E:Env}{fr:Fr}{K:Hl}{L L':List Asn}{Q:Post}{ops:Array Oper}{rest:List Oper}{dst:Option Tmp}{ty:TypeId}{pos:String}{aft:Array Edge}{g:Option (Nat×Bool)}{x y:Operand}{v u:Value}{t:TypeId}
theorem aKB{P:Program}{name:String}{os:List Operand}{vs:List Value}{ats:Array TypeId}{f:FuncId}{r:Value}{n:Nat}{ds:List Deferred}(hx:fr.ev x=some (.iface t u))(hos:fr.evs os=some vs)
  (hm:∀w,(method (P.types.size+Made.depth) t u name).run P w=.ok (f,r) w) {a:Act} (fo:FrOk n ds fr a) (w:World):
  (execOp a.eval ⟨dst,.call ⟨.invoke x name,os.toArray,ats⟩,ty,pos,aft,g⟩).run P w=(callFunc f (r::vs).toArray).run P w:=by
 have e1:Array.map a.eval os.toArray=vs.toArray:=by simp[fo.evs hos]
 have e2: #[Value.iface t u]++vs.toArray=(Value.iface t u::vs).toArray:=by simp
 simp only[execOp,resolve,e1,fo.ev hx,bind,pure,Sem.bind,invoke,e2];have e3:(Value.iface t u::vs).toArray[0]?=some (.iface t u):=by simp
 have e4:(Value.iface t u::vs).toArray.extract 1 (Value.iface t u::vs).toArray.size=vs.toArray:=by simp
 simp only[e3,e4]
 show (callMethod (.iface t u) name vs.toArray).run P w=_
 unfold callMethod;simp only[];have hp:(program).run P w=.ok P w:=rfl;rw[aV hp,aV (hm w)];simp
theorem gM{name:String}{os:List Operand}{vs:List Value}{ats:Array TypeId}{f:FuncId}{r:Value}{fn:Func}{ex:Array Value→Sem Value}(hx:fr.ev x=some (.iface t u))(hos:fr.evs os=some vs)
  (hm:∀w,(method (E.P.types.size+Made.depth) t u name).run E.P w=.ok (f,r) w)
  (h1:E.P.funcs[f]?=some fn) (h2:(fn.name== "runtime.NumGoroutine")=false) (h3:fn.body.isNone=true) (h4:Extern.findNext fn=none) (h5:Extern.find fn=some ex) (hr:∀w,In E.w0 E.F K L w→(ex (r::vs).toArray).run E.P w=.ok v w):
  Ev E fr K L ⟨dst,.call ⟨.invoke x name,os.toArray,ats⟩,ty,pos,aft,g⟩ v:=fun a w fo j=>by
 rw[aKB hx hos hm fo w,run_callFunc_extern h1 h2 h3 h4 h5,hr w j]
 rfl
theorem aHY{fv:Operand}{os:List Operand}{vs:List Value}{ats:Array TypeId}{f:FuncId}{fn:Func}{ex:Array Value→Sem Value}{N:Value→Hl→List Asn→Prop}(hf:fr.ev fv=some (.func (.func f) #[] #[]))(hos:fr.evs os=some vs)
  (h1:E.P.funcs[f]?=some fn) (h2:(fn.name== "runtime.NumGoroutine")=false) (h3:fn.body.isNone=true) (h4:Extern.findNext fn=none) (h5:Extern.find fn=some ex)
  (hr:∀w,In E.w0 E.F K L w→∃v w' K' L',(ex vs.toArray).run E.P w=.ok v w'∧N v K' L'∧K.le K'∧In E.w0 E.F K' L' w'):
  EfS E fr K L ⟨dst,.call ⟨.value fv,os.toArray,ats⟩,ty,pos,aft,g⟩ N:=fun a w fo j=>by
 obtain⟨v,w',K',L',h,hN,le,j'⟩:=hr w j;refine⟨v,w',K',L',.inl ?_,hN,le,j'⟩
 have e1:Array.map a.eval os.toArray=vs.toArray:=by simp[fo.evs hos]
 simp only[execOp,resolve,e1,fo.ev hf,Deferred.ofValue,bind,pure,Sem.bind,invoke,List.append_toArray];simp only[List.nil_append,List.append_nil];rw[run_callFunc_extern h1 h2 h3 h4 h5,h]
 rfl
theorem aSM{o:Oper}{f:FuncId}{vs:List Value}{L1 L2:List Asn}{R:Ending→Hl→List Asn→Prop}{N:Value→Hl→List Asn→Prop}
  (hrun:∀a w,FrOk E.n E.ds fr a→(execOp a.eval o).run E.P w=.ok (.enter f vs.toArray) w) (hL:Tks L1 L L2) (hs:Sp E.P f vs K L1 R)
  (hret:∀v K' L',R (.returned v) K' L'→N v K' (L'++L2)) (hpan:∀ch K' L',R (.panicked ch) K' L'→K.le K'→D E (.panic ch) fr K' (L'++L2) Q) (hout:∀K' L',R .outgrown K' L'→LetsOut Q):
  Ef E fr K L o Q N:=by
 intro a w k fo i hk;obtain⟨F',i1,back⟩:=(i.imp hL.sat).hide;refine .inl ?_;unfold Oper.wp;rw[hrun a w fo];refine(hs.2 F' w i1).mono fun e w' ⟨K',L',r,le,j⟩=>?_;cases e with
 |returned v=>exact hk _ _ _ _ (hret _ _ _ r) le (back j)
 |panicked ch=>exact hpan _ _ _ r le _ _ fo (back j)
 |outgrown=>exact hout _ _ r
theorem aQA{P:Program}{name:String}{os:List Operand}{vs:List Value}{ats:Array TypeId}{f:FuncId}{r:Value}{n:Nat}{ds:List Deferred}(hx:fr.ev x=some (.iface t u))(hos:fr.evs os=some vs)
  (hm:∀w,(method (P.types.size+Made.depth) t u name).run P w=.ok (f,r) w) (hb:∃fn,P.funcs[f]?=some fn∧(fn.name== "runtime.NumGoroutine")=false∧fn.body.isSome=true) (a:Act) (w:World) (fo:FrOk n ds fr a):
  (execOp a.eval ⟨dst,.call ⟨.invoke x name,os.toArray,ats⟩,ty,pos,aft,g⟩).run P w=.ok (.enter f (r::vs).toArray) w:=by
 obtain⟨fn,h1,h2,h3⟩:=hb;rw[aKB hx hos hm fo w];exact yY h1 h2 h3 w
theorem jA{d:Nat}{name:String}{os:List Operand}{vs:List Value}{ats:Array TypeId}{f:FuncId}{r:Value}{L1 L2:List Asn}{N:Value→Hl→List Asn→Prop}(hx:fr.ev x=some (.iface t u))(hos:fr.evs os=some vs)
  (hm:∀w,(method (E.P.types.size+Made.depth) t u name).run E.P w=.ok (f,r) w) (hs:Sp E.P f (r::vs) K L1 (Ret N)) (hL:Tks L1 L L2) (hd:Nat.blt d E.n=true)
  (h:∀v K' L',N v K' L'→K.le K'→OL E ops rest ((d,v)::fr) K' (L'++L2) Q):OL E ops (⟨some d,.call ⟨.invoke x name,os.toArray,ats⟩,ty,pos,aft,none⟩::rest) fr K L Q:=
 aN1 (aSM (N:=fun v K' L''=>∃L',L''=L'++L2∧N v K' L') (aQA hx hos hm hs.1) hL hs (fun v K' L' ⟨u,e,n⟩=>by cases e;exact⟨L',rfl,n⟩) (fun ch K' L' ⟨u,e,n⟩=>by cases e) (fun K' L' ⟨u,e,n⟩=>by cases e)) hd
  (fun v K' L'' ⟨L',e,n⟩ le=>by subst e;exact h v K' L' n le)
theorem aST{xt at_:TypeId}{ok:Bool}(hx:fr.ev x=some u)(h:∀w,(Instr.typeAssert u xt at_ ok).run E.P w=.ok v w):Ev E fr K L ⟨dst,.typeAssert x xt at_ ok,ty,pos,aft,g⟩ v:=fun a w f j=>by
 simp only[execOp,f.ev hx];exact eR (h w)
theorem vD{op:BinOp}{t':TypeId}{v1 v2:Value}(hx:fr.ev x=some v1)(hy:fr.ev y=some v2)(h0:∀w,(eqGuard op t x y v1 v2).run E.P w=.ok () w)(h:∀w,(binOp op t v1 v2).run E.P w=.ok v w):
  Ev E fr K L ⟨dst,.binOp op t x y t',ty,pos,aft,g⟩ v:=gT hx hy h0 h
end
def Hl.less(k h:Hl):Hl:=fun x=>if (h x).isSome then none else k x
theorem Hl.less_le(k h:Hl):(k.less h).le k:=by
 intro x o e;unfold Hl.less at e;split at e
 ·cases e
 exact e
theorem Hl.less_dj(k h:Hl):h.dj (k.less h):=by
 intro x;cases e:h x with
 |none=>exact .inl rfl
 |some o=>exact .inr (by simp[Hl.less,e])
theorem Hl.le_less{K K' h:Hl}(le:K.le K')(d:K.dj h):K.le (K'.less h):=by
 intro x o e;unfold Hl.less;rcases d x with q|q
 ·rw[q]at e;cases e
 simp only[q,Option.isSome_none,Bool.false_eq_true,if_false];exact le x o e
theorem Hl.le_join_l{a b:Hl}:a.le (a.join b):=fun x o e=>by simp[Hl.join,e]
theorem Hl.le_join_r{a b:Hl}(d:a.dj b):b.le (a.join b):=fun x o e=>by
 rcases d x with q|q
 ·simp[Hl.join,q,e]
 rw[q]at e;cases e
theorem In.freeze{w0 w:World}{F K:Hl}{L1 L:List Asn}(i:In w0 F K (L1++L) w):∃h,Sat L1 h∧K.dj h∧In w0 F (K.join h) L w:=by
 obtain⟨x,hs,d1,d2,d3,l1,l2,l3⟩:=i.rep;obtain⟨a,n,ha,hn,han,rfl⟩:=gE.1 hs;have hd2:=Hl.dj_join.1 d2;have hd3:=Hl.dj_join.1 d3;exact⟨a,ha,hd3.1,i.os,i.tape,i.output,i.size,n,hn,Hl.dj_join.2 ⟨d1,hd2.1⟩,hd2.2,Hl.join_dj.2 ⟨hd3.2,han⟩,l1,Hl.join_le l2 (Hl.le_join_left l3),Hl.le_join_right han l3⟩
theorem In.thaw{w0 w:World}{F K' h:Hl}{L1 L:List Asn}(i:In w0 F K' L w)(hs1:Sat L1 h)(le:h.le K'):In w0 F (K'.less h) (L1++L) w:=by
 obtain⟨x,hs,d1,d2,d3,l1,l2,l3⟩:=i.rep;have sub:∀y,K' y=none→h y=none:=by
  intro y hy;cases e:h y with
  |none=>rfl
  |some o=>rw[le y o e]at hy;cases hy
 have hx:h.dj x:=fun y=>(d3 y).imp_left (sub y)
 have hF:F.dj h:=fun y=>(d1 y).imp_right (sub y)
 refine⟨i.os,i.tape,i.output,i.size,h.join x,gE.2 ⟨h,x,hs1,hs,hx,rfl⟩,?_,Hl.dj_join.2 ⟨hF,d2⟩,Hl.dj_join.2 ⟨(Hl.less_dj K' h).symm,?_⟩,l1,Hl.le_trans (Hl.less_le _ _) l2,Hl.join_le (Hl.le_trans le l2) l3⟩
 ·intro y;rcases d1 y with q|q
  ·exact .inl q
  exact .inr (by unfold Hl.less;split <;> first|rfl|exact q)
 intro y;rcases d3 y with q|q
 ·exact .inl (by unfold Hl.less;split <;> first|rfl|exact q)
 exact .inr q
theorem aQ6{P:Program}{f:FuncId}{args:List Value}{K:Hl}{L1 L:List Asn}{R:Ending→List Asn→Prop}(hb:∃fn,P.funcs[f]?=some fn∧(fn.name== "runtime.NumGoroutine")=false∧fn.body.isSome=true)
  (h:∀h1,Sat L1 h1→K.dj h1→Sp P f args (K.join h1) L fun e _ L'=>R e L'):Sp P f args K (L1++L) fun e _ L'=>∃L'',R e L''∧L'=L1++L'':=
 ⟨hb, fun F w i => by
  obtain⟨h1,hs,d,i1⟩:=i.freeze;exact((h h1 hs d).2 F w i1).mono fun e w' ⟨K',L',r,le,j⟩=>⟨K'.less h1,L1++L',⟨L',r,rfl⟩,Hl.le_less (Hl.le_trans Hl.le_join_l le) d,j.thaw hs (Hl.le_trans (Hl.le_join_r d) le)⟩⟩
theorem bQ7{α:Type}{z:Bool}{k:El α}{v:Value}{xs:List α}{h:Hl}(hs:sl z k v xs h):Ksl k h v xs:=by
 rcases hs with ⟨rfl,rfl,rfl⟩|⟨b,cap,junk,fz,rfl,hz,hc,hj,hf,rfl⟩
 ·exact .inl ⟨none,0,rfl,rfl⟩
 refine .inr ⟨b,0,cap,k.cs xs++junk,fz,rfl,⟨k.e,by simp[Hl.one]⟩,?_⟩
 rw[List.drop_zero,←k.cs_length,List.take_left]
theorem bJ5{A:Asn}{L:List Asn}{h:Hl}(hh:Hs A L)(hs:Sat L h):∃a,A a∧a.le h:=by
 obtain⟨M,hM⟩:=hh.split;obtain⟨a,m,ha,hm,hd,rfl⟩:=hM h hs;exact⟨a,ha,Hl.le_join_l⟩
theorem aA7{α:Type}{z:Bool}{k:El α}{v:Value}{xs:List α}{L:List Asn}{h:Hl}(hh:Hs (sl z k v xs) L)(hs:Sat L h):Ksl k h v xs:=by
 obtain⟨a,ha,le⟩:=bJ5 hh hs;exact(bQ7 ha).mono le
end Go.SL
end

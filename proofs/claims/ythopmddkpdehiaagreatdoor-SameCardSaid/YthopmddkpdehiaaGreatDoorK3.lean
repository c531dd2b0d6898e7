/-
  What the proof stands on, part 3: the logic of walks, the walks through the functions, the plain laws. Conditions: as each theorem says. (Merged and shortened by a program.)
-/
import Derived.Lib.AppendIntMem
import Derived.Laws.StructEq
import Derived.RangeFuncRecord
import Derived.OrdersIn
import Derived.TacticsIn
import Derived.Scope
import Derived.ChangeKeysEq
import Derived.Test.YthopmddkpdehiaaGreatDoorK1
import Derived.Test.YthopmddkpdehiaaGreatDoorK2
set_option linter.unusedVariables false
set_option linter.unusedSimpArgs false
set_option maxRecDepth 4000
set_option maxHeartbeats 1000000
section
attribute [local irreducible] Go.SL.T Go.SL.OL Go.SL.D Go.SL.DL Go.SL.Ev Go.SL.Ef Go.SL.EfS
namespace Go.Proofs
open Go Go.SL Go.Syn Go.Cmp
theorem zE(b e n:Nat)(x:Value)(hx:x=i64 n):∀h,pt b (aU [x] e) h→sl false (jT e) (.slice (some ⟨b,0,none⟩) 1 1) [n] h:=by
 subst hx;exact wM (k:=jT e) (xs:=[n]) (cells:=[i64 n]) (Nat.le_refl _) rfl rfl (.inl (Nat.le_refl _)) (fun h=>by cases h)
theorem pB(K:Hl):Ksl (bC 9) K nilC.1 []:=.inl ⟨none,0,rfl,rfl⟩
abbrev jmpV(op:Int):InsV:=⟨op,0,0,false,nilC,nilC,0⟩
theorem oS(K:Hl)(op:Int):RIns K (jmpV op) (jmp op):=⟨rfl,rfl,rfl,rfl,rfl,pB K,pB K⟩
theorem RIs.two{K:Hl}{x y:InsV}{o p:Mach.Ins}(h1:RIns K x o)(h2:RIns K y p):RIs K [x,y] [o,p]:=⟨h1,h2,trivial⟩
abbrev UnlR(b:Nat)(r:List Mach.Ins×List Nat):Ending→Hl→List Asn→Prop:=Ret fun pv K' L'=>∃vs',RIs K' vs' r.1∧L'=[sl false (jT 3) pv r.2,cdr b vs']
def UnlS(t:Tree):Prop:=wf t 0=true→∀(b:Nat) (tn:Bool) (ty:TypeId) (u:Value) (vs:List InsV) (ops:List Mach.Ins) (K:Hl),Rep K t [(⟨.iface ty u,rfl⟩,u0)]→RIs K vs ops→vs.length+2*cnt t≤900000→Sp Tryz.prog 270 [ptr b,.iface ty u,.bool tn] K [cdr b vs] (UnlR b (unl t tn ops))
def UnlL:Tree→Prop
 | .tcons t l=>UnlS t∧UnlL l
 |_=>True
theorem aO0{K:Hl}{rest:Tree}{xs:List (Cell×Cell)}{i:Nat}(hw:wf rest 1=true)(hr:Rep K rest (xs.drop i))(hi:i < xs.length):
  ∃t l c,rest=.tcons t l∧Rep K t [(c,u0)]∧Rep K l (xs.drop (i+1))∧xs[i]?=some (c,u0)∧wf t 0=true∧wf l 1=true:=by
 have hd:xs.drop i≠[]:=by intro h;have:=congrArg List.length h;simp at this;omega
 cases rest <;> simp only[wf,Rep]at hw hr
 case tnil=>exact absurd hr hd
 case tcons t l=>
  obtain⟨c,ys,h1,h2,h3⟩:=hr;simp at hw;have e:xs.drop (i+1)=ys:=by rw[←List.drop_drop,h3];rfl
  refine⟨t,l,c,rfl,h1,by rw[e];exact h2,?_,hw.1,hw.2⟩
  have:=List.getElem?_drop (xs:=xs) (i:=i) (j:=0);rw[h3]at this;simpa using this.symm
 all_goals simp at hw
theorem aS9{K:Hl}{l:Tree}{ys:List (Cell×Cell)}(hw:wf l 1=true)(hr:Rep K l ys):eH l=false↔0 < ys.length:=by
 cases l <;> simp only[wf,Rep]at hw hr
 case tnil=>subst hr;simp[eH]
 case tcons t l=>obtain⟨c,zs,_,_,rfl⟩:=hr;simp[eH]
 all_goals simp at hw
theorem aS4{K:Hl}{rest:Tree}{ys:List (Cell×Cell)}(hw:wf rest 1=true)(hr:Rep K rest ys)(he:ys=[]){all tn:Bool}{ops:List Mach.Ins}{a h:List Nat}:unlL all tn rest ops a h=(ops,a,h):=by
 cases rest <;> simp only[wf,Rep]at hw hr
 case tnil=>simp[unlL]
 case tcons t l=>obtain⟨c,zs,_,_,rfl⟩:=hr;cases he
 all_goals simp at hw
theorem aP5(p:Bool):UnlS (.const p):=by
 intro hw b tn ty u vs ops K hr hv hl;cases (show [(_,u0)]=[(_,u0)]from hr)
 have hvl:=hv.length;refine aZ Tryz.func270 rfl Tryz.ntmps270 rfl rfl fun F w=>?_
 refine zz7 ?_;refine uAi ?_;refine zz1 ?_;rintro _ K _ ⟨b7,rfl,rfl,rfl⟩ -;refine bR (cM kO rfl rfl rfl bB gBK (.cons (.cons (.cons (.cons (.cons (.cons (.cons .nil))))))) gBU) ?_;rintro _ K _ ⟨rfl,rfl⟩ -;refine zz2 ?_;refine gG (fun(j:Int)=>j=if tn=true then 4 else 5) (fun _=>[(0,ptr b),(1,.iface 289 (.bool p)),(2,.bool tn),(7,ptr b7)]) (fun _=>K) (fun j=>[pt b7 (aU [i64 j,i64 0,i64 0,.bool false,.slice none 0 0,.slice none 0 0,i64 0] 41),cdr b vs]) ?_ ?_
 ·
  refine zz5 ?_;refine d8 19 rfl (fun h19=>?_) (fun h19=>?_)
  ·
   refine zz2 ?_;refine uAn ?_;rintro _ K _ ⟨rfl,rfl⟩ -;refine aF ?_;exact bU _ gCM (.cons 0 rfl (.cons 1 rfl (.cons 2 rfl (.cons 7 rfl .nil)))) rfl (fun _ h=>h)
  ·
   refine aW ?_;exact bU _ gCM (.cons 0 rfl (.cons 1 rfl (.cons 2 rfl (.cons 7 rfl .nil)))) rfl (fun _ h=>h)
 ·
  intro j hj;refine zz9 ?_;refine aA (dH Tryz.underlying293 (fun _ h=>by cases h) rfl aJB rfl) rfl ?_;refine zz7 ?_;refine aA (fK Tryz.underlying289 (fun _ h=>by cases h) rfl) rfl ?_;refine zz15 ?_;refine aA (aLX Tryz.underlying4 rfl rfl) rfl ?_;refine zz2 ?_;refine d8 36 rfl (fun h36=>?_) (fun h36=>?_)
  ·
   have e36:unl (.const p) tn ops=(ops,[]):=(by unfold unl;rw[if_neg (by intro h;subst h;simp at h36)]);refine zz9 ?_;refine uBe ?_;refine eD (eT (jT 3)) ?_;refine zz1 ?_;rw[e36];exact⟨_,rfl,vs,hv,rfl⟩
  ·
   have e36:unl (.const p) tn ops=(ops++[jmp 3],[ops.length]):=(by unfold unl;rw[if_pos (by simpa using h36)]);refine zz5 ?_;refine uAi ?_;refine ol_s (a6 (z0:=[.int .i64 0,.int .i64 0,.int .i64 0,.bool false,.slice none 0 0,.slice none 0 0,.int .i64 0]) iX tz41 rfl rfl rfl rfl (.cons rfl rfl rfl (.cons (.cons (.cons (.cons (.cons (.cons (.cons .nil))))))) .nil)) rfl ?_;rintro _ K _ ⟨b39,rfl,rfl,rfl⟩ -;refine aY rfl rfl (kD b b39 vs [jmpV 3] _ _ rfl gBV) (.cons (.there (.there .here)) (.cons .here .nil)) rfl ?_;rintro _ K _ ⟨rfl,rfl,rfl⟩ -;refine ol_s (a6 (z0:=[.int .i64 0]) qJ tz3 rfl rfl rfl rfl (.cons rfl rfl rfl (.cons .nil) .nil)) rfl ?_;rintro _ K _ ⟨b41,rfl,rfl,rfl⟩ -;refine zz6 ?_;refine uAh ?_;refine eD (iF (zE b41 3 ops.length _ (by rw[List.length_append,hvl];simp))) ?_;refine zz1 ?_;rw[e36];exact⟨_,rfl,_,RIs.append (ws:=[jmpV 3]) (ps:=[jmp 3]) ⟨oS _ _,trivial⟩ hv,rfl⟩
theorem aW5(t:Tree)(ih:UnlS t):UnlS (.not_ t):=by
 intro hw b tn ty u vs ops K hr hv hl;obtain⟨⟨cv,hcv⟩,hr1,he⟩:=hr;have hwt:wf t 0=true:=by simpa[wf]using hw
 obtain⟨ty2,u2,hc⟩:=xQ (.inl hwt) hr1;cases hc
 cases he
 simp only[cnt]at hl;have hvl:=hv.length;refine aZ Tryz.func270 rfl Tryz.ntmps270 rfl rfl fun F w=>?_
 refine zz7 ?_;refine uAi ?_;refine zz1 ?_;rintro _ K _ ⟨b7,rfl,rfl,rfl⟩ -;refine bR (cM kO rfl rfl rfl bB gBK (.cons (.cons (.cons (.cons (.cons (.cons (.cons .nil))))))) gBU) ?_;rintro _ K _ ⟨rfl,rfl⟩ -;refine zz2 ?_;refine gG (fun(j:Int)=>j=if tn=true then 4 else 5) (fun _=>[(0,ptr b),(1,.iface 293 (.agg #[.iface ty2 u2])),(2,.bool tn),(7,ptr b7)]) (fun _=>K) (fun j=>[pt b7 (aU [i64 j,i64 0,i64 0,.bool false,.slice none 0 0,.slice none 0 0,i64 0] 41),cdr b vs]) ?_ ?_
 ·
  refine zz5 ?_;refine d8 19 rfl (fun h19=>?_) (fun h19=>?_)
  ·
   refine zz2 ?_;refine uAn ?_;rintro _ K _ ⟨rfl,rfl⟩ -;refine aF ?_;exact bU _ gCM (.cons 0 rfl (.cons 1 rfl (.cons 2 rfl (.cons 7 rfl .nil)))) rfl (fun _ h=>h)
  ·
   refine aW ?_;exact bU _ gCM (.cons 0 rfl (.cons 1 rfl (.cons 2 rfl (.cons 7 rfl .nil)))) rfl (fun _ h=>h)
 ·
  intro j hj;refine zz9 ?_;refine aA (fK Tryz.underlying293 (fun _ h=>by cases h) rfl) rfl ?_;refine zz8 ?_;rintro _ K _ ⟨b8,rfl,rfl,rfl⟩ -;refine bR (cM aWQ rfl rfl rfl bB gBK (.cons .nil) gBU) ?_;rintro _ K _ ⟨rfl,rfl⟩ -;refine zz8 ?_;refine aA gBN rfl ?_;refine aY rfl rfl (ih hwt b (!tn) ty2 u2 vs ops _ hr1 hv aH) (.cons (.there (.there .here)) .nil) rfl ?_;rintro _ K1 _ ⟨vs1,hv1,rfl⟩ le1;refine zz6 ?_;refine uAh ?_;refine bJ rfl rfl le1 ?_;exact⟨_,rfl,vs1,hv1,rfl⟩
theorem aW4(tag:Int)(oct:Bool)(op:Int)(a b1:List (List UInt8)):UnlS (.mat tag oct op a b1):=by
 intro hw b tn ty u vs ops K hr hv hl;obtain⟨va,vb,hA,hB,he⟩:=hr;obtain⟨sa,sn,sc,rfl⟩:=hA.isSlice;obtain⟨ta,tn2,tc,rfl⟩:=hB.isSlice;cases he
 have hvl:=hv.length;refine aZ Tryz.func270 rfl Tryz.ntmps270 rfl rfl fun F w=>?_
 refine zz7 ?_;refine uAi ?_;refine zz1 ?_;rintro _ K _ ⟨b7,rfl,rfl,rfl⟩ -;refine bR (cM kO rfl rfl rfl bB gBK (.cons (.cons (.cons (.cons (.cons (.cons (.cons .nil))))))) gBU) ?_;rintro _ K _ ⟨rfl,rfl⟩ -;refine zz2 ?_;refine gG (fun(j:Int)=>j=if tn=true then 4 else 5) (fun _=>[(0,ptr b),(1,.iface 380 (.agg #[i64 tag,.bool oct,i64 op,.slice sa sn sc,.slice ta tn2 tc])),(2,.bool tn),(7,ptr b7)]) (fun _=>K) (fun j=>[pt b7 (aU [i64 j,i64 0,i64 0,.bool false,.slice none 0 0,.slice none 0 0,i64 0] 41),cdr b vs]) ?_ ?_
 ·
  refine zz5 ?_;refine d8 19 rfl (fun h19=>?_) (fun h19=>?_)
  ·
   refine zz2 ?_;refine uAn ?_;rintro _ K _ ⟨rfl,rfl⟩ -;refine aF ?_;exact bU _ gCM (.cons 0 rfl (.cons 1 rfl (.cons 2 rfl (.cons 7 rfl .nil)))) rfl (fun _ h=>h)
  ·
   refine aW ?_;exact bU _ gCM (.cons 0 rfl (.cons 1 rfl (.cons 2 rfl (.cons 7 rfl .nil)))) rfl (fun _ h=>h)
 ·
  intro j hj;refine zz9 ?_;refine aA (dH Tryz.underlying293 (fun _ h=>by cases h) rfl aJB rfl) rfl ?_;refine zz7 ?_;refine aA (dH Tryz.underlying289 (fun _ h=>by cases h) rfl aMI rfl) rfl ?_;refine zz7 ?_;refine aA (dH Tryz.underlying376 (fun _ h=>by cases h) rfl aUI rfl) rfl ?_;refine zz7 ?_;refine aA (fK Tryz.underlying380 (fun _ h=>by cases h) rfl) rfl ?_;refine zz8 ?_;rintro _ K _ ⟨b15,rfl,rfl,rfl⟩ -;refine bR (cM aF2 rfl rfl rfl bB gBK (.cons (.cons (.cons (.cons (.cons .nil))))) gBU) ?_;rintro _ K _ ⟨rfl,rfl⟩ -;refine zz17 ?_;refine aA (cR tb41 pI (.cons rfl rfl rfl (.cons .nil) (.cons rfl rfl rfl (.skip (.skip (.cons .nil))) (.cons rfl rfl rfl (.skip (.skip (.skip (.cons .nil)))) (.cons rfl rfl rfl (.skip (.skip (.skip (.skip (.cons .nil))))) (.cons rfl rfl rfl (.skip (.skip (.skip (.skip (.skip (.cons .nil)))))) .nil)))))) rfl ?_;refine zz1 ?_;refine ol_s (a6 (z0:=[.int .i64 0,.int .i64 0,.int .i64 0,.bool false,.slice none 0 0,.slice none 0 0,.int .i64 0,.int .i64 0,.int .i64 0,.int .i64 0,.bool false,.slice none 0 0,.slice none 0 0,.int .i64 0]) iX tz41 rfl rfl rfl rfl (.cons rfl rfl rfl (.cons (.cons (.cons (.cons (.cons (.cons (.cons .nil))))))) (.cons rfl rfl rfl (.skip (.skip (.skip (.skip (.skip (.skip (.skip (.cons (.cons (.cons (.cons (.cons (.cons (.cons .nil)))))))))))))) .nil))) rfl ?_;rintro _ K _ ⟨b107,rfl,rfl,rfl⟩ -;refine aY rfl rfl (kD b b107 vs [⟨op,0,tag,oct,⟨.slice sa sn sc,rfl⟩,⟨.slice ta tn2 tc,rfl⟩,0⟩,jmpV j] _ _ rfl gBV) (.cons (.there (.there (.there .here))) (.cons .here .nil)) rfl ?_;rintro _ K _ ⟨rfl,rfl,rfl⟩ -;refine ol_s (a6 (z0:=[.int .i64 0]) qJ tz3 rfl rfl rfl rfl (.cons rfl rfl rfl (.cons .nil) .nil)) rfl ?_;rintro _ K _ ⟨b109,rfl,rfl,rfl⟩ -;refine zz6 ?_;refine uAh ?_;refine eD (iF (zE b109 3 (ops.length+1) _ gC0)) ?_;refine zz1 ?_;unfold unl;exact⟨_,rfl,_,RIs.append (RIs.two ⟨rfl,rfl,rfl,rfl,rfl,hA,hB⟩ (by rw[hj];exact oS _ _)) hv,rfl⟩
theorem aW2(a:List (List UInt8)):UnlS (.exi a):=by
 intro hw b tn ty u vs ops K hr hv hl;obtain⟨va,hA,he⟩:=hr;obtain⟨sa,sn,sc,rfl⟩:=hA.isSlice;cases he
 have hvl:=hv.length;refine aZ Tryz.func270 rfl Tryz.ntmps270 rfl rfl fun F w=>?_
 refine zz7 ?_;refine uAi ?_;refine zz1 ?_;rintro _ K _ ⟨b7,rfl,rfl,rfl⟩ -;refine bR (cM kO rfl rfl rfl bB gBK (.cons (.cons (.cons (.cons (.cons (.cons (.cons .nil))))))) gBU) ?_;rintro _ K _ ⟨rfl,rfl⟩ -;refine zz2 ?_;refine gG (fun(j:Int)=>j=if tn=true then 4 else 5) (fun _=>[(0,ptr b),(1,.iface 297 (.agg #[.slice sa sn sc])),(2,.bool tn),(7,ptr b7)]) (fun _=>K) (fun j=>[pt b7 (aU [i64 j,i64 0,i64 0,.bool false,.slice none 0 0,.slice none 0 0,i64 0] 41),cdr b vs]) ?_ ?_
 ·
  refine zz5 ?_;refine d8 19 rfl (fun h19=>?_) (fun h19=>?_)
  ·
   refine zz2 ?_;refine uAn ?_;rintro _ K _ ⟨rfl,rfl⟩ -;refine aF ?_;exact bU _ gCM (.cons 0 rfl (.cons 1 rfl (.cons 2 rfl (.cons 7 rfl .nil)))) rfl (fun _ h=>h)
  ·
   refine aW ?_;exact bU _ gCM (.cons 0 rfl (.cons 1 rfl (.cons 2 rfl (.cons 7 rfl .nil)))) rfl (fun _ h=>h)
 ·
  intro j hj;refine zz9 ?_;refine aA (dH Tryz.underlying293 (fun _ h=>by cases h) rfl aJB rfl) rfl ?_;refine zz7 ?_;refine aA (dH Tryz.underlying289 (fun _ h=>by cases h) rfl aMI rfl) rfl ?_;refine zz7 ?_;refine aA (dH Tryz.underlying376 (fun _ h=>by cases h) rfl aUI rfl) rfl ?_;refine zz7 ?_;refine aA (dH Tryz.underlying380 (fun _ h=>by cases h) rfl aX0 rfl) rfl ?_;refine zz7 ?_;refine aA (fK Tryz.underlying297 (fun _ h=>by cases h) rfl) rfl ?_;refine zz8 ?_;rintro _ K _ ⟨b16,rfl,rfl,rfl⟩ -;refine bR (cM aWR rfl rfl rfl bB gBK (.cons .nil) gBU) ?_;rintro _ K _ ⟨rfl,rfl⟩ -;refine zz7 ?_;refine aA (cR tb41 pI (.cons rfl rfl rfl (.cons .nil) (.cons rfl rfl rfl (.skip (.skip (.skip (.skip (.cons .nil))))) .nil))) rfl ?_;refine zz1 ?_;refine ol_s (a6 (z0:=[.int .i64 0,.int .i64 0,.int .i64 0,.bool false,.slice none 0 0,.slice none 0 0,.int .i64 0,.int .i64 0,.int .i64 0,.int .i64 0,.bool false,.slice none 0 0,.slice none 0 0,.int .i64 0]) iX tz41 rfl rfl rfl rfl (.cons rfl rfl rfl (.cons (.cons (.cons (.cons (.cons (.cons (.cons .nil))))))) (.cons rfl rfl rfl (.skip (.skip (.skip (.skip (.skip (.skip (.skip (.cons (.cons (.cons (.cons (.cons (.cons (.cons .nil)))))))))))))) .nil))) rfl ?_;rintro _ K _ ⟨b118,rfl,rfl,rfl⟩ -;refine aY rfl rfl (kD b b118 vs [⟨9,0,0,false,⟨.slice sa sn sc,rfl⟩,nilC,0⟩,jmpV j] _ _ rfl gBV) (.cons (.there (.there (.there .here))) (.cons .here .nil)) rfl ?_;rintro _ K _ ⟨rfl,rfl,rfl⟩ -;refine ol_s (a6 (z0:=[.int .i64 0]) qJ tz3 rfl rfl rfl rfl (.cons rfl rfl rfl (.cons .nil) .nil)) rfl ?_;rintro _ K _ ⟨b120,rfl,rfl,rfl⟩ -;refine zz6 ?_;refine uAh ?_;refine eD (iF (zE b120 3 (ops.length+1) _ gC0)) ?_;refine zz1 ?_;unfold unl;exact⟨_,rfl,_,RIs.append (RIs.two ⟨rfl,rfl,rfl,rfl,rfl,hA,pB _⟩ (by rw[hj];exact oS _ _)) hv,rfl⟩
theorem aW6(tag n:Int):UnlS (.siz tag n):=by
 intro hw b tn ty u vs ops K hr hv hl;cases (show [(_,u0)]=[(_,u0)]from hr)
 have hvl:=hv.length;refine aZ Tryz.func270 rfl Tryz.ntmps270 rfl rfl fun F w=>?_
 refine zz7 ?_;refine uAi ?_;refine zz1 ?_;rintro _ K _ ⟨b7,rfl,rfl,rfl⟩ -;refine bR (cM kO rfl rfl rfl bB gBK (.cons (.cons (.cons (.cons (.cons (.cons (.cons .nil))))))) gBU) ?_;rintro _ K _ ⟨rfl,rfl⟩ -;refine zz2 ?_;refine gG (fun(j:Int)=>j=if tn=true then 4 else 5) (fun _=>[(0,ptr b),(1,.iface 300 (.agg #[i64 tag,i64 n])),(2,.bool tn),(7,ptr b7)]) (fun _=>K) (fun j=>[pt b7 (aU [i64 j,i64 0,i64 0,.bool false,.slice none 0 0,.slice none 0 0,i64 0] 41),cdr b vs]) ?_ ?_
 ·
  refine zz5 ?_;refine d8 19 rfl (fun h19=>?_) (fun h19=>?_)
  ·
   refine zz2 ?_;refine uAn ?_;rintro _ K _ ⟨rfl,rfl⟩ -;refine aF ?_;exact bU _ gCM (.cons 0 rfl (.cons 1 rfl (.cons 2 rfl (.cons 7 rfl .nil)))) rfl (fun _ h=>h)
  ·
   refine aW ?_;exact bU _ gCM (.cons 0 rfl (.cons 1 rfl (.cons 2 rfl (.cons 7 rfl .nil)))) rfl (fun _ h=>h)
 ·
  intro j hj;refine zz9 ?_;refine aA (dH Tryz.underlying293 (fun _ h=>by cases h) rfl aJB rfl) rfl ?_;refine zz7 ?_;refine aA (dH Tryz.underlying289 (fun _ h=>by cases h) rfl aMI rfl) rfl ?_;refine zz7 ?_;refine aA (dH Tryz.underlying376 (fun _ h=>by cases h) rfl aUI rfl) rfl ?_;refine zz7 ?_;refine aA (dH Tryz.underlying380 (fun _ h=>by cases h) rfl aX0 rfl) rfl ?_;refine zz7 ?_;refine aA (dH Tryz.underlying297 (fun _ h=>by cases h) rfl bBJ rfl) rfl ?_;refine zz7 ?_;refine aA (fK Tryz.underlying300 (fun _ h=>by cases h) rfl) rfl ?_;refine zz8 ?_;rintro _ K _ ⟨b17,rfl,rfl,rfl⟩ -;refine bR (cM aWS rfl rfl rfl bB gBK (.cons (.cons .nil)) gBU) ?_;rintro _ K _ ⟨rfl,rfl⟩ -;refine zz9 ?_;refine aA (cR tb41 pI (.cons rfl rfl rfl (.cons .nil) (.cons rfl rfl rfl (.skip (.skip (.cons .nil))) (.cons rfl rfl rfl (.skip (.cons .nil)) .nil)))) rfl ?_;refine zz1 ?_;refine ol_s (a6 (z0:=[.int .i64 0,.int .i64 0,.int .i64 0,.bool false,.slice none 0 0,.slice none 0 0,.int .i64 0,.int .i64 0,.int .i64 0,.int .i64 0,.bool false,.slice none 0 0,.slice none 0 0,.int .i64 0]) iX tz41 rfl rfl rfl rfl (.cons rfl rfl rfl (.cons (.cons (.cons (.cons (.cons (.cons (.cons .nil))))))) (.cons rfl rfl rfl (.skip (.skip (.skip (.skip (.skip (.skip (.skip (.cons (.cons (.cons (.cons (.cons (.cons (.cons .nil)))))))))))))) .nil))) rfl ?_;rintro _ K _ ⟨b131,rfl,rfl,rfl⟩ -;refine aY rfl rfl (kD b b131 vs [⟨10,n,tag,false,nilC,nilC,0⟩,jmpV j] _ _ rfl gBV) (.cons (.there (.there (.there .here))) (.cons .here .nil)) rfl ?_;rintro _ K _ ⟨rfl,rfl,rfl⟩ -;refine ol_s (a6 (z0:=[.int .i64 0]) qJ tz3 rfl rfl rfl rfl (.cons rfl rfl rfl (.cons .nil) .nil)) rfl ?_;rintro _ K _ ⟨b133,rfl,rfl,rfl⟩ -;refine zz6 ?_;refine uAh ?_;refine eD (iF (zE b133 3 (ops.length+1) _ gC0)) ?_;refine zz1 ?_;unfold unl;exact⟨_,rfl,_,RIs.append (RIs.two ⟨rfl,rfl,rfl,rfl,rfl,pB _,pB _⟩ (by rw[hj];exact oS _ _)) hv,rfl⟩
end Go.Proofs
end
section
attribute [local irreducible] Go.SL.T Go.SL.OL Go.SL.D Go.SL.DL Go.SL.Ev Go.SL.Ef Go.SL.EfS
namespace Go.Proofs
open Go Go.SL Go.Syn Go.Cmp
theorem aK7{all tn:Bool}{t l:Tree}{ops:List Mach.Ins}{a h:List Nat}(hc:¬(all=tn∧eH l=false)):unlL all tn (.tcons t l) ops a h=unlL all tn l (unl t tn ops).1 (a++(unl t tn ops).2) h:=by
 simp only[unlL];rw[if_neg hc]
theorem aK8{all tn:Bool}{t l:Tree}{ops:List Mach.Ins}{a h:List Nat}(hc:all=tn∧eH l=false):unlL all tn (.tcons t l) ops a h=unlL all tn l (unl t (!tn) ops).1 a (h++(unl t (!tn) ops).2):=by
 simp only[unlL];rw[if_pos hc]
theorem aU5{t:Tree}(h:wf t 0=true):1≤cnt t:=by
 cases t <;> simp only[wf,cnt]at h ⊢ <;> first|omega|(simp at h)
theorem aS7{K:Hl}:∀ {l:Tree} {xs:List (Cell×Cell)},wf l 1=true→Rep K l xs→xs.length≤cnt l:=by
 intro l;induction l with
 |tnil=>intro xs _ h;cases (show xs=[]from h);simp
 |tcons t l ih1 ih2=>
  rintro xs hw ⟨v,ys,h1,h2,rfl⟩;simp[wf]at hw;have:=ih2 hw.2 h2;have:=aU5 hw.1;simp only[cnt,List.length_cons];omega
 |_=>intro xs hw _;simp[wf]at hw
theorem aUN(all:Bool)(l:Tree)(ih:UnlL l):UnlS (.many all l):=by
  intro hw b tn ty u vs ops K hr hv hl;obtain⟨xs,sv,hrl,hS,he⟩:=hr;obtain⟨sa,sn,sc,rfl⟩:=hS.isSlice;cases he
  have hwl:wf l 1=true:=by simpa[wf]using hw
  have hxl:=aS7 hwl hrl;simp only[cnt]at hl;have hvl:=hv.length;refine aZ Tryz.func270 rfl Tryz.ntmps270 rfl rfl fun F w=>?_
  refine zz7 ?_;refine uAi ?_;refine zz1 ?_;rintro _ K _ ⟨b7,rfl,rfl,rfl⟩ -;refine bR (cM kO rfl rfl rfl bB gBK (.cons (.cons (.cons (.cons (.cons (.cons (.cons .nil))))))) gBU) ?_;rintro _ K _ ⟨rfl,rfl⟩ -;refine zz2 ?_;refine gG (fun(j:Int)=>j=if tn=true then 4 else 5) (fun _=>[(0,ptr b),(1,.iface 376 (.agg #[.bool all,.slice sa sn sc])),(2,.bool tn),(7,ptr b7)]) (fun _=>K) (fun j=>[pt b7 (aU [i64 j,i64 0,i64 0,.bool false,.slice none 0 0,.slice none 0 0,i64 0] 41),cdr b vs]) ?_ ?_
  ·
    refine zz5 ?_;refine d8 19 rfl (fun h19=>?_) (fun h19=>?_)
    ·
      refine zz2 ?_;refine uAn ?_;rintro _ K _ ⟨rfl,rfl⟩ -;refine aF ?_;exact bU _ gCM (.cons 0 rfl (.cons 1 rfl (.cons 2 rfl (.cons 7 rfl .nil)))) rfl (fun _ h=>h)
    ·
      refine aW ?_;exact bU _ gCM (.cons 0 rfl (.cons 1 rfl (.cons 2 rfl (.cons 7 rfl .nil)))) rfl (fun _ h=>h)
  ·
    intro j hj;refine zz9 ?_;refine aA (dH Tryz.underlying293 (fun _ h=>by cases h) rfl aJB rfl) rfl ?_;refine zz7 ?_;refine aA (dH Tryz.underlying289 (fun _ h=>by cases h) rfl aMI rfl) rfl ?_;refine zz7 ?_;refine aA (fK Tryz.underlying376 (fun _ h=>by cases h) rfl) rfl ?_;refine zz8 ?_;rintro _ K _ ⟨b10,rfl,rfl,rfl⟩ -;refine bR (cM aF1 rfl rfl rfl bB gBK (.cons (.cons .nil)) gBU) ?_;rintro _ K _ ⟨rfl,rfl⟩ -;refine zz11 ?_;refine jY (eT (jT 3)) ?_;refine jY (eT (jT 3)) ?_;refine zz2 ?_;refine aA (bX (k:=(dY 288)) rfl Tryz.underlying374 rfl aN) rfl ?_;refine zz4 ?_;refine aIW (.cons (.there (.there .here)) (.cons .here (.cons .here (.cons (.there .here) .nil)))) ?_;refine aFY (fun(K2:Hl) (i:Nat) (av hv2:Value) (vs2:List InsV) (aw he:List Nat)=>K.le K2∧i≤xs.length∧∃rest ops2,Rep K2 rest (xs.drop i)∧wf rest 1=true∧UnlL rest∧RIs K2 vs2 ops2∧unlL all tn l ops [] []=unlL all tn rest ops2 aw he∧vs2.length+2*cnt rest≤900000∧aw.length+cnt rest≤900000∧he.length+cnt rest≤900000) (fun _ i av hv2 _ _ _=>[(0,ptr b),(2,.bool tn),(10,ptr b10),(11,av),(12,hv2),(46,.slice sa sn sc),(47,i64 (xs.map Prod.fst).length),(48,i64 i)]) (fun K2 _ _ _ _ _ _=>K2) (fun _ _ av hv2 vs2 aw he=>[pt b10 (aU [.bool all,.slice sa sn sc] 376),sl false (jT 3) av aw,sl false (jT 3) hv2 he,cdr b vs2]) (fun _ i _ _ _ _ _=>xs.length - i) K 0 _ _ vs [] [] ⟨Hl.le_refl _,Nat.zero_le _,l,ops,hrl,hwl,ih,hv,rfl,by omega,by simp;omega,by simp;omega⟩ (.cons 0 rfl (.cons 2 rfl (.cons 10 rfl (.cons 11 rfl (.cons 12 rfl (.cons 46 rfl (.cons 47 rfl (.cons 48 rfl .nil)))))))) rfl (fun _ h=>h) ?_;intro K2 i av hv2 vs2 aw he ⟨leL,hi0,rest,ops2,hrr,hwr,ihr,hv2r,hx,hb1,hb2,hb3⟩;have hSl:Ksl (dY 288) K2 (.slice sa sn sc) (xs.map Prod.fst):=hS.mono leL;have hml:(xs.map Prod.fst).length=xs.length:=List.length_map _;refine zz6 ?_;refine bG 49 rfl (fun h49=>?_) (fun h49=>?_)
    ·
      have hilt:i < xs.length:=by omega
      obtain⟨t1,l1,c,rfl,hrt,hrl1,hxi,hwt,hwl1⟩:=aO0 hwr hrr hilt;obtain⟨⟨cv,hcv⟩,hc⟩:∃c2,c=c2:=⟨_,rfl⟩;subst hc;obtain⟨ty2,u2,hce⟩:=xQ (.inl hwt) hrt;cases hce
      have hget:(xs.map Prod.fst)[i]?=some ⟨.iface ty2 u2,hcv⟩:=(by rw[List.getElem?_map,hxi];rfl);simp only[cnt]at hb1 hb2 hb3;have hun:=(iU t1).1;have hnil:=aS9 hwl1 hrl1;have hdl:(xs.drop (i+1)).length=xs.length - (i+1):=List.length_drop;have hv2l:=hv2r.length;refine zz7 ?_;refine aA (bQ (k:=(dY 288)) pK rfl aN rfl rfl gBR) rfl ?_;refine aA (cV (o:=0) (k:=(dY 288)) sW rfl aN bV rfl) rfl ?_;refine zz10 ?_;refine aA (aLX Tryz.underlying4 rfl rfl) rfl ?_;refine zz3 ?_;refine d8 59 rfl (fun h59=>?_) (fun h59=>?_)
      ·
        refine zz5 ?_;refine aY rfl rfl (ihr.1 hwt b tn ty2 u2 vs2 ops2 _ hrt hv2r aH) (.cons (.there (.there (.there .here))) .nil) rfl ?_;rintro pv K3 _ ⟨vs3,hv3,rfl⟩ leM;have hu:=hun tn ops2;refine ol_s (dT (k:=(jT 3)) (ys:=(unl t1 tn ops2).2) rF rfl rfl (.there (.there (.there .here))) (fun w j=>dK Tryz.underlying55 (SeesSl.at (k:=jT 3) (.own .here) j)) gBQ gBQ) rfl ?_;rintro v69 K _ ⟨rfl,rfl,ho69⟩ -;refine zz9 ?_
        first
          | (have hcc : ¬ (all = tn ∧ eH l1 = false) := gB6
             refine uAt ?_;refine jG _ (i+1) _ hv2 vs3 (aw++(unl t1 tn ops2).2) he ⟨Hl.le_trans leL leM,by omega,l1,_,hrl1.mono leM,hwl1,ihr.2,hv3,by rw[hx,aK7 hcc],by have:=hv3.length;omega,by rw[List.length_append];omega,by omega⟩ aH (.cons 0 rfl (.cons 2 rfl (.cons 10 rfl (.cons 11 rfl (.cons 12 rfl (.cons 46 rfl (.cons 47 rfl (.cons 48 rfl .nil)))))))) rfl bO)
          | (have hcc : all = tn ∧ eH l1 = false := ⟨by simpa using h59, hnil.2 aH⟩
             refine uAs ?_;refine jG _ (i+1) av _ vs3 aw (he++(unl t1 (!tn) ops2).2) ⟨Hl.le_trans leL leM,by omega,l1,_,hrl1.mono leM,hwl1,ihr.2,hv3,by rw[hx,aK8 hcc],by have:=hv3.length;omega,by omega,by rw[List.length_append];omega⟩ aH (.cons 0 rfl (.cons 2 rfl (.cons 10 rfl (.cons 11 rfl (.cons 12 rfl (.cons 46 rfl (.cons 47 rfl (.cons 48 rfl .nil)))))))) rfl bO)
      ·
        refine zz5 ?_;refine aA (bX (k:=(dY 288)) rfl Tryz.underlying374 rfl aN) rfl ?_;refine zz5 ?_;refine bG 70 rfl (fun h70=>?_) (fun h70=>?_)
        ·
          refine zz5 ?_;refine aA gBN rfl ?_;refine aY rfl rfl (ihr.1 hwt b (!tn) ty2 u2 vs2 ops2 _ hrt hv2r aH) (.cons (.there (.there (.there .here))) .nil) rfl ?_;rintro pv K3 _ ⟨vs3,hv3,rfl⟩ leM;have hu:=hun (!tn) ops2;refine ol_s (dT (k:=(jT 3)) (ys:=(unl t1 (!tn) ops2).2) rF rfl rfl (.there (.there (.there (.there .here)))) (fun w j=>dK Tryz.underlying55 (SeesSl.at (k:=jT 3) (.own .here) j)) gBQ gBQ) rfl ?_;rintro v83 K _ ⟨rfl,rfl,ho83⟩ -;refine zz9 ?_
          first
            | (have hcc : ¬ (all = tn ∧ eH l1 = false) := gB6
               refine uAt ?_;refine jG _ (i+1) _ hv2 vs3 (aw++(unl t1 tn ops2).2) he ⟨Hl.le_trans leL leM,by omega,l1,_,hrl1.mono leM,hwl1,ihr.2,hv3,by rw[hx,aK7 hcc],by have:=hv3.length;omega,by rw[List.length_append];omega,by omega⟩ aH (.cons 0 rfl (.cons 2 rfl (.cons 10 rfl (.cons 11 rfl (.cons 12 rfl (.cons 46 rfl (.cons 47 rfl (.cons 48 rfl .nil)))))))) rfl bO)
            | (have hcc : all = tn ∧ eH l1 = false := ⟨by simpa using h59, hnil.2 aH⟩
               refine uAs ?_;refine jG _ (i+1) av _ vs3 aw (he++(unl t1 (!tn) ops2).2) ⟨Hl.le_trans leL leM,by omega,l1,_,hrl1.mono leM,hwl1,ihr.2,hv3,by rw[hx,aK8 hcc],by have:=hv3.length;omega,by omega,by rw[List.length_append];omega⟩ aH (.cons 0 rfl (.cons 2 rfl (.cons 10 rfl (.cons 11 rfl (.cons 12 rfl (.cons 46 rfl (.cons 47 rfl (.cons 48 rfl .nil)))))))) rfl bO)
        ·
          refine zz5 ?_;refine aY rfl rfl (ihr.1 hwt b tn ty2 u2 vs2 ops2 _ hrt hv2r aH) (.cons (.there (.there (.there .here))) .nil) rfl ?_;rintro pv K3 _ ⟨vs3,hv3,rfl⟩ leM;have hu:=hun tn ops2;refine ol_s (dT (k:=(jT 3)) (ys:=(unl t1 tn ops2).2) rF rfl rfl (.there (.there (.there .here))) (fun w j=>dK Tryz.underlying55 (SeesSl.at (k:=jT 3) (.own .here) j)) gBQ gBQ) rfl ?_;rintro v58 K _ ⟨rfl,rfl,ho58⟩ -;refine zz9 ?_
          first
            | (have hcc : ¬ (all = tn ∧ eH l1 = false) := gB6
               refine uAt ?_;refine jG _ (i+1) _ hv2 vs3 (aw++(unl t1 tn ops2).2) he ⟨Hl.le_trans leL leM,by omega,l1,_,hrl1.mono leM,hwl1,ihr.2,hv3,by rw[hx,aK7 hcc],by have:=hv3.length;omega,by rw[List.length_append];omega,by omega⟩ aH (.cons 0 rfl (.cons 2 rfl (.cons 10 rfl (.cons 11 rfl (.cons 12 rfl (.cons 46 rfl (.cons 47 rfl (.cons 48 rfl .nil)))))))) rfl bO)
            | (have hcc : all = tn ∧ eH l1 = false := ⟨by simpa using h59, hnil.2 aH⟩
               refine uAs ?_;refine jG _ (i+1) av _ vs3 aw (he++(unl t1 (!tn) ops2).2) ⟨Hl.le_trans leL leM,by omega,l1,_,hrl1.mono leM,hwl1,ihr.2,hv3,by rw[hx,aK8 hcc],by have:=hv3.length;omega,by omega,by rw[List.length_append];omega⟩ aH (.cons 0 rfl (.cons 2 rfl (.cons 10 rfl (.cons 11 rfl (.cons 12 rfl (.cons 46 rfl (.cons 47 rfl (.cons 48 rfl .nil)))))))) rfl bO)
    ·
      have hend:unlL all tn l ops [] []=(ops2,aw,he):=(by rw[hx];exact aS4 hwr hrr (List.drop_eq_nil_of_le aH));have hpl:=((iU l).2 all tn ops [] [] (by simp) (by simp));rw[hend]at hpl;simp only[List.length_nil]at hpl;have hv2l:=hv2r.length;refine zz9 ?_;refine aY rfl rfl (pU b hv2 vs2 he _ aH aH (fun k hk=>by have:=hpl.2.2.2.2.2 k hk;omega)) (.cons (.there (.there (.there .here))) (.cons (.there (.there .here)) .nil)) rfl ?_;rintro _ K _ ⟨rfl,rfl,rfl⟩ -;refine zz11 ?_;refine uAd ?_;refine bJ rfl rfl leL ?_;have e:unl (.many all l) tn ops=(land ops2 he,aw):=(by simp only[unl,hend]);rw[e];exact⟨_,rfl,_,hv2r.land,rfl⟩
theorem aW1:∀(t:Tree),UnlS t∧UnlL t:=by
 intro t;induction t with
 |const p=>exact⟨aP5 p,trivial⟩
 |not_ t ih=>exact⟨aW5 t ih.1,trivial⟩
 |many all l ih=>exact⟨aUN all l ih.2,trivial⟩
 |mat tag oct op a b=>exact⟨aW4 tag oct op a b,trivial⟩
 |exi a=>exact⟨aW2 a,trivial⟩
 |siz tag n=>exact⟨aW6 tag n,trivial⟩
 |tcons t l ih1 ih2=>exact⟨fun h=>by simp[wf]at h,ih1.1,ih2.2⟩
 |_=>exact⟨fun h=>by simp[wf]at h,trivial⟩
end Go.Proofs
end
section
attribute [local irreducible] Go.SL.T Go.SL.OL Go.SL.D Go.SL.DL Go.SL.Ev Go.SL.Ef Go.SL.EfS
namespace Go.Proofs
open Go Go.SL Go.Syn Go.Cmp
theorem aOX{K:Hl}{rest:Tree}{xs:List (Cell×Cell)}{i:Nat}(hw:wf rest 3=true)(hr:Rep K rest (xs.drop i))(hi:i < xs.length):
  ∃t l c,rest=.ccons t l∧Rep K t [(c,u0)]∧Rep K l (xs.drop (i+1))∧xs[i]?=some (c,u0)∧wf t 2=true∧wf l 3=true:=by
 have hd:xs.drop i≠[]:=by intro h;have:=congrArg List.length h;simp at this;omega
 cases rest <;> simp only[wf,Rep]at hw hr
 case cnil=>exact absurd hr hd
 case ccons t l=>
  obtain⟨c,ys,h1,h2,h3⟩:=hr;simp at hw;have e:xs.drop (i+1)=ys:=by rw[←List.drop_drop,h3];rfl
  refine⟨t,l,c,rfl,h1,by rw[e];exact h2,?_,hw.1,hw.2⟩
  have:=List.getElem?_drop (xs:=xs) (i:=i) (j:=0);rw[h3]at this;simpa using this.symm
 all_goals simp at hw
theorem aS3{K:Hl}{rest:Tree}{ys:List (Cell×Cell)}(hw:wf rest 3=true)(hr:Rep K rest ys)(he:ys=[]){ops:List Mach.Ins}:body rest ops=ops:=by
 cases rest <;> simp only[wf,Rep]at hw hr
 case cnil=>simp[body]
 case ccons t l=>obtain⟨c,zs,_,_,rfl⟩:=hr;cases he
 all_goals simp at hw
theorem aV3{K:Hl}{c:Tree}{ty:TypeId}{u:Value}{hc:(Value.iface ty u).oneCell'=true}(hw:wf c 2=true)(h:Rep K c [(⟨.iface ty u,hc⟩,u0)]):
  (∃op,c=.plain op∧ty=285∧u=.agg #[i64 op])∨(∃k a p,c=.act k a p∧ty=282∧u=.agg #[i64 k,str a,i64 p])∨(∃n v t,c=.set_ n v t∧ty=308∧u=.agg #[str n,str v,i64 t])∨
  (∃bs ys sa sn sc,c=.iff bs∧ty=311∧u=.agg #[.slice sa sn sc]∧Rep K bs ys∧Ksl (gI 371) K (.slice sa sn sc) ys∧wf bs 4=true):=by
 cases c <;> simp only[wf,Rep]at hw h
 case plain op=>cases h;exact .inl ⟨op,rfl,rfl,rfl⟩
 case act k a p=>cases h;exact .inr (.inl ⟨k,a,p,rfl,rfl,rfl⟩)
 case set_ n v t=>cases h;exact .inr (.inr (.inl ⟨n,v,t,rfl,rfl,rfl⟩))
 case iff bs=>
  obtain⟨ys,sv,h1,h2,h3⟩:=h;obtain⟨sa,sn,sc,rfl⟩:=h2.isSlice;cases h3
  exact .inr (.inr (.inr ⟨bs,ys,sa,sn,sc,rfl,rfl,rfl,h1,h2,by simpa using hw⟩))
 all_goals simp at hw
theorem RIs.one_{K:Hl}{x:InsV}{o:Mach.Ins}(h1:RIns K x o):RIs K [x] [o]:=⟨h1,trivial⟩
abbrev aXA(b:Nat)(r:List Mach.Ins):Ending→Hl→List Asn→Prop:=Ret fun v K' L'=>v=.tuple #[]∧∃vs',RIs K' vs' r∧L'=[cdr b vs']
def aLL(l:Tree):Prop:=wf l 3=true→∀(b:Nat) (sv:Value) (xs:List (Cell×Cell)) (vs:List InsV) (ops:List Mach.Ins) (K:Hl),Rep K l xs→Ksl (dY 224) K sv (xs.map Prod.fst)→RIs K vs ops→vs.length+2*cnt l≤900000→Sp Tryz.prog 107 [ptr b,sv] K [cdr b vs] (aXA b (body l ops))
def BrS(l:Tree):Prop:=wf l 4=true→∀(b:Nat) (sa:Option Addr) (sn sc:Nat) (xs:List (Cell×Cell)) (vs:List InsV) (ops:List Mach.Ins) (K:Hl),Rep K l xs→Ksl (gI 371) K (.slice sa sn sc) xs→RIs K vs ops→vs.length+2*cnt l≤900000→Sp Tryz.prog 194 [ptr b,.agg #[.slice sa sn sc]] K [cdr b vs] (aXA b (cI l ops []))
def aXB:Tree→Prop
 | .iff bs=>BrS bs
 |_=>True
def aLK:Tree→Prop
 | .ccons c l=>aXB c∧aLK l
 |_=>True
theorem aQS{t:Tree}(h:wf t 2=true):1≤cnt t:=by
 cases t <;> simp only[wf,cnt]at h ⊢ <;> first|omega|(simp at h)
theorem aS6{K:Hl}:∀ {l:Tree} {xs:List (Cell×Cell)},wf l 3=true→Rep K l xs→xs.length≤cnt l:=by
 intro l;induction l with
 |cnil=>intro xs _ h;cases (show xs=[]from h);simp
 |ccons t l ih1 ih2=>
  rintro xs hw ⟨v,ys,h1,h2,rfl⟩;simp[wf]at hw;have:=ih2 hw.2 h2;have:=aQS hw.1;simp only[cnt,List.length_cons];omega
 |_=>intro xs hw _;simp[wf]at hw
theorem aGS(l:Tree)(ih:aLK l):aLL l:=by
 intro hw b sv xs vs ops K hr hS hv hl;have hxl:=aS6 hw hr;refine aZ Tryz.func107 rfl Tryz.ntmps107 rfl rfl fun F w=>?_
 have hml:(xs.map Prod.fst).length=xs.length:=List.length_map _;refine zz3 ?_;refine aA (bX (k:=(dY 224)) rfl Tryz.underlying135 rfl aN) rfl ?_;refine zz4 ?_;refine wP (fun(K2:Hl) (i:Nat) (vs2:List InsV)=>K.le K2∧i≤xs.length∧∃rest ops2,Rep K2 rest (xs.drop i)∧wf rest 3=true∧aLK rest∧RIs K2 vs2 ops2∧body l ops=body rest ops2∧vs2.length+2*cnt rest≤900000) (fun _ i _=>[(0,ptr b),(11,sv),(12,i64 (xs.map Prod.fst).length),(13,i64 i)]) (fun K2 _ _=>K2) (fun _ _ vs2=>[cdr b vs2]) (fun _ i _=>xs.length - i) K 0 vs ⟨Hl.le_refl _,Nat.zero_le _,l,ops,hr,hw,ih,hv,rfl,hl⟩ (.cons 0 rfl (.cons 11 rfl (.cons 12 rfl (.cons 13 rfl .nil)))) rfl (fun _ h=>h) ?_;intro K2 i vs2 ⟨leL,hi0,rest,ops2,hrr,hwr,ihr,hv2,hx,hb⟩;have hSl:Ksl (dY 224) K2 sv (xs.map Prod.fst):=hS.mono leL;have hv2l:=hv2.length;refine zz6 ?_;refine bG 14 rfl (fun h14=>?_) (fun h14=>?_)
 ·
  have hilt:i < xs.length:=by omega
  obtain⟨c,l1,cc,rfl,hrt,hrl1,hxi,hwt,hwl1⟩:=aOX hwr hrr hilt;obtain⟨⟨cv,hcv⟩,hc⟩:∃c2,cc=c2:=⟨_,rfl⟩;subst hc;obtain⟨ty2,u2,hce⟩:=xQ (.inr hwt) hrt;cases hce
  have hget:(xs.map Prod.fst)[i]?=some ⟨.iface ty2 u2,hcv⟩:=(by rw[List.getElem?_map,hxi];rfl);simp only[cnt]at hb;have hcl:=(jW c).2.1 ops2;refine zz6 ?_;refine aA (bQ (k:=(dY 224)) sV rfl aN rfl rfl gBR) rfl ?_;refine aA (cV (o:=0) (k:=(dY 224)) aXY rfl aN bV rfl) rfl ?_;refine zz3 ?_;rcases aV3 hwt hrt with ⟨op,rfl,rfl,rfl⟩|⟨k,a,p,rfl,rfl,rfl⟩|⟨n,v,t,rfl,rfl,rfl⟩|⟨bs,ys,sa,sn,sc,rfl,rfl,rfl,hrb,hSb,hwb⟩
  ·
   refine zz8 ?_;refine aA (fK Tryz.underlying285 (fun _ h=>by cases h) rfl) rfl ?_;refine zz8 ?_;rintro _ K _ ⟨b6,rfl,rfl,rfl⟩ -;refine bR (cM aWP rfl rfl rfl bB gBK (.cons .nil) gBU) ?_;rintro _ K _ ⟨rfl,rfl⟩ -;refine zz6 ?_;refine uAi ?_;refine ol_s (a6 (z0:=[.int .i64 0,.int .i64 0,.int .i64 0,.bool false,.slice none 0 0,.slice none 0 0,.int .i64 0]) iX tz41 rfl rfl rfl rfl (.cons rfl rfl rfl (.cons (.cons (.cons (.cons (.cons (.cons (.cons .nil))))))) .nil)) rfl ?_;rintro _ K _ ⟨b25,rfl,rfl,rfl⟩ -;refine aY rfl rfl (kD b b25 vs2 [jmpV op] _ _ rfl gCT) (.cons (.there (.there .here)) (.cons .here .nil)) rfl ?_;rintro _ K _ ⟨rfl,rfl,rfl⟩ -;have hv3:RIs _ _ (cmdI (.plain op) ops2):=RIs.append (ws:=[jmpV op]) (ps:=[jmp op]) ⟨oS _ _,trivial⟩ hv2;have leM:=Hl.le_refl K;refine zz8 ?_;refine uAa ?_;refine jF _ (i+1) _ ⟨Hl.le_trans leL leM,by omega,l1,_,hrl1.mono leM,hwl1,ihr.2,hv3,by rw[hx];simp only[body,cmdI],by have:=hv3.length;simp only[cmdI]at this hcl;omega⟩ aH (.cons 0 rfl (.cons 11 rfl (.cons 12 rfl (.cons 13 rfl .nil)))) rfl bO
  ·
   refine zz8 ?_;refine aA (dH Tryz.underlying285 (fun _ h=>by cases h) rfl aUG rfl) rfl ?_;refine zz7 ?_;refine aA (fK Tryz.underlying282 (fun _ h=>by cases h) rfl) rfl ?_;refine zz8 ?_;rintro _ K _ ⟨b7,rfl,rfl,rfl⟩ -;refine bR (cM aWO rfl rfl rfl bB gBK (.cons (.cons (.cons .nil))) gBU) ?_;rintro _ K _ ⟨rfl,rfl⟩ -;refine zz8 ?_;refine aA (cR tb41 pI (.cons rfl rfl rfl (.cons .nil) (.cons rfl rfl rfl (.skip (.skip (.cons .nil))) (.cons rfl rfl rfl (.skip (.skip (.skip (.skip (.skip (.skip (.cons .nil))))))) .nil)))) rfl ?_;refine zz1 ?_;rintro _ K _ ⟨b8,rfl,rfl,rfl⟩ -;refine bR (cM kO rfl rfl rfl bB gBK (.cons (.cons (.cons (.cons (.cons (.cons (.cons .nil))))))) gBU) ?_;rintro _ K _ ⟨rfl,rfl⟩ -;refine zz10 ?_;refine bG 37 rfl (fun h37=>?_) (fun h37=>?_)
   ·
    refine zz3 ?_;refine ol_s (a6 (z0:=[(str [])]) bS tz9 rfl rfl rfl rfl (.cons rfl rfl rfl (.cons .nil) .nil)) rfl ?_;rintro _ K _ ⟨b40,rfl,rfl,rfl⟩ -;refine fW fun K3 leM hb40=>?_
    refine zz1 ?_;refine uBg ?_;rintro _ K _ ⟨rfl,rfl⟩ -;refine zz5 ?_;refine ol_s (a6 (z0:=[.int .i64 0,.int .i64 0,.int .i64 0,.bool false,.slice none 0 0,.slice none 0 0,.int .i64 0]) iX tz41 rfl rfl rfl rfl (.cons rfl rfl rfl (.cons (.cons (.cons (.cons (.cons (.cons (.cons .nil))))))) .nil)) rfl ?_;rintro _ K _ ⟨b44,rfl,rfl,rfl⟩ -;refine aY rfl rfl (kD b b44 vs2 [⟨11,0,k,false,⟨.slice (some ⟨b40,0,none⟩) 1 1,rfl⟩,nilC,p⟩] _ _ rfl gCT) (.cons (.there (.there (.there .here))) (.cons .here .nil)) rfl ?_;rintro _ K _ ⟨rfl,rfl,rfl⟩ -;have hv3:RIs _ _ (cmdI (.act k a p) ops2):=(by simp only[cmdI];rw[if_neg h37];exact RIs.append (RIs.one_ (x:=⟨11,0,k,false,⟨.slice (some ⟨b40,0,none⟩) 1 1,rfl⟩,nilC,p⟩) ⟨rfl,rfl,rfl,rfl,rfl,.inr ⟨b40,0,1,[str a],(0,0),rfl,⟨_,hb40⟩,rfl⟩,pB _⟩) (hv2.mono leM));refine zz8 ?_;refine uAa ?_;refine jF _ (i+1) _ ⟨Hl.le_trans leL leM,by omega,l1,_,hrl1.mono leM,hwl1,ihr.2,hv3,by rw[hx];simp only[body,cmdI],by have:=hv3.length;simp only[cmdI]at this hcl;omega⟩ aH (.cons 0 rfl (.cons 11 rfl (.cons 12 rfl (.cons 13 rfl .nil)))) rfl bO
   ·
    refine zz5 ?_;refine ol_s (a6 (z0:=[.int .i64 0,.int .i64 0,.int .i64 0,.bool false,.slice none 0 0,.slice none 0 0,.int .i64 0]) iX tz41 rfl rfl rfl rfl (.cons rfl rfl rfl (.cons (.cons (.cons (.cons (.cons (.cons (.cons .nil))))))) .nil)) rfl ?_;rintro _ K _ ⟨b44,rfl,rfl,rfl⟩ -;refine aY rfl rfl (kD b b44 vs2 [⟨11,0,k,false,nilC,nilC,p⟩] _ _ rfl gCT) (.cons (.there (.there (.there .here))) (.cons .here .nil)) rfl ?_;rintro _ K _ ⟨rfl,rfl,rfl⟩ -;have leM:=Hl.le_refl K;have hv3:RIs _ _ (cmdI (.act k a p) ops2):=(by simp only[cmdI];rw[if_pos (Classical.not_not.1 h37)];exact RIs.append (RIs.one_ (x:=⟨11,0,k,false,nilC,nilC,p⟩) ⟨rfl,rfl,rfl,rfl,rfl,pB _,pB _⟩) hv2);refine zz8 ?_;refine uAa ?_;refine jF _ (i+1) _ ⟨Hl.le_trans leL leM,by omega,l1,_,hrl1.mono leM,hwl1,ihr.2,hv3,by rw[hx];simp only[body,cmdI],by have:=hv3.length;simp only[cmdI]at this hcl;omega⟩ aH (.cons 0 rfl (.cons 11 rfl (.cons 12 rfl (.cons 13 rfl .nil)))) rfl bO
  ·
   refine zz8 ?_;refine aA (dH Tryz.underlying285 (fun _ h=>by cases h) rfl aUG rfl) rfl ?_;refine zz7 ?_;refine aA (dH Tryz.underlying282 (fun _ h=>by cases h) rfl aXZ rfl) rfl ?_;refine zz7 ?_;refine aA (fK Tryz.underlying308 (fun _ h=>by cases h) rfl) rfl ?_;refine zz8 ?_;rintro _ K _ ⟨b9,rfl,rfl,rfl⟩ -;refine bR (cM aF0 rfl rfl rfl bB gBK (.cons (.cons (.cons .nil))) gBU) ?_;rintro _ K _ ⟨rfl,rfl⟩ -;refine zz8 ?_;refine ol_s (a6 (z0:=[(str [])]) bS tz9 rfl rfl rfl rfl (.cons rfl rfl rfl (.cons .nil) .nil)) rfl ?_;rintro _ K _ ⟨b54,rfl,rfl,rfl⟩ -;refine zz2 ?_;refine ol_s (a6 (z0:=[(str [])]) bS tz9 rfl rfl rfl rfl (.cons rfl rfl rfl (.cons .nil) .nil)) rfl ?_;rintro _ K _ ⟨b57,rfl,rfl,rfl⟩ -;refine fW fun K3 leM1 hb57=>?_
   refine fW fun K4 leM2 hb54=>?_
   have leM:=Hl.le_trans leM1 leM2;have hb57:=leM2 _ _ hb57;refine aA (cR tb41 pI (.cons rfl rfl rfl (.cons .nil) (.cons rfl rfl rfl (.skip (.skip (.cons .nil))) (.cons rfl rfl rfl (.skip (.skip (.skip (.skip (.cons .nil))))) (.cons rfl rfl rfl (.skip (.skip (.skip (.skip (.skip (.cons .nil)))))) .nil))))) rfl ?_;refine ol_s (a6 (z0:=[.int .i64 0,.int .i64 0,.int .i64 0,.bool false,.slice none 0 0,.slice none 0 0,.int .i64 0]) iX tz41 rfl rfl rfl rfl (.cons rfl rfl rfl (.cons (.cons (.cons (.cons (.cons (.cons (.cons .nil))))))) .nil)) rfl ?_;rintro _ K _ ⟨b59,rfl,rfl,rfl⟩ -;refine aY rfl rfl (kD b b59 vs2 [⟨12,0,t,false,⟨.slice (some ⟨b54,0,none⟩) 1 1,rfl⟩,⟨.slice (some ⟨b57,0,none⟩) 1 1,rfl⟩,0⟩] _ _ rfl gCT) (.cons (.there (.there .here)) (.cons .here .nil)) rfl ?_;rintro _ K _ ⟨rfl,rfl,rfl⟩ -;have hv3:RIs _ _ (cmdI (.set_ n v t) ops2):=RIs.append (RIs.one_ (x:=⟨12,0,t,false,⟨.slice (some ⟨b54,0,none⟩) 1 1,rfl⟩,⟨.slice (some ⟨b57,0,none⟩) 1 1,rfl⟩,0⟩) ⟨rfl,rfl,rfl,rfl,rfl,.inr ⟨b54,0,1,[str n],(0,0),rfl,⟨_,hb54⟩,rfl⟩,.inr ⟨b57,0,1,[str v],(0,0),rfl,⟨_,hb57⟩,rfl⟩⟩) (hv2.mono leM);refine zz8 ?_;refine uAa ?_;refine jF _ (i+1) _ ⟨Hl.le_trans leL leM,by omega,l1,_,hrl1.mono leM,hwl1,ihr.2,hv3,by rw[hx];simp only[body,cmdI],by have:=hv3.length;simp only[cmdI]at this hcl;omega⟩ aH (.cons 0 rfl (.cons 11 rfl (.cons 12 rfl (.cons 13 rfl .nil)))) rfl bO
  ·
   refine zz8 ?_;refine aA (dH Tryz.underlying285 (fun _ h=>by cases h) rfl aUG rfl) rfl ?_;refine zz7 ?_;refine aA (dH Tryz.underlying282 (fun _ h=>by cases h) rfl aXZ rfl) rfl ?_;refine zz7 ?_;refine aA (dH Tryz.underlying308 (fun _ h=>by cases h) rfl bBK rfl) rfl ?_;refine zz7 ?_;refine aA (fK Tryz.underlying311 (fun _ h=>by cases h) rfl) rfl ?_;refine zz8 ?_;rintro _ K _ ⟨b10,rfl,rfl,rfl⟩ -;refine bR (cM pG rfl rfl rfl bB gBK (.cons .nil) gBU) ?_;rintro _ K _ ⟨rfl,rfl⟩ -;refine zz5 ?_;refine aY rfl rfl (ihr.1 hwb b sa sn sc ys vs2 ops2 _ hrb hSb hv2 (by simp only[cnt]at hb;omega)) (.cons (.there .here) .nil) rfl ?_;rintro _ K3 _ ⟨rfl,vs3,hv3,rfl⟩ leM;refine zz8 ?_;refine uAa ?_;refine jF _ (i+1) _ ⟨Hl.le_trans leL leM,by omega,l1,_,hrl1.mono leM,hwl1,ihr.2,hv3,by rw[hx];simp only[body,cmdI],by have:=hv3.length;simp only[cmdI]at this hcl;omega⟩ aH (.cons 0 rfl (.cons 11 rfl (.cons 12 rfl (.cons 13 rfl .nil)))) rfl bO
 ·
  have hend:body l ops=ops2:=(by rw[hx];exact aS3 hwr hrr (List.drop_eq_nil_of_le aH));refine zz4 ?_;refine uAa ?_;refine cT rfl leL ?_;rw[hend];exact⟨_,rfl,rfl,vs2,hv2,rfl⟩
end Go.Proofs
end
section
attribute [local irreducible] Go.SL.T Go.SL.OL Go.SL.D Go.SL.DL Go.SL.Ev Go.SL.Ef Go.SL.EfS
namespace Go.Proofs
open Go Go.SL Go.Syn Go.Cmp
def BrL:Tree→Prop
 | .bcons _ b l=>aLL b∧BrL l
 | .belse b l=>aLL b∧BrL l
 |_=>True
theorem aZE{K:Hl}{rest:Tree}{xs:List (Cell×Cell)}{i:Nat}(hw:wf rest 4=true)(hr:Rep K rest (xs.drop i))(hi:i < xs.length):
  ∃ tv sa sn sc, xs[i]? = some (tv, ⟨.slice sa sn sc, rfl⟩) ∧ ((∃ t bd l ys ty u, rest = .bcons t bd l ∧ tv.1 = .iface ty u ∧ Rep K t [(tv, u0)] ∧ Rep K bd ys ∧ Ksl (dY 224) K (.slice sa sn sc) (ys.map Prod.fst) ∧ Rep K l (xs.drop (i + 1)) ∧ wf t 0 = true ∧ wf bd 3 = true ∧ wf l 4 = true) ∨
   (∃bd l ys,rest=.belse bd l∧tv.1=.nilIface∧Rep K bd ys∧Ksl (dY 224) K (.slice sa sn sc) (ys.map Prod.fst)∧wf bd 3=true)):=by
 have hd:xs.drop i≠[]:=by intro h;have:=congrArg List.length h;simp at this;omega
 have hget:∀ {x:Cell×Cell} {ys:List (Cell×Cell)},xs.drop i=x::ys→xs[i]?=some x∧xs.drop (i+1)=ys:=by
  intro x ys h3;refine⟨?_,by rw[←List.drop_drop,h3];rfl⟩
  have:=List.getElem?_drop (xs:=xs) (i:=i) (j:=0);rw[h3]at this;simpa using this.symm
 cases rest <;> simp only[wf,Rep]at hw hr
 case bnil=>exact absurd hr hd
 case bcons t bd l=>
  obtain⟨v,ys,⟨sv,hsv⟩,zs,h1,h2,h3,h4,h5,h6⟩:=hr;obtain⟨ty,u,h2⟩:=h2;simp at hw;obtain⟨sa,sn,sc,rfl⟩:=h4.isSlice;obtain⟨e1,e2⟩:=hget h6;exact⟨v,sa,sn,sc,e1,.inl ⟨t,bd,l,ys,ty,u,rfl,h2,h1,h3,h4,by rw[e2];exact h5,hw.1,hw.2.1,hw.2.2⟩⟩
 case belse bd l=>
  obtain⟨ys,⟨sv,hsv⟩,zs,h3,h4,h5,h6⟩:=hr;simp at hw;obtain⟨sa,sn,sc,rfl⟩:=h4.isSlice;obtain⟨e1,e2⟩:=hget h6;exact⟨_,sa,sn,sc,e1,.inr ⟨bd,l,ys,rfl,rfl,h3,h4,hw.1⟩⟩
 all_goals simp at hw
theorem aS8{K:Hl}{l:Tree}{ys:List (Cell×Cell)}(hw:wf l 4=true)(hr:Rep K l ys):eH l=true↔ys.length=0:=by
 cases l <;> simp only[wf,Rep]at hw hr
 case bnil=>subst hr;simp[eH]
 case bcons t b l=>obtain⟨v,zs,sv,ws,_,_,_,_,_,rfl⟩:=hr;simp[eH]
 case belse b l=>obtain⟨zs,sv,ws,_,_,_,rfl⟩:=hr;simp[eH]
 all_goals simp at hw
theorem aS2{K:Hl}{rest:Tree}{ys:List (Cell×Cell)}(hw:wf rest 4=true)(hr:Rep K rest ys)(he:ys=[]){ops:List Mach.Ins}{out:List Nat}:cI rest ops out=land ops out:=by
 cases rest <;> simp only[wf,Rep]at hw hr
 case bnil=>simp[cI]
 case bcons t b l=>obtain⟨v,zs,sv,ws,_,_,_,_,_,rfl⟩:=hr;cases he
 case belse b l=>obtain⟨zs,sv,ws,_,_,_,rfl⟩:=hr;cases he
 all_goals simp at hw
theorem aS5{K:Hl}:∀ {l:Tree} {xs:List (Cell×Cell)},wf l 4=true→Rep K l xs→xs.length≤cnt l:=by
 intro l;induction l with
 |bnil=>intro xs _ h;cases (show xs=[]from h);simp
 |bcons t b l ih1 ih2 ih3=>
  rintro xs hw ⟨v,ys,sv,ws,h1,h2,h3,h4,h5,rfl⟩;simp[wf]at hw;have:=ih3 hw.2.2 h5;simp only[cnt,List.length_cons];omega
 |belse b l ih1 ih2=>
  rintro xs hw ⟨ys,sv,ws,h3,h4,h5,rfl⟩;simp[wf]at hw;have:=ih2 hw.2 h5;simp only[cnt,List.length_cons];omega
 |_=>intro xs hw _;simp[wf]at hw
theorem zZ{t b l:Tree}{ops:List Mach.Ins}{out:List Nat}(h:eH l=true):cI (.bcons t b l) ops out=cI l (land (body b (unl t false ops).1) (unl t false ops).2) out:=by
 simp only[cI];rw[if_pos h]
theorem z6{t b l:Tree}{ops:List Mach.Ins}{out:List Nat}(h:¬eH l=true):cI (.bcons t b l) ops out=cI l (land (body b (unl t false ops).1++[jmp 3]) (unl t false ops).2) (out++[(body b (unl t false ops).1).length]):=by
 simp only[cI];rw[if_neg h]
theorem aJR(bs:Tree)(ih:BrL bs):BrS bs:=by
  intro hw b sa sn sc xs vs ops K hr hS hv hl;have hxl:=aS5 hw hr;refine aZ Tryz.func194 rfl Tryz.ntmps194 rfl rfl fun F w=>?_
  refine zz3 ?_;rintro _ K _ ⟨b3,rfl,rfl,rfl⟩ -;refine zz10 ?_;refine jY (eT (jT 3)) ?_;refine zz2 ?_;refine aA (bX (k:=(gI 371)) rfl Tryz.underlying309 rfl aN) rfl ?_;refine zz4 ?_;refine aFY (fun(K2:Hl) (i:Nat) (ov:Value) (vs2:List InsV) (out:List Nat) (_ _:Unit)=>K.le K2∧i≤xs.length∧∃rest ops2,Rep K2 rest (xs.drop i)∧wf rest 4=true∧BrL rest∧RIs K2 vs2 ops2∧cI bs ops []=cI rest ops2 out∧vs2.length+2*cnt rest≤900000∧out.length+cnt rest≤900000∧∀k∈out,k < vs2.length) (fun _ i ov _ _ _ _=>[(0,ptr b),(3,ptr b3),(4,ov),(9,.slice sa sn sc),(10,i64 xs.length),(11,i64 i)]) (fun K2 _ _ _ _ _ _=>K2) (fun _ _ ov vs2 out _ _=>[sl false (jT 3) ov out,pt b3 (aU [.slice sa sn sc] 311),cdr b vs2]) (fun _ i _ _ _ _ _=>xs.length - i) K 0 _ vs [] () () ⟨Hl.le_refl _,Nat.zero_le _,bs,ops,hr,hw,ih,hv,rfl,hl,by simp;omega,by simp⟩ (.cons 0 rfl (.cons 3 rfl (.cons 4 rfl (.cons 9 rfl (.cons 10 rfl (.cons 11 rfl .nil)))))) rfl (fun _ h=>h) ?_;intro K2 i ov vs2 out _ _ ⟨leL,hi0,rest,ops2,hrr,hwr,ihr,hv2,hx,hb1,hb2,hout⟩;have hSl:Ksl (gI 371) K2 (.slice sa sn sc) xs:=hS.mono leL;have hv2l:=hv2.length;refine zz6 ?_;refine bG 12 rfl (fun h12=>?_) (fun h12=>?_)
  ·
    have hilt:i < xs.length:=by omega
    obtain⟨⟨tv,htv⟩,ta,tn,tc,hget,hcase⟩:=aZE hwr hrr hilt;refine zz2 ?_;rcases hcase with ⟨t,bd,l1,ys,ty,u,rfl,htv2,hrt,hrbd,hSbd,hrl1,hwt,hwbd,hwl1⟩|⟨bd,l1,ys,rfl,htv2,hrbd,hSbd,hwbd⟩
    ·
      obtain rfl:tv=.iface ty u:=htv2;simp only[cnt]at hb1 hb2;have hu:=(iU t).1 false ops2;have hbl:=(jW bd).1 (unl t false ops2).1;have hdl:(xs.drop (i+1)).length=xs.length - (i+1):=List.length_drop;have hnil:=aS8 hwl1 hrl1;refine zz5 ?_;refine aA (bQ (k:=(gI 371)) pJ rfl aN rfl rfl gBR) rfl ?_;refine aA (fF (n:=0) (k:=(gI 371)) tL rfl aN bV) rfl ?_;refine zz1 ?_;rintro _ K _ ⟨b6,rfl,rfl,rfl⟩ -;refine zz1 ?_;refine bR (cM tL rfl rfl rfl bB gBK (.cons (.cons .nil)) gBU) ?_;rintro _ K _ ⟨rfl,rfl⟩ -;refine zz18 ?_;refine aY rfl rfl ((aW1 t).1 hwt b false ty u vs2 ops2 _ hrt hv2 aH) (.cons (.there (.there (.there .here))) .nil) rfl ?_;rintro nv K3 _ ⟨vs3,hv3,rfl⟩ leM;have hv3l:=hv3.length;refine zz8 ?_;refine aY rfl rfl (ihr.1 hwbd b (.slice ta tn tc) ys vs3 _ _ (hrbd.mono leM) (hSbd.mono leM) hv3 aH) (.cons (.there .here) .nil) rfl ?_;rintro _ K4 _ ⟨rfl,vs4,hv4,rfl⟩ leN;have hv4l:=hv4.length;have hSl:=hSl.mono (Hl.le_trans leM leN);have leMN:=Hl.le_trans leM leN;have hva:(vs4++[jmpV 3]).length=vs4.length+1:=List.length_append;refine zz8 ?_;refine aA (bX (k:=(gI 371)) rfl Tryz.underlying309 rfl aN) rfl ?_;refine zz4 ?_;refine bG 36 rfl (fun h36=>?_) (fun h36=>?_)
      ·
        refine zz3 ?_;refine uAi ?_;refine ol_s (a6 (z0:=[.int .i64 0,.int .i64 0,.int .i64 0,.bool false,.slice none 0 0,.slice none 0 0,.int .i64 0]) iX tz41 rfl rfl rfl rfl (.cons rfl rfl rfl (.cons (.cons (.cons (.cons (.cons (.cons (.cons .nil))))))) .nil)) rfl ?_;rintro _ K _ ⟨b40,rfl,rfl,rfl⟩ -;refine aY rfl rfl (kD b b40 vs4 [jmpV 3] _ _ rfl gBV) (.cons (.there .here) (.cons .here .nil)) rfl ?_;rintro _ K _ ⟨rfl,rfl,rfl⟩ -;refine ol_s (a6 (z0:=[.int .i64 0]) qJ tz3 rfl rfl rfl rfl (.cons rfl rfl rfl (.cons .nil) .nil)) rfl ?_;rintro _ K _ ⟨b42,rfl,rfl,rfl⟩ -;refine ol_s (dT (k:=(jT 3)) (ys:=[vs4.length]) rF rfl rfl (.there (.there (.there (.there .here)))) (fun w j=>dK Tryz.underlying55 (SeesSl.at (k:=jT 3) (xs:=[vs4.length]) (.blk (.own .here) rfl (by simp[jT,El.cs])) j)) gBQ gBQ) rfl ?_;rintro v43 K _ ⟨rfl,rfl,ho43⟩ -;refine zz6 ?_;refine aY rfl rfl (pU b nv (vs4++[jmpV 3]) _ _ aH aH (fun k hk=>by have:=hu.2.2.2 k hk;omega)) (.cons (.there (.there .here)) (.cons (.there (.there .here)) .nil)) rfl ?_;rintro _ K _ ⟨rfl,rfl,rfl⟩ -;refine zz7 ?_
        first
          | (have hnl : ¬ eH l1 = true := (by rw [hnil]; omega)
             refine aO (.cons (.there .here) (.cons (.there (.there (.there .here))) (.cons .here .nil))) ?_;refine jG _ (i+1) _ (vY (vs4++[jmpV 3]) (unl t false ops2).2) (out++[vs4.length]) () () ⟨Hl.le_trans leL leMN,by omega,l1,_,hrl1.mono leMN,hwl1,ihr.2,(RIs.append (ws:=[jmpV 3]) (ps:=[jmp 3]) ⟨oS _ _,trivial⟩ hv4).land,by rw[hx,z6 hnl,hv4l],by rw[iD];omega,by rw[List.length_append];simp;omega,fun k hk=>by rw[iD];rcases List.mem_append.1 hk with h|h;(have:=hout k h;omega);(simp at h;omega)⟩ aH (.cons 0 rfl (.cons 3 rfl (.cons 4 rfl (.cons 9 rfl (.cons 10 rfl (.cons 11 rfl .nil)))))) rfl bO)
          | (have hnl : eH l1 = true := (by rw [hnil]; omega)
             refine aO (.cons (.there (.there .here)) (.cons (.there (.there .here)) (.cons .here .nil))) ?_;refine jG _ (i+1) ov (vY vs4 (unl t false ops2).2) out () () ⟨Hl.le_trans leL leMN,by omega,l1,_,hrl1.mono leMN,hwl1,ihr.2,hv4.land,by rw[hx,zZ hnl],by rw[iD];omega,by omega,fun k hk=>by rw[iD];have:=hout k hk;omega⟩ aH (.cons 0 rfl (.cons 3 rfl (.cons 4 rfl (.cons 9 rfl (.cons 10 rfl (.cons 11 rfl .nil)))))) rfl bO)
      ·
        refine zz5 ?_;refine aY rfl rfl (pU b nv vs4 _ _ aH aH (fun k hk=>by have:=hu.2.2.2 k hk;omega)) (.cons .here (.cons .here .nil)) rfl ?_;rintro _ K _ ⟨rfl,rfl,rfl⟩ -;refine zz7 ?_
        first
          | (have hnl : ¬ eH l1 = true := (by rw [hnil]; omega)
             refine aO (.cons (.there .here) (.cons (.there (.there (.there .here))) (.cons .here .nil))) ?_;refine jG _ (i+1) _ (vY (vs4++[jmpV 3]) (unl t false ops2).2) (out++[vs4.length]) () () ⟨Hl.le_trans leL leMN,by omega,l1,_,hrl1.mono leMN,hwl1,ihr.2,(RIs.append (ws:=[jmpV 3]) (ps:=[jmp 3]) ⟨oS _ _,trivial⟩ hv4).land,by rw[hx,z6 hnl,hv4l],by rw[iD];omega,by rw[List.length_append];simp;omega,fun k hk=>by rw[iD];rcases List.mem_append.1 hk with h|h;(have:=hout k h;omega);(simp at h;omega)⟩ aH (.cons 0 rfl (.cons 3 rfl (.cons 4 rfl (.cons 9 rfl (.cons 10 rfl (.cons 11 rfl .nil)))))) rfl bO)
          | (have hnl : eH l1 = true := (by rw [hnil]; omega)
             refine aO (.cons (.there (.there .here)) (.cons (.there (.there .here)) (.cons .here .nil))) ?_;refine jG _ (i+1) ov (vY vs4 (unl t false ops2).2) out () () ⟨Hl.le_trans leL leMN,by omega,l1,_,hrl1.mono leMN,hwl1,ihr.2,hv4.land,by rw[hx,zZ hnl],by rw[iD];omega,by omega,fun k hk=>by rw[iD];have:=hout k hk;omega⟩ aH (.cons 0 rfl (.cons 3 rfl (.cons 4 rfl (.cons 9 rfl (.cons 10 rfl (.cons 11 rfl .nil)))))) rfl bO)
    ·
      obtain rfl:tv=.nilIface:=htv2;simp only[cnt]at hb1 hb2;have hbl:=(jW bd).1 ops2;refine zz5 ?_;refine aA (bQ (k:=(gI 371)) pJ rfl aN rfl rfl gBR) rfl ?_;refine aA (fF (n:=0) (k:=(gI 371)) tL rfl aN bV) rfl ?_;refine zz1 ?_;rintro _ K _ ⟨b6,rfl,rfl,rfl⟩ -;refine zz1 ?_;refine bR (cM tL rfl rfl rfl bB gBK (.cons (.cons .nil)) gBU) ?_;rintro _ K _ ⟨rfl,rfl⟩ -;refine zz16 ?_;refine aY rfl rfl (ihr.1 hwbd b (.slice ta tn tc) ys vs2 ops2 _ hrbd hSbd hv2 aH) (.cons (.there (.there (.there .here))) .nil) rfl ?_;rintro _ K4 _ ⟨rfl,vs4,hv4,rfl⟩ leN;have hv4l:=hv4.length;refine zz12 ?_;refine aY rfl rfl (pU b ov vs4 out _ aH aH (fun k hk=>by have:=hout k hk;omega)) (.cons .here (.cons (.there .here) .nil)) rfl ?_;rintro _ K _ ⟨rfl,rfl,rfl⟩ -;refine uAx ?_;refine cT rfl (by first|exact Hl.le_trans leL leN|exact leL) ?_
      first
        |(rw[hend];exact⟨_,rfl,rfl,_,hv2.land,rfl⟩)
        |(rw[hx];simp only[cI];exact⟨_,rfl,rfl,_,hv4.land,rfl⟩)
  ·
    have hend:cI bs ops []=land ops2 out:=(by rw[hx];exact aS2 hwr hrr (List.drop_eq_nil_of_le aH));refine zz8 ?_;refine aY rfl rfl (pU b ov vs2 out _ aH aH (fun k hk=>hout k hk)) (.cons (.there (.there .here)) (.cons .here .nil)) rfl ?_;rintro _ K _ ⟨rfl,rfl,rfl⟩ -;refine uAx ?_;refine cT rfl (by first|exact Hl.le_trans leL leN|exact leL) ?_
    first
      |(rw[hend];exact⟨_,rfl,rfl,_,hv2.land,rfl⟩)
      |(rw[hx];simp only[cI];exact⟨_,rfl,rfl,_,hv4.land,rfl⟩)
end Go.Proofs
end
section
attribute [local irreducible] Go.SL.T Go.SL.OL Go.SL.D Go.SL.DL Go.SL.Ev Go.SL.Ef Go.SL.EfS
namespace Go.Proofs
open Go Go.SL Go.Syn Go.Cmp
theorem aQI:∀(t:Tree),aLL t∧aLK t∧BrS t∧BrL t∧aXB t:=by
 intro t;induction t with
 |iff bs ih=>exact⟨fun h=>by simp[wf]at h,trivial,fun h=>by simp[wf]at h,trivial,ih.2.2.1⟩
 |cnil=>exact⟨aGS _ trivial,trivial,fun h=>by simp[wf]at h,trivial,trivial⟩
 |ccons c l ih1 ih2=>exact⟨aGS _ ⟨ih1.2.2.2.2,ih2.2.1⟩,⟨ih1.2.2.2.2,ih2.2.1⟩,fun h=>by simp[wf]at h,trivial,trivial⟩
 |bnil=>exact⟨fun h=>by simp[wf]at h,trivial,aJR _ trivial,trivial,trivial⟩
 |bcons t b l ih1 ih2 ih3=>exact⟨fun h=>by simp[wf]at h,trivial,aJR _ ⟨ih2.1,ih3.2.2.2.1⟩,⟨ih2.1,ih3.2.2.2.1⟩,trivial⟩
 |belse b l ih1 ih2=>exact⟨fun h=>by simp[wf]at h,trivial,aJR _ ⟨ih1.1,ih2.2.2.2.1⟩,⟨ih1.1,ih2.2.2.2.1⟩,trivial⟩
 |_=>exact⟨fun h=>by simp[wf]at h,trivial,fun h=>by simp[wf]at h,trivial,trivial⟩
theorem aIG(b:Nat)(needs:List (List UInt8))(t:Tree)(K:Hl)(hat:ScriptAt K b needs t)(hw:wf t 3=true)(hc:cnt t≤400000):
  Sp Tryz.prog 58 [ptr b 6] K [] (Ret fun v K' L'=>∃vs,RIs K' vs (script t)∧L'=[sl false gR v vs]):=by
 obtain⟨l,nv,bv,ys,fz,hb,h6,h7,hv,hS,hrep,hcl⟩:=hat.at_;refine aZ Tryz.func58 rfl Tryz.ntmps58 rfl rfl fun F w=>?_
 refine zz7 ?_;refine aA (cR bA4 aZP .nil) rfl ?_;refine zz1 ?_;rintro _ K _ ⟨b5,rfl,rfl,rfl⟩ -;refine zz9 ?_;refine aA (aL aBX rfl (.known hb) h7) rfl ?_;refine jY (eT gR) ?_;refine jY (fun h hh=>gA hh) ?_;refine jY aFR ?_;refine aY rfl rfl ((aQI t).1 hw b5 bv ys [] [] _ hrep hS trivial gBV) (.cons .here .nil) rfl ?_;rintro _ K1 _ ⟨rfl,vs1,hv1,rfl⟩ le1;refine bAJ fun cv=>?_
 refine zz12 ?_;refine uBe ?_;refine bJ rfl rfl le1 ?_;exact⟨_,rfl,vs1,hv1,rfl⟩
end Go.Proofs
end
section
attribute [local irreducible] Go.SL.T Go.SL.OL Go.SL.D Go.SL.DL Go.SL.Ev Go.SL.Ef Go.SL.EfS
namespace Go.Proofs
open Go Go.SL Go.Syn Go.Mach
theorem aAR(s:List UInt8)(c:UInt8)(K:Hl):Sp Tryz.prog 308 [str s,.int .u8 c.toNat] K [] (Val (i64 (Lib.indexByte s c)) K):=by
 refine lI ⟨_,Tryz.func308,rfl,rfl⟩ fun w hw=>?_
 have:=Tryz.strings_IndexByte ⟨s.toArray⟩ (c.toNat:Int) w
 simpa using this
theorem qV{E:Env}{fr:Fr}{K:Hl}{L:List Asn}{dst:Option Tmp}{ty:TypeId}{pos:String}{aft:Array Edge}{g:Option (Nat×Bool)}{x y:Operand}{t kt et b c:Nat}{k:List UInt8}{vars:List (List UInt8×List UInt8)}{f:Nat→Nat}
  (hm:E.P.underlying t=some (.map kt et)) (hk:E.P.underlying kt=some .string) (hz:eQ E.P et=some (.agg #[str []])) (hx:fr.ev x=some (.map (some b))) (hy:fr.ev y=some (str k)) (hs:Sees K L b (mapO (iK vars f) c)):
  Ev E fr K L ⟨dst,.lookup t x y false,ty,pos,aft,g⟩ (.agg #[str (vget vars k)]):=by
 have:=aJ4 (dst:=dst) (ty:=ty) (pos:=pos) (aft:=aft) (g:=g) hm hk hz hx hy hs;rw[aP8]at this;exact this
theorem oJ{vars:List (List UInt8×List UInt8)}{parts:List (List UInt8)}{d:UInt8}(h:48≤d.toNat∧d.toNat≤57):held vars parts [d]=((parts[d.toNat - 48]?).getD [],true):=by
 unfold held;simp only[];rw[if_pos (by simp[dX,h.1,h.2])]
theorem oK{vars:List (List UInt8×List UInt8)}{parts:List (List UInt8)}{name:List UInt8}(h:¬(∃d,name=[d]∧48≤d.toNat∧d.toNat≤57)):held vars parts name=(vget vars (cN name),named name):=by
 unfold held;split
 ·rename_i d;rw[if_neg (by intro e;simp[dX]at e;exact h ⟨d,rfl,e⟩)]
 ·rfl
theorem aNO(b mb:Nat)(c0 c1 c2 c3 c4 c5 c6 pv c9:Value)(pc:Int)(vars:List (List UInt8×List UInt8))(f:Nat→Nat)(c:Nat)(parts:List (List UInt8))(name:List UInt8)(K:Hl)(hpv:Ksl (bC 9) K pv parts)(hn:name.length≤100000000):
  Sp Tryz.prog 309 [ptr b,str name] K [mblk b c0 c1 c2 c3 c4 c5 c6 (.map (some mb)) pv c9 pc,pt mb (mapO (iK vars f) c)]
   (Ret fun v K' L'=>v=.tuple #[str (held vars parts name).1,.bool (held vars parts name).2]∧K'=K∧L'=[mblk b c0 c1 c2 c3 c4 c5 c6 (.map (some mb)) pv c9 pc,pt mb (mapO (iK vars f) c)]):=by
 refine aZ Tryz.func309 rfl Tryz.ntmps309 rfl rfl fun F w=>?_
 refine zz13 ?_;refine cF 10 rfl (fun g10=>?_) (fun g10=>?_)
 ·
  obtain⟨d,rfl⟩:∃d,name=[d]:=List.length_eq_one_iff.1 aH;have hd0:([d]:List UInt8)[0]?=some d:=rfl;refine zz8 ?_;refine cF 15 rfl (fun g15=>?_) (fun g15=>?_)
  ·
   refine zz9 ?_;refine bG 19 rfl (fun h19=>?_) (fun h19=>?_)
   ·
    refine zz5 ?_;refine aA (aLY (m:=d.toNat) (n:=48) aH aH rfl rfl) rfl ?_;refine aA (rY Tryz.underlying3 Tryz.underlying5 rfl aH aH) rfl ?_;refine zz10 ?_;refine uAf ?_;refine zz3 ?_;refine bG 30 rfl (fun h30=>?_) (fun h30=>?_)
    ·
     obtain⟨p,hp⟩:∃p,parts[d.toNat - 48]?=some p:=⟨parts[d.toNat - 48]'(by omega),List.getElem?_eq_getElem aH⟩;refine zz7 ?_;refine aA (bQ (k:=(bC 9)) bS rfl aN rfl rfl gBR) rfl ?_;refine uAg ?_;refine zz7 ?_;refine uAh ?_;refine kK rfl rfl rfl (Hl.le_refl _) ?_
     first
      |exact gBC
      |exact gBD
    ·
     have hp:parts[d.toNat - 48]?=none:=List.getElem?_eq_none aH;refine zz10 ?_;refine uAh ?_;refine kK rfl rfl rfl (Hl.le_refl _) ?_
     first
      |exact gBC
      |exact gBD
   ·
    have hno:¬(∃e,[d]=[e]∧48≤e.toNat∧e.toNat≤57):=(by rintro⟨e,h1,h2,h3⟩;cases h1;omega);refine zz3 ?_;refine t_draw (anc:=[0,1,3,7,0,16,63,127,0,304,1023,2047]) (ord:=[0,1,2,3,4,8,5,6,7,9,10,11]) [5,9] [] mixed gBO (cX _) ?_;refine zz6 ?_;refine dl_callv rfl (.none rfl) rfl rfl rfl rfl (fX _ _ gCD) rfl ?_;refine dl_ev rfl rfl (.none rfl) rfl rfl (qV Tryz.underlying175 Tryz.underlying9 aUH rfl rfl (.own (.there .here))) rfl ?_;refine zz1 ?_;refine dl_callv rfl (.none rfl) rfl rfl rfl rfl (q9 _ _ gCD) rfl ?_;refine zz5 ?_;refine uAh ?_;refine kK rfl rfl rfl (Hl.le_refl _) ?_
    first
     |exact gBC
     |exact gBD
  ·
   have hno:¬(∃e,[d]=[e]∧48≤e.toNat∧e.toNat≤57):=(by rintro⟨e,h1,h2,h3⟩;cases h1;omega);refine zz10 ?_;refine t_draw (anc:=[0,1,3,7,0,16,63,127,0,304,1023,2047]) (ord:=[0,1,2,3,4,8,5,6,7,9,10,11]) [5,9] [] mixed gBO (cX _) ?_;refine zz6 ?_;refine dl_callv rfl (.none rfl) rfl rfl rfl rfl (fX _ _ gCD) rfl ?_;refine dl_ev rfl rfl (.none rfl) rfl rfl (qV Tryz.underlying175 Tryz.underlying9 aUH rfl rfl (.own (.there .here))) rfl ?_;refine zz1 ?_;refine dl_callv rfl (.none rfl) rfl rfl rfl rfl (q9 _ _ gCD) rfl ?_;refine zz5 ?_;refine uAh ?_;refine kK rfl rfl rfl (Hl.le_refl _) ?_
   first
    |exact gBC
    |exact gBD
 ·
  have hno:¬(∃d,name=[d]∧48≤d.toNat∧d.toNat≤57):=(by rintro⟨d,rfl,_⟩;exact g10 rfl);refine zz15 ?_;refine t_draw (anc:=[0,1,3,7,0,16,63,127,0,304,1023,2047]) (ord:=[0,1,2,3,4,8,5,6,7,9,10,11]) [5,9] [] mixed gBO (cX _) ?_;refine zz6 ?_;refine dl_callv rfl (.none rfl) rfl rfl rfl rfl (fX _ _ gCD) rfl ?_;refine dl_ev rfl rfl (.none rfl) rfl rfl (qV Tryz.underlying175 Tryz.underlying9 aUH rfl rfl (.own (.there .here))) rfl ?_;refine zz1 ?_;refine dl_callv rfl (.none rfl) rfl rfl rfl rfl (q9 _ _ gCD) rfl ?_;refine zz5 ?_;refine uAh ?_;refine kK rfl rfl rfl (Hl.le_refl _) ?_
  first
   |exact gBC
   |exact gBD
def pL(vars:List (List UInt8×List UInt8))(parts:List (List UInt8)):Prop:=∀name,(held vars parts name).1.length≤100000
theorem aG9(vars:List (List UInt8×List UInt8))(parts:List (List UInt8))(f:Nat)(acc:List UInt8):iP vars parts (f+1) [] acc=acc++[]:=by simp[iP]
theorem aJ8{vars:List (List UInt8×List UInt8)}{parts:List (List UInt8)}{f:Nat}{s acc:List UInt8}(h0:s≠[])(h:Lib.index s [36,123] < 0):iP vars parts (f+1) s acc=acc++s:=by
 simp only[iP];rw[if_neg h0,if_pos h]
theorem aHA{vars:List (List UInt8×List UInt8)}{parts:List (List UInt8)}{f i:Nat}{s acc:List UInt8}{e:Int}{hd:List UInt8×Bool}(h0:s≠[])(h:Lib.index s [36,123]=(i:Int))(he:Lib.indexByte (s.drop i) 125=e)(hh:held vars parts (((s.drop i).take (max e 2).toNat).drop 2)=hd):
  iP vars parts (f+1) s acc=if 0 < e∧hd.2=true then iP vars parts f ((s.drop i).drop (e.toNat+1)) (acc++s.take i++hd.1)else iP vars parts f ((s.drop i).drop 1) (acc++s.take i++[36]):=by
 simp only[iP];rw[if_neg h0,if_neg aH]
 have:(Lib.index s [36,123]).toNat=i:=by omega
 rw[this,he,hh]
theorem o6(b mb:Nat)(c0 c1 c2 c3 c4 c5 pv c9:Value)(pc:Int)(nm:Bool)(vars:List (List UInt8×List UInt8))(f:Nat→Nat)(c:Nat)(parts:List (List UInt8))(s:List UInt8)(K:Hl)(hg:Glob K)(hpv:Ksl (bC 9) K pv parts)(hs:s.length≤100000)(hsm:pL vars parts):
  Sp Tryz.prog 255 [ptr b,str s] K [mblk b c0 c1 c2 c3 c4 c5 (.bool nm) (.map (some mb)) pv c9 pc,pt mb (mapO (iK vars f) c)]
   (Ret fun v K' L'=>v=str (dC nm vars parts s)∧K'=K∧L'=[mblk b c0 c1 c2 c3 c4 c5 (.bool nm) (.map (some mb)) pv c9 pc,pt mb (mapO (iK vars f) c)]):=by
 refine aZ Tryz.func255 rfl Tryz.ntmps255 rfl rfl fun F w=>?_
 refine zz12 ?_;refine aA gBN rfl ?_;refine zz2 ?_;refine d8 15 rfl (fun h15=>?_) (fun h15=>?_)
 ·
  refine zz8 ?_;refine uAh ?_;refine zz1 ?_;have hnm:nm=false:=by simpa using h15
  unfold dC;rw[if_neg (by simp[hnm])];exact⟨_,rfl,rfl,rfl,rfl⟩
 ·
  refine zz5 ?_;rintro _ K _ ⟨b5,rfl,rfl,rfl⟩ -;refine zz4 ?_;refine t8 (iF (aCJ b5)) ?_;refine zN (fun(s2 acc:List UInt8)=>s2.length≤s.length∧acc.length+100001*s2.length≤100001*s.length∧∃f2,s2.length≤f2∧iP vars parts (s.length+1) s []=iP vars parts (f2+1) s2 acc) (fun s2 _=>[(0,ptr b),(1,str s2),(5,ptr b5)]) (fun _ _=>K) (fun _ acc=>[bldr b5 acc,mblk b c0 c1 c2 c3 c4 c5 (.bool nm) (.map (some mb)) pv c9 pc,pt mb (mapO (iK vars f) c)]) (fun s2 _=>s2.length) s [] ⟨Nat.le_refl _,by simp,s.length,Nat.le_refl _,rfl⟩ (.cons 0 rfl (.cons 1 rfl (.cons 5 rfl .nil))) rfl (fun _ h=>h) ?_;intro s2 acc ⟨hi1,hi2,f2,hi3,hx⟩;refine zz7 ?_;refine bG 18 rfl (fun h18=>?_) (fun h18=>?_)
  ·
   have hne:s2≠[]:=h18;have hib:=sA s2 [36,123];refine zz6 ?_;refine cE rfl rfl (aAS s2 [36,123] _ hg aH) rfl ?_;refine zz10 ?_;refine bG 22 rfl (fun h22=>?_) (fun h22=>?_)
   ·
    have hout:iP vars parts (s.length+1) s []=acc++s2:=(by rw[hx];exact aJ8 hne h22);refine zz8 ?_;refine aY rfl rfl (nQ b5 acc aH _) (.cons .here .nil) rfl ?_;rintro _ K _ ⟨rfl,rfl,rfl⟩ -;have hla:(acc++s2).length=acc.length+s2.length:=List.length_append;refine zz1 ?_;refine aA (xF rfl rfl gBQ) rfl ?_;refine zz9 ?_;refine aA (eR (n:=min (acc++s2).length 1024) Tryz.underlying9 rfl rfl gCC aH) rfl ?_;refine zz4 ?_;refine uAh ?_;refine zz1 ?_;have hnm:nm=true:=by simpa using h15
    have ht:(acc++s2).take (min (acc++s2).length 1024)=(acc++s2).take 1024:=gCI;unfold dC;rw[if_pos hnm,hout,ht];exact⟨_,rfl,rfl,rfl,rfl⟩
   ·
    obtain⟨i,hii⟩:∃i:Nat,Lib.index s2 [36,123]=(i:Int):=⟨(Lib.index s2 [36,123]).toNat,by omega⟩;have hi5:i+2≤s2.length:=(by simp only[List.length_cons,List.length_nil]at hib;omega);refine zz6 ?_;refine aA (eR (n:=i) Tryz.underlying9 rfl rfl hii aH) rfl ?_;refine aY rfl rfl (kH b5 (s2.take i) acc (by have:(s2.take i).length≤s2.length:=List.length_take_le' _ _;omega) _) (.cons .here .nil) rfl ?_;rintro _ K _ ⟨rfl,rfl,rfl⟩ -;refine zz6 ?_;refine aA (jJ (m:=i) Tryz.underlying9 rfl rfl hii aH) rfl ?_;refine zz6 ?_;refine cE rfl rfl (aAR (s2.drop i) 125 _) rfl ?_;have hib2:=aE9 (s2.drop i) 125;obtain⟨e,hee⟩:∃e,Lib.indexByte (s2.drop i) 125=e:=⟨_,rfl⟩;rw[hee]at hib2 ⊢;have hdl:(s2.drop i).length=s2.length - i:=List.length_drop;have htl:(s2.take i).length=i:=List.length_take_of_le aH;refine zz10 ?_;refine aA (lW (m:=2) (n:=(max e 2).toNat) Tryz.underlying9 rfl rfl rfl rfl gCC aH aH) rfl ?_;refine aY rfl rfl (aNO b mb c0 c1 c2 c3 c4 c5 (.bool nm) pv c9 pc vars f c parts _ _ hpv (by have:=List.length_drop (l:=(s2.drop i).take (max e 2).toNat) (i:=2);have:=List.length_take_le (max e 2).toNat (s2.drop i);omega)) (.cons (.there .here) (.cons (.there .here) .nil)) rfl ?_;rintro _ K _ ⟨rfl,rfl,rfl⟩ -;obtain⟨hd,hhd⟩:∃hd,held vars parts (((s2.drop i).take (max e 2).toNat).drop 2)=hd:=⟨_,rfl⟩;have hhl:=hsm (((s2.drop i).take (max e 2).toNat).drop 2);rw[hhd]at hhl ⊢;have hey:=aHA (acc:=acc) (f:=f2) hne hii hee hhd;refine zz12 ?_;refine cF 43 rfl (fun g43=>?_) (fun g43=>?_)
    ·
     refine zz5 ?_;refine d8 45 rfl (fun h45=>?_) (fun h45=>?_)
     ·
      have hcc:0 < e∧hd.2=true:=⟨g43,h45⟩;refine zz3 ?_;refine aY rfl rfl (kH b5 hd.1 (acc++s2.take i) gCE _) (.cons (.there (.there .here)) .nil) rfl ?_;rintro _ K _ ⟨rfl,rfl,rfl⟩ -;refine zz7 ?_;refine aA (jJ (m:=e.toNat+1) Tryz.underlying9 rfl rfl aH aH) rfl ?_;refine zz6 ?_;have hdd:((s2.drop i).drop (e.toNat+1)).length≤s2.length - 1 - i:=gCL;have hd1:((s2.drop i).drop 1).length≤s2.length - 1 - i:=gCL;have hf2:f2=(f2 - 1)+1:=by omega
      first
       |exact gAW
       |exact gAQ
     ·
      have hcc:¬(0 < e∧hd.2=true):=fun h=>by rw[h45]at h;exact absurd h.2 (by decide)
      refine zz4 ?_;refine aY rfl rfl (iY b5 36 (acc++s2.take i) gCE _) (.cons (.there (.there .here)) .nil) rfl ?_;rintro _ K _ ⟨rfl,rfl,rfl⟩ -;refine zz4 ?_;refine aA (jJ (m:=1) Tryz.underlying9 rfl rfl rfl aH) rfl ?_;refine zz3 ?_;have hdd:((s2.drop i).drop (e.toNat+1)).length≤s2.length - 1 - i:=gCL;have hd1:((s2.drop i).drop 1).length≤s2.length - 1 - i:=gCL;have hf2:f2=(f2 - 1)+1:=by omega
      first
       |exact gAW
       |exact gAQ
    ·
     have hcc:¬(0 < e∧hd.2=true):=fun h=>g43 h.1
     refine zz9 ?_;refine aY rfl rfl (iY b5 36 (acc++s2.take i) gCE _) (.cons (.there (.there .here)) .nil) rfl ?_;rintro _ K _ ⟨rfl,rfl,rfl⟩ -;refine zz4 ?_;refine aA (jJ (m:=1) Tryz.underlying9 rfl rfl rfl aH) rfl ?_;refine zz3 ?_;have hdd:((s2.drop i).drop (e.toNat+1)).length≤s2.length - 1 - i:=gCL;have hd1:((s2.drop i).drop 1).length≤s2.length - 1 - i:=gCL;have hf2:f2=(f2 - 1)+1:=by omega
     first
      |exact gAW
      |exact gAQ
  ·
   have hout:iP vars parts (s.length+1) s []=acc++s2:=(by rw[hx,show s2=[]from Classical.not_not.1 h18];exact aG9 _ _ _ _);refine zz7 ?_;refine aY rfl rfl (nQ b5 acc aH _) (.cons .here .nil) rfl ?_;rintro _ K _ ⟨rfl,rfl,rfl⟩ -;have hla:(acc++s2).length=acc.length+s2.length:=List.length_append;refine zz1 ?_;refine aA (xF rfl rfl gBQ) rfl ?_;refine zz9 ?_;refine aA (eR (n:=min (acc++s2).length 1024) Tryz.underlying9 rfl rfl gCC aH) rfl ?_;refine zz4 ?_;refine uAh ?_;refine zz1 ?_;have hnm:nm=true:=by simpa using h15
   have ht:(acc++s2).take (min (acc++s2).length 1024)=(acc++s2).take 1024:=gCI;unfold dC;rw[if_pos hnm,hout,ht];exact⟨_,rfl,rfl,rfl,rfl⟩
end Go.Proofs
end
section
attribute [local irreducible] Go.SL.T Go.SL.OL Go.SL.D Go.SL.DL Go.SL.Ev Go.SL.Ef Go.SL.EfS
namespace Go.Proofs
open Go Go.SL Go.Syn Go.Mach
theorem aCE{α β:Type}(g:α→β){l:List α}{i:Nat}{x:α}(h:l[i]?=some x):(l.take (i+1)).map g=(l.take i).map g++[g x]:=by
 have hi:i < l.length:=by
  rcases Nat.lt_or_ge i l.length with h'|h'
  ·exact h'
  ·simp[List.getElem?_eq_none h']at h
 have hc:l[i]=x:=by simpa[List.getElem?_eq_getElem hi]using h
 rw[List.take_succ_eq_append_getElem hi,hc];simp
theorem aQC(b mb:Nat)(c0 c1 c2 c3 c4 c5 pv c9:Value)(pc:Int)(nm:Bool)(vars:List (List UInt8×List UInt8))(f:Nat→Nat)(c:Nat)(parts:List (List UInt8))(lv:Value)(l:List (List UInt8))(K:Hl)(hg:Glob K)(hpv:Ksl (bC 9) K pv parts)(hlv:Ksl (bC 9) K lv l)(hl:l.length≤1000000)(hs:∀s∈l,s.length≤100000)(hsm:pL vars parts):
  Sp Tryz.prog 250 [ptr b,lv] K [mblk b c0 c1 c2 c3 c4 c5 (.bool nm) (.map (some mb)) pv c9 pc,pt mb (mapO (iK vars f) c)]
   (Ret fun v K' L'=>K'=K∧L'=[sl false (bC 9) v (l.map (dC nm vars parts)),mblk b c0 c1 c2 c3 c4 c5 (.bool nm) (.map (some mb)) pv c9 pc,pt mb (mapO (iK vars f) c)]):=by
 refine aZ Tryz.func250 rfl Tryz.ntmps250 rfl rfl fun F w=>?_
 refine zz14 ?_;refine uAf ?_;refine zz4 ?_;refine zN (fun(i:Nat) (v:Value)=>i≤l.length) (fun i v=>[(0,ptr b),(5,v),(8,lv),(9,i64 l.length),(10,i64 i)]) (fun _ _=>K) (fun i v=>[sl false (bC 9) v ((l.take i).map (dC nm vars parts)),mblk b c0 c1 c2 c3 c4 c5 (.bool nm) (.map (some mb)) pv c9 pc,pt mb (mapO (iK vars f) c)]) (fun i _=>l.length - i) 0 (.slice none 0 0) (Nat.zero_le _) (.cons 0 rfl (.cons 5 rfl (.cons 8 rfl (.cons 9 rfl (.cons 10 rfl .nil))))) rfl (eT (bC 9)) ?_;intro i v hi0;have hml:((l.take i).map (dC nm vars parts)).length=i:=(by rw[List.length_map,List.length_take_of_le hi0]);refine zz6 ?_;refine bG 11 rfl (fun h11=>?_) (fun h11=>?_)
 ·
  have hilt:i < l.length:=by omega
  obtain⟨x,hx⟩:∃x,l[i]?=some x:=⟨l[i]'hilt,List.getElem?_eq_getElem hilt⟩;refine zz6 ?_;refine aA (bQ (k:=(bC 9)) bS rfl aN rfl rfl gBR) rfl ?_;refine uAg ?_;refine zz7 ?_;refine aY rfl rfl (o6 b mb c0 c1 c2 c3 c4 c5 pv c9 pc nm vars f c parts x _ hg hpv (hs x (List.mem_of_getElem? hx)) hsm) (.cons (.there .here) (.cons (.there .here) .nil)) rfl ?_;rintro _ K _ ⟨rfl,rfl,rfl⟩ -;refine ol_s (a6 (z0:=[(str [])]) bS tz9 rfl rfl rfl rfl (.cons rfl rfl rfl (.cons .nil) .nil)) rfl ?_;rintro _ K _ ⟨b18,rfl,rfl,rfl⟩ -;refine ol_s (dT (k:=(bC 9)) (ys:=[dC nm vars parts x]) fA rfl rfl (.there (.there (.there .here))) (fun w j=>dK Tryz.underlying39 (SeesSl.at (.blk (.own .here) rfl rfl) j)) (by rw[hml];simp;omega) (by rw[hml];simp;omega)) rfl ?_;rintro v19 K _ ⟨rfl,rfl,ho19⟩ -;refine zz8 ?_;refine uAm ?_;refine dQ (i+1) _ aH aH (.cons 0 rfl (.cons 5 rfl (.cons 8 rfl (.cons 9 rfl (.cons 10 rfl .nil))))) rfl (by rw[aCE _ hx];exact fun _ h=>h)
 ·
  have hfin:(l.take i).map (dC nm vars parts)=l.map (dC nm vars parts):=(by rw[List.take_of_length_le aH]);refine zz12 ?_;refine uAo ?_;refine zz1 ?_;rw[hfin];exact⟨_,rfl,rfl,rfl⟩
theorem aO5(s:List UInt8)(K:Hl):Sp Tryz.prog 303 [str s] K [] (Val (str s) K):=by
 refine aZ Tryz.func303 rfl Tryz.ntmps303 rfl rfl fun F w=>?_
 refine zz13 ?_;exact⟨rfl,rfl,rfl⟩
abbrev aAM(oct:Bool):FuncId:=if oct=true then 303 else 185
theorem aE3(oct:Bool)(K:Hl):Sp Tryz.prog 249 [.bool oct] K [] (Val (.func (.func (aAM oct)) #[] #[]) K):=by
 refine aZ Tryz.func249 rfl Tryz.ntmps249 rfl rfl fun F w=>?_
 refine zz11 ?_;refine d8 3 rfl (fun h3=>?_) (fun h3=>?_)
 ·
  refine zz8 ?_;subst h3;exact⟨rfl,rfl,rfl⟩
 ·
  refine zz9 ?_;subst h3;exact⟨rfl,rfl,rfl⟩
theorem mI(oct:Bool)(s:List UInt8)(K:Hl)(hs:s.length≤100000000):Sp Tryz.prog (aAM oct) [str s] K [] (Val (str (eF oct s)) K):=by
 cases oct
 ·exact fX s K aH
 ·exact aO5 s K
theorem vG(s sub:List UInt8)(K:Hl)(hg:Glob K)(hs:s.length < 4294967281):Sp Tryz.prog 305 [str s,str sub] K [] (Val (.bool (decide (0≤Lib.index s sub))) K):=by
 refine lI ⟨_,Tryz.func305,rfl,rfl⟩ fun w hw=>?_
 obtain⟨m,T,fz,hm⟩:=hg.maxLen;exact Tryz.strings_Contains ⟨s.toArray⟩ ⟨sub.toArray⟩ m w (by simpa[ByteArray.size]using hs) (kZ (hw _ _ hm) rfl)
theorem aA1(v k:List UInt8)(oct:Bool)(K:Hl)(hg:Glob K)(hv:v.length≤100000000)(hk:k.length≤100000000):Sp Tryz.prog 252 [str v,str k,.func (.func (aAM oct)) #[] #[]] K [] (Val (.bool (decide (0≤Lib.index (eF oct v) (eF oct k)))) K):=by
 have hfl:∀s:List UInt8,(eF oct s).length=s.length:=by intro s;unfold eF;split <;> simp[cN]
 refine aZ Tryz.func252 rfl Tryz.ntmps252 rfl rfl fun F w=>?_
 refine zz9 ?_;refine cE rfl rfl (mI oct v _ hv) rfl ?_;refine zz2 ?_;refine cE rfl rfl (mI oct k _ hk) rfl ?_;refine cE rfl rfl (vG _ _ _ hg (by rw[hfl];omega)) rfl ?_;refine zz5 ?_;exact⟨rfl,rfl,rfl⟩
theorem aFF(c:UInt8)(K:Hl):Sp Tryz.prog 222 [.int .u8 c.toNat] K [] (Val (.bool (gL c)) K):=by
 refine aZ Tryz.func222 rfl Tryz.ntmps222 rfl rfl fun F w=>?_
 refine zz8 ?_;refine aA (aEX c 32 rfl rfl) rfl ?_;refine zz2 ?_;refine cF 6 rfl (fun g6=>?_) (fun g6=>?_)
 ·
  refine zz3 ?_;refine aA (aEX c 32 rfl rfl) rfl ?_;refine zz4 ?_;refine cF 11 rfl (fun g11=>?_) (fun g11=>?_)
  ·
   refine zz16 ?_;refine retB ?_ _
   unfold gL
   generalize (c|||32).toNat=x at*
   generalize c.toNat=y at*
   rw[Bool.eq_iff_iff];simp;omega
  ·
   refine zz6 ?_;refine cF 14 rfl (fun g14=>?_) (fun g14=>?_)
   ·
    refine zz8 ?_;refine cF 19 rfl (fun g19=>?_) (fun g19=>?_)
    ·
     refine zz8 ?_;refine retB ?_ _
     unfold gL
     generalize (c|||32).toNat=x at*
     generalize c.toNat=y at*
     rw[Bool.eq_iff_iff];simp;omega
    ·
     refine zz10 ?_;refine retB ?_ _
     unfold gL
     generalize (c|||32).toNat=x at*
     generalize c.toNat=y at*
     rw[Bool.eq_iff_iff];simp;omega
   ·
    refine zz16 ?_;refine retB ?_ _
    unfold gL
    generalize (c|||32).toNat=x at*
    generalize c.toNat=y at*
    rw[Bool.eq_iff_iff];simp;omega
 ·
  refine zz11 ?_;refine cF 14 rfl (fun g14=>?_) (fun g14=>?_)
  ·
   refine zz8 ?_;refine cF 19 rfl (fun g19=>?_) (fun g19=>?_)
   ·
    refine zz8 ?_;refine retB ?_ _
    unfold gL
    generalize (c|||32).toNat=x at*
    generalize c.toNat=y at*
    rw[Bool.eq_iff_iff];simp;omega
   ·
    refine zz10 ?_;refine retB ?_ _
    unfold gL
    generalize (c|||32).toNat=x at*
    generalize c.toNat=y at*
    rw[Bool.eq_iff_iff];simp;omega
  ·
   refine zz16 ?_;refine retB ?_ _
   unfold gL
   generalize (c|||32).toNat=x at*
   generalize c.toNat=y at*
   rw[Bool.eq_iff_iff];simp;omega
theorem g0(s:List UInt8):zX s=true↔(∀i c,s[i]?=some c→jS i c=true)∧s≠[]∧s.length≤16:=by
 unfold zX;simp only[Bool.and_eq_true,List.all_eq_true,List.mem_range,decide_eq_true_eq]
 constructor
 ·rintro⟨⟨h1,h2⟩,h3⟩;refine⟨fun i c hc=>?_,h2,h3⟩
  have hi:i < s.length:=by
   rcases Nat.lt_or_ge i s.length with h'|h'
   ·exact h'
   ·simp[List.getElem?_eq_none h']at hc
  have:=h1 i hi;rw[hc]at this;exact this
 ·rintro⟨h1,h2,h3⟩;refine⟨⟨fun i hi=>?_,h2⟩,h3⟩
  rw[List.getElem?_eq_getElem hi];exact h1 i _ (List.getElem?_eq_getElem hi)
theorem zY(s:List UInt8)(K:Hl)(hs:s.length≤140737488355328):Sp Tryz.prog 128 [str s] K [] (Val (.bool (zX s)) K):=by
  refine aZ Tryz.func128 rfl Tryz.ntmps128 rfl rfl fun F w=>?_
  refine zz9 ?_;refine uAp ?_;rintro v6 K _ ⟨rfl,rfl⟩ -;refine uAz ?_;refine zz4 ?_;refine d6 (fun(i:Nat)=>i≤s.length∧∀j c,j < i→s[j]?=some c→jS j c=true) (fun i=>[(0,str s),(6,v6),(7,i64 s.length),(8,i64 i)]) (fun _=>_) (fun i=>[sl false (elB 5) v6 s]) (fun i=>s.length - i) 0 ⟨Nat.zero_le _,fun j c h _=>by omega⟩ (.cons 0 rfl (.cons 6 rfl (.cons 7 rfl (.cons 8 rfl .nil)))) rfl (fun _ h=>h) ?_;intro i ⟨hi0,hi1⟩;refine zz6 ?_;refine bG 9 rfl (fun h9=>?_) (fun h9=>?_)
  ·
    have hilt:i < s.length:=by omega
    obtain⟨c,hc⟩:∃c,s[i]?=some c:=⟨s[i]'hilt,List.getElem?_eq_getElem hilt⟩;refine zz7 ?_;refine aA (bQ (k:=(elB 5)) jQ rfl aN rfl rfl gBR) rfl ?_;refine uBb ?_;refine zz7 ?_;refine cE rfl rfl (aFF c _) rfl ?_;refine aA gBN rfl ?_;refine zz1 ?_;refine oQ 16 rfl (fun g16=>?_) (fun g16=>?_)
    ·
      refine zz6 ?_;refine cF 20 rfl (fun g20=>?_) (fun g20=>?_)
      ·
        refine zz6 ?_;refine cF 23 rfl (fun g23=>?_) (fun g23=>?_)
        ·
          refine zz19 ?_;refine uAw ?_;refine zz1 ?_;refine retB ?_ _
          first
            | (rw [Bool.eq_iff_iff, g0]
               simp only[decide_eq_true_eq];exact⟨fun h=>⟨hall,by assumption,by omega⟩,fun h=>by omega⟩)
            |exact gA7
            | (symm; rw [Bool.eq_false_iff]; intro hbx
               have:=((g0 s).1 hbx).1 i c hc;unfold jS at this;simp only[Bool.or_eq_true,Bool.and_eq_true,decide_eq_true_eq]at this;have hl:gL c=false:=by simpa using g16
               rw[hl]at this;simp at this;omega)
        ·
          refine zz9 ?_;refine bG 27 rfl (fun h27=>?_) (fun h27=>?_)
          ·
            refine zz11 ?_;refine uAw ?_;refine zz1 ?_;refine retB ?_ _
            first
              | (rw [Bool.eq_iff_iff, g0]
                 simp only[decide_eq_true_eq];exact⟨fun h=>⟨hall,by assumption,by omega⟩,fun h=>by omega⟩)
              |exact gA7
              | (symm; rw [Bool.eq_false_iff]; intro hbx
                 have:=((g0 s).1 hbx).1 i c hc;unfold jS at this;simp only[Bool.or_eq_true,Bool.and_eq_true,decide_eq_true_eq]at this;have hl:gL c=false:=by simpa using g16
                 rw[hl]at this;simp at this;omega)
          ·
            refine zz7 ?_;have hb:jS i c=true:=gB1;refine cG (i+1) ⟨by omega,fun j c2 hj hc2=>?_⟩ aH (.cons 0 rfl (.cons 6 rfl (.cons 7 rfl (.cons 8 rfl .nil)))) rfl (fun _ h=>h)
            rcases Nat.lt_or_ge j i with h|h
            · exact hi1 j c2 h hc2
            · have e:j=i:=by omega
              subst e;rw[hc]at hc2;cases hc2;exact hb
      ·
        refine zz17 ?_;have hb:jS i c=true:=gB1;refine cG (i+1) ⟨by omega,fun j c2 hj hc2=>?_⟩ aH (.cons 0 rfl (.cons 6 rfl (.cons 7 rfl (.cons 8 rfl .nil)))) rfl (fun _ h=>h)
        rcases Nat.lt_or_ge j i with h|h
        · exact hi1 j c2 h hc2
        · have e:j=i:=by omega
          subst e;rw[hc]at hc2;cases hc2;exact hb
    ·
      refine zz21 ?_;have hb:jS i c=true:=gB1;refine cG (i+1) ⟨by omega,fun j c2 hj hc2=>?_⟩ aH (.cons 0 rfl (.cons 6 rfl (.cons 7 rfl (.cons 8 rfl .nil)))) rfl (fun _ h=>h)
      rcases Nat.lt_or_ge j i with h|h
      · exact hi1 j c2 h hc2
      · have e:j=i:=by omega
        subst e;rw[hc]at hc2;cases hc2;exact hb
  ·
    have hall:∀j c,s[j]?=some c→jS j c=true:=fun j c hc=>hi1 j c (by rcases Nat.lt_or_ge j s.length with h|h;omega;(rw[List.getElem?_eq_none h]at hc;cases hc)) hc
    refine zz10 ?_;refine cF 31 rfl (fun g31=>?_) (fun g31=>?_)
    ·
      refine zz11 ?_;refine uAw ?_;refine zz1 ?_;refine retB ?_ _
      first
        | (rw [Bool.eq_iff_iff, g0]
           simp only[decide_eq_true_eq];exact⟨fun h=>⟨hall,by assumption,by omega⟩,fun h=>by omega⟩)
        |exact gA7
        | (symm; rw [Bool.eq_false_iff]; intro hbx
           have:=((g0 s).1 hbx).1 i c hc;unfold jS at this;simp only[Bool.or_eq_true,Bool.and_eq_true,decide_eq_true_eq]at this;have hl:gL c=false:=by simpa using g16
           rw[hl]at this;simp at this;omega)
    ·
      refine zz8 ?_;refine uAw ?_;refine zz1 ?_;refine retB ?_ _
      first
        | (rw [Bool.eq_iff_iff, g0]
           simp only[decide_eq_true_eq];exact⟨fun h=>⟨hall,by assumption,by omega⟩,fun h=>by omega⟩)
        |exact gA7
        | (symm; rw [Bool.eq_false_iff]; intro hbx
           have:=((g0 s).1 hbx).1 i c hc;unfold jS at this;simp only[Bool.or_eq_true,Bool.and_eq_true,decide_eq_true_eq]at this;have hl:gL c=false:=by simpa using g16
           rw[hl]at this;simp at this;omega)
end Go.Proofs
end
section
attribute [local irreducible] Go.SL.T Go.SL.OL Go.SL.D Go.SL.DL Go.SL.Ev Go.SL.Ef Go.SL.EfS
namespace Go.Proofs
open Go Go.SL Go.Syn Go.Mach
def dL:El fT:={e:=34,sz:=2,enc:=fun a=>[i64 a.1,str a.2],len:=fun _=>rfl,one:=fun _ u h=>by simp at h;rcases h with rfl|rfl <;> rfl}
def mch(b mb:Nat)(m:Msg)(hv pv:Value)(nm:Bool)(s:MS):Asn:=fun h=>∃av sv f c,Sat [mblk b (str m.from_) (str m.to_) (i64 m.size) hv av (.bool s.keep) (.bool nm) (.map (some mb)) pv sv s.pc,sl true dL av s.acts,sl false gF sv s.stack,pt mb (mapO (iK s.vars f) c)] h
section
variable{E:Env}{c0:Code}{x0:Exit}{fr:Fr}{K:Hl}{L:List Asn}{Q:Post}{b mb:Nat}{m:Msg}{hv pv:Value}{nm:Bool}{s:MS}
theorem aFS{h:Hl}:Sat (mch b mb m hv pv nm s::L) h↔∃av sv f c,Sat ([mblk b (str m.from_) (str m.to_) (i64 m.size) hv av (.bool s.keep) (.bool nm) (.map (some mb)) pv sv s.pc,sl true dL av s.acts,sl false gF sv s.stack,pt mb (mapO (iK s.vars f) c)]++L) h:=by
 constructor
 ·rintro⟨a,l,⟨av,sv,f,c,hs⟩,hl,hd,rfl⟩;exact⟨av,sv,f,c,fH.2 ⟨a,l,hs,hl,hd,rfl⟩⟩
 ·rintro⟨av,sv,f,c,hs⟩;obtain⟨a,l,ha,hl,hd,rfl⟩:=fH.1 hs;exact⟨a,l,⟨av,sv,f,c,ha⟩,hl,hd,rfl⟩
attribute [local semireducible] Go.SL.T Go.SL.OL Go.SL.D Go.SL.DL Go.SL.Ev Go.SL.Ef Go.SL.EfS in
theorem rM(h:∀av sv f c,T E c0 fr K ([mblk b (str m.from_) (str m.to_) (i64 m.size) hv av (.bool s.keep) (.bool nm) (.map (some mb)) pv sv s.pc,sl true dL av s.acts,sl false gF sv s.stack,pt mb (mapO (iK s.vars f) c)]++L) Q):T E c0 fr K (mch b mb m hv pv nm s::L) Q:=fun a w f i=>by
 obtain⟨x,hs,r⟩:=i.rep;obtain⟨av,sv,f1,c,hs⟩:=aFS.1 hs;exact h av sv f1 c a w f ⟨i.os,i.tape,i.output,i.size,x,hs,r⟩
theorem dU{av sv:Value}{f:Nat→Nat}{c:Nat}:∀h,Sat (mblk b (str m.from_) (str m.to_) (i64 m.size) hv av (.bool s.keep) (.bool nm) (.map (some mb)) pv sv s.pc::sl true dL av s.acts::sl false gF sv s.stack::pt mb (mapO (iK s.vars f) c)::L) h→Sat (mch b mb m hv pv nm s::L) h:=fun h hs=>aFS.2 ⟨av,sv,f,c,hs⟩
end
def MI(b mb:Nat)(m:Msg)(hv:Value)(nm:Bool)(r:Res MS):Ending→Hl→List Asn→Prop:=f6 r fun s' v K' L'=>v=.tuple #[]∧∃pv',Ksl (bC 9) K' pv' s'.parts∧L'=[mch b mb m hv pv' nm s']
theorem aBO{P:Program}{f:FuncId}{args:List Value}{K:Hl}{L:List Asn}{R R':Ending→Hl→List Asn→Prop}(h:Sp P f args K L R)(k:∀e K' L',R e K' L'→∃S M,L'=S++M∧R' e K' S):Sp P f args K L R':=
 ⟨h.1,fun F w i=>(h.2 F w i).mono fun e w' ⟨K',L',r,le,j⟩=>let ⟨S,M,e1,r'⟩:=k _ _ _ r;⟨K',S,r',le,by subst e1;exact j.left⟩⟩
theorem oN(p:Prop)[Decidable p](b:Nat)(c0 c1 c2 c3 c4 c5 c6 c7 c8 c9:Value)(pc:Int)(K:Hl):Sp Tryz.prog 92 [ptr b,.bool (decide p)] K [mblk b c0 c1 c2 c3 c4 c5 c6 c7 c8 c9 pc]
  (f6 (if p then .ok ()else .error (12,pc)) fun _ v K' L'=>v=.tuple #[]∧K'=K∧L'=[mblk b c0 c1 c2 c3 c4 c5 c6 c7 c8 c9 pc]):=by
 refine aBO (xN p b c0 c1 c2 c3 c4 c5 c6 c7 c8 c9 pc K) fun e K' L' h=>?_
 rcases h with ⟨hp,v,rfl,rfl,rfl,rfl⟩|⟨hp,fb,rfl,rfl,rfl⟩
 ·rw[if_pos hp];exact⟨_,[],(List.append_nil _).symm,_,rfl,rfl,rfl,rfl⟩
 ·rw[if_neg hp];exact⟨[_],_,rfl,fb,rfl,rfl⟩
theorem o9(b:Nat)(c0 c1 c2 c3 c4 c5 c6 c7 c8 c9:Value)(pc:Int)(K:Hl):Sp Tryz.prog 92 [ptr b,.bool false] K [mblk b c0 c1 c2 c3 c4 c5 c6 c7 c8 c9 pc] (Flt 12 pc):=by
 refine aBO (aA7 b c0 c1 c2 c3 c4 c5 c6 c7 c8 c9 pc K) fun e K' L' h=>?_
 obtain⟨fb,rfl,rfl,rfl⟩:=h;exact⟨[_],_,rfl,fb,rfl,rfl⟩
theorem iV(x:Value)(e at_:Int)(K:Hl):Sp Tryz.prog 90 [x,i64 e,i64 at_] K [] (Flt e at_):=by
 refine aBO (aDM x e at_ K) fun en K' L' h=>?_
 obtain⟨fb,rfl,rfl,rfl⟩:=h;exact⟨[_],[],rfl,fb,rfl,rfl⟩
theorem aCZ(n:Int)(h0: -9223372036854775808≤n)(h1:n≤9223372036854775807)(K:Hl)(hg:Glob K):Sp Tryz.prog 129 [i64 n] K [] (Val (str (Lib.itoa n)) K):=by
 refine nF ⟨_,Tryz.func129,rfl,rfl⟩ fun w hw=>(Tryz.strconv_Itoa n h0 h1 w (hg.pow10 w hw)).mono fun e w' ⟨he,k,os,hw'⟩=>⟨he,?_⟩
 rw[hw'];exact Lib.below_grow _ _ (Nat.le_refl _) k os
theorem jA{nm:Bool}{vars:List (List UInt8×List UInt8)}{parts:List (List UInt8)}{s:List UInt8}(h:s.length≤100000):(dC nm vars parts s).length≤100000:=by
 unfold dC;split
 ·have:=List.length_take_le 1024 (iP vars parts (s.length+1) s []);omega
 ·exact h
theorem gB(l:List UInt8)(n:Nat):l.take (min l.length n)=l.take n:=by
 rcases Nat.le_total l.length n with h|h
 ·rw[Nat.min_eq_left h,List.take_length,List.take_of_length_le h]
 ·rw[Nat.min_eq_right h]
abbrev mJ(o:Ins)(av bv:Value):Value:=.agg #[i64 o.op,i64 o.n,i64 o.tag,.bool o.oct,av,bv,i64 o.at_]
theorem aWB{nm:Bool}{o:Ins}{s:MS}{a b:List UInt8}(ht:0≤o.tag∧o.tag≤3)(ha:o.a[0]?=some a)(hb:o.b[0]?=some b):setI nm o s=.ok {s with vars:=vput s.vars a ((if o.tag=1 then cN (dC nm s.vars s.parts b)else if o.tag=2 then aE4 (dC nm s.vars s.parts b)else if o.tag=3 then Lib.itoa (dC nm s.vars s.parts b).length else dC nm s.vars s.parts b).take 48)}:=by
 obtain⟨op,n,tag,oct,oa,ob,p⟩:=o;cases oa with
 |nil=>cases ha
 |cons x xs=>
  cases ob with
  |nil=>cases hb
  |cons y ys=>
   cases ha;cases hb
   unfold setI;rw[if_pos ht]
theorem zI{nm:Bool}{o:Ins}{s:MS}(h:¬(0≤o.tag∧o.tag≤3∧0 < o.a.length∧0 < o.b.length)):setI nm o s=.error (12,s.pc):=by
 obtain⟨op,n,tag,oct,oa,ob,p⟩:=o;unfold setI;split
 ·rename_i ht;split
  ·rename_i h1 h2;simp only at h1 h2;subst h1;subst h2;exact absurd ⟨ht.1,ht.2,by simp,by simp⟩ h
  ·rfl
 ·rfl
theorem aPF(b mb:Nat)(m:Msg)(hv pv:Value)(nm:Bool)(s:MS)(o:Ins)(av bv:Value)(n:Int)(K:Hl)(hg:Glob K)(hpv:Ksl (bC 9) K pv s.parts)(ha:Ksl (bC 9) K av o.a)(hb:Ksl (bC 9) K bv o.b)(hs:∀x∈o.b,x.length≤100000)(hsm:pL s.vars s.parts):
  Sp Tryz.prog 154 [ptr b,mJ o av bv,i64 n] K [mch b mb m hv pv nm s] (MI b mb m hv nm (setI nm o s)):=by
 obtain⟨sa,sn,sc,rfl⟩:=ha.isSlice;obtain⟨ta,tn,tc,rfl⟩:=hb.isSlice;refine aZ Tryz.func154 rfl Tryz.ntmps154 rfl rfl fun F w=>?_
 refine rM fun av sv f c=>?_
 refine zz3 ?_;rintro _ K _ ⟨b4,rfl,rfl,rfl⟩ -;refine zz9 ?_;refine cF 11 rfl (fun g11=>?_) (fun g11=>?_)
 ·
  refine zz8 ?_;refine cF 16 rfl (fun g16=>?_) (fun g16=>?_)
  ·
   refine zz5 ?_;refine uAf ?_;refine zz4 ?_;refine cF 22 rfl (fun g22=>?_) (fun g22=>?_)
   ·
    refine zz5 ?_;refine uAf ?_;refine zz3 ?_;refine aX rfl rfl (oN (0 < (o.b.length:Int)) _ _ _ _ _ _ _ _ _ _ _ _ _) (.cons (.there .here) .nil) rfl (fun _ _=>a7 _ _) ?_ ?_
    ·
     rintro _ _ _ hTr le1;obtain⟨e,p,hu,fb,h,rfl⟩:=a8 hTr;cases h
     refine uAa ?_;refine zz2 ?_;have hbl:¬(0 < (o.b.length:Int)):=gB5;rw[if_neg hbl]at hu;cases hu
     have hno:=zI (nm:=nm) (s:=s) (o:=o) aH;unfold MI;rw[hno];exact⟨fb,rfl,rfl⟩
    rintro _ K _ hTr -;obtain⟨u0,hu,rfl,rfl,rfl⟩:=bA hTr;clear hTr;have hbl:0 < (o.b.length:Int):=Classical.byContradiction (fun h=>by rw[if_neg h]at hu;cases hu);obtain⟨xa,hxa⟩:∃x,o.a[0]?=some x:=⟨o.a[0]'(by omega),List.getElem?_eq_getElem aH⟩;obtain⟨xb,hxb⟩:∃x,o.b[0]?=some x:=⟨o.b[0]'(by omega),List.getElem?_eq_getElem aH⟩;have hok:=aWB (nm:=nm) (s:=s) (show 0≤o.tag∧o.tag≤3 by omega) hxa hxb;have hel:(dC nm s.vars s.parts xb).length≤100000:=jA (hs xb (List.mem_of_getElem? hxb));refine zz7 ?_;refine aA (bQ (k:=bC 9) (j:=0) bS rfl (.known hb) rfl rfl aH) rfl ?_;refine uAg ?_;refine aY rfl rfl (o6 b mb _ _ _ _ _ _ pv _ _ nm s.vars f c s.parts xb _ hg hpv (hs xb (List.mem_of_getElem? hxb)) hsm) (.cons .here (.cons (.there (.there (.there .here))) .nil)) rfl ?_;rintro _ K _ ⟨rfl,rfl,rfl⟩ -;refine zz3 ?_;refine gG (fun(u:List UInt8)=>setI nm o s=.ok {s with vars:=vput s.vars xa (u.take 48)}) (fun u=>[(0,ptr b),(4,ptr b4),(6,str u)]) (fun _=>K) (fun _=>[mblk b (str m.from_) (str m.to_) (i64 m.size) hv av (.bool s.keep) (.bool nm) (.map (some mb)) pv sv s.pc,sl true dL av s.acts,sl false gF sv s.stack,pt mb (mapO (iK s.vars f) c),pt b4 (aU [i64 o.op,i64 o.n,i64 o.tag,.bool o.oct,.slice sa sn sc,.slice ta tn tc,i64 o.at_] 41)]) ?_ ?_
    ·
     refine zz13 ?_;refine bG 37 rfl (fun h37=>?_) (fun h37=>?_)
     ·
      refine zz2 ?_;refine cE rfl rfl (fX _ _ aH) rfl ?_;refine zz3 ?_;refine uAk ?_;refine bU _ ?_ (.cons 0 rfl (.cons 4 rfl (.cons 6 rfl .nil))) rfl (fun _ h=>h)
      first
       |(rw[hok,if_pos h37];done)
       |exact gBJ
       |exact gBF
       |exact gBG
     ·
      refine zz6 ?_;refine bG 41 rfl (fun h41=>?_) (fun h41=>?_)
      ·
       refine zz2 ?_;refine cE rfl rfl (aKD _ _ aH) rfl ?_;refine zz3 ?_;refine uAk ?_;refine bU _ ?_ (.cons 0 rfl (.cons 4 rfl (.cons 6 rfl .nil))) rfl (fun _ h=>h)
       first
        |(rw[hok,if_pos h37];done)
        |exact gBJ
        |exact gBF
        |exact gBG
      ·
       refine zz6 ?_;refine bG 45 rfl (fun h45=>?_) (fun h45=>?_)
       ·
        refine zz3 ?_;refine cE rfl rfl (aCZ _ aH aH _ hg) rfl ?_;refine zz3 ?_;refine uAk ?_;refine bU _ ?_ (.cons 0 rfl (.cons 4 rfl (.cons 6 rfl .nil))) rfl (fun _ h=>h)
        first
         |(rw[hok,if_pos h37];done)
         |exact gBJ
         |exact gBF
         |exact gBG
       ·
        refine zz2 ?_;refine uAk ?_;refine bU _ ?_ (.cons 0 rfl (.cons 4 rfl (.cons 6 rfl .nil))) rfl (fun _ h=>h)
        first
         |(rw[hok,if_pos h37];done)
         |exact gBJ
         |exact gBF
         |exact gBG
    ·
     intro u hok;refine t_draw (anc:=[0,1,3,7,0,16,48,112,0,0,512,1536,3840,7936,16383]) (ord:=[0,1,2,3,4,5,6,7,8,9,10,11,12,13,14]) [14] [14] mixed gBO (cX _) ?_;refine zz6 ?_;refine dl_ev rfl rfl (.none rfl) rfl rfl (bQ (k:=bC 9) (j:=0) bS rfl (.known ha) rfl rfl aH) rfl ?_;refine dl_ev rfl rfl (.none rfl) rfl rfl (cV (o:=0) (k:=(bC 9)) ts9 rfl aN bV rfl) rfl ?_;refine zz4 ?_;refine dl_ev rfl rfl (.none rfl) rfl rfl (eR (n:=min u.length 48) Tryz.underlying9 rfl rfl gCC aH) rfl ?_;refine dl_ev rfl rfl (.none rfl) rfl rfl (cR bA9 aZT (.cons rfl rfl rfl (.cons .nil) .nil)) rfl ?_;refine vL rfl rfl (.none rfl) rfl (bAX Tryz.underlying175 Tryz.underlying9 rfl rfl rfl bB) ?_;rintro _ K _ ⟨rfl,rfl⟩ -;refine zz1 ?_;obtain⟨f',hf'⟩:=aP9 xa (u.take (min u.length 48)) c s.vars f;rw[hf',gB];refine aO (.cons .here (.cons .here (.cons .here (.cons .here .nil)))) ?_;refine eD (dU (m:=m) (hv:=hv) (pv:=pv) (nm:=nm) (s:={s with vars:=vput s.vars xa (u.take 48)})) ?_;refine zz1 ?_;unfold MI;rw[hok];exact⟨_,rfl,rfl,pv,hpv,rfl⟩
   ·
    have hno:=zI (nm:=nm) (s:=s) (o:=o) aH;refine zz5 ?_;refine aX rfl rfl (o9 _ _ _ _ _ _ _ _ _ _ _ _ _) (.cons (.there .here) .nil) rfl gBM ?_ ?_
    ·
     rintro _ _ _ ⟨fb,h,rfl⟩ le1;cases h
     refine uAa ?_;refine zz2 ?_;simp only[MI,hno,if_true,if_false,↓reduceIte];exact⟨fb,rfl,rfl⟩
    ·
     rintro _ _ _ ⟨_,h,_⟩;cases h
  ·
   have hno:=zI (nm:=nm) (s:=s) (o:=o) aH;refine zz11 ?_;refine aX rfl rfl (o9 _ _ _ _ _ _ _ _ _ _ _ _ _) (.cons (.there .here) .nil) rfl gBM ?_ ?_
   ·
    rintro _ _ _ ⟨fb,h,rfl⟩ le1;cases h
    refine uAa ?_;refine zz2 ?_;simp only[MI,hno,if_true,if_false,↓reduceIte];exact⟨fb,rfl,rfl⟩
   ·
    rintro _ _ _ ⟨_,h,_⟩;cases h
 ·
  have hno:=zI (nm:=nm) (s:=s) (o:=o) aH;refine zz16 ?_;refine aX rfl rfl (o9 _ _ _ _ _ _ _ _ _ _ _ _ _) (.cons (.there .here) .nil) rfl gBM ?_ ?_
  ·
   rintro _ _ _ ⟨fb,h,rfl⟩ le1;cases h
   refine uAa ?_;refine zz2 ?_;simp only[MI,hno,if_true,if_false,↓reduceIte];exact⟨fb,rfl,rfl⟩
  ·
   rintro _ _ _ ⟨_,h,_⟩;cases h
end Go.Proofs
end
section
attribute [local irreducible] Go.SL.T Go.SL.OL Go.SL.D Go.SL.DL Go.SL.Ev Go.SL.Ef Go.SL.EfS
namespace Go.Proofs
open Go Go.SL Go.Syn Go.Mach
theorem aK1{P:Program}{g:FuncId}{args:List Value}{K:Hl}{L:List Asn}{R:Ending→Hl→List Asn→Prop}{b mb:Nat}{m:Msg}{hv pv:Value}{nm:Bool}{s:MS}(hb:∃fn,P.funcs[g]?=some fn∧(fn.name=="runtime.NumGoroutine")=false∧fn.body.isSome=true)
  (h:∀av sv f c,Sp P g args K ([mblk b (str m.from_) (str m.to_) (i64 m.size) hv av (.bool s.keep) (.bool nm) (.map (some mb)) pv sv s.pc,sl true dL av s.acts,sl false gF sv s.stack,pt mb (mapO (iK s.vars f) c)]++L) R):Sp P g args K (mch b mb m hv pv nm s::L) R:=
 ⟨hb, fun F w j => by
  obtain⟨x,hs,r⟩:=j.rep;obtain⟨av,sv,f,c,hs⟩:=aFS.1 hs;exact(h av sv f c).2 F w ⟨j.os,j.tape,j.output,j.size,x,hs,r⟩⟩
theorem aFW{P:Program}{f:FuncId}{args:List Value}{K:Hl}{L:List Asn}{R R':Ending→Hl→List Asn→Prop}(h:Sp P f args K L R)(k:∀e K' L',R e K' L'→∃S M,(∀h,Sat L' h→Sat (S++M) h)∧R' e K' S):Sp P f args K L R':=
 ⟨h.1,fun F w i=>(h.2 F w i).mono fun e w' ⟨K',L',r,le,j⟩=>let ⟨S,M,e1,r'⟩:=k _ _ _ r;⟨K',S,r',le,(j.imp e1).left⟩⟩
theorem lG(b mb:Nat)(m:Msg)(hv pv:Value)(nm:Bool)(s:MS)(v:Bool)(K:Hl):Sp Tryz.prog 142 [ptr b,.bool v] K [mch b mb m hv pv nm s] (f6 (push s v) fun s' r K' L'=>r=.tuple #[]∧K'=K∧L'=[mch b mb m hv pv nm s']):=by
 refine aK1 ⟨_,Tryz.func142,rfl,rfl⟩ fun av sv f c=>?_
 refine xV (show Tks [_,_] _ _ from .cons .here (.cons (.there .here) .nil)).sat (aFW (wO _ (aOU b _ _ _ _ _ _ _ _ _ sv s.pc s.stack v K)) ?_)
 rintro e K' L' ⟨N,h,rfl⟩;unfold push;rcases h with ⟨hp,r,rfl,rfl,rfl,sv',rfl⟩|⟨hp,fb,rfl,rfl,rfl⟩
 ·rw[if_pos aH];refine⟨[mch b mb m hv pv nm {s with stack:=s.stack++[v]}],[],fun h hh=>?_,_,rfl,rfl,rfl,rfl⟩
  refine dU (s:={s with stack:=s.stack++[v]}) h ((show Tks [_,_,_,_] _ []from .cons .here (.cons (.there .here) (.cons .here (.cons .here .nil)))).sat h hh)
 ·rw[if_neg aH];exact⟨[_],_,fun h hh=>hh,fb,rfl,rfl⟩
theorem uM(b mb:Nat)(m:Msg)(hv pv:Value)(nm:Bool)(s:MS)(by_:Int)(n:Nat)(yes:Bool)(K:Hl)(hp:s.pc < 1000)(hn:n < 1000):Sp Tryz.prog 146 [ptr b,i64 by_,i64 n,.bool yes] K [mch b mb m hv pv nm s] (f6 (jump s by_ n yes) fun s' r K' L'=>r=.tuple #[]∧K'=K∧L'=[mch b mb m hv pv nm s']):=by
 refine aK1 ⟨_,Tryz.func146,rfl,rfl⟩ fun av sv f c=>?_
 refine xV (show Tks [_] _ _ from .cons .here .nil).sat (aFW (wO _ (aNS b _ _ _ _ _ _ _ _ _ _ s.pc by_ n yes K ⟨by omega,by omega⟩ ⟨by omega,by omega⟩)) ?_)
 rintro e K' L' ⟨N,h,rfl⟩;unfold jump;rcases h with ⟨hq,r,rfl,rfl,rfl,rfl⟩|⟨hq,fb,rfl,rfl,rfl⟩
 ·rw[if_pos hq];refine⟨[mch b mb m hv pv nm (if yes=true then {s with pc:=s.pc+by_.toNat}else s)],[],fun h hh=>?_,_,rfl,rfl,rfl,rfl⟩
  cases yes
  ·exact dU h hh
  ·refine dU (av:=av) (sv:=sv) (f:=f) (c:=c) (s:={s with pc:=s.pc+by_.toNat}) h ?_;have e:((s.pc+by_.toNat:Nat):Int)=(s.pc:Int)+by_:=by omega
   show Sat (mblk b _ _ _ _ _ _ _ _ _ _ ((s.pc+by_.toNat:Nat):Int)::_) h
   rw[e];exact hh
 ·rw[if_neg hq];exact⟨[_],_,fun h hh=>hh,fb,rfl,rfl⟩
theorem aIK{α:Type}{z:Bool}{k:El α}{v:Value}{xs:List α}:∀h,sl z k v xs h→∃a n c,v=.slice a n c:=by
 rintro h (⟨rfl,_⟩|⟨b,cap,junk,fz,rfl,_⟩) <;> exact⟨_,_,_,rfl⟩
theorem xO(b mb:Nat)(m:Msg)(hv pv:Value)(nm:Bool)(s:MS)(K:Hl)(hl:s.stack.length≤100):Sp Tryz.prog 144 [ptr b] K [mch b mb m hv pv nm s] (f6 (pop s) fun r v K' L'=>v=.bool r.1∧K'=K∧L'=[mch b mb m hv pv nm r.2]):=by
 refine aZ Tryz.func144 rfl Tryz.ntmps144 rfl rfl fun F w=>?_
 refine rM fun av sv f c=>?_
 refine aBS (p:=∃a n c,sv=.slice a n c) (fun h hs=>?_) ?_
 ·obtain⟨_,l,_,hl,_,_⟩:=hs;obtain⟨_,l2,_,hl2,_,_⟩:=hl;obtain⟨x,_,hx,_,_,_⟩:=hl2;exact aIK x hx
 rintro⟨sa,sn,sc,rfl⟩;refine zz12 ?_;refine aA (bX (k:=gF) rfl Tryz.underlying176 rfl aN) rfl ?_;refine zz1 ?_;refine aX rfl rfl (oN (0 < (s.stack.length:Int)) _ _ _ _ _ _ _ _ _ _ _ _ _) (.cons .here .nil) rfl (fun _ _=>a7 _ _) ?_ ?_
 ·
  rintro _ _ _ hTr le1;obtain⟨e,p,hu,fb,h,rfl⟩:=a8 hTr;cases h
  refine uAa ?_;refine zz2 ?_;have hbl:¬(0 < (s.stack.length:Int)):=gB5;rw[if_neg hbl]at hu;cases hu
  have hg:s.stack.getLast?=none:=(by rw[List.getLast?_eq_none_iff];exact List.eq_nil_of_length_eq_zero aH);unfold pop;rw[hg];exact⟨fb,rfl,rfl⟩
 rintro _ K _ hTr -;obtain⟨u0,hu,rfl,rfl,rfl⟩:=bA hTr;clear hTr;have hbl:0 < (s.stack.length:Int):=Classical.byContradiction (fun h=>by rw[if_neg h]at hu;cases hu);obtain⟨x,hx⟩:∃x,s.stack[s.stack.length - 1]?=some x:=⟨s.stack[s.stack.length - 1]'(by omega),List.getElem?_eq_getElem aH⟩;have hg:s.stack.getLast?=some x:=(by rw[List.getLast?_eq_getElem?];exact hx);refine zz3 ?_;refine t_draw (anc:=[0,1,3,7,0,16,48,112,240,496,1023,2047,4095]) (ord:=[0,1,2,3,4,5,6,7,8,9,10,11,12]) [] [] mixed gBO (cX _) ?_;refine zz8 ?_;refine dl_ev rfl rfl (.none rfl) rfl rfl (bX (k:=gF) rfl Tryz.underlying176 rfl aN) rfl ?_;refine zz1 ?_;refine dl_ev rfl rfl (.none rfl) rfl rfl (bQ (k:=gF) (j:=s.stack.length - 1) yF rfl (.own (.there (.there .here))) rfl aH aH) rfl ?_;refine dl_ev rfl rfl (.none rfl) rfl rfl (cV (o:=0) (k:=gF) ts4 rfl aN bV rfl) rfl ?_;refine zz4 ?_;refine t_draw (anc:=[0,0,2,6,14,0,32,96,224,480,992,2046,4095,8191,16383]) (ord:=[0,1,2,3,4,5,6,7,8,9,10,11,12,13,14]) [14] [14] mixed gBO (cX _) ?_;refine zz9 ?_;refine dl_ev rfl rfl (.none rfl) rfl rfl (bX (k:=gF) rfl Tryz.underlying176 rfl aN) rfl ?_;refine zz1 ?_;refine dl_ev rfl rfl (.none rfl) rfl rfl (uJ (k:=gF) (m:=s.stack.length - 1) yF rfl (.there (.there .here)) (.there (.there .here)) rfl aH aH) rfl ?_;refine zz2 ?_;refine vL rfl rfl (.none rfl) rfl (bL uC rfl rfl cK bB (.succ (.succ (.succ (.succ (.succ (.succ (.succ (.succ (.succ .zero))))))))) rfl) ?_;rintro _ K _ ⟨rfl,rfl⟩ -;refine zz9 ?_;refine aO (.cons (.there (.there .here)) (.cons .here (.cons .here (.cons .here .nil)))) ?_;refine eD (iF (zL (m:=s.stack.length - 1) aH)) ?_;refine aO (.cons (.there .here) (.cons (.there .here) (.cons .here (.cons .here .nil)))) ?_;rw[←List.dropLast_eq_take];refine eD (dU (m:=m) (hv:=hv) (pv:=pv) (nm:=nm) (s:={s with stack:=s.stack.dropLast})) ?_;refine zz1 ?_;unfold pop;rw[hg];exact⟨_,rfl,rfl,rfl,rfl⟩
theorem eP{s t:MS}{v:Bool}(h:push s v=.ok t):t.parts=s.parts:=by unfold push at h;split at h <;> cases h;rfl
theorem xP{s:MS}{r:Bool×MS}(h:pop s=.ok r):r.2.parts=s.parts:=by unfold pop at h;split at h <;> cases h;rfl
theorem uN{s t:MS}{by_:Int}{n:Nat}{yes:Bool}(h:jump s by_ n yes=.ok t):t.parts=s.parts:=by
 unfold jump at h;split at h
 ·cases h;split <;> rfl
 ·cases h
theorem aQ6(b mb:Nat)(m:Msg)(hv pv:Value)(nm:Bool)(s:MS)(o:Ins)(av bv:Value)(n:Nat)(K:Hl)(hpv:Ksl (bC 9) K pv s.parts)(ha:Ksl (bC 9) K av o.a)(hb:Ksl (bC 9) K bv o.b)(hp:s.pc < 1000)(hn:n < 1000)(hst:s.stack.length≤100):
  Sp Tryz.prog 143 [ptr b,mJ o av bv,i64 n] K [mch b mb m hv pv nm s] (MI b mb m hv nm (match pop s with| .error e=>.error e| .ok r=>push r.2 (!r.1))):=by
 obtain⟨sa,sn,sc,rfl⟩:=ha.isSlice;obtain⟨ta,tn,tc,rfl⟩:=hb.isSlice;refine aZ Tryz.func143 rfl Tryz.ntmps143 rfl rfl fun F w=>?_
 refine zz3 ?_;rintro _ K _ ⟨b4,rfl,rfl,rfl⟩ -;refine zz5 ?_;refine aX rfl rfl (xO b mb m hv pv nm s _ hst) (.cons (.there .here) .nil) rfl (fun _ _=>a7 _ _) ?_ ?_
 ·
  rintro _ _ _ hTr le1;obtain⟨e,p,hr,fb,h,rfl⟩:=a8 hTr;cases h
  refine uAa ?_;refine zz1 ?_;simp only[MI,hr,if_true,if_false,↓reduceIte];exact⟨fb,rfl,rfl⟩
 rintro _ K _ hTr -;obtain⟨r,hr,rfl,rfl,rfl⟩:=bA hTr;clear hTr;have hpp:=xP hr;refine aA gBN rfl ?_;refine aX rfl rfl (lG b mb m hv pv nm r.2 (!r.1) _) (.cons .here .nil) rfl (fun _ _=>a7 _ _) ?_ ?_
 ·
  rintro _ _ _ hTr le1;obtain⟨e,p,hq,fb,h,rfl⟩:=a8 hTr;cases h
  refine uAa ?_;refine zz1 ?_;simp only[MI,hr,hq,if_true,if_false,↓reduceIte];exact⟨fb,rfl,rfl⟩
 rintro _ K _ hTr -;obtain⟨q,hq,rfl,rfl,rfl⟩:=bA hTr;clear hTr;have hqp:=eP hq;refine uAx ?_;refine zz1 ?_;simp only[MI,hr,hq,if_true,if_false,↓reduceIte];exact⟨_,rfl,rfl,pv,by rw[hqp,hpp];exact hpv,rfl⟩
theorem aQ7(b mb:Nat)(m:Msg)(hv pv:Value)(nm:Bool)(s:MS)(o:Ins)(av bv:Value)(n:Nat)(K:Hl)(hpv:Ksl (bC 9) K pv s.parts)(ha:Ksl (bC 9) K av o.a)(hb:Ksl (bC 9) K bv o.b)(hp:s.pc < 1000)(hn:n < 1000)(hst:s.stack.length≤100):
  Sp Tryz.prog 145 [ptr b,mJ o av bv,i64 n] K [mch b mb m hv pv nm s] (MI b mb m hv nm (jump s o.n n true)):=by
 obtain⟨sa,sn,sc,rfl⟩:=ha.isSlice;obtain⟨ta,tn,tc,rfl⟩:=hb.isSlice;refine aZ Tryz.func145 rfl Tryz.ntmps145 rfl rfl fun F w=>?_
 refine zz3 ?_;rintro _ K _ ⟨b4,rfl,rfl,rfl⟩ -;refine zz7 ?_;refine aX rfl rfl (uM b mb m hv pv nm s o.n n true _ hp hn) (.cons (.there .here) .nil) rfl (fun _ _=>a7 _ _) ?_ ?_
 ·
  rintro _ _ _ hTr le1;obtain⟨e,p,hq,fb,h,rfl⟩:=a8 hTr;cases h
  refine uAa ?_;refine zz1 ?_;simp only[MI,hq,if_true,if_false,↓reduceIte];exact⟨fb,rfl,rfl⟩
 rintro _ K _ hTr -;obtain⟨q,hq,rfl,rfl,rfl⟩:=bA hTr;clear hTr;have hqp:=uN hq;refine uAx ?_;refine zz1 ?_;simp only[MI,hq,if_true,if_false,↓reduceIte];exact⟨_,rfl,rfl,pv,by rw[hqp];exact hpv,rfl⟩
theorem aQ8(b mb:Nat)(m:Msg)(hv pv:Value)(nm:Bool)(s:MS)(o:Ins)(av bv:Value)(n:Nat)(K:Hl)(hpv:Ksl (bC 9) K pv s.parts)(ha:Ksl (bC 9) K av o.a)(hb:Ksl (bC 9) K bv o.b)(hp:s.pc < 1000)(hn:n < 1000)(hst:s.stack.length≤100):
  Sp Tryz.prog 147 [ptr b,mJ o av bv,i64 n] K [mch b mb m hv pv nm s] (MI b mb m hv nm (match pop s with| .error e=>.error e| .ok r=>jump r.2 o.n n (r.1))):=by
 obtain⟨sa,sn,sc,rfl⟩:=ha.isSlice;obtain⟨ta,tn,tc,rfl⟩:=hb.isSlice;refine aZ Tryz.func147 rfl Tryz.ntmps147 rfl rfl fun F w=>?_
 refine zz3 ?_;rintro _ K _ ⟨b4,rfl,rfl,rfl⟩ -;refine zz2 ?_;refine t_draw (anc:=[0,0,2,0,0,16,63]) (ord:=[0,1,2,3,4,5,6]) [5,6] [6] mixed gBO (.cons .here .nil) ?_;refine zz5 ?_;refine vK rfl (.none rfl) rfl rfl rfl rfl (xO b mb m hv pv nm s _ hst) (.cons (.there .here) .nil) rfl (fun _ _=>a7 _ _) ?_ ?_
 ·
  rintro _ _ _ hTr le1;obtain⟨e,p,hr,fb,h,rfl⟩:=a8 hTr;cases h
  intro a0 w0 hd0 hi0;refine⟨hd0,_,_,?_,bV,hi0.left⟩
  simp only[MI,hr,if_true,if_false,↓reduceIte];exact⟨fb,rfl,rfl⟩
 rintro _ K _ hTr -;obtain⟨r,hr,rfl,rfl,rfl⟩:=bA hTr;clear hTr;have hpp:=xP hr;have hpc:=aBD hr;refine⟨_,(show Tks _ _ _ from (.cons (.there .here) .nil)).sat,?_⟩
 refine fV rfl (.none rfl) rfl rfl rfl (uM b mb m hv pv nm r.2 o.n n (r.1) _ aH hn) (.cons (.there .here) .nil) rfl (fun _ _=>a7 _ _) ?_ ?_
 ·
  rintro _ _ _ hTr le1;obtain⟨e,p,hq,fb,h,rfl⟩:=a8 hTr;cases h
  intro a0 w0 hd0 hi0;refine⟨hd0,_,_,?_,bV,hi0.left⟩
  simp only[MI,hr,hq,if_true,if_false,↓reduceIte];exact⟨fb,rfl,rfl⟩
 rintro _ K _ hTr -;obtain⟨q,hq,rfl,rfl,rfl⟩:=bA hTr;clear hTr;have hqp:=uN hq;refine zz1 ?_;refine uAa ?_;refine zz1 ?_;simp only[MI,hr,hq,if_true,if_false,↓reduceIte];exact⟨_,rfl,rfl,pv,by rw[hqp,hpp];exact hpv,rfl⟩
theorem aQ9(b mb:Nat)(m:Msg)(hv pv:Value)(nm:Bool)(s:MS)(o:Ins)(av bv:Value)(n:Nat)(K:Hl)(hpv:Ksl (bC 9) K pv s.parts)(ha:Ksl (bC 9) K av o.a)(hb:Ksl (bC 9) K bv o.b)(hp:s.pc < 1000)(hn:n < 1000)(hst:s.stack.length≤100):
  Sp Tryz.prog 148 [ptr b,mJ o av bv,i64 n] K [mch b mb m hv pv nm s] (MI b mb m hv nm (match pop s with| .error e=>.error e| .ok r=>jump r.2 o.n n (!r.1))):=by
 obtain⟨sa,sn,sc,rfl⟩:=ha.isSlice;obtain⟨ta,tn,tc,rfl⟩:=hb.isSlice;refine aZ Tryz.func148 rfl Tryz.ntmps148 rfl rfl fun F w=>?_
 refine zz3 ?_;rintro _ K _ ⟨b4,rfl,rfl,rfl⟩ -;refine zz2 ?_;refine t_draw (anc:=[0,0,2,0,0,16,48,127]) (ord:=[0,1,2,3,4,5,6,7]) [5,7] [7] mixed gBO (.cons .here .nil) ?_;refine zz5 ?_;refine vK rfl (.none rfl) rfl rfl rfl rfl (xO b mb m hv pv nm s _ hst) (.cons (.there .here) .nil) rfl (fun _ _=>a7 _ _) ?_ ?_
 ·
  rintro _ _ _ hTr le1;obtain⟨e,p,hr,fb,h,rfl⟩:=a8 hTr;cases h
  intro a0 w0 hd0 hi0;refine⟨hd0,_,_,?_,bV,hi0.left⟩
  simp only[MI,hr,if_true,if_false,↓reduceIte];exact⟨fb,rfl,rfl⟩
 rintro _ K _ hTr -;obtain⟨r,hr,rfl,rfl,rfl⟩:=bA hTr;clear hTr;have hpp:=xP hr;have hpc:=aBD hr;refine⟨_,(show Tks _ _ _ from (.cons (.there .here) .nil)).sat,?_⟩
 refine dl_ev rfl rfl (.none rfl) rfl rfl gBN rfl ?_;refine fV rfl (.none rfl) rfl rfl rfl (uM b mb m hv pv nm r.2 o.n n (!r.1) _ aH hn) (.cons (.there .here) .nil) rfl (fun _ _=>a7 _ _) ?_ ?_
 ·
  rintro _ _ _ hTr le1;obtain⟨e,p,hq,fb,h,rfl⟩:=a8 hTr;cases h
  intro a0 w0 hd0 hi0;refine⟨hd0,_,_,?_,bV,hi0.left⟩
  simp only[MI,hr,hq,if_true,if_false,↓reduceIte];exact⟨fb,rfl,rfl⟩
 rintro _ K _ hTr -;obtain⟨q,hq,rfl,rfl,rfl⟩:=bA hTr;clear hTr;have hqp:=uN hq;refine zz1 ?_;refine uAa ?_;refine zz1 ?_;simp only[MI,hr,hq,if_true,if_false,↓reduceIte];exact⟨_,rfl,rfl,pv,by rw[hqp,hpp];exact hpv,rfl⟩
theorem aRC(b mb:Nat)(m:Msg)(hv pv:Value)(nm:Bool)(s:MS)(o:Ins)(av bv:Value)(n:Nat)(K:Hl)(hpv:Ksl (bC 9) K pv s.parts)(ha:Ksl (bC 9) K av o.a)(hb:Ksl (bC 9) K bv o.b):
  Sp Tryz.prog 155 [ptr b,mJ o av bv,i64 n] K [mch b mb m hv pv nm s] (MI b mb m hv nm (.ok {s with keep:=false})):=by
 obtain⟨sa,sn,sc,rfl⟩:=ha.isSlice;obtain⟨ta,tn,tc,rfl⟩:=hb.isSlice;refine aZ Tryz.func155 rfl Tryz.ntmps155 rfl rfl fun F w=>?_
 refine zz3 ?_;rintro _ K _ ⟨b4,rfl,rfl,rfl⟩ -;refine zz2 ?_;refine uBi ?_;refine rM fun av sv f c=>?_
 refine zz5 ?_;refine uBc ?_;rintro _ K _ ⟨rfl,rfl⟩ -;refine aF ?_;refine aO (.cons .here (.cons .here (.cons .here (.cons .here .nil)))) ?_;refine eD (dU (m:=m) (hv:=hv) (pv:=pv) (nm:=nm) (s:={s with keep:=false})) ?_;refine zz1 ?_;exact⟨_,rfl,rfl,pv,hpv,rfl⟩
theorem aQ5(b mb:Nat)(m:Msg)(hv pv:Value)(nm:Bool)(s:MS)(o:Ins)(av bv:Value)(n:Nat)(K:Hl)(hpv:Ksl (bC 9) K pv s.parts)(ha:Ksl (bC 9) K av o.a)(hb:Ksl (bC 9) K bv o.b):
  Sp Tryz.prog 141 [ptr b,mJ o av bv,i64 n] K [mch b mb m hv pv nm s] (MI b mb m hv nm (if o.n=0∨o.n=1 then push s (decide (o.n=1))else .error (nK s.pc))):=by
 obtain⟨sa,sn,sc,rfl⟩:=ha.isSlice;obtain⟨ta,tn,tc,rfl⟩:=hb.isSlice;refine aZ Tryz.func141 rfl Tryz.ntmps141 rfl rfl fun F w=>?_
 refine zz3 ?_;rintro _ K _ ⟨b4,rfl,rfl,rfl⟩ -;refine zz3 ?_;refine uBi ?_;refine rM fun av sv f c=>?_
 refine zz6 ?_;refine cF 10 rfl (fun g10=>?_) (fun g10=>?_)
 ·
  refine zz4 ?_;refine cE rfl rfl (zD _ _) rfl ?_;have hcc:o.n=0∨o.n=1:=.inl g10;refine jY dU ?_;refine zz7 ?_;refine aX rfl rfl (lG b mb m hv pv nm s (decide (o.n=1)) _) (.cons .here .nil) rfl (fun _ _=>a7 _ _) ?_ ?_
  ·
   rintro _ _ _ hTr le1;obtain⟨e,p,hq,fb,h,rfl⟩:=a8 hTr;cases h
   refine uAa ?_;refine zz1 ?_;unfold MI;rw[if_pos hcc,hq];exact⟨fb,rfl,rfl⟩
  rintro _ K _ hTr -;obtain⟨q,hq,rfl,rfl,rfl⟩:=bA hTr;clear hTr;have hqp:=eP hq;refine uAx ?_;refine zz1 ?_;unfold MI;rw[if_pos hcc,hq];exact⟨_,rfl,rfl,pv,by rw[hqp];exact hpv,rfl⟩
 ·
  refine zz7 ?_;refine aX rfl rfl (oN (o.n=1) _ _ _ _ _ _ _ _ _ _ _ _ _) (.cons .here .nil) rfl (fun _ _=>a7 _ _) ?_ ?_
  ·
   rintro _ _ _ hTr le1;obtain⟨e,p,hu,fb,h,rfl⟩:=a8 hTr;cases h
   refine uAa ?_;refine zz2 ?_;have hbl:¬(o.n=1):=gB5;rw[if_neg hbl]at hu;cases hu
   unfold MI;rw[if_neg aH];exact⟨fb,rfl,rfl⟩
  rintro _ K _ hTr -;obtain⟨u0,hu,rfl,rfl,rfl⟩:=bA hTr;clear hTr;have hbl:o.n=1:=Classical.byContradiction (fun h=>by rw[if_neg h]at hu;cases hu);have hcc:o.n=0∨o.n=1:=.inr hbl;refine jY dU ?_;refine zz7 ?_;refine aX rfl rfl (lG b mb m hv pv nm s (decide (o.n=1)) _) (.cons .here .nil) rfl (fun _ _=>a7 _ _) ?_ ?_
  ·
   rintro _ _ _ hTr le1;obtain⟨e,p,hq,fb,h,rfl⟩:=a8 hTr;cases h
   refine uAa ?_;refine zz1 ?_;unfold MI;rw[if_pos hcc,hq];exact⟨fb,rfl,rfl⟩
  rintro _ K _ hTr -;obtain⟨q,hq,rfl,rfl,rfl⟩:=bA hTr;clear hTr;have hqp:=eP hq;refine uAx ?_;refine zz1 ?_;unfold MI;rw[if_pos hcc,hq];exact⟨_,rfl,rfl,pv,by rw[hqp];exact hpv,rfl⟩
end Go.Proofs
end
section
attribute [local irreducible] Go.SL.T Go.SL.OL Go.SL.D Go.SL.DL Go.SL.Ev Go.SL.Ef Go.SL.EfS
namespace Go.Proofs
open Go Go.SL Go.Syn Go.Mach
theorem aKR(b mb:Nat)(m:Msg)(hv pv:Value)(nm:Bool)(s:MS)(av sv:Value)(f:Nat→Nat)(c:Nat)(v:Bool)(K:Hl):Sp Tryz.prog 142 [ptr b,.bool v] K [mblk b (str m.from_) (str m.to_) (i64 m.size) hv av (.bool s.keep) (.bool nm) (.map (some mb)) pv sv s.pc,sl true dL av s.acts,sl false gF sv s.stack,pt mb (mapO (iK s.vars f) c)] (f6 (push s v) fun s' r K' L'=>r=.tuple #[]∧K'=K∧L'=[mch b mb m hv pv nm s']):=
 xV (fun h hh=>dU h hh) (lG b mb m hv pv nm s v K)
abbrev aTQ(o:Ins)(m:Msg):Bool:=decide (o.tag=1∧o.n < m.size∨o.tag=2∧m.size < o.n)
theorem iL(b mb:Nat)(m:Msg)(hv pv:Value)(nm:Bool)(s:MS)(av sv:Value)(f:Nat→Nat)(c:Nat)(q:Bool)(o:Ins)(K:Hl)(hq:q=aTQ o m):Sp Tryz.prog 142 [ptr b,.bool q] K [mblk b (str m.from_) (str m.to_) (i64 m.size) hv av (.bool s.keep) (.bool nm) (.map (some mb)) pv sv s.pc,sl true dL av s.acts,sl false gF sv s.stack,pt mb (mapO (iK s.vars f) c)] (f6 (push s (aTQ o m)) fun s' r K' L'=>r=.tuple #[]∧K'=K∧L'=[mch b mb m hv pv nm s']):=by
 subst hq;exact aKR b mb m hv pv nm s av sv f c _ K
theorem aRB(b mb:Nat)(m:Msg)(hv pv:Value)(nm:Bool)(s:MS)(o:Ins)(av bv:Value)(n:Nat)(K:Hl)(hpv:Ksl (bC 9) K pv s.parts)(ha:Ksl (bC 9) K av o.a)(hb:Ksl (bC 9) K bv o.b):
  Sp Tryz.prog 152 [ptr b,mJ o av bv,i64 n] K [mch b mb m hv pv nm s] (MI b mb m hv nm (if o.tag=1∨o.tag=2 then push s (aTQ o m)else .error (nK s.pc))):=by
 obtain⟨sa,sn,sc,rfl⟩:=ha.isSlice;obtain⟨ta,tn,tc,rfl⟩:=hb.isSlice;refine aZ Tryz.func152 rfl Tryz.ntmps152 rfl rfl fun F w=>?_
 refine zz3 ?_;rintro _ K _ ⟨b4,rfl,rfl,rfl⟩ -;refine zz3 ?_;refine uBi ?_;refine rM fun av sv f c=>?_
 refine zz6 ?_;refine cF 10 rfl (fun g10=>?_) (fun g10=>?_)
 ·
  refine zz4 ?_;refine cE rfl rfl (zD _ _) rfl ?_;have hcc:o.tag=1∨o.tag=2:=.inl g10;refine zz2 ?_;refine t_draw (anc:=[0,0,2,6,14,30,62,126,254,510,1022,30,2078,8190,16382,32766,65534,131070,262142,524286,1048574,2097150,4194302,8388606,16777214,33554430,1048574,68157438,268435454,536870910,1073741822,2147483647]) (ord:=[0,1,2,3,4,5,6,7,8,9,10,11,12,13,14,15,16,17,18,19,20,21,22,23,24,25,26,27,28,29,30,31]) [31] [31] mixed gBO (cX _) ?_;refine zz5 ?_;refine dl_splitp 20 rfl (fun s20=>?_) (fun s20=>?_)
  ·
   refine zz11 ?_;refine dl_splitp 31 rfl (fun s31=>?_) (fun s31=>?_)
   ·
    refine zz4 ?_;refine dl_off rfl rfl (.offu rfl rfl rfl) rfl ?_;refine dl_off rfl rfl (.offu rfl rfl rfl) rfl ?_;refine dl_off rfl rfl (.offu rfl rfl rfl) rfl ?_;refine dl_off rfl rfl (.offu rfl rfl rfl) rfl ?_;refine dl_off rfl rfl (.offu rfl rfl rfl) rfl ?_;refine dl_off rfl rfl (.offu rfl rfl rfl) rfl ?_;refine dl_off rfl rfl (.offu rfl rfl rfl) rfl ?_;refine dl_off rfl rfl (.offu rfl rfl rfl) rfl ?_;refine dl_off rfl rfl (.offu rfl rfl rfl) rfl ?_;refine zz2 ?_;refine fV rfl (.none rfl) rfl rfl rfl (iL b mb m hv pv nm s av sv f c _ o _ gB3) (.cons .here (.cons .here (.cons .here (.cons .here .nil)))) rfl (fun _ _=>a7 _ _) ?_ ?_
    ·
     rintro _ _ _ hTr le1;obtain⟨e,p,hq,fb,h,rfl⟩:=a8 hTr;cases h
     intro a0 w0 hd0 hi0;refine⟨hd0,_,_,?_,bV,hi0.left⟩
     unfold MI;rw[if_pos hcc,hq];exact⟨fb,rfl,rfl⟩
    rintro _ K _ hTr -;obtain⟨q,hq,rfl,rfl,rfl⟩:=bA hTr;clear hTr;have hqp:=eP hq;refine zz1 ?_;refine uAa ?_;refine zz1 ?_;unfold MI;rw[if_pos hcc,hq];exact⟨_,rfl,rfl,pv,by rw[hqp];exact hpv,rfl⟩
   ·
    refine zz4 ?_;refine dl_splitp 35 rfl (fun s35=>?_) (fun s35=>?_)
    ·
     refine zz11 ?_;refine fV rfl (.none rfl) rfl rfl rfl (iL b mb m hv pv nm s av sv f c _ o _ gB3) (.cons .here (.cons .here (.cons .here (.cons .here .nil)))) rfl (fun _ _=>a7 _ _) ?_ ?_
     ·
      rintro _ _ _ hTr le1;obtain⟨e,p,hq,fb,h,rfl⟩:=a8 hTr;cases h
      intro a0 w0 hd0 hi0;refine⟨hd0,_,_,?_,bV,hi0.left⟩
      unfold MI;rw[if_pos hcc,hq];exact⟨fb,rfl,rfl⟩
     rintro _ K _ hTr -;obtain⟨q,hq,rfl,rfl,rfl⟩:=bA hTr;clear hTr;have hqp:=eP hq;refine zz1 ?_;refine uAa ?_;refine zz1 ?_;unfold MI;rw[if_pos hcc,hq];exact⟨_,rfl,rfl,pv,by rw[hqp];exact hpv,rfl⟩
    ·
     refine zz11 ?_;refine fV rfl (.none rfl) rfl rfl rfl (iL b mb m hv pv nm s av sv f c _ o _ gB3) (.cons .here (.cons .here (.cons .here (.cons .here .nil)))) rfl (fun _ _=>a7 _ _) ?_ ?_
     ·
      rintro _ _ _ hTr le1;obtain⟨e,p,hq,fb,h,rfl⟩:=a8 hTr;cases h
      intro a0 w0 hd0 hi0;refine⟨hd0,_,_,?_,bV,hi0.left⟩
      unfold MI;rw[if_pos hcc,hq];exact⟨fb,rfl,rfl⟩
     rintro _ K _ hTr -;obtain⟨q,hq,rfl,rfl,rfl⟩:=bA hTr;clear hTr;have hqp:=eP hq;refine zz1 ?_;refine uAa ?_;refine zz1 ?_;unfold MI;rw[if_pos hcc,hq];exact⟨_,rfl,rfl,pv,by rw[hqp];exact hpv,rfl⟩
  ·
   refine zz15 ?_;refine dl_splitp 35 rfl (fun s35=>?_) (fun s35=>?_)
   ·
    refine zz11 ?_;refine fV rfl (.none rfl) rfl rfl rfl (iL b mb m hv pv nm s av sv f c _ o _ gB3) (.cons .here (.cons .here (.cons .here (.cons .here .nil)))) rfl (fun _ _=>a7 _ _) ?_ ?_
    ·
     rintro _ _ _ hTr le1;obtain⟨e,p,hq,fb,h,rfl⟩:=a8 hTr;cases h
     intro a0 w0 hd0 hi0;refine⟨hd0,_,_,?_,bV,hi0.left⟩
     unfold MI;rw[if_pos hcc,hq];exact⟨fb,rfl,rfl⟩
    rintro _ K _ hTr -;obtain⟨q,hq,rfl,rfl,rfl⟩:=bA hTr;clear hTr;have hqp:=eP hq;refine zz1 ?_;refine uAa ?_;refine zz1 ?_;unfold MI;rw[if_pos hcc,hq];exact⟨_,rfl,rfl,pv,by rw[hqp];exact hpv,rfl⟩
   ·
    refine zz11 ?_;refine fV rfl (.none rfl) rfl rfl rfl (iL b mb m hv pv nm s av sv f c _ o _ gB3) (.cons .here (.cons .here (.cons .here (.cons .here .nil)))) rfl (fun _ _=>a7 _ _) ?_ ?_
    ·
     rintro _ _ _ hTr le1;obtain⟨e,p,hq,fb,h,rfl⟩:=a8 hTr;cases h
     intro a0 w0 hd0 hi0;refine⟨hd0,_,_,?_,bV,hi0.left⟩
     unfold MI;rw[if_pos hcc,hq];exact⟨fb,rfl,rfl⟩
    rintro _ K _ hTr -;obtain⟨q,hq,rfl,rfl,rfl⟩:=bA hTr;clear hTr;have hqp:=eP hq;refine zz1 ?_;refine uAa ?_;refine zz1 ?_;unfold MI;rw[if_pos hcc,hq];exact⟨_,rfl,rfl,pv,by rw[hqp];exact hpv,rfl⟩
 ·
  refine zz7 ?_;refine aX rfl rfl (oN (o.tag=2) _ _ _ _ _ _ _ _ _ _ _ _ _) (.cons .here .nil) rfl (fun _ _=>a7 _ _) ?_ ?_
  ·
   rintro _ _ _ hTr le1;obtain⟨e,p,hu,fb,h,rfl⟩:=a8 hTr;cases h
   refine uAa ?_;refine zz2 ?_;have hbl:¬(o.tag=2):=gB5;rw[if_neg hbl]at hu;cases hu
   unfold MI;rw[if_neg aH];exact⟨fb,rfl,rfl⟩
  rintro _ K _ hTr -;obtain⟨u0,hu,rfl,rfl,rfl⟩:=bA hTr;clear hTr;have hbl:o.tag=2:=Classical.byContradiction (fun h=>by rw[if_neg h]at hu;cases hu);have hcc:o.tag=1∨o.tag=2:=.inr hbl;refine zz2 ?_;refine t_draw (anc:=[0,0,2,6,14,30,62,126,254,510,1022,30,2078,8190,16382,32766,65534,131070,262142,524286,1048574,2097150,4194302,8388606,16777214,33554430,1048574,68157438,268435454,536870910,1073741822,2147483647]) (ord:=[0,1,2,3,4,5,6,7,8,9,10,11,12,13,14,15,16,17,18,19,20,21,22,23,24,25,26,27,28,29,30,31]) [31] [31] mixed gBO (cX _) ?_;refine zz5 ?_;refine dl_splitp 20 rfl (fun s20=>?_) (fun s20=>?_)
  ·
   refine zz11 ?_;refine dl_splitp 31 rfl (fun s31=>?_) (fun s31=>?_)
   ·
    refine zz4 ?_;refine dl_off rfl rfl (.offu rfl rfl rfl) rfl ?_;refine dl_off rfl rfl (.offu rfl rfl rfl) rfl ?_;refine dl_off rfl rfl (.offu rfl rfl rfl) rfl ?_;refine dl_off rfl rfl (.offu rfl rfl rfl) rfl ?_;refine dl_off rfl rfl (.offu rfl rfl rfl) rfl ?_;refine dl_off rfl rfl (.offu rfl rfl rfl) rfl ?_;refine dl_off rfl rfl (.offu rfl rfl rfl) rfl ?_;refine dl_off rfl rfl (.offu rfl rfl rfl) rfl ?_;refine dl_off rfl rfl (.offu rfl rfl rfl) rfl ?_;refine zz2 ?_;refine fV rfl (.none rfl) rfl rfl rfl (iL b mb m hv pv nm s av sv f c _ o _ gB3) (.cons .here (.cons .here (.cons .here (.cons .here .nil)))) rfl (fun _ _=>a7 _ _) ?_ ?_
    ·
     rintro _ _ _ hTr le1;obtain⟨e,p,hq,fb,h,rfl⟩:=a8 hTr;cases h
     intro a0 w0 hd0 hi0;refine⟨hd0,_,_,?_,bV,hi0.left⟩
     unfold MI;rw[if_pos hcc,hq];exact⟨fb,rfl,rfl⟩
    rintro _ K _ hTr -;obtain⟨q,hq,rfl,rfl,rfl⟩:=bA hTr;clear hTr;have hqp:=eP hq;refine zz1 ?_;refine uAa ?_;refine zz1 ?_;unfold MI;rw[if_pos hcc,hq];exact⟨_,rfl,rfl,pv,by rw[hqp];exact hpv,rfl⟩
   ·
    refine zz4 ?_;refine dl_splitp 35 rfl (fun s35=>?_) (fun s35=>?_)
    ·
     refine zz11 ?_;refine fV rfl (.none rfl) rfl rfl rfl (iL b mb m hv pv nm s av sv f c _ o _ gB3) (.cons .here (.cons .here (.cons .here (.cons .here .nil)))) rfl (fun _ _=>a7 _ _) ?_ ?_
     ·
      rintro _ _ _ hTr le1;obtain⟨e,p,hq,fb,h,rfl⟩:=a8 hTr;cases h
      intro a0 w0 hd0 hi0;refine⟨hd0,_,_,?_,bV,hi0.left⟩
      unfold MI;rw[if_pos hcc,hq];exact⟨fb,rfl,rfl⟩
     rintro _ K _ hTr -;obtain⟨q,hq,rfl,rfl,rfl⟩:=bA hTr;clear hTr;have hqp:=eP hq;refine zz1 ?_;refine uAa ?_;refine zz1 ?_;unfold MI;rw[if_pos hcc,hq];exact⟨_,rfl,rfl,pv,by rw[hqp];exact hpv,rfl⟩
    ·
     refine zz11 ?_;refine fV rfl (.none rfl) rfl rfl rfl (iL b mb m hv pv nm s av sv f c _ o _ gB3) (.cons .here (.cons .here (.cons .here (.cons .here .nil)))) rfl (fun _ _=>a7 _ _) ?_ ?_
     ·
      rintro _ _ _ hTr le1;obtain⟨e,p,hq,fb,h,rfl⟩:=a8 hTr;cases h
      intro a0 w0 hd0 hi0;refine⟨hd0,_,_,?_,bV,hi0.left⟩
      unfold MI;rw[if_pos hcc,hq];exact⟨fb,rfl,rfl⟩
     rintro _ K _ hTr -;obtain⟨q,hq,rfl,rfl,rfl⟩:=bA hTr;clear hTr;have hqp:=eP hq;refine zz1 ?_;refine uAa ?_;refine zz1 ?_;unfold MI;rw[if_pos hcc,hq];exact⟨_,rfl,rfl,pv,by rw[hqp];exact hpv,rfl⟩
  ·
   refine zz15 ?_;refine dl_splitp 35 rfl (fun s35=>?_) (fun s35=>?_)
   ·
    refine zz11 ?_;refine fV rfl (.none rfl) rfl rfl rfl (iL b mb m hv pv nm s av sv f c _ o _ gB3) (.cons .here (.cons .here (.cons .here (.cons .here .nil)))) rfl (fun _ _=>a7 _ _) ?_ ?_
    ·
     rintro _ _ _ hTr le1;obtain⟨e,p,hq,fb,h,rfl⟩:=a8 hTr;cases h
     intro a0 w0 hd0 hi0;refine⟨hd0,_,_,?_,bV,hi0.left⟩
     unfold MI;rw[if_pos hcc,hq];exact⟨fb,rfl,rfl⟩
    rintro _ K _ hTr -;obtain⟨q,hq,rfl,rfl,rfl⟩:=bA hTr;clear hTr;have hqp:=eP hq;refine zz1 ?_;refine uAa ?_;refine zz1 ?_;unfold MI;rw[if_pos hcc,hq];exact⟨_,rfl,rfl,pv,by rw[hqp];exact hpv,rfl⟩
   ·
    refine zz11 ?_;refine fV rfl (.none rfl) rfl rfl rfl (iL b mb m hv pv nm s av sv f c _ o _ gB3) (.cons .here (.cons .here (.cons .here (.cons .here .nil)))) rfl (fun _ _=>a7 _ _) ?_ ?_
    ·
     rintro _ _ _ hTr le1;obtain⟨e,p,hq,fb,h,rfl⟩:=a8 hTr;cases h
     intro a0 w0 hd0 hi0;refine⟨hd0,_,_,?_,bV,hi0.left⟩
     unfold MI;rw[if_pos hcc,hq];exact⟨fb,rfl,rfl⟩
    rintro _ K _ hTr -;obtain⟨q,hq,rfl,rfl,rfl⟩:=bA hTr;clear hTr;have hqp:=eP hq;refine zz1 ?_;refine uAa ?_;refine zz1 ?_;unfold MI;rw[if_pos hcc,hq];exact⟨_,rfl,rfl,pv,by rw[hqp];exact hpv,rfl⟩
end Go.Proofs
end
section
attribute [local irreducible] Go.SL.T Go.SL.OL Go.SL.D Go.SL.DL Go.SL.Ev Go.SL.Ef Go.SL.EfS
namespace Go.Proofs
open Go Go.SL Go.Syn Go.Mach
theorem tH{P:Program}{w:World}{T:TypeId}{xs:Array Value}{i:Nat}{v:Value}(ht:d7 P T=true)(h:xs[i]?=some v):(part T xs i).run P w=.ok v w:=by
 obtain⟨h1,h2⟩:=nE ht w;unfold part;rw[aP h1];simp[h]
theorem aRK(w:World)(a c:fT):(Op.equalIn 10000 34 (.agg #[i64 a.1,str a.2]) (.agg #[i64 c.1,str c.2])).run Tryz.prog w=.ok (decide (a=c)) w:=by
 have hf:Tryz.prog.fieldsOf 34= #[{name:="Kind",type:=3,offset:=0,embedded:=false,tag:="",pkgPath:="",byteOffset:=0},{name:="Arg",type:=9,offset:=1,embedded:=false,tag:="",pkgPath:="",byteOffset:=8}]:=by unfold Program.fieldsOf;rw[Tryz.underlying34]
 rw[show (10000:Nat)=9999+1 from rfl,run_equalIn_agg w 9999 34 _ _ (by rw[hf];exact Tryz.underlying34) Tryz.stoodInHeld34,hf];obtain⟨k1,s1⟩:=a;obtain⟨k2,s2⟩:=c;have p1:=tH (P:=Tryz.prog) (w:=w) (xs:= #[i64 k1,str s1]) (i:=0) (v:=i64 k1) ts3 rfl;have p2:=tH (P:=Tryz.prog) (w:=w) (xs:= #[i64 k2,str s2]) (i:=0) (v:=i64 k2) ts3 rfl;have p3:=tH (P:=Tryz.prog) (w:=w) (xs:= #[i64 k1,str s1]) (i:=1) (v:=str s1) ts9 rfl;have p4:=tH (P:=Tryz.prog) (w:=w) (xs:= #[i64 k2,str s2]) (i:=1) (v:=str s2) ts9 rfl;have q1:(Op.equalIn 9999 3 (i64 k1) (i64 k2)).run Tryz.prog w=.ok (k1==k2) w:=run_equalIn_int (P:=Tryz.prog) w 9998 3 .i64 .i64 k1 k2 Tryz.underlying3;have q2:(Op.equalIn 9999 9 (str s1) (str s2)).run Tryz.prog w=.ok (decide (s1=s2)) w:=by
  have:=run_equalIn_string (P:=Tryz.prog) w 9998 9 ⟨s1.toArray⟩ ⟨s2.toArray⟩ Tryz.underlying9;rw[←beq_toListBytes,aLM]at this;exact this
 simp only[Op.eqFields];rw[if_pos (by decide),aP p1,aP p2,aP q1]
 by_cases h:k1=k2
 ·subst h;rw[if_neg (by simp),if_pos (by decide),aP p3,aP p4,aP q2]
  by_cases h2:s1=s2
  ·subst h2;simp[pure,Sem.run]
  ·simp[h2,pure,Sem.run]
 ·rw[if_pos (by simp[h])];simp[h,pure,Sem.run]
theorem aCW{n:Nat}{ds:List Deferred}{w0:World}{F:Hl}{fr:Fr}{K:Hl}{L:List Asn}{dst:Option Tmp}{ty t':TypeId}{pos:String}{aft:Array Edge}{g:Option (Nat×Bool)}{x y:Operand}{a c:fT}(hx:fr.ev x=some (.agg #[i64 a.1,str a.2]))(hy:fr.ev y=some (.agg #[i64 c.1,str c.2])):
  Ev ⟨Tryz.prog,n,ds,w0,F⟩ fr K L ⟨dst,.binOp .eql 34 x y t',ty,pos,aft,g⟩ (.bool (decide (a=c))):=
 fM hx hy (fun w=>run_eqGuard_agg w _ _ _ _ _ _ Tryz.eqGuardType34) fun w=>by
  rw[run_eql_struct,aRK];rfl
theorem aGO(av:Value)(l:List fT)(a:fT)(K:Hl)(hl:l.length≤100):Sp Tryz.prog 310 [av,.agg #[i64 a.1,str a.2]] K [sl true dL av l] (Ret fun v K' L'=>∃i:Int,v=i64 i∧(0≤i↔a∈l)∧K'=K∧L'=[sl true dL av l]):=by
 refine aZ Tryz.func310 rfl Tryz.ntmps310 rfl rfl fun F w=>?_
 refine zz3 ?_;rintro _ K _ ⟨b3,rfl,rfl,rfl⟩ -;refine zz7 ?_;refine aA (bX (k:=dL) rfl Tryz.underlying29 rfl aN) rfl ?_;refine zz4 ?_;refine d6 (fun(i:Nat)=>i≤l.length∧a∉l.take i) (fun i=>[(0,av),(3,ptr b3),(7,i64 l.length),(8,i64 i)]) (fun _=>_) (fun i=>[pt b3 (aU [i64 a.1,str a.2] 34),sl true dL av l]) (fun i=>l.length - i) 0 ⟨Nat.zero_le _,by simp⟩ (.cons 0 rfl (.cons 3 rfl (.cons 7 rfl (.cons 8 rfl .nil)))) rfl (fun _ h=>h) ?_;intro i ⟨hi0,hi1⟩;refine zz6 ?_;refine bG 9 rfl (fun h9=>?_) (fun h9=>?_)
 ·
  have hilt:i < l.length:=by omega
  obtain⟨x,hx⟩:∃x,l[i]?=some x:=⟨l[i]'hilt,List.getElem?_eq_getElem hilt⟩;refine zz11 ?_;refine t_draw (anc:=[0,0,0,6,14,31]) (ord:=[0,1,2,3,4,5]) [] [] mixed gBO (cX _) ?_;refine zz3 ?_;refine dl_ev rfl rfl (.none rfl) rfl rfl (bQ (k:=dL) iW rfl aN rfl rfl gBR) rfl ?_;refine dl_ev rfl rfl (.none rfl) rfl rfl (fF (n:=0) (k:=dL) kN rfl aN bV) rfl ?_;refine dl_ev rfl rfl (.none rfl) rfl rfl (aCW (a:=a) (c:=x) rfl rfl) rfl ?_;refine zz2 ?_;refine bG 16 rfl (fun h16=>?_) (fun h16=>?_)
  ·
   refine zz12 ?_;refine uBe ?_;refine zz1 ?_;exact⟨_,rfl,i,rfl,⟨fun _=>by rw[h16];exact List.mem_of_getElem? hx,fun _=>by omega⟩,rfl,rfl⟩
  ·
   refine zz7 ?_;refine cG (i+1) ⟨by omega,?_⟩ aH (.cons 0 rfl (.cons 3 rfl (.cons 7 rfl (.cons 8 rfl .nil)))) rfl (fun _ h=>h)
   have hxe:l[i]'hilt=x:=by simpa[List.getElem?_eq_getElem hilt]using hx
   rw[List.take_succ_eq_append_getElem hilt,hxe];intro hm;rcases List.mem_append.1 hm with h|h
   ·exact hi1 h
   ·simp at h;exact h16 h
 ·
  have hno:a∉l:=(by rw[List.take_of_length_le aH]at hi1;exact hi1);refine zz11 ?_;refine uBe ?_;refine zz1 ?_;exact⟨_,rfl,-1,rfl,⟨fun h=>by omega,fun h=>absurd h hno⟩,rfl,rfl⟩
theorem rO(av:Value)(l:List fT)(a:fT)(K:Hl)(hl:l.length≤100):Sp Tryz.prog 257 [av,.agg #[i64 a.1,str a.2]] K [sl true dL av l] (Ret fun v K' L'=>v=.bool (decide (a∈l))∧K'=K∧L'=[sl true dL av l]):=by
 refine aZ Tryz.func257 rfl Tryz.ntmps257 rfl rfl fun F w=>?_
 refine zz3 ?_;rintro _ K _ ⟨b3,rfl,rfl,rfl⟩ -;refine zz7 ?_;refine aY rfl rfl (aGO av l a _ hl) (.cons (.there .here) .nil) rfl ?_;rintro _ K _ ⟨i,rfl,hi,rfl,rfl⟩ -;refine zz5 ?_;refine uAa ?_;refine zz1 ?_;have e:decide (0≤i)=decide (a∈l):=decide_eq_decide.2 hi;rw[e];exact⟨_,rfl,rfl,rfl,rfl⟩
end Go.Proofs
end
section
attribute [local irreducible] Go.SL.T Go.SL.OL Go.SL.D Go.SL.DL Go.SL.Ev Go.SL.Ef Go.SL.EfS
namespace Go.Proofs
open Go Go.SL Go.Syn Go.Mach
def actC(o:Ins)(s:MS)(a:fT):Res MS:=
 if a∈s.acts then .ok {s with keep:=false}
 else if (∃b∈s.acts,a.1=4∨b.1=4)then .error (10,o.at_)
 else if s.acts.length=6 then .error (11,o.at_)
 else .ok {s with keep:=false,acts:=s.acts++[a]}
def actB(o:Ins)(s:MS)(arg:List UInt8):Res MS:=
 if o.tag=2∧zX arg=false then .error (8,o.at_)
 else if o.tag=3∧lJ arg=false then .error (9,o.at_)
 else actC o s (Mach.actV o arg)
theorem aUV{nm:Bool}{o:Ins}{s:MS}(h:o.tag=1∨(2≤o.tag∧o.tag≤4∧o.a≠[])):actI nm o s=actB o s (actA nm o s):=by
 unfold actI;rw[if_pos h];rfl
theorem aUW{nm:Bool}{o:Ins}{s:MS}(h:¬(o.tag=1∨(2≤o.tag∧o.tag≤4∧o.a≠[]))):actI nm o s=.error (12,s.pc):=by
 unfold actI;rw[if_neg h];rfl
theorem zS{nm:Bool}{o:Ins}{s:MS}(h:¬(o.tag=1∨(2≤o.tag∧o.tag≤4∧0 < o.a.length))):actI nm o s=.error (12,s.pc):=
 aUW fun h'=>h (h'.imp_right fun⟨a,b,c⟩=>⟨a,b,List.length_pos_iff.2 c⟩)
theorem m8{nm:Bool}{o:Ins}{s:MS}(h:o.tag=1∨(2≤o.tag∧o.tag≤4∧0 < o.a.length)):actI nm o s=actB o s (actA nm o s):=aUV (h.imp_right fun⟨a,b,c⟩=>⟨a,b,List.length_pos_iff.1 c⟩)
theorem aEE{nm:Bool}{o:Ins}{s:MS}(h:o.tag=1):actA nm o s=[]:=by unfold actA;rw[if_pos h]
theorem aEF{nm:Bool}{o:Ins}{s:MS}{x:List UInt8}(h:¬o.tag=1)(hx:o.a[0]?=some x):actA nm o s=dC nm s.vars s.parts x:=by unfold actA;rw[if_neg h,hx];rfl
theorem aMQ(b mb:Nat)(m:Msg)(hv pv:Value)(nm:Bool)(s:MS)(o:Ins)(av0 bv:Value)(n:Int)(K:Hl)(hg:Glob K)(hpv:Ksl (bC 9) K pv s.parts)(ha:Ksl (bC 9) K av0 o.a)(hb:Ksl (bC 9) K bv o.b)(hs:∀x∈o.a,x.length≤100000)(hsm:pL s.vars s.parts)(hl:s.acts.length≤6)
  (hadr:∀(x:List UInt8) (K:Hl),Glob K→x.length≤100000→Sp Tryz.prog 256 [str x] K [] (Val (.bool (lJ x)) K)):
  Sp Tryz.prog 153 [ptr b,mJ o av0 bv,i64 n] K [mch b mb m hv pv nm s] (MI b mb m hv nm (actI nm o s)):=by
 obtain⟨sa,sn,sc,rfl⟩:=ha.isSlice;obtain⟨ta,tn,tc,rfl⟩:=hb.isSlice;refine aZ Tryz.func153 rfl Tryz.ntmps153 rfl rfl fun F w=>?_
 refine rM fun av sv f c=>?_
 refine zz3 ?_;rintro _ K _ ⟨b4,rfl,rfl,rfl⟩ -;refine zz9 ?_;refine cF 13 rfl (fun g13=>?_) (fun g13=>?_)
 ·
  refine zz15 ?_;refine cE rfl rfl (zD _ _) rfl ?_;have hcc:o.tag=1∨(2≤o.tag∧o.tag≤4∧0 < o.a.length):=.inl g13;refine aSN (.cons (.there .here) (.cons .here .nil)) ?_;refine zz6 ?_;refine uAu ?_;refine zz1 ?_;rintro _ K _ ⟨b6,rfl,rfl,rfl⟩ -;refine bR (cM kN rfl rfl rfl bB gBK (.cons (.cons .nil)) gBU) ?_;rintro _ K _ ⟨rfl,rfl⟩ -;refine zz2 ?_;refine gG (fun(u:List UInt8)=>u.length≤100000∧actI nm o s=actB o s u) (fun u=>[(0,ptr b),(4,ptr b4),(6,ptr b6)]) (fun _=>K) (fun u=>[pt b6 (aU [i64 o.tag,str u] 34),mblk b (str m.from_) (str m.to_) (i64 m.size) hv av (.bool s.keep) (.bool nm) (.map (some mb)) pv sv s.pc,sl true dL av s.acts,sl false gF sv s.stack,pt mb (mapO (iK s.vars f) c),pt b4 (aU [i64 o.op,i64 o.n,i64 o.tag,.bool o.oct,.slice sa sn sc,.slice ta tn tc,i64 o.at_] 41)]) ?_ ?_
  ·
   refine zz7 ?_;refine bG 35 rfl (fun h35=>?_) (fun h35=>?_)
   ·
    obtain⟨xa,hxa⟩:∃x,o.a[0]?=some x:=⟨o.a[0]'(by omega),List.getElem?_eq_getElem aH⟩;refine zz4 ?_;refine aA (bQ (k:=bC 9) (j:=0) bS rfl (.known ha) rfl rfl aH) rfl ?_;refine uAg ?_;refine aY rfl rfl (o6 b mb _ _ _ _ _ _ pv _ _ nm s.vars f c s.parts xa _ hg hpv (hs xa (List.mem_of_getElem? hxa)) hsm) (.cons (.there .here) (.cons (.there (.there (.there (.there .here)))) .nil)) rfl ?_;rintro _ K _ ⟨rfl,rfl,rfl⟩ -;refine zz1 ?_;refine uAj ?_;rintro _ K _ ⟨rfl,rfl⟩ -;refine aF ?_
    first
     |exact gAK
     |exact gAL
   ·
    refine aW ?_
    first
     |exact gAK
     |exact gAL
  ·
   intro u ⟨hul,hok⟩;refine gG (fun(a:fT)=>actI nm o s=actC o s a) (fun _=>[(0,ptr b),(4,ptr b4),(6,ptr b6)]) (fun _=>K) (fun a=>[pt b6 (aU [i64 a.1,str a.2] 34),mblk b (str m.from_) (str m.to_) (i64 m.size) hv av (.bool s.keep) (.bool nm) (.map (some mb)) pv sv s.pc,sl true dL av s.acts,sl false gF sv s.stack,pt mb (mapO (iK s.vars f) c),pt b4 (aU [i64 o.op,i64 o.n,i64 o.tag,.bool o.oct,.slice sa sn sc,.slice ta tn tc,i64 o.at_] 41)]) ?_ ?_
   ·
    refine zz7 ?_;refine cF 47 rfl (fun g47=>?_) (fun g47=>?_)
    ·
     refine zz5 ?_;refine cE rfl rfl (zY u _ aH) rfl ?_;refine zz1 ?_;refine aA gBN rfl ?_;refine zz4 ?_;refine d8 43 rfl (fun h43=>?_) (fun h43=>?_)
     ·
      have hB:actB o s u=.error (8,o.at_):=(by unfold actB;rw[if_pos ⟨g47,by simpa using h43⟩]);refine zz4 ?_;refine aX rfl rfl (iV _ 8 o.at_ _) .nil rfl gBM ?_ ?_
      ·
       rintro _ _ _ ⟨fb,h,rfl⟩ le1;cases h
       refine uAa ?_;refine zz3 ?_;unfold MI;rw[hok,hB];exact⟨fb,rfl,rfl⟩
      ·
       rintro _ _ _ ⟨_,h,_⟩;cases h
     ·
      refine zz6 ?_;refine cF 61 rfl (fun g61=>?_) (fun g61=>?_)
      ·
       refine zz5 ?_;refine cE rfl rfl (hadr u _ hg hul) rfl ?_;refine zz1 ?_;refine aA gBN rfl ?_;refine zz4 ?_;refine d8 57 rfl (fun h57=>?_) (fun h57=>?_)
       ·
        have hB:actB o s u=.error (9,o.at_):=gCA;refine zz4 ?_;refine aX rfl rfl (iV _ 9 o.at_ _) .nil rfl gBM ?_ ?_
        ·
         rintro _ _ _ ⟨fb,h,rfl⟩ le1;cases h
         refine uAa ?_;refine zz3 ?_;unfold MI;rw[hok,hB];exact⟨fb,rfl,rfl⟩
        ·
         rintro _ _ _ ⟨_,h,_⟩;cases h
       ·
        refine zz8 ?_;refine bG 71 rfl (fun h71=>?_) (fun h71=>?_)
        ·
         refine zz7 ?_;refine aA (eR (n:=min u.length 48) Tryz.underlying9 rfl rfl gCC aH) rfl ?_;refine zz1 ?_;refine uAj ?_;rintro _ K _ ⟨rfl,rfl⟩ -;refine zz2 ?_;have hB:actB o s u=actC o s (Mach.actV o u):=gBL
         first
          |(exact bU (o.tag,u.take (min u.length 48)) gBP (.cons 0 rfl (.cons 4 rfl (.cons 6 rfl .nil))) rfl bO)
          |(exact bU (o.tag,u) gBT (.cons 0 rfl (.cons 4 rfl (.cons 6 rfl .nil))) rfl bO)
        ·
         refine zz2 ?_;have hB:actB o s u=actC o s (Mach.actV o u):=gBL
         first
          |(exact bU (o.tag,u.take (min u.length 48)) gBP (.cons 0 rfl (.cons 4 rfl (.cons 6 rfl .nil))) rfl bO)
          |(exact bU (o.tag,u) gBT (.cons 0 rfl (.cons 4 rfl (.cons 6 rfl .nil))) rfl bO)
      ·
       refine zz17 ?_;refine bG 71 rfl (fun h71=>?_) (fun h71=>?_)
       ·
        refine zz7 ?_;refine aA (eR (n:=min u.length 48) Tryz.underlying9 rfl rfl gCC aH) rfl ?_;refine zz1 ?_;refine uAj ?_;rintro _ K _ ⟨rfl,rfl⟩ -;refine zz2 ?_;have hB:actB o s u=actC o s (Mach.actV o u):=gBL
        first
         |(exact bU (o.tag,u.take (min u.length 48)) gBP (.cons 0 rfl (.cons 4 rfl (.cons 6 rfl .nil))) rfl bO)
         |(exact bU (o.tag,u) gBT (.cons 0 rfl (.cons 4 rfl (.cons 6 rfl .nil))) rfl bO)
       ·
        refine zz2 ?_;have hB:actB o s u=actC o s (Mach.actV o u):=gBL
        first
         |(exact bU (o.tag,u.take (min u.length 48)) gBP (.cons 0 rfl (.cons 4 rfl (.cons 6 rfl .nil))) rfl bO)
         |(exact bU (o.tag,u) gBT (.cons 0 rfl (.cons 4 rfl (.cons 6 rfl .nil))) rfl bO)
    ·
     refine zz15 ?_;refine cF 61 rfl (fun g61=>?_) (fun g61=>?_)
     ·
      refine zz5 ?_;refine cE rfl rfl (hadr u _ hg hul) rfl ?_;refine zz1 ?_;refine aA gBN rfl ?_;refine zz4 ?_;refine d8 57 rfl (fun h57=>?_) (fun h57=>?_)
      ·
       have hB:actB o s u=.error (9,o.at_):=gCA;refine zz4 ?_;refine aX rfl rfl (iV _ 9 o.at_ _) .nil rfl gBM ?_ ?_
       ·
        rintro _ _ _ ⟨fb,h,rfl⟩ le1;cases h
        refine uAa ?_;refine zz3 ?_;unfold MI;rw[hok,hB];exact⟨fb,rfl,rfl⟩
       ·
        rintro _ _ _ ⟨_,h,_⟩;cases h
      ·
       refine zz8 ?_;refine bG 71 rfl (fun h71=>?_) (fun h71=>?_)
       ·
        refine zz7 ?_;refine aA (eR (n:=min u.length 48) Tryz.underlying9 rfl rfl gCC aH) rfl ?_;refine zz1 ?_;refine uAj ?_;rintro _ K _ ⟨rfl,rfl⟩ -;refine zz2 ?_;have hB:actB o s u=actC o s (Mach.actV o u):=gBL
        first
         |(exact bU (o.tag,u.take (min u.length 48)) gBP (.cons 0 rfl (.cons 4 rfl (.cons 6 rfl .nil))) rfl bO)
         |(exact bU (o.tag,u) gBT (.cons 0 rfl (.cons 4 rfl (.cons 6 rfl .nil))) rfl bO)
       ·
        refine zz2 ?_;have hB:actB o s u=actC o s (Mach.actV o u):=gBL
        first
         |(exact bU (o.tag,u.take (min u.length 48)) gBP (.cons 0 rfl (.cons 4 rfl (.cons 6 rfl .nil))) rfl bO)
         |(exact bU (o.tag,u) gBT (.cons 0 rfl (.cons 4 rfl (.cons 6 rfl .nil))) rfl bO)
     ·
      refine zz17 ?_;refine bG 71 rfl (fun h71=>?_) (fun h71=>?_)
      ·
       refine zz7 ?_;refine aA (eR (n:=min u.length 48) Tryz.underlying9 rfl rfl gCC aH) rfl ?_;refine zz1 ?_;refine uAj ?_;rintro _ K _ ⟨rfl,rfl⟩ -;refine zz2 ?_;have hB:actB o s u=actC o s (Mach.actV o u):=gBL
       first
        |(exact bU (o.tag,u.take (min u.length 48)) gBP (.cons 0 rfl (.cons 4 rfl (.cons 6 rfl .nil))) rfl bO)
        |(exact bU (o.tag,u) gBT (.cons 0 rfl (.cons 4 rfl (.cons 6 rfl .nil))) rfl bO)
      ·
       refine zz2 ?_;have hB:actB o s u=actC o s (Mach.actV o u):=gBL
       first
        |(exact bU (o.tag,u.take (min u.length 48)) gBP (.cons 0 rfl (.cons 4 rfl (.cons 6 rfl .nil))) rfl bO)
        |(exact bU (o.tag,u) gBT (.cons 0 rfl (.cons 4 rfl (.cons 6 rfl .nil))) rfl bO)
   ·
    intro a hok;refine zz6 ?_;refine uBc ?_;rintro _ K _ ⟨rfl,rfl⟩ -;refine zz4 ?_;refine t_draw (anc:=[0,1,3,7,15,0,63]) (ord:=[0,1,2,3,4,5,6]) [6] [6] mixed gBO (cX _) ?_;refine zz6 ?_;refine kS rfl (.none rfl) rfl rfl rfl (rO av s.acts a _ aH) (.cons (.there (.there .here)) .nil) rfl ?_;rintro _ K _ ⟨rfl,rfl,rfl⟩ -;refine zz2 ?_;refine bG 93 rfl (fun h93=>?_) (fun h93=>?_)
    ·
     refine zz2 ?_
     first
      |(refine aO (.cons (.there (.there .here)) (.cons .here (.cons (.there .here) (.cons (.there .here) .nil)))) ?_;refine eD (dU (m:=m) (hv:=hv) (pv:=pv) (nm:=nm) (s:={s with keep:=false})) ?_)
      |(refine aO (.cons (.there .here) (.cons (.there .here) (.cons (.there (.there .here)) (.cons (.there (.there .here)) .nil)))) ?_;refine eD (dU (m:=m) (hv:=hv) (pv:=pv) (nm:=nm) (s:={s with keep:=false,acts:=s.acts++[a]})) ?_)
     refine qR rfl (Hl.le_refl _) ?_;unfold MI;rw[hok];unfold actC
     first
      |exact gBE
      |exact gA9
    ·
     refine zz10 ?_;refine aA (bX (k:=dL) rfl Tryz.underlying29 rfl aN) rfl ?_;refine zz4 ?_;refine d6 (fun(i:Nat)=>i≤s.acts.length∧∀(j:Nat) (x:fT),j < i→s.acts[j]?=some x→¬(a.1=4∨x.1=4)) (fun i=>[(0,ptr b),(4,ptr b4),(6,ptr b6),(98,av),(99,i64 s.acts.length),(100,i64 i)]) (fun _=>K) (fun i=>[sl true dL av s.acts,pt b6 (aU [i64 a.1,str a.2] 34),mblk b (str m.from_) (str m.to_) (i64 m.size) hv av (.bool false) (.bool nm) (.map (some mb)) pv sv s.pc,sl false gF sv s.stack,pt mb (mapO (iK s.vars f) c),pt b4 (aU [i64 o.op,i64 o.n,i64 o.tag,.bool o.oct,.slice sa sn sc,.slice ta tn tc,i64 o.at_] 41)]) (fun i=>s.acts.length - i) 0 ⟨Nat.zero_le _,fun j x h _=>by omega⟩ (.cons 0 rfl (.cons 4 rfl (.cons 6 rfl (.cons 98 rfl (.cons 99 rfl (.cons 100 rfl .nil)))))) rfl (fun _ h=>h) ?_;intro i ⟨hi0,hi1⟩;refine zz6 ?_;refine bG 101 rfl (fun h101=>?_) (fun h101=>?_)
     ·
      have hilt:i < s.acts.length:=by omega
      obtain⟨x,hx⟩:∃x,s.acts[i]?=some x:=⟨s.acts[i]'hilt,List.getElem?_eq_getElem hilt⟩;refine zz6 ?_;refine aA (bQ (k:=dL) iW rfl aN rfl rfl gBR) rfl ?_;refine aA (fF (n:=0) (k:=dL) kN rfl aN bV) rfl ?_;refine zz1 ?_;rintro _ K _ ⟨b8,rfl,rfl,rfl⟩ -;refine bR (cM kN rfl rfl rfl bB gBK (.cons (.cons .nil)) gBU) ?_;rintro _ K _ ⟨rfl,rfl⟩ -;refine zz8 ?_;refine cF 107 rfl (fun g107=>?_) (fun g107=>?_)
      ·
       refine zz11 ?_;refine aX rfl rfl (iV _ 10 o.at_ _) .nil rfl gBM ?_ ?_
       ·
        rintro _ _ _ ⟨fb,h,rfl⟩ le1;cases h
        refine uAa ?_;refine zz6 ?_;have hco:∃b∈s.acts,a.1=4∨b.1=4:=⟨x,List.mem_of_getElem? hx,by omega⟩;unfold MI;rw[hok];unfold actC;rw[if_neg h93,if_pos hco]
        exact⟨fb,rfl,rfl⟩
       ·
        rintro _ _ _ ⟨_,h,_⟩;cases h
      ·
       refine zz9 ?_;refine bG 111 rfl (fun h111=>?_) (fun h111=>?_)
       ·
        refine zz4 ?_;refine aX rfl rfl (iV _ 10 o.at_ _) .nil rfl gBM ?_ ?_
        ·
         rintro _ _ _ ⟨fb,h,rfl⟩ le1;cases h
         refine uAa ?_;refine zz6 ?_;have hco:∃b∈s.acts,a.1=4∨b.1=4:=⟨x,List.mem_of_getElem? hx,by omega⟩;unfold MI;rw[hok];unfold actC;rw[if_neg h93,if_pos hco]
         exact⟨fb,rfl,rfl⟩
        ·
         rintro _ _ _ ⟨_,h,_⟩;cases h
       ·
        refine zz7 ?_;refine uBd ?_;refine cG (i+1) ⟨by omega,fun j y hj hy=>?_⟩ aH (.cons 0 rfl (.cons 4 rfl (.cons 6 rfl (.cons 98 rfl (.cons 99 rfl (.cons 100 rfl .nil)))))) rfl bO
        rcases Nat.lt_or_ge j i with h|h
        ·exact hi1 j y h hy
        ·have e:j=i:=by omega
         subst e;rw[hx]at hy;cases hy;intro hh;omega
     ·
      have hnc:¬ ∃b∈s.acts,a.1=4∨b.1=4:=gCB;refine zz13 ?_;refine aA (bX (k:=dL) rfl Tryz.underlying29 rfl aN) rfl ?_;refine zz3 ?_;refine bG 123 rfl (fun h123=>?_) (fun h123=>?_)
      ·
       refine zz4 ?_;refine aX rfl rfl (iV _ 11 o.at_ _) .nil rfl gBM ?_ ?_
       ·
        rintro _ _ _ ⟨fb,h,rfl⟩ le1;cases h
        refine uAa ?_;refine zz2 ?_;unfold MI;rw[hok];unfold actC;rw[if_neg h93,if_neg hnc,if_pos aH]
        exact⟨fb,rfl,rfl⟩
       ·
        rintro _ _ _ ⟨_,h,_⟩;cases h
      ·
       refine zz2 ?_;refine t_draw (anc:=[0,0,2,6,14,30,0,64,254,511,1023,2047,4095]) (ord:=[0,1,2,3,4,5,6,7,8,9,10,11,12]) [7,8,12] [12] mixed gBO (.cons (.there .here) (.cons (.there .here) .nil)) ?_;refine zz7 ?_;refine dl_s rfl rfl (.none rfl) rfl rfl (a6 (z0:=[.int .i64 0,(str [])]) iW tz34 rfl rfl rfl rfl (.cons rfl rfl rfl (.cons (.cons .nil)) .nil)) rfl ?_;rintro _ K _ ⟨b135,rfl,rfl,rfl⟩ -;refine⟨_,(show Tks _ _ _ from (.cons (.there .here) (.cons (.there .here) .nil))).sat,?_⟩
       refine dl_s rfl rfl (.none rfl) rfl rfl (dT (k:=dL) (ys:=[a]) nV rfl rfl (.there (.there (.there .here))) (fun w j=>dK Tryz.underlying29 (SeesSl.at (k:=dL) (.blk (.own (.there (.there .here))) rfl rfl) j)) gBV gBQ) rfl ?_;rintro v136 K _ ⟨rfl,rfl,ho136⟩ -;refine⟨_,(show Tks _ _ _ from (.cons (.there .here) (.cons (.there .here) .nil))).sat,?_⟩
       refine zz3 ?_;refine vL rfl rfl (.none rfl) rfl (bL ts29 rfl rfl cK bB (.succ (.succ (.succ (.succ .zero)))) rfl) ?_;rintro _ K _ ⟨rfl,rfl⟩ -;refine zz1 ?_
       first
        |(refine aO (.cons (.there (.there .here)) (.cons .here (.cons (.there .here) (.cons (.there .here) .nil)))) ?_;refine eD (dU (m:=m) (hv:=hv) (pv:=pv) (nm:=nm) (s:={s with keep:=false})) ?_)
        |(refine aO (.cons (.there .here) (.cons (.there .here) (.cons (.there (.there .here)) (.cons (.there (.there .here)) .nil)))) ?_;refine eD (dU (m:=m) (hv:=hv) (pv:=pv) (nm:=nm) (s:={s with keep:=false,acts:=s.acts++[a]})) ?_)
       refine zz1 ?_;unfold MI;rw[hok];unfold actC
       first
        |exact gBE
        |exact gA9
 ·
  refine zz8 ?_;refine cF 17 rfl (fun g17=>?_) (fun g17=>?_)
  ·
   refine zz10 ?_;refine cF 22 rfl (fun g22=>?_) (fun g22=>?_)
   ·
    refine zz5 ?_;refine uAf ?_;refine zz5 ?_;refine aX rfl rfl (oN (0 < (o.a.length:Int)) _ _ _ _ _ _ _ _ _ _ _ _ _) (.cons (.there .here) .nil) rfl (fun _ _=>a7 _ _) ?_ ?_
    ·
     rintro _ _ _ hTr le1;obtain⟨e,p,hu,fb,h,rfl⟩:=a8 hTr;cases h
     refine uAa ?_;refine zz2 ?_;have hbl:¬(0 < (o.a.length:Int)):=gB5;rw[if_neg hbl]at hu;cases hu
     have hno:=zS (nm:=nm) (s:=s) (o:=o) aH;unfold MI;rw[hno];exact⟨fb,rfl,rfl⟩
    rintro _ K _ hTr -;obtain⟨u0,hu,rfl,rfl,rfl⟩:=bA hTr;clear hTr;have hbl:0 < (o.a.length:Int):=Classical.byContradiction (fun h=>by rw[if_neg h]at hu;cases hu);have hcc:o.tag=1∨(2≤o.tag∧o.tag≤4∧0 < o.a.length):=.inr ⟨by omega,by omega,by omega⟩;refine zz6 ?_;refine uAu ?_;refine zz1 ?_;rintro _ K _ ⟨b6,rfl,rfl,rfl⟩ -;refine bR (cM kN rfl rfl rfl bB gBK (.cons (.cons .nil)) gBU) ?_;rintro _ K _ ⟨rfl,rfl⟩ -;refine zz2 ?_;refine gG (fun(u:List UInt8)=>u.length≤100000∧actI nm o s=actB o s u) (fun u=>[(0,ptr b),(4,ptr b4),(6,ptr b6)]) (fun _=>K) (fun u=>[pt b6 (aU [i64 o.tag,str u] 34),mblk b (str m.from_) (str m.to_) (i64 m.size) hv av (.bool s.keep) (.bool nm) (.map (some mb)) pv sv s.pc,sl true dL av s.acts,sl false gF sv s.stack,pt mb (mapO (iK s.vars f) c),pt b4 (aU [i64 o.op,i64 o.n,i64 o.tag,.bool o.oct,.slice sa sn sc,.slice ta tn tc,i64 o.at_] 41)]) ?_ ?_
    ·
     refine zz7 ?_;refine bG 35 rfl (fun h35=>?_) (fun h35=>?_)
     ·
      obtain⟨xa,hxa⟩:∃x,o.a[0]?=some x:=⟨o.a[0]'(by omega),List.getElem?_eq_getElem aH⟩;refine zz4 ?_;refine aA (bQ (k:=bC 9) (j:=0) bS rfl (.known ha) rfl rfl aH) rfl ?_;refine uAg ?_;refine aY rfl rfl (o6 b mb _ _ _ _ _ _ pv _ _ nm s.vars f c s.parts xa _ hg hpv (hs xa (List.mem_of_getElem? hxa)) hsm) (.cons (.there .here) (.cons (.there (.there (.there (.there .here)))) .nil)) rfl ?_;rintro _ K _ ⟨rfl,rfl,rfl⟩ -;refine zz1 ?_;refine uAj ?_;rintro _ K _ ⟨rfl,rfl⟩ -;refine aF ?_
      first
       |exact gAK
       |exact gAL
     ·
      refine aW ?_
      first
       |exact gAK
       |exact gAL
    ·
     intro u ⟨hul,hok⟩;refine gG (fun(a:fT)=>actI nm o s=actC o s a) (fun _=>[(0,ptr b),(4,ptr b4),(6,ptr b6)]) (fun _=>K) (fun a=>[pt b6 (aU [i64 a.1,str a.2] 34),mblk b (str m.from_) (str m.to_) (i64 m.size) hv av (.bool s.keep) (.bool nm) (.map (some mb)) pv sv s.pc,sl true dL av s.acts,sl false gF sv s.stack,pt mb (mapO (iK s.vars f) c),pt b4 (aU [i64 o.op,i64 o.n,i64 o.tag,.bool o.oct,.slice sa sn sc,.slice ta tn tc,i64 o.at_] 41)]) ?_ ?_
     ·
      refine zz7 ?_;refine cF 47 rfl (fun g47=>?_) (fun g47=>?_)
      ·
       refine zz5 ?_;refine cE rfl rfl (zY u _ aH) rfl ?_;refine zz1 ?_;refine aA gBN rfl ?_;refine zz4 ?_;refine d8 43 rfl (fun h43=>?_) (fun h43=>?_)
       ·
        have hB:actB o s u=.error (8,o.at_):=(by unfold actB;rw[if_pos ⟨g47,by simpa using h43⟩]);refine zz4 ?_;refine aX rfl rfl (iV _ 8 o.at_ _) .nil rfl gBM ?_ ?_
        ·
         rintro _ _ _ ⟨fb,h,rfl⟩ le1;cases h
         refine uAa ?_;refine zz3 ?_;unfold MI;rw[hok,hB];exact⟨fb,rfl,rfl⟩
        ·
         rintro _ _ _ ⟨_,h,_⟩;cases h
       ·
        refine zz6 ?_;refine cF 61 rfl (fun g61=>?_) (fun g61=>?_)
        ·
         refine zz5 ?_;refine cE rfl rfl (hadr u _ hg hul) rfl ?_;refine zz1 ?_;refine aA gBN rfl ?_;refine zz4 ?_;refine d8 57 rfl (fun h57=>?_) (fun h57=>?_)
         ·
          have hB:actB o s u=.error (9,o.at_):=gCA;refine zz4 ?_;refine aX rfl rfl (iV _ 9 o.at_ _) .nil rfl gBM ?_ ?_
          ·
           rintro _ _ _ ⟨fb,h,rfl⟩ le1;cases h
           refine uAa ?_;refine zz3 ?_;unfold MI;rw[hok,hB];exact⟨fb,rfl,rfl⟩
          ·
           rintro _ _ _ ⟨_,h,_⟩;cases h
         ·
          refine zz8 ?_;refine bG 71 rfl (fun h71=>?_) (fun h71=>?_)
          ·
           refine zz7 ?_;refine aA (eR (n:=min u.length 48) Tryz.underlying9 rfl rfl gCC aH) rfl ?_;refine zz1 ?_;refine uAj ?_;rintro _ K _ ⟨rfl,rfl⟩ -;refine zz2 ?_;have hB:actB o s u=actC o s (Mach.actV o u):=gBL
           first
            |(exact bU (o.tag,u.take (min u.length 48)) gBP (.cons 0 rfl (.cons 4 rfl (.cons 6 rfl .nil))) rfl bO)
            |(exact bU (o.tag,u) gBT (.cons 0 rfl (.cons 4 rfl (.cons 6 rfl .nil))) rfl bO)
          ·
           refine zz2 ?_;have hB:actB o s u=actC o s (Mach.actV o u):=gBL
           first
            |(exact bU (o.tag,u.take (min u.length 48)) gBP (.cons 0 rfl (.cons 4 rfl (.cons 6 rfl .nil))) rfl bO)
            |(exact bU (o.tag,u) gBT (.cons 0 rfl (.cons 4 rfl (.cons 6 rfl .nil))) rfl bO)
        ·
         refine zz17 ?_;refine bG 71 rfl (fun h71=>?_) (fun h71=>?_)
         ·
          refine zz7 ?_;refine aA (eR (n:=min u.length 48) Tryz.underlying9 rfl rfl gCC aH) rfl ?_;refine zz1 ?_;refine uAj ?_;rintro _ K _ ⟨rfl,rfl⟩ -;refine zz2 ?_;have hB:actB o s u=actC o s (Mach.actV o u):=gBL
          first
           |(exact bU (o.tag,u.take (min u.length 48)) gBP (.cons 0 rfl (.cons 4 rfl (.cons 6 rfl .nil))) rfl bO)
           |(exact bU (o.tag,u) gBT (.cons 0 rfl (.cons 4 rfl (.cons 6 rfl .nil))) rfl bO)
         ·
          refine zz2 ?_;have hB:actB o s u=actC o s (Mach.actV o u):=gBL
          first
           |(exact bU (o.tag,u.take (min u.length 48)) gBP (.cons 0 rfl (.cons 4 rfl (.cons 6 rfl .nil))) rfl bO)
           |(exact bU (o.tag,u) gBT (.cons 0 rfl (.cons 4 rfl (.cons 6 rfl .nil))) rfl bO)
      ·
       refine zz15 ?_;refine cF 61 rfl (fun g61=>?_) (fun g61=>?_)
       ·
        refine zz5 ?_;refine cE rfl rfl (hadr u _ hg hul) rfl ?_;refine zz1 ?_;refine aA gBN rfl ?_;refine zz4 ?_;refine d8 57 rfl (fun h57=>?_) (fun h57=>?_)
        ·
         have hB:actB o s u=.error (9,o.at_):=gCA;refine zz4 ?_;refine aX rfl rfl (iV _ 9 o.at_ _) .nil rfl gBM ?_ ?_
         ·
          rintro _ _ _ ⟨fb,h,rfl⟩ le1;cases h
          refine uAa ?_;refine zz3 ?_;unfold MI;rw[hok,hB];exact⟨fb,rfl,rfl⟩
         ·
          rintro _ _ _ ⟨_,h,_⟩;cases h
        ·
         refine zz8 ?_;refine bG 71 rfl (fun h71=>?_) (fun h71=>?_)
         ·
          refine zz7 ?_;refine aA (eR (n:=min u.length 48) Tryz.underlying9 rfl rfl gCC aH) rfl ?_;refine zz1 ?_;refine uAj ?_;rintro _ K _ ⟨rfl,rfl⟩ -;refine zz2 ?_;have hB:actB o s u=actC o s (Mach.actV o u):=gBL
          first
           |(exact bU (o.tag,u.take (min u.length 48)) gBP (.cons 0 rfl (.cons 4 rfl (.cons 6 rfl .nil))) rfl bO)
           |(exact bU (o.tag,u) gBT (.cons 0 rfl (.cons 4 rfl (.cons 6 rfl .nil))) rfl bO)
         ·
          refine zz2 ?_;have hB:actB o s u=actC o s (Mach.actV o u):=gBL
          first
           |(exact bU (o.tag,u.take (min u.length 48)) gBP (.cons 0 rfl (.cons 4 rfl (.cons 6 rfl .nil))) rfl bO)
           |(exact bU (o.tag,u) gBT (.cons 0 rfl (.cons 4 rfl (.cons 6 rfl .nil))) rfl bO)
       ·
        refine zz17 ?_;refine bG 71 rfl (fun h71=>?_) (fun h71=>?_)
        ·
         refine zz7 ?_;refine aA (eR (n:=min u.length 48) Tryz.underlying9 rfl rfl gCC aH) rfl ?_;refine zz1 ?_;refine uAj ?_;rintro _ K _ ⟨rfl,rfl⟩ -;refine zz2 ?_;have hB:actB o s u=actC o s (Mach.actV o u):=gBL
         first
          |(exact bU (o.tag,u.take (min u.length 48)) gBP (.cons 0 rfl (.cons 4 rfl (.cons 6 rfl .nil))) rfl bO)
          |(exact bU (o.tag,u) gBT (.cons 0 rfl (.cons 4 rfl (.cons 6 rfl .nil))) rfl bO)
        ·
         refine zz2 ?_;have hB:actB o s u=actC o s (Mach.actV o u):=gBL
         first
          |(exact bU (o.tag,u.take (min u.length 48)) gBP (.cons 0 rfl (.cons 4 rfl (.cons 6 rfl .nil))) rfl bO)
          |(exact bU (o.tag,u) gBT (.cons 0 rfl (.cons 4 rfl (.cons 6 rfl .nil))) rfl bO)
     ·
      intro a hok;refine zz6 ?_;refine uBc ?_;rintro _ K _ ⟨rfl,rfl⟩ -;refine zz4 ?_;refine t_draw (anc:=[0,1,3,7,15,0,63]) (ord:=[0,1,2,3,4,5,6]) [6] [6] mixed gBO (cX _) ?_;refine zz6 ?_;refine kS rfl (.none rfl) rfl rfl rfl (rO av s.acts a _ aH) (.cons (.there (.there .here)) .nil) rfl ?_;rintro _ K _ ⟨rfl,rfl,rfl⟩ -;refine zz2 ?_;refine bG 93 rfl (fun h93=>?_) (fun h93=>?_)
      ·
       refine zz2 ?_
       first
        |(refine aO (.cons (.there (.there .here)) (.cons .here (.cons (.there .here) (.cons (.there .here) .nil)))) ?_;refine eD (dU (m:=m) (hv:=hv) (pv:=pv) (nm:=nm) (s:={s with keep:=false})) ?_)
        |(refine aO (.cons (.there .here) (.cons (.there .here) (.cons (.there (.there .here)) (.cons (.there (.there .here)) .nil)))) ?_;refine eD (dU (m:=m) (hv:=hv) (pv:=pv) (nm:=nm) (s:={s with keep:=false,acts:=s.acts++[a]})) ?_)
       refine qR rfl (Hl.le_refl _) ?_;unfold MI;rw[hok];unfold actC
       first
        |exact gBE
        |exact gA9
      ·
       refine zz10 ?_;refine aA (bX (k:=dL) rfl Tryz.underlying29 rfl aN) rfl ?_;refine zz4 ?_;refine d6 (fun(i:Nat)=>i≤s.acts.length∧∀(j:Nat) (x:fT),j < i→s.acts[j]?=some x→¬(a.1=4∨x.1=4)) (fun i=>[(0,ptr b),(4,ptr b4),(6,ptr b6),(98,av),(99,i64 s.acts.length),(100,i64 i)]) (fun _=>K) (fun i=>[sl true dL av s.acts,pt b6 (aU [i64 a.1,str a.2] 34),mblk b (str m.from_) (str m.to_) (i64 m.size) hv av (.bool false) (.bool nm) (.map (some mb)) pv sv s.pc,sl false gF sv s.stack,pt mb (mapO (iK s.vars f) c),pt b4 (aU [i64 o.op,i64 o.n,i64 o.tag,.bool o.oct,.slice sa sn sc,.slice ta tn tc,i64 o.at_] 41)]) (fun i=>s.acts.length - i) 0 ⟨Nat.zero_le _,fun j x h _=>by omega⟩ (.cons 0 rfl (.cons 4 rfl (.cons 6 rfl (.cons 98 rfl (.cons 99 rfl (.cons 100 rfl .nil)))))) rfl (fun _ h=>h) ?_;intro i ⟨hi0,hi1⟩;refine zz6 ?_;refine bG 101 rfl (fun h101=>?_) (fun h101=>?_)
       ·
        have hilt:i < s.acts.length:=by omega
        obtain⟨x,hx⟩:∃x,s.acts[i]?=some x:=⟨s.acts[i]'hilt,List.getElem?_eq_getElem hilt⟩;refine zz6 ?_;refine aA (bQ (k:=dL) iW rfl aN rfl rfl gBR) rfl ?_;refine aA (fF (n:=0) (k:=dL) kN rfl aN bV) rfl ?_;refine zz1 ?_;rintro _ K _ ⟨b8,rfl,rfl,rfl⟩ -;refine bR (cM kN rfl rfl rfl bB gBK (.cons (.cons .nil)) gBU) ?_;rintro _ K _ ⟨rfl,rfl⟩ -;refine zz8 ?_;refine cF 107 rfl (fun g107=>?_) (fun g107=>?_)
        ·
         refine zz11 ?_;refine aX rfl rfl (iV _ 10 o.at_ _) .nil rfl gBM ?_ ?_
         ·
          rintro _ _ _ ⟨fb,h,rfl⟩ le1;cases h
          refine uAa ?_;refine zz6 ?_;have hco:∃b∈s.acts,a.1=4∨b.1=4:=⟨x,List.mem_of_getElem? hx,by omega⟩;unfold MI;rw[hok];unfold actC;rw[if_neg h93,if_pos hco]
          exact⟨fb,rfl,rfl⟩
         ·
          rintro _ _ _ ⟨_,h,_⟩;cases h
        ·
         refine zz9 ?_;refine bG 111 rfl (fun h111=>?_) (fun h111=>?_)
         ·
          refine zz4 ?_;refine aX rfl rfl (iV _ 10 o.at_ _) .nil rfl gBM ?_ ?_
          ·
           rintro _ _ _ ⟨fb,h,rfl⟩ le1;cases h
           refine uAa ?_;refine zz6 ?_;have hco:∃b∈s.acts,a.1=4∨b.1=4:=⟨x,List.mem_of_getElem? hx,by omega⟩;unfold MI;rw[hok];unfold actC;rw[if_neg h93,if_pos hco]
           exact⟨fb,rfl,rfl⟩
          ·
           rintro _ _ _ ⟨_,h,_⟩;cases h
         ·
          refine zz7 ?_;refine uBd ?_;refine cG (i+1) ⟨by omega,fun j y hj hy=>?_⟩ aH (.cons 0 rfl (.cons 4 rfl (.cons 6 rfl (.cons 98 rfl (.cons 99 rfl (.cons 100 rfl .nil)))))) rfl bO
          rcases Nat.lt_or_ge j i with h|h
          ·exact hi1 j y h hy
          ·have e:j=i:=by omega
           subst e;rw[hx]at hy;cases hy;intro hh;omega
       ·
        have hnc:¬ ∃b∈s.acts,a.1=4∨b.1=4:=gCB;refine zz13 ?_;refine aA (bX (k:=dL) rfl Tryz.underlying29 rfl aN) rfl ?_;refine zz3 ?_;refine bG 123 rfl (fun h123=>?_) (fun h123=>?_)
        ·
         refine zz4 ?_;refine aX rfl rfl (iV _ 11 o.at_ _) .nil rfl gBM ?_ ?_
         ·
          rintro _ _ _ ⟨fb,h,rfl⟩ le1;cases h
          refine uAa ?_;refine zz2 ?_;unfold MI;rw[hok];unfold actC;rw[if_neg h93,if_neg hnc,if_pos aH]
          exact⟨fb,rfl,rfl⟩
         ·
          rintro _ _ _ ⟨_,h,_⟩;cases h
        ·
         refine zz2 ?_;refine t_draw (anc:=[0,0,2,6,14,30,0,64,254,511,1023,2047,4095]) (ord:=[0,1,2,3,4,5,6,7,8,9,10,11,12]) [7,8,12] [12] mixed gBO (.cons (.there .here) (.cons (.there .here) .nil)) ?_;refine zz7 ?_;refine dl_s rfl rfl (.none rfl) rfl rfl (a6 (z0:=[.int .i64 0,(str [])]) iW tz34 rfl rfl rfl rfl (.cons rfl rfl rfl (.cons (.cons .nil)) .nil)) rfl ?_;rintro _ K _ ⟨b135,rfl,rfl,rfl⟩ -;refine⟨_,(show Tks _ _ _ from (.cons (.there .here) (.cons (.there .here) .nil))).sat,?_⟩
         refine dl_s rfl rfl (.none rfl) rfl rfl (dT (k:=dL) (ys:=[a]) nV rfl rfl (.there (.there (.there .here))) (fun w j=>dK Tryz.underlying29 (SeesSl.at (k:=dL) (.blk (.own (.there (.there .here))) rfl rfl) j)) gBV gBQ) rfl ?_;rintro v136 K _ ⟨rfl,rfl,ho136⟩ -;refine⟨_,(show Tks _ _ _ from (.cons (.there .here) (.cons (.there .here) .nil))).sat,?_⟩
         refine zz3 ?_;refine vL rfl rfl (.none rfl) rfl (bL ts29 rfl rfl cK bB (.succ (.succ (.succ (.succ .zero)))) rfl) ?_;rintro _ K _ ⟨rfl,rfl⟩ -;refine zz1 ?_
         first
          |(refine aO (.cons (.there (.there .here)) (.cons .here (.cons (.there .here) (.cons (.there .here) .nil)))) ?_;refine eD (dU (m:=m) (hv:=hv) (pv:=pv) (nm:=nm) (s:={s with keep:=false})) ?_)
          |(refine aO (.cons (.there .here) (.cons (.there .here) (.cons (.there (.there .here)) (.cons (.there (.there .here)) .nil)))) ?_;refine eD (dU (m:=m) (hv:=hv) (pv:=pv) (nm:=nm) (s:={s with keep:=false,acts:=s.acts++[a]})) ?_)
         refine zz1 ?_;unfold MI;rw[hok];unfold actC
         first
          |exact gBE
          |exact gA9
   ·
    have hno:=zS (nm:=nm) (s:=s) (o:=o) aH;refine zz7 ?_;refine aX rfl rfl (o9 _ _ _ _ _ _ _ _ _ _ _ _ _) (.cons (.there .here) .nil) rfl gBM ?_ ?_
    ·
     rintro _ _ _ ⟨fb,h,rfl⟩ le1;cases h
     refine uAa ?_;refine zz2 ?_;simp only[MI,hno,if_true,if_false,↓reduceIte];exact⟨fb,rfl,rfl⟩
    ·
     rintro _ _ _ ⟨_,h,_⟩;cases h
  ·
   have hno:=zS (nm:=nm) (s:=s) (o:=o) aH;refine zz14 ?_;refine aX rfl rfl (o9 _ _ _ _ _ _ _ _ _ _ _ _ _) (.cons (.there .here) .nil) rfl gBM ?_ ?_
   ·
    rintro _ _ _ ⟨fb,h,rfl⟩ le1;cases h
    refine uAa ?_;refine zz2 ?_;simp only[MI,hno,if_true,if_false,↓reduceIte];exact⟨fb,rfl,rfl⟩
   ·
    rintro _ _ _ ⟨_,h,_⟩;cases h
end Go.Proofs
end
section
namespace Go.SL.R
def Eff(P:Program)(o:Oper)(a:Act)(w:World)(Q:Post)(next:Value→World→Prop):Prop:=
 (∃u w',(execOp a.eval o).run P w=.ok (.value u) w'∧next u w')∨(∃w',(execOp a.eval o).run P w=.ok .skip w'∧next undef w')∨
 (∃ f args w1, (execOp a.eval o).run P w = .ok (.enter f args) w1 ∧ Calls P f args w1 fun e w' => match e with
  | .returned u=>next u w'
  | .panicked ch=>∀a',a'.defers=a.defers→Q (.panic ch) a' w'
  | .outgrown=>LetsOut Q)∨
 (∃ l f tmps assign body w1, (execOp a.eval o).run P w = .ok (.round l f tmps assign body) w1 ∧ RoundIn Fence.wide 0 P l f tmps assign body w1 fun e w' => match e with
  | .returned u=>next u w'
  | .panicked ch=>∀a',a'.defers=a.defers→Q (.panic ch) a' w'
  | .outgrown=>LetsOut Q)
theorem Eff.mono{P:Program}{o:Oper}{a:Act}{w:World}{Q:Post}{n n':Value→World→Prop}(h:Eff P o a w Q n)(k:∀u w',n u w'→n' u w'):Eff P o a w Q n':=by
 rcases h with ⟨u,w',h,hn⟩|⟨w',h,hn⟩|⟨f,args,w1,h,hc⟩|⟨l,f,t,x,y,w1,h,hc⟩
 ·exact .inl ⟨u,w',h,k _ _ hn⟩
 ·exact .inr (.inl ⟨w',h,k _ _ hn⟩)
 ·exact .inr (.inr (.inl ⟨f,args,w1,h,hc.mono fun e w' q=>by cases e <;> first|exact k _ _ q|exact q⟩))
 ·exact .inr (.inr (.inr ⟨l,f,t,x,y,w1,h,hc.mono fun e w' q=>by cases e <;> first|exact k _ _ q|exact q⟩))
theorem Eff.congr{P:Program}{o:Oper}{a a':Act}{w:World}{Q:Post}{n:Value→World→Prop}(h:Eff P o a w Q n)(he:execOp a'.eval o=execOp a.eval o)(hd:a'.defers=a.defers):Eff P o a' w Q n:=by
 unfold Eff at*;rw[he,hd];exact h
theorem aIH(ρ:Operand→Value)(o:Oper):o.semAt Fence.wide.round ρ=execOp ρ o:=rfl
theorem Eff.wp{P:Program}{o:Oper}{a:Act}{w:World}{Q:Post}{n:Value→World→Prop}{K:Act→World→Prop}(h:Eff P o a w Q n)(k:∀u w',n u w'→K (a.put o.dst u) w'):o.wpIn Fence.wide 0 P a w K Q:=by
 refine⟨fun _ _=>trivial,?_⟩
 rw[aIH];have hd:Fence.wide.depth.isSome=true→1≤0:=fun h=>by cases h
 rcases h with ⟨u,w',h,hn⟩|⟨w',h,hn⟩|⟨f,args,w1,h,hc⟩|⟨l,f,t,x,y,w1,h,hc⟩
 ·rw[h];exact k _ _ hn
 ·rw[h];exact k _ _ hn
 ·rw[h];refine⟨hd,callsIn_wide.2 (hc.mono fun e w' q=>?_)⟩
  cases e with
  |returned u=>exact k _ _ q
  |panicked ch=>exact q _ rfl
  |outgrown=>exact q
 ·rw[h];refine⟨hd,hc.mono fun e w' q=>?_⟩
  cases e with
  |returned u=>exact k _ _ q
  |panicked ch=>exact q _ rfl
  |outgrown=>exact q
def DX(E:Env)(ops:Array Oper)(eff stg:List Nat)(Q:Post):List Nat→List Asn→Hl→List Asn→Act→Prop
 | [],S,K,M,a=>∀w,In E.w0 E.F K (S++M) w→Q .normal a w
 |i::r,S,K,M,a=>
  match ops[i]? with
  |none=>False
  |some o=>
   if Region.wanted o (yielded ops a.tmps)then
    if stg.contains i then
     ∀w,In E.w0 E.F K (S++M) w→Eff E.P o a w Q fun u w'=>∃K' S' M',K.le K'∧In E.w0 E.F K' (S'++M') w'∧DX E ops eff stg Q r S' K' M' (a.put o.dst u)
    else if eff.contains i then
     ∀w,In E.w0 E.F K (S++M) w→Eff E.P o a w Q fun u w'=>∃K' M',K.le K'∧In E.w0 E.F K' (S++M') w'∧DX E ops eff stg Q r S K' M' (a.put o.dst u)
    else ∃v,(∀K' M' w,K.le K'→In E.w0 E.F K' (S++M') w→(execOp a.eval o).run E.P w=.ok (.value v) w)∧DX E ops eff stg Q r S K M (a.put o.dst v)
   else DX E ops eff stg Q r S K M (a.put o.dst undef)
def pW(o:Oper):Bool:=match o.op with| .select _ _=>false|_=>true
theorem oP{o:Oper}(h:pW o=true):∀cs b,o.op≠.select cs b:=by
 intro cs b e;simp[pW,e]at h
theorem sH(a:Act)(x:Option Tmp)(v:Value):(a.put x v).defers=a.defers:=by cases x <;> rfl
theorem aEP{E:Env}{ops:Array Oper}{eff stg:List Nat}{S:List Asn}{Q:Post}{x i:Nat}{r:List Nat}{K:Hl}{M:List Asn}{a:Act}{ox oi:Oper}
  (hx:ops[x]?=some ox) (hi:ops[i]?=some oi) (hap:ox.apart ops oi=true) (hsx:pW ox=true) (hsi:pW oi=true) (hne:eff.contains x=false) (hnx:stg.contains x=false) (hni:stg.contains i=false)
  (h:DX E ops eff stg Q (x::i::r) S K M a):DX E ops eff stg Q (i::x::r) S K M a:=by
 obtain⟨h1,h2,h3⟩:=Oper.apart_spec hap;have sx:=oP hsx;have si:=oP hsi;have goX:∀(v u:Value),((a.put ox.dst v).put oi.dst u)=((a.put oi.dst u).put ox.dst v):=fun v u=>Act.put_comm a v u h2
 have wx:∀(u:Value),Region.wanted ox (yielded ops (a.put oi.dst u).tmps)=Region.wanted ox (yielded ops a.tmps):=fun u=>wanted_put ox a oi.dst u h3
 have wi:∀(u:Value),Region.wanted oi (yielded ops (a.put ox.dst u).tmps)=Region.wanted oi (yielded ops a.tmps):=fun u=>wanted_put oi a ox.dst u h1
 have ex:∀(u:Value),execOp (a.put oi.dst u).eval ox=execOp a.eval ox:=fun u=>execOp_put ox sx a oi.dst u h3
 have ei:∀(u:Value),execOp (a.put ox.dst u).eval oi=execOp a.eval oi:=fun u=>execOp_put oi si a ox.dst u h1
 simp only[DX,hx,hi,hne,hnx,hni,Bool.false_eq_true,if_false]at h ⊢
 by_cases cx:Region.wanted ox (yielded ops a.tmps)=true
 ·simp only[cx,if_true]at h;obtain⟨v,hv,h⟩:=h;rw[wi v]at h;have back:∀(u:Value) (K':Hl) (M':List Asn),K.le K'→DX E ops eff stg Q r S K' M' ((a.put ox.dst v).put oi.dst u)→
    (if Region.wanted ox (yielded ops (a.put oi.dst u).tmps) = true then
     ∃v,(∀K'' M'' w,K'.le K''→In E.w0 E.F K'' (S++M'') w→(execOp (a.put oi.dst u).eval ox).run E.P w=.ok (.value v) w)∧DX E ops eff stg Q r S K' M' ((a.put oi.dst u).put ox.dst v)
     else DX E ops eff stg Q r S K' M' ((a.put oi.dst u).put ox.dst undef)):=by
   intro u K' M' le hr;rw[wx u,if_pos cx];refine⟨v,fun K'' M'' w le' j=>?_,?_⟩
   ·rw[ex u];exact hv K'' M'' w (Hl.le_trans le le') j
   ·rw[←goX];exact hr
  by_cases ci:Region.wanted oi (yielded ops a.tmps)=true
  ·simp only[ci,if_true]at h ⊢
   by_cases ce:eff.contains i=true
   ·simp only[ce,if_true]at h ⊢;intro w j;refine((h w j).congr (ei v).symm (sH _ _ _).symm).mono fun u w' ⟨K',M',le,j',hr⟩=>⟨K',M',le,j',back u K' M' le hr⟩
   ·simp only[ce,Bool.false_eq_true,if_false]at h ⊢;obtain⟨u,hu,hr⟩:=h;refine⟨u,fun K' M' w le j=>?_,back u K M (Hl.le_refl _) hr⟩
    have:=hu K' M' w le j
    rwa [ei v]at this
  ·simp only[ci,if_false,Bool.false_eq_true]at h ⊢;exact back undef K M (Hl.le_refl _) h
 ·simp only[cx,if_false,Bool.false_eq_true]at h;rw[wi undef]at h;have back:∀(u:Value) (K':Hl) (M':List Asn),K.le K'→DX E ops eff stg Q r S K' M' ((a.put ox.dst undef).put oi.dst u)→
    (if Region.wanted ox (yielded ops (a.put oi.dst u).tmps) = true then
     ∃v,(∀K'' M'' w,K'.le K''→In E.w0 E.F K'' (S++M'') w→(execOp (a.put oi.dst u).eval ox).run E.P w=.ok (.value v) w)∧DX E ops eff stg Q r S K' M' ((a.put oi.dst u).put ox.dst v)
     else DX E ops eff stg Q r S K' M' ((a.put oi.dst u).put ox.dst undef)):=by
   intro u K' M' le hr;rw[wx u,if_neg cx,←goX];exact hr
  by_cases ci:Region.wanted oi (yielded ops a.tmps)=true
  ·simp only[ci,if_true]at h ⊢
   by_cases ce:eff.contains i=true
   ·simp only[ce,if_true]at h ⊢;intro w j;refine((h w j).congr (ei undef).symm (sH _ _ _).symm).mono fun u w' ⟨K',M',le,j',hr⟩=>⟨K',M',le,j',back u K' M' le hr⟩
   ·simp only[ce,Bool.false_eq_true,if_false]at h ⊢;obtain⟨u,hu,hr⟩:=h;refine⟨u,fun K' M' w le j=>?_,back u K M (Hl.le_refl _) hr⟩
    have:=hu K' M' w le j
    rwa [ei undef]at this
  ·simp only[ci,if_false,Bool.false_eq_true]at h ⊢;exact back undef K M (Hl.le_refl _) h
def sS(ops:Array Oper)(eff stg:List Nat)(x i:Nat):Bool:=
 match ops[x]?,ops[i]? with
 |some ox,some oi=>!stg.contains x&&!stg.contains i&&!eff.contains x&&ox.apart ops oi&&pW ox&&pW oi
 |_,_=>false
theorem qS{E:Env}{ops:Array Oper}{eff stg:List Nat}{S:List Asn}{Q:Post}{x:Nat}{r r':List Nat}(k:∀S K M a,DX E ops eff stg Q r S K M a→DX E ops eff stg Q r' S K M a){K:Hl}{M:List Asn}{a:Act}
  (h:DX E ops eff stg Q (x::r) S K M a):DX E ops eff stg Q (x::r') S K M a:=by
 unfold DX at h ⊢;cases hx:ops[x]? with
 |none=>simp[hx]at h
 |some o=>
  simp only[hx]at h ⊢;split
  ·rename_i c;rw[if_pos c]at h;split
   ·rename_i c0;rw[if_pos c0]at h;exact fun w j=>(h w j).mono fun u w' ⟨K',S',M',le,j',hr⟩=>⟨K',S',M',le,j',k _ _ _ _ hr⟩
   ·rename_i c0;rw[if_neg c0]at h;split
    ·rename_i c';rw[if_pos c']at h;exact fun w j=>(h w j).mono fun u w' ⟨K',M',le,j',hr⟩=>⟨K',M',le,j',k _ _ _ _ hr⟩
    ·rename_i c';rw[if_neg c']at h;obtain⟨v,hv,hr⟩:=h;exact⟨v,hv,k _ _ _ _ hr⟩
  ·rename_i c;rw[if_neg c]at h;exact k _ _ _ _ h
theorem rV{E:Env}{ops:Array Oper}{eff stg:List Nat}{Q:Post}{i:Nat}{r2:List Nat}:∀(r1:List Nat) {S:List Asn} {K:Hl} {M:List Asn} {a:Act},
  (∀x∈r1,sS ops eff stg x i=true)→DX E ops eff stg Q (r1++i::r2) S K M a→DX E ops eff stg Q (i::(r1++r2)) S K M a
 | [],_,_,_,_,_,h=>h
 |x::r1,S,K,M,a,hs,h=>by
  have h1:DX E ops eff stg Q (x::i::(r1++r2)) S K M a:=qS (fun _ _ _ _=>rV r1 fun y hy=>hs y (List.mem_cons_of_mem _ hy)) h;have hb:=hs x (List.mem_cons_self ..);unfold sS at hb;cases hx:ops[x]? with
  |none=>simp[hx]at hb
  |some ox=>
   cases hi:ops[i]? with
   |none=>simp[hx,hi]at hb
   |some oi=>
    simp only[hx,hi,Bool.and_eq_true,Bool.not_eq_true']at hb;exact aEP hx hi hb.1.1.2 hb.1.2 hb.2 hb.1.1.1.2 hb.1.1.1.1.1 hb.1.1.1.1.2 h1
def upto(anc:List Nat):List Edge→Nat
 | []=>0
 |e::es=>if Region.binds .any e then (2 ^ e.on|||anc.getD e.on 0)|||upto anc es else upto anc es
def pR(anc:List Nat):List Oper→Nat→Bool
 | [],_=>true
 |o::os,i=>(o.after.toList.all fun e=>!Region.binds .any e||Nat.blt e.on i)&&((anc.getD i 0|||upto anc o.after.toList)==upto anc o.after.toList)&&pR anc os (i+1)
def pwB(ops:Array Oper)(eff stg anc:List Nat):List Nat→Bool
 | []=>true
 |x::r=>(r.all fun i=>(anc.getD i 0).testBit x||sS ops eff stg x i)&&!r.contains x&&pwB ops eff stg anc r
def aBB(l:List Oper)(eff stg anc ord:List Nat):Bool:=
 pR anc l 0&&pwB l.toArray eff stg anc ord&&(List.range l.length).all ord.contains&&ord.all (Nat.blt · l.length)&&Nat.beq ord.length l.length
theorem o1{anc:List Nat}{x:Nat}:∀ {es:List Edge},(upto anc es).testBit x=true→∃e∈es,Region.binds .any e=true∧(x=e.on∨(anc.getD e.on 0).testBit x=true)
 | [],h=>by simp[upto]at h
 |e::es,h=>by
  unfold upto at h;split at h
  ·rename_i hb;rw[Nat.testBit_or,Nat.testBit_or]at h;simp only[Bool.or_eq_true,Nat.testBit_two_pow,decide_eq_true_eq]at h;rcases h with (h|h)|h
   ·exact⟨e,List.mem_cons_self ..,hb,.inl h.symm⟩
   ·exact⟨e,List.mem_cons_self ..,hb,.inr h⟩
   ·obtain⟨e',he,h'⟩:=o1 h;exact⟨e',List.mem_cons_of_mem _ he,h'⟩
  ·obtain⟨e',he,h'⟩:=o1 h;exact⟨e',List.mem_cons_of_mem _ he,h'⟩
theorem oC{anc:List Nat}:∀ {os:List Oper} {j:Nat},pR anc os j=true→∀ {i:Nat} {o:Oper},os[i]?=some o→
  (∀e∈o.after.toList,Region.binds .any e=true→e.on < j+i)∧∀x,(anc.getD (j+i) 0).testBit x=true→(upto anc o.after.toList).testBit x=true
 | [],_,_,_,_,h=>by simp at h
 |o::os,j,h,i,o',ho=>by
  simp only[pR,Bool.and_eq_true,List.all_eq_true,Bool.or_eq_true,Bool.not_eq_true',beq_iff_eq]at h;obtain⟨⟨h1,h2⟩,h3⟩:=h;cases i with
  |zero=>
   simp at ho;subst ho
   refine⟨fun e he hb=>?_,fun x hx=>?_⟩
   ·rcases h1 e he with q|q
    ·rw[hb]at q;cases q
    ·simp[Nat.blt]at q;omega
   ·rw[←h2,Nat.testBit_or];simp only[Nat.add_zero]at hx;rw[hx];rfl
  |succ i=>
   have:=oC (j:=j+1) h3 (i:=i) (o:=o') (by simpa using ho);have e:j+(i+1)=j+1+i:=by omega
   rw[e];exact this
def Down(ops:Array Oper)(listed:Array Bool):Prop:=
 ∀(i:Nat) (o:Oper),listed.getD i true=true→ops[i]?=some o→∀e∈o.after.toList,Region.binds .any e=true→listed.getD e.on false=true
theorem mO{ops:Array Oper}{listed:Array Bool}{i:Nat}:i∈Region.ready .any ops listed↔
  i < ops.size∧listed.getD i true=false∧∃o,ops[i]?=some o∧∀e∈o.after.toList,Region.binds .any e=true→listed.getD e.on false=true:=by
 unfold Region.ready;simp only[List.mem_filter,List.mem_range,Bool.and_eq_true,Bool.not_eq_true']
 constructor
 ·rintro⟨h1,h2,h3⟩;refine⟨h1,h2,?_⟩
  cases ho:ops[i]? with
  |none=>simp[ho]at h3
  |some o=>
   refine⟨o,rfl,fun e he hb=>?_⟩
   simp only[ho,Option.map_some,Option.getD_some,Array.all_eq_true_iff_forall_mem]at h3;have:=h3 e (by simpa using he)
   simpa[hb]using this
 ·rintro⟨h1,h2,o,ho,h3⟩;refine⟨h1,h2,?_⟩
  simp only[ho,Option.map_some,Option.getD_some,Array.all_eq_true_iff_forall_mem];intro e he
  by_cases hb:Region.binds .any e=true
  ·simp[hb,h3 e (by simpa using he) hb]
  ·simp[hb]
theorem uD{l:List Oper}{anc:List Nat}(hA:pR anc l 0=true){listed:Array Bool}(hsz:listed.size=l.length)(hd:Down l.toArray listed){i:Nat}{o:Oper}(ho:l[i]?=some o)
  (hr:∀e∈o.after.toList,Region.binds .any e=true→listed.getD e.on false=true) {x:Nat} (hx:(anc.getD i 0).testBit x=true):listed.getD x false=true:=by
 have key:∀(n i:Nat) (o:Oper),i=n→l[i]?=some o→(∀e∈o.after.toList,Region.binds .any e=true→listed.getD e.on false=true)→(anc.getD i 0).testBit x=true→listed.getD x false=true:=by
  intro n;induction n using Nat.strongRecOn with
  |_ n ih=>
   rintro i o rfl ho hr hx;obtain⟨h1,h2⟩:=oC hA ho;simp only[Nat.zero_add]at h1 h2;obtain⟨e,he,hb,hxe⟩:=o1 (h2 x hx);rcases hxe with rfl|hxe
   ·exact hr e he hb
   ·have hlt:=h1 e he hb;have hil:i < l.length:=by
     rcases Nat.lt_or_ge i l.length with h|h
     ·exact h
     ·simp[List.getElem?_eq_none h]at ho
    have hel:l[e.on]?=some l[e.on]:=by simp[List.getElem?_eq_getElem (Nat.lt_trans hlt hil)]
    have hle:=hr e he hb;refine ih e.on hlt e.on l[e.on] rfl hel ?_ hxe
    refine hd e.on l[e.on] ?_ (by simp[Array.getElem?_eq_getElem,Nat.lt_trans hlt hil])
    rw[Array.getD_eq_getD_getElem?]at hle ⊢;have:e.on < listed.size:=by rw[hsz];exact Nat.lt_trans hlt hil
    simpa[Array.getElem?_eq_getElem this]using hle
 exact key i i o rfl ho hr hx
theorem pY{ops:Array Oper}{eff stg anc:List Nat}:∀ {r:List Nat},pwB ops eff stg anc r=true→r.Nodup∧∀(r1:List Nat) (i:Nat) (r2:List Nat),r=r1++i::r2→∀x∈r1,(anc.getD i 0).testBit x=true∨sS ops eff stg x i=true
 | [],_=>⟨List.nodup_nil,fun r1 i r2 e=>by simp at e⟩
 |y::r,h=>by
  simp only[pwB,Bool.and_eq_true,List.all_eq_true,Bool.or_eq_true,Bool.not_eq_true']at h;obtain⟨⟨h1,h2⟩,h3⟩:=h;obtain⟨n,q⟩:=pY h3;refine⟨List.nodup_cons.2 ⟨by simpa using h2,n⟩,?_⟩
  intro r1 i r2 e x hx;cases r1 with
  |nil=>simp at hx
  |cons z r1=>
   simp only[List.cons_append,List.cons.injEq]at e;obtain⟨rfl,rfl⟩:=e;rcases List.mem_cons.1 hx with rfl|hx
   ·exact h1 i (by simp)
   ·exact q r1 i r2 rfl x hx
theorem oR{ops:Array Oper}{eff stg anc:List Nat}(p:Nat→Bool):∀ {r:List Nat},pwB ops eff stg anc r=true→pwB ops eff stg anc (r.filter p)=true
 | [],_=>rfl
 |y::r,h=>by
  simp only[pwB,Bool.and_eq_true,List.all_eq_true,Bool.or_eq_true,Bool.not_eq_true']at h;obtain⟨⟨h1,h2⟩,h3⟩:=h;have ih:=oR p h3;simp only[List.filter_cons];split
  ·simp only[pwB,Bool.and_eq_true,List.all_eq_true,Bool.or_eq_true,Bool.not_eq_true',ih,and_true];refine⟨fun i hi=>h1 i (List.mem_filter.1 hi).1,?_⟩
   simp at h2 ⊢;exact fun h=>absurd h h2
  ·exact ih
theorem aCG{E:Env}{l:List Oper}{eff stg anc ord:List Nat}{Q:Post}(hA:pR anc l 0=true)(hP:pwB l.toArray eff stg anc ord=true)(hcov:∀i,i < l.length→i∈ord)(hin:∀i∈ord,i < l.length):
  ∀(fuel:Nat) (listed:Array Bool) (r:List Nat) (S:List Asn) (K:Hl) (M:List Asn) (a:Act) (w:World),listed.size=l.length→r=ord.filter (fun i=>!listed.getD i true)→fuel=r.length→Down l.toArray listed→
   DX E l.toArray eff stg Q r S K M a→In E.w0 E.F K (S++M) w→wpAnyIn Fence.wide 0 E.P .any l.toArray Q fuel listed a w:=by
 intro fuel;induction fuel with
 |zero=>
  intro listed r S K M a w hsz hr hf hd h j;have hr0:r=[]:=List.length_eq_zero_iff.1 hf.symm;subst hr0;have hall:∀i,i < l.length→listed.getD i true=true:=by
   intro i hi;cases hb:listed.getD i true with
   |true=>rfl
   |false=>
    have:i∈ord.filter (fun i=>!listed.getD i true):=List.mem_filter.2 ⟨hcov i hi,by rw[hb];rfl⟩;rw[←hr]at this;simp at this
  refine⟨?_,h w j⟩
  refine List.eq_nil_iff_forall_not_mem.2 fun i hi=>?_
  obtain⟨h1,h2,_⟩:=mO.1 hi;rw[hall i (by simpa using h1)]at h2;cases h2
 |succ fuel ih=>
  intro listed r S K M a w hsz hr hf hd h j;have hne:r≠[]:=by rintro rfl;simp at hf
  refine⟨fun h0=>?_,fun i hi=>?_⟩
  ·
   exfalso
   have key:∀(n i:Nat),i=n→i < l.length→listed.getD i true=false→False:=by
    intro n;induction n using Nat.strongRecOn with
    |_ n ihn=>
     rintro i rfl hil hb;have hi:i∈Region.ready .any l.toArray listed:=by
      refine mO.2 ⟨by simpa using hil,hb,l[i],by simp[List.getElem?_eq_getElem hil],fun e he hbd=>?_⟩
      have hlt:=(oC hA (i:=i) (o:=l[i]) (by simp[List.getElem?_eq_getElem hil])).1 e he hbd;simp only[Nat.zero_add]at hlt;have hel:e.on < listed.size:=by rw[hsz];exact Nat.lt_trans hlt hil
      cases hc:listed.getD e.on true with
      |false=>exact absurd hc (fun hc=>ihn e.on hlt e.on rfl (Nat.lt_trans hlt hil) hc)
      |true=>
       rw[Array.getD_eq_getD_getElem?]at hc ⊢
       simpa[Array.getElem?_eq_getElem hel]using hc
     rw[h0]at hi;simp at hi
   obtain⟨i,hi⟩:=List.exists_mem_of_ne_nil r hne;rw[hr]at hi;obtain⟨h1,h2⟩:=List.mem_filter.1 hi;exact key i i rfl (hin i h1) (by simpa using h2)
  ·obtain⟨h1,h2,o,ho,h3⟩:=mO.1 hi;have hil:i < l.length:=by simpa using h1
   have hol:l[i]?=some o:=by simpa using ho
   have hmem:i∈r:=by rw[hr];exact List.mem_filter.2 ⟨hcov i hil,by rw[h2];rfl⟩
   obtain⟨r1,r2,hsplit⟩:=List.append_of_mem hmem;have hPr:pwB l.toArray eff stg anc r=true:=by rw[hr];exact oR _ hP
   obtain⟨hnd,hq⟩:=pY hPr;have hsw:∀x∈r1,sS l.toArray eff stg x i=true:=by
    intro x hx;rcases hq r1 i r2 hsplit x hx with hb|hb
    ·exfalso
     have hxl:=uD hA hsz hd hol h3 hb;have hxr:x∈r:=by rw[hsplit];simp[hx]
     rw[hr]at hxr;obtain⟨hxo,hxn⟩:=List.mem_filter.1 hxr;have hxs:x < listed.size:=by rw[hsz];exact hin x hxo
     rw[Array.getD_eq_getD_getElem?]at hxl;simp[Array.getElem?_eq_getElem hxs]at hxl hxn;rw[hxl]at hxn;cases hxn
    ·exact hb
   rw[hsplit]at h;have hfront:=rV r1 hsw h;have his:i < listed.size:=by rw[hsz];exact hil
   have hr':r1++r2=ord.filter (fun k=>!(listed.setIfInBounds i true).getD k true):=by
    have hset:∀k,(listed.setIfInBounds i true).getD k true=(if k=i then true else listed.getD k true):=by
     intro k;rw[Array.getD_eq_getD_getElem?,Array.getD_eq_getD_getElem?,Array.getElem?_setIfInBounds]
     by_cases hk:i=k
     ·subst hk;simp[his]
     ·simp[hk,Ne.symm hk]
    have e1:ord.filter (fun k=>!(listed.setIfInBounds i true).getD k true)=r.filter (fun k=>k !=i):=by
     rw[hr,List.filter_filter];refine List.filter_congr fun k _=>?_
     rw[hset k]
     by_cases hk:k=i
     ·subst hk;simp
     ·simp[hk]
    rw[e1,hsplit,List.filter_append,List.filter_cons];rw[hsplit]at hnd;have hn:=List.nodup_append.1 hnd;have hn2:=List.nodup_cons.1 hn.2.1;simp only[bne_self_eq_false,Bool.false_eq_true,if_false];rw[List.filter_eq_self.2,List.filter_eq_self.2]
    ·intro k hk;simp only[bne_iff_ne];rintro rfl;exact hn2.1 hk
    ·intro k hk;simp only[bne_iff_ne];rintro rfl;exact hn.2.2 k hk k (List.mem_cons_self ..) rfl
   have hd':Down l.toArray (listed.setIfInBounds i true):=by
    intro k ok hk hok e he hb;have up:listed.getD e.on false=true→(listed.setIfInBounds i true).getD e.on false=true:=by
     intro q;rw[Array.getD_eq_getD_getElem?]at q ⊢;rw[Array.getElem?_setIfInBounds]
     by_cases hk:i=e.on
     ·subst hk;simp[his]
     ·simpa[hk]using q
    by_cases hki:k=i
    ·subst hki;rw[ho]at hok;cases hok
     exact up (h3 e he hb)
    ·refine up (hd k ok ?_ hok e he hb)
     rw[Array.getD_eq_getD_getElem?]at hk ⊢;rw[Array.getElem?_setIfInBounds,if_neg (Ne.symm hki)]at hk;exact hk
   have hlen:fuel=(r1++r2).length:=by
    have:=congrArg List.length hsplit;simp at this hf ⊢;omega
   have step:∀S' K' M' a' w',DX E l.toArray eff stg Q (r1++r2) S' K' M' a'→In E.w0 E.F K' (S'++M') w'→wpAnyIn Fence.wide 0 E.P .any l.toArray Q fuel (listed.setIfInBounds i true) a' w':=
    fun S' K' M' a' w' hdx j'=>ih _ (r1++r2) S' K' M' a' w' (by simp[hsz]) hr' hlen hd' hdx j'
   unfold wpOpIn;simp only[ho];unfold DX at hfront;simp only[ho]at hfront
   by_cases hw:Region.wanted o (yielded l.toArray a.tmps)=true
   ·simp only[hw,if_true]at hfront ⊢
    by_cases hg:stg.contains i=true
    ·simp only[hg,if_true]at hfront;exact((hfront w j).wp fun u w' ⟨K',S',M',le,j',hr⟩=>step S' K' M' _ w' hr j')
    simp only[hg,if_false,Bool.false_eq_true]at hfront
    by_cases he:eff.contains i=true
    ·simp only[he,if_true]at hfront;exact((hfront w j).wp fun u w' ⟨K',M',le,j',hr⟩=>step S K' M' _ w' hr j')
    ·simp only[he,if_false,Bool.false_eq_true]at hfront;obtain⟨v,hv,hr⟩:=hfront;refine⟨fun _ _=>trivial,?_⟩
     rw[aIH,hv K M w (Hl.le_refl _) j];exact step S K M _ w hr j
   ·simp only[hw,if_false,Bool.false_eq_true]at hfront ⊢;exact⟨fun _ _=>trivial,step S K M _ w hfront j⟩
theorem uF{E:Env}{l:List Oper}{eff stg anc ord:List Nat}{S M:List Asn}{Q:Post}{id:Nat}{K:Hl}{a:Act}{w:World}(hm:E.P.follows .mixedOrders=true)(hok:aBB l eff stg anc ord=true)
  (h:DX E l.toArray eff stg Q ord S K M a) (j:In E.w0 E.F K (S++M) w):(Code.region id l.toArray true).wp E.P Q a w:=by
 simp only[aBB,Bool.and_eq_true,List.all_eq_true]at hok;obtain⟨⟨⟨⟨hA,hP⟩,hcov⟩,hin⟩,hle⟩:=hok;refine wpIn_wide.1 (wpIn_region_any (n:=0) hm ?_)
 have hfil:ord.filter (fun i=>!(Array.replicate l.toArray.size false).getD i true)=ord:=by
  refine List.filter_eq_self.2 fun i hi=>?_
  have:i < l.length:=by have:=hin i hi;simp[Nat.blt]at this;omega
  rw[Array.getD_eq_getD_getElem?];simp[this]
 have hlen:ord.length=l.toArray.size:=by simpa using Nat.eq_of_beq_eq_true hle
 refine aCG (E:=E) (eff:=eff) (stg:=stg) (anc:=anc) (ord:=ord) hA hP (fun i hi=>by have:=hcov i (List.mem_range.2 hi);simpa using this) (fun i hi=>by have:=hin i hi;simp[Nat.blt]at this;omega) l.toArray.size _ ord S K M a _ (by simp) hfil.symm hlen.symm ?_ h (j.drew _)
 intro k ok hk hok;rw[Array.getD_eq_getD_getElem?]at hk;have:k < l.toArray.size:=by
  rcases Nat.lt_or_ge k l.toArray.size with h|h
  ·exact h
  ·rw[Array.getElem?_eq_none h]at hok;cases hok
 simp at this;simp[this]at hk
theorem aO{E:Env}{x:Exit}{fr:Fr}{K:Hl}{As L M:List Asn}{Q:Post}(hL:Tks As L M)(h:D E x fr K As Q):D E x fr K L Q:=fun a w f i=>h a w f (i.imp hL.sat).left
theorem aIW{E:Env}{c:Code}{fr:Fr}{K:Hl}{As L M:List Asn}{Q:Post}(hL:Tks As L M)(h:T E c fr K As Q):T E c fr K L Q:=fun a w f i=>h a w f (i.imp hL.sat).left
def DL(E:Env)(ops:Array Oper)(eff stg:List Nat)(S:List Asn)(r:List Nat)(fr:Fr)(K:Hl)(M:List Asn)(Q:Post):Prop:=
 ∀a,FrOk E.n E.ds fr a→DX E ops eff stg Q r S K M a
inductive GOk (ops:Array Oper) (fr:Fr) (o:Oper):Bool→Prop where
 |none:o.guard=.none→GOk ops fr o true
 |on {g dg:Nat} {c:Bool}:o.guard=some (g,c)→(ops[g]?).bind (·.dst)=some dg→fr.get dg=some (.bool c)→GOk ops fr o true
 |off {g dg:Nat} {c:Bool}:o.guard=some (g,c)→(ops[g]?).bind (·.dst)=some dg→fr.get dg=some (.bool (!c))→GOk ops fr o false
 |offu {g dg:Nat} {c:Bool}:o.guard=some (g,c)→(ops[g]?).bind (·.dst)=some dg→fr.get dg=some undef→GOk ops fr o false
theorem GOk.wanted{ops:Array Oper}{fr:Fr}{o:Oper}{b:Bool}(h:GOk ops fr o b){n:Nat}{ds:List Deferred}{a:Act}(f:FrOk n ds fr a):Region.wanted o (yielded ops a.tmps)=b:=by
 cases h with
 |none h=>simp[Region.wanted,h]
 |on h1 h2 h3=>simp[Region.wanted,h1,yielded,h2,f.get _ _ h3]
 |off h1 h2 h3=>simp[Region.wanted,h1,yielded,h2,f.get _ _ h3]
 |offu h1 h2 h3=>simp[Region.wanted,h1,yielded,h2,f.get _ _ h3,undef]
section
variable{E:Env}{ops:Array Oper}{eff stg:List Nat}{S:List Asn}{r:List Nat}{fr:Fr}{K:Hl}{M L:List Asn}{Q:Post}{i:Nat}{o:Oper}
theorem t_draw{l:List Oper}{anc ord:List Nat}{id:Nat}(eff stg:List Nat)(hm:E.P.follows .mixedOrders=true)(hok:aBB l eff stg anc ord=true)(hL:Tks S L M)
  (h:DL E l.toArray eff stg S ord fr K M Q):T E (.region id l.toArray true) fr K L Q:=
 fun a w f j=>uF hm hok (h a f) (j.imp hL.sat)
theorem dl_nil(h:D E .normal fr K (S++M) Q):DL E ops eff stg S [] fr K M Q:=fun a f w j=>h a w f j
theorem dl_ev{d:Nat}{v:Value}(ho:ops[i]?=some o)(hd:o.dst=some d)(hg:GOk ops fr o true)(hg0:stg.contains i=false)(he:eff.contains i=false)(hv:Ev E fr K S o v)(hn:Nat.blt d E.n=true)
  (h:DL E ops eff stg S r ((d,v)::fr) K M Q):DL E ops eff stg S (i::r) fr K M Q:=by
 intro a f;unfold DX;simp only[ho,hg.wanted f,if_true,hg0,he,Bool.false_eq_true,if_false];refine⟨v,fun K' M' w le j=>hv a w f (j.left.weaken le),?_⟩
 rw[hd];exact h _ (f.put hn v)
theorem dl_off{d:Nat}(ho:ops[i]?=some o)(hd:o.dst=some d)(hg:GOk ops fr o false)(hn:Nat.blt d E.n=true)(h:DL E ops eff stg S r ((d,undef)::fr) K M Q):DL E ops eff stg S (i::r) fr K M Q:=by
 intro a f;unfold DX;simp only[ho,hg.wanted f,Bool.false_eq_true,if_false];rw[hd];exact h _ (f.put hn undef)
theorem dl_s{d:Nat}{N:Value→Hl→List Asn→Prop}(ho:ops[i]?=some o)(hd:o.dst=some d)(hg:GOk ops fr o true)(hg0:stg.contains i=false)(he:eff.contains i=true)(hv:EfS E fr K (S++M) o N)(hn:Nat.blt d E.n=true)
  (h:∀v K' L',N v K' L'→K.le K'→∃M',(∀x,Sat L' x→Sat (S++M') x)∧DL E ops eff stg S r ((d,v)::fr) K' M' Q):DL E ops eff stg S (i::r) fr K M Q:=by
 intro a f;unfold DX;simp only[ho,hg.wanted f,if_true,hg0,he,Bool.false_eq_true,if_false];intro w j;obtain⟨u,w',K',L',hr,hN,le,j'⟩:=hv a w f j;obtain⟨M',hM,hD⟩:=h u K' L' hN le;rcases hr with hr|⟨hr,rfl⟩
 ·exact .inl ⟨u,w',hr,K',M',le,j'.imp hM,by rw[hd];exact hD _ (f.put hn u)⟩
 ·exact .inr (.inl ⟨w',hr,K',M',le,j'.imp hM,by rw[hd];exact hD _ (f.put hn undef)⟩)
theorem dl_callv{d:Nat}{ty:TypeId}{pos:String}{aft:Array Edge}{g:Option (Nat×Bool)}{fv:Operand}{xs:List Operand}{ats:Array TypeId}{f:FuncId}{caps:Array Value}{vs:List Value}{v:Value}
  (ho:ops[i]?=some ⟨some d,.call ⟨.value fv,xs.toArray,ats⟩,ty,pos,aft,g⟩) (hg:GOk ops fr ⟨some d,.call ⟨.value fv,xs.toArray,ats⟩,ty,pos,aft,g⟩ true) (hg0:stg.contains i=false) (he:eff.contains i=true)
  (hf:fr.ev fv=some (.func (.func f) #[] caps)) (hx:fr.evs xs=some vs) (hs:Sp E.P f (vs++caps.toList) K [] (Val v K)) (hn:Nat.blt d E.n=true)
  (h:DL E ops eff stg S r ((d,v)::fr) K M Q):DL E ops eff stg S (i::r) fr K M Q:=by
 intro a fo;unfold DX;simp only[ho,hg.wanted fo,if_true,hg0,he,Bool.false_eq_true,if_false];intro w j;obtain⟨F',i1,back⟩:=In.hide (L:=[]) (N:=S++M) j;refine .inr (.inr (.inl ⟨f,_,w,lT hf hx hs fo w,(hs.2 F' w i1).mono fun e w' ⟨K',L',⟨q1,q2,q3⟩,le,j'⟩=>?_⟩))
 subst q1;subst q2;subst q3
 exact⟨_,M,Hl.le_refl _,back j',h _ (fo.put hn v)⟩
theorem vK{d:Nat}{ty:TypeId}{pos:String}{aft:Array Edge}{g:Option (Nat×Bool)}{fv:Operand}{xs:List Operand}{ats:Array TypeId}{f:FuncId}{caps:Array Value}{vs:List Value}{L1 L2:List Asn}{R:Ending→Hl→List Asn→Prop}
  (ho:ops[i]?=some ⟨some d,.call ⟨.value fv,xs.toArray,ats⟩,ty,pos,aft,g⟩) (hg:GOk ops fr ⟨some d,.call ⟨.value fv,xs.toArray,ats⟩,ty,pos,aft,g⟩ true) (hg0:stg.contains i=false) (he:eff.contains i=true)
  (hf:fr.ev fv=some (.func (.func f) #[] caps)) (hx:fr.evs xs=some vs) (hs:Sp E.P f (vs++caps.toList) K L1 R) (hL:Tks L1 (S++M) L2) (hn:Nat.blt d E.n=true)
  (hout:∀K' L',¬R .outgrown K' L')
  (hpan:∀ch K' L',R (.panicked ch) K' L'→K.le K'→∀a w,a.defers=E.ds→In E.w0 E.F K' (L'++L2) w→Q (.panic ch) a w)
  (h:∀v K' L',R (.returned v) K' L'→K.le K'→∃M',(∀x,Sat (L'++L2) x→Sat (S++M') x)∧DL E ops eff stg S r ((d,v)::fr) K' M' Q):DL E ops eff stg S (i::r) fr K M Q:=by
 intro a fo;unfold DX;simp only[ho,hg.wanted fo,if_true,hg0,he,Bool.false_eq_true,if_false];intro w j;obtain⟨F',i1,back⟩:=(j.imp hL.sat).hide;refine .inr (.inr (.inl ⟨f,_,w,lT hf hx hs fo w,(hs.2 F' w i1).mono fun e w' ⟨K',L',q,le,j'⟩=>?_⟩))
 cases e with
 |returned v=>
  obtain⟨M',hM,hD⟩:=h v K' L' q le;exact⟨K',M',le,(back j').imp hM,hD _ (fo.put hn v)⟩
 |panicked ch=>exact fun a' ha'=>hpan ch K' L' q le a' w' (ha'.trans fo.defers) (back j')
 |outgrown=>exact absurd q (hout _ _)
theorem dl_g{d:Nat}{N:Value→Hl→List Asn→Prop}(ho:ops[i]?=some o)(hd:o.dst=some d)(hg:GOk ops fr o true)(he:stg.contains i=true)(hv:EfS E fr K (S++M) o N)(hn:Nat.blt d E.n=true)
  (h:∀v K' L',N v K' L'→K.le K'→DL E ops eff stg L' r ((d,v)::fr) K' [] Q):DL E ops eff stg S (i::r) fr K M Q:=by
 intro a f;unfold DX;simp only[ho,hg.wanted f,if_true,he];intro w j;obtain⟨u,w',K',L',hr,hN,le,j'⟩:=hv a w f j;have hD:=h u K' L' hN le;rcases hr with hr|⟨hr,rfl⟩
 ·exact .inl ⟨u,w',hr,K',L',[],le,by simpa using j',by rw[hd];exact hD _ (f.put hn u)⟩
 ·exact .inr (.inl ⟨w',hr,K',L',[],le,by simpa using j',by rw[hd];exact hD _ (f.put hn undef)⟩)
theorem vL{N:Value→Hl→List Asn→Prop}(ho:ops[i]?=some o)(hd:o.dst=none)(hg:GOk ops fr o true)(he:stg.contains i=true)(hv:EfS E fr K (S++M) o N)
  (h:∀v K' L',N v K' L'→K.le K'→DL E ops eff stg L' r fr K' [] Q):DL E ops eff stg S (i::r) fr K M Q:=by
 intro a f;unfold DX;simp only[ho,hg.wanted f,if_true,he];intro w j;obtain⟨u,w',K',L',hr,hN,le,j'⟩:=hv a w f j;have hD:=h u K' L' hN le;rcases hr with hr|⟨hr,rfl⟩
 ·exact .inl ⟨u,w',hr,K',L',[],le,by simpa using j',by rw[hd];exact hD _ f⟩
 ·exact .inr (.inl ⟨w',hr,K',L',[],le,by simpa using j',by rw[hd];exact hD _ f⟩)
theorem fV{d:Nat}{ty:TypeId}{pos:String}{aft:Array Edge}{g:Option (Nat×Bool)}{fv:Operand}{xs:List Operand}{ats:Array TypeId}{f:FuncId}{caps:Array Value}{vs:List Value}{L1 L2:List Asn}{R:Ending→Hl→List Asn→Prop}
  (ho:ops[i]?=some ⟨some d,.call ⟨.value fv,xs.toArray,ats⟩,ty,pos,aft,g⟩) (hg:GOk ops fr ⟨some d,.call ⟨.value fv,xs.toArray,ats⟩,ty,pos,aft,g⟩ true) (he:stg.contains i=true)
  (hf:fr.ev fv=some (.func (.func f) #[] caps)) (hx:fr.evs xs=some vs) (hs:Sp E.P f (vs++caps.toList) K L1 R) (hL:Tks L1 (S++M) L2) (hn:Nat.blt d E.n=true)
  (hout:∀K' L',¬R .outgrown K' L')
  (hpan:∀ch K' L',R (.panicked ch) K' L'→K.le K'→∀a w,a.defers=E.ds→In E.w0 E.F K' (L'++L2) w→Q (.panic ch) a w)
  (h:∀v K' L',R (.returned v) K' L'→K.le K'→DL E ops eff stg (L'++L2) r ((d,v)::fr) K' [] Q):DL E ops eff stg S (i::r) fr K M Q:=by
 intro a fo;unfold DX;simp only[ho,hg.wanted fo,if_true,he];intro w j;obtain⟨F',i1,back⟩:=(j.imp hL.sat).hide;refine .inr (.inr (.inl ⟨f,_,w,lT hf hx hs fo w,(hs.2 F' w i1).mono fun e w' ⟨K',L',q,le,j'⟩=>?_⟩))
 cases e with
 |returned v=>exact⟨K',L'++L2,[],le,by simpa using back j',h v K' L' q le _ (fo.put hn v)⟩
 |panicked ch=>exact fun a' ha'=>hpan ch K' L' q le a' w' (ha'.trans fo.defers) (back j')
 |outgrown=>exact absurd q (hout _ _)
theorem kS{d:Nat}{ty:TypeId}{pos:String}{aft:Array Edge}{g:Option (Nat×Bool)}{fv:Operand}{xs:List Operand}{ats:Array TypeId}{f:FuncId}{caps:Array Value}{vs:List Value}{L1 L2:List Asn}{N:Value→Hl→List Asn→Prop}
  (ho:ops[i]?=some ⟨some d,.call ⟨.value fv,xs.toArray,ats⟩,ty,pos,aft,g⟩) (hg:GOk ops fr ⟨some d,.call ⟨.value fv,xs.toArray,ats⟩,ty,pos,aft,g⟩ true) (he:stg.contains i=true)
  (hf:fr.ev fv=some (.func (.func f) #[] caps)) (hx:fr.evs xs=some vs) (hs:Sp E.P f (vs++caps.toList) K L1 (Ret N)) (hL:Tks L1 (S++M) L2) (hn:Nat.blt d E.n=true)
  (h:∀v K' L',N v K' L'→K.le K'→DL E ops eff stg (L'++L2) r ((d,v)::fr) K' [] Q):DL E ops eff stg S (i::r) fr K M Q:=
 fV ho hg he hf hx hs hL hn (fun K' L' ⟨u,e,n⟩=>by cases e) (fun ch K' L' ⟨u,e,n⟩=>by cases e) (fun v K' L' ⟨u,e,n⟩ le=>by cases e;exact h v K' L' n le)
theorem cX:∀(L:List Asn),Tks L L []
 | []=>.nil
 |_::L=>.cons .here (cX L)
theorem aAB(d:Nat){b:Bool}(e:fr.get d=some (.bool b))(ht:b=true→DL E ops eff stg S r ((d,.bool true)::fr) K M Q)(hf:b=false→DL E ops eff stg S r ((d,.bool false)::fr) K M Q):DL E ops eff stg S r fr K M Q:=by
 intro a f;have key : ∀ c, b = c → FrOk E.n E.ds ((d, .bool c) :: fr) a := fun c hc => ⟨f.defers, f.size, fun k v h => by
  simp only[Fr.get]at h
  by_cases hk:d=k
  ·subst hk;simp at h;subst h;rw[←hc];exact f.get _ _ e
  ·rw[beqF hk]at h;exact f.get _ _ h⟩
 cases b
 ·exact hf rfl a (key _ rfl)
 ·exact ht rfl a (key _ rfl)
theorem dl_splitp(d:Nat){p:Prop}[Decidable p](e:fr.get d=some (.bool (decide p)))(ht:p→DL E ops eff stg S r ((d,.bool true)::fr) K M Q)(hf:¬p→DL E ops eff stg S r ((d,.bool false)::fr) K M Q):DL E ops eff stg S r fr K M Q:=
 aAB d e (fun h=>ht (of_decide_eq_true h)) (fun h=>hf (of_decide_eq_false h))
end
def Yl(P:Program)(l:Nat)(vs:List Value)(K:Hl)(L:List Asn)(R:Bool→Hl→List Asn→Prop):Prop:=
 ∀F w,In w F K L w→∃fn tmps assign body,(Instr.yield l vs.toArray).run P w=.ok (.round l fn tmps assign body) w∧
  RoundIn Fence.wide 0 P l fn tmps assign body w fun e w'=>∃b K' L',e=.returned (.bool b)∧R b K' L'∧K.le K'∧In w F K' L' w'
theorem dl_round{E:Env}{ops:Array Oper}{eff stg:List Nat}{S:List Asn}{r:List Nat}{fr:Fr}{K:Hl}{M:List Asn}{Q:Post}{i:Nat}{d:Nat}{ty:TypeId}{pos:String}{aft:Array Edge}{g:Option (Nat×Bool)}{fv:Operand}{xs:List Operand}{ats:Array TypeId}{l:Nat}{vs:List Value}{L1 L2:List Asn}{R:Bool→Hl→List Asn→Prop}
  (ho:ops[i]?=some ⟨some d,.call ⟨.value fv,xs.toArray,ats⟩,ty,pos,aft,g⟩) (hg:GOk ops fr ⟨some d,.call ⟨.value fv,xs.toArray,ats⟩,ty,pos,aft,g⟩ true) (he:stg.contains i=true)
  (hf:fr.ev fv=some (.func (.yield l) #[] #[])) (hx:fr.evs xs=some vs) (hs:Yl E.P l vs K L1 R) (hL:Tks L1 (S++M) L2) (hn:Nat.blt d E.n=true)
  (h:∀b K' L',R b K' L'→K.le K'→DL E ops eff stg (L'++L2) r ((d,.bool b)::fr) K' [] Q):DL E ops eff stg S (i::r) fr K M Q:=by
 intro a fo;unfold DX;simp only[ho,hg.wanted fo,if_true,he];intro w j;obtain⟨F',i1,back⟩:=(j.imp hL.sat).hide;obtain⟨fn,tm,x,y,hy,hr⟩:=hs F' w i1;refine .inr (.inr (.inr ⟨l,fn,tm,x,y,w,?_,hr.mono fun e w' ⟨b,K',L',q1,q,le,j'⟩=>?_⟩))
 ·have e1:Array.map a.eval xs.toArray=vs.toArray:=by simp[fo.evs hx]
  simp only[execOp,resolve,e1,fo.ev hf,Deferred.ofValue,bind,pure,Sem.bind,invoke,Array.empty_append];exact hy
 ·subst q1;exact⟨K',L'++L2,[],le,by simpa using back j',h b K' L' q le _ (fo.put hn _)⟩
end Go.SL.R
end
section
namespace Go.SL
open R (Yl)
abbrev mrk(D:Nat):Deferred:={target:=.collected D,args:= #[]}
abbrev dblk(D:Nat):Asn:=pt D (.deferred (some []))
def aXC(P:Program)(fn:Func)(w0:World)(F K0:Hl)(R:Ending→Hl→List Asn→Prop):Post:=
 bodyPostM Fence.wide 0 P fn fun e w'=>∃K' L',R e K' L'∧K0.le K'∧In w0 F K' L' w'
theorem aIT{P:Program}{f:FuncId}{fn:Func}{c:Code}{args:List Value}{n:Nat}{K:Hl}{L:List Asn}{R:Ending→Hl→List Asn→Prop}
  (hf:P.funcs[f]?=some fn) (hb:fn.body=some c) (hn:fn.ntmps=n) (hl:Nat.ble args.length n=true) (hname:(fn.name=="runtime.NumGoroutine")=false)
  (h:∀(F:Hl) (w:World),T ⟨P,n,[],w,F⟩ c (Fr.init 0 args n) K L (aXC P fn w F K R)):Sp P f args K L R:=by
 refine⟨⟨fn,hf,hname,by simp[hb]⟩,fun F w i=>callsIn_wide.1 (callsIn_of_wp_marks (n:=0) hf hb trivial (wpIn_wide.2 (h F w _ _ ⟨rfl,?_,?_⟩ i)))⟩
 ·have:args.length≤n:=Nat.le_of_ble_eq_true hl;simp[hn];omega
 ·intro k v e;obtain⟨_,h2⟩:=sB e;have hk:k < args.length:=by
   rcases Nat.lt_or_ge k args.length with h|h
   ·exact h
   ·simp[List.getElem?_eq_none h]at h2
  show (args.toArray++Array.replicate _ _)[k]?=some v
  rw[Array.getElem?_append_left gC1]
  simpa using h2
theorem aL5{P:Program}{fn:Func}{tmps:Array Value}{R:Ending→World→Prop}{u:FrameMode}(hu:u≠.run){w0:World}{F K:Hl}{L:List Asn}(fin:∀w',In w0 F K L w'→LeavesIn Fence.wide 0 P fn tmps R [] u w'):
  ∀(ds:List Nat) (w:World),In w0 F K (ds.map dblk++L) w→LeavesInM Fence.wide 0 P fn tmps R (ds.map mrk) u w
 | [],w,i=>fin w i
 |d::ds,w,i=>by
  have hp:=i.piece;refine⟨hu,.inl ⟨d,_,rfl,run_takeDeferred hp,aL5 hu fin ds _ ?_⟩⟩
  have hlt:d < w.heap.size:=(Array.getElem?_eq_some_iff.1 hp).1;exact(i.write (o':=.deferred none) (H:=w.heap.setIfInBounds d (.deferred none)) (by simp) (by simp[hlt]) (fun x hx=>by rw[Array.getElem?_setIfInBounds_ne (Ne.symm hx)])).drop
section
variable{P:Program}{fn:Func}{n:Nat}{w0:World}{F K0 K:Hl}{fr:Fr}{L:List Asn}{R:Ending→Hl→List Asn→Prop}
theorem aEN{t:Nat}{v:Value}{L0:List Asn}(ds:List Nat)(hr:fn.results= #[.tmp t])(ht:fr.get t=some v)(hL:∀h,Sat L0 h→Sat (ds.map dblk++L) h)(le:K0.le K)(h:R (.returned v) K L):
  D ⟨P,n,ds.map mrk,w0,F⟩ .ret fr K L0 (aXC P fn w0 F K0 R):=fun a w f i=>by
 show LeavesInM Fence.wide 0 P fn a.tmps _ a.defers .returning w
 rw[f.defers];refine aL5 (by simp) (fun w' j=>?_) ds w (i.imp hL)
 exact⟨v,by rw[results_tmp hr];simp[f.get _ _ ht],K,L,h,le,j⟩
end
section
variable{E:Env}{fr:Fr}{K:Hl}{L L1 L2:List Asn}{Q:Post}
abbrev Env.mark(E:Env)(D:Nat):Env:=⟨E.P,E.n,mrk D::E.ds,E.w0,E.F⟩
theorem aMD{g:Operand}{ps:Array Tmp}{assign body:Code}{f:FuncId}{caps:Array Value}{RR:Loop→Nat→Nat→Ending→Hl→List Asn→Prop}(hg:fr.ev g=some (.func (.func f) #[] caps))(hL:Tks L1 L L2)
  (hs : ∀ (r : Loop) (l d : Nat), r.state = .ready → r.pending = none → r.params = ps → r.assign = assign → r.body = body → r.tmps.size = E.n → (∀ k v, fr.get k = some v → r.tmps[k]? = some v) →
   Sp E.P f (.func (.yield l) #[] #[]::caps.toList) K (pt l (.loop r)::dblk d::L1) (RR r l d))
  (hend : ∀ r l d e K' L', RR r l d e K' L' → K.le K' → ∃ v r' M, e = .returned v ∧ (∀ h, Sat L' h → Sat (pt l (.loop r') :: M) h) ∧ r'.state ≠ .busy ∧
   match r'.pending with
   |none=>D (E.mark d) .normal fr K' (M++L2) Q
   |some c=>T (E.mark d) c fr K' (M++L2) Q):
  T E (.rangeFunc g ps assign body) fr K L Q:=by
 intro a w fo i;refine(wpIn_wide (n:=0)).1 (wpIn_rangeFunc fun fn _=>?_)
 let r:Loop:={state:=.ready,pending:=none,fn,tmps:=a.tmps,params:=ps,assign,body,defers:=w.heap.size}
 have i3:=(i.alloc (.deferred (some []))).alloc (.loop r);have hsz:({w with heap:=w.heap.push (.deferred (some []))}:World).heap.size=w.heap.size+1:=by simp
 rw[hsz]at i3;obtain⟨F',i1,back⟩:=(i3.imp (M:=(pt (w.heap.size+1) (.loop r)::dblk w.heap.size::L1)++L2) (fun h=>eC fun h=>eC fun h k=>hL.sat h k)).hide;have hs':=hs r (w.heap.size+1) w.heap.size rfl rfl rfl rfl rfl fo.size fo.get;obtain⟨⟨fd,g1,g2,g3⟩,hcall⟩:=hs';have ev:∀x:Value,a.eval (.const x)=x:=fun _=>rfl
 refine⟨w.heap.size+1,[mrk w.heap.size],_,{target:=.fn (.func f) caps,args:= #[.func (.yield (w.heap.size+1)) #[] #[]]},(w.alloc (.deferred (some []))).alloc (.loop r),f,(.func (.yield (w.heap.size+1)) #[] #[]::caps.toList).toArray,(w.alloc (.deferred (some []))).alloc (.loop r),run_enterLoop_outer fn a.tmps ps assign body,?_,fun _ _=>trivial,?_,fun h=>Bool.noConfusion h,callsIn_wide.2 ((hcall F' _ i1).mono fun e w' ⟨K',L',q,le,j⟩=>?_)⟩
 ·simp only[resolve,rangeCall,fo.ev hg,Deferred.ofValue,bind,pure,Sem.bind,List.map_toArray,List.map_cons,List.map_nil,ev,Array.empty_append]
  rfl
 ·have e2: #[Value.func (.yield (w.heap.size+1)) #[] #[]]++caps=(.func (.yield (w.heap.size+1)) #[] #[]::caps.toList).toArray:=by simp
  simp only[invoke];rw[e2];exact xE g1 g2 g3 _
 ·obtain⟨v,r',M,rfl,hM,hst,hgo⟩:=hend _ _ _ _ _ _ q le;have j2:In E.w0 E.F K' (pt (w.heap.size+1) (.loop r')::(M++L2)) w':=(back j).imp fun h k=>by
   obtain⟨x,y,hx,hy,hd,rfl⟩:=fH.1 k;exact fH (L:=pt (w.heap.size+1) (.loop r')::M).2 ⟨x,y,hM _ hx,hy,hd,rfl⟩
  have hp:=j2.piece;have hlt:w.heap.size+1 < w'.heap.size:=(Array.getElem?_eq_some_iff.1 hp).1;have j3:In E.w0 E.F K' (M++L2) (w'.putObj (w.heap.size+1) (.loop {r' with state:=.exhausted})):=
   (j2.write (o':=.loop {r' with state:=.exhausted}) (H:=w'.heap.setIfInBounds (w.heap.size+1) (.loop {r' with state:=.exhausted})) (by simp) (by simp[hlt]) (fun x hx=>by rw[Array.getElem?_setIfInBounds_ne (Ne.symm hx)])).drop
  have fo':FrOk E.n (mrk w.heap.size::E.ds) fr {a with defers:=[mrk w.heap.size]++a.defers}:=⟨by simp[fo.defers],fo.size,fo.get⟩;refine⟨r'.pending,_,run_endLoop hp hst,?_⟩
  generalize w'.putObj (w.heap.size+1) (.loop {r' with state:=.exhausted})=W at j3 ⊢
  cases hpe:r'.pending with
  |none=>rw[hpe]at hgo;exact hgo _ _ fo' j3
  |some c=>rw[hpe]at hgo;exact wpIn_wide.2 (hgo _ _ fo' j3)
end
def TR(E:Env)(l:Nat)(c:Code)(fr:Fr)(K:Hl)(L:List Asn)(Q:Post):Prop:=
 ∀a w,FrOk E.n E.ds fr a→In E.w0 E.F K L w→c.wpIn (Fence.wide.inRound l) 0 E.P Q a w
def OR(E:Env)(l:Nat)(ops:Array Oper)(os:List Oper)(fr:Fr)(K:Hl)(L:List Asn)(Q:Post):Prop:=
 ∀a w,FrOk E.n E.ds fr a→In E.w0 E.F K L w→wpListIn (Fence.wide.inRound l) 0 E.P ops Q os a w
section
variable{E:Env}{fr:Fr}{K:Hl}{L:List Asn}{Q:Post}{c x y:Code}{ops:Array Oper}{rest:List Oper}{l:Nat}
theorem aWZ(h:D E .normal fr K L Q):TR E l .skip fr K L Q:=fun a w f i=>wpIn_skip (h a w f i)
theorem aWY{id:Nat}(h:D E (.exit id) fr K L Q):TR E l (.exit id) fr K L Q:=fun a w f i=>wpIn_exit (h a w f i)
theorem aI8{id:Nat}(h:TR E l c fr K L (Exit.inBlock id Q)):TR E l (.block id c) fr K L Q:=fun a w f i=>wpIn_block (h a w f i)
theorem aD6{id:Nat}{os:List Oper}(h:OR E l os.toArray os fr K L Q):TR E l (.region id os.toArray false) fr K L Q:=fun a w f i=>wpIn_region_lit (h a w f i)
theorem aSR(h:D E .normal fr K L Q):OR E l ops [] fr K L Q:=fun a w f i=>wpListIn_nil (h a w f i)
def aL7:Op→Bool| .defer _=>false|_=>true
theorem uW{o:Oper}(h:aL7 o.op=true):∀c,o.op≠.defer c:=fun c e=>by rw[e]at h;cases h
theorem aSQ{d:Nat}{op:Op}{ty:TypeId}{pos:String}{aft:Array Edge}{v:Value}(hv:Ev E fr K L ⟨some d,op,ty,pos,aft,none⟩ v)(hd:Nat.blt d E.n=true)(ho:aL7 op=true)
  (h:OR E l ops rest ((d,v)::fr) K L Q):OR E l ops (⟨some d,op,ty,pos,aft,none⟩::rest) fr K L Q:=by
 intro a w f i;refine wpListIn_plain rfl fun k hk=>⟨fun _ _=>trivial,?_⟩
 rw[Oper.semAt_eq _ _ _ (uW ho),hv a w f i];exact hk _ _ (h _ _ (f.put hd v) i)
theorem or_s{d:Nat}{op:Op}{ty:TypeId}{pos:String}{aft:Array Edge}{N:Value→Hl→List Asn→Prop}(hv:EfS E fr K L ⟨some d,op,ty,pos,aft,none⟩ N)(hd:Nat.blt d E.n=true)(ho:aL7 op=true)
  (h:∀v K' L',N v K' L'→K.le K'→OR E l ops rest ((d,v)::fr) K' L' Q):OR E l ops (⟨some d,op,ty,pos,aft,none⟩::rest) fr K L Q:=by
 intro a w f i;refine wpListIn_plain rfl fun k hk=>⟨fun _ _=>trivial,?_⟩
 rw[Oper.semAt_eq _ _ _ (uW ho)];obtain⟨u,w',K',L',hr,hN,le,j⟩:=hv a w f i;rcases hr with hr|⟨hr,rfl⟩
 ·rw[hr];exact hk _ _ (h _ _ _ hN le _ _ (f.put hd u) j)
 ·rw[hr];exact hk _ _ (h _ _ _ hN le _ _ (f.put hd _) j)
theorem bAM{op:Op}{ty:TypeId}{pos:String}{aft:Array Edge}{N:Value→Hl→List Asn→Prop}(hv:EfS E fr K L ⟨none,op,ty,pos,aft,none⟩ N)(ho:aL7 op=true)
  (h:∀v K' L',N v K' L'→K.le K'→OR E l ops rest fr K' L' Q):OR E l ops (⟨none,op,ty,pos,aft,none⟩::rest) fr K L Q:=by
 intro a w f i;refine wpListIn_plain rfl fun k hk=>⟨fun _ _=>trivial,?_⟩
 rw[Oper.semAt_eq _ _ _ (uW ho)];obtain⟨u,w',K',L',hr,hN,le,j⟩:=hv a w f i;rcases hr with hr|⟨hr,rfl⟩
 ·rw[hr];exact hk _ _ (h _ _ _ hN le _ _ f j)
 ·rw[hr];exact hk _ _ (h _ _ _ hN le _ _ f j)
end
abbrev _root_.Go.Loop.bz(r:Loop):Loop:={r with state:=.busy}
abbrev _root_.Go.Loop.on(r:Loop):Loop:={r with state:=.ready,pending:=none}
abbrev _root_.Go.Loop.off(r:Loop)(c:Code):Loop:={r with state:=.done,pending:=some c}
def aZ3(P:Program)(l:Nat)(r:Loop)(w0:World)(F K0:Hl)(R:Bool→Hl→List Asn→Prop):Post
 | .normal,_,w=>∃K' M,In w0 F K' (pt l (.loop r.bz)::M) w∧K0.le K'∧R true K' (pt l (.loop r.on)::M)
 | .exit id,_,w=>∃K' M,In w0 F K' (pt l (.loop r.bz)::M) w∧K0.le K'∧R false K' (pt l (.loop (r.off (.exit id)))::M)
 |_,_,_=>False
theorem aYC{P:Program}{l p n:Nat}{r:Loop}{v:Value}{fr0 fr1:Fr}{K:Hl}{L:List Asn}{R:Bool→Hl→List Asn→Prop}(hr:r.state=.ready)(hp:r.params= #[p])(hpn:Nat.blt p n=true)(hsz:r.tmps.size=n)
  (hfr:∀k v,fr0.get k=some v→r.tmps[k]?=some v)
  (hA:∀(F:Hl) (w:World) (Q:Post),D ⟨P,n,[],w,F⟩ .normal fr1 K (pt l (.loop r)::L) Q→TR ⟨P,n,[],w,F⟩ l r.assign ((p,v)::fr0) K (pt l (.loop r)::L) Q)
  (hB:∀(F:Hl) (w:World),TR ⟨P,n,[],w,F⟩ l r.body fr1 K (pt l (.loop r.bz)::L) (aZ3 P l r w F K R)):Yl P l [v] K (pt l (.loop r)::L) R:=by
 intro F w i;have hc:=i.piece;refine⟨r.fn,_,r.assign,r.body,run_yield hc (by simp[hp]),roundIn_of_wpIn trivial ?_⟩
 have f0:FrOk n [] ((p,v)::fr0) {tmps:=r.tmps.setIfInBounds p v,defers:=[]}:=FrOk.put (a:={tmps:=r.tmps,defers:=[]}) ⟨rfl,hsz,hfr⟩ hpn v;have e0:(r.params.zip [v].toArray).foldl (fun tmps (t,a)=>tmps.setIfInBounds t a) r.tmps=r.tmps.setIfInBounds p v:=by simp[hp]
 rw[e0];refine hA F w _ (fun a₁ w₁ f₁ j=>?_) _ _ f0 i
 have hc1:=j.piece;refine⟨_,run_beginRound hc1 hr,?_⟩
 have hlt:l < w₁.heap.size:=(Array.getElem?_eq_some_iff.1 hc1).1;have j2:In w F K (pt l (.loop r.bz)::L) (w₁.putObj l (.loop r.bz)):=
  j.write (o':=.loop r.bz) (H:=w₁.heap.setIfInBounds l (.loop r.bz)) (by simp) (by simp[hlt]) (fun x hx=>by rw[Array.getElem?_setIfInBounds_ne (Ne.symm hx)])
 refine wpIn_mono (hB F w _ _ f₁ j2) fun e a w' q=>?_
 have fin:∀(jump:Option Code) (K':Hl) (M:List Asn) (r':Loop),In w F K' (pt l (.loop r.bz)::M) w'→K.le K'→r'={r.bz with state:=if jump.isNone then .ready else .done,pending:=jump}→R jump.isNone K' (pt l (.loop r')::M)→
   ∃v w'',(Instr.endRound l jump).run P w'=.ok v w''∧∃b K' L',Ending.returned v=.returned (.bool b)∧R b K' L'∧K.le K'∧In w F K' L' w'':=by
  intro jump K' M r' j le er hR;have hc2:=j.piece;have hlt2:l < w'.heap.size:=(Array.getElem?_eq_some_iff.1 hc2).1;refine⟨_,_,run_endRound jump hc2,jump.isNone,K',_,rfl,hR,le,?_⟩
  subst er;exact j.write (H:=w'.heap.setIfInBounds l _) (by simp) (by simp[hlt2]) (fun x hx=>by rw[Array.getElem?_setIfInBounds_ne (Ne.symm hx)])
 cases e with
 |normal=>obtain⟨K',M,j,le,hR⟩:=q;exact fin none K' M _ j le rfl hR
 |exit id=>obtain⟨K',M,j,le,hR⟩:=q;exact fin (some (.exit id)) K' M _ j le rfl hR
 |goto t=>exact q.elim
 |ret=>exact q.elim
 |panic ch=>exact q.elim
 |outgrown=>exact q.elim
theorem aUU{P:Program}{l:Nat}{vs:List Value}{K:Hl}{L L':List Asn}{R:Bool→Hl→List Asn→Prop}(k:∀h,Sat L h→Sat L' h)(h:Yl P l vs K L' R):Yl P l vs K L R:=
 fun F w i=>h F w (i.imp k)
theorem aMP{P:Program}{l:Nat}{vs:List Value}{K:Hl}{L:List Asn}{R R':Bool→Hl→List Asn→Prop}(h:Yl P l vs K L R)(k:∀b K' L',R b K' L'→∃L'',(∀h,Sat L' h→Sat L'' h)∧R' b K' L''):Yl P l vs K L R':=by
 intro F w i;obtain⟨fn,t,x,y,e,hr⟩:=h F w i;refine⟨fn,t,x,y,e,hr.mono fun en w' ⟨b,K',L',e1,r,le,j⟩=>?_⟩
 obtain⟨L'',hs,r'⟩:=k _ _ _ r;exact⟨b,K',L'',e1,r',le,j.imp hs⟩
theorem bAK{r:Loop}(h1:r.state=.ready)(h2:r.pending=none):r.on=r:=by cases r;simp_all
theorem aIE{A B:List Asn}{h:Hl}(k:Sat (A++B) h):Sat (B++A) h:=by
 obtain⟨a,b,ha,hb,hd,rfl⟩:=fH.1 k;exact fH.2 ⟨b,a,hb,ha,hd.symm,Hl.join_comm hd⟩
section
variable{E:Env}{fr:Fr}{K:Hl}{L:List Asn}{Q:Post}{c:Code}
theorem aFZ(h:T E c fr K L (Exit.noGoto Q)):T E (.scope c) fr K L Q:=fun a w f i=>wp_scope_straight (h a w f i)
theorem m9(h:D E .ret fr K L Q):D E .ret fr K L (Exit.noGoto Q):=h
theorem aWL{ι:Type}(I:ι→Prop)(ds':ι→List Deferred)(fr':ι→Fr)(K':ι→Hl)(L':ι→List Asn)(μ:ι→Nat)(i0:ι)(h0:I i0)(hd:ds' i0=E.ds)(k:Kp fr (fr' i0))(hK:K' i0=K)(hL:∀h,Sat L h→Sat (L' i0) h)
  (round:∀i,I i→T ⟨E.P,E.n,ds' i,E.w0,E.F⟩ c (fr' i) (K' i) (L' i) (Exit.then (fun a w=>∃j,I j∧μ j < μ i∧FrOk E.n (ds' j) (fr' j) a∧In E.w0 E.F (K' j) (L' j) w) Q)):T E (.loop c) fr K L Q:=by
 intro a w f i b kk cs;have key:∀n j,μ j=n→I j→∀a w,FrOk E.n (ds' j) (fr' j) a→In E.w0 E.F (K' j) (L' j) w→
   ∃e a' w',Q e a' w'∧Arrives E.P (lone (b.at a (.code c::.inLoop c::kk)) cs w) b kk cs e a' w':=by
  intro n;induction n using Nat.strongRecOn with
  |_ n ih=>
   intro j hj hIj a w f i;obtain⟨e,a₁,w₁,hq,harr⟩:=round j hIj a w f i b (.inLoop c::kk) cs;cases e with
   |normal=>
    obtain⟨j',hI',hlt,f',i'⟩:=hq;obtain⟨e₂,a₂,w₂,hq₂,harr₂⟩:=ih _ (hj▸hlt) j' rfl hI' _ _ f' i';exact⟨e₂,a₂,w₂,hq₂,.of_steps (Steps.trans harr (.one step_inLoop)) harr₂⟩
   |exit id=>exact⟨_,a₁,w₁,hq,.pass (x:=.inLoop c) rfl (fun _ _=>.inl (by simp)) harr⟩
   |goto l=>exact⟨_,a₁,w₁,hq,.pass (x:=.inLoop c) rfl (fun _ _=>.inl (by simp)) harr⟩
   |ret=>exact⟨_,a₁,w₁,hq,.pass (x:=.inLoop c) rfl (fun _ _=>.inl (by simp)) harr⟩
   |panic ch=>exact⟨_,a₁,w₁,hq,.pass (x:=.inLoop c) rfl (fun _ _=>.inl (by simp)) harr⟩
   |outgrown=>exact⟨_,a₁,w₁,hq,.pass (x:=.inLoop c) rfl (fun _ _=>.inl (by simp)) harr⟩
 have f0:FrOk E.n (ds' i0) (fr' i0) a:=by rw[hd];exact f.keep k
 obtain⟨e,a',w',hq,harr⟩:=key _ i0 rfl h0 a w f0 (by rw[hK];exact i.imp hL);exact⟨e,a',w',hq,.of_steps (.one step_loop) harr⟩
theorem aQZ{ι:Type}{P:Program}{n:Nat}{ds:List Deferred}{w0:World}{F:Hl}{I:ι→Prop}{ds':ι→List Deferred}{fr':ι→Fr}{K':ι→Hl}{L':ι→List Asn}{μ:ι→Nat}{m:Nat}(j:ι)(hj:I j)(hlt:μ j < m)(hd:ds' j=ds)(k:Kp fr (fr' j))(hK:K' j=K)(hL:∀h,Sat L h→Sat (L' j) h):
  D ⟨P,n,ds,w0,F⟩ .normal fr K L (Exit.then (fun a w=>∃j,I j∧μ j < m∧FrOk n (ds' j) (fr' j) a∧In w0 F (K' j) (L' j) w) Q):=
 fun a w f i=>⟨j,hj,hlt,by rw[hd];exact f.keep k,by rw[hK];exact i.imp hL⟩
end
end Go.SL
end
section
attribute [local irreducible] Go.SL.T Go.SL.OL Go.SL.D Go.SL.DL Go.SL.Ev Go.SL.Ef Go.SL.EfS
namespace Go.Proofs
open Go Go.SL Go.Syn Go.Mach
open R (Yl)
def hdEl:El (List UInt8×List UInt8):={e:=25,sz:=2,enc:=fun a=>[str a.1,str a.2],len:=fun _=>rfl,one:=fun _ u h=>by simp at h;rcases h with rfl|rfl <;> rfl}
theorem rG:∀(As:List Asn) (B:Asn),Tks As (B::As) [B]
 | [],_=>.nil
 |_::As,B=>.cons (.there .here) (rG As B)
theorem tR:∀(As M:List Asn),Tks As (As++M) M
 | [],_=>.nil
 |_::As,M=>.cons .here (tR As M)
def gQ(m:Msg)(name:aJ)(i:Nat):List aJ:=((m.hs.take i).filter fun h=>decide (cN h.1=name)).map (·.2)
theorem aE1(m:Msg)(name:aJ){i:Nat}(h:m.hs.length≤i):gQ m name i=f8 m name:=by unfold gQ f8;rw[List.take_of_length_le h]
theorem kU{m:Msg}{name:aJ}{i:Nat}{x:aJ×aJ}(hx:m.hs[i]?=some x):gQ m name (i+1)=if cN x.1=name then gQ m name i++[x.2]else gQ m name i:=by
 have hi:i < m.hs.length:=by
  rcases Nat.lt_or_ge i m.hs.length with h'|h'
  ·exact h'
  ·simp[List.getElem?_eq_none h']at hx
 have hc:m.hs[i]=x:=by simpa[List.getElem?_eq_getElem hi]using hx
 unfold gQ;rw[List.take_succ_eq_append_getElem hi,hc,List.filter_append]
 by_cases h:cN x.1=name
 ·simp[h]
 ·simp[h]
theorem aE2(m:Msg)(name:aJ)(i:Nat):gQ m name i<+:f8 m name:=by
 unfold gQ f8;refine List.IsPrefix.map _ (List.IsPrefix.filter _ (List.take_prefix _ _))
structure FI where
 i:Nat
 K:Hl
 L:List Asn
theorem vT(l bx by_ b mb:Nat)(m:Msg)(hv pv:Value)(nm:Bool)(s:MS)(name:aJ)(K0:Hl)(L0:List Asn)(J Jx:List aJ→Hl→List Asn→Prop)
  (hbx:K0 bx=some (aU [ptr b] 172)) (hy:K0 by_=some (aU [str name] 9)) (hh:Ksl hdEl K0 hv m.hs) (hln:m.hs.length≤1000000) (hs:∀h∈m.hs,h.1.length≤1000000)
  (hJ0:J [] K0 (mch b mb m hv pv nm s::L0))
  (hY:∀pre x K' L',K0.le K'→J pre K' L'→(pre++[x])<+:f8 m name→Yl Tryz.prog l [str x] K' L' fun t K'' L''=>(t=true∧J (pre++[x]) K'' L'')∨(t=false∧Jx (pre++[x]) K'' L'')):
  Sp Tryz.prog 307 [.func (.yield l) #[] #[],ptr bx,ptr by_] K0 (mch b mb m hv pv nm s::L0)
   (Ret fun v K' L'=>v=.tuple #[]∧K0.le K'∧(J (f8 m name) K' L'∨∃pre,pre<+:f8 m name∧Jx pre K' L')):=by
 refine aZ Tryz.func307 rfl Tryz.ntmps307 rfl rfl fun F w=>?_
 refine rM fun av sv f c=>?_
 refine zz8 ?_;refine aA (bX (k:=hdEl) rfl Tryz.underlying26 rfl aN) rfl ?_;refine zz4 ?_;refine t8 (dU (m:=m) (hv:=hv) (pv:=pv) (nm:=nm) (s:=s)) ?_;refine d6 (fun(q:FI)=>q.i≤m.hs.length∧K0.le q.K∧J (gQ m name q.i) q.K q.L) (fun q=>[(0,.func (.yield l) #[] #[]),(2,ptr by_),(11,hv),(12,i64 m.hs.length),(13,i64 q.i)]) (fun q=>q.K) (fun q=>q.L) (fun q=>m.hs.length - q.i) ⟨0,K0,mch b mb m hv pv nm s::L0⟩ ⟨Nat.zero_le _,Hl.le_refl _,hJ0⟩ (.cons 0 rfl (.cons 2 rfl (.cons 11 rfl (.cons 12 rfl (.cons 13 rfl .nil))))) rfl (fun _ h=>h) ?_;intro ⟨i,K1,L1⟩ ⟨hi0,hle,hJ⟩;dsimp only at hi0 hle hJ ⊢;have hh1:=hh.mono hle;have hy1:=hle _ _ hy;refine zz6 ?_;refine bG 14 rfl (fun h14=>?_) (fun h14=>?_)
 ·
  have hilt:i < m.hs.length:=by omega
  obtain⟨x,hx⟩:∃x,m.hs[i]?=some x:=⟨m.hs[i]'hilt,List.getElem?_eq_getElem hilt⟩;refine zz6 ?_;refine aA (bQ (k:=hdEl) qI rfl aN rfl rfl gBR) rfl ?_;refine aA (fF (n:=0) (k:=hdEl) aK3 rfl aN bV) rfl ?_;refine zz1 ?_;rintro _ K _ ⟨b5,rfl,rfl,rfl⟩ -;refine bR (cM aK3 rfl rfl rfl bB gBK (.cons (.cons .nil)) gBU) ?_;rintro _ K _ ⟨rfl,rfl⟩ -;refine zz3 ?_;refine R.t_draw (anc:=[0,1,3,0,15,31,63,63,191,511,1023,2047]) (ord:=[0,1,3,2,4,5,6,7,8,9,10,11]) [2,9] [9] mixed gBO (.cons .here .nil) ?_;refine R.dl_ev rfl rfl (.none rfl) rfl rfl (aD (o':=0) aI1 rfl rfl) rfl ?_;refine R.dl_ev rfl rfl (.none rfl) rfl rfl (aL ts9 rfl aN rfl) rfl ?_;refine R.dl_ev rfl rfl (.none rfl) rfl rfl (aL ts9 rfl aN rfl) rfl ?_;refine R.dl_callv rfl (.none rfl) rfl rfl rfl rfl (fX _ _ (by have:=hs x (List.mem_of_getElem? hx);omega)) rfl ?_;refine R.dl_ev rfl rfl (.none rfl) rfl rfl (jX rfl rfl) rfl ?_;refine R.dl_ev rfl rfl (.none rfl) rfl rfl (aC rfl) rfl ?_;refine R.dl_splitp 22 rfl (fun g22=>?_) (fun g22=>?_)
  ·
   refine R.dl_ev rfl rfl (.on rfl rfl rfl) rfl rfl (aC rfl) rfl ?_;refine R.dl_ev rfl rfl (.on rfl rfl rfl) rfl rfl (aD (o':=1) aI2 rfl rfl) rfl ?_;refine R.dl_ev rfl rfl (.on rfl rfl rfl) rfl rfl (aL ts9 rfl aN rfl) rfl ?_;have hpre:gQ m name i++[x.2]<+:f8 m name:=(by have:=aE2 m name (i+1);rwa [kU hx,if_pos g22]at this);refine R.dl_round rfl (.on rfl rfl rfl) rfl rfl rfl (hY (gQ m name i) x.2 _ _ hle hJ hpre) (rG _ _) rfl ?_;rintro t K2 M2 hR le2;refine R.dl_ev rfl rfl (.on rfl rfl rfl) rfl rfl gBN rfl ?_;refine R.dl_ev rfl rfl (.none rfl) rfl rfl (bN rfl rfl) rfl ?_;refine R.dl_nil ?_;refine aE ?_;refine d8 28 rfl (fun h28=>?_) (fun h28=>?_)
   ·
    refine zz5 ?_;refine aO (by rw[List.append_nil];exact tR M2 _) ?_;refine qR rfl (by first|exact Hl.le_trans hle le2|exact hle) ?_;refine⟨_,rfl,rfl,Hl.le_trans hle le2,.inr ⟨_,hpre,?_⟩⟩
    rcases hR with ⟨h,_⟩|⟨_,h⟩
    ·exfalso;subst h;simp at h28
    ·exact h
   ·
    refine zz7 ?_
    first
     |exact gAY
     |exact gA0
  ·
   refine R.dl_off rfl rfl (.off rfl rfl rfl) rfl ?_;refine R.dl_off rfl rfl (.off rfl rfl rfl) rfl ?_;refine R.dl_off rfl rfl (.off rfl rfl rfl) rfl ?_;refine R.dl_off rfl rfl (.off rfl rfl rfl) rfl ?_;refine R.dl_off rfl rfl (.off rfl rfl rfl) rfl ?_;refine R.dl_ev rfl rfl (.none rfl) rfl rfl (bH rfl rfl) rfl ?_;refine R.dl_nil ?_;refine zz9 ?_
   first
    |exact gAY
    |exact gA0
 ·
  refine zz4 ?_;refine cT rfl (by first|exact Hl.le_trans hle le2|exact hle) ?_;refine⟨_,rfl,rfl,hle,.inl ?_⟩
  have:=aE1 m name (i:=i) aH;rw[←this];exact hJ
end Go.Proofs
end
section
attribute [local irreducible] Go.SL.T Go.SL.OL Go.SL.D Go.SL.DL Go.SL.Ev Go.SL.Ef Go.SL.EfS
namespace Go.Proofs
open Go Go.SL Go.Syn Go.Mach
open R (Yl)
theorem yO(b:Nat)(name:List UInt8)(K:Hl):Sp Tryz.prog 254 [ptr b,str name] K []
  (Ret fun v K' L'=>∃bx by_,v=.func (.func 307) #[] #[ptr bx,ptr by_]∧K' bx=some (aU [ptr b] 172)∧K' by_=some (aU [str name] 9)∧L'=[]):=by
 refine aZ Tryz.func254 rfl Tryz.ntmps254 rfl rfl fun F w=>?_
 refine zz3 ?_;rintro _ K _ ⟨b2,rfl,rfl,rfl⟩ -;refine zz1 ?_;rintro _ K _ ⟨b3,rfl,rfl,rfl⟩ -;refine zz10 ?_;refine gO fun K1 le1 hK1=>?_
 refine gO fun K2 le2 hK2=>?_
 refine bJ rfl rfl (Hl.le_trans le1 le2) ?_;exact⟨_,rfl,b2,b3,rfl,hK2,le2 _ _ hK1,rfl⟩
theorem aIF{α:Type}{z:Bool}{k:El α}{v:Value}{xs:List α}{L:List Asn}{h:Hl}(hs:Sat (sl z k v xs::L) h):∃a n c,v=.slice a n c:=by
 obtain⟨a,l,ha,_⟩:=hs;rcases ha with ⟨rfl,_⟩|⟨b,cap,junk,fz,rfl,_⟩ <;> exact⟨_,_,_,rfl⟩
theorem uK(m:Msg)(name:aJ):(f8 m name).length≤m.hs.length:=by
 unfold f8;rw[List.length_map];exact List.length_filter_le _ _
attribute [local semireducible] Go.SL.T Go.SL.OL Go.SL.D Go.SL.DL Go.SL.Ev Go.SL.Ef Go.SL.EfS in
theorem aMR(bx by_ b mb:Nat)(m:Msg)(hv pv:Value)(nm:Bool)(s:MS)(name:aJ)(sv:Value)(xs:List aJ)(K0:Hl)
  (hbx:K0 bx=some (aU [ptr b] 172)) (hy:K0 by_=some (aU [str name] 9)) (hh:Ksl hdEl K0 hv m.hs) (hln:m.hs.length≤1000000) (hs:∀h∈m.hs,h.1.length≤1000000) (hxs:xs.length≤4000000000000):
  Sp Tryz.prog 304 [sv,.func (.func 307) #[] #[ptr bx,ptr by_]] K0 [sl false (bC 9) sv xs,mch b mb m hv pv nm s]
   (Ret fun v K' L'=>L'=[sl false (bC 9) v (xs++f8 m name),mch b mb m hv pv nm s]):=by
 refine aIT Tryz.func304 rfl Tryz.ntmps304 rfl rfl fun F w=>?_
 refine aBS (fun h hs=>aIF hs) ?_;rintro⟨sa,sn,sc,rfl⟩;refine aI (aB ?_);refine ol_s (dW rfl rfl) rfl ?_;rintro _ K _ ⟨b2,rfl,rfl,rfl⟩ -;refine aA (aG rfl) rfl ?_;refine aF (aE ?_);refine aI (aI ?_);refine aB ?_;refine aA (aC rfl) rfl ?_;refine aF (aE ?_);refine bD ?_;refine aMD (RR:=fun r l d e K1 L1=>e=.returned (.tuple #[])∧r.state=.ready∧r.pending=none∧∃v,v.oneCell'=true∧L1=[mch b mb m hv pv nm s,pt l (.loop r),dblk d,pt b2 (aU [v] 39),sl false (bC 9) v (xs++f8 m name)]) rfl (cX _) (fun r l d hr0 hr1 hr2 hr3 hr4 hsz hfr=>?_) (fun r l d e K1 L1 hR le=>?_)
 ·refine xV (M:=mch b mb m hv pv nm s::[pt l (.loop r),dblk d,pt b2 (aU [.slice sa sn sc] 39),sl false (bC 9) (.slice sa sn sc) xs]) (Tks.sat (N:=[]) (.cons (.there (.there (.there (.there .here)))) (.cons .here (.cons .here (.cons .here (.cons .here .nil)))))) ?_;refine(vT l bx by_ b mb m hv pv nm s name _ _ (fun pre K1 L1=>∃v,v.oneCell'=true∧L1=[mch b mb m hv pv nm s,pt l (.loop r),dblk d,pt b2 (aU [v] 39),sl false (bC 9) v (xs++pre)]) (fun _ _ _=>False) hbx hy hh hln hs ⟨.slice sa sn sc,rfl,by rw[List.append_nil]⟩ ?_).mono ?_
  ·rintro pre x K1 _ le1 ⟨v,hv1,rfl⟩ hpre;have hlen:(pre++[x]).length≤1000000:=Nat.le_trans hpre.length_le (Nat.le_trans (uK m name) hln);simp only[List.length_append,List.length_singleton]at hlen;refine aUU (Tks.sat (N:=[]) (.cons (.there .here) (.cons .here (.cons .here (.cons .here (.cons .here .nil)))))) ?_;refine aMP (aYC (n:=13) (fr1:=(5,str x)::(7,str x)::(6,.func (.func 307) #[] #[ptr bx,ptr by_])::(4,.slice none 0 0)::(2,ptr b2)::Fr.init 0 [.slice sa sn sc,.func (.func 307) #[] #[ptr bx,ptr by_]] 13) (R:=fun t K2 L2=>t=true∧∃v,v.oneCell'=true∧L2=[pt l (.loop r.on),mch b mb m hv pv nm s,dblk d,pt b2 (aU [v] 39),sl false (bC 9) v (xs++(pre++[x]))]) hr0 hr2 rfl hsz hfr (fun F w Q hQ=>?_) (fun F w=>?_)) ?_
   ·rw[hr3];exact aD6 (aSQ (aG rfl) rfl rfl (aSR hQ))
   ·rw[hr4];refine aI8 ?_;refine aD6 ?_
    refine aSQ (aL ts39 rfl (.own (.there (.there (.there .here)))) rfl) rfl rfl ?_;refine aSQ (aC rfl) rfl rfl ?_;refine or_s (a6 (z0:=[(str [])]) bS tz9 rfl rfl rfl rfl (.cons rfl rfl rfl (.cons .nil) .nil)) rfl rfl ?_;rintro _ K _ ⟨b10,rfl,rfl,rfl⟩ -;refine or_s (dT (k:=bC 9) (ys:=[x]) fA rfl rfl (.there (.there (.there (.there (.there .here))))) (fun w j=>dK Tryz.underlying39 (SeesSl.at (.blk (.own .here) rfl rfl) j)) gBV gBV) rfl rfl ?_;rintro v11 K _ ⟨rfl,rfl,ho11⟩ -;refine bAM (bL ts39 rfl rfl ho11 (.there (.there (.there (.there (.there .here))))) .zero rfl) rfl ?_;rintro _ K _ ⟨rfl,rfl⟩ -;refine aSR ?_;refine aM ?_;intro a w fo i;exact⟨_,[mch b mb m hv pv nm s,dblk d,pt b2 (aU [v11] 39),sl false (bC 9) v11 (xs++(pre++[x]))],(i.imp (Tks.sat (.cons (.there (.there .here)) (.cons (.there (.there .here)) (.cons (.there (.there .here)) (.cons (.there (.there .here)) (.cons .here .nil))))))).left.imp (fun h k=>by rw[←List.append_assoc];exact k),Hl.le_refl _,rfl,v11,ho11,rfl⟩
   ·rintro t K2 _ ⟨rfl,v2,hv2,rfl⟩;rw[bAK hr0 hr1];exact⟨_,Tks.sat (N:=[]) (.cons (.there .here) (.cons .here (.cons .here (.cons .here (.cons .here .nil))))),.inl ⟨rfl,v2,hv2,rfl⟩⟩
  ·rintro e K1 L1 ⟨v,rfl,rfl,le,h|⟨_,_,h⟩⟩
   ·obtain⟨v,hv1,rfl⟩:=h;exact⟨rfl,hr0,hr1,v,hv1,rfl⟩
   ·exact h.elim
 obtain⟨rfl,hr0,hr1,v,hv1,rfl⟩:=hR;refine⟨_,r,[mch b mb m hv pv nm s,dblk d,pt b2 (aU [v] 39),sl false (bC 9) v (xs++f8 m name)],rfl,Tks.sat (N:=[]) (.cons (.there .here) (.cons .here (.cons .here (.cons .here (.cons .here .nil))))),by rw[hr0];simp,?_⟩
 rw[hr1]
 show D ⟨Tryz.prog,13,[mrk d],w,F⟩ _ _ _ _ _
 refine aM (aE ?_);refine aI (aB ?_);refine aA (aL ts39 rfl aN rfl) rfl ?_;refine aA (aG rfl) rfl ?_;refine aF (aE ?_);refine bK ?_;refine aO (.cons (.there .here) (.cons (.there (.there .here)) (.cons .here .nil))) ?_;exact aEN [d] (L:=[sl false (bC 9) v (xs++f8 m name),mch b mb m hv pv nm s]) rfl rfl (fun _ h=>h) le ⟨_,rfl,rfl⟩
end Go.Proofs
end
section
attribute [local irreducible] Go.SL.T Go.SL.OL Go.SL.D Go.SL.DL Go.SL.Ev Go.SL.Ef Go.SL.EfS
namespace Go.Proofs
open Go Go.SL Go.Syn Go.Mach
theorem s6(b mb:Nat)(m:Msg)(hv pv:Value)(nm:Bool)(s:MS)(lv:Value)(l:List (List UInt8))(K:Hl)(hg:Glob K)(hpv:Ksl (bC 9) K pv s.parts)(hlv:Ksl (bC 9) K lv l)(hl:l.length≤1000000)(hs:∀x∈l,x.length≤100000)(hsm:pL s.vars s.parts):
  Sp Tryz.prog 250 [ptr b,lv] K [mch b mb m hv pv nm s] (Ret fun v K' L'=>K'=K∧L'=[sl false (bC 9) v (l.map (dC nm s.vars s.parts)),mch b mb m hv pv nm s]):=by
 refine aK1 ⟨_,Tryz.func250,rfl,rfl⟩ fun av sv f c=>?_
 refine xV (show Tks [_,_] _ _ from .cons .here (.cons (.there (.there .here)) .nil)).sat (aFW (wO _ (aQC b mb _ _ _ _ _ _ pv sv s.pc nm s.vars f c s.parts lv l K hg hpv hlv hl hs hsm)) ?_)
 rintro e K' L' ⟨N,⟨v,rfl,rfl,rfl⟩,rfl⟩;exact⟨[_,mch b mb m hv pv nm s],[],fun h hh=>eC (fun h hh=>dU (s:=s) h hh) ((show Tks [_,_,_,_,_] _ []from .cons .here (.cons .here (.cons (.there .here) (.cons (.there .here) (.cons .here .nil))))).sat h hh),_,rfl,rfl,rfl⟩
theorem jK{α β:Type}(g:α→List β){l:List α}{i:Nat}{x:α}(h:l[i]?=some x):(l.take (i+1)).flatMap g=(l.take i).flatMap g++g x:=by
 have hi:i < l.length:=by
  rcases Nat.lt_or_ge i l.length with h'|h'
  ·exact h'
  ·simp[List.getElem?_eq_none h']at h
 have hc:l[i]=x:=by simpa[List.getElem?_eq_getElem hi]using h
 rw[List.take_succ_eq_append_getElem hi,hc];simp
theorem r7{α β:Type}{g:α→List β}{n:Nat}(h:∀x,(g x).length≤n):∀l:List α,(l.flatMap g).length≤l.length*n
 | []=>by simp
 |x::l=>by simp only[List.flatMap_cons,List.length_append,List.length_cons,Nat.succ_mul];have:=r7 h l;have:=h x;omega
theorem aLS(m:Msg)(n:aJ):(o4 m n).length≤1:=by unfold o4;split;simp;split <;> simp
theorem aW9{ex:aJ→aJ}{m:Msg}{o:Ins}(h:o.op=8):gC ex m o=o.a.map ex:=by unfold gC;rw[if_pos h]
theorem aW7{ex:aJ→aJ}{m:Msg}{o:Ins}(h:o.op=6):gC ex m o=(o.a.map ex).flatMap fun n=>f8 m (cN n):=by unfold gC;rw[if_neg aH,if_pos h]
theorem aW8{ex:aJ→aJ}{m:Msg}{o:Ins}(h:o.op=7):gC ex m o=o.a.flatMap (o4 m):=by unfold gC;rw[if_neg aH,if_neg aH,if_pos h]
theorem aGA{ex:aJ→aJ}{m:Msg}{o:Ins}(h8:¬o.op=8)(h6:¬o.op=6)(h7:¬o.op=7):gC ex m o=[]:=by unfold gC;rw[if_neg h8,if_neg h6,if_neg h7]
theorem aET{m:Msg}{n:aJ}(h:cN n=[102,114,111,109]):o4 m n=[m.from_]:=by unfold o4;rw[if_pos h]
theorem aEV{m:Msg}{n:aJ}(h0:¬cN n=[102,114,111,109])(h:cN n=[116,111]):o4 m n=[m.to_]:=by unfold o4;rw[if_neg h0,if_pos h]
theorem aEU{m:Msg}{n:aJ}(h0:¬cN n=[102,114,111,109])(h:¬cN n=[116,111]):o4 m n=[]:=by unfold o4;rw[if_neg h0,if_neg h]
structure MV where
 v:Value
 K:Hl
structure MW where
 i:Nat
 v:Value
 K:Hl
theorem aJE(b mb:Nat)(m:Msg)(hv pv:Value)(nm:Bool)(s:MS)(o:Ins)(av bv:Value)(K0:Hl)(hg:Glob K0)(hpv:Ksl (bC 9) K0 pv s.parts)(ha:Ksl (bC 9) K0 av o.a)(hb:Ksl (bC 9) K0 bv o.b)(hh:Ksl hdEl K0 hv m.hs)(hln:m.hs.length≤1000000)(hhs:∀h∈m.hs,h.1.length≤1000000)(hl:o.a.length≤1000000)(hs:∀x∈o.a,x.length≤100000)(hsm:pL s.vars s.parts):
  Sp Tryz.prog 251 [ptr b,mJ o av bv] K0 [mch b mb m hv pv nm s] (Ret fun v K' L'=>L'=[sl false (bC 9) v (gC (dC nm s.vars s.parts) m o),mch b mb m hv pv nm s]):=by
 obtain⟨sa,sn,sc,rfl⟩:=ha.isSlice;obtain⟨ta,tn,tc,rfl⟩:=hb.isSlice;refine aZ Tryz.func251 rfl Tryz.ntmps251 rfl rfl fun F w=>?_
 refine zz3 ?_;rintro _ K _ ⟨b3,rfl,rfl,rfl⟩ -;refine zz8 ?_;refine gG (fun(q:MV)=>K.le q.K) (fun q=>[(5,q.v)]) (fun q=>q.K) (fun q=>[sl false (bC 9) q.v (gC (dC nm s.vars s.parts) m o),mch b mb m hv pv nm s]) ?_ ?_
 ·
  refine zz13 ?_;refine bG 12 rfl (fun h12=>?_) (fun h12=>?_)
  ·
   refine zz5 ?_;refine aY rfl rfl (s6 b mb m hv pv nm s _ o.a _ hg hpv ha hl hs hsm) (.cons (.there .here) .nil) rfl ?_;rintro _ K _ ⟨rfl,rfl⟩ -;refine zz6 ?_;refine uAh ?_;refine bJ rfl rfl (by first|exact hle|exact Hl.le_refl _) ?_;rw[←aW9 (ex:=dC nm s.vars s.parts) (m:=m) h12];exact⟨_,rfl,rfl⟩
  ·
   refine zz6 ?_;refine bG 18 rfl (fun h18=>?_) (fun h18=>?_)
   ·
    refine zz5 ?_;refine aY rfl rfl (s6 b mb m hv pv nm s _ o.a _ hg hpv ha hl hs hsm) (.cons (.there .here) .nil) rfl ?_;rintro nv K _ ⟨rfl,rfl⟩ -;have hnl:∀x∈o.a.map (dC nm s.vars s.parts),x.length≤100000:=gC2;have hnn:(o.a.map (dC nm s.vars s.parts)).length≤1000000:=(by simpa using hl)
    generalize hnames:o.a.map (dC nm s.vars s.parts)=names at*
    refine uAf ?_;refine zz4 ?_;refine aIW (.cons .here (.cons .here .nil)) ?_;refine d6 (fun(q:MW)=>q.i≤names.length∧K.le q.K) (fun q=>[(0,ptr b),(5,q.v),(23,nv),(24,i64 names.length),(25,i64 q.i)]) (fun q=>q.K) (fun q=>[sl false (bC 9) q.v ((names.take q.i).flatMap fun n=>f8 m (cN n)),sl false (bC 9) nv names,mch b mb m hv pv nm s]) (fun q=>names.length - q.i) ⟨0,.slice none 0 0,K⟩ ⟨Nat.zero_le _,Hl.le_refl _⟩ (.cons 0 rfl (.cons 5 rfl (.cons 23 rfl (.cons 24 rfl (.cons 25 rfl .nil))))) rfl (eT (bC 9)) ?_;intro ⟨i,v,K1⟩ ⟨hi0,hle⟩;dsimp only at hi0 hle ⊢;have hh1:=hh.mono hle;have hfl:((names.take i).flatMap fun n=>f8 m (cN n)).length≤1000000*1000000:=Nat.le_trans (r7 (n:=1000000) (fun x=>Nat.le_trans (uK m _) hln) _) (Nat.mul_le_mul_right _ (by rw[List.length_take];omega));refine zz6 ?_;refine bG 26 rfl (fun h26=>?_) (fun h26=>?_)
    ·
     have hilt:i < names.length:=by omega
     obtain⟨x,hx⟩:∃x,names[i]?=some x:=⟨names[i]'hilt,List.getElem?_eq_getElem hilt⟩;refine zz6 ?_;refine aA (bQ (k:=(bC 9)) bS rfl aN rfl rfl gBR) rfl ?_;refine uAg ?_;refine zz7 ?_;refine cE rfl rfl (fX _ _ (by have:=hnl x (List.mem_of_getElem? hx);omega)) rfl ?_;refine aY rfl rfl (yO b (cN x) _) .nil rfl ?_;rintro _ K2 _ ⟨bx,bY,rfl,hbx,hbY,rfl⟩ le2;refine aY rfl rfl (aMR bx bY b mb m hv pv nm s (cN x) _ _ _ hbx hbY (hh1.mono le2) hln hhs aH) (.cons .here (.cons (.there .here) .nil)) rfl ?_;rintro v34 K3 _ rfl le3;refine zz8 ?_;refine aO (.cons .here (.cons (.there .here) (.cons .here .nil))) ?_;refine cG ⟨i+1,_,_⟩ ⟨by (show i+1≤names.length);omega,Hl.le_trans hle (Hl.le_trans le2 le3)⟩ (by (show names.length - (i+1) < names.length - i);omega) (.cons 0 rfl (.cons 5 rfl (.cons 23 rfl (.cons 24 rfl (.cons 25 rfl .nil))))) rfl ?_;dsimp only;rw[jK _ hx];exact fun _ h=>h
    ·
     have hfin:((names.take i).flatMap fun n=>f8 m (cN n))=gC (dC nm s.vars s.parts) m o:=(by rw[List.take_of_length_le aH,aW7 h18,hnames]);refine zz5 ?_
     first
      |exact gA2
      |exact gAV
      |exact gA1
   ·
    refine zz6 ?_;refine bG 36 rfl (fun h36=>?_) (fun h36=>?_)
    ·
     refine zz4 ?_;refine uAf ?_;refine zz4 ?_;refine d6 (fun(q:Nat×Value)=>q.1≤o.a.length) (fun q=>[(0,ptr b),(5,q.2),(39,.slice sa sn sc),(40,i64 o.a.length),(41,i64 q.1)]) (fun _=>K) (fun q=>[mch b mb m hv pv nm s,sl false (bC 9) q.2 ((o.a.take q.1).flatMap (o4 m)),pt b3 (aU [i64 o.op,i64 o.n,i64 o.tag,.bool o.oct,.slice sa sn sc,.slice ta tn tc,i64 o.at_] 41)]) (fun q=>o.a.length - q.1) ⟨0,.slice none 0 0⟩ (Nat.zero_le _) (.cons 0 rfl (.cons 5 rfl (.cons 39 rfl (.cons 40 rfl (.cons 41 rfl .nil))))) rfl (fun h hh=>gA (eT (bC 9) h (gA hh))) ?_;intro ⟨i,v⟩ hi0;dsimp only at hi0 ⊢;refine rM fun av sv f c=>?_
     have hfl:((o.a.take i).flatMap (o4 m)).length≤1000000*1:=Nat.le_trans (r7 (n:=1) (aLS m) _) (Nat.mul_le_mul_right _ (by rw[List.length_take];omega));refine zz6 ?_;refine bG 42 rfl (fun h42=>?_) (fun h42=>?_)
     ·
      have hilt:i < o.a.length:=by omega
      obtain⟨x,hx⟩:∃x,o.a[i]?=some x:=⟨o.a[i]'hilt,List.getElem?_eq_getElem hilt⟩;refine zz6 ?_;refine aA (bQ (k:=(bC 9)) bS rfl aN rfl rfl gBR) rfl ?_;refine uAg ?_;refine zz6 ?_;refine cE rfl rfl (fX _ _ (by have:=hs x (List.mem_of_getElem? hx);omega)) rfl ?_;refine zz9 ?_;refine bG 47 rfl (fun h47=>?_) (fun h47=>?_)
      ·
       refine zz8 ?_;refine ol_s (a6 (z0:=[(str [])]) bS tz9 rfl rfl rfl rfl (.cons rfl rfl rfl (.cons .nil) .nil)) rfl ?_;rintro _ K _ ⟨b56,rfl,rfl,rfl⟩ -;refine ol_s (dT (k:=(bC 9)) (ys:=[m.from_]) fA rfl rfl (.there (.there (.there (.there (.there .here))))) (fun w j=>dK Tryz.underlying39 (SeesSl.at (k:=bC 9) (.blk (.own .here) rfl rfl) j)) gB9 gB9) rfl ?_;rintro v57 K _ ⟨rfl,rfl,ho57⟩ -;refine zz9 ?_
       first
        |exact gAJ
        |exact gAI
        |exact gAP
      ·
       refine zz6 ?_;refine bG 58 rfl (fun h58=>?_) (fun h58=>?_)
       ·
        refine zz8 ?_;refine ol_s (a6 (z0:=[(str [])]) bS tz9 rfl rfl rfl rfl (.cons rfl rfl rfl (.cons .nil) .nil)) rfl ?_;rintro _ K _ ⟨b67,rfl,rfl,rfl⟩ -;refine ol_s (dT (k:=(bC 9)) (ys:=[m.to_]) fA rfl rfl (.there (.there (.there (.there (.there .here))))) (fun w j=>dK Tryz.underlying39 (SeesSl.at (k:=bC 9) (.blk (.own .here) rfl rfl) j)) gB9 gB9) rfl ?_;rintro v68 K _ ⟨rfl,rfl,ho68⟩ -;refine zz9 ?_
        first
         |exact gAJ
         |exact gAI
         |exact gAP
       ·
        refine zz8 ?_
        first
         |exact gAJ
         |exact gAI
         |exact gAP
     ·
      have hfin:((o.a.take i).flatMap (o4 m))=gC (dC nm s.vars s.parts) m o:=(by rw[List.take_of_length_le aH,aW8 h36]);refine zz5 ?_
      first
       |exact gA2
       |exact gAV
       |exact gA1
    ·
     refine zz2 ?_
     first
      |exact gA2
      |exact gAV
      |exact gA1
 ·
  intro ⟨v,K1⟩ hle;dsimp only at hle ⊢;refine zz7 ?_;refine bJ rfl rfl (by first|exact hle|exact Hl.le_refl _) ?_;exact⟨_,rfl,rfl⟩
end Go.Proofs
end
section
attribute [local irreducible] Go.SL.T Go.SL.OL Go.SL.D Go.SL.DL Go.SL.Ev Go.SL.Ef Go.SL.EfS
namespace Go.Proofs
open Go Go.SL Go.Syn Go.Mach
open R (Yl)
attribute [local semireducible] Go.SL.T Go.SL.OL Go.SL.D Go.SL.DL Go.SL.Ev Go.SL.Ef Go.SL.EfS in
theorem aQU{E:Env}{x:Exit}{fr:Fr}{K:Hl}{L:List Asn}{A:Asn}{Q:Post}(h:D E x fr K L Q):D E x fr K (A::L) Q:=fun a w f i=>h a w f i.drop
structure XI where
 i:Nat
 ds:List Nat
 K:Hl
theorem aNH{m:Msg}{l:List aJ}{x:aJ}(hx:x∈l)(h:f8 m (cN x)=[]):mY m l=false:=by
 unfold mY;rw[List.all_eq_false];exact⟨x,hx,by simp[h]⟩
theorem aJ7{m:Msg}{l:List aJ}(h:∀x∈l,f8 m (cN x)≠[]):mY m l=true:=by
 unfold mY;rw[List.all_eq_true];exact fun x hx=>by simpa using h x hx
theorem take_all_succ{α:Type}{p:α→Prop}{l:List α}{i:Nat}{x:α}(h:∀y∈l.take i,p y)(hx:l[i]?=some x)(hp:p x):∀y∈l.take (i+1),p y:=by
 have hi:i < l.length:=by
  rcases Nat.lt_or_ge i l.length with h'|h'
  ·exact h'
  ·simp[List.getElem?_eq_none h']at hx
 have hc:l[i]=x:=by simpa[List.getElem?_eq_getElem hi]using hx
 rw[List.take_succ_eq_append_getElem hi,hc];intro y hy;rcases List.mem_append.1 hy with h1|h1
 ·exact h y h1
 ·rw[List.mem_singleton.1 h1];exact hp
attribute [local semireducible] Go.SL.T Go.SL.OL Go.SL.D Go.SL.DL Go.SL.Ev Go.SL.Ef Go.SL.EfS in
theorem aE0(b mb:Nat)(m:Msg)(hv pv:Value)(nm:Bool)(s:MS)(lv:Value)(l:List aJ)(K0:Hl)(hg:Glob K0)(hpv:Ksl (bC 9) K0 pv s.parts)(hlv:Ksl (bC 9) K0 lv l)(hh:Ksl hdEl K0 hv m.hs)(hln:m.hs.length≤1000000)(hhs:∀h∈m.hs,h.1.length≤1000000)(hl:l.length≤1000000)(hs:∀x∈l,x.length≤100000)(hsm:pL s.vars s.parts):
  Sp Tryz.prog 151 [ptr b,lv] K0 [mch b mb m hv pv nm s] (Ret fun v K' L'=>v=.bool (mY m (l.map (dC nm s.vars s.parts)))∧L'=[mch b mb m hv pv nm s]):=by
 have hnl:∀x∈l.map (dC nm s.vars s.parts),x.length≤100000:=gC2;have hnn:(l.map (dC nm s.vars s.parts)).length≤1000000:=by simpa using hl
 have hall:=s6 b mb m hv pv nm s lv l K0 hg hpv hlv hl hs hsm
 generalize l.map (dC nm s.vars s.parts)=names at*
 refine aIT Tryz.func151 rfl Tryz.ntmps151 rfl rfl fun F w=>?_
 refine aI (aB ?_);refine aA (aG rfl) rfl ?_;refine aF (aE ?_);refine aFZ ?_;refine aI ?_;refine aWK ?_;refine aE (aI ?_);refine aI (aB ?_);refine aA (aC rfl) rfl ?_;refine aA (aC rfl) rfl ?_;refine aY rfl rfl hall (.cons .here .nil) rfl ?_;rintro nv K _ ⟨rfl,rfl⟩ -;refine uAf ?_;refine aA (aC rfl) rfl ?_;refine aF (aE ?_);refine bD ?_;refine aWL (fun(q:XI)=>q.i≤names.length∧K.le q.K∧∀y∈names.take q.i,f8 m (cN y)≠[]) (fun q=>q.ds.map mrk) (fun q=>[(0,ptr b),(9,nv),(10,i64 names.length),(11,i64 q.i)]) (fun q=>q.K) (fun q=>sl false (bC 9) nv names::mch b mb m hv pv nm s::q.ds.map dblk) (fun q=>names.length - q.i) ⟨0,[],K⟩ ⟨Nat.zero_le _,Hl.le_refl _,by simp⟩ rfl (.cons 0 rfl (.cons 9 rfl (.cons 10 rfl (.cons 11 rfl .nil)))) rfl (fun _ h=>h) ?_;intro ⟨i,ds,K1⟩ ⟨hi0,hle,hall⟩;dsimp only at hi0 hle hall ⊢;have hh1:=hh.mono hle;refine aI (aB ?_);refine aA (cY rfl rfl) rfl ?_;refine aF (aE ?_);refine aI ?_;refine bG 12 rfl (fun h12=>?_) (fun h12=>?_)
 ·
  have hilt:i < names.length:=by omega
  obtain⟨x,hx⟩:∃x,names[i]?=some x:=⟨names[i]'hilt,List.getElem?_eq_getElem hilt⟩;refine aW ?_;refine aE (aI ?_);refine bD (aI ?_);refine aB ?_;refine aA (bQ (k:=(bC 9)) bS rfl aN rfl rfl gBR) rfl ?_;refine uAg ?_;refine aA (aG rfl) rfl ?_;refine aF (aE ?_);refine aI (aI ?_);refine aB ?_;refine aA (aC rfl) rfl ?_;refine aA (aC rfl) rfl ?_;refine cE rfl rfl (fX _ _ (by have:=hnl x (List.mem_of_getElem? hx);omega)) rfl ?_;refine aY rfl rfl (yO b (cN x) _) .nil rfl ?_;rintro _ K2 _ ⟨bx,bY,rfl,hbx,hbY,rfl⟩ le2;refine aF (aE ?_);refine bD ?_;refine aMD (RR:=fun r l d e K4 L4=>e=.returned (.tuple #[])∧((f8 m (cN x)=[]∧r.state=.ready∧r.pending=none∧L4=mch b mb m hv pv nm s::pt l (.loop r)::dblk d::sl false (bC 9) nv names::ds.map dblk)∨(f8 m (cN x)≠[]∧L4=pt l (.loop (r.off (.exit 1)))::mch b mb m hv pv nm s::dblk d::sl false (bC 9) nv names::ds.map dblk))) rfl (cX _) (fun r l d hr0 hr1 hr2 hr3 hr4 hsz hfr=>?_) (fun r l d e K3 L3 hR le3=>?_)
  ·refine xV (M:=mch b mb m hv pv nm s::pt l (.loop r)::dblk d::sl false (bC 9) nv names::ds.map dblk) (Tks.sat (As:=[_,_,_,_]) (.cons (.there (.there (.there .here))) (.cons .here (.cons .here (.cons .here .nil))))) ?_;refine(vT l bx bY b mb m hv pv nm s (cN x) _ _ (fun pre K4 L4=>pre=[]∧L4=mch b mb m hv pv nm s::pt l (.loop r)::dblk d::sl false (bC 9) nv names::ds.map dblk) (fun pre K4 L4=>pre≠[]∧L4=pt l (.loop (r.off (.exit 1)))::mch b mb m hv pv nm s::dblk d::sl false (bC 9) nv names::ds.map dblk) hbx hbY (hh1.mono le2) hln hhs ⟨rfl,rfl⟩ ?_).mono ?_
   ·rintro pre x1 K4 _ le4 ⟨rfl,rfl⟩ hpre;refine aUU (Tks.sat (As:=[_,_]) (.cons (.there .here) (.cons .here .nil))) ?_;refine aMP (aYC (n:=21) (fr1:=[]) (R:=fun t K5 L5=>t=false∧L5=pt l (.loop (r.off (.exit 1)))::mch b mb m hv pv nm s::dblk d::sl false (bC 9) nv names::ds.map dblk) hr0 hr2 rfl hsz hfr (fun F w Q hQ=>?_) (fun F w=>?_)) ?_
    ·rw[hr3];exact fun a w f i=>aWZ hQ a w (f.keep .nil) i
    ·rw[hr4];refine aI8 ?_;refine aWY ?_;refine gJ rfl ?_
     intro a w fo i;exact⟨_,_,i,Hl.le_refl _,rfl,rfl⟩
    ·rintro t K5 _ ⟨rfl,rfl⟩;exact⟨_,fun _ h=>h,.inr ⟨rfl,by simp,rfl⟩⟩
   ·rintro e K4 L4 ⟨v,rfl,rfl,le,h|⟨pre,h1,h2,h3⟩⟩
    ·exact⟨rfl,.inl ⟨h.1,hr0,hr1,h.2⟩⟩
    ·exact⟨rfl,.inr ⟨fun e=>h2 (by rw[e]at h1;exact List.prefix_nil.1 h1),h3⟩⟩
  obtain⟨rfl,hR⟩:=hR;rcases hR with ⟨hne,hr0,hr1,rfl⟩|⟨hne,rfl⟩
  ·
   refine⟨_,r,mch b mb m hv pv nm s::dblk d::sl false (bC 9) nv names::ds.map dblk,rfl,fun h=>gA,by rw[hr0];simp,?_⟩
   rw[hr1,List.append_nil]
   show D ⟨Tryz.prog,21,mrk d::ds.map mrk,w,F⟩ _ _ _ _ _
   refine aM (aE ?_);refine aI (aB ?_);refine aA (aG rfl) rfl ?_;refine aF (aE ?_);refine bK ?_;refine bP ?_;refine bE ?_;refine bE ?_;refine bP ?_;refine bE ?_;refine m9 ?_;refine eD (Tks.sat (As:=[_,_]) (.cons (.there (.there .here)) (.cons .here .nil))) ?_;refine aQU ?_;exact aEN (d::ds) (L:=[mch b mb m hv pv nm s]) rfl rfl (fun _ h=>aIE (A:=[_]) h) (Hl.le_trans hle (Hl.le_trans le2 le3)) ⟨_,rfl,by rw[aNH (List.mem_of_getElem? hx) hne],rfl⟩
  ·
   refine⟨_,r.off (.exit 1),mch b mb m hv pv nm s::dblk d::sl false (bC 9) nv names::ds.map dblk,rfl,fun h k=>k,by simp,?_⟩
   rw[List.append_nil]
   show T ⟨Tryz.prog,21,mrk d::ds.map mrk,w,F⟩ (.exit 1) _ _ _ _
   refine cW ?_;refine gJ rfl ?_;refine aS ?_;refine bI ?_;refine aE (aB ?_);refine aA (cA rfl rfl aH aH) rfl ?_;refine aA (aC rfl) rfl ?_;refine aF ?_;exact aQZ ⟨i+1,d::ds,_⟩ ⟨by (show i+1≤names.length);omega,Hl.le_trans hle (Hl.le_trans le2 le3),take_all_succ hall hx hne⟩ (by (show names.length - (i+1) < names.length - i);omega) rfl (.cons 0 rfl (.cons 9 rfl (.cons 10 rfl (.cons 11 rfl .nil)))) rfl (Tks.sat (As:=[_,_]) (.cons (.there (.there .here)) (.cons .here .nil)))
 ·
  refine cW ?_;refine aS ?_;refine aS ?_;refine bI ?_;refine aE (aI ?_);refine aB ?_;refine aA (aG rfl) rfl ?_;refine aF (aE ?_);refine bK ?_;refine m9 ?_;refine aQU ?_;exact aEN ds (L:=[mch b mb m hv pv nm s]) rfl rfl (fun _ h=>aIE (A:=[_]) h) hle ⟨_,rfl,by rw[aJ7 (by rw[List.take_of_length_le aH]at hall;exact hall)],rfl⟩
theorem aRA(b mb:Nat)(m:Msg)(hv pv:Value)(nm:Bool)(s:MS)(o:Ins)(av bv:Value)(n:Int)(K0:Hl)(hg:Glob K0)(hpv:Ksl (bC 9) K0 pv s.parts)(ha:Ksl (bC 9) K0 av o.a)(hb:Ksl (bC 9) K0 bv o.b)(hh:Ksl hdEl K0 hv m.hs)(hln:m.hs.length≤1000000)(hhs:∀h∈m.hs,h.1.length≤1000000)(hl:o.a.length≤1000000)(hs:∀x∈o.a,x.length≤100000)(hsm:pL s.vars s.parts):
  Sp Tryz.prog 150 [ptr b,mJ o av bv,i64 n] K0 [mch b mb m hv pv nm s] (MI b mb m hv nm (push s (mY m (o.a.map (dC nm s.vars s.parts))))):=by
 obtain⟨sa,sn,sc,rfl⟩:=ha.isSlice;obtain⟨ta,tn,tc,rfl⟩:=hb.isSlice;refine aZ Tryz.func150 rfl Tryz.ntmps150 rfl rfl fun F w=>?_
 refine zz3 ?_;rintro _ K _ ⟨b4,rfl,rfl,rfl⟩ -;refine zz7 ?_;refine aY rfl rfl (aE0 b mb m hv pv nm s _ o.a _ hg hpv ha hh hln hhs hl hs hsm) (.cons (.there .here) .nil) rfl ?_;rintro _ K2 _ ⟨rfl,rfl⟩ le2;have hpv2:=hpv.mono le2;refine aX rfl rfl (lG b mb m hv pv nm s (mY m (o.a.map (dC nm s.vars s.parts))) _) (.cons .here .nil) rfl (fun _ _=>a7 _ _) ?_ ?_
 ·
  rintro _ _ _ hTr le1;obtain⟨e,p,hq,fb,h,rfl⟩:=a8 hTr;cases h
  refine uAa ?_;refine bF (Hl.le_trans le2 le1) ?_;unfold MI;rw[hq];exact⟨fb,rfl,rfl⟩
 rintro _ K _ hTr -;obtain⟨q,hq,rfl,rfl,rfl⟩:=bA hTr;clear hTr;have hqp:=eP hq;refine uAx ?_;refine cT rfl le2 ?_;unfold MI;rw[hq];exact⟨_,rfl,rfl,pv,by rw[hqp];exact hpv2,rfl⟩
end Go.Proofs
end
section
namespace Go.SL
open Go.MapKept
abbrev keyA(i j:Nat):Value:=.agg #[i64 i,i64 j]
abbrev EntA:=(Nat×Nat)×Nat
def entA(p:EntA):MapEntry:={key:=keyA p.1.1 p.1.2,val:=i64 1,born:=p.2}
abbrev mapA(es:List EntA)(c:Nat):Obj:=.map (es.map entA).toArray c
structure KeyA (P:Program) (kt:TypeId):Prop where
 arr:∃e,P.underlying kt=some (.array 2 e)∧P.underlying e=some (.int .i64)∧P.plainKey e=true∧P.cellsOf e=1∧∃i,P.info? e=some i
section
variable{P:Program}{w:World}{kt:TypeId}
theorem eqA(h:KeyA P kt)(a b c d:Nat):(Op.equal kt (keyA a b) (keyA c d)).run P w=.ok (decide ((a,b)=(c,d))) w:=by
 obtain⟨e,h1,h2,h3,h4,i,h5⟩:=h.arr
 show (Op.equalIn (9999+1) kt _ _).run P w=_
 rw[run_equalIn_array w 9999 _ _ h1 h5,h4];have p:∀(x y:Nat) (o:Nat) (v:Value),(#[i64 x,i64 y]:Array Value)[o]?=some v→(part e #[i64 x,i64 y] o).run P w=.ok v w:=fun x y o v h=>run_part_plain w h3 h
 have q:∀(x y:Nat),(Op.equalIn 9999 e (i64 x) (i64 y)).run P w=.ok ((x:Int)==y) w:=fun x y=>run_equalIn_int w 9998 e .i64 .i64 x y h2
 show (Op.eqItems 9999 e 1 _ _ [0,1]).run P w=_
 unfold Op.eqItems;rw[aP (p a b 0 (i64 a) rfl),aP (p c d 0 (i64 c) rfl),aP (q a c)]
 by_cases h:a=c
 ·subst h;rw[if_neg (by simp)];unfold Op.eqItems;rw[aP (p a b 1 (i64 b) rfl),aP (p a d 1 (i64 d) rfl),aP (q b d)]
  by_cases h2:b=d
  ·subst h2;simp[Op.eqItems,pure,Sem.run]
  ·rw[if_pos gBV];simp[h2,pure,Sem.run]
 ·rw[if_pos gBV];simp[h,pure,Sem.run]
theorem aQM(h:KeyA P kt)(b:Bool)(i j:Nat):(Instr.checkKey b 10000 kt (keyA i j)).run P w=.ok () w:=by
 obtain⟨e,h1,h2,h3,h4,inf,h5⟩:=h.arr;have p:∀(o:Nat) (v:Value),(#[i64 i,i64 j]:Array Value)[o]?=some v→(part e #[i64 i,i64 j] o).run P w=.ok v w:=fun o v h=>run_part_plain w h3 h
 have c:∀(n:Nat),(Instr.checkKey b 9999 e (i64 n)).run P w=.ok () w:=fun n=>run_checkKey h2 (d:=.int .i64) (k:=i64 n) (by trivial) b 9998
 have s:(sizeOf e).run P w=.ok 1 w:=by rw[run_sizeOf w h5,h4]
 show (Instr.checkKey b (9999+1) kt _).run P w=_
 unfold Instr.checkKey;rw[aP (run_underlying h1 w)];simp only[Std.Legacy.Range.forIn_eq_forIn_range',Std.Legacy.Range.size];simp[List.range'_succ,Sem.run_bind,s,Result.andThen,p 0 (i64 i) rfl,p 1 (i64 j) rfl,c]
def rR(k:Nat×Nat):List EntA→Nat→Option (Nat×Value)
 | [],_=>none
 |e::es,i=>if k=e.1 then some (i,i64 1)else rR k es (i+1)
theorem askA(h:KeyA P kt)(k:Nat×Nat):∀(es:List EntA) (i:Nat),(Instr.findAsking kt (keyA k.1 k.2) (es.map entA) i).run P w=.ok (rR k es i) w:=by
 intro es;induction es with
 |nil=>intro i;rfl
 |cons e es ih=>
  intro i
  show (Instr.findAsking kt (keyA k.1 k.2) (entA e::es.map entA) i).run P w=_
  unfold Instr.findAsking rR;rw[show (entA e).key=keyA e.1.1 e.1.2 from rfl,aP (eqA h k.1 k.2 e.1.1 e.1.2)]
  by_cases hk:k=e.1
  ·rw[if_pos (decide_eq_true (show (k.1,k.2)=(e.1.1,e.1.2)from hk)),if_pos hk];rfl
  ·rw[if_neg (fun h=>hk (of_decide_eq_true h)),if_neg hk];exact ih _
theorem aXG(h:KeyA P kt)(k:Nat×Nat)(es:List EntA):(Instr.findKey kt (keyA k.1 k.2) (es.map entA)).run P w=.ok (rR k es 0) w:=by
 obtain⟨e,h1,_⟩:=h.arr;unfold Instr.findKey;rw[aP (run_underlying h1 w)];cases es with
 |nil=>rfl
 |cons x xs=>exact askA h k (x::xs) 0
theorem aCH(k:Nat×Nat):∀(es:List EntA) (i:Nat),(rR k es i).isSome=decide (k∈es.map (·.1)):=by
 intro es;induction es with
 |nil=>intro i;simp[rR]
 |cons e es ih=>
  intro i;unfold rR
  by_cases hk:k=e.1
  ·simp[hk]
  ·rw[if_neg hk,ih];simp[hk]
end
section
variable{E:Env}{fr:Fr}{K:Hl}{L L':List Asn}{Q:Post}{dst:Option Tmp}{ty:TypeId}{pos:String}{aft:Array Edge}{g:Option (Nat×Bool)}{x y m:Operand}{t kt et b c i j:Nat}{v z:Value}{es:List EntA}
theorem aJ5(hm:E.P.underlying t=some (.map kt et))(hk:KeyA E.P kt)(hz:eQ E.P et=some z)(hx:fr.ev x=some (.map (some b)))(hy:fr.ev y=some (keyA i j))(hs:Sees K L b (mapA es c)):
  Ev E fr K L ⟨dst,.lookup t x y true,ty,pos,aft,g⟩ (.tuple #[if (i,j)∈es.map (·.1)then i64 1 else z,.bool (decide ((i,j)∈es.map (·.1)))]):=fun a w f q=>by
 simp only[execOp,f.ev hx,f.ev hy];refine dS ?_;have hb:=hs.at q;have h1:(Instr.checkKey (es.map entA).toArray.isEmpty 10000 kt (keyA i j)).run E.P w=.ok () w:=aQM hk _ i j;have h2:(Instr.findKey kt (keyA i j) (es.map entA)).run E.P w=_:=aXG (w:=w) hk (i,j) es;have h3:(zeroValue et).run E.P w=.ok z w:=by
  unfold eQ at hz;cases hi:E.P.info? et with
  |none=>simp[hi]at hz
  |some inf=>simp[hi]at hz;simp only[zeroValue,typeInfo,program,bind,Sem.bind,pure,Sem.run,hi,hz]
 have h4:=aCH (i,j) es 0;have h5:∀(es:List EntA) (o:Nat) (p:Nat×Value),rR (i,j) es o=some p→p.2=i64 1:=by
  intro es;induction es with
  |nil=>intro o p h;cases h
  |cons e es ih=>
   intro o p h;unfold rR at h;split at h
   ·cases h;rfl
   ·exact ih _ _ h
 unfold Instr.lookup;rw[aP (run_underlying hm w)];simp only[]
 show ((getObj b)>>=fun _=>_).run E.P w=_
 rw[aP (MapKept.run_getObj_map hb)];simp only[];rw[aP (sJ _ _),aP h1]
 show ((Instr.findKey kt (keyA i j) (es.map entA))>>=fun _=>_).run E.P w=_
 rw[aP h2];cases hf:rR (i,j) es 0 with
 |some p=>
  rw[hf]at h4;have hm:(i,j)∈es.map (·.1):=by simpa using h4.symm
  rw[if_pos hm,decide_eq_true hm,←h5 es 0 p hf];rfl
 |none=>
  rw[hf]at h4;have hm:¬(i,j)∈es.map (·.1):=by simpa using h4.symm
  rw[if_neg hm,decide_eq_false hm]
  show ((zeroValue et)>>=fun _=>_).run E.P w=_
  rw[aP h3];rfl
theorem aZG(hm:E.P.underlying t=some (.map kt et))(hk:KeyA E.P kt)(hx:fr.ev m=some (.map (some b)))(hy:fr.ev x=some (keyA i j))(hv:fr.ev y=some (i64 1))(hn:(i,j)∉es.map (·.1))
  (hF:Fnd (pt b (mapA es c)) (pt b (mapA (es++[((i,j),c)]) (c+1))) L L'):EfS E fr K L ⟨dst,.mapUpdate t m x y,ty,pos,aft,g⟩ (fun _ K' L''=>K'=K∧L''=L'):=by
 intro a w f q;have hb:=q.mem hF;have h1:(Instr.checkKey false 10000 kt (keyA i j)).run E.P w=.ok () w:=aQM hk _ i j;have h2:(Instr.findKey kt (keyA i j) (es.map entA)).run E.P w=_:=aXG (w:=w) hk (i,j) es;have hf:rR (i,j) es 0=none:=by
  have:=aCH (i,j) es 0;rw[decide_eq_false hn]at this
  simpa using this
 have hr:(execOp a.eval ⟨dst,.mapUpdate t m x y,ty,pos,aft,g⟩).run E.P w=.ok .skip {w with heap:=w.heap.setIfInBounds b (mapA (es++[((i,j),c)]) (c+1))}:=by
  simp only[execOp,f.ev hx,f.ev hy,f.ev hv];have:(Instr.mapUpdate t (.map (some b)) (keyA i j) (i64 1)).run E.P w=.ok () {w with heap:=w.heap.setIfInBounds b (mapA (es++[((i,j),c)]) (c+1))}:=by
   unfold Instr.mapUpdate;rw[aP (run_underlying hm w)];simp only[]
   show ((getObj b)>>=fun _=>_).run E.P w=_
   rw[aP (MapKept.run_getObj_map hb)];simp only[];rw[aP h1]
   show ((Instr.findKey kt (keyA i j) (es.map entA))>>=fun _=>_).run E.P w=_
   rw[aP h2,hf]
   show (setObj b _).run E.P w=_
   rw[MapKept.run_setObj_map _ hb];have e1:(es.map entA).toArray.push {key:=keyA i j,val:=i64 1,born:=c}=((es++[((i,j),c)]).map entA).toArray:=by simp[entA]
   rw[e1]
  rw[aP this];rfl
 have hs:=MapKept.heap_set (o':=mapA (es++[((i,j),c)]) (c+1)) hb;exact⟨_,_,_,_,.inr ⟨hr,rfl⟩,⟨rfl,rfl⟩,Hl.le_refl _,q.writeAt hF (by simp) hs.1 hs.2⟩
end
theorem aNF{E:Env}{fr:Fr}{K:Hl}{L:List Asn}{dst:Option Tmp}{ty:TypeId}{pos:String}{aft:Array Edge}{g:Option (Nat×Bool)}{x y:Operand}{t:TypeId}{a b:Int}(hk:KeyA E.P t)(hz:eQ E.P t=some (.agg #[i64 0,i64 0]))(hx:fr.ev x=some (i64 a))(hy:fr.ev y=some (i64 b)):
  Ev E fr K L ⟨dst,.build t #[(0,x),(1,y)],ty,pos,aft,g⟩ (.agg #[i64 a,i64 b]):=fun ac w f j=>by
 obtain⟨e,h1,h2,h3,h4,inf,h5⟩:=hk.arr;have hz3:(zeroValue t).run E.P w=.ok (.agg #[i64 0,i64 0]) w:=by
  unfold eQ at hz;cases hi:E.P.info? t with
  |none=>simp[hi]at hz
  |some inf=>simp[hi]at hz;simp only[zeroValue,typeInfo,program,bind,Sem.bind,pure,Sem.run,hi,hz]
 have s:(sizeOf e).run E.P w=.ok 1 w:=by rw[run_sizeOf w h5,h4]
 simp only[execOp];refine dS ?_;have em:Array.map (fun(p:Nat×Operand)=>(p.1,ac.eval p.2)) #[(0,x),(1,y)]= #[(0,i64 a),(1,i64 b)]:=by simp[f.ev hx,f.ev hy]
 show (Instr.build t (Array.map (fun(p:Nat×Operand)=>(p.1,ac.eval p.2)) #[(0,x),(1,y)])).run E.P w=_
 rw[em];unfold Instr.build;rw[aP hz3,aP (run_underlying h1 w)];simp only[];rw[aP s]
 rfl
theorem aVB{E:Env}{fr:Fr}{K:Hl}{L L':List Asn}{o:Oper}{N:Value→Hl→List Asn→Prop}(k:∀h,Sat L h→Sat L' h)(h:EfS E fr K L' o N):EfS E fr K L o N:=fun a w f i=>h a w f (i.imp k)
section
variable{E:Env}{c x y:Code}{fr:Fr}{K:Hl}{L:List Asn}{Q:Post}{α1 α2 α3 α4 α5:Type}
def Mid5(E:Env)(I:α1→α2→α3→α4→α5→Prop)(fr:α1→α2→α3→α4→α5→Fr)(K:α1→α2→α3→α4→α5→Hl)(L:α1→α2→α3→α4→α5→List Asn):Act→World→Prop:=fun a w=>∃i1 i2 i3 i4 i5,I i1 i2 i3 i4 i5∧FrOk E.n E.ds (fr i1 i2 i3 i4 i5) a∧In E.w0 E.F (K i1 i2 i3 i4 i5) (L i1 i2 i3 i4 i5) w
theorem aWN(I:α1→α2→α3→α4→α5→Prop)(fr':α1→α2→α3→α4→α5→Fr)(K':α1→α2→α3→α4→α5→Hl)(L':α1→α2→α3→α4→α5→List Asn)(h1:T E x fr K L (Exit.then (Mid5 E I fr' K' L') Q))(h2:∀i1 i2 i3 i4 i5,I i1 i2 i3 i4 i5→T E y (fr' i1 i2 i3 i4 i5) (K' i1 i2 i3 i4 i5) (L' i1 i2 i3 i4 i5) Q):
  T E (.seq x y) fr K L Q:=by
 intro a w f i;refine wp_seq (Code.wp_mono (fun e a w q=>?_) (h1 a w f i))
 cases e <;> first|exact q|(obtain⟨i1,i2,i3,i4,i5,hj,fj,ij⟩:=q;exact h2 i1 i2 i3 i4 i5 hj _ _ fj ij)
theorem bT{I:α1→α2→α3→α4→α5→Prop}{fr':α1→α2→α3→α4→α5→Fr}{K':α1→α2→α3→α4→α5→Hl}{L':α1→α2→α3→α4→α5→List Asn}(i1:α1)(i2:α2)(i3:α3)(i4:α4)(i5:α5)(hi:I i1 i2 i3 i4 i5)(k:Kp fr (fr' i1 i2 i3 i4 i5))(hK:K' i1 i2 i3 i4 i5=K)(hL:∀h,Sat L h→Sat (L' i1 i2 i3 i4 i5) h):
  D E .normal fr K L (Exit.then (Mid5 E I fr' K' L') Q):=fun a w f q=>⟨i1,i2,i3,i4,i5,hi,f.keep k,by rw[hK];exact q.imp hL⟩
end
end Go.SL
end
section
namespace Go.Mach
open Go.Syn
theorem vU{α:Type}{f g:Nat→Option α}(h:∀e,f e=g e):∀n e,kM f n e=kM g n e:=by
 intro n;induction n with
 |zero=>intro e;rfl
 |succ n ih=>intro e;simp only[kM,h,ih]
theorem aNL(w v k:aJ):∀(f f' i j:Nat),k.length+1 - j≤f→k.length+1 - j≤f'→j≤k.length+1→iC w v k f i j=iC w v k f' i j∨k.length < j:=by
 intro f;induction f with
 |zero=>intro f' i j h1 h2 h3;right;omega
 |succ f ih=>
  intro f' i j h1 h2 h3;rcases Nat.lt_or_ge k.length j with hj|hj
  ·exact .inr hj
  cases f' with
  |zero=>right;omega
  |succ f'=>
   left
   have e1:∀i',j+1≤k.length→iC w v k f i' (j+1)=iC w v k f' i' (j+1):=fun i' hh=>by
    rcases ih f' i' (j+1) aH aH aH with h|h
    ·exact h
    ·omega
   have e2:∀i',j+2≤k.length→iC w v k f i' (j+2)=iC w v k f' i' (j+2):=fun i' hh=>by
    rcases ih f' i' (j+2) aH aH aH with h|h
    ·exact h
    ·omega
   unfold iC;cases hk:k[j]? with
   |none=>rfl
   |some c=>
    have hjl:j < k.length:=by
     rcases Nat.lt_or_ge j k.length with h'|h'
     ·exact h'
     ·simp[List.getElem?_eq_none h']at hk
    simp only[];split
    ·exact vU (fun e=>by rw[e1 e aH]) _ _
    ·cases v[i]? with
     |none=>rfl
     |some x=>
      simp only[];split
      ·rw[e1 _ aH]
      ·split
       ·rename_i d hd;split
        ·split at hd
         ·have:j+1 < k.length:=by
           rcases Nat.lt_or_ge (j+1) k.length with h'|h'
           ·exact h'
           ·simp[List.getElem?_eq_none h']at hd
          rw[e2 _ aH]
         ·cases hd
        ·rfl
       ·split
        ·rw[e1 _ aH]
        ·rfl
def gl(w v k:aJ)(i j:Nat):Option (List aJ):=iC w v k (k.length+1 - j) i j
variable{w v k:aJ}{i j:Nat}{c d x:UInt8}
theorem oI(h:j=k.length):gl w v k i j=if i=v.length then some []else none:=by
 unfold gl;subst h
 rw[show k.length+1 - k.length=0+1 from by omega];unfold iC;rw[List.getElem?_eq_none (Nat.le_refl _)]
theorem vW(h:j < k.length):gl w v k i j=iC w v k ((k.length - (j+1)+1)+1) i j:=by
 unfold gl;congr 1;omega
theorem aVI(hc:k[j]?=some c)(h:j < k.length)(h42:c.toNat=42):gl w v k i j=kM (fun e=>(gl w v k e (j+1)).map fun ps=>((w.take e).drop i)::ps) (v.length+1 - i) i:=by
 rw[vW h];unfold iC;simp only[hc];rw[if_pos h42]
 refine vU (fun e=>?_) _ _
 unfold gl;congr 2;omega
theorem lX(hc:k[j]?=some c)(h:j < k.length)(h42:¬c.toNat=42)(hi:v.length≤i):gl w v k i j=none:=by
 rw[vW h];unfold iC;simp only[hc];rw[if_neg h42,List.getElem?_eq_none hi]
theorem gl_q(hc:k[j]?=some c)(h:j < k.length)(hx:v[i]?=some x)(h63:c.toNat=63):gl w v k i j=(gl w v k (i+1) (j+1)).map fun ps=>((w.take (i+1)).drop i)::ps:=by
 rw[vW h];unfold iC;simp only[hc,hx];rw[if_neg aH,if_pos h63]
 unfold gl;congr 2;omega
theorem gY(hc:k[j]?=some c)(h:j+1 < k.length)(hx:v[i]?=some x)(h92:c.toNat=92)(hd:k[j+1]?=some d):gl w v k i j=if x=d then gl w v k (i+1) (j+2)else none:=by
 rw[vW aH];unfold iC;simp only[hc,hx];rw[if_neg aH,if_neg aH,if_pos h92,hd]
 simp only[];split
 ·unfold gl;rcases aNL w v k (k.length - (j+1)+1) (k.length+1 - (j+2)) (i+1) (j+2) aH aH aH with h'|h'
  ·exact h'
  ·omega
 ·rfl
theorem gZ(hc:k[j]?=some c)(h:j < k.length)(hx:v[i]?=some x)(h42:¬c.toNat=42)(h63:¬c.toNat=63)(h92:¬(c.toNat=92∧j+1 < k.length)):gl w v k i j=if x=c then gl w v k (i+1) (j+1)else none:=by
 rw[vW h];unfold iC;simp only[hc,hx];rw[if_neg h42,if_neg h63]
 have e:(if c.toNat=92 then k[j+1]? else none)=none:=by
  split
  ·exact List.getElem?_eq_none aH
  ·rfl
 rw[e];simp only[];split
 ·unfold gl;congr 1;omega
 ·rfl
end Go.Mach
end

/-
  What the proof stands on, part 4: the logic of walks, the walks through the functions, the plain laws. Conditions: as each theorem says. (Merged and shortened by a program.)
-/
import Derived.Lib.OthersKept
import Derived.Lib.IndexMore
import Derived.Lib.IndexLaws
import Derived.Lib.IndexBytes
import Derived.Stop.Asserts
import Derived.RowKitTokens
import Derived.LaidEql
import Derived.KernelRfl
import Derived.Test.YthopmddkpdehiaaGreatDoorRows
import Derived.Lib.LaidTab
import Derived.LaidMore
import Derived.LaidHandle
import Derived.HandedShaped
import Derived.Shelf.Vars
import Derived.Stop.LaidErr
import Derived.OpenShut
import Derived.Below
import Derived.Test.YthopmddkpdehiaaGreatDoorK1
import Derived.Test.YthopmddkpdehiaaGreatDoorK2
import Derived.Test.YthopmddkpdehiaaGreatDoorK3
set_option linter.unusedVariables false
set_option linter.unusedSimpArgs false
set_option maxRecDepth 4000
set_option maxHeartbeats 1000000
section
attribute [local irreducible] Go.SL.T Go.SL.OL Go.SL.D Go.SL.DL Go.SL.Ev Go.SL.Ef Go.SL.EfS
namespace Go.Proofs
open Go Go.SL Go.Syn Go.Mach
theorem aFC:KeyA Tryz.prog 428:=⟨⟨3,Tryz.underlying428,Tryz.underlying3,by kernel_rfl,by kernel_rfl,info_of_underlying Tryz.underlying3⟩⟩
def zP(w v k:List UInt8)(es:List EntA):Prop:=∀e∈es,gl w v k e.1.1 e.1.2=none
abbrev GlR(w v k:List UInt8)(i j:Nat)(bp md:Nat)(ps:List (List UInt8))(es:List EntA)(K:Hl):Ending→Hl→List Asn→Prop:=Ret fun r K' L'=>K'=K∧r=.bool (gl w v k i j).isSome∧∃pv es' c',zP w v k es'∧(∀e∈es',e∈es∨j≤e.1.2)∧L'=[pt bp (aU [pv] 39),sl false (bC 9) pv (ps++(gl w v k i j).getD []),pt md (mapA es' c')]
structure GlK (w v k:List UInt8) (bd md bp bk bv bw bm:Nat) (K:Hl):Prop where
 hd:K bd=some (aU [.map (some md)] 427)
 hk:K bk=some (aU [str k] 9)
 hv:K bv=some (aU [str v] 9)
 hw:K bw=some (aU [str w] 9)
 hm:K bm=some (aU [.func (.func 306) #[] #[ptr bd,ptr bp,ptr bk,ptr bv,ptr bw,ptr bm]] 169)
theorem aQ1{w v k:List UInt8}{es:List EntA}{i j:Nat}(h:zP w v k es)(hm:(i,j)∈es.map (fun x=>x.1)):gl w v k i j=none:=by
 obtain⟨e,he,e2⟩:=List.mem_map.1 hm;have:=h e he;rw[e2]at this;exact this
theorem aNI{α:Type}{f:Nat→Option α}{n e:Nat}(he:e≤n)(h:f e=none):kM f (n+1 - e) e=kM f (n+1 - (e+1)) (e+1):=by
 rw[show n+1 - e=(n+1 - (e+1))+1 from by omega];simp only[kM,h]
theorem aKA{α:Type}{f:Nat→Option α}{n e:Nat}{x:α}(he:e≤n)(h:f e=some x):kM f (n+1 - e) e=some x:=by
 rw[show n+1 - e=(n+1 - (e+1))+1 from by omega];simp only[kM,h]
theorem vC(j:Nat):((j:Int)+1)=((j+1:Nat):Int):=by omega
theorem aZ6(j:Nat):((j:Int)+2)=((j+2:Nat):Int):=by omega
theorem aTK{α:Type}{A B:Asn}{z:Bool}{k:El α}{v:Value}{xs:List α}{L:List Asn}{n:Nat}{h:Hl}(hs:Sat (A::B::sl z k v xs::L) h):(slTo v n).oneCell'=true:=by
 obtain⟨_,l,_,hl,_,_⟩:=hs;obtain⟨_,l2,_,hl2,_,_⟩:=hl;obtain⟨x,_,hx,_,_,_⟩:=hl2;rcases hx with ⟨rfl,_⟩|⟨b,cap,junk,fz,rfl,_⟩ <;> rfl
theorem aKC(w0 v k:List UInt8)(bd md bp bk bv bw bm:Nat)(hlw:w0.length=v.length)(hv:v.length≤1000000)(hk:k.length≤1000000):∀(n i j:Nat) (ps:List (List UInt8)) (es:List EntA) (c:Nat) (pv:Value) (K:Hl),k.length+1 - j≤n→GlK w0 v k bd md bp bk bv bw bm K→i≤v.length→j≤k.length→ps.length≤j→zP w0 v k es→
    Sp Tryz.prog 306 [i64 i,i64 j,ptr bd,ptr bp,ptr bk,ptr bv,ptr bw,ptr bm] K [pt bp (aU [pv] 39),sl false (bC 9) pv ps,pt md (mapA es c)] (GlR w0 v k i j bp md ps es K):=by
  intro n;induction n with
  |zero=>intro i j ps es c pv K h1 h2 h3 h4;omega
  |succ n ih=>
    intro i j ps es c pv K hn hK hi hj hps hes;obtain⟨kd,kk,kv,kw,km⟩:=hK;refine aZ Tryz.func306 rfl Tryz.ntmps306 rfl rfl fun F w=>?_
    refine zz9 ?_;refine aA (aNF aFC bBL rfl rfl) rfl ?_;refine zz1 ?_;rintro _ K _ ⟨b11,rfl,rfl,rfl⟩ -;refine bR (cM aF3 rfl rfl rfl bB gBK (.cons (.cons .nil)) gBU) ?_;rintro _ K _ ⟨rfl,rfl⟩ -;refine zz7 ?_;refine aA (aJ5 Tryz.underlying427 aFC tv3 rfl rfl (by first|exact .own .here|exact .own (.there .here)|exact .own (.there (.there .here))|exact .own (.there (.there (.there .here)))|exact .own (.there (.there (.there (.there .here)))))) rfl ?_;refine zz12 ?_;refine bG 26 rfl (fun h26=>?_) (fun h26=>?_)
    ·
      refine zz7 ?_;refine aO (.cons (.there .here) (.cons (.there .here) (.cons (.there .here) .nil))) ?_;refine zz1 ?_;have hgn:=aQ1 hes h26;exact⟨_,rfl,rfl,by rw[hgn];rfl,pv,es,c,hes,fun e h=>.inl h,by rw[hgn];simp⟩
    ·
      refine zz5 ?_;refine uAf ?_;refine zz8 ?_;refine aWN (fun(r:Option (List (List UInt8))) (pv2:Value) (cur:List (List UInt8)) (es2:List EntA) (c2:Nat)=>gl w0 v k i j=r∧(∀qs,r=some qs→cur=ps++qs)∧(r=none→cur.take ps.length=ps∧ps.length≤cur.length)∧zP w0 v k es2∧(∀e∈es2,e∈es∨j+1≤e.1.2)) (fun r _ _ _ _=>[(2,ptr bd),(3,ptr bp),(11,ptr b11),(14,i64 ps.length),(15,.bool r.isSome)]) (fun _ _ _ _ _=>K) (fun r pv2 cur es2 c2=>[pt b11 (aU [i64 i,i64 j] 428),pt bp (aU [pv2] 39),sl false (bC 9) pv2 cur,pt md (mapA es2 c2)]) ?_ ?_
      ·
        refine zz10 ?_;refine bG 44 rfl (fun h44=>?_) (fun h44=>?_)
        ·
          refine zz8 ?_
          first
            |exact gAA
            |exact gAC
            | (have hge := gl_q (w := w0) hc hjl hx aH
               refine uAc ?_;rcases hq:gl w0 v k (i+1) (j+1)with _|qs
               · (rw[hq]at hge;exact bT none pv3 (ps++[((w0.take (i+1)).drop i)]++[]) es3 c3 ⟨hge,(fun qs h=>by cases h),(fun _=>⟨by simp,by simp⟩),hde3,(fun q hq2=>(hnew3 q hq2).elim (fun h=>.inl h) (fun h=>.inr h))⟩ (.cons 2 rfl (.cons 3 rfl (.cons 11 rfl (.cons 14 rfl (.cons 15 rfl .nil))))) rfl bO)
               · (rw[hq]at hge;exact bT (some (((w0.take (i+1)).drop i)::qs)) pv3 (ps++[((w0.take (i+1)).drop i)]++qs) es3 c3 ⟨hge,(fun qs2 h=>by cases h;simp),(fun h=>by cases h),hde3,(fun q hq2=>(hnew3 q hq2).elim (fun h=>.inl h) (fun h=>.inr h))⟩ (.cons 2 rfl (.cons 3 rfl (.cons 11 rfl (.cons 14 rfl (.cons 15 rfl .nil))))) rfl bO))
            | (have hxd : x = d := UInt8.toNat_inj.1 aH
               have hge:=gY (w:=w0) hc aH hx aH hd;rw[if_pos hxd]at hge;refine uAb ?_;rcases hq:gl w0 v k (i+1) (j+2)with _|qs
               · (rw[hq]at hge;exact bT none pv3 (ps++[]) es3 c3 ⟨hge,(fun qs h=>by cases h),(fun _=>⟨by simp,by simp⟩),hde3,(fun q hq2=>(hnew3 q hq2).elim (fun h=>.inl h) (fun h=>.inr aH))⟩ (.cons 2 rfl (.cons 3 rfl (.cons 11 rfl (.cons 14 rfl (.cons 15 rfl .nil))))) rfl bO)
               · (rw[hq]at hge;exact bT (some qs) pv3 (ps++qs) es3 c3 ⟨hge,(fun qs2 h=>by cases h;simp),(fun h=>by cases h),hde3,(fun q hq2=>(hnew3 q hq2).elim (fun h=>.inl h) (fun h=>.inr aH))⟩ (.cons 2 rfl (.cons 3 rfl (.cons 11 rfl (.cons 14 rfl (.cons 15 rfl .nil))))) rfl bO))
            | (have hxd : ¬ x = d := (fun h => by subst h; omega)
               have hge:=gY (w:=w0) hc aH hx aH hd;rw[if_neg hxd]at hge;exact bT none pv ps es c ⟨hge,(fun qs h=>by cases h),(fun _=>⟨List.take_length,Nat.le_refl _⟩),hes,(fun q hq=>.inl hq)⟩ (.cons 2 rfl (.cons 3 rfl (.cons 11 rfl (.cons 14 rfl (.cons 15 rfl .nil))))) rfl bO)
            | (have hxd : x = c1 := UInt8.toNat_inj.1 aH
               have hge:=gZ (w:=w0) hc hjl hx aH aH aH;rw[if_pos hxd]at hge;refine uAb ?_;rcases hq:gl w0 v k (i+1) (j+1)with _|qs
               · (rw[hq]at hge;exact bT none pv3 (ps++[]) es3 c3 ⟨hge,(fun qs h=>by cases h),(fun _=>⟨by simp,by simp⟩),hde3,(fun q hq2=>(hnew3 q hq2).elim (fun h=>.inl h) (fun h=>.inr h))⟩ (.cons 2 rfl (.cons 3 rfl (.cons 11 rfl (.cons 14 rfl (.cons 15 rfl .nil))))) rfl bO)
               · (rw[hq]at hge;exact bT (some qs) pv3 (ps++qs) es3 c3 ⟨hge,(fun qs2 h=>by cases h;simp),(fun h=>by cases h),hde3,(fun q hq2=>(hnew3 q hq2).elim (fun h=>.inl h) (fun h=>.inr h))⟩ (.cons 2 rfl (.cons 3 rfl (.cons 11 rfl (.cons 14 rfl (.cons 15 rfl .nil))))) rfl bO))
            | (have hxd : ¬ x = c1 := (fun h => by subst h; omega)
               have hge:=gZ (w:=w0) hc hjl hx aH aH aH;rw[if_neg hxd]at hge;exact bT none pv ps es c ⟨hge,(fun qs h=>by cases h),(fun _=>⟨List.take_length,Nat.le_refl _⟩),hes,(fun q hq=>.inl hq)⟩ (.cons 2 rfl (.cons 3 rfl (.cons 11 rfl (.cons 14 rfl (.cons 15 rfl .nil))))) rfl bO)
            | (have hge := oI (w := w0) (v := v) (k := k) (i := i) (j := j) aH
               by_cases hiv:i=v.length
               · (rw[if_pos hiv]at hge;rw[show decide ((i:Int)=(v.length:Int))=true from decide_eq_true aH];exact bT (some []) pv ps es c ⟨hge,(fun qs h=>by cases h;simp),(fun h=>by cases h),hes,(fun q hq=>.inl hq)⟩ (.cons 2 rfl (.cons 3 rfl (.cons 11 rfl (.cons 14 rfl (.cons 15 rfl .nil))))) rfl bO)
               · (rw[if_neg hiv]at hge;rw[show decide ((i:Int)=(v.length:Int))=false from decide_eq_false aH];exact bT none pv ps es c ⟨hge,(fun qs h=>by cases h),(fun _=>⟨List.take_length,Nat.le_refl _⟩),hes,(fun q hq=>.inl hq)⟩ (.cons 2 rfl (.cons 3 rfl (.cons 11 rfl (.cons 14 rfl (.cons 15 rfl .nil))))) rfl bO))
        ·
          have hjl:j < k.length:=by omega
          obtain⟨c1,hc⟩:∃c1,k[j]?=some c1:=⟨k[j]'hjl,List.getElem?_eq_getElem hjl⟩;refine zz9 ?_;refine bG 53 rfl (fun h53=>?_) (fun h53=>?_)
          ·
            refine zz7 ?_;refine aFY (fun(e:Nat) (r2:Option (List (List UInt8))) (pv2:Value) (cur:List (List UInt8)) (es2:List EntA) (c2:Nat) (_:Unit)=>(i≤e∧e≤v.length+1)∧(r2=none→gl w0 v k i j=kM (fun e=>(gl w0 v k e (j+1)).map fun qs=>((w0.take e).drop i)::qs) (v.length+1 - e) e)∧(∀qs,r2=some qs→gl w0 v k i j=some qs∧cur=ps++qs)∧(r2=none→cur.take ps.length=ps∧ps.length≤cur.length)∧zP w0 v k es2∧(∀e∈es2,e∈es∨j+1≤e.1.2)) (fun e r2 _ _ _ _ _=>[(0,i64 i),(1,i64 j),(2,ptr bd),(3,ptr bp),(4,ptr bk),(5,ptr bv),(6,ptr bw),(7,ptr bm),(11,ptr b11),(14,i64 ps.length),(15,.bool r2.isSome),(16,i64 e)]) (fun _ _ _ _ _ _ _=>K) (fun _ _ pv2 cur es2 c2 _=>[pt b11 (aU [i64 i,i64 j] 428),pt bp (aU [pv2] 39),sl false (bC 9) pv2 cur,pt md (mapA es2 c2)]) (fun e _ _ _ _ _ _=>v.length+1 - e) i none pv ps es c () ⟨⟨Nat.le_refl _,by omega⟩,fun _=>aVI hc hjl aH,(fun qs h=>by cases h),(fun _=>⟨List.take_length,Nat.le_refl _⟩),hes,(fun q hq=>.inl hq)⟩ (.cons 0 rfl (.cons 1 rfl (.cons 2 rfl (.cons 3 rfl (.cons 4 rfl (.cons 5 rfl (.cons 6 rfl (.cons 7 rfl (.cons 11 rfl (.cons 14 rfl (.cons 15 rfl (.cons 16 rfl .nil)))))))))))) rfl (fun _ h=>h) ?_;intro e r2 pv2 cur es2 c2 _ ⟨hle,hln,hls,hlt,hld,hlw⟩;refine zz8 ?_;refine cF 63 rfl (fun g63=>?_) (fun g63=>?_)
            ·
              refine zz3 ?_;refine aA gBN rfl ?_;refine zz3 ?_;refine d8 66 rfl (fun h66=>?_) (fun h66=>?_)
              ·
                obtain rfl:r2=none:=(by cases r2 with|none=>rfl|some q=>simp at h66);obtain⟨hct,hcl⟩:=hlt rfl;refine zz5 ?_;refine t_draw (anc:=[0,0,3,0,0,0,56,120,255,511]) (ord:=[0,1,2,3,4,5,6,7,8,9]) [7,8,9] [8,9] mixed gBO (.cons (.there .here) (.cons (.there .here) .nil)) ?_;refine zz2 ?_;refine dl_ev rfl rfl (.none rfl) rfl rfl (uJ (k:=bC 9) (m:=ps.length) bS rfl (.there .here) (.there .here) rfl rfl hcl) rfl ?_;refine zz3 ?_;refine dl_ev rfl rfl (.none rfl) rfl rfl (lW (m:=i) (n:=e) Tryz.underlying9 rfl rfl rfl rfl rfl aH aH) rfl ?_;refine dl_s rfl rfl (.none rfl) rfl rfl (a6 (z0:=[(str [])]) bS tz9 rfl rfl rfl rfl (.cons rfl rfl rfl (.cons .nil) .nil)) rfl ?_;rintro _ K _ ⟨b76,rfl,rfl,rfl⟩ -;refine⟨_,(show Tks _ _ _ from (.cons (.there .here) (.cons (.there .here) .nil))).sat,?_⟩
                refine dl_g rfl rfl (.none rfl) rfl (aVB (fun h hh=>iF (zL (m:=ps.length) hcl) h ((show Tks [_] _ _ from .cons (.there .here) .nil).sat h hh)) (dT (k:=(bC 9)) (ys:=[((w0.take e).drop i)]) fA rfl rfl .here (fun w j=>dK Tryz.underlying39 (SeesSl.at (.blk (.own (.there (.there .here))) rfl rfl) j)) (by rw[hct];first|(simp;omega)|omega) (by rw[hct];first|(simp;omega)|omega))) rfl ?_;rintro v77 K _ ⟨rfl,rfl,ho77⟩ -;refine vL rfl rfl (.none rfl) rfl (bL ts39 rfl rfl cK bB .zero rfl) ?_;rintro _ K _ ⟨rfl,rfl⟩ -;refine zz2 ?_;rw[hct];refine zz5 ?_;rw[vC j];refine aY rfl rfl (ih e (j+1) (ps++[((w0.take e).drop i)]) es2 c2 _ _ aH ⟨kd,kk,kv,kw,km⟩ aH aH (by rw[List.length_append];simp only[List.length_singleton];omega) hld) (.cons (.there .here) (.cons .here (.cons (.there (.there .here)) .nil))) rfl ?_;rintro _ K _ ⟨rfl,rfl,pv3,es3,c3,hde3,hnew3,rfl⟩ -;refine zz9 ?_;refine uAc ?_;rcases hq:gl w0 v k e (j+1)with _|qs
                · (refine jG (e+1) none pv3 (ps++[((w0.take e).drop i)]++[]) es3 c3 () ⟨⟨by omega,by omega⟩,(fun _=>by rw[hln rfl,aNI aH (by rw[hq];rfl)]),(fun qs h=>by cases h),(fun _=>⟨by simp,by simp⟩),hde3,(fun q hq2=>(hnew3 q hq2).elim (fun h=>hlw q h) (fun h=>.inr h))⟩ aH (.cons 0 rfl (.cons 1 rfl (.cons 2 rfl (.cons 3 rfl (.cons 4 rfl (.cons 5 rfl (.cons 6 rfl (.cons 7 rfl (.cons 11 rfl (.cons 14 rfl (.cons 15 rfl (.cons 16 rfl .nil)))))))))))) rfl bO)
                · (refine jG (e+1) (some (((w0.take e).drop i)::qs)) pv3 (ps++[((w0.take e).drop i)]++qs) es3 c3 () ⟨⟨by omega,by omega⟩,(fun h=>by cases h),(fun qs2 h=>by cases h;exact⟨by rw[hln rfl,aKA aH (by rw[hq];rfl)],by simp⟩),(fun h=>by cases h),hde3,(fun q hq2=>(hnew3 q hq2).elim (fun h=>hlw q h) (fun h=>.inr h))⟩ aH (.cons 0 rfl (.cons 1 rfl (.cons 2 rfl (.cons 3 rfl (.cons 4 rfl (.cons 5 rfl (.cons 6 rfl (.cons 7 rfl (.cons 11 rfl (.cons 14 rfl (.cons 15 rfl (.cons 16 rfl .nil)))))))))))) rfl bO)
              ·
                refine zz5 ?_
                first
                  |exact gAA
                  |exact gAC
                  | (have hge := gl_q (w := w0) hc hjl hx aH
                     refine uAc ?_;rcases hq:gl w0 v k (i+1) (j+1)with _|qs
                     · (rw[hq]at hge;exact bT none pv3 (ps++[((w0.take (i+1)).drop i)]++[]) es3 c3 ⟨hge,(fun qs h=>by cases h),(fun _=>⟨by simp,by simp⟩),hde3,(fun q hq2=>(hnew3 q hq2).elim (fun h=>.inl h) (fun h=>.inr h))⟩ (.cons 2 rfl (.cons 3 rfl (.cons 11 rfl (.cons 14 rfl (.cons 15 rfl .nil))))) rfl bO)
                     · (rw[hq]at hge;exact bT (some (((w0.take (i+1)).drop i)::qs)) pv3 (ps++[((w0.take (i+1)).drop i)]++qs) es3 c3 ⟨hge,(fun qs2 h=>by cases h;simp),(fun h=>by cases h),hde3,(fun q hq2=>(hnew3 q hq2).elim (fun h=>.inl h) (fun h=>.inr h))⟩ (.cons 2 rfl (.cons 3 rfl (.cons 11 rfl (.cons 14 rfl (.cons 15 rfl .nil))))) rfl bO))
                  | (have hxd : x = d := UInt8.toNat_inj.1 aH
                     have hge:=gY (w:=w0) hc aH hx aH hd;rw[if_pos hxd]at hge;refine uAb ?_;rcases hq:gl w0 v k (i+1) (j+2)with _|qs
                     · (rw[hq]at hge;exact bT none pv3 (ps++[]) es3 c3 ⟨hge,(fun qs h=>by cases h),(fun _=>⟨by simp,by simp⟩),hde3,(fun q hq2=>(hnew3 q hq2).elim (fun h=>.inl h) (fun h=>.inr aH))⟩ (.cons 2 rfl (.cons 3 rfl (.cons 11 rfl (.cons 14 rfl (.cons 15 rfl .nil))))) rfl bO)
                     · (rw[hq]at hge;exact bT (some qs) pv3 (ps++qs) es3 c3 ⟨hge,(fun qs2 h=>by cases h;simp),(fun h=>by cases h),hde3,(fun q hq2=>(hnew3 q hq2).elim (fun h=>.inl h) (fun h=>.inr aH))⟩ (.cons 2 rfl (.cons 3 rfl (.cons 11 rfl (.cons 14 rfl (.cons 15 rfl .nil))))) rfl bO))
                  | (have hxd : ¬ x = d := (fun h => by subst h; omega)
                     have hge:=gY (w:=w0) hc aH hx aH hd;rw[if_neg hxd]at hge;exact bT none pv ps es c ⟨hge,(fun qs h=>by cases h),(fun _=>⟨List.take_length,Nat.le_refl _⟩),hes,(fun q hq=>.inl hq)⟩ (.cons 2 rfl (.cons 3 rfl (.cons 11 rfl (.cons 14 rfl (.cons 15 rfl .nil))))) rfl bO)
                  | (have hxd : x = c1 := UInt8.toNat_inj.1 aH
                     have hge:=gZ (w:=w0) hc hjl hx aH aH aH;rw[if_pos hxd]at hge;refine uAb ?_;rcases hq:gl w0 v k (i+1) (j+1)with _|qs
                     · (rw[hq]at hge;exact bT none pv3 (ps++[]) es3 c3 ⟨hge,(fun qs h=>by cases h),(fun _=>⟨by simp,by simp⟩),hde3,(fun q hq2=>(hnew3 q hq2).elim (fun h=>.inl h) (fun h=>.inr h))⟩ (.cons 2 rfl (.cons 3 rfl (.cons 11 rfl (.cons 14 rfl (.cons 15 rfl .nil))))) rfl bO)
                     · (rw[hq]at hge;exact bT (some qs) pv3 (ps++qs) es3 c3 ⟨hge,(fun qs2 h=>by cases h;simp),(fun h=>by cases h),hde3,(fun q hq2=>(hnew3 q hq2).elim (fun h=>.inl h) (fun h=>.inr h))⟩ (.cons 2 rfl (.cons 3 rfl (.cons 11 rfl (.cons 14 rfl (.cons 15 rfl .nil))))) rfl bO))
                  | (have hxd : ¬ x = c1 := (fun h => by subst h; omega)
                     have hge:=gZ (w:=w0) hc hjl hx aH aH aH;rw[if_neg hxd]at hge;exact bT none pv ps es c ⟨hge,(fun qs h=>by cases h),(fun _=>⟨List.take_length,Nat.le_refl _⟩),hes,(fun q hq=>.inl hq)⟩ (.cons 2 rfl (.cons 3 rfl (.cons 11 rfl (.cons 14 rfl (.cons 15 rfl .nil))))) rfl bO)
                  | (have hge := oI (w := w0) (v := v) (k := k) (i := i) (j := j) aH
                     by_cases hiv:i=v.length
                     · (rw[if_pos hiv]at hge;rw[show decide ((i:Int)=(v.length:Int))=true from decide_eq_true aH];exact bT (some []) pv ps es c ⟨hge,(fun qs h=>by cases h;simp),(fun h=>by cases h),hes,(fun q hq=>.inl hq)⟩ (.cons 2 rfl (.cons 3 rfl (.cons 11 rfl (.cons 14 rfl (.cons 15 rfl .nil))))) rfl bO)
                     · (rw[if_neg hiv]at hge;rw[show decide ((i:Int)=(v.length:Int))=false from decide_eq_false aH];exact bT none pv ps es c ⟨hge,(fun qs h=>by cases h),(fun _=>⟨List.take_length,Nat.le_refl _⟩),hes,(fun q hq=>.inl hq)⟩ (.cons 2 rfl (.cons 3 rfl (.cons 11 rfl (.cons 14 rfl (.cons 15 rfl .nil))))) rfl bO))
            ·
              refine zz11 ?_
              first
                |exact gAA
                |exact gAC
                | (have hge := gl_q (w := w0) hc hjl hx aH
                   refine uAc ?_;rcases hq:gl w0 v k (i+1) (j+1)with _|qs
                   · (rw[hq]at hge;exact bT none pv3 (ps++[((w0.take (i+1)).drop i)]++[]) es3 c3 ⟨hge,(fun qs h=>by cases h),(fun _=>⟨by simp,by simp⟩),hde3,(fun q hq2=>(hnew3 q hq2).elim (fun h=>.inl h) (fun h=>.inr h))⟩ (.cons 2 rfl (.cons 3 rfl (.cons 11 rfl (.cons 14 rfl (.cons 15 rfl .nil))))) rfl bO)
                   · (rw[hq]at hge;exact bT (some (((w0.take (i+1)).drop i)::qs)) pv3 (ps++[((w0.take (i+1)).drop i)]++qs) es3 c3 ⟨hge,(fun qs2 h=>by cases h;simp),(fun h=>by cases h),hde3,(fun q hq2=>(hnew3 q hq2).elim (fun h=>.inl h) (fun h=>.inr h))⟩ (.cons 2 rfl (.cons 3 rfl (.cons 11 rfl (.cons 14 rfl (.cons 15 rfl .nil))))) rfl bO))
                | (have hxd : x = d := UInt8.toNat_inj.1 aH
                   have hge:=gY (w:=w0) hc aH hx aH hd;rw[if_pos hxd]at hge;refine uAb ?_;rcases hq:gl w0 v k (i+1) (j+2)with _|qs
                   · (rw[hq]at hge;exact bT none pv3 (ps++[]) es3 c3 ⟨hge,(fun qs h=>by cases h),(fun _=>⟨by simp,by simp⟩),hde3,(fun q hq2=>(hnew3 q hq2).elim (fun h=>.inl h) (fun h=>.inr aH))⟩ (.cons 2 rfl (.cons 3 rfl (.cons 11 rfl (.cons 14 rfl (.cons 15 rfl .nil))))) rfl bO)
                   · (rw[hq]at hge;exact bT (some qs) pv3 (ps++qs) es3 c3 ⟨hge,(fun qs2 h=>by cases h;simp),(fun h=>by cases h),hde3,(fun q hq2=>(hnew3 q hq2).elim (fun h=>.inl h) (fun h=>.inr aH))⟩ (.cons 2 rfl (.cons 3 rfl (.cons 11 rfl (.cons 14 rfl (.cons 15 rfl .nil))))) rfl bO))
                | (have hxd : ¬ x = d := (fun h => by subst h; omega)
                   have hge:=gY (w:=w0) hc aH hx aH hd;rw[if_neg hxd]at hge;exact bT none pv ps es c ⟨hge,(fun qs h=>by cases h),(fun _=>⟨List.take_length,Nat.le_refl _⟩),hes,(fun q hq=>.inl hq)⟩ (.cons 2 rfl (.cons 3 rfl (.cons 11 rfl (.cons 14 rfl (.cons 15 rfl .nil))))) rfl bO)
                | (have hxd : x = c1 := UInt8.toNat_inj.1 aH
                   have hge:=gZ (w:=w0) hc hjl hx aH aH aH;rw[if_pos hxd]at hge;refine uAb ?_;rcases hq:gl w0 v k (i+1) (j+1)with _|qs
                   · (rw[hq]at hge;exact bT none pv3 (ps++[]) es3 c3 ⟨hge,(fun qs h=>by cases h),(fun _=>⟨by simp,by simp⟩),hde3,(fun q hq2=>(hnew3 q hq2).elim (fun h=>.inl h) (fun h=>.inr h))⟩ (.cons 2 rfl (.cons 3 rfl (.cons 11 rfl (.cons 14 rfl (.cons 15 rfl .nil))))) rfl bO)
                   · (rw[hq]at hge;exact bT (some qs) pv3 (ps++qs) es3 c3 ⟨hge,(fun qs2 h=>by cases h;simp),(fun h=>by cases h),hde3,(fun q hq2=>(hnew3 q hq2).elim (fun h=>.inl h) (fun h=>.inr h))⟩ (.cons 2 rfl (.cons 3 rfl (.cons 11 rfl (.cons 14 rfl (.cons 15 rfl .nil))))) rfl bO))
                | (have hxd : ¬ x = c1 := (fun h => by subst h; omega)
                   have hge:=gZ (w:=w0) hc hjl hx aH aH aH;rw[if_neg hxd]at hge;exact bT none pv ps es c ⟨hge,(fun qs h=>by cases h),(fun _=>⟨List.take_length,Nat.le_refl _⟩),hes,(fun q hq=>.inl hq)⟩ (.cons 2 rfl (.cons 3 rfl (.cons 11 rfl (.cons 14 rfl (.cons 15 rfl .nil))))) rfl bO)
                | (have hge := oI (w := w0) (v := v) (k := k) (i := i) (j := j) aH
                   by_cases hiv:i=v.length
                   · (rw[if_pos hiv]at hge;rw[show decide ((i:Int)=(v.length:Int))=true from decide_eq_true aH];exact bT (some []) pv ps es c ⟨hge,(fun qs h=>by cases h;simp),(fun h=>by cases h),hes,(fun q hq=>.inl hq)⟩ (.cons 2 rfl (.cons 3 rfl (.cons 11 rfl (.cons 14 rfl (.cons 15 rfl .nil))))) rfl bO)
                   · (rw[if_neg hiv]at hge;rw[show decide ((i:Int)=(v.length:Int))=false from decide_eq_false aH];exact bT none pv ps es c ⟨hge,(fun qs h=>by cases h),(fun _=>⟨List.take_length,Nat.le_refl _⟩),hes,(fun q hq=>.inl hq)⟩ (.cons 2 rfl (.cons 3 rfl (.cons 11 rfl (.cons 14 rfl (.cons 15 rfl .nil))))) rfl bO))
          ·
            refine zz9 ?_;refine bG 83 rfl (fun h83=>?_) (fun h83=>?_)
            ·
              refine zz2 ?_
              first
                |exact gAA
                |exact gAC
                | (have hge := gl_q (w := w0) hc hjl hx aH
                   refine uAc ?_;rcases hq:gl w0 v k (i+1) (j+1)with _|qs
                   · (rw[hq]at hge;exact bT none pv3 (ps++[((w0.take (i+1)).drop i)]++[]) es3 c3 ⟨hge,(fun qs h=>by cases h),(fun _=>⟨by simp,by simp⟩),hde3,(fun q hq2=>(hnew3 q hq2).elim (fun h=>.inl h) (fun h=>.inr h))⟩ (.cons 2 rfl (.cons 3 rfl (.cons 11 rfl (.cons 14 rfl (.cons 15 rfl .nil))))) rfl bO)
                   · (rw[hq]at hge;exact bT (some (((w0.take (i+1)).drop i)::qs)) pv3 (ps++[((w0.take (i+1)).drop i)]++qs) es3 c3 ⟨hge,(fun qs2 h=>by cases h;simp),(fun h=>by cases h),hde3,(fun q hq2=>(hnew3 q hq2).elim (fun h=>.inl h) (fun h=>.inr h))⟩ (.cons 2 rfl (.cons 3 rfl (.cons 11 rfl (.cons 14 rfl (.cons 15 rfl .nil))))) rfl bO))
                | (have hxd : x = d := UInt8.toNat_inj.1 aH
                   have hge:=gY (w:=w0) hc aH hx aH hd;rw[if_pos hxd]at hge;refine uAb ?_;rcases hq:gl w0 v k (i+1) (j+2)with _|qs
                   · (rw[hq]at hge;exact bT none pv3 (ps++[]) es3 c3 ⟨hge,(fun qs h=>by cases h),(fun _=>⟨by simp,by simp⟩),hde3,(fun q hq2=>(hnew3 q hq2).elim (fun h=>.inl h) (fun h=>.inr aH))⟩ (.cons 2 rfl (.cons 3 rfl (.cons 11 rfl (.cons 14 rfl (.cons 15 rfl .nil))))) rfl bO)
                   · (rw[hq]at hge;exact bT (some qs) pv3 (ps++qs) es3 c3 ⟨hge,(fun qs2 h=>by cases h;simp),(fun h=>by cases h),hde3,(fun q hq2=>(hnew3 q hq2).elim (fun h=>.inl h) (fun h=>.inr aH))⟩ (.cons 2 rfl (.cons 3 rfl (.cons 11 rfl (.cons 14 rfl (.cons 15 rfl .nil))))) rfl bO))
                | (have hxd : ¬ x = d := (fun h => by subst h; omega)
                   have hge:=gY (w:=w0) hc aH hx aH hd;rw[if_neg hxd]at hge;exact bT none pv ps es c ⟨hge,(fun qs h=>by cases h),(fun _=>⟨List.take_length,Nat.le_refl _⟩),hes,(fun q hq=>.inl hq)⟩ (.cons 2 rfl (.cons 3 rfl (.cons 11 rfl (.cons 14 rfl (.cons 15 rfl .nil))))) rfl bO)
                | (have hxd : x = c1 := UInt8.toNat_inj.1 aH
                   have hge:=gZ (w:=w0) hc hjl hx aH aH aH;rw[if_pos hxd]at hge;refine uAb ?_;rcases hq:gl w0 v k (i+1) (j+1)with _|qs
                   · (rw[hq]at hge;exact bT none pv3 (ps++[]) es3 c3 ⟨hge,(fun qs h=>by cases h),(fun _=>⟨by simp,by simp⟩),hde3,(fun q hq2=>(hnew3 q hq2).elim (fun h=>.inl h) (fun h=>.inr h))⟩ (.cons 2 rfl (.cons 3 rfl (.cons 11 rfl (.cons 14 rfl (.cons 15 rfl .nil))))) rfl bO)
                   · (rw[hq]at hge;exact bT (some qs) pv3 (ps++qs) es3 c3 ⟨hge,(fun qs2 h=>by cases h;simp),(fun h=>by cases h),hde3,(fun q hq2=>(hnew3 q hq2).elim (fun h=>.inl h) (fun h=>.inr h))⟩ (.cons 2 rfl (.cons 3 rfl (.cons 11 rfl (.cons 14 rfl (.cons 15 rfl .nil))))) rfl bO))
                | (have hxd : ¬ x = c1 := (fun h => by subst h; omega)
                   have hge:=gZ (w:=w0) hc hjl hx aH aH aH;rw[if_neg hxd]at hge;exact bT none pv ps es c ⟨hge,(fun qs h=>by cases h),(fun _=>⟨List.take_length,Nat.le_refl _⟩),hes,(fun q hq=>.inl hq)⟩ (.cons 2 rfl (.cons 3 rfl (.cons 11 rfl (.cons 14 rfl (.cons 15 rfl .nil))))) rfl bO)
                | (have hge := oI (w := w0) (v := v) (k := k) (i := i) (j := j) aH
                   by_cases hiv:i=v.length
                   · (rw[if_pos hiv]at hge;rw[show decide ((i:Int)=(v.length:Int))=true from decide_eq_true aH];exact bT (some []) pv ps es c ⟨hge,(fun qs h=>by cases h;simp),(fun h=>by cases h),hes,(fun q hq=>.inl hq)⟩ (.cons 2 rfl (.cons 3 rfl (.cons 11 rfl (.cons 14 rfl (.cons 15 rfl .nil))))) rfl bO)
                   · (rw[if_neg hiv]at hge;rw[show decide ((i:Int)=(v.length:Int))=false from decide_eq_false aH];exact bT none pv ps es c ⟨hge,(fun qs h=>by cases h),(fun _=>⟨List.take_length,Nat.le_refl _⟩),hes,(fun q hq=>.inl hq)⟩ (.cons 2 rfl (.cons 3 rfl (.cons 11 rfl (.cons 14 rfl (.cons 15 rfl .nil))))) rfl bO))
            ·
              obtain⟨x,hx⟩:∃x,v[i]?=some x:=⟨v[i]'(by omega),List.getElem?_eq_getElem aH⟩;refine zz9 ?_;refine bG 88 rfl (fun h88=>?_) (fun h88=>?_)
              ·
                refine aI ?_;refine t_draw (anc:=[0,0,0,0,8,30,62,127,255]) (ord:=[0,1,2,3,4,5,6,7,8]) [6,7,8] [7,8] mixed gBO (.cons (.there .here) .nil) ?_;refine zz5 ?_;refine dl_ev rfl rfl (.none rfl) rfl rfl (lW (m:=i) (n:=i+1) Tryz.underlying9 rfl rfl rfl rfl rfl aH aH) rfl ?_;refine dl_s rfl rfl (.none rfl) rfl rfl (a6 (z0:=[(str [])]) bS tz9 rfl rfl rfl rfl (.cons rfl rfl rfl (.cons .nil) .nil)) rfl ?_;rintro _ K _ ⟨b99,rfl,rfl,rfl⟩ -;refine⟨_,(show Tks _ _ _ from (.cons (.there .here) .nil)).sat,?_⟩
                refine dl_g rfl rfl (.none rfl) rfl (dT (k:=(bC 9)) (ys:=[((w0.take (i+1)).drop i)]) fA rfl rfl (.there (.there (.there .here))) (fun w j=>dK Tryz.underlying39 (SeesSl.at (.blk (.own (.there .here)) rfl rfl) j)) gBQ gBQ) rfl ?_;rintro v100 K _ ⟨rfl,rfl,ho100⟩ -;refine vL rfl rfl (.none rfl) rfl (bL ts39 rfl rfl cK bB .zero rfl) ?_;rintro _ K _ ⟨rfl,rfl⟩ -;refine zz8 ?_;rw[vC j,vC i];refine aY rfl rfl (ih (i+1) (j+1) (ps++[((w0.take (i+1)).drop i)]) es c _ _ aH ⟨kd,kk,kv,kw,km⟩ aH aH (by rw[List.length_append];simp only[List.length_singleton];omega) hes) (.cons (.there .here) (.cons .here (.cons (.there (.there .here)) .nil))) rfl ?_;rintro _ K _ ⟨rfl,rfl,pv3,es3,c3,hde3,hnew3,rfl⟩ -;refine zz3 ?_
                first
                  |exact gAA
                  |exact gAC
                  | (have hge := gl_q (w := w0) hc hjl hx aH
                     refine uAc ?_;rcases hq:gl w0 v k (i+1) (j+1)with _|qs
                     · (rw[hq]at hge;exact bT none pv3 (ps++[((w0.take (i+1)).drop i)]++[]) es3 c3 ⟨hge,(fun qs h=>by cases h),(fun _=>⟨by simp,by simp⟩),hde3,(fun q hq2=>(hnew3 q hq2).elim (fun h=>.inl h) (fun h=>.inr h))⟩ (.cons 2 rfl (.cons 3 rfl (.cons 11 rfl (.cons 14 rfl (.cons 15 rfl .nil))))) rfl bO)
                     · (rw[hq]at hge;exact bT (some (((w0.take (i+1)).drop i)::qs)) pv3 (ps++[((w0.take (i+1)).drop i)]++qs) es3 c3 ⟨hge,(fun qs2 h=>by cases h;simp),(fun h=>by cases h),hde3,(fun q hq2=>(hnew3 q hq2).elim (fun h=>.inl h) (fun h=>.inr h))⟩ (.cons 2 rfl (.cons 3 rfl (.cons 11 rfl (.cons 14 rfl (.cons 15 rfl .nil))))) rfl bO))
                  | (have hxd : x = d := UInt8.toNat_inj.1 aH
                     have hge:=gY (w:=w0) hc aH hx aH hd;rw[if_pos hxd]at hge;refine uAb ?_;rcases hq:gl w0 v k (i+1) (j+2)with _|qs
                     · (rw[hq]at hge;exact bT none pv3 (ps++[]) es3 c3 ⟨hge,(fun qs h=>by cases h),(fun _=>⟨by simp,by simp⟩),hde3,(fun q hq2=>(hnew3 q hq2).elim (fun h=>.inl h) (fun h=>.inr aH))⟩ (.cons 2 rfl (.cons 3 rfl (.cons 11 rfl (.cons 14 rfl (.cons 15 rfl .nil))))) rfl bO)
                     · (rw[hq]at hge;exact bT (some qs) pv3 (ps++qs) es3 c3 ⟨hge,(fun qs2 h=>by cases h;simp),(fun h=>by cases h),hde3,(fun q hq2=>(hnew3 q hq2).elim (fun h=>.inl h) (fun h=>.inr aH))⟩ (.cons 2 rfl (.cons 3 rfl (.cons 11 rfl (.cons 14 rfl (.cons 15 rfl .nil))))) rfl bO))
                  | (have hxd : ¬ x = d := (fun h => by subst h; omega)
                     have hge:=gY (w:=w0) hc aH hx aH hd;rw[if_neg hxd]at hge;exact bT none pv ps es c ⟨hge,(fun qs h=>by cases h),(fun _=>⟨List.take_length,Nat.le_refl _⟩),hes,(fun q hq=>.inl hq)⟩ (.cons 2 rfl (.cons 3 rfl (.cons 11 rfl (.cons 14 rfl (.cons 15 rfl .nil))))) rfl bO)
                  | (have hxd : x = c1 := UInt8.toNat_inj.1 aH
                     have hge:=gZ (w:=w0) hc hjl hx aH aH aH;rw[if_pos hxd]at hge;refine uAb ?_;rcases hq:gl w0 v k (i+1) (j+1)with _|qs
                     · (rw[hq]at hge;exact bT none pv3 (ps++[]) es3 c3 ⟨hge,(fun qs h=>by cases h),(fun _=>⟨by simp,by simp⟩),hde3,(fun q hq2=>(hnew3 q hq2).elim (fun h=>.inl h) (fun h=>.inr h))⟩ (.cons 2 rfl (.cons 3 rfl (.cons 11 rfl (.cons 14 rfl (.cons 15 rfl .nil))))) rfl bO)
                     · (rw[hq]at hge;exact bT (some qs) pv3 (ps++qs) es3 c3 ⟨hge,(fun qs2 h=>by cases h;simp),(fun h=>by cases h),hde3,(fun q hq2=>(hnew3 q hq2).elim (fun h=>.inl h) (fun h=>.inr h))⟩ (.cons 2 rfl (.cons 3 rfl (.cons 11 rfl (.cons 14 rfl (.cons 15 rfl .nil))))) rfl bO))
                  | (have hxd : ¬ x = c1 := (fun h => by subst h; omega)
                     have hge:=gZ (w:=w0) hc hjl hx aH aH aH;rw[if_neg hxd]at hge;exact bT none pv ps es c ⟨hge,(fun qs h=>by cases h),(fun _=>⟨List.take_length,Nat.le_refl _⟩),hes,(fun q hq=>.inl hq)⟩ (.cons 2 rfl (.cons 3 rfl (.cons 11 rfl (.cons 14 rfl (.cons 15 rfl .nil))))) rfl bO)
                  | (have hge := oI (w := w0) (v := v) (k := k) (i := i) (j := j) aH
                     by_cases hiv:i=v.length
                     · (rw[if_pos hiv]at hge;rw[show decide ((i:Int)=(v.length:Int))=true from decide_eq_true aH];exact bT (some []) pv ps es c ⟨hge,(fun qs h=>by cases h;simp),(fun h=>by cases h),hes,(fun q hq=>.inl hq)⟩ (.cons 2 rfl (.cons 3 rfl (.cons 11 rfl (.cons 14 rfl (.cons 15 rfl .nil))))) rfl bO)
                     · (rw[if_neg hiv]at hge;rw[show decide ((i:Int)=(v.length:Int))=false from decide_eq_false aH];exact bT none pv ps es c ⟨hge,(fun qs h=>by cases h),(fun _=>⟨List.take_length,Nat.le_refl _⟩),hes,(fun q hq=>.inl hq)⟩ (.cons 2 rfl (.cons 3 rfl (.cons 11 rfl (.cons 14 rfl (.cons 15 rfl .nil))))) rfl bO))
              ·
                refine zz7 ?_;refine cF 112 rfl (fun g112=>?_) (fun g112=>?_)
                ·
                  refine zz14 ?_;refine bG 107 rfl (fun h107=>?_) (fun h107=>?_)
                  ·
                    obtain⟨d,hd⟩:∃d,k[j+1]?=some d:=⟨k[j+1]'(by omega),List.getElem?_eq_getElem aH⟩;refine t_draw (anc:=[0,0,3,0,0,16,56,127,255,511,511,1535,511,4607,16383,32767,65535]) (ord:=[0,1,2,3,4,5,6,7,8,9,10,11,12,13,14,15,16]) [14] [14] mixed gBO (cX _) ?_;refine zz6 ?_;refine dl_ev rfl rfl (.none rfl) rfl rfl (dD Tryz.underlying9 rfl (j:=j+1) rfl (vC j) hd) rfl ?_;refine zz2 ?_;refine dl_splitp 127 rfl (fun g127=>?_) (fun g127=>?_)
                    ·
                      refine zz5 ?_;rw[aZ6 j,vC i];refine kS rfl (.on rfl rfl rfl) rfl rfl rfl (ih (i+1) (j+2) ps es c _ _ aH ⟨kd,kk,kv,kw,km⟩ aH aH aH hes) (.cons (.there .here) (.cons (.there .here) (.cons (.there .here) .nil))) rfl ?_;rintro _ K _ ⟨rfl,rfl,pv3,es3,c3,hde3,hnew3,rfl⟩ -;refine zz4 ?_
                      first
                        |exact gAA
                        |exact gAC
                        | (have hge := gl_q (w := w0) hc hjl hx aH
                           refine uAc ?_;rcases hq:gl w0 v k (i+1) (j+1)with _|qs
                           · (rw[hq]at hge;exact bT none pv3 (ps++[((w0.take (i+1)).drop i)]++[]) es3 c3 ⟨hge,(fun qs h=>by cases h),(fun _=>⟨by simp,by simp⟩),hde3,(fun q hq2=>(hnew3 q hq2).elim (fun h=>.inl h) (fun h=>.inr h))⟩ (.cons 2 rfl (.cons 3 rfl (.cons 11 rfl (.cons 14 rfl (.cons 15 rfl .nil))))) rfl bO)
                           · (rw[hq]at hge;exact bT (some (((w0.take (i+1)).drop i)::qs)) pv3 (ps++[((w0.take (i+1)).drop i)]++qs) es3 c3 ⟨hge,(fun qs2 h=>by cases h;simp),(fun h=>by cases h),hde3,(fun q hq2=>(hnew3 q hq2).elim (fun h=>.inl h) (fun h=>.inr h))⟩ (.cons 2 rfl (.cons 3 rfl (.cons 11 rfl (.cons 14 rfl (.cons 15 rfl .nil))))) rfl bO))
                        | (have hxd : x = d := UInt8.toNat_inj.1 aH
                           have hge:=gY (w:=w0) hc aH hx aH hd;rw[if_pos hxd]at hge;refine uAb ?_;rcases hq:gl w0 v k (i+1) (j+2)with _|qs
                           · (rw[hq]at hge;exact bT none pv3 (ps++[]) es3 c3 ⟨hge,(fun qs h=>by cases h),(fun _=>⟨by simp,by simp⟩),hde3,(fun q hq2=>(hnew3 q hq2).elim (fun h=>.inl h) (fun h=>.inr aH))⟩ (.cons 2 rfl (.cons 3 rfl (.cons 11 rfl (.cons 14 rfl (.cons 15 rfl .nil))))) rfl bO)
                           · (rw[hq]at hge;exact bT (some qs) pv3 (ps++qs) es3 c3 ⟨hge,(fun qs2 h=>by cases h;simp),(fun h=>by cases h),hde3,(fun q hq2=>(hnew3 q hq2).elim (fun h=>.inl h) (fun h=>.inr aH))⟩ (.cons 2 rfl (.cons 3 rfl (.cons 11 rfl (.cons 14 rfl (.cons 15 rfl .nil))))) rfl bO))
                        | (have hxd : ¬ x = d := (fun h => by subst h; omega)
                           have hge:=gY (w:=w0) hc aH hx aH hd;rw[if_neg hxd]at hge;exact bT none pv ps es c ⟨hge,(fun qs h=>by cases h),(fun _=>⟨List.take_length,Nat.le_refl _⟩),hes,(fun q hq=>.inl hq)⟩ (.cons 2 rfl (.cons 3 rfl (.cons 11 rfl (.cons 14 rfl (.cons 15 rfl .nil))))) rfl bO)
                        | (have hxd : x = c1 := UInt8.toNat_inj.1 aH
                           have hge:=gZ (w:=w0) hc hjl hx aH aH aH;rw[if_pos hxd]at hge;refine uAb ?_;rcases hq:gl w0 v k (i+1) (j+1)with _|qs
                           · (rw[hq]at hge;exact bT none pv3 (ps++[]) es3 c3 ⟨hge,(fun qs h=>by cases h),(fun _=>⟨by simp,by simp⟩),hde3,(fun q hq2=>(hnew3 q hq2).elim (fun h=>.inl h) (fun h=>.inr h))⟩ (.cons 2 rfl (.cons 3 rfl (.cons 11 rfl (.cons 14 rfl (.cons 15 rfl .nil))))) rfl bO)
                           · (rw[hq]at hge;exact bT (some qs) pv3 (ps++qs) es3 c3 ⟨hge,(fun qs2 h=>by cases h;simp),(fun h=>by cases h),hde3,(fun q hq2=>(hnew3 q hq2).elim (fun h=>.inl h) (fun h=>.inr h))⟩ (.cons 2 rfl (.cons 3 rfl (.cons 11 rfl (.cons 14 rfl (.cons 15 rfl .nil))))) rfl bO))
                        | (have hxd : ¬ x = c1 := (fun h => by subst h; omega)
                           have hge:=gZ (w:=w0) hc hjl hx aH aH aH;rw[if_neg hxd]at hge;exact bT none pv ps es c ⟨hge,(fun qs h=>by cases h),(fun _=>⟨List.take_length,Nat.le_refl _⟩),hes,(fun q hq=>.inl hq)⟩ (.cons 2 rfl (.cons 3 rfl (.cons 11 rfl (.cons 14 rfl (.cons 15 rfl .nil))))) rfl bO)
                        | (have hge := oI (w := w0) (v := v) (k := k) (i := i) (j := j) aH
                           by_cases hiv:i=v.length
                           · (rw[if_pos hiv]at hge;rw[show decide ((i:Int)=(v.length:Int))=true from decide_eq_true aH];exact bT (some []) pv ps es c ⟨hge,(fun qs h=>by cases h;simp),(fun h=>by cases h),hes,(fun q hq=>.inl hq)⟩ (.cons 2 rfl (.cons 3 rfl (.cons 11 rfl (.cons 14 rfl (.cons 15 rfl .nil))))) rfl bO)
                           · (rw[if_neg hiv]at hge;rw[show decide ((i:Int)=(v.length:Int))=false from decide_eq_false aH];exact bT none pv ps es c ⟨hge,(fun qs h=>by cases h),(fun _=>⟨List.take_length,Nat.le_refl _⟩),hes,(fun q hq=>.inl hq)⟩ (.cons 2 rfl (.cons 3 rfl (.cons 11 rfl (.cons 14 rfl (.cons 15 rfl .nil))))) rfl bO))
                    ·
                      refine zz10 ?_
                      first
                        |exact gAA
                        |exact gAC
                        | (have hge := gl_q (w := w0) hc hjl hx aH
                           refine uAc ?_;rcases hq:gl w0 v k (i+1) (j+1)with _|qs
                           · (rw[hq]at hge;exact bT none pv3 (ps++[((w0.take (i+1)).drop i)]++[]) es3 c3 ⟨hge,(fun qs h=>by cases h),(fun _=>⟨by simp,by simp⟩),hde3,(fun q hq2=>(hnew3 q hq2).elim (fun h=>.inl h) (fun h=>.inr h))⟩ (.cons 2 rfl (.cons 3 rfl (.cons 11 rfl (.cons 14 rfl (.cons 15 rfl .nil))))) rfl bO)
                           · (rw[hq]at hge;exact bT (some (((w0.take (i+1)).drop i)::qs)) pv3 (ps++[((w0.take (i+1)).drop i)]++qs) es3 c3 ⟨hge,(fun qs2 h=>by cases h;simp),(fun h=>by cases h),hde3,(fun q hq2=>(hnew3 q hq2).elim (fun h=>.inl h) (fun h=>.inr h))⟩ (.cons 2 rfl (.cons 3 rfl (.cons 11 rfl (.cons 14 rfl (.cons 15 rfl .nil))))) rfl bO))
                        | (have hxd : x = d := UInt8.toNat_inj.1 aH
                           have hge:=gY (w:=w0) hc aH hx aH hd;rw[if_pos hxd]at hge;refine uAb ?_;rcases hq:gl w0 v k (i+1) (j+2)with _|qs
                           · (rw[hq]at hge;exact bT none pv3 (ps++[]) es3 c3 ⟨hge,(fun qs h=>by cases h),(fun _=>⟨by simp,by simp⟩),hde3,(fun q hq2=>(hnew3 q hq2).elim (fun h=>.inl h) (fun h=>.inr aH))⟩ (.cons 2 rfl (.cons 3 rfl (.cons 11 rfl (.cons 14 rfl (.cons 15 rfl .nil))))) rfl bO)
                           · (rw[hq]at hge;exact bT (some qs) pv3 (ps++qs) es3 c3 ⟨hge,(fun qs2 h=>by cases h;simp),(fun h=>by cases h),hde3,(fun q hq2=>(hnew3 q hq2).elim (fun h=>.inl h) (fun h=>.inr aH))⟩ (.cons 2 rfl (.cons 3 rfl (.cons 11 rfl (.cons 14 rfl (.cons 15 rfl .nil))))) rfl bO))
                        | (have hxd : ¬ x = d := (fun h => by subst h; omega)
                           have hge:=gY (w:=w0) hc aH hx aH hd;rw[if_neg hxd]at hge;exact bT none pv ps es c ⟨hge,(fun qs h=>by cases h),(fun _=>⟨List.take_length,Nat.le_refl _⟩),hes,(fun q hq=>.inl hq)⟩ (.cons 2 rfl (.cons 3 rfl (.cons 11 rfl (.cons 14 rfl (.cons 15 rfl .nil))))) rfl bO)
                        | (have hxd : x = c1 := UInt8.toNat_inj.1 aH
                           have hge:=gZ (w:=w0) hc hjl hx aH aH aH;rw[if_pos hxd]at hge;refine uAb ?_;rcases hq:gl w0 v k (i+1) (j+1)with _|qs
                           · (rw[hq]at hge;exact bT none pv3 (ps++[]) es3 c3 ⟨hge,(fun qs h=>by cases h),(fun _=>⟨by simp,by simp⟩),hde3,(fun q hq2=>(hnew3 q hq2).elim (fun h=>.inl h) (fun h=>.inr h))⟩ (.cons 2 rfl (.cons 3 rfl (.cons 11 rfl (.cons 14 rfl (.cons 15 rfl .nil))))) rfl bO)
                           · (rw[hq]at hge;exact bT (some qs) pv3 (ps++qs) es3 c3 ⟨hge,(fun qs2 h=>by cases h;simp),(fun h=>by cases h),hde3,(fun q hq2=>(hnew3 q hq2).elim (fun h=>.inl h) (fun h=>.inr h))⟩ (.cons 2 rfl (.cons 3 rfl (.cons 11 rfl (.cons 14 rfl (.cons 15 rfl .nil))))) rfl bO))
                        | (have hxd : ¬ x = c1 := (fun h => by subst h; omega)
                           have hge:=gZ (w:=w0) hc hjl hx aH aH aH;rw[if_neg hxd]at hge;exact bT none pv ps es c ⟨hge,(fun qs h=>by cases h),(fun _=>⟨List.take_length,Nat.le_refl _⟩),hes,(fun q hq=>.inl hq)⟩ (.cons 2 rfl (.cons 3 rfl (.cons 11 rfl (.cons 14 rfl (.cons 15 rfl .nil))))) rfl bO)
                        | (have hge := oI (w := w0) (v := v) (k := k) (i := i) (j := j) aH
                           by_cases hiv:i=v.length
                           · (rw[if_pos hiv]at hge;rw[show decide ((i:Int)=(v.length:Int))=true from decide_eq_true aH];exact bT (some []) pv ps es c ⟨hge,(fun qs h=>by cases h;simp),(fun h=>by cases h),hes,(fun q hq=>.inl hq)⟩ (.cons 2 rfl (.cons 3 rfl (.cons 11 rfl (.cons 14 rfl (.cons 15 rfl .nil))))) rfl bO)
                           · (rw[if_neg hiv]at hge;rw[show decide ((i:Int)=(v.length:Int))=false from decide_eq_false aH];exact bT none pv ps es c ⟨hge,(fun qs h=>by cases h),(fun _=>⟨List.take_length,Nat.le_refl _⟩),hes,(fun q hq=>.inl hq)⟩ (.cons 2 rfl (.cons 3 rfl (.cons 11 rfl (.cons 14 rfl (.cons 15 rfl .nil))))) rfl bO))
                  ·
                    refine t_draw (anc:=[0,0,3,0,0,24,63,127,255,255,767,255,2303,8191,16383,32767]) (ord:=[0,1,2,3,4,5,6,7,8,9,10,11,12,13,14,15]) [13] [13] mixed gBO (cX _) ?_;refine zz8 ?_;refine dl_splitp 36 rfl (fun g36=>?_) (fun g36=>?_)
                    ·
                      refine zz5 ?_;rw[vC j,vC i];refine kS rfl (.on rfl rfl rfl) rfl rfl rfl (ih (i+1) (j+1) ps es c _ _ aH ⟨kd,kk,kv,kw,km⟩ aH aH aH hes) (.cons (.there .here) (.cons (.there .here) (.cons (.there .here) .nil))) rfl ?_;rintro _ K _ ⟨rfl,rfl,pv3,es3,c3,hde3,hnew3,rfl⟩ -;refine zz4 ?_
                      first
                        |exact gAA
                        |exact gAC
                        | (have hge := gl_q (w := w0) hc hjl hx aH
                           refine uAc ?_;rcases hq:gl w0 v k (i+1) (j+1)with _|qs
                           · (rw[hq]at hge;exact bT none pv3 (ps++[((w0.take (i+1)).drop i)]++[]) es3 c3 ⟨hge,(fun qs h=>by cases h),(fun _=>⟨by simp,by simp⟩),hde3,(fun q hq2=>(hnew3 q hq2).elim (fun h=>.inl h) (fun h=>.inr h))⟩ (.cons 2 rfl (.cons 3 rfl (.cons 11 rfl (.cons 14 rfl (.cons 15 rfl .nil))))) rfl bO)
                           · (rw[hq]at hge;exact bT (some (((w0.take (i+1)).drop i)::qs)) pv3 (ps++[((w0.take (i+1)).drop i)]++qs) es3 c3 ⟨hge,(fun qs2 h=>by cases h;simp),(fun h=>by cases h),hde3,(fun q hq2=>(hnew3 q hq2).elim (fun h=>.inl h) (fun h=>.inr h))⟩ (.cons 2 rfl (.cons 3 rfl (.cons 11 rfl (.cons 14 rfl (.cons 15 rfl .nil))))) rfl bO))
                        | (have hxd : x = d := UInt8.toNat_inj.1 aH
                           have hge:=gY (w:=w0) hc aH hx aH hd;rw[if_pos hxd]at hge;refine uAb ?_;rcases hq:gl w0 v k (i+1) (j+2)with _|qs
                           · (rw[hq]at hge;exact bT none pv3 (ps++[]) es3 c3 ⟨hge,(fun qs h=>by cases h),(fun _=>⟨by simp,by simp⟩),hde3,(fun q hq2=>(hnew3 q hq2).elim (fun h=>.inl h) (fun h=>.inr aH))⟩ (.cons 2 rfl (.cons 3 rfl (.cons 11 rfl (.cons 14 rfl (.cons 15 rfl .nil))))) rfl bO)
                           · (rw[hq]at hge;exact bT (some qs) pv3 (ps++qs) es3 c3 ⟨hge,(fun qs2 h=>by cases h;simp),(fun h=>by cases h),hde3,(fun q hq2=>(hnew3 q hq2).elim (fun h=>.inl h) (fun h=>.inr aH))⟩ (.cons 2 rfl (.cons 3 rfl (.cons 11 rfl (.cons 14 rfl (.cons 15 rfl .nil))))) rfl bO))
                        | (have hxd : ¬ x = d := (fun h => by subst h; omega)
                           have hge:=gY (w:=w0) hc aH hx aH hd;rw[if_neg hxd]at hge;exact bT none pv ps es c ⟨hge,(fun qs h=>by cases h),(fun _=>⟨List.take_length,Nat.le_refl _⟩),hes,(fun q hq=>.inl hq)⟩ (.cons 2 rfl (.cons 3 rfl (.cons 11 rfl (.cons 14 rfl (.cons 15 rfl .nil))))) rfl bO)
                        | (have hxd : x = c1 := UInt8.toNat_inj.1 aH
                           have hge:=gZ (w:=w0) hc hjl hx aH aH aH;rw[if_pos hxd]at hge;refine uAb ?_;rcases hq:gl w0 v k (i+1) (j+1)with _|qs
                           · (rw[hq]at hge;exact bT none pv3 (ps++[]) es3 c3 ⟨hge,(fun qs h=>by cases h),(fun _=>⟨by simp,by simp⟩),hde3,(fun q hq2=>(hnew3 q hq2).elim (fun h=>.inl h) (fun h=>.inr h))⟩ (.cons 2 rfl (.cons 3 rfl (.cons 11 rfl (.cons 14 rfl (.cons 15 rfl .nil))))) rfl bO)
                           · (rw[hq]at hge;exact bT (some qs) pv3 (ps++qs) es3 c3 ⟨hge,(fun qs2 h=>by cases h;simp),(fun h=>by cases h),hde3,(fun q hq2=>(hnew3 q hq2).elim (fun h=>.inl h) (fun h=>.inr h))⟩ (.cons 2 rfl (.cons 3 rfl (.cons 11 rfl (.cons 14 rfl (.cons 15 rfl .nil))))) rfl bO))
                        | (have hxd : ¬ x = c1 := (fun h => by subst h; omega)
                           have hge:=gZ (w:=w0) hc hjl hx aH aH aH;rw[if_neg hxd]at hge;exact bT none pv ps es c ⟨hge,(fun qs h=>by cases h),(fun _=>⟨List.take_length,Nat.le_refl _⟩),hes,(fun q hq=>.inl hq)⟩ (.cons 2 rfl (.cons 3 rfl (.cons 11 rfl (.cons 14 rfl (.cons 15 rfl .nil))))) rfl bO)
                        | (have hge := oI (w := w0) (v := v) (k := k) (i := i) (j := j) aH
                           by_cases hiv:i=v.length
                           · (rw[if_pos hiv]at hge;rw[show decide ((i:Int)=(v.length:Int))=true from decide_eq_true aH];exact bT (some []) pv ps es c ⟨hge,(fun qs h=>by cases h;simp),(fun h=>by cases h),hes,(fun q hq=>.inl hq)⟩ (.cons 2 rfl (.cons 3 rfl (.cons 11 rfl (.cons 14 rfl (.cons 15 rfl .nil))))) rfl bO)
                           · (rw[if_neg hiv]at hge;rw[show decide ((i:Int)=(v.length:Int))=false from decide_eq_false aH];exact bT none pv ps es c ⟨hge,(fun qs h=>by cases h),(fun _=>⟨List.take_length,Nat.le_refl _⟩),hes,(fun q hq=>.inl hq)⟩ (.cons 2 rfl (.cons 3 rfl (.cons 11 rfl (.cons 14 rfl (.cons 15 rfl .nil))))) rfl bO))
                    ·
                      refine zz10 ?_
                      first
                        |exact gAA
                        |exact gAC
                        | (have hge := gl_q (w := w0) hc hjl hx aH
                           refine uAc ?_;rcases hq:gl w0 v k (i+1) (j+1)with _|qs
                           · (rw[hq]at hge;exact bT none pv3 (ps++[((w0.take (i+1)).drop i)]++[]) es3 c3 ⟨hge,(fun qs h=>by cases h),(fun _=>⟨by simp,by simp⟩),hde3,(fun q hq2=>(hnew3 q hq2).elim (fun h=>.inl h) (fun h=>.inr h))⟩ (.cons 2 rfl (.cons 3 rfl (.cons 11 rfl (.cons 14 rfl (.cons 15 rfl .nil))))) rfl bO)
                           · (rw[hq]at hge;exact bT (some (((w0.take (i+1)).drop i)::qs)) pv3 (ps++[((w0.take (i+1)).drop i)]++qs) es3 c3 ⟨hge,(fun qs2 h=>by cases h;simp),(fun h=>by cases h),hde3,(fun q hq2=>(hnew3 q hq2).elim (fun h=>.inl h) (fun h=>.inr h))⟩ (.cons 2 rfl (.cons 3 rfl (.cons 11 rfl (.cons 14 rfl (.cons 15 rfl .nil))))) rfl bO))
                        | (have hxd : x = d := UInt8.toNat_inj.1 aH
                           have hge:=gY (w:=w0) hc aH hx aH hd;rw[if_pos hxd]at hge;refine uAb ?_;rcases hq:gl w0 v k (i+1) (j+2)with _|qs
                           · (rw[hq]at hge;exact bT none pv3 (ps++[]) es3 c3 ⟨hge,(fun qs h=>by cases h),(fun _=>⟨by simp,by simp⟩),hde3,(fun q hq2=>(hnew3 q hq2).elim (fun h=>.inl h) (fun h=>.inr aH))⟩ (.cons 2 rfl (.cons 3 rfl (.cons 11 rfl (.cons 14 rfl (.cons 15 rfl .nil))))) rfl bO)
                           · (rw[hq]at hge;exact bT (some qs) pv3 (ps++qs) es3 c3 ⟨hge,(fun qs2 h=>by cases h;simp),(fun h=>by cases h),hde3,(fun q hq2=>(hnew3 q hq2).elim (fun h=>.inl h) (fun h=>.inr aH))⟩ (.cons 2 rfl (.cons 3 rfl (.cons 11 rfl (.cons 14 rfl (.cons 15 rfl .nil))))) rfl bO))
                        | (have hxd : ¬ x = d := (fun h => by subst h; omega)
                           have hge:=gY (w:=w0) hc aH hx aH hd;rw[if_neg hxd]at hge;exact bT none pv ps es c ⟨hge,(fun qs h=>by cases h),(fun _=>⟨List.take_length,Nat.le_refl _⟩),hes,(fun q hq=>.inl hq)⟩ (.cons 2 rfl (.cons 3 rfl (.cons 11 rfl (.cons 14 rfl (.cons 15 rfl .nil))))) rfl bO)
                        | (have hxd : x = c1 := UInt8.toNat_inj.1 aH
                           have hge:=gZ (w:=w0) hc hjl hx aH aH aH;rw[if_pos hxd]at hge;refine uAb ?_;rcases hq:gl w0 v k (i+1) (j+1)with _|qs
                           · (rw[hq]at hge;exact bT none pv3 (ps++[]) es3 c3 ⟨hge,(fun qs h=>by cases h),(fun _=>⟨by simp,by simp⟩),hde3,(fun q hq2=>(hnew3 q hq2).elim (fun h=>.inl h) (fun h=>.inr h))⟩ (.cons 2 rfl (.cons 3 rfl (.cons 11 rfl (.cons 14 rfl (.cons 15 rfl .nil))))) rfl bO)
                           · (rw[hq]at hge;exact bT (some qs) pv3 (ps++qs) es3 c3 ⟨hge,(fun qs2 h=>by cases h;simp),(fun h=>by cases h),hde3,(fun q hq2=>(hnew3 q hq2).elim (fun h=>.inl h) (fun h=>.inr h))⟩ (.cons 2 rfl (.cons 3 rfl (.cons 11 rfl (.cons 14 rfl (.cons 15 rfl .nil))))) rfl bO))
                        | (have hxd : ¬ x = c1 := (fun h => by subst h; omega)
                           have hge:=gZ (w:=w0) hc hjl hx aH aH aH;rw[if_neg hxd]at hge;exact bT none pv ps es c ⟨hge,(fun qs h=>by cases h),(fun _=>⟨List.take_length,Nat.le_refl _⟩),hes,(fun q hq=>.inl hq)⟩ (.cons 2 rfl (.cons 3 rfl (.cons 11 rfl (.cons 14 rfl (.cons 15 rfl .nil))))) rfl bO)
                        | (have hge := oI (w := w0) (v := v) (k := k) (i := i) (j := j) aH
                           by_cases hiv:i=v.length
                           · (rw[if_pos hiv]at hge;rw[show decide ((i:Int)=(v.length:Int))=true from decide_eq_true aH];exact bT (some []) pv ps es c ⟨hge,(fun qs h=>by cases h;simp),(fun h=>by cases h),hes,(fun q hq=>.inl hq)⟩ (.cons 2 rfl (.cons 3 rfl (.cons 11 rfl (.cons 14 rfl (.cons 15 rfl .nil))))) rfl bO)
                           · (rw[if_neg hiv]at hge;rw[show decide ((i:Int)=(v.length:Int))=false from decide_eq_false aH];exact bT none pv ps es c ⟨hge,(fun qs h=>by cases h),(fun _=>⟨List.take_length,Nat.le_refl _⟩),hes,(fun q hq=>.inl hq)⟩ (.cons 2 rfl (.cons 3 rfl (.cons 11 rfl (.cons 14 rfl (.cons 15 rfl .nil))))) rfl bO))
                ·
                  refine zz10 ?_;refine t_draw (anc:=[0,0,3,0,0,24,63,127,255,255,767,255,2303,8191,16383,32767]) (ord:=[0,1,2,3,4,5,6,7,8,9,10,11,12,13,14,15]) [13] [13] mixed gBO (cX _) ?_;refine zz8 ?_;refine dl_splitp 36 rfl (fun g36=>?_) (fun g36=>?_)
                  ·
                    refine zz5 ?_;rw[vC j,vC i];refine kS rfl (.on rfl rfl rfl) rfl rfl rfl (ih (i+1) (j+1) ps es c _ _ aH ⟨kd,kk,kv,kw,km⟩ aH aH aH hes) (.cons (.there .here) (.cons (.there .here) (.cons (.there .here) .nil))) rfl ?_;rintro _ K _ ⟨rfl,rfl,pv3,es3,c3,hde3,hnew3,rfl⟩ -;refine zz4 ?_
                    first
                      |exact gAA
                      |exact gAC
                      | (have hge := gl_q (w := w0) hc hjl hx aH
                         refine uAc ?_;rcases hq:gl w0 v k (i+1) (j+1)with _|qs
                         · (rw[hq]at hge;exact bT none pv3 (ps++[((w0.take (i+1)).drop i)]++[]) es3 c3 ⟨hge,(fun qs h=>by cases h),(fun _=>⟨by simp,by simp⟩),hde3,(fun q hq2=>(hnew3 q hq2).elim (fun h=>.inl h) (fun h=>.inr h))⟩ (.cons 2 rfl (.cons 3 rfl (.cons 11 rfl (.cons 14 rfl (.cons 15 rfl .nil))))) rfl bO)
                         · (rw[hq]at hge;exact bT (some (((w0.take (i+1)).drop i)::qs)) pv3 (ps++[((w0.take (i+1)).drop i)]++qs) es3 c3 ⟨hge,(fun qs2 h=>by cases h;simp),(fun h=>by cases h),hde3,(fun q hq2=>(hnew3 q hq2).elim (fun h=>.inl h) (fun h=>.inr h))⟩ (.cons 2 rfl (.cons 3 rfl (.cons 11 rfl (.cons 14 rfl (.cons 15 rfl .nil))))) rfl bO))
                      | (have hxd : x = d := UInt8.toNat_inj.1 aH
                         have hge:=gY (w:=w0) hc aH hx aH hd;rw[if_pos hxd]at hge;refine uAb ?_;rcases hq:gl w0 v k (i+1) (j+2)with _|qs
                         · (rw[hq]at hge;exact bT none pv3 (ps++[]) es3 c3 ⟨hge,(fun qs h=>by cases h),(fun _=>⟨by simp,by simp⟩),hde3,(fun q hq2=>(hnew3 q hq2).elim (fun h=>.inl h) (fun h=>.inr aH))⟩ (.cons 2 rfl (.cons 3 rfl (.cons 11 rfl (.cons 14 rfl (.cons 15 rfl .nil))))) rfl bO)
                         · (rw[hq]at hge;exact bT (some qs) pv3 (ps++qs) es3 c3 ⟨hge,(fun qs2 h=>by cases h;simp),(fun h=>by cases h),hde3,(fun q hq2=>(hnew3 q hq2).elim (fun h=>.inl h) (fun h=>.inr aH))⟩ (.cons 2 rfl (.cons 3 rfl (.cons 11 rfl (.cons 14 rfl (.cons 15 rfl .nil))))) rfl bO))
                      | (have hxd : ¬ x = d := (fun h => by subst h; omega)
                         have hge:=gY (w:=w0) hc aH hx aH hd;rw[if_neg hxd]at hge;exact bT none pv ps es c ⟨hge,(fun qs h=>by cases h),(fun _=>⟨List.take_length,Nat.le_refl _⟩),hes,(fun q hq=>.inl hq)⟩ (.cons 2 rfl (.cons 3 rfl (.cons 11 rfl (.cons 14 rfl (.cons 15 rfl .nil))))) rfl bO)
                      | (have hxd : x = c1 := UInt8.toNat_inj.1 aH
                         have hge:=gZ (w:=w0) hc hjl hx aH aH aH;rw[if_pos hxd]at hge;refine uAb ?_;rcases hq:gl w0 v k (i+1) (j+1)with _|qs
                         · (rw[hq]at hge;exact bT none pv3 (ps++[]) es3 c3 ⟨hge,(fun qs h=>by cases h),(fun _=>⟨by simp,by simp⟩),hde3,(fun q hq2=>(hnew3 q hq2).elim (fun h=>.inl h) (fun h=>.inr h))⟩ (.cons 2 rfl (.cons 3 rfl (.cons 11 rfl (.cons 14 rfl (.cons 15 rfl .nil))))) rfl bO)
                         · (rw[hq]at hge;exact bT (some qs) pv3 (ps++qs) es3 c3 ⟨hge,(fun qs2 h=>by cases h;simp),(fun h=>by cases h),hde3,(fun q hq2=>(hnew3 q hq2).elim (fun h=>.inl h) (fun h=>.inr h))⟩ (.cons 2 rfl (.cons 3 rfl (.cons 11 rfl (.cons 14 rfl (.cons 15 rfl .nil))))) rfl bO))
                      | (have hxd : ¬ x = c1 := (fun h => by subst h; omega)
                         have hge:=gZ (w:=w0) hc hjl hx aH aH aH;rw[if_neg hxd]at hge;exact bT none pv ps es c ⟨hge,(fun qs h=>by cases h),(fun _=>⟨List.take_length,Nat.le_refl _⟩),hes,(fun q hq=>.inl hq)⟩ (.cons 2 rfl (.cons 3 rfl (.cons 11 rfl (.cons 14 rfl (.cons 15 rfl .nil))))) rfl bO)
                      | (have hge := oI (w := w0) (v := v) (k := k) (i := i) (j := j) aH
                         by_cases hiv:i=v.length
                         · (rw[if_pos hiv]at hge;rw[show decide ((i:Int)=(v.length:Int))=true from decide_eq_true aH];exact bT (some []) pv ps es c ⟨hge,(fun qs h=>by cases h;simp),(fun h=>by cases h),hes,(fun q hq=>.inl hq)⟩ (.cons 2 rfl (.cons 3 rfl (.cons 11 rfl (.cons 14 rfl (.cons 15 rfl .nil))))) rfl bO)
                         · (rw[if_neg hiv]at hge;rw[show decide ((i:Int)=(v.length:Int))=false from decide_eq_false aH];exact bT none pv ps es c ⟨hge,(fun qs h=>by cases h),(fun _=>⟨List.take_length,Nat.le_refl _⟩),hes,(fun q hq=>.inl hq)⟩ (.cons 2 rfl (.cons 3 rfl (.cons 11 rfl (.cons 14 rfl (.cons 15 rfl .nil))))) rfl bO))
                  ·
                    refine zz10 ?_
                    first
                      |exact gAA
                      |exact gAC
                      | (have hge := gl_q (w := w0) hc hjl hx aH
                         refine uAc ?_;rcases hq:gl w0 v k (i+1) (j+1)with _|qs
                         · (rw[hq]at hge;exact bT none pv3 (ps++[((w0.take (i+1)).drop i)]++[]) es3 c3 ⟨hge,(fun qs h=>by cases h),(fun _=>⟨by simp,by simp⟩),hde3,(fun q hq2=>(hnew3 q hq2).elim (fun h=>.inl h) (fun h=>.inr h))⟩ (.cons 2 rfl (.cons 3 rfl (.cons 11 rfl (.cons 14 rfl (.cons 15 rfl .nil))))) rfl bO)
                         · (rw[hq]at hge;exact bT (some (((w0.take (i+1)).drop i)::qs)) pv3 (ps++[((w0.take (i+1)).drop i)]++qs) es3 c3 ⟨hge,(fun qs2 h=>by cases h;simp),(fun h=>by cases h),hde3,(fun q hq2=>(hnew3 q hq2).elim (fun h=>.inl h) (fun h=>.inr h))⟩ (.cons 2 rfl (.cons 3 rfl (.cons 11 rfl (.cons 14 rfl (.cons 15 rfl .nil))))) rfl bO))
                      | (have hxd : x = d := UInt8.toNat_inj.1 aH
                         have hge:=gY (w:=w0) hc aH hx aH hd;rw[if_pos hxd]at hge;refine uAb ?_;rcases hq:gl w0 v k (i+1) (j+2)with _|qs
                         · (rw[hq]at hge;exact bT none pv3 (ps++[]) es3 c3 ⟨hge,(fun qs h=>by cases h),(fun _=>⟨by simp,by simp⟩),hde3,(fun q hq2=>(hnew3 q hq2).elim (fun h=>.inl h) (fun h=>.inr aH))⟩ (.cons 2 rfl (.cons 3 rfl (.cons 11 rfl (.cons 14 rfl (.cons 15 rfl .nil))))) rfl bO)
                         · (rw[hq]at hge;exact bT (some qs) pv3 (ps++qs) es3 c3 ⟨hge,(fun qs2 h=>by cases h;simp),(fun h=>by cases h),hde3,(fun q hq2=>(hnew3 q hq2).elim (fun h=>.inl h) (fun h=>.inr aH))⟩ (.cons 2 rfl (.cons 3 rfl (.cons 11 rfl (.cons 14 rfl (.cons 15 rfl .nil))))) rfl bO))
                      | (have hxd : ¬ x = d := (fun h => by subst h; omega)
                         have hge:=gY (w:=w0) hc aH hx aH hd;rw[if_neg hxd]at hge;exact bT none pv ps es c ⟨hge,(fun qs h=>by cases h),(fun _=>⟨List.take_length,Nat.le_refl _⟩),hes,(fun q hq=>.inl hq)⟩ (.cons 2 rfl (.cons 3 rfl (.cons 11 rfl (.cons 14 rfl (.cons 15 rfl .nil))))) rfl bO)
                      | (have hxd : x = c1 := UInt8.toNat_inj.1 aH
                         have hge:=gZ (w:=w0) hc hjl hx aH aH aH;rw[if_pos hxd]at hge;refine uAb ?_;rcases hq:gl w0 v k (i+1) (j+1)with _|qs
                         · (rw[hq]at hge;exact bT none pv3 (ps++[]) es3 c3 ⟨hge,(fun qs h=>by cases h),(fun _=>⟨by simp,by simp⟩),hde3,(fun q hq2=>(hnew3 q hq2).elim (fun h=>.inl h) (fun h=>.inr h))⟩ (.cons 2 rfl (.cons 3 rfl (.cons 11 rfl (.cons 14 rfl (.cons 15 rfl .nil))))) rfl bO)
                         · (rw[hq]at hge;exact bT (some qs) pv3 (ps++qs) es3 c3 ⟨hge,(fun qs2 h=>by cases h;simp),(fun h=>by cases h),hde3,(fun q hq2=>(hnew3 q hq2).elim (fun h=>.inl h) (fun h=>.inr h))⟩ (.cons 2 rfl (.cons 3 rfl (.cons 11 rfl (.cons 14 rfl (.cons 15 rfl .nil))))) rfl bO))
                      | (have hxd : ¬ x = c1 := (fun h => by subst h; omega)
                         have hge:=gZ (w:=w0) hc hjl hx aH aH aH;rw[if_neg hxd]at hge;exact bT none pv ps es c ⟨hge,(fun qs h=>by cases h),(fun _=>⟨List.take_length,Nat.le_refl _⟩),hes,(fun q hq=>.inl hq)⟩ (.cons 2 rfl (.cons 3 rfl (.cons 11 rfl (.cons 14 rfl (.cons 15 rfl .nil))))) rfl bO)
                      | (have hge := oI (w := w0) (v := v) (k := k) (i := i) (j := j) aH
                         by_cases hiv:i=v.length
                         · (rw[if_pos hiv]at hge;rw[show decide ((i:Int)=(v.length:Int))=true from decide_eq_true aH];exact bT (some []) pv ps es c ⟨hge,(fun qs h=>by cases h;simp),(fun h=>by cases h),hes,(fun q hq=>.inl hq)⟩ (.cons 2 rfl (.cons 3 rfl (.cons 11 rfl (.cons 14 rfl (.cons 15 rfl .nil))))) rfl bO)
                         · (rw[if_neg hiv]at hge;rw[show decide ((i:Int)=(v.length:Int))=false from decide_eq_false aH];exact bT none pv ps es c ⟨hge,(fun qs h=>by cases h),(fun _=>⟨List.take_length,Nat.le_refl _⟩),hes,(fun q hq=>.inl hq)⟩ (.cons 2 rfl (.cons 3 rfl (.cons 11 rfl (.cons 14 rfl (.cons 15 rfl .nil))))) rfl bO))
      ·
        intro r pv2 cur es2 c2 ⟨hgr,hsm,hno,hde,hnw⟩;refine zz4 ?_;refine aA gBN rfl ?_;refine zz2 ?_;refine d8 136 rfl (fun h136=>?_) (fun h136=>?_)
        ·
          obtain rfl:r=none:=(by cases r with|none=>rfl|some q=>simp at h136);obtain⟨hct,hcl⟩:=hno rfl;have hnm:(i,j)∉es2.map (fun x=>x.1):=(by intro hm;obtain⟨e,he,e2⟩:=List.mem_map.1 hm;rcases hnw e he with h|h;exact h26 (List.mem_map.2 ⟨e,h,e2⟩);(rw[e2]at h;simp at h;omega));refine aI ?_;refine aBS (fun h hs=>aTK (n:=ps.length) hs) fun hone=>?_
          refine zz3 ?_;refine aA (uJ (k:=bC 9) (m:=ps.length) bS rfl (.there (.there .here)) (.there (.there .here)) rfl rfl hcl) rfl ?_;refine bR (bL ts39 rfl rfl cK bB .zero rfl) ?_;rintro _ K _ ⟨rfl,rfl⟩ -;refine zz5 ?_;refine bR (aZG Tryz.underlying427 aFC rfl rfl rfl hnm (by first|exact .here|exact .there .here|exact .there (.there .here)|exact .there (.there (.there .here)))) ?_;rintro _ K _ ⟨rfl,rfl⟩ -;refine zz9 ?_
          first
            |(refine aO (.cons (.there (.there .here)) (.cons (.there .here) (.cons (.there .here) .nil))) ?_;refine eD (iF (zL (m:=ps.length) hcl)) ?_;rw[hct];refine aO (.cons (.there .here) (.cons .here (.cons .here .nil))) ?_)
            |(refine aO (.cons (.there .here) (.cons (.there .here) (.cons (.there .here) .nil))) ?_)
          refine zz1 ?_
          first
            |exact⟨_,rfl,rfl,by simp[hgr],slTo pv2 ps.length,es2++[((i,j),c2)],c2+1,(fun e he=>by rcases List.mem_append.1 he with h|h;exact hde e h;(simp at h;subst h;exact hgr)),(fun e he=>by rcases List.mem_append.1 he with h|h;exact(hnw e h).imp_right (fun h=>by omega);(simp at h;subst h;exact .inr (Nat.le_refl _))),by simp[hgr]⟩
            |exact⟨_,rfl,rfl,by simp[hgr],pv2,es2,c2,hde,(fun e he=>(hnw e he).imp_right (fun h=>by omega)),by simp[hgr]⟩
        ·
          obtain⟨qs,rfl⟩:∃qs,r=some qs:=(by cases r with|none=>simp at h136|some q=>exact⟨q,rfl⟩);obtain rfl:=hsm qs rfl;refine zz9 ?_
          first
            |(refine aO (.cons (.there (.there .here)) (.cons (.there .here) (.cons (.there .here) .nil))) ?_;refine eD (iF (zL (m:=ps.length) hcl)) ?_;rw[hct];refine aO (.cons (.there .here) (.cons .here (.cons .here .nil))) ?_)
            |(refine aO (.cons (.there .here) (.cons (.there .here) (.cons (.there .here) .nil))) ?_)
          refine zz1 ?_
          first
            |exact⟨_,rfl,rfl,by simp[hgr],slTo pv2 ps.length,es2++[((i,j),c2)],c2+1,(fun e he=>by rcases List.mem_append.1 he with h|h;exact hde e h;(simp at h;subst h;exact hgr)),(fun e he=>by rcases List.mem_append.1 he with h|h;exact(hnw e h).imp_right (fun h=>by omega);(simp at h;subst h;exact .inr (Nat.le_refl _))),by simp[hgr]⟩
            |exact⟨_,rfl,rfl,by simp[hgr],pv2,es2,c2,hde,(fun e he=>(hnw e he).imp_right (fun h=>by omega)),by simp[hgr]⟩
end Go.Proofs
end
section
attribute [local irreducible] Go.SL.T Go.SL.OL Go.SL.D Go.SL.DL Go.SL.Ev Go.SL.Ef Go.SL.EfS
namespace Go.Proofs
open Go Go.SL Go.Syn Go.Mach
theorem tD(oct:Bool)(s:List UInt8):(eF oct s).length=s.length:=by unfold eF;split <;> simp[cN]
theorem aVJ(w k:List UInt8)(oct:Bool):glob w k oct=gl w (eF oct w) (eF oct k) 0 0:=by
 unfold glob gl;rw[tD];rfl
theorem aNM(w0 k0:List UInt8)(oct:Bool)(K:Hl)(hw:w0.length≤1000000)(hk:k0.length≤1000000):
  Sp Tryz.prog 253 [str w0,str k0,.func (.func (aAM oct)) #[] #[]] K [] (Ret fun v K' L'=>∃pv,v=.tuple #[pv,.bool (glob w0 k0 oct).isSome]∧L'=[sl false (bC 9) pv ((glob w0 k0 oct).getD [])]):=by
 refine aZ Tryz.func253 rfl Tryz.ntmps253 rfl rfl fun F w=>?_
 refine zz3 ?_;rintro _ K _ ⟨b3,rfl,rfl,rfl⟩ -;refine zz8 ?_;refine cE rfl rfl (mI oct w0 _ aH) rfl ?_;refine zz2 ?_;refine cE rfl rfl (mI oct k0 _ aH) rfl ?_;refine zz1 ?_;rintro _ K _ ⟨b8,rfl,rfl,rfl⟩ -;refine zz1 ?_;rintro _ K _ ⟨b9,rfl,rfl,rfl⟩ -;refine bR (bL ts9 rfl rfl cK bB .zero rfl) ?_;rintro _ K _ ⟨rfl,rfl⟩ -;refine bR (bL ts9 rfl rfl cK bB .zero rfl) ?_;rintro _ K _ ⟨rfl,rfl⟩ -;refine zz4 ?_;refine ol_s pZ rfl ?_;rintro _ K _ ⟨b20,rfl,rfl,rfl⟩ -;refine zz1 ?_;rintro _ K _ ⟨b10,rfl,rfl,rfl⟩ -;refine bR (bL aUF rfl rfl cK bB .zero rfl) ?_;rintro _ K _ ⟨rfl,rfl⟩ -;refine zz5 ?_;rintro _ K _ ⟨b11,rfl,rfl,rfl⟩ -;refine zz5 ?_;rintro _ K _ ⟨b12,rfl,rfl,rfl⟩ -;refine zz5 ?_;refine bR (bL aBY rfl rfl cK bB .zero rfl) ?_;rintro _ K _ ⟨rfl,rfl⟩ -;refine zz3 ?_;refine sT fun K1 le1 h1=>?_
 refine uA (.cons (.there .here) .nil) ?_;refine sT fun K2 le2 h2=>?_
 refine uA (.cons (.there (.there .here)) .nil) ?_;refine sT fun K3 le3 h3=>?_
 refine uA (.cons (.there (.there .here)) .nil) ?_;refine sT fun K4 le4 h4=>?_
 refine uA (.cons (.there (.there .here)) .nil) ?_;refine sT fun K5 le5 h5=>?_
 have l45:=le5;have l35:=Hl.le_trans le4 l45;have l25:=Hl.le_trans le3 l35;have l15:=Hl.le_trans le2 l25;have h1:=l15 _ _ h1;have h2:=l25 _ _ h2;have h3:=l35 _ _ h3;have h4:=l45 _ _ h4;refine t8 (eT (bC 9)) ?_;refine uBi ?_;refine aB ?_;refine aA (aL aBY rfl (.known h1) rfl) rfl ?_;refine aY rfl rfl (aKC w0 (eF oct w0) (eF oct k0) b10 b20 b11 b9 b8 b3 b12 (tD oct w0).symm (by rw[tD];exact hw) (by rw[tD];exact hk) _ 0 0 [] [] 0 _ _ (Nat.le_refl _) ⟨h2,h3,h4,h5,h1⟩ (Nat.zero_le _) (Nat.zero_le _) (Nat.zero_le _) (fun e h=>by cases h)) (.cons .here (.cons .here (.cons .here .nil))) rfl ?_;rintro _ K _ ⟨rfl,rfl,pv,es,c,hde,hnew,rfl⟩ -;refine zz12 ?_;refine uBe ?_;refine kK rfl rfl rfl (Hl.le_trans le1 l15) ?_;rw[aVJ];exact⟨_,rfl,pv,rfl,rfl⟩
end Go.Proofs
end
section
attribute [local irreducible] Go.SL.T Go.SL.OL Go.SL.D Go.SL.DL Go.SL.Ev Go.SL.Ef Go.SL.EfS
namespace Go.Proofs
open Go Go.SL Go.Syn Go.Mach
theorem aO6{α:Type}{k:El α}{b:Nat}{xs:List α}{n:Nat}{M:List Asn}(hn:n=xs.length):∀h,Sat (pt b (aU (k.cs xs) k.e)::M) h→Sat (sl false k (.slice (some ⟨b,0,none⟩) n n) xs::M) h:=by
 subst hn;rintro h ⟨a,l,ha,hl,hd,rfl⟩;refine⟨a,l,.inr ⟨b,xs.length,[],(0,0),rfl,(fun h=>by cases h),Nat.le_refl _,by simp,.inl (Nat.le_refl _),?_⟩,hl,hd,rfl⟩
 rw[List.append_nil];exact ha
def oM(o:Ins)(x:aJ)(ks:List aJ):Option (List aJ):=pM (fun k=>(gT o x k).map fun ps=>x::ps) ks
theorem o3{α:Type}{l:List α}{i:Nat}{x:α}(hx:l[i]?=some x):l.drop i=x::l.drop (i+1):=by
 have hi:i < l.length:=by
  rcases Nat.lt_or_ge i l.length with h'|h'
  ·exact h'
  ·simp[List.getElem?_eq_none h']at hx
 have hc:l[i]=x:=by simpa[List.getElem?_eq_getElem hi]using hx
 rw[List.drop_eq_getElem_cons hi,hc]
theorem aC2{o:Ins}{vs ks:List aJ}{i:Nat}{x:aJ}(hx:vs[i]?=some x):iE o (vs.drop i) ks=(match oM o x ks with|some z=>some z|none=>iE o (vs.drop (i+1)) ks):=by
 rw[o3 hx];unfold iE oM;rw[pM]
 cases pM (fun k=>(gT o x k).map fun ps=>x::ps) ks <;> rfl
theorem aNR{o:Ins}{x y:aJ}{ks ps:List aJ}{j:Nat}(hy:ks[j]?=some y)(h:gT o x y=some ps):oM o x (ks.drop j)=some (x::ps):=by
 rw[o3 hy];unfold oM;rw[pM,h];rfl
theorem aRY{o:Ins}{x y:aJ}{ks:List aJ}{j:Nat}(hy:ks[j]?=some y)(h:gT o x y=none):oM o x (ks.drop j)=oM o x (ks.drop (j+1)):=by
 rw[o3 hy];unfold oM;rw[pM,h];rfl
theorem aNQ{o:Ins}{x:aJ}{ks:List aJ}{j:Nat}(h:ks.length≤j):oM o x (ks.drop j)=none:=by rw[List.drop_of_length_le h];rfl
theorem aSA{o:Ins}{vs ks:List aJ}{j:Nat}(h:vs.length≤j):iE o (vs.drop j) ks=none:=by rw[List.drop_of_length_le h];rfl
theorem bBW{o:Ins}{x y:aJ}(h:o.tag=1):gT o x y=if decide (eF o.oct x=eF o.oct y)=true then some []else none:=by unfold gT;rw[if_pos h];simp
theorem aZ1{o:Ins}{x y:aJ}(h:o.tag=2):gT o x y=if decide (0≤Lib.index (eF o.oct x) (eF o.oct y))=true then some []else none:=by unfold gT;rw[if_neg aH,if_pos h];simp
theorem aGB{o:Ins}{x y:aJ}(h:o.tag=3):gT o x y=glob x y o.oct:=by unfold gT;rw[if_neg aH,if_neg aH]
theorem xM{nm:Bool}{m:Msg}{o:Ins}{s:MS}(h:¬(1≤o.tag∧o.tag≤3∧s.stack.length < 8)):matchI nm m o s=.error (12,s.pc):=by unfold matchI;rw[if_neg h];rfl
theorem aHM{nm:Bool}{m:Msg}{o:Ins}{s:MS}(h:1≤o.tag∧o.tag≤3∧s.stack.length < 8)(hm:iE o (gC (dC nm s.vars s.parts) m o) (o.b.map (dC nm s.vars s.parts))=none):matchI nm m o s=push s false:=by unfold matchI;rw[if_pos h];simp only[hm]
theorem aHN{nm:Bool}{m:Msg}{o:Ins}{s:MS}{ps:List aJ}(h:1≤o.tag∧o.tag≤3∧s.stack.length < 8)(hm:iE o (gC (dC nm s.vars s.parts) m o) (o.b.map (dC nm s.vars s.parts))=some ps):matchI nm m o s=push (if o.tag=3∧nm=true then {s with parts:=ps}else s) true:=by unfold matchI;rw[if_pos h];simp only[hm]
def MMI(nm:Bool)(o:Ins)(x y:aJ)(s:MS)(pv:Value)(ok:Bool)(pv':Value)(s':MS):Prop:=
 (ok=true∧∃ps,gT o x y=some ps∧s'=(if o.tag=3∧nm=true then {s with parts:=x::ps}else s))∨(ok=false∧gT o x y=none∧s=s'∧pv=pv')
theorem aA3{nm:Bool}{o:Ins}{x y:aJ}{s:MS}{pv:Value}(h:o.tag=1):MMI nm o x y s pv (decide (eF o.oct x=eF o.oct y)) pv s:=by
 unfold MMI;rw[bBW h]
 by_cases hd:eF o.oct x=eF o.oct y
 ·exact .inl ⟨by simp[hd],[],by simp[hd],by rw[if_neg aH]⟩
 ·exact .inr ⟨by simp[hd],by simp[hd],rfl,rfl⟩
theorem wE{nm:Bool}{o:Ins}{x y:aJ}{s:MS}{pv:Value}(h:o.tag=2):MMI nm o x y s pv (decide (0≤Lib.index (eF o.oct x) (eF o.oct y))) pv s:=by
 unfold MMI;rw[aZ1 h]
 by_cases hd:0≤Lib.index (eF o.oct x) (eF o.oct y)
 ·exact .inl ⟨by simp[hd],[],by simp[hd],by rw[if_neg aH]⟩
 ·exact .inr ⟨by simp[hd],by simp[hd],rfl,rfl⟩
theorem aA4{nm:Bool}{o:Ins}{x y:aJ}{s:MS}{pv:Value}(h:o.tag=3)(hg:(glob x y o.oct).isSome=false):MMI nm o x y s pv (glob x y o.oct).isSome pv s:=by
 unfold MMI;rw[aGB h];exact .inr ⟨hg,by simpa using hg,rfl,rfl⟩
theorem aA5{o:Ins}{x y:aJ}{s:MS}{pv:Value}(h:o.tag=3):MMI false o x y s pv (glob x y o.oct).isSome pv s:=by
 unfold MMI;rw[aGB h];cases hg:glob x y o.oct with
 |none=>exact .inr ⟨rfl,rfl,rfl,rfl⟩
 |some ps=>exact .inl ⟨rfl,ps,rfl,by simp⟩
theorem wF{o:Ins}{x y:aJ}{s:MS}{pv pv':Value}(h:o.tag=3)(hg:(glob x y o.oct).isSome=true):MMI true o x y s pv (glob x y o.oct).isSome pv' {s with parts:=x::(glob x y o.oct).getD []}:=by
 unfold MMI;rw[aGB h];cases hg':glob x y o.oct with
 |none=>rw[hg']at hg;cases hg
 |some ps=>exact .inl ⟨rfl,ps,rfl,by rw[if_pos ⟨h,rfl⟩];rfl⟩
theorem aNK(w v k:aJ):∀f i j ps,iC w v k f i j=some ps→ps.length≤f:=by
 intro f;induction f with
 |zero=>intro i j ps h;cases h
 |succ f ih=>
  intro i j ps h;unfold iC at h;split at h
  ·split at h
   ·cases h;simp
   ·cases h
  ·split at h
   ·have key:∀n e,kM (fun e=>(iC w v k f e (j+1)).map fun ps=>((w.take e).drop i)::ps) n e=some ps→ps.length≤f+1:=by
     intro n;induction n with
     |zero=>intro e h;cases h
     |succ n ihn=>
      intro e h;unfold kM at h;split at h
      ·rename_i x hx;cases h
       cases hy:iC w v k f e (j+1)with
       |none=>rw[hy]at hx;cases hx
       |some q=>rw[hy]at hx;cases hx;have:=ih _ _ _ hy;simpa using this
      ·exact ihn _ h
    exact key _ _ h
   ·split at h
    ·cases h
    ·split at h
     ·cases hy:iC w v k f (i+1) (j+1)with
      |none=>rw[hy]at h;cases h
      |some q=>rw[hy]at h;cases h;have:=ih _ _ _ hy;simpa using this
     ·split at h
      ·split at h
       ·have:=ih _ _ _ h;omega
       ·cases h
      ·split at h
       ·have:=ih _ _ _ h;omega
       ·cases h
theorem aRV(x y:aJ)(oct:Bool):((glob x y oct).getD []).length≤y.length+1:=by
 cases h:glob x y oct with
 |none=>simp
 |some ps=>exact aNK _ _ _ _ _ _ _ h
structure MZ where
 i:Nat
 K:Hl
structure MM where
 ok:Bool
 K:Hl
 pv:Value
 s:MS
theorem aHO(b mb:Nat)(m:Msg)(hv pv:Value)(nm:Bool)(s:MS)(o:Ins)(av0 bv:Value)(n:Int)(K0:Hl)(hg:Glob K0)(hpv:Ksl (bC 9) K0 pv s.parts)(ha:Ksl (bC 9) K0 av0 o.a)(hb:Ksl (bC 9) K0 bv o.b)(hh:Ksl hdEl K0 hv m.hs)(hln:m.hs.length≤1000000)(hhs:∀h∈m.hs,h.1.length≤1000000)(hl:o.a.length≤1000000)(hs:∀x∈o.a,x.length≤100000)(hlb:o.b.length≤1000000)(hsb:∀x∈o.b,x.length≤100000)(hsm:pL s.vars s.parts)
  (hvl:∀x∈gC (dC nm s.vars s.parts) m o,x.length≤1000000):
  Sp Tryz.prog 149 [ptr b,mJ o av0 bv,i64 n] K0 [mch b mb m hv pv nm s] (MI b mb m hv nm (matchI nm m o s)):=by
 have hkl:∀x∈o.b.map (dC nm s.vars s.parts),x.length≤100000:=(by intro x hx;obtain⟨y,hy,rfl⟩:=List.mem_map.1 hx;exact jA (hsb y hy));have hkn:(o.b.map (dC nm s.vars s.parts)).length≤1000000:=(by simpa using hlb);have hvn:(gC (dC nm s.vars s.parts) m o).length≤1000000*1000000:=by
  unfold gC;split
  ·simp;omega
  ·split
   ·exact Nat.le_trans (r7 (n:=1000000) (fun x=>Nat.le_trans (uK m _) hln) _) (Nat.mul_le_mul_right _ (by simpa using hl))
   ·split
    ·exact Nat.le_trans (r7 (n:=1) (aLS m) _) aH
    ·simp
 have hm0:∀r,iE o (gC (dC nm s.vars s.parts) m o) (o.b.map (dC nm s.vars s.parts))=r→iE o ((gC (dC nm s.vars s.parts) m o).drop 0) (o.b.map (dC nm s.vars s.parts))=r:=fun r h=>h
 have hall:=fun(K:Hl) (hg:Glob K) (hpv:Ksl (bC 9) K pv s.parts) (hb:Ksl (bC 9) K bv o.b)=>s6 b mb m hv pv nm s bv o.b K hg hpv hb hlb hsb hsm
 have hval:=fun(K:Hl) (hg:Glob K) (hpv:Ksl (bC 9) K pv s.parts) (ha:Ksl (bC 9) K av0 o.a) (hb:Ksl (bC 9) K bv o.b) (hh:Ksl hdEl K hv m.hs)=>aJE b mb m hv pv nm s o av0 bv K hg hpv ha hb hh hln hhs hl hs hsm
 have hnone:=aHM (nm:=nm) (m:=m) (o:=o) (s:=s);have hsome:=fun ps=>aHN (nm:=nm) (m:=m) (o:=o) (s:=s) (ps:=ps)
 generalize hvse:gC (dC nm s.vars s.parts) m o=vs at*
 generalize hkse:o.b.map (dC nm s.vars s.parts)=ks at*
 clear hm0;obtain⟨sa,sn,sc,rfl⟩:=ha.isSlice;obtain⟨ta,tn,tc,rfl⟩:=hb.isSlice;refine aZ Tryz.func149 rfl Tryz.ntmps149 rfl rfl fun F w=>?_
 refine rM fun av sv f c=>?_
 refine zz3 ?_;rintro _ K _ ⟨b4,rfl,rfl,rfl⟩ -;refine zz9 ?_;refine cF 18 rfl (fun g18=>?_) (fun g18=>?_)
 ·
  refine zz8 ?_;refine cF 23 rfl (fun g23=>?_) (fun g23=>?_)
  ·
   refine zz9 ?_;refine aA (bX rfl Tryz.underlying176 rfl aN) rfl ?_;refine zz3 ?_;refine aX rfl rfl (oN ((s.stack.length:Int) < 8) _ _ _ _ _ _ _ _ _ _ _ _ _) (.cons (.there .here) .nil) rfl (fun _ _=>a7 _ _) ?_ ?_
   ·
    rintro _ _ _ hTr le1;obtain⟨e,p,hu,fb,h,rfl⟩:=a8 hTr;cases h
    refine uAa ?_;refine zz2 ?_;have hbl:¬((s.stack.length:Int) < 8):=gB5;rw[if_neg hbl]at hu;cases hu
    have hno:=xM (nm:=nm) (m:=m) (s:=s) (o:=o) aH;unfold MI;rw[hno];exact⟨fb,rfl,rfl⟩
   rintro _ K _ hTr -;obtain⟨u0,hu,rfl,rfl,rfl⟩:=bA hTr;clear hTr;have hbl:(s.stack.length:Int) < 8:=Classical.byContradiction (fun h=>by rw[if_neg h]at hu;cases hu);have hcc:1≤o.tag∧o.tag≤3∧s.stack.length < 8:=⟨by omega,by omega,by omega⟩;refine aSN (As:=[_,_,_,_]) (.cons .here (.cons (.there .here) (.cons (.there .here) (.cons (.there .here) .nil)))) ?_;refine jY (dU (m:=m) (hv:=hv) (pv:=pv) (nm:=nm) (s:=s)) ?_;refine zz6 ?_;refine cE rfl rfl (aE3 o.oct _) rfl ?_;refine zz8 ?_;refine aY rfl rfl (hall _ hg hpv hb) (.cons .here .nil) rfl ?_;rintro kv K _ ⟨rfl,rfl⟩ -;refine zz8 ?_;refine aY rfl rfl (hval _ hg hpv ha hb hh) (.cons (.there .here) .nil) rfl ?_;rintro vv K1 _ rfl le1;refine uAf ?_;refine zz4 ?_;refine d6 (fun(q:MZ)=>q.i≤vs.length∧K.le q.K∧iE o (vs.drop q.i) ks=iE o vs ks) (fun q=>[(0,ptr b),(4,ptr b4),(6,.func (.func (aAM o.oct)) #[] #[]),(7,kv),(41,vv),(42,i64 vs.length),(43,i64 q.i)]) (fun q=>q.K) (fun _=>[sl false (bC 9) vv vs,mch b mb m hv pv nm s,sl false (bC 9) kv ks,pt b4 (aU [i64 o.op,i64 o.n,i64 o.tag,.bool o.oct,.slice sa sn sc,.slice ta tn tc,i64 o.at_] 41)]) (fun q=>vs.length - q.i) ⟨0,K1⟩ ⟨Nat.zero_le _,le1,by rw[List.drop_zero]⟩ (.cons 0 rfl (.cons 4 rfl (.cons 6 rfl (.cons 7 rfl (.cons 41 rfl (.cons 42 rfl (.cons 43 rfl .nil))))))) rfl (fun _ h=>h) ?_;intro ⟨i,K2⟩ ⟨hi0,hle2,hmall⟩;dsimp only at hi0 hle2 hmall ⊢;refine zz6 ?_;refine bG 44 rfl (fun h44=>?_) (fun h44=>?_)
   ·
    have hilt:i < vs.length:=by omega
    obtain⟨x,hx⟩:∃x,vs[i]?=some x:=⟨vs[i]'hilt,List.getElem?_eq_getElem hilt⟩;have hxl:=hvl x (List.mem_of_getElem? hx);refine zz6 ?_;refine aA (bQ (k:=(bC 9)) bS rfl aN rfl rfl gBR) rfl ?_;refine uAg ?_;refine zz6 ?_;refine uAf ?_;refine zz4 ?_;refine d6 (fun(q:MZ)=>q.i≤ks.length∧K.le q.K∧oM o x (ks.drop q.i)=oM o x ks) (fun q=>[(0,ptr b),(4,ptr b4),(6,.func (.func (aAM o.oct)) #[] #[]),(7,kv),(9,str x),(41,vv),(42,i64 vs.length),(43,i64 i),(47,kv),(48,i64 ks.length),(49,i64 q.i)]) (fun q=>q.K) (fun _=>[sl false (bC 9) vv vs,mch b mb m hv pv nm s,sl false (bC 9) kv ks,pt b4 (aU [i64 o.op,i64 o.n,i64 o.tag,.bool o.oct,.slice sa sn sc,.slice ta tn tc,i64 o.at_] 41)]) (fun q=>ks.length - q.i) ⟨0,K2⟩ ⟨Nat.zero_le _,hle2,by rw[List.drop_zero]⟩ (.cons 0 rfl (.cons 4 rfl (.cons 6 rfl (.cons 7 rfl (.cons 9 rfl (.cons 41 rfl (.cons 42 rfl (.cons 43 rfl (.cons 47 rfl (.cons 48 rfl (.cons 49 rfl .nil))))))))))) rfl (fun _ h=>h) ?_;intro ⟨j,K3⟩ ⟨hj0,hle3,hin⟩;dsimp only at hj0 hle3 hin ⊢;refine zz6 ?_;refine bG 50 rfl (fun h50=>?_) (fun h50=>?_)
    ·
     have hjlt:j < ks.length:=by omega
     obtain⟨y,hy⟩:∃y,ks[j]?=some y:=⟨ks[j]'hjlt,List.getElem?_eq_getElem hjlt⟩;have hyl:=hkl y (List.mem_of_getElem? hy);refine zz6 ?_;refine aA (bQ (k:=(bC 9)) bS rfl aN rfl rfl gBR) rfl ?_;refine uAg ?_;refine zz8 ?_;refine gG (fun(q:MM)=>K.le q.K∧MMI nm o x y s pv q.ok q.pv q.s∧Ksl (bC 9) q.K q.pv q.s.parts) (fun q=>[(0,ptr b),(4,ptr b4),(6,.func (.func (aAM o.oct)) #[] #[]),(7,kv),(9,str x),(12,.bool q.ok),(41,vv),(42,i64 vs.length),(43,i64 i),(47,kv),(48,i64 ks.length),(49,i64 j)]) (fun q=>q.K) (fun q=>[mch b mb m hv q.pv nm q.s,sl false (bC 9) vv vs,sl false (bC 9) kv ks,pt b4 (aU [i64 o.op,i64 o.n,i64 o.tag,.bool o.oct,.slice sa sn sc,.slice ta tn tc,i64 o.at_] 41)]) ?_ ?_
     ·
      refine zz13 ?_;refine bG 55 rfl (fun h55=>?_) (fun h55=>?_)
      ·
       refine zz3 ?_;refine cE rfl rfl (mI o.oct x _ aH) rfl ?_;refine zz2 ?_;refine cE rfl rfl (mI o.oct y _ aH) rfl ?_;refine zz4 ?_
       first
        |exact gAG
        |exact gAF
        |exact gAB
        |exact gAD
      ·
       refine zz6 ?_;refine bG 64 rfl (fun h64=>?_) (fun h64=>?_)
       ·
        refine zz4 ?_;refine cE rfl rfl (aA1 x y o.oct _ (hg.mono hle3) aH aH) rfl ?_;refine zz3 ?_
        first
         |exact gAG
         |exact gAF
         |exact gAB
         |exact gAD
       ·
        refine zz6 ?_;refine bG 70 rfl (fun h70=>?_) (fun h70=>?_)
        ·
         refine zz10 ?_;refine aY rfl rfl (aNM x y o.oct _ aH aH) .nil rfl ?_;rintro _ K4 _ ⟨gv,rfl,rfl⟩ le4;have hgl:=aRV x y o.oct;refine zz8 ?_;refine uA (.cons (.there (.there .here)) .nil) ?_;refine rM fun av sv f c=>?_
         refine zz3 ?_;refine oQ 80 rfl (fun g80=>?_) (fun g80=>?_)
         ·
          refine zz11 ?_;refine d8 85 rfl (fun h85=>?_) (fun h85=>?_)
          ·
           refine zz3 ?_;refine ol_s (a6 (z0:=[(str [])]) bS tz9 rfl rfl rfl rfl (.cons rfl rfl rfl (.cons .nil) .nil)) rfl ?_;rintro _ K _ ⟨b88,rfl,rfl,rfl⟩ -;refine zz1 ?_;refine jY (aO6 (k:=bC 9) (xs:=[x]) rfl) ?_;refine ol_s (dT (k:=(bC 9)) (ys:=((glob x y o.oct).getD [])) fA rfl rfl .here (fun w j=>dK Tryz.underlying39 (SeesSl.at (k:=bC 9) (.own (.there (.there (.there (.there (.there .here)))))) j)) gB9 gB9) rfl ?_;rintro v90 K _ ⟨rfl,rfl,ho90⟩ -;refine zz2 ?_;refine bR (bL ts39 rfl rfl cK bB (.succ (.succ (.succ (.succ (.succ (.succ (.succ (.succ .zero)))))))) rfl) ?_;rintro _ K _ ⟨rfl,rfl⟩ -;refine zz2 ?_
           first
            |exact gAG
            |exact gAF
            |exact gAB
            |exact gAD
          ·
           refine zz2 ?_
           first
            |exact gAG
            |exact gAF
            |exact gAB
            |exact gAD
         ·
          refine zz10 ?_
          first
           |exact gAG
           |exact gAF
           |exact gAB
           |exact gAD
        ·
         exact absurd (show o.tag=3 by omega) h70
     ·
      intro ⟨ok,K4,pv4,s4⟩ ⟨hle4,hmm,hks4⟩;dsimp only at hle4 hmm hks4 ⊢;refine zz5 ?_;refine d8 93 rfl (fun h93=>?_) (fun h93=>?_)
      ·
       obtain⟨ps,hvk,hs4⟩:∃ps,gT o x y=some ps∧s4=(if o.tag=3∧nm=true then {s with parts:=x::ps}else s):=(by rcases hmm with ⟨_,h⟩|⟨h,_⟩;exact h;(rw[h93]at h;cases h));have hres:matchI nm m o s=push s4 true:=(by rw[hs4];exact hsome (x::ps) hcc (by rw[←hmall,aC2 hx,←hin,aNR hy hvk]));refine zz3 ?_;refine aX rfl rfl (lG b mb m hv pv4 nm s4 true _) (.cons .here .nil) rfl (fun _ _=>a7 _ _) ?_ ?_
       ·
        rintro _ _ _ hTr le1;obtain⟨e,p,hq,fb,h,rfl⟩:=a8 hTr;cases h
        refine uAa ?_;refine zz10 ?_;refine bF (Hl.le_trans hle4 le1) ?_;unfold MI;rw[hres,hq];exact⟨fb,rfl,rfl⟩
       rintro _ K _ hTr -;obtain⟨q,hq,rfl,rfl,rfl⟩:=bA hTr;clear hTr;have hqp:=eP hq;refine zz12 ?_;refine uAa ?_;refine qR rfl (by first|exact hle4|exact hle2) ?_;unfold MI;rw[hres,hq];exact⟨_,rfl,rfl,pv4,by rw[hqp];exact hks4,rfl⟩
      ·
       obtain⟨hvk,rfl,rfl⟩:gT o x y=none∧s=s4∧pv=pv4:=(by rcases hmm with ⟨h,_⟩|⟨_,h⟩;(rw[h93]at h;cases h);exact h);refine zz7 ?_;refine aO (.cons (.there .here) (.cons .here (.cons .here (.cons .here .nil)))) ?_;exact cG ⟨j+1,K4⟩ ⟨by (show j+1≤ks.length);omega,hle4,(aRY hy hvk).symm.trans hin⟩ (by (show ks.length - (j+1) < ks.length - j);omega) (.cons 0 rfl (.cons 4 rfl (.cons 6 rfl (.cons 7 rfl (.cons 9 rfl (.cons 41 rfl (.cons 42 rfl (.cons 43 rfl (.cons 47 rfl (.cons 48 rfl (.cons 49 rfl .nil))))))))))) rfl (fun _ h=>h)
    ·
     have hin0:oM o x ks=none:=(by rw[←hin];exact aNQ aH);refine zz10 ?_;exact cG ⟨i+1,K3⟩ ⟨by (show i+1≤vs.length);omega,hle3,by have h:=aC2 (o:=o) (ks:=ks) hx;rw[hin0]at h;exact h.symm.trans hmall⟩ (by (show vs.length - (i+1) < vs.length - i);omega) (.cons 0 rfl (.cons 4 rfl (.cons 6 rfl (.cons 7 rfl (.cons 41 rfl (.cons 42 rfl (.cons 43 rfl .nil))))))) rfl (fun _ h=>h)
   ·
    have hres:matchI nm m o s=push s false:=hnone hcc (by rw[←hmall];exact aSA aH);refine zz7 ?_;refine aX rfl rfl (lG b mb m hv pv nm s false _) (.cons (.there .here) .nil) rfl (fun _ _=>a7 _ _) ?_ ?_
    ·
     rintro _ _ _ hTr le1;obtain⟨e,p,hq,fb,h,rfl⟩:=a8 hTr;cases h
     refine uAa ?_;refine bF (Hl.le_trans hle2 le1) ?_;unfold MI;rw[hres,hq];exact⟨fb,rfl,rfl⟩
    rintro _ K _ hTr -;obtain⟨q,hq,rfl,rfl,rfl⟩:=bA hTr;clear hTr;have hqp:=eP hq;refine uAx ?_;refine cT rfl (by first|exact hle4|exact hle2) ?_;unfold MI;rw[hres,hq];exact⟨_,rfl,rfl,pv,by rw[hqp];exact hpv.mono hle2,rfl⟩
  ·
   have hno:=xM (nm:=nm) (m:=m) (s:=s) (o:=o) aH;refine zz7 ?_;refine aX rfl rfl (o9 _ _ _ _ _ _ _ _ _ _ _ _ _) (.cons (.there .here) .nil) rfl gBM ?_ ?_
   ·
    rintro _ _ _ ⟨fb,h,rfl⟩ le1;cases h
    refine uAa ?_;refine zz2 ?_;simp only[MI,hno,if_true,if_false,↓reduceIte];exact⟨fb,rfl,rfl⟩
   ·
    rintro _ _ _ ⟨_,h,_⟩;cases h
 ·
  have hno:=xM (nm:=nm) (m:=m) (s:=s) (o:=o) aH;refine zz12 ?_;refine aX rfl rfl (o9 _ _ _ _ _ _ _ _ _ _ _ _ _) (.cons (.there .here) .nil) rfl gBM ?_ ?_
  ·
   rintro _ _ _ ⟨fb,h,rfl⟩ le1;cases h
   refine uAa ?_;refine zz2 ?_;simp only[MI,hno,if_true,if_false,↓reduceIte];exact⟨fb,rfl,rfl⟩
  ·
   rintro _ _ _ ⟨_,h,_⟩;cases h
end Go.Proofs
end
section
namespace Go.SL
abbrev itr(b:Nat)(l:List UInt8)(p:Nat):Asn:=pt b (.stringIter ⟨l.toArray⟩ p)
abbrev dec(l:List UInt8)(p:Nat):Nat×Nat:=Utf8.decode ⟨l.toArray⟩ p
section
variable{E:Env}{fr:Fr}{K:Hl}{L L':List Asn}{dst:Option Tmp}{ty:TypeId}{pos:String}{aft:Array Edge}{g:Option (Nat×Bool)}{x:Operand}{t:TypeId}{l:List UInt8}{b p:Nat}
theorem aBM(hu:E.P.underlying t=some .string)(hx:fr.ev x=some (str l)):EfS E fr K L ⟨dst,.range t x,ty,pos,aft,g⟩ (fun v K' L'=>∃b,v=ptr b∧K'=K∧L'=itr b l 0::L):=by
 intro a w f i;refine⟨ptr w.heap.size,w.iter ⟨l.toArray⟩ 0,K,itr w.heap.size l 0::L,.inl ?_,⟨_,rfl,rfl,rfl⟩,Hl.le_refl _,i.alloc _⟩
 simp only[execOp,f.ev hx,bind];exact aP (run_range_string w t ⟨l.toArray⟩ hu)
theorem aBL(hp:p < l.length)(hx:fr.ev x=some (ptr b))(hT:Fnd (itr b l p) (itr b l (p+(dec l p).2)) L L'):
  EfS E fr K L ⟨dst,.next x true,ty,pos,aft,g⟩ (fun v K' L''=>v=.tuple #[.bool true,i64 p,.int .i32 (dec l p).1]∧K'=K∧L''=L'):=by
 intro a w f i;have hb:=i.mem hT;have hp':p < (⟨l.toArray⟩:ByteArray).size:=by simpa[ByteArray.size]using hp
 refine⟨_,w.iterAt b ⟨l.toArray⟩ (p+(dec l p).2),K,L',.inl ?_,⟨rfl,rfl,rfl⟩,Hl.le_refl _,?_⟩
 ·simp only[execOp,f.ev hx,bind];exact aP (Lib.run_next_any_at w b ⟨l.toArray⟩ p ty hb hp')
 ·have hlt:b < w.heap.size:=(Array.getElem?_eq_some_iff.1 hb).1;exact i.writeAt hT (H:=w.heap.setIfInBounds b (.stringIter ⟨l.toArray⟩ (p+(dec l p).2))) (by simp) (by simp[hlt]) (fun y hy=>by rw[Array.getElem?_setIfInBounds_ne (Ne.symm hy)])
theorem aDI(hp:¬p < l.length)(hx:fr.ev x=some (ptr b))(hT:Hs (itr b l p) L):
  EfS E fr K L ⟨dst,.next x true,ty,pos,aft,g⟩ (fun v K' L''=>v=.tuple #[.bool false]∧K'=K∧L''=L):=by
 intro a w f i;have hb:=(Sees.own (K:=K) hT).at i;have hp':¬p < (⟨l.toArray⟩:ByteArray).size:=by simpa[ByteArray.size]using hp
 refine⟨_,w,K,L,.inl ?_,⟨rfl,rfl,rfl⟩,Hl.le_refl _,i⟩
 simp only[execOp,f.ev hx,bind];exact aP (Lib.run_next_end_at w b ⟨l.toArray⟩ p ty hb hp')
end
theorem aQF(l:List UInt8)(p:Nat)(h:p < l.length):(⟨l.toArray⟩:ByteArray).get! p=l[p]:=by
 have h':p < (⟨l.toArray⟩:ByteArray).size:=by simpa[ByteArray.size]using h
 have:=get_at ⟨l.toArray⟩ p h';rw[Nat.add_zero]at this;rw[this];rfl
theorem aYL{l:List UInt8}{p:Nat}{c:UInt8}(hc:l[p]?=some c)(h:c.toNat < 128):dec l p=(c.toNat,1):=by
 have hp:p < l.length:=by
  rcases Nat.lt_or_ge p l.length with h'|h'
  ·exact h'
  ·rw[List.getElem?_eq_none h']at hc;cases hc
 have hcl:l[p]=c:=by rw[List.getElem?_eq_getElem hp]at hc;exact Option.some.inj hc
 have h':p < (⟨l.toArray⟩:ByteArray).size:=by simpa[ByteArray.size]using hp
 have e:(⟨l.toArray⟩:ByteArray)[p]'h'=c:=hcl;have:=decode_ascii ⟨l.toArray⟩ p h' (by rw[e];exact h);rw[e]at this;exact this
theorem aYK{l:List UInt8}{p:Nat}{c:UInt8}(hc:l[p]?=some c)(h:128≤c.toNat):
    128≤(dec l p).1∧(dec l p).1≤2147483647∧1≤(dec l p).2∧p+(dec l p).2≤l.length∧∀j d,p≤j→j < p+(dec l p).2→l[j]?=some d→128≤d.toNat:=by
  have hp:p < l.length:=by
    rcases Nat.lt_or_ge p l.length with h'|h'
    · exact h'
    · rw[List.getElem?_eq_none h']at hc;cases hc
  have hcl:l[p]=c:=by rw[List.getElem?_eq_getElem hp]at hc;exact Option.some.inj hc
  have h':p < (⟨l.toArray⟩:ByteArray).size:=by simpa[ByteArray.size]using hp
  have hsz:(⟨l.toArray⟩:ByteArray).size=l.length:=by simp[ByteArray.size]
  have e:(⟨l.toArray⟩:ByteArray)[p]'h'=c:=hcl;have h1:=decode_high ⟨l.toArray⟩ p h' (by rw[e];exact h);have h2:=decode_le ⟨l.toArray⟩ p;refine⟨h1.1,h2,h1.2,?_⟩
  have hb0:((⟨l.toArray⟩:ByteArray).get! (p+0)).toNat=c.toNat:=by rw[Nat.add_zero,aQF l p hp,hcl]
  have cont:∀k,p+k < l.length→((⟨l.toArray⟩:ByteArray).get! (p+k)).toNat / 64=2→∀d,l[p+k]?=some d→128≤d.toNat:=by
    intro k hk hq d hd;rw[aQF l _ hk]at hq;rw[List.getElem?_eq_getElem hk]at hd;cases hd;omega
  have key:∀n,(∀k,1≤k→k < n→p+k < l.length∧((⟨l.toArray⟩:ByteArray).get! (p+k)).toNat / 64=2)→1≤n→(dec l p).2=n→p+(dec l p).2≤l.length∧∀j d,p≤j→j < p+(dec l p).2→l[j]?=some d→128≤d.toNat:=by
    intro n hk hn he;rw[he];refine⟨?_,fun j d hj hj2 hd=>?_⟩
    · rcases Nat.lt_or_ge 1 n with h3|h3
      · have:=(hk (n - 1) aH aH).1;omega
      · omega
    · rcases Nat.lt_or_ge p j with h3|h3
      · obtain⟨q1,q2⟩:=hk (j - p) aH aH;have ej:p+(j - p)=j:=by omega
        exact cont (j - p) q1 q2 d (by rw[ej];exact hd)
      · have:j=p:=by omega
        subst this;rw[hc]at hd;cases hd;exact h
  have hn:¬(((⟨l.toArray⟩:ByteArray).get! (p+0)).toNat < 128):=by rw[hb0];omega
  have hone:(dec l p).2=1→p+(dec l p).2≤l.length∧∀j d,p≤j→j < p+(dec l p).2→l[j]?=some d→128≤d.toNat:=key 1 (fun k h1 h2=>by omega) (Nat.le_refl _);obtain⟨D,hD⟩:∃D,D=Utf8.decode ⟨l.toArray⟩ p:=⟨_,rfl⟩;have hD2:dec l p=D:=hD.symm;rw[hD2]at key hone ⊢;have unf:=hD;simp only[Utf8.decode,hn,if_false]at unf;split at unf
  · rename_i hq;simp only[Bool.and_eq_true,beq_iff_eq,decide_eq_true_eq,hsz]at hq;split at unf
    · exact key 2 (fun k k1 k2 => by obtain rfl : k = 1 := by omega
                                     exact hq.2) aH (by rw[unf])
    · exact hone (by rw[unf])
  · split at unf
    · rename_i hq;simp only[Bool.and_eq_true,beq_iff_eq,decide_eq_true_eq,hsz]at hq;split at unf
      · exact key 3 (fun k k1 k2 => by
          rcases(show k=1∨k=2 by omega)with rfl|rfl
          · exact hq.1.2
          · exact hq.2) aH (by rw[unf])
      · exact hone (by rw[unf])
    · split at unf
      · rename_i hq;simp only[Bool.and_eq_true,beq_iff_eq,decide_eq_true_eq,hsz]at hq;split at unf
        · exact key 4 (fun k k1 k2 => by
            rcases(show k=1∨k=2∨k=3 by omega)with rfl|rfl|rfl
            · exact hq.1.1.2
            · exact hq.1.2
            · exact hq.2) aH (by rw[unf])
        · exact hone (by rw[unf])
      · exact hone (by rw[unf])
section
variable{E:Env}{fr:Fr}{K:Hl}{L:List Asn}{L':Nat→List Asn}{dst:Option Tmp}{ty:TypeId}{pos:String}{aft:Array Edge}{g:Option (Nat×Bool)}{x:Operand}{t t2:TypeId}{l:List UInt8}{b p:Nat}{c:UInt8}
theorem n3{α:Type}{l:List α}{p:Nat}{c:α}(hc:l[p]?=some c):p < l.length:=by
 rcases Nat.lt_or_ge p l.length with h'|h'
 ·exact h'
 ·rw[List.getElem?_eq_none h']at hc;cases hc
theorem aID(hc:l[p]?=some c)(h:c.toNat < 128)(hx:fr.ev x=some (ptr b))(hT:∀n,Fnd (itr b l p) (itr b l (p+n)) L (L' n)):
  EfS E fr K L ⟨dst,.next x true,ty,pos,aft,g⟩ (fun v K' L''=>v=.tuple #[.bool true,i64 p,.int .i32 c.toNat]∧K'=K∧L''=L' 1):=by
 intro a w f i;have hd:=aYL hc h;have:=aBL (dst:=dst) (ty:=ty) (pos:=pos) (aft:=aft) (g:=g) (n3 hc) hx (hT (dec l p).2) a w f i;rw[hd]at this;exact this
theorem aTJ(hc:l[p]?=some c)(h:128≤c.toNat)(hx:fr.ev x=some (ptr b))(hT:∀n,Fnd (itr b l p) (itr b l (p+n)) L (L' n)):
  EfS E fr K L ⟨dst,.next x true,ty,pos,aft,g⟩ (fun v K' L''=>∃r n:Nat,v=.tuple #[.bool true,i64 p,.int .i32 r]∧K'=K∧L''=L' n∧128≤r∧r≤2147483647∧1≤n∧p+n≤l.length∧∀j d,p≤j→j < p+n→l[j]?=some d→128≤d.toNat):=by
 intro a w f i;obtain⟨d1,d2,d3,d4,d5⟩:=aYK hc h;obtain⟨u,w',K',L'',hr,⟨hv,hK,hL⟩,le,j⟩:=aBL (dst:=dst) (ty:=ty) (pos:=pos) (aft:=aft) (g:=g) (n3 hc) hx (hT (dec l p).2) a w f i;exact⟨u,w',K',L'',hr,⟨_,_,hv,hK,hL,d1,d2,d3,d4,d5⟩,le,j⟩
def nD(r:Int):List UInt8:=(Utf8.encode r).data.toList
theorem aEY{k':IntKind}{r:Int}(hs:E.P.underlying t=some (.int k'))(hd:E.P.underlying t2=some .string)(hx:fr.ev x=some (.int .i32 r)):
  Ev E fr K L ⟨dst,.convert t t2 x,ty,pos,aft,g⟩ (str (nD r)):=fun a w f j=>by
 simp only[execOp,f.ev hx];refine dS ?_;unfold convert;rw[aP (run_underlying hs w),aP (run_underlying hd w)]
 show Result.ok (Value.string (Utf8.encode _)) w=_
 simp[nD]
theorem aTH(r:Int)(h:128≤r):2≤(nD r).length∧(nD r).length≤4∧∃c,(nD r)[(nD r).length - 1]?=some c∧128≤c.toNat:=by
 unfold nD Utf8.encode;have hc:128≤(if Utf8.valid r then r.toNat else Utf8.runeError):=by
  split
  ·omega
  ·decide
 generalize (if Utf8.valid r then r.toNat else Utf8.runeError)=c at hc
 have hb:∀n:Nat,128≤(UInt8.ofNat (0x80+n % 64)).toNat:=by
  intro n;simp;omega
 simp only[if_neg (show ¬c < 0x80 by omega)];split
 ·exact⟨by simp,by simp,_,rfl,hb _⟩
 ·split
  ·exact⟨by simp,by simp,_,rfl,hb _⟩
  ·exact⟨by simp,by simp,_,rfl,hb _⟩
end
end Go.SL
end
section
attribute [local irreducible] Go.SL.T Go.SL.OL Go.SL.D Go.SL.DL Go.SL.Ev Go.SL.Ef Go.SL.EfS
namespace Go.Proofs
open Go Go.SL Go.Syn Go.Mach
theorem aXK{cs:List UInt8}(hcs:∀c∈cs,c.toNat < 128){i:Nat}(h:i < cs.length):∃c,cs[i]?=some c∧c.toNat < 128:=⟨_,List.getElem?_eq_getElem h,hcs _ (List.getElem_mem h)⟩
theorem bAF{cs:List UInt8}(hcs:∀c∈cs,c.toNat < 128){c:UInt8}(h:128≤c.toNat)(k:Nat):Lib.indexByte (cs.drop k) c= -1:=by
 have h1:=Lib.indexByte_ge (cs.drop k) c
 by_cases hc:Lib.indexByte (cs.drop k) c= -1
 ·exact hc
 ·obtain⟨h2,_⟩:=Lib.indexByte_some (l:=cs.drop k) (c:=c) (o:=(Lib.indexByte (cs.drop k) c).toNat) aH;rw[List.getElem?_drop]at h2;have:=hcs _ (List.mem_of_getElem? h2);omega
theorem aKF(s:List UInt8)(c:UInt8)(K:Hl):Sp Tryz.prog 308 [str s,.int .u8 c.toNat] K [] (Val (i64 (Lib.indexByte s c)) K):=by
 refine lI ⟨_,Tryz.func308,rfl,rfl⟩ fun w hw=>?_
 have:=Tryz.strings_IndexByte ⟨s.toArray⟩ c.toNat w;have e:((c.toNat:Int).toNat).toUInt8=c:=by simp
 rw[e]at this;exact this
theorem aIC(cs:List UInt8)(c:UInt8)(hc:c.toNat < 128)(K:Hl):Sp Tryz.prog 289 [str cs,.int .i32 c.toNat] K [] (Val (i64 (Lib.indexByte cs c)) K):=by
 refine lI ⟨_,Tryz.func289,rfl,rfl⟩ fun w hw=>?_
 have:=Tryz.strings_IndexRune_ascii ⟨cs.toArray⟩ c.toNat w aH aH;have e:((c.toNat:Int).toNat).toUInt8=c:=by simp
 rw[e]at this;exact this
theorem aLB(r:Int)(K:Hl):Sp Tryz.prog 322 [.int .i32 r] K [] (Val (.bool (Lib.validRune r)) K):=
 lI ⟨_,Tryz.func322,rfl,rfl⟩ fun w hw=>Tryz.utf8_ValidRune r w
theorem aIB(cs:List UInt8)(hcs:∀c∈cs,c.toNat < 128)(hl:2≤cs.length)(r:Int)(h1:128≤r)(K:Hl):Sp Tryz.prog 289 [str cs,.int .i32 r] K [] (Ret fun v K' L'=>v=i64 (-1)∧K'=K∧L'=[]):=by
 obtain⟨q1,q2,cl,q3,q4⟩:=aTH r h1;refine aZ Tryz.func289 rfl Tryz.ntmps289 rfl rfl fun F w=>?_
 refine zz11 ?_;refine cF 163 rfl (fun g163=>?_) (fun g163=>?_)
 ·
  refine zz8 ?_;refine bG 160 rfl (fun h160=>?_) (fun h160=>?_)
  ·
   exact absurd h160 aH
  ·
   refine zz7 ?_;refine bG 171 rfl (fun h171=>?_) (fun h171=>?_)
   ·
    refine zz4 ?_;refine ol_s (aBM Tryz.underlying9 rfl) rfl ?_;rintro _ K _ ⟨b175,rfl,rfl,rfl⟩ -;refine zz3 ?_;refine d6 (fun(i:Nat)=>i≤cs.length) (fun i=>[(0,str cs),(1,.int .i32 r),(175,ptr b175)]) (fun _=>K) (fun i=>[itr b175 cs i]) (fun i=>cs.length - i) 0 (Nat.zero_le _) (.cons 0 rfl (.cons 1 rfl (.cons 175 rfl .nil))) rfl (fun _ h=>h) ?_;intro i hi0;rcases Nat.lt_or_ge i cs.length with hi|hi
    ·
     obtain⟨c,hc,hlo⟩:=aXK hcs hi;refine zz2 ?_;refine ol_s (aID (L':=fun n=>[itr b175 cs (i+n)]) hc hlo rfl (fun _=>.here)) rfl ?_;rintro _ K _ ⟨rfl,rfl,rfl⟩ -;refine zz22 ?_;refine bG 181 rfl (fun h181=>?_) (fun h181=>?_)
     ·
      exact absurd h181 aH
     ·
      refine zz2 ?_;exact cG (i+1) aH aH (.cons 0 rfl (.cons 1 rfl (.cons 175 rfl .nil))) rfl (fun _ h=>h)
    ·
     have hn:¬i < cs.length:=aH;refine zz2 ?_;refine ol_s (aDI hn rfl .here) rfl ?_;rintro _ K _ ⟨rfl,rfl,rfl⟩ -;refine zz17 ?_;refine uAw ?_;refine zz1 ?_;exact⟨_,rfl,rfl,rfl,rfl⟩
   ·
    refine zz3 ?_;refine cE rfl rfl (aLB r _) rfl ?_;refine aA gBN rfl ?_;refine zz3 ?_
    first|refine bG 183 rfl (fun h183=>?_) (fun h183=>?_)|refine d8 183 rfl (fun h183=>?_) (fun h183=>?_)
    ·
     refine zz7 ?_;refine uAw ?_;refine zz1 ?_;exact⟨_,rfl,rfl,rfl,rfl⟩
    ·
     refine aFZ ?_;refine zz3 ?_;refine aA (aEY Tryz.underlying21 Tryz.underlying9 rfl) rfl ?_;refine zz24 ?_;refine d6 (fun(u:Unit)=>True) (fun _=>[(0,str cs),(7,str (nD r)),(8,i64 ((nD r).length - 1)),(9,i64 ((nD r).length - 1))]) (fun _=>K) (fun _=>[]) (fun _=>0) () trivial (.cons 0 rfl (.cons 7 rfl (.cons 8 rfl (.cons 9 rfl .nil)))) rfl (fun _ h=>h) ?_;intro _ _;refine zz9 ?_;refine bG 26 rfl (fun h26=>?_) (fun h26=>?_)
     ·
      obtain⟨c,hc,hlo⟩:=aXK hcs (i:=(nD r).length - 1) aH;refine zz3 ?_;refine aFZ ?_;refine zz2 ?_;refine t_draw (anc:=[0,0,3,0,0,24,63]) (ord:=[0,1,2,3,4,5,6]) [] [] mixed gBO (cX _) ?_;refine zz2 ?_;refine dl_ev rfl rfl (.none rfl) rfl rfl (dD (j:=(nD r).length - 1) Tryz.underlying9 rfl rfl aH hc) rfl ?_;refine zz2 ?_;refine dl_ev rfl rfl (.none rfl) rfl rfl (dD (j:=(nD r).length - 1) Tryz.underlying9 rfl rfl aH q3) rfl ?_;refine zz3 ?_;refine bG 33 rfl (fun h33=>?_) (fun h33=>?_)
      ·
       refine aI ?_;refine t_draw (anc:=[0,0,2,7,0,0,48,127,255]) (ord:=[0,1,2,3,4,5,6,7,8]) [7] [] mixed gBO (cX _) ?_;refine zz3 ?_;refine dl_ev rfl rfl (.none rfl) rfl rfl (jJ (m:=(nD r).length) Tryz.underlying9 rfl rfl aH aH) rfl ?_;refine zz2 ?_;refine dl_ev rfl rfl (.none rfl) rfl rfl (dD (j:=(nD r).length - 1) Tryz.underlying9 rfl rfl aH q3) rfl ?_;refine dl_callv rfl (.none rfl) rfl rfl rfl rfl (aKF (cs.drop (nD r).length) cl _) rfl ?_;refine zz10 ?_;refine bG 43 rfl (fun h43=>?_) (fun h43=>?_)
       ·
        refine zz8 ?_;refine m9 ?_;refine zz4 ?_;refine m9 ?_;refine bP ?_;refine uAw ?_;refine zz1 ?_;exact⟨_,rfl,rfl,rfl,rfl⟩
       ·
        exact absurd (show Lib.indexByte (cs.drop (nD r).length) cl < 0 by rw[bAF hcs q4];omega) h43
      ·
       exact absurd (show ¬((c.toNat:Int)=cl.toNat) by omega) h33
     ·
      refine zz13 ?_;refine m9 ?_;refine bP ?_;refine uAw ?_;refine zz1 ?_;exact⟨_,rfl,rfl,rfl,rfl⟩
 ·
  exact absurd (show (0:Int)≤r by omega) g163
theorem aGP(cs:List UInt8)(hcs:∀c∈cs,c.toNat < 128)(hl:2≤cs.length)(s:List UInt8)(h8:s.length≤8)(K:Hl):Sp Tryz.prog 221 [str s,str cs] K [] (Ret fun v K' L'=>∃n:Int,v=i64 n∧(0≤n↔(s.any fun c=>cs.contains c)=true)∧K'=K∧L'=[]):=by
 have husc:∀(n:Int) (K:Hl),Sp Tryz.prog 290 [i64 n] K [] (Val (.bool (decide (8 < n))) K):=fun n K=>lI ⟨_,Tryz.func290,rfl,rfl⟩ fun w hw=>Tryz.strings_shouldUseASCIISet n w
 refine aZ Tryz.func221 rfl Tryz.ntmps221 rfl rfl fun F w=>?_
 refine zz12 ?_;refine bG 12 rfl (fun h12=>?_) (fun h12=>?_)
 ·
  exact absurd h12 (by rintro rfl;simp at hl)
 ·
  refine zz10 ?_;refine bG 15 rfl (fun h15=>?_) (fun h15=>?_)
  ·
   exact absurd h15 aH
  ·
   refine zz7 ?_;refine cE rfl rfl (husc _ _) rfl ?_;refine zz2 ?_;refine bG 26 rfl (fun h26=>?_) (fun h26=>?_)
   ·
    exact absurd h26 aH
   ·
    refine zz6 ?_;refine ol_s (aBM Tryz.underlying9 rfl) rfl ?_;rintro _ K _ ⟨b45,rfl,rfl,rfl⟩ -;refine zz3 ?_;refine d6 (fun(i:Nat)=>i≤s.length∧∀j d,j < i→s[j]?=some d→cs.contains d=false) (fun i=>[(0,str s),(1,str cs),(45,ptr b45)]) (fun _=>K) (fun i=>[itr b45 s i]) (fun i=>s.length - i) 0 ⟨Nat.zero_le _,fun j d h _=>by omega⟩ (.cons 0 rfl (.cons 1 rfl (.cons 45 rfl .nil))) rfl (fun _ h=>h) ?_;intro i ⟨hi0,hno⟩;rcases Nat.lt_or_ge i s.length with hi|hi
    ·
     obtain⟨c,hc⟩:∃c,s[i]?=some c:=⟨s[i]'hi,List.getElem?_eq_getElem hi⟩;rcases Nat.lt_or_ge c.toNat 128 with hlo|hhi
     ·
      refine zz2 ?_;refine ol_s (aID (L':=fun n=>[itr b45 s (i+n)]) hc hlo rfl (fun _=>.here)) rfl ?_;rintro _ K _ ⟨rfl,rfl,rfl⟩ -;refine zz20 ?_;refine cE rfl rfl (aIC cs c hlo _) rfl ?_;refine zz3 ?_;refine bG 53 rfl (fun h53=>?_) (fun h53=>?_)
      ·
       have hbl:cs.contains c=true:=(by rw[Lib.contains_iff_indexByte];exact decide_eq_true h53);refine zz11 ?_;refine uAw ?_;refine zz1 ?_
       first
        |exact⟨_,rfl,-1,rfl,⟨fun h=>by omega,fun h=>by rw[hall]at h;cases h⟩,rfl,rfl⟩
        |exact⟨_,rfl,i,rfl,⟨fun _=>List.any_eq_true.2 ⟨c,List.mem_of_getElem? hc,hbl⟩,fun _=>by omega⟩,rfl,rfl⟩
      ·
       have hbl:cs.contains c=false:=(by rw[Lib.contains_iff_indexByte];exact decide_eq_false h53);refine zz2 ?_
       first
        |exact gA4
        |(exact cG (i+n) ⟨h4,fun j d hj hd=>by rcases Nat.lt_or_ge j i with h|h;exact hno j d h hd;(have:=h5 j d h hj hd);cases hbd:cs.contains d with|false=>rfl|true=>exact absurd (hcs _ (List.contains_iff_mem.1 hbd)) aH⟩ aH (.cons 0 rfl (.cons 1 rfl (.cons 45 rfl .nil))) rfl (fun _ h=>h))
     ·
      refine zz2 ?_;refine ol_s (aTJ (L':=fun n=>[itr b45 s (i+n)]) hc hhi rfl (fun _=>.here)) rfl ?_;rintro _ K _ ⟨r,n,rfl,rfl,rfl,h1,h2,h3,h4,h5⟩ -;refine zz20 ?_;refine aY rfl rfl (aIB cs hcs hl r aH _) .nil rfl ?_;rintro _ K _ ⟨rfl,rfl,rfl⟩ -;refine zz3 ?_;refine bG 53 rfl (fun h53=>?_) (fun h53=>?_)
      ·
       exact absurd h53 aH
      ·
       refine zz2 ?_
       first
        |exact gA4
        |(exact cG (i+n) ⟨h4,fun j d hj hd=>by rcases Nat.lt_or_ge j i with h|h;exact hno j d h hd;(have:=h5 j d h hj hd);cases hbd:cs.contains d with|false=>rfl|true=>exact absurd (hcs _ (List.contains_iff_mem.1 hbd)) aH⟩ aH (.cons 0 rfl (.cons 1 rfl (.cons 45 rfl .nil))) rfl (fun _ h=>h))
    ·
     have hn:¬i < s.length:=aH;have hall:(s.any fun c=>cs.contains c)=false:=(by rw[List.any_eq_false];intro x hx;obtain⟨j,hj⟩:=List.getElem?_of_mem hx;have:=hno j x (by have:=n3 hj;omega) hj;simpa using this);refine zz2 ?_;refine ol_s (aDI hn rfl .here) rfl ?_;rintro _ K _ ⟨rfl,rfl,rfl⟩ -;refine zz16 ?_;refine uAw ?_;refine zz1 ?_
     first
      |exact⟨_,rfl,-1,rfl,⟨fun h=>by omega,fun h=>by rw[hall]at h;cases h⟩,rfl,rfl⟩
      |exact⟨_,rfl,i,rfl,⟨fun _=>List.any_eq_true.2 ⟨c,List.mem_of_getElem? hc,hbl⟩,fun _=>by omega⟩,rfl,rfl⟩
end Go.Proofs
end
section
namespace Go.Mach
open Go.Syn
theorem aYR(s:aJ):s.findIdx? (fun x=>decide (x=64))=if Lib.indexByte s 64 < 0 then none else some (Lib.indexByte s 64).toNat:=by
 split
 ·rename_i h;have h1:=Lib.indexByte_ge s 64;have h2:=Lib.indexByte_none (l:=s) (c:=64) aH;rw[List.findIdx?_eq_none_iff];intro x hx;obtain⟨k,hk⟩:=List.getElem?_of_mem hx;have:=h2 k;rw[hk]at this
  simpa using this
 ·rename_i h;obtain⟨h1,h2⟩:=Lib.indexByte_some (l:=s) (c:=64) (o:=(Lib.indexByte s 64).toNat) aH;rw[List.findIdx?_eq_some_iff_getElem];have hlt:(Lib.indexByte s 64).toNat < s.length:=by
   rcases Nat.lt_or_ge (Lib.indexByte s 64).toNat s.length with h'|h'
   ·exact h'
   ·rw[List.getElem?_eq_none h']at h1;cases h1
  rw[List.getElem?_eq_getElem hlt]at h1;refine⟨hlt,by simpa using h1,fun j hj=>?_⟩
  have:=h2 j hj;rw[List.getElem?_eq_getElem aH]at this
  simpa using this
theorem aZ4(s:aJ):(s.any fun c=>decide (c=64))=decide (0≤Lib.index s [64]):=by
 rw[Lib.index_one];have h1:=Lib.indexByte_ge s 64
 by_cases h:Lib.indexByte s 64 < 0
 ·have h2:=Lib.indexByte_none (l:=s) (c:=64) aH;rw[decide_eq_false aH,List.any_eq_false];intro x hx;obtain⟨k,hk⟩:=List.getElem?_of_mem hx;have:=h2 k;rw[hk]at this
  simpa using this
 ·obtain⟨h1,h2⟩:=Lib.indexByte_some (l:=s) (c:=64) (o:=(Lib.indexByte s 64).toNat) aH;rw[decide_eq_true aH,List.any_eq_true];exact⟨64,List.mem_of_getElem? h1,by simp⟩
def ad(s:aJ):Bool:=(Lib.cut s [64]).2.2&&(decide ((Lib.cut s [64]).1≠[])&&(decide ((Lib.cut s [64]).2.1≠[])&&(!(s.any jB)&&(!(decide (0≤Lib.index (Lib.cut s [64]).2.1 [64]))&&decide (s.length≤32)))))
theorem kC(s:aJ):lJ s=ad s:=by
 unfold lJ ad Lib.cut;rw[aYR,Lib.index_one]
 by_cases h:Lib.indexByte s 64 < 0
 ·rw[if_pos h,if_neg aH];rfl
 ·rw[if_neg h,if_pos aH];simp only[aZ4,List.length_singleton,Bool.true_and,Bool.and_assoc]
theorem aCI(c:UInt8):jB c=[32,9,13,10].contains c:=by
 unfold jB;rw[Bool.eq_iff_iff];simp only[decide_eq_true_eq,List.contains_iff_mem,List.mem_cons,List.not_mem_nil,or_false]
 constructor
 ·rintro(h|h|h|h)
  ·left;exact UInt8.toNat_inj.1 h
  ·right;left;exact UInt8.toNat_inj.1 h
  ·right;right;left;exact UInt8.toNat_inj.1 h
  ·right;right;right;exact UInt8.toNat_inj.1 h
 ·rintro(h|h|h|h) <;> subst h <;> decide
theorem r9:∀s:aJ,decide (0≤Lib.indexAny s [32,9,13,10])=s.any jB
 | []=>rfl
 |b::l=>by
  have ih:=r9 l;have hg:=Lib.indexAny_ge [32,9,13,10] l;rw[Lib.indexAny,List.any_cons,aCI,←ih];cases h:[32,9,13,10].contains b with
  |true=>simp
  |false=>
   simp only[Bool.false_eq_true,if_false,Bool.false_or];split
   ·rename_i h2;have:=beq_iff_eq.1 h2;rw[this]
   ·rename_i h2;have h3:Lib.indexAny l [32,9,13,10]≠ -1:=fun e=>h2 (by rw[e];rfl)
    rw[decide_eq_true aH,decide_eq_true aH]
end Go.Mach
end
section
attribute [local irreducible] Go.SL.T Go.SL.OL Go.SL.D Go.SL.DL Go.SL.Ev Go.SL.Ef Go.SL.EfS
namespace Go.Proofs
open Go Go.SL Go.Syn Go.Mach
def ws:List UInt8:=[32,9,13,10]
theorem bBY{i:Nat}(h:i < 4):∃c,ws[i]?=some c∧c.toNat < 128:=by
 rcases(show i=0∨i=1∨i=2∨i=3 by omega)with rfl|rfl|rfl|rfl
 ·exact⟨32,rfl,by decide⟩
 ·exact⟨9,rfl,by decide⟩
 ·exact⟨13,rfl,by decide⟩
 ·exact⟨10,rfl,by decide⟩
theorem aKE(s:List UInt8)(h8:s.length≤8)(K:Hl):Sp Tryz.prog 221 [str s,str ws] K [] (Ret fun v K' L'=>∃n:Int,v=i64 n∧(0≤n↔s.any jB=true)∧K'=K∧L'=[]):=by
 have e:(fun c=>ws.contains c)=jB:=by funext c;rw[aCI];rfl
 have:=aGP ws (by decide) (by decide) s h8 K;rw[e]at this;exact this
theorem aNP(s:List UInt8)(hs:s.length≤1000000)(K:Hl):Sp Tryz.prog 221 [str s,str ws] K [] (Ret fun v K' L'=>∃n:Int,v=i64 n∧(0≤n↔s.any jB=true)∧K'=K∧L'=[]):=by
 rcases Nat.lt_or_ge 8 s.length with h8|h8
 ·have h116:(Tryz.prog.info? 415).map (fun i=>(i.zero,i.size))=some (some (.agg (Array.replicate 256 (.bool false))),256):=by kernel_rfl
  refine(nF (v:=i64 (Lib.indexAny s ws)) ⟨_,Tryz.func221,rfl,rfl⟩ fun w hw=>?_).mono ?_
  ·refine(Tryz.strings_IndexAny_long (zero_of_info h116).1 ⟨s.toArray⟩ ⟨ws.toArray⟩ w (by decide) (by simpa[ByteArray.size]using h8) (by simp[ByteArray.size];omega) (by decide) ?_).mono fun e w' ⟨he,hw'⟩=>⟨he,?_⟩
   ·intro j b hj;have hlt:j < 4:=n3 (l:=ws) hj;obtain⟨c,hc,hc2⟩:=bBY hlt;have hj':ws[j]?=some b:=hj;rw[hc]at hj';cases hj';exact hc2
   ·rw[hw'];exact((RowKit.Below.refl _ _).alloc (Nat.le_refl _) _).alloc (by simp) _
  ·rintro e K' L' ⟨rfl,rfl,rfl⟩;have:=r9 s;exact⟨_,rfl,_,rfl,by rw[←this];exact decide_eq_true_iff.symm,rfl,rfl⟩
 ·exact aKE s h8 K
theorem aMY(s:List UInt8)(hs:s.length≤1000000)(K:Hl):Sp Tryz.prog 127 [str s,str ws] K [] (Val (.bool (s.any jB)) K):=by
 refine aZ Tryz.func127 rfl Tryz.ntmps127 rfl rfl fun F w=>?_
 refine zz9 ?_;refine aY rfl rfl (aNP s hs _) .nil rfl ?_;rintro _ K _ ⟨n,rfl,hn,rfl,rfl⟩ -;refine zz5 ?_;refine uAw ?_;refine zz1 ?_;refine retB ?_ _
 rw[Bool.eq_iff_iff,←hn];simp
theorem aO9(s sep:List UInt8)(K:Hl)(hg:Glob K)(hs:s.length < 4294967281):Sp Tryz.prog 228 [str s,str sep] K [] (Val (.tuple #[str (Lib.cut s sep).1,str (Lib.cut s sep).2.1,.bool (Lib.cut s sep).2.2]) K):=by
 refine nF ⟨_,Tryz.func228,rfl,rfl⟩ fun w hw=>?_
 obtain⟨m,T,fz,hm⟩:=hg.maxLen;refine(Tryz.strings_Cut ⟨s.toArray⟩ ⟨sep.toArray⟩ m w (by simpa[ByteArray.size]using hs) (kZ (hw _ _ hm) rfl)).mono fun e w' ⟨he,n,hw'⟩=>⟨he,?_⟩
 rw[hw'];exact⟨rfl,rfl,rfl,Nat.le_refl _,fun _ _=>rfl⟩
theorem aU7(s sep:List UInt8):(Lib.cut s sep).2.1.length≤s.length:=by
 unfold Lib.cut;split
 ·simp
 ·simp
theorem zT(s:List UInt8)(K:Hl)(hg:Glob K)(hs:s.length≤100000):Sp Tryz.prog 256 [str s] K [] (Val (.bool (lJ s)) K):=by
 have hcl:=aU7 s [64];refine aZ Tryz.func256 rfl Tryz.ntmps256 rfl rfl fun F w=>?_
 refine zz8 ?_;refine cE rfl rfl (aO9 s [64] _ hg aH) rfl ?_;refine zz13 ?_;refine oQ 13 rfl (fun g13=>?_) (fun g13=>?_)
 ·
  refine zz6 ?_;refine cF 17 rfl (fun g17=>?_) (fun g17=>?_)
  ·
   refine zz6 ?_;refine cF 21 rfl (fun g21=>?_) (fun g21=>?_)
   ·
    refine zz3 ?_;refine cE rfl rfl (aMY s aH _) rfl ?_;refine zz1 ?_;refine aA gBN rfl ?_;refine zz2 ?_;refine oQ 26 rfl (fun g26=>?_) (fun g26=>?_)
    ·
     refine zz3 ?_;refine cE rfl rfl (vG (Lib.cut s [64]).2.1 [64] _ hg aH) rfl ?_;refine zz1 ?_;refine aA gBN rfl ?_;refine zz2 ?_;refine oQ 31 rfl (fun g31=>?_) (fun g31=>?_)
     ·
      refine zz11 ?_;refine uAw ?_;refine zz1 ?_;refine retB ?_ _
      rw[kC];unfold ad;have hd32:decide ((s.length:Int)≤32)=decide (s.length≤32):=gCK
      generalize s.any jB=xb at*
      by_cases hix:0≤Lib.index (Lib.cut s [64]).2.1 [64]
      ·simp_all
      ·simp_all
     ·
      refine zz8 ?_;refine uAw ?_;refine zz1 ?_;refine retB ?_ _
      rw[kC];unfold ad;have hd32:decide ((s.length:Int)≤32)=decide (s.length≤32):=gCK
      generalize s.any jB=xb at*
      by_cases hix:0≤Lib.index (Lib.cut s [64]).2.1 [64]
      ·simp_all
      ·simp_all
    ·
     refine zz13 ?_;refine uAw ?_;refine zz1 ?_;refine retB ?_ _
     rw[kC];unfold ad;have hd32:decide ((s.length:Int)≤32)=decide (s.length≤32):=gCK
     generalize s.any jB=xb at*
     by_cases hix:0≤Lib.index (Lib.cut s [64]).2.1 [64]
     ·simp_all
     ·simp_all
   ·
    refine zz18 ?_;refine uAw ?_;refine zz1 ?_;refine retB ?_ _
    rw[kC];unfold ad;have hd32:decide ((s.length:Int)≤32)=decide (s.length≤32):=gCK
    generalize s.any jB=xb at*
    by_cases hix:0≤Lib.index (Lib.cut s [64]).2.1 [64]
    ·simp_all
    ·simp_all
  ·
   refine zz22 ?_;refine uAw ?_;refine zz1 ?_;refine retB ?_ _
   rw[kC];unfold ad;have hd32:decide ((s.length:Int)≤32)=decide (s.length≤32):=gCK
   generalize s.any jB=xb at*
   by_cases hix:0≤Lib.index (Lib.cut s [64]).2.1 [64]
   ·simp_all
   ·simp_all
 ·
  refine zz26 ?_;refine uAw ?_;refine zz1 ?_;refine retB ?_ _
  rw[kC];unfold ad;have hd32:decide ((s.length:Int)≤32)=decide (s.length≤32):=gCK
  generalize s.any jB=xb at*
  by_cases hix:0≤Lib.index (Lib.cut s [64]).2.1 [64]
  ·simp_all
  ·simp_all
end Go.Proofs
end
section
attribute [local irreducible] Go.SL.T Go.SL.OL Go.SL.D Go.SL.DL Go.SL.Ev Go.SL.Ef Go.SL.EfS
namespace Go.Proofs
open Go Go.SL Go.Syn Go.Mach
structure MsgOk (m:Msg):Prop where
 hn:m.hs.length≤1000000
 hs:∀h∈m.hs,h.1.length≤100000∧h.2.length≤100000
 from_:m.from_.length≤100000
 to_:m.to_.length≤100000
structure InsOk (o:Ins):Prop where
 an:o.a.length≤1000000
 bn:o.b.length≤1000000
 a:∀x∈o.a,x.length≤100000
 b:∀x∈o.b,x.length≤100000
structure MInv (s:MS):Prop where
 stack:s.stack.length≤8
 acts:s.acts.length≤6
 vars:∀name,(vget s.vars name).length≤100000
 parts:∀x∈s.parts,x.length≤100000
theorem MInv.small{s:MS}(h:MInv s):pL s.vars s.parts:=by
 intro name;unfold held;split
 ·split
  ·rename_i c _;simp only[];cases hp:s.parts[c.toNat - 48]? with
   |none=>simp
   |some x=>exact h.parts x (List.mem_of_getElem? hp)
  ·exact h.vars _
 ·exact h.vars _
theorem MInv.start:MInv Mach.start:=⟨by simp[Mach.start],by simp[Mach.start],fun _=>by simp[Mach.start,vget],by simp[Mach.start]⟩
theorem aEA(k v name:aJ):∀vars:List (aJ×aJ),vget (vput vars k v) name=if k=name then v else vget vars name
 | []=>by unfold vput vget;rfl
 |(j,u)::r=>by
  unfold vput
  by_cases h:j=k
  ·rw[if_pos h];subst h
   unfold vget;split <;> rfl
  ·rw[if_neg h];unfold vget;rw[aEA k v name r]
   by_cases h2:j=name
   ·rw[if_pos h2,if_pos h2,if_neg (fun e=>h (by rw[h2,e]))]
   ·rw[if_neg h2,if_neg h2]
theorem MInv.push{s t:MS}{b:Bool}(h:MInv s)(hp:Mach.push s b=.ok t):MInv t:=by
 unfold Mach.push at hp;split at hp
 ·cases hp;exact⟨by simp;omega,h.acts,h.vars,h.parts⟩
 ·cases hp
theorem MInv.pop{s:MS}{r:Bool×MS}(h:MInv s)(hp:Mach.pop s=.ok r):MInv r.2:=by
 unfold Mach.pop at hp;split at hp
 ·cases hp;exact⟨by have:=h.stack;simp;omega,h.acts,h.vars,h.parts⟩
 ·cases hp
theorem MInv.jump{s t:MS}{by_:Int}{n:Nat}{yes:Bool}(h:MInv s)(hp:Mach.jump s by_ n yes=.ok t):MInv t:=by
 unfold Mach.jump at hp;split at hp
 ·cases hp;split
  ·exact⟨h.stack,h.acts,h.vars,h.parts⟩
  ·exact h
 ·cases hp
theorem aHD(w v k:aJ):∀f i j ps,iC w v k f i j=some ps→∀x∈ps,x.length≤w.length:=by
 have one:∀e i,((w.take e).drop i).length≤w.length:=by intro e i;simp;omega
 intro f;induction f with
 |zero=>intro i j ps h;cases h
 |succ f ih=>
  intro i j ps h;have cons:∀e i' j' q,iC w v k f i' j'=q→q.map (fun ps=>((w.take e).drop i)::ps)=some ps→∀x∈ps,x.length≤w.length:=by
   intro e i' j' q hq hm;cases q with
   |none=>cases hm
   |some r=>
    cases hm
    intro x hx;rcases List.mem_cons.1 hx with rfl|hx
    ·exact one _ _
    ·exact ih _ _ _ hq x hx
  unfold iC at h;split at h
  ·split at h
   ·cases h;intro x hx;cases hx
   ·cases h
  ·split at h
   ·have key:∀n e,kM (fun e=>(iC w v k f e (j+1)).map fun ps=>((w.take e).drop i)::ps) n e=some ps→∀x∈ps,x.length≤w.length:=by
     intro n;induction n with
     |zero=>intro e h;cases h
     |succ n ihn=>
      intro e h;unfold kM at h;split at h
      ·rename_i x hx;cases h
       exact cons _ _ _ _ rfl hx
      ·exact ihn _ h
    exact key _ _ h
   ·split at h
    ·cases h
    ·split at h
     ·exact cons _ _ _ _ rfl h
     ·split at h
      ·split at h
       ·exact ih _ _ _ h
       ·cases h
      ·split at h
       ·exact ih _ _ _ h
       ·cases h
theorem r6{α β:Type}{f:α→Option β}{y:β}:∀ {l:List α},pM f l=some y→∃x∈l,f x=some y
 | [],h=>by cases h
 |x::l,h=>by
  unfold pM at h;split at h
  ·rename_i z hz;cases h;exact⟨x,by simp,hz⟩
  ·obtain⟨w,hw,hf⟩:=r6 h;exact⟨w,by simp[hw],hf⟩
theorem aCF{o:Ins}{x y:aJ}{ps:List aJ}(h:gT o x y=some ps):∀z∈ps,z.length≤x.length:=by
 unfold gT at h;split at h
 ·split at h
  ·cases h;intro z hz;cases hz
  ·cases h
 ·split at h
  ·split at h
   ·cases h;intro z hz;cases hz
   ·cases h
  ·exact aHD _ _ _ _ _ _ _ h
theorem aA0{o:Ins}{vs ks ps:List aJ}{n:Nat}(hv:∀x∈vs,x.length≤n)(h:iE o vs ks=some ps):∀z∈ps,z.length≤n:=by
 obtain⟨v,hv1,h1⟩:=r6 h;obtain⟨k,hk1,h2⟩:=r6 h1;cases hq:gT o v k with
 |none=>rw[hq]at h2;cases h2
 |some q=>
  rw[hq]at h2;cases h2
  intro z hz;rcases List.mem_cons.1 hz with rfl|hz
  ·exact hv _ hv1
  ·exact Nat.le_trans (aCF hq z hz) (hv _ hv1)
theorem aD9{nm:Bool}{vars:List (aJ×aJ)}{parts:List aJ}{m:Msg}{o:Ins}(hm:MsgOk m)(ho:InsOk o):∀x∈gC (dC nm vars parts) m o,x.length≤100000:=by
 intro x hx;unfold gC at hx;split at hx
 ·obtain⟨y,hy,rfl⟩:=List.mem_map.1 hx;exact jA (ho.a y hy)
 ·split at hx
  ·obtain⟨y,_,hy⟩:=List.mem_flatMap.1 hx;unfold f8 at hy;obtain⟨h,hh,rfl⟩:=List.mem_map.1 hy;exact(hm.hs h (List.mem_filter.1 hh).1).2
  ·split at hx
   ·obtain⟨y,_,hy⟩:=List.mem_flatMap.1 hx;unfold o4 at hy;split at hy
    ·rw[List.mem_singleton]at hy;subst hy;exact hm.from_
    ·split at hy
     ·rw[List.mem_singleton]at hy;subst hy;exact hm.to_
     ·cases hy
   ·cases hx
theorem MInv.matchI{nm:Bool}{m:Msg}{o:Ins}{s t:MS}(h:MInv s)(hm:MsgOk m)(ho:InsOk o)(hp:Mach.matchI nm m o s=.ok t):MInv t:=by
 unfold Mach.matchI at hp;split at hp
 ·simp only[]at hp;split at hp
  ·rename_i ps hps;refine MInv.push ?_ hp
   split
   ·exact⟨h.stack,h.acts,h.vars,aA0 (aD9 hm ho) hps⟩
   ·exact h
  ·exact h.push hp
 ·cases hp
theorem MInv.setI{nm:Bool}{o:Ins}{s t:MS}(h:MInv s)(hp:Mach.setI nm o s=.ok t):MInv t:=by
 unfold Mach.setI at hp;split at hp
 ·split at hp
  ·cases hp
   refine⟨h.stack,h.acts,fun name=>?_,h.parts⟩
   simp only[aEA];split
   ·simp;omega
   ·exact h.vars name
  ·cases hp
 ·cases hp
theorem MInv.actI{nm:Bool}{o:Ins}{s t:MS}(h:MInv s)(hp:Mach.actI nm o s=.ok t):MInv t:=by
 unfold Mach.actI at hp;split at hp
 ·simp only[]at hp;split at hp
  ·cases hp
  split at hp
  ·cases hp
  split at hp
  ·cases hp;exact⟨h.stack,h.acts,h.vars,h.parts⟩
  split at hp
  ·cases hp
  split at hp
  ·cases hp
  ·cases hp;exact⟨h.stack,by have:=h.acts;simp;omega,h.vars,h.parts⟩
 ·cases hp
theorem MInv.step{nm:Bool}{m:Msg}{n:Nat}{o:Ins}{s t:MS}(hi:MInv s)(hm:MsgOk m)(ho:InsOk o)(h:Mach.step nm m n o s=.ok t):MInv t:=by
 unfold Mach.step at h
 by_cases h0:o.op=1
 ·rw[if_pos h0]at h;split at h
  ·exact hi.push h
  ·cases h
 rw[if_neg h0]at h
 by_cases h1:o.op=2
 ·rw[if_pos h1]at h;split at h
  ·cases h
  ·rename_i r hr;exact(hi.pop hr).push h
 rw[if_neg h1]at h
 by_cases h2:o.op=3
 ·rw[if_pos h2]at h;exact hi.jump h
 rw[if_neg h2]at h
 by_cases h3:o.op=4
 ·rw[if_pos h3]at h;split at h
  ·cases h
  ·rename_i r hr;exact(hi.pop hr).jump h
 rw[if_neg h3]at h
 by_cases h4:o.op=5
 ·rw[if_pos h4]at h;split at h
  ·cases h
  ·rename_i r hr;exact(hi.pop hr).jump h
 rw[if_neg h4]at h
 by_cases h5:o.op=6∨o.op=7∨o.op=8
 ·rw[if_pos h5]at h;exact hi.matchI hm ho h
 rw[if_neg h5]at h
 by_cases h6:o.op=9
 ·rw[if_pos h6]at h;exact hi.push h
 rw[if_neg h6]at h
 by_cases h7:o.op=10
 ·rw[if_pos h7]at h;split at h
  ·exact hi.push h
  ·cases h
 rw[if_neg h7]at h
 by_cases h8:o.op=11
 ·rw[if_pos h8]at h;exact hi.actI h
 rw[if_neg h8]at h
 by_cases h9:o.op=12
 ·rw[if_pos h9]at h;exact hi.setI h
 rw[if_neg h9]at h
 by_cases h10:o.op=13
 ·rw[if_pos h10]at h;cases h;exact⟨hi.stack,hi.acts,hi.vars,hi.parts⟩
 rw[if_neg h10]at h;cases h
def fnOf(op:Int):Nat:=if op=1 then 141 else if op=2 then 143 else if op=3 then 145 else if op=4 then 147 else if op=5 then 148 else if op=9 then 150 else if op=10 then 152 else if op=11 then 153 else if op=12 then 154 else if op=13 then 155 else 149
theorem aK2(b mb:Nat)(m:Msg)(hv pv:Value)(nm:Bool)(s:MS)(o:Ins)(av bv:Value)(n:Nat)(K:Hl)(hop:1≤o.op∧o.op≤13)(hg:Glob K)(hpv:Ksl (bC 9) K pv s.parts)(ha:Ksl (bC 9) K av o.a)(hb:Ksl (bC 9) K bv o.b)(hh:Ksl hdEl K hv m.hs)(hm:MsgOk m)(ho:InsOk o)(hs:MInv s)(hp:s.pc < 1000)(hn:n < 1000):
  Sp Tryz.prog (fnOf o.op) [ptr b,mJ o av bv,i64 n] K [mch b mb m hv pv nm s] (MI b mb m hv nm (Mach.step nm m n o s)):=by
 have hst:s.stack.length≤100:=by have:=hs.stack;omega
 have hhs:∀h∈m.hs,h.1.length≤1000000:=fun h hh=>by have:=(hm.hs h hh).1;omega
 have hvl:∀x∈gC (dC nm s.vars s.parts) m o,x.length≤1000000:=fun x hx=>by have:=aD9 hm ho x hx;omega
 unfold fnOf Mach.step
 by_cases h1:o.op=1
 ·rw[if_pos h1,if_pos h1];exact aQ5 b mb m hv pv nm s o av bv n K hpv ha hb
 rw[if_neg h1,if_neg h1]
 by_cases h2:o.op=2
 ·rw[if_pos h2,if_pos h2];exact aQ6 b mb m hv pv nm s o av bv n K hpv ha hb hp hn hst
 rw[if_neg h2,if_neg h2]
 by_cases h3:o.op=3
 ·rw[if_pos h3,if_pos h3];exact aQ7 b mb m hv pv nm s o av bv n K hpv ha hb hp hn hst
 rw[if_neg h3,if_neg h3]
 by_cases h4:o.op=4
 ·rw[if_pos h4,if_pos h4];exact aQ8 b mb m hv pv nm s o av bv n K hpv ha hb hp hn hst
 rw[if_neg h4,if_neg h4]
 by_cases h5:o.op=5
 ·rw[if_pos h5,if_pos h5];exact aQ9 b mb m hv pv nm s o av bv n K hpv ha hb hp hn hst
 rw[if_neg h5,if_neg h5]
 by_cases h9:o.op=9
 ·rw[if_pos h9,if_neg aH,if_pos h9];exact aRA b mb m hv pv nm s o av bv n K hg hpv ha hb hh hm.hn hhs ho.an ho.a hs.small
 rw[if_neg h9]
 by_cases h10:o.op=10
 ·rw[if_pos h10,if_neg aH,if_neg h9,if_pos h10];exact aRB b mb m hv pv nm s o av bv n K hpv ha hb
 rw[if_neg h10]
 by_cases h11:o.op=11
 ·rw[if_pos h11,if_neg aH,if_neg h9,if_neg h10,if_pos h11];exact aMQ b mb m hv pv nm s o av bv n K hg hpv ha hb ho.a hs.small hs.acts (fun x K hg hx=>zT x K hg hx)
 rw[if_neg h11]
 by_cases h12:o.op=12
 ·rw[if_pos h12,if_neg aH,if_neg h9,if_neg h10,if_neg h11,if_pos h12];exact aPF b mb m hv pv nm s o av bv n K hg hpv ha hb ho.b hs.small
 rw[if_neg h12]
 by_cases h13:o.op=13
 ·rw[if_pos h13,if_neg aH,if_neg h9,if_neg h10,if_neg h11,if_neg h12,if_pos h13];exact aRC b mb m hv pv nm s o av bv n K hpv ha hb
 rw[if_neg h13,if_pos aH];exact aHO b mb m hv pv nm s o av bv n K hg hpv ha hb hh hm.hn hhs ho.an ho.a ho.bn ho.b hs.small hvl
def aCU:List Cell:=⟨.nilFunc,rfl⟩::([1,2,3,4,5,6,7,8,9,10,11,12,13].map fun op=>(⟨.func (.func (fnOf op)) #[] #[],rfl⟩:Cell))++[⟨.nilFunc,rfl⟩]
theorem bAL:∀k:Fin 13,([1,2,3,4,5,6,7,8,9,10,11,12,13]:List Int)[k.1]?=some ((k.1:Int)+1):=by decide
theorem aRD{op:Int}(h:1≤op∧op≤13):aCU[op.toNat]?=some ⟨.func (.func (fnOf op)) #[] #[],rfl⟩:=by
 obtain⟨n,hn⟩:∃n:Nat,op.toNat=n+1:=⟨op.toNat - 1,by omega⟩;have hlt:n < 13:=by omega
 have h2:=bAL ⟨n,hlt⟩;simp only at h2;have e:(n:Int)+1=op:=by omega
 rw[e]at h2;unfold aCU;rw[hn,List.cons_append,List.getElem?_cons_succ,List.getElem?_append_left (by simpa using hlt),List.getElem?_map,h2]
 rfl
theorem aJV(K:Hl):Sp Tryz.prog 91 [] K [] (Ret fun v K' L'=>Ksl (dY 184) K' v aCU∧L'=[]):=by
 refine aZ Tryz.func91 rfl Tryz.ntmps91 rfl rfl fun F w=>?_
 refine zz7 ?_;refine ol_s (a6 (z0:=[.nilFunc,.nilFunc,.nilFunc,.nilFunc,.nilFunc,.nilFunc,.nilFunc,.nilFunc,.nilFunc,.nilFunc,.nilFunc,.nilFunc,.nilFunc,.nilFunc,.nilFunc]) yY bBN rfl rfl rfl rfl (.cons rfl rfl rfl (.skip (.cons .nil)) (.cons rfl rfl rfl (.skip (.skip (.cons .nil))) (.cons rfl rfl rfl (.skip (.skip (.skip (.cons .nil)))) (.cons rfl rfl rfl (.skip (.skip (.skip (.skip (.cons .nil))))) (.cons rfl rfl rfl (.skip (.skip (.skip (.skip (.skip (.cons .nil)))))) (.cons rfl rfl rfl (.skip (.skip (.skip (.skip (.skip (.skip (.cons .nil))))))) (.cons rfl rfl rfl (.skip (.skip (.skip (.skip (.skip (.skip (.skip (.cons .nil)))))))) (.cons rfl rfl rfl (.skip (.skip (.skip (.skip (.skip (.skip (.skip (.skip (.cons .nil))))))))) (.cons rfl rfl rfl (.skip (.skip (.skip (.skip (.skip (.skip (.skip (.skip (.skip (.cons .nil)))))))))) (.cons rfl rfl rfl (.skip (.skip (.skip (.skip (.skip (.skip (.skip (.skip (.skip (.skip (.cons .nil))))))))))) (.cons rfl rfl rfl (.skip (.skip (.skip (.skip (.skip (.skip (.skip (.skip (.skip (.skip (.skip (.cons .nil)))))))))))) (.cons rfl rfl rfl (.skip (.skip (.skip (.skip (.skip (.skip (.skip (.skip (.skip (.skip (.skip (.skip (.cons .nil))))))))))))) (.cons rfl rfl rfl (.skip (.skip (.skip (.skip (.skip (.skip (.skip (.skip (.skip (.skip (.skip (.skip (.skip (.cons .nil)))))))))))))) (.cons rfl rfl rfl (.skip (.skip (.skip (.skip (.skip (.skip (.skip (.skip (.skip (.skip (.skip (.skip (.skip (.skip (.cons .nil))))))))))))))) .nil))))))))))))))) rfl ?_;rintro _ K _ ⟨b1,rfl,rfl,rfl⟩ -;refine zz4 ?_;refine gO fun KS leS hS=>?_
 refine bJ rfl rfl leS ?_;exact⟨_,rfl,.inr ⟨b1,0,15,_,_,rfl,⟨_,hS⟩,rfl⟩,rfl⟩
end Go.Proofs
end
section
attribute [local irreducible] Go.SL.T Go.SL.OL Go.SL.D Go.SL.DL Go.SL.Ev Go.SL.Ef Go.SL.EfS
namespace Go.Proofs
open Go Go.SL Go.Syn Go.Mach Go.Cmp
theorem aTE(b6 b8:Nat)(K:Hl):SpD Tryz.prog 89 [ptr b6,ptr b8] K [] .returning fun e u' K' L'=>u'=.returning∧(e=.returned (.tuple #[])∧K'=K∧L'=[]):=by
 refine aFV (rv:=.nilIface) (u':=.returning) Tryz.func89 rfl Tryz.ntmps89 rfl rfl rfl rfl t7 fun F w=>?_
 refine zz9 ?_;exact⟨rfl,rfl,rfl⟩
theorem aTD(b6 b8 fb:Nat)(v1 v2:Value)(K:Hl):SpD Tryz.prog 89 [ptr b6,ptr b8] K [pt b8 (aU [v2] 79),pt b6 (aU [v1] 29)] (.panicking [{v:=.iface 118 (ptr fb),recovered:=false}])
  fun e u' K' L'=>u'=.panicking [{v:=.iface 118 (ptr fb),recovered:=true}]∧(e=.returned (.tuple #[])∧K'=K∧∃bk,L'=[pt b8 (aU [.iface 118 (ptr fb)] 79),pt b6 (aU [.slice (some ⟨bk,0,none⟩) 1 1] 29),pt bk (aU [i64 1,str []] 34)]):=by
 refine aFV (rv:=.iface 118 (ptr fb)) (u':=.panicking [{v:=.iface 118 (ptr fb),recovered:=true}]) Tryz.func89 rfl Tryz.ntmps89 rfl rfl rfl rfl t6 fun F w=>?_
 refine zz10 ?_;refine aA (fK Tryz.underlying118 (fun _ h=>by cases h) rfl) rfl ?_;refine zz11 ?_;refine aA gBN rfl ?_;refine zz6 ?_;refine uAu ?_;refine ol_s (a6 (z0:=[.int .i64 0,(str [])]) iW tz34 rfl rfl rfl rfl (.cons rfl rfl rfl (.cons (.cons .nil)) .nil)) rfl ?_;rintro _ K _ ⟨b17,rfl,rfl,rfl⟩ -;refine zz1 ?_;refine aA (dG Tryz.underlying118 (fun _ h=>by cases h) rfl) rfl ?_;refine uBf ?_;rintro _ K _ ⟨rfl,rfl⟩ -;refine uAq ?_;rintro _ K _ ⟨rfl,rfl⟩ -;refine aF ?_;refine aO (.cons (.there .here) (.cons (.there .here) (.cons .here .nil))) ?_;refine zz1 ?_;exact⟨rfl,rfl,b17,rfl⟩
def ErrP(e:Option (Int×Int))(ev:Value)(M:List Asn):Prop:=match e with
 |none=>ev=.nilIface∧M=[]
 |some (e,p)=>∃fb,ev=.iface 118 (ptr fb)∧M=[pt fb (aU [i64 e,i64 p] 123)]
def RunR(out:Out):Ending→Hl→List Asn→Prop:=Ret fun v K' L'=>∃av ev M,v=.tuple #[av,i64 out.steps,ev]∧L'=sl true dL av out.acts::M∧ErrP out.err ev M
theorem aTL{α:Type}{k:El α}{b:Nat}{xs:List α}{n:Nat}{M:List Asn}(hx:xs≠[])(hn:n=xs.length):∀h,Sat (pt b (aU (k.cs xs) k.e)::M) h→Sat (sl true k (.slice (some ⟨b,0,none⟩) n n) xs::M) h:=by
 subst hn;rintro h ⟨a,l,ha,hl,hd,rfl⟩;refine⟨a,l,.inr ⟨b,xs.length,[],(0,0),rfl,fun _=>hx,Nat.le_refl _,by simp,.inl (Nat.le_refl _),?_⟩,hl,hd,rfl⟩
 rw[List.append_nil];exact ha
theorem zH{n:Nat}{w:World}{F K0 K:Hl}{fr:Fr}{b6 b8 fb:Nat}{v1 v2:Value}{e p x:Int}{out:Out}{st:Nat}(g6:fr.get 6=some (ptr b6))(g7:fr.get 7=some (i64 x))(g8:fr.get 8=some (ptr b8))(le:K0.le K)(ho:out=⟨[(1,[])],st,some (e,p)⟩)(hx:x=st):
  D ⟨Tryz.prog,n,[dfr 89 #[ptr b6,ptr b8]],w,F⟩ (.panic [{v:=.iface 118 (ptr fb),recovered:=false}]) fr K [pt fb (aU [i64 e,i64 p] 123),pt b8 (aU [v2] 79),pt b6 (aU [v1] 29)] (u5 Tryz.prog Tryz.f54 w F K0 (RunR out)):=by
 subst ho;subst hx
 refine aQY (.pan _) rfl ts29 ts79 g6 g7 g8 (.cons (.there .here) (.cons (.there .here) .nil)) (aTD b6 b8 fb v1 v2 K) rfl ?_;rintro _ _ _ ⟨rfl,rfl,bk,rfl⟩;refine⟨⟨_,rfl⟩,fun le2=>⟨_,_,[sl true dL (.slice (some ⟨bk,0,none⟩) 1 1) [(1,[])],pt fb (aU [i64 e,i64 p] 123)],fun h hh=>?_,⟨_,rfl,_,_,_,rfl,rfl,fb,rfl,rfl⟩,le⟩⟩
 exact gA (eC (fun h hh=>eC (fun h hh=>aTL (k:=dL) (xs:=[(1,[])]) (by simp) rfl h hh) hh) hh)
theorem iQ{n:Nat}{w:World}{F K0 K:Hl}{fr:Fr}{b6 b8:Nat}{av:Value}{out:Out}{x:Int}{st:Nat}{acts:List fT}(g6:fr.get 6=some (ptr b6))(g7:fr.get 7=some (i64 x))(g8:fr.get 8=some (ptr b8))(le:K0.le K)(ho:out=⟨acts,st,none⟩)(hx:x=st):
  D ⟨Tryz.prog,n,[dfr 89 #[ptr b6,ptr b8]],w,F⟩ .ret fr K [pt b6 (aU [av] 29),pt b8 (aU [.nilIface] 79),sl true dL av acts] (u5 Tryz.prog Tryz.f54 w F K0 (RunR out)):=by
 subst ho;subst hx
 refine aQY .ret rfl ts29 ts79 g6 g7 g8 .nil (aTE b6 b8 K) rfl ?_;rintro _ _ _ ⟨rfl,rfl,rfl⟩;exact⟨⟨_,rfl⟩,fun le2=>⟨_,_,[sl true dL av acts],fun h hh=>hh,⟨_,rfl,_,_,_,rfl,rfl,rfl,rfl⟩,le⟩⟩
theorem aOG{b mb:Nat}{m:Msg}{hv:Value}{nm:Bool}{L:List Asn}:∀h,Sat (pt b (aU [str m.from_,str m.to_,i64 m.size,hv,.slice none 0 0,.bool true,.bool nm,.map (some mb),.slice none 0 0,.slice none 0 0,i64 0] 178)::pt mb (mapO [] 0)::L) h→Sat (mch b mb m hv (.slice none 0 0) nm Mach.start::L) h:=by
 intro h hh;refine dU (av:=.slice none 0 0) (sv:=.slice none 0 0) (f:=fun _=>0) (c:=0) (s:=Mach.start) h ?_;exact eC (fun h hh=>uY (uY hh)) hh
theorem aNZ{nm:Bool}{m:Msg}{code:List Ins}{f st:Nat}{s:MS}(h:code.length≤s.pc):Mach.loop nm m code (f+1) st s=⟨if s.keep=true then s.acts++[(1,[])]else s.acts,st,none⟩:=by
 rw[Mach.loop,List.getElem?_eq_none h]
theorem aN0{nm:Bool}{m:Msg}{code:List Ins}{f st:Nat}{s:MS}{o:Ins}(h:code[s.pc]?=some o)(ho:o.op=14):Mach.loop nm m code (f+1) st s=⟨if s.keep=true then s.acts++[(1,[])]else s.acts,st+1,none⟩:=by
 rw[Mach.loop,h];simp only[if_pos ho]
theorem aAZ{nm:Bool}{m:Msg}{code:List Ins}{f st:Nat}{s:MS}{o:Ins}{e:Int×Int}(h:code[s.pc]?=some o)(ho:¬o.op=14)(hs:Mach.step nm m code.length o s=.error e):Mach.loop nm m code (f+1) st s=⟨[(1,[])],st+1,some e⟩:=by
 rw[Mach.loop,h];simp only[if_neg ho,hs]
theorem aVT{nm:Bool}{m:Msg}{code:List Ins}{f st:Nat}{s t:MS}{o:Ins}(h:code[s.pc]?=some o)(ho:¬o.op=14)(hs:Mach.step nm m code.length o s=.ok t):Mach.loop nm m code (f+1) st s=Mach.loop nm m code f (st+1) {t with pc:=t.pc+1}:=by
 rw[Mach.loop,h];simp only[if_neg ho,hs]
theorem aIU{nm:Bool}{m:Msg}{n:Nat}{o:Ins}{s:MS}(h:¬(1≤o.op∧o.op≤13)):Mach.step nm m n o s=.error (12,s.pc):=by
 unfold Mach.step;rw[if_neg aH,if_neg aH,if_neg aH,if_neg aH,if_neg aH,if_neg aH,if_neg aH,if_neg aH,if_neg aH,if_neg aH,if_neg aH]
 rfl
theorem aSE{p:Prop}[Decidable p]{e q pc:Int}(h:(if p then (Except.ok ():Res Unit)else .error (12,pc))=.error (e,q)):¬p∧e=12∧q=pc:=by
 split at h
 ·cases h
 ·rename_i hp;cases h;exact⟨hp,rfl,rfl⟩
structure RI where
 st:Nat
 s:MS
 pv:Value
 K:Hl
theorem aTG(nm:Bool)(cv hv:Value)(vs:List InsV)(code:List Ins)(m:Msg)(K:Hl)(hg:Glob K)(hcv:Ksl gR K cv vs)(hR:RIs K vs code)(hh:Ksl hdEl K hv m.hs)(hm:MsgOk m)(hc:∀o∈code,InsOk o)(hcl:code.length≤1000000):
  Sp Tryz.prog 54 [.bool nm,cv,.agg #[str m.from_,str m.to_,i64 m.size,hv]] K [] (RunR (Mach.run nm code m)):=by
 have hlen:vs.length=code.length:=hR.length;have hdl:aCU.length=15:=rfl;obtain⟨ha,hn,hcp,rfl⟩:=hh.isSlice;obtain⟨ca,cn,ccp,rfl⟩:=hcv.isSlice;refine aBQ Tryz.func54 rfl Tryz.ntmps54 rfl rfl fun F w=>?_
 refine zz3 ?_;rintro _ K _ ⟨b5,rfl,rfl,rfl⟩ -;refine zz1 ?_;rintro _ K _ ⟨b6,rfl,rfl,rfl⟩ -;refine zz2 ?_;rintro _ K _ ⟨b8,rfl,rfl,rfl⟩ -;refine zz5 ?_;refine aA (cR bA0 aZL (.cons rfl rfl rfl (.cons (.cons (.cons (.cons .nil)))) (.cons rfl rfl rfl (.skip (.skip (.skip (.skip (.skip (.cons .nil)))))) .nil))) rfl ?_;refine zz1 ?_;refine ol_s pZ rfl ?_;rintro _ K _ ⟨b15,rfl,rfl,rfl⟩ -;refine aA (cR bA1 aZM (.cons rfl rfl rfl (.cons (.cons (.cons (.cons (.cons (.cons .nil)))))) (.cons rfl rfl rfl (.skip (.skip (.skip (.skip (.skip (.skip (.cons .nil))))))) (.cons rfl rfl rfl (.skip (.skip (.skip (.skip (.skip (.skip (.skip (.cons .nil)))))))) .nil)))) rfl ?_;refine zz1 ?_;rintro _ K _ ⟨b17,rfl,rfl,rfl⟩ -;refine zz4 ?_;refine t8 (aOG (m:=m) (hv:=.slice ha hn hcp) (nm:=nm)) ?_;refine aIW (.cons .here (.cons .here (.cons .here .nil))) ?_;refine zz2 ?_;refine aHX rfl ?_;refine zz6 ?_;refine aA (bX (k:=gR) rfl Tryz.underlying42 rfl aN) rfl ?_;refine zz3 ?_;refine bG 21 rfl (fun h21=>?_) (fun h21=>?_)
 ·
  refine zz2 ?_;refine aX rfl rfl (iV _ 12 400 _) .nil rfl gBM ?_ ?_
  ·
   rintro _ _ _ ⟨fb,h,rfl⟩ le1;cases h
   refine uAm ?_;refine aK ?_;exact zH rfl rfl rfl bV (by (unfold Mach.run;rw[if_pos aH])) aH
  ·
   rintro _ _ _ ⟨_,h,_⟩;cases h
 ·
  have hc4:code.length≤400:=by omega
  refine zz4 ?_;refine aY rfl rfl (aJV _) .nil rfl ?_;rintro tv KD _ ⟨hTab,rfl⟩ leD;refine zz5 ?_;refine d6 (fun(q:RI)=>KD.le q.K∧Ksl (bC 9) q.K q.pv q.s.parts∧MInv q.s∧q.st≤q.s.pc∧q.s.pc≤code.length∧∃f,code.length≤f+q.s.pc∧Mach.run nm code m=Mach.loop nm m code (f+1) q.st q.s) (fun q=>[(1,.slice ca cn ccp),(6,ptr b6),(7,i64 q.st),(8,ptr b8),(9,ptr b17),(10,tv)]) (fun q=>q.K) (fun q=>[mch b17 b15 m (.slice ha hn hcp) q.pv nm q.s,pt b8 (aU [.nilIface] 79),pt b6 (aU [.slice none 0 0] 29)]) (fun q=>code.length - q.s.pc) ⟨0,Mach.start,.slice none 0 0,KD⟩ ⟨Hl.le_refl _,.inl ⟨none,0,rfl,rfl⟩,MInv.start,Nat.zero_le _,Nat.zero_le _,code.length,by omega,by unfold Mach.run;rw[if_neg aH]⟩ (.cons 1 rfl (.cons 6 rfl (.cons 7 rfl (.cons 8 rfl (.cons 9 rfl (.cons 10 rfl .nil)))))) rfl (fun _ h=>h) ?_;intro ⟨st,s,pv,K1⟩ ⟨hle,hpv,hinv,hst,hpc,f,hf,hx⟩;dsimp only at hle hpv hinv hst hpc hf hx ⊢;have hle0:=Hl.le_trans leD hle;have hcv1:=hcv.mono hle0;have hh1:=hh.mono hle0;have hg1:=hg.mono hle0;have hTab1:=hTab.mono hle;refine rM fun av sv fv c=>?_
  refine aBS (p:=av.oneCell'=true) (fun h hs=>?_) ?_
  ·obtain⟨_,l,_,hl,_,_⟩:=hs;obtain⟨y,_,hy,_,_,_⟩:=hl;obtain⟨a,n,c,rfl⟩:=aIK y hy;rfl
  intro hav;refine zz8 ?_;refine aA (bX (k:=gR) rfl Tryz.underlying42 rfl aN) rfl ?_;refine zz3 ?_;refine bG 31 rfl (fun h31=>?_) (fun h31=>?_)
  ·
   have hilt:s.pc < vs.length:=by omega
   obtain⟨v,hvv⟩:∃v,vs[s.pc]?=some v:=⟨vs[s.pc]'hilt,List.getElem?_eq_getElem hilt⟩;obtain⟨o,ho,hro⟩:=(hR.mono hle0).get hvv;obtain⟨vop,vn,vtag,voct,⟨va,hva⟩,⟨vb,hvb⟩,vat⟩:=v;obtain⟨rfl,rfl,rfl,rfl,rfl,hra,hrb⟩:=hro;dsimp only at hra hrb;obtain⟨sa,sn,sc,rfl⟩:=hra.isSlice;obtain⟨ta,tn,tc,rfl⟩:=hrb.isSlice;have hoo:=hc o (List.mem_of_getElem? ho);refine zz17 ?_;refine aA (bQ (k:=gR) iX rfl aN rfl rfl gBR) rfl ?_;refine aA (fF (n:=0) (k:=gR) kO rfl aN bV) rfl ?_;refine zz1 ?_;rintro _ K _ ⟨b11,rfl,rfl,rfl⟩ -;refine bR (cM kO rfl rfl rfl bB gBK (.cons (.cons (.cons (.cons (.cons (.cons (.cons .nil))))))) gBU) ?_;rintro _ K _ ⟨rfl,rfl⟩ -;refine zz10 ?_;refine bG 43 rfl (fun h43=>?_) (fun h43=>?_)
   ·
    have h43:o.op=14:=h43;have hx:=hx.trans (aN0 ho h43);refine zz16 ?_;refine d8 77 rfl (fun h77=>?_) (fun h77=>?_)
    ·
     refine zz7 ?_;refine uAu ?_;refine ol_s (a6 (z0:=[.int .i64 0,(str [])]) iW tz34 rfl rfl rfl rfl (.cons rfl rfl rfl (.cons (.cons .nil)) .nil)) rfl ?_;rintro _ K _ ⟨b85,rfl,rfl,rfl⟩ -;refine ol_s (dT (k:=dL) (ys:=[((1:Int),([]:List UInt8))]) nV rfl rfl bB (fun w j=>dK Tryz.underlying29 (SeesSl.at (k:=dL) (.blk (.own .here) rfl rfl) j)) gCY gCY) rfl ?_;rintro v86 K _ ⟨rfl,rfl,ho86⟩ -;refine zz3 ?_;refine bR (bL ts29 rfl rfl cK bB (.succ (.succ (.succ (.succ .zero)))) rfl) ?_;rintro _ K _ ⟨rfl,rfl⟩ -;refine zz10 ?_;refine uBf ?_;rintro _ K _ ⟨rfl,rfl⟩ -;refine zz1 ?_;refine uAq ?_;rintro _ K _ ⟨rfl,rfl⟩ -;refine zz3 ?_
     first
      |(refine aO (.cons (.there (.there (.there (.there (.there .here))))) (.cons (.there (.there (.there (.there .here)))) (.cons (.there .here) .nil))) ?_;exact iQ rfl rfl rfl hle0 gB7 aH)
      |(refine aO (.cons (.there (.there (.there (.there (.there (.there .here)))))) (.cons (.there (.there (.there (.there (.there .here))))) (.cons (.there (.there .here)) .nil))) ?_;exact iQ rfl rfl rfl hle0 gB7 aH)
      |exact gAO
      |exact gAM
    ·
     refine zz10 ?_;refine uBf ?_;rintro _ K _ ⟨rfl,rfl⟩ -;refine zz1 ?_;refine uAq ?_;rintro _ K _ ⟨rfl,rfl⟩ -;refine zz3 ?_
     first
      |(refine aO (.cons (.there (.there (.there (.there (.there .here))))) (.cons (.there (.there (.there (.there .here)))) (.cons (.there .here) .nil))) ?_;exact iQ rfl rfl rfl hle0 gB7 aH)
      |(refine aO (.cons (.there (.there (.there (.there (.there (.there .here)))))) (.cons (.there (.there (.there (.there (.there .here))))) (.cons (.there (.there .here)) .nil))) ?_;exact iQ rfl rfl rfl hle0 gB7 aH)
      |exact gAO
      |exact gAM
   ·
    have h43:¬o.op=14:=h43;refine zz9 ?_;refine cF 48 rfl (fun g48=>?_) (fun g48=>?_)
    ·
     have g48:0 < o.op:=g48;refine zz7 ?_;refine aA (bX (k:=(dY 184)) rfl Tryz.underlying181 rfl aN) rfl ?_;refine zz3 ?_;refine aX rfl rfl (oN (o.op < (aCU.length:Int)) _ _ _ _ _ _ _ _ _ _ _ _ _) (.cons (.there .here) .nil) rfl (fun _ _=>a7 _ _) ?_ ?_
     ·
      rintro _ _ _ hTr le1;obtain⟨e,p,hu,fb,h,rfl⟩:=a8 hTr;cases h
      refine aO (.cons .here (.cons (.there (.there (.there (.there .here)))) (.cons (.there (.there (.there (.there .here)))) .nil))) ?_;refine zz5 ?_;exact zH rfl rfl rfl (Hl.le_trans hle0 le1) (by (obtain⟨q1,rfl,rfl⟩:=aSE hu;rw[hx,aAZ ho h43 (aIU aH)])) aH
     rintro _ K _ hTr -;obtain⟨u0,hu,rfl,rfl,rfl⟩:=bA hTr;clear hTr;have hbl:o.op < (aCU.length:Int):=Classical.byContradiction (fun h=>by rw[if_neg h]at hu;cases hu);have hop:1≤o.op∧o.op≤13:=⟨by omega,by omega⟩;refine zz3 ?_;refine uA (.cons .here (.cons (.there .here) (.cons (.there .here) (.cons (.there .here) .nil)))) ?_;refine t8 (dU (m:=m) (hv:=.slice ha hn hcp) (pv:=pv) (nm:=nm) (s:=s)) ?_;refine t_draw (anc:=[0,0,2,7,15,0,0,0,128,511]) (ord:=[0,1,2,3,4,5,6,7,8,9]) [9] [9] mixed gBO (cX _) ?_;refine zz3 ?_;refine dl_ev rfl rfl (.none rfl) rfl rfl (bQ (k:=dY 184) (j:=o.op.toNat) yY rfl (.known hTab1) rfl (show o.op=(o.op.toNat:Int) by omega) aH) rfl ?_;refine dl_ev rfl rfl (.none rfl) rfl rfl (cV (o:=0) (k:=dY 184) bBF rfl (.known hTab1) (aRD hop) rfl) rfl ?_;refine zz3 ?_;refine dl_ev rfl rfl (.none rfl) rfl rfl (bX (k:=gR) rfl Tryz.underlying42 rfl aN) rfl ?_;refine aJU (fr':=[(6,ptr b6),(7,i64 ((st:Int)+1)),(8,ptr b8)]) rfl (.none rfl) rfl rfl rfl (aK2 b17 b15 m (.slice ha hn hcp) pv nm s o (.slice sa sn sc) (.slice ta tn tc) vs.length _ hop hg1 hpv hra hrb hh1 hm hoo hinv aH aH) (.cons .here .nil) rfl (fun _ _=>a7 _ _) (.cons 6 rfl (.cons 7 rfl (.cons 8 rfl .nil))) rfl ?_ ?_
     ·
      rintro _ _ _ hTr le1;obtain⟨e,p,hq,fb,h,rfl⟩:=a8 hTr;cases h
      refine uAm ?_;refine zz5 ?_;exact zH rfl rfl rfl (Hl.le_trans hle0 le1) (by (rw[hlen]at hq;rw[hx,aAZ ho h43 hq])) aH
     rintro _ K3 _ hTr leK3;obtain⟨t,hq,rfl,pv3,hpv3,rfl⟩:=bA hTr;clear hTr;rw[hlen]at hq;have hinv2:=hinv.step hm hoo hq;have hinv3:MInv {t with pc:=t.pc+1}:=⟨hinv2.stack,hinv2.acts,hinv2.vars,hinv2.parts⟩;have hp2:=zM hq (by omega:s.pc < code.length);refine zz2 ?_;refine rM fun av3 sv3 fv3 c3=>?_
     refine zz8 ?_;refine bR (bL ts3 rfl rfl cK bB (.succ (.succ (.succ (.succ (.succ (.succ (.succ (.succ (.succ (.succ .zero)))))))))) rfl) ?_;rintro _ K _ ⟨rfl,rfl⟩ -;refine zz2 ?_;have hp3:=zM hq (by omega:s.pc < code.length);have e:((t.pc+1:Nat):Int)=(t.pc:Int)+1:=by omega
     refine eD (fun h hh=>dU (m:=m) (hv:=.slice ha hn hcp) (pv:=pv3) (nm:=nm) (s:={t with pc:=t.pc+1}) h (by show Sat (mblk _ _ _ _ _ _ _ _ _ _ _ ((t.pc+1:Nat):Int)::_) h;rw[e];exact hh)) ?_;refine uAm ?_;exact cG ⟨st+1,{t with pc:=t.pc+1},pv3,_⟩ ⟨Hl.le_trans hle leK3,hpv3,hinv3,by (show st+1≤t.pc+1);omega,by (show t.pc+1≤code.length);omega,f - 1,by (show code.length≤f - 1+(t.pc+1));omega,by have e2:f - 1+1=f:=aH;rw[e2,hx,aVT ho h43 hq]⟩ (by (show code.length - (t.pc+1) < code.length - s.pc);omega) (.cons 1 rfl (.cons 6 rfl (.cons 7 rfl (.cons 8 rfl (.cons 9 rfl (.cons 10 rfl .nil)))))) rfl (fun _ h=>h)
    ·
     have g48:¬0 < o.op:=g48;refine zz6 ?_;refine aX rfl rfl (o9 _ _ _ _ _ _ _ _ _ _ _ _ _) (.cons (.there .here) .nil) rfl gBM ?_ ?_
     ·
      rintro _ _ _ ⟨fb,h,rfl⟩ le1;cases h
      refine aO (.cons .here (.cons (.there (.there (.there (.there .here)))) (.cons (.there (.there (.there (.there .here)))) .nil))) ?_;refine zz5 ?_;exact zH rfl rfl rfl (Hl.le_trans hle0 le1) (by rw[hx,aAZ ho h43 (aIU aH)]) aH
     ·
      rintro _ _ _ ⟨_,h,_⟩;cases h
  ·
   have hx:=hx.trans (aNZ aH);refine zz15 ?_;refine d8 77 rfl (fun h77=>?_) (fun h77=>?_)
   ·
    refine zz7 ?_;refine uAu ?_;refine ol_s (a6 (z0:=[.int .i64 0,(str [])]) iW tz34 rfl rfl rfl rfl (.cons rfl rfl rfl (.cons (.cons .nil)) .nil)) rfl ?_;rintro _ K _ ⟨b85,rfl,rfl,rfl⟩ -;refine ol_s (dT (k:=dL) (ys:=[((1:Int),([]:List UInt8))]) nV rfl rfl bB (fun w j=>dK Tryz.underlying29 (SeesSl.at (k:=dL) (.blk (.own .here) rfl rfl) j)) gCY gCY) rfl ?_;rintro v86 K _ ⟨rfl,rfl,ho86⟩ -;refine zz3 ?_;refine bR (bL ts29 rfl rfl cK bB (.succ (.succ (.succ (.succ .zero)))) rfl) ?_;rintro _ K _ ⟨rfl,rfl⟩ -;refine zz10 ?_;refine uBf ?_;rintro _ K _ ⟨rfl,rfl⟩ -;refine zz1 ?_;refine uAq ?_;rintro _ K _ ⟨rfl,rfl⟩ -;refine zz3 ?_
    first
     |(refine aO (.cons (.there (.there (.there (.there (.there .here))))) (.cons (.there (.there (.there (.there .here)))) (.cons (.there .here) .nil))) ?_;exact iQ rfl rfl rfl hle0 gB7 aH)
     |(refine aO (.cons (.there (.there (.there (.there (.there (.there .here)))))) (.cons (.there (.there (.there (.there (.there .here))))) (.cons (.there (.there .here)) .nil))) ?_;exact iQ rfl rfl rfl hle0 gB7 aH)
     |exact gAO
     |exact gAM
   ·
    refine zz10 ?_;refine uBf ?_;rintro _ K _ ⟨rfl,rfl⟩ -;refine zz1 ?_;refine uAq ?_;rintro _ K _ ⟨rfl,rfl⟩ -;refine zz3 ?_
    first
     |(refine aO (.cons (.there (.there (.there (.there (.there .here))))) (.cons (.there (.there (.there (.there .here)))) (.cons (.there .here) .nil))) ?_;exact iQ rfl rfl rfl hle0 gB7 aH)
     |(refine aO (.cons (.there (.there (.there (.there (.there (.there .here)))))) (.cons (.there (.there (.there (.there (.there .here))))) (.cons (.there (.there .here)) .nil))) ?_;exact iQ rfl rfl rfl hle0 gB7 aH)
     |exact gAO
     |exact gAM
end Go.Proofs
end
section
namespace Go.Syn
open Go.Cmp
def sOk(n:Nat):Tree→Prop
 | .const _=>True
 | .not_ t=>sOk n t
 | .many _ l=>sOk n l
 | .mat _ _ _ a b=>(∀x∈a,x.length≤n)∧(∀x∈b,x.length≤n)∧a.length≤2*n+1∧b.length≤2*n+1
 | .exi a=>(∀x∈a,x.length≤n)∧a.length≤2*n+1
 | .siz _ n=>0≤n∧n≤2147483647
 | .tnil=>True
 | .tcons t l=>sOk n t∧sOk n l
 | .plain _=>True
 | .act _ a _=>a.length≤n
 | .set_ a v _=>a.length≤n∧v.length≤n
 | .iff bs=>sOk n bs
 | .cnil=>True
 | .ccons c l=>sOk n c∧sOk n l
 | .bnil=>True
 | .bcons t b l=>sOk n t∧sOk n b∧sOk n l
 | .belse b l=>sOk n b∧sOk n l
def okT:Tree→Bool
 | .const _=>true
 | .not_ t=>okT t
 | .many _ l=>!eH l&&okT l
 | .mat tag _ op _ _=>decide (1≤tag∧tag≤3∧6≤op∧op≤8)
 | .exi _=>true
 | .siz tag _=>decide (tag=1∨tag=2)
 | .tnil=>true
 | .tcons t l=>okT t&&okT l
 | .plain op=>decide (op=13∨op=14)
 | .act k _ _=>decide (1≤k∧k≤4)
 | .set_ _ _ t=>decide (0≤t∧t≤3)
 | .iff bs=>okT bs
 | .cnil=>true
 | .ccons c l=>okT c&&okT l
 | .bnil=>true
 | .bcons t b l=>okT t&&(okT b&&okT l)
 | .belse b l=>okT b&&(eH l&&okT l)
def ilen:Tree→Nat
 | .const _=>1
 | .not_ t=>ilen t
 | .many _ l=>ilen l
 | .mat _ _ _ _ _=>2
 | .exi _=>2
 | .siz _ _=>2
 | .tnil=>0
 | .tcons t l=>ilen t+ilen l
 | .plain _=>1
 | .act _ _ _=>1
 | .set_ _ _ _=>1
 | .iff bs=>ilen bs
 | .cnil=>0
 | .ccons c l=>ilen c+ilen l
 | .bnil=>0
 | .bcons t b l=>ilen t+ilen b+ilen l+1
 | .belse b l=>ilen b+ilen l
def Fit(s:aJ)(k:Nat)(st:St)(r:Tree×St):Prop:=wf r.1 k=true∧sOk s.length r.1∧cnt r.1+mu s r.2≤mu s st∧okT r.1=true∧2*ilen r.1+mu s r.2≤mu s st
def FitA(s:aJ)(k:Nat)(T:St→Res (Tree×St)):Prop:=∀st r,Ok s st→T st=.ok r→Fit s k st r
def FitN(s:aJ)(k n:Nat)(T:St→Res (Tree×St)):Prop:=∀st r,Ok s st→st.2.kind=1∧n≤st.2.s.length→T st=.ok r→Fit s k st r
variable{s:aJ}
theorem hU{st r:St}(hok:Ok s st)(hk:st.2.kind=1)(h:next s st.1=.ok r):Ok s r∧mu s r < mu s st∧mu s r+st.2.s.length≤mu s st:=by
 have:=fP hok aH h;exact⟨this.1,this.2,aFI hok.1 hok.2 hk h⟩
theorem aHT{a:Nat}{r:St}(h:next s a=.ok r):0≤r.2.n∧r.2.n≤2147483647:=by
 unfold next at h;split at h
 ·cases h
 ·split at h
  ·cases h;exact⟨by simp,by simp⟩
  ·unfold kI at h;split at h
   ·cases h;exact⟨by simp,by simp⟩
   ·split at h
    ·split at h
     ·cases h
     ·cases h;exact⟨by simp,by simp⟩
    ·split at h
     ·split at h
      ·cases h;exact⟨by simp,by simp⟩
      ·cases h
     ·split at h
      ·cases h;exact⟨by simp,by simp⟩
      ·split at h
       ·split at h
        ·cases h
        ·rename_i q hq;cases h
         unfold pP at hq;split at hq
         ·cases hq
         ·split at hq
          ·cases hq
          ·rename_i hn;cases hq
           refine⟨?_,by simp only[];omega⟩
           have:=fun a=>(xA (dA s a)).1
           simp only[numN];split
           ·exact Int.mul_nonneg (Int.mul_nonneg (this _) (by decide)) (by decide)
           ·split
            ·exact Int.mul_nonneg (this _) (by decide)
            ·exact this _
       ·cases h
theorem sU{st:St}{k:Nat}{texts:List aJ}{r:Word×St}(h:take s st k texts=.ok r):r.1=st.2∧next s st.1=.ok r.2:=by
 unfold take at h;split at h
 ·cases h
 ·split at h
  ·cases h
  ·rename_i q hq;cases h
   exact⟨rfl,hq⟩
theorem n5(xs:List aJ)(x:aJ): -1≤cQ xs x∧cQ xs x < xs.length:=by
 unfold cQ;cases h:xs.findIdx? (fun y=>decide (x=y))with
 |none=>exact⟨by simp,by simp only[];omega⟩
 |some i=>
  rw[List.findIdx?_eq_some_iff_getElem]at h;obtain⟨hi,_⟩:=h;exact⟨by simp only[];omega,by simp only[];omega⟩
theorem aPT:∀ {f:Nat} {h:How} {st:St} {r:How×St},0≤h.tag∧h.tag≤3→eG s f h st=.ok r→0≤r.1.tag∧r.1.tag≤3:=by
 intro f;induction f with
 |zero=>intro h st r _ e;cases e
 |succ f ih=>
  intro h st r ht e;simp only[eG]at e;split at e
  ·split at e
   ·cases e
   rename_i hne;split at e
   ·cases e
   split at e
   ·rename_i h3;split at e
    ·cases e
    ·have:=n5 dE st.2.s;exact ih (by simp only[];omega) e
   ·split at e
    ·cases e
    ·split at e
     ·cases e
     ·exact ih (h:=⟨true,h.tag,_⟩) ht e
  ·cases e;exact ht
theorem aIY{st:St}{k:Nat}{texts:List aJ}{r:Word×St}(hok:Ok s st)(h:take s st k texts=.ok r):r.1.s.length≤s.length:=by
 unfold take at h;split at h
 ·cases h
 ·split at h
  ·cases h
  ·cases h;exact hok.2
theorem wT{st:St}{ff:aJ→Int}{r:aJ×St}(hok:Ok s st)(h:text s st ff=.ok r):r.1.length≤s.length:=by
 unfold text at h;split at h
 ·cases h
 ·split at h
  ·cases h
  ·rename_i q hq;cases h;exact aIY hok hq
theorem aNW{ff:aJ→Int}:∀ {f:Nat} {st:St} {acc:List aJ} {r:List aJ×St},Ok s st→(∀x∈acc,x.length≤s.length)→lZ s ff f st acc=.ok r→∀x∈r.1,x.length≤s.length:=by
 intro f;induction f with
 |zero=>intro st acc r _ _ h;cases h
 |succ f ih=>
  intro st acc r hok ha h;simp only[lZ]at h;split at h
  ·cases h
  ·rename_i q hq;have h1:=tB hok hq;split at h
   ·split at h
    ·cases h
    ·rename_i x hx;have h2:=l7 h1.1 hx;refine ih h2.1 ?_ h
     intro y hy;rcases List.mem_append.1 hy with hy|hy
     ·exact ha y hy
     ·simp at hy;subst hy;exact wT h1.1 hx
   ·split at h
    ·cases h
    ·cases h;exact ha
theorem aAY{ff:aJ→Int}{st:St}{r:List aJ×St}(hok:Ok s st)(h:list s st ff=.ok r):∀x∈r.1,x.length≤s.length:=by
 unfold list at h;split at h
 ·cases h
 ·rename_i q hq;have h1:=tB hok hq;split at h
  ·cases h
  ·rename_i x hx;have h2:=l7 h1.1 hx;have h3:=wT h1.1 hx;split at h
   ·exact aNW h2.1 (by intro y hy;simp at hy;subst hy;exact h3) h
   ·cases h;intro y hy;simp at hy;subst hy;exact h3
theorem uR{needs:List aJ}{op:Int}{ext:aJ}(hop:6≤op∧op≤8):FitN s 0 4 (jC s needs op ext):=by
 intro st r hok hk e;unfold jC at e;split at e
 ·cases e
 split at e
 ·cases e
 rename_i q hq;have h1:=hU hok hk.1 hq;have hk2:=hk.2;unfold l4 at e;split at e
 ·cases e
 rename_i h hh;have h2:=aDO h1.1 hh;split at e
 ·cases e
 rename_i a ha;have h3:=mZ h2.1 ha;have h3l:=sC h2.1 ha;split at e
 ·cases e
 rename_i b hb;have h4:=mZ h3.1 hb;have h4l:=sC h3.1 hb;cases e
 have hm:=wG s st;have ht:=aPT ⟨Int.le_refl _,by decide⟩ hh;exact⟨rfl,⟨aAY h2.1 ha,aAY h3.1 hb,by omega,by omega⟩,by simp only[cnt];omega,by simp only[okT,decide_eq_true_eq];split <;> omega,by simp only[ilen];omega⟩
theorem sN{c:Tree}(hc:wf c 2=true∧sOk s.length c∧cnt c=1∧okT c=true∧ilen c=1):FitN s 2 2 (iG s c):=by
 intro st r hok hk e;unfold iG at e;split at e
 ·cases e
 rename_i q hq;have h1:=hU hok hk.1 hq;have hk2:=hk.2;split at e
 ·cases e
 rename_i x hx;have h2:=fR h1.1 hx;cases e
 exact⟨hc.1,hc.2.1,by simp only[hc.2.2.1];omega,hc.2.2.2.1,by simp only[hc.2.2.2.2];omega⟩
theorem zR{needs:List aJ}{k:Int}{ext:aJ}{p:Int}(hkd:1≤k∧k≤4):FitN s 2 2 (actC s needs k ext p):=by
 intro st r hok hk e;unfold actC at e;split at e
 ·cases e
 split at e
 ·cases e
 rename_i q hq;have h1:=hU hok hk.1 hq;have hk2:=hk.2;split at e
 ·cases e
 rename_i x hx;have h2:=qD h1.1 (by decide) hx;split at e
 ·cases e
 rename_i y hy;have h3:=fR h2.1 hy;cases e
 exact⟨rfl,aIY h1.1 hx,by simp only[cnt];omega,by simp only[okT,decide_eq_true_eq];exact hkd,by simp only[ilen];omega⟩
theorem aAA{b:Bool}:FitN s 0 2 (kJ s b):=by
 intro st r hok hk e;unfold kJ at e;split at e
 ·cases e
 rename_i q hq;have h1:=hU hok hk.1 hq;have hk2:=hk.2;cases e
 exact⟨rfl,trivial,by simp only[cnt];omega,rfl,by simp only[ilen];omega⟩
theorem aG7:FitN s 0 4 (lA s):=by
 intro st r hok hk e;unfold lA at e;split at e
 ·cases e
 rename_i q hq;have h1:=hU hok hk.1 hq;have hk2:=hk.2;split at e
 ·cases e
 rename_i a ha;have h3:=mZ h1.1 ha;have h3l:=sC h1.1 ha;cases e
 have hm:=wG s st;exact⟨rfl,⟨aAY h1.1 ha,by omega⟩,by simp only[cnt];omega,rfl,by simp only[ilen];omega⟩
theorem aPH:FitN s 0 4 (oT s):=by
 intro st r hok hk e;unfold oT at e;split at e
 ·cases e
 rename_i q hq;have h1:=hU hok hk.1 hq;have hk2:=hk.2;split at e
 ·cases e
 rename_i x hx;have h2:=qD h1.1 (by decide) hx;split at e
 ·cases e
 rename_i y hy;have h3:=qD h2.1 (by decide) hy;cases e
 exact⟨rfl,by rw[(sU hy).1];exact aHT (sU hx).2,by simp only[cnt];omega,by simp only[okT,decide_eq_true_eq];split <;> omega,by simp only[ilen];omega⟩
theorem aSJ{T:St→Res (Tree×St)}(hT:FitA s 0 T):FitN s 0 0 (notC s T):=by
 intro st r hok hk e;unfold notC at e;split at e
 ·cases e
 rename_i q hq;have h1:=hU hok hk.1 hq;have hk2:=hk.2;split at e
 ·cases e
 rename_i t ht;have h2:=hT _ _ h1.1 ht;cases e
 exact⟨by simp[wf,h2.1],h2.2.1,by have:=h2.2.2.1;simp only[cnt];omega,h2.2.2.2.1,by have:=h2.2.2.2.2;simp only[ilen];omega⟩
theorem aTV{n:Nat}{t:Tree}(h1:wf t 0=true)(h2:sOk n t)(h3:okT t=true):∀ {l:Tree},wf l 1=true→sOk n l→okT l=true→wf (l.snocT t) 1=true∧sOk n (l.snocT t)∧cnt (l.snocT t)=cnt l+cnt t∧okT (l.snocT t)=true∧ilen (l.snocT t)=ilen l+ilen t∧eH (l.snocT t)=false:=by
 intro l;induction l with
 |tnil=>intro _ _ _;exact⟨by simp[Tree.snocT,wf,h1],⟨h2,trivial⟩,by simp[Tree.snocT,cnt],by simp[Tree.snocT,okT,h3],by simp[Tree.snocT,ilen],rfl⟩
 |tcons x l ih1 ih2=>
  intro hw hs ho;simp[wf]at hw;simp[okT]at ho;obtain⟨a,b,c,d,e,f⟩:=ih2 hw.2 hs.2 ho.2;exact⟨by simp[Tree.snocT,wf,hw.1,a],⟨hs.1,b⟩,by simp only[Tree.snocT,cnt,c];omega,by simp[Tree.snocT,okT,ho.1,d],by simp only[Tree.snocT,ilen,e];omega,rfl⟩
 |_=>intro hw;simp[wf]at hw
theorem aTU{n:Nat}{t:Tree}(h1:wf t 2=true)(h2:sOk n t)(h3:okT t=true):∀ {l:Tree},wf l 3=true→sOk n l→okT l=true→wf (l.snocC t) 3=true∧sOk n (l.snocC t)∧cnt (l.snocC t)=cnt l+cnt t∧okT (l.snocC t)=true∧ilen (l.snocC t)=ilen l+ilen t:=by
 intro l;induction l with
 |cnil=>intro _ _ _;exact⟨by simp[Tree.snocC,wf,h1],⟨h2,trivial⟩,by simp[Tree.snocC,cnt],by simp[Tree.snocC,okT,h3],by simp[Tree.snocC,ilen]⟩
 |ccons x l ih1 ih2=>
  intro hw hs ho;simp[wf]at hw;simp[okT]at ho;obtain⟨a,b,c,d,e⟩:=ih2 hw.2 hs.2 ho.2;exact⟨by simp[Tree.snocC,wf,hw.1,a],⟨hs.1,b⟩,by simp only[Tree.snocC,cnt,c];omega,by simp[Tree.snocC,okT,ho.1,d],by simp only[Tree.snocC,ilen,e];omega⟩
 |_=>intro hw;simp[wf]at hw
def cntO:Option Tree→Nat
 |none=>0
 |some t=>cnt t
def aHG:Option Tree→Nat
 |none=>0
 |some t=>ilen t+1
def aHZ:Tree→Bool
 | .bcons _ _ l=>aHZ l
 | .belse _ _=>false
 |_=>true
theorem aIO{n:Nat}{o:Option Tree}{b:Tree}(h0:∀t,o=some t→wf t 0=true∧sOk n t∧okT t=true)(h1:wf b 3=true)(h2:sOk n b)(h3:okT b=true):∀ {l:Tree},wf l 4=true→sOk n l→okT l=true→aHZ l=true→
  wf (l.snocB o b) 4=true∧sOk n (l.snocB o b)∧cnt (l.snocB o b)=cnt l+cntO o+cnt b+1∧okT (l.snocB o b)=true∧ilen (l.snocB o b)=ilen l+aHG o+ilen b∧aHZ (l.snocB o b)=o.isSome:=by
 intro l;induction l with
 |bnil=>
  intro _ _ _ _;cases o with
  |none=>exact⟨by simp[Tree.snocB,mkB,wf,h1],⟨h2,trivial⟩,by simp[Tree.snocB,mkB,cnt,cntO],by simp[Tree.snocB,mkB,okT,h3,eH],by simp[Tree.snocB,mkB,ilen,aHG],rfl⟩
  |some t=>
   obtain⟨a,b2,c2⟩:=h0 t rfl;exact⟨by simp[Tree.snocB,mkB,wf,h1,a],⟨b2,h2,trivial⟩,by simp[Tree.snocB,mkB,cnt,cntO],by simp[Tree.snocB,mkB,okT,h3,c2],by simp[Tree.snocB,mkB,ilen,aHG];omega,rfl⟩
 |bcons x y l ih1 ih2 ih3=>
  intro hw hs ho hp;simp[wf]at hw;simp[okT]at ho;obtain⟨a,b,c,d,e,f⟩:=ih3 hw.2.2 hs.2.2 ho.2.2 hp;exact⟨by simp[Tree.snocB,wf,hw.1,hw.2.1,a],⟨hs.1,hs.2.1,b⟩,by simp only[Tree.snocB,cnt,c];omega,by simp[Tree.snocB,okT,ho.1,ho.2.1,d],by simp only[Tree.snocB,ilen,e];omega,f⟩
 |belse y l ih1 ih2=>intro _ _ _ hp;cases hp
 |_=>intro hw;simp[wf]at hw
theorem aOC{T:St→Res (Tree×St)}(hTa:Adv s T)(hT:FitA s 0 T):∀ {f:Nat} {acc:Tree} {st:St} {r:Tree×St},Ok s st→wf acc 1=true→sOk s.length acc→okT acc=true→eH acc=false→nA s T f acc st=.ok r→wf r.1 1=true∧sOk s.length r.1∧cnt r.1+mu s r.2≤cnt acc+mu s st∧okT r.1=true∧2*ilen r.1+mu s r.2≤2*ilen acc+mu s st∧eH r.1=false:=by
 intro f;induction f with
 |zero=>intro acc st r _ _ _ _ _ e;cases e
 |succ f ih=>
  intro acc st r hok hw hs ho hn e;simp only[nA]at e;split at e
  ·cases e
  rename_i q hq;have h1:=tB hok hq;split at e
  ·split at e
   ·cases e
   rename_i t ht;have h2:=hT _ _ h1.1 ht;obtain⟨a,b,c,d,d2,d3⟩:=aTV h2.1 h2.2.1 h2.2.2.2.1 hw hs ho;have h3:=ih (hTa _ _ h1.1 ht).1 a b d d3 e;have h4:=h2.2.2;exact⟨h3.1,h3.2.1,by omega,h3.2.2.2.1,by omega,h3.2.2.2.2.2⟩
  ·split at e
   ·cases e
   rename_i y hy;have h2:=fR h1.1 hy;cases e
   exact⟨hw,hs,by simp only[];omega,ho,by simp only[];omega,hn⟩
theorem aC4{T:St→Res (Tree×St)}{all:Bool}(hTa:Adv s T)(hT:FitA s 0 T):FitN s 0 0 (mC s T all):=by
 intro st r hok hk e;unfold mC at e;split at e
 ·cases e
 rename_i q hq;have h1:=hU hok hk.1 hq;have hk2:=hk.2;split at e
 ·cases e
 rename_i x hx;have h2:=fR h1.1 hx;split at e
 ·cases e
 rename_i t ht;have h3:=hT _ _ h2.1 ht;unfold tE at e;split at e
 ·cases e
 rename_i l hl;have h4:=aOC (acc:=.tcons t.1 .tnil) hTa hT (hTa _ _ h2.1 ht).1 (by simp[wf,h3.1]) ⟨h3.2.1,trivial⟩ (by simp[okT,h3.2.2.2.1]) rfl hl;cases e
 have:=h3.2.2;have:=h4.2.2;refine⟨by simp[wf,h4.1],h4.2.1,?_,by simp[okT,h4.2.2.2.1,h4.2.2.2.2.2],?_⟩
 ·simp only[cnt]at*;omega
 ·simp only[ilen]at*;omega
theorem aPX{needs:List aJ}{T:St→Res (Tree×St)}(hTa:Adv s T)(hT:FitA s 0 T){st:St}{r:Tree×St}(hok:Ok s st)(hk:st.2.kind=1)(e:mE s needs T st=some (.ok r)):Fit s 0 st r:=by
 unfold mE at e;simp only[]at e;split at e
 ·rename_i hw;exact aAA _ _ hok ⟨hk,by rw[hw];decide⟩ gBS
 split at e
 ·rename_i hw;exact aAA _ _ hok ⟨hk,by rw[hw];decide⟩ gBS
 split at e
 ·rename_i hw;exact aSJ hT _ _ hok ⟨hk,by rw[hw];decide⟩ gBS
 split at e
 ·rename_i hw;exact aC4 hTa hT _ _ hok ⟨hk,by rw[hw];decide⟩ gBS
 split at e
 ·rename_i hw;exact aC4 hTa hT _ _ hok ⟨hk,by rw[hw];decide⟩ gBS
 split at e
 ·rename_i hw;exact uR (op:=6) (by decide) _ _ hok ⟨hk,by rw[hw];decide⟩ gBS
 split at e
 ·rename_i hw;exact uR (op:=7) (by decide) _ _ hok ⟨hk,by rw[hw];decide⟩ gBS
 split at e
 ·rename_i hw;exact uR (op:=8) (by decide) _ _ hok ⟨hk,by rw[hw];decide⟩ gBS
 split at e
 ·rename_i hw;exact aG7 _ _ hok ⟨hk,by rw[hw];decide⟩ gBS
 split at e
 ·rename_i hw;exact aPH _ _ hok ⟨hk,by rw[hw];decide⟩ gBS
 ·cases e
theorem aT6{needs:List aJ}:∀n,FitA s 0 (test s needs n):=by
 intro n;induction n with
 |zero=>intro st r hok e;simp only[test]at e;split at e <;> cases e
 |succ n ih=>
  intro st r hok e;simp only[test]at e;split at e
  ·rename_i hk;split at e
   ·rename_i x hx;subst e;exact aPX (nH n) ih hok hk hx
   ·cases e
  ·cases e
theorem w4{B:St→Res (Tree×St)}(hBa:AdvE s B)(hB:FitA s 3 B){st:St}{r:Tree×St}(hok:Ok s st)(e:lS s B st=.ok r):wf r.1 3=true∧sOk s.length r.1∧cnt r.1+1+mu s r.2≤mu s st∧okT r.1=true∧2*ilen r.1+mu s r.2≤mu s st:=by
 unfold lS at e;split at e
 ·cases e
 rename_i q hq;have h1:=fR hok hq;split at e
 ·cases e
 rename_i b hb;have h2:=hB _ _ h1.1 hb;have h2a:=hBa _ _ h1.1 hb;split at e
 ·cases e
 rename_i y hy;have h3:=fR h2a.1 hy;cases e
 have:=h2.2.2;exact⟨h2.1,h2.2.1,by simp only[];omega,h2.2.2.2.1,by simp only[];omega⟩
theorem aNB{B:St→Res (Tree×St)}(hBa:AdvE s B)(hB:FitA s 3 B){acc:Tree}{st:St}{r:Tree×St}(hok:Ok s st)(hw:wf acc 4=true)(hs:sOk s.length acc)(ho:okT acc=true)(hp:aHZ acc=true)(e:iA s B acc st=.ok r):wf r.1 2=true∧sOk s.length r.1∧cnt r.1+mu s r.2≤cnt acc+1+mu s st∧okT r.1=true∧2*ilen r.1+mu s r.2≤2*ilen acc+mu s st:=by
 unfold iA at e;split at e
 ·rename_i hk;split at e
  ·cases e
  rename_i q hq;have h1:=hU hok hk.1 hq;split at e
  ·cases e
  rename_i b hb;have h2:=w4 hBa hB h1.1 hb;cases e
  obtain⟨a,b,c,d,d2,_⟩:=aIO (o:=none) (fun t h=>by cases h) h2.1 h2.2.1 h2.2.2.2.1 hw hs ho hp;exact⟨by simp[wf,a],b,by simp only[cnt,c,cntO];omega,d,by simp only[ilen,d2,aHG];omega⟩
 ·cases e;exact⟨by simp[wf,hw],hs,by simp only[cnt];omega,ho,by simp only[ilen];omega⟩
theorem aJ0{T B:St→Res (Tree×St)}(hTa:Adv s T)(hBa:AdvE s B)(hT:FitA s 0 T)(hB:FitA s 3 B):∀ {f:Nat} {acc:Tree} {st:St} {r:Tree×St},Ok s st→wf acc 4=true→sOk s.length acc→okT acc=true→aHZ acc=true→eM s T B f acc st=.ok r→wf r.1 2=true∧sOk s.length r.1∧cnt r.1+mu s r.2≤cnt acc+1+mu s st∧okT r.1=true∧2*ilen r.1+mu s r.2≤2*ilen acc+mu s st:=by
 intro f;induction f with
 |zero=>intro acc st r _ _ _ _ _ e;cases e
 |succ f ih=>
  intro acc st r hok hw hs ho hp e;simp only[eM]at e;split at e
  ·rename_i hk;split at e
   ·cases e
   rename_i q hq;have h1:=hU hok hk.1 hq;have hel:st.2.s.length=5:=by rw[hk.2];rfl
   split at e
   ·cases e
   rename_i t ht;have h2:=hT _ _ h1.1 ht;have h2a:=hTa _ _ h1.1 ht;split at e
   ·cases e
   rename_i b hb;have h3:=w4 hBa hB h2a.1 hb;have h3a:=lK hBa _ _ h2a.1 hb;obtain⟨a,b',c,d,d2,d3⟩:=aIO (o:=some t.1) (fun x h=>by cases h;exact⟨h2.1,h2.2.1,h2.2.2.2.1⟩) h3.1 h3.2.1 h3.2.2.2.1 hw hs ho hp;have h4:=ih h3a.1 a b' d d3 e;have:=h2.2.2;simp only[cntO]at c;simp only[aHG]at d2;exact⟨h4.1,h4.2.1,by omega,h4.2.2.2.1,by omega⟩
  ·exact aNB hBa hB hok hw hs ho hp e
theorem aVM{T B:St→Res (Tree×St)}(hTa:Adv s T)(hBa:AdvE s B)(hT:FitA s 0 T)(hB:FitA s 3 B):FitN s 2 2 (ifC s T B):=by
 intro st r hok hk e;unfold ifC at e;split at e
 ·cases e
 rename_i q hq;have h1:=hU hok hk.1 hq;have hk2:=hk.2;split at e
 ·cases e
 rename_i t ht;have h2:=hT _ _ h1.1 ht;have h2a:=hTa _ _ h1.1 ht;split at e
 ·cases e
 rename_i b hb;have h3:=w4 hBa hB h2a.1 hb;have h3a:=lK hBa _ _ h2a.1 hb;have h4:=aJ0 (acc:=.bcons t.1 b.1 .bnil) hTa hBa hT hB h3a.1 (by simp[wf,h2.1,h3.1]) ⟨h2.2.1,h3.2.1,trivial⟩ (by simp[okT,h2.2.2.2.1,h3.2.2.2.1]) rfl e;have:=h2.2.2;simp only[cnt,ilen]at h4;exact⟨h4.1,h4.2.1,by omega,h4.2.2.2.1,by omega⟩
theorem aPC{needs:List aJ}:FitN s 2 2 (qB s needs):=by
 intro st r hok hk e;unfold qB at e;split at e
 ·cases e
 rename_i q hq;have h1:=aII _ _ hok aH hq;have hsm:mu s r.2+st.2.s.length≤mu s st∧(0≤q.1.tag∧q.1.tag≤3)∧(q.1.name.length≤s.length∧q.1.value.length≤s.length)→Fit s 2 st r:=by
  intro h;cases e
  exact⟨rfl,h.2.2,by simp only[cnt];omega,by simp only[okT,decide_eq_true_eq];exact h.2.1,by simp only[ilen];have h1:mu s q.2+_≤_:=h.1;have:=hk.2;show 2*1+mu s q.2≤_;omega⟩
 have er:r.2=q.2:=by cases e;rfl
 refine hsm ?_;rw[er];unfold setC at hq;split at hq
 ·split at hq
  ·cases hq
  rename_i r1 hr1;have g1:=hU hok hk.1 hr1;split at hq
  ·cases hq
  rename_i t ht;have h2:(Ok s t.2∧mu s t.2≤mu s r1)∧0≤t.1∧t.1≤3:=by
   unfold jD at ht;split at ht
   ·split at ht
    ·cases ht
    split at ht
    ·cases ht
    rename_i x hx;cases ht
    have g2:=fP g1.1 aH hx;have:=n5 [iS,iT,gH] r1.2.s;simp only[List.length_cons,List.length_nil]at this;exact⟨⟨g2.1,by simp only[];omega⟩,by simp only[];omega⟩
   ·cases ht;exact⟨⟨g1.1,Nat.le_refl _⟩,by simp⟩
  unfold lC at hq;split at hq
  ·cases hq
  rename_i n hn;have h3:=l7 h2.1.1 hn;split at hq
  ·cases hq
  rename_i v hv;have h4:=l7 h3.1 hv;split at hq
  ·cases hq
  rename_i y hy;have h5:=fR h4.1 hy;cases hq
  exact⟨by simp only[];omega,h2.2,by rw[uZ];exact wT h2.1.1 hn,wT h3.1 hv⟩
 ·cases hq
theorem aQO{needs:List aJ}{T B:St→Res (Tree×St)}(hTa:Adv s T)(hBa:AdvE s B)(hT:FitA s 0 T)(hB:FitA s 3 B){st:St}{r:Tree×St}(hok:Ok s st)(hk:st.2.kind=1)(e:cmdD s needs T B st=some (.ok r)):Fit s 2 st r:=by
 unfold cmdD at e;simp only[]at e;split at e
 ·rename_i hw;exact sN (c:=.act 1 [] st.2.at_) ⟨rfl,Nat.zero_le _,rfl,rfl,rfl⟩ _ _ hok ⟨hk,by rw[hw];decide⟩ gBS
 split at e
 ·rename_i hw;exact sN (c:=.plain 13) ⟨rfl,trivial,rfl,rfl,rfl⟩ _ _ hok ⟨hk,by rw[hw];decide⟩ gBS
 split at e
 ·rename_i hw;exact sN (c:=.plain 14) ⟨rfl,trivial,rfl,rfl,rfl⟩ _ _ hok ⟨hk,by rw[hw];decide⟩ gBS
 split at e
 ·rename_i hw;exact zR (k:=2) (by decide) _ _ hok ⟨hk,by rw[hw];decide⟩ gBS
 split at e
 ·rename_i hw;exact zR (k:=3) (by decide) _ _ hok ⟨hk,by rw[hw];decide⟩ gBS
 split at e
 ·rename_i hw;exact zR (k:=4) (by decide) _ _ hok ⟨hk,by rw[hw];decide⟩ gBS
 split at e
 ·rename_i hw;exact aPC _ _ hok ⟨hk,by rw[hw];decide⟩ gBS
 split at e
 ·rename_i hw;exact aVM hTa hBa hT hB _ _ hok ⟨hk,by rw[hw];decide⟩ gBS
 ·cases e
theorem aJO{C:St→Option (Res (Tree×St))}(hCa:∀ {st r},Ok s st→st.2.kind≠0→C st=some (.ok r)→Ok s r.2∧mu s r.2 < mu s st)(hC:∀ {st r},Ok s st→st.2.kind=1→C st=some (.ok r)→Fit s 2 st r):
  ∀ {f:Nat} {acc:Tree} {st:St} {r:Tree×St},Ok s st→wf acc 3=true→sOk s.length acc→okT acc=true→gW s C f acc st=.ok r→wf r.1 3=true∧sOk s.length r.1∧cnt r.1+mu s r.2≤cnt acc+mu s st∧okT r.1=true∧2*ilen r.1+mu s r.2≤2*ilen acc+mu s st:=by
 intro f;induction f with
 |zero=>intro acc st r _ _ _ _ e;cases e
 |succ f ih=>
  intro acc st r hok hw hs ho e;simp only[gW]at e;split at e
  ·rename_i hk;split at e
   ·cases e
   ·cases e
   rename_i c hc;have h1:=hCa hok aH hc;have h2:=hC hok hk hc;obtain⟨a,b,d,d2,d3⟩:=aTU h2.1 h2.2.1 h2.2.2.2.1 hw hs ho;have h3:=ih h1.1 a b d2 e;have:=h2.2.2;exact⟨h3.1,h3.2.1,by omega,h3.2.2.2.1,by omega⟩
  ·cases e;exact⟨hw,hs,Nat.le_refl _,ho,Nat.le_refl _⟩
theorem aMS{needs:List aJ}:∀n,FitA s 3 (block s needs n):=by
 intro n;induction n with
 |zero=>intro st r hok e;simp only[block]at e;split at e <;> cases e;exact⟨rfl,trivial,by simp[cnt],rfl,by simp[ilen]⟩
 |succ n ih=>
  intro st r hok e;simp only[block]at e;have:=aJO (acc:=.cnil) (fun h1 h2 h3=>z7 (nH n) (s7 n) h1 h2 h3) (fun h1 h2 h3=>aQO (nH n) (s7 n) (aT6 n) ih h1 h2 h3) hok rfl trivial rfl e;simp only[cnt,ilen]at this;exact⟨this.1,this.2.1,by omega,this.2.2.2.1,by omega⟩
theorem aTA:∀ {f:Nat} {ns:List aJ} {st:St} {r:List aJ×St},Ok s st→reqF s f ns st=.ok r→Ok s r.2∧mu s r.2≤mu s st:=by
 intro f;induction f with
 |zero=>intro ns st r _ e;cases e
 |succ f ih=>
  intro ns st r hok e;simp only[reqF]at e;split at e
  ·rename_i hk;split at e
   ·cases e
   rename_i q hq;have h1:=fP hok aH hq;split at e
   ·cases e
   rename_i l hl;have h2:=mZ h1.1 hl;split at e
   ·cases e
   rename_i y hy;have h3:=fR h2.1 hy;have:=ih h3.1 e;exact⟨this.1,by omega⟩
  ·cases e;exact⟨hok,Nat.le_refl _⟩
theorem pX{r:List aJ×Tree}(h:eE s=.ok r):wf r.2 3=true∧sOk s.length r.2∧cnt r.2≤2*s.length+1∧okT r.2=true∧2*ilen r.2≤s.length:=by
 unfold eE at h;split at h
 ·cases h
 rename_i q hq;have h1:=d9 (Nat.zero_le _) hq;unfold f9 at h;split at h
 ·cases h
 rename_i n hn;have h2:=aTA h1 hn;split at h
 ·cases h
 rename_i b hb;have h3:=aMS 7 _ _ h2.1 hb;split at h
 ·cases h
  have:=aSD hq;have:=h3.2.2;exact⟨h3.1,h3.2.1,by simp only[];omega,h3.2.2.2.1,by simp only[];omega⟩
 ·cases h
end Go.Syn
end
section
namespace Go.Cmp
open Go.Syn Go.Mach
def IFit(n:Nat)(o:Ins):Prop:=(∀x∈o.a,x.length≤n)∧(∀x∈o.b,x.length≤n)∧o.a.length≤2*n+1∧o.b.length≤2*n+1
def AFit(n:Nat)(ops:List Ins):Prop:=∀o∈ops,IFit n o
theorem AFit.setN{n:Nat}{k:Nat}{m:Int}:∀ {ops:List Ins},AFit n ops→AFit n (setN ops k m):=by
 intro ops h o ho;unfold Cmp.setN at ho;obtain⟨i,hi⟩:=List.getElem?_of_mem ho;rw[List.getElem?_modify]at hi;cases hx:ops[i]? with
 |none=>rw[hx]at hi;cases hi
 |some x=>
  rw[hx]at hi;have hxo:=h x (List.mem_of_getElem? hx);simp only[Option.map_eq_map,Option.map_some,Option.some.injEq]at hi
  by_cases hki:k=i
  ·rw[if_pos hki]at hi;subst hi;exact hxo
  ·rw[if_neg hki]at hi;subst hi;exact hxo
theorem AFit.fold{n:Nat}{m:Int}:∀(ps:List Nat) {ops:List Ins},AFit n ops→AFit n (ps.foldl (fun o k=>Cmp.setN o k (m - 1 - k)) ops)
 | [],_,h=>h
 |p::ps,_,h=>AFit.fold ps h.setN
theorem AFit.land{n:Nat}{ops:List Ins}{ps:List Nat}(h:AFit n ops):AFit n (land ops ps):=AFit.fold ps h
theorem AFit.app{n:Nat}{a b:List Ins}(h:AFit n a)(k:AFit n b):AFit n (a++b):=fun o ho=>(List.mem_append.1 ho).elim (h o) (k o)
theorem AFit.jmp{n:Nat}{ops:List Ins}{op:Int}(h:AFit n ops):AFit n (ops++[Cmp.jmp op]):=h.app fun o ho=>by
 rw[List.mem_singleton]at ho;subst ho;exact⟨by simp[Cmp.jmp],by simp[Cmp.jmp],by simp[Cmp.jmp],by simp[Cmp.jmp]⟩
theorem AFit.two{n:Nat}{ops:List Ins}{o:Ins}{op:Int}(h:AFit n ops)(k:IFit n o):AFit n (ops++[o,Cmp.jmp op]):=by
 have:=(h.app (b:=[o]) (fun x hx=>by rw[List.mem_singleton]at hx;subst hx;exact k)).jmp (op:=op)
 simpa using this
theorem aW3(n:Nat):∀(t:Tree),sOk n t→(∀tn ops,AFit n ops→AFit n (unl t tn ops).1)∧(∀all tn ops away here,AFit n ops→AFit n (unlL all tn t ops away here).1):=by
 intro t;induction t with
 |not_ t ih=>exact fun h=>⟨fun tn ops ho=>by rw[unl];exact(ih h).1 _ _ ho,fun all tn ops away here ho=>by simpa[unlL]using ho⟩
 |const b=>exact fun h=>⟨fun tn ops ho=>by rw[unl];split;exact ho.jmp;exact ho,fun all tn ops away here ho=>by simpa[unlL]using ho⟩
 |many all l ih=>exact fun h=>⟨fun tn ops ho=>by rw[unl];exact((ih h).2 _ _ _ _ _ ho).land,fun all tn ops away here ho=>by simpa[unlL]using ho⟩
 |mat tag oct op a b=>exact fun h=>⟨fun tn ops ho=>by rw[unl];exact ho.two h,fun all tn ops away here ho=>by simpa[unlL]using ho⟩
 |exi a=>exact fun h=>⟨fun tn ops ho=>by rw[unl];exact ho.two ⟨h.1,by simp,h.2,by simp⟩,fun all tn ops away here ho=>by simpa[unlL]using ho⟩
 |siz tag m=>exact fun h=>⟨fun tn ops ho=>by rw[unl];exact ho.two ⟨by simp,by simp,by simp,by simp⟩,fun all tn ops away here ho=>by simpa[unlL]using ho⟩
 |tcons t l ih1 ih2=>
  refine fun h=>⟨fun tn ops ho=>by simpa[unl]using ho,fun all tn ops away here ho=>?_⟩
  rw[unlL];split
  ·exact(ih2 h.2).2 _ _ _ _ _ ((ih1 h.1).1 _ _ ho)
  ·exact(ih2 h.2).2 _ _ _ _ _ ((ih1 h.1).1 _ _ ho)
 |_=>exact fun h=>⟨fun tn ops ho=>by simpa[unl]using ho,fun all tn ops away here ho=>by simpa[unlL]using ho⟩
theorem aQJ(n:Nat):∀(t:Tree),sOk n t→(∀ops,AFit n ops→AFit n (body t ops))∧(∀ops,AFit n ops→AFit n (cmdI t ops))∧(∀ops out,AFit n ops→AFit n (cI t ops out)):=by
 intro t;induction t with
 |plain op=>exact fun h=>⟨fun ops ho=>by simpa[body]using ho,fun ops ho=>by rw[cmdI];exact ho.jmp,fun ops out ho=>by simpa[cI]using ho.land⟩
 |act k a p=>
  refine fun h=>⟨fun ops ho=>by simpa[body]using ho,fun ops ho=>?_,fun ops out ho=>by simpa[cI]using ho.land⟩
  rw[cmdI];refine ho.app fun o hx=>?_
  rw[List.mem_singleton]at hx;subst hx
  refine⟨fun x hx=>?_,by simp,?_,by simp⟩
  ·simp only at hx;split at hx
   ·cases hx
   ·rw[List.mem_singleton]at hx;subst hx;exact h
  ·simp only;split <;> simp
 |set_ a v t=>
  refine fun h=>⟨fun ops ho=>by simpa[body]using ho,fun ops ho=>?_,fun ops out ho=>by simpa[cI]using ho.land⟩
  rw[cmdI];refine ho.app fun o hx=>?_
  rw[List.mem_singleton]at hx;subst hx
  exact⟨fun x hx=>by rw[List.mem_singleton]at hx;subst hx;exact h.1,fun x hx=>by rw[List.mem_singleton]at hx;subst hx;exact h.2,by simp,by simp⟩
 |iff bs ih=>exact fun h=>⟨fun ops ho=>by simpa[body]using ho,fun ops ho=>by rw[cmdI];exact(ih h).2.2 _ _ ho,fun ops out ho=>by simpa[cI]using ho.land⟩
 |ccons c l ih1 ih2=>exact fun h=>⟨fun ops ho=>by rw[body];exact(ih2 h.2).1 _ ((ih1 h.1).2.1 _ ho),fun ops ho=>by simpa[cmdI]using ho,fun ops out ho=>by simpa[cI]using ho.land⟩
 |belse b l ih1 ih2=>exact fun h=>⟨fun ops ho=>by simpa[body]using ho,fun ops ho=>by simpa[cmdI]using ho,fun ops out ho=>by rw[cI];exact((ih1 h.1).1 _ ho).land⟩
 |bcons t b l ih1 ih2 ih3=>
  refine fun h=>⟨fun ops ho=>by simpa[body]using ho,fun ops ho=>by simpa[cmdI]using ho,fun ops out ho=>?_⟩
  have h1:=(ih2 h.2.1).1 _ ((aW3 n t h.1).1 false _ ho);rw[cI];split
  ·exact(ih3 h.2.2).2.2 _ _ h1.land
  ·exact(ih3 h.2.2).2.2 _ _ h1.jmp.land
 |_=>exact fun h=>⟨fun ops ho=>by simpa[body]using ho,fun ops ho=>by simpa[cmdI]using ho,fun ops out ho=>by simpa[cI]using ho.land⟩
theorem script_fit{n:Nat}{t:Tree}(h:sOk n t):AFit n (script t):=(aQJ n t h).1 [] (fun o ho=>by cases ho)
theorem script_len(t:Tree):(script t).length≤2*cnt t:=by have:=((jW t).1 []).2;unfold script;simpa using this
end Go.Cmp
end
section
namespace Go.Syn
variable{s:aJ}
theorem u7:∀(l ns:List aJ),(eX ns l).length≤ns.length+l.length
 | [],ns=>by simp[eX]
 |e::l,ns=>by
  have h1:=u7 l (addN ns e);have h2:=aQB ns e;unfold eX at h1 ⊢;simp only[List.foldl_cons,List.length_cons]at h1 ⊢;omega
theorem aH9:∀(f:Nat) (ns:List aJ) (st:St) (r:List aJ×St),Ok s st→reqF s f ns st=.ok r→r.1.length≤ns.length+mu s st
 |0,ns,st,r,_,h=>by cases h
 |f+1,ns,st,r,hok,h=>by
  unfold reqF at h;split at h
  ·rename_i hk;split at h
   ·cases h
   rename_i q hq;have hk2:st.2.kind≠0:=by omega
   have h1:=fC hok.1 hk2 hq;have h1o:=d9 hok.1 hq;split at h
   ·cases h
   rename_i l hl;have h2:=mZ h1o hl;have h2l:=sC h1o hl;split at h
   ·cases h
   rename_i q2 hq2;have h3:=fR h2.1 hq2;have h4:=aH9 f _ _ _ h3.1 h;have h5:=u7 l.1 ns;omega
  ·cases h;simp
theorem yU{r:List aJ×Tree}(h:eE s=.ok r):r.1.length≤2*s.length+1:=by
 unfold eE at h;split at h
 ·cases h
 rename_i q hq;have h1:=d9 (Nat.zero_le _) hq;unfold f9 at h;split at h
 ·cases h
 rename_i n hn;have h2:=aH9 _ _ _ _ h1 hn;have h3:=wG s q;split at h
 ·cases h
 split at h
 ·cases h
  show n.1.length≤_
  have h2':n.1.length≤mu s q:=by simpa using h2
  omega
 ·cases h
end Go.Syn
end
section
namespace Go.SL
section
variable{E:Env}{fr:Fr}{K:Hl}{L L':List Asn}{Q:Post}{ops:Array Oper}{rest:List Oper}{dst:Option Tmp}{ty:TypeId}{pos:String}{aft:Array Edge}{g:Option (Nat×Bool)}{x y:Operand}{v u:Value}{t:TypeId}
theorem aAT{P:Program}{name:String}{os:List Operand}{vs:List Value}{ats:Array TypeId}{f:FuncId}{r:Value}{n:Nat}{ds:List Deferred}(hx:fr.ev x=some (.iface t u))(hos:fr.evs os=some vs)
  (hm:∀w,(method (P.types.size+Made.depth) t u name).run P w=.ok (f,r) w) {a:Act} (fo:FrOk n ds fr a) (w:World):
  (execOp a.eval ⟨dst,.call ⟨.invoke x name,os.toArray,ats⟩,ty,pos,aft,g⟩).run P w=(callFunc f (r::vs).toArray).run P w:=by
 have e1:Array.map a.eval os.toArray=vs.toArray:=by simp[fo.evs hos]
 have e2: #[Value.iface t u]++vs.toArray=(Value.iface t u::vs).toArray:=by simp
 simp only[execOp,resolve,e1,fo.ev hx,bind,pure,Sem.bind,invoke,e2];have e3:(Value.iface t u::vs).toArray[0]?=some (.iface t u):=by simp
 have e4:(Value.iface t u::vs).toArray.extract 1 (Value.iface t u::vs).toArray.size=vs.toArray:=by simp
 simp only[e3,e4]
 show (callMethod (.iface t u) name vs.toArray).run P w=_
 unfold callMethod;simp only[];have hp:(program).run P w=.ok P w:=rfl;rw[aP hp,aP (hm w)];simp
theorem eK{name:String}{os:List Operand}{vs:List Value}{ats:Array TypeId}{f:FuncId}{r:Value}{fn:Func}{ex:Array Value→Sem Value}(hx:fr.ev x=some (.iface t u))(hos:fr.evs os=some vs)
  (hm:∀w,(method (E.P.types.size+Made.depth) t u name).run E.P w=.ok (f,r) w)
  (h1:E.P.funcs[f]?=some fn) (h2:(fn.name=="runtime.NumGoroutine")=false) (h3:fn.body.isNone=true) (h4:Extern.findNext fn=none) (h5:Extern.find fn=some ex) (hr:∀w,In E.w0 E.F K L w→(ex (r::vs).toArray).run E.P w=.ok v w):
  Ev E fr K L ⟨dst,.call ⟨.invoke x name,os.toArray,ats⟩,ty,pos,aft,g⟩ v:=fun a w fo j=>by
 rw[aAT hx hos hm fo w,run_callFunc_extern h1 h2 h3 h4 h5,hr w j]
 rfl
theorem yW{fv:Operand}{os:List Operand}{vs:List Value}{ats:Array TypeId}{f:FuncId}{fn:Func}{ex:Array Value→Sem Value}{N:Value→Hl→List Asn→Prop}(hf:fr.ev fv=some (.func (.func f) #[] #[]))(hos:fr.evs os=some vs)
  (h1:E.P.funcs[f]?=some fn) (h2:(fn.name=="runtime.NumGoroutine")=false) (h3:fn.body.isNone=true) (h4:Extern.findNext fn=none) (h5:Extern.find fn=some ex)
  (hr:∀w,In E.w0 E.F K L w→∃v w' K' L',(ex vs.toArray).run E.P w=.ok v w'∧N v K' L'∧K.le K'∧In E.w0 E.F K' L' w'):
  EfS E fr K L ⟨dst,.call ⟨.value fv,os.toArray,ats⟩,ty,pos,aft,g⟩ N:=fun a w fo j=>by
 obtain⟨v,w',K',L',h,hN,le,j'⟩:=hr w j;refine⟨v,w',K',L',.inl ?_,hN,le,j'⟩
 have e1:Array.map a.eval os.toArray=vs.toArray:=by simp[fo.evs hos]
 simp only[execOp,resolve,e1,fo.ev hf,Deferred.ofValue,bind,pure,Sem.bind,invoke,List.append_toArray];simp only[List.nil_append,List.append_nil];rw[run_callFunc_extern h1 h2 h3 h4 h5,h]
 rfl
theorem aGZ{o:Oper}{f:FuncId}{vs:List Value}{L1 L2:List Asn}{R:Ending→Hl→List Asn→Prop}{N:Value→Hl→List Asn→Prop}
  (hrun:∀a w,FrOk E.n E.ds fr a→(execOp a.eval o).run E.P w=.ok (.enter f vs.toArray) w) (hL:Tks L1 L L2) (hs:Sp E.P f vs K L1 R)
  (hret:∀v K' L',R (.returned v) K' L'→N v K' (L'++L2)) (hpan:∀ch K' L',R (.panicked ch) K' L'→K.le K'→D E (.panic ch) fr K' (L'++L2) Q) (hout:∀K' L',R .outgrown K' L'→LetsOut Q):
  Ef E fr K L o Q N:=by
 intro a w k fo i hk;obtain⟨F',i1,back⟩:=(i.imp hL.sat).hide;refine .inl ?_;unfold Oper.wp;rw[hrun a w fo];refine(hs.2 F' w i1).mono fun e w' ⟨K',L',r,le,j⟩=>?_
 cases e with
 |returned v=>exact hk _ _ _ _ (hret _ _ _ r) le (back j)
 |panicked ch=>exact hpan _ _ _ r le _ _ fo (back j)
 |outgrown=>exact hout _ _ r
theorem aFA{P:Program}{name:String}{os:List Operand}{vs:List Value}{ats:Array TypeId}{f:FuncId}{r:Value}{n:Nat}{ds:List Deferred}(hx:fr.ev x=some (.iface t u))(hos:fr.evs os=some vs)
  (hm:∀w,(method (P.types.size+Made.depth) t u name).run P w=.ok (f,r) w) (hb:∃fn,P.funcs[f]?=some fn∧(fn.name=="runtime.NumGoroutine")=false∧fn.body.isSome=true) (a:Act) (w:World) (fo:FrOk n ds fr a):
  (execOp a.eval ⟨dst,.call ⟨.invoke x name,os.toArray,ats⟩,ty,pos,aft,g⟩).run P w=.ok (.enter f (r::vs).toArray) w:=by
 obtain⟨fn,h1,h2,h3⟩:=hb;rw[aAT hx hos hm fo w];exact xE h1 h2 h3 w
theorem lF{d:Nat}{name:String}{os:List Operand}{vs:List Value}{ats:Array TypeId}{f:FuncId}{r:Value}{L1 L2:List Asn}{N:Value→Hl→List Asn→Prop}(hx:fr.ev x=some (.iface t u))(hos:fr.evs os=some vs)
  (hm:∀w,(method (E.P.types.size+Made.depth) t u name).run E.P w=.ok (f,r) w) (hs:Sp E.P f (r::vs) K L1 (Ret N)) (hL:Tks L1 L L2) (hd:Nat.blt d E.n=true)
  (h:∀v K' L',N v K' L'→K.le K'→OL E ops rest ((d,v)::fr) K' (L'++L2) Q):OL E ops (⟨some d,.call ⟨.invoke x name,os.toArray,ats⟩,ty,pos,aft,none⟩::rest) fr K L Q:=
 aDB (aGZ (N:=fun v K' L''=>∃L',L''=L'++L2∧N v K' L') (aFA hx hos hm hs.1) hL hs (fun v K' L' ⟨u,e,n⟩=>by cases e;exact⟨L',rfl,n⟩) (fun ch K' L' ⟨u,e,n⟩=>by cases e) (fun K' L' ⟨u,e,n⟩=>by cases e)) hd
  (fun v K' L'' ⟨L',e,n⟩ le=>by subst e;exact h v K' L' n le)
theorem aG4{xt at_:TypeId}{ok:Bool}(hx:fr.ev x=some u)(h:∀w,(Instr.typeAssert u xt at_ ok).run E.P w=.ok v w):Ev E fr K L ⟨dst,.typeAssert x xt at_ ok,ty,pos,aft,g⟩ v:=fun a w f j=>by
 simp only[execOp,f.ev hx];exact dS (h w)
theorem aJ2{op:BinOp}{t':TypeId}{v1 v2:Value}(hx:fr.ev x=some v1)(hy:fr.ev y=some v2)(h0:∀w,(eqGuard op t x y v1 v2).run E.P w=.ok () w)(h:∀w,(binOp op t v1 v2).run E.P w=.ok v w):
  Ev E fr K L ⟨dst,.binOp op t x y t',ty,pos,aft,g⟩ v:=fM hx hy h0 h
end
end Go.SL
end
section
namespace Go.Proofs
open Go Go.SL Go.Extern
abbrev hd(t:Nat):Value:=.pointer (some ⟨7,t,none⟩)
theorem rlm(z:Sem Value)(f:TypeId→Addr→Nat→Nat→Sem Value)(v:Value):
  ReflectliteValue.method z f #[v]=(do match ←ReflectliteValue.parts v with|none=>z|some (t,a,fl)=>f t a fl (fl % 32)):=rfl
theorem rls (v x : Value) : ReflectliteValue.set #[v, x] = (do
  let (some (dst,a,fl),some (src,b,_)):=(←ReflectliteValue.parts v,←ReflectliteValue.parts x)
   |unsupported (.noEntry "extern/(internal/reflectlite.Value).Set.zeroValue")
  if fl / ReflectliteValue.flagAddr % 2==0 then unsupported (.noEntry "extern/(internal/reflectlite.Value).Set.unaddressable")
  let val ←loadVar src b
  if ←Rtype.directlyAssignable dst src then storeVar dst a val
  else if ←Rtype.implements dst src then
   if (←Rtype.kind src)==20 then
    match val with
    | .nilIface=>unsupported (.noEntry "extern/reflectlite: a nil value of one interface type handed on as a value of another")
    |_=>storeVar dst a val
   else storeVar dst a (.iface src val)
  else panicString ("reflectlite.Set: value of type "++(←Rtype.spelt src)++" is not assignable to type "++(←Rtype.spelt dst))
  pure (.tuple #[])):=rfl
theorem aB1(t:Nat)(w:World):(ReflectliteValue.unpack (.iface 120 (ptr t))).run Tryz.prog w=.ok (.agg #[hd 120,ptr w.heap.size,.int .u64 150]) (w.alloc (.cells #[ptr t] 120)):=by kernel_rfl
theorem aMJ(a:Addr)(w:World):(ReflectliteValue.methodAny (ReflectliteValue.valueError "reflectlite.Value.Type" 0) (fun t _ _ _=>ReflectliteType.toType t) #[.agg #[hd 120,.pointer (some a),.int .u64 150]]).run Tryz.prog w=.ok (.iface 265 (.agg #[hd 120])) w:=by kernel_rfl
theorem aL4(w:World):((ReflectliteType.abiMethod fun t=>(fun a:Nat=>Value.int IntKind.u8 (a:Int))<$>Rtype.kind t) #[hd 120]).run Tryz.prog w=.ok (.int .u8 22) w:=by kernel_rfl
theorem aL3(w:World):((ReflectliteType.abiMethod fun t=>(fun a:Nat=>Value.int IntKind.u8 (a:Int))<$>Rtype.kind t) #[hd 118]).run Tryz.prog w=.ok (.int .u8 22) w:=by kernel_rfl
theorem aH1(a:Addr)(w:World):(ReflectliteValue.parts (.agg #[hd 120,.pointer (some a),.int .u64 150])).run Tryz.prog w=.ok (some (120,a,150)) w:=by kernel_rfl
theorem aHH(a p:Addr)(W:World)(ha:W.cell? a=some (.pointer (some p))):
  (ReflectliteValue.method (ReflectliteValue.valueError "reflectlite.Value.IsNil" 0) ReflectliteValue.isNil #[.agg #[hd 120,.pointer (some a),.int .u64 150]]).run Tryz.prog W=.ok (.bool false) W:=by
 rw[rlm];simp only[Sem.run_bind,aH1,Result.andThen];simp[ReflectliteValue.isNil,loadVar,isAgg,underlying,Tryz.underlying120,ha,Result.andThen]
theorem aLQ(w:World):(ReflectliteType.method ReflectliteType.elem #[.agg #[hd 120]]).run Tryz.prog w=.ok (.iface 265 (.agg #[hd 118])) w:=by kernel_rfl
theorem tW(w:World):(ReflectliteType.relation "Implements" ReflectliteType.implements_ #[.agg #[hd 118],.iface 265 (.agg #[hd 79])]).run Tryz.prog w=.ok (.bool true) w:=by kernel_rfl
theorem aP4(v:Value)(w:World):(ReflectliteType.typeOf #[.iface 118 v]).run Tryz.prog w=.ok (.iface 265 (.agg #[hd 118])) w:=by kernel_rfl
theorem aB6(w:World):(ReflectliteType.relation "AssignableTo" ReflectliteType.assignableTo #[.agg #[hd 118],.iface 265 (.agg #[hd 118])]).run Tryz.prog w=.ok (.bool true) w:=by kernel_rfl
theorem aK9(e:Nat)(w:World):(ReflectliteValue.unpack (.iface 118 (ptr e))).run Tryz.prog w=.ok (.agg #[hd 118,ptr w.heap.size,.int .u64 150]) (w.alloc (.cells #[(ptr e)] 118)):=by kernel_rfl
theorem aM8(w:World):(Rtype.elem? 120).run Tryz.prog w=.ok (some 118) w:=by kernel_rfl
theorem bAG(p:Addr)(w:World):(ReflectliteValue.mk 118 p ReflectliteValue.flagAddr).run Tryz.prog w=.ok (.agg #[hd 118,.pointer (some p),.int .u64 406]) w:=by kernel_rfl
theorem aRG(a p:Addr)(W:World)(ha:W.cell? a=some (.pointer (some p))):
  (ReflectliteValue.method (ReflectliteValue.valueError "reflectlite.Value.Elem" 0) ReflectliteValue.elem #[.agg #[hd 120,.pointer (some a),.int .u64 150]]).run Tryz.prog W=.ok (.agg #[hd 118,.pointer (some p),.int .u64 406]) W:=by
 rw[rlm];simp only[Sem.run_bind,aH1,Result.andThen];simp[ReflectliteValue.elem,loadVar,isAgg,underlying,Tryz.underlying120,ha,Result.andThen,aM8,bAG]
theorem aOR(a:Addr)(w:World):(ReflectliteValue.parts (.agg #[hd 118,.pointer (some a),.int .u64 406])).run Tryz.prog w=.ok (some (118,a,406)) w:=by kernel_rfl
theorem aSS(a:Addr)(w:World):(ReflectliteValue.parts (.agg #[hd 118,.pointer (some a),.int .u64 150])).run Tryz.prog w=.ok (some (118,a,150)) w:=by kernel_rfl
theorem aM3(w:World):(Rtype.directlyAssignable 118 118).run Tryz.prog w=.ok true w:=by kernel_rfl
theorem aZI(ta b:Addr)(e:Nat)(old:Value)(W:World)(hb:W.cell? b=some (ptr e))(ht:W.cell? ta=some old)(hf:W.frozen? ta=false):
  (ReflectliteValue.set #[.agg #[hd 118,.pointer (some ta),.int .u64 406],.agg #[hd 118,.pointer (some b),.int .u64 150]]).run Tryz.prog W=.ok (.tuple #[]) (W.setCell ta (ptr e)):=by
 rw[rls];simp only[Sem.run_bind,aOR,aSS,Result.andThen];simp[ReflectliteValue.flagAddr,loadVar,isAgg,underlying,Tryz.underlying118,hb,Result.andThen,aM3,storeVar,Value.cells,storeCells,Addr.add];rw[run_store Tryz.prog W ta _ _ (by rfl)];simp[ht,hf]
theorem aLA(t:Nat)(w:World):(ReflectliteValue.unpack (.iface 124 (ptr t))).run Tryz.prog w=.ok (.agg #[hd 124,ptr w.heap.size,.int .u64 150]) (w.alloc (.cells #[ptr t] 124)):=by kernel_rfl
theorem aW0(a:Addr)(w:World):(ReflectliteValue.methodAny (ReflectliteValue.valueError "reflectlite.Value.Type" 0) (fun t _ _ _=>ReflectliteType.toType t) #[.agg #[hd 124,.pointer (some a),.int .u64 150]]).run Tryz.prog w=.ok (.iface 265 (.agg #[hd 124])) w:=by kernel_rfl
theorem aVP(w:World):((ReflectliteType.abiMethod fun t=>(fun a:Nat=>Value.int IntKind.u8 (a:Int))<$>Rtype.kind t) #[hd 124]).run Tryz.prog w=.ok (.int .u8 22) w:=by kernel_rfl
theorem aYY(w:World):((ReflectliteType.abiMethod fun t=>(fun a:Nat=>Value.int IntKind.u8 (a:Int))<$>Rtype.kind t) #[hd 30]).run Tryz.prog w=.ok (.int .u8 2) w:=by kernel_rfl
theorem aH2(a:Addr)(w:World):(ReflectliteValue.parts (.agg #[hd 124,.pointer (some a),.int .u64 150])).run Tryz.prog w=.ok (some (124,a,150)) w:=by kernel_rfl
theorem aRZ(a p:Addr)(W:World)(ha:W.cell? a=some (.pointer (some p))):
  (ReflectliteValue.method (ReflectliteValue.valueError "reflectlite.Value.IsNil" 0) ReflectliteValue.isNil #[.agg #[hd 124,.pointer (some a),.int .u64 150]]).run Tryz.prog W=.ok (.bool false) W:=by
 rw[rlm];simp only[Sem.run_bind,aH2,Result.andThen];simp[ReflectliteValue.isNil,loadVar,isAgg,underlying,Tryz.underlying124,ha,Result.andThen]
theorem aVC(w:World):(ReflectliteType.method ReflectliteType.elem #[.agg #[hd 124]]).run Tryz.prog w=.ok (.iface 265 (.agg #[hd 30])) w:=by kernel_rfl
theorem aE7(w:World):(ReflectliteType.relation "Implements" ReflectliteType.implements_ #[.agg #[hd 30],.iface 265 (.agg #[hd 79])]).run Tryz.prog w=.ok (.bool true) w:=by kernel_rfl
theorem wU(v:Value)(w:World):(ReflectliteType.typeOf #[.iface 30 v]).run Tryz.prog w=.ok (.iface 265 (.agg #[hd 30])) w:=by kernel_rfl
theorem aEH(w:World):(ReflectliteType.relation "AssignableTo" ReflectliteType.assignableTo #[.agg #[hd 30],.iface 265 (.agg #[hd 30])]).run Tryz.prog w=.ok (.bool true) w:=by kernel_rfl
theorem aP7(e:Int)(w:World):(ReflectliteValue.unpack (.iface 30 (i64 e))).run Tryz.prog w=.ok (.agg #[hd 30,ptr w.heap.size,.int .u64 130]) (w.alloc (.cells #[(i64 e)] 30)):=by kernel_rfl
theorem aM9(w:World):(Rtype.elem? 124).run Tryz.prog w=.ok (some 30) w:=by kernel_rfl
theorem mk30(p:Addr)(w:World):(ReflectliteValue.mk 30 p ReflectliteValue.flagAddr).run Tryz.prog w=.ok (.agg #[hd 30,.pointer (some p),.int .u64 386]) w:=by kernel_rfl
theorem aRH(a p:Addr)(W:World)(ha:W.cell? a=some (.pointer (some p))):
  (ReflectliteValue.method (ReflectliteValue.valueError "reflectlite.Value.Elem" 0) ReflectliteValue.elem #[.agg #[hd 124,.pointer (some a),.int .u64 150]]).run Tryz.prog W=.ok (.agg #[hd 30,.pointer (some p),.int .u64 386]) W:=by
 rw[rlm];simp only[Sem.run_bind,aH2,Result.andThen];simp[ReflectliteValue.elem,loadVar,isAgg,underlying,Tryz.underlying124,ha,Result.andThen,aM9,mk30]
theorem aST(a:Addr)(w:World):(ReflectliteValue.parts (.agg #[hd 30,.pointer (some a),.int .u64 386])).run Tryz.prog w=.ok (some (30,a,386)) w:=by kernel_rfl
theorem aVX(a:Addr)(w:World):(ReflectliteValue.parts (.agg #[hd 30,.pointer (some a),.int .u64 130])).run Tryz.prog w=.ok (some (30,a,130)) w:=by kernel_rfl
theorem aQ4(w:World):(Rtype.directlyAssignable 30 30).run Tryz.prog w=.ok true w:=by kernel_rfl
theorem bAY(ta b:Addr)(e:Int)(old:Value)(W:World)(hb:W.cell? b=some (i64 e))(ht:W.cell? ta=some old)(hf:W.frozen? ta=false):
  (ReflectliteValue.set #[.agg #[hd 30,.pointer (some ta),.int .u64 386],.agg #[hd 30,.pointer (some b),.int .u64 130]]).run Tryz.prog W=.ok (.tuple #[]) (W.setCell ta (i64 e)):=by
 rw[rls];simp only[Sem.run_bind,aST,aVX,Result.andThen];simp[ReflectliteValue.flagAddr,loadVar,isAgg,underlying,Tryz.underlying30,hb,Result.andThen,aQ4,storeVar,Value.cells,storeCells,Addr.add];rw[run_store Tryz.prog W ta _ _ (by rfl)];simp[ht,hf]
theorem mM(h:Value)(w:World):(Go.method (Tryz.prog.types.size+Made.depth) 265 (.agg #[h]) "Kind").run Tryz.prog w=.ok (396,h) w:=by kernel_rfl
theorem uU(h:Value)(w:World):(Go.method (Tryz.prog.types.size+Made.depth) 265 (.agg #[h]) "Elem").run Tryz.prog w=.ok (416,.agg #[h]) w:=by kernel_rfl
theorem mL(h:Value)(w:World):(Go.method (Tryz.prog.types.size+Made.depth) 265 (.agg #[h]) "Implements").run Tryz.prog w=.ok (417,.agg #[h]) w:=by kernel_rfl
theorem lE(h:Value)(w:World):(Go.method (Tryz.prog.types.size+Made.depth) 265 (.agg #[h]) "AssignableTo").run Tryz.prog w=.ok (414,.agg #[h]) w:=by kernel_rfl
theorem pV(h:Value)(w:World):(Go.method (Tryz.prog.types.size+Made.depth) 265 (.agg #[h]) "Comparable").run Tryz.prog w=.ok (415,.agg #[h]) w:=by kernel_rfl
theorem aFG(fb:Nat)(w:World):(Go.method (Tryz.prog.types.size+Made.depth) 118 (ptr fb) "Unwrap").run Tryz.prog w=.ok (407,ptr fb) w:=by kernel_rfl
theorem wX(w:World):(ReflectliteType.relation "AssignableTo" ReflectliteType.assignableTo #[.agg #[hd 30],.iface 265 (.agg #[hd 118])]).run Tryz.prog w=.ok (.bool false) w:=by kernel_rfl
theorem vF(w:World):(ReflectliteType.method (fun t=>do Rtype.noPackHeld "Comparable" t;pure (.bool (←typeInfo t).comparable)) #[.agg #[hd 30]]).run Tryz.prog w=.ok (.bool true) w:=by kernel_rfl
theorem aY4(v:Value)(w:World):(Instr.typeAssert (.iface 30 v) 79 269 true).run Tryz.prog w=.ok (.tuple #[.nilIface,.bool false]) w:=run_typeAssert_lacksB Tryz.underlying269 b0 b0 v 79 w
theorem aKM(v:Value)(w:World):(Instr.typeAssert (.iface 30 v) 79 272 true).run Tryz.prog w=.ok (.tuple #[.nilIface,.bool false]) w:=run_typeAssert_lacksB Tryz.underlying272 b0 b0 v 79 w
theorem aHU(v:Value)(w:World):(Instr.typeAssert (.iface 30 v) 79 273 true).run Tryz.prog w=.ok (.tuple #[.nilIface,.bool false]) w:=run_typeAssert_lacksB Tryz.underlying273 b0 b0 v 79 w
theorem aE6(v:Value)(w:World):(Instr.typeAssert (.iface 118 v) 79 272 true).run Tryz.prog w=.ok (.tuple #[.iface 118 v,.bool true]) w:=run_typeAssert_hasB Tryz.underlying272 b0 v 79 w
theorem aVV(v:Value)(w:World):(Instr.typeAssert (.iface 118 v) 79 276 true).run Tryz.prog w=.ok (.tuple #[.nilIface,.bool false]) w:=run_typeAssert_lacksB Tryz.underlying276 b0 b0 v 79 w
theorem aRI(fb:Nat)(e:Int)(w:World):(binOp .eql 79 (.iface 118 (ptr fb)) (.iface 30 (i64 e))).run Tryz.prog w=.ok (.bool false) w:=by kernel_rfl
theorem eq30(e:Int)(w:World):(binOp .eql 79 (.iface 30 (i64 e)) (.iface 30 (i64 e))).run Tryz.prog w=.ok (.bool true) w:=by
 have h:(binOp .eql 79 (.iface 30 (i64 e)) (.iface 30 (i64 e))).run Tryz.prog w=.ok (.bool (decide (e=e))) w:=by kernel_rfl
 rw[h];simp
end Go.Proofs
end
section
attribute [local irreducible] Go.SL.T Go.SL.OL Go.SL.D Go.SL.DL Go.SL.Ev Go.SL.Ef Go.SL.EfS
namespace Go.Proofs
open Go Go.SL Go.Extern
theorem qL:(Tryz.f93.name=="runtime.NumGoroutine")=false:=by kernel_rfl
theorem qM:Tryz.f93.body.isNone=true:=by kernel_rfl
theorem qN:Go.Extern.findNext Tryz.f93=none:=by kernel_rfl
theorem qO:Go.Extern.find Tryz.f93=some (fun args=>ReflectliteValue.unpack (args.getD 0 (.tuple #[]))):=by kernel_rfl
theorem aLG:(Tryz.f94.name=="runtime.NumGoroutine")=false:=by kernel_rfl
theorem aLH:Tryz.f94.body.isNone=true:=by kernel_rfl
theorem aLI:Go.Extern.findNext Tryz.f94=none:=by kernel_rfl
theorem aLJ:Go.Extern.find Tryz.f94=some (ReflectliteValue.methodAny (ReflectliteValue.valueError "reflectlite.Value.Type" 0) (fun t _ _ _=>ReflectliteType.toType t)):=by kernel_rfl
theorem aGI:(Tryz.f95.name=="runtime.NumGoroutine")=false:=by kernel_rfl
theorem aGJ:Tryz.f95.body.isNone=true:=by kernel_rfl
theorem aGK:Go.Extern.findNext Tryz.f95=none:=by kernel_rfl
theorem aGL:Go.Extern.find Tryz.f95=some (ReflectliteValue.method (ReflectliteValue.valueError "reflectlite.Value.IsNil" 0) ReflectliteValue.isNil):=by kernel_rfl
theorem sX:(Tryz.f97.name=="runtime.NumGoroutine")=false:=by kernel_rfl
theorem sY:Tryz.f97.body.isNone=true:=by kernel_rfl
theorem sZ:Go.Extern.findNext Tryz.f97=none:=by kernel_rfl
theorem s5:Go.Extern.find Tryz.f97=some ReflectliteType.typeOf:=by kernel_rfl
theorem aML:(Tryz.f156.name=="runtime.NumGoroutine")=false:=by kernel_rfl
theorem aMM:Tryz.f156.body.isNone=true:=by kernel_rfl
theorem aMN:Go.Extern.findNext Tryz.f156=none:=by kernel_rfl
theorem aMO:Go.Extern.find Tryz.f156=some (ReflectliteValue.method (ReflectliteValue.valueError "reflectlite.Value.Elem" 0) ReflectliteValue.elem):=by kernel_rfl
theorem aX8:(Tryz.f157.name=="runtime.NumGoroutine")=false:=by kernel_rfl
theorem aX9:Tryz.f157.body.isNone=true:=by kernel_rfl
theorem aYA:Go.Extern.findNext Tryz.f157=none:=by kernel_rfl
theorem aYB:Go.Extern.find Tryz.f157=some ReflectliteValue.set:=by kernel_rfl
theorem yG:(Tryz.f396.name=="runtime.NumGoroutine")=false:=by kernel_rfl
theorem yH:Tryz.f396.body.isNone=true:=by kernel_rfl
theorem yI:Go.Extern.findNext Tryz.f396=none:=by kernel_rfl
theorem yJ:Go.Extern.find Tryz.f396=some (ReflectliteType.abiMethod fun t=>do pure (.int .u8 (←Rtype.kind t))):=by kernel_rfl
theorem aB2:(Tryz.f414.name=="runtime.NumGoroutine")=false:=by kernel_rfl
theorem aB3:Tryz.f414.body.isNone=true:=by kernel_rfl
theorem aB4:Go.Extern.findNext Tryz.f414=none:=by kernel_rfl
theorem aB5:Go.Extern.find Tryz.f414=some (ReflectliteType.relation "AssignableTo" ReflectliteType.assignableTo):=by kernel_rfl
theorem aUQ:(Tryz.f415.name=="runtime.NumGoroutine")=false:=by kernel_rfl
theorem aUR:Tryz.f415.body.isNone=true:=by kernel_rfl
theorem aUS:Go.Extern.findNext Tryz.f415=none:=by kernel_rfl
theorem aUT:Go.Extern.find Tryz.f415=some (ReflectliteType.method fun t=>do Rtype.noPackHeld "Comparable" t;pure (.bool (←typeInfo t).comparable)):=by kernel_rfl
theorem aGE:(Tryz.f416.name=="runtime.NumGoroutine")=false:=by kernel_rfl
theorem aGF:Tryz.f416.body.isNone=true:=by kernel_rfl
theorem aGG:Go.Extern.findNext Tryz.f416=none:=by kernel_rfl
theorem aGH:Go.Extern.find Tryz.f416=some (ReflectliteType.method ReflectliteType.elem):=by kernel_rfl
theorem aLC:(Tryz.f417.name=="runtime.NumGoroutine")=false:=by kernel_rfl
theorem aLD:Tryz.f417.body.isNone=true:=by kernel_rfl
theorem aLE:Go.Extern.findNext Tryz.f417=none:=by kernel_rfl
theorem aLF:Go.Extern.find Tryz.f417=some (ReflectliteType.relation "Implements" ReflectliteType.implements_):=by kernel_rfl
def ErrT(K:Hl):Prop:=∃T fz,K 0=some (aU [.iface 265 (.agg #[hd 79])] T fz)
theorem ErrT.mono{K K':Hl}(h:ErrT K)(le:K.le K'):ErrT K':=let ⟨T,fz,h⟩:=h;⟨T,fz,le _ _ h⟩
theorem oD{w0 w:World}{F K:Hl}{L:List Asn}{b:Nat}{v:Value}{T:TypeId}(i:In w0 F K L w)(h:Hs (pt b (aU [v] T)) L):w.cell? ⟨b,0,none⟩=some v∧w.frozen? ⟨b,0,none⟩=false:=by
 have:=(Sees.own (K:=K) h).at i;exact⟨kZ this rfl,by simp[World.frozen?,this]⟩
theorem aAO{w0 w:World}{F K:Hl}{L L':List Asn}{b:Nat}{v v':Value}{T:TypeId}(i:In w0 F K L w)(hT:Fnd (pt b (aU [v] T)) (pt b (aU [v'] T)) L L'):In w0 F K L' (w.setCell ⟨b,0,none⟩ v'):=by
 have hb:=i.mem hT;have hlt:b < w.heap.size:=(Array.getElem?_eq_some_iff.1 hb).1;have e:w.setCell ⟨b,0,none⟩ v'={w with heap:=(w.setCell ⟨b,0,none⟩ v').heap}:=by
  unfold World.setCell;rfl
 rw[e];refine i.writeAt hT (by simp[World.setCell]) ?_ ?_
 ·show (w.heap.modify b _)[b]?=_
  rw[Array.getElem?_modify,if_pos rfl,hb];rfl
 ·intro x hx;exact RowKit.Below.heap_setCell w ⟨b,0,none⟩ v' x hx
theorem aQD(e:Nat)(t bv:Nat)(old:Value)(K:Hl):Sp Tryz.prog 96 [.iface 118 (ptr e),.iface 120 (ptr t),.agg #[hd 120,ptr bv,.int .u64 150],.iface 265 (.agg #[hd 118])] K [pt bv (aU [ptr t] 120),pt t (aU [old] 118)] (Ret fun r K' L'=>r=.bool true∧K'=K∧L'=[pt t (aU [(ptr e)] 118)]):=by
 refine aZ Tryz.func96 rfl Tryz.ntmps96 rfl rfl fun F w=>?_
 refine zz3 ?_;rintro _ K _ ⟨b6,rfl,rfl,rfl⟩ -;refine zz4 ?_;refine d6 (fun(u:Unit)=>True) (fun _=>[(0,.iface 118 (ptr e)),(1,.iface 120 (ptr t)),(3,.iface 265 (.agg #[hd 118])),(6,ptr b6)]) (fun _=>K) (fun _=>[pt b6 (aU [hd 120,ptr bv,.int .u64 150] 188),pt bv (aU [ptr t] 120),pt t (aU [old] 118)]) (fun _=>0) () trivial (.cons 0 rfl (.cons 1 rfl (.cons 3 rfl (.cons 6 rfl .nil)))) rfl (fun _ h=>h) ?_;intro _ _;refine zz5 ?_;refine aA (kL rfl rfl Tryz.func97 sX sY sZ s5 (fun w _=>aP4 _ w)) rfl ?_;refine zz1 ?_;refine aA (eK rfl rfl (lE _) Tryz.func414 aB2 aB3 aB4 aB5 (fun w _=>aB6 w)) rfl ?_;refine zz6 ?_;refine aA (kL rfl rfl Tryz.func156 aML aMM aMN aMO (fun w j=>aRG _ _ w (oD j (.there .here)).1)) rfl ?_;refine zz1 ?_;refine ol_s (yW (N:=fun v K' L'=>∃bn,v=.agg #[hd 118,ptr bn,.int .u64 150]∧K'=K∧L'=[pt bn (aU [(ptr e)] 118),pt b6 (aU [hd 120,ptr bv,.int .u64 150] 188),pt bv (aU [ptr t] 120),pt t (aU [old] 118)]) rfl rfl Tryz.func93 qL qM qN qO (fun w j=>⟨_,_,K,_,aK9 e w,⟨_,rfl,rfl,rfl⟩,Hl.le_refl _,j.alloc _⟩)) rfl ?_;rintro _ K _ ⟨bn,rfl,rfl,rfl⟩ -;refine ol_s (yW (N:=fun v K' L'=>v=.tuple #[]∧K'=K∧L'=[pt bn (aU [(ptr e)] 118),pt b6 (aU [hd 120,ptr bv,.int .u64 150] 188),pt bv (aU [ptr t] 120),pt t (aU [(ptr e)] 118)]) rfl rfl Tryz.func157 aX8 aX9 aYA aYB (fun w j=>⟨_,_,K,_,aZI ⟨t,0,none⟩ ⟨bn,0,none⟩ e old w (oD j .here).1 (oD j (.there (.there (.there .here)))).1 (oD j (.there (.there (.there .here)))).2,⟨rfl,rfl,rfl⟩,Hl.le_refl _,aAO j (.there (.there (.there .here)))⟩)) rfl ?_;rintro _ K _ ⟨rfl,rfl,rfl⟩ -;refine zz12 ?_;refine aO (.cons (.there (.there (.there .here))) .nil) ?_;refine zz1 ?_;exact⟨_,rfl,rfl,rfl,rfl⟩
theorem aUY(e:Int)(t bv:Nat)(old:Value)(K:Hl):Sp Tryz.prog 96 [.iface 30 (i64 e),.iface 124 (ptr t),.agg #[hd 124,ptr bv,.int .u64 150],.iface 265 (.agg #[hd 30])] K [pt bv (aU [ptr t] 124),pt t (aU [old] 30)] (Ret fun r K' L'=>r=.bool true∧K'=K∧L'=[pt t (aU [(i64 e)] 30)]):=by
 refine aZ Tryz.func96 rfl Tryz.ntmps96 rfl rfl fun F w=>?_
 refine zz3 ?_;rintro _ K _ ⟨b6,rfl,rfl,rfl⟩ -;refine zz4 ?_;refine d6 (fun(u:Unit)=>True) (fun _=>[(0,.iface 30 (i64 e)),(1,.iface 124 (ptr t)),(3,.iface 265 (.agg #[hd 30])),(6,ptr b6)]) (fun _=>K) (fun _=>[pt b6 (aU [hd 124,ptr bv,.int .u64 150] 188),pt bv (aU [ptr t] 124),pt t (aU [old] 30)]) (fun _=>0) () trivial (.cons 0 rfl (.cons 1 rfl (.cons 3 rfl (.cons 6 rfl .nil)))) rfl (fun _ h=>h) ?_;intro _ _;refine zz5 ?_;refine aA (kL rfl rfl Tryz.func97 sX sY sZ s5 (fun w _=>wU _ w)) rfl ?_;refine zz1 ?_;refine aA (eK rfl rfl (lE _) Tryz.func414 aB2 aB3 aB4 aB5 (fun w _=>aEH w)) rfl ?_;refine zz6 ?_;refine aA (kL rfl rfl Tryz.func156 aML aMM aMN aMO (fun w j=>aRH _ _ w (oD j (.there .here)).1)) rfl ?_;refine zz1 ?_;refine ol_s (yW (N:=fun v K' L'=>∃bn,v=.agg #[hd 30,ptr bn,.int .u64 130]∧K'=K∧L'=[pt bn (aU [(i64 e)] 30),pt b6 (aU [hd 124,ptr bv,.int .u64 150] 188),pt bv (aU [ptr t] 124),pt t (aU [old] 30)]) rfl rfl Tryz.func93 qL qM qN qO (fun w j=>⟨_,_,K,_,aP7 e w,⟨_,rfl,rfl,rfl⟩,Hl.le_refl _,j.alloc _⟩)) rfl ?_;rintro _ K _ ⟨bn,rfl,rfl,rfl⟩ -;refine ol_s (yW (N:=fun v K' L'=>v=.tuple #[]∧K'=K∧L'=[pt bn (aU [(i64 e)] 30),pt b6 (aU [hd 124,ptr bv,.int .u64 150] 188),pt bv (aU [ptr t] 124),pt t (aU [(i64 e)] 30)]) rfl rfl Tryz.func157 aX8 aX9 aYA aYB (fun w j=>⟨_,_,K,_,bAY ⟨t,0,none⟩ ⟨bn,0,none⟩ e old w (oD j .here).1 (oD j (.there (.there (.there .here)))).1 (oD j (.there (.there (.there .here)))).2,⟨rfl,rfl,rfl⟩,Hl.le_refl _,aAO j (.there (.there (.there .here)))⟩)) rfl ?_;rintro _ K _ ⟨rfl,rfl,rfl⟩ -;refine zz12 ?_;refine aO (.cons (.there (.there (.there .here))) .nil) ?_;refine zz1 ?_;exact⟨_,rfl,rfl,rfl,rfl⟩
theorem aYH(e:Int)(t bv:Nat)(old:Value)(K:Hl):Sp Tryz.prog 96 [.iface 30 (i64 e),.iface 120 (ptr t),.agg #[hd 120,ptr bv,.int .u64 150],.iface 265 (.agg #[hd 118])] K [pt bv (aU [ptr t] 120),pt t (aU [old] 118)] (Ret fun r K' L'=>r=.bool false∧K'=K∧L'=[pt t (aU [old] 118)]):=by
 refine aZ Tryz.func96 rfl Tryz.ntmps96 rfl rfl fun F w=>?_
 refine zz3 ?_;rintro _ K _ ⟨b6,rfl,rfl,rfl⟩ -;refine zz4 ?_;refine d6 (fun(u:Unit)=>True) (fun _=>[(0,.iface 30 (i64 e)),(1,.iface 120 (ptr t)),(3,.iface 265 (.agg #[hd 118])),(6,ptr b6)]) (fun _=>K) (fun _=>[pt b6 (aU [hd 120,ptr bv,.int .u64 150] 188),pt bv (aU [ptr t] 120),pt t (aU [old] 118)]) (fun _=>0) () trivial (.cons 0 rfl (.cons 1 rfl (.cons 3 rfl (.cons 6 rfl .nil)))) rfl (fun _ h=>h) ?_;intro _ _;refine zz5 ?_;refine aA (kL rfl rfl Tryz.func97 sX sY sZ s5 (fun w _=>wU _ w)) rfl ?_;refine zz1 ?_;refine aA (eK rfl rfl (lE _) Tryz.func414 aB2 aB3 aB4 aB5 (fun w _=>wX w)) rfl ?_;refine zz9 ?_;refine aA (aG4 rfl (aY4 _)) rfl ?_;refine zz28 ?_;refine aA (aG4 rfl (aKM _)) rfl ?_;refine zz7 ?_;refine aA (aG4 rfl (aHU _)) rfl ?_;refine zz20 ?_;refine aO (.cons (.there (.there .here)) .nil) ?_;refine zz1 ?_;exact⟨_,rfl,rfl,rfl,rfl⟩
theorem aZ5(e:Nat)(t:Nat)(old:Value)(K:Hl)(hE:ErrT K):Sp Tryz.prog 55 [.iface 118 (ptr e),.iface 120 (ptr t)] K [pt t (aU [old] 118)] (Ret fun r K' L'=>r=.bool true∧K'=K∧L'=[pt t (aU [ptr e] 118)]):=by
 obtain⟨ET,Efz,hE⟩:=hE;refine aZ Tryz.func55 rfl Tryz.ntmps55 rfl rfl fun F w=>?_
 refine zz28 ?_;refine ol_s (yW (N:=fun v K' L'=>∃bv,v=.agg #[hd 120,ptr bv,.int .u64 150]∧K'=K∧L'=[pt bv (aU [ptr t] 120),pt t (aU [old] 118)]) rfl rfl Tryz.func93 qL qM qN qO (fun w j=>⟨_,_,K,_,aB1 t w,⟨_,rfl,rfl,rfl⟩,Hl.le_refl _,j.alloc _⟩)) rfl ?_;rintro _ K _ ⟨bv,rfl,rfl,rfl⟩ -;refine zz1 ?_;rintro _ K _ ⟨b5,rfl,rfl,rfl⟩ -;refine bR (cM jV rfl rfl rfl bB gBK (.cons (.cons (.cons .nil))) gBU) ?_;rintro _ K _ ⟨rfl,rfl⟩ -;refine zz5 ?_;refine aA (kL rfl rfl Tryz.func94 aLG aLH aLI aLJ (fun w _=>aMJ _ w)) rfl ?_;refine zz7 ?_;refine aA (eK rfl rfl (mM _) Tryz.func396 yG yH yI yJ (fun w _=>aL4 w)) rfl ?_;refine zz5 ?_;refine aA (kL rfl rfl Tryz.func95 aGI aGJ aGK aGL (fun w j=>aHH _ ⟨t,0,none⟩ w (oD j (.there .here)).1)) rfl ?_;refine zz9 ?_;refine aA (eK rfl rfl (uU _) Tryz.func416 aGE aGF aGG aGH (fun w _=>aLQ w)) rfl ?_;refine zz7 ?_;refine aA (eK rfl rfl (mM _) Tryz.func396 yG yH yI yJ (fun w _=>aL3 w)) rfl ?_;refine zz5 ?_;refine aA (aL aUE rfl (.known hE) rfl) rfl ?_;refine zz1 ?_;refine aA (eK rfl rfl (mL _) Tryz.func417 aLC aLD aLE aLF (fun w _=>tW w)) rfl ?_;refine zz1 ?_;refine aA gBN rfl ?_;refine zz12 ?_;refine aY rfl rfl (aQD e t bv old _) (.cons (.there .here) (.cons (.there .here) .nil)) rfl ?_;rintro _ K _ ⟨rfl,rfl,rfl⟩ -;refine zz4 ?_;refine uAa ?_;refine zz1 ?_;exact⟨_,rfl,rfl,rfl,rfl⟩
theorem as30(e:Int)(t:Nat)(old:Value)(K:Hl)(hE:ErrT K):Sp Tryz.prog 55 [.iface 30 (i64 e),.iface 124 (ptr t)] K [pt t (aU [old] 30)] (Ret fun r K' L'=>r=.bool true∧K'=K∧L'=[pt t (aU [i64 e] 30)]):=by
 obtain⟨ET,Efz,hE⟩:=hE;refine aZ Tryz.func55 rfl Tryz.ntmps55 rfl rfl fun F w=>?_
 refine zz28 ?_;refine ol_s (yW (N:=fun v K' L'=>∃bv,v=.agg #[hd 124,ptr bv,.int .u64 150]∧K'=K∧L'=[pt bv (aU [ptr t] 124),pt t (aU [old] 30)]) rfl rfl Tryz.func93 qL qM qN qO (fun w j=>⟨_,_,K,_,aLA t w,⟨_,rfl,rfl,rfl⟩,Hl.le_refl _,j.alloc _⟩)) rfl ?_;rintro _ K _ ⟨bv,rfl,rfl,rfl⟩ -;refine zz1 ?_;rintro _ K _ ⟨b5,rfl,rfl,rfl⟩ -;refine bR (cM jV rfl rfl rfl bB gBK (.cons (.cons (.cons .nil))) gBU) ?_;rintro _ K _ ⟨rfl,rfl⟩ -;refine zz5 ?_;refine aA (kL rfl rfl Tryz.func94 aLG aLH aLI aLJ (fun w _=>aW0 _ w)) rfl ?_;refine zz7 ?_;refine aA (eK rfl rfl (mM _) Tryz.func396 yG yH yI yJ (fun w _=>aVP w)) rfl ?_;refine zz5 ?_;refine aA (kL rfl rfl Tryz.func95 aGI aGJ aGK aGL (fun w j=>aRZ _ ⟨t,0,none⟩ w (oD j (.there .here)).1)) rfl ?_;refine zz9 ?_;refine aA (eK rfl rfl (uU _) Tryz.func416 aGE aGF aGG aGH (fun w _=>aVC w)) rfl ?_;refine zz7 ?_;refine aA (eK rfl rfl (mM _) Tryz.func396 yG yH yI yJ (fun w _=>aYY w)) rfl ?_;refine zz5 ?_;refine aA (aL aUE rfl (.known hE) rfl) rfl ?_;refine zz1 ?_;refine aA (eK rfl rfl (mL _) Tryz.func417 aLC aLD aLE aLF (fun w _=>aE7 w)) rfl ?_;refine zz1 ?_;refine aA gBN rfl ?_;refine zz12 ?_;refine aY rfl rfl (aUY e t bv old _) (.cons (.there .here) (.cons (.there .here) .nil)) rfl ?_;rintro _ K _ ⟨rfl,rfl,rfl⟩ -;refine zz4 ?_;refine uAa ?_;refine zz1 ?_;exact⟨_,rfl,rfl,rfl,rfl⟩
theorem aYG(e:Int)(t:Nat)(old:Value)(K:Hl)(hE:ErrT K):Sp Tryz.prog 55 [.iface 30 (i64 e),.iface 120 (ptr t)] K [pt t (aU [old] 118)] (Ret fun r K' L'=>r=.bool false∧K'=K∧L'=[pt t (aU [old] 118)]):=by
 obtain⟨ET,Efz,hE⟩:=hE;refine aZ Tryz.func55 rfl Tryz.ntmps55 rfl rfl fun F w=>?_
 refine zz28 ?_;refine ol_s (yW (N:=fun v K' L'=>∃bv,v=.agg #[hd 120,ptr bv,.int .u64 150]∧K'=K∧L'=[pt bv (aU [ptr t] 120),pt t (aU [old] 118)]) rfl rfl Tryz.func93 qL qM qN qO (fun w j=>⟨_,_,K,_,aB1 t w,⟨_,rfl,rfl,rfl⟩,Hl.le_refl _,j.alloc _⟩)) rfl ?_;rintro _ K _ ⟨bv,rfl,rfl,rfl⟩ -;refine zz1 ?_;rintro _ K _ ⟨b5,rfl,rfl,rfl⟩ -;refine bR (cM jV rfl rfl rfl bB gBK (.cons (.cons (.cons .nil))) gBU) ?_;rintro _ K _ ⟨rfl,rfl⟩ -;refine zz5 ?_;refine aA (kL rfl rfl Tryz.func94 aLG aLH aLI aLJ (fun w _=>aMJ _ w)) rfl ?_;refine zz7 ?_;refine aA (eK rfl rfl (mM _) Tryz.func396 yG yH yI yJ (fun w _=>aL4 w)) rfl ?_;refine zz5 ?_;refine aA (kL rfl rfl Tryz.func95 aGI aGJ aGK aGL (fun w j=>aHH _ ⟨t,0,none⟩ w (oD j (.there .here)).1)) rfl ?_;refine zz9 ?_;refine aA (eK rfl rfl (uU _) Tryz.func416 aGE aGF aGG aGH (fun w _=>aLQ w)) rfl ?_;refine zz7 ?_;refine aA (eK rfl rfl (mM _) Tryz.func396 yG yH yI yJ (fun w _=>aL3 w)) rfl ?_;refine zz5 ?_;refine aA (aL aUE rfl (.known hE) rfl) rfl ?_;refine zz1 ?_;refine aA (eK rfl rfl (mL _) Tryz.func417 aLC aLD aLE aLF (fun w _=>tW w)) rfl ?_;refine zz1 ?_;refine aA gBN rfl ?_;refine zz12 ?_;refine aY rfl rfl (aYH e t bv old _) (.cons (.there .here) (.cons (.there .here) .nil)) rfl ?_;rintro _ K _ ⟨rfl,rfl,rfl⟩ -;refine zz4 ?_;refine uAa ?_;refine zz1 ?_;exact⟨_,rfl,rfl,rfl,rfl⟩
theorem xT{K:Hl}{L:List Asn}{b:Nat}{o:Obj}{A:Asn}(h:Sees K L b o):Sees K (A::L) b o:=by
 cases h with
 |own f=>exact .own (.there f)
 |known h=>exact .known h
theorem aJD(fb:Nat)(e at_:Int)(K:Hl)(L:List Asn)(hs:Sees K L fb (aU [i64 e,i64 at_] 123)):Sp Tryz.prog 407 [ptr fb] K L (Ret fun v K' L'=>v=.iface 30 (i64 e)∧K'=K∧L'=L):=by
 refine aZ Tryz.func407 rfl Tryz.ntmps407 rfl rfl fun F w=>?_
 refine zz10 ?_;refine aA (aL ts30 rfl hs rfl) rfl ?_;refine aA (dG Tryz.underlying30 (fun _ h=>by cases h) rfl) rfl ?_;refine zz5 ?_;exact⟨_,rfl,rfl,rfl,rfl⟩
theorem bAA(fb:Nat)(e at_:Int)(K:Hl)(L:List Asn)(hs:Sees K L fb (aU [i64 e,i64 at_] 123)):Sp Tryz.prog 98 [.iface 118 (ptr fb),.iface 30 (i64 e),.bool true] K L (Ret fun v K' L'=>v=.bool true∧K'=K∧L'=L):=by
 refine aZ Tryz.func98 rfl Tryz.ntmps98 rfl rfl fun F w=>?_
 refine zz6 ?_;refine d6 (fun(u:Bool)=>True) (fun u=>[(0,if u=true then .iface 118 (ptr fb)else .iface 30 (i64 e)),(1,.iface 30 (i64 e)),(2,.bool true)]) (fun _=>K) (fun _=>L) (fun u=>if u=true then 1 else 0) true trivial (.cons 0 rfl (.cons 1 rfl (.cons 2 rfl .nil))) rfl (fun _ h=>h) ?_;intro u _;refine bD ?_;cases u
 ·
  show T _ _ [(0,.iface 30 (i64 e)),(1,.iface 30 (i64 e)),(2,.bool true)] _ _ _
  refine zz10 ?_;refine aA (aJ2 rfl rfl (fun _=>rfl) (fun w=>eq30 e w)) rfl ?_;refine zz15 ?_;exact⟨_,rfl,rfl,rfl,rfl⟩
 ·
  show T _ _ [(0,.iface 118 (ptr fb)),(1,.iface 30 (i64 e)),(2,.bool true)] _ _ _
  refine zz10 ?_;refine aA (aJ2 rfl rfl (fun _=>rfl) (fun w=>aRI fb e w)) rfl ?_;refine zz10 ?_;refine aA (aG4 rfl (aVV _)) rfl ?_;refine zz28 ?_;refine aA (aG4 rfl (aE6 _)) rfl ?_;refine zz13 ?_;refine lF rfl rfl (aFG fb) (aJD fb e at_ _ _ hs) (cX _) rfl ?_;rintro _ K _ ⟨rfl,rfl,rfl⟩ -;rw[List.append_nil];refine zz13 ?_;exact cG false trivial (by decide) (.cons 0 rfl (.cons 1 rfl (.cons 2 rfl .nil))) rfl (fun _ h=>h)
end Go.Proofs
end
section
attribute [local irreducible] Go.SL.T Go.SL.OL Go.SL.D Go.SL.DL Go.SL.Ev Go.SL.Ef Go.SL.EfS
namespace Go.Proofs
open Go Go.SL Go.Extern
attribute [local semireducible] Go.SL.T Go.SL.OL Go.SL.D Go.SL.DL Go.SL.Ev Go.SL.Ef Go.SL.EfS in
theorem aLN{E:Env}{x:Exit}{fr:Fr}{K:Hl}{L:List Asn}{A:Asn}{Q:Post}(h:D E x fr K L Q):D E x fr K (A::L) Q:=fun a w f i=>h a w f i.drop
theorem is30(e:Int)(K:Hl):Sp Tryz.prog 98 [.iface 30 (i64 e),.iface 30 (i64 e),.bool true] K [] (Val (.bool true) K):=by
 refine aZ Tryz.func98 rfl Tryz.ntmps98 rfl rfl fun F w=>?_
 refine zz6 ?_;refine d6 (fun(u:Unit)=>True) (fun u=>[(0,.iface 30 (i64 e)),(1,.iface 30 (i64 e)),(2,.bool true)]) (fun _=>K) (fun _=>[]) (fun u=>0) () trivial (.cons 0 rfl (.cons 1 rfl (.cons 2 rfl .nil))) rfl (fun _ h=>h) ?_;intro u _;refine zz11 ?_;refine aA (aJ2 rfl rfl (fun _=>rfl) (fun w=>eq30 e w)) rfl ?_;refine zz15 ?_;exact⟨rfl,rfl,rfl⟩
theorem aQG(fb:Nat)(e at_:Int)(K:Hl)(L:List Asn)(hs:Sees K L fb (aU [i64 e,i64 at_] 123)):Sp Tryz.prog 56 [.iface 118 (ptr fb),.iface 30 (i64 e)] K L (Ret fun v K' L'=>v=.bool true∧K'=K∧L'=L):=by
 refine aZ Tryz.func56 rfl Tryz.ntmps56 rfl rfl fun F w=>?_
 refine zz24 ?_;refine aA (kL rfl rfl Tryz.func97 sX sY sZ s5 (fun w _=>wU _ w)) rfl ?_;refine aA (eK rfl rfl (pV _) Tryz.func415 aUQ aUR aUS aUT (fun w _=>vF w)) rfl ?_;refine zz8 ?_;refine aY rfl rfl (bAA fb e at_ _ L hs) (cX _) rfl ?_;rintro _ K _ ⟨rfl,rfl,rfl⟩ -;rw[List.append_nil];refine zz5 ?_;exact⟨_,rfl,rfl,rfl,rfl⟩
theorem aU0(e:Int)(K:Hl):Sp Tryz.prog 56 [.iface 30 (i64 e),.iface 30 (i64 e)] K [] (Val (.bool true) K):=by
 refine aZ Tryz.func56 rfl Tryz.ntmps56 rfl rfl fun F w=>?_
 refine zz24 ?_;refine aA (kL rfl rfl Tryz.func97 sX sY sZ s5 (fun w _=>wU _ w)) rfl ?_;refine aA (eK rfl rfl (pV _) Tryz.func415 aUQ aUR aUS aUT (fun w _=>vF w)) rfl ?_;refine zz8 ?_;refine cE rfl rfl (is30 e _) rfl ?_;refine zz5 ?_;exact⟨rfl,rfl,rfl⟩
theorem aI7(K:Hl):Sp Tryz.prog 37 [.nilIface] K [] (Val (.tuple #[i64 0,i64 (-1)]) K):=by
 refine aZ Tryz.func37 rfl Tryz.ntmps37 rfl rfl fun F w=>?_
 refine zz9 ?_;rintro _ K _ ⟨b4,rfl,rfl,rfl⟩ -;refine zz5 ?_;rintro _ K _ ⟨b5,rfl,rfl,rfl⟩ -;refine zz21 ?_;refine uAw ?_;refine kK rfl rfl rfl (Hl.le_refl _) ?_;exact⟨rfl,rfl,rfl⟩
theorem aMG(fb:Nat)(e at_:Int)(K:Hl)(L:List Asn)(hE:ErrT K)(hs:Sees K L fb (aU [i64 e,i64 at_] 123)):Sp Tryz.prog 37 [.iface 118 (ptr fb)] K L (Ret fun v K' L'=>v=.tuple #[i64 e,i64 at_]∧K'=K∧L'=L):=by
 have hsA:∀A:Asn,Sees K (A::L) fb (aU [i64 e,i64 at_] 123):=fun A=>xT hs
 refine aZ Tryz.func37 rfl Tryz.ntmps37 rfl rfl fun F w=>?_
 refine zz9 ?_;rintro _ K _ ⟨b4,rfl,rfl,rfl⟩ -;refine zz5 ?_;rintro _ K _ ⟨b5,rfl,rfl,rfl⟩ -;refine zz15 ?_;refine aA (dG Tryz.underlying120 (fun _ h=>by cases h) rfl) rfl ?_;refine aY rfl rfl (aZ5 fb b4 _ _ hE) (.cons (.there .here) .nil) rfl ?_;rintro _ K _ ⟨rfl,rfl,rfl⟩ -;have hs2:=xT (A:=pt b4 (aU [ptr fb] 118)) (xT (A:=pt b5 (aU [i64 0] 30)) hs);refine zz10 ?_;refine aA (aL ts30 rfl hs2 rfl) rfl ?_;refine zz1 ?_;refine aA (dG Tryz.underlying30 (fun _ h=>by cases h) rfl) rfl ?_;refine zz1 ?_;refine aY rfl rfl (aQG fb e at_ _ _ hs2) (cX _) rfl ?_;rintro _ K _ ⟨rfl,rfl,rfl⟩ -;rw[List.append_nil];refine zz6 ?_;refine t_draw (anc:=[0,1,3,7,0,16,48,112,15,511]) (ord:=[0,1,2,3,4,5,6,7,8,9]) [] [] mixed gBO (cX _) ?_;refine zz3 ?_;refine dl_ev rfl rfl (.none rfl) rfl rfl (aL ts30 rfl hs2 rfl) rfl ?_;refine zz3 ?_;refine dl_ev rfl rfl (.none rfl) rfl rfl (aL ts3 rfl hs2 rfl) rfl ?_;refine zz7 ?_;refine aLN (aLN ?_)
 refine kK rfl rfl rfl (Hl.le_refl _) ?_;exact⟨_,rfl,rfl,rfl,List.append_nil L⟩
theorem aZY(e:Int)(K:Hl)(hE:ErrT K):Sp Tryz.prog 37 [.iface 30 (i64 e)] K [] (Ret fun v K' L'=>v=.tuple #[i64 e,i64 (-1)]∧K'=K∧L'=[]):=by
 refine aZ Tryz.func37 rfl Tryz.ntmps37 rfl rfl fun F w=>?_
 refine zz9 ?_;rintro _ K _ ⟨b4,rfl,rfl,rfl⟩ -;refine zz5 ?_;rintro _ K _ ⟨b5,rfl,rfl,rfl⟩ -;refine zz15 ?_;refine aA (dG Tryz.underlying120 (fun _ h=>by cases h) rfl) rfl ?_;refine aY rfl rfl (aYG e b4 _ _ hE) (.cons (.there .here) .nil) rfl ?_;rintro _ K _ ⟨rfl,rfl,rfl⟩ -;refine zz16 ?_;refine aA (dG Tryz.underlying124 (fun _ h=>by cases h) rfl) rfl ?_;refine aY rfl rfl (as30 e b5 _ _ hE) (.cons (.there .here) .nil) rfl ?_;rintro _ K _ ⟨rfl,rfl,rfl⟩ -;refine zz6 ?_;refine aA (dG Tryz.underlying30 (fun _ h=>by cases h) rfl) rfl ?_;refine zz1 ?_;refine cE rfl rfl (aU0 e _) rfl ?_;refine zz15 ?_;refine uAw ?_;refine kK rfl rfl rfl (Hl.le_refl _) ?_;exact⟨_,rfl,rfl,rfl,rfl⟩
end Go.Proofs
end
section
namespace Go.SL
def Hl.less(k h:Hl):Hl:=fun x=>if (h x).isSome then none else k x
theorem Hl.less_le(k h:Hl):(k.less h).le k:=by
 intro x o e;unfold Hl.less at e;split at e
 ·cases e
 ·exact e
theorem Hl.less_dj(k h:Hl):h.dj (k.less h):=by
 intro x;cases e:h x with
 |none=>exact .inl rfl
 |some o=>exact .inr (by simp[Hl.less,e])
theorem Hl.le_less{K K' h:Hl}(le:K.le K')(d:K.dj h):K.le (K'.less h):=by
 intro x o e;unfold Hl.less;rcases d x with q|q
 ·rw[q]at e;cases e
 ·simp only[q,Option.isSome_none,Bool.false_eq_true,if_false];exact le x o e
theorem Hl.le_join_l{a b:Hl}:a.le (a.join b):=fun x o e=>by simp[Hl.join,e]
theorem Hl.le_join_r{a b:Hl}(d:a.dj b):b.le (a.join b):=fun x o e=>by
 rcases d x with q|q
 ·simp[Hl.join,q,e]
 ·rw[q]at e;cases e
theorem In.freeze{w0 w:World}{F K:Hl}{L1 L:List Asn}(i:In w0 F K (L1++L) w):∃h,Sat L1 h∧K.dj h∧In w0 F (K.join h) L w:=by
 obtain⟨x,hs,d1,d2,d3,l1,l2,l3⟩:=i.rep;obtain⟨a,n,ha,hn,han,rfl⟩:=fH.1 hs;have hd2:=Hl.dj_join.1 d2;have hd3:=Hl.dj_join.1 d3;exact⟨a,ha,hd3.1,i.os,i.tape,i.output,i.size,n,hn,Hl.dj_join.2 ⟨d1,hd2.1⟩,hd2.2,Hl.join_dj.2 ⟨hd3.2,han⟩,l1,Hl.join_le l2 (Hl.le_join_left l3),Hl.le_join_right han l3⟩
theorem In.thaw{w0 w:World}{F K' h:Hl}{L1 L:List Asn}(i:In w0 F K' L w)(hs1:Sat L1 h)(le:h.le K'):In w0 F (K'.less h) (L1++L) w:=by
 obtain⟨x,hs,d1,d2,d3,l1,l2,l3⟩:=i.rep;have sub:∀y,K' y=none→h y=none:=by
  intro y hy;cases e:h y with
  |none=>rfl
  |some o=>rw[le y o e]at hy;cases hy
 have hx:h.dj x:=fun y=>(d3 y).imp_left (sub y)
 have hF:F.dj h:=fun y=>(d1 y).imp_right (sub y)
 refine⟨i.os,i.tape,i.output,i.size,h.join x,fH.2 ⟨h,x,hs1,hs,hx,rfl⟩,?_,Hl.dj_join.2 ⟨hF,d2⟩,Hl.dj_join.2 ⟨(Hl.less_dj K' h).symm,?_⟩,l1,Hl.le_trans (Hl.less_le _ _) l2,Hl.join_le (Hl.le_trans le l2) l3⟩
 ·intro y;rcases d1 y with q|q
  ·exact .inl q
  ·exact .inr (by unfold Hl.less;split <;> first|rfl|exact q)
 ·intro y;rcases d3 y with q|q
  ·exact .inl (by unfold Hl.less;split <;> first|rfl|exact q)
  ·exact .inr q
theorem aWF{P:Program}{f:FuncId}{args:List Value}{K:Hl}{L1 L:List Asn}{R:Ending→List Asn→Prop}(hb:∃fn,P.funcs[f]?=some fn∧(fn.name=="runtime.NumGoroutine")=false∧fn.body.isSome=true)
  (h:∀h1,Sat L1 h1→K.dj h1→Sp P f args (K.join h1) L fun e _ L'=>R e L'):Sp P f args K (L1++L) fun e _ L'=>∃L'',R e L''∧L'=L1++L'':=
 ⟨hb, fun F w i => by
  obtain⟨h1,hs,d,i1⟩:=i.freeze;exact((h h1 hs d).2 F w i1).mono fun e w' ⟨K',L',r,le,j⟩=>⟨K'.less h1,L1++L',⟨L',r,rfl⟩,Hl.le_less (Hl.le_trans Hl.le_join_l le) d,j.thaw hs (Hl.le_trans (Hl.le_join_r d) le)⟩⟩
theorem aY1{α:Type}{z:Bool}{k:El α}{v:Value}{xs:List α}{h:Hl}(hs:sl z k v xs h):Ksl k h v xs:=by
 rcases hs with ⟨rfl,rfl,rfl⟩|⟨b,cap,junk,fz,rfl,hz,hc,hj,hf,rfl⟩
 ·exact .inl ⟨none,0,rfl,rfl⟩
 ·refine .inr ⟨b,0,cap,k.cs xs++junk,fz,rfl,⟨k.e,by simp[Hl.one]⟩,?_⟩
  rw[List.drop_zero,←k.cs_length,List.take_left]
theorem aZH{A:Asn}{L:List Asn}{h:Hl}(hh:Hs A L)(hs:Sat L h):∃a,A a∧a.le h:=by
 obtain⟨M,hM⟩:=hh.split;obtain⟨a,m,ha,hm,hd,rfl⟩:=hM h hs;exact⟨a,ha,Hl.le_join_l⟩
theorem aVR{α:Type}{z:Bool}{k:El α}{v:Value}{xs:List α}{L:List Asn}{h:Hl}(hh:Hs (sl z k v xs) L)(hs:Sat L h):Ksl k h v xs:=by
 obtain⟨a,ha,le⟩:=aZH hh hs;exact(aY1 ha).mono le
end Go.SL
end
section
namespace Go.SL
theorem aBR:∀ {o:Nat} {l cs:List Value},o+cs.length≤l.length→Spl l o cs (l.take o++cs++l.drop (o+cs.length))
 |0,l,[],h=>by simpa using Spl.nil
 |0,a::l,c::cs,h=>by
  have:=aBR (o:=0) (l:=l) (cs:=cs) (by simp at h ⊢;omega);have e:(a::l).take 0++c::cs++(a::l).drop (0+(c::cs).length)=c::(l.take 0++cs++l.drop (0+cs.length)):=by simp
  rw[e];exact .cons this
 |0,[],c::cs,h=>by simp at h
 |o+1,a::l,cs,h=>by
  have:=aBR (o:=o) (l:=l) (cs:=cs) (by simp at h;omega);have e:(a::l).take (o+1)++cs++(a::l).drop (o+1+cs.length)=a::(l.take o++cs++l.drop (o+cs.length)):=by
   have:o+1+cs.length=(o+cs.length)+1:=by omega
   rw[this];simp
  rw[e];exact .skip this
 |o+1,[],cs,h=>by simp at h
theorem aGX{α:Type}(k:El α){y:α}:∀ {xs:List α} {j:Nat} {r:List Value},j < xs.length→(k.cs xs++r).take (j*k.sz)++k.enc y++(k.cs xs++r).drop (j*k.sz+(k.enc y).length)=k.cs (xs.set j y)++r
 | [],_,_,h=>by simp at h
 |x::xs,0,r,h=>by
  simp only[Nat.zero_mul,List.take_zero,List.nil_append,Nat.zero_add,List.set_cons_zero,El.cs,List.flatMap_cons,List.append_assoc];have:(k.enc y).length=(k.enc x).length:=by rw[k.len,k.len]
  rw[this,List.drop_left]
 |x::xs,j+1,r,h=>by
  have ih:=aGX k (y:=y) (xs:=xs) (j:=j) (r:=r) (by simpa using h);have hx:=k.len x;simp only[El.cs,List.set_cons_succ,List.flatMap_cons,List.append_assoc]at ih ⊢;have e1:(j+1)*k.sz=(k.enc x).length+j*k.sz:=by rw[Nat.succ_mul,hx];omega
  have e2:(j+1)*k.sz+(k.enc y).length=(k.enc x).length+(j*k.sz+(k.enc y).length):=by rw[e1];omega
  rw[e1,List.take_append,List.take_of_length_le aH,show (k.enc x).length+j*k.sz - (k.enc x).length=j*k.sz by omega];rw[show (k.enc x).length+j*k.sz+(k.enc y).length=(k.enc x).length+(j*k.sz+(k.enc y).length) by omega,List.drop_append,List.drop_eq_nil_of_le aH,show (k.enc x).length+(j*k.sz+(k.enc y).length) - (k.enc x).length=j*k.sz+(k.enc y).length by omega];rw[List.nil_append,List.append_assoc,ih]
section
variable{E:Env}{fr:Fr}{K:Hl}{L L':List Asn}{dst:Option Tmp}{ty:TypeId}{pos:String}{aft:Array Edge}{g:Option (Nat×Bool)}{x y:Operand}{t:TypeId}{α:Type}{k:El α}{v:Value}{xs:List α}
theorem aFP{zf:Bool}{j:Nat}{y0:α}(ht:aggB E.P t k.sz=true)(hx:fr.ev x=some (lH v (j*k.sz)))(hy:fr.ev y=some (.agg (k.enc y0).toArray))(hj:j < xs.length)
  (hF:Fnd (sl zf k v xs) (sl zf k v (xs.set j y0)) L L'):EfS E fr K L ⟨dst,.store t x y,ty,pos,aft,g⟩ (fun _ K' L''=>K'=K∧L''=L'):=by
 intro a w f q;obtain⟨M,m1,m2⟩:=hF.split;rcases(q.imp m1).slCases with ⟨rfl,rfl,_⟩|⟨b,cap,junk,fz,rfl,hz,hcap,hjk,hf,q0⟩
 ·simp at hj
 ·have hx':fr.ev x=some (ptr b (j*k.sz)):=by rw[hx];simp[lH,hZ]
  have hle:j*k.sz+k.sz≤xs.length*k.sz:=by rw[←Nat.succ_mul];exact Nat.mul_le_mul_right _ hj
  have hle2:xs.length*k.sz≤cap*k.sz:=Nat.mul_le_mul_right _ hcap;obtain⟨u,w',K',L'',hr,⟨rfl,rfl⟩,le,q1⟩:=cM (K:=K) (dst:=dst) (ty:=ty) (pos:=pos) (aft:=aft) (g:=g) (l:=k.cs xs++junk) (u:=k.e) (fz:=fz) ht hx' hy (k.len y0) (.here (L:=M)) (fun c hc=>k.one y0 c hc) (aBR (by rw[List.length_append,k.cs_length,k.len];omega)) (fun i hi=>hf.at aH) a w f q0;refine⟨u,w',_,_,hr,⟨rfl,rfl⟩,le,q1.imp fun h hh=>m2 h ?_⟩
  obtain⟨aa,l,ha,hl,hd,he⟩:=hh;refine⟨aa,l,?_,hl,hd,he⟩
  rw[aGX k hj]at ha;refine .inr ⟨b,cap,junk,fz,by rw[List.length_set],?_,by rw[List.length_set];exact hcap,by rw[List.length_set];exact hjk,hf,ha⟩
  intro h1 h2;exact hz h1 gCR
end
end Go.SL
end
section
namespace Go.SL
section
variable{P:Program}{fn:Func}{n:Nat}{w0:World}{F K0 K:Hl}{fr:Fr}{L:List Asn}{R:Ending→Hl→List Asn→Prop}{t1 t2 t3 t4:Nat}{v1 v2 v3 v4:Value}
theorem aKS(h:fn.results= #[.tmp t1,.tmp t2,.tmp t3])(tmps:Array Value)(w:World)(e1:tmps.getD t1 undef=v1)(e2:tmps.getD t2 undef=v2)(e3:tmps.getD t3 undef=v3):(results fn tmps).run P w=.ok (.tuple #[v1,v2,v3]) w:=by
 have e1:tmps[t1]?.getD undef=v1:=by simpa using e1
 have e2:tmps[t2]?.getD undef=v2:=by simpa using e2
 have e3:tmps[t3]?.getD undef=v3:=by simpa using e3
 simp[results,h,e1,e2,e3,Sem.run_bind,Result.andThen]
theorem uE(hr:fn.results= #[.tmp t1,.tmp t2,.tmp t3])(h1:fr.get t1=some v1)(h2:fr.get t2=some v2)(h3:fr.get t3=some v3)(le:K0.le K)(h:R (.returned (.tuple #[v1,v2,v3])) K L):
  D ⟨P,n,[],w0,F⟩ .ret fr K L (tT P fn w0 F K0 R):=
 fun a w f i=>⟨f.defers,_,aKS hr _ _ (by simp[f.get _ _ h1]) (by simp[f.get _ _ h2]) (by simp[f.get _ _ h3]),K,L,h,le,i⟩
end
theorem aQW{E:Env}{x:Exit}{fr:Fr}{K:Hl}{L M:List Asn}{Q:Post}(h:D E x fr K L Q):D E x fr K (L++M) Q:=fun a w f i=>h a w f i.left
theorem aBN{α:Type}{z:Bool}{k:El α}{v:Value}{xs:List α}{L:List Asn}:∀h,Sat (sl z k v xs::L) h→∃a n c,v=.slice a n c:=by
 rintro h ⟨a,l,ha,_⟩;rcases ha with ⟨rfl,_⟩|⟨b,cap,junk,fz,rfl,_⟩ <;> exact⟨_,_,_,rfl⟩
end Go.SL
end
section
namespace Go.Syn
open Go.Mach
def t1:aJ:=[105,102,32,104,101,97,100,101,114,32,34,83,117,98,106,101,99,116,34,32,34,120,34,32,123,32,100,105,115,99,97,114,100,59,32,125,32,101,108,115,101,32,123,32,107,101,101,112,59,32,125]
def t2:aJ:=[105,102,32,104,101,97,100,101,114,32,58,99,111,109,112,97,114,97,116,111,114,32,34,105,59,111,99,116,101,116,34,32,34,83,117,98,106,101,99,116,34,32,34,120,34,32,123,32,100,105,115,99,97,114,100,59,32,125,32,101,108,115,101,32,123,32,114,101,100,105,114,101,99,116,32,34,97,64,98,34,59,32,125]
def tb:aJ:=[107,101,101,112,59,32,105,102,32,123,32,125]
def m1:Msg:=⟨[],[],0,[([115,117,98,106,101,99,116],[88])]⟩
def pc(s:aJ):Int×Int:=if 600 < s.length then (1,-1)else match eE s with| .ok _=>(0,-1)| .error e=>e
def sayC(r:List aJ×Tree)(m:Msg):Out:=Mach.run (decide (dN∈r.1)) (Cmp.script r.2) m
def te:Option (Int×Int)→Int×Int
 |none=>(0,-1)
 |some e=>e
def rn(s:aJ)(m:Msg):List fT×Int×Bool:=
 if 600 < s.length then ([],1,false)
 else match eE s with
  | .error e=>([],e.1,false)
  | .ok r=>((sayC r m).acts,(te (sayC r m).err).1,true)
def okB{α:Type}(r:Res α):Bool:=match r with| .ok _=>true| .error _=>false
theorem bAZ:okB (eE t1)=true:=by kernel_rfl
theorem bAN:pc t1=(0,-1):=by kernel_rfl
theorem bAO:pc tb=(4,9):=by kernel_rfl
theorem bAU:rn t1 m1=([],0,true):=by kernel_rfl
theorem bAV:rn t2 m1=([(3,[97,64,98])],0,true):=by kernel_rfl
end Go.Syn
end
section
attribute [local irreducible] Go.SL.T Go.SL.OL Go.SL.D Go.SL.DL Go.SL.Ev Go.SL.Ef Go.SL.EfS
namespace Go.Proofs
open Go Go.SL Go.Syn Go.Mach Go.Cmp
theorem ScriptAt.mono{K K':Hl}{b:Nat}{needs:List (List UInt8)}{t:Tree}(h:ScriptAt K b needs t)(le:K.le K'):ScriptAt K' b needs t:=
 let ⟨l,nv,bv,ys,fz,h1,h2,h3,h4,h5,h6,h7⟩:=h.at_
 ⟨l,nv,bv,ys,fz,le _ _ h1,h2,h3,h4.mono le,h5.mono le,h6.mono le,h7⟩
def u6(K:Hl)(b:Nat)(r:List aJ×Tree):Prop:=∃tb cv vs fz,K b=some (aU [ptr tb 6,cv] 89 fz)∧ScriptAt K tb r.1 r.2∧Ksl gR K cv vs∧RIs K vs (Cmp.script r.2)
theorem u6.mono{K K':Hl}{b:Nat}{r:List aJ×Tree}(h:u6 K b r)(le:K.le K'):u6 K' b r:=
 let ⟨tb,cv,vs,fz,h1,h2,h3,h4⟩:=h
 ⟨tb,cv,vs,fz,le _ _ h1,h2.mono le,h3.mono le,h4.mono le⟩
def aYD(s:aJ)(x y:Value)(K:Hl):Prop:=
 (600 < s.length∧x=.pointer none∧y=.iface 30 (i64 1))∨
 (s.length≤600∧∃b r,eE s=.ok r∧x=ptr b∧y=.nilIface∧u6 K b r)∨
 (s.length≤600∧∃fb e p,eE s=.error (e,p)∧x=.pointer none∧y=.iface 118 (ptr fb)∧K fb=some (aU [i64 e,i64 p] 123))
theorem aHQ(s:aJ)(K:Hl)(hg:Glob K):Sp Tryz.prog 38 [str s] K [] (Ret fun v K' L'=>∃x y,v=.tuple #[x,y]∧aYD s x y K'∧L'=[]):=by
 refine aZ Tryz.func38 rfl Tryz.ntmps38 rfl rfl fun F w=>?_
 refine zz9 ?_;refine aY rfl rfl (aKQ s _ hg) .nil rfl ?_;rintro v8 K1 _ ⟨hP,rfl⟩ le1;obtain⟨x,y,rfl,hxy⟩:∃x y,v8=.tuple #[x,y]∧((600 < s.length∧x=.pointer none∧y=.iface 30 (i64 1))∨(s.length≤600∧∃b r,eE s=.ok r∧x=ptr b 6∧y=.nilIface∧ScriptAt K1 b r.1 r.2)∨(s.length≤600∧∃fb e p,eE s=.error (e,p)∧x=.pointer none∧y=.iface 118 (ptr fb)∧K1 fb=some (aU [i64 e,i64 p] 123))):=(by rcases hP with ⟨h6,rfl⟩|⟨h6,⟨b,r,hr,rfl,hat⟩|⟨fb,e,p,hr,rfl,hfb⟩⟩;exact⟨_,_,rfl,.inl ⟨h6,rfl,rfl⟩⟩;exact⟨_,_,rfl,.inr (.inl ⟨h6,b,r,hr,rfl,rfl,hat⟩)⟩;exact⟨_,_,rfl,.inr (.inr ⟨h6,fb,e,p,hr,rfl,rfl,hfb⟩)⟩);refine zz7 ?_;rcases hxy with ⟨h6,rfl,rfl⟩|⟨h6,b,r,hr,rfl,rfl,hat⟩|⟨h6,fb,e,p,hr,rfl,rfl,hfb⟩
 ·
  refine zz17 ?_;refine uAw ?_;refine kK rfl rfl rfl le1 ?_;exact⟨_,rfl,_,_,rfl,.inl ⟨h6,rfl,rfl⟩,rfl⟩
 ·
  have hfit:=pX hr;refine zz14 ?_;refine aY rfl rfl (aIG b r.1 r.2 _ hat hfit.1 aH) .nil rfl ?_;rintro cv K2 _ ⟨vs,hvs,rfl⟩ le2;refine fL fun K3 le3 hcv=>?_
  obtain⟨ca,cn,cc,rfl⟩:=hcv.isSlice;refine aA (cR tb89 bBD (.cons rfl rfl rfl (.cons .nil) (.cons rfl rfl rfl (.skip (.cons .nil)) .nil))) rfl ?_;refine zz1 ?_;rintro _ K _ ⟨b18,rfl,rfl,rfl⟩ -;refine zz5 ?_;refine gO fun K4 le4 hb=>?_
  refine uAw ?_;refine kK rfl rfl rfl (Hl.le_trans le1 (Hl.le_trans le2 (Hl.le_trans le3 le4))) ?_;exact⟨_,rfl,_,_,rfl,.inr (.inl ⟨h6,b18,r,hr,rfl,rfl,b,_,vs,_,hb,hat.mono (Hl.le_trans le2 (Hl.le_trans le3 le4)),hcv.mono le4,hvs.mono (Hl.le_trans le3 le4)⟩),rfl⟩
 ·
  refine zz17 ?_;refine uAw ?_;refine kK rfl rfl rfl le1 ?_;exact⟨_,rfl,_,_,rfl,.inr (.inr ⟨h6,fb,e,p,hr,rfl,rfl,hfb⟩),rfl⟩
def aYE(s:aJ)(x:Value)(K:Hl):Prop:=(∃b r,s.length≤600∧eE s=.ok r∧x=ptr b∧u6 K b r)∨(x=.pointer none∧(600 < s.length∨∃e,eE s=.error e))
theorem pC(s:aJ)(K:Hl)(hg:Glob K)(hE:ErrT K):Sp Tryz.prog 19 [str s] K [] (Ret fun v K' L'=>∃x,v=.tuple #[x,i64 (pc s).1,i64 (pc s).2]∧aYE s x K'∧L'=[]):=by
 refine aZ Tryz.func19 rfl Tryz.ntmps19 rfl rfl fun F w=>?_
 refine zz10 ?_;refine aY rfl rfl (aHQ s _ hg) .nil rfl ?_;rintro _ K1 _ ⟨x,y,rfl,hP,rfl⟩ le1;refine zz7 ?_;rcases hP with ⟨h6,rfl,rfl⟩|⟨h6,b,r,hr,rfl,rfl,hat⟩|⟨h6,fb,e,p,hr,rfl,rfl,hfb⟩
 ·
  refine zz3 ?_;refine aY rfl rfl (aZY 1 _ (hE.mono le1)) .nil rfl ?_;rintro _ K _ ⟨rfl,rfl,rfl⟩ -;refine zz18 ?_;refine uAw ?_;refine uE rfl rfl rfl rfl le1 ?_;have hpc:pc s=(1,-1):=(by unfold pc;rw[if_pos h6]);exact⟨_,rfl,_,by rw[hpc],.inr ⟨rfl,.inl h6⟩,rfl⟩
 ·
  refine zz3 ?_;refine cE rfl rfl (aI7 _) rfl ?_;refine zz18 ?_;refine uAw ?_;refine uE rfl rfl rfl rfl le1 ?_;have hpc:pc s=(0,-1):=(by unfold pc;rw[if_neg aH,hr]);exact⟨_,rfl,_,by rw[hpc],.inl ⟨b,r,h6,hr,rfl,hat⟩,rfl⟩
 ·
  refine zz3 ?_;refine aY rfl rfl (aMG fb e p _ [] (hE.mono le1) (.known hfb)) .nil rfl ?_;rintro _ K _ ⟨rfl,rfl,rfl⟩ -;refine zz18 ?_;refine uAw ?_;refine uE rfl rfl rfl rfl le1 ?_;have hpc:pc s=(e,p):=(by unfold pc;rw[if_neg aH,hr]);exact⟨_,rfl,_,by rw[hpc],.inr ⟨rfl,.inr ⟨_,hr⟩⟩,rfl⟩
theorem aVK(b:Nat)(x:List UInt8)(xs:List (List UInt8))(l:List Value)(nv:Value)(fz:Nat×Nat)(K:Hl)(hb:K b=some (aU l 208 fz))(hl:l[6]?=some nv)(hv:Ksl (bC 9) K nv xs)(hn:xs.length≤1000000):
  Sp Tryz.prog 59 [ptr b 6,str x] K [] (Val (.bool (decide (x∈xs))) K):=by
 refine aZ Tryz.func59 rfl Tryz.ntmps59 rfl rfl fun F w=>?_
 refine zz10 ?_;refine aA (aL ts39 rfl (.known hb) hl) rfl ?_;refine zz1 ?_;refine aY rfl rfl (l6 nv x xs _ [] (.known hv) hn) .nil rfl ?_;rintro _ K _ ⟨rfl,rfl,rfl⟩ -;refine zz4 ?_;refine uAw ?_;refine zz1 ?_;exact⟨rfl,rfl,rfl⟩
abbrev msgV(m:Msg)(hv:Value):Value:=.agg #[str m.from_,str m.to_,i64 m.size,hv]
def aZ2(out:Out):Ending→Hl→List Asn→Prop:=Ret fun v K' L'=>∃av ev M,v=.tuple #[av,ev]∧L'=sl true dL av out.acts::M∧ErrP out.err ev M
theorem aOI(b:Nat)(r:List aJ×Tree)(s:aJ)(m:Msg)(hv:Value)(K:Hl)(hg:Glob K)(hr:eE s=.ok r)(hl:s.length≤600)(hat:u6 K b r)(hh:Ksl hdEl K hv m.hs)(hm:MsgOk m):
  Sp Tryz.prog 40 [ptr b,msgV m hv] K [] (aZ2 (sayC r m)):=by
 obtain⟨tb,cv,vs,fz,hb,hS,hcv,hvs⟩:=hat;obtain⟨l,nv,bv,ys,fz2,htb,hl6,hl7,hnv,_,_,_⟩:=hS.at_;obtain⟨ha,hn,hc,rfl⟩:=hh.isSlice;have hfit:=pX hr;have hneeds:=yU hr;have hsl:=Cmp.script_len r.2;have hins:∀o∈Cmp.script r.2,InsOk o:=fun o ho=>by
  obtain⟨q1,q2,q3,q4⟩:=Cmp.script_fit hfit.2.1 o ho;exact⟨by omega,by omega,fun x hx=>by have:=q1 x hx;omega,fun x hx=>by have:=q2 x hx;omega⟩
 refine aZ Tryz.func40 rfl Tryz.ntmps40 rfl rfl fun F w=>?_
 refine zz3 ?_;rintro _ K _ ⟨b3,rfl,rfl,rfl⟩ -;refine zz5 ?_;refine t_draw (anc:=[0,1,3,7,15,0,32,96,224,0,1023,2047,4095,4095,4095,8191,49151,131071]) (ord:=[0,1,2,3,5,6,7,8,9,4,10,11,12,13,14,15,16,17]) [4,10] [10] mixed gBO (cX _) ?_;refine zz3 ?_;refine dl_ev rfl rfl (.none rfl) rfl rfl (aL ts87 rfl (.known hb) rfl) rfl ?_;refine zz3 ?_;refine dl_ev rfl rfl (.none rfl) rfl rfl (aL ts42 rfl (.known hb) rfl) rfl ?_;refine zz1 ?_;refine dl_callv rfl (.none rfl) rfl rfl rfl rfl (aVK tb dN r.1 l nv fz2 _ htb hl6 hnv aH) rfl ?_;refine kS rfl (.none rfl) rfl rfl rfl (aTG (decide (dN∈r.1)) cv (.slice ha hn hc) vs (Cmp.script r.2) m _ hg hcv hvs hh hm hins aH) .nil rfl ?_;rintro _ K1 _ ⟨av,ev,M,rfl,rfl,hev⟩ le1;refine zz18 ?_;refine aQW (aQW ?_)
 refine kK rfl rfl rfl le1 ?_;exact⟨_,rfl,av,ev,M,rfl,rfl,hev⟩
end Go.Proofs
end
section
attribute [local irreducible] Go.SL.T Go.SL.OL Go.SL.D Go.SL.DL Go.SL.Ev Go.SL.Ef Go.SL.EfS
namespace Go.Proofs
open Go Go.SL Go.Syn Go.Mach Go.Cmp
theorem aFM(m:Msg)(hv:Value)(K:Hl)(hh:Ksl hdEl K hv m.hs)(hn:m.hs.length≤1000000):Sp Tryz.prog 34 [msgV m hv] K [] (Ret fun v K' L'=>∃a n c,v=msgV m (.slice a n c)∧K'=K∧L'=[sl false hdEl (.slice a n c) m.hs]):=by
 obtain⟨ha,hn1,hc,rfl⟩:=hh.isSlice;refine aZ Tryz.func34 rfl Tryz.ntmps34 rfl rfl fun F w=>?_
 refine zz3 ?_;rintro _ K _ ⟨b1,rfl,rfl,rfl⟩ -;refine zz1 ?_;rintro _ K _ ⟨b2,rfl,rfl,rfl⟩ -;refine zz6 ?_;refine jY (eT hdEl) ?_;refine ol_s (dT (k:=hdEl) (ys:=m.hs) aF6 rfl rfl .here (fun w j=>dK Tryz.underlying26 (SeesSl.at (k:=hdEl) (.known hh) j)) gBV gBV) rfl ?_;rintro v5 K _ ⟨rfl,rfl,ho5⟩ -;refine aVW aBN ?_;rintro⟨sa,sn,sc,rfl⟩;refine zz1 ?_;refine bR (bL ts26 rfl rfl cK bB (.succ (.succ (.succ .zero))) rfl) ?_;rintro _ K _ ⟨rfl,rfl⟩ -;refine zz5 ?_;refine bR (cM j7 rfl rfl rfl bB gBK (.cons (.cons (.cons (.cons .nil)))) gBU) ?_;rintro _ K _ ⟨rfl,rfl⟩ -;refine zz3 ?_;refine w9 rfl rfl j7 aN rfl rfl (Hl.le_refl _) (.cons .here .nil) ?_;exact⟨_,rfl,_,_,_,rfl,rfl,rfl⟩
structure TI where
 i:Nat
 xs:List (aJ×aJ)
def mine:aJ:=[109,105,110,101]
theorem aD7(m:Msg)(hv:Value)(hs:List (aJ×aJ))(K:Hl)(hn:hs.length≤1000000):Sp Tryz.prog 36 [msgV m hv] K [sl false hdEl hv hs] (Ret fun v K' L'=>v=.tuple #[]∧K'=K∧L'=[]):=by
 refine aZ Tryz.func36 rfl Tryz.ntmps36 rfl rfl fun F w=>?_
 refine aBS aBN ?_;rintro⟨sa,sn,sc,rfl⟩;refine zz3 ?_;rintro _ K _ ⟨b1,rfl,rfl,rfl⟩ -;refine zz6 ?_;refine aA (bX (k:=hdEl) rfl Tryz.underlying26 rfl aN) rfl ?_;refine zz4 ?_;refine d6 (fun(q:TI)=>q.i≤hs.length∧q.xs.length=hs.length) (fun q=>[(1,ptr b1),(5,i64 hs.length),(6,i64 q.i)]) (fun _=>K) (fun q=>[pt b1 (aU [str m.from_,str m.to_,i64 m.size,.slice sa sn sc] 28),sl false hdEl (.slice sa sn sc) q.xs]) (fun q=>hs.length - q.i) ⟨0,hs⟩ ⟨Nat.zero_le _,rfl⟩ (.cons 1 rfl (.cons 5 rfl (.cons 6 rfl .nil))) rfl (fun _ h=>h) ?_;intro ⟨i,xs⟩ ⟨hi0,hx⟩;dsimp only at hi0 hx ⊢;refine zz6 ?_;refine bG 7 rfl (fun h7=>?_) (fun h7=>?_)
 ·
  have hilt:i < xs.length:=by omega
  refine zz14 ?_;refine aA (cR tb25 aXR (.cons rfl rfl rfl (.cons .nil) (.cons rfl rfl rfl (.skip (.cons .nil)) .nil))) rfl ?_;refine aA (bQ (k:=hdEl) qI rfl aN rfl rfl gBR) rfl ?_;refine bR (aFP (k:=hdEl) (y0:=(mine,mine)) aK3 rfl rfl gBR bB) ?_;rintro _ K _ ⟨rfl,rfl⟩ -;refine zz7 ?_;exact cG ⟨i+1,xs.set i (mine,mine)⟩ ⟨by (show i+1≤hs.length);omega,by simpa using hx⟩ (by (show hs.length - (i+1) < hs.length - i);omega) (.cons 1 rfl (.cons 5 rfl (.cons 6 rfl .nil))) rfl (fun _ h=>h)
 ·
  refine zz4 ?_;refine uAw ?_;refine zz1 ?_;exact⟨_,rfl,rfl,rfl,rfl⟩
theorem aOJ(b:Nat)(r:List aJ×Tree)(s:aJ)(m:Msg)(hv:Value)(K:Hl)(hg:Glob K)(hr:eE s=.ok r)(hl:s.length≤600)(hat:u6 K b r)(hm:MsgOk m):
  Sp Tryz.prog 40 [ptr b,msgV m hv] K [sl false hdEl hv m.hs] (Ret fun v K' L'=>∃av ev M,v=.tuple #[av,ev]∧L'=sl false hdEl hv m.hs::sl true dL av (sayC r m).acts::M∧ErrP (sayC r m).err ev M):=by
 have h:=aWF (K:=K) (L1:=[sl false hdEl hv m.hs]) (L:=[]) (R:=fun e L'=>∃v,e=.returned v∧∃av ev M,v=.tuple #[av,ev]∧L'=sl true dL av (sayC r m).acts::M∧ErrP (sayC r m).err ev M) ⟨_,Tryz.func40,rfl,rfl⟩ (fun h1 hs d=>(aOI b r s m hv (K.join h1) (hg.mono Hl.le_join_l) hr hl (hat.mono Hl.le_join_l) ((aVR .here hs).mono (Hl.le_join_r d)) hm).mono fun e K' L' q=>q);refine h.mono ?_;rintro e K' L' ⟨L'',⟨v,rfl,av,ev,M,rfl,rfl,hev⟩,rfl⟩;exact⟨_,rfl,av,ev,M,rfl,rfl,hev⟩
theorem aDF(b:Nat)(r:List aJ×Tree)(s:aJ)(m:Msg)(hv:Value)(K:Hl)(hg:Glob K)(hE:ErrT K)(hr:eE s=.ok r)(hl:s.length≤600)(hat:u6 K b r)(hh:Ksl hdEl K hv m.hs)(hm:MsgOk m):
  Sp Tryz.prog 21 [ptr b,msgV m hv] K [] (Ret fun v K' L'=>∃av,v=.tuple #[av,i64 (te (sayC r m).err).1,i64 (te (sayC r m).err).2]∧L'=[sl true dL av (sayC r m).acts]):=by
 have hhn:=hm.hn;obtain⟨ha,hn,hc,rfl⟩:=hh.isSlice;refine aZ Tryz.func21 rfl Tryz.ntmps21 rfl rfl fun F w=>?_
 refine zz3 ?_;rintro _ K _ ⟨b3,rfl,rfl,rfl⟩ -;refine zz8 ?_;refine aY rfl rfl (aFM m _ _ hh hhn) .nil rfl ?_;rintro _ K _ ⟨sa,sn,sc,rfl,rfl,rfl⟩ -;refine zz1 ?_;rintro _ K _ ⟨b7,rfl,rfl,rfl⟩ -;refine bR (cM j7 rfl rfl rfl bB gBK (.cons (.cons (.cons (.cons .nil)))) gBU) ?_;rintro _ K _ ⟨rfl,rfl⟩ -;refine zz6 ?_;refine aY rfl rfl (aOJ b r s m (.slice sa sn sc) _ hg hr hl hat hm) (.cons (.there .here) .nil) rfl ?_;rintro _ K1 _ ⟨av,ev,M,rfl,rfl,hev⟩ le1;refine zz7 ?_;rcases herr:(sayC r m).err with _|⟨e,p⟩
 ·
  rw[herr]at hev;obtain⟨rfl,rfl⟩:=hev;refine zz3 ?_;refine aY rfl rfl (aD7 m (.slice sa sn sc) m.hs _ hhn) (.cons .here .nil) rfl ?_;rintro _ K1 _ ⟨rfl,rfl,rfl⟩ -;refine zz5 ?_;refine cE rfl rfl (aI7 _) rfl ?_;refine zz18 ?_;refine uAa ?_;refine uE rfl rfl rfl rfl le1 ?_;exact⟨_,rfl,av,rfl,rfl⟩
 ·
  rw[herr]at hev;obtain⟨fb,rfl,rfl⟩:=hev;refine zz3 ?_;refine aY rfl rfl (aD7 m (.slice sa sn sc) m.hs _ hhn) (.cons .here .nil) rfl ?_;rintro _ K1 _ ⟨rfl,rfl,rfl⟩ -;refine zz5 ?_;refine aY rfl rfl (aMG fb e p _ [pt fb (aU [i64 e,i64 p] 123)] (hE.mono le1) (.own .here)) (.cons (.there .here) .nil) rfl ?_;rintro _ K1 _ ⟨rfl,rfl,rfl⟩ -;refine zz18 ?_;refine uBe ?_;refine uE rfl rfl rfl rfl le1 ?_;exact⟨_,rfl,av,rfl,rfl⟩
end Go.Proofs
end
section
namespace Go.Proofs
open Go Go.SL Go.Syn Go.Mach Go.Cmp
structure CI where
 i:Nat
 v:Value
 ws:List InsV
end Go.Proofs
end
section
namespace Go.Proofs
open Go Go.SL Go.Syn Go.Mach Go.Cmp
structure PI where
 i:Nat
 ws:List InsV
structure PJ where
 k:Nat
 xs:List aJ
end Go.Proofs
end
section
attribute [local irreducible] Go.SL.T Go.SL.OL Go.SL.D Go.SL.DL Go.SL.Ev Go.SL.Ef Go.SL.EfS
namespace Go.Proofs
open Go Go.SL Go.Syn Go.Mach Go.Cmp
structure MsgSz (m:Msg):Prop where
 from_:m.from_.length≤140737488355328
 to_:m.to_.length≤140737488355328
 hn:m.hs.length≤140737488355328
 hs:∀h∈m.hs,h.1.length≤140737488355328∧h.2.length≤140737488355328
structure SI where
 i:Nat
 n:Int
theorem aIL(m:Msg)(hv:Value)(K:Hl)(hh:Ksl hdEl K hv m.hs)(hz:MsgSz m):Sp Tryz.prog 17 [msgV m hv] K [] (Ret fun v K' L'=>∃b:Bool,v=.bool b∧(b=true→MsgOk m)∧K'=K∧L'=[]):=by
 obtain⟨z1,z2,z3,z4⟩:=hz;obtain⟨ha,hn,hc,rfl⟩:=hh.isSlice;refine aZ Tryz.func17 rfl Tryz.ntmps17 rfl rfl fun F w=>?_
 refine zz3 ?_;rintro _ K _ ⟨b1,rfl,rfl,rfl⟩ -;refine zz14 ?_;refine aA (bX (k:=hdEl) rfl Tryz.underlying26 rfl aN) rfl ?_;refine zz11 ?_;refine d6 (fun(q:SI)=>q.i≤m.hs.length∧0≤q.n∧q.n≤844424930131968∧(q.n≤16384→m.from_.length≤16384∧m.to_.length≤16384∧m.hs.length≤16384∧∀j h,j < q.i→m.hs[j]?=some h→h.1.length≤16384∧h.2.length≤16384)) (fun q=>[(1,ptr b1),(3,i64 q.n),(4,i64 q.i)]) (fun _=>K) (fun _=>[pt b1 (aU [str m.from_,str m.to_,i64 m.size,.slice ha hn hc] 28)]) (fun q=>m.hs.length - q.i) ⟨0,(m.from_.length:Int)+m.to_.length+m.hs.length⟩ ⟨Nat.zero_le _,by simp only[];omega,by simp only[];omega,fun h=>⟨by simp only[]at h;omega,by simp only[]at h;omega,by simp only[]at h;omega,fun j h hj=>by simp only[]at hj;omega⟩⟩ (.cons 1 rfl (.cons 3 rfl (.cons 4 rfl .nil))) rfl (fun _ h=>h) ?_;intro ⟨i,n⟩ ⟨hi0,hn0,hn1,hn2⟩;dsimp only at hi0 hn0 hn1 hn2 ⊢;refine zz6 ?_;refine aA (bX (k:=hdEl) rfl Tryz.underlying26 rfl aN) rfl ?_;refine zz2 ?_;refine cF 21 rfl (fun g21=>?_) (fun g21=>?_)
 ·
  have hilt:i < m.hs.length:=by omega
  obtain⟨x,hx⟩:∃x,m.hs[i]?=some x:=⟨m.hs[i]'hilt,List.getElem?_eq_getElem hilt⟩;have hxz:=z4 x (List.mem_of_getElem? hx);refine zz7 ?_;refine bG 24 rfl (fun h24=>?_) (fun h24=>?_)
  ·
   refine zz4 ?_;refine t_draw (anc:=[0,0,2,0,14,30,62,126,255,0,512,0,3584,7680,15872,32256,65535,131071]) (ord:=[0,1,2,3,4,5,6,7,8,9,10,11,12,13,14,15,16,17]) [] [] mixed gBO (cX _) ?_;refine zz4 ?_;refine dl_ev rfl rfl (.none rfl) rfl rfl (bQ (k:=hdEl) qI rfl aN rfl rfl gBR) rfl ?_;refine dl_ev rfl rfl (.none rfl) rfl rfl (rK (k:=hdEl) aI1 rfl aN gBR) rfl ?_;refine dl_ev rfl rfl (.none rfl) rfl rfl (aAG (k:=hdEl) ts9 rfl aN bV rfl) rfl ?_;refine zz5 ?_;refine dl_ev rfl rfl (.none rfl) rfl rfl (bQ (k:=hdEl) qI rfl aN rfl rfl gBR) rfl ?_;refine dl_ev rfl rfl (.none rfl) rfl rfl (rK (k:=hdEl) aI2 rfl aN gBR) rfl ?_;refine dl_ev rfl rfl (.none rfl) rfl rfl (aAG (k:=hdEl) ts9 rfl aN bV rfl) rfl ?_;refine zz11 ?_;exact cG ⟨i+1,n+x.1.length+x.2.length⟩ ⟨by (show i+1≤m.hs.length);omega,by (show (0:Int)≤n+x.1.length+x.2.length);omega,by (show n+x.1.length+x.2.length≤(844424930131968:Int));omega,fun h=>by simp only[]at h;obtain⟨q1,q2,q3,q4⟩:=hn2 aH;exact⟨q1,q2,q3,fun j y hj hy=>by rcases Nat.lt_or_ge j i with h5|h5;exact q4 j y h5 hy;(obtain rfl:j=i:=(by simp only[]at hj;omega));rw[hx]at hy;cases hy;omega⟩⟩ (by (show m.hs.length - (i+1) < m.hs.length - i);omega) (.cons 1 rfl (.cons 3 rfl (.cons 4 rfl .nil))) rfl (fun _ h=>h)
  ·
   refine zz13 ?_;refine uAw ?_;refine zz1 ?_;exact⟨_,rfl,_,rfl,fun h=>absurd (of_decide_eq_true h) h24,rfl,rfl⟩
 ·
  refine zz19 ?_;refine uAw ?_;refine zz1 ?_;refine⟨_,rfl,_,rfl,fun h=>?_,rfl,rfl⟩
  obtain⟨q1,q2,q3,q4⟩:=hn2 (of_decide_eq_true h);exact⟨by omega,fun x hx=>by obtain⟨j,hj⟩:=List.getElem?_of_mem hx;have:=q4 j x (by have:=n3 hj;omega) hj;omega,by omega,by omega⟩
theorem aNG{n:Nat}{ds:List Deferred}{w0:World}{F:Hl}{fr:Fr}{K:Hl}{L:List Asn}{dst:Option Tmp}{ty t':TypeId}{pos:String}{aft:Array Edge}{g:Option (Nat×Bool)}{x y:Operand}{a c:fT}(hx:fr.ev x=some (.agg #[i64 a.1,str a.2]))(hy:fr.ev y=some (.agg #[i64 c.1,str c.2])):
  Ev ⟨Tryz.prog,n,ds,w0,F⟩ fr K L ⟨dst,.binOp .neq 34 x y t',ty,pos,aft,g⟩ (.bool (!decide (a=c))):=
 fM hx hy (fun w=>run_eqGuard_agg w _ _ _ _ _ _ Tryz.eqGuardType34) fun w=>by
  rw[run_neq_struct,aRK];rfl
theorem aKV(av bv:Value)(xs ys:List fT)(K:Hl)(hx:xs.length≤1000000)(hy:ys.length≤1000000):Sp Tryz.prog 22 [av,bv] K [sl true dL av xs,sl true dL bv ys] (Ret fun v K' L'=>v=.bool (decide (xs=ys))∧K'=K∧L'=[sl true dL av xs,sl true dL bv ys]):=by
 refine aZ Tryz.func22 rfl Tryz.ntmps22 rfl rfl fun F w=>?_
 refine zz9 ?_;refine aA (bX (k:=dL) rfl Tryz.underlying29 rfl (.own .here)) rfl ?_;refine zz1 ?_;refine aA (bX (k:=dL) rfl Tryz.underlying29 rfl (.own (.there .here))) rfl ?_;refine zz3 ?_
 first|refine bG 10 rfl (fun h10=>?_) (fun h10=>?_)|refine d8 10 rfl (fun h10=>?_) (fun h10=>?_)
 ·
  refine zz8 ?_;have hne:¬xs=ys:=(fun e=>by rw[e]at h10;exact absurd rfl h10);exact⟨_,rfl,by rw[decide_eq_false hne],rfl,rfl⟩
 ·
  have hlen:xs.length=ys.length:=by omega
  refine zz9 ?_;refine d6 (fun(i:Nat)=>i≤xs.length∧xs.take i=ys.take i) (fun i=>[(0,av),(1,bv),(5,i64 i)]) (fun _=>K) (fun _=>[sl true dL av xs,sl true dL bv ys]) (fun i=>xs.length - i) 0 ⟨Nat.zero_le _,by simp⟩ (.cons 0 rfl (.cons 1 rfl (.cons 5 rfl .nil))) rfl (fun _ h=>h) ?_;intro i ⟨hi0,hi1⟩;refine zz5 ?_;refine aA (bX (k:=dL) rfl Tryz.underlying29 rfl (.own .here)) rfl ?_;refine zz3 ?_;refine bG 14 rfl (fun h14=>?_) (fun h14=>?_)
  ·
   have hilt:i < xs.length:=by omega
   obtain⟨x,hxx⟩:∃x,xs[i]?=some x:=⟨xs[i]'hilt,List.getElem?_eq_getElem hilt⟩;obtain⟨y,hyy⟩:∃y,ys[i]?=some y:=⟨ys[i]'(by omega),List.getElem?_eq_getElem aH⟩;refine zz5 ?_;refine t_draw (anc:=[0,0,3,7,0,0,48,112,255]) (ord:=[0,1,2,3,4,5,6,7,8]) [] [] mixed gBO (cX _) ?_;refine zz2 ?_;refine dl_ev rfl rfl (.none rfl) rfl rfl (bQ (k:=dL) (j:=i) iW rfl (.own .here) rfl rfl aH) rfl ?_;refine dl_ev rfl rfl (.none rfl) rfl rfl (fF (n:=0) (k:=dL) kN rfl (.own .here) hxx) rfl ?_;refine zz2 ?_;refine dl_ev rfl rfl (.none rfl) rfl rfl (bQ (k:=dL) (j:=i) iW rfl (.own (.there .here)) rfl rfl aH) rfl ?_;refine dl_ev rfl rfl (.none rfl) rfl rfl (fF (n:=0) (k:=dL) kN rfl (.own (.there .here)) hyy) rfl ?_;refine dl_ev rfl rfl (.none rfl) rfl rfl (aNG (a:=x) (c:=y) rfl rfl) rfl ?_;refine zz2 ?_;refine d8 25 rfl (fun h25=>?_) (fun h25=>?_)
   ·
    have hxy:¬x=y:=by simpa using h25
    refine zz12 ?_;have hne:¬xs=ys:=(fun e=>by rw[e]at hxx;rw[hxx]at hyy;cases hyy;exact hxy rfl);exact⟨_,rfl,by rw[decide_eq_false hne],rfl,rfl⟩
   ·
    have hxy:x=y:=by simpa using h25
    refine zz8 ?_;exact cG (i+1) ⟨by omega,by rw[List.take_add_one,List.take_add_one,hi1,hxx,hyy,hxy]⟩ aH (.cons 0 rfl (.cons 1 rfl (.cons 5 rfl .nil))) rfl (fun _ h=>h)
  ·
   refine zz12 ?_;have he:xs=ys:=(by rw[List.take_of_length_le aH,List.take_of_length_le aH]at hi1;exact hi1);exact⟨_,rfl,by rw[decide_eq_true he],rfl,rfl⟩
theorem xK(s:aJ)(m:Msg)(hv:Value)(K:Hl)(hg:Glob K)(hE:ErrT K)(hh:Ksl hdEl K hv m.hs)(hm:MsgOk m):Sp Tryz.prog 16 [str s,msgV m hv] K [] (Ret fun v K' L'=>∃av,v=.tuple #[av,i64 (rn s m).2.1,.bool (rn s m).2.2]∧L'=[sl true dL av (rn s m).1]):=by
 have hh0:=hh;obtain⟨ha,hn,hc,rfl⟩:=hh.isSlice;refine aZ Tryz.func16 rfl Tryz.ntmps16 rfl rfl fun F w=>?_
 refine zz3 ?_;rintro _ K _ ⟨b3,rfl,rfl,rfl⟩ -;refine zz8 ?_;refine aY rfl rfl (pC s _ hg hE) .nil rfl ?_;rintro _ K1 _ ⟨x,rfl,hP,rfl⟩ le1;refine zz9 ?_;rcases hP with ⟨b,r,h6,hr,rfl,hat⟩|⟨rfl,hno⟩
 ·
  have hpc:pc s=(0,-1):=(by unfold pc;rw[if_neg aH,hr]);rw[hpc];have hrn:rn s m=((sayC r m).acts,(te (sayC r m).err).1,true):=(by unfold rn;rw[if_neg aH,hr]);refine zz13 ?_;refine bG 24 rfl (fun h24=>?_) (fun h24=>?_)
  ·
   exact absurd rfl h24
  ·
   refine zz6 ?_;refine aY rfl rfl (aDF b r s m (.slice ha hn hc) _ (hg.mono le1) (hE.mono le1) hr h6 hat (hh0.mono le1) hm) .nil rfl ?_;rintro _ K2 _ ⟨av,rfl,rfl⟩ le2;refine zz19 ?_;refine uAa ?_;refine uE rfl rfl rfl rfl (Hl.le_trans le1 le2) ?_;exact⟨_,rfl,av,by rw[hrn],by rw[hrn]⟩
 ·
  have hrn:rn s m=([],(pc s).1,false):=(by unfold rn pc;rcases hno with h|⟨e,h⟩;(rw[if_pos h,if_pos h]);(split;rfl;rw[h]));refine zz22 ?_;refine uAw ?_;refine eD (fun h hh=>uY (zf:=true) (k:=dL) hh) ?_;refine uE rfl rfl rfl rfl le1 ?_;exact⟨_,rfl,_,by rw[hrn],by rw[hrn]⟩
theorem aH0(K:Hl)(hg:Glob K)(hE:ErrT K):Sp Tryz.prog 23 [] K [] (Ret fun v K' L'=>v=.bool true∧L'=[]):=by
 have h1:=bAN;have h2:=bAO;refine aZ Tryz.func23 rfl Tryz.ntmps23 rfl rfl fun F w=>?_
 refine zz7 ?_;refine aY rfl rfl (pC t1 _ hg hE) .nil rfl ?_;rintro _ K1 _ ⟨x,rfl,hP,rfl⟩ le1;rw[h1];obtain⟨b,rfl⟩:∃b,x=ptr b:=(by rcases hP with ⟨b,_,_,_,rfl,_⟩|⟨_,hno⟩;exact⟨b,rfl⟩;(exfalso;unfold pc at h1;rcases hno with h|⟨e,h⟩;(rw[if_pos h]at h1;cases h1);(split at h1;cases h1;rw[h]at h1;simp only[]at h1;subst h1;exact absurd h (by intro h;have:=bAZ;rw[h]at this;cases this))));refine zz11 ?_;refine aY rfl rfl (pC tb _ (hg.mono le1) (hE.mono le1)) .nil rfl ?_;rintro _ K2 _ ⟨y,rfl,hP2,rfl⟩ le2;rw[h2];obtain rfl:y=.pointer none:=(by rcases hP2 with ⟨b,r,h6,hr,_,_⟩|⟨rfl,_⟩;(exfalso;unfold pc at h2;rw[if_neg aH,hr]at h2;cases h2);rfl);refine zz41 ?_;refine bJ rfl rfl (Hl.le_trans le1 le2) ?_;exact⟨_,rfl,rfl,rfl⟩
end Go.Proofs
end
section
attribute [local irreducible] Go.SL.T Go.SL.OL Go.SL.D Go.SL.DL Go.SL.Ev Go.SL.Ef Go.SL.EfS
namespace Go.Proofs
open Go Go.SL Go.Syn Go.Mach Go.Cmp
theorem aXL:MsgOk m1:=⟨by decide,by decide,by decide,by decide⟩
theorem aO1(K:Hl)(hg:Glob K)(hE:ErrT K):Sp Tryz.prog 14 [] K [] (Ret fun v K' L'=>v=.bool true∧L'=[]):=by
 have h1:=bAU;have h2:=bAV;refine aZ Tryz.func14 rfl Tryz.ntmps14 rfl rfl fun F w=>?_
 refine zz7 ?_;refine aY rfl rfl (aH0 _ hg hE) .nil rfl ?_;rintro _ K1 _ ⟨rfl,rfl⟩ le1;refine zz5 ?_;refine aA (cR tb25 aXR (.cons rfl rfl rfl (.cons .nil) (.cons rfl rfl rfl (.skip (.cons .nil)) .nil))) rfl ?_;refine ol_s (a6 (z0:=[(str []),(str [])]) qI tz25 rfl rfl rfl rfl (.cons rfl rfl rfl (.cons (.cons .nil)) .nil)) rfl ?_;rintro _ K _ ⟨b11,rfl,rfl,rfl⟩ -;refine fW fun K2 le2 hb11=>?_
 have hh:Ksl hdEl K2 (.slice (some ⟨b11,0,none⟩) 1 1) m1.hs:=.inr ⟨b11,0,1,_,_,rfl,⟨_,hb11⟩,rfl⟩;have le12:=Hl.le_trans le1 le2;refine aA (cR tb28 bA5 (.cons rfl rfl rfl (.skip (.skip (.skip (.cons .nil)))) .nil)) rfl ?_;refine zz1 ?_;rintro _ K _ ⟨b2,rfl,rfl,rfl⟩ -;refine bR (cM j7 rfl rfl rfl bB gBK (.cons (.cons (.cons (.cons .nil)))) gBU) ?_;rintro _ K _ ⟨rfl,rfl⟩ -;refine zz5 ?_;refine aY rfl rfl (xK t1 m1 _ _ (hg.mono le12) (hE.mono le12) hh aXL) .nil rfl ?_;rintro _ K3 _ ⟨av,rfl,rfl⟩ le3;rw[h1];have hh3:=hh.mono le3;have le13:=Hl.le_trans le12 le3;refine zz12 ?_;refine aY rfl rfl (xK t2 m1 _ _ (hg.mono le13) (hE.mono le13) hh3 aXL) .nil rfl ?_;rintro _ K4 _ ⟨bv,rfl,rfl⟩ le4;rw[h2];have le14:=Hl.le_trans le13 le4;refine zz36 ?_;refine aA (bX (k:=dL) rfl Tryz.underlying29 rfl (.own (.there .here))) rfl ?_;refine zz7 ?_;refine aA (bX (k:=dL) rfl Tryz.underlying29 rfl (.own .here)) rfl ?_;refine zz7 ?_;refine aA (bQ (k:=dL) (j:=0) iW rfl (.own .here) rfl rfl (by decide)) rfl ?_;refine zz1 ?_;refine aA (fF (n:=0) (k:=dL) kN rfl (.own .here) rfl) rfl ?_;refine zz1 ?_;refine aA (cR tb34 aDS (.cons rfl rfl rfl (.cons .nil) (.cons rfl rfl rfl (.skip (.cons .nil)) .nil))) rfl ?_;refine zz1 ?_;refine aA (aCW (a:=(3,[97,64,98])) (c:=(3,[97,64,98])) rfl rfl) rfl ?_;refine zz5 ?_;refine uAw ?_;refine bJ rfl rfl le14 ?_;exact⟨_,rfl,rfl,rfl⟩
theorem aLW{E:Env}{fr:Fr}{K:Hl}{L:List Asn}{dst:Option Tmp}{ty t t':TypeId}{pos:String}{aft:Array Edge}{g:Option (Nat×Bool)}{x y:Operand}{k:IntKind}{m n:Int}(hx:fr.ev x=some (.int k m))(hy:fr.ev y=some (.int k n))(h:m=n):Ev E fr K L ⟨dst,.binOp .eql t x y t',ty,pos,aft,g⟩ (.bool true):=by
 have:=bW (E:=E) (K:=K) (L:=L) (dst:=dst) (ty:=ty) (t:=t) (t':=t') (pos:=pos) (aft:=aft) (g:=g) hx hy
 rwa [decide_eq_true h]at this
theorem aNY{nm:Bool}{m:Msg}{code:List Ins}(hm:MsgOk m)(hc:∀o∈code,InsOk o):∀f st s,MInv s→(Mach.loop nm m code f st s).acts.length≤7:=by
 have fin:∀s:MS,MInv s→(if s.keep=true then s.acts++[(1,[])]else s.acts).length≤7:=by
  intro s h;have:=h.acts;split
  ·simp;omega
  ·omega
 intro f;induction f with
 |zero=>intro st s h;simp[Mach.loop]
 |succ f ih=>
  intro st s h;unfold Mach.loop;split
  ·exact fin s h
  ·rename_i o ho;split
   ·exact fin s h
   ·split
    ·simp
    ·rename_i t ht;have h2:=h.step hm (hc o (List.mem_of_getElem? ho)) ht;exact ih _ _ ⟨h2.stack,h2.acts,h2.vars,h2.parts⟩
theorem aTF{nm:Bool}{m:Msg}{code:List Ins}(hm:MsgOk m)(hc:∀o∈code,InsOk o):(Mach.run nm code m).acts.length≤7:=by
 unfold Mach.run;split
 ·simp
 ·exact aNY hm hc _ _ _ MInv.start
def vs4:List InsV:=[⟨1,1,0,false,nilC,nilC,0⟩,⟨4,1,0,false,nilC,nilC,0⟩,⟨14,0,0,false,nilC,nilC,0⟩,⟨13,0,0,false,nilC,nilC,0⟩]
theorem aYT{s:aJ}{r:List aJ×Tree}(hr:eE s=.ok r)(hl:s.length≤600):(∀o∈Cmp.script r.2,InsOk o)∧(Cmp.script r.2).length≤1000000:=by
 have hfit:=pX hr;have hsl:=Cmp.script_len r.2;refine⟨fun o ho=>?_,by omega⟩
 obtain⟨q1,q2,q3,q4⟩:=Cmp.script_fit hfit.2.1 o ho;exact⟨by omega,by omega,fun x hx=>by have:=q1 x hx;omega,fun x hx=>by have:=q2 x hx;omega⟩
end Go.Proofs
end
section
set_option maxRecDepth 100000
namespace Go
theorem mQ{H:Type}{enc:TypeId×Value→H}{a:Assume}{C:Checked}{os:Os}{f:FuncId}{fn:Func}{s:ChangeSpec}{conds:List PathCond}{apart fresh handsOn again:Bool}{X:World→Array Value→Prop}
  (hX:∀(w w':World) (args:Array Value),w.heap=w'.heap→X w args→X w' args)
  (own:ownKnob C.prog.godebug=none) (started:os.Started) (noInit:C.prog.inits.idxOf? f=none) (hfn:C.prog.funcs[f]?=some fn)
  (witness : ∃ (w : World) (tape : Tape) (i : Input), w.os = os ∧ (w.forCall tape i).Shaped C.prog ∧ i.vars = [] ∧ Input.okWide C.prog (w.forCall tape i) .any w.heap.size f i ∧
   ((s.pre enc C.prog fn conds apart (w.forCall tape i).memory i.args∧X (w.forCall tape i).memory i.args)∧sizedMet enc C.prog fn (OpenSpec.ofChange s) apart (w.forCall tape i).memory i.args)∧a.holds C.prog (lone (Frame.enter C.prog f i.args .normal) [] (w.forCall tape i)))
  (contract : ∀ (W : World) (base : Nat) (args : Array Value) (ds gs : List (DataW H)) (before : List MemPlace),
   (∀(j:Nat) t v,fn.params[j]?=some t→args[j]?=some v→Value.okWide C.prog W .any base t v)→
   DataW.Whole enc C.prog fn.params.toList s.vars apart W args.toList ds gs before→
   conds.all (PathCond.test C.prog ⟨fn.params.toList,ds,s.plain.varTypes C.prog,gs⟩)=true→
   (DataW.weightsEach C.prog (fn.params.toList++s.plain.varTypes C.prog) (ds++gs)).all (· ≤reachBytes)=true→X W args→W.ShapedOpen C.prog→
   a.holds C.prog (lone (Frame.enter C.prog f args .normal) [] W)→
   Calls C.prog f args W fun e W'=>∃v,e=.returned v∧s.post enc C.prog fn apart fresh handsOn again W args v W'):
  ReturnsInHanded a C os f .any (fun w args=>(s.pre enc C.prog fn conds apart w args∧X w args)∧sizedMet enc C.prog fn (OpenSpec.ofChange s) apart w args) (s.post enc C.prog fn apart fresh handsOn again):=by
 refine returnsInHanded_of_calls own started noInit witness ?_;intro w tape i _ hsh _ hok hpre hholds;obtain⟨_,_,_,fn',hfn',_,_,_,_,hval⟩:=hok;have e:fn'=fn:=Option.some.inj (hfn'.symm.trans hfn);subst e;obtain⟨⟨⟨ds,gs,before,hw,hc⟩,hx⟩,hz⟩:=hpre;have hw':=DataW.Whole.of_heap (w':=w.forCall tape i) (by rfl) hw;refine(contract (w.forCall tape i) w.heap.size i.args ds gs before hval hw' hc (hz.weights hw) (hX _ _ _ (by rfl) hx) hsh hholds).mono fun e W' ⟨v,he,hp⟩=>?_
 subst he;exact ChangeSpec.post_blind hp
end Go
namespace Go.Proofs
open Go Go.SL Go.Mach Go.ChangeShapes Go.WideShapes Go.RowKit
open YthopmddkpdehiaaGreatDoor (Rows.laid_math_bits_deBruijn32tab Rows.laid_math_bits_deBruijn64tab Rows.laid_internal_strconv_uint64pow10 Rows.laid_errors_errorType)
namespace TzRow
theorem own:ownKnob Tryz.prog.godebug=none:=by kernel_rfl
theorem laidOut:laidOutB Tryz.prog=true:=by kernel_rfl
abbrev laid4:List (String×DataW Unit):=[("math/bits.deBruijn32tab",YthopmddkpdehiaaGreatDoor.Rows.laid_math_bits_deBruijn32tab),("math/bits.deBruijn64tab",YthopmddkpdehiaaGreatDoor.Rows.laid_math_bits_deBruijn64tab),("internal/strconv.uint64pow10",YthopmddkpdehiaaGreatDoor.Rows.laid_internal_strconv_uint64pow10),("errors.errorType",YthopmddkpdehiaaGreatDoor.Rows.laid_errors_errorType)]
theorem gPow:Tryz.prog.globalNamed "internal/strconv.uint64pow10"=some 2:=by kernel_rfl
theorem aZ8:(Tryz.prog.globals[2]?).map (·.type)=some 475:=by kernel_rfl
theorem rt:(Tryz.prog.cutTypes.find? (·.1=="internal/reflectlite.rtype")).map (·.2)=some 265:=by kernel_rfl
theorem et:Tryz.prog.globalNamed "errors.errorType"=some 0:=by kernel_rfl
theorem aY6:((List.range Tryz.prog.types.size).filter fun t=>Tryz.prog.rowNamed t [101,114,114,111,114])=[79]:=by kernel_rfl
theorem aOM{W:World}{l:List (String×DataW Unit)}(hl:handlesMet Tryz.prog [("errors.errorType",YthopmddkpdehiaaGreatDoor.Rows.laid_errors_errorType)] W):ErrT (hp W):=by
 obtain⟨name,u,ty,e1,e2,e3,e4,e5⟩:=hl _ (List.mem_singleton.2 rfl);have en:name=[101,114,114,111,114]:=(Option.some.inj e1).symm;subst en;obtain rfl:=Option.some.inj (rt.symm.trans e2);have hm:ty∈(List.range Tryz.prog.types.size).filter fun t=>Tryz.prog.rowNamed t [101,114,114,111,114]:=List.mem_filter.2 ⟨List.mem_range.2 e3,e4⟩
 rw[aY6]at hm;obtain rfl:=List.mem_singleton.1 hm;have hh:typeHandle Tryz.prog 79=hd 79:=by kernel_rfl
 rw[hh]at e5;unfold World.var? at e5;rw[et]at e5;simp only[Option.bind_some]at e5;split at e5
 ·rename_i cs T fz hw;have:=Option.some.inj e5;subst this;exact⟨T,fz,hw⟩
 ·cases e5
theorem aZK{w w':World}{nm:String}{k:IntKind}{zs:List Int}(h:Lib.TabIs Tryz.prog w nm k zs)(le:(hp w).le (hp w')):Lib.TabIs Tryz.prog w' nm k zs:=by
 unfold Lib.TabIs World.var? at*;cases hg:Tryz.prog.globalNamed nm with
 |none=>rw[hg]at h;simp at h
 |some g=>
  rw[hg]at h;simp only[Option.bind_some]at h ⊢;split at h
  ·rename_i cs T fz hw;have:=le g _ hw;simp only[hp]at this;rw[this];exact h
  ·cases h
theorem aSL{W:World}(h:W.ShapedOpen Tryz.prog):∃m T fz,hp W 1=some (aU [i64 m] T fz):=by
 obtain⟨m,hm⟩:=cell_of_shapedOpen_int (P:=Tryz.prog) (g:=1) (t:=3) (zero:= #[.int .i64 0]) (k:=.i64) h (of_decide_eq_true b0) b0 rfl b0 b0 b0;obtain⟨cs,hh,hs,_⟩:=h.1 1 #[.int .i64 0] 3 (of_decide_eq_true b0) b0;have h1:cs.size=1:=hs;refine⟨m,3,(0,0),?_⟩
 show W.heap[1]?=_
 rw[hh];have hc:cs= #[i64 m]:=by
  have:cs[0]?=some (i64 m):=by simpa[World.cell?,hh]using hm
  obtain⟨l⟩:=cs
  match l,h1,this with
  | [c],_,this=>simp at this;rw[this]
 rw[hc]
theorem of_laid{W:World}(hL:laidMetH Tryz.prog laid4 W)(hS:W.ShapedOpen Tryz.prog):Glob (hp W)∧ErrT (hp W):=by
 have h':laidMet Tryz.prog [("math/bits.deBruijn32tab",YthopmddkpdehiaaGreatDoor.Rows.laid_math_bits_deBruijn32tab),("math/bits.deBruijn64tab",YthopmddkpdehiaaGreatDoor.Rows.laid_math_bits_deBruijn64tab),("internal/strconv.uint64pow10",YthopmddkpdehiaaGreatDoor.Rows.laid_internal_strconv_uint64pow10)] W∧handlesMet Tryz.prog [("errors.errorType",YthopmddkpdehiaaGreatDoor.Rows.laid_errors_errorType)] W:=hL;refine⟨⟨aSL hS,fun w le=>?_⟩,aOM (l:=[]) h'.2⟩
 exact aZK (Lib.tabIs_of_head (rest:=[]) gPow aZ8 Tryz.underlying475 Tryz.underlying345 b0 b0 (h'.1.tail.tail)) le
theorem door_met(os:Os)(args:Array Value):laidMetH Tryz.prog laid4 ((World.doorLaid Tryz.prog 100 os).forCall (fun _ _=>0) ⟨#[],args,[]⟩).memory:=
 laidMetH_of_parts3 (fuel:=8) (laidMet_of_run' 8 b0 b0) b0 b0
theorem door_shaped(os:Os)(args:Array Value):((World.doorLaid Tryz.prog 100 os).forCall (fun _ _=>0) ⟨#[],args,[]⟩).Shaped Tryz.prog:=
 World.shaped_of_RefB b0 b0
end TzRow
end Go.Proofs
end

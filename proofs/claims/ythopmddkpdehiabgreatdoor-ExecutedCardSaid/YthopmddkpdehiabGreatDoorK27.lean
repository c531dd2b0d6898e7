/-
  What the proof stands on, part 27: the logic of walks, the walks through the functions, the plain laws. Conditions: as each theorem says. (Merged and shortened by a program.)
-/
import Derived.Test.YthopmddkpdehiabGreatDoorK26
set_option linter.unusedVariables false
set_option linter.unusedSimpArgs false
set_option linter.defProp false
set_option maxRecDepth 4000
set_option maxHeartbeats 1000000
section
attribute [local irreducible] Go.SL.T Go.SL.OL Go.SL.D Go.SL.DL Go.SL.Ev Go.SL.Ef Go.SL.EfS
namespace Go.Proofs
open Go Go.SL Go.Syn Go.Mach
def aMN:KeyA x3 343:=⟨⟨3,Tryz.underlying343,Tryz.underlying3,by kernel_rfl,by kernel_rfl,info_of_underlying Tryz.underlying3⟩⟩
def aF4(w v k:List UInt8)(es:List EntA):Prop:=∀e∈es,gl w v k e.1.1 e.1.2=none
abbrev GlR(w v k:List UInt8)(i j:Nat)(bp md:Nat)(ps:List (List UInt8))(es:List EntA)(K:Hl):Ending→Hl→List Asn→Prop:=Ret fun r K' L'=>K'=K∧r=.bool (gl w v k i j).isSome∧∃pv es' c',aF4 w v k es'∧(∀e∈es',e∈es∨j≤e.1.2)∧L'=[pt bp (bL [pv] 43),sl false (a7 9) pv (ps++(gl w v k i j).getD []),pt md (mapA es' c')]
structure GlK (w v k:List UInt8) (bd md bp bk bv bw bm:Nat) (K:Hl):Prop where
 hd:K bd=some (bL [.map (some md)] 341)
 hk:K bk=some (bL [str k] 9)
 hv:K bv=some (bL [str v] 9)
 hw:K bw=some (bL [str w] 9)
 hm:K bm=some (bL [.func (.func 224) #[] #[ptr bd,ptr bp,ptr bk,ptr bv,ptr bw,ptr bm]] 342)
def bCO{w v k:List UInt8}{es:List EntA}{i j:Nat}(h:aF4 w v k es)(hm:(i,j)∈es.map (fun x=>x.1)):gl w v k i j=none:=by
 obtain⟨e,he,e2⟩:=xBF.1 hm;have:=h e he;rw[e2]at this;exact this
def aX3{α:Type}{f:Nat→Option α}{n e:Nat}(he:e≤n)(h:f e=none):kS f (n+1 - e) e=kS f (n+1 - (e+1)) (e+1):=by
 rw[show n+1 - e=(n+1 - (e+1))+1 from by omega];simp only[kS,h]
def aSU{α:Type}{f:Nat→Option α}{n e:Nat}{x:α}(he:e≤n)(h:f e=some x):kS f (n+1 - e) e=some x:=by
 rw[show n+1 - e=(n+1 - (e+1))+1 from by omega];simp only[kS,h]
def aBH(j:Nat):((j:Int)+1)=((j+1:Nat):Int):=by omega
def bN2(j:Nat):((j:Int)+2)=((j+2:Nat):Int):=by omega
def bF0{α:Type}{A B:Asn}{z:Bool}{k:El α}{v:Value}{xs:List α}{L:List Asn}{n:Nat}{h:Hl}(hs:Sat (A::B::sl z k v xs::L) h):(slTo v n).oneCell'=true:=by
 obtain⟨_,l,_,hl,_,_⟩:=hs;obtain⟨_,l2,_,hl2,_,_⟩:=hl;obtain⟨x,_,hx,_,_,_⟩:=hl2;rcases hx with ⟨rfl,_⟩|⟨b,cap,junk,fz,rfl,_⟩ <;> rfl
def aSW(w0 v k:List UInt8)(bd md bp bk bv bw bm:Nat)(hlw:w0.length=v.length)(hv:v.length≤1000000)(hk:k.length≤1000000):∀(n i j:Nat) (ps:List (List UInt8)) (es:List EntA) (c:Nat) (pv:Value) (K:Hl),k.length+1 - j≤n→GlK w0 v k bd md bp bk bv bw bm K→i≤v.length→j≤k.length→ps.length≤j→aF4 w0 v k es→
    Sp x3 224 [i64 i,i64 j,ptr bd,ptr bp,ptr bk,ptr bv,ptr bw,ptr bm] K [pt bp (bL [pv] 43),sl false (a7 9) pv ps,pt md (mapA es c)] (GlR w0 v k i j bp md ps es K):=by
  intro n;induction n with
  |zero=>intro i j ps es c pv K h1 h2 h3 h4;omega
  |succ n ih=>
    intro i j ps es c pv K hn hK hi hj hps hes;obtain⟨kd,kk,kv,kw,km⟩:=hK;refine bN Tryz.func224 Y Tryz.ntmps224 Y Y fun F w=>?_;refine zz9 ?_;refine aA (aX0 aMN bPQ Y Y) Y (zz1 ?_);rintro _ K _ ⟨b11,rfl,rfl,rfl⟩ -;refine cD (cX aNL Y Y Y bR gC1 (.cons (.cons .nil)) gC8) ?_;rintro _ K _ ⟨rfl,rfl⟩ -;refine zz7 ?_;refine aA (aSN Tryz.underlying341 aMN tv3 Y Y (by first|exact .own .here|exact .own (.there .here)|exact .own (.there (.there .here))|exact .own (.there (.there (.there .here)))|exact .own (.there (.there (.there (.there .here)))))) Y (zz12 ?_);refine aY 26 Y (fun h26=>?_) (fun h26=>?_)
    · refine zz7 ?_;refine aQ (aM cI (aM cI (aM cI bF))) (zz1 ?_);have hgn:=bCO hes h26;exact⟨_,Y,Y,by rw[hgn];rfl,pv,es,c,hes,fun e h=>.inl h,by rw[hgn];simp⟩
    refine zz5 ?_;refine uAc ?_;refine zz8 ?_;refine bJ3 (fun(r:Option (List (List UInt8))) (pv2:Value) (cur:List (List UInt8)) (es2:List EntA) (c2:Nat)=>gl w0 v k i j=r∧(∀qs,r=some qs→cur=ps++qs)∧(r=none→cur.take ps.length=ps∧ps.length≤cur.length)∧aF4 w0 v k es2∧(∀e∈es2,e∈es∨j+1≤e.1.2)) (fun r _ _ _ _=>[(2,ptr bd),(3,ptr bp),(11,ptr b11),(14,i64 ps.length),(15,.bool r.isSome)]) (fun _ _ _ _ _=>K) (fun r pv2 cur es2 c2=>[pt b11 (bL [i64 i,i64 j] 343),pt bp (bL [pv2] 43),sl false (a7 9) pv2 cur,pt md (mapA es2 c2)]) ?_ ?_
    · refine zz10 ?_;refine aY 44 Y (fun h44=>?_) (fun h44=>?_)
      · refine zz8 ?_
        first
          |exact gAK
          |exact gAN
          | (have hge := aGY (w := w0) hc hjl hx aH
             refine uAl ?_;rcases hq:gl w0 v k (i+1) (j+1)with _|qs
             · (rw[hq]at hge;exact dC none pv3 (ps++[((w0.take (i+1)).drop i)]++[]) es3 c3 ⟨hge,(fun qs h=>by cases h),(fun _=>⟨by simp,by simp⟩),hde3,(fun q hq2=>(hnew3 q hq2).elim (fun h=>.inl h) (fun h=>.inr h))⟩ aS Y cV)
             (rw[hq]at hge;exact dC (some (((w0.take (i+1)).drop i)::qs)) pv3 (ps++[((w0.take (i+1)).drop i)]++qs) es3 c3 ⟨hge,(fun qs2 h=>by cases h;simp),(fun h=>by cases h),hde3,(fun q hq2=>(hnew3 q hq2).elim (fun h=>.inl h) (fun h=>.inr h))⟩ aS Y cV))
          | (have hxd : x = d := xAO.1 aH
             have hge:=lL (w:=w0) hc aH hx aH hd;rw[x7 hxd]at hge;refine uAd ?_;rcases hq:gl w0 v k (i+1) (j+2)with _|qs
             · (rw[hq]at hge;exact dC none pv3 (ps++[]) es3 c3 ⟨hge,(fun qs h=>by cases h),(fun _=>⟨by simp,by simp⟩),hde3,(fun q hq2=>(hnew3 q hq2).elim (fun h=>.inl h) (fun h=>.inr aH))⟩ aS Y cV)
             (rw[hq]at hge;exact dC (some qs) pv3 (ps++qs) es3 c3 ⟨hge,(fun qs2 h=>by cases h;simp),(fun h=>by cases h),hde3,(fun q hq2=>(hnew3 q hq2).elim (fun h=>.inl h) (fun h=>.inr aH))⟩ aS Y cV))
          | (have hxd : ¬ x = d := (fun h => by subst h; omega)
             have hge:=lL (w:=w0) hc aH hx aH hd;rw[x5 hxd]at hge;exact dC none pv ps es c ⟨hge,(fun qs h=>by cases h),(fun _=>⟨xAK,xAA _⟩),hes,(fun q hq=>.inl hq)⟩ aS Y cV)
          | (have hxd : x = c1 := xAO.1 aH
             have hge:=lM (w:=w0) hc hjl hx aH aH aH;rw[x7 hxd]at hge;refine uAd ?_;rcases hq:gl w0 v k (i+1) (j+1)with _|qs
             · (rw[hq]at hge;exact dC none pv3 (ps++[]) es3 c3 ⟨hge,(fun qs h=>by cases h),(fun _=>⟨by simp,by simp⟩),hde3,(fun q hq2=>(hnew3 q hq2).elim (fun h=>.inl h) (fun h=>.inr h))⟩ aS Y cV)
             (rw[hq]at hge;exact dC (some qs) pv3 (ps++qs) es3 c3 ⟨hge,(fun qs2 h=>by cases h;simp),(fun h=>by cases h),hde3,(fun q hq2=>(hnew3 q hq2).elim (fun h=>.inl h) (fun h=>.inr h))⟩ aS Y cV))
          | (have hxd : ¬ x = c1 := (fun h => by subst h; omega)
             have hge:=lM (w:=w0) hc hjl hx aH aH aH;rw[x5 hxd]at hge;exact dC none pv ps es c ⟨hge,(fun qs h=>by cases h),(fun _=>⟨xAK,xAA _⟩),hes,(fun q hq=>.inl hq)⟩ aS Y cV)
          | (have hge := sX (w := w0) (v := v) (k := k) (i := i) (j := j) aH
             by_cases hiv:i=v.length
             · (rw[x7 hiv]at hge;rw[show decide ((i:Int)=(v.length:Int))=true from xAM aH];exact dC (some []) pv ps es c ⟨hge,(fun qs h=>by cases h;simp),(fun h=>by cases h),hes,(fun q hq=>.inl hq)⟩ aS Y cV)
             (rw[x5 hiv]at hge;rw[show decide ((i:Int)=(v.length:Int))=false from xAJ aH];exact dC none pv ps es c ⟨hge,(fun qs h=>by cases h),(fun _=>⟨xAK,xAA _⟩),hes,(fun q hq=>.inl hq)⟩ aS Y cV))
      have hjl:j < k.length:=by omega
      obtain⟨c1,hc⟩:∃c1,k[j]?=some c1:=⟨k[j]'hjl,x4 hjl⟩;refine zz9 ?_;refine aY 53 Y (fun h53=>?_) (fun h53=>?_)
      · refine zz7 ?_;refine aNE (fun(e:Nat) (r2:Option (List (List UInt8))) (pv2:Value) (cur:List (List UInt8)) (es2:List EntA) (c2:Nat) (_:Unit)=>(i≤e∧e≤v.length+1)∧(r2=none→gl w0 v k i j=kS (fun e=>(gl w0 v k e (j+1)).map fun qs=>((w0.take e).drop i)::qs) (v.length+1 - e) e)∧(∀qs,r2=some qs→gl w0 v k i j=some qs∧cur=ps++qs)∧(r2=none→cur.take ps.length=ps∧ps.length≤cur.length)∧aF4 w0 v k es2∧(∀e∈es2,e∈es∨j+1≤e.1.2)) (fun e r2 _ _ _ _ _=>[(0,i64 i),(1,i64 j),(2,ptr bd),(3,ptr bp),(4,ptr bk),(5,ptr bv),(6,ptr bw),(7,ptr bm),(11,ptr b11),(14,i64 ps.length),(15,.bool r2.isSome),(16,i64 e)]) (fun _ _ _ _ _ _ _=>K) (fun _ _ pv2 cur es2 c2 _=>[pt b11 (bL [i64 i,i64 j] 343),pt bp (bL [pv2] 43),sl false (a7 9) pv2 cur,pt md (mapA es2 c2)]) (fun e _ _ _ _ _ _=>v.length+1 - e) i none pv ps es c () ⟨⟨xAA _,by omega⟩,fun _=>bIH hc hjl aH,(fun qs h=>by cases h),(fun _=>⟨xAK,xAA _⟩),hes,(fun q hq=>.inl hq)⟩ aS Y (fun _ h=>h) ?_;intro e r2 pv2 cur es2 c2 _ ⟨hle,hln,hls,hlt,hld,hlw⟩;refine zz8 ?_;refine bV 63 Y (fun g63=>?_) (fun g63=>?_)
        · refine zz3 ?_;refine aA gC3 Y (zz3 ?_);refine d9 66 Y (fun h66=>?_) (fun h66=>?_)
          · obtain rfl:r2=none:=(by cases r2 with|none=>rfl|some q=>simp at h66);obtain⟨hct,hcl⟩:=hlt rfl;refine zz5 ?_;refine cZ (anc:=[0,0,3,0,0,0,56,120,255,511]) (ord:=[0,1,2,3,4,5,6,7,8,9]) [7,8,9] [8,9] mixed gC5 (aM cI (aM cI bF)) (zz2 ?_);refine aJ Y Y (.none Y) Y Y (nB (k:=a7 9) (m:=ps.length) cB Y (.there .here) (.there .here) Y Y hcl) Y (zz3 ?_);refine aJ Y Y (.none Y) Y Y (fW (m:=i) (n:=e) Tryz.underlying9 Y Y Y Y Y aH aH) Y ?_;refine uK Y Y (.none Y) Y Y (bM (z0:=[(str [])]) cB tz9 Y Y Y Y dF) Y ?_;rintro _ K _ ⟨b76,rfl,rfl,rfl⟩ -;refine⟨_,(show Tks _ _ _ from (aM cI (aM cI bF))).sat,?_⟩
            refine aXM Y Y (.none Y) Y (bH9 (fun h hh=>eM (gZ (m:=ps.length) hcl) h ((show Tks [_] _ _ from .cons (.there .here) .nil).sat h hh)) (dQ (k:=(a7 9)) (ys:=[((w0.take e).drop i)]) eI Y Y .here (fun w j=>dJ Tryz.underlying43 (SeesSl.at (.blk aL Y Y) j)) (by rw[hct];first|(simp;omega)|omega) (by rw[hct];first|(simp;omega)|omega))) Y ?_;rintro v77 K _ ⟨rfl,rfl,ho77⟩ -;refine mT Y Y (.none Y) Y (bX eP Y Y dA bR .zero Y) ?_;rintro _ K _ ⟨rfl,rfl⟩ -;refine zz2 ?_;rw[hct];refine zz5 ?_;rw[aBH j];refine bA Y Y (ih e (j+1) (ps++[((w0.take e).drop i)]) es2 c2 _ _ aH ⟨kd,kk,kv,kw,km⟩ aH aH (by rw[xAF];simp only[List.length_singleton];omega) hld) bS Y ?_;rintro _ K _ ⟨rfl,rfl,pv3,es3,c3,hde3,hnew3,rfl⟩ -;refine zz9 ?_;refine uAl ?_;rcases hq:gl w0 v k e (j+1)with _|qs
            · (refine mS (e+1) none pv3 (ps++[((w0.take e).drop i)]++[]) es3 c3 () ⟨⟨by omega,by omega⟩,(fun _=>by rw[hln rfl,aX3 aH (by rw[hq];rfl)]),(fun qs h=>by cases h),(fun _=>⟨by simp,by simp⟩),hde3,(fun q hq2=>(hnew3 q hq2).elim (fun h=>hlw q h) (fun h=>.inr h))⟩ aH aS Y cV)
            (refine mS (e+1) (some (((w0.take e).drop i)::qs)) pv3 (ps++[((w0.take e).drop i)]++qs) es3 c3 () ⟨⟨by omega,by omega⟩,(fun h=>by cases h),(fun qs2 h=>by cases h;exact⟨by rw[hln rfl,aSU aH (by rw[hq];rfl)],by simp⟩),(fun h=>by cases h),hde3,(fun q hq2=>(hnew3 q hq2).elim (fun h=>hlw q h) (fun h=>.inr h))⟩ aH aS Y cV)
          refine zz5 ?_
          first
            |exact gAK
            |exact gAN
            | (have hge := aGY (w := w0) hc hjl hx aH
               refine uAl ?_;rcases hq:gl w0 v k (i+1) (j+1)with _|qs
               · (rw[hq]at hge;exact dC none pv3 (ps++[((w0.take (i+1)).drop i)]++[]) es3 c3 ⟨hge,(fun qs h=>by cases h),(fun _=>⟨by simp,by simp⟩),hde3,(fun q hq2=>(hnew3 q hq2).elim (fun h=>.inl h) (fun h=>.inr h))⟩ aS Y cV)
               (rw[hq]at hge;exact dC (some (((w0.take (i+1)).drop i)::qs)) pv3 (ps++[((w0.take (i+1)).drop i)]++qs) es3 c3 ⟨hge,(fun qs2 h=>by cases h;simp),(fun h=>by cases h),hde3,(fun q hq2=>(hnew3 q hq2).elim (fun h=>.inl h) (fun h=>.inr h))⟩ aS Y cV))
            | (have hxd : x = d := xAO.1 aH
               have hge:=lL (w:=w0) hc aH hx aH hd;rw[x7 hxd]at hge;refine uAd ?_;rcases hq:gl w0 v k (i+1) (j+2)with _|qs
               · (rw[hq]at hge;exact dC none pv3 (ps++[]) es3 c3 ⟨hge,(fun qs h=>by cases h),(fun _=>⟨by simp,by simp⟩),hde3,(fun q hq2=>(hnew3 q hq2).elim (fun h=>.inl h) (fun h=>.inr aH))⟩ aS Y cV)
               (rw[hq]at hge;exact dC (some qs) pv3 (ps++qs) es3 c3 ⟨hge,(fun qs2 h=>by cases h;simp),(fun h=>by cases h),hde3,(fun q hq2=>(hnew3 q hq2).elim (fun h=>.inl h) (fun h=>.inr aH))⟩ aS Y cV))
            | (have hxd : ¬ x = d := (fun h => by subst h; omega)
               have hge:=lL (w:=w0) hc aH hx aH hd;rw[x5 hxd]at hge;exact dC none pv ps es c ⟨hge,(fun qs h=>by cases h),(fun _=>⟨xAK,xAA _⟩),hes,(fun q hq=>.inl hq)⟩ aS Y cV)
            | (have hxd : x = c1 := xAO.1 aH
               have hge:=lM (w:=w0) hc hjl hx aH aH aH;rw[x7 hxd]at hge;refine uAd ?_;rcases hq:gl w0 v k (i+1) (j+1)with _|qs
               · (rw[hq]at hge;exact dC none pv3 (ps++[]) es3 c3 ⟨hge,(fun qs h=>by cases h),(fun _=>⟨by simp,by simp⟩),hde3,(fun q hq2=>(hnew3 q hq2).elim (fun h=>.inl h) (fun h=>.inr h))⟩ aS Y cV)
               (rw[hq]at hge;exact dC (some qs) pv3 (ps++qs) es3 c3 ⟨hge,(fun qs2 h=>by cases h;simp),(fun h=>by cases h),hde3,(fun q hq2=>(hnew3 q hq2).elim (fun h=>.inl h) (fun h=>.inr h))⟩ aS Y cV))
            | (have hxd : ¬ x = c1 := (fun h => by subst h; omega)
               have hge:=lM (w:=w0) hc hjl hx aH aH aH;rw[x5 hxd]at hge;exact dC none pv ps es c ⟨hge,(fun qs h=>by cases h),(fun _=>⟨xAK,xAA _⟩),hes,(fun q hq=>.inl hq)⟩ aS Y cV)
            | (have hge := sX (w := w0) (v := v) (k := k) (i := i) (j := j) aH
               by_cases hiv:i=v.length
               · (rw[x7 hiv]at hge;rw[show decide ((i:Int)=(v.length:Int))=true from xAM aH];exact dC (some []) pv ps es c ⟨hge,(fun qs h=>by cases h;simp),(fun h=>by cases h),hes,(fun q hq=>.inl hq)⟩ aS Y cV)
               (rw[x5 hiv]at hge;rw[show decide ((i:Int)=(v.length:Int))=false from xAJ aH];exact dC none pv ps es c ⟨hge,(fun qs h=>by cases h),(fun _=>⟨xAK,xAA _⟩),hes,(fun q hq=>.inl hq)⟩ aS Y cV))
        refine zz11 ?_
        first
          |exact gAK
          |exact gAN
          | (have hge := aGY (w := w0) hc hjl hx aH
             refine uAl ?_;rcases hq:gl w0 v k (i+1) (j+1)with _|qs
             · (rw[hq]at hge;exact dC none pv3 (ps++[((w0.take (i+1)).drop i)]++[]) es3 c3 ⟨hge,(fun qs h=>by cases h),(fun _=>⟨by simp,by simp⟩),hde3,(fun q hq2=>(hnew3 q hq2).elim (fun h=>.inl h) (fun h=>.inr h))⟩ aS Y cV)
             (rw[hq]at hge;exact dC (some (((w0.take (i+1)).drop i)::qs)) pv3 (ps++[((w0.take (i+1)).drop i)]++qs) es3 c3 ⟨hge,(fun qs2 h=>by cases h;simp),(fun h=>by cases h),hde3,(fun q hq2=>(hnew3 q hq2).elim (fun h=>.inl h) (fun h=>.inr h))⟩ aS Y cV))
          | (have hxd : x = d := xAO.1 aH
             have hge:=lL (w:=w0) hc aH hx aH hd;rw[x7 hxd]at hge;refine uAd ?_;rcases hq:gl w0 v k (i+1) (j+2)with _|qs
             · (rw[hq]at hge;exact dC none pv3 (ps++[]) es3 c3 ⟨hge,(fun qs h=>by cases h),(fun _=>⟨by simp,by simp⟩),hde3,(fun q hq2=>(hnew3 q hq2).elim (fun h=>.inl h) (fun h=>.inr aH))⟩ aS Y cV)
             (rw[hq]at hge;exact dC (some qs) pv3 (ps++qs) es3 c3 ⟨hge,(fun qs2 h=>by cases h;simp),(fun h=>by cases h),hde3,(fun q hq2=>(hnew3 q hq2).elim (fun h=>.inl h) (fun h=>.inr aH))⟩ aS Y cV))
          | (have hxd : ¬ x = d := (fun h => by subst h; omega)
             have hge:=lL (w:=w0) hc aH hx aH hd;rw[x5 hxd]at hge;exact dC none pv ps es c ⟨hge,(fun qs h=>by cases h),(fun _=>⟨xAK,xAA _⟩),hes,(fun q hq=>.inl hq)⟩ aS Y cV)
          | (have hxd : x = c1 := xAO.1 aH
             have hge:=lM (w:=w0) hc hjl hx aH aH aH;rw[x7 hxd]at hge;refine uAd ?_;rcases hq:gl w0 v k (i+1) (j+1)with _|qs
             · (rw[hq]at hge;exact dC none pv3 (ps++[]) es3 c3 ⟨hge,(fun qs h=>by cases h),(fun _=>⟨by simp,by simp⟩),hde3,(fun q hq2=>(hnew3 q hq2).elim (fun h=>.inl h) (fun h=>.inr h))⟩ aS Y cV)
             (rw[hq]at hge;exact dC (some qs) pv3 (ps++qs) es3 c3 ⟨hge,(fun qs2 h=>by cases h;simp),(fun h=>by cases h),hde3,(fun q hq2=>(hnew3 q hq2).elim (fun h=>.inl h) (fun h=>.inr h))⟩ aS Y cV))
          | (have hxd : ¬ x = c1 := (fun h => by subst h; omega)
             have hge:=lM (w:=w0) hc hjl hx aH aH aH;rw[x5 hxd]at hge;exact dC none pv ps es c ⟨hge,(fun qs h=>by cases h),(fun _=>⟨xAK,xAA _⟩),hes,(fun q hq=>.inl hq)⟩ aS Y cV)
          | (have hge := sX (w := w0) (v := v) (k := k) (i := i) (j := j) aH
             by_cases hiv:i=v.length
             · (rw[x7 hiv]at hge;rw[show decide ((i:Int)=(v.length:Int))=true from xAM aH];exact dC (some []) pv ps es c ⟨hge,(fun qs h=>by cases h;simp),(fun h=>by cases h),hes,(fun q hq=>.inl hq)⟩ aS Y cV)
             (rw[x5 hiv]at hge;rw[show decide ((i:Int)=(v.length:Int))=false from xAJ aH];exact dC none pv ps es c ⟨hge,(fun qs h=>by cases h),(fun _=>⟨xAK,xAA _⟩),hes,(fun q hq=>.inl hq)⟩ aS Y cV))
      refine zz9 ?_;refine aY 83 Y (fun h83=>?_) (fun h83=>?_)
      · refine zz2 ?_
        first
          |exact gAK
          |exact gAN
          | (have hge := aGY (w := w0) hc hjl hx aH
             refine uAl ?_;rcases hq:gl w0 v k (i+1) (j+1)with _|qs
             · (rw[hq]at hge;exact dC none pv3 (ps++[((w0.take (i+1)).drop i)]++[]) es3 c3 ⟨hge,(fun qs h=>by cases h),(fun _=>⟨by simp,by simp⟩),hde3,(fun q hq2=>(hnew3 q hq2).elim (fun h=>.inl h) (fun h=>.inr h))⟩ aS Y cV)
             (rw[hq]at hge;exact dC (some (((w0.take (i+1)).drop i)::qs)) pv3 (ps++[((w0.take (i+1)).drop i)]++qs) es3 c3 ⟨hge,(fun qs2 h=>by cases h;simp),(fun h=>by cases h),hde3,(fun q hq2=>(hnew3 q hq2).elim (fun h=>.inl h) (fun h=>.inr h))⟩ aS Y cV))
          | (have hxd : x = d := xAO.1 aH
             have hge:=lL (w:=w0) hc aH hx aH hd;rw[x7 hxd]at hge;refine uAd ?_;rcases hq:gl w0 v k (i+1) (j+2)with _|qs
             · (rw[hq]at hge;exact dC none pv3 (ps++[]) es3 c3 ⟨hge,(fun qs h=>by cases h),(fun _=>⟨by simp,by simp⟩),hde3,(fun q hq2=>(hnew3 q hq2).elim (fun h=>.inl h) (fun h=>.inr aH))⟩ aS Y cV)
             (rw[hq]at hge;exact dC (some qs) pv3 (ps++qs) es3 c3 ⟨hge,(fun qs2 h=>by cases h;simp),(fun h=>by cases h),hde3,(fun q hq2=>(hnew3 q hq2).elim (fun h=>.inl h) (fun h=>.inr aH))⟩ aS Y cV))
          | (have hxd : ¬ x = d := (fun h => by subst h; omega)
             have hge:=lL (w:=w0) hc aH hx aH hd;rw[x5 hxd]at hge;exact dC none pv ps es c ⟨hge,(fun qs h=>by cases h),(fun _=>⟨xAK,xAA _⟩),hes,(fun q hq=>.inl hq)⟩ aS Y cV)
          | (have hxd : x = c1 := xAO.1 aH
             have hge:=lM (w:=w0) hc hjl hx aH aH aH;rw[x7 hxd]at hge;refine uAd ?_;rcases hq:gl w0 v k (i+1) (j+1)with _|qs
             · (rw[hq]at hge;exact dC none pv3 (ps++[]) es3 c3 ⟨hge,(fun qs h=>by cases h),(fun _=>⟨by simp,by simp⟩),hde3,(fun q hq2=>(hnew3 q hq2).elim (fun h=>.inl h) (fun h=>.inr h))⟩ aS Y cV)
             (rw[hq]at hge;exact dC (some qs) pv3 (ps++qs) es3 c3 ⟨hge,(fun qs2 h=>by cases h;simp),(fun h=>by cases h),hde3,(fun q hq2=>(hnew3 q hq2).elim (fun h=>.inl h) (fun h=>.inr h))⟩ aS Y cV))
          | (have hxd : ¬ x = c1 := (fun h => by subst h; omega)
             have hge:=lM (w:=w0) hc hjl hx aH aH aH;rw[x5 hxd]at hge;exact dC none pv ps es c ⟨hge,(fun qs h=>by cases h),(fun _=>⟨xAK,xAA _⟩),hes,(fun q hq=>.inl hq)⟩ aS Y cV)
          | (have hge := sX (w := w0) (v := v) (k := k) (i := i) (j := j) aH
             by_cases hiv:i=v.length
             · (rw[x7 hiv]at hge;rw[show decide ((i:Int)=(v.length:Int))=true from xAM aH];exact dC (some []) pv ps es c ⟨hge,(fun qs h=>by cases h;simp),(fun h=>by cases h),hes,(fun q hq=>.inl hq)⟩ aS Y cV)
             (rw[x5 hiv]at hge;rw[show decide ((i:Int)=(v.length:Int))=false from xAJ aH];exact dC none pv ps es c ⟨hge,(fun qs h=>by cases h),(fun _=>⟨xAK,xAA _⟩),hes,(fun q hq=>.inl hq)⟩ aS Y cV))
      obtain⟨x,hx⟩:∃x,v[i]?=some x:=⟨v[i]'(by omega),x4 aH⟩;refine zz9 ?_;refine aY 88 Y (fun h88=>?_) (fun h88=>?_)
      · refine aI ?_;refine cZ (anc:=[0,0,0,0,8,30,62,127,255]) (ord:=[0,1,2,3,4,5,6,7,8]) [6,7,8] [7,8] mixed gC5 (aM cI bF) (zz5 ?_);refine aJ Y Y (.none Y) Y Y (fW (m:=i) (n:=i+1) Tryz.underlying9 Y Y Y Y Y aH aH) Y ?_;refine uK Y Y (.none Y) Y Y (bM (z0:=[(str [])]) cB tz9 Y Y Y Y dF) Y ?_;rintro _ K _ ⟨b99,rfl,rfl,rfl⟩ -;refine⟨_,(show Tks _ _ _ from (aM cI bF)).sat,?_⟩
        refine aXM Y Y (.none Y) Y (dQ (k:=(a7 9)) (ys:=[((w0.take (i+1)).drop i)]) eI Y Y (.there (.there (.there .here))) (fun w j=>dJ Tryz.underlying43 (SeesSl.at (.blk aL Y Y) j)) gC9 gC9) Y ?_;rintro v100 K _ ⟨rfl,rfl,ho100⟩ -;refine mT Y Y (.none Y) Y (bX eP Y Y dA bR .zero Y) ?_;rintro _ K _ ⟨rfl,rfl⟩ -;refine zz8 ?_;rw[aBH j,aBH i];refine bA Y Y (ih (i+1) (j+1) (ps++[((w0.take (i+1)).drop i)]) es c _ _ aH ⟨kd,kk,kv,kw,km⟩ aH aH (by rw[xAF];simp only[List.length_singleton];omega) hes) bS Y ?_;rintro _ K _ ⟨rfl,rfl,pv3,es3,c3,hde3,hnew3,rfl⟩ -;refine zz3 ?_
        first
          |exact gAK
          |exact gAN
          | (have hge := aGY (w := w0) hc hjl hx aH
             refine uAl ?_;rcases hq:gl w0 v k (i+1) (j+1)with _|qs
             · (rw[hq]at hge;exact dC none pv3 (ps++[((w0.take (i+1)).drop i)]++[]) es3 c3 ⟨hge,(fun qs h=>by cases h),(fun _=>⟨by simp,by simp⟩),hde3,(fun q hq2=>(hnew3 q hq2).elim (fun h=>.inl h) (fun h=>.inr h))⟩ aS Y cV)
             (rw[hq]at hge;exact dC (some (((w0.take (i+1)).drop i)::qs)) pv3 (ps++[((w0.take (i+1)).drop i)]++qs) es3 c3 ⟨hge,(fun qs2 h=>by cases h;simp),(fun h=>by cases h),hde3,(fun q hq2=>(hnew3 q hq2).elim (fun h=>.inl h) (fun h=>.inr h))⟩ aS Y cV))
          | (have hxd : x = d := xAO.1 aH
             have hge:=lL (w:=w0) hc aH hx aH hd;rw[x7 hxd]at hge;refine uAd ?_;rcases hq:gl w0 v k (i+1) (j+2)with _|qs
             · (rw[hq]at hge;exact dC none pv3 (ps++[]) es3 c3 ⟨hge,(fun qs h=>by cases h),(fun _=>⟨by simp,by simp⟩),hde3,(fun q hq2=>(hnew3 q hq2).elim (fun h=>.inl h) (fun h=>.inr aH))⟩ aS Y cV)
             (rw[hq]at hge;exact dC (some qs) pv3 (ps++qs) es3 c3 ⟨hge,(fun qs2 h=>by cases h;simp),(fun h=>by cases h),hde3,(fun q hq2=>(hnew3 q hq2).elim (fun h=>.inl h) (fun h=>.inr aH))⟩ aS Y cV))
          | (have hxd : ¬ x = d := (fun h => by subst h; omega)
             have hge:=lL (w:=w0) hc aH hx aH hd;rw[x5 hxd]at hge;exact dC none pv ps es c ⟨hge,(fun qs h=>by cases h),(fun _=>⟨xAK,xAA _⟩),hes,(fun q hq=>.inl hq)⟩ aS Y cV)
          | (have hxd : x = c1 := xAO.1 aH
             have hge:=lM (w:=w0) hc hjl hx aH aH aH;rw[x7 hxd]at hge;refine uAd ?_;rcases hq:gl w0 v k (i+1) (j+1)with _|qs
             · (rw[hq]at hge;exact dC none pv3 (ps++[]) es3 c3 ⟨hge,(fun qs h=>by cases h),(fun _=>⟨by simp,by simp⟩),hde3,(fun q hq2=>(hnew3 q hq2).elim (fun h=>.inl h) (fun h=>.inr h))⟩ aS Y cV)
             (rw[hq]at hge;exact dC (some qs) pv3 (ps++qs) es3 c3 ⟨hge,(fun qs2 h=>by cases h;simp),(fun h=>by cases h),hde3,(fun q hq2=>(hnew3 q hq2).elim (fun h=>.inl h) (fun h=>.inr h))⟩ aS Y cV))
          | (have hxd : ¬ x = c1 := (fun h => by subst h; omega)
             have hge:=lM (w:=w0) hc hjl hx aH aH aH;rw[x5 hxd]at hge;exact dC none pv ps es c ⟨hge,(fun qs h=>by cases h),(fun _=>⟨xAK,xAA _⟩),hes,(fun q hq=>.inl hq)⟩ aS Y cV)
          | (have hge := sX (w := w0) (v := v) (k := k) (i := i) (j := j) aH
             by_cases hiv:i=v.length
             · (rw[x7 hiv]at hge;rw[show decide ((i:Int)=(v.length:Int))=true from xAM aH];exact dC (some []) pv ps es c ⟨hge,(fun qs h=>by cases h;simp),(fun h=>by cases h),hes,(fun q hq=>.inl hq)⟩ aS Y cV)
             (rw[x5 hiv]at hge;rw[show decide ((i:Int)=(v.length:Int))=false from xAJ aH];exact dC none pv ps es c ⟨hge,(fun qs h=>by cases h),(fun _=>⟨xAK,xAA _⟩),hes,(fun q hq=>.inl hq)⟩ aS Y cV))
      refine zz7 ?_;refine bV 112 Y (fun g112=>?_) (fun g112=>?_)
      · refine zz14 ?_;refine aY 107 Y (fun h107=>?_) (fun h107=>?_)
        · obtain⟨d,hd⟩:∃d,k[j+1]?=some d:=⟨k[j+1]'(by omega),x4 aH⟩;refine cZ (anc:=[0,0,3,0,0,16,56,127,255,511,511,1535,511,4607,16383,32767,65535]) (ord:=[0,1,2,3,4,5,6,7,8,9,10,11,12,13,14,15,16]) [14] [14] mixed gC5 (cQ _) (zz6 ?_);refine aJ Y Y (.none Y) Y Y (cP Tryz.underlying9 Y (j:=j+1) Y (aBH j) hd) Y (zz2 ?_);refine fC 127 Y (fun g127=>?_) (fun g127=>?_)
          · refine zz5 ?_;rw[bN2 j,aBH i];refine eQ Y (.on Y Y Y) Y Y Y (ih (i+1) (j+2) ps es c _ _ aH ⟨kd,kk,kv,kw,km⟩ aH aH aH hes) bS Y ?_;rintro _ K _ ⟨rfl,rfl,pv3,es3,c3,hde3,hnew3,rfl⟩ -;refine zz4 ?_
            first
              |exact gAK
              |exact gAN
              | (have hge := aGY (w := w0) hc hjl hx aH
                 refine uAl ?_;rcases hq:gl w0 v k (i+1) (j+1)with _|qs
                 · (rw[hq]at hge;exact dC none pv3 (ps++[((w0.take (i+1)).drop i)]++[]) es3 c3 ⟨hge,(fun qs h=>by cases h),(fun _=>⟨by simp,by simp⟩),hde3,(fun q hq2=>(hnew3 q hq2).elim (fun h=>.inl h) (fun h=>.inr h))⟩ aS Y cV)
                 (rw[hq]at hge;exact dC (some (((w0.take (i+1)).drop i)::qs)) pv3 (ps++[((w0.take (i+1)).drop i)]++qs) es3 c3 ⟨hge,(fun qs2 h=>by cases h;simp),(fun h=>by cases h),hde3,(fun q hq2=>(hnew3 q hq2).elim (fun h=>.inl h) (fun h=>.inr h))⟩ aS Y cV))
              | (have hxd : x = d := xAO.1 aH
                 have hge:=lL (w:=w0) hc aH hx aH hd;rw[x7 hxd]at hge;refine uAd ?_;rcases hq:gl w0 v k (i+1) (j+2)with _|qs
                 · (rw[hq]at hge;exact dC none pv3 (ps++[]) es3 c3 ⟨hge,(fun qs h=>by cases h),(fun _=>⟨by simp,by simp⟩),hde3,(fun q hq2=>(hnew3 q hq2).elim (fun h=>.inl h) (fun h=>.inr aH))⟩ aS Y cV)
                 (rw[hq]at hge;exact dC (some qs) pv3 (ps++qs) es3 c3 ⟨hge,(fun qs2 h=>by cases h;simp),(fun h=>by cases h),hde3,(fun q hq2=>(hnew3 q hq2).elim (fun h=>.inl h) (fun h=>.inr aH))⟩ aS Y cV))
              | (have hxd : ¬ x = d := (fun h => by subst h; omega)
                 have hge:=lL (w:=w0) hc aH hx aH hd;rw[x5 hxd]at hge;exact dC none pv ps es c ⟨hge,(fun qs h=>by cases h),(fun _=>⟨xAK,xAA _⟩),hes,(fun q hq=>.inl hq)⟩ aS Y cV)
              | (have hxd : x = c1 := xAO.1 aH
                 have hge:=lM (w:=w0) hc hjl hx aH aH aH;rw[x7 hxd]at hge;refine uAd ?_;rcases hq:gl w0 v k (i+1) (j+1)with _|qs
                 · (rw[hq]at hge;exact dC none pv3 (ps++[]) es3 c3 ⟨hge,(fun qs h=>by cases h),(fun _=>⟨by simp,by simp⟩),hde3,(fun q hq2=>(hnew3 q hq2).elim (fun h=>.inl h) (fun h=>.inr h))⟩ aS Y cV)
                 (rw[hq]at hge;exact dC (some qs) pv3 (ps++qs) es3 c3 ⟨hge,(fun qs2 h=>by cases h;simp),(fun h=>by cases h),hde3,(fun q hq2=>(hnew3 q hq2).elim (fun h=>.inl h) (fun h=>.inr h))⟩ aS Y cV))
              | (have hxd : ¬ x = c1 := (fun h => by subst h; omega)
                 have hge:=lM (w:=w0) hc hjl hx aH aH aH;rw[x5 hxd]at hge;exact dC none pv ps es c ⟨hge,(fun qs h=>by cases h),(fun _=>⟨xAK,xAA _⟩),hes,(fun q hq=>.inl hq)⟩ aS Y cV)
              | (have hge := sX (w := w0) (v := v) (k := k) (i := i) (j := j) aH
                 by_cases hiv:i=v.length
                 · (rw[x7 hiv]at hge;rw[show decide ((i:Int)=(v.length:Int))=true from xAM aH];exact dC (some []) pv ps es c ⟨hge,(fun qs h=>by cases h;simp),(fun h=>by cases h),hes,(fun q hq=>.inl hq)⟩ aS Y cV)
                 (rw[x5 hiv]at hge;rw[show decide ((i:Int)=(v.length:Int))=false from xAJ aH];exact dC none pv ps es c ⟨hge,(fun qs h=>by cases h),(fun _=>⟨xAK,xAA _⟩),hes,(fun q hq=>.inl hq)⟩ aS Y cV))
          refine zz10 ?_
          first
            |exact gAK
            |exact gAN
            | (have hge := aGY (w := w0) hc hjl hx aH
               refine uAl ?_;rcases hq:gl w0 v k (i+1) (j+1)with _|qs
               · (rw[hq]at hge;exact dC none pv3 (ps++[((w0.take (i+1)).drop i)]++[]) es3 c3 ⟨hge,(fun qs h=>by cases h),(fun _=>⟨by simp,by simp⟩),hde3,(fun q hq2=>(hnew3 q hq2).elim (fun h=>.inl h) (fun h=>.inr h))⟩ aS Y cV)
               (rw[hq]at hge;exact dC (some (((w0.take (i+1)).drop i)::qs)) pv3 (ps++[((w0.take (i+1)).drop i)]++qs) es3 c3 ⟨hge,(fun qs2 h=>by cases h;simp),(fun h=>by cases h),hde3,(fun q hq2=>(hnew3 q hq2).elim (fun h=>.inl h) (fun h=>.inr h))⟩ aS Y cV))
            | (have hxd : x = d := xAO.1 aH
               have hge:=lL (w:=w0) hc aH hx aH hd;rw[x7 hxd]at hge;refine uAd ?_;rcases hq:gl w0 v k (i+1) (j+2)with _|qs
               · (rw[hq]at hge;exact dC none pv3 (ps++[]) es3 c3 ⟨hge,(fun qs h=>by cases h),(fun _=>⟨by simp,by simp⟩),hde3,(fun q hq2=>(hnew3 q hq2).elim (fun h=>.inl h) (fun h=>.inr aH))⟩ aS Y cV)
               (rw[hq]at hge;exact dC (some qs) pv3 (ps++qs) es3 c3 ⟨hge,(fun qs2 h=>by cases h;simp),(fun h=>by cases h),hde3,(fun q hq2=>(hnew3 q hq2).elim (fun h=>.inl h) (fun h=>.inr aH))⟩ aS Y cV))
            | (have hxd : ¬ x = d := (fun h => by subst h; omega)
               have hge:=lL (w:=w0) hc aH hx aH hd;rw[x5 hxd]at hge;exact dC none pv ps es c ⟨hge,(fun qs h=>by cases h),(fun _=>⟨xAK,xAA _⟩),hes,(fun q hq=>.inl hq)⟩ aS Y cV)
            | (have hxd : x = c1 := xAO.1 aH
               have hge:=lM (w:=w0) hc hjl hx aH aH aH;rw[x7 hxd]at hge;refine uAd ?_;rcases hq:gl w0 v k (i+1) (j+1)with _|qs
               · (rw[hq]at hge;exact dC none pv3 (ps++[]) es3 c3 ⟨hge,(fun qs h=>by cases h),(fun _=>⟨by simp,by simp⟩),hde3,(fun q hq2=>(hnew3 q hq2).elim (fun h=>.inl h) (fun h=>.inr h))⟩ aS Y cV)
               (rw[hq]at hge;exact dC (some qs) pv3 (ps++qs) es3 c3 ⟨hge,(fun qs2 h=>by cases h;simp),(fun h=>by cases h),hde3,(fun q hq2=>(hnew3 q hq2).elim (fun h=>.inl h) (fun h=>.inr h))⟩ aS Y cV))
            | (have hxd : ¬ x = c1 := (fun h => by subst h; omega)
               have hge:=lM (w:=w0) hc hjl hx aH aH aH;rw[x5 hxd]at hge;exact dC none pv ps es c ⟨hge,(fun qs h=>by cases h),(fun _=>⟨xAK,xAA _⟩),hes,(fun q hq=>.inl hq)⟩ aS Y cV)
            | (have hge := sX (w := w0) (v := v) (k := k) (i := i) (j := j) aH
               by_cases hiv:i=v.length
               · (rw[x7 hiv]at hge;rw[show decide ((i:Int)=(v.length:Int))=true from xAM aH];exact dC (some []) pv ps es c ⟨hge,(fun qs h=>by cases h;simp),(fun h=>by cases h),hes,(fun q hq=>.inl hq)⟩ aS Y cV)
               (rw[x5 hiv]at hge;rw[show decide ((i:Int)=(v.length:Int))=false from xAJ aH];exact dC none pv ps es c ⟨hge,(fun qs h=>by cases h),(fun _=>⟨xAK,xAA _⟩),hes,(fun q hq=>.inl hq)⟩ aS Y cV))
        refine cZ (anc:=[0,0,3,0,0,24,63,127,255,255,767,255,2303,8191,16383,32767]) (ord:=[0,1,2,3,4,5,6,7,8,9,10,11,12,13,14,15]) [13] [13] mixed gC5 (cQ _) (zz8 ?_);refine fC 36 Y (fun g36=>?_) (fun g36=>?_)
        · refine zz5 ?_;rw[aBH j,aBH i];refine eQ Y (.on Y Y Y) Y Y Y (ih (i+1) (j+1) ps es c _ _ aH ⟨kd,kk,kv,kw,km⟩ aH aH aH hes) bS Y ?_;rintro _ K _ ⟨rfl,rfl,pv3,es3,c3,hde3,hnew3,rfl⟩ -;refine zz4 ?_
          first
            |exact gAK
            |exact gAN
            | (have hge := aGY (w := w0) hc hjl hx aH
               refine uAl ?_;rcases hq:gl w0 v k (i+1) (j+1)with _|qs
               · (rw[hq]at hge;exact dC none pv3 (ps++[((w0.take (i+1)).drop i)]++[]) es3 c3 ⟨hge,(fun qs h=>by cases h),(fun _=>⟨by simp,by simp⟩),hde3,(fun q hq2=>(hnew3 q hq2).elim (fun h=>.inl h) (fun h=>.inr h))⟩ aS Y cV)
               (rw[hq]at hge;exact dC (some (((w0.take (i+1)).drop i)::qs)) pv3 (ps++[((w0.take (i+1)).drop i)]++qs) es3 c3 ⟨hge,(fun qs2 h=>by cases h;simp),(fun h=>by cases h),hde3,(fun q hq2=>(hnew3 q hq2).elim (fun h=>.inl h) (fun h=>.inr h))⟩ aS Y cV))
            | (have hxd : x = d := xAO.1 aH
               have hge:=lL (w:=w0) hc aH hx aH hd;rw[x7 hxd]at hge;refine uAd ?_;rcases hq:gl w0 v k (i+1) (j+2)with _|qs
               · (rw[hq]at hge;exact dC none pv3 (ps++[]) es3 c3 ⟨hge,(fun qs h=>by cases h),(fun _=>⟨by simp,by simp⟩),hde3,(fun q hq2=>(hnew3 q hq2).elim (fun h=>.inl h) (fun h=>.inr aH))⟩ aS Y cV)
               (rw[hq]at hge;exact dC (some qs) pv3 (ps++qs) es3 c3 ⟨hge,(fun qs2 h=>by cases h;simp),(fun h=>by cases h),hde3,(fun q hq2=>(hnew3 q hq2).elim (fun h=>.inl h) (fun h=>.inr aH))⟩ aS Y cV))
            | (have hxd : ¬ x = d := (fun h => by subst h; omega)
               have hge:=lL (w:=w0) hc aH hx aH hd;rw[x5 hxd]at hge;exact dC none pv ps es c ⟨hge,(fun qs h=>by cases h),(fun _=>⟨xAK,xAA _⟩),hes,(fun q hq=>.inl hq)⟩ aS Y cV)
            | (have hxd : x = c1 := xAO.1 aH
               have hge:=lM (w:=w0) hc hjl hx aH aH aH;rw[x7 hxd]at hge;refine uAd ?_;rcases hq:gl w0 v k (i+1) (j+1)with _|qs
               · (rw[hq]at hge;exact dC none pv3 (ps++[]) es3 c3 ⟨hge,(fun qs h=>by cases h),(fun _=>⟨by simp,by simp⟩),hde3,(fun q hq2=>(hnew3 q hq2).elim (fun h=>.inl h) (fun h=>.inr h))⟩ aS Y cV)
               (rw[hq]at hge;exact dC (some qs) pv3 (ps++qs) es3 c3 ⟨hge,(fun qs2 h=>by cases h;simp),(fun h=>by cases h),hde3,(fun q hq2=>(hnew3 q hq2).elim (fun h=>.inl h) (fun h=>.inr h))⟩ aS Y cV))
            | (have hxd : ¬ x = c1 := (fun h => by subst h; omega)
               have hge:=lM (w:=w0) hc hjl hx aH aH aH;rw[x5 hxd]at hge;exact dC none pv ps es c ⟨hge,(fun qs h=>by cases h),(fun _=>⟨xAK,xAA _⟩),hes,(fun q hq=>.inl hq)⟩ aS Y cV)
            | (have hge := sX (w := w0) (v := v) (k := k) (i := i) (j := j) aH
               by_cases hiv:i=v.length
               · (rw[x7 hiv]at hge;rw[show decide ((i:Int)=(v.length:Int))=true from xAM aH];exact dC (some []) pv ps es c ⟨hge,(fun qs h=>by cases h;simp),(fun h=>by cases h),hes,(fun q hq=>.inl hq)⟩ aS Y cV)
               (rw[x5 hiv]at hge;rw[show decide ((i:Int)=(v.length:Int))=false from xAJ aH];exact dC none pv ps es c ⟨hge,(fun qs h=>by cases h),(fun _=>⟨xAK,xAA _⟩),hes,(fun q hq=>.inl hq)⟩ aS Y cV))
        refine zz10 ?_
        first
          |exact gAK
          |exact gAN
          | (have hge := aGY (w := w0) hc hjl hx aH
             refine uAl ?_;rcases hq:gl w0 v k (i+1) (j+1)with _|qs
             · (rw[hq]at hge;exact dC none pv3 (ps++[((w0.take (i+1)).drop i)]++[]) es3 c3 ⟨hge,(fun qs h=>by cases h),(fun _=>⟨by simp,by simp⟩),hde3,(fun q hq2=>(hnew3 q hq2).elim (fun h=>.inl h) (fun h=>.inr h))⟩ aS Y cV)
             (rw[hq]at hge;exact dC (some (((w0.take (i+1)).drop i)::qs)) pv3 (ps++[((w0.take (i+1)).drop i)]++qs) es3 c3 ⟨hge,(fun qs2 h=>by cases h;simp),(fun h=>by cases h),hde3,(fun q hq2=>(hnew3 q hq2).elim (fun h=>.inl h) (fun h=>.inr h))⟩ aS Y cV))
          | (have hxd : x = d := xAO.1 aH
             have hge:=lL (w:=w0) hc aH hx aH hd;rw[x7 hxd]at hge;refine uAd ?_;rcases hq:gl w0 v k (i+1) (j+2)with _|qs
             · (rw[hq]at hge;exact dC none pv3 (ps++[]) es3 c3 ⟨hge,(fun qs h=>by cases h),(fun _=>⟨by simp,by simp⟩),hde3,(fun q hq2=>(hnew3 q hq2).elim (fun h=>.inl h) (fun h=>.inr aH))⟩ aS Y cV)
             (rw[hq]at hge;exact dC (some qs) pv3 (ps++qs) es3 c3 ⟨hge,(fun qs2 h=>by cases h;simp),(fun h=>by cases h),hde3,(fun q hq2=>(hnew3 q hq2).elim (fun h=>.inl h) (fun h=>.inr aH))⟩ aS Y cV))
          | (have hxd : ¬ x = d := (fun h => by subst h; omega)
             have hge:=lL (w:=w0) hc aH hx aH hd;rw[x5 hxd]at hge;exact dC none pv ps es c ⟨hge,(fun qs h=>by cases h),(fun _=>⟨xAK,xAA _⟩),hes,(fun q hq=>.inl hq)⟩ aS Y cV)
          | (have hxd : x = c1 := xAO.1 aH
             have hge:=lM (w:=w0) hc hjl hx aH aH aH;rw[x7 hxd]at hge;refine uAd ?_;rcases hq:gl w0 v k (i+1) (j+1)with _|qs
             · (rw[hq]at hge;exact dC none pv3 (ps++[]) es3 c3 ⟨hge,(fun qs h=>by cases h),(fun _=>⟨by simp,by simp⟩),hde3,(fun q hq2=>(hnew3 q hq2).elim (fun h=>.inl h) (fun h=>.inr h))⟩ aS Y cV)
             (rw[hq]at hge;exact dC (some qs) pv3 (ps++qs) es3 c3 ⟨hge,(fun qs2 h=>by cases h;simp),(fun h=>by cases h),hde3,(fun q hq2=>(hnew3 q hq2).elim (fun h=>.inl h) (fun h=>.inr h))⟩ aS Y cV))
          | (have hxd : ¬ x = c1 := (fun h => by subst h; omega)
             have hge:=lM (w:=w0) hc hjl hx aH aH aH;rw[x5 hxd]at hge;exact dC none pv ps es c ⟨hge,(fun qs h=>by cases h),(fun _=>⟨xAK,xAA _⟩),hes,(fun q hq=>.inl hq)⟩ aS Y cV)
          | (have hge := sX (w := w0) (v := v) (k := k) (i := i) (j := j) aH
             by_cases hiv:i=v.length
             · (rw[x7 hiv]at hge;rw[show decide ((i:Int)=(v.length:Int))=true from xAM aH];exact dC (some []) pv ps es c ⟨hge,(fun qs h=>by cases h;simp),(fun h=>by cases h),hes,(fun q hq=>.inl hq)⟩ aS Y cV)
             (rw[x5 hiv]at hge;rw[show decide ((i:Int)=(v.length:Int))=false from xAJ aH];exact dC none pv ps es c ⟨hge,(fun qs h=>by cases h),(fun _=>⟨xAK,xAA _⟩),hes,(fun q hq=>.inl hq)⟩ aS Y cV))
      refine zz10 ?_;refine cZ (anc:=[0,0,3,0,0,24,63,127,255,255,767,255,2303,8191,16383,32767]) (ord:=[0,1,2,3,4,5,6,7,8,9,10,11,12,13,14,15]) [13] [13] mixed gC5 (cQ _) (zz8 ?_);refine fC 36 Y (fun g36=>?_) (fun g36=>?_)
      · refine zz5 ?_;rw[aBH j,aBH i];refine eQ Y (.on Y Y Y) Y Y Y (ih (i+1) (j+1) ps es c _ _ aH ⟨kd,kk,kv,kw,km⟩ aH aH aH hes) bS Y ?_;rintro _ K _ ⟨rfl,rfl,pv3,es3,c3,hde3,hnew3,rfl⟩ -;refine zz4 ?_
        first
          |exact gAK
          |exact gAN
          | (have hge := aGY (w := w0) hc hjl hx aH
             refine uAl ?_;rcases hq:gl w0 v k (i+1) (j+1)with _|qs
             · (rw[hq]at hge;exact dC none pv3 (ps++[((w0.take (i+1)).drop i)]++[]) es3 c3 ⟨hge,(fun qs h=>by cases h),(fun _=>⟨by simp,by simp⟩),hde3,(fun q hq2=>(hnew3 q hq2).elim (fun h=>.inl h) (fun h=>.inr h))⟩ aS Y cV)
             (rw[hq]at hge;exact dC (some (((w0.take (i+1)).drop i)::qs)) pv3 (ps++[((w0.take (i+1)).drop i)]++qs) es3 c3 ⟨hge,(fun qs2 h=>by cases h;simp),(fun h=>by cases h),hde3,(fun q hq2=>(hnew3 q hq2).elim (fun h=>.inl h) (fun h=>.inr h))⟩ aS Y cV))
          | (have hxd : x = d := xAO.1 aH
             have hge:=lL (w:=w0) hc aH hx aH hd;rw[x7 hxd]at hge;refine uAd ?_;rcases hq:gl w0 v k (i+1) (j+2)with _|qs
             · (rw[hq]at hge;exact dC none pv3 (ps++[]) es3 c3 ⟨hge,(fun qs h=>by cases h),(fun _=>⟨by simp,by simp⟩),hde3,(fun q hq2=>(hnew3 q hq2).elim (fun h=>.inl h) (fun h=>.inr aH))⟩ aS Y cV)
             (rw[hq]at hge;exact dC (some qs) pv3 (ps++qs) es3 c3 ⟨hge,(fun qs2 h=>by cases h;simp),(fun h=>by cases h),hde3,(fun q hq2=>(hnew3 q hq2).elim (fun h=>.inl h) (fun h=>.inr aH))⟩ aS Y cV))
          | (have hxd : ¬ x = d := (fun h => by subst h; omega)
             have hge:=lL (w:=w0) hc aH hx aH hd;rw[x5 hxd]at hge;exact dC none pv ps es c ⟨hge,(fun qs h=>by cases h),(fun _=>⟨xAK,xAA _⟩),hes,(fun q hq=>.inl hq)⟩ aS Y cV)
          | (have hxd : x = c1 := xAO.1 aH
             have hge:=lM (w:=w0) hc hjl hx aH aH aH;rw[x7 hxd]at hge;refine uAd ?_;rcases hq:gl w0 v k (i+1) (j+1)with _|qs
             · (rw[hq]at hge;exact dC none pv3 (ps++[]) es3 c3 ⟨hge,(fun qs h=>by cases h),(fun _=>⟨by simp,by simp⟩),hde3,(fun q hq2=>(hnew3 q hq2).elim (fun h=>.inl h) (fun h=>.inr h))⟩ aS Y cV)
             (rw[hq]at hge;exact dC (some qs) pv3 (ps++qs) es3 c3 ⟨hge,(fun qs2 h=>by cases h;simp),(fun h=>by cases h),hde3,(fun q hq2=>(hnew3 q hq2).elim (fun h=>.inl h) (fun h=>.inr h))⟩ aS Y cV))
          | (have hxd : ¬ x = c1 := (fun h => by subst h; omega)
             have hge:=lM (w:=w0) hc hjl hx aH aH aH;rw[x5 hxd]at hge;exact dC none pv ps es c ⟨hge,(fun qs h=>by cases h),(fun _=>⟨xAK,xAA _⟩),hes,(fun q hq=>.inl hq)⟩ aS Y cV)
          | (have hge := sX (w := w0) (v := v) (k := k) (i := i) (j := j) aH
             by_cases hiv:i=v.length
             · (rw[x7 hiv]at hge;rw[show decide ((i:Int)=(v.length:Int))=true from xAM aH];exact dC (some []) pv ps es c ⟨hge,(fun qs h=>by cases h;simp),(fun h=>by cases h),hes,(fun q hq=>.inl hq)⟩ aS Y cV)
             (rw[x5 hiv]at hge;rw[show decide ((i:Int)=(v.length:Int))=false from xAJ aH];exact dC none pv ps es c ⟨hge,(fun qs h=>by cases h),(fun _=>⟨xAK,xAA _⟩),hes,(fun q hq=>.inl hq)⟩ aS Y cV))
      refine zz10 ?_
      first
        |exact gAK
        |exact gAN
        | (have hge := aGY (w := w0) hc hjl hx aH
           refine uAl ?_;rcases hq:gl w0 v k (i+1) (j+1)with _|qs
           · (rw[hq]at hge;exact dC none pv3 (ps++[((w0.take (i+1)).drop i)]++[]) es3 c3 ⟨hge,(fun qs h=>by cases h),(fun _=>⟨by simp,by simp⟩),hde3,(fun q hq2=>(hnew3 q hq2).elim (fun h=>.inl h) (fun h=>.inr h))⟩ aS Y cV)
           (rw[hq]at hge;exact dC (some (((w0.take (i+1)).drop i)::qs)) pv3 (ps++[((w0.take (i+1)).drop i)]++qs) es3 c3 ⟨hge,(fun qs2 h=>by cases h;simp),(fun h=>by cases h),hde3,(fun q hq2=>(hnew3 q hq2).elim (fun h=>.inl h) (fun h=>.inr h))⟩ aS Y cV))
        | (have hxd : x = d := xAO.1 aH
           have hge:=lL (w:=w0) hc aH hx aH hd;rw[x7 hxd]at hge;refine uAd ?_;rcases hq:gl w0 v k (i+1) (j+2)with _|qs
           · (rw[hq]at hge;exact dC none pv3 (ps++[]) es3 c3 ⟨hge,(fun qs h=>by cases h),(fun _=>⟨by simp,by simp⟩),hde3,(fun q hq2=>(hnew3 q hq2).elim (fun h=>.inl h) (fun h=>.inr aH))⟩ aS Y cV)
           (rw[hq]at hge;exact dC (some qs) pv3 (ps++qs) es3 c3 ⟨hge,(fun qs2 h=>by cases h;simp),(fun h=>by cases h),hde3,(fun q hq2=>(hnew3 q hq2).elim (fun h=>.inl h) (fun h=>.inr aH))⟩ aS Y cV))
        | (have hxd : ¬ x = d := (fun h => by subst h; omega)
           have hge:=lL (w:=w0) hc aH hx aH hd;rw[x5 hxd]at hge;exact dC none pv ps es c ⟨hge,(fun qs h=>by cases h),(fun _=>⟨xAK,xAA _⟩),hes,(fun q hq=>.inl hq)⟩ aS Y cV)
        | (have hxd : x = c1 := xAO.1 aH
           have hge:=lM (w:=w0) hc hjl hx aH aH aH;rw[x7 hxd]at hge;refine uAd ?_;rcases hq:gl w0 v k (i+1) (j+1)with _|qs
           · (rw[hq]at hge;exact dC none pv3 (ps++[]) es3 c3 ⟨hge,(fun qs h=>by cases h),(fun _=>⟨by simp,by simp⟩),hde3,(fun q hq2=>(hnew3 q hq2).elim (fun h=>.inl h) (fun h=>.inr h))⟩ aS Y cV)
           (rw[hq]at hge;exact dC (some qs) pv3 (ps++qs) es3 c3 ⟨hge,(fun qs2 h=>by cases h;simp),(fun h=>by cases h),hde3,(fun q hq2=>(hnew3 q hq2).elim (fun h=>.inl h) (fun h=>.inr h))⟩ aS Y cV))
        | (have hxd : ¬ x = c1 := (fun h => by subst h; omega)
           have hge:=lM (w:=w0) hc hjl hx aH aH aH;rw[x5 hxd]at hge;exact dC none pv ps es c ⟨hge,(fun qs h=>by cases h),(fun _=>⟨xAK,xAA _⟩),hes,(fun q hq=>.inl hq)⟩ aS Y cV)
        | (have hge := sX (w := w0) (v := v) (k := k) (i := i) (j := j) aH
           by_cases hiv:i=v.length
           · (rw[x7 hiv]at hge;rw[show decide ((i:Int)=(v.length:Int))=true from xAM aH];exact dC (some []) pv ps es c ⟨hge,(fun qs h=>by cases h;simp),(fun h=>by cases h),hes,(fun q hq=>.inl hq)⟩ aS Y cV)
           (rw[x5 hiv]at hge;rw[show decide ((i:Int)=(v.length:Int))=false from xAJ aH];exact dC none pv ps es c ⟨hge,(fun qs h=>by cases h),(fun _=>⟨xAK,xAA _⟩),hes,(fun q hq=>.inl hq)⟩ aS Y cV))
    intro r pv2 cur es2 c2 ⟨hgr,hsm,hno,hde,hnw⟩;refine zz4 ?_;refine aA gC3 Y (zz2 ?_);refine d9 136 Y (fun h136=>?_) (fun h136=>?_)
    · obtain rfl:r=none:=(by cases r with|none=>rfl|some q=>simp at h136);obtain⟨hct,hcl⟩:=hno rfl;have hnm:(i,j)∉es2.map (fun x=>x.1):=(by intro hm;obtain⟨e,he,e2⟩:=xBF.1 hm;rcases hnw e he with h|h;exact h26 (xBF.2 ⟨e,h,e2⟩);(rw[e2]at h;simp at h;omega));refine aI ?_;refine oU (fun h hs=>bF0 (n:=ps.length) hs) fun hone=>?_;refine zz3 ?_;refine aA (nB (k:=a7 9) (m:=ps.length) cB Y (.there (.there .here)) (.there (.there .here)) Y Y hcl) Y ?_;refine cD (bX eP Y Y dA bR .zero Y) ?_;rintro _ K _ ⟨rfl,rfl⟩ -;refine zz5 ?_;refine cD (bM5 Tryz.underlying341 aMN Y Y Y hnm (by first|exact .here|exact .there .here|exact .there (.there .here)|exact .there (.there (.there .here)))) ?_;rintro _ K _ ⟨rfl,rfl⟩ -;refine zz9 ?_
      first
        |(refine aQ (aM e7 (aM cI (aM cI bF))) ?_;refine cS (eM (gZ (m:=ps.length) hcl)) ?_;rw[hct];refine aQ (aM cI (aM bW (aM bW bF))) ?_)
        |(refine aQ (aM cI (aM cI (aM cI bF))) ?_)
      refine zz1 ?_
      first
        |exact⟨_,Y,Y,by simp[hgr],slTo pv2 ps.length,es2++[((i,j),c2)],c2+1,(fun e he=>by rcases xAT.1 he with h|h;exact hde e h;(simp at h;subst h;exact hgr)),(fun e he=>by rcases xAT.1 he with h|h;exact(hnw e h).imp_right (fun h=>by omega);(simp at h;subst h;exact .inr (xAA _))),by simp[hgr]⟩
        |exact⟨_,Y,Y,by simp[hgr],pv2,es2,c2,hde,(fun e he=>(hnw e he).imp_right (fun h=>by omega)),by simp[hgr]⟩
    obtain⟨qs,rfl⟩:∃qs,r=some qs:=(by cases r with|none=>simp at h136|some q=>exact⟨q,Y⟩);obtain rfl:=hsm qs rfl;refine zz9 ?_
    first
      |(refine aQ (aM e7 (aM cI (aM cI bF))) ?_;refine cS (eM (gZ (m:=ps.length) hcl)) ?_;rw[hct];refine aQ (aM cI (aM bW (aM bW bF))) ?_)
      |(refine aQ (aM cI (aM cI (aM cI bF))) ?_)
    refine zz1 ?_
    first
      |exact⟨_,Y,Y,by simp[hgr],slTo pv2 ps.length,es2++[((i,j),c2)],c2+1,(fun e he=>by rcases xAT.1 he with h|h;exact hde e h;(simp at h;subst h;exact hgr)),(fun e he=>by rcases xAT.1 he with h|h;exact(hnw e h).imp_right (fun h=>by omega);(simp at h;subst h;exact .inr (xAA _))),by simp[hgr]⟩
      |exact⟨_,Y,Y,by simp[hgr],pv2,es2,c2,hde,(fun e he=>(hnw e he).imp_right (fun h=>by omega)),by simp[hgr]⟩
def bII(w k:List UInt8)(oct:Bool):glob w k oct=gl w (f7 oct w) (f7 oct k) 0 0:=by
 unfold glob gl;rw[sH];rfl
def aX8(w0 k0:List UInt8)(oct:Bool)(K:Hl)(hw:w0.length≤1000000)(hk:k0.length≤1000000):
  Sp x3 192 [str w0,str k0,.func (.func (aGX oct)) #[] #[]] K [] (Ret fun v K' L'=>∃pv,v=.tuple #[pv,.bool (glob w0 k0 oct).isSome]∧L'=[sl false (a7 9) pv ((glob w0 k0 oct).getD [])]):=by
 refine bN Tryz.func192 Y Tryz.ntmps192 Y Y fun F w=>?_;refine zz3 ?_;rintro _ K _ ⟨b3,rfl,rfl,rfl⟩ -;refine zz8 ?_;refine cN Y Y (p7 oct w0 _ aH) Y (zz2 ?_);refine cN Y Y (p7 oct k0 _ aH) Y (zz1 ?_);rintro _ K _ ⟨b8,rfl,rfl,rfl⟩ -;refine zz1 ?_;rintro _ K _ ⟨b9,rfl,rfl,rfl⟩ -;refine cD (bX ts9 Y Y dA bR .zero Y) ?_;rintro _ K _ ⟨rfl,rfl⟩ -;refine cD (bX ts9 Y Y dA bR .zero Y) ?_;rintro _ K _ ⟨rfl,rfl⟩ -;refine zz4 ?_;refine cJ uZ Y ?_;rintro _ K _ ⟨b20,rfl,rfl,rfl⟩ -;refine zz1 ?_;rintro _ K _ ⟨b10,rfl,rfl,rfl⟩ -;refine cD (bX bG5 Y Y dA bR .zero Y) ?_;rintro _ K _ ⟨rfl,rfl⟩ -;refine zz5 ?_;rintro _ K _ ⟨b11,rfl,rfl,rfl⟩ -;refine zz5 ?_;rintro _ K _ ⟨b12,rfl,rfl,rfl⟩ -;refine zz5 ?_;refine cD (bX aIS Y Y dA bR .zero Y) ?_;rintro _ K _ ⟨rfl,rfl⟩ -;refine zz3 ?_;refine yG fun K1 le1 h1=>?_;refine z8 (aM cI bF) ?_;refine yG fun K2 le2 h2=>?_;refine z8 (aM e7 bF) ?_;refine yG fun K3 le3 h3=>?_;refine z8 (aM e7 bF) ?_;refine yG fun K4 le4 h4=>?_;refine z8 (aM e7 bF) ?_;refine yG fun K5 le5 h5=>?_;have l45:=le5;have l35:=x6 le4 l45;have l25:=x6 le3 l35;have l15:=x6 le2 l25;have h1:=l15 _ _ h1;have h2:=l25 _ _ h2;have h3:=l35 _ _ h3;have h4:=l45 _ _ h4;refine jJ (eL (a7 9)) ?_;refine z8 (aM cI (aM bW bF)) ?_;refine aC ?_;refine aA (aK aIS Y (.known h1) Y) Y ?_;refine bA Y Y (aSW w0 (f7 oct w0) (f7 oct k0) b10 b20 b11 b9 b8 b3 b12 (sH oct w0).symm (by rw[sH];exact hw) (by rw[sH];exact hk) _ 0 0 [] [] 0 _ _ (xAA _) ⟨h2,h3,h4,h5,h1⟩ (x9 _) (x9 _) (x9 _) (fun e h=>by cases h)) bS Y ?_;rintro _ K _ ⟨rfl,rfl,pv,es,c,hde,hnew,rfl⟩ -;refine zz12 ?_;refine aQ (aM cI bF) ?_;refine j1 Y Y Y (x6 le1 l15) ?_;rw[bII];exact⟨_,Y,pv,Y,Y⟩
def aJ6{o:Ins}{vs ks:List aP}{i:Nat}{x:aP}(hx:vs[i]?=some x):iZ o (vs.drop i) ks=(match s5 o x ks with|some z=>some z|none=>iZ o (vs.drop (i+1)) ks):=by
 rw[o8 hx];unfold iZ s5;rw[oN]
 cases oN (fun k=>(iA o x k).map fun ps=>x::ps) ks <;> rfl
def aYE{o:Ins}{x y:aP}{ks ps:List aP}{j:Nat}(hy:ks[j]?=some y)(h:iA o x y=some ps):s5 o x (ks.drop j)=some (x::ps):=by
 rw[o8 hy];unfold s5;rw[oN,h];rfl
def bDM{o:Ins}{x y:aP}{ks:List aP}{j:Nat}(hy:ks[j]?=some y)(h:iA o x y=none):s5 o x (ks.drop j)=s5 o x (ks.drop (j+1)):=by
 rw[o8 hy];unfold s5;rw[oN,h];rfl
def aYD{o:Ins}{x:aP}{ks:List aP}{j:Nat}(h:ks.length≤j):s5 o x (ks.drop j)=none:=by rw[xAU h];rfl
def bDY{o:Ins}{vs ks:List aP}{j:Nat}(h:vs.length≤j):iZ o (vs.drop j) ks=none:=by rw[xAU h];rfl
def bP3{o:Ins}{x y:aP}(h:o.tag=1):iA o x y=if decide (f7 o.oct x=f7 o.oct y)=true then some []else none:=by unfold iA;rw[x7 h];simp
def bNU{o:Ins}{x y:aP}(h:o.tag=2):iA o x y=if decide (0≤Lib.index (f7 o.oct x) (f7 o.oct y))=true then some []else none:=by unfold iA;rw[x5 aH,x7 h];simp
def aNW{o:Ins}{x y:aP}(h:o.tag=3):iA o x y=glob x y o.oct:=by unfold iA;rw[x5 aH,x5 aH]
def aDP{nm:Bool}{m:Msg}{o:Ins}{s:MS}(h:¬(1≤o.tag∧o.tag≤3∧s.stack.length < 8)):matchI nm m o s=.error (12,s.pc):=by unfold matchI;rw[x5 h];rfl
def aPG{nm:Bool}{m:Msg}{o:Ins}{s:MS}(h:1≤o.tag∧o.tag≤3∧s.stack.length < 8)(hm:iZ o (jA (dH nm s.vars s.parts) m o) (o.b.map (dH nm s.vars s.parts))=none):matchI nm m o s=push s false:=by unfold matchI;rw[x7 h];simp only[hm]
def aPH{nm:Bool}{m:Msg}{o:Ins}{s:MS}{ps:List aP}(h:1≤o.tag∧o.tag≤3∧s.stack.length < 8)(hm:iZ o (jA (dH nm s.vars s.parts) m o) (o.b.map (dH nm s.vars s.parts))=some ps):matchI nm m o s=push (if o.tag=3∧nm=true then {s with parts:=ps}else s) true:=by unfold matchI;rw[x7 h];simp only[hm]
def MMI(nm:Bool)(o:Ins)(x y:aP)(s:MS)(pv:Value)(ok:Bool)(pv':Value)(s':MS):Prop:=
 (ok=true∧∃ps,iA o x y=some ps∧s'=(if o.tag=3∧nm=true then {s with parts:=x::ps}else s))∨(ok=false∧iA o x y=none∧s=s'∧pv=pv')
def aHH{nm:Bool}{o:Ins}{x y:aP}{s:MS}{pv:Value}(h:o.tag=1):MMI nm o x y s pv (decide (f7 o.oct x=f7 o.oct y)) pv s:=by
 unfold MMI;rw[bP3 h]
 by_cases hd:f7 o.oct x=f7 o.oct y
 ·exact .inl ⟨by simp[hd],[],by simp[hd],by rw[x5 aH]⟩
 exact .inr ⟨by simp[hd],by simp[hd],rfl,rfl⟩
def aCB{nm:Bool}{o:Ins}{x y:aP}{s:MS}{pv:Value}(h:o.tag=2):MMI nm o x y s pv (decide (0≤Lib.index (f7 o.oct x) (f7 o.oct y))) pv s:=by
 unfold MMI;rw[bNU h]
 by_cases hd:0≤Lib.index (f7 o.oct x) (f7 o.oct y)
 ·exact .inl ⟨by simp[hd],[],by simp[hd],by rw[x5 aH]⟩
 exact .inr ⟨by simp[hd],by simp[hd],rfl,rfl⟩
def aHI{nm:Bool}{o:Ins}{x y:aP}{s:MS}{pv:Value}(h:o.tag=3)(hg:(glob x y o.oct).isSome=false):MMI nm o x y s pv (glob x y o.oct).isSome pv s:=by
 unfold MMI;rw[aNW h];exact .inr ⟨hg,by simpa using hg,rfl,rfl⟩
def aHJ{o:Ins}{x y:aP}{s:MS}{pv:Value}(h:o.tag=3):MMI false o x y s pv (glob x y o.oct).isSome pv s:=by
 unfold MMI;rw[aNW h];cases hg:glob x y o.oct with
 |none=>exact .inr ⟨Y,Y,Y,Y⟩
 |some ps=>exact .inl ⟨Y,ps,Y,by simp⟩
def aCC{o:Ins}{x y:aP}{s:MS}{pv pv':Value}(h:o.tag=3)(hg:(glob x y o.oct).isSome=true):MMI true o x y s pv (glob x y o.oct).isSome pv' {s with parts:=x::(glob x y o.oct).getD []}:=by
 unfold MMI;rw[aNW h];cases hg':glob x y o.oct with
 |none=>rw[hg']at hg;cases hg
 |some ps=>exact .inl ⟨Y,ps,Y,by rw[x7 ⟨h,rfl⟩];rfl⟩
def aX6(w v k:aP):∀f i j ps,iY w v k f i j=some ps→ps.length≤f:=by
 intro f;induction f with
 |zero=>intro i j ps h;cases h
 |succ f ih=>
  intro i j ps h;unfold iY at h;split at h
  ·split at h
   ·cases h;simp
   cases h
  split at h
  ·have key:∀n e,kS (fun e=>(iY w v k f e (j+1)).map fun ps=>((w.take e).drop i)::ps) n e=some ps→ps.length≤f+1:=by
    intro n;induction n with
    |zero=>intro e h;cases h
    |succ n ihn=>
     intro e h;unfold kS at h;split at h
     ·rename_i x hx;cases h
      cases hy:iY w v k f e (j+1)with
      |none=>rw[hy]at hx;cases hx
      |some q=>rw[hy]at hx;cases hx;have:=ih _ _ _ hy;simpa using this
     exact ihn _ h
   exact key _ _ h
  split at h
  ·cases h
  split at h
  ·cases hy:iY w v k f (i+1) (j+1)with
   |none=>rw[hy]at h;cases h
   |some q=>rw[hy]at h;cases h;have:=ih _ _ _ hy;simpa using this
  split at h
  ·split at h
   ·have:=ih _ _ _ h;omega
   cases h
  split at h
  ·have:=ih _ _ _ h;omega
  cases h
def bDI(x y:aP)(oct:Bool):((glob x y oct).getD []).length≤y.length+1:=by
 cases h:glob x y oct with
 |none=>simp
 |some ps=>exact aX6 _ _ _ _ _ _ _ h
def aPI(b mb:Nat)(m:Msg)(hv pv:Value)(nm:Bool)(s:MS)(o:Ins)(av0 bv:Value)(n:Int)(K0:Hl)(hg:Glob K0)(hpv:Ksl (a7 9) K0 pv s.parts)(ha:Ksl (a7 9) K0 av0 o.a)(hb:Ksl (a7 9) K0 bv o.b)(hh:Ksl hdEl K0 hv m.hs)(hln:m.hs.length≤1000000)(hhs:∀h∈m.hs,h.1.length≤1000000)(hl:o.a.length≤1000000)(hs:∀x∈o.a,x.length≤100000)(hlb:o.b.length≤1000000)(hsb:∀x∈o.b,x.length≤100000)(hsm:pW s.vars s.parts)
  (hvl:∀x∈jA (dH nm s.vars s.parts) m o,x.length≤1000000):
  Sp x3 129 [ptr b,qA o av0 bv,i64 n] K0 [mch b mb m hv pv nm s] (MI b mb m hv nm (matchI nm m o s)):=by
 have hkl:∀x∈o.b.map (dH nm s.vars s.parts),x.length≤100000:=(by intro x hx;obtain⟨y,hy,rfl⟩:=xBF.1 hx;exact gX (hsb y hy));have hkn:(o.b.map (dH nm s.vars s.parts)).length≤1000000:=(by simpa using hlb);have hvn:(jA (dH nm s.vars s.parts) m o).length≤1000000*1000000:=by
  unfold jA;split
  ·simp;omega
  split
  ·exact xAV (xC (n:=1000000) (fun x=>xAV (aAN m _) hln) _) (xAW _ (by simpa using hl))
  split
  ·exact xAV (xC (n:=1) (aVN m) _) aH
  simp
 have hm0:∀r,iZ o (jA (dH nm s.vars s.parts) m o) (o.b.map (dH nm s.vars s.parts))=r→iZ o ((jA (dH nm s.vars s.parts) m o).drop 0) (o.b.map (dH nm s.vars s.parts))=r:=fun r h=>h
 have hall:=fun(K:Hl) (hg:Glob K) (hpv:Ksl (a7 9) K pv s.parts) (hb:Ksl (a7 9) K bv o.b)=>yR b mb m hv pv nm s bv o.b K hg hpv hb hlb hsb hsm
 have hval:=fun(K:Hl) (hg:Glob K) (hpv:Ksl (a7 9) K pv s.parts) (ha:Ksl (a7 9) K av0 o.a) (hb:Ksl (a7 9) K bv o.b) (hh:Ksl hdEl K hv m.hs)=>aRK b mb m hv pv nm s o av0 bv K hg hpv ha hb hh hln hhs hl hs hsm
 have hnone:=aPG (nm:=nm) (m:=m) (o:=o) (s:=s);have hsome:=fun ps=>aPH (nm:=nm) (m:=m) (o:=o) (s:=s) (ps:=ps)
 generalize hvse:jA (dH nm s.vars s.parts) m o=vs at*
 generalize hkse:o.b.map (dH nm s.vars s.parts)=ks at*
 clear hm0;obtain⟨sa,sn,sc,rfl⟩:=ha.isSlice;obtain⟨ta,tn,tc,rfl⟩:=hb.isSlice;refine bN Tryz.func129 Y Tryz.ntmps129 Y Y fun F w=>?_;refine wQ fun av sv f c=>?_;refine zz3 ?_;rintro _ K _ ⟨b4,rfl,rfl,rfl⟩ -;refine zz9 ?_;refine bV 18 Y (fun g18=>?_) (fun g18=>?_)
 ·refine zz8 ?_;refine bV 23 Y (fun g23=>?_) (fun g23=>?_)
  ·refine zz9 ?_;refine aA (bU Y Tryz.underlying93 Y aL) Y (zz3 ?_);refine cA Y Y (s7 ((s.stack.length:Int) < 8) _ _ _ _ _ _ _ _ _ _ _ _ _) bS Y (fun _ _=>cF _ _) ?_ ?_
   ·rintro _ _ _ hTr le1;obtain⟨e,p,hu,fb,h,rfl⟩:=cG hTr;cases h
    refine uAa ?_;refine zz2 ?_;have hbl:¬((s.stack.length:Int) < 8):=gD9;rw[x5 hbl]at hu;cases hu
    have hno:=aDP (nm:=nm) (m:=m) (s:=s) (o:=o) aH;unfold MI;rw[hno];exact⟨fb,Y,Y⟩
   rintro _ K _ hTr -;obtain⟨u0,hu,rfl,rfl,rfl⟩:=cH hTr;clear hTr;have hbl:(s.stack.length:Int) < 8:=xAZ (fun h=>by rw[x5 h]at hu;cases hu);have hcc:1≤o.tag∧o.tag≤3∧s.stack.length < 8:=⟨by omega,by omega,by omega⟩;refine bEI (As:=[_,_,_,_]) (aM bW (aM cI (aM cI (aM cI bF)))) ?_;refine j4 (f9 (m:=m) (hv:=hv) (pv:=pv) (nm:=nm) (s:=s)) (zz6 ?_);refine cN Y Y (aMG o.oct _) Y (zz8 ?_);refine bA Y Y (hall _ hg hpv hb) bS Y ?_;rintro kv K _ ⟨rfl,rfl⟩ -;refine zz8 ?_;refine bA Y Y (hval _ hg hpv ha hb hh) bS Y ?_;rintro vv K1 _ rfl le1;refine uAc ?_;refine zz4 ?_;refine eH (fun(q:MZ)=>q.i≤vs.length∧K.le q.K∧iZ o (vs.drop q.i) ks=iZ o vs ks) (fun q=>[(0,ptr b),(4,ptr b4),(6,.func (.func (aGX o.oct)) #[] #[]),(7,kv),(41,vv),(42,i64 vs.length),(43,i64 q.i)]) (fun q=>q.K) (fun _=>[sl false (a7 9) vv vs,mch b mb m hv pv nm s,sl false (a7 9) kv ks,pt b4 (bL [i64 o.op,i64 o.n,i64 o.tag,.bool o.oct,.slice sa sn sc,.slice ta tn tc,i64 o.at_] 45)]) (fun q=>vs.length - q.i) ⟨0,K1⟩ ⟨x9 _,le1,by rw[xBG]⟩ aS Y (fun _ h=>h) ?_;intro ⟨i,K2⟩ ⟨hi0,hle2,hmall⟩;dsimp only at hi0 hle2 hmall ⊢;refine zz6 ?_;refine aY 44 Y (fun h44=>?_) (fun h44=>?_)
   ·have hilt:i < vs.length:=by omega
    obtain⟨x,hx⟩:∃x,vs[i]?=some x:=⟨vs[i]'hilt,x4 hilt⟩;have hxl:=hvl x (x8 hx);refine zz6 ?_;refine aA (aX (k:=(a7 9)) cB Y aL Y Y gDB) Y ?_;refine uAg ?_;refine zz6 ?_;refine uAc ?_;refine zz4 ?_;refine eH (fun(q:MZ)=>q.i≤ks.length∧K.le q.K∧s5 o x (ks.drop q.i)=s5 o x ks) (fun q=>[(0,ptr b),(4,ptr b4),(6,.func (.func (aGX o.oct)) #[] #[]),(7,kv),(9,str x),(41,vv),(42,i64 vs.length),(43,i64 i),(47,kv),(48,i64 ks.length),(49,i64 q.i)]) (fun q=>q.K) (fun _=>[sl false (a7 9) vv vs,mch b mb m hv pv nm s,sl false (a7 9) kv ks,pt b4 (bL [i64 o.op,i64 o.n,i64 o.tag,.bool o.oct,.slice sa sn sc,.slice ta tn tc,i64 o.at_] 45)]) (fun q=>ks.length - q.i) ⟨0,K2⟩ ⟨x9 _,hle2,by rw[xBG]⟩ aS Y (fun _ h=>h) ?_;intro ⟨j,K3⟩ ⟨hj0,hle3,hin⟩;dsimp only at hj0 hle3 hin ⊢;refine zz6 ?_;refine aY 50 Y (fun h50=>?_) (fun h50=>?_)
    ·have hjlt:j < ks.length:=by omega
     obtain⟨y,hy⟩:∃y,ks[j]?=some y:=⟨ks[j]'hjlt,x4 hjlt⟩;have hyl:=hkl y (x8 hy);refine zz6 ?_;refine aA (aX (k:=(a7 9)) cB Y aL Y Y gDB) Y ?_;refine uAg ?_;refine zz8 ?_;refine dX (fun(q:MM)=>K.le q.K∧MMI nm o x y s pv q.ok q.pv q.s∧Ksl (a7 9) q.K q.pv q.s.parts) (fun q=>[(0,ptr b),(4,ptr b4),(6,.func (.func (aGX o.oct)) #[] #[]),(7,kv),(9,str x),(12,.bool q.ok),(41,vv),(42,i64 vs.length),(43,i64 i),(47,kv),(48,i64 ks.length),(49,i64 j)]) (fun q=>q.K) (fun q=>[mch b mb m hv q.pv nm q.s,sl false (a7 9) vv vs,sl false (a7 9) kv ks,pt b4 (bL [i64 o.op,i64 o.n,i64 o.tag,.bool o.oct,.slice sa sn sc,.slice ta tn tc,i64 o.at_] 45)]) ?_ ?_
     ·refine zz13 ?_;refine aY 55 Y (fun h55=>?_) (fun h55=>?_)
      ·refine zz3 ?_;refine cN Y Y (p7 o.oct x _ aH) Y (zz2 ?_);refine cN Y Y (p7 o.oct y _ aH) Y (zz4 ?_)
       first
        |exact gA7
        |exact gA5
        |exact gAO
        |exact gAU
      refine zz6 ?_;refine aY 64 Y (fun h64=>?_) (fun h64=>?_)
      ·refine zz4 ?_;refine cN Y Y (aHG x y o.oct _ (hg.mono hle3) aH aH) Y (zz3 ?_)
       first
        |exact gA7
        |exact gA5
        |exact gAO
        |exact gAU
      refine zz6 ?_;refine aY 70 Y (fun h70=>?_) (fun h70=>?_)
      ·refine zz10 ?_;refine bA Y Y (aX8 x y o.oct _ aH aH) .nil Y ?_;rintro _ K4 _ ⟨gv,rfl,rfl⟩ le4;have hgl:=bDI x y o.oct;refine zz8 ?_;refine z8 (aM e7 bF) ?_;refine wQ fun av sv f c=>?_;refine zz3 ?_;refine kN 80 Y (fun g80=>?_) (fun g80=>?_)
       ·refine zz11 ?_;refine d9 85 Y (fun h85=>?_) (fun h85=>?_)
        ·refine zz3 ?_;refine cJ (bM (z0:=[(str [])]) cB tz9 Y Y Y Y dF) Y ?_;rintro _ K _ ⟨b88,rfl,rfl,rfl⟩ -;refine zz1 ?_;refine j4 (qH (k:=a7 9) (xs:=[x]) Y) ?_;refine cJ (dQ (k:=(a7 9)) (ys:=((glob x y o.oct).getD [])) eI Y Y .here (fun w j=>dJ Tryz.underlying43 (SeesSl.at (k:=a7 9) aL j)) gEJ gEJ) Y ?_;rintro v90 K _ ⟨rfl,rfl,ho90⟩ -;refine zz2 ?_;refine uAh ?_;rintro _ K _ ⟨rfl,rfl⟩ -;refine zz2 ?_
         first
          |exact gA7
          |exact gA5
          |exact gAO
          |exact gAU
        refine zz2 ?_
        first
         |exact gA7
         |exact gA5
         |exact gAO
         |exact gAU
       refine zz10 ?_
       first
        |exact gA7
        |exact gA5
        |exact gAO
        |exact gAU
      exact absurd (show o.tag=3 by omega) h70
     intro ⟨ok,K4,pv4,s4⟩ ⟨hle4,hmm,hks4⟩;dsimp only at hle4 hmm hks4 ⊢;refine zz5 ?_;refine d9 93 Y (fun h93=>?_) (fun h93=>?_)
     ·obtain⟨ps,hvk,hs4⟩:∃ps,iA o x y=some ps∧s4=(if o.tag=3∧nm=true then {s with parts:=x::ps}else s):=(by rcases hmm with ⟨_,h⟩|⟨h,_⟩;exact h;(rw[h93]at h;cases h));have hres:matchI nm m o s=push s4 true:=(by rw[hs4];exact hsome (x::ps) hcc (by rw[←hmall,aJ6 hx,←hin,aYE hy hvk]));refine zz3 ?_;refine cA Y Y (oQ b mb m hv pv4 nm s4 true _) bS Y (fun _ _=>cF _ _) ?_ ?_
      ·rintro _ _ _ hTr le1;obtain⟨e,p,hq,fb,h,rfl⟩:=cG hTr;cases h
       refine uAa ?_;refine zz10 ?_;refine cK (x6 hle4 le1) ?_;unfold MI;rw[hres,hq];exact⟨fb,Y,Y⟩
      rintro _ K _ hTr -;obtain⟨q,hq,rfl,rfl,rfl⟩:=cH hTr;clear hTr;have hqp:=iP hq;refine zz12 ?_;refine uAa ?_;refine jZ Y (by first|exact hle4|exact hle2) ?_;unfold MI;rw[hres,hq];exact⟨_,Y,Y,pv4,by rw[hqp];exact hks4,Y⟩
     obtain⟨hvk,rfl,rfl⟩:iA o x y=none∧s=s4∧pv=pv4:=(by rcases hmm with ⟨h,_⟩|⟨_,h⟩;(rw[h93]at h;cases h);exact h);refine zz7 ?_;refine aQ (aM cI (aM bW (aM bW (aM bW bF)))) ?_;exact cM ⟨j+1,K4⟩ ⟨by (show j+1≤ks.length);omega,hle4,(bDM hy hvk).symm.trans hin⟩ (by (show ks.length - (j+1) < ks.length - j);omega) aS Y (fun _ h=>h)
    have hin0:s5 o x ks=none:=(by rw[←hin];exact aYD aH);refine zz10 ?_;exact cM ⟨i+1,K3⟩ ⟨by (show i+1≤vs.length);omega,hle3,by have h:=aJ6 (o:=o) (ks:=ks) hx;rw[hin0]at h;exact h.symm.trans hmall⟩ gE2 aS Y (fun _ h=>h)
   have hres:matchI nm m o s=push s false:=hnone hcc (by rw[←hmall];exact bDY aH);refine zz7 ?_;refine cA Y Y (oQ b mb m hv pv nm s false _) bS Y (fun _ _=>cF _ _) ?_ ?_
   ·rintro _ _ _ hTr le1;obtain⟨e,p,hq,fb,h,rfl⟩:=cG hTr;cases h
    refine uAa ?_;refine cK (x6 hle2 le1) ?_;unfold MI;rw[hres,hq];exact⟨fb,Y,Y⟩
   rintro _ K _ hTr -;obtain⟨q,hq,rfl,rfl,rfl⟩:=cH hTr;clear hTr;have hqp:=iP hq;refine aG ?_;refine uAa ?_;refine dK Y (by first|exact hle4|exact hle2) ?_;unfold MI;rw[hres,hq];exact⟨_,Y,Y,pv,by rw[hqp];exact hpv.mono hle2,Y⟩
  have hno:=aDP (nm:=nm) (m:=m) (s:=s) (o:=o) aH;refine zz7 ?_;refine cA Y Y (tV _ _ _ _ _ _ _ _ _ _ _ _ _) bS Y gC6 ?_ ?_
  ·rintro _ _ _ ⟨fb,h,rfl⟩ le1;cases h
   refine uAa ?_;refine zz2 ?_;simp only[MI,hno,if_true,if_false,↓reduceIte];exact⟨fb,Y,Y⟩
  rintro _ _ _ ⟨_,h,_⟩;cases h
 have hno:=aDP (nm:=nm) (m:=m) (s:=s) (o:=o) aH;refine zz12 ?_;refine cA Y Y (tV _ _ _ _ _ _ _ _ _ _ _ _ _) bS Y gC6 ?_ ?_
 ·rintro _ _ _ ⟨fb,h,rfl⟩ le1;cases h
  refine uAa ?_;refine zz2 ?_;simp only[MI,hno,if_true,if_false,↓reduceIte];exact⟨fb,Y,Y⟩
 rintro _ _ _ ⟨_,h,_⟩;cases h
end Go.Proofs
end
section
namespace Go.Mach
open Go.Syn
def bL9(s:aP):s.findIdx? (fun x=>decide (x=64))=if Lib.indexByte s 64 < 0 then none else some (Lib.indexByte s 64).toNat:=by
 split
 ·rename_i h;have h1:=Lib.indexByte_ge s 64;have h2:=Lib.indexByte_none (l:=s) (c:=64) aH;rw[List.findIdx?_eq_none_iff];intro x hx;obtain⟨k,hk⟩:=xA3 hx;have:=h2 k;rw[hk]at this
  simpa using this
 rename_i h;obtain⟨h1,h2⟩:=Lib.indexByte_some (l:=s) (c:=64) (o:=(Lib.indexByte s 64).toNat) aH;rw[xA8];have hlt:(Lib.indexByte s 64).toNat < s.length:=by
  rcases xAC (Lib.indexByte s 64).toNat s.length with h'|h'
  ·exact h'
  rw[xAD h']at h1;cases h1
 rw[x4 hlt]at h1;refine⟨hlt,by simpa using h1,fun j hj=>?_⟩
 have:=h2 j hj;rw[x4 aH]at this
 simpa using this
def bNY(s:aP):(s.any fun c=>decide (c=64))=decide (0≤Lib.index s [64]):=by
 rw[Lib.index_one];have h1:=Lib.indexByte_ge s 64
 by_cases h:Lib.indexByte s 64 < 0
 ·have h2:=Lib.indexByte_none (l:=s) (c:=64) aH;rw[xAJ aH,List.any_eq_false];intro x hx;obtain⟨k,hk⟩:=xA3 hx;have:=h2 k;rw[hk]at this
  simpa using this
 obtain⟨h1,h2⟩:=Lib.indexByte_some (l:=s) (c:=64) (o:=(Lib.indexByte s 64).toNat) aH;rw[xAM aH,List.any_eq_true];exact⟨64,x8 h1,by simp⟩
def nM(s:aP):fM s=ad s:=by
 unfold fM ad Lib.cut;rw[bL9,Lib.index_one]
 by_cases h:Lib.indexByte s 64 < 0
 ·rw[x7 h,x5 aH];rfl
 rw[x5 h,x7 aH];simp only[bNY,List.length_singleton,Bool.true_and,Bool.and_assoc]
def aJN(c:UInt8):fS c=[32,9,13,10].contains c:=by
 unfold fS;rw[xAP];simp only[decide_eq_true_eq,List.contains_iff_mem,List.mem_cons,List.not_mem_nil,or_false]
 constructor
 ·rintro(h|h|h|h)
  ·left;exact xAO.1 h
  ·right;left;exact xAO.1 h
  ·right;right;left;exact xAO.1 h
  right;right;right;exact xAO.1 h
 rintro(h|h|h|h) <;> subst h <;> decide
def xH:∀s:aP,decide (0≤Lib.indexAny s [32,9,13,10])=s.any fS
 | []=>rfl
 |b::l=>by
  have ih:=xH l;have hg:=Lib.indexAny_ge [32,9,13,10] l;rw[Lib.indexAny,List.any_cons,aJN,←ih];cases h:[32,9,13,10].contains b with
  |true=>simp
  |false=>
   simp only[Bool.false_eq_true,if_false,Bool.false_or];split
   ·rename_i h2;have:=beq_iff_eq.1 h2;rw[this]
   rename_i h2;have h3:Lib.indexAny l [32,9,13,10]≠ -1:=fun e=>h2 gGB
   rw[xAM aH,xAM aH]
end Go.Mach
end
section
attribute [local irreducible] Go.SL.T Go.SL.OL Go.SL.D Go.SL.DL Go.SL.Ev Go.SL.Ef Go.SL.EfS
namespace Go.Proofs
open Go Go.SL Go.Syn Go.Mach
def bP5{i:Nat}(h:i < 4):∃c,ws[i]?=some c∧c.toNat < 128:=by
 rcases(show i=0∨i=1∨i=2∨i=3 by omega)with rfl|rfl|rfl|rfl
 ·exact⟨32,Y,by decide⟩
 ·exact⟨9,Y,by decide⟩
 ·exact⟨13,Y,by decide⟩
 exact⟨10,Y,by decide⟩
def aS0(s:List UInt8)(h8:s.length≤8)(K:Hl):Sp x3 240 [str s,str ws] K [] (Ret fun v K' L'=>∃n:Int,v=i64 n∧(0≤n↔s.any fS=true)∧K'=K∧L'=[]):=by
 have e:(fun c=>ws.contains c)=fS:=by funext c;rw[aJN];rfl
 have:=aN7 ws (by decide) (by decide) s h8 K;rw[e]at this;exact this
def aYB(s:List UInt8)(hs:s.length≤1000000)(K:Hl):Sp x3 240 [str s,str ws] K [] (Ret fun v K' L'=>∃n:Int,v=i64 n∧(0≤n↔s.any fS=true)∧K'=K∧L'=[]):=by
 rcases xAC 8 s.length with h8|h8
 ·have h116:(x3.info? 374).map (fun i=>(i.zero,i.size))=some (some (.agg (Array.replicate 256 (.bool false))),256):=cY
  refine(rD (v:=i64 (Lib.indexAny s ws)) ⟨_,Tryz.func240,Y,Y⟩ fun w hw=>?_).mono ?_
  ·refine(Tryz.strings_IndexAny_long (zero_of_info h116).1 ⟨s.toArray⟩ ⟨ws.toArray⟩ w (by decide) (by simpa[ByteArray.size]using h8) (by simp[ByteArray.size];omega) (by decide) ?_).mono fun e w' ⟨he,hw'⟩=>⟨he,?_⟩
   ·intro j b hj;have hlt:j < 4:=lA (l:=ws) hj;obtain⟨c,hc,hc2⟩:=bP5 hlt;have hj':ws[j]?=some b:=hj;rw[hc]at hj';cases hj';exact hc2
   rw[hw'];exact((RowKit.Below.refl _ _).alloc (xAA _) _).alloc (by simp) _
  rintro e K' L' ⟨rfl,rfl,rfl⟩;have:=xH s;exact⟨_,Y,_,Y,by rw[←this];exact decide_eq_true_iff.symm,Y,Y⟩
 exact aS0 s h8 K
def aXD(s:List UInt8)(hs:s.length≤1000000)(K:Hl):Sp x3 230 [str s,str ws] K [] (Val (.bool (s.any fS)) K):=by
 refine bN Tryz.func230 Y Tryz.ntmps230 Y Y fun F w=>?_;refine zz9 ?_;refine bA Y Y (aYB s hs _) .nil Y ?_;rintro _ K _ ⟨n,rfl,hn,rfl,rfl⟩ -;refine zz5 ?_;refine uAf ?_;refine zz1 ?_;refine jW ?_ _
 rw[xAP,←hn];simp
def bAB(s sep:List UInt8)(K:Hl)(hg:Glob K)(hs:s.length < 4294967281):Sp x3 229 [str s,str sep] K [] (Val (.tuple #[str (Lib.cut s sep).1,str (Lib.cut s sep).2.1,.bool (Lib.cut s sep).2.2]) K):=by
 refine rD ⟨_,Tryz.func229,Y,Y⟩ fun w hw=>?_;obtain⟨m,T,fz,hm⟩:=hg.maxLen;refine(Tryz.strings_Cut ⟨s.toArray⟩ ⟨sep.toArray⟩ m w (by simpa[ByteArray.size]using hs) (oH (hw _ _ hm) Y)).mono fun e w' ⟨he,n,hw'⟩=>⟨he,?_⟩
 rw[hw'];exact⟨Y,Y,Y,xAA _,fun _ _=>Y⟩
def bH6(s sep:List UInt8):(Lib.cut s sep).2.1.length≤s.length:=by
 unfold Lib.cut;split
 ·simp
 simp
def aGA(s:List UInt8)(K:Hl)(hg:Glob K)(hs:s.length≤100000):Sp x3 196 [str s] K [] (Val (.bool (fM s)) K):=by
 have hcl:=bH6 s [64];refine bN Tryz.func196 Y Tryz.ntmps196 Y Y fun F w=>?_;refine zz8 ?_;refine cN Y Y (bAB s [64] _ hg aH) Y (zz13 ?_);refine kN 13 Y (fun g13=>?_) (fun g13=>?_)
 ·refine zz6 ?_;refine bV 17 Y (fun g17=>?_) (fun g17=>?_)
  ·refine zz6 ?_;refine bV 21 Y (fun g21=>?_) (fun g21=>?_)
   ·refine zz3 ?_;refine cN Y Y (aXD s aH _) Y (zz1 ?_);refine aA gC3 Y (zz2 ?_);refine kN 26 Y (fun g26=>?_) (fun g26=>?_)
    ·refine zz3 ?_;refine cN Y Y (aBL (Lib.cut s [64]).2.1 [64] _ hg aH) Y (zz1 ?_);refine aA gC3 Y (zz2 ?_);refine kN 31 Y (fun g31=>?_) (fun g31=>?_)
     ·refine zz11 ?_;refine uAf ?_;refine zz1 ?_;refine jW ?_ _
      rw[nM];unfold ad;have hd32:decide ((s.length:Int)≤32)=decide (s.length≤32):=gE3
      generalize s.any fS=xb at*
      by_cases hix:0≤Lib.index (Lib.cut s [64]).2.1 [64]
      ·simp_all
      simp_all
     refine zz8 ?_;refine uAf ?_;refine zz1 ?_;refine jW ?_ _
     rw[nM];unfold ad;have hd32:decide ((s.length:Int)≤32)=decide (s.length≤32):=gE3
     generalize s.any fS=xb at*
     by_cases hix:0≤Lib.index (Lib.cut s [64]).2.1 [64]
     ·simp_all
     simp_all
    refine zz13 ?_;refine uAf ?_;refine zz1 ?_;refine jW ?_ _
    rw[nM];unfold ad;have hd32:decide ((s.length:Int)≤32)=decide (s.length≤32):=gE3
    generalize s.any fS=xb at*
    by_cases hix:0≤Lib.index (Lib.cut s [64]).2.1 [64]
    ·simp_all
    simp_all
   refine zz18 ?_;refine uAf ?_;refine zz1 ?_;refine jW ?_ _
   rw[nM];unfold ad;have hd32:decide ((s.length:Int)≤32)=decide (s.length≤32):=gE3
   generalize s.any fS=xb at*
   by_cases hix:0≤Lib.index (Lib.cut s [64]).2.1 [64]
   ·simp_all
   simp_all
  refine zz22 ?_;refine uAf ?_;refine zz1 ?_;refine jW ?_ _
  rw[nM];unfold ad;have hd32:decide ((s.length:Int)≤32)=decide (s.length≤32):=gE3
  generalize s.any fS=xb at*
  by_cases hix:0≤Lib.index (Lib.cut s [64]).2.1 [64]
  ·simp_all
  simp_all
 refine zz26 ?_;refine uAf ?_;refine zz1 ?_;refine jW ?_ _
 rw[nM];unfold ad;have hd32:decide ((s.length:Int)≤32)=decide (s.length≤32):=gE3
 generalize s.any fS=xb at*
 by_cases hix:0≤Lib.index (Lib.cut s [64]).2.1 [64]
 ·simp_all
 simp_all
def fnOf(op:Int):Nat:=if op=1 then 121 else if op=2 then 123 else if op=3 then 125 else if op=4 then 127 else if op=5 then 128 else if op=9 then 130 else if op=10 then 132 else if op=11 then 133 else if op=12 then 134 else if op=13 then 135 else 129
def aUM(b mb:Nat)(m:Msg)(hv pv:Value)(nm:Bool)(s:MS)(o:Ins)(av bv:Value)(n:Nat)(K:Hl)(hop:1≤o.op∧o.op≤13)(hg:Glob K)(hpv:Ksl (a7 9) K pv s.parts)(ha:Ksl (a7 9) K av o.a)(hb:Ksl (a7 9) K bv o.b)(hh:Ksl hdEl K hv m.hs)(hm:MsgOk m)(ho:InsOk o)(hs:MInv s)(hp:s.pc < 1000)(hn:n < 1000):
  Sp x3 (fnOf o.op) [ptr b,qA o av bv,i64 n] K [mch b mb m hv pv nm s] (MI b mb m hv nm (Mach.step nm m n o s)):=by
 have hst:s.stack.length≤100:=by have:=hs.stack;omega
 have hhs:∀h∈m.hs,h.1.length≤1000000:=fun h hh=>by have:=(hm.hs h hh).1;omega
 have hvl:∀x∈jA (dH nm s.vars s.parts) m o,x.length≤1000000:=fun x hx=>by have:=aLK hm ho x hx;omega
 unfold fnOf Mach.step
 by_cases h1:o.op=1
 ·rw[x7 h1,x7 h1];exact bCS b mb m hv pv nm s o av bv n K hpv ha hb
 rw[x5 h1,x5 h1]
 by_cases h2:o.op=2
 ·rw[x7 h2,x7 h2];exact bCT b mb m hv pv nm s o av bv n K hpv ha hb hp hn hst
 rw[x5 h2,x5 h2]
 by_cases h3:o.op=3
 ·rw[x7 h3,x7 h3];exact bCU b mb m hv pv nm s o av bv n K hpv ha hb hp hn hst
 rw[x5 h3,x5 h3]
 by_cases h4:o.op=4
 ·rw[x7 h4,x7 h4];exact bCV b mb m hv pv nm s o av bv n K hpv ha hb hp hn hst
 rw[x5 h4,x5 h4]
 by_cases h5:o.op=5
 ·rw[x7 h5,x7 h5];exact bCW b mb m hv pv nm s o av bv n K hpv ha hb hp hn hst
 rw[x5 h5,x5 h5]
 by_cases h9:o.op=9
 ·rw[x7 h9,x5 aH,x7 h9];exact bCX b mb m hv pv nm s o av bv n K hg hpv ha hb hh hm.hn hhs ho.an ho.a hs.small
 rw[x5 h9]
 by_cases h10:o.op=10
 ·rw[x7 h10,x5 aH,x5 h9,x7 h10];exact bCY b mb m hv pv nm s o av bv n K hpv ha hb
 rw[x5 h10]
 by_cases h11:o.op=11
 ·rw[x7 h11,x5 aH,x5 h9,x5 h10,x7 h11];exact aW1 b mb m hv pv nm s o av bv n K hg hpv ha hb ho.a hs.small hs.acts (fun x K hg hx=>aGA x K hg hx)
 rw[x5 h11]
 by_cases h12:o.op=12
 ·rw[x7 h12,x5 aH,x5 h9,x5 h10,x5 h11,x7 h12];exact bAH b mb m hv pv nm s o av bv n K hg hpv ha hb ho.b hs.small
 rw[x5 h12]
 by_cases h13:o.op=13
 ·rw[x7 h13,x5 aH,x5 h9,x5 h10,x5 h11,x5 h12,x7 h13];exact bCZ b mb m hv pv nm s o av bv n K hpv ha hb
 rw[x5 h13,x7 aH];exact aPI b mb m hv pv nm s o av bv n K hg hpv ha hb hh hm.hn hhs ho.an ho.a ho.bn ho.b hs.small hvl
def aJZ:List Cell:=⟨.nilFunc,rfl⟩::([1,2,3,4,5,6,7,8,9,10,11,12,13].map fun op=>(⟨.func (.func (fnOf op)) #[] #[],rfl⟩:Cell))++[⟨.nilFunc,rfl⟩]
def bOM:∀k:Fin 13,([1,2,3,4,5,6,7,8,9,10,11,12,13]:List Int)[k.1]?=some ((k.1:Int)+1):=by decide
def bC0{op:Int}(h:1≤op∧op≤13):aJZ[op.toNat]?=some ⟨.func (.func (fnOf op)) #[] #[],rfl⟩:=by
 obtain⟨n,hn⟩:∃n:Nat,op.toNat=n+1:=⟨op.toNat - 1,by omega⟩;have hlt:n < 13:=by omega
 have h2:=bOM ⟨n,hlt⟩;simp only at h2;have e:(n:Int)+1=op:=by omega
 rw[e]at h2;unfold aJZ;rw[hn,List.cons_append,List.getElem?_cons_succ,xA5 (by simpa using hlt),xAQ,h2]
 rfl
def aSE(K:Hl):Sp x3 91 [] K [] (Ret fun v K' L'=>Ksl (cC 175) K' v aJZ∧L'=[]):=by
 refine bN Tryz.func91 Y Tryz.ntmps91 Y Y fun F w=>?_;refine zz7 ?_;refine cJ (bM (z0:=[.nilFunc,.nilFunc,.nilFunc,.nilFunc,.nilFunc,.nilFunc,.nilFunc,.nilFunc,.nilFunc,.nilFunc,.nilFunc,.nilFunc,.nilFunc,.nilFunc,.nilFunc]) aE7 bPS Y Y Y Y dF) Y ?_;rintro _ K _ ⟨b1,rfl,rfl,rfl⟩ -;refine zz4 ?_;refine fB fun KS leS hS=>?_;refine bI Y Y leS ?_;exact⟨_,Y,.inr ⟨b1,0,15,_,_,Y,⟨_,hS⟩,Y⟩,Y⟩
end Go.Proofs
end
section
attribute [local irreducible] Go.SL.T Go.SL.OL Go.SL.D Go.SL.DL Go.SL.Ev Go.SL.Ef Go.SL.EfS
namespace Go.Proofs
open Go Go.SL Go.Syn Go.Mach Go.Cmp
def bFQ(b6 b8:Nat)(K:Hl):SpD x3 89 [ptr b6,ptr b8] K [] .returning fun e u' K' L'=>u'=.returning∧(e=.returned (.tuple #[])∧K'=K∧L'=[]):=by
 refine aM9 (rv:=.nilIface) (u':=.returning) Tryz.func89 Y Tryz.ntmps89 Y Y Y Y zY fun F w=>?_;refine zz9 ?_;exact⟨Y,Y,Y⟩
def bFP(b6 b8 fb:Nat)(v1 v2:Value)(K:Hl):SpD x3 89 [ptr b6,ptr b8] K [pt b8 (bL [v2] 83),pt b6 (bL [v1] 49)] (.panicking [{v:=.iface 126 (ptr fb),recovered:=false}])
  fun e u' K' L'=>u'=.panicking [{v:=.iface 126 (ptr fb),recovered:=true}]∧(e=.returned (.tuple #[])∧K'=K∧∃bk,L'=[pt b8 (bL [.iface 126 (ptr fb)] 83),pt b6 (bL [.slice (some ⟨bk,0,none⟩) 1 1] 49),pt bk (bL [i64 1,str []] 75)]):=by
 refine aM9 (rv:=.iface 126 (ptr fb)) (u':=.panicking [{v:=.iface 126 (ptr fb),recovered:=true}]) Tryz.func89 Y Tryz.ntmps89 Y Y Y Y zX fun F w=>?_;refine zz10 ?_;refine aA (jX Tryz.underlying126 (fun _ h=>by cases h) Y) Y (zz11 ?_);refine aA gC3 Y (zz6 ?_);refine aA (dG aJG aAB dF) Y ?_;refine cJ (bM (z0:=[.int .i64 0,(str [])]) jU aIV Y Y Y Y dF) Y ?_;rintro _ K _ ⟨b17,rfl,rfl,rfl⟩ -;refine zz1 ?_;refine aA (fE Tryz.underlying126 (fun _ h=>by cases h) Y) Y ?_;refine uBi ?_;rintro _ K _ ⟨rfl,rfl⟩ -;refine uAq ?_;rintro _ K _ ⟨rfl,rfl⟩ -;refine aG ?_;refine uAv ?_;refine zz1 ?_;exact⟨Y,Y,b17,Y⟩
def ErrP(e:Option (Int×Int))(ev:Value)(M:List Asn):Prop:=match e with
 |none=>ev=.nilIface∧M=[]
 |some (e,p)=>∃fb,ev=.iface 126 (ptr fb)∧M=[pt fb (bL [i64 e,i64 p] 131)]
def RunR(out:Out):Ending→Hl→List Asn→Prop:=Ret fun v K' L'=>∃av ev M,v=.tuple #[av,i64 out.steps,ev]∧L'=sl true dP av out.acts::M∧ErrP out.err ev M
def bF1{α:Type}{k:El α}{b:Nat}{xs:List α}{n:Nat}{M:List Asn}(hx:xs≠[])(hn:n=xs.length):∀h,Sat (pt b (bL (k.cs xs) k.e)::M) h→Sat (sl true k (.slice (some ⟨b,0,none⟩) n n) xs::M) h:=by
 subst hn;rintro h ⟨a,l,ha,hl,hd,rfl⟩;refine⟨a,l,.inr ⟨b,xs.length,[],(0,0),Y,fun _=>hx,xAA _,by simp,.inl (xAA _),?_⟩,hl,hd,Y⟩
 rw[xAL];exact ha
def aFX{n:Nat}{w:World}{F K0 K:Hl}{fr:Fr}{b6 b8 fb:Nat}{v1 v2:Value}{e p x:Int}{out:Out}{st:Nat}(g6:fr.get 6=some (ptr b6))(g7:fr.get 7=some (i64 x))(g8:fr.get 8=some (ptr b8))(le:K0.le K)(ho:out=⟨[(1,[])],st,some (e,p)⟩)(hx:x=st):
  D ⟨x3,n,[dfr 89 #[ptr b6,ptr b8]],w,F⟩ (.panic [{v:=.iface 126 (ptr fb),recovered:=false}]) fr K [pt fb (bL [i64 e,i64 p] 131),pt b8 (bL [v2] 83),pt b6 (bL [v1] 49)] (aBA x3 Tryz.f55 w F K0 (RunR out)):=by
 subst ho;subst hx
 refine bCL (.pan _) Y lN aCY g6 g7 g8 (aM cI (aM cI bF)) (bFP b6 b8 fb v1 v2 K) Y ?_;rintro _ _ _ ⟨rfl,rfl,bk,rfl⟩;refine⟨⟨_,Y⟩,fun le2=>⟨_,_,[sl true dP (.slice (some ⟨bk,0,none⟩) 1 1) [(1,[])],pt fb (bL [i64 e,i64 p] 131)],fun h hh=>?_,⟨_,Y,_,_,_,Y,Y,fb,Y,Y⟩,le⟩⟩
 exact iM (eR (fun h hh=>eR (fun h hh=>bF1 (k:=dP) (xs:=[(1,[])]) (by simp) Y h hh) hh) hh)
def mF{n:Nat}{w:World}{F K0 K:Hl}{fr:Fr}{b6 b8:Nat}{av:Value}{out:Out}{x:Int}{st:Nat}{acts:List gA}(g6:fr.get 6=some (ptr b6))(g7:fr.get 7=some (i64 x))(g8:fr.get 8=some (ptr b8))(le:K0.le K)(ho:out=⟨acts,st,none⟩)(hx:x=st):
  D ⟨x3,n,[dfr 89 #[ptr b6,ptr b8]],w,F⟩ .ret fr K [pt b6 (bL [av] 49),pt b8 (bL [.nilIface] 83),sl true dP av acts] (aBA x3 Tryz.f55 w F K0 (RunR out)):=by
 subst ho;subst hx
 refine bCL .ret Y lN aCY g6 g7 g8 .nil (bFQ b6 b8 K) Y ?_;rintro _ _ _ ⟨rfl,rfl,rfl⟩;exact⟨⟨_,Y⟩,fun le2=>⟨_,_,[sl true dP av acts],fun h hh=>hh,⟨_,Y,_,_,_,Y,Y,Y,Y⟩,le⟩⟩
def aY4{b mb:Nat}{m:Msg}{hv:Value}{nm:Bool}{L:List Asn}:∀h,Sat (pt b (bL [str m.from_,str m.to_,i64 m.size,hv,.slice none 0 0,.bool true,.bool nm,.map (some mb),.slice none 0 0,.slice none 0 0,i64 0] 170)::pt mb (mapO [] 0)::L) h→Sat (mch b mb m hv (.slice none 0 0) nm Mach.start::L) h:=by
 intro h hh;refine f9 (av:=.slice none 0 0) (sv:=.slice none 0 0) (f:=fun _=>0) (c:=0) (s:=Mach.start) h ?_;exact eR (fun h hh=>fF (fF hh)) hh
def aYN{nm:Bool}{m:Msg}{code:List Ins}{f st:Nat}{s:MS}(h:code.length≤s.pc):Mach.loop nm m code (f+1) st s=⟨if s.keep=true then s.acts++[(1,[])]else s.acts,st,none⟩:=by
 rw[Mach.loop,xAD h]
def aYO{nm:Bool}{m:Msg}{code:List Ins}{f st:Nat}{s:MS}{o:Ins}(h:code[s.pc]?=some o)(ho:o.op=14):Mach.loop nm m code (f+1) st s=⟨if s.keep=true then s.acts++[(1,[])]else s.acts,st+1,none⟩:=by
 rw[Mach.loop,h];simp only[if_pos ho]
def aHE{nm:Bool}{m:Msg}{code:List Ins}{f st:Nat}{s:MS}{o:Ins}{e:Int×Int}(h:code[s.pc]?=some o)(ho:¬o.op=14)(hs:Mach.step nm m code.length o s=.error e):Mach.loop nm m code (f+1) st s=⟨[(1,[])],st+1,some e⟩:=by
 rw[Mach.loop,h];simp only[if_neg ho,hs]
def bIU{nm:Bool}{m:Msg}{code:List Ins}{f st:Nat}{s t:MS}{o:Ins}(h:code[s.pc]?=some o)(ho:¬o.op=14)(hs:Mach.step nm m code.length o s=.ok t):Mach.loop nm m code (f+1) st s=Mach.loop nm m code f (st+1) {t with pc:=t.pc+1}:=by
 rw[Mach.loop,h];simp only[if_neg ho,hs]
def bD4{p:Prop}[Decidable p]{e q pc:Int}(h:(if p then (Except.ok ():Res Unit)else .error (12,pc))=.error (e,q)):¬p∧e=12∧q=pc:=by
 split at h
 ·cases h
 rename_i hp;cases h;exact⟨hp,Y,Y⟩
def aQE(nm:Bool)(cv hv:Value)(vs:List InsV)(code:List Ins)(m:Msg)(K:Hl)(hg:Glob K)(hcv:Ksl cT K cv vs)(hR:RIs K vs code)(hh:Ksl hdEl K hv m.hs)(hm:MsgOk m)(hc:∀o∈code,InsOk o)(hcl:code.length≤1000000):
  Sp x3 55 [.bool nm,cv,.agg #[str m.from_,str m.to_,i64 m.size,hv]] K [] (RunR (Mach.run nm code m)):=by
 have hlen:vs.length=code.length:=hR.length;have hdl:aJZ.length=15:=rfl;obtain⟨ha,hn,hcp,rfl⟩:=hh.isSlice;obtain⟨ca,cn,ccp,rfl⟩:=hcv.isSlice;refine aID Tryz.func55 Y Tryz.ntmps55 Y Y fun F w=>?_;refine zz3 ?_;rintro _ K _ ⟨b5,rfl,rfl,rfl⟩ -;refine zz1 ?_;rintro _ K _ ⟨b6,rfl,rfl,rfl⟩ -;refine zz2 ?_;rintro _ K _ ⟨b8,rfl,rfl,rfl⟩ -;refine zz5 ?_;refine aA (dG bO4 bNC dF) Y (zz1 ?_);refine cJ uZ Y ?_;rintro _ K _ ⟨b15,rfl,rfl,rfl⟩ -;refine aA (dG bO5 bND dF) Y (zz1 ?_);rintro _ K _ ⟨b17,rfl,rfl,rfl⟩ -;refine zz4 ?_;refine jJ (aY4 (m:=m) (hv:=.slice ha hn hcp) (nm:=nm)) ?_;refine mV (aM bW (aM bW (aM bW bF))) (zz2 ?_);refine aPO Y (zz6 ?_);refine aA (bU (k:=cT) Y Tryz.underlying36 Y aL) Y (zz3 ?_);refine aY 21 Y (fun h21=>?_) (fun h21=>?_)
 ·refine zz2 ?_;refine cA Y Y (mJ _ 12 400 _) .nil Y gC6 ?_ ?_
  ·rintro _ _ _ ⟨fb,h,rfl⟩ le1;cases h
   refine uAy ?_;refine aV ?_;exact aFX Y Y Y b0 (by (unfold Mach.run;rw[x7 aH])) aH
  rintro _ _ _ ⟨_,h,_⟩;cases h
 have hc4:code.length≤400:=by omega
 refine zz4 ?_;refine bA Y Y (aSE _) .nil Y ?_;rintro tv KD _ ⟨hTab,rfl⟩ leD;refine zz5 ?_;refine eH (fun(q:RI)=>KD.le q.K∧Ksl (a7 9) q.K q.pv q.s.parts∧MInv q.s∧q.st≤q.s.pc∧q.s.pc≤code.length∧∃f,code.length≤f+q.s.pc∧Mach.run nm code m=Mach.loop nm m code (f+1) q.st q.s) (fun q=>[(1,.slice ca cn ccp),(6,ptr b6),(7,i64 q.st),(8,ptr b8),(9,ptr b17),(10,tv)]) (fun q=>q.K) (fun q=>[mch b17 b15 m (.slice ha hn hcp) q.pv nm q.s,pt b8 (bL [.nilIface] 83),pt b6 (bL [.slice none 0 0] 49)]) (fun q=>code.length - q.s.pc) ⟨0,Mach.start,.slice none 0 0,KD⟩ ⟨xAB _,.inl ⟨none,0,Y,Y⟩,MInv.start,x9 _,x9 _,code.length,by omega,by unfold Mach.run;rw[x5 aH]⟩ aS Y (fun _ h=>h) ?_;intro ⟨st,s,pv,K1⟩ ⟨hle,hpv,hinv,hst,hpc,f,hf,hx⟩;dsimp only at hle hpv hinv hst hpc hf hx ⊢;have hle0:=x6 leD hle;have hcv1:=hcv.mono hle0;have hh1:=hh.mono hle0;have hg1:=hg.mono hle0;have hTab1:=hTab.mono hle;refine wQ fun av sv fv c=>?_;refine oU (p:=av.oneCell'=true) (fun h hs=>?_) ?_
 ·obtain⟨_,l,_,hl,_,_⟩:=hs;obtain⟨y,_,hy,_,_,_⟩:=hl;obtain⟨a,n,c,rfl⟩:=aQL y hy;rfl
 intro hav;refine zz8 ?_;refine aA (bU (k:=cT) Y Tryz.underlying36 Y aL) Y (zz3 ?_);refine aY 31 Y (fun h31=>?_) (fun h31=>?_)
 ·have hilt:s.pc < vs.length:=by omega
  obtain⟨v,hvv⟩:∃v,vs[s.pc]?=some v:=⟨vs[s.pc]'hilt,x4 hilt⟩;obtain⟨o,ho,hro⟩:=(hR.mono hle0).get hvv;obtain⟨vop,vn,vtag,voct,⟨va,hva⟩,⟨vb,hvb⟩,vat⟩:=v;obtain⟨rfl,rfl,rfl,rfl,rfl,hra,hrb⟩:=hro;dsimp only at hra hrb;obtain⟨sa,sn,sc,rfl⟩:=hra.isSlice;obtain⟨ta,tn,tc,rfl⟩:=hrb.isSlice;have hoo:=hc o (x8 ho);refine zz17 ?_;refine aA (aX (k:=cT) eU Y aL Y Y gDB) Y ?_;refine aA (fA (n:=0) (k:=cT) iF Y aL b0) Y (zz1 ?_);rintro _ K _ ⟨b11,rfl,rfl,rfl⟩ -;refine cD (cX iF Y Y Y bR gC1 (.cons (.cons (.cons (.cons (.cons (.cons (.cons .nil))))))) gC8) ?_;rintro _ K _ ⟨rfl,rfl⟩ -;refine zz10 ?_;refine aY 43 Y (fun h43=>?_) (fun h43=>?_)
  ·have h43:o.op=14:=h43;have hx:=hx.trans (aYO ho h43);refine zz16 ?_;refine d9 77 Y (fun h77=>?_) (fun h77=>?_)
   ·refine zz7 ?_;refine aA (dG aJG aAB dF) Y ?_;refine cJ (bM (z0:=[.int .i64 0,(str [])]) jU aIV Y Y Y Y dF) Y ?_;rintro _ K _ ⟨b85,rfl,rfl,rfl⟩ -;refine cJ (dQ (k:=dP) (ys:=[((1:Int),([]:List UInt8))]) n3 Y Y bR (fun w j=>dJ Tryz.underlying49 (SeesSl.at (k:=dP) (.blk aL Y Y) j)) gF6 gF6) Y ?_;rintro v86 K _ ⟨rfl,rfl,ho86⟩ -;refine zz3 ?_;refine cD (bX lN Y Y dA bR aZe Y) ?_;rintro _ K _ ⟨rfl,rfl⟩ -;refine zz10 ?_;refine uBi ?_;rintro _ K _ ⟨rfl,rfl⟩ -;refine zz1 ?_;refine uAq ?_;rintro _ K _ ⟨rfl,rfl⟩ -;refine zz3 ?_
    first
     |(refine aQ (aM k5T (aM yY (aM cI bF))) ?_;exact mF Y Y Y hle0 gEB aH)
     |(refine aQ (aM k6T (aM k5T (aM e7 bF))) ?_;exact mF Y Y Y hle0 gEB aH)
     |exact gB0
     |exact gBZ
   refine zz10 ?_;refine uBi ?_;rintro _ K _ ⟨rfl,rfl⟩ -;refine zz1 ?_;refine uAq ?_;rintro _ K _ ⟨rfl,rfl⟩ -;refine zz3 ?_
   first
    |(refine aQ (aM k5T (aM yY (aM cI bF))) ?_;exact mF Y Y Y hle0 gEB aH)
    |(refine aQ (aM k6T (aM k5T (aM e7 bF))) ?_;exact mF Y Y Y hle0 gEB aH)
    |exact gB0
    |exact gBZ
  have h43:¬o.op=14:=h43;refine zz9 ?_;refine bV 48 Y (fun g48=>?_) (fun g48=>?_)
  ·have g48:0 < o.op:=g48;refine zz7 ?_;refine aA (bU (k:=(cC 175)) Y Tryz.underlying172 Y aL) Y (zz3 ?_);refine cA Y Y (s7 (o.op < (aJZ.length:Int)) _ _ _ _ _ _ _ _ _ _ _ _ _) bS Y (fun _ _=>cF _ _) ?_ ?_
   ·rintro _ _ _ hTr le1;obtain⟨e,p,hu,fb,h,rfl⟩:=cG hTr;cases h
    refine aQ (aM bW (aM yY (aM yY bF))) (zz5 ?_);exact aFX Y Y Y (x6 hle0 le1) (by (obtain⟨q1,rfl,rfl⟩:=bD4 hu;rw[hx,aHE ho h43 (step_bad aH)])) aH
   rintro _ K _ hTr -;obtain⟨u0,hu,rfl,rfl,rfl⟩:=cH hTr;clear hTr;have hbl:o.op < (aJZ.length:Int):=xAZ (fun h=>by rw[x5 h]at hu;cases hu);have hop:1≤o.op∧o.op≤13:=⟨by omega,by omega⟩;refine zz3 ?_;refine z8 (aM bW (aM cI (aM cI (aM cI bF)))) ?_;refine jJ (f9 (m:=m) (hv:=.slice ha hn hcp) (pv:=pv) (nm:=nm) (s:=s)) ?_;refine cZ (anc:=[0,0,2,7,15,0,0,0,128,511]) (ord:=[0,1,2,3,4,5,6,7,8,9]) [9] [9] mixed gC5 (cQ _) (zz3 ?_);refine aJ Y Y (.none Y) Y Y (aX (k:=cC 175) (j:=o.op.toNat) aE7 Y (.known hTab1) Y (show o.op=(o.op.toNat:Int) by omega) aH) Y ?_;refine aJ Y Y (.none Y) Y Y (cE (o:=0) (k:=cC 175) bPK Y (.known hTab1) (bC0 hop) Y) Y (zz3 ?_);refine aJ Y Y (.none Y) Y Y (bU (k:=cT) Y Tryz.underlying36 Y aL) Y ?_;refine aSD (fr':=[(6,ptr b6),(7,i64 ((st:Int)+1)),(8,ptr b8)]) Y (.none Y) Y Y Y (aUM b17 b15 m (.slice ha hn hcp) pv nm s o (.slice sa sn sc) (.slice ta tn tc) vs.length _ hop hg1 hpv hra hrb hh1 hm hoo hinv aH aH) (aM bW bF) Y (fun _ _=>cF _ _) aS Y ?_ ?_
   ·rintro _ _ _ hTr le1;obtain⟨e,p,hq,fb,h,rfl⟩:=cG hTr;cases h
    refine uAy ?_;refine zz5 ?_;exact aFX Y Y Y (x6 hle0 le1) (by (rw[hlen]at hq;rw[hx,aHE ho h43 hq])) aH
   rintro _ K3 _ hTr leK3;obtain⟨t,hq,rfl,pv3,hpv3,rfl⟩:=cH hTr;clear hTr;rw[hlen]at hq;have hinv2:=hinv.step hm hoo hq;have hinv3:MInv {t with pc:=t.pc+1}:=⟨hinv2.stack,hinv2.acts,hinv2.vars,hinv2.parts⟩;have hp2:=aCS hq (by omega:s.pc < code.length);refine zz2 ?_;refine wQ fun av3 sv3 fv3 c3=>?_;refine zz8 ?_;refine uAb ?_;rintro _ K _ ⟨rfl,rfl⟩ -;refine zz2 ?_;have hp3:=aCS hq (by omega:s.pc < code.length);have e:((t.pc+1:Nat):Int)=(t.pc:Int)+1:=by omega
   refine cS (fun h hh=>f9 (m:=m) (hv:=.slice ha hn hcp) (pv:=pv3) (nm:=nm) (s:={t with pc:=t.pc+1}) h (by show Sat (mblk _ _ _ _ _ _ _ _ _ _ _ ((t.pc+1:Nat):Int)::_) h;rw[e];exact hh)) ?_;refine uAy ?_;exact cM ⟨st+1,{t with pc:=t.pc+1},pv3,_⟩ ⟨x6 hle leK3,hpv3,hinv3,by (show st+1≤t.pc+1);omega,by (show t.pc+1≤code.length);omega,f - 1,by (show code.length≤f - 1+(t.pc+1));omega,by have e2:f - 1+1=f:=aH;rw[e2,hx,bIU ho h43 hq]⟩ (by (show code.length - (t.pc+1) < code.length - s.pc);omega) aS Y (fun _ h=>h)
  have g48:¬0 < o.op:=g48;refine zz6 ?_;refine cA Y Y (tV _ _ _ _ _ _ _ _ _ _ _ _ _) bS Y gC6 ?_ ?_
  ·rintro _ _ _ ⟨fb,h,rfl⟩ le1;cases h
   refine aQ (aM bW (aM yY (aM yY bF))) (zz5 ?_);exact aFX Y Y Y (x6 hle0 le1) (by rw[hx,aHE ho h43 (step_bad aH)]) aH
  rintro _ _ _ ⟨_,h,_⟩;cases h
 have hx:=hx.trans (aYN aH);refine zz15 ?_;refine d9 77 Y (fun h77=>?_) (fun h77=>?_)
 ·refine zz7 ?_;refine aA (dG aJG aAB dF) Y ?_;refine cJ (bM (z0:=[.int .i64 0,(str [])]) jU aIV Y Y Y Y dF) Y ?_;rintro _ K _ ⟨b85,rfl,rfl,rfl⟩ -;refine cJ (dQ (k:=dP) (ys:=[((1:Int),([]:List UInt8))]) n3 Y Y bR (fun w j=>dJ Tryz.underlying49 (SeesSl.at (k:=dP) (.blk aL Y Y) j)) gF6 gF6) Y ?_;rintro v86 K _ ⟨rfl,rfl,ho86⟩ -;refine zz3 ?_;refine cD (bX lN Y Y dA bR aZe Y) ?_;rintro _ K _ ⟨rfl,rfl⟩ -;refine zz10 ?_;refine uBi ?_;rintro _ K _ ⟨rfl,rfl⟩ -;refine zz1 ?_;refine uAq ?_;rintro _ K _ ⟨rfl,rfl⟩ -;refine zz3 ?_
  first
   |(refine aQ (aM k5T (aM yY (aM cI bF))) ?_;exact mF Y Y Y hle0 gEB aH)
   |(refine aQ (aM k6T (aM k5T (aM e7 bF))) ?_;exact mF Y Y Y hle0 gEB aH)
   |exact gB0
   |exact gBZ
 refine zz10 ?_;refine uBi ?_;rintro _ K _ ⟨rfl,rfl⟩ -;refine zz1 ?_;refine uAq ?_;rintro _ K _ ⟨rfl,rfl⟩ -;refine zz3 ?_
 first
  |(refine aQ (aM k5T (aM yY (aM cI bF))) ?_;exact mF Y Y Y hle0 gEB aH)
  |(refine aQ (aM k6T (aM k5T (aM e7 bF))) ?_;exact mF Y Y Y hle0 gEB aH)
  |exact gB0
  |exact gBZ
end Go.Proofs
end
section
namespace Go.Syn
open Go.Mach
def te:Option (Int×Int)→Int×Int
 |none=>(0,-1)
 |some e=>e
end Go.Syn
end
section
attribute [local irreducible] Go.SL.T Go.SL.OL Go.SL.D Go.SL.DL Go.SL.Ev Go.SL.Ef Go.SL.EfS
namespace Go.Proofs
open Go Go.SL Go.Syn Go.Mach Go.Cmp
def aCF(m:Msg)(hv:Value)(K:Hl)(hh:Ksl hdEl K hv m.hs)(hn:m.hs.length≤1000000):Sp x3 30 [msgV m hv] K [] (Ret fun v K' L'=>∃a n c,v=msgV m (.slice a n c)∧K'=K∧L'=[sl false hdEl (.slice a n c) m.hs]):=by
 obtain⟨ha,hn1,hc,rfl⟩:=hh.isSlice;refine bN Tryz.func30 Y Tryz.ntmps30 Y Y fun F w=>?_;refine zz3 ?_;rintro _ K _ ⟨b1,rfl,rfl,rfl⟩ -;refine zz1 ?_;rintro _ K _ ⟨b2,rfl,rfl,rfl⟩ -;refine zz6 ?_;refine j4 (eL hdEl) ?_;refine cJ (dQ (k:=hdEl) (ys:=m.hs) aNR Y Y .here (fun w j=>dJ Tryz.underlying33 (SeesSl.at (k:=hdEl) (.known hh) j)) gC7 gC7) Y ?_;rintro v5 K _ ⟨rfl,rfl,ho5⟩ -;refine pE iQ ?_;rintro⟨sa,sn,sc,rfl⟩;refine zz1 ?_;refine cD (bX aIR Y Y dA bR aZe Y) ?_;rintro _ K _ ⟨rfl,rfl⟩ -;refine zz5 ?_;refine cD (cX j5 Y Y Y bR gC1 (.cons (.cons (.cons (.cons .nil)))) gC8) ?_;rintro _ K _ ⟨rfl,rfl⟩ -;refine zz3 ?_;refine pY Y Y j5 aL Y Y (xAB _) (aM bW bF) ?_;exact⟨_,Y,_,_,_,Y,Y,Y⟩
structure TI where
 i:Nat
 xs:List (aP×aP)
def mine:aP:=[109,105,110,101]
def zP(m:Msg)(hv:Value)(hs:List (aP×aP))(K:Hl)(hn:hs.length≤1000000):Sp x3 32 [msgV m hv] K [sl false hdEl hv hs] (Ret fun v K' L'=>v=.tuple #[]∧K'=K∧L'=[]):=by
 refine bN Tryz.func32 Y Tryz.ntmps32 Y Y fun F w=>?_;refine oU iQ ?_;rintro⟨sa,sn,sc,rfl⟩;refine zz3 ?_;rintro _ K _ ⟨b1,rfl,rfl,rfl⟩ -;refine zz6 ?_;refine aA (bU (k:=hdEl) Y Tryz.underlying33 Y aL) Y (zz4 ?_);refine eH (fun(q:TI)=>q.i≤hs.length∧q.xs.length=hs.length) (fun q=>[(1,ptr b1),(5,i64 hs.length),(6,i64 q.i)]) (fun _=>K) (fun q=>[pt b1 (bL [str m.from_,str m.to_,i64 m.size,.slice sa sn sc] 35),sl false hdEl (.slice sa sn sc) q.xs]) (fun q=>hs.length - q.i) ⟨0,hs⟩ ⟨x9 _,Y⟩ aS Y (fun _ h=>h) ?_;intro ⟨i,xs⟩ ⟨hi0,hx⟩;dsimp only at hi0 hx ⊢;refine zz6 ?_;refine aY 7 Y (fun h7=>?_) (fun h7=>?_)
 ·have hilt:i < xs.length:=by omega
  refine zz14 ?_;refine aA (dG bQG bPH dF) Y ?_;refine aA (aX (k:=hdEl) sR Y aL Y Y gDB) Y ?_;refine cD (pH (k:=hdEl) (y0:=(mine,mine)) aUN Y Y gDB bR) ?_;rintro _ K _ ⟨rfl,rfl⟩ -;refine zz7 ?_;exact cM ⟨i+1,xs.set i (mine,mine)⟩ ⟨by (show i+1≤hs.length);omega,by simpa using hx⟩ (by (show hs.length - (i+1) < hs.length - i);omega) aS Y (fun _ h=>h)
 refine zz4 ?_;refine uAf ?_;refine zz1 ?_;exact⟨_,Y,Y,Y,Y⟩
end Go.Proofs
end

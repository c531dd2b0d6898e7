/-
  What the proof stands on, part 46: the logic of walks, the walks through the functions, the plain laws. Conditions: as each theorem says. (Merged and shortened by a program.)
-/
import Derived.Test.YthopmddkpdehiaaGreatDoorK16
import Derived.Test.YthopmddkpdehiaaGreatDoorK41
set_option linter.unusedVariables false
set_option linter.unusedSimpArgs false
set_option maxRecDepth 4000
set_option maxHeartbeats 1000000
section
attribute [local irreducible] Go.SL.T Go.SL.OL Go.SL.D Go.SL.DL Go.SL.Ev Go.SL.Ef Go.SL.EfS
namespace Go.Proofs
open Go Go.SL Go.Syn Go.Box Go.Mach
def letB(c:UInt8):Bool:=(decide (97≤c.toNat)&&decide (c.toNat≤122))||(decide (65≤c.toNat)&&decide (c.toNat≤90))||decide (c.toNat=95)
def digB(c:UInt8):Bool:=decide (48≤c.toNat)&&decide (c.toNat≤57)
theorem pX(c:UInt8):(letB c||digB c)=eX c:=by
 have h:∀n:Fin 256,(letB (UInt8.ofNat n.1)||digB (UInt8.ofNat n.1))=eX (UInt8.ofNat n.1):=by decide+kernel
 simpa using h ⟨c.toNat,c.toNat_lt⟩
theorem aEU(c:UInt8)(K:Hl):Sp Tryz.prog 85 [.int .u8 c.toNat] K [] (Val (.bool (letB c)) K):=by
 refine a8 Tryz.func85 rfl Tryz.ntmps85 rfl rfl fun F w=>?_;refine zz10 ?_;refine cH 5 rfl (fun g5=>?_) (fun g5=>?_)
 ·refine zz6 ?_;refine cH 9 rfl (fun g9=>?_) (fun g9=>?_)
  ·refine zz16 ?_;refine lN ?_ _
   unfold letB
   generalize c.toNat=y at*
   rw[Bool.eq_iff_iff];simp;omega
  refine zz6 ?_;refine cH 12 rfl (fun g12=>?_) (fun g12=>?_)
  ·refine zz8 ?_;refine cH 17 rfl (fun g17=>?_) (fun g17=>?_)
   ·refine zz8 ?_;refine lN ?_ _
    unfold letB
    generalize c.toNat=y at*
    rw[Bool.eq_iff_iff];simp;omega
   refine zz10 ?_;refine lN ?_ _
   unfold letB
   generalize c.toNat=y at*
   rw[Bool.eq_iff_iff];simp;omega
  refine zz16 ?_;refine lN ?_ _
  unfold letB
  generalize c.toNat=y at*
  rw[Bool.eq_iff_iff];simp;omega
 refine zz10 ?_;refine cH 12 rfl (fun g12=>?_) (fun g12=>?_)
 ·refine zz8 ?_;refine cH 17 rfl (fun g17=>?_) (fun g17=>?_)
  ·refine zz8 ?_;refine lN ?_ _
   unfold letB
   generalize c.toNat=y at*
   rw[Bool.eq_iff_iff];simp;omega
  refine zz10 ?_;refine lN ?_ _
  unfold letB
  generalize c.toNat=y at*
  rw[Bool.eq_iff_iff];simp;omega
 refine zz16 ?_;refine lN ?_ _
 unfold letB
 generalize c.toNat=y at*
 rw[Bool.eq_iff_iff];simp;omega
theorem aHX(c:UInt8)(K:Hl):Sp Tryz.prog 86 [.int .u8 c.toNat] K [] (Val (.bool (digB c)) K):=by
 refine a8 Tryz.func86 rfl Tryz.ntmps86 rfl rfl fun F w=>?_;refine zz10 ?_;refine cH 5 rfl (fun g5=>?_) (fun g5=>?_)
 ·refine zz10 ?_;refine lN ?_ _
  unfold digB
  generalize c.toNat=y at*
  rw[Bool.eq_iff_iff];simp;omega
 refine zz8 ?_;refine lN ?_ _
 unfold digB
 generalize c.toNat=y at*
 rw[Bool.eq_iff_iff];simp;omega
theorem aUC(s:List UInt8)(K:Hl)(hs:s.length≤140737488355328):Sp Tryz.prog 88 [str s] K [] (Val (.bool (boxed s)) K):=by
  refine a8 Tryz.func88 rfl Tryz.ntmps88 rfl rfl fun F w=>?_;refine zz12 ?_;refine eJ (fun(i:Nat)=>i≤s.length∧∀j c,j < i→s[j]?=some c→fW j c=true) (fun i=>[(0,str s),(3,i64 i)]) (fun _=>_) (fun i=>[]) (fun i=>s.length - i) 0 ⟨Nat.zero_le _,fun j c h _=>by omega⟩ (.cons 0 rfl (.cons 3 rfl .nil)) rfl (fun _ h=>h) ?_;intro i ⟨hi0,hi1⟩;refine zz9 ?_;refine bK 9 rfl (fun h9=>?_) (fun h9=>?_)
  · have hilt:i < s.length:=by omega
    obtain⟨c,hc⟩:∃c,s[i]?=some c:=⟨s[i]'hilt,List.getElem?_eq_getElem hilt⟩;refine zz9 ?_;refine cF rfl rfl (aEU c _) rfl ?_;refine zz8 ?_;refine cF rfl rfl (aHX c _) rfl ?_;refine zz6 ?_;refine aA gAF rfl ?_;refine zz1 ?_;refine lE 22 rfl (fun g22=>?_) (fun g22=>?_)
    · refine zz3 ?_;refine aA gAF rfl ?_;refine zz2 ?_;refine lE 26 rfl (fun g26=>?_) (fun g26=>?_)
      · refine zz10 ?_;refine cH 32 rfl (fun g32=>?_) (fun g32=>?_)
        · refine zz10 ?_;refine cH 37 rfl (fun g37=>?_) (fun g37=>?_)
          · refine zz19 ?_;refine uAl ?_;refine zz1 ?_;refine lN ?_ _
            first
              | (rw [Bool.eq_iff_iff, gZ]
                 simp only[decide_eq_true_eq];exact⟨fun h=>⟨hall,by rintro rfl;simp at*,by omega⟩,fun h=>by omega⟩)
              |(symm;rw[Bool.eq_false_iff];intro hbx;have:=((gZ s).1 hbx).2.1;cases s <;> simp at*;done)
              | (symm; rw [Bool.eq_false_iff]; intro hbx
                 have:=((gZ s).1 hbx).1 i c hc;unfold fW at this;simp only[Bool.or_eq_true,Bool.and_eq_true,decide_eq_true_eq]at this;have hl:eX c=false:=by rw[←pX];simp only[Bool.not_eq_true']at g22 g26;rw[g22,g26];rfl
                 rw[hl]at this;simp at this;omega)
          refine zz9 ?_;refine bK 41 rfl (fun h41=>?_) (fun h41=>?_)
          · refine zz11 ?_;refine uAl ?_;refine zz1 ?_;refine lN ?_ _
            first
              | (rw [Bool.eq_iff_iff, gZ]
                 simp only[decide_eq_true_eq];exact⟨fun h=>⟨hall,by rintro rfl;simp at*,by omega⟩,fun h=>by omega⟩)
              |(symm;rw[Bool.eq_false_iff];intro hbx;have:=((gZ s).1 hbx).2.1;cases s <;> simp at*;done)
              | (symm; rw [Bool.eq_false_iff]; intro hbx
                 have:=((gZ s).1 hbx).1 i c hc;unfold fW at this;simp only[Bool.or_eq_true,Bool.and_eq_true,decide_eq_true_eq]at this;have hl:eX c=false:=by rw[←pX];simp only[Bool.not_eq_true']at g22 g26;rw[g22,g26];rfl
                 rw[hl]at this;simp at this;omega)
          refine zz8 ?_;have hb:fW i c=true:=gAL;refine dF (i+1) ⟨by omega,fun j c2 hj hc2=>?_⟩ aI (.cons 0 rfl (.cons 3 rfl .nil)) rfl (fun _ h=>h)
          rcases Nat.lt_or_ge j i with h|h
          · exact hi1 j c2 h hc2
          have e:j=i:=by omega
          subst e;rw[hc]at hc2;cases hc2;exact hb
        refine zz20 ?_;have hb:fW i c=true:=gAL;refine dF (i+1) ⟨by omega,fun j c2 hj hc2=>?_⟩ aI (.cons 0 rfl (.cons 3 rfl .nil)) rfl (fun _ h=>h)
        rcases Nat.lt_or_ge j i with h|h
        · exact hi1 j c2 h hc2
        have e:j=i:=by omega
        subst e;rw[hc]at hc2;cases hc2;exact hb
      refine zz26 ?_;have hb:fW i c=true:=gAL;refine dF (i+1) ⟨by omega,fun j c2 hj hc2=>?_⟩ aI (.cons 0 rfl (.cons 3 rfl .nil)) rfl (fun _ h=>h)
      rcases Nat.lt_or_ge j i with h|h
      · exact hi1 j c2 h hc2
      have e:j=i:=by omega
      subst e;rw[hc]at hc2;cases hc2;exact hb
    refine zz30 ?_;have hb:fW i c=true:=gAL;refine dF (i+1) ⟨by omega,fun j c2 hj hc2=>?_⟩ aI (.cons 0 rfl (.cons 3 rfl .nil)) rfl (fun _ h=>h)
    rcases Nat.lt_or_ge j i with h|h
    · exact hi1 j c2 h hc2
    have e:j=i:=by omega
    subst e;rw[hc]at hc2;cases hc2;exact hb
  have hall:∀j c,s[j]?=some c→fW j c=true:=fun j c hc=>hi1 j c gB2 hc
  refine zz11 ?_;refine cH 45 rfl (fun g45=>?_) (fun g45=>?_)
  · refine zz11 ?_;refine uAl ?_;refine zz1 ?_;refine lN ?_ _
    first
      | (rw [Bool.eq_iff_iff, gZ]
         simp only[decide_eq_true_eq];exact⟨fun h=>⟨hall,by rintro rfl;simp at*,by omega⟩,fun h=>by omega⟩)
      |(symm;rw[Bool.eq_false_iff];intro hbx;have:=((gZ s).1 hbx).2.1;cases s <;> simp at*;done)
      | (symm; rw [Bool.eq_false_iff]; intro hbx
         have:=((gZ s).1 hbx).1 i c hc;unfold fW at this;simp only[Bool.or_eq_true,Bool.and_eq_true,decide_eq_true_eq]at this;have hl:eX c=false:=by rw[←pX];simp only[Bool.not_eq_true']at g22 g26;rw[g22,g26];rfl
         rw[hl]at this;simp at this;omega)
  refine zz8 ?_;refine uAl ?_;refine zz1 ?_;refine lN ?_ _
  first
    | (rw [Bool.eq_iff_iff, gZ]
       simp only[decide_eq_true_eq];exact⟨fun h=>⟨hall,by rintro rfl;simp at*,by omega⟩,fun h=>by omega⟩)
    |(symm;rw[Bool.eq_false_iff];intro hbx;have:=((gZ s).1 hbx).2.1;cases s <;> simp at*;done)
    | (symm; rw [Bool.eq_false_iff]; intro hbx
       have:=((gZ s).1 hbx).1 i c hc;unfold fW at this;simp only[Bool.or_eq_true,Bool.and_eq_true,decide_eq_true_eq]at this;have hl:eX c=false:=by rw[←pX];simp only[Bool.not_eq_true']at g22 g26;rw[g22,g26];rfl
       rw[hl]at this;simp at this;omega)
theorem aYB(i:Nat)(hi:i < 10)(K:Hl):Sp Tryz.prog 87 [i64 i] K [] (Val (str (Lib.itoa i)) K):=by
 have e:Lib.itoa (i:Int)=[UInt8.ofNat (48+i)]:=by rw[Lib.itoa_nonneg,Lib.decDigits,dif_pos hi]
 refine a8 Tryz.func87 rfl Tryz.ntmps87 rfl rfl fun F w=>?_;refine zz9 ?_;refine aA (zB (cP rfl rfl) aI) rfl ?_;refine zz7 ?_;refine aA (gN (v:=.int .u8 ((UInt8.ofNat (48+i)).toNat:Int)) (kO Tryz.underlying5 Tryz.underlying3 rfl) (by rw[UInt8.toNat_ofNat'];unfold IntKind.wrap IntKind.bits IntKind.signed;simp only[Bool.false_and];simp)) rfl ?_;refine cC (bH (z0:=[.int .u8 0]) kR tz5 rfl rfl rfl rfl (.cons rfl rfl rfl (.cons .nil) .nil)) rfl ?_;rintro _ K _ ⟨b9,rfl,rfl,rfl⟩ -;refine aA (lD (xs:=[UInt8.ofNat (48+i)]) Tryz.underlying130 Tryz.underlying5 Tryz.underlying9 rfl (.blk (.own .here) rfl rfl)) rfl ?_;refine zz5 ?_;refine uAl ?_;refine zz1 ?_;rw[e];exact⟨rfl,rfl,rfl⟩
def aR0(r:Except Int (List File)):Ending→Hl→List Asn→Prop:=Ret fun v K' L'=>match r with
 | .ok xs=>∃u,v=.tuple #[u,i64 0]∧L'=[sl false cD u xs]
 | .error e=>v=.tuple #[.slice none 0 0,i64 e]∧L'=[]
theorem aMQ{p:UInt8→Bool}(h:∀n:Fin 256,p (UInt8.ofNat n.1)=true)(c:UInt8):p c=true:=by simpa using h ⟨c.toNat,c.toNat_lt⟩
theorem bH0{id:aJ}(h1:0 < id.length)(h2:id.length≤8)(h:∀(j:Nat) (c:UInt8),id[j]?=some c→eX c=true):nJ id=false:=by
 have hm:∀c∈id,eX c=true:=fun c hc=>by obtain⟨j,hj,e⟩:=List.mem_iff_getElem.1 hc;exact h j c (by rw[List.getElem?_eq_getElem hj,e])
 have k:∀c:UInt8,(!eX c||!([46,45].contains c))=true:=aMQ gAH;have hb:boxed id=true:=(gZ id).2 ⟨fun i c hc=>by unfold fW;rw[h i c hc];rfl,by rintro rfl;simp at h1,by omega⟩;have ha:(id.any fun c=>[46,45].contains c)=false:=by
  rw[Bool.eq_false_iff];intro ha
  obtain⟨c,hc,hx⟩:=List.any_eq_true.1 ha;have:=k c;rw[hm c hc]at this;simp only[Bool.not_true,Bool.false_or,Bool.not_eq_true']at this;rw[this]at hx;cases hx
 unfold nJ;rw[hb,ha,decide_eq_false (by rintro rfl;simp at h1),decide_eq_false aI];rfl
theorem bCE{id:aJ}{i:Nat}{c:UInt8}(hc:id[i]?=some c)(h:eX c=false):nJ id=true:=by
 have k:∀c:UInt8,(eX c||[46,45].contains c||(decide (c.toNat≠45)&&decide (c.toNat≠46)))=true:=aMQ gAH;have kc:=k c;rw[h,Bool.false_or]at kc;unfold nJ;cases hx:[46,45].contains c with
 |true=>
  have:(id.any fun c=>[46,45].contains c)=true:=List.any_eq_true.2 ⟨c,List.mem_of_getElem? hc,hx⟩;rw[this];simp
 |false=>
  rw[hx,Bool.false_or]at kc;simp only[Bool.and_eq_true,decide_eq_true_eq]at kc;have:boxed id=false:=by
   rw[Bool.eq_false_iff];intro hb
   have:=((gZ id).1 hb).1 i c hc;unfold fW at this;rw[h]at this;simp only[Bool.or_eq_true,Bool.and_eq_true,decide_eq_true_eq]at this;simp at this;omega
  rw[this];simp
attribute [local semireducible] Go.SL.T Go.SL.OL Go.SL.D Go.SL.DL Go.SL.Ev Go.SL.Ef Go.SL.EfS in
theorem bDY(id text:aJ)(v:Value)(acts:List Action)(K:Hl)(hv:Ksl cS K v acts)(hid:id.length≤140737488355328)(ht:text.length≤1048576)(ha:∀a∈acts,a.2.length≤1048576)(hal:acts.length≤140737488355328):
  Sp Tryz.prog 50 [str id,v,str text] K [] (aR0 (eY id acts text)):=by
 refine a8 Tryz.func50 rfl Tryz.ntmps50 rfl rfl fun F w=>?_;refine aH (aC ?_);refine aA (aD rfl) rfl ?_;refine aA (aD rfl) rfl ?_;refine aG (aE ?_);refine aH (aH ?_);refine aC ?_;refine aA (aB rfl) rfl ?_;refine aA (bV rfl Tryz.underlying9 rfl) rfl ?_;refine aA (cP rfl rfl) rfl ?_;refine aA (aB rfl) rfl ?_;refine cH 20 rfl (fun g20=>?_) (fun g20=>?_)
 ·refine aS rfl rfl rfl ?_;refine aS rfl rfl rfl ?_;refine aS rfl rfl rfl ?_;refine aA (bI rfl rfl) rfl ?_;refine aG (aE ?_);refine dS rfl ?_;refine aH (aC ?_);refine aA (aD rfl) rfl ?_;refine aA (aD rfl) rfl ?_;refine aG (aE ?_);refine bG ?_;refine aY ?_;refine fA rfl rfl rfl (Hl.le_refl _) ?_;have hb:nJ id=true:=(by have e:id=[]:=List.length_eq_zero_iff.1 aI;rw[e];rfl);unfold aR0 eY;rw[if_pos hb];exact⟨_,rfl,rfl,rfl⟩
 refine aT rfl rfl ?_;refine aA (aB rfl) rfl ?_;refine aT rfl rfl ?_;refine aA (bV rfl Tryz.underlying9 rfl) rfl ?_;refine aT rfl rfl ?_;refine aA (gD rfl rfl) rfl ?_;refine aA (bA rfl rfl) rfl ?_;refine aG (aE ?_);refine bK 24 rfl (fun h24=>?_) (fun h24=>?_)
 ·refine aH (aC ?_);refine aA (aD rfl) rfl ?_;refine aA (aD rfl) rfl ?_;refine aG (aE ?_);refine bG ?_;refine aY ?_;refine fA rfl rfl rfl (Hl.le_refl _) ?_;have hb:nJ id=true:=(by unfold nJ;rw[decide_eq_true (show 8 < id.length by omega)];simp);unfold aR0 eY;rw[if_pos hb];exact⟨_,rfl,rfl,rfl⟩
 refine aW ?_;refine aE (aH ?_);refine aH (aC ?_);refine aA (aD rfl) rfl ?_;refine aG (aE ?_);refine bB ?_;refine eJ (fun(i:Nat)=>i≤id.length∧∀j c,j < i→id[j]?=some c→eX c=true) (fun i=>[(0,str id),(1,v),(2,str text),(8,i64 i)]) (fun _=>K) (fun i=>[]) (fun i=>id.length - i) 0 ⟨Nat.zero_le _,fun j c h _=>by omega⟩ (.cons 0 rfl (.cons 1 rfl (.cons 2 rfl (.cons 8 rfl .nil)))) rfl (fun _ h=>h) ?_;intro i ⟨hi0,hi1⟩;refine aH (aH ?_);refine aC ?_;refine aA (aB rfl) rfl ?_;refine aA (aB rfl) rfl ?_;refine aA (bV rfl Tryz.underlying9 rfl) rfl ?_;refine aA (cP rfl rfl) rfl ?_;refine aG (aE ?_);refine bK 28 rfl (fun h28=>?_) (fun h28=>?_)
 ·have hilt:i < id.length:=by omega
  obtain⟨c,hc⟩:∃c,id[i]?=some c:=⟨id[i]'hilt,List.getElem?_eq_getElem hilt⟩;refine aW ?_;refine aE (aH ?_);refine bB (aH ?_);refine aC ?_;refine aA (aB rfl) rfl ?_;refine aA (aB rfl) rfl ?_;refine aA (cZ Tryz.underlying9 rfl rfl rfl cB) rfl ?_;refine cF rfl rfl (aEU c _) rfl ?_;refine aA (aD rfl) rfl ?_;refine aG (aE ?_);refine aH (aC ?_);refine aA (aB rfl) rfl ?_;refine aA (aB rfl) rfl ?_;refine aA (cZ Tryz.underlying9 rfl rfl rfl cB) rfl ?_;refine cF rfl rfl (aHX c _) rfl ?_;refine aA (aD rfl) rfl ?_;refine aG (aE ?_);refine aH (aC ?_);refine aA (aB rfl) rfl ?_;refine aA gAF rfl ?_;refine aA (aB rfl) rfl ?_;refine lE 41 rfl (fun g41=>?_) (fun g41=>?_)
  ·refine aT rfl rfl ?_;refine aA (aB rfl) rfl ?_;refine aT rfl rfl ?_;refine aA gAF rfl ?_;refine aA (bI rfl rfl) rfl ?_;refine aG (aE ?_);refine eO 44 rfl (fun h44=>?_) (fun h44=>?_)
   ·refine aH (aC ?_);refine aA (aD rfl) rfl ?_;refine aA (aD rfl) rfl ?_;refine aG (aE ?_);refine bG ?_;refine bU ?_;refine aY ?_;refine aY ?_;refine bU ?_;refine aY ?_;refine fA rfl rfl rfl (Hl.le_refl _) ?_;have hb:nJ id=true:=bCE hc (by rw[←pX];simp only[Bool.not_eq_true']at g41 h44;rw[g41,h44];rfl);unfold aR0 eY;rw[if_pos hb];exact⟨_,rfl,rfl,rfl⟩
   refine aW ?_;refine aO (aE ?_);refine aC ?_;refine aA (aB rfl) rfl ?_;refine aA (bW rfl rfl aI aI) rfl ?_;refine aA (aD rfl) rfl ?_;refine aG ?_;have hb:eX c=true:=gBS;refine dF (i+1) ⟨by omega,fun j c2 hj hc2=>?_⟩ aI (.cons 0 rfl (.cons 1 rfl (.cons 2 rfl (.cons 8 rfl .nil)))) rfl (fun _ h=>h)
   rcases Nat.lt_or_ge j i with h|h
   ·exact hi1 j c2 h hc2
   have e:j=i:=by omega
   subst e;rw[hc]at hc2;cases hc2;exact hb
  refine aS rfl rfl rfl ?_;refine aS rfl rfl rfl ?_;refine aA (bA rfl rfl) rfl ?_;refine aG (aE ?_);refine cI rfl ?_;refine aW ?_;refine aO (aE ?_);refine aC ?_;refine aA (aB rfl) rfl ?_;refine aA (bW rfl rfl aI aI) rfl ?_;refine aA (aD rfl) rfl ?_;refine aG ?_;have hb:eX c=true:=gBS;refine dF (i+1) ⟨by omega,fun j c2 hj hc2=>?_⟩ aI (.cons 0 rfl (.cons 1 rfl (.cons 2 rfl (.cons 8 rfl .nil)))) rfl (fun _ h=>h)
  rcases Nat.lt_or_ge j i with h|h
  ·exact hi1 j c2 h hc2
  have e:j=i:=by omega
  subst e;rw[hc]at hc2;cases hc2;exact hb
 have hbad:nJ id=false:=bH0 aI aI (fun j c hc=>hi1 j c (by rcases Nat.lt_or_ge j id.length with h|h;omega;(rw[List.getElem?_eq_none h]at hc;cases hc)) hc);refine cM ?_;refine aR ?_;refine aR ?_;refine bC ?_;refine aE (aH ?_);refine aH (aC ?_);refine aA (aB rfl) rfl ?_;refine aA (bO (k:=cS) rfl Tryz.underlying29 rfl (.known hv)) rfl ?_;refine aA (gD rfl rfl) rfl ?_;refine aG (aE ?_);refine bK 47 rfl (fun h47=>?_) (fun h47=>?_)
 ·refine aH (aC ?_);refine aA (aD rfl) rfl ?_;refine aA (aD rfl) rfl ?_;refine aG (aE ?_);refine bG ?_;refine aY ?_;refine fA rfl rfl rfl (Hl.le_refl _) ?_;unfold aR0 eY;rw[if_neg (by rw[hbad];simp),if_pos aI];exact⟨_,rfl,rfl,rfl⟩
 refine aW ?_;refine aE (aH ?_);refine aC ?_;refine aA (aD rfl) rfl ?_;refine aG (aE ?_);refine aH (aH ?_);refine aC ?_;refine aA (aD rfl) rfl ?_;refine aG (aE ?_);refine bB ?_;have hfc:eY id acts text=vC [] (lZ id text 0 (acts.drop 0)):=gBT;refine kF (eF cD) ?_;refine n7 (fun(i:Nat) (u:Value) (acc:List File)=>i≤acts.length∧acc.length=i∧eY id acts text=vC acc (lZ id text i (acts.drop i))) (fun i u _=>[(0,str id),(1,v),(2,str text),(11,u),(12,i64 i)]) (fun _ _ _=>K) (fun _ u acc=>[sl false cD u acc]) (fun i _ _=>acts.length - i) 0 (.slice none 0 0) [] ⟨Nat.zero_le _,rfl,hfc⟩ (.cons 0 rfl (.cons 1 rfl (.cons 2 rfl (.cons 11 rfl (.cons 12 rfl .nil))))) rfl (fun _ h=>h) ?_;intro i u acc ⟨hi,hal2,hx⟩;refine aH (aH ?_);refine aC ?_;refine aA (aB rfl) rfl ?_;refine aA (aB rfl) rfl ?_;refine aA (bO (k:=cS) rfl Tryz.underlying29 rfl (.known hv)) rfl ?_;refine aA (cP rfl rfl) rfl ?_;refine aG (aE ?_);refine bK 51 rfl (fun h51=>?_) (fun h51=>?_)
 ·have hlt:i < acts.length:=by omega
  obtain⟨a,haa⟩:∃a,acts[i]?=some a:=⟨acts[i]'hlt,List.getElem?_eq_getElem hlt⟩;have hae:=ha a (List.mem_of_getElem? haa);have hil:=Lib.itoa_length_le (i:Int) aI aI;have hidl:id.length≤8:=by omega
  refine aW ?_;refine aE (aH ?_);refine bB (aH ?_);refine aC ?_;refine aA (aB rfl) rfl ?_;refine aA (aB rfl) rfl ?_;refine aA (bE (k:=cS) gK rfl (.known hv) rfl rfl gAD) rfl ?_;refine aA (dC (n:=0) (k:=cS) lO rfl (.known hv) haa) rfl ?_;refine cC (cX aIC) rfl ?_;rintro _ K _ ⟨b13,rfl,rfl,rfl⟩ -;refine cA (cK lO rfl rfl rfl bF gAA (.cons (.cons .nil)) gAJ) ?_;rintro _ K _ ⟨rfl,rfl⟩ -;refine aG (aE ?_);refine aH (aC ?_);refine aA (aB rfl) rfl ?_;refine cF rfl rfl (aYB i aI _) rfl ?_;refine aA (aD rfl) rfl ?_;refine aG (aE ?_);refine aH (aC ?_);refine aA (aB rfl) rfl ?_;refine aA (cW rfl rfl gAE) rfl ?_;refine aA (aB rfl) rfl ?_;refine uAc ?_;refine cC (cX aID) rfl ?_;rintro _ K _ ⟨b15,rfl,rfl,rfl⟩ -;refine cA (cK kD rfl rfl rfl bF gAA (.cons (.cons .nil)) gAJ) ?_;rintro _ K _ ⟨rfl,rfl⟩ -;refine aG (aE ?_);refine gV (fun(f:File)=>eQ id text i a=.ok f) (fun _=>[(0,str id),(1,v),(2,str text),(11,u),(12,i64 i),(15,ptr b15)]) (fun _=>K) (fun f=>[pt b15 (aZ [str f.1,str f.2] 66),sl false cD u acc]) ?_ ?_
  ·refine aH (aC ?_);refine aA (aF (o':=0) iE rfl rfl) rfl ?_;refine aA (aL ts3 rfl aM rfl) rfl ?_;refine aG (aE ?_);refine bB (aH ?_);refine aC ?_;refine aA (bZ rfl rfl) rfl ?_;refine aA (aD rfl) rfl ?_;refine aG (aE ?_);refine bK 66 rfl (fun h66=>?_) (fun h66=>?_)
   ·refine aW ?_;refine aO ?_;refine uAm ?_
    first|exact cN (vM++id,text) gB7 (.cons 0 rfl (.cons 1 rfl (.cons 2 rfl (.cons 11 rfl (.cons 12 rfl (.cons 15 rfl .nil)))))) rfl (fun _ h=>h)|exact cN (boxP++a.2++vX++id,text) gAY (.cons 0 rfl (.cons 1 rfl (.cons 2 rfl (.cons 11 rfl (.cons 12 rfl (.cons 15 rfl .nil)))))) rfl (fun _ h=>h)|exact cN (outN id i,toP++a.2++[10]++text) gBA (.cons 0 rfl (.cons 1 rfl (.cons 2 rfl (.cons 11 rfl (.cons 12 rfl (.cons 15 rfl .nil)))))) rfl (fun _ h=>h)|exact cN (outN id i,rejP++a.2++[10]++text) gA2 (.cons 0 rfl (.cons 1 rfl (.cons 2 rfl (.cons 11 rfl (.cons 12 rfl (.cons 15 rfl .nil)))))) rfl (fun _ h=>h)
   refine aH (aC ?_);refine aA (bZ rfl rfl) rfl ?_;refine aA (aD rfl) rfl ?_;refine aG (aE ?_);refine bK 68 rfl (fun h68=>?_) (fun h68=>?_)
   ·refine aH (aC ?_);refine aA (aF (o':=1) dW rfl rfl) rfl ?_;refine aA (aL ts9 rfl aM rfl) rfl ?_;refine cF rfl rfl (aUC a.2 _ aI) rfl ?_;refine aA (aD rfl) rfl ?_;refine aG (aE ?_);refine aH (aH ?_);refine aC ?_;refine aA (aB rfl) rfl ?_;refine aA gAF rfl ?_;refine aG (aE ?_);refine eO 74 rfl (fun h74=>?_) (fun h74=>?_)
    ·refine aH (aC ?_);refine aA (aD rfl) rfl ?_;refine aA (aD rfl) rfl ?_;refine aG (aE ?_);refine bG ?_;refine aY ?_;refine bU ?_;refine aY ?_;refine uAl ?_;refine fA rfl rfl rfl (Hl.le_refl _) ?_;rw[hx,aA1 haa (e:=8) (by simp only[eQ];rw[if_neg h66,if_pos h68,if_neg (by simpa using h74)])];exact⟨_,rfl,rfl,rfl⟩
    refine aW ?_;refine aE (aC ?_);refine aA (aF (o':=1) dW rfl rfl) rfl ?_;refine aA (aL ts9 rfl aM rfl) rfl ?_;refine aA (cW rfl rfl gAE) rfl ?_;refine aA (cW rfl rfl gAE) rfl ?_;refine aA (aB rfl) rfl ?_;refine aA (cW rfl rfl gAE) rfl ?_;refine aA (aF (o':=0) oR rfl rfl) rfl ?_;refine uAy ?_;rintro _ K _ ⟨rfl,rfl⟩ -;refine aG (aO ?_);refine uAm ?_
    first|exact cN (vM++id,text) gB7 (.cons 0 rfl (.cons 1 rfl (.cons 2 rfl (.cons 11 rfl (.cons 12 rfl (.cons 15 rfl .nil)))))) rfl (fun _ h=>h)|exact cN (boxP++a.2++vX++id,text) gAY (.cons 0 rfl (.cons 1 rfl (.cons 2 rfl (.cons 11 rfl (.cons 12 rfl (.cons 15 rfl .nil)))))) rfl (fun _ h=>h)|exact cN (outN id i,toP++a.2++[10]++text) gBA (.cons 0 rfl (.cons 1 rfl (.cons 2 rfl (.cons 11 rfl (.cons 12 rfl (.cons 15 rfl .nil)))))) rfl (fun _ h=>h)|exact cN (outN id i,rejP++a.2++[10]++text) gA2 (.cons 0 rfl (.cons 1 rfl (.cons 2 rfl (.cons 11 rfl (.cons 12 rfl (.cons 15 rfl .nil)))))) rfl (fun _ h=>h)
   refine aH (aC ?_);refine aA (bZ rfl rfl) rfl ?_;refine aA (aD rfl) rfl ?_;refine aG (aE ?_);refine bK 82 rfl (fun h82=>?_) (fun h82=>?_)
   ·refine aC ?_;refine aA (aB rfl) rfl ?_;refine aA (cW rfl rfl gAE) rfl ?_;refine aA (cW rfl rfl gAE) rfl ?_;refine aA (aB rfl) rfl ?_;refine aA (cW rfl rfl gAE) rfl ?_;refine aA (aF (o':=1) dW rfl rfl) rfl ?_;refine aA (aL ts9 rfl aM rfl) rfl ?_;refine aA (cW rfl rfl gAE) rfl ?_;refine aA (cW rfl rfl gAE) rfl ?_;refine aA (aB rfl) rfl ?_;refine aA (cW rfl rfl gAE) rfl ?_;refine uAc ?_;refine cA (cK kD rfl rfl rfl bF gAA (.cons (.cons .nil)) gAJ) ?_;rintro _ K _ ⟨rfl,rfl⟩ -;refine aG (aO ?_);refine uAm ?_
    first|exact cN (vM++id,text) gB7 (.cons 0 rfl (.cons 1 rfl (.cons 2 rfl (.cons 11 rfl (.cons 12 rfl (.cons 15 rfl .nil)))))) rfl (fun _ h=>h)|exact cN (boxP++a.2++vX++id,text) gAY (.cons 0 rfl (.cons 1 rfl (.cons 2 rfl (.cons 11 rfl (.cons 12 rfl (.cons 15 rfl .nil)))))) rfl (fun _ h=>h)|exact cN (outN id i,toP++a.2++[10]++text) gBA (.cons 0 rfl (.cons 1 rfl (.cons 2 rfl (.cons 11 rfl (.cons 12 rfl (.cons 15 rfl .nil)))))) rfl (fun _ h=>h)|exact cN (outN id i,rejP++a.2++[10]++text) gA2 (.cons 0 rfl (.cons 1 rfl (.cons 2 rfl (.cons 11 rfl (.cons 12 rfl (.cons 15 rfl .nil)))))) rfl (fun _ h=>h)
   refine aH (aC ?_);refine aA (bZ rfl rfl) rfl ?_;refine aA (aD rfl) rfl ?_;refine aG (aE ?_);refine bK 96 rfl (fun h96=>?_) (fun h96=>?_)
   ·refine aC ?_;refine aA (aB rfl) rfl ?_;refine aA (cW rfl rfl gAE) rfl ?_;refine aA (cW rfl rfl gAE) rfl ?_;refine aA (aB rfl) rfl ?_;refine aA (cW rfl rfl gAE) rfl ?_;refine aA (aF (o':=1) dW rfl rfl) rfl ?_;refine aA (aL ts9 rfl aM rfl) rfl ?_;refine aA (cW rfl rfl gAE) rfl ?_;refine aA (cW rfl rfl gAE) rfl ?_;refine aA (aB rfl) rfl ?_;refine aA (cW rfl rfl gAE) rfl ?_;refine uAc ?_;refine cA (cK kD rfl rfl rfl bF gAA (.cons (.cons .nil)) gAJ) ?_;rintro _ K _ ⟨rfl,rfl⟩ -;refine aG (aO ?_);refine uAm ?_
    first|exact cN (vM++id,text) gB7 (.cons 0 rfl (.cons 1 rfl (.cons 2 rfl (.cons 11 rfl (.cons 12 rfl (.cons 15 rfl .nil)))))) rfl (fun _ h=>h)|exact cN (boxP++a.2++vX++id,text) gAY (.cons 0 rfl (.cons 1 rfl (.cons 2 rfl (.cons 11 rfl (.cons 12 rfl (.cons 15 rfl .nil)))))) rfl (fun _ h=>h)|exact cN (outN id i,toP++a.2++[10]++text) gBA (.cons 0 rfl (.cons 1 rfl (.cons 2 rfl (.cons 11 rfl (.cons 12 rfl (.cons 15 rfl .nil)))))) rfl (fun _ h=>h)|exact cN (outN id i,rejP++a.2++[10]++text) gA2 (.cons 0 rfl (.cons 1 rfl (.cons 2 rfl (.cons 11 rfl (.cons 12 rfl (.cons 15 rfl .nil)))))) rfl (fun _ h=>h)
   refine aH (aC ?_);refine aA (aD rfl) rfl ?_;refine aA (aD rfl) rfl ?_;refine aG (aE ?_);refine bG ?_;refine bU ?_;refine aY ?_;refine uAl ?_;refine fA rfl rfl rfl (Hl.le_refl _) ?_;rw[hx,aA1 haa (e:=7) (by simp only[eQ];rw[if_neg h66,if_neg h68,if_neg h82,if_neg h96])];exact⟨_,rfl,rfl,rfl⟩
  intro f hff;refine aC ?_;refine aA (aB rfl) rfl ?_;refine aA (b0 kD rfl aM rfl rfl) rfl ?_;refine cC (bH (z0:=[(str []),(str [])]) eK aID rfl rfl rfl rfl (.cons rfl rfl rfl (.cons (.cons .nil)) .nil)) rfl ?_;rintro _ K _ ⟨b112,rfl,rfl,rfl⟩ -;refine cC (dN (k:=cD) (ys:=[f]) jC rfl rfl bF (fun w j=>dE Tryz.underlying62 (SeesSl.at (k:=cD) (.blk (.own .here) rfl rfl) j)) (by show (acc.length+1)*32≤140737488355328;omega) (by show acc.length+1≤9223372036854775807;omega)) rfl ?_;rintro v113 K _ ⟨rfl,rfl,ho113⟩ -;refine aA (aD rfl) rfl ?_;refine aG (aO ?_);refine aE (aC ?_);refine aA (aB rfl) rfl ?_;refine aA (bW rfl rfl aI aI) rfl ?_;refine aA (aD rfl) rfl ?_;refine uAz ?_;exact iU (i+1) _ (acc++[f]) ⟨by omega,by simp[hal2],by rw[hx];exact aS0 haa hff⟩ aI (.cons 0 rfl (.cons 1 rfl (.cons 2 rfl (.cons 11 rfl (.cons 12 rfl .nil))))) rfl (fun _ h=>h)
 have hie:i=acts.length:=by omega
 subst hie;rw[List.drop_length,lZ]at hx;simp only[vC,List.append_nil]at hx;refine cM ?_;refine aR ?_;refine aR ?_;refine bC ?_;refine aE (aH ?_);refine aC ?_;refine aA (aB rfl) rfl ?_;refine aA (aD rfl) rfl ?_;refine aA (aD rfl) rfl ?_;refine aG (aE ?_);refine bG ?_;refine uAa ?_;refine fA rfl rfl rfl (Hl.le_refl _) ?_;rw[hx];exact⟨_,rfl,_,rfl,rfl⟩
end Go.Proofs
end

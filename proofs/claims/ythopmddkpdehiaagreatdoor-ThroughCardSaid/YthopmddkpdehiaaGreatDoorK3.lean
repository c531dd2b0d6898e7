/-
  What the proof stands on, part 3: the logic of walks, the walks through the functions, the plain laws. Conditions: as each theorem says. (Merged and shortened by a program.)
-/
import Derived.Lib.AppendIntMem
import Derived.Laws.StructEq
import Derived.Test.YthopmddkpdehiaaGreatDoorK1
import Derived.Test.YthopmddkpdehiaaGreatDoorK2
set_option linter.unusedVariables false
set_option linter.unusedSimpArgs false
section
namespace Go.Proofs
open Go Go.SL Go.Syn
def RB(s:List UInt8)(b:Nat)(rest:List Value)(r:Res (Tree×St)):Ending→Hl→List Asn→Prop:=fT r fun r v K' L'=>∃ys,Rep K' r.1 ys∧isCL r.1=true∧L'=[sl false (eD 224) v (ys.map Prod.fst),psb b s r.2 rest]
def yN(s:List UInt8)(b:Nat)(rest:List Value)(K:Hl)(dp:Int)(Bf:St→Res (Tree×St)):Prop:=
 ∀(st:St) (K':Hl),K.le K'→Ok s st→Sp Tryz.prog 105 [ptr b,i64 dp] K' [psb b s st rest] (RB s b rest (Bf st))
theorem aL0{v:Value}(h:v.oneCell'=true):v.cells=[v].toArray:=by cases v <;> simp[Value.oneCell']at h <;> rfl
theorem sE(b:Nat)(s:List UInt8)(st:St)(rest:List Value)(bp bd bi:Nat)(dp:Int)(tv sv:Value)(tv1:tv.oneCell'=true)(us:List (Cell×Cell))(K:Hl)(Bf:St→Res (Tree×St))(hs:s.length≤600)(hok:Ok s st)(hg:Glob K)(hd:0≤dp∧dp≤6)(hu:us.length≤1300)
  (hBa:AdvE s Bf) (hB:yN s b rest K (dp+1) Bf) (h1:K bp=some (aU [ptr b] 199)) (h2:K bd=some (aU [i64 dp] 3)):
  Sp Tryz.prog 264 [tv,ptr bp,ptr bd,ptr bi] K [pt bi (aU [sv] 311),sl false (iW 371) sv us,psb b s st rest]
   (fT (bodyC s Bf st) fun r v K' L'=>v=.tuple #[]∧∃(bv:Cell) (ys:List (Cell×Cell)) (sv':Value),Rep K' r.1 ys∧Ksl (eD 224) K' bv.1 (ys.map (·.1))∧L'=[pt bi (aU [sv'] 311),sl false (iW 371) sv' (us++[(⟨tv,tv1⟩,bv)]),psb b s r.2 rest]):=by
 have ha:=hok.1;refine aZ Tryz.func264 rfl Tryz.ntmps264 rfl rfl fun F w=>?_
 refine aH (aB ?_);refine uEd ?_;refine aY rfl rfl (jU b s st rest [123] _ hs ha hg) (.cons (.there (.there .here)) .nil) rfl (fun _ _=>a8 _ _) ?_ ?_
 ·
  rintro _ _ _ hTr le1;obtain⟨e,p,hq,fb,h,rfl⟩:=bA hTr;cases h
  refine uAr ?_;simp only[bodyC,hq,if_true,if_false,↓reduceIte];exact⟨fb,rfl,rfl⟩
 rintro _ K _ hTr -;obtain⟨q,hq,rfl,rfl,rfl⟩:=bB hTr;clear hTr;have hqo:=yH ha hq;refine aG (aE ?_);refine aH (aB ?_);refine uEd ?_;refine uAn ?_;refine uCj ?_;refine aY rfl rfl (hB q _ (Hl.le_refl _) hqo) (.cons .here .nil) rfl (fun _ _=>a8 _ _) ?_ ?_
 ·
  rintro _ _ _ hTr le1;obtain⟨e,p,hb,fb,h,rfl⟩:=bA hTr;cases h
  refine uAr ?_;simp only[bodyC,hq,hb,if_true,if_false,↓reduceIte];exact⟨fb,rfl,rfl⟩
 rintro _ K1 _ hTr leK1;obtain⟨bb,hb,⟨ys,hrep,hcl,rfl⟩⟩:=bB hTr;clear hTr;have hbo:=(hBa _ _ hqo hb).1;have h1:=leK1 _ _ h1;refine hU fun K2 leS hS=>?_
 obtain⟨sa,sn,sc,rfl⟩:=hS.isSlice;have h1:=leS _ _ h1;have hrep:=hrep.mono leS;refine uAb ?_;refine aG (aE ?_);refine aH (aB ?_);refine uEd ?_;refine aY rfl rfl (jU b s bb.2 rest [125] _ hs hbo.1 (hg.mono (Hl.le_trans leK1 leS))) (.cons .here .nil) rfl (fun _ _=>a8 _ _) ?_ ?_
 ·
  rintro _ _ _ hTr le1;obtain⟨e,p,hz,fb,h,rfl⟩:=bA hTr;cases h
  refine uEf ?_;refine bJ (Hl.le_trans leK1 (Hl.le_trans leS le1)) ?_;simp only[bodyC,hq,hb,hz,if_true,if_false,↓reduceIte];exact⟨fb,rfl,rfl⟩
 rintro _ K _ hTr -;obtain⟨z,hz,rfl,rfl,rfl⟩:=bB hTr;clear hTr;refine aG (aE ?_);refine aB ?_;refine aA (aD (o':=0) sS rfl rfl) rfl ?_;refine aA (aJ aLH rfl aL rfl) rfl ?_;refine uAx ?_;refine aA (cP aY6 aXQ (.cons rfl (aL0 tv1) rfl (.cons .nil) (.cons rfl rfl rfl (.skip (.cons .nil)) .nil))) rfl ?_;refine ol_s (bN (z0:=[.nilIface,.slice none 0 0]) rT aSU rfl rfl rfl rfl (.cons rfl rfl rfl (.cons (.cons .nil)) .nil)) rfl ?_;rintro _ K _ ⟨b19,rfl,rfl,rfl⟩ -;refine ol_s (dM (k:=(iW 371)) (ys:=[(⟨tv,tv1⟩,⟨.slice sa sn sc,rfl⟩)]) aAV rfl rfl (.there (.there (.there .here))) (fun w j=>dB Tryz.underlying309 (SeesSl.at (.blk (.own .here) rfl rfl) j)) (by first|(simp;omega)|omega) (by first|(simp;omega)|omega)) rfl ?_;rintro v20 K _ ⟨rfl,rfl,ho20⟩ -;refine aA (aD (o':=0) sS rfl rfl) rfl ?_;refine bP (bH aLH rfl rfl cD aX .zero rfl) ?_;rintro _ K _ ⟨rfl,rfl⟩ -;refine aG ?_;refine aO (.cons (.there (.there (.there .here))) (.cons .here (.cons (.there .here) .nil))) ?_;refine dD rfl (Hl.le_trans leK1 leS) ?_;simp only[bodyC,hq,hb,hz,if_true,if_false,↓reduceIte];exact⟨_,rfl,rfl,_,ys,_,hrep,hS,rfl⟩
theorem aBF(b:Nat)(s:List UInt8)(st:St)(rest:List Value)(at_ dp:Int)(K:Hl)(Tf Bf:St→Res (Tree×St))(hs:s.length≤600)(hok:Ok s st)(hg:Glob K)(hd:0≤dp∧dp≤6)(hTa:Adv s Tf)(hBa:AdvE s Bf)(hT:s6 s b rest K (dp+1) Tf)(hB:yN s b rest K (dp+1) Bf):
    Sp Tryz.prog 164 [ptr b,i64 at_,i64 dp] K [psb b s st rest] (RT s b rest (ifC s Tf Bf st)):=by
  have ha:=hok.1;refine aZ Tryz.func164 rfl Tryz.ntmps164 rfl rfl fun F w=>?_
  refine aH (aB ?_);refine uBk ?_;rintro _ K _ ⟨b3,rfl,rfl,rfl⟩ -;refine uBk ?_;rintro _ K _ ⟨b5,rfl,rfl,rfl⟩ -;refine uAb ?_;refine aG (aE ?_);refine aH (aB ?_);refine fD fun Ka leA hbd=>?_
  refine fD fun Kb leB hbp=>?_
  have hbd:=leB _ _ hbd;have le0:=Hl.le_trans leA leB;refine uEd ?_;refine uAm ?_;refine aY rfl rfl (dL b 208 s st.1 _ _ _ _ rest hs ha _ (hg.mono le0)) (.cons .here .nil) rfl (fun _ _=>a8 _ _) ?_ ?_
  ·
    rintro _ _ _ hTr le1;obtain⟨e,p,hr,fb,h,rfl⟩:=bA hTr;cases h
    refine uEf ?_;refine bJ (Hl.le_trans le0 le1) ?_;simp only[RT,ifC,hr,if_true,if_false,↓reduceIte];exact⟨fb,rfl,rfl⟩
  rintro _ K _ hTr -;obtain⟨r,hr,rfl,rfl,rfl⟩:=bB hTr;clear hTr;have hro:=eB ha hr;refine aG (aE ?_);refine aH (aB ?_);refine ol_s (cN aVY) rfl ?_;rintro _ K _ ⟨b7,rfl,rfl,rfl⟩ -;refine aG (aE ?_);refine aH (aB ?_);refine uGi ?_;refine uAb ?_;refine aG (aE ?_);refine aH (aB ?_);refine uAa ?_;refine uEd ?_;refine uAn ?_;refine uCj ?_;refine aY rfl rfl (hT r _ le0 hro) (.cons (.there .here) .nil) rfl (fun _ _=>a8 _ _) ?_ ?_
  ·
    rintro _ _ _ hTr le1;obtain⟨e,p,ht,fb,h,rfl⟩:=bA hTr;cases h
    refine uEf ?_;refine bJ (Hl.le_trans le0 le1) ?_;simp only[RT,ifC,hr,ht,if_true,if_false,↓reduceIte];exact⟨fb,rfl,rfl⟩
  rintro _ K1 _ hTr leK1;obtain⟨t,ht,⟨ty,u,rfl,hrep⟩,rfl⟩:=bB hTr;clear hTr;have hto:=(hTa _ _ hro ht).1;have hbd:=leK1 _ _ hbd;have hbp:=leK1 _ _ hbp;have le01:=Hl.le_trans le0 leK1;refine lL (dX (iW 371)) ?_;refine aY rfl rfl (sE b s t.2 rest b3 b5 b7 dp (.iface ty u) _ rfl [] _ Bf hs hto (hg.mono le01) hd (by simp) hBa (fun st2 K2 le2 ho=>hB st2 K2 (Hl.le_trans le01 le2) ho) hbp hbd) (.cons (.there (.there .here)) (.cons .here (.cons .here .nil))) rfl (fun _ _=>a8 _ _) ?_ ?_
  ·
    rintro _ _ _ hTr le1;obtain⟨e,p,hb,fb,h,rfl⟩:=bA hTr;cases h
    refine uEf ?_;refine bJ (Hl.le_trans le01 le1) ?_;simp only[RT,ifC,hr,ht,hb,if_true,if_false,↓reduceIte];exact⟨fb,rfl,rfl⟩
  rintro _ K3 _ hTr leK3;obtain⟨bb,hb,rfl,bv,ys,sv1,hrb,hsb,rfl⟩:=bB hTr;clear hTr;have hbo:=(kS hBa _ _ hto hb).1;have hbd:=leK3 _ _ hbd;have hbp:=leK3 _ _ hbp;have le03:=Hl.le_trans le01 leK3;refine aG (aE ?_);refine aH (bE ?_);refine sN (fun(K2:Hl) (st2:St) (us:List (Cell×Cell)) (sv:Value)=>K3.le K2∧Ok s st2∧us.length+mu s st2≤1300∧∃acc f,isBL acc=true∧Rep K2 acc us∧mu s st2≤f∧ifC s Tf Bf st=fK s Tf Bf (f+1) acc st2) (fun _ _ _ _=>[(3,ptr b3),(5,ptr b5),(7,ptr b7),(8,.func (.func 264) #[] #[ptr b3,ptr b5,ptr b7])]) (fun K2 _ _ _=>K2) (fun _ st2 us sv=>[pt b7 (aU [sv] 311),sl false (iW 371) sv us,psb b s st2 rest]) (fun _ st2 _ _=>mu s st2) _ bb.2 [(⟨.iface ty u,rfl⟩,bv)] sv1 ⟨Hl.le_refl _,hbo,by have:=tA s bb.2;simp;omega,.bcons t.1 bb.1 .bnil,mu s bb.2,rfl,⟨_,ys,bv,[],hrep.mono leK3,⟨_,_,rfl⟩,hrb,hsb,rfl,rfl⟩,Nat.le_refl _,by simp only[ifC,hr,ht,hb]⟩ (.cons 3 rfl (.cons 5 rfl (.cons 7 rfl (.cons 8 rfl .nil)))) rfl (fun _ h=>h) ?_;intro K2 st2 us sv ⟨leL,hok2,hus,acc,f,hacc,hrp,hf,hx⟩;have hbd:=leL _ _ hbd;have hbp:=leL _ _ hbp;have le2:=Hl.le_trans le03 leL;refine aH (aH ?_);refine aB ?_;refine uEd ?_;refine uBb ?_;refine uHf ?_;refine cG 27 rfl (fun g27=>?_) (fun g27=>?_)
  ·
    have g27:st2.2.kind=1:=by omega
    refine uFv ?_;refine aG (aE ?_);refine bK 35 rfl (fun h35=>?_) (fun h35=>?_)
    ·
      have gc:st2.2.kind=1∧st2.2.s=vP:=⟨by omega,h35⟩;refine aW ?_;refine aE (bE ?_);refine aH (aB ?_);refine uEd ?_;refine uAm ?_;refine aY rfl rfl (dL b 208 s st2.1 _ _ _ _ rest hs hok2.1 _ (hg.mono le2)) (.cons (.there (.there .here)) .nil) rfl (fun _ _=>a8 _ _) ?_ ?_
      ·
        rintro _ _ _ hTr le1;obtain⟨e,p,hr2,fb,h,rfl⟩:=bA hTr;cases h
        refine uAg ?_;refine uGf ?_;refine bJ (Hl.le_trans le2 le1) ?_;simp only[RT,hx,fK,jA,if_pos gc,hr2,if_true,if_false,↓reduceIte];exact⟨fb,rfl,rfl⟩
      rintro _ K _ hTr -;obtain⟨r2,hr2,rfl,rfl,rfl⟩:=bB hTr;clear hTr;have hro2:=eB hok2.1 hr2;refine aG (aE ?_);refine uAf ?_;refine uEd ?_;refine uAn ?_;refine uCj ?_;refine aY rfl rfl (hT r2 _ le2 hro2) (.cons .here .nil) rfl (fun _ _=>a8 _ _) ?_ ?_
      ·
        rintro _ _ _ hTr le1;obtain⟨e,p,ht2,fb,h,rfl⟩:=bA hTr;cases h
        refine uEn ?_;refine uBc ?_;refine bJ (Hl.le_trans le2 le1) ?_;simp only[RT,hx,fK,jA,if_pos gc,hr2,ht2,if_true,if_false,↓reduceIte];exact⟨fb,rfl,rfl⟩
      rintro _ K4 _ hTr leK4;obtain⟨t2,ht2,⟨ty2,u2,rfl,hrep2⟩,rfl⟩:=bB hTr;clear hTr;have hto2:=(hTa _ _ hro2 ht2).1;have hbd:=leK4 _ _ hbd;have hbp:=leK4 _ _ hbp;have le4:=Hl.le_trans le2 leK4;refine aY rfl rfl (sE b s t2.2 rest b3 b5 b7 dp (.iface ty2 u2) _ rfl us _ Bf hs hto2 (hg.mono le4) hd aI hBa (fun st2 K2 lx ho=>hB st2 K2 (Hl.le_trans le4 lx) ho) hbp hbd) (.cons (.there .here) (.cons (.there .here) (.cons .here .nil))) rfl (fun _ _=>a8 _ _) ?_ ?_
      ·
        rintro _ _ _ hTr le1;obtain⟨e,p,hb2,fb,h,rfl⟩:=bA hTr;cases h
        refine uEn ?_;refine uBc ?_;refine bJ (Hl.le_trans le4 le1) ?_;simp only[RT,hx,fK,jA,if_pos gc,hr2,ht2,hb2,if_true,if_false,↓reduceIte];exact⟨fb,rfl,rfl⟩
      rintro _ K5 _ hTr leK5;obtain⟨bb2,hb2,rfl,bv2,ys2,sv2,hrb2,hsb2,rfl⟩:=bB hTr;clear hTr;have hbo2:=(kS hBa _ _ hto2 hb2).1;refine aG (aN ?_);have hm1:=fG hok2.1 aI hr2;have hm2:=hTa _ _ hro2 ht2;have hm3:=kS hBa _ _ hto2 hb2;obtain⟨f0,rfl⟩:∃f0,f=f0+1:=⟨f - 1,by omega⟩;obtain⟨hr3,hr4⟩:=mC (o:=some t2.1) ⟨hrep2.mono leK5,_,_,rfl⟩ hrb2 hsb2 hacc (hrp.mono (Hl.le_trans leK4 leK5));refine o9 _ bb2.2 (us++[(⟨.iface ty2 u2,rfl⟩,bv2)]) sv2 ⟨Hl.le_trans leL (Hl.le_trans leK4 leK5),hbo2,by simp;omega,acc.snocB (some t2.1) bb2.1,f0,hr4,hr3,by omega,?_⟩ aI (.cons 3 rfl (.cons 5 rfl (.cons 7 rfl (.cons 8 rfl .nil)))) rfl bO
      simp only[RT,hx,fK,jA,if_pos gc,hr2,ht2,hb2,if_true,if_false,↓reduceIte]
    ·
      have gc:¬(st2.2.kind=1∧st2.2.s=vP):=(fun h=>h35 h.2);refine uAp ?_;refine aE (aH ?_);refine aH (aB ?_);refine uEd ?_;refine uBb ?_;refine uHf ?_;refine cG 53 rfl (fun g53=>?_) (fun g53=>?_)
      ·
        refine uFv ?_;refine aG (aE ?_);refine bK 61 rfl (fun h61=>?_) (fun h61=>?_)
        ·
          have gd:st2.2.kind=1∧st2.2.s=rW:=⟨by omega,h61⟩;refine aH (aB ?_);refine uEd ?_;refine uAm ?_;refine aY rfl rfl (dL b 208 s st2.1 _ _ _ _ rest hs hok2.1 _ (hg.mono le2)) (.cons (.there (.there .here)) .nil) rfl (fun _ _=>a8 _ _) ?_ ?_
          ·
            rintro _ _ _ hTr le1;obtain⟨e,p,hr3,fb,h,rfl⟩:=bA hTr;cases h
            refine uEf ?_;refine aK ?_;refine bJ (Hl.le_trans le2 le1) ?_;simp only[RT,hx,fK,jA,if_neg gc,if_pos gd,hr3,if_true,if_false,↓reduceIte];exact⟨fb,rfl,rfl⟩
          rintro _ K _ hTr -;obtain⟨r3,hr3,rfl,rfl,rfl⟩:=bB hTr;clear hTr;have hro3:=eB hok2.1 hr3;refine aG (aE ?_);refine uAf ?_;refine aY rfl rfl (sE b s r3 rest b3 b5 b7 dp .nilIface _ rfl us _ Bf hs hro3 (hg.mono le2) hd aI hBa (fun st2 K2 lx ho=>hB st2 K2 (Hl.le_trans le2 lx) ho) hbp hbd) (.cons (.there .here) (.cons (.there .here) (.cons .here .nil))) rfl (fun _ _=>a8 _ _) ?_ ?_
          ·
            rintro _ _ _ hTr le1;obtain⟨e,p,hb3,fb,h,rfl⟩:=bA hTr;cases h
            refine uEf ?_;refine bJ (Hl.le_trans le2 le1) ?_;simp only[RT,hx,fK,jA,if_neg gc,if_pos gd,hr3,hb3,if_true,if_false,↓reduceIte];exact⟨fb,rfl,rfl⟩
          rintro _ K6 _ hTr leK6;obtain⟨bb3,hb3,rfl,bv3,ys3,sv3,hrb3,hsb3,rfl⟩:=bB hTr;clear hTr;refine aG (aE ?_);refine aH (aB ?_);refine uHb ?_;refine aA (cL Tryz.underlying311 (fun _ h=>by cases h) rfl) rfl ?_;refine uAb ?_;refine aG (aE ?_);refine uEc ?_;refine gB fun K9 leS hS=>?_
          refine bF rfl rfl (by first|exact Hl.le_trans le2 (Hl.le_trans leK6 leS)|exact Hl.le_trans le2 leS) ?_
          first
            | (simp only [RT, hx, fK, jA, if_neg gc, if_pos gd, hr3, hb3]
               obtain⟨hr6,hr7⟩:=mC (o:=none) rfl hrb3 hsb3 hacc (hrp.mono leK6);exact⟨_,rfl,⟨_,_,rfl,_,_,hr6.mono leS,hS,rfl⟩,rfl⟩)
            |(simp only[RT,hx,fK,jA,if_neg gc,if_neg gd];exact⟨_,rfl,⟨_,_,rfl,us,sv,hrp.mono leS,hS,rfl⟩,rfl⟩)
        ·
          have gd:¬(st2.2.kind=1∧st2.2.s=rW):=(fun h=>h61 h.2);refine aW ?_;refine aE (aH ?_);refine aB ?_;refine uHb ?_;refine aA (cL Tryz.underlying311 (fun _ h=>by cases h) rfl) rfl ?_;refine uAb ?_;refine aG (aE ?_);refine uEc ?_;refine gB fun K9 leS hS=>?_
          refine bF rfl rfl (by first|exact Hl.le_trans le2 (Hl.le_trans leK6 leS)|exact Hl.le_trans le2 leS) ?_
          first
            | (simp only [RT, hx, fK, jA, if_neg gc, if_pos gd, hr3, hb3]
               obtain⟨hr6,hr7⟩:=mC (o:=none) rfl hrb3 hsb3 hacc (hrp.mono leK6);exact⟨_,rfl,⟨_,_,rfl,_,_,hr6.mono leS,hS,rfl⟩,rfl⟩)
            |(simp only[RT,hx,fK,jA,if_neg gc,if_neg gd];exact⟨_,rfl,⟨_,_,rfl,us,sv,hrp.mono leS,hS,rfl⟩,rfl⟩)
      ·
        have gd:¬(st2.2.kind=1∧st2.2.s=rW):=(fun h=>by omega);refine uAc ?_;refine uBu ?_;refine aG (aE ?_);refine uBf ?_;refine aE (aH ?_);refine aB ?_;refine uHb ?_;refine aA (cL Tryz.underlying311 (fun _ h=>by cases h) rfl) rfl ?_;refine uAb ?_;refine aG (aE ?_);refine uEc ?_;refine gB fun K9 leS hS=>?_
        refine bF rfl rfl (by first|exact Hl.le_trans le2 (Hl.le_trans leK6 leS)|exact Hl.le_trans le2 leS) ?_
        first
          | (simp only [RT, hx, fK, jA, if_neg gc, if_pos gd, hr3, hb3]
             obtain⟨hr6,hr7⟩:=mC (o:=none) rfl hrb3 hsb3 hacc (hrp.mono leK6);exact⟨_,rfl,⟨_,_,rfl,_,_,hr6.mono leS,hS,rfl⟩,rfl⟩)
          |(simp only[RT,hx,fK,jA,if_neg gc,if_neg gd];exact⟨_,rfl,⟨_,_,rfl,us,sv,hrp.mono leS,hS,rfl⟩,rfl⟩)
  ·
    have gc:¬(st2.2.kind=1∧st2.2.s=vP):=(fun h=>by omega);refine uAc ?_;refine uBu ?_;refine aG (aE ?_);refine uHq ?_;refine uAp ?_;refine aE (aH ?_);refine aH (aB ?_);refine uEd ?_;refine uBb ?_;refine uHf ?_;refine cG 53 rfl (fun g53=>?_) (fun g53=>?_)
    ·
      refine uFv ?_;refine aG (aE ?_);refine bK 61 rfl (fun h61=>?_) (fun h61=>?_)
      ·
        have gd:st2.2.kind=1∧st2.2.s=rW:=⟨by omega,h61⟩;refine aH (aB ?_);refine uEd ?_;refine uAm ?_;refine aY rfl rfl (dL b 208 s st2.1 _ _ _ _ rest hs hok2.1 _ (hg.mono le2)) (.cons (.there (.there .here)) .nil) rfl (fun _ _=>a8 _ _) ?_ ?_
        ·
          rintro _ _ _ hTr le1;obtain⟨e,p,hr3,fb,h,rfl⟩:=bA hTr;cases h
          refine uEf ?_;refine aK ?_;refine bJ (Hl.le_trans le2 le1) ?_;simp only[RT,hx,fK,jA,if_neg gc,if_pos gd,hr3,if_true,if_false,↓reduceIte];exact⟨fb,rfl,rfl⟩
        rintro _ K _ hTr -;obtain⟨r3,hr3,rfl,rfl,rfl⟩:=bB hTr;clear hTr;have hro3:=eB hok2.1 hr3;refine aG (aE ?_);refine uAf ?_;refine aY rfl rfl (sE b s r3 rest b3 b5 b7 dp .nilIface _ rfl us _ Bf hs hro3 (hg.mono le2) hd aI hBa (fun st2 K2 lx ho=>hB st2 K2 (Hl.le_trans le2 lx) ho) hbp hbd) (.cons (.there .here) (.cons (.there .here) (.cons .here .nil))) rfl (fun _ _=>a8 _ _) ?_ ?_
        ·
          rintro _ _ _ hTr le1;obtain⟨e,p,hb3,fb,h,rfl⟩:=bA hTr;cases h
          refine uEf ?_;refine bJ (Hl.le_trans le2 le1) ?_;simp only[RT,hx,fK,jA,if_neg gc,if_pos gd,hr3,hb3,if_true,if_false,↓reduceIte];exact⟨fb,rfl,rfl⟩
        rintro _ K6 _ hTr leK6;obtain⟨bb3,hb3,rfl,bv3,ys3,sv3,hrb3,hsb3,rfl⟩:=bB hTr;clear hTr;refine aG (aE ?_);refine aH (aB ?_);refine uHb ?_;refine aA (cL Tryz.underlying311 (fun _ h=>by cases h) rfl) rfl ?_;refine uAb ?_;refine aG (aE ?_);refine uEc ?_;refine gB fun K9 leS hS=>?_
        refine bF rfl rfl (by first|exact Hl.le_trans le2 (Hl.le_trans leK6 leS)|exact Hl.le_trans le2 leS) ?_
        first
          | (simp only [RT, hx, fK, jA, if_neg gc, if_pos gd, hr3, hb3]
             obtain⟨hr6,hr7⟩:=mC (o:=none) rfl hrb3 hsb3 hacc (hrp.mono leK6);exact⟨_,rfl,⟨_,_,rfl,_,_,hr6.mono leS,hS,rfl⟩,rfl⟩)
          |(simp only[RT,hx,fK,jA,if_neg gc,if_neg gd];exact⟨_,rfl,⟨_,_,rfl,us,sv,hrp.mono leS,hS,rfl⟩,rfl⟩)
      ·
        have gd:¬(st2.2.kind=1∧st2.2.s=rW):=(fun h=>h61 h.2);refine aW ?_;refine aE (aH ?_);refine aB ?_;refine uHb ?_;refine aA (cL Tryz.underlying311 (fun _ h=>by cases h) rfl) rfl ?_;refine uAb ?_;refine aG (aE ?_);refine uEc ?_;refine gB fun K9 leS hS=>?_
        refine bF rfl rfl (by first|exact Hl.le_trans le2 (Hl.le_trans leK6 leS)|exact Hl.le_trans le2 leS) ?_
        first
          | (simp only [RT, hx, fK, jA, if_neg gc, if_pos gd, hr3, hb3]
             obtain⟨hr6,hr7⟩:=mC (o:=none) rfl hrb3 hsb3 hacc (hrp.mono leK6);exact⟨_,rfl,⟨_,_,rfl,_,_,hr6.mono leS,hS,rfl⟩,rfl⟩)
          |(simp only[RT,hx,fK,jA,if_neg gc,if_neg gd];exact⟨_,rfl,⟨_,_,rfl,us,sv,hrp.mono leS,hS,rfl⟩,rfl⟩)
    ·
      have gd:¬(st2.2.kind=1∧st2.2.s=rW):=(fun h=>by omega);refine uAc ?_;refine uBu ?_;refine aG (aE ?_);refine uBf ?_;refine aE (aH ?_);refine aB ?_;refine uHb ?_;refine aA (cL Tryz.underlying311 (fun _ h=>by cases h) rfl) rfl ?_;refine uAb ?_;refine aG (aE ?_);refine uEc ?_;refine gB fun K9 leS hS=>?_
      refine bF rfl rfl (by first|exact Hl.le_trans le2 (Hl.le_trans leK6 leS)|exact Hl.le_trans le2 leS) ?_
      first
        | (simp only [RT, hx, fK, jA, if_neg gc, if_pos gd, hr3, hb3]
           obtain⟨hr6,hr7⟩:=mC (o:=none) rfl hrb3 hsb3 hacc (hrp.mono leK6);exact⟨_,rfl,⟨_,_,rfl,_,_,hr6.mono leS,hS,rfl⟩,rfl⟩)
        |(simp only[RT,hx,fK,jA,if_neg gc,if_neg gd];exact⟨_,rfl,⟨_,_,rfl,us,sv,hrp.mono leS,hS,rfl⟩,rfl⟩)
end Go.Proofs
end
section
namespace Go.Proofs
open Go Go.SL Go.Syn
theorem aH6(b:Nat)(s:List UInt8)(st:St)(dp:Int)(rest:List Value)(K:Hl)(Tf:St→Res (Tree×St))(hs:s.length≤600)(hok:Ok s st)(hg:Glob K)(hd:0≤dp∧dp≤6)(hTa:Adv s Tf)(hT:s6 s b rest K (dp+1) Tf):
  Sp Tryz.prog 169 [ptr b,i64 dp] K [psb b s st rest] (RT s b rest (oP s Tf true st)):=by
 refine aZ Tryz.func169 rfl Tryz.ntmps169 rfl rfl fun F w=>?_
 refine aH (aB ?_);refine uAb ?_;refine aG (aE ?_);refine aH (aB ?_);refine uAx ?_;refine aY rfl rfl (aB9 b s st true dp rest _ Tf hs hok hg hd hTa hT) (.cons .here .nil) rfl (fun _ _=>a8 _ _) ?_ ?_
 ·
  rintro _ _ _ hTr le1;obtain⟨e,p,hr,fb,h,rfl⟩:=bA hTr;cases h
  refine uAr ?_;simp only[RT,hr,if_true,if_false,↓reduceIte];exact⟨fb,rfl,rfl⟩
 rintro _ K1 _ hTr leK1;obtain⟨r,hr,hrep,rfl⟩:=bB hTr;clear hTr;refine uAb ?_;refine aG (aE ?_);refine uDi ?_;refine bF rfl rfl leK1 ?_;simp only[RT,hr,if_true,if_false,↓reduceIte];exact⟨_,rfl,hrep,rfl⟩
theorem aH7(b:Nat)(s:List UInt8)(st:St)(dp:Int)(rest:List Value)(K:Hl)(Tf:St→Res (Tree×St))(hs:s.length≤600)(hok:Ok s st)(hg:Glob K)(hd:0≤dp∧dp≤6)(hTa:Adv s Tf)(hT:s6 s b rest K (dp+1) Tf):
  Sp Tryz.prog 171 [ptr b,i64 dp] K [psb b s st rest] (RT s b rest (oP s Tf false st)):=by
 refine aZ Tryz.func171 rfl Tryz.ntmps171 rfl rfl fun F w=>?_
 refine aH (aB ?_);refine uAb ?_;refine aG (aE ?_);refine aH (aB ?_);refine uAx ?_;refine aY rfl rfl (aB9 b s st false dp rest _ Tf hs hok hg hd hTa hT) (.cons .here .nil) rfl (fun _ _=>a8 _ _) ?_ ?_
 ·
  rintro _ _ _ hTr le1;obtain⟨e,p,hr,fb,h,rfl⟩:=bA hTr;cases h
  refine uAr ?_;simp only[RT,hr,if_true,if_false,↓reduceIte];exact⟨fb,rfl,rfl⟩
 rintro _ K1 _ hTr leK1;obtain⟨r,hr,hrep,rfl⟩:=bB hTr;clear hTr;refine uAb ?_;refine aG (aE ?_);refine uDi ?_;refine bF rfl rfl leK1 ?_;simp only[RT,hr,if_true,if_false,↓reduceIte];exact⟨_,rfl,hrep,rfl⟩
theorem f4(k k':List UInt8)(v:Value)(c:Nat)(es:List Ent):mget ((k',v,c)::es) k=if k=k' then some v else mget es k:=by
 unfold mget;rw[List.find?_cons]
 by_cases h:k=k'
 ·subst h;simp
 ·simp[h]
theorem aGM(k:List UInt8):mget [] k=none:=rfl
structure PE (s:List UInt8) (needs:List (List UInt8)) (nv:Value) (cb tb:Nat) (K:Hl):Prop where
 pk:PK s needs nv K
 tabs:Tabs K cb tb
theorem PE.mono{s:List UInt8}{needs:List (List UInt8)}{nv:Value}{cb tb:Nat}{K K':Hl}(h:PE s needs nv cb tb K)(le:K.le K'):PE s needs nv cb tb K':=⟨h.pk.mono le,h.tabs.mono le⟩
theorem aOB(b:Nat)(s:List UInt8)(st:St)(dp:Int)(nv:Value)(rest:List Value)(needs:List (List UInt8))(K:Hl)(Tf:St→Res (Tree×St))(hp:PK s needs nv K)(hok:Ok s st)(hd:0≤dp∧dp≤6)(hTa:Adv s Tf)(hT:s6 s b (nv::rest) K (dp+1) Tf)
  {es:List Ent} (he:es=[(aA4,fnV 165,0),(vQ,fnV 166,1),(aH0,fnV 167,2),(vN,fnV 169,3),(vO,fnV 171,4),(rY,fnV 172,5),(gT,fnV 174,6),(rZ,fnV 175,7),(rX,fnV 176,8),(aA3,fnV 178,9)]):
  (mget es st.2.s=none∧tE s needs Tf st=none)∨∃fn r,mget es st.2.s=some (fnV fn)∧tE s needs Tf st=some r∧Sp Tryz.prog fn [ptr b,i64 dp] K [psb b s st (nv::rest)] (RT s b (nv::rest) r):=by
 subst he;unfold tE;simp only[f4,aGM]
 by_cases h1:st.2.s=aA4
 ·simp only[if_pos h1];exact .inr ⟨_,_,rfl,rfl,aOQ b s st dp _ K hp.hs hok hp.hg⟩
 simp only[if_neg h1]
 by_cases h2:st.2.s=vQ
 ·simp only[if_pos h2];exact .inr ⟨_,_,rfl,rfl,aIS b s st dp _ K hp.hs hok hp.hg⟩
 simp only[if_neg h2]
 by_cases h3:st.2.s=aH0
 ·simp only[if_pos h3];exact .inr ⟨_,_,rfl,rfl,aQZ b s st dp _ K Tf hp.hs hok hp.hg hd hT⟩
 simp only[if_neg h3]
 by_cases h4:st.2.s=vN
 ·simp only[if_pos h4];exact .inr ⟨_,_,rfl,rfl,aH6 b s st dp _ K Tf hp.hs hok hp.hg hd hTa hT⟩
 simp only[if_neg h4]
 by_cases h5:st.2.s=vO
 ·simp only[if_pos h5];exact .inr ⟨_,_,rfl,rfl,aH7 b s st dp _ K Tf hp.hs hok hp.hg hd hTa hT⟩
 simp only[if_neg h5]
 by_cases h6:st.2.s=rY
 ·simp only[if_pos h6];exact .inr ⟨_,_,rfl,rfl,aGC b s st dp nv rest needs K hok hp⟩
 simp only[if_neg h6]
 by_cases h7:st.2.s=gT
 ·simp only[if_pos h7];exact .inr ⟨_,_,rfl,rfl,aBI b s st dp nv rest needs K hok hp⟩
 simp only[if_neg h7]
 by_cases h8:st.2.s=rZ
 ·simp only[if_pos h8];exact .inr ⟨_,_,rfl,rfl,aHM b s st dp nv rest needs K hok hp⟩
 simp only[if_neg h8]
 by_cases h9:st.2.s=rX
 ·simp only[if_pos h9];exact .inr ⟨_,_,rfl,rfl,aF6 b s st dp _ K hp.hs hok hp.hg⟩
 simp only[if_neg h9]
 by_cases h10:st.2.s=aA3
 ·simp only[if_pos h10];exact .inr ⟨_,_,rfl,rfl,aN2 b s st dp _ K hp.hs hok hp.hg⟩
 simp only[if_neg h10];exact .inl (by simp)
def tF(s:List UInt8)(needs:List (List UInt8))(dp:Int)(Tf:St→Res (Tree×St))(st:St):Res (Tree×St):=
 if st.2.kind=1 then (if 6 < dp then .error (5,st.2.at_)else match tE s needs Tf st with|some r=>r|none=>.error (4,st.2.at_))else .error (4,st.2.at_)
theorem aCW(b:Nat)(s:List UInt8)(st:St)(dp:Int)(nv n1:Value)(cb tb:Nat)(needs:List (List UInt8))(K:Hl)(Tf:St→Res (Tree×St))(hp:PE s needs nv cb tb K)(hok:Ok s st)(hd:0≤dp∧dp≤7)(hTa:Adv s Tf)
  (hT:dp≤6→s6 s b [nv,n1,.map (some cb),.map (some tb)] K (dp+1) Tf):
  Sp Tryz.prog 168 [ptr b,i64 dp] K [psb b s st [nv,n1,.map (some cb),.map (some tb)]] (RT s b [nv,n1,.map (some cb),.map (some tb)] (tF s needs dp Tf st)):=by
 have ha:=hok.1;obtain⟨hpk,hcm,htm⟩:=hp;refine aZ Tryz.func168 rfl Tryz.ntmps168 rfl rfl fun F w=>?_
 refine aH (aB ?_);refine uAb ?_;refine aG (aE ?_);refine aH (aH ?_);refine uAf ?_;refine uBb ?_;refine uDu ?_;refine aG (aE ?_);refine bK 13 rfl (fun h13=>?_) (fun h13=>?_)
 ·
  have g13:¬st.2.kind=1:=by omega
  refine uAf ?_;refine aY rfl rfl (iA b s st _ _) (.cons .here .nil) rfl (by rintro _ _ ⟨_,h,_⟩;cases h) ?_ ?_
  ·
   rintro _ _ _ ⟨fb,h,rfl⟩ le1;cases h
   refine uAr ?_;simp only[RT,tF,if_neg g13,if_true,if_false,↓reduceIte];exact⟨fb,rfl,rfl⟩
  ·
   rintro _ _ _ ⟨_,h,_⟩;cases h
 ·
  have g13:st.2.kind=1:=by omega
  refine aW ?_;refine aE (aH ?_);refine aH (aB ?_);refine uAa ?_;refine uEr ?_;refine aG (aE ?_);refine bK 17 rfl (fun h17=>?_) (fun h17=>?_)
  ·
   have g17:6 < dp:=by omega
   refine uGp ?_;refine uBe ?_;refine aY rfl rfl (eM 5 st.2.at_ _) .nil rfl (by rintro _ _ ⟨_,h,_⟩;cases h) ?_ ?_
   ·
    rintro _ _ _ ⟨fb,h,rfl⟩ le1;cases h
    refine uAr ?_;simp only[RT,tF,if_pos g13,if_pos g17,if_true,if_false,↓reduceIte];exact⟨fb,rfl,rfl⟩
   ·
    rintro _ _ _ ⟨_,h,_⟩;cases h
  ·
   have g17:¬6 < dp:=by omega
   have hdisp:=aOB b s st dp nv _ needs _ Tf hpk hok ⟨hd.1,by omega⟩ hTa (hT aI) rfl;refine aW ?_;refine aE (aH ?_);refine t_draw (anc:=[0,1,3,7,0,16,48,112,240,496,1023,2047,4095,4095,8191,32767]) (ord:=[0,1,2,3,4,5,6,7,8,9,10,11,12,13,14,15]) [] [] mixed (by decide+kernel) (cS _) ?_;refine uAd ?_;refine dl_ev rfl rfl (.none rfl) rfl rfl (aD (o':=9) aCZ rfl rfl) rfl ?_;refine dl_ev rfl rfl (.none rfl) rfl rfl (aJ aVS rfl aL rfl) rfl ?_;refine uFc ?_;refine dl_ev rfl rfl (.none rfl) rfl rfl (p5 Tryz.underlying206 Tryz.underlying9 aZG rfl rfl (.known htm)) rfl ?_;refine uBp ?_;refine aE (aH ?_);refine aH (aB ?_);refine uAa ?_;refine aA (by first|exact dP rfl|exact dO rfl) rfl ?_;refine aG (aE ?_);refine eJ 40 rfl (fun h40=>?_) (fun h40=>?_)
   ·
    rcases hdisp with ⟨hm,hdn⟩|⟨fn,r,hm,hds,hsp⟩
    case inr=>exact absurd h40 (by rw[hm];simp)
    refine uAf ?_;refine aY rfl rfl (iA b s st _ _) (.cons .here .nil) rfl (by rintro _ _ ⟨_,h,_⟩;cases h) ?_ ?_
    ·
     rintro _ _ _ ⟨fb,h,rfl⟩ le1;cases h
     refine uAr ?_;simp only[RT,tF,if_pos g13,if_neg g17,hdn,if_true,if_false,↓reduceIte];exact⟨fb,rfl,rfl⟩
    ·
     rintro _ _ _ ⟨_,h,_⟩;cases h
   ·
    rcases hdisp with ⟨hm,hdn⟩|⟨fn,r,hm,hds,hsp⟩
    case inl=>exact absurd h40 (by rw[hm];simp)
    refine aW ?_;refine aE (aH ?_);refine uAf ?_;refine uAx ?_;refine aY (congrArg some (by rw[hm];rfl)) rfl hsp (.cons .here .nil) rfl (fun _ _=>a8 _ _) ?_ ?_
    ·
     rintro _ _ _ hTr le1;obtain⟨e,p,ht,fb,h,rfl⟩:=bA hTr;cases h
     refine uAr ?_;simp only[RT,tF,if_pos g13,if_neg g17,hds,ht,if_true,if_false,↓reduceIte];exact⟨fb,rfl,rfl⟩
    rintro _ K1 _ hTr leK1;obtain⟨t,ht,hrep,rfl⟩:=bB hTr;clear hTr;refine uAb ?_;refine aG (aE ?_);refine uDi ?_;refine bF rfl rfl leK1 ?_;simp only[RT,tF,if_pos g13,if_neg g17,hds,ht,if_true,if_false,↓reduceIte];exact⟨_,rfl,hrep,rfl⟩
end Go.Proofs
end
section
namespace Go.Proofs
open Go Go.SL Go.Syn
theorem aJP(s:List UInt8)(needs:List (List UInt8))(Tf:St→Res (Tree×St))(st:St):tF s needs 7 Tf st=Syn.test s needs 0 st:=by
 unfold tF Syn.test;simp
theorem aJO(s:List UInt8)(needs:List (List UInt8))(n:Nat)(dp:Int)(h:dp≤6)(st:St):tF s needs dp (Syn.test s needs n) st=Syn.test s needs (n+1) st:=by
 unfold tF;rw[Syn.test,if_neg (show ¬6 < dp by omega)]
 split
 ·cases tE s needs (Syn.test s needs n) st <;> rfl
 ·rfl
theorem aOC(b:Nat)(s:List UInt8)(nv n1:Value)(cb tb:Nat)(needs:List (List UInt8)):∀(n:Nat),n≤7→∀(K:Hl),PE s needs nv cb tb K→s6 s b [nv,n1,.map (some cb),.map (some tb)] K (7 - n) (Syn.test s needs n):=by
 intro n;induction n with
 |zero=>
  intro _ K hp st K' le hok;have h:=aCW b s st 7 nv n1 cb tb needs K' (Syn.test s needs 0) (hp.mono le) hok ⟨by decide,by decide⟩ (m0 0) (fun h=>absurd h (by decide));rw[aJP]at h;exact h
 |succ n ih=>
  intro hn K hp st K' le hok;have h := aCW b s st (7 - (n + 1 : Nat)) nv n1 cb tb needs K' (Syn.test s needs n) (hp.mono le) hok ⟨by omega, by omega⟩ (m0 n) (fun _ => by
   have:=ih aI K' (hp.mono le);rw[show ((7:Int) - ((n+1:Nat):Int)+1)=7 - (n:Nat)from by omega];exact this)
  rw[aJO s needs n _ aI]at h;exact h
theorem aJG(b:Nat)(s:List UInt8)(st:St)(at_ dp:Int)(nv:Value)(rest:List Value)(needs:List (List UInt8))(K:Hl)(hp:PK s needs nv K)(hok:Ok s st):
  Sp Tryz.prog 163 [ptr b,i64 at_,i64 dp] K [psb b s st (nv::rest)] (RT s b (nv::rest) (aAN s needs st)):=by
 refine(aRW b s st at_ dp nv rest needs K hp.hs hok hp.hg hp.hv hp.hn).mono fun e K' L' h=>?_
 unfold RT aAN;cases hs:setC s needs st with
 |error p=>rw[hs]at h;exact h
 |ok r=>
  rw[hs]at h;obtain⟨v,rfl,_,rfl,rfl⟩:=h;exact⟨_,rfl,⟨_,_,rfl,rfl⟩,rfl⟩
theorem aPG(b:Nat)(s:List UInt8)(st:St)(dp:Int)(nv:Value)(rest:List Value)(needs:List (List UInt8))(K:Hl)(Tf Bf:St→Res (Tree×St))(hp:PK s needs nv K)(hok:Ok s st)(hd:0≤dp∧dp≤6)(hTa:Adv s Tf)(hBa:AdvE s Bf)(hT:s6 s b (nv::rest) K (dp+1) Tf)(hB:yN s b (nv::rest) K (dp+1) Bf)
  {cb tb:Nat} (ht:Tabs K cb tb):∃es c,K cb=some (mapO es c)∧
  ((mget es st.2.s=none∧cmdD s needs Tf Bf st=none)∨∃fn caps r,mget es st.2.s=some (.func (.func fn) #[] caps)∧cmdD s needs Tf Bf st=some r∧Sp Tryz.prog fn ([ptr b,i64 st.2.at_,i64 dp]++caps.toList) K [psb b s st (nv::rest)] (RT s b (nv::rest) r)):=by
 obtain⟨c1,c2,c3,d1,e1,d2,e2,d3,e3,h0,k1,k2,k3,k4,k5,k6,k7,k8,k9⟩:=ht.cmds;refine⟨_,_,h0,?_⟩
 unfold cmdD;simp only[f4,aGM]
 by_cases h1:st.2.s=aE8
 ·simp only[if_pos h1];exact .inr ⟨_,_,_,rfl,rfl,qD b s st st.2.at_ dp _ c1 _ _ _ K hp.hs hok hp.hg k1 (fun K=>aUL _ K) (fun K=>aG3 K _ _ _)⟩
 simp only[if_neg h1]
 by_cases h2:st.2.s=sY
 ·simp only[if_pos h2];exact .inr ⟨_,_,_,rfl,rfl,qD b s st st.2.at_ dp _ c2 _ _ _ K hp.hs hok hp.hg k2 (fun K=>aUM _ K) (fun K=>aAG K _)⟩
 simp only[if_neg h2]
 by_cases h3:st.2.s=aFA
 ·simp only[if_pos h3];exact .inr ⟨_,_,_,rfl,rfl,qD b s st st.2.at_ dp _ c3 _ _ _ K hp.hs hok hp.hg k3 (fun K=>aUN _ K) (fun K=>aAG K _)⟩
 simp only[if_neg h3]
 by_cases h4:st.2.s=iK
 ·simp only[if_pos h4];exact .inr ⟨_,_,_,rfl,rfl,pW b s st st.2.at_ dp nv rest needs d1 e1 _ _ K hp.hs hok hp.hg hp.hv hp.hn k4 k5⟩
 simp only[if_neg h4]
 by_cases h5:st.2.s=qK
 ·simp only[if_pos h5];exact .inr ⟨_,_,_,rfl,rfl,pW b s st st.2.at_ dp nv rest needs d2 e2 _ _ K hp.hs hok hp.hg hp.hv hp.hn k6 k7⟩
 simp only[if_neg h5]
 by_cases h6:st.2.s=kL
 ·simp only[if_pos h6];exact .inr ⟨_,_,_,rfl,rfl,pW b s st st.2.at_ dp nv rest needs d3 e3 _ _ K hp.hs hok hp.hg hp.hv hp.hn k8 k9⟩
 simp only[if_neg h6]
 by_cases h7:st.2.s=aH1
 ·simp only[if_pos h7];exact .inr ⟨_,_,_,rfl,rfl,aJG b s st st.2.at_ dp nv rest needs K hp hok⟩
 simp only[if_neg h7]
 by_cases h8:st.2.s=txIf
 ·simp only[if_pos h8];exact .inr ⟨_,_,_,rfl,rfl,aBF b s st _ st.2.at_ dp K Tf Bf hp.hs hok hp.hg hd hTa hBa hT hB⟩
 simp only[if_neg h8];exact .inl (by simp)
def cmdG(s:List UInt8)(needs:List (List UInt8))(dp:Int)(Tf Bf:St→Res (Tree×St))(st:St):Option (Res (Tree×St)):=if 6 < dp then some (.error (5,st.2.at_))else cmdD s needs Tf Bf st
theorem yX(b:Nat)(s:List UInt8)(st:St)(dp:Int)(nv n1:Value)(cb tb:Nat)(needs:List (List UInt8))(K:Hl)(Tf Bf:St→Res (Tree×St))(hp:PE s needs nv cb tb K)(hok:Ok s st)(hd:0≤dp∧dp≤7)(hTa:Adv s Tf)(hBa:AdvE s Bf)
  (hT:dp≤6→s6 s b [nv,n1,.map (some cb),.map (some tb)] K (dp+1) Tf) (hB:dp≤6→yN s b [nv,n1,.map (some cb),.map (some tb)] K (dp+1) Bf) (r0:Res (Tree×St)) (hr0:kM s (cmdG s needs dp Tf Bf) (mu s st+1) .cnil st=r0):
  Sp Tryz.prog 105 [ptr b,i64 dp] K [psb b s st [nv,n1,.map (some cb),.map (some tb)]] (RB s b [nv,n1,.map (some cb),.map (some tb)] r0):=by
 have ha:=hok.1;obtain⟨hpk,htabs⟩:=hp;refine aZ Tryz.func105 rfl Tryz.ntmps105 rfl rfl fun F w=>?_
 refine aH (aB ?_);refine uAb ?_;refine aG (aE ?_);refine aH (aB ?_);refine uAb ?_;refine aG (aE ?_);refine aH (bE ?_);refine sN (fun(K2:Hl) (st2:St) (us:List (Cell×Cell)) (v:Value)=>K.le K2∧Ok s st2∧us.length+mu s st2≤1300∧∃acc f,isCL acc=true∧Rep K2 acc us∧mu s st2≤f∧r0=kM s (cmdG s needs dp Tf Bf) (f+1) acc st2) (fun _ _ _ v=>[(0,ptr b),(1,i64 dp),(5,v)]) (fun K2 _ _ _=>K2) (fun _ st2 us v=>[sl false (eD 224) v (us.map Prod.fst),psb b s st2 [nv,n1,.map (some cb),.map (some tb)]]) (fun _ st2 _ _=>mu s st2) K st [] (.slice none 0 0) ⟨Hl.le_refl _,hok,by have:=tA s st;have:=hpk.hs;simp;omega,.cnil,mu s st,rfl,rfl,Nat.le_refl _,hr0.symm⟩ (.cons 0 rfl (.cons 1 rfl (.cons 5 rfl .nil))) rfl (dX (eD 224)) ?_;intro K2 st2 us v ⟨leL,hok2,hus,acc,f,hacc,hrp,hf,hx⟩;refine aH (aH ?_);refine uAf ?_;refine uBb ?_;refine uAq ?_;refine aG (aE ?_);refine bK 15 rfl (fun h15=>?_) (fun h15=>?_)
 ·
  have g15:st2.2.kind=1:=by omega
  refine aW ?_;refine aE (bE ?_);refine aH (aB ?_);refine uEi ?_;refine uBe ?_;refine uAb ?_;refine aG (aE ?_);refine aH (aH ?_);refine uAf ?_;refine uEr ?_;refine aG (aE ?_);refine bK 23 rfl (fun h23=>?_) (fun h23=>?_)
  ·
   have g23:cmdG s needs dp Tf Bf st2=some (.error (5,st2.2.at_)):=if_pos aI;refine uAf ?_;refine aY rfl rfl (eM 5 st2.2.at_ _) .nil rfl (by rintro _ _ ⟨_,h,_⟩;cases h) ?_ ?_
   ·
    rintro _ _ _ ⟨fb,h,rfl⟩ le1;cases h
    refine uAg ?_;refine uGf ?_;refine bJ (Hl.le_trans leL le1) ?_;simp only[RB,hx,kM,if_pos g15,g23,if_true,if_false,↓reduceIte];exact⟨fb,rfl,rfl⟩
   ·
    rintro _ _ _ ⟨_,h,_⟩;cases h
  ·
   have g23:cmdG s needs dp Tf Bf st2=cmdD s needs Tf Bf st2:=if_neg aI;obtain⟨es,ec,hes,hdisp⟩:=aPG b s st2 dp nv _ needs _ Tf Bf (hpk.mono leL) hok2 ⟨hd.1,by omega⟩ hTa hBa (fun st3 K3 lx ho=>hT aI st3 K3 (Hl.le_trans leL lx) ho) (fun st3 K3 lx ho=>hB aI st3 K3 (Hl.le_trans leL lx) ho) (htabs.mono leL);refine aW ?_;refine aE (aH ?_);refine t_draw (anc:=[0,1,3,7,0,16,48,112,240,496,1023,2047,4095,4095,8191,32767]) (ord:=[0,1,2,3,4,5,6,7,8,9,10,11,12,13,14,15]) [] [] mixed (by decide+kernel) (cS _) ?_;refine uAd ?_;refine dl_ev rfl rfl (.none rfl) rfl rfl (aD (o':=8) aCY rfl rfl) rfl ?_;refine dl_ev rfl rfl (.none rfl) rfl rfl (aJ aVR rfl aL rfl) rfl ?_;refine uFc ?_;refine dl_ev rfl rfl (.none rfl) rfl rfl (p5 Tryz.underlying205 Tryz.underlying9 aZF rfl rfl (.known hes)) rfl ?_;refine uBp ?_;refine aE (aH ?_);refine aH (aB ?_);refine uAa ?_;refine aA (by first|exact dP rfl|exact dO rfl) rfl ?_;refine aG (aE ?_);refine eJ 41 rfl (fun h41=>?_) (fun h41=>?_)
   ·
    rcases hdisp with ⟨hm,hdn⟩|⟨fn,caps,r,hm,hds,hsp⟩
    case inr=>exact absurd h41 (by rw[hm];simp)
    refine uAf ?_;refine aY rfl rfl (iA b s st2 _ _) (.cons (.there .here) .nil) rfl (by rintro _ _ ⟨_,h,_⟩;cases h) ?_ ?_
    ·
     rintro _ _ _ ⟨fb,h,rfl⟩ le1;cases h
     refine uAg ?_;refine uGf ?_;refine bJ (Hl.le_trans leL le1) ?_;simp only[RB,hx,kM,if_pos g15,g23,hdn,if_true,if_false,↓reduceIte];exact⟨fb,rfl,rfl⟩
    ·
     rintro _ _ _ ⟨_,h,_⟩;cases h
   ·
    rcases hdisp with ⟨hm,hdn⟩|⟨fn,caps,r,hm,hds,hsp⟩
    case inl=>exact absurd h41 (by rw[hm];simp)
    refine aW ?_;refine aE (aB ?_);refine uAx ?_;refine uEg ?_;refine aY (congrArg some (by rw[hm];rfl)) rfl hsp (.cons (.there .here) .nil) rfl (fun _ _=>a8 _ _) ?_ ?_
    ·
     rintro _ _ _ hTr le1;obtain⟨e,p,hc2,fb,h,rfl⟩:=bA hTr;cases h
     refine uEn ?_;refine uBc ?_;refine bJ (Hl.le_trans leL le1) ?_;simp only[RB,hx,kM,if_pos g15,g23,hds,hc2,if_true,if_false,↓reduceIte];exact⟨fb,rfl,rfl⟩
    rintro _ K3 _ hTr leK3;obtain⟨c2,hc2,⟨ty2,u2,rfl,hrep2⟩,rfl⟩:=bB hTr;clear hTr;have hm2:=y4 hTa hBa hok2 aI (by rw[hds,hc2]);refine ol_s (bN (z0:=[.nilIface]) xR aZM rfl rfl rfl rfl (.cons rfl rfl rfl (.cons .nil) .nil)) rfl ?_;rintro _ K _ ⟨b50,rfl,rfl,rfl⟩ -;refine ol_s (dM (k:=(eD 224)) (ys:=[⟨.iface ty2 u2,rfl⟩]) aAU rfl rfl (.there (.there .here)) (fun w j=>dB Tryz.underlying135 (SeesSl.at (.blk (.own .here) rfl rfl) j)) (by simp;omega) (by first|(simp;omega)|omega)) rfl ?_;rintro v51 K _ ⟨rfl,rfl,ho51⟩ -;refine uAb ?_;refine aG (aN ?_);obtain⟨f0,rfl⟩:∃f0,f=f0+1:=⟨f - 1,by omega⟩;obtain⟨hr3,hr4⟩:=aNJ hrep2 hacc (hrp.mono leK3);refine uFs ?_;refine o9 _ c2.2 (us++[(⟨.iface ty2 u2,rfl⟩,u0)]) _ ⟨Hl.le_trans leL leK3,hm2.1,by simp;omega,acc.snocC c2.1,f0,hr4,hr3,by omega,?_⟩ aI (.cons 0 rfl (.cons 1 rfl (.cons 5 rfl .nil))) rfl (by rw[List.map_append];exact fun _ h=>h)
    simp only[RB,hx,kM,if_pos g15,g23,hds,hc2,if_true,if_false,↓reduceIte]
 ·
  have g15:¬st2.2.kind=1:=by omega
  refine uAp ?_;refine aE (aH ?_);refine uFz ?_;refine aG (aE ?_);refine bI ?_;refine uCu ?_;refine bF rfl rfl leL ?_;simp only[RB,hx,kM,if_neg g15,if_true,if_false,↓reduceIte];exact⟨_,rfl,us,hrp,hacc,rfl⟩
theorem aL2(s:List UInt8)(needs:List (List UInt8))(Tf Bf:St→Res (Tree×St))(st:St):kM s (cmdG s needs 7 Tf Bf) (mu s st+1) .cnil st=Syn.block s needs 0 st:=by
 unfold kM Syn.block
 by_cases h:st.2.kind=1
 ·rw[if_pos h,if_pos h];rfl
 ·rw[if_neg h,if_neg h]
theorem aL1(s:List UInt8)(needs:List (List UInt8))(dp:Int)(h:dp≤6)(Tf Bf:St→Res (Tree×St)):cmdG s needs dp Tf Bf=cmdD s needs Tf Bf:=by
 funext st;unfold cmdG;rw[if_neg aI]
theorem aIB(b:Nat)(s:List UInt8)(nv n1:Value)(cb tb:Nat)(needs:List (List UInt8)):∀(n:Nat),n≤7→∀(K:Hl),PE s needs nv cb tb K→yN s b [nv,n1,.map (some cb),.map (some tb)] K (7 - n) (Syn.block s needs n):=by
 intro n;induction n with
 |zero=>
  intro _ K hp st K' le hok;have h:=yX b s st 7 nv n1 cb tb needs K' (Syn.test s needs 0) (Syn.block s needs 0) (hp.mono le) hok ⟨by decide,by decide⟩ (m0 0) (sD 0) (fun h=>absurd h (by decide)) (fun h=>absurd h (by decide)) _ (aL2 s needs _ _ st);exact h
 |succ n ih=>
  intro hn K hp st K' le hok;have e:((7:Int) - ((n+1:Nat):Int)+1)=7 - (n:Nat):=by omega
  have h:=yX b s st (7 - (n+1:Nat)) nv n1 cb tb needs K' (Syn.test s needs n) (Syn.block s needs n) (hp.mono le) hok ⟨by omega,by omega⟩ (m0 n) (sD n)
   (fun _=>by rw[e];exact aOC b s nv n1 cb tb needs n aI K' (hp.mono le)) (fun _=>by rw[e];exact ih aI K' (hp.mono le)) _ (by rw[aL1 s needs _ aI])
  exact h
end Go.Proofs
end
section
namespace Go.Proofs
open Go Go.SL Go.Syn
theorem aI9(b2 b3:Nat)(K:Hl)(L:List Asn):SpD Tryz.prog 99 [ptr b2,ptr b3] K L .returning fun e u' K' L'=>u'=.returning∧(e=.returned (.tuple #[])∧K'=K∧L'=L):=by
 refine aEU (rv:=.nilIface) (u':=.returning) Tryz.func99 rfl Tryz.ntmps99 rfl rfl rfl rfl tC fun F w=>?_
 refine aH (aB ?_);refine uAa ?_;refine aA (gL Tryz.underlying20 rfl) rfl ?_;refine aG (aE ?_);refine uBf ?_;refine dD rfl (Hl.le_refl _) ?_;exact⟨rfl,rfl,rfl⟩
theorem aI8(b2 b3 fb:Nat)(v1 v2:Value)(K:Hl):SpD Tryz.prog 99 [ptr b2,ptr b3] K [pt b3 (aU [v2] 79),pt b2 (aU [v1] 87)] (.panicking [{v:=.iface 118 (ptr fb),recovered:=false}])
  fun e u' K' L'=>u'=.panicking [{v:=.iface 118 (ptr fb),recovered:=true}]∧(e=.returned (.tuple #[])∧K'=K∧L'=[pt b3 (aU [.iface 118 (ptr fb)] 79),pt b2 (aU [.pointer none] 87)]):=by
 refine aEU (rv:=.iface 118 (ptr fb)) (u':=.panicking [{v:=.iface 118 (ptr fb),recovered:=true}]) Tryz.func99 rfl Tryz.ntmps99 rfl rfl rfl rfl tB fun F w=>?_
 refine aH (aB ?_);refine uAa ?_;refine aA (iF Tryz.underlying20 rfl rfl) rfl ?_;refine aG (aE ?_);refine uGe ?_;refine aH (aB ?_);refine uAa ?_;refine aA (fE Tryz.underlying118 (fun _ h=>by cases h) rfl) rfl ?_;refine uBy ?_;refine aG (aE ?_);refine aH (aH ?_);refine uAf ?_;refine aA (by first|exact dP rfl|exact dO rfl) rfl ?_;refine aG (aE ?_);refine uBf ?_;refine aE (aB ?_);refine uAa ?_;refine aA (cL Tryz.underlying118 (fun _ h=>by cases h) rfl) rfl ?_;refine bP (bH ts87 rfl rfl cD aX .zero rfl) ?_;rintro _ K _ ⟨rfl,rfl⟩ -;refine uEm ?_;rintro _ K _ ⟨rfl,rfl⟩ -;refine aG ?_;refine dD rfl (Hl.le_refl _) ?_;exact⟨rfl,rfl,rfl⟩
structure ScriptAt (K:Hl) (b:Nat) (needs:List (List UInt8)) (t:Tree):Prop where
 at_:∃l nv bv ys fz,K b=some (aU l 208 fz)∧l[6]?=some nv∧l[7]?=some bv∧Ksl (bT 9) K nv needs∧Ksl (eD 224) K bv (ys.map Prod.fst)∧Rep K t ys∧isCL t=true
def aWA(s:List UInt8)(v:Value)(K:Hl):Prop:=
 (600 < s.length∧v=.tuple #[.pointer none,.iface 30 (i64 1)])∨
 (s.length≤600∧((∃b r,gR s=.ok r∧v=.tuple #[ptr b 6,.nilIface]∧ScriptAt K b r.1 r.2)∨(∃fb e p,gR s=.error (e,p)∧v=.tuple #[.pointer none,.iface 118 (ptr fb)]∧K fb=some (aU [i64 e,i64 p] 123))))
abbrev aH5(s:List UInt8):Ending→Hl→List Asn→Prop:=Ret fun v K' L'=>aWA s v K'∧L'=[]
theorem kV{n:Nat}{w:World}{F K0 K:Hl}{fr:Fr}{b2 b3 fb:Nat}{v1 v2:Value}{e p:Int}{s:List UInt8}(g2:fr.get 2=some (ptr b2))(g3:fr.get 3=some (ptr b3))(le:K0.le K)(hs:s.length≤600)(h:gR s=.error (e,p)):
  D ⟨Tryz.prog,n,[dfr 99 #[ptr b2,ptr b3]],w,F⟩ (.panic [{v:=.iface 118 (ptr fb),recovered:=false}]) fr K [pt fb (aU [i64 e,i64 p] 123),pt b3 (aU [v2] 79),pt b2 (aU [v1] 87)] (w9 Tryz.prog Tryz.f57 w F K0 (aH5 s)):=by
 refine gI fun K1 le1 hfb=>?_
 refine aPN (.pan _) rfl ts87 ts79 g2 g3 (.cons .here (.cons .here .nil)) (aI8 b2 b3 fb v1 v2 K1) rfl ?_;rintro _ _ _ ⟨rfl,rfl,rfl⟩;exact⟨⟨_,rfl⟩,fun le2=>⟨_,_,[],fun _ hh=>eH hh,⟨_,rfl,.inr ⟨hs,.inr ⟨fb,e,p,h,rfl,hfb⟩⟩,rfl⟩,Hl.le_trans le le1⟩⟩
theorem aCF{n:Nat}{w:World}{F K0 K:Hl}{fr:Fr}{b2 b3 b:Nat}{s:List UInt8}{r:List (List UInt8)×Tree}(g2:fr.get 2=some (ptr b2))(g3:fr.get 3=some (ptr b3))(le:K0.le K)(hs:s.length≤600)(h:gR s=.ok r)(hat:ScriptAt K b r.1 r.2):
  D ⟨Tryz.prog,n,[dfr 99 #[ptr b2,ptr b3]],w,F⟩ .ret fr K [pt b3 (aU [.nilIface] 79),pt b2 (aU [ptr b 6] 87)] (w9 Tryz.prog Tryz.f57 w F K0 (aH5 s)):=by
 refine aPN .ret rfl ts87 ts79 g2 g3 (.cons .here (.cons .here .nil)) (aI9 b2 b3 K _) rfl ?_;rintro _ _ _ ⟨rfl,rfl,rfl⟩;exact⟨⟨_,rfl⟩,fun le2=>⟨_,_,[],fun _ hh=>eH hh,⟨_,rfl,.inr ⟨hs,.inl ⟨b,r,h,rfl,hat⟩⟩,rfl⟩,le⟩⟩
theorem xD(b:Nat)(s:List UInt8)(nv n1:Value)(cb tb:Nat)(needs:List (List UInt8))(K:Hl)(hp:PE s needs nv cb tb K)(st:St)(hok:Ok s st):Sp Tryz.prog 105 [ptr b,i64 0] K [psb b s st [nv,n1,.map (some cb),.map (some tb)]] (RB s b [nv,n1,.map (some cb),.map (some tb)] (Syn.block s needs 7 st)):=
 aIB b s nv n1 cb tb needs 7 (Nat.le_refl _) K hp st K (Hl.le_refl _) hok
theorem aJA(s:List UInt8)(K:Hl)(hg:Glob K):Sp Tryz.prog 57 [str s] K [] (aH5 s):=by
  refine aHJ Tryz.func57 rfl Tryz.ntmps57 rfl rfl fun F w=>?_
  refine aH (aB ?_);refine ol_s (cN tz87) rfl ?_;rintro _ K _ ⟨b2,rfl,rfl,rfl⟩ -;refine ol_s (cN tz79) rfl ?_;rintro _ K _ ⟨b3,rfl,rfl,rfl⟩ -;refine aG (aE ?_);refine aH (aH ?_);refine uAf ?_;refine uBs ?_;refine uEr ?_;refine aG (aE ?_);refine bK 9 rfl (fun h9=>?_) (fun h9=>?_)
  ·
    refine aH (aB ?_);refine aA (cL Tryz.underlying30 (fun _ h=>by cases h) rfl) rfl ?_;refine bP (bH ts87 rfl rfl cD aX .zero rfl) ?_;rintro _ K _ ⟨rfl,rfl⟩ -;refine uEm ?_;rintro _ K _ ⟨rfl,rfl⟩ -;refine aG (aE ?_);refine uCk ?_;refine aTH rfl ts87 ts79 rfl rfl (.cons (.there .here) (.cons .here .nil)) (Hl.le_refl _) ?_;exact⟨_,rfl,.inl ⟨by omega,rfl⟩,rfl⟩
  ·
    have hs:s.length≤600:=by omega
    refine aW ?_;refine aE (aH ?_);refine aB ?_;refine uGi ?_;refine aGR rfl ?_;refine aG (aE ?_);refine aH (aB ?_);refine uAa ?_;refine aA (cP aYY aXJ (.cons rfl rfl rfl (.cons .nil) .nil)) rfl ?_;refine aA (cP aYZ aXK (.cons rfl rfl rfl (.cons (.cons (.cons (.cons (.cons (.cons .nil)))))) .nil)) rfl ?_;refine uBk ?_;rintro _ K _ ⟨b15,rfl,rfl,rfl⟩ -;refine uAb ?_;refine aG (aE ?_);refine aH (aB ?_);refine uAa ?_;refine bC rfl rfl (aHO b15 s (0,⟨0,[],0,0⟩) _ _ _) (.cons .here .nil) rfl ?_;rintro _ K1 _ ⟨rfl,cb,tb,htab,rfl⟩ leT;refine aG (aE ?_);refine aH (aB ?_);refine uEi ?_;refine aY rfl rfl (dL b15 208 s 0 _ _ _ _ _ hs (Nat.zero_le _) _ (hg.mono leT)) (.cons .here .nil) rfl (fun _ _=>a8 _ _) ?_ ?_
    ·
      rintro _ _ _ hTr le1;obtain⟨e,p,hr,fb,h,rfl⟩:=bA hTr;cases h
      refine uDz ?_;refine aK ?_;exact kV rfl rfl (Hl.le_trans leT le1) hs (by simp only[gR,hr,if_true,if_false,↓reduceIte])
    rintro _ K _ hTr -;obtain⟨r,hr,rfl,rfl,rfl⟩:=bB hTr;clear hTr;have hro:=eB (Nat.zero_le _) hr;refine aG (aE ?_);refine aH (bE ?_);refine mP (fun(st2:St) (ns:List (List UInt8)) (sv:Value)=>Ok s st2∧ns.length+mu s st2≤1300∧∃f,mu s st2≤f∧gR s=hZ s (reqF s (f+1) ns st2)) (fun _ _ _=>[(2,ptr b2),(3,ptr b3),(4,ptr b15)]) (fun _ _ _=>K) (fun st2 ns sv=>[sl false (bT 9) sv ns,psb b15 s st2 [sv,.slice none 0 0,.map (some cb),.map (some tb)],pt b3 (aU [.nilIface] 79),pt b2 (aU [.pointer none] 87)]) (fun st2 _ _=>mu s st2) r [] (.slice none 0 0) ⟨hro,by have:=tA s r;simp;omega,mu s r,Nat.le_refl _,by simp only[gR,hr]⟩ (.cons 2 rfl (.cons 3 rfl (.cons 4 rfl .nil))) rfl (dX (bT 9)) ?_;intro st2 ns sv ⟨hok2,hns,f,hf,hx⟩;refine aH (aH ?_);refine uAf ?_;refine uBb ?_;refine uHf ?_;refine cG 29 rfl (fun g29=>?_) (fun g29=>?_)
    ·
      have g29:st2.2.kind=1:=by omega
      refine uAi ?_;refine uBq ?_;refine uAz ?_;refine uIl ?_;refine uAy ?_;refine aG (aE ?_);refine bK 37 rfl (fun h37=>?_) (fun h37=>?_)
      ·
        have gc:st2.2.kind=1∧st2.2.s=pR:=⟨by omega,h37⟩;refine aW ?_;refine aE (bE ?_);refine aH (aB ?_);refine uEi ?_;refine aY rfl rfl (dL b15 208 s st2.1 _ _ _ _ _ hs hok2.1 _ (hg.mono leT)) (.cons (.there .here) .nil) rfl (fun _ _=>a8 _ _) ?_ ?_
        ·
          rintro _ _ _ hTr le1;obtain⟨e,p,hr2,fb,h,rfl⟩:=bA hTr;cases h
          refine uEa ?_;refine uGf ?_;exact kV rfl rfl (Hl.le_trans leT le1) hs (by simp only[hx,reqF,hZ,if_pos gc,hr2,if_true,if_false,↓reduceIte])
        rintro _ K _ hTr -;obtain⟨r2,hr2,rfl,rfl,rfl⟩:=bB hTr;clear hTr;have hm2:=fG hok2.1 aI hr2;have hro2:=eB hok2.1 hr2;refine aG (aE ?_);refine aH (aH ?_);refine uAf ?_;refine ol_s (bN (z0:=[(str []),(str []),(str []),(str [])]) cX tz9 rfl rfl rfl rfl (.cons rfl rfl rfl (.cons .nil) (.cons rfl rfl rfl (.skip (.cons .nil)) (.cons rfl rfl rfl (.skip (.skip (.cons .nil))) (.cons rfl rfl rfl (.skip (.skip (.skip (.cons .nil)))) .nil))))) rfl ?_;rintro _ K _ ⟨b43,rfl,rfl,rfl⟩ -;refine fD fun Ka leA hKa=>?_
        refine bC rfl rfl (mA 6 _ _ rfl) .nil rfl ?_;rintro _ Kb _ ⟨c1,c2,rfl,hc1,hc2,rfl⟩ leB;refine aY rfl rfl (p9 b15 s r2 _ 192 #[ptr c1,ptr c2] (Syn.oneOf 6 aA1) _ hs hro2 (hg.mono (Hl.le_trans leT (Hl.le_trans leA leB))) (fun x hx=>kU x 6 aA1 _ c1 c2 _ hc1 hc2 (.inr ⟨b43,0,4,[str gT,str iK,str kL,str eO],(0,0),rfl,⟨_,leB _ _ hKa⟩,rfl⟩) (by simp[aA1]))) (.cons .here .nil) rfl (fun _ _=>a8 _ _) ?_ ?_
        ·
          rintro _ _ _ hTr le1;obtain⟨e,p,hl,fb,h,rfl⟩:=bA hTr;cases h
          refine uEa ?_;refine aK ?_;refine uGf ?_;exact kV rfl rfl (Hl.le_trans leT (Hl.le_trans leA (Hl.le_trans leB le1))) hs (by simp only[hx,reqF,hZ,if_pos gc,hr2,hl,if_true,if_false,↓reduceIte])
        rintro v45 K _ hTr -;obtain⟨l,hl,rfl,rfl⟩:=bB hTr;clear hTr;have hlo:=mN hro2 hl;have hll:=rB hro2 hl;refine uCh ?_;refine uAa ?_;refine aG (aE ?_);refine bE ?_;refine mP (fun(i:Nat) (ms:List (List UInt8)) (sw:Value)=>i≤l.1.length∧ms=iO ns (l.1.take i)∧ms.length≤ns.length+i) (fun i _ _=>[(2,ptr b2),(3,ptr b3),(4,ptr b15),(45,v45),(46,i64 l.1.length),(47,i64 i)]) (fun _ _ _=>_) (fun i ms sw=>[sl false (bT 9) v45 l.1,psb b15 s l.2 [sw,.slice none 0 0,.map (some cb),.map (some tb)],sl false (bT 9) sw ms,pt b3 (aU [.nilIface] 79),pt b2 (aU [.pointer none] 87)]) (fun i _ _=>l.1.length - i) 0 ns sv ⟨Nat.zero_le _,rfl,Nat.le_refl _⟩ (.cons 2 rfl (.cons 3 rfl (.cons 4 rfl (.cons 45 rfl (.cons 46 rfl (.cons 47 rfl .nil)))))) rfl (fun _ h=>h) ?_;intro i ms sw ⟨hi0,hms,hml⟩;refine aH (aB ?_);refine uBn ?_;refine aG (aE ?_);refine aH ?_;refine bK 48 rfl (fun h48=>?_) (fun h48=>?_)
        ·
          have hilt:i < l.1.length:=by omega
          obtain⟨e,he⟩:∃e,l.1[i]?=some e:=⟨l.1[i]'hilt,List.getElem?_eq_getElem hilt⟩;refine aW ?_;refine aE (aH ?_);refine bE (aH ?_);refine aB ?_;refine aA (b0 (k:=(bT 9)) cX rfl aL rfl rfl (by first|assumption|omega)) rfl ?_;refine uCm ?_;refine uAb ?_;refine aG (aE ?_);refine aH (aB ?_);refine uBz ?_;refine uFt ?_;refine uAa ?_;refine bC rfl rfl (aGB b15 e ms _ 208 sw _ [psb b15 s l.2 [sw,.slice none 0 0,.map (some cb),.map (some tb)],sl false (bT 9) sw ms] (.own .here) rfl (.own (.there .here)) (by have:=tA s r2;omega)) (.cons (.there .here) (.cons (.there .here) .nil)) rfl ?_;rintro _ K _ ⟨rfl,rfl,rfl⟩ -;refine aA (by first|exact dP rfl|exact dO rfl) rfl ?_;refine aG (aE ?_);refine eJ 56 rfl (fun h56=>?_) (fun h56=>?_)
          ·
            refine uAf ?_;refine uBz ?_;refine uFt ?_;refine aA (aD (o':=6) sP rfl rfl) rfl ?_;refine uCo ?_;refine uAa ?_;refine ol_s (bN (z0:=[(str [])]) cX tz9 rfl rfl rfl rfl (.cons rfl rfl rfl (.cons .nil) .nil)) rfl ?_;rintro _ K _ ⟨b64,rfl,rfl,rfl⟩ -;refine ol_s (dM (k:=(bT 9)) (ys:=[e]) iC rfl rfl (.there (.there .here)) (fun w j=>dB Tryz.underlying39 (SeesSl.at (.blk (.own .here) rfl rfl) j)) (by simp;omega) (by first|(simp;omega)|omega)) rfl ?_;rintro v65 K _ ⟨rfl,rfl,ho65⟩ -;refine uEw ?_;refine uFt ?_;refine aA (aD (o':=6) sP rfl rfl) rfl ?_;refine bP (bH ts39 rfl rfl cD aX (.succ (.succ (.succ (.succ (.succ (.succ .zero)))))) rfl) ?_;rintro _ K _ ⟨rfl,rfl⟩ -;refine aG (aN ?_);refine aE (aB ?_);refine uAo ?_
            first
              | (refine aO (.cons (.there (.there (.there .here))) (.cons (.there (.there .here)) (.cons .here (.cons (.there .here) (.cons (.there .here) .nil))))) ?_
                 refine fU (i+1) (ms++[e]) _ ⟨by omega,by rw[mJ he,←hms];unfold addN;rw[if_neg (by simpa using h56)],by simp;omega⟩ aI (.cons 2 rfl (.cons 3 rfl (.cons 4 rfl (.cons 45 rfl (.cons 46 rfl (.cons 47 rfl .nil)))))) rfl bO)
              | (refine aO (.cons (.there (.there .here)) (.cons .here (.cons .here (.cons .here (.cons .here .nil))))) ?_
                 refine fU (i+1) ms _ ⟨by omega,by rw[mJ he,←hms];unfold addN;rw[if_pos (by simpa using h56)],by omega⟩ aI (.cons 2 rfl (.cons 3 rfl (.cons 4 rfl (.cons 45 rfl (.cons 46 rfl (.cons 47 rfl .nil)))))) rfl bO)
          ·
            refine aW ?_;refine aN (aE ?_);refine uDj ?_
            first
              | (refine aO (.cons (.there (.there (.there .here))) (.cons (.there (.there .here)) (.cons .here (.cons (.there .here) (.cons (.there .here) .nil))))) ?_
                 refine fU (i+1) (ms++[e]) _ ⟨by omega,by rw[mJ he,←hms];unfold addN;rw[if_neg (by simpa using h56)],by simp;omega⟩ aI (.cons 2 rfl (.cons 3 rfl (.cons 4 rfl (.cons 45 rfl (.cons 46 rfl (.cons 47 rfl .nil)))))) rfl bO)
              | (refine aO (.cons (.there (.there .here)) (.cons .here (.cons .here (.cons .here (.cons .here .nil))))) ?_
                 refine fU (i+1) ms _ ⟨by omega,by rw[mJ he,←hms];unfold addN;rw[if_pos (by simpa using h56)],by omega⟩ aI (.cons 2 rfl (.cons 3 rfl (.cons 4 rfl (.cons 45 rfl (.cons 46 rfl (.cons 47 rfl .nil)))))) rfl bO)
        ·
          have hms2:ms=iO ns l.1:=(by rw[hms,aDJ aI]);subst hms2;refine uAp ?_;refine aE (aB ?_);refine uAa ?_;refine aY rfl rfl (jU b15 s l.2 _ [59] _ hs hlo.1.1 (hg.mono (Hl.le_trans leT (Hl.le_trans leA leB)))) (.cons (.there .here) .nil) rfl (fun _ _=>a8 _ _) ?_ ?_
          ·
            rintro _ _ _ hTr le1;obtain⟨e,p,hq4,fb,h,rfl⟩:=bA hTr;cases h
            refine aO (.cons .here (.cons (.there (.there .here)) (.cons (.there (.there .here)) .nil))) ?_;refine aR ?_;refine uBc ?_;exact kV rfl rfl (Hl.le_trans leT (Hl.le_trans leA (Hl.le_trans leB le1))) hs (by simp only[hx,reqF,hZ,if_pos gc,hr2,hl,hq4,if_true,if_false,↓reduceIte])
          rintro _ K _ hTr -;obtain⟨q4,hq4,rfl,rfl,rfl⟩:=bB hTr;clear hTr;refine aG (aN ?_);obtain⟨f0,rfl⟩:∃f0,f=f0+1:=⟨f - 1,by omega⟩;have hm4:=fX hlo.1 hq4;refine aO (.cons (.there (.there .here)) (.cons .here (.cons (.there .here) (.cons (.there .here) .nil)))) ?_;refine lF (Hl.le_trans leA leB) ?_;refine fU q4 (iO ns l.1) _ ⟨hm4.1,by omega,f0,by omega,?_⟩ aI (.cons 2 rfl (.cons 3 rfl (.cons 4 rfl .nil))) rfl bO
          simp only[hx,reqF,hZ,if_pos gc,hr2,hl,hq4,if_true,if_false,↓reduceIte]
      ·
        have gc:¬(st2.2.kind=1∧st2.2.s=pR):=(fun h=>h37 h.2);refine uAp ?_;refine aE (aH ?_);refine aB ?_;refine hU fun K5 leN hN=>?_
        have leN2:=Hl.le_trans leT leN;refine uAx ?_;refine aY rfl rfl (xD b15 s sv _ cb tb ns _ ⟨⟨hs,hg.mono leN2,hN,by omega⟩,htab.mono leN⟩ st2 hok2) (.cons .here .nil) rfl (fun _ _=>a8 _ _) ?_ ?_
        ·
          rintro _ _ _ hTr le1;obtain⟨e,p,hbb,fb,h,rfl⟩:=bA hTr;cases h
          refine uDz ?_;refine aK ?_;exact kV rfl rfl (Hl.le_trans leN2 le1) hs (by simp only[hx,reqF,hZ,if_neg gc,hbb,if_true,if_false,↓reduceIte])
        rintro _ K6 _ hTr leK6;obtain⟨bb,hbb,⟨ys,hrep,hcl,rfl⟩⟩:=bB hTr;clear hTr;refine hU fun K7 leS hS=>?_
        obtain⟨sa,sn,sc,rfl⟩:=hS.isSlice;have leS2:=Hl.le_trans leN2 (Hl.le_trans leK6 leS);refine uGx ?_;rintro _ K _ ⟨rfl,rfl⟩ -;refine aG (aE ?_);refine aH (aH ?_);refine uAf ?_;refine uBb ?_;refine uDu ?_;refine aG (aE ?_);refine bK 84 rfl (fun h84=>?_) (fun h84=>?_)
        ·
          have g84:¬bb.2.2.kind=0:=by omega
          refine uAf ?_;refine aY rfl rfl (iA b15 s bb.2 _ _) (.cons .here .nil) rfl (by rintro _ _ ⟨_,h,_⟩;cases h) ?_ ?_
          ·
            rintro _ _ _ ⟨fb,h,rfl⟩ le1;cases h
            refine uDz ?_;refine aK ?_;exact kV rfl rfl (Hl.le_trans leS2 le1) hs (by simp only[hx,reqF,hZ,if_neg gc,hbb,if_neg g84,if_true,if_false,↓reduceIte])
          ·
            rintro _ _ _ ⟨_,h,_⟩;cases h
        ·
          have g84:bb.2.2.kind=0:=by omega
          refine aW ?_;refine aE (aH ?_);refine uBv ?_;refine uFt ?_;refine bP (bH ts87 rfl rfl cD aX .zero rfl) ?_;rintro _ K _ ⟨rfl,rfl⟩ -;refine uEm ?_;rintro _ K _ ⟨rfl,rfl⟩ -;refine aG (aE ?_);refine bI ?_;refine gI fun K8 leP hP=>?_
          refine aCF (r:=(ns,bb.1)) rfl rfl (Hl.le_trans leS2 leP) hs ?_ ⟨_,_,_,ys,_,hP,rfl,rfl,hN.mono (Hl.le_trans leK6 (Hl.le_trans leS leP)),hS.mono leP,hrep.mono (Hl.le_trans leS leP),hcl⟩
          simp only[hx,reqF,hZ,if_neg gc,hbb,if_pos g84,if_true,if_false,↓reduceIte]
    ·
      have gc:¬(st2.2.kind=1∧st2.2.s=pR):=(fun h=>by omega);refine uAc ?_;refine uBu ?_;refine aG (aE ?_);refine uHq ?_;refine uAp ?_;refine aE (aH ?_);refine aB ?_;refine hU fun K5 leN hN=>?_
      have leN2:=Hl.le_trans leT leN;refine uAx ?_;refine aY rfl rfl (xD b15 s sv _ cb tb ns _ ⟨⟨hs,hg.mono leN2,hN,by omega⟩,htab.mono leN⟩ st2 hok2) (.cons .here .nil) rfl (fun _ _=>a8 _ _) ?_ ?_
      ·
        rintro _ _ _ hTr le1;obtain⟨e,p,hbb,fb,h,rfl⟩:=bA hTr;cases h
        refine uDz ?_;refine aK ?_;exact kV rfl rfl (Hl.le_trans leN2 le1) hs (by simp only[hx,reqF,hZ,if_neg gc,hbb,if_true,if_false,↓reduceIte])
      rintro _ K6 _ hTr leK6;obtain⟨bb,hbb,⟨ys,hrep,hcl,rfl⟩⟩:=bB hTr;clear hTr;refine hU fun K7 leS hS=>?_
      obtain⟨sa,sn,sc,rfl⟩:=hS.isSlice;have leS2:=Hl.le_trans leN2 (Hl.le_trans leK6 leS);refine uGx ?_;rintro _ K _ ⟨rfl,rfl⟩ -;refine aG (aE ?_);refine aH (aH ?_);refine uAf ?_;refine uBb ?_;refine uDu ?_;refine aG (aE ?_);refine bK 84 rfl (fun h84=>?_) (fun h84=>?_)
      ·
        have g84:¬bb.2.2.kind=0:=by omega
        refine uAf ?_;refine aY rfl rfl (iA b15 s bb.2 _ _) (.cons .here .nil) rfl (by rintro _ _ ⟨_,h,_⟩;cases h) ?_ ?_
        ·
          rintro _ _ _ ⟨fb,h,rfl⟩ le1;cases h
          refine uDz ?_;refine aK ?_;exact kV rfl rfl (Hl.le_trans leS2 le1) hs (by simp only[hx,reqF,hZ,if_neg gc,hbb,if_neg g84,if_true,if_false,↓reduceIte])
        ·
          rintro _ _ _ ⟨_,h,_⟩;cases h
      ·
        have g84:bb.2.2.kind=0:=by omega
        refine aW ?_;refine aE (aH ?_);refine uBv ?_;refine uFt ?_;refine bP (bH ts87 rfl rfl cD aX .zero rfl) ?_;rintro _ K _ ⟨rfl,rfl⟩ -;refine uEm ?_;rintro _ K _ ⟨rfl,rfl⟩ -;refine aG (aE ?_);refine bI ?_;refine gI fun K8 leP hP=>?_
        refine aCF (r:=(ns,bb.1)) rfl rfl (Hl.le_trans leS2 leP) hs ?_ ⟨_,_,_,ys,_,hP,rfl,rfl,hN.mono (Hl.le_trans leK6 (Hl.le_trans leS leP)),hS.mono leP,hrep.mono (Hl.le_trans leS leP),hcl⟩
        simp only[hx,reqF,hZ,if_neg gc,hbb,if_pos g84,if_true,if_false,↓reduceIte]
end Go.Proofs
end
section
namespace Go.Proofs
open Go Go.SL Go.Syn Go.Cmp
theorem j1(b yb:Nat)(vs ys:List InsV)(cells:List Value)(K:Hl)(hc:cells=gO.cs ys)(hl:vs.length+ys.length≤1000000):
  Sp Tryz.prog 193 [ptr b,.slice (some ⟨yb,0,none⟩) ys.length ys.length] K [cdr b vs,pt yb (aU cells 41)]
   (Ret fun v K' L'=>v=i64 (((vs++ys).length:Int) - 1)∧K'=K∧L'=[cdr b (vs++ys)]):=by
 have hys:(cells.drop 0).take (ys.length*7)=gO.cs ys:=by
  subst hc;rw[List.drop_zero,List.take_of_length_le (by rw[gO.cs_length];exact Nat.le_refl _)]
 have hla:(vs++ys).length=vs.length+ys.length:=List.length_append;refine aZ Tryz.func193 rfl Tryz.ntmps193 rfl rfl fun F w=>?_
 refine t_ex fun cv=>?_
 refine aH (aB ?_);refine uAb ?_;refine aG (aE ?_);refine aH (aB ?_);refine uAx ?_;refine uEw ?_;refine uIa ?_;refine uAa ?_;refine ol_s (dM (k:=gO) (ys:=ys) aE5 rfl rfl aX (fun w j=>dB Tryz.underlying42 (SeesSl.at (k:=gO) (.blk (.own (.there (.there .here))) rfl hys) j)) (by first|(simp;omega)|omega) (by first|(simp;omega)|omega)) rfl ?_;rintro v11 K _ ⟨rfl,rfl,ho11⟩ -;refine uEw ?_;refine aA (aD (o':=0) nT rfl rfl) rfl ?_;refine bP (bH ts42 rfl rfl cD aX .zero rfl) ?_;rintro _ K _ ⟨rfl,rfl⟩ -;refine aG (aE ?_);refine aH (aB ?_);refine uBz ?_;refine uIa ?_;refine aA (cB (k:=gO) rfl Tryz.underlying42 rfl aL) rfl ?_;refine aA (nB rfl rfl aI aI) rfl ?_;refine uAb ?_;refine aG (aE ?_);refine bI ?_;refine uIs ?_;refine dN aEQ ?_;refine bF rfl rfl (Hl.le_refl _) ?_;exact⟨_,rfl,rfl,rfl,rfl⟩
theorem pD(b:Nat)(pv:Value)(vs:List InsV)(ps:List Nat)(K:Hl)(hl:vs.length≤1000000)(hpl:ps.length≤1000000)(hp:∀p∈ps,p < vs.length):
  Sp Tryz.prog 271 [ptr b,pv] K [cdr b vs,sl false (jL 3) pv ps] (Ret fun v K' L'=>v=.tuple #[]∧K'=K∧L'=[cdr b (vB vs ps)]):=by
 refine aZ Tryz.func271 rfl Tryz.ntmps271 rfl rfl fun F w=>?_
 refine t_ex fun cv=>?_
 refine aH (aB ?_);refine uAa ?_;refine aA (cB (k:=(jL 3)) rfl Tryz.underlying55 rfl aL) rfl ?_;refine uAa ?_;refine aG (aE ?_);refine bE ?_;refine eR (fun(i:Nat)=>i≤ps.length) (fun i=>[(0,ptr b),(6,pv),(7,i64 ps.length),(8,i64 i)]) (fun _=>_) (fun i=>[sl false gO cv ((ps.take i).foldl (fun o k=>nC o k ((vs.length:Int) - 1 - k)) vs),pt b (aU [cv] 217),sl false (jL 3) pv ps]) (fun i=>ps.length - i) 0 (Nat.zero_le _) (.cons 0 rfl (.cons 6 rfl (.cons 7 rfl (.cons 8 rfl .nil)))) rfl (fun _ h=>eH h) ?_;intro i hi0;refine aH (aB ?_);refine uBn ?_;refine aG (aE ?_);refine aH ?_;refine bK 9 rfl (fun h9=>?_) (fun h9=>?_)
 ·
  have hilt:i < ps.length:=by omega
  obtain⟨p,hpi⟩:∃p,ps[i]?=some p:=⟨ps[i]'hilt,List.getElem?_eq_getElem hilt⟩;have hpv:p < vs.length:=hp p (List.mem_of_getElem? hpi);obtain⟨xs,hxs⟩:∃xs,xs=(ps.take i).foldl (fun o k=>nC o k ((vs.length:Int) - 1 - k)) vs:=⟨_,rfl⟩;rw[←hxs];have hxl:xs.length=vs.length:=(by rw[hxs,u6]);obtain⟨x,hx⟩:∃x,xs[p]?=some x:=⟨xs[p]'(by omega),List.getElem?_eq_getElem aI⟩;refine aW ?_;refine aE (aH ?_);refine bE (aH ?_);refine aB ?_;refine aA (b0 (k:=(jL 3)) pP rfl aL rfl rfl (by first|assumption|omega)) rfl ?_;refine aA (dW (o:=0) (k:=(jL 3)) ts3 rfl aL bU rfl) rfl ?_;refine uAb ?_;refine aG (aE ?_);refine aXC (by intro h;rw[h]at hx;simp at hx) fun bb cap junk fz hcv h2 h3 h4=>?_
  subst hcv;have hcs:((gO.cs xs++junk).drop 0).take (xs.length*gO.sz)=gO.cs xs:=(by rw[List.drop_zero,←gO.cs_length,List.take_left]);have hlen:(gO.cs xs++junk).length=cap*7:=(by rw[List.length_append,gO.cs_length,h3];show xs.length*7+(cap - xs.length)*7=_;omega);refine t_draw (anc:=[0,1,3,7,0,0,32,96,224,480,992,0,4064,8191,16383,32767]) (ord:=[0,1,2,3,4,5,6,7,8,9,10,11,12,13,14,15]) [15] [15] mixed (by decide+kernel) (cS _) ?_;refine uHr ?_;refine uAj ?_;refine uHr ?_;refine dl_ev rfl rfl (.none rfl) rfl rfl (cB (k:=gO) rfl Tryz.underlying42 rfl (.blk (.own .here) rfl hcs)) rfl ?_;refine uGy ?_;refine uAj ?_;refine uGy ?_;refine dl_ev rfl rfl (.none rfl) rfl rfl (zE (k:=gO) (j:=p) (m:=0+p*7) rfl iT rfl (.blk (.own .here) rfl hcs) rfl rfl aI) rfl ?_;refine dl_ev rfl rfl (.none rfl) rfl rfl (aD (o:=0+p*7) (o':=0+p*7+1) iD rfl rfl) rfl ?_;refine kH rfl rfl (.none rfl) rfl (bH ts3 rfl rfl rfl .here (sM (by rw[hlen];omega)) (h4.at (by show 0+p*7+1 < cap*7;omega))) ?_;rintro _ K _ ⟨rfl,rfl⟩ -;refine dl_nil ?_;refine aN (aE ?_);refine uDj ?_;have e3:((gO.cs xs++junk).set (0+p*7+1) (i64 (xs.length - 1 - p)))=gO.cs (xs.set p {x with n:=xs.length - 1 - p})++junk:=(by rw[show 0+p*7+1=p*gO.sz+1 from by show _=p*7+1;omega];exact cs_set gO (by decide) rfl hx);have e4:(ps.take (i+1)).foldl (fun o k=>nC o k ((vs.length:Int) - 1 - k)) vs=xs.set p {x with n:=xs.length - 1 - p}:=(by rw[aI3 hpi,←hxs,aNX hx,hxl]);have e5:(xs.set p {x with n:=xs.length - 1 - p}).length=xs.length:=List.length_set;refine dN (fun h hh=>aRU (k:=gO) (z:=false) (xs:=xs.set p {x with n:=xs.length - 1 - p}) (fun h=>by cases h) (by rw[e5];exact h2) (by rw[e5];exact h3) h4 e3 hh) ?_;refine cQ (i+1) aI aI (.cons 0 rfl (.cons 6 rfl (.cons 7 rfl (.cons 8 rfl .nil)))) rfl ?_;rw[e4,e5];exact fun _ h=>h
 ·
  have hfin:(ps.take i).foldl (fun o k=>nC o k ((vs.length:Int) - 1 - k)) vs=vB vs ps:=(by rw[List.take_of_length_le aI];rfl);refine uAp ?_;rw[hfin];refine uIs ?_;refine dN aEQ ?_;refine dD rfl (Hl.le_refl _) ?_;exact⟨_,rfl,rfl,rfl,rfl⟩
end Go.Proofs
end
section
namespace Go.Proofs
open Go Go.SL Go.Syn Go.Cmp
theorem yE(b e n:Nat)(x:Value)(hx:x=i64 n):∀h,pt b (aU [x] e) h→sl false (jL e) (.slice (some ⟨b,0,none⟩) 1 1) [n] h:=by
 subst hx;exact vH (k:=jL e) (xs:=[n]) (cells:=[i64 n]) (Nat.le_refl _) rfl rfl (.inl (Nat.le_refl _)) (fun h=>by cases h)
theorem oR(K:Hl):Ksl (bT 9) K nilC.1 []:=.inl ⟨none,0,rfl,rfl⟩
abbrev jmpV(op:Int):InsV:=⟨op,0,0,false,nilC,nilC,0⟩
theorem oC(K:Hl)(op:Int):RIns K (jmpV op) (jmp op):=⟨rfl,rfl,rfl,rfl,rfl,oR K,oR K⟩
theorem RIs.two{K:Hl}{x y:InsV}{o p:Mach.Ins}(h1:RIns K x o)(h2:RIns K y p):RIs K [x,y] [o,p]:=⟨h1,h2,trivial⟩
abbrev UnlR(b:Nat)(r:List Mach.Ins×List Nat):Ending→Hl→List Asn→Prop:=Ret fun pv K' L'=>∃vs',RIs K' vs' r.1∧L'=[sl false (jL 3) pv r.2,cdr b vs']
def UnlS(t:Tree):Prop:=wf t 0=true→∀(b:Nat) (tn:Bool) (ty:TypeId) (u:Value) (vs:List InsV) (ops:List Mach.Ins) (K:Hl),Rep K t [(⟨.iface ty u,rfl⟩,u0)]→RIs K vs ops→vs.length+2*cnt t≤900000→Sp Tryz.prog 270 [ptr b,.iface ty u,.bool tn] K [cdr b vs] (UnlR b (unl t tn ops))
def UnlL:Tree→Prop
 | .tcons t l=>UnlS t∧UnlL l
 |_=>True
theorem aNL{K:Hl}{rest:Tree}{xs:List (Cell×Cell)}{i:Nat}(hw:wf rest 1=true)(hr:Rep K rest (xs.drop i))(hi:i < xs.length):
  ∃t l c,rest=.tcons t l∧Rep K t [(c,u0)]∧Rep K l (xs.drop (i+1))∧xs[i]?=some (c,u0)∧wf t 0=true∧wf l 1=true:=by
 have hd:xs.drop i≠[]:=by intro h;have:=congrArg List.length h;simp at this;omega
 cases rest <;> simp only[wf,Rep]at hw hr
 case tnil=>exact absurd hr hd
 case tcons t l=>
  obtain⟨c,ys,h1,h2,h3⟩:=hr;simp at hw;have e:xs.drop (i+1)=ys:=by rw[←List.drop_drop,h3];rfl
  refine⟨t,l,c,rfl,h1,by rw[e];exact h2,?_,hw.1,hw.2⟩
  have:=List.getElem?_drop (xs:=xs) (i:=i) (j:=0);rw[h3]at this;simpa using this.symm
 all_goals simp at hw
theorem aRJ{K:Hl}{l:Tree}{ys:List (Cell×Cell)}(hw:wf l 1=true)(hr:Rep K l ys):gQ l=false↔0 < ys.length:=by
 cases l <;> simp only[wf,Rep]at hw hr
 case tnil=>subst hr;simp[gQ]
 case tcons t l=>obtain⟨c,zs,_,_,rfl⟩:=hr;simp[gQ]
 all_goals simp at hw
theorem aRE{K:Hl}{rest:Tree}{ys:List (Cell×Cell)}(hw:wf rest 1=true)(hr:Rep K rest ys)(he:ys=[]){all tn:Bool}{ops:List Mach.Ins}{a h:List Nat}:unlL all tn rest ops a h=(ops,a,h):=by
 cases rest <;> simp only[wf,Rep]at hw hr
 case tnil=>simp[unlL]
 case tcons t l=>obtain⟨c,zs,_,_,rfl⟩:=hr;cases he
 all_goals simp at hw
theorem aOT(p:Bool):UnlS (.const p):=by
 intro hw b tn ty u vs ops K hr hv hl;cases (show [(_,u0)]=[(_,u0)]from hr)
 have hvl:=hv.length;refine aZ Tryz.func270 rfl Tryz.ntmps270 rfl rfl fun F w=>?_
 refine aH (aB ?_);refine uAb ?_;refine aG (aE ?_);refine aH (aB ?_);refine uHk ?_;rintro _ K _ ⟨b7,rfl,rfl,rfl⟩ -;refine bP (cJ kE rfl rfl rfl aX (by first|(simp[Value.oneCell'];done)|exact fun c hc=>El.one _ _ c hc) (.cons (.cons (.cons (.cons (.cons (.cons (.cons .nil))))))) (by intro j hj;simp)) ?_;rintro _ K _ ⟨rfl,rfl⟩ -;refine aG (aE ?_);refine gS (fun(j:Int)=>j=if tn=true then 4 else 5) (fun _=>[(0,ptr b),(1,.iface 289 (.bool p)),(2,.bool tn),(7,ptr b7)]) (fun _=>K) (fun j=>[pt b7 (aU [i64 j,i64 0,i64 0,.bool false,.slice none 0 0,.slice none 0 0,i64 0] 41),cdr b vs]) ?_ ?_
 ·
  refine aH (aB ?_);refine uAa ?_;refine aG (aE ?_);refine eJ 19 rfl (fun h19=>?_) (fun h19=>?_)
  ·
   refine uCz ?_;rintro _ K _ ⟨rfl,rfl⟩ -;refine aG ?_;exact bZ _ (by rw[h19];rfl) (.cons 0 rfl (.cons 1 rfl (.cons 2 rfl (.cons 7 rfl .nil)))) rfl (fun _ h=>h)
  ·
   refine aW ?_;exact bZ _ (by rw[h19];rfl) (.cons 0 rfl (.cons 1 rfl (.cons 2 rfl (.cons 7 rfl .nil)))) rfl (fun _ h=>h)
 ·
  intro j hj;refine aH (aH ?_);refine uAf ?_;refine aG (aE ?_);refine bE (aH ?_);refine aB ?_;refine aA (dE Tryz.underlying293 (fun _ h=>by cases h) rfl aHZ rfl) rfl ?_;refine uAh ?_;refine aG (aE ?_);refine uHq ?_;refine aH (aB ?_);refine aA (fE Tryz.underlying289 (fun _ h=>by cases h) rfl) rfl ?_;refine uAh ?_;refine aG (aE ?_);refine uGe ?_;refine aH (aB ?_);refine uAb ?_;refine aG (aE ?_);refine aH (aH ?_);refine uCf ?_;refine aA (aKN Tryz.underlying4 rfl rfl) rfl ?_;refine aG (aE ?_);refine eJ 36 rfl (fun h36=>?_) (fun h36=>?_)
  ·
   have e36:unl (.const p) tn ops=(ops,[]):=(by unfold unl;rw[if_neg (by intro h;subst h;simp at h36)]);refine aH (aB ?_);refine uAb ?_;refine aG (aE ?_);refine uCk ?_;refine bS ?_;refine a7 ?_;refine uEy ?_;refine dN (dX (jL 3)) ?_;refine bF rfl rfl (Hl.le_refl _) ?_;rw[e36];exact⟨_,rfl,vs,hv,rfl⟩
  ·
   have e36:unl (.const p) tn ops=(ops++[jmp 3],[ops.length]):=(by unfold unl;rw[if_pos (by simpa using h36)]);refine aW ?_;refine aE (aH ?_);refine uAf ?_;refine uDa ?_;refine ol_s (bN (z0:=[.int .i64 0,.int .i64 0,.int .i64 0,.bool false,.slice none 0 0,.slice none 0 0,.int .i64 0]) iT tz41 rfl rfl rfl rfl (.cons rfl rfl rfl (.cons (.cons (.cons (.cons (.cons (.cons (.cons .nil))))))) .nil)) rfl ?_;rintro _ K _ ⟨b39,rfl,rfl,rfl⟩ -;refine bC rfl rfl (j1 b b39 vs [jmpV 3] _ _ rfl (by simp;omega)) (.cons (.there (.there .here)) (.cons .here .nil)) rfl ?_;rintro _ K _ ⟨rfl,rfl,rfl⟩ -;refine ol_s (bN (z0:=[.int .i64 0]) pP tz3 rfl rfl rfl rfl (.cons rfl rfl rfl (.cons .nil) .nil)) rfl ?_;rintro _ K _ ⟨b41,rfl,rfl,rfl⟩ -;refine uAb ?_;refine aG (aE ?_);refine uCi ?_;refine uCu ?_;refine dN (fA (yE b41 3 ops.length _ (by rw[List.length_append,hvl];simp))) ?_;refine bF rfl rfl (Hl.le_refl _) ?_;rw[e36];exact⟨_,rfl,_,RIs.append (ws:=[jmpV 3]) (ps:=[jmp 3]) ⟨oC _ _,trivial⟩ hv,rfl⟩
theorem aU4(t:Tree)(ih:UnlS t):UnlS (.not_ t):=by
 intro hw b tn ty u vs ops K hr hv hl;obtain⟨⟨cv,hcv⟩,hr1,he⟩:=hr;have hwt:wf t 0=true:=by simpa[wf]using hw
 obtain⟨ty2,u2,hc⟩:=wM (.inl hwt) hr1;cases hc
 cases he
 simp only[cnt]at hl;have hvl:=hv.length;refine aZ Tryz.func270 rfl Tryz.ntmps270 rfl rfl fun F w=>?_
 refine aH (aB ?_);refine uAb ?_;refine aG (aE ?_);refine aH (aB ?_);refine uHk ?_;rintro _ K _ ⟨b7,rfl,rfl,rfl⟩ -;refine bP (cJ kE rfl rfl rfl aX (by first|(simp[Value.oneCell'];done)|exact fun c hc=>El.one _ _ c hc) (.cons (.cons (.cons (.cons (.cons (.cons (.cons .nil))))))) (by intro j hj;simp)) ?_;rintro _ K _ ⟨rfl,rfl⟩ -;refine aG (aE ?_);refine gS (fun(j:Int)=>j=if tn=true then 4 else 5) (fun _=>[(0,ptr b),(1,.iface 293 (.agg #[.iface ty2 u2])),(2,.bool tn),(7,ptr b7)]) (fun _=>K) (fun j=>[pt b7 (aU [i64 j,i64 0,i64 0,.bool false,.slice none 0 0,.slice none 0 0,i64 0] 41),cdr b vs]) ?_ ?_
 ·
  refine aH (aB ?_);refine uAa ?_;refine aG (aE ?_);refine eJ 19 rfl (fun h19=>?_) (fun h19=>?_)
  ·
   refine uCz ?_;rintro _ K _ ⟨rfl,rfl⟩ -;refine aG ?_;exact bZ _ (by rw[h19];rfl) (.cons 0 rfl (.cons 1 rfl (.cons 2 rfl (.cons 7 rfl .nil)))) rfl (fun _ h=>h)
  ·
   refine aW ?_;exact bZ _ (by rw[h19];rfl) (.cons 0 rfl (.cons 1 rfl (.cons 2 rfl (.cons 7 rfl .nil)))) rfl (fun _ h=>h)
 ·
  intro j hj;refine aH (aH ?_);refine uAf ?_;refine aG (aE ?_);refine bE (aH ?_);refine aB ?_;refine aA (fE Tryz.underlying293 (fun _ h=>by cases h) rfl) rfl ?_;refine uAh ?_;refine aG (aE ?_);refine uGe ?_;refine aH (aB ?_);refine ol_s (cN aZP) rfl ?_;rintro _ K _ ⟨b8,rfl,rfl,rfl⟩ -;refine bP (cJ aUT rfl rfl rfl aX (by first|(simp[Value.oneCell'];done)|exact fun c hc=>El.one _ _ c hc) (.cons .nil) (by intro j hj;simp)) ?_;rintro _ K _ ⟨rfl,rfl⟩ -;refine aG (aE ?_);refine aH (aB ?_);refine uAa ?_;refine aA (aD (o':=0) aOI rfl rfl) rfl ?_;refine aA (aJ aHY rfl aL rfl) rfl ?_;refine uAa ?_;refine aA (by first|exact dP rfl|exact dO rfl) rfl ?_;refine bC rfl rfl (ih hwt b (!tn) ty2 u2 vs ops _ hr1 hv aI) (.cons (.there (.there .here)) .nil) rfl ?_;rintro _ K1 _ ⟨vs1,hv1,rfl⟩ le1;refine uAb ?_;refine aG (aE ?_);refine uCi ?_;refine uCu ?_;refine bF rfl rfl le1 ?_;exact⟨_,rfl,vs1,hv1,rfl⟩
theorem aU3(tag:Int)(oct:Bool)(op:Int)(a b1:List (List UInt8)):UnlS (.mat tag oct op a b1):=by
 intro hw b tn ty u vs ops K hr hv hl;obtain⟨va,vb,hA,hB,he⟩:=hr;obtain⟨sa,sn,sc,rfl⟩:=hA.isSlice;obtain⟨ta,tn2,tc,rfl⟩:=hB.isSlice;cases he
 have hvl:=hv.length;refine aZ Tryz.func270 rfl Tryz.ntmps270 rfl rfl fun F w=>?_
 refine aH (aB ?_);refine uAb ?_;refine aG (aE ?_);refine aH (aB ?_);refine uHk ?_;rintro _ K _ ⟨b7,rfl,rfl,rfl⟩ -;refine bP (cJ kE rfl rfl rfl aX (by first|(simp[Value.oneCell'];done)|exact fun c hc=>El.one _ _ c hc) (.cons (.cons (.cons (.cons (.cons (.cons (.cons .nil))))))) (by intro j hj;simp)) ?_;rintro _ K _ ⟨rfl,rfl⟩ -;refine aG (aE ?_);refine gS (fun(j:Int)=>j=if tn=true then 4 else 5) (fun _=>[(0,ptr b),(1,.iface 380 (.agg #[i64 tag,.bool oct,i64 op,.slice sa sn sc,.slice ta tn2 tc])),(2,.bool tn),(7,ptr b7)]) (fun _=>K) (fun j=>[pt b7 (aU [i64 j,i64 0,i64 0,.bool false,.slice none 0 0,.slice none 0 0,i64 0] 41),cdr b vs]) ?_ ?_
 ·
  refine aH (aB ?_);refine uAa ?_;refine aG (aE ?_);refine eJ 19 rfl (fun h19=>?_) (fun h19=>?_)
  ·
   refine uCz ?_;rintro _ K _ ⟨rfl,rfl⟩ -;refine aG ?_;exact bZ _ (by rw[h19];rfl) (.cons 0 rfl (.cons 1 rfl (.cons 2 rfl (.cons 7 rfl .nil)))) rfl (fun _ h=>h)
  ·
   refine aW ?_;exact bZ _ (by rw[h19];rfl) (.cons 0 rfl (.cons 1 rfl (.cons 2 rfl (.cons 7 rfl .nil)))) rfl (fun _ h=>h)
 ·
  intro j hj;refine aH (aH ?_);refine uAf ?_;refine aG (aE ?_);refine bE (aH ?_);refine aB ?_;refine aA (dE Tryz.underlying293 (fun _ h=>by cases h) rfl aHZ rfl) rfl ?_;refine uAh ?_;refine aG (aE ?_);refine uHq ?_;refine aH (aB ?_);refine aA (dE Tryz.underlying289 (fun _ h=>by cases h) rfl aLJ rfl) rfl ?_;refine uAh ?_;refine aG (aE ?_);refine uHq ?_;refine aH (aB ?_);refine aA (dE Tryz.underlying376 (fun _ h=>by cases h) rfl aSP rfl) rfl ?_;refine uAh ?_;refine aG (aE ?_);refine uHq ?_;refine aH (aB ?_);refine aA (fE Tryz.underlying380 (fun _ h=>by cases h) rfl) rfl ?_;refine uAh ?_;refine aG (aE ?_);refine uGe ?_;refine aH (aB ?_);refine ol_s (cN aV0) rfl ?_;rintro _ K _ ⟨b15,rfl,rfl,rfl⟩ -;refine bP (cJ aE1 rfl rfl rfl aX (by first|(simp[Value.oneCell'];done)|exact fun c hc=>El.one _ _ c hc) (.cons (.cons (.cons (.cons (.cons .nil))))) (by intro j hj;simp)) ?_;rintro _ K _ ⟨rfl,rfl⟩ -;refine aG (aE ?_);refine aH (aB ?_);refine uAa ?_;refine aA (aD (o':=2) aON rfl rfl) rfl ?_;refine uAn ?_;refine aA (aD (o':=0) f7 rfl rfl) rfl ?_;refine aA (aD (o':=0) j8 rfl rfl) rfl ?_;refine uAn ?_;refine aA (aD (o':=0) f7 rfl rfl) rfl ?_;refine aA (aD (o':=1) pM rfl rfl) rfl ?_;refine uGc ?_;refine aA (aD (o':=3) aC4 rfl rfl) rfl ?_;refine uCo ?_;refine aA (aD (o':=4) aC5 rfl rfl) rfl ?_;refine uCo ?_;refine aA (cP tb41 oX (.cons rfl rfl rfl (.cons .nil) (.cons rfl rfl rfl (.skip (.skip (.cons .nil))) (.cons rfl rfl rfl (.skip (.skip (.skip (.cons .nil)))) (.cons rfl rfl rfl (.skip (.skip (.skip (.skip (.cons .nil))))) (.cons rfl rfl rfl (.skip (.skip (.skip (.skip (.skip (.cons .nil)))))) .nil)))))) rfl ?_;refine uIf ?_;refine ol_s (bN (z0:=[.int .i64 0,.int .i64 0,.int .i64 0,.bool false,.slice none 0 0,.slice none 0 0,.int .i64 0,.int .i64 0,.int .i64 0,.int .i64 0,.bool false,.slice none 0 0,.slice none 0 0,.int .i64 0]) iT tz41 rfl rfl rfl rfl (.cons rfl rfl rfl (.cons (.cons (.cons (.cons (.cons (.cons (.cons .nil))))))) (.cons rfl rfl rfl (.skip (.skip (.skip (.skip (.skip (.skip (.skip (.cons (.cons (.cons (.cons (.cons (.cons (.cons .nil)))))))))))))) .nil))) rfl ?_;rintro _ K _ ⟨b107,rfl,rfl,rfl⟩ -;refine bC rfl rfl (j1 b b107 vs [⟨op,0,tag,oct,⟨.slice sa sn sc,rfl⟩,⟨.slice ta tn2 tc,rfl⟩,0⟩,jmpV j] _ _ rfl (by simp;omega)) (.cons (.there (.there (.there .here))) (.cons .here .nil)) rfl ?_;rintro _ K _ ⟨rfl,rfl,rfl⟩ -;refine ol_s (bN (z0:=[.int .i64 0]) pP tz3 rfl rfl rfl rfl (.cons rfl rfl rfl (.cons .nil) .nil)) rfl ?_;rintro _ K _ ⟨b109,rfl,rfl,rfl⟩ -;refine uAb ?_;refine aG (aE ?_);refine uCi ?_;refine uCu ?_;refine dN (fA (yE b109 3 (ops.length+1) _ (by rw[List.length_append,hvl];simp;omega))) ?_;refine bF rfl rfl (Hl.le_refl _) ?_;unfold unl;exact⟨_,rfl,_,RIs.append (RIs.two ⟨rfl,rfl,rfl,rfl,rfl,hA,hB⟩ (by rw[hj];exact oC _ _)) hv,rfl⟩
theorem aU1(a:List (List UInt8)):UnlS (.exi a):=by
 intro hw b tn ty u vs ops K hr hv hl;obtain⟨va,hA,he⟩:=hr;obtain⟨sa,sn,sc,rfl⟩:=hA.isSlice;cases he
 have hvl:=hv.length;refine aZ Tryz.func270 rfl Tryz.ntmps270 rfl rfl fun F w=>?_
 refine aH (aB ?_);refine uAb ?_;refine aG (aE ?_);refine aH (aB ?_);refine uHk ?_;rintro _ K _ ⟨b7,rfl,rfl,rfl⟩ -;refine bP (cJ kE rfl rfl rfl aX (by first|(simp[Value.oneCell'];done)|exact fun c hc=>El.one _ _ c hc) (.cons (.cons (.cons (.cons (.cons (.cons (.cons .nil))))))) (by intro j hj;simp)) ?_;rintro _ K _ ⟨rfl,rfl⟩ -;refine aG (aE ?_);refine gS (fun(j:Int)=>j=if tn=true then 4 else 5) (fun _=>[(0,ptr b),(1,.iface 297 (.agg #[.slice sa sn sc])),(2,.bool tn),(7,ptr b7)]) (fun _=>K) (fun j=>[pt b7 (aU [i64 j,i64 0,i64 0,.bool false,.slice none 0 0,.slice none 0 0,i64 0] 41),cdr b vs]) ?_ ?_
 ·
  refine aH (aB ?_);refine uAa ?_;refine aG (aE ?_);refine eJ 19 rfl (fun h19=>?_) (fun h19=>?_)
  ·
   refine uCz ?_;rintro _ K _ ⟨rfl,rfl⟩ -;refine aG ?_;exact bZ _ (by rw[h19];rfl) (.cons 0 rfl (.cons 1 rfl (.cons 2 rfl (.cons 7 rfl .nil)))) rfl (fun _ h=>h)
  ·
   refine aW ?_;exact bZ _ (by rw[h19];rfl) (.cons 0 rfl (.cons 1 rfl (.cons 2 rfl (.cons 7 rfl .nil)))) rfl (fun _ h=>h)
 ·
  intro j hj;refine aH (aH ?_);refine uAf ?_;refine aG (aE ?_);refine bE (aH ?_);refine aB ?_;refine aA (dE Tryz.underlying293 (fun _ h=>by cases h) rfl aHZ rfl) rfl ?_;refine uAh ?_;refine aG (aE ?_);refine uHq ?_;refine aH (aB ?_);refine aA (dE Tryz.underlying289 (fun _ h=>by cases h) rfl aLJ rfl) rfl ?_;refine uAh ?_;refine aG (aE ?_);refine uHq ?_;refine aH (aB ?_);refine aA (dE Tryz.underlying376 (fun _ h=>by cases h) rfl aSP rfl) rfl ?_;refine uAh ?_;refine aG (aE ?_);refine uHq ?_;refine aH (aB ?_);refine aA (dE Tryz.underlying380 (fun _ h=>by cases h) rfl aVU rfl) rfl ?_;refine uAh ?_;refine aG (aE ?_);refine uHq ?_;refine aH (aB ?_);refine aA (fE Tryz.underlying297 (fun _ h=>by cases h) rfl) rfl ?_;refine uAh ?_;refine aG (aE ?_);refine uGe ?_;refine aH (aB ?_);refine ol_s (cN aZQ) rfl ?_;rintro _ K _ ⟨b16,rfl,rfl,rfl⟩ -;refine bP (cJ aUU rfl rfl rfl aX (by first|(simp[Value.oneCell'];done)|exact fun c hc=>El.one _ _ c hc) (.cons .nil) (by intro j hj;simp)) ?_;rintro _ K _ ⟨rfl,rfl⟩ -;refine aG (aE ?_);refine aH (aB ?_);refine uAa ?_;refine aA (aD (o':=0) aOJ rfl rfl) rfl ?_;refine uCo ?_;refine aA (cP tb41 oX (.cons rfl rfl rfl (.cons .nil) (.cons rfl rfl rfl (.skip (.skip (.skip (.skip (.cons .nil))))) .nil))) rfl ?_;refine uIf ?_;refine ol_s (bN (z0:=[.int .i64 0,.int .i64 0,.int .i64 0,.bool false,.slice none 0 0,.slice none 0 0,.int .i64 0,.int .i64 0,.int .i64 0,.int .i64 0,.bool false,.slice none 0 0,.slice none 0 0,.int .i64 0]) iT tz41 rfl rfl rfl rfl (.cons rfl rfl rfl (.cons (.cons (.cons (.cons (.cons (.cons (.cons .nil))))))) (.cons rfl rfl rfl (.skip (.skip (.skip (.skip (.skip (.skip (.skip (.cons (.cons (.cons (.cons (.cons (.cons (.cons .nil)))))))))))))) .nil))) rfl ?_;rintro _ K _ ⟨b118,rfl,rfl,rfl⟩ -;refine bC rfl rfl (j1 b b118 vs [⟨9,0,0,false,⟨.slice sa sn sc,rfl⟩,nilC,0⟩,jmpV j] _ _ rfl (by simp;omega)) (.cons (.there (.there (.there .here))) (.cons .here .nil)) rfl ?_;rintro _ K _ ⟨rfl,rfl,rfl⟩ -;refine ol_s (bN (z0:=[.int .i64 0]) pP tz3 rfl rfl rfl rfl (.cons rfl rfl rfl (.cons .nil) .nil)) rfl ?_;rintro _ K _ ⟨b120,rfl,rfl,rfl⟩ -;refine uAb ?_;refine aG (aE ?_);refine uCi ?_;refine uCu ?_;refine dN (fA (yE b120 3 (ops.length+1) _ (by rw[List.length_append,hvl];simp;omega))) ?_;refine bF rfl rfl (Hl.le_refl _) ?_;unfold unl;exact⟨_,rfl,_,RIs.append (RIs.two ⟨rfl,rfl,rfl,rfl,rfl,hA,oR _⟩ (by rw[hj];exact oC _ _)) hv,rfl⟩
theorem aU5(tag n:Int):UnlS (.siz tag n):=by
 intro hw b tn ty u vs ops K hr hv hl;cases (show [(_,u0)]=[(_,u0)]from hr)
 have hvl:=hv.length;refine aZ Tryz.func270 rfl Tryz.ntmps270 rfl rfl fun F w=>?_
 refine aH (aB ?_);refine uAb ?_;refine aG (aE ?_);refine aH (aB ?_);refine uHk ?_;rintro _ K _ ⟨b7,rfl,rfl,rfl⟩ -;refine bP (cJ kE rfl rfl rfl aX (by first|(simp[Value.oneCell'];done)|exact fun c hc=>El.one _ _ c hc) (.cons (.cons (.cons (.cons (.cons (.cons (.cons .nil))))))) (by intro j hj;simp)) ?_;rintro _ K _ ⟨rfl,rfl⟩ -;refine aG (aE ?_);refine gS (fun(j:Int)=>j=if tn=true then 4 else 5) (fun _=>[(0,ptr b),(1,.iface 300 (.agg #[i64 tag,i64 n])),(2,.bool tn),(7,ptr b7)]) (fun _=>K) (fun j=>[pt b7 (aU [i64 j,i64 0,i64 0,.bool false,.slice none 0 0,.slice none 0 0,i64 0] 41),cdr b vs]) ?_ ?_
 ·
  refine aH (aB ?_);refine uAa ?_;refine aG (aE ?_);refine eJ 19 rfl (fun h19=>?_) (fun h19=>?_)
  ·
   refine uCz ?_;rintro _ K _ ⟨rfl,rfl⟩ -;refine aG ?_;exact bZ _ (by rw[h19];rfl) (.cons 0 rfl (.cons 1 rfl (.cons 2 rfl (.cons 7 rfl .nil)))) rfl (fun _ h=>h)
  ·
   refine aW ?_;exact bZ _ (by rw[h19];rfl) (.cons 0 rfl (.cons 1 rfl (.cons 2 rfl (.cons 7 rfl .nil)))) rfl (fun _ h=>h)
 ·
  intro j hj;refine aH (aH ?_);refine uAf ?_;refine aG (aE ?_);refine bE (aH ?_);refine aB ?_;refine aA (dE Tryz.underlying293 (fun _ h=>by cases h) rfl aHZ rfl) rfl ?_;refine uAh ?_;refine aG (aE ?_);refine uHq ?_;refine aH (aB ?_);refine aA (dE Tryz.underlying289 (fun _ h=>by cases h) rfl aLJ rfl) rfl ?_;refine uAh ?_;refine aG (aE ?_);refine uHq ?_;refine aH (aB ?_);refine aA (dE Tryz.underlying376 (fun _ h=>by cases h) rfl aSP rfl) rfl ?_;refine uAh ?_;refine aG (aE ?_);refine uHq ?_;refine aH (aB ?_);refine aA (dE Tryz.underlying380 (fun _ h=>by cases h) rfl aVU rfl) rfl ?_;refine uAh ?_;refine aG (aE ?_);refine uHq ?_;refine aH (aB ?_);refine aA (dE Tryz.underlying297 (fun _ h=>by cases h) rfl aZH rfl) rfl ?_;refine uAh ?_;refine aG (aE ?_);refine uHq ?_;refine aH (aB ?_);refine aA (fE Tryz.underlying300 (fun _ h=>by cases h) rfl) rfl ?_;refine uAh ?_;refine aG (aE ?_);refine uGe ?_;refine aH (aB ?_);refine ol_s (cN aZR) rfl ?_;rintro _ K _ ⟨b17,rfl,rfl,rfl⟩ -;refine bP (cJ aUV rfl rfl rfl aX (by first|(simp[Value.oneCell'];done)|exact fun c hc=>El.one _ _ c hc) (.cons (.cons .nil)) (by intro j hj;simp)) ?_;rintro _ K _ ⟨rfl,rfl⟩ -;refine aG (aE ?_);refine aH (aB ?_);refine uAa ?_;refine aA (aD (o':=0) aOK rfl rfl) rfl ?_;refine uAn ?_;refine aA (aD (o':=1) aOL rfl rfl) rfl ?_;refine uAn ?_;refine aA (cP tb41 oX (.cons rfl rfl rfl (.cons .nil) (.cons rfl rfl rfl (.skip (.skip (.cons .nil))) (.cons rfl rfl rfl (.skip (.cons .nil)) .nil)))) rfl ?_;refine uIf ?_;refine ol_s (bN (z0:=[.int .i64 0,.int .i64 0,.int .i64 0,.bool false,.slice none 0 0,.slice none 0 0,.int .i64 0,.int .i64 0,.int .i64 0,.int .i64 0,.bool false,.slice none 0 0,.slice none 0 0,.int .i64 0]) iT tz41 rfl rfl rfl rfl (.cons rfl rfl rfl (.cons (.cons (.cons (.cons (.cons (.cons (.cons .nil))))))) (.cons rfl rfl rfl (.skip (.skip (.skip (.skip (.skip (.skip (.skip (.cons (.cons (.cons (.cons (.cons (.cons (.cons .nil)))))))))))))) .nil))) rfl ?_;rintro _ K _ ⟨b131,rfl,rfl,rfl⟩ -;refine bC rfl rfl (j1 b b131 vs [⟨10,n,tag,false,nilC,nilC,0⟩,jmpV j] _ _ rfl (by simp;omega)) (.cons (.there (.there (.there .here))) (.cons .here .nil)) rfl ?_;rintro _ K _ ⟨rfl,rfl,rfl⟩ -;refine ol_s (bN (z0:=[.int .i64 0]) pP tz3 rfl rfl rfl rfl (.cons rfl rfl rfl (.cons .nil) .nil)) rfl ?_;rintro _ K _ ⟨b133,rfl,rfl,rfl⟩ -;refine uAb ?_;refine aG (aE ?_);refine uCi ?_;refine uCu ?_;refine dN (fA (yE b133 3 (ops.length+1) _ (by rw[List.length_append,hvl];simp;omega))) ?_;refine bF rfl rfl (Hl.le_refl _) ?_;unfold unl;exact⟨_,rfl,_,RIs.append (RIs.two ⟨rfl,rfl,rfl,rfl,rfl,oR _,oR _⟩ (by rw[hj];exact oC _ _)) hv,rfl⟩
end Go.Proofs
end
section
namespace Go.Proofs
open Go Go.SL Go.Syn Go.Cmp
theorem aJQ{all tn:Bool}{t l:Tree}{ops:List Mach.Ins}{a h:List Nat}(hc:¬(all=tn∧gQ l=false)):unlL all tn (.tcons t l) ops a h=unlL all tn l (unl t tn ops).1 (a++(unl t tn ops).2) h:=by
 simp only[unlL];rw[if_neg hc]
theorem aJR{all tn:Bool}{t l:Tree}{ops:List Mach.Ins}{a h:List Nat}(hc:all=tn∧gQ l=false):unlL all tn (.tcons t l) ops a h=unlL all tn l (unl t (!tn) ops).1 a (h++(unl t (!tn) ops).2):=by
 simp only[unlL];rw[if_pos hc]
theorem aTF{t:Tree}(h:wf t 0=true):1≤cnt t:=by
 cases t <;> simp only[wf,cnt]at h ⊢ <;> first|omega|(simp at h)
theorem aRH{K:Hl}:∀ {l:Tree} {xs:List (Cell×Cell)},wf l 1=true→Rep K l xs→xs.length≤cnt l:=by
 intro l;induction l with
 |tnil=>intro xs _ h;cases (show xs=[]from h);simp
 |tcons t l ih1 ih2=>
  rintro xs hw ⟨v,ys,h1,h2,rfl⟩;simp[wf]at hw;have:=ih2 hw.2 h2;have:=aTF hw.1;simp only[cnt,List.length_cons];omega
 |_=>intro xs hw _;simp[wf]at hw
theorem aSV(all:Bool)(l:Tree)(ih:UnlL l):UnlS (.many all l):=by
  intro hw b tn ty u vs ops K hr hv hl;obtain⟨xs,sv,hrl,hS,he⟩:=hr;obtain⟨sa,sn,sc,rfl⟩:=hS.isSlice;cases he
  have hwl:wf l 1=true:=by simpa[wf]using hw
  have hxl:=aRH hwl hrl;simp only[cnt]at hl;have hvl:=hv.length;refine aZ Tryz.func270 rfl Tryz.ntmps270 rfl rfl fun F w=>?_
  refine aH (aB ?_);refine uAb ?_;refine aG (aE ?_);refine aH (aB ?_);refine uHk ?_;rintro _ K _ ⟨b7,rfl,rfl,rfl⟩ -;refine bP (cJ kE rfl rfl rfl aX (by first|(simp[Value.oneCell'];done)|exact fun c hc=>El.one _ _ c hc) (.cons (.cons (.cons (.cons (.cons (.cons (.cons .nil))))))) (by intro j hj;simp)) ?_;rintro _ K _ ⟨rfl,rfl⟩ -;refine aG (aE ?_);refine gS (fun(j:Int)=>j=if tn=true then 4 else 5) (fun _=>[(0,ptr b),(1,.iface 376 (.agg #[.bool all,.slice sa sn sc])),(2,.bool tn),(7,ptr b7)]) (fun _=>K) (fun j=>[pt b7 (aU [i64 j,i64 0,i64 0,.bool false,.slice none 0 0,.slice none 0 0,i64 0] 41),cdr b vs]) ?_ ?_
  ·
    refine aH (aB ?_);refine uAa ?_;refine aG (aE ?_);refine eJ 19 rfl (fun h19=>?_) (fun h19=>?_)
    ·
      refine uCz ?_;rintro _ K _ ⟨rfl,rfl⟩ -;refine aG ?_;exact bZ _ (by rw[h19];rfl) (.cons 0 rfl (.cons 1 rfl (.cons 2 rfl (.cons 7 rfl .nil)))) rfl (fun _ h=>h)
    ·
      refine aW ?_;exact bZ _ (by rw[h19];rfl) (.cons 0 rfl (.cons 1 rfl (.cons 2 rfl (.cons 7 rfl .nil)))) rfl (fun _ h=>h)
  ·
    intro j hj;refine aH (aH ?_);refine uAf ?_;refine aG (aE ?_);refine bE (aH ?_);refine aB ?_;refine aA (dE Tryz.underlying293 (fun _ h=>by cases h) rfl aHZ rfl) rfl ?_;refine uAh ?_;refine aG (aE ?_);refine uHq ?_;refine aH (aB ?_);refine aA (dE Tryz.underlying289 (fun _ h=>by cases h) rfl aLJ rfl) rfl ?_;refine uAh ?_;refine aG (aE ?_);refine uHq ?_;refine aH (aB ?_);refine aA (fE Tryz.underlying376 (fun _ h=>by cases h) rfl) rfl ?_;refine uAh ?_;refine aG (aE ?_);refine uGe ?_;refine aH (aB ?_);refine ol_s (cN aVZ) rfl ?_;rintro _ K _ ⟨b10,rfl,rfl,rfl⟩ -;refine bP (cJ aE0 rfl rfl rfl aX (by first|(simp[Value.oneCell'];done)|exact fun c hc=>El.one _ _ c hc) (.cons (.cons .nil)) (by intro j hj;simp)) ?_;rintro _ K _ ⟨rfl,rfl⟩ -;refine aG (aE ?_);refine aH (aB ?_);refine uAw ?_;refine aG (aE ?_);refine aH (aH ?_);refine aB ?_;refine lL (dX (jL 3)) ?_;refine lL (dX (jL 3)) ?_;refine uHz ?_;refine uAa ?_;refine aG (aE ?_);refine bE ?_;refine aAT (.cons (.there (.there .here)) (.cons .here (.cons .here (.cons (.there .here) .nil)))) ?_;refine aEX (fun(K2:Hl) (i:Nat) (av hv2:Value) (vs2:List InsV) (aw he:List Nat)=>K.le K2∧i≤xs.length∧∃rest ops2,Rep K2 rest (xs.drop i)∧wf rest 1=true∧UnlL rest∧RIs K2 vs2 ops2∧unlL all tn l ops [] []=unlL all tn rest ops2 aw he∧vs2.length+2*cnt rest≤900000∧aw.length+cnt rest≤900000∧he.length+cnt rest≤900000) (fun _ i av hv2 _ _ _=>[(0,ptr b),(2,.bool tn),(10,ptr b10),(11,av),(12,hv2),(46,.slice sa sn sc),(47,i64 (xs.map Prod.fst).length),(48,i64 i)]) (fun K2 _ _ _ _ _ _=>K2) (fun _ _ av hv2 vs2 aw he=>[pt b10 (aU [.bool all,.slice sa sn sc] 376),sl false (jL 3) av aw,sl false (jL 3) hv2 he,cdr b vs2]) (fun _ i _ _ _ _ _=>xs.length - i) K 0 _ _ vs [] [] ⟨Hl.le_refl _,Nat.zero_le _,l,ops,hrl,hwl,ih,hv,rfl,by omega,by simp;omega,by simp;omega⟩ (.cons 0 rfl (.cons 2 rfl (.cons 10 rfl (.cons 11 rfl (.cons 12 rfl (.cons 46 rfl (.cons 47 rfl (.cons 48 rfl .nil)))))))) rfl (fun _ h=>h) ?_;intro K2 i av hv2 vs2 aw he ⟨leL,hi0,rest,ops2,hrr,hwr,ihr,hv2r,hx,hb1,hb2,hb3⟩;have hSl:Ksl (eD 288) K2 (.slice sa sn sc) (xs.map Prod.fst):=hS.mono leL;have hml:(xs.map Prod.fst).length=xs.length:=List.length_map _;refine aH (aB ?_);refine uBn ?_;refine aG (aE ?_);refine aH ?_;refine bK 49 rfl (fun h49=>?_) (fun h49=>?_)
    ·
      have hilt:i < xs.length:=by omega
      obtain⟨t1,l1,c,rfl,hrt,hrl1,hxi,hwt,hwl1⟩:=aNL hwr hrr hilt;obtain⟨⟨cv,hcv⟩,hc⟩:∃c2,c=c2:=⟨_,rfl⟩;subst hc;obtain⟨ty2,u2,hce⟩:=wM (.inl hwt) hrt;cases hce
      have hget:(xs.map Prod.fst)[i]?=some ⟨.iface ty2 u2,hcv⟩:=(by rw[List.getElem?_map,hxi];rfl);simp only[cnt]at hb1 hb2 hb3;have hun:=(yL t1).1;have hnil:=aRJ hwl1 hrl1;have hdl:(xs.drop (i+1)).length=xs.length - (i+1):=List.length_drop;have hv2l:=hv2r.length;refine aW ?_;refine aE (aH ?_);refine bE (aH ?_);refine uAf ?_;refine aA (b0 (k:=(eD 288)) rU rfl aL rfl rfl (by first|assumption|omega)) rfl ?_;refine aA (dW (o:=0) (k:=(eD 288)) aHY rfl aL bU rfl) rfl ?_;refine uAw ?_;refine aG (aE ?_);refine bE (aH ?_);refine aB ?_;refine aA (aD (o':=0) aOM rfl rfl) rfl ?_;refine uGc ?_;refine uAa ?_;refine aA (aKN Tryz.underlying4 rfl rfl) rfl ?_;refine uAb ?_;refine aG (aE ?_);refine eJ 59 rfl (fun h59=>?_) (fun h59=>?_)
      ·
        refine uAf ?_;refine uEg ?_;refine bC rfl rfl (ihr.1 hwt b tn ty2 u2 vs2 ops2 _ hrt hv2r aI) (.cons (.there (.there (.there .here))) .nil) rfl ?_;rintro pv K3 _ ⟨vs3,hv3,rfl⟩ leM;have hu:=hun tn ops2;refine ol_s (dM (k:=(jL 3)) (ys:=(unl t1 tn ops2).2) qG rfl rfl (.there (.there (.there .here))) (fun w j=>dB Tryz.underlying55 (SeesSl.at (k:=jL 3) (.own .here) j)) (by first|(simp;omega)|omega) (by first|(simp;omega)|omega)) rfl ?_;rintro v69 K _ ⟨rfl,rfl,ho69⟩ -;refine uAb ?_;refine aG (aN ?_);refine aN (aE ?_);refine uDj ?_
        first
          | (have hcc : ¬ (all = tn ∧ gQ l1 = false) := (by first | exact (fun h => (show ¬ all = tn from by simpa using h59) h.1) | exact (fun h => by have := hnil.1 h.2; omega))
             refine uFg ?_;refine i8 _ (i+1) _ hv2 vs3 (aw++(unl t1 tn ops2).2) he ⟨Hl.le_trans leL leM,by omega,l1,_,hrl1.mono leM,hwl1,ihr.2,hv3,by rw[hx,aJQ hcc],by have:=hv3.length;omega,by rw[List.length_append];omega,by omega⟩ aI (.cons 0 rfl (.cons 2 rfl (.cons 10 rfl (.cons 11 rfl (.cons 12 rfl (.cons 46 rfl (.cons 47 rfl (.cons 48 rfl .nil)))))))) rfl bO)
          | (have hcc : all = tn ∧ gQ l1 = false := ⟨by simpa using h59, hnil.2 aI⟩
             refine uEv ?_;refine i8 _ (i+1) av _ vs3 aw (he++(unl t1 (!tn) ops2).2) ⟨Hl.le_trans leL leM,by omega,l1,_,hrl1.mono leM,hwl1,ihr.2,hv3,by rw[hx,aJR hcc],by have:=hv3.length;omega,by omega,by rw[List.length_append];omega⟩ aI (.cons 0 rfl (.cons 2 rfl (.cons 10 rfl (.cons 11 rfl (.cons 12 rfl (.cons 46 rfl (.cons 47 rfl (.cons 48 rfl .nil)))))))) rfl bO)
      ·
        refine aH (aB ?_);refine uAa ?_;refine uHz ?_;refine aA (nB rfl rfl aI aI) rfl ?_;refine uBn ?_;refine uAb ?_;refine aG (aE ?_);refine bK 70 rfl (fun h70=>?_) (fun h70=>?_)
        ·
          refine uAf ?_;refine uEg ?_;refine aA (by first|exact dP rfl|exact dO rfl) rfl ?_;refine bC rfl rfl (ihr.1 hwt b (!tn) ty2 u2 vs2 ops2 _ hrt hv2r aI) (.cons (.there (.there (.there .here))) .nil) rfl ?_;rintro pv K3 _ ⟨vs3,hv3,rfl⟩ leM;have hu:=hun (!tn) ops2;refine ol_s (dM (k:=(jL 3)) (ys:=(unl t1 (!tn) ops2).2) qG rfl rfl (.there (.there (.there (.there .here)))) (fun w j=>dB Tryz.underlying55 (SeesSl.at (k:=jL 3) (.own .here) j)) (by first|(simp;omega)|omega) (by first|(simp;omega)|omega)) rfl ?_;rintro v83 K _ ⟨rfl,rfl,ho83⟩ -;refine uAb ?_;refine aG (aN ?_);refine aN (aE ?_);refine uDj ?_
          first
            | (have hcc : ¬ (all = tn ∧ gQ l1 = false) := (by first | exact (fun h => (show ¬ all = tn from by simpa using h59) h.1) | exact (fun h => by have := hnil.1 h.2; omega))
               refine uFg ?_;refine i8 _ (i+1) _ hv2 vs3 (aw++(unl t1 tn ops2).2) he ⟨Hl.le_trans leL leM,by omega,l1,_,hrl1.mono leM,hwl1,ihr.2,hv3,by rw[hx,aJQ hcc],by have:=hv3.length;omega,by rw[List.length_append];omega,by omega⟩ aI (.cons 0 rfl (.cons 2 rfl (.cons 10 rfl (.cons 11 rfl (.cons 12 rfl (.cons 46 rfl (.cons 47 rfl (.cons 48 rfl .nil)))))))) rfl bO)
            | (have hcc : all = tn ∧ gQ l1 = false := ⟨by simpa using h59, hnil.2 aI⟩
               refine uEv ?_;refine i8 _ (i+1) av _ vs3 aw (he++(unl t1 (!tn) ops2).2) ⟨Hl.le_trans leL leM,by omega,l1,_,hrl1.mono leM,hwl1,ihr.2,hv3,by rw[hx,aJR hcc],by have:=hv3.length;omega,by omega,by rw[List.length_append];omega⟩ aI (.cons 0 rfl (.cons 2 rfl (.cons 10 rfl (.cons 11 rfl (.cons 12 rfl (.cons 46 rfl (.cons 47 rfl (.cons 48 rfl .nil)))))))) rfl bO)
        ·
          refine uAf ?_;refine uEg ?_;refine bC rfl rfl (ihr.1 hwt b tn ty2 u2 vs2 ops2 _ hrt hv2r aI) (.cons (.there (.there (.there .here))) .nil) rfl ?_;rintro pv K3 _ ⟨vs3,hv3,rfl⟩ leM;have hu:=hun tn ops2;refine ol_s (dM (k:=(jL 3)) (ys:=(unl t1 tn ops2).2) qG rfl rfl (.there (.there (.there .here))) (fun w j=>dB Tryz.underlying55 (SeesSl.at (k:=jL 3) (.own .here) j)) (by first|(simp;omega)|omega) (by first|(simp;omega)|omega)) rfl ?_;rintro v58 K _ ⟨rfl,rfl,ho58⟩ -;refine uAb ?_;refine aG (aN ?_);refine aN (aE ?_);refine uDj ?_
          first
            | (have hcc : ¬ (all = tn ∧ gQ l1 = false) := (by first | exact (fun h => (show ¬ all = tn from by simpa using h59) h.1) | exact (fun h => by have := hnil.1 h.2; omega))
               refine uFg ?_;refine i8 _ (i+1) _ hv2 vs3 (aw++(unl t1 tn ops2).2) he ⟨Hl.le_trans leL leM,by omega,l1,_,hrl1.mono leM,hwl1,ihr.2,hv3,by rw[hx,aJQ hcc],by have:=hv3.length;omega,by rw[List.length_append];omega,by omega⟩ aI (.cons 0 rfl (.cons 2 rfl (.cons 10 rfl (.cons 11 rfl (.cons 12 rfl (.cons 46 rfl (.cons 47 rfl (.cons 48 rfl .nil)))))))) rfl bO)
            | (have hcc : all = tn ∧ gQ l1 = false := ⟨by simpa using h59, hnil.2 aI⟩
               refine uEv ?_;refine i8 _ (i+1) av _ vs3 aw (he++(unl t1 (!tn) ops2).2) ⟨Hl.le_trans leL leM,by omega,l1,_,hrl1.mono leM,hwl1,ihr.2,hv3,by rw[hx,aJR hcc],by have:=hv3.length;omega,by omega,by rw[List.length_append];omega⟩ aI (.cons 0 rfl (.cons 2 rfl (.cons 10 rfl (.cons 11 rfl (.cons 12 rfl (.cons 46 rfl (.cons 47 rfl (.cons 48 rfl .nil)))))))) rfl bO)
    ·
      have hend:unlL all tn l ops [] []=(ops2,aw,he):=(by rw[hx];exact aRE hwr hrr (List.drop_eq_nil_of_le aI));have hpl:=((yL l).2 all tn ops [] [] (by simp) (by simp));rw[hend]at hpl;simp only[List.length_nil]at hpl;have hv2l:=hv2r.length;refine uAp ?_;refine aE (aH ?_);refine uCf ?_;refine bC rfl rfl (pD b hv2 vs2 he _ aI aI (fun k hk=>by have:=hpl.2.2.2.2.2 k hk;omega)) (.cons (.there (.there (.there .here))) (.cons (.there (.there .here)) .nil)) rfl ?_;rintro _ K _ ⟨rfl,rfl,rfl⟩ -;refine aG (aE ?_);refine aH (aB ?_);refine uEj ?_;refine aG (aE ?_);refine uCi ?_;refine uBh ?_;refine bF rfl rfl leL ?_;have e:unl (.many all l) tn ops=(land ops2 he,aw):=(by simp only[unl,hend]);rw[e];exact⟨_,rfl,_,hv2r.land,rfl⟩
theorem aU0:∀(t:Tree),UnlS t∧UnlL t:=by
 intro t;induction t with
 |const p=>exact⟨aOT p,trivial⟩
 |not_ t ih=>exact⟨aU4 t ih.1,trivial⟩
 |many all l ih=>exact⟨aSV all l ih.2,trivial⟩
 |mat tag oct op a b=>exact⟨aU3 tag oct op a b,trivial⟩
 |exi a=>exact⟨aU1 a,trivial⟩
 |siz tag n=>exact⟨aU5 tag n,trivial⟩
 |tcons t l ih1 ih2=>exact⟨fun h=>by simp[wf]at h,ih1.1,ih2.2⟩
 |_=>exact⟨fun h=>by simp[wf]at h,trivial⟩
end Go.Proofs
end
section
namespace Go.Proofs
open Go Go.SL Go.Syn Go.Cmp
theorem aNI{K:Hl}{rest:Tree}{xs:List (Cell×Cell)}{i:Nat}(hw:wf rest 3=true)(hr:Rep K rest (xs.drop i))(hi:i < xs.length):
  ∃t l c,rest=.ccons t l∧Rep K t [(c,u0)]∧Rep K l (xs.drop (i+1))∧xs[i]?=some (c,u0)∧wf t 2=true∧wf l 3=true:=by
 have hd:xs.drop i≠[]:=by intro h;have:=congrArg List.length h;simp at this;omega
 cases rest <;> simp only[wf,Rep]at hw hr
 case cnil=>exact absurd hr hd
 case ccons t l=>
  obtain⟨c,ys,h1,h2,h3⟩:=hr;simp at hw;have e:xs.drop (i+1)=ys:=by rw[←List.drop_drop,h3];rfl
  refine⟨t,l,c,rfl,h1,by rw[e];exact h2,?_,hw.1,hw.2⟩
  have:=List.getElem?_drop (xs:=xs) (i:=i) (j:=0);rw[h3]at this;simpa using this.symm
 all_goals simp at hw
theorem aRD{K:Hl}{rest:Tree}{ys:List (Cell×Cell)}(hw:wf rest 3=true)(hr:Rep K rest ys)(he:ys=[]){ops:List Mach.Ins}:body rest ops=ops:=by
 cases rest <;> simp only[wf,Rep]at hw hr
 case cnil=>simp[body]
 case ccons t l=>obtain⟨c,zs,_,_,rfl⟩:=hr;cases he
 all_goals simp at hw
theorem aT8{K:Hl}{c:Tree}{ty:TypeId}{u:Value}{hc:(Value.iface ty u).oneCell'=true}(hw:wf c 2=true)(h:Rep K c [(⟨.iface ty u,hc⟩,u0)]):
  (∃op,c=.plain op∧ty=285∧u=.agg #[i64 op])∨(∃k a p,c=.act k a p∧ty=282∧u=.agg #[i64 k,str a,i64 p])∨(∃n v t,c=.set_ n v t∧ty=308∧u=.agg #[str n,str v,i64 t])∨
  (∃bs ys sa sn sc,c=.iff bs∧ty=311∧u=.agg #[.slice sa sn sc]∧Rep K bs ys∧Ksl (iW 371) K (.slice sa sn sc) ys∧wf bs 4=true):=by
 cases c <;> simp only[wf,Rep]at hw h
 case plain op=>cases h;exact .inl ⟨op,rfl,rfl,rfl⟩
 case act k a p=>cases h;exact .inr (.inl ⟨k,a,p,rfl,rfl,rfl⟩)
 case set_ n v t=>cases h;exact .inr (.inr (.inl ⟨n,v,t,rfl,rfl,rfl⟩))
 case iff bs=>
  obtain⟨ys,sv,h1,h2,h3⟩:=h;obtain⟨sa,sn,sc,rfl⟩:=h2.isSlice;cases h3
  exact .inr (.inr (.inr ⟨bs,ys,sa,sn,sc,rfl,rfl,rfl,h1,h2,by simpa using hw⟩))
 all_goals simp at hw
theorem RIs.one_{K:Hl}{x:InsV}{o:Mach.Ins}(h1:RIns K x o):RIs K [x] [o]:=⟨h1,trivial⟩
abbrev aU9(b:Nat)(r:List Mach.Ins):Ending→Hl→List Asn→Prop:=Ret fun v K' L'=>v=.tuple #[]∧∃vs',RIs K' vs' r∧L'=[cdr b vs']
def aJ6(l:Tree):Prop:=wf l 3=true→∀(b:Nat) (sv:Value) (xs:List (Cell×Cell)) (vs:List InsV) (ops:List Mach.Ins) (K:Hl),Rep K l xs→Ksl (eD 224) K sv (xs.map Prod.fst)→RIs K vs ops→vs.length+2*cnt l≤900000→Sp Tryz.prog 107 [ptr b,sv] K [cdr b vs] (aU9 b (body l ops))
def BrS(l:Tree):Prop:=wf l 4=true→∀(b:Nat) (sa:Option Addr) (sn sc:Nat) (xs:List (Cell×Cell)) (vs:List InsV) (ops:List Mach.Ins) (K:Hl),Rep K l xs→Ksl (iW 371) K (.slice sa sn sc) xs→RIs K vs ops→vs.length+2*cnt l≤900000→Sp Tryz.prog 194 [ptr b,.agg #[.slice sa sn sc]] K [cdr b vs] (aU9 b (dC l ops []))
def aVA:Tree→Prop
 | .iff bs=>BrS bs
 |_=>True
def aJ5:Tree→Prop
 | .ccons c l=>aVA c∧aJ5 l
 |_=>True
theorem aPH{t:Tree}(h:wf t 2=true):1≤cnt t:=by
 cases t <;> simp only[wf,cnt]at h ⊢ <;> first|omega|(simp at h)
theorem aRG{K:Hl}:∀ {l:Tree} {xs:List (Cell×Cell)},wf l 3=true→Rep K l xs→xs.length≤cnt l:=by
 intro l;induction l with
 |cnil=>intro xs _ h;cases (show xs=[]from h);simp
 |ccons t l ih1 ih2=>
  rintro xs hw ⟨v,ys,h1,h2,rfl⟩;simp[wf]at hw;have:=ih2 hw.2 h2;have:=aPH hw.1;simp only[cnt,List.length_cons];omega
 |_=>intro xs hw _;simp[wf]at hw
theorem aFP(l:Tree)(ih:aJ5 l):aJ6 l:=by
 intro hw b sv xs vs ops K hr hS hv hl;have hxl:=aRG hw hr;refine aZ Tryz.func107 rfl Tryz.ntmps107 rfl rfl fun F w=>?_
 have hml:(xs.map Prod.fst).length=xs.length:=List.length_map _;refine aH (aB ?_);refine uAa ?_;refine aA (cB (k:=(eD 224)) rfl Tryz.underlying135 rfl aL) rfl ?_;refine uAa ?_;refine aG (aE ?_);refine bE ?_;refine mP (fun(K2:Hl) (i:Nat) (vs2:List InsV)=>K.le K2∧i≤xs.length∧∃rest ops2,Rep K2 rest (xs.drop i)∧wf rest 3=true∧aJ5 rest∧RIs K2 vs2 ops2∧body l ops=body rest ops2∧vs2.length+2*cnt rest≤900000) (fun _ i _=>[(0,ptr b),(11,sv),(12,i64 (xs.map Prod.fst).length),(13,i64 i)]) (fun K2 _ _=>K2) (fun _ _ vs2=>[cdr b vs2]) (fun _ i _=>xs.length - i) K 0 vs ⟨Hl.le_refl _,Nat.zero_le _,l,ops,hr,hw,ih,hv,rfl,hl⟩ (.cons 0 rfl (.cons 11 rfl (.cons 12 rfl (.cons 13 rfl .nil)))) rfl (fun _ h=>h) ?_;intro K2 i vs2 ⟨leL,hi0,rest,ops2,hrr,hwr,ihr,hv2,hx,hb⟩;have hSl:Ksl (eD 224) K2 sv (xs.map Prod.fst):=hS.mono leL;have hv2l:=hv2.length;refine aH (aB ?_);refine uBn ?_;refine aG (aE ?_);refine aH ?_;refine bK 14 rfl (fun h14=>?_) (fun h14=>?_)
 ·
  have hilt:i < xs.length:=by omega
  obtain⟨c,l1,cc,rfl,hrt,hrl1,hxi,hwt,hwl1⟩:=aNI hwr hrr hilt;obtain⟨⟨cv,hcv⟩,hc⟩:∃c2,cc=c2:=⟨_,rfl⟩;subst hc;obtain⟨ty2,u2,hce⟩:=wM (.inr hwt) hrt;cases hce
  have hget:(xs.map Prod.fst)[i]?=some ⟨.iface ty2 u2,hcv⟩:=(by rw[List.getElem?_map,hxi];rfl);simp only[cnt]at hb;have hcl:=(uK c).2.1 ops2;refine aW ?_;refine aE (aH ?_);refine bE (aH ?_);refine aB ?_;refine aA (b0 (k:=(eD 224)) xR rfl aL rfl rfl (by first|assumption|omega)) rfl ?_;refine aA (dW (o:=0) (k:=(eD 224)) aZC rfl aL bU rfl) rfl ?_;refine uAb ?_;refine aG (aE ?_);rcases aT8 hwt hrt with ⟨op,rfl,rfl,rfl⟩|⟨k,a,p,rfl,rfl,rfl⟩|⟨n,v,t,rfl,rfl,rfl⟩|⟨bs,ys,sa,sn,sc,rfl,rfl,rfl,hrb,hSb,hwb⟩
  ·
   refine aH (aB ?_);refine uAa ?_;refine aG (aE ?_);refine bE (aH ?_);refine aB ?_;refine aA (fE Tryz.underlying285 (fun _ h=>by cases h) rfl) rfl ?_;refine uAh ?_;refine aG (aE ?_);refine uGe ?_;refine aH (aB ?_);refine ol_s (cN aZO) rfl ?_;rintro _ K _ ⟨b6,rfl,rfl,rfl⟩ -;refine bP (cJ aUS rfl rfl rfl aX (by first|(simp[Value.oneCell'];done)|exact fun c hc=>El.one _ _ c hc) (.cons .nil) (by intro j hj;simp)) ?_;rintro _ K _ ⟨rfl,rfl⟩ -;refine aG (aE ?_);refine uAf ?_;refine aA (aD (o':=0) aOH rfl rfl) rfl ?_;refine uAn ?_;refine uDa ?_;refine ol_s (bN (z0:=[.int .i64 0,.int .i64 0,.int .i64 0,.bool false,.slice none 0 0,.slice none 0 0,.int .i64 0]) iT tz41 rfl rfl rfl rfl (.cons rfl rfl rfl (.cons (.cons (.cons (.cons (.cons (.cons (.cons .nil))))))) .nil)) rfl ?_;rintro _ K _ ⟨b25,rfl,rfl,rfl⟩ -;refine bC rfl rfl (j1 b b25 vs2 [jmpV op] _ _ rfl (by simp only[cnt]at hb;simp;omega)) (.cons (.there (.there .here)) (.cons .here .nil)) rfl ?_;rintro _ K _ ⟨rfl,rfl,rfl⟩ -;have hv3:RIs _ _ (cmdI (.plain op) ops2):=RIs.append (ws:=[jmpV op]) (ps:=[jmp op]) ⟨oC _ _,trivial⟩ hv2;have leM:=Hl.le_refl K;refine aG (aN ?_);refine aN (aE ?_);refine uDj ?_;refine uAg ?_;refine fU _ (i+1) _ ⟨Hl.le_trans leL leM,by omega,l1,_,hrl1.mono leM,hwl1,ihr.2,hv3,by rw[hx];simp only[body,cmdI],by have:=hv3.length;simp only[cmdI]at this hcl;omega⟩ aI (.cons 0 rfl (.cons 11 rfl (.cons 12 rfl (.cons 13 rfl .nil)))) rfl bO
  ·
   refine aH (aB ?_);refine uAa ?_;refine aG (aE ?_);refine bE (aH ?_);refine aB ?_;refine aA (dE Tryz.underlying285 (fun _ h=>by cases h) rfl aSN rfl) rfl ?_;refine uAh ?_;refine aG (aE ?_);refine uHq ?_;refine aH (aB ?_);refine aA (fE Tryz.underlying282 (fun _ h=>by cases h) rfl) rfl ?_;refine uAh ?_;refine aG (aE ?_);refine uGe ?_;refine aH (aB ?_);refine ol_s (cN aZN) rfl ?_;rintro _ K _ ⟨b7,rfl,rfl,rfl⟩ -;refine bP (cJ aUR rfl rfl rfl aX (by first|(simp[Value.oneCell'];done)|exact fun c hc=>El.one _ _ c hc) (.cons (.cons (.cons .nil))) (by intro j hj;simp)) ?_;rintro _ K _ ⟨rfl,rfl⟩ -;refine aG (aE ?_);refine aH (aB ?_);refine aA (aD (o':=0) aC0 rfl rfl) rfl ?_;refine uAn ?_;refine aA (aD (o':=2) aOG rfl rfl) rfl ?_;refine uAn ?_;refine aA (cP tb41 oX (.cons rfl rfl rfl (.cons .nil) (.cons rfl rfl rfl (.skip (.skip (.cons .nil))) (.cons rfl rfl rfl (.skip (.skip (.skip (.skip (.skip (.skip (.cons .nil))))))) .nil)))) rfl ?_;refine ol_s (cN tz41) rfl ?_;rintro _ K _ ⟨b8,rfl,rfl,rfl⟩ -;refine bP (cJ kE rfl rfl rfl aX (by first|(simp[Value.oneCell'];done)|exact fun c hc=>El.one _ _ c hc) (.cons (.cons (.cons (.cons (.cons (.cons (.cons .nil))))))) (by intro j hj;simp)) ?_;rintro _ K _ ⟨rfl,rfl⟩ -;refine aG (aE ?_);refine aH (aH ?_);refine aB ?_;refine aA (aD (o':=0) aC0 rfl rfl) rfl ?_;refine uAn ?_;refine uDu ?_;refine aG (aE ?_);refine bK 37 rfl (fun h37=>?_) (fun h37=>?_)
   ·
    refine aB ?_;refine aA (aD (o':=1) aOF rfl rfl) rfl ?_;refine uBl ?_;refine ol_s (bN (z0:=[(str [])]) cX tz9 rfl rfl rfl rfl (.cons rfl rfl rfl (.cons .nil) .nil)) rfl ?_;rintro _ K _ ⟨b40,rfl,rfl,rfl⟩ -;refine fD fun K3 leM hb40=>?_
    refine uFe ?_;refine bP (bH ts39 rfl rfl cD aX (.succ (.succ (.succ (.succ .zero)))) rfl) ?_;rintro _ K _ ⟨rfl,rfl⟩ -;refine aG (aE ?_);refine uAf ?_;refine uIf ?_;refine ol_s (bN (z0:=[.int .i64 0,.int .i64 0,.int .i64 0,.bool false,.slice none 0 0,.slice none 0 0,.int .i64 0]) iT tz41 rfl rfl rfl rfl (.cons rfl rfl rfl (.cons (.cons (.cons (.cons (.cons (.cons (.cons .nil))))))) .nil)) rfl ?_;rintro _ K _ ⟨b44,rfl,rfl,rfl⟩ -;refine bC rfl rfl (j1 b b44 vs2 [⟨11,0,k,false,⟨.slice (some ⟨b40,0,none⟩) 1 1,rfl⟩,nilC,p⟩] _ _ rfl (by simp only[cnt]at hb;simp;omega)) (.cons (.there (.there (.there .here))) (.cons .here .nil)) rfl ?_;rintro _ K _ ⟨rfl,rfl,rfl⟩ -;have hv3:RIs _ _ (cmdI (.act k a p) ops2):=(by simp only[cmdI];rw[if_neg h37];exact RIs.append (RIs.one_ (x:=⟨11,0,k,false,⟨.slice (some ⟨b40,0,none⟩) 1 1,rfl⟩,nilC,p⟩) ⟨rfl,rfl,rfl,rfl,rfl,.inr ⟨b40,0,1,[str a],(0,0),rfl,⟨_,hb40⟩,rfl⟩,oR _⟩) (hv2.mono leM));refine aG (aN ?_);refine aN (aE ?_);refine uDj ?_;refine uAg ?_;refine fU _ (i+1) _ ⟨Hl.le_trans leL leM,by omega,l1,_,hrl1.mono leM,hwl1,ihr.2,hv3,by rw[hx];simp only[body,cmdI],by have:=hv3.length;simp only[cmdI]at this hcl;omega⟩ aI (.cons 0 rfl (.cons 11 rfl (.cons 12 rfl (.cons 13 rfl .nil)))) rfl bO
   ·
    refine aW ?_;refine aE (aB ?_);refine uAa ?_;refine uIf ?_;refine ol_s (bN (z0:=[.int .i64 0,.int .i64 0,.int .i64 0,.bool false,.slice none 0 0,.slice none 0 0,.int .i64 0]) iT tz41 rfl rfl rfl rfl (.cons rfl rfl rfl (.cons (.cons (.cons (.cons (.cons (.cons (.cons .nil))))))) .nil)) rfl ?_;rintro _ K _ ⟨b44,rfl,rfl,rfl⟩ -;refine bC rfl rfl (j1 b b44 vs2 [⟨11,0,k,false,nilC,nilC,p⟩] _ _ rfl (by simp only[cnt]at hb;simp;omega)) (.cons (.there (.there (.there .here))) (.cons .here .nil)) rfl ?_;rintro _ K _ ⟨rfl,rfl,rfl⟩ -;have leM:=Hl.le_refl K;have hv3:RIs _ _ (cmdI (.act k a p) ops2):=(by simp only[cmdI];rw[if_pos (Classical.not_not.1 h37)];exact RIs.append (RIs.one_ (x:=⟨11,0,k,false,nilC,nilC,p⟩) ⟨rfl,rfl,rfl,rfl,rfl,oR _,oR _⟩) hv2);refine aG (aN ?_);refine aN (aE ?_);refine uDj ?_;refine uAg ?_;refine fU _ (i+1) _ ⟨Hl.le_trans leL leM,by omega,l1,_,hrl1.mono leM,hwl1,ihr.2,hv3,by rw[hx];simp only[body,cmdI],by have:=hv3.length;simp only[cmdI]at this hcl;omega⟩ aI (.cons 0 rfl (.cons 11 rfl (.cons 12 rfl (.cons 13 rfl .nil)))) rfl bO
  ·
   refine aH (aB ?_);refine uAa ?_;refine aG (aE ?_);refine bE (aH ?_);refine aB ?_;refine aA (dE Tryz.underlying285 (fun _ h=>by cases h) rfl aSN rfl) rfl ?_;refine uAh ?_;refine aG (aE ?_);refine uHq ?_;refine aH (aB ?_);refine aA (dE Tryz.underlying282 (fun _ h=>by cases h) rfl aVT rfl) rfl ?_;refine uAh ?_;refine aG (aE ?_);refine uHq ?_;refine aH (aB ?_);refine aA (fE Tryz.underlying308 (fun _ h=>by cases h) rfl) rfl ?_;refine uAh ?_;refine aG (aE ?_);refine uGe ?_;refine aH (aB ?_);refine ol_s (cN aVX) rfl ?_;rintro _ K _ ⟨b9,rfl,rfl,rfl⟩ -;refine bP (cJ aEZ rfl rfl rfl aX (by first|(simp[Value.oneCell'];done)|exact fun c hc=>El.one _ _ c hc) (.cons (.cons (.cons .nil))) (by intro j hj;simp)) ?_;rintro _ K _ ⟨rfl,rfl⟩ -;refine aG (aE ?_);refine uAf ?_;refine aA (aD (o':=2) wX rfl rfl) rfl ?_;refine uAn ?_;refine aA (aD (o':=0) aC1 rfl rfl) rfl ?_;refine uBl ?_;refine ol_s (bN (z0:=[(str [])]) cX tz9 rfl rfl rfl rfl (.cons rfl rfl rfl (.cons .nil) .nil)) rfl ?_;rintro _ K _ ⟨b54,rfl,rfl,rfl⟩ -;refine aA (aD (o':=1) aC2 rfl rfl) rfl ?_;refine uBl ?_;refine ol_s (bN (z0:=[(str [])]) cX tz9 rfl rfl rfl rfl (.cons rfl rfl rfl (.cons .nil) .nil)) rfl ?_;rintro _ K _ ⟨b57,rfl,rfl,rfl⟩ -;refine fD fun K3 leM1 hb57=>?_
   refine fD fun K4 leM2 hb54=>?_
   have leM:=Hl.le_trans leM1 leM2;have hb57:=leM2 _ _ hb57;refine aA (cP tb41 oX (.cons rfl rfl rfl (.cons .nil) (.cons rfl rfl rfl (.skip (.skip (.cons .nil))) (.cons rfl rfl rfl (.skip (.skip (.skip (.skip (.cons .nil))))) (.cons rfl rfl rfl (.skip (.skip (.skip (.skip (.skip (.cons .nil)))))) .nil))))) rfl ?_;refine ol_s (bN (z0:=[.int .i64 0,.int .i64 0,.int .i64 0,.bool false,.slice none 0 0,.slice none 0 0,.int .i64 0]) iT tz41 rfl rfl rfl rfl (.cons rfl rfl rfl (.cons (.cons (.cons (.cons (.cons (.cons (.cons .nil))))))) .nil)) rfl ?_;rintro _ K _ ⟨b59,rfl,rfl,rfl⟩ -;refine bC rfl rfl (j1 b b59 vs2 [⟨12,0,t,false,⟨.slice (some ⟨b54,0,none⟩) 1 1,rfl⟩,⟨.slice (some ⟨b57,0,none⟩) 1 1,rfl⟩,0⟩] _ _ rfl (by simp only[cnt]at hb;simp;omega)) (.cons (.there (.there .here)) (.cons .here .nil)) rfl ?_;rintro _ K _ ⟨rfl,rfl,rfl⟩ -;have hv3:RIs _ _ (cmdI (.set_ n v t) ops2):=RIs.append (RIs.one_ (x:=⟨12,0,t,false,⟨.slice (some ⟨b54,0,none⟩) 1 1,rfl⟩,⟨.slice (some ⟨b57,0,none⟩) 1 1,rfl⟩,0⟩) ⟨rfl,rfl,rfl,rfl,rfl,.inr ⟨b54,0,1,[str n],(0,0),rfl,⟨_,hb54⟩,rfl⟩,.inr ⟨b57,0,1,[str v],(0,0),rfl,⟨_,hb57⟩,rfl⟩⟩) (hv2.mono leM);refine aG (aN ?_);refine aN (aE ?_);refine uDj ?_;refine uAg ?_;refine fU _ (i+1) _ ⟨Hl.le_trans leL leM,by omega,l1,_,hrl1.mono leM,hwl1,ihr.2,hv3,by rw[hx];simp only[body,cmdI],by have:=hv3.length;simp only[cmdI]at this hcl;omega⟩ aI (.cons 0 rfl (.cons 11 rfl (.cons 12 rfl (.cons 13 rfl .nil)))) rfl bO
  ·
   refine aH (aB ?_);refine uAa ?_;refine aG (aE ?_);refine bE (aH ?_);refine aB ?_;refine aA (dE Tryz.underlying285 (fun _ h=>by cases h) rfl aSN rfl) rfl ?_;refine uAh ?_;refine aG (aE ?_);refine uHq ?_;refine aH (aB ?_);refine aA (dE Tryz.underlying282 (fun _ h=>by cases h) rfl aVT rfl) rfl ?_;refine uAh ?_;refine aG (aE ?_);refine uHq ?_;refine aH (aB ?_);refine aA (dE Tryz.underlying308 (fun _ h=>by cases h) rfl aZI rfl) rfl ?_;refine uAh ?_;refine aG (aE ?_);refine uHq ?_;refine aH (aB ?_);refine aA (fE Tryz.underlying311 (fun _ h=>by cases h) rfl) rfl ?_;refine uAh ?_;refine aG (aE ?_);refine uGe ?_;refine aH (aB ?_);refine ol_s (cN aVY) rfl ?_;rintro _ K _ ⟨b10,rfl,rfl,rfl⟩ -;refine bP (cJ oV rfl rfl rfl aX (by first|(simp[Value.oneCell'];done)|exact fun c hc=>El.one _ _ c hc) (.cons .nil) (by intro j hj;simp)) ?_;rintro _ K _ ⟨rfl,rfl⟩ -;refine aG (aE ?_);refine uAf ?_;refine uHb ?_;refine bC rfl rfl (ihr.1 hwb b sa sn sc ys vs2 ops2 _ hrb hSb hv2 (by simp only[cnt]at hb;omega)) (.cons (.there .here) .nil) rfl ?_;rintro _ K3 _ ⟨rfl,vs3,hv3,rfl⟩ leM;refine aG (aN ?_);refine aN (aE ?_);refine uDj ?_;refine uAg ?_;refine fU _ (i+1) _ ⟨Hl.le_trans leL leM,by omega,l1,_,hrl1.mono leM,hwl1,ihr.2,hv3,by rw[hx];simp only[body,cmdI],by have:=hv3.length;simp only[cmdI]at this hcl;omega⟩ aI (.cons 0 rfl (.cons 11 rfl (.cons 12 rfl (.cons 13 rfl .nil)))) rfl bO
 ·
  have hend:body l ops=ops2:=(by rw[hx];exact aRD hwr hrr (List.drop_eq_nil_of_le aI));refine uAp ?_;refine uAg ?_;refine dD rfl leL ?_;rw[hend];exact⟨_,rfl,rfl,vs2,hv2,rfl⟩
end Go.Proofs
end
section
namespace Go.Proofs
open Go Go.SL Go.Syn Go.Cmp
def BrL:Tree→Prop
 | .bcons _ b l=>aJ6 b∧BrL l
 | .belse b l=>aJ6 b∧BrL l
 |_=>True
theorem aW4{K:Hl}{rest:Tree}{xs:List (Cell×Cell)}{i:Nat}(hw:wf rest 4=true)(hr:Rep K rest (xs.drop i))(hi:i < xs.length):
  ∃ tv sa sn sc, xs[i]? = some (tv, ⟨.slice sa sn sc, rfl⟩) ∧ ((∃ t bd l ys ty u, rest = .bcons t bd l ∧ tv.1 = .iface ty u ∧ Rep K t [(tv, u0)] ∧ Rep K bd ys ∧ Ksl (eD 224) K (.slice sa sn sc) (ys.map Prod.fst) ∧ Rep K l (xs.drop (i + 1)) ∧ wf t 0 = true ∧ wf bd 3 = true ∧ wf l 4 = true) ∨
   (∃bd l ys,rest=.belse bd l∧tv.1=.nilIface∧Rep K bd ys∧Ksl (eD 224) K (.slice sa sn sc) (ys.map Prod.fst)∧wf bd 3=true)):=by
 have hd:xs.drop i≠[]:=by intro h;have:=congrArg List.length h;simp at this;omega
 have hget:∀ {x:Cell×Cell} {ys:List (Cell×Cell)},xs.drop i=x::ys→xs[i]?=some x∧xs.drop (i+1)=ys:=by
  intro x ys h3;refine⟨?_,by rw[←List.drop_drop,h3];rfl⟩
  have:=List.getElem?_drop (xs:=xs) (i:=i) (j:=0);rw[h3]at this;simpa using this.symm
 cases rest <;> simp only[wf,Rep]at hw hr
 case bnil=>exact absurd hr hd
 case bcons t bd l=>
  obtain⟨v,ys,⟨sv,hsv⟩,zs,h1,h2,h3,h4,h5,h6⟩:=hr;obtain⟨ty,u,h2⟩:=h2;simp at hw;obtain⟨sa,sn,sc,rfl⟩:=h4.isSlice;obtain⟨e1,e2⟩:=hget h6;exact⟨v,sa,sn,sc,e1,.inl ⟨t,bd,l,ys,ty,u,rfl,h2,h1,h3,h4,by rw[e2];exact h5,hw.1,hw.2.1,hw.2.2⟩⟩
 case belse bd l=>
  obtain⟨ys,⟨sv,hsv⟩,zs,h3,h4,h5,h6⟩:=hr;simp at hw;obtain⟨sa,sn,sc,rfl⟩:=h4.isSlice;obtain⟨e1,e2⟩:=hget h6;exact⟨_,sa,sn,sc,e1,.inr ⟨bd,l,ys,rfl,rfl,h3,h4,hw.1⟩⟩
 all_goals simp at hw
theorem aRI{K:Hl}{l:Tree}{ys:List (Cell×Cell)}(hw:wf l 4=true)(hr:Rep K l ys):gQ l=true↔ys.length=0:=by
 cases l <;> simp only[wf,Rep]at hw hr
 case bnil=>subst hr;simp[gQ]
 case bcons t b l=>obtain⟨v,zs,sv,ws,_,_,_,_,_,rfl⟩:=hr;simp[gQ]
 case belse b l=>obtain⟨zs,sv,ws,_,_,_,rfl⟩:=hr;simp[gQ]
 all_goals simp at hw
theorem aRC{K:Hl}{rest:Tree}{ys:List (Cell×Cell)}(hw:wf rest 4=true)(hr:Rep K rest ys)(he:ys=[]){ops:List Mach.Ins}{out:List Nat}:dC rest ops out=land ops out:=by
 cases rest <;> simp only[wf,Rep]at hw hr
 case bnil=>simp[dC]
 case bcons t b l=>obtain⟨v,zs,sv,ws,_,_,_,_,_,rfl⟩:=hr;cases he
 case belse b l=>obtain⟨zs,sv,ws,_,_,_,rfl⟩:=hr;cases he
 all_goals simp at hw
theorem aRF{K:Hl}:∀ {l:Tree} {xs:List (Cell×Cell)},wf l 4=true→Rep K l xs→xs.length≤cnt l:=by
 intro l;induction l with
 |bnil=>intro xs _ h;cases (show xs=[]from h);simp
 |bcons t b l ih1 ih2 ih3=>
  rintro xs hw ⟨v,ys,sv,ws,h1,h2,h3,h4,h5,rfl⟩;simp[wf]at hw;have:=ih3 hw.2.2 h5;simp only[cnt,List.length_cons];omega
 |belse b l ih1 ih2=>
  rintro xs hw ⟨ys,sv,ws,h3,h4,h5,rfl⟩;simp[wf]at hw;have:=ih2 hw.2 h5;simp only[cnt,List.length_cons];omega
 |_=>intro xs hw _;simp[wf]at hw
theorem yY{t b l:Tree}{ops:List Mach.Ins}{out:List Nat}(h:gQ l=true):dC (.bcons t b l) ops out=dC l (land (body b (unl t false ops).1) (unl t false ops).2) out:=by
 simp only[dC];rw[if_pos h]
theorem yZ{t b l:Tree}{ops:List Mach.Ins}{out:List Nat}(h:¬gQ l=true):dC (.bcons t b l) ops out=dC l (land (body b (unl t false ops).1++[jmp 3]) (unl t false ops).2) (out++[(body b (unl t false ops).1).length]):=by
 simp only[dC];rw[if_neg h]
theorem aIC(bs:Tree)(ih:BrL bs):BrS bs:=by
  intro hw b sa sn sc xs vs ops K hr hS hv hl;have hxl:=aRF hw hr;refine aZ Tryz.func194 rfl Tryz.ntmps194 rfl rfl fun F w=>?_
  refine aH (aB ?_);refine uBk ?_;rintro _ K _ ⟨b3,rfl,rfl,rfl⟩ -;refine aG (aE ?_);refine aH (aB ?_);refine uAb ?_;refine aG (aE ?_);refine aH (aH ?_);refine aB ?_;refine lL (dX (jL 3)) ?_;refine uIb ?_;refine uAa ?_;refine aG (aE ?_);refine bE ?_;refine aEX (fun(K2:Hl) (i:Nat) (ov:Value) (vs2:List InsV) (out:List Nat) (_ _:Unit)=>K.le K2∧i≤xs.length∧∃rest ops2,Rep K2 rest (xs.drop i)∧wf rest 4=true∧BrL rest∧RIs K2 vs2 ops2∧dC bs ops []=dC rest ops2 out∧vs2.length+2*cnt rest≤900000∧out.length+cnt rest≤900000∧∀k∈out,k < vs2.length) (fun _ i ov _ _ _ _=>[(0,ptr b),(3,ptr b3),(4,ov),(9,.slice sa sn sc),(10,i64 xs.length),(11,i64 i)]) (fun K2 _ _ _ _ _ _=>K2) (fun _ _ ov vs2 out _ _=>[sl false (jL 3) ov out,pt b3 (aU [.slice sa sn sc] 311),cdr b vs2]) (fun _ i _ _ _ _ _=>xs.length - i) K 0 _ vs [] () () ⟨Hl.le_refl _,Nat.zero_le _,bs,ops,hr,hw,ih,hv,rfl,hl,by simp;omega,by simp⟩ (.cons 0 rfl (.cons 3 rfl (.cons 4 rfl (.cons 9 rfl (.cons 10 rfl (.cons 11 rfl .nil)))))) rfl (fun _ h=>h) ?_;intro K2 i ov vs2 out _ _ ⟨leL,hi0,rest,ops2,hrr,hwr,ihr,hv2,hx,hb1,hb2,hout⟩;have hSl:Ksl (iW 371) K2 (.slice sa sn sc) xs:=hS.mono leL;have hv2l:=hv2.length;refine aH (aB ?_);refine uBn ?_;refine aG (aE ?_);refine aH ?_;refine bK 12 rfl (fun h12=>?_) (fun h12=>?_)
  ·
    have hilt:i < xs.length:=by omega
    obtain⟨⟨tv,htv⟩,ta,tn,tc,hget,hcase⟩:=aW4 hwr hrr hilt;refine uHp ?_;rcases hcase with ⟨t,bd,l1,ys,ty,u,rfl,htv2,hrt,hrbd,hSbd,hrl1,hwt,hwbd,hwl1⟩|⟨bd,l1,ys,rfl,htv2,hrbd,hSbd,hwbd⟩
    ·
      obtain rfl:tv=.iface ty u:=htv2;simp only[cnt]at hb1 hb2;have hu:=(yL t).1 false ops2;have hbl:=(uK bd).1 (unl t false ops2).1;have hdl:(xs.drop (i+1)).length=xs.length - (i+1):=List.length_drop;have hnil:=aRI hwl1 hrl1;refine aH (bE ?_);refine aH (aB ?_);refine uAa ?_;refine aA (b0 (k:=(iW 371)) rT rfl aL rfl rfl (by first|assumption|omega)) rfl ?_;refine aA (eE (n:=0) (k:=(iW 371)) yK rfl aL bU) rfl ?_;refine ol_s (cN aSU) rfl ?_;rintro _ K _ ⟨b6,rfl,rfl,rfl⟩ -;refine uAb ?_;refine bP (cJ yK rfl rfl rfl aX (by first|(simp[Value.oneCell'];done)|exact fun c hc=>El.one _ _ c hc) (.cons (.cons .nil)) (by intro j hj;simp)) ?_;rintro _ K _ ⟨rfl,rfl⟩ -;refine aG (aE ?_);refine aH (aH ?_);refine aB ?_;refine uId ?_;refine aA (e8 Tryz.underlying288 rfl rfl) rfl ?_;refine aG (aE ?_);refine uBf ?_;refine aE (aH ?_);refine uAf ?_;refine uId ?_;refine bC rfl rfl ((aU0 t).1 hwt b false ty u vs2 ops2 _ hrt hv2 aI) (.cons (.there (.there (.there .here))) .nil) rfl ?_;rintro nv K3 _ ⟨vs3,hv3,rfl⟩ leM;have hv3l:=hv3.length;refine uAb ?_;refine aG (aE ?_);refine aH (aB ?_);refine uAa ?_;refine aA (aD (o':=1) aC3 rfl rfl) rfl ?_;refine aA (aJ aHX rfl aL rfl) rfl ?_;refine bC rfl rfl (ihr.1 hwbd b (.slice ta tn tc) ys vs3 _ _ (hrbd.mono leM) (hSbd.mono leM) hv3 aI) (.cons (.there .here) .nil) rfl ?_;rintro _ K4 _ ⟨rfl,vs4,hv4,rfl⟩ leN;have hv4l:=hv4.length;have hSl:=hSl.mono (Hl.le_trans leM leN);have leMN:=Hl.le_trans leM leN;have hva:(vs4++[jmpV 3]).length=vs4.length+1:=List.length_append;refine aG (aE ?_);refine aH (aH ?_);refine uAf ?_;refine uIb ?_;refine aA (nB rfl rfl aI aI) rfl ?_;refine uBn ?_;refine aG (aE ?_);refine bK 36 rfl (fun h36=>?_) (fun h36=>?_)
      ·
        refine uCf ?_;refine uDa ?_;refine ol_s (bN (z0:=[.int .i64 0,.int .i64 0,.int .i64 0,.bool false,.slice none 0 0,.slice none 0 0,.int .i64 0]) iT tz41 rfl rfl rfl rfl (.cons rfl rfl rfl (.cons (.cons (.cons (.cons (.cons (.cons (.cons .nil))))))) .nil)) rfl ?_;rintro _ K _ ⟨b40,rfl,rfl,rfl⟩ -;refine bC rfl rfl (j1 b b40 vs4 [jmpV 3] _ _ rfl (by simp;omega)) (.cons (.there .here) (.cons .here .nil)) rfl ?_;rintro _ K _ ⟨rfl,rfl,rfl⟩ -;refine ol_s (bN (z0:=[.int .i64 0]) pP tz3 rfl rfl rfl rfl (.cons rfl rfl rfl (.cons .nil) .nil)) rfl ?_;rintro _ K _ ⟨b42,rfl,rfl,rfl⟩ -;refine ol_s (dM (k:=(jL 3)) (ys:=[vs4.length]) qG rfl rfl (.there (.there (.there (.there .here)))) (fun w j=>dB Tryz.underlying55 (SeesSl.at (k:=jL 3) (xs:=[vs4.length]) (.blk (.own .here) rfl (by simp[jL,El.cs])) j)) (by first|(simp;omega)|omega) (by first|(simp;omega)|omega)) rfl ?_;rintro v43 K _ ⟨rfl,rfl,ho43⟩ -;refine uAb ?_;refine aG (aE ?_);refine uCf ?_;refine bC rfl rfl (pD b nv (vs4++[jmpV 3]) _ _ aI aI (fun k hk=>by have:=hu.2.2.2 k hk;omega)) (.cons (.there (.there .here)) (.cons (.there (.there .here)) .nil)) rfl ?_;rintro _ K _ ⟨rfl,rfl,rfl⟩ -;refine aG (aN ?_);refine aE (aB ?_);refine uAo ?_
        first
          | (have hnl : ¬ gQ l1 = true := (by rw [hnil]; omega)
             refine aO (.cons (.there .here) (.cons (.there (.there (.there .here))) (.cons .here .nil))) ?_;refine i8 _ (i+1) _ (vB (vs4++[jmpV 3]) (unl t false ops2).2) (out++[vs4.length]) () () ⟨Hl.le_trans leL leMN,by omega,l1,_,hrl1.mono leMN,hwl1,ihr.2,(RIs.append (ws:=[jmpV 3]) (ps:=[jmp 3]) ⟨oC _ _,trivial⟩ hv4).land,by rw[hx,yZ hnl,hv4l],by rw[hO];omega,by rw[List.length_append];simp;omega,fun k hk=>by rw[hO];rcases List.mem_append.1 hk with h|h;(have:=hout k h;omega);(simp at h;omega)⟩ aI (.cons 0 rfl (.cons 3 rfl (.cons 4 rfl (.cons 9 rfl (.cons 10 rfl (.cons 11 rfl .nil)))))) rfl bO)
          | (have hnl : gQ l1 = true := (by rw [hnil]; omega)
             refine aO (.cons (.there (.there .here)) (.cons (.there (.there .here)) (.cons .here .nil))) ?_;refine i8 _ (i+1) ov (vB vs4 (unl t false ops2).2) out () () ⟨Hl.le_trans leL leMN,by omega,l1,_,hrl1.mono leMN,hwl1,ihr.2,hv4.land,by rw[hx,yY hnl],by rw[hO];omega,by omega,fun k hk=>by rw[hO];have:=hout k hk;omega⟩ aI (.cons 0 rfl (.cons 3 rfl (.cons 4 rfl (.cons 9 rfl (.cons 10 rfl (.cons 11 rfl .nil)))))) rfl bO)
      ·
        refine aW ?_;refine aE (aB ?_);refine uAx ?_;refine bC rfl rfl (pD b nv vs4 _ _ aI aI (fun k hk=>by have:=hu.2.2.2 k hk;omega)) (.cons .here (.cons .here .nil)) rfl ?_;rintro _ K _ ⟨rfl,rfl,rfl⟩ -;refine aG (aN ?_);refine aE (aB ?_);refine uAo ?_
        first
          | (have hnl : ¬ gQ l1 = true := (by rw [hnil]; omega)
             refine aO (.cons (.there .here) (.cons (.there (.there (.there .here))) (.cons .here .nil))) ?_;refine i8 _ (i+1) _ (vB (vs4++[jmpV 3]) (unl t false ops2).2) (out++[vs4.length]) () () ⟨Hl.le_trans leL leMN,by omega,l1,_,hrl1.mono leMN,hwl1,ihr.2,(RIs.append (ws:=[jmpV 3]) (ps:=[jmp 3]) ⟨oC _ _,trivial⟩ hv4).land,by rw[hx,yZ hnl,hv4l],by rw[hO];omega,by rw[List.length_append];simp;omega,fun k hk=>by rw[hO];rcases List.mem_append.1 hk with h|h;(have:=hout k h;omega);(simp at h;omega)⟩ aI (.cons 0 rfl (.cons 3 rfl (.cons 4 rfl (.cons 9 rfl (.cons 10 rfl (.cons 11 rfl .nil)))))) rfl bO)
          | (have hnl : gQ l1 = true := (by rw [hnil]; omega)
             refine aO (.cons (.there (.there .here)) (.cons (.there (.there .here)) (.cons .here .nil))) ?_;refine i8 _ (i+1) ov (vB vs4 (unl t false ops2).2) out () () ⟨Hl.le_trans leL leMN,by omega,l1,_,hrl1.mono leMN,hwl1,ihr.2,hv4.land,by rw[hx,yY hnl],by rw[hO];omega,by omega,fun k hk=>by rw[hO];have:=hout k hk;omega⟩ aI (.cons 0 rfl (.cons 3 rfl (.cons 4 rfl (.cons 9 rfl (.cons 10 rfl (.cons 11 rfl .nil)))))) rfl bO)
    ·
      obtain rfl:tv=.nilIface:=htv2;simp only[cnt]at hb1 hb2;have hbl:=(uK bd).1 ops2;refine aH (bE ?_);refine aH (aB ?_);refine uAa ?_;refine aA (b0 (k:=(iW 371)) rT rfl aL rfl rfl (by first|assumption|omega)) rfl ?_;refine aA (eE (n:=0) (k:=(iW 371)) yK rfl aL bU) rfl ?_;refine ol_s (cN aSU) rfl ?_;rintro _ K _ ⟨b6,rfl,rfl,rfl⟩ -;refine uAb ?_;refine bP (cJ yK rfl rfl rfl aX (by first|(simp[Value.oneCell'];done)|exact fun c hc=>El.one _ _ c hc) (.cons (.cons .nil)) (by intro j hj;simp)) ?_;rintro _ K _ ⟨rfl,rfl⟩ -;refine aG (aE ?_);refine aH (aH ?_);refine aB ?_;refine uId ?_;refine aA (zD Tryz.underlying288 rfl) rfl ?_;refine aG (aE ?_);refine uGe ?_;refine aH (aB ?_);refine uAa ?_;refine aA (aD (o':=1) aC3 rfl rfl) rfl ?_;refine aA (aJ aHX rfl aL rfl) rfl ?_;refine bC rfl rfl (ihr.1 hwbd b (.slice ta tn tc) ys vs2 ops2 _ hrbd hSbd hv2 aI) (.cons (.there (.there (.there .here))) .nil) rfl ?_;rintro _ K4 _ ⟨rfl,vs4,hv4,rfl⟩ leN;have hv4l:=hv4.length;refine aG (aE ?_);refine uFp ?_;refine aS ?_;refine bG ?_;refine aE (aB ?_);refine uAx ?_;refine bC rfl rfl (pD b ov vs4 out _ aI aI (fun k hk=>by have:=hout k hk;omega)) (.cons .here (.cons (.there .here) .nil)) rfl ?_;rintro _ K _ ⟨rfl,rfl,rfl⟩ -;refine uIg ?_;refine dD rfl (by first|exact Hl.le_trans leL leN|exact leL) ?_
      first
        |(rw[hend];exact⟨_,rfl,rfl,_,hv2.land,rfl⟩)
        |(rw[hx];simp only[dC];exact⟨_,rfl,rfl,_,hv4.land,rfl⟩)
  ·
    have hend:dC bs ops []=land ops2 out:=(by rw[hx];exact aRC hwr hrr (List.drop_eq_nil_of_le aI));refine uAp ?_;refine aE (aB ?_);refine uAx ?_;refine bC rfl rfl (pD b ov vs2 out _ aI aI (fun k hk=>hout k hk)) (.cons (.there (.there .here)) (.cons .here .nil)) rfl ?_;rintro _ K _ ⟨rfl,rfl,rfl⟩ -;refine uIg ?_;refine dD rfl (by first|exact Hl.le_trans leL leN|exact leL) ?_
    first
      |(rw[hend];exact⟨_,rfl,rfl,_,hv2.land,rfl⟩)
      |(rw[hx];simp only[dC];exact⟨_,rfl,rfl,_,hv4.land,rfl⟩)
end Go.Proofs
end
section
namespace Go.Proofs
open Go Go.SL Go.Syn Go.Cmp
theorem aO9:∀(t:Tree),aJ6 t∧aJ5 t∧BrS t∧BrL t∧aVA t:=by
 intro t;induction t with
 |iff bs ih=>exact⟨fun h=>by simp[wf]at h,trivial,fun h=>by simp[wf]at h,trivial,ih.2.2.1⟩
 |cnil=>exact⟨aFP _ trivial,trivial,fun h=>by simp[wf]at h,trivial,trivial⟩
 |ccons c l ih1 ih2=>exact⟨aFP _ ⟨ih1.2.2.2.2,ih2.2.1⟩,⟨ih1.2.2.2.2,ih2.2.1⟩,fun h=>by simp[wf]at h,trivial,trivial⟩
 |bnil=>exact⟨fun h=>by simp[wf]at h,trivial,aIC _ trivial,trivial,trivial⟩
 |bcons t b l ih1 ih2 ih3=>exact⟨fun h=>by simp[wf]at h,trivial,aIC _ ⟨ih2.1,ih3.2.2.2.1⟩,⟨ih2.1,ih3.2.2.2.1⟩,trivial⟩
 |belse b l ih1 ih2=>exact⟨fun h=>by simp[wf]at h,trivial,aIC _ ⟨ih1.1,ih2.2.2.2.1⟩,⟨ih1.1,ih2.2.2.2.1⟩,trivial⟩
 |_=>exact⟨fun h=>by simp[wf]at h,trivial,fun h=>by simp[wf]at h,trivial,trivial⟩
theorem aHC(b:Nat)(needs:List (List UInt8))(t:Tree)(K:Hl)(hat:ScriptAt K b needs t)(hw:wf t 3=true)(hc:cnt t≤400000):
  Sp Tryz.prog 58 [ptr b 6] K [] (Ret fun v K' L'=>∃vs,RIs K' vs (script t)∧L'=[sl false gO v vs]):=by
 obtain⟨l,nv,bv,ys,fz,hb,h6,h7,hv,hS,hrep,hcl⟩:=hat.at_;refine aZ Tryz.func58 rfl Tryz.ntmps58 rfl rfl fun F w=>?_
 refine aH (aB ?_);refine uAb ?_;refine aG (aE ?_);refine aH (aB ?_);refine aA (cP aY0 aXL .nil) rfl ?_;refine uBk ?_;rintro _ K _ ⟨b5,rfl,rfl,rfl⟩ -;refine uAb ?_;refine aG (aE ?_);refine aH (aB ?_);refine uAx ?_;refine uEw ?_;refine aA (aD (o':=7) wV rfl rfl) rfl ?_;refine aA (aJ aHX rfl (.known hb) h7) rfl ?_;refine lL (dX gO) ?_;refine lL (fun h hh=>eH hh) ?_;refine lL aEQ ?_;refine bC rfl rfl ((aO9 t).1 hw b5 bv ys [] [] _ hrep hS trivial (by simp;omega)) (.cons .here .nil) rfl ?_;rintro _ K1 _ ⟨rfl,vs1,hv1,rfl⟩ le1;refine aYG fun cv=>?_
 refine aG (aE ?_);refine aH (aB ?_);refine uBz ?_;refine uIa ?_;refine uAb ?_;refine aG (aE ?_);refine bI ?_;refine uEy ?_;refine bF rfl rfl le1 ?_;exact⟨_,rfl,vs1,hv1,rfl⟩
end Go.Proofs
end
section
namespace Go.Proofs
open Go Go.SL Go.Syn Go.Mach
theorem zO(s:List UInt8)(c:UInt8)(K:Hl):Sp Tryz.prog 308 [str s,.int .u8 c.toNat] K [] (Val (i64 (Lib.indexByte s c)) K):=by
 refine kR ⟨_,Tryz.func308,rfl,rfl⟩ fun w hw=>?_
 have:=Tryz.strings_IndexByte ⟨s.toArray⟩ (c.toNat:Int) w
 simpa using this
theorem p7{E:Env}{fr:Fr}{K:Hl}{L:List Asn}{dst:Option Tmp}{ty:TypeId}{pos:String}{aft:Array Edge}{g:Option (Nat×Bool)}{x y:Operand}{t kt et b c:Nat}{k:List UInt8}{vars:List (List UInt8×List UInt8)}{f:Nat→Nat}
  (hm:E.P.underlying t=some (.map kt et)) (hk:E.P.underlying kt=some .string) (hz:fS E.P et=some (.agg #[str []])) (hx:fr.ev x=some (.map (some b))) (hy:fr.ev y=some (str k)) (hs:Sees K L b (mapO (iE vars f) c)):
  Ev E fr K L ⟨dst,.lookup t x y false,ty,pos,aft,g⟩ (.agg #[str (vget vars k)]):=by
 have:=aIL (dst:=dst) (ty:=ty) (pos:=pos) (aft:=aft) (g:=g) hm hk hz hx hy hs;rw[aOY]at this;exact this
theorem n3{vars:List (List UInt8×List UInt8)}{parts:List (List UInt8)}{d:UInt8}(h:48≤d.toNat∧d.toNat≤57):held vars parts [d]=((parts[d.toNat - 48]?).getD [],true):=by
 unfold held;simp only[];rw[if_pos (by simp[gP,h.1,h.2])]
theorem n4{vars:List (List UInt8×List UInt8)}{parts:List (List UInt8)}{name:List UInt8}(h:¬(∃d,name=[d]∧48≤d.toNat∧d.toNat≤57)):held vars parts name=(vget vars (dH name),named name):=by
 unfold held;split
 ·rename_i d;rw[if_neg (by intro e;simp[gP]at e;exact h ⟨d,rfl,e⟩)]
 ·rfl
theorem aMN(b mb:Nat)(c0 c1 c2 c3 c4 c5 c6 pv c9:Value)(pc:Int)(vars:List (List UInt8×List UInt8))(f:Nat→Nat)(c:Nat)(parts:List (List UInt8))(name:List UInt8)(K:Hl)(hpv:Ksl (bT 9) K pv parts)(hn:name.length≤100000000):
  Sp Tryz.prog 309 [ptr b,str name] K [mblk b c0 c1 c2 c3 c4 c5 c6 (.map (some mb)) pv c9 pc,pt mb (mapO (iE vars f) c)]
   (Ret fun v K' L'=>v=.tuple #[str (held vars parts name).1,.bool (held vars parts name).2]∧K'=K∧L'=[mblk b c0 c1 c2 c3 c4 c5 c6 (.map (some mb)) pv c9 pc,pt mb (mapO (iE vars f) c)]):=by
 refine aZ Tryz.func309 rfl Tryz.ntmps309 rfl rfl fun F w=>?_
 refine aH (aB ?_);refine uAw ?_;refine aG (aE ?_);refine aH (aH ?_);refine uAf ?_;refine uBs ?_;refine uHf ?_;refine cG 10 rfl (fun g10=>?_) (fun g10=>?_)
 ·
  obtain⟨d,rfl⟩:∃d,name=[d]:=List.length_eq_one_iff.1 aI;have hd0:([d]:List UInt8)[0]?=some d:=rfl;refine uAi ?_;refine uFw ?_;refine uAz ?_;refine uEl ?_;refine uFo ?_;refine cG 15 rfl (fun g15=>?_) (fun g15=>?_)
  ·
   refine uAi ?_;refine uFw ?_;refine uAz ?_;refine uEs ?_;refine uAy ?_;refine aG (aE ?_);refine bK 19 rfl (fun h19=>?_) (fun h19=>?_)
   ·
    refine aH (aH ?_);refine uAf ?_;refine uFw ?_;refine aA (aKO (m:=d.toNat) (n:=48) aI aI rfl rfl) rfl ?_;refine aA (xH Tryz.underlying3 Tryz.underlying5 rfl aI aI) rfl ?_;refine uAb ?_;refine aG (aE ?_);refine aH (aB ?_);refine uAx ?_;refine uEw ?_;refine aA (aD (o':=8) wW rfl rfl) rfl ?_;refine uCo ?_;refine uCh ?_;refine uBn ?_;refine aG (aE ?_);refine bK 30 rfl (fun h30=>?_) (fun h30=>?_)
    ·
     obtain⟨p,hp⟩:∃p,parts[d.toNat - 48]?=some p:=⟨parts[d.toNat - 48]'(by omega),List.getElem?_eq_getElem aI⟩;refine aH (aB ?_);refine uBz ?_;refine aA (aD (o':=8) wW rfl rfl) rfl ?_;refine uCo ?_;refine uAa ?_;refine aA (b0 (k:=(bT 9)) cX rfl aL rfl rfl (by first|assumption|omega)) rfl ?_;refine uCm ?_;refine uAw ?_;refine aG (aE ?_);refine uCk ?_;refine a7 ?_;refine uCu ?_;refine e7 rfl rfl rfl (Hl.le_refl _) ?_
     first
      |(rw[n3 aI,hp];exact⟨_,rfl,rfl,rfl,rfl⟩)
      |(rw[n4 hno];exact⟨_,rfl,rfl,rfl,rfl⟩)
    ·
     have hp:parts[d.toNat - 48]?=none:=List.getElem?_eq_none aI;refine aW ?_;refine aE (aH ?_);refine aB ?_;refine uAw ?_;refine aG (aE ?_);refine uCk ?_;refine uCu ?_;refine e7 rfl rfl rfl (Hl.le_refl _) ?_
     first
      |(rw[n3 aI,hp];exact⟨_,rfl,rfl,rfl,rfl⟩)
      |(rw[n4 hno];exact⟨_,rfl,rfl,rfl,rfl⟩)
   ·
    have hno:¬(∃e,[d]=[e]∧48≤e.toNat∧e.toNat≤57):=(by rintro⟨e,h1,h2,h3⟩;cases h1;omega);refine aW ?_;refine aE (aH ?_);refine t_draw (anc:=[0,1,3,7,0,16,63,127,0,304,1023,2047]) (ord:=[0,1,2,3,4,8,5,6,7,9,10,11]) [5,9] [] mixed (by decide+kernel) (cS _) ?_;refine uDb ?_;refine uGg ?_;refine dl_callv rfl (.none rfl) rfl rfl rfl rfl (fO _ _ (by first|omega|(simp;done)|(simp;omega))) rfl ?_;refine dl_ev rfl rfl (.none rfl) rfl rfl (p7 Tryz.underlying175 Tryz.underlying9 aSO rfl rfl (.own (.there .here))) rfl ?_;refine uHh ?_;refine dl_callv rfl (.none rfl) rfl rfl rfl rfl (qA _ _ (by first|omega|(simp;done)|(simp;omega))) rfl ?_;refine uAv ?_;refine uAv ?_;refine uDf ?_;refine bI ?_;refine uCu ?_;refine e7 rfl rfl rfl (Hl.le_refl _) ?_
    first
     |(rw[n3 aI,hp];exact⟨_,rfl,rfl,rfl,rfl⟩)
     |(rw[n4 hno];exact⟨_,rfl,rfl,rfl,rfl⟩)
  ·
   have hno:¬(∃e,[d]=[e]∧48≤e.toNat∧e.toNat≤57):=(by rintro⟨e,h1,h2,h3⟩;cases h1;omega);refine uFa ?_;refine aG (aE ?_);refine uBf ?_;refine aE (aH ?_);refine t_draw (anc:=[0,1,3,7,0,16,63,127,0,304,1023,2047]) (ord:=[0,1,2,3,4,8,5,6,7,9,10,11]) [5,9] [] mixed (by decide+kernel) (cS _) ?_;refine uDb ?_;refine uGg ?_;refine dl_callv rfl (.none rfl) rfl rfl rfl rfl (fO _ _ (by first|omega|(simp;done)|(simp;omega))) rfl ?_;refine dl_ev rfl rfl (.none rfl) rfl rfl (p7 Tryz.underlying175 Tryz.underlying9 aSO rfl rfl (.own (.there .here))) rfl ?_;refine uHh ?_;refine dl_callv rfl (.none rfl) rfl rfl rfl rfl (qA _ _ (by first|omega|(simp;done)|(simp;omega))) rfl ?_;refine uAv ?_;refine uAv ?_;refine uDf ?_;refine bI ?_;refine uCu ?_;refine e7 rfl rfl rfl (Hl.le_refl _) ?_
   first
    |(rw[n3 aI,hp];exact⟨_,rfl,rfl,rfl,rfl⟩)
    |(rw[n4 hno];exact⟨_,rfl,rfl,rfl,rfl⟩)
 ·
  have hno:¬(∃d,name=[d]∧48≤d.toNat∧d.toNat≤57):=(by rintro⟨d,rfl,_⟩;exact g10 rfl);refine uDn ?_;refine aG (aE ?_);refine uBf ?_;refine aE (aH ?_);refine t_draw (anc:=[0,1,3,7,0,16,63,127,0,304,1023,2047]) (ord:=[0,1,2,3,4,8,5,6,7,9,10,11]) [5,9] [] mixed (by decide+kernel) (cS _) ?_;refine uDb ?_;refine uGg ?_;refine dl_callv rfl (.none rfl) rfl rfl rfl rfl (fO _ _ (by first|omega|(simp;done)|(simp;omega))) rfl ?_;refine dl_ev rfl rfl (.none rfl) rfl rfl (p7 Tryz.underlying175 Tryz.underlying9 aSO rfl rfl (.own (.there .here))) rfl ?_;refine uHh ?_;refine dl_callv rfl (.none rfl) rfl rfl rfl rfl (qA _ _ (by first|omega|(simp;done)|(simp;omega))) rfl ?_;refine uAv ?_;refine uAv ?_;refine uDf ?_;refine bI ?_;refine uCu ?_;refine e7 rfl rfl rfl (Hl.le_refl _) ?_
  first
   |(rw[n3 aI,hp];exact⟨_,rfl,rfl,rfl,rfl⟩)
   |(rw[n4 hno];exact⟨_,rfl,rfl,rfl,rfl⟩)
def o1(vars:List (List UInt8×List UInt8))(parts:List (List UInt8)):Prop:=∀name,(held vars parts name).1.length≤100000
theorem aF7(vars:List (List UInt8×List UInt8))(parts:List (List UInt8))(f:Nat)(acc:List UInt8):iL vars parts (f+1) [] acc=acc++[]:=by simp[iL]
theorem aIR{vars:List (List UInt8×List UInt8)}{parts:List (List UInt8)}{f:Nat}{s acc:List UInt8}(h0:s≠[])(h:Lib.index s [36,123] < 0):iL vars parts (f+1) s acc=acc++s:=by
 simp only[iL];rw[if_neg h0,if_pos h]
theorem aF8{vars:List (List UInt8×List UInt8)}{parts:List (List UInt8)}{f i:Nat}{s acc:List UInt8}{e:Int}{hd:List UInt8×Bool}(h0:s≠[])(h:Lib.index s [36,123]=(i:Int))(he:Lib.indexByte (s.drop i) 125=e)(hh:held vars parts (((s.drop i).take (max e 2).toNat).drop 2)=hd):
  iL vars parts (f+1) s acc=if 0 < e∧hd.2=true then iL vars parts f ((s.drop i).drop (e.toNat+1)) (acc++s.take i++hd.1)else iL vars parts f ((s.drop i).drop 1) (acc++s.take i++[36]):=by
 simp only[iL];rw[if_neg h0,if_neg aI]
 have:(Lib.index s [36,123]).toNat=i:=by omega
 rw[this,he,hh]
theorem oM(b mb:Nat)(c0 c1 c2 c3 c4 c5 pv c9:Value)(pc:Int)(nm:Bool)(vars:List (List UInt8×List UInt8))(f:Nat→Nat)(c:Nat)(parts:List (List UInt8))(s:List UInt8)(K:Hl)(hg:Glob K)(hpv:Ksl (bT 9) K pv parts)(hs:s.length≤100000)(hsm:o1 vars parts):
  Sp Tryz.prog 255 [ptr b,str s] K [mblk b c0 c1 c2 c3 c4 c5 (.bool nm) (.map (some mb)) pv c9 pc,pt mb (mapO (iE vars f) c)]
   (Ret fun v K' L'=>v=str (dF nm vars parts s)∧K'=K∧L'=[mblk b c0 c1 c2 c3 c4 c5 (.bool nm) (.map (some mb)) pv c9 pc,pt mb (mapO (iE vars f) c)]):=by
 refine aZ Tryz.func255 rfl Tryz.ntmps255 rfl rfl fun F w=>?_
 refine aH (aB ?_);refine uAb ?_;refine aG (aE ?_);refine aH (aH ?_);refine uBv ?_;refine aA (aD (o':=6) aCX rfl rfl) rfl ?_;refine uGc ?_;refine aA (by first|exact dP rfl|exact dO rfl) rfl ?_;refine aG (aE ?_);refine eJ 15 rfl (fun h15=>?_) (fun h15=>?_)
 ·
  refine aH (aB ?_);refine uEj ?_;refine aG (aE ?_);refine uCk ?_;refine uCu ?_;refine bF rfl rfl (Hl.le_refl _) ?_;have hnm:nm=false:=by simpa using h15
  unfold dF;rw[if_neg (by simp[hnm])];exact⟨_,rfl,rfl,rfl,rfl⟩
 ·
  refine aW ?_;refine aE (aH ?_);refine aB ?_;refine ol_s (cN aSR) rfl ?_;rintro _ K _ ⟨b5,rfl,rfl,rfl⟩ -;refine aG (aE ?_);refine aH (bE ?_);refine kJ (fA (vT b5)) ?_;refine qE (fun(s2 acc:List UInt8)=>s2.length≤s.length∧acc.length+100001*s2.length≤100001*s.length∧∃f2,s2.length≤f2∧iL vars parts (s.length+1) s []=iL vars parts (f2+1) s2 acc) (fun s2 _=>[(0,ptr b),(1,str s2),(5,ptr b5)]) (fun _ _=>K) (fun _ acc=>[bldr b5 acc,mblk b c0 c1 c2 c3 c4 c5 (.bool nm) (.map (some mb)) pv c9 pc,pt mb (mapO (iE vars f) c)]) (fun s2 _=>s2.length) s [] ⟨Nat.le_refl _,by simp,s.length,Nat.le_refl _,rfl⟩ (.cons 0 rfl (.cons 1 rfl (.cons 5 rfl .nil))) rfl (fun _ h=>h) ?_;intro s2 acc ⟨hi1,hi2,f2,hi3,hx⟩;refine aH (aH ?_);refine uAf ?_;refine aA (o2 rfl rfl) rfl ?_;refine aG (aE ?_);refine bK 18 rfl (fun h18=>?_) (fun h18=>?_)
  ·
   have hne:s2≠[]:=h18;have hib:=q9 s2 [36,123];refine aW ?_;refine aE (bE ?_);refine aH (aB ?_);refine uAa ?_;refine cA rfl rfl (zP s2 [36,123] _ hg aI) rfl ?_;refine uAb ?_;refine aG (aE ?_);refine aH (aH ?_);refine uAf ?_;refine uBn ?_;refine aG (aE ?_);refine bK 22 rfl (fun h22=>?_) (fun h22=>?_)
   ·
    have hout:iL vars parts (s.length+1) s []=acc++s2:=(by rw[hx];exact aIR hne h22);refine uFp ?_;refine bG ?_;refine aE (aH ?_);refine aB ?_;refine bC rfl rfl (nE b5 acc aI _) (.cons .here .nil) rfl ?_;rintro _ K _ ⟨rfl,rfl,rfl⟩ -;have hla:(acc++s2).length=acc.length+s2.length:=List.length_append;refine uAa ?_;refine aA (fL rfl rfl (by first|(simp;omega)|omega)) rfl ?_;refine uAb ?_;refine aG (aE ?_);refine aH (aB ?_);refine uAx ?_;refine uBs ?_;refine aA (lY rfl rfl) rfl ?_;refine aA (eS (n:=min (acc++s2).length 1024) Tryz.underlying9 rfl rfl (by split <;> omega) aI) rfl ?_;refine uAb ?_;refine aG (aE ?_);refine bI ?_;refine uCu ?_;refine bF rfl rfl (Hl.le_refl _) ?_;have hnm:nm=true:=by simpa using h15
    have ht:(acc++s2).take (min (acc++s2).length 1024)=(acc++s2).take 1024:=(by rcases Nat.le_total (acc++s2).length 1024 with h|h;(rw[Nat.min_eq_left h,List.take_length,List.take_of_length_le h]);(rw[Nat.min_eq_right h]));unfold dF;rw[if_pos hnm,hout,ht];exact⟨_,rfl,rfl,rfl,rfl⟩
   ·
    obtain⟨i,hii⟩:∃i:Nat,Lib.index s2 [36,123]=(i:Int):=⟨(Lib.index s2 [36,123]).toNat,by omega⟩;have hi5:i+2≤s2.length:=(by simp only[List.length_cons,List.length_nil]at hib;omega);refine aW ?_;refine aE (aH ?_);refine uCf ?_;refine aA (eS (n:=i) Tryz.underlying9 rfl rfl hii aI) rfl ?_;refine bC rfl rfl (mI b5 (s2.take i) acc (by have:(s2.take i).length≤s2.length:=List.length_take_le' _ _;omega) _) (.cons .here .nil) rfl ?_;rintro _ K _ ⟨rfl,rfl,rfl⟩ -;refine aG (aE ?_);refine aH (aB ?_);refine uAx ?_;refine aA (iG (m:=i) Tryz.underlying9 rfl rfl hii aI) rfl ?_;refine uAb ?_;refine aG (aE ?_);refine aH (aB ?_);refine uAa ?_;refine cA rfl rfl (zO (s2.drop i) 125 _) rfl ?_;have hib2:=aEB (s2.drop i) 125;obtain⟨e,hee⟩:∃e,Lib.indexByte (s2.drop i) 125=e:=⟨_,rfl⟩;rw[hee]at hib2 ⊢;have hdl:(s2.drop i).length=s2.length - i:=List.length_drop;have htl:(s2.take i).length=i:=List.length_take_of_le aI;refine uAb ?_;refine aG (aE ?_);refine aH (aH ?_);refine uAf ?_;refine uAx ?_;refine aA (aQC rfl rfl) rfl ?_;refine aA (lJ (m:=2) (n:=(max e 2).toNat) Tryz.underlying9 rfl rfl rfl rfl (by split <;> omega) aI aI) rfl ?_;refine bC rfl rfl (aMN b mb c0 c1 c2 c3 c4 c5 (.bool nm) pv c9 pc vars f c parts _ _ hpv (by have:=List.length_drop (l:=(s2.drop i).take (max e 2).toNat) (i:=2);have:=List.length_take_le (max e 2).toNat (s2.drop i);omega)) (.cons (.there .here) (.cons (.there .here) .nil)) rfl ?_;rintro _ K _ ⟨rfl,rfl,rfl⟩ -;obtain⟨hd,hhd⟩:∃hd,held vars parts (((s2.drop i).take (max e 2).toNat).drop 2)=hd:=⟨_,rfl⟩;have hhl:=hsm (((s2.drop i).take (max e 2).toNat).drop 2);rw[hhd]at hhl ⊢;have hey:=aF8 (acc:=acc) (f:=f2) hne hii hee hhd;refine uBy ?_;refine aG (aE ?_);refine aH (aB ?_);refine uAa ?_;refine uEr ?_;refine uAa ?_;refine cG 43 rfl (fun g43=>?_) (fun g43=>?_)
    ·
     refine uHx ?_;refine uAy ?_;refine aG (aE ?_);refine eJ 45 rfl (fun h45=>?_) (fun h45=>?_)
     ·
      have hcc:0 < e∧hd.2=true:=⟨g43,h45⟩;refine aH (aB ?_);refine uAa ?_;refine bC rfl rfl (mI b5 hd.1 (acc++s2.take i) (by rw[List.length_append];omega) _) (.cons (.there (.there .here)) .nil) rfl ?_;rintro _ K _ ⟨rfl,rfl,rfl⟩ -;refine aG (aE ?_);refine aH (aB ?_);refine uAx ?_;refine uCj ?_;refine aA (iG (m:=e.toNat+1) Tryz.underlying9 rfl rfl aI aI) rfl ?_;refine uAb ?_;refine aG (aE ?_);refine cR ?_;refine aS ?_;refine bG ?_;have hdd:((s2.drop i).drop (e.toNat+1)).length≤s2.length - 1 - i:=(by rw[List.length_drop];omega);have hd1:((s2.drop i).drop 1).length≤s2.length - 1 - i:=(by rw[List.length_drop];omega);have hf2:f2=(f2 - 1)+1:=by omega
      first
       |(refine dI ((s2.drop i).drop (e.toNat+1)) (acc++s2.take i++hd.1) ⟨by omega,by rw[List.length_append,List.length_append];omega,f2 - 1,by omega,by rw[hx,hey,if_pos hcc,←hf2]⟩ aI (.cons 0 rfl (.cons 1 rfl (.cons 5 rfl .nil))) rfl (fun _ h=>h))
       |(refine dI ((s2.drop i).drop 1) (acc++s2.take i++[36]) ⟨by omega,by rw[List.length_append,List.length_append];simp only[List.length_singleton];omega,f2 - 1,by omega,by rw[hx,hey,if_neg hcc,←hf2]⟩ aI (.cons 0 rfl (.cons 1 rfl (.cons 5 rfl .nil))) rfl (fun _ h=>h))
     ·
      have hcc:¬(0 < e∧hd.2=true):=fun h=>by rw[h45]at h;exact absurd h.2 (by decide)
      refine aW ?_;refine aE (aH ?_);refine aB ?_;refine bC rfl rfl (iU b5 36 (acc++s2.take i) (by rw[List.length_append];omega) _) (.cons (.there (.there .here)) .nil) rfl ?_;rintro _ K _ ⟨rfl,rfl,rfl⟩ -;refine aG (aE ?_);refine uAf ?_;refine aA (iG (m:=1) Tryz.underlying9 rfl rfl rfl aI) rfl ?_;refine uAb ?_;refine aG (aN ?_);have hdd:((s2.drop i).drop (e.toNat+1)).length≤s2.length - 1 - i:=(by rw[List.length_drop];omega);have hd1:((s2.drop i).drop 1).length≤s2.length - 1 - i:=(by rw[List.length_drop];omega);have hf2:f2=(f2 - 1)+1:=by omega
      first
       |(refine dI ((s2.drop i).drop (e.toNat+1)) (acc++s2.take i++hd.1) ⟨by omega,by rw[List.length_append,List.length_append];omega,f2 - 1,by omega,by rw[hx,hey,if_pos hcc,←hf2]⟩ aI (.cons 0 rfl (.cons 1 rfl (.cons 5 rfl .nil))) rfl (fun _ h=>h))
       |(refine dI ((s2.drop i).drop 1) (acc++s2.take i++[36]) ⟨by omega,by rw[List.length_append,List.length_append];simp only[List.length_singleton];omega,f2 - 1,by omega,by rw[hx,hey,if_neg hcc,←hf2]⟩ aI (.cons 0 rfl (.cons 1 rfl (.cons 5 rfl .nil))) rfl (fun _ h=>h))
    ·
     have hcc:¬(0 < e∧hd.2=true):=fun h=>g43 h.1
     refine uIt ?_;refine uAt ?_;refine aG (aE ?_);refine uBf ?_;refine aE (aH ?_);refine aB ?_;refine bC rfl rfl (iU b5 36 (acc++s2.take i) (by rw[List.length_append];omega) _) (.cons (.there (.there .here)) .nil) rfl ?_;rintro _ K _ ⟨rfl,rfl,rfl⟩ -;refine aG (aE ?_);refine uAf ?_;refine aA (iG (m:=1) Tryz.underlying9 rfl rfl rfl aI) rfl ?_;refine uAb ?_;refine aG (aN ?_);have hdd:((s2.drop i).drop (e.toNat+1)).length≤s2.length - 1 - i:=(by rw[List.length_drop];omega);have hd1:((s2.drop i).drop 1).length≤s2.length - 1 - i:=(by rw[List.length_drop];omega);have hf2:f2=(f2 - 1)+1:=by omega
     first
      |(refine dI ((s2.drop i).drop (e.toNat+1)) (acc++s2.take i++hd.1) ⟨by omega,by rw[List.length_append,List.length_append];omega,f2 - 1,by omega,by rw[hx,hey,if_pos hcc,←hf2]⟩ aI (.cons 0 rfl (.cons 1 rfl (.cons 5 rfl .nil))) rfl (fun _ h=>h))
      |(refine dI ((s2.drop i).drop 1) (acc++s2.take i++[36]) ⟨by omega,by rw[List.length_append,List.length_append];simp only[List.length_singleton];omega,f2 - 1,by omega,by rw[hx,hey,if_neg hcc,←hf2]⟩ aI (.cons 0 rfl (.cons 1 rfl (.cons 5 rfl .nil))) rfl (fun _ h=>h))
  ·
   have hout:iL vars parts (s.length+1) s []=acc++s2:=(by rw[hx,show s2=[]from Classical.not_not.1 h18];exact aF7 _ _ _ _);refine uAp ?_;refine aE (aH ?_);refine aB ?_;refine bC rfl rfl (nE b5 acc aI _) (.cons .here .nil) rfl ?_;rintro _ K _ ⟨rfl,rfl,rfl⟩ -;have hla:(acc++s2).length=acc.length+s2.length:=List.length_append;refine uAa ?_;refine aA (fL rfl rfl (by first|(simp;omega)|omega)) rfl ?_;refine uAb ?_;refine aG (aE ?_);refine aH (aB ?_);refine uAx ?_;refine uBs ?_;refine aA (lY rfl rfl) rfl ?_;refine aA (eS (n:=min (acc++s2).length 1024) Tryz.underlying9 rfl rfl (by split <;> omega) aI) rfl ?_;refine uAb ?_;refine aG (aE ?_);refine bI ?_;refine uCu ?_;refine bF rfl rfl (Hl.le_refl _) ?_;have hnm:nm=true:=by simpa using h15
   have ht:(acc++s2).take (min (acc++s2).length 1024)=(acc++s2).take 1024:=(by rcases Nat.le_total (acc++s2).length 1024 with h|h;(rw[Nat.min_eq_left h,List.take_length,List.take_of_length_le h]);(rw[Nat.min_eq_right h]));unfold dF;rw[if_pos hnm,hout,ht];exact⟨_,rfl,rfl,rfl,rfl⟩
end Go.Proofs
end
section
namespace Go.Proofs
open Go Go.SL Go.Syn Go.Mach
theorem aBL{α β:Type}(g:α→β){l:List α}{i:Nat}{x:α}(h:l[i]?=some x):(l.take (i+1)).map g=(l.take i).map g++[g x]:=by
 have hi:i < l.length:=by
  rcases Nat.lt_or_ge i l.length with h'|h'
  ·exact h'
  ·simp[List.getElem?_eq_none h']at h
 have hc:l[i]=x:=by simpa[List.getElem?_eq_getElem hi]using h
 rw[List.take_succ_eq_append_getElem hi,hc];simp
theorem aO2(b mb:Nat)(c0 c1 c2 c3 c4 c5 pv c9:Value)(pc:Int)(nm:Bool)(vars:List (List UInt8×List UInt8))(f:Nat→Nat)(c:Nat)(parts:List (List UInt8))(lv:Value)(l:List (List UInt8))(K:Hl)(hg:Glob K)(hpv:Ksl (bT 9) K pv parts)(hlv:Ksl (bT 9) K lv l)(hl:l.length≤1000000)(hs:∀s∈l,s.length≤100000)(hsm:o1 vars parts):
  Sp Tryz.prog 250 [ptr b,lv] K [mblk b c0 c1 c2 c3 c4 c5 (.bool nm) (.map (some mb)) pv c9 pc,pt mb (mapO (iE vars f) c)]
   (Ret fun v K' L'=>K'=K∧L'=[sl false (bT 9) v (l.map (dF nm vars parts)),mblk b c0 c1 c2 c3 c4 c5 (.bool nm) (.map (some mb)) pv c9 pc,pt mb (mapO (iE vars f) c)]):=by
 refine aZ Tryz.func250 rfl Tryz.ntmps250 rfl rfl fun F w=>?_
 refine aH (aB ?_);refine uAb ?_;refine aG (aE ?_);refine aH (aB ?_);refine uAb ?_;refine aG (aE ?_);refine aH (aH ?_);refine uAf ?_;refine uCh ?_;refine uAa ?_;refine aG (aE ?_);refine bE ?_;refine qE (fun(i:Nat) (v:Value)=>i≤l.length) (fun i v=>[(0,ptr b),(5,v),(8,lv),(9,i64 l.length),(10,i64 i)]) (fun _ _=>K) (fun i v=>[sl false (bT 9) v ((l.take i).map (dF nm vars parts)),mblk b c0 c1 c2 c3 c4 c5 (.bool nm) (.map (some mb)) pv c9 pc,pt mb (mapO (iE vars f) c)]) (fun i _=>l.length - i) 0 (.slice none 0 0) (Nat.zero_le _) (.cons 0 rfl (.cons 5 rfl (.cons 8 rfl (.cons 9 rfl (.cons 10 rfl .nil))))) rfl (dX (bT 9)) ?_;intro i v hi0;have hml:((l.take i).map (dF nm vars parts)).length=i:=(by rw[List.length_map,List.length_take_of_le hi0]);refine aH (aB ?_);refine uBn ?_;refine aG (aE ?_);refine aH ?_;refine bK 11 rfl (fun h11=>?_) (fun h11=>?_)
 ·
  have hilt:i < l.length:=by omega
  obtain⟨x,hx⟩:∃x,l[i]?=some x:=⟨l[i]'hilt,List.getElem?_eq_getElem hilt⟩;refine aW ?_;refine aE (aH ?_);refine bE (aH ?_);refine aB ?_;refine aA (b0 (k:=(bT 9)) cX rfl aL rfl rfl (by first|assumption|omega)) rfl ?_;refine uCm ?_;refine uAb ?_;refine aG (aE ?_);refine uAf ?_;refine uAx ?_;refine bC rfl rfl (oM b mb c0 c1 c2 c3 c4 c5 pv c9 pc nm vars f c parts x _ hg hpv (hs x (List.mem_of_getElem? hx)) hsm) (.cons (.there .here) (.cons (.there .here) .nil)) rfl ?_;rintro _ K _ ⟨rfl,rfl,rfl⟩ -;refine ol_s (bN (z0:=[(str [])]) cX tz9 rfl rfl rfl rfl (.cons rfl rfl rfl (.cons .nil) .nil)) rfl ?_;rintro _ K _ ⟨b18,rfl,rfl,rfl⟩ -;refine ol_s (dM (k:=(bT 9)) (ys:=[dF nm vars parts x]) iC rfl rfl (.there (.there (.there .here))) (fun w j=>dB Tryz.underlying39 (SeesSl.at (.blk (.own .here) rfl rfl) j)) (by rw[hml];simp;omega) (by rw[hml];simp;omega)) rfl ?_;rintro v19 K _ ⟨rfl,rfl,ho19⟩ -;refine uAb ?_;refine aG (aN ?_);refine aE (aB ?_);refine uAo ?_;refine uEa ?_;refine dI (i+1) _ aI aI (.cons 0 rfl (.cons 5 rfl (.cons 8 rfl (.cons 9 rfl (.cons 10 rfl .nil))))) rfl (by rw[aBL _ hx];exact fun _ h=>h)
 ·
  have hfin:(l.take i).map (dF nm vars parts)=l.map (dF nm vars parts):=(by rw[List.take_of_length_le aI]);refine uAp ?_;refine aE (aH ?_);refine uFz ?_;refine aG (aE ?_);refine bI ?_;refine uDz ?_;refine bF rfl rfl (Hl.le_refl _) ?_;rw[hfin];exact⟨_,rfl,rfl,rfl⟩
theorem aNR(s:List UInt8)(K:Hl):Sp Tryz.prog 303 [str s] K [] (Val (str s) K):=by
 refine aZ Tryz.func303 rfl Tryz.ntmps303 rfl rfl fun F w=>?_
 refine aH (aB ?_);refine uAb ?_;refine aG (aE ?_);refine aH (aB ?_);refine uEj ?_;refine aG (aE ?_);refine bI ?_;refine bF rfl rfl (Hl.le_refl _) ?_;exact⟨rfl,rfl,rfl⟩
abbrev zK(oct:Bool):FuncId:=if oct=true then 303 else 185
theorem aD6(oct:Bool)(K:Hl):Sp Tryz.prog 249 [.bool oct] K [] (Val (.func (.func (zK oct)) #[] #[]) K):=by
 refine aZ Tryz.func249 rfl Tryz.ntmps249 rfl rfl fun F w=>?_
 refine aH (aB ?_);refine uAb ?_;refine aG (aE ?_);refine aH (aH ?_);refine uAf ?_;refine aG (aE ?_);refine eJ 3 rfl (fun h3=>?_) (fun h3=>?_)
 ·
  refine aH (aB ?_);refine uAb ?_;refine aG (aE ?_);refine uCk ?_;refine bF rfl rfl (Hl.le_refl _) ?_;subst h3;exact⟨rfl,rfl,rfl⟩
 ·
  refine aW ?_;refine aE (aH ?_);refine uFr ?_;refine aG (aE ?_);refine bI ?_;refine bF rfl rfl (Hl.le_refl _) ?_;subst h3;exact⟨rfl,rfl,rfl⟩
theorem lZ(oct:Bool)(s:List UInt8)(K:Hl)(hs:s.length≤100000000):Sp Tryz.prog (zK oct) [str s] K [] (Val (str (eG oct s)) K):=by
 cases oct
 ·exact fO s K aI
 ·exact aNR s K
theorem uQ(s sub:List UInt8)(K:Hl)(hg:Glob K)(hs:s.length < 4294967281):Sp Tryz.prog 305 [str s,str sub] K [] (Val (.bool (decide (0≤Lib.index s sub))) K):=by
 refine kR ⟨_,Tryz.func305,rfl,rfl⟩ fun w hw=>?_
 obtain⟨m,T,fz,hm⟩:=hg.maxLen;exact Tryz.strings_Contains ⟨s.toArray⟩ ⟨sub.toArray⟩ m w (by simpa[ByteArray.size]using hs) (mM (hw _ _ hm) rfl)
theorem zW(v k:List UInt8)(oct:Bool)(K:Hl)(hg:Glob K)(hv:v.length≤100000000)(hk:k.length≤100000000):Sp Tryz.prog 252 [str v,str k,.func (.func (zK oct)) #[] #[]] K [] (Val (.bool (decide (0≤Lib.index (eG oct v) (eG oct k)))) K):=by
 have hfl:∀s:List UInt8,(eG oct s).length=s.length:=by intro s;unfold eG;split <;> simp[dH]
 refine aZ Tryz.func252 rfl Tryz.ntmps252 rfl rfl fun F w=>?_
 refine aH (aB ?_);refine uAb ?_;refine aG (aE ?_);refine aH (aB ?_);refine uAx ?_;refine cA rfl rfl (lZ oct v _ hv) rfl ?_;refine uAx ?_;refine cA rfl rfl (lZ oct k _ hk) rfl ?_;refine cA rfl rfl (uQ _ _ _ hg (by rw[hfl];omega)) rfl ?_;refine uAb ?_;refine aG (aE ?_);refine bI ?_;refine bF rfl rfl (Hl.le_refl _) ?_;exact⟨rfl,rfl,rfl⟩
theorem aEH(c:UInt8)(K:Hl):Sp Tryz.prog 222 [.int .u8 c.toNat] K [] (Val (.bool (f3 c)) K):=by
 refine aZ Tryz.func222 rfl Tryz.ntmps222 rfl rfl fun F w=>?_
 refine aH (aB ?_);refine uAb ?_;refine aG (aE ?_);refine aH (aB ?_);refine uAa ?_;refine aA (aD0 c 32 rfl rfl) rfl ?_;refine uEl ?_;refine uAa ?_;refine cG 6 rfl (fun g6=>?_) (fun g6=>?_)
 ·
  refine uAi ?_;refine aA (aD0 c 32 rfl rfl) rfl ?_;refine uAz ?_;refine uEs ?_;refine uFo ?_;refine cG 11 rfl (fun g11=>?_) (fun g11=>?_)
  ·
   refine uAc ?_;refine uDm ?_;refine uIt ?_;refine uFo ?_;refine uBj ?_;refine uDv ?_;refine aG (aE ?_);refine bI ?_;refine bF rfl rfl (Hl.le_refl _) ?_;refine retB ?_ _
   unfold f3
   generalize (c|||32).toNat=x at*
   generalize c.toNat=y at*
   rw[Bool.eq_iff_iff];simp;omega
  ·
   refine uAi ?_;refine uEl ?_;refine uHx ?_;refine cG 14 rfl (fun g14=>?_) (fun g14=>?_)
   ·
    refine uAi ?_;refine uEs ?_;refine uAz ?_;refine uAy ?_;refine uAt ?_;refine uAa ?_;refine cG 19 rfl (fun g19=>?_) (fun g19=>?_)
    ·
     refine uBj ?_;refine uDv ?_;refine aG (aE ?_);refine bI ?_;refine bF rfl rfl (Hl.le_refl _) ?_;refine retB ?_ _
     unfold f3
     generalize (c|||32).toNat=x at*
     generalize c.toNat=y at*
     rw[Bool.eq_iff_iff];simp;omega
    ·
     refine uAi ?_;refine uHe ?_;refine uAb ?_;refine aG (aE ?_);refine bI ?_;refine bF rfl rfl (Hl.le_refl _) ?_;refine retB ?_ _
     unfold f3
     generalize (c|||32).toNat=x at*
     generalize c.toNat=y at*
     rw[Bool.eq_iff_iff];simp;omega
   ·
    refine uBj ?_;refine uAz ?_;refine uAt ?_;refine uAt ?_;refine uDg ?_;refine uHe ?_;refine uAb ?_;refine aG (aE ?_);refine bI ?_;refine bF rfl rfl (Hl.le_refl _) ?_;refine retB ?_ _
    unfold f3
    generalize (c|||32).toNat=x at*
    generalize c.toNat=y at*
    rw[Bool.eq_iff_iff];simp;omega
 ·
  refine uFa ?_;refine uDg ?_;refine uEl ?_;refine uHx ?_;refine cG 14 rfl (fun g14=>?_) (fun g14=>?_)
  ·
   refine uAi ?_;refine uEs ?_;refine uAz ?_;refine uAy ?_;refine uAt ?_;refine uAa ?_;refine cG 19 rfl (fun g19=>?_) (fun g19=>?_)
   ·
    refine uBj ?_;refine uDv ?_;refine aG (aE ?_);refine bI ?_;refine bF rfl rfl (Hl.le_refl _) ?_;refine retB ?_ _
    unfold f3
    generalize (c|||32).toNat=x at*
    generalize c.toNat=y at*
    rw[Bool.eq_iff_iff];simp;omega
   ·
    refine uAi ?_;refine uHe ?_;refine uAb ?_;refine aG (aE ?_);refine bI ?_;refine bF rfl rfl (Hl.le_refl _) ?_;refine retB ?_ _
    unfold f3
    generalize (c|||32).toNat=x at*
    generalize c.toNat=y at*
    rw[Bool.eq_iff_iff];simp;omega
  ·
   refine uBj ?_;refine uAz ?_;refine uAt ?_;refine uAt ?_;refine uDg ?_;refine uHe ?_;refine uAb ?_;refine aG (aE ?_);refine bI ?_;refine bF rfl rfl (Hl.le_refl _) ?_;refine retB ?_ _
   unfold f3
   generalize (c|||32).toNat=x at*
   generalize c.toNat=y at*
   rw[Bool.eq_iff_iff];simp;omega
theorem gZ(s:List UInt8):boxed s=true↔(∀i c,s[i]?=some c→g0 i c=true)∧s≠[]∧s.length≤16:=by
 unfold boxed;simp only[Bool.and_eq_true,List.all_eq_true,List.mem_range,decide_eq_true_eq]
 constructor
 ·rintro⟨⟨h1,h2⟩,h3⟩;refine⟨fun i c hc=>?_,h2,h3⟩
  have hi:i < s.length:=by
   rcases Nat.lt_or_ge i s.length with h'|h'
   ·exact h'
   ·simp[List.getElem?_eq_none h']at hc
  have:=h1 i hi;rw[hc]at this;exact this
 ·rintro⟨h1,h2,h3⟩;refine⟨⟨fun i hi=>?_,h2⟩,h3⟩
  rw[List.getElem?_eq_getElem hi];exact h1 i _ (List.getElem?_eq_getElem hi)
theorem pX(s:List UInt8)(K:Hl)(hs:s.length≤140737488355328):Sp Tryz.prog 128 [str s] K [] (Val (.bool (boxed s)) K):=by
  refine aZ Tryz.func128 rfl Tryz.ntmps128 rfl rfl fun F w=>?_
  refine aH (aB ?_);refine uAb ?_;refine aG (aE ?_);refine aH (aH ?_);refine uAf ?_;refine uDk ?_;rintro v6 K _ ⟨rfl,rfl⟩ -;refine uDx ?_;refine aG (aE ?_);refine bE ?_;refine eR (fun(i:Nat)=>i≤s.length∧∀j c,j < i→s[j]?=some c→g0 j c=true) (fun i=>[(0,str s),(6,v6),(7,i64 s.length),(8,i64 i)]) (fun _=>_) (fun i=>[sl false (elB 5) v6 s]) (fun i=>s.length - i) 0 ⟨Nat.zero_le _,fun j c h _=>by omega⟩ (.cons 0 rfl (.cons 6 rfl (.cons 7 rfl (.cons 8 rfl .nil)))) rfl (fun _ h=>h) ?_;intro i ⟨hi0,hi1⟩;refine aH (aB ?_);refine uBn ?_;refine aG (aE ?_);refine aH ?_;refine bK 9 rfl (fun h9=>?_) (fun h9=>?_)
  ·
    have hilt:i < s.length:=by omega
    obtain⟨c,hc⟩:∃c,s[i]?=some c:=⟨s[i]'hilt,List.getElem?_eq_getElem hilt⟩;refine aW ?_;refine aE (aH ?_);refine bE (aH ?_);refine uAf ?_;refine aA (b0 (k:=(elB 5)) lD rfl aL rfl rfl (by first|assumption|omega)) rfl ?_;refine uFx ?_;refine uAw ?_;refine aG (aE ?_);refine aH (aB ?_);refine uAa ?_;refine cA rfl rfl (aEH c _) rfl ?_;refine aA (by first|exact dP rfl|exact dO rfl) rfl ?_;refine uAa ?_;refine mW 16 rfl (fun g16=>?_) (fun g16=>?_)
    ·
      refine uAi ?_;refine uDu ?_;refine uFo ?_;refine cG 20 rfl (fun g20=>?_) (fun g20=>?_)
      ·
        refine uAi ?_;refine uDu ?_;refine uHx ?_;refine cG 23 rfl (fun g23=>?_) (fun g23=>?_)
        ·
          refine uBj ?_;refine uAz ?_;refine uAy ?_;refine uAy ?_;refine aG (aE ?_);refine uGe ?_;refine aH (aB ?_);refine uAb ?_;refine aG (aE ?_);refine uEk ?_;refine aO .nil ?_;refine bF rfl rfl (Hl.le_refl _) ?_;refine retB ?_ _
          first
            | (rw [Bool.eq_iff_iff, gZ]
               simp only[decide_eq_true_eq];exact⟨fun h=>⟨hall,by assumption,by omega⟩,fun h=>by omega⟩)
            |(symm;rw[Bool.eq_false_iff];intro hbx;exact absurd ((gZ s).1 hbx).2.1 bU)
            | (symm; rw [Bool.eq_false_iff]; intro hbx
               have:=((gZ s).1 hbx).1 i c hc;unfold g0 at this;simp only[Bool.or_eq_true,Bool.and_eq_true,decide_eq_true_eq]at this;have hl:f3 c=false:=by simpa using g16
               rw[hl]at this;simp at this;omega)
        ·
          refine uAi ?_;refine uAq ?_;refine uAz ?_;refine uAt ?_;refine uAy ?_;refine aG (aE ?_);refine bK 27 rfl (fun h27=>?_) (fun h27=>?_)
          ·
            refine aH (aB ?_);refine uAb ?_;refine aG (aE ?_);refine uEk ?_;refine aO .nil ?_;refine bF rfl rfl (Hl.le_refl _) ?_;refine retB ?_ _
            first
              | (rw [Bool.eq_iff_iff, gZ]
                 simp only[decide_eq_true_eq];exact⟨fun h=>⟨hall,by assumption,by omega⟩,fun h=>by omega⟩)
              |(symm;rw[Bool.eq_false_iff];intro hbx;exact absurd ((gZ s).1 hbx).2.1 bU)
              | (symm; rw [Bool.eq_false_iff]; intro hbx
                 have:=((gZ s).1 hbx).1 i c hc;unfold g0 at this;simp only[Bool.or_eq_true,Bool.and_eq_true,decide_eq_true_eq]at this;have hl:f3 c=false:=by simpa using g16
                 rw[hl]at this;simp at this;omega)
          ·
            refine aW ?_;refine aN (aE ?_);refine uDj ?_;have hb:g0 i c=true:=(by unfold g0;simp only[Bool.or_eq_true,Bool.and_eq_true,decide_eq_true_eq];first|(left;left;simpa using g16;done)|(left;right;omega)|(right;omega));refine cQ (i+1) ⟨by omega,fun j c2 hj hc2=>?_⟩ aI (.cons 0 rfl (.cons 6 rfl (.cons 7 rfl (.cons 8 rfl .nil)))) rfl (fun _ h=>h)
            rcases Nat.lt_or_ge j i with h|h
            · exact hi1 j c2 h hc2
            · have e:j=i:=by omega
              subst e;rw[hc]at hc2;cases hc2;exact hb
      ·
        refine uAc ?_;refine uDm ?_;refine uIt ?_;refine uAt ?_;refine aG (aE ?_);refine uBf ?_;refine aN (aE ?_);refine uDj ?_;have hb:g0 i c=true:=(by unfold g0;simp only[Bool.or_eq_true,Bool.and_eq_true,decide_eq_true_eq];first|(left;left;simpa using g16;done)|(left;right;omega)|(right;omega));refine cQ (i+1) ⟨by omega,fun j c2 hj hc2=>?_⟩ aI (.cons 0 rfl (.cons 6 rfl (.cons 7 rfl (.cons 8 rfl .nil)))) rfl (fun _ h=>h)
        rcases Nat.lt_or_ge j i with h|h
        · exact hi1 j c2 h hc2
        · have e:j=i:=by omega
          subst e;rw[hc]at hc2;cases hc2;exact hb
    ·
      refine uGo ?_;refine uAa ?_;refine uAc ?_;refine uDm ?_;refine uIt ?_;refine uAt ?_;refine aG (aE ?_);refine uBf ?_;refine aN (aE ?_);refine uDj ?_;have hb:g0 i c=true:=(by unfold g0;simp only[Bool.or_eq_true,Bool.and_eq_true,decide_eq_true_eq];first|(left;left;simpa using g16;done)|(left;right;omega)|(right;omega));refine cQ (i+1) ⟨by omega,fun j c2 hj hc2=>?_⟩ aI (.cons 0 rfl (.cons 6 rfl (.cons 7 rfl (.cons 8 rfl .nil)))) rfl (fun _ h=>h)
      rcases Nat.lt_or_ge j i with h|h
      · exact hi1 j c2 h hc2
      · have e:j=i:=by omega
        subst e;rw[hc]at hc2;cases hc2;exact hb
  ·
    have hall:∀j c,s[j]?=some c→g0 j c=true:=fun j c hc=>hi1 j c (by rcases Nat.lt_or_ge j s.length with h|h;omega;(rw[List.getElem?_eq_none h]at hc;cases hc)) hc
    refine uAp ?_;refine aE (aH ?_);refine uAf ?_;refine aA (o2 rfl rfl) rfl ?_;refine uAa ?_;refine cG 31 rfl (fun g31=>?_) (fun g31=>?_)
    ·
      refine uAi ?_;refine uBs ?_;refine uAz ?_;refine uEs ?_;refine uDv ?_;refine aG (aE ?_);refine uCx ?_;refine bF rfl rfl (Hl.le_refl _) ?_;refine retB ?_ _
      first
        | (rw [Bool.eq_iff_iff, gZ]
           simp only[decide_eq_true_eq];exact⟨fun h=>⟨hall,by assumption,by omega⟩,fun h=>by omega⟩)
        |(symm;rw[Bool.eq_false_iff];intro hbx;exact absurd ((gZ s).1 hbx).2.1 bU)
        | (symm; rw [Bool.eq_false_iff]; intro hbx
           have:=((gZ s).1 hbx).1 i c hc;unfold g0 at this;simp only[Bool.or_eq_true,Bool.and_eq_true,decide_eq_true_eq]at this;have hl:f3 c=false:=by simpa using g16
           rw[hl]at this;simp at this;omega)
    ·
      refine uFa ?_;refine uAb ?_;refine aG (aE ?_);refine uCx ?_;refine bF rfl rfl (Hl.le_refl _) ?_;refine retB ?_ _
      first
        | (rw [Bool.eq_iff_iff, gZ]
           simp only[decide_eq_true_eq];exact⟨fun h=>⟨hall,by assumption,by omega⟩,fun h=>by omega⟩)
        |(symm;rw[Bool.eq_false_iff];intro hbx;exact absurd ((gZ s).1 hbx).2.1 bU)
        | (symm; rw [Bool.eq_false_iff]; intro hbx
           have:=((gZ s).1 hbx).1 i c hc;unfold g0 at this;simp only[Bool.or_eq_true,Bool.and_eq_true,decide_eq_true_eq]at this;have hl:f3 c=false:=by simpa using g16
           rw[hl]at this;simp at this;omega)
end Go.Proofs
end
section
namespace Go.Proofs
open Go Go.SL Go.Syn Go.Mach
def cY:El Action:={e:=34,sz:=2,enc:=fun a=>[i64 a.1,str a.2],len:=fun _=>rfl,one:=fun _ u h=>by simp at h;rcases h with rfl|rfl <;> rfl}
def mch(b mb:Nat)(m:Msg)(hv pv:Value)(nm:Bool)(s:MS):Asn:=fun h=>∃av sv f c,Sat [mblk b (str m.from_) (str m.to_) (i64 m.size) hv av (.bool s.keep) (.bool nm) (.map (some mb)) pv sv s.pc,sl true cY av s.acts,sl false gA sv s.stack,pt mb (mapO (iE s.vars f) c)] h
section
variable{E:Env}{c0:Code}{x0:Exit}{fr:Fr}{K:Hl}{L:List Asn}{Q:Post}{b mb:Nat}{m:Msg}{hv pv:Value}{nm:Bool}{s:MS}
theorem aER{h:Hl}:Sat (mch b mb m hv pv nm s::L) h↔∃av sv f c,Sat ([mblk b (str m.from_) (str m.to_) (i64 m.size) hv av (.bool s.keep) (.bool nm) (.map (some mb)) pv sv s.pc,sl true cY av s.acts,sl false gA sv s.stack,pt mb (mapO (iE s.vars f) c)]++L) h:=by
 constructor
 ·rintro⟨a,l,⟨av,sv,f,c,hs⟩,hl,hd,rfl⟩;exact⟨av,sv,f,c,eX.2 ⟨a,l,hs,hl,hd,rfl⟩⟩
 ·rintro⟨av,sv,f,c,hs⟩;obtain⟨a,l,ha,hl,hd,rfl⟩:=eX.1 hs;exact⟨a,l,⟨av,sv,f,c,ha⟩,hl,hd,rfl⟩
theorem qQ(h:∀av sv f c,T E c0 fr K ([mblk b (str m.from_) (str m.to_) (i64 m.size) hv av (.bool s.keep) (.bool nm) (.map (some mb)) pv sv s.pc,sl true cY av s.acts,sl false gA sv s.stack,pt mb (mapO (iE s.vars f) c)]++L) Q):T E c0 fr K (mch b mb m hv pv nm s::L) Q:=fun a w f i=>by
 obtain⟨x,hs,r⟩:=i.rep;obtain⟨av,sv,f1,c,hs⟩:=aER.1 hs;exact h av sv f1 c a w f ⟨i.os,i.tape,i.output,i.size,x,hs,r⟩
theorem dR{av sv:Value}{f:Nat→Nat}{c:Nat}:∀h,Sat (mblk b (str m.from_) (str m.to_) (i64 m.size) hv av (.bool s.keep) (.bool nm) (.map (some mb)) pv sv s.pc::sl true cY av s.acts::sl false gA sv s.stack::pt mb (mapO (iE s.vars f) c)::L) h→Sat (mch b mb m hv pv nm s::L) h:=fun h hs=>aER.2 ⟨av,sv,f,c,hs⟩
end
def MI(b mb:Nat)(m:Msg)(hv:Value)(nm:Bool)(r:Res MS):Ending→Hl→List Asn→Prop:=fT r fun s' v K' L'=>v=.tuple #[]∧∃pv',Ksl (bT 9) K' pv' s'.parts∧L'=[mch b mb m hv pv' nm s']
theorem aAQ{P:Program}{f:FuncId}{args:List Value}{K:Hl}{L:List Asn}{R R':Ending→Hl→List Asn→Prop}(h:Sp P f args K L R)(k:∀e K' L',R e K' L'→∃S M,L'=S++M∧R' e K' S):Sp P f args K L R':=
 ⟨h.1,fun F w i=>(h.2 F w i).mono fun e w' ⟨K',L',r,le,j⟩=>let ⟨S,M,e1,r'⟩:=k _ _ _ r;⟨K',S,r',le,by subst e1;exact j.left⟩⟩
theorem n7(p:Prop)[Decidable p](b:Nat)(c0 c1 c2 c3 c4 c5 c6 c7 c8 c9:Value)(pc:Int)(K:Hl):Sp Tryz.prog 92 [ptr b,.bool (decide p)] K [mblk b c0 c1 c2 c3 c4 c5 c6 c7 c8 c9 pc]
  (fT (if p then .ok ()else .error (12,pc)) fun _ v K' L'=>v=.tuple #[]∧K'=K∧L'=[mblk b c0 c1 c2 c3 c4 c5 c6 c7 c8 c9 pc]):=by
 refine aAQ (wH p b c0 c1 c2 c3 c4 c5 c6 c7 c8 c9 pc K) fun e K' L' h=>?_
 rcases h with ⟨hp,v,rfl,rfl,rfl,rfl⟩|⟨hp,fb,rfl,rfl,rfl⟩
 ·rw[if_pos hp];exact⟨_,[],(List.append_nil _).symm,_,rfl,rfl,rfl,rfl⟩
 ·rw[if_neg hp];exact⟨[_],_,rfl,fb,rfl,rfl⟩
theorem oQ(b:Nat)(c0 c1 c2 c3 c4 c5 c6 c7 c8 c9:Value)(pc:Int)(K:Hl):Sp Tryz.prog 92 [ptr b,.bool false] K [mblk b c0 c1 c2 c3 c4 c5 c6 c7 c8 c9 pc] (Flt 12 pc):=by
 refine aAQ (z7 b c0 c1 c2 c3 c4 c5 c6 c7 c8 c9 pc K) fun e K' L' h=>?_
 obtain⟨fb,rfl,rfl,rfl⟩:=h;exact⟨[_],_,rfl,fb,rfl,rfl⟩
theorem iQ(x:Value)(e at_:Int)(K:Hl):Sp Tryz.prog 90 [x,i64 e,i64 at_] K [] (Flt e at_):=by
 refine aAQ (aCQ x e at_ K) fun en K' L' h=>?_
 obtain⟨fb,rfl,rfl,rfl⟩:=h;exact⟨[_],[],rfl,fb,rfl,rfl⟩
theorem nO(n:Int)(h0: -9223372036854775808≤n)(h1:n≤9223372036854775807)(K:Hl)(hg:Glob K):Sp Tryz.prog 129 [i64 n] K [] (Val (str (Lib.itoa n)) K):=by
 refine kY ⟨_,Tryz.func129,rfl,rfl⟩ fun w hw=>(Tryz.strconv_Itoa n h0 h1 w (hg.pow10 w hw)).mono fun e w' ⟨he,k,os,hw'⟩=>⟨he,?_⟩
 rw[hw'];exact Lib.below_grow _ _ (Nat.le_refl _) k os
theorem iX{nm:Bool}{vars:List (List UInt8×List UInt8)}{parts:List (List UInt8)}{s:List UInt8}(h:s.length≤100000):(dF nm vars parts s).length≤100000:=by
 unfold dF;split
 ·have:=List.length_take_le 1024 (iL vars parts (s.length+1) s []);omega
 ·exact h
theorem fY(l:List UInt8)(n:Nat):l.take (min l.length n)=l.take n:=by
 rcases Nat.le_total l.length n with h|h
 ·rw[Nat.min_eq_left h,List.take_length,List.take_of_length_le h]
 ·rw[Nat.min_eq_right h]
abbrev l4(o:Ins)(av bv:Value):Value:=.agg #[i64 o.op,i64 o.n,i64 o.tag,.bool o.oct,av,bv,i64 o.at_]
theorem aUD{nm:Bool}{o:Ins}{s:MS}{a b:List UInt8}(ht:0≤o.tag∧o.tag≤3)(ha:o.a[0]?=some a)(hb:o.b[0]?=some b):setI nm o s=.ok {s with vars:=vput s.vars a ((if o.tag=1 then dH (dF nm s.vars s.parts b)else if o.tag=2 then aIY (dF nm s.vars s.parts b)else if o.tag=3 then Lib.itoa (dF nm s.vars s.parts b).length else dF nm s.vars s.parts b).take 48)}:=by
 obtain⟨op,n,tag,oct,oa,ob,p⟩:=o;cases oa with
 |nil=>cases ha
 |cons x xs=>
  cases ob with
  |nil=>cases hb
  |cons y ys=>
   cases ha;cases hb
   unfold setI;rw[if_pos ht]
theorem yG{nm:Bool}{o:Ins}{s:MS}(h:¬(0≤o.tag∧o.tag≤3∧0 < o.a.length∧0 < o.b.length)):setI nm o s=.error (12,s.pc):=by
 obtain⟨op,n,tag,oct,oa,ob,p⟩:=o;unfold setI;split
 ·rename_i ht;split
  ·rename_i h1 h2;simp only at h1 h2;subst h1;subst h2;exact absurd ⟨ht.1,ht.2,by simp,by simp⟩ h
  ·rfl
 ·rfl
theorem aNY(b mb:Nat)(m:Msg)(hv pv:Value)(nm:Bool)(s:MS)(o:Ins)(av bv:Value)(n:Int)(K:Hl)(hg:Glob K)(hpv:Ksl (bT 9) K pv s.parts)(ha:Ksl (bT 9) K av o.a)(hb:Ksl (bT 9) K bv o.b)(hs:∀x∈o.b,x.length≤100000)(hsm:o1 s.vars s.parts):
  Sp Tryz.prog 154 [ptr b,l4 o av bv,i64 n] K [mch b mb m hv pv nm s] (MI b mb m hv nm (setI nm o s)):=by
 obtain⟨sa,sn,sc,rfl⟩:=ha.isSlice;obtain⟨ta,tn,tc,rfl⟩:=hb.isSlice;refine aZ Tryz.func154 rfl Tryz.ntmps154 rfl rfl fun F w=>?_
 refine qQ fun av sv f c=>?_
 refine aH (aB ?_);refine uBk ?_;rintro _ K _ ⟨b4,rfl,rfl,rfl⟩ -;refine aG (aE ?_);refine aH (aB ?_);refine uAa ?_;refine uIn ?_;refine uEl ?_;refine uAa ?_;refine cG 11 rfl (fun g11=>?_) (fun g11=>?_)
 ·
  refine uAz ?_;refine uDh ?_;refine uDr ?_;refine uEs ?_;refine uFo ?_;refine cG 16 rfl (fun g16=>?_) (fun g16=>?_)
  ·
   refine uAz ?_;refine uFe ?_;refine uHw ?_;refine uFo ?_;refine cG 22 rfl (fun g22=>?_) (fun g22=>?_)
   ·
    refine uAz ?_;refine aA (aD (o':=5) aAX rfl rfl) rfl ?_;refine uHw ?_;refine uAy ?_;refine aY rfl rfl (n7 (0 < (o.b.length:Int)) _ _ _ _ _ _ _ _ _ _ _ _ _) (.cons (.there .here) .nil) rfl (fun _ _=>a8 _ _) ?_ ?_
    ·
     rintro _ _ _ hTr le1;obtain⟨e,p,hu,fb,h,rfl⟩:=bA hTr;cases h
     refine uAr ?_;have hbl:¬(0 < (o.b.length:Int)):=(by intro h;rw[if_pos h]at hu;cases hu);rw[if_neg hbl]at hu;cases hu
     have hno:=yG (nm:=nm) (s:=s) (o:=o) aI;unfold MI;rw[hno];exact⟨fb,rfl,rfl⟩
    rintro _ K _ hTr -;obtain⟨u0,hu,rfl,rfl,rfl⟩:=bB hTr;clear hTr;have hbl:0 < (o.b.length:Int):=Classical.byContradiction (fun h=>by rw[if_neg h]at hu;cases hu);obtain⟨xa,hxa⟩:∃x,o.a[0]?=some x:=⟨o.a[0]'(by omega),List.getElem?_eq_getElem aI⟩;obtain⟨xb,hxb⟩:∃x,o.b[0]?=some x:=⟨o.b[0]'(by omega),List.getElem?_eq_getElem aI⟩;have hok:=aUD (nm:=nm) (s:=s) (show 0≤o.tag∧o.tag≤3 by omega) hxa hxb;have hel:(dF nm s.vars s.parts xb).length≤100000:=iX (hs xb (List.mem_of_getElem? hxb));refine aG (aE ?_);refine aH (aB ?_);refine uAa ?_;refine aA (aD (o':=5) aAX rfl rfl) rfl ?_;refine uCo ?_;refine aA (b0 (k:=bT 9) (j:=0) cX rfl (.known hb) rfl rfl aI) rfl ?_;refine uCm ?_;refine bC rfl rfl (oM b mb _ _ _ _ _ _ pv _ _ nm s.vars f c s.parts xb _ hg hpv (hs xb (List.mem_of_getElem? hxb)) hsm) (.cons .here (.cons (.there (.there (.there .here))) .nil)) rfl ?_;rintro _ K _ ⟨rfl,rfl,rfl⟩ -;refine uAb ?_;refine aG (aE ?_);refine gS (fun(u:List UInt8)=>setI nm o s=.ok {s with vars:=vput s.vars xa (u.take 48)}) (fun u=>[(0,ptr b),(4,ptr b4),(6,str u)]) (fun _=>K) (fun _=>[mblk b (str m.from_) (str m.to_) (i64 m.size) hv av (.bool s.keep) (.bool nm) (.map (some mb)) pv sv s.pc,sl true cY av s.acts,sl false gA sv s.stack,pt mb (mapO (iE s.vars f) c),pt b4 (aU [i64 o.op,i64 o.n,i64 o.tag,.bool o.oct,.slice sa sn sc,.slice ta tn tc,i64 o.at_] 41)]) ?_ ?_
    ·
     refine aH (aB ?_);refine uIn ?_;refine aG (aE ?_);refine bE (aH ?_);refine aB ?_;refine uCe ?_;refine aG (aE ?_);refine bK 37 rfl (fun h37=>?_) (fun h37=>?_)
     ·
      refine uAf ?_;refine cA rfl rfl (fO _ _ aI) rfl ?_;refine uAb ?_;refine aG (aN ?_);refine uDy ?_;refine bZ _ ?_ (.cons 0 rfl (.cons 4 rfl (.cons 6 rfl .nil))) rfl (fun _ h=>h)
      first
       |(rw[hok,if_pos h37];done)
       |(rw[hok,if_neg h37,if_pos h41];done)
       |(rw[hok,if_neg h37,if_neg h41,if_pos h45];done)
       |(rw[hok,if_neg h37,if_neg h41,if_neg h45];done)
     ·
      refine aH (aB ?_);refine uCe ?_;refine aG (aE ?_);refine bK 41 rfl (fun h41=>?_) (fun h41=>?_)
      ·
       refine uAf ?_;refine cA rfl rfl (aIZ _ _ aI) rfl ?_;refine uAb ?_;refine aG (aN ?_);refine uDy ?_;refine bZ _ ?_ (.cons 0 rfl (.cons 4 rfl (.cons 6 rfl .nil))) rfl (fun _ h=>h)
       first
        |(rw[hok,if_pos h37];done)
        |(rw[hok,if_neg h37,if_pos h41];done)
        |(rw[hok,if_neg h37,if_neg h41,if_pos h45];done)
        |(rw[hok,if_neg h37,if_neg h41,if_neg h45];done)
      ·
       refine aH (aB ?_);refine uCe ?_;refine aG (aE ?_);refine bK 45 rfl (fun h45=>?_) (fun h45=>?_)
       ·
        refine uAf ?_;refine uBs ?_;refine cA rfl rfl (nO _ aI aI _ hg) rfl ?_;refine uAb ?_;refine aG (aN ?_);refine uDy ?_;refine bZ _ ?_ (.cons 0 rfl (.cons 4 rfl (.cons 6 rfl .nil))) rfl (fun _ h=>h)
        first
         |(rw[hok,if_pos h37];done)
         |(rw[hok,if_neg h37,if_pos h41];done)
         |(rw[hok,if_neg h37,if_neg h41,if_pos h45];done)
         |(rw[hok,if_neg h37,if_neg h41,if_neg h45];done)
       ·
        refine uGr ?_;refine uDy ?_;refine bZ _ ?_ (.cons 0 rfl (.cons 4 rfl (.cons 6 rfl .nil))) rfl (fun _ h=>h)
        first
         |(rw[hok,if_pos h37];done)
         |(rw[hok,if_neg h37,if_pos h41];done)
         |(rw[hok,if_neg h37,if_neg h41,if_pos h45];done)
         |(rw[hok,if_neg h37,if_neg h41,if_neg h45];done)
    ·
     intro u hok;refine t_draw (anc:=[0,1,3,7,0,16,48,112,0,0,512,1536,3840,7936,16383]) (ord:=[0,1,2,3,4,5,6,7,8,9,10,11,12,13,14]) [14] [14] mixed (by decide+kernel) (cS _) ?_;refine uDb ?_;refine dl_ev rfl rfl (.none rfl) rfl rfl (aD (o':=4) kK rfl rfl) rfl ?_;refine dl_ev rfl rfl (.none rfl) rfl rfl (aJ ts39 rfl aL rfl) rfl ?_;refine dl_ev rfl rfl (.none rfl) rfl rfl (b0 (k:=bT 9) (j:=0) cX rfl (.known ha) rfl rfl aI) rfl ?_;refine dl_ev rfl rfl (.none rfl) rfl rfl (dW (o:=0) (k:=(bT 9)) ts9 rfl aL bU rfl) rfl ?_;refine uGg ?_;refine uDp ?_;refine dl_ev rfl rfl (.none rfl) rfl rfl (lY rfl rfl) rfl ?_;refine dl_ev rfl rfl (.none rfl) rfl rfl (eS (n:=min u.length 48) Tryz.underlying9 rfl rfl (by split <;> omega) aI) rfl ?_;refine dl_ev rfl rfl (.none rfl) rfl rfl (cP aY5 aXP (.cons rfl rfl rfl (.cons .nil) .nil)) rfl ?_;refine kH rfl rfl (.none rfl) rfl (aK2 Tryz.underlying175 Tryz.underlying9 rfl rfl rfl aX) ?_;rintro _ K _ ⟨rfl,rfl⟩ -;refine dl_nil ?_;obtain⟨f',hf'⟩:=aOZ xa (u.take (min u.length 48)) c s.vars f;rw[hf',fY];refine aO (.cons .here (.cons .here (.cons .here (.cons .here .nil)))) ?_;refine dN (dR (m:=m) (hv:=hv) (pv:=pv) (nm:=nm) (s:={s with vars:=vput s.vars xa (u.take 48)})) ?_;refine dD rfl (Hl.le_refl _) ?_;unfold MI;rw[hok];exact⟨_,rfl,rfl,pv,hpv,rfl⟩
   ·
    have hno:=yG (nm:=nm) (s:=s) (o:=o) aI;refine uBu ?_;refine aY rfl rfl (oQ _ _ _ _ _ _ _ _ _ _ _ _ _) (.cons (.there .here) .nil) rfl (by rintro _ _ ⟨_,h,_⟩;cases h) ?_ ?_
    ·
     rintro _ _ _ ⟨fb,h,rfl⟩ le1;cases h
     refine uAr ?_;simp only[MI,hno,if_true,if_false,↓reduceIte];exact⟨fb,rfl,rfl⟩
    ·
     rintro _ _ _ ⟨_,h,_⟩;cases h
  ·
   have hno:=yG (nm:=nm) (s:=s) (o:=o) aI;refine uBu ?_;refine uAa ?_;refine uBu ?_;refine aY rfl rfl (oQ _ _ _ _ _ _ _ _ _ _ _ _ _) (.cons (.there .here) .nil) rfl (by rintro _ _ ⟨_,h,_⟩;cases h) ?_ ?_
   ·
    rintro _ _ _ ⟨fb,h,rfl⟩ le1;cases h
    refine uAr ?_;simp only[MI,hno,if_true,if_false,↓reduceIte];exact⟨fb,rfl,rfl⟩
   ·
    rintro _ _ _ ⟨_,h,_⟩;cases h
 ·
  have hno:=yG (nm:=nm) (s:=s) (o:=o) aI;refine uFa ?_;refine uAa ?_;refine uBu ?_;refine uAa ?_;refine uBu ?_;refine aY rfl rfl (oQ _ _ _ _ _ _ _ _ _ _ _ _ _) (.cons (.there .here) .nil) rfl (by rintro _ _ ⟨_,h,_⟩;cases h) ?_ ?_
  ·
   rintro _ _ _ ⟨fb,h,rfl⟩ le1;cases h
   refine uAr ?_;simp only[MI,hno,if_true,if_false,↓reduceIte];exact⟨fb,rfl,rfl⟩
  ·
   rintro _ _ _ ⟨_,h,_⟩;cases h
end Go.Proofs
end
section
namespace Go.Proofs
open Go Go.SL Go.Syn Go.Mach
theorem aJJ{P:Program}{g:FuncId}{args:List Value}{K:Hl}{L:List Asn}{R:Ending→Hl→List Asn→Prop}{b mb:Nat}{m:Msg}{hv pv:Value}{nm:Bool}{s:MS}(hb:∃fn,P.funcs[g]?=some fn∧(fn.name=="runtime.NumGoroutine")=false∧fn.body.isSome=true)
  (h:∀av sv f c,Sp P g args K ([mblk b (str m.from_) (str m.to_) (i64 m.size) hv av (.bool s.keep) (.bool nm) (.map (some mb)) pv sv s.pc,sl true cY av s.acts,sl false gA sv s.stack,pt mb (mapO (iE s.vars f) c)]++L) R):Sp P g args K (mch b mb m hv pv nm s::L) R:=
 ⟨hb, fun F w j => by
  obtain⟨x,hs,r⟩:=j.rep;obtain⟨av,sv,f,c,hs⟩:=aER.1 hs;exact(h av sv f c).2 F w ⟨j.os,j.tape,j.output,j.size,x,hs,r⟩⟩
theorem aEV{P:Program}{f:FuncId}{args:List Value}{K:Hl}{L:List Asn}{R R':Ending→Hl→List Asn→Prop}(h:Sp P f args K L R)(k:∀e K' L',R e K' L'→∃S M,(∀h,Sat L' h→Sat (S++M) h)∧R' e K' S):Sp P f args K L R':=
 ⟨h.1,fun F w i=>(h.2 F w i).mono fun e w' ⟨K',L',r,le,j⟩=>let ⟨S,M,e1,r'⟩:=k _ _ _ r;⟨K',S,r',le,(j.imp e1).left⟩⟩
theorem kQ(b mb:Nat)(m:Msg)(hv pv:Value)(nm:Bool)(s:MS)(v:Bool)(K:Hl):Sp Tryz.prog 142 [ptr b,.bool v] K [mch b mb m hv pv nm s] (fT (push s v) fun s' r K' L'=>r=.tuple #[]∧K'=K∧L'=[mch b mb m hv pv nm s']):=by
 refine aJJ ⟨_,Tryz.func142,rfl,rfl⟩ fun av sv f c=>?_
 refine wP (show Tks [_,_] _ _ from .cons .here (.cons (.there .here) .nil)).sat (aEV (vI _ (aNE b _ _ _ _ _ _ _ _ _ sv s.pc s.stack v K)) ?_)
 rintro e K' L' ⟨N,h,rfl⟩;unfold push;rcases h with ⟨hp,r,rfl,rfl,rfl,sv',rfl⟩|⟨hp,fb,rfl,rfl,rfl⟩
 ·rw[if_pos aI];refine⟨[mch b mb m hv pv nm {s with stack:=s.stack++[v]}],[],fun h hh=>?_,_,rfl,rfl,rfl,rfl⟩
  refine dR (s:={s with stack:=s.stack++[v]}) h ((show Tks [_,_,_,_] _ []from .cons .here (.cons (.there .here) (.cons .here (.cons .here .nil)))).sat h hh)
 ·rw[if_neg aI];exact⟨[_],_,fun h hh=>hh,fb,rfl,rfl⟩
theorem tQ(b mb:Nat)(m:Msg)(hv pv:Value)(nm:Bool)(s:MS)(by_:Int)(n:Nat)(yes:Bool)(K:Hl)(hp:s.pc < 1000)(hn:n < 1000):Sp Tryz.prog 146 [ptr b,i64 by_,i64 n,.bool yes] K [mch b mb m hv pv nm s] (fT (jump s by_ n yes) fun s' r K' L'=>r=.tuple #[]∧K'=K∧L'=[mch b mb m hv pv nm s']):=by
 refine aJJ ⟨_,Tryz.func146,rfl,rfl⟩ fun av sv f c=>?_
 refine wP (show Tks [_] _ _ from .cons .here .nil).sat (aEV (vI _ (aMR b _ _ _ _ _ _ _ _ _ _ s.pc by_ n yes K ⟨by omega,by omega⟩ ⟨by omega,by omega⟩)) ?_)
 rintro e K' L' ⟨N,h,rfl⟩;unfold jump;rcases h with ⟨hq,r,rfl,rfl,rfl,rfl⟩|⟨hq,fb,rfl,rfl,rfl⟩
 ·rw[if_pos hq];refine⟨[mch b mb m hv pv nm (if yes=true then {s with pc:=s.pc+by_.toNat}else s)],[],fun h hh=>?_,_,rfl,rfl,rfl,rfl⟩
  cases yes
  ·exact dR h hh
  ·refine dR (av:=av) (sv:=sv) (f:=f) (c:=c) (s:={s with pc:=s.pc+by_.toNat}) h ?_;have e:((s.pc+by_.toNat:Nat):Int)=(s.pc:Int)+by_:=by omega
   show Sat (mblk b _ _ _ _ _ _ _ _ _ _ ((s.pc+by_.toNat:Nat):Int)::_) h
   rw[e];exact hh
 ·rw[if_neg hq];exact⟨[_],_,fun h hh=>hh,fb,rfl,rfl⟩
theorem aHG{α:Type}{z:Bool}{k:El α}{v:Value}{xs:List α}:∀h,sl z k v xs h→∃a n c,v=.slice a n c:=by
 rintro h (⟨rfl,_⟩|⟨b,cap,junk,fz,rfl,_⟩) <;> exact⟨_,_,_,rfl⟩
theorem wI(b mb:Nat)(m:Msg)(hv pv:Value)(nm:Bool)(s:MS)(K:Hl)(hl:s.stack.length≤100):Sp Tryz.prog 144 [ptr b] K [mch b mb m hv pv nm s] (fT (pop s) fun r v K' L'=>v=.bool r.1∧K'=K∧L'=[mch b mb m hv pv nm r.2]):=by
 refine aZ Tryz.func144 rfl Tryz.ntmps144 rfl rfl fun F w=>?_
 refine qQ fun av sv f c=>?_
 refine aAS (p:=∃a n c,sv=.slice a n c) (fun h hs=>?_) ?_
 ·obtain⟨_,l,_,hl,_,_⟩:=hs;obtain⟨_,l2,_,hl2,_,_⟩:=hl;obtain⟨x,_,hx,_,_,_⟩:=hl2;exact aHG x hx
 rintro⟨sa,sn,sc,rfl⟩;refine aH (aB ?_);refine uAb ?_;refine aG (aE ?_);refine aH (aB ?_);refine uAx ?_;refine uEw ?_;refine uIh ?_;refine aA (cB (k:=gA) rfl Tryz.underlying176 rfl aL) rfl ?_;refine uEr ?_;refine aY rfl rfl (n7 (0 < (s.stack.length:Int)) _ _ _ _ _ _ _ _ _ _ _ _ _) (.cons .here .nil) rfl (fun _ _=>a8 _ _) ?_ ?_
 ·
  rintro _ _ _ hTr le1;obtain⟨e,p,hu,fb,h,rfl⟩:=bA hTr;cases h
  refine uAr ?_;have hbl:¬(0 < (s.stack.length:Int)):=(by intro h;rw[if_pos h]at hu;cases hu);rw[if_neg hbl]at hu;cases hu
  have hg:s.stack.getLast?=none:=(by rw[List.getLast?_eq_none_iff];exact List.eq_nil_of_length_eq_zero aI);unfold pop;rw[hg];exact⟨fb,rfl,rfl⟩
 rintro _ K _ hTr -;obtain⟨u0,hu,rfl,rfl,rfl⟩:=bB hTr;clear hTr;have hbl:0 < (s.stack.length:Int):=Classical.byContradiction (fun h=>by rw[if_neg h]at hu;cases hu);obtain⟨x,hx⟩:∃x,s.stack[s.stack.length - 1]?=some x:=⟨s.stack[s.stack.length - 1]'(by omega),List.getElem?_eq_getElem aI⟩;have hg:s.stack.getLast?=some x:=(by rw[List.getLast?_eq_getElem?];exact hx);refine aG (aE ?_);refine aH ?_;refine t_draw (anc:=[0,1,3,7,0,16,48,112,240,496,1023,2047,4095]) (ord:=[0,1,2,3,4,5,6,7,8,9,10,11,12]) [] [] mixed (by decide+kernel) (cS _) ?_;refine uDe ?_;refine uDe ?_;refine dl_ev rfl rfl (.none rfl) rfl rfl (cB (k:=gA) rfl Tryz.underlying176 rfl aL) rfl ?_;refine uGy ?_;refine dl_ev rfl rfl (.none rfl) rfl rfl (b0 (k:=gA) (j:=s.stack.length - 1) wZ rfl (.own (.there (.there .here))) rfl aI aI) rfl ?_;refine dl_ev rfl rfl (.none rfl) rfl rfl (dW (o:=0) (k:=gA) ts4 rfl aL bU rfl) rfl ?_;refine uGn ?_;refine aE (aH ?_);refine t_draw (anc:=[0,0,2,6,14,0,32,96,224,480,992,2046,4095,8191,16383]) (ord:=[0,1,2,3,4,5,6,7,8,9,10,11,12,13,14]) [14] [14] mixed (by decide+kernel) (cS _) ?_;refine uAj ?_;refine uDe ?_;refine uDe ?_;refine dl_ev rfl rfl (.none rfl) rfl rfl (cB (k:=gA) rfl Tryz.underlying176 rfl aL) rfl ?_;refine uGy ?_;refine dl_ev rfl rfl (.none rfl) rfl rfl (tO (k:=gA) (m:=s.stack.length - 1) wZ rfl (.there (.there .here)) (.there (.there .here)) rfl aI aI) rfl ?_;refine uCw ?_;refine dl_ev rfl rfl (.none rfl) rfl rfl (aD (o':=9) jJ rfl rfl) rfl ?_;refine kH rfl rfl (.none rfl) rfl (bH tG rfl rfl cD aX (.succ (.succ (.succ (.succ (.succ (.succ (.succ (.succ (.succ .zero))))))))) rfl) ?_;rintro _ K _ ⟨rfl,rfl⟩ -;refine dl_nil ?_;refine aE (aH ?_);refine uFz ?_;refine aG (aE ?_);refine bI ?_;refine aO (.cons (.there (.there .here)) (.cons .here (.cons .here (.cons .here .nil)))) ?_;refine dN (fA (yI (m:=s.stack.length - 1) aI)) ?_;refine aO (.cons (.there .here) (.cons (.there .here) (.cons .here (.cons .here .nil)))) ?_;rw[←List.dropLast_eq_take];refine dN (dR (m:=m) (hv:=hv) (pv:=pv) (nm:=nm) (s:={s with stack:=s.stack.dropLast})) ?_;refine bF rfl rfl (Hl.le_refl _) ?_;unfold pop;rw[hg];exact⟨_,rfl,rfl,rfl,rfl⟩
theorem eQ{s t:MS}{v:Bool}(h:push s v=.ok t):t.parts=s.parts:=by unfold push at h;split at h <;> cases h;rfl
theorem wJ{s:MS}{r:Bool×MS}(h:pop s=.ok r):r.2.parts=s.parts:=by unfold pop at h;split at h <;> cases h;rfl
theorem tR{s t:MS}{by_:Int}{n:Nat}{yes:Bool}(h:jump s by_ n yes=.ok t):t.parts=s.parts:=by
 unfold jump at h;split at h
 ·cases h;split <;> rfl
 ·cases h
theorem aPX(b mb:Nat)(m:Msg)(hv pv:Value)(nm:Bool)(s:MS)(o:Ins)(av bv:Value)(n:Nat)(K:Hl)(hpv:Ksl (bT 9) K pv s.parts)(ha:Ksl (bT 9) K av o.a)(hb:Ksl (bT 9) K bv o.b)(hp:s.pc < 1000)(hn:n < 1000)(hst:s.stack.length≤100):
  Sp Tryz.prog 143 [ptr b,l4 o av bv,i64 n] K [mch b mb m hv pv nm s] (MI b mb m hv nm (match pop s with| .error e=>.error e| .ok r=>push r.2 (!r.1))):=by
 obtain⟨sa,sn,sc,rfl⟩:=ha.isSlice;obtain⟨ta,tn,tc,rfl⟩:=hb.isSlice;refine aZ Tryz.func143 rfl Tryz.ntmps143 rfl rfl fun F w=>?_
 refine aH (aB ?_);refine uBk ?_;rintro _ K _ ⟨b4,rfl,rfl,rfl⟩ -;refine aG (aE ?_);refine uCf ?_;refine aY rfl rfl (wI b mb m hv pv nm s _ hst) (.cons (.there .here) .nil) rfl (fun _ _=>a8 _ _) ?_ ?_
 ·
  rintro _ _ _ hTr le1;obtain⟨e,p,hr,fb,h,rfl⟩:=bA hTr;cases h
  refine uAg ?_;refine bJ bU ?_;simp only[MI,hr,if_true,if_false,↓reduceIte];exact⟨fb,rfl,rfl⟩
 rintro _ K _ hTr -;obtain⟨r,hr,rfl,rfl,rfl⟩:=bB hTr;clear hTr;have hpp:=wJ hr;refine aA (by first|exact dP rfl|exact dO rfl) rfl ?_;refine aY rfl rfl (kQ b mb m hv pv nm r.2 (!r.1) _) (.cons .here .nil) rfl (fun _ _=>a8 _ _) ?_ ?_
 ·
  rintro _ _ _ hTr le1;obtain⟨e,p,hq,fb,h,rfl⟩:=bA hTr;cases h
  refine uAg ?_;refine bJ bU ?_;simp only[MI,hr,hq,if_true,if_false,↓reduceIte];exact⟨fb,rfl,rfl⟩
 rintro _ K _ hTr -;obtain⟨q,hq,rfl,rfl,rfl⟩:=bB hTr;clear hTr;have hqp:=eQ hq;refine uIg ?_;refine dD rfl (Hl.le_refl _) ?_;simp only[MI,hr,hq,if_true,if_false,↓reduceIte];exact⟨_,rfl,rfl,pv,by rw[hqp,hpp];exact hpv,rfl⟩
theorem aPY(b mb:Nat)(m:Msg)(hv pv:Value)(nm:Bool)(s:MS)(o:Ins)(av bv:Value)(n:Nat)(K:Hl)(hpv:Ksl (bT 9) K pv s.parts)(ha:Ksl (bT 9) K av o.a)(hb:Ksl (bT 9) K bv o.b)(hp:s.pc < 1000)(hn:n < 1000)(hst:s.stack.length≤100):
  Sp Tryz.prog 145 [ptr b,l4 o av bv,i64 n] K [mch b mb m hv pv nm s] (MI b mb m hv nm (jump s o.n n true)):=by
 obtain⟨sa,sn,sc,rfl⟩:=ha.isSlice;obtain⟨ta,tn,tc,rfl⟩:=hb.isSlice;refine aZ Tryz.func145 rfl Tryz.ntmps145 rfl rfl fun F w=>?_
 refine aH (aB ?_);refine uBk ?_;rintro _ K _ ⟨b4,rfl,rfl,rfl⟩ -;refine aG (aE ?_);refine uGm ?_;refine uAa ?_;refine aY rfl rfl (tQ b mb m hv pv nm s o.n n true _ hp hn) (.cons (.there .here) .nil) rfl (fun _ _=>a8 _ _) ?_ ?_
 ·
  rintro _ _ _ hTr le1;obtain⟨e,p,hq,fb,h,rfl⟩:=bA hTr;cases h
  refine uAg ?_;refine bJ bU ?_;simp only[MI,hq,if_true,if_false,↓reduceIte];exact⟨fb,rfl,rfl⟩
 rintro _ K _ hTr -;obtain⟨q,hq,rfl,rfl,rfl⟩:=bB hTr;clear hTr;have hqp:=tR hq;refine uIg ?_;refine dD rfl (Hl.le_refl _) ?_;simp only[MI,hq,if_true,if_false,↓reduceIte];exact⟨_,rfl,rfl,pv,by rw[hqp];exact hpv,rfl⟩
theorem aPZ(b mb:Nat)(m:Msg)(hv pv:Value)(nm:Bool)(s:MS)(o:Ins)(av bv:Value)(n:Nat)(K:Hl)(hpv:Ksl (bT 9) K pv s.parts)(ha:Ksl (bT 9) K av o.a)(hb:Ksl (bT 9) K bv o.b)(hp:s.pc < 1000)(hn:n < 1000)(hst:s.stack.length≤100):
  Sp Tryz.prog 147 [ptr b,l4 o av bv,i64 n] K [mch b mb m hv pv nm s] (MI b mb m hv nm (match pop s with| .error e=>.error e| .ok r=>jump r.2 o.n n (r.1))):=by
 obtain⟨sa,sn,sc,rfl⟩:=ha.isSlice;obtain⟨ta,tn,tc,rfl⟩:=hb.isSlice;refine aZ Tryz.func147 rfl Tryz.ntmps147 rfl rfl fun F w=>?_
 refine aH (aB ?_);refine uBk ?_;rintro _ K _ ⟨b4,rfl,rfl,rfl⟩ -;refine aG (aE ?_);refine t_draw (anc:=[0,0,2,0,0,16,63]) (ord:=[0,1,2,3,4,5,6]) [5,6] [6] mixed (by decide+kernel) (.cons .here .nil) ?_;refine uAj ?_;refine dl_ev rfl rfl (.none rfl) rfl rfl (aD (o':=1) iD rfl rfl) rfl ?_;refine uFk ?_;refine uGg ?_;refine pA rfl (.none rfl) rfl rfl rfl rfl (wI b mb m hv pv nm s _ hst) (.cons (.there .here) .nil) rfl (fun _ _=>a8 _ _) ?_ ?_
 ·
  rintro _ _ _ hTr le1;obtain⟨e,p,hr,fb,h,rfl⟩:=bA hTr;cases h
  intro a0 w0 hd0 hi0;refine⟨hd0,_,_,?_,bU,hi0.left⟩
  simp only[MI,hr,if_true,if_false,↓reduceIte];exact⟨fb,rfl,rfl⟩
 rintro _ K _ hTr -;obtain⟨r,hr,rfl,rfl,rfl⟩:=bB hTr;clear hTr;have hpp:=wJ hr;have hpc:=aAB hr;refine⟨_,(show Tks _ _ _ from (.cons (.there .here) .nil)).sat,?_⟩
 refine fJ rfl (.none rfl) rfl rfl rfl (tQ b mb m hv pv nm r.2 o.n n (r.1) _ aI hn) (.cons (.there .here) .nil) rfl (fun _ _=>a8 _ _) ?_ ?_
 ·
  rintro _ _ _ hTr le1;obtain⟨e,p,hq,fb,h,rfl⟩:=bA hTr;cases h
  intro a0 w0 hd0 hi0;refine⟨hd0,_,_,?_,bU,hi0.left⟩
  simp only[MI,hr,hq,if_true,if_false,↓reduceIte];exact⟨fb,rfl,rfl⟩
 rintro _ K _ hTr -;obtain⟨q,hq,rfl,rfl,rfl⟩:=bB hTr;clear hTr;have hqp:=tR hq;refine uGb ?_;refine dD rfl (Hl.le_refl _) ?_;simp only[MI,hr,hq,if_true,if_false,↓reduceIte];exact⟨_,rfl,rfl,pv,by rw[hqp,hpp];exact hpv,rfl⟩
theorem aP0(b mb:Nat)(m:Msg)(hv pv:Value)(nm:Bool)(s:MS)(o:Ins)(av bv:Value)(n:Nat)(K:Hl)(hpv:Ksl (bT 9) K pv s.parts)(ha:Ksl (bT 9) K av o.a)(hb:Ksl (bT 9) K bv o.b)(hp:s.pc < 1000)(hn:n < 1000)(hst:s.stack.length≤100):
  Sp Tryz.prog 148 [ptr b,l4 o av bv,i64 n] K [mch b mb m hv pv nm s] (MI b mb m hv nm (match pop s with| .error e=>.error e| .ok r=>jump r.2 o.n n (!r.1))):=by
 obtain⟨sa,sn,sc,rfl⟩:=ha.isSlice;obtain⟨ta,tn,tc,rfl⟩:=hb.isSlice;refine aZ Tryz.func148 rfl Tryz.ntmps148 rfl rfl fun F w=>?_
 refine aH (aB ?_);refine uBk ?_;rintro _ K _ ⟨b4,rfl,rfl,rfl⟩ -;refine aG (aE ?_);refine t_draw (anc:=[0,0,2,0,0,16,48,127]) (ord:=[0,1,2,3,4,5,6,7]) [5,7] [7] mixed (by decide+kernel) (.cons .here .nil) ?_;refine uAj ?_;refine dl_ev rfl rfl (.none rfl) rfl rfl (aD (o':=1) iD rfl rfl) rfl ?_;refine uFk ?_;refine uGg ?_;refine pA rfl (.none rfl) rfl rfl rfl rfl (wI b mb m hv pv nm s _ hst) (.cons (.there .here) .nil) rfl (fun _ _=>a8 _ _) ?_ ?_
 ·
  rintro _ _ _ hTr le1;obtain⟨e,p,hr,fb,h,rfl⟩:=bA hTr;cases h
  intro a0 w0 hd0 hi0;refine⟨hd0,_,_,?_,bU,hi0.left⟩
  simp only[MI,hr,if_true,if_false,↓reduceIte];exact⟨fb,rfl,rfl⟩
 rintro _ K _ hTr -;obtain⟨r,hr,rfl,rfl,rfl⟩:=bB hTr;clear hTr;have hpp:=wJ hr;have hpc:=aAB hr;refine⟨_,(show Tks _ _ _ from (.cons (.there .here) .nil)).sat,?_⟩
 refine dl_ev rfl rfl (.none rfl) rfl rfl (by first|exact dP rfl|exact dO rfl) rfl ?_;refine fJ rfl (.none rfl) rfl rfl rfl (tQ b mb m hv pv nm r.2 o.n n (!r.1) _ aI hn) (.cons (.there .here) .nil) rfl (fun _ _=>a8 _ _) ?_ ?_
 ·
  rintro _ _ _ hTr le1;obtain⟨e,p,hq,fb,h,rfl⟩:=bA hTr;cases h
  intro a0 w0 hd0 hi0;refine⟨hd0,_,_,?_,bU,hi0.left⟩
  simp only[MI,hr,hq,if_true,if_false,↓reduceIte];exact⟨fb,rfl,rfl⟩
 rintro _ K _ hTr -;obtain⟨q,hq,rfl,rfl,rfl⟩:=bB hTr;clear hTr;have hqp:=tR hq;refine uGb ?_;refine dD rfl (Hl.le_refl _) ?_;simp only[MI,hr,hq,if_true,if_false,↓reduceIte];exact⟨_,rfl,rfl,pv,by rw[hqp,hpp];exact hpv,rfl⟩
theorem aP3(b mb:Nat)(m:Msg)(hv pv:Value)(nm:Bool)(s:MS)(o:Ins)(av bv:Value)(n:Nat)(K:Hl)(hpv:Ksl (bT 9) K pv s.parts)(ha:Ksl (bT 9) K av o.a)(hb:Ksl (bT 9) K bv o.b):
  Sp Tryz.prog 155 [ptr b,l4 o av bv,i64 n] K [mch b mb m hv pv nm s] (MI b mb m hv nm (.ok {s with keep:=false})):=by
 obtain⟨sa,sn,sc,rfl⟩:=ha.isSlice;obtain⟨ta,tn,tc,rfl⟩:=hb.isSlice;refine aZ Tryz.func155 rfl Tryz.ntmps155 rfl rfl fun F w=>?_
 refine aH (aB ?_);refine uBk ?_;rintro _ K _ ⟨b4,rfl,rfl,rfl⟩ -;refine aG (aE ?_);refine uIr ?_;refine qQ fun av sv f c=>?_
 refine uBv ?_;refine uEh ?_;refine uDt ?_;rintro _ K _ ⟨rfl,rfl⟩ -;refine aG ?_;refine aO (.cons .here (.cons .here (.cons .here (.cons .here .nil)))) ?_;refine dN (dR (m:=m) (hv:=hv) (pv:=pv) (nm:=nm) (s:={s with keep:=false})) ?_;refine dD rfl (Hl.le_refl _) ?_;exact⟨_,rfl,rfl,pv,hpv,rfl⟩
theorem aPW(b mb:Nat)(m:Msg)(hv pv:Value)(nm:Bool)(s:MS)(o:Ins)(av bv:Value)(n:Nat)(K:Hl)(hpv:Ksl (bT 9) K pv s.parts)(ha:Ksl (bT 9) K av o.a)(hb:Ksl (bT 9) K bv o.b):
  Sp Tryz.prog 141 [ptr b,l4 o av bv,i64 n] K [mch b mb m hv pv nm s] (MI b mb m hv nm (if o.n=0∨o.n=1 then push s (decide (o.n=1))else .error (m7 s.pc))):=by
 obtain⟨sa,sn,sc,rfl⟩:=ha.isSlice;obtain⟨ta,tn,tc,rfl⟩:=hb.isSlice;refine aZ Tryz.func141 rfl Tryz.ntmps141 rfl rfl fun F w=>?_
 refine aH (aB ?_);refine uBk ?_;rintro _ K _ ⟨b4,rfl,rfl,rfl⟩ -;refine aG (aE ?_);refine aH ?_;refine uIr ?_;refine qQ fun av sv f c=>?_
 refine uGm ?_;refine uHf ?_;refine cG 10 rfl (fun g10=>?_) (fun g10=>?_)
 ·
  refine uAc ?_;refine uAy ?_;refine cA rfl rfl (yD _ _) rfl ?_;have hcc:o.n=0∨o.n=1:=.inl g10;refine lL dR ?_;refine aG (aE ?_);refine uGm ?_;refine uAq ?_;refine aY rfl rfl (kQ b mb m hv pv nm s (decide (o.n=1)) _) (.cons .here .nil) rfl (fun _ _=>a8 _ _) ?_ ?_
  ·
   rintro _ _ _ hTr le1;obtain⟨e,p,hq,fb,h,rfl⟩:=bA hTr;cases h
   refine uAg ?_;refine bJ bU ?_;unfold MI;rw[if_pos hcc,hq];exact⟨fb,rfl,rfl⟩
  rintro _ K _ hTr -;obtain⟨q,hq,rfl,rfl,rfl⟩:=bB hTr;clear hTr;have hqp:=eQ hq;refine uIg ?_;refine dD rfl (Hl.le_refl _) ?_;unfold MI;rw[if_pos hcc,hq];exact⟨_,rfl,rfl,pv,by rw[hqp];exact hpv,rfl⟩
 ·
  refine uAz ?_;refine aA (aD (o':=1) iD rfl rfl) rfl ?_;refine uDr ?_;refine uHe ?_;refine aY rfl rfl (n7 (o.n=1) _ _ _ _ _ _ _ _ _ _ _ _ _) (.cons .here .nil) rfl (fun _ _=>a8 _ _) ?_ ?_
  ·
   rintro _ _ _ hTr le1;obtain⟨e,p,hu,fb,h,rfl⟩:=bA hTr;cases h
   refine uAr ?_;have hbl:¬(o.n=1):=(by intro h;rw[if_pos h]at hu;cases hu);rw[if_neg hbl]at hu;cases hu
   unfold MI;rw[if_neg aI];exact⟨fb,rfl,rfl⟩
  rintro _ K _ hTr -;obtain⟨u0,hu,rfl,rfl,rfl⟩:=bB hTr;clear hTr;have hbl:o.n=1:=Classical.byContradiction (fun h=>by rw[if_neg h]at hu;cases hu);have hcc:o.n=0∨o.n=1:=.inr hbl;refine lL dR ?_;refine aG (aE ?_);refine uGm ?_;refine uAq ?_;refine aY rfl rfl (kQ b mb m hv pv nm s (decide (o.n=1)) _) (.cons .here .nil) rfl (fun _ _=>a8 _ _) ?_ ?_
  ·
   rintro _ _ _ hTr le1;obtain⟨e,p,hq,fb,h,rfl⟩:=bA hTr;cases h
   refine uAg ?_;refine bJ bU ?_;unfold MI;rw[if_pos hcc,hq];exact⟨fb,rfl,rfl⟩
  rintro _ K _ hTr -;obtain⟨q,hq,rfl,rfl,rfl⟩:=bB hTr;clear hTr;have hqp:=eQ hq;refine uIg ?_;refine dD rfl (Hl.le_refl _) ?_;unfold MI;rw[if_pos hcc,hq];exact⟨_,rfl,rfl,pv,by rw[hqp];exact hpv,rfl⟩
end Go.Proofs
end
section
namespace Go.Proofs
open Go Go.SL Go.Syn Go.Mach
theorem aJB(b mb:Nat)(m:Msg)(hv pv:Value)(nm:Bool)(s:MS)(av sv:Value)(f:Nat→Nat)(c:Nat)(v:Bool)(K:Hl):Sp Tryz.prog 142 [ptr b,.bool v] K [mblk b (str m.from_) (str m.to_) (i64 m.size) hv av (.bool s.keep) (.bool nm) (.map (some mb)) pv sv s.pc,sl true cY av s.acts,sl false gA sv s.stack,pt mb (mapO (iE s.vars f) c)] (fT (push s v) fun s' r K' L'=>r=.tuple #[]∧K'=K∧L'=[mch b mb m hv pv nm s']):=
 wP (fun h hh=>dR h hh) (kQ b mb m hv pv nm s v K)
abbrev aRX(o:Ins)(m:Msg):Bool:=decide (o.tag=1∧o.n < m.size∨o.tag=2∧m.size < o.n)
theorem iH(b mb:Nat)(m:Msg)(hv pv:Value)(nm:Bool)(s:MS)(av sv:Value)(f:Nat→Nat)(c:Nat)(q:Bool)(o:Ins)(K:Hl)(hq:q=aRX o m):Sp Tryz.prog 142 [ptr b,.bool q] K [mblk b (str m.from_) (str m.to_) (i64 m.size) hv av (.bool s.keep) (.bool nm) (.map (some mb)) pv sv s.pc,sl true cY av s.acts,sl false gA sv s.stack,pt mb (mapO (iE s.vars f) c)] (fT (push s (aRX o m)) fun s' r K' L'=>r=.tuple #[]∧K'=K∧L'=[mch b mb m hv pv nm s']):=by
 subst hq;exact aJB b mb m hv pv nm s av sv f c _ K
theorem aP2(b mb:Nat)(m:Msg)(hv pv:Value)(nm:Bool)(s:MS)(o:Ins)(av bv:Value)(n:Nat)(K:Hl)(hpv:Ksl (bT 9) K pv s.parts)(ha:Ksl (bT 9) K av o.a)(hb:Ksl (bT 9) K bv o.b):
  Sp Tryz.prog 152 [ptr b,l4 o av bv,i64 n] K [mch b mb m hv pv nm s] (MI b mb m hv nm (if o.tag=1∨o.tag=2 then push s (aRX o m)else .error (m7 s.pc))):=by
 obtain⟨sa,sn,sc,rfl⟩:=ha.isSlice;obtain⟨ta,tn,tc,rfl⟩:=hb.isSlice;refine aZ Tryz.func152 rfl Tryz.ntmps152 rfl rfl fun F w=>?_
 refine aH (aB ?_);refine uBk ?_;rintro _ K _ ⟨b4,rfl,rfl,rfl⟩ -;refine aG (aE ?_);refine aH ?_;refine uIr ?_;refine qQ fun av sv f c=>?_
 refine uAf ?_;refine uIn ?_;refine uHf ?_;refine cG 10 rfl (fun g10=>?_) (fun g10=>?_)
 ·
  refine uAc ?_;refine uAy ?_;refine cA rfl rfl (yD _ _) rfl ?_;have hcc:o.tag=1∨o.tag=2:=.inl g10;refine aG (aE ?_);refine t_draw (anc:=[0,0,2,6,14,30,62,126,254,510,1022,30,2078,8190,16382,32766,65534,131070,262142,524286,1048574,2097150,4194302,8388606,16777214,33554430,1048574,68157438,268435454,536870910,1073741822,2147483647]) (ord:=[0,1,2,3,4,5,6,7,8,9,10,11,12,13,14,15,16,17,18,19,20,21,22,23,24,25,26,27,28,29,30,31]) [31] [31] mixed (by decide+kernel) (cS _) ?_;refine uAj ?_;refine dl_ev rfl rfl (.none rfl) rfl rfl (aD (o':=2) eW rfl rfl) rfl ?_;refine uFk ?_;refine uEx ?_;refine dl_splitp 20 rfl (fun s20=>?_) (fun s20=>?_)
  ·
   refine uAk ?_;refine dl_ev rfl rfl (.on rfl rfl rfl) rfl rfl (iP rfl rfl) rfl ?_;refine uDq ?_;refine uAj ?_;refine dl_splitp 31 rfl (fun s31=>?_) (fun s31=>?_)
   ·
    refine dl_off rfl rfl (.off rfl rfl rfl) rfl ?_;refine dl_off rfl rfl (.off rfl rfl rfl) rfl ?_;refine dl_off rfl rfl (.off rfl rfl rfl) rfl ?_;refine dl_off rfl rfl (.off rfl rfl rfl) rfl ?_;refine dl_off rfl rfl (.offu rfl rfl rfl) rfl ?_;refine dl_off rfl rfl (.offu rfl rfl rfl) rfl ?_;refine dl_off rfl rfl (.offu rfl rfl rfl) rfl ?_;refine dl_off rfl rfl (.offu rfl rfl rfl) rfl ?_;refine dl_off rfl rfl (.offu rfl rfl rfl) rfl ?_;refine dl_off rfl rfl (.offu rfl rfl rfl) rfl ?_;refine dl_off rfl rfl (.offu rfl rfl rfl) rfl ?_;refine dl_off rfl rfl (.offu rfl rfl rfl) rfl ?_;refine dl_off rfl rfl (.offu rfl rfl rfl) rfl ?_;refine dl_off rfl rfl (.off rfl rfl rfl) rfl ?_;refine uDq ?_;refine fJ rfl (.none rfl) rfl rfl rfl (iH b mb m hv pv nm s av sv f c _ o _ (by rw[Bool.eq_iff_iff];simp;omega)) (.cons .here (.cons .here (.cons .here (.cons .here .nil)))) rfl (fun _ _=>a8 _ _) ?_ ?_
    ·
     rintro _ _ _ hTr le1;obtain⟨e,p,hq,fb,h,rfl⟩:=bA hTr;cases h
     intro a0 w0 hd0 hi0;refine⟨hd0,_,_,?_,bU,hi0.left⟩
     unfold MI;rw[if_pos hcc,hq];exact⟨fb,rfl,rfl⟩
    rintro _ K _ hTr -;obtain⟨q,hq,rfl,rfl,rfl⟩:=bB hTr;clear hTr;have hqp:=eQ hq;refine uGb ?_;refine dD rfl (Hl.le_refl _) ?_;unfold MI;rw[if_pos hcc,hq];exact⟨_,rfl,rfl,pv,by rw[hqp];exact hpv,rfl⟩
   ·
    refine uBr ?_;refine dl_splitp 35 rfl (fun s35=>?_) (fun s35=>?_)
    ·
     refine uCv ?_;refine fJ rfl (.none rfl) rfl rfl rfl (iH b mb m hv pv nm s av sv f c _ o _ (by rw[Bool.eq_iff_iff];simp;omega)) (.cons .here (.cons .here (.cons .here (.cons .here .nil)))) rfl (fun _ _=>a8 _ _) ?_ ?_
     ·
      rintro _ _ _ hTr le1;obtain⟨e,p,hq,fb,h,rfl⟩:=bA hTr;cases h
      intro a0 w0 hd0 hi0;refine⟨hd0,_,_,?_,bU,hi0.left⟩
      unfold MI;rw[if_pos hcc,hq];exact⟨fb,rfl,rfl⟩
     rintro _ K _ hTr -;obtain⟨q,hq,rfl,rfl,rfl⟩:=bB hTr;clear hTr;have hqp:=eQ hq;refine uGb ?_;refine dD rfl (Hl.le_refl _) ?_;unfold MI;rw[if_pos hcc,hq];exact⟨_,rfl,rfl,pv,by rw[hqp];exact hpv,rfl⟩
    ·
     refine dl_off rfl rfl (.off rfl rfl rfl) rfl ?_;refine dl_off rfl rfl (.off rfl rfl rfl) rfl ?_;refine dl_off rfl rfl (.off rfl rfl rfl) rfl ?_;refine dl_off rfl rfl (.off rfl rfl rfl) rfl ?_;refine dl_off rfl rfl (.off rfl rfl rfl) rfl ?_;refine dl_off rfl rfl (.off rfl rfl rfl) rfl ?_;refine dl_off rfl rfl (.off rfl rfl rfl) rfl ?_;refine dl_off rfl rfl (.off rfl rfl rfl) rfl ?_;refine dl_off rfl rfl (.off rfl rfl rfl) rfl ?_;refine uFu ?_;refine fJ rfl (.none rfl) rfl rfl rfl (iH b mb m hv pv nm s av sv f c _ o _ (by rw[Bool.eq_iff_iff];simp;omega)) (.cons .here (.cons .here (.cons .here (.cons .here .nil)))) rfl (fun _ _=>a8 _ _) ?_ ?_
     ·
      rintro _ _ _ hTr le1;obtain⟨e,p,hq,fb,h,rfl⟩:=bA hTr;cases h
      intro a0 w0 hd0 hi0;refine⟨hd0,_,_,?_,bU,hi0.left⟩
      unfold MI;rw[if_pos hcc,hq];exact⟨fb,rfl,rfl⟩
     rintro _ K _ hTr -;obtain⟨q,hq,rfl,rfl,rfl⟩:=bB hTr;clear hTr;have hqp:=eQ hq;refine uGb ?_;refine dD rfl (Hl.le_refl _) ?_;unfold MI;rw[if_pos hcc,hq];exact⟨_,rfl,rfl,pv,by rw[hqp];exact hpv,rfl⟩
  ·
   refine dl_off rfl rfl (.off rfl rfl rfl) rfl ?_;refine dl_off rfl rfl (.off rfl rfl rfl) rfl ?_;refine dl_off rfl rfl (.off rfl rfl rfl) rfl ?_;refine dl_off rfl rfl (.off rfl rfl rfl) rfl ?_;refine dl_off rfl rfl (.off rfl rfl rfl) rfl ?_;refine dl_off rfl rfl (.off rfl rfl rfl) rfl ?_;refine dl_off rfl rfl (.off rfl rfl rfl) rfl ?_;refine dl_off rfl rfl (.off rfl rfl rfl) rfl ?_;refine dl_off rfl rfl (.off rfl rfl rfl) rfl ?_;refine uCb ?_;refine uAj ?_;refine uBr ?_;refine dl_splitp 35 rfl (fun s35=>?_) (fun s35=>?_)
   ·
    refine uCv ?_;refine fJ rfl (.none rfl) rfl rfl rfl (iH b mb m hv pv nm s av sv f c _ o _ (by rw[Bool.eq_iff_iff];simp;omega)) (.cons .here (.cons .here (.cons .here (.cons .here .nil)))) rfl (fun _ _=>a8 _ _) ?_ ?_
    ·
     rintro _ _ _ hTr le1;obtain⟨e,p,hq,fb,h,rfl⟩:=bA hTr;cases h
     intro a0 w0 hd0 hi0;refine⟨hd0,_,_,?_,bU,hi0.left⟩
     unfold MI;rw[if_pos hcc,hq];exact⟨fb,rfl,rfl⟩
    rintro _ K _ hTr -;obtain⟨q,hq,rfl,rfl,rfl⟩:=bB hTr;clear hTr;have hqp:=eQ hq;refine uGb ?_;refine dD rfl (Hl.le_refl _) ?_;unfold MI;rw[if_pos hcc,hq];exact⟨_,rfl,rfl,pv,by rw[hqp];exact hpv,rfl⟩
   ·
    refine dl_off rfl rfl (.off rfl rfl rfl) rfl ?_;refine dl_off rfl rfl (.off rfl rfl rfl) rfl ?_;refine dl_off rfl rfl (.off rfl rfl rfl) rfl ?_;refine dl_off rfl rfl (.off rfl rfl rfl) rfl ?_;refine dl_off rfl rfl (.off rfl rfl rfl) rfl ?_;refine dl_off rfl rfl (.off rfl rfl rfl) rfl ?_;refine dl_off rfl rfl (.off rfl rfl rfl) rfl ?_;refine dl_off rfl rfl (.off rfl rfl rfl) rfl ?_;refine dl_off rfl rfl (.off rfl rfl rfl) rfl ?_;refine uFu ?_;refine fJ rfl (.none rfl) rfl rfl rfl (iH b mb m hv pv nm s av sv f c _ o _ (by rw[Bool.eq_iff_iff];simp;omega)) (.cons .here (.cons .here (.cons .here (.cons .here .nil)))) rfl (fun _ _=>a8 _ _) ?_ ?_
    ·
     rintro _ _ _ hTr le1;obtain⟨e,p,hq,fb,h,rfl⟩:=bA hTr;cases h
     intro a0 w0 hd0 hi0;refine⟨hd0,_,_,?_,bU,hi0.left⟩
     unfold MI;rw[if_pos hcc,hq];exact⟨fb,rfl,rfl⟩
    rintro _ K _ hTr -;obtain⟨q,hq,rfl,rfl,rfl⟩:=bB hTr;clear hTr;have hqp:=eQ hq;refine uGb ?_;refine dD rfl (Hl.le_refl _) ?_;unfold MI;rw[if_pos hcc,hq];exact⟨_,rfl,rfl,pv,by rw[hqp];exact hpv,rfl⟩
 ·
  refine uAz ?_;refine uDh ?_;refine uDr ?_;refine uHe ?_;refine aY rfl rfl (n7 (o.tag=2) _ _ _ _ _ _ _ _ _ _ _ _ _) (.cons .here .nil) rfl (fun _ _=>a8 _ _) ?_ ?_
  ·
   rintro _ _ _ hTr le1;obtain⟨e,p,hu,fb,h,rfl⟩:=bA hTr;cases h
   refine uAr ?_;have hbl:¬(o.tag=2):=(by intro h;rw[if_pos h]at hu;cases hu);rw[if_neg hbl]at hu;cases hu
   unfold MI;rw[if_neg aI];exact⟨fb,rfl,rfl⟩
  rintro _ K _ hTr -;obtain⟨u0,hu,rfl,rfl,rfl⟩:=bB hTr;clear hTr;have hbl:o.tag=2:=Classical.byContradiction (fun h=>by rw[if_neg h]at hu;cases hu);have hcc:o.tag=1∨o.tag=2:=.inr hbl;refine aG (aE ?_);refine t_draw (anc:=[0,0,2,6,14,30,62,126,254,510,1022,30,2078,8190,16382,32766,65534,131070,262142,524286,1048574,2097150,4194302,8388606,16777214,33554430,1048574,68157438,268435454,536870910,1073741822,2147483647]) (ord:=[0,1,2,3,4,5,6,7,8,9,10,11,12,13,14,15,16,17,18,19,20,21,22,23,24,25,26,27,28,29,30,31]) [31] [31] mixed (by decide+kernel) (cS _) ?_;refine uAj ?_;refine dl_ev rfl rfl (.none rfl) rfl rfl (aD (o':=2) eW rfl rfl) rfl ?_;refine uFk ?_;refine uEx ?_;refine dl_splitp 20 rfl (fun s20=>?_) (fun s20=>?_)
  ·
   refine uAk ?_;refine dl_ev rfl rfl (.on rfl rfl rfl) rfl rfl (iP rfl rfl) rfl ?_;refine uDq ?_;refine uAj ?_;refine dl_splitp 31 rfl (fun s31=>?_) (fun s31=>?_)
   ·
    refine dl_off rfl rfl (.off rfl rfl rfl) rfl ?_;refine dl_off rfl rfl (.off rfl rfl rfl) rfl ?_;refine dl_off rfl rfl (.off rfl rfl rfl) rfl ?_;refine dl_off rfl rfl (.off rfl rfl rfl) rfl ?_;refine dl_off rfl rfl (.offu rfl rfl rfl) rfl ?_;refine dl_off rfl rfl (.offu rfl rfl rfl) rfl ?_;refine dl_off rfl rfl (.offu rfl rfl rfl) rfl ?_;refine dl_off rfl rfl (.offu rfl rfl rfl) rfl ?_;refine dl_off rfl rfl (.offu rfl rfl rfl) rfl ?_;refine dl_off rfl rfl (.offu rfl rfl rfl) rfl ?_;refine dl_off rfl rfl (.offu rfl rfl rfl) rfl ?_;refine dl_off rfl rfl (.offu rfl rfl rfl) rfl ?_;refine dl_off rfl rfl (.offu rfl rfl rfl) rfl ?_;refine dl_off rfl rfl (.off rfl rfl rfl) rfl ?_;refine uDq ?_;refine fJ rfl (.none rfl) rfl rfl rfl (iH b mb m hv pv nm s av sv f c _ o _ (by rw[Bool.eq_iff_iff];simp;omega)) (.cons .here (.cons .here (.cons .here (.cons .here .nil)))) rfl (fun _ _=>a8 _ _) ?_ ?_
    ·
     rintro _ _ _ hTr le1;obtain⟨e,p,hq,fb,h,rfl⟩:=bA hTr;cases h
     intro a0 w0 hd0 hi0;refine⟨hd0,_,_,?_,bU,hi0.left⟩
     unfold MI;rw[if_pos hcc,hq];exact⟨fb,rfl,rfl⟩
    rintro _ K _ hTr -;obtain⟨q,hq,rfl,rfl,rfl⟩:=bB hTr;clear hTr;have hqp:=eQ hq;refine uGb ?_;refine dD rfl (Hl.le_refl _) ?_;unfold MI;rw[if_pos hcc,hq];exact⟨_,rfl,rfl,pv,by rw[hqp];exact hpv,rfl⟩
   ·
    refine uBr ?_;refine dl_splitp 35 rfl (fun s35=>?_) (fun s35=>?_)
    ·
     refine uCv ?_;refine fJ rfl (.none rfl) rfl rfl rfl (iH b mb m hv pv nm s av sv f c _ o _ (by rw[Bool.eq_iff_iff];simp;omega)) (.cons .here (.cons .here (.cons .here (.cons .here .nil)))) rfl (fun _ _=>a8 _ _) ?_ ?_
     ·
      rintro _ _ _ hTr le1;obtain⟨e,p,hq,fb,h,rfl⟩:=bA hTr;cases h
      intro a0 w0 hd0 hi0;refine⟨hd0,_,_,?_,bU,hi0.left⟩
      unfold MI;rw[if_pos hcc,hq];exact⟨fb,rfl,rfl⟩
     rintro _ K _ hTr -;obtain⟨q,hq,rfl,rfl,rfl⟩:=bB hTr;clear hTr;have hqp:=eQ hq;refine uGb ?_;refine dD rfl (Hl.le_refl _) ?_;unfold MI;rw[if_pos hcc,hq];exact⟨_,rfl,rfl,pv,by rw[hqp];exact hpv,rfl⟩
    ·
     refine dl_off rfl rfl (.off rfl rfl rfl) rfl ?_;refine dl_off rfl rfl (.off rfl rfl rfl) rfl ?_;refine dl_off rfl rfl (.off rfl rfl rfl) rfl ?_;refine dl_off rfl rfl (.off rfl rfl rfl) rfl ?_;refine dl_off rfl rfl (.off rfl rfl rfl) rfl ?_;refine dl_off rfl rfl (.off rfl rfl rfl) rfl ?_;refine dl_off rfl rfl (.off rfl rfl rfl) rfl ?_;refine dl_off rfl rfl (.off rfl rfl rfl) rfl ?_;refine dl_off rfl rfl (.off rfl rfl rfl) rfl ?_;refine uFu ?_;refine fJ rfl (.none rfl) rfl rfl rfl (iH b mb m hv pv nm s av sv f c _ o _ (by rw[Bool.eq_iff_iff];simp;omega)) (.cons .here (.cons .here (.cons .here (.cons .here .nil)))) rfl (fun _ _=>a8 _ _) ?_ ?_
     ·
      rintro _ _ _ hTr le1;obtain⟨e,p,hq,fb,h,rfl⟩:=bA hTr;cases h
      intro a0 w0 hd0 hi0;refine⟨hd0,_,_,?_,bU,hi0.left⟩
      unfold MI;rw[if_pos hcc,hq];exact⟨fb,rfl,rfl⟩
     rintro _ K _ hTr -;obtain⟨q,hq,rfl,rfl,rfl⟩:=bB hTr;clear hTr;have hqp:=eQ hq;refine uGb ?_;refine dD rfl (Hl.le_refl _) ?_;unfold MI;rw[if_pos hcc,hq];exact⟨_,rfl,rfl,pv,by rw[hqp];exact hpv,rfl⟩
  ·
   refine dl_off rfl rfl (.off rfl rfl rfl) rfl ?_;refine dl_off rfl rfl (.off rfl rfl rfl) rfl ?_;refine dl_off rfl rfl (.off rfl rfl rfl) rfl ?_;refine dl_off rfl rfl (.off rfl rfl rfl) rfl ?_;refine dl_off rfl rfl (.off rfl rfl rfl) rfl ?_;refine dl_off rfl rfl (.off rfl rfl rfl) rfl ?_;refine dl_off rfl rfl (.off rfl rfl rfl) rfl ?_;refine dl_off rfl rfl (.off rfl rfl rfl) rfl ?_;refine dl_off rfl rfl (.off rfl rfl rfl) rfl ?_;refine uCb ?_;refine uAj ?_;refine uBr ?_;refine dl_splitp 35 rfl (fun s35=>?_) (fun s35=>?_)
   ·
    refine uCv ?_;refine fJ rfl (.none rfl) rfl rfl rfl (iH b mb m hv pv nm s av sv f c _ o _ (by rw[Bool.eq_iff_iff];simp;omega)) (.cons .here (.cons .here (.cons .here (.cons .here .nil)))) rfl (fun _ _=>a8 _ _) ?_ ?_
    ·
     rintro _ _ _ hTr le1;obtain⟨e,p,hq,fb,h,rfl⟩:=bA hTr;cases h
     intro a0 w0 hd0 hi0;refine⟨hd0,_,_,?_,bU,hi0.left⟩
     unfold MI;rw[if_pos hcc,hq];exact⟨fb,rfl,rfl⟩
    rintro _ K _ hTr -;obtain⟨q,hq,rfl,rfl,rfl⟩:=bB hTr;clear hTr;have hqp:=eQ hq;refine uGb ?_;refine dD rfl (Hl.le_refl _) ?_;unfold MI;rw[if_pos hcc,hq];exact⟨_,rfl,rfl,pv,by rw[hqp];exact hpv,rfl⟩
   ·
    refine dl_off rfl rfl (.off rfl rfl rfl) rfl ?_;refine dl_off rfl rfl (.off rfl rfl rfl) rfl ?_;refine dl_off rfl rfl (.off rfl rfl rfl) rfl ?_;refine dl_off rfl rfl (.off rfl rfl rfl) rfl ?_;refine dl_off rfl rfl (.off rfl rfl rfl) rfl ?_;refine dl_off rfl rfl (.off rfl rfl rfl) rfl ?_;refine dl_off rfl rfl (.off rfl rfl rfl) rfl ?_;refine dl_off rfl rfl (.off rfl rfl rfl) rfl ?_;refine dl_off rfl rfl (.off rfl rfl rfl) rfl ?_;refine uFu ?_;refine fJ rfl (.none rfl) rfl rfl rfl (iH b mb m hv pv nm s av sv f c _ o _ (by rw[Bool.eq_iff_iff];simp;omega)) (.cons .here (.cons .here (.cons .here (.cons .here .nil)))) rfl (fun _ _=>a8 _ _) ?_ ?_
    ·
     rintro _ _ _ hTr le1;obtain⟨e,p,hq,fb,h,rfl⟩:=bA hTr;cases h
     intro a0 w0 hd0 hi0;refine⟨hd0,_,_,?_,bU,hi0.left⟩
     unfold MI;rw[if_pos hcc,hq];exact⟨fb,rfl,rfl⟩
    rintro _ K _ hTr -;obtain⟨q,hq,rfl,rfl,rfl⟩:=bB hTr;clear hTr;have hqp:=eQ hq;refine uGb ?_;refine dD rfl (Hl.le_refl _) ?_;unfold MI;rw[if_pos hcc,hq];exact⟨_,rfl,rfl,pv,by rw[hqp];exact hpv,rfl⟩
end Go.Proofs
end
section
namespace Go.Proofs
open Go Go.SL Go.Syn Go.Mach
theorem sI{P:Program}{w:World}{T:TypeId}{xs:Array Value}{i:Nat}{v:Value}(ht:dT P T=true)(h:xs[i]?=some v):(part T xs i).run P w=.ok v w:=by
 obtain⟨h1,h2⟩:=mZ ht w;unfold part;rw[aT h1];simp[h]
theorem aWK(w:World)(a c:Action):(Op.equalIn 10000 34 (.agg #[i64 a.1,str a.2]) (.agg #[i64 c.1,str c.2])).run Tryz.prog w=.ok (decide (a=c)) w:=by
 have hf:Tryz.prog.fieldsOf 34= #[{name:="Kind",type:=3,offset:=0,embedded:=false,tag:="",pkgPath:="",byteOffset:=0},{name:="Arg",type:=9,offset:=1,embedded:=false,tag:="",pkgPath:="",byteOffset:=8}]:=by unfold Program.fieldsOf;rw[Tryz.underlying34]
 rw[show (10000:Nat)=9999+1 from rfl,run_equalIn_agg w 9999 34 _ _ (by rw[hf];exact Tryz.underlying34) Tryz.stoodInHeld34,hf];obtain⟨k1,s1⟩:=a;obtain⟨k2,s2⟩:=c;have p1:=sI (P:=Tryz.prog) (w:=w) (xs:= #[i64 k1,str s1]) (i:=0) (v:=i64 k1) ts3 rfl;have p2:=sI (P:=Tryz.prog) (w:=w) (xs:= #[i64 k2,str s2]) (i:=0) (v:=i64 k2) ts3 rfl;have p3:=sI (P:=Tryz.prog) (w:=w) (xs:= #[i64 k1,str s1]) (i:=1) (v:=str s1) ts9 rfl;have p4:=sI (P:=Tryz.prog) (w:=w) (xs:= #[i64 k2,str s2]) (i:=1) (v:=str s2) ts9 rfl;have q1:(Op.equalIn 9999 3 (i64 k1) (i64 k2)).run Tryz.prog w=.ok (k1==k2) w:=run_equalIn_int (P:=Tryz.prog) w 9998 3 .i64 .i64 k1 k2 Tryz.underlying3;have q2:(Op.equalIn 9999 9 (str s1) (str s2)).run Tryz.prog w=.ok (decide (s1=s2)) w:=by
  have:=run_equalIn_string (P:=Tryz.prog) w 9998 9 ⟨s1.toArray⟩ ⟨s2.toArray⟩ Tryz.underlying9;rw[←beq_toListBytes,aKB]at this;exact this
 simp only[Op.eqFields];rw[if_pos (by decide),aT p1,aT p2,aT q1]
 by_cases h:k1=k2
 ·subst h;rw[if_neg (by simp),if_pos (by decide),aT p3,aT p4,aT q2]
  by_cases h2:s1=s2
  ·subst h2;simp[pure,Sem.run]
  ·simp[h2,pure,Sem.run]
 ·rw[if_pos (by simp[h])];simp[h,pure,Sem.run]
theorem aBY{n:Nat}{ds:List Deferred}{w0:World}{F:Hl}{fr:Fr}{K:Hl}{L:List Asn}{dst:Option Tmp}{ty t':TypeId}{pos:String}{aft:Array Edge}{g:Option (Nat×Bool)}{x y:Operand}{a c:Action}(hx:fr.ev x=some (.agg #[i64 a.1,str a.2]))(hy:fr.ev y=some (.agg #[i64 c.1,str c.2])):
  Ev ⟨Tryz.prog,n,ds,w0,F⟩ fr K L ⟨dst,.binOp .eql 34 x y t',ty,pos,aft,g⟩ (.bool (decide (a=c))):=
 fF hx hy (fun w=>run_eqGuard_agg w _ _ _ _ _ _ Tryz.eqGuardType34) fun w=>by
  rw[run_eql_struct,aWK];rfl
theorem aFL(av:Value)(l:List Action)(a:Action)(K:Hl)(hl:l.length≤100):Sp Tryz.prog 310 [av,.agg #[i64 a.1,str a.2]] K [sl true cY av l] (Ret fun v K' L'=>∃i:Int,v=i64 i∧(0≤i↔a∈l)∧K'=K∧L'=[sl true cY av l]):=by
 refine aZ Tryz.func310 rfl Tryz.ntmps310 rfl rfl fun F w=>?_
 refine aH (aB ?_);refine uBk ?_;rintro _ K _ ⟨b3,rfl,rfl,rfl⟩ -;refine uAb ?_;refine aG (aE ?_);refine aH (aH ?_);refine uAf ?_;refine aA (cB (k:=cY) rfl Tryz.underlying29 rfl aL) rfl ?_;refine uAa ?_;refine aG (aE ?_);refine bE ?_;refine eR (fun(i:Nat)=>i≤l.length∧a∉l.take i) (fun i=>[(0,av),(3,ptr b3),(7,i64 l.length),(8,i64 i)]) (fun _=>_) (fun i=>[pt b3 (aU [i64 a.1,str a.2] 34),sl true cY av l]) (fun i=>l.length - i) 0 ⟨Nat.zero_le _,by simp⟩ (.cons 0 rfl (.cons 3 rfl (.cons 7 rfl (.cons 8 rfl .nil)))) rfl (fun _ h=>h) ?_;intro i ⟨hi0,hi1⟩;refine aH (aB ?_);refine uBn ?_;refine aG (aE ?_);refine aH ?_;refine bK 9 rfl (fun h9=>?_) (fun h9=>?_)
 ·
  have hilt:i < l.length:=by omega
  obtain⟨x,hx⟩:∃x,l[i]?=some x:=⟨l[i]'hilt,List.getElem?_eq_getElem hilt⟩;refine aW ?_;refine aE (aH ?_);refine bE (aH ?_);refine uFz ?_;refine aG (aE ?_);refine aH ?_;refine t_draw (anc:=[0,0,0,6,14,31]) (ord:=[0,1,2,3,4,5]) [] [] mixed (by decide+kernel) (cS _) ?_;refine dl_ev rfl rfl (.none rfl) rfl rfl (bX kD rfl aL rfl rfl) rfl ?_;refine uGg ?_;refine dl_ev rfl rfl (.none rfl) rfl rfl (b0 (k:=cY) iS rfl aL rfl rfl (by first|assumption|omega)) rfl ?_;refine dl_ev rfl rfl (.none rfl) rfl rfl (eE (n:=0) (k:=cY) kD rfl aL bU) rfl ?_;refine dl_ev rfl rfl (.none rfl) rfl rfl (aBY (a:=a) (c:=x) rfl rfl) rfl ?_;refine uDf ?_;refine bK 16 rfl (fun h16=>?_) (fun h16=>?_)
  ·
   refine aH (aB ?_);refine uEj ?_;refine aG (aE ?_);refine uEk ?_;refine uEy ?_;refine bF rfl rfl (Hl.le_refl _) ?_;exact⟨_,rfl,i,rfl,⟨fun _=>by rw[h16];exact List.mem_of_getElem? hx,fun _=>by omega⟩,rfl,rfl⟩
  ·
   refine aW ?_;refine aN (aE ?_);refine uDj ?_;refine cQ (i+1) ⟨by omega,?_⟩ aI (.cons 0 rfl (.cons 3 rfl (.cons 7 rfl (.cons 8 rfl .nil)))) rfl (fun _ h=>h)
   have hxe:l[i]'hilt=x:=by simpa[List.getElem?_eq_getElem hilt]using hx
   rw[List.take_succ_eq_append_getElem hilt,hxe];intro hm;rcases List.mem_append.1 hm with h|h
   ·exact hi1 h
   ·simp at h;exact h16 h
 ·
  have hno:a∉l:=(by rw[List.take_of_length_le aI]at hi1;exact hi1);refine uAp ?_;refine aE (aH ?_);refine uFr ?_;refine aG (aE ?_);refine bI ?_;refine uEy ?_;refine bF rfl rfl (Hl.le_refl _) ?_;exact⟨_,rfl,-1,rfl,⟨fun h=>by omega,fun h=>absurd h hno⟩,rfl,rfl⟩
theorem qU(av:Value)(l:List Action)(a:Action)(K:Hl)(hl:l.length≤100):Sp Tryz.prog 257 [av,.agg #[i64 a.1,str a.2]] K [sl true cY av l] (Ret fun v K' L'=>v=.bool (decide (a∈l))∧K'=K∧L'=[sl true cY av l]):=by
 refine aZ Tryz.func257 rfl Tryz.ntmps257 rfl rfl fun F w=>?_
 refine aH (aB ?_);refine uBk ?_;rintro _ K _ ⟨b3,rfl,rfl,rfl⟩ -;refine uAb ?_;refine aG (aE ?_);refine aH (aB ?_);refine uAa ?_;refine aA (bX kD rfl aL rfl rfl) rfl ?_;refine bC rfl rfl (aFL av l a _ hl) (.cons (.there .here) .nil) rfl ?_;rintro _ K _ ⟨i,rfl,hi,rfl,rfl⟩ -;refine uEl ?_;refine uAb ?_;refine aG (aE ?_);refine uDi ?_;refine bF rfl rfl (Hl.le_refl _) ?_;have e:decide (0≤i)=decide (a∈l):=decide_eq_decide.2 hi;rw[e];exact⟨_,rfl,rfl,rfl,rfl⟩
end Go.Proofs
end
section
namespace Go.Proofs
open Go Go.SL Go.Syn Go.Mach
def actC(o:Ins)(s:MS)(a:Action):Res MS:=
 if a∈s.acts then .ok {s with keep:=false}
 else if (∃b∈s.acts,a.1=4∨b.1=4)then .error (10,o.at_)
 else if s.acts.length=6 then .error (11,o.at_)
 else .ok {s with keep:=false,acts:=s.acts++[a]}
def actB(o:Ins)(s:MS)(arg:List UInt8):Res MS:=
 if o.tag=2∧boxed arg=false then .error (8,o.at_)
 else if o.tag=3∧jY arg=false then .error (9,o.at_)
 else actC o s (Mach.actV o arg)
theorem aS6{nm:Bool}{o:Ins}{s:MS}(h:o.tag=1∨(2≤o.tag∧o.tag≤4∧o.a≠[])):actI nm o s=actB o s (actA nm o s):=by
 unfold actI;rw[if_pos h];rfl
theorem aS7{nm:Bool}{o:Ins}{s:MS}(h:¬(o.tag=1∨(2≤o.tag∧o.tag≤4∧o.a≠[]))):actI nm o s=.error (12,s.pc):=by
 unfold actI;rw[if_neg h];rfl
theorem yS{nm:Bool}{o:Ins}{s:MS}(h:¬(o.tag=1∨(2≤o.tag∧o.tag≤4∧0 < o.a.length))):actI nm o s=.error (12,s.pc):=
 aS7 fun h'=>h (h'.imp_right fun⟨a,b,c⟩=>⟨a,b,List.length_pos_iff.2 c⟩)
theorem mQ{nm:Bool}{o:Ins}{s:MS}(h:o.tag=1∨(2≤o.tag∧o.tag≤4∧0 < o.a.length)):actI nm o s=actB o s (actA nm o s):=aS6 (h.imp_right fun⟨a,b,c⟩=>⟨a,b,List.length_pos_iff.1 c⟩)
theorem aDH{nm:Bool}{o:Ins}{s:MS}(h:o.tag=1):actA nm o s=[]:=by unfold actA;rw[if_pos h]
theorem aDI{nm:Bool}{o:Ins}{s:MS}{x:List UInt8}(h:¬o.tag=1)(hx:o.a[0]?=some x):actA nm o s=dF nm s.vars s.parts x:=by unfold actA;rw[if_neg h,hx];rfl
theorem aLR(b mb:Nat)(m:Msg)(hv pv:Value)(nm:Bool)(s:MS)(o:Ins)(av0 bv:Value)(n:Int)(K:Hl)(hg:Glob K)(hpv:Ksl (bT 9) K pv s.parts)(ha:Ksl (bT 9) K av0 o.a)(hb:Ksl (bT 9) K bv o.b)(hs:∀x∈o.a,x.length≤100000)(hsm:o1 s.vars s.parts)(hl:s.acts.length≤6)
  (hadr:∀(x:List UInt8) (K:Hl),Glob K→x.length≤100000→Sp Tryz.prog 256 [str x] K [] (Val (.bool (jY x)) K)):
  Sp Tryz.prog 153 [ptr b,l4 o av0 bv,i64 n] K [mch b mb m hv pv nm s] (MI b mb m hv nm (actI nm o s)):=by
 obtain⟨sa,sn,sc,rfl⟩:=ha.isSlice;obtain⟨ta,tn,tc,rfl⟩:=hb.isSlice;refine aZ Tryz.func153 rfl Tryz.ntmps153 rfl rfl fun F w=>?_
 refine qQ fun av sv f c=>?_
 refine aH (aB ?_);refine uBk ?_;rintro _ K _ ⟨b4,rfl,rfl,rfl⟩ -;refine aG (aE ?_);refine aH (aB ?_);refine uAa ?_;refine uIn ?_;refine uHf ?_;refine cG 13 rfl (fun g13=>?_) (fun g13=>?_)
 ·
  refine uAc ?_;refine uIt ?_;refine uDm ?_;refine gV rfl rfl rfl ?_;refine uBj ?_;refine uDm ?_;refine uDm ?_;refine uIt ?_;refine uAy ?_;refine cA rfl rfl (yD _ _) rfl ?_;have hcc:o.tag=1∨(2≤o.tag∧o.tag≤4∧0 < o.a.length):=.inl g13;refine aQ2 (.cons (.there .here) (.cons .here .nil)) ?_;refine aG (aE ?_);refine aH (aB ?_);refine uIn ?_;refine uFj ?_;refine ol_s (cN tz34) rfl ?_;rintro _ K _ ⟨b6,rfl,rfl,rfl⟩ -;refine bP (cJ kD rfl rfl rfl aX (by first|(simp[Value.oneCell'];done)|exact fun c hc=>El.one _ _ c hc) (.cons (.cons .nil)) (by intro j hj;simp)) ?_;rintro _ K _ ⟨rfl,rfl⟩ -;refine aG (aE ?_);refine gS (fun(u:List UInt8)=>u.length≤100000∧actI nm o s=actB o s u) (fun u=>[(0,ptr b),(4,ptr b4),(6,ptr b6)]) (fun _=>K) (fun u=>[pt b6 (aU [i64 o.tag,str u] 34),mblk b (str m.from_) (str m.to_) (i64 m.size) hv av (.bool s.keep) (.bool nm) (.map (some mb)) pv sv s.pc,sl true cY av s.acts,sl false gA sv s.stack,pt mb (mapO (iE s.vars f) c),pt b4 (aU [i64 o.op,i64 o.n,i64 o.tag,.bool o.oct,.slice sa sn sc,.slice ta tn tc,i64 o.at_] 41)]) ?_ ?_
  ·
   refine aH (aB ?_);refine uIn ?_;refine uDu ?_;refine aG (aE ?_);refine bK 35 rfl (fun h35=>?_) (fun h35=>?_)
   ·
    obtain⟨xa,hxa⟩:∃x,o.a[0]?=some x:=⟨o.a[0]'(by omega),List.getElem?_eq_getElem aI⟩;refine uAf ?_;refine uFe ?_;refine uCo ?_;refine aA (b0 (k:=bT 9) (j:=0) cX rfl (.known ha) rfl rfl aI) rfl ?_;refine uCm ?_;refine bC rfl rfl (oM b mb _ _ _ _ _ _ pv _ _ nm s.vars f c s.parts xa _ hg hpv (hs xa (List.mem_of_getElem? hxa)) hsm) (.cons (.there .here) (.cons (.there (.there (.there (.there .here)))) .nil)) rfl ?_;rintro _ K _ ⟨rfl,rfl,rfl⟩ -;refine uBt ?_;rintro _ K _ ⟨rfl,rfl⟩ -;refine aG ?_
    first
     |(refine aO (.cons (.there (.there .here)) (.cons .here (.cons (.there (.there .here)) (.cons (.there (.there .here)) (.cons .here (.cons .here .nil)))))) ?_;exact bZ _ ⟨iX (hs xa (List.mem_of_getElem? hxa)),by rw[mQ hcc,aDI h35 hxa]⟩ (.cons 0 rfl (.cons 4 rfl (.cons 6 rfl .nil))) rfl bO)
     |(refine aO (.cons .here (.cons .here (.cons (.there .here) (.cons (.there .here) (.cons (.there .here) (.cons .here .nil)))))) ?_;exact bZ [] ⟨by simp,by rw[mQ hcc,aDH (Classical.not_not.1 h35)]⟩ (.cons 0 rfl (.cons 4 rfl (.cons 6 rfl .nil))) rfl bO)
   ·
    refine aW ?_
    first
     |(refine aO (.cons (.there (.there .here)) (.cons .here (.cons (.there (.there .here)) (.cons (.there (.there .here)) (.cons .here (.cons .here .nil)))))) ?_;exact bZ _ ⟨iX (hs xa (List.mem_of_getElem? hxa)),by rw[mQ hcc,aDI h35 hxa]⟩ (.cons 0 rfl (.cons 4 rfl (.cons 6 rfl .nil))) rfl bO)
     |(refine aO (.cons .here (.cons .here (.cons (.there .here) (.cons (.there .here) (.cons (.there .here) (.cons .here .nil)))))) ?_;exact bZ [] ⟨by simp,by rw[mQ hcc,aDH (Classical.not_not.1 h35)]⟩ (.cons 0 rfl (.cons 4 rfl (.cons 6 rfl .nil))) rfl bO)
  ·
   intro u ⟨hul,hok⟩;refine gS (fun(a:Action)=>actI nm o s=actC o s a) (fun _=>[(0,ptr b),(4,ptr b4),(6,ptr b6)]) (fun _=>K) (fun a=>[pt b6 (aU [i64 a.1,str a.2] 34),mblk b (str m.from_) (str m.to_) (i64 m.size) hv av (.bool s.keep) (.bool nm) (.map (some mb)) pv sv s.pc,sl true cY av s.acts,sl false gA sv s.stack,pt mb (mapO (iE s.vars f) c),pt b4 (aU [i64 o.op,i64 o.n,i64 o.tag,.bool o.oct,.slice sa sn sc,.slice ta tn tc,i64 o.at_] 41)]) ?_ ?_
   ·
    refine bE (aH ?_);refine aB ?_;refine uBo ?_;refine uAa ?_;refine cG 47 rfl (fun g47=>?_) (fun g47=>?_)
    ·
     refine uDc ?_;refine cA rfl rfl (pX u _ aI) rfl ?_;refine uAz ?_;refine aA (by first|exact dP rfl|exact dO rfl) rfl ?_;refine uDv ?_;refine aG (aE ?_);refine eJ 43 rfl (fun h43=>?_) (fun h43=>?_)
     ·
      have hB:actB o s u=.error (8,o.at_):=(by unfold actB;rw[if_pos ⟨g47,by simpa using h43⟩]);refine uCd ?_;refine aY rfl rfl (iQ _ 8 o.at_ _) .nil rfl (by rintro _ _ ⟨_,h,_⟩;cases h) ?_ ?_
      ·
       rintro _ _ _ ⟨fb,h,rfl⟩ le1;cases h
       refine uHj ?_;unfold MI;rw[hok,hB];exact⟨fb,rfl,rfl⟩
      ·
       rintro _ _ _ ⟨_,h,_⟩;cases h
     ·
      refine aH (aB ?_);refine uBo ?_;refine uAa ?_;refine cG 61 rfl (fun g61=>?_) (fun g61=>?_)
      ·
       refine uDc ?_;refine cA rfl rfl (hadr u _ hg hul) rfl ?_;refine uAz ?_;refine aA (by first|exact dP rfl|exact dO rfl) rfl ?_;refine uDv ?_;refine aG (aE ?_);refine eJ 57 rfl (fun h57=>?_) (fun h57=>?_)
       ·
        have hB:actB o s u=.error (9,o.at_):=(by unfold actB;rw[if_neg aI,if_pos ⟨g61,by simpa using h57⟩]);refine uCd ?_;refine aY rfl rfl (iQ _ 9 o.at_ _) .nil rfl (by rintro _ _ ⟨_,h,_⟩;cases h) ?_ ?_
        ·
         rintro _ _ _ ⟨fb,h,rfl⟩ le1;cases h
         refine uHj ?_;unfold MI;rw[hok,hB];exact⟨fb,rfl,rfl⟩
        ·
         rintro _ _ _ ⟨_,h,_⟩;cases h
       ·
        refine aH (aB ?_);refine uBo ?_;refine uAb ?_;refine aG (aE ?_);refine bK 71 rfl (fun h71=>?_) (fun h71=>?_)
        ·
         refine uAu ?_;refine aA (eS (n:=min u.length 48) Tryz.underlying9 rfl rfl (by split <;> omega) aI) rfl ?_;refine uBt ?_;rintro _ K _ ⟨rfl,rfl⟩ -;refine aG (aN ?_);have hB:actB o s u=actC o s (Mach.actV o u):=(by unfold actB;rw[if_neg (by first|omega|(rintro⟨_,hq⟩;simp[hq]at h43)),if_neg (by first|omega|(rintro⟨_,hq⟩;simp[hq]at h57))])
         first
          |(exact bZ (o.tag,u.take (min u.length 48)) (by rw[hok,hB];unfold Mach.actV;rw[if_pos h71,fY]) (.cons 0 rfl (.cons 4 rfl (.cons 6 rfl .nil))) rfl bO)
          |(exact bZ (o.tag,u) (by rw[hok,hB];unfold Mach.actV;rw[if_neg h71]) (.cons 0 rfl (.cons 4 rfl (.cons 6 rfl .nil))) rfl bO)
        ·
         refine uGr ?_;have hB:actB o s u=actC o s (Mach.actV o u):=(by unfold actB;rw[if_neg (by first|omega|(rintro⟨_,hq⟩;simp[hq]at h43)),if_neg (by first|omega|(rintro⟨_,hq⟩;simp[hq]at h57))])
         first
          |(exact bZ (o.tag,u.take (min u.length 48)) (by rw[hok,hB];unfold Mach.actV;rw[if_pos h71,fY]) (.cons 0 rfl (.cons 4 rfl (.cons 6 rfl .nil))) rfl bO)
          |(exact bZ (o.tag,u) (by rw[hok,hB];unfold Mach.actV;rw[if_neg h71]) (.cons 0 rfl (.cons 4 rfl (.cons 6 rfl .nil))) rfl bO)
      ·
       refine uIo ?_;refine aG (aE ?_);refine uHq ?_;refine aH (aB ?_);refine uBo ?_;refine uAb ?_;refine aG (aE ?_);refine bK 71 rfl (fun h71=>?_) (fun h71=>?_)
       ·
        refine uAu ?_;refine aA (eS (n:=min u.length 48) Tryz.underlying9 rfl rfl (by split <;> omega) aI) rfl ?_;refine uBt ?_;rintro _ K _ ⟨rfl,rfl⟩ -;refine aG (aN ?_);have hB:actB o s u=actC o s (Mach.actV o u):=(by unfold actB;rw[if_neg (by first|omega|(rintro⟨_,hq⟩;simp[hq]at h43)),if_neg (by first|omega|(rintro⟨_,hq⟩;simp[hq]at h57))])
        first
         |(exact bZ (o.tag,u.take (min u.length 48)) (by rw[hok,hB];unfold Mach.actV;rw[if_pos h71,fY]) (.cons 0 rfl (.cons 4 rfl (.cons 6 rfl .nil))) rfl bO)
         |(exact bZ (o.tag,u) (by rw[hok,hB];unfold Mach.actV;rw[if_neg h71]) (.cons 0 rfl (.cons 4 rfl (.cons 6 rfl .nil))) rfl bO)
       ·
        refine uGr ?_;have hB:actB o s u=actC o s (Mach.actV o u):=(by unfold actB;rw[if_neg (by first|omega|(rintro⟨_,hq⟩;simp[hq]at h43)),if_neg (by first|omega|(rintro⟨_,hq⟩;simp[hq]at h57))])
        first
         |(exact bZ (o.tag,u.take (min u.length 48)) (by rw[hok,hB];unfold Mach.actV;rw[if_pos h71,fY]) (.cons 0 rfl (.cons 4 rfl (.cons 6 rfl .nil))) rfl bO)
         |(exact bZ (o.tag,u) (by rw[hok,hB];unfold Mach.actV;rw[if_neg h71]) (.cons 0 rfl (.cons 4 rfl (.cons 6 rfl .nil))) rfl bO)
    ·
     refine uIo ?_;refine aG (aE ?_);refine uHq ?_;refine aH (aB ?_);refine uBo ?_;refine uAa ?_;refine cG 61 rfl (fun g61=>?_) (fun g61=>?_)
     ·
      refine uDc ?_;refine cA rfl rfl (hadr u _ hg hul) rfl ?_;refine uAz ?_;refine aA (by first|exact dP rfl|exact dO rfl) rfl ?_;refine uDv ?_;refine aG (aE ?_);refine eJ 57 rfl (fun h57=>?_) (fun h57=>?_)
      ·
       have hB:actB o s u=.error (9,o.at_):=(by unfold actB;rw[if_neg aI,if_pos ⟨g61,by simpa using h57⟩]);refine uCd ?_;refine aY rfl rfl (iQ _ 9 o.at_ _) .nil rfl (by rintro _ _ ⟨_,h,_⟩;cases h) ?_ ?_
       ·
        rintro _ _ _ ⟨fb,h,rfl⟩ le1;cases h
        refine uHj ?_;unfold MI;rw[hok,hB];exact⟨fb,rfl,rfl⟩
       ·
        rintro _ _ _ ⟨_,h,_⟩;cases h
      ·
       refine aH (aB ?_);refine uBo ?_;refine uAb ?_;refine aG (aE ?_);refine bK 71 rfl (fun h71=>?_) (fun h71=>?_)
       ·
        refine uAu ?_;refine aA (eS (n:=min u.length 48) Tryz.underlying9 rfl rfl (by split <;> omega) aI) rfl ?_;refine uBt ?_;rintro _ K _ ⟨rfl,rfl⟩ -;refine aG (aN ?_);have hB:actB o s u=actC o s (Mach.actV o u):=(by unfold actB;rw[if_neg (by first|omega|(rintro⟨_,hq⟩;simp[hq]at h43)),if_neg (by first|omega|(rintro⟨_,hq⟩;simp[hq]at h57))])
        first
         |(exact bZ (o.tag,u.take (min u.length 48)) (by rw[hok,hB];unfold Mach.actV;rw[if_pos h71,fY]) (.cons 0 rfl (.cons 4 rfl (.cons 6 rfl .nil))) rfl bO)
         |(exact bZ (o.tag,u) (by rw[hok,hB];unfold Mach.actV;rw[if_neg h71]) (.cons 0 rfl (.cons 4 rfl (.cons 6 rfl .nil))) rfl bO)
       ·
        refine uGr ?_;have hB:actB o s u=actC o s (Mach.actV o u):=(by unfold actB;rw[if_neg (by first|omega|(rintro⟨_,hq⟩;simp[hq]at h43)),if_neg (by first|omega|(rintro⟨_,hq⟩;simp[hq]at h57))])
        first
         |(exact bZ (o.tag,u.take (min u.length 48)) (by rw[hok,hB];unfold Mach.actV;rw[if_pos h71,fY]) (.cons 0 rfl (.cons 4 rfl (.cons 6 rfl .nil))) rfl bO)
         |(exact bZ (o.tag,u) (by rw[hok,hB];unfold Mach.actV;rw[if_neg h71]) (.cons 0 rfl (.cons 4 rfl (.cons 6 rfl .nil))) rfl bO)
     ·
      refine uIo ?_;refine aG (aE ?_);refine uHq ?_;refine aH (aB ?_);refine uBo ?_;refine uAb ?_;refine aG (aE ?_);refine bK 71 rfl (fun h71=>?_) (fun h71=>?_)
      ·
       refine uAu ?_;refine aA (eS (n:=min u.length 48) Tryz.underlying9 rfl rfl (by split <;> omega) aI) rfl ?_;refine uBt ?_;rintro _ K _ ⟨rfl,rfl⟩ -;refine aG (aN ?_);have hB:actB o s u=actC o s (Mach.actV o u):=(by unfold actB;rw[if_neg (by first|omega|(rintro⟨_,hq⟩;simp[hq]at h43)),if_neg (by first|omega|(rintro⟨_,hq⟩;simp[hq]at h57))])
       first
        |(exact bZ (o.tag,u.take (min u.length 48)) (by rw[hok,hB];unfold Mach.actV;rw[if_pos h71,fY]) (.cons 0 rfl (.cons 4 rfl (.cons 6 rfl .nil))) rfl bO)
        |(exact bZ (o.tag,u) (by rw[hok,hB];unfold Mach.actV;rw[if_neg h71]) (.cons 0 rfl (.cons 4 rfl (.cons 6 rfl .nil))) rfl bO)
      ·
       refine uGr ?_;have hB:actB o s u=actC o s (Mach.actV o u):=(by unfold actB;rw[if_neg (by first|omega|(rintro⟨_,hq⟩;simp[hq]at h43)),if_neg (by first|omega|(rintro⟨_,hq⟩;simp[hq]at h57))])
       first
        |(exact bZ (o.tag,u.take (min u.length 48)) (by rw[hok,hB];unfold Mach.actV;rw[if_pos h71,fY]) (.cons 0 rfl (.cons 4 rfl (.cons 6 rfl .nil))) rfl bO)
        |(exact bZ (o.tag,u) (by rw[hok,hB];unfold Mach.actV;rw[if_neg h71]) (.cons 0 rfl (.cons 4 rfl (.cons 6 rfl .nil))) rfl bO)
   ·
    intro a hok;refine aH (aB ?_);refine uBz ?_;refine uEh ?_;refine uDt ?_;rintro _ K _ ⟨rfl,rfl⟩ -;refine aG (aE ?_);refine aH (aH ?_);refine t_draw (anc:=[0,1,3,7,15,0,63]) (ord:=[0,1,2,3,4,5,6]) [6] [6] mixed (by decide+kernel) (cS _) ?_;refine uBm ?_;refine gK rfl (.none rfl) rfl rfl rfl (qU av s.acts a _ aI) (.cons (.there (.there .here)) .nil) rfl ?_;rintro _ K _ ⟨rfl,rfl,rfl⟩ -;refine uDf ?_;refine bK 93 rfl (fun h93=>?_) (fun h93=>?_)
    ·
     refine uCk ?_
     first
      |(refine aO (.cons (.there (.there .here)) (.cons .here (.cons (.there .here) (.cons (.there .here) .nil)))) ?_;refine dN (dR (m:=m) (hv:=hv) (pv:=pv) (nm:=nm) (s:={s with keep:=false})) ?_)
      |(refine aO (.cons (.there .here) (.cons (.there .here) (.cons (.there (.there .here)) (.cons (.there (.there .here)) .nil)))) ?_;refine dN (dR (m:=m) (hv:=hv) (pv:=pv) (nm:=nm) (s:={s with keep:=false,acts:=s.acts++[a]})) ?_)
     refine tK rfl (Hl.le_refl _) ?_;unfold MI;rw[hok];unfold actC
     first
      |(rw[if_pos h93];exact⟨_,rfl,rfl,pv,hpv,rfl⟩)
      |(rw[if_neg h93,if_neg hnc,if_neg aI];exact⟨_,rfl,rfl,pv,hpv,rfl⟩)
    ·
     refine aW ?_;refine aE (aH ?_);refine aH (aB ?_);refine uAa ?_;refine uBd ?_;refine aA (cB (k:=cY) rfl Tryz.underlying29 rfl aL) rfl ?_;refine uAa ?_;refine aG (aE ?_);refine bE ?_;refine eR (fun(i:Nat)=>i≤s.acts.length∧∀(j:Nat) (x:Action),j < i→s.acts[j]?=some x→¬(a.1=4∨x.1=4)) (fun i=>[(0,ptr b),(4,ptr b4),(6,ptr b6),(98,av),(99,i64 s.acts.length),(100,i64 i)]) (fun _=>K) (fun i=>[sl true cY av s.acts,pt b6 (aU [i64 a.1,str a.2] 34),mblk b (str m.from_) (str m.to_) (i64 m.size) hv av (.bool false) (.bool nm) (.map (some mb)) pv sv s.pc,sl false gA sv s.stack,pt mb (mapO (iE s.vars f) c),pt b4 (aU [i64 o.op,i64 o.n,i64 o.tag,.bool o.oct,.slice sa sn sc,.slice ta tn tc,i64 o.at_] 41)]) (fun i=>s.acts.length - i) 0 ⟨Nat.zero_le _,fun j x h _=>by omega⟩ (.cons 0 rfl (.cons 4 rfl (.cons 6 rfl (.cons 98 rfl (.cons 99 rfl (.cons 100 rfl .nil)))))) rfl (fun _ h=>h) ?_;intro i ⟨hi0,hi1⟩;refine aH (aB ?_);refine uBn ?_;refine aG (aE ?_);refine aH ?_;refine bK 101 rfl (fun h101=>?_) (fun h101=>?_)
     ·
      have hilt:i < s.acts.length:=by omega
      obtain⟨x,hx⟩:∃x,s.acts[i]?=some x:=⟨s.acts[i]'hilt,List.getElem?_eq_getElem hilt⟩;refine aW ?_;refine aE (aH ?_);refine bE (aH ?_);refine aB ?_;refine aA (b0 (k:=cY) iS rfl aL rfl rfl (by first|assumption|omega)) rfl ?_;refine aA (eE (n:=0) (k:=cY) kD rfl aL bU) rfl ?_;refine ol_s (cN tz34) rfl ?_;rintro _ K _ ⟨b8,rfl,rfl,rfl⟩ -;refine bP (cJ kD rfl rfl rfl aX (by first|(simp[Value.oneCell'];done)|exact fun c hc=>El.one _ _ c hc) (.cons (.cons .nil)) (by intro j hj;simp)) ?_;rintro _ K _ ⟨rfl,rfl⟩ -;refine aG (aE ?_);refine aH (aB ?_);refine uBo ?_;refine uAa ?_;refine cG 107 rfl (fun g107=>?_) (fun g107=>?_)
      ·
       refine uAc ?_;refine uAy ?_;refine aG (aE ?_);refine uGe ?_;refine uCd ?_;refine aY rfl rfl (iQ _ 10 o.at_ _) .nil rfl (by rintro _ _ ⟨_,h,_⟩;cases h) ?_ ?_
       ·
        rintro _ _ _ ⟨fb,h,rfl⟩ le1;cases h
        refine uEn ?_;refine aK ?_;refine uHm ?_;have hco:∃b∈s.acts,a.1=4∨b.1=4:=⟨x,List.mem_of_getElem? hx,by omega⟩;unfold MI;rw[hok];unfold actC;rw[if_neg h93,if_pos hco]
        exact⟨fb,rfl,rfl⟩
       ·
        rintro _ _ _ ⟨_,h,_⟩;cases h
      ·
       refine uAz ?_;refine aA (aD (o':=0) fB rfl rfl) rfl ?_;refine uDr ?_;refine uHe ?_;refine aG (aE ?_);refine bK 111 rfl (fun h111=>?_) (fun h111=>?_)
       ·
        refine uCd ?_;refine aY rfl rfl (iQ _ 10 o.at_ _) .nil rfl (by rintro _ _ ⟨_,h,_⟩;cases h) ?_ ?_
        ·
         rintro _ _ _ ⟨fb,h,rfl⟩ le1;cases h
         refine uEn ?_;refine aK ?_;refine uHm ?_;have hco:∃b∈s.acts,a.1=4∨b.1=4:=⟨x,List.mem_of_getElem? hx,by omega⟩;unfold MI;rw[hok];unfold actC;rw[if_neg h93,if_pos hco]
         exact⟨fb,rfl,rfl⟩
        ·
         rintro _ _ _ ⟨_,h,_⟩;cases h
       ·
        refine aW ?_;refine aN (aE ?_);refine uHa ?_;refine cQ (i+1) ⟨by omega,fun j y hj hy=>?_⟩ aI (.cons 0 rfl (.cons 4 rfl (.cons 6 rfl (.cons 98 rfl (.cons 99 rfl (.cons 100 rfl .nil)))))) rfl bO
        rcases Nat.lt_or_ge j i with h|h
        ·exact hi1 j y h hy
        ·have e:j=i:=by omega
         subst e;rw[hx]at hy;cases hy;intro hh;omega
     ·
      have hnc:¬ ∃b∈s.acts,a.1=4∨b.1=4:=(by rintro⟨x,hx,hh⟩;obtain⟨j,hj⟩:=List.getElem?_of_mem hx;exact hi1 j x (by rcases Nat.lt_or_ge j s.acts.length with h|h;omega;(rw[List.getElem?_eq_none h]at hj;cases hj)) hj hh);refine uAp ?_;refine aE (aH ?_);refine aH (aB ?_);refine uAa ?_;refine uBd ?_;refine aA (cB (k:=cY) rfl Tryz.underlying29 rfl aL) rfl ?_;refine uAq ?_;refine aG (aE ?_);refine bK 123 rfl (fun h123=>?_) (fun h123=>?_)
      ·
       refine uCd ?_;refine aY rfl rfl (iQ _ 11 o.at_ _) .nil rfl (by rintro _ _ ⟨_,h,_⟩;cases h) ?_ ?_
       ·
        rintro _ _ _ ⟨fb,h,rfl⟩ le1;cases h
        refine uAr ?_;unfold MI;rw[hok];unfold actC;rw[if_neg h93,if_neg hnc,if_pos aI]
        exact⟨fb,rfl,rfl⟩
       ·
        rintro _ _ _ ⟨_,h,_⟩;cases h
      ·
       refine uHp ?_;refine t_draw (anc:=[0,0,2,6,14,30,0,64,254,511,1023,2047,4095]) (ord:=[0,1,2,3,4,5,6,7,8,9,10,11,12]) [7,8,12] [12] mixed (by decide+kernel) (.cons (.there .here) (.cons (.there .here) .nil)) ?_;refine uAj ?_;refine uBm ?_;refine dl_s rfl rfl (.none rfl) rfl rfl (bN (z0:=[.int .i64 0,(str [])]) iS tz34 rfl rfl rfl rfl (.cons rfl rfl rfl (.cons (.cons .nil)) .nil)) rfl ?_;rintro _ K _ ⟨b135,rfl,rfl,rfl⟩ -;refine⟨_,(show Tks _ _ _ from (.cons (.there .here) (.cons (.there .here) .nil))).sat,?_⟩
       refine dl_s rfl rfl (.none rfl) rfl rfl (dM (k:=cY) (ys:=[a]) lO rfl rfl (.there (.there (.there .here))) (fun w j=>dB Tryz.underlying29 (SeesSl.at (k:=cY) (.blk (.own (.there (.there .here))) rfl rfl) j)) (by simp;omega) (by first|(simp;omega)|omega)) rfl ?_;rintro v136 K _ ⟨rfl,rfl,ho136⟩ -;refine⟨_,(show Tks _ _ _ from (.cons (.there .here) (.cons (.there .here) .nil))).sat,?_⟩
       refine uEt ?_;rintro _ K _ ⟨rfl,rfl⟩ -;refine dl_nil ?_
       first
        |(refine aO (.cons (.there (.there .here)) (.cons .here (.cons (.there .here) (.cons (.there .here) .nil)))) ?_;refine dN (dR (m:=m) (hv:=hv) (pv:=pv) (nm:=nm) (s:={s with keep:=false})) ?_)
        |(refine aO (.cons (.there .here) (.cons (.there .here) (.cons (.there (.there .here)) (.cons (.there (.there .here)) .nil)))) ?_;refine dN (dR (m:=m) (hv:=hv) (pv:=pv) (nm:=nm) (s:={s with keep:=false,acts:=s.acts++[a]})) ?_)
       refine dD rfl (Hl.le_refl _) ?_;unfold MI;rw[hok];unfold actC
       first
        |(rw[if_pos h93];exact⟨_,rfl,rfl,pv,hpv,rfl⟩)
        |(rw[if_neg h93,if_neg hnc,if_neg aI];exact⟨_,rfl,rfl,pv,hpv,rfl⟩)
 ·
  refine uAz ?_;refine uDh ?_;refine uDr ?_;refine uEl ?_;refine uHx ?_;refine cG 17 rfl (fun g17=>?_) (fun g17=>?_)
  ·
   refine uAz ?_;refine uDh ?_;refine uDr ?_;refine uEs ?_;refine uAz ?_;refine uAy ?_;refine uHx ?_;refine cG 22 rfl (fun g22=>?_) (fun g22=>?_)
   ·
    refine uAz ?_;refine uFe ?_;refine uHw ?_;refine uAz ?_;refine uAy ?_;refine uAt ?_;refine aY rfl rfl (n7 (0 < (o.a.length:Int)) _ _ _ _ _ _ _ _ _ _ _ _ _) (.cons (.there .here) .nil) rfl (fun _ _=>a8 _ _) ?_ ?_
    ·
     rintro _ _ _ hTr le1;obtain⟨e,p,hu,fb,h,rfl⟩:=bA hTr;cases h
     refine uAr ?_;have hbl:¬(0 < (o.a.length:Int)):=(by intro h;rw[if_pos h]at hu;cases hu);rw[if_neg hbl]at hu;cases hu
     have hno:=yS (nm:=nm) (s:=s) (o:=o) aI;unfold MI;rw[hno];exact⟨fb,rfl,rfl⟩
    rintro _ K _ hTr -;obtain⟨u0,hu,rfl,rfl,rfl⟩:=bB hTr;clear hTr;have hbl:0 < (o.a.length:Int):=Classical.byContradiction (fun h=>by rw[if_neg h]at hu;cases hu);have hcc:o.tag=1∨(2≤o.tag∧o.tag≤4∧0 < o.a.length):=.inr ⟨by omega,by omega,by omega⟩;refine aG (aE ?_);refine aH (aB ?_);refine uIn ?_;refine uFj ?_;refine ol_s (cN tz34) rfl ?_;rintro _ K _ ⟨b6,rfl,rfl,rfl⟩ -;refine bP (cJ kD rfl rfl rfl aX (by first|(simp[Value.oneCell'];done)|exact fun c hc=>El.one _ _ c hc) (.cons (.cons .nil)) (by intro j hj;simp)) ?_;rintro _ K _ ⟨rfl,rfl⟩ -;refine aG (aE ?_);refine gS (fun(u:List UInt8)=>u.length≤100000∧actI nm o s=actB o s u) (fun u=>[(0,ptr b),(4,ptr b4),(6,ptr b6)]) (fun _=>K) (fun u=>[pt b6 (aU [i64 o.tag,str u] 34),mblk b (str m.from_) (str m.to_) (i64 m.size) hv av (.bool s.keep) (.bool nm) (.map (some mb)) pv sv s.pc,sl true cY av s.acts,sl false gA sv s.stack,pt mb (mapO (iE s.vars f) c),pt b4 (aU [i64 o.op,i64 o.n,i64 o.tag,.bool o.oct,.slice sa sn sc,.slice ta tn tc,i64 o.at_] 41)]) ?_ ?_
    ·
     refine aH (aB ?_);refine uIn ?_;refine uDu ?_;refine aG (aE ?_);refine bK 35 rfl (fun h35=>?_) (fun h35=>?_)
     ·
      obtain⟨xa,hxa⟩:∃x,o.a[0]?=some x:=⟨o.a[0]'(by omega),List.getElem?_eq_getElem aI⟩;refine uAf ?_;refine uFe ?_;refine uCo ?_;refine aA (b0 (k:=bT 9) (j:=0) cX rfl (.known ha) rfl rfl aI) rfl ?_;refine uCm ?_;refine bC rfl rfl (oM b mb _ _ _ _ _ _ pv _ _ nm s.vars f c s.parts xa _ hg hpv (hs xa (List.mem_of_getElem? hxa)) hsm) (.cons (.there .here) (.cons (.there (.there (.there (.there .here)))) .nil)) rfl ?_;rintro _ K _ ⟨rfl,rfl,rfl⟩ -;refine uBt ?_;rintro _ K _ ⟨rfl,rfl⟩ -;refine aG ?_
      first
       |(refine aO (.cons (.there (.there .here)) (.cons .here (.cons (.there (.there .here)) (.cons (.there (.there .here)) (.cons .here (.cons .here .nil)))))) ?_;exact bZ _ ⟨iX (hs xa (List.mem_of_getElem? hxa)),by rw[mQ hcc,aDI h35 hxa]⟩ (.cons 0 rfl (.cons 4 rfl (.cons 6 rfl .nil))) rfl bO)
       |(refine aO (.cons .here (.cons .here (.cons (.there .here) (.cons (.there .here) (.cons (.there .here) (.cons .here .nil)))))) ?_;exact bZ [] ⟨by simp,by rw[mQ hcc,aDH (Classical.not_not.1 h35)]⟩ (.cons 0 rfl (.cons 4 rfl (.cons 6 rfl .nil))) rfl bO)
     ·
      refine aW ?_
      first
       |(refine aO (.cons (.there (.there .here)) (.cons .here (.cons (.there (.there .here)) (.cons (.there (.there .here)) (.cons .here (.cons .here .nil)))))) ?_;exact bZ _ ⟨iX (hs xa (List.mem_of_getElem? hxa)),by rw[mQ hcc,aDI h35 hxa]⟩ (.cons 0 rfl (.cons 4 rfl (.cons 6 rfl .nil))) rfl bO)
       |(refine aO (.cons .here (.cons .here (.cons (.there .here) (.cons (.there .here) (.cons (.there .here) (.cons .here .nil)))))) ?_;exact bZ [] ⟨by simp,by rw[mQ hcc,aDH (Classical.not_not.1 h35)]⟩ (.cons 0 rfl (.cons 4 rfl (.cons 6 rfl .nil))) rfl bO)
    ·
     intro u ⟨hul,hok⟩;refine gS (fun(a:Action)=>actI nm o s=actC o s a) (fun _=>[(0,ptr b),(4,ptr b4),(6,ptr b6)]) (fun _=>K) (fun a=>[pt b6 (aU [i64 a.1,str a.2] 34),mblk b (str m.from_) (str m.to_) (i64 m.size) hv av (.bool s.keep) (.bool nm) (.map (some mb)) pv sv s.pc,sl true cY av s.acts,sl false gA sv s.stack,pt mb (mapO (iE s.vars f) c),pt b4 (aU [i64 o.op,i64 o.n,i64 o.tag,.bool o.oct,.slice sa sn sc,.slice ta tn tc,i64 o.at_] 41)]) ?_ ?_
     ·
      refine bE (aH ?_);refine aB ?_;refine uBo ?_;refine uAa ?_;refine cG 47 rfl (fun g47=>?_) (fun g47=>?_)
      ·
       refine uDc ?_;refine cA rfl rfl (pX u _ aI) rfl ?_;refine uAz ?_;refine aA (by first|exact dP rfl|exact dO rfl) rfl ?_;refine uDv ?_;refine aG (aE ?_);refine eJ 43 rfl (fun h43=>?_) (fun h43=>?_)
       ·
        have hB:actB o s u=.error (8,o.at_):=(by unfold actB;rw[if_pos ⟨g47,by simpa using h43⟩]);refine uCd ?_;refine aY rfl rfl (iQ _ 8 o.at_ _) .nil rfl (by rintro _ _ ⟨_,h,_⟩;cases h) ?_ ?_
        ·
         rintro _ _ _ ⟨fb,h,rfl⟩ le1;cases h
         refine uHj ?_;unfold MI;rw[hok,hB];exact⟨fb,rfl,rfl⟩
        ·
         rintro _ _ _ ⟨_,h,_⟩;cases h
       ·
        refine aH (aB ?_);refine uBo ?_;refine uAa ?_;refine cG 61 rfl (fun g61=>?_) (fun g61=>?_)
        ·
         refine uDc ?_;refine cA rfl rfl (hadr u _ hg hul) rfl ?_;refine uAz ?_;refine aA (by first|exact dP rfl|exact dO rfl) rfl ?_;refine uDv ?_;refine aG (aE ?_);refine eJ 57 rfl (fun h57=>?_) (fun h57=>?_)
         ·
          have hB:actB o s u=.error (9,o.at_):=(by unfold actB;rw[if_neg aI,if_pos ⟨g61,by simpa using h57⟩]);refine uCd ?_;refine aY rfl rfl (iQ _ 9 o.at_ _) .nil rfl (by rintro _ _ ⟨_,h,_⟩;cases h) ?_ ?_
          ·
           rintro _ _ _ ⟨fb,h,rfl⟩ le1;cases h
           refine uHj ?_;unfold MI;rw[hok,hB];exact⟨fb,rfl,rfl⟩
          ·
           rintro _ _ _ ⟨_,h,_⟩;cases h
         ·
          refine aH (aB ?_);refine uBo ?_;refine uAb ?_;refine aG (aE ?_);refine bK 71 rfl (fun h71=>?_) (fun h71=>?_)
          ·
           refine uAu ?_;refine aA (eS (n:=min u.length 48) Tryz.underlying9 rfl rfl (by split <;> omega) aI) rfl ?_;refine uBt ?_;rintro _ K _ ⟨rfl,rfl⟩ -;refine aG (aN ?_);have hB:actB o s u=actC o s (Mach.actV o u):=(by unfold actB;rw[if_neg (by first|omega|(rintro⟨_,hq⟩;simp[hq]at h43)),if_neg (by first|omega|(rintro⟨_,hq⟩;simp[hq]at h57))])
           first
            |(exact bZ (o.tag,u.take (min u.length 48)) (by rw[hok,hB];unfold Mach.actV;rw[if_pos h71,fY]) (.cons 0 rfl (.cons 4 rfl (.cons 6 rfl .nil))) rfl bO)
            |(exact bZ (o.tag,u) (by rw[hok,hB];unfold Mach.actV;rw[if_neg h71]) (.cons 0 rfl (.cons 4 rfl (.cons 6 rfl .nil))) rfl bO)
          ·
           refine uGr ?_;have hB:actB o s u=actC o s (Mach.actV o u):=(by unfold actB;rw[if_neg (by first|omega|(rintro⟨_,hq⟩;simp[hq]at h43)),if_neg (by first|omega|(rintro⟨_,hq⟩;simp[hq]at h57))])
           first
            |(exact bZ (o.tag,u.take (min u.length 48)) (by rw[hok,hB];unfold Mach.actV;rw[if_pos h71,fY]) (.cons 0 rfl (.cons 4 rfl (.cons 6 rfl .nil))) rfl bO)
            |(exact bZ (o.tag,u) (by rw[hok,hB];unfold Mach.actV;rw[if_neg h71]) (.cons 0 rfl (.cons 4 rfl (.cons 6 rfl .nil))) rfl bO)
        ·
         refine uIo ?_;refine aG (aE ?_);refine uHq ?_;refine aH (aB ?_);refine uBo ?_;refine uAb ?_;refine aG (aE ?_);refine bK 71 rfl (fun h71=>?_) (fun h71=>?_)
         ·
          refine uAu ?_;refine aA (eS (n:=min u.length 48) Tryz.underlying9 rfl rfl (by split <;> omega) aI) rfl ?_;refine uBt ?_;rintro _ K _ ⟨rfl,rfl⟩ -;refine aG (aN ?_);have hB:actB o s u=actC o s (Mach.actV o u):=(by unfold actB;rw[if_neg (by first|omega|(rintro⟨_,hq⟩;simp[hq]at h43)),if_neg (by first|omega|(rintro⟨_,hq⟩;simp[hq]at h57))])
          first
           |(exact bZ (o.tag,u.take (min u.length 48)) (by rw[hok,hB];unfold Mach.actV;rw[if_pos h71,fY]) (.cons 0 rfl (.cons 4 rfl (.cons 6 rfl .nil))) rfl bO)
           |(exact bZ (o.tag,u) (by rw[hok,hB];unfold Mach.actV;rw[if_neg h71]) (.cons 0 rfl (.cons 4 rfl (.cons 6 rfl .nil))) rfl bO)
         ·
          refine uGr ?_;have hB:actB o s u=actC o s (Mach.actV o u):=(by unfold actB;rw[if_neg (by first|omega|(rintro⟨_,hq⟩;simp[hq]at h43)),if_neg (by first|omega|(rintro⟨_,hq⟩;simp[hq]at h57))])
          first
           |(exact bZ (o.tag,u.take (min u.length 48)) (by rw[hok,hB];unfold Mach.actV;rw[if_pos h71,fY]) (.cons 0 rfl (.cons 4 rfl (.cons 6 rfl .nil))) rfl bO)
           |(exact bZ (o.tag,u) (by rw[hok,hB];unfold Mach.actV;rw[if_neg h71]) (.cons 0 rfl (.cons 4 rfl (.cons 6 rfl .nil))) rfl bO)
      ·
       refine uIo ?_;refine aG (aE ?_);refine uHq ?_;refine aH (aB ?_);refine uBo ?_;refine uAa ?_;refine cG 61 rfl (fun g61=>?_) (fun g61=>?_)
       ·
        refine uDc ?_;refine cA rfl rfl (hadr u _ hg hul) rfl ?_;refine uAz ?_;refine aA (by first|exact dP rfl|exact dO rfl) rfl ?_;refine uDv ?_;refine aG (aE ?_);refine eJ 57 rfl (fun h57=>?_) (fun h57=>?_)
        ·
         have hB:actB o s u=.error (9,o.at_):=(by unfold actB;rw[if_neg aI,if_pos ⟨g61,by simpa using h57⟩]);refine uCd ?_;refine aY rfl rfl (iQ _ 9 o.at_ _) .nil rfl (by rintro _ _ ⟨_,h,_⟩;cases h) ?_ ?_
         ·
          rintro _ _ _ ⟨fb,h,rfl⟩ le1;cases h
          refine uHj ?_;unfold MI;rw[hok,hB];exact⟨fb,rfl,rfl⟩
         ·
          rintro _ _ _ ⟨_,h,_⟩;cases h
        ·
         refine aH (aB ?_);refine uBo ?_;refine uAb ?_;refine aG (aE ?_);refine bK 71 rfl (fun h71=>?_) (fun h71=>?_)
         ·
          refine uAu ?_;refine aA (eS (n:=min u.length 48) Tryz.underlying9 rfl rfl (by split <;> omega) aI) rfl ?_;refine uBt ?_;rintro _ K _ ⟨rfl,rfl⟩ -;refine aG (aN ?_);have hB:actB o s u=actC o s (Mach.actV o u):=(by unfold actB;rw[if_neg (by first|omega|(rintro⟨_,hq⟩;simp[hq]at h43)),if_neg (by first|omega|(rintro⟨_,hq⟩;simp[hq]at h57))])
          first
           |(exact bZ (o.tag,u.take (min u.length 48)) (by rw[hok,hB];unfold Mach.actV;rw[if_pos h71,fY]) (.cons 0 rfl (.cons 4 rfl (.cons 6 rfl .nil))) rfl bO)
           |(exact bZ (o.tag,u) (by rw[hok,hB];unfold Mach.actV;rw[if_neg h71]) (.cons 0 rfl (.cons 4 rfl (.cons 6 rfl .nil))) rfl bO)
         ·
          refine uGr ?_;have hB:actB o s u=actC o s (Mach.actV o u):=(by unfold actB;rw[if_neg (by first|omega|(rintro⟨_,hq⟩;simp[hq]at h43)),if_neg (by first|omega|(rintro⟨_,hq⟩;simp[hq]at h57))])
          first
           |(exact bZ (o.tag,u.take (min u.length 48)) (by rw[hok,hB];unfold Mach.actV;rw[if_pos h71,fY]) (.cons 0 rfl (.cons 4 rfl (.cons 6 rfl .nil))) rfl bO)
           |(exact bZ (o.tag,u) (by rw[hok,hB];unfold Mach.actV;rw[if_neg h71]) (.cons 0 rfl (.cons 4 rfl (.cons 6 rfl .nil))) rfl bO)
       ·
        refine uIo ?_;refine aG (aE ?_);refine uHq ?_;refine aH (aB ?_);refine uBo ?_;refine uAb ?_;refine aG (aE ?_);refine bK 71 rfl (fun h71=>?_) (fun h71=>?_)
        ·
         refine uAu ?_;refine aA (eS (n:=min u.length 48) Tryz.underlying9 rfl rfl (by split <;> omega) aI) rfl ?_;refine uBt ?_;rintro _ K _ ⟨rfl,rfl⟩ -;refine aG (aN ?_);have hB:actB o s u=actC o s (Mach.actV o u):=(by unfold actB;rw[if_neg (by first|omega|(rintro⟨_,hq⟩;simp[hq]at h43)),if_neg (by first|omega|(rintro⟨_,hq⟩;simp[hq]at h57))])
         first
          |(exact bZ (o.tag,u.take (min u.length 48)) (by rw[hok,hB];unfold Mach.actV;rw[if_pos h71,fY]) (.cons 0 rfl (.cons 4 rfl (.cons 6 rfl .nil))) rfl bO)
          |(exact bZ (o.tag,u) (by rw[hok,hB];unfold Mach.actV;rw[if_neg h71]) (.cons 0 rfl (.cons 4 rfl (.cons 6 rfl .nil))) rfl bO)
        ·
         refine uGr ?_;have hB:actB o s u=actC o s (Mach.actV o u):=(by unfold actB;rw[if_neg (by first|omega|(rintro⟨_,hq⟩;simp[hq]at h43)),if_neg (by first|omega|(rintro⟨_,hq⟩;simp[hq]at h57))])
         first
          |(exact bZ (o.tag,u.take (min u.length 48)) (by rw[hok,hB];unfold Mach.actV;rw[if_pos h71,fY]) (.cons 0 rfl (.cons 4 rfl (.cons 6 rfl .nil))) rfl bO)
          |(exact bZ (o.tag,u) (by rw[hok,hB];unfold Mach.actV;rw[if_neg h71]) (.cons 0 rfl (.cons 4 rfl (.cons 6 rfl .nil))) rfl bO)
     ·
      intro a hok;refine aH (aB ?_);refine uBz ?_;refine uEh ?_;refine uDt ?_;rintro _ K _ ⟨rfl,rfl⟩ -;refine aG (aE ?_);refine aH (aH ?_);refine t_draw (anc:=[0,1,3,7,15,0,63]) (ord:=[0,1,2,3,4,5,6]) [6] [6] mixed (by decide+kernel) (cS _) ?_;refine uBm ?_;refine gK rfl (.none rfl) rfl rfl rfl (qU av s.acts a _ aI) (.cons (.there (.there .here)) .nil) rfl ?_;rintro _ K _ ⟨rfl,rfl,rfl⟩ -;refine uDf ?_;refine bK 93 rfl (fun h93=>?_) (fun h93=>?_)
      ·
       refine uCk ?_
       first
        |(refine aO (.cons (.there (.there .here)) (.cons .here (.cons (.there .here) (.cons (.there .here) .nil)))) ?_;refine dN (dR (m:=m) (hv:=hv) (pv:=pv) (nm:=nm) (s:={s with keep:=false})) ?_)
        |(refine aO (.cons (.there .here) (.cons (.there .here) (.cons (.there (.there .here)) (.cons (.there (.there .here)) .nil)))) ?_;refine dN (dR (m:=m) (hv:=hv) (pv:=pv) (nm:=nm) (s:={s with keep:=false,acts:=s.acts++[a]})) ?_)
       refine tK rfl (Hl.le_refl _) ?_;unfold MI;rw[hok];unfold actC
       first
        |(rw[if_pos h93];exact⟨_,rfl,rfl,pv,hpv,rfl⟩)
        |(rw[if_neg h93,if_neg hnc,if_neg aI];exact⟨_,rfl,rfl,pv,hpv,rfl⟩)
      ·
       refine aW ?_;refine aE (aH ?_);refine aH (aB ?_);refine uAa ?_;refine uBd ?_;refine aA (cB (k:=cY) rfl Tryz.underlying29 rfl aL) rfl ?_;refine uAa ?_;refine aG (aE ?_);refine bE ?_;refine eR (fun(i:Nat)=>i≤s.acts.length∧∀(j:Nat) (x:Action),j < i→s.acts[j]?=some x→¬(a.1=4∨x.1=4)) (fun i=>[(0,ptr b),(4,ptr b4),(6,ptr b6),(98,av),(99,i64 s.acts.length),(100,i64 i)]) (fun _=>K) (fun i=>[sl true cY av s.acts,pt b6 (aU [i64 a.1,str a.2] 34),mblk b (str m.from_) (str m.to_) (i64 m.size) hv av (.bool false) (.bool nm) (.map (some mb)) pv sv s.pc,sl false gA sv s.stack,pt mb (mapO (iE s.vars f) c),pt b4 (aU [i64 o.op,i64 o.n,i64 o.tag,.bool o.oct,.slice sa sn sc,.slice ta tn tc,i64 o.at_] 41)]) (fun i=>s.acts.length - i) 0 ⟨Nat.zero_le _,fun j x h _=>by omega⟩ (.cons 0 rfl (.cons 4 rfl (.cons 6 rfl (.cons 98 rfl (.cons 99 rfl (.cons 100 rfl .nil)))))) rfl (fun _ h=>h) ?_;intro i ⟨hi0,hi1⟩;refine aH (aB ?_);refine uBn ?_;refine aG (aE ?_);refine aH ?_;refine bK 101 rfl (fun h101=>?_) (fun h101=>?_)
       ·
        have hilt:i < s.acts.length:=by omega
        obtain⟨x,hx⟩:∃x,s.acts[i]?=some x:=⟨s.acts[i]'hilt,List.getElem?_eq_getElem hilt⟩;refine aW ?_;refine aE (aH ?_);refine bE (aH ?_);refine aB ?_;refine aA (b0 (k:=cY) iS rfl aL rfl rfl (by first|assumption|omega)) rfl ?_;refine aA (eE (n:=0) (k:=cY) kD rfl aL bU) rfl ?_;refine ol_s (cN tz34) rfl ?_;rintro _ K _ ⟨b8,rfl,rfl,rfl⟩ -;refine bP (cJ kD rfl rfl rfl aX (by first|(simp[Value.oneCell'];done)|exact fun c hc=>El.one _ _ c hc) (.cons (.cons .nil)) (by intro j hj;simp)) ?_;rintro _ K _ ⟨rfl,rfl⟩ -;refine aG (aE ?_);refine aH (aB ?_);refine uBo ?_;refine uAa ?_;refine cG 107 rfl (fun g107=>?_) (fun g107=>?_)
        ·
         refine uAc ?_;refine uAy ?_;refine aG (aE ?_);refine uGe ?_;refine uCd ?_;refine aY rfl rfl (iQ _ 10 o.at_ _) .nil rfl (by rintro _ _ ⟨_,h,_⟩;cases h) ?_ ?_
         ·
          rintro _ _ _ ⟨fb,h,rfl⟩ le1;cases h
          refine uEn ?_;refine aK ?_;refine uHm ?_;have hco:∃b∈s.acts,a.1=4∨b.1=4:=⟨x,List.mem_of_getElem? hx,by omega⟩;unfold MI;rw[hok];unfold actC;rw[if_neg h93,if_pos hco]
          exact⟨fb,rfl,rfl⟩
         ·
          rintro _ _ _ ⟨_,h,_⟩;cases h
        ·
         refine uAz ?_;refine aA (aD (o':=0) fB rfl rfl) rfl ?_;refine uDr ?_;refine uHe ?_;refine aG (aE ?_);refine bK 111 rfl (fun h111=>?_) (fun h111=>?_)
         ·
          refine uCd ?_;refine aY rfl rfl (iQ _ 10 o.at_ _) .nil rfl (by rintro _ _ ⟨_,h,_⟩;cases h) ?_ ?_
          ·
           rintro _ _ _ ⟨fb,h,rfl⟩ le1;cases h
           refine uEn ?_;refine aK ?_;refine uHm ?_;have hco:∃b∈s.acts,a.1=4∨b.1=4:=⟨x,List.mem_of_getElem? hx,by omega⟩;unfold MI;rw[hok];unfold actC;rw[if_neg h93,if_pos hco]
           exact⟨fb,rfl,rfl⟩
          ·
           rintro _ _ _ ⟨_,h,_⟩;cases h
         ·
          refine aW ?_;refine aN (aE ?_);refine uHa ?_;refine cQ (i+1) ⟨by omega,fun j y hj hy=>?_⟩ aI (.cons 0 rfl (.cons 4 rfl (.cons 6 rfl (.cons 98 rfl (.cons 99 rfl (.cons 100 rfl .nil)))))) rfl bO
          rcases Nat.lt_or_ge j i with h|h
          ·exact hi1 j y h hy
          ·have e:j=i:=by omega
           subst e;rw[hx]at hy;cases hy;intro hh;omega
       ·
        have hnc:¬ ∃b∈s.acts,a.1=4∨b.1=4:=(by rintro⟨x,hx,hh⟩;obtain⟨j,hj⟩:=List.getElem?_of_mem hx;exact hi1 j x (by rcases Nat.lt_or_ge j s.acts.length with h|h;omega;(rw[List.getElem?_eq_none h]at hj;cases hj)) hj hh);refine uAp ?_;refine aE (aH ?_);refine aH (aB ?_);refine uAa ?_;refine uBd ?_;refine aA (cB (k:=cY) rfl Tryz.underlying29 rfl aL) rfl ?_;refine uAq ?_;refine aG (aE ?_);refine bK 123 rfl (fun h123=>?_) (fun h123=>?_)
        ·
         refine uCd ?_;refine aY rfl rfl (iQ _ 11 o.at_ _) .nil rfl (by rintro _ _ ⟨_,h,_⟩;cases h) ?_ ?_
         ·
          rintro _ _ _ ⟨fb,h,rfl⟩ le1;cases h
          refine uAr ?_;unfold MI;rw[hok];unfold actC;rw[if_neg h93,if_neg hnc,if_pos aI]
          exact⟨fb,rfl,rfl⟩
         ·
          rintro _ _ _ ⟨_,h,_⟩;cases h
        ·
         refine uHp ?_;refine t_draw (anc:=[0,0,2,6,14,30,0,64,254,511,1023,2047,4095]) (ord:=[0,1,2,3,4,5,6,7,8,9,10,11,12]) [7,8,12] [12] mixed (by decide+kernel) (.cons (.there .here) (.cons (.there .here) .nil)) ?_;refine uAj ?_;refine uBm ?_;refine dl_s rfl rfl (.none rfl) rfl rfl (bN (z0:=[.int .i64 0,(str [])]) iS tz34 rfl rfl rfl rfl (.cons rfl rfl rfl (.cons (.cons .nil)) .nil)) rfl ?_;rintro _ K _ ⟨b135,rfl,rfl,rfl⟩ -;refine⟨_,(show Tks _ _ _ from (.cons (.there .here) (.cons (.there .here) .nil))).sat,?_⟩
         refine dl_s rfl rfl (.none rfl) rfl rfl (dM (k:=cY) (ys:=[a]) lO rfl rfl (.there (.there (.there .here))) (fun w j=>dB Tryz.underlying29 (SeesSl.at (k:=cY) (.blk (.own (.there (.there .here))) rfl rfl) j)) (by simp;omega) (by first|(simp;omega)|omega)) rfl ?_;rintro v136 K _ ⟨rfl,rfl,ho136⟩ -;refine⟨_,(show Tks _ _ _ from (.cons (.there .here) (.cons (.there .here) .nil))).sat,?_⟩
         refine uEt ?_;rintro _ K _ ⟨rfl,rfl⟩ -;refine dl_nil ?_
         first
          |(refine aO (.cons (.there (.there .here)) (.cons .here (.cons (.there .here) (.cons (.there .here) .nil)))) ?_;refine dN (dR (m:=m) (hv:=hv) (pv:=pv) (nm:=nm) (s:={s with keep:=false})) ?_)
          |(refine aO (.cons (.there .here) (.cons (.there .here) (.cons (.there (.there .here)) (.cons (.there (.there .here)) .nil)))) ?_;refine dN (dR (m:=m) (hv:=hv) (pv:=pv) (nm:=nm) (s:={s with keep:=false,acts:=s.acts++[a]})) ?_)
         refine dD rfl (Hl.le_refl _) ?_;unfold MI;rw[hok];unfold actC
         first
          |(rw[if_pos h93];exact⟨_,rfl,rfl,pv,hpv,rfl⟩)
          |(rw[if_neg h93,if_neg hnc,if_neg aI];exact⟨_,rfl,rfl,pv,hpv,rfl⟩)
   ·
    have hno:=yS (nm:=nm) (s:=s) (o:=o) aI;refine uAc ?_;refine uIt ?_;refine uAz ?_;refine uAt ?_;refine uAt ?_;refine aY rfl rfl (oQ _ _ _ _ _ _ _ _ _ _ _ _ _) (.cons (.there .here) .nil) rfl (by rintro _ _ ⟨_,h,_⟩;cases h) ?_ ?_
    ·
     rintro _ _ _ ⟨fb,h,rfl⟩ le1;cases h
     refine uAr ?_;simp only[MI,hno,if_true,if_false,↓reduceIte];exact⟨fb,rfl,rfl⟩
    ·
     rintro _ _ _ ⟨_,h,_⟩;cases h
  ·
   have hno:=yS (nm:=nm) (s:=s) (o:=o) aI;refine uAc ?_;refine uAz ?_;refine uAt ?_;refine uHx ?_;refine uAc ?_;refine uIt ?_;refine uAz ?_;refine uAt ?_;refine uAt ?_;refine aY rfl rfl (oQ _ _ _ _ _ _ _ _ _ _ _ _ _) (.cons (.there .here) .nil) rfl (by rintro _ _ ⟨_,h,_⟩;cases h) ?_ ?_
   ·
    rintro _ _ _ ⟨fb,h,rfl⟩ le1;cases h
    refine uAr ?_;simp only[MI,hno,if_true,if_false,↓reduceIte];exact⟨fb,rfl,rfl⟩
   ·
    rintro _ _ _ ⟨_,h,_⟩;cases h
end Go.Proofs
end

/- Part 18 of what the proof stands on: walks and plain laws. Conditions: as each theorem says. -/
import Derived.Test.YthopmddkpdehiaaGreatDoorA16
set_option linter.unusedVariables false
set_option linter.unusedSimpArgs false
set_option linter.defProp false
set_option maxRecDepth 4000
set_option maxHeartbeats 1000000
section
attribute [local irreducible] Go.SL.T Go.SL.OL Go.SL.D Go.SL.DL Go.SL.Ev Go.SL.Ef Go.SL.EfS
section
namespace Go.Proofs
open Go Go.SL Go.Syn Go.Mach Tryz
section
variable{c:UInt8}
def EO{s:aP}{i:Nat}(d:s[i]?=some c):(s.take (i+1)).drop i=[c]:=by
 obtain⟨v,e⟩:=xAI.1 d;rw[xA2,d,List.drop_append_of_le_length gBU,xAS gBU];rfl
def DC(h:c.toNat=34\/c.toNat=92):jL c=[92,c]:=by
 rcases h with h|h
 ·have:c=34:=xBJ.1 h;subst this;rfl
 have:c=92:=xBJ.1 h;subst this;rfl
def Lj(h:¬c.toNat=34)(b:¬c.toNat=92):jL c=[c]:=by
 unfold jL;rw[x6 (fun e=>b gC4),x6 (fun e=>h gC4)]
def xT(s:aP)(j:s.length<=1000000)(K:Hl):Sp x3 218 [str s] K [] (Val (str (gR s)) K):=by
  refine bL func218 Y ntmps218 Y Y fun F w=>ZH ?_;refine eD (fun(i:Nat)=>i<=s.length) (fun i=>[(0,str s),(3,str ([34]++(s.take i).flatMap jL)),(4,i64 i)]) (fun _=>K) (fun _=>[]) (fun i=>s.length-i) 0 (xAA _) bM Y a7 ?_;intro i p;refine Z9 ?_;refine aX 8 Y (fun h=>?_) (fun h=>?_)
  · have M:i<s.length:=aH;obtain⟨c,d⟩:∃c,s[i]?=some c:=⟨s[i]'M,x4 M⟩;have b:=Dn (s.take i);rw[xA6,Nat.min_eq_left aH]at b;have t:(s.take (i+1)).drop i=[c]:=EO d;have f:=xAF List.length t;rw[xBI]at f;refine ZC ?_;refine bV 15 Y (fun A=>ZA ?_) (fun A=>ZB ?_)
    · refine aA (eG Y Y gAA) Y (Z9 ?_);refine aA (fP (m:=i) (n:=i+1) x9 Y Y Y Y aH aH aH) Y (aA (eG Y Y gAA) Y (Z9 ?_))
      (have g : jL c = [92, c] := DC aH
       exact cX (i+1) aH aH (.cons 0 Y (.cons 3 gCH bM)) Y a7)
    refine aX 20 Y (fun e=>Z2 ?_) (fun e=>Z8 ?_)
    · refine aA (eG Y Y gAA) Y (Z9 ?_);refine aA (fP (m:=i) (n:=i+1) x9 Y Y Y Y aH aH aH) Y (aA (eG Y Y gAA) Y (Z9 ?_))
      (have g : jL c = [92, c] := DC aH
       exact cX (i+1) aH aH (.cons 0 Y (.cons 3 gCH bM)) Y a7)
    refine aA (fP (m:=i) (n:=i+1) x9 Y Y Y Y aH aH aH) Y (aA (eG Y Y gAA) Y (Z9 ?_))
    (have g : jL c = [c] := Lj aH aH
     exact cX (i+1) aH aH (.cons 0 Y (.cons 3 (by rw[y9 d,g,<-xA1];exact xAF (fun x=>some (str x)) (by rw[t])) bM)) Y a7)
  have a:s.take i=s:=xAJ aH;have b:=Dn s;rw[a];refine Z8 ?_;refine aA (eG Y Y gAA) Y (Z4 ?_);exact gD3
def It{l:List aP}(h:∀x∈l,x.length<=600):(oC [44,32] (l.map gR)).length<=1204*l.length:=by
 have a:=Bm (l:=l.map gR);have b:=uL h;rw[xAW]at a;omega
def A9(l:List aP)(v:Value)(e:∀x∈l,x.length<=600)(s:l.length<=100000)(K:Hl)(a:Ksl (aZ 9) K v l):Sp x3 122 [v] K [] (Val (str (oS l)) K):=by
  refine bL func122 Y ntmps122 Y Y fun F w=>Z9 ?_;refine aA (bU (k:=aZ 9) Y xAC Y (.known a)) Y (Z3 ?_);refine aX 8 Y (fun h=>?_) (fun h=>?_)
  · obtain⟨x,rfl⟩:=List.length_eq_one_iff.1 (show l.length=1 by omega);refine Z3 ?_;refine aA (aW (k:=aZ 9) (xs:=[x]) (j:=0) b0 Y (.known a) Y Y cD) Y (aA (cE (o:=0) (k:=aZ 9) (xs:=[x]) (u:=x) ts9 Y (.known a) Y Y) Y (cH Y Y (xT x (xAR (e x (List.mem_singleton.2 Y)) aH) _) Y (Z5 ?_)));refine uAd ?_;refine Z1 ?_;exact⟨Y,Y,Y⟩
  have g:l.length≠1:=aH;refine ZE ?_;refine eD (fun(i:Nat)=>i<=l.length) (fun i=>[(0,v),(3,str ([91]++oC [44,32] ((l.take i).map gR))),(4,i64 i)]) (fun _=>K) (fun _=>[]) (fun i=>l.length-i) 0 (xAA _) bM Y a7 ?_;intro i p;refine Z5 ?_;refine aA (bU (k:=aZ 9) Y xAC Y (.known a)) Y (Z3 ?_);refine aX 16 Y (fun L=>?_) (fun L=>?_)
  · have Q:i<l.length:=aH;obtain⟨x,d⟩:∃x,l[i]?=some x:=⟨l[i]'Q,x4 Q⟩;have r:=e x (x8 d);have q:=m5 x;have c:=It (l:=l.take i) fun y t=>e y (List.mem_of_mem_take t)
    rw[xA6,Nat.min_eq_left p]at c;refine ZB ?_;refine aX 20 Y (fun f=>Z2 ?_) (fun f=>Z6 ?_)
    · refine aA (eG Y Y gAA) Y (Z7 ?_);refine aA (aW (k:=aZ 9) (j:=i) b0 Y (.known a) Y Y Q) Y (aA (cE (o:=0) (k:=aZ 9) ts9 Y (.known a) d Y) Y (cH Y Y (xT x aH _) Y (Z6 ?_)));refine aA (eG Y Y gAA) Y (Z9 ?_)
      (have O : 0 < i := aH
       exact cX (i+1) aH aH (.cons 0 Y (.cons 3 (by rw[X7 O d,<-xA1,<-xA1];rfl) bM)) Y a7)
    refine aA (aW (k:=aZ 9) (j:=i) b0 Y (.known a) Y Y Q) Y (aA (cE (o:=0) (k:=aZ 9) ts9 Y (.known a) d Y) Y (cH Y Y (xT x aH _) Y (Z6 ?_)));refine aA (eG Y Y gAA) Y (Z9 ?_)
    (have O : i = 0 := aH
     subst O;exact cX 1 aH aH (.cons 0 Y (.cons 3 (by rw[X6 d];rfl) bM)) Y a7)
  have b:l.take i=l:=xAJ aH;rw[b];have c:=It e;refine Z8 ?_;refine aA (eG Y Y gAA) Y (Z4 ?_);refine uAd ?_;refine Z1 ?_;rw[zE g];exact gDP
end
end Go.Proofs
end
section
namespace Go.Proofs
open Go Go.SL Go.Syn Go.Mach Tryz
open Go.Cmp (cnt)
section
variable{w:aP}{d k:Nat}
def aB0{t:Tree}(h:wf t 0=true):dpt t=0:=by cases t<;>simp[wf]at h<;>rfl
def HU{l:Tree}(h:wf l 1=true):(Say.elems l).length<=cnt l:=by
 induction l with
 |tcons t l A i=>simp[wf]at h;have:=i h.2;simp only[Say.elems,List.length_cons,cnt];have:=Gw h.1;omega
 |tnil=>simp[Say.elems]
 |_=>simp[wf]at h
def P4:prn (.siz 1 (k:Int)) d true=[115,105,122,101,32,58,111,118,101,114,32]++Lib.decDigits k:=by
 show [115,105,122,101,32,58]++r8 1++[32]++Lib.itoa (k:Int)=_
 rw[Lib.itoa_nonneg];rfl
def P5:prn (.siz 2 (k:Int)) d true=[115,105,122,101,32,58,117,110,100,101,114,32]++Lib.decDigits k:=by
 show [115,105,122,101,32,58]++r8 2++[32]++Lib.itoa (k:Int)=_
 rw[Lib.itoa_nonneg];rfl
def octT(oct:Bool):aP:=if oct=true then xN else []
def Ci(tag:Int):aP:=if tag=2 then [32,58,99,111,110,116,97,105,110,115]else []
def Ed(tag:Int):aP:=if tag=3 then [32,58,109,97,116,99,104,101,115]else []
def Vg{tag op:Int}{oct:Bool}{x y:List aP}(e:w=matW op)(I:1<=tag/\tag<=3)(q:6<=op/\op<=8):w++octT oct++Ci tag++Ed tag++[32]++oS x++[32]++oS y=prn (.mat tag oct op x y) d true:=by
 have h:matW op=vZ op:=by
  have:op=6\/op=7\/op=8:=aH;rcases this with rfl|rfl|rfl<;>rfl
 have b:xZ tag=Ci tag++Ed tag:=by
  have:tag=1\/tag=2\/tag=3:=aH;rcases this with rfl|rfl|rfl<;>rfl
 rw[e,h];simp only[prn,b,octT,List.append_assoc]
def VJ(h:w=jO\/w=gO\/w=qF\/w=lE\/w=lF\/w=gK\/w=dK\/w=gL\/w=kJ\/w=mW)(a:¬w=jO)(b:¬w=gO)(l:¬w=qF)(z:¬w=lE)(F:¬w=lF)(G:¬w=kJ)(B:¬w=mW):w=gK\/w=dK\/w=gL:=by
 rcases h with h|h|h|h|h|h|h|h|h|h
 ·exact absurd h a
 ·exact absurd h b
 ·exact absurd h l
 ·exact absurd h z
 ·exact absurd h F
 ·exact .inl h
 ·exact .inr (.inl h)
 ·exact .inr (.inr h)
 ·exact absurd h G
 exact absurd h B
def Da{α:Type}{l:List α}{i:Nat}{x:α}(h:l[i]?=some x):l.drop i=x::l.drop (i+1):=by
 exact gGD
def CL(t:Tree):Prop:=∀(d:Nat) (K:Hl) (v:Cell),d<=57->RR K t [v] []->Sp x3 288 [v.1] K [] (Val (str (prn t d true)) K)
def Bx(t:Tree)(hw:wf t 0=true)(ho:okT t=true)(hs:sOk 600 t)(H:cnt t<=100000)(ih:(∀u,t=.not_ u->CL u)/\∀all l,t=.many all l->∀u∈Say.elems l,CL u):CL t:=by
 intro d K v hd hr;obtain⟨b,h,tv,av,bv,S,E,n,rfl,hk,M⟩:=Say.rr_block hw hr;have hB:=(GX (n:=600) dD (d:=d) (f:=true) hs (by rw[aB0 hw];omega)).1 (.inl hw);refine bL func288 Y ntmps288 Y Y fun F w=>ZM ?_;refine aX 16 Y (fun L=>?_) (fun L=>?_)
 ·have jh:prn t d true=h:=gCY;refine ZF ?_;refine uAd ?_;refine Z1 ?_
  (rw[jh];exact⟨Y,Y,Y⟩)
 first|have jq:¬h=jO:=L|have jl:¬h=gO:=L
 refine Z5 ?_;refine aX 16 Y (fun L=>?_) (fun L=>?_)
 ·have jh:prn t d true=h:=gCY;refine ZC ?_;refine uAd ?_;refine Z1 ?_
  (rw[jh];exact⟨Y,Y,Y⟩)
 first|have jq:¬h=jO:=L|have jl:¬h=gO:=L
 refine Z6 ?_;refine aX 23 Y (fun ja=>?_) (fun ja=>Z7 ?_)
 ·obtain⟨u,v1,rfl,P,g⟩:=Say.sh_not M ja;have O:=ih.1 u rfl d K v1 hd P;have hB1:(prn u d true).length<=10000000000000:=(by simp only[prn,List.length_append]at hB;omega);refine Z6 ?_;refine aA (aW (k:=cC 340) (xs:=[v1]) (j:=0) iC Y (.known g) Y Y cD) Y (aA (cE (o:=0) (k:=cC 340) (xs:=[v1]) (u:=v1) ts340 Y (.known g) Y Y) Y (cH Y Y O Y (Z6 ?_)));refine aA (eG Y Y gAA) Y (Z6 ?_);exact gD3
 refine aX 34 Y (fun r=>?_) (fun r=>?_)
 ·obtain⟨all,l,a,rfl,C,P,g⟩:∃all l a,t=.many all l/\h=vV all/\RR K l a []/\Ksl (cC 340) K tv a:=gBM;have N:wf l 1=true:=by simpa[wf]using hw
  obtain⟨qe,ji⟩:=Say.rr_elems N P;have jj:=ih.2 _ l rfl;have qf:=HU N;simp only[cnt]at H;have qd:h.length=5:=(by rw[C];cases all<;>rfl);have ju:(prnE d (Say.elems l) true).length<=10000000000000:=(by rw[<-ME N];simp only[prn,cnt,List.length_append]at hB;omega);refine Z9 ?_;refine aA (eG Y Y gAA) Y (ZA ?_);refine jC (fun(i:Nat) (e:aP)=>i<=a.length/\e++prnE d ((Say.elems l).drop i) (decide (i=0))=h++[32,40]++prnE d (Say.elems l) true) (fun i e=>[(0,ptr b),(4,str e),(5,i64 i)]) (fun _ _=>K) (fun _ _=>[]) (fun i _=>a.length-i) 0 _ ⟨xAA _,Y⟩ bM Y a7 ?_;intro i e ⟨jv,z⟩;refine Z8 ?_;refine aA (bU (k:=cC 340) Y xBO Y (.known g)) Y (Z3 ?_);refine aX 48 Y (fun jb=>?_) (fun jb=>?_)
  ·have Q:i<a.length:=aH;obtain⟨x,hx⟩:∃x,a[i]?=some x:=⟨a[i]'Q,x4 Q⟩;obtain⟨u,hu⟩:∃u,(Say.elems l)[i]?=some u:=⟨(Say.elems l)[i]'(by omega),x4 aH⟩;have p:(Say.elems l).drop i=u::(Say.elems l).drop (i+1):=Da hu;have O:=jj u (x8 hu) d K x hd (ji i x u hx hu);have A:=xAF List.length z;rw[p]at A;simp only[prnE,List.length_append,List.length_cons,List.length_nil]at A;refine ZB ?_;refine aX 52 Y (fun jc=>Z2 ?_) (fun jc=>Z9 ?_)
   ·exact gDU
   exact gDY
  rw[xAS aH]at z;have hI2:e=h++[32,40]++prnE d (Say.elems l) true:=(xAL e).symm.trans z;have A:=xAF List.length hI2;simp only[List.length_append,List.length_cons,List.length_nil]at A;have B:prn (.many all l) d true=e++[41]:=(by rw[hI2,<-ME (f:=true) N,C];cases all<;>rfl);refine Z8 ?_;refine aA (eG Y Y gAA) Y (Z6 ?_);refine uAd ?_;refine Z1 ?_
  (rw[B];exact⟨Y,Y,Y⟩)
 first|have jk:¬h=lE:=r|have jp:¬h=lF:=r
 refine Z5 ?_;refine aX 34 Y (fun r=>?_) (fun r=>?_)
 ·obtain⟨all,l,a,rfl,C,P,g⟩:∃all l a,t=.many all l/\h=vV all/\RR K l a []/\Ksl (cC 340) K tv a:=gBM;have N:wf l 1=true:=by simpa[wf]using hw
  obtain⟨qe,ji⟩:=Say.rr_elems N P;have jj:=ih.2 _ l rfl;have qf:=HU N;simp only[cnt]at H;have qd:h.length=5:=(by rw[C];cases all<;>rfl);have ju:(prnE d (Say.elems l) true).length<=10000000000000:=(by rw[<-ME N];simp only[prn,cnt,List.length_append]at hB;omega);refine Z6 ?_;refine aA (eG Y Y gAA) Y (ZA ?_);refine jC (fun(i:Nat) (e:aP)=>i<=a.length/\e++prnE d ((Say.elems l).drop i) (decide (i=0))=h++[32,40]++prnE d (Say.elems l) true) (fun i e=>[(0,ptr b),(4,str e),(5,i64 i)]) (fun _ _=>K) (fun _ _=>[]) (fun i _=>a.length-i) 0 _ ⟨xAA _,Y⟩ bM Y a7 ?_;intro i e ⟨jv,z⟩;refine Z8 ?_;refine aA (bU (k:=cC 340) Y xBO Y (.known g)) Y (Z3 ?_);refine aX 48 Y (fun jb=>?_) (fun jb=>?_)
  ·have Q:i<a.length:=aH;obtain⟨x,hx⟩:∃x,a[i]?=some x:=⟨a[i]'Q,x4 Q⟩;obtain⟨u,hu⟩:∃u,(Say.elems l)[i]?=some u:=⟨(Say.elems l)[i]'(by omega),x4 aH⟩;have p:(Say.elems l).drop i=u::(Say.elems l).drop (i+1):=Da hu;have O:=jj u (x8 hu) d K x hd (ji i x u hx hu);have A:=xAF List.length z;rw[p]at A;simp only[prnE,List.length_append,List.length_cons,List.length_nil]at A;refine ZB ?_;refine aX 52 Y (fun jc=>Z2 ?_) (fun jc=>Z9 ?_)
   ·exact gDU
   exact gDY
  rw[xAS aH]at z;have hI2:e=h++[32,40]++prnE d (Say.elems l) true:=(xAL e).symm.trans z;have A:=xAF List.length hI2;simp only[List.length_append,List.length_cons,List.length_nil]at A;have B:prn (.many all l) d true=e++[41]:=(by rw[hI2,<-ME (f:=true) N,C];cases all<;>rfl);refine Z8 ?_;refine aA (eG Y Y gAA) Y (Z6 ?_);refine uAd ?_;refine Z1 ?_
  (rw[B];exact⟨Y,Y,Y⟩)
 first|have jk:¬h=lE:=r|have jp:¬h=lF:=r
 refine Z6 ?_;refine aX 68 Y (fun jd=>?_) (fun jd=>Z6 ?_)
 ·obtain⟨x,rfl,jg,qg⟩:=Say.sh_exi M jd;have jx:=rU (n:=600) dD hs.1 hs.2;refine Z6 ?_;refine cH Y Y (A9 x av hs.1 (by have:=hs.2;omega) _ jg) Y (Z6 ?_);refine aA (eG Y Y gAA) Y (Z6 ?_);exact gD3
 refine aX 77 Y (fun je=>?_) (fun je=>?_)
 ·have ht:=Say.sh_siz M je;subst ht;have qc:S=1\/S=2:=by simpa[okT]using ho
  obtain⟨qp,qq⟩:0<=n/\n<=2147483647:=hs;obtain⟨k,rfl⟩:∃k:Nat,n=k:=⟨n.toNat,aH⟩;have qj:(Lib.decDigits k).length<=21:=(by rw[<-Lib.itoa_nonneg];exact Lib.itoa_length_le _ aH aH);refine Z6 ?_;refine cH Y Y (AA k aH _) Y (ZD ?_);refine aX 88 Y (fun jf=>Z3 ?_) (fun jf=>Z5 ?_)
  ·refine aA (eG Y Y gAA) Y (Z7 ?_);refine uAd ?_;refine Z1 ?_
   (rw[show S=1 from jf,P4];exact⟨Y,Y,Y⟩)
  refine aA (eG Y Y gAA) Y (Z6 ?_);refine uAd ?_;refine Z1 ?_
  (rw[show S=2 from qc.resolve_left jf,P5];exact⟨Y,Y,Y⟩)
 obtain⟨op,xa,ya,rfl,jt,jg,jw⟩:=Say.sh_mat M (VJ (Say.sh_cases M) jq jl ja jk jp jd je);obtain⟨I,W,jr,js⟩:=hs;obtain⟨qa,qb,jy,jz⟩:1<=S/\S<=3/\6<=op/\op<=8:=by simpa[okT]using ho
 have jx:=rU (n:=600) dD I jr;have qk:=rU (n:=600) dD W js;have qr:h.length<=8:=(by rw[jt];unfold matW;split;decide;split<;>decide);have ql:(octT E).length<=22:=(by unfold octT;split<;>decide);have qh:(Ci S).length<=10:=(by unfold Ci;split<;>decide);have qi:(Ed S).length<=10:=(by unfold Ed;split<;>decide);rw[<-Vg (d:=d) (oct:=E) (x:=xa) (y:=ya) jt ⟨qa,qb⟩ ⟨jy,jz⟩];refine ZC ?_;refine dU (fun(_:Unit)=>True) (fun _=>[(0,ptr b),(9,str (h++octT E))]) (fun _=>K) (fun _=>[]) ?_ ?_
 ·refine Z8 ?_;refine dZ 100 Y (fun G=>Z2 ?_) (fun G=>?_)
  ·refine aA (eG Y Y gAA) Y (Z2 ?_);exact cB () trivial (.cons 0 Y (.cons 9 (by unfold octT;rw[x7 G];rfl) .nil)) Y a7
  refine aU ?_;exact cB () trivial (.cons 0 Y (.cons 9 (by unfold octT;rw[x6 (by first|exact G|(rw[G];decide)),xAL];rfl) .nil)) Y a7
 intro _ _;refine dU (fun(_:Unit)=>True) (fun _=>[(0,ptr b),(9,str (h++octT E++Ci S))]) (fun _=>K) (fun _=>[]) ?_ ?_
 ·refine Z9 ?_;refine aX 107 Y (fun q=>Z2 ?_) (fun q=>?_)
  ·refine aA (eG Y Y gAA) Y (Z2 ?_);exact cB () trivial (.cons 0 Y (.cons 9 (by unfold Ci;rw[x7 q];rfl) .nil)) Y a7
  refine aU ?_;exact cB () trivial (.cons 0 Y (.cons 9 (by unfold Ci;rw[x6 (by first|exact q|(rw[q];decide)),xAL];rfl) .nil)) Y a7
 intro _ _;refine dU (fun(_:Unit)=>True) (fun _=>[(0,ptr b),(9,str (h++octT E++Ci S++Ed S))]) (fun _=>K) (fun _=>[]) ?_ ?_
 ·refine Z9 ?_;refine aX 114 Y (fun s=>Z2 ?_) (fun s=>?_)
  ·refine aA (eG Y Y gAA) Y (Z2 ?_);exact cB () trivial (.cons 0 Y (.cons 9 (by unfold Ed;rw[x7 s];rfl) .nil)) Y a7
  refine aU ?_;exact cB () trivial (.cons 0 Y (.cons 9 (by unfold Ed;rw[x6 (by first|exact s|(rw[s];decide)),xAL];rfl) .nil)) Y a7
 intro _ _;refine Z6 ?_;refine cH Y Y (A9 xa av I aH _ jg) Y (Z9 ?_);refine cH Y Y (A9 ya bv W aH _ jw) Y (Z6 ?_);refine aA (eG Y Y gAH) Y (Z1 ?_);refine aA (eG Y Y gAA) Y (aA (eG Y Y gAA) Y (Z1 ?_));refine aA (eG Y Y gAA) Y (Z4 ?_);exact gD3
def SU:∀t:Tree,okT t=true->sOk 600 t->cnt t<=100000->(wf t 0=true->CL t)/\(wf t 1=true->∀u∈Say.elems t,CL u):=by
 intro t;induction t with
 |not_ t w=>
  intro q c d;refine⟨fun a=>Bx _ a q c d ⟨fun u e=>?_,fun b l e=>(by cases e)⟩,fun a=>by simp[wf]at a⟩
  exact gH5
 |many b l w=>
  intro q c d;refine⟨fun a=>Bx _ a q c d ⟨fun u e=>(by cases e),fun f H e=>?_⟩,fun a=>by simp[wf]at a⟩
  exact gGQ
 |tcons t l A i=>
  intro q c d;refine⟨fun a=>by simp[wf]at a,fun a u C=>?_⟩
  simp[wf]at a;simp[okT]at q;simp only[cnt]at d;rcases List.mem_cons.1 C with rfl|C
  ·exact(A q.1 c.1 aH).1 a.1
  exact(i q.2 c.2 aH).2 a.2 u C
 |tnil=>intro q c d;exact⟨fun a=>by simp[wf]at a,fun a u C=>by simp[Say.elems]at C⟩
 |_=>intro q c d;exact⟨fun a=>Bx _ a q c d ⟨fun u e=>(by cases e),fun b l e=>(by cases e)⟩,fun a=>gA1⟩
end
end Go.Proofs
end
section
namespace Go.Proofs
open Go Go.SL Go.Syn Go.Mach Tryz
open Go.Cmp (cnt)
open Go.Say (elemsC brL brO)
def Oa(d:Nat):indC (d+1)=indC d++[32,32]:=by rw[vP,vP,show ([32,32]:aP)=List.replicate 2 32 from rfl,List.replicate_append_replicate];rfl
def LnAt(l:Tree):Prop:=∀(d:Nat) (K:Hl) (q:Value) (L:List Cell),d+dpt l<=57->Ksl (cC 333) K q L->RR K l L []->Sp x3 123 [q,str (indC d)] K [] (Val (str (prn l d true)) K)
def BrAt(s:Tree):Prop:=∀(d:Nat) (K:Hl) (b:Nat) (e:aP) (c:Value) (S:Int) (y P:Value) (p:Int) (x a:List Cell),d+dpt s<=57->K b=some (cmO e c S y P p)->RR K s x a->Ksl (cC 340) K y x->Ksl (cC 240) K P a->Sp x3 219 [ptr b,str (indC d)] K [] (Val (str (brE d (brO s) (brL s) true++[10])) K)
def LnAt.call{l:Tree}(h:LnAt l){d:Nat}{K:Hl}{q:Value}{L:List Cell}(hd:d+(dpt l+1)<=57)(v:Ksl (cC 333) K q L)(i:RR K l L []):Sp x3 123 [q,str (indC d++[32,32])] K [] (Val (str (prn l (d+1) true)) K):=by
 rw[<-Oa];exact h (d+1) K q L aH v i
def NI{l:Tree}(h:wf l 3=true):(elemsC l).length<=cnt l:=by
 induction l with
 |ccons c l A i=>simp[wf]at h;have:=i h.2;simp only[elemsC,List.length_cons,cnt];have:=Aa h.1;omega
 |cnil=>simp[elemsC]
 |_=>simp[wf]at h
def Km{l y:Tree}(h:wf l 3=true)(t:y∈elemsC l):dpt y<=dpt l:=by
 induction l with
 |ccons c l A i=>
  simp[wf]at h;simp only[dpt];rcases List.mem_cons.1 t with rfl|t
  ·omega
  have:=i h.2 t;omega
 |_=>simp[elemsC]at t
def tagL:List aP:=[[],[32,58,108,111,119,101,114],[32,58,117,112,112,101,114],[32,58,108,101,110,103,116,104]]
def Jv{tag:Int}(P:0<=tag)(l:tag<=3):tagL[tag.toNat]?=some (lQ tag):=by
 have:tag=0\/tag=1\/tag=2\/tag=3:=aH;rcases this with rfl|rfl|rfl|rfl<;>rfl
def LA(tag:Int):(lQ tag).length<=8:=by unfold lQ;split;decide;split;decide;split<;>decide
def CmdP(y:Tree):Prop:=wf y 2=true/\okT y=true/\sOk 600 y/\ifB y=true/\∀s,y=.iff s->wf s 4=true/\okT s=true/\BrAt s
def IU(l:Tree)(E:wf l 3=true)(hs:sOk 600 l)(hc:cnt l<=100000)(ih:∀y∈elemsC l,CmdP y):LnAt l:=by
 intro d K lv L hd hl hr;have hB:=(GX (n:=600) dD (d:=d) (f:=true) hs aH).2 (.inr (.inl E));obtain⟨qb,jt⟩:=Say.rr_cmds E hr;have qa:=NI E;have jw:=vO d;refine bL func123 Y ntmps123 Y Y fun F w=>?_;refine ZH ?_;refine jC (fun(i:Nat) (c:aP)=>i<=L.length/\c++lnE d ((elemsC l).drop i)=prn l d true) (fun i c=>[(0,lv),(1,str (indC d)),(5,str c),(6,i64 i)]) (fun _ _=>K) (fun _ _=>[]) (fun i _=>L.length-i) 0 [] ⟨xAA _,(by rw[aAN E];rfl)⟩ (.cons 0 Y (.cons 1 Y (.cons 5 Y (.cons 6 Y .nil)))) Y a7 ?_;intro i c ⟨jv,t⟩;refine Z5 ?_;refine aA (bU (k:=cC 333) Y xCV Y (.known hl)) Y ?_;refine Z3 ?_;refine aX 15 Y (fun W=>?_) (fun W=>?_)
 ·have Q:i<L.length:=aH;obtain⟨x,hx⟩:∃x,L[i]?=some x:=⟨L[i]'Q,x4 Q⟩;obtain⟨y,G⟩:∃y,(elemsC l)[i]?=some y:=⟨(elemsC l)[i]'(by omega),x4 aH⟩;have M:=x8 G;obtain⟨js,jk,jq,jf,jd⟩:=ih y M;have je:=Km E M;have g:(elemsC l).drop i=y::(elemsC l).drop (i+1):=Da G;obtain⟨b,N,av,S,tv,bv,p,rfl,hk,qc,e⟩:=V6 js jk jq jf (jt i x y hx G);have A:=xAF List.length t;rw[g]at A;simp only[lnE,List.length_append,List.length_cons,List.length_nil]at A;refine Z8 ?_;refine aA (aW (k:=cC 333) (xs:=L) (j:=i) wV Y (.known hl) Y Y Q) Y ?_;refine aA (cE (o:=0) (k:=cC 333) (xs:=L) (u:=pcl b) ts333 Y (.known hl) hx Y) Y ?_;refine Z7 ?_;refine aA (eG Y Y gAA) Y ?_;refine Z4 ?_;refine aA (eG Y Y gAA) Y ?_;refine ZD ?_;refine aX 34 Y (fun r=>?_) (fun r=>?_)
  ·obtain⟨s,a,P,rfl,jc,jl,ji,jh⟩:∃s a P,y=.iff s/\isBc s=true/\RR K s a P/\Ksl (cC 340) K tv a/\Ksl (cC 240) K bv P:=(by rcases e with ⟨h,_⟩|⟨_,h⟩;exact absurd r h;exact h);obtain⟨jr,jj,jb⟩:=jd s rfl;have I:=S1 (d:=d) jr jj jc;rw[show prn (.iff s) d true=prn s d true from rfl,I]at A;simp only[List.length_append,List.length_cons,List.length_nil]at A;refine Z4 ?_;refine cH Y Y (jb d K b N av S tv bv p a P (by simp only[dpt]at je;omega) hk jl ji jh) Y ?_;refine Z7 ?_;refine aA (eG Y Y gAA) Y ?_;refine ZC ?_;exact d9 (i+1) _ ⟨aH,Iw g (by rw[show prn (.iff s) d true=prn s d true from rfl,I,show N=[105,102]from r];simp only[List.append_assoc]) t⟩ aH (.cons 0 Y (.cons 1 Y (.cons 5 Y (.cons 6 Y .nil)))) Y a7
  obtain⟨a,H,qd,C,O,B,v⟩:∃a,Ksl (aZ 9) K av a/\a.length<=2/\(∀x∈a,x.length<=600)/\0<=S/\S<=3/\∀d,prn y d true=N++(lQ S++(sqE a++[59])):=(by rcases e with ⟨_,h⟩|⟨h,_⟩;exact h;exact absurd h r);rw[v d]at A;simp only[List.length_append,List.length_cons,List.length_nil]at A;have jy:=LA S;have jz:=LI C;refine Z4 ?_;refine cG (bJ (z0:=[(str []),(str []),(str []),(str [])]) b0 tz9 Y Y Y Y (.cons Y Y Y (.cons .nil) (.cons Y Y Y (.skip (.cons .nil)) (.cons Y Y Y (.skip (.skip (.cons .nil))) (.cons Y Y Y (.skip (.skip (.skip (.cons .nil)))) .nil))))) Y ?_;refine aCJ fun ju=>?_;refine ZB ?_;refine aA (aW (k:=aZ 9) (xs:=tagL) (j:=S.toNat) b0 Y (.blk (.own .here) Y Y) Y aH (xAI.1 (Jv O B)).1) Y ?_;refine aA (cE (o:=0) (k:=aZ 9) (xs:=tagL) (u:=lQ S) ts9 Y (.blk (.own .here) Y Y) (Jv O B) Y) Y ?_;refine aA (eG Y Y gAA) Y ?_;refine Z5 ?_;refine l9 .nil ?_;refine Z5 ?_;refine eD (fun(k:Nat)=>k<=a.length) (fun k=>[(0,lv),(1,str (indC d)),(5,str (c++indC d++N++lQ S++sqE (a.take k))),(6,i64 i),(7,ptr b),(10,i64 k)]) (fun _=>K) (fun _=>[]) (fun k=>a.length-k) 0 (xAA _) (.cons 0 Y (.cons 1 Y (.cons 5 (xAF (fun x=>some (str x)) (xAL _).symm) (.cons 6 Y (.cons 7 Y (.cons 10 Y .nil)))))) Y a7 ?_;intro k jg;refine Z8 ?_;refine aA (bU (k:=aZ 9) Y xAC Y (.known H)) Y ?_;refine Z3 ?_;refine aX 57 Y (fun ja=>?_) (fun ja=>?_)
  ·have q:k<a.length:=aH;obtain⟨z,hz⟩:∃z,a[k]?=some z:=⟨a[k]'q,x4 q⟩;have qe:=C z (x8 hz);have jx:=m5 z;have jp:=LI (l:=a.take k) fun y G=>C y (List.mem_of_mem_take G)
   rw[xA6,Nat.min_eq_left jg]at jp;refine ZB ?_;refine aA (aW (k:=aZ 9) (xs:=a) (j:=k) b0 Y (.known H) Y Y q) Y ?_;refine aA (cE (o:=0) (k:=aZ 9) (xs:=a) (u:=z) ts9 Y (.known H) hz Y) Y ?_;refine cH Y Y (xT z aH _) Y ?_;refine Z5 ?_;refine aA (eG Y Y gAA) Y ?_;refine Z1 ?_;refine aA (eG Y Y gAA) Y ?_;refine Z9 ?_;exact cX (k+1) aH aH (.cons 0 Y (.cons 1 Y (.cons 5 (xAF (fun x=>some (str x)) (by rw[Ty hz,<-xA1,<-xA1])) (.cons 6 Y (.cons 7 Y (.cons 10 Y .nil)))))) Y a7
  rw[xAJ (show a.length<=k by omega)];refine Z7 ?_;refine aA (eG Y Y gAA) Y ?_;refine Z9 ?_;exact d9 (i+1) _ ⟨aH,Iw g (by rw[v d];simp only[List.append_assoc];rfl) t⟩ aH (.cons 0 Y (.cons 1 Y (.cons 5 Y (.cons 6 Y .nil)))) Y a7
 rw[xAS aH]at t;have hI2:c=prn l d true:=(xAL c).symm.trans t;refine ZC ?_;refine uAd ?_;refine Z1 ?_;rw[hI2];exact gDP
def S3(s:Tree)(hw:wf s 4=true)(q:okT s=true)(hs:sOk 600 s)(hc:cnt s<=100000)(jc:isBc s=true)(jg:∀P∈brL s,CL P.1/\LnAt P.2/\dpt P.2+1<=dpt s)(jf:∀b,brO s=some b->LnAt b/\dpt b+1<=dpt s)(jh:(brL s).length<=cnt s):BrAt s:=by
 intro d K b wd av jq tv bv p g i hd hk hr l A;have hB:=(GX (n:=600) dD (d:=d) (f:=true) hs aH).2 (.inr (.inr hw));rw[S1 (d:=d) hw q jc]at hB;simp only[List.length_append,List.length_cons,List.length_nil]at hB;obtain⟨jd,je,a⟩:=Say.rr_brs hw hr;have ji:=vO d;have jl:i.length<=g.length+1/\g.length<=i.length:=by
  cases q:brO s with
  |none=>rw[q]at a;have G:i.length=g.length:=a;omega
  |some v=>rw[q]at a;have G:=a.1;omega
 refine bL func219 Y ntmps219 Y Y fun F w=>?_;refine ZH ?_;refine jC (fun(k:Nat) (h:aP)=>k<=i.length/\h++brR d (brO s) (brL s) k=brE d (brO s) (brL s) true) (fun k h=>[(0,ptr b),(1,str (indC d)),(5,str h),(6,i64 k)]) (fun _ _=>K) (fun _ _=>[]) (fun k _=>i.length-k) 0 [] ⟨xAA _,YE⟩ (.cons 0 Y (.cons 1 Y (.cons 5 Y (.cons 6 Y .nil)))) Y a7 ?_;intro k h ⟨jj,I⟩;refine Z8 ?_;refine aA (bU (k:=cC 240) Y xCJ Y (.known A)) Y ?_;refine Z3 ?_;refine aX 16 Y (fun W=>?_) (fun W=>?_)
 ·have jk:k<i.length:=aH;have L:=xAF List.length I;rw[xAE]at L;refine Z4 ?_;refine dU (fun(x:aP×Tree×Cell×List Cell)=>x.1++(bdT d x.2.1++brR d (brO s) (brL s) (k+1))=brE d (brO s) (brL s) true/\i[k]?=some x.2.2.1/\LnAt x.2.1/\dpt x.2.1+1<=dpt s/\RR K x.2.1 x.2.2.2 []/\Ksl (cC 333) K x.2.2.1.1 x.2.2.2) (fun x=>[(0,ptr b),(1,str (indC d)),(5,str x.1),(6,i64 k)]) (fun _=>K) (fun _=>[]) ?_ ?_
  ·refine Z8 ?_;refine aA (bU (k:=cC 340) Y xBO Y (.known l)) Y ?_;refine Z4 ?_;refine aX 31 Y (fun ja=>?_) (fun ja=>?_)
   ·have t:k=g.length:=aH;subst t;obtain⟨v,z⟩:∃v,brO s=some v:=(by cases q:brO s with|some v=>exact⟨v,Y⟩|none=>rw[q]at a;have G:i.length=g.length:=a;exact absurd G aH);obtain⟨jp,E,N,c,H,e⟩:i.length=g.length+1/\∃y N,i[g.length]?=some y/\RR K v N []/\Ksl (cC 333) K y.1 N:=(by rw[z]at a;exact a);obtain⟨O,r⟩:=jf v z;have Q:=I;rw[z,Q4 jd,<-z]at Q;have hJL:=xAF List.length Q;simp only[List.length_append,List.length_cons,List.length_nil]at hJL;refine Z2 ?_;refine aA (eG Y Y gAA) Y ?_;refine Z3 ?_;exact cB (h++[32,101,108,115,101],v,E,N) ⟨by rw[<-Q];simp only[List.append_assoc],c,O,r,H,e⟩ (.cons 0 Y (.cons 1 Y (.cons 5 Y (.cons 6 Y .nil)))) Y a7
   have t:k<g.length:=aH;obtain⟨S,C⟩:∃x,g[k]?=some x:=⟨g[k]'t,x4 t⟩;obtain⟨P,B⟩:∃P,(brL s)[k]?=some P:=⟨(brL s)[k]'(by omega),x4 aH⟩;obtain⟨M,E,N,c,H,e⟩:=je k S P C B;obtain⟨hT,O,r⟩:=jg P (x8 B);have Q:=I;rw[Xp B]at Q;have hJL:=xAF List.length Q;simp only[List.length_append,List.length_cons,List.length_nil]at hJL;refine Z7 ?_;refine aX 41 Y (fun jb=>?_) (fun jb=>?_)
   ·rw[x6 (show ¬k=0 by omega)]at Q hJL;exact gDK
   rw[x7 (show k=0 by omega)]at Q hJL;exact gDK
  intro ⟨a2,bd,E,N⟩ ⟨hE,c,O,r,H,e⟩;simp only at hE c O r H e;have hEL:=xAF List.length hE;simp only[bdT,List.length_append,List.length_cons,List.length_nil]at hEL;refine Z7 ?_;refine aA (aW (k:=cC 240) (xs:=i) (j:=k) qC Y (.known A) Y Y (xAI.1 c).1) Y ?_;refine aA (cE (o:=0) (k:=cC 240) (xs:=i) (u:=E) ts240 Y (.known A) c Y) Y ?_;refine Z1 ?_;refine aA (eG Y Y gAA) Y ?_;refine cH Y Y (O.call aH e H) Y ?_;refine Z5 ?_;refine aA (eG Y Y gAA) Y ?_;refine Z1 ?_;refine aA (eG Y Y gAA) Y ?_;refine Z1 ?_;refine aA (eG Y Y gAA) Y ?_;refine aA (eG Y Y gAA) Y ?_;refine Z9 ?_;exact d9 (k+1) _ ⟨aH,by rw[<-hE];simp only[bdT,List.append_assoc]⟩ aH (.cons 0 Y (.cons 1 Y (.cons 5 Y (.cons 6 Y .nil)))) Y a7
 have hI2:h=brE d (brO s) (brL s) true:=(by rw[Uz (by cases q:brO s with|none=>rw[q]at a;have G:i.length=g.length:=a;exact .inl ⟨aH,Y⟩|some v=>rw[q]at a;have G:=a.1;exact .inr aH),xAL]at I;exact I);have L:=xAF List.length hI2;refine Z8 ?_;refine aA (eG Y Y gAA) Y ?_;refine Z4 ?_;refine uAd ?_;refine Z1 ?_;rw[hI2];exact gDP
end Go.Proofs
end
section
set_option maxRecDepth 4000
namespace Go.Proofs
open Go Go.SL Go.Syn
def PSp(K:Hl)(v:Value)(t:Tree)(d:Nat):Prop:=∃P u f,v=.iface P u/\(∀w,(Go.method (x3.types.size+Made.depth) P u "mailsieve/syntax.print").run x3 w=.ok (f,u) w)/\
 ∀(b:Nat) (x:aP) (a:Hl),K.le a->x.length+(prn t d true).length<=100000000000->Sp x3 f [u,ptr b] a [pbl b d x] (Ret fun q j g=>q=.tuple #[]/\g=[pbl b d (x++prn t d true)])
def Oo(u:Value)(w:World):(Go.method (x3.types.size+Made.depth) 282 u "mailsieve/syntax.print").run x3 w=.ok (424,u) w:=cV
def Oq(u:Value)(w:World):(Go.method (x3.types.size+Made.depth) 285 u "mailsieve/syntax.print").run x3 w=.ok (425,u) w:=cV
def Ot(u:Value)(w:World):(Go.method (x3.types.size+Made.depth) 289 u "mailsieve/syntax.print").run x3 w=.ok (426,u) w:=cV
def Ou(u:Value)(w:World):(Go.method (x3.types.size+Made.depth) 293 u "mailsieve/syntax.print").run x3 w=.ok (429,u) w:=cV
def Ov(u:Value)(w:World):(Go.method (x3.types.size+Made.depth) 297 u "mailsieve/syntax.print").run x3 w=.ok (430,u) w:=cV
def Ow(u:Value)(w:World):(Go.method (x3.types.size+Made.depth) 300 u "mailsieve/syntax.print").run x3 w=.ok (431,u) w:=cV
def Ox(u:Value)(w:World):(Go.method (x3.types.size+Made.depth) 308 u "mailsieve/syntax.print").run x3 w=.ok (432,u) w:=cV
def Oy(u:Value)(w:World):(Go.method (x3.types.size+Made.depth) 311 u "mailsieve/syntax.print").run x3 w=.ok (433,u) w:=cV
def Oz(u:Value)(w:World):(Go.method (x3.types.size+Made.depth) 376 u "mailsieve/syntax.print").run x3 w=.ok (434,u) w:=cV
def O0(u:Value)(w:World):(Go.method (x3.types.size+Made.depth) 380 u "mailsieve/syntax.print").run x3 w=.ok (435,u) w:=cV
def Rq(v:Bool)(K:Hl):Sp x3 427 [.bool v] K [] (Val (str (if v=true then jO else gO)) K):=by
 have rT:∀K,Sp x3 428 [.bool v] K [] (Val (str (if v=true then jO else gO)) K):=by
  intro K;refine bL Tryz.func428 Y Tryz.ntmps428 Y Y fun F w=>ZB ?_;refine dZ 3 Y (fun l=>Z8 ?_) (fun l=>Z9 ?_)
  ·rw[x7 l];exact gDP
  rw[x6 (by rw[l];simp)];exact gDP
 refine bL Tryz.func427 Y Tryz.ntmps427 Y Y fun F w=>Z8 ?_;refine cH Y Y (rT _) Y (Z5 ?_);exact gDP
def Sv(K:Hl)(v:Bool)(d:Nat):PSp K (.iface 289 (.bool v)) (.const v) d:=by
 refine⟨_,_,_,Y,Ot _,fun b x c le a=>?_⟩
 simp only[prn]at a ⊢;refine bL Tryz.func426 Y Tryz.ntmps426 Y Y fun F w=>Z3 ?_;refine cH Y Y (Rq v _) Y (cG (bJ (z0:=[(str [])]) b0 tz9 Y Y Y Y cW) Y ?_);refine aCJ fun M=>bA Y Y (gW b M 1 d x [if v=true then jO else gO] _ _ _ Y Y (by simp only[List.flatten_cons,List.flatten_nil,List.append_nil];simp only[jO,gO];omega) cD) bQ Y ?_;rintro _ S _ ⟨rfl,rfl⟩ A;refine aG (dG Y A ?_);exact⟨_,Y,Y,by simp[jO,gO]⟩
def Sx(K:Hl)(op:Int)(d:Nat):PSp K (.iface 285 (.agg #[i64 op])) (.plain op) d:=by
 refine⟨_,_,_,Y,Oq _,fun b x c le a=>?_⟩
 simp only[prn]at a ⊢;refine bL Tryz.func425 Y Tryz.ntmps425 Y Y fun F w=>Z3 ?_;refine aCJ fun M=>Z9 ?_;refine aX 6 Y (fun G=>Z2 ?_) (fun G=>Z2 ?_)
 ·refine cG (bJ (z0:=[(str [])]) b0 tz9 Y Y Y Y cW) Y ?_;refine aCJ fun y=>bA Y Y (gW b y 1 d x [[115,116,111,112,59]] _ _ _ Y Y gAG cD) bQ Y ?_;rintro _ S _ ⟨rfl,rfl⟩ A;refine aG (uAa ?_);refine dG Y A ?_;exact⟨_,Y,Y,by rw[x7 G];simp⟩
 refine cG (bJ (z0:=[(str [])]) b0 tz9 Y Y Y Y cW) Y ?_;refine aCJ fun B=>bA Y Y (gW b B 1 d x [[100,105,115,99,97,114,100,59]] _ _ _ Y Y gAG cD) bQ Y ?_;rintro _ S _ ⟨rfl,rfl⟩ A;refine aG (uAa ?_);refine dG Y A ?_;exact⟨_,Y,Y,by rw[x6 G];simp⟩
def XJ(K:Hl)(C:Value)(a:List aP)(d:Nat)(s:Ksl (aZ 9) K C a)(M:∀x∈a,x.length<=1000)(i:a.length<=100000):PSp K (.iface 297 (.agg #[C])) (.exi a) d:=by
 refine⟨_,_,_,Y,Ov _,fun b e f le c=>?_⟩
 have s:=s.mono le;simp only[prn,List.length_append]at c ⊢;obtain⟨I,Q,q,rfl⟩:=s.isSlice;refine bL Tryz.func430 Y Tryz.ntmps430 Y Y fun F w=>Z3 ?_;refine aCJ fun g=>Z6 ?_;refine bA Y Y (A5 _ a _ s M i) .nil Y ?_;rintro _ L _ ⟨rfl,rfl⟩ p;refine cG (bJ (z0:=[(str []),(str [])]) b0 tz9 Y Y Y Y cW) Y ?_;refine aCJ fun y=>bA Y Y (gW b y 2 d e [[101,120,105,115,116,115,32],oS a] _ _ _ Y Y (by simp at c ⊢;omega) cD) bQ Y ?_;rintro _ S _ ⟨rfl,rfl⟩ A;refine aG (uAa ?_);refine dG Y (x5 p A) ?_;exact gHZ
def XH(K:Hl)(k:Int)(a:aP)(p:Int)(d:Nat)(v:1<=k/\k<=4)(u:a.length<=1000):PSp K (.iface 282 (.agg #[i64 k,str a,i64 p])) (.act k a p) d:=by
 refine⟨_,_,_,Y,Oo _,fun b x q le z=>?_⟩
 have y:=m5 a;refine bL Tryz.func424 Y Tryz.ntmps424 Y Y fun F w=>?_;refine Z3 ?_;rintro _ K _ ⟨M,rfl,rfl,rfl⟩ -;refine Z2 ?_;refine dU (fun(S:Hl)=>K.le S/\k≠1) (fun _=>[(1,ptr b),(2,ptr M)]) (fun S=>S) (fun _=>[pt M (bK [i64 k,str a,i64 p] 282),pbl b d (x++uA k)]) ?_ ?_
 ·refine ZD ?_;refine aX 6 Y (fun G=>Z3 ?_) (fun G=>Z6 ?_)
  ·refine cG (bJ (z0:=[(str [])]) b0 tz9 Y Y Y Y (.cons Y Y Y (.cons .nil) .nil)) Y ?_;rintro _ K _ ⟨f,rfl,rfl,rfl⟩ -;refine bA Y Y (gW b f 1 d x [[107,101,101,112,59]] _ _ _ Y Y (by simp;omega) cD) (.cons .here (.cons (.there .here) .nil)) Y ?_;rintro _ S _ ⟨rfl,rfl⟩ A;refine Z5 ?_;refine uAr ?_;refine jJ Y (by first|exact A|exact x5 A (x5 g c)) ?_;exact⟨_,Y,Y,by simp only[prn,if_pos G];simp⟩
  refine aX 11 Y (fun E=>Z2 ?_) (fun E=>Z6 ?_)
  ·refine cG (bJ (z0:=[(str [])]) b0 tz9 Y Y Y Y (.cons Y Y Y (.cons .nil) .nil)) Y ?_;rintro _ K _ ⟨t,rfl,rfl,rfl⟩ -;refine bA Y Y (gW b t 1 d x [[102,105,108,101,105,110,116,111,32]] _ _ _ Y Y (by simp;omega) cD) (.cons .here (.cons (.there .here) .nil)) Y ?_;rintro _ S _ ⟨rfl,rfl⟩ A;refine Z2 ?_
   (refine aV (.cons (.there .here) (.cons .here .nil)) ?_;exact cB _ ⟨by assumption,aH⟩ (.cons 1 Y (.cons 2 Y .nil)) Y (by rw[show k=2 by omega];exact fun _ h=>h))
  refine aX 16 Y (fun L=>Z2 ?_) (fun L=>Z6 ?_)
  ·refine cG (bJ (z0:=[(str [])]) b0 tz9 Y Y Y Y (.cons Y Y Y (.cons .nil) .nil)) Y ?_;rintro _ K _ ⟨W,rfl,rfl,rfl⟩ -;refine bA Y Y (gW b W 1 d x [[114,101,100,105,114,101,99,116,32]] _ _ _ Y Y (by simp;omega) cD) (.cons .here (.cons (.there .here) .nil)) Y ?_;rintro _ S _ ⟨rfl,rfl⟩ A;refine Z2 ?_
   (refine aV (.cons (.there .here) (.cons .here .nil)) ?_;exact cB _ ⟨by assumption,aH⟩ (.cons 1 Y (.cons 2 Y .nil)) Y (by rw[show k=3 by omega];exact fun _ h=>h))
  refine aX 21 Y (fun l=>Z2 ?_) (fun l=>?_)
  ·refine cG (bJ (z0:=[(str [])]) b0 tz9 Y Y Y Y (.cons Y Y Y (.cons .nil) .nil)) Y ?_;rintro _ K _ ⟨Q,rfl,rfl,rfl⟩ -;refine bA Y Y (gW b Q 1 d x [[114,101,106,101,99,116,32]] _ _ _ Y Y (by simp;omega) cD) (.cons .here (.cons (.there .here) .nil)) Y ?_;rintro _ S _ ⟨rfl,rfl⟩ A;refine Z2 ?_
   (refine aV (.cons (.there .here) (.cons .here .nil)) ?_;exact cB _ ⟨by assumption,aH⟩ (.cons 1 Y (.cons 2 Y .nil)) Y (by rw[show k=4 by omega];exact fun _ h=>h))
  refine Z2 ?_
  (exfalso;omega)
 intro S ⟨A,I⟩;refine aC ?_;have i:(uA k).length<=9:=(by unfold uA;split;decide;split;decide;split<;>decide);have j:x.length<=100000000000:=aH;refine Z3 ?_;refine bA Y Y (A7 a _ aH) .nil Y ?_;rintro _ r _ ⟨rfl,rfl⟩ g;refine cG (bJ (z0:=[(str []),(str [])]) b0 tz9 Y Y Y Y (.cons Y Y Y (.cons .nil) (.cons Y Y Y (.skip (.cons .nil)) .nil))) Y ?_;rintro _ K _ ⟨e,rfl,rfl,rfl⟩ -;refine bA Y Y (gW b e 2 d _ [gR a,[59]] _ _ _ Y Y (by simp at*;omega) cD) (.cons .here (.cons (.there .here) .nil)) Y ?_;rintro _ s _ ⟨rfl,rfl⟩ c;refine aG ?_;refine uAr ?_;refine dG Y (by first|exact A|exact x5 A (x5 g c)) ?_;exact⟨_,Y,Y,by simp only[prn,if_neg I];simp⟩
end Go.Proofs
end
section
set_option maxRecDepth 4000
namespace Go.Proofs
open Go Go.SL Go.Syn
def Hi:List aP:=[[],[111,118,101,114],[117,110,100,101,114]]
def LD{t:Int}(h:t=1\/t=2):Hi[t.toNat]?=some (r8 t):=by rcases h with rfl|rfl<;>rfl
def MJ:List aP:=[[],[32,58,108,111,119,101,114],[32,58,117,112,112,101,114],[32,58,108,101,110,103,116,104]]
def Pw{t:Int}(h:0<=t/\t<=3):MJ[t.toNat]?=some (lQ t):=by
 have:t=0\/t=1\/t=2\/t=3:=aH;rcases this with rfl|rfl|rfl|rfl<;>rfl
def MQ:List aP:=[[],[],[32,58,99,111,110,116,97,105,110,115],[32,58,109,97,116,99,104,101,115]]
def PH{t:Int}(h:1<=t/\t<=3):MQ[t.toNat]?=some (xZ t):=by
 have:t=1\/t=2\/t=3:=aH;rcases this with rfl|rfl|rfl<;>rfl
def XN(K:Hl)(tag n:Int)(d:Nat)(H:Glob K)(I:tag=1\/tag=2)(u:0<=n/\n<=2147483647):PSp K (.iface 300 (.agg #[i64 tag,i64 n])) (.siz tag n) d:=by
 refine⟨_,_,_,Y,Ow _,fun b x r le l=>?_⟩
 have H:=H.mono le;have g:=LD I;have q:Hi.length=3:=rfl;simp only[prn,List.length_append]at l ⊢;refine bL Tryz.func431 Y Tryz.ntmps431 Y Y fun F w=>Z3 ?_;refine aCJ fun M=>Z2 ?_;refine qK (anc:=[0,0,0,4,14,30,0,64,192,510,1023]) (ord:=[0,2,3,6,7,8,1,4,5,9,10]) [1,9,10] [10] mixed gAD (aQ cL bT) (Z5 ?_);refine vE Y (.none Y) Y Y Y Y (fun L p=>(Fx n aH aH _ (H.mono p))) Y (s6 Y Y (.none Y) Y Y (Ba (f:=fun b=>.slice (some ⟨b,0,none⟩) 3 3) (bJ (z0:=[(str []),(str []),(str [])]) b0 tz9 Y Y Y Y cW) (fun _ _ _ h=>h)) Y ?_);rintro _ s _ ⟨e,rfl,c,rfl⟩ i;refine⟨_,(show Tks _ _ _ from (aQ cL bT)).sat,?_⟩
 refine aJ Y Y (.none Y) Y Y (aW (k:=aZ 9) (xs:=Hi) (j:=tag.toNat) b0 Y (.known (.inr ⟨e,0,3,_,_,Y,⟨_,c⟩,Y⟩)) Y aH aH) Y (aJ Y Y (.none Y) Y Y (cE (o:=0) (k:=aZ 9) (xs:=Hi) (v:=.slice (some ⟨e,0,none⟩) 3 3) ts9 Y (.known (.inr ⟨e,0,3,_,_,Y,⟨_,c⟩,Y⟩)) g Y) Y (s6 Y Y (.none Y) Y Y (bJ (z0:=[(str []),(str []),(str []),(str [])]) b0 tz9 Y Y Y Y cW) Y ?_));refine aCJ fun a=>?_;refine⟨_,(show Tks _ _ _ from (aQ dQ bT)).sat,?_⟩
 refine eR Y (.none Y) Y Y Y (gW b a 4 d x [[115,105,122,101,32,58],r8 tag,[32],Lib.itoa n] _ _ _ Y Y (by simp at l ⊢;omega) cD) bQ Y ?_;rintro _ S _ ⟨rfl,rfl⟩ A;refine uAs ?_;refine dG Y (x5 i A) ?_;exact gHZ
def XM(K:Hl)(n v:aP)(t:Int)(d:Nat)(I:0<=t/\t<=3)(u:n.length<=1000)(hv:v.length<=1000):PSp K (.iface 308 (.agg #[str n,str v,i64 t])) (.set_ n v t) d:=by
 refine⟨_,_,_,Y,Ox _,fun b x q le i=>?_⟩
 have e:=Pw I;have l:MJ.length=4:=rfl;simp only[prn,List.length_append]at i ⊢;refine bL Tryz.func432 Y Tryz.ntmps432 Y Y fun F w=>Z3 ?_;refine aCJ fun M=>Z2 ?_;refine qK (anc:=[0,0,0,4,14,30,0,64,192,0,512,1984,4094,8191]) (ord:=[0,2,3,6,7,8,9,10,11,1,4,5,12,13]) [1,12,13] [13] mixed gAD (aQ cL bT) (Z5 ?_);refine vE Y (.none Y) Y Y Y Y (fun L p=>(Hn (A7 n _ aH))) Y (Z2 ?_);refine vE Y (.none Y) Y Y Y Y (fun L p=>(Hn (A7 v _ aH))) Y (s6 Y Y (.none Y) Y Y (Ba (f:=fun b=>.slice (some ⟨b,0,none⟩) 4 4) (bJ (z0:=[(str []),(str []),(str []),(str [])]) b0 tz9 Y Y Y Y cW) (fun _ _ _ h=>h)) Y ?_);rintro _ r _ ⟨a,rfl,c,rfl⟩ g;refine⟨_,(show Tks _ _ _ from (aQ cL bT)).sat,?_⟩
 refine aJ Y Y (.none Y) Y Y (aW (k:=aZ 9) (xs:=MJ) (j:=t.toNat) b0 Y (.known (.inr ⟨a,0,4,_,_,Y,⟨_,c⟩,Y⟩)) Y aH aH) Y (aJ Y Y (.none Y) Y Y (cE (o:=0) (k:=aZ 9) (xs:=MJ) (v:=.slice (some ⟨a,0,none⟩) 4 4) ts9 Y (.known (.inr ⟨a,0,4,_,_,Y,⟨_,c⟩,Y⟩)) e Y) Y (s6 Y Y (.none Y) Y Y (bJ (z0:=[(str []),(str []),(str []),(str []),(str []),(str []),(str [])]) b0 tz9 Y Y Y Y cW) Y ?_));refine aCJ fun W=>?_;refine⟨_,(show Tks _ _ _ from (aQ dQ bT)).sat,?_⟩
 refine eR Y (.none Y) Y Y Y (gW b W 7 d x [[115,101,116],lQ t,[32],gR n,[32],gR v,[59]] _ _ _ Y Y (by simp at i ⊢;omega) cD) bQ Y ?_;rintro _ S _ ⟨rfl,rfl⟩ A;refine uAs ?_;refine dG Y (x5 g A) ?_;exact gHZ
def XK(K:Hl)(tag:Int)(oct:Bool)(op:Int)(N P:Value)(a c:List aP)(d:Nat)(ht:1<=tag/\tag<=3)(q:op=6\/op=7\/op=8)(s:Ksl (aZ 9) K N a)(t:Ksl (aZ 9) K P c)(O:∀x∈a,x.length<=1000)(B:a.length<=100000)(H:∀x∈c,x.length<=1000)(C:c.length<=100000):
  PSp K (.iface 380 (.agg #[i64 tag,.bool oct,i64 op,N,P])) (.mat tag oct op a c) d:=by
 refine⟨_,_,_,Y,O0 _,fun b Q K' le L=>?_⟩
 have s:=s.mono le;have t:=t.mono le;obtain⟨sa,sn,sc,rfl⟩:=s.isSlice;obtain⟨ta,tn,tc,rfl⟩:=t.isSlice;have G:=PH ht;have jc:MQ.length=4:=rfl;simp only[prn,List.length_append]at L ⊢;have jb:(vZ op).length<=8:=(by rcases q with rfl|rfl|rfl<;>decide);refine bL Tryz.func435 Y Tryz.ntmps435 Y Y fun F w=>?_;refine Z3 ?_;refine aCJ fun M=>?_;refine Z5 ?_;refine cG Lz Y ?_;refine aCJ fun b5=>?_;refine uAx ?_;refine cA (Bz xCK xAM Y Y Y ?_ bP) ?_
 ·rfl
 rintro _ K _ ⟨rfl,rfl⟩ -;refine uAx ?_;refine cA (Bz xCK xAM Y Y Y ?_ bP) ?_
 ·rfl
 rintro _ K _ ⟨rfl,rfl⟩ -;refine uAx ?_;refine cA (Bz xCK xAM Y Y Y ?_ bP) ?_
 ·rfl
 rintro _ K _ ⟨rfl,rfl⟩ -;refine Z3 ?_;refine aA (kD (v:=.agg #[.int .u8 0,str (vZ op),i64 0,i64 0]) (HX (k:=op) xCK xAM tv202 Y Y (.own (.here))) (by rcases q with rfl|rfl|rfl<;>rfl)) Y ?_;refine Z1 ?_;refine cG (bJ (z0:=[(str [])]) b0 tz9 Y Y Y Y (.cons Y Y Y (.cons .nil) .nil)) Y ?_;refine aCJ fun y=>?_;refine bA Y Y (gW b y 1 d Q [vZ op] _ _ _ Y Y gAG cD) (.cons .here (.cons (.there (.there .here)) .nil)) Y ?_;rintro _ W _ ⟨rfl,rfl⟩ A;refine Z2 ?_;refine dU (fun(l:Hl)=>W.le l) (fun _=>[(1,ptr b),(2,ptr M)]) (fun l=>l) (fun _=>[pt M (bK [i64 tag,.bool oct,i64 op,.slice sa sn sc,.slice ta tn tc] 380),pbl b d (Q++vZ op++(if oct=true then xN else []))]) ?_ ?_
 ·refine Z7 ?_;refine dZ 18 Y (fun i=>Z2 ?_) (fun i=>?_)
  ·refine cG (bJ (z0:=[(str [])]) b0 tz9 Y Y Y Y (.cons Y Y Y (.cons .nil) .nil)) Y ?_;refine aCJ fun E=>?_;refine bA Y Y (gW b E 1 d _ [xN] _ _ _ Y Y (by simp only[List.flatten_cons,List.flatten_nil,List.append_nil,List.length_append];simp only[xN,List.length_cons,List.length_nil];omega) cD) (.cons .here (.cons .here .nil)) Y ?_;rintro _ l _ ⟨rfl,rfl⟩ g;refine aG ?_
   (refine aV (.cons (.there (.there .here)) (.cons .here .nil)) ?_;exact cB l g (.cons 1 Y (.cons 2 Y .nil)) Y (by rw[x7 i];simp only[List.flatten_cons,List.flatten_nil,List.append_nil];exact fun _ h=>h))
  refine aU ?_
  (refine aV (.cons (.there (.there .here)) (.cons .here .nil)) ?_;exact cB _ (xAB _) (.cons 1 Y (.cons 2 Y .nil)) Y (by rw[x6 (by rw[i];simp)];simp only[List.flatten_cons,List.flatten_nil,List.append_nil];exact fun _ h=>h))
 intro l g;refine qK (anc:=[0,0,0,4,12,30,62,0,128,384,0,1024,3968,8190,16383]) (ord:=[0,2,3,4,7,8,9,10,11,12,1,5,6,13,14]) [1,13,14] [14] mixed gAD (.cons .here .nil) ?_;refine Z6 ?_;refine vE Y (.none Y) Y Y Y Y (fun S p=>(Hn (A5 _ a _ (s.mono (x5 A (x5 g p))) O B))) Y ?_;refine Z2 ?_;refine vE Y (.none Y) Y Y Y Y (fun S p=>(Hn (A5 _ c _ (t.mono (x5 A (x5 g p))) H C))) Y ?_;refine s6 Y Y (.none Y) Y Y (Ba (f:=fun b=>.slice (some ⟨b,0,none⟩) 4 4) (bJ (z0:=[(str []),(str []),(str []),(str [])]) b0 tz9 Y Y Y Y (.cons Y Y Y (.cons .nil) (.cons Y Y Y (.skip (.cons .nil)) (.cons Y Y Y (.skip (.skip (.cons .nil))) (.cons Y Y Y (.skip (.skip (.skip (.cons .nil)))) .nil))))) (fun _ _ _ h=>h)) Y ?_;rintro _ ja _ ⟨u,rfl,e,rfl⟩ r;refine⟨_,(show Tks _ _ _ from (.cons .here .nil)).sat,?_⟩
 refine aJ Y Y (.none Y) Y Y (aW (k:=aZ 9) (xs:=MQ) (j:=tag.toNat) b0 Y (.known (.inr ⟨u,0,4,_,_,Y,⟨_,e⟩,Y⟩)) Y aH aH) Y ?_;refine aJ Y Y (.none Y) Y Y (cE (o:=0) (k:=aZ 9) (xs:=MQ) (v:=.slice (some ⟨u,0,none⟩) 4 4) ts9 Y (.known (.inr ⟨u,0,4,_,_,Y,⟨_,e⟩,Y⟩)) G Y) Y ?_;refine s6 Y Y (.none Y) Y Y (bJ (z0:=[(str []),(str []),(str []),(str []),(str [])]) b0 tz9 Y Y Y Y (.cons Y Y Y (.cons .nil) (.cons Y Y Y (.skip (.cons .nil)) (.cons Y Y Y (.skip (.skip (.cons .nil))) (.cons Y Y Y (.skip (.skip (.skip (.cons .nil)))) (.cons Y Y Y (.skip (.skip (.skip (.skip (.cons .nil))))) .nil)))))) Y ?_;refine aCJ fun z=>?_;refine⟨_,(show Tks _ _ _ from (.cons (.there .here) .nil)).sat,?_⟩
 refine eR Y (.none Y) Y Y Y (gW b z 5 d _ [xZ tag,[32],oS a,[32],oS c] _ _ _ Y Y (by simp only[List.flatten_cons,List.flatten_nil,List.append_nil,List.length_append,List.length_cons,List.length_nil]at L ⊢;omega) cD) (.cons (.there .here) (.cons (.there .here) .nil)) Y ?_;rintro _ K4 _ ⟨rfl,rfl⟩ I;refine cI ?_;refine uAr ?_;refine dG Y (x5 A (x5 g (x5 r I))) ?_;exact gHZ
def XL(K:Hl)(v:Value)(t:Tree)(d:Nat)(hv:PSp K v t d):PSp K (.iface 293 (.agg #[v])) (.not_ t) d:=by
 obtain⟨P,u,f,rfl,B,c⟩:=hv;refine⟨_,_,_,Y,Ou _,fun b x e le a=>?_⟩
 simp only[prn,List.length_append,List.length_cons,List.length_nil]at a ⊢;refine bL Tryz.func429 Y Tryz.ntmps429 Y Y fun F w=>Z3 ?_;refine aCJ fun M=>Z5 ?_;refine cG (bJ (z0:=[(str [])]) b0 tz9 Y Y Y Y cW) Y ?_;refine aCJ fun h=>bA Y Y (gW b h 1 d x [[110,111,116,32]] _ _ _ Y Y gAG cD) bQ Y ?_;rintro _ S _ ⟨rfl,rfl⟩ A;refine Z6 ?_;refine nS Y Y B (c b _ _ (x5 le A) gAG) (aQ cL bT) Y ?_;rintro _ i _ ⟨rfl,rfl⟩ g;refine aG (uAa ?_);refine dG Y (x5 A g) ?_;exact gHZ
end Go.Proofs
end
section
set_option maxRecDepth 4000
namespace Go.Proofs
open Go Go.SL Go.Syn
def PSp.mono{K a:Hl}{v:Value}{t:Tree}{d:Nat}(h:PSp K v t d)(le:K.le a):PSp a v t d:=let ⟨P,u,f,c,e,l⟩:=h;⟨P,u,f,c,e,fun b x S A=>l b x S (x5 le A)⟩
def BdS(K:Hl)(sv:Value)(t:Tree)(d:Nat):Prop:=∀(b:Nat) (x:aP) (a:Hl),K.le a->x.length+(prn t d true).length<=100000000000->Sp x3 62 [ptr b,sv] a [pbl b d x] (Ret fun q j g=>q=.tuple #[]/\g=[pbl b d (x++prn t d true)])
def PrA(K:Hl):Tree->Nat->List (Cell×Cell)->Prop
 | .tnil,_,L=>L=[]
 | .tcons t l,d,L=>∃v x,L=(v,u0)::x/\PSp K v.1 t d/\PrA K l d x
 | .cnil,_,L=>L=[]
 | .ccons t l,d,L=>∃v x,L=(v,u0)::x/\PSp K v.1 t d/\PrA K l d x
 | .bnil,_,L=>L=[]
 | .bcons t b l,d,L=>∃v a x,L=(v,a)::x/\(PSp K v.1 t d)/\BdS K a.1 b (d+1)/\PrA K l d x
 | .belse b l,d,L=>∃a x,L=(⟨.nilIface,rfl⟩,a)::x/\BdS K a.1 b (d+1)/\PrA K l d x
 |t,d,L=>∃v,L=[(v,u0)]/\PSp K v.1 t d
def BdS.mono{K a:Hl}{v:Value}{t:Tree}{d:Nat}(h:BdS K v t d)(le:K.le a):BdS a v t d:=fun b x S A=>h b x S (x5 le A)
def PrA.mono{K j:Hl}(le:K.le j):∀ {t:Tree} {d:Nat} {L:List (Cell×Cell)},PrA K t d L->PrA j t d L:=by
 intro t;induction t with
 |tcons t l A i=>rintro d L ⟨v,x,e,a,c⟩;exact⟨v,x,e,a.mono le,i c⟩
 |ccons t l A i=>rintro d L ⟨v,x,e,a,c⟩;exact⟨v,x,e,a.mono le,i c⟩
 |bcons t b l A i N=>rintro d L ⟨v,g,x,e,a,c,f⟩;exact⟨v,g,x,e,a.mono le,c.mono le,N f⟩
 |belse b l A i=>rintro d L ⟨g,x,e,c,f⟩;exact⟨g,x,e,c.mono le,i f⟩
 |tnil=>intro d L h;exact h
 |cnil=>intro d L h;exact h
 |bnil=>intro d L h;exact h
 |_=>rintro d L ⟨v,e,a⟩;exact⟨v,e,a.mono le⟩
def sepB(i:Nat):aP:=if isz i=true then []else [44,32]
def aAL{K:Hl}{rest:Tree}{d i:Nat}{L:List (Cell×Cell)}(a:wf rest 1=true)(h:PrA K rest d (L.drop i))(p:i<L.length):∃t l v,rest=.tcons t l/\(L.map (·.1))[i]?=some v/\PSp K v.1 t d/\PrA K l d (L.drop (i+1))/\wf l 1=true/\
  prn rest d (isz i)=sepB i++prn t d true++prn l d false:=by
 have hd:L.drop i=L[i]::L.drop (i+1):=xAV p;cases rest<;>simp only[wf]at a<;>try (simp at a;done)
 case tnil=>rw[hd]at h;cases h
 case tcons t l=>
  obtain⟨v,x,e,b,c⟩:=h;rw[hd]at e
  injection e with M O
  subst O;simp at a;refine⟨t,l,v,Y,by simp[List.getElem?_eq_getElem p,M],b,c,a.2,?_⟩
  simp only[prn,sepB]
def S0{K:Hl}{rest:Tree}{d i:Nat}{L:List (Cell×Cell)}(a:wf rest 1=true)(h:PrA K rest d (L.drop i))(p:L.length<=i)(f:Bool):prn rest d f=[]:=by
 rw[xAS p]at h;cases rest<;>simp only[wf]at a<;>try (simp at a;done)
 case tnil=>rfl
 case tcons t l=>obtain⟨v,x,e,_⟩:=h;cases e
def Vq(K:Hl)(all:Bool)(l:Tree)(a:List (Cell×Cell))(sv:Value)(d:Nat)(hp:PrA K l d a)(hw:wf l 1=true)(g:Ksl (cC 288) K sv (a.map (·.1)))(jl:a.length<=1000000):PSp K (.iface 376 (.agg #[.bool all,sv])) (.many all l) d:=by
 refine⟨_,_,_,Y,Oz _,fun b xs K' le hx=>?_⟩
 have g:=g.mono le;have hp:=hp.mono le;obtain⟨I,Q,C,rfl⟩:=g.isSlice;have jk:(a.map (·.1)).length=a.length:=xAW ..;simp only[prn,List.length_append,List.length_cons,List.length_nil]at hx ⊢;have hh:(if all=true then [97,108,108,111,102,32,40]else [97,110,121,111,102,32,40]:aP).length=7:=by split<;>rfl
 refine bL Tryz.func434 Y Tryz.ntmps434 Y Y fun F w=>?_;refine Z3 ?_;rintro _ K _ ⟨M,rfl,rfl,rfl⟩ -;refine Z2 ?_;refine dU (fun(t:Hl)=>K.le t) (fun _=>[(1,ptr b),(2,ptr M)]) (fun t=>t) (fun _=>[pt M (bK [.bool all,.slice I Q C] 376),pbl b d (xs++(if all=true then [97,108,108,111,102,32,40]else [97,110,121,111,102,32,40]))]) ?_ ?_
 ·refine Z6 ?_;refine dZ 7 Y (fun h7=>Z2 ?_) (fun h7=>Z2 ?_)
  ·refine cG (bJ (z0:=[(str [])]) b0 tz9 Y Y Y Y (.cons Y Y Y (.cons .nil) .nil)) Y ?_;rintro _ K _ ⟨b9,rfl,rfl,rfl⟩ -;refine bA Y Y (gW b b9 1 d _ [[97,108,108,111,102,32,40]] _ _ _ Y Y (by simp;omega) cD) (.cons .here (.cons (.there .here) .nil)) Y ?_;rintro _ K2 _ ⟨rfl,rfl⟩ A;refine aG ?_;refine aV (.cons (.there .here) (.cons .here .nil)) ?_;exact cB _ A (.cons 1 Y (.cons 2 Y .nil)) Y (by rw[x7 h7];simp only[List.flatten_cons,List.flatten_nil,List.append_nil];exact fun _ h=>h)
  refine cG (bJ (z0:=[(str [])]) b0 tz9 Y Y Y Y (.cons Y Y Y (.cons .nil) .nil)) Y ?_;rintro _ K _ ⟨L,rfl,rfl,rfl⟩ -;refine bA Y Y (gW b L 1 d _ [[97,110,121,111,102,32,40]] _ _ _ Y Y (by simp;omega) cD) (.cons .here (.cons (.there .here) .nil)) Y ?_;rintro _ K2 _ ⟨rfl,rfl⟩ A;refine aG ?_;refine aV (.cons (.there .here) (.cons .here .nil)) ?_;exact cB _ A (.cons 1 Y (.cons 2 Y .nil)) Y (by rw[x6 (by rw[h7];simp)];simp only[List.flatten_cons,List.flatten_nil,List.append_nil];exact fun _ h=>h)
 intro t p;have g:=g.mono p;have hp:=hp.mono p;refine Z5 ?_;refine aA (bU (k:=cC 288) Y xCF Y (.known g)) Y ?_;refine Z4 ?_;refine m8 (fun(s:Hl) (i:Nat) (c:Tree) (e:aP)=>t.le s/\i<=a.length/\(wf c 1=true/\PrA s c d (a.drop i))/\e++prn c d (isz i)=xs++(if all=true then [97,108,108,111,102,32,40]else [97,110,121,111,102,32,40])++prn l d true) (fun _ i _ _=>[(1,ptr b),(2,ptr M),(15,.slice I Q C),(16,i64 (a.map (·.1)).length),(17,i64 i)]) (fun s _ _ _=>s) (fun _ _ _ e=>[pt M (bK [.bool all,.slice I Q C] 376),pbl b d e]) (fun _ i _ _=>a.length-i) _ 0 l _ ⟨xAB _,xAA _,⟨hw,hp⟩,Y⟩ (.cons 1 Y (.cons 2 Y (.cons 15 Y (.cons 16 Y (.cons 17 Y .nil))))) Y (fun _ h=>h) ?_;intro s i c e ⟨q,hi,⟨y,u⟩,f⟩;have x:=g.mono q;refine Z6 ?_;refine aX 18 Y (fun S=>?_) (fun S=>?_)
 ·have jb:i<a.length:=aH;obtain⟨t2,l2,v2,rfl,jf,⟨G,u2,f2,jg,jc,je⟩,jd,jh,E⟩:=aAL y u jb;have P:=xAF List.length f;rw[E]at P;simp only[List.length_append,hh]at P;refine Z7 ?_;refine aA (aW (k:=cC 288) (j:=i) sZ Y (.known x) Y Y aH) Y ?_;refine aA (kD (v:=.iface G u2) (cE (o:=0) (k:=cC 288) wW Y (.known x) jf Y) jg) Y ?_;refine Z4 ?_;refine dU (fun(H:Hl)=>s.le H) (fun _=>[(1,ptr b),(2,ptr M),(5,.iface G u2),(15,.slice I Q C),(16,i64 (a.map (·.1)).length),(17,i64 i)]) (fun H=>H) (fun _=>[pt M (bK [.bool all,.slice I Q C] 376),pbl b d (e++sepB i)]) ?_ ?_
  ·refine Z6 ?_;refine aX 23 Y (fun W=>Z2 ?_) (fun W=>?_)
   ·refine cG (bJ (z0:=[(str [])]) b0 tz9 Y Y Y Y (.cons Y Y Y (.cons .nil) .nil)) Y ?_;rintro _ K _ ⟨N,rfl,rfl,rfl⟩ -;refine bA Y Y (gW b N 1 d _ [[44,32]] _ _ _ Y Y (by simp;omega) cD) (.cons .here (.cons (.there .here) .nil)) Y ?_;rintro _ jj _ ⟨rfl,rfl⟩ z;refine aG ?_
    (refine aV (.cons (.there .here) (.cons .here .nil)) ?_;exact cB _ z (.cons 1 Y (.cons 2 Y (.cons 5 Y (.cons 15 Y (.cons 16 Y (.cons 17 Y .nil)))))) Y (by rw[show sepB i=[44,32]from by obtain⟨j,rfl⟩:∃j,i=j+1:=⟨i-1,aH⟩;rfl];simp only[List.flatten_cons,List.flatten_nil,List.append_nil];exact fun _ h=>h))
   refine aU ?_;exact cB _ (xAB _) (.cons 1 Y (.cons 2 Y (.cons 5 Y (.cons 15 Y (.cons 16 Y (.cons 17 Y .nil)))))) Y (by rw[show sepB i=[]from by rw[show i=0 by omega];rfl,xAL];exact fun _ h=>h)
  intro H r;refine Z3 ?_;refine nS Y Y jc (je b _ _ r (by rw[xAE];omega)) (.cons (.there .here) .nil) Y ?_;rintro _ K6 _ ⟨rfl,rfl⟩ B;refine Z7 ?_;refine aV (.cons (.there .here) (.cons .here .nil)) ?_;exact jQ _ (i+1) l2 _ ⟨x5 q (x5 r B),aH,⟨jh,jd.mono (x5 r B)⟩,by rw[<-f,E];simp only[List.append_assoc];rfl⟩ aH (.cons 1 Y (.cons 2 Y (.cons 15 Y (.cons 16 Y (.cons 17 Y .nil))))) Y (fun _ h=>h)
 have ja:i=a.length:=aH;subst ja;rw[S0 y u (xAG _),xAL]at f;subst f;refine Z7 ?_;refine cG (bJ (z0:=[(str [])]) b0 tz9 Y Y Y Y (.cons Y Y Y (.cons .nil) .nil)) Y ?_;rintro _ K _ ⟨O,rfl,rfl,rfl⟩ -;refine bA Y Y (gW b O 1 d _ [[41]] _ _ _ Y Y (by simp only[List.length_append,hh,List.flatten_cons,List.flatten_nil,List.append_nil,List.length_cons,List.length_nil];omega) cD) (.cons .here (.cons (.there .here) .nil)) Y ?_;rintro _ K7 _ ⟨rfl,rfl⟩ ji;refine aG ?_;refine uAr ?_;refine dG Y (x5 p (x5 q ji)) ?_;exact⟨_,Y,Y,by simp[List.append_assoc]⟩
def aAK{K:Hl}{rest:Tree}{d i:Nat}{L:List (Cell×Cell)}(a:wf rest 3=true)(h:PrA K rest d (L.drop i))(p:i<L.length):∃t l v,rest=.ccons t l/\(L.map (·.1))[i]?=some v/\PSp K v.1 t d/\PrA K l d (L.drop (i+1))/\wf l 3=true:=by
 have hd:L.drop i=L[i]::L.drop (i+1):=xAV p;cases rest<;>simp only[wf]at a<;>try (simp at a;done)
 case cnil=>rw[hd]at h;cases h
 case ccons t l=>
  obtain⟨v,x,e,b,c⟩:=h;rw[hd]at e
  injection e with M O
  subst O;simp at a;exact⟨t,l,v,Y,by simp[List.getElem?_eq_getElem p,M],b,c,a.2⟩
def Sz{K:Hl}{rest:Tree}{d i:Nat}{L:List (Cell×Cell)}(a:wf rest 3=true)(h:PrA K rest d (L.drop i))(p:L.length<=i):prn rest d true=[]:=by
 rw[xAS p]at h;cases rest<;>simp only[wf]at a<;>try (simp at a;done)
 case cnil=>rfl
 case ccons t l=>obtain⟨v,x,e,_⟩:=h;cases e
def A3(b:Nat)(x:Int)(q:Bool)(v:Value)(xs:aP){L:List Asn}:∀h,Sat (IG b x q v::sl true (elB 5) v xs::L) h->Sat (pbl b x xs::L) h:=fun h y=>nO.2 ⟨v,nO.2 ⟨q,y⟩⟩
def GV(K:Hl)(l:Tree)(a:List (Cell×Cell))(sv:Value)(d:Nat)(hp:PrA K l d a)(W:wf l 3=true)(x:Ksl (cC 224) K sv (a.map (·.1)))(ja:a.length<=1000000)(hd:d<=64):BdS K sv l d:=by
 intro b xs I le hx;have x:=x.mono le;have hp:=hp.mono le;have S:(a.map (·.1)).length=a.length:=xAW ..;refine bL Tryz.func62 Y Tryz.ntmps62 Y Y fun F w=>?_;refine Z3 ?_;refine aA (bU (k:=cC 224) Y xCU Y (.known x)) Y ?_;refine Z4 ?_;refine m8 (fun(q:Hl) (i:Nat) (c:Tree) (e:aP)=>I.le q/\i<=a.length/\(wf c 3=true/\PrA q c d (a.drop i))/\e++prn c d true=xs++prn l d true) (fun _ i _ _=>[(0,ptr b),(6,sv),(7,i64 (a.map (·.1)).length),(8,i64 i)]) (fun q _ _ _=>q) (fun _ _ _ e=>[pbl b d e]) (fun _ i _ _=>a.length-i) _ 0 l _ ⟨xAB _,xAA _,⟨W,hp⟩,Y⟩ (.cons 0 Y (.cons 6 Y (.cons 7 Y (.cons 8 Y .nil)))) Y (fun _ h=>h) ?_;intro q i c e ⟨g,hi,⟨s,u⟩,f⟩;have r:=x.mono g;refine Z6 ?_;refine aX 9 Y (fun M=>?_) (fun M=>?_)
 ·have G:i<a.length:=aH;obtain⟨t2,l2,v2,rfl,C,⟨H,u2,f2,E,z,A⟩,O,N⟩:=aAK s u G;have P:=xAF List.length f;simp only[prn,List.length_append,List.length_cons,List.length_nil]at P;refine Z6 ?_;refine aA (aW (k:=cC 224) (j:=i) wU Y (.known r) Y Y aH) Y ?_;refine aA (kD (v:=.iface H u2) (cE (o:=0) (k:=cC 224) WR Y (.known r) C Y) E) Y ?_;refine Z4 ?_;refine tR fun vb=>tR fun qb=>?_;refine Z6 ?_;refine cH Y Y (F9 d hd _) Y ?_;refine kG (A3 b d qb vb e) ?_;refine cG (bJ (z0:=[(str [])]) b0 tz9 Y Y Y Y (.cons Y Y Y (.cons .nil) .nil)) Y ?_;rintro _ K _ ⟨B,rfl,rfl,rfl⟩ -;refine bA Y Y (gW b B 1 d _ [indC d] _ _ _ Y Y (by simp only[List.flatten_cons,List.flatten_nil,List.append_nil];omega) cD) (.cons .here (.cons .here .nil)) Y ?_;rintro _ K5 _ ⟨rfl,rfl⟩ p;refine Z6 ?_;refine nS Y Y z (A b _ _ p (by simp only[List.length_append,List.flatten_cons,List.flatten_nil,List.append_nil];omega)) (.cons .here .nil) Y ?_;rintro _ K6 _ ⟨rfl,rfl⟩ t;refine Z4 ?_;refine cG (bJ (z0:=[(str [])]) b0 tz9 Y Y Y Y (.cons Y Y Y (.cons .nil) .nil)) Y ?_;rintro _ K _ ⟨Q,rfl,rfl,rfl⟩ -;refine bA Y Y (gW b Q 1 d _ [[10]] _ _ _ Y Y (by simp only[List.length_append,List.flatten_cons,List.flatten_nil,List.append_nil,List.length_cons,List.length_nil];omega) cD) (.cons .here (.cons .here .nil)) Y ?_;rintro _ K7 _ ⟨rfl,rfl⟩ L;refine Z7 ?_;refine uAr ?_;exact jQ _ (i+1) l2 _ ⟨x5 g (x5 p (x5 t L)),aH,⟨N,O.mono (x5 p (x5 t L))⟩,by rw[<-f];simp only[prn,List.append_assoc,List.flatten_cons,List.flatten_nil,List.append_nil]⟩ aH (.cons 0 Y (.cons 6 Y (.cons 7 Y (.cons 8 Y .nil)))) Y (fun _ h=>h)
 have y:i=a.length:=aH;subst y;rw[Sz s u (xAG _),xAL]at f;subst f;refine Z4 ?_;refine dG Y g ?_;exact⟨_,Y,Y,Y⟩
def BT(o:Option Tree)(d i:Nat):aP:=match o with
 |some t=>(if isz i=true then [105,102,32]else [32,101,108,115,105,102,32])++prn t d true
 |none=>[32,101,108,115,101]
def aAJ{K:Hl}{rest:Tree}{d i:Nat}{L:List (Cell×Cell)}(a:wf rest 4=true)(h:PrA K rest d (L.drop i))(p:i<L.length):∃o H l x,L[i]?=some x/\(match o with|some t=>PSp K x.1.1 t d|none=>x.1.1=.nilIface)/\BdS K x.2.1 H (d+1)/\PrA K l d (L.drop (i+1))/\wf l 4=true/\
  prn rest d (isz i)=BT o d i++[32,123,10]++prn H (d+1) true++(indC d++[125])++prn l d false:=by
 have hd:L.drop i=L[i]::L.drop (i+1):=xAV p;cases rest<;>simp only[wf]at a<;>try (simp at a;done)
 case bnil=>rw[hd]at h;cases h
 case bcons t b l=>
  obtain⟨v,j,q,e,g,c,f⟩:=h;rw[hd]at e
  injection e with M O
  subst O;simp at a;exact⟨some t,b,l,_,x4 p,by rw[M];exact g,by rw[M];exact c,f,a.2.2,by simp only[prn,BT]⟩
 case belse b l=>
  obtain⟨j,q,e,c,f⟩:=h;rw[hd]at e
  injection e with M O
  subst O;simp at a;exact⟨none,b,l,_,x4 p,by rw[M],by rw[M];exact c,f,a.2,by simp only[prn,BT]⟩
def Sy{K:Hl}{rest:Tree}{d i:Nat}{L:List (Cell×Cell)}(a:wf rest 4=true)(h:PrA K rest d (L.drop i))(p:L.length<=i)(f:Bool):prn rest d f=[]:=by
 rw[xAS p]at h;cases rest<;>simp only[wf]at a<;>try (simp at a;done)
 case bnil=>rfl
 case bcons t b l=>obtain⟨v,c,x,e,_⟩:=h;cases e
 case belse b l=>obtain⟨c,x,e,_⟩:=h;cases e
end Go.Proofs
end
section
set_option maxRecDepth 4000
namespace Go.Proofs
open Go Go.SL Go.Syn
attribute [local semireducible] Go.SL.T Go.SL.OL Go.SL.D Go.SL.DL Go.SL.Ev Go.SL.Ef Go.SL.EfS in
def aAI(K:Hl)(x:Tree)(e:List (Cell×Cell))(sv:Value)(d:Nat)(hp:PrA K x d e)(hw:wf x 4=true)(H:Ksl (dM 371) K sv e)(jp:e.length<=1000000)(hd:d<=64):PSp K (.iface 311 (.agg #[sv])) (.iff x) d:=by
 refine⟨_,_,_,Y,Oy _,fun b xs K' le hx=>?_⟩
 have H:=H.mono le;have hp:=hp.mono le;obtain⟨sa,sn,sc,rfl⟩:=H.isSlice;simp only[prn]at hx ⊢;refine bL Tryz.func433 Y Tryz.ntmps433 Y Y fun F w=>?_;refine aI (aC ?_);refine cG (eZ Y Y) Y ?_;rintro _ K _ ⟨b2,rfl,rfl,rfl⟩ -;refine aG (aF ?_);refine aI (aC ?_);refine aA (aD (o':=0) tU Y Y) Y ?_;refine aA (aK J8 Y aL Y) Y ?_;refine aA (bU (k:=dM 371) Y xCG Y (.known H)) Y ?_;refine aA (aB Y) Y ?_;refine aG (aF ?_);refine bC ?_;refine l9 (.cons (.there .here) .nil) ?_;refine m8 (fun(u:Hl) (i:Nat) (f:Tree) (g:aP)=>K.le u/\i<=e.length/\(wf f 4=true/\PrA u f d (e.drop i))/\g++prn f d (isz i)=xs++prn x d true) (fun _ i _ _=>[(1,ptr b),(7,.slice sa sn sc),(8,i64 e.length),(9,i64 i)]) (fun u _ _ _=>u) (fun _ _ _ g=>[pbl b d g]) (fun _ i _ _=>e.length-i) _ 0 x _ ⟨xAB _,xAA _,⟨hw,hp⟩,Y⟩ (.cons 1 Y (.cons 7 Y (.cons 8 Y (.cons 9 Y .nil)))) Y (fun _ h=>h) ?_;intro u i f g ⟨q,hi,⟨L,C⟩,p⟩;have I:=H.mono q;refine aI (aC ?_);refine aA (cP Y Y) Y ?_;refine aG (aF ?_);refine aI ?_;refine aX 10 Y (fun jd=>?_) (fun jd=>?_)
 ·have jg:i<e.length:=aH;obtain⟨o2,b2,l2,x2,jj,l,z,jh,ji,E⟩:=aAJ L C jg;have P:=xAF List.length p;rw[E]at P;simp only[List.length_append,List.length_cons,List.length_nil]at P;obtain⟨⟨c0,jk⟩,⟨s0,jl⟩⟩:=x2;simp only at l z;refine aU ?_;refine aF (aI ?_);refine bC (aI ?_);refine aC ?_;refine aA (aB Y) Y ?_;refine aA (aW (k:=dM 371) (j:=i) sY Y (.known I) Y Y aH) Y ?_;refine aA (fH (n:=0) (k:=dM 371) xY Y (.known I) jj) Y ?_;refine cG (dP Na) Y ?_;rintro _ K _ ⟨b5,rfl,rfl,rfl⟩ -;refine aA (aE Y) Y ?_;refine cA (cQ xY Y Y Y bP (by first|(simp[Value.oneCell'];done)|exact fun c hc=>El.one _ _ c hc) (.cons (.cons .nil)) (by intro j hj;simp)) ?_;rintro _ K _ ⟨rfl,rfl⟩ -;refine aG (aF ?_);refine dU (fun(O:Hl)=>K.le O) (fun _=>[(1,ptr b),(5,ptr b5),(7,.slice sa sn sc),(8,i64 e.length),(9,i64 i)]) (fun O=>O) (fun _=>[pt b5 (bK [c0,s0] 371),pbl b d (g++BT o2 d i)]) ?_ ?_
  ·refine bC ?_;rcases o2 with _|t2
   ·have l:c0=.nilIface:=l;subst l;refine aI (aC ?_);refine aA (aD (o':=0) pD Y Y) Y ?_;refine aA (aK wW Y aL Y) Y ?_;refine aA (yW Tryz.underlying288 Y) Y ?_;refine aA (aE Y) Y ?_;refine aG (aF ?_);refine fD Y ?_;refine aC ?_;refine aA (aB Y) Y ?_;refine cG (bJ (z0:=[(str [])]) b0 tz9 Y Y Y Y (.cons Y Y Y (.cons .nil) .nil)) Y ?_;rintro _ K _ ⟨W,rfl,rfl,rfl⟩ -;refine bA Y Y (gW b W 1 d _ [[32,101,108,115,101]] _ _ _ Y Y (by simp;omega) cD) (.cons .here (.cons (.there .here) .nil)) Y ?_;rintro _ s _ ⟨rfl,rfl⟩ a;refine aG (aM ?_)
    (refine aV (.cons (.there .here) (.cons .here .nil)) ?_;exact cB _ a (.cons 1 Y (.cons 5 Y (.cons 7 Y (.cons 8 Y (.cons 9 Y .nil))))) Y (by simp only[BT,List.flatten_cons,List.flatten_nil,List.append_nil];exact fun _ h=>h))
   obtain⟨jq,u2,f2,rfl,B,G⟩:=l;simp only[BT,List.length_append]at P;refine aI (aC ?_);refine aA (aD (o':=0) pD Y Y) Y ?_;refine aA (aK wW Y aL Y) Y ?_;refine aA (iO Tryz.underlying288 Y Y) Y ?_;refine aA (aE Y) Y ?_;refine aG (aF ?_);refine dO Y ?_;refine aI (aC ?_);refine aA (aB Y) Y ?_;refine aA (e7 Y Y) Y ?_;refine aA (aE Y) Y ?_;refine aG (aF ?_);refine aX 28 Y (fun je=>?_) (fun je=>?_)
   ·have A:isz i=false:=(by obtain⟨j,rfl⟩:∃j,i=j+1:=⟨i-1,aH⟩;rfl);rw[A]at P;refine aI (aC ?_);refine aA (aB Y) Y ?_;refine cG (bJ (z0:=[(str [])]) b0 tz9 Y Y Y Y (.cons Y Y Y (.cons .nil) .nil)) Y ?_;rintro _ K _ ⟨ja,rfl,rfl,rfl⟩ -;refine bA Y Y (gW b ja 1 d _ [[32,101,108,115,105,102,32]] _ _ _ Y Y (by simp;omega) cD) (.cons .here (.cons (.there .here) .nil)) Y ?_;rintro _ s _ ⟨rfl,rfl⟩ a;refine aG (aF ?_);refine aC ?_;refine aA (aD (o':=0) pD Y Y) Y ?_;refine aA (aK wW Y aL Y) Y ?_;refine aA (aB Y) Y ?_;refine nS Y Y B (G b _ _ a (by simp at P ⊢;omega)) (.cons .here .nil) Y ?_;rintro _ Q _ ⟨rfl,rfl⟩ y;refine aG (aM ?_)
    (refine aV (.cons (.there .here) (.cons .here .nil)) ?_;exact cB _ (x5 a y) (.cons 1 Y (.cons 5 Y (.cons 7 Y (.cons 8 Y (.cons 9 Y .nil))))) Y (by simp only[BT,A,if_false,Bool.false_eq_true,List.flatten_cons,List.flatten_nil,List.append_nil,List.append_assoc];exact fun _ h=>h))
   have A:isz i=true:=(by rw[show i=0 by omega];rfl);rw[A]at P;refine aI (aC ?_);refine aA (aB Y) Y ?_;refine cG (bJ (z0:=[(str [])]) b0 tz9 Y Y Y Y (.cons Y Y Y (.cons .nil) .nil)) Y ?_;rintro _ K _ ⟨S,rfl,rfl,rfl⟩ -;refine bA Y Y (gW b S 1 d _ [[105,102,32]] _ _ _ Y Y (by simp;omega) cD) (.cons .here (.cons (.there .here) .nil)) Y ?_;rintro _ s _ ⟨rfl,rfl⟩ a;refine aG (aF ?_);refine aC ?_;refine aA (aD (o':=0) pD Y Y) Y ?_;refine aA (aK wW Y aL Y) Y ?_;refine aA (aB Y) Y ?_;refine nS Y Y B (G b _ _ a (by simp at P ⊢;omega)) (.cons .here .nil) Y ?_;rintro _ Q _ ⟨rfl,rfl⟩ y;refine aG (aM ?_)
   (refine aV (.cons (.there .here) (.cons .here .nil)) ?_;exact cB _ (x5 a y) (.cons 1 Y (.cons 5 Y (.cons 7 Y (.cons 8 Y (.cons 9 Y .nil))))) Y (by simp only[BT,A,if_true,List.flatten_cons,List.flatten_nil,List.append_nil,List.append_assoc];exact fun _ h=>h))
  intro O r;refine aI (aC ?_);refine aA (aB Y) Y ?_;refine cG (bJ (z0:=[(str [])]) b0 tz9 Y Y Y Y (.cons Y Y Y (.cons .nil) .nil)) Y ?_;rintro _ K _ ⟨jb,rfl,rfl,rfl⟩ -;refine bA Y Y (gW b jb 1 d _ [[32,123,10]] _ _ _ Y Y (by simp;omega) cD) (.cons .here (.cons (.there .here) .nil)) Y ?_;rintro _ K6 _ ⟨rfl,rfl⟩ t;refine aG (aF ?_);refine aI ?_;refine tR fun vb=>tR fun qb=>?_;refine aC ?_;refine aA (aB Y) Y ?_;refine aA bD Y ?_;refine aA (aD (o':=2) tf134_1_2 Y Y) Y ?_;refine aA (aK ts3 Y aL Y) Y ?_;refine aA (bR Y Y aH aH) Y ?_;refine aA bD Y ?_;refine aA (aD (o':=2) tf134_1_2 Y Y) Y ?_;refine cA (bW ts3 Y Y cR bP (.succ (.succ .zero)) Y) ?_;rintro _ K _ ⟨rfl,rfl⟩ -;refine aG (aF ?_);refine aI (aC ?_);refine aA (aB Y) Y ?_;refine aA (aD (o':=1) B9 Y Y) Y ?_;refine aA (aK Eu Y aL Y) Y ?_;refine kG (A3 b (d+1:Nat) qb vb _) ?_;refine bA Y Y (z b _ _ (x5 r t) (by simp;omega)) (.cons .here .nil) Y ?_;rintro _ K7 _ ⟨rfl,rfl⟩ M;refine aG (aF ?_);refine aI ?_;refine tR fun vc=>tR fun qc=>?_;refine aC ?_;refine aA (aB Y) Y ?_;refine aA bD Y ?_;refine aA (aD (o':=2) tf134_1_2 Y Y) Y ?_;refine aA (aK ts3 Y aL Y) Y ?_;refine aA (kD (v:=i64 d) (gM Y Y aH aH) (by congr 1;omega)) Y ?_;refine aA bD Y ?_;refine aA (aD (o':=2) tf134_1_2 Y Y) Y ?_;refine cA (bW ts3 Y Y cR bP (.succ (.succ .zero)) Y) ?_;rintro _ K _ ⟨rfl,rfl⟩ -;refine aG (aF ?_);refine kQ (A3 b d qc vc _) ?_;refine tR fun vd=>tR fun qd=>?_;refine aC ?_;refine aA (aB Y) Y ?_;refine aA (aB Y) Y ?_;refine aA bD Y ?_;refine aA (aD (o':=2) tf134_1_2 Y Y) Y ?_;refine aA (aK ts3 Y aL Y) Y ?_;refine cH Y Y (F9 d hd _) Y ?_;refine kG (A3 b d qd vd _) ?_;refine cG (bJ (z0:=[(str []),(str [])]) b0 tz9 Y Y Y Y (.cons Y Y Y (.cons .nil) (.cons Y Y Y (.skip (.cons .nil)) .nil))) Y ?_;rintro _ K _ ⟨jc,rfl,rfl,rfl⟩ -;refine bA Y Y (gW b jc 2 d _ [indC d,[125]] _ _ _ Y Y (by simp;omega) cD) (.cons .here (.cons .here .nil)) Y ?_;rintro _ K8 _ ⟨rfl,rfl⟩ N;refine aG (aM ?_);refine aF (aC ?_);refine aA (bR Y Y aH aH) Y ?_;refine aA (aB Y) Y ?_;refine aG ?_;refine uAr ?_;exact jQ _ (i+1) l2 _ ⟨x5 q (x5 r (x5 t (x5 M N))),aH,⟨ji,jh.mono (x5 r (x5 t (x5 M N)))⟩,by rw[<-p,E];simp only[List.append_assoc,List.flatten_cons,List.flatten_nil,List.append_nil];rfl⟩ aH (.cons 1 Y (.cons 7 Y (.cons 8 Y (.cons 9 Y .nil)))) Y (fun _ h=>h)
 have jf:i=e.length:=aH;subst jf;rw[Sy L C (xAG _),xAL]at p;subst p;refine cO ?_;refine aO ?_;refine aO ?_;refine bE ?_;refine dG Y q ?_;exact⟨_,Y,Y,Y⟩
def A8{K:Hl}:∀ {t:Tree} {L:List (Cell×Cell)} {k:Nat},wf t k=true->Rep K t L->L.length<=Cmp.cnt t+1:=by
 intro t;induction t with
 |tnil=>intro L k _ h;rw[show L=[]from h];simp
 |cnil=>intro L k _ h;rw[show L=[]from h];simp
 |bnil=>intro L k _ h;rw[show L=[]from h];simp
 |tcons t l A i=>
  rintro L k e ⟨v,x,g,c,rfl⟩;simp[wf]at e;have:=i e.2.2 c;have q:1<=Cmp.cnt t:=by cases t<;>simp[wf]at e<;>simp[Cmp.cnt]
  exact gFH
 |ccons t l A i=>
  rintro L k e ⟨v,x,g,c,rfl⟩;simp[wf]at e;have:=i e.2.2 c;have q:1<=Cmp.cnt t:=by cases t<;>simp[wf]at e<;>simp[Cmp.cnt]
  exact gFH
 |bcons t b l A i N=>
  rintro L k e ⟨v,s,f,x,g,_,c,_,d,rfl⟩;simp[wf]at e;have:=N e.2.2.2 d;exact gFH
 |belse b l A i=>
  rintro L k e ⟨s,f,x,c,_,d,rfl⟩;simp[wf]at e;have:=i e.2.2 d;exact gFH
 |const b=>intro L k _ h;rw[show L=_ from h];simp
 |not_ t w=>rintro L k _ ⟨v,_,rfl⟩;simp
 |many j l w=>rintro L k _ ⟨x,f,_,_,rfl⟩;simp
 |mat S r B a b=>rintro L k _ ⟨C,y,_,_,rfl⟩;simp
 |exi a=>rintro L k _ ⟨C,_,rfl⟩;simp
 |siz S n=>intro L k _ h;rw[show L=_ from h];simp
 |plain B=>intro L k _ h;rw[show L=_ from h];simp
 |act k a p=>intro L k _ h;rw[show L=_ from h];simp
 |set_ n v t=>intro L k _ h;rw[show L=_ from h];simp
 |iff u w=>rintro L k _ ⟨x,f,_,_,rfl⟩;simp
def C5{K:Hl}{t:Tree}{d:Nat}{v:Cell}(a:wf t 0=true\/wf t 2=true)(h:PrA K t d [(v,u0)]):PSp K v.1 t d:=by
 cases t<;>simp only[wf,PrA]at h a<;>first|(obtain⟨b,e,hp⟩:=h;injection e with M _;injection M with O _;rw[O];exact hp)|(simp at a;done)
def Vr{K:Hl}(P:Glob K){n:Nat}(C:n<=1000):∀ {t:Tree} {d k:Nat} {L:List (Cell×Cell)},Rep K t L->wf t k=true->okT t=true->sOk n t->Cmp.cnt t<=100000->d+dpt t<=64->PrA K t d L:=by
 intro t;induction t with
 |const b=>intro d k L h _ _ _ _ _;exact⟨_,h,Sv K b d⟩
 |not_ t w=>
  rintro d k L ⟨v,h,rfl⟩ e q c f hd;simp[wf]at e;simp only[okT]at q;simp only[Cmp.cnt]at f;have M:dpt t=0:=by cases t<;>simp[wf]at e<;>rfl
  exact⟨_,Y,XL K v.1 t d (C5 (.inl e.2) (w h e.2 q c aH (by rw[M];simp only[dpt]at hd;omega)))⟩
 |many y l w=>
  rintro d k L ⟨r,s,h,g,rfl⟩ e q c f hd;simp[wf]at e;simp[okT]at q;simp only[Cmp.cnt]at f;have M:dpt l=0:=by cases l<;>simp[wf]at e<;>rfl
  have:=A8 e.2 h;exact⟨_,Y,Vq K y l r s d (w h e.2 q.2 c aH (by rw[M];simp only[dpt]at hd;omega)) e.2 g aH⟩
 |mat S E F a b=>
  rintro d k L ⟨G,W,j,g,rfl⟩ e q c f hd;simp only[okT,decide_eq_true_eq]at q;exact⟨_,Y,XK K S E F G W a b d ⟨q.1,q.2.1⟩ aH j g (fun x u=>by have:=c.1 x u;omega) (by have:=c.2.2.1;omega) (fun x u=>by have:=c.2.1 x u;omega) (by have:=c.2.2.2;omega)⟩
 |exi a=>
  rintro d k L ⟨G,j,rfl⟩ e q c f hd;exact⟨_,Y,XJ K G a d j (fun x u=>by have:=c.1 x u;omega) (by have:=c.2;omega)⟩
 |siz S m=>
  intro d k L h e q c f hd;simp only[okT,decide_eq_true_eq]at q;exact⟨_,h,XN K S m d P q c⟩
 |tnil=>intro d k L h _ _ _ _ _;exact h
 |cnil=>intro d k L h _ _ _ _ _;exact h
 |bnil=>intro d k L h _ _ _ _ _;exact h
 |tcons t l A i=>
  rintro d k L ⟨v,r,j,g,rfl⟩ e q c f hd;simp[wf]at e;simp[okT]at q;simp only[Cmp.cnt]at f;have M:dpt t=0:=by cases t<;>simp[wf]at e<;>rfl
  have O:dpt l=0:=by cases l<;>simp[wf]at e<;>rfl
  simp only[dpt]at hd;exact⟨v,r,Y,C5 (.inl e.2.1) (A j e.2.1 q.1 c.1 aH aH),i g e.2.2 q.2 c.2 aH aH⟩
 |plain F=>intro d k L h e q _ _ _;exact⟨_,h,Sx K F d⟩
 |act Q a p=>
  intro d k L h e q c _ _;simp only[okT,decide_eq_true_eq]at q;exact⟨_,h,XH K Q a p d q (xAR c C)⟩
 |set_ m v t=>
  intro d k L h e q c _ _;simp only[okT,decide_eq_true_eq]at q;exact⟨_,h,XM K m v t d q (xAR c.1 C) (xAR c.2 C)⟩
 |iff I w=>
  rintro d k L ⟨r,s,j,g,rfl⟩ e q c f hd;simp[wf]at e;simp only[okT]at q;simp only[Cmp.cnt]at f;simp only[dpt]at hd;have:=A8 e.2 j;exact⟨_,Y,aAI K I r s d (w j e.2 q c aH hd) e.2 g aH aH⟩
 |ccons t l A i=>
  rintro d k L ⟨v,r,j,g,rfl⟩ e q c f hd;simp[wf]at e;simp[okT]at q;simp only[Cmp.cnt]at f;simp only[dpt]at hd;exact⟨v,r,Y,C5 (.inr e.2.1) (A j e.2.1 q.1 c.1 aH aH),i g e.2.2 q.2 c.2 aH aH⟩
 |bcons t b l A i N=>
  rintro d k L ⟨v,H,s,r,j,hi,g,z,B,rfl⟩ e q c f hd;simp[wf]at e;simp[okT]at q;simp only[Cmp.cnt]at f;simp only[dpt]at hd;have M:dpt t=0:=by cases t<;>simp[wf]at e<;>rfl
  have:=A8 e.2.2.1 g;exact⟨v,s,r,Y,C5 (.inl e.2.1) (A j e.2.1 q.1 c.1 aH aH),GV K b H s.1 (d+1) (i g e.2.2.1 q.2.1 c.2.1 aH aH) e.2.2.1 z aH aH,N B e.2.2.2 q.2.2 c.2.2 aH aH⟩
 |belse b l A i=>
  rintro d k L ⟨H,s,r,g,z,B,rfl⟩ e q c f hd;simp[wf]at e;simp[okT]at q;simp only[Cmp.cnt]at f;simp only[dpt]at hd;have:=A8 e.2.1 g;exact⟨s,r,Y,GV K b H s.1 (d+1) (A g e.2.1 q.1 c.1 aH aH) e.2.1 z aH aH,i B e.2.2 q.2.2 c.2 aH aH⟩
end Go.Proofs
end
section
set_option maxRecDepth 4000
namespace Go.Proofs
open Go Go.SL Go.Syn
structure TextFit (r:List aP×Tree):Prop where
 wf:wf r.2 3=true
 ok:okT r.2=true
 strs:sOk 600 r.2
 cnt:Cmp.cnt r.2<=1201
 dpt:dpt r.2<=7
 needs:r.1.length<=1201
 need:∀x∈r.1,x.length<=600
def FX{r:List aP×Tree}(h:TextFit r):(prn r.2 0 true).length<=12010000000/\(oS r.1).length<=4010006/\(Ek r).length<=12020000000:=by
 have a:=(GX (n:=600) dD (d:=0) (f:=true) h.strs (by have:=h.dpt;omega)).2 (.inr (.inl h.wf));have b:=rU (n:=600) dD h.need h.needs;have l:=h.cnt;refine⟨aH,b,?_⟩
 unfold Ek;split<;>simp only[List.length_append,List.length_cons,List.length_nil]<;>omega
def Wg(tb:Nat)(r:List aP×Tree)(K:Hl)(I:Glob K)(a:TextFit r)(t:ScriptAt K tb r.1 r.2):Sp x3 41 [ptr tb 6] K [] (Ret fun v W L'=>v=str (Ek r)/\L'=[]):=by
 obtain⟨l,nv,P,S,fz,e,i,G,b,f,C,_⟩:=t.at_;have M:=FX a;have u:=Vr I (n:=600) dD (d:=0) C a.wf a.ok a.strs (by have:=a.cnt;omega) (by have:=a.dpt;omega);have O:=A8 a.wf C;have z:=GV K r.2 S P 0 u a.wf f (by have:=a.cnt;omega) dD;have L:=a.needs;obtain⟨na,Q,nc,rfl⟩:=b.isSlice;obtain⟨ba,bn,bc,rfl⟩:=f.isSlice;refine bL Tryz.func41 Y Tryz.ntmps41 Y Y fun F w=>?_;refine Z7 ?_;refine aA (dA tb134 tb134f .nil) Y ?_;refine Z1 ?_;rintro _ K _ ⟨c,rfl,rfl,rfl⟩ -;refine Z3 ?_;refine dU (fun(j:Hl)=>K.le j) (fun _=>[(0,ptr tb 6),(3,ptr c)]) (fun j=>j) (fun _=>[pbl c (0:Nat) (if r.1=[]then []else [114,101,113,117,105,114,101,32]++oS r.1++[59,10])]) ?_ ?_
 ·refine aI ?_;refine kQ (gS (Su c (0:Nat))) ?_;refine Z4 ?_;refine aA (aK eL Y (.known e) i) Y ?_;refine aA (bU (k:=aZ 9) Y xAC Y (.known b)) Y ?_;refine Z3 ?_;refine aX 11 Y (fun E=>?_) (fun E=>?_)
  ·have s:r.1≠[]:=(by intro h;rw[h]at E;simp at E);refine Z5 ?_;refine aA (aK eL Y (.known e) i) Y ?_;refine bA Y Y (A5 _ r.1 _ b (fun x N=>by have:=a.need x N;omega) aH) .nil Y ?_;rintro _ K2 _ ⟨rfl,rfl⟩ A;refine cG (bJ (z0:=[(str []),(str []),(str [])]) b0 tz9 Y Y Y Y (.cons Y Y Y (.cons .nil) (.cons Y Y Y (.skip (.cons .nil)) (.cons Y Y Y (.skip (.skip (.cons .nil))) .nil)))) Y ?_;rintro _ K _ ⟨B,rfl,rfl,rfl⟩ -;refine bA Y Y (gW c B 3 (0:Nat) [] [[114,101,113,117,105,114,101,32],oS r.1,[59,10]] _ _ _ Y Y gAG cD) (.cons .here (.cons .here .nil)) Y ?_;rintro _ H _ ⟨rfl,rfl⟩ p;refine aG ?_
   (exact cB _ (x5 A p) (.cons 0 Y (.cons 3 Y .nil)) Y (by rw[x6 s];simp only[List.flatten_cons,List.flatten_nil,List.append_nil,List.nil_append,List.append_assoc];exact fun _ h=>h))
  have q:r.1=[]:=xA7.1 aH;refine aU ?_
  (exact cB _ (xAB _) (.cons 0 Y (.cons 3 Y .nil)) Y (by rw[x7 q];exact fun _ h=>h))
 intro j g;have e:=g _ _ e;refine Z6 ?_;refine aA (aK Eu Y (.known e) G) Y ?_;refine bA Y Y (z c _ _ g (by split<;>simp<;>omega)) (.cons .here .nil) Y ?_;rintro _ K4 _ ⟨rfl,rfl⟩ y;refine Z7 ?_;refine bA Y Y (GY c (0:Nat) _ (by rw[xAE];split<;>simp<;>omega) _) (.cons .here .nil) Y ?_;rintro _ K _ ⟨rfl,rfl,rfl⟩ -;refine Z4 ?_;refine bG Y Y (x5 g y) ?_;exact gEO
def T8(b:Nat)(r:List aP×Tree)(K:Hl)(H:Glob K)(c:TextFit r)(t:u5 K b r):Sp x3 24 [ptr b] K [] (Ret fun v e L'=>v=str (Ek r)/\L'=[]):=by
 obtain⟨tb,s,g,f,a,d,_,_⟩:=t;refine bL Tryz.func24 Y Tryz.ntmps24 Y Y fun F w=>ZA ?_;refine aA (aK H3 Y (.known a) Y) Y (bA Y Y (Wg tb r _ H c d) .nil Y ?_);rintro _ S _ ⟨rfl,rfl⟩ A;refine Z4 ?_;refine bG Y Y A ?_;exact gEO
end Go.Proofs
end
section
namespace Go.Proofs
open Go Go.SL Go.Syn Go.Mach Tryz
open Go.Cmp (cnt)
open Go.Say (elemsC brL brO)
def BrsP(t:Tree):Prop:=(∀P∈brL t,CL P.1/\LnAt P.2/\dpt P.2+1<=dpt t)/\(∀b,brO t=some b->LnAt b/\dpt b+1<=dpt t)/\(brL t).length<=cnt t
def V5:∀t:Tree,okT t=true->sOk 600 t->cnt t<=100000->ifB t=true->(wf t 3=true->LnAt t/\∀y∈elemsC t,CmdP y)/\(wf t 2=true->∀s,t=.iff s->wf s 4=true/\okT s=true/\BrAt s)/\(wf t 4=true->BrsP t):=by
 intro t;induction t with
 |cnil=>
  intro q c d p;exact⟨fun a=>⟨IU _ a c d (fun y h=>(by simp[Say.elemsC]at h)),fun y h=>(by simp[Say.elemsC]at h)⟩,fun a=>gA1,fun a=>gA1⟩
 |ccons x l A i=>
  intro q c d p;refine⟨fun a=>?_,fun a=>gA1,fun a=>gA1⟩
  have u:=a;have r:=d;simp[wf]at a;simp[okT]at q;simp[ifB]at p;simp only[cnt]at d;have L:∀y∈elemsC (.ccons x l),CmdP y:=by
   intro y v;rcases List.mem_cons.1 v with rfl|v
   ·exact⟨a.1,q.1,c.1,p.1,(A q.1 c.1 aH p.1).2.1 a.1⟩
   exact((i q.2 c.2 aH p.2).1 a.2).2 y v
  exact⟨IU _ u c r L,L⟩
 |iff s E=>
  intro q c d p;refine⟨fun a=>gA1,fun a M e=>?_,fun a=>gA1⟩
  cases e
  have B:wf s 4=true:=by simpa[wf]using a
  have f:cnt s<=100000:=by simp only[cnt]at d;omega
  simp[ifB]at p;obtain⟨g,j,z⟩:=(E q c f p.2).2.2 B;exact⟨B,q,S3 s B q c f p.1 g j z⟩
 |bnil=>
  intro q c d p;exact⟨fun a=>gA1,fun a=>gA1,fun a=>⟨fun P h=>(by simp[Say.brL]at h),fun b h=>(by cases h),xAA _⟩⟩
 |belse b l A i=>
  intro q c d p;refine⟨fun a=>gA1,fun a=>gA1,fun a=>⟨fun P h=>(by simp[Say.brL]at h),fun M h=>?_,xAA _⟩⟩
  cases h
  simp[wf]at a;simp[okT]at q;simp[ifB]at p;simp only[cnt]at d;exact⟨((A q.1 c.1 aH p.1).1 a.1).1,by simp only[dpt];omega⟩
 |bcons t b l A i N=>
  intro q c d p;refine⟨fun a=>gA1,fun a=>gA1,fun a=>?_⟩
  simp[wf]at a;simp[okT]at q;simp[ifB]at p;simp only[cnt]at d;obtain⟨g,j,z⟩:=(N q.2.2 c.2.2 aH p.2).2.2 a.2.2;have C:=((i q.2.1 c.2.1 aH p.1).1 a.2.1).1;have I:=(SU t q.1 c.1 aH).1 a.1;refine⟨fun P hp=>?_,fun M h=>?_,?_⟩
  ·rcases List.mem_cons.1 hp with rfl|hp
   ·exact⟨I,C,by simp only[dpt];omega⟩
   obtain⟨Q,w,F⟩:=g P hp;exact⟨Q,w,by simp only[dpt];omega⟩
  ·obtain⟨Q,w⟩:=j M h;exact⟨Q,by simp only[dpt];omega⟩
  show (brL l).length+1<=_
  simp only[cnt];omega
 |_=>intro q c d p;exact⟨fun a=>gA1,fun a s e=>(by cases e),fun a=>gA1⟩
def SS(b:Nat)(r:List aP×Tree)(K:Hl)(a:TextFit r)(p:ifB r.2=true)(i:sF K b r):Sp x3 73 [ptr b] K [] (Val (str (Ek r)) K):=by
 obtain⟨W,P,L,j,q,h,v⟩:=i;obtain⟨d,f,g⟩:=FX a;have z:=((V5 r.2 a.ok a.strs (by have:=a.cnt;omega) p).1 a.wf).1;refine bL func73 Y ntmps73 Y Y fun F w=>ZH ?_;refine aA (bU (k:=aZ 9) Y xAC Y (.known q)) Y (Z3 ?_);refine aX 11 Y (fun E=>?_) (fun E=>?_)
 ·have c:¬r.1=[]:=(by intro e;rw[e]at E;simp at E);refine Z6 ?_;refine cH Y Y (A9 r.1 W a.need (by have:=a.needs;omega) _ q) Y (Z5 ?_);refine aA (eG Y Y (by first|(simp only[List.length_cons,List.length_nil];omega)|omega)) Y (aA (eG Y Y gAA) Y (Z9 ?_));refine cH Y Y (z 0 K P L (by have:=a.dpt;omega) h v) Y (Z7 ?_);refine aA (eG Y Y gAA) Y (Z4 ?_);refine uAd ?_;refine Z1 ?_;unfold Ek
  (rw[x6 c];exact⟨Y,Y,Y⟩)
 have c:r.1=[]:=xA7.1 aH;refine Z8 ?_;refine cH Y Y (z 0 K P L (by have:=a.dpt;omega) h v) Y (Z7 ?_);refine aA (eG Y Y (by first|(simp only[List.length_nil];omega)|omega)) Y (Z4 ?_);refine uAd ?_;refine Z1 ?_;unfold Ek
 (rw[x7 c];exact⟨Y,Y,Y⟩)
def VE{n k:Nat}(h:n<=k):∀ {t:Tree},sOk n t->sOk k t:=by
 intro t;induction t with
 |const=>intro _;trivial
 |not_ t w=>intro d;exact w d
 |many a l w=>intro d;exact w d
 |mat S j B a b=>intro d;exact⟨fun x g=>by have:=d.1 x g;omega,fun x g=>by have:=d.2.1 x g;omega,by have:=d.2.2.1;omega,by have:=d.2.2.2;omega⟩
 |exi a=>intro d;exact⟨fun x g=>by have:=d.1 x g;omega,by have:=d.2;omega⟩
 |siz=>intro d;exact d
 |tnil=>intro _;trivial
 |tcons t l e f=>intro d;exact⟨e d.1,f d.2⟩
 |plain=>intro _;trivial
 |act k a p=>intro d;exact xAR d h
 |set_ a v t=>intro d;exact⟨xAR d.1 h,xAR d.2 h⟩
 |iff s w=>intro d;exact w d
 |cnil=>intro _;trivial
 |ccons c l e f=>intro d;exact⟨e d.1,f d.2⟩
 |bnil=>intro _;trivial
 |bcons t b l e f i=>intro d;exact⟨e d.1,f d.2.1,i d.2.2⟩
 |belse b l e f=>intro d;exact⟨e d.1,f d.2⟩
def qQ{x:aP}:∀ {l s:List aP},x∈iW s l->x∈s\/x∈l
 | [],s,h=>.inl h
 |e::l,s,h=>by
  have h:x∈iW (addN s e) l:=h;rcases qQ h with h|h
  ·unfold addN at h;split at h
   ·exact .inl h
   rcases xA5.1 h with h|h
   ·exact .inl h
   exact .inr (by rw[List.mem_singleton.1 h];exact List.mem_cons_self ..)
  exact .inr (List.mem_cons_of_mem _ h)
def SF{s:aP}:∀ {f:Nat} {a:List aP} {st:St} {r:List aP×St},Ok s st->(∀x∈a,x.length<=s.length)->reqF s f a st=.ok r->∀x∈r.1,x.length<=s.length:=by
 intro f;induction f with
 |zero=>intro a st r _ _ e;cases e
 |succ f w=>
  intro a st r b i e;simp only[reqF]at e;split at e
  ·rename_i p;split at e
   ·cases e
   rename_i q g;have h:=iR b aH g;split at e
   ·cases e
   rename_i l v;have c:=nN h.1 v;have z:=A0 h.1 v;split at e
   ·cases e
   rename_i y t;have d:=jB c.1 t;exact w d.1 (fun x j=>(qQ j).elim (i x) (z x)) e
  cases e;exact i
def J4{s:aP}{r:List aP×Tree}(h:gG s=.ok r)(c:s.length<=600):TextFit r:=by
 obtain⟨f,a,j,d,_⟩:=m0 h;have u:=sO h;have hd:=ON h;refine⟨f,d,VE c a,aH,hd,aH,fun x i=>?_⟩
 unfold gG at h;split at h
 ·cases h
 rename_i q g;have b:=fU (xAA _) g;unfold i8 at h;split at h
 ·cases h
 rename_i n I;have e:=SF b cD I;split at h
 ·cases h
 split at h
 ·cases h;exact xAR (e x i) c
 cases h
end Go.Proofs
end
end

/- Part 1 of what the proof stands on: walks and plain laws. Conditions: as each theorem says. -/
import Derived.KernelRfl
import Derived.WalkKit
import Derived.Defers
import Derived.Orders
import Derived.RangeFuncRecord
import Derived.OrdersIn
import Derived.TacticsIn
set_option linter.unusedVariables false
set_option linter.unusedSimpArgs false
set_option linter.defProp false
set_option maxRecDepth 4000
set_option maxHeartbeats 1000000
universe u
namespace Go
def x4:=@List.getElem?_eq_getElem
def x6:=@if_neg
def x7:=@if_pos
def x8:=@List.mem_of_getElem?
def xAA:=@Nat.zero_le
def xAD:=@Nat.lt_or_ge
def xAE:=@List.length_append
def xAF:=@congrArg
def xAG:=@Nat.le_refl
def xAH:=@List.getElem?_eq_none
def xAI:=@List.getElem?_eq_some_iff
def xAJ:=@List.take_of_length_le
def xAK:=@List.take_succ_eq_append_getElem
def xAL:=@List.append_nil
def xAO:=@decide_eq_true
def xAQ:=@decide_eq_false
def xAR:=@Nat.le_trans
def xAS:=@List.drop_of_length_le
def xAT:=@List.getElem?_map
def xAU:=@Nat.mul_le_mul_right
def xAV:=@List.drop_eq_getElem_cons
def xAW:=@List.length_map
def xAX:=@of_decide_eq_true
def xA0:=@Option.some.inj
def xA1:=@List.append_assoc
def xA2:=@List.take_add_one
def xA3:=@Classical.byContradiction
def xA4:=@List.getElem?_of_mem
def xA5:=@List.mem_append
def xA6:=@List.length_take
def xA7:=@List.length_eq_zero_iff
def xA8:=@List.getElem?_append_left
def xA9:=@Array.getD_eq_getD_getElem?
def xBA:=@of_decide_eq_false
def xBB:=@List.getElem?_drop
def xBD:=@List.length_set
def xBE:=@List.findIdx?_eq_some_iff_getElem
def xBF:=@List.length_drop
def xBG:=@List.take_length
def xBH:=@Classical.not_not
def xBI:=@List.length_singleton
def xBJ:=@UInt8.toNat_inj
def xBL:=@Array.getElem?_setIfInBounds_ne
def xBM:=@List.mem_map
def xBR:=@Array.getElem?_eq_some_iff
def xBT:=@List.length_cons
def xBX:=@List.drop_zero
def xBY:=@List.getElem?_append_right
def xB1:=@List.nil_append
def xB4:=@List.flatMap_cons
def xB5:=@List.takeWhile_cons
def xB6:=@List.all_eq_true
def xCC:=@Bool.eq_iff_iff
def xCP:=@Nat.le_of_ble_eq_true
def Y{α:Sort u}{a:α}:a=a:=rfl
structure Wq (q:Prop):Prop where
 w:q
def bZ{p:Prop}(h:p:=by assumption):p:=h
def dD{p:Prop}(h:p:=by decide):p:=h
def cW{p:Prop}(h:p:=by repeat (first|exact .nil|(apply Go.SL.Fill.cons;exact rfl;exact rfl;exact rfl;repeat (first|exact .nil|apply Go.SL.Spl.cons|apply Go.SL.Spl.skip)))):p:=h
def bP{p:Prop}(h:p:=by first|exact .here|exact .there .here|exact .there (.there .here)|exact .there (.there (.there .here))|exact .there (.there (.there (.there .here)))|exact .there (.there (.there (.there (.there .here))))|exact .there (.there (.there (.there (.there (.there .here)))))|exact .there (.there (.there (.there (.there (.there (.there .here))))))|exact .there (.there (.there (.there (.there (.there (.there (.there .here)))))))):p:=h
def a7{p:Prop}(h:p:=by exact fun _ h=>h):p:=h
def bM{p:Prop}(h:p:=by repeat (first|exact .nil|refine .cons _ rfl ?_)):p:=h
def cV{p:Prop}(h:p:=by kernel_rfl):p:=h
def bD{p:Prop}(h:p:=by first|exact HY rfl|exact Dj rfl|exact Di rfl):p:=h
def aH{p:Prop}(h:p:=by omega):p:=h
def cR{p:Prop}(h:p:=by first|rfl|assumption):p:=h
def aL{p:Prop}(h:p:=by first|exact .own .here|exact .own (.there .here)|exact .own (.there (.there .here))|exact .own (.there (.there (.there .here)))|exact .own (.there (.there (.there (.there .here))))|exact .own (.there (.there (.there (.there (.there .here)))))|exact .own (.there (.there (.there (.there (.there (.there .here))))))|exact .own (.there (.there (.there (.there (.there (.there (.there .here)))))))|exact .own (.there (.there (.there (.there (.there (.there (.there (.there .here))))))))|exact .known (by assumption)):p:=h
def cD{p:Prop}(h:p:=by simp):p:=h
def bQ{p:Prop}(h:p:=by repeat (first|exact .nil|(apply Go.SL.Tks.cons;repeat (first|exact .here|apply Go.SL.Tk.there)))):p:=h
end Go
namespace Go
variable{p:Prop}
def gA0(h:p:=by first|exact fV (xs:=[c+32]) xAP xAZ x9 Y (.blk aL Y Y)|exact fV (xs:=[c]) xAP xAZ x9 Y (.blk aL Y Y)):p:=h
def gA1(h:p:=by simp[wf]at a):p:=h
def gA2(h:p:=by first|(rw[xAO (show c.toNat=47 by omega),hd aH];rfl)|(rw[xAO (show c.toNat=47 by omega),hd];rfl)|(rw[xAQ (show ¬c.toNat=47 by omega)];rfl)):p:=h
def gA3(h:p:=by refine xAF (fun x=>some (Value.bool x)) ?_;rw[N];first|rfl|(rw[xAO (show c.toNat=64 by omega)];rfl)|(rw[xAQ (show ¬c.toNat=64 by omega)];rfl)):p:=h
def gA4(h:p:=by first|exact x5 A (x5 d B)|exact x5 A B):p:=h
def gA5(h:p:=by first|(simp[Value.oneCell'];done)|exact fun c g=>El.one _ _ c g):p:=h
def gA6(h:p:=by refine xAF (fun x=>some (Value.bool x)) ?_;first|(symm;exact xAO aH)|(symm;exact xAQ aH)|(rw[decide_eq_decide];omega)):p:=h
def gA7(h:p:=by unfold iU;simp only[Bool.or_eq_true,Bool.and_eq_true,decide_eq_true_eq];first|(left;left;simpa using y;done)|(left;right;omega)|(right;omega)):p:=h
def gA8(h:p:=by rw[d,W];unfold Mach.actV;rw[x7 z,oN]):p:=h
def gA9(h:p:=by rw[xCC];simp;omega):p:=h
def gAA(h:p:=by first|(simp only[List.length_append,List.length_cons,List.length_nil];omega)|omega):p:=h
def gAB(h:p:=by first|exact dW Y|exact eB Y):p:=h
def gAC(h:p:=by unfold actB;rw[x6 (by first|omega|(rintro⟨_,g⟩;simp[g]at q)),x6 (by first|omega|(rintro⟨_,g⟩;simp[g]at l))]):p:=h
def gAD(h:p:=by decide+kernel):p:=h
def gAE(h:p:=by rintro _ _ ⟨_,h,_⟩;cases h):p:=h
def gAF(h:p:=by first|(simp[Value.oneCell'];done)|exact fun c hc=>El.one _ _ c hc):p:=h
def gAG(h:p:=by simp;omega):p:=h
def gAH(h:p:=by first|(simp;omega)|omega):p:=h
def gAI(h:p:=by first|exact bo1 bZ|exact bo2 bZ Y|exact bo2 bZ (bo1 bZ)|exact bo2 bZ (bo2 bZ Y)):p:=h
def gAJ(h:p:=by first|assumption|omega):p:=h
def gAK(h:p:=by refine xAF (fun x=>some (Value.bool x)) ?_;rw[hd];first|(symm;exact xAQ (fun h=>absurd h.1 aH))|(rw[decide_eq_decide];exact⟨fun h=>⟨aH,show d.toNat=123 by omega⟩,fun h=>by have l:d.toNat=123:=h.2;omega⟩)|(symm;exact xAQ (fun h=>by have l:(0:UInt8).toNat=123:=h.2;exact absurd l dD))):p:=h
def gAL(h:p:=by unfold eF; simp only [decide_eq_true_eq]; omega):p:=h
def gAM(h:p:=by first|(rw[xAO (show 6<=o.op/\o.op<=10 by omega)];rfl)|(rw[decide_eq_decide.2 (show (6<=o.op/\o.op<=10)↔o.op=10 by omega)];rfl)):p:=h
def gAN(h:p:=by unfold iU;rw[<-xK];simp only[Bool.or_eq_true,Bool.and_eq_true,decide_eq_true_eq];first|(left;left;left;simpa using u;done)|(left;left;right;simpa using g;done)|(left;right;omega)|(right;omega)):p:=h
def gAO(h:p:=by simpa using e):p:=h
def gAQ(h:p:=by intro j hj;simp):p:=h
def gAR(h:p:=by refine xAF (fun x=>some (Value.bool x)) ?_;first|(have hz:=nU y;symm;exact xAO (fun h=>absurd h.1 aH))|(symm;exact xAO (fun h=>absurd h.1 aH))|(rw[decide_eq_decide];exact⟨fun h f=>h f.2,fun h f=>h ⟨aH,f⟩⟩)):p:=h
def gAS(h:p:=by refine xAF (fun x=>some (Value.bool x)) ?_;first|(have hz:=nU d;symm;exact xAQ (fun h=>absurd h.1 aH))|(symm;exact xAQ (fun h=>absurd h.1 aH))|(rw[decide_eq_decide];exact⟨fun h=>⟨aH,h⟩,fun h=>h.2⟩)):p:=h
def gAT(h:p:=by refine xAF (fun x=>some (Value.bool x)) ?_;first|(have hz:=nU A;symm;exact xAQ (fun h=>absurd h.1 aH))|(symm;exact xAQ (fun h=>absurd h.1 aH))|(rw[decide_eq_decide];exact⟨fun h=>⟨aH,h⟩,fun h=>h.2⟩)):p:=h
def gAU(h:p:=by first|(simp[Value.oneCell'];done)|exact fun c f=>El.one _ _ c f):p:=h
def gAV(h:p:=by simp only[List.length_map];omega):p:=h
def gAW(h:p:=by rintro(⟨a,b⟩|⟨a,b⟩) <;> first|omega|(simp_all;done)):p:=h
def gAX(h:p:=by refine xAF (fun x=>some (Value.bool x)) ?_;first|(rw[u];rfl)|(rw[u,a];rfl)|(rw[u,a];show decide ((i:Int)=0)=(true&&(false||decide (i=0)));rw[Bool.true_and,Bool.false_or,decide_eq_decide];omega)):p:=h
def gAY(h:p:=by first|(simp[Value.oneCell'];done)|exact fun c d=>El.one _ _ c d):p:=h
def gAZ(h:p:=by first|exact fV (xs:=[c+224]) xAP xAZ x9 Y (.blk aL Y Y)|exact fV (xs:=[c]) xAP xAZ x9 Y (.blk aL Y Y)):p:=h
def gB0(h:p:=by refine xAF (fun x=>some (Value.bool x)) ?_;first|(have hz:=nU Q;symm;exact xAQ aH)|(rw[decide_eq_decide];omega)):p:=h
def gB1(h:p:=by intro h;rw[x7 h]at C;cases C):p:=h
def gB2(h:p:=by refine xAF (fun x=>some (Value.bool x)) ?_;first|(have hz:=nU u;symm;exact xAO aH)|(rw[decide_eq_decide];omega)):p:=h
def gB3(h:p:=by refine xAF (fun x=>some (Value.bool x)) ?_;first|(have N:=nU A;symm;exact xAQ aH)|(rw[decide_eq_decide];omega)):p:=h
def gB4(h:p:=by intro m N jd js z;rcases xAD m i with h|h;exact S m N jd h z;(have e:m=i:=by omega);subst e;rw[G]at z;cases z;exact ja):p:=h
def gB5(h:p:=by first|(simp[Value.oneCell'];done)|exact fun c t=>El.one _ _ c t):p:=h
def gB6(h:p:=by first|exact .inl ⟨aH,by assumption⟩|exact .inr ⟨aH,aH⟩):p:=h
def gB7(h:p:=by unfold und;first|(rw[xAO (show rK r2=58 by omega)];rfl)|(rw[xAQ (show ¬rK r2=58 by omega)];rfl)):p:=h
def gB8(h:p:=by unfold ovr;first|(rw[xAO (show rK r2=58 by omega)];rfl)|(rw[xAQ (show ¬rK r2=58 by omega)];rfl)):p:=h
def gB9(h:p:=by first|(rw[xAO (show i < us.length by omega)];rfl)|(rw[xAQ (show ¬i < us.length by omega)];rfl)):p:=h
def gBA(h:p:=by intro j E;simp):p:=h
def gBB(h:p:=by rw[xBF];omega):p:=h
def gBC(h:p:=by rw[d,W];unfold Mach.actV;rw[x6 z]):p:=h
def gBE(h:p:=by first|(simp[Value.oneCell'];done)|exact fun c l=>El.one _ _ c l):p:=h
def gBG(h:p:=by rw[b];simp only[List.length_singleton];omega):p:=h
def gBH(h:p:=by refine xAF (fun z:Int=>some (Value.int .i64 z)) ?_;show ((pc:Int)+1+o.n)=((pc+o.n.toNat+1:Nat):Int);omega):p:=h
def gBI(h:p:=by rw[l];first|rfl|(refine xAF (fun x=>some (Value.bool x)) ?_;show _=eS k;unfold eS;rw[<-mZ,<-pM,q];rfl)):p:=h
def gBJ(h:p:=by simp only[List.length_singleton];omega):p:=h
def gBK(h:p:=by first|(simp[Value.oneCell'];done)|exact fun c L=>El.one _ _ c L):p:=h
def gBL(h:p:=by first|exact aL|exact aL):p:=h
def gBM(h:p:=by first|(obtain⟨l,a,h1,h2,h3⟩:=Say.sh_many (all:=true) M r;exact⟨true,l,a,h1,r,h2,h3⟩)|(obtain⟨l,a,h1,h2,h3⟩:=Say.sh_many (all:=false) M r;exact⟨false,l,a,h1,r,h2,h3⟩)):p:=h
def gBN(h:p:=by split <;> omega):p:=h
def gBO(h:p:=by first|omega|(simp;done)|(simp;omega)):p:=h
def gBQ(h:p:=by rw[l];simp only[optB];first|rfl|(rw[xAO g];rfl)|(rw[xAQ g];rfl)):p:=h
def gBR(h:p:=by rw[l];simp only[optB];first|rfl|(rw[xAO L];rfl)|(rw[xAQ L];rfl)):p:=h
def gBS(h:p:=by unfold actB;rw[x6 aH,x7 ⟨A,by simpa using l⟩]):p:=h
def gBT(h:p:=by rw[xAE];omega):p:=h
def gBU(h:p:=by rw[xA6];omega):p:=h
def gBV(h:p:=by rw[f];intro y E;cases r with|error z=>cases E;exact hb _ Y|ok z=>cases E):p:=h
def gBW(h:p:=by simpa using h):p:=h
def gBY(h:p:=by rcases Nat.le_total (acc++g).length 1024 with h|h;(rw[Nat.min_eq_left h,xBG,xAJ h]);(rw[Nat.min_eq_right h])):p:=h
def gBZ(h:p:=by rw[decide_eq_decide];omega):p:=h
def gC0(h:p:=by (unfold numA;rw[x7 aH])):p:=h
def gC1(h:p:=by (unfold numN; rw [x6 aH, x7 aH])):p:=h
def gC2(h:p:=by first|exact xAB _|exact x5 g (x5 u (x5 L c))):p:=h
def gC3(h:p:=by rw[l];omega):p:=h
def gC4(h:p:=by rw[e];rfl):p:=h
def gC6(h:p:=by intro j I;simp):p:=h
def gC7(h:p:=by have:=d.acts;simp;omega):p:=h
def gC8(h:p:=by intro h;rw[x7 h]at hu;cases hu):p:=h
def gC9(h:p:=by rw[hd];first|rfl|(show _=some (Value.bool (!(gE d)));rw[<-mZ];rfl)):p:=h
def gCA(h:p:=by first|exact .inl bZ|exact .inr ⟨by assumption,trivial⟩):p:=h
def gCB(h:p:=by first|(rw[xAO (show k < P.length by omega)];rfl)|(rw[xAQ (show ¬k < P.length by omega)];rfl)):p:=h
def gCD(h:p:=by cases W with|none=>(first|(rw[jb rfl,show v.length+1 - e=0 from aH];rfl)|(simp at ja))|some q=>exact(jc q Y).1):p:=h
def gCF(h:p:=by simp only[List.length_map]at*;omega):p:=h
def gCG(h:p:=by first|(rw[xAO (show y.1=4 by omega)];rfl)|(rw[xAQ (show ¬y.1=4 by omega)];rfl)):p:=h
def gCH(h:p:=by rw[y9 d,g,<-xA1];exact xAF (fun x=>some (str x)) (by rw[t,xA1];rfl)):p:=h
def gCI(h:p:=by rw[UInt8.toNat_ofNat'];unfold IntKind.wrap IntKind.bits IntKind.signed;simp only[Bool.false_and];simp):p:=h
def gCJ(h:p:=by unfold eS;rw[<-mZ,<-pM,Bool.or_eq_true];first|(left;simpa using d;done)|(right;simpa using M;done)):p:=h
def gCK(h:p:=by simp only[cnt]at d;omega):p:=h
def gCL(h:p:=by first|exact e|exact xAB _):p:=h
def gCN(h:p:=by rw[hP0]at y ⊢;exact y):p:=h
def gCO(h:p:=by (show vs.length - (i+1) < vs.length - i);omega):p:=h
def gCP(h:p:=by first|(rw[x7 (show o.tag=1 by omega)];rfl)|(rw[x6 (show ¬o.tag=1 by omega),d];rfl)):p:=h
def gCQ(h:p:=by simp only;omega):p:=h
def gCR(h:p:=by rw[y];exact xAF (fun x:Nat=>some (i64 (x:Int))) (xAF (s.length+ ·) (HM s).symm)):p:=h
def gCS(h:p:=by have:=(xAI.1 E).1;omega):p:=h
def gCT(h:p:=by rw[Q];exact fun _ h=>h):p:=h
def gCV(h:p:=by rw[k.len];exact xAG _):p:=h
def gCW(h:p:=by rcases xAD j s.length with h|h;omega;(rw[xAH h]at d;cases d)):p:=h
def gCX(h:p:=by have:olds.length=4:=rfl;omega):p:=h
def gCY(h:p:=by first|(rw[Say.sh_const (c:=true) M L,L];rfl)|(rw[Say.sh_const (c:=false) M L,L];rfl)):p:=h
def gD0(h:p:=by refine aCL (ZA ?_);refine uAm ?_;refine fC fun S a y=>bG Y Y a ?_;exact oO (t:=.const true) (SZ l Y) (sQ dD) trivial):p:=h
def gD1(h:p:=by exact cB () trivial (.cons 0 Y (.cons 1 Y (.cons 5 Y (.cons 6 Y (.cons 7 Y (.cons 8 Y (.cons 36 gAK .nil))))))) Y a7):p:=h
def gD2(h:p:=by refine jK Y Y Y (xAB _) ?_;rw[g];exact gDF):p:=h
def gD3(h:p:=by refine uAd ?_;refine Z1 ?_;exact gDP):p:=h
def gD4(h:p:=by refine uAm ?_;refine jJ Y gCL ?_;rw[f.2];exact⟨_,Y,Y,kN,kN,[],[],_,_,_,uN f.1,sQ dD,xJ _ _,xJ _ _,Y⟩):p:=h
def gD5(h:p:=by simp only[w7,List.map_append,List.map_cons,List.map_nil,List.cons_append,List.nil_append];exact y):p:=h
def gD6(h:p:=by exact cB () trivial (.cons 0 Y (.cons 1 Y (.cons 5 Y (.cons 69 Y (.cons 157 gAI .nil))))) Y a7):p:=h
def gD7(h:p:=by exact cB () trivial (.cons 0 Y (.cons 1 Y (.cons 5 Y (.cons 42 Y (.cons 62 gAI .nil))))) Y a7):p:=h
def gD8(h:p:=by exact cB () trivial (.cons 0 Y (.cons 1 Y (.cons 5 Y (.cons 42 Y (.cons 53 gAI .nil))))) Y a7):p:=h
def gDA(h:p:=by rw[xAJ aH,xAJ aH]at G;exact G):p:=h
def gDC(h:p:=by rintro _ K _ a -;obtain⟨q,g,rfl,rfl,rfl⟩:=eK a;clear a;have d:=hZ g;refine uAs ?_;refine Z1 ?_;unfold MI;rw[x7 B,g];exact⟨_,Y,Y,pv,by rw[d];exact L,Y⟩):p:=h
def gDD(h:p:=by rintro _ _ _ ⟨_,h,_⟩;cases h):p:=h
def gDF(h:p:=by exact⟨_,Y,Y,Y,Y⟩):p:=h
def gDG(h:p:=by obtain⟨r,hs,hb,hk,f⟩:=hE;refine Z2 ?_;refine bA Y Y (qY g m hv nm r hb hk _ _ _ _ hs _) bQ Y ?_;rintro _ K _ ⟨jt,⟨ax,nx,cx,rfl⟩,rfl,rfl,rfl⟩ -;refine Z1 ?_;refine cA (cQ ta146_3 Y Y Y bP gBK (.cons (.cons (.cons .nil))) gAQ) ?_;refine aCK (Z4 ?_);refine yU Y Y Y ta146_3 aL Y Y (xAB _) (aQ cL bT) ?_;exact⟨_,Y,_,⟨_,_,_,Y⟩,(by rw[f];cases r <;> rfl),gBV,Y,by rw[f]⟩):p:=h
def gDH(h:p:=by exact cB () trivial (.cons 0 Y (.cons 1 Y (.cons 6 Y (.cons 8 Y (.cons 9 Y (.cons 10 Y (.cons 12 Y (.cons 13 Y (.cons 62 Y (.cons 105 gAM .nil)))))))))) Y a7):p:=h
def gDI(h:p:=by rw[xCC];simp;omega):p:=h
def gDJ(h:p:=by refine uAd ?_;exact d9 (i+1) a ⟨aH,aH,aH,fun hr j q E d=>by rcases xAD j i with s|s;(exact(hq aH j q s d).mono aH);(obtain rfl:j=i:=by omega);rw[hx]at d;cases d;obtain⟨g1,g2,g3,N⟩:=t aH;exact⟨(show I.length<=a by omega),(show p.length<=a by omega),(show A.length<=a by omega),(show G.length<=a by omega),fun q B=>by have:=N q B;omega,(show l.length<=a by omega),fun o B=>by obtain⟨j,E,f⟩:=nth B;exact H hr j o (by have f:j < l.length:=f;omega) E⟩⟩ aH bM Y a7):p:=h
def gDK(h:p:=by simp only[List.length_cons,List.length_nil]at hJL;refine Z7 ?_;refine aA (aW (k:=cC 340) (xs:=g) (j:=k) iC Y (.known l) Y Y t) Y ?_;refine aA (cE (o:=0) (k:=cC 340) (xs:=g) (u:=S) ts340 Y (.known l) C Y) Y ?_;refine cH Y Y (hT d K S aH M) Y ?_;refine Z5 ?_;refine aA (eG Y Y gAA) Y ?_;refine Z1 ?_;refine aA (eG Y Y gAA) Y ?_;refine Z3 ?_;exact cB (_,P.2,E,N) ⟨by rw[<-Q];simp only[List.append_assoc],c,O,r,H,e⟩ (.cons 0 Y (.cons 1 Y (.cons 5 Y (.cons 6 Y .nil)))) Y a7):p:=h
def gDL(h:p:=by have t:k < ys.length:=aH;refine ZD ?_;refine aA (aW (k:=cS) (j:=j) eP Y aL Y Y a) Y ?_;refine aA (dN (k:=cS) fA Y aL a) Y ?_;refine aA (eW (k:=cS) eL Y aL C Y) Y (Z1 ?_);refine aA (aW (k:=aZ 9) (j:=k) b0 Y aL Y Y t) Y ?_;refine cA (iS (k:=aZ 9) (y0:=mine) ts9 Y Y Y Y t (.there .here)) (aCK (Z7 ?_));exact cX ⟨k+1,ys.set k mine⟩ ⟨by (show k+1<=o.a.length);omega,by simpa using I⟩ (by (show o.a.length - (k+1) < o.a.length - k);omega) bM Y a7):p:=h
def gDM(h:p:=by refine uAc ?_;refine d8 (gS AI) ?_;refine d8 (AF (P:=actP b) (fun h y=>by rw[hP0];exact y)) ?_;refine d8 sA ?_;refine uAf ?_;refine d8 (fun h y=>Ug (p:=b) h gCN) ?_;refine Z1 ?_;exact⟨_,Y,Y,Y,b,by rw[hP0],rfl⟩):p:=h
def gDN(h:p:=by refine bL func63 Y ntmps63 Y Y fun F w=>tR fun v=>tR fun q=>Z6 ?_;refine cN [10] [10] mixed gAD (cM _) (Z4 ?_);refine aJ Y Y (.none Y) Y Y (An (e:=5) Y (.there .here)) Y (Z4 ?_);refine aJ Y Y (.none Y) Y Y (bU (k:=(elB 5)) Y xAP Y aL) Y ?_;refine N8 Y Y (.none Y) Y (wG (e:=5) Y underlying227 Fh aH Y Y (.there .here)) Y (aCL (Z4 ?_));refine uAd ?_;refine Z1 ?_;exact gDF):p:=h
def gDO(h:p:=by rintro _ L _ ⟨C,rfl⟩ v;refine Z4 ?_;refine uAa ?_;refine bG Y Y v ?_;simp only[RT,i];exact⟨_,Y,C,Y⟩):p:=h
def gDP(h:p:=by exact⟨Y,Y,Y⟩):p:=h
def gDQ(h:p:=by unfold MI;rw[x7 B,g];exact⟨i,Y,Y⟩):p:=h
def gDR(h:p:=by simp only[prn,cnt,List.length_append,List.length_cons,List.length_nil];omega):p:=h
def gDS(h:p:=by exact cX ⟨j+1,x.set j ⟨13,0,0,false,nilC,nilC,0⟩⟩ ⟨by (show j+1<=ws.length);omega,by simpa using d,by (show (x.set j _).drop (j+1)=ws.drop (j+1));rw[List.drop_set_of_lt (Nat.lt_succ_self j)];exact uE b⟩ (by (show ws.length - (j+1) < ws.length - j);omega) bM Y a7):p:=h
def gDT(h:p:=by refine uAa ?_;refine Z3 ?_;unfold MI;rw[d,W];exact⟨r,Y,Y⟩):p:=h
def gDU(h:p:=by refine aA (eG Y Y gAA) Y (ZA ?_);refine aA (aW (k:=cC 340) (xs:=a) (j:=i) iC Y (.known g) Y Y Q) Y (aA (cE (o:=0) (k:=cC 340) (xs:=a) (u:=x) ts340 Y (.known g) hx Y) Y (cH Y Y O Y (Z6 ?_)));refine aA (eG Y Y gAA) Y (Z9 ?_);exact d9 (i+1) _ ⟨aH,WB p aH z⟩ aH bM Y a7):p:=h
def gDV(h:p:=by exact cB u (zR (fun h=>by first|exact b|omega) (fun h=>by first|exact a|omega) (xB aH)) bM Y a7):p:=h
def gDW(h:p:=by refine aV (aQ EI (aQ cL (aQ EI (aQ dQ (aQ dQ bT))))) ?_;exact cB () trivial (.cons 0 Y (.cons 1 Y (.cons 2 Y (.cons 65 gAR .nil)))) Y a7):p:=h
def gDX(h:p:=by have e:j=i:=aH;subst e;rw[d]at z;cases z;exact r):p:=h
def gDY(h:p:=by refine aA (aW (k:=cC 340) (xs:=a) (j:=i) iC Y (.known g) Y Y Q) Y (aA (cE (o:=0) (k:=cC 340) (xs:=a) (u:=x) ts340 Y (.known g) hx Y) Y (cH Y Y O Y (Z6 ?_)));refine aA (eG Y Y gAA) Y (Z9 ?_);exact d9 (i+1) _ ⟨aH,WA p aH z⟩ aH bM Y a7):p:=h
def gDZ(h:p:=by obtain⟨c,e,d⟩:=h F;rw[F,e];unfold eF at d;simp at d ⊢;omega):p:=h
def gE0(h:p:=by refine aCL ?_;have a:=hZ g;refine aG (uAa ?_);refine Z1 ?_;unfold MI;rw[x7 B,g];exact⟨_,Y,Y,pv,by rw[a];exact L,Y⟩):p:=h
def gE1(h:p:=by refine uAd ?_;refine Z1 ?_;exact⟨_,Y,n,Y,P,fun s=>⟨M,fun q B=>by obtain⟨j,E,d⟩:=nth B;exact g j q aH E⟩,Y,Y⟩):p:=h
def gE2(h:p:=by have W:=Say.snd_6 C aH;refine aU ?_;exact gDH):p:=h
def gE3(h:p:=by exact cB () trivial (.cons 0 Y (.cons 1 Y (.cons 4 Y (.cons 5 Y (.cons 6 Y (.cons 7 Y (.cons 121 gCB .nil))))))) Y a7):p:=h
def gE4(h:p:=by refine uAa ?_;refine Z7 ?_;rw[d,pN aH aH aH];exact⟨j,Y,Y⟩):p:=h
def gE5(h:p:=by refine ZD ?_;refine bG Y Y a ?_;exact⟨_,Y,by rw[<-G],by rw[<-G];exact hd,by rw[<-G];exact I,by rw[<-G]⟩):p:=h
def gE6(h:p:=by refine d8 (jV (m:=m) (c:=d)) ?_;exact cB () trivial (.cons 0 Y (.cons 1 Y (.cons 4 Y (.cons 18 gB9 .nil)))) Y a7):p:=h
def gE7(h:p:=by refine uAa ?_;refine Z2 ?_;simp only[RT,i];exact⟨a,Y,Y⟩):p:=h
def gE8(h:p:=by refine uAa ?_;refine Z2 ?_;simp only[MI,a];exact⟨i,Y,Y⟩):p:=h
def gE9(h:p:=by rintro _ K _ hT2 -;obtain⟨r,i,rfl,rfl,rfl⟩:=eK hT2;refine Z6 ?_;unfold Syn.text;rw[x6 aH,i];exact gDF):p:=h
def gEA(h:p:=by refine uAa ?_;refine Z6 ?_;simp only[A,iB,y,M,if_pos d,if_true,if_false];exact⟨z,Y,Y⟩):p:=h
def gEB(h:p:=by exfalso;revert a;rw[e];decide):p:=h
def gEC(h:p:=by refine aCL (Z4 ?_);refine aA (eX xCA (fun _ h=>by cases h) Y) Y (Z4 ?_);refine uAa ?_;refine Z1 ?_;simp only[RT,mL,i];exact⟨_,Y,⟨_,_,Y,Y⟩,Y⟩):p:=h
def gED(h:p:=by rw[Ee aH]at G;refine ZC ?_;refine aV (aQ dQ (aQ dQ (aQ dQ (aQ dQ (aQ dQ (aQ cL bT)))))) (d8 (jV (m:=m) (c:=c)) (uAn ?_));refine Z1 ?_;exact⟨_,Y,Y,by rw[<-G]⟩):p:=h
def gEE(h:p:=by rintro _ K _ a -;obtain⟨q,g,rfl,rfl,rfl⟩:=eK a;clear a;have j:=zD g;refine uAs ?_;refine Z1 ?_;simp only[MI,i,g];exact⟨_,Y,Y,pv,by rw[j,f];exact L,Y⟩):p:=h
def gEF(h:p:=by refine ZF ?_;exact jQ (k+1) (i+1) f s ⟨aH,aH,aH,W,rest,p.2,d⟩ aH (.cons 0 Y (.cons 11 Y (.cons 13 Y (.cons 14 Y (.cons 15 Y (.cons 16 Y .nil)))))) Y a7):p:=h
def gEG(h:p:=by refine Z1 ?_;exact⟨_,Y,by simp only[Say.asksV,a];rfl,rfl,by simp only[Say.asksV,a];exact d,by simp only[Say.asksV,a];rfl,by simp only[Say.asksV,a];rfl⟩):p:=h
def gEH(h:p:=by exact cB () trivial (.cons 0 Y (.cons 1 Y (.cons 2 Y (.cons 100 gAT .nil)))) Y a7):p:=h
def gEI(h:p:=by simp only[prn,cnt,List.length_append,List.length_cons,List.length_nil,vO];omega):p:=h
def gEJ(h:p:=by exact cB () trivial (.cons 0 Y (.cons 6 Y (.cons 7 Y (.cons 36 (by first|(rw[a];rfl)|(rw[xAQ (show ¬i=1 by omega)];rfl)) .nil)))) Y a7):p:=h
def gEK(h:p:=by exact cB () trivial (.cons 0 Y (.cons 1 Y (.cons 6 Y (.cons 8 Y (.cons 9 Y (.cons 10 Y (.cons 12 Y (.cons 13 Y (.cons 17 gCP .nil))))))))) Y a7):p:=h
def gEL(h:p:=by exact cB () gCA (.cons 0 Y (.cons 3 Y (.cons 4 Y (.cons 26 gA3 .nil)))) Y a7):p:=h
def gEM(h:p:=by exact⟨d,Y,Y⟩):p:=h
def gEN(h:p:=by refine Z1 ?_;exact gDF):p:=h
def gEO(h:p:=by exact⟨_,Y,Y,Y⟩):p:=h
def gEP(h:p:=by obtain⟨y,_,t⟩:=List.mem_flatMap.1 a;unfold gU at t;obtain⟨h,b,rfl⟩:=xBM.1 t;exact(B.hs h (List.mem_filter.1 b).1).2):p:=h
def gET(h:p:=by refine aV (aQ cL (aQ AR (aQ dQ (aQ dQ bT)))) ?_;exact cB () trivial (.cons 0 Y (.cons 1 Y (.cons 5 Y (.cons 149 gB2 .nil)))) Y a7):p:=h
def gEU(h:p:=by exact cB () trivial (.cons 0 Y (.cons 4 Y (.cons 143 gA6 .nil))) Y a7):p:=h
def gEV(h:p:=by exact cB () trivial (.cons 0 Y (.cons 3 Y (.cons 29 gAX .nil))) Y a7):p:=h
def gEW(h:p:=by refine Z5 ?_;refine bA Y Y (lL b tb s nv r 34 i d _) bQ Y ?_;refine aCL (ZA ?_);refine uAg ?_;refine Z1 ?_;rw[g];exact gDF):p:=h
def gEX(h:p:=by refine uAd ?_;refine Z1 ?_;exact⟨_,Y,n,Y,P,fun L=>⟨H,u,aH,fun q B=>by obtain⟨j,E,l⟩:=nth B;exact p j q aH E⟩,Y,Y⟩):p:=h
def gEZ(h:p:=by simp only[List.nil_append]at this;unfold loadCells;rw[bH this];rfl):p:=h
def gF0(h:p:=by simpa using this):p:=h
def gF2(h:p:=by simp only[List.mem_cons,List.not_mem_nil,or_false,Bool.or_eq_true,decide_eq_true_eq]):p:=h
def gF3(h:p:=by simp only[q,if_false,Bool.false_eq_true]at h ⊢;exact d undef K M (Hl.le_refl _) h):p:=h
def gF4(h:p:=by refine aV (aQ cL (aQ dQ bT)) (jJ Y (xAB _) ?_);rw[s];exact⟨_,Y,Y,Y,av,Y⟩):p:=h
def gF5(h:p:=by refine ZC ?_;exact cB () trivial (.cons 0 Y (.cons 59 (by rw[z];rfl) .nil)) Y a7):p:=h
def gF6(h:p:=by refine uAa ?_;refine aT (cF (x5 O a) ?_);simp only[RT,p7,i,f,t];exact gFF):p:=h
def gF7(h:p:=by have:=xBB (xs:=xs) (i:=i) (j:=0);rw[d]at this;simpa using this.symm):p:=h
def gF8(h:p:=by exact cB () trivial (.cons 0 Y (.cons 2 Y (.cons 3 Y (.cons 169 gBI .nil)))) Y a7):p:=h
def gF9(h:p:=by exact cB () trivial (.cons 0 Y (.cons 2 Y (.cons 3 Y (.cons 125 gBQ .nil)))) Y a7):p:=h
def gFA(h:p:=by have ht:(acc++g).take (min (acc++g).length 1024)=(acc++g).take 1024:=gBY;unfold cY;rw[x7 d,j,ht];exact gDF):p:=h
def gFB(h:p:=by rintro y K _ ⟨rfl,rfl,d⟩ -;refine oG iA ?_;rintro⟨I,Q,q,rfl⟩;refine Z5 ?_;exact⟨_,Y,_,_,_,Y,Y,Y⟩):p:=h
def gFC(h:p:=by have:args.length<=n:=xCP g;simp[u];omega):p:=h
def gFD(h:p:=by obtain⟨⟨v,A⟩,_⟩:=d _ _ _ c;cases A):p:=h
def gFE(h:p:=by refine aA (dA WK TG cW) Y ?_;refine aA (eX xCH (fun _ h=>by cases h) Y) Y (Z5 ?_);exact gDP):p:=h
def gFF(h:p:=by exact⟨c,Y,Y⟩):p:=h
def gFH(h:p:=by simp only[List.length_cons,Cmp.cnt];omega):p:=h
def gFJ(h:p:=by refine uAm ?_;refine fC fun K8 a W=>bG Y Y a ?_;exact oO (t:=.const true) (by rw[q];rfl) (sQ dD) trivial):p:=h
def gFK(h:p:=by refine fC fun L p hK1=>fC fun S A hK2=>bG Y Y (x5 p A) ?_;exact⟨_,Y,N,M,Y,A _ _ hK1,hK2,Y⟩):p:=h
def gFL(h:p:=by exact cB () trivial (.cons 5 Y (.cons 52 gAS .nil)) Y a7):p:=h
def gFM(h:p:=by exact cB () trivial (.cons 0 Y (.cons 67 gA2 .nil)) Y a7):p:=h
def gFN(h:p:=by refine aV (aQ dQ (aQ dQ (aQ dQ (aQ dQ (aQ dQ bT))))) (d8 (jV (m:=m) (c:=c)) (Z1 ?_));rw[g];exact gDF):p:=h
def gFO(h:p:=by exact⟨l,Y,Y⟩):p:=h
def gFP(h:p:=by simp only[decide_eq_true_eq];intro O;exact l (xAF some (xBJ.1 (by simpa using O)))):p:=h
def gFQ(h:p:=by rw[xAH e]at h;cases h):p:=h
def gFR(h:p:=by refine aCL (Z5 ?_);refine d8 (jV (m:=m) (c:=c)) (d8 CD (jJ Y (xAB _) ?_));rw[g];exact gDF):p:=h
def gFS(h:p:=by exact cB () trivial (.cons 0 Y (.cons 1 Y (.cons 5 Y (.cons 69 Y (.cons 107 gAI .nil))))) Y a7):p:=h
def gFT(h:p:=by simp only[cnt,List.length_cons];omega):p:=h
def gFU(h:p:=by exact cB () trivial (.cons 0 Y (.cons 1 Y (.cons 5 Y (.cons 69 Y (.cons 83 gAI .nil))))) Y a7):p:=h
def gFW(h:p:=by exact cB () trivial (.cons 0 Y (.cons 2 Y (.cons 4 Y (.cons 7 Y (.cons 48 gCG .nil))))) Y a7):p:=h
def gFX(h:p:=by refine eR Y (.none Y) Y Y Y (mH tb s (.ok st) 4 (rW s (.ok st)) i aH _) bQ Y ?_;exact gD0):p:=h
def gFY(h:p:=by rw[xBX,<-k.cs_length,List.take_left]):p:=h
def gFZ(h:p:=by exact⟨l.1,by simp only[];omega⟩):p:=h
def gG0(h:p:=by have e:((c.toNat:Int).toNat).toUInt8=c:=cD;rw[e]at this;exact this):p:=h
def gG1(h:p:=by rw[x6 h,x7 ⟨fun e=>h (.inl e),fun e=>h (.inr e)⟩];rfl):p:=h
def gG2(h:p:=by exact⟨r,Y,Y⟩):p:=h
def gG3(h:p:=by exact⟨_,_,_,_,.inl this,⟨_,Y,Y,Y⟩,Hl.le_refl _,j.alloc _⟩):p:=h
def gG4(h:p:=by have A:xs=ys:=gDA;exact⟨_,Y,by rw[xAO A],rfl,rfl⟩):p:=h
def gG5(h:p:=by refine uAa ?_;refine Z2 ?_;simp only[RT,mL,i];exact⟨a,Y,Y⟩):p:=h
def gG6(h:p:=by obtain⟨C,A,a⟩:=E3 h;exact⟨C,List.mem_cons_of_mem _ A,a⟩):p:=h
def gG7(h:p:=by rename_i r i;have e:=D9 i;have:=GL h (by rw[e];exact hp);omega):p:=h
def gG8(h:p:=by refine uAa ?_;refine Z1 ?_;unfold MI;rw[x7 B,g];exact gEM):p:=h
def gG9(h:p:=by subst this;exact .inl ⟨_,_,by simp[oM];exact⟨Y,Y⟩,cD⟩):p:=h
def gGA(h:p:=by exact cB () trivial (.cons 0 Y (.cons 1 Y (.cons 5 Y (.cons 220 gB7 .nil)))) Y a7):p:=h
def gGB(h:p:=by exact cB () trivial (.cons 0 Y (.cons 1 Y (.cons 5 Y (.cons 196 gB8 .nil)))) Y a7):p:=h
def gGC(h:p:=by cases s;exact fun h=>(by cases h)):p:=h
def gGD(h:p:=by obtain⟨v,e⟩:=xAI.1 h;rw[xAV v,e]):p:=h
def gGE(h:p:=by exact cB () trivial (.cons 0 Y (.cons 2 Y (.cons 3 Y (.cons 82 gBR .nil)))) Y a7):p:=h
def gGG(h:p:=by exact cB () trivial (.cons 0 Y (.cons 1 Y (.cons 5 Y (.cons 25 gB3 .nil)))) Y a7):p:=h
def gGH(h:p:=by exact cB () trivial (.cons 0 Y (.cons 1 Y (.cons 4 Y (.cons 45 gB0 .nil)))) Y a7):p:=h
def gGI(h:p:=by simp[p]at c;exact Lib.run_from_unsafe w ⟨b,0,none⟩ d hd p (wH (u.at j)) c.2):p:=h
def gGJ(h:p:=by exact⟨_,_,_,_,.inr ⟨p,Y⟩,⟨Y,Y⟩,Hl.le_refl _,j.writeAt P cD h.1 h.2⟩):p:=h
def gGK(h:p:=by simp[Instr.sliceBounds,Instr.sliceBound,asIntOf,bind,Sem.bind,pure,Sem.run,B]):p:=h
def gGL(h:p:=by refine aCL (Z4 ?_);refine uAa ?_;exact gEN):p:=h
def gGM(h:p:=by refine uAa ?_;refine Z2 ?_;unfold Syn.text;rw[x6 aH,i];exact⟨a,Y,Y⟩):p:=h
def gGN(h:p:=by refine uAd ?_;exact cX (i+1) aH aH bM Y a7):p:=h
def gGO(h:p:=by have a:s.take i=s:=xAJ aH;rw[a];refine ZC ?_;exact gD3):p:=h
def gGP(h:p:=by exact⟨⟨h.vn,h.vars,h.parts,h.acts,fun e=>by cases e⟩,Nat.le_succ _⟩):p:=h
def gGQ(h:p:=by cases e;exact(w (by simp[okT]at q;exact q.2) c gCK).2 (by simpa[wf]using a)):p:=h
def gGR(h:p:=by simp[Builtin.len_,s,underlying,program,bind,Sem.bind,pure,Sem.run,C,goInt]):p:=h
def gGS(h:p:=by rw[dR]at d;simp only[List.length_append,List.length_singleton]at d;omega):p:=h
def gGT(h:p:=by exact⟨f,Y,Y⟩):p:=h
def gGU(h:p:=by rw[xAH e]at q;cases q):p:=h
def gGV(h:p:=by cases h;exact⟨cD,cD⟩):p:=h
def gGX(h:p:=by rw[xAV p,e,xB5,x7 h];simp):p:=h
def gGY(h:p:=by simp only[execOp,f.ev b];rfl):p:=h
def gGZ(h:p:=by rw[xA2,h];simp):p:=h
def gH0(h:p:=by rw[List.mem_singleton]at t;subst t;exact B.from_):p:=h
def gH2(h:p:=by exact eT.2 ⟨b,a,r,s,hd.symm,Hl.join_comm hd⟩):p:=h
def gH3(h:p:=by exact absurd (xA7.1 h) c.1.2):p:=h
def gH4(h:p:=by exact .inr ⟨by simp[hd],by simp[hd],rfl,rfl⟩):p:=h
def gH5(h:p:=by cases e;exact(w q c gCK).1 (by simpa[wf]using a)):p:=h
def gH6(h:p:=by simp only[decide_eq_false h,if_neg h];exact w _):p:=h
def gH7(h:p:=by exact⟨_,Y,by rw[xAQ g],rfl,rfl⟩):p:=h
def gH8(h:p:=by exact⟨_,Y,by rw[xAQ a],rfl,rfl⟩):p:=h
def gHB(h:p:=by exact⟨_,_,K,_,.inl (run N),⟨Y,Y,Y⟩,Hl.le_refl _,this⟩):p:=h
def gHC(h:p:=by simp only[goOn,List.length_append,List.length_singleton];rfl):p:=h
def gHD(h:p:=by refine uAa ?_;refine Z2 ?_;simp only[MI,t];exact⟨z,Y,Y⟩):p:=h
def gHE(h:p:=by refine aT (cF (xAB _) ?_);exact .inr ⟨aH,l,Y,Y,Y⟩):p:=h
def gHF(h:p:=by exact .inl ⟨by simp[hd],[],by simp[hd],by rw[x6 aH]⟩):p:=h
def gHG(h:p:=by cases h;exact⟨xAG _,p⟩):p:=h
def gHH(h:p:=by have e:j=i:=aH;subst e;rw[hx]at hy;cases hy;intro hh;omega):p:=h
def gHI(h:p:=by exact⟨i,Y,Y⟩):p:=h
def gHJ(h:p:=by rename_i a;exact F0 K b _ _ f ⟨j,by rw[a];decide⟩ gAO):p:=h
def gHK(h:p:=by exact xAX c):p:=h
def gHL(h:p:=by exact xBJ.1 h):p:=h
def gHM(h:p:=by rw[show n+1 - e=(n+1 - (e+1))+1 from aH];simp only[kL,h]):p:=h
def gHN(h:p:=by rw[x6 h,List.find?_cons,xAQ h];exact w _):p:=h
def gHO(h:p:=by refine uAa ?_;refine Z2 ?_;simp only[MI,jh];exact gG2):p:=h
def gHP(h:p:=by rename_i a;exact CY _ _ f ⟨j,by rw[a];decide⟩ gAO):p:=h
def gHQ(h:p:=by refine uAa ?_;refine Z2 ?_;simp only[RT,i];exact gFF):p:=h
def gHR(h:p:=by grind [unl,cnt,unlL]):p:=h
def gHS(h:p:=by subst j;simp at h;subst h;rw[<-g];exact f.get _ _ e):p:=h
def gHT(h:p:=by refine Z5 ?_;exact gDF):p:=h
def gHU(h:p:=by refine uAd ?_;exact gEN):p:=h
def gHV(h:p:=by exact⟨_,Y,⟨_,_,Y,Y⟩,Y⟩):p:=h
def gHW(h:p:=by rw[run_store Tryz.prog W x _ _ (by rfl)];simp[I,c]):p:=h
def gHX(h:p:=by unfold setC;rw[x7 B,l];simp only[W];exact gGT):p:=h
def gHY(h:p:=by unfold Syn.list;rw[C];simp only[];rw[A];exact gHI):p:=h
def gHZ(h:p:=by exact⟨_,Y,Y,cD⟩):p:=h
end Go
section
namespace Go.SL
section
variable{H:Array Obj}{b:Nat}{o o':Obj}{w w0:World}
abbrev Hl:=Nat->Option Obj
def Hl.emp:Hl:=fun _=>none
def Hl.one(b:Nat)(o:Obj):Hl:=fun x=>if x=b then some o else none
def Hl.join(h k:Hl):Hl:=fun x=>(h x).or (k x)
def Hl.dj(h k:Hl):Prop:=∀x,h x=none\/k x=none
def Hl.le(h k:Hl):Prop:=∀x o,h x=some o->k x=some o
def Hl.le_refl(h:Hl):h.le h:=fun _ _ e=>e
def Hl.le_trans{a b c:Hl}(h:a.le b)(k:b.le c):a.le c:=fun x o e=>k x o (h x o e)
def Hl.dj.symm{a b:Hl}(h:a.dj b):b.dj a:=fun x=>(h x).symm
def Hl.dj_join{a b c:Hl}:a.dj (b.join c)↔a.dj b/\a.dj c:=by
 constructor
 ·intro h;refine⟨fun x=>?_,fun x=>?_⟩<;>rcases h x with h|h<;>first|exact .inl h|(simp[Hl.join]at h;simp[h])
 rintro⟨d,e⟩ x;rcases d x with h|h
 ·exact .inl h
 rcases e x with k|k
 ·exact .inl k
 exact .inr (by simp[Hl.join,h,k])
def Hl.join_dj{a b c:Hl}:(b.join c).dj a↔b.dj a/\c.dj a:=
 ⟨fun h=>let ⟨x,y⟩:=Hl.dj_join.1 h.symm;⟨x.symm,y.symm⟩,fun⟨x,y⟩=>(Hl.dj_join.2 ⟨x.symm,y.symm⟩).symm⟩
def Hl.dj_emp(a:Hl):a.dj .emp:=fun _=>.inr rfl
def Hl.le_join_left{a b c:Hl}:(a.join b).le c->a.le c:=fun h x o e=>h x o (by simp[Hl.join,e])
def Hl.le_join_right {a b c : Hl} (hd : a.dj b) : (a.join b).le c -> b.le c := fun h x o e => h x o (by
 rcases hd x with k|k
 ·simp[Hl.join,k,e]
 rw[k]at e;cases e)
def Hl.join_le{a b c:Hl}(h:a.le c)(k:b.le c):(a.join b).le c:=by
 intro x o e;unfold Hl.join at e;cases s:a x with
 |some y=>rw[s]at e;simp at e;subst e;exact h x _ s
 |none=>rw[s]at e;simp at e;exact k x o e
def Hl.join_assoc(a b c:Hl):(a.join b).join c=a.join (b.join c):=by
 funext x;simp[Hl.join,Option.or_assoc]
def Hl.join_emp(a:Hl):a.join .emp=a:=by funext x;simp[Hl.join,Hl.emp]
def Hl.emp_join(a:Hl):Hl.emp.join a=a:=by funext x;simp[Hl.join,Hl.emp]
def Hl.join_comm{a b:Hl}(h:a.dj b):a.join b=b.join a:=by
 funext x
 rcases h x with k|k
 ·simp[Hl.join,k]
 cases s:a x<;>simp[Hl.join,k,s]
abbrev Asn:=Hl->Prop
def pt(b:Nat)(o:Obj):Asn:=fun h=>h=Hl.one b o
def Sat:List Asn->Hl->Prop
 | [],h=>h=.emp
 |A::L,h=>∃a b,A a/\Sat L b/\a.dj b/\h=a.join b
def eT{L M:List Asn}{h:Hl}:Sat (L++M) h↔∃b c,Sat L b/\Sat M c/\b.dj c/\h=b.join c:=by
 induction L generalizing h with
 |nil=>
  constructor
  ·intro k;exact⟨.emp,h,Y,k,(Hl.dj_emp h).symm,(Hl.emp_join h).symm⟩
  rintro⟨b,c,rfl,k,_,rfl⟩;simpa[Hl.emp_join]using k
 |cons A L w=>
  constructor
  ·rintro⟨a,r,s,i,hd,rfl⟩;obtain⟨x,y,d,t,f,rfl⟩:=w.1 i;have:=Hl.dj_join.1 hd;exact⟨a.join x,y,⟨a,x,s,d,this.1,Y⟩,t,Hl.join_dj.2 ⟨this.2,f⟩,(Hl.join_assoc _ _ _).symm⟩
  rintro⟨_,y,⟨a,x,s,d,u,rfl⟩,t,hd,rfl⟩;have:=Hl.join_dj.1 hd;exact⟨a,x.join y,s,w.2 ⟨x,y,d,t,this.2,Y⟩,Hl.dj_join.2 ⟨u,this.1⟩,Hl.join_assoc _ _ _⟩
def hO{A B:Asn}{L:List Asn}{h:Hl}:Sat (A::B::L) h->Sat (B::A::L) h:=by
 rintro⟨a,_,s,⟨b,l,r,v,c,rfl⟩,hd,rfl⟩;have:=Hl.dj_join.1 hd;refine⟨b,a.join l,r,⟨a,l,s,v,this.2,Y⟩,Hl.dj_join.2 ⟨this.1.symm,c⟩,?_⟩
 rw[<-Hl.join_assoc,Hl.join_comm this.1,Hl.join_assoc]
def fB{A:Asn}{L M:List Asn}(k:∀h,Sat L h->Sat M h){h:Hl}:Sat (A::L) h->Sat (A::M) h:=
 fun⟨a,l,s,v,hd,e⟩=>⟨a,l,s,k _ v,hd,e⟩
inductive Fnd (A A':Asn):List Asn->List Asn->Prop where
 |here {L}:Fnd A A' (A::L) (A'::L)
 |there {B L L'}:Fnd A A' L L'->Fnd A A' (B::L) (B::L')
def Fnd.split{A a:Asn}{L L':List Asn}(f:Fnd A a L L'):∃M,(∀h,Sat L h->Sat (A::M) h)/\(∀h,Sat (a::M) h->Sat L' h):=by
 induction f with
 |here=>exact⟨_,fun _ h=>h,fun _ h=>h⟩
 | @there B L L' f w=>
  obtain⟨M,b,c⟩:=w;exact⟨B::M,fun h k=>hO (fB b k),fun h k=>fB c (hO k)⟩
inductive Hs (A:Asn):List Asn->Prop where
 |here {L}:Hs A (A::L)
 |there {B L}:Hs A L->Hs A (B::L)
def Hs.fnd{A:Asn}{L:List Asn}(f:Hs A L)(a:Asn):∃L',Fnd A a L L':=by
 induction f with
 |here=>exact⟨_,.here⟩
 |there _ w=>obtain⟨L',h⟩:=w;exact⟨_,.there h⟩
def Hs.split{A:Asn}{L:List Asn}(f:Hs A L):∃M,∀h,Sat L h->Sat (A::M) h:=
 let ⟨_,g⟩:=f.fnd A;let ⟨M,a,_⟩:=g.split;⟨M,a⟩
inductive Tk (A:Asn):List Asn->List Asn->Prop where
 |here {L}:Tk A (A::L) L
 |there {B L M}:Tk A L M->Tk A (B::L) (B::M)
def Tk.sat{A:Asn}{L M:List Asn}(f:Tk A L M):∀h,Sat L h->Sat (A::M) h:=by
 induction f with
 |here=>exact fun _ h=>h
 |there f w=>exact fun h k=>hO (fB w k)
inductive Tks:List Asn->List Asn->List Asn->Prop where
 |nil {L}:Tks [] L L
 |cons {A As L M N}:Tk A L M->Tks As M N->Tks (A::As) L N
def Tks.sat{As L N:List Asn}(f:Tks As L N):∀h,Sat L h->Sat (As++N) h:=by
 induction f with
 |nil=>exact fun _ h=>h
 |cons t _ w=>exact fun h k=>fB w (t.sat h k)
def hp(w:World):Hl:=fun b=>w.heap[b]?
structure In (w0:World) (F K:Hl) (L:List Asn) (w:World):Prop where
 os:w.os=w0.os
 tape:w.tape=w0.tape
 output:w.output=w0.output
 size:w0.heap.size<=w.heap.size
 rep:∃h,Sat L h/\F.dj K/\F.dj h/\K.dj h/\F.le (hp w)/\K.le (hp w)/\h.le (hp w)
def In.imp{F K:Hl}{L M:List Asn}(k:∀h,Sat L h->Sat M h)(i:In w0 F K L w):In w0 F K M w:=
 let ⟨h,c,r⟩:=i.rep
 ⟨i.os,i.tape,i.output,i.size,h,k h c,r⟩
def In.drop{F K:Hl}{A:Asn}{L:List Asn}(i:In w0 F K (A::L) w):In w0 F K L w:=by
 obtain⟨h,⟨a,l,s,v,O,rfl⟩,b,c,S,G,H,x⟩:=i.rep;exact⟨i.os,i.tape,i.output,i.size,l,v,b,(Hl.dj_join.1 c).2,(Hl.dj_join.1 S).2,G,H,Hl.le_join_right O x⟩
def In.known{F K:Hl}{L:List Asn}(i:In w0 F K L w)(h:K b=some o):w.heap[b]?=some o:=by
 obtain⟨_,_,_,_,_,_,H,_⟩:=i.rep;exact H b o h
def In.piece{F K:Hl}{L:List Asn}(i:In w0 F K (pt b o::L) w):w.heap[b]?=some o:=by
 obtain⟨h,⟨a,l,s,v,O,rfl⟩,c,d,S,G,H,x⟩:=i.rep;exact x b o (by simp only[pt]at s;subst s;simp[Hl.join,Hl.one])
def In.mem{F K:Hl}{a:Asn}{L L':List Asn}(f:Fnd (pt b o) a L L')(i:In w0 F K L w):w.heap[b]?=some o:=
 let ⟨_,h,_⟩:=f.split;(i.imp h).piece
def In.settle{F K:Hl}{L:List Asn}(i:In w0 F K (pt b o::L) w):
  K.le (K.join (Hl.one b o))/\(K.join (Hl.one b o)) b=some o/\In w0 F (K.join (Hl.one b o)) L w:=by
 obtain⟨h,⟨a,l,s,v,O,rfl⟩,j,p,S,G,H,g⟩:=i.rep;simp only[pt]at s;subst s
 have f:=Hl.dj_join.1 p;have c:=Hl.dj_join.1 S;have d:K b=none:=by rcases c.1 b with h|h;exact h;simp[Hl.one]at h
 refine⟨fun x o e=>by simp[Hl.join,e],by simp[Hl.join,d,Hl.one],⟨i.os,i.tape,i.output,i.size,l,v,Hl.dj_join.2 ⟨j,f.1⟩,f.2,Hl.join_dj.2 ⟨c.2,O⟩,G,?_,Hl.le_join_right O g⟩⟩
 exact Hl.join_le H (Hl.le_join_left g)
def In.drew{F K:Hl}{L:List Asn}(i:In w0 F K L w)(n:Nat):In w0 F K L {w with drawn:=n}:=
 ⟨i.os,i.tape,i.output,i.size,i.rep⟩
def In.alloc{F K:Hl}{L:List Asn}(i:In w0 F K L w)(o:Obj):
  In w0 F K (pt w.heap.size o::L) {w with heap:=w.heap.push o}:=by
 obtain⟨h,v,f,g,S,G,H,b⟩:=i.rep;have c:∀ {k:Hl},k.le (hp w)->k w.heap.size=none:=by
  intro k j;cases e:k w.heap.size with
  |none=>rfl
  |some o'=>have:=j _ _ e;simp[hp]at this
 have up:∀ {k:Hl},k.le (hp w)->k.le (hp {w with heap:=w.heap.push o}):=by
  intro k j x o' e;have:=j x o' e;simp only[hp]at this ⊢;have a:x<w.heap.size:=by
   rcases xAD x w.heap.size with h|h
   ·exact h
   simp[Array.getElem?_eq_none h]at this
  rw[Array.getElem?_push,x6 aH];exact this
 have d:∀ {k:Hl},k.le (hp w)->k.dj (Hl.one w.heap.size o):=by
  intro k j x
  by_cases a:x=w.heap.size
  ·subst a;exact .inl (c j)
  exact .inr (by simp[Hl.one,a])
 refine⟨i.os,i.tape,i.output,by simpa using Nat.le_succ_of_le i.size,(Hl.one w.heap.size o).join h,⟨_,h,rfl,v,(d b).symm,rfl⟩,f,Hl.dj_join.2 ⟨d G,g⟩,Hl.dj_join.2 ⟨d H,S⟩,up G,up H,Hl.join_le ?_ (up b)⟩
 intro x o' e
 by_cases a:x=w.heap.size
 ·subst a;simp[Hl.one]at e;subst e;simp[hp]
 simp[Hl.one,a]at e
def In.write{F K:Hl}{L:List Asn}(i:In w0 F K (pt b o::L) w)
  (B:H.size=w.heap.size) (v:H[b]?=some o') (A:∀x,x≠b->H[x]?=w.heap[x]?):
  In w0 F K (pt b o'::L) {w with heap:=H}:=by
 obtain⟨h,⟨a,l,s,y,O,rfl⟩,t,u,S,G,C,E⟩:=i.rep;simp only[pt]at s;subst s
 have f:=Hl.dj_join.1 u;have c:=Hl.dj_join.1 S;have p:∀ {k:Hl},k.dj (Hl.one b o)->k b=none:=by
  intro k j;rcases j b with h|h;exact h;simp[Hl.one]at h
 have up:∀ {k:Hl},k.le (hp w)->k b=none->k.le (hp {w with heap:=H}):=by
  intro k j z x q e;have g:x≠b:=by rintro rfl;rw[z]at e;cases e
  simp only[hp,A x g];exact j x q e
 have d:∀ {k:Hl},k b=none->k.dj (Hl.one b o'):=by
  intro k j x
  by_cases g:x=b
  ·subst g;exact .inl j
  exact .inr (by simp[Hl.one,g])
 have r:l b=none:=p O.symm;refine⟨i.os,i.tape,i.output,by simpa[B]using i.size,(Hl.one b o').join l,⟨_,l,rfl,y,(d r).symm,rfl⟩,t,Hl.dj_join.2 ⟨d (p f.1),f.2⟩,Hl.dj_join.2 ⟨d (p c.1),c.2⟩,up G (p f.1),up C (p c.1),Hl.join_le ?_ (up (Hl.le_join_right O E) r)⟩
 intro x q e
 by_cases g:x=b
 ·subst g;simp[Hl.one]at e;subst e;simpa[hp]using v
 simp[Hl.one,g]at e
def In.writeAt{F K:Hl}{L L':List Asn}(f:Fnd (pt b o) (pt b o') L L')(i:In w0 F K L w)
  (c:H.size=w.heap.size) (r:H[b]?=some o') (q:∀x,x≠b->H[x]?=w.heap[x]?):
  In w0 F K L' {w with heap:=H}:=
 let ⟨_,h,a⟩:=f.split;((i.imp h).write c r q).imp a
def In.hide{F K:Hl}{L N:List Asn}(i:In w0 F K (L++N) w):
  ∃e,In w e K L w/\∀ {d:Hl} {L':List Asn} {w':World},In w e d L' w'->In w0 F d (L'++N) w':=by
 obtain⟨h,v,q,s,S,G,H,x⟩:=i.rep;obtain⟨a,n,t,u,b,rfl⟩:=eT.1 v;have f:=Hl.dj_join.1 s;have c:=Hl.dj_join.1 S;refine⟨F.join n,⟨Y,Y,Y,xAG _,a,t,Hl.join_dj.2 ⟨q,c.2.symm⟩,Hl.join_dj.2 ⟨f.1,b.symm⟩,c.1,Hl.join_le G (Hl.le_join_right b x),H,Hl.le_join_left x⟩,?_⟩
 intro d L' w' j;obtain⟨l,g,M,O,C,m1,Q,y⟩:=j.rep;have p:=Hl.join_dj.1 M;have r:=Hl.join_dj.1 O;refine⟨j.os.trans i.os,j.tape.trans i.tape,j.output.trans i.output,xAR i.size j.size,l.join n,eT.2 ⟨l,n,g,u,r.2.symm,Y⟩,p.1,Hl.dj_join.2 ⟨r.1,f.2⟩,Hl.dj_join.2 ⟨C,p.2.symm⟩,Hl.le_join_left m1,Q,Hl.join_le y (Hl.le_join_right f.2 m1)⟩
end
section
variable{a:Act}{aft:Array Edge}{ats:Array TypeId}{caps:Array Value}{b:Bool}{f:FuncId}{As L' L1 L2 M:List Asn}{ds:List Deferred}{l:List Oper}{xs:List Operand}{ch:List PanicEntry}{args vs:List Value}{d dg g id t:Nat}{op:Op}{fv o:Operand}{dst:Option Tmp}{p:Prop}{pos:String}{ι:Type}{ty:TypeId}{v:Value}{N:Value->Hl->List Asn->Prop}{K':ι->Hl}{Ls:ι->List Asn}{I:ι->Prop}
abbrev Fr:=List (Nat×Value)
def Fr.get:Fr->Nat->Option Value
 | [],_=>none
 |(k,v)::r,j=>bif Nat.beq k j then some v else Fr.get r j
def Fr.ev(fr:Fr):Operand->Option Value
 | .tmp t=>fr.get t
 | .const v=>some v
 | .global g=>some (.pointer (some ⟨g,0,none⟩))
 | .func f=>some (.func (.func f) #[] #[])
def Fr.evs(fr:Fr):List Operand->Option (List Value)
 | []=>some []
 |x::xs=>match fr.ev x,fr.evs xs with|some v,some vs=>some (v::vs)|_,_=>none
structure FrOk (n:Nat) (ds:List Deferred) (fr:Fr) (a:Act):Prop where
 defers:a.defers=ds
 size:a.tmps.size=n
 get:∀k v,fr.get k=some v->a.tmps[k]?=some v
def FrOk.ev{n:Nat}{fr:Fr}(h:FrOk n ds fr a){x:Operand}(e:fr.ev x=some v):a.eval x=v:=by
 cases x<;>simp only[Fr.ev]at e
 case tmp t=>simp[Act.eval,h.get _ _ e]
 all_goals (cases e;rfl)
def FrOk.evs{n:Nat}{fr:Fr}(h:FrOk n ds fr a):∀ {xs:List Operand} {vs:List Value},fr.evs xs=some vs->xs.map a.eval=vs
 | [],vs,e=>by simp only[Fr.evs]at e;cases e;rfl
 |x::xs,vs,e=>by
  simp only[Fr.evs]at e;cases b:fr.ev x<;>cases c:fr.evs xs<;>simp[b,c]at e
  subst e;simp[h.ev b,h.evs c]
def JN{a b:Nat}(h:¬a=b):Nat.beq a b=false:=by
 cases e:Nat.beq a b with
 |false=>rfl
 |true=>exact absurd (Nat.eq_of_beq_eq_true e) h
def YD{a b:Nat}(h:Nat.beq a b=false):¬a=b:=fun e=>by subst e;rw[Nat.beq_refl]at h;cases h
def FrOk.put{n:Nat}{fr:Fr}(h:FrOk n ds fr a)(hd:Nat.blt d n=true)(v:Value):FrOk n ds ((d,v)::fr) (a.put (some d) v):=by
 have b:d<n:=by simp[Nat.blt]at hd;omega
 refine⟨h.defers,by simp[Act.put,h.size],fun k u e=>?_⟩
 simp only[Fr.get]at e;simp only[Act.put,Array.getElem?_setIfInBounds,h.size]
 by_cases j:d=k
 ·subst j;simp at e;subst e;simp[b]
 rw[x6 j];have:Nat.beq d k=false:=JN j;rw[this]at e;exact h.get _ _ e
inductive Kp (fr:Fr):Fr->Prop where
 |nil:Kp fr []
 |cons (k:Nat) {v:Value} {fr':Fr}:fr.get k=some v->Kp fr fr'->Kp fr ((k,v)::fr')
def Kp.get{fr fr':Fr}(h:Kp fr fr'):∀k v,fr'.get k=some v->fr.get k=some v:=by
 induction h with
 |nil=>intro k v e;cases e
 | @cons k v fr' e _ w=>
  intro j u E;simp only[Fr.get]at E
  by_cases a:k=j
  ·subst a;simp at E;subst E;exact e
  have:Nat.beq k j=false:=JN a;rw[this]at E;exact w _ _ E
def FrOk.keep{n:Nat}{fr fr':Fr}(h:FrOk n ds fr a)(k:Kp fr fr'):FrOk n ds fr' a:=
 ⟨h.defers,h.size,fun j v e=>h.get j v (k.get j v e)⟩
structure Env where
 P:Program
 n:Nat
 ds:List Deferred
 w0:World
 F:Hl
abbrev Post:=Exit->Act->World->Prop
def T(E:Env)(c:Code)(fr:Fr)(K:Hl)(L:List Asn)(Q:Post):Prop:=
 ∀a w,FrOk E.n E.ds fr a->In E.w0 E.F K L w->c.wp E.P Q a w
def OL(E:Env)(ops:Array Oper)(l:List Oper)(fr:Fr)(K:Hl)(L:List Asn)(Q:Post):Prop:=
 ∀a w,FrOk E.n E.ds fr a->In E.w0 E.F K L w->wpList E.P ops Q l a w
def D(E:Env)(x:Exit)(fr:Fr)(K:Hl)(L:List Asn)(Q:Post):Prop:=
 ∀a w,FrOk E.n E.ds fr a->In E.w0 E.F K L w->Q x a w
def Ev(E:Env)(fr:Fr)(K:Hl)(L:List Asn)(o:Oper)(v:Value):Prop:=
 ∀a w,FrOk E.n E.ds fr a->In E.w0 E.F K L w->(execOp a.eval o).run E.P w=.ok (.value v) w
def Ef(E:Env)(fr:Fr)(K:Hl)(L:List Asn)(o:Oper)(Q:Post)(N:Value->Hl->List Asn->Prop):Prop:=
 ∀a w (k:Act->World->Prop),FrOk E.n E.ds fr a->In E.w0 E.F K L w->
  (∀v K' L' x,N v K' L'->K.le K'->In E.w0 E.F K' L' x->k (a.put o.dst v) x)->o.wp E.P a w k Q\/(o.asks E.P a w/\LetsOut Q)
def EfS(E:Env)(fr:Fr)(K:Hl)(L:List Asn)(o:Oper)(N:Value->Hl->List Asn->Prop):Prop:=
 ∀a w,FrOk E.n E.ds fr a->In E.w0 E.F K L w->∃u x K' L',((execOp a.eval o).run E.P w=.ok (.value u) x\/((execOp a.eval o).run E.P w=.ok .skip x/\u=undef))/\N u K' L'/\K.le K'/\In E.w0 E.F K' L' x
def Mq{E:Env}{fr:Fr}{K:Hl}{L:List Asn}{o:Oper}{Q:Post}(h:EfS E fr K L o N):Ef E fr K L o Q N:=by
 intro a w k f i c;obtain⟨u,x,K',L',b,d,le,j⟩:=h a w f i;refine .inl ?_;unfold Oper.wp;rcases b with b|⟨b,rfl⟩<;>rw[b]
 ·exact c _ _ _ _ d le j
 exact c _ _ _ _ d le j
def Sp(P:Program)(f:FuncId)(args:List Value)(K:Hl)(L:List Asn)(R:Ending->Hl->List Asn->Prop):Prop:=
 (∃fn,P.funcs[f]?=some fn/\(fn.name== "runtime.NumGoroutine")=false/\fn.body.isSome=true)/\
 ∀F w,In w F K L w->Calls P f args.toArray w fun e x=>∃K' L',R e K' L'/\K.le K'/\In w F K' L' x
def Ret(N:Value->Hl->List Asn->Prop):Ending->Hl->List Asn->Prop:=fun e K L=>∃v,e=.returned v/\N v K L
def Sp.mono{P:Program}{K:Hl}{L:List Asn}{R a:Ending->Hl->List Asn->Prop}(h:Sp P f args K L R)
  (k:∀e K' L',R e K' L'->a e K' L'):Sp P f args K L a:=
 ⟨h.1,fun F w i=>(h.2 F w i).mono fun _ _ ⟨K',L',r,le,j⟩=>⟨K',L',k _ _ _ r,le,j⟩⟩
section
variable{E:Env}{fr:Fr}{K:Hl}{L:List Asn}{Q:Post}{c x y:Code}{ops:Array Oper}{rest:List Oper}
def kQ(k:∀h,Sat L h->Sat L' h)(h:T E c fr K L' Q):T E c fr K L Q:=fun a w f i=>h a w f (i.imp k)
def aI(h:T E x fr K L (Exit.then (fun a w=>y.wp E.P Q a w) Q)):T E (.seq x y) fr K L Q:=fun a w f i=>wp_seq (h a w f i)
def aU(h:D E .normal fr K L Q):T E .skip fr K L Q:=fun a w f i=>wp_skip (h a w f i)
def VS{l:Nat}(h:D E .normal fr K L Q):T E (.label l) fr K L Q:=fun a w f i=>wp_label (h a w f i)
def cO(h:D E (.exit id) fr K L Q):T E (.exit id) fr K L Q:=fun a w f i=>wp_exit (h a w f i)
def bI(h:D E .ret fr K L Q):T E .ret fr K L Q:=fun a w f i=>wp_ret (h a w f i)
def bC(h:T E c fr K L (Exit.inBlock id Q)):T E (.block id c) fr K L Q:=fun a w f i=>wp_block (h a w f i)
def FrOk.known{n:Nat}(f:FrOk n ds fr a){c:Bool}(e:fr.get d=some (.bool b))(g:b=c):FrOk n ds ((d,.bool c)::fr) a:=
 ⟨f.defers, f.size, fun k v h => by
  simp only[Fr.get]at h
  by_cases j:d=k
  ·exact gHS
  rw[JN j]at h;exact f.get _ _ h⟩
def dZ(d:Nat)(e:fr.get d=some (.bool b))(I:b=true->T E x ((d,.bool true)::fr) K L Q)(c:b=false->T E y ((d,.bool false)::fr) K L Q):T E (.cond (.tmp d) x y) fr K L Q:=by
 intro a w f i;have ev:fr.ev (.tmp d)=some (.bool b):=e;cases b
 ·exact wp_cond_false (f.ev ev) (c Y a w (f.known e Y) i)
 exact wp_cond_true (f.ev ev) (I Y a w (f.known e Y) i)
def aX(d:Nat)[Decidable p](e:fr.get d=some (.bool (decide p)))(I:p->T E x ((d,.bool true)::fr) K L Q)(a:¬p->T E y ((d,.bool false)::fr) K L Q):T E (.cond (.tmp d) x y) fr K L Q:=
 dZ d e (fun h=>I (xAX h)) (fun h=>a (xBA h))
def fD(e:fr.ev o=some (.bool true))(h:T E x fr K L Q):T E (.cond o x y) fr K L Q:=fun a w f i=>wp_cond_true (f.ev e) (h a w f i)
def dO(e:fr.ev o=some (.bool false))(h:T E y fr K L Q):T E (.cond o x y) fr K L Q:=fun a w f i=>wp_cond_false (f.ev e) (h a w f i)
def aF(h:T E y fr K L Q):D E .normal fr K L (Exit.then (fun a w=>y.wp E.P Q a w) Q):=h
def aO{next:Act->World->Prop}(h:D E (.exit id) fr K L Q):D E (.exit id) fr K L (Exit.then next Q):=h
def aS{next:Act->World->Prop}(h:D E .ret fr K L Q):D E .ret fr K L (Exit.then next Q):=h
def aT{next:Act->World->Prop}(h:D E (.panic ch) fr K L Q):D E (.panic ch) fr K L (Exit.then next Q):=h
def aM(h:D E .normal fr K L Q):D E .normal fr K L (Exit.inBlock id Q):=h
def aY(h:D E .ret fr K L Q):D E .ret fr K L (Exit.inBlock id Q):=h
def bO(h:D E (.panic ch) fr K L Q):D E (.panic ch) fr K L (Exit.inBlock id Q):=h
def bE(h:D E .normal fr K L Q):D E (.exit id) fr K L (Exit.inBlock id Q):=fun a w f i=>by
 show (if id=id then Q .normal a w else _);rw[x7 rfl];exact h a w f i
def gB{b:Nat}(F:Nat.beq b id=false)(h:D E (.exit b) fr K L Q):D E (.exit b) fr K L (Exit.inBlock id Q):=fun a w f i=>by
 show (if b=id then _ else Q (.exit b) a w);rw[x6 (YD F)];exact h a w f i
def Mid(E:Env){ι:Type}(I:ι->Prop)(fr:ι->Fr)(K:ι->Hl)(L:ι->List Asn):Act->World->Prop:=fun a w=>∃i,I i/\FrOk E.n E.ds (fr i) a/\In E.w0 E.F (K i) (L i) w
def dU(I:ι->Prop)(fr':ι->Fr)(K':ι->Hl)(L':ι->List Asn)(h:T E x fr K L (Exit.then (Mid E I fr' K' L') Q))(c:∀i,I i->T E y (fr' i) (K' i) (L' i) Q):
  T E (.seq x y) fr K L Q:=by
 intro a w f i;refine wp_seq (Code.wp_mono (fun e a w q=>?_) (h a w f i))
 cases e<;>first|exact q|(obtain⟨j,d,b,g⟩:=q;exact c j d _ _ b g)
def cB{fr':ι->Fr}{L':ι->List Asn}(i:ι)(p:I i)(k:Kp fr (fr' i))(t:K' i=K)(v:∀h,Sat L h->Sat (L' i) h):
  D E .normal fr K L (Exit.then (Mid E I fr' K' L') Q):=fun a w f j=>⟨i,p,f.keep k,by rw[t];exact j.imp v⟩
def eD(I:ι->Prop)(fr':ι->Fr)(K':ι->Hl)(L':ι->List Asn)(μ:ι->Nat)(s:ι)(P:I s)(k:Kp fr (fr' s))(H:K' s=K)(M:∀h,Sat L h->Sat (L' s) h)
  (r:∀i,I i->T E c (fr' i) (K' i) (L' i) (Exit.then (fun a w=>∃j,I j/\μ j<μ i/\FrOk E.n E.ds (fr' j) a/\In E.w0 E.F (K' j) (L' j) w) Q)):T E (.loop c) fr K L Q:=by
 intro a w f i b kk cs;have A:∀n j,μ j=n->I j->∀a w,FrOk E.n E.ds (fr' j) a->In E.w0 E.F (K' j) (L' j) w->
   ∃e O u,Q e O u/\Arrives E.P (lone (b.at a (.code c::.inLoop c::kk)) cs w) b kk cs e O u:=by
  intro n;induction n using Nat.strongRecOn with
  |_ n W=>
   intro j N y a w f i;obtain⟨e,q,t,g,d⟩:=r j y a w f i b (.inLoop c::kk) cs;cases e with
   |normal=>
    obtain⟨j',v,G,F,S⟩:=g;obtain⟨C,B,w₂,z,p⟩:=W _ (N▸G) j' rfl v _ _ F S;exact⟨C,B,w₂,z,.of_steps (Steps.trans d (.one step_inLoop)) p⟩
   |exit id=>exact⟨_,q,t,g,.pass (x:=.inLoop c) Y (fun _ _=>.inl cD) d⟩
   |goto l=>exact⟨_,q,t,g,.pass (x:=.inLoop c) Y (fun _ _=>.inl cD) d⟩
   |ret=>exact⟨_,q,t,g,.pass (x:=.inLoop c) Y (fun _ _=>.inl cD) d⟩
   |panic ch=>exact⟨_,q,t,g,.pass (x:=.inLoop c) Y (fun _ _=>.inl cD) d⟩
   |outgrown=>exact⟨_,q,t,g,.pass (x:=.inLoop c) Y (fun _ _=>.inl cD) d⟩
 obtain⟨e,O,u,g,d⟩:=A _ s rfl P a w (f.keep k) (by rw[H];exact i.imp M);exact⟨e,O,u,g,.of_steps (.one step_loop) d⟩
def cX{fr':ι->Fr}{L':ι->List Asn}{μ:ι->Nat}{m:Nat}(j:ι)(b:I j)(G:μ j<m)(k:Kp fr (fr' j))(t:K' j=K)(v:∀h,Sat L h->Sat (L' j) h):
  D E .normal fr K L (Exit.then (fun a w=>∃j,I j/\μ j<m/\FrOk E.n E.ds (fr' j) a/\In E.w0 E.F (K' j) (L' j) w) Q):=
 fun a w f i=>⟨j,b,G,f.keep k,by rw[t];exact i.imp v⟩
def aC(h:OL E l.toArray l fr K L Q):T E (.region id l.toArray false) fr K L Q:=fun a w f i=>wp_region_lit (h a w f i)
def aG(h:D E .normal fr K L Q):OL E ops [] fr K L Q:=fun a w f i=>wpList_nil (h a w f i)
def kG(k:∀h,Sat L h->Sat L' h)(h:OL E ops l fr K L' Q):OL E ops l fr K L Q:=fun a w f i=>h a w f (i.imp k)
def aA(hv:Ev E fr K L ⟨some d,op,ty,pos,aft,none⟩ v)(hd:Nat.blt d E.n=true)
  (h:OL E ops rest ((d,v)::fr) K L Q):OL E ops (⟨some d,op,ty,pos,aft,none⟩::rest) fr K L Q:=by
 intro a w f i;refine wpList_plain Y fun k j=>?_;unfold Oper.wp;rw[hv a w f i];exact j _ _ (h _ _ (f.put hd v) i)
def F5(hv:Ef E fr K L ⟨some d,op,ty,pos,aft,none⟩ Q N)(hd:Nat.blt d E.n=true)
  (h:∀v K' L',N v K' L'->K.le K'->OL E ops rest ((d,v)::fr) K' L' Q):OL E ops (⟨some d,op,ty,pos,aft,none⟩::rest) fr K L Q:=by
 intro a w f i;unfold wpList;rw[x7 (show Region.wanted _ _=true from rfl)];exact hv a w _ f i fun v K' L' x n le j=>h v K' L' n le _ _ (f.put hd v) j
def XF(hv:Ef E fr K L ⟨none,op,ty,pos,aft,none⟩ Q N)
  (h:∀v K' L',N v K' L'->K.le K'->OL E ops rest fr K' L' Q):OL E ops (⟨none,op,ty,pos,aft,none⟩::rest) fr K L Q:=by
 intro a w f i;unfold wpList;rw[x7 (show Region.wanted _ _=true from rfl)];exact hv a w _ f i fun v K' L' x n le j=>h v K' L' n le _ _ f j
def cG(hv:EfS E fr K L ⟨some d,op,ty,pos,aft,none⟩ N)(hd:Nat.blt d E.n=true)
  (h:∀v K' L',N v K' L'->K.le K'->OL E ops rest ((d,v)::fr) K' L' Q):OL E ops (⟨some d,op,ty,pos,aft,none⟩::rest) fr K L Q:=F5 (Mq hv) hd h
def cA(hv:EfS E fr K L ⟨none,op,ty,pos,aft,none⟩ N)
  (h:∀v K' L',N v K' L'->K.le K'->OL E ops rest fr K' L' Q):OL E ops (⟨none,op,ty,pos,aft,none⟩::rest) fr K L Q:=XF (Mq hv) h
def yQ(k:Tks As L M)(h:T E c fr K (As++M) Q):T E c fr K L Q:=kQ k.sat h
def Si(k:Tks As L M)(h:OL E ops l fr K (As++M) Q):OL E ops l fr K L Q:=kG k.sat h
def oG(k:∀h,Sat L h->p)(h:p->OL E ops l fr K L Q):OL E ops l fr K L Q:=fun a w f i=>h (let ⟨x,b,_⟩:=i.rep;k x b) a w f i
def nX(k:∀h,Sat L h->p)(h:p->T E c fr K L Q):T E c fr K L Q:=fun a w f i=>h (let ⟨x,b,_⟩:=i.rep;k x b) a w f i
def wR{b:Nat}{o:Obj}(h:∀K',K.le K'->K' b=some o->T E c fr K' L Q):T E c fr K (pt b o::L) Q:=fun a w f i=>let ⟨d,e,l⟩:=i.settle;h _ d e a w f l
def kE{b:Nat}{o:Obj}(h:∀K',K.le K'->K' b=some o->OL E ops l fr K' L Q):OL E ops l fr K (pt b o::L) Q:=fun a w f i=>let ⟨c,d,e⟩:=i.settle;h _ c d a w f e
def exA{ι:Type}(Ls:ι->List Asn):Asn:=fun h=>∃i,Sat (Ls i) h
def nO{h:Hl}:Sat (exA Ls::M) h↔∃i,Sat (Ls i++M) h:=by
 constructor
 ·rintro⟨a,m,⟨i,p⟩,B,hd,rfl⟩;exact⟨i,eT.2 ⟨a,m,p,B,hd,Y⟩⟩
 rintro⟨i,p⟩;obtain⟨a,m,s,B,hd,rfl⟩:=eT.1 p;exact⟨a,m,⟨i,s⟩,B,hd,Y⟩
def In.ex{w0 w:World}{F:Hl}(j:In w0 F K (exA Ls::M) w):∃i,In w0 F K (Ls i++M) w:=
 let ⟨h,c,r⟩:=j.rep;let ⟨i,p⟩:=nO.1 c;⟨i,j.os,j.tape,j.output,j.size,h,p,r⟩
def tR(h:∀i,T E c fr K (Ls i++L) Q):T E c fr K (exA Ls::L) Q:=fun a w f j=>let ⟨i,b⟩:=j.ex;h i a w f b
def aAB(h:∀i,OL E ops l fr K (Ls i++L) Q):OL E ops l fr K (exA Ls::L) Q:=fun a w f j=>let ⟨i,b⟩:=j.ex;h i a w f b
def wO{P:Program}{L:List Asn}{R:Ending->Hl->List Asn->Prop}(M:List Asn)(h:Sp P f args K L R):Sp P f args K (L++M) (fun e K' L'=>∃N,R e K' N/\L'=N++M):=
 ⟨h.1, fun F w j => by
  obtain⟨a,b,d⟩:=j.hide;exact(h.2 a w b).mono fun _ _ ⟨K',L',r,le,y⟩=>⟨K',L'++M,⟨L',r,Y⟩,le,d y⟩⟩
def B1{P:Program}{L:List Asn}{R:Ending->Hl->List Asn->Prop}(k:∀h,Sat L h->Sat M h)(h:Sp P f args K M R):Sp P f args K L R:=
 ⟨h.1,fun F w j=>h.2 F w (j.imp k)⟩
def kH(d:Nat)(e:fr.get d=some (.bool b))(I:b=true->OL E ops l ((d,.bool true)::fr) K L Q)(q:b=false->OL E ops l ((d,.bool false)::fr) K L Q):OL E ops l fr K L Q:=by
 intro a w f i;have g : ∀ c, b = c -> FrOk E.n E.ds ((d, .bool c) :: fr) a := fun c p => ⟨f.defers, f.size, fun k v h => by
  simp only[Fr.get]at h
  by_cases j:d=k
  ·subst j;simp at h;subst h;rw[<-p];exact f.get _ _ e
  rw[JN j]at h;exact f.get _ _ h⟩
 cases b
 ·exact q Y a w (g _ Y) i
 exact I Y a w (g _ Y) i
def bV(d:Nat)[Decidable p](e:fr.get d=some (.bool (decide p)))(I:p->OL E ops l ((d,.bool true)::fr) K L Q)(a:¬p->OL E ops l ((d,.bool false)::fr) K L Q):OL E ops l fr K L Q:=
 kH d e (fun h=>I (xAX h)) (fun h=>a (xBA h))
def aR(H:(ops[g]?).bind (·.dst)=some dg)(r:fr.get dg=some (.bool b))
  (h:OL E ops (⟨dst,op,ty,pos,aft,none⟩::rest) fr K L Q):OL E ops (⟨dst,op,ty,pos,aft,some (g,b)⟩::rest) fr K L Q:=by
 intro a w f i;have:=h a w f i;have e:Region.wanted ⟨dst,op,ty,pos,aft,some (g,b)⟩ (yielded ops a.tmps)=true:=by
  simp[Region.wanted,yielded,H,f.get _ _ r]
 unfold wpList at this ⊢;rw[x7 e];rw[x7 (by rfl)]at this;exact this
def aN(H:(ops[g]?).bind (·.dst)=some dg)(r:fr.get dg=some (.bool (!b)))(hd:Nat.blt d E.n=true)
  (h:OL E ops rest ((d,undef)::fr) K L Q):OL E ops (⟨some d,op,ty,pos,aft,some (g,b)⟩::rest) fr K L Q:=by
 intro a w f i;have e:Region.wanted ⟨some d,op,ty,pos,aft,some (g,b)⟩ (yielded ops a.tmps)=false:=by
  simp[Region.wanted,yielded,H,f.get _ _ r]
 exact wpList_skip e (h _ _ (f.put hd undef) i)
def fQ(H:(ops[g]?).bind (·.dst)=some dg)(r:fr.get dg=some undef)(hd:Nat.blt d E.n=true)
  (h:OL E ops rest ((d,undef)::fr) K L Q):OL E ops (⟨some d,op,ty,pos,aft,some (g,b)⟩::rest) fr K L Q:=by
 intro a w f i;have e:Region.wanted ⟨some d,op,ty,pos,aft,some (g,b)⟩ (yielded ops a.tmps)=false:=by
  simp[Region.wanted,yielded,H,f.get _ _ r,undef]
 exact wpList_skip e (h _ _ (f.put hd undef) i)
def IC{x:Operand}{t:TypeId}(b:fr.ev x=some (.iface t v))(h:D E (.panic [{v:=.iface t v,recovered:=false}]) fr K L Q):
  OL E ops (⟨dst,.panic x,ty,pos,aft,none⟩::rest) fr K L Q:=by
 intro a w f i;refine wpList_plain Y fun k j=>?_;unfold Oper.wp;have:(execOp a.eval ⟨dst,.panic x,ty,pos,aft,none⟩).run E.P w=.halt (.panic (.iface t v)) w:=by
  exact gGY
 rw[this];exact h a w f i
def Bc{P:Program}{vs:Array Value}{fn:Func}(b:P.funcs[f]?=some fn)(u:(fn.name== "runtime.NumGoroutine")=false)(r:fn.body.isSome=true)(w:World):
  (callFunc f vs).run P w=.ok (.enter f vs) w:=by
 have a:fn.body.isNone=false:=by cases h:fn.body<;>simp_all
 show Sem.run P (match P.funcs[f]? with|none=>_|some fn=>_) w=_
 rw[b];simp only[u,a,Bool.false_eq_true,if_false]
 rfl
def tE{g:Option (Nat×Bool)}{R:Ending->Hl->List Asn->Prop}
  (d:fr.ev fv=some (.func (.func f) #[] caps)) (e:fr.evs xs=some vs) (c:Sp E.P f (vs++caps.toList) K L1 R) (s:FrOk E.n E.ds fr a) (w:World):
  (execOp a.eval ⟨dst,.call ⟨.value fv,xs.toArray,ats⟩,ty,pos,aft,g⟩).run E.P w=.ok (.enter f (vs++caps.toList).toArray) w:=by
 obtain⟨⟨fn,h,b,l⟩,c⟩:=c;have M:Array.map a.eval xs.toArray=vs.toArray:=by simp[s.evs e]
 have O:([]++vs).toArray++caps=(vs++caps.toList).toArray:=cD;simp only[execOp,resolve,M,s.ev d,Deferred.ofValue,bind,pure,Sem.bind,invoke,List.append_toArray];rw[O];exact Bc h b l w
def G0{g:Option (Nat×Bool)}
  {R:Ending->Hl->List Asn->Prop}
  (q:fr.ev fv=some (.func (.func f) #[] caps)) (u:fr.evs xs=some vs) (p:Tks L1 L L2)
  (l:Sp E.P f (vs++caps.toList) K L1 R)
  (h:∀v K' L',R (.returned v) K' L'->N v K' (L'++L2))
  (c:∀ch K' L',R (.panicked ch) K' L'->K.le K'->D E (.panic ch) fr K' (L'++L2) Q)
  (b:∀K' L',R .outgrown K' L'->LetsOut Q):
  Ef E fr K L ⟨dst,.call ⟨.value fv,xs.toArray,ats⟩,ty,pos,aft,g⟩ Q N:=by
 intro a w k s i t;obtain⟨F,x,d⟩:=(i.imp p.sat).hide;refine .inl ?_;unfold Oper.wp;rw[tE q u l s w];refine(l.2 F w x).mono fun e y ⟨K',L',r,le,j⟩=>?_;cases e with
 |returned v=>exact t _ _ _ _ (h _ _ _ r) le (d j)
 |panicked ch=>exact c _ _ _ r le _ _ s (d j)
 |outgrown=>exact b _ _ r
def bA
  (c:fr.ev fv=some (.func (.func f) #[] caps)) (i:fr.evs xs=some vs) (g:Sp E.P f (vs++caps.toList) K L1 (Ret N)) (b:Tks L1 L L2) (hd:Nat.blt d E.n=true)
  (h:∀v K' L',N v K' L'->K.le K'->OL E ops rest ((d,v)::fr) K' (L'++L2) Q):OL E ops (⟨some d,.call ⟨.value fv,xs.toArray,ats⟩,ty,pos,aft,none⟩::rest) fr K L Q:=
 F5 (G0 (N:=fun v K' a=>∃L',a=L'++L2/\N v K' L') c i b g (fun v K' L' ⟨u,e,n⟩=>by cases e;exact⟨L',Y,n⟩) (fun ch K' L' ⟨u,e,n⟩=>by cases e) (fun K' L' ⟨u,e,n⟩=>by cases e)) hd
  (fun v K' a ⟨L',e,n⟩ le=>by subst e;exact h v K' L' n le)
def Val(v:Value)(K:Hl):Ending->Hl->List Asn->Prop:=fun e K' L'=>e=.returned v/\K'=K/\L'=[]
def cH
  (b:fr.ev fv=some (.func (.func f) #[] caps)) (g:fr.evs xs=some vs) (c:Sp E.P f (vs++caps.toList) K [] (Val v K)) (hd:Nat.blt d E.n=true)
  (h:OL E ops rest ((d,v)::fr) K L Q):OL E ops (⟨some d,.call ⟨.value fv,xs.toArray,ats⟩,ty,pos,aft,none⟩::rest) fr K L Q:=
 F5 (G0 (N:=fun u K' a=>u=v/\K'=K/\a=L) b g .nil c (fun u K' L' ⟨e,O,C⟩=>by cases e;subst C;exact⟨Y,O,Y⟩) (fun ch K' L' ⟨e,_⟩=>by cases e) (fun K' L' ⟨e,_⟩=>by cases e)) hd
  (fun u K' a ⟨M,O,C⟩ _=>by subst M;subst O;subst C;exact h)
def dB{R:Ending->Hl->List Asn->Prop}
  (i:fr.ev fv=some (.func (.func f) #[] caps)) (l:fr.evs xs=some vs) (j:Sp E.P f (vs++caps.toList) K L1 R) (c:Tks L1 L L2) (hd:Nat.blt d E.n=true)
  (b:∀K' L',¬R .outgrown K' L')
  (g:∀ch K' L',R (.panicked ch) K' L'->K.le K'->D E (.panic ch) fr K' (L'++L2) Q)
  (h:∀v K' L',R (.returned v) K' L'->K.le K'->OL E ops rest ((d,v)::fr) K' (L'++L2) Q):OL E ops (⟨some d,.call ⟨.value fv,xs.toArray,ats⟩,ty,pos,aft,none⟩::rest) fr K L Q:=
 F5 (G0 (N:=fun v K' a=>∃L',a=L'++L2/\R (.returned v) K' L') i l c j (fun v K' L' n=>⟨L',rfl,n⟩) g (fun K' L' n=>absurd n (b _ _))) hd
  (fun v K' a ⟨L',e,n⟩ le=>by subst e;exact h v K' L' n le)
def uY(P:Program)(fn:Func)(w0:World)(F K0:Hl)(R:Ending->Hl->List Asn->Prop):Post:=
 bodyPost P fn fun e x=>∃K' L',R e K' L'/\K0.le K'/\In w0 F K' L' x
def Fr.init:Nat->List Value->Nat->Fr
 |i,v::vs,n=>(i,v)::Fr.init (i+1) vs n
 |_,[],_=>[]
def vS:∀ {i n:Nat} {k:Nat} {v:Value},(Fr.init i vs n).get k=some v->i<=k/\vs[k-i]?=some v:=by
 induction vs with
 |nil=>intro i n k v e;simp[Fr.init,Fr.get]at e
 |cons u vs w=>
  intro i n k v e;simp only[Fr.init,Fr.get]at e
  by_cases j:i=k
  ·subst j;simp at e;subst e;simp
  rw[JN j]at e;obtain⟨h,b⟩:=w e;refine⟨aH,?_⟩
  have:k-i=(k-(i+1))+1:=aH;rw[this];simpa using b
def bL{P:Program}{fn:Func}{c:Code}{n:Nat}{K:Hl}{L:List Asn}{R:Ending->Hl->List Asn->Prop}
  (d:P.funcs[f]?=some fn) (r:fn.body=some c) (u:fn.ntmps=n) (g:Nat.ble args.length n=true) (a:(fn.name== "runtime.NumGoroutine")=false)
  (h:∀(F:Hl) (w:World),T ⟨P,n,[],w,F⟩ c (Fr.init 0 args n) K L (uY P fn w F K R)):Sp P f args K L R:=by
 refine⟨⟨fn,d,a,by simp[r]⟩,fun F w i=>calls_of_wp d r (h F w _ _ ⟨Y,?_,?_⟩ i)⟩
 ·exact gFC
 intro k v e;obtain⟨_,b⟩:=vS e;have j:k<args.length:=by
  rcases xAD k args.length with h|h
  ·exact h
  simp[List.getElem?_eq_none h]at b
 show (args.toArray++Array.replicate _ _)[k]?=some v
 rw[Array.getElem?_append_left (by simpa using j)]
 simpa using b
section
variable{P:Program}{fn:Func}{n:Nat}{w0:World}{F K0 K:Hl}{fr:Fr}{L:List Asn}{R:Ending->Hl->List Asn->Prop}
def dG(b:fn.results= #[])(le:K0.le K)(h:R (.returned (.tuple #[])) K L):D ⟨P,n,[],w0,F⟩ .normal fr K L (uY P fn w0 F K0 R):=
 fun a w f i=>⟨f.defers,_,results_none b _ _ _,K,L,h,le,i⟩
def jJ(b:fn.results= #[])(le:K0.le K)(h:R (.returned (.tuple #[])) K L):D ⟨P,n,[],w0,F⟩ .ret fr K L (uY P fn w0 F K0 R):=
 fun a w f i=>⟨f.defers,_,results_none b _ _ _,K,L,h,le,i⟩
def bG(b:fn.results= #[.tmp t])(I:fr.get t=some v)(le:K0.le K)(h:R (.returned v) K L):D ⟨P,n,[],w0,F⟩ .ret fr K L (uY P fn w0 F K0 R):=
 fun a w f i=>⟨f.defers,v,by rw[results_tmp b];simp[f.get _ _ I],K,L,h,le,i⟩
def jK{u:Nat}{x:Value}(b:fn.results= #[.tmp t,.tmp u])(I:fr.get t=some v)(C:fr.get u=some x)(le:K0.le K)(h:R (.returned (.tuple #[v,x])) K L):
  D ⟨P,n,[],w0,F⟩ .ret fr K L (uY P fn w0 F K0 R):=
 fun a w f i=>⟨f.defers,_,by rw[results_tmp2 b];simp[f.get _ _ I,f.get _ _ C],K,L,h,le,i⟩
def cF(le:K0.le K)(h:R (.panicked ch) K L):D ⟨P,n,[],w0,F⟩ (.panic ch) fr K L (uY P fn w0 F K0 R):=
 fun a w f i=>⟨f.defers,K,L,h,le,i⟩
end
end
end
section
variable{op:BinOp}{k':IntKind}{c:Operand}{P:Program}{α β:Type}{v:Value}{w w':World}
abbrev str(l:List UInt8):Value:=.string ⟨l.toArray⟩
abbrev i64(n:Int):Value:=.int .i64 n
abbrev ptr(b:Nat)(o:Nat:=0):Value:=.pointer (some ⟨b,o,none⟩)
abbrev bK(l:List Value)(t:TypeId)(f:Nat×Nat:=(0,0)):Obj:=.cells l.toArray t f
def fJ(P:Program)(t:TypeId):Bool:=
 match P.underlying t,P.info? t with
 |some (.struct _),_=>false
 |some (.array _ _),_=>false
 |some _,some i=>i.size==1
 |_,_=>false
def aggB(P:Program)(t n:Nat):Bool:=
 match P.underlying t,P.info? t with
 |some (.struct _),some i=>i.size==n
 |some (.array _ _),some i=>i.size==n
 |_,_=>false
def cT(P:Program)(s i off:Nat):Bool:=
 match P.underlying s with
 |some (.struct a)=>match a[i]? with
  |some f=>f.offset==off&&(match P.info? f.type with|some t=>t.size !=0|none=>false)
  |none=>false
 |_=>false
def iK(P:Program)(t e I:Nat):Bool:=
 match P.underlying t,P.info? e with
 |some (.slice C),some i=>C==e&&i.size==I
 |_,_=>false
def p5{t:TypeId}(h:fJ P t=true)(w:World):(isAgg t).run P w=.ok false w/\(sizeOf t).run P w=.ok 1 w:=by
 unfold fJ at h;unfold isAgg sizeOf typeInfo underlying program;cases C:P.underlying t with
 |none=>simp[C]at h
 |some d=>cases p:P.info? t with
  |none=>cases d<;>simp[C,p]at h
  |some i=>cases d<;>simp[C,p]at h<;>simp[Sem.run,C,p,bind,Sem.bind,pure,h]
def zU{t n:Nat}(h:aggB P t n=true)(w:World):(isAgg t).run P w=.ok true w/\(sizeOf t).run P w=.ok n w:=by
 unfold aggB at h;unfold isAgg sizeOf typeInfo underlying program;cases C:P.underlying t with
 |none=>simp[C]at h
 |some d=>cases p:P.info? t with
  |none=>cases d<;>simp[C,p]at h
  |some i=>cases d<;>simp[C,p]at h<;>simp[Sem.run,C,p,bind,Sem.bind,pure,h]
def run_bind(m:Sem α)(f:α->Sem β)(w:World):(m>>=f).run P w=match m.run P w with| .ok a w'=>(f a).run P w'| .halt h w'=>.halt h w':=by
 show (Sem.bind m f).run P w=_
 induction m generalizing w with
 |pure a=>rfl
 |load S a k b=>
  simp only[Sem.bind,Sem.run];cases w.cell? a with
  |some v=>exact b v w
  |none=>cases w.farLoad P a (S==.atomic)with
   |ok r=>exact b r.1 w
   |error e=>rfl
 |store S a v k b=>
  cases v<;>simp only[Sem.bind,Sem.run]<;>(first|rfl|skip)<;>
   (cases w.cell? a with
    |some u=>(by_cases d:w.frozen? a=true<;>simp only[d,if_true,if_false,Bool.false_eq_true]<;>first|rfl|exact b _)
    |none=>(simp only[];split<;>first|exact b _|rfl))
 |new o k b=>exact b _ _
 |shape r k b=>exact b _ _
 |freeze a n k b=>exact b _
 |frozen a k b=>exact b _ _
 |getObj r k b=>
  simp only[Sem.bind,Sem.run];cases w.heap[r]? with
  |none=>rfl
  |some o=>cases o<;>first|rfl|exact b _ _
 |setObj r o k b=>
  simp only[Sem.bind,Sem.run];cases w.heap[r]? with
  |none=>rfl
  |some o=>cases o<;>first|rfl|exact b _
 |choose q k b=>
  simp only[Sem.bind,Sem.run];split<;>exact b _ _
 |sys c k b=>exact b _ _
 |program k b=>exact b _ _
 |mark m k b=>exact b _
 |halt h=>rfl
def bH{m:Sem α}{f:α->Sem β}{x:α}(h:m.run P w=.ok x w'):(m>>=f).run P w=(f x).run P w':=by
 rw[run_bind,h]
def tM(x:α)(w:World):(pure x:Sem α).run P w=.ok x w:=rfl
section
variable{E:Env}{fr:Fr}{K:Hl}{L:List Asn}{Q:Post}{dst:Option Tmp}{ty:TypeId}{pos:String}{aft:Array Edge}{g:Option (Nat×Bool)}
def fI{m:Sem Value}(h:m.run P w=.ok v w'):(do pure (Next.value (<-m)):Sem Next).run P w=.ok (.value v) w':=by
 rw[bH h];rfl
def aB{x:Operand}(h:fr.ev x=some v):Ev E fr K L ⟨dst,.move x,ty,pos,aft,g⟩ v:=fun a w f _=>by simp only[execOp,f.ev h];rfl
def aE{x:Operand}(h:fr.ev x=some v):Ev E fr K L ⟨dst,.assign x,ty,pos,aft,g⟩ v:=fun a w f _=>by simp only[execOp,f.ev h];rfl
def bF{x y:Operand}(d:fr.ev c=some (.bool true))(h:fr.ev x=some v):Ev E fr K L ⟨dst,.pick c x y,ty,pos,aft,g⟩ v:=fun a w f _=>by
 simp only[execOp,f.ev h,f.ev d];rfl
def a8{x y:Operand}(d:fr.ev c=some (.bool false))(h:fr.ev y=some v):Ev E fr K L ⟨dst,.pick c x y,ty,pos,aft,g⟩ v:=fun a w f _=>by
 simp only[execOp,f.ev h,f.ev d];rfl
def iY{x y:Operand}{t t':TypeId}{u r:Value}(b:fr.ev x=some u)(c:fr.ev y=some v)
  (H:∀w,(eqGuard op t x y u v).run E.P w=.ok () w) (i:∀w,(binOp op t u v).run E.P w=.ok r w):Ev E fr K L ⟨dst,.binOp op t x y t',ty,pos,aft,g⟩ r:=by
 intro a w f _;simp only[execOp,f.ev b,f.ev c];refine fI ?_;rw[bH (H w)];exact i w
def kY{t:TypeId}{x y:Operand}{k:IntKind}{m n:Int}(w:World):(eqGuard op t x y (.int k m) (.int k' n)).run P w=.ok () w:=by
 unfold eqGuard;cases op<;>rfl
def Bi{t:TypeId}{x y:Operand}{m n:ByteArray}(w:World):(eqGuard op t x y (.string m) (.string n)).run P w=.ok () w:=by
 unfold eqGuard;cases op<;>rfl
def tY{n:Int}(h: -9223372036854775808<=n)(b:n<=9223372036854775807):IntKind.i64.wrap n=n:=by
 unfold IntKind.wrap IntKind.bits IntKind.signed;simp only[Bool.true_and];split<;>simp_all<;>omega
variable{x y:Operand}{t t':TypeId}{m n:Int}{k:IntKind}
def Mv(a:fr.ev x=some (.int k m))(b:fr.ev y=some (.int k n)):Ev E fr K L ⟨dst,.binOp .add t x y t',ty,pos,aft,g⟩ (.int k (k.wrap (m+n))):=
 iY a b kY fun w=>by simp[binOp,Op.intArith,pure]
def Mx(a:fr.ev x=some (.int k m))(b:fr.ev y=some (.int k n)):Ev E fr K L ⟨dst,.binOp .sub t x y t',ty,pos,aft,g⟩ (.int k (k.wrap (m-n))):=
 iY a b kY fun w=>by simp[binOp,Op.intArith,pure]
def UJ(a:fr.ev x=some (.int k m))(b:fr.ev y=some (.int k n)):Ev E fr K L ⟨dst,.binOp .mul t x y t',ty,pos,aft,g⟩ (.int k (k.wrap (m*n))):=
 iY a b kY fun w=>by simp[binOp,Op.intArith,pure]
def bR(a:fr.ev x=some (i64 m))(c:fr.ev y=some (i64 n))(h: -9223372036854775808<=m+n)(b:m+n<=9223372036854775807):
  Ev E fr K L ⟨dst,.binOp .add t x y t',ty,pos,aft,g⟩ (i64 (m+n)):=by have:=Mv (E:=E) (K:=K) (L:=L) (dst:=dst) (ty:=ty) (pos:=pos) (aft:=aft) (g:=g) (t:=t) (t':=t') a c;rwa [tY h b]at this
def gM(a:fr.ev x=some (i64 m))(c:fr.ev y=some (i64 n))(h: -9223372036854775808<=m-n)(b:m-n<=9223372036854775807):
  Ev E fr K L ⟨dst,.binOp .sub t x y t',ty,pos,aft,g⟩ (i64 (m-n)):=by have:=Mx (E:=E) (K:=K) (L:=L) (dst:=dst) (ty:=ty) (pos:=pos) (aft:=aft) (g:=g) (t:=t) (t':=t') a c;rwa [tY h b]at this
def nP(a:fr.ev x=some (i64 m))(c:fr.ev y=some (i64 n))(h: -9223372036854775808<=m*n)(b:m*n<=9223372036854775807):
  Ev E fr K L ⟨dst,.binOp .mul t x y t',ty,pos,aft,g⟩ (i64 (m*n)):=by have:=UJ (E:=E) (K:=K) (L:=L) (dst:=dst) (ty:=ty) (pos:=pos) (aft:=aft) (g:=g) (t:=t) (t':=t') a c;rwa [tY h b]at this
def cP(a:fr.ev x=some (.int k m))(b:fr.ev y=some (.int k n)):Ev E fr K L ⟨dst,.binOp .lss t x y t',ty,pos,aft,g⟩ (.bool (decide (m<n))):=
 iY a b kY fun w=>by simp[binOp,Op.intCmp,pure]
def gF(a:fr.ev x=some (.int k m))(b:fr.ev y=some (.int k n)):Ev E fr K L ⟨dst,.binOp .leq t x y t',ty,pos,aft,g⟩ (.bool (decide (m<=n))):=
 iY a b kY fun w=>by simp[binOp,Op.intCmp,pure]
def e7(a:fr.ev x=some (.int k m))(b:fr.ev y=some (.int k n)):Ev E fr K L ⟨dst,.binOp .gtr t x y t',ty,pos,aft,g⟩ (.bool (decide (n<m))):=
 iY a b kY fun w=>by simp[binOp,Op.intCmp,pure]
def gA(a:fr.ev x=some (.int k m))(b:fr.ev y=some (.int k n)):Ev E fr K L ⟨dst,.binOp .geq t x y t',ty,pos,aft,g⟩ (.bool (decide (n<=m))):=
 iY a b kY fun w=>by simp[binOp,Op.intCmp,pure]
def Uw(m n:Int):(m==n)=decide (m=n):=by by_cases h:m=n<;>simp[h]
def bS(a:fr.ev x=some (.int k m))(b:fr.ev y=some (.int k n)):Ev E fr K L ⟨dst,.binOp .eql t x y t',ty,pos,aft,g⟩ (.bool (decide (m=n))):=
 iY a b kY fun w=>by simp[binOp,Op.intCmp,<-Uw,pure]
def eH(a:fr.ev x=some (.int k m))(b:fr.ev y=some (.int k n)):Ev E fr K L ⟨dst,.binOp .neq t x y t',ty,pos,aft,g⟩ (.bool (decide (¬m=n))):=
 iY a b kY fun w=>by
  have:(m !=n)=decide (¬m=n):=by by_cases h:m=n<;>simp[h]
  simp[binOp,Op.intCmp,<-this,pure]
def eB{b:Bool}(c:fr.ev x=some (.bool b)):Ev E fr K L ⟨dst,.unOp .not t x,ty,pos,aft,g⟩ (.bool (!b)):=fun a w f _=>by
 simp only[execOp,f.ev c];rfl
def dW{p:Prop}[Decidable p](b:fr.ev x=some (.bool (decide p))):Ev E fr K L ⟨dst,.unOp .not t x,ty,pos,aft,g⟩ (.bool (decide (¬p))):=fun a w f _=>by
 simp only[execOp,f.ev b,decide_not];rfl
def pU{s d:TypeId}{ds:TypeDesc}(hd:E.P.underlying d=some (.int k'))(c:E.P.underlying s=some ds)(b:fr.ev x=some (.int k m)):
  Ev E fr K L ⟨dst,.convert s d x,ty,pos,aft,g⟩ (.int k' (k'.wrap m)):=fun a w f _=>by
 simp only[execOp,f.ev b];refine fI ?_;unfold convert;simp only[underlying,program,bind,Sem.bind,pure,Sem.run,hd,c,Conv.intToInt]
variable{l l':List UInt8}
def zX(l:List UInt8):(⟨l.toArray⟩:ByteArray).toList=l:=by rw[ByteArray.toList_eq]
def oY(l:List UInt8):(⟨l.toArray⟩:ByteArray).size=l.length:=by simp[ByteArray.size]
def Gv(l m:List UInt8):(⟨l.toArray⟩:ByteArray)++⟨m.toArray⟩=⟨(l++m).toArray⟩:=by
 apply Go.WideShapes.bytes_inj;simp
def eG(a:fr.ev x=some (str l))(b:fr.ev y=some (str l'))(h:l.length+l'.length<=9223372036854775807):
  Ev E fr K L ⟨dst,.binOp .add t x y t',ty,pos,aft,g⟩ (str (l++l')):=
 iY a b Bi fun w=>by
  simp only[binOp,Op.stringOp,oY,Gv];rw[x6 (by simp[IntKind.max,IntKind.bits,IntKind.signed];omega)];rfl
def dV(a:fr.ev x=some (str l))(b:fr.ev y=some (str l')):Ev E fr K L ⟨dst,.binOp .eql t x y t',ty,pos,aft,g⟩ (.bool (decide (l=l'))):=
 iY a b Bi fun w=>by
  have:(l==l')=decide (l=l'):=by by_cases h:l=l'<;>simp[h]
  simp only[binOp,Op.stringOp,zX,this];rfl
def s9(a:fr.ev x=some (str l))(b:fr.ev y=some (str l')):Ev E fr K L ⟨dst,.binOp .neq t x y t',ty,pos,aft,g⟩ (.bool (decide (¬l=l'))):=
 iY a b Bi fun w=>by
  have:(!(l==l'))=decide (¬l=l'):=by by_cases h:l=l'<;>simp[h]
  simp only[binOp,Op.stringOp,zX,this];rfl
def bX{j:Array TypeId}(s:j[0]?=some t)(C:E.P.underlying t=some .string)(b:fr.ev x=some (str l)):
  Ev E fr K L ⟨dst,.call ⟨.builtin .len,#[x],j⟩,ty,pos,aft,g⟩ (i64 l.length):=fun a w f _=>by
 have e:Array.map a.eval #[x]= #[str l]:=by simp[f.ev b]
 simp only[execOp,resolve,e,bind,pure,Sem.bind,invoke,builtin];simp[Builtin.len_,s,underlying,program,bind,Sem.bind,pure,Sem.run,C,goInt,oY]
def cJ{c:UInt8}{j:Nat}{q:Int}(C:E.P.underlying t=some .string)(r:fr.ev x=some (str l))(s:fr.ev y=some (.int k q))(i:q=(j:Int))(d:l[j]?=some c):
  Ev E fr K L ⟨dst,.index t x y,ty,pos,aft,g⟩ (.int .u8 c.toNat):=fun a w f _=>by
 subst i;simp only[execOp,f.ev r,f.ev s];refine fI ?_;have p:j<l.length:=by
  rcases xAD j l.length with h|h
  ·exact h
  simp[List.getElem?_eq_none h]at d
 have b:l[j]=c:=by simpa[List.getElem?_eq_getElem p]using d
 have e:(⟨l.toArray⟩:ByteArray)[j]?=some c:=by
  rw[getElem?_pos (⟨l.toArray⟩:ByteArray) j (by simpa[ByteArray.size]using p)];simp[ByteArray.getElem_eq_getElem_data,b]
 unfold Instr.index;simp[asIntOf,underlying,program,bind,Sem.bind,pure,Sem.run,C,e]
def pL(l:List UInt8)(i j:Nat):(⟨l.toArray⟩:ByteArray).extract i j=⟨((l.take j).drop i).toArray⟩:=by
 apply Go.WideShapes.bytes_inj
 simp[ByteArray.data_extract,List.drop_take]
end
end
section
variable{mv nv:Int}{k:IntKind}{l l':List Value}{o:Nat}{f fz:Nat×Nat}{hi lo:Operand}{P:Program}{u:TypeId}{v:Value}{w:World}
section
variable{E:Env}{fr:Fr}{K:Hl}{L L':List Asn}{Q:Post}{dst:Option Tmp}{ty:TypeId}{pos:String}{aft:Array Edge}{g:Option (Nat×Bool)}{x y:Operand}{t s e sz i off b:Nat}
def fP{l:List UInt8}{e:IntKind}{m n:Nat}(C:E.P.underlying t=some .string)(c:fr.ev x=some (str l))(v:fr.ev lo=some (.int k mv))(y:fr.ev hi=some (.int e nv))(B:mv=(m:Int))(u:nv=(n:Int))
  (h:m<=n) (b:n<=l.length):Ev E fr K L ⟨dst,.slice t x (some lo) (some hi) none,ty,pos,aft,g⟩ (str ((l.take n).drop m)):=fun a w f _=>by
 subst B;subst u
 simp only[execOp,f.ev c,f.ev v,f.ev y,Option.map];refine fI ?_;unfold Instr.sliceAt;simp only[underlying,program,bind,Sem.bind,pure,Sem.run,C,Instr.slice];simp[Instr.sliceBounds,Instr.sliceBound,asIntOf,bind,Sem.bind,pure,oY,h,b,pL]
def lH{l:List UInt8}{m:Nat}(C:E.P.underlying t=some .string)(b:fr.ev x=some (str l))(v:fr.ev lo=some (.int k mv))(B:mv=(m:Int))
  (h:m<=l.length):Ev E fr K L ⟨dst,.slice t x (some lo) none none,ty,pos,aft,g⟩ (str (l.drop m)):=fun a w f _=>by
 subst B;simp only[execOp,f.ev b,f.ev v,Option.map];refine fI ?_;unfold Instr.sliceAt;simp only[underlying,program,bind,Sem.bind,pure,Sem.run,C,Instr.slice];simp[Instr.sliceBounds,Instr.sliceBound,asIntOf,bind,Sem.bind,pure,oY,h,pL]
def gC{l:List UInt8}{n:Nat}(C:E.P.underlying t=some .string)(c:fr.ev x=some (str l))(y:fr.ev hi=some (.int k nv))(u:nv=(n:Int))
  (b:n<=l.length):Ev E fr K L ⟨dst,.slice t x none (some hi) none,ty,pos,aft,g⟩ (str (l.take n)):=fun a w f _=>by
 subst u;simp only[execOp,f.ev c,f.ev y,Option.map];refine fI ?_;unfold Instr.sliceAt;simp only[underlying,program,bind,Sem.bind,pure,Sem.run,C,Instr.slice];simp[Instr.sliceBounds,Instr.sliceBound,asIntOf,bind,Sem.bind,pure,oY,b,pL]
def HY{a:Addr}(b:fr.ev x=some (.pointer (some a))):Ev E fr K L ⟨dst,.nilCheck x,ty,pos,aft,g⟩ (.pointer (some a)):=fun a w f _=>by
 exact gGY
def Dj(b:fr.ev x=some (.iface u v)):Ev E fr K L ⟨dst,.nilCheck x,ty,pos,aft,g⟩ (.iface u v):=fun a w f _=>by
 exact gGY
def Di{u:FuncId}{p q:Array Value}(b:fr.ev x=some (.func (.func u) p q)):Ev E fr K L ⟨dst,.nilCheck x,ty,pos,aft,g⟩ (.func (.func u) p q):=fun a w f _=>by
 exact gGY
def kS(b o n:Nat):(⟨b,o,none⟩:Addr).add n=⟨b,o+n,none⟩:=by
 unfold Addr.add;split<;>simp_all
def aD{o':Nat}(I:cT E.P s i off=true)(q:fr.ev x=some (ptr b o))(h:o+off=o'):Ev E fr K L ⟨dst,.fieldAddr s x i,ty,pos,aft,g⟩ (ptr b o'):=fun a w f _=>by
 subst h;simp only[execOp,f.ev q];refine fI ?_;unfold cT at I;unfold Instr.fieldAt;cases C:E.P.underlying s with
 |none=>simp[C]at I
 |some d=>
  cases d<;>simp[C]at I
  rename_i l;cases e:l[i]? with
  |none=>simp[e]at I
  |some j=>
   simp[e]at I;obtain⟨p,c⟩:=I;cases hi:E.P.info? j.type with
   |none=>simp[hi]at c
   |some t=>
    simp[hi]at c;simp only[underlying,program,bind,Sem.bind,pure,Sem.run,C,e,Instr.sureAddr,fieldPlace,sizeOf,typeInfo,hi,c,if_false,p,kS]
def nK(h:w.heap[b]?=some (bK l u f))(hv:l[o]?=some v):w.cell? ⟨b,o,none⟩=some v:=by
 simp[World.cell?,h,hv]
def vU(h:w.heap[b]?=some (bK l u f))(hv:l[o]?=some v):(load ⟨b,o,none⟩).run P w=.ok v w:=by
 simp[load,Sem.run,nK h hv]
inductive Sees (K:Hl) (L:List Asn) (b:Nat) (o:Obj):Prop where
 |own:Hs (pt b o) L->Sees K L b o
 |known:K b=some o->Sees K L b o
def Sees.at{q:World}{F:Hl}{o:Obj}(h:Sees K L b o)(j:In q F K L w):w.heap[b]?=some o:=by
 cases h with
 |own f=>obtain⟨_,g⟩:=f.fnd (pt b o);exact j.mem g
 |known h=>exact j.known h
def aK(I:fJ E.P t=true)(d:fr.ev x=some (ptr b o))(c:Sees K L b (bK l u fz))(hv:l[o]?=some v):
  Ev E fr K L ⟨dst,.load t x,ty,pos,aft,g⟩ v:=fun a w f j=>by
 simp only[execOp,f.ev d];refine fI ?_;obtain⟨h,e⟩:=p5 I w
 show (loadVar t _).run E.P w=_
 unfold loadVar;rw[bH h];exact vU (c.at j) hv
def lJ(h:w.heap[b]?=some (bK l u fz)):
  ∀(n:Nat) (vs:List Value) (o k:Nat) (acc:List Value),(l.drop (o+k)).take n=vs->vs.length=n->(loadCellsFrom ⟨b,o,none⟩ k n acc.toArray).run P w=.ok (acc++vs).toArray w:=by
 intro n;induction n with
 |zero=>intro vs o k acc c a;have:vs=[]:=xA7.1 a;subst this;simp[loadCellsFrom,pure]
 |succ n f=>
  intro vs o k acc c a;cases vs with
  |nil=>simp at a
  |cons v vs=>
   have H:l[o+k]?=some v:=by
    have:=xAF (·[0]?) c
    simpa[List.getElem?_take,List.getElem?_drop]using this
   unfold loadCellsFrom;rw[kS,bH (vU h H)];have e:acc.toArray.push v=(acc++[v]).toArray:=cD;rw[e,f vs o (k+1) (acc++[v]) ?_ (by simpa using a)]
   ·simp
   have:=xAF List.tail c;simp only[List.tail_cons]at this;rw[<-this];have d:(l.drop (o+k))=v::l.drop (o+(k+1)):=by
    have G:o+k<l.length:=by
     rcases xAD (o+k) l.length with h|h
     ·exact h
     simp[List.getElem?_eq_none h]at H
    rw[xAV G];have:l[o+k]=v:=by simpa[List.getElem?_eq_getElem G]using H
    rw[this];rfl
   rw[d];simp
def cK{n:Nat}{vs:List Value}(I:aggB E.P t n=true)(i:fr.ev x=some (ptr b o))(e:Sees K L b (bK l u fz))(hv:(l.drop o).take n=vs)(d:vs.length=n):
  Ev E fr K L ⟨dst,.load t x,ty,pos,aft,g⟩ (.agg vs.toArray):=fun a w f j=>by
 simp only[execOp,f.ev i];refine fI ?_;obtain⟨h,c⟩:=zU I w
 show (loadVar t _).run E.P w=_
 unfold loadVar;rw[bH h];simp only[if_true];rw[bH c];have:=lJ (P:=E.P) (e.at j) n vs o 0 [] hv d;exact gEZ
def newb(b:Nat)(o:Obj)(K:Hl)(L:List Asn):Value->Hl->List Asn->Prop:=fun v a L'=>v=ptr b/\a=K/\L'=pt b o::L
def eZ(h:fr.ev x=some v)(d:v.cells=l.toArray):EfS E fr K L ⟨dst,.box e x,ty,pos,aft,g⟩ (fun u c L'=>∃b,newb b (bK l e) K L u c L'):=by
 intro a w f j;have:(execOp a.eval ⟨dst,.box e x,ty,pos,aft,g⟩).run E.P w=.ok (.value (ptr w.heap.size)) {w with heap:=w.heap.push (bK l e)}:=by
  simp only[execOp,f.ev h,Instr.box,newVar,newRow,d];rfl
 exact gG3
def cZ(P:Program)(e:TypeId):Option (List Value):=(P.info? e).bind fun i=>i.zero.map fun z=>z.cells.toList
def BJ{e:TypeId}(h:cZ P e=some l):∃a v,P.info? e=some a/\a.zero=some v/\v.cells=l.toArray:=by
 unfold cZ at h;cases hi:P.info? e with
 |none=>simp[hi]at h
 |some a=>
  cases N:a.zero with
  |none=>simp[hi,N]at h
  |some v=>simp[hi,N]at h;exact⟨a,v,Y,N,by rw[<-h]⟩
def dP(N:cZ E.P e=some l):EfS E fr K L ⟨dst,.alloc e,ty,pos,aft,g⟩ (fun u c L'=>∃b,newb b (bK l e) K L u c L'):=by
 intro a w f j;obtain⟨h,v,hi,N,d⟩:=BJ N;have:(execOp a.eval ⟨dst,.alloc e,ty,pos,aft,g⟩).run E.P w=.ok (.value (ptr w.heap.size)) {w with heap:=w.heap.push (bK l e)}:=by
  simp only[execOp,Instr.alloc,zeroValue,typeInfo,program,bind,Sem.bind,pure,Sem.run,hi,N,newVar,newRow,d];rfl
 exact gG3
inductive SetAt:List Value->Nat->Value->List Value->Prop where
 |zero {a:Value} {l:List Value} {v:Value}:SetAt (a::l) 0 v (v::l)
 |succ {a:Value} {l:List Value} {n:Nat} {v:Value} {l':List Value}:SetAt l n v l'->SetAt (a::l) (n+1) v (a::l')
def SetAt.eq{n:Nat}(h:SetAt l n v l'):l.set n v=l'/\n<l.length:=by
 induction h with
 |zero=>exact⟨Y,cD⟩
 |succ _ w=>exact⟨by simp[w.1],by simp;exact w.2⟩
def qX(v:Value)(h:w.heap[b]?=some (bK l u fz)):
  (w.setCell ⟨b,o,none⟩ v).heap.size=w.heap.size/\(w.setCell ⟨b,o,none⟩ v).heap[b]?=some (bK (l.set o v) u fz)/\∀z,z≠b->(w.setCell ⟨b,o,none⟩ v).heap[z]?=w.heap[z]?:=by
 refine⟨by simp[World.setCell],?_,fun z N=>?_⟩
 ·simp[World.setCell,Array.getElem?_modify,h]
 simp[World.setCell,Array.getElem?_modify,Ne.symm N]
def B3(h:w.heap[b]?=some (bK l u fz))(q:o<l.length)
  (c:(fz.1<=o&&o<fz.2)=false) (a:v.oneCell'=true):(store ⟨b,o,none⟩ v).run P w=.ok () (w.setCell ⟨b,o,none⟩ v):=by
 have d:w.cell? ⟨b,o,none⟩=some l[o]:=nK h (by simp[q]);have N:w.frozen? ⟨b,o,none⟩=false:=by
  obtain⟨lo,hi⟩:=fz;simp only[World.frozen?,h];exact c
 cases v<;>simp[Value.oneCell']at a<;>simp[store,Sem.run,d,N]
def bW(I:fJ E.P t=true)(z:fr.ev x=some (ptr b o))(A:fr.ev y=some v)(h:v.oneCell'=true)
  (d:Fnd (pt b (bK l u fz)) (pt b (bK l' u fz)) L L') (C:SetAt l o v l') (q:(fz.1<=o&&o<fz.2)=false):
  EfS E fr K L ⟨dst,.store t x y,ty,pos,aft,g⟩ (fun _ i c=>i=K/\c=L'):=by
 intro a w f j;have r:=j.mem d;obtain⟨rfl,e⟩:=C.eq;have p:v.cells= #[v]:=by cases v<;>simp[Value.oneCell']at h<;>rfl
 have s:(execOp a.eval ⟨dst,.store t x y,ty,pos,aft,g⟩).run E.P w=.ok .skip (w.setCell ⟨b,o,none⟩ v):=by
  simp only[execOp,f.ev z,f.ev A];have:(Instr.storeAt t (ptr b o) v).run E.P w=.ok () (w.setCell ⟨b,o,none⟩ v):=by
   show (storeVar t _ v).run E.P w=_
   unfold storeVar;rw[bH (p5 I w).2];simp only[p];rw[x6 cD];simp only[storeCells,kS,Nat.add_zero]
   show (store _ _>>=fun _=>pure ()).run E.P w=_
   rw[bH (B3 r e q h)];rfl
  rw[bH this];rfl
 obtain⟨B,F,H⟩:=qX (o:=o) v r;exact⟨_,_,_,_,.inr ⟨s,Y⟩,⟨Y,Y⟩,Hl.le_refl _,j.writeAt d B F H⟩
end
end
structure El (α:Type) where
 e:TypeId
 sz:Nat
 enc:α->List Value
 len:∀x,(enc x).length=sz
 one:∀x,∀u∈enc x,u.oneCell'=true
def El.cs{α:Type}(k:El α)(xs:List α):List Value:=xs.flatMap k.enc
def El.cs_one{α:Type}(k:El α)(xs:List α):∀u∈k.cs xs,u.oneCell'=true:=by
 intro u C;obtain⟨x,_,a⟩:=List.mem_flatMap.1 C;exact k.one x u a
def El.cs_length{α:Type}(k:El α)(xs:List α):(k.cs xs).length=xs.length*k.sz:=by
 induction xs with
 |nil=>simp[El.cs]
 |cons x xs w=>simp only[El.cs,List.flatMap_cons,List.length_append,k.len]at*;rw[w,xBT,Nat.succ_mul];omega
def El.cs_append{α:Type}(k:El α)(xs ys:List α):k.cs (xs++ys)=k.cs xs++k.cs ys:=by simp[El.cs]
def El.cs_drop{α:Type}(k:El α)(xs:List α)(i:Nat):(k.cs xs).drop (i*k.sz)=k.cs (xs.drop i):=by
 induction i generalizing xs with
 |zero=>simp
 |succ i w=>
  cases xs with
  |nil=>simp[El.cs]
  |cons x xs=>
   have:(i+1)*k.sz=k.sz+i*k.sz:=by rw[Nat.succ_mul];omega
   rw[this,<-List.drop_drop];have b:(k.cs (x::xs)).drop k.sz=k.cs xs:=by
    simp only[El.cs,List.flatMap_cons];rw[List.drop_append_of_le_length gCV,xAS gCV];rfl
   rw[b,w];rfl
def El.cs_take{α:Type}(k:El α)(xs:List α)(i:Nat):(k.cs xs).take (i*k.sz)=k.cs (xs.take i):=by
 induction i generalizing xs with
 |zero=>simp[El.cs]
 |succ i w=>
  cases xs with
  |nil=>simp[El.cs]
  |cons x xs=>
   have:(i+1)*k.sz=k.sz+i*k.sz:=by rw[Nat.succ_mul];omega
   rw[this];simp only[El.cs,List.flatMap_cons,List.take_succ_cons];rw[List.take_append,k.len,Nat.add_sub_cancel_left,xAJ (by rw[k.len];omega)];have:=w xs;simp only[El.cs]at this;rw[this]
def El.cs_at{α:Type}(k:El α){xs:List α}{i:Nat}{x:α}(h:xs[i]?=some x){r:List Value}:((k.cs xs++r).drop (i*k.sz)).take k.sz=k.enc x:=by
 have p:i<xs.length:=by
  rcases xAD i xs.length with e|e
  ·exact e
  simp[List.getElem?_eq_none e]at h
 have a:xs[i]=x:=by simpa[List.getElem?_eq_getElem p]using h
 rw[List.drop_append_of_le_length (by rw[k.cs_length];exact xAU _ (Nat.le_of_lt p)),k.cs_drop,xAV p,a];simp only[El.cs,List.flatMap_cons];rw[xA1,List.take_append_of_le_length gCV,xAJ gCV]
def FzOk(n:Nat)(fz:Nat×Nat):Prop:=fz.2<=fz.1\/n<=fz.1
def FzOk.at{n o:Nat}{fz:Nat×Nat}(h:FzOk n fz)(q:o<n):(fz.1<=o&&o<fz.2)=false:=by
 unfold FzOk at h;simp only[Bool.and_eq_false_iff,decide_eq_false_iff_not];omega
def sl{α:Type}(z:Bool)(k:El α)(v:Value)(xs:List α):Asn:=fun h=>
 (v=.slice none 0 0/\xs=[]/\h=.emp)\/
 (∃b f j w,v=.slice (some ⟨b,0,none⟩) xs.length f/\(z=true->xs≠[])/\xs.length<=f/\j.length=(f-xs.length)*k.sz/\FzOk (f*k.sz) w/\h=Hl.one b (bK (k.cs xs++j) k.e w))
def Ksl{α:Type}(k:El α)(K:Hl)(v:Value)(xs:List α):Prop:=
 (∃a c,v=.slice a 0 c/\xs=[])\/
 (∃b off f g w,v=.slice (some ⟨b,off,none⟩) xs.length f/\(∃u,K b=some (bK g u w))/\(g.drop off).take (xs.length*k.sz)=k.cs xs)
def Ksl.mono{α:Type}{k:El α}{K c:Hl}{v:Value}{xs:List α}(h:Ksl k K v xs)(le:K.le c):Ksl k c v xs:=by
 rcases h with h|⟨b,off,f,g,w,d,a,l⟩
 ·exact .inl h
 obtain⟨u,a⟩:=a;exact .inr ⟨b,off,f,g,w,d,⟨u,le _ _ a⟩,l⟩
def SlAt{α:Type}(k:El α)(w:World)(v:Value)(xs:List α):Prop:=
 (∃a c,v=.slice a 0 c/\xs=[])\/
 (∃b off f g d,v=.slice (some ⟨b,off,none⟩) xs.length f/\(∃u,w.heap[b]?=some (bK g u d))/\(g.drop off).take (xs.length*k.sz)=k.cs xs)
inductive SeesSl {α:Type} (k:El α) (K:Hl) (L:List Asn) (v:Value) (xs:List α):Prop where
 |own {z}:Hs (sl z k v xs) L->SeesSl k K L v xs
 |known:Ksl k K v xs->SeesSl k K L v xs
 |blk {b:Nat} {cells:List Value} {fz:Nat×Nat} {cap off:Nat}:Sees K L b (bK cells k.e fz)->v=.slice (some ⟨b,off,none⟩) xs.length cap->(cells.drop off).take (xs.length*k.sz)=k.cs xs->SeesSl k K L v xs
def In.slice{α:Type}{z:Bool}{k:El α}{q w:World}{F K:Hl}{v:Value}{xs:List α}{L:List Asn}(i:In q F K (sl z k v xs::L) w):SlAt k w v xs:=by
 obtain⟨h,⟨a,l,s,r,O,rfl⟩,d,e,S,G,H,x⟩:=i.rep;rcases s with ⟨rfl,rfl,rfl⟩|⟨b,f,j,c,rfl,N,g,E,p,rfl⟩
 ·exact .inl ⟨none,0,Y,Y⟩
 refine .inr ⟨b,0,f,k.cs xs++j,c,Y,⟨k.e,x b _ (by simp[Hl.join,Hl.one])⟩,?_⟩
 exact gFY
def SeesSl.at{α:Type}{k:El α}{q w:World}{F K:Hl}{v:Value}{xs:List α}{L:List Asn}(h:SeesSl k K L v xs)(i:In q F K L w):SlAt k w v xs:=by
 cases h with
 |own f=>obtain⟨_,d⟩:=f.split;exact(i.imp d).slice
 |known h=>
  rcases h with h|⟨b,off,c,g,e,d,a,l⟩
  ·exact .inl h
  obtain⟨u,a⟩:=a;exact .inr ⟨b,off,c,g,e,d,⟨u,i.known a⟩,l⟩
 |blk j a l=>exact .inr ⟨_,_,_,_,_,a,⟨_,j.at i⟩,l⟩
def mR(v:Value)(n:Nat):Value:=
 match v with
 | .slice (some a) _ _=>.pointer (some (a.add n))
 |_=>undef
section
variable{E:Env}{fr:Fr}{K:Hl}{L L':List Asn}{Q:Post}{dst:Option Tmp}{ty:TypeId}{pos:String}{aft:Array Edge}{g:Option (Nat×Bool)}{x y:Operand}{t s e sz i off b:Nat}{α:Type}{k:El α}{v:Value}{xs:List α}
def bU{d:Array TypeId}{u:TypeId}(s:d[0]?=some t)(C:E.P.underlying t=some (.slice u))(p:fr.ev x=some v)(l:SeesSl k K L v xs):
  Ev E fr K L ⟨dst,.call ⟨.builtin .len,#[x],d⟩,ty,pos,aft,g⟩ (i64 xs.length):=fun a w f j=>by
 have e:Array.map a.eval #[x]= #[v]:=by simp[f.ev p]
 simp only[execOp,resolve,e,bind,pure,Sem.bind,invoke,builtin];rcases l.at j with ⟨S,c,rfl,rfl⟩|⟨b,off,i,h,q,rfl,⟨u0,r⟩,y⟩<;>
  exact gGR
def mS{P:Program}{t e sz:Nat}(h:iK P t e sz=true):∃a,P.underlying t=some (.slice e)/\P.info? e=some a/\a.size=sz:=by
 unfold iK at h;cases C:P.underlying t with
 |none=>simp[C]at h
 |some d=>
  cases p:P.info? e with
  |none=>cases d<;>simp[C,p]at h
  |some i=>cases d<;>simp[C,p]at h;obtain⟨rfl,b⟩:=h;exact⟨i,Y,Y,b⟩
def aW{j:Nat}{l:Int}{kk:IntKind}(I:iK E.P t k.e k.sz=true)(z:fr.ev x=some v)(u:SeesSl k K L v xs)(A:fr.ev y=some (.int kk l))(e:l=(j:Int))(h:j<xs.length):
  Ev E fr K L ⟨dst,.indexAddr t x y,ty,pos,aft,g⟩ (mR v (j*k.sz)):=fun a w f i=>by
 subst e;obtain⟨B,q,r,s⟩:=mS I;simp only[execOp,f.ev z,f.ev A];refine fI ?_;rcases u.at i with ⟨S,c,rfl,rfl⟩|⟨b,off,p,d,C,rfl,⟨u0,F⟩,G⟩
 ·simp at h
 unfold Instr.indexAt;simp[asIntOf,underlying,program,bind,Sem.bind,pure,Sem.run,q,h,sizeOf,typeInfo,r,s,mR]
def cE{j o:Nat}{u:α}{c:Value}(I:fJ E.P t=true)(B:fr.ev x=some (mR v (j*k.sz)))(A:SeesSl k K L v xs)(l:xs[j]?=some u)(s:k.enc u=[c]):
  Ev E fr K L ⟨dst,.load t x,ty,pos,aft,g⟩ c:=fun a w f i=>by
 simp only[execOp,f.ev B];refine fI ?_;have p:j<xs.length:=by
  rcases xAD j xs.length with h|h
  ·exact h
  simp[List.getElem?_eq_none h]at l
 rcases A.at i with ⟨S,c,rfl,rfl⟩|⟨b,off,y,e,G,rfl,⟨u0,z⟩,F⟩
 ·simp at l
 obtain⟨C,H⟩:=p5 I w;have d:=k.cs_at l (r:=[]);rw[xAL,<-F]at d;have q:k.sz=1:=by have:=k.len u;simpa[s]using this.symm
 show (loadVar t (Addr.add ⟨b,off,none⟩ (j*k.sz))).run E.P w=_
 rw[kS];unfold loadVar;rw[bH C];refine vU z ?_;have:=xAF (·[0]?) d;simp only[s,List.getElem?_take,List.getElem?_drop,q]at this ⊢;simp at this ⊢
 simpa[p]using this
def fH{j n:Nat}{u:α}(I:aggB E.P t k.sz=true)(C:fr.ev x=some (mR v (j*k.sz)))(B:SeesSl k K L v xs)(l:xs[j]?=some u):
  Ev E fr K L ⟨dst,.load t x,ty,pos,aft,g⟩ (.agg (k.enc u).toArray):=fun a w f i=>by
 simp only[execOp,f.ev C];refine fI ?_;have q:j<xs.length:=by
  rcases xAD j xs.length with h|h
  ·exact h
  simp[List.getElem?_eq_none h]at l
 rcases B.at i with ⟨S,c,rfl,rfl⟩|⟨b,off,s,d,G,rfl,⟨u0,A⟩,F⟩
 ·simp at l
 obtain⟨y,z⟩:=zU I w;have e:=k.cs_at l (r:=[]);rw[xAL,<-F]at e
 show (loadVar t (Addr.add ⟨b,off,none⟩ (j*k.sz))).run E.P w=_
 rw[kS];unfold loadVar;rw[bH y];simp only[if_true];rw[bH z];have N:(j+1)*k.sz<=xs.length*k.sz:=xAU _ q;rw[Nat.succ_mul]at N;have p:(d.drop (off+j*k.sz+0)).take k.sz=k.enc u:=by
  rw[<-e,Nat.add_zero,<-List.drop_drop,List.drop_take,List.take_take]
  congr 1
  omega
 have:=lJ (P:=E.P) A k.sz (k.enc u) (off+j*k.sz) 0 [] p (k.len u);exact gEZ
end
section
variable{a a' b:Act}{listed:Array Bool}{aft:Array Edge}{ats:Array TypeId}{caps:Array Value}{R:Ending->Hl->List Asn->Prop}{fr':Fr}{f:FuncId}{F:Hl}{As L1 L2:List Asn}{ds:List Deferred}{anc ord:List Nat}{l:List Oper}{xs:List Operand}{vs:List Value}{d id x:Nat}{fv:Operand}{g:Option (Nat×Bool)}{P:Program}{pos:String}{ty:TypeId}{v:Value}{N:Value->Hl->List Asn->Prop}{w w0:World}
def mJ(ops:Array Oper)(a' a:Act):Prop:=a'.defers=a.defers/\a'.tmps.size=a.tmps.size/\∀k,(∀o∈ops.toList,o.dst≠some k)->a'.tmps[k]?=a.tmps[k]?
def mJ.refl(ops:Array Oper)(a:Act):mJ ops a a:=⟨rfl,rfl,fun _ _=>rfl⟩
def mJ.trans{ops:Array Oper}{c:Act}(h:mJ ops a b)(k:mJ ops b c):mJ ops a c:=⟨h.1.trans k.1,h.2.1.trans k.2.1,fun i p=>(h.2.2 i p).trans (k.2.2 i p)⟩
def mJ.symm{ops:Array Oper}(h:mJ ops a b):mJ ops b a:=⟨h.1.symm,h.2.1.symm,fun i p=>(h.2.2 i p).symm⟩
def mJ.put{ops:Array Oper}{i:Nat}{o:Oper}(h:ops[i]?=some o)(a:Act)(v:Value):mJ ops (a.put o.dst v) a:=by
 have B:o∈ops.toList:=by simpa using Array.mem_of_getElem? h
 cases hd:o.dst with
 |none=>exact mJ.refl _ _
 |some d=>
  refine⟨Y,by simp[Act.put],fun k j=>?_⟩
  have F:d≠k:=fun e=>j o B (by rw[hd,e])
  simp only[Act.put];rw[xBL F]
def Eff(P:Program)(ops:Array Oper)(o:Oper)(a:Act)(w:World)(Q:Post)(next:Value->World->Prop):Prop:=
 (∃u x,(execOp a.eval o).run P w=.ok (.value u) x/\next u x)\/(∃x,(execOp a.eval o).run P w=.ok .skip x/\next undef x)\/
 (∃ f b B, (execOp a.eval o).run P w = .ok (.enter f b) B /\ Calls P f b B fun e x => match e with
  | .returned u=>next u x
  | .panicked p=>∀a',mJ ops a' a->Q (.panic p) a' x
  | .outgrown=>LetsOut Q)\/
 (∃ l f tmps assign body B, (execOp a.eval o).run P w = .ok (.round l f tmps assign body) B /\ RoundIn Fence.wide 0 P l f tmps assign body B fun e x => match e with
  | .returned u=>next u x
  | .panicked p=>∀a',mJ ops a' a->Q (.panic p) a' x
  | .outgrown=>LetsOut Q)
def Eff.mono{ops:Array Oper}{o:Oper}{Q:Post}{n g:Value->World->Prop}(h:Eff P ops o a w Q n)(k:∀u w',n u w'->g u w'):Eff P ops o a w Q g:=by
 rcases h with ⟨u,w',h,c⟩|⟨w',h,c⟩|⟨f,b,B,h,d⟩|⟨l,f,t,x,y,B,h,d⟩
 ·exact .inl ⟨u,w',h,k _ _ c⟩
 ·exact .inr (.inl ⟨w',h,k _ _ c⟩)
 ·exact .inr (.inr (.inl ⟨f,b,B,h,d.mono fun e w' q=>by cases e<;>first|exact k _ _ q|exact q⟩))
 exact .inr (.inr (.inr ⟨l,f,t,x,y,B,h,d.mono fun e w' q=>by cases e<;>first|exact k _ _ q|exact q⟩))
def Eff.congr{ops:Array Oper}{o:Oper}{Q:Post}{n:Value->World->Prop}(h:Eff P ops o a w Q n)(A:execOp a'.eval o=execOp a.eval o)(hd:mJ ops a' a):Eff P ops o a' w Q n:=by
 unfold Eff at*;rw[A];rcases h with h|h|⟨f,c,B,h,d⟩|⟨l,f,t,x,y,B,h,d⟩
 ·exact .inl h
 ·exact .inr (.inl h)
 ·refine .inr (.inr (.inl ⟨f,c,B,h,d.mono fun e g q=>?_⟩))
  cases e<;>first|exact q|exact fun b s=>q b (s.trans hd)
 refine .inr (.inr (.inr ⟨l,f,t,x,y,B,h,d.mono fun e g q=>?_⟩))
 cases e<;>first|exact q|exact fun b s=>q b (s.trans hd)
def Tm(ρ:Operand->Value)(o:Oper):o.semAt Fence.wide.round ρ=execOp ρ o:=rfl
def Eff.wp{ops:Array Oper}{o:Oper}{Q:Post}{n:Value->World->Prop}{K:Act->World->Prop}(h:Eff P ops o a w Q n)(k:∀u w',n u w'->K (a.put o.dst u) w'):o.wpIn Fence.wide 0 P a w K Q:=by
 refine⟨fun _ _=>trivial,?_⟩
 rw[Tm];have hd:Fence.wide.depth.isSome=true->1<=0:=fun h=>by cases h
 rcases h with ⟨u,w',h,b⟩|⟨w',h,b⟩|⟨f,c,B,h,d⟩|⟨l,f,t,x,y,B,h,d⟩
 ·rw[h];exact k _ _ b
 ·rw[h];exact k _ _ b
 ·rw[h];refine⟨hd,callsIn_wide.2 (d.mono fun e w' q=>?_)⟩
  cases e with
  |returned u=>exact k _ _ q
  |panicked p=>exact q _ (mJ.refl _ _)
  |outgrown=>exact q
 rw[h];refine⟨hd,d.mono fun e w' q=>?_⟩
 cases e with
 |returned u=>exact k _ _ q
 |panicked p=>exact q _ (mJ.refl _ _)
 |outgrown=>exact q
def DX(E:Env)(ops:Array Oper)(eff stg:List Nat)(Q:Post):List Nat->List Asn->Hl->List Asn->Act->Prop
 | [],S,K,M,a=>∀w,In E.w0 E.F K (S++M) w->Q .normal a w
 |i::r,S,K,M,a=>
  match ops[i]? with
  |none=>False
  |some o=>
   if Region.wanted o (yielded ops a.tmps)then
    if stg.contains i then
     ∀w,In E.w0 E.F K (S++M) w->Eff E.P ops o a w Q fun u x=>∃b c t,K.le b/\In E.w0 E.F b (c++t) x/\DX E ops eff stg Q r c b t (a.put o.dst u)
    else if eff.contains i then
     ∀w,In E.w0 E.F K (S++M) w->Eff E.P ops o a w Q fun u x=>∃b t,K.le b/\In E.w0 E.F b (S++t) x/\DX E ops eff stg Q r S b t (a.put o.dst u)
    else ∃v,(∀b t w,K.le b->In E.w0 E.F b (S++t) w->Eff E.P ops o a w Q fun u x=>u=v/\In E.w0 E.F b (S++t) x)/\DX E ops eff stg Q r S K M (a.put o.dst v)
   else DX E ops eff stg Q r S K M (a.put o.dst undef)
def F3(o:Oper):Bool:=match o.op with| .select _ _=>false|_=>true
def D8{o:Oper}(h:F3 o=true):∀cs b,o.op≠.select cs b:=by
 intro cs b e;simp[F3,e]at h
def UC{E:Env}{ops:Array Oper}{eff stg:List Nat}{S:List Asn}{Q:Post}{i:Nat}{r:List Nat}{K:Hl}{M:List Asn}{f e:Oper}
  (y:ops[x]?=some f) (hi:ops[i]?=some e) (C:f.apart ops e=true) (L:F3 f=true) (I:F3 e=true) (F:eff.contains x=false) (H:stg.contains x=false) (G:stg.contains i=false)
  (h:DX E ops eff stg Q (x::i::r) S K M a):DX E ops eff stg Q (i::x::r) S K M a:=by
 obtain⟨W,h2,h3⟩:=Oper.apart_spec C;have sx:=D8 L;have si:=D8 I;have p:∀(v u:Value),((a.put f.dst v).put e.dst u)=((a.put e.dst u).put f.dst v):=fun v u=>Act.put_comm a v u h2
 have wx:∀(u:Value),Region.wanted f (yielded ops (a.put e.dst u).tmps)=Region.wanted f (yielded ops a.tmps):=fun u=>wanted_put f a e.dst u h3
 have wi:∀(u:Value),Region.wanted e (yielded ops (a.put f.dst u).tmps)=Region.wanted e (yielded ops a.tmps):=fun u=>wanted_put e a f.dst u W
 have ex:∀(u:Value),execOp (a.put e.dst u).eval f=execOp a.eval f:=fun u=>execOp_put f sx a e.dst u h3
 have B:∀(u:Value),execOp (a.put f.dst u).eval e=execOp a.eval e:=fun u=>execOp_put e si a f.dst u W
 simp only[DX,y,hi,F,H,G,Bool.false_eq_true,if_false]at h ⊢
 by_cases A:Region.wanted f (yielded ops a.tmps)=true
 ·simp only[A,if_true]at h;obtain⟨v,hv,h⟩:=h;rw[wi v]at h;have d:∀(u:Value) (b:Hl) (t:List Asn),K.le b->DX E ops eff stg Q r S b t ((a.put f.dst v).put e.dst u)->
    (if Region.wanted f (yielded ops (a.put e.dst u).tmps)=true then
     ∃v,(∀c g w,b.le c->In E.w0 E.F c (S++g) w->Eff E.P ops f (a.put e.dst u) w Q fun u z=>u=v/\In E.w0 E.F c (S++g) z)/\DX E ops eff stg Q r S b t ((a.put e.dst u).put f.dst v)
     else DX E ops eff stg Q r S b t ((a.put e.dst u).put f.dst undef)):=by
   intro u b t le l;rw[wx u,x7 A];refine⟨v,fun c g w P j=>?_,?_⟩
   ·exact(hv c g w (Hl.le_trans le P) j).congr (ex u) (mJ.put hi a u)
   rw[<-p];exact l
  by_cases q:Region.wanted e (yielded ops a.tmps)=true
  ·simp only[q,if_true]at h ⊢
   by_cases s:eff.contains i=true
   ·simp only[s,if_true]at h ⊢;intro w j;refine((h w j).congr (B v).symm (mJ.put y a v).symm).mono fun u z ⟨b,t,le,O,l⟩=>⟨b,t,le,O,d u b t le l⟩
   simp only[s,Bool.false_eq_true,if_false]at h ⊢;obtain⟨u,N,l⟩:=h;refine⟨u,fun b t w le j=>?_,d u K M (Hl.le_refl _) l⟩
   exact(N b t w le j).congr (B v).symm (mJ.put y a v).symm
  exact gF3
 simp only[A,if_false,Bool.false_eq_true]at h;rw[wi undef]at h;have d:∀(u:Value) (b:Hl) (t:List Asn),K.le b->DX E ops eff stg Q r S b t ((a.put f.dst undef).put e.dst u)->
   (if Region.wanted f (yielded ops (a.put e.dst u).tmps)=true then
    ∃v,(∀c g w,b.le c->In E.w0 E.F c (S++g) w->Eff E.P ops f (a.put e.dst u) w Q fun u z=>u=v/\In E.w0 E.F c (S++g) z)/\DX E ops eff stg Q r S b t ((a.put e.dst u).put f.dst v)
    else DX E ops eff stg Q r S b t ((a.put e.dst u).put f.dst undef)):=by
  intro u b t le l;rw[wx u,x6 A,<-p];exact l
 by_cases q:Region.wanted e (yielded ops a.tmps)=true
 ·simp only[q,if_true]at h ⊢
  by_cases s:eff.contains i=true
  ·simp only[s,if_true]at h ⊢;intro w j;refine((h w j).congr (B undef).symm (mJ.put y a undef).symm).mono fun u z ⟨b,t,le,O,l⟩=>⟨b,t,le,O,d u b t le l⟩
  simp only[s,Bool.false_eq_true,if_false]at h ⊢;obtain⟨u,N,l⟩:=h;refine⟨u,fun b t w le j=>?_,d u K M (Hl.le_refl _) l⟩
  exact(N b t w le j).congr (B undef).symm (mJ.put y a undef).symm
 exact gF3
def Js(ops:Array Oper)(eff stg:List Nat)(x i:Nat):Bool:=
 match ops[x]?,ops[i]? with
 |some f,some e=>!stg.contains x&&!stg.contains i&&!eff.contains x&&f.apart ops e&&F3 f&&F3 e
 |_,_=>false
def Gz{E:Env}{ops:Array Oper}{eff stg:List Nat}{S:List Asn}{Q:Post}{r f:List Nat}(k:∀S K M a,DX E ops eff stg Q r S K M a->DX E ops eff stg Q f S K M a){K:Hl}{M:List Asn}
  (h:DX E ops eff stg Q (x::r) S K M a):DX E ops eff stg Q (x::f) S K M a:=by
 unfold DX at h ⊢;cases e:ops[x]? with
 |none=>simp[e]at h
 |some o=>
  simp only[e]at h ⊢;split
  ·rename_i c;rw[x7 c]at h;split
   ·rename_i W;rw[x7 W]at h;exact fun w j=>(h w j).mono fun u l ⟨b,g,t,le,y,i⟩=>⟨b,g,t,le,y,k _ _ _ _ i⟩
   rename_i W;rw[x6 W]at h;split
   ·rename_i d;rw[x7 d]at h;exact fun w j=>(h w j).mono fun u l ⟨b,t,le,y,i⟩=>⟨b,t,le,y,k _ _ _ _ i⟩
   rename_i d;rw[x6 d]at h;obtain⟨v,H,i⟩:=h;exact⟨v,H,k _ _ _ _ i⟩
  rename_i c;rw[x6 c]at h;exact k _ _ _ _ h
def HR{E:Env}{ops:Array Oper}{eff stg:List Nat}{Q:Post}{i:Nat}{W:List Nat}:∀(r1:List Nat) {S:List Asn} {K:Hl} {M:List Asn} {a:Act},
  (∀x∈r1,Js ops eff stg x i=true)->DX E ops eff stg Q (r1++i::W) S K M a->DX E ops eff stg Q (i::(r1++W)) S K M a
 | [],_,_,_,_,_,h=>h
 |x::r1,S,K,M,a,c,h=>by
  have d:DX E ops eff stg Q (x::i::(r1++W)) S K M a:=Gz (fun _ _ _ _=>HR r1 fun y t=>c y (List.mem_cons_of_mem _ t)) h;have r:=c x (List.mem_cons_self ..);unfold Js at r;cases b:ops[x]? with
  |none=>simp[b]at r
  |some f=>
   cases p:ops[i]? with
   |none=>simp[b,p]at r
   |some e=>
    simp only[b,p,Bool.and_eq_true,Bool.not_eq_true']at r;exact UC b p r.1.1.2 r.1.2 r.2 r.1.1.1.2 r.1.1.1.1.1 r.1.1.1.1.2 d
def upto(anc:List Nat):List Edge->Nat
 | []=>0
 |e::H=>if Region.binds .any e then (2^e.on|||anc.getD e.on 0)|||upto anc H else upto anc H
def EZ(anc:List Nat):List Oper->Nat->Bool
 | [],_=>true
 |o::s,i=>(o.after.toList.all fun e=>!Region.binds .any e||Nat.blt e.on i)&&((anc.getD i 0|||upto anc o.after.toList)==upto anc o.after.toList)&&EZ anc s (i+1)
def pwB(ops:Array Oper)(eff stg anc:List Nat):List Nat->Bool
 | []=>true
 |x::r=>(r.all fun i=>(anc.getD i 0).testBit x||Js ops eff stg x i)&&!r.contains x&&pwB ops eff stg anc r
def MD(l:List Oper)(eff stg anc ord:List Nat):Bool:=
 EZ anc l 0&&pwB l.toArray eff stg anc ord&&(List.range l.length).all ord.contains&&ord.all (Nat.blt · l.length)&&Nat.beq ord.length l.length
def E3{anc:List Nat}{x:Nat}:∀ {H:List Edge},(upto anc H).testBit x=true->∃e∈H,Region.binds .any e=true/\(x=e.on\/(anc.getD e.on 0).testBit x=true)
 | [],h=>by simp[upto]at h
 |e::H,h=>by
  unfold upto at h;split at h
  ·rename_i r;rw[Nat.testBit_or,Nat.testBit_or]at h;simp only[Bool.or_eq_true,Nat.testBit_two_pow,decide_eq_true_eq]at h;rcases h with (h|h)|h
   ·exact⟨e,List.mem_cons_self ..,r,.inl h.symm⟩
   ·exact⟨e,List.mem_cons_self ..,r,.inr h⟩
   exact gG6
  exact gG6
def CS{anc:List Nat}:∀ {os:List Oper} {j:Nat},EZ anc os j=true->∀ {i:Nat} {o:Oper},os[i]?=some o->
  (∀e∈o.after.toList,Region.binds .any e=true->e.on<j+i)/\∀x,(anc.getD (j+i) 0).testBit x=true->(upto anc o.after.toList).testBit x=true
 | [],_,_,_,_,h=>by simp at h
 |o::os,j,h,i,f,a=>by
  simp only[EZ,Bool.and_eq_true,List.all_eq_true,Bool.or_eq_true,Bool.not_eq_true',beq_iff_eq]at h;obtain⟨⟨c,d⟩,l⟩:=h;cases i with
  |zero=>
   simp at a;subst a
   refine⟨fun e A r=>?_,fun x b=>?_⟩
   ·rcases c e A with q|q
    ·rw[r]at q;cases q
    simp[Nat.blt]at q;omega
   rw[<-d,Nat.testBit_or];simp only[Nat.add_zero]at b;rw[b];rfl
  |succ i=>
   have:=CS (j:=j+1) l (i:=i) (o:=f) (by simpa using a);have e:j+(i+1)=j+1+i:=aH;rw[e];exact this
def Down(ops:Array Oper)(listed:Array Bool):Prop:=
 ∀(i:Nat) (o:Oper),listed.getD i true=true->ops[i]?=some o->∀e∈o.after.toList,Region.binds .any e=true->listed.getD e.on false=true
def Bu{ops:Array Oper}{i:Nat}:i∈Region.ready .any ops listed↔
  i<ops.size/\listed.getD i true=false/\∃o,ops[i]?=some o/\∀e∈o.after.toList,Region.binds .any e=true->listed.getD e.on false=true:=by
 unfold Region.ready;simp only[List.mem_filter,List.mem_range,Bool.and_eq_true,Bool.not_eq_true']
 constructor
 ·rintro⟨h,b,l⟩;refine⟨h,b,?_⟩
  cases q:ops[i]? with
  |none=>simp[q]at l
  |some o=>
   refine⟨o,Y,fun e A r=>?_⟩
   simp only[q,Option.map_some,Option.getD_some,Array.all_eq_true_iff_forall_mem]at l;have:=l e (by simpa using A)
   simpa[r]using this
 rintro⟨h,b,o,q,l⟩;refine⟨h,b,?_⟩
 simp only[q,Option.map_some,Option.getD_some,Array.all_eq_true_iff_forall_mem];intro e A
 by_cases r:Region.binds .any e=true
 ·simp[r,l e (by simpa using A) r]
 simp[r]
def JK(j:EZ anc l 0=true)(b:listed.size=l.length)(hd:Down l.toArray listed){i:Nat}{o:Oper}(q:l[i]?=some o)
  (a:∀e∈o.after.toList,Region.binds .any e=true->listed.getD e.on false=true) (c:(anc.getD i 0).testBit x=true):listed.getD x false=true:=by
 have L:∀(n i:Nat) (o:Oper),i=n->l[i]?=some o->(∀e∈o.after.toList,Region.binds .any e=true->listed.getD e.on false=true)->(anc.getD i 0).testBit x=true->listed.getD x false=true:=by
  intro n;induction n using Nat.strongRecOn with
  |_ n w=>
   rintro i o rfl q a c;obtain⟨f,g⟩:=CS j q;simp only[Nat.zero_add]at f g;obtain⟨e,A,r,d⟩:=E3 (g x c);rcases d with rfl|d
   ·exact a e A r
   have G:=f e A r;have Q:i<l.length:=by
    rcases xAD i l.length with h|h
    ·exact h
    simp[List.getElem?_eq_none h]at q
   have v:l[e.on]?=some l[e.on]:=by simp[List.getElem?_eq_getElem (Nat.lt_trans G Q)]
   have N:=a e A r;refine w e.on G e.on l[e.on] Y v ?_ d
   refine hd e.on l[e.on] ?_ (by simp[Nat.lt_trans G Q])
   rw[xA9]at N ⊢;have:e.on<listed.size:=by rw[b];exact Nat.lt_trans G Q
   simpa[Array.getElem?_eq_getElem this]using N
 exact L i i o Y q a c
def F8{ops:Array Oper}{eff stg anc:List Nat}:∀ {r:List Nat},pwB ops eff stg anc r=true->r.Nodup/\∀(r1:List Nat) (i:Nat) (W:List Nat),r=r1++i::W->∀x∈r1,(anc.getD i 0).testBit x=true\/Js ops eff stg x i=true
 | [],_=>⟨List.nodup_nil,fun r1 i W e=>by simp at e⟩
 |y::r,h=>by
  simp only[pwB,Bool.and_eq_true,List.all_eq_true,Bool.or_eq_true,Bool.not_eq_true']at h;obtain⟨⟨b,c⟩,l⟩:=h;obtain⟨n,q⟩:=F8 l;refine⟨List.nodup_cons.2 ⟨by simpa using c,n⟩,?_⟩
  intro r1 i W e x a;cases r1 with
  |nil=>simp at a
  |cons z r1=>
   simp only[List.cons_append,List.cons.injEq]at e;obtain⟨rfl,rfl⟩:=e;rcases List.mem_cons.1 a with rfl|a
   ·exact b i cD
   exact q r1 i W Y x a
def DB{ops:Array Oper}{eff stg anc:List Nat}(p:Nat->Bool):∀ {r:List Nat},pwB ops eff stg anc r=true->pwB ops eff stg anc (r.filter p)=true
 | [],_=>rfl
 |y::r,h=>by
  simp only[pwB,Bool.and_eq_true,List.all_eq_true,Bool.or_eq_true,Bool.not_eq_true']at h;obtain⟨⟨a,b⟩,l⟩:=h;have w:=DB p l;simp only[List.filter_cons];split
  ·simp only[pwB,Bool.and_eq_true,List.all_eq_true,Bool.or_eq_true,Bool.not_eq_true',w,and_true];refine⟨fun i c=>a i (List.mem_filter.1 c).1,?_⟩
   simp at b ⊢;exact fun h=>absurd h b
  exact w
def EV{E:Env}{eff stg:List Nat}{Q:Post}(hA:EZ anc l 0=true)(hP:pwB l.toArray eff stg anc ord=true)(A:∀i,i<l.length->i∈ord)(jb:∀i∈ord,i<l.length):
  ∀(fuel:Nat) (listed:Array Bool) (r:List Nat) (S:List Asn) (K:Hl) (M:List Asn) (a:Act) (w:World),listed.size=l.length->r=ord.filter (fun i=>!listed.getD i true)->fuel=r.length->Down l.toArray listed->
   DX E l.toArray eff stg Q r S K M a->In E.w0 E.F K (S++M) w->wpAnyIn Fence.wide 0 E.P .any l.toArray Q fuel listed a w:=by
 intro fuel;induction fuel with
 |zero=>
  intro listed r S K M a w f d hf hd h j;have jv:r=[]:=xA7.1 hf.symm;subst jv;have ja:∀i,i<l.length->listed.getD i true=true:=by
   intro i p;cases g:listed.getD i true with
   |true=>rfl
   |false=>
    have:i∈ord.filter (fun i=>!listed.getD i true):=List.mem_filter.2 ⟨A i p,by rw[g];rfl⟩;rw[<-d]at this;simp at this
  refine⟨?_,h w j⟩
  refine List.eq_nil_iff_forall_not_mem.2 fun i p=>?_;obtain⟨W,P,_⟩:=Bu.1 p;rw[ja i (by simpa using W)]at P;cases P
 |succ fuel ih=>
  intro listed r S K M a w f d hf hd h j;have js:r≠[]:=by rintro rfl;simp at hf
  refine⟨fun h0=>?_,fun i p=>?_⟩
  ·exfalso
   have qa:∀(n i:Nat),i=n->i<l.length->listed.getD i true=false->False:=by
    intro n;induction n using Nat.strongRecOn with
    |_ n jz=>
     rintro i rfl b g;have p:i∈Region.ready .any l.toArray listed:=by
      refine Bu.2 ⟨by simpa using b,g,l[i],by simp[List.getElem?_eq_getElem b],fun e B jk=>?_⟩
      have G:=(CS hA (i:=i) (o:=l[i]) (by simp[List.getElem?_eq_getElem b])).1 e B jk;simp only[Nat.zero_add]at G;have jq:e.on<listed.size:=by rw[f];exact Nat.lt_trans G b
      cases hc:listed.getD e.on true with
      |false=>exact absurd hc (fun hc=>jz e.on G e.on Y (Nat.lt_trans G b) hc)
      |true=>
       rw[xA9]at hc ⊢
       simpa[Array.getElem?_eq_getElem jq]using hc
     rw[h0]at p;simp at p
   obtain⟨i,p⟩:=List.exists_mem_of_ne_nil r js;rw[d]at p;obtain⟨W,P⟩:=List.mem_filter.1 p;exact qa i i Y (jb i W) (by simpa using P)
  obtain⟨W,P,o,ho,h3⟩:=Bu.1 p;have b:i<l.length:=by simpa using W
  have jt:l[i]?=some o:=by simpa using ho
  have jf:i∈r:=by rw[d];exact List.mem_filter.2 ⟨A i b,by rw[P];rfl⟩
  obtain⟨O,r2,N⟩:=List.append_of_mem jf;have jj:pwB l.toArray eff stg anc r=true:=by rw[d];exact DB _ hP
  obtain⟨jg,hq⟩:=F8 jj;have jw:∀x∈O,Js l.toArray eff stg x i=true:=by
   intro x hx;rcases hq O i r2 N x hx with g|g
   ·exfalso
    have F:=JK hA f hd jt h3 g;have ji:x∈r:=by rw[N];simp[hx]
    rw[d]at ji;obtain⟨jx,H⟩:=List.mem_filter.1 ji;have jy:x<listed.size:=by rw[f];exact jb x jx
    rw[xA9]at F;simp[Array.getElem?_eq_getElem jy]at F H;rw[F]at H;cases H
   exact g
  rw[N]at h;have s:=HR O jw h;have jc:i<listed.size:=by rw[f];exact b
  have ju:O++r2=ord.filter (fun k=>!(listed.setIfInBounds i true).getD k true):=by
   have jh:∀k,(listed.setIfInBounds i true).getD k true=(if k=i then true else listed.getD k true):=by
    intro k;rw[xA9,xA9,Array.getElem?_setIfInBounds]
    by_cases c:i=k
    ·subst c;simp[jc]
    simp[c,Ne.symm c]
   have e1:ord.filter (fun k=>!(listed.setIfInBounds i true).getD k true)=r.filter (fun k=>k !=i):=by
    rw[d,List.filter_filter];refine List.filter_congr fun k _=>?_;rw[jh k]
    by_cases c:k=i
    ·subst c;simp
    simp[c]
   rw[e1,N,List.filter_append,List.filter_cons];rw[N]at jg;have hn:=List.nodup_append.1 jg;have jr:=List.nodup_cons.1 hn.2.1;simp only[bne_self_eq_false,Bool.false_eq_true,if_false];rw[List.filter_eq_self.2,List.filter_eq_self.2]
   ·intro k c;simp only[bne_iff_ne];rintro rfl;exact jr.1 c
   intro k c;simp only[bne_iff_ne];rintro rfl;exact hn.2.2 k c k (List.mem_cons_self ..) Y
  have jl:Down l.toArray (listed.setIfInBounds i true):=by
   intro k ok c C e B g;have up:listed.getD e.on false=true->(listed.setIfInBounds i true).getD e.on false=true:=by
    intro q;rw[xA9]at q ⊢;rw[Array.getElem?_setIfInBounds]
    by_cases c:i=e.on
    ·subst c;simp[jc]
    simpa[c]using q
   by_cases jd:k=i
   ·subst jd;rw[ho]at C;cases C
    exact up (h3 e B g)
   refine up (hd k ok ?_ C e B g)
   rw[xA9]at c ⊢;rw[Array.getElem?_setIfInBounds,x6 (Ne.symm jd)]at c;exact c
  have je:fuel=(O++r2).length:=by
   have:=xAF List.length N;simp at this hf ⊢;omega
  have step:∀L y z a' t,DX E l.toArray eff stg Q (O++r2) L y z a'->In E.w0 E.F y (L++z) t->wpAnyIn Fence.wide 0 E.P .any l.toArray Q fuel (listed.setIfInBounds i true) a' t:=
   fun L y z a' t jp I=>ih _ (O++r2) L y z a' t (by simp[f]) ju je jl jp I
  unfold wpOpIn;simp only[ho];unfold DX at s;simp only[ho]at s
  by_cases hw:Region.wanted o (yielded l.toArray a.tmps)=true
  ·simp only[hw,if_true]at s ⊢
   by_cases hg:stg.contains i=true
   ·simp only[hg,if_true]at s;exact((s w j).wp fun u t ⟨y,L,z,le,I,d⟩=>step L y z _ t d I)
   simp only[hg,if_false,Bool.false_eq_true]at s
   by_cases B:eff.contains i=true
   ·simp only[B,if_true]at s;exact((s w j).wp fun u t ⟨y,z,le,I,d⟩=>step S y z _ t d I)
   simp only[B,if_false,Bool.false_eq_true]at s;obtain⟨v,hv,d⟩:=s;exact((hv K M w (Hl.le_refl _) j).wp fun u t ⟨e,I⟩=>by subst e;exact step S K M _ t d I)
  simp only[hw,if_false,Bool.false_eq_true]at s ⊢;exact⟨fun _ _=>trivial,step S K M _ w s j⟩
def Kn{E:Env}{eff stg:List Nat}{S M:List Asn}{Q:Post}{K:Hl}(B:E.P.follows .mixedOrders=true)(f:MD l eff stg anc ord=true)
  (h:DX E l.toArray eff stg Q ord S K M a) (j:In E.w0 E.F K (S++M) w):(Code.region id l.toArray true).wp E.P Q a w:=by
 simp only[MD,Bool.and_eq_true,List.all_eq_true]at f;obtain⟨⟨⟨⟨q,y⟩,b⟩,d⟩,N⟩:=f;refine wpIn_wide.1 (wpIn_region_any (n:=0) B ?_)
 have c:ord.filter (fun i=>!(Array.replicate l.toArray.size false).getD i true)=ord:=by
  refine List.filter_eq_self.2 fun i p=>?_;have:i<l.length:=by have:=d i p;simp[Nat.blt]at this;omega
  rw[xA9];simp[this]
 have e:ord.length=l.toArray.size:=by simpa using Nat.eq_of_beq_eq_true N
 refine EV (E:=E) (eff:=eff) (stg:=stg) (anc:=anc) (ord:=ord) q y (fun i p=>by have:=b i (List.mem_range.2 p);simpa using this) (fun i p=>by have:=d i p;simp[Nat.blt]at this;omega) l.toArray.size _ ord S K M a _ cD c.symm e.symm ?_ h (j.drew _)
 intro k ok g f;rw[xA9]at g;have:k<l.toArray.size:=by
  rcases xAD k l.toArray.size with h|h
  ·exact h
  rw[Array.getElem?_eq_none h]at f;cases f
 simp at this;simp[this]at g
def In.weaken{K a:Hl}{L:List Asn}(le:K.le a)(i:In w0 F a L w):In w0 F K L w:=by
 obtain⟨h,f,c,d,S,G,H,g⟩:=i.rep;have s:∀x,a x=none->K x=none:=by
  intro x b;cases e:K x with
  |none=>rfl
  |some o=>rw[le x o e]at b;cases b
 exact⟨i.os,i.tape,i.output,i.size,h,f,fun x=>(c x).imp_right (s x),d,fun x=>(S x).imp_left (s x),G,Hl.le_trans le H,g⟩
def In.left{K:Hl}{S M:List Asn}(i:In w0 F K (S++M) w):In w0 F K S w:=by
 obtain⟨h,f,b,c,d,G,H,x⟩:=i.rep;obtain⟨a,n,s,u,e,rfl⟩:=eT.1 f;exact⟨i.os,i.tape,i.output,i.size,a,s,b,(Hl.dj_join.1 c).1,(Hl.dj_join.1 d).1,G,H,Hl.le_join_left x⟩
def aV{E:Env}{x:Exit}{fr:Fr}{K:Hl}{L M:List Asn}{Q:Post}(v:Tks As L M)(h:D E x fr K As Q):D E x fr K L Q:=fun a w f i=>h a w f (i.imp v.sat).left
def l9{E:Env}{c:Code}{fr:Fr}{K:Hl}{L M:List Asn}{Q:Post}(v:Tks As L M)(h:T E c fr K As Q):T E c fr K L Q:=fun a w f i=>h a w f (i.imp v.sat).left
def Lb{E:Env}{ops:Array Oper}{fr:Fr}{K:Hl}{L M:List Asn}{Q:Post}(v:Tks As L M)(h:OL E ops l fr K As Q):OL E ops l fr K L Q:=fun a w f i=>h a w f (i.imp v.sat).left
def DL(E:Env)(ops:Array Oper)(eff stg:List Nat)(S:List Asn)(r:List Nat)(fr:Fr)(K:Hl)(M:List Asn)(Q:Post):Prop:=
 ∀a,FrOk E.n E.ds fr a->DX E ops eff stg Q r S K M a
inductive GOk (ops:Array Oper) (fr:Fr) (o:Oper):Bool->Prop where
 |none:o.guard=.none->GOk ops fr o true
 |on {g dg:Nat} {c:Bool}:o.guard=some (g,c)->(ops[g]?).bind (·.dst)=some dg->fr.get dg=some (.bool c)->GOk ops fr o true
 |off {g dg:Nat} {c:Bool}:o.guard=some (g,c)->(ops[g]?).bind (·.dst)=some dg->fr.get dg=some (.bool (!c))->GOk ops fr o false
 |offu {g dg:Nat} {c:Bool}:o.guard=some (g,c)->(ops[g]?).bind (·.dst)=some dg->fr.get dg=some undef->GOk ops fr o false
def GOk.wanted{ops:Array Oper}{fr:Fr}{o:Oper}{b:Bool}(h:GOk ops fr o b){n:Nat}(f:FrOk n ds fr a):Region.wanted o (yielded ops a.tmps)=b:=by
 cases h with
 |none h=>simp[Region.wanted,h]
 |on c d l=>simp[Region.wanted,c,yielded,d,f.get _ _ l]
 |off c d l=>simp[Region.wanted,c,yielded,d,f.get _ _ l]
 |offu c d l=>simp[Region.wanted,c,yielded,d,f.get _ _ l,undef]
section
variable{E:Env}{ops:Array Oper}{eff stg:List Nat}{S:List Asn}{r:List Nat}{fr:Fr}{K:Hl}{M L:List Asn}{Q:Post}{i:Nat}{o:Oper}
def qK(eff stg:List Nat)(B:E.P.follows .mixedOrders=true)(b:MD l eff stg anc ord=true)(v:Tks S L M)
  (h:DL E l.toArray eff stg S ord fr K M Q):T E (.region id l.toArray true) fr K L Q:=
 fun a w f j=>Kn B b (h a f) (j.imp v.sat)
def ancs(l:List Oper):List Nat:=l.foldl (fun anc o=>anc++[upto anc o.after.toList]) []
def ixs:List Oper->Nat->List Nat
 | [],_=>[]
 |_::l,i=>i::ixs l (i+1)
def cN(eff stg:List Nat)(B:E.P.follows .mixedOrders=true)(f:MD l eff stg (ancs l) (ixs l 0)=true)(v:Tks S L M)
  (h:DL E l.toArray eff stg S (ixs l 0) fr K M Q):T E (.region id l.toArray true) fr K L Q:=qK eff stg B f v h
def cI(h:D E .normal fr K (S++M) Q):DL E ops eff stg S [] fr K M Q:=fun a f w j=>h a w f j
def aJ(q:ops[i]?=some o)(hd:o.dst=some d)(H:GOk ops fr o true)(b:stg.contains i=false)(A:eff.contains i=false)(hv:Ev E fr K S o v)(u:Nat.blt d E.n=true)
  (h:DL E ops eff stg S r ((d,v)::fr) K M Q):DL E ops eff stg S (i::r) fr K M Q:=by
 intro a f;unfold DX;simp only[q,H.wanted f,if_true,b,A,Bool.false_eq_true,if_false];refine⟨v,fun c t w le j=>.inl ⟨v,w,hv a w f (j.left.weaken le),Y,j⟩,?_⟩
 rw[hd];exact h _ (f.put u v)
def bB(q:ops[i]?=some o)(hd:o.dst=some d)(H:GOk ops fr o false)(u:Nat.blt d E.n=true)(h:DL E ops eff stg S r ((d,undef)::fr) K M Q):DL E ops eff stg S (i::r) fr K M Q:=by
 intro a f;unfold DX;simp only[q,H.wanted f,Bool.false_eq_true,if_false];rw[hd];exact h _ (f.put u undef)
def s6(z:ops[i]?=some o)(hd:o.dst=some d)(H:GOk ops fr o true)(e:stg.contains i=false)(A:eff.contains i=true)(hv:EfS E fr K (S++M) o N)(p:Nat.blt d E.n=true)
  (h:∀v b L',N v b L'->K.le b->∃t,(∀x,Sat L' x->Sat (S++t) x)/\DL E ops eff stg S r ((d,v)::fr) b t Q):DL E ops eff stg S (i::r) fr K M Q:=by
 intro a f;unfold DX;simp only[z,H.wanted f,if_true,e,A,Bool.false_eq_true,if_false];intro w j;obtain⟨u,q,b,L',c,s,le,y⟩:=hv a w f j;obtain⟨t,l,g⟩:=h u b L' s le;rcases c with c|⟨c,rfl⟩
 ·exact .inl ⟨u,q,c,b,t,le,y.imp l,by rw[hd];exact g _ (f.put p u)⟩
 exact .inr (.inl ⟨q,c,b,t,le,y.imp l,by rw[hd];exact g _ (f.put p undef)⟩)
def gY
  (q:ops[i]?=some ⟨some d,.call ⟨.value fv,xs.toArray,ats⟩,ty,pos,aft,g⟩) (H:GOk ops fr ⟨some d,.call ⟨.value fv,xs.toArray,ats⟩,ty,pos,aft,g⟩ true) (c:stg.contains i=false) (A:eff.contains i=true)
  (p:fr.ev fv=some (.func (.func f) #[] caps)) (t:fr.evs xs=some vs) (l:Sp E.P f (vs++caps.toList) K [] (Val v K)) (u:Nat.blt d E.n=true)
  (h:DL E ops eff stg S r ((d,v)::fr) K M Q):DL E ops eff stg S (i::r) fr K M Q:=by
 intro a s;unfold DX;simp only[q,H.wanted s,if_true,c,A,Bool.false_eq_true,if_false];intro w j;obtain⟨F,x,b⟩:=In.hide (L:=[]) (N:=S++M) j;refine .inr (.inr (.inl ⟨f,_,w,tE p t l s w,(l.2 F w x).mono fun e O ⟨G,I,⟨z,C,B⟩,le,y⟩=>?_⟩))
 subst z;subst C;subst B
 exact⟨_,M,Hl.le_refl _,b y,h _ (s.put u v)⟩
def vE
  (y:ops[i]?=some ⟨some d,.call ⟨.value fv,xs.toArray,ats⟩,ty,pos,aft,g⟩) (H:GOk ops fr ⟨some d,.call ⟨.value fv,xs.toArray,ats⟩,ty,pos,aft,g⟩ true) (l:stg.contains i=false) (A:eff.contains i=false)
  (u:fr.ev fv=some (.func (.func f) #[] caps)) (z:fr.evs xs=some vs) (q:∀c,K.le c->Sp E.P f (vs++caps.toList) c [] (Val v c)) (x:Nat.blt d E.n=true)
  (h:DL E ops eff stg S r ((d,v)::fr) K M Q):DL E ops eff stg S (i::r) fr K M Q:=by
 intro a s;unfold DX;simp only[y,H.wanted s,if_true,l,A,Bool.false_eq_true,if_false];refine⟨v,fun p t w le j=>?_,h _ (s.put x v)⟩
 obtain⟨F,B,b⟩:=In.hide (L:=[]) (N:=S++t) j;refine .inr (.inr (.inl ⟨f,_,w,tE u z (q p le) s w,((q p le).2 F w B).mono fun e w' ⟨c,W,⟨I,O,P⟩,G,C⟩=>?_⟩))
 subst I;subst O;subst P
 exact⟨Y,b C⟩
def Hn{args:List Value}{K:Hl}(h:Sp P f args K [] (Ret fun r a L'=>r=v/\L'=[])):Sp P f args K [] (Val v K):=
 ⟨h.1,fun F w i=>(h.2 F w i).mono fun e x ⟨a,L',⟨r,b,c,l⟩,le,j⟩=>by subst b;subst c;subst l;exact⟨K,[],⟨Y,Y,Y⟩,Hl.le_refl _,j.weaken le⟩⟩
def Ah
  (P:ops[i]?=some ⟨some d,.call ⟨.value fv,xs.toArray,ats⟩,ty,pos,aft,g⟩) (N:GOk ops fr ⟨some d,.call ⟨.value fv,xs.toArray,ats⟩,ty,pos,aft,g⟩ true) (z:stg.contains i=false) (I:eff.contains i=true)
  (L:fr.ev fv=some (.func (.func f) #[] caps)) (W:fr.evs xs=some vs) (A:Sp E.P f (vs++caps.toList) K L1 R) (G:Tks L1 (S++M) L2) (O:Nat.blt d E.n=true)
  (l:∀b L',¬R .outgrown b L')
  (p:∀s b L',R (.panicked s) b L'->K.le b->∀a w,a.defers=E.ds->In E.w0 E.F b (L'++L2) w->Q (.panic s) a w)
  (h:∀v b L',R (.returned v) b L'->K.le b->∃t,(∀x,Sat (L'++L2) x->Sat (S++t) x)/\DL E ops eff stg S r ((d,v)::fr) b t Q):DL E ops eff stg S (i::r) fr K M Q:=by
 intro a u;unfold DX;simp only[P,N.wanted u,if_true,z,I,Bool.false_eq_true,if_false];intro w j;obtain⟨F,i1,c⟩:=(j.imp G.sat).hide;refine .inr (.inr (.inl ⟨f,_,w,tE L W A u w,(A.2 F w i1).mono fun e w' ⟨b,L',q,le,B⟩=>?_⟩))
 cases e with
 |returned v=>
  obtain⟨t,H,C⟩:=h v b L' q le;exact⟨b,t,le,(c B).imp H,C _ (u.put O v)⟩
 |panicked s=>exact fun a' y=>p s b L' q le a' w' (y.1.trans u.defers) (c B)
 |outgrown=>exact absurd q (l _ _)
def Mp
  (q:ops[i]?=some ⟨some d,.call ⟨.value fv,xs.toArray,ats⟩,ty,pos,aft,g⟩) (H:GOk ops fr ⟨some d,.call ⟨.value fv,xs.toArray,ats⟩,ty,pos,aft,g⟩ true) (b:stg.contains i=false) (A:eff.contains i=true)
  (j:fr.ev fv=some (.func (.func f) #[] caps)) (s:fr.evs xs=some vs) (p:Sp E.P f (vs++caps.toList) K L1 (Ret N)) (c:Tks L1 (S++M) L2) (l:Nat.blt d E.n=true)
  (h:∀v a L',N v a L'->K.le a->∃t,(∀x,Sat (L'++L2) x->Sat (S++t) x)/\DL E ops eff stg S r ((d,v)::fr) a t Q):DL E ops eff stg S (i::r) fr K M Q:=
 Ah q H b A j s p c l (fun a L' ⟨u,e,n⟩=>by cases e) (fun w a L' ⟨u,e,n⟩=>by cases e) (fun v a L' ⟨u,e,n⟩ le=>by cases e;exact h v a L' n le)
def N8(q:ops[i]?=some o)(hd:o.dst=some d)(H:GOk ops fr o true)(A:stg.contains i=true)(hv:EfS E fr K (S++M) o N)(g:Nat.blt d E.n=true)
  (h:∀v b L',N v b L'->K.le b->DL E ops eff stg L' r ((d,v)::fr) b [] Q):DL E ops eff stg S (i::r) fr K M Q:=by
 intro a f;unfold DX;simp only[q,H.wanted f,if_true,A];intro w j;obtain⟨u,x,b,L',c,l,le,y⟩:=hv a w f j;have e:=h u b L' l le;rcases c with c|⟨c,rfl⟩
 ·exact .inl ⟨u,x,c,b,L',[],le,by simpa using y,by rw[hd];exact e _ (f.put g u)⟩
 exact .inr (.inl ⟨x,c,b,L',[],le,by simpa using y,by rw[hd];exact e _ (f.put g undef)⟩)
def l7(q:ops[i]?=some o)(hd:o.dst=none)(H:GOk ops fr o true)(A:stg.contains i=true)(hv:EfS E fr K (S++M) o N)
  (h:∀v b L',N v b L'->K.le b->DL E ops eff stg L' r fr b [] Q):DL E ops eff stg S (i::r) fr K M Q:=by
 intro a f;unfold DX;simp only[q,H.wanted f,if_true,A];intro w j;obtain⟨u,x,b,L',c,g,le,y⟩:=hv a w f j;have d:=h u b L' g le;rcases c with c|⟨c,rfl⟩
 ·exact .inl ⟨u,x,c,b,L',[],le,by simpa using y,by rw[hd];exact d _ f⟩
 exact .inr (.inl ⟨x,c,b,L',[],le,by simpa using y,by rw[hd];exact d _ f⟩)
def kO
  (G:ops[i]?=some ⟨some d,.call ⟨.value fv,xs.toArray,ats⟩,ty,pos,aft,g⟩) (H:GOk ops fr ⟨some d,.call ⟨.value fv,xs.toArray,ats⟩,ty,pos,aft,g⟩ true) (A:stg.contains i=true)
  (B:fr.ev fv=some (.func (.func f) #[] caps)) (I:fr.evs xs=some vs) (x:Sp E.P f (vs++caps.toList) K L1 R) (z:Tks L1 (S++M) L2) (C:Nat.blt d E.n=true)
  (l:∀b L',¬R .outgrown b L')
  (p:∀s b L',R (.panicked s) b L'->K.le b->∀a w,a.defers=E.ds->In E.w0 E.F b (L'++L2) w->Q (.panic s) a w)
  (h:∀v b L',R (.returned v) b L'->K.le b->DL E ops eff stg (L'++L2) r ((d,v)::fr) b [] Q):DL E ops eff stg S (i::r) fr K M Q:=by
 intro a t;unfold DX;simp only[G,H.wanted t,if_true,A];intro w j;obtain⟨F,L,c⟩:=(j.imp z.sat).hide;refine .inr (.inr (.inl ⟨f,_,w,tE B I x t w,(x.2 F w L).mono fun e N ⟨b,L',q,le,y⟩=>?_⟩))
 cases e with
 |returned v=>exact⟨b,L'++L2,[],le,by simpa using c y,h v b L' q le _ (t.put C v)⟩
 |panicked s=>exact fun a' u=>p s b L' q le a' N (u.1.trans t.defers) (c y)
 |outgrown=>exact absurd q (l _ _)
def W3(ops:Array Oper)(fr':Fr):Bool:=fr'.all fun p=>ops.toList.all fun o=>match o.dst with|some d=>!Nat.beq d p.1|none=>true
def Xy{fr:Fr}{k:Nat}(h:fr.get k=some v):∃p∈fr,p.1=k:=by
 induction fr with
 |nil=>cases h
 |cons p r w=>
  obtain⟨j,u⟩:=p;simp only[Fr.get]at h
  by_cases a:j=k
  ·exact⟨_,List.mem_cons_self ..,a⟩
  rw[JN a]at h;obtain⟨q,g,e⟩:=w h;exact⟨q,List.mem_cons_of_mem _ g,e⟩
def FrOk.alike{n:Nat}{fr:Fr}{ops:Array Oper}(f:FrOk n ds fr a)(k:Kp fr fr')(c:W3 ops fr'=true)(h:mJ ops a' a):FrOk n ds fr' a':=by
 have s:=f.keep k;refine⟨h.1.trans f.defers,h.2.1.trans f.size,fun j v e=>?_⟩
 obtain⟨p,hp,rfl⟩:=Xy e;rw[h.2.2 p.1 ?_];exact s.get _ _ e
 intro o q hd;have:=xB6.1 (xB6.1 c p hp) o q;rw[hd]at this;simp at this
def Kj
  (L:ops[i]?=some ⟨some d,.call ⟨.value fv,xs.toArray,ats⟩,ty,pos,aft,g⟩) (H:GOk ops fr ⟨some d,.call ⟨.value fv,xs.toArray,ats⟩,ty,pos,aft,g⟩ true) (B:stg.contains i=true)
  (C:fr.ev fv=some (.func (.func f) #[] caps)) (N:fr.evs xs=some vs) (y:Sp E.P f (vs++caps.toList) K L1 R) (A:Tks L1 (S++M) L2) (I:Nat.blt d E.n=true)
  (l:∀b L',¬R .outgrown b L') (G:Kp fr fr') (x:W3 ops fr'=true)
  (p:∀s b L',R (.panicked s) b L'->K.le b->D E (.panic s) fr' b (L'++L2) Q)
  (h:∀v b L',R (.returned v) b L'->K.le b->DL E ops eff stg (L'++L2) r ((d,v)::fr) b [] Q):DL E ops eff stg S (i::r) fr K M Q:=by
 intro a t;unfold DX;simp only[L,H.wanted t,if_true,B];intro w j;obtain⟨F,O,c⟩:=(j.imp A.sat).hide;refine .inr (.inr (.inl ⟨f,_,w,tE C N y t w,(y.2 F w O).mono fun e P ⟨b,L',q,le,z⟩=>?_⟩))
 cases e with
 |returned v=>exact⟨b,L'++L2,[],le,by simpa using c z,h v b L' q le _ (t.put I v)⟩
 |panicked s=>exact fun a' u=>p s b L' q le a' P (t.alike G x u) (c z)
 |outgrown=>exact absurd q (l _ _)
def eR
  (q:ops[i]?=some ⟨some d,.call ⟨.value fv,xs.toArray,ats⟩,ty,pos,aft,g⟩) (H:GOk ops fr ⟨some d,.call ⟨.value fv,xs.toArray,ats⟩,ty,pos,aft,g⟩ true) (A:stg.contains i=true)
  (c:fr.ev fv=some (.func (.func f) #[] caps)) (p:fr.evs xs=some vs) (l:Sp E.P f (vs++caps.toList) K L1 (Ret N)) (b:Tks L1 (S++M) L2) (j:Nat.blt d E.n=true)
  (h:∀v a L',N v a L'->K.le a->DL E ops eff stg (L'++L2) r ((d,v)::fr) a [] Q):DL E ops eff stg S (i::r) fr K M Q:=
 kO q H A c p l b j (fun a L' ⟨u,e,n⟩=>by cases e) (fun s a L' ⟨u,e,n⟩=>by cases e) (fun v a L' ⟨u,e,n⟩ le=>by cases e;exact h v a L' n le)
def cM:∀(L:List Asn),Tks L L []
 | []=>.nil
 |_::L=>.cons .here (cM L)
def vF(d:Nat){b:Bool}(e:fr.get d=some (.bool b))(I:b=true->DL E ops eff stg S r ((d,.bool true)::fr) K M Q)(i:b=false->DL E ops eff stg S r ((d,.bool false)::fr) K M Q):DL E ops eff stg S r fr K M Q:=by
 intro a f;have L : ∀ c, b = c -> FrOk E.n E.ds ((d, .bool c) :: fr) a := fun c g => ⟨f.defers, f.size, fun k v h => by
  simp only[Fr.get]at h
  by_cases j:d=k
  ·exact gHS
  rw[JN j]at h;exact f.get _ _ h⟩
 cases b
 ·exact i Y a (L _ Y)
 exact I Y a (L _ Y)
def eV(d:Nat){p:Prop}[Decidable p](e:fr.get d=some (.bool (decide p)))(I:p->DL E ops eff stg S r ((d,.bool true)::fr) K M Q)(a:¬p->DL E ops eff stg S r ((d,.bool false)::fr) K M Q):DL E ops eff stg S r fr K M Q:=
 vF d e (fun h=>I (xAX h)) (fun h=>a (xBA h))
end
end
section
variable{ats:Array TypeId}{p q:Bool}{places:List (Nat×Nat)}{parts:List (Nat×Operand)}{l l' z:List Value}{fz:Nat×Nat}{pa:Option Addr}{P:Program}{d:TypeDesc}{at_ el xt:TypeId}
inductive Spl:List Value->Nat->List Value->List Value->Prop where
 |nil {l:List Value}:Spl l 0 [] l
 |cons {a c:Value} {l cs l':List Value}:Spl l 0 cs l'->Spl (a::l) 0 (c::cs) (c::l')
 |skip {a:Value} {l cs l':List Value} {n:Nat}:Spl l n cs l'->Spl (a::l) (n+1) cs (a::l')
def Spl.eq{cs:List Value}{n:Nat}(h:Spl l n cs l'):l'=l.take n++cs++l.drop (n+cs.length)/\n+cs.length<=l.length:=by
 induction h with
 |nil=>simp
 |cons _ w=>obtain⟨b,c⟩:=w;simp at b c ⊢;exact⟨b,c⟩
 | @skip a l cs l' n _ w=>
  obtain⟨b,c⟩:=w;have:n+1+cs.length=(n+cs.length)+1:=aH;rw[this];simp at b c ⊢;exact⟨b,c⟩
def fN(P:Program)(t:TypeId):Option (List Value×List (Nat×Nat)):=
 match P.underlying t,P.info? t with
 |some (.struct a),some i=>match i.zero with
  |some z=>some (z.cells.toList,a.toList.map fun f=>(f.offset,match P.info? f.type with|some b=>b.size|none=>0))
  |none=>none
 |_,_=>none
inductive Fill (fr:Fr) (place:Nat->Option (Nat×Nat)):List Value->List (Nat×Operand)->List Value->Prop where
 |nil {z:List Value}:Fill fr place z [] z
 |cons {i off:Nat} {x:Operand} {v:Value} {cs z z' out:List Value} {rest:List (Nat×Operand)}:fr.ev x=some v->v.cells=cs.toArray->place i=some (off,cs.length)->Spl z off cs z'->Fill fr place z' rest out->Fill fr place z ((i,x)::rest) out
def NR(off:Nat):∀(cs:List Value) (j:Nat) (z:Array Value),off+j+cs.length<=z.size->
  (cs.zipIdx j).foldl (fun(a:Array Value) (p:Value×Nat)=>a.setIfInBounds (off+p.2) p.1) z=(z.toList.take (off+j)++cs++z.toList.drop (off+j+cs.length)).toArray:=by
 intro cs;induction cs with
 |nil=>intro j z h;simp
 |cons c cs w=>
  intro j z h;simp only[List.zipIdx_cons,List.foldl_cons];rw[w (j+1) _ (by simp at h ⊢;omega)];simp at h
  congr 1
  have M:off+(j+1)=off+j+1:=aH;have O:off+(j+1)+cs.length=off+j+(c::cs).length:=by simp;omega
  rw[O,M];simp only[Array.toList_setIfInBounds];rw[List.take_set,List.drop_set_of_lt cD];rw[xAK (by simpa using (by omega:off+j<z.size))];rw[List.set_append_right _ _ gAG];simp;have:off+j-min (off+j) z.size=0:=aH;rw[this];simp
def Mz{fr:Fr}{b:Nat->Option (Nat×Nat)}{out:List Value}(h:Fill fr b z parts out){n:Nat}{ds:List Deferred}{a:Act}(f:FrOk n ds fr a):
  Instr.fill b z.toArray (parts.map fun p=>(p.1,a.eval p.2))=some out.toArray:=by
 induction h with
 |nil=>rfl
 | @cons i off x v cs z g out e l q r s _ w=>
  obtain⟨M,O⟩:=s.eq;simp only[List.map_cons,f.ev l,Instr.fill];simp only[r,q,List.size_toArray];rw[x6 gAG];have N:(cs.toArray.zipIdx.foldl (fun(a:Array Value) (p:Value×Nat)=>a.setIfInBounds (off+p.2) p.1) z.toArray)=g.toArray:=by
   rw[<-Array.foldl_toList];have:=NR off cs 0 z.toArray (by simpa using O);simp at this ⊢;rw[this,M];simp
  have d:(cs.toArray.zipIdx.foldl (fun cs (x:Value×Nat)=>match x with|(c,j)=>cs.setIfInBounds (off+j) c) z.toArray)=g.toArray:=N;rw[d];exact w
section
variable{E:Env}{fr:Fr}{K:Hl}{L L':List Asn}{Q:Post}{dst:Option Tmp}{ty:TypeId}{pos:String}{aft:Array Edge}{g:Option (Nat×Bool)}{x y:Operand}{t t' s e sz i off b:Nat}{α:Type}{k:El α}{v u:Value}{xs:List α}
def I0(w:World):∀(a:List Field),(∀f∈a,∃t,P.info? f.type=some t)->
  (a.mapM (fun f=>do pure (f.offset,<-sizeOf f.type):Field->Sem (Nat×Nat))).run P w=.ok (a.map fun f=>(f.offset,match P.info? f.type with|some t=>t.size|none=>0)) w:=by
 intro a;induction a with
 |nil=>intro _;rfl
 |cons f a d=>
  intro h;obtain⟨t,b⟩:=h f (List.mem_cons_self ..);rw[List.mapM_cons];have c:((do pure (f.offset,<-sizeOf f.type)):Sem (Nat×Nat)).run P w=.ok (f.offset,t.size) w:=by
   simp only[sizeOf,typeInfo,program,bind,Sem.bind,pure,Sem.run,b]
  rw[bH c,bH (d fun g H=>h g (List.mem_cons_of_mem _ H))];simp[pure,b]
def fM(P:Program)(t:TypeId):Bool:=
 match P.underlying t with
 |some (.struct a)=>a.toList.all fun f=>(P.info? f.type).isSome
 |_=>false
def Nw{out:List Value}{parts:List (Nat×Value)}(r:fN P t=some (z,places))(c:fM P t=true)
  (h:Instr.fill (places.toArray[·]?) z.toArray parts=some out.toArray) (w:World):(Instr.build t parts.toArray).run P w=.ok (.agg out.toArray) w:=by
 unfold fN at r;unfold fM at c;cases C:P.underlying t with
 |none=>simp[C]at r
 |some d=>
  cases d<;>simp[C]at r
  rename_i b;cases p:P.info? t with
  |none=>simp[p]at r
  |some a=>
   cases N:a.zero with
   |none=>simp[p,N]at r
   |some g=>
    simp[p,N]at r;obtain⟨rfl,rfl⟩:=r;simp only[C,List.all_eq_true]at c;have B:=I0 (P:=P) w b.toList (fun f e=>by have:=c f e;cases u:P.info? f.type with|none=>simp[u]at this|some a=>exact⟨a,Y⟩);unfold Instr.build;have i:(zeroValue t).run P w=.ok g w:=by simp only[zeroValue,typeInfo,program,bind,Sem.bind,pure,Sem.run,p,N]
    rw[bH i];have j:(underlying t).run P w=.ok (.struct b) w:=by simp only[underlying,program,bind,Sem.bind,pure,Sem.run,C]
    simp only[];rw[bH j];simp only[];have q:(b.mapM (fun f=>do pure (f.offset,<-sizeOf f.type):Field->Sem (Nat×Nat))).run P w=.ok (b.toList.map fun f=>(f.offset,match P.info? f.type with|some a=>a.size|none=>0)).toArray w:=by
     rw[Array.mapM_eq_mapM_toList]
     show (Functor.map _ _:Sem _).run P w=_
     simp only[Functor.map]
     show (Sem.bind _ _).run P w=_
     have:=bH (P:=P) (f:=fun l=>(pure l.toArray:Sem (Array (Nat×Nat)))) B;exact this
    rw[bH q];have s:g.cells.toList.toArray=g.cells:=cD;rw[s]at h;simp only[h]
    rfl
def dA{out:List Value}(r:fN E.P t=some (z,places))(b:fM E.P t=true)(h:Fill fr (places.toArray[·]?) z parts out):
  Ev E fr K L ⟨dst,.build t parts.toArray,ty,pos,aft,g⟩ (.agg out.toArray):=fun a w f j=>by
 have e:Array.map (fun(p:Nat×Operand)=>(p.1,a.eval p.2)) parts.toArray=(parts.map fun p=>(p.1,a.eval p.2)).toArray:=cD;simp only[execOp];refine fI ?_;have:=Nw r b (Mz h f) w;rw[<-e]at this;exact this
def nI{d:Array Field}{b:Field}{cs:List Value}{c:Value}(C:E.P.underlying t=some (.struct d))(p:d[i]?=some b)(q:fJ E.P b.type=true)(r:fr.ev x=some (.agg cs.toArray))(h:cs[b.offset]?=some c):
  Ev E fr K L ⟨dst,.field t x i,ty,pos,aft,g⟩ c:=fun a w f j=>by
 simp only[execOp,f.ev r];refine fI ?_;unfold Instr.field;have e:(underlying t).run E.P w=.ok (.struct d) w:=by simp only[underlying,program,bind,Sem.bind,pure,Sem.run,C]
 rw[bH e];simp only[p];have l:(asAgg (.agg cs.toArray)).run E.P w=.ok cs.toArray w:=rfl;rw[bH l];unfold part;rw[bH (p5 q w).1];simp[h,pure]
def sB{u:TypeId}:∀(cs:List Value) (o k:Nat) (w:World) (l:List Value),w.heap[b]?=some (bK l u fz)->o+k+cs.length<=l.length->
  (∀j,j<cs.length->(fz.1<=o+k+j&&o+k+j<fz.2)=false)->(∀c∈cs,c.oneCell'=true)->
  ∃w',(storeCells ⟨b,o,none⟩ cs k).run P w=.ok () w'/\w'.heap.size=w.heap.size/\w'.heap[b]?=some (bK (l.take (o+k)++cs++l.drop (o+k+cs.length)) u fz)/\(∀z,z≠b->w'.heap[z]?=w.heap[z]?)/\w'={w with heap:=w'.heap}:=by
 intro cs;induction cs with
 |nil=>intro o k w l h _ _ _;exact⟨w,Y,Y,by simpa using h,fun _ _=>rfl,rfl⟩
 |cons c cs q=>
  intro o k w l h v f d;simp at v;have p:=B3 (P:=P) h (o:=o+k) aH (by simpa using f 0 cD) (d c (List.mem_cons_self ..));obtain⟨x,y,H⟩:=qX (o:=o+k) c h;have a:∀j,j<cs.length->(fz.1<=o+(k+1)+j&&o+(k+1)+j<fz.2)=false:=by
   intro j E;have:=f (j+1) gAG;have e:o+(k+1)+j=o+k+(j+1):=aH;rw[e];exact this
  obtain⟨w',O,W,r,s,t⟩:=q o (k+1) (w.setCell ⟨b,o+k,none⟩ c) (l.set (o+k) c) y gAG a (fun g i=>d g (List.mem_cons_of_mem _ i));refine⟨w',?_,W.trans x,?_,fun z N=>(s z N).trans (H z N),?_⟩
  ·simp only[storeCells,kS];rw[bH p];exact O
  ·rw[r]
   congr 2
   have M:o+(k+1)=o+k+1:=aH;rw[M,List.take_set,List.drop_set_of_lt aH,xAK aH,List.set_append_right _ _ gAG];have:o+k-(List.take (o+k) l).length=0:=by simp;omega
   rw[this];simp
   congr 1;omega
  rw[t];rfl
def cQ{o n:Nat}{cs:List Value}{u:TypeId}(I:aggB E.P t n=true)(C:fr.ev x=some (ptr b o))(G:fr.ev y=some (.agg cs.toArray))(h:cs.length=n)
  (p:Fnd (pt b (bK l u fz)) (pt b (bK l' u fz)) L L') (s:∀c∈cs,c.oneCell'=true) (d:Spl l o cs l') (z:∀j,j<n->(fz.1<=o+j&&o+j<fz.2)=false):
  EfS E fr K L ⟨dst,.store t x y,ty,pos,aft,g⟩ (fun _ r e=>r=K/\e=L'):=by
 intro a w f j;have v:=j.mem p;obtain⟨M,O⟩:=d.eq;obtain⟨q,H,W,N,Q,S⟩:=sB (P:=E.P) cs o 0 w l v (by simpa using O) (fun i A=>by simpa using z i (h▸A)) s;have B:(execOp a.eval ⟨dst,.store t x y,ty,pos,aft,g⟩).run E.P w=.ok .skip q:=by
  simp only[execOp,f.ev C,f.ev G];have:(Instr.storeAt t (ptr b o) (.agg cs.toArray)).run E.P w=.ok () q:=by
   show (storeVar t _ _).run E.P w=_
   unfold storeVar;rw[bH (zU I w).2];have F:¬((Value.agg cs.toArray).cells.size≠n):=by simp[Value.cells,h]
   rw[x6 F];exact H
  rw[bH this];rfl
 refine⟨_,_,_,_,.inr ⟨B,Y⟩,⟨Y,Y⟩,Hl.le_refl _,?_⟩
 rw[S];refine j.writeAt p W ?_ Q
 rw[N,M];simp
def eX(C:E.P.underlying t=some d)(hd:∀ms,d≠.interface ms)(c:fr.ev x=some v):Ev E fr K L ⟨dst,.makeInterface t x,ty,pos,aft,g⟩ (.iface t v):=fun a w f j=>by
 simp only[execOp,f.ev c];refine fI ?_;unfold Instr.makeInterface;have b:(underlying t).run E.P w=.ok d w:=by simp only[underlying,program,bind,Sem.bind,pure,Sem.run,C]
 rw[bH b];cases d<;>first|rfl|exact absurd Y (hd _)
def bN{vs:List Value}(b:fr.ev x=some (.tuple vs.toArray))(p:vs[i]?=some v):Ev E fr K L ⟨dst,.extract x i,ty,pos,aft,g⟩ v:=fun a w f j=>by
 simp only[execOp,f.ev b];refine fI ?_;simp[Instr.extract,p,pure]
def lA{fn:Fn}{b cs:List Operand}{v i:List Value}(c:fr.evs b=some v)(d:fr.evs cs=some i):Ev E fr K L ⟨dst,.makeFunc fn b.toArray cs.toArray,ty,pos,aft,g⟩ (.func fn v.toArray i.toArray):=fun a w f j=>by
 have M:Array.map a.eval b.toArray=v.toArray:=by simp[f.evs c]
 have O:Array.map a.eval cs.toArray=i.toArray:=by simp[f.evs d]
 simp only[execOp,M,O]
 rfl
def jI(C:E.P.underlying at_=some d)(hd:∀ms,d≠.interface ms)(c:fr.ev x=some (.iface at_ v)):
  Ev E fr K L ⟨dst,.typeAssert x xt at_ true,ty,pos,aft,g⟩ (.tuple #[v,.bool true]):=fun a w f j=>by
 simp only[execOp,f.ev c];refine fI ?_;unfold Instr.typeAssert;have b:(underlying at_).run E.P w=.ok d w:=by simp only[underlying,program,bind,Sem.bind,pure,Sem.run,C]
 rw[bH b];cases d<;>first|(simp[pure];done)|exact absurd Y (hd _)
def HV{u:TypeId}{e:TypeInfo}{z:Value}(C:E.P.underlying at_=some d)(hd:∀ms,d≠.interface ms)(F:Nat.beq u at_=false)(p:E.P.info? at_=some e)(N:e.zero=some z)(c:fr.ev x=some (.iface u v)):
  Ev E fr K L ⟨dst,.typeAssert x xt at_ true,ty,pos,aft,g⟩ (.tuple #[z,.bool false]):=fun a w f j=>by
 simp only[execOp,f.ev c];refine fI ?_;unfold Instr.typeAssert;have b:(underlying at_).run E.P w=.ok d w:=by simp only[underlying,program,bind,Sem.bind,pure,Sem.run,C]
 rw[bH b];have h:(zeroValue at_).run E.P w=.ok z w:=by simp only[zeroValue,typeInfo,program,bind,Sem.bind,pure,Sem.run,p,N]
 cases d<;>first|(simp only[if_neg (YD F),if_true];rw[bH h];rfl)|exact absurd Y (hd _)
def gX(P:Program)(t:TypeId):Option Value:=(P.info? t).bind (·.zero)
def eY{u:TypeId}{z:Value}(C:E.P.underlying at_=some d)(hd:∀ms,d≠.interface ms)(F:Nat.beq u at_=false)(N:gX E.P at_=some z)(a:fr.ev x=some (.iface u v)):
  Ev E fr K L ⟨dst,.typeAssert x xt at_ true,ty,pos,aft,g⟩ (.tuple #[z,.bool false]):=by
 unfold gX at N;cases p:E.P.info? at_ with
 |none=>simp[p]at N
 |some e=>simp[p]at N;exact HV C hd F p N a
def Fq(d:Nat)(C:P.underlying t=some .bool)(w:World):(Op.equalIn (d+1) t (.bool p) (.bool q)).run P w=.ok (p==q) w:=by
 simp only[Op.equalIn,underlying,program,bind,Sem.bind,pure,Sem.run,C]
def Rl(d:Nat)(C:P.underlying t=some (.pointer el))(w:World):(Op.equalIn (d+1) t (.pointer pa) (.pointer none)).run P w=.ok pa.isNone w:=by
 cases pa<;>simp only[Op.equalIn,underlying,program,bind,Sem.bind,pure,Sem.run,C,Option.isNone]
def Mw(C:E.P.underlying t=some .bool)(a:fr.ev x=some (.bool p))(b:fr.ev y=some (.bool q)):Ev E fr K L ⟨dst,.binOp .eql t x y t',ty,pos,aft,g⟩ (.bool (p==q)):=
 iY a b (fun w=>rfl) fun w=>by
  have h:(Op.equal t (.bool p) (.bool q)).run E.P w=.ok (p==q) w:=Fq 9999 C w
  show (do pure (Value.bool (<-Op.equal t (.bool p) (.bool q))):Sem Value).run E.P w=_
  rw[bH h];rfl
def Al(C:E.P.underlying t=some .bool)(a:fr.ev x=some (.bool p))(b:fr.ev y=some (.bool q)):Ev E fr K L ⟨dst,.binOp .neq t x y t',ty,pos,aft,g⟩ (.bool (!(p==q))):=
 iY a b (fun w=>rfl) fun w=>by
  have h:(Op.equal t (.bool p) (.bool q)).run E.P w=.ok (p==q) w:=Fq 9999 C w
  show (do pure (Value.bool (!(<-Op.equal t (.bool p) (.bool q)))):Sem Value).run E.P w=_
  rw[bH h];rfl
def Mt(C:P.underlying t=some (.pointer el))(w:World):(Op.equal t (.pointer pa) (.pointer none)).run P w=.ok pa.isNone w:=Rl 9999 C w
def mM(C:E.P.underlying t=some (.pointer el))(a:fr.ev x=some (.pointer pa))(b:fr.ev y=some (.pointer none)):Ev E fr K L ⟨dst,.binOp .eql t x y t',ty,pos,aft,g⟩ (.bool pa.isNone):=
 iY a b (fun w=>rfl) fun w=>by
  show (do pure (Value.bool (<-Op.equal t (.pointer pa) (.pointer none))):Sem Value).run E.P w=_
  rw[bH (Mt C w)];rfl
def yY(C:E.P.underlying t=some (.pointer el))(a:fr.ev x=some (.pointer pa))(b:fr.ev y=some (.pointer none)):Ev E fr K L ⟨dst,.binOp .neq t x y t',ty,pos,aft,g⟩ (.bool (!pa.isNone)):=
 iY a b (fun w=>rfl) fun w=>by
  show (do pure (Value.bool (!(<-Op.equal t (.pointer pa) (.pointer none)))):Sem Value).run E.P w=_
  rw[bH (Mt C w)];rfl
def or8(c d:UInt8):IntKind.u8.wrap (BitVec.toNat (BitVec.ofInt 8 (c.toNat:Int)|||BitVec.ofInt 8 (d.toNat:Int)):Int)=((c|||d).toNat:Int):=by
 have h:∀c:UInt8,BitVec.ofInt 8 (c.toNat:Int)=c.toBitVec:=fun c=>by apply BitVec.eq_of_toNat_eq;simp
 rw[h,h];have:(c.toBitVec|||d.toBitVec)=(c|||d).toBitVec:=cD;rw[this];have G:=(c|||d).toNat_lt;unfold IntKind.wrap IntKind.bits IntKind.signed;simp only[Bool.false_and,Bool.false_eq_true,if_false]
 show (((c|||d).toNat:Int))%2^8=_
 omega
def G3(c d:UInt8)(a:fr.ev x=some (.int .u8 c.toNat))(b:fr.ev y=some (.int .u8 d.toNat)):Ev E fr K L ⟨dst,.binOp .or t x y t',ty,pos,aft,g⟩ (.int .u8 (c|||d).toNat):=
 iY a b kY fun w=>by
  have:=or8 c d;simp only[binOp,Op.intBits,ne_eq,not_true,if_false]
  show Result.ok (Value.int .u8 _) w=_
  rw[<-this];rfl
def o1{kk:IntKind}{m n:Int}(b:fr.ev x=some (.int kk m))(t:fr.ev y=some (.int kk n)):Ev E fr K L ⟨dst,.call ⟨.builtin .min,#[x,y],ats⟩,ty,pos,aft,g⟩ (.int kk (if n<m then n else m)):=fun a w f j=>by
 have e:Array.map a.eval #[x,y]= #[.int kk m,.int kk n]:=by simp[f.ev b,f.ev t]
 simp only[execOp,resolve,e,bind,pure,Sem.bind,invoke,builtin]
 rfl
def Rn{kk:IntKind}{m n:Int}(b:fr.ev x=some (.int kk m))(t:fr.ev y=some (.int kk n)):Ev E fr K L ⟨dst,.call ⟨.builtin .max,#[x,y],ats⟩,ty,pos,aft,g⟩ (.int kk (if n>m then n else m)):=fun a w f j=>by
 have e:Array.map a.eval #[x,y]= #[.int kk m,.int kk n]:=by simp[f.ev b,f.ev t]
 simp only[execOp,resolve,e,bind,pure,Sem.bind,invoke,builtin]
 rfl
end
end
end Go.SL
end

/-
  What the proof stands on, part 1: the logic of walks, the walks through the functions, the plain laws. Conditions: as each theorem says. (Merged and shortened by a program.)
-/
import Derived.KernelRfl
import Derived.WalkKit
import Derived.Defers
import Derived.Orders
import Derived.RangeFuncRecord
import Derived.OrdersIn
import Derived.TacticsIn
import Derived.Lib.ConvBytes
import Derived.Laws.BytesString
import Derived.Lib.Builder
import Derived.Lib.UnsafeStr
import Derived.Laws.Externs
import Derived.MapKept
import Derived.Recover
import Derived.Test.YthopmddkpdehiaaGreatDoorProg
import Derived.Lib.Index
import Derived.Below
import Derived.Shelf.Strings.Builder1
import Derived.Shelf.Strings.Builder2
import Derived.Shelf.Small.Utf8
import Derived.Shelf.Small.Bits
import Derived.Shelf.Small.Strs
import Derived.Shelf.Utf8.RuneCount
import Derived.Shelf.Strconv.Itoa0
import Derived.Shelf.Strconv.Itoa1
import Derived.Shelf.LaysM
import Derived.Shelf.Strconv.Itoa2
import Derived.Shelf.Strconv.Itoa3
import Derived.Shelf.Strings.Search1
import Derived.Shelf.Strings.Search2
import Derived.Shelf.Strings.Search3
import Derived.Shelf.Strings.Cut
import Derived.Shelf.Strings.Count
import Derived.Shelf.Strings.Shaped
import Derived.Shelf.Strings.Split
import Derived.Shelf.Strings.Runes
import Derived.Shelf.Strings.RuneCount
import Derived.Shelf.Strings.IndexAny
import Derived.Shelf.Strings.AsciiSet
import Derived.Shelf.Strings.IndexAnyAll
import Derived.Shelf.Bits.Mul64
import Derived.Ground.Names2Prog
import Derived.Shelf.Slices.Clone
import Derived.Ground.SlgnProg
import Derived.Shelf.SlicesE.Clone
import Derived.Scope
import Derived.Lib.OthersKept
set_option linter.unusedVariables false
set_option linter.unusedSimpArgs false
set_option maxRecDepth 4000
set_option maxHeartbeats 1000000
namespace Go
structure Wq (q:Prop):Prop where
 w:q
theorem cB{p:Prop}(h:p:=by assumption):p:=h
theorem bV2{p:Prop}(h:p:=by repeat (first|exact .nil|(apply Go.SL.Fill.cons;exact rfl;exact rfl;exact rfl;repeat (first|exact .nil|apply Go.SL.Spl.cons|apply Go.SL.Spl.skip)))):p:=h
theorem bF{p:Prop}(h:p:=by first|exact .here|exact .there .here|exact .there (.there .here)|exact .there (.there (.there .here))|exact .there (.there (.there (.there .here)))|exact .there (.there (.there (.there (.there .here))))|exact .there (.there (.there (.there (.there (.there .here)))))|exact .there (.there (.there (.there (.there (.there (.there .here))))))|exact .there (.there (.there (.there (.there (.there (.there (.there .here)))))))):p:=h
theorem fM{p:Prop}(h:p:=by exact fun _ h=>h):p:=h
theorem bV3{p:Prop}(h:p:=by repeat (first|exact .nil|refine .cons _ rfl ?_)):p:=h
theorem bJ{p:Prop}(h:p:=by kernel_rfl):p:=h
theorem bT{p:Prop}(h:p:=by first|exact aSS rfl|exact aJT rfl|exact aJS rfl):p:=h
theorem aI{p:Prop}(h:p:=by omega):p:=h
theorem cJ{p:Prop}(h:p:=by first|rfl|assumption):p:=h
theorem aM{p:Prop}(h:p:=by first|exact .own .here|exact .own (.there .here)|exact .own (.there (.there .here))|exact .own (.there (.there (.there .here)))|exact .own (.there (.there (.there (.there .here))))|exact .own (.there (.there (.there (.there (.there .here)))))|exact .own (.there (.there (.there (.there (.there (.there .here))))))|exact .own (.there (.there (.there (.there (.there (.there (.there .here)))))))|exact .own (.there (.there (.there (.there (.there (.there (.there (.there .here))))))))|exact .known (by assumption)):p:=h
theorem bV4{p:Prop}(h:p:=by repeat (first|exact .nil|(apply Go.SL.Tks.cons;repeat (first|exact .here|apply Go.SL.Tk.there)))):p:=h
end Go
namespace Go
theorem gA0{p:Prop}(h:p:=by have:=congrArg List.length h2;simp at this;exact List.length_eq_zero_iff.1 (by simpa using this)):p:=h
theorem gA8{p:Prop}(h:p:=by first|exact Hl.le_refl _|assumption):p:=h
theorem gAA{p:Prop}(h:p:=by first|(simp[Value.oneCell'];done)|exact fun c hc=>El.one _ _ c hc):p:=h
theorem gAD{p:Prop}(h:p:=by first|assumption|omega):p:=h
theorem gAE{p:Prop}(h:p:=by first|(simp;omega)|omega):p:=h
theorem gAF{p:Prop}(h:p:=by first|exact dU rfl|exact dL rfl):p:=h
theorem gAH{p:Prop}(h:p:=by decide+kernel):p:=h
theorem gAI{p:Prop}(h:p:=by simp;omega):p:=h
theorem gAJ{p:Prop}(h:p:=by intro j hj;simp):p:=h
theorem gAK{p:Prop}(h:p:=by simpa using e):p:=h
theorem gAP{p:Prop}(h:p:=by simp only[List.length_singleton];omega):p:=h
theorem gAR{p:Prop}(h:p:=by unfold fW;simp only[Bool.or_eq_true,Bool.and_eq_true,decide_eq_true_eq];first|(left;left;simpa using g16;done)|(left;right;omega)|(right;omega)):p:=h
theorem gB2{p:Prop}(h:p:=by rcases Nat.lt_or_ge j s.length with h|h;omega;(rw[List.getElem?_eq_none h]at hc;cases hc)):p:=h
theorem gB4{p:Prop}(h:p:=by rw[k.len];exact Nat.le_refl _):p:=h
theorem gBE{p:Prop}(h:p:=by simpa using hx):p:=h
theorem gBZ{p:Prop}(h:p:=by simpa using h):p:=h
theorem gCE{p:Prop}(h:p:=by simpa using hk):p:=h
theorem gCH{p:Prop}(h:p:=by have:=jF hj;omega):p:=h
end Go
section
namespace Go.SL
abbrev Hl:=Nat→Option Obj
def Hl.emp:Hl:=fun _=>none
def Hl.one(b:Nat)(o:Obj):Hl:=fun x=>if x=b then some o else none
def Hl.join(h k:Hl):Hl:=fun x=>(h x).or (k x)
def Hl.dj(h k:Hl):Prop:=∀x,h x=none∨k x=none
def Hl.le(h k:Hl):Prop:=∀x o,h x=some o→k x=some o
theorem Hl.le_refl(h:Hl):h.le h:=fun _ _ e=>e
theorem Hl.le_trans{a b c:Hl}(h:a.le b)(k:b.le c):a.le c:=fun x o e=>k x o (h x o e)
theorem Hl.dj.symm{a b:Hl}(h:a.dj b):b.dj a:=fun x=>(h x).symm
theorem Hl.dj_join{a b c:Hl}:a.dj (b.join c)↔a.dj b∧a.dj c:=by
 constructor
 ·intro h;refine⟨fun x=>?_,fun x=>?_⟩ <;> rcases h x with h|h <;> first|exact .inl h|(simp[Hl.join]at h;simp[h])
 rintro⟨h1,h2⟩ x;rcases h1 x with h|h
 ·exact .inl h
 rcases h2 x with k|k
 ·exact .inl k
 exact .inr (by simp[Hl.join,h,k])
theorem Hl.join_dj{a b c:Hl}:(b.join c).dj a↔b.dj a∧c.dj a:=
 ⟨fun h=>let ⟨x,y⟩:=Hl.dj_join.1 h.symm;⟨x.symm,y.symm⟩,fun⟨x,y⟩=>(Hl.dj_join.2 ⟨x.symm,y.symm⟩).symm⟩
theorem Hl.dj_emp(a:Hl):a.dj .emp:=fun _=>.inr rfl
theorem Hl.le_join_left{a b c:Hl}:(a.join b).le c→a.le c:=fun h x o e=>h x o (by simp[Hl.join,e])
theorem Hl.le_join_right {a b c : Hl} (hd : a.dj b) : (a.join b).le c → b.le c := fun h x o e => h x o (by
 rcases hd x with k|k
 ·simp[Hl.join,k,e]
 rw[k]at e;cases e)
theorem Hl.join_le{a b c:Hl}(h:a.le c)(k:b.le c):(a.join b).le c:=by
 intro x o e;unfold Hl.join at e;cases ha:a x with
 |some y=>rw[ha]at e;simp at e;subst e;exact h x _ ha
 |none=>rw[ha]at e;simp at e;exact k x o e
theorem Hl.join_assoc(a b c:Hl):(a.join b).join c=a.join (b.join c):=by
 funext x;simp[Hl.join,Option.or_assoc]
theorem Hl.join_emp(a:Hl):a.join .emp=a:=by funext x;simp[Hl.join,Hl.emp]
theorem Hl.emp_join(a:Hl):Hl.emp.join a=a:=by funext x;simp[Hl.join,Hl.emp]
theorem Hl.join_comm{a b:Hl}(h:a.dj b):a.join b=b.join a:=by
 funext x
 rcases h x with k|k
 ·simp[Hl.join,k]
 cases ha:a x <;> simp[Hl.join,k,ha]
abbrev Asn:=Hl→Prop
def pt(b:Nat)(o:Obj):Asn:=fun h=>h=Hl.one b o
def Sat:List Asn→Hl→Prop
 | [],h=>h=.emp
 |A::L,h=>∃h1 h2,A h1∧Sat L h2∧h1.dj h2∧h=h1.join h2
theorem gE{L M:List Asn}{h:Hl}:Sat (L++M) h↔∃h1 h2,Sat L h1∧Sat M h2∧h1.dj h2∧h=h1.join h2:=by
 induction L generalizing h with
 |nil=>
  constructor
  ·intro k;exact⟨.emp,h,rfl,k,(Hl.dj_emp h).symm,(Hl.emp_join h).symm⟩
  rintro⟨h1,h2,rfl,k,_,rfl⟩;simpa[Hl.emp_join]using k
 |cons A L ih=>
  constructor
  ·rintro⟨a,r,ha,hr,hd,rfl⟩;obtain⟨x,y,hx,hy,hd2,rfl⟩:=ih.1 hr;have:=Hl.dj_join.1 hd;exact⟨a.join x,y,⟨a,x,ha,hx,this.1,rfl⟩,hy,Hl.join_dj.2 ⟨this.2,hd2⟩,(Hl.join_assoc _ _ _).symm⟩
  rintro⟨_,y,⟨a,x,ha,hx,hax,rfl⟩,hy,hd,rfl⟩;have:=Hl.join_dj.1 hd;exact⟨a,x.join y,ha,ih.2 ⟨x,y,hx,hy,this.2,rfl⟩,Hl.dj_join.2 ⟨hax,this.1⟩,Hl.join_assoc _ _ _⟩
theorem fL{A B:Asn}{L:List Asn}{h:Hl}:Sat (A::B::L) h→Sat (B::A::L) h:=by
 rintro⟨a,_,ha,⟨b,l,hb,hl,hbl,rfl⟩,hd,rfl⟩;have:=Hl.dj_join.1 hd;refine⟨b,a.join l,hb,⟨a,l,ha,hl,this.2,rfl⟩,Hl.dj_join.2 ⟨this.1.symm,hbl⟩,?_⟩
 rw[←Hl.join_assoc,Hl.join_comm this.1,Hl.join_assoc]
theorem fE{A:Asn}{L M:List Asn}(k:∀h,Sat L h→Sat M h){h:Hl}:Sat (A::L) h→Sat (A::M) h:=
 fun⟨a,l,ha,hl,hd,e⟩=>⟨a,l,ha,k _ hl,hd,e⟩
inductive Fnd (A A':Asn):List Asn→List Asn→Prop where
 |here {L}:Fnd A A' (A::L) (A'::L)
 |there {B L L'}:Fnd A A' L L'→Fnd A A' (B::L) (B::L')
theorem Fnd.split{A A':Asn}{L L':List Asn}(f:Fnd A A' L L'):∃M,(∀h,Sat L h→Sat (A::M) h)∧(∀h,Sat (A'::M) h→Sat L' h):=by
 induction f with
 |here=>exact⟨_,fun _ h=>h,fun _ h=>h⟩
 | @there B L L' f ih=>
  obtain⟨M,h1,h2⟩:=ih;exact⟨B::M,fun h k=>fL (fE h1 k),fun h k=>fE h2 (fL k)⟩
inductive Hs (A:Asn):List Asn→Prop where
 |here {L}:Hs A (A::L)
 |there {B L}:Hs A L→Hs A (B::L)
theorem Hs.fnd{A:Asn}{L:List Asn}(f:Hs A L)(A':Asn):∃L',Fnd A A' L L':=by
 induction f with
 |here=>exact⟨_,.here⟩
 |there _ ih=>obtain⟨L',h⟩:=ih;exact⟨_,.there h⟩
theorem Hs.split{A:Asn}{L:List Asn}(f:Hs A L):∃M,∀h,Sat L h→Sat (A::M) h:=
 let ⟨_,g⟩:=f.fnd A;let ⟨M,h1,_⟩:=g.split;⟨M,h1⟩
inductive Tk (A:Asn):List Asn→List Asn→Prop where
 |here {L}:Tk A (A::L) L
 |there {B L M}:Tk A L M→Tk A (B::L) (B::M)
theorem Tk.sat{A:Asn}{L M:List Asn}(f:Tk A L M):∀h,Sat L h→Sat (A::M) h:=by
 induction f with
 |here=>exact fun _ h=>h
 |there f ih=>exact fun h k=>fL (fE ih k)
inductive Tks:List Asn→List Asn→List Asn→Prop where
 |nil {L}:Tks [] L L
 |cons {A As L M N}:Tk A L M→Tks As M N→Tks (A::As) L N
theorem Tks.sat{As L N:List Asn}(f:Tks As L N):∀h,Sat L h→Sat (As++N) h:=by
 induction f with
 |nil=>exact fun _ h=>h
 |cons t _ ih=>exact fun h k=>fE ih (t.sat h k)
def hp(w:World):Hl:=fun b=>w.heap[b]?
structure In (w0:World) (F K:Hl) (L:List Asn) (w:World):Prop where
 os:w.os=w0.os
 tape:w.tape=w0.tape
 output:w.output=w0.output
 size:w0.heap.size≤w.heap.size
 rep:∃h,Sat L h∧F.dj K∧F.dj h∧K.dj h∧F.le (hp w)∧K.le (hp w)∧h.le (hp w)
theorem In.imp{w0 w:World}{F K:Hl}{L M:List Asn}(k:∀h,Sat L h→Sat M h)(i:In w0 F K L w):In w0 F K M w:=
 let ⟨h,hs,r⟩:=i.rep
 ⟨i.os,i.tape,i.output,i.size,h,k h hs,r⟩
theorem In.drop{w0 w:World}{F K:Hl}{A:Asn}{L:List Asn}(i:In w0 F K (A::L) w):In w0 F K L w:=by
 obtain⟨h,⟨a,l,ha,hl,hal,rfl⟩,d1,d2,d3,l1,l2,l3⟩:=i.rep;exact⟨i.os,i.tape,i.output,i.size,l,hl,d1,(Hl.dj_join.1 d2).2,(Hl.dj_join.1 d3).2,l1,l2,Hl.le_join_right hal l3⟩
theorem In.known{w0 w:World}{F K:Hl}{L:List Asn}(i:In w0 F K L w){b:Nat}{o:Obj}(h:K b=some o):w.heap[b]?=some o:=by
 obtain⟨_,_,_,_,_,_,l2,_⟩:=i.rep;exact l2 b o h
theorem In.piece{w0 w:World}{F K:Hl}{b:Nat}{o:Obj}{L:List Asn}(i:In w0 F K (pt b o::L) w):w.heap[b]?=some o:=by
 obtain⟨h,⟨a,l,ha,hl,hal,rfl⟩,d1,d2,d3,l1,l2,l3⟩:=i.rep;exact l3 b o (by simp only[pt]at ha;subst ha;simp[Hl.join,Hl.one])
theorem In.mem{w0 w:World}{F K:Hl}{b:Nat}{o:Obj}{A':Asn}{L L':List Asn}(f:Fnd (pt b o) A' L L')(i:In w0 F K L w):w.heap[b]?=some o:=
 let ⟨_,h1,_⟩:=f.split;(i.imp h1).piece
theorem In.settle{w0 w:World}{F K:Hl}{b:Nat}{o:Obj}{L:List Asn}(i:In w0 F K (pt b o::L) w):
  K.le (K.join (Hl.one b o))∧(K.join (Hl.one b o)) b=some o∧In w0 F (K.join (Hl.one b o)) L w:=by
 obtain⟨h,⟨a,l,ha,hl,hal,rfl⟩,d1,d2,d3,l1,l2,l3⟩:=i.rep;simp only[pt]at ha;subst ha
 have hd2:=Hl.dj_join.1 d2;have hd3:=Hl.dj_join.1 d3;have hKb:K b=none:=by rcases hd3.1 b with h|h;exact h;simp[Hl.one]at h
 refine⟨fun x o e=>by simp[Hl.join,e],by simp[Hl.join,hKb,Hl.one],⟨i.os,i.tape,i.output,i.size,l,hl,Hl.dj_join.2 ⟨d1,hd2.1⟩,hd2.2,Hl.join_dj.2 ⟨hd3.2,hal⟩,l1,?_,Hl.le_join_right hal l3⟩⟩
 exact Hl.join_le l2 (Hl.le_join_left l3)
theorem In.drew{w0 w:World}{F K:Hl}{L:List Asn}(i:In w0 F K L w)(n:Nat):In w0 F K L {w with drawn:=n}:=
 ⟨i.os,i.tape,i.output,i.size,i.rep⟩
theorem In.alloc{w0 w:World}{F K:Hl}{L:List Asn}(i:In w0 F K L w)(o:Obj):
  In w0 F K (pt w.heap.size o::L) {w with heap:=w.heap.push o}:=by
 obtain⟨h,hl,d1,d2,d3,l1,l2,l3⟩:=i.rep;have fresh:∀ {k:Hl},k.le (hp w)→k w.heap.size=none:=by
  intro k hk;cases e:k w.heap.size with
  |none=>rfl
  |some o'=>have:=hk _ _ e;simp[hp]at this
 have up:∀ {k:Hl},k.le (hp w)→k.le (hp {w with heap:=w.heap.push o}):=by
  intro k hk x o' e;have:=hk x o' e;simp only[hp]at this ⊢;have hx:x < w.heap.size:=by
   rcases Nat.lt_or_ge x w.heap.size with h|h
   ·exact h
   simp[Array.getElem?_eq_none h]at this
  rw[Array.getElem?_push,if_neg aI];exact this
 have djo:∀ {k:Hl},k.le (hp w)→k.dj (Hl.one w.heap.size o):=by
  intro k hk x
  by_cases hx:x=w.heap.size
  ·subst hx;exact .inl (fresh hk)
  exact .inr (by simp[Hl.one,hx])
 refine⟨i.os,i.tape,i.output,by simpa using Nat.le_succ_of_le i.size,(Hl.one w.heap.size o).join h,⟨_,h,rfl,hl,(djo l3).symm,rfl⟩,d1,Hl.dj_join.2 ⟨djo l1,d2⟩,Hl.dj_join.2 ⟨djo l2,d3⟩,up l1,up l2,Hl.join_le ?_ (up l3)⟩
 intro x o' e
 by_cases hx:x=w.heap.size
 ·subst hx;simp[Hl.one]at e;subst e;simp[hp]
 simp[Hl.one,hx]at e
theorem In.write{w0 w:World}{F K:Hl}{L:List Asn}{b:Nat}{o o':Obj}(i:In w0 F K (pt b o::L) w){H:Array Obj}
  (hs:H.size=w.heap.size) (hb:H[b]?=some o') (ho:∀x,x≠b→H[x]?=w.heap[x]?):
  In w0 F K (pt b o'::L) {w with heap:=H}:=by
 obtain⟨h,⟨a,l,ha,hl,hal,rfl⟩,d1,d2,d3,l1,l2,l3⟩:=i.rep;simp only[pt]at ha;subst ha
 have hd2:=Hl.dj_join.1 d2;have hd3:=Hl.dj_join.1 d3;have no:∀ {k:Hl},k.dj (Hl.one b o)→k b=none:=by
  intro k hk;rcases hk b with h|h;exact h;simp[Hl.one]at h
 have up:∀ {k:Hl},k.le (hp w)→k b=none→k.le (hp {w with heap:=H}):=by
  intro k hk hn x o'' e;have hx:x≠b:=by rintro rfl;rw[hn]at e;cases e
  simp only[hp,ho x hx];exact hk x o'' e
 have djo:∀ {k:Hl},k b=none→k.dj (Hl.one b o'):=by
  intro k hk x
  by_cases hx:x=b
  ·subst hx;exact .inl hk
  exact .inr (by simp[Hl.one,hx])
 have nl:l b=none:=no hal.symm;refine⟨i.os,i.tape,i.output,by simpa[hs]using i.size,(Hl.one b o').join l,⟨_,l,rfl,hl,(djo nl).symm,rfl⟩,d1,Hl.dj_join.2 ⟨djo (no hd2.1),hd2.2⟩,Hl.dj_join.2 ⟨djo (no hd3.1),hd3.2⟩,up l1 (no hd2.1),up l2 (no hd3.1),Hl.join_le ?_ (up (Hl.le_join_right hal l3) nl)⟩
 intro x o'' e
 by_cases hx:x=b
 ·subst hx;simp[Hl.one]at e;subst e;simpa[hp]using hb
 simp[Hl.one,hx]at e
theorem In.writeAt{w0 w:World}{F K:Hl}{L L':List Asn}{b:Nat}{o o':Obj}(f:Fnd (pt b o) (pt b o') L L')(i:In w0 F K L w){H:Array Obj}
  (hs:H.size=w.heap.size) (hb:H[b]?=some o') (ho:∀x,x≠b→H[x]?=w.heap[x]?):
  In w0 F K L' {w with heap:=H}:=
 let ⟨_,h1,h2⟩:=f.split;((i.imp h1).write hs hb ho).imp h2
theorem In.hide{w0 w:World}{F K:Hl}{L N:List Asn}(i:In w0 F K (L++N) w):
  ∃F',In w F' K L w∧∀ {K':Hl} {L':List Asn} {w':World},In w F' K' L' w'→In w0 F K' (L'++N) w':=by
 obtain⟨h,hs,d1,d2,d3,l1,l2,l3⟩:=i.rep;obtain⟨a,n,ha,hn,han,rfl⟩:=gE.1 hs;have hd2:=Hl.dj_join.1 d2;have hd3:=Hl.dj_join.1 d3;refine⟨F.join n,⟨rfl,rfl,rfl,Nat.le_refl _,a,ha,Hl.join_dj.2 ⟨d1,hd3.2.symm⟩,Hl.join_dj.2 ⟨hd2.1,han.symm⟩,hd3.1,Hl.join_le l1 (Hl.le_join_right han l3),l2,Hl.le_join_left l3⟩,?_⟩
 intro K' L' w' j;obtain⟨h',hs',e1,e2,e3,m1,m2,m3⟩:=j.rep;have x1:=Hl.join_dj.1 e1;have x2:=Hl.join_dj.1 e2;refine⟨j.os.trans i.os,j.tape.trans i.tape,j.output.trans i.output,Nat.le_trans i.size j.size,h'.join n,gE.2 ⟨h',n,hs',hn,x2.2.symm,rfl⟩,x1.1,Hl.dj_join.2 ⟨x2.1,hd2.2⟩,Hl.dj_join.2 ⟨e3,x1.2.symm⟩,Hl.le_join_left m1,m2,Hl.join_le m3 (Hl.le_join_right hd2.2 m1)⟩
abbrev Fr:=List (Nat×Value)
def Fr.get:Fr→Nat→Option Value
 | [],_=>none
 |(k,v)::r,j=>bif Nat.beq k j then some v else Fr.get r j
def Fr.ev(fr:Fr):Operand→Option Value
 | .tmp t=>fr.get t
 | .const v=>some v
 | .global g=>some (.pointer (some ⟨g,0,none⟩))
 | .func f=>some (.func (.func f) #[] #[])
def Fr.evs(fr:Fr):List Operand→Option (List Value)
 | []=>some []
 |x::xs=>match fr.ev x,fr.evs xs with|some v,some vs=>some (v::vs)|_,_=>none
structure FrOk (n:Nat) (ds:List Deferred) (fr:Fr) (a:Act):Prop where
 defers:a.defers=ds
 size:a.tmps.size=n
 get:∀k v,fr.get k=some v→a.tmps[k]?=some v
theorem FrOk.ev{n:Nat}{ds:List Deferred}{fr:Fr}{a:Act}(h:FrOk n ds fr a){x:Operand}{v:Value}(e:fr.ev x=some v):a.eval x=v:=by
 cases x <;> simp only[Fr.ev]at e
 case tmp t=>simp[Act.eval,h.get _ _ e]
 all_goals (cases e;rfl)
theorem FrOk.evs{n:Nat}{ds:List Deferred}{fr:Fr}{a:Act}(h:FrOk n ds fr a):∀ {xs:List Operand} {vs:List Value},fr.evs xs=some vs→xs.map a.eval=vs
 | [],vs,e=>by simp only[Fr.evs]at e;cases e;rfl
 |x::xs,vs,e=>by
  simp only[Fr.evs]at e;cases hx:fr.ev x <;> cases hs:fr.evs xs <;> simp[hx,hs]at e
  subst e;simp[h.ev hx,h.evs hs]
theorem aWA{a b:Nat}(h:¬a=b):Nat.beq a b=false:=by
 cases e:Nat.beq a b with
 |false=>rfl
 |true=>exact absurd (Nat.eq_of_beq_eq_true e) h
theorem FrOk.put{n:Nat}{ds:List Deferred}{fr:Fr}{a:Act}(h:FrOk n ds fr a){d:Nat}(hd:Nat.blt d n=true)(v:Value):FrOk n ds ((d,v)::fr) (a.put (some d) v):=by
 have hd':d < n:=by simp[Nat.blt]at hd;omega
 refine⟨h.defers,by simp[Act.put,h.size],fun k u e=>?_⟩
 simp only[Fr.get]at e;simp only[Act.put,Array.getElem?_setIfInBounds,h.size]
 by_cases hk:d=k
 ·subst hk;simp at e;subst e;simp[hd']
 rw[if_neg hk];have:Nat.beq d k=false:=aWA hk;rw[this]at e;exact h.get _ _ e
inductive Kp (fr:Fr):Fr→Prop where
 |nil:Kp fr []
 |cons (k:Nat) {v:Value} {fr':Fr}:fr.get k=some v→Kp fr fr'→Kp fr ((k,v)::fr')
theorem Kp.get{fr fr':Fr}(h:Kp fr fr'):∀k v,fr'.get k=some v→fr.get k=some v:=by
 induction h with
 |nil=>intro k v e;cases e
 | @cons k v fr' e _ ih=>
  intro j u hj;simp only[Fr.get]at hj
  by_cases hk:k=j
  ·subst hk;simp at hj;subst hj;exact e
  have:Nat.beq k j=false:=aWA hk;rw[this]at hj;exact ih _ _ hj
theorem FrOk.keep{n:Nat}{ds:List Deferred}{fr fr':Fr}{a:Act}(h:FrOk n ds fr a)(k:Kp fr fr'):FrOk n ds fr' a:=
 ⟨h.defers,h.size,fun j v e=>h.get j v (k.get j v e)⟩
structure Env where
 P:Program
 n:Nat
 ds:List Deferred
 w0:World
 F:Hl
abbrev Post:=Exit→Act→World→Prop
def T(E:Env)(c:Code)(fr:Fr)(K:Hl)(L:List Asn)(Q:Post):Prop:=
 ∀a w,FrOk E.n E.ds fr a→In E.w0 E.F K L w→c.wp E.P Q a w
def OL(E:Env)(ops:Array Oper)(l:List Oper)(fr:Fr)(K:Hl)(L:List Asn)(Q:Post):Prop:=
 ∀a w,FrOk E.n E.ds fr a→In E.w0 E.F K L w→wpList E.P ops Q l a w
def D(E:Env)(x:Exit)(fr:Fr)(K:Hl)(L:List Asn)(Q:Post):Prop:=
 ∀a w,FrOk E.n E.ds fr a→In E.w0 E.F K L w→Q x a w
def Ev(E:Env)(fr:Fr)(K:Hl)(L:List Asn)(o:Oper)(v:Value):Prop:=
 ∀a w,FrOk E.n E.ds fr a→In E.w0 E.F K L w→(execOp a.eval o).run E.P w=.ok (.value v) w
def Ef(E:Env)(fr:Fr)(K:Hl)(L:List Asn)(o:Oper)(Q:Post)(N:Value→Hl→List Asn→Prop):Prop:=
 ∀a w (k:Act→World→Prop),FrOk E.n E.ds fr a→In E.w0 E.F K L w→
  (∀v K' L' w',N v K' L'→K.le K'→In E.w0 E.F K' L' w'→k (a.put o.dst v) w')→o.wp E.P a w k Q∨(o.asks E.P a w∧LetsOut Q)
def EfS(E:Env)(fr:Fr)(K:Hl)(L:List Asn)(o:Oper)(N:Value→Hl→List Asn→Prop):Prop:=
 ∀a w,FrOk E.n E.ds fr a→In E.w0 E.F K L w→∃u w' K' L',((execOp a.eval o).run E.P w=.ok (.value u) w'∨((execOp a.eval o).run E.P w=.ok .skip w'∧u=undef))∧N u K' L'∧K.le K'∧In E.w0 E.F K' L' w'
theorem aZK{E:Env}{fr:Fr}{K:Hl}{L:List Asn}{o:Oper}{Q:Post}{N:Value→Hl→List Asn→Prop}(h:EfS E fr K L o N):Ef E fr K L o Q N:=by
 intro a w k f i hk;obtain⟨u,w',K',L',hr,hn,le,j⟩:=h a w f i;refine .inl ?_;unfold Oper.wp;rcases hr with hr|⟨hr,rfl⟩ <;> rw[hr]
 ·exact hk _ _ _ _ hn le j
 exact hk _ _ _ _ hn le j
def Sp(P:Program)(f:FuncId)(args:List Value)(K:Hl)(L:List Asn)(R:Ending→Hl→List Asn→Prop):Prop:=
 (∃fn,P.funcs[f]?=some fn∧(fn.name== "runtime.NumGoroutine")=false∧fn.body.isSome=true)∧
 ∀F w,In w F K L w→Calls P f args.toArray w fun e w'=>∃K' L',R e K' L'∧K.le K'∧In w F K' L' w'
def Ret(N:Value→Hl→List Asn→Prop):Ending→Hl→List Asn→Prop:=fun e K L=>∃v,e=.returned v∧N v K L
theorem Sp.mono{P:Program}{f:FuncId}{args:List Value}{K:Hl}{L:List Asn}{R R':Ending→Hl→List Asn→Prop}(h:Sp P f args K L R)
  (k:∀e K' L',R e K' L'→R' e K' L'):Sp P f args K L R':=
 ⟨h.1,fun F w i=>(h.2 F w i).mono fun _ _ ⟨K',L',r,le,j⟩=>⟨K',L',k _ _ _ r,le,j⟩⟩
section
variable{E:Env}{fr:Fr}{K:Hl}{L:List Asn}{Q:Post}{c x y:Code}{ops:Array Oper}{rest:List Oper}
theorem kF{L':List Asn}(k:∀h,Sat L h→Sat L' h)(h:T E c fr K L' Q):T E c fr K L Q:=fun a w f i=>h a w f (i.imp k)
theorem aH(h:T E x fr K L (Exit.then (fun a w=>y.wp E.P Q a w) Q)):T E (.seq x y) fr K L Q:=fun a w f i=>wp_seq (h a w f i)
theorem aW(h:D E .normal fr K L Q):T E .skip fr K L Q:=fun a w f i=>wp_skip (h a w f i)
theorem cM{id:Nat}(h:D E (.exit id) fr K L Q):T E (.exit id) fr K L Q:=fun a w f i=>wp_exit (h a w f i)
theorem bG(h:D E .ret fr K L Q):T E .ret fr K L Q:=fun a w f i=>wp_ret (h a w f i)
theorem bB{id:Nat}(h:T E c fr K L (Exit.inBlock id Q)):T E (.block id c) fr K L Q:=fun a w f i=>wp_block (h a w f i)
theorem FrOk.known{n:Nat}{ds:List Deferred}{a:Act}(f:FrOk n ds fr a){d:Nat}{b c:Bool}(e:fr.get d=some (.bool b))(hc:b=c):FrOk n ds ((d,.bool c)::fr) a:=
 ⟨f.defers, f.size, fun k v h => by
  simp only[Fr.get]at h
  by_cases hk:d=k
  ·subst hk;simp at h;subst h;rw[←hc];exact f.get _ _ e
  rw[aWA hk]at h;exact f.get _ _ h⟩
theorem eO(d:Nat){b:Bool}(e:fr.get d=some (.bool b))(ht:b=true→T E x ((d,.bool true)::fr) K L Q)(hf:b=false→T E y ((d,.bool false)::fr) K L Q):T E (.cond (.tmp d) x y) fr K L Q:=by
 intro a w f i;have ev:fr.ev (.tmp d)=some (.bool b):=e;cases b
 ·exact wp_cond_false (f.ev ev) (hf rfl a w (f.known e rfl) i)
 exact wp_cond_true (f.ev ev) (ht rfl a w (f.known e rfl) i)
theorem bK(d:Nat){p:Prop}[Decidable p](e:fr.get d=some (.bool (decide p)))(ht:p→T E x ((d,.bool true)::fr) K L Q)(hf:¬p→T E y ((d,.bool false)::fr) K L Q):T E (.cond (.tmp d) x y) fr K L Q:=
 eO d e (fun h=>ht (of_decide_eq_true h)) (fun h=>hf (of_decide_eq_false h))
theorem dS{o:Operand}(e:fr.ev o=some (.bool true))(h:T E x fr K L Q):T E (.cond o x y) fr K L Q:=fun a w f i=>wp_cond_true (f.ev e) (h a w f i)
theorem cI{o:Operand}(e:fr.ev o=some (.bool false))(h:T E y fr K L Q):T E (.cond o x y) fr K L Q:=fun a w f i=>wp_cond_false (f.ev e) (h a w f i)
theorem aE(h:T E y fr K L Q):D E .normal fr K L (Exit.then (fun a w=>y.wp E.P Q a w) Q):=h
theorem aR{id:Nat}{next:Act→World→Prop}(h:D E (.exit id) fr K L Q):D E (.exit id) fr K L (Exit.then next Q):=h
theorem aY{next:Act→World→Prop}(h:D E .ret fr K L Q):D E .ret fr K L (Exit.then next Q):=h
theorem aO{id:Nat}(h:D E .normal fr K L Q):D E .normal fr K L (Exit.inBlock id Q):=h
theorem bU{id:Nat}(h:D E .ret fr K L Q):D E .ret fr K L (Exit.inBlock id Q):=h
theorem bC{id:Nat}(h:D E .normal fr K L Q):D E (.exit id) fr K L (Exit.inBlock id Q):=fun a w f i=>by
 show (if id=id then Q .normal a w else _);rw[if_pos rfl];exact h a w f i
def Mid(E:Env){ι:Type}(I:ι→Prop)(fr:ι→Fr)(K:ι→Hl)(L:ι→List Asn):Act→World→Prop:=fun a w=>∃i,I i∧FrOk E.n E.ds (fr i) a∧In E.w0 E.F (K i) (L i) w
theorem gV{ι:Type}(I:ι→Prop)(fr':ι→Fr)(K':ι→Hl)(L':ι→List Asn)(h1:T E x fr K L (Exit.then (Mid E I fr' K' L') Q))(h2:∀i,I i→T E y (fr' i) (K' i) (L' i) Q):
  T E (.seq x y) fr K L Q:=by
 intro a w f i;refine wp_seq (Code.wp_mono (fun e a w q=>?_) (h1 a w f i))
 cases e <;> first|exact q|(obtain⟨j,hj,fj,ij⟩:=q;exact h2 j hj _ _ fj ij)
theorem cN{ι:Type}{I:ι→Prop}{fr':ι→Fr}{K':ι→Hl}{L':ι→List Asn}(i:ι)(hi:I i)(k:Kp fr (fr' i))(hK:K' i=K)(hL:∀h,Sat L h→Sat (L' i) h):
  D E .normal fr K L (Exit.then (Mid E I fr' K' L') Q):=fun a w f j=>⟨i,hi,f.keep k,by rw[hK];exact j.imp hL⟩
theorem eJ{ι:Type}(I:ι→Prop)(fr':ι→Fr)(K':ι→Hl)(L':ι→List Asn)(μ:ι→Nat)(i0:ι)(h0:I i0)(k:Kp fr (fr' i0))(hK:K' i0=K)(hL:∀h,Sat L h→Sat (L' i0) h)
  (round:∀i,I i→T E c (fr' i) (K' i) (L' i) (Exit.then (fun a w=>∃j,I j∧μ j < μ i∧FrOk E.n E.ds (fr' j) a∧In E.w0 E.F (K' j) (L' j) w) Q)):T E (.loop c) fr K L Q:=by
 intro a w f i b kk cs;have key:∀n j,μ j=n→I j→∀a w,FrOk E.n E.ds (fr' j) a→In E.w0 E.F (K' j) (L' j) w→
   ∃e a' w',Q e a' w'∧Arrives E.P (lone (b.at a (.code c::.inLoop c::kk)) cs w) b kk cs e a' w':=by
  intro n;induction n using Nat.strongRecOn with
  |_ n ih=>
   intro j hj hIj a w f i;obtain⟨e,a₁,w₁,hq,harr⟩:=round j hIj a w f i b (.inLoop c::kk) cs;cases e with
   |normal=>
    obtain⟨j',hI',hlt,f',i'⟩:=hq;obtain⟨e₂,a₂,w₂,hq₂,harr₂⟩:=ih _ (hj▸hlt) j' rfl hI' _ _ f' i';exact⟨e₂,a₂,w₂,hq₂,.of_steps (Steps.trans harr (.one step_inLoop)) harr₂⟩
   |exit id=>exact⟨_,a₁,w₁,hq,.pass (x:=.inLoop c) rfl (fun _ _=>.inl (by simp)) harr⟩
   |goto l=>exact⟨_,a₁,w₁,hq,.pass (x:=.inLoop c) rfl (fun _ _=>.inl (by simp)) harr⟩
   |ret=>exact⟨_,a₁,w₁,hq,.pass (x:=.inLoop c) rfl (fun _ _=>.inl (by simp)) harr⟩
   |panic ch=>exact⟨_,a₁,w₁,hq,.pass (x:=.inLoop c) rfl (fun _ _=>.inl (by simp)) harr⟩
   |outgrown=>exact⟨_,a₁,w₁,hq,.pass (x:=.inLoop c) rfl (fun _ _=>.inl (by simp)) harr⟩
 obtain⟨e,a',w',hq,harr⟩:=key _ i0 rfl h0 a w (f.keep k) (by rw[hK];exact i.imp hL);exact⟨e,a',w',hq,.of_steps (.one step_loop) harr⟩
theorem dF{ι:Type}{I:ι→Prop}{fr':ι→Fr}{K':ι→Hl}{L':ι→List Asn}{μ:ι→Nat}{m:Nat}(j:ι)(hj:I j)(hlt:μ j < m)(k:Kp fr (fr' j))(hK:K' j=K)(hL:∀h,Sat L h→Sat (L' j) h):
  D E .normal fr K L (Exit.then (fun a w=>∃j,I j∧μ j < m∧FrOk E.n E.ds (fr' j) a∧In E.w0 E.F (K' j) (L' j) w) Q):=
 fun a w f i=>⟨j,hj,hlt,f.keep k,by rw[hK];exact i.imp hL⟩
theorem aC{id:Nat}{l:List Oper}(h:OL E l.toArray l fr K L Q):T E (.region id l.toArray false) fr K L Q:=fun a w f i=>wp_region_lit (h a w f i)
theorem aG(h:D E .normal fr K L Q):OL E ops [] fr K L Q:=fun a w f i=>wpList_nil (h a w f i)
theorem kB{l:List Oper}{L':List Asn}(k:∀h,Sat L h→Sat L' h)(h:OL E ops l fr K L' Q):OL E ops l fr K L Q:=fun a w f i=>h a w f (i.imp k)
theorem aA{d:Nat}{op:Op}{ty:TypeId}{pos:String}{aft:Array Edge}{v:Value}(hv:Ev E fr K L ⟨some d,op,ty,pos,aft,none⟩ v)(hd:Nat.blt d E.n=true)
  (h:OL E ops rest ((d,v)::fr) K L Q):OL E ops (⟨some d,op,ty,pos,aft,none⟩::rest) fr K L Q:=by
 intro a w f i;refine wpList_plain rfl fun k hk=>?_;unfold Oper.wp;rw[hv a w f i];exact hk _ _ (h _ _ (f.put hd v) i)
theorem aN1{d:Nat}{op:Op}{ty:TypeId}{pos:String}{aft:Array Edge}{N:Value→Hl→List Asn→Prop}(hv:Ef E fr K L ⟨some d,op,ty,pos,aft,none⟩ Q N)(hd:Nat.blt d E.n=true)
  (h:∀v K' L',N v K' L'→K.le K'→OL E ops rest ((d,v)::fr) K' L' Q):OL E ops (⟨some d,op,ty,pos,aft,none⟩::rest) fr K L Q:=by
 intro a w f i;unfold wpList;rw[if_pos (show Region.wanted _ _=true from rfl)];exact hv a w _ f i fun v K' L' w' n le j=>h v K' L' n le _ _ (f.put hd v) j
theorem bRJ{op:Op}{ty:TypeId}{pos:String}{aft:Array Edge}{N:Value→Hl→List Asn→Prop}(hv:Ef E fr K L ⟨none,op,ty,pos,aft,none⟩ Q N)
  (h:∀v K' L',N v K' L'→K.le K'→OL E ops rest fr K' L' Q):OL E ops (⟨none,op,ty,pos,aft,none⟩::rest) fr K L Q:=by
 intro a w f i;unfold wpList;rw[if_pos (show Region.wanted _ _=true from rfl)];exact hv a w _ f i fun v K' L' w' n le j=>h v K' L' n le _ _ f j
theorem cC{d:Nat}{op:Op}{ty:TypeId}{pos:String}{aft:Array Edge}{N:Value→Hl→List Asn→Prop}(hv:EfS E fr K L ⟨some d,op,ty,pos,aft,none⟩ N)(hd:Nat.blt d E.n=true)
  (h:∀v K' L',N v K' L'→K.le K'→OL E ops rest ((d,v)::fr) K' L' Q):OL E ops (⟨some d,op,ty,pos,aft,none⟩::rest) fr K L Q:=aN1 (aZK hv) hd h
theorem cA{op:Op}{ty:TypeId}{pos:String}{aft:Array Edge}{N:Value→Hl→List Asn→Prop}(hv:EfS E fr K L ⟨none,op,ty,pos,aft,none⟩ N)
  (h:∀v K' L',N v K' L'→K.le K'→OL E ops rest fr K' L' Q):OL E ops (⟨none,op,ty,pos,aft,none⟩::rest) fr K L Q:=bRJ (aZK hv) h
theorem l8{b:Nat}{o:Obj}(h:∀K',K.le K'→K' b=some o→T E c fr K' L Q):T E c fr K (pt b o::L) Q:=fun a w f i=>let ⟨h1,h2,h3⟩:=i.settle;h _ h1 h2 a w f h3
theorem fT{l:List Oper}{b:Nat}{o:Obj}(h:∀K',K.le K'→K' b=some o→OL E ops l fr K' L Q):OL E ops l fr K (pt b o::L) Q:=fun a w f i=>let ⟨h1,h2,h3⟩:=i.settle;h _ h1 h2 a w f h3
def exA{ι:Type}(Ls:ι→List Asn):Asn:=fun h=>∃i,Sat (Ls i) h
theorem oW{ι:Type}{Ls:ι→List Asn}{M:List Asn}{h:Hl}:Sat (exA Ls::M) h↔∃i,Sat (Ls i++M) h:=by
 constructor
 ·rintro⟨a,m,⟨i,hi⟩,hm,hd,rfl⟩;exact⟨i,gE.2 ⟨a,m,hi,hm,hd,rfl⟩⟩
 rintro⟨i,hi⟩;obtain⟨a,m,ha,hm,hd,rfl⟩:=gE.1 hi;exact⟨a,m,⟨i,ha⟩,hm,hd,rfl⟩
theorem In.ex{ι:Type}{Ls:ι→List Asn}{M:List Asn}{w0 w:World}{F:Hl}(j:In w0 F K (exA Ls::M) w):∃i,In w0 F K (Ls i++M) w:=
 let ⟨h,hs,r⟩:=j.rep;let ⟨i,hi⟩:=oW.1 hs;⟨i,j.os,j.tape,j.output,j.size,h,hi,r⟩
theorem vY{ι:Type}{Ls:ι→List Asn}(h:∀i,T E c fr K (Ls i++L) Q):T E c fr K (exA Ls::L) Q:=fun a w f j=>let ⟨i,ji⟩:=j.ex;h i a w f ji
theorem lE{l:List Oper}(d:Nat){b:Bool}(e:fr.get d=some (.bool b))(ht:b=true→OL E ops l ((d,.bool true)::fr) K L Q)(hf:b=false→OL E ops l ((d,.bool false)::fr) K L Q):OL E ops l fr K L Q:=by
 intro a w f i;have key : ∀ c, b = c → FrOk E.n E.ds ((d, .bool c) :: fr) a := fun c hc => ⟨f.defers, f.size, fun k v h => by
  simp only[Fr.get]at h
  by_cases hk:d=k
  ·subst hk;simp at h;subst h;rw[←hc];exact f.get _ _ e
  rw[aWA hk]at h;exact f.get _ _ h⟩
 cases b
 ·exact hf rfl a w (key _ rfl) i
 exact ht rfl a w (key _ rfl) i
theorem cH{l:List Oper}(d:Nat){p:Prop}[Decidable p](e:fr.get d=some (.bool (decide p)))(ht:p→OL E ops l ((d,.bool true)::fr) K L Q)(hf:¬p→OL E ops l ((d,.bool false)::fr) K L Q):OL E ops l fr K L Q:=
 lE d e (fun h=>ht (of_decide_eq_true h)) (fun h=>hf (of_decide_eq_false h))
theorem aT{dst:Option Tmp}{op:Op}{ty:TypeId}{pos:String}{aft:Array Edge}{g dg:Nat}{b:Bool}(hg:(ops[g]?).bind (·.dst)=some dg)(hb:fr.get dg=some (.bool b))
  (h:OL E ops (⟨dst,op,ty,pos,aft,none⟩::rest) fr K L Q):OL E ops (⟨dst,op,ty,pos,aft,some (g,b)⟩::rest) fr K L Q:=by
 intro a w f i;have:=h a w f i;have hw:Region.wanted ⟨dst,op,ty,pos,aft,some (g,b)⟩ (yielded ops a.tmps)=true:=by
  simp[Region.wanted,yielded,hg,f.get _ _ hb]
 unfold wpList at this ⊢;rw[if_pos hw];rw[if_pos (by rfl)]at this;exact this
theorem aS{d:Nat}{op:Op}{ty:TypeId}{pos:String}{aft:Array Edge}{g dg:Nat}{b:Bool}(hg:(ops[g]?).bind (·.dst)=some dg)(hb:fr.get dg=some (.bool (!b)))(hd:Nat.blt d E.n=true)
  (h:OL E ops rest ((d,undef)::fr) K L Q):OL E ops (⟨some d,op,ty,pos,aft,some (g,b)⟩::rest) fr K L Q:=by
 intro a w f i;have hw:Region.wanted ⟨some d,op,ty,pos,aft,some (g,b)⟩ (yielded ops a.tmps)=false:=by
  simp[Region.wanted,yielded,hg,f.get _ _ hb]
 exact wpList_skip hw (h _ _ (f.put hd undef) i)
theorem fP{d:Nat}{op:Op}{ty:TypeId}{pos:String}{aft:Array Edge}{g dg:Nat}{b:Bool}(hg:(ops[g]?).bind (·.dst)=some dg)(hb:fr.get dg=some undef)(hd:Nat.blt d E.n=true)
  (h:OL E ops rest ((d,undef)::fr) K L Q):OL E ops (⟨some d,op,ty,pos,aft,some (g,b)⟩::rest) fr K L Q:=by
 intro a w f i;have hw:Region.wanted ⟨some d,op,ty,pos,aft,some (g,b)⟩ (yielded ops a.tmps)=false:=by
  simp[Region.wanted,yielded,hg,f.get _ _ hb,undef]
 exact wpList_skip hw (h _ _ (f.put hd undef) i)
theorem yY{P:Program}{f:FuncId}{vs:Array Value}{fn:Func}(hf:P.funcs[f]?=some fn)(hn:(fn.name== "runtime.NumGoroutine")=false)(hb:fn.body.isSome=true)(w:World):
  (callFunc f vs).run P w=.ok (.enter f vs) w:=by
 have hb':fn.body.isNone=false:=by cases h:fn.body <;> simp_all
 show Sem.run P (match P.funcs[f]? with|none=>_|some fn=>_) w=_
 rw[hf];simp only[hn,hb',Bool.false_eq_true,if_false]
 rfl
theorem vH{fv:Operand}{xs:List Operand}{ats:Array TypeId}{f:FuncId}{caps:Array Value}{vs:List Value}{dst:Option Tmp}{ty:TypeId}{pos:String}{aft:Array Edge}{g:Option (Nat×Bool)}{R:Ending→Hl→List Asn→Prop}{L1:List Asn}
  (hf:fr.ev fv=some (.func (.func f) #[] caps)) (hx:fr.evs xs=some vs) (hs:Sp E.P f (vs++caps.toList) K L1 R) {a:Act} (fo:FrOk E.n E.ds fr a) (w:World):
  (execOp a.eval ⟨dst,.call ⟨.value fv,xs.toArray,ats⟩,ty,pos,aft,g⟩).run E.P w=.ok (.enter f (vs++caps.toList).toArray) w:=by
 obtain⟨⟨fn,h1,h2,h3⟩,hs⟩:=hs;have e1:Array.map a.eval xs.toArray=vs.toArray:=by simp[fo.evs hx]
 have e2:([]++vs).toArray++caps=(vs++caps.toList).toArray:=by simp
 simp only[execOp,resolve,e1,fo.ev hf,Deferred.ofValue,bind,pure,Sem.bind,invoke,List.append_toArray];rw[e2];exact yY h1 h2 h3 w
theorem aPN{dst:Option Tmp}{ty:TypeId}{pos:String}{aft:Array Edge}{g:Option (Nat×Bool)}{fv:Operand}{xs:List Operand}{ats:Array TypeId}{f:FuncId}{caps:Array Value}{vs:List Value}{L1 L2:List Asn}
  {R:Ending→Hl→List Asn→Prop} {N:Value→Hl→List Asn→Prop}
  (hf:fr.ev fv=some (.func (.func f) #[] caps)) (hx:fr.evs xs=some vs) (hL:Tks L1 L L2)
  (hs:Sp E.P f (vs++caps.toList) K L1 R)
  (hret:∀v K' L',R (.returned v) K' L'→N v K' (L'++L2))
  (hpan:∀ch K' L',R (.panicked ch) K' L'→K.le K'→D E (.panic ch) fr K' (L'++L2) Q)
  (hout:∀K' L',R .outgrown K' L'→LetsOut Q):
  Ef E fr K L ⟨dst,.call ⟨.value fv,xs.toArray,ats⟩,ty,pos,aft,g⟩ Q N:=by
 intro a w k fo i hk;obtain⟨F',i1,back⟩:=(i.imp hL.sat).hide;refine .inl ?_;unfold Oper.wp;rw[vH hf hx hs fo w];refine(hs.2 F' w i1).mono fun e w' ⟨K',L',r,le,j⟩=>?_;cases e with
 |returned v=>exact hk _ _ _ _ (hret _ _ _ r) le (back j)
 |panicked ch=>exact hpan _ _ _ r le _ _ fo (back j)
 |outgrown=>exact hout _ _ r
theorem aX{d:Nat}{ty:TypeId}{pos:String}{aft:Array Edge}{fv:Operand}{xs:List Operand}{ats:Array TypeId}{f:FuncId}{caps:Array Value}{vs:List Value}{L1 L2:List Asn}{N:Value→Hl→List Asn→Prop}
  (hf:fr.ev fv=some (.func (.func f) #[] caps)) (hx:fr.evs xs=some vs) (hs:Sp E.P f (vs++caps.toList) K L1 (Ret N)) (hL:Tks L1 L L2) (hd:Nat.blt d E.n=true)
  (h:∀v K' L',N v K' L'→K.le K'→OL E ops rest ((d,v)::fr) K' (L'++L2) Q):OL E ops (⟨some d,.call ⟨.value fv,xs.toArray,ats⟩,ty,pos,aft,none⟩::rest) fr K L Q:=
 aN1 (aPN (N:=fun v K' L''=>∃L',L''=L'++L2∧N v K' L') hf hx hL hs (fun v K' L' ⟨u,e,n⟩=>by cases e;exact⟨L',rfl,n⟩) (fun ch K' L' ⟨u,e,n⟩=>by cases e) (fun K' L' ⟨u,e,n⟩=>by cases e)) hd
  (fun v K' L'' ⟨L',e,n⟩ le=>by subst e;exact h v K' L' n le)
def Val(v:Value)(K:Hl):Ending→Hl→List Asn→Prop:=fun e K' L'=>e=.returned v∧K'=K∧L'=[]
theorem cF{d:Nat}{ty:TypeId}{pos:String}{aft:Array Edge}{fv:Operand}{xs:List Operand}{ats:Array TypeId}{f:FuncId}{caps:Array Value}{vs:List Value}{v:Value}
  (hf:fr.ev fv=some (.func (.func f) #[] caps)) (hx:fr.evs xs=some vs) (hs:Sp E.P f (vs++caps.toList) K [] (Val v K)) (hd:Nat.blt d E.n=true)
  (h:OL E ops rest ((d,v)::fr) K L Q):OL E ops (⟨some d,.call ⟨.value fv,xs.toArray,ats⟩,ty,pos,aft,none⟩::rest) fr K L Q:=
 aN1 (aPN (N:=fun u K' L''=>u=v∧K'=K∧L''=L) hf hx .nil hs (fun u K' L' ⟨e,e2,e3⟩=>by cases e;subst e3;exact⟨rfl,e2,rfl⟩) (fun ch K' L' ⟨e,_⟩=>by cases e) (fun K' L' ⟨e,_⟩=>by cases e)) hd
  (fun u K' L'' ⟨e1,e2,e3⟩ _=>by subst e1;subst e2;subst e3;exact h)
def yK(P:Program)(fn:Func)(w0:World)(F K0:Hl)(R:Ending→Hl→List Asn→Prop):Post:=
 bodyPost P fn fun e w'=>∃K' L',R e K' L'∧K0.le K'∧In w0 F K' L' w'
def Fr.init:Nat→List Value→Nat→Fr
 |i,v::vs,n=>(i,v)::Fr.init (i+1) vs n
 |_,[],_=>[]
theorem zI{vs:List Value}:∀ {i n:Nat} {k:Nat} {v:Value},(Fr.init i vs n).get k=some v→i≤k∧vs[k - i]?=some v:=by
 induction vs with
 |nil=>intro i n k v e;simp[Fr.init,Fr.get]at e
 |cons u vs ih=>
  intro i n k v e;simp only[Fr.init,Fr.get]at e
  by_cases hk:i=k
  ·subst hk;simp at e;subst e;simp
  rw[aWA hk]at e;obtain⟨h1,h2⟩:=ih e;refine⟨by omega,?_⟩
  have:k - i=(k - (i+1))+1:=by omega
  rw[this];simpa using h2
theorem a8{P:Program}{f:FuncId}{fn:Func}{c:Code}{args:List Value}{n:Nat}{K:Hl}{L:List Asn}{R:Ending→Hl→List Asn→Prop}
  (hf:P.funcs[f]?=some fn) (hb:fn.body=some c) (hn:fn.ntmps=n) (hl:Nat.ble args.length n=true) (hname:(fn.name== "runtime.NumGoroutine")=false)
  (h:∀(F:Hl) (w:World),T ⟨P,n,[],w,F⟩ c (Fr.init 0 args n) K L (yK P fn w F K R)):Sp P f args K L R:=by
 refine⟨⟨fn,hf,hname,by simp[hb]⟩,fun F w i=>calls_of_wp hf hb (h F w _ _ ⟨rfl,?_,?_⟩ i)⟩
 ·have:args.length≤n:=Nat.le_of_ble_eq_true hl;simp[hn];omega
 intro k v e;obtain⟨_,h2⟩:=zI e;have hk:k < args.length:=by
  rcases Nat.lt_or_ge k args.length with h|h
  ·exact h
  simp[List.getElem?_eq_none h]at h2
 show (args.toArray++Array.replicate _ _)[k]?=some v
 rw[Array.getElem?_append_left gCE]
 simpa using h2
section
variable{P:Program}{fn:Func}{n:Nat}{w0:World}{F K0 K:Hl}{fr:Fr}{L:List Asn}{R:Ending→Hl→List Asn→Prop}
theorem dK(hr:fn.results= #[])(le:K0.le K)(h:R (.returned (.tuple #[])) K L):D ⟨P,n,[],w0,F⟩ .normal fr K L (yK P fn w0 F K0 R):=
 fun a w f i=>⟨f.defers,_,results_none hr _ _ _,K,L,h,le,i⟩
theorem bD{t:Nat}{v:Value}(hr:fn.results= #[.tmp t])(ht:fr.get t=some v)(le:K0.le K)(h:R (.returned v) K L):D ⟨P,n,[],w0,F⟩ .ret fr K L (yK P fn w0 F K0 R):=
 fun a w f i=>⟨f.defers,v,by rw[results_tmp hr];simp[f.get _ _ ht],K,L,h,le,i⟩
theorem fA{t u:Nat}{v x:Value}(hr:fn.results= #[.tmp t,.tmp u])(ht:fr.get t=some v)(hu:fr.get u=some x)(le:K0.le K)(h:R (.returned (.tuple #[v,x])) K L):
  D ⟨P,n,[],w0,F⟩ .ret fr K L (yK P fn w0 F K0 R):=
 fun a w f i=>⟨f.defers,_,by rw[results_tmp2 hr];simp[f.get _ _ ht,f.get _ _ hu],K,L,h,le,i⟩
end
end
abbrev str(l:List UInt8):Value:=.string ⟨l.toArray⟩
abbrev i64(n:Int):Value:=.int .i64 n
abbrev ptr(b:Nat)(o:Nat:=0):Value:=.pointer (some ⟨b,o,none⟩)
abbrev aZ(l:List Value)(t:TypeId)(f:Nat×Nat:=(0,0)):Obj:=.cells l.toArray t f
def eZ(P:Program)(t:TypeId):Bool:=
 match P.underlying t,P.info? t with
 |some (.struct _),_=>false
 |some (.array _ _),_=>false
 |some _,some i=>i.size==1
 |_,_=>false
def aggB(P:Program)(t n:Nat):Bool:=
 match P.underlying t,P.info? t with
 |some (.struct _),some i=>i.size==n
 |some (.array _ _),some i=>i.size==n
 |_,_=>false
def cT(P:Program)(s i off:Nat):Bool:=
 match P.underlying s with
 |some (.struct fs)=>match fs[i]? with
  |some f=>f.offset==off&&(match P.info? f.type with|some ti=>ti.size !=0|none=>false)
  |none=>false
 |_=>false
def jS(P:Program)(t e sz:Nat):Bool:=
 match P.underlying t,P.info? e with
 |some (.slice e'),some i=>e'==e&&i.size==sz
 |_,_=>false
theorem rM{P:Program}{t:TypeId}(h:eZ P t=true)(w:World):(isAgg t).run P w=.ok false w∧(sizeOf t).run P w=.ok 1 w:=by
 unfold eZ at h;unfold isAgg sizeOf typeInfo underlying program;cases hu:P.underlying t with
 |none=>simp[hu]at h
 |some d=>cases hi:P.info? t with
  |none=>cases d <;> simp[hu,hi]at h
  |some i=>cases d <;> simp[hu,hi]at h <;> simp[Sem.run,hu,hi,bind,Sem.bind,pure,h]
theorem aIF{P:Program}{t n:Nat}(h:aggB P t n=true)(w:World):(isAgg t).run P w=.ok true w∧(sizeOf t).run P w=.ok n w:=by
 unfold aggB at h;unfold isAgg sizeOf typeInfo underlying program;cases hu:P.underlying t with
 |none=>simp[hu]at h
 |some d=>cases hi:P.info? t with
  |none=>cases d <;> simp[hu,hi]at h
  |some i=>cases d <;> simp[hu,hi]at h <;> simp[Sem.run,hu,hi,bind,Sem.bind,pure,h]
theorem run_bind{α β:Type}{P:Program}(m:Sem α)(f:α→Sem β)(w:World):(m>>=f).run P w=match m.run P w with| .ok a w'=>(f a).run P w'| .halt h w'=>.halt h w':=by
 show (Sem.bind m f).run P w=_
 induction m generalizing w with
 |pure a=>rfl
 |load md a k ih=>
  simp only[Sem.bind,Sem.run];cases w.cell? a with
  |some v=>exact ih v w
  |none=>cases w.farLoad P a (md==.atomic)with
   |ok r=>exact ih r.1 w
   |error e=>rfl
 |store md a v k ih=>
  cases v <;> simp only[Sem.bind,Sem.run] <;> (first|rfl|skip) <;>
   (cases w.cell? a with
    |some u=>(by_cases hf:w.frozen? a=true <;> simp only[hf,if_true,if_false,Bool.false_eq_true] <;> first|rfl|exact ih _)
    |none=>(simp only[];split <;> first|exact ih _|rfl))
 |new o k ih=>exact ih _ _
 |shape r k ih=>exact ih _ _
 |freeze a n k ih=>exact ih _
 |frozen a k ih=>exact ih _ _
 |getObj r k ih=>
  simp only[Sem.bind,Sem.run];cases w.heap[r]? with
  |none=>rfl
  |some o=>cases o <;> first|rfl|exact ih _ _
 |setObj r o k ih=>
  simp only[Sem.bind,Sem.run];cases w.heap[r]? with
  |none=>rfl
  |some o=>cases o <;> first|rfl|exact ih _
 |choose q k ih=>
  simp only[Sem.bind,Sem.run];split <;> exact ih _ _
 |sys c k ih=>exact ih _ _
 |program k ih=>exact ih _ _
 |mark m k ih=>exact ih _
 |halt h=>rfl
theorem aV{α β:Type}{P:Program}{m:Sem α}{f:α→Sem β}{w w':World}{x:α}(h:m.run P w=.ok x w'):(m>>=f).run P w=(f x).run P w':=by
 rw[run_bind,h]
theorem vS{α:Type}{P:Program}(x:α)(w:World):(pure x:Sem α).run P w=.ok x w:=rfl
section
variable{E:Env}{fr:Fr}{K:Hl}{L:List Asn}{Q:Post}{dst:Option Tmp}{ty:TypeId}{pos:String}{aft:Array Edge}{g:Option (Nat×Bool)}
theorem eR{P:Program}{m:Sem Value}{v:Value}{w w':World}(h:m.run P w=.ok v w'):(do pure (Next.value (←m)):Sem Next).run P w=.ok (.value v) w':=by
 rw[aV h];rfl
theorem aB{x:Operand}{v:Value}(h:fr.ev x=some v):Ev E fr K L ⟨dst,.move x,ty,pos,aft,g⟩ v:=fun a w f _=>by simp only[execOp,f.ev h];rfl
theorem aD{x:Operand}{v:Value}(h:fr.ev x=some v):Ev E fr K L ⟨dst,.assign x,ty,pos,aft,g⟩ v:=fun a w f _=>by simp only[execOp,f.ev h];rfl
theorem bI{c x y:Operand}{v:Value}(hc:fr.ev c=some (.bool true))(h:fr.ev x=some v):Ev E fr K L ⟨dst,.pick c x y,ty,pos,aft,g⟩ v:=fun a w f _=>by
 simp only[execOp,f.ev h,f.ev hc];rfl
theorem bA{c x y:Operand}{v:Value}(hc:fr.ev c=some (.bool false))(h:fr.ev y=some v):Ev E fr K L ⟨dst,.pick c x y,ty,pos,aft,g⟩ v:=fun a w f _=>by
 simp only[execOp,f.ev h,f.ev hc];rfl
theorem gT{op:BinOp}{x y:Operand}{t t':TypeId}{u v r:Value}(hx:fr.ev x=some u)(hy:fr.ev y=some v)
  (hg:∀w,(eqGuard op t x y u v).run E.P w=.ok () w) (hr:∀w,(binOp op t u v).run E.P w=.ok r w):Ev E fr K L ⟨dst,.binOp op t x y t',ty,pos,aft,g⟩ r:=by
 intro a w f _;simp only[execOp,f.ev hx,f.ev hy];refine eR ?_;rw[aV (hg w)];exact hr w
theorem jR{op:BinOp}{t:TypeId}{x y:Operand}{k k':IntKind}{m n:Int}{P:Program}(w:World):(eqGuard op t x y (.int k m) (.int k' n)).run P w=.ok () w:=by
 unfold eqGuard;cases op <;> rfl
theorem aA5{op:BinOp}{t:TypeId}{x y:Operand}{m n:ByteArray}{P:Program}(w:World):(eqGuard op t x y (.string m) (.string n)).run P w=.ok () w:=by
 unfold eqGuard;cases op <;> rfl
theorem qG{n:Int}(h1: -9223372036854775808≤n)(h2:n≤9223372036854775807):IntKind.i64.wrap n=n:=by
 unfold IntKind.wrap IntKind.bits IntKind.signed;simp only[Bool.true_and];split <;> simp_all <;> omega
variable{x y:Operand}{t t':TypeId}{m n:Int}{k:IntKind}
theorem aZR(hx:fr.ev x=some (.int k m))(hy:fr.ev y=some (.int k n)):Ev E fr K L ⟨dst,.binOp .add t x y t',ty,pos,aft,g⟩ (.int k (k.wrap (m+n))):=
 gT hx hy jR fun w=>by simp[binOp,Op.intArith,pure]
theorem aD4(hx:fr.ev x=some (.int k m))(hy:fr.ev y=some (.int k n)):Ev E fr K L ⟨dst,.binOp .sub t x y t',ty,pos,aft,g⟩ (.int k (k.wrap (m - n))):=
 gT hx hy jR fun w=>by simp[binOp,Op.intArith,pure]
theorem aPR(hx:fr.ev x=some (.int k m))(hy:fr.ev y=some (.int k n)):Ev E fr K L ⟨dst,.binOp .mul t x y t',ty,pos,aft,g⟩ (.int k (k.wrap (m*n))):=
 gT hx hy jR fun w=>by simp[binOp,Op.intArith,pure]
theorem bW(hx:fr.ev x=some (i64 m))(hy:fr.ev y=some (i64 n))(h1: -9223372036854775808≤m+n)(h2:m+n≤9223372036854775807):
  Ev E fr K L ⟨dst,.binOp .add t x y t',ty,pos,aft,g⟩ (i64 (m+n)):=by have:=aZR (E:=E) (K:=K) (L:=L) (dst:=dst) (ty:=ty) (pos:=pos) (aft:=aft) (g:=g) (t:=t) (t':=t') hx hy;rwa [qG h1 h2]at this
theorem kT(hx:fr.ev x=some (i64 m))(hy:fr.ev y=some (i64 n))(h1: -9223372036854775808≤m - n)(h2:m - n≤9223372036854775807):
  Ev E fr K L ⟨dst,.binOp .sub t x y t',ty,pos,aft,g⟩ (i64 (m - n)):=by have:=aD4 (E:=E) (K:=K) (L:=L) (dst:=dst) (ty:=ty) (pos:=pos) (aft:=aft) (g:=g) (t:=t) (t':=t') hx hy;rwa [qG h1 h2]at this
theorem cP(hx:fr.ev x=some (.int k m))(hy:fr.ev y=some (.int k n)):Ev E fr K L ⟨dst,.binOp .lss t x y t',ty,pos,aft,g⟩ (.bool (decide (m < n))):=
 gT hx hy jR fun w=>by simp[binOp,Op.intCmp,pure]
theorem iW(hx:fr.ev x=some (.int k m))(hy:fr.ev y=some (.int k n)):Ev E fr K L ⟨dst,.binOp .leq t x y t',ty,pos,aft,g⟩ (.bool (decide (m≤n))):=
 gT hx hy jR fun w=>by simp[binOp,Op.intCmp,pure]
theorem gD(hx:fr.ev x=some (.int k m))(hy:fr.ev y=some (.int k n)):Ev E fr K L ⟨dst,.binOp .gtr t x y t',ty,pos,aft,g⟩ (.bool (decide (n < m))):=
 gT hx hy jR fun w=>by simp[binOp,Op.intCmp,pure]
theorem iQ(hx:fr.ev x=some (.int k m))(hy:fr.ev y=some (.int k n)):Ev E fr K L ⟨dst,.binOp .geq t x y t',ty,pos,aft,g⟩ (.bool (decide (n≤m))):=
 gT hx hy jR fun w=>by simp[binOp,Op.intCmp,pure]
theorem bLY(m n:Int):(m==n)=decide (m=n):=by by_cases h:m=n <;> simp[h]
theorem bZ(hx:fr.ev x=some (.int k m))(hy:fr.ev y=some (.int k n)):Ev E fr K L ⟨dst,.binOp .eql t x y t',ty,pos,aft,g⟩ (.bool (decide (m=n))):=
 gT hx hy jR fun w=>by simp[binOp,Op.intCmp,←bLY,pure]
theorem eB(hx:fr.ev x=some (.int k m))(hy:fr.ev y=some (.int k n)):Ev E fr K L ⟨dst,.binOp .neq t x y t',ty,pos,aft,g⟩ (.bool (decide (¬m=n))):=
 gT hx hy jR fun w=>by
  have:(m !=n)=decide (¬m=n):=by by_cases h:m=n <;> simp[h]
  simp[binOp,Op.intCmp,←this,pure]
theorem dL{b:Bool}(hx:fr.ev x=some (.bool b)):Ev E fr K L ⟨dst,.unOp .not t x,ty,pos,aft,g⟩ (.bool (!b)):=fun a w f _=>by
 simp only[execOp,f.ev hx];rfl
theorem dU{p:Prop}[Decidable p](hx:fr.ev x=some (.bool (decide p))):Ev E fr K L ⟨dst,.unOp .not t x,ty,pos,aft,g⟩ (.bool (decide (¬p))):=fun a w f _=>by
 simp only[execOp,f.ev hx,decide_not];rfl
theorem kO{s d:TypeId}{k':IntKind}{ds:TypeDesc}(hd:E.P.underlying d=some (.int k'))(hs:E.P.underlying s=some ds)(hx:fr.ev x=some (.int k m)):
  Ev E fr K L ⟨dst,.convert s d x,ty,pos,aft,g⟩ (.int k' (k'.wrap m)):=fun a w f _=>by
 simp only[execOp,f.ev hx];refine eR ?_;unfold convert;simp only[underlying,program,bind,Sem.bind,pure,Sem.run,hd,hs,Conv.intToInt]
variable{l l':List UInt8}
theorem wS(l:List UInt8):(⟨l.toArray⟩:ByteArray).toList=l:=by rw[ByteArray.toList_eq]
theorem qK(l:List UInt8):(⟨l.toArray⟩:ByteArray).size=l.length:=by simp[ByteArray.size]
theorem aPF(l m:List UInt8):(⟨l.toArray⟩:ByteArray)++⟨m.toArray⟩=⟨(l++m).toArray⟩:=by
 apply Go.WideShapes.bytes_inj;simp
theorem cW(hx:fr.ev x=some (str l))(hy:fr.ev y=some (str l'))(h:l.length+l'.length≤9223372036854775807):
  Ev E fr K L ⟨dst,.binOp .add t x y t',ty,pos,aft,g⟩ (str (l++l')):=
 gT hx hy aA5 fun w=>by
  simp only[binOp,Op.stringOp,qK,aPF];rw[if_neg (by simp[IntKind.max,IntKind.bits,IntKind.signed];omega)];rfl
theorem lX(hx:fr.ev x=some (str l))(hy:fr.ev y=some (str l')):Ev E fr K L ⟨dst,.binOp .eql t x y t',ty,pos,aft,g⟩ (.bool (decide (l=l'))):=
 gT hx hy aA5 fun w=>by
  have:(l==l')=decide (l=l'):=by by_cases h:l=l' <;> simp[h]
  simp only[binOp,Op.stringOp,wS,this];rfl
theorem s7(hx:fr.ev x=some (str l))(hy:fr.ev y=some (str l')):Ev E fr K L ⟨dst,.binOp .neq t x y t',ty,pos,aft,g⟩ (.bool (decide (¬l=l'))):=
 gT hx hy aA5 fun w=>by
  have:(!(l==l'))=decide (¬l=l'):=by by_cases h:l=l' <;> simp[h]
  simp only[binOp,Op.stringOp,wS,this];rfl
theorem bV{ats:Array TypeId}(ha:ats[0]?=some t)(hu:E.P.underlying t=some .string)(hx:fr.ev x=some (str l)):
  Ev E fr K L ⟨dst,.call ⟨.builtin .len,#[x],ats⟩,ty,pos,aft,g⟩ (i64 l.length):=fun a w f _=>by
 have e:Array.map a.eval #[x]= #[str l]:=by simp[f.ev hx]
 simp only[execOp,resolve,e,bind,pure,Sem.bind,invoke,builtin];simp[Builtin.len_,ha,underlying,program,bind,Sem.bind,pure,Sem.run,hu,goInt,qK]
theorem cZ{c:UInt8}{j:Nat}{jv:Int}(hu:E.P.underlying t=some .string)(hx:fr.ev x=some (str l))(hy:fr.ev y=some (.int k jv))(hjv:jv=(j:Int))(hc:l[j]?=some c):
  Ev E fr K L ⟨dst,.index t x y,ty,pos,aft,g⟩ (.int .u8 c.toNat):=fun a w f _=>by
 subst hjv;simp only[execOp,f.ev hx,f.ev hy];refine eR ?_;have hj:j < l.length:=by
  rcases Nat.lt_or_ge j l.length with h|h
  ·exact h
  simp[List.getElem?_eq_none h]at hc
 have hc':l[j]=c:=by simpa[List.getElem?_eq_getElem hj]using hc
 have e:(⟨l.toArray⟩:ByteArray)[j]?=some c:=by
  rw[getElem?_pos (⟨l.toArray⟩:ByteArray) j (by simpa[ByteArray.size]using hj)];simp[ByteArray.getElem_eq_getElem_data,hc']
 unfold Instr.index;simp[asIntOf,underlying,program,bind,Sem.bind,pure,Sem.run,hu,e]
theorem q7(l:List UInt8)(i j:Nat):(⟨l.toArray⟩:ByteArray).extract i j=⟨((l.take j).drop i).toArray⟩:=by
 apply Go.WideShapes.bytes_inj
 simp[ByteArray.data_extract,List.drop_take]
end
section
variable{E:Env}{fr:Fr}{K:Hl}{L L':List Asn}{Q:Post}{dst:Option Tmp}{ty:TypeId}{pos:String}{aft:Array Edge}{g:Option (Nat×Bool)}{x y:Operand}{t s e sz i off b:Nat}
theorem iT{l:List UInt8}{lo:Operand}{k:IntKind}{m:Nat}{mv:Int}(hu:E.P.underlying t=some .string)(hx:fr.ev x=some (str l))(hl:fr.ev lo=some (.int k mv))(hm:mv=(m:Int))
  (h1:m≤l.length):Ev E fr K L ⟨dst,.slice t x (some lo) none none,ty,pos,aft,g⟩ (str (l.drop m)):=fun a w f _=>by
 subst hm;simp only[execOp,f.ev hx,f.ev hl,Option.map];refine eR ?_;unfold Instr.sliceAt;simp only[underlying,program,bind,Sem.bind,pure,Sem.run,hu,Instr.slice];simp[Instr.sliceBounds,Instr.sliceBound,asIntOf,bind,Sem.bind,pure,qK,h1,q7]
theorem fB{l:List UInt8}{hi:Operand}{k:IntKind}{n:Nat}{nv:Int}(hu:E.P.underlying t=some .string)(hx:fr.ev x=some (str l))(hh:fr.ev hi=some (.int k nv))(hn:nv=(n:Int))
  (h2:n≤l.length):Ev E fr K L ⟨dst,.slice t x none (some hi) none,ty,pos,aft,g⟩ (str (l.take n)):=fun a w f _=>by
 subst hn;simp only[execOp,f.ev hx,f.ev hh,Option.map];refine eR ?_;unfold Instr.sliceAt;simp only[underlying,program,bind,Sem.bind,pure,Sem.run,hu,Instr.slice];simp[Instr.sliceBounds,Instr.sliceBound,asIntOf,bind,Sem.bind,pure,qK,h2,q7]
theorem aSS{a:Addr}(hx:fr.ev x=some (.pointer (some a))):Ev E fr K L ⟨dst,.nilCheck x,ty,pos,aft,g⟩ (.pointer (some a)):=fun a w f _=>by
 simp only[execOp,f.ev hx];rfl
theorem aJT{u:TypeId}{v:Value}(hx:fr.ev x=some (.iface u v)):Ev E fr K L ⟨dst,.nilCheck x,ty,pos,aft,g⟩ (.iface u v):=fun a w f _=>by
 simp only[execOp,f.ev hx];rfl
theorem aJS{u:FuncId}{p q:Array Value}(hx:fr.ev x=some (.func (.func u) p q)):Ev E fr K L ⟨dst,.nilCheck x,ty,pos,aft,g⟩ (.func (.func u) p q):=fun a w f _=>by
 simp only[execOp,f.ev hx];rfl
theorem kG(b o n:Nat):(⟨b,o,none⟩:Addr).add n=⟨b,o+n,none⟩:=by
 unfold Addr.add;split <;> simp_all
theorem aF{o o':Nat}(ht:cT E.P s i off=true)(hx:fr.ev x=some (ptr b o))(ho':o+off=o'):Ev E fr K L ⟨dst,.fieldAddr s x i,ty,pos,aft,g⟩ (ptr b o'):=fun a w f _=>by
 subst ho';simp only[execOp,f.ev hx];refine eR ?_;unfold cT at ht;unfold Instr.fieldAt;cases hu:E.P.underlying s with
 |none=>simp[hu]at ht
 |some d=>
  cases d <;> simp[hu]at ht
  rename_i fs;cases hf:fs[i]? with
  |none=>simp[hf]at ht
  |some fl=>
   simp[hf]at ht;obtain⟨h1,h2⟩:=ht;cases hi:E.P.info? fl.type with
   |none=>simp[hi]at h2
   |some ti=>
    simp[hi]at h2;simp only[underlying,program,bind,Sem.bind,pure,Sem.run,hu,hf,Instr.sureAddr,fieldPlace,sizeOf,typeInfo,hi,h2,if_false,h1,kG]
theorem mI{w:World}{l:List Value}{u:TypeId}{f:Nat×Nat}{o:Nat}{v:Value}(h:w.heap[b]?=some (aZ l u f))(hv:l[o]?=some v):w.cell? ⟨b,o,none⟩=some v:=by
 simp[World.cell?,h,hv]
theorem zK{P:Program}{w:World}{l:List Value}{u:TypeId}{f:Nat×Nat}{o:Nat}{v:Value}(h:w.heap[b]?=some (aZ l u f))(hv:l[o]?=some v):(load ⟨b,o,none⟩).run P w=.ok v w:=by
 simp[load,Sem.run,mI h hv]
inductive Sees (K:Hl) (L:List Asn) (b:Nat) (o:Obj):Prop where
 |own:Hs (pt b o) L→Sees K L b o
 |known:K b=some o→Sees K L b o
theorem Sees.at{w0 w:World}{F:Hl}{o:Obj}(h:Sees K L b o)(j:In w0 F K L w):w.heap[b]?=some o:=by
 cases h with
 |own f=>obtain⟨_,g⟩:=f.fnd (pt b o);exact j.mem g
 |known h=>exact j.known h
theorem aL{o:Nat}{l:List Value}{u:TypeId}{fz:Nat×Nat}{v:Value}(ht:eZ E.P t=true)(hx:fr.ev x=some (ptr b o))(hs:Sees K L b (aZ l u fz))(hv:l[o]?=some v):
  Ev E fr K L ⟨dst,.load t x,ty,pos,aft,g⟩ v:=fun a w f j=>by
 simp only[execOp,f.ev hx];refine eR ?_;obtain⟨h1,h2⟩:=rM ht w
 show (loadVar t _).run E.P w=_
 unfold loadVar;rw[aV h1];exact zK (hs.at j) hv
theorem mW{P:Program}{w:World}{l:List Value}{u:TypeId}{fz:Nat×Nat}(h:w.heap[b]?=some (aZ l u fz)):
  ∀(n:Nat) (vs:List Value) (o k:Nat) (acc:List Value),(l.drop (o+k)).take n=vs→vs.length=n→(loadCellsFrom ⟨b,o,none⟩ k n acc.toArray).run P w=.ok (acc++vs).toArray w:=by
 intro n;induction n with
 |zero=>intro vs o k acc h1 h2;have:vs=[]:=List.length_eq_zero_iff.1 h2;subst this;simp[loadCellsFrom,pure]
 |succ n ih=>
  intro vs o k acc h1 h2;cases vs with
  |nil=>simp at h2
  |cons v vs=>
   have hv:l[o+k]?=some v:=by
    have:=congrArg (·[0]?) h1
    simpa[List.getElem?_take,List.getElem?_drop]using this
   unfold loadCellsFrom;rw[kG,aV (zK h hv)];have e:acc.toArray.push v=(acc++[v]).toArray:=by simp
   rw[e,ih vs o (k+1) (acc++[v]) ?_ (by simpa using h2)]
   ·simp
   have:=congrArg List.tail h1;simp only[List.tail_cons]at this;rw[←this];have h3:(l.drop (o+k))=v::l.drop (o+(k+1)):=by
    have hlt:o+k < l.length:=by
     rcases Nat.lt_or_ge (o+k) l.length with h|h
     ·exact h
     simp[List.getElem?_eq_none h]at hv
    rw[List.drop_eq_getElem_cons hlt];have:l[o+k]=v:=by simpa[List.getElem?_eq_getElem hlt]using hv
    rw[this];rfl
   rw[h3];simp
theorem b0{o n:Nat}{l vs:List Value}{u:TypeId}{fz:Nat×Nat}(ht:aggB E.P t n=true)(hx:fr.ev x=some (ptr b o))(hs:Sees K L b (aZ l u fz))(hv:(l.drop o).take n=vs)(hn:vs.length=n):
  Ev E fr K L ⟨dst,.load t x,ty,pos,aft,g⟩ (.agg vs.toArray):=fun a w f j=>by
 simp only[execOp,f.ev hx];refine eR ?_;obtain⟨h1,h2⟩:=aIF ht w
 show (loadVar t _).run E.P w=_
 unfold loadVar;rw[aV h1];simp only[if_true];rw[aV h2];have:=mW (P:=E.P) (hs.at j) n vs o 0 [] hv hn;simp only[List.nil_append]at this;unfold loadCells;rw[aV this];rfl
def newb(b:Nat)(o:Obj)(K:Hl)(L:List Asn):Value→Hl→List Asn→Prop:=fun v K' L'=>v=ptr b∧K'=K∧L'=pt b o::L
theorem eH{v:Value}{l:List Value}(hx:fr.ev x=some v)(hl:v.cells=l.toArray):EfS E fr K L ⟨dst,.box e x,ty,pos,aft,g⟩ (fun u K' L'=>∃b,newb b (aZ l e) K L u K' L'):=by
 intro a w f j;have:(execOp a.eval ⟨dst,.box e x,ty,pos,aft,g⟩).run E.P w=.ok (.value (ptr w.heap.size)) {w with heap:=w.heap.push (aZ l e)}:=by
  simp only[execOp,f.ev hx,Instr.box,newVar,newRow,hl];rfl
 exact⟨_,_,_,_,.inl this,⟨_,rfl,rfl,rfl⟩,Hl.le_refl _,j.alloc _⟩
def cU(P:Program)(e:TypeId):Option (List Value):=(P.info? e).bind fun i=>i.zero.map fun z=>z.cells.toList
theorem aG6{P:Program}{e:TypeId}{l:List Value}(h:cU P e=some l):∃inf v,P.info? e=some inf∧inf.zero=some v∧v.cells=l.toArray:=by
 unfold cU at h;cases hi:P.info? e with
 |none=>simp[hi]at h
 |some inf=>
  cases hz:inf.zero with
  |none=>simp[hi,hz]at h
  |some v=>simp[hi,hz]at h;exact⟨inf,v,rfl,hz,by rw[←h]⟩
theorem cX{l:List Value}(hz:cU E.P e=some l):EfS E fr K L ⟨dst,.alloc e,ty,pos,aft,g⟩ (fun u K' L'=>∃b,newb b (aZ l e) K L u K' L'):=by
 intro a w f j;obtain⟨inf,v,hi,hz,hl⟩:=aG6 hz;have:(execOp a.eval ⟨dst,.alloc e,ty,pos,aft,g⟩).run E.P w=.ok (.value (ptr w.heap.size)) {w with heap:=w.heap.push (aZ l e)}:=by
  simp only[execOp,Instr.alloc,zeroValue,typeInfo,program,bind,Sem.bind,pure,Sem.run,hi,hz,newVar,newRow,hl];rfl
 exact⟨_,_,_,_,.inl this,⟨_,rfl,rfl,rfl⟩,Hl.le_refl _,j.alloc _⟩
inductive SetAt:List Value→Nat→Value→List Value→Prop where
 |zero {a:Value} {l:List Value} {v:Value}:SetAt (a::l) 0 v (v::l)
 |succ {a:Value} {l:List Value} {n:Nat} {v:Value} {l':List Value}:SetAt l n v l'→SetAt (a::l) (n+1) v (a::l')
theorem SetAt.eq{l:List Value}{n:Nat}{v:Value}{l':List Value}(h:SetAt l n v l'):l.set n v=l'∧n < l.length:=by
 induction h with
 |zero=>exact⟨rfl,by simp⟩
 |succ _ ih=>exact⟨by simp[ih.1],by simp;exact ih.2⟩
theorem sG{w:World}{l:List Value}{u:TypeId}{fz:Nat×Nat}{o:Nat}(v:Value)(h:w.heap[b]?=some (aZ l u fz)):
  (w.setCell ⟨b,o,none⟩ v).heap.size=w.heap.size∧(w.setCell ⟨b,o,none⟩ v).heap[b]?=some (aZ (l.set o v) u fz)∧∀z,z≠b→(w.setCell ⟨b,o,none⟩ v).heap[z]?=w.heap[z]?:=by
 refine⟨by simp[World.setCell],?_,fun z hz=>?_⟩
 ·simp[World.setCell,Array.getElem?_modify,h]
 simp[World.setCell,Array.getElem?_modify,Ne.symm hz]
theorem aGN{P:Program}{w:World}{l:List Value}{u:TypeId}{fz:Nat×Nat}{o:Nat}{v:Value}(h:w.heap[b]?=some (aZ l u fz))(ho:o < l.length)
  (hf:(fz.1≤o&&o < fz.2)=false) (h1:v.oneCell'=true):(store ⟨b,o,none⟩ v).run P w=.ok () (w.setCell ⟨b,o,none⟩ v):=by
 have hc:w.cell? ⟨b,o,none⟩=some l[o]:=mI h (by simp[ho]);have hz:w.frozen? ⟨b,o,none⟩=false:=by
  obtain⟨lo,hi⟩:=fz;simp only[World.frozen?,h];exact hf
 cases v <;> simp[Value.oneCell']at h1 <;> simp[store,Sem.run,hc,hz]
theorem bP{o:Nat}{l:List Value}{u:TypeId}{fz:Nat×Nat}{v:Value}(ht:eZ E.P t=true)(hx:fr.ev x=some (ptr b o))(hy:fr.ev y=some v)(h1:v.oneCell'=true)
  {l':List Value} (hs:Fnd (pt b (aZ l u fz)) (pt b (aZ l' u fz)) L L') (hset:SetAt l o v l') (hf:(fz.1≤o&&o < fz.2)=false):
  EfS E fr K L ⟨dst,.store t x y,ty,pos,aft,g⟩ (fun _ K' L''=>K'=K∧L''=L'):=by
 intro a w f j;have hb:=j.mem hs;obtain⟨rfl,ho'⟩:=hset.eq;have hc:v.cells= #[v]:=by cases v <;> simp[Value.oneCell']at h1 <;> rfl
 have hr:(execOp a.eval ⟨dst,.store t x y,ty,pos,aft,g⟩).run E.P w=.ok .skip (w.setCell ⟨b,o,none⟩ v):=by
  simp only[execOp,f.ev hx,f.ev hy];have:(Instr.storeAt t (ptr b o) v).run E.P w=.ok () (w.setCell ⟨b,o,none⟩ v):=by
   show (storeVar t _ v).run E.P w=_
   unfold storeVar;rw[aV (rM ht w).2];simp only[hc];rw[if_neg (by simp)];simp only[storeCells,kG,Nat.add_zero]
   show (store _ _>>=fun _=>pure ()).run E.P w=_
   rw[aV (aGN hb ho' hf h1)];rfl
  rw[aV this];rfl
 obtain⟨s1,s2,s3⟩:=sG (o:=o) v hb;exact⟨_,_,_,_,.inr ⟨hr,rfl⟩,⟨rfl,rfl⟩,Hl.le_refl _,j.writeAt hs s1 s2 s3⟩
end
structure El (α:Type) where
 e:TypeId
 sz:Nat
 enc:α→List Value
 len:∀x,(enc x).length=sz
 one:∀x,∀u∈enc x,u.oneCell'=true
def El.cs{α:Type}(k:El α)(xs:List α):List Value:=xs.flatMap k.enc
theorem El.cs_one{α:Type}(k:El α)(xs:List α):∀u∈k.cs xs,u.oneCell'=true:=by
 intro u hu;obtain⟨x,_,hx⟩:=List.mem_flatMap.1 hu;exact k.one x u hx
theorem El.cs_length{α:Type}(k:El α)(xs:List α):(k.cs xs).length=xs.length*k.sz:=by
 induction xs with
 |nil=>simp[El.cs]
 |cons x xs ih=>simp only[El.cs,List.flatMap_cons,List.length_append,k.len]at*;rw[ih,List.length_cons,Nat.succ_mul];omega
theorem El.cs_append{α:Type}(k:El α)(xs ys:List α):k.cs (xs++ys)=k.cs xs++k.cs ys:=by simp[El.cs]
theorem El.cs_drop{α:Type}(k:El α)(xs:List α)(i:Nat):(k.cs xs).drop (i*k.sz)=k.cs (xs.drop i):=by
 induction i generalizing xs with
 |zero=>simp
 |succ i ih=>
  cases xs with
  |nil=>simp[El.cs]
  |cons x xs=>
   have:(i+1)*k.sz=k.sz+i*k.sz:=by rw[Nat.succ_mul];omega
   rw[this,←List.drop_drop];have h2:(k.cs (x::xs)).drop k.sz=k.cs xs:=by
    simp only[El.cs,List.flatMap_cons];rw[List.drop_append_of_le_length gB4,List.drop_of_length_le gB4];rfl
   rw[h2,ih];rfl
theorem El.cs_at{α:Type}(k:El α){xs:List α}{i:Nat}{x:α}(h:xs[i]?=some x){r:List Value}:((k.cs xs++r).drop (i*k.sz)).take k.sz=k.enc x:=by
 have hi:i < xs.length:=by
  rcases Nat.lt_or_ge i xs.length with h'|h'
  ·exact h'
  simp[List.getElem?_eq_none h']at h
 have hx:xs[i]=x:=by simpa[List.getElem?_eq_getElem hi]using h
 rw[List.drop_append_of_le_length (by rw[k.cs_length];exact Nat.mul_le_mul_right _ (Nat.le_of_lt hi)),k.cs_drop,List.drop_eq_getElem_cons hi,hx];simp only[El.cs,List.flatMap_cons];rw[List.append_assoc,List.take_append_of_le_length gB4,List.take_of_length_le gB4]
def FzOk(n:Nat)(fz:Nat×Nat):Prop:=fz.2≤fz.1∨n≤fz.1
theorem FzOk.at{n o:Nat}{fz:Nat×Nat}(h:FzOk n fz)(ho:o < n):(fz.1≤o&&o < fz.2)=false:=by
 unfold FzOk at h;simp only[Bool.and_eq_false_iff,decide_eq_false_iff_not];omega
def sl{α:Type}(z:Bool)(k:El α)(v:Value)(xs:List α):Asn:=fun h=>
 (v=.slice none 0 0∧xs=[]∧h=.emp)∨
 (∃b cap junk fz,v=.slice (some ⟨b,0,none⟩) xs.length cap∧(z=true→xs≠[])∧xs.length≤cap∧junk.length=(cap - xs.length)*k.sz∧FzOk (cap*k.sz) fz∧h=Hl.one b (aZ (k.cs xs++junk) k.e fz))
def Ksl{α:Type}(k:El α)(K:Hl)(v:Value)(xs:List α):Prop:=
 (∃a c,v=.slice a 0 c∧xs=[])∨
 (∃b off cap cells fz,v=.slice (some ⟨b,off,none⟩) xs.length cap∧(∃u,K b=some (aZ cells u fz))∧(cells.drop off).take (xs.length*k.sz)=k.cs xs)
theorem Ksl.mono{α:Type}{k:El α}{K K':Hl}{v:Value}{xs:List α}(h:Ksl k K v xs)(le:K.le K'):Ksl k K' v xs:=by
 rcases h with h|⟨b,off,cap,cells,fz,h1,h2,h3⟩
 ·exact .inl h
 obtain⟨u,h2⟩:=h2;exact .inr ⟨b,off,cap,cells,fz,h1,⟨u,le _ _ h2⟩,h3⟩
def SlAt{α:Type}(k:El α)(w:World)(v:Value)(xs:List α):Prop:=
 (∃a c,v=.slice a 0 c∧xs=[])∨
 (∃b off cap cells fz,v=.slice (some ⟨b,off,none⟩) xs.length cap∧(∃u,w.heap[b]?=some (aZ cells u fz))∧(cells.drop off).take (xs.length*k.sz)=k.cs xs)
inductive SeesSl {α:Type} (k:El α) (K:Hl) (L:List Asn) (v:Value) (xs:List α):Prop where
 |own {z}:Hs (sl z k v xs) L→SeesSl k K L v xs
 |known:Ksl k K v xs→SeesSl k K L v xs
 |blk {b:Nat} {cells:List Value} {fz:Nat×Nat} {cap off:Nat}:Sees K L b (aZ cells k.e fz)→v=.slice (some ⟨b,off,none⟩) xs.length cap→(cells.drop off).take (xs.length*k.sz)=k.cs xs→SeesSl k K L v xs
theorem In.slice{α:Type}{z:Bool}{k:El α}{w0 w:World}{F K:Hl}{v:Value}{xs:List α}{L:List Asn}(i:In w0 F K (sl z k v xs::L) w):SlAt k w v xs:=by
 obtain⟨h,⟨a,l,ha,hl,hal,rfl⟩,d1,d2,d3,l1,l2,l3⟩:=i.rep;rcases ha with ⟨rfl,rfl,rfl⟩|⟨b,cap,junk,fz,rfl,hz,hc,hj,hf,rfl⟩
 ·exact .inl ⟨none,0,rfl,rfl⟩
 refine .inr ⟨b,0,cap,k.cs xs++junk,fz,rfl,⟨k.e,l3 b _ (by simp[Hl.join,Hl.one])⟩,?_⟩
 rw[List.drop_zero,←k.cs_length,List.take_left]
theorem SeesSl.at{α:Type}{k:El α}{w0 w:World}{F K:Hl}{v:Value}{xs:List α}{L:List Asn}(h:SeesSl k K L v xs)(i:In w0 F K L w):SlAt k w v xs:=by
 cases h with
 |own f=>obtain⟨_,h1⟩:=f.split;exact(i.imp h1).slice
 |known h=>
  rcases h with h|⟨b,off,cap,cells,fz,h1,h2,h3⟩
  ·exact .inl h
  obtain⟨u,h2⟩:=h2;exact .inr ⟨b,off,cap,cells,fz,h1,⟨u,i.known h2⟩,h3⟩
 |blk hs h2 h3=>exact .inr ⟨_,_,_,_,_,h2,⟨_,hs.at i⟩,h3⟩
def nP(v:Value)(n:Nat):Value:=
 match v with
 | .slice (some a) _ _=>.pointer (some (a.add n))
 |_=>undef
section
variable{E:Env}{fr:Fr}{K:Hl}{L L':List Asn}{Q:Post}{dst:Option Tmp}{ty:TypeId}{pos:String}{aft:Array Edge}{g:Option (Nat×Bool)}{x y:Operand}{t s e sz i off b:Nat}{α:Type}{k:El α}{v:Value}{xs:List α}
theorem bO{ats:Array TypeId}{u:TypeId}(ha:ats[0]?=some t)(hu:E.P.underlying t=some (.slice u))(hx:fr.ev x=some v)(hs:SeesSl k K L v xs):
  Ev E fr K L ⟨dst,.call ⟨.builtin .len,#[x],ats⟩,ty,pos,aft,g⟩ (i64 xs.length):=fun a w f j=>by
 have e:Array.map a.eval #[x]= #[v]:=by simp[f.ev hx]
 simp only[execOp,resolve,e,bind,pure,Sem.bind,invoke,builtin];rcases hs.at j with ⟨a0,c,rfl,rfl⟩|⟨b,off,cap,cells,fz,rfl,⟨u0,h2⟩,h3⟩ <;>
  simp[Builtin.len_,ha,underlying,program,bind,Sem.bind,pure,Sem.run,hu,goInt]
theorem pC{P:Program}{t e sz:Nat}(h:jS P t e sz=true):∃inf,P.underlying t=some (.slice e)∧P.info? e=some inf∧inf.size=sz:=by
 unfold jS at h;cases hu:P.underlying t with
 |none=>simp[hu]at h
 |some d=>
  cases hi:P.info? e with
  |none=>cases d <;> simp[hu,hi]at h
  |some i=>cases d <;> simp[hu,hi]at h;obtain⟨rfl,h2⟩:=h;exact⟨i,rfl,rfl,h2⟩
theorem bE{j:Nat}{jv:Int}{kk:IntKind}(ht:jS E.P t k.e k.sz=true)(hx:fr.ev x=some v)(hs:SeesSl k K L v xs)(hy:fr.ev y=some (.int kk jv))(hjv:jv=(j:Int))(hj:j < xs.length):
  Ev E fr K L ⟨dst,.indexAddr t x y,ty,pos,aft,g⟩ (nP v (j*k.sz)):=fun a w f i=>by
 subst hjv;obtain⟨inf,h1,h2,h3⟩:=pC ht;simp only[execOp,f.ev hx,f.ev hy];refine eR ?_;rcases hs.at i with ⟨a0,c,rfl,rfl⟩|⟨b,off,cap,cells,fz,rfl,⟨u0,h4⟩,h5⟩
 ·simp at hj
 unfold Instr.indexAt;simp[asIntOf,underlying,program,bind,Sem.bind,pure,Sem.run,h1,hj,sizeOf,typeInfo,h2,h3,nP]
theorem dP{j o:Nat}{u:α}{c:Value}(ht:eZ E.P t=true)(hx:fr.ev x=some (nP v (j*k.sz)))(hs:SeesSl k K L v xs)(hj:xs[j]?=some u)(hc:k.enc u=[c]):
  Ev E fr K L ⟨dst,.load t x,ty,pos,aft,g⟩ c:=fun a w f i=>by
 simp only[execOp,f.ev hx];refine eR ?_;have hjl:j < xs.length:=by
  rcases Nat.lt_or_ge j xs.length with h'|h'
  ·exact h'
  simp[List.getElem?_eq_none h']at hj
 rcases hs.at i with ⟨a0,c,rfl,rfl⟩|⟨b,off,cap,cells,fz,rfl,⟨u0,h4⟩,h5⟩
 ·simp at hj
 obtain⟨q1,q2⟩:=rM ht w;have hat:=k.cs_at hj (r:=[]);rw[List.append_nil,←h5]at hat;have hsz:k.sz=1:=by have:=k.len u;simpa[hc]using this.symm
 show (loadVar t (Addr.add ⟨b,off,none⟩ (j*k.sz))).run E.P w=_
 rw[kG];unfold loadVar;rw[aV q1];refine zK h4 ?_;have:=congrArg (·[0]?) hat;simp only[hc,List.getElem?_take,List.getElem?_drop,hsz]at this ⊢;simp at this ⊢
 simpa[hjl]using this
theorem dC{j n:Nat}{u:α}(ht:aggB E.P t k.sz=true)(hx:fr.ev x=some (nP v (j*k.sz)))(hs:SeesSl k K L v xs)(hj:xs[j]?=some u):
  Ev E fr K L ⟨dst,.load t x,ty,pos,aft,g⟩ (.agg (k.enc u).toArray):=fun a w f i=>by
 simp only[execOp,f.ev hx];refine eR ?_;have hjl:j < xs.length:=by
  rcases Nat.lt_or_ge j xs.length with h'|h'
  ·exact h'
  simp[List.getElem?_eq_none h']at hj
 rcases hs.at i with ⟨a0,c,rfl,rfl⟩|⟨b,off,cap,cells,fz,rfl,⟨u0,h4⟩,h5⟩
 ·simp at hj
 obtain⟨h1,h2⟩:=aIF ht w;have hat:=k.cs_at hj (r:=[]);rw[List.append_nil,←h5]at hat
 show (loadVar t (Addr.add ⟨b,off,none⟩ (j*k.sz))).run E.P w=_
 rw[kG];unfold loadVar;rw[aV h1];simp only[if_true];rw[aV h2];have hle:(j+1)*k.sz≤xs.length*k.sz:=Nat.mul_le_mul_right _ hjl;rw[Nat.succ_mul]at hle;have hcells:(cells.drop (off+j*k.sz+0)).take k.sz=k.enc u:=by
  rw[←hat,Nat.add_zero,←List.drop_drop,List.drop_take,List.take_take]
  congr 1
  omega
 have:=mW (P:=E.P) h4 k.sz (k.enc u) (off+j*k.sz) 0 [] hcells (k.len u);simp only[List.nil_append]at this;unfold loadCells;rw[aV this];rfl
end
def nF(ops:Array Oper)(a' a:Act):Prop:=a'.defers=a.defers∧a'.tmps.size=a.tmps.size∧∀k,(∀o∈ops.toList,o.dst≠some k)→a'.tmps[k]?=a.tmps[k]?
theorem nF.refl(ops:Array Oper)(a:Act):nF ops a a:=⟨rfl,rfl,fun _ _=>rfl⟩
theorem nF.trans{ops:Array Oper}{a b c:Act}(h:nF ops a b)(k:nF ops b c):nF ops a c:=⟨h.1.trans k.1,h.2.1.trans k.2.1,fun i hi=>(h.2.2 i hi).trans (k.2.2 i hi)⟩
theorem nF.symm{ops:Array Oper}{a b:Act}(h:nF ops a b):nF ops b a:=⟨h.1.symm,h.2.1.symm,fun i hi=>(h.2.2 i hi).symm⟩
theorem nF.put{ops:Array Oper}{i:Nat}{o:Oper}(h:ops[i]?=some o)(a:Act)(v:Value):nF ops (a.put o.dst v) a:=by
 have hm:o∈ops.toList:=by simpa using Array.mem_of_getElem? h
 cases hd:o.dst with
 |none=>exact nF.refl _ _
 |some d=>
  refine⟨rfl,by simp[Act.put],fun k hk=>?_⟩
  have hne:d≠k:=fun e=>hk o hm (by rw[hd,e])
  simp only[Act.put];rw[Array.getElem?_setIfInBounds_ne hne]
def Eff(P:Program)(ops:Array Oper)(o:Oper)(a:Act)(w:World)(Q:Post)(next:Value→World→Prop):Prop:=
 (∃u w',(execOp a.eval o).run P w=.ok (.value u) w'∧next u w')∨(∃w',(execOp a.eval o).run P w=.ok .skip w'∧next undef w')∨
 (∃ f args w1, (execOp a.eval o).run P w = .ok (.enter f args) w1 ∧ Calls P f args w1 fun e w' => match e with
  | .returned u=>next u w'
  | .panicked ch=>∀a',nF ops a' a→Q (.panic ch) a' w'
  | .outgrown=>LetsOut Q)∨
 (∃ l f tmps assign body w1, (execOp a.eval o).run P w = .ok (.round l f tmps assign body) w1 ∧ RoundIn Fence.wide 0 P l f tmps assign body w1 fun e w' => match e with
  | .returned u=>next u w'
  | .panicked ch=>∀a',nF ops a' a→Q (.panic ch) a' w'
  | .outgrown=>LetsOut Q)
theorem Eff.mono{P:Program}{ops:Array Oper}{o:Oper}{a:Act}{w:World}{Q:Post}{n n':Value→World→Prop}(h:Eff P ops o a w Q n)(k:∀u w',n u w'→n' u w'):Eff P ops o a w Q n':=by
 rcases h with ⟨u,w',h,hn⟩|⟨w',h,hn⟩|⟨f,args,w1,h,hc⟩|⟨l,f,t,x,y,w1,h,hc⟩
 ·exact .inl ⟨u,w',h,k _ _ hn⟩
 ·exact .inr (.inl ⟨w',h,k _ _ hn⟩)
 ·exact .inr (.inr (.inl ⟨f,args,w1,h,hc.mono fun e w' q=>by cases e <;> first|exact k _ _ q|exact q⟩))
 exact .inr (.inr (.inr ⟨l,f,t,x,y,w1,h,hc.mono fun e w' q=>by cases e <;> first|exact k _ _ q|exact q⟩))
theorem Eff.congr{P:Program}{ops:Array Oper}{o:Oper}{a a':Act}{w:World}{Q:Post}{n:Value→World→Prop}(h:Eff P ops o a w Q n)(he:execOp a'.eval o=execOp a.eval o)(hd:nF ops a' a):Eff P ops o a' w Q n:=by
 unfold Eff at*;rw[he];rcases h with h|h|⟨f,args,w1,h,hc⟩|⟨l,f,t,x,y,w1,h,hc⟩
 ·exact .inl h
 ·exact .inr (.inl h)
 ·refine .inr (.inr (.inl ⟨f,args,w1,h,hc.mono fun e w' q=>?_⟩))
  cases e <;> first|exact q|exact fun a'' ha=>q a'' (ha.trans hd)
 refine .inr (.inr (.inr ⟨l,f,t,x,y,w1,h,hc.mono fun e w' q=>?_⟩))
 cases e <;> first|exact q|exact fun a'' ha=>q a'' (ha.trans hd)
theorem bKA(ρ:Operand→Value)(o:Oper):o.semAt Fence.wide.round ρ=execOp ρ o:=rfl
theorem Eff.wp{P:Program}{ops:Array Oper}{o:Oper}{a:Act}{w:World}{Q:Post}{n:Value→World→Prop}{K:Act→World→Prop}(h:Eff P ops o a w Q n)(k:∀u w',n u w'→K (a.put o.dst u) w'):o.wpIn Fence.wide 0 P a w K Q:=by
 refine⟨fun _ _=>trivial,?_⟩
 rw[bKA];have hd:Fence.wide.depth.isSome=true→1≤0:=fun h=>by cases h
 rcases h with ⟨u,w',h,hn⟩|⟨w',h,hn⟩|⟨f,args,w1,h,hc⟩|⟨l,f,t,x,y,w1,h,hc⟩
 ·rw[h];exact k _ _ hn
 ·rw[h];exact k _ _ hn
 ·rw[h];refine⟨hd,callsIn_wide.2 (hc.mono fun e w' q=>?_)⟩
  cases e with
  |returned u=>exact k _ _ q
  |panicked ch=>exact q _ (nF.refl _ _)
  |outgrown=>exact q
 rw[h];refine⟨hd,hc.mono fun e w' q=>?_⟩
 cases e with
 |returned u=>exact k _ _ q
 |panicked ch=>exact q _ (nF.refl _ _)
 |outgrown=>exact q
def DX(E:Env)(ops:Array Oper)(eff stg:List Nat)(Q:Post):List Nat→List Asn→Hl→List Asn→Act→Prop
 | [],S,K,M,a=>∀w,In E.w0 E.F K (S++M) w→Q .normal a w
 |i::r,S,K,M,a=>
  match ops[i]? with
  |none=>False
  |some o=>
   if Region.wanted o (yielded ops a.tmps)then
    if stg.contains i then
     ∀w,In E.w0 E.F K (S++M) w→Eff E.P ops o a w Q fun u w'=>∃K' S' M',K.le K'∧In E.w0 E.F K' (S'++M') w'∧DX E ops eff stg Q r S' K' M' (a.put o.dst u)
    else if eff.contains i then
     ∀w,In E.w0 E.F K (S++M) w→Eff E.P ops o a w Q fun u w'=>∃K' M',K.le K'∧In E.w0 E.F K' (S++M') w'∧DX E ops eff stg Q r S K' M' (a.put o.dst u)
    else ∃v,(∀K' M' w,K.le K'→In E.w0 E.F K' (S++M') w→Eff E.P ops o a w Q fun u w'=>u=v∧In E.w0 E.F K' (S++M') w')∧DX E ops eff stg Q r S K M (a.put o.dst v)
   else DX E ops eff stg Q r S K M (a.put o.dst undef)
def aNY(o:Oper):Bool:=match o.op with| .select _ _=>false|_=>true
theorem aKU{o:Oper}(h:aNY o=true):∀cs b,o.op≠.select cs b:=by
 intro cs b e;simp[aNY,e]at h
theorem bME{E:Env}{ops:Array Oper}{eff stg:List Nat}{S:List Asn}{Q:Post}{x i:Nat}{r:List Nat}{K:Hl}{M:List Asn}{a:Act}{ox oi:Oper}
  (hx:ops[x]?=some ox) (hi:ops[i]?=some oi) (hap:ox.apart ops oi=true) (hsx:aNY ox=true) (hsi:aNY oi=true) (hne:eff.contains x=false) (hnx:stg.contains x=false) (hni:stg.contains i=false)
  (h:DX E ops eff stg Q (x::i::r) S K M a):DX E ops eff stg Q (i::x::r) S K M a:=by
 obtain⟨h1,h2,h3⟩:=Oper.apart_spec hap;have sx:=aKU hsx;have si:=aKU hsi;have goX:∀(v u:Value),((a.put ox.dst v).put oi.dst u)=((a.put oi.dst u).put ox.dst v):=fun v u=>Act.put_comm a v u h2
 have wx:∀(u:Value),Region.wanted ox (yielded ops (a.put oi.dst u).tmps)=Region.wanted ox (yielded ops a.tmps):=fun u=>wanted_put ox a oi.dst u h3
 have wi:∀(u:Value),Region.wanted oi (yielded ops (a.put ox.dst u).tmps)=Region.wanted oi (yielded ops a.tmps):=fun u=>wanted_put oi a ox.dst u h1
 have ex:∀(u:Value),execOp (a.put oi.dst u).eval ox=execOp a.eval ox:=fun u=>execOp_put ox sx a oi.dst u h3
 have ei:∀(u:Value),execOp (a.put ox.dst u).eval oi=execOp a.eval oi:=fun u=>execOp_put oi si a ox.dst u h1
 simp only[DX,hx,hi,hne,hnx,hni,Bool.false_eq_true,if_false]at h ⊢
 by_cases cx:Region.wanted ox (yielded ops a.tmps)=true
 ·simp only[cx,if_true]at h;obtain⟨v,hv,h⟩:=h;rw[wi v]at h;have back:∀(u:Value) (K':Hl) (M':List Asn),K.le K'→DX E ops eff stg Q r S K' M' ((a.put ox.dst v).put oi.dst u)→
    (if Region.wanted ox (yielded ops (a.put oi.dst u).tmps) = true then
     ∃v,(∀K'' M'' w,K'.le K''→In E.w0 E.F K'' (S++M'') w→Eff E.P ops ox (a.put oi.dst u) w Q fun u w'=>u=v∧In E.w0 E.F K'' (S++M'') w')∧DX E ops eff stg Q r S K' M' ((a.put oi.dst u).put ox.dst v)
     else DX E ops eff stg Q r S K' M' ((a.put oi.dst u).put ox.dst undef)):=by
   intro u K' M' le hr;rw[wx u,if_pos cx];refine⟨v,fun K'' M'' w le' j=>?_,?_⟩
   ·exact(hv K'' M'' w (Hl.le_trans le le') j).congr (ex u) (nF.put hi a u)
   rw[←goX];exact hr
  by_cases ci:Region.wanted oi (yielded ops a.tmps)=true
  ·simp only[ci,if_true]at h ⊢
   by_cases ce:eff.contains i=true
   ·simp only[ce,if_true]at h ⊢;intro w j;refine((h w j).congr (ei v).symm (nF.put hx a v).symm).mono fun u w' ⟨K',M',le,j',hr⟩=>⟨K',M',le,j',back u K' M' le hr⟩
   simp only[ce,Bool.false_eq_true,if_false]at h ⊢;obtain⟨u,hu,hr⟩:=h;refine⟨u,fun K' M' w le j=>?_,back u K M (Hl.le_refl _) hr⟩
   exact(hu K' M' w le j).congr (ei v).symm (nF.put hx a v).symm
  simp only[ci,if_false,Bool.false_eq_true]at h ⊢;exact back undef K M (Hl.le_refl _) h
 simp only[cx,if_false,Bool.false_eq_true]at h;rw[wi undef]at h;have back:∀(u:Value) (K':Hl) (M':List Asn),K.le K'→DX E ops eff stg Q r S K' M' ((a.put ox.dst undef).put oi.dst u)→
   (if Region.wanted ox (yielded ops (a.put oi.dst u).tmps) = true then
    ∃v,(∀K'' M'' w,K'.le K''→In E.w0 E.F K'' (S++M'') w→Eff E.P ops ox (a.put oi.dst u) w Q fun u w'=>u=v∧In E.w0 E.F K'' (S++M'') w')∧DX E ops eff stg Q r S K' M' ((a.put oi.dst u).put ox.dst v)
    else DX E ops eff stg Q r S K' M' ((a.put oi.dst u).put ox.dst undef)):=by
  intro u K' M' le hr;rw[wx u,if_neg cx,←goX];exact hr
 by_cases ci:Region.wanted oi (yielded ops a.tmps)=true
 ·simp only[ci,if_true]at h ⊢
  by_cases ce:eff.contains i=true
  ·simp only[ce,if_true]at h ⊢;intro w j;refine((h w j).congr (ei undef).symm (nF.put hx a undef).symm).mono fun u w' ⟨K',M',le,j',hr⟩=>⟨K',M',le,j',back u K' M' le hr⟩
  simp only[ce,Bool.false_eq_true,if_false]at h ⊢;obtain⟨u,hu,hr⟩:=h;refine⟨u,fun K' M' w le j=>?_,back u K M (Hl.le_refl _) hr⟩
  exact(hu K' M' w le j).congr (ei undef).symm (nF.put hx a undef).symm
 simp only[ci,if_false,Bool.false_eq_true]at h ⊢;exact back undef K M (Hl.le_refl _) h
def aU8(ops:Array Oper)(eff stg:List Nat)(x i:Nat):Bool:=
 match ops[x]?,ops[i]? with
 |some ox,some oi=>!stg.contains x&&!stg.contains i&&!eff.contains x&&ox.apart ops oi&&aNY ox&&aNY oi
 |_,_=>false
theorem aPL{E:Env}{ops:Array Oper}{eff stg:List Nat}{S:List Asn}{Q:Post}{x:Nat}{r r':List Nat}(k:∀S K M a,DX E ops eff stg Q r S K M a→DX E ops eff stg Q r' S K M a){K:Hl}{M:List Asn}{a:Act}
  (h:DX E ops eff stg Q (x::r) S K M a):DX E ops eff stg Q (x::r') S K M a:=by
 unfold DX at h ⊢;cases hx:ops[x]? with
 |none=>simp[hx]at h
 |some o=>
  simp only[hx]at h ⊢;split
  ·rename_i c;rw[if_pos c]at h;split
   ·rename_i c0;rw[if_pos c0]at h;exact fun w j=>(h w j).mono fun u w' ⟨K',S',M',le,j',hr⟩=>⟨K',S',M',le,j',k _ _ _ _ hr⟩
   rename_i c0;rw[if_neg c0]at h;split
   ·rename_i c';rw[if_pos c']at h;exact fun w j=>(h w j).mono fun u w' ⟨K',M',le,j',hr⟩=>⟨K',M',le,j',k _ _ _ _ hr⟩
   rename_i c';rw[if_neg c']at h;obtain⟨v,hv,hr⟩:=h;exact⟨v,hv,k _ _ _ _ hr⟩
  rename_i c;rw[if_neg c]at h;exact k _ _ _ _ h
theorem aSL{E:Env}{ops:Array Oper}{eff stg:List Nat}{Q:Post}{i:Nat}{r2:List Nat}:∀(r1:List Nat) {S:List Asn} {K:Hl} {M:List Asn} {a:Act},
  (∀x∈r1,aU8 ops eff stg x i=true)→DX E ops eff stg Q (r1++i::r2) S K M a→DX E ops eff stg Q (i::(r1++r2)) S K M a
 | [],_,_,_,_,_,h=>h
 |x::r1,S,K,M,a,hs,h=>by
  have h1:DX E ops eff stg Q (x::i::(r1++r2)) S K M a:=aPL (fun _ _ _ _=>aSL r1 fun y hy=>hs y (List.mem_cons_of_mem _ hy)) h;have hb:=hs x (List.mem_cons_self ..);unfold aU8 at hb;cases hx:ops[x]? with
  |none=>simp[hx]at hb
  |some ox=>
   cases hi:ops[i]? with
   |none=>simp[hx,hi]at hb
   |some oi=>
    simp only[hx,hi,Bool.and_eq_true,Bool.not_eq_true']at hb;exact bME hx hi hb.1.1.2 hb.1.2 hb.2 hb.1.1.1.2 hb.1.1.1.1.1 hb.1.1.1.1.2 h1
def upto(anc:List Nat):List Edge→Nat
 | []=>0
 |e::es=>if Region.binds .any e then (2 ^ e.on|||anc.getD e.on 0)|||upto anc es else upto anc es
def aMR(anc:List Nat):List Oper→Nat→Bool
 | [],_=>true
 |o::os,i=>(o.after.toList.all fun e=>!Region.binds .any e||Nat.blt e.on i)&&((anc.getD i 0|||upto anc o.after.toList)==upto anc o.after.toList)&&aMR anc os (i+1)
def pwB(ops:Array Oper)(eff stg anc:List Nat):List Nat→Bool
 | []=>true
 |x::r=>(r.all fun i=>(anc.getD i 0).testBit x||aU8 ops eff stg x i)&&!r.contains x&&pwB ops eff stg anc r
def bI5(l:List Oper)(eff stg anc ord:List Nat):Bool:=
 aMR anc l 0&&pwB l.toArray eff stg anc ord&&(List.range l.length).all ord.contains&&ord.all (Nat.blt · l.length)&&Nat.beq ord.length l.length
theorem aL5{anc:List Nat}{x:Nat}:∀ {es:List Edge},(upto anc es).testBit x=true→∃e∈es,Region.binds .any e=true∧(x=e.on∨(anc.getD e.on 0).testBit x=true)
 | [],h=>by simp[upto]at h
 |e::es,h=>by
  unfold upto at h;split at h
  ·rename_i hb;rw[Nat.testBit_or,Nat.testBit_or]at h;simp only[Bool.or_eq_true,Nat.testBit_two_pow,decide_eq_true_eq]at h;rcases h with (h|h)|h
   ·exact⟨e,List.mem_cons_self ..,hb,.inl h.symm⟩
   ·exact⟨e,List.mem_cons_self ..,hb,.inr h⟩
   obtain⟨e',he,h'⟩:=aL5 h;exact⟨e',List.mem_cons_of_mem _ he,h'⟩
  obtain⟨e',he,h'⟩:=aL5 h;exact⟨e',List.mem_cons_of_mem _ he,h'⟩
theorem aI5{anc:List Nat}:∀ {os:List Oper} {j:Nat},aMR anc os j=true→∀ {i:Nat} {o:Oper},os[i]?=some o→
  (∀e∈o.after.toList,Region.binds .any e=true→e.on < j+i)∧∀x,(anc.getD (j+i) 0).testBit x=true→(upto anc o.after.toList).testBit x=true
 | [],_,_,_,_,h=>by simp at h
 |o::os,j,h,i,o',ho=>by
  simp only[aMR,Bool.and_eq_true,List.all_eq_true,Bool.or_eq_true,Bool.not_eq_true',beq_iff_eq]at h;obtain⟨⟨h1,h2⟩,h3⟩:=h;cases i with
  |zero=>
   simp at ho;subst ho
   refine⟨fun e he hb=>?_,fun x hx=>?_⟩
   ·rcases h1 e he with q|q
    ·rw[hb]at q;cases q
    simp[Nat.blt]at q;omega
   rw[←h2,Nat.testBit_or];simp only[Nat.add_zero]at hx;rw[hx];rfl
  |succ i=>
   have:=aI5 (j:=j+1) h3 (i:=i) (o:=o') (by simpa using ho);have e:j+(i+1)=j+1+i:=by omega
   rw[e];exact this
def Down(ops:Array Oper)(listed:Array Bool):Prop:=
 ∀(i:Nat) (o:Oper),listed.getD i true=true→ops[i]?=some o→∀e∈o.after.toList,Region.binds .any e=true→listed.getD e.on false=true
theorem aGB{ops:Array Oper}{listed:Array Bool}{i:Nat}:i∈Region.ready .any ops listed↔
  i < ops.size∧listed.getD i true=false∧∃o,ops[i]?=some o∧∀e∈o.after.toList,Region.binds .any e=true→listed.getD e.on false=true:=by
 unfold Region.ready;simp only[List.mem_filter,List.mem_range,Bool.and_eq_true,Bool.not_eq_true']
 constructor
 ·rintro⟨h1,h2,h3⟩;refine⟨h1,h2,?_⟩
  cases ho:ops[i]? with
  |none=>simp[ho]at h3
  |some o=>
   refine⟨o,rfl,fun e he hb=>?_⟩
   simp only[ho,Option.map_some,Option.getD_some,Array.all_eq_true_iff_forall_mem]at h3;have:=h3 e (by simpa using he)
   simpa[hb]using this
 rintro⟨h1,h2,o,ho,h3⟩;refine⟨h1,h2,?_⟩
 simp only[ho,Option.map_some,Option.getD_some,Array.all_eq_true_iff_forall_mem];intro e he
 by_cases hb:Region.binds .any e=true
 ·simp[hb,h3 e (by simpa using he) hb]
 simp[hb]
theorem aV7{l:List Oper}{anc:List Nat}(hA:aMR anc l 0=true){listed:Array Bool}(hsz:listed.size=l.length)(hd:Down l.toArray listed){i:Nat}{o:Oper}(ho:l[i]?=some o)
  (hr:∀e∈o.after.toList,Region.binds .any e=true→listed.getD e.on false=true) {x:Nat} (hx:(anc.getD i 0).testBit x=true):listed.getD x false=true:=by
 have key:∀(n i:Nat) (o:Oper),i=n→l[i]?=some o→(∀e∈o.after.toList,Region.binds .any e=true→listed.getD e.on false=true)→(anc.getD i 0).testBit x=true→listed.getD x false=true:=by
  intro n;induction n using Nat.strongRecOn with
  |_ n ih=>
   rintro i o rfl ho hr hx;obtain⟨h1,h2⟩:=aI5 hA ho;simp only[Nat.zero_add]at h1 h2;obtain⟨e,he,hb,hxe⟩:=aL5 (h2 x hx);rcases hxe with rfl|hxe
   ·exact hr e he hb
   have hlt:=h1 e he hb;have hil:i < l.length:=by
    rcases Nat.lt_or_ge i l.length with h|h
    ·exact h
    simp[List.getElem?_eq_none h]at ho
   have hel:l[e.on]?=some l[e.on]:=by simp[List.getElem?_eq_getElem (Nat.lt_trans hlt hil)]
   have hle:=hr e he hb;refine ih e.on hlt e.on l[e.on] rfl hel ?_ hxe
   refine hd e.on l[e.on] ?_ (by simp[Nat.lt_trans hlt hil])
   rw[Array.getD_eq_getD_getElem?]at hle ⊢;have:e.on < listed.size:=by rw[hsz];exact Nat.lt_trans hlt hil
   simpa[Array.getElem?_eq_getElem this]using hle
 exact key i i o rfl ho hr hx
theorem aN7{ops:Array Oper}{eff stg anc:List Nat}:∀ {r:List Nat},pwB ops eff stg anc r=true→r.Nodup∧∀(r1:List Nat) (i:Nat) (r2:List Nat),r=r1++i::r2→∀x∈r1,(anc.getD i 0).testBit x=true∨aU8 ops eff stg x i=true
 | [],_=>⟨List.nodup_nil,fun r1 i r2 e=>by simp at e⟩
 |y::r,h=>by
  simp only[pwB,Bool.and_eq_true,List.all_eq_true,Bool.or_eq_true,Bool.not_eq_true']at h;obtain⟨⟨h1,h2⟩,h3⟩:=h;obtain⟨n,q⟩:=aN7 h3;refine⟨List.nodup_cons.2 ⟨by simpa using h2,n⟩,?_⟩
  intro r1 i r2 e x hx;cases r1 with
  |nil=>simp at hx
  |cons z r1=>
   simp only[List.cons_append,List.cons.injEq]at e;obtain⟨rfl,rfl⟩:=e;rcases List.mem_cons.1 hx with rfl|hx
   ·exact h1 i (by simp)
   exact q r1 i r2 rfl x hx
theorem aK2{ops:Array Oper}{eff stg anc:List Nat}(p:Nat→Bool):∀ {r:List Nat},pwB ops eff stg anc r=true→pwB ops eff stg anc (r.filter p)=true
 | [],_=>rfl
 |y::r,h=>by
  simp only[pwB,Bool.and_eq_true,List.all_eq_true,Bool.or_eq_true,Bool.not_eq_true']at h;obtain⟨⟨h1,h2⟩,h3⟩:=h;have ih:=aK2 p h3;simp only[List.filter_cons];split
  ·simp only[pwB,Bool.and_eq_true,List.all_eq_true,Bool.or_eq_true,Bool.not_eq_true',ih,and_true];refine⟨fun i hi=>h1 i (List.mem_filter.1 hi).1,?_⟩
   simp at h2 ⊢;exact fun h=>absurd h h2
  exact ih
theorem aMO{E:Env}{l:List Oper}{eff stg anc ord:List Nat}{Q:Post}(hA:aMR anc l 0=true)(hP:pwB l.toArray eff stg anc ord=true)(hcov:∀i,i < l.length→i∈ord)(hin:∀i∈ord,i < l.length):
  ∀(fuel:Nat) (listed:Array Bool) (r:List Nat) (S:List Asn) (K:Hl) (M:List Asn) (a:Act) (w:World),listed.size=l.length→r=ord.filter (fun i=>!listed.getD i true)→fuel=r.length→Down l.toArray listed→
   DX E l.toArray eff stg Q r S K M a→In E.w0 E.F K (S++M) w→wpAnyIn Fence.wide 0 E.P .any l.toArray Q fuel listed a w:=by
 intro fuel;induction fuel with
 |zero=>
  intro listed r S K M a w hsz hr hf hd h j;have hr0:r=[]:=List.length_eq_zero_iff.1 hf.symm;subst hr0;have hall:∀i,i < l.length→listed.getD i true=true:=by
   intro i hi;cases hb:listed.getD i true with
   |true=>rfl
   |false=>
    have:i∈ord.filter (fun i=>!listed.getD i true):=List.mem_filter.2 ⟨hcov i hi,by rw[hb];rfl⟩;rw[←hr]at this;simp at this
  refine⟨?_,h w j⟩
  refine List.eq_nil_iff_forall_not_mem.2 fun i hi=>?_;obtain⟨h1,h2,_⟩:=aGB.1 hi;rw[hall i (by simpa using h1)]at h2;cases h2
 |succ fuel ih=>
  intro listed r S K M a w hsz hr hf hd h j;have hne:r≠[]:=by rintro rfl;simp at hf
  refine⟨fun h0=>?_,fun i hi=>?_⟩
  ·exfalso
   have key:∀(n i:Nat),i=n→i < l.length→listed.getD i true=false→False:=by
    intro n;induction n using Nat.strongRecOn with
    |_ n ihn=>
     rintro i rfl hil hb;have hi:i∈Region.ready .any l.toArray listed:=by
      refine aGB.2 ⟨by simpa using hil,hb,l[i],by simp[List.getElem?_eq_getElem hil],fun e he hbd=>?_⟩
      have hlt:=(aI5 hA (i:=i) (o:=l[i]) (by simp[List.getElem?_eq_getElem hil])).1 e he hbd;simp only[Nat.zero_add]at hlt;have hel:e.on < listed.size:=by rw[hsz];exact Nat.lt_trans hlt hil
      cases hc:listed.getD e.on true with
      |false=>exact absurd hc (fun hc=>ihn e.on hlt e.on rfl (Nat.lt_trans hlt hil) hc)
      |true=>
       rw[Array.getD_eq_getD_getElem?]at hc ⊢
       simpa[Array.getElem?_eq_getElem hel]using hc
     rw[h0]at hi;simp at hi
   obtain⟨i,hi⟩:=List.exists_mem_of_ne_nil r hne;rw[hr]at hi;obtain⟨h1,h2⟩:=List.mem_filter.1 hi;exact key i i rfl (hin i h1) (by simpa using h2)
  obtain⟨h1,h2,o,ho,h3⟩:=aGB.1 hi;have hil:i < l.length:=by simpa using h1
  have hol:l[i]?=some o:=by simpa using ho
  have hmem:i∈r:=by rw[hr];exact List.mem_filter.2 ⟨hcov i hil,by rw[h2];rfl⟩
  obtain⟨r1,r2,hsplit⟩:=List.append_of_mem hmem;have hPr:pwB l.toArray eff stg anc r=true:=by rw[hr];exact aK2 _ hP
  obtain⟨hnd,hq⟩:=aN7 hPr;have hsw:∀x∈r1,aU8 l.toArray eff stg x i=true:=by
   intro x hx;rcases hq r1 i r2 hsplit x hx with hb|hb
   ·exfalso
    have hxl:=aV7 hA hsz hd hol h3 hb;have hxr:x∈r:=by rw[hsplit];simp[hx]
    rw[hr]at hxr;obtain⟨hxo,hxn⟩:=List.mem_filter.1 hxr;have hxs:x < listed.size:=by rw[hsz];exact hin x hxo
    rw[Array.getD_eq_getD_getElem?]at hxl;simp[Array.getElem?_eq_getElem hxs]at hxl hxn;rw[hxl]at hxn;cases hxn
   exact hb
  rw[hsplit]at h;have hfront:=aSL r1 hsw h;have his:i < listed.size:=by rw[hsz];exact hil
  have hr':r1++r2=ord.filter (fun k=>!(listed.setIfInBounds i true).getD k true):=by
   have hset:∀k,(listed.setIfInBounds i true).getD k true=(if k=i then true else listed.getD k true):=by
    intro k;rw[Array.getD_eq_getD_getElem?,Array.getD_eq_getD_getElem?,Array.getElem?_setIfInBounds]
    by_cases hk:i=k
    ·subst hk;simp[his]
    simp[hk,Ne.symm hk]
   have e1:ord.filter (fun k=>!(listed.setIfInBounds i true).getD k true)=r.filter (fun k=>k !=i):=by
    rw[hr,List.filter_filter];refine List.filter_congr fun k _=>?_;rw[hset k]
    by_cases hk:k=i
    ·subst hk;simp
    simp[hk]
   rw[e1,hsplit,List.filter_append,List.filter_cons];rw[hsplit]at hnd;have hn:=List.nodup_append.1 hnd;have hn2:=List.nodup_cons.1 hn.2.1;simp only[bne_self_eq_false,Bool.false_eq_true,if_false];rw[List.filter_eq_self.2,List.filter_eq_self.2]
   ·intro k hk;simp only[bne_iff_ne];rintro rfl;exact hn2.1 hk
   intro k hk;simp only[bne_iff_ne];rintro rfl;exact hn.2.2 k hk k (List.mem_cons_self ..) rfl
  have hd':Down l.toArray (listed.setIfInBounds i true):=by
   intro k ok hk hok e he hb;have up:listed.getD e.on false=true→(listed.setIfInBounds i true).getD e.on false=true:=by
    intro q;rw[Array.getD_eq_getD_getElem?]at q ⊢;rw[Array.getElem?_setIfInBounds]
    by_cases hk:i=e.on
    ·subst hk;simp[his]
    simpa[hk]using q
   by_cases hki:k=i
   ·subst hki;rw[ho]at hok;cases hok
    exact up (h3 e he hb)
   refine up (hd k ok ?_ hok e he hb)
   rw[Array.getD_eq_getD_getElem?]at hk ⊢;rw[Array.getElem?_setIfInBounds,if_neg (Ne.symm hki)]at hk;exact hk
  have hlen:fuel=(r1++r2).length:=by
   have:=congrArg List.length hsplit;simp at this hf ⊢;omega
  have step:∀S' K' M' a' w',DX E l.toArray eff stg Q (r1++r2) S' K' M' a'→In E.w0 E.F K' (S'++M') w'→wpAnyIn Fence.wide 0 E.P .any l.toArray Q fuel (listed.setIfInBounds i true) a' w':=
   fun S' K' M' a' w' hdx j'=>ih _ (r1++r2) S' K' M' a' w' (by simp[hsz]) hr' hlen hd' hdx j'
  unfold wpOpIn;simp only[ho];unfold DX at hfront;simp only[ho]at hfront
  by_cases hw:Region.wanted o (yielded l.toArray a.tmps)=true
  ·simp only[hw,if_true]at hfront ⊢
   by_cases hg:stg.contains i=true
   ·simp only[hg,if_true]at hfront;exact((hfront w j).wp fun u w' ⟨K',S',M',le,j',hr⟩=>step S' K' M' _ w' hr j')
   simp only[hg,if_false,Bool.false_eq_true]at hfront
   by_cases he:eff.contains i=true
   ·simp only[he,if_true]at hfront;exact((hfront w j).wp fun u w' ⟨K',M',le,j',hr⟩=>step S K' M' _ w' hr j')
   simp only[he,if_false,Bool.false_eq_true]at hfront;obtain⟨v,hv,hr⟩:=hfront;exact((hv K M w (Hl.le_refl _) j).wp fun u w' ⟨e,j'⟩=>by subst e;exact step S K M _ w' hr j')
  simp only[hw,if_false,Bool.false_eq_true]at hfront ⊢;exact⟨fun _ _=>trivial,step S K M _ w hfront j⟩
theorem aWS{E:Env}{l:List Oper}{eff stg anc ord:List Nat}{S M:List Asn}{Q:Post}{id:Nat}{K:Hl}{a:Act}{w:World}(hm:E.P.follows .mixedOrders=true)(hok:bI5 l eff stg anc ord=true)
  (h:DX E l.toArray eff stg Q ord S K M a) (j:In E.w0 E.F K (S++M) w):(Code.region id l.toArray true).wp E.P Q a w:=by
 simp only[bI5,Bool.and_eq_true,List.all_eq_true]at hok;obtain⟨⟨⟨⟨hA,hP⟩,hcov⟩,hin⟩,hle⟩:=hok;refine wpIn_wide.1 (wpIn_region_any (n:=0) hm ?_)
 have hfil:ord.filter (fun i=>!(Array.replicate l.toArray.size false).getD i true)=ord:=by
  refine List.filter_eq_self.2 fun i hi=>?_;have:i < l.length:=by have:=hin i hi;simp[Nat.blt]at this;omega
  rw[Array.getD_eq_getD_getElem?];simp[this]
 have hlen:ord.length=l.toArray.size:=by simpa using Nat.eq_of_beq_eq_true hle
 refine aMO (E:=E) (eff:=eff) (stg:=stg) (anc:=anc) (ord:=ord) hA hP (fun i hi=>by have:=hcov i (List.mem_range.2 hi);simpa using this) (fun i hi=>by have:=hin i hi;simp[Nat.blt]at this;omega) l.toArray.size _ ord S K M a _ (by simp) hfil.symm hlen.symm ?_ h (j.drew _)
 intro k ok hk hok;rw[Array.getD_eq_getD_getElem?]at hk;have:k < l.toArray.size:=by
  rcases Nat.lt_or_ge k l.toArray.size with h|h
  ·exact h
  rw[Array.getElem?_eq_none h]at hok;cases hok
 simp at this;simp[this]at hk
theorem In.weaken{w0 w:World}{F K K':Hl}{L:List Asn}(le:K.le K')(i:In w0 F K' L w):In w0 F K L w:=by
 obtain⟨h,hs,d1,d2,d3,l1,l2,l3⟩:=i.rep;have sub:∀x,K' x=none→K x=none:=by
  intro x hx;cases e:K x with
  |none=>rfl
  |some o=>rw[le x o e]at hx;cases hx
 exact⟨i.os,i.tape,i.output,i.size,h,hs,fun x=>(d1 x).imp_right (sub x),d2,fun x=>(d3 x).imp_left (sub x),l1,Hl.le_trans le l2,l3⟩
theorem In.left{w0 w:World}{F K:Hl}{S M:List Asn}(i:In w0 F K (S++M) w):In w0 F K S w:=by
 obtain⟨h,hs,d1,d2,d3,l1,l2,l3⟩:=i.rep;obtain⟨a,n,ha,hn,han,rfl⟩:=gE.1 hs;exact⟨i.os,i.tape,i.output,i.size,a,ha,d1,(Hl.dj_join.1 d2).1,(Hl.dj_join.1 d3).1,l1,l2,Hl.le_join_left l3⟩
theorem aU{E:Env}{x:Exit}{fr:Fr}{K:Hl}{As L M:List Asn}{Q:Post}(hL:Tks As L M)(h:D E x fr K As Q):D E x fr K L Q:=fun a w f i=>h a w f (i.imp hL.sat).left
theorem z8{E:Env}{c:Code}{fr:Fr}{K:Hl}{As L M:List Asn}{Q:Post}(hL:Tks As L M)(h:T E c fr K As Q):T E c fr K L Q:=fun a w f i=>h a w f (i.imp hL.sat).left
def DL(E:Env)(ops:Array Oper)(eff stg:List Nat)(S:List Asn)(r:List Nat)(fr:Fr)(K:Hl)(M:List Asn)(Q:Post):Prop:=
 ∀a,FrOk E.n E.ds fr a→DX E ops eff stg Q r S K M a
inductive GOk (ops:Array Oper) (fr:Fr) (o:Oper):Bool→Prop where
 |none:o.guard=.none→GOk ops fr o true
 |on {g dg:Nat} {c:Bool}:o.guard=some (g,c)→(ops[g]?).bind (·.dst)=some dg→fr.get dg=some (.bool c)→GOk ops fr o true
 |off {g dg:Nat} {c:Bool}:o.guard=some (g,c)→(ops[g]?).bind (·.dst)=some dg→fr.get dg=some (.bool (!c))→GOk ops fr o false
 |offu {g dg:Nat} {c:Bool}:o.guard=some (g,c)→(ops[g]?).bind (·.dst)=some dg→fr.get dg=some undef→GOk ops fr o false
theorem GOk.wanted{ops:Array Oper}{fr:Fr}{o:Oper}{b:Bool}(h:GOk ops fr o b){n:Nat}{ds:List Deferred}{a:Act}(f:FrOk n ds fr a):Region.wanted o (yielded ops a.tmps)=b:=by
 cases h with
 |none h=>simp[Region.wanted,h]
 |on h1 h2 h3=>simp[Region.wanted,h1,yielded,h2,f.get _ _ h3]
 |off h1 h2 h3=>simp[Region.wanted,h1,yielded,h2,f.get _ _ h3]
 |offu h1 h2 h3=>simp[Region.wanted,h1,yielded,h2,f.get _ _ h3,undef]
section
variable{E:Env}{ops:Array Oper}{eff stg:List Nat}{S:List Asn}{r:List Nat}{fr:Fr}{K:Hl}{M L:List Asn}{Q:Post}{i:Nat}{o:Oper}
theorem dD{l:List Oper}{anc ord:List Nat}{id:Nat}(eff stg:List Nat)(hm:E.P.follows .mixedOrders=true)(hok:bI5 l eff stg anc ord=true)(hL:Tks S L M)
  (h:DL E l.toArray eff stg S ord fr K M Q):T E (.region id l.toArray true) fr K L Q:=
 fun a w f j=>aWS hm hok (h a f) (j.imp hL.sat)
theorem cO(h:D E .normal fr K (S++M) Q):DL E ops eff stg S [] fr K M Q:=fun a f w j=>h a w f j
theorem aK{d:Nat}{v:Value}(ho:ops[i]?=some o)(hd:o.dst=some d)(hg:GOk ops fr o true)(hg0:stg.contains i=false)(he:eff.contains i=false)(hv:Ev E fr K S o v)(hn:Nat.blt d E.n=true)
  (h:DL E ops eff stg S r ((d,v)::fr) K M Q):DL E ops eff stg S (i::r) fr K M Q:=by
 intro a f;unfold DX;simp only[ho,hg.wanted f,if_true,hg0,he,Bool.false_eq_true,if_false];refine⟨v,fun K' M' w le j=>.inl ⟨v,w,hv a w f (j.left.weaken le),rfl,j⟩,?_⟩
 rw[hd];exact h _ (f.put hn v)
theorem sY{d:Nat}{N:Value→Hl→List Asn→Prop}(ho:ops[i]?=some o)(hd:o.dst=some d)(hg:GOk ops fr o true)(hg0:stg.contains i=false)(he:eff.contains i=true)(hv:EfS E fr K (S++M) o N)(hn:Nat.blt d E.n=true)
  (h:∀v K' L',N v K' L'→K.le K'→∃M',(∀x,Sat L' x→Sat (S++M') x)∧DL E ops eff stg S r ((d,v)::fr) K' M' Q):DL E ops eff stg S (i::r) fr K M Q:=by
 intro a f;unfold DX;simp only[ho,hg.wanted f,if_true,hg0,he,Bool.false_eq_true,if_false];intro w j;obtain⟨u,w',K',L',hr,hN,le,j'⟩:=hv a w f j;obtain⟨M',hM,hD⟩:=h u K' L' hN le;rcases hr with hr|⟨hr,rfl⟩
 ·exact .inl ⟨u,w',hr,K',M',le,j'.imp hM,by rw[hd];exact hD _ (f.put hn u)⟩
 exact .inr (.inl ⟨w',hr,K',M',le,j'.imp hM,by rw[hd];exact hD _ (f.put hn undef)⟩)
theorem lC{d:Nat}{ty:TypeId}{pos:String}{aft:Array Edge}{g:Option (Nat×Bool)}{fv:Operand}{xs:List Operand}{ats:Array TypeId}{f:FuncId}{caps:Array Value}{vs:List Value}{v:Value}
  (ho:ops[i]?=some ⟨some d,.call ⟨.value fv,xs.toArray,ats⟩,ty,pos,aft,g⟩) (hg:GOk ops fr ⟨some d,.call ⟨.value fv,xs.toArray,ats⟩,ty,pos,aft,g⟩ true) (hg0:stg.contains i=false) (he:eff.contains i=true)
  (hf:fr.ev fv=some (.func (.func f) #[] caps)) (hx:fr.evs xs=some vs) (hs:Sp E.P f (vs++caps.toList) K [] (Val v K)) (hn:Nat.blt d E.n=true)
  (h:DL E ops eff stg S r ((d,v)::fr) K M Q):DL E ops eff stg S (i::r) fr K M Q:=by
 intro a fo;unfold DX;simp only[ho,hg.wanted fo,if_true,hg0,he,Bool.false_eq_true,if_false];intro w j;obtain⟨F',i1,back⟩:=In.hide (L:=[]) (N:=S++M) j;refine .inr (.inr (.inl ⟨f,_,w,vH hf hx hs fo w,(hs.2 F' w i1).mono fun e w' ⟨K',L',⟨q1,q2,q3⟩,le,j'⟩=>?_⟩))
 subst q1;subst q2;subst q3
 exact⟨_,M,Hl.le_refl _,back j',h _ (fo.put hn v)⟩
theorem aDX{d:Nat}{ty:TypeId}{pos:String}{aft:Array Edge}{g:Option (Nat×Bool)}{fv:Operand}{xs:List Operand}{ats:Array TypeId}{f:FuncId}{caps:Array Value}{vs:List Value}{L1 L2:List Asn}{R:Ending→Hl→List Asn→Prop}
  (ho:ops[i]?=some ⟨some d,.call ⟨.value fv,xs.toArray,ats⟩,ty,pos,aft,g⟩) (hg:GOk ops fr ⟨some d,.call ⟨.value fv,xs.toArray,ats⟩,ty,pos,aft,g⟩ true) (hg0:stg.contains i=false) (he:eff.contains i=true)
  (hf:fr.ev fv=some (.func (.func f) #[] caps)) (hx:fr.evs xs=some vs) (hs:Sp E.P f (vs++caps.toList) K L1 R) (hL:Tks L1 (S++M) L2) (hn:Nat.blt d E.n=true)
  (hout:∀K' L',¬R .outgrown K' L')
  (hpan:∀ch K' L',R (.panicked ch) K' L'→K.le K'→∀a w,a.defers=E.ds→In E.w0 E.F K' (L'++L2) w→Q (.panic ch) a w)
  (h:∀v K' L',R (.returned v) K' L'→K.le K'→∃M',(∀x,Sat (L'++L2) x→Sat (S++M') x)∧DL E ops eff stg S r ((d,v)::fr) K' M' Q):DL E ops eff stg S (i::r) fr K M Q:=by
 intro a fo;unfold DX;simp only[ho,hg.wanted fo,if_true,hg0,he,Bool.false_eq_true,if_false];intro w j;obtain⟨F',i1,back⟩:=(j.imp hL.sat).hide;refine .inr (.inr (.inl ⟨f,_,w,vH hf hx hs fo w,(hs.2 F' w i1).mono fun e w' ⟨K',L',q,le,j'⟩=>?_⟩))
 cases e with
 |returned v=>
  obtain⟨M',hM,hD⟩:=h v K' L' q le;exact⟨K',M',le,(back j').imp hM,hD _ (fo.put hn v)⟩
 |panicked ch=>exact fun a' ha'=>hpan ch K' L' q le a' w' (ha'.1.trans fo.defers) (back j')
 |outgrown=>exact absurd q (hout _ _)
theorem aSJ{d:Nat}{N:Value→Hl→List Asn→Prop}(ho:ops[i]?=some o)(hd:o.dst=some d)(hg:GOk ops fr o true)(he:stg.contains i=true)(hv:EfS E fr K (S++M) o N)(hn:Nat.blt d E.n=true)
  (h:∀v K' L',N v K' L'→K.le K'→DL E ops eff stg L' r ((d,v)::fr) K' [] Q):DL E ops eff stg S (i::r) fr K M Q:=by
 intro a f;unfold DX;simp only[ho,hg.wanted f,if_true,he];intro w j;obtain⟨u,w',K',L',hr,hN,le,j'⟩:=hv a w f j;have hD:=h u K' L' hN le;rcases hr with hr|⟨hr,rfl⟩
 ·exact .inl ⟨u,w',hr,K',L',[],le,by simpa using j',by rw[hd];exact hD _ (f.put hn u)⟩
 exact .inr (.inl ⟨w',hr,K',L',[],le,by simpa using j',by rw[hd];exact hD _ (f.put hn undef)⟩)
theorem mS{N:Value→Hl→List Asn→Prop}(ho:ops[i]?=some o)(hd:o.dst=none)(hg:GOk ops fr o true)(he:stg.contains i=true)(hv:EfS E fr K (S++M) o N)
  (h:∀v K' L',N v K' L'→K.le K'→DL E ops eff stg L' r fr K' [] Q):DL E ops eff stg S (i::r) fr K M Q:=by
 intro a f;unfold DX;simp only[ho,hg.wanted f,if_true,he];intro w j;obtain⟨u,w',K',L',hr,hN,le,j'⟩:=hv a w f j;have hD:=h u K' L' hN le;rcases hr with hr|⟨hr,rfl⟩
 ·exact .inl ⟨u,w',hr,K',L',[],le,by simpa using j',by rw[hd];exact hD _ f⟩
 exact .inr (.inl ⟨w',hr,K',L',[],le,by simpa using j',by rw[hd];exact hD _ f⟩)
theorem kP{d:Nat}{ty:TypeId}{pos:String}{aft:Array Edge}{g:Option (Nat×Bool)}{fv:Operand}{xs:List Operand}{ats:Array TypeId}{f:FuncId}{caps:Array Value}{vs:List Value}{L1 L2:List Asn}{R:Ending→Hl→List Asn→Prop}
  (ho:ops[i]?=some ⟨some d,.call ⟨.value fv,xs.toArray,ats⟩,ty,pos,aft,g⟩) (hg:GOk ops fr ⟨some d,.call ⟨.value fv,xs.toArray,ats⟩,ty,pos,aft,g⟩ true) (he:stg.contains i=true)
  (hf:fr.ev fv=some (.func (.func f) #[] caps)) (hx:fr.evs xs=some vs) (hs:Sp E.P f (vs++caps.toList) K L1 R) (hL:Tks L1 (S++M) L2) (hn:Nat.blt d E.n=true)
  (hout:∀K' L',¬R .outgrown K' L')
  (hpan:∀ch K' L',R (.panicked ch) K' L'→K.le K'→∀a w,a.defers=E.ds→In E.w0 E.F K' (L'++L2) w→Q (.panic ch) a w)
  (h:∀v K' L',R (.returned v) K' L'→K.le K'→DL E ops eff stg (L'++L2) r ((d,v)::fr) K' [] Q):DL E ops eff stg S (i::r) fr K M Q:=by
 intro a fo;unfold DX;simp only[ho,hg.wanted fo,if_true,he];intro w j;obtain⟨F',i1,back⟩:=(j.imp hL.sat).hide;refine .inr (.inr (.inl ⟨f,_,w,vH hf hx hs fo w,(hs.2 F' w i1).mono fun e w' ⟨K',L',q,le,j'⟩=>?_⟩))
 cases e with
 |returned v=>exact⟨K',L'++L2,[],le,by simpa using back j',h v K' L' q le _ (fo.put hn v)⟩
 |panicked ch=>exact fun a' ha'=>hpan ch K' L' q le a' w' (ha'.1.trans fo.defers) (back j')
 |outgrown=>exact absurd q (hout _ _)
theorem iJ{d:Nat}{ty:TypeId}{pos:String}{aft:Array Edge}{g:Option (Nat×Bool)}{fv:Operand}{xs:List Operand}{ats:Array TypeId}{f:FuncId}{caps:Array Value}{vs:List Value}{L1 L2:List Asn}{N:Value→Hl→List Asn→Prop}
  (ho:ops[i]?=some ⟨some d,.call ⟨.value fv,xs.toArray,ats⟩,ty,pos,aft,g⟩) (hg:GOk ops fr ⟨some d,.call ⟨.value fv,xs.toArray,ats⟩,ty,pos,aft,g⟩ true) (he:stg.contains i=true)
  (hf:fr.ev fv=some (.func (.func f) #[] caps)) (hx:fr.evs xs=some vs) (hs:Sp E.P f (vs++caps.toList) K L1 (Ret N)) (hL:Tks L1 (S++M) L2) (hn:Nat.blt d E.n=true)
  (h:∀v K' L',N v K' L'→K.le K'→DL E ops eff stg (L'++L2) r ((d,v)::fr) K' [] Q):DL E ops eff stg S (i::r) fr K M Q:=
 kP ho hg he hf hx hs hL hn (fun K' L' ⟨u,e,n⟩=>by cases e) (fun ch K' L' ⟨u,e,n⟩=>by cases e) (fun v K' L' ⟨u,e,n⟩ le=>by cases e;exact h v K' L' n le)
theorem dI:∀(L:List Asn),Tks L L []
 | []=>.nil
 |_::L=>.cons .here (dI L)
end
inductive Spl:List Value→Nat→List Value→List Value→Prop where
 |nil {l:List Value}:Spl l 0 [] l
 |cons {a c:Value} {l cs l':List Value}:Spl l 0 cs l'→Spl (a::l) 0 (c::cs) (c::l')
 |skip {a:Value} {l cs l':List Value} {n:Nat}:Spl l n cs l'→Spl (a::l) (n+1) cs (a::l')
theorem Spl.eq{l cs l':List Value}{n:Nat}(h:Spl l n cs l'):l'=l.take n++cs++l.drop (n+cs.length)∧n+cs.length≤l.length:=by
 induction h with
 |nil=>simp
 |cons _ ih=>obtain⟨h1,h2⟩:=ih;simp at h1 h2 ⊢;exact⟨h1,h2⟩
 | @skip a l cs l' n _ ih=>
  obtain⟨h1,h2⟩:=ih;have:n+1+cs.length=(n+cs.length)+1:=by omega
  rw[this];simp at h1 h2 ⊢;exact⟨h1,h2⟩
def fQ(P:Program)(t:TypeId):Option (List Value×List (Nat×Nat)):=
 match P.underlying t,P.info? t with
 |some (.struct fs),some i=>match i.zero with
  |some z=>some (z.cells.toList,fs.toList.map fun f=>(f.offset,match P.info? f.type with|some ti=>ti.size|none=>0))
  |none=>none
 |_,_=>none
inductive Fill (fr:Fr) (place:Nat→Option (Nat×Nat)):List Value→List (Nat×Operand)→List Value→Prop where
 |nil {z:List Value}:Fill fr place z [] z
 |cons {i off:Nat} {x:Operand} {v:Value} {cs z z' out:List Value} {rest:List (Nat×Operand)}:fr.ev x=some v→v.cells=cs.toArray→place i=some (off,cs.length)→Spl z off cs z'→Fill fr place z' rest out→Fill fr place z ((i,x)::rest) out
theorem bB5(off:Nat):∀(cs:List Value) (j:Nat) (z:Array Value),off+j+cs.length≤z.size→
  (cs.zipIdx j).foldl (fun(a:Array Value) (p:Value×Nat)=>a.setIfInBounds (off+p.2) p.1) z=(z.toList.take (off+j)++cs++z.toList.drop (off+j+cs.length)).toArray:=by
 intro cs;induction cs with
 |nil=>intro j z h;simp
 |cons c cs ih=>
  intro j z h;simp only[List.zipIdx_cons,List.foldl_cons];rw[ih (j+1) _ (by simp at h ⊢;omega)];simp at h
  congr 1
  have e1:off+(j+1)=off+j+1:=by omega
  have e2:off+(j+1)+cs.length=off+j+(c::cs).length:=by simp;omega
  rw[e2,e1];simp only[Array.toList_setIfInBounds];rw[List.take_set,List.drop_set_of_lt (by simp)];rw[List.take_succ_eq_append_getElem (by simpa using (by omega:off+j < z.size))];rw[List.set_append_right _ _ gAI];simp;have:off+j - min (off+j) z.size=0:=by omega
  rw[this];simp
theorem aZU{fr:Fr}{place:Nat→Option (Nat×Nat)}{z out:List Value}{parts:List (Nat×Operand)}(h:Fill fr place z parts out){n:Nat}{ds:List Deferred}{a:Act}(f:FrOk n ds fr a):
  Instr.fill place z.toArray (parts.map fun p=>(p.1,a.eval p.2))=some out.toArray:=by
 induction h with
 |nil=>rfl
 | @cons i off x v cs z z' out rest h1 h2 h3 h4 _ ih=>
  obtain⟨e1,e2⟩:=h4.eq;simp only[List.map_cons,f.ev h1,Instr.fill];simp only[h3,h2,List.size_toArray];rw[if_neg gAI];have hz:(cs.toArray.zipIdx.foldl (fun(a:Array Value) (p:Value×Nat)=>a.setIfInBounds (off+p.2) p.1) z.toArray)=z'.toArray:=by
   rw[←Array.foldl_toList];have:=bB5 off cs 0 z.toArray (by simpa using e2);simp at this ⊢;rw[this,e1];simp
  have hz':(cs.toArray.zipIdx.foldl (fun cs (x:Value×Nat)=>match x with|(c,j)=>cs.setIfInBounds (off+j) c) z.toArray)=z'.toArray:=hz;rw[hz'];exact ih
section
variable{E:Env}{fr:Fr}{K:Hl}{L L':List Asn}{Q:Post}{dst:Option Tmp}{ty:TypeId}{pos:String}{aft:Array Edge}{g:Option (Nat×Bool)}{x y:Operand}{t t' s e sz i off b:Nat}{α:Type}{k:El α}{v u:Value}{xs:List α}
theorem aTL{P:Program}(w:World):∀(fs:List Field),(∀f∈fs,∃ti,P.info? f.type=some ti)→
  (fs.mapM (fun f=>do pure (f.offset,←sizeOf f.type):Field→Sem (Nat×Nat))).run P w=.ok (fs.map fun f=>(f.offset,match P.info? f.type with|some ti=>ti.size|none=>0)) w:=by
 intro fs;induction fs with
 |nil=>intro _;rfl
 |cons f fs ih=>
  intro h;obtain⟨ti,hti⟩:=h f (List.mem_cons_self ..);rw[List.mapM_cons];have h1:((do pure (f.offset,←sizeOf f.type)):Sem (Nat×Nat)).run P w=.ok (f.offset,ti.size) w:=by
   simp only[sizeOf,typeInfo,program,bind,Sem.bind,pure,Sem.run,hti]
  rw[aV h1,aV (ih fun g hg=>h g (List.mem_cons_of_mem _ hg))];simp[pure,hti]
def fN(P:Program)(t:TypeId):Bool:=
 match P.underlying t with
 |some (.struct fs)=>fs.toList.all fun f=>(P.info? f.type).isSome
 |_=>false
theorem bBA{P:Program}{z out:List Value}{places:List (Nat×Nat)}{parts:List (Nat×Value)}(hb:fQ P t=some (z,places))(hf:fN P t=true)
  (h:Instr.fill (places.toArray[·]?) z.toArray parts=some out.toArray) (w:World):(Instr.build t parts.toArray).run P w=.ok (.agg out.toArray) w:=by
 unfold fQ at hb;unfold fN at hf;cases hu:P.underlying t with
 |none=>simp[hu]at hb
 |some d=>
  cases d <;> simp[hu]at hb
  rename_i fs;cases hi:P.info? t with
  |none=>simp[hi]at hb
  |some ti=>
   cases hz:ti.zero with
   |none=>simp[hi,hz]at hb
   |some zv=>
    simp[hi,hz]at hb;obtain⟨rfl,rfl⟩:=hb;simp only[hu,List.all_eq_true]at hf;have hm:=aTL (P:=P) w fs.toList (fun f hfm=>by have:=hf f hfm;cases hx:P.info? f.type with|none=>simp[hx]at this|some ti=>exact⟨ti,rfl⟩);unfold Instr.build;have h1:(zeroValue t).run P w=.ok zv w:=by simp only[zeroValue,typeInfo,program,bind,Sem.bind,pure,Sem.run,hi,hz]
    rw[aV h1];have h2:(underlying t).run P w=.ok (.struct fs) w:=by simp only[underlying,program,bind,Sem.bind,pure,Sem.run,hu]
    simp only[];rw[aV h2];simp only[];have h3:(fs.mapM (fun f=>do pure (f.offset,←sizeOf f.type):Field→Sem (Nat×Nat))).run P w=.ok (fs.toList.map fun f=>(f.offset,match P.info? f.type with|some ti=>ti.size|none=>0)).toArray w:=by
     rw[Array.mapM_eq_mapM_toList]
     show (Functor.map _ _:Sem _).run P w=_
     simp only[Functor.map]
     show (Sem.bind _ _).run P w=_
     have:=aV (P:=P) (f:=fun l=>(pure l.toArray:Sem (Array (Nat×Nat)))) hm;exact this
    rw[aV h3];have h4:zv.cells.toList.toArray=zv.cells:=by simp
    rw[h4]at h;simp only[h]
    rfl
theorem cL{z out:List Value}{places:List (Nat×Nat)}{parts:List (Nat×Operand)}(hb:fQ E.P t=some (z,places))(hf:fN E.P t=true)(h:Fill fr (places.toArray[·]?) z parts out):
  Ev E fr K L ⟨dst,.build t parts.toArray,ty,pos,aft,g⟩ (.agg out.toArray):=fun a w f j=>by
 have e:Array.map (fun(p:Nat×Operand)=>(p.1,a.eval p.2)) parts.toArray=(parts.map fun p=>(p.1,a.eval p.2)).toArray:=by simp
 simp only[execOp];refine eR ?_;have:=bBA hb hf (aZU h f) w;rw[←e]at this;exact this
theorem t7{P:Program}{u:TypeId}{fz:Nat×Nat}:∀(cs:List Value) (o k:Nat) (w:World) (l:List Value),w.heap[b]?=some (aZ l u fz)→o+k+cs.length≤l.length→
  (∀j,j < cs.length→(fz.1≤o+k+j&&o+k+j < fz.2)=false)→(∀c∈cs,c.oneCell'=true)→
  ∃w',(storeCells ⟨b,o,none⟩ cs k).run P w=.ok () w'∧w'.heap.size=w.heap.size∧w'.heap[b]?=some (aZ (l.take (o+k)++cs++l.drop (o+k+cs.length)) u fz)∧(∀z,z≠b→w'.heap[z]?=w.heap[z]?)∧w'={w with heap:=w'.heap}:=by
 intro cs;induction cs with
 |nil=>intro o k w l h _ _ _;exact⟨w,rfl,rfl,by simpa using h,fun _ _=>rfl,rfl⟩
 |cons c cs ih=>
  intro o k w l h hl hf h1;simp at hl;have hs:=aGN (P:=P) h (o:=o+k) aI (by simpa using hf 0 (by simp)) (h1 c (List.mem_cons_self ..));obtain⟨s1,s2,s3⟩:=sG (o:=o+k) c h;have hf':∀j,j < cs.length→(fz.1≤o+(k+1)+j&&o+(k+1)+j < fz.2)=false:=by
   intro j hj;have:=hf (j+1) gAI;have e:o+(k+1)+j=o+k+(j+1):=by omega
   rw[e];exact this
  obtain⟨w',r1,r2,r3,r4,r5⟩:=ih o (k+1) (w.setCell ⟨b,o+k,none⟩ c) (l.set (o+k) c) s2 gAI hf' (fun c' hc=>h1 c' (List.mem_cons_of_mem _ hc));refine⟨w',?_,r2.trans s1,?_,fun z hz=>(r4 z hz).trans (s3 z hz),?_⟩
  ·simp only[storeCells,kG];rw[aV hs];exact r1
  ·rw[r3]
   congr 2
   have e1:o+(k+1)=o+k+1:=by omega
   rw[e1,List.take_set,List.drop_set_of_lt aI,List.take_succ_eq_append_getElem aI,List.set_append_right _ _ gAI];have:o+k - (List.take (o+k) l).length=0:=by simp;omega
   rw[this];simp
   congr 1;omega
  rw[r5];rfl
theorem cK{o n:Nat}{l l' cs:List Value}{u:TypeId}{fz:Nat×Nat}(ht:aggB E.P t n=true)(hx:fr.ev x=some (ptr b o))(hy:fr.ev y=some (.agg cs.toArray))(hn:cs.length=n)
  (hs:Fnd (pt b (aZ l u fz)) (pt b (aZ l' u fz)) L L') (h1:∀c∈cs,c.oneCell'=true) (hspl:Spl l o cs l') (hf:∀j,j < n→(fz.1≤o+j&&o+j < fz.2)=false):
  EfS E fr K L ⟨dst,.store t x y,ty,pos,aft,g⟩ (fun _ K' L''=>K'=K∧L''=L'):=by
 intro a w f j;have hb:=j.mem hs;obtain⟨e1,e2⟩:=hspl.eq;obtain⟨w',r1,r2,r3,r4,r5⟩:=t7 (P:=E.P) cs o 0 w l hb (by simpa using e2) (fun i hi=>by simpa using hf i (hn▸hi)) h1;have hr:(execOp a.eval ⟨dst,.store t x y,ty,pos,aft,g⟩).run E.P w=.ok .skip w':=by
  simp only[execOp,f.ev hx,f.ev hy];have:(Instr.storeAt t (ptr b o) (.agg cs.toArray)).run E.P w=.ok () w':=by
   show (storeVar t _ _).run E.P w=_
   unfold storeVar;rw[aV (aIF ht w).2];have hne:¬((Value.agg cs.toArray).cells.size≠n):=by simp[Value.cells,hn]
   rw[if_neg hne];exact r1
  rw[aV this];rfl
 refine⟨_,_,_,_,.inr ⟨hr,rfl⟩,⟨rfl,rfl⟩,Hl.le_refl _,?_⟩
 rw[r5];refine j.writeAt hs r2 ?_ r4
 rw[r3,e1];simp
theorem cY{d:TypeDesc}(hu:E.P.underlying t=some d)(hd:∀ms,d≠.interface ms)(hx:fr.ev x=some v):Ev E fr K L ⟨dst,.makeInterface t x,ty,pos,aft,g⟩ (.iface t v):=fun a w f j=>by
 simp only[execOp,f.ev hx];refine eR ?_;unfold Instr.makeInterface;have h2:(underlying t).run E.P w=.ok d w:=by simp only[underlying,program,bind,Sem.bind,pure,Sem.run,hu]
 rw[aV h2];cases d <;> first|rfl|exact absurd rfl (hd _)
theorem aQ{vs:List Value}(hx:fr.ev x=some (.tuple vs.toArray))(hi:vs[i]?=some v):Ev E fr K L ⟨dst,.extract x i,ty,pos,aft,g⟩ v:=fun a w f j=>by
 simp only[execOp,f.ev hx];refine eR ?_;simp[Instr.extract,hi,pure]
theorem fI{fn:Fn}{fs cs:List Operand}{vf vc:List Value}(hf:fr.evs fs=some vf)(hc:fr.evs cs=some vc):Ev E fr K L ⟨dst,.makeFunc fn fs.toArray cs.toArray,ty,pos,aft,g⟩ (.func fn vf.toArray vc.toArray):=fun a w f j=>by
 have e1:Array.map a.eval fs.toArray=vf.toArray:=by simp[f.evs hf]
 have e2:Array.map a.eval cs.toArray=vc.toArray:=by simp[f.evs hc]
 simp only[execOp,e1,e2]
 rfl
def gH(P:Program)(t:TypeId):Option Value:=(P.info? t).bind (·.zero)
theorem bHC{P:Program}(d:Nat){el:TypeId}{pa:Option Addr}(hu:P.underlying t=some (.pointer el))(w:World):(Op.equalIn (d+1) t (.pointer pa) (.pointer none)).run P w=.ok pa.isNone w:=by
 cases pa <;> simp only[Op.equalIn,underlying,program,bind,Sem.bind,pure,Sem.run,hu,Option.isNone]
theorem aZP{P:Program}{el:TypeId}{pa:Option Addr}(hu:P.underlying t=some (.pointer el))(w:World):(Op.equal t (.pointer pa) (.pointer none)).run P w=.ok pa.isNone w:=bHC 9999 hu w
theorem e9{el:TypeId}{pa:Option Addr}(hu:E.P.underlying t=some (.pointer el))(hx:fr.ev x=some (.pointer pa))(hy:fr.ev y=some (.pointer none)):Ev E fr K L ⟨dst,.binOp .eql t x y t',ty,pos,aft,g⟩ (.bool pa.isNone):=
 gT hx hy (fun w=>rfl) fun w=>by
  show (do pure (Value.bool (←Op.equal t (.pointer pa) (.pointer none))):Sem Value).run E.P w=_
  rw[aV (aZP hu w)];rfl
theorem or8(c d:UInt8):IntKind.u8.wrap (BitVec.toNat (BitVec.ofInt 8 (c.toNat:Int)|||BitVec.ofInt 8 (d.toNat:Int)):Int)=((c|||d).toNat:Int):=by
 have h:∀c:UInt8,BitVec.ofInt 8 (c.toNat:Int)=c.toBitVec:=fun c=>by apply BitVec.eq_of_toNat_eq;simp
 rw[h,h];have:(c.toBitVec|||d.toBitVec)=(c|||d).toBitVec:=by simp
 rw[this];have hlt:=(c|||d).toNat_lt;unfold IntKind.wrap IntKind.bits IntKind.signed;simp only[Bool.false_and,Bool.false_eq_true,if_false]
 show (((c|||d).toNat:Int)) % 2 ^ 8=_
 omega
theorem aPS(c d:UInt8)(hx:fr.ev x=some (.int .u8 c.toNat))(hy:fr.ev y=some (.int .u8 d.toNat)):Ev E fr K L ⟨dst,.binOp .or t x y t',ty,pos,aft,g⟩ (.int .u8 (c|||d).toNat):=
 gT hx hy jR fun w=>by
  have:=or8 c d;simp only[binOp,Op.intBits,ne_eq,not_true,if_false]
  show Result.ok (Value.int .u8 _) w=_
  rw[←this];rfl
end
structure Src (P:Program) (t2:TypeId) (sz m:Nat) (x:Value) (news:List Value) (w:World):Prop where
 has:P.underlying t2=some .string∨∃e',P.underlying t2=some (.slice e')
 len:(Builtin.lenOf x).run P w=.ok m w
 cells:∀d,(Builtin.firstCells sz m x).run P {w with drawn:=d}=.ok news.toArray {w with drawn:=d}
 size:news.length=m*sz
 one:∀u∈news,u.oneCell'=true
section
variable{P:Program}{w:World}{t t2 e b:Nat}{i:TypeInfo}{z x:Value}{m:Nat}{news:List Value}{ty:TypeId}
theorem aR4(ht:P.underlying t=some (.slice e))(hi:P.info? e=some i){n cap:Nat}{cells:List Value}{fz:Nat×Nat}(hb:w.heap[b]?=some (aZ cells e fz))(h:Src P t2 i.size m x news w)
  (hroom:n+m≤cap) (hcap:cap*i.size≤cells.length) (hf:FzOk (cap*i.size) fz):
  ∃w',(Builtin.append_ #[t,t2] ty #[.slice (some ⟨b,0,none⟩) n cap,x]).run P w=.ok (.slice (some ⟨b,0,none⟩) (n+m) cap) w'∧
   w'.heap.size=w.heap.size∧w'.heap[b]?=some (aZ (cells.take (n*i.size)++news++cells.drop (n*i.size+news.length)) e fz)∧(∀z,z≠b→w'.heap[z]?=w.heap[z]?)∧w'={w with heap:=w'.heap}:=by
 have hle:n*i.size+news.length≤cap*i.size:=by rw[h.size,←Nat.add_mul];exact Nat.mul_le_mul_right _ hroom
 obtain⟨w',r1,r2,r3,r4,r5⟩:=t7 (P:=P) (b:=b) news (n*i.size) 0 w cells hb aI (fun j hj=>by have:=hf.at (o:=n*i.size+j) aI;simpa using this) h.one;refine⟨w',?_,r2,by simpa using r3,r4,r5⟩
 have hc:=h.cells w.drawn;have hlen:=h.len;rcases h.has with hd|⟨e',hd⟩ <;> simp[Builtin.append_,run_underlying ht,run_underlying hd,sizeOf,typeInfo,hi,hlen,hroom,hc,kG,r1]
theorem aDG(ht:P.underlying t=some (.slice e))(hi:P.info? e=some i)(hz:i.zero=some z){base:Option Addr}{n cap:Nat}{olds:List Value}(h:Src P t2 i.size m x news w)
  (hold:∀d,(Builtin.firstCells i.size n (.slice base n cap)).run P {w with drawn:=d}=.ok olds.toArray {w with drawn:=d})
  (hg:cap < n+m) (hby:(n+m)*i.bytes≤140737488355328) (h63:n+m≤9223372036854775807):
  ∃cap' d,n+m≤cap'∧(Builtin.append_ #[t,t2] ty #[.slice base n cap,x]).run P w=
   .ok (.slice (some ⟨w.heap.size,0,none⟩) (n+m) cap') {w with drawn:=d,heap:=w.heap.push (.cells (olds.toArray++(news.toArray++Builtin.zeroCells z.cells (cap' - (n+m)))) e)}:=by
 have hfit:=growslice_fits hg hby;have hti:∀w,(typeInfo e).run P w=.ok i w:=fun w=>by simp only[typeInfo,program,bind,Sem.bind,pure,Sem.run,hi]
 have hzv:∀w,(zeroValue e).run P w=.ok z w:=fun w=>by simp only[zeroValue,typeInfo,program,bind,Sem.bind,pure,Sem.run,hi,hz]
 refine⟨(Question.appendCap (n+m) cap e).cut (w.tape w.drawn (Question.appendCap (n+m) cap e)),w.drawn+1,by simp[Question.cut],?_⟩
 have hlen:=h.len;have hn:¬(n+m≤cap):=by omega
 have h63':¬(9223372036854775807 < ((n:Int)+(m:Int))):=by omega
 have h48':¬(281474976710656 < Builtin.nextslicecap (n+m) cap*i.bytes):=by omega
 have hc:(Builtin.firstCells i.size m x).run P w.drew=.ok news.toArray w.drew:=h.cells (w.drawn+1);have ho:(Builtin.firstCells i.size n (.slice base n cap)).run P w.drew=.ok olds.toArray w.drew:=hold (w.drawn+1);rcases h.has with hd|⟨e',hd⟩ <;> simp[Builtin.append_,run_underlying ht,run_underlying hd,sizeOf,typeInfo,zeroValue,hi,hz,hlen,hn,h63',h48',Question.forced,hc,ho,newRow] <;> rfl
end
theorem dE{P:Program}{w:World}{α:Type}{k:El α}{t2 e':TypeId}{v:Value}{xs:List α}(ht:P.underlying t2=some (.slice e'))(h:SlAt k w v xs):Src P t2 k.sz xs.length v (k.cs xs) w:=by
 refine⟨.inr ⟨_,ht⟩,?_,?_,k.cs_length xs,k.cs_one xs⟩
 ·rcases h with ⟨a0,c,rfl,rfl⟩|⟨b,off,cap,cells,fz,rfl,⟨u0,h2⟩,h3⟩ <;> rfl
 intro d;rcases h with ⟨a0,c,rfl,rfl⟩|⟨b,off,cap,cells,fz,rfl,⟨u0,h2⟩,h3⟩
 ·cases a0 with
  |none=>rfl
  |some a=>simp[Builtin.firstCells,loadCells,loadCellsFrom,El.cs,pure]
 have:=mW (P:=P) (w:={w with drawn:=d}) (b:=b) (l:=cells) h2 (xs.length*k.sz) (k.cs xs) off 0 [] (by simpa using h3) (k.cs_length xs)
 simpa[Builtin.firstCells,loadCells]using this
def wR(e:TypeId):El UInt8:={e:=e,sz:=1,enc:=fun c=>[.int .u8 c.toNat],len:=fun _=>rfl,one:=fun _ u h=>by simp at h;subst h;rfl}
def bN(e:TypeId):El (List UInt8):={e:=e,sz:=1,enc:=fun s=>[str s],len:=fun _=>rfl,one:=fun _ u h=>by simp at h;subst h;rfl}
theorem aFM(e:TypeId)(l:List UInt8):(wR e).cs l=l.map fun c=>.int .u8 c.toNat:=by
 induction l with
 |nil=>rfl
 |cons c l ih=>simp only[El.cs,List.flatMap_cons,List.map_cons]at*;rw[ih];rfl
theorem aC2{P:Program}{w:World}{e t2:TypeId}{l:List UInt8}(ht:P.underlying t2=some .string):Src P t2 1 l.length (str l) ((wR e).cs l) w:=by
 refine⟨.inl ht,?_,?_,(by rw[El.cs_length];rfl),?_⟩
 ·show Result.ok _ _=_;rw[qK]
 ·intro d
  show Result.ok _ _=_
  rw[aFM,q7];simp
 intro u hu;rw[aFM]at hu;obtain⟨c,_,rfl⟩:=List.mem_map.1 hu
 rfl
def elOk(P:Program)(t e sz bytes:Nat):Bool:=
 match P.underlying t,P.info? e with
 |some (.slice e'),some i=>e'==e&&i.size==sz&&i.bytes==bytes&&(match i.zero with|some z=>z.cells.size==sz|none=>false)
 |_,_=>false
theorem aFU{P:Program}{t e sz bytes:Nat}(h:elOk P t e sz bytes=true):∃i z,P.underlying t=some (.slice e)∧P.info? e=some i∧i.size=sz∧i.bytes=bytes∧i.zero=some z∧z.cells.size=sz:=by
 unfold elOk at h;cases hu:P.underlying t with
 |none=>simp[hu]at h
 |some d=>
  cases hi:P.info? e with
  |none=>cases d <;> simp[hu,hi]at h
  |some i=>
   cases d <;> simp[hu,hi]at h
   obtain⟨⟨⟨rfl,h2⟩,h3⟩,h4⟩:=h;cases hz:i.zero with
   |none=>simp[hz]at h4
   |some z=>simp[hz]at h4;exact⟨i,z,rfl,rfl,h2,h3,hz,h4⟩
section
variable{E:Env}{fr:Fr}{K:Hl}{L L':List Asn}{Q:Post}{dst:Option Tmp}{ty:TypeId}{pos:String}{aft:Array Edge}{g:Option (Nat×Bool)}{x y:Operand}{t t2 t' s e sz bytes i off b:Nat}{α:Type}{k:El α}{v u:Value}{xs ys:List α}
theorem In.slCases{w0 w:World}{F:Hl}{M:List Asn}{zf:Bool}(j:In w0 F K (sl zf k v xs::M) w):
  (v=.slice none 0 0∧xs=[]∧In w0 F K M w)∨
  (∃b cap junk fz,v=.slice (some ⟨b,0,none⟩) xs.length cap∧(zf=true→xs≠[])∧xs.length≤cap∧junk.length=(cap - xs.length)*k.sz∧FzOk (cap*k.sz) fz∧In w0 F K (pt b (aZ (k.cs xs++junk) k.e fz)::M) w):=by
 obtain⟨h,⟨a,l,ha,hl,hal,rfl⟩,d1,d2,d3,l1,l2,l3⟩:=j.rep;rcases ha with ⟨rfl,rfl,rfl⟩|⟨b,cap,junk,fz,rfl,hz,hc,hj,hf,rfl⟩
 ·exact .inl ⟨rfl,rfl,j.drop⟩
 exact .inr ⟨b,cap,junk,fz,rfl,hz,hc,hj,hf,j.os,j.tape,j.output,j.size,_,⟨_,l,rfl,hl,hal,rfl⟩,d1,d2,d3,l1,l2,l3⟩
theorem aE0{zf:Bool}{cap:Nat}{cells:List Value}{fz:Nat×Nat}(hc:xs.length≤cap)(hcs:cells.take (xs.length*k.sz)=k.cs xs)(hl:cells.length=cap*k.sz)(hf:FzOk (cap*k.sz) fz)(hz:zf=true→xs≠[]):
  ∀h,pt b (aZ cells k.e fz) h→sl zf k (.slice (some ⟨b,0,none⟩) xs.length cap) xs h:=by
 rintro h rfl;refine .inr ⟨b,cap,cells.drop (xs.length*k.sz),fz,rfl,hz,hc,?_,hf,?_⟩
 ·rw[List.length_drop,hl,Nat.sub_mul]
 rw[←hcs,List.take_append_drop]
theorem dN{zf:Bool}{M:List Asn}(hok:elOk E.P t k.e k.sz bytes=true)(hx:fr.ev x=some v)(hy:fr.ev y=some u)
  (hT:Tk (sl zf k v xs) L M)
  (hsrc:∀w,In E.w0 E.F K L w→Src E.P t2 k.sz ys.length u (k.cs ys) w)
  (hb:(xs.length+ys.length)*bytes≤140737488355328) (h63:xs.length+ys.length≤9223372036854775807):
  EfS E fr K L ⟨dst,.call ⟨.builtin .append,#[x,y],#[t,t2]⟩,ty,pos,aft,g⟩ (fun v' K' L'=>K'=K∧L'=sl zf k v' (xs++ys)::M∧v'.oneCell'=true):=by
 intro a w f j;obtain⟨i,z,h1,h2,h3,h4,h5,h6⟩:=aFU hok;have hS:=hsrc w j;have jM:=j.imp hT.sat;have e:Array.map a.eval #[x,y]= #[v,u]:=by simp[f.ev hx,f.ev hy]
 have run:∀ {v':Value} {w':World},(Builtin.append_ #[t,t2] ty #[v,u]).run E.P w=.ok v' w'→(execOp a.eval ⟨dst,.call ⟨.builtin .append,#[x,y],#[t,t2]⟩,ty,pos,aft,g⟩).run E.P w=.ok (.value v') w':=by
  intro v' w' h;simp only[execOp,resolve,e,bind,pure,Sem.bind,invoke,builtin];exact eR h
 rw[←h3]at hS;have hlen:(k.cs (xs++ys)).length=(xs.length+ys.length)*i.size:=by rw[k.cs_length,h3,List.length_append]
 have zcl:∀n,(Builtin.zeroCells z.cells n).toList.length=n*i.size:=fun n=>by simp[Builtin.zeroCells,h6,h3]
 have isl:∀(c b':Nat) {w1:World} {cells:List Value} {fz:Nat×Nat},xs.length+ys.length≤c→cells.take ((xs.length+ys.length)*i.size)=k.cs (xs++ys)→cells.length=c*i.size→FzOk (c*i.size) fz→(zf=true→xs++ys≠[])→
   In E.w0 E.F K (pt b' (aZ cells k.e fz)::M) w1→In E.w0 E.F K (sl zf k (.slice (some ⟨b',0,none⟩) (xs.length+ys.length) c) (xs++ys)::M) w1:=by
  intro c b' w1 cells fz g1 g2 g3 g4 g5 jj;refine jj.imp (M:=sl zf k (.slice (some ⟨b',0,none⟩) (xs.length+ys.length) c) (xs++ys)::M) fun h hh=>?_;obtain⟨a,l,ha,hl,hd,he⟩:=hh;refine⟨a,l,?_,hl,hd,he⟩
  have:=aE0 (k:=k) (xs:=xs++ys) (zf:=zf) (cap:=c) (cells:=cells) (fz:=fz) (by simpa using g1) (by rw[List.length_append,←h3];exact g2) (by rw[←h3];exact g3) (by rw[←h3];exact g4) g5 a ha
  simpa using this
 rcases jM.slCases with ⟨rfl,rfl,j0⟩|⟨b,cap,junk,fz,rfl,hzf,hc,hj,hfz,j0⟩
 ·by_cases hy0:ys.length=0
  ·have hys:ys=[]:=List.length_eq_zero_iff.1 hy0;subst hys;refine⟨.slice none 0 0,w,K,_,.inl (run ?_),⟨rfl,rfl,rfl⟩,Hl.le_refl _,jM⟩
   have hlen':=hS.len;have hcs:=hS.cells w.drawn;rcases hS.has with hd|⟨e',hd⟩ <;> simp[Builtin.append_,run_underlying h1,run_underlying hd,sizeOf,typeInfo,h2,hlen',El.cs]at hcs ⊢ <;> simp[hcs]
  obtain⟨cap',d,hcap,hr⟩:=aDG (ty:=ty) h1 h2 h5 (base:=none) (n:=0) (cap:=0) (olds:=[]) hS (fun d=>rfl) aI (by rw[h4];simpa using hb) (by simpa using h63);simp only[Nat.zero_add]at hr hcap;have e2:(Obj.cells ((#[]:Array Value)++((k.cs ys).toArray++Builtin.zeroCells z.cells (cap' - ys.length))) k.e)=aZ (k.cs ([]++ys)++(Builtin.zeroCells z.cells (cap' - ys.length)).toList) k.e:=by
   unfold aZ;congr 1;apply Array.ext';simp
  rw[e2]at hr;have jj:=(j0.drew d).alloc (aZ (k.cs ([]++ys)++(Builtin.zeroCells z.cells (cap' - ys.length)).toList) k.e);have:=isl cap' w.heap.size (by simpa using hcap) (by rw[←hlen,List.take_left])
   (by rw[List.length_append,k.cs_length,zcl,h3,List.nil_append,←Nat.add_mul];congr 1;omega) (.inl (Nat.le_refl _)) (fun _=>by intro e;simp at e;exact hy0 (by simp[e])) jj
  simp only[List.length_nil,Nat.zero_add]at this;exact⟨_,_,K,_,.inl (run hr),⟨rfl,rfl,rfl⟩,Hl.le_refl _,this⟩
 have hcells:(k.cs xs++junk).length=cap*i.size:=by rw[List.length_append,k.cs_length,hj,h3,←Nat.add_mul];congr 1;omega
 by_cases hroom:xs.length+ys.length≤cap
 ·obtain⟨w',r1,r2,r3,r4,r5⟩:=aR4 (ty:=ty) h1 h2 (n:=xs.length) j0.piece hS hroom aI (by rw[h3];exact hfz);refine⟨_,_,K,_,.inl (run r1),⟨rfl,rfl,rfl⟩,Hl.le_refl _,?_⟩
  have jj:=j0.write r2 r3 r4;rw[←r5]at jj;refine isl cap b hroom ?_ ?_ (by rw[h3];exact hfz) (fun hz1=>?_) jj
  ·have e1:(k.cs xs++junk).take (xs.length*i.size)=k.cs xs:=by rw[h3,←k.cs_length,List.take_left]
   rw[e1,←hlen,k.cs_append,List.take_left]
  ·have hys:(k.cs ys).length=ys.length*i.size:=by rw[k.cs_length,h3]
   have hle:(xs.length+ys.length)*i.size≤cap*i.size:=Nat.mul_le_mul_right _ hroom;rw[Nat.add_mul]at hle;simp only[List.length_append,List.length_take,List.length_drop]at hcells ⊢;omega
  intro e;have:=hzf hz1;simp at e;exact this e.1
 obtain⟨cap',d,hcap,hr⟩:=aDG (ty:=ty) h1 h2 h5 (base:=some ⟨b,0,none⟩) (n:=xs.length) (cap:=cap) (olds:=k.cs xs) hS
  (fun d => by
   have:=mW (P:=E.P) (w:={w with drawn:=d}) (b:=b) (l:=k.cs xs++junk) (u:=k.e) (fz:=fz) j0.piece (xs.length*i.size) (k.cs xs) 0 0 [] (by simp only[Nat.add_zero,List.drop_zero];rw[h3,←k.cs_length,List.take_left]) (by rw[k.cs_length,h3])
   simpa[Builtin.firstCells,loadCells]using this) aI (by rw[h4];exact hb) h63
 have e2:(Obj.cells ((k.cs xs).toArray++((k.cs ys).toArray++Builtin.zeroCells z.cells (cap' - (xs.length+ys.length)))) k.e)=aZ (k.cs (xs++ys)++(Builtin.zeroCells z.cells (cap' - (xs.length+ys.length))).toList) k.e:=by
  unfold aZ;congr 1;apply Array.ext';simp[k.cs_append]
 rw[e2]at hr;have jj:=((j0.drop).drew d).alloc (aZ (k.cs (xs++ys)++(Builtin.zeroCells z.cells (cap' - (xs.length+ys.length))).toList) k.e);have:=isl cap' w.heap.size hcap (by rw[←hlen,List.take_left])
  (by rw[List.length_append,k.cs_length,zcl,h3,List.length_append,←Nat.add_mul];congr 1;omega) (.inl (Nat.le_refl _)) (fun hz1=>by intro e;have:=hzf hz1;simp at e;exact this e.1) jj
 exact⟨_,_,K,_,.inl (run hr),⟨rfl,rfl,rfl⟩,Hl.le_refl _,this⟩
end
section
variable{E:Env}{fr:Fr}{K:Hl}{L L':List Asn}{Q:Post}{dst:Option Tmp}{ty:TypeId}{pos:String}{aft:Array Edge}{g:Option (Nat×Bool)}{x y:Operand}{t t2 t' s e sz bytes i off b:Nat}{α:Type}{k:El α}{v u:Value}{xs ys:List α}
theorem El.cs_set(hsz:k.sz=1){j:Nat}{y0:α}{c:Value}(hc:k.enc y0=[c])(hj:j < xs.length):k.cs (xs.set j y0)=(k.cs xs).set j c:=by
 have enc1:∀(z:α),∃d,k.enc z=[d]:=fun z=>by
  have:=k.len z;rw[hsz]at this
  match h:k.enc z,this with
  | [d],_=>exact⟨d,rfl⟩
 induction xs generalizing j with
 |nil=>simp at hj
 |cons z zs ih=>
  obtain⟨d,hd⟩:=enc1 z;cases j with
  |zero=>simp[El.cs,List.flatMap_cons,hd,hc]
  |succ j=>
   have:=ih (j:=j) (by simpa using hj);simp only[El.cs,List.set_cons_succ,List.flatMap_cons,hd,List.cons_append,List.nil_append]at this ⊢;rw[this]
theorem dQ{j:Nat}(ht:cT E.P s i off=true)(hx:fr.ev x=some (nP v (j*k.sz)))(hs:SeesSl k K L v xs)(hj:j < xs.length):Ev E fr K L ⟨dst,.fieldAddr s x i,ty,pos,aft,g⟩ (nP v (j*k.sz+off)):=fun a w f q=>by
 rcases hs.at q with ⟨a0,c,rfl,rfl⟩|⟨b,o,cap,cells,fz,rfl,⟨u0,h4⟩,h5⟩
 ·simp at hj
 have hx':fr.ev x=some (ptr b (o+j*k.sz)):=by rw[hx];simp[nP,kG]
 have:=aF (E:=E) (K:=K) (L:=L) (dst:=dst) (ty:=ty) (pos:=pos) (aft:=aft) (g:=g) ht hx' rfl a w f q;rw[this];simp[nP,kG,Nat.add_assoc]
theorem vU{zf:Bool}{j:Nat}{y0:α}{c:Value}(ht:eZ E.P t=true)(hx:fr.ev x=some (nP v (j*k.sz)))(hy:fr.ev y=some c)(hc:k.enc y0=[c])(h1:c.oneCell'=true)(hj:j < xs.length)
  (hF:Fnd (sl zf k v xs) (sl zf k v (xs.set j y0)) L L'):
  EfS E fr K L ⟨dst,.store t x y,ty,pos,aft,g⟩ (fun _ K' L''=>K'=K∧L''=L'):=by
 intro a w f q;obtain⟨M,m1,m2⟩:=hF.split;have hsz:k.sz=1:=by have:=k.len y0;simpa[hc]using this.symm
 rcases(q.imp m1).slCases with ⟨rfl,rfl,_⟩|⟨b,cap,junk,fz,rfl,hz,hcap,hjk,hf,q0⟩
 ·simp at hj
 have hx':fr.ev x=some (ptr b j):=by rw[hx];simp[nP,kG,hsz]
 have hb:=q0.piece;have hcl:(k.cs xs).length=xs.length:=by rw[k.cs_length,hsz];omega
 have hset:(k.cs xs++junk).set j c=k.cs (xs.set j y0)++junk:=by
  have e0:k.cs (xs.set j y0)=(k.cs xs).set j c:=k.cs_set hsz hc hj;rw[e0,List.set_append_left _ _ (by rw[hcl];exact hj)]
 have hst:=aGN (P:=E.P) (o:=j) (v:=c) hb (by rw[List.length_append,hcl];omega) (hf.at (by rw[hsz];omega)) h1;obtain⟨s1,s2,s3⟩:=sG (o:=j) c hb;have hr:(execOp a.eval ⟨dst,.store t x y,ty,pos,aft,g⟩).run E.P w=.ok .skip (w.setCell ⟨b,j,none⟩ c):=by
  simp only[execOp,f.ev hx',f.ev hy];have hcells:c.cells= #[c]:=by cases c <;> simp[Value.oneCell']at h1 <;> rfl
  have:(Instr.storeAt t (ptr b j) c).run E.P w=.ok () (w.setCell ⟨b,j,none⟩ c):=by
   show (storeVar t _ c).run E.P w=_
   unfold storeVar;rw[aV (rM ht w).2];simp only[hcells];rw[if_neg (by simp)];simp only[storeCells,kG,Nat.add_zero]
   show (store _ _>>=fun _=>pure ()).run E.P w=_
   rw[aV hst];rfl
  rw[aV this];rfl
 refine⟨_,_,_,_,.inr ⟨hr,rfl⟩,⟨rfl,rfl⟩,Hl.le_refl _,?_⟩
 have q1:=q0.write s1 s2 s3;rw[hset]at q1;refine q1.imp fun h hh=>m2 h ?_
 obtain⟨aa,l,ha,hl,hd,he⟩:=hh;refine⟨aa,l,?_,hl,hd,he⟩
 refine .inr ⟨b,cap,junk,fz,by rw[List.length_set],?_,by rw[List.length_set];exact hcap,by rw[List.length_set];exact hjk,hf,ha⟩
 intro h1 h2;exact hz h1 gA0
theorem bH{len:Nat}{zc z0 out:List Value}{parts:List (Nat×Operand)}(ht:jS E.P t e sz=true)(hz:cU E.P e=some zc)(hzl:zc.length=sz)(hlim:Nat.ble (len*sz) 16777216=true)(hpos:Nat.blt 0 (len*sz)=true)
  (hz0:(List.range (len*sz)).map (fun i=>zc.toArray[i % sz]!)=z0) (h:Fill fr (fun i=>some (i*sz,sz)) z0 parts out):
  EfS E fr K L ⟨dst,.buildSlice t len parts.toArray,ty,pos,aft,g⟩ (fun v K' L'=>∃b,v=.slice (some ⟨b,0,none⟩) len len∧K'=K∧L'=pt b (aZ out e)::L):=by
 intro a w f j;obtain⟨inf,h1,h2,h3⟩:=pC ht;have e1:Array.map (fun(p:Nat×Operand)=>(p.1,a.eval p.2)) parts.toArray=(parts.map fun p=>(p.1,a.eval p.2)).toArray:=by simp
 have hu:(underlying t).run E.P w=.ok (.slice e) w:=by simp only[underlying,program,bind,Sem.bind,pure,Sem.run,h1]
 have hsz:(sizeOf e).run E.P w=.ok sz w:=by simp only[sizeOf,typeInfo,program,bind,Sem.bind,pure,Sem.run,h2,h3]
 have hlim':len*sz≤16777216:=Nat.le_of_ble_eq_true hlim;have hpos':0 < len*sz:=by simp[Nat.blt]at hpos;omega
 unfold cU at hz;simp only[h2,Option.bind_some]at hz;cases hzv:inf.zero with
 |none=>simp[hzv]at hz
 |some z=>
  simp[hzv]at hz;have hzr:(zeroValue e).run E.P w=.ok z w:=by simp only[zeroValue,typeInfo,program,bind,Sem.bind,pure,Sem.run,h2,hzv]
  have hfill:=aZU h f;have hzz:zc.toArray=z.cells:=by rw[←hz]
  have hr:(Instr.buildSlice t len (parts.map fun p=>(p.1,a.eval p.2)).toArray).run E.P w=.ok (.slice (some ⟨w.heap.size,0,none⟩) len len) {w with heap:=w.heap.push (aZ out e)}:=by
   unfold Instr.buildSlice;rw[aV hu];simp only[];rw[aV hsz];rw[if_neg aI];have hne:¬len*sz=0:=by omega
   have hmap:((Array.range (len*sz)).map fun i=>z.cells[i % z.cells.size]!)=z0.toArray:=by
    have hs:z.cells.size=sz:=by rw[←hzl,←hz];simp
    rw[←hz0,hzz,hs]
    apply Array.ext';simp
   rw[if_neg hne,aV hzr,aV (vS _ _)];simp only[hmap];rw[hfill]
   rfl
  refine⟨_,_,K,_,.inl ?_,⟨_,rfl,rfl,rfl⟩,Hl.le_refl _,j.alloc _⟩
  simp only[execOp];have:=eR hr;rw[←e1]at this;exact this
end
abbrev elB(e:TypeId):El UInt8:=wR e
theorem aFT(e:TypeId)(s:List UInt8):(elB e).cs s=s.map fun c=>.int .u8 c.toNat:=aFM e s
theorem aMF(w:World)(e:TypeId)(s:ByteArray):
  Lib.bytesWorld w e s={w with drawn:=w.drawn+1,heap:=w.heap.push (.cells (Lib.bytesCells w e s) e ((Lib.bytesCells w e s).size,(Lib.bytesCells w e s).size+1))}:=by
 have hh:(Lib.bytesWorld w e s).heap=w.heap.push (.cells (Lib.bytesCells w e s) e ((Lib.bytesCells w e s).size,(Lib.bytesCells w e s).size+1)):=by
  apply Array.ext_getElem?
  intro i;rcases Nat.lt_trichotomy i w.heap.size with h|h|h
  ·rw[Lib.bytesWorld_at_old w e s i h,Array.getElem?_push,if_neg aI]
  ·subst h;rw[Lib.bytesWorld_at_new,Array.getElem?_push,if_pos rfl]
  rw[Array.getElem?_eq_none (by rw[Lib.bytesWorld_size];omega),Array.getElem?_eq_none gAI]
 have h2:Lib.bytesWorld w e s={w with drawn:=w.drawn+1,heap:=(Lib.bytesWorld w e s).heap}:=rfl;rw[h2,hh]
section
variable{E:Env}{fr:Fr}{K:Hl}{L L':List Asn}{Q:Post}{dst:Option Tmp}{ty:TypeId}{pos:String}{aft:Array Edge}{g:Option (Nat×Bool)}{x y:Operand}{t t2 t' s e:Nat}{v:Value}{xs ys:List UInt8}
theorem pM{src:TypeId}{u:TypeDesc}(hs:E.P.underlying src=some u)(hd:E.P.underlying t=some (.slice e))(he:E.P.underlying e=some (.int .u8))(hx:fr.ev x=some (str xs)):
  EfS E fr K L ⟨dst,.convert src t x,ty,pos,aft,g⟩ (fun v K' L'=>K'=K∧L'=sl false (elB e) v xs::L):=by
 intro a w f j;have e1:(⟨xs.toArray⟩:ByteArray).size=xs.length:=by simp[ByteArray.size]
 have hr:(execOp a.eval ⟨dst,.convert src t x,ty,pos,aft,g⟩).run E.P w=.ok (.value (.slice (some ⟨w.heap.size,0,none⟩) xs.length (grownCap w xs.length 0 e))) (Lib.bytesWorld w e ⟨xs.toArray⟩):=by
  simp only[execOp,f.ev hx];have:=Lib.run_convert_string_bytes (P:=E.P) w src t e ⟨xs.toArray⟩ hs hd he;rw[e1]at this;exact eR this
 have hcap:xs.length≤grownCap w xs.length 0 e:=by simp[grownCap,Question.cut]
 have hc:Lib.bytesCells w e ⟨xs.toArray⟩=((elB e).cs xs++List.replicate (grownCap w xs.length 0 e - xs.length) (Value.int .u8 0)).toArray:=by
  apply Array.ext'
  simp[Lib.bytesCells,aFT,e1]
 refine⟨_,_,K,_,.inl hr,⟨rfl,rfl⟩,Hl.le_refl _,?_⟩
 rw[aMF];have jj:=(j.drew (w.drawn+1)).alloc (.cells (Lib.bytesCells w e ⟨xs.toArray⟩) e ((Lib.bytesCells w e ⟨xs.toArray⟩).size,(Lib.bytesCells w e ⟨xs.toArray⟩).size+1));refine jj.imp fun h hh=>?_;obtain⟨aa,l,ha,hl,hd,he⟩:=hh;have hsz:(Lib.bytesCells w e ⟨xs.toArray⟩).size=grownCap w xs.length 0 e:=by rw[hc];simp[aFT];omega
 refine⟨aa,l,.inr ⟨w.heap.size,grownCap w xs.length 0 e,List.replicate (grownCap w xs.length 0 e - xs.length) (.int .u8 0),(grownCap w xs.length 0 e,grownCap w xs.length 0 e+1),rfl,by simp,hcap,by simp[wR],.inr (by simp[wR]),?_⟩,hl,hd,he⟩
 simp only[pt]at ha;rw[ha,hsz,hc];rfl
theorem aXC(xs:List UInt8):∀acc:ByteArray,(xs.map fun c:UInt8=>(c.toNat:Int)).foldl (fun r n=>r.push (UInt8.ofNat n.toNat)) acc=⟨acc.data++xs.toArray⟩:=by
 induction xs with
 |nil=>intro acc;simp
 |cons c xs ih=>
  intro acc;simp only[List.map_cons,List.foldl_cons];rw[ih];have:UInt8.ofNat ((c.toNat:Int)).toNat=c:=by simp
  rw[this];cases acc
  simp[ByteArray.push]
theorem lD(hs:E.P.underlying t=some (.slice e))(he:E.P.underlying e=some (.int .u8))(hd:E.P.underlying t2=some .string)(hx:fr.ev x=some v)(h:SeesSl (elB e) K L v xs):
  Ev E fr K L ⟨dst,.convert t t2 x,ty,pos,aft,g⟩ (str xs):=fun a w f j=>by
 simp only[execOp,f.ev hx];refine eR ?_;rcases h.at j with ⟨a0,c,rfl,rfl⟩|⟨b,off,cap,cells,fz,rfl,⟨u0,h2⟩,h3⟩
 ·rw[run_convert_bytes_string w t t2 e a0 0 c hs he hd];cases a0 <;> rfl
 rw[run_convert_bytes_string w t t2 e (some ⟨b,off,none⟩) xs.length cap hs he hd];have hl:(loadCells ⟨b,off,none⟩ xs.length).run E.P w=.ok ((xs.map fun c:UInt8=>(c.toNat:Int)).map (Value.int .u8)).toArray w:=by
  have h3':(cells.drop (off+0)).take xs.length=xs.map fun c=>.int .u8 c.toNat:=by
   rw[Nat.add_zero,←aFT e,←h3];simp[wR]
  have:=mW (P:=E.P) h2 xs.length _ off 0 [] h3' (by simp);unfold loadCells
  simpa[Function.comp_def]using this
 rw[run_bytesToString w ⟨b,off,none⟩ xs.length cap _ hl,aXC]
 show Result.ok (Value.string ⟨ByteArray.empty.data++xs.toArray⟩) w=_
 have e0:ByteArray.empty.data= #[]:=rfl;rw[e0,Array.empty_append]
end
def unsB(P:Program)(T n:Nat):Bool:=
 match P.info? T with
 |some j=>j.size==n&&n !=0&&liesAt P P.depth T (n / P.cellsOf T) 0 T 1
 |none=>false
section
variable{E:Env}{fr:Fr}{K:Hl}{L L':List Asn}{Q:Post}{dst:Option Tmp}{ty:TypeId}{pos:String}{aft:Array Edge}{g:Option (Nat×Bool)}{x y:Operand}{t t2 t' s e b n:Nat}{T:TypeId}{v:Value}{xs ys:List UInt8}
theorem zT{w:World}{l:List Value}{fz:Nat×Nat}(h:w.heap[b]?=some (aZ l T fz)):w.shape? b=some (T,l.length):=by
 simp[World.shape?,h]
theorem aSU{l:List Value}{fz:Nat×Nat}(hs:E.P.underlying t=some (.pointer T))(hd:E.P.underlying t2=some .unsafePointer)(hx:fr.ev x=some (ptr b))(hS:Sees K L b (aZ l T fz))(hT:unsB E.P T l.length=true):
  Ev E fr K L ⟨dst,.convert t t2 x,ty,pos,aft,g⟩ (ptr b):=fun a w f j=>by
 simp only[execOp,f.ev hx];refine eR ?_;unfold unsB at hT;cases hi:E.P.info? T with
 |none=>simp[hi]at hT
 |some inf=>
  simp[hi]at hT;have hp:0 < l.length:=by
   rcases Nat.eq_zero_or_pos l.length with h|h
   ·exact absurd (List.length_eq_zero_iff.1 h) hT.1.2
   exact h
  exact Lib.run_to_unsafe w ⟨b,0,none⟩ hs hd hi (by rw[hT.1.1];omega) (zT (hS.at j)) hp
theorem aMI{l:List Value}{fz:Nat×Nat}(hs:E.P.underlying t=some .unsafePointer)(hd:E.P.underlying t2=some (.pointer T))(hx:fr.ev x=some (ptr b))(hS:Sees K L b (aZ l T fz))(hT:unsB E.P T l.length=true):
  Ev E fr K L ⟨dst,.convert t t2 x,ty,pos,aft,g⟩ (ptr b):=fun a w f j=>by
 simp only[execOp,f.ev hx];refine eR ?_;unfold unsB at hT;cases hi:E.P.info? T with
 |none=>simp[hi]at hT
 |some inf=>
  simp[hi]at hT;exact Lib.run_from_unsafe w ⟨b,0,none⟩ hs hd hi (zT (hS.at j)) hT.2
theorem oK{fv:Operand}{os:List Operand}{vs:List Value}{ats:Array TypeId}{f:FuncId}{fn:Func}{ex:Array Value→Sem Value}(hf:fr.ev fv=some (.func (.func f) #[] #[]))(hos:fr.evs os=some vs)
  (h1:E.P.funcs[f]?=some fn) (h2:(fn.name== "runtime.NumGoroutine")=false) (h3:fn.body.isNone=true) (h4:Extern.findNext fn=none) (h5:Extern.find fn=some ex) (hr:∀w,In E.w0 E.F K L w→(ex vs.toArray).run E.P w=.ok v w):
  Ev E fr K L ⟨dst,.call ⟨.value fv,os.toArray,ats⟩,ty,pos,aft,g⟩ v:=fun a w fo j=>by
 have e1:Array.map a.eval os.toArray=vs.toArray:=by simp[fo.evs hos]
 simp only[execOp,resolve,e1,fo.ev hf,Deferred.ofValue,bind,pure,Sem.bind,invoke,List.append_toArray];simp only[List.nil_append,List.append_nil];rw[run_callFunc_extern h1 h2 h3 h4 h5,hr w j]
 rfl
theorem aHF{el:TypeId}(hu:E.P.underlying t=some (.pointer el))(hT:unsB E.P el n=true)(hx:fr.ev x=some (ptr b))(hy:fr.ev y=some (ptr b)):Ev E fr K L ⟨dst,.binOp .neq t x y t',ty,pos,aft,g⟩ (.bool false):=
 gT hx hy (fun w=>rfl) fun w=>by
  unfold unsB at hT;cases hi:E.P.info? el with
  |none=>simp[hi]at hT
  |some inf=>exact Lib.run_neq_ptr_same w ⟨b,0,none⟩ hu hi
def bAK:Value→Value
 | .slice a _ _=>.pointer a
 |v=>v
theorem aD3{ats:Array TypeId}(hx:fr.ev x=some v)(h:Hs (sl true (elB e) v xs) L):
  Ev E fr K L ⟨dst,.call ⟨.builtin .unsafeSliceData,#[x],ats⟩,ty,pos,aft,g⟩ (bAK v):=fun a w f j=>by
 have e1:Array.map a.eval #[x]= #[v]:=by simp[f.ev hx]
 simp only[execOp,resolve,e1,bind,pure,Sem.bind,invoke,builtin];obtain⟨M,m1⟩:=h.split;rcases(j.imp m1).slCases with ⟨rfl,rfl,_⟩|⟨b,cap,junk,fz,rfl,hz,hc,_⟩
 ·rfl
 have h0:xs≠[]:=hz rfl;have hl:0 < xs.length:=List.length_pos_iff.2 h0;have hc0:¬cap=0:=by omega
 show (do pure (Next.value (←Builtin.unsafeSliceData_ ats ty #[.slice (some ⟨b,0,none⟩) xs.length cap])):Sem Next).run E.P w=_
 rw[aV (Lib.run_unsafeSliceData_row _ _ _ _ _ _ hc0)];rfl
theorem zS{ats:Array TypeId}{M:List Asn}{pt it:TypeId}(ha:ats= #[pt,it])(hp:E.P.underlying pt=some (.pointer e))(hc:E.P.cellsOf e=1)(h63:xs.length≤9223372036854775807)
  (hx:fr.ev x=some (bAK v)) (hy:fr.ev y=some (i64 xs.length)) (hT:Tk (sl true (elB e) v xs) L M):
  EfS E fr K L ⟨dst,.call ⟨.builtin .unsafeString,#[x,y],ats⟩,ty,pos,aft,g⟩ (fun u K' L'=>u=str xs∧K'=K∧L'=M):=by
 intro a w f j;subst ha;have e1:Array.map a.eval #[x,y]= #[bAK v,i64 xs.length]:=by simp[f.ev hx,f.ev hy]
 rcases(j.imp hT.sat).slCases with ⟨rfl,rfl,j0⟩|⟨b,cap,junk,fz,rfl,hz,hcp,hjk,hfz,j0⟩
 ·refine⟨str [],w,K,M,.inl ?_,⟨rfl,rfl,rfl⟩,Hl.le_refl _,j0⟩
  simp only[execOp,resolve,e1,bind,pure,Sem.bind,invoke,builtin]
  rfl
 have h0 : xs ≠ [] := hz rfl;have hb := j0.piece;have hrun := Lib.run_unsafeString_row (P := E.P) (w := w) pt it ty e hp hc b ((elB e).cs xs ++ junk).length (zT hb) xs h0 (by rw [List.length_append, aFT, List.length_map]; omega) h63 (fun i c hi => by
  rw[kG];refine mI hb ?_;rw[aFT,List.getElem?_append_left (by simp;exact(List.getElem?_eq_some_iff.1 hi).1)];simp[hi])
 refine⟨str xs,w.freeze ⟨b,0,none⟩ xs.length,K,M,.inl ?_,⟨rfl,rfl,rfl⟩,Hl.le_refl _,?_⟩
 ·simp only[execOp,resolve,e1,bind,pure,Sem.bind,invoke,builtin,bAK]
  show (do pure (Next.value (←Builtin.unsafeString_ #[pt,it] ty #[.pointer (some ⟨b,0,none⟩),i64 xs.length])):Sem Next).run E.P w=_
  rw[aV hrun];rfl
 have hl:¬xs.length=0:=by simpa using h0
 have e2:w.freeze ⟨b,0,none⟩ xs.length={w with heap:=(w.freeze ⟨b,0,none⟩ xs.length).heap}:=by unfold World.freeze;rw[if_neg hl]
 rw[e2];have hb':∃o',(w.freeze ⟨b,0,none⟩ xs.length).heap[b]?=some o':=by
  unfold World.freeze;rw[if_neg hl]
  exact⟨_,by rw[Array.getElem?_modify,if_pos rfl,hb];rfl⟩
 obtain ⟨o', ho'⟩ := hb';exact (j0.write (H := (w.freeze ⟨b, 0, none⟩ xs.length).heap) (by unfold World.freeze; rw [if_neg hl]; simp) ho' (fun z hz => by
  unfold World.freeze;rw[if_neg hl]
  rw[Array.getElem?_modify,if_neg (fun e=>hz e.symm)])).drop
end
theorem fK{E:Env}{x:Exit}{fr:Fr}{K:Hl}{L L':List Asn}{Q:Post}(k:∀h,Sat L h→Sat L' h)(h:D E x fr K L' Q):D E x fr K L Q:=fun a w f i=>h a w f (i.imp k)
section
variable{E:Env}{c x y:Code}{fr:Fr}{K:Hl}{L:List Asn}{Q:Post}{α β:Type}
def Rnd2(E:Env)(I:α→β→Prop)(fr':α→β→Fr)(K':α→β→Hl)(L':α→β→List Asn)(μ:α→β→Nat)(m:Nat):Act→World→Prop:=
 fun a w=>∃i j,I i j∧μ i j < m∧FrOk E.n E.ds (fr' i j) a∧In E.w0 E.F (K' i j) (L' i j) w
theorem aBP{n1 n2:Act→World→Prop}(h:∀a w,n1 a w→n2 a w):∀e a w,Exit.then n1 Q e a w→Exit.then n2 Q e a w:=by
 intro e a w q;cases e <;> first|exact q|exact h _ _ q
theorem rC(I:α→β→Prop)(fr':α→β→Fr)(K':α→β→Hl)(L':α→β→List Asn)(μ:α→β→Nat)(i0:α)(j0:β)(h0:I i0 j0)(k:Kp fr (fr' i0 j0))(hK:K' i0 j0=K)(hL:∀h,Sat L h→Sat (L' i0 j0) h)
  (round:∀i j,I i j→T E c (fr' i j) (K' i j) (L' i j) (Exit.then (Rnd2 E I fr' K' L' μ (μ i j)) Q)):T E (.loop c) fr K L Q:=by
 refine eJ (fun p:α×β=>I p.1 p.2) (fun p=>fr' p.1 p.2) (fun p=>K' p.1 p.2) (fun p=>L' p.1 p.2) (fun p=>μ p.1 p.2) (i0,j0) h0 k hK hL ?_;rintro⟨i,j⟩ hI a w f w1;refine Code.wp_mono ?_ (round i j hI a w f w1)
 exact aBP fun a w ⟨i',j',h1,h2,h3,h4⟩=>⟨(i',j'),h1,h2,h3,h4⟩
theorem fR{I:α→β→Prop}{fr':α→β→Fr}{K':α→β→Hl}{L':α→β→List Asn}{μ:α→β→Nat}{m:Nat}(i:α)(j:β)(hj:I i j)(hlt:μ i j < m)(k:Kp fr (fr' i j))(hK:K' i j=K)(hL:∀h,Sat L h→Sat (L' i j) h):
  D E .normal fr K L (Exit.then (Rnd2 E I fr' K' L' μ m) Q):=
 fun a w f q=>⟨i,j,hj,hlt,f.keep k,by rw[hK];exact q.imp hL⟩
def Mid2(E:Env)(I:α→β→Prop)(fr:α→β→Fr)(K:α→β→Hl)(L:α→β→List Asn):Act→World→Prop:=fun a w=>∃i j,I i j∧FrOk E.n E.ds (fr i j) a∧In E.w0 E.F (K i j) (L i j) w
theorem xU(I:α→β→Prop)(fr':α→β→Fr)(K':α→β→Hl)(L':α→β→List Asn)(h1:T E x fr K L (Exit.then (Mid2 E I fr' K' L') Q))(h2:∀i j,I i j→T E y (fr' i j) (K' i j) (L' i j) Q):
  T E (.seq x y) fr K L Q:=by
 intro a w f i;refine wp_seq (Code.wp_mono (fun e a w q=>?_) (h1 a w f i))
 cases e <;> first|exact q|(obtain⟨i,j,hj,fj,ij⟩:=q;exact h2 i j hj _ _ fj ij)
theorem iP{I:α→β→Prop}{fr':α→β→Fr}{K':α→β→Hl}{L':α→β→List Asn}(i:α)(j:β)(hi:I i j)(k:Kp fr (fr' i j))(hK:K' i j=K)(hL:∀h,Sat L h→Sat (L' i j) h):
  D E .normal fr K L (Exit.then (Mid2 E I fr' K' L') Q):=fun a w f q=>⟨i,j,hi,f.keep k,by rw[hK];exact q.imp hL⟩
end
end Go.SL
end
section
namespace Go.SL
open Go.MapKept
abbrev Ent:=List UInt8×Value×Nat
def ent(p:Ent):MapEntry:={key:=str p.1,val:=p.2.1,born:=p.2.2}
abbrev mapO(es:List Ent)(c:Nat):Obj:=.map (es.map ent).toArray c
def nK(k:List UInt8):List Ent→Nat→Option (Nat×Value)
 | [],_=>none
 |e::es,i=>if k=e.1 then some (i,e.2.1)else nK k es (i+1)
def mget(es:List Ent)(k:List UInt8):Option Value:=(es.find? fun e=>decide (k=e.1)).map (·.2.1)
theorem aPB(a b:List UInt8):((⟨a.toArray⟩:ByteArray)==⟨b.toArray⟩)=decide (a=b):=by
 show (a.toArray==b.toArray)=_
 by_cases h:a=b
 ·subst h;simp
 rw[decide_eq_false h,beq_eq_false_iff_ne];intro e;exact h gAK
theorem rJ(k:List UInt8):∀(es:List Ent) (i:Nat),Instr.findNow .string (str k) (es.map ent) i=some (nK k es i):=by
 intro es;induction es with
 |nil=>intro i;rfl
 |cons e es ih=>
  intro i;simp only[List.map_cons,Instr.findNow,ent,Instr.sameNow,nK];rw[aPB]
  by_cases h:k=e.1
  ·simp[h]
  simp only[decide_eq_false h,if_neg h];exact ih _
theorem aA9(k:List UInt8):∀(es:List Ent) (i:Nat),(nK k es i).map (·.2)=mget es k:=by
 intro es;induction es with
 |nil=>intro i;rfl
 |cons e es ih=>
  intro i;unfold nK mget
  by_cases h:k=e.1
  ·simp[h]
  rw[if_neg h,List.find?_cons,decide_eq_false h];exact ih _
section
variable{E:Env}{fr:Fr}{K:Hl}{L L':List Asn}{Q:Post}{dst:Option Tmp}{ty:TypeId}{pos:String}{aft:Array Edge}{g:Option (Nat×Bool)}{x y m:Operand}{t t' kt et b c:Nat}{v z:Value}{k:List UInt8}{es:List Ent}
theorem qT:EfS E fr K L ⟨dst,.makeMap t none,ty,pos,aft,g⟩ (fun u K' L'=>∃b,u=.map (some b)∧K'=K∧L'=pt b (mapO [] 0)::L):=by
 intro a w f j;have:(execOp a.eval ⟨dst,.makeMap t none,ty,pos,aft,g⟩).run E.P w=.ok (.value (.map (some w.heap.size))) {w with heap:=w.heap.push (mapO [] 0)}:=by
  simp only[execOp];refine eR ?_
  rfl
 exact⟨_,_,K,_,.inl this,⟨_,rfl,rfl,rfl⟩,Hl.le_refl _,j.alloc _⟩
theorem wZ(hm:E.P.underlying t=some (.map kt et))(hk:E.P.underlying kt=some .string)(hz:gH E.P et=some z)(hx:fr.ev x=some (.map (some b)))(hy:fr.ev y=some (str k))(hs:Sees K L b (mapO es c)):
  Ev E fr K L ⟨dst,.lookup t x y true,ty,pos,aft,g⟩ (.tuple #[(mget es k).getD z,.bool (mget es k).isSome]):=fun a w f j=>by
 simp only[execOp,f.ev hx,f.ev hy];refine eR ?_;have hb:=hs.at j;have h1:(Instr.checkKey (es.map ent).toArray.isEmpty 10000 kt (str k)).run E.P w=.ok () w:=run_checkKey hk (d:=.string) (k:=str k) trivial _ 9999;have h2:=run_findKey (w:=w) (kt:=kt) hk (rJ k es 0);have h3:(zeroValue et).run E.P w=.ok z w:=by
  unfold gH at hz;cases hi:E.P.info? et with
  |none=>simp[hi]at hz
  |some inf=>simp[hi]at hz;simp only[zeroValue,typeInfo,program,bind,Sem.bind,pure,Sem.run,hi,hz]
 have h4:=aA9 k es 0;unfold Instr.lookup;rw[aV (run_underlying hm w)];simp only[]
 show ((getObj b)>>=fun _=>_).run E.P w=_
 rw[aV (MapKept.run_getObj_map hb)];simp only[];rw[aV (vS _ _),aV h1]
 show ((Instr.findKey kt (str k) (es.map ent))>>=fun _=>_).run E.P w=_
 rw[aV h2,←h4];cases nK k es 0 with
 |some p=>rfl
 |none=>
  show ((zeroValue et)>>=fun _=>_).run E.P w=_
  rw[aV h3];rfl
theorem aXT{k:List UInt8}{es:List Ent}:∀ {i:Nat},nK k es i=none→es.any (fun e=>decide (k=e.1))=false:=by
 induction es with
 |nil=>intro i h;rfl
 |cons e es ih=>
  intro i h;unfold nK at h;split at h
  ·cases h
  rename_i hne;rw[List.any_cons,decide_eq_false hne,Bool.false_or];exact ih h
theorem zR{P:Program}{w:World}(hm:P.underlying t=some (.map kt et))(hk:P.underlying kt=some .string)(hb:w.heap[b]?=some (mapO es c))(hn:es.any (fun e=>decide (k=e.1))=false):
  (Instr.mapUpdate t (.map (some b)) (str k) v).run P w=.ok () {w with heap:=w.heap.setIfInBounds b (mapO (es++[(k,v,c)]) (c+1))}:=by
 have hf:nK k es 0=none:=by
  have:∀(es:List Ent) (i:Nat),es.any (fun e=>decide (k=e.1))=false→nK k es i=none:=by
   intro es;induction es with
   |nil=>intro i h;rfl
   |cons e es ih=>
    intro i h;rw[List.any_cons,Bool.or_eq_false_iff]at h;unfold nK;rw[if_neg (by simpa using h.1)];exact ih _ h.2
  exact this es 0 hn
 have h1:(Instr.checkKey false 10000 kt (str k)).run P w=.ok () w:=run_checkKey hk (d:=.string) (k:=str k) trivial _ 9999;have h2:=run_findKey (w:=w) (kt:=kt) hk (rJ k es 0);unfold Instr.mapUpdate;rw[aV (run_underlying hm w)];simp only[]
 show ((getObj b)>>=fun _=>_).run P w=_
 rw[aV (MapKept.run_getObj_map hb)];simp only[];rw[aV h1]
 show ((Instr.findKey kt (str k) (es.map ent))>>=fun _=>_).run P w=_
 rw[aV h2,hf]
 show (setObj b _).run P w=_
 rw[MapKept.run_setObj_map _ hb];have e1:(es.map ent).toArray.push {key:=str k,val:=v,born:=c}=((es++[(k,v,c)]).map ent).toArray:=by simp[ent]
 rw[e1]
end
section
variable{E:Env}{c x y:Code}{fr:Fr}{K:Hl}{L:List Asn}{Q:Post}{α β γ:Type}
def Rnd3(E:Env)(I:α→β→γ→Prop)(fr':α→β→γ→Fr)(K':α→β→γ→Hl)(L':α→β→γ→List Asn)(μ:α→β→γ→Nat)(m:Nat):Act→World→Prop:=
 fun a w=>∃i j k,I i j k∧μ i j k < m∧FrOk E.n E.ds (fr' i j k) a∧In E.w0 E.F (K' i j k) (L' i j k) w
theorem n7(I:α→β→γ→Prop)(fr':α→β→γ→Fr)(K':α→β→γ→Hl)(L':α→β→γ→List Asn)(μ:α→β→γ→Nat)(i0:α)(j0:β)(k0:γ)(h0:I i0 j0 k0)(k:Kp fr (fr' i0 j0 k0))(hK:K' i0 j0 k0=K)(hL:∀h,Sat L h→Sat (L' i0 j0 k0) h)
  (round:∀i j k,I i j k→T E c (fr' i j k) (K' i j k) (L' i j k) (Exit.then (Rnd3 E I fr' K' L' μ (μ i j k)) Q)):T E (.loop c) fr K L Q:=by
 refine eJ (fun p:α×β×γ=>I p.1 p.2.1 p.2.2) (fun p=>fr' p.1 p.2.1 p.2.2) (fun p=>K' p.1 p.2.1 p.2.2) (fun p=>L' p.1 p.2.1 p.2.2) (fun p=>μ p.1 p.2.1 p.2.2) (i0,j0,k0) h0 k hK hL ?_;rintro⟨i,j,k⟩ hI a w f w1;refine Code.wp_mono ?_ (round i j k hI a w f w1)
 exact aBP fun a w ⟨i',j',k',h1,h2,h3,h4⟩=>⟨(i',j',k'),h1,h2,h3,h4⟩
theorem iU{I:α→β→γ→Prop}{fr':α→β→γ→Fr}{K':α→β→γ→Hl}{L':α→β→γ→List Asn}{μ:α→β→γ→Nat}{m:Nat}(i:α)(j:β)(l:γ)(hj:I i j l)(hlt:μ i j l < m)(k:Kp fr (fr' i j l))(hK:K' i j l=K)(hL:∀h,Sat L h→Sat (L' i j l) h):
  D E .normal fr K L (Exit.then (Rnd3 E I fr' K' L' μ m) Q):=
 fun a w f q=>⟨i,j,l,hj,hlt,f.keep k,by rw[hK];exact q.imp hL⟩
end
theorem In.forget{w0 w:World}{F K K1:Hl}{L:List Asn}(le:K.le K1)(i:In w0 F K1 L w):In w0 F K L w:=by
 obtain⟨h,hs,d1,d2,d3,l1,l2,l3⟩:=i.rep;have dd:∀ {k:Hl},K1.dj k→K.dj k:=by
  intro k d x;rcases d x with e|e
  ·left
   cases hk:K x with
   |none=>rfl
   |some o=>rw[le x o hk]at e;cases e
  exact .inr e
 exact⟨i.os,i.tape,i.output,i.size,h,hs,(dd d1.symm).symm,d2,dd d3,l1,Hl.le_trans le l2,l3⟩
theorem aQ5{P:Program}{f:FuncId}{args:List Value}{K:Hl}{L:List Asn}{R:Ending→List Asn→Prop}(h:Sp P f args K L (fun e _ L'=>R e L')):Sp P f args K L (fun e K' L'=>K'=K∧R e L'):=
 ⟨h.1,fun F w i=>(h.2 F w i).mono fun e w' ⟨K',L',hR,le,j⟩=>⟨K,L',⟨rfl,hR⟩,Hl.le_refl _,j.forget le⟩⟩
theorem kE{E:Env}{x:Exit}{fr:Fr}{K:Hl}{L:List Asn}{Q:Post}{b:Nat}{o:Obj}(h:∀K',K.le K'→K' b=some o→D E x fr K' L Q):D E x fr K (pt b o::L) Q:=fun a w f i=>let ⟨h1,h2,h3⟩:=i.settle;h _ h1 h2 a w f h3
end Go.SL
end
section
namespace Go.SL
theorem In.settleSl{α:Type}{z:Bool}{k:El α}{w0 w:World}{F K:Hl}{v:Value}{xs:List α}{L:List Asn}(i:In w0 F K (sl z k v xs::L) w):
  ∃K',K.le K'∧Ksl k K' v xs∧In w0 F K' L w:=by
 obtain⟨h,⟨a,l,ha,hl,hal,rfl⟩,r⟩:=i.rep;rcases ha with ⟨rfl,rfl,rfl⟩|⟨b,cap,junk,fz,rfl,hz,hc,hj,hf,rfl⟩
 ·refine⟨K,Hl.le_refl _,.inl ⟨none,0,rfl,rfl⟩,⟨i.os,i.tape,i.output,i.size,l,hl,?_⟩⟩
  have e:Hl.join Hl.emp l=l:=by funext x;simp[Hl.join,Hl.emp]
  rw[e]at r;exact r
 have i2:In w0 F K (pt b (aZ (k.cs xs++junk) k.e fz)::L) w:=⟨i.os,i.tape,i.output,i.size,_,⟨_,l,rfl,hl,hal,rfl⟩,r⟩;obtain⟨h1,h2,h3⟩:=i2.settle;refine⟨_,h1,.inr ⟨b,0,cap,k.cs xs++junk,fz,rfl,⟨_,h2⟩,?_⟩,h3⟩
 rw[List.drop_zero,←k.cs_length,List.take_left]
theorem Ksl.one{α:Type}{k:El α}{K:Hl}{v:Value}{xs:List α}(h:Ksl k K v xs):v.oneCell'=true:=by
 rcases h with ⟨a0,c,rfl,_⟩|⟨b,off,cap,cells,fz,rfl,_,_⟩ <;> rfl
theorem Ksl.isSlice{α:Type}{k:El α}{K:Hl}{v:Value}{xs:List α}(h:Ksl k K v xs):∃a n c,v=.slice a n c:=by
 rcases h with ⟨a0,c,rfl,_⟩|⟨b,off,cap,cells,fz,rfl,_,_⟩
 ·exact⟨_,_,_,rfl⟩
 exact⟨_,_,_,rfl⟩
theorem eF{α:Type}(k:El α){L:List Asn}:∀h,Sat L h→Sat (sl false k (.slice none 0 0) []::L) h:=fun h hh=>
 ⟨Hl.emp,h,.inl ⟨rfl,rfl,rfl⟩,hh,fun _=>.inl rfl,by funext x;simp[Hl.join,Hl.emp]⟩
abbrev Cell:={v:Value//v.oneCell'=true}
def e7(e:TypeId):El Cell:={e:=e,sz:=1,enc:=fun c=>[c.1],len:=fun _=>rfl,one:=fun c u h=>by simp at h;subst h;exact c.2}
def kJ(e:TypeId):El (Cell×Cell):={e:=e,sz:=2,enc:=fun c=>[c.1.1,c.2.1],len:=fun _=>rfl,one:=fun c u h=>by simp at h;rcases h with rfl|rfl;exact c.1.2;exact c.2.2}
section
variable{E:Env}{c x y:Code}{fr:Fr}{K:Hl}{L:List Asn}{Q:Post}{α β γ δ:Type}
def Rnd4(E:Env)(I:α→β→γ→δ→Prop)(fr':α→β→γ→δ→Fr)(K':α→β→γ→δ→Hl)(L':α→β→γ→δ→List Asn)(μ:α→β→γ→δ→Nat)(m:Nat):Act→World→Prop:=
 fun a w=>∃i j k l,I i j k l∧μ i j k l < m∧FrOk E.n E.ds (fr' i j k l) a∧In E.w0 E.F (K' i j k l) (L' i j k l) w
theorem n8(I:α→β→γ→δ→Prop)(fr':α→β→γ→δ→Fr)(K':α→β→γ→δ→Hl)(L':α→β→γ→δ→List Asn)(μ:α→β→γ→δ→Nat)(i0:α)(j0:β)(k0:γ)(l0:δ)(h0:I i0 j0 k0 l0)(k:Kp fr (fr' i0 j0 k0 l0))(hK:K' i0 j0 k0 l0=K)(hL:∀h,Sat L h→Sat (L' i0 j0 k0 l0) h)
  (round:∀i j k l,I i j k l→T E c (fr' i j k l) (K' i j k l) (L' i j k l) (Exit.then (Rnd4 E I fr' K' L' μ (μ i j k l)) Q)):T E (.loop c) fr K L Q:=by
 refine eJ (fun p:α×β×γ×δ=>I p.1 p.2.1 p.2.2.1 p.2.2.2) (fun p=>fr' p.1 p.2.1 p.2.2.1 p.2.2.2) (fun p=>K' p.1 p.2.1 p.2.2.1 p.2.2.2) (fun p=>L' p.1 p.2.1 p.2.2.1 p.2.2.2) (fun p=>μ p.1 p.2.1 p.2.2.1 p.2.2.2) (i0,j0,k0,l0) h0 k hK hL ?_;rintro⟨i,j,k,l⟩ hI a w f w1;refine Code.wp_mono ?_ (round i j k l hI a w f w1)
 exact aBP fun a w ⟨i',j',k',l',h1,h2,h3,h4⟩=>⟨(i',j',k',l'),h1,h2,h3,h4⟩
theorem gS{I:α→β→γ→δ→Prop}{fr':α→β→γ→δ→Fr}{K':α→β→γ→δ→Hl}{L':α→β→γ→δ→List Asn}{μ:α→β→γ→δ→Nat}{m:Nat}(i:α)(j:β)(l:γ)(n:δ)(hj:I i j l n)(hlt:μ i j l n < m)(k:Kp fr (fr' i j l n))(hK:K' i j l n=K)(hL:∀h,Sat L h→Sat (L' i j l n) h):
  D E .normal fr K L (Exit.then (Rnd4 E I fr' K' L' μ m) Q):=
 fun a w f q=>⟨i,j,l,n,hj,hlt,f.keep k,by rw[hK];exact q.imp hL⟩
end
inductive Way:Exit→FrameMode→Prop where
 |norm:Way .normal .returning
 |ret:Way .ret .returning
 |pan (ch:List PanicEntry):Way (.panic ch) (.panicking ch)
theorem Way.post{x:Exit}{u:FrameMode}(h:Way x u){P:Program}{fn:Func}{R:Ending→World→Prop}{a:Act}{w:World}(k:Leaves P fn a.tmps R a.defers u w):bodyPostD P fn R x a w:=by
 cases h <;> exact k
section
variable{E:Env}{fr:Fr}{K:Hl}{L:List Asn}{Q:Post}{dst:Option Tmp}{ty:TypeId}{pos:String}{aft:Array Edge}{g:Option (Nat×Bool)}{x y:Operand}{t t' u:TypeId}{v:Value}{ms:Array (String×TypeId)}
theorem zA{P:Program}(w:World)(hu:P.underlying t=some (.interface ms)):(Op.equal t (.iface u v) .nilIface).run P w=.ok false w:=by
 have h:∀d:Nat,(Op.equalIn (d+1) t (.iface u v) .nilIface).run P w=.ok false w:=fun d=>by simp[Op.equalIn,run_underlying hu]
 exact h 9999
theorem aBX{P:Program}(w:World)(hu:P.underlying t=some (.interface ms)):(Op.equal t .nilIface .nilIface).run P w=.ok true w:=by
 have h:∀d:Nat,(Op.equalIn (d+1) t .nilIface .nilIface).run P w=.ok true w:=fun d=>by simp[Op.equalIn,run_underlying hu]
 exact h 9999
theorem lL(hu:E.P.underlying t=some (.interface ms))(hx:fr.ev x=some (.iface u v))(hy:fr.ev y=some .nilIface):Ev E fr K L ⟨dst,.binOp .neq t x y t',ty,pos,aft,g⟩ (.bool true):=
 gT hx hy (fun w=>by first|rfl|(unfold eqGuard;simp[run_underlying hu])) fun w=>by
  simp only[binOp];rw[aV (zA w hu)];rfl
theorem kA(hu:E.P.underlying t=some (.interface ms))(hx:fr.ev x=some .nilIface):Ev E fr K L ⟨dst,.binOp .neq t x (.const .nilIface) t',ty,pos,aft,g⟩ (.bool false):=
 gT hx (v:=.nilIface) rfl (fun w=>by unfold eqGuard;simp) fun w=>by
  simp only[binOp];rw[aV (aBX w hu)];rfl
theorem iH(hu:E.P.underlying t=some (.interface ms))(hx:fr.ev x=some (.iface u v))(hy:fr.ev y=some .nilIface):Ev E fr K L ⟨dst,.binOp .eql t x y t',ty,pos,aft,g⟩ (.bool false):=
 gT hx hy (fun w=>by first|rfl|(unfold eqGuard;simp[run_underlying hu])) fun w=>by
  simp only[binOp];rw[aV (zA w hu)];rfl
theorem aCC(hu:E.P.underlying t=some (.interface ms))(hx:fr.ev x=some .nilIface):Ev E fr K L ⟨dst,.binOp .eql t x (.const .nilIface) t',ty,pos,aft,g⟩ (.bool true):=
 gT hx (v:=.nilIface) rfl (fun w=>by unfold eqGuard;simp) fun w=>by
  simp only[binOp];rw[aV (aBX w hu)];rfl
end
theorem sN{v:Value}:∀ {l:List Value} {o:Nat},o < l.length→SetAt l o v (l.set o v):=by
 intro l;induction l with
 |nil=>intro o h;simp at h
 |cons a l ih=>
  intro o h;cases o with
  |zero=>exact .zero
  |succ o=>exact .succ (ih gBZ)
section
variable{α:Type}{k:El α}{z:Bool}{v:Value}{xs:List α}
theorem cs_set(k:El α){i j:Nat}{u:Value}{x x':α}{junk:List Value}(hj:j < k.sz)(he:(k.enc x).set j u=k.enc x'):∀ {xs:List α},xs[i]?=some x→(k.cs xs++junk).set (i*k.sz+j) u=k.cs (xs.set i x')++junk:=by
 induction i with
 |zero=>
  intro xs hx;cases xs with
  |nil=>simp at hx
  |cons y xs=>
   simp at hx;subst hx
   simp only[El.cs,List.flatMap_cons,List.set_cons_zero,Nat.zero_mul,Nat.zero_add,List.append_assoc];rw[List.set_append_left _ _ (by rw[k.len];exact hj),he]
 |succ i ih=>
  intro xs hx;cases xs with
  |nil=>simp at hx
  |cons y xs=>
   have:=ih gBE;simp only[El.cs,List.flatMap_cons,List.set_cons_succ,List.append_assoc]at this ⊢;rw[List.set_append_right _ _ (by rw[k.len,Nat.succ_mul];omega),k.len,show (i+1)*k.sz+j - k.sz=i*k.sz+j from by rw[Nat.succ_mul];omega,this]
end
end Go.SL
end
section
namespace Go.SL
open Go.MapKept
def mset(k:List UInt8)(v:Value)(c:Nat):List Ent→List Ent
 | []=>[(k,v,c)]
 |e::es=>if k=e.1 then (e.1,v,e.2.2)::es else e::mset k v c es
def yE(es:List Ent)(k:List UInt8)(c:Nat):Nat:=if (mget es k).isSome=true then c else c+1
theorem bC6{k:List UInt8}:∀ {es:List Ent} {i:Nat},nK k es i=none→mget es k=none:=by
 intro es i h;have:=aA9 k es i;rw[h]at this;exact this.symm
theorem bC9{k:List UInt8}{v:Value}{c:Nat}:∀ {es:List Ent} {i:Nat},nK k es i=none→mset k v c es=es++[(k,v,c)]:=by
 intro es;induction es with
 |nil=>intro i _;rfl
 |cons e es ih=>
  intro i h;unfold nK at h;split at h
  ·cases h
  rename_i hne;unfold mset;rw[if_neg hne,ih h];rfl
theorem bIL{k:List UInt8}{v:Value}{c:Nat}:∀ {es:List Ent} {i j:Nat} {u:Value},nK k es i=some (j,u)→i≤j∧(∃e,es[j - i]?=some e∧k=e.1)∧
  (es.map ent).modify (j - i) (fun e=>{e with key:=str k,val:=v})=(mset k v c es).map ent:=by
 intro es;induction es with
 |nil=>intro i j u h;cases h
 |cons e es ih=>
  intro i j u h;unfold nK at h;split at h
  ·rename_i he;cases h
   refine⟨Nat.le_refl _,⟨e,by simp,he⟩,?_⟩
   unfold mset;rw[if_pos he,Nat.sub_self]
   simp[List.modify,List.modifyTailIdx,ent,he]
   rfl
  rename_i hne;obtain⟨h1,⟨e',h2,h3⟩,h4⟩:=ih h;have hj:j - i=(j - (i+1))+1:=by omega
  refine⟨by omega,⟨e',by rw[hj];simpa using h2,h3⟩,?_⟩
  rw[hj];unfold mset;rw[if_neg hne]
  simp only[List.map_cons,List.modify_succ_cons];rw[h4]
section
variable{E:Env}{fr:Fr}{K:Hl}{L L':List Asn}{Q:Post}{dst:Option Tmp}{ty:TypeId}{pos:String}{aft:Array Edge}{g:Option (Nat×Bool)}{x y m:Operand}{t t' kt et b c:Nat}{v z:Value}{k:List UInt8}{es:List Ent}
theorem bNV{P:Program}{w:World}(hm:P.underlying t=some (.map kt et))(hk:P.underlying kt=some .string)(hb:w.heap[b]?=some (mapO es c)):
  (Instr.mapUpdate t (.map (some b)) (str k) v).run P w=.ok () {w with heap:=w.heap.setIfInBounds b (mapO (mset k v c es) (yE es k c))}:=by
 cases hf:nK k es 0 with
 |none=>
  rw[zR hm hk hb (aXT hf),bC9 hf];unfold yE;rw[bC6 hf];rfl
 |some p=>
  obtain⟨i,u⟩:=p;obtain⟨_,⟨e,he1,he2⟩,he3⟩:=bIL (v:=v) (c:=c) hf;rw[Nat.sub_zero]at he1 he3;have h1:(Instr.checkKey false 10000 kt (str k)).run P w=.ok () w:=run_checkKey hk (d:=.string) (k:=str k) trivial _ 9999;have h2:=run_findKey (w:=w) (kt:=kt) hk (rJ k es 0);have hj:((es.map ent).toArray[i]?)=some (ent e):=by simp[he1]
  have hkk:(ent e).key=str k:=by unfold ent;rw[he2]
  have hst:(Instr.keyThatStays (str k) (str k)).run P w=.ok (str k) w:=MapKept.run_keyThatStays (d:=.string) (k:=str k) trivial;unfold Instr.mapUpdate;rw[aV (run_underlying hm w)];simp only[]
  show ((getObj b)>>=fun _=>_).run P w=_
  rw[aV (MapKept.run_getObj_map hb)];simp only[];rw[aV h1]
  show ((Instr.findKey kt (str k) (es.map ent))>>=fun _=>_).run P w=_
  rw[aV h2,hf]
  show ((Instr.keyThatStays ((((es.map ent).toArray[i]?).map (·.key)).getD (str k)) (str k))>>=fun _=>_).run P w=_
  rw[hj]
  show ((Instr.keyThatStays (ent e).key (str k))>>=fun _=>_).run P w=_
  rw[hkk,aV hst]
  show (setObj b _).run P w=_
  rw[MapKept.run_setObj_map _ hb];have e1:((es.map ent).toArray.modify i fun e=>{e with key:=str k,val:=v})=((mset k v c es).map ent).toArray:=by
   rw[←he3];simp[List.modify_toArray]
  have e2:yE es k c=c:=by unfold yE;rw[←aA9 k es 0,hf];rfl
  rw[e1,e2]
theorem bAH(hm:E.P.underlying t=some (.map kt et))(hk:E.P.underlying kt=some .string)(hx:fr.ev m=some (.map (some b)))(hy:fr.ev x=some (str k))(hv:fr.ev y=some v)
  (hF:Fnd (pt b (mapO es c)) (pt b (mapO (mset k v c es) (yE es k c))) L L'):EfS E fr K L ⟨dst,.mapUpdate t m x y,ty,pos,aft,g⟩ (fun _ K' L''=>K'=K∧L''=L'):=by
 intro a w f j;have hb:=j.mem hF;have hr:(execOp a.eval ⟨dst,.mapUpdate t m x y,ty,pos,aft,g⟩).run E.P w=.ok .skip {w with heap:=w.heap.setIfInBounds b (mapO (mset k v c es) (yE es k c))}:=by
  simp only[execOp,f.ev hx,f.ev hy,f.ev hv];rw[aV (bNV hm hk hb)];rfl
 have hs:=MapKept.heap_set (o':=mapO (mset k v c es) (yE es k c)) hb;exact⟨_,_,_,_,.inr ⟨hr,rfl⟩,⟨rfl,rfl⟩,Hl.le_refl _,j.writeAt hF (by simp) hs.1 hs.2⟩
end
end Go.SL
end
section
namespace Go.Proofs
open Go Go.SL
set_option maxRecDepth 100000
theorem mixed:Tryz.prog.follows .mixedOrders=true:=by kernel_rfl
theorem nA:aggB Tryz.prog 165 4=true:=by kernel_rfl
theorem nB:aggB Tryz.prog 188 3=true:=by kernel_rfl
theorem sI:aggB Tryz.prog 202 4=true:=by kernel_rfl
theorem aYO:aggB Tryz.prog 25 2=true:=by kernel_rfl
theorem bOM:aggB Tryz.prog 282 3=true:=by kernel_rfl
theorem bON:aggB Tryz.prog 285 1=true:=by kernel_rfl
theorem gF:aggB Tryz.prog 28 4=true:=by kernel_rfl
theorem bOO:aggB Tryz.prog 293 1=true:=by kernel_rfl
theorem bOP:aggB Tryz.prog 297 1=true:=by kernel_rfl
theorem bOQ:aggB Tryz.prog 300 2=true:=by kernel_rfl
theorem aRB:aggB Tryz.prog 308 3=true:=by kernel_rfl
theorem uX:aggB Tryz.prog 311 1=true:=by kernel_rfl
theorem lO:aggB Tryz.prog 34 2=true:=by kernel_rfl
theorem aBJ:aggB Tryz.prog 371 2=true:=by kernel_rfl
theorem aRC:aggB Tryz.prog 376 2=true:=by kernel_rfl
theorem aRD:aggB Tryz.prog 380 5=true:=by kernel_rfl
theorem kM:aggB Tryz.prog 41 7=true:=by kernel_rfl
theorem aRE:aggB Tryz.prog 428 2=true:=by kernel_rfl
theorem kD:aggB Tryz.prog 66 2=true:=by kernel_rfl
theorem aLR:aggB Tryz.prog 73 9=true:=by kernel_rfl
theorem bUH:fQ Tryz.prog 106=some ([.pointer none],[(0,1)]):=by kernel_rfl
theorem bR8:fN Tryz.prog 106=true:=by kernel_rfl
theorem bUI:fQ Tryz.prog 110=some ([.map none,.map none,.slice none 0 0,.int .i64 0,.int .i64 0,.bool false],[(0,1),(1,1),(2,1),(3,1),(4,1),(5,1)]):=by kernel_rfl
theorem bR9:fN Tryz.prog 110=true:=by kernel_rfl
theorem bPU:fQ Tryz.prog 123=some ([.int .i64 0,.int .i64 0],[(0,1),(1,1)]):=by kernel_rfl
theorem bKS:fN Tryz.prog 123=true:=by kernel_rfl
theorem bPV:fQ Tryz.prog 165=some ([.int .i64 0,(str []),(str []),(str [])],[(0,1),(1,1),(2,1),(3,1)]):=by kernel_rfl
theorem bKT:fN Tryz.prog 165=true:=by kernel_rfl
theorem bUJ:fQ Tryz.prog 174=some ([(str []),(str []),.int .i64 0,.slice none 0 0,.slice none 0 0,.bool false],[(0,4),(4,1),(5,1)]):=by kernel_rfl
theorem bSA:fN Tryz.prog 174=true:=by kernel_rfl
theorem bUK:fQ Tryz.prog 178=some ([(str []),(str []),.int .i64 0,.slice none 0 0,.slice none 0 0,.bool false,.bool false,.map none,.slice none 0 0,.slice none 0 0,.int .i64 0],[(0,6),(6,1),(7,1),(8,1),(9,1),(10,1)]):=by kernel_rfl
theorem bSB:fN Tryz.prog 178=true:=by kernel_rfl
theorem bAO:fQ Tryz.prog 202=some ([.int .u8 0,(str []),.int .i64 0,.int .i64 0],[(0,1),(1,1),(2,1),(3,1)]):=by kernel_rfl
theorem aRG:fN Tryz.prog 202=true:=by kernel_rfl
theorem bUL:fQ Tryz.prog 204=some ([(str []),.int .i64 0,.int .u8 0,(str []),.int .i64 0,.int .i64 0],[(0,1),(1,1),(2,4)]):=by kernel_rfl
theorem bSC:fN Tryz.prog 204=true:=by kernel_rfl
theorem bUM:fQ Tryz.prog 208=some ([(str []),.int .i64 0,.int .u8 0,(str []),.int .i64 0,.int .i64 0,.slice none 0 0,.slice none 0 0,.map none,.map none],[(0,6),(6,2),(8,1),(9,1)]):=by kernel_rfl
theorem bSD:fN Tryz.prog 208=true:=by kernel_rfl
theorem bUN:fQ Tryz.prog 217=some ([.slice none 0 0],[(0,1)]):=by kernel_rfl
theorem bSE:fN Tryz.prog 217=true:=by kernel_rfl
theorem bSF:fQ Tryz.prog 25=some ([(str []),(str [])],[(0,1),(1,1)]):=by kernel_rfl
theorem bKU:fN Tryz.prog 25=true:=by kernel_rfl
theorem bUO:fQ Tryz.prog 28=some ([(str []),(str []),.int .i64 0,.slice none 0 0],[(0,1),(1,1),(2,1),(3,1)]):=by kernel_rfl
theorem bPY:fN Tryz.prog 28=true:=by kernel_rfl
theorem bPW:fQ Tryz.prog 282=some ([.int .i64 0,(str []),.int .i64 0],[(0,1),(1,1),(2,1)]):=by kernel_rfl
theorem bKV:fN Tryz.prog 282=true:=by kernel_rfl
theorem bPX:fQ Tryz.prog 285=some ([.int .i64 0],[(0,1)]):=by kernel_rfl
theorem bKW:fN Tryz.prog 285=true:=by kernel_rfl
theorem bUP:fQ Tryz.prog 293=some ([.nilIface],[(0,1)]):=by kernel_rfl
theorem bSG:fN Tryz.prog 293=true:=by kernel_rfl
theorem bUQ:fQ Tryz.prog 297=some ([.slice none 0 0],[(0,1)]):=by kernel_rfl
theorem bSH:fN Tryz.prog 297=true:=by kernel_rfl
theorem bPZ:fQ Tryz.prog 300=some ([.int .i64 0,.int .i64 0],[(0,1),(1,1)]):=by kernel_rfl
theorem bKX:fN Tryz.prog 300=true:=by kernel_rfl
theorem bUR:fQ Tryz.prog 308=some ([(str []),(str []),.int .i64 0],[(0,1),(1,1),(2,1)]):=by kernel_rfl
theorem bSI:fN Tryz.prog 308=true:=by kernel_rfl
theorem aVF:fQ Tryz.prog 34=some ([.int .i64 0,(str [])],[(0,1),(1,1)]):=by kernel_rfl
theorem aH2:fN Tryz.prog 34=true:=by kernel_rfl
theorem bUS:fQ Tryz.prog 369=some ([(str [])],[(0,1)]):=by kernel_rfl
theorem bSJ:fN Tryz.prog 369=true:=by kernel_rfl
theorem bUT:fQ Tryz.prog 371=some ([.nilIface,.slice none 0 0],[(0,1),(1,1)]):=by kernel_rfl
theorem bSK:fN Tryz.prog 371=true:=by kernel_rfl
theorem bUU:fQ Tryz.prog 376=some ([.bool false,.slice none 0 0],[(0,1),(1,1)]):=by kernel_rfl
theorem bSL:fN Tryz.prog 376=true:=by kernel_rfl
theorem bUV:fQ Tryz.prog 380=some ([.int .i64 0,.bool false,.int .i64 0,.slice none 0 0,.slice none 0 0],[(0,2),(2,1),(3,1),(4,1)]):=by kernel_rfl
theorem bSM:fN Tryz.prog 380=true:=by kernel_rfl
theorem wA:fQ Tryz.prog 41=some ([.int .i64 0,.int .i64 0,.int .i64 0,.bool false,.slice none 0 0,.slice none 0 0,.int .i64 0],[(0,1),(1,1),(2,1),(3,1),(4,1),(5,1),(6,1)]):=by kernel_rfl
theorem pO:fN Tryz.prog 41=true:=by kernel_rfl
theorem aMN:fQ Tryz.prog 66=some ([(str []),(str [])],[(0,1),(1,1)]):=by kernel_rfl
theorem aB6:fN Tryz.prog 66=true:=by kernel_rfl
theorem bVV:fQ Tryz.prog 89=some ([.pointer none,.slice none 0 0],[(0,1),(1,1)]):=by kernel_rfl
theorem bUW:fN Tryz.prog 89=true:=by kernel_rfl
theorem t8:elOk Tryz.prog 108 165 4 56=true:=by kernel_rfl
theorem rN:elOk Tryz.prog 130 5 1 1=true:=by kernel_rfl
theorem aLT:elOk Tryz.prog 135 224 1 16=true:=by kernel_rfl
theorem aVG:elOk Tryz.prog 176 4 1 1=true:=by kernel_rfl
theorem aRH:elOk Tryz.prog 26 25 2 32=true:=by kernel_rfl
theorem qD:elOk Tryz.prog 29 34 2 24=true:=by kernel_rfl
theorem aLU:elOk Tryz.prog 309 371 2 40=true:=by kernel_rfl
theorem aLV:elOk Tryz.prog 374 288 1 16=true:=by kernel_rfl
theorem fS:elOk Tryz.prog 39 9 1 16=true:=by kernel_rfl
theorem xW:elOk Tryz.prog 42 41 7 88=true:=by kernel_rfl
theorem xX:elOk Tryz.prog 55 3 1 8=true:=by kernel_rfl
theorem jC:elOk Tryz.prog 62 66 2 32=true:=by kernel_rfl
theorem fU:cT Tryz.prog 106 0 0=true:=by kernel_rfl
theorem pP:cT Tryz.prog 110 0 0=true:=by kernel_rfl
theorem pQ:cT Tryz.prog 110 1 1=true:=by kernel_rfl
theorem l9:cT Tryz.prog 110 2 2=true:=by kernel_rfl
theorem mY:cT Tryz.prog 110 3 3=true:=by kernel_rfl
theorem mA:cT Tryz.prog 110 4 4=true:=by kernel_rfl
theorem mB:cT Tryz.prog 110 5 5=true:=by kernel_rfl
theorem aGR:cT Tryz.prog 123 0 0=true:=by kernel_rfl
theorem bE0:cT Tryz.prog 123 1 1=true:=by kernel_rfl
theorem pR:cT Tryz.prog 132 0 0=true:=by kernel_rfl
theorem g0:cT Tryz.prog 132 1 1=true:=by kernel_rfl
theorem sP:cT Tryz.prog 137 0 0=true:=by kernel_rfl
theorem aBL:cT Tryz.prog 137 1 1=true:=by kernel_rfl
theorem qW:cT Tryz.prog 165 0 0=true:=by kernel_rfl
theorem sQ:cT Tryz.prog 165 1 1=true:=by kernel_rfl
theorem aBM:cT Tryz.prog 165 3 3=true:=by kernel_rfl
theorem oC:cT Tryz.prog 174 0 0=true:=by kernel_rfl
theorem hU:cT Tryz.prog 174 1 4=true:=by kernel_rfl
theorem wC:cT Tryz.prog 174 2 5=true:=by kernel_rfl
theorem d7:cT Tryz.prog 178 0 0=true:=by kernel_rfl
theorem aOQ:cT Tryz.prog 178 1 6=true:=by kernel_rfl
theorem aBN:cT Tryz.prog 178 2 7=true:=by kernel_rfl
theorem aGS:cT Tryz.prog 178 3 8=true:=by kernel_rfl
theorem mZ:cT Tryz.prog 178 4 9=true:=by kernel_rfl
theorem nR:cT Tryz.prog 178 5 10=true:=by kernel_rfl
theorem iA:cT Tryz.prog 202 0 0=true:=by kernel_rfl
theorem jU:cT Tryz.prog 202 1 1=true:=by kernel_rfl
theorem bE1:cT Tryz.prog 202 2 2=true:=by kernel_rfl
theorem j8:cT Tryz.prog 202 3 3=true:=by kernel_rfl
theorem jV:cT Tryz.prog 204 0 0=true:=by kernel_rfl
theorem cQ:cT Tryz.prog 204 1 1=true:=by kernel_rfl
theorem dH:cT Tryz.prog 204 2 2=true:=by kernel_rfl
theorem cR:cT Tryz.prog 208 0 0=true:=by kernel_rfl
theorem pS:cT Tryz.prog 208 1 6=true:=by kernel_rfl
theorem aOR:cT Tryz.prog 208 2 8=true:=by kernel_rfl
theorem aOS:cT Tryz.prog 208 3 9=true:=by kernel_rfl
theorem sR:cT Tryz.prog 217 0 0=true:=by kernel_rfl
theorem aVJ:cT Tryz.prog 25 0 0=true:=by kernel_rfl
theorem aVK:cT Tryz.prog 25 1 1=true:=by kernel_rfl
theorem aGT:cT Tryz.prog 282 0 0=true:=by kernel_rfl
theorem aOT:cT Tryz.prog 282 1 1=true:=by kernel_rfl
theorem bE2:cT Tryz.prog 282 2 2=true:=by kernel_rfl
theorem aOU:cT Tryz.prog 285 0 0=true:=by kernel_rfl
theorem aVL:cT Tryz.prog 28 0 0=true:=by kernel_rfl
theorem aVM:cT Tryz.prog 28 1 1=true:=by kernel_rfl
theorem wD:cT Tryz.prog 28 2 2=true:=by kernel_rfl
theorem qF:cT Tryz.prog 28 3 3=true:=by kernel_rfl
theorem aOV:cT Tryz.prog 293 0 0=true:=by kernel_rfl
theorem aOW:cT Tryz.prog 297 0 0=true:=by kernel_rfl
theorem aOX:cT Tryz.prog 300 0 0=true:=by kernel_rfl
theorem aOY:cT Tryz.prog 300 1 1=true:=by kernel_rfl
theorem aGU:cT Tryz.prog 308 0 0=true:=by kernel_rfl
theorem aGV:cT Tryz.prog 308 1 1=true:=by kernel_rfl
theorem aBO:cT Tryz.prog 308 2 2=true:=by kernel_rfl
theorem wE:cT Tryz.prog 311 0 0=true:=by kernel_rfl
theorem iE:cT Tryz.prog 34 0 0=true:=by kernel_rfl
theorem dW:cT Tryz.prog 34 1 1=true:=by kernel_rfl
theorem qX:cT Tryz.prog 371 0 0=true:=by kernel_rfl
theorem aGW:cT Tryz.prog 371 1 1=true:=by kernel_rfl
theorem aOZ:cT Tryz.prog 376 0 0=true:=by kernel_rfl
theorem wF:cT Tryz.prog 376 1 1=true:=by kernel_rfl
theorem m6:cT Tryz.prog 378 0 0=true:=by kernel_rfl
theorem sS:cT Tryz.prog 378 1 1=true:=by kernel_rfl
theorem jG:cT Tryz.prog 380 0 0=true:=by kernel_rfl
theorem aO0:cT Tryz.prog 380 1 2=true:=by kernel_rfl
theorem aGX:cT Tryz.prog 380 2 3=true:=by kernel_rfl
theorem aGY:cT Tryz.prog 380 3 4=true:=by kernel_rfl
theorem nS:cT Tryz.prog 41 0 0=true:=by kernel_rfl
theorem lI:cT Tryz.prog 41 1 1=true:=by kernel_rfl
theorem iF:cT Tryz.prog 41 2 2=true:=by kernel_rfl
theorem bK1:cT Tryz.prog 41 3 3=true:=by kernel_rfl
theorem jP:cT Tryz.prog 41 4 4=true:=by kernel_rfl
theorem uA:cT Tryz.prog 41 5 5=true:=by kernel_rfl
theorem mU:cT Tryz.prog 41 6 6=true:=by kernel_rfl
theorem oR:cT Tryz.prog 66 0 0=true:=by kernel_rfl
theorem wG:cT Tryz.prog 66 1 1=true:=by kernel_rfl
theorem aAC:cT Tryz.prog 73 0 0=true:=by kernel_rfl
theorem uB:cT Tryz.prog 73 1 1=true:=by kernel_rfl
theorem aAD:cT Tryz.prog 73 2 2=true:=by kernel_rfl
theorem aVN:cT Tryz.prog 73 3 3=true:=by kernel_rfl
theorem aLX:cT Tryz.prog 73 4 4=true:=by kernel_rfl
theorem aAE:cT Tryz.prog 73 5 5=true:=by kernel_rfl
theorem aAF:cT Tryz.prog 73 6 6=true:=by kernel_rfl
theorem aLY:cT Tryz.prog 73 7 7=true:=by kernel_rfl
theorem bK2:cT Tryz.prog 73 8 8=true:=by kernel_rfl
theorem aVO:cT Tryz.prog 89 0 0=true:=by kernel_rfl
theorem aVP:cT Tryz.prog 89 1 1=true:=by kernel_rfl
theorem rR:jS Tryz.prog 108 165 4=true:=by kernel_rfl
theorem kR:jS Tryz.prog 130 5 1=true:=by kernel_rfl
theorem aAG:jS Tryz.prog 135 224 1=true:=by kernel_rfl
theorem aG0:jS Tryz.prog 176 4 1=true:=by kernel_rfl
theorem aH3:jS Tryz.prog 181 184 1=true:=by kernel_rfl
theorem sU:jS Tryz.prog 26 25 2=true:=by kernel_rfl
theorem gK:jS Tryz.prog 29 34 2=true:=by kernel_rfl
theorem uY:jS Tryz.prog 309 371 2=true:=by kernel_rfl
theorem uZ:jS Tryz.prog 342 247 1=true:=by kernel_rfl
theorem u6:jS Tryz.prog 374 288 1=true:=by kernel_rfl
theorem cG:jS Tryz.prog 39 9 1=true:=by kernel_rfl
theorem fV:jS Tryz.prog 42 41 7=true:=by kernel_rfl
theorem uC:jS Tryz.prog 55 3 1=true:=by kernel_rfl
theorem eK:jS Tryz.prog 62 66 2=true:=by kernel_rfl
theorem m7:jS Tryz.prog 68 73 9=true:=by kernel_rfl
theorem oG:eZ Tryz.prog 103=true:=by kernel_rfl
theorem r9:eZ Tryz.prog 107=true:=by kernel_rfl
theorem aAH:eZ Tryz.prog 108=true:=by kernel_rfl
theorem bK6:eZ Tryz.prog 118=true:=by kernel_rfl
theorem aH4:eZ Tryz.prog 129=true:=by kernel_rfl
theorem jW:eZ Tryz.prog 130=true:=by kernel_rfl
theorem aL0:eZ Tryz.prog 135=true:=by kernel_rfl
theorem uD:eZ Tryz.prog 160=true:=by kernel_rfl
theorem aL1:eZ Tryz.prog 169=true:=by kernel_rfl
theorem bUX:eZ Tryz.prog 172=true:=by kernel_rfl
theorem bAR:eZ Tryz.prog 175=true:=by kernel_rfl
theorem aB8:eZ Tryz.prog 176=true:=by kernel_rfl
theorem bUY:eZ Tryz.prog 184=true:=by kernel_rfl
theorem bK7:eZ Tryz.prog 191=true:=by kernel_rfl
theorem uE:eZ Tryz.prog 199=true:=by kernel_rfl
theorem qJ:eZ Tryz.prog 200=true:=by kernel_rfl
theorem bP1:eZ Tryz.prog 205=true:=by kernel_rfl
theorem bP2:eZ Tryz.prog 206=true:=by kernel_rfl
theorem bP3:eZ Tryz.prog 224=true:=by kernel_rfl
theorem bUZ:eZ Tryz.prog 247=true:=by kernel_rfl
theorem aRL:eZ Tryz.prog 26=true:=by kernel_rfl
theorem bU0:eZ Tryz.prog 283=true:=by kernel_rfl
theorem aAI:eZ Tryz.prog 288=true:=by kernel_rfl
theorem oS:eZ Tryz.prog 29=true:=by kernel_rfl
theorem ts3:eZ Tryz.prog 3=true:=by kernel_rfl
theorem bE7:eZ Tryz.prog 30=true:=by kernel_rfl
theorem aVU:eZ Tryz.prog 309=true:=by kernel_rfl
theorem aVV:eZ Tryz.prog 374=true:=by kernel_rfl
theorem iS:eZ Tryz.prog 39=true:=by kernel_rfl
theorem ts4:eZ Tryz.prog 4=true:=by kernel_rfl
theorem aVW:eZ Tryz.prog 42=true:=by kernel_rfl
theorem bK8:eZ Tryz.prog 427=true:=by kernel_rfl
theorem ts5:eZ Tryz.prog 5=true:=by kernel_rfl
theorem bSO:eZ Tryz.prog 55=true:=by kernel_rfl
theorem bE8:eZ Tryz.prog 62=true:=by kernel_rfl
theorem aFC:eZ Tryz.prog 79=true:=by kernel_rfl
theorem aRM:eZ Tryz.prog 87=true:=by kernel_rfl
theorem ts9:eZ Tryz.prog 9=true:=by kernel_rfl
theorem aO2:gH Tryz.prog 158=some (.pointer none):=by kernel_rfl
theorem bU1:gH Tryz.prog 279=some (.nilFunc):=by kernel_rfl
theorem bP4:gH Tryz.prog 282=some (.agg #[.int .i64 0,(str []),.int .i64 0]):=by kernel_rfl
theorem bK9:gH Tryz.prog 285=some (.agg #[.int .i64 0]):=by kernel_rfl
theorem bAS:gH Tryz.prog 289=some (.bool false):=by kernel_rfl
theorem bU2:gH Tryz.prog 290=some (.nilFunc):=by kernel_rfl
theorem aVX:gH Tryz.prog 293=some (.agg #[.nilIface]):=by kernel_rfl
theorem bU3:gH Tryz.prog 297=some (.agg #[.slice none 0 0]):=by kernel_rfl
theorem tv3:gH Tryz.prog 3=some (.int .i64 0):=by kernel_rfl
theorem bU4:gH Tryz.prog 308=some (.agg #[(str []),(str []),.int .i64 0]):=by kernel_rfl
theorem bLA:gH Tryz.prog 369=some (.agg #[(str [])]):=by kernel_rfl
theorem bLB:gH Tryz.prog 376=some (.agg #[.bool false,.slice none 0 0]):=by kernel_rfl
theorem bP5:gH Tryz.prog 380=some (.agg #[.int .i64 0,.bool false,.int .i64 0,.slice none 0 0,.slice none 0 0]):=by kernel_rfl
theorem bU5:gH Tryz.prog 428=some (.agg #[.int .i64 0,.int .i64 0]):=by kernel_rfl
theorem bLC:cU Tryz.prog 118=some [.pointer none]:=by kernel_rfl
theorem bAU:cU Tryz.prog 132=some [.pointer none,.slice none 0 0]:=by kernel_rfl
theorem aO3:cU Tryz.prog 165=some [.int .i64 0,(str []),(str []),(str [])]:=by kernel_rfl
theorem bU6:cU Tryz.prog 169=some [.nilFunc]:=by kernel_rfl
theorem bU7:cU Tryz.prog 184=some [.nilFunc]:=by kernel_rfl
theorem bLD:cU Tryz.prog 188=some [.pointer none,.pointer none,.int .u64 0]:=by kernel_rfl
theorem bP6:cU Tryz.prog 202=some [.int .u8 0,(str []),.int .i64 0,.int .i64 0]:=by kernel_rfl
theorem bU8:cU Tryz.prog 224=some [.nilIface]:=by kernel_rfl
theorem bLE:cU Tryz.prog 247=some [.nilFunc]:=by kernel_rfl
theorem bSV:cU Tryz.prog 25=some [(str []),(str [])]:=by kernel_rfl
theorem bLF:cU Tryz.prog 28=some [(str []),(str []),.int .i64 0,.slice none 0 0]:=by kernel_rfl
theorem bU9:cU Tryz.prog 282=some [.int .i64 0,(str []),.int .i64 0]:=by kernel_rfl
theorem bVA:cU Tryz.prog 285=some [.int .i64 0]:=by kernel_rfl
theorem bP7:cU Tryz.prog 288=some [.nilIface]:=by kernel_rfl
theorem bVW:cU Tryz.prog 29=some [.slice none 0 0]:=by kernel_rfl
theorem bVB:cU Tryz.prog 293=some [.nilIface]:=by kernel_rfl
theorem bVC:cU Tryz.prog 297=some [.slice none 0 0]:=by kernel_rfl
theorem tz3:cU Tryz.prog 3=some [.int .i64 0]:=by kernel_rfl
theorem bSW:cU Tryz.prog 30=some [.int .i64 0]:=by kernel_rfl
theorem bVD:cU Tryz.prog 300=some [.int .i64 0,.int .i64 0]:=by kernel_rfl
theorem bP8:cU Tryz.prog 308=some [(str []),(str []),.int .i64 0]:=by kernel_rfl
theorem bP9:cU Tryz.prog 311=some [.slice none 0 0]:=by kernel_rfl
theorem aIC:cU Tryz.prog 34=some [.int .i64 0,(str [])]:=by kernel_rfl
theorem bAV:cU Tryz.prog 371=some [.nilIface,.slice none 0 0]:=by kernel_rfl
theorem bQA:cU Tryz.prog 376=some [.bool false,.slice none 0 0]:=by kernel_rfl
theorem bQB:cU Tryz.prog 380=some [.int .i64 0,.bool false,.int .i64 0,.slice none 0 0,.slice none 0 0]:=by kernel_rfl
theorem bVX:cU Tryz.prog 39=some [.slice none 0 0]:=by kernel_rfl
theorem tz4:cU Tryz.prog 4=some [.bool false]:=by kernel_rfl
theorem uH:cU Tryz.prog 41=some [.int .i64 0,.int .i64 0,.int .i64 0,.bool false,.slice none 0 0,.slice none 0 0,.int .i64 0]:=by kernel_rfl
theorem bVE:cU Tryz.prog 427=some [.map none]:=by kernel_rfl
theorem bVF:cU Tryz.prog 428=some [.int .i64 0,.int .i64 0]:=by kernel_rfl
theorem bVG:cU Tryz.prog 476=some [.int .u8 0,.int .u8 0,.int .u8 0,.int .u8 0,.int .u8 0,.int .u8 0,.int .u8 0,.int .u8 0,.int .u8 0,.int .u8 0,.int .u8 0,.int .u8 0,.int .u8 0,.int .u8 0,.int .u8 0,.int .u8 0,.int .u8 0,.int .u8 0,.int .u8 0,.int .u8 0,.int .u8 0,.int .u8 0,.int .u8 0,.int .u8 0,.int .u8 0,.int .u8 0,.int .u8 0,.int .u8 0,.int .u8 0,.int .u8 0,.int .u8 0,.int .u8 0,.int .u8 0,.int .u8 0,.int .u8 0,.int .u8 0,.int .u8 0,.int .u8 0,.int .u8 0,.int .u8 0,.int .u8 0,.int .u8 0,.int .u8 0,.int .u8 0,.int .u8 0,.int .u8 0,.int .u8 0,.int .u8 0,.int .u8 0,.int .u8 0,.int .u8 0,.int .u8 0,.int .u8 0,.int .u8 0,.int .u8 0,.int .u8 0,.int .u8 0,.int .u8 0,.int .u8 0,.int .u8 0,.int .u8 0,.int .u8 0,.int .u8 0,.int .u8 0,.int .u8 0]:=by kernel_rfl
theorem tz5:cU Tryz.prog 5=some [.int .u8 0]:=by kernel_rfl
theorem bVY:cU Tryz.prog 62=some [.slice none 0 0]:=by kernel_rfl
theorem aID:cU Tryz.prog 66=some [(str []),(str [])]:=by kernel_rfl
theorem bVH:cU Tryz.prog 79=some [.nilIface]:=by kernel_rfl
theorem bVZ:cU Tryz.prog 87=some [.pointer none]:=by kernel_rfl
theorem tz9:cU Tryz.prog 9=some [(str [])]:=by kernel_rfl
theorem tf390_1_0:cT Tryz.prog 390 1 0=true:=by kernel_rfl
theorem tf392_0_0:cT Tryz.prog 392 0 0=true:=by kernel_rfl
theorem tf394_1_0:cT Tryz.prog 394 1 0=true:=by kernel_rfl
theorem tf396_1_0:cT Tryz.prog 396 1 0=true:=by kernel_rfl
theorem tf396_2_1:cT Tryz.prog 396 2 1=true:=by kernel_rfl
theorem ts21:eZ Tryz.prog 21=true:=by kernel_rfl
theorem ta470_257:aggB Tryz.prog 470 257=true:=by kernel_rfl
theorem tf400_2_4:cT Tryz.prog 400 2 4=true:=by kernel_rfl
theorem tf470_0_0:cT Tryz.prog 470 0 0=true:=by kernel_rfl
theorem tf470_1_256:cT Tryz.prog 470 1 256=true:=by kernel_rfl
theorem tv9:gH Tryz.prog 9=some ((str [])):=by kernel_rfl
theorem tv5:gH Tryz.prog 5=some (.int .u8 0):=by kernel_rfl
theorem tf134_0_0:cT Tryz.prog 134 0 0=true:=by kernel_rfl
theorem tb400:fQ Tryz.prog 400=some ([.int .u32 0,.int .i32 0,.int .u32 0,.nilIface,.slice none 0 0],[(0,3),(3,1),(4,1)]):=by kernel_rfl
theorem tb400f:fN Tryz.prog 400=true:=by kernel_rfl
theorem tf400_0_0:cT Tryz.prog 400 0 0=true:=by kernel_rfl
theorem tf400_1_3:cT Tryz.prog 400 1 3=true:=by kernel_rfl
theorem ts398:eZ Tryz.prog 398=true:=by kernel_rfl
theorem tv202:gH Tryz.prog 202=some (.agg #[.int .u8 0,(str []),.int .i64 0,.int .i64 0]):=by kernel_rfl
theorem tf134_1_2:cT Tryz.prog 134 1 2=true:=by kernel_rfl
theorem tb134:fQ Tryz.prog 134=some ([.pointer none,.slice none 0 0,.int .i64 0],[(0,2),(2,1)]):=by kernel_rfl
theorem tb134f:fN Tryz.prog 134=true:=by kernel_rfl
end Go.Proofs

end
section
namespace Go.Proofs
open Go Go.SL
theorem aUn{p:Prop}(h:p:=by first|exact Tryz.underlying129|exact Tryz.underlying20|exact Tryz.underlying202|exact Tryz.underlying288|exact Tryz.underlying369|exact Tryz.underlying43|exact Tryz.underlying79|exact Tryz.underlying9):p:=h
theorem aTs{p:Prop}(h:p:=by first|exact oG|exact r9|exact aAH|exact bK6|exact aH4|exact jW|exact aL0|exact uD|exact aL1|exact bUX|exact bAR|exact aB8|exact uE|exact qJ|exact bP1|exact bP2|exact ts21|exact aRL|exact bU0|exact aAI|exact oS|exact ts3|exact bE7|exact aVU|exact aVV|exact iS|exact ts398|exact ts4|exact aVW|exact bK8|exact bSO|exact bE8|exact ts9):p:=h
theorem aTa{p:Prop}(h:p:=by first|exact nA|exact nB|exact sI|exact gF|exact aRB|exact uX|exact lO|exact aRC|exact aRD|exact kM|exact aRE|exact kD|exact aLR):p:=h
theorem aTf{p:Prop}(h:p:=by first|exact fU|exact pP|exact pQ|exact l9|exact mY|exact mA|exact mB|exact aGR|exact bE0|exact pR|exact g0|exact tf134_0_0|exact tf134_1_2|exact sP|exact aBL|exact qW|exact sQ|exact aBM|exact oC|exact hU|exact wC|exact d7|exact aOQ|exact aBN|exact aGS|exact mZ|exact nR|exact iA|exact jU|exact bE1|exact j8|exact jV|exact cQ|exact dH|exact cR|exact pS|exact aOR|exact aOS|exact sR|exact aVJ|exact aVK|exact aGT|exact aOT|exact bE2|exact aOU|exact aVL|exact aVM|exact wD|exact qF|exact aOV|exact aOW|exact aOX|exact aOY|exact aGU|exact aGV|exact aBO|exact wE|exact iE|exact dW|exact qX|exact aGW|exact aOZ|exact wF|exact m6|exact sS|exact jG|exact aO0|exact aGX|exact aGY|exact tf390_1_0|exact tf392_0_0|exact tf394_1_0|exact tf396_1_0|exact tf396_2_1|exact tf400_0_0|exact tf400_1_3|exact tf400_2_4|exact nS|exact lI|exact iF|exact bK1|exact jP|exact uA|exact mU|exact tf470_0_0|exact tf470_1_256|exact oR|exact wG|exact aAC|exact uB|exact aAD|exact aVN|exact aLX|exact aAE|exact aAF|exact aLY|exact aVO|exact aVP):p:=h
theorem aTz{p:Prop}(h:p:=by first|exact bLC|exact bAU|exact aO3|exact bU6|exact bLD|exact bP6|exact bSV|exact bLF|exact bU9|exact bVA|exact bVW|exact bVB|exact bVC|exact bSW|exact bVD|exact bP8|exact bP9|exact aIC|exact bAV|exact bQA|exact bQB|exact bVX|exact uH|exact bVE|exact bVF|exact bVG|exact bVY|exact aID|exact bVH|exact bVZ|exact tz9):p:=h
theorem aZe{p:Prop}(h:p:=by first|exact .zero|exact .succ .zero|exact .succ (.succ .zero)|exact .succ (.succ (.succ .zero))|exact .succ (.succ (.succ (.succ .zero)))|exact .succ (.succ (.succ (.succ (.succ .zero))))|exact .succ (.succ (.succ (.succ (.succ (.succ .zero)))))|exact .succ (.succ (.succ (.succ (.succ (.succ (.succ .zero))))))|exact .succ (.succ (.succ (.succ (.succ (.succ (.succ (.succ .zero)))))))|exact .succ (.succ (.succ (.succ (.succ (.succ (.succ (.succ (.succ .zero))))))))|exact .succ (.succ (.succ (.succ (.succ (.succ (.succ (.succ (.succ (.succ .zero)))))))))|exact .succ (.succ (.succ (.succ (.succ (.succ (.succ (.succ (.succ (.succ (.succ .zero))))))))))|exact .succ (.succ (.succ (.succ (.succ (.succ (.succ (.succ (.succ (.succ (.succ (.succ .zero)))))))))))):p:=h
theorem aWh{p:Prop}(h:p:=by first|exact .none rfl|exact .on rfl rfl rfl):p:=h
theorem aEv{p:Prop}(h:p:=by first|(guard_target=~Go.SL.Ev _ _ _ _ ⟨_,.move _,_,_,_,_⟩ _;exact aB rfl)|(guard_target=~Go.SL.Ev _ _ _ _ ⟨_,.assign _,_,_,_,_⟩ _;exact aD rfl)|(guard_target=~Go.SL.Ev _ _ _ _ ⟨_,.nilCheck _,_,_,_,_⟩ _;exact bT)|(guard_target=~Go.SL.Ev _ _ _ _ ⟨_,.extract _ _,_,_,_,_⟩ _;exact aQ rfl rfl)|(guard_target=~Go.SL.Ev _ _ _ _ ⟨_,.load _ _,_,_,_,_⟩ _;(first|exact aL aTs rfl aM rfl|exact b0 aTa rfl aM rfl rfl))|(guard_target=~Go.SL.Ev _ _ _ _ ⟨_,.fieldAddr _ _ _,_,_,_,_⟩ _;exact aF aTf rfl rfl)|(guard_target=~Go.SL.Ev _ _ _ _ ⟨_,.pick _ _ _,_,_,_,_⟩ _;(first|exact bA rfl rfl|exact bI rfl rfl))|(guard_target=~Go.SL.Ev _ _ _ _ ⟨_,.binOp _ _ _ _ _,_,_,_,_⟩ _;(first|(guard_target=~Go.SL.Ev _ _ _ _ ⟨_,.binOp .eql _ _ _ _,_,_,_,_⟩ _;(first|exact bZ rfl rfl|exact lX rfl rfl|exact iH aUn rfl rfl|exact aCC aUn rfl|exact e9 aUn rfl rfl))|(guard_target=~Go.SL.Ev _ _ _ _ ⟨_,.binOp .neq _ _ _ _,_,_,_,_⟩ _;(first|exact eB rfl rfl|exact s7 rfl rfl|exact lL aUn rfl rfl|exact kA aUn rfl|exact aW1 aUn rfl rfl))|(guard_target=~Go.SL.Ev _ _ _ _ ⟨_,.binOp .add _ _ _ _,_,_,_,_⟩ _;exact bW rfl rfl aI aI)|(guard_target=~Go.SL.Ev _ _ _ _ ⟨_,.binOp .sub _ _ _ _,_,_,_,_⟩ _;exact kT rfl rfl aI aI)|(guard_target=~Go.SL.Ev _ _ _ _ ⟨_,.binOp .mul _ _ _ _,_,_,_,_⟩ _;exact s6 rfl rfl aI aI)|(guard_target=~Go.SL.Ev _ _ _ _ ⟨_,.binOp .lss _ _ _ _,_,_,_,_⟩ _;exact cP rfl rfl)|(guard_target=~Go.SL.Ev _ _ _ _ ⟨_,.binOp .leq _ _ _ _,_,_,_,_⟩ _;exact iW rfl rfl)|(guard_target=~Go.SL.Ev _ _ _ _ ⟨_,.binOp .gtr _ _ _ _,_,_,_,_⟩ _;exact gD rfl rfl)|(guard_target=~Go.SL.Ev _ _ _ _ ⟨_,.binOp .geq _ _ _ _,_,_,_,_⟩ _;exact iQ rfl rfl)))|(guard_target=~Go.SL.Ev _ _ _ _ ⟨_,.call ⟨.builtin _,_,_⟩,_,_,_,_⟩ _;(first|(guard_target=~Go.SL.Ev _ _ _ _ ⟨_,.call ⟨.builtin .len,_,_⟩,_,_,_,_⟩ _;exact bV rfl aUn rfl)|(guard_target=~Go.SL.Ev _ _ _ _ ⟨_,.call ⟨.builtin .min,_,_⟩,_,_,_,_⟩ _;exact qL rfl rfl)|(guard_target=~Go.SL.Ev _ _ _ _ ⟨_,.call ⟨.builtin .max,_,_⟩,_,_,_,_⟩ _;exact bHF rfl rfl)))|(guard_target=~Go.SL.Ev _ _ _ _ ⟨_,.makeFunc _ _ _,_,_,_,_⟩ _;exact fI rfl rfl)|(guard_target=~Go.SL.Ev _ _ _ _ ⟨_,.index _ _ _,_,_,_,_⟩ _;exact cZ aUn rfl rfl rfl cB)|(guard_target=~Go.SL.Ev _ _ _ _ ⟨_,.field _ _ _,_,_,_,_⟩ _;exact oM aUn rfl aTs rfl rfl)|(guard_target=~Go.SL.Ev _ _ _ _ ⟨_,.unOp .not _ _,_,_,_,_⟩ _;exact dL rfl)):p:=h
theorem zz1{p q:Prop}(h:q)(k:Wq q→p:=by intro h;(first|(guard_target=Go.SL.OL _ _ [] _ _ _ _;(first|refine aG ?_))|(guard_target=Go.SL.OL _ _ (⟨some _,_,_,_,_,none⟩::_) _ _ _ _;(first|refine aA aEv rfl ?_|refine cC (eH rfl rfl) rfl ?_|refine cC (cX aTz) rfl ?_))|(guard_target=Go.SL.OL _ _ (⟨none,_,_,_,_,none⟩::_) _ _ _ _;(first|refine cA (bP aTs rfl rfl cJ bF aZe rfl) rfl ?_))|(guard_target=Go.SL.OL _ _ _ _ _ _ _;(first|refine aT rfl rfl ?_|refine aS rfl rfl rfl ?_|refine fP rfl rfl rfl ?_))|(guard_target=Go.SL.T _ (.cond _ _ _) _ _ _ _;(first|refine cI rfl ?_|refine dS rfl ?_))|(guard_target=Go.SL.T _ _ _ _ _ _;(first|refine aH ?_|refine aC ?_|refine aW ?_|refine bG ?_|refine cM ?_|refine bB ?_))|(guard_target=Go.SL.D _ _ _ _ _ _;(first|refine aE ?_|refine aP ?_|refine aR ?_|refine a7 ?_|refine bX cB ?_|refine aY ?_|refine bC ?_|refine bU ?_|refine aO ?_|refine jY rfl ?_|refine bD rfl rfl (Hl.le_refl _) ?_|refine dK rfl (Hl.le_refl _) ?_))|(first|refine aK rfl rfl aWh rfl rfl aEv rfl ?_|refine cE rfl rfl (.off rfl rfl rfl) rfl ?_|refine cO ?_));exact h.w):p:=k ⟨h⟩
theorem zz2{p q:Prop}(h:q)(k:Wq q→p:=by intro h;(iterate 2 (refine zz1 ?_));exact h.w):p:=k ⟨h⟩
theorem zz3{p q:Prop}(h:q)(k:Wq q→p:=by intro h;(iterate 3 (refine zz1 ?_));exact h.w):p:=k ⟨h⟩
theorem zz4{p q:Prop}(h:q)(k:Wq q→p:=by intro h;(iterate 4 (refine zz1 ?_));exact h.w):p:=k ⟨h⟩
theorem zz5{p q:Prop}(h:q)(k:Wq q→p:=by intro h;(iterate 5 (refine zz1 ?_));exact h.w):p:=k ⟨h⟩
theorem zz6{p q:Prop}(h:q)(k:Wq q→p:=by intro h;(iterate 6 (refine zz1 ?_));exact h.w):p:=k ⟨h⟩
theorem zz7{p q:Prop}(h:q)(k:Wq q→p:=by intro h;(iterate 7 (refine zz1 ?_));exact h.w):p:=k ⟨h⟩
theorem zz8{p q:Prop}(h:q)(k:Wq q→p:=by intro h;(iterate 8 (refine zz1 ?_));exact h.w):p:=k ⟨h⟩
theorem zz9{p q:Prop}(h:q)(k:Wq q→p:=by intro h;(iterate 9 (refine zz1 ?_));exact h.w):p:=k ⟨h⟩
theorem zz10{p q:Prop}(h:q)(k:Wq q→p:=by intro h;(iterate 10 (refine zz1 ?_));exact h.w):p:=k ⟨h⟩
theorem zz11{p q:Prop}(h:q)(k:Wq q→p:=by intro h;(iterate 11 (refine zz1 ?_));exact h.w):p:=k ⟨h⟩
theorem zz12{p q:Prop}(h:q)(k:Wq q→p:=by intro h;(iterate 12 (refine zz1 ?_));exact h.w):p:=k ⟨h⟩
theorem zz13{p q:Prop}(h:q)(k:Wq q→p:=by intro h;(iterate 13 (refine zz1 ?_));exact h.w):p:=k ⟨h⟩
theorem zz14{p q:Prop}(h:q)(k:Wq q→p:=by intro h;(iterate 14 (refine zz1 ?_));exact h.w):p:=k ⟨h⟩
theorem zz15{p q:Prop}(h:q)(k:Wq q→p:=by intro h;(iterate 15 (refine zz1 ?_));exact h.w):p:=k ⟨h⟩
theorem zz16{p q:Prop}(h:q)(k:Wq q→p:=by intro h;(iterate 16 (refine zz1 ?_));exact h.w):p:=k ⟨h⟩
theorem zz17{p q:Prop}(h:q)(k:Wq q→p:=by intro h;(iterate 17 (refine zz1 ?_));exact h.w):p:=k ⟨h⟩
theorem zz18{p q:Prop}(h:q)(k:Wq q→p:=by intro h;(iterate 18 (refine zz1 ?_));exact h.w):p:=k ⟨h⟩
theorem zz19{p q:Prop}(h:q)(k:Wq q→p:=by intro h;(iterate 19 (refine zz1 ?_));exact h.w):p:=k ⟨h⟩
theorem zz20{p q:Prop}(h:q)(k:Wq q→p:=by intro h;(iterate 20 (refine zz1 ?_));exact h.w):p:=k ⟨h⟩
theorem zz21{p q:Prop}(h:q)(k:Wq q→p:=by intro h;(iterate 21 (refine zz1 ?_));exact h.w):p:=k ⟨h⟩
theorem zz22{p q:Prop}(h:q)(k:Wq q→p:=by intro h;(iterate 22 (refine zz1 ?_));exact h.w):p:=k ⟨h⟩
theorem zz23{p q:Prop}(h:q)(k:Wq q→p:=by intro h;(iterate 23 (refine zz1 ?_));exact h.w):p:=k ⟨h⟩
theorem zz24{p q:Prop}(h:q)(k:Wq q→p:=by intro h;(iterate 24 (refine zz1 ?_));exact h.w):p:=k ⟨h⟩
theorem zz25{p q:Prop}(h:q)(k:Wq q→p:=by intro h;(iterate 25 (refine zz1 ?_));exact h.w):p:=k ⟨h⟩
theorem zz26{p q:Prop}(h:q)(k:Wq q→p:=by intro h;(iterate 26 (refine zz1 ?_));exact h.w):p:=k ⟨h⟩
theorem zz27{p q:Prop}(h:q)(k:Wq q→p:=by intro h;(iterate 27 (refine zz1 ?_));exact h.w):p:=k ⟨h⟩
theorem zz28{p q:Prop}(h:q)(k:Wq q→p:=by intro h;(iterate 28 (refine zz1 ?_));exact h.w):p:=k ⟨h⟩
theorem zz29{p q:Prop}(h:q)(k:Wq q→p:=by intro h;(iterate 29 (refine zz1 ?_));exact h.w):p:=k ⟨h⟩
theorem zz30{p q:Prop}(h:q)(k:Wq q→p:=by intro h;(iterate 30 (refine zz1 ?_));exact h.w):p:=k ⟨h⟩
theorem zz31{p q:Prop}(h:q)(k:Wq q→p:=by intro h;(iterate 31 (refine zz1 ?_));exact h.w):p:=k ⟨h⟩
theorem zz34{p q:Prop}(h:q)(k:Wq q→p:=by intro h;(iterate 34 (refine zz1 ?_));exact h.w):p:=k ⟨h⟩
theorem zz36{p q:Prop}(h:q)(k:Wq q→p:=by intro h;(iterate 36 (refine zz1 ?_));exact h.w):p:=k ⟨h⟩
theorem zz41{p q:Prop}(h:q)(k:Wq q→p:=by intro h;(iterate 41 (refine zz1 ?_));exact h.w):p:=k ⟨h⟩
end Go.Proofs
namespace Go.Proofs
open Go Go.SL
theorem uAa{p q:Prop}(h:q)(k:Wq q→p:=by intro h;refine aU (.cons .here .nil) ?_;exact h.w):p:=k ⟨h⟩
theorem uAb{p q:Prop}(h:q)(k:Wq q→p:=by intro h;refine cA (bP ts3 rfl rfl cJ bF (.succ .zero) rfl) ?_;exact h.w):p:=k ⟨h⟩
theorem uAc{p q:Prop}(h:q)(k:Wq q→p:=by intro h;refine aA (cL aMN aB6 (.cons rfl rfl rfl (.cons .nil) (.cons rfl rfl rfl (.skip (.cons .nil)) .nil))) rfl ?_;exact h.w):p:=k ⟨h⟩
theorem uAd{p q:Prop}(h:q)(k:Wq q→p:=by intro h;refine aA (bO (k:=(bN 9)) rfl Tryz.underlying39 rfl aM) rfl ?_;exact h.w):p:=k ⟨h⟩
theorem uAe{p q:Prop}(h:q)(k:Wq q→p:=by intro h;refine aA (cL wA pO (.cons rfl rfl rfl (.cons .nil) .nil)) rfl ?_;exact h.w):p:=k ⟨h⟩
theorem uAf{p q:Prop}(h:q)(k:Wq q→p:=by intro h;refine aU (.cons (.there (.there .here)) (.cons .here .nil)) ?_;exact h.w):p:=k ⟨h⟩
theorem uAg{p q:Prop}(h:q)(k:Wq q→p:=by intro h;refine aA (dP (o:=0) (k:=(bN 9)) ts9 rfl aM cB rfl) rfl ?_;exact h.w):p:=k ⟨h⟩
theorem uAh{p q:Prop}(h:q)(k:Wq q→p:=by intro h;refine cA (bP ts9 rfl rfl cJ bF (.succ .zero) rfl) ?_;exact h.w):p:=k ⟨h⟩
theorem uAi{p q:Prop}(h:q)(k:Wq q→p:=by intro h;refine cC (pM Tryz.underlying9 Tryz.underlying130 Tryz.underlying5 rfl) rfl ?_;exact h.w):p:=k ⟨h⟩
theorem uAj{p q:Prop}(h:q)(k:Wq q→p:=by intro h;refine aU (.cons .here (.cons .here .nil)) ?_;exact h.w):p:=k ⟨h⟩
theorem uAk{p q:Prop}(h:q)(k:Wq q→p:=by intro h;refine mS rfl rfl (.none rfl) rfl (bP ts3 rfl rfl cJ bF (.succ (.succ (.succ (.succ .zero)))) rfl) ?_;exact h.w):p:=k ⟨h⟩
theorem uAl{p q:Prop}(h:q)(k:Wq q→p:=by intro h;refine aU .nil ?_;exact h.w):p:=k ⟨h⟩
theorem uAm{p q:Prop}(h:q)(k:Wq q→p:=by intro h;refine aU (.cons .here (.cons (.there .here) .nil)) ?_;exact h.w):p:=k ⟨h⟩
theorem uAn{p q:Prop}(h:q)(k:Wq q→p:=by intro h;refine cA (bP ts4 rfl rfl cJ bF (.succ (.succ (.succ (.succ (.succ .zero))))) rfl) ?_;exact h.w):p:=k ⟨h⟩
theorem uAo{p q:Prop}(h:q)(k:Wq q→p:=by intro h;refine aU (.cons .here (.cons (.there (.there .here)) (.cons (.there (.there .here)) (.cons .here (.cons .here .nil))))) ?_;exact h.w):p:=k ⟨h⟩
theorem uAp{p q:Prop}(h:q)(k:Wq q→p:=by intro h;refine aU (.cons (.there .here) (.cons .here .nil)) ?_;exact h.w):p:=k ⟨h⟩
theorem uAq{p q:Prop}(h:q)(k:Wq q→p:=by intro h;refine aU (.cons .here (.cons .here (.cons .here .nil))) ?_;exact h.w):p:=k ⟨h⟩
theorem uAr{p q:Prop}(h:q)(k:Wq q→p:=by intro h;refine aU (.cons .here (.cons (.there .here) (.cons (.there .here) .nil))) ?_;exact h.w):p:=k ⟨h⟩
theorem uAs{p q:Prop}(h:q)(k:Wq q→p:=by intro h;refine cA (bP ts3 rfl rfl cJ bF .zero rfl) ?_;exact h.w):p:=k ⟨h⟩
theorem uAt{p q:Prop}(h:q)(k:Wq q→p:=by intro h;refine aU (.cons (.there .here) (.cons (.there .here) .nil)) ?_;exact h.w):p:=k ⟨h⟩
theorem uAu{p q:Prop}(h:q)(k:Wq q→p:=by intro h;refine aA (cL aVF aH2 (.cons rfl rfl rfl (.cons .nil) .nil)) rfl ?_;exact h.w):p:=k ⟨h⟩
theorem uAv{p q:Prop}(h:q)(k:Wq q→p:=by intro h;refine aU (.cons (.there .here) .nil) ?_;exact h.w):p:=k ⟨h⟩
theorem uAw{p q:Prop}(h:q)(k:Wq q→p:=by intro h;refine aA (bO (k:=(elB 5)) rfl Tryz.underlying130 rfl aM) rfl ?_;exact h.w):p:=k ⟨h⟩
theorem uAx{p q:Prop}(h:q)(k:Wq q→p:=by intro h;refine cA (bP aFC rfl rfl cJ bF .zero rfl) ?_;exact h.w):p:=k ⟨h⟩
theorem uAy{p q:Prop}(h:q)(k:Wq q→p:=by intro h;refine cA (bP ts9 rfl rfl cJ bF .zero rfl) ?_;exact h.w):p:=k ⟨h⟩
theorem uAz{p q:Prop}(h:q)(k:Wq q→p:=by intro h;refine aG ?_;refine uAa ?_;exact h.w):p:=k ⟨h⟩
theorem uBa{p q:Prop}(h:q)(k:Wq q→p:=by intro h;refine aA (lD Tryz.underlying130 Tryz.underlying5 Tryz.underlying9 rfl aM) rfl ?_;exact h.w):p:=k ⟨h⟩
theorem uBb{p q:Prop}(h:q)(k:Wq q→p:=by intro h;refine aA (dP (o:=0) (k:=(elB 5)) ts5 rfl aM cB rfl) rfl ?_;exact h.w):p:=k ⟨h⟩
theorem uBc{p q:Prop}(h:q)(k:Wq q→p:=by intro h;refine cA (bP ts3 rfl rfl cJ bF (.succ (.succ (.succ (.succ .zero)))) rfl) ?_;exact h.w):p:=k ⟨h⟩
theorem uBd{p q:Prop}(h:q)(k:Wq q→p:=by intro h;refine aA (cL bSF bKU (.cons rfl rfl rfl (.cons .nil) (.cons rfl rfl rfl (.skip (.cons .nil)) .nil))) rfl ?_;exact h.w):p:=k ⟨h⟩
theorem uBe{p q:Prop}(h:q)(k:Wq q→p:=by intro h;refine cA (bP iS rfl rfl cJ bF (.succ (.succ (.succ (.succ .zero)))) rfl) ?_;exact h.w):p:=k ⟨h⟩
theorem uBf{p q:Prop}(h:q)(k:Wq q→p:=by intro h;refine cA (bP qJ rfl rfl cJ bF (.succ (.succ .zero)) rfl) ?_;exact h.w):p:=k ⟨h⟩
theorem uBg{p q:Prop}(h:q)(k:Wq q→p:=by intro h;refine cO ?_;refine uAa ?_;exact h.w):p:=k ⟨h⟩
theorem uBh{p q:Prop}(h:q)(k:Wq q→p:=by intro h;refine aU (.cons (.there (.there (.there .here))) (.cons .here (.cons .here (.cons .here .nil)))) ?_;exact h.w):p:=k ⟨h⟩
theorem uBi{p q:Prop}(h:q)(k:Wq q→p:=by intro h;refine bGW rfl rfl (.none rfl) rfl rfl (bP ts3 rfl rfl cJ bF (.succ (.succ (.succ .zero))) rfl) ?_;exact h.w):p:=k ⟨h⟩
theorem uBj{p q:Prop}(h:q)(k:Wq q→p:=by intro h;refine cA (bP ts9 rfl rfl cJ bF (.succ (.succ (.succ .zero))) rfl) ?_;exact h.w):p:=k ⟨h⟩
theorem uBk{p q:Prop}(h:q)(k:Wq q→p:=by intro h;refine mS rfl rfl (.none rfl) rfl (bP ts3 rfl rfl cJ bF (.succ (.succ (.succ .zero))) rfl) ?_;exact h.w):p:=k ⟨h⟩
theorem uBl{p q:Prop}(h:q)(k:Wq q→p:=by intro h;refine cA (bP jW rfl rfl cJ bF (.succ .zero) rfl) ?_;exact h.w):p:=k ⟨h⟩
theorem uBm{p q:Prop}(h:q)(k:Wq q→p:=by intro h;refine mS rfl rfl (.none rfl) rfl (bP aAH rfl rfl cJ bF (.succ (.succ .zero)) rfl) ?_;exact h.w):p:=k ⟨h⟩
theorem uBn{p q:Prop}(h:q)(k:Wq q→p:=by intro h;refine aU (.cons (.there .here) (.cons (.there .here) (.cons (.there .here) (.cons (.there .here) (.cons (.there .here) (.cons (.there .here) .nil)))))) ?_;exact h.w):p:=k ⟨h⟩
theorem uBo{p q:Prop}(h:q)(k:Wq q→p:=by intro h;refine aK rfl rfl (.none rfl) rfl rfl (fB Tryz.underlying9 rfl rfl rfl aI) rfl ?_;exact h.w):p:=k ⟨h⟩
theorem uBp{p q:Prop}(h:q)(k:Wq q→p:=by intro h;refine aU (.cons .here (.cons (.there (.there (.there (.there .here)))) (.cons (.there (.there (.there .here))) (.cons (.there .here) .nil)))) ?_;exact h.w):p:=k ⟨h⟩
theorem uBq{p q:Prop}(h:q)(k:Wq q→p:=by intro h;refine aA (aL ts4 rfl (.own .here) rfl) rfl ?_;exact h.w):p:=k ⟨h⟩
theorem uBr{p q:Prop}(h:q)(k:Wq q→p:=by intro h;refine aB5 (.cons (.there .here) (.cons .here .nil)) ?_;exact h.w):p:=k ⟨h⟩
theorem uBs{p q:Prop}(h:q)(k:Wq q→p:=by intro h;refine aA (cL bAO aRG (.cons rfl rfl rfl (.skip (.cons .nil)) .nil)) rfl ?_;exact h.w):p:=k ⟨h⟩
theorem uBt{p q:Prop}(h:q)(k:Wq q→p:=by intro h;refine cA (bP oS rfl rfl cJ bF .zero rfl) ?_;exact h.w):p:=k ⟨h⟩
theorem uBu{p q:Prop}(h:q)(k:Wq q→p:=by intro h;refine aK rfl rfl (.none rfl) rfl rfl (cL aMN aB6 (.cons rfl rfl rfl (.cons .nil) (.cons rfl rfl rfl (.skip (.cons .nil)) .nil))) rfl ?_;exact h.w):p:=k ⟨h⟩
theorem uBv{p q:Prop}(h:q)(k:Wq q→p:=by intro h;refine cA (bP ts4 rfl rfl cJ bF (.succ .zero) rfl) ?_;exact h.w):p:=k ⟨h⟩
end Go.Proofs
end
section
namespace Go.Syn
abbrev aJ:=List UInt8
def jE(c:UInt8):Bool:=(decide (97≤(c|||32).toNat)&&decide ((c|||32).toNat≤122))||decide (c.toNat=95)
def eL(c:UInt8):Bool:=decide (48≤c.toNat)&&decide (c.toNat≤57)
def dO(c:UInt8):Bool:=jE c||eL c
abbrev Res(α:Type):=Except (Int×Int) α
def l6(s:aJ):Nat→Nat→Res Nat
 |0,a=>.ok a
 |f+1,a=>
  match s[a]? with
  |none=>.ok a
  |some c=>
   if c.toNat=32∨c.toNat=9∨c.toNat=13∨c.toNat=10 then l6 s f (a+1)
   else if c.toNat=35 then l6 s f (a+((s.drop a).takeWhile fun c=>decide (¬c.toNat=10)).length)
   else if c.toNat=47 then
    if ((s[a+1]?).getD 0).toNat≠42 then .ok a
    else if Lib.index (s.drop (min (a+2) s.length)) [42,47] < 0 then .error (2,a)
    else l6 s f (a+2+(Lib.index (s.drop (min (a+2) s.length)) [42,47]).toNat+2)
   else .ok a
def skip(s:aJ)(a:Nat):Res Nat:=l6 s (s.length+1 - a) a
def mG(lo hi add c:UInt8):UInt8:=if lo.toNat≤c.toNat∧c.toNat≤hi.toNat then c+add else c
def dG(s:aJ):aJ:=s.map (mG 65 90 32)
def aP3(s:aJ):aJ:=s.map (mG 97 122 224)
def aDW(n:Int)(c:UInt8):Int:=if 2147483648 < n*10+(c.toNat - 48:Nat)then 2147483648 else n*10+(c.toNat - 48:Nat)
def eT(s:aJ)(a:Nat):aJ:=(s.drop a).takeWhile eL
def mK(ds:aJ):Int:=ds.foldl aDW 0
def numC(s:aJ)(a:Nat):Nat:=((s[a+(eT s a).length]?).getD 0).toNat
def numN(s:aJ)(a:Nat):Int:=if numC s a=77∨numC s a=109 then mK (eT s a)*1024*1024 else if numC s a=75∨numC s a=107 then mK (eT s a)*1024 else mK (eT s a)
def numA(s:aJ)(a:Nat):Nat:=if numC s a=77∨numC s a=109∨numC s a=75∨numC s a=107 then a+(eT s a).length+1 else a+(eT s a).length
def tV(s:aJ)(a:Nat)(wat:Int):Res (Nat×Int):=
 if dO ((s[numA s a]?).getD 0)=true then .error (2,wat)
 else if 2147483647 < numN s a then .error (3,wat)
 else .ok (numA s a,numN s a)
def iO(s:aJ)(wat:Int):Nat→Nat→aJ→Res (Nat×aJ)
 |0,_,_=>.error (2,wat)
 |f+1,a,acc=>
  if a < s.length∧((s[a]?).getD 0).toNat=34 then .ok (a+1,acc)
  else if ((s[a]?).getD 0).toNat=92 then
   if s.length≤a+1 then .error (2,wat)else iO s wat f (a+2) (acc++[(s[a+1]?).getD 0])
  else if s.length≤a then .error (2,wat)else iO s wat f (a+1) (acc++[(s[a]?).getD 0])
def quoted(s:aJ)(a:Nat)(wat:Int):Res (Nat×aJ):=iO s wat (s.length+1 - a) (a+1) []
structure Word where
 kind:Nat
 s:aJ
 n:Int
 at_:Int
def fO(c:UInt8):Bool:=decide (c.toNat=59∨c.toNat=44∨c.toNat=40∨c.toNat=41∨c.toNat=123∨c.toNat=125∨c.toNat=91∨c.toNat=93)
def kY(s:aJ)(a:Nat):aJ:=(s.drop a).takeWhile dO
def mT(s:aJ)(a:Nat)(c:UInt8):Res (Nat×Word):=
 if fO c=true then .ok (a+1,⟨5,[c],0,a⟩)
 else if c.toNat=34 then
  match quoted s a a with
  | .error e=>.error e
  | .ok r=>.ok (r.1,⟨3,r.2,0,a⟩)
 else if c.toNat=58 then
  if jE ((s[a+1]?).getD 0)=true then .ok (a+1+(kY s (a+1)).length,⟨2,dG (kY s (a+1)),0,a⟩)
  else .error (2,a)
 else if jE c=true then .ok (a+(kY s a).length,⟨1,dG (kY s a),0,a⟩)
 else if eL c=true then
  match tV s a a with
  | .error e=>.error e
  | .ok r=>.ok (r.1,⟨4,[],r.2,a⟩)
 else .error (2,a)
def next(s:aJ)(a:Nat):Res (Nat×Word):=
 match skip s a with
 | .error e=>.error e
 | .ok a1=>
  match s[a1]? with
  |none=>.ok (a1,⟨0,[],0,a1⟩)
  |some c=>mT s a1 c
def dR(xs:List aJ)(x:aJ):Int:=match xs.findIdx? (fun y=>decide (x=y))with
 |some i=>i
 |none=> -1
abbrev St:=Nat×Word
def take(s:aJ)(st:St)(k:Nat)(texts:List aJ):Res (Word×St):=
 if st.2.kind≠k∨(texts≠[]∧st.2.s∉texts)then .error (4,st.2.at_)
 else match next s st.1 with
  | .error e=>.error e
  | .ok r=>.ok (st.2,r)
def eat(s:aJ)(st:St)(x:aJ):Res (Bool×St):=
 if st.2.kind=5∧st.2.s=x then
  match next s st.1 with
  | .error e=>.error e
  | .ok r=>.ok (true,r)
 else .ok (false,st)
def sign(s:aJ)(st:St)(x:aJ):Res St:=
 match take s st 5 [x]with
 | .error e=>.error e
 | .ok r=>.ok r.2
def text(s:aJ)(st:St)(ff:aJ→Int):Res (aJ×St):=
 if st.2.kind=3∧ff st.2.s≠0 then .error (ff st.2.s,st.2.at_)
 else match take s st 3 []with
  | .error e=>.error e
  | .ok r=>.ok (r.1.s,r.2)
end Go.Syn
end
section
namespace Go.Proofs
open Go Go.SL Go.Syn
theorem lN{b c:Bool}(h:b=c)(K:Hl):Val (.bool c) K (.returned (.bool b)) K []:=⟨by rw[h],rfl,rfl⟩
end Go.Proofs
end
section
namespace Go.SL
theorem In.start(w:World):In w .emp (hp w) [] w:=
 ⟨rfl,rfl,rfl,Nat.le_refl _,.emp,rfl,(Hl.dj_emp _).symm,Hl.dj_emp _,Hl.dj_emp _,(fun _ _ e=>by cases e),Hl.le_refl _,(fun _ _ e=>by cases e)⟩
theorem In.below{w w':World}{K':Hl}{L:List Asn}(le:(hp w).le K')(i:In w .emp K' L w'):RowKit.Below w.heap.size w w':=by
 refine⟨i.os,i.tape,i.output,i.size,fun k hk=>?_⟩
 have h:=le k w.heap[k] (by simp[hp,hk]);rw[i.known h];simp[hk]
theorem kN{P:Program}{f:FuncId}{args:List Value}{w:World}{v:Value}(h:Sp P f args (hp w) [] (Ret fun u _ _=>u=v)):
  Calls P f args.toArray w fun e w'=>e=.returned v∧RowKit.Below w.heap.size w w':=
 (h.2 .emp w (In.start w)).mono fun _ _ ⟨_,_,⟨u,he,hu⟩,le,j⟩=>⟨by rw[he,hu],j.below le⟩
theorem nQ{P:Program}{f:FuncId}{args:List Value}{K:Hl}{v:Value}(hb:∃fn,P.funcs[f]?=some fn∧(fn.name== "runtime.NumGoroutine")=false∧fn.body.isSome=true)
  (h:∀w,K.le (hp w)→Calls P f args.toArray w fun e w'=>e=.returned v∧RowKit.Below w.heap.size w w'):Sp P f args K [] (Val v K):=by
 refine⟨hb,fun F w i=>?_⟩
 obtain⟨x,hs,d1,d2,d3,l1,l2,l3⟩:=i.rep;refine(h w l2).mono fun e w' ⟨he,hbl⟩=>?_;have up:∀ {k:Hl},k.le (hp w)→k.le (hp w'):=by
  intro k hk b o e;have hlt:b < w.heap.size:=by
   have:=hk b o e;simp only[hp]at this;rcases Nat.lt_or_ge b w.heap.size with h|h
   ·exact h
   simp[Array.getElem?_eq_none h]at this
  have:=hk b o e;simp only[hp]at this ⊢;rw[hbl.block b hlt];exact this
 exact⟨K,[],⟨he,rfl,rfl⟩,Hl.le_refl _,hbl.os,hbl.tape,hbl.output,hbl.size,x,hs,d1,d2,d3,up l1,up l2,up l3⟩
theorem pD{P:Program}{f:FuncId}{args:List Value}{K:Hl}{v:Value}(hb:∃fn,P.funcs[f]?=some fn∧(fn.name== "runtime.NumGoroutine")=false∧fn.body.isSome=true)
  (h:∀w,K.le (hp w)→Calls P f args.toArray w fun e w'=>e=.returned v∧w'=w):Sp P f args K [] (Val v K):=
 nQ hb fun w hw=>(h w hw).mono fun e w' ⟨he,hw'⟩=>⟨he,by subst hw';exact RowKit.Below.refl _ _⟩
end Go.SL
end
section
namespace Go.Proofs
open Go.Shelf
def Tryz.lays119_ren:Go.Shelf.Ren:=⟨fun|119=>322|n=>n,fun|21=>21|4=>4|n=>n,fun|n=>n⟩
theorem Tryz.lays119 : Go.Proofs.Lays.n119 Tryz.prog Tryz.lays119_ren := {
 mixed:=by kernel_rfl
 f119:=Tryz.func322.trans (congrArg some bJ)
 t4:=Tryz.underlying4
 a4:=Tryz.isAgg4
 z4:=Tryz.sizeOf4
 v4:=Tryz.zeroValue4
 t21:=Tryz.underlying21
 a21:=Tryz.isAgg21
 z21:=Tryz.sizeOf21
 v21:=Tryz.zeroValue21}
theorem Tryz.utf8_ValidRune(r:Int)(w:World):
  Calls Tryz.prog 322 #[.int .i32 r] w fun e w'=>e=.returned (.bool (Lib.validRune r))∧w'=w:=Any.utf8_ValidRune Tryz.lays119 r w
def Tryz.lays137_ren:Go.Shelf.Ren:=⟨fun|137=>308|217=>335|266=>353|n=>n,fun|9=>9|5=>5|3=>3|n=>n,fun|n=>n⟩
theorem Tryz.lays137 : Go.Proofs.Lays.n137 Tryz.prog Tryz.lays137_ren := {
 mixed:=by kernel_rfl
 f137:=Tryz.func308.trans (congrArg some bJ)
 f217:=Tryz.func335.trans (congrArg some bJ)
 f266:=Tryz.func353.trans (congrArg some bJ)
 t3:=Tryz.underlying3
 a3:=Tryz.isAgg3
 z3:=Tryz.sizeOf3
 v3:=Tryz.zeroValue3
 t5:=Tryz.underlying5
 a5:=Tryz.isAgg5
 z5:=Tryz.sizeOf5
 v5:=Tryz.zeroValue5
 t9:=Tryz.underlying9
 a9:=Tryz.isAgg9
 z9:=Tryz.sizeOf9
 v9:=Tryz.zeroValue9}
open Go.RowKit in
theorem Tryz.strings_IndexByte(s:ByteArray)(c:Int)(w:World):
  Calls Tryz.prog 308 #[.string s,.int .u8 c] w fun e w'=>e=.returned (.int .i64 (Lib.indexByte s.data.toList c.toNat.toUInt8))∧w'=w:=Any.strings_IndexByte Tryz.lays137 s c w
def Tryz.laysM171_ren:Go.Shelf.Ren:=⟨fun|171=>129|243=>223|246=>293|283=>325|284=>326|285=>327|286=>328|129=>240|317=>346|318=>347|319=>348|320=>349|337=>362|338=>363|n=>n,fun|3=>3|9=>9|2=>2|4=>4|171=>444|0=>0|53=>345|37=>130|5=>5|173=>446|212=>475|51=>350|20=>20|213=>476|46=>257|232=>510|233=>511|n=>n,fun|17=>2|18=>5|19=>6|n=>n⟩
theorem Tryz.laysM171 : Go.Proofs.LaysM.n171 Tryz.prog Tryz.laysM171_ren := {
 mixed:=by kernel_rfl
 f129:=Tryz.func240.trans (congrArg some bJ)
 f171:=Tryz.func129.trans (congrArg some bJ)
 f243:=Tryz.func223.trans (congrArg some bJ)
 f246:=Tryz.func293.trans (congrArg some bJ)
 f283:=Tryz.func325.trans (congrArg some bJ)
 f284:=Tryz.func326.trans (congrArg some bJ)
 f285:=Tryz.func327.trans (congrArg some bJ)
 f286:=Tryz.func328.trans (congrArg some bJ)
 f317:=Tryz.func346.trans (congrArg some bJ)
 f318:=Tryz.func347.trans (congrArg some bJ)
 f319:=Tryz.func348.trans (congrArg some bJ)
 f320:=Tryz.func349.trans (congrArg some bJ)
 f337:=Tryz.func362.trans (congrArg some bJ)
 f338:=Tryz.func363.trans (congrArg some bJ)
 t0:=Tryz.underlying0
 a0:=Tryz.isAgg0
 z0:=Tryz.sizeOf0
 v0:=Tryz.zeroValue0
 t2:=Tryz.underlying2
 a2:=Tryz.isAgg2
 z2:=Tryz.sizeOf2
 v2:=Tryz.zeroValue2
 t3:=Tryz.underlying3
 a3:=Tryz.isAgg3
 z3:=Tryz.sizeOf3
 v3:=Tryz.zeroValue3
 t4:=Tryz.underlying4
 a4:=Tryz.isAgg4
 z4:=Tryz.sizeOf4
 v4:=Tryz.zeroValue4
 t5:=Tryz.underlying5
 a5:=Tryz.isAgg5
 z5:=Tryz.sizeOf5
 v5:=Tryz.zeroValue5
 t9:=Tryz.underlying9
 a9:=Tryz.isAgg9
 z9:=Tryz.sizeOf9
 v9:=Tryz.zeroValue9
 t20:=Tryz.underlying20
 a20:=Tryz.isAgg20
 z20:=Tryz.sizeOf20
 v20:=Tryz.zeroValue20
 t37:=Tryz.underlying130
 a37:=Tryz.isAgg130
 z37:=Tryz.sizeOf130
 v37:=Tryz.zeroValue130
 t46:=Tryz.underlying257
 a46:=Tryz.isAgg257
 z46:=Tryz.sizeOf257
 v46:=Tryz.zeroValue257
 t51:=Tryz.underlying350
 a51:=Tryz.isAgg350
 z51:=Tryz.sizeOf350
 v51:=Tryz.zeroValue350
 t53:=Tryz.underlying345
 a53:=Tryz.isAgg345
 z53:=Tryz.sizeOf345
 v53:=Tryz.zeroValue345
 t171:=Tryz.underlying444
 a171:=Tryz.isAgg444
 z171:=Tryz.sizeOf444
 v171:=Tryz.zeroValue444
 t173:=Tryz.underlying446
 a173:=Tryz.isAgg446
 z173:=Tryz.sizeOf446
 v173:=Tryz.zeroValue446
 t212:=Tryz.underlying475
 a212:=Tryz.isAgg475
 z212:=Tryz.sizeOf475
 v212:=Tryz.zeroValue475
 t213:=Tryz.underlying476
 a213:=Tryz.isAgg476
 z213:=Tryz.sizeOf476
 t232:=Tryz.underlying510
 a232:=Tryz.isAgg510
 z232:=Tryz.sizeOf510
 v232:=Tryz.zeroValue510
 t233:=Tryz.underlying511
 a233:=Tryz.isAgg511
 z233:=Tryz.sizeOf511
 v233:=Tryz.zeroValue511
 g17:=by kernel_rfl
 g18:=by kernel_rfl
 g19:=by kernel_rfl
 i0:=by kernel_rfl
 i2:=by kernel_rfl
 i3:=by kernel_rfl
 i4:=by kernel_rfl
 i5:=by kernel_rfl
 i9:=by kernel_rfl
 i20:=by kernel_rfl
 i37:=by kernel_rfl
 i46:=by kernel_rfl
 i51:=by kernel_rfl
 i53:=by kernel_rfl
 i171:=by kernel_rfl
 i173:=by kernel_rfl
 i212:=by kernel_rfl
 i232:=by kernel_rfl
 i233:=by kernel_rfl
 m17:=by kernel_rfl
 m18:=by kernel_rfl
 m19:=by kernel_rfl}
open Go.RowKit Go.Sort Go.Lib in
theorem Tryz.strconv_Itoa(n:Int)(h0: -9223372036854775808≤n)(h1:n≤9223372036854775807)(w:World)(htab:Lib.TabIs Tryz.prog w "internal/strconv.uint64pow10" .u64 Lib.pow10Tab):
  Calls Tryz.prog 129 #[.int .i64 n] w fun e w'=>e=.returned (.string ⟨(Lib.itoa n).toArray⟩)∧∃k os,w'=grow (w.drewN k) os:=Any.strconv_Itoa Tryz.laysM171 n h0 h1 w htab
def Tryz.lays152_ren:Go.Shelf.Ren:=⟨fun|152=>289|137=>308|119=>322|224=>323|225=>324|217=>335|266=>353|n=>n,fun|9=>9|21=>21|3=>3|4=>4|5=>5|0=>0|46=>257|n=>n,fun|n=>n⟩
theorem Tryz.lays152 : Go.Proofs.Lays.n152 Tryz.prog Tryz.lays152_ren := {
 mixed:=by kernel_rfl
 f119:=Tryz.func322.trans (congrArg some bJ)
 f137:=Tryz.func308.trans (congrArg some bJ)
 f152:=Tryz.func289.trans (congrArg some bJ)
 f217:=Tryz.func335.trans (congrArg some bJ)
 f224:=Tryz.func323.trans (congrArg some bJ)
 f225:=Tryz.func324.trans (congrArg some bJ)
 f266:=Tryz.func353.trans (congrArg some bJ)
 t0:=Tryz.underlying0
 a0:=Tryz.isAgg0
 z0:=Tryz.sizeOf0
 v0:=Tryz.zeroValue0
 t3:=Tryz.underlying3
 a3:=Tryz.isAgg3
 z3:=Tryz.sizeOf3
 v3:=Tryz.zeroValue3
 t4:=Tryz.underlying4
 a4:=Tryz.isAgg4
 z4:=Tryz.sizeOf4
 v4:=Tryz.zeroValue4
 t5:=Tryz.underlying5
 a5:=Tryz.isAgg5
 z5:=Tryz.sizeOf5
 v5:=Tryz.zeroValue5
 t9:=Tryz.underlying9
 a9:=Tryz.isAgg9
 z9:=Tryz.sizeOf9
 v9:=Tryz.zeroValue9
 t21:=Tryz.underlying21
 a21:=Tryz.isAgg21
 z21:=Tryz.sizeOf21
 v21:=Tryz.zeroValue21
 t46:=Tryz.underlying257
 a46:=Tryz.isAgg257
 z46:=Tryz.sizeOf257
 v46:=Tryz.zeroValue257}
open Go.RowKit Go.Lib in
theorem Tryz.strings_IndexRune_ascii(s:ByteArray)(r:Int)(w:World)(h0:0≤r)(h1:r < 128):
  Calls Tryz.prog 289 #[.string s,.int .i32 r] w fun e w'=>e=.returned (.int .i64 (Lib.indexByte s.data.toList r.toNat.toUInt8))∧w'=w:=Any.strings_IndexRune_ascii Tryz.lays152 s r w h0 h1
def Tryz.lays226_ren:Go.Shelf.Ren:=⟨fun|226=>290|n=>n,fun|3=>3|4=>4|n=>n,fun|n=>n⟩
theorem Tryz.lays226 : Go.Proofs.Lays.n226 Tryz.prog Tryz.lays226_ren := {
 mixed:=by kernel_rfl
 f226:=Tryz.func290.trans (congrArg some bJ)
 t3:=Tryz.underlying3
 a3:=Tryz.isAgg3
 z3:=Tryz.sizeOf3
 v3:=Tryz.zeroValue3
 t4:=Tryz.underlying4
 a4:=Tryz.isAgg4
 z4:=Tryz.sizeOf4
 v4:=Tryz.zeroValue4}
open Go.RowKit Go.Lib in
theorem Tryz.strings_shouldUseASCIISet(n:Int)(w:World):
  Calls Tryz.prog 290 #[.int .i64 n] w fun e w'=>e=.returned (.bool (decide (8 < n)))∧w'=w:=Any.strings_shouldUseASCIISet Tryz.lays226 n w
end Go.Proofs
end
section
namespace Go.Proofs
open Go Go.SL Go.Syn
structure Glob (K:Hl):Prop where
 maxLen:∃m T fz,K 1=some (aZ [i64 m] T fz)
 pow10:∀w,K.le (hp w)→Lib.TabIs Tryz.prog w "internal/strconv.uint64pow10" .u64 Lib.pow10Tab
end Go.Proofs
end
section
attribute [local irreducible] Go.SL.T Go.SL.OL Go.SL.D Go.SL.DL Go.SL.Ev Go.SL.Ef Go.SL.EfS
namespace Go.Proofs
open Go Go.SL
theorem xZ:unsB Tryz.prog 132 2=true:=by kernel_rfl
theorem aM3:Tryz.prog.cellsOf 5=1:=by kernel_rfl
abbrev aDH(b:Nat)(q:Bool)(v:Value):Asn:=pt b (aZ [if q then ptr b else .pointer none,v] 132)
abbrev bldr(b:Nat)(xs:List UInt8):Asn:=exA fun v:Value=>[exA fun q:Bool=>[aDH b q v],sl true (elB 5) v xs]
theorem bFX(b:Nat):∀h,pt b (aZ [.pointer none,.slice none 0 0] 132) h→Sat [bldr b []] h:=by
 intro h hh;refine oW.2 ⟨.slice none 0 0,oW.2 ⟨false,h,.emp,hh,⟨.emp,.emp,.inl ⟨rfl,rfl,rfl⟩,rfl,Hl.dj_emp _,(Hl.join_emp _).symm⟩,Hl.dj_emp _,(Hl.join_emp _).symm⟩⟩
theorem aFH(b:Nat)(v:Value)(xs:List UInt8):∀h,Sat [aDH b true v,sl true (elB 5) v xs] h→Sat [bldr b xs] h:=by
 intro h hh;exact oW.2 ⟨v,oW.2 ⟨true,hh⟩⟩
theorem aFI(b:Nat):∀h,pt b (aZ [.pointer none,.slice none 0 0] 132) h→bldr b [] h:=by
 intro h hh;obtain⟨a,l,ha,hl,hd,he⟩:=bFX b h hh;rw[he,show l=.emp from hl,Hl.join_emp];exact ha
theorem fH{A B:Asn}{M:List Asn}(k:∀h,A h→B h):∀h,Sat (A::M) h→Sat (B::M) h:=fun h ⟨a,l,ha,hl,hd,he⟩=>⟨a,l,k a ha,hl,hd,he⟩
theorem pV(b:Nat)(q:Bool)(v:Value)(K:Hl):Sp Tryz.prog 196 [ptr b] K [aDH b q v] (Ret fun u K' L'=>u=.tuple #[]∧K'=K∧L'=[aDH b true v]):=by
 cases q with
 |true=>
  refine a8 Tryz.func196 rfl Tryz.ntmps196 rfl rfl fun F w=>?_;refine zz17 ?_;refine aA (aHF Tryz.underlying129 xZ rfl rfl) rfl ?_;refine zz5 ?_;exact⟨_,rfl,rfl,rfl,rfl⟩
 |false=>
  refine a8 Tryz.func196 rfl Tryz.ntmps196 rfl rfl fun F w=>?_;refine zz13 ?_;refine aA (aSU Tryz.underlying129 Tryz.underlying185 rfl (.own .here) xZ) rfl ?_;refine aA (oK rfl rfl Tryz.func272 bJ bJ bJ (ex:=Extern.AbiNoEscape.same) bJ (fun _ _=>rfl)) rfl ?_;refine aA (aMI Tryz.underlying185 Tryz.underlying129 rfl (.own .here) xZ) rfl ?_;refine zz2 ?_;refine cA (bP aH4 rfl rfl cJ bF .zero rfl) ?_;rintro _ K _ ⟨rfl,rfl⟩ -;refine zz2 ?_;exact⟨_,rfl,rfl,rfl,rfl⟩
theorem mE(b:Nat)(s:List UInt8)(xs:List UInt8)(hn:xs.length+s.length≤140737488351232)(K:Hl):Sp Tryz.prog 109 [ptr b,str s] K [bldr b xs] (Ret fun u K' L'=>u=.tuple #[i64 s.length,.nilIface]∧K'=K∧L'=[bldr b (xs++s)]):=by
 refine a8 Tryz.func109 rfl Tryz.ntmps109 rfl rfl fun F w=>?_;refine vY fun v=>vY fun q=>?_;refine zz9 ?_;refine aX rfl rfl (pV b q v _) (.cons .here .nil) rfl ?_;rintro _ K _ ⟨rfl,rfl,rfl⟩ -;refine zz10 ?_;refine cC (dN (k:=(elB 5)) (ys:=s) rN rfl rfl bF (fun _ _=>aC2 Tryz.underlying9) aI aI) rfl ?_;rintro v14 K _ ⟨rfl,rfl,ho14⟩ -;refine zz2 ?_;refine uBl ?_;rintro _ K _ ⟨rfl,rfl⟩ -;refine zz11 ?_;refine uAp ?_;refine fK (aFH b v14 (xs++s)) ?_;refine fA rfl rfl rfl (Hl.le_refl _) ?_;exact⟨_,rfl,rfl,rfl,rfl⟩
theorem pU(b:Nat)(xs:List UInt8)(hn:xs.length≤140737488351232)(K:Hl):Sp Tryz.prog 63 [ptr b] K [bldr b xs] (Ret fun u K' L'=>u=str xs∧K'=K∧L'=[]):=by
 refine a8 Tryz.func63 rfl Tryz.ntmps63 rfl rfl fun F w=>?_;refine vY fun v=>vY fun q=>?_;refine zz6 ?_;refine dD (anc:=[0,1,3,7,15,0,32,96,224,480,1023,2047]) (ord:=[0,1,2,3,4,5,6,7,8,9,10,11]) [10] [10] mixed gAH (dI _) ?_;refine zz4 ?_;refine aK rfl rfl (.none rfl) rfl rfl (aD3 (e:=5) rfl (.there .here)) rfl ?_;refine zz4 ?_;refine aK rfl rfl (.none rfl) rfl rfl (bO (k:=(elB 5)) rfl Tryz.underlying130 rfl aM) rfl ?_;refine aSJ rfl rfl (.none rfl) rfl (zS (e:=5) rfl Tryz.underlying227 aM3 aI rfl rfl (.there .here)) rfl ?_;rintro _ K _ ⟨rfl,rfl,rfl⟩ -;refine zz4 ?_;refine uAl ?_;refine zz1 ?_;exact⟨_,rfl,rfl,rfl,rfl⟩
end Go.Proofs
end
section
namespace Go.Syn
open Go.Proofs
def wl(w:Word):Nat:=if w.kind=0 then 0 else if w.kind=1 then max 1 w.s.length else 1
def mu(s:aJ)(st:St):Nat:=(s.length - st.1)+min (wl st.2) (s.length+1)
def pY(s:aJ)(ff:aJ→Int):Nat→St→List aJ→Res (List aJ×St)
 |0,_,_=>.error (0,0)
 |f+1,st,acc=>
  match eat s st [44]with
  | .error e=>.error e
  | .ok r=>
   if r.1=true then
    match text s r.2 ff with
    | .error e=>.error e
    | .ok x=>pY s ff f x.2 (acc++[x.1])
   else
    match sign s r.2 [93]with
    | .error e=>.error e
    | .ok q=>.ok (acc,q)
def list(s:aJ)(st:St)(ff:aJ→Int):Res (List aJ×St):=
 match eat s st [91]with
 | .error e=>.error e
 | .ok r=>
  match text s r.2 ff with
  | .error e=>.error e
  | .ok x=>if r.1=true then pY s ff (mu s x.2+1) x.2 [x.1]else .ok ([x.1],x.2)
def named(s:aJ):Bool:=s.all dO&&(decide (s≠[])&&!eL ((s[0]?).getD 0))
def oneOf(e:Int)(texts:List aJ)(x:aJ):Int:=if x∈texts then 0 else e
structure SetC where
 name:aJ
 value:aJ
 tag:Int
def mO:aJ:=[108,111,119,101,114]
def mR:aJ:=[117,112,112,101,114]
def kV:aJ:=[108,101,110,103,116,104]
def dB:aJ:=[118,97,114,105,97,98,108,101,115]
def pB(s:aJ)(st:St):Res (Int×St):=
 if st.2.kind=2 then
  if dR [mO,mR,kV] st.2.s= -1 then .error (4,st.2.at_)
  else match next s st.1 with
   | .error e=>.error e
   | .ok r=>.ok (1+dR [mO,mR,kV] st.2.s,r)
 else .ok (0,st)
def oX(s:aJ)(t:Int×St):Res (SetC×St):=
 match text s t.2 (fun x=>if named x=true then 0 else 7)with
 | .error e=>.error e
 | .ok n=>
  match text s n.2 (fun _=>0)with
  | .error e=>.error e
  | .ok v=>
   match sign s v.2 [59]with
   | .error e=>.error e
   | .ok q=>.ok (⟨dG n.1,v.1,t.1⟩,q)
def setC(s:aJ)(needs:List aJ)(st:St):Res (SetC×St):=
 if dB∈needs then
  match next s st.1 with
  | .error e=>.error e
  | .ok r=>
   match pB s r with
   | .error e=>.error e
   | .ok t=>oX s t
 else .error (6,st.2.at_)
def Ok(s:aJ)(st:St):Prop:=st.1≤s.length∧st.2.s.length≤s.length
end Go.Syn
end
section
namespace Go.Syn
inductive Tree where
 |const (b:Bool)
 |not_ (t:Tree)
 |many (all:Bool) (l:Tree)
 |mat (tag:Int) (octet:Bool) (op:Int) (a b:List aJ)
 |exi (a:List aJ)
 |siz (tag n:Int)
 |tnil
 |tcons (t l:Tree)
 |plain (op:Int)
 |act (kind:Int) (arg:aJ) (at_:Int)
 |set_ (name value:aJ) (tag:Int)
 |iff (bs:Tree)
 |cnil
 |ccons (c l:Tree)
 |bnil
 |bcons (t body l:Tree)
 |belse (body l:Tree)
def wf:Tree→Nat→Bool
 | .const _,k=>k==0
 | .not_ t,k=>k==0&&wf t 0
 | .many _ l,k=>k==0&&wf l 1
 | .mat _ _ _ _ _,k=>k==0
 | .exi _,k=>k==0
 | .siz _ _,k=>k==0
 | .tnil,k=>k==1
 | .tcons t l,k=>k==1&&(wf t 0&&wf l 1)
 | .plain _,k=>k==2
 | .act _ _ _,k=>k==2
 | .set_ _ _ _,k=>k==2
 | .iff bs,k=>k==2&&wf bs 4
 | .cnil,k=>k==3
 | .ccons c l,k=>k==3&&(wf c 2&&wf l 3)
 | .bnil,k=>k==4
 | .bcons t b l,k=>k==4&&(wf t 0&&(wf b 3&&wf l 4))
 | .belse b l,k=>k==4&&(wf b 3&&wf l 4)
def Tree.snocT:Tree→Tree→Tree
 | .tcons t l,x=>.tcons t (l.snocT x)
 |_,x=>.tcons x .tnil
def Tree.snocC:Tree→Tree→Tree
 | .ccons t l,x=>.ccons t (l.snocC x)
 |_,x=>.ccons x .cnil
def mkB(t:Option Tree)(body l:Tree):Tree:=match t with
 |some t=>.bcons t body l
 |none=>.belse body l
def Tree.snocB:Tree→Option Tree→Tree→Tree
 | .bcons t b l,x,y=>.bcons t b (l.snocB x y)
 | .belse b l,x,y=>.belse b (l.snocB x y)
 |_,x,y=>mkB x y .bnil
def txIs:aJ:=[105,115]
def nT:aJ:=[99,111,110,116,97,105,110,115]
def lB:aJ:=[109,97,116,99,104,101,115]
def lJ:aJ:=[99,111,109,112,97,114,97,116,111,114]
def gY:aJ:=[105,59,111,99,116,101,116]
def jH:aJ:=[105,59,97,115,99,105,105,45,99,97,115,101,109,97,112]
def fF:aJ:=[101,110,118,101,108,111,112,101]
def uF:aJ:=[111,118,101,114]
def mQ:aJ:=[117,110,100,101,114]
def eG:List aJ:=[txIs,nT,lB,lJ]
structure How where
 cmp:Bool
 tag:Int
 oct:Bool
def iL(s:aJ):Nat→How→St→Res (How×St)
 |0,_,_=>.error (0,0)
 |f+1,h,st=>
  if st.2.kind=2 then
   if dR eG st.2.s= -1 then .error (4,st.2.at_)
   else if (dR eG st.2.s=3∧h.cmp=true)∨(dR eG st.2.s < 3∧h.tag≠0)then .error (7,st.2.at_)
   else if dR eG st.2.s < 3 then
    match next s st.1 with
    | .error e=>.error e
    | .ok r=>iL s f ⟨h.cmp,1+dR eG st.2.s,h.oct⟩ r
   else
    match next s st.1 with
    | .error e=>.error e
    | .ok r=>
     match text s r (oneOf 7 [gY,jH])with
     | .error e=>.error e
     | .ok x=>iL s f ⟨true,h.tag,decide (x.1=gY)⟩ x.2
  else .ok (h,st)
def qA(op:Int):aJ→Int:=if op=7 then fun x=>oneOf 7 [[102,114,111,109],[116,111]] (dG x)else fun _=>0
def pZ(s:aJ)(op:Int)(h:Res (How×St)):Res (Tree×St):=
 match h with
 | .error e=>.error e
 | .ok h=>
  match list s h.2 (qA op)with
  | .error e=>.error e
  | .ok a=>
   match list s a.2 (fun _=>0)with
   | .error e=>.error e
   | .ok b=>.ok (.mat (if 1>h.1.tag then 1 else h.1.tag) h.1.oct op a.1 b.1,b.2)
def mN(s:aJ)(needs:List aJ)(op:Int)(ext:aJ)(st:St):Res (Tree×St):=
 if ext≠[]∧ext∉needs then .error (6,st.2.at_)
 else match next s st.1 with
  | .error e=>.error e
  | .ok r=>pZ s op (iL s (mu s r+1) ⟨false,0,false⟩ r)
def lG(s:aJ)(c:Tree)(st:St):Res (Tree×St):=
 match next s st.1 with
 | .error e=>.error e
 | .ok r=>
  match sign s r [59]with
  | .error e=>.error e
  | .ok q=>.ok (c,q)
def actC(s:aJ)(needs:List aJ)(kind:Int)(ext:aJ)(at_:Int)(st:St):Res (Tree×St):=
 if ext≠[]∧ext∉needs then .error (6,st.2.at_)
 else match next s st.1 with
  | .error e=>.error e
  | .ok r=>
   match take s r 3 []with
   | .error e=>.error e
   | .ok x=>
    match sign s x.2 [59]with
    | .error e=>.error e
    | .ok q=>.ok (.act kind x.1.s at_,q)
def oI(s:aJ)(b:Bool)(st:St):Res (Tree×St):=
 match next s st.1 with
 | .error e=>.error e
 | .ok r=>.ok (.const b,r)
def oU(s:aJ)(st:St):Res (Tree×St):=
 match next s st.1 with
 | .error e=>.error e
 | .ok r=>
  match list s r (fun _=>0)with
  | .error e=>.error e
  | .ok a=>.ok (.exi a.1,a.2)
def tY(s:aJ)(st:St):Res (Tree×St):=
 match next s st.1 with
 | .error e=>.error e
 | .ok r=>
  match take s r 2 [uF,mQ]with
  | .error e=>.error e
  | .ok x=>
   match take s x.2 4 []with
   | .error e=>.error e
   | .ok y=>.ok (.siz (if x.1.s=mQ then 2 else 1) y.1.n,y.2)
def notC(s:aJ)(T:St→Res (Tree×St))(st:St):Res (Tree×St):=
 match next s st.1 with
 | .error e=>.error e
 | .ok r=>
  match T r with
  | .error e=>.error e
  | .ok t=>.ok (.not_ t.1,t.2)
def rK(s:aJ)(T:St→Res (Tree×St)):Nat→Tree→St→Res (Tree×St)
 |0,_,_=>.error (0,0)
 |f+1,acc,st=>
  match eat s st [44]with
  | .error e=>.error e
  | .ok r=>
   if r.1=true then
    match T r.2 with
    | .error e=>.error e
    | .ok t=>rK s T f (acc.snocT t.1) t.2
   else
    match sign s r.2 [41]with
    | .error e=>.error e
    | .ok q=>.ok (acc,q)
def aA8(all:Bool)(l:Res (Tree×St)):Res (Tree×St):=
 match l with
 | .error e=>.error e
 | .ok l=>.ok (.many all l.1,l.2)
def qH(s:aJ)(T:St→Res (Tree×St))(all:Bool)(st:St):Res (Tree×St):=
 match next s st.1 with
 | .error e=>.error e
 | .ok r=>
  match sign s r [40]with
  | .error e=>.error e
  | .ok q=>
   match T q with
   | .error e=>.error e
   | .ok t=>
    aA8 all (rK s T (mu s t.2+1) (.tcons t.1 .tnil) t.2)
def rZ:aJ:=[116,114,117,101]
def lT:aJ:=[102,97,108,115,101]
def yH:aJ:=[110,111,116]
def nC:aJ:=[97,108,108,111,102]
def nD:aJ:=[97,110,121,111,102]
def oT:aJ:=[104,101,97,100,101,114]
def uG:aJ:=[115,116,114,105,110,103]
def wI:aJ:=[101,120,105,115,116,115]
def xY:aJ:=[115,105,122,101]
def qI(s:aJ)(needs:List aJ)(T:St→Res (Tree×St))(st:St):Option (Res (Tree×St)):=
 let w:=st.2.s
 if w=rZ then some (oI s true st)
 else if w=lT then some (oI s false st)
 else if w=yH then some (notC s T st)
 else if w=nC then some (qH s T true st)
 else if w=nD then some (qH s T false st)
 else if w=oT then some (mN s needs 6 [] st)
 else if w=fF then some (mN s needs 7 fF st)
 else if w=uG then some (mN s needs 8 dB st)
 else if w=wI then some (oU s st)
 else if w=xY then some (tY s st)
 else none
def test(s:aJ)(needs:List aJ):Nat→St→Res (Tree×St)
 |0,st=>if st.2.kind=1 then .error (5,st.2.at_)else .error (4,st.2.at_)
 |n+1,st=>
  if st.2.kind=1 then
   match qI s needs (test s needs n) st with
   |some r=>r
   |none=>.error (4,st.2.at_)
  else .error (4,st.2.at_)
def bodyC(s:aJ)(B:St→Res (Tree×St))(st:St):Res (Tree×St):=
 match sign s st [123]with
 | .error e=>.error e
 | .ok q=>
  match B q with
  | .error e=>.error e
  | .ok b=>
   match sign s b.2 [125]with
   | .error e=>.error e
   | .ok r=>.ok (b.1,r)
def nE:aJ:=[101,108,115,105,102]
def mC:aJ:=[101,108,115,101]
def nH(s:aJ)(B:St→Res (Tree×St))(acc:Tree)(st:St):Res (Tree×St):=
 if st.2.kind=1∧st.2.s=mC then
  match next s st.1 with
  | .error e=>.error e
  | .ok r=>
   match bodyC s B r with
   | .error e=>.error e
   | .ok b=>.ok (.iff (acc.snocB none b.1),b.2)
 else .ok (.iff acc,st)
def iV(s:aJ)(T B:St→Res (Tree×St)):Nat→Tree→St→Res (Tree×St)
 |0,_,_=>.error (0,0)
 |f+1,acc,st=>
  if st.2.kind=1∧st.2.s=nE then
   match next s st.1 with
   | .error e=>.error e
   | .ok r=>
    match T r with
    | .error e=>.error e
    | .ok t=>
     match bodyC s B t.2 with
     | .error e=>.error e
     | .ok b=>iV s T B f (acc.snocB (some t.1) b.1) b.2
  else nH s B acc st
def ifC(s:aJ)(T B:St→Res (Tree×St))(st:St):Res (Tree×St):=
 match next s st.1 with
 | .error e=>.error e
 | .ok r=>
  match T r with
  | .error e=>.error e
  | .ok t=>
   match bodyC s B t.2 with
   | .error e=>.error e
   | .ok b=>iV s T B (mu s b.2+1) (.bcons t.1 b.1 .bnil) b.2
def vG:aJ:=[107,101,101,112]
def kS:aJ:=[100,105,115,99,97,114,100]
def mP:aJ:=[115,116,111,112]
def fG:aJ:=[102,105,108,101,105,110,116,111]
def nU:aJ:=[114,101,100,105,114,101,99,116]
def eW:aJ:=[114,101,106,101,99,116]
def aH6:aJ:=[115,101,116]
def txIf:aJ:=[105,102]
def yF(s:aJ)(needs:List aJ)(st:St):Res (Tree×St):=
 match setC s needs st with
 | .error e=>.error e
 | .ok r=>.ok (.set_ r.1.name r.1.value r.1.tag,r.2)
def cmdD(s:aJ)(needs:List aJ)(T B:St→Res (Tree×St))(st:St):Option (Res (Tree×St)):=
 let w:=st.2.s
 if w=vG then some (lG s (.act 1 [] st.2.at_) st)
 else if w=kS then some (lG s (.plain 13) st)
 else if w=mP then some (lG s (.plain 14) st)
 else if w=fG then some (actC s needs 2 fG st.2.at_ st)
 else if w=nU then some (actC s needs 3 [] st.2.at_ st)
 else if w=eW then some (actC s needs 4 eW st.2.at_ st)
 else if w=aH6 then some (yF s needs st)
 else if w=txIf then some (ifC s T B st)
 else none
def kI(s:aJ)(C:St→Option (Res (Tree×St))):Nat→Tree→St→Res (Tree×St)
 |0,_,_=>.error (0,0)
 |f+1,acc,st=>
  if st.2.kind=1 then
   match C st with
   |none=>.error (4,st.2.at_)
   |some (.error e)=>.error e
   |some (.ok c)=>kI s C f (acc.snocC c.1) c.2
  else .ok (acc,st)
def block(s:aJ)(needs:List aJ):Nat→St→Res (Tree×St)
 |0,st=>if st.2.kind=1 then .error (5,st.2.at_)else .ok (.cnil,st)
 |n+1,st=>kI s (cmdD s needs (test s needs n) (block s needs n)) (mu s st+1) .cnil st
end Go.Syn
end
section
namespace Go.Syn
open Go Go.SL
def u0:Cell:=⟨.nilIface,rfl⟩
def Rep(K:Hl):Tree→List (Cell×Cell)→Prop
 | .const b,us=>us=[(⟨.iface 289 (.bool b),rfl⟩,u0)]
 | .not_ t,us=>∃v,Rep K t [(v,u0)]∧us=[(⟨.iface 293 (.agg #[v.1]),rfl⟩,u0)]
 | .many all l,us=>∃xs sv,Rep K l xs∧Ksl (e7 288) K sv (xs.map (·.1))∧us=[(⟨.iface 376 (.agg #[.bool all,sv]),rfl⟩,u0)]
 | .mat tag oct op a b,us=>∃va vb,Ksl (bN 9) K va a∧Ksl (bN 9) K vb b∧us=[(⟨.iface 380 (.agg #[i64 tag,.bool oct,i64 op,va,vb]),rfl⟩,u0)]
 | .exi a,us=>∃va,Ksl (bN 9) K va a∧us=[(⟨.iface 297 (.agg #[va]),rfl⟩,u0)]
 | .siz tag n,us=>us=[(⟨.iface 300 (.agg #[i64 tag,i64 n]),rfl⟩,u0)]
 | .tnil,us=>us=[]
 | .tcons t l,us=>∃v xs,Rep K t [(v,u0)]∧Rep K l xs∧us=(v,u0)::xs
 | .plain op,us=>us=[(⟨.iface 285 (.agg #[i64 op]),rfl⟩,u0)]
 | .act k a p,us=>us=[(⟨.iface 282 (.agg #[i64 k,str a,i64 p]),rfl⟩,u0)]
 | .set_ n v t,us=>us=[(⟨.iface 308 (.agg #[str n,str v,i64 t]),rfl⟩,u0)]
 | .iff bs,us=>∃xs sv,Rep K bs xs∧Ksl (kJ 371) K sv xs∧us=[(⟨.iface 311 (.agg #[sv]),rfl⟩,u0)]
 | .cnil,us=>us=[]
 | .ccons t l,us=>∃v xs,Rep K t [(v,u0)]∧Rep K l xs∧us=(v,u0)::xs
 | .bnil,us=>us=[]
 | .bcons t b l,us=>∃v ys sv xs,Rep K t [(v,u0)]∧(∃ty u,v.1=.iface ty u)∧Rep K b ys∧Ksl (e7 224) K sv.1 (ys.map (·.1))∧Rep K l xs∧us=(v,sv)::xs
 | .belse b l,us=>∃ys sv xs,Rep K b ys∧Ksl (e7 224) K sv.1 (ys.map (·.1))∧Rep K l xs∧us=(⟨.nilIface,rfl⟩,sv)::xs
theorem Rep.mono{K K':Hl}(le:K.le K'):∀ {t:Tree} {us:List (Cell×Cell)},Rep K t us→Rep K' t us:=by
 intro t;induction t with
 |const b=>intro us h;exact h
 |not_ t ih=>rintro us ⟨v,h,e⟩;exact⟨v,ih h,e⟩
 |many all l ih=>rintro us ⟨xs,sv,h1,h2,e⟩;exact⟨xs,sv,ih h1,h2.mono le,e⟩
 |mat tag oct op a b=>rintro us ⟨va,vb,h1,h2,e⟩;exact⟨va,vb,h1.mono le,h2.mono le,e⟩
 |exi a=>rintro us ⟨va,h1,e⟩;exact⟨va,h1.mono le,e⟩
 |siz tag n=>intro us h;exact h
 |tnil=>intro us h;exact h
 |tcons t l ih1 ih2=>rintro us ⟨v,xs,h1,h2,e⟩;exact⟨v,xs,ih1 h1,ih2 h2,e⟩
 |plain op=>intro us h;exact h
 |act k a p=>intro us h;exact h
 |set_ n v t=>intro us h;exact h
 |iff bs ih=>rintro us ⟨xs,sv,h1,h2,e⟩;exact⟨xs,sv,ih h1,h2.mono le,e⟩
 |cnil=>intro us h;exact h
 |ccons t l ih1 ih2=>rintro us ⟨v,xs,h1,h2,e⟩;exact⟨v,xs,ih1 h1,ih2 h2,e⟩
 |bnil=>intro us h;exact h
 |bcons t b l ih1 ih2 ih3=>rintro us ⟨v,ys,sv,xs,h1,h2,h3,h4,h5,e⟩;exact⟨v,ys,sv,xs,ih1 h1,h2,ih2 h3,h4.mono le,ih3 h5,e⟩
 |belse b l ih1 ih2=>rintro us ⟨ys,sv,xs,h1,h2,h3,e⟩;exact⟨ys,sv,xs,ih1 h1,h2.mono le,ih2 h3,e⟩
def Rep1(K:Hl)(t:Tree)(v:Value):Prop:=∃ty u,v=.iface ty u∧Rep K t [(⟨.iface ty u,rfl⟩,u0)]
theorem Rep1.mono{K K':Hl}{t:Tree}{v:Value}(h:Rep1 K t v)(le:K.le K'):Rep1 K' t v:=let ⟨a,b,e,r⟩:=h;⟨a,b,e,r.mono le⟩
def isCL:Tree→Bool
 | .cnil=>true
 | .ccons _ l=>isCL l
 |_=>false
end Go.Syn
end
section
namespace Go.Proofs
open Go Go.SL Go.Syn
theorem Glob.mono{K K':Hl}(h:Glob K)(le:K.le K'):Glob K':=⟨let ⟨m,T,fz,e⟩:=h.maxLen;⟨m,T,fz,le _ _ e⟩,fun w l=>h.pow10 w (Hl.le_trans le l)⟩
end Go.Proofs
end
section
namespace Go.Syn
def Adv{α:Type}(s:aJ)(T:St→Res (α×St)):Prop:=∀st r,Ok s st→T st=.ok r→Ok s r.2∧mu s r.2 < mu s st
def AdvN{α:Type}(s:aJ)(T:St→Res (α×St)):Prop:=∀st r,Ok s st→st.2.kind≠0→T st=.ok r→Ok s r.2∧mu s r.2 < mu s st
theorem Adv.n{α:Type}{s:aJ}{T:St→Res (α×St)}(h:Adv s T):AdvN s T:=fun st r hok _ e=>h st r hok e
variable{s:aJ}
end Go.Syn
namespace Go.Syn
variable{s:aJ}
def dY:aJ:=[114,101,113,117,105,114,101]
def rY:List aJ:=[fF,fG,eW,dB]
def addN(ns:List aJ)(e:aJ):List aJ:=if e∈ns then ns else ns++[e]
def gL(ns l:List aJ):List aJ:=l.foldl addN ns
def reqF(s:aJ):Nat→List aJ→St→Res (List aJ×St)
 |0,_,_=>.error (0,0)
 |f+1,ns,st=>
  if st.2.kind=1∧st.2.s=dY then
   match next s st.1 with
   | .error e=>.error e
   | .ok r=>
    match list s r (oneOf 6 rY)with
    | .error e=>.error e
    | .ok l=>
     match sign s l.2 [59]with
     | .error e=>.error e
     | .ok q=>reqF s f (gL ns l.1) q
  else .ok (ns,st)
def jL(s:aJ)(n:Res (List aJ×St)):Res (List aJ×Tree):=
 match n with
 | .error e=>.error e
 | .ok n=>
  match block s n.1 7 n.2 with
  | .error e=>.error e
  | .ok b=>if b.2.2.kind=0 then .ok (n.1,b.1)else .error (4,b.2.2.at_)
def eD(s:aJ):Res (List aJ×Tree):=
 match next s 0 with
 | .error e=>.error e
 | .ok r=>jL s (reqF s (mu s r+1) [] r)
end Go.Syn
end
section
namespace Go.Proofs
open Go Go.SL Go.Syn
structure PK (s:List UInt8) (needs:List (List UInt8)) (nv:Value) (K:Hl):Prop where
 hs:s.length≤600
 hg:Glob K
 hv:Ksl (bN 9) K nv needs
 hn:needs.length≤1000000
theorem PK.mono{s:List UInt8}{needs:List (List UInt8)}{nv:Value}{K K':Hl}(h:PK s needs nv K)(le:K.le K'):PK s needs nv K':=⟨h.hs,h.hg.mono le,h.hv.mono le,h.hn⟩
end Go.Proofs
end
section
set_option maxRecDepth 4000
namespace Go.Proofs
open Go Go.SL Go.Syn
abbrev fnV(f:FuncId):Value:=.func (.func f) #[] #[]
abbrev simV(c:Nat):Value:=.func (.func 259) #[] #[ptr c]
abbrev actV(c d:Nat):Value:=.func (.func 260) #[] #[ptr c,ptr d]
structure Tabs (K:Hl) (cb tb:Nat):Prop where
 cmds:∃c1 c2 c3 d1 e1 d2 e2 d3 e3,K cb=some (mapO [(vG,simV c1,0),(kS,simV c2,1),(mP,simV c3,2),(fG,actV d1 e1,3),(nU,actV d2 e2,4),(eW,actV d3 e3,5),(aH6,fnV 163,6),(txIf,fnV 164,7)] 8)∧
  K c1=some (aZ [fnV 159] 283)∧K c2=some (aZ [fnV 160] 283)∧K c3=some (aZ [fnV 161] 283)∧
  K d1=some (aZ [str fG] 9)∧K e1=some (aZ [i64 2] 3)∧K d2=some (aZ [str []] 9)∧K e2=some (aZ [i64 3] 3)∧K d3=some (aZ [str eW] 9)∧K e3=some (aZ [i64 4] 3)
 tests:K tb=some (mapO [(rZ,fnV 165,0),(lT,fnV 166,1),(yH,fnV 167,2),(nC,fnV 169,3),(nD,fnV 171,4),(oT,fnV 172,5),(fF,fnV 174,6),(uG,fnV 175,7),(wI,fnV 176,8),(xY,fnV 178,9)] 10)
theorem Tabs.mono{K K':Hl}{cb tb:Nat}(h:Tabs K cb tb)(le:K.le K'):Tabs K' cb tb:=
 ⟨let ⟨c1,c2,c3,d1,e1,d2,e2,d3,e3,h0,h1,h2,h3,h4,h5,h6,h7,h8,h9⟩:=h.cmds;⟨c1,c2,c3,d1,e1,d2,e2,d3,e3,le _ _ h0,le _ _ h1,le _ _ h2,le _ _ h3,le _ _ h4,le _ _ h5,le _ _ h6,le _ _ h7,le _ _ h8,le _ _ h9⟩,le _ _ h.tests⟩
end Go.Proofs
end
section
namespace Go.Proofs
open Go Go.SL Go.Syn
theorem j7(k k':List UInt8)(v:Value)(c:Nat)(es:List Ent):mget ((k',v,c)::es) k=if k=k' then some v else mget es k:=by
 unfold mget;rw[List.find?_cons]
 by_cases h:k=k'
 ·subst h;simp
 simp[h]
structure PE (s:List UInt8) (needs:List (List UInt8)) (nv:Value) (cb tb:Nat) (K:Hl):Prop where
 pk:PK s needs nv K
 tabs:Tabs K cb tb
theorem PE.mono{s:List UInt8}{needs:List (List UInt8)}{nv:Value}{cb tb:Nat}{K K':Hl}(h:PE s needs nv cb tb K)(le:K.le K'):PE s needs nv cb tb K':=⟨h.pk.mono le,h.tabs.mono le⟩
structure ScriptAt (K:Hl) (b:Nat) (needs:List (List UInt8)) (t:Tree):Prop where
 at_:∃l nv bv ys fz,K b=some (aZ l 208 fz)∧l[6]?=some nv∧l[7]?=some bv∧Ksl (bN 9) K nv needs∧Ksl (e7 224) K bv (ys.map Prod.fst)∧Rep K t ys∧isCL t=true
end Go.Proofs
end
section
namespace Go.SL.R
def Yl(P:Program)(l:Nat)(vs:List Value)(K:Hl)(L:List Asn)(R:Bool→Hl→List Asn→Prop):Prop:=
 ∀F w,In w F K L w→∃fn tmps assign body,(Instr.yield l vs.toArray).run P w=.ok (.round l fn tmps assign body) w∧
  RoundIn Fence.wide 0 P l fn tmps assign body w fun e w'=>∃b K' L',e=.returned (.bool b)∧R b K' L'∧K.le K'∧In w F K' L' w'
end Go.SL.R
end
section
namespace Go.SL
open R (Yl)
abbrev mrk(D:Nat):Deferred:={target:=.collected D,args:= #[]}
section
variable{E:Env}{fr:Fr}{K:Hl}{L L1 L2:List Asn}{Q:Post}
abbrev Env.mark(E:Env)(D:Nat):Env:=⟨E.P,E.n,mrk D::E.ds,E.w0,E.F⟩
end
end Go.SL
namespace Go.Loop
abbrev on(r:Loop):Loop:={r with state:=.ready,pending:=none}
abbrev off(r:Loop)(c:Code):Loop:={r with state:=.done,pending:=some c}
end Go.Loop
namespace Go.SL
open R (Yl)
section
variable{E:Env}{fr:Fr}{K:Hl}{L:List Asn}{Q:Post}{c:Code}
theorem aRA(h:T E c fr K L (Exit.noGoto Q)):T E (.scope c) fr K L Q:=fun a w f i=>wp_scope_straight (h a w f i)
theorem rG(h:D E .ret fr K L Q):D E .ret fr K L (Exit.noGoto Q):=h
end
end Go.SL
end
section
namespace Go.SL
abbrev itr(b:Nat)(l:List UInt8)(p:Nat):Asn:=pt b (.stringIter ⟨l.toArray⟩ p)
abbrev dec(l:List UInt8)(p:Nat):Nat×Nat:=Utf8.decode ⟨l.toArray⟩ p
section
variable{E:Env}{fr:Fr}{K:Hl}{L L':List Asn}{dst:Option Tmp}{ty:TypeId}{pos:String}{aft:Array Edge}{g:Option (Nat×Bool)}{x:Operand}{t:TypeId}{l:List UInt8}{b p:Nat}
theorem aLI(hu:E.P.underlying t=some .string)(hx:fr.ev x=some (str l)):EfS E fr K L ⟨dst,.range t x,ty,pos,aft,g⟩ (fun v K' L'=>∃b,v=ptr b∧K'=K∧L'=itr b l 0::L):=by
 intro a w f i;refine⟨ptr w.heap.size,w.iter ⟨l.toArray⟩ 0,K,itr w.heap.size l 0::L,.inl ?_,⟨_,rfl,rfl,rfl⟩,Hl.le_refl _,i.alloc _⟩
 simp only[execOp,f.ev hx,bind];exact aV (run_range_string w t ⟨l.toArray⟩ hu)
theorem aLG(hp:p < l.length)(hx:fr.ev x=some (ptr b))(hT:Fnd (itr b l p) (itr b l (p+(dec l p).2)) L L'):
  EfS E fr K L ⟨dst,.next x true,ty,pos,aft,g⟩ (fun v K' L''=>v=.tuple #[.bool true,i64 p,.int .i32 (dec l p).1]∧K'=K∧L''=L'):=by
 intro a w f i;have hb:=i.mem hT;have hp':p < (⟨l.toArray⟩:ByteArray).size:=by simpa[ByteArray.size]using hp
 refine⟨_,w.iterAt b ⟨l.toArray⟩ (p+(dec l p).2),K,L',.inl ?_,⟨rfl,rfl,rfl⟩,Hl.le_refl _,?_⟩
 ·simp only[execOp,f.ev hx,bind];exact aV (Lib.run_next_any_at w b ⟨l.toArray⟩ p ty hb hp')
 have hlt:b < w.heap.size:=(Array.getElem?_eq_some_iff.1 hb).1;exact i.writeAt hT (H:=w.heap.setIfInBounds b (.stringIter ⟨l.toArray⟩ (p+(dec l p).2))) (by simp) (by simp[hlt]) (fun y hy=>by rw[Array.getElem?_setIfInBounds_ne (Ne.symm hy)])
theorem aOD(hp:¬p < l.length)(hx:fr.ev x=some (ptr b))(hT:Hs (itr b l p) L):
  EfS E fr K L ⟨dst,.next x true,ty,pos,aft,g⟩ (fun v K' L''=>v=.tuple #[.bool false]∧K'=K∧L''=L):=by
 intro a w f i;have hb:=(Sees.own (K:=K) hT).at i;have hp':¬p < (⟨l.toArray⟩:ByteArray).size:=by simpa[ByteArray.size]using hp
 refine⟨_,w,K,L,.inl ?_,⟨rfl,rfl,rfl⟩,Hl.le_refl _,i⟩
 simp only[execOp,f.ev hx,bind];exact aV (Lib.run_next_end_at w b ⟨l.toArray⟩ p ty hb hp')
end
theorem bFT(l:List UInt8)(p:Nat)(h:p < l.length):(⟨l.toArray⟩:ByteArray).get! p=l[p]:=by
 have hps:p < (⟨l.toArray⟩:ByteArray).size:=by simpa[ByteArray.size]using h
 have:=get_at ⟨l.toArray⟩ p hps;rw[Nat.add_zero]at this;rw[this];rfl
theorem bQU{l:List UInt8}{p:Nat}{c:UInt8}(hc:l[p]?=some c)(h:c.toNat < 128):dec l p=(c.toNat,1):=by
 have hp:p < l.length:=by
  rcases Nat.lt_or_ge p l.length with h'|h'
  ·exact h'
  rw[List.getElem?_eq_none h']at hc;cases hc
 have hcl:l[p]=c:=by rw[List.getElem?_eq_getElem hp]at hc;exact Option.some.inj hc
 have hps:p < (⟨l.toArray⟩:ByteArray).size:=by simpa[ByteArray.size]using hp
 have e:(⟨l.toArray⟩:ByteArray)[p]'hps=c:=hcl;have:=decode_ascii ⟨l.toArray⟩ p hps (by rw[e];exact h);rw[e]at this;exact this
theorem bQT{l:List UInt8}{p:Nat}{c:UInt8}(hc:l[p]?=some c)(h:128≤c.toNat):
  128≤(dec l p).1∧(dec l p).1≤2147483647∧1≤(dec l p).2∧p+(dec l p).2≤l.length∧∀j d,p≤j→j < p+(dec l p).2→l[j]?=some d→128≤d.toNat:=by
 have hp:p < l.length:=by
  rcases Nat.lt_or_ge p l.length with h'|h'
  ·exact h'
  rw[List.getElem?_eq_none h']at hc;cases hc
 have hcl:l[p]=c:=by rw[List.getElem?_eq_getElem hp]at hc;exact Option.some.inj hc
 have hps:p < (⟨l.toArray⟩:ByteArray).size:=by simpa[ByteArray.size]using hp
 have hsz:(⟨l.toArray⟩:ByteArray).size=l.length:=by simp[ByteArray.size]
 have e:(⟨l.toArray⟩:ByteArray)[p]'hps=c:=hcl;have h1:=decode_high ⟨l.toArray⟩ p hps (by rw[e];exact h);have h2:=decode_le ⟨l.toArray⟩ p;refine⟨h1.1,h2,h1.2,?_⟩
 have hb0:((⟨l.toArray⟩:ByteArray).get! (p+0)).toNat=c.toNat:=by rw[Nat.add_zero,bFT l p hp,hcl]
 have cont:∀k,p+k < l.length→((⟨l.toArray⟩:ByteArray).get! (p+k)).toNat / 64=2→∀d,l[p+k]?=some d→128≤d.toNat:=by
  intro k hk hq d hd;rw[bFT l _ hk]at hq;rw[List.getElem?_eq_getElem hk]at hd;cases hd;omega
 have key:∀n,(∀k,1≤k→k < n→p+k < l.length∧((⟨l.toArray⟩:ByteArray).get! (p+k)).toNat / 64=2)→1≤n→(dec l p).2=n→p+(dec l p).2≤l.length∧∀j d,p≤j→j < p+(dec l p).2→l[j]?=some d→128≤d.toNat:=by
  intro n hk hn he;rw[he];refine⟨?_,fun j d hj hj2 hd=>?_⟩
  ·rcases Nat.lt_or_ge 1 n with h3|h3
   ·have:=(hk (n - 1) aI aI).1;omega
   omega
  rcases Nat.lt_or_ge p j with h3|h3
  ·obtain⟨q1,q2⟩:=hk (j - p) aI aI;have ej:p+(j - p)=j:=by omega
   exact cont (j - p) q1 q2 d (by rw[ej];exact hd)
  have:j=p:=by omega
  subst this;rw[hc]at hd;cases hd;exact h
 have hn:¬(((⟨l.toArray⟩:ByteArray).get! (p+0)).toNat < 128):=by rw[hb0];omega
 have hone:(dec l p).2=1→p+(dec l p).2≤l.length∧∀j d,p≤j→j < p+(dec l p).2→l[j]?=some d→128≤d.toNat:=key 1 (fun k h1 h2=>by omega) (Nat.le_refl _);obtain⟨D,hD⟩:∃D,D=Utf8.decode ⟨l.toArray⟩ p:=⟨_,rfl⟩;have hD2:dec l p=D:=hD.symm;rw[hD2]at key hone ⊢;have unf:=hD;simp only[Utf8.decode,hn,if_false]at unf;split at unf
 ·rename_i hq;simp only[Bool.and_eq_true,beq_iff_eq,decide_eq_true_eq,hsz]at hq;split at unf
  ·exact key 2 (fun k k1 k2=>by have h1:k=1:=aI;rw[h1];exact hq.2) aI (by rw[unf])
  exact hone (by rw[unf])
 split at unf
 ·rename_i hq;simp only[Bool.and_eq_true,beq_iff_eq,decide_eq_true_eq,hsz]at hq;split at unf
  ·exact key 3 (fun k k1 k2 => by
    rcases(show k=1∨k=2 by omega)with rfl|rfl
    ·exact hq.1.2
    exact hq.2) aI (by rw[unf])
  exact hone (by rw[unf])
 split at unf
 ·rename_i hq;simp only[Bool.and_eq_true,beq_iff_eq,decide_eq_true_eq,hsz]at hq;split at unf
  ·exact key 4 (fun k k1 k2 => by
    rcases(show k=1∨k=2∨k=3 by omega)with rfl|rfl|rfl
    ·exact hq.1.1.2
    ·exact hq.1.2
    exact hq.2) aI (by rw[unf])
  exact hone (by rw[unf])
 exact hone (by rw[unf])
section
variable{E:Env}{fr:Fr}{K:Hl}{L:List Asn}{L':Nat→List Asn}{dst:Option Tmp}{ty:TypeId}{pos:String}{aft:Array Edge}{g:Option (Nat×Bool)}{x:Operand}{t t2:TypeId}{l:List UInt8}{b p:Nat}{c:UInt8}
theorem jF{α:Type}{l:List α}{p:Nat}{c:α}(hc:l[p]?=some c):p < l.length:=by
 rcases Nat.lt_or_ge p l.length with h'|h'
 ·exact h'
 rw[List.getElem?_eq_none h']at hc;cases hc
theorem aUO(hc:l[p]?=some c)(h:c.toNat < 128)(hx:fr.ev x=some (ptr b))(hT:∀n,Fnd (itr b l p) (itr b l (p+n)) L (L' n)):
  EfS E fr K L ⟨dst,.next x true,ty,pos,aft,g⟩ (fun v K' L''=>v=.tuple #[.bool true,i64 p,.int .i32 c.toNat]∧K'=K∧L''=L' 1):=by
 intro a w f i;have hd:=bQU hc h;have:=aLG (dst:=dst) (ty:=ty) (pos:=pos) (aft:=aft) (g:=g) (jF hc) hx (hT (dec l p).2) a w f i;rw[hd]at this;exact this
theorem bJ3(hc:l[p]?=some c)(h:128≤c.toNat)(hx:fr.ev x=some (ptr b))(hT:∀n,Fnd (itr b l p) (itr b l (p+n)) L (L' n)):
  EfS E fr K L ⟨dst,.next x true,ty,pos,aft,g⟩ (fun v K' L''=>∃r n:Nat,v=.tuple #[.bool true,i64 p,.int .i32 r]∧K'=K∧L''=L' n∧128≤r∧r≤2147483647∧1≤n∧p+n≤l.length∧∀j d,p≤j→j < p+n→l[j]?=some d→128≤d.toNat):=by
 intro a w f i;obtain⟨d1,d2,d3,d4,d5⟩:=bQT hc h;obtain⟨u,w',K',L'',hr,⟨hv,hK,hL⟩,le,j⟩:=aLG (dst:=dst) (ty:=ty) (pos:=pos) (aft:=aft) (g:=g) (jF hc) hx (hT (dec l p).2) a w f i;exact⟨u,w',K',L'',hr,⟨_,_,hv,hK,hL,d1,d2,d3,d4,d5⟩,le,j⟩
def rL(r:Int):List UInt8:=(Utf8.encode r).data.toList
theorem aPU{k':IntKind}{r:Int}(hs:E.P.underlying t=some (.int k'))(hd:E.P.underlying t2=some .string)(hx:fr.ev x=some (.int .i32 r)):
  Ev E fr K L ⟨dst,.convert t t2 x,ty,pos,aft,g⟩ (str (rL r)):=fun a w f j=>by
 simp only[execOp,f.ev hx];refine eR ?_;unfold convert;rw[aV (run_underlying hs w),aV (run_underlying hd w)]
 show Result.ok (Value.string (Utf8.encode _)) w=_
 simp[rL]
theorem bJ0(r:Int)(h:128≤r):2≤(rL r).length∧(rL r).length≤4∧∃c,(rL r)[(rL r).length - 1]?=some c∧128≤c.toNat:=by
 unfold rL Utf8.encode;have hc:128≤(if Utf8.valid r then r.toNat else Utf8.runeError):=by
  split
  ·omega
  decide
 generalize (if Utf8.valid r then r.toNat else Utf8.runeError)=c at hc
 have hb:∀n:Nat,128≤(UInt8.ofNat (0x80+n % 64)).toNat:=by
  intro n;simp;omega
 simp only[if_neg (show ¬c < 0x80 by omega)];split
 ·exact⟨by simp,by simp,_,rfl,hb _⟩
 split
 ·exact⟨by simp,by simp,_,rfl,hb _⟩
 exact⟨by simp,by simp,_,rfl,hb _⟩
end
end Go.SL
end

/-
  What the proof stands on, part 7: the logic of walks, the walks through the functions, the plain laws. Conditions: as each theorem says. (Merged and shortened by a program.)
-/
import Derived.Test.YthopmddkpdehiabGreatDoorK6
set_option linter.unusedVariables false
set_option linter.unusedSimpArgs false
set_option linter.defProp false
set_option maxRecDepth 4000
set_option maxHeartbeats 1000000
namespace Go
def gA8{p:Prop}(h:p:=by refine aQ (aM bW (aM cI (aM cI (aM cI (aM cI (aM cI bF)))))) ?_;exact eF (i+1) (xs++[m.to_]) _ ⟨by omega,by rw[mU hn,←hi1];unfold jL;rw[if_neg h20,if_pos h30],by simp;omega⟩ aH aS Y (fun _ h=>h)):p:=h
def gA9{p:Prop}(h:p:=by refine aQ (aM bW (aM cI (aM cI (aM cI (aM cI (aM cI bF)))))) ?_;exact eF (i+1) (xs++[m.from_]) _ ⟨by omega,by rw[mU hn,←hi1];unfold jL;rw[if_pos h20],by simp;omega⟩ aH aS Y (fun _ h=>h)):p:=h
def gAQ{p:Prop}(h:p:=by refine aQ (.cons .here (.cons (.there .here) (jF _ _))) ?_;refine uJ fun hsl=>?_;exact fH (k+1) e (dn++[(v.take e).drop i]) _ ⟨by omega,he2,by simp;omega,hsl,qs,by rw[hee];exact hgq,by rw[hrest,hqs,hee,List.append_assoc];rfl⟩ aH (.cons 0 Y (.cons 11 Y (.cons 13 Y (.cons 14 Y (.cons 15 Y (.cons 16 Y .nil)))))) Y (fun _ h=>h)):p:=h
def gAR{p:Prop}(h:p:=by refine aQ (.cons .here (.cons (.there .here) (jF _ _))) ?_;refine uJ fun hsl=>?_;exact fH (k+1) (i+1) (dn++[(v.take (i+1)).drop i]) _ ⟨by omega,by omega,by simp;omega,hsl,qs,hgq,by rw[hrest,hqs,List.append_assoc];rfl⟩ aH (.cons 0 Y (.cons 11 Y (.cons 13 Y (.cons 14 Y (.cons 15 Y (.cons 16 Y .nil)))))) Y (fun _ h=>h)):p:=h
def gB2{p:Prop}(h:p:=by rcases hi2 with ⟨_,hi2⟩|⟨n,hn1,hn2,_⟩;exact cW (i+1) (i:Int) ⟨by omega,hb2,.inr ⟨i,rfl,by omega,by unfold is64;rw[hc];exact(show c.toNat=64 by omega),fun j hj hji=>hi2 j aH⟩⟩ aH aS Y (fun _ h=>h);exfalso;exact absurd hn1 aH):p:=h
def gB8{p:Prop}(h:p:=by refine aQ (aM bW (aM cI (aM cI (aM cI (aM cI (aM cI bF)))))) ?_;exact eF (k+1) _ _ ⟨by omega,by rw[rZ hx,if_pos h46,←List.append_assoc,←hk1],by simp;omega⟩ aH aS Y (fun _ h=>h)):p:=h
def gBQ{p:Prop}(h:p:=by exact cW (i+1) a ⟨by omega,hb2,hi2.elim (fun h=>.inl ⟨h.1,fun j hj=>by rcases Nat.lt_or_ge j i with h3|h3;exact h.2 j h3;(have e:j=i:=by omega);subst e;exact hn64⟩) (fun⟨n,h1,h2,h3,h4⟩=>.inr ⟨n,h1,by omega,h3,fun j hj hjn=>by rcases Nat.lt_or_ge j i with h5|h5;exact h4 j h5 hjn;(have e:j=i:=by omega);subst e;exact hn64⟩)⟩ aH aS Y (fun _ h=>h)):p:=h
def gCJ{p:Prop}(h:p:=by have ho:oct=false:=(by revert h21;cases oct <;> simp);subst ho;exact a8 () trivial (.cons 0 Y (.cons 2 Y (.cons 10 Y (.cons 11 Y .nil)))) Y (fun _ h=>h)):p:=h
def gCK{p:Prop}(h:p:=by have ho:oct=true:=(by revert h21;cases oct <;> simp);subst ho;exact a8 () trivial (.cons 0 Y (.cons 2 Y (.cons 10 Y (.cons 11 Y .nil)))) Y (fun _ h=>h)):p:=h
def gCS{p:Prop}(h:p:=by rw[hq,List.take_of_length_le aH];exact⟨_,Y,Y,Y,Y⟩):p:=h
def gD0{p:Prop}(h:p:=by refine congrArg (fun x=>some (Value.bool x)) ?_;rw[g17];first|rfl|(rw[decide_eq_true (show c.toNat=64 by omega)];rfl)|(rw[decide_eq_false (show ¬c.toNat=64 by omega)];rfl)):p:=h
def gD7{p:Prop}(h:p:=by refine congrArg (fun x=>some (Value.bool x)) ?_;first|(rw[hc,decide_eq_decide];exact⟨fun h=>⟨by omega,fun h2=>h (by have h3:c.toNat=125:=h2;omega)⟩,fun h h2=>h.2 (show c.toNat=125 by omega)⟩)|(symm;exact decide_eq_false (fun h=>absurd h.1 aH))):p:=h
def gDE{p:Prop}(h:p:=by refine congrArg (fun x=>some (Value.bool x)) ?_;rw[hd];first|(symm;exact decide_eq_false (fun h=>absurd h.1 aH))|(rw[decide_eq_decide];exact⟨fun h=>⟨by omega,show d.toNat=123 by omega⟩,fun h=>by have h3:d.toNat=123:=h.2;omega⟩)|(symm;exact decide_eq_false (fun h=>by have h3:(0:UInt8).toNat=123:=h.2;exact absurd h3 (by decide)))):p:=h
def gDH{p:Prop}(h:p:=by unfold hZ;rw[←tU];simp only[Bool.or_eq_true,Bool.and_eq_true,decide_eq_true_eq];first|(left;left;left;simpa using g22;done)|(left;left;right;simpa using g26;done)|(left;right;omega)|(right;omega)):p:=h
def gDK{p:Prop}(h:p:=by refine congrArg (fun x=>some (Value.bool x)) ?_;first|(rw[decide_eq_decide];omega)|(symm;exact decide_eq_false aH)):p:=h
def gDQ{p:Prop}(h:p:=by simp only[List.length_map];omega):p:=h
def gDX{p:Prop}(h:p:=by first|exact gC (xs:=[c+224]) Tryz.underlying142 Tryz.underlying5 Tryz.underlying9 Y (.blk aL Y Y)|exact gC (xs:=[c]) Tryz.underlying142 Tryz.underlying5 Tryz.underlying9 Y (.blk aL Y Y)):p:=h
def gE2{p:Prop}(h:p:=by (show vs.length - (i+1) < vs.length - i);omega):p:=h
def gF4{p:Prop}(h:p:=by rw[oV hc,ht];rfl):p:=h
def gFD{p:Prop}(h:p:=by first|exact .inl b0|exact .inr ⟨by assumption,trivial⟩):p:=h
def gFI{p:Prop}(h:p:=by simp only[List.length_map]at*;omega):p:=h
def gFM{p:Prop}(h:p:=by first|(rw[decide_eq_true (show y.1=4 by omega)];rfl)|(rw[decide_eq_false (show ¬y.1=4 by omega)];rfl)):p:=h
def gFP{p:Prop}(h:p:=by rw[hP0]at hh ⊢;exact hh):p:=h
def gFS{p:Prop}(h:p:=by have:=(List.getElem?_eq_some_iff.1 hj).1;omega):p:=h
def gFW{p:Prop}(h:p:=by rcases Nat.lt_or_ge j s.length with h|h;omega;(rw[List.getElem?_eq_none h]at hc;cases hc)):p:=h
def gGF{p:Prop}(h:p:=by have:=aP9 vars parts (s.drop (i+2));rw[List.length_drop]at this;omega):p:=h
end Go
section
namespace Go.SL
section
variable{E:Env}{fr:Fr}{K:Hl}{L:List Asn}{Q:Post}{c x y:Code}{ops:Array Oper}{rest:List Oper}
def pE{l:List Oper}{p:Prop}(k:∀h,Sat L h→p)(h:p→OL E ops l fr K L Q):OL E ops l fr K L Q:=fun a w f i=>h (let ⟨x,hx,_⟩:=i.rep;k x hx) a w f i
def yE{P:Program}{f:FuncId}{args:List Value}{L:List Asn}{R:Ending→Hl→List Asn→Prop}(M:List Asn)(h:Sp P f args K L R):Sp P f args K (L++M) (fun e K' L'=>∃N,R e K' N∧L'=N++M):=
 ⟨h.1, fun F w j => by
  obtain⟨F',i1,back⟩:=j.hide;exact(h.2 F' w i1).mono fun _ _ ⟨K',L',r,le,j'⟩=>⟨K',L'++M,⟨L',r,Y⟩,le,back j'⟩⟩
end
def slTo(v:Value)(n:Nat):Value:=
 match v with
 | .slice a _ c=>.slice a n c
 |v=>v
section
variable{E:Env}{fr:Fr}{K:Hl}{L L':List Asn}{Q:Post}{dst:Option Tmp}{ty:TypeId}{pos:String}{aft:Array Edge}{g:Option (Nat×Bool)}{x y:Operand}{t t2 t' s e sz bytes i off b:Nat}{α:Type}{k:El α}{v u:Value}{xs ys:List α}
def aI9{kk:IntKind}{m:Nat}{mv:Int}{hi:Operand}(ht:i8 E.P t k.e k.sz=true)(hx:fr.ev x=some v)(hs:SeesSl k K L v xs)(hh:fr.ev hi=some (.int kk mv))(hmv:mv=(m:Int))(hm:m≤xs.length)
  (hle:∀w,In E.w0 E.F K L w→∀a n c,v=.slice a n c→n≤c):
  Ev E fr K L ⟨dst,.slice t x none (some hi) none,ty,pos,aft,g⟩ (slTo v m):=fun a w f j=>by
 subst hmv;obtain⟨inf,h1,h2,h3⟩:=nH ht;simp only[execOp,f.ev hx,f.ev hh,Option.map];refine fO ?_;have hu:(underlying t).run E.P w=.ok (.slice k.e) w:=by simp only[underlying,program,bind,Sem.bind,pure,Sem.run,h1]
 have hsz:(sizeOf k.e).run E.P w=.ok inf.size w:=by simp only[sizeOf,typeInfo,program,bind,Sem.bind,pure,Sem.run,h2]
 have key:∀(a:Option Addr) (n c:Nat),m≤c→(Instr.sliceAt t (.slice a n c) none (some (.int kk m)) none).run E.P w=.ok (.slice a m c) w:=by
  intro a n c hc;unfold Instr.sliceAt;rw[bJ hu];simp only[Instr.slice];rw[bJ hu];simp only[];have hb:(Instr.sliceBounds true n c none (some (.int kk m)) none).run E.P w=.ok (0,m,c) w:=by
   simp[Instr.sliceBounds,Instr.sliceBound,asIntOf,bind,Sem.bind,pure,Sem.run,hc]
  rw[bJ hb];simp only[];rw[bJ hsz]
  by_cases hc0:c=0
  ·subst hc0;simp[pure,Sem.run]
  simp only[hc0,if_false];cases a with
  |none=>simp[pure,Sem.run]
  |some ad=>simp[Addr.add,pure,Sem.run]
 rcases hs.at j with ⟨a0,c,rfl,rfl⟩|⟨b,off,cap,cells,fz,rfl,⟨u0,h4⟩,h5⟩
 ·have:m=0:=by simpa using hm
  subst this;exact key a0 0 c (x9 _)
 exact key _ _ _ (xAV hm (hle w j _ _ _ Y))
def nB{kk:IntKind}{m:Nat}{mv:Int}{zf:Bool}{M:List Asn}{hi:Operand}(ht:i8 E.P t k.e k.sz=true)(hx:fr.ev x=some v)(hT:Tk (sl zf k v xs) L M)(hF:Hs (sl zf k v xs) L)(hh:fr.ev hi=some (.int kk mv))(hmv:mv=(m:Int))(hm:m≤xs.length):
  Ev E fr K L ⟨dst,.slice t x none (some hi) none,ty,pos,aft,g⟩ (slTo v m):=
 aI9 ht hx (.own hF) hh hmv hm (fun w j=>bGA hT j)
def gZ{zf:Bool}{m:Nat}(hm:m≤xs.length):∀h,sl zf k v xs h→sl false k (slTo v m) (xs.take m) h:=by
 rintro h (⟨rfl,rfl,rfl⟩|⟨b,cap,junk,fz,rfl,hz,hc,hj,hf,rfl⟩)
 ·have:m=0:=by simpa using hm
  subst this;exact .inl ⟨Y,by simp,rfl⟩
 have hl:(xs.take m).length=m:=by rw[xA4];omega
 refine .inr ⟨b,cap,(k.cs xs).drop (m*k.sz)++junk,fz,by rw[hl];rfl,by simp,by omega,?_,hf,?_⟩
 ·have hmul:m*k.sz≤xs.length*k.sz:=xAW _ hm;have hmul2:xs.length*k.sz≤cap*k.sz:=xAW _ hc;rw[xAF,xBA,k.cs_length,hj,hl,Nat.sub_mul,Nat.sub_mul];omega
 rw[←k.cs_take,←xA0,List.take_append_drop]
def bKE{A A':Asn}{M:List Asn}(hT:Tk A L M)(k:∀h,A h→A' h):∀h,Sat L h→Sat (A'::M) h:=
 fun h hs=>let ⟨a,l,ha,hl,hd,he⟩:=hT.sat h hs;⟨a,l,k a ha,hl,hd,he⟩
end
end Go.SL
end
section
namespace Go.SL
open R (Yl)
def aCN{A B:List Asn}{h:Hl}(k:Sat (A++B) h):Sat (B++A) h:=by
 obtain⟨a,b,ha,hb,hd,rfl⟩:=eY.1 k;exact eY.2 ⟨b,a,hb,ha,hd.symm,Hl.join_comm hd⟩
end Go.SL
end
section
namespace Go.SL
def iQ{α:Type}{z:Bool}{k:El α}{v:Value}{xs:List α}{L:List Asn}:∀h,Sat (sl z k v xs::L) h→∃a n c,v=.slice a n c:=by
 rintro h ⟨a,l,ha,_⟩;rcases ha with ⟨rfl,_⟩|⟨b,cap,junk,fz,rfl,_⟩ <;> exact⟨_,_,_,Y⟩
section
variable{E:Env}{fr:Fr}{K:Hl}{L L':List Asn}{Q:Post}{dst:Option Tmp}{ty:TypeId}{pos:String}{aft:Array Edge}{g:Option (Nat×Bool)}{x y:Operand}{t:TypeId}{α:Type}{k:El α}{v u:Value}{xs ys:List α}{c0:Code}{x0:Exit}{m:Nat}
def bMF(h:Ksl k K v xs)(hm:m≤xs.length):Ksl k K (slTo v m) (xs.take m):=by
 rcases h with ⟨a,c,rfl,rfl⟩|⟨b,off,cap,cells,fz,rfl,h1,h2⟩
 ·have:m=0:=by simpa using hm
  subst this;exact .inl ⟨a,c,Y,Y⟩
 refine .inr ⟨b,off,cap,cells,fz,?_,h1,?_⟩
 ·simp only[slTo,List.length_take,Nat.min_eq_left hm]
 rw[xA4,Nat.min_eq_left hm,←k.cs_take,←h2,List.take_take,Nat.min_eq_left (xAW _ hm)]
end
section
variable{E:Env}{fr:Fr}{K:Hl}{L L':List Asn}{Q:Post}{dst:Option Tmp}{ty:TypeId}{pos:String}{aft:Array Edge}{g:Option (Nat×Bool)}{x y:Operand}{t:TypeId}{α:Type}{k:El α}{v u:Value}{xs ys:List α}{c0:Code}{x0:Exit}{m n:Nat}
def aWH(v:Value)(m n sz:Nat):Value:=slTo (pL v m sz) (n - m)
def bIS(h:Ksl k K v xs)(hm:m≤n)(hn:n≤xs.length)(hf:lB v):Ksl k K (aWH v m n k.sz) ((xs.drop m).take (n - m)):=bMF (aO9 h aH hf) gD6
def aL9{kk kk2:IntKind}{mv nv:Int}{lo hi:Operand}(ht:i8 E.P t k.e k.sz=true)(hx:fr.ev x=some v)(hs:SeesSl k K L v xs)(hf:lB v)(hl:fr.ev lo=some (.int kk mv))(hh:fr.ev hi=some (.int kk2 nv))(hmv:mv=(m:Int))(hnv:nv=(n:Int))(hm:m≤n)(hn:n≤xs.length):
  Ev E fr K L ⟨dst,.slice t x (some lo) (some hi) none,ty,pos,aft,g⟩ (aWH v m n k.sz):=fun a w f j=>by
 subst hmv;subst hnv
 obtain⟨inf,h1,h2,h3⟩:=nH ht;simp only[execOp,f.ev hx,f.ev hl,f.ev hh,Option.map];refine fO ?_;have hu:(underlying t).run E.P w=.ok (.slice k.e) w:=by simp only[underlying,program,bind,Sem.bind,pure,Sem.run,h1]
 have hsz:(sizeOf k.e).run E.P w=.ok inf.size w:=by simp only[sizeOf,typeInfo,program,bind,Sem.bind,pure,Sem.run,h2]
 have key:∀(a:Option Addr) (l c:Nat),n≤c→(Instr.sliceAt t (.slice a l c) (some (.int kk m)) (some (.int kk2 n)) none).run E.P w=.ok (aWH (.slice a l c) m n k.sz) w:=by
  intro a l c hc;unfold Instr.sliceAt;rw[bJ hu];simp only[Instr.slice];rw[bJ hu];simp only[];have hb:(Instr.sliceBounds true l c (some (.int kk m)) (some (.int kk2 n)) none).run E.P w=.ok (m,n,c) w:=by
   simp[Instr.sliceBounds,Instr.sliceBound,asIntOf,bind,Sem.bind,pure,Sem.run,hc,hm]
  rw[bJ hb];simp only[];rw[bJ hsz];simp only[aWH,slTo,pL,h3,pure,Sem.run]
 rcases hs.at j with ⟨a0,c,rfl,rfl⟩|⟨b,off,cap,cells,fz,rfl,⟨u0,h4⟩,h5⟩
 ·have:n=0:=by simpa using hn
  subst this;exact key a0 0 c (x9 _)
 exact key _ _ _ (xAV hn (hf _ _ _ Y))
end
end Go.SL
end

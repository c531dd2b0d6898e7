/-
  What the proof stands on, part 54: the logic of walks, the walks through the functions, the plain laws. Conditions: as each theorem says. (Merged and shortened by a program.)
-/
import Derived.Test.YthopmddkpdehiaaGreatDoorK40
import Derived.Test.YthopmddkpdehiaaGreatDoorK53
set_option linter.unusedVariables false
set_option linter.unusedSimpArgs false
set_option maxRecDepth 4000
set_option maxHeartbeats 1000000
section
attribute [local irreducible] Go.SL.T Go.SL.OL Go.SL.D Go.SL.DL Go.SL.Ev Go.SL.Ef Go.SL.EfS
namespace Go.Proofs
open Go Go.SL Go.Syn Go.Mach Go.Cmp
theorem uU(m:Msg)(hv:Value)(K:Hl)(hh:Ksl hdEl K hv m.hs)(hz:MsgSz m):Sp Tryz.prog 17 [msgV m hv] K [] (Ret fun v K' L'=>∃b:Bool,v=.bool b∧(b=true→MsgOk m)∧K'=K∧L'=[]):=by
 obtain⟨z1,z2,z3,z4⟩:=hz;obtain⟨ha,hn,hc,rfl⟩:=hh.isSlice;refine a8 Tryz.func17 rfl Tryz.ntmps17 rfl rfl fun F w=>?_;refine zz3 ?_;rintro _ K _ ⟨b1,rfl,rfl,rfl⟩ -;refine zz14 ?_;refine aA (bO (k:=hdEl) rfl Tryz.underlying26 rfl aM) rfl ?_;refine zz11 ?_;refine eJ (fun(q:SI)=>q.i≤m.hs.length∧0≤q.n∧q.n≤844424930131968∧(q.n≤16384→m.from_.length≤16384∧m.to_.length≤16384∧m.hs.length≤16384∧∀j h,j < q.i→m.hs[j]?=some h→h.1.length≤16384∧h.2.length≤16384)) (fun q=>[(1,ptr b1),(3,i64 q.n),(4,i64 q.i)]) (fun _=>K) (fun _=>[pt b1 (aZ [str m.from_,str m.to_,i64 m.size,.slice ha hn hc] 28)]) (fun q=>m.hs.length - q.i) ⟨0,(m.from_.length:Int)+m.to_.length+m.hs.length⟩ ⟨Nat.zero_le _,by simp only[];omega,by simp only[];omega,fun h=>⟨by simp only[]at h;omega,by simp only[]at h;omega,by simp only[]at h;omega,fun j h hj=>by simp only[]at hj;omega⟩⟩ (.cons 1 rfl (.cons 3 rfl (.cons 4 rfl .nil))) rfl (fun _ h=>h) ?_;intro ⟨i,n⟩ ⟨hi0,hn0,hn1,hn2⟩;dsimp only at hi0 hn0 hn1 hn2 ⊢;refine zz6 ?_;refine aA (bO (k:=hdEl) rfl Tryz.underlying26 rfl aM) rfl ?_;refine zz2 ?_;refine cH 21 rfl (fun g21=>?_) (fun g21=>?_)
 ·have hilt:i < m.hs.length:=by omega
  obtain⟨x,hx⟩:∃x,m.hs[i]?=some x:=⟨m.hs[i]'hilt,List.getElem?_eq_getElem hilt⟩;have hxz:=z4 x (List.mem_of_getElem? hx);refine zz7 ?_;refine bK 24 rfl (fun h24=>?_) (fun h24=>?_)
  ·refine zz4 ?_;refine dD (anc:=[0,0,2,0,14,30,62,126,255,0,512,0,3584,7680,15872,32256,65535,131071]) (ord:=[0,1,2,3,4,5,6,7,8,9,10,11,12,13,14,15,16,17]) [] [] mixed gAH (dI _) ?_;refine zz4 ?_;refine aK rfl rfl (.none rfl) rfl rfl (bE (k:=hdEl) sU rfl aM rfl rfl gAD) rfl ?_;refine aK rfl rfl (.none rfl) rfl rfl (dQ (k:=hdEl) aVJ rfl aM gAD) rfl ?_;refine aK rfl rfl (.none rfl) rfl rfl (fD (k:=hdEl) ts9 rfl aM cB rfl) rfl ?_;refine zz5 ?_;refine aK rfl rfl (.none rfl) rfl rfl (bE (k:=hdEl) sU rfl aM rfl rfl gAD) rfl ?_;refine aK rfl rfl (.none rfl) rfl rfl (dQ (k:=hdEl) aVK rfl aM gAD) rfl ?_;refine aK rfl rfl (.none rfl) rfl rfl (fD (k:=hdEl) ts9 rfl aM cB rfl) rfl ?_;refine zz11 ?_;exact dF ⟨i+1,n+x.1.length+x.2.length⟩ ⟨by (show i+1≤m.hs.length);omega,by (show (0:Int)≤n+x.1.length+x.2.length);omega,by (show n+x.1.length+x.2.length≤(844424930131968:Int));omega,fun h=>by simp only[]at h;obtain⟨q1,q2,q3,q4⟩:=hn2 aI;exact⟨q1,q2,q3,fun j y hj hy=>by rcases Nat.lt_or_ge j i with h5|h5;exact q4 j y h5 hy;(obtain rfl:j=i:=(by simp only[]at hj;omega));rw[hx]at hy;cases hy;omega⟩⟩ gBR (.cons 1 rfl (.cons 3 rfl (.cons 4 rfl .nil))) rfl (fun _ h=>h)
  refine zz13 ?_;refine uAl ?_;refine zz1 ?_;exact⟨_,rfl,_,rfl,fun h=>absurd (of_decide_eq_true h) h24,rfl,rfl⟩
 refine zz19 ?_;refine uAl ?_;refine zz1 ?_;refine⟨_,rfl,_,rfl,fun h=>?_,rfl,rfl⟩
 obtain⟨q1,q2,q3,q4⟩:=hn2 (of_decide_eq_true h);exact⟨by omega,fun x hx=>by obtain⟨j,hj⟩:=List.getElem?_of_mem hx;have:=q4 j x gCH hj;omega,by omega,by omega⟩
end Go.Proofs
end
section
set_option maxRecDepth 100000
namespace Go.Proofs
open Go Go.SL Go.Syn Go.Mach Go.ChangeShapes Go.WideShapes Go.RowKit
namespace TzRow
section
variable{H:Type}{enc:TypeId×Value→H}{W:World}{base:Nat}{sp:Nat→Bool}{held:Bool}
theorem bTG{n:Nat}{cs:List Value}{x:DataW H×List MemPlace}{M:List Nat}(h:DataW.trod enc Tryz.prog W base sp held n 25 cs=some x)(hM:∀k∈x.1.weights Tryz.prog 25,k∈M):∃a:aJ×aJ,cs=hdEl.enc a∧a.1.length∈M∧a.2.length∈M:=by
 obtain⟨m,hl,hf⟩:=u7 Tryz.underlying25 h;have c25:Tryz.prog.cellsOf 25=2:=by kernel_rfl
 have c9:Tryz.prog.cellsOf 9=1:=by kernel_rfl
 rw[c25]at hl
 match cs,hl,hf with
 | [c0,c1],_,hf=>
  obtain⟨y0,h0,w0⟩:=hf 0 _ rfl;obtain⟨y1,h1,w1⟩:=hf 1 _ rfl;dsimp only at h0 h1 w0 w1;rw[c9]at h0 h1;obtain⟨l0,e0,k0⟩:=aCJ h0;obtain⟨l1,e1,k1⟩:=aCJ h1;simp at e0 e1;subst e0 e1;exact⟨(l0,l1),rfl,hM _ (w0 _ k0),hM _ (w1 _ k1)⟩
theorem in_msg{v:Value}{d:DataW H}{p:List MemPlace}{M:List Nat}(hv:Value.okWide Tryz.prog W .any base 28 v)(h:DataW.Trod enc Tryz.prog W 0 sp held 28 v d p)(hM:∀k∈d.weights Tryz.prog 28,k∈M)(hB:∀k∈M,k≤reachBytes):
  ∃m hv,v=msgV m hv∧Ksl hdEl (hp W) hv m.hs∧MsgSz m:=by
 obtain⟨cs,rfl,hc⟩:=okWide_struct Tryz.underlying28 hv;obtain⟨n,hf⟩:=h;have c28:Tryz.prog.cellsOf 28=4:=by kernel_rfl
 have c9:Tryz.prog.cellsOf 9=1:=by kernel_rfl
 have c3:Tryz.prog.cellsOf 3=1:=by kernel_rfl
 have c26:Tryz.prog.cellsOf 26=1:=by kernel_rfl
 have b25:Tryz.prog.bytesOf 25=32:=by kernel_rfl
 obtain⟨m,hl,hf⟩:=u7 Tryz.underlying28 hf;rw[c28]at hc hl;obtain⟨l⟩:=cs;have hl':l.length=4:=hl
 match l,hl',hf with
 | [c0,c1,c2,c3'],_,hf=>
  obtain ⟨y0, h0, w0⟩ := hf 0 _ rfl;obtain ⟨y1, h1, w1⟩ := hf 1 _ rfl;obtain ⟨y2, h2, w2⟩ := hf 2 _ rfl;obtain ⟨y3, h3, w3⟩ := hf 3 _ rfl;dsimp only at h0 h1 h2 h3 w0 w1 w2 w3;rw [c9] at h0 h1;rw [c3] at h2;rw [c26] at h3;obtain ⟨l0, e0, k0⟩ := aCJ h0;obtain ⟨l1, e1, k1⟩ := aCJ h1;obtain ⟨i, e2, _⟩ := rS Tryz.underlying3 h2;have h3' : DataW.trod enc Tryz.prog W 0 sp held m 26 [c3'] = some y3 := h3;obtain ⟨xs, ks, hG, hlen⟩ := aQE (k := hdEl) (G := fun a => a.1.length ≤ reachBytes ∧ a.2.length ≤ reachBytes) Tryz.underlying26 bJ (by decide) (fun n cs y hy hw => by
   obtain⟨a,ha,k1,k2⟩:=bTG (M:=y3.1.weights Tryz.prog 26) hy hw;exact⟨a,ha,hB _ (hM _ (w3 _ k1)),hB _ (hM _ (w3 _ k2))⟩) h3'
  simp[Value.cells]at e0 e1 e2;subst e0 e1 e2;have q0:=hB _ (hM _ (w0 _ k0));have q1:=hB _ (hM _ (w1 _ k1));refine⟨⟨l0,l1,i,xs⟩,c3',rfl,ks,?_⟩
  have hr:reachBytes=140737488351232:=rfl;rw[hr]at q0 q1 hG;refine⟨by show l0.length≤_;omega,by show l1.length≤_;omega,?_,fun a ha=>?_⟩
  ·show xs.length≤_
   rcases hlen with rfl|⟨k,hk,hk2⟩
   ·simp
   have:=hB _ (hM _ (w3 _ hk));rw[hr]at this;have e25:hdEl.e=25:=rfl;rw[e25,b25]at hk2;omega
  have:=hG a ha;exact⟨by omega,by omega⟩
end
end TzRow
end Go.Proofs
end

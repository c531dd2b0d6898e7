/-
  What the proof stands on, part 49: the logic of walks, the walks through the functions, the plain laws. Conditions: as each theorem says. (Merged and shortened by a program.)
-/
import Derived.Test.YthopmddkpdehiaaGreatDoorK3
import Derived.Test.YthopmddkpdehiaaGreatDoorK40
import Derived.Test.YthopmddkpdehiaaGreatDoorK42
import Derived.Test.YthopmddkpdehiaaGreatDoorK44
import Derived.Test.YthopmddkpdehiaaGreatDoorK48
set_option linter.unusedVariables false
set_option linter.unusedSimpArgs false
set_option maxRecDepth 4000
set_option maxHeartbeats 1000000
section
namespace Go.SL
section
variable{H:Type}{enc:TypeId×Value→H}{P:Program}{w:World}{base:Nat}{sp:Nat→Bool}{held:Bool}{n:Nat}{t:TypeId}{cs:List Value}{x:DataW H×List MemPlace}
theorem bE5(hu:P.underlying t=some .bool)(h:DataW.trod enc P w base sp held n t cs=some x):∃b:Bool,cs=[.bool b]:=by
 obtain⟨m,hm0,h2⟩:=wH h;clear h;have h:=h2;clear h2 hm0;unfold DataW.trodStep at h;rw[hu]at h;cases cs with
 |nil=>simp at h
 |cons c r=>
  cases r with
  |cons c2 r2=>cases c <;> simp at h
  |nil=>
   cases c <;> simp at h
   rename_i b;exact⟨b,rfl⟩
end
end Go.SL
end
section
set_option maxRecDepth 100000
namespace Go.Proofs
open Go Go.SL Go.Syn Go.Mach Go.Box Go.ChangeShapes Go.WideShapes Go.RowKit
namespace TzRow
theorem bS1{n:Int}(h:(Lit.int .i64 n).wf=true): -9223372036854775808≤n∧n≤9223372036854775807:=by
 have h1:IntKind.i64.min= -9223372036854775808:=rfl;have h2:IntKind.i64.max=9223372036854775807:=rfl;simp only[Lit.wf,Bool.and_eq_true,decide_eq_true_eq]at h;omega
theorem aTD{α:Type}{k:El α}{K:Hl}{v:Value}{xs:List α}(h:Ksl k K v xs):v.oneCell'=true:=by
 rcases h with ⟨a,c,rfl,_⟩|⟨b,off,cap,cells,fz,rfl,_⟩ <;> rfl
section
variable{H:Type}{enc:TypeId×Value→H}{W:World}{base:Nat}{sp:Nat→Bool}{held:Bool}
theorem bM5{n:Nat}{v:Value}{x:DataW H×List MemPlace}(h:DataW.trod enc Tryz.prog W base sp held n 55 [v]=some x)(hB:∀k∈x.1.weights Tryz.prog 55,k≤reachBytes):∃xs:List Int,Ksl (aHP 3) (hp W) v xs∧xs.length≤140737488355328:=by
 have b3:Tryz.prog.bytesOf 3=8:=by kernel_rfl
 obtain ⟨xs, h1, _, h3⟩ := aQE (k := aHP 3) (G := fun _ => True) Tryz.underlying55 bJ (by decide) (fun n cs y hy _ => by
  obtain⟨i,e,_⟩:=rS Tryz.underlying3 hy;exact⟨i,e,trivial⟩) h
 refine⟨xs,h1,?_⟩
 have hr:reachBytes=140737488351232:=rfl;rcases h3 with rfl|⟨k,hk,hk2⟩
 ·simp
 have e3:(aHP 3).e=3:=rfl;rw[e3,b3]at hk2;have:=hB k hk;omega
theorem bM4{n:Nat}{cs:List Value}{x:DataW H×List MemPlace}(h:DataW.trod enc Tryz.prog W base sp held n 34 cs=some x):∃a:Action,cs=cS.enc a∧a.2.length∈x.1.weights Tryz.prog 34:=by
 obtain⟨m,hl,hf⟩:=u7 Tryz.underlying34 h;have c34:Tryz.prog.cellsOf 34=2:=by kernel_rfl
 have c9:Tryz.prog.cellsOf 9=1:=by kernel_rfl
 have c3:Tryz.prog.cellsOf 3=1:=by kernel_rfl
 rw[c34]at hl
 match cs,hl,hf with
 | [c0,c1],_,hf=>
  obtain⟨y0,h0,w0⟩:=hf 0 _ rfl;obtain⟨y1,h1,w1⟩:=hf 1 _ rfl;dsimp only at h0 h1 w0 w1;rw[c3]at h0;rw[c9]at h1;obtain⟨i,k0,_⟩:=rS Tryz.underlying3 h0;obtain⟨l1,k1,k2⟩:=aCJ h1;simp at k0 k1;subst k0 k1;exact⟨(i,l1),rfl,w1 _ k2⟩
theorem bH3{n:Nat}{v:Value}{x:DataW H×List MemPlace}(h:DataW.trod enc Tryz.prog W base sp held n 29 [v]=some x)(hB:∀k∈x.1.weights Tryz.prog 29,k≤reachBytes):∃xs:List Action,Ksl cS (hp W) v xs∧xs.length≤140737488355328∧∀a∈xs,a.2.length≤140737488355328:=by
 have b34:Tryz.prog.bytesOf 34=24:=by kernel_rfl
 have hr : reachBytes = 140737488351232 := rfl;obtain ⟨xs, h1, h2, h3⟩ := aQE (k := cS) (G := fun a => a.2.length ≤ 140737488355328) Tryz.underlying29 bJ (by decide) (fun n cs y hy hw => by
  obtain⟨a,ha,hb⟩:=bM4 hy;exact⟨a,ha,by have:=hB _ (hw _ hb);omega⟩) h
 refine⟨xs,h1,?_,h2⟩
 rcases h3 with rfl|⟨k,hk,hk2⟩
 ·simp
 have e34:cS.e=34:=rfl;rw[e34,b34]at hk2;have:=hB k hk;omega
theorem bM6{n:Nat}{cs:List Value}{x:DataW H×List MemPlace}(h:DataW.trod enc Tryz.prog W base sp held n 73 cs=some x)(hB:∀k∈x.1.weights Tryz.prog 73,k≤reachBytes):∃s:StepV,cs=gA.enc s∧StepIs (hp W) s∧StepSz s:=by
 obtain⟨m,hl,hf⟩:=u7 Tryz.underlying73 h;have c73:Tryz.prog.cellsOf 73=9:=by kernel_rfl
 have c9:Tryz.prog.cellsOf 9=1:=by kernel_rfl
 have c3:Tryz.prog.cellsOf 3=1:=by kernel_rfl
 have c4:Tryz.prog.cellsOf 4=1:=by kernel_rfl
 have c29:Tryz.prog.cellsOf 29=1:=by kernel_rfl
 have c55:Tryz.prog.cellsOf 55=1:=by kernel_rfl
 have hr:reachBytes=140737488351232:=rfl;rw[c73]at hl
 match cs,hl,hf with
 | [v0,v1,v2,v3,v4,v5,v6,v7,v8],_,hf=>
  obtain⟨y0,h0,w0⟩:=hf 0 _ rfl;obtain⟨y1,h1,w1⟩:=hf 1 _ rfl;obtain⟨y2,h2,w2⟩:=hf 2 _ rfl;obtain⟨y3,h3,w3⟩:=hf 3 _ rfl;obtain⟨y4,h4,w4⟩:=hf 4 _ rfl;obtain⟨y5,h5,w5⟩:=hf 5 _ rfl;obtain⟨y6,h6,w6⟩:=hf 6 _ rfl;obtain⟨y7,h7,w7⟩:=hf 7 _ rfl;obtain⟨y8,h8,w8⟩:=hf 8 _ rfl;dsimp only at h0 h1 h2 h3 h4 h5 h6 h7 h8 w0 w1 w2 w7;rw[c9]at h0 h2;rw[c3]at h3 h4 h5 h6;rw[c29]at h1;rw[c55]at h7;rw[c4]at h8;obtain⟨l0,e0,k0⟩:=aCJ h0;obtain⟨l2,e2,k2⟩:=aCJ h2;obtain⟨i3,e3,_⟩:=rS Tryz.underlying3 h3;obtain⟨i4,e4,_⟩:=rS Tryz.underlying3 h4;obtain⟨i5,e5,_⟩:=rS Tryz.underlying3 h5;obtain⟨i6,e6,g6⟩:=rS Tryz.underlying3 h6;obtain⟨b8,e8⟩:=bE5 Tryz.underlying4 h8;have h1':DataW.trod enc Tryz.prog W base sp held m 29 [v1]=some y1:=h1;have h7':DataW.trod enc Tryz.prog W base sp held m 55 [v7]=some y7:=h7;obtain⟨acl,ka,la,za⟩:=bH3 h1' fun k hk=>hB _ (w1 _ hk)
  obtain⟨ds,kd,ld⟩:=bM5 h7' fun k hk=>hB _ (w7 _ hk)
  simp at e0 e2 e3 e4 e5 e6 e8;subst e0 e2 e3 e4 e5 e6 e8;have q0:=hB _ (w0 _ k0);have q2:=hB _ (w2 _ k2);exact⟨⟨l0,⟨v1,aTD ka⟩,l2,i3,i4,i5,i6,⟨v7,aTD kd⟩,b8,acl,ds⟩,rfl,⟨ka,kd,bS1 g6⟩,⟨by show l0.length≤_;omega,by show l2.length≤_;omega,la,ld,za⟩⟩
theorem in_steps{v:Value}{d:DataW H}{p:List MemPlace}(hv:Value.okWide Tryz.prog W .any base 68 v)(h:DataW.Trod enc Tryz.prog W 0 sp held 68 v d p)(hB:∀k∈d.weights Tryz.prog 68,k≤reachBytes):
  ∃vs:List StepV,Ksl gA (hp W) v vs∧(∀s∈vs,StepIs (hp W) s)∧(∀s∈vs,StepSz s)∧vs.length≤140737488355328:=by
 obtain⟨a,len,cap,rfl⟩:=okWide_slice Tryz.underlying68 hv;obtain⟨n,hf⟩:=h;have hf':DataW.trod enc Tryz.prog W 0 sp held n 68 [.slice a len cap]=some (d,p):=hf;have b73:1≤Tryz.prog.bytesOf 73:=of_decide_eq_true bJ;obtain⟨vs,h1,h2,h3⟩:=aQE (k:=gA) (G:=fun s=>StepIs (hp W) s∧StepSz s) Tryz.underlying68 bJ (by decide) (fun n cs y hy hw=>bM6 hy fun k hk=>hB _ (hw _ hk)) hf';refine⟨vs,h1,fun s hs=>(h2 s hs).1,fun s hs=>(h2 s hs).2,?_⟩
 have hr:reachBytes=140737488351232:=rfl;rcases h3 with rfl|⟨k,hk,hk2⟩
 ·simp
 have:=hB k hk;have e73:gA.e=73:=rfl;rw[e73]at hk2;have h4:vs.length*1≤vs.length*Tryz.prog.bytesOf 73:=Nat.mul_le_mul_left _ b73;omega
end
end TzRow
end Go.Proofs
end
section
attribute [local irreducible] Go.SL.T Go.SL.OL Go.SL.D Go.SL.DL Go.SL.Ev Go.SL.Ef Go.SL.EfS
namespace Go.Proofs
open Go Go.SL Go.Syn Go.Box Go.Mach
theorem aZ5(bx b:Nat)(s:DSt)(kept part:Int)(hpl:s.pend.length≤1000000)(hdl:∀o∈s.pend,o.data.length≤140737488355328)(hk1: -9223372036854775808≤part)(hk2:part≤9223372036854775807)(K K0:Hl)(le:K0.le K)(hx:yJ K bx b):Sp Tryz.prog 53 [ptr bx,i64 kept,i64 part] K [dsk K0 b s]
  (Ret fun r K' L'=>r=.tuple #[]∧∃t,aC9 s t∧L'=[dsk K' b t]):=by
 obtain⟨T,fz,hk⟩:=hx;refine a8 Tryz.func53 rfl Tryz.ntmps53 rfl rfl fun F w=>?_;refine zz7 ?_;refine aX rfl rfl (aJH b s kept part hpl hdl hk1 hk2 _ _ le) (.cons .here .nil) rfl ?_;rintro _ K1 _ ⟨rfl,t,hct,rfl⟩ le1;refine aG ?_;refine dK rfl le1 ?_;exact⟨_,rfl,rfl,_,hct,rfl⟩
theorem aC0(av bv:Value)(xs ys:List fY)(K:Hl)(ha:Ksl cD K av xs)(hb:Ksl cD K bv ys)(hx:xs.length≤1000000)(hy:ys.length≤1000000):Sp Tryz.prog 51 [av,bv] K [] (Val (.bool (decide (xs=ys))) K):=by
 refine a8 Tryz.func51 rfl Tryz.ntmps51 rfl rfl fun F w=>?_;refine zz9 ?_;refine aA (bO (k:=cD) rfl Tryz.underlying62 rfl (.known ha)) rfl ?_;refine zz1 ?_;refine aA (bO (k:=cD) rfl Tryz.underlying62 rfl (.known hb)) rfl ?_;refine zz3 ?_
 first|refine bK 10 rfl (fun h10=>?_) (fun h10=>?_)|refine eO 10 rfl (fun h10=>?_) (fun h10=>?_)
 ·refine zz8 ?_;have hne:¬xs=ys:=(fun e=>by rw[e]at h10;exact absurd rfl h10);rw[decide_eq_false hne];exact⟨rfl,rfl,rfl⟩
 have hlen:xs.length=ys.length:=by omega
 refine zz9 ?_;refine eJ (fun(i:Nat)=>i≤xs.length∧xs.take i=ys.take i) (fun i=>[(0,av),(1,bv),(5,i64 i)]) (fun _=>K) (fun _=>[]) (fun i=>xs.length - i) 0 ⟨Nat.zero_le _,by simp⟩ (.cons 0 rfl (.cons 1 rfl (.cons 5 rfl .nil))) rfl (fun _ h=>h) ?_;intro i ⟨hi0,hi1⟩;refine zz5 ?_;refine aA (bO (k:=cD) rfl Tryz.underlying62 rfl (.known ha)) rfl ?_;refine zz3 ?_;refine bK 14 rfl (fun h14=>?_) (fun h14=>?_)
 ·have hilt:i < xs.length:=by omega
  obtain⟨x,hxx⟩:∃x,xs[i]?=some x:=⟨xs[i]'hilt,List.getElem?_eq_getElem hilt⟩;obtain⟨y,hyy⟩:∃y,ys[i]?=some y:=⟨ys[i]'(by omega),List.getElem?_eq_getElem aI⟩;refine zz5 ?_;refine dD (anc:=[0,0,3,7,0,0,48,112,255]) (ord:=[0,1,2,3,4,5,6,7,8]) [] [] mixed gAH (dI _) ?_;refine zz2 ?_;refine aK rfl rfl (.none rfl) rfl rfl (bE (k:=cD) (j:=i) eK rfl (.known ha) rfl rfl aI) rfl ?_;refine aK rfl rfl (.none rfl) rfl rfl (dC (n:=0) (k:=cD) kD rfl (.known ha) hxx) rfl ?_;refine zz2 ?_;refine aK rfl rfl (.none rfl) rfl rfl (bE (k:=cD) (j:=i) eK rfl (.known hb) rfl rfl aI) rfl ?_;refine aK rfl rfl (.none rfl) rfl rfl (dC (n:=0) (k:=cD) kD rfl (.known hb) hyy) rfl ?_;refine aK rfl rfl (.none rfl) rfl rfl (aJR (a:=x) (c:=y) rfl rfl) rfl ?_;refine zz2 ?_;refine eO 25 rfl (fun h25=>?_) (fun h25=>?_)
  ·have hxy:¬x=y:=by simpa using h25
   refine zz12 ?_;have hne:¬xs=ys:=(fun e=>by rw[e]at hxx;rw[hxx]at hyy;cases hyy;exact hxy rfl);rw[decide_eq_false hne];exact⟨rfl,rfl,rfl⟩
  have hxy:x=y:=by simpa using h25
  refine zz8 ?_;exact dF (i+1) ⟨by omega,by rw[List.take_add_one,List.take_add_one,hi1,hxx,hyy,hxy]⟩ aI (.cons 0 rfl (.cons 1 rfl (.cons 5 rfl .nil))) rfl (fun _ h=>h)
 refine zz12 ?_;have he:xs=ys:=gCD;rw[decide_eq_true he];exact⟨rfl,rfl,rfl⟩
theorem bRU(va vm:Value)(was more:List fY)(f:DMap)(K:Hl)(ha:Ksl cD K va was)(hm:Ksl cD K vm more)(hf:gQ f was)(hl:was.length+more.length≤1000000):Sp Tryz.prog 52 [va,vm] K []
  (Ret fun r K' L'=>∃out,gQ (lQ more f) out∧out.length≤was.length+more.length∧L'=[sl false cD r out]):=by
 refine a8 Tryz.func52 rfl Tryz.ntmps52 rfl rfl fun F w=>?_;refine zz8 ?_;refine kB (eF cD) ?_;refine cC (dN (k:=cD) (ys:=was) jC rfl rfl .here (fun w j=>dE Tryz.underlying62 (SeesSl.at (k:=cD) (.known ha) j)) (by show (0+was.length)*32≤140737488355328;omega) (by show 0+was.length≤9223372036854775807;omega)) rfl ?_;rintro v10 K _ ⟨rfl,rfl,ho10⟩ -;refine zz10 ?_;refine n8 (fun(i:Nat) (K2:Hl) (v:Value) (out:List fY)=>i≤more.length∧K.le K2∧gQ (lQ (more.take i) f) out∧out.length≤was.length+i) (fun i _ v _=>[(1,vm),(5,v),(6,i64 i)]) (fun _ K2 _ _=>K2) (fun _ _ v out=>[sl false cD v out]) (fun i _ _ _=>more.length - i) 0 K _ was ⟨Nat.zero_le _,Hl.le_refl _,hf,Nat.le_refl _⟩ (.cons 1 rfl (.cons 5 rfl (.cons 6 rfl .nil))) rfl (fun _ h=>h) ?_;intro i K2 v out ⟨hi,leL,hfo,hol⟩;refine zz5 ?_;refine aA (bO (k:=cD) rfl Tryz.underlying62 rfl (.known (hm.mono leL))) rfl ?_;refine zz3 ?_;refine bK 14 rfl (fun h14=>?_) (fun h14=>?_)
 ·have hilt:i < more.length:=by omega
  obtain⟨x,hxx⟩:∃x,more[i]?=some x:=⟨more[i]'hilt,List.getElem?_eq_getElem hilt⟩;have hm2:=hm.mono leL;refine zz9 ?_;refine gV (fun(k:Nat)=>k≤out.length∧aIW x k out∧∀y,out[k]?=some y→¬y.1 < x.1) (fun k=>[(1,vm),(5,v),(6,i64 i),(7,i64 k)]) (fun _=>K2) (fun _=>[sl false cD v out]) ?_ ?_
  ·refine bB ?_;refine eJ (fun(k:Nat)=>k≤out.length∧aIW x k out) (fun k=>[(1,vm),(5,v),(6,i64 i),(7,i64 k)]) (fun _=>K2) (fun _=>[sl false cD v out]) (fun k=>out.length - k) 0 ⟨Nat.zero_le _,fun j y h _=>by omega⟩ (.cons 1 rfl (.cons 5 rfl (.cons 6 rfl (.cons 7 rfl .nil)))) rfl (fun _ h=>h) ?_;intro k ⟨hk,hbf⟩;refine zz2 ?_;refine dD (anc:=[0,0,2,7,15,31,31,127,255,511,31,31,3103,7199,15391,32767,65535]) (ord:=[0,1,2,3,4,5,6,7,8,9,10,11,12,13,14,15,16]) [] [] mixed gAH (dI _) ?_;refine zz2 ?_;refine aK rfl rfl (.none rfl) rfl rfl (bO (k:=cD) rfl Tryz.underlying62 rfl aM) rfl ?_;refine zz2 ?_;refine jD 21 rfl (fun g21=>?_) (fun g21=>?_)
   ·have hkl:k < out.length:=by omega
    obtain⟨y,hyy⟩:∃y,out[k]?=some y:=⟨out[k]'hkl,List.getElem?_eq_getElem hkl⟩;refine zz2 ?_;refine aK rfl rfl (.on rfl rfl rfl) rfl rfl (bE (k:=cD) eK rfl aM rfl rfl gAD) rfl ?_;refine aK rfl rfl (.on rfl rfl rfl) rfl rfl (dQ (k:=cD) oR rfl aM gAD) rfl ?_;refine aK rfl rfl (.on rfl rfl rfl) rfl rfl (fD (k:=cD) ts9 rfl aM cB rfl) rfl ?_;refine zz2 ?_;refine aK rfl rfl (.on rfl rfl rfl) rfl rfl (bE (k:=cD) eK rfl aM rfl rfl gAD) rfl ?_;refine aK rfl rfl (.on rfl rfl rfl) rfl rfl (dQ (k:=cD) oR rfl aM gAD) rfl ?_;refine aK rfl rfl (.on rfl rfl rfl) rfl rfl (fD (k:=cD) ts9 rfl aM cB rfl) rfl ?_;refine aK rfl rfl (.on rfl rfl rfl) rfl rfl (bQ0 rfl rfl) rfl ?_;refine zz3 ?_;refine eO 33 rfl (fun h33=>?_) (fun h33=>?_)
    ·have hlt:y.1 < x.1:=by rw[bytesLess_eq]at h33;exact of_decide_eq_true h33
     refine zz9 ?_;refine dF (k+1) ⟨by omega,fun j z hj hz=>?_⟩ aI (.cons 1 rfl (.cons 5 rfl (.cons 6 rfl (.cons 7 rfl .nil)))) rfl (fun _ h=>h)
     rcases Nat.lt_or_ge j k with h|h
     ·exact hbf j z h hz
     have e:j=k:=by omega
     subst e;rw[hyy]at hz;cases hz;assumption
    have hnlt:¬y.1 < x.1:=by rw[bytesLess_eq]at h33;exact of_decide_eq_false h33
    refine zz4 ?_
    first|exact cN k ⟨hk,hbf,fun z hz=>by rw[hyy]at hz;cases hz;assumption⟩ (.cons 1 rfl (.cons 5 rfl (.cons 6 rfl (.cons 7 rfl .nil)))) rfl (fun _ h=>h)|exact cN k ⟨hk,hbf,fun z hz=>by have:=jF hz;omega⟩ (.cons 1 rfl (.cons 5 rfl (.cons 6 rfl (.cons 7 rfl .nil)))) rfl (fun _ h=>h)
   refine zz19 ?_
   first|exact cN k ⟨hk,hbf,fun z hz=>by rw[hyy]at hz;cases hz;assumption⟩ (.cons 1 rfl (.cons 5 rfl (.cons 6 rfl (.cons 7 rfl .nil)))) rfl (fun _ h=>h)|exact cN k ⟨hk,hbf,fun z hz=>by have:=jF hz;omega⟩ (.cons 1 rfl (.cons 5 rfl (.cons 6 rfl (.cons 7 rfl .nil)))) rfl (fun _ h=>h)
  intro k ⟨hk,hbf,hnl⟩;refine zz2 ?_;refine dD (anc:=[0,0,2,7,15,31,31,127,255,511,31,31,3103,7199,15391,32767,65535]) (ord:=[0,1,2,3,4,5,6,7,8,9,10,11,12,13,14,15,16]) [] [] mixed gAH (dI _) ?_;refine zz2 ?_;refine aK rfl rfl (.none rfl) rfl rfl (bO (k:=cD) rfl Tryz.underlying62 rfl aM) rfl ?_;refine zz2 ?_;refine jD 40 rfl (fun g40=>?_) (fun g40=>?_)
  ·have hkl:k < out.length:=by omega
   obtain⟨y,hyy⟩:∃y,out[k]?=some y:=⟨out[k]'hkl,List.getElem?_eq_getElem hkl⟩;refine zz2 ?_;refine aK rfl rfl (.on rfl rfl rfl) rfl rfl (bE (k:=cD) eK rfl aM rfl rfl gAD) rfl ?_;refine aK rfl rfl (.on rfl rfl rfl) rfl rfl (dQ (k:=cD) oR rfl aM gAD) rfl ?_;refine aK rfl rfl (.on rfl rfl rfl) rfl rfl (fD (k:=cD) ts9 rfl aM cB rfl) rfl ?_;refine zz2 ?_;refine aK rfl rfl (.on rfl rfl rfl) rfl rfl (bE (k:=cD) eK rfl aM rfl rfl gAD) rfl ?_;refine aK rfl rfl (.on rfl rfl rfl) rfl rfl (dQ (k:=cD) oR rfl aM gAD) rfl ?_;refine aK rfl rfl (.on rfl rfl rfl) rfl rfl (fD (k:=cD) ts9 rfl aM cB rfl) rfl ?_;refine zz4 ?_;refine bK 52 rfl (fun h52=>?_) (fun h52=>?_)
   ·refine zz6 ?_;refine aA (bE (k:=cD) eK rfl aM rfl rfl gAD) rfl ?_;refine aA (dC (n:=0) (k:=cD) kD rfl aM cB) rfl ?_;refine aA (bE (k:=cD) eK rfl aM rfl rfl gAD) rfl ?_;refine cA (sF (k:=cD) (y0:=x) kD rfl rfl gAD bF) ?_;rintro _ K _ ⟨rfl,rfl⟩ -;refine zz11 ?_;refine uAa ?_
    first
     |exact gS (i+1) _ v (out.set k x) ⟨by omega,leL,by rw[sK hxx];exact aQT hfo hbf hyy cB,by rw[List.length_set];omega⟩ aI (.cons 1 rfl (.cons 5 rfl (.cons 6 rfl .nil))) rfl (fun _ h=>h)
     |exact gS (i+1) _ _ ((out.take k++[x])++out.drop k) ⟨by omega,Hl.le_trans leL le3,by rw[sK hxx,List.append_assoc,List.singleton_append];exact aK1 hfo hbf hk hnn,by simp only[List.length_append,List.length_take,List.length_drop,List.length_singleton];omega⟩ aI (.cons 1 rfl (.cons 5 rfl (.cons 6 rfl .nil))) rfl (fun _ h=>h)
   refine zz3 ?_;have hnn:∀z,out[k]?=some z→¬z.1 < x.1∧z.1≠x.1:=gBN;refine aVA fun hfit=>?_;refine kC fun K3 le3 hv3=>?_;have hm3:=hm2.mono le3;have htl:(out.take k).length≤out.length:=gBQ;have hdl:(out.drop k).length≤out.length:=gA4;refine zz3 ?_;refine aA (aHG (k:=cD) (m:=k) eK rfl (.known hv3) hfit rfl rfl hk) rfl ?_;refine kB (eF cD) ?_;refine cC (dN (k:=cD) (ys:=(out.take k)) jC rfl rfl .here (fun w j=>dE Tryz.underlying62 (SeesSl.at (k:=cD) (.known (bIE hv3 hk)) j)) (by show (0+(out.take k).length)*32≤140737488355328;omega) (by show 0+(out.take k).length≤9223372036854775807;omega)) rfl ?_;rintro v63 K _ ⟨rfl,rfl,ho63⟩ -;refine zz8 ?_;refine aA (bE (k:=cD) eK rfl (.known hm3) rfl rfl aI) rfl ?_;refine aA (dC (n:=0) (k:=cD) kD rfl (.known hm3) hxx) rfl ?_;refine cC (bH (z0:=[(str []),(str [])]) eK aID rfl rfl rfl rfl (.cons rfl rfl rfl (.cons (.cons .nil)) .nil)) rfl ?_;rintro _ K _ ⟨b69,rfl,rfl,rfl⟩ -;refine cC (dN (k:=cD) (ys:=[x]) jC rfl rfl bF (fun w j=>dE Tryz.underlying62 (SeesSl.at (k:=cD) (.blk (.own .here) rfl rfl) j)) (by show ((out.take k).length+1)*32≤140737488355328;omega) (by show (out.take k).length+1≤9223372036854775807;omega)) rfl ?_;rintro v70 K _ ⟨rfl,rfl,ho70⟩ -;refine zz7 ?_;refine aA (rU (k:=cD) (m:=k) eK rfl (.known hv3) rfl rfl hk) rfl ?_;refine cC (dN (k:=cD) (ys:=(out.drop k)) jC rfl rfl bF (fun w j=>dE Tryz.underlying62 (SeesSl.at (k:=cD) (.known (aKF hv3 hk hfit)) j)) gBH gBI) rfl ?_;rintro v75 K _ ⟨rfl,rfl,ho75⟩ -;refine zz9 ?_;refine uAa ?_
   first
    |exact gS (i+1) _ v (out.set k x) ⟨by omega,leL,by rw[sK hxx];exact aQT hfo hbf hyy cB,by rw[List.length_set];omega⟩ aI (.cons 1 rfl (.cons 5 rfl (.cons 6 rfl .nil))) rfl (fun _ h=>h)
    |exact gS (i+1) _ _ ((out.take k++[x])++out.drop k) ⟨by omega,Hl.le_trans leL le3,by rw[sK hxx,List.append_assoc,List.singleton_append];exact aK1 hfo hbf hk hnn,by simp only[List.length_append,List.length_take,List.length_drop,List.length_singleton];omega⟩ aI (.cons 1 rfl (.cons 5 rfl (.cons 6 rfl .nil))) rfl (fun _ h=>h)
  refine zz18 ?_;have hnn:∀z,out[k]?=some z→¬z.1 < x.1∧z.1≠x.1:=gBN;refine aVA fun hfit=>?_;refine kC fun K3 le3 hv3=>?_;have hm3:=hm2.mono le3;have htl:(out.take k).length≤out.length:=gBQ;have hdl:(out.drop k).length≤out.length:=gA4;refine zz3 ?_;refine aA (aHG (k:=cD) (m:=k) eK rfl (.known hv3) hfit rfl rfl hk) rfl ?_;refine kB (eF cD) ?_;refine cC (dN (k:=cD) (ys:=(out.take k)) jC rfl rfl .here (fun w j=>dE Tryz.underlying62 (SeesSl.at (k:=cD) (.known (bIE hv3 hk)) j)) (by show (0+(out.take k).length)*32≤140737488355328;omega) (by show 0+(out.take k).length≤9223372036854775807;omega)) rfl ?_;rintro v63 K _ ⟨rfl,rfl,ho63⟩ -;refine zz8 ?_;refine aA (bE (k:=cD) eK rfl (.known hm3) rfl rfl aI) rfl ?_;refine aA (dC (n:=0) (k:=cD) kD rfl (.known hm3) hxx) rfl ?_;refine cC (bH (z0:=[(str []),(str [])]) eK aID rfl rfl rfl rfl (.cons rfl rfl rfl (.cons (.cons .nil)) .nil)) rfl ?_;rintro _ K _ ⟨b69,rfl,rfl,rfl⟩ -;refine cC (dN (k:=cD) (ys:=[x]) jC rfl rfl bF (fun w j=>dE Tryz.underlying62 (SeesSl.at (k:=cD) (.blk (.own .here) rfl rfl) j)) (by show ((out.take k).length+1)*32≤140737488355328;omega) (by show (out.take k).length+1≤9223372036854775807;omega)) rfl ?_;rintro v70 K _ ⟨rfl,rfl,ho70⟩ -;refine zz7 ?_;refine aA (rU (k:=cD) (m:=k) eK rfl (.known hv3) rfl rfl hk) rfl ?_;refine cC (dN (k:=cD) (ys:=(out.drop k)) jC rfl rfl bF (fun w j=>dE Tryz.underlying62 (SeesSl.at (k:=cD) (.known (aKF hv3 hk hfit)) j)) gBH gBI) rfl ?_;rintro v75 K _ ⟨rfl,rfl,ho75⟩ -;refine zz9 ?_;refine uAa ?_
  first
   |exact gS (i+1) _ v (out.set k x) ⟨by omega,leL,by rw[sK hxx];exact aQT hfo hbf hyy cB,by rw[List.length_set];omega⟩ aI (.cons 1 rfl (.cons 5 rfl (.cons 6 rfl .nil))) rfl (fun _ h=>h)
   |exact gS (i+1) _ _ ((out.take k++[x])++out.drop k) ⟨by omega,Hl.le_trans leL le3,by rw[sK hxx,List.append_assoc,List.singleton_append];exact aK1 hfo hbf hk hnn,by simp only[List.length_append,List.length_take,List.length_drop,List.length_singleton];omega⟩ aI (.cons 1 rfl (.cons 5 rfl (.cons 6 rfl .nil))) rfl (fun _ h=>h)
 have hie:i=more.length:=by omega
 subst hie;rw[List.take_length]at hfo;refine zz12 ?_;refine bD rfl rfl leL ?_;exact⟨_,rfl,_,hfo,hol,rfl⟩
theorem aS2{n m i k:Nat}{vs:List StepV}{x:StepV}(hx:vs[i]?=some x)(h1:∀(j:Nat) y,j < i→vs[j]?=some y→StepFit n y)(hn:n+x.id.length+x.text.length+x.downs.length+x.acts.length≤m)(hk:x.acts.length≤k)(ha:∀a∈x.acts.take k,a.2.length≤m):∀(j:Nat) y,j < i+1→vs[j]?=some y→StepFit m y:=fun j y hj hy=>by
 rcases Nat.lt_or_ge j i with h|h
 ·exact(h1 j y h hy).mono aI
 obtain rfl:j=i:=by omega
 rw[hx]at hy;cases hy
 rw[List.take_of_length_le hk]at ha;exact⟨by omega,by omega,by omega,by omega,ha⟩
theorem bHO(vv:Value)(vs:List StepV)(K:Hl)(hv:Ksl gA K vv vs)(hs:∀x∈vs,StepIs K x)(hz:∀x∈vs,StepSz x)(hl:vs.length≤140737488355328):Sp Tryz.prog 30 [vv] K []
  (Ret fun r K' L'=>∃b:Bool,r=.bool b∧(b=true→vs.length≤65536∧∀x∈vs,StepFit 65536 x)∧K'=K∧L'=[]):=by
 refine a8 Tryz.func30 rfl Tryz.ntmps30 rfl rfl fun F w=>?_;refine zz8 ?_;refine aA (bO (k:=gA) rfl Tryz.underlying68 rfl (.known hv)) rfl ?_;refine zz10 ?_;refine rC (fun(i n:Nat)=>i≤vs.length∧vs.length≤n∧n≤1000000000000000∧(n≤65536→∀(j:Nat) y,j < i→vs[j]?=some y→StepFit n y)) (fun i n=>[(0,vv),(3,i64 n),(4,i64 i)]) (fun _ _=>K) (fun _ _=>[]) (fun i _=>vs.length - i) 0 vs.length ⟨Nat.zero_le _,Nat.le_refl _,by omega,fun _ j y h _=>by omega⟩ (.cons 0 rfl (.cons 3 rfl (.cons 4 rfl .nil))) rfl (fun _ h=>h) ?_;intro i n ⟨hi,hn1,hn2,hfit⟩;refine zz5 ?_;refine aA (bO (k:=gA) rfl Tryz.underlying68 rfl (.known hv)) rfl ?_;refine zz2 ?_;refine cH 12 rfl (fun g12=>?_) (fun g12=>?_)
 ·have hlt:i < vs.length:=by omega
  obtain⟨x,hx⟩:∃x,vs[i]?=some x:=⟨vs[i]'hlt,List.getElem?_eq_getElem hlt⟩;have hxs:=hs x (List.mem_of_getElem? hx);have hxa:=hxs.acts;have hxd:=hxs.downs;obtain⟨z1,z2,z3,z4,z5⟩:=hz x (List.mem_of_getElem? hx);refine zz7 ?_;refine bK 15 rfl (fun h15=>?_) (fun h15=>?_)
  ·refine zz5 ?_;refine dD (anc:=[0,0,0,6,14,30,62,127,0,0,768,1792,3840,7936,16383,0,0,98304,229376,491520,1015808,2097151,0,0,12582912,29360128,62914560,130023424,268435455,536870911]) (ord:=[0,1,2,3,4,5,6,7,8,9,10,11,12,13,14,15,16,17,18,19,20,21,22,23,24,25,26,27,28,29]) [] [] mixed gAH (dI _) ?_;refine zz3 ?_;refine aK rfl rfl (.none rfl) rfl rfl (bE (k:=gA) m7 rfl aM rfl rfl gAD) rfl ?_;refine aK rfl rfl (.none rfl) rfl rfl (dQ (k:=gA) aAC rfl aM gAD) rfl ?_;refine aK rfl rfl (.none rfl) rfl rfl (fD (k:=gA) ts9 rfl aM cB rfl) rfl ?_;refine zz4 ?_;refine aK rfl rfl (.none rfl) rfl rfl (bE (k:=gA) m7 rfl aM rfl rfl gAD) rfl ?_;refine aK rfl rfl (.none rfl) rfl rfl (dQ (k:=gA) aAD rfl aM gAD) rfl ?_;refine aK rfl rfl (.none rfl) rfl rfl (fD (k:=gA) ts9 rfl aM cB rfl) rfl ?_;refine zz4 ?_;refine aK rfl rfl (.none rfl) rfl rfl (bE (k:=gA) m7 rfl aM rfl rfl gAD) rfl ?_;refine aK rfl rfl (.none rfl) rfl rfl (dQ (k:=gA) aLY rfl aM gAD) rfl ?_;refine aK rfl rfl (.none rfl) rfl rfl (fD (k:=gA) bSO rfl aM cB rfl) rfl ?_;refine aK rfl rfl (.none rfl) rfl rfl (bO (k:=aHP 3) rfl Tryz.underlying55 rfl (.known hxd)) rfl ?_;refine zz3 ?_;refine aK rfl rfl (.none rfl) rfl rfl (bE (k:=gA) m7 rfl aM rfl rfl gAD) rfl ?_;refine aK rfl rfl (.none rfl) rfl rfl (dQ (k:=gA) uB rfl aM gAD) rfl ?_;refine aK rfl rfl (.none rfl) rfl rfl (fD (k:=gA) oS rfl aM cB rfl) rfl ?_;refine aK rfl rfl (.none rfl) rfl rfl (bO (k:=cS) rfl Tryz.underlying29 rfl (.known hxa)) rfl ?_;refine aK rfl rfl (.none rfl) rfl rfl (gN (v:=i64 ((n+x.id.length+x.text.length+x.downs.length+x.acts.length:Nat):Int)) (bW rfl rfl aI aI) (congrArg (Value.int .i64) aI)) rfl ?_;refine zz9 ?_;refine rC (fun(k n2:Nat)=>k≤x.acts.length∧n+x.id.length+x.text.length+x.downs.length+x.acts.length≤n2∧n2≤1000000000000000∧(n2≤65536→∀a∈x.acts.take k,a.2.length≤n2)) (fun k n2=>[(0,vv),(3,i64 n2),(4,i64 i),(5,i64 k)]) (fun _ _=>K) (fun _ _=>[]) (fun k _=>x.acts.length - k) 0 _ ⟨Nat.zero_le _,Nat.le_refl _,by omega,fun _ a h=>by simp at h⟩ (.cons 0 rfl (.cons 3 rfl (.cons 4 rfl (.cons 5 rfl .nil)))) rfl (fun _ h=>h) ?_;intro k n2 ⟨hk,hm1,hm2,hm3⟩;refine zz6 ?_;refine aA (bE (k:=gA) m7 rfl aM rfl rfl gAD) rfl ?_;refine aA (dQ (k:=gA) uB rfl aM gAD) rfl ?_;refine aA (fD (k:=gA) oS rfl aM cB rfl) rfl ?_;refine aA (bO (k:=cS) rfl Tryz.underlying29 rfl (.known hxa)) rfl ?_;refine zz2 ?_;refine cH 55 rfl (fun g55=>?_) (fun g55=>?_)
   ·have hkl:k < x.acts.length:=by omega
    obtain⟨a,ha⟩:∃a,x.acts[k]?=some a:=⟨x.acts[k]'hkl,List.getElem?_eq_getElem hkl⟩;have hal:=z5 a (List.mem_of_getElem? ha);refine zz7 ?_;refine bK 58 rfl (fun h58=>?_) (fun h58=>?_)
    ·refine zz8 ?_;refine aA (bE (k:=gA) m7 rfl aM rfl rfl gAD) rfl ?_;refine aA (dQ (k:=gA) uB rfl aM gAD) rfl ?_;refine aA (fD (k:=gA) oS rfl aM cB rfl) rfl ?_;refine zz1 ?_;refine aA (bE (k:=cS) (j:=k) gK rfl (.known hxa) rfl rfl aI) rfl ?_;refine aA (dQ (k:=cS) (j:=k) dW rfl (.known hxa) hkl) rfl ?_;refine aA (fD (k:=cS) ts9 rfl (.known hxa) ha rfl) rfl ?_;refine zz1 ?_;refine aA (gN (v:=i64 ((n2+a.2.length:Nat):Int)) (bW rfl rfl aI aI) (congrArg (Value.int .i64) aI)) rfl ?_;refine zz9 ?_;refine fR (k+1) (n2+a.2.length) ⟨by omega,by omega,by omega,fun hn b hb=>?_⟩ aI (.cons 0 rfl (.cons 3 rfl (.cons 4 rfl (.cons 5 rfl .nil)))) rfl (fun _ h=>h)
     rw[List.take_succ_eq_append_getElem hkl]at hb;rcases List.mem_append.1 hb with hb|hb
     ·have:=hm3 aI b hb;omega
     rw[List.getElem?_eq_getElem hkl]at ha;injection ha with ha;rw[List.mem_singleton.1 hb,ha];omega
    refine zz11 ?_;exact fR (i+1) n2 ⟨by omega,by omega,by omega,fun hn=>aS2 hx (hfit aI) hm1 aI (hm3 hn)⟩ aI (.cons 0 rfl (.cons 3 rfl (.cons 4 rfl .nil))) rfl (fun _ h=>h)
   refine zz17 ?_;exact fR (i+1) n2 ⟨by omega,by omega,by omega,fun hn=>aS2 hx (hfit aI) hm1 aI (hm3 hn)⟩ aI (.cons 0 rfl (.cons 3 rfl (.cons 4 rfl .nil))) rfl (fun _ h=>h)
  refine zz13 ?_;refine uAl ?_;refine zz1 ?_
  first
   |exact⟨_,rfl,_,rfl,fun hb=>⟨by have:=of_decide_eq_true hb;omega,fun y hy=>by obtain⟨j,hj⟩:=List.getElem?_of_mem hy;have hb2:=of_decide_eq_true hb;exact(hfit aI j y gCH hj).mono aI⟩,rfl,rfl⟩
   |exact⟨_,rfl,_,rfl,fun hb=>by have:=of_decide_eq_true hb;omega,rfl,rfl⟩
 refine zz19 ?_;refine uAl ?_;refine zz1 ?_
 first
  |exact⟨_,rfl,_,rfl,fun hb=>⟨by have:=of_decide_eq_true hb;omega,fun y hy=>by obtain⟨j,hj⟩:=List.getElem?_of_mem hy;have hb2:=of_decide_eq_true hb;exact(hfit aI j y gCH hj).mono aI⟩,rfl,rfl⟩
  |exact⟨_,rfl,_,rfl,fun hb=>by have:=of_decide_eq_true hb;omega,rfl,rfl⟩
theorem bH8{xs:List File}{f g:DMap}(hfj:f bM=none)(h:g=f∨g=after xs f):J xs f g:=by
 rcases h with rfl|h
 ·exact .inl ⟨fun _ _=>rfl,.inl hfj⟩
 exact .inr (.inr h)
theorem bRH{xs:List File}{f g:DMap}(hfj:f bM=none)(h:g=f∨g=after xs f):g bM=none:=by
 rcases h with rfl|rfl
 ·exact hfj
 exact kH
theorem xN(bx d:Nat)(t:DSt)(wv nv:Value)(was next:List fY)(x:StepV)(xs:List File)(f:DMap)(K K0:Hl)(le:K0.le K)(hx:yJ K bx d)(hg:Glob K)(hdb:Deb K)(hE:ErrT K)(hw:Ksl cD K wv was)(hn:Ksl cD K nv next)(hs:StepIs K x)(hz:StepFit 65536 x)
  (hfw:gQ f was) (hfn:gQ (after xs f) next) (hwl:was.length≤500000) (hnl:next.length≤500000) (hok:kW xs) (hj:∀x∈xs,x.1≠bM) (hfj:f bM=none) (hI:BoxI xs f t):
  Sp Tryz.prog 32 [ptr bx,wv,nv,bPR x] K [dsk K0 d t] (Ret fun r K' L'=>∃v l u,r=.tuple #[v,.bool true]∧(v=wv∧l=was∨v=nv∧l=next)∧Box.Rest u∧gQ u.dur l∧(u.dur=f∨u.dur=after xs f)∧L'=[dsk K' d u]):=by
 have hz4:=hz.downs;have hp1:=hs.part.1;have hp2:=hs.part.2;have hds:=hs.downs;refine a8 Tryz.func32 rfl Tryz.ntmps32 rfl rfl fun F w=>?_;refine zz3 ?_;rintro _ K _ ⟨b7,rfl,rfl,rfl⟩ -;refine zz1 ?_;refine fT fun K1 le1 hb7=>?_;refine kB (fH (lW (Hl.le_trans le le1))) ?_;refine zz3 ?_;refine xU (fun(u:DSt) (K3:Hl)=>K1.le K3∧BoxI xs f u) (fun _ _=>[(0,ptr bx),(1,wv),(2,nv),(7,ptr b7)]) (fun _ K3=>K3) (fun u K3=>[dsk K3 d u]) ?_ ?_
 ·refine zz6 ?_;refine n7 (fun(i:Nat) (K2:Hl) (t:DSt)=>i≤x.downs.length∧K1.le K2∧BoxI xs f t) (fun i _ _=>[(0,ptr bx),(1,wv),(2,nv),(7,ptr b7),(10,i64 i)]) (fun _ K2 _=>K2) (fun _ K2 t=>[dsk K2 d t]) (fun i _ _=>x.downs.length - i) 0 K1 t ⟨Nat.zero_le _,Hl.le_refl _,hI⟩ (.cons 0 rfl (.cons 1 rfl (.cons 2 rfl (.cons 7 rfl (.cons 10 rfl .nil))))) rfl (fun _ h=>h) ?_;intro i K2 t ⟨hi,leL,hI⟩;refine zz3 ?_;have hb72:=leL _ _ hb7;have le02:=Hl.le_trans le1 leL;have hds2:=hds.mono le02;refine zz3 ?_;refine aA (bO (k:=aHP 3) rfl Tryz.underlying55 rfl (.known hds2)) rfl ?_;refine zz3 ?_;refine bK 20 rfl (fun h20=>?_) (fun h20=>?_)
  ·have hlt:i < x.downs.length:=by omega
   obtain⟨dn,hdn⟩:∃dn,x.downs[i]?=some dn:=⟨x.downs[i]'hlt,List.getElem?_eq_getElem hlt⟩;refine zz5 ?_;refine dD (anc:=[0,0,2,0,14,30,0,64,0,256,0,1024,4095,8191]) (ord:=[0,1,2,3,4,5,6,7,8,9,10,11,12,13]) [12] [12] mixed gAH .nil ?_;refine zz4 ?_;refine aK rfl rfl (.none rfl) rfl rfl (bE (k:=aHP 3) (j:=i) uC rfl (.known hds2) rfl rfl hlt) rfl ?_;refine aK rfl rfl (.none rfl) rfl rfl (dP (o:=0) (k:=aHP 3) ts3 rfl (.known hds2) hdn rfl) rfl ?_;refine zz6 ?_;refine iJ rfl (.none rfl) rfl rfl rfl (aIG bx d dn x.full x.kept x.part t _ (aUR hok hfj hI dn x.full) _ _ (Hl.le_refl _) (hx.mono le02) (hg.mono le02) (hdb.mono le02) (hE.mono le02) (by have:=hI.len;omega) hp1 hp2 (fun _=>aJC hok hI dn x.full)) (.cons .here .nil) rfl ?_;rintro _ K3 _ ⟨rfl,u,hu,rfl⟩ le3;have hB:=aZC hj hok hfj hI dn x.full;refine zz3 ?_;rcases hB with ⟨he,hT⟩|⟨e,he,(rfl|rfl),hT⟩
   ·rw[he];refine zz14 ?_
    first|exact iP u _ ⟨Hl.le_trans leL le3,aAT (hT u hu).1 (bH8 hfj (hT u hu).2)⟩ (.cons 0 rfl (.cons 1 rfl (.cons 2 rfl (.cons 7 rfl .nil)))) rfl (fun _ h=>h)|exact iP t K2 ⟨leL,hI⟩ (.cons 0 rfl (.cons 1 rfl (.cons 2 rfl (.cons 7 rfl .nil)))) rfl (fun _ h=>h)
   ·rw[he];refine zz29 ?_;exact iU (i+1) _ u ⟨by omega,Hl.le_trans leL le3,hT u hu⟩ aI (.cons 0 rfl (.cons 1 rfl (.cons 2 rfl (.cons 7 rfl (.cons 10 rfl .nil))))) rfl (fun _ h=>h)
   rw[he];refine zz31 ?_;exact iU (i+1) _ u ⟨by omega,Hl.le_trans leL le3,hT u hu⟩ aI (.cons 0 rfl (.cons 1 rfl (.cons 2 rfl (.cons 7 rfl (.cons 10 rfl .nil))))) rfl (fun _ h=>h)
  refine zz4 ?_
  first|exact iP u _ ⟨Hl.le_trans leL le3,aAT (hT u hu).1 (bH8 hfj (hT u hu).2)⟩ (.cons 0 rfl (.cons 1 rfl (.cons 2 rfl (.cons 7 rfl .nil)))) rfl (fun _ h=>h)|exact iP t K2 ⟨leL,hI⟩ (.cons 0 rfl (.cons 1 rfl (.cons 2 rfl (.cons 7 rfl .nil)))) rfl (fun _ h=>h)
 intro u K3 ⟨le3,hI3⟩;refine aH ?_;have hb73:=le3 _ _ hb7;have le03:=Hl.le_trans le1 le3;obtain⟨hL1,hL2⟩:=bF0 hj hok hfj hI3;refine zz2 ?_;refine aX rfl rfl (aIG bx d (-1) (-1) 0 0 u _ (aUR hok hfj hI3 (-1) (-1)) _ _ (Hl.le_refl _) (hx.mono le03) (hg.mono le03) (hdb.mono le03) (hE.mono le03) (by have:=hI3.len;omega) aI aI (fun _=>aJC hok hI3 (-1) (-1))) (.cons .here .nil) rfl ?_;rintro _ K4 _ ⟨rfl,u2,hu2,rfl⟩ le4;rw[hL1];obtain⟨hR2,hd2⟩:=hL2 u2 hu2;have le04:=Hl.le_trans le03 le4;have hb74:=le4 _ _ hb73;refine zz20 ?_;refine aX rfl rfl (aZ5 bx d u2 x.kept x.part (by rw[hR2.pend];simp) (by rw[hR2.pend];intro o ho;cases ho) hp1 hp2 _ _ (Hl.le_refl _) (hx.mono le04)) (.cons .here .nil) rfl ?_;rintro _ K5 _ ⟨rfl,u3,hu3,rfl⟩ le5;obtain⟨hR3,hd3⟩:=aLD hR2 hu3;rw[←hd3]at hd2;have le05:=Hl.le_trans le04 le5;refine zz5 ?_;refine aX rfl rfl (mV bx d u3 (bM::(xs.map (·.1)++was.map (·.1))) (aZJ (bH8 hfj hd2) (pG hfw)) (by have:=hok.2.2;simp;omega) _ _ (Hl.le_refl _) (hx.mono le05)) (.cons .here .nil) rfl ?_;rintro yv K5 _ ⟨rfl,ys,hys,rfl⟩ -;have hyl:=aJW hys (aZJ (bH8 hfj hd2) (pG hfw));simp only[List.length_cons,List.length_append,List.length_map]at hyl;have hxl:=hok.2.2;refine zz4 ?_;refine kC fun K6 le6 hyv=>?_;have le06:=Hl.le_trans le05 le6;refine zz3 ?_;refine cF rfl rfl (aC0 _ _ ys next _ hyv (hn.mono le06) aI aI) rfl ?_;refine zz7 ?_;refine cF rfl rfl (aC0 _ _ ys was _ hyv (hw.mono le06) aI aI) rfl ?_;refine zz9 ?_;refine bK 64 rfl (fun h64=>?_) (fun h64=>?_)
 ·refine zz9 ?_;refine fK (fH (lW le6)) ?_;refine fA rfl rfl rfl le06 ?_;exact⟨_,rfl,nv,next,u3,rfl,.inr ⟨rfl,rfl⟩,hR3,h64▸hys,hd2,rfl⟩
 refine zz11 ?_;refine fK (fH (lW le6)) ?_;refine fA rfl rfl rfl le06 ?_;have hdf:u3.dur=f:=(by rcases hd2 with h|h;exact h;exact absurd (nI (h▸hys) hfn) h64);have hyw:ys=was:=nI (hdf▸hys) hfw;exact⟨_,rfl,wv,was,u3,by rw[decide_eq_true hyw],.inl ⟨rfl,rfl⟩,hR3,hyw▸hys,hd2,rfl⟩
theorem bQW{id text:aJ}{acts:List Action}{xs:List File}{s:DSt}(hf:eY id acts text=.ok xs)(hx:kW xs)(hp:s.pend=[]):
  (iK id acts text s).2.pend.length≤1000000∧∀o∈(iK id acts text s).2.pend,o.data.length≤140737488355328:=by
 have hm:iK id acts text s=iC xs s:=by unfold iK;rw[hf]
 have h1:=wU xs s hx.2.2;rw[hp]at h1;have h2:Bd 140737488355328 s:=by intro o ho;rw[hp]at ho;cases ho
 rw[hm];exact⟨by simp at h1;omega,aB9 (aIH hx) (aIO hx.2.1) h2⟩
theorem aGG(av bv:Value)(xs:List fY)(K:Hl)(ha:Ksl cD K av xs)(hb:Ksl cD K bv xs)(hx:xs.length≤1000000):Sp Tryz.prog 51 [av,bv] K [] (Ret fun r K' L'=>r=.bool true∧K'=K∧L'=[]):=
 (aC0 av bv xs xs K ha hb hx hx).mono fun e K' L' ⟨h1,h2,h3⟩=>⟨_,h1,by rw[decide_eq_true rfl],h2,h3⟩
theorem aDV(bx d:Nat)(t:DSt)(wv:Value)(was:List fY)(x:StepV)(dn:Bool)(K K0:Hl)(le:K0.le K)(hx:yJ K bx d)(hg:Glob K)(hdb:Deb K)(hE:ErrT K)(hw:Ksl cD K wv was)(hs:StepIs K x)(hz:StepFit 65536 x)
  (hR:Box.Rest t) (hfw:gQ t.dur was) (hfj:t.dur bM=none) (hwl:was.length≤400000):
  Sp Tryz.prog 31 [ptr bx,wv,bPR x,.bool dn] K [dsk K0 d t] (Ret fun r K' L'=>∃v l u,r=.tuple #[v,.bool true]∧Ksl cD K' v l∧l.length≤was.length+6∧Box.Rest u∧gQ u.dur l∧u.dur bM=none∧L'=[dsk K' d u]):=by
 have hp1:=hs.part.1;have hp2:=hs.part.2;have ha:=hs.acts;obtain⟨z1,z2,z3,z4,z5⟩:=hz;have hz:=StepFit.mk z1 z2 z3 z4 z5;have z6:∀a∈x.acts,a.2.length≤1048576:=fun a h=>by have:=z5 a h;omega
 refine a8 Tryz.func31 rfl Tryz.ntmps31 rfl rfl fun F w=>?_;refine zz3 ?_;rintro _ K _ ⟨b6,rfl,rfl,rfl⟩ -;refine zz1 ?_;refine fT fun K1 le1 hb6=>?_;refine kB (fH (lW (Hl.le_trans le le1))) ?_;have hrf:=bDY x.id x.text x.av.1 x.acts K1 (ha.mono le1) aI aI z6 aI;refine zz3 ?_;rcases hf:eY x.id x.acts x.text with e|xs
 ·rw[hf]at hrf;have he0:=aW9 hf;refine zz8 ?_;refine aX rfl rfl hrf .nil rfl ?_;rintro _ K2 _ ⟨rfl,rfl⟩ le2;have hb62:=le2 _ _ hb6;have le02:=Hl.le_trans le1 le2;refine zz17 ?_;refine xU (fun(_ _:Int)=>True) (fun l f=>[(0,ptr bx),(1,wv),(3,.bool dn),(6,ptr b6),(10,.slice none 0 0),(11,i64 e),(12,i64 l),(13,i64 f)]) (fun _ _=>K2) (fun _ _=>[dsk K1 d t]) ?_ ?_
  ·refine zz5 ?_;refine eO 31 rfl (fun h31=>?_) (fun h31=>?_)
   ·refine zz12 ?_;exact iP _ _ trivial (.cons 0 rfl (.cons 1 rfl (.cons 3 rfl (.cons 6 rfl (.cons 10 rfl (.cons 11 rfl (.cons 12 rfl (.cons 13 rfl .nil)))))))) rfl (fun _ h=>h)
   refine aW ?_;exact iP _ _ trivial (.cons 0 rfl (.cons 1 rfl (.cons 3 rfl (.cons 6 rfl (.cons 10 rfl (.cons 11 rfl (.cons 12 rfl (.cons 13 rfl .nil)))))))) rfl (fun _ h=>h)
  intro l f _;refine aH ?_;have hmd:iK x.id x.acts x.text (t.set l f)=(some e,t.set l f):=(by unfold iK;rw[hf]);have hcr:(iK x.id x.acts x.text (t.set l f)).2.down=true→(iK x.id x.acts x.text (t.set l f)).2.pend.length≤1000000∧∀o∈(iK x.id x.acts x.text (t.set l f)).2.pend,o.data.length≤140737488355328:=(fun h=>by rw[hmd]at h;rw[show (t.set l f).down=false from hR.down]at h;cases h);refine zz14 ?_;refine aX rfl rfl (wP bx d x.id x.text x.av.1 x.acts l f x.kept x.part t _ _ le2 (hx.mono le02) (hg.mono le02) (hdb.mono le02) (hE.mono le02) (ha.mono le02) aI aI z6 aI (by rw[hR.pend];simp) hp1 hp2 hcr) (.cons .here .nil) rfl ?_;rintro _ K3 _ ⟨rfl,t1,ht1,rfl⟩ le3;rw[hmd]at ht1 ⊢;obtain⟨hR1,hd1⟩:=aCZ (s:=t.set l f) hR.down hR.pend hR.now ht1
  replace hd1:t1.dur=t.dur:=hd1
  have le03:=Hl.le_trans le02 le3;refine zz6 ?_;refine aX rfl rfl (mV bx d t1 (was.map (·.1)) (by rw[hd1];exact pG hfw) gAI _ _ (Hl.le_refl _) (hx.mono le03)) (.cons .here .nil) rfl ?_;rintro yv K3 _ ⟨rfl,ys,hys,rfl⟩ -;have hyw:ys=was:=nI (hd1▸hys) hfw;subst hyw;refine zz5 ?_;refine kC fun K4 le4 hyv=>?_;have le04:=Hl.le_trans le03 le4;refine zz2 ?_;refine aA (zB (eB rfl rfl) he0) rfl ?_;refine zz7 ?_;refine aX rfl rfl (aGG _ _ ys _ hyv (hw.mono le04) aI) .nil rfl ?_;rintro _ K4 _ ⟨rfl,rfl,rfl⟩ -;refine zz8 ?_;refine aA (zB (bZ rfl rfl) rfl) rfl ?_;refine zz10 ?_;refine fK (fH (lW le4)) ?_;refine fA rfl rfl rfl le04 ?_;exact⟨_,rfl,wv,ys,t1,rfl,hw.mono le04,by omega,hR1,hd1▸hfw,hd1▸hfj,rfl⟩
 rw[hf]at hrf;obtain⟨hok,hxl,hj⟩:=bB1 aI z6 hf;refine zz8 ?_;refine aX rfl rfl hrf .nil rfl ?_;rintro _ K2 _ ⟨uv,rfl,rfl⟩ le2;refine gX fun K3 le3 huv=>?_;have hb63:=le3 _ _ (le2 _ _ hb6);have le23:=Hl.le_trans le2 le3;have le03:=Hl.le_trans le1 le23;refine zz17 ?_;refine xU (fun(l f:Int)=>dn=false→l= -1∧f= -1) (fun l f=>[(0,ptr bx),(1,wv),(3,.bool dn),(6,ptr b6),(10,uv),(11,i64 0),(12,i64 l),(13,i64 f)]) (fun _ _=>K3) (fun _ _=>[dsk K1 d t]) ?_ ?_
 ·refine zz5 ?_;refine eO 31 rfl (fun h31=>?_) (fun h31=>?_)
  ·refine zz12 ?_;exact iP _ _ (fun h=>by first|exact⟨rfl,rfl⟩|(rw[h31]at h;cases h)) (.cons 0 rfl (.cons 1 rfl (.cons 3 rfl (.cons 6 rfl (.cons 10 rfl (.cons 11 rfl (.cons 12 rfl (.cons 13 rfl .nil)))))))) rfl (fun _ h=>h)
  refine aW ?_;exact iP _ _ (fun h=>by first|exact⟨rfl,rfl⟩|(rw[h31]at h;cases h)) (.cons 0 rfl (.cons 1 rfl (.cons 3 rfl (.cons 6 rfl (.cons 10 rfl (.cons 11 rfl (.cons 12 rfl (.cons 13 rfl .nil)))))))) rfl (fun _ h=>h)
 intro l f hlf;refine zz15 ?_;refine aX rfl rfl (wP bx d x.id x.text x.av.1 x.acts l f x.kept x.part t _ _ le23 (hx.mono le03) (hg.mono le03) (hdb.mono le03) (hE.mono le03) (ha.mono le03) aI aI z6 aI (by rw[hR.pend];simp) hp1 hp2 (fun _=>bQW hf hok hR.pend)) (.cons .here .nil) rfl ?_;rintro _ K4 _ ⟨rfl,t1,ht1,rfl⟩ le4;have le04:=Hl.le_trans le03 le4;have hb64:=le4 _ _ hb63;have hB:=bL0 hR hf hj hok hfj l f;have hJ1:J xs t.dur t1.dur:=(by rcases hB with ⟨_,hT⟩|⟨e,_,_,_,hT⟩;exact .inr (.inr (hT t1 ht1).2);exact(hT t1 ht1).safe _ (aNN _ _));refine zz6 ?_;refine aX rfl rfl (mV bx d t1 (bM::(xs.map (·.1)++was.map (·.1))) (aZJ hJ1 (pG hfw)) gAI _ _ (Hl.le_refl _) (hx.mono le04)) (.cons .here .nil) rfl ?_;rintro yv K4 _ ⟨rfl,ys,hys,rfl⟩ -;have hyl:=aJW hys (aZJ hJ1 (pG hfw));simp only[List.length_cons,List.length_append,List.length_map]at hyl;refine zz5 ?_;refine kC fun K5 le5 hyv=>?_;have le45:=Hl.le_trans le4 le5;have le05:=Hl.le_trans le04 le5;refine zz12 ?_;refine aX rfl rfl (bRU wv uv was xs t.dur _ (hw.mono le05) (huv.mono le45) hfw aI) .nil rfl ?_;rintro nv K6 _ ⟨next,hfn,hnl,rfl⟩ le6;rw[←aI4 hj hfj]at hfn;refine zz3 ?_;rcases hB with ⟨he,hT⟩|⟨e,he,(rfl|rfl),hno,hT⟩
 ·rw[he];obtain⟨hR1,hd1⟩:=hT t1 ht1;have hyn:ys=next:=nI (hd1▸hys) hfn;subst hyn;refine zz2 ?_;refine kC fun K7 le7 hnv=>?_;have le57:=Hl.le_trans le6 le7;have le07:=Hl.le_trans le05 le57;have hb67:=le57 _ _ (le5 _ _ hb64);refine kF (fH (lW (Hl.le_trans le5 le57))) ?_;refine zz13 ?_;refine aX rfl rfl (aZ5 bx d t1 x.kept x.part (by rw[hR1.pend];simp) (by rw[hR1.pend];intro o ho;cases ho) hp1 hp2 _ _ (Hl.le_refl _) (hx.mono le07)) (.cons .here .nil) rfl ?_;rintro _ K8 _ ⟨rfl,u3,hu3,rfl⟩ le8;obtain⟨hR3,hd3⟩:=aLD hR1 hu3;rw[hd1]at hd3;have le08:=Hl.le_trans le07 le8;refine zz5 ?_;refine aX rfl rfl (mV bx d u3 (ys.map (·.1)) (by rw[hd3];exact pG hfn) gAI _ _ (Hl.le_refl _) (hx.mono le08)) (.cons .here .nil) rfl ?_;rintro lv K8 _ ⟨rfl,ls,hls,rfl⟩ -;have hln:ls=ys:=nI (hd3▸hls) hfn;subst hln;refine zz4 ?_;refine kC fun K9 le9 hlv=>?_;have le89:=Hl.le_trans le8 le9;have hyv9:=(hyv.mono le57).mono le89;have hnv9:=hnv.mono le89;refine zz3 ?_;refine aX rfl rfl (aGG _ _ ls _ hyv9 hnv9 aI) .nil rfl ?_;rintro _ K9 _ ⟨rfl,rfl,rfl⟩ -;refine zz7 ?_;refine aX rfl rfl (aGG _ _ ls _ hlv hnv9 aI) .nil rfl ?_;rintro _ K9 _ ⟨rfl,rfl,rfl⟩ -;refine zz17 ?_;refine fK (fH (lW le9)) ?_;refine fA rfl rfl rfl (Hl.le_trans le08 le9) ?_;exact⟨_,rfl,nv,ls,u3,rfl,hnv9,by omega,hR3,hls,hd3▸kH,rfl⟩
 ·rw[he];obtain rfl:dn=true:=(by cases dn;exact absurd (hlf rfl) hno;rfl);refine zz2 ?_;refine kC fun K7 le7 hnv=>?_;have le57:=Hl.le_trans le6 le7;have le07:=Hl.le_trans le05 le57;have hb67:=le57 _ _ (le5 _ _ hb64);refine kF (fH (lW (Hl.le_trans le5 le57))) ?_;refine zz34 ?_;refine aX rfl rfl (xN bx d t1 wv nv was next x xs t.dur _ _ (Hl.le_refl _) (hx.mono le07) (hg.mono le07) (hdb.mono le07) (hE.mono le07) (hw.mono le07) hnv (hs.mono le07) hz hfw hfn aI aI hok hj hfj (hT t1 ht1)) (.cons .here .nil) rfl ?_;rintro _ K8 _ ⟨v,l2,u,rfl,hvl,hRu,hfu,hdu,rfl⟩ le8;refine zz7 ?_;refine fA rfl rfl rfl (Hl.le_trans le07 le8) ?_;exact⟨_,rfl,v,l2,u,rfl,by rcases hvl with ⟨rfl,rfl⟩|⟨rfl,rfl⟩;exact(hw.mono le07).mono le8;exact hnv.mono le8,by rcases hvl with ⟨rfl,rfl⟩|⟨rfl,rfl⟩ <;> omega,hRu,hfu,bRH hfj hdu,rfl⟩
 rw[he];obtain rfl:dn=true:=(by cases dn;exact absurd (hlf rfl) hno;rfl);refine zz2 ?_;refine kC fun K7 le7 hnv=>?_;have le57:=Hl.le_trans le6 le7;have le07:=Hl.le_trans le05 le57;have hb67:=le57 _ _ (le5 _ _ hb64);refine kF (fH (lW (Hl.le_trans le5 le57))) ?_;refine zz36 ?_;refine aX rfl rfl (xN bx d t1 wv nv was next x xs t.dur _ _ (Hl.le_refl _) (hx.mono le07) (hg.mono le07) (hdb.mono le07) (hE.mono le07) (hw.mono le07) hnv (hs.mono le07) hz hfw hfn aI aI hok hj hfj (hT t1 ht1)) (.cons .here .nil) rfl ?_;rintro _ K8 _ ⟨v,l2,u,rfl,hvl,hRu,hfu,hdu,rfl⟩ le8;refine zz7 ?_;refine fA rfl rfl rfl (Hl.le_trans le07 le8) ?_;exact⟨_,rfl,v,l2,u,rfl,by rcases hvl with ⟨rfl,rfl⟩|⟨rfl,rfl⟩;exact(hw.mono le07).mono le8;exact hnv.mono le8,by rcases hvl with ⟨rfl,rfl⟩|⟨rfl,rfl⟩ <;> omega,hRu,hfu,bRH hfj hdu,rfl⟩
end Go.Proofs
end
section
namespace Go.Proofs
open Go Go.SL Go.Syn Go.Box Go.Mach
abbrev durE:DSt:=⟨fun _=>none,fun _=>none,[],-1,-1,false⟩
theorem bPP:Box.Rest durE:=⟨rfl,rfl,rfl,rfl,rfl⟩
theorem bHI:gQ durE.dur []:=⟨fun n d=>by simp,.nil⟩
end Go.Proofs
end

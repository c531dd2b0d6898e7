/-
  What the proof stands on, part 2: the logic of walks, the walks through the functions, the plain laws. Conditions: as each theorem says. (Merged and shortened by a program.)
-/
import Derived.Test.YthopmddkpdehiaaGreatDoorK1
set_option linter.unusedVariables false
set_option linter.unusedSimpArgs false
set_option maxRecDepth 4000
set_option maxHeartbeats 1000000
namespace Go
theorem gA4{p:Prop}(h:p:=by rw[List.length_drop];omega):p:=h
theorem gAU{p:Prop}(h:p:=by rw[List.length_append];omega):p:=h
theorem gB3{p:Prop}(h:p:=by simpa[ByteArray.size]using hs):p:=h
theorem gBQ{p:Prop}(h:p:=by rw[List.length_take];omega):p:=h
end Go
section
namespace Go.SL
theorem bS7{a b:Nat}(h:Nat.beq a b=false):¬a=b:=fun e=>by subst e;rw[Nat.beq_refl]at h;cases h
section
variable{E:Env}{fr:Fr}{K:Hl}{L:List Asn}{Q:Post}{c x y:Code}{ops:Array Oper}{rest:List Oper}
theorem jY{id id':Nat}(hne:Nat.beq id' id=false)(h:D E (.exit id') fr K L Q):D E (.exit id') fr K L (Exit.inBlock id Q):=fun a w f i=>by
 show (if id'=id then _ else Q (.exit id') a w);rw[if_neg (bS7 hne)];exact h a w f i
end
theorem El.cs_take{α:Type}(k:El α)(xs:List α)(i:Nat):(k.cs xs).take (i*k.sz)=k.cs (xs.take i):=by
 induction i generalizing xs with
 |zero=>simp[El.cs]
 |succ i ih=>
  cases xs with
  |nil=>simp[El.cs]
  |cons x xs=>
   have:(i+1)*k.sz=k.sz+i*k.sz:=by rw[Nat.succ_mul];omega
   rw[this];simp only[El.cs,List.flatMap_cons,List.take_succ_cons];rw[List.take_append,k.len,Nat.add_sub_cancel_left,List.take_of_length_le (by rw[k.len];omega)];have:=ih xs;simp only[El.cs]at this;rw[this]
section
variable{E:Env}{ops:Array Oper}{eff stg:List Nat}{S:List Asn}{r:List Nat}{fr:Fr}{K:Hl}{M L:List Asn}{Q:Post}{i:Nat}{o:Oper}
theorem cE{d:Nat}(ho:ops[i]?=some o)(hd:o.dst=some d)(hg:GOk ops fr o false)(hn:Nat.blt d E.n=true)(h:DL E ops eff stg S r ((d,undef)::fr) K M Q):DL E ops eff stg S (i::r) fr K M Q:=by
 intro a f;unfold DX;simp only[ho,hg.wanted f,Bool.false_eq_true,if_false];rw[hd];exact h _ (f.put hn undef)
theorem bGX(d:Nat){b:Bool}(e:fr.get d=some (.bool b))(ht:b=true→DL E ops eff stg S r ((d,.bool true)::fr) K M Q)(hf:b=false→DL E ops eff stg S r ((d,.bool false)::fr) K M Q):DL E ops eff stg S r fr K M Q:=by
 intro a f;have key : ∀ c, b = c → FrOk E.n E.ds ((d, .bool c) :: fr) a := fun c hc => ⟨f.defers, f.size, fun k v h => by
  simp only[Fr.get]at h
  by_cases hk:d=k
  ·subst hk;simp at h;subst h;rw[←hc];exact f.get _ _ e
  rw[aWA hk]at h;exact f.get _ _ h⟩
 cases b
 ·exact hf rfl a (key _ rfl)
 exact ht rfl a (key _ rfl)
theorem jD(d:Nat){p:Prop}[Decidable p](e:fr.get d=some (.bool (decide p)))(ht:p→DL E ops eff stg S r ((d,.bool true)::fr) K M Q)(hf:¬p→DL E ops eff stg S r ((d,.bool false)::fr) K M Q):DL E ops eff stg S r fr K M Q:=
 bGX d e (fun h=>ht (of_decide_eq_true h)) (fun h=>hf (of_decide_eq_false h))
end
def slTo(v:Value)(n:Nat):Value:=
 match v with
 | .slice a _ c=>.slice a n c
 |v=>v
section
variable{E:Env}{fr:Fr}{K:Hl}{L L':List Asn}{Q:Post}{dst:Option Tmp}{ty:TypeId}{pos:String}{aft:Array Edge}{g:Option (Nat×Bool)}{x y:Operand}{t t2 t' s e sz bytes i off b:Nat}{α:Type}{k:El α}{v u:Value}{xs ys:List α}
theorem aBY{kk:IntKind}{m:Nat}{mv:Int}{hi:Operand}(ht:jS E.P t k.e k.sz=true)(hx:fr.ev x=some v)(hs:SeesSl k K L v xs)(hh:fr.ev hi=some (.int kk mv))(hmv:mv=(m:Int))(hm:m≤xs.length)
  (hle:∀w,In E.w0 E.F K L w→∀a n c,v=.slice a n c→n≤c):
  Ev E fr K L ⟨dst,.slice t x none (some hi) none,ty,pos,aft,g⟩ (slTo v m):=fun a w f j=>by
 subst hmv;obtain⟨inf,h1,h2,h3⟩:=pC ht;simp only[execOp,f.ev hx,f.ev hh,Option.map];refine eR ?_;have hu:(underlying t).run E.P w=.ok (.slice k.e) w:=by simp only[underlying,program,bind,Sem.bind,pure,Sem.run,h1]
 have hsz:(sizeOf k.e).run E.P w=.ok inf.size w:=by simp only[sizeOf,typeInfo,program,bind,Sem.bind,pure,Sem.run,h2]
 have key:∀(a:Option Addr) (n c:Nat),m≤c→(Instr.sliceAt t (.slice a n c) none (some (.int kk m)) none).run E.P w=.ok (.slice a m c) w:=by
  intro a n c hc;unfold Instr.sliceAt;rw[aV hu];simp only[Instr.slice];rw[aV hu];simp only[];have hb:(Instr.sliceBounds true n c none (some (.int kk m)) none).run E.P w=.ok (0,m,c) w:=by
   simp[Instr.sliceBounds,Instr.sliceBound,asIntOf,bind,Sem.bind,pure,hc]
  rw[aV hb];simp only[];rw[aV hsz]
  by_cases hc0:c=0
  ·subst hc0;simp[pure]
  simp only[hc0,if_false];cases a with
  |none=>simp[pure]
  |some ad=>simp[Addr.add,pure]
 rcases hs.at j with ⟨a0,c,rfl,rfl⟩|⟨b,off,cap,cells,fz,rfl,⟨u0,h4⟩,h5⟩
 ·have:m=0:=by simpa using hm
  subst this;exact key a0 0 c (Nat.zero_le _)
 exact key _ _ _ (Nat.le_trans hm (hle w j _ _ _ rfl))
theorem bKG{zf:Bool}{M:List Asn}{w0 w:World}{F:Hl}(hT:Tk (sl zf k v xs) L M)(j:In w0 F K L w):∀a n c,v=.slice a n c→n≤c:=by
 intro a n c hv;rcases(j.imp hT.sat).slCases with ⟨rfl,_,_⟩|⟨b,cap,junk,fz,rfl,_,hc,_⟩
 ·cases hv;exact Nat.le_refl _
 cases hv;exact hc
theorem fD{j o:Nat}{u:α}{c:Value}(ht:eZ E.P t=true)(hx:fr.ev x=some (nP v (j*k.sz+o)))(hs:SeesSl k K L v xs)(hj:xs[j]?=some u)(hc:(k.enc u)[o]?=some c):
  Ev E fr K L ⟨dst,.load t x,ty,pos,aft,g⟩ c:=fun a w f q=>by
 simp only[execOp,f.ev hx];refine eR ?_;have hjl:j < xs.length:=by
  rcases Nat.lt_or_ge j xs.length with h'|h'
  ·exact h'
  simp[List.getElem?_eq_none h']at hj
 have ho:o < k.sz:=by
  rw[←k.len u];rcases Nat.lt_or_ge o (k.enc u).length with h'|h'
  ·exact h'
  simp[List.getElem?_eq_none h']at hc
 rcases hs.at q with ⟨a0,c,rfl,rfl⟩|⟨b,off,cap,cells,fz,rfl,⟨u0,h4⟩,h5⟩
 ·simp at hj
 obtain⟨q1,q2⟩:=rM ht w;have hat:=k.cs_at hj (r:=[]);rw[List.append_nil,←h5]at hat
 show (loadVar t (Addr.add ⟨b,off,none⟩ (j*k.sz+o))).run E.P w=_
 rw[kG];unfold loadVar;rw[aV q1];refine zK h4 ?_;have:=congrArg (·[o]?) hat;simp only[List.getElem?_take,List.getElem?_drop,ho,if_true]at this;have hlt:j*k.sz+o < xs.length*k.sz:=by
  have:(j+1)*k.sz≤xs.length*k.sz:=Nat.mul_le_mul_right _ hjl;rw[Nat.succ_mul]at this;omega
 rw[if_pos hlt,hc]at this;exact this
end
section
variable{E:Env}{c:Code}{ops:Array Oper}{x:Exit}{fr:Fr}{K:Hl}{L:List Asn}{Q:Post}{α:Type}{z:Bool}{k:El α}{v:Value}{xs:List α}
theorem gX{l:List Oper}(h:∀K',K.le K'→Ksl k K' v xs→OL E ops l fr K' L Q):OL E ops l fr K (sl z k v xs::L) Q:=fun a w f i=>let ⟨_,h1,h2,h3⟩:=i.settleSl;h _ h1 h2 a w f h3
end
end Go.SL
end
section
namespace Go.Proofs
open Go.Shelf
def Tryz.lays145_ren:Go.Shelf.Ren:=⟨fun|145=>228|220=>295|219=>311|217=>335|225=>324|224=>323|267=>336|266=>353|314=>354|n=>n,fun|9=>9|4=>4|59=>347|3=>3|5=>5|46=>257|146=>402|51=>350|n=>n,fun|1=>1|n=>n⟩
theorem Tryz.lays145 : Go.Proofs.Lays.n145 Tryz.prog Tryz.lays145_ren := {
 mixed:=by kernel_rfl
 f145:=Tryz.func228.trans (congrArg some bJ)
 f217:=Tryz.func335.trans (congrArg some bJ)
 f219:=Tryz.func311.trans (congrArg some bJ)
 f220:=Tryz.func295.trans (congrArg some bJ)
 f224:=Tryz.func323.trans (congrArg some bJ)
 f225:=Tryz.func324.trans (congrArg some bJ)
 f266:=Tryz.func353.trans (congrArg some bJ)
 f267:=Tryz.func336.trans (congrArg some bJ)
 f314:=Tryz.func354.trans (congrArg some bJ)
 t3:=Tryz.underlying3
 a3:=Tryz.isAgg3
 z3:=Tryz.sizeOf3
 v3:=Tryz.zeroValue3
 t4:=Tryz.underlying4
 a4:=Tryz.isAgg4
 z4:=Tryz.sizeOf4
 v4:=Tryz.zeroValue4
 t5:=Tryz.underlying5
 a5:=Tryz.isAgg5
 z5:=Tryz.sizeOf5
 v5:=Tryz.zeroValue5
 t9:=Tryz.underlying9
 a9:=Tryz.isAgg9
 z9:=Tryz.sizeOf9
 v9:=Tryz.zeroValue9
 t46:=Tryz.underlying257
 a46:=Tryz.isAgg257
 z46:=Tryz.sizeOf257
 v46:=Tryz.zeroValue257
 t51:=Tryz.underlying350
 a51:=Tryz.isAgg350
 z51:=Tryz.sizeOf350
 v51:=Tryz.zeroValue350
 t59:=Tryz.underlying347
 a59:=Tryz.isAgg347
 z59:=Tryz.sizeOf347
 v59:=Tryz.zeroValue347
 t146:=Tryz.underlying402
 a146:=Tryz.isAgg402
 z146:=Tryz.sizeOf402
 v146:=Tryz.zeroValue402
 g1:=by kernel_rfl}
open Go.RowKit Go.Lib in
theorem Tryz.strings_Cut(s sep:ByteArray)(m:Int)(w:World)(hs:s.size < 4294967281)(hm:w.cell? ⟨1,0,none⟩=some (.int .i64 m)):
  Calls Tryz.prog 228 #[.string s,.string sep] w fun e w'=>e=.returned (.tuple #[.string ⟨(Lib.cut s.data.toList sep.data.toList).1.toArray⟩,.string ⟨(Lib.cut s.data.toList sep.data.toList).2.1.toArray⟩,.bool (Lib.cut s.data.toList sep.data.toList).2.2])∧∃n,w'=w.drewN n:=Any.strings_Cut Tryz.lays145 s sep m w hs hm
end Go.Proofs
end
section
namespace Go.SL
theorem aLO:∀ {o:Nat} {l cs:List Value},o+cs.length≤l.length→Spl l o cs (l.take o++cs++l.drop (o+cs.length))
 |0,l,[],h=>by simpa using Spl.nil
 |0,a::l,c::cs,h=>by
  have:=aLO (o:=0) (l:=l) (cs:=cs) (by simp at h ⊢;omega);have e:(a::l).take 0++c::cs++(a::l).drop (0+(c::cs).length)=c::(l.take 0++cs++l.drop (0+cs.length)):=by simp
  rw[e];exact .cons this
 |0,[],c::cs,h=>by simp at h
 |o+1,a::l,cs,h=>by
  have:=aLO (o:=o) (l:=l) (cs:=cs) (by simp at h;omega);have e:(a::l).take (o+1)++cs++(a::l).drop (o+1+cs.length)=a::(l.take o++cs++l.drop (o+cs.length)):=by
   have:o+1+cs.length=(o+cs.length)+1:=by omega
   rw[this];simp
  rw[e];exact .skip this
 |o+1,[],cs,h=>by simp at h
theorem aSE{α:Type}(k:El α){y:α}:∀ {xs:List α} {j:Nat} {r:List Value},j < xs.length→(k.cs xs++r).take (j*k.sz)++k.enc y++(k.cs xs++r).drop (j*k.sz+(k.enc y).length)=k.cs (xs.set j y)++r
 | [],_,_,h=>by simp at h
 |x::xs,0,r,h=>by
  simp only[Nat.zero_mul,List.take_zero,List.nil_append,Nat.zero_add,List.set_cons_zero,El.cs,List.flatMap_cons,List.append_assoc];have:(k.enc y).length=(k.enc x).length:=by rw[k.len,k.len]
  rw[this,List.drop_left]
 |x::xs,j+1,r,h=>by
  have ih:=aSE k (y:=y) (xs:=xs) (j:=j) (r:=r) gBZ;have hx:=k.len x;simp only[El.cs,List.set_cons_succ,List.flatMap_cons,List.append_assoc]at ih ⊢;have e1:(j+1)*k.sz=(k.enc x).length+j*k.sz:=by rw[Nat.succ_mul,hx];omega
  have e2:(j+1)*k.sz+(k.enc y).length=(k.enc x).length+(j*k.sz+(k.enc y).length):=by rw[e1];omega
  rw[e1,List.take_append,List.take_of_length_le aI,show (k.enc x).length+j*k.sz - (k.enc x).length=j*k.sz by omega];rw[show (k.enc x).length+j*k.sz+(k.enc y).length=(k.enc x).length+(j*k.sz+(k.enc y).length) by omega,List.drop_append,List.drop_eq_nil_of_le aI,show (k.enc x).length+(j*k.sz+(k.enc y).length) - (k.enc x).length=j*k.sz+(k.enc y).length by omega];rw[List.nil_append,List.append_assoc,ih]
section
variable{E:Env}{fr:Fr}{K:Hl}{L L':List Asn}{dst:Option Tmp}{ty:TypeId}{pos:String}{aft:Array Edge}{g:Option (Nat×Bool)}{x y:Operand}{t:TypeId}{α:Type}{k:El α}{v:Value}{xs:List α}
theorem sF{zf:Bool}{j:Nat}{y0:α}(ht:aggB E.P t k.sz=true)(hx:fr.ev x=some (nP v (j*k.sz)))(hy:fr.ev y=some (.agg (k.enc y0).toArray))(hj:j < xs.length)
  (hF:Fnd (sl zf k v xs) (sl zf k v (xs.set j y0)) L L'):EfS E fr K L ⟨dst,.store t x y,ty,pos,aft,g⟩ (fun _ K' L''=>K'=K∧L''=L'):=by
 intro a w f q;obtain⟨M,m1,m2⟩:=hF.split;rcases(q.imp m1).slCases with ⟨rfl,rfl,_⟩|⟨b,cap,junk,fz,rfl,hz,hcap,hjk,hf,q0⟩
 ·simp at hj
 have hx':fr.ev x=some (ptr b (j*k.sz)):=by rw[hx];simp[nP,kG]
 have hle:j*k.sz+k.sz≤xs.length*k.sz:=by rw[←Nat.succ_mul];exact Nat.mul_le_mul_right _ hj
 have hle2:xs.length*k.sz≤cap*k.sz:=Nat.mul_le_mul_right _ hcap;obtain⟨u,w',K',L'',hr,⟨rfl,rfl⟩,le,q1⟩:=cK (K:=K) (dst:=dst) (ty:=ty) (pos:=pos) (aft:=aft) (g:=g) (l:=k.cs xs++junk) (u:=k.e) (fz:=fz) ht hx' hy (k.len y0) (.here (L:=M)) (fun c hc=>k.one y0 c hc) (aLO (by rw[List.length_append,k.cs_length,k.len];omega)) (fun i hi=>hf.at aI) a w f q0;refine⟨u,w',_,_,hr,⟨rfl,rfl⟩,le,q1.imp fun h hh=>m2 h ?_⟩
 obtain⟨aa,l,ha,hl,hd,he⟩:=hh;refine⟨aa,l,?_,hl,hd,he⟩
 rw[aSE k hj]at ha;refine .inr ⟨b,cap,junk,fz,by rw[List.length_set],?_,by rw[List.length_set];exact hcap,by rw[List.length_set];exact hjk,hf,ha⟩
 intro h1 h2;exact hz h1 gA0
end
end Go.SL
end

/-
  What the proof stands on, part 51: the logic of walks, the walks through the functions, the plain laws. Conditions: as each theorem says. (Merged and shortened by a program.)
-/
import Derived.Test.YthopmddkpdehiaaGreatDoorK50
set_option linter.unusedVariables false
set_option linter.unusedSimpArgs false
set_option maxRecDepth 4000
set_option maxHeartbeats 1000000
section
namespace Go.SL
section
variable{P:Program}{fn:Func}{n:Nat}{w0:World}{F K0 K:Hl}{fr:Fr}{L:List Asn}{R:Ending→Hl→List Asn→Prop}{t1 t2 t3 t4:Nat}{v1 v2 v3 v4:Value}
theorem aX9(h:fn.results= #[.tmp t1,.tmp t2,.tmp t3,.tmp t4])(tmps:Array Value)(w:World)(e1:tmps.getD t1 undef=v1)(e2:tmps.getD t2 undef=v2)(e3:tmps.getD t3 undef=v3)(e4:tmps.getD t4 undef=v4):(results fn tmps).run P w=.ok (.tuple #[v1,v2,v3,v4]) w:=by
 have e1:tmps[t1]?.getD undef=v1:=by simpa using e1
 have e2:tmps[t2]?.getD undef=v2:=by simpa using e2
 have e3:tmps[t3]?.getD undef=v3:=by simpa using e3
 have e4:tmps[t4]?.getD undef=v4:=by simpa using e4
 simp[results,h,e1,e2,e3,e4,Sem.run_bind,Result.andThen]
theorem bGN(hr:fn.results= #[.tmp t1,.tmp t2,.tmp t3,.tmp t4])(h1:fr.get t1=some v1)(h2:fr.get t2=some v2)(h3:fr.get t3=some v3)(h4:fr.get t4=some v4)(le:K0.le K)(h:R (.returned (.tuple #[v1,v2,v3,v4])) K L):
  D ⟨P,n,[],w0,F⟩ .ret fr K L (yK P fn w0 F K0 R):=
 fun a w f i=>⟨f.defers,_,aX9 hr _ _ (by simp[f.get _ _ h1]) (by simp[f.get _ _ h2]) (by simp[f.get _ _ h3]) (by simp[f.get _ _ h4]),K,L,h,le,i⟩
end
end Go.SL
end
section
namespace Go.SL
section
variable{E:Env}{fr:Fr}{K:Hl}{L L':List Asn}{dst:Option Tmp}{ty:TypeId}{pos:String}{aft:Array Edge}{g:Option (Nat×Bool)}{t:TypeId}{α:Type}{k:El α}
theorem aB4(ht:jS E.P t k.e k.sz=true):EfS E fr K L ⟨dst,.buildSlice t 0 #[],ty,pos,aft,g⟩ (fun v K' L'=>K'=K∧∃b,v=.slice (some ⟨b,0,none⟩) 0 0∧L'=sl false k (.slice (some ⟨b,0,none⟩) 0 0) []::L):=by
 intro a w f j;obtain⟨inf,h1,h2,h3⟩:=pC ht;have hu:(underlying t).run E.P w=.ok (.slice k.e) w:=by simp only[underlying,program,bind,Sem.bind,pure,Sem.run,h1]
 have hsz:(sizeOf k.e).run E.P w=.ok k.sz w:=by simp only[sizeOf,typeInfo,program,bind,Sem.bind,pure,Sem.run,h2,h3]
 have hr:(Instr.buildSlice t 0 #[]).run E.P w=.ok (.slice (some ⟨w.heap.size,0,none⟩) 0 0) {w with heap:=w.heap.push (aZ [] k.e)}:=by
  unfold Instr.buildSlice;rw[aV hu];simp only[];rw[aV hsz];rw[if_neg aI,if_pos aI];rw[aV (vS _ _)];have hz:0*k.sz=0:=by omega
  simp only[hz];have e0:(Array.range 0)= #[]:=by simp
  rw[e0,Array.map_empty]
  rfl
 refine⟨.slice (some ⟨w.heap.size,0,none⟩) 0 0,_,K,sl false k (.slice (some ⟨w.heap.size,0,none⟩) 0 0) []::L,.inl ?_,⟨rfl,w.heap.size,rfl,rfl⟩,Hl.le_refl _,(j.alloc (aZ [] k.e)).imp ?_⟩
 ·simp only[execOp];have:=eR hr
  simpa using this
 rintro h ⟨x,l,hx,hl,hd,rfl⟩;refine⟨x,l,.inr ⟨w.heap.size,0,[],(0,0),rfl,(fun h=>by cases h),Nat.le_refl _,by simp,.inl (Nat.le_refl _),?_⟩,hl,hd,rfl⟩
 exact hx
end
end Go.SL
namespace Go.Cmp
open Go Go.SL Go.Syn Go.Mach
def insA(v:InsV)(o:Ins):Asn:=fun h=>(v.op=o.op∧v.n=o.n∧v.tag=o.tag∧v.oct=o.oct∧v.at_=o.at_)∧Sat [sl false (bN 9) v.a.1 o.a,sl false (bN 9) v.b.1 o.b] h
def aDP:List InsV→List Ins→List Asn
 | [],[]=>[]
 |v::vs,o::os=>insA v o::aDP vs os
 |_,_=>[fun _=>False]
def oL(vs:List InsV)(os:List Ins):Asn:=fun h=>Sat (aDP vs os) h
theorem bBF{h:Hl}:∀ {vs:List InsV} {os:List Ins},Sat (aDP vs os) h→vs.length=os.length:=by
 intro vs;induction vs generalizing h with
 |nil=>intro os hs;cases os with
  |nil=>rfl
  |cons o os=>obtain⟨_,_,hf,_⟩:=hs;exact hf.elim
 |cons v vs ih=>intro os hs;cases os with
  |nil=>obtain⟨_,_,hf,_⟩:=hs;exact hf.elim
  |cons o os=>obtain⟨_,l,_,hl,_⟩:=hs;simp[ih hl]
theorem aM7:∀ {vs:List InsV} {os:List Ins},vs.length=os.length→∀(ws:List InsV) (ps:List Ins),aDP (vs++ws) (os++ps)=aDP vs os++aDP ws ps
 | [],[],_,_,_=>rfl
 |v::vs,o::os,h,ws,ps=>by simp only[List.cons_append,aDP,aM7 (show vs.length=os.length by simpa using h) ws ps]
 | [],_::_,h,_,_=>by simp at h
 |_::_,[],h,_,_=>by simp at h
theorem aHZ{L:List Asn}:∀h,Sat L h→Sat (oL [] []::L) h:=fun h hs=>⟨.emp,h,rfl,hs,(Hl.dj_emp h).symm,(Hl.emp_join h).symm⟩
theorem aEX{vs:List InsV}{os:List Ins}{v:InsV}{o:Ins}{L:List Asn}(e1:v.op=o.op)(e2:v.n=o.n)(e3:v.tag=o.tag)(e4:v.oct=o.oct)(e5:v.at_=o.at_):
  ∀h,Sat (sl false (bN 9) v.a.1 o.a::sl false (bN 9) v.b.1 o.b::oL vs os::L) h→Sat (oL (vs++[v]) (os++[o])::L) h:=by
 intro h hs;obtain⟨ab,r,hab,⟨c,l,hc,hl,hcl,rfl⟩,hd,rfl⟩:=gE (L:=[_,_]).1 hs;have hd2:=Hl.dj_join.1 hd;refine⟨c.join ab,l,?_,hl,Hl.join_dj.2 ⟨hcl,hd2.2⟩,?_⟩
 ·show Sat (aDP (vs++[v]) (os++[o])) _
  rw[aM7 (bBF hc)];exact gE.2 ⟨c,ab,hc,⟨ab,.emp,⟨⟨e1,e2,e3,e4,e5⟩,hab⟩,rfl,Hl.dj_emp _,(Hl.join_emp _).symm⟩,hd2.1.symm,rfl⟩
 rw[←Hl.join_assoc,Hl.join_comm hd2.1]
theorem aEW{vs:List InsV}{os:List Ins}{v:InsV}{o:Ins}{L:List Asn}:
  ∀h,Sat (oL (v::vs) (o::os)::L) h→Sat (sl false (bN 9) v.a.1 o.a::sl false (bN 9) v.b.1 o.b::oL vs os::L) h:=by
 rintro h ⟨x,l,⟨a,c,⟨_,ha⟩,hc,hd,rfl⟩,hl,hdl,rfl⟩;have hd2:=Hl.join_dj.1 hdl;exact gE (L:=[_,_]).2 ⟨a,c.join l,ha,⟨c,l,hc,hl,hd2.2,rfl⟩,Hl.dj_join.2 ⟨hd,hd2.1⟩,Hl.join_assoc _ _ _⟩
theorem bAF{h:Hl}:∀ {vs:List InsV} {os:List Ins},Sat (aDP vs os) h→RIs h vs os:=by
 intro vs;induction vs generalizing h with
 |nil=>intro os hs;cases os with
  |nil=>trivial
  |cons o os=>obtain⟨_,_,hf,_⟩:=hs;exact hf.elim
 |cons v vs ih=>intro os hs;cases os with
  |nil=>obtain⟨_,_,hf,_⟩:=hs;exact hf.elim
  |cons o os=>
   obtain⟨a,l,⟨⟨e1,e2,e3,e4,e5⟩,ha⟩,hl,hd,rfl⟩:=hs;refine⟨⟨e1,e2,e3,e4,e5,(aA7 .here ha).mono Hl.le_join_l,(aA7 (.there .here) ha).mono Hl.le_join_l⟩,(ih hl).mono (Hl.le_join_r hd)⟩
theorem In.settleCode{w0 w:World}{F K:Hl}{vs:List InsV}{os:List Ins}{L:List Asn}(i:In w0 F K (oL vs os::L) w):∃K',K.le K'∧RIs K' vs os∧In w0 F K' L w:=by
 obtain⟨h1,hs,d,i1⟩:=In.freeze (L1:=[oL vs os]) i;obtain⟨a,b,ha,hb,hd,rfl⟩:=hs;refine⟨_,Hl.le_join_l,(bAF ha).mono (Hl.le_trans Hl.le_join_l (Hl.le_join_r d)),i1⟩
section
variable{E:Env}{ops:Array Oper}{c:Code}{x:Exit}{fr:Fr}{K:Hl}{L:List Asn}{Q:Post}{vs:List InsV}{os:List Ins}
theorem aMM{l:List Oper}(h:∀K',K.le K'→RIs K' vs os→OL E ops l fr K' L Q):OL E ops l fr K (oL vs os::L) Q:=fun a w f i=>let ⟨_,h1,h2,h3⟩:=In.settleCode i;h _ h1 h2 a w f h3
end
end Go.Cmp
end

/-
  What the proof stands on, part 39: the logic of walks, the walks through the functions, the plain laws. Conditions: as each theorem says. (Merged and shortened by a program.)
-/
import Derived.Test.YthopmddkpdehiabGreatDoorK37
set_option linter.unusedVariables false
set_option linter.unusedSimpArgs false
set_option linter.defProp false
set_option maxRecDepth 4000
set_option maxHeartbeats 1000000
section
namespace Go.Say
open Go.Syn Go.Mach Go.Cmp
def snd(o:Ins)(pc n d:Int):Bool:=
 if o.op=1 then decide ((o.n=0∨o.n=1)∧d < 8)
 else if o.op=2 then decide (0 < d)
 else if o.op=3 then decide (0≤o.n∧o.n≤n - pc - 1)
 else if o.op=4∨o.op=5 then decide ((0 < d∧0≤o.n)∧o.n≤n - pc - 1)
 else if o.op=6∨o.op=7∨o.op=8 then decide ((1≤o.tag∧o.tag≤3)∧d < 8)
 else if o.op=9 then decide (d < 8)
 else if o.op=10 then decide ((o.tag=1∨o.tag=2)∧d < 8)
 else if o.op=11 then decide (o.tag=1∨(2≤o.tag∧o.tag≤4)∧0 < o.a.length)
 else if o.op=12 then decide (((0≤o.tag∧o.tag≤3)∧0 < o.a.length)∧0 < o.b.length)
 else decide (o.op=13∨o.op=14)
section
variable{nm:Bool}{m:Msg}{o:Ins}{c:Co}{stk:List Bool}{pc n:Nat}
def aMZ{b:Bool}(h:¬stk.length < 8):Mach.push (c.mx stk pc) b=.error (12,pc):=x5 h
def bEV(h:¬0 < stk.length):Mach.pop (c.mx stk pc)=.error (12,pc):=by
 have:stk=[]:=by cases stk with|nil=>rfl|cons x l=>simp at h
 subst this;rfl
def aFS{b:Bool}(h:stk.getLast?=some b):Mach.pop (c.mx stk pc)=.ok (b,c.mx stk.dropLast pc):=by
 unfold Mach.pop;rw[show (c.mx stk pc).stack=stk from rfl,h];rfl
def aVY{by_:Int}{yes:Bool}(h:¬(0≤by_∧by_≤(n:Int) - pc - 1)):Mach.jump (c.mx stk pc) by_ n yes=.error (12,pc):=by
 unfold Mach.jump;rw[x5 (by show ¬(0≤by_∧by_ < (n:Int) - pc);omega)];rfl
def step_bad(h:snd o pc n stk.length=false):o.op≠14∧Mach.step nm m n o (c.mx stk pc)=.error (12,pc):=by
 have hl:∀ {x:List Bool} {b:Bool},stk.getLast?=some b→x=stk.dropLast→x.length < 8∨8≤x.length:=fun _ _=>by omega
 unfold snd at h;unfold Mach.step
 by_cases h1:o.op=1
 ·rw[x7 h1]at h ⊢;have h:=xA1 h;refine⟨by omega,?_⟩
  by_cases hn:o.n=0∨o.n=1
  ·rw[x7 hn];exact aMZ (fun hh=>h ⟨hn,by omega⟩)
  rw[x5 hn];rfl
 rw[x5 h1]at h ⊢
 by_cases h2:o.op=2
 ·rw[x7 h2]at h ⊢;have h:=xA1 h;exact⟨by omega,by rw[bEV aH]⟩
 rw[x5 h2]at h ⊢
 by_cases h3:o.op=3
 ·rw[x7 h3]at h ⊢;have h:=xA1 h;exact⟨by omega,aVY h⟩
 rw[x5 h3]at h ⊢;have key:o.op=4∨o.op=5→∀(g:Bool→Bool),(match Mach.pop (c.mx stk pc)with| .error e=>(.error e:Res MS)| .ok r=>jump r.2 o.n n (g r.1))=.error (12,pc):=by
  intro h45 g;rw[x7 h45]at h;have h:=xA1 h
  by_cases hd:0 < stk.length
  ·obtain⟨b,hb⟩:∃b,stk.getLast?=some b:=by
    cases hs:stk.getLast? with
    |some b=>exact⟨b,Y⟩
    |none=>rw[List.getLast?_eq_none_iff]at hs;subst hs;simp at hd
   rw[aFS hb];exact aVY (fun hh=>h ⟨⟨by omega,hh.1⟩,hh.2⟩)
  rw[bEV hd]
 by_cases h4:o.op=4
 ·rw[x7 h4];exact⟨by omega,key (.inl h4) id⟩
 rw[x5 h4]
 by_cases h5:o.op=5
 ·rw[x7 h5];exact⟨by omega,key (.inr h5) (!·)⟩
 rw[x5 h5];rw[x5 aH]at h
 by_cases h6:o.op=6∨o.op=7∨o.op=8
 ·rw[x7 h6]at h ⊢;have h:=xA1 h;refine⟨by omega,?_⟩
  unfold matchI;rw[x5 (fun hh=>h ⟨⟨hh.1,hh.2.1⟩,by have:=hh.2.2;show (stk.length:Int) < 8;have e:(c.mx stk pc).stack.length=stk.length:=rfl;omega⟩)]
  rfl
 rw[x5 h6]at h ⊢
 by_cases h9:o.op=9
 ·rw[x7 h9]at h ⊢;have h:=xA1 h;exact⟨by omega,aMZ aH⟩
 rw[x5 h9]at h ⊢
 by_cases h10:o.op=10
 ·rw[x7 h10]at h ⊢;have h:=xA1 h;refine⟨by omega,?_⟩
  by_cases ht:o.tag=1∨o.tag=2
  ·rw[x7 ht];exact aMZ (fun hh=>h ⟨ht,by omega⟩)
  rw[x5 ht];rfl
 rw[x5 h10]at h ⊢
 by_cases h11:o.op=11
 ·rw[x7 h11]at h ⊢;have h:=xA1 h;refine⟨by omega,?_⟩
  unfold actI;rw[x5 (fun hh=>h (hh.imp id fun q=>⟨⟨q.1,q.2.1⟩,List.length_pos_iff.2 q.2.2⟩))]
  rfl
 rw[x5 h11]at h ⊢
 by_cases h12:o.op=12
 ·rw[x7 h12]at h ⊢;have h:=xA1 h;refine⟨by omega,?_⟩
  unfold setI
  by_cases ht:0≤o.tag∧o.tag≤3
  ·rw[x7 ht];split
   ·rename_i ha hb;exact absurd ⟨⟨ht,by rw[ha];simp⟩,by rw[hb];simp⟩ h
   rfl
  rw[x5 ht];rfl
 rw[x5 h12]at h ⊢;have h:=xA1 h;exact⟨by omega,by rw[x5 aH];rfl⟩
end
section
open Go.Proofs
variable{nm:Bool}{m:Msg}{code:List Ins}{o:Ins}{c d:Co}{stk stk':List Bool}{pc pc' st:Nat}{q:ExI}
def XAt.stop(h:XAt nm m code c stk pc st o)(h14:o.op=14):XEnd nm m code c (st+1) true 0 0:=by
 refine⟨.ok (true,c),⟨Y,Y,Y,Y⟩,(fun z hz=>by cases hz),(fun x hx=>by cases hx;exact h.inv),?_⟩
 obtain⟨f,hf,hr⟩:=h.run;rw[hr,Mach.loop,show (c.mx stk pc).pc=pc from rfl,h.at_];simp only[if_pos h14]
 rfl
def XAt.last(h:XAt nm m code c stk pc st o)(h14:o.op=14):XNext nm m code pc st ⟨c,stk,pc+1,st+1,true,0,0⟩:=⟨⟨h.s8,(by have:=h.sp;show st+1≤pc+1;omega),h.lt,.inr ⟨rfl,h.stop h14⟩⟩,rfl,.inl rfl⟩
end
end Go.Say
end
section
namespace Go.Proofs
open Go Go.SL Go.Syn Go.Mach
open Go.Say (Co ExI XInv XEnd XAt)
open Go.Cmp (cnt cT RIs InsV)
def OutV(o:Mach.Out)(av:Value):Value:=.agg #[av,i64 (match o.err with|some y=>y.1|none=>0),i64 (match o.err with|some y=>y.2|none=>0)]
end Go.Proofs
end

/-
  What the proof stands on, part 37: the logic of walks, the walks through the functions, the plain laws. Conditions: as each theorem says. (Merged and shortened by a program.)
-/
import Derived.ChangeReads
import Derived.ProofKit
import Derived.SizedLaws
import Derived.Test.YthopmddkpdehiaaGreatDoorK1
set_option linter.unusedVariables false
set_option linter.unusedSimpArgs false
set_option maxRecDepth 4000
set_option maxHeartbeats 1000000
section
namespace Go.SL
section
variable{H:Type}{enc:TypeId×Value→H}{P:Program}{w:World}{base:Nat}{sp:Nat→Bool}{held:Bool}{n:Nat}{t:TypeId}{cs:List Value}{x:DataW H×List MemPlace}
theorem zL{α β:Type}{f:α→Option β}:∀ {l:List α} {r:List β},l.mapM f=some r→r.length=l.length∧∀(i:Nat) (a:α),l[i]?=some a→∃y,f a=some y∧r[i]?=some y
 | [],r,h=>by simp at h;subst h;exact⟨rfl,fun i a h=>by simp at h⟩
 |b::l,r,h=>by
  rw[List.mapM_cons]at h;cases hb:f b with
  |none=>simp[hb]at h
  |some y=>
   simp[hb]at h;cases hl:l.mapM f with
   |none=>simp[hl]at h
   |some ys=>
    simp[hl]at h;subst h;obtain⟨h1,h2⟩:=zL hl;refine⟨by simp[h1],fun i a hi=>?_⟩
    cases i with
    |zero=>simp at hi;subst hi;exact⟨y,hb,rfl⟩
    |succ i=>simpa using h2 i a (by simpa using hi)
theorem wH(h:DataW.trod enc P w base sp held n t cs=some x):∃m,n=m+1∧DataW.trodStep enc P w base sp held (DataW.trod enc P w base sp held m) t cs=some x:=by
 cases n with
 |zero=>simp[DataW.trod]at h
 |succ m=>exact⟨m,rfl,h⟩
theorem aVT(hu:P.underlying t=some .string)(h:DataW.trod enc P w base sp held n t cs=some x):∃l:List UInt8,cs=[str l]∧x.1=.lit (.string l):=by
 obtain⟨m,hm0,h2⟩:=wH h;clear h;have h:=h2;clear h2 hm0;unfold DataW.trodStep at h;rw[hu]at h;cases cs with
 |nil=>simp at h
 |cons c r=>
  cases r with
  |cons c2 r2=>cases c <;> simp at h
  |nil=>
   cases c <;> simp at h
   rename_i s;refine⟨s.data.toList,?_,by rw[←h.2]⟩
   cases s;simp
theorem rS{k:IntKind}(hu:P.underlying t=some (.int k))(h:DataW.trod enc P w base sp held n t cs=some x):∃i:Int,cs=[.int k i]∧(Lit.int k i).wf=true:=by
 obtain⟨m,hm0,h2⟩:=wH h;clear h;have h:=h2;clear h2 hm0;unfold DataW.trodStep at h;rw[hu]at h;cases cs with
 |nil=>simp at h
 |cons c r=>
  cases r with
  |cons c2 r2=>cases c <;> simp at h
  |nil=>
   cases c <;> simp at h
   rename_i k' i;obtain⟨⟨rfl,h2⟩,_⟩:=h;exact⟨i,rfl,h2⟩
theorem aFB{fs:Array Field}(hu:P.underlying t=some (.struct fs))(h:DataW.trod enc P w base sp held n t cs=some x):
  ∃m,cs.length=P.cellsOf t∧∀(i:Nat) f,fs.toList[i]?=some f→∃y,DataW.trod enc P w base sp held m f.type ((cs.drop f.offset).take (P.cellsOf f.type))=some y∧(∀n∈y.1.weights P f.type,n∈x.1.weights P t)∧∃parts,x.1=.agg parts∧y.1∈parts:=by
 obtain⟨m,hm0,h2⟩:=wH h;clear h;have h:=h2;clear h2 hm0;unfold DataW.trodStep at h;rw[hu]at h;simp only[]at h;split at h
 ·rename_i hl;refine⟨m,hl,fun i f hf=>?_⟩
  cases hm:fs.toList.mapM fun f=>DataW.trod enc P w base sp held m f.type ((cs.drop f.offset).take (P.cellsOf f.type))with
  |none=>rw[hm]at h;cases h
  |some r=>
   rw[hm]at h;have hx:=Option.some.inj h;obtain⟨y,h1,h2⟩:=(zL hm).2 i f hf;refine⟨y,h1,fun n hn=>?_,r.map (·.1),by rw[←hx],List.mem_map_of_mem (List.mem_of_getElem? h2)⟩
   rw[←hx];simp only[DataW.weights,hu];exact DataW.weights_mem_each (j:=i) (by simp[hf]) (by simp[h2]) n hn
 cases h
theorem yI{e:TypeId}{d:DataW H}:∀ {l:List (DataW H)},d∈l→∀n∈d.weights P e,n∈DataW.weightsAll P e l
 | [],h,_,_=>by cases h
 |a::l,h,n,hn=>by
  rw[DataW.weightsAll,List.mem_append];rcases List.mem_cons.1 h with rfl|h
  ·exact .inl hn
  exact .inr (yI h n hn)
theorem aHB{α:Type}{Q:Nat→α→Prop}:∀n,(∀i,i < n→∃a,Q i a)→∃xs:List α,xs.length=n∧∀i x,xs[i]?=some x→Q i x
 |0,_=>⟨[],rfl,fun i x h=>by simp at h⟩
 |n+1,h=>by
  obtain⟨xs,h1,h2⟩:=aHB n fun i hi=>h i aI
  obtain⟨a,ha⟩:=h n aI;refine⟨xs++[a],by simp[h1],fun i x hx=>?_⟩
  rcases Nat.lt_or_ge i xs.length with hi|hi
  ·rw[List.getElem?_append_left hi]at hx;exact h2 i x hx
  rw[List.getElem?_append_right hi]at hx;have:i=n:=by
   rcases Nat.lt_or_ge (i - xs.length) 1 with h'|h'
   ·omega
   rw[List.getElem?_eq_none (by simpa using h')]at hx;cases hx
  subst this;have e:i - xs.length=0:=by omega
  rw[e]at hx;simp at hx;subst hx;exact ha
theorem aZ3(μ:DataW H→Nat)(hμ:∀(l r:List (DataW H)) (d:DataW H),d∈l→μ d≤μ (.slice l r)){α:Type}{k:El α}{G:α→Prop}{v:Value}(hu:P.underlying t=some (.slice k.e))(hc:P.cellsOf k.e=k.sz)(hsz:0 < k.sz)
  (helt:∀n cs y,DataW.trod enc P w base sp held n k.e cs=some y→(∀n∈y.1.weights P k.e,n∈x.1.weights P t)→μ y.1≤μ x.1→∃a,cs=k.enc a∧G a) (h:DataW.trod enc P w base sp held n t [v]=some x):
  ∃xs,Ksl k (hp w) v xs∧(∀a∈xs,G a)∧(xs=[]∨∃n∈x.1.weights P t,xs.length*P.bytesOf k.e≤n):=by
 obtain⟨m,hm0,h2⟩:=wH h;clear h;have h:=h2;clear h2 hm0;unfold DataW.trodStep at h;rw[hu]at h;cases v with
 |slice a len cap=>
  cases a with
  |none=>
   cases len with
   |succ l=>simp at h
   |zero=>exact⟨[],.inl ⟨none,cap,rfl,rfl⟩,by simp,by simp⟩
  |some a=>
   simp only[hc]at h;split at h
   ·rename_i hb;cases hm:(List.range len).mapM fun i=>(w.cells? base (a.add (i*k.sz)) k.sz).bind (DataW.trod enc P w base sp held m k.e)with
    |none=>rw[hm]at h;cases h
    |some r=>
     rw[hm]at h;obtain⟨rest,hrest,hx⟩:∃rest,True∧x=(DataW.slice (r.map (·.1)) (rest.map (·.1)),MemPlace.row a ((r.length+rest.length)*k.sz)++(r++rest).flatMap (·.2)):=by
      simp only[Option.bind_some]at h;split at h
      ·cases h2:((List.range (cap - len)).mapM fun j=>(w.cells? base (a.add ((len+j)*k.sz)) k.sz).bind (DataW.trod enc P w base sp held m k.e))with
       |none=>rw[h2]at h;cases h
       |some rest=>rw[h2]at h;exact⟨rest,trivial,(Option.some.inj h).symm⟩
      exact⟨[],trivial,(Option.some.inj h).symm⟩
     clear h;have hw1:∀y∈r,∀n∈y.1.weights P k.e,n∈x.1.weights P t:=by
      intro y hy n hn;rw[hx];simp only[DataW.weights,hu];exact List.mem_cons_of_mem _ (List.mem_append_left _ (yI (List.mem_map_of_mem hy) n hn))
     have hw3:∀y∈r,μ y.1≤μ x.1:=fun y hy=>by rw[hx];exact hμ _ _ _ (List.mem_map_of_mem hy)
     have hw2:(r.length+rest.length)*P.bytesOf k.e∈x.1.weights P t:=by
      rw[hx];simp only[DataW.weights,hu,List.length_map];exact List.mem_cons_self
     have hrl:r.length=len:=by have:=(zL hm).1;simpa using this
     by_cases hl0:len=0
     ·subst hl0;exact⟨[],.inl ⟨some a,cap,rfl,rfl⟩,by simp,by simp⟩
     have hel:∀i,i < len→∃y:α,w.cells? base (a.add (i*k.sz)) k.sz=some (k.enc y)∧G y:=by
      intro i hi;obtain⟨z,hz,hzr⟩:=(zL hm).2 i i (by simp[hi]);cases hcs:w.cells? base (a.add (i*k.sz)) k.sz with
      |none=>rw[hcs]at hz;cases hz
      |some ds=>
       rw[hcs]at hz;obtain⟨y,rfl,hG⟩:=helt m ds z hz (hw1 z (List.mem_of_getElem? hzr)) (hw3 z (List.mem_of_getElem? hzr));exact⟨y,rfl,hG⟩
     obtain⟨xs,hx1,hx2⟩:=aHB len hel;have hcell:∀i y,xs[i]?=some y→∀j,j < k.sz→∃c,(k.enc y)[j]?=some c∧w.cell? ((a.add (i*k.sz)).add j)=some c:=by
      intro i y hy j hj;have h1:=(hx2 i y hy).1;unfold World.cells? at h1;split at h1
      ·obtain⟨_,h3⟩:=zL h1;obtain⟨c,h4,h5⟩:=h3 j j (by simp[hj]);exact⟨c,h5,h4⟩
      cases h1
     obtain⟨y0,hy0⟩:∃y,xs[0]?=some y:=⟨xs[0]'(by omega),List.getElem?_eq_getElem aI⟩;obtain⟨c0,_,hc0⟩:=hcell 0 y0 hy0 0 hsz;obtain⟨b,off,spot⟩:=a;have hsp:spot=none:=by
      have:=World.cell?_spot hc0
      simpa[Addr.add]using this
     subst hsp;have hcl:∀i y,xs[i]?=some y→∀j,j < k.sz→∃c,(k.enc y)[j]?=some c∧w.cell? ⟨b,off+i*k.sz+j,none⟩=some c:=by
      intro i y hy j hj;obtain⟨c,h1,h2⟩:=hcell i y hy j hj;rw[kG,kG]at h2;exact⟨c,h1,h2⟩
     have hblk:∃cells u fz,w.heap[b]?=some (aZ cells u fz):=by
      obtain⟨c,_,h2⟩:=hcl 0 y0 hy0 0 hsz;unfold World.cell? at h2;cases hw:w.heap[b]? with
      |none=>simp[hw]at h2
      |some o=>
       cases o <;> simp[hw]at h2
       rename_i arr u fz;exact⟨arr.toList,u,fz,by simp⟩
     obtain⟨cells,u,fz,hblk⟩:=hblk;have hcl2:∀i y,xs[i]?=some y→∀j,j < k.sz→(k.enc y)[j]?=cells[off+i*k.sz+j]?:=by
      intro i y hy j hj;obtain⟨c,h1,h2⟩:=hcl i y hy j hj;have h3:cells[off+i*k.sz+j]?=some c:=by simpa[World.cell?,hblk]using h2
      rw[h1,h3]
     refine⟨xs,.inr ⟨b,off,cap,cells,fz,by rw[hx1],⟨u,hblk⟩,?_⟩,fun y hy=>?_,.inr ⟨_,hw2,Nat.mul_le_mul_right _ aI⟩⟩
     ·have key:∀(ys:List α) (o:Nat),(∀i y,ys[i]?=some y→∀j,j < k.sz→(k.enc y)[j]?=cells[o+i*k.sz+j]?)→(cells.drop o).take (ys.length*k.sz)=k.cs ys:=by
       intro ys;induction ys with
       |nil=>intro o _;simp[El.cs]
       |cons y ys ih=>
        intro o hh;have h1 := ih (o + k.sz) (fun i z hz j hj => by
         have:=hh (i+1) z (by simpa using hz) j hj;rw[this];congr 1;rw[Nat.succ_mul];omega)
        have h0:(cells.drop o).take k.sz=k.enc y:=by
         refine List.ext_getElem? fun j=>?_;rw[List.getElem?_take];split
         ·rename_i hj;rw[List.getElem?_drop];have:=hh 0 y rfl j hj
          simpa using this.symm
         rename_i hj;rw[List.getElem?_eq_none (by rw[k.len];omega)]
        show (cells.drop o).take ((ys.length+1)*k.sz)=k.enc y++k.cs ys
        rw[←h0,←h1,Nat.succ_mul,Nat.add_comm,List.take_add,List.drop_drop]
      exact key xs off (fun i y hy j hj=>hcl2 i y hy j hj)
     obtain⟨i,hi⟩:=List.getElem?_of_mem hy;exact(hx2 i y hi).2
   cases h
 |_=>simp at h
end
end Go.SL
end

/-
  What the proof stands on, part 21: the logic of walks, the walks through the functions, the plain laws. Conditions: as each theorem says. (Merged and shortened by a program.)
-/
import Derived.ChangeReads
import Derived.ProofKit
import Derived.SizedLaws
import Derived.Test.YthopmddkpdehiabGreatDoorRows
import Derived.Lib.LaidTab
import Derived.LaidMore
import Derived.LaidHandle
import Derived.HandedShaped
import Derived.Shelf.Vars
import Derived.Stop.LaidErr
import Derived.OpenShut
import Derived.Test.YthopmddkpdehiabGreatDoorK20
set_option linter.unusedVariables false
set_option linter.unusedSimpArgs false
set_option linter.defProp false
set_option maxRecDepth 4000
set_option maxHeartbeats 1000000
section
namespace Go.SL
section
variable{H:Type}{enc:TypeId×Value→H}{P:Program}{w:World}{base:Nat}{sp:Nat→Bool}{held:Bool}{n:Nat}{t:TypeId}{cs:List Value}{x:DataW H×List MemPlace}
def xN{α β:Type}{f:α→Option β}:∀ {l:List α} {r:List β},l.mapM f=some r→r.length=l.length∧∀(i:Nat) (a:α),l[i]?=some a→∃y,f a=some y∧r[i]?=some y
 | [],r,h=>by simp at h;subst h;exact⟨Y,fun i a h=>by simp at h⟩
 |b::l,r,h=>by
  rw[List.mapM_cons]at h;cases hb:f b with
  |none=>simp[hb]at h
  |some y=>
   simp[hb]at h;cases hl:l.mapM f with
   |none=>simp[hl]at h
   |some ys=>
    simp[hl]at h;subst h;obtain⟨h1,h2⟩:=xN hl;refine⟨by simp[h1],fun i a hi=>?_⟩
    cases i with
    |zero=>simp at hi;subst hi;exact⟨y,hb,Y⟩
    |succ i=>simpa using h2 i a (by simpa using hi)
def sS(h:DataW.trod enc P w base sp held n t cs=some x):∃m,n=m+1∧DataW.trodStep enc P w base sp held (DataW.trod enc P w base sp held m) t cs=some x:=by
 cases n with
 |zero=>simp[DataW.trod]at h
 |succ m=>exact⟨m,Y,h⟩
def bG2(hu:P.underlying t=some .string)(h:DataW.trod enc P w base sp held n t cs=some x):∃l:List UInt8,cs=[str l]∧x.1=.lit (.string l):=by
 obtain⟨m,hm0,h2⟩:=sS h;clear h;have h:=h2;clear h2 hm0;unfold DataW.trodStep at h;rw[hu]at h;cases cs with
 |nil=>simp at h
 |cons c r=>
  cases r with
  |cons c2 r2=>cases c <;> simp at h
  |nil=>
   cases c <;> simp at h
   rename_i s;refine⟨s.data.toList,?_,by rw[←h.2]⟩
   cases s;simp
def rI{k:IntKind}(hu:P.underlying t=some (.int k))(h:DataW.trod enc P w base sp held n t cs=some x):∃i:Int,cs=[.int k i]∧(Lit.int k i).wf=true:=by
 obtain⟨m,hm0,h2⟩:=sS h;clear h;have h:=h2;clear h2 hm0;unfold DataW.trodStep at h;rw[hu]at h;cases cs with
 |nil=>simp at h
 |cons c r=>
  cases r with
  |cons c2 r2=>cases c <;> simp at h
  |nil=>
   cases c <;> simp at h
   rename_i k' i;obtain⟨⟨rfl,h2⟩,_⟩:=h;exact⟨i,Y,h2⟩
def bBB(hu:P.underlying t=some .bool)(h:DataW.trod enc P w base sp held n t cs=some x):∃b:Bool,cs=[.bool b]:=by
 obtain⟨m,hm0,h2⟩:=sS h;clear h;have h:=h2;clear h2 hm0;unfold DataW.trodStep at h;rw[hu]at h;cases cs with
 |nil=>simp at h
 |cons c r=>
  cases r with
  |cons c2 r2=>cases c <;> simp at h
  |nil=>
   cases c <;> simp at h
   rename_i b;exact⟨b,Y⟩
def aNT{fs:Array Field}(hu:P.underlying t=some (.struct fs))(h:DataW.trod enc P w base sp held n t cs=some x):
  ∃m,cs.length=P.cellsOf t∧∀(i:Nat) f,fs.toList[i]?=some f→∃y,DataW.trod enc P w base sp held m f.type ((cs.drop f.offset).take (P.cellsOf f.type))=some y∧(∀n∈y.1.weights P f.type,n∈x.1.weights P t)∧∃parts,x.1=.agg parts∧y.1∈parts:=by
 obtain⟨m,hm0,h2⟩:=sS h;clear h;have h:=h2;clear h2 hm0;unfold DataW.trodStep at h;rw[hu]at h;simp only[]at h;split at h
 ·rename_i hl;refine⟨m,hl,fun i f hf=>?_⟩
  cases hm:fs.toList.mapM fun f=>DataW.trod enc P w base sp held m f.type ((cs.drop f.offset).take (P.cellsOf f.type))with
  |none=>rw[hm]at h;cases h
  |some r=>
   rw[hm]at h;have hx:=xAY h;obtain⟨y,h1,h2⟩:=(xN hm).2 i f hf;refine⟨y,h1,fun n hn=>?_,r.map (·.1),by rw[←hx],List.mem_map_of_mem (x8 h2)⟩
   rw[←hx];simp only[DataW.weights,hu];exact DataW.weights_mem_each (j:=i) (by simp[hf]) (by simp[h2]) n hn
 cases h
def uF{fs:Array Field}(hu:P.underlying t=some (.struct fs))(h:DataW.trod enc P w base sp held n t cs=some x):
  ∃m,cs.length=P.cellsOf t∧∀(i:Nat) f,fs.toList[i]?=some f→∃y,DataW.trod enc P w base sp held m f.type ((cs.drop f.offset).take (P.cellsOf f.type))=some y∧∀n∈y.1.weights P f.type,n∈x.1.weights P t:=
 let ⟨m,h1,h2⟩:=aNT hu h;⟨m,h1,fun i f hf=>let ⟨y,h3,h4,_⟩:=h2 i f hf;⟨y,h3,h4⟩⟩
def wR{e:TypeId}{d:DataW H}:∀ {l:List (DataW H)},d∈l→∀n∈d.weights P e,n∈DataW.weightsAll P e l
 | [],h,_,_=>by cases h
 |a::l,h,n,hn=>by
  rw[DataW.weightsAll,xAT];rcases List.mem_cons.1 h with rfl|h
  ·exact .inl hn
  exact .inr (wR h n hn)
def aEL{α:Type}{Q:Nat→α→Prop}:∀n,(∀i,i < n→∃a,Q i a)→∃xs:List α,xs.length=n∧∀i x,xs[i]?=some x→Q i x
 |0,_=>⟨[],rfl,fun i x h=>by simp at h⟩
 |n+1,h=>by
  obtain⟨xs,h1,h2⟩:=aEL n fun i hi=>h i aH
  obtain⟨a,ha⟩:=h n aH;refine⟨xs++[a],by simp[h1],fun i x hx=>?_⟩
  rcases xAC i xs.length with hi|hi
  ·rw[xA5 hi]at hx;exact h2 i x hx
  rw[xBK hi]at hx;have:i=n:=by
   rcases xAC (i - xs.length) 1 with h'|h'
   ·omega
   rw[xAD (by simpa using h')]at hx;cases hx
  subst this;have e:i - xs.length=0:=by omega
  rw[e]at hx;simp at hx;subst hx;exact ha
def bIR(μ:DataW H→Nat)(hμ:∀(l r:List (DataW H)) (d:DataW H),d∈l→μ d≤μ (.slice l r)){α:Type}{k:El α}{G:α→Prop}{v:Value}(hu:P.underlying t=some (.slice k.e))(hc:P.cellsOf k.e=k.sz)(hsz:0 < k.sz)
  (helt:∀n cs y,DataW.trod enc P w base sp held n k.e cs=some y→(∀n∈y.1.weights P k.e,n∈x.1.weights P t)→μ y.1≤μ x.1→∃a,cs=k.enc a∧G a) (h:DataW.trod enc P w base sp held n t [v]=some x):
  ∃xs,Ksl k (hp w) v xs∧(∀a∈xs,G a)∧(xs=[]∨∃n∈x.1.weights P t,xs.length*P.bytesOf k.e≤n):=by
 obtain⟨m,hm0,h2⟩:=sS h;clear h;have h:=h2;clear h2 hm0;unfold DataW.trodStep at h;rw[hu]at h;cases v with
 |slice a len cap=>
  cases a with
  |none=>
   cases len with
   |succ l=>simp at h
   |zero=>exact⟨[],.inl ⟨none,cap,Y,Y⟩,by simp,by simp⟩
  |some a=>
   simp only[hc]at h;split at h
   ·rename_i hb;cases hm:(List.range len).mapM fun i=>(w.cells? base (a.add (i*k.sz)) k.sz).bind (DataW.trod enc P w base sp held m k.e)with
    |none=>rw[hm]at h;cases h
    |some r=>
     rw[hm]at h;obtain⟨rest,hrest,hx⟩:∃rest,True∧x=(DataW.slice (r.map (·.1)) (rest.map (·.1)),MemPlace.row a ((r.length+rest.length)*k.sz)++(r++rest).flatMap (·.2)):=by
      simp only[Option.bind_some]at h;split at h
      ·cases h2:((List.range (cap - len)).mapM fun j=>(w.cells? base (a.add ((len+j)*k.sz)) k.sz).bind (DataW.trod enc P w base sp held m k.e))with
       |none=>rw[h2]at h;cases h
       |some rest=>rw[h2]at h;exact⟨rest,trivial,(xAY h).symm⟩
      exact⟨[],trivial,(xAY h).symm⟩
     clear h;have hw1:∀y∈r,∀n∈y.1.weights P k.e,n∈x.1.weights P t:=by
      intro y hy n hn;rw[hx];simp only[DataW.weights,hu];exact List.mem_cons_of_mem _ (List.mem_append_left _ (wR (List.mem_map_of_mem hy) n hn))
     have hw3:∀y∈r,μ y.1≤μ x.1:=fun y hy=>by rw[hx];exact hμ _ _ _ (List.mem_map_of_mem hy)
     have hw2:(r.length+rest.length)*P.bytesOf k.e∈x.1.weights P t:=by
      rw[hx];simp only[DataW.weights,hu,List.length_map];exact List.mem_cons_self
     have hrl:r.length=len:=by have:=(xN hm).1;simpa using this
     by_cases hl0:len=0
     ·subst hl0;exact⟨[],.inl ⟨some a,cap,Y,Y⟩,by simp,by simp⟩
     have hel:∀i,i < len→∃y:α,w.cells? base (a.add (i*k.sz)) k.sz=some (k.enc y)∧G y:=by
      intro i hi;obtain⟨z,hz,hzr⟩:=(xN hm).2 i i (by simp[hi]);cases hcs:w.cells? base (a.add (i*k.sz)) k.sz with
      |none=>rw[hcs]at hz;cases hz
      |some ds=>
       rw[hcs]at hz;obtain⟨y,rfl,hG⟩:=helt m ds z hz (hw1 z (x8 hzr)) (hw3 z (x8 hzr));exact⟨y,Y,hG⟩
     obtain⟨xs,hx1,hx2⟩:=aEL len hel;have hcell:∀i y,xs[i]?=some y→∀j,j < k.sz→∃c,(k.enc y)[j]?=some c∧w.cell? ((a.add (i*k.sz)).add j)=some c:=by
      intro i y hy j hj;have h1:=(hx2 i y hy).1;unfold World.cells? at h1;split at h1
      ·obtain⟨_,h3⟩:=xN h1;obtain⟨c,h4,h5⟩:=h3 j j (by simp[hj]);exact⟨c,h5,h4⟩
      cases h1
     obtain⟨y0,hy0⟩:∃y,xs[0]?=some y:=⟨xs[0]'(by omega),x4 aH⟩;obtain⟨c0,_,hc0⟩:=hcell 0 y0 hy0 0 hsz;obtain⟨b,off,spot⟩:=a;have hsp:spot=none:=by
      have:=World.cell?_spot hc0
      simpa[Addr.add]using this
     subst hsp;have hcl:∀i y,xs[i]?=some y→∀j,j < k.sz→∃c,(k.enc y)[j]?=some c∧w.cell? ⟨b,off+i*k.sz+j,none⟩=some c:=by
      intro i y hy j hj;obtain⟨c,h1,h2⟩:=hcell i y hy j hj;rw[lI,lI]at h2;exact⟨c,h1,h2⟩
     have hblk:∃cells u fz,w.heap[b]?=some (bL cells u fz):=by
      obtain⟨c,_,h2⟩:=hcl 0 y0 hy0 0 hsz;unfold World.cell? at h2;cases hw:w.heap[b]? with
      |none=>simp[hw]at h2
      |some o=>
       cases o <;> simp[hw]at h2
       rename_i arr u fz;exact⟨arr.toList,u,fz,by simp⟩
     obtain⟨cells,u,fz,hblk⟩:=hblk;have hcl2:∀i y,xs[i]?=some y→∀j,j < k.sz→(k.enc y)[j]?=cells[off+i*k.sz+j]?:=by
      intro i y hy j hj;obtain⟨c,h1,h2⟩:=hcl i y hy j hj;have h3:cells[off+i*k.sz+j]?=some c:=by simpa[World.cell?,hblk]using h2
      rw[h1,h3]
     refine⟨xs,.inr ⟨b,off,cap,cells,fz,by rw[hx1],⟨u,hblk⟩,?_⟩,fun y hy=>?_,.inr ⟨_,hw2,xAW _ aH⟩⟩
     ·have key:∀(ys:List α) (o:Nat),(∀i y,ys[i]?=some y→∀j,j < k.sz→(k.enc y)[j]?=cells[o+i*k.sz+j]?)→(cells.drop o).take (ys.length*k.sz)=k.cs ys:=by
       intro ys;induction ys with
       |nil=>intro o _;simp[El.cs]
       |cons y ys ih=>
        intro o hh;have h1 := ih (o + k.sz) (fun i z hz j hj => by
         have:=hh (i+1) z (by simpa using hz) j hj;rw[this];congr 1;rw[Nat.succ_mul];omega)
        have h0:(cells.drop o).take k.sz=k.enc y:=by
         refine List.ext_getElem? fun j=>?_;rw[List.getElem?_take];split
         ·rename_i hj;rw[xA2];have:=hh 0 y rfl j hj
          simpa using this.symm
         rename_i hj;rw[xAD (by rw[k.len];omega)]
        show (cells.drop o).take ((ys.length+1)*k.sz)=k.enc y++k.cs ys
        rw[←h0,←h1,Nat.succ_mul,Nat.add_comm,List.take_add,List.drop_drop]
      exact key xs off (fun i y hy j hj=>hcl2 i y hy j hj)
     obtain⟨i,hi⟩:=xA3 hy;exact(hx2 i y hi).2
   cases h
 |_=>simp at h
def aMO{α:Type}{k:El α}{G:α→Prop}{v:Value}(hu:P.underlying t=some (.slice k.e))(hc:P.cellsOf k.e=k.sz)(hsz:0 < k.sz)
  (helt:∀n cs y,DataW.trod enc P w base sp held n k.e cs=some y→(∀n∈y.1.weights P k.e,n∈x.1.weights P t)→∃a,cs=k.enc a∧G a) (h:DataW.trod enc P w base sp held n t [v]=some x):
  ∃xs,Ksl k (hp w) v xs∧(∀a∈xs,G a)∧(xs=[]∨∃n∈x.1.weights P t,xs.length*P.bytesOf k.e≤n):=
 bIR (fun _=>0) (fun _ _ _ _=>xAA _) hu hc hsz (fun n cs y h1 h2 _=>helt n cs y h1 h2) h
end
end Go.SL
end
section
namespace Go.Proofs
open Go Go.SL Go.Syn Go.Mach Go.Cmp
structure MsgSz (m:Msg):Prop where
 from_:m.from_.length≤140737488355328
 to_:m.to_.length≤140737488355328
 hn:m.hs.length≤140737488355328
 hs:∀h∈m.hs,h.1.length≤140737488355328∧h.2.length≤140737488355328
structure SI where
 i:Nat
 n:Int
def vs4:List InsV:=[⟨1,1,0,false,nilC,nilC,0⟩,⟨4,1,0,false,nilC,nilC,0⟩,⟨14,0,0,false,nilC,nilC,0⟩,⟨13,0,0,false,nilC,nilC,0⟩]
end Go.Proofs
end
section
set_option maxRecDepth 100000
namespace Go
def iJ{H:Type}{enc:TypeId×Value→H}{a:Assume}{C:Checked}{os:Os}{f:FuncId}{fn:Func}{s:ChangeSpec}{conds:List PathCond}{apart fresh handsOn again:Bool}{X:World→Array Value→Prop}
  (hX:∀(w w':World) (args:Array Value),w.heap=w'.heap→X w args→X w' args)
  (own:ownKnob C.prog.godebug=none) (started:os.Started) (noInit:C.prog.inits.idxOf? f=none) (hfn:C.prog.funcs[f]?=some fn)
  (witness : ∃ (w : World) (tape : Tape) (i : Input), w.os = os ∧ (w.forCall tape i).Shaped C.prog ∧ i.vars = [] ∧ Input.okWide C.prog (w.forCall tape i) .any w.heap.size f i ∧
   ((s.pre enc C.prog fn conds apart (w.forCall tape i).memory i.args∧X (w.forCall tape i).memory i.args)∧sizedMet enc C.prog fn (OpenSpec.ofChange s) apart (w.forCall tape i).memory i.args)∧a.holds C.prog (lone (Frame.enter C.prog f i.args .normal) [] (w.forCall tape i)))
  (contract : ∀ (W : World) (base : Nat) (args : Array Value) (ds gs : List (DataW H)) (before : List MemPlace),
   (∀(j:Nat) t v,fn.params[j]?=some t→args[j]?=some v→Value.okWide C.prog W .any base t v)→
   DataW.Whole enc C.prog fn.params.toList s.vars apart W args.toList ds gs before→
   conds.all (PathCond.test C.prog ⟨fn.params.toList,ds,s.plain.varTypes C.prog,gs⟩)=true→
   (DataW.weightsEach C.prog (fn.params.toList++s.plain.varTypes C.prog) (ds++gs)).all (· ≤reachBytes)=true→X W args→W.ShapedOpen C.prog→
   a.holds C.prog (lone (Frame.enter C.prog f args .normal) [] W)→
   Calls C.prog f args W fun e W'=>∃v,e=.returned v∧s.post enc C.prog fn apart fresh handsOn again W args v W'):
  ReturnsInHanded a C os f .any (fun w args=>(s.pre enc C.prog fn conds apart w args∧X w args)∧sizedMet enc C.prog fn (OpenSpec.ofChange s) apart w args) (s.post enc C.prog fn apart fresh handsOn again):=by
 refine returnsInHanded_of_calls own started noInit witness ?_;intro w tape i _ hsh _ hok hpre hholds;obtain⟨_,_,_,fn',hfn',_,_,_,_,hval⟩:=hok;have e:fn'=fn:=xAY (hfn'.symm.trans hfn);subst e;obtain⟨⟨⟨ds,gs,before,hw,hc⟩,hx⟩,hz⟩:=hpre;have hw':=DataW.Whole.of_heap (w':=w.forCall tape i) (by rfl) hw;refine(contract (w.forCall tape i) w.heap.size i.args ds gs before hval hw' hc (hz.weights hw) (hX _ _ _ (by rfl) hx) hsh hholds).mono fun e W' ⟨v,he,hp⟩=>?_;subst he;exact ChangeSpec.post_blind hp
end Go
namespace Go.Proofs
open Go Go.SL Go.Mach Go.ChangeShapes Go.WideShapes Go.RowKit
open YthopmddkpdehiabGreatDoor (Rows.laid_math_bits_deBruijn32tab Rows.laid_math_bits_deBruijn64tab Rows.laid_internal_strconv_uint64pow10 Rows.laid_errors_errorType)
namespace TzRow
def own:ownKnob Tryz.prog.godebug=none:=cY
def laidOut:laidOutB Tryz.prog=true:=cY
abbrev laid4:List (String×DataW Unit):=[("math/bits.deBruijn32tab",YthopmddkpdehiabGreatDoor.Rows.laid_math_bits_deBruijn32tab),("math/bits.deBruijn64tab",YthopmddkpdehiabGreatDoor.Rows.laid_math_bits_deBruijn64tab),("internal/strconv.uint64pow10",YthopmddkpdehiabGreatDoor.Rows.laid_internal_strconv_uint64pow10),("errors.errorType",YthopmddkpdehiabGreatDoor.Rows.laid_errors_errorType)]
def bQA:Tryz.prog.globalNamed "internal/strconv.uint64pow10"=some 2:=cY
def bN5:(Tryz.prog.globals[2]?).map (·.type)=some 400:=cY
def rt:(Tryz.prog.cutTypes.find? (·.1== "internal/reflectlite.rtype")).map (·.2)=some 229:=cY
def et:Tryz.prog.globalNamed "errors.errorType"=some 0:=cY
def bMK:((List.range Tryz.prog.types.size).filter fun t=>Tryz.prog.rowNamed t [101,114,114,111,114])=[83]:=cY
def aZI{W:World}{l:List (String×DataW Unit)}(hl:handlesMet Tryz.prog [("errors.errorType",YthopmddkpdehiabGreatDoor.Rows.laid_errors_errorType)] W):ErrT (hp W):=by
 obtain⟨name,u,ty,e1,e2,e3,e4,e5⟩:=hl _ (List.mem_singleton.2 rfl);have en:name=[101,114,114,111,114]:=(xAY e1).symm;subst en;obtain rfl:=xAY (rt.symm.trans e2);have hm:ty∈(List.range Tryz.prog.types.size).filter fun t=>Tryz.prog.rowNamed t [101,114,114,111,114]:=List.mem_filter.2 ⟨List.mem_range.2 e3,e4⟩
 rw[bMK]at hm;obtain rfl:=List.mem_singleton.1 hm;have hh:typeHandle Tryz.prog 83=hd 83:=cY
 rw[hh]at e5;unfold World.var? at e5;rw[et]at e5;simp only[Option.bind_some]at e5;split at e5
 ·rename_i cs T fz hw;have:=xAY e5;subst this;exact⟨T,fz,hw⟩
 cases e5
def bNA{w w':World}{nm:String}{k:IntKind}{zs:List Int}(h:Lib.TabIs Tryz.prog w nm k zs)(le:(hp w).le (hp w')):Lib.TabIs Tryz.prog w' nm k zs:=by
 unfold Lib.TabIs World.var? at*;cases hg:Tryz.prog.globalNamed nm with
 |none=>rw[hg]at h;simp at h
 |some g=>
  rw[hg]at h;simp only[Option.bind_some]at h ⊢;split at h
  ·rename_i cs T fz hw;have:=le g _ hw;simp only[hp]at this;rw[this];exact h
  cases h
def bEG{W:World}(h:W.ShapedOpen Tryz.prog):∃m T fz,hp W 1=some (bL [i64 m] T fz):=by
 obtain⟨m,hm⟩:=cell_of_shapedOpen_int (P:=Tryz.prog) (g:=1) (t:=3) (zero:= #[.int .i64 0]) (k:=.i64) h (xAH cY) cY rfl cY cY cY;obtain⟨cs,hh,hs,_⟩:=h.1 1 #[.int .i64 0] 3 (xAH cY) cY;have h1:cs.size=1:=hs;refine⟨m,3,(0,0),?_⟩
 show W.heap[1]?=_
 rw[hh];have hc:cs= #[i64 m]:=by
  have:cs[0]?=some (i64 m):=by simpa[World.cell?,hh]using hm
  obtain⟨l⟩:=cs
  match l,h1,this with
  | [c],_,this=>simp at this;rw[this]
 rw[hc]
def of_laid{W:World}(hL:laidMetH Tryz.prog laid4 W)(hS:W.ShapedOpen Tryz.prog):Glob (hp W)∧ErrT (hp W):=by
 have h':laidMet Tryz.prog [("math/bits.deBruijn32tab",YthopmddkpdehiabGreatDoor.Rows.laid_math_bits_deBruijn32tab),("math/bits.deBruijn64tab",YthopmddkpdehiabGreatDoor.Rows.laid_math_bits_deBruijn64tab),("internal/strconv.uint64pow10",YthopmddkpdehiabGreatDoor.Rows.laid_internal_strconv_uint64pow10)] W∧handlesMet Tryz.prog [("errors.errorType",YthopmddkpdehiabGreatDoor.Rows.laid_errors_errorType)] W:=hL;refine⟨⟨bEG hS,fun w le=>?_⟩,aZI (l:=[]) h'.2⟩
 exact bNA (Lib.tabIs_of_head (rest:=[]) bQA bN5 Tryz.underlying400 Tryz.underlying320 cY cY (h'.1.tail.tail)) le
def door_met(os:Os)(args:Array Value):laidMetH Tryz.prog laid4 ((World.doorLaid Tryz.prog 100 os).forCall (fun _ _=>0) ⟨#[],args,[]⟩).memory:=
 laidMetH_of_parts3 (fuel:=8) (laidMet_of_run' 8 cY cY) cY cY
def door_shaped(os:Os)(args:Array Value):((World.doorLaid Tryz.prog 100 os).forCall (fun _ _=>0) ⟨#[],args,[]⟩).Shaped Tryz.prog:=
 World.shaped_of_RefB cY cY
end TzRow
end Go.Proofs
end
section
set_option maxRecDepth 100000
namespace Go.Proofs
open Go Go.SL Go.Syn Go.Mach Go.ChangeShapes Go.WideShapes Go.RowKit
namespace TzRow
section
variable{H:Type}{enc:TypeId×Value→H}{W:World}{base:Nat}{sp:Nat→Bool}{held:Bool}
def aDK{n:Nat}{cs:List Value}{x:DataW H×List MemPlace}(h:DataW.trod enc Tryz.prog W base sp held n 9 cs=some x):∃l:aP,cs=[str l]∧l.length∈x.1.weights Tryz.prog 9:=by
 obtain⟨l,h1,h2⟩:=bG2 Tryz.underlying9 h;exact⟨l,h1,by rw[h2];simp[DataW.weights]⟩
def bN7{n:Nat}{cs:List Value}{x:DataW H×List MemPlace}{M:List Nat}(h:DataW.trod enc Tryz.prog W base sp held n 73 cs=some x)(hM:∀k∈x.1.weights Tryz.prog 73,k∈M):∃a:aP×aP,cs=hdEl.enc a∧a.1.length∈M∧a.2.length∈M:=by
 obtain⟨m,hl,hf⟩:=uF Tryz.underlying73 h;have c25:Tryz.prog.cellsOf 73=2:=cY
 have c9:Tryz.prog.cellsOf 9=1:=cY
 rw[c25]at hl
 match cs,hl,hf with
 | [c0,c1],_,hf=>
  obtain⟨y0,h0,w0⟩:=hf 0 _ rfl;obtain⟨y1,h1,w1⟩:=hf 1 _ rfl;dsimp only at h0 h1 w0 w1;rw[c9]at h0 h1;obtain⟨l0,e0,k0⟩:=aDK h0;obtain⟨l1,e1,k1⟩:=aDK h1;simp at e0 e1;subst e0 e1;exact⟨(l0,l1),Y,hM _ (w0 _ k0),hM _ (w1 _ k1)⟩
end
end TzRow
end Go.Proofs
end
section
attribute [local irreducible] Go.SL.T Go.SL.OL Go.SL.D Go.SL.DL Go.SL.Ev Go.SL.Ef Go.SL.EfS
namespace Go.Proofs
open Go Go.SL Go.Syn Go.Mach
open Go.Cmp (cT RIs InsV RIns eX nilC)
def yF{P:Program}{f:FuncId}{args:List Value}{K:Hl}{L1 L:List Asn}{R:Ending→List Asn→Prop}(hb:∃fn,P.funcs[f]?=some fn∧(fn.name== "runtime.NumGoroutine")=false∧fn.body.isSome=true)
  (h:∀h1,Sat L1 h1→K.dj h1→Sp P f args (K.join h1) L fun e K' L'=>R e L'∧K'=K.join h1):Sp P f args K (L1++L) fun e K' L'=>∃L'',R e L''∧K'=K∧L'=L1++L'':=
 ⟨hb, fun F w i => by
  obtain⟨h1,hs,d,i1⟩:=i.freeze;have e0:(K.join h1).less h1=K:=by
   funext x
   unfold Hl.less Hl.join;rcases d x with q|q
   ·cases h:h1 x with
    |none=>simp[q]
    |some o=>simp[q]
   simp[q]
  exact ((h h1 hs d).2 F w i1).mono fun e w' ⟨K', L', ⟨r, rk⟩, le, j⟩ => ⟨K, L1 ++ L', ⟨L', r, Y, Y⟩, xAB _, by
   have:=j.thaw hs (x6 (Hl.le_join_r d) le);rw[rk,e0]at this;exact this⟩⟩
def aSO{n:Nat}{ds:List Deferred}{w0:World}{F:Hl}{fr:Fr}{K:Hl}{L:List Asn}{dst:Option Tmp}{ty t':TypeId}{pos:String}{aft:Array Edge}{g:Option (Nat×Bool)}{x y:Operand}{a c:gA}(hx:fr.ev x=some (.agg #[i64 a.1,str a.2]))(hy:fr.ev y=some (.agg #[i64 c.1,str c.2])):
  Ev ⟨x3,n,ds,w0,F⟩ fr K L ⟨dst,.binOp .neq 75 x y t',ty,pos,aft,g⟩ (.bool (!decide (a=c))):=
 jN hx hy (fun w=>run_eqGuard_agg w _ _ _ _ _ _ Tryz.eqGuardType75) fun w=>by
  rw[run_neq_struct,bC8];rfl
def aV8{x:Int}{n:Nat}(hx:0≤x)(hn:0 < n):∃k:Nat,k < n∧i64 (x.tmod n)=i64 k:=by
 have h1:=Int.tmod_nonneg (n:Int) hx;have h2:x.tmod n < n:=Int.tmod_lt_of_pos _ aH;exact⟨(x.tmod n).toNat,by omega,by rw[Int.toNat_of_nonneg h1]⟩
def oY(c:Int)(n:Nat)(hc: -9223372036854775808≤c∧c≤9223372036854775807)(hn:0 < n∧n≤1000000000)(K:Hl):Sp x3 20 [i64 c,i64 n] K [] (Ret fun v K' L'=>∃k:Nat,k < n∧v=i64 k∧K'=K∧L'=[]):=by
 refine bN Tryz.func20 Y Tryz.ntmps20 Y Y fun F w=>?_;refine zz12 ?_;refine aY 6 Y (fun h6=>?_) (fun h6=>?_)
 ·refine zz3 ?_;refine aA (bL8 Y aH aH) Y (zz7 ?_);refine aA (aL7 Y Y aH) Y (zz5 ?_);obtain⟨k,hk,e⟩:=aV8 (x:= -(c+1)) (n:=n) aH hn.1;exact⟨_,Y,k,hk,e,Y,Y⟩
 refine zz6 ?_;refine aA (aL7 Y Y aH) Y (zz5 ?_);obtain⟨k,hk,e⟩:=aV8 (x:=c) (n:=n) aH hn.1;exact⟨_,Y,k,hk,e,Y,Y⟩
def aFA(av bv:Value)(xs ys:List gA)(K:Hl)(hxk:Ksl dP K av xs)(hyk:Ksl dP K bv ys)(hx:xs.length≤1000000)(hy:ys.length≤1000000):Sp x3 26 [av,bv] K [] (Ret fun v K' L'=>v=.bool (decide (xs=ys))∧K'=K∧L'=[]):=by
 refine bN Tryz.func26 Y Tryz.ntmps26 Y Y fun F w=>?_;refine zz9 ?_;refine aA (bU (k:=dP) Y Tryz.underlying49 Y (.known hxk)) Y (zz1 ?_);refine aA (bU (k:=dP) Y Tryz.underlying49 Y (.known hyk)) Y (zz3 ?_)
 first|refine aY 10 Y (fun h10=>?_) (fun h10=>?_)|refine d9 10 Y (fun h10=>?_) (fun h10=>?_)
 ·refine zz8 ?_;have hne:¬xs=ys:=(fun e=>by rw[e]at h10;exact absurd Y h10);exact⟨_,Y,by rw[xAJ hne],rfl,rfl⟩
 have hlen:xs.length=ys.length:=by omega
 refine zz9 ?_;refine eH (fun(i:Nat)=>i≤xs.length∧xs.take i=ys.take i) (fun i=>[(0,av),(1,bv),(5,i64 i)]) (fun _=>K) (fun _=>[]) (fun i=>xs.length - i) 0 ⟨x9 _,by simp⟩ aS Y (fun _ h=>h) ?_;intro i ⟨hi0,hi1⟩;refine zz5 ?_;refine aA (bU (k:=dP) Y Tryz.underlying49 Y (.known hxk)) Y (zz3 ?_);refine aY 14 Y (fun h14=>?_) (fun h14=>?_)
 ·have hilt:i < xs.length:=by omega
  obtain⟨x,hxx⟩:∃x,xs[i]?=some x:=⟨xs[i]'hilt,x4 hilt⟩;obtain⟨y,hyy⟩:∃y,ys[i]?=some y:=⟨ys[i]'(by omega),x4 aH⟩;refine zz5 ?_;refine cZ (anc:=[0,0,3,7,0,0,48,112,255]) (ord:=[0,1,2,3,4,5,6,7,8]) [] [] mixed gC5 (cQ _) (zz2 ?_);refine aJ Y Y (.none Y) Y Y (aX (k:=dP) (j:=i) jU Y (.known hxk) Y Y aH) Y ?_;refine aJ Y Y (.none Y) Y Y (fA (n:=0) (k:=dP) mK Y (.known hxk) hxx) Y (zz2 ?_);refine aJ Y Y (.none Y) Y Y (aX (k:=dP) (j:=i) jU Y (.known hyk) Y Y aH) Y ?_;refine aJ Y Y (.none Y) Y Y (fA (n:=0) (k:=dP) mK Y (.known hyk) hyy) Y ?_;refine aJ Y Y (.none Y) Y Y (aSO (a:=x) (c:=y) Y Y) Y (zz2 ?_);refine d9 25 Y (fun h25=>?_) (fun h25=>?_)
  ·have hxy:¬x=y:=by simpa using h25
   refine zz12 ?_;have hne:¬xs=ys:=(fun e=>by rw[e]at hxx;rw[hxx]at hyy;cases hyy;exact hxy Y);exact⟨_,Y,by rw[xAJ hne],rfl,rfl⟩
  have hxy:x=y:=by simpa using h25
  refine zz8 ?_;exact cM (i+1) ⟨by omega,by rw[xAX,xAX,hi1,hxx,hyy,hxy]⟩ aH aS Y (fun _ h=>h)
 refine zz12 ?_;have he:xs=ys:=gGC;exact⟨_,Y,by rw[xAM he],rfl,rfl⟩
def aFB(av bv:Value)(xs ys:List aP)(K:Hl)(hxk:Ksl (a7 9) K av xs)(hyk:Ksl (a7 9) K bv ys)(hx:xs.length≤1000000)(hy:ys.length≤1000000):Sp x3 40 [av,bv] K [] (Ret fun v K' L'=>v=.bool (decide (xs=ys))∧K'=K∧L'=[]):=by
 refine bN Tryz.func40 Y Tryz.ntmps40 Y Y fun F w=>?_;refine zz9 ?_;refine aA (bU (k:=(a7 9)) Y Tryz.underlying43 Y (.known hxk)) Y (zz1 ?_);refine aA (bU (k:=(a7 9)) Y Tryz.underlying43 Y (.known hyk)) Y (zz3 ?_)
 first|refine aY 10 Y (fun h10=>?_) (fun h10=>?_)|refine d9 10 Y (fun h10=>?_) (fun h10=>?_)
 ·refine zz8 ?_;have hne:¬xs=ys:=(fun e=>by rw[e]at h10;exact absurd Y h10);exact⟨_,Y,by rw[xAJ hne],rfl,rfl⟩
 have hlen:xs.length=ys.length:=by omega
 refine zz9 ?_;refine eH (fun(i:Nat)=>i≤xs.length∧xs.take i=ys.take i) (fun i=>[(0,av),(1,bv),(5,i64 i)]) (fun _=>K) (fun _=>[]) (fun i=>xs.length - i) 0 ⟨x9 _,by simp⟩ aS Y (fun _ h=>h) ?_;intro i ⟨hi0,hi1⟩;refine zz5 ?_;refine aA (bU (k:=(a7 9)) Y Tryz.underlying43 Y (.known hxk)) Y (zz3 ?_);refine aY 14 Y (fun h14=>?_) (fun h14=>?_)
 ·have hilt:i < xs.length:=by omega
  obtain⟨x,hxx⟩:∃x,xs[i]?=some x:=⟨xs[i]'hilt,x4 hilt⟩;obtain⟨y,hyy⟩:∃y,ys[i]?=some y:=⟨ys[i]'(by omega),x4 aH⟩;refine zz5 ?_;refine cZ (anc:=[0,0,3,7,0,0,48,112,255]) (ord:=[0,1,2,3,4,5,6,7,8]) [] [] mixed gC5 (cQ _) (zz2 ?_);refine aJ Y Y (.none Y) Y Y (aX (k:=(a7 9)) (j:=i) cB Y (.known hxk) Y Y aH) Y ?_;refine aJ Y Y (.none Y) Y Y (cE (o:=0) (k:=a7 9) ts9 Y (.known hxk) hxx Y) Y (zz2 ?_);refine aJ Y Y (.none Y) Y Y (aX (k:=(a7 9)) (j:=i) cB Y (.known hyk) Y Y aH) Y ?_;refine aJ Y Y (.none Y) Y Y (cE (o:=0) (k:=a7 9) ts9 Y (.known hyk) hyy Y) Y (zz3 ?_);refine aY 25 Y (fun h25=>?_) (fun h25=>?_)
  ·have hxy:¬x=y:=h25;refine zz12 ?_;have hne:¬xs=ys:=(fun e=>by rw[e]at hxx;rw[hxx]at hyy;cases hyy;exact hxy Y);exact⟨_,Y,by rw[xAJ hne],rfl,rfl⟩
  have hxy:x=y:=xBD.1 h25;refine zz8 ?_;exact cM (i+1) ⟨by omega,by rw[xAX,xAX,hi1,hxx,hyy,hxy]⟩ aH aS Y (fun _ h=>h)
 refine zz12 ?_;have he:xs=ys:=gGC;exact⟨_,Y,by rw[xAM he],rfl,rfl⟩
end Go.Proofs
end
section
attribute [local irreducible] Go.SL.T Go.SL.OL Go.SL.D Go.SL.DL Go.SL.Ev Go.SL.Ef Go.SL.EfS
namespace Go.Proofs
open Go Go.SL Go.Syn Go.Mach
open Go.Cmp (cT RIs InsV RIns eX nilC lU kT)
def CodeFit(os:List Ins):Prop:=os.length≤100000∧∀o∈os,o.a.length≤100000∧o.b.length≤100000
def aIZ(av bv:Value)(vs ws:List InsV)(os:List Ins)(K:Hl)(hv1:Ksl cT K av vs)(hv2:Ksl cT K bv ws)(hR1:RIs K vs os)(hR2:RIs K ws os)(hf:CodeFit os):Sp x3 18 [av,bv] K [] (Ret fun v K' L'=>v=.bool true∧K'=K∧L'=[]):=by
 have hl1:vs.length=os.length:=hR1.length;have hl2:ws.length=os.length:=hR2.length;have hf1:=hf.1;refine bN Tryz.func18 Y Tryz.ntmps18 Y Y fun F w=>?_;refine zz9 ?_;refine aA (bU (k:=cT) Y Tryz.underlying36 Y (.known hv1)) Y (zz1 ?_);refine aA (bU (k:=cT) Y Tryz.underlying36 Y (.known hv2)) Y (zz3 ?_);refine aY 14 Y (fun h14=>?_) (fun h14=>?_)
 ·exact absurd (by rw[hl1,hl2]) h14
 refine zz9 ?_;refine eH (fun(i:Nat)=>i≤vs.length) (fun i=>[(0,av),(1,bv),(5,i64 i)]) (fun _=>K) (fun _=>[]) (fun i=>vs.length - i) 0 (x9 _) aS Y (fun _ h=>h) ?_;intro i hi0;refine zz5 ?_;refine aA (bU (k:=cT) Y Tryz.underlying36 Y (.known hv1)) Y (zz3 ?_);refine aY 18 Y (fun h18=>?_) (fun h18=>?_)
 ·have hilt:i < vs.length:=by omega
  obtain⟨u,hu⟩:∃u,vs[i]?=some u:=⟨vs[i]'hilt,x4 hilt⟩;obtain⟨x,hx⟩:∃x,ws[i]?=some x:=⟨ws[i]'(by omega),x4 aH⟩;obtain⟨o,ho,hro⟩:=hR1.get hu;obtain⟨o2,ho2,hro2⟩:=hR2.get hx;rw[ho]at ho2;cases ho2
  obtain⟨vop,vn,vtag,voct,⟨va,hva⟩,⟨vb,hvb⟩,vat⟩:=u;obtain⟨rfl,rfl,rfl,rfl,rfl,hra,hrb⟩:=hro;dsimp only at hra hrb;obtain⟨xop,xn,xtag,xoct,⟨xa,hxa⟩,⟨xb,hxb⟩,xat⟩:=x;obtain⟨rfl,rfl,rfl,rfl,rfl,hsa,hsb⟩:=hro2;dsimp only at hsa hsb;obtain⟨hfa,hfb⟩:=hf.2 o (x8 ho);refine zz8 ?_;refine aA (aX (k:=cT) (j:=i) eU Y (.known hv1) Y Y aH) Y ?_;refine aA (fA (n:=0) (k:=cT) iF Y (.known hv1) hu) Y (zz1 ?_);rintro _ K _ ⟨b6,rfl,rfl,rfl⟩ -;refine cD (cX iF Y Y Y bR gC1 (.cons (.cons (.cons (.cons (.cons (.cons (.cons .nil))))))) gC8) ?_;rintro _ K _ ⟨rfl,rfl⟩ -;refine zz6 ?_;refine aA (aX (k:=cT) (j:=i) eU Y (.known hv2) Y Y aH) Y ?_;refine aA (fA (n:=0) (k:=cT) iF Y (.known hv2) hx) Y (zz1 ?_);rintro _ K _ ⟨b7,rfl,rfl,rfl⟩ -;refine cD (cX iF Y Y Y bR gC1 (.cons (.cons (.cons (.cons (.cons (.cons (.cons .nil))))))) gC8) ?_;rintro _ K _ ⟨rfl,rfl⟩ -;refine zz8 ?_;refine bA Y Y (aFB _ _ o.a o.a _ hra hsa aH aH) .nil Y ?_;rintro _ K _ ⟨rfl,rfl,rfl⟩ -;rw[xAM (rfl:o.a=o.a)];refine zz9 ?_;refine bA Y Y (aFB _ _ o.b o.b _ hrb hsb aH aH) .nil Y ?_;rintro _ K _ ⟨rfl,rfl,rfl⟩ -;rw[xAM (rfl:o.b=o.b)];refine zz23 ?_;refine aA (uL (eK Y Y) (fun h=>h Y)) Y (zz11 ?_);refine aA (uL (eK Y Y) (fun h=>h Y)) Y (zz11 ?_);refine aA (uL (eK Y Y) (fun h=>h Y)) Y (zz11 ?_);refine aA (kK (v:=.bool false) (aBT Tryz.underlying4 Y Y) (by cases o.oct <;> rfl)) Y (zz4 ?_)
  refine zz7 ?_;refine aA (uL (eK Y Y) (fun h=>h Y)) Y (zz12 ?_);refine uAf ?_;exact cM (i+1) aH aH aS Y (fun _ h=>h)
 refine zz11 ?_;refine uAf ?_;refine zz1 ?_;exact⟨_,Y,Y,Y,Y⟩
end Go.Proofs
end
section
namespace Go.Proofs
open Go Go.SL Go.Syn Go.Mach
set_option maxRecDepth 100000 in
def sP:i8 x3 29 69 2=true:=cY
open Go.Cmp (cT RIs InsV RIns eX nilC lU kT gQ)
structure AP where
 rv:Cell
 wv:Cell
 l:List gA
structure CP where
 rv:Cell
 wv:Cell
 rs:List InsV
 ws:List InsV
 os:List Ins
structure XP where
 b:Nat
 rb:Nat
 s:aP
 r:List aP×Tree
structure WS where
 xl:List XP
 al:List AP
 cl:List CP
def actP(p:AP):Asn:=fun h=>Sat [sl false dP p.rv.1 p.l,sl false dP p.wv.1 p.l] h
def cdP(p:CP):Asn:=fun h=>Sat [sl false cT p.rv.1 p.rs,eX p.rs p.os,sl false cT p.wv.1 p.ws,eX p.ws p.os] h
def mD(L:List Asn):Asn:=fun h=>Sat L h
abbrev wblk(wb:Nat)(xv mv av cv:Value):Asn:=pt wb (bL [xv,mv,av,cv] 32)
abbrev w7(wb:Nat)(W:WS)(xv mv av cv:Value):List Asn:=[wblk wb xv mv av cv,sl false (cC 60) xv (W.xl.map fun x=>pcl x.b),sl false (cC 61) mv (W.xl.map fun x=>pcl x.rb),sl false (dT 69) av (W.al.map fun p=>(p.rv,p.wv)),mD (W.al.map actP),sl false (dT 71) cv (W.cl.map fun p=>(p.rv,p.wv)),mD (W.cl.map cdP)]
def wP(wb:Nat)(W:WS):Asn:=fun h=>∃xv mv av cv,Sat (w7 wb W xv mv av cv) h
section
variable{E:Env}{c0:Code}{x0:Exit}{ops:Array Oper}{fr:Fr}{K:Hl}{L:List Asn}{Q:Post}{wb:Nat}{W:WS}
def aT8{h:Hl}:Sat (wP wb W::L) h↔∃xv mv av cv,Sat (w7 wb W xv mv av cv++L) h:=by
 constructor
 ·rintro⟨a,l,⟨xv,mv,av,cv,hs⟩,hl,hd,rfl⟩;exact⟨xv,mv,av,cv,eY.2 ⟨a,l,hs,hl,hd,Y⟩⟩
 rintro⟨xv,mv,av,cv,hs⟩;obtain⟨a,l,ha,hl,hd,rfl⟩:=eY.1 hs;exact⟨a,l,⟨xv,mv,av,cv,ha⟩,hl,hd,Y⟩
def bKR{w0 w:World}{F:Hl}(i:In w0 F K (wP wb W::L) w):∃xv mv av cv,In w0 F K (w7 wb W xv mv av cv++L) w:=by
 obtain⟨x,hs,r⟩:=i.rep;obtain⟨xv,mv,av,cv,hs⟩:=aT8.1 hs;exact⟨xv,mv,av,cv,i.os,i.tape,i.output,i.size,x,hs,r⟩
def aNH(h:∀xv mv av cv,T E c0 fr K (w7 wb W xv mv av cv++L) Q):T E c0 fr K (wP wb W::L) Q:=fun a w f i=>let ⟨xv,mv,av,cv,j⟩:=bKR i;h xv mv av cv a w f j
def mW{xv mv av cv:Value}:∀h,Sat (w7 wb W xv mv av cv++L) h→Sat (wP wb W::L) h:=fun h hs=>aT8.2 ⟨xv,mv,av,cv,hs⟩
def bP4{p:XP}{xv mv av cv:Value}:∀h,Sat (wblk wb xv mv av cv::sl false (cC 60) xv ((W.xl.map fun x=>pcl x.b)++[pcl p.b])::sl false (cC 61) mv ((W.xl.map fun x=>pcl x.rb)++[pcl p.rb])::sl false (dT 69) av (W.al.map fun p=>(p.rv,p.wv))::mD (W.al.map actP)::sl false (dT 71) cv (W.cl.map fun p=>(p.rv,p.wv))::mD (W.cl.map cdP)::L) h→Sat (wP wb {W with xl:=W.xl++[p]}::L) h:=by
 intro h hh;refine mW (W:={W with xl:=W.xl++[p]}) (xv:=xv) (mv:=mv) (av:=av) (cv:=cv) h ?_;simp only[w7,List.map_append,List.map_cons,List.map_nil,List.cons_append,List.nil_append];exact hh
def pI{A B:Asn}{P:Asn}(k:∀h,Sat [A,B] h→P h):∀h,Sat (A::B::L) h→Sat (P::L) h:=by
 rintro h hs;obtain⟨a,l,ha,hl,hd,rfl⟩:=eY (L:=[A,B]).1 hs;exact⟨a,l,k a ha,hl,hd,Y⟩
def oG{A B C D:Asn}{P:Asn}(k:∀h,Sat [A,B,C,D] h→P h):∀h,Sat (A::B::C::D::L) h→Sat (P::L) h:=by
 rintro h hs;obtain⟨a,l,ha,hl,hd,rfl⟩:=eY (L:=[A,B,C,D]).1 hs;exact⟨a,l,k a ha,hl,hd,Y⟩
end
end Go.Proofs
end
section
attribute [local irreducible] Go.SL.T Go.SL.OL Go.SL.D Go.SL.DL Go.SL.Ev Go.SL.Ef Go.SL.EfS
namespace Go.Proofs
open Go Go.SL Go.Syn Go.Mach
set_option maxRecDepth 100000 in
def aQ7:elOk x3 27 60 1 8=true:=cY
set_option maxRecDepth 100000 in
def aQ8:elOk x3 28 61 1 8=true:=cY
set_option maxRecDepth 100000 in
def vD:i8 x3 27 60 1=true:=cY
set_option maxRecDepth 100000 in
def vE:i8 x3 28 61 1=true:=cY
set_option maxRecDepth 100000 in
def sQ:i8 x3 30 71 2=true:=cY
structure XOk (K:Hl) (x:XP):Prop where
 ok:gN x.s=.ok x.r
 fit:x.s.length≤600
 at_:wS K x.b x.r
 ref:tO K x.rb x.r
def XOk.mono{K K':Hl}{x:XP}(h:XOk K x)(le:K.le K'):XOk K' x:=⟨h.ok,h.fit,h.at_.mono le,h.ref.mono le⟩
def aC1.mono{s:aP}{x:Value}{K K':Hl}(h:aC1 s x K)(le:K.le K'):aC1 s x K':=h.imp (fun⟨b,r,h1,h2,h3,h4⟩=>⟨b,r,h1,h2,h3,h4.mono le⟩) id
def bLW(s:aP)(x p:Value)(e a:Int)(K:Hl):Prop:=(∃q:XP,q.s=s∧x=ptr q.b∧p=ptr q.rb∧e=0∧pc s=(0,-1)∧XOk K q)∨(x=.pointer none∧p=.pointer none∧(pc s).1=e∧e≠0∧(e≠1→(pc s).2=a))
def bHX{s:aP}{x p:Value}{e a:Int}{K:Hl}(h1:aC1 s x K)(h2:aVG s p e a K):bLW s x p e a K:=by
 rcases h2 with ⟨hl,rfl,rfl,rfl⟩|⟨hl,h2⟩
 ·rcases h1 with ⟨b,r,h6,_⟩|⟨rfl,_⟩
  ·omega
  exact .inr ⟨Y,Y,by unfold pc;rw[x7 hl],by decide,fun h=>absurd rfl h⟩
 cases hp:gN s with
 |error y=>
  rw[hp]at h2;obtain⟨rfl,rfl,rfl,h0⟩:=h2;rcases h1 with ⟨b,r,_,h,_⟩|⟨rfl,_⟩
  ·rw[hp]at h;cases h
  exact .inr ⟨Y,Y,by unfold pc;rw[x5 aH,hp],h0,fun _=>by unfold pc;rw[x5 aH,hp]⟩
 |ok q=>
  rw[hp]at h2;obtain⟨rfl,rb,rfl,hR⟩:=h2;rcases h1 with ⟨b,r,_,h,rfl,hat⟩|⟨_,h⟩
  ·rw[hp]at h;cases h
   exact .inl ⟨⟨b,rb,s,q⟩,Y,Y,Y,Y,by unfold pc;rw[x5 aH,hp],hp,hl,hat,hR⟩
  rcases h with h|⟨e,h⟩
  ·omega
  rw[hp]at h;cases h
def tY(wb:Nat)(W:WS)(s:aP)(K:Hl)(hg:Glob K)(hE:ErrT K)(hn:W.xl.length≤1000000):Sp x3 14 [ptr wb,str s] K [wP wb W] (Ret fun v K' L'=>v=.bool true∧∃W',(W'=W∨∃q,XOk K' q∧W'={W with xl:=W.xl++[q]})∧L'=[wP wb W']):=by
 refine bN Tryz.func14 Y Tryz.ntmps14 Y Y fun F w=>?_;refine zz8 ?_;refine bA Y Y (aPY s _ hg hE) .nil Y ?_;rintro _ K1 _ ⟨x,rfl,hP,rfl⟩ le1;refine zz12 ?_;refine bA Y Y (aQD s _) .nil Y ?_;rintro _ K2 _ ⟨p,e,a,rfl,hR,rfl⟩ le2;have hB:=bHX (aC1.mono hP le2) hR;have le02:=x6 le1 le2;refine zz9 ?_;rcases hB with ⟨q,hqs,rfl,rfl,rfl,hpc,hX⟩|⟨rfl,rfl,hpe,he0,hpa⟩
 ·rw[hpc];refine zz5 ?_;refine aA (uL (eK Y Y) (fun h=>h Y)) Y (zz10 ?_);refine aA (kK (v:=.bool false) (aBT Tryz.underlying4 Y Y) Y) Y (zz5 ?_);refine aA (uL (eK Y Y) (fun h=>h Y)) Y (zz28 ?_);refine aNH fun xv mv wav cv=>?_;refine zz7 ?_;refine cJ (bM (z0:=[.pointer none]) vD tz60 Y Y Y Y dF) Y ?_;rintro _ K _ ⟨b54,rfl,rfl,rfl⟩ -;refine cJ (dQ (k:=(cC 60)) (ys:=[pcl q.b]) aQ7 Y Y (.there (.there .here)) (fun w j=>dJ Tryz.underlying27 (SeesSl.at (k:=cC 60) (.blk aL Y Y) j)) gC7 gC7) Y ?_;rintro v55 K _ ⟨rfl,rfl,ho55⟩ -;refine zz2 ?_;refine cD (bX ts27 Y Y dA bR .zero Y) ?_;rintro _ K _ ⟨rfl,rfl⟩ -;refine zz9 ?_;refine cJ (bM (z0:=[.pointer none]) vE tz61 Y Y Y Y dF) Y ?_;rintro _ K _ ⟨b64,rfl,rfl,rfl⟩ -;refine cJ (dQ (k:=(cC 61)) (ys:=[pcl q.rb]) aQ8 Y Y (.there (.there (.there (.there .here)))) (fun w j=>dJ Tryz.underlying28 (SeesSl.at (k:=cC 61) (.blk aL Y Y) j)) gC7 gC7) Y ?_;rintro v65 K _ ⟨rfl,rfl,ho65⟩ -;refine zz2 ?_;refine cD (bX ts28 Y Y dA bR aZe Y) ?_;rintro _ K _ ⟨rfl,rfl⟩ -;refine zz8 ?_;refine aQ (aM yY (aM e7 (aM bW (aM e7 (aM e7 (aM e7 (aM e7 bF))))))) ?_;refine cS (bP4 (p:=q)) ?_;refine bI Y Y le02 ?_;exact⟨_,Y,Y,_,.inr ⟨q,hX,Y⟩,Y⟩
 refine zz5 ?_;refine aA (uL (eK Y Y) (fun h=>h hpe)) Y (zz10 ?_);refine aA (kK (v:=.bool false) (aBT Tryz.underlying4 Y Y) Y) Y (zz5 ?_);refine aA (xA (eK Y Y) he0) Y (zz10 ?_);refine bV 40 Y (fun g40=>?_) (fun g40=>?_)
 ·refine zz5 ?_;refine aA (uL (eK Y Y) (fun h=>h (hpa g40))) Y (zz24 ?_);refine bI Y Y le02 ?_;exact⟨_,Y,Y,_,.inl Y,Y⟩
 refine zz27 ?_;refine bI Y Y le02 ?_;exact⟨_,Y,Y,_,.inl Y,Y⟩
end Go.Proofs
end
section
attribute [local irreducible] Go.SL.T Go.SL.OL Go.SL.D Go.SL.DL Go.SL.Ev Go.SL.Ef Go.SL.EfS
namespace Go.Proofs
open Go Go.SL Go.Syn Go.Mach
open Go.Cmp (cT RIs InsV RIns eX kW gQ insA)
structure ALook (K:Hl) (p:AP):Prop where
 rv:Ksl dP K p.rv.1 p.l
 wv:Ksl dP K p.wv.1 p.l
 n:p.l.length≤1000000
structure CLook (K:Hl) (p:CP):Prop where
 rv:Ksl cT K p.rv.1 p.rs
 wv:Ksl cT K p.wv.1 p.ws
 rr:RIs K p.rs p.os
 rw:RIs K p.ws p.os
 n:CodeFit p.os
def aUZ(av bv:Value)(xs:List gA)(K:Hl)(hxk:Ksl dP K av xs)(hyk:Ksl dP K bv xs)(hx:xs.length≤1000000):Sp x3 26 [av,bv] K [] (Ret fun v K' L'=>v=.bool true∧K'=K∧L'=[]):=
 (aFA av bv xs xs K hxk hyk hx hx).mono fun e K' L' ⟨v,h1,h2,h3,h4⟩=>⟨v,h1,by rw[h2,xAM rfl],h3,h4⟩
def aPB(wb:Nat)(W:WS)(xv mv av cv:Value)(K:Hl)(hwb:K wb=some (bL [xv,mv,av,cv] 32))(hav:Ksl (dT 69) K av (W.al.map fun p=>(p.rv,p.wv)))(hcv:Ksl (dT 71) K cv (W.cl.map fun p=>(p.rv,p.wv)))(hA:∀p∈W.al,ALook K p)(hC:∀p∈W.cl,CLook K p)(hna:W.al.length≤1000000)(hnc:W.cl.length≤1000000):Sp x3 10 [ptr wb] K [] (Ret fun v K' L'=>v=.bool true∧K'=K∧L'=[]):=by
 have hlA:(W.al.map fun p=>(p.rv,p.wv)).length=W.al.length:=xAS _;have hlC:(W.cl.map fun p=>(p.rv,p.wv)).length=W.cl.length:=xAS _;refine bN Tryz.func10 Y Tryz.ntmps10 Y Y fun F w=>?_;refine zz12 ?_;refine eH (fun(i:Nat)=>i≤W.al.length) (fun i=>[(0,ptr wb),(3,i64 i)]) (fun _=>K) (fun _=>[]) (fun i=>W.al.length - i) 0 (x9 _) aS Y (fun _ h=>h) ?_;intro i hi0;refine zz8 ?_;refine aA (bU (k:=dT 69) Y Tryz.underlying29 Y (.known hav)) Y (zz3 ?_);refine aY 13 Y (fun h13=>?_) (fun h13=>?_)
 ·have hil:i < W.al.length:=by rw[xAS]at h13;omega
  obtain⟨p,hp⟩:∃p,W.al[i]?=some p:=⟨W.al[i]'hil,x4 hil⟩;have hq:(W.al.map fun p=>(p.rv,p.wv))[i]?=some (p.rv,p.wv):=by rw[xAQ,hp];rfl
  have hilm:i < (W.al.map fun p=>(p.rv,p.wv)).length:=by rw[xAS];exact hil
  have hL:=hA p (x8 hp);refine zz5 ?_;refine cZ (anc:=[0,1,3,7,0,31,63,127,0,256,768,1792,0,7936,16128,32512,65535,131071]) (ord:=[0,1,2,3,4,5,6,7,8,9,10,11,12,13,14,15,16,17]) [16] [16] mixed gC5 (cQ _) (zz5 ?_);refine aJ Y Y (.none Y) Y Y (aX (k:=dT 69) (j:=i) sP Y (.known hav) Y Y hilm) Y ?_;refine aJ Y Y (.none Y) Y Y (dU (k:=dT 69) (j:=i) tf69_0_0 Y (.known hav) hilm) Y ?_;refine aJ Y Y (.none Y) Y Y (fD (k:=dT 69) lN Y (.known hav) hq Y) Y (zz5 ?_);refine aJ Y Y (.none Y) Y Y (aX (k:=dT 69) (j:=i) sP Y (.known hav) Y Y hilm) Y ?_;refine aJ Y Y (.none Y) Y Y (dU (k:=dT 69) (j:=i) tf69_1_1 Y (.known hav) hilm) Y ?_;refine aJ Y Y (.none Y) Y Y (fD (k:=dT 69) lN Y (.known hav) hq Y) Y ?_;refine eQ Y (.none Y) Y Y Y (aUZ _ _ p.l _ hL.rv hL.wv hL.n) .nil Y ?_;rintro _ K _ ⟨rfl,rfl,rfl⟩ -;refine zz6 ?_;refine aA gC3 Y (zz2 ?_);refine d9 34 Y (fun h34=>?_) (fun h34=>?_)
  ·cases h34
  refine zz8 ?_;refine uAf ?_;exact cM (i+1) aH aH aS Y (fun _ h=>h)
 refine zz12 ?_;refine eH (fun(i:Nat)=>i≤W.cl.length) (fun i=>[(0,ptr wb),(5,i64 i)]) (fun _=>K) (fun _=>[]) (fun i=>W.cl.length - i) 0 (x9 _) aS Y (fun _ h=>h) ?_;intro i hi0;refine zz8 ?_;refine aA (bU (k:=dT 71) Y Tryz.underlying30 Y (.known hcv)) Y (zz3 ?_);refine aY 41 Y (fun h41=>?_) (fun h41=>?_)
 ·have hil:i < W.cl.length:=by rw[xAS]at h41;omega
  obtain⟨p,hp⟩:∃p,W.cl[i]?=some p:=⟨W.cl[i]'hil,x4 hil⟩;have hq:(W.cl.map fun p=>(p.rv,p.wv))[i]?=some (p.rv,p.wv):=by rw[xAQ,hp];rfl
  have hilm:i < (W.cl.map fun p=>(p.rv,p.wv)).length:=by rw[xAS];exact hil
  have hL:=hC p (x8 hp);refine zz5 ?_;refine cZ (anc:=[0,1,3,7,0,31,63,127,0,256,768,1792,0,7936,16128,32512,65535,131071]) (ord:=[0,1,2,3,4,5,6,7,8,9,10,11,12,13,14,15,16,17]) [16] [16] mixed gC5 (cQ _) (zz5 ?_);refine aJ Y Y (.none Y) Y Y (aX (k:=dT 71) (j:=i) sQ Y (.known hcv) Y Y hilm) Y ?_;refine aJ Y Y (.none Y) Y Y (dU (k:=dT 71) (j:=i) tf71_0_0 Y (.known hcv) hilm) Y ?_;refine aJ Y Y (.none Y) Y Y (fD (k:=dT 71) vF Y (.known hcv) hq Y) Y (zz5 ?_);refine aJ Y Y (.none Y) Y Y (aX (k:=dT 71) (j:=i) sQ Y (.known hcv) Y Y hilm) Y ?_;refine aJ Y Y (.none Y) Y Y (dU (k:=dT 71) (j:=i) tf71_1_1 Y (.known hcv) hilm) Y ?_;refine aJ Y Y (.none Y) Y Y (fD (k:=dT 71) vF Y (.known hcv) hq Y) Y ?_;refine eQ Y (.none Y) Y Y Y (aIZ _ _ p.rs p.ws p.os _ hL.rv hL.wv hL.rr hL.rw hL.n) .nil Y ?_;rintro _ K _ ⟨rfl,rfl,rfl⟩ -;refine zz6 ?_;refine aA gC3 Y (zz2 ?_);refine d9 62 Y (fun h62=>?_) (fun h62=>?_)
  ·cases h62
  refine zz8 ?_;refine uAf ?_;exact cM (i+1) aH aH aS Y (fun _ h=>h)
 refine zz12 ?_;exact⟨_,Y,Y,Y,Y⟩
def aD2{α:Type}{f:α→Asn}{h:Hl}:∀ {l:List α},Sat (l.map f) h→∀p∈l,∃a,f p a∧a.le h
 | [],_,p,hp=>by cases hp
 |q::l,⟨a,m,ha,hm,hd,e⟩,p,hp=>by
  subst e;rcases List.mem_cons.1 hp with rfl|hp
  ·exact⟨a,ha,Hl.le_join_l⟩
  obtain⟨b,hb,le⟩:=aD2 hm p hp;exact⟨b,hb,x6 le (Hl.le_join_r hd)⟩
def wB(wb:Nat)(W:WS)(K:Hl)(hA:∀p∈W.al,p.l.length≤1000000)(hC:∀p∈W.cl,CodeFit p.os)(hna:W.al.length≤1000000)(hnc:W.cl.length≤1000000):Sp x3 10 [ptr wb] K [wP wb W] (Ret fun v K' L'=>v=.bool true∧K'=K∧L'=[wP wb W]):=by
 have h := yF (K := K) (L1 := [wP wb W]) (L := []) (R := fun e L' => e = .returned (.bool true) ∧ L' = []) ⟨_, Tryz.func10, rfl, rfl⟩ (fun h1 hs d => by
  obtain⟨xv,mv,av,cv,hs⟩:=aT8.1 hs;have le:=Hl.le_join_r d;obtain⟨a0,ha0,le0⟩:=tD (A:=wblk wb xv mv av cv) .here hs;obtain⟨a4,ha4,le4⟩:=tD (A:=mD (W.al.map actP)) (.there (.there (.there (.there .here)))) hs;obtain⟨a6,ha6,le6⟩:=tD (A:=mD (W.cl.map cdP)) (.there (.there (.there (.there (.there (.there .here)))))) hs;refine(aPB wb W xv mv av cv (K.join h1) (le _ _ (le0 _ _ ?_)) ((lS (.there (.there (.there .here))) hs).mono le) ((lS (.there (.there (.there (.there (.there .here))))) hs).mono le) (fun p hp=>?_) (fun p hp=>?_) hna hnc).mono fun e K' L' ⟨v,h1,h2,h3,h4⟩=>⟨⟨by rw[h1,h2],h4⟩,h3⟩
  ·have e:a0=Hl.one wb (bL [xv,mv,av,cv] 32):=ha0;rw[e];simp[Hl.one]
  ·obtain⟨b,hb,leb⟩:=aD2 ha4 p hp;have le2:=x6 leb (x6 le4 le);exact⟨(lS .here hb).mono le2,(lS (.there .here) hb).mono le2,hA p hp⟩
  obtain⟨b,hb,leb⟩:=aD2 ha6 p hp;have le2:=x6 leb (x6 le6 le);obtain⟨a1,h1,l1⟩:=tD (A:=eX p.rs p.os) (.there .here) hb;obtain⟨a2,h2,l2⟩:=tD (A:=eX p.ws p.os) (.there (.there (.there .here))) hb;exact⟨(lS .here hb).mono le2,(lS (.there (.there .here)) hb).mono le2,(gQ h1).mono (x6 l1 le2),(gQ h2).mono (x6 l2 le2),hC p hp⟩)
 exact h.mono fun e K' L' ⟨L'',⟨h1,h2⟩,h3,h4⟩=>⟨_,h1,Y,h3,by rw[h4,h2];rfl⟩
def aJW{v v':InsV}{o o':Ins}:∀ {i:Nat} {vs:List InsV} {os:List Ins},vs[i]?=some v→os[i]?=some o→Fnd (insA v o) (insA v' o') (kW vs os) (kW (vs.set i v') (os.set i o'))
 |0,u::vs,q::os,h1,h2=>by cases h1;cases h2;exact .here
 |i+1,u::vs,q::os,h1,h2=>.there (aJW (i:=i) h1 h2)
def aR7{i:Nat}{vs:List InsV}{os:List Ins}{v v':InsV}{o o':Ins}(hv:vs[i]?=some v)(ho:os[i]?=some o):
  ∃M:Asn,(∀L h,Sat (eX vs os::L) h→(v.op=o.op∧v.n=o.n∧v.tag=o.tag∧v.oct=o.oct∧v.at_=o.at_)∧Sat (sl false (a7 9) v.a.1 o.a::sl false (a7 9) v.b.1 o.b::M::L) h)∧
   (∀L h,(v'.op=o'.op∧v'.n=o'.n∧v'.tag=o'.tag∧v'.oct=o'.oct∧v'.at_=o'.at_)→Sat (sl false (a7 9) v'.a.1 o'.a::sl false (a7 9) v'.b.1 o'.b::M::L) h→Sat (eX (vs.set i v') (os.set i o')::L) h):=by
 obtain⟨M,h1,h2⟩:=(aJW (v':=v') (o':=o') hv ho).split;refine⟨mD M,?_,?_⟩
 ·rintro L h ⟨x,l,hx,hl,hd,rfl⟩;obtain⟨y,m,⟨he,hy⟩,hm,hym,rfl⟩:=h1 _ hx;have hd2:=Hl.join_dj.1 hd;exact⟨he,eY (L:=[_,_]).2 ⟨y,m.join l,hy,⟨m,l,hm,hl,hd2.2,Y⟩,Hl.dj_join.2 ⟨hym,hd2.1⟩,Hl.join_assoc _ _ _⟩⟩
 intro L h he hs;obtain⟨y,r,hy,⟨m,l,hm,hl,hml,rfl⟩,hd,rfl⟩:=eY (L:=[_,_]).1 hs;have hd2:=Hl.dj_join.1 hd;exact⟨y.join m,l,h2 _ ⟨y,m,⟨he,hy⟩,hm,hd2.1,Y⟩,hl,Hl.join_dj.2 ⟨hd2.2,hml⟩,(Hl.join_assoc _ _ _).symm⟩
def rV(a b:Int)(s:aP)(o:Ins):Ins:=⟨a,b,o.tag,o.oct,List.replicate o.a.length s,List.replicate o.b.length s,o.at_⟩
def aJ2{s:aP}{k:Nat}{l:List aP}(h:k < l.length):(List.replicate k s++l.drop k).set k s=List.replicate (k+1) s++l.drop (k+1):=by
 rw[List.set_append_right _ _ (by simp),List.length_replicate,Nat.sub_self,xAR h,List.replicate_succ',xA0]
 rfl
def aOZ{s:aP}{k:Nat}{l:List aP}(h:k≤l.length):(List.replicate k s++l.drop k).length=l.length:=by
 rw[xAF,List.length_replicate,xBA];omega
def aOY{s:aP}{k:Nat}{l:List aP}(h:k≤l.length)(h2:l.length≤k):List.replicate k s++l.drop k=List.replicate l.length s:=by
 have e:k=l.length:=by omega
 subst e;simp
def aQZ{E:Env}{c0:Code}{fr:Fr}{K:Hl}{L:List Asn}{Q:Post}{vs:List InsV}{os:List Ins}{v:InsV}{o:Ins}{M:Asn}(h1:∀L h,Sat (eX vs os::L) h→(v.op=o.op∧v.n=o.n∧v.tag=o.tag∧v.oct=o.oct∧v.at_=o.at_)∧Sat (sl false (a7 9) v.a.1 o.a::sl false (a7 9) v.b.1 o.b::M::L) h)
  (h:(v.op=o.op∧v.n=o.n∧v.tag=o.tag∧v.oct=o.oct∧v.at_=o.at_)→T E c0 fr K (sl false (a7 9) v.a.1 o.a::sl false (a7 9) v.b.1 o.b::M::L) Q):T E c0 fr K (eX vs os::L) Q:=
 oU (fun x hx=>(h1 L x hx).1) fun he=>jJ (fun x hx=>(h1 L x hx).2) (h he)
def aIT(v:Value)(vs:List InsV)(os:List Ins)(i:Nat)(u:InsV)(o:Ins)(kd a b:Int)(s from_ to_:aP)(sz:Int)(hv0 cv0:Value)(hu:vs[i]?=some u)(ho:os[i]?=some o)(hla:o.a.length≤1000000∧o.b.length≤1000000)(h1:hv0.oneCell'=true)(h2:cv0.oneCell'=true)(K:Hl):Sp x3 27 [v,i64 i,.agg #[i64 kd,i64 a,i64 b,str s,str from_,str to_,i64 sz,hv0,cv0]] K [sl false cT v vs,eX vs os] (Ret fun u0 K' L'=>u0=.tuple #[]∧K'=K∧∃vs',L'=[sl false cT v vs',eX vs' (os.set i (rV a b s o))]):=by
 have hilt:i < vs.length:=(xAG.1 hu).1;obtain⟨hla1,hla2⟩:=hla;refine bN Tryz.func27 Y Tryz.ntmps27 Y Y fun F w=>?_;refine zz3 ?_;rintro _ K _ ⟨b5,rfl,rfl,rfl⟩ -;refine zz4 ?_;obtain⟨M,hM1,hM2⟩:=aR7 (v':={u with op:=a,n:=b}) (o':=rV a b s o) hu ho;refine mV (aM e7 (aM bW (aM bW bF))) ?_;refine aQZ hM1 fun he=>?_;obtain⟨uop,un,utag,uoct,⟨ua,hua⟩,⟨ub,hub⟩,uat⟩:=u;dsimp only at he hM2;refine jJ (L':=[sl false (a7 9) ua o.a,sl false (a7 9) ub o.b,M,pt b5 (bL [i64 kd,i64 a,i64 b,str s,str from_,str to_,i64 sz,hv0,cv0] 38),sl false cT v vs]) (fun _ h=>h) (zz5 ?_);refine eH (fun(k:Nat)=>k≤o.a.length) (fun k=>[(0,v),(1,i64 i),(5,ptr b5),(6,i64 k)]) (fun _=>K) (fun k=>[sl false (a7 9) ua (List.replicate k s++o.a.drop k),sl false (a7 9) ub o.b,M,pt b5 (bL [i64 kd,i64 a,i64 b,str s,str from_,str to_,i64 sz,hv0,cv0] 38),sl false cT v vs]) (fun k=>o.a.length - k) 0 (x9 _) aS Y (fun _ h=>h) ?_;intro k hk0;have hfl:=aOZ (s:=s) hk0;refine zz6 ?_;refine aA (aX (k:=cT) (j:=i) eU Y aL Y Y hilt) Y ?_;refine aA (dU (k:=cT) (j:=i) fJ Y aL hilt) Y ?_;refine aA (fD (k:=cT) eP Y aL hu Y) Y ?_;refine uAr ?_;refine zz3 ?_;refine aY 15 Y (fun h15=>?_) (fun h15=>?_)
 ·have hkl:k < (List.replicate k s++o.a.drop k).length:=by omega
  refine zz4 ?_;refine cZ (anc:=[0,0,3,7,15,0,0,64,255,511]) (ord:=[0,1,2,3,4,5,6,7,8,9]) [9] [9] mixed gC5 (cQ _) (zz2 ?_);refine aJ Y Y (.none Y) Y Y (aX (k:=cT) (j:=i) eU Y aL Y Y hilt) Y ?_;refine aJ Y Y (.none Y) Y Y (dU (k:=cT) (j:=i) fJ Y aL hilt) Y ?_;refine aJ Y Y (.none Y) Y Y (fD (k:=cT) eP Y aL hu Y) Y (zz3 ?_);refine aJ Y Y (.none Y) Y Y (aX (k:=a7 9) (j:=k) cB Y aL Y Y hkl) Y ?_;refine mT Y Y (.none Y) Y (jG (k:=a7 9) (y0:=s) ts9 Y Y Y Y hkl .here) ?_;rintro _ K _ ⟨rfl,rfl⟩ -;refine zz8 ?_;exact cM (k+1) aH aH aS Y (fun _ h=>by rw[aJ2 (by omega:k < o.a.length)]at h;exact h)
 rw[aOY hk0 aH];refine zz12 ?_;refine eH (fun(k:Nat)=>k≤o.b.length) (fun k=>[(0,v),(1,i64 i),(5,ptr b5),(7,i64 k)]) (fun _=>K) (fun k=>[sl false (a7 9) ua (List.replicate o.a.length s),sl false (a7 9) ub (List.replicate k s++o.b.drop k),M,pt b5 (bL [i64 kd,i64 a,i64 b,str s,str from_,str to_,i64 sz,hv0,cv0] 38),sl false cT v vs]) (fun k=>o.b.length - k) 0 (x9 _) aS Y (fun _ h=>h) ?_;intro k hk0;have hfl:=aOZ (s:=s) hk0;refine zz6 ?_;refine aA (aX (k:=cT) (j:=i) eU Y aL Y Y hilt) Y ?_;refine aA (dU (k:=cT) (j:=i) jS Y aL hilt) Y ?_;refine aA (fD (k:=cT) eP Y aL hu Y) Y ?_;refine uAr ?_;refine zz3 ?_;refine aY 34 Y (fun h34=>?_) (fun h34=>?_)
 ·have hkl:k < (List.replicate k s++o.b.drop k).length:=by omega
  refine zz4 ?_;refine cZ (anc:=[0,0,3,7,15,0,0,64,255,511]) (ord:=[0,1,2,3,4,5,6,7,8,9]) [9] [9] mixed gC5 (cQ _) (zz2 ?_);refine aJ Y Y (.none Y) Y Y (aX (k:=cT) (j:=i) eU Y aL Y Y hilt) Y ?_;refine aJ Y Y (.none Y) Y Y (dU (k:=cT) (j:=i) jS Y aL hilt) Y ?_;refine aJ Y Y (.none Y) Y Y (fD (k:=cT) eP Y aL hu Y) Y (zz3 ?_);refine aJ Y Y (.none Y) Y Y (aX (k:=a7 9) (j:=k) cB Y aL Y Y hkl) Y ?_;refine mT Y Y (.none Y) Y (jG (k:=a7 9) (y0:=s) ts9 Y Y Y Y hkl (.there .here)) ?_;rintro _ K _ ⟨rfl,rfl⟩ -;refine zz8 ?_;exact cM (k+1) aH aH aS Y (fun _ h=>by rw[aJ2 (by omega:k < o.b.length)]at h;exact h)
 rw[aOY hk0 aH];refine zz11 ?_;refine aA (aX (k:=cT) (j:=i) eU Y aL Y Y hilt) Y ?_;refine aA (dU (k:=cT) (j:=i) jR Y aL hilt) Y ?_;refine cD (aH8 (k:=cT) (y0:=(⟨a,un,utag,uoct,⟨ua,hua⟩,⟨ub,hub⟩,uat⟩:InsV)) ts3 Y Y hu (by show 0 < 7;omega) Y Y (.there (.there (.there (.there .here))))) ?_;rintro _ K _ ⟨rfl,rfl⟩ -;have hilt2:i < (vs.set i (⟨a,un,utag,uoct,⟨ua,hua⟩,⟨ub,hub⟩,uat⟩:InsV)).length:=by rw[xBC];exact hilt
 have hu2:(vs.set i (⟨a,un,utag,uoct,⟨ua,hua⟩,⟨ub,hub⟩,uat⟩:InsV))[i]?=some (⟨a,un,utag,uoct,⟨ua,hua⟩,⟨ub,hub⟩,uat⟩:InsV):=List.getElem?_set_self hilt;refine zz7 ?_;refine aA (aX (k:=cT) (j:=i) eU Y aL Y Y hilt2) Y ?_;refine aA (dU (k:=cT) (j:=i) f8 Y aL hilt2) Y ?_;refine cD (aH8 (k:=cT) (y0:=(⟨a,b,utag,uoct,⟨ua,hua⟩,⟨ub,hub⟩,uat⟩:InsV)) ts3 Y Y hu2 (by show 1 < 7;omega) Y Y (.there (.there (.there (.there .here))))) ?_;rintro _ K _ ⟨rfl,rfl⟩ -;rw[List.set_set];refine aG ?_;refine aQ (aM bW (aM bW (aM bW (aM cI bF)))) ?_;refine cS (fun h hh=>hM2 _ h ⟨Y,Y,he.2.2.1,he.2.2.2.1,he.2.2.2.2⟩ hh) ?_;refine uAw ?_;refine zz1 ?_;exact⟨_,Y,Y,Y,_,Y⟩
end Go.Proofs
end
section
attribute [local irreducible] Go.SL.T Go.SL.OL Go.SL.D Go.SL.DL Go.SL.Ev Go.SL.Ef Go.SL.EfS
namespace Go.Proofs
open Go Go.SL Go.Syn Go.Mach
open Go.Cmp (cT RIs InsV RIns eX kW gQ insA codeP_len)
structure WFit (n:Nat) (W:WS):Prop where
 nx:W.xl.length≤n
 na:W.al.length≤n
 nc:W.cl.length≤n
 al:∀p∈W.al,p.l.length≤1000000
 cl:∀p∈W.cl,CodeFit p.os
def aE6{α:Type}{f:α→Asn}:∀ {k:Nat} {l:List α} {p:α},l[k]?=some p→∃M:List Asn,(∀h,Sat (l.map f) h→Sat (f p::M) h)∧∀p' h,Sat (f p'::M) h→Sat ((l.set k p').map f) h
 |0,q::l,p,h=>by cases h;exact⟨l.map f,fun _ h=>h,fun _ _ h=>h⟩
 |k+1,q::l,p,h=>by
  obtain⟨M,h1,h2⟩:=aE6 (f:=f) (k:=k) (l:=l) (p:=p) h;exact⟨f q::M,fun x hx=>iM (eR h1 hx),fun p' x hx=>eR (h2 p') (iM hx)⟩
def aE5{α:Type}{f:α→Asn}{k:Nat}{l:List α}{p:α}(hk:l[k]?=some p):∃M:Asn,(∀L h,Sat (mD (l.map f)::L) h→Sat (f p::M::L) h)∧∀p' L h,Sat (f p'::M::L) h→Sat (mD ((l.set k p').map f)::L) h:=by
 obtain⟨M,h1,h2⟩:=aE6 (f:=f) hk;refine⟨mD M,?_,?_⟩
 ·rintro L h ⟨x,l,hx,hl,hd,rfl⟩;obtain⟨y,m,hy,hm,hym,rfl⟩:=h1 _ hx;have hd2:=Hl.join_dj.1 hd;exact⟨y,m.join l,hy,⟨m,l,hm,hl,hd2.2,Y⟩,Hl.dj_join.2 ⟨hym,hd2.1⟩,Hl.join_assoc _ _ _⟩
 rintro p' L h ⟨y,r,hy,⟨m,l,hm,hl,hml,rfl⟩,hd,rfl⟩;have hd2:=Hl.dj_join.1 hd;exact⟨y.join m,l,h2 p' _ ⟨y,m,hy,hm,hd2.1,Y⟩,hl,Hl.join_dj.2 ⟨hd2.2,hml⟩,(Hl.join_assoc _ _ _).symm⟩
def aZ8{A B:Asn}{P:Asn}{L:List Asn}(k:∀h,P h→Sat [A,B] h):∀h,Sat (P::L) h→Sat (A::B::L) h:=fun h ⟨a,l,ha,hl,hd,e⟩=>eY (L:=[A,B]).2 ⟨a,l,k a ha,hl,hd,e⟩
def aT7{A B C D:Asn}{P:Asn}{L:List Asn}(k:∀h,P h→Sat [A,B,C,D] h):∀h,Sat (P::L) h→Sat (A::B::C::D::L) h:=fun h ⟨a,l,ha,hl,hd,e⟩=>eY (L:=[A,B,C,D]).2 ⟨a,l,k a ha,hl,hd,e⟩
def bF5{α:Type}{l:List α}{k:Nat}{x:α}(h:l[k]?=some x):l.set k x=l:=by
 obtain⟨hk,rfl⟩:=xAG.1 h;exact List.set_getElem_self hk
def aCA{α β:Type}{g:α→β}{l:List α}{k:Nat}{x y:α}(h:l[k]?=some x)(e:g y=g x):(l.set k y).map g=l.map g:=by
 rw[List.map_set,e];exact bF5 (by rw[xAQ,h];rfl)
section
variable{wb k:Nat}{W:WS}{L:List Asn}{xv mv av cv:Value}
def uG{p p':AP}{M:Asn}(hp:W.al[k]?=some p)(h1:p'.rv=p.rv)(h2:p'.wv=p.wv)(hM:∀p' L h,Sat (actP p'::M::L) h→Sat (mD ((W.al.set k p').map actP)::L) h):
  ∀h,Sat (actP p'::M::wblk wb xv mv av cv::sl false (cC 60) xv (W.xl.map fun x=>pcl x.b)::sl false (cC 61) mv (W.xl.map fun x=>pcl x.rb)::sl false (dT 69) av (W.al.map fun p=>(p.rv,p.wv))::sl false (dT 71) cv (W.cl.map fun p=>(p.rv,p.wv))::mD (W.cl.map cdP)::L) h→Sat (wP wb {W with al:=W.al.set k p'}::L) h:=by
 intro h hh;have hh:=hM p' _ h hh;have hh:=Tks.sat (show Tks [wblk wb xv mv av cv,sl false (cC 60) xv (W.xl.map fun x=>pcl x.b),sl false (cC 61) mv (W.xl.map fun x=>pcl x.rb),sl false (dT 69) av (W.al.map fun p=>(p.rv,p.wv)),mD ((W.al.set k p').map actP),sl false (dT 71) cv (W.cl.map fun p=>(p.rv,p.wv)),mD (W.cl.map cdP)] _ L from .cons (.there .here) (aM cI (aM cI (aM cI (aM bW (aM bW (aM bW bF))))))) h hh;refine mW (W:={W with al:=W.al.set k p'}) (xv:=xv) (mv:=mv) (av:=av) (cv:=cv) h ?_;simp only[w7];rw[aCA (g:=fun p:AP=>(p.rv,p.wv)) hp (by rw[h1,h2])];exact hh
def uH{p p':CP}{M:Asn}(hp:W.cl[k]?=some p)(h1:p'.rv=p.rv)(h2:p'.wv=p.wv)(hM:∀p' L h,Sat (cdP p'::M::L) h→Sat (mD ((W.cl.set k p').map cdP)::L) h):
  ∀h,Sat (cdP p'::M::wblk wb xv mv av cv::sl false (cC 60) xv (W.xl.map fun x=>pcl x.b)::sl false (cC 61) mv (W.xl.map fun x=>pcl x.rb)::sl false (dT 69) av (W.al.map fun p=>(p.rv,p.wv))::mD (W.al.map actP)::sl false (dT 71) cv (W.cl.map fun p=>(p.rv,p.wv))::L) h→Sat (wP wb {W with cl:=W.cl.set k p'}::L) h:=by
 intro h hh;have hh:=hM p' _ h hh;have hh:=Tks.sat (show Tks [wblk wb xv mv av cv,sl false (cC 60) xv (W.xl.map fun x=>pcl x.b),sl false (cC 61) mv (W.xl.map fun x=>pcl x.rb),sl false (dT 69) av (W.al.map fun p=>(p.rv,p.wv)),mD (W.al.map actP),sl false (dT 71) cv (W.cl.map fun p=>(p.rv,p.wv)),mD ((W.cl.set k p').map cdP)] _ L from .cons (.there .here) (aM cI (aM cI (aM cI (aM cI (aM cI (aM bW bF))))))) h hh;refine mW (W:={W with cl:=W.cl.set k p'}) (xv:=xv) (mv:=mv) (av:=av) (cv:=cv) h ?_;simp only[w7];rw[aCA (g:=fun p:CP=>(p.rv,p.wv)) hp (by rw[h1,h2])];exact hh
def WFit.setA{n:Nat}(h:WFit n W){p:AP}(hp:p.l.length≤1000000):WFit n {W with al:=W.al.set k p}:=⟨h.nx,by show (W.al.set k p).length≤n;rw[xBC];exact h.na,h.nc,fun q hq=>by rcases List.mem_or_eq_of_mem_set hq with hq|rfl;exact h.al q hq;exact hp,h.cl⟩
def WFit.setC{n:Nat}(h:WFit n W){p:CP}(hp:CodeFit p.os):WFit n {W with cl:=W.cl.set k p}:=⟨h.nx,h.na,by show (W.cl.set k p).length≤n;rw[xBC];exact h.nc,h.al,fun q hq=>by rcases List.mem_or_eq_of_mem_set hq with hq|rfl;exact h.cl q hq;exact hp⟩
def aB2 {os : List Ins} {i : Nat} {o : Ins} {a b : Int} {s : aP} (h : CodeFit os) (ho : os[i]? = some o) : CodeFit (os.set i (rV a b s o)) := ⟨by rw [xBC]; exact h.1, fun q hq => by
 rcases List.mem_or_eq_of_mem_set hq with hq|rfl
 ·exact h.2 q hq
 have:=h.2 o (x8 ho);simpa[rV]using this⟩
end
def wC(wb n:Nat)(W:WS)(kd a b:Int)(s from_ to_:aP)(sz:Int)(hv0 cv0:Value)(hw:WFit n W)(hn:n≤1000000)(hra: -9223372036854775808≤a∧a≤9223372036854775807)(hrb: -9223372036854775808≤b∧b≤9223372036854775807)(h1:hv0.oneCell'=true)(h2:cv0.oneCell'=true)(K:Hl):Sp x3 13 [ptr wb,.agg #[i64 kd,i64 a,i64 b,str s,str from_,str to_,i64 sz,hv0,cv0]] K [wP wb W] (Ret fun v K' L'=>v=.tuple #[]∧K'=K∧∃W',W'.xl=W.xl∧WFit n W'∧L'=[wP wb W']):=by
 refine bN Tryz.func13 Y Tryz.ntmps13 Y Y fun F w=>?_;refine zz3 ?_;rintro _ K _ ⟨b3,rfl,rfl,rfl⟩ -;refine zz2 ?_;refine dX (fun(W1:WS)=>W1.xl=W.xl∧WFit n W1) (fun _=>[(0,ptr wb),(3,ptr b3)]) (fun _=>K) (fun W1=>[wP wb W1,pt b3 (bL [i64 kd,i64 a,i64 b,str s,str from_,str to_,i64 sz,hv0,cv0] 38)]) ?_ ?_
 ·refine aI ?_;refine mV (aM cI (aM bW bF)) ?_;refine aNH fun xv mv wav cv=>?_;have hlA:(W.al.map fun p=>(p.rv,p.wv)).length=W.al.length:=xAS _;refine zz5 ?_;refine bV 13 Y (fun g13=>?_) (fun g13=>?_)
  ·refine zz9 ?_;refine aA (bU (k:=(dT 69)) Y Tryz.underlying29 Y aL) Y (zz5 ?_);refine aY 20 Y (fun h20=>?_) (fun h20=>?_)
   ·have hpos:0 < (W.al.map fun p=>(p.rv,p.wv)).length:=by omega
    refine aI ?_;refine cZ (anc:=[0,1,0,4,12,28,60,127,255]) (ord:=[0,1,2,3,4,5,6,7,8]) [7] [7] mixed gC5 (cQ _) (zz6 ?_);refine aJ Y Y (.none Y) Y Y (bU (k:=(dT 69)) Y Tryz.underlying29 Y aL) Y ?_;have hpn:(W.al.map fun p=>(p.rv,p.wv)).length≤1000000000:=by have:=hw.na;omega
    have hpk:=fun K=>oY a (W.al.map fun p=>(p.rv,p.wv)).length hra ⟨hpos,hpn⟩ K
    refine eQ Y (.none Y) Y Y Y (hpk _) .nil Y ?_;rintro _ K _ ⟨k,hk,rfl,rfl,rfl⟩ -;refine zz4 ?_;obtain⟨p,hp⟩:∃p,W.al[k]?=some p:=⟨W.al[k]'(by omega),x4 aH⟩;have hq:(W.al.map fun p=>(p.rv,p.wv))[k]?=some (p.rv,p.wv):=by rw[xAQ,hp];rfl
    obtain⟨M,hM1,hM2⟩:=aE5 (f:=actP) hp;refine mV (aM yY (aM bW (aM bW (aM bW (aM bW (aM bW (aM bW (aM bW bF)))))))) ?_;refine jJ (hM1 _) ?_;refine jJ (aZ8 (fun _ h=>h)) ?_;have hpm:=x8 hp;have hpl:=hw.al p hpm;refine mV (aM k9T (aM bW (aM bW (aM bW (aM bW (aM bW (aM bW (aM bW (aM bW (aM bW bF)))))))))) (zz6 ?_);refine aA (aX (k:=dT 69) (j:=k) sP Y aL Y Y hk) Y ?_;refine aA (dU (k:=dT 69) (j:=k) tf69_0_0 Y aL hk) Y ?_;refine aA (fD (k:=dT 69) lN Y aL hq Y) Y ?_;refine aA (bU (k:=dP) Y Tryz.underlying49 Y aL) Y (zz9 ?_);refine aY 39 Y (fun h39=>?_) (fun h39=>?_)
    ·have hpos2:0 < p.l.length:=by omega
     refine zz5 ?_;have hpn:p.l.length≤1000000000:=by omega
     have hpk:=fun K=>oY b p.l.length hrb ⟨hpos2,hpn⟩ K
     refine bA Y Y (hpk _) .nil Y ?_;rintro _ K _ ⟨i,hi,rfl,rfl,rfl⟩ -;refine zz4 ?_;refine cZ (anc:=[0,1,3,7,0,31,63,127,0,0,512,0,2048,7680,16383,32767]) (ord:=[0,1,2,3,4,5,6,7,8,9,10,11,12,13,14,15]) [15] [15] mixed gC5 (cQ _) (zz5 ?_);refine aJ Y Y (.none Y) Y Y (aX (k:=dT 69) (j:=k) sP Y aL Y Y hk) Y ?_;refine aJ Y Y (.none Y) Y Y (dU (k:=dT 69) (j:=k) tf69_0_0 Y aL hk) Y ?_;refine aJ Y Y (.none Y) Y Y (fD (k:=dT 69) lN Y aL hq Y) Y (zz5 ?_);refine aJ Y Y (.none Y) Y Y (dG aJG aAB dF) Y ?_;refine aJ Y Y (.none Y) Y Y (aX (k:=dP) (j:=i) jU Y aL Y Y hi) Y ?_;refine mT Y Y (.none Y) Y (pH (k:=dP) (y0:=(a,s)) mK Y Y hi (.there .here)) ?_;rintro _ K _ ⟨rfl,rfl⟩ -;refine zz2 ?_;refine cZ (anc:=[0,1,3,7,0,31,63,127,0,0,512,0,2048,7680,16383,32767]) (ord:=[0,1,2,3,4,5,6,7,8,9,10,11,12,13,14,15]) [15] [15] mixed gC5 (cQ _) (zz5 ?_);refine aJ Y Y (.none Y) Y Y (aX (k:=dT 69) (j:=k) sP Y aL Y Y hk) Y ?_;refine aJ Y Y (.none Y) Y Y (dU (k:=dT 69) (j:=k) tf69_1_1 Y aL hk) Y ?_;refine aJ Y Y (.none Y) Y Y (fD (k:=dT 69) lN Y aL hq Y) Y (zz5 ?_);refine aJ Y Y (.none Y) Y Y (dG aJG aAB dF) Y ?_;refine aJ Y Y (.none Y) Y Y (aX (k:=dP) (j:=i) jU Y aL Y Y hi) Y ?_;refine mT Y Y (.none Y) Y (pH (k:=dP) (y0:=(a,s)) mK Y Y hi (.there (.there .here))) ?_;rintro _ K _ ⟨rfl,rfl⟩ -;refine cL ?_
     first
      |exact gAT
      |exact gA3
      |exact gB9
    refine aW ?_
    first
     |exact gAT
     |exact gA3
     |exact gB9
   refine aW ?_
   first
    |exact gAT
    |exact gA3
    |exact gB9
  refine zz11 ?_
  first
   |exact gAT
   |exact gA3
   |exact gB9
 intro W1 ⟨hx1,hw1⟩;refine aNH fun xv mv wav cv=>?_;have hlC:(W1.cl.map fun p=>(p.rv,p.wv)).length=W1.cl.length:=xAS _;refine zz6 ?_;refine bV 77 Y (fun g77=>?_) (fun g77=>?_)
 ·refine zz9 ?_;refine aA (bU (k:=(dT 71)) Y Tryz.underlying30 Y aL) Y (zz5 ?_);refine aY 84 Y (fun h84=>?_) (fun h84=>?_)
  ·have hpos:0 < (W1.cl.map fun p=>(p.rv,p.wv)).length:=by omega
   refine aI ?_;refine cZ (anc:=[0,1,0,4,12,28,60,127,255]) (ord:=[0,1,2,3,4,5,6,7,8]) [7] [7] mixed gC5 (cQ _) (zz6 ?_);refine aJ Y Y (.none Y) Y Y (bU (k:=(dT 71)) Y Tryz.underlying30 Y aL) Y ?_;have hpn:(W1.cl.map fun p=>(p.rv,p.wv)).length≤1000000000:=by have:=hw1.nc;omega
   have hpk:=fun K=>oY a (W1.cl.map fun p=>(p.rv,p.wv)).length hra ⟨hpos,hpn⟩ K
   refine eQ Y (.none Y) Y Y Y (hpk _) .nil Y ?_;rintro _ K _ ⟨k,hk,rfl,rfl,rfl⟩ -;refine zz4 ?_;obtain⟨p,hp⟩:∃p,W1.cl[k]?=some p:=⟨W1.cl[k]'(by omega),x4 aH⟩;have hq:(W1.cl.map fun p=>(p.rv,p.wv))[k]?=some (p.rv,p.wv):=by rw[xAQ,hp];rfl
   obtain⟨M,hM1,hM2⟩:=aE5 (f:=cdP) hp;refine mV (aM k6T (aM bW (aM bW (aM bW (aM bW (aM bW (aM bW (aM bW bF)))))))) ?_;refine jJ (hM1 _) ?_;refine jJ (aT7 (fun _ h=>h)) ?_;have hpm:=x8 hp;have hpl:=hw1.cl p hpm;have hfl:=hpl.1;refine oU (p:=p.rs.length=p.os.length) (fun h hs=>codeP_len h (Tks.sat (show Tks [eX p.rs p.os] _ _ from (aM cI bF)) h hs)) ?_;intro hrl;refine oU (p:=p.ws.length=p.os.length) (fun h hs=>codeP_len h (Tks.sat (show Tks [eX p.ws p.os] _ _ from (aM nC bF)) h hs)) ?_;intro hwl;refine mV (aM bOA (aM k5T (aM k9T (aM bW (aM bW (aM bW (aM bW (aM bW (aM bW (aM bW (aM bW (aM bW bF)))))))))))) (zz6 ?_);refine aA (aX (k:=dT 71) (j:=k) sQ Y gEM Y Y hk) Y ?_;refine aA (dU (k:=dT 71) (j:=k) tf71_0_0 Y gEM hk) Y ?_;refine aA (fD (k:=dT 71) vF Y gEM hq Y) Y ?_;refine aA (bU (k:=cT) Y Tryz.underlying36 Y aL) Y (zz9 ?_);refine aY 103 Y (fun h103=>?_) (fun h103=>?_)
   ·have hpos2:0 < p.rs.length:=by omega
    refine zz5 ?_;have hpn:p.rs.length≤1000000000:=by omega
    have hpk:=fun K=>oY b p.rs.length hrb ⟨hpos2,hpn⟩ K
    refine bA Y Y (hpk _) .nil Y ?_;rintro _ K _ ⟨i,hi,rfl,rfl,rfl⟩ -;obtain⟨u,hu⟩:∃u,p.rs[i]?=some u:=⟨p.rs[i]'hi,x4 hi⟩;obtain⟨u2,hu2⟩:∃u,p.ws[i]?=some u:=⟨p.ws[i]'(by omega),x4 aH⟩;obtain⟨o,ho⟩:∃u,p.os[i]?=some u:=⟨p.os[i]'(by omega),x4 aH⟩;have hof:=hpl.2 o (x8 ho);refine zz4 ?_;refine cZ (anc:=[0,1,3,7,0,31,63,127,0,0,1023]) (ord:=[0,1,2,3,4,5,6,7,8,9,10]) [10] [10] mixed gC5 (cQ _) (zz5 ?_);refine aJ Y Y (.none Y) Y Y (aX (k:=dT 71) (j:=k) sQ Y gEM Y Y hk) Y ?_;refine aJ Y Y (.none Y) Y Y (dU (k:=dT 71) (j:=k) tf71_0_0 Y gEM hk) Y ?_;refine aJ Y Y (.none Y) Y Y (fD (k:=dT 71) vF Y gEM hq Y) Y (zz2 ?_);refine eQ Y (.none Y) Y Y Y (aIT _ _ p.os i u o kd a b s from_ to_ sz hv0 cv0 hu ho ⟨by omega,by omega⟩ h1 h2 _) bS Y ?_;rintro _ K _ ⟨rfl,rfl,rs2,rfl⟩ -;refine zz2 ?_;refine cZ (anc:=[0,1,3,7,0,31,63,127,0,0,1023]) (ord:=[0,1,2,3,4,5,6,7,8,9,10]) [10] [10] mixed gC5 (cQ _) (zz5 ?_);refine aJ Y Y (.none Y) Y Y (aX (k:=dT 71) (j:=k) sQ Y gEM Y Y hk) Y ?_;refine aJ Y Y (.none Y) Y Y (dU (k:=dT 71) (j:=k) tf71_1_1 Y gEM hk) Y ?_;refine aJ Y Y (.none Y) Y Y (fD (k:=dT 71) vF Y gEM hq Y) Y (zz2 ?_);refine eQ Y (.none Y) Y Y Y (aIT _ _ p.os i u2 o kd a b s from_ to_ sz hv0 cv0 hu2 ho ⟨by omega,by omega⟩ h1 h2 _) bS Y ?_;rintro _ K _ ⟨rfl,rfl,ws2,rfl⟩ -;refine cL ?_
    first
     |exact gAP
     |exact gAZ
     |exact gBG
   refine aW ?_
   first
    |exact gAP
    |exact gAZ
    |exact gBG
  refine aW ?_
  first
   |exact gAP
   |exact gAZ
   |exact gBG
 refine zz11 ?_
 first
  |exact gAP
  |exact gAZ
  |exact gBG
end Go.Proofs
end
section
namespace Go.Proofs
open Go Go.SL Go.Syn Go.Mach
open Go.Cmp (cT RIs InsV RIns eX kW gQ insA codeP_len)
def WFit.up{n:Nat}{W:WS}(h:WFit n W):WFit (n+1) W:=⟨Nat.le_succ_of_le h.nx,Nat.le_succ_of_le h.na,Nat.le_succ_of_le h.nc,h.al,h.cl⟩
def WFit.addX{n:Nat}{W:WS}{q:XP}(h:WFit n W):WFit (n+1) {W with xl:=W.xl++[q]}:=⟨by have:=h.nx;simp;omega,Nat.le_succ_of_le h.na,Nat.le_succ_of_le h.nc,h.al,h.cl⟩
end Go.Proofs
end
section
namespace Go.Proofs
open Go Go.SL Go.Syn Go.Mach
open Go.Cmp (cT RIs InsV)
structure OpV where
 kd:Int
 a:Int
 b:Int
 s:aP
 from_:aP
 to_:aP
 sz:Int
 hv:Cell
 cv:Cell
 hs:List (aP×aP)
 vs:List InsV
 os:List Ins
def opEl:El OpV:={e:=38,sz:=9,enc:=fun v=>[i64 v.kd,i64 v.a,i64 v.b,str v.s,str v.from_,str v.to_,i64 v.sz,v.hv.1,v.cv.1],len:=fun _=>rfl,one:=fun v u h=>by simp at h;rcases h with rfl|rfl|rfl|rfl|rfl|rfl|rfl|rfl|rfl;rfl;rfl;rfl;rfl;rfl;rfl;rfl;exact v.hv.2;exact v.cv.2}
abbrev OpV.m(x:OpV):Msg:=⟨x.from_,x.to_,x.sz,x.hs⟩
structure OpIs (K:Hl) (x:OpV):Prop where
 hs:Ksl hdEl K x.hv.1 x.hs
 vs:Ksl cT K x.cv.1 x.vs
 os:RIs K x.vs x.os
 fit:∀v∈x.vs,lB v.a.1
 a: -9223372036854775808≤x.a∧x.a≤9223372036854775807
 b: -9223372036854775808≤x.b∧x.b≤9223372036854775807
def OpIs.mono{K K':Hl}{x:OpV}(h:OpIs K x)(le:K.le K'):OpIs K' x:=⟨h.hs.mono le,h.vs.mono le,h.os.mono le,h.fit,h.a,h.b⟩
structure OpFit (n:Nat) (x:OpV):Prop where
 s:x.s.length≤n
 from_:x.from_.length≤n
 to_:x.to_.length≤n
 hn:x.hs.length≤n
 hs:∀h∈x.hs,h.1.length≤n∧h.2.length≤n
 on:x.os.length≤n
 os:∀o∈x.os,(o.a.length≤n∧∀y∈o.a,y.length≤n)∧o.b.length≤n∧∀y∈o.b,y.length≤n
def OpFit.mono{n k:Nat}{x:OpV}(h:OpFit n x)(le:n≤k):OpFit k x:=by
 obtain⟨h1,h2,h3,h4,h5,h6,h7⟩:=h;exact⟨by omega,by omega,by omega,by omega,fun q hq=>by have:=h5 q hq;omega,by omega,fun o ho=>⟨⟨by have:=(h7 o ho).1.1;omega,fun y hy=>by have:=(h7 o ho).1.2 y hy;omega⟩,by have:=(h7 o ho).2.1;omega,fun y hy=>by have:=(h7 o ho).2.2 y hy;omega⟩⟩
def OpFit.msg{x:OpV}(h:OpFit 65536 x):MsgOk x.m:=⟨by have:=h.hn;show x.hs.length≤_;omega,fun q hq=>by have:=h.hs q hq;omega,by have:=h.from_;show x.from_.length≤_;omega,by have:=h.to_;show x.to_.length≤_;omega⟩
def OpFit.code{x:OpV}(h:OpFit 65536 x):Proofs.CodeFit x.os:=⟨by have:=h.on;omega,fun o ho=>⟨by have:=(h.os o ho).1.1;omega,by have:=(h.os o ho).2.1;omega⟩⟩
def OpFit.ins{x:OpV}(h:OpFit 65536 x):∀o∈x.os,InsOk o:=fun o ho=>⟨by have:=(h.os o ho).1.1;omega,by have:=(h.os o ho).2.1;omega,fun y hy=>by have:=(h.os o ho).1.2 y hy;omega,fun y hy=>by have:=(h.os o ho).2.2 y hy;omega⟩
end Go.Proofs
end
section
set_option maxRecDepth 100000
namespace Go.Proofs
open Go Go.SL Go.Syn Go.Mach Go.ChangeShapes Go.WideShapes Go.RowKit
open Go.Cmp (cT RIs InsV RIns)
namespace TzRow
def aWU{n:Int}(h:(Lit.int .i64 n).wf=true): -9223372036854775808≤n∧n≤9223372036854775807:=by
 have h1:IntKind.i64.min= -9223372036854775808:=rfl;have h2:IntKind.i64.max=9223372036854775807:=rfl;simp only[Lit.wf,Bool.and_eq_true,decide_eq_true_eq]at h;omega
def aFP{α:Type}{k:El α}{K:Hl}{v:Value}{xs:List α}(h:Ksl k K v xs):v.oneCell'=true:=by
 rcases h with ⟨a,c,rfl,_⟩|⟨b,off,cap,cells,fz,rfl,_⟩ <;> rfl
section
variable{H:Type}{enc:TypeId×Value→H}{W:World}{base:Nat}{sp:Nat→Bool}{held:Bool}
def bBC{P:Program}{t e:TypeId}{n:Nat}{v:Value}{x:DataW H×List MemPlace}(hu:P.underlying t=some (.slice e))(h:DataW.trod enc P W base sp held n t [v]=some x):lB v:=by
 obtain⟨m,hm0,h2⟩:=sS h;clear h;have h:=h2;clear h2 hm0;unfold DataW.trodStep at h;rw[hu]at h;cases v with
 |slice a len cap=>
  cases a with
  |none=>
   cases len with
   |succ l=>simp at h
   |zero=>intro a n c e;cases e;exact x9 _
  |some a=>
   simp only[]at h;split at h
   ·rename_i hb;intro a n c e;cases e
    omega
   cases h
 |_=>simp at h
def aVX{n:Nat}{v:Value}{x:DataW H×List MemPlace}(h:DataW.trod enc Tryz.prog W base sp held n 43 [v]=some x)(hB:∀k∈x.1.weights Tryz.prog 43,k≤reachBytes):∃xs:List aP,Ksl (a7 9) (hp W) v xs∧xs.length≤140737488355328∧∀y∈xs,y.length≤140737488355328:=by
 have b9:Tryz.prog.bytesOf 9=16:=cY
 have hr : reachBytes = 140737488351232 := rfl;obtain ⟨xs, h1, h2, h3⟩ := aMO (k := a7 9) (G := fun y : aP => y.length ≤ 140737488355328) Tryz.underlying43 cY (by decide) (fun n cs y hy hw => by
  obtain⟨l,e,hl⟩:=aDK hy;exact⟨l,e,by have:=hB _ (hw _ hl);omega⟩) h
 refine⟨xs,h1,?_,h2⟩
 rcases h3 with rfl|⟨k,hk,hk2⟩
 ·simp
 have e9:(a7 9).e=9:=rfl;rw[e9,b9]at hk2;have:=hB k hk;omega
def aVF(o:Ins):Prop:=(o.a.length≤140737488355328∧∀y∈o.a,y.length≤140737488355328)∧o.b.length≤140737488355328∧∀y∈o.b,y.length≤140737488355328
def bMC{n:Nat}{cs:List Value}{x:DataW H×List MemPlace}(h:DataW.trod enc Tryz.prog W base sp held n 45 cs=some x)(hB:∀k∈x.1.weights Tryz.prog 45,k≤reachBytes):∃v:InsV,cs=cT.enc v∧∃o,RIns (hp W) v o∧lB v.a.1∧aVF o:=by
 obtain⟨m,hl,hf⟩:=uF Tryz.underlying45 h;have c41:Tryz.prog.cellsOf 45=7:=cY
 have c3:Tryz.prog.cellsOf 3=1:=cY
 have c4:Tryz.prog.cellsOf 4=1:=cY
 have c39:Tryz.prog.cellsOf 43=1:=cY
 rw[c41]at hl
 match cs,hl,hf with
 | [v0,v1,v2,v3,v4,v5,v6],_,hf=>
  obtain⟨y0,h0,w0⟩:=hf 0 _ rfl;obtain⟨y1,h1,w1⟩:=hf 1 _ rfl;obtain⟨y2,h2,w2⟩:=hf 2 _ rfl;obtain⟨y3,h3,w3⟩:=hf 3 _ rfl;obtain⟨y4,h4,w4⟩:=hf 4 _ rfl;obtain⟨y5,h5,w5⟩:=hf 5 _ rfl;obtain⟨y6,h6,w6⟩:=hf 6 _ rfl;dsimp only at h0 h1 h2 h3 h4 h5 h6 w4 w5;rw[c3]at h0 h1 h2 h6;rw[c4]at h3;rw[c39]at h4 h5;obtain⟨i0,e0,_⟩:=rI Tryz.underlying3 h0;obtain⟨i1,e1,_⟩:=rI Tryz.underlying3 h1;obtain⟨i2,e2,_⟩:=rI Tryz.underlying3 h2;obtain⟨b3,e3⟩:=bBB Tryz.underlying4 h3;obtain⟨i6,e6,_⟩:=rI Tryz.underlying3 h6;have h4':DataW.trod enc Tryz.prog W base sp held m 43 [v4]=some y4:=h4;have h5':DataW.trod enc Tryz.prog W base sp held m 43 [v5]=some y5:=h5;obtain⟨xa,ka,la,za⟩:=aVX h4' fun k hk=>hB _ (w4 _ hk)
  obtain⟨xb,kb,lb,zb⟩:=aVX h5' fun k hk=>hB _ (w5 _ hk)
  simp at e0 e1 e2 e3 e6;subst e0 e1 e2 e3 e6;exact⟨⟨i0,i1,i2,b3,⟨v4,aFP ka⟩,⟨v5,aFP kb⟩,i6⟩,Y,⟨i0,i1,i2,b3,xa,xb,i6⟩,⟨Y,Y,Y,Y,Y,ka,kb⟩,bBC Tryz.underlying43 h4',⟨la,za⟩,lb,zb⟩
def aHY{K:Hl}{Q:Ins→Prop}:∀ {vs:List InsV},(∀v∈vs,∃o,RIns K v o∧Q o)→∃os,RIs K vs os∧∀o∈os,Q o
 | [],_=>⟨[],trivial,fun o h=>by cases h⟩
 |v::vs,h=>by
  obtain⟨o,h1,h2⟩:=h v List.mem_cons_self;obtain⟨os,h3,h4⟩:=aHY fun u hu=>h u (List.mem_cons_of_mem _ hu)
  exact⟨o::os,⟨h1,h3⟩,fun q hq=>by rcases List.mem_cons.1 hq with rfl|hq;exact h2;exact h4 q hq⟩
def bIN{n:Nat}{v:Value}{x:DataW H×List MemPlace}(h:DataW.trod enc Tryz.prog W base sp held n 36 [v]=some x)(hB:∀k∈x.1.weights Tryz.prog 36,k≤reachBytes):∃vs os,Ksl cT (hp W) v vs∧RIs (hp W) vs os∧(∀u∈vs,lB u.a.1)∧os.length≤140737488355328∧∀o∈os,aVF o:=by
 have b41 : 1 ≤ Tryz.prog.bytesOf 45 := xAH cY;have hr : reachBytes = 140737488351232 := rfl;obtain ⟨vs, h1, h2, h3⟩ := aMO (k := cT) (G := fun u => lB u.a.1 ∧ ∃ o, RIns (hp W) u o ∧ aVF o) Tryz.underlying36 cY (by decide) (fun n cs y hy hw => by
  obtain⟨u,e,o,g1,g2,g3⟩:=bMC hy fun k hk=>hB _ (hw _ hk)
  exact⟨u,e,g2,o,g1,g3⟩) h
 obtain⟨os,h4,h5⟩:=aHY (Q:=aVF) fun u hu=>(h2 u hu).2
 refine⟨vs,os,h1,h4,fun u hu=>(h2 u hu).1,?_,h5⟩
 rw[←h4.length];rcases h3 with rfl|⟨k,hk,hk2⟩
 ·simp
 have:=hB k hk;have e41:cT.e=45:=rfl;rw[e41]at hk2;have h6:vs.length*1≤vs.length*Tryz.prog.bytesOf 45:=Nat.mul_le_mul_left _ b41;omega
def bIO{n:Nat}{cs:List Value}{x:DataW H×List MemPlace}(h:DataW.trod enc Tryz.prog W base sp held n 35 cs=some x)(hB:∀k∈x.1.weights Tryz.prog 35,k≤reachBytes):
  ∃m hv,cs=[str m.from_,str m.to_,i64 m.size,hv]∧Ksl hdEl (hp W) hv m.hs∧MsgSz m:=by
 obtain⟨m,hl,hf⟩:=uF Tryz.underlying35 h;have c28:Tryz.prog.cellsOf 35=4:=cY
 have c9:Tryz.prog.cellsOf 9=1:=cY
 have c3:Tryz.prog.cellsOf 3=1:=cY
 have c26:Tryz.prog.cellsOf 33=1:=cY
 have b25:Tryz.prog.bytesOf 73=32:=cY
 have hr:reachBytes=140737488351232:=rfl;rw[c28]at hl
 match cs,hl,hf with
 | [c0,c1,c2,c3'],_,hf=>
  obtain ⟨y0, h0, w0⟩ := hf 0 _ rfl;obtain ⟨y1, h1, w1⟩ := hf 1 _ rfl;obtain ⟨y2, h2, w2⟩ := hf 2 _ rfl;obtain ⟨y3, h3, w3⟩ := hf 3 _ rfl;dsimp only at h0 h1 h2 h3 w0 w1 w2 w3;rw [c9] at h0 h1;rw [c3] at h2;rw [c26] at h3;obtain ⟨l0, e0, k0⟩ := aDK h0;obtain ⟨l1, e1, k1⟩ := aDK h1;obtain ⟨i, e2, _⟩ := rI Tryz.underlying3 h2;have h3' : DataW.trod enc Tryz.prog W base sp held m 33 [c3'] = some y3 := h3;obtain ⟨xs, ks, hG, hlen⟩ := aMO (k := hdEl) (G := fun a => a.1.length ≤ reachBytes ∧ a.2.length ≤ reachBytes) Tryz.underlying33 cY (by decide) (fun n cs y hy hw => by
   obtain⟨a,ha,k1,k2⟩:=bN7 (M:=y3.1.weights Tryz.prog 33) hy hw;exact⟨a,ha,hB _ (w3 _ k1),hB _ (w3 _ k2)⟩) h3'
  simp at e0 e1 e2;subst e0 e1 e2;have q0:=hB _ (w0 _ k0);have q1:=hB _ (w1 _ k1);refine⟨⟨l0,l1,i,xs⟩,c3',Y,ks,?_⟩
  rw[hr]at q0 q1 hG;refine⟨by show l0.length≤_;omega,by show l1.length≤_;omega,?_,fun a ha=>?_⟩
  ·show xs.length≤_
   rcases hlen with rfl|⟨k,hk,hk2⟩
   ·simp
   have:=hB _ (w3 _ hk);rw[hr]at this;have e25:hdEl.e=73:=rfl;rw[e25,b25]at hk2;omega
  have:=hG a ha;exact⟨by omega,by omega⟩
def bN8{n:Nat}{cs:List Value}{x:DataW H×List MemPlace}(h:DataW.trod enc Tryz.prog W base sp held n 38 cs=some x)(hB:∀k∈x.1.weights Tryz.prog 38,k≤reachBytes):∃s:OpV,cs=opEl.enc s∧OpIs (hp W) s∧OpFit 140737488355328 s:=by
 obtain⟨m,hl,hf⟩:=uF Tryz.underlying38 h;have c101:Tryz.prog.cellsOf 38=9:=cY
 have c9:Tryz.prog.cellsOf 9=1:=cY
 have c3:Tryz.prog.cellsOf 3=1:=cY
 have c28:Tryz.prog.cellsOf 35=4:=cY
 have c42:Tryz.prog.cellsOf 36=1:=cY
 have hr:reachBytes=140737488351232:=rfl;rw[c101]at hl
 match cs,hl,hf with
 | [v0,v1,v2,v3,v4,v5,v6,v7,v8],_,hf=>
  obtain⟨y0,h0,w0⟩:=hf 0 _ rfl;obtain⟨y1,h1,w1⟩:=hf 1 _ rfl;obtain⟨y2,h2,w2⟩:=hf 2 _ rfl;obtain⟨y3,h3,w3⟩:=hf 3 _ rfl;obtain⟨y4,h4,w4⟩:=hf 4 _ rfl;obtain⟨y5,h5,w5⟩:=hf 5 _ rfl;dsimp only at h0 h1 h2 h3 h4 h5 w3 w4 w5;rw[c3]at h0 h1 h2;rw[c9]at h3;rw[c28]at h4;rw[c42]at h5;obtain⟨i0,e0,_⟩:=rI Tryz.underlying3 h0;obtain⟨i1,e1,g1⟩:=rI Tryz.underlying3 h1;obtain⟨i2,e2,g2⟩:=rI Tryz.underlying3 h2;obtain⟨l3,e3,k3⟩:=aDK h3;have h4':DataW.trod enc Tryz.prog W base sp held m 35 [v4,v5,v6,v7]=some y4:=h4;have h5':DataW.trod enc Tryz.prog W base sp held m 36 [v8]=some y5:=h5;obtain⟨mm,hv,e4,km,z1,z2,z3,z4⟩:=bIO h4' fun k hk=>hB _ (w4 _ hk)
  obtain⟨vs,os,kc,rc,fc,lc,zc⟩:=bIN h5' fun k hk=>hB _ (w5 _ hk)
  simp at e0 e1 e2 e3 e4;obtain⟨rfl,rfl,rfl,rfl⟩:=e4;subst e0 e1 e2 e3;have q3:=hB _ (w3 _ k3);exact⟨⟨i0,i1,i2,l3,mm.from_,mm.to_,mm.size,⟨v7,aFP km⟩,⟨v8,aFP kc⟩,mm.hs,vs,os⟩,Y,⟨km,kc,rc,fc,aWU g1,aWU g2⟩,⟨by show l3.length≤_;omega,z1,z2,z3,z4,lc,zc⟩⟩
def in_ops{v:Value}{d:DataW H}{p:List MemPlace}(hv:Value.okWide Tryz.prog W .any base 22 v)(h:DataW.Trod enc Tryz.prog W 0 sp held 22 v d p)(hB:∀k∈d.weights Tryz.prog 22,k≤reachBytes):
  ∃vs:List OpV,Ksl opEl (hp W) v vs∧(∀s∈vs,OpIs (hp W) s)∧(∀s∈vs,OpFit 140737488355328 s)∧vs.length≤140737488355328:=by
 obtain⟨a,len,cap,rfl⟩:=okWide_slice Tryz.underlying22 hv;obtain⟨n,hf⟩:=h;have hf':DataW.trod enc Tryz.prog W 0 sp held n 22 [.slice a len cap]=some (d,p):=hf;have b101:1≤Tryz.prog.bytesOf 38:=xAH cY;obtain⟨vs,h1,h2,h3⟩:=aMO (k:=opEl) (G:=fun s=>OpIs (hp W) s∧OpFit 140737488355328 s) Tryz.underlying22 cY (by decide) (fun n cs y hy hw=>bN8 hy fun k hk=>hB _ (hw _ hk)) hf';refine⟨vs,h1,fun s hs=>(h2 s hs).1,fun s hs=>(h2 s hs).2,?_⟩
 have hr:reachBytes=140737488351232:=rfl;rcases h3 with rfl|⟨k,hk,hk2⟩
 ·simp
 have:=hB k hk;have e101:opEl.e=38:=rfl;rw[e101]at hk2;have h4:vs.length*1≤vs.length*Tryz.prog.bytesOf 38:=Nat.mul_le_mul_left _ b101;omega
end
end TzRow
end Go.Proofs
end
section
attribute [local irreducible] Go.SL.T Go.SL.OL Go.SL.D Go.SL.DL Go.SL.Ev Go.SL.Ef Go.SL.EfS
namespace Go.Proofs
open Go Go.SL Go.Syn Go.Mach
set_option maxRecDepth 100000 in
def vC:i8 x3 22 38 9=true:=cY
open Go.Cmp (cT RIs InsV RIns eX kW gQ insA codeP_len)
def nth{α:Type}{l:List α}{x:α}(h:x∈l):∃j,l[j]?=some x∧j < l.length:=by
 obtain⟨j,hj⟩:=xA3 h;exact⟨j,hj,(xAG.1 hj).1⟩
def aU1(from_ to_:aP)(sz:Int)(hv:Value)(hs:List (aP×aP))(K:Hl)(hh:Ksl hdEl K hv hs)(z1:from_.length≤140737488355328)(z2:to_.length≤140737488355328)(z3:hs.length≤140737488355328)(zh:∀h∈hs,h.1.length≤140737488355328∧h.2.length≤140737488355328):Sp x3 11 [.agg #[str from_,str to_,i64 sz,hv]] K [] (Ret fun v K' L'=>∃n:Nat,v=i64 n∧n≤1000000000000000∧(n≤65536→from_.length≤n∧to_.length≤n∧hs.length≤n∧∀q∈hs,q.1.length≤n∧q.2.length≤n)∧K'=K∧L'=[]):=by
 obtain⟨ha0,hn0,hc0,rfl⟩:=hh.isSlice
 generalize hhv:Value.slice ha0 hn0 hc0=hv at*
 have hoc:hv.oneCell'=true:=by rw[←hhv];rfl
 refine bN Tryz.func11 Y Tryz.ntmps11 Y Y fun F w=>?_;refine zz3 ?_;rintro _ K _ ⟨b1,rfl,rfl,rfl⟩ -;refine zz11 ?_;refine aA (kK (v:=i64 ((from_.length+to_.length:Nat):Int)) (bT Y Y aH aH) (xAE (Value.int .i64) aH)) Y (zz10 ?_);refine iR (fun(i n:Nat)=>i≤hs.length∧i≤n∧n≤1000000000000000∧from_.length≤n∧to_.length≤n∧∀(j:Nat) q,j < i→hs[j]?=some q→q.1.length≤n∧q.2.length≤n) (fun i n=>[(1,ptr b1),(3,i64 n),(4,i64 i)]) (fun _ _=>K) (fun _ _=>[pt b1 (bL [str from_,str to_,i64 sz,hv] 35)]) (fun i _=>hs.length - i) 0 (from_.length+to_.length) ⟨x9 _,x9 _,by omega,by omega,by omega,fun j q h _=>by omega⟩ aS Y (fun _ h=>h) ?_;intro i n ⟨hi,hn0,hn1,hf1,hf2,hq⟩;refine zz6 ?_;refine aA (bU (k:=hdEl) Y Tryz.underlying33 Y (.known hh)) Y (zz2 ?_);refine bV 17 Y (fun g17=>?_) (fun g17=>?_)
 ·have hlt:i < hs.length:=by omega
  obtain⟨x,hx⟩:∃x,hs[i]?=some x:=⟨hs[i]'hlt,x4 hlt⟩;obtain⟨z1,z2⟩:=zh x (x8 hx);refine zz7 ?_;refine aY 20 Y (fun h20=>?_) (fun h20=>?_)
  ·refine zz4 ?_;refine cZ (anc:=[0,1,0,4,0,28,60,124,252,511,0,1024,0,7168,15360,31744,64512,131071,262143]) (ord:=[0,1,2,3,4,5,6,7,8,9,10,11,12,13,14,15,16,17,18]) [] [] mixed gC5 (cQ _) (zz5 ?_);refine aJ Y Y (.none Y) Y Y (aX (k:=hdEl) (j:=i) sR Y (.known hh) Y Y aH) Y ?_;refine aJ Y Y (.none Y) Y Y (dU (k:=hdEl) (j:=i) aIM Y (.known hh) aH) Y ?_;refine aJ Y Y (.none Y) Y Y (fD (k:=hdEl) ts9 Y (.known hh) hx Y) Y (zz5 ?_);refine aJ Y Y (.none Y) Y Y (aX (k:=hdEl) (j:=i) sR Y (.known hh) Y Y aH) Y ?_;refine aJ Y Y (.none Y) Y Y (dU (k:=hdEl) (j:=i) aIN Y (.known hh) aH) Y ?_;refine aJ Y Y (.none Y) Y Y (fD (k:=hdEl) ts9 Y (.known hh) hx Y) Y (zz1 ?_);refine aJ Y Y (.none Y) Y Y (kK (v:=i64 ((n+1+x.1.length+x.2.length:Nat):Int)) (bT Y Y aH aH) (xAE (Value.int .i64) aH)) Y (zz9 ?_);exact cW (i+1) (n+1+x.1.length+x.2.length) ⟨by omega,by omega,by omega,by omega,by omega,fun j q hj hjq=>by rcases xAC j i with h5|h5;(have:=hq j q h5 hjq;omega);(obtain rfl:j=i:=by omega);rw[hx]at hjq;cases hjq;omega⟩ aH aS Y (fun _ h=>h)
  refine zz12 ?_;refine uAf ?_;refine zz1 ?_;exact⟨_,Y,n,Y,hn1,fun hr=>⟨hf1,hf2,by omega,fun q hm=>by obtain⟨j,hj,hjl⟩:=nth hm;exact hq j q aH hj⟩,Y,Y⟩
 refine zz18 ?_;refine uAf ?_;refine zz1 ?_;exact⟨_,Y,n,Y,hn1,fun hr=>⟨hf1,hf2,by omega,fun q hm=>by obtain⟨j,hj,hjl⟩:=nth hm;exact hq j q aH hj⟩,Y,Y⟩
def aFC(lv:Value)(l:List aP)(K:Hl)(hl:Ksl (a7 9) K lv l)(z3:l.length≤140737488355328)(zh:∀x∈l,x.length≤140737488355328):Sp x3 12 [lv] K [] (Ret fun v K' L'=>∃n:Nat,v=i64 n∧n≤1000000000000000∧(n≤65536→l.length≤n∧∀q∈l,q.length≤n)∧K'=K∧L'=[]):=by
 refine bN Tryz.func12 Y Tryz.ntmps12 Y Y fun F w=>?_;refine zz8 ?_;refine aA (bU (k:=a7 9) Y Tryz.underlying43 Y (.known hl)) Y (zz10 ?_);refine iR (fun(i n:Nat)=>i≤l.length∧l.length≤n∧n≤1000000000000000∧∀(j:Nat) q,j < i→l[j]?=some q→q.length≤n) (fun i n=>[(0,lv),(3,i64 n),(4,i64 i)]) (fun _ _=>K) (fun _ _=>[]) (fun i _=>l.length - i) 0 l.length ⟨x9 _,xAA _,by omega,fun j q h _=>by omega⟩ aS Y (fun _ h=>h) ?_;intro i n ⟨hi,hn0,hn1,hq⟩;refine zz5 ?_;refine aA (bU (k:=a7 9) Y Tryz.underlying43 Y (.known hl)) Y (zz2 ?_);refine bV 11 Y (fun g11=>?_) (fun g11=>?_)
 ·have hlt:i < l.length:=by omega
  obtain⟨x,hx⟩:∃x,l[i]?=some x:=⟨l[i]'hlt,x4 hlt⟩;have z1:=zh x (x8 hx);refine zz7 ?_;refine aY 14 Y (fun h14=>?_) (fun h14=>?_)
  ·refine zz8 ?_;refine aA (aX (k:=a7 9) (j:=i) cB Y (.known hl) Y Y aH) Y ?_;refine aA (cE (o:=0) (k:=a7 9) ts9 Y (.known hl) hx Y) Y (zz1 ?_);refine aA (kK (v:=i64 ((n+x.length:Nat):Int)) (bT Y Y aH aH) (xAE (Value.int .i64) aH)) Y (zz9 ?_);exact cW (i+1) (n+x.length) ⟨by omega,by omega,by omega,fun j q hj hjq=>by rcases xAC j i with h5|h5;(have:=hq j q h5 hjq;omega);(obtain rfl:j=i:=by omega);rw[hx]at hjq;cases hjq;omega⟩ aH aS Y (fun _ h=>h)
  refine zz12 ?_;refine uAf ?_;refine zz1 ?_;exact⟨_,Y,n,Y,hn1,fun hr=>⟨hn0,fun q hm=>by obtain⟨j,hj,hjl⟩:=nth hm;exact hq j q aH hj⟩,Y,Y⟩
 refine zz18 ?_;refine uAf ?_;refine zz1 ?_;exact⟨_,Y,n,Y,hn1,fun hr=>⟨hn0,fun q hm=>by obtain⟨j,hj,hjl⟩:=nth hm;exact hq j q aH hj⟩,Y,Y⟩
def uI(sv:Value)(xs:List OpV)(K:Hl)(hv:Ksl opEl K sv xs)(his:∀x∈xs,OpIs K x)(hz:∀x∈xs,OpFit 140737488355328 x)(hl:xs.length≤140737488355328):Sp x3 8 [sv] K [] (Ret fun v K' L'=>∃b:Bool,v=.bool b∧(b=true→xs.length≤65536∧∀x∈xs,OpFit 65536 x)∧K'=K∧L'=[]):=by
 refine bN Tryz.func8 Y Tryz.ntmps8 Y Y fun F w=>?_;refine zz8 ?_;refine aA (bU (k:=opEl) Y Tryz.underlying22 Y (.known hv)) Y (zz10 ?_);refine iR (fun(i n:Nat)=>i≤xs.length∧xs.length≤n∧n≤4000000000000000∧(n≤65536→∀(j:Nat) q,j < i→xs[j]?=some q→OpFit n q)) (fun i n=>[(0,sv),(3,i64 n),(4,i64 i)]) (fun _ _=>K) (fun _ _=>[]) (fun i _=>xs.length - i) 0 xs.length ⟨x9 _,xAA _,by omega,fun _ j q h _=>by omega⟩ aS Y (fun _ h=>h) ?_;intro i n ⟨hi,hn0,hn1,hq⟩;refine zz5 ?_;refine aA (bU (k:=opEl) Y Tryz.underlying22 Y (.known hv)) Y (zz2 ?_);refine bV 16 Y (fun g16=>?_) (fun g16=>?_)
 ·have hlt:i < xs.length:=by omega
  obtain⟨x,hx⟩:∃x,xs[i]?=some x:=⟨xs[i]'hlt,x4 hlt⟩;have hxm:=x8 hx;have hI:=his x hxm;have hIh:=hI.hs;have hIv:=hI.vs;have hIo:=hI.os;have hIl:=hIo.length;obtain⟨z1,z2,z3,z4,z5,z6,z7⟩:=hz x hxm;obtain⟨kd,oa,ob,os,ofr,oto,osz,⟨ohv,hohv⟩,⟨ocv,hocv⟩,ohs,ovs,oos⟩:=x;dsimp only at*;refine zz7 ?_;refine aY 19 Y (fun h19=>?_) (fun h19=>?_)
  ·refine zz8 ?_;refine aA (aX (k:=opEl) (j:=i) vC Y (.known hv) Y Y aH) Y ?_;refine aA (fA (n:=0) (k:=opEl) ta38_9 Y (.known hv) hx) Y (zz1 ?_);rintro _ K _ ⟨b5,rfl,rfl,rfl⟩ -;refine cD (cX ta38_9 Y Y Y bR gC1 (.cons (.cons (.cons (.cons (.cons (.cons (.cons (.cons (.cons .nil))))))))) gC8) ?_;rintro _ K _ ⟨rfl,rfl⟩ -;refine zz3 ?_;refine jJ (L':=[pt b5 (bL [i64 kd,i64 oa,i64 ob,str os,str ofr,str oto,i64 osz,ohv,ocv] 38)]) (fun _ h=>h) (zz3 ?_);refine bA Y Y (aU1 ofr oto osz ohv ohs _ hIh z2 z3 z4 z5) .nil Y ?_;rintro _ K _ ⟨r,rfl,hr1,hsz2,rfl,rfl⟩ -;refine zz12 ?_;refine aA (bU (k:=cT) Y Tryz.underlying36 Y (.known hIv)) Y (zz2 ?_);refine aA (kK (v:=i64 ((n+os.length+oos.length+r:Nat):Int)) (bT Y Y aH aH) (xAE (Value.int .i64) aH)) Y (zz9 ?_);refine iR (fun(k n2:Nat)=>k≤oos.length∧n+os.length+oos.length+r≤n2∧n2≤4000000000000000∧(n2≤65536→∀(j:Nat) o,j < k→oos[j]?=some o→(o.a.length≤n2∧∀y∈o.a,y.length≤n2)∧o.b.length≤n2∧∀y∈o.b,y.length≤n2)) (fun k n2=>[(0,sv),(3,i64 n2),(4,i64 i),(5,ptr b5),(7,i64 k)]) (fun _ _=>K) (fun _ _=>[pt b5 (bL [i64 kd,i64 oa,i64 ob,str os,str ofr,str oto,i64 osz,ohv,ocv] 38)]) (fun k _=>oos.length - k) 0 (n+os.length+oos.length+r) ⟨x9 _,xAA _,by omega,fun _ j q h _=>by omega⟩ aS Y (fun _ h=>h) ?_;intro k n2 ⟨hk,hm1,hm2,hk2⟩;refine zz6 ?_;refine aA (bU (k:=cT) Y Tryz.underlying36 Y (.known hIv)) Y (zz2 ?_);refine bV 45 Y (fun g45=>?_) (fun g45=>?_)
   ·obtain⟨u,hu⟩:∃u,ovs[k]?=some u:=⟨ovs[k]'(by omega),x4 aH⟩;have hkv:k < ovs.length:=by omega
    obtain⟨o,ho,hro⟩:=hIo.get hu;obtain⟨⟨y1,y2⟩,y3,y4⟩:=z7 o (x8 ho);obtain⟨vop,vn,vtag,voct,⟨va,hva⟩,⟨vb,hvb⟩,vat⟩:=u;obtain⟨rfl,rfl,rfl,rfl,rfl,hra,hrb⟩:=hro;dsimp only at hra hrb;refine zz7 ?_;refine aY 48 Y (fun h48=>?_) (fun h48=>?_)
    ·refine zz9 ?_;refine aA (aX (k:=cT) (j:=k) eU Y (.known hIv) Y Y hkv) Y ?_;refine aA (dU (k:=cT) (j:=k) fJ Y (.known hIv) hkv) Y ?_;refine aA (fD (k:=cT) eP Y (.known hIv) hu Y) Y ?_;refine bA Y Y (aFC _ o.a _ hra y1 y2) .nil Y ?_;rintro _ K _ ⟨r1,rfl,hA1,hA2,rfl,rfl⟩ -;refine zz8 ?_;refine aA (aX (k:=cT) (j:=k) eU Y (.known hIv) Y Y hkv) Y ?_;refine aA (dU (k:=cT) (j:=k) jS Y (.known hIv) hkv) Y ?_;refine aA (fD (k:=cT) eP Y (.known hIv) hu Y) Y ?_;refine bA Y Y (aFC _ o.b _ hrb y3 y4) .nil Y ?_;rintro _ K _ ⟨r2,rfl,hB1,hB2,rfl,rfl⟩ -;refine zz8 ?_;refine aA (kK (v:=i64 ((n2+r1+r2:Nat):Int)) (bT Y Y aH aH) (xAE (Value.int .i64) aH)) Y (zz9 ?_);exact cW (k+1) (n2+r1+r2) ⟨by omega,by omega,by omega,fun hr j q hj hjq=>by rcases xAC j k with h5|h5;(have g:=hk2 aH j q h5 hjq;exact⟨⟨by omega,fun y hy=>by have:=g.1.2 y hy;omega⟩,by omega,fun y hy=>by have:=g.2.2 y hy;omega⟩);(obtain rfl:j=k:=by omega);rw[ho]at hjq;cases hjq;obtain⟨g1,g2⟩:=hA2 aH;obtain⟨g3,g4⟩:=hB2 aH;exact⟨⟨by omega,fun y hy=>by have:=g2 y hy;omega⟩,by omega,fun y hy=>by have:=g4 y hy;omega⟩⟩ aH aS Y (fun _ h=>h)
    refine zz11 ?_;refine uAf ?_;exact cW (i+1) n2 ⟨by omega,by omega,by omega,fun hr j q hj hjq=>by rcases xAC j i with h5|h5;(exact(hq aH j q h5 hjq).mono aH);(obtain rfl:j=i:=by omega);rw[hx]at hjq;cases hjq;obtain⟨g1,g2,g3,g4⟩:=hsz2 aH;exact⟨(show os.length≤n2 by omega),(show ofr.length≤n2 by omega),(show oto.length≤n2 by omega),(show ohs.length≤n2 by omega),fun q hm=>by have:=g4 q hm;omega,(show oos.length≤n2 by omega),fun o hm=>by obtain⟨j,hj,hjl⟩:=nth hm;exact hk2 hr j o (by have hjl:j < oos.length:=hjl;omega) hj⟩⟩ aH aS Y (fun _ h=>h)
   refine zz17 ?_;refine uAf ?_;exact cW (i+1) n2 ⟨by omega,by omega,by omega,fun hr j q hj hjq=>by rcases xAC j i with h5|h5;(exact(hq aH j q h5 hjq).mono aH);(obtain rfl:j=i:=by omega);rw[hx]at hjq;cases hjq;obtain⟨g1,g2,g3,g4⟩:=hsz2 aH;exact⟨(show os.length≤n2 by omega),(show ofr.length≤n2 by omega),(show oto.length≤n2 by omega),(show ohs.length≤n2 by omega),fun q hm=>by have:=g4 q hm;omega,(show oos.length≤n2 by omega),fun o hm=>by obtain⟨j,hj,hjl⟩:=nth hm;exact hk2 hr j o (by have hjl:j < oos.length:=hjl;omega) hj⟩⟩ aH aS Y (fun _ h=>h)
  refine zz13 ?_;refine uAf ?_;refine zz1 ?_;exact⟨_,Y,_,Y,fun hb=>by have hb2:=xAH hb;exact⟨by omega,fun q hm=>by obtain⟨j,hj,hjl⟩:=nth hm;exact(hq aH j q aH hj).mono aH⟩,Y,Y⟩
 refine zz19 ?_;refine uAf ?_;refine zz1 ?_;exact⟨_,Y,_,Y,fun hb=>by have hb2:=xAH hb;exact⟨by omega,fun q hm=>by obtain⟨j,hj,hjl⟩:=nth hm;exact(hq aH j q aH hj).mono aH⟩,Y,Y⟩
end Go.Proofs
end

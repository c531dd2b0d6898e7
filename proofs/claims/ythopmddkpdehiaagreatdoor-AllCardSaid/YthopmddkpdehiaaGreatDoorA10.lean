/- Part 10 of what the proof stands on: walks and plain laws. Conditions: as each theorem says. -/
import Derived.ChangeReads
import Derived.ProofKit
import Derived.SizedLaws
import Derived.Test.YthopmddkpdehiaaGreatDoorRows
import Derived.Lib.LaidTab
import Derived.LaidMore
import Derived.LaidHandle
import Derived.HandedShaped
import Derived.Shelf.Vars
import Derived.Stop.LaidErr
import Derived.OpenShut
import Derived.Test.YthopmddkpdehiaaGreatDoorA9
set_option linter.unusedVariables false
set_option linter.unusedSimpArgs false
set_option linter.defProp false
set_option maxRecDepth 4000
set_option maxHeartbeats 1000000
section
namespace Go.SL
section
variable{fs:Array Field}{α:Type}{k:El α}{v:Value}{G:α->Prop}
section
variable{H:Type}{enc:TypeId×Value->H}{P:Program}{w:World}{base:Nat}{sp:Nat->Bool}{held:Bool}{n:Nat}{t:TypeId}{cs:List Value}{x:DataW H×List MemPlace}
def vW{α β:Type}{f:α->Option β}:∀ {l:List α} {r:List β},l.mapM f=some r->r.length=l.length/\∀(i:Nat) (a:α),l[i]?=some a->∃y,f a=some y/\r[i]?=some y
 | [],r,h=>by simp at h;subst h;exact⟨Y,fun i a h=>by simp at h⟩
 |b::l,r,h=>by
  rw[List.mapM_cons]at h;cases c:f b with
  |none=>simp[c]at h
  |some y=>
   simp[c]at h;cases v:l.mapM f with
   |none=>simp[v]at h
   |some K=>
    simp[v]at h;subst h;obtain⟨d,e⟩:=vW v;refine⟨by simp[d],fun i a p=>?_⟩
    cases i with
    |zero=>simp at p;subst p;exact⟨y,c,Y⟩
    |succ i=>simpa using e i a (by simpa using p)
def rI(h:DataW.trod enc P w base sp held n t cs=some x):∃m,n=m+1/\DataW.trodStep enc P w base sp held (DataW.trod enc P w base sp held m) t cs=some x:=by
 cases n with
 |zero=>simp[DataW.trod]at h
 |succ m=>exact⟨m,Y,h⟩
def TS(C:P.underlying t=some .string)(h:DataW.trod enc P w base sp held n t cs=some x):∃l:List UInt8,cs=[str l]/\x.1=.lit (.string l):=by
 obtain⟨m,i,b⟩:=rI h;clear h;have h:=b;clear b i;unfold DataW.trodStep at h;rw[C]at h;cases cs with
 |nil=>simp at h
 |cons c r=>
  cases r with
  |cons N W=>cases c<;>simp at h
  |nil=>
   cases c<;>simp at h
   rename_i s;refine⟨s.data.toList,?_,by rw[<-h.2]⟩
   cases s;simp
def qE{k:IntKind}(C:P.underlying t=some (.int k))(h:DataW.trod enc P w base sp held n t cs=some x):∃i:Int,cs=[.int k i]/\(Lit.int k i).wf=true:=by
 obtain⟨m,a,b⟩:=rI h;clear h;have h:=b;clear b a;unfold DataW.trodStep at h;rw[C]at h;cases cs with
 |nil=>simp at h
 |cons c r=>
  cases r with
  |cons N W=>cases c<;>simp at h
  |nil=>
   cases c<;>simp at h
   rename_i e i;obtain⟨⟨rfl,b⟩,_⟩:=h;exact⟨i,Y,b⟩
def Qc(C:P.underlying t=some .bool)(h:DataW.trod enc P w base sp held n t cs=some x):∃b:Bool,cs=[.bool b]:=by
 obtain⟨m,i,a⟩:=rI h;clear h;have h:=a;clear a i;unfold DataW.trodStep at h;rw[C]at h;cases cs with
 |nil=>simp at h
 |cons c r=>
  cases r with
  |cons N W=>cases c<;>simp at h
  |nil=>
   cases c<;>simp at h
   rename_i b;exact⟨b,Y⟩
def H2(C:P.underlying t=some (.struct fs))(h:DataW.trod enc P w base sp held n t cs=some x):
  ∃m,cs.length=P.cellsOf t/\∀(i:Nat) f,fs.toList[i]?=some f->∃y,DataW.trod enc P w base sp held m f.type ((cs.drop f.offset).take (P.cellsOf f.type))=some y/\(∀n∈y.1.weights P f.type,n∈x.1.weights P t)/\∃parts,x.1=.agg parts/\y.1∈parts:=by
 obtain⟨m,a,b⟩:=rI h;clear h;have h:=b;clear b a;unfold DataW.trodStep at h;rw[C]at h;simp only[]at h;split at h
 ·rename_i v;refine⟨m,v,fun i f c=>?_⟩
  cases B:fs.toList.mapM fun f=>DataW.trod enc P w base sp held m f.type ((cs.drop f.offset).take (P.cellsOf f.type))with
  |none=>rw[B]at h;cases h
  |some r=>
   rw[B]at h;have d:=xA0 h;obtain⟨y,e,b⟩:=(vW B).2 i f c;refine⟨y,e,fun n u=>?_,r.map (·.1),by rw[<-d],List.mem_map_of_mem (x8 b)⟩
   rw[<-d];simp only[DataW.weights,C];exact DataW.weights_mem_each (j:=i) (by simp[c]) (by simp[b]) n u
 cases h
def s5(C:P.underlying t=some (.struct fs))(h:DataW.trod enc P w base sp held n t cs=some x):
  ∃m,cs.length=P.cellsOf t/\∀(i:Nat) f,fs.toList[i]?=some f->∃y,DataW.trod enc P w base sp held m f.type ((cs.drop f.offset).take (P.cellsOf f.type))=some y/\∀n∈y.1.weights P f.type,n∈x.1.weights P t:=
 let ⟨m,a,b⟩:=H2 C h;⟨m,a,fun i f c=>let ⟨y,l,z,_⟩:=b i f c;⟨y,l,z⟩⟩
def u3{e:TypeId}{d:DataW H}:∀ {l:List (DataW H)},d∈l->∀n∈d.weights P e,n∈DataW.weightsAll P e l
 | [],h,_,_=>by cases h
 |a::l,h,n,u=>by
  rw[DataW.weightsAll,xA5];rcases List.mem_cons.1 h with rfl|h
  ·exact .inl u
  exact .inr (u3 h n u)
def BM{α:Type}{Q:Nat->α->Prop}:∀n,(∀i,i<n->∃a,Q i a)->∃xs:List α,xs.length=n/\∀i x,xs[i]?=some x->Q i x
 |0,_=>⟨[],rfl,fun i x h=>by simp at h⟩
 |n+1,h=>by
  obtain⟨xs,d,f⟩:=BM n fun i p=>h i aH
  obtain⟨a,s⟩:=h n aH;refine⟨xs++[a],by simp[d],fun i x b=>?_⟩
  rcases xAD i xs.length with p|p
  ·rw[xA8 p]at b;exact f i x b
  rw[xBY p]at b;have:i=n:=by
   rcases xAD (i-xs.length) 1 with c|c
   ·omega
   rw[xAH (by simpa using c)]at b;cases b
  subst this;have e:i-xs.length=0:=aH;rw[e]at b;simp at b;subst b;exact s
def Vb(μ:DataW H->Nat)(hμ:∀(l r:List (DataW H)) (d:DataW H),d∈l->μ d<=μ (.slice l r))(hu:P.underlying t=some (.slice k.e))(hc:P.cellsOf k.e=k.sz)(M:0<k.sz)
  (L:∀n cs y,DataW.trod enc P w base sp held n k.e cs=some y->(∀n∈y.1.weights P k.e,n∈x.1.weights P t)->μ y.1<=μ x.1->∃a,cs=k.enc a/\G a) (h:DataW.trod enc P w base sp held n t [v]=some x):
  ∃xs,Ksl k (hp w) v xs/\(∀a∈xs,G a)/\(xs=[]\/∃n∈x.1.weights P t,xs.length*P.bytesOf k.e<=n):=by
 obtain⟨m,jg,f⟩:=rI h;clear h;have h:=f;clear f jg;unfold DataW.trodStep at h;rw[hu]at h;cases v with
 |slice a q B=>
  cases a with
  |none=>
   cases q with
   |succ l=>simp at h
   |zero=>exact⟨[],.inl ⟨none,B,Y,Y⟩,cD,cD⟩
  |some a=>
   simp only[hc]at h;split at h
   ·rename_i hb;cases hm:(List.range q).mapM fun i=>(w.cells? base (a.add (i*k.sz)) k.sz).bind (DataW.trod enc P w base sp held m k.e)with
    |none=>rw[hm]at h;cases h
    |some r=>
     rw[hm]at h;obtain⟨e,jh,hx⟩:∃e,True/\x=(DataW.slice (r.map (·.1)) (e.map (·.1)),MemPlace.row a ((r.length+e.length)*k.sz)++(r++e).flatMap (·.2)):=by
      simp only[Option.bind_some]at h;split at h
      ·cases f:((List.range (B-q)).mapM fun j=>(w.cells? base (a.add ((q+j)*k.sz)) k.sz).bind (DataW.trod enc P w base sp held m k.e))with
       |none=>rw[f]at h;cases h
       |some e=>rw[f]at h;exact⟨e,trivial,(xA0 h).symm⟩
      exact⟨[],trivial,(xA0 h).symm⟩
     clear h;have jj:∀y∈r,∀n∈y.1.weights P k.e,n∈x.1.weights P t:=by
      intro y s n hn;rw[hx];simp only[DataW.weights,hu];exact List.mem_cons_of_mem _ (List.mem_append_left _ (u3 (List.mem_map_of_mem s) n hn))
     have jl:∀y∈r,μ y.1<=μ x.1:=fun y s=>by rw[hx];exact hμ _ _ _ (List.mem_map_of_mem s)
     have jk:(r.length+e.length)*P.bytesOf k.e∈x.1.weights P t:=by
      rw[hx];simp only[DataW.weights,hu,List.length_map];exact List.mem_cons_self
     have jr:r.length=q:=by have:=(vW hm).1;simpa using this
     by_cases jf:q=0
     ·subst jf;exact⟨[],.inl ⟨some a,B,Y,Y⟩,cD,cD⟩
     have je:∀i,i<q->∃y:α,w.cells? base (a.add (i*k.sz)) k.sz=some (k.enc y)/\G y:=by
      intro i hi;obtain⟨z,N,ja⟩:=(vW hm).2 i i (by simp[hi]);cases I:w.cells? base (a.add (i*k.sz)) k.sz with
      |none=>rw[I]at N;cases N
      |some ds=>
       rw[I]at N;obtain⟨y,rfl,hG⟩:=L m ds z N (jj z (x8 ja)) (jl z (x8 ja));exact⟨y,Y,hG⟩
     obtain⟨xs,jp,S⟩:=BM q je;have O:∀i y,xs[i]?=some y->∀j,j<k.sz->∃c,(k.enc y)[j]?=some c/\w.cell? ((a.add (i*k.sz)).add j)=some c:=by
      intro i y s j E;have A:=(S i y s).1;unfold World.cells? at A;split at A
      ·obtain⟨_,h3⟩:=vW A;obtain⟨c,h4,h5⟩:=h3 j j (by simp[E]);exact⟨c,h5,h4⟩
      cases A
     obtain⟨y0,Q⟩:∃y,xs[0]?=some y:=⟨xs[0]'(by omega),x4 aH⟩;obtain⟨c0,_,jd⟩:=O 0 y0 Q 0 M;obtain⟨b,off,jb⟩:=a;have ji:jb=none:=by
      have:=World.cell?_spot jd
      simpa[Addr.add]using this
     subst ji;have F:∀i y,xs[i]?=some y->∀j,j<k.sz->∃c,(k.enc y)[j]?=some c/\w.cell? ⟨b,off+i*k.sz+j,none⟩=some c:=by
      intro i y s j E;obtain⟨c,A,f⟩:=O i y s j E;rw[kS,kS]at f;exact⟨c,A,f⟩
     have p:∃g u C,w.heap[b]?=some (bK g u C):=by
      obtain⟨c,_,f⟩:=F 0 y0 Q 0 M;unfold World.cell? at f;cases hw:w.heap[b]? with
      |none=>simp[hw]at f
      |some o=>
       cases o<;>simp[hw]at f
       rename_i jc u C;exact⟨jc.toList,u,C,cD⟩
     obtain⟨g,u,C,p⟩:=p;have W:∀i y,xs[i]?=some y->∀j,j<k.sz->(k.enc y)[j]?=g[off+i*k.sz+j]?:=by
      intro i y s j E;obtain⟨c,A,f⟩:=F i y s j E;have h3:g[off+i*k.sz+j]?=some c:=by simpa[World.cell?,p]using f
      rw[A,h3]
     refine⟨xs,.inr ⟨b,off,B,g,C,by rw[jp],⟨u,p⟩,?_⟩,fun y s=>?_,.inr ⟨_,jk,xAU _ aH⟩⟩
     ·have jq:∀(K:List α) (o:Nat),(∀i y,K[i]?=some y->∀j,j<k.sz->(k.enc y)[j]?=g[o+i*k.sz+j]?)->(g.drop o).take (K.length*k.sz)=k.cs K:=by
       intro K;induction K with
       |nil=>intro o _;simp[El.cs]
       |cons y K ih=>
        intro o hh;have A := ih (o + k.sz) (fun i z N j E => by
         have:=hh (i+1) z (by simpa using N) j E;rw[this];congr 1;rw[Nat.succ_mul];omega)
        have h0:(g.drop o).take k.sz=k.enc y:=by
         refine List.ext_getElem? fun j=>?_;rw[List.getElem?_take];split
         ·rename_i E;rw[xBB];have:=hh 0 y rfl j E
          simpa using this.symm
         rename_i E;rw[xAH (by rw[k.len];omega)]
        show (g.drop o).take ((K.length+1)*k.sz)=k.enc y++k.cs K
        rw[<-h0,<-A,Nat.succ_mul,Nat.add_comm,List.take_add,List.drop_drop]
      exact jq xs off (fun i y s j E=>W i y s j E)
     obtain⟨i,hi⟩:=xA4 s;exact(S i y hi).2
   cases h
 |_=>simp at h
def GN(C:P.underlying t=some (.slice k.e))(e:P.cellsOf k.e=k.sz)(b:0<k.sz)
  (I:∀n cs y,DataW.trod enc P w base sp held n k.e cs=some y->(∀n∈y.1.weights P k.e,n∈x.1.weights P t)->∃a,cs=k.enc a/\G a) (h:DataW.trod enc P w base sp held n t [v]=some x):
  ∃xs,Ksl k (hp w) v xs/\(∀a∈xs,G a)/\(xs=[]\/∃n∈x.1.weights P t,xs.length*P.bytesOf k.e<=n):=
 Vb (fun _=>0) (fun _ _ _ _=>xAG _) C e b (fun n cs y c d _=>I n cs y c d) h
end
end
end Go.SL
end
section
attribute [local irreducible] Go.SL.T Go.SL.OL Go.SL.D Go.SL.DL Go.SL.Ev Go.SL.Ef Go.SL.EfS
section
namespace Go.Proofs
open Go Go.SL Go.Syn Go.Mach Go.Cmp
structure MsgSz (m:Msg):Prop where
 from_:m.from_.length<=140737488355328
 to_:m.to_.length<=140737488355328
 hn:m.hs.length<=140737488355328
 hs:∀h∈m.hs,h.1.length<=140737488355328/\h.2.length<=140737488355328
structure SI where
 i:Nat
 n:Int
def vs4:List InsV:=[⟨1,1,0,false,nilC,nilC,0⟩,⟨4,1,0,false,nilC,nilC,0⟩,⟨14,0,0,false,nilC,nilC,0⟩,⟨13,0,0,false,nilC,nilC,0⟩]
end Go.Proofs
end
section
set_option maxRecDepth 100000
namespace Go
def o9{H:Type}{enc:TypeId×Value->H}{a:Assume}{C:Checked}{os:Os}{f:FuncId}{fn:Func}{s:ChangeSpec}{p:List PathCond}{b g d r:Bool}{X:World->Array Value->Prop}
  (N:∀(w w':World) (args:Array Value),w.heap=w'.heap->X w args->X w' args)
  (own:ownKnob C.prog.godebug=none) (l:os.Started) (y:C.prog.inits.idxOf? f=none) (F:C.prog.funcs[f]?=some fn)
  (u : ∃ (w:World) (c:Tape) (i:Input),w.os=os /\ (w.forCall c i).Shaped C.prog /\ i.vars=[] /\ Input.okWide C.prog (w.forCall c i) .any w.heap.size f i /\
   ((s.pre enc C.prog fn p b (w.forCall c i).memory i.args/\X (w.forCall c i).memory i.args)/\sizedMet enc C.prog fn (OpenSpec.ofChange s) b (w.forCall c i).memory i.args)/\a.holds C.prog (lone (Frame.enter C.prog f i.args .normal) [] (w.forCall c i)))
  (q : ∀ (W:World) (base:Nat) (args:Array Value) (ds z:List (DataW H)) (h:List MemPlace),
   (∀(j:Nat) t v,fn.params[j]?=some t->args[j]?=some v->Value.okWide C.prog W .any base t v)->
   DataW.Whole enc C.prog fn.params.toList s.vars b W args.toList ds z h->
   p.all (PathCond.test C.prog ⟨fn.params.toList,ds,s.plain.varTypes C.prog,z⟩)=true->
   (DataW.weightsEach C.prog (fn.params.toList++s.plain.varTypes C.prog) (ds++z)).all (· <=reachBytes)=true->X W args->W.ShapedOpen C.prog->
   a.holds C.prog (lone (Frame.enter C.prog f args .normal) [] W)->
   Calls C.prog f args W fun e K=>∃v,e=.returned v/\s.post enc C.prog fn b g d r W args v K):
  ReturnsInHanded a C os f .any (fun w args=>(s.pre enc C.prog fn p b w args/\X w args)/\sizedMet enc C.prog fn (OpenSpec.ofChange s) b w args) (s.post enc C.prog fn b g d r):=by
 refine returnsInHanded_of_calls own l y u ?_;intro w c i _ M _ G P x;obtain⟨_,_,_,E,A,_,_,_,_,B⟩:=G;have e:E=fn:=xA0 (A.symm.trans F);subst e;obtain⟨⟨⟨ds,z,h,L,O⟩,S⟩,hz⟩:=P;have I:=DataW.Whole.of_heap (w':=w.forCall c i) (by rfl) L;refine(q (w.forCall c i) w.heap.size i.args ds z h B I O (hz.weights L) (N _ _ _ (by rfl) S) M x).mono fun e K ⟨v,Q,hp⟩=>?_;subst Q;exact ChangeSpec.post_blind hp
end Go
namespace Go.Proofs
open Go Go.SL Go.Mach Go.ChangeShapes Go.WideShapes Go.RowKit
open YthopmddkpdehiaaGreatDoor (Rows.laid_math_bits_deBruijn32tab Rows.laid_math_bits_deBruijn64tab Rows.laid_internal_strconv_uint64pow10 Rows.laid_errors_errorType)
namespace TzRow
def own:ownKnob Tryz.prog.godebug=none:=cV
def laidOut:laidOutB Tryz.prog=true:=cV
abbrev laid4:List (String×DataW Unit):=[("math/bits.deBruijn32tab",YthopmddkpdehiaaGreatDoor.Rows.laid_math_bits_deBruijn32tab),("math/bits.deBruijn64tab",YthopmddkpdehiaaGreatDoor.Rows.laid_math_bits_deBruijn64tab),("internal/strconv.uint64pow10",YthopmddkpdehiaaGreatDoor.Rows.laid_internal_strconv_uint64pow10),("errors.errorType",YthopmddkpdehiaaGreatDoor.Rows.laid_errors_errorType)]
def aB1:Tryz.prog.globalNamed "internal/strconv.uint64pow10"=some 2:=cV
def YI:(Tryz.prog.globals[2]?).map (·.type)=some 475:=cV
def rt:(Tryz.prog.cutTypes.find? (·.1== "internal/reflectlite.rtype")).map (·.2)=some 265:=cV
def et:Tryz.prog.globalNamed "errors.errorType"=some 0:=cV
def XG:((List.range Tryz.prog.types.size).filter fun t=>Tryz.prog.rowNamed t [101,114,114,111,114])=[79]:=cV
def OK{W:World}{l:List (String×DataW Unit)}(v:handlesMet Tryz.prog [("errors.errorType",YthopmddkpdehiaaGreatDoor.Rows.laid_errors_errorType)] W):ErrT (hp W):=by
 obtain⟨f,u,P,M,O,C,G,g⟩:=v _ (List.mem_singleton.2 rfl);have A:f=[101,114,114,111,114]:=(xA0 M).symm;subst A;obtain rfl:=xA0 (rt.symm.trans O);have B:P∈(List.range Tryz.prog.types.size).filter fun t=>Tryz.prog.rowNamed t [101,114,114,111,114]:=List.mem_filter.2 ⟨List.mem_range.2 C,G⟩
 rw[XG]at B;obtain rfl:=List.mem_singleton.1 B;have y:typeHandle Tryz.prog 79=hd 79:=cV
 rw[y]at g;unfold World.var? at g;rw[et]at g;simp only[Option.bind_some]at g;split at g
 ·rename_i cs T w e;have:=xA0 g;subst this;exact⟨T,w,e⟩
 cases g
def Yk{w w':World}{nm:String}{k:IntKind}{N:List Int}(h:Lib.TabIs Tryz.prog w nm k N)(le:(hp w).le (hp w')):Lib.TabIs Tryz.prog w' nm k N:=by
 unfold Lib.TabIs World.var? at*;cases H:Tryz.prog.globalNamed nm with
 |none=>rw[H]at h;simp at h
 |some g=>
  rw[H]at h;simp only[Option.bind_some]at h ⊢;split at h
  ·rename_i cs T a e;have:=le g _ e;simp only[hp]at this;rw[this];exact h
  cases h
def Sg{W:World}(h:W.ShapedOpen Tryz.prog):∃m T fz,hp W 1=some (bK [i64 m] T fz):=by
 obtain⟨m,B⟩:=cell_of_shapedOpen_int (P:=Tryz.prog) (g:=1) (t:=3) (zero:= #[.int .i64 0]) (k:=.i64) h (xAX cV) cV rfl cV cV cV;obtain⟨cs,y,b,_⟩:=h.1 1 #[.int .i64 0] 3 (xAX cV) cV;have a:cs.size=1:=b;refine⟨m,3,(0,0),?_⟩
 show W.heap[1]?=_
 rw[y];have d:cs= #[i64 m]:=by
  have:cs[0]?=some (i64 m):=by simpa[World.cell?,y]using B
  obtain⟨l⟩:=cs
  match l,a,this with
  | [c],_,this=>simp at this;rw[this]
 rw[d]
def of_laid{W:World}(v:laidMetH Tryz.prog laid4 W)(u:W.ShapedOpen Tryz.prog):Glob (hp W)/\ErrT (hp W):=by
 have e:laidMet Tryz.prog [("math/bits.deBruijn32tab",YthopmddkpdehiaaGreatDoor.Rows.laid_math_bits_deBruijn32tab),("math/bits.deBruijn64tab",YthopmddkpdehiaaGreatDoor.Rows.laid_math_bits_deBruijn64tab),("internal/strconv.uint64pow10",YthopmddkpdehiaaGreatDoor.Rows.laid_internal_strconv_uint64pow10)] W/\handlesMet Tryz.prog [("errors.errorType",YthopmddkpdehiaaGreatDoor.Rows.laid_errors_errorType)] W:=v;refine⟨⟨Sg u,fun w le=>?_⟩,OK (l:=[]) e.2⟩
 exact Yk (Lib.tabIs_of_head (rest:=[]) aB1 YI Tryz.underlying475 Tryz.underlying345 cV cV (e.1.tail.tail)) le
def door_met(os:Os)(args:Array Value):laidMetH Tryz.prog laid4 ((World.doorLaid Tryz.prog 100 os).forCall (fun _ _=>0) ⟨#[],args,[]⟩).memory:=
 laidMetH_of_parts3 (fuel:=8) (laidMet_of_run' 8 cV cV) cV cV
def door_shaped(os:Os)(args:Array Value):((World.doorLaid Tryz.prog 100 os).forCall (fun _ _=>0) ⟨#[],args,[]⟩).Shaped Tryz.prog:=
 World.shaped_of_RefB cV cV
end TzRow
end Go.Proofs
end
section
set_option maxRecDepth 100000
namespace Go.Proofs
open Go Go.SL Go.Syn Go.Mach Go.ChangeShapes Go.WideShapes Go.RowKit
namespace TzRow
section
variable{H:Type}{enc:TypeId×Value->H}{W:World}{base:Nat}{sp:Nat->Bool}{held:Bool}
def Bk{n:Nat}{cs:List Value}{x:DataW H×List MemPlace}(h:DataW.trod enc Tryz.prog W base sp held n 9 cs=some x):∃l:aP,cs=[str l]/\l.length∈x.1.weights Tryz.prog 9:=by
 obtain⟨l,a,b⟩:=TS Tryz.underlying9 h;exact⟨l,a,by rw[b];simp[DataW.weights]⟩
def YK{n:Nat}{cs:List Value}{x:DataW H×List MemPlace}{M:List Nat}(h:DataW.trod enc Tryz.prog W base sp held n 25 cs=some x)(S:∀k∈x.1.weights Tryz.prog 25,k∈M):∃a:aP×aP,cs=hdEl.enc a/\a.1.length∈M/\a.2.length∈M:=by
 obtain⟨m,v,b⟩:=s5 Tryz.underlying25 h;have c:Tryz.prog.cellsOf 25=2:=cV
 have f:Tryz.prog.cellsOf 9=1:=cV
 rw[c]at v
 match cs,v,b with
 | [i,r],_,b=>
  obtain⟨y0,P,q⟩:=b 0 _ rfl;obtain⟨y1,d,B⟩:=b 1 _ rfl;dsimp only at P d q B;rw[f]at P d;obtain⟨F,p,g⟩:=Bk P;obtain⟨G,e,y⟩:=Bk d;simp at p e;subst p e;exact⟨(F,G),Y,S _ (q _ g),S _ (B _ y)⟩
end
end TzRow
end Go.Proofs
end
end

/-
  What the proof stands on, part 5: the logic of walks, the walks through the functions, the plain laws. Conditions: as each theorem says. (Merged and shortened by a program.)
-/
import Derived.Test.YthopmddkpdehiaaGreatDoorRows
import Derived.Lib.LaidTab
import Derived.LaidMore
import Derived.LaidHandle
import Derived.HandedShaped
import Derived.Shelf.Vars
import Derived.Stop.LaidErr
import Derived.OpenShut
import Derived.Below
import Derived.Test.YthopmddkpdehiaaGreatDoorK1
import Derived.Test.YthopmddkpdehiaaGreatDoorK2
import Derived.Test.YthopmddkpdehiaaGreatDoorK3
import Derived.Test.YthopmddkpdehiaaGreatDoorK4
set_option linter.unusedVariables false
set_option linter.unusedSimpArgs false
set_option maxRecDepth 4000
set_option maxHeartbeats 1000000
section
attribute [local irreducible] Go.SL.T Go.SL.OL Go.SL.D Go.SL.DL Go.SL.Ev Go.SL.Ef Go.SL.EfS
namespace Go.Proofs
open Go Go.SL Go.Syn Go.Mach Go.Cmp
theorem aXL:MsgOk m1:=⟨by decide,by decide,by decide,by decide⟩
theorem aO1(K:Hl)(hg:Glob K)(hE:ErrT K):Sp Tryz.prog 14 [] K [] (Ret fun v K' L'=>v=.bool true∧L'=[]):=by
 have h1:=bAU;have h2:=bAV;refine aZ Tryz.func14 rfl Tryz.ntmps14 rfl rfl fun F w=>?_
 refine zz7 ?_;refine aY rfl rfl (aH0 _ hg hE) .nil rfl ?_;rintro _ K1 _ ⟨rfl,rfl⟩ le1;refine zz5 ?_;refine aA (cR tb25 aXR (.cons rfl rfl rfl (.cons .nil) (.cons rfl rfl rfl (.skip (.cons .nil)) .nil))) rfl ?_;refine ol_s (a6 (z0:=[(str []),(str [])]) qI tz25 rfl rfl rfl rfl (.cons rfl rfl rfl (.cons (.cons .nil)) .nil)) rfl ?_;rintro _ K _ ⟨b11,rfl,rfl,rfl⟩ -;refine fW fun K2 le2 hb11=>?_
 have hh:Ksl hdEl K2 (.slice (some ⟨b11,0,none⟩) 1 1) m1.hs:=.inr ⟨b11,0,1,_,_,rfl,⟨_,hb11⟩,rfl⟩;have le12:=Hl.le_trans le1 le2;refine aA (cR tb28 bA5 (.cons rfl rfl rfl (.skip (.skip (.skip (.cons .nil)))) .nil)) rfl ?_;refine zz1 ?_;rintro _ K _ ⟨b2,rfl,rfl,rfl⟩ -;refine bR (cM j7 rfl rfl rfl bB (by first|(simp[Value.oneCell'];done)|exact fun c hc=>El.one _ _ c hc) (.cons (.cons (.cons (.cons .nil)))) (by intro j hj;simp)) ?_;rintro _ K _ ⟨rfl,rfl⟩ -;refine zz5 ?_;refine aY rfl rfl (xK t1 m1 _ _ (hg.mono le12) (hE.mono le12) hh aXL) .nil rfl ?_;rintro _ K3 _ ⟨av,rfl,rfl⟩ le3;rw[h1];have hh3:=hh.mono le3;have le13:=Hl.le_trans le12 le3;refine zz12 ?_;refine aY rfl rfl (xK t2 m1 _ _ (hg.mono le13) (hE.mono le13) hh3 aXL) .nil rfl ?_;rintro _ K4 _ ⟨bv,rfl,rfl⟩ le4;rw[h2];have le14:=Hl.le_trans le13 le4;refine zz36 ?_;refine aA (bX (k:=dL) rfl Tryz.underlying29 rfl (.own (.there .here))) rfl ?_;refine zz7 ?_;refine aA (bX (k:=dL) rfl Tryz.underlying29 rfl (.own .here)) rfl ?_;refine zz7 ?_;refine aA (bQ (k:=dL) (j:=0) iW rfl (.own .here) rfl rfl (by decide)) rfl ?_;refine zz1 ?_;refine aA (fF (n:=0) (k:=dL) kN rfl (.own .here) rfl) rfl ?_;refine zz1 ?_;refine aA (cR tb34 aDS (.cons rfl rfl rfl (.cons .nil) (.cons rfl rfl rfl (.skip (.cons .nil)) .nil))) rfl ?_;refine zz1 ?_;refine aA (aCW (a:=(3,[97,64,98])) (c:=(3,[97,64,98])) rfl rfl) rfl ?_;refine zz5 ?_;refine uAw ?_;refine bJ rfl rfl le14 ?_;exact⟨_,rfl,rfl,rfl⟩
theorem aLW{E:Env}{fr:Fr}{K:Hl}{L:List Asn}{dst:Option Tmp}{ty t t':TypeId}{pos:String}{aft:Array Edge}{g:Option (Nat×Bool)}{x y:Operand}{k:IntKind}{m n:Int}(hx:fr.ev x=some (.int k m))(hy:fr.ev y=some (.int k n))(h:m=n):Ev E fr K L ⟨dst,.binOp .eql t x y t',ty,pos,aft,g⟩ (.bool true):=by
 have:=bW (E:=E) (K:=K) (L:=L) (dst:=dst) (ty:=ty) (t:=t) (t':=t') (pos:=pos) (aft:=aft) (g:=g) hx hy
 rwa [decide_eq_true h]at this
theorem aNY{nm:Bool}{m:Msg}{code:List Ins}(hm:MsgOk m)(hc:∀o∈code,InsOk o):∀f st s,MInv s→(Mach.loop nm m code f st s).acts.length≤7:=by
 have fin:∀s:MS,MInv s→(if s.keep=true then s.acts++[(1,[])]else s.acts).length≤7:=by
  intro s h;have:=h.acts;split
  ·simp;omega
  ·omega
 intro f;induction f with
 |zero=>intro st s h;simp[Mach.loop]
 |succ f ih=>
  intro st s h;unfold Mach.loop;split
  ·exact fin s h
  ·rename_i o ho;split
   ·exact fin s h
   ·split
    ·simp
    ·rename_i t ht;have h2:=h.step hm (hc o (List.mem_of_getElem? ho)) ht;exact ih _ _ ⟨h2.stack,h2.acts,h2.vars,h2.parts⟩
theorem aTF{nm:Bool}{m:Msg}{code:List Ins}(hm:MsgOk m)(hc:∀o∈code,InsOk o):(Mach.run nm code m).acts.length≤7:=by
 unfold Mach.run;split
 ·simp
 ·exact aNY hm hc _ _ _ MInv.start
def vs4:List InsV:=[⟨1,1,0,false,nilC,nilC,0⟩,⟨4,1,0,false,nilC,nilC,0⟩,⟨14,0,0,false,nilC,nilC,0⟩,⟨13,0,0,false,nilC,nilC,0⟩]
theorem aYT{s:aJ}{r:List aJ×Tree}(hr:eE s=.ok r)(hl:s.length≤600):(∀o∈Cmp.script r.2,InsOk o)∧(Cmp.script r.2).length≤1000000:=by
 have hfit:=pX hr;have hsl:=Cmp.script_len r.2;refine⟨fun o ho=>?_,by omega⟩
 obtain⟨q1,q2,q3,q4⟩:=Cmp.script_fit hfit.2.1 o ho;exact⟨by omega,by omega,fun x hx=>by have:=q1 x hx;omega,fun x hx=>by have:=q2 x hx;omega⟩
end Go.Proofs
end
section
set_option maxRecDepth 100000
namespace Go
theorem mQ{H:Type}{enc:TypeId×Value→H}{a:Assume}{C:Checked}{os:Os}{f:FuncId}{fn:Func}{s:ChangeSpec}{conds:List PathCond}{apart fresh handsOn again:Bool}{X:World→Array Value→Prop}
  (hX:∀(w w':World) (args:Array Value),w.heap=w'.heap→X w args→X w' args)
  (own:ownKnob C.prog.godebug=none) (started:os.Started) (noInit:C.prog.inits.idxOf? f=none) (hfn:C.prog.funcs[f]?=some fn)
  (witness : ∃ (w : World) (tape : Tape) (i : Input), w.os = os ∧ (w.forCall tape i).Shaped C.prog ∧ i.vars = [] ∧ Input.okWide C.prog (w.forCall tape i) .any w.heap.size f i ∧
   ((s.pre enc C.prog fn conds apart (w.forCall tape i).memory i.args∧X (w.forCall tape i).memory i.args)∧sizedMet enc C.prog fn (OpenSpec.ofChange s) apart (w.forCall tape i).memory i.args)∧a.holds C.prog (lone (Frame.enter C.prog f i.args .normal) [] (w.forCall tape i)))
  (contract : ∀ (W : World) (base : Nat) (args : Array Value) (ds gs : List (DataW H)) (before : List MemPlace),
   (∀(j:Nat) t v,fn.params[j]?=some t→args[j]?=some v→Value.okWide C.prog W .any base t v)→
   DataW.Whole enc C.prog fn.params.toList s.vars apart W args.toList ds gs before→
   conds.all (PathCond.test C.prog ⟨fn.params.toList,ds,s.plain.varTypes C.prog,gs⟩)=true→
   (DataW.weightsEach C.prog (fn.params.toList++s.plain.varTypes C.prog) (ds++gs)).all (· ≤reachBytes)=true→X W args→W.ShapedOpen C.prog→
   a.holds C.prog (lone (Frame.enter C.prog f args .normal) [] W)→
   Calls C.prog f args W fun e W'=>∃v,e=.returned v∧s.post enc C.prog fn apart fresh handsOn again W args v W'):
  ReturnsInHanded a C os f .any (fun w args=>(s.pre enc C.prog fn conds apart w args∧X w args)∧sizedMet enc C.prog fn (OpenSpec.ofChange s) apart w args) (s.post enc C.prog fn apart fresh handsOn again):=by
 refine returnsInHanded_of_calls own started noInit witness ?_;intro w tape i _ hsh _ hok hpre hholds;obtain⟨_,_,_,fn',hfn',_,_,_,_,hval⟩:=hok;have e:fn'=fn:=Option.some.inj (hfn'.symm.trans hfn);subst e;obtain⟨⟨⟨ds,gs,before,hw,hc⟩,hx⟩,hz⟩:=hpre;have hw':=DataW.Whole.of_heap (w':=w.forCall tape i) (by rfl) hw;refine(contract (w.forCall tape i) w.heap.size i.args ds gs before hval hw' hc (hz.weights hw) (hX _ _ _ (by rfl) hx) hsh hholds).mono fun e W' ⟨v,he,hp⟩=>?_
 subst he;exact ChangeSpec.post_blind hp
end Go
namespace Go.Proofs
open Go Go.SL Go.Mach Go.ChangeShapes Go.WideShapes Go.RowKit
open YthopmddkpdehiaaGreatDoor (Rows.laid_math_bits_deBruijn32tab Rows.laid_math_bits_deBruijn64tab Rows.laid_internal_strconv_uint64pow10 Rows.laid_errors_errorType)
namespace TzRow
theorem own:ownKnob Tryz.prog.godebug=none:=by kernel_rfl
theorem laidOut:laidOutB Tryz.prog=true:=by kernel_rfl
abbrev laid4:List (String×DataW Unit):=[("math/bits.deBruijn32tab",YthopmddkpdehiaaGreatDoor.Rows.laid_math_bits_deBruijn32tab),("math/bits.deBruijn64tab",YthopmddkpdehiaaGreatDoor.Rows.laid_math_bits_deBruijn64tab),("internal/strconv.uint64pow10",YthopmddkpdehiaaGreatDoor.Rows.laid_internal_strconv_uint64pow10),("errors.errorType",YthopmddkpdehiaaGreatDoor.Rows.laid_errors_errorType)]
theorem gPow:Tryz.prog.globalNamed "internal/strconv.uint64pow10"=some 2:=by kernel_rfl
theorem aZ8:(Tryz.prog.globals[2]?).map (·.type)=some 475:=by kernel_rfl
theorem rt:(Tryz.prog.cutTypes.find? (·.1=="internal/reflectlite.rtype")).map (·.2)=some 265:=by kernel_rfl
theorem et:Tryz.prog.globalNamed "errors.errorType"=some 0:=by kernel_rfl
theorem aY6:((List.range Tryz.prog.types.size).filter fun t=>Tryz.prog.rowNamed t [101,114,114,111,114])=[79]:=by kernel_rfl
theorem aOM{W:World}{l:List (String×DataW Unit)}(hl:handlesMet Tryz.prog [("errors.errorType",YthopmddkpdehiaaGreatDoor.Rows.laid_errors_errorType)] W):ErrT (hp W):=by
 obtain⟨name,u,ty,e1,e2,e3,e4,e5⟩:=hl _ (List.mem_singleton.2 rfl);have en:name=[101,114,114,111,114]:=(Option.some.inj e1).symm;subst en;obtain rfl:=Option.some.inj (rt.symm.trans e2);have hm:ty∈(List.range Tryz.prog.types.size).filter fun t=>Tryz.prog.rowNamed t [101,114,114,111,114]:=List.mem_filter.2 ⟨List.mem_range.2 e3,e4⟩
 rw[aY6]at hm;obtain rfl:=List.mem_singleton.1 hm;have hh:typeHandle Tryz.prog 79=hd 79:=by kernel_rfl
 rw[hh]at e5;unfold World.var? at e5;rw[et]at e5;simp only[Option.bind_some]at e5;split at e5
 ·rename_i cs T fz hw;have:=Option.some.inj e5;subst this;exact⟨T,fz,hw⟩
 ·cases e5
theorem aZK{w w':World}{nm:String}{k:IntKind}{zs:List Int}(h:Lib.TabIs Tryz.prog w nm k zs)(le:(hp w).le (hp w')):Lib.TabIs Tryz.prog w' nm k zs:=by
 unfold Lib.TabIs World.var? at*;cases hg:Tryz.prog.globalNamed nm with
 |none=>rw[hg]at h;simp at h
 |some g=>
  rw[hg]at h;simp only[Option.bind_some]at h ⊢;split at h
  ·rename_i cs T fz hw;have:=le g _ hw;simp only[hp]at this;rw[this];exact h
  ·cases h
theorem aSL{W:World}(h:W.ShapedOpen Tryz.prog):∃m T fz,hp W 1=some (aU [i64 m] T fz):=by
 obtain⟨m,hm⟩:=cell_of_shapedOpen_int (P:=Tryz.prog) (g:=1) (t:=3) (zero:= #[.int .i64 0]) (k:=.i64) h (of_decide_eq_true b0) b0 rfl b0 b0 b0;obtain⟨cs,hh,hs,_⟩:=h.1 1 #[.int .i64 0] 3 (of_decide_eq_true b0) b0;have h1:cs.size=1:=hs;refine⟨m,3,(0,0),?_⟩
 show W.heap[1]?=_
 rw[hh];have hc:cs= #[i64 m]:=by
  have:cs[0]?=some (i64 m):=by simpa[World.cell?,hh]using hm
  obtain⟨l⟩:=cs
  match l,h1,this with
  | [c],_,this=>simp at this;rw[this]
 rw[hc]
theorem of_laid{W:World}(hL:laidMetH Tryz.prog laid4 W)(hS:W.ShapedOpen Tryz.prog):Glob (hp W)∧ErrT (hp W):=by
 have h':laidMet Tryz.prog [("math/bits.deBruijn32tab",YthopmddkpdehiaaGreatDoor.Rows.laid_math_bits_deBruijn32tab),("math/bits.deBruijn64tab",YthopmddkpdehiaaGreatDoor.Rows.laid_math_bits_deBruijn64tab),("internal/strconv.uint64pow10",YthopmddkpdehiaaGreatDoor.Rows.laid_internal_strconv_uint64pow10)] W∧handlesMet Tryz.prog [("errors.errorType",YthopmddkpdehiaaGreatDoor.Rows.laid_errors_errorType)] W:=hL;refine⟨⟨aSL hS,fun w le=>?_⟩,aOM (l:=[]) h'.2⟩
 exact aZK (Lib.tabIs_of_head (rest:=[]) gPow aZ8 Tryz.underlying475 Tryz.underlying345 b0 b0 (h'.1.tail.tail)) le
theorem door_met(os:Os)(args:Array Value):laidMetH Tryz.prog laid4 ((World.doorLaid Tryz.prog 100 os).forCall (fun _ _=>0) ⟨#[],args,[]⟩).memory:=
 laidMetH_of_parts3 (fuel:=8) (laidMet_of_run' 8 b0 b0) b0 b0
theorem door_shaped(os:Os)(args:Array Value):((World.doorLaid Tryz.prog 100 os).forCall (fun _ _=>0) ⟨#[],args,[]⟩).Shaped Tryz.prog:=
 World.shaped_of_RefB b0 b0
end TzRow
end Go.Proofs
end

/-
  PROVED: 'mailsieve/mailsievekeep.Through' returns true, whatever the script's text, the message and the three numbers; the arguments read as they did. The row's six listed variables are tied to the program's text by the given tie.
  Conditions: those of the given card alone.
-/
import Derived.Test.YthopmddkpdehiaaGreatDoorK42
import Derived.Test.YthopmddkpdehiaaGreatDoorK70
import Derived.Test.YthopmddkpdehiaaGreatDoorK72
set_option linter.unusedVariables false
set_option linter.unusedSimpArgs false
set_option maxRecDepth 4000
set_option maxHeartbeats 1000000
set_option maxRecDepth 100000
namespace Go.Proofs.YthopmddkpdehiaaGreatDoor.through
open Go Go.SL Go.Syn Go.Mach Go.ChangeShapes Go.WideShapes Go.ChangeAt Go.RowKit
open Go.ChangeMaps (open_string shut_string)
theorem wf_i64{n:Int}(h:(Lit.int .i64 n).wf=true): -9223372036854775808≤n∧n≤9223372036854775807:=by
 have h1:IntKind.i64.min= -9223372036854775808:=rfl;have h2:IntKind.i64.max=9223372036854775807:=rfl;simp only[Lit.wf,Bool.and_eq_true,decide_eq_true_eq]at h;omega
section
variable{H:Type}{enc:TypeId×Value→H}{P:Program}{w:World}{base:Nat}{spare:Nat→Bool}{held:Bool}
theorem trodAll_five{t t1 t2 t3 t4:TypeId}{args:Array Value}{ds:List (DataW H)}{ps:List MemPlace}(h:DataW.TrodAll enc P w base spare held [t,t1,t2,t3,t4] args.toList ds ps):
  ∃v v1 v2 v3 v4 d d1 d2 d3 d4 p p1 p2 p3 p4,args= #[v,v1,v2,v3,v4]∧ds=[d,d1,d2,d3,d4]∧ps=p++p1++p2++p3++p4∧DataW.Trod enc P w base spare held t v d p∧DataW.Trod enc P w base spare held t1 v1 d1 p1∧DataW.Trod enc P w base spare held t2 v2 d2 p2∧DataW.Trod enc P w base spare held t3 v3 d3 p3∧DataW.Trod enc P w base spare held t4 v4 d4 p4:=by
 obtain⟨v,vs,d,ds',p,q,hargs,rfl,rfl,h0,r0⟩:=trodAll_cons h;obtain⟨v1,vs1,d1,ds1,p1,q1,rfl,rfl,rfl,h1,r1⟩:=trodAll_cons r0;obtain⟨v2,vs2,d2,ds2,p2,q2,rfl,rfl,rfl,h2,r2⟩:=trodAll_cons r1;obtain⟨v3,vs3,d3,ds3,p3,q3,rfl,rfl,rfl,h3,r3⟩:=trodAll_cons r2;obtain⟨v4,vs4,d4,ds4,p4,q4,rfl,rfl,rfl,h4,r4⟩:=trodAll_cons r3;obtain⟨rfl,rfl,rfl⟩:=trodAll_nil r4;exact⟨v,v1,v2,v3,v4,d,d1,d2,d3,d4,p,p1,p2,p3,p4,by cases args;simp_all,rfl,by simp,h0,h1,h2,h3,h4⟩
theorem trodAll_mk5{t t1 t2 t3 t4:TypeId}{v v1 v2 v3 v4:Value}{d d1 d2 d3 d4:DataW H}{p p1 p2 p3 p4:List MemPlace}(h:DataW.Trod enc P w base spare held t v d p)(h1:DataW.Trod enc P w base spare held t1 v1 d1 p1)
  (h2:DataW.Trod enc P w base spare held t2 v2 d2 p2) (h3:DataW.Trod enc P w base spare held t3 v3 d3 p3) (h4:DataW.Trod enc P w base spare held t4 v4 d4 p4):DataW.TrodAll enc P w base spare held [t,t1,t2,t3,t4] [v,v1,v2,v3,v4] [d,d1,d2,d3,d4] (p++(p1++(p2++(p3++p4)))):=⟨p,_,h,trodAll_mk4 h1 h2 h3 h4,rfl⟩
end
theorem lifted(os:Os)(started:os.Started)(H:Type)(enc:TypeId×Value→H):
  ReturnsInHanded {} Tryz.checked os 8 .any (fun w args=>(Rows.throughSpec.pre enc Tryz.prog Tryz.f8 [] false w args∧laidMetH Tryz.prog TzRow.laid6 w)∧sizedMet enc Tryz.prog Tryz.f8 (OpenSpec.ofChange Rows.throughSpec) false w args)
   (Rows.throughSpec.post enc Tryz.prog Tryz.f8 false true false false):=by
 refine eE (C:=Tryz.checked) (X:=fun w _=>laidMetH Tryz.prog TzRow.laid6 w) (fun _ _ _ hh h=>h.of_heap hh) TzRow.own started bJ Tryz.func8
  (ChangeSpec.witness_shaped (enc:=enc) (C:=Tryz.checked) (os:=os) (X:=fun w _=>laidMetH Tryz.prog TzRow.laid6 w) false (World.doorLaid Tryz.prog 100 os) #[str [],.agg #[str [],str [],.int .i64 0,.slice none 0 0],.int .i64 0,.int .i64 0,.int .i64 0] 8 rfl (TzRow.door_shaped os _) bJ bJ bJ (TzRow.door_met6 os _)) ?_
 intro W base args ds gs before hval0 hW _ hsz0 hL hS _;have hsz:(DataW.weightsEach Tryz.prog (Tryz.f8.params.toList++Rows.throughSpec.plain.varTypes Tryz.prog) (ds++gs)).all (· ≤reachBytes)=true:=hsz0;clear hsz0;have hval:∀(j:Nat) t v,Tryz.f8.params[j]?=some t→args[j]?=some v→Value.okWide Tryz.prog W .any base t v:=hval0;have hW':=hW;obtain⟨p,q,hA0,hV,rfl,hfz,hnd⟩:=hW;have hA:DataW.TrodAll enc Tryz.prog W 0 (fun _=>true) true Tryz.f8.params.toList args.toList ds p:=hA0;rw[Tryz.params8]at hA hval hsz;obtain⟨v0,v1,v2,v3,v4,d0,d1,d2,d3,d4,p0,p1,p2,p3,p4,rfl,rfl,rfl,h0,h1,h2,h3,h4⟩:=trodAll_five hA;obtain⟨rfl,rfl⟩:=trodVars_none hV;have hk0:=h0;obtain⟨s,rfl,rfl,rfl,hs⟩:=open_string Tryz.underlying9 (hval 0 9 v0 rfl rfl) h0;obtain⟨a,rfl,rfl,rfl,wa⟩:=open_int Tryz.underlying3 (hval 2 3 v2 rfl rfl) h2;obtain⟨k,rfl,rfl,rfl,wk⟩:=open_int Tryz.underlying3 (hval 3 3 v3 rfl rfl) h3;obtain⟨n,rfl,rfl,rfl,wn⟩:=open_int Tryz.underlying3 (hval 4 3 v4 rfl rfl) h4;obtain⟨hg,hE,hD⟩:=TzRow.of_laid6 hL hS;have hB:=fun k (hk:k∈DataW.weightsEach Tryz.prog ([9,28,3,3,3]++Rows.throughSpec.plain.varTypes Tryz.prog) _)=>of_decide_eq_true (List.all_eq_true.1 hsz k hk)
 obtain⟨m,hv,rfl,ks,hz⟩:=TzRow.in_msg (hval 1 28 v1 rfl rfl) h1 (M:=DataW.weightsEach Tryz.prog ([9,28,3,3,3]++Rows.throughSpec.plain.varTypes Tryz.prog) _)
  (fun k hk=>DataW.weights_mem_each (j:=1) rfl rfl k hk) hB
 clear hA0 hval0;simp only[List.append_nil,List.nil_append]at hW';have es:Value.string s=str s.data.toList:=by
  show _=Value.string ⟨s.data.toList.toArray⟩
  rw[Array.toArray_toList]
 have hlt:∀x∈p1,x.block < W.heap.size:=fun x hx=>by simpa using hW'.lt x (by simp[hx])
 have walk:=kN (v:=.bool true) (w:=W) ((aRI s.data.toList m hv a k n (hp W) hg hD hE ks hz (wf_i64 wa).1 (wf_i64 wa).2 (wf_i64 wn).1 (wf_i64 wn).2).mono fun e K L ⟨v,a,b⟩=>⟨v,a,b⟩);rw[es]at hW' hk0 ⊢;refine walk.mono fun e W' ⟨he,bel⟩=>?_;subst he;exact⟨_,rfl,_,_,_,[],[]++(p1++([]++([]++[]))),[],hW',trodAll_mk1 (shut_bool Tryz.underlying4 _),trodAll_mk5 (Below.trod TzRow.laidOut bJ (of_decide_eq_true bJ) hk0 bel (fun x hx=>by cases hx)) (Below.trod TzRow.laidOut bJ (of_decide_eq_true bJ) h1 bel hlt) (shut_int Tryz.underlying3 wa) (shut_int Tryz.underlying3 wk) (shut_int Tryz.underlying3 wn),rfl,bel.frame _,fun h=>by cases h⟩
theorem holds:Rows.ThroughSaid:=
 OpenClaim.holds_of_wide 8 Tryz.f8 rfl rfl rfl rfl rfl rfl rfl ⟨rfl,rfl,rfl,rfl,rfl⟩ rfl rfl rfl rfl rfl iX Tryz.func8 kU o1 o3
  (fun os started H enc _=>lifted os started H enc)
theorem proved:Rows.ThroughCardSaid:=
 Claim7.holds_tied_plain_at .later [] [.data,.data,.data,.handle,.sentinel,.sentinel] true (true,"ea7e164c6fe4da811baffb4706d2ea567aa0efc47f88008a5c64f868f8fc8469") true
  holds (fun _ h=>by cases h) aCA (fun _ h=>by cases h) through_row_tie rfl ⟨rfl,rfl⟩ TzRow.c_main rfl
  (fun f fn hf hfn => by
   obtain rfl:f=8:=Option.some.inj (iX.symm.trans hf) |>.symm
   obtain rfl : fn = Tryz.f8 := (Option.some.inj (Tryz.func8.symm.trans hfn)).symm;exact ⟨TzRow.c_looks, fun j t ht => by
    rw[Tryz.params8]at ht;have hm:t∈[9,28,3,3,3]:=by simpa using Array.mem_of_getElem? ht
    exact(show Tryz.prog.wantsStandIn t=false by simpa using List.all_eq_true.1 mH t hm)⟩)
  oZ
#print axioms proved
end Go.Proofs.YthopmddkpdehiaaGreatDoor.through

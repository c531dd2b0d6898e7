/-
  PROVED: 'mailsieve/mailsievekeep.Globbed' returns true, whatever the value and the two numbers; the arguments read as they did. The row's four listed variables are tied to the program's text by the given tie.
  Conditions: those of the given card alone.
-/
import Derived.Test.YthopmddkpdehiaaGreatDoorK60
import Derived.Test.YthopmddkpdehiaaGreatDoorK64
set_option linter.unusedVariables false
set_option linter.unusedSimpArgs false
set_option maxRecDepth 4000
set_option maxHeartbeats 1000000
set_option maxRecDepth 100000
namespace Go.Proofs.YthopmddkpdehiaaGreatDoor.globbed
open Go Go.SL Go.Syn Go.Mach Go.ChangeShapes Go.WideShapes Go.ChangeAt Go.RowKit
open Go.ChangeMaps (open_string shut_string)
theorem wf_i64{n:Int}(h:(Lit.int .i64 n).wf=true): -9223372036854775808≤n∧n≤9223372036854775807:=by
 have h1:IntKind.i64.min= -9223372036854775808:=rfl;have h2:IntKind.i64.max=9223372036854775807:=rfl;simp only[Lit.wf,Bool.and_eq_true,decide_eq_true_eq]at h;omega
theorem lifted(os:Os)(started:os.Started)(H:Type)(enc:TypeId×Value→H):
  ReturnsInHanded {} Tryz.checked os 3 .any (fun w args=>(Rows.globbedSpec.pre enc Tryz.prog Tryz.f3 [] false w args∧laidMetH Tryz.prog TzRow.laid4 w)∧sizedMet enc Tryz.prog Tryz.f3 (OpenSpec.ofChange Rows.globbedSpec) false w args)
   (Rows.globbedSpec.post enc Tryz.prog Tryz.f3 false true false false):=by
 refine eE (C:=Tryz.checked) (X:=fun w _=>laidMetH Tryz.prog TzRow.laid4 w) (fun _ _ _ hh h=>h.of_heap hh) TzRow.own started bJ Tryz.func3
  (ChangeSpec.witness_shaped (enc:=enc) (C:=Tryz.checked) (os:=os) (X:=fun w _=>laidMetH Tryz.prog TzRow.laid4 w) false (World.doorLaid Tryz.prog 100 os) #[str [],.int .i64 0,.int .i64 0] 8 rfl (TzRow.door_shaped os _) bJ bJ bJ (TzRow.door_met os _)) ?_
 intro W base args ds gs before hval0 hW _ hsz0 hL hS _;have hsz:(DataW.weightsEach Tryz.prog (Tryz.f3.params.toList++Rows.globbedSpec.plain.varTypes Tryz.prog) (ds++gs)).all (· ≤reachBytes)=true:=hsz0;clear hsz0;have hval:∀(j:Nat) t v,Tryz.f3.params[j]?=some t→args[j]?=some v→Value.okWide Tryz.prog W .any base t v:=hval0;have hW':=hW;obtain⟨p,q,hA0,hV,rfl,hfz,hnd⟩:=hW;have hA:DataW.TrodAll enc Tryz.prog W 0 (fun _=>true) true Tryz.f3.params.toList args.toList ds p:=hA0;rw[Tryz.params3]at hA hval hsz;obtain⟨v0,v1,v2,d0,d1,d2,p0,p1,p2,rfl,rfl,rfl,h0,h1,h2⟩:=trodAll_three hA;obtain⟨rfl,rfl⟩:=trodVars_none hV;have hk0:=h0;obtain⟨s,rfl,rfl,rfl,hs⟩:=open_string Tryz.underlying9 (hval 0 9 v0 rfl rfl) h0;obtain⟨k,rfl,rfl,rfl,wk⟩:=open_int Tryz.underlying3 (hval 1 3 v1 rfl rfl) h1;obtain⟨n,rfl,rfl,rfl,wn⟩:=open_int Tryz.underlying3 (hval 2 3 v2 rfl rfl) h2;obtain⟨hg,hE⟩:=TzRow.of_laid hL hS;have hs2:s.data.toList.length≤140737488355328:=by
  have:=sized_string hsz (j:=0) (t:=9) (bytes:=s.data.toList) rfl rfl;have hr:reachBytes=140737488351232:=rfl;omega
 clear hA0 hval0;simp only[List.append_nil]at hW';have es:Value.string s=str s.data.toList:=by
  show _=Value.string ⟨s.data.toList.toArray⟩
  rw[Array.toArray_toList]
 have walk:=kN (v:=.bool true) (w:=W) ((aP2 s.data.toList k n (hp W) hg hE hs2 (wf_i64 wk).1 (wf_i64 wk).2 (wf_i64 wn).1 (wf_i64 wn).2).mono fun e K L ⟨v,a,b⟩=>⟨v,a,b⟩);rw[es]at hW' hk0 ⊢;refine walk.mono fun e W' ⟨he,bel⟩=>?_;subst he;exact⟨_,rfl,_,_,_,[],[],[],hW',trodAll_mk1 (shut_bool Tryz.underlying4 _),trodAll_mk3 (Below.trod TzRow.laidOut bJ (of_decide_eq_true bJ) hk0 bel (fun x hx=>by cases hx)) (shut_int Tryz.underlying3 wk) (shut_int Tryz.underlying3 wn),rfl,bel.frame _,fun h=>by cases h⟩
theorem holds:Rows.GlobbedSaid:=
 OpenClaim.holds_of_wide 3 Tryz.f3 rfl rfl rfl rfl rfl rfl rfl ⟨rfl,rfl,rfl,rfl,rfl⟩ rfl rfl rfl rfl rfl iX Tryz.func3 kU o1 o3
  (fun os started H enc _=>lifted os started H enc)
theorem proved:Rows.GlobbedCardSaid:=
 Claim7.holds_tied_plain_at .later [] [.data,.data,.data,.handle] true (true,"ea7e164c6fe4da811baffb4706d2ea567aa0efc47f88008a5c64f868f8fc8469") true
  holds (fun _ h=>by cases h) aCA (fun _ h=>by cases h) globbed_row_tie rfl ⟨rfl,rfl⟩ TzRow.c_main rfl
  (fun f fn hf hfn => by
   obtain rfl:f=3:=Option.some.inj (iX.symm.trans hf) |>.symm
   obtain rfl : fn = Tryz.f3 := (Option.some.inj (Tryz.func3.symm.trans hfn)).symm;exact ⟨TzRow.c_looks, fun j t ht => by
    rw[Tryz.params3]at ht;have hm:t∈[9,3,3]:=by simpa using Array.mem_of_getElem? ht
    exact(show Tryz.prog.wantsStandIn t=false by simpa using List.all_eq_true.1 mH t hm)⟩)
  oZ
#print axioms proved
end Go.Proofs.YthopmddkpdehiaaGreatDoor.globbed

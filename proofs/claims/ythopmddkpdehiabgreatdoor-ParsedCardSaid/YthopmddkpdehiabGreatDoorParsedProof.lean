/-
  PROVED: 'mailsieve/mailsievelaw.Parsed' returns true, whatever the steps; the argument reads as it did. The row's four listed variables are tied to the program's text by the given tie.
  Conditions: those of the given card alone.
-/
import Derived.Test.YthopmddkpdehiabGreatDoorK55
import Derived.Test.YthopmddkpdehiabGreatDoorK60
set_option linter.unusedVariables false
set_option linter.unusedSimpArgs false
set_option linter.defProp false
set_option maxRecDepth 4000
set_option maxHeartbeats 1000000
set_option maxRecDepth 100000
namespace Go.Proofs.YthopmddkpdehiabGreatDoor.parsed
open Go Go.SL Go.Syn Go.Mach Go.ChangeShapes Go.WideShapes Go.ChangeAt Go.RowKit
theorem lifted(os:Os)(started:os.Started)(H:Type)(enc:TypeId×Value→H):
  ReturnsInHanded {} Tryz.checked os 3 .any (fun w args=>(Rows.parsedSpec.pre enc Tryz.prog Tryz.f3 [] false w args∧laidMetH Tryz.prog TzRow.laid4 w)∧sizedMet enc Tryz.prog Tryz.f3 (OpenSpec.ofChange Rows.parsedSpec) false w args)
   (Rows.parsedSpec.post enc Tryz.prog Tryz.f3 false true false false):=by
 refine iJ (C:=Tryz.checked) (X:=fun w _=>laidMetH Tryz.prog TzRow.laid4 w) (fun _ _ _ hh h=>h.of_heap hh) TzRow.own started cY Tryz.func3
  (ChangeSpec.witness_shaped (enc:=enc) (C:=Tryz.checked) (os:=os) (X:=fun w _=>laidMetH Tryz.prog TzRow.laid4 w) false (World.doorLaid Tryz.prog 100 os) #[.slice none 0 0] 8 rfl (TzRow.door_shaped os _) cY cY cY (TzRow.door_met os _)) ?_
 intro W base args ds gs before hval0 hW _ hsz0 hL hS _;have hsz:(DataW.weightsEach Tryz.prog (Tryz.f3.params.toList++Rows.parsedSpec.plain.varTypes Tryz.prog) (ds++gs)).all (· ≤reachBytes)=true:=hsz0;clear hsz0;have hval:∀(j:Nat) t v,Tryz.f3.params[j]?=some t→args[j]?=some v→Value.okWide Tryz.prog W .any base t v:=hval0;have hW':=hW;obtain⟨p,q,hA0,hV,rfl,hfz,hnd⟩:=hW;have hA:DataW.TrodAll enc Tryz.prog W 0 (fun _=>true) true Tryz.f3.params.toList args.toList ds p:=hA0;rw[Tryz.params3]at hA hval hsz;obtain⟨v0,d0,rfl,rfl,h0⟩:=trodAll_one hA;obtain⟨rfl,rfl⟩:=trodVars_none hV;obtain⟨hg,hE⟩:=TzRow.of_laid hL hS;have hB:=fun k (hk:k∈DataW.weightsEach Tryz.prog ([22]++Rows.parsedSpec.plain.varTypes Tryz.prog) _)=>of_decide_eq_true (List.all_eq_true.1 hsz k hk)
 obtain⟨vs,ks,hs,hz,hl⟩:=TzRow.in_ops (hval 0 22 v0 rfl rfl) h0 (fun k hk=>hB k (DataW.weights_mem_each (j:=0) rfl rfl k hk));clear hA0 hval0;simp only[List.append_nil]at hW';have hlt:∀x∈p,x.block < W.heap.size:=fun x hx=>by simpa using hW'.lt x (by simp[hx])
 have walk:=qO (v:=.bool true) (w:=W) ((aTW v0 vs (hp W) hg hE ks hs hz hl).mono fun e K L ⟨v,a,b,_⟩=>⟨v,a,b⟩);refine walk.mono fun e W' ⟨he,bel⟩=>?_;subst he;exact⟨_,rfl,_,_,_,[],p,[],hW',trodAll_mk1 (shut_bool Tryz.underlying4 _),trodAll_mk1 (Below.trod TzRow.laidOut cY (of_decide_eq_true cY) h0 bel hlt),rfl,bel.frame _,fun h=>by cases h⟩
theorem holds:Rows.ParsedSaid:=
 OpenClaim.holds_of_wide 3 Tryz.f3 rfl rfl rfl rfl rfl rfl rfl ⟨rfl,rfl,rfl,rfl,rfl⟩ rfl rfl rfl rfl rfl o9 Tryz.func3 sW aAL aAM
  (fun os started H enc _=>lifted os started H enc)
theorem proved:Rows.ParsedCardSaid:=
 Claim7.holds_tied_plain_at .later [] [.data,.data,.data,.handle] true (true,"d30d2dbc2ce46fac6bac593c0733b9376cf6309d789444a9794083a1c5b1f0df") true
  holds (fun _ h=>by cases h) aR2 (fun _ h=>by cases h) parsed_row_tie rfl ⟨rfl,rfl⟩ TzRow.c_main rfl
  (fun f fn hf hfn => by
   obtain rfl:f=3:=Option.some.inj (o9.symm.trans hf) |>.symm
   obtain rfl : fn = Tryz.f3 := (Option.some.inj (Tryz.func3.symm.trans hfn)).symm;exact ⟨TzRow.c_looks, fun j t ht => by
    rw[Tryz.params3]at ht;have hm:t∈[22]:=by simpa using Array.mem_of_getElem? ht
    exact(show Tryz.prog.wantsStandIn t=false by simpa using List.all_eq_true.1 vQ t hm)⟩)
  aAE
#print axioms proved
end Go.Proofs.YthopmddkpdehiabGreatDoor.parsed

/-
  PROVED: 'mailsieve/mailsievelaw.All' returns true, whatever the steps; the argument reads as it did. The row's four listed variables are tied to the program's text by the given tie.
  Conditions: those of the given card alone.
-/
import Derived.Test.YthopmddkpdehiaaGreatDoorA12
import Derived.Test.YthopmddkpdehiaaGreatDoorA19
set_option linter.unusedVariables false
set_option linter.unusedSimpArgs false
set_option linter.defProp false
set_option maxRecDepth 4000
set_option maxHeartbeats 1000000
set_option maxRecDepth 100000
namespace Go.Proofs.YthopmddkpdehiaaGreatDoor.all
open Go Go.SL Go.Syn Go.Mach Go.ChangeShapes Go.WideShapes Go.ChangeAt Go.RowKit
theorem lifted(os:Os)(started:os.Started)(H:Type)(enc:TypeId×Value→H):
  ReturnsInHanded {} Tryz.checked os 6 .any (fun w args=>(Rows.allSpec.pre enc Tryz.prog Tryz.f6 [] false w args∧laidMetH Tryz.prog TzRow.laid4 w)∧sizedMet enc Tryz.prog Tryz.f6 (OpenSpec.ofChange Rows.allSpec) false w args)
   (Rows.allSpec.post enc Tryz.prog Tryz.f6 false true false false):=by
 refine o9 (C:=Tryz.checked) (X:=fun w _=>laidMetH Tryz.prog TzRow.laid4 w) (fun _ _ _ hh h=>h.of_heap hh) TzRow.own started cV Tryz.func6
  (ChangeSpec.witness_shaped (enc:=enc) (C:=Tryz.checked) (os:=os) (X:=fun w _=>laidMetH Tryz.prog TzRow.laid4 w) false (World.doorLaid Tryz.prog 100 os) #[.slice none 0 0] 8 rfl (TzRow.door_shaped os _) cV cV cV (TzRow.door_met os _)) ?_
 intro W base args ds gs before hval0 hW _ hsz0 hL hS _;have hsz:(DataW.weightsEach Tryz.prog (Tryz.f6.params.toList++Rows.allSpec.plain.varTypes Tryz.prog) (ds++gs)).all (· ≤reachBytes)=true:=hsz0;clear hsz0;have hval:∀(j:Nat) t v,Tryz.f6.params[j]?=some t→args[j]?=some v→Value.okWide Tryz.prog W .any base t v:=hval0;have hW':=hW;obtain⟨p,q,hA0,hV,rfl,hfz,hnd⟩:=hW;have hA:DataW.TrodAll enc Tryz.prog W 0 (fun _=>true) true Tryz.f6.params.toList args.toList ds p:=hA0;rw[Tryz.params6]at hA hval hsz;obtain⟨v0,d0,rfl,rfl,h0⟩:=trodAll_one hA;obtain⟨rfl,rfl⟩:=trodVars_none hV;obtain⟨hg,hE⟩:=TzRow.of_laid hL hS;have hB:=fun k (hk:k∈DataW.weightsEach Tryz.prog ([53]++Rows.allSpec.plain.varTypes Tryz.prog) _)=>of_decide_eq_true (List.all_eq_true.1 hsz k hk)
 obtain⟨vs,ks,hs,hz,hl⟩:=TzRow.in_ops (hval 0 53 v0 rfl rfl) h0 (fun k hk=>hB k (DataW.weights_mem_each (j:=0) rfl rfl k hk));clear hA0 hval0;simp only[List.append_nil]at hW';have hlt:∀x∈p,x.block < W.heap.size:=fun x hx=>by simpa using hW'.lt x (by simp[hx])
 have walk:=ED (v:=.bool true) (w:=W) ((Lr v0 vs (hp W) hg hE ks hs hz hl).mono fun e K L ⟨v,a,b,_⟩=>⟨v,a,b⟩);refine walk.mono fun e W' ⟨he,bel⟩=>?_;subst he;exact⟨_,rfl,_,_,_,[],p,[],hW',trodAll_mk1 (shut_bool Tryz.underlying4 _),trodAll_mk1 (Below.trod TzRow.laidOut cV (of_decide_eq_true cV) h0 bel hlt),rfl,bel.frame _,fun h=>by cases h⟩
theorem holds:Rows.AllSaid:=
 OpenClaim.holds_of_wide 6 Tryz.f6 rfl rfl rfl rfl rfl rfl rfl ⟨rfl,rfl,rfl,rfl,rfl⟩ rfl rfl rfl rfl rfl My Tryz.func6 Rp Xw Xx
  (fun os started H enc _=>lifted os started H enc)
theorem proved:Rows.AllCardSaid:=
 Claim7.holds_tied_plain_at .later [] [.data,.data,.data,.handle] true (true,"ea7e164c6fe4da811baffb4706d2ea567aa0efc47f88008a5c64f868f8fc8469") true
  holds (fun _ h=>by cases h) aBZ (fun _ h=>by cases h) all_row_tie rfl ⟨rfl,rfl⟩ TzRow.c_main rfl
  (fun f fn hf hfn => by
   obtain rfl:f=6:=Option.some.inj (My.symm.trans hf) |>.symm
   obtain rfl : fn = Tryz.f6 := (Option.some.inj (Tryz.func6.symm.trans hfn)).symm;exact ⟨TzRow.c_looks, fun j t ht => by
    rw[Tryz.params6]at ht;have hm:t∈[53]:=by simpa using Array.mem_of_getElem? ht
    exact(show Tryz.prog.wantsStandIn t=false by simpa using List.all_eq_true.1 U1 t hm)⟩)
  Xq
#print axioms proved
end Go.Proofs.YthopmddkpdehiaaGreatDoor.all

/-
  PROVED: 'mailsieve/mailsievekeep.Twice' returns true where the arguments hold together at most 1048576 values and letters; the arguments read as they did. The row's six listed variables are tied to the program's text by the given tie.
  Conditions: those of the given card alone.
-/
import Derived.Test.YthopmddkpdehiaaGreatDoorK65
import Derived.Test.YthopmddkpdehiaaGreatDoorK66
import Derived.Test.YthopmddkpdehiaaGreatDoorK69
set_option linter.unusedVariables false
set_option linter.unusedSimpArgs false
set_option maxRecDepth 4000
set_option maxHeartbeats 1000000
set_option maxRecDepth 100000
namespace Go.Proofs.YthopmddkpdehiaaGreatDoor.twice
open Go Go.SL Go.Syn Go.Mach Go.ChangeShapes Go.WideShapes Go.ChangeAt Go.RowKit
open Go.ChangeMaps (open_string shut_string)
theorem reads(os:Os){H:Type}(enc:TypeId×Value→H):∃places,DataW.whole enc Tryz.prog ((World.doorLaid Tryz.prog 100 os).forCall (fun _ _=>0) ⟨#[],#[str [],.slice none 0 0,str []],[]⟩).memory Tryz.f9.params.toList Rows.twiceSpec.vars false #[str [],.slice none 0 0,str []].toList 8=some ([.lit (.string []),.nil,.lit (.string [])],[],places):=
 ⟨[],by kernel_rfl⟩
theorem lifted(os:Os)(started:os.Started)(H:Type)(enc:TypeId×Value→H)(F:Stop.Interp):
  ReturnsInHanded {} Tryz.checked os 9 .any ((Rows.OpenSpec.upto Rows.twiceSpec).preRow enc Tryz.prog Tryz.f9 Rows.twiceUptoRow.domain false Rows.twiceUptoRow.laid) (((Rows.OpenSpec.upto Rows.twiceSpec).at F).post enc Tryz.prog Tryz.f9 false true false false):=by
 obtain⟨places,hx⟩:=reads os enc;refine returnsInHanded_of_row (C:=Tryz.checked) (s:=Rows.OpenSpec.upto Rows.twiceSpec) TzRow.own started bJ Tryz.func9
  (witness_row_at (enc := enc) (C := Tryz.checked) false (World.doorLaid Tryz.prog 100 os) #[str [], .slice none 0 0, str []] rfl bJ bJ bJ
   (OpenSpec.preRow_of_cond 8 hx bJ (fun k hk=>by cases hk;kernel_rfl) bJ (TzRow.door_met6 os _))) ?_
 intro W base args ds gs before hval0 hW _ hcond hsz0 hL hS _;have hsz:(DataW.weightsEach Tryz.prog (Tryz.f9.params.toList++Rows.twiceSpec.plain.varTypes Tryz.prog) (ds++gs)).all (· ≤reachBytes)=true:=hsz0;clear hsz0;have hval:∀(j:Nat) t v,Tryz.f9.params[j]?=some t→args[j]?=some v→Value.okWide Tryz.prog W .any base t v:=hval0;have hbk:=TzRow.bulk_bound (hcond _ rfl);have hW':=hW;obtain⟨p,q,hA0,hV,rfl,hfz,hnd⟩:=hW;have hA:DataW.TrodAll enc Tryz.prog W 0 (fun _=>true) true Tryz.f9.params.toList args.toList ds p:=hA0;rw[Tryz.params9]at hA hval hsz;obtain⟨v0,v1,v2,d0,d1,d2,p0,p1,p2,rfl,rfl,rfl,h0,h1,h2⟩:=trodAll_three hA;obtain⟨rfl,rfl⟩:=trodVars_none hV;have hk0:=h0;have hk2:=h2;obtain⟨s,rfl,rfl,rfl,hs⟩:=open_string Tryz.underlying9 (hval 0 9 v0 rfl rfl) h0;obtain⟨u,rfl,rfl,rfl,hu⟩:=open_string Tryz.underlying9 (hval 2 9 v2 rfl rfl) h2;obtain⟨hg,hE,hD⟩:=TzRow.of_laid6 hL hS;have hB:∀k∈DataW.weightsEach Tryz.prog ([9,29,9]++Rows.twiceSpec.plain.varTypes Tryz.prog) ([DataW.lit (.string s.data.toList),d1,DataW.lit (.string u.data.toList)]++[]),k≤reachBytes:=fun k hk=>of_decide_eq_true (List.all_eq_true.1 hsz k hk)
 obtain⟨xs,ks,hxs,hxl⟩:=TzRow.in_acts (hval 1 29 v1 rfl rfl) h1 (fun k hk=>hB k (DataW.weights_mem_each (j:=1) rfl rfl k hk));have hr:reachBytes=140737488351232:=rfl;have hs2:s.data.toList.length≤140737488355328:=by
  have:=hB _ (DataW.weights_mem_each (ts:=[9,29,9]++Rows.twiceSpec.plain.varTypes Tryz.prog) (ds:=[DataW.lit (.string s.data.toList),d1,DataW.lit (.string u.data.toList)]++[]) (j:=0) rfl rfl s.data.toList.length (by simp[DataW.weights]));omega
 have hu2:u.data.toList.length≤140737488355328:=by
  have:=hB _ (DataW.weights_mem_each (ts:=[9,29,9]++Rows.twiceSpec.plain.varTypes Tryz.prog) (ds:=[DataW.lit (.string s.data.toList),d1,DataW.lit (.string u.data.toList)]++[]) (j:=2) rfl rfl u.data.toList.length (by simp[DataW.weights]));omega
 have hbd:TzRow.bulk d1≤1048576:=Nat.le_trans (TzRow.bulk_in (by simp)) hbk;clear hA0 hval0;simp only[List.append_nil]at hW';have es:Value.string s=str s.data.toList:=by
  show _=Value.string ⟨s.data.toList.toArray⟩
  rw[Array.toArray_toList]
 have eu:Value.string u=str u.data.toList:=by
  show _=Value.string ⟨u.data.toList.toArray⟩
  rw[Array.toArray_toList]
 have hlt:∀x∈p1,x.block < W.heap.size:=fun x hx=>hW'.lt x (by simp[hx])
 have walk:=kN (v:=.bool true) (w:=W) ((aYU s.data.toList u.data.toList v1 xs (hp W) hg hD hE ks hs2 hu2 hxl (fun a ha=>Nat.le_trans (hxs a ha) hbd)).mono fun e K L ⟨v,a,b⟩=>⟨v,a,b⟩);rw[es,eu]at hW' ⊢;rw[es]at hk0;rw[eu]at hk2;refine walk.mono fun e W' ⟨he,bel⟩=>?_;subst he;exact⟨_,rfl,_,_,_,[],[]++(p1++[]),[],hW',trodAll_mk1 (shut_bool Tryz.underlying4 _),trodAll_mk3 (Below.trod TzRow.laidOut bJ (of_decide_eq_true bJ) hk0 bel (fun x hx=>by cases hx)) (Below.trod TzRow.laidOut bJ (of_decide_eq_true bJ) h1 bel hlt) (Below.trod TzRow.laidOut bJ (of_decide_eq_true bJ) hk2 bel (fun x hx=>by cases hx)),rfl,bel.frame _,fun h=>by cases h⟩
theorem holds:Rows.TwiceUptoSaid:=
 OpenClaim.holds_of_cond 9 Tryz.f9 rfl rfl rfl rfl rfl rfl rfl ⟨rfl,rfl,rfl,rfl,rfl⟩ rfl rfl rfl rfl rfl iX Tryz.func9 kU o1 o3
  (fun os started H enc _ F=>by rw[OpenClaim.pre_eq_preRow];exact lifted os started H enc F)
theorem proved:Rows.TwiceUptoCardSaid:=
 Claim7.holds_tied_plain_at .later [] _ _ _ _ holds (fun _ h=>by cases h) aCA (fun _ h=>by cases h) twiceUpto_row_tie rfl ⟨rfl,rfl⟩ TzRow.c_main rfl
  (fun f fn hf hfn => by
   obtain rfl:f=9:=Option.some.inj (iX.symm.trans hf) |>.symm
   obtain rfl : fn = Tryz.f9 := (Option.some.inj (Tryz.func9.symm.trans hfn)).symm;exact ⟨TzRow.c_looks, fun j t ht => by
    rw[Tryz.params9]at ht;have hm:t∈[9,29,9]:=by simpa using Array.mem_of_getElem? ht
    exact(show Tryz.prog.wantsStandIn t=false by simpa using List.all_eq_true.1 mH t hm)⟩)
  oZ
#print axioms proved
end Go.Proofs.YthopmddkpdehiaaGreatDoor.twice

/-
  PROVED: 'mailsieve/mailsievekeep.Turned' returns true, whatever the test's and the two commands' texts and the message; the arguments read as they did. The row's four listed variables are tied to the program's text by the given tie.
  Conditions: those of the given card alone.
-/
import Derived.Test.YthopmddkpdehiaaGreatDoorK81
import Derived.Test.YthopmddkpdehiaaGreatDoorK82
set_option linter.unusedVariables false
set_option linter.unusedSimpArgs false
set_option maxRecDepth 4000
set_option maxHeartbeats 1000000
set_option maxRecDepth 100000
namespace Go.Proofs.YthopmddkpdehiaaGreatDoor.turned
open Go Go.SL Go.Syn Go.Mach Go.ChangeShapes Go.WideShapes Go.ChangeAt Go.RowKit
open Go.ChangeMaps (open_string shut_string)
theorem lifted(os:Os)(started:os.Started)(H:Type)(enc:TypeId×Value→H):
  ReturnsInHanded {} Tryz.checked os 13 .any (fun w args=>(Rows.turnedSpec.pre enc Tryz.prog Tryz.f13 [] false w args∧laidMetH Tryz.prog TzRow.laid4 w)∧sizedMet enc Tryz.prog Tryz.f13 (OpenSpec.ofChange Rows.turnedSpec) false w args)
   (Rows.turnedSpec.post enc Tryz.prog Tryz.f13 false true false false):=by
 refine eE (C:=Tryz.checked) (X:=fun w _=>laidMetH Tryz.prog TzRow.laid4 w) (fun _ _ _ hh h=>h.of_heap hh) TzRow.own started bJ Tryz.func13
  (ChangeSpec.witness_shaped (enc:=enc) (C:=Tryz.checked) (os:=os) (X:=fun w _=>laidMetH Tryz.prog TzRow.laid4 w) false (World.doorLaid Tryz.prog 100 os) #[str [],str [],str [],.agg #[str [],str [],.int .i64 0,.slice none 0 0]] 8 rfl (TzRow.door_shaped os _) bJ bJ bJ (TzRow.door_met os _)) ?_
 intro W base args ds gs before hval0 hW _ hsz0 hL hS _;have hsz:(DataW.weightsEach Tryz.prog (Tryz.f13.params.toList++Rows.turnedSpec.plain.varTypes Tryz.prog) (ds++gs)).all (· ≤reachBytes)=true:=hsz0;clear hsz0;have hval:∀(j:Nat) t v,Tryz.f13.params[j]?=some t→args[j]?=some v→Value.okWide Tryz.prog W .any base t v:=hval0;have hW':=hW;obtain⟨p,q,hA0,hV,rfl,hfz,hnd⟩:=hW;have hA:DataW.TrodAll enc Tryz.prog W 0 (fun _=>true) true Tryz.f13.params.toList args.toList ds p:=hA0;rw[Tryz.params13]at hA hval hsz;obtain⟨v0,va,vb,v1,d0,da,db,d1,p0,pa,pb,p1,rfl,rfl,rfl,h0,ha,hb,h1⟩:=trodAll_four hA;obtain⟨rfl,rfl⟩:=trodVars_none hV;have hk0:=h0;have hka:=ha;have hkb:=hb;obtain⟨s,rfl,rfl,rfl,hs⟩:=open_string Tryz.underlying9 (hval 0 9 v0 rfl rfl) h0;obtain⟨a,rfl,rfl,rfl,has⟩:=open_string Tryz.underlying9 (hval 1 9 va rfl rfl) ha;obtain⟨b,rfl,rfl,rfl,hbs⟩:=open_string Tryz.underlying9 (hval 2 9 vb rfl rfl) hb;obtain⟨hg,hE⟩:=TzRow.of_laid hL hS;have hB:∀k∈DataW.weightsEach Tryz.prog ([9,9,9,28]++Rows.turnedSpec.plain.varTypes Tryz.prog) ([DataW.lit (.string s.data.toList),DataW.lit (.string a.data.toList),DataW.lit (.string b.data.toList),d1]++[]),k≤reachBytes:=fun k hk=>of_decide_eq_true (List.all_eq_true.1 hsz k hk)
 obtain⟨m,hv,rfl,ks,hz⟩:=TzRow.in_msg (hval 3 28 v1 rfl rfl) h1 (M:=DataW.weightsEach Tryz.prog ([9,9,9,28]++Rows.turnedSpec.plain.varTypes Tryz.prog) ([DataW.lit (.string s.data.toList),DataW.lit (.string a.data.toList),DataW.lit (.string b.data.toList),d1]++[]))
  (fun k hk=>DataW.weights_mem_each (j:=3) rfl rfl k hk) hB
 have hr:reachBytes=140737488351232:=rfl;have hs2:s.data.toList.length≤140737488355328:=by
  have:=hB _ (DataW.weights_mem_each (ts:=[9,9,9,28]++Rows.turnedSpec.plain.varTypes Tryz.prog) (ds:=[DataW.lit (.string s.data.toList),DataW.lit (.string a.data.toList),DataW.lit (.string b.data.toList),d1]++[]) (j:=0) rfl rfl s.data.toList.length (by simp[DataW.weights]));omega
 have ha2:a.data.toList.length≤140737488355328:=by
  have:=hB _ (DataW.weights_mem_each (ts:=[9,9,9,28]++Rows.turnedSpec.plain.varTypes Tryz.prog) (ds:=[DataW.lit (.string s.data.toList),DataW.lit (.string a.data.toList),DataW.lit (.string b.data.toList),d1]++[]) (j:=1) rfl rfl a.data.toList.length (by simp[DataW.weights]));omega
 have hb2:b.data.toList.length≤140737488355328:=by
  have:=hB _ (DataW.weights_mem_each (ts:=[9,9,9,28]++Rows.turnedSpec.plain.varTypes Tryz.prog) (ds:=[DataW.lit (.string s.data.toList),DataW.lit (.string a.data.toList),DataW.lit (.string b.data.toList),d1]++[]) (j:=2) rfl rfl b.data.toList.length (by simp[DataW.weights]));omega
 clear hA0 hval0;simp only[List.append_nil]at hW';have es:∀s:ByteArray,Value.string s=str s.data.toList:=fun s=>by
  show _=Value.string ⟨s.data.toList.toArray⟩
  rw[Array.toArray_toList]
 have hlt:∀x∈p1,x.block < W.heap.size:=fun x hx=>by simpa using hW'.lt x (by simp[hx])
 have walk:=kN (v:=.bool true) (w:=W) ((aRN s.data.toList a.data.toList b.data.toList m hv (hp W) hg hE ks hz hs2 ha2 hb2).mono fun e K L ⟨v,a,b⟩=>⟨v,a,b⟩);rw[es s]at hW' hk0 ⊢;rw[es a]at hW' hka ⊢;rw[es b]at hW' hkb ⊢;refine walk.mono fun e W' ⟨he,bel⟩=>?_;subst he;exact⟨_,rfl,_,_,_,[],[]++([]++([]++p1)),[],hW',trodAll_mk1 (shut_bool Tryz.underlying4 _),trodAll_mk4 (Below.trod TzRow.laidOut bJ (of_decide_eq_true bJ) hk0 bel (fun x hx=>by cases hx)) (Below.trod TzRow.laidOut bJ (of_decide_eq_true bJ) hka bel (fun x hx=>by cases hx)) (Below.trod TzRow.laidOut bJ (of_decide_eq_true bJ) hkb bel (fun x hx=>by cases hx)) (Below.trod TzRow.laidOut bJ (of_decide_eq_true bJ) h1 bel hlt),rfl,bel.frame _,fun h=>by cases h⟩
theorem holds:Rows.TurnedSaid:=
 OpenClaim.holds_of_wide 13 Tryz.f13 rfl rfl rfl rfl rfl rfl rfl ⟨rfl,rfl,rfl,rfl,rfl⟩ rfl rfl rfl rfl rfl iX Tryz.func13 kU o1 o3
  (fun os started H enc _=>lifted os started H enc)
theorem proved:Rows.TurnedCardSaid:=
 Claim7.holds_tied_plain_at .later [] [.data,.data,.data,.handle] true (true,"ea7e164c6fe4da811baffb4706d2ea567aa0efc47f88008a5c64f868f8fc8469") true
  holds (fun _ h=>by cases h) aCA (fun _ h=>by cases h) turned_row_tie rfl ⟨rfl,rfl⟩ TzRow.c_main rfl
  (fun f fn hf hfn => by
   obtain rfl:f=13:=Option.some.inj (iX.symm.trans hf) |>.symm
   obtain rfl : fn = Tryz.f13 := (Option.some.inj (Tryz.func13.symm.trans hfn)).symm;exact ⟨TzRow.c_looks, fun j t ht => by
    rw[Tryz.params13]at ht;have hm:t∈[9,9,9,28]:=by simpa using Array.mem_of_getElem? ht
    exact(show Tryz.prog.wantsStandIn t=false by simpa using List.all_eq_true.1 mH t hm)⟩)
  oZ
#print axioms proved
end Go.Proofs.YthopmddkpdehiaaGreatDoor.turned

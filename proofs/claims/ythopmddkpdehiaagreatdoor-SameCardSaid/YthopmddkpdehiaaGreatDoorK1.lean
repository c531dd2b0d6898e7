/-
  What the proof stands on, part 1: the logic of walks, the walks through the functions, the plain laws. Conditions: as each theorem says. (Merged and shortened by a program.)
-/
import Derived.WalkKit
import Derived.Defers
import Derived.Orders
import Derived.Lib.ConvBytes
import Derived.Laws.BytesString
import Derived.Lib.Builder
import Derived.Lib.UnsafeStr
import Derived.Laws.Externs
import Derived.MapKept
import Derived.ChangeReads
import Derived.ProofKit
import Derived.SizedLaws
import Derived.Recover
import Derived.Test.YthopmddkpdehiaaGreatDoorProg
import Derived.KernelRfl
import Derived.Lib.Index
import Derived.Below
set_option linter.unusedVariables false
set_option linter.unusedSimpArgs false
set_option maxRecDepth 4000
set_option maxHeartbeats 1000000
namespace Go
structure Wq (q:Prop):Prop where
 w:q
theorem bV{p:Prop}(h:p:=by assumption):p:=h
theorem bB{p:Prop}(h:p:=by first|exact .here|exact .there .here|exact .there (.there .here)|exact .there (.there (.there .here))|exact .there (.there (.there (.there .here)))|exact .there (.there (.there (.there (.there .here))))|exact .there (.there (.there (.there (.there (.there .here)))))|exact .there (.there (.there (.there (.there (.there (.there .here))))))|exact .there (.there (.there (.there (.there (.there (.there (.there .here)))))))):p:=h
theorem bO{p:Prop}(h:p:=by exact fun _ h=>h):p:=h
theorem b0{p:Prop}(h:p:=by kernel_rfl):p:=h
theorem bM{p:Prop}(h:p:=by first|exact aG3 rfl|exact aAJ rfl|exact aAI rfl):p:=h
theorem aH{p:Prop}(h:p:=by omega):p:=h
theorem cK{p:Prop}(h:p:=by first|rfl|assumption):p:=h
theorem aN{p:Prop}(h:p:=by first|exact .own .here|exact .own (.there .here)|exact .own (.there (.there .here))|exact .own (.there (.there (.there .here)))|exact .own (.there (.there (.there (.there .here))))|exact .own (.there (.there (.there (.there (.there .here)))))|exact .own (.there (.there (.there (.there (.there (.there .here))))))|exact .own (.there (.there (.there (.there (.there (.there (.there .here)))))))|exact .own (.there (.there (.there (.there (.there (.there (.there (.there .here))))))))|exact .known (by assumption)):p:=h
theorem gAA{p:Prop}(h:p:=by exact bT r2 pv2 cur es2 c2 ⟨(by cases r2 with|none=>(first|(rw[hln rfl,show v.length+1 - e=0 from by omega];rfl)|(simp at h66))|some q=>exact(hls q rfl).1),fun qs h=>(hls qs h).2,hlt,hld,hlw⟩ (.cons 2 rfl (.cons 3 rfl (.cons 11 rfl (.cons 14 rfl (.cons 15 rfl .nil))))) rfl bO):p:=h
theorem gAB{p:Prop}(h:p:=by refine fU fun K5 le5 hK5=>?_;refine eD (dU (m:=m) (hv:=hv) (pv:=v90) (nm:=nm) (s:={s with parts:=x::(glob x y o.oct).getD []})) ?_;refine aO (.cons .here (.cons (.there .here) (.cons (.there .here) (.cons (.there .here) .nil)))) ?_;subst h85;exact bU ⟨(glob x y o.oct).isSome,K5,v90,{s with parts:=x::(glob x y o.oct).getD []}⟩ ⟨Hl.le_trans (Hl.le_trans hle3 le4) le5,wF h70 g80,hK5⟩ (.cons 0 rfl (.cons 4 rfl (.cons 6 rfl (.cons 7 rfl (.cons 9 rfl (.cons 12 rfl (.cons 41 rfl (.cons 42 rfl (.cons 43 rfl (.cons 47 rfl (.cons 48 rfl (.cons 49 rfl .nil)))))))))))) rfl (fun _ h=>h)):p:=h
theorem gAC{p:Prop}(h:p:=by exact bT none pv ps es c ⟨lX hc hjl aH aH,(fun qs h=>by cases h),(fun _=>⟨List.take_length,Nat.le_refl _⟩),hes,(fun q hq=>.inl hq)⟩ (.cons 2 rfl (.cons 3 rfl (.cons 11 rfl (.cons 14 rfl (.cons 15 rfl .nil))))) rfl bO):p:=h
theorem gAD{p:Prop}(h:p:=by refine eD (dU (m:=m) (hv:=hv) (pv:=pv) (nm:=nm) (s:=s)) ?_;refine aO (.cons .here (.cons (.there .here) (.cons (.there .here) (.cons (.there .here) .nil)))) ?_;exact bU ⟨(glob x y o.oct).isSome,K4,pv,s⟩ ⟨Hl.le_trans hle3 le4,by first|exact aA4 h70 g80|(subst h85;exact aA5 h70),hpv.mono (Hl.le_trans hle3 le4)⟩ (.cons 0 rfl (.cons 4 rfl (.cons 6 rfl (.cons 7 rfl (.cons 9 rfl (.cons 12 rfl (.cons 41 rfl (.cons 42 rfl (.cons 43 rfl (.cons 47 rfl (.cons 48 rfl (.cons 49 rfl .nil)))))))))))) rfl (fun _ h=>h)):p:=h
theorem gAE{p:Prop}(h:p:=by rw[show ((i:Int)+(2+Lib.index (s.drop (min (i+2) s.length)) [42,47]+2))=((i+2+(Lib.index (s.drop (min (i+2) s.length)) [42,47]).toNat+2:Nat):Int)from by omega];refine cG (i+2+(Lib.index (s.drop (min (i+2) s.length)) [42,47]).toNat+2) ⟨by omega,by omega,f - 1,by omega,by rw[hi4,jN hc aH aH aH];congr 1;omega⟩ aH (.cons 0 rfl .nil) rfl (fun _ h=>h)):p:=h
theorem gAF{p:Prop}(h:p:=by refine aO (.cons (.there .here) (.cons .here (.cons .here (.cons .here .nil)))) ?_;exact bU ⟨decide (0≤Lib.index (eF o.oct x) (eF o.oct y)),K3,pv,s⟩ ⟨hle3,wE h64,hpv.mono hle3⟩ (.cons 0 rfl (.cons 4 rfl (.cons 6 rfl (.cons 7 rfl (.cons 9 rfl (.cons 12 rfl (.cons 41 rfl (.cons 42 rfl (.cons 43 rfl (.cons 47 rfl (.cons 48 rfl (.cons 49 rfl .nil)))))))))))) rfl (fun _ h=>h)):p:=h
theorem gAG{p:Prop}(h:p:=by refine aO (.cons (.there .here) (.cons .here (.cons .here (.cons .here .nil)))) ?_;exact bU ⟨decide (eF o.oct x=eF o.oct y),K3,pv,s⟩ ⟨hle3,aA3 h55,hpv.mono hle3⟩ (.cons 0 rfl (.cons 4 rfl (.cons 6 rfl (.cons 7 rfl (.cons 9 rfl (.cons 12 rfl (.cons 41 rfl (.cons 42 rfl (.cons 43 rfl (.cons 47 rfl (.cons 48 rfl (.cons 49 rfl .nil)))))))))))) rfl (fun _ h=>h)):p:=h
theorem gAH{p:Prop}(h:p:=by have hh:=pT hc aH;refine cG (i+((s.drop i).takeWhile fun c=>decide (¬c.toNat=10)).length) ⟨by omega,by omega,f - 1,by omega,by rw[hi4,mR hc aH];congr 1;omega⟩ aH (.cons 0 rfl .nil) rfl (fun _ h=>h)):p:=h
theorem gAI{p:Prop}(h:p:=by refine aO (.cons (.there (.there .here)) (.cons (.there (.there .here)) (.cons (.there (.there .here)) (.cons (.there (.there .here)) (.cons .here (.cons (.there .here) .nil)))))) ?_;refine eD (dU (s:=s)) ?_;exact cG ⟨i+1,v68⟩ (by (show i+1≤o.a.length);omega) (by (show o.a.length - (i+1) < o.a.length - i);omega) (.cons 0 rfl (.cons 5 rfl (.cons 39 rfl (.cons 40 rfl (.cons 41 rfl .nil))))) rfl (by dsimp only;rw[jK _ hx,aEV h47 h58];exact fun _ h=>h)):p:=h
theorem gAJ{p:Prop}(h:p:=by refine aO (.cons (.there (.there .here)) (.cons (.there (.there .here)) (.cons (.there (.there .here)) (.cons (.there (.there .here)) (.cons .here (.cons (.there .here) .nil)))))) ?_;refine eD (dU (s:=s)) ?_;exact cG ⟨i+1,v57⟩ (by (show i+1≤o.a.length);omega) (by (show o.a.length - (i+1) < o.a.length - i);omega) (.cons 0 rfl (.cons 5 rfl (.cons 39 rfl (.cons 40 rfl (.cons 41 rfl .nil))))) rfl (by dsimp only;rw[jK _ hx,aET h47];exact fun _ h=>h)):p:=h
theorem gAK{p:Prop}(h:p:=by refine aO (.cons (.there (.there .here)) (.cons .here (.cons (.there (.there .here)) (.cons (.there (.there .here)) (.cons .here (.cons .here .nil)))))) ?_;exact bU _ ⟨jA (hs xa (List.mem_of_getElem? hxa)),by rw[m8 hcc,aEF h35 hxa]⟩ (.cons 0 rfl (.cons 4 rfl (.cons 6 rfl .nil))) rfl bO):p:=h
theorem gAL{p:Prop}(h:p:=by refine aO (.cons .here (.cons .here (.cons (.there .here) (.cons (.there .here) (.cons (.there .here) (.cons .here .nil)))))) ?_;exact bU [] ⟨by simp,by rw[m8 hcc,aEE (Classical.not_not.1 h35)]⟩ (.cons 0 rfl (.cons 4 rfl (.cons 6 rfl .nil))) rfl bO):p:=h
theorem gAM{p:Prop}(h:p:=by refine aO (.cons (.there (.there (.there (.there (.there (.there (.there .here))))))) (.cons (.there (.there (.there (.there (.there (.there .here)))))) (.cons .here .nil))) ?_;exact iQ rfl rfl rfl hle0 (by rw[hx,if_pos h77]) aH):p:=h
theorem gAN{p:Prop}(h:p:=by refine aO (.cons (.there .here) (.cons .here .nil)) ?_;exact bU _ (Hl.le_trans le15 le16) (.cons 1 rfl (.cons 5 rfl (.cons 7 rfl (.cons 8 rfl (.cons 9 rfl .nil))))) rfl (by simp only[r8,hzi,if_true,if_false,Bool.false_eq_true,List.flatten_cons,List.flatten_nil,List.append_nil,List.append_assoc];exact fun _ h=>h)):p:=h
theorem gAO{p:Prop}(h:p:=by refine aO (.cons (.there (.there (.there (.there (.there (.there .here)))))) (.cons (.there (.there (.there (.there (.there .here))))) (.cons .here .nil))) ?_;exact iQ rfl rfl rfl hle0 (by rw[hx,if_pos h77]) aH):p:=h
theorem gAP{p:Prop}(h:p:=by refine eD (dU (s:=s)) ?_;exact cG ⟨i+1,v⟩ (by (show i+1≤o.a.length);omega) (by (show o.a.length - (i+1) < o.a.length - i);omega) (.cons 0 rfl (.cons 5 rfl (.cons 39 rfl (.cons 40 rfl (.cons 41 rfl .nil))))) rfl (by dsimp only;rw[jK _ hx,aEU h47 h58,List.append_nil];exact fun _ h=>h)):p:=h
theorem gAQ{p:Prop}(h:p:=by refine dQ ((s2.drop i).drop 1) (acc++s2.take i++[36]) ⟨by omega,by rw[List.length_append,List.length_append];simp only[List.length_singleton];omega,f2 - 1,by omega,by rw[hx,hey,if_neg hcc,←hf2]⟩ aH (.cons 0 rfl (.cons 1 rfl (.cons 5 rfl .nil))) rfl (fun _ h=>h)):p:=h
theorem gAR{p:Prop}(h:p:=by refine aO (.cons (.there .here) (.cons .here .nil)) ?_;exact bU _ ⟨by assumption,by omega⟩ (.cons 1 rfl (.cons 2 rfl .nil)) rfl (by rw[show k=4 by omega];exact fun _ h=>h)):p:=h
theorem gAS{p:Prop}(h:p:=by refine aO (.cons (.there .here) (.cons .here .nil)) ?_;exact bU _ ⟨by assumption,by omega⟩ (.cons 1 rfl (.cons 2 rfl .nil)) rfl (by rw[show k=3 by omega];exact fun _ h=>h)):p:=h
theorem gAT{p:Prop}(h:p:=by refine aO (.cons (.there .here) (.cons .here .nil)) ?_;exact bU _ ⟨by assumption,by omega⟩ (.cons 1 rfl (.cons 2 rfl .nil)) rfl (by rw[show k=2 by omega];exact fun _ h=>h)):p:=h
theorem gAU{p:Prop}(h:p:=by simp only[RT,hx,eM,iA,if_neg gc,if_neg gd];exact⟨_,rfl,⟨_,_,rfl,us,sv,hrp.mono leS,hS,rfl⟩,rfl⟩):p:=h
theorem gAV{p:Prop}(h:p:=by refine aO (.cons (.there (.there (.there (.there .here)))) (.cons .here (.cons .here (.cons .here (.cons .here .nil))))) ?_;exact bU ⟨v,K⟩ (Hl.le_refl _) (.cons 5 rfl .nil) rfl (by rw[←hfin];exact fun h hh=>eC (fun h hh=>dU (s:=s) h hh) hh)):p:=h
theorem gAW{p:Prop}(h:p:=by refine dQ ((s2.drop i).drop (e.toNat+1)) (acc++s2.take i++hd.1) ⟨by omega,by rw[List.length_append,List.length_append];omega,f2 - 1,by omega,by rw[hx,hey,if_pos hcc,←hf2]⟩ aH (.cons 0 rfl (.cons 1 rfl (.cons 5 rfl .nil))) rfl (fun _ h=>h)):p:=h
theorem gAX{p:Prop}(h:p:=by refine aO (.cons (.there .here) (.cons .here .nil)) ?_;exact bU _ le15 (.cons 1 rfl (.cons 5 rfl (.cons 7 rfl (.cons 8 rfl (.cons 9 rfl .nil))))) rfl (by simp only[r8,List.flatten_cons,List.flatten_nil,List.append_nil];exact fun _ h=>h)):p:=h
theorem gAY{p:Prop}(h:p:=by refine aO (by rw[List.append_nil];exact tR M2 _) ?_;exact cG ⟨i+1,K2,M2⟩ ⟨by (show i+1≤m.hs.length);omega,Hl.le_trans hle le2,by (show J (gQ m name (i+1)) K2 M2);rw[kU hx,if_pos g22];rcases hR with ⟨_,h⟩|⟨h,_⟩;exact h;(exfalso;subst h;simp at h28)⟩ (by (show m.hs.length - (i+1) < m.hs.length - i);omega) (.cons 0 rfl (.cons 2 rfl (.cons 11 rfl (.cons 12 rfl (.cons 13 rfl .nil))))) rfl (fun _ h=>h)):p:=h
theorem gAZ{p:Prop}(h:p:=by refine aO (.cons (.there .here) (.cons .here .nil)) ?_;exact bU _ le25 (.cons 1 rfl (.cons 2 rfl (.cons 5 rfl (.cons 15 rfl (.cons 16 rfl (.cons 17 rfl .nil)))))) rfl (by rw[show sepB i=[44,32]from by obtain⟨j,rfl⟩:∃j,i=j+1:=⟨i - 1,by omega⟩;rfl];simp only[List.flatten_cons,List.flatten_nil,List.append_nil];exact fun _ h=>h)):p:=h
theorem gA0{p:Prop}(h:p:=by refine aO (rG L1 _) ?_;exact cG ⟨i+1,_,L1⟩ ⟨by (show i+1≤m.hs.length);omega,hle,by (show J (gQ m name (i+1)) _ L1);rw[kU hx,if_neg g22];exact hJ⟩ (by (show m.hs.length - (i+1) < m.hs.length - i);omega) (.cons 0 rfl (.cons 2 rfl (.cons 11 rfl (.cons 12 rfl (.cons 13 rfl .nil))))) rfl (fun _ h=>h)):p:=h
theorem gA1{p:Prop}(h:p:=by refine aO (.cons (.there .here) .nil) ?_;exact bU ⟨.slice none 0 0,K⟩ (Hl.le_refl _) (.cons 5 rfl .nil) rfl (by rw[aGA h12 h18 h36];exact eT (bC 9))):p:=h
theorem gA2{p:Prop}(h:p:=by refine aO (.cons .here (.cons (.there .here) .nil)) ?_;exact bU ⟨v,K1⟩ hle (.cons 5 rfl .nil) rfl (by rw[←hfin];exact fun _ h=>h)):p:=h
theorem gA3{p:Prop}(h:p:=by refine aO (.cons (.there (.there .here)) (.cons .here .nil)) ?_;exact bU _ (Hl.le_refl _) (.cons 1 rfl (.cons 2 rfl .nil)) rfl (by rw[if_neg (by rw[h18];simp)];simp only[List.flatten_cons,List.flatten_nil,List.append_nil];exact fun _ h=>h)):p:=h
theorem gA4{p:Prop}(h:p:=by exact cG (i+1) ⟨by omega,fun j d hj hd=>by rcases Nat.lt_or_ge j i with h|h;exact hno j d h hd;(obtain rfl:j=i:=by omega);rw[hc]at hd;cases hd;exact hbl⟩ aH (.cons 0 rfl (.cons 1 rfl (.cons 45 rfl .nil))) rfl (fun _ h=>h)):p:=h
theorem gA5{p:Prop}(h:p:=by refine aO (.cons (.there (.there .here)) (.cons .here .nil)) ?_;exact bU K3 le3 (.cons 1 rfl (.cons 2 rfl .nil)) rfl (by rw[if_pos h18];simp only[List.flatten_cons,List.flatten_nil,List.append_nil];exact fun _ h=>h)):p:=h
theorem gA6{p:Prop}(h:p:=by exact bU () trivial (.cons 0 rfl (.cons 1 rfl (.cons 4 rfl (.cons 5 (by rw[hel];exact congrArg (fun x:Nat=>some (i64 (x:Int))) (congrArg (s.length+ ·) (aGW s).symm)) (.cons 6 rfl .nil))))) rfl (fun _ h=>h)):p:=h
theorem gA7{p:Prop}(h:p:=by symm;rw[Bool.eq_false_iff];intro hbx;exact absurd ((g0 s).1 hbx).2.1 bV):p:=h
theorem gA8{p:Prop}(h:p:=by exact bU _ (Hl.le_trans le2 le18) (.cons 0 rfl (.cons 3 rfl .nil)) rfl (by rw[if_neg hne];simp only[List.flatten_cons,List.flatten_nil,List.append_nil,List.nil_append,List.append_assoc];exact fun _ h=>h)):p:=h
theorem gA9{p:Prop}(h:p:=by rw[if_neg h93,if_neg hnc,if_neg aH];exact⟨_,rfl,rfl,pv,hpv,rfl⟩):p:=h
theorem gBA{p:Prop}(h:p:=by rw[if_pos ⟨by omega,h23⟩,hr];exact⟨_,rfl,by rw[decide_eq_true h23],rfl,rfl⟩):p:=h
theorem gBB{p:Prop}(h:p:=by rw[if_neg (fun h=>h23 h.2)];exact⟨_,rfl,by rw[decide_eq_false h23],rfl,rfl⟩):p:=h
theorem gBC{p:Prop}(h:p:=by rw[oJ aH,hp];exact⟨_,rfl,rfl,rfl,rfl⟩):p:=h
theorem gBD{p:Prop}(h:p:=by rw[oK hno];exact⟨_,rfl,rfl,rfl,rfl⟩):p:=h
theorem gBE{p:Prop}(h:p:=by rw[if_pos h93];exact⟨_,rfl,rfl,pv,hpv,rfl⟩):p:=h
theorem gBF{p:Prop}(h:p:=by rw[hok,if_neg h37,if_neg h41,if_pos h45];done):p:=h
theorem gBG{p:Prop}(h:p:=by rw[hok,if_neg h37,if_neg h41,if_neg h45];done):p:=h
theorem gBH{p:Prop}(h:p:=by exact bU () trivial (.cons 0 rfl (.cons 1 rfl (.cons 4 rfl (.cons 5 (by rw[hel];rfl) (.cons 6 rfl .nil))))) rfl (fun _ h=>h)):p:=h
theorem gBI{p:Prop}(h:p:=by exact bU _ (Hl.le_refl _) (.cons 0 rfl (.cons 3 rfl .nil)) rfl (by rw[if_pos hee];exact fun _ h=>h)):p:=h
theorem gBJ{p:Prop}(h:p:=by rw[hok,if_neg h37,if_pos h41];done):p:=h
theorem gBK{p:Prop}(h:p:=by first|(simp[Value.oneCell'];done)|exact fun c hc=>El.one _ _ c hc):p:=h
theorem gBL{p:Prop}(h:p:=by unfold actB;rw[if_neg (by first|omega|(rintro⟨_,hq⟩;simp[hq]at h43)),if_neg (by first|omega|(rintro⟨_,hq⟩;simp[hq]at h57))]):p:=h
theorem gBM{p:Prop}(h:p:=by rintro _ _ ⟨_,h,_⟩;cases h):p:=h
theorem gBN{p:Prop}(h:p:=by first|exact dP rfl|exact dZ rfl):p:=h
theorem gBO{p:Prop}(h:p:=by decide+kernel):p:=h
theorem gBP{p:Prop}(h:p:=by rw[hok,hB];unfold Mach.actV;rw[if_pos h71,gB]):p:=h
theorem gBQ{p:Prop}(h:p:=by first|(simp;omega)|omega):p:=h
theorem gBR{p:Prop}(h:p:=by first|assumption|omega):p:=h
theorem gBS{p:Prop}(h:p:=by simpa using e):p:=h
theorem gBT{p:Prop}(h:p:=by rw[hok,hB];unfold Mach.actV;rw[if_neg h71]):p:=h
theorem gBU{p:Prop}(h:p:=by intro j hj;simp):p:=h
theorem gBV{p:Prop}(h:p:=by simp;omega):p:=h
theorem gBW{p:Prop}(h:p:=by rintro(⟨a,b⟩|⟨a,b⟩) <;> first|omega|(simp_all;done)):p:=h
theorem gBX{p:Prop}(h:p:=by first|exact Hl.le_trans le2 (Hl.le_trans leK6 leS)|exact Hl.le_trans le2 leS):p:=h
theorem gBY{p:Prop}(h:p:=by unfold cP; simp only [decide_eq_false_iff_not]; omega):p:=h
theorem gBZ{p:Prop}(h:p:=by unfold cP; simp only [decide_eq_true_eq]; omega):p:=h
theorem gB0{p:Prop}(h:p:=by rw[eA];exact fun _ h=>h):p:=h
theorem gB1{p:Prop}(h:p:=by unfold jS;simp only[Bool.or_eq_true,Bool.and_eq_true,decide_eq_true_eq];first|(left;left;simpa using g16;done)|(left;right;omega)|(right;omega)):p:=h
theorem gB2{p:Prop}(h:p:=by unfold cP; rw [decide_eq_decide]; omega):p:=h
theorem gB3{p:Prop}(h:p:=by rw[Bool.eq_iff_iff];simp;omega):p:=h
theorem gB4{p:Prop}(h:p:=by (unfold numA;rw[if_pos aH])):p:=h
theorem gB5{p:Prop}(h:p:=by intro h;rw[if_pos h]at hu;cases hu):p:=h
theorem gB6{p:Prop}(h:p:=by first | exact (fun h => (show ¬ all = tn from by simpa using h59) h.1) | exact (fun h => by have := hnil.1 h.2; omega)):p:=h
theorem gB7{p:Prop}(h:p:=by rw[hx,if_neg (by rw[h77];decide)]):p:=h
theorem gB8{p:Prop}(h:p:=by rw[hb];rfl):p:=h
theorem gB9{p:Prop}(h:p:=by simp only[List.length_singleton];omega):p:=h
theorem gCA{p:Prop}(h:p:=by unfold actB;rw[if_neg aH,if_pos ⟨g61,by simpa using h57⟩]):p:=h
theorem gCB{p:Prop}(h:p:=by rintro⟨x,hx,hh⟩;obtain⟨j,hj⟩:=List.getElem?_of_mem hx;exact hi1 j x (by rcases Nat.lt_or_ge j s.acts.length with h|h;omega;(rw[List.getElem?_eq_none h]at hj;cases hj)) hj hh):p:=h
theorem gCC{p:Prop}(h:p:=by split <;> omega):p:=h
theorem gCD{p:Prop}(h:p:=by first|omega|(simp;done)|(simp;omega)):p:=h
theorem gCE{p:Prop}(h:p:=by rw[List.length_append];omega):p:=h
theorem gCF{p:Prop}(h:p:=by first|exact .inl ⟨by omega,by assumption⟩|exact .inr ⟨by omega,by omega⟩):p:=h
theorem gCG{p:Prop}(h:p:=by (unfold numN; rw [if_neg aH, if_pos aH])):p:=h
theorem gCH{p:Prop}(h:p:=by (unfold numN; rw [if_neg aH, if_neg aH])):p:=h
theorem gCI{p:Prop}(h:p:=by rcases Nat.le_total (acc++s2).length 1024 with h|h;(rw[Nat.min_eq_left h,List.take_length,List.take_of_length_le h]);(rw[Nat.min_eq_right h])):p:=h
theorem gCJ{p:Prop}(h:p:=by rw[eN];rfl):p:=h
theorem gCK{p:Prop}(h:p:=by rw[decide_eq_decide];omega):p:=h
theorem gCL{p:Prop}(h:p:=by rw[List.length_drop];omega):p:=h
theorem gCM{p:Prop}(h:p:=by rw[h19];rfl):p:=h
theorem gCN{p:Prop}(h:p:=by (unfold numN; rw [if_pos aH])):p:=h
theorem gCO{p:Prop}(h:p:=by simpa using hx):p:=h
theorem gCP{p:Prop}(h:p:=by (unfold numA;rw[if_neg aH])):p:=h
theorem gCQ{p:Prop}(h:p:=by rw[if_neg (by rw[h7];simp)];simp only[List.flatten_cons,List.flatten_nil,List.append_nil];exact fun _ h=>h):p:=h
theorem gCR{p:Prop}(h:p:=by have:=congrArg List.length h2;simp at this;exact List.length_eq_zero_iff.1 (by simpa using this)):p:=h
theorem gCS{p:Prop}(h:p:=by rw[if_pos h7];simp only[List.flatten_cons,List.flatten_nil,List.append_nil];exact fun _ h=>h):p:=h
theorem gCT{p:Prop}(h:p:=by simp only[cnt]at hb;simp;omega):p:=h
theorem gCU{p:Prop}(h:p:=by simp only;omega):p:=h
theorem gCV{p:Prop}(h:p:=by rw[k.len];exact Nat.le_refl _):p:=h
theorem gCW{p:Prop}(h:p:=by have:olds.length=4:=rfl;omega):p:=h
theorem gCX{p:Prop}(h:p:=by rw[show sepB i=[]from by rw[show i=0 by omega];rfl,List.append_nil];exact fun _ h=>h):p:=h
theorem gCY{p:Prop}(h:p:=by have:=hinv.acts;simp;omega):p:=h
theorem gCZ{p:Prop}(h:p:=by simp only[hx,reqF,f9,if_neg gc,hbb,if_neg g84,if_true,if_false,↓reduceIte]):p:=h
theorem gC0{p:Prop}(h:p:=by rw[List.length_append,hvl];simp;omega):p:=h
theorem gC1{p:Prop}(h:p:=by simpa using hk):p:=h
theorem gC2{p:Prop}(h:p:=by intro x hx;obtain⟨y,hy,rfl⟩:=List.mem_map.1 hx;exact jA (hs y hy)):p:=h
end Go
section
namespace Go.SL
abbrev Hl:=Nat→Option Obj
def Hl.emp:Hl:=fun _=>none
def Hl.one(b:Nat)(o:Obj):Hl:=fun x=>if x=b then some o else none
def Hl.join(h k:Hl):Hl:=fun x=>(h x).or (k x)
def Hl.dj(h k:Hl):Prop:=∀x,h x=none∨k x=none
def Hl.le(h k:Hl):Prop:=∀x o,h x=some o→k x=some o
theorem Hl.le_refl(h:Hl):h.le h:=fun _ _ e=>e
theorem Hl.le_trans{a b c:Hl}(h:a.le b)(k:b.le c):a.le c:=fun x o e=>k x o (h x o e)
theorem Hl.dj.symm{a b:Hl}(h:a.dj b):b.dj a:=fun x=>(h x).symm
theorem Hl.dj_join{a b c:Hl}:a.dj (b.join c)↔a.dj b∧a.dj c:=by
 constructor
 ·intro h;refine⟨fun x=>?_,fun x=>?_⟩ <;> rcases h x with h|h <;> first|exact .inl h|(simp[Hl.join]at h;simp[h])
 ·rintro⟨h1,h2⟩ x;rcases h1 x with h|h
  ·exact .inl h
  ·rcases h2 x with k|k
   ·exact .inl k
   ·exact .inr (by simp[Hl.join,h,k])
theorem Hl.join_dj{a b c:Hl}:(b.join c).dj a↔b.dj a∧c.dj a:=
 ⟨fun h=>let ⟨x,y⟩:=Hl.dj_join.1 h.symm;⟨x.symm,y.symm⟩,fun⟨x,y⟩=>(Hl.dj_join.2 ⟨x.symm,y.symm⟩).symm⟩
theorem Hl.dj_emp(a:Hl):a.dj .emp:=fun _=>.inr rfl
theorem Hl.le_join_left{a b c:Hl}:(a.join b).le c→a.le c:=fun h x o e=>h x o (by simp[Hl.join,e])
theorem Hl.le_join_right {a b c : Hl} (hd : a.dj b) : (a.join b).le c → b.le c := fun h x o e => h x o (by
 rcases hd x with k|k
 ·simp[Hl.join,k,e]
 ·rw[k]at e;cases e)
theorem Hl.join_le{a b c:Hl}(h:a.le c)(k:b.le c):(a.join b).le c:=by
 intro x o e;unfold Hl.join at e;cases ha:a x with
 |some y=>rw[ha]at e;simp at e;subst e;exact h x _ ha
 |none=>rw[ha]at e;simp at e;exact k x o e
theorem Hl.join_assoc(a b c:Hl):(a.join b).join c=a.join (b.join c):=by
 funext x;simp[Hl.join,Option.or_assoc]
theorem Hl.join_emp(a:Hl):a.join .emp=a:=by funext x;simp[Hl.join,Hl.emp]
theorem Hl.emp_join(a:Hl):Hl.emp.join a=a:=by funext x;simp[Hl.join,Hl.emp]
theorem Hl.join_comm{a b:Hl}(h:a.dj b):a.join b=b.join a:=by
 funext x
 rcases h x with k|k
 ·simp[Hl.join,k]
 ·cases ha:a x <;> simp[Hl.join,k,ha]
abbrev Asn:=Hl→Prop
def pt(b:Nat)(o:Obj):Asn:=fun h=>h=Hl.one b o
def Sat:List Asn→Hl→Prop
 | [],h=>h=.emp
 |A::L,h=>∃h1 h2,A h1∧Sat L h2∧h1.dj h2∧h=h1.join h2
theorem fH{L M:List Asn}{h:Hl}:Sat (L++M) h↔∃h1 h2,Sat L h1∧Sat M h2∧h1.dj h2∧h=h1.join h2:=by
 induction L generalizing h with
 |nil=>
  constructor
  ·intro k;exact⟨.emp,h,rfl,k,(Hl.dj_emp h).symm,(Hl.emp_join h).symm⟩
  ·rintro⟨h1,h2,rfl,k,_,rfl⟩;simpa[Hl.emp_join]using k
 |cons A L ih=>
  constructor
  ·rintro⟨a,r,ha,hr,hd,rfl⟩;obtain⟨x,y,hx,hy,hd2,rfl⟩:=ih.1 hr;have:=Hl.dj_join.1 hd;exact⟨a.join x,y,⟨a,x,ha,hx,this.1,rfl⟩,hy,Hl.join_dj.2 ⟨this.2,hd2⟩,(Hl.join_assoc _ _ _).symm⟩
  ·rintro⟨_,y,⟨a,x,ha,hx,hax,rfl⟩,hy,hd,rfl⟩;have:=Hl.join_dj.1 hd;exact⟨a,x.join y,ha,ih.2 ⟨x,y,hx,hy,this.2,rfl⟩,Hl.dj_join.2 ⟨hax,this.1⟩,Hl.join_assoc _ _ _⟩
theorem gA{A B:Asn}{L:List Asn}{h:Hl}:Sat (A::B::L) h→Sat (B::A::L) h:=by
 rintro⟨a,_,ha,⟨b,l,hb,hl,hbl,rfl⟩,hd,rfl⟩;have:=Hl.dj_join.1 hd;refine⟨b,a.join l,hb,⟨a,l,ha,hl,this.2,rfl⟩,Hl.dj_join.2 ⟨this.1.symm,hbl⟩,?_⟩
 rw[←Hl.join_assoc,Hl.join_comm this.1,Hl.join_assoc]
theorem eC{A:Asn}{L M:List Asn}(k:∀h,Sat L h→Sat M h){h:Hl}:Sat (A::L) h→Sat (A::M) h:=
 fun⟨a,l,ha,hl,hd,e⟩=>⟨a,l,ha,k _ hl,hd,e⟩
inductive Fnd (A A':Asn):List Asn→List Asn→Prop where
 |here {L}:Fnd A A' (A::L) (A'::L)
 |there {B L L'}:Fnd A A' L L'→Fnd A A' (B::L) (B::L')
theorem Fnd.split{A A':Asn}{L L':List Asn}(f:Fnd A A' L L'):∃M,(∀h,Sat L h→Sat (A::M) h)∧(∀h,Sat (A'::M) h→Sat L' h):=by
 induction f with
 |here=>exact⟨_,fun _ h=>h,fun _ h=>h⟩
 | @there B L L' f ih=>
  obtain⟨M,h1,h2⟩:=ih;exact⟨B::M,fun h k=>gA (eC h1 k),fun h k=>eC h2 (gA k)⟩
inductive Hs (A:Asn):List Asn→Prop where
 |here {L}:Hs A (A::L)
 |there {B L}:Hs A L→Hs A (B::L)
theorem Hs.fnd{A:Asn}{L:List Asn}(f:Hs A L)(A':Asn):∃L',Fnd A A' L L':=by
 induction f with
 |here=>exact⟨_,.here⟩
 |there _ ih=>obtain⟨L',h⟩:=ih;exact⟨_,.there h⟩
theorem Hs.split{A:Asn}{L:List Asn}(f:Hs A L):∃M,∀h,Sat L h→Sat (A::M) h:=
 let ⟨_,g⟩:=f.fnd A;let ⟨M,h1,_⟩:=g.split;⟨M,h1⟩
inductive Tk (A:Asn):List Asn→List Asn→Prop where
 |here {L}:Tk A (A::L) L
 |there {B L M}:Tk A L M→Tk A (B::L) (B::M)
theorem Tk.sat{A:Asn}{L M:List Asn}(f:Tk A L M):∀h,Sat L h→Sat (A::M) h:=by
 induction f with
 |here=>exact fun _ h=>h
 |there f ih=>exact fun h k=>gA (eC ih k)
inductive Tks:List Asn→List Asn→List Asn→Prop where
 |nil {L}:Tks [] L L
 |cons {A As L M N}:Tk A L M→Tks As M N→Tks (A::As) L N
theorem Tks.sat{As L N:List Asn}(f:Tks As L N):∀h,Sat L h→Sat (As++N) h:=by
 induction f with
 |nil=>exact fun _ h=>h
 |cons t _ ih=>exact fun h k=>eC ih (t.sat h k)
def hp(w:World):Hl:=fun b=>w.heap[b]?
structure In (w0:World) (F K:Hl) (L:List Asn) (w:World):Prop where
 os:w.os=w0.os
 tape:w.tape=w0.tape
 output:w.output=w0.output
 size:w0.heap.size≤w.heap.size
 rep:∃h,Sat L h∧F.dj K∧F.dj h∧K.dj h∧F.le (hp w)∧K.le (hp w)∧h.le (hp w)
theorem In.imp{w0 w:World}{F K:Hl}{L M:List Asn}(k:∀h,Sat L h→Sat M h)(i:In w0 F K L w):In w0 F K M w:=
 let ⟨h,hs,r⟩:=i.rep
 ⟨i.os,i.tape,i.output,i.size,h,k h hs,r⟩
theorem In.drop{w0 w:World}{F K:Hl}{A:Asn}{L:List Asn}(i:In w0 F K (A::L) w):In w0 F K L w:=by
 obtain⟨h,⟨a,l,ha,hl,hal,rfl⟩,d1,d2,d3,l1,l2,l3⟩:=i.rep;exact⟨i.os,i.tape,i.output,i.size,l,hl,d1,(Hl.dj_join.1 d2).2,(Hl.dj_join.1 d3).2,l1,l2,Hl.le_join_right hal l3⟩
theorem In.known{w0 w:World}{F K:Hl}{L:List Asn}(i:In w0 F K L w){b:Nat}{o:Obj}(h:K b=some o):w.heap[b]?=some o:=by
 obtain⟨_,_,_,_,_,_,l2,_⟩:=i.rep;exact l2 b o h
theorem In.piece{w0 w:World}{F K:Hl}{b:Nat}{o:Obj}{L:List Asn}(i:In w0 F K (pt b o::L) w):w.heap[b]?=some o:=by
 obtain⟨h,⟨a,l,ha,hl,hal,rfl⟩,d1,d2,d3,l1,l2,l3⟩:=i.rep;exact l3 b o (by simp only[pt]at ha;subst ha;simp[Hl.join,Hl.one])
theorem In.mem{w0 w:World}{F K:Hl}{b:Nat}{o:Obj}{A':Asn}{L L':List Asn}(f:Fnd (pt b o) A' L L')(i:In w0 F K L w):w.heap[b]?=some o:=
 let ⟨_,h1,_⟩:=f.split;(i.imp h1).piece
theorem In.settle{w0 w:World}{F K:Hl}{b:Nat}{o:Obj}{L:List Asn}(i:In w0 F K (pt b o::L) w):
  K.le (K.join (Hl.one b o))∧(K.join (Hl.one b o)) b=some o∧In w0 F (K.join (Hl.one b o)) L w:=by
 obtain⟨h,⟨a,l,ha,hl,hal,rfl⟩,d1,d2,d3,l1,l2,l3⟩:=i.rep;simp only[pt]at ha;subst ha
 have hd2:=Hl.dj_join.1 d2;have hd3:=Hl.dj_join.1 d3;have hKb:K b=none:=by rcases hd3.1 b with h|h;exact h;simp[Hl.one]at h
 refine⟨fun x o e=>by simp[Hl.join,e],by simp[Hl.join,hKb,Hl.one],⟨i.os,i.tape,i.output,i.size,l,hl,Hl.dj_join.2 ⟨d1,hd2.1⟩,hd2.2,Hl.join_dj.2 ⟨hd3.2,hal⟩,l1,?_,Hl.le_join_right hal l3⟩⟩
 exact Hl.join_le l2 (Hl.le_join_left l3)
theorem In.drew{w0 w:World}{F K:Hl}{L:List Asn}(i:In w0 F K L w)(n:Nat):In w0 F K L {w with drawn:=n}:=
 ⟨i.os,i.tape,i.output,i.size,i.rep⟩
theorem In.alloc{w0 w:World}{F K:Hl}{L:List Asn}(i:In w0 F K L w)(o:Obj):
  In w0 F K (pt w.heap.size o::L) {w with heap:=w.heap.push o}:=by
 obtain⟨h,hl,d1,d2,d3,l1,l2,l3⟩:=i.rep;have fresh:∀ {k:Hl},k.le (hp w)→k w.heap.size=none:=by
  intro k hk;cases e:k w.heap.size with
  |none=>rfl
  |some o'=>have:=hk _ _ e;simp[hp]at this
 have up:∀ {k:Hl},k.le (hp w)→k.le (hp {w with heap:=w.heap.push o}):=by
  intro k hk x o' e;have:=hk x o' e;simp only[hp]at this ⊢;have hx:x < w.heap.size:=by
   rcases Nat.lt_or_ge x w.heap.size with h|h
   ·exact h
   ·simp[Array.getElem?_eq_none h]at this
  rw[Array.getElem?_push,if_neg aH];exact this
 have djo:∀ {k:Hl},k.le (hp w)→k.dj (Hl.one w.heap.size o):=by
  intro k hk x
  by_cases hx:x=w.heap.size
  ·subst hx;exact .inl (fresh hk)
  ·exact .inr (by simp[Hl.one,hx])
 refine⟨i.os,i.tape,i.output,by simpa using Nat.le_succ_of_le i.size,(Hl.one w.heap.size o).join h,⟨_,h,rfl,hl,(djo l3).symm,rfl⟩,d1,Hl.dj_join.2 ⟨djo l1,d2⟩,Hl.dj_join.2 ⟨djo l2,d3⟩,up l1,up l2,Hl.join_le ?_ (up l3)⟩
 intro x o' e
 by_cases hx:x=w.heap.size
 ·subst hx;simp[Hl.one]at e;subst e;simp[hp]
 ·simp[Hl.one,hx]at e
theorem In.write{w0 w:World}{F K:Hl}{L:List Asn}{b:Nat}{o o':Obj}(i:In w0 F K (pt b o::L) w){H:Array Obj}
  (hs:H.size=w.heap.size) (hb:H[b]?=some o') (ho:∀x,x≠b→H[x]?=w.heap[x]?):
  In w0 F K (pt b o'::L) {w with heap:=H}:=by
 obtain⟨h,⟨a,l,ha,hl,hal,rfl⟩,d1,d2,d3,l1,l2,l3⟩:=i.rep;simp only[pt]at ha;subst ha
 have hd2:=Hl.dj_join.1 d2;have hd3:=Hl.dj_join.1 d3;have no:∀ {k:Hl},k.dj (Hl.one b o)→k b=none:=by
  intro k hk;rcases hk b with h|h;exact h;simp[Hl.one]at h
 have up:∀ {k:Hl},k.le (hp w)→k b=none→k.le (hp {w with heap:=H}):=by
  intro k hk hn x o'' e;have hx:x≠b:=by rintro rfl;rw[hn]at e;cases e
  simp only[hp,ho x hx];exact hk x o'' e
 have djo:∀ {k:Hl},k b=none→k.dj (Hl.one b o'):=by
  intro k hk x
  by_cases hx:x=b
  ·subst hx;exact .inl hk
  ·exact .inr (by simp[Hl.one,hx])
 have nl:l b=none:=no hal.symm;refine⟨i.os,i.tape,i.output,by simpa[hs]using i.size,(Hl.one b o').join l,⟨_,l,rfl,hl,(djo nl).symm,rfl⟩,d1,Hl.dj_join.2 ⟨djo (no hd2.1),hd2.2⟩,Hl.dj_join.2 ⟨djo (no hd3.1),hd3.2⟩,up l1 (no hd2.1),up l2 (no hd3.1),Hl.join_le ?_ (up (Hl.le_join_right hal l3) nl)⟩
 intro x o'' e
 by_cases hx:x=b
 ·subst hx;simp[Hl.one]at e;subst e;simpa[hp]using hb
 ·simp[Hl.one,hx]at e
theorem In.writeAt{w0 w:World}{F K:Hl}{L L':List Asn}{b:Nat}{o o':Obj}(f:Fnd (pt b o) (pt b o') L L')(i:In w0 F K L w){H:Array Obj}
  (hs:H.size=w.heap.size) (hb:H[b]?=some o') (ho:∀x,x≠b→H[x]?=w.heap[x]?):
  In w0 F K L' {w with heap:=H}:=
 let ⟨_,h1,h2⟩:=f.split;((i.imp h1).write hs hb ho).imp h2
theorem In.hide{w0 w:World}{F K:Hl}{L N:List Asn}(i:In w0 F K (L++N) w):
  ∃F',In w F' K L w∧∀ {K':Hl} {L':List Asn} {w':World},In w F' K' L' w'→In w0 F K' (L'++N) w':=by
 obtain⟨h,hs,d1,d2,d3,l1,l2,l3⟩:=i.rep;obtain⟨a,n,ha,hn,han,rfl⟩:=fH.1 hs;have hd2:=Hl.dj_join.1 d2;have hd3:=Hl.dj_join.1 d3;refine⟨F.join n,⟨rfl,rfl,rfl,Nat.le_refl _,a,ha,Hl.join_dj.2 ⟨d1,hd3.2.symm⟩,Hl.join_dj.2 ⟨hd2.1,han.symm⟩,hd3.1,Hl.join_le l1 (Hl.le_join_right han l3),l2,Hl.le_join_left l3⟩,?_⟩
 intro K' L' w' j;obtain⟨h',hs',e1,e2,e3,m1,m2,m3⟩:=j.rep;have x1:=Hl.join_dj.1 e1;have x2:=Hl.join_dj.1 e2;refine⟨j.os.trans i.os,j.tape.trans i.tape,j.output.trans i.output,Nat.le_trans i.size j.size,h'.join n,fH.2 ⟨h',n,hs',hn,x2.2.symm,rfl⟩,x1.1,Hl.dj_join.2 ⟨x2.1,hd2.2⟩,Hl.dj_join.2 ⟨e3,x1.2.symm⟩,Hl.le_join_left m1,m2,Hl.join_le m3 (Hl.le_join_right hd2.2 m1)⟩
end Go.SL
end
section
namespace Go.SL
abbrev Fr:=List (Nat×Value)
def Fr.get:Fr→Nat→Option Value
 | [],_=>none
 |(k,v)::r,j=>bif Nat.beq k j then some v else Fr.get r j
def Fr.ev(fr:Fr):Operand→Option Value
 | .tmp t=>fr.get t
 | .const v=>some v
 | .global g=>some (.pointer (some ⟨g,0,none⟩))
 | .func f=>some (.func (.func f) #[] #[])
def Fr.evs(fr:Fr):List Operand→Option (List Value)
 | []=>some []
 |x::xs=>match fr.ev x,fr.evs xs with|some v,some vs=>some (v::vs)|_,_=>none
structure FrOk (n:Nat) (ds:List Deferred) (fr:Fr) (a:Act):Prop where
 defers:a.defers=ds
 size:a.tmps.size=n
 get:∀k v,fr.get k=some v→a.tmps[k]?=some v
theorem FrOk.ev{n:Nat}{ds:List Deferred}{fr:Fr}{a:Act}(h:FrOk n ds fr a){x:Operand}{v:Value}(e:fr.ev x=some v):a.eval x=v:=by
 cases x <;> simp only[Fr.ev]at e
 case tmp t=>simp[Act.eval,h.get _ _ e]
 all_goals (cases e;rfl)
theorem FrOk.evs{n:Nat}{ds:List Deferred}{fr:Fr}{a:Act}(h:FrOk n ds fr a):∀ {xs:List Operand} {vs:List Value},fr.evs xs=some vs→xs.map a.eval=vs
 | [],vs,e=>by simp only[Fr.evs]at e;cases e;rfl
 |x::xs,vs,e=>by
  simp only[Fr.evs]at e;cases hx:fr.ev x <;> cases hs:fr.evs xs <;> simp[hx,hs]at e
  subst e;simp[h.ev hx,h.evs hs]
theorem beqF{a b:Nat}(h:¬a=b):Nat.beq a b=false:=by
 cases e:Nat.beq a b with
 |false=>rfl
 |true=>exact absurd (Nat.eq_of_beq_eq_true e) h
theorem beqN{a b:Nat}(h:Nat.beq a b=false):¬a=b:=fun e=>by subst e;rw[Nat.beq_refl]at h;cases h
theorem FrOk.put{n:Nat}{ds:List Deferred}{fr:Fr}{a:Act}(h:FrOk n ds fr a){d:Nat}(hd:Nat.blt d n=true)(v:Value):FrOk n ds ((d,v)::fr) (a.put (some d) v):=by
 have hd':d < n:=by simp[Nat.blt]at hd;omega
 refine⟨h.defers,by simp[Act.put,h.size],fun k u e=>?_⟩
 simp only[Fr.get]at e;simp only[Act.put,Array.getElem?_setIfInBounds,h.size]
 by_cases hk:d=k
 ·subst hk;simp at e;subst e;simp[hd']
 ·rw[if_neg hk];have:Nat.beq d k=false:=beqF hk;rw[this]at e;exact h.get _ _ e
inductive Kp (fr:Fr):Fr→Prop where
 |nil:Kp fr []
 |cons (k:Nat) {v:Value} {fr':Fr}:fr.get k=some v→Kp fr fr'→Kp fr ((k,v)::fr')
theorem Kp.get{fr fr':Fr}(h:Kp fr fr'):∀k v,fr'.get k=some v→fr.get k=some v:=by
 induction h with
 |nil=>intro k v e;cases e
 | @cons k v fr' e _ ih=>
  intro j u hj;simp only[Fr.get]at hj
  by_cases hk:k=j
  ·subst hk;simp at hj;subst hj;exact e
  ·have:Nat.beq k j=false:=beqF hk;rw[this]at hj;exact ih _ _ hj
theorem FrOk.keep{n:Nat}{ds:List Deferred}{fr fr':Fr}{a:Act}(h:FrOk n ds fr a)(k:Kp fr fr'):FrOk n ds fr' a:=
 ⟨h.defers,h.size,fun j v e=>h.get j v (k.get j v e)⟩
structure Env where
 P:Program
 n:Nat
 ds:List Deferred
 w0:World
 F:Hl
abbrev Post:=Exit→Act→World→Prop
def T(E:Env)(c:Code)(fr:Fr)(K:Hl)(L:List Asn)(Q:Post):Prop:=
 ∀a w,FrOk E.n E.ds fr a→In E.w0 E.F K L w→c.wp E.P Q a w
def OL(E:Env)(ops:Array Oper)(l:List Oper)(fr:Fr)(K:Hl)(L:List Asn)(Q:Post):Prop:=
 ∀a w,FrOk E.n E.ds fr a→In E.w0 E.F K L w→wpList E.P ops Q l a w
def D(E:Env)(x:Exit)(fr:Fr)(K:Hl)(L:List Asn)(Q:Post):Prop:=
 ∀a w,FrOk E.n E.ds fr a→In E.w0 E.F K L w→Q x a w
def Ev(E:Env)(fr:Fr)(K:Hl)(L:List Asn)(o:Oper)(v:Value):Prop:=
 ∀a w,FrOk E.n E.ds fr a→In E.w0 E.F K L w→(execOp a.eval o).run E.P w=.ok (.value v) w
def Ef(E:Env)(fr:Fr)(K:Hl)(L:List Asn)(o:Oper)(Q:Post)(N:Value→Hl→List Asn→Prop):Prop:=
 ∀a w (k:Act→World→Prop),FrOk E.n E.ds fr a→In E.w0 E.F K L w→
  (∀v K' L' w',N v K' L'→K.le K'→In E.w0 E.F K' L' w'→k (a.put o.dst v) w')→o.wp E.P a w k Q∨(o.asks E.P a w∧LetsOut Q)
def EfS(E:Env)(fr:Fr)(K:Hl)(L:List Asn)(o:Oper)(N:Value→Hl→List Asn→Prop):Prop:=
 ∀a w,FrOk E.n E.ds fr a→In E.w0 E.F K L w→∃u w' K' L',((execOp a.eval o).run E.P w=.ok (.value u) w'∨((execOp a.eval o).run E.P w=.ok .skip w'∧u=undef))∧N u K' L'∧K.le K'∧In E.w0 E.F K' L' w'
theorem aLP{E:Env}{fr:Fr}{K:Hl}{L:List Asn}{o:Oper}{Q:Post}{N:Value→Hl→List Asn→Prop}(h:EfS E fr K L o N):Ef E fr K L o Q N:=by
 intro a w k f i hk;obtain⟨u,w',K',L',hr,hn,le,j⟩:=h a w f i;refine .inl ?_;unfold Oper.wp;rcases hr with hr|⟨hr,rfl⟩ <;> rw[hr]
 ·exact hk _ _ _ _ hn le j
 ·exact hk _ _ _ _ hn le j
def Sp(P:Program)(f:FuncId)(args:List Value)(K:Hl)(L:List Asn)(R:Ending→Hl→List Asn→Prop):Prop:=
 (∃fn,P.funcs[f]?=some fn∧(fn.name=="runtime.NumGoroutine")=false∧fn.body.isSome=true)∧
 ∀F w,In w F K L w→Calls P f args.toArray w fun e w'=>∃K' L',R e K' L'∧K.le K'∧In w F K' L' w'
def Ret(N:Value→Hl→List Asn→Prop):Ending→Hl→List Asn→Prop:=fun e K L=>∃v,e=.returned v∧N v K L
theorem Sp.mono{P:Program}{f:FuncId}{args:List Value}{K:Hl}{L:List Asn}{R R':Ending→Hl→List Asn→Prop}(h:Sp P f args K L R)
  (k:∀e K' L',R e K' L'→R' e K' L'):Sp P f args K L R':=
 ⟨h.1,fun F w i=>(h.2 F w i).mono fun _ _ ⟨K',L',r,le,j⟩=>⟨K',L',k _ _ _ r,le,j⟩⟩
section
variable{E:Env}{fr:Fr}{K:Hl}{L:List Asn}{Q:Post}{c x y:Code}{ops:Array Oper}{rest:List Oper}
theorem t8{L':List Asn}(k:∀h,Sat L h→Sat L' h)(h:T E c fr K L' Q):T E c fr K L Q:=fun a w f i=>h a w f (i.imp k)
theorem aI(h:T E x fr K L (Exit.then (fun a w=>y.wp E.P Q a w) Q)):T E (.seq x y) fr K L Q:=fun a w f i=>wp_seq (h a w f i)
theorem aW(h:D E .normal fr K L Q):T E .skip fr K L Q:=fun a w f i=>wp_skip (h a w f i)
theorem aWK{l:Nat}(h:D E .normal fr K L Q):T E (.label l) fr K L Q:=fun a w f i=>wp_label (h a w f i)
theorem cW{id:Nat}(h:D E (.exit id) fr K L Q):T E (.exit id) fr K L Q:=fun a w f i=>wp_exit (h a w f i)
theorem bK(h:D E .ret fr K L Q):T E .ret fr K L Q:=fun a w f i=>wp_ret (h a w f i)
theorem bD{id:Nat}(h:T E c fr K L (Exit.inBlock id Q)):T E (.block id c) fr K L Q:=fun a w f i=>wp_block (h a w f i)
theorem FrOk.known{n:Nat}{ds:List Deferred}{a:Act}(f:FrOk n ds fr a){d:Nat}{b c:Bool}(e:fr.get d=some (.bool b))(hc:b=c):FrOk n ds ((d,.bool c)::fr) a:=
 ⟨f.defers, f.size, fun k v h => by
  simp only[Fr.get]at h
  by_cases hk:d=k
  ·subst hk;simp at h;subst h;rw[←hc];exact f.get _ _ e
  ·rw[beqF hk]at h;exact f.get _ _ h⟩
theorem d8(d:Nat){b:Bool}(e:fr.get d=some (.bool b))(ht:b=true→T E x ((d,.bool true)::fr) K L Q)(hf:b=false→T E y ((d,.bool false)::fr) K L Q):T E (.cond (.tmp d) x y) fr K L Q:=by
 intro a w f i;have ev:fr.ev (.tmp d)=some (.bool b):=e;cases b
 ·exact wp_cond_false (f.ev ev) (hf rfl a w (f.known e rfl) i)
 ·exact wp_cond_true (f.ev ev) (ht rfl a w (f.known e rfl) i)
theorem bG(d:Nat){p:Prop}[Decidable p](e:fr.get d=some (.bool (decide p)))(ht:p→T E x ((d,.bool true)::fr) K L Q)(hf:¬p→T E y ((d,.bool false)::fr) K L Q):T E (.cond (.tmp d) x y) fr K L Q:=
 d8 d e (fun h=>ht (of_decide_eq_true h)) (fun h=>hf (of_decide_eq_false h))
theorem dV{o:Operand}(e:fr.ev o=some (.bool true))(h:T E x fr K L Q):T E (.cond o x y) fr K L Q:=fun a w f i=>wp_cond_true (f.ev e) (h a w f i)
theorem cS{o:Operand}(e:fr.ev o=some (.bool false))(h:T E y fr K L Q):T E (.cond o x y) fr K L Q:=fun a w f i=>wp_cond_false (f.ev e) (h a w f i)
theorem aE(h:T E y fr K L Q):D E .normal fr K L (Exit.then (fun a w=>y.wp E.P Q a w) Q):=h
theorem aS{id:Nat}{next:Act→World→Prop}(h:D E (.exit id) fr K L Q):D E (.exit id) fr K L (Exit.then next Q):=h
theorem bE{next:Act→World→Prop}(h:D E .ret fr K L Q):D E .ret fr K L (Exit.then next Q):=h
theorem aK{ch:List PanicEntry}{next:Act→World→Prop}(h:D E (.panic ch) fr K L Q):D E (.panic ch) fr K L (Exit.then next Q):=h
theorem aM{id:Nat}(h:D E .normal fr K L Q):D E .normal fr K L (Exit.inBlock id Q):=h
theorem bP{id:Nat}(h:D E .ret fr K L Q):D E .ret fr K L (Exit.inBlock id Q):=h
theorem aQ{id:Nat}{ch:List PanicEntry}(h:D E (.panic ch) fr K L Q):D E (.panic ch) fr K L (Exit.inBlock id Q):=h
theorem bI{id:Nat}(h:D E .normal fr K L Q):D E (.exit id) fr K L (Exit.inBlock id Q):=fun a w f i=>by
 show (if id=id then Q .normal a w else _);rw[if_pos rfl];exact h a w f i
theorem gJ{id id':Nat}(hne:Nat.beq id' id=false)(h:D E (.exit id') fr K L Q):D E (.exit id') fr K L (Exit.inBlock id Q):=fun a w f i=>by
 show (if id'=id then _ else Q (.exit id') a w);rw[if_neg (beqN hne)];exact h a w f i
def Mid(E:Env){ι:Type}(I:ι→Prop)(fr:ι→Fr)(K:ι→Hl)(L:ι→List Asn):Act→World→Prop:=fun a w=>∃i,I i∧FrOk E.n E.ds (fr i) a∧In E.w0 E.F (K i) (L i) w
theorem gG{ι:Type}(I:ι→Prop)(fr':ι→Fr)(K':ι→Hl)(L':ι→List Asn)(h1:T E x fr K L (Exit.then (Mid E I fr' K' L') Q))(h2:∀i,I i→T E y (fr' i) (K' i) (L' i) Q):
  T E (.seq x y) fr K L Q:=by
 intro a w f i;refine wp_seq (Code.wp_mono (fun e a w q=>?_) (h1 a w f i))
 cases e <;> first|exact q|(obtain⟨j,hj,fj,ij⟩:=q;exact h2 j hj _ _ fj ij)
theorem bU{ι:Type}{I:ι→Prop}{fr':ι→Fr}{K':ι→Hl}{L':ι→List Asn}(i:ι)(hi:I i)(k:Kp fr (fr' i))(hK:K' i=K)(hL:∀h,Sat L h→Sat (L' i) h):
  D E .normal fr K L (Exit.then (Mid E I fr' K' L') Q):=fun a w f j=>⟨i,hi,f.keep k,by rw[hK];exact j.imp hL⟩
theorem d6{ι:Type}(I:ι→Prop)(fr':ι→Fr)(K':ι→Hl)(L':ι→List Asn)(μ:ι→Nat)(i0:ι)(h0:I i0)(k:Kp fr (fr' i0))(hK:K' i0=K)(hL:∀h,Sat L h→Sat (L' i0) h)
  (round:∀i,I i→T E c (fr' i) (K' i) (L' i) (Exit.then (fun a w=>∃j,I j∧μ j < μ i∧FrOk E.n E.ds (fr' j) a∧In E.w0 E.F (K' j) (L' j) w) Q)):T E (.loop c) fr K L Q:=by
 intro a w f i b kk cs;have key:∀n j,μ j=n→I j→∀a w,FrOk E.n E.ds (fr' j) a→In E.w0 E.F (K' j) (L' j) w→
   ∃e a' w',Q e a' w'∧Arrives E.P (lone (b.at a (.code c::.inLoop c::kk)) cs w) b kk cs e a' w':=by
  intro n;induction n using Nat.strongRecOn with
  |_ n ih=>
   intro j hj hIj a w f i;obtain⟨e,a₁,w₁,hq,harr⟩:=round j hIj a w f i b (.inLoop c::kk) cs;cases e with
   |normal=>
    obtain⟨j',hI',hlt,f',i'⟩:=hq;obtain⟨e₂,a₂,w₂,hq₂,harr₂⟩:=ih _ (hj▸hlt) j' rfl hI' _ _ f' i';exact⟨e₂,a₂,w₂,hq₂,.of_steps (Steps.trans harr (.one step_inLoop)) harr₂⟩
   |exit id=>exact⟨_,a₁,w₁,hq,.pass (x:=.inLoop c) rfl (fun _ _=>.inl (by simp)) harr⟩
   |goto l=>exact⟨_,a₁,w₁,hq,.pass (x:=.inLoop c) rfl (fun _ _=>.inl (by simp)) harr⟩
   |ret=>exact⟨_,a₁,w₁,hq,.pass (x:=.inLoop c) rfl (fun _ _=>.inl (by simp)) harr⟩
   |panic ch=>exact⟨_,a₁,w₁,hq,.pass (x:=.inLoop c) rfl (fun _ _=>.inl (by simp)) harr⟩
   |outgrown=>exact⟨_,a₁,w₁,hq,.pass (x:=.inLoop c) rfl (fun _ _=>.inl (by simp)) harr⟩
 obtain⟨e,a',w',hq,harr⟩:=key _ i0 rfl h0 a w (f.keep k) (by rw[hK];exact i.imp hL);exact⟨e,a',w',hq,.of_steps (.one step_loop) harr⟩
theorem cG{ι:Type}{I:ι→Prop}{fr':ι→Fr}{K':ι→Hl}{L':ι→List Asn}{μ:ι→Nat}{m:Nat}(j:ι)(hj:I j)(hlt:μ j < m)(k:Kp fr (fr' j))(hK:K' j=K)(hL:∀h,Sat L h→Sat (L' j) h):
  D E .normal fr K L (Exit.then (fun a w=>∃j,I j∧μ j < m∧FrOk E.n E.ds (fr' j) a∧In E.w0 E.F (K' j) (L' j) w) Q):=
 fun a w f i=>⟨j,hj,hlt,f.keep k,by rw[hK];exact i.imp hL⟩
theorem aB{id:Nat}{l:List Oper}(h:OL E l.toArray l fr K L Q):T E (.region id l.toArray false) fr K L Q:=fun a w f i=>wp_region_lit (h a w f i)
theorem aF(h:D E .normal fr K L Q):OL E ops [] fr K L Q:=fun a w f i=>wpList_nil (h a w f i)
theorem jY{l:List Oper}{L':List Asn}(k:∀h,Sat L h→Sat L' h)(h:OL E ops l fr K L' Q):OL E ops l fr K L Q:=fun a w f i=>h a w f (i.imp k)
theorem aA{d:Nat}{op:Op}{ty:TypeId}{pos:String}{aft:Array Edge}{v:Value}(hv:Ev E fr K L ⟨some d,op,ty,pos,aft,none⟩ v)(hd:Nat.blt d E.n=true)
  (h:OL E ops rest ((d,v)::fr) K L Q):OL E ops (⟨some d,op,ty,pos,aft,none⟩::rest) fr K L Q:=by
 intro a w f i;refine wpList_plain rfl fun k hk=>?_
 unfold Oper.wp;rw[hv a w f i];exact hk _ _ (h _ _ (f.put hd v) i)
theorem aDB{d:Nat}{op:Op}{ty:TypeId}{pos:String}{aft:Array Edge}{N:Value→Hl→List Asn→Prop}(hv:Ef E fr K L ⟨some d,op,ty,pos,aft,none⟩ Q N)(hd:Nat.blt d E.n=true)
  (h:∀v K' L',N v K' L'→K.le K'→OL E ops rest ((d,v)::fr) K' L' Q):OL E ops (⟨some d,op,ty,pos,aft,none⟩::rest) fr K L Q:=by
 intro a w f i;unfold wpList;rw[if_pos (show Region.wanted _ _=true from rfl)];exact hv a w _ f i fun v K' L' w' n le j=>h v K' L' n le _ _ (f.put hd v) j
theorem aY5{op:Op}{ty:TypeId}{pos:String}{aft:Array Edge}{N:Value→Hl→List Asn→Prop}(hv:Ef E fr K L ⟨none,op,ty,pos,aft,none⟩ Q N)
  (h:∀v K' L',N v K' L'→K.le K'→OL E ops rest fr K' L' Q):OL E ops (⟨none,op,ty,pos,aft,none⟩::rest) fr K L Q:=by
 intro a w f i;unfold wpList;rw[if_pos (show Region.wanted _ _=true from rfl)];exact hv a w _ f i fun v K' L' w' n le j=>h v K' L' n le _ _ f j
theorem ol_s{d:Nat}{op:Op}{ty:TypeId}{pos:String}{aft:Array Edge}{N:Value→Hl→List Asn→Prop}(hv:EfS E fr K L ⟨some d,op,ty,pos,aft,none⟩ N)(hd:Nat.blt d E.n=true)
  (h:∀v K' L',N v K' L'→K.le K'→OL E ops rest ((d,v)::fr) K' L' Q):OL E ops (⟨some d,op,ty,pos,aft,none⟩::rest) fr K L Q:=aDB (aLP hv) hd h
theorem bR{op:Op}{ty:TypeId}{pos:String}{aft:Array Edge}{N:Value→Hl→List Asn→Prop}(hv:EfS E fr K L ⟨none,op,ty,pos,aft,none⟩ N)
  (h:∀v K' L',N v K' L'→K.le K'→OL E ops rest fr K' L' Q):OL E ops (⟨none,op,ty,pos,aft,none⟩::rest) fr K L Q:=aY5 (aLP hv) h
theorem uA{As M:List Asn}(k:Tks As L M)(h:T E c fr K (As++M) Q):T E c fr K L Q:=t8 k.sat h
theorem aSN{l:List Oper}{As M:List Asn}(k:Tks As L M)(h:OL E ops l fr K (As++M) Q):OL E ops l fr K L Q:=jY k.sat h
theorem aVW{l:List Oper}{p:Prop}(k:∀h,Sat L h→p)(h:p→OL E ops l fr K L Q):OL E ops l fr K L Q:=fun a w f i=>h (let ⟨x,hx,_⟩:=i.rep;k x hx) a w f i
theorem aBS{p:Prop}(k:∀h,Sat L h→p)(h:p→T E c fr K L Q):T E c fr K L Q:=fun a w f i=>h (let ⟨x,hx,_⟩:=i.rep;k x hx) a w f i
theorem sT{b:Nat}{o:Obj}(h:∀K',K.le K'→K' b=some o→T E c fr K' L Q):T E c fr K (pt b o::L) Q:=fun a w f i=>let ⟨h1,h2,h3⟩:=i.settle;h _ h1 h2 a w f h3
theorem fW{l:List Oper}{b:Nat}{o:Obj}(h:∀K',K.le K'→K' b=some o→OL E ops l fr K' L Q):OL E ops l fr K (pt b o::L) Q:=fun a w f i=>let ⟨h1,h2,h3⟩:=i.settle;h _ h1 h2 a w f h3
def exA{ι:Type}(Ls:ι→List Asn):Asn:=fun h=>∃i,Sat (Ls i) h
theorem lB{ι:Type}{Ls:ι→List Asn}{M:List Asn}{h:Hl}:Sat (exA Ls::M) h↔∃i,Sat (Ls i++M) h:=by
 constructor
 ·rintro⟨a,m,⟨i,hi⟩,hm,hd,rfl⟩;exact⟨i,fH.2 ⟨a,m,hi,hm,hd,rfl⟩⟩
 ·rintro⟨i,hi⟩;obtain⟨a,m,ha,hm,hd,rfl⟩:=fH.1 hi;exact⟨a,m,⟨i,ha⟩,hm,hd,rfl⟩
theorem In.ex{ι:Type}{Ls:ι→List Asn}{M:List Asn}{w0 w:World}{F:Hl}(j:In w0 F K (exA Ls::M) w):∃i,In w0 F K (Ls i++M) w:=
 let ⟨h,hs,r⟩:=j.rep;let ⟨i,hi⟩:=lB.1 hs;⟨i,j.os,j.tape,j.output,j.size,h,hi,r⟩
theorem t_ex{ι:Type}{Ls:ι→List Asn}(h:∀i,T E c fr K (Ls i++L) Q):T E c fr K (exA Ls::L) Q:=fun a w f j=>let ⟨i,ji⟩:=j.ex;h i a w f ji
theorem bAJ{ι:Type}{l:List Oper}{Ls:ι→List Asn}(h:∀i,OL E ops l fr K (Ls i++L) Q):OL E ops l fr K (exA Ls::L) Q:=fun a w f j=>let ⟨i,ji⟩:=j.ex;h i a w f ji
theorem wO{P:Program}{f:FuncId}{args:List Value}{L:List Asn}{R:Ending→Hl→List Asn→Prop}(M:List Asn)(h:Sp P f args K L R):Sp P f args K (L++M) (fun e K' L'=>∃N,R e K' N∧L'=N++M):=
 ⟨h.1, fun F w j => by
  obtain⟨F',i1,back⟩:=j.hide;exact(h.2 F' w i1).mono fun _ _ ⟨K',L',r,le,j'⟩=>⟨K',L'++M,⟨L',r,rfl⟩,le,back j'⟩⟩
theorem xV{P:Program}{f:FuncId}{args:List Value}{L M:List Asn}{R:Ending→Hl→List Asn→Prop}(k:∀h,Sat L h→Sat M h)(h:Sp P f args K M R):Sp P f args K L R:=
 ⟨h.1,fun F w j=>h.2 F w (j.imp k)⟩
theorem oQ{l:List Oper}(d:Nat){b:Bool}(e:fr.get d=some (.bool b))(ht:b=true→OL E ops l ((d,.bool true)::fr) K L Q)(hf:b=false→OL E ops l ((d,.bool false)::fr) K L Q):OL E ops l fr K L Q:=by
 intro a w f i;have key : ∀ c, b = c → FrOk E.n E.ds ((d, .bool c) :: fr) a := fun c hc => ⟨f.defers, f.size, fun k v h => by
  simp only[Fr.get]at h
  by_cases hk:d=k
  ·subst hk;simp at h;subst h;rw[←hc];exact f.get _ _ e
  ·rw[beqF hk]at h;exact f.get _ _ h⟩
 cases b
 ·exact hf rfl a w (key _ rfl) i
 ·exact ht rfl a w (key _ rfl) i
theorem cF{l:List Oper}(d:Nat){p:Prop}[Decidable p](e:fr.get d=some (.bool (decide p)))(ht:p→OL E ops l ((d,.bool true)::fr) K L Q)(hf:¬p→OL E ops l ((d,.bool false)::fr) K L Q):OL E ops l fr K L Q:=
 oQ d e (fun h=>ht (of_decide_eq_true h)) (fun h=>hf (of_decide_eq_false h))
theorem aV{dst:Option Tmp}{op:Op}{ty:TypeId}{pos:String}{aft:Array Edge}{g dg:Nat}{b:Bool}(hg:(ops[g]?).bind (·.dst)=some dg)(hb:fr.get dg=some (.bool b))
  (h:OL E ops (⟨dst,op,ty,pos,aft,none⟩::rest) fr K L Q):OL E ops (⟨dst,op,ty,pos,aft,some (g,b)⟩::rest) fr K L Q:=by
 intro a w f i;have:=h a w f i;have hw:Region.wanted ⟨dst,op,ty,pos,aft,some (g,b)⟩ (yielded ops a.tmps)=true:=by
  simp[Region.wanted,yielded,hg,f.get _ _ hb]
 unfold wpList at this ⊢;rw[if_pos hw];rw[if_pos (by rfl)]at this;exact this
theorem aT{d:Nat}{op:Op}{ty:TypeId}{pos:String}{aft:Array Edge}{g dg:Nat}{b:Bool}(hg:(ops[g]?).bind (·.dst)=some dg)(hb:fr.get dg=some (.bool (!b)))(hd:Nat.blt d E.n=true)
  (h:OL E ops rest ((d,undef)::fr) K L Q):OL E ops (⟨some d,op,ty,pos,aft,some (g,b)⟩::rest) fr K L Q:=by
 intro a w f i;have hw:Region.wanted ⟨some d,op,ty,pos,aft,some (g,b)⟩ (yielded ops a.tmps)=false:=by
  simp[Region.wanted,yielded,hg,f.get _ _ hb]
 exact wpList_skip hw (h _ _ (f.put hd undef) i)
theorem gU{d:Nat}{op:Op}{ty:TypeId}{pos:String}{aft:Array Edge}{g dg:Nat}{b:Bool}(hg:(ops[g]?).bind (·.dst)=some dg)(hb:fr.get dg=some undef)(hd:Nat.blt d E.n=true)
  (h:OL E ops rest ((d,undef)::fr) K L Q):OL E ops (⟨some d,op,ty,pos,aft,some (g,b)⟩::rest) fr K L Q:=by
 intro a w f i;have hw:Region.wanted ⟨some d,op,ty,pos,aft,some (g,b)⟩ (yielded ops a.tmps)=false:=by
  simp[Region.wanted,yielded,hg,f.get _ _ hb,undef]
 exact wpList_skip hw (h _ _ (f.put hd undef) i)
theorem aHY{dst:Option Tmp}{ty:TypeId}{pos:String}{aft:Array Edge}{x:Operand}{t:TypeId}{v:Value}(hx:fr.ev x=some (.iface t v))(h:D E (.panic [{v:=.iface t v,recovered:=false}]) fr K L Q):
  OL E ops (⟨dst,.panic x,ty,pos,aft,none⟩::rest) fr K L Q:=by
 intro a w f i;refine wpList_plain rfl fun k hk=>?_
 unfold Oper.wp;have:(execOp a.eval ⟨dst,.panic x,ty,pos,aft,none⟩).run E.P w=.halt (.panic (.iface t v)) w:=by
  simp only[execOp,f.ev hx];rfl
 rw[this];exact h a w f i
theorem xE{P:Program}{f:FuncId}{vs:Array Value}{fn:Func}(hf:P.funcs[f]?=some fn)(hn:(fn.name=="runtime.NumGoroutine")=false)(hb:fn.body.isSome=true)(w:World):
  (callFunc f vs).run P w=.ok (.enter f vs) w:=by
 have hb':fn.body.isNone=false:=by cases h:fn.body <;> simp_all
 show Sem.run P (match P.funcs[f]? with|none=>_|some fn=>_) w=_
 rw[hf];simp only[hn,hb',Bool.false_eq_true,if_false]
 rfl
theorem lT{fv:Operand}{xs:List Operand}{ats:Array TypeId}{f:FuncId}{caps:Array Value}{vs:List Value}{dst:Option Tmp}{ty:TypeId}{pos:String}{aft:Array Edge}{g:Option (Nat×Bool)}{R:Ending→Hl→List Asn→Prop}{L1:List Asn}
  (hf:fr.ev fv=some (.func (.func f) #[] caps)) (hx:fr.evs xs=some vs) (hs:Sp E.P f (vs++caps.toList) K L1 R) {a:Act} (fo:FrOk E.n E.ds fr a) (w:World):
  (execOp a.eval ⟨dst,.call ⟨.value fv,xs.toArray,ats⟩,ty,pos,aft,g⟩).run E.P w=.ok (.enter f (vs++caps.toList).toArray) w:=by
 obtain⟨⟨fn,h1,h2,h3⟩,hs⟩:=hs;have e1:Array.map a.eval xs.toArray=vs.toArray:=by simp[fo.evs hx]
 have e2:([]++vs).toArray++caps=(vs++caps.toList).toArray:=by simp
 simp only[execOp,resolve,e1,fo.ev hf,Deferred.ofValue,bind,pure,Sem.bind,invoke,List.append_toArray];rw[e2];exact xE h1 h2 h3 w
theorem aER{dst:Option Tmp}{ty:TypeId}{pos:String}{aft:Array Edge}{g:Option (Nat×Bool)}{fv:Operand}{xs:List Operand}{ats:Array TypeId}{f:FuncId}{caps:Array Value}{vs:List Value}{L1 L2:List Asn}
  {R:Ending→Hl→List Asn→Prop} {N:Value→Hl→List Asn→Prop}
  (hf:fr.ev fv=some (.func (.func f) #[] caps)) (hx:fr.evs xs=some vs) (hL:Tks L1 L L2)
  (hs:Sp E.P f (vs++caps.toList) K L1 R)
  (hret:∀v K' L',R (.returned v) K' L'→N v K' (L'++L2))
  (hpan:∀ch K' L',R (.panicked ch) K' L'→K.le K'→D E (.panic ch) fr K' (L'++L2) Q)
  (hout:∀K' L',R .outgrown K' L'→LetsOut Q):
  Ef E fr K L ⟨dst,.call ⟨.value fv,xs.toArray,ats⟩,ty,pos,aft,g⟩ Q N:=by
 intro a w k fo i hk;obtain⟨F',i1,back⟩:=(i.imp hL.sat).hide;refine .inl ?_;unfold Oper.wp;rw[lT hf hx hs fo w];refine(hs.2 F' w i1).mono fun e w' ⟨K',L',r,le,j⟩=>?_
 cases e with
 |returned v=>exact hk _ _ _ _ (hret _ _ _ r) le (back j)
 |panicked ch=>exact hpan _ _ _ r le _ _ fo (back j)
 |outgrown=>exact hout _ _ r
theorem aY{d:Nat}{ty:TypeId}{pos:String}{aft:Array Edge}{fv:Operand}{xs:List Operand}{ats:Array TypeId}{f:FuncId}{caps:Array Value}{vs:List Value}{L1 L2:List Asn}{N:Value→Hl→List Asn→Prop}
  (hf:fr.ev fv=some (.func (.func f) #[] caps)) (hx:fr.evs xs=some vs) (hs:Sp E.P f (vs++caps.toList) K L1 (Ret N)) (hL:Tks L1 L L2) (hd:Nat.blt d E.n=true)
  (h:∀v K' L',N v K' L'→K.le K'→OL E ops rest ((d,v)::fr) K' (L'++L2) Q):OL E ops (⟨some d,.call ⟨.value fv,xs.toArray,ats⟩,ty,pos,aft,none⟩::rest) fr K L Q:=
 aDB (aER (N:=fun v K' L''=>∃L',L''=L'++L2∧N v K' L') hf hx hL hs (fun v K' L' ⟨u,e,n⟩=>by cases e;exact⟨L',rfl,n⟩) (fun ch K' L' ⟨u,e,n⟩=>by cases e) (fun K' L' ⟨u,e,n⟩=>by cases e)) hd
  (fun v K' L'' ⟨L',e,n⟩ le=>by subst e;exact h v K' L' n le)
def Val(v:Value)(K:Hl):Ending→Hl→List Asn→Prop:=fun e K' L'=>e=.returned v∧K'=K∧L'=[]
theorem cE{d:Nat}{ty:TypeId}{pos:String}{aft:Array Edge}{fv:Operand}{xs:List Operand}{ats:Array TypeId}{f:FuncId}{caps:Array Value}{vs:List Value}{v:Value}
  (hf:fr.ev fv=some (.func (.func f) #[] caps)) (hx:fr.evs xs=some vs) (hs:Sp E.P f (vs++caps.toList) K [] (Val v K)) (hd:Nat.blt d E.n=true)
  (h:OL E ops rest ((d,v)::fr) K L Q):OL E ops (⟨some d,.call ⟨.value fv,xs.toArray,ats⟩,ty,pos,aft,none⟩::rest) fr K L Q:=
 aDB (aER (N:=fun u K' L''=>u=v∧K'=K∧L''=L) hf hx .nil hs (fun u K' L' ⟨e,e2,e3⟩=>by cases e;subst e3;exact⟨rfl,e2,rfl⟩) (fun ch K' L' ⟨e,_⟩=>by cases e) (fun K' L' ⟨e,_⟩=>by cases e)) hd
  (fun u K' L'' ⟨e1,e2,e3⟩ _=>by subst e1;subst e2;subst e3;exact h)
theorem aX{d:Nat}{ty:TypeId}{pos:String}{aft:Array Edge}{fv:Operand}{xs:List Operand}{ats:Array TypeId}{f:FuncId}{caps:Array Value}{vs:List Value}{L1 L2:List Asn}{R:Ending→Hl→List Asn→Prop}
  (hf:fr.ev fv=some (.func (.func f) #[] caps)) (hx:fr.evs xs=some vs) (hs:Sp E.P f (vs++caps.toList) K L1 R) (hL:Tks L1 L L2) (hd:Nat.blt d E.n=true)
  (hout:∀K' L',¬R .outgrown K' L')
  (hpan:∀ch K' L',R (.panicked ch) K' L'→K.le K'→D E (.panic ch) fr K' (L'++L2) Q)
  (h:∀v K' L',R (.returned v) K' L'→K.le K'→OL E ops rest ((d,v)::fr) K' (L'++L2) Q):OL E ops (⟨some d,.call ⟨.value fv,xs.toArray,ats⟩,ty,pos,aft,none⟩::rest) fr K L Q:=
 aDB (aER (N:=fun v K' L''=>∃L',L''=L'++L2∧R (.returned v) K' L') hf hx hL hs (fun v K' L' n=>⟨L',rfl,n⟩) hpan (fun K' L' n=>absurd n (hout _ _))) hd
  (fun v K' L'' ⟨L',e,n⟩ le=>by subst e;exact h v K' L' n le)
def tT(P:Program)(fn:Func)(w0:World)(F K0:Hl)(R:Ending→Hl→List Asn→Prop):Post:=
 bodyPost P fn fun e w'=>∃K' L',R e K' L'∧K0.le K'∧In w0 F K' L' w'
def Fr.init:Nat→List Value→Nat→Fr
 |i,v::vs,n=>(i,v)::Fr.init (i+1) vs n
 |_,[],_=>[]
theorem sB{vs:List Value}:∀ {i n:Nat} {k:Nat} {v:Value},(Fr.init i vs n).get k=some v→i≤k∧vs[k - i]?=some v:=by
 induction vs with
 |nil=>intro i n k v e;simp[Fr.init,Fr.get]at e
 |cons u vs ih=>
  intro i n k v e;simp only[Fr.init,Fr.get]at e
  by_cases hk:i=k
  ·subst hk;simp at e;subst e;simp
  ·rw[beqF hk]at e;obtain⟨h1,h2⟩:=ih e;refine⟨by omega,?_⟩
   have:k - i=(k - (i+1))+1:=by omega
   rw[this];simpa using h2
theorem aZ{P:Program}{f:FuncId}{fn:Func}{c:Code}{args:List Value}{n:Nat}{K:Hl}{L:List Asn}{R:Ending→Hl→List Asn→Prop}
  (hf:P.funcs[f]?=some fn) (hb:fn.body=some c) (hn:fn.ntmps=n) (hl:Nat.ble args.length n=true) (hname:(fn.name=="runtime.NumGoroutine")=false)
  (h:∀(F:Hl) (w:World),T ⟨P,n,[],w,F⟩ c (Fr.init 0 args n) K L (tT P fn w F K R)):Sp P f args K L R:=by
 refine⟨⟨fn,hf,hname,by simp[hb]⟩,fun F w i=>calls_of_wp hf hb (h F w _ _ ⟨rfl,?_,?_⟩ i)⟩
 ·have:args.length≤n:=Nat.le_of_ble_eq_true hl;simp[hn];omega
 ·intro k v e;obtain⟨_,h2⟩:=sB e;have hk:k < args.length:=by
   rcases Nat.lt_or_ge k args.length with h|h
   ·exact h
   ·simp[List.getElem?_eq_none h]at h2
  show (args.toArray++Array.replicate _ _)[k]?=some v
  rw[Array.getElem?_append_left gC1]
  simpa using h2
section
variable{P:Program}{fn:Func}{n:Nat}{w0:World}{F K0 K:Hl}{fr:Fr}{L:List Asn}{R:Ending→Hl→List Asn→Prop}
theorem cT(hr:fn.results= #[])(le:K0.le K)(h:R (.returned (.tuple #[])) K L):D ⟨P,n,[],w0,F⟩ .normal fr K L (tT P fn w0 F K0 R):=
 fun a w f i=>⟨f.defers,_,results_none hr _ _ _,K,L,h,le,i⟩
theorem qR(hr:fn.results= #[])(le:K0.le K)(h:R (.returned (.tuple #[])) K L):D ⟨P,n,[],w0,F⟩ .ret fr K L (tT P fn w0 F K0 R):=
 fun a w f i=>⟨f.defers,_,results_none hr _ _ _,K,L,h,le,i⟩
theorem bJ{t:Nat}{v:Value}(hr:fn.results= #[.tmp t])(ht:fr.get t=some v)(le:K0.le K)(h:R (.returned v) K L):D ⟨P,n,[],w0,F⟩ .ret fr K L (tT P fn w0 F K0 R):=
 fun a w f i=>⟨f.defers,v,by rw[results_tmp hr];simp[f.get _ _ ht],K,L,h,le,i⟩
theorem kK{t u:Nat}{v x:Value}(hr:fn.results= #[.tmp t,.tmp u])(ht:fr.get t=some v)(hu:fr.get u=some x)(le:K0.le K)(h:R (.returned (.tuple #[v,x])) K L):
  D ⟨P,n,[],w0,F⟩ .ret fr K L (tT P fn w0 F K0 R):=
 fun a w f i=>⟨f.defers,_,by rw[results_tmp2 hr];simp[f.get _ _ ht,f.get _ _ hu],K,L,h,le,i⟩
theorem bF{ch:List PanicEntry}(le:K0.le K)(h:R (.panicked ch) K L):D ⟨P,n,[],w0,F⟩ (.panic ch) fr K L (tT P fn w0 F K0 R):=
 fun a w f i=>⟨f.defers,K,L,h,le,i⟩
end
end
end Go.SL
end
section
namespace Go.SL
abbrev str(l:List UInt8):Value:=.string ⟨l.toArray⟩
abbrev i64(n:Int):Value:=.int .i64 n
abbrev ptr(b:Nat)(o:Nat:=0):Value:=.pointer (some ⟨b,o,none⟩)
abbrev aU(l:List Value)(t:TypeId)(f:Nat×Nat:=(0,0)):Obj:=.cells l.toArray t f
def d7(P:Program)(t:TypeId):Bool:=
 match P.underlying t,P.info? t with
 |some (.struct _),_=>false
 |some (.array _ _),_=>false
 |some _,some i=>i.size==1
 |_,_=>false
def aggB(P:Program)(t n:Nat):Bool:=
 match P.underlying t,P.info? t with
 |some (.struct _),some i=>i.size==n
 |some (.array _ _),some i=>i.size==n
 |_,_=>false
def cO(P:Program)(s i off:Nat):Bool:=
 match P.underlying s with
 |some (.struct fs)=>match fs[i]? with
  |some f=>f.offset==off&&(match P.info? f.type with|some ti=>ti.size !=0|none=>false)
  |none=>false
 |_=>false
def iM(P:Program)(t e sz:Nat):Bool:=
 match P.underlying t,P.info? e with
 |some (.slice e'),some i=>e'==e&&i.size==sz
 |_,_=>false
theorem nE{P:Program}{t:TypeId}(h:d7 P t=true)(w:World):(isAgg t).run P w=.ok false w∧(sizeOf t).run P w=.ok 1 w:=by
 unfold d7 at h;unfold isAgg sizeOf typeInfo underlying program;cases hu:P.underlying t with
 |none=>simp[hu]at h
 |some d=>cases hi:P.info? t with
  |none=>cases d <;> simp[hu,hi]at h
  |some i=>cases d <;> simp[hu,hi]at h <;> simp[Sem.run,hu,hi,bind,Sem.bind,pure,h]
theorem zC{P:Program}{t n:Nat}(h:aggB P t n=true)(w:World):(isAgg t).run P w=.ok true w∧(sizeOf t).run P w=.ok n w:=by
 unfold aggB at h;unfold isAgg sizeOf typeInfo underlying program;cases hu:P.underlying t with
 |none=>simp[hu]at h
 |some d=>cases hi:P.info? t with
  |none=>cases d <;> simp[hu,hi]at h
  |some i=>cases d <;> simp[hu,hi]at h <;> simp[Sem.run,hu,hi,bind,Sem.bind,pure,h]
theorem run_bind{α β:Type}{P:Program}(m:Sem α)(f:α→Sem β)(w:World):(m>>=f).run P w=match m.run P w with| .ok a w'=>(f a).run P w'| .halt h w'=>.halt h w':=by
 show (Sem.bind m f).run P w=_
 induction m generalizing w with
 |pure a=>rfl
 |load md a k ih=>
  simp only[Sem.bind,Sem.run];cases w.cell? a with
  |some v=>exact ih v w
  |none=>cases w.farLoad P a (md==.atomic)with
   |ok r=>exact ih r.1 w
   |error e=>rfl
 |store md a v k ih=>
  cases v <;> simp only[Sem.bind,Sem.run] <;> (first|rfl|skip) <;>
   (cases w.cell? a with
    |some u=>(by_cases hf:w.frozen? a=true <;> simp only[hf,if_true,if_false,Bool.false_eq_true] <;> first|rfl|exact ih _)
    |none=>(simp only[];split <;> first|exact ih _|rfl))
 |new o k ih=>exact ih _ _
 |shape r k ih=>exact ih _ _
 |freeze a n k ih=>exact ih _
 |frozen a k ih=>exact ih _ _
 |getObj r k ih=>
  simp only[Sem.bind,Sem.run];cases w.heap[r]? with
  |none=>rfl
  |some o=>cases o <;> first|rfl|exact ih _ _
 |setObj r o k ih=>
  simp only[Sem.bind,Sem.run];cases w.heap[r]? with
  |none=>rfl
  |some o=>cases o <;> first|rfl|exact ih _
 |choose q k ih=>
  simp only[Sem.bind,Sem.run];split <;> exact ih _ _
 |sys c k ih=>exact ih _ _
 |program k ih=>exact ih _ _
 |mark m k ih=>exact ih _
 |halt h=>rfl
theorem aP{α β:Type}{P:Program}{m:Sem α}{f:α→Sem β}{w w':World}{x:α}(h:m.run P w=.ok x w'):(m>>=f).run P w=(f x).run P w':=by
 rw[run_bind,h]
theorem sJ{α:Type}{P:Program}(x:α)(w:World):(pure x:Sem α).run P w=.ok x w:=rfl
section
variable{E:Env}{fr:Fr}{K:Hl}{L:List Asn}{Q:Post}{dst:Option Tmp}{ty:TypeId}{pos:String}{aft:Array Edge}{g:Option (Nat×Bool)}
theorem dS{P:Program}{m:Sem Value}{v:Value}{w w':World}(h:m.run P w=.ok v w'):(do pure (Next.value (←m)):Sem Next).run P w=.ok (.value v) w':=by
 rw[aP h];rfl
theorem aC{x:Operand}{v:Value}(h:fr.ev x=some v):Ev E fr K L ⟨dst,.move x,ty,pos,aft,g⟩ v:=fun a w f _=>by simp only[execOp,f.ev h];rfl
theorem aG{x:Operand}{v:Value}(h:fr.ev x=some v):Ev E fr K L ⟨dst,.assign x,ty,pos,aft,g⟩ v:=fun a w f _=>by simp only[execOp,f.ev h];rfl
theorem bN{c x y:Operand}{v:Value}(hc:fr.ev c=some (.bool true))(h:fr.ev x=some v):Ev E fr K L ⟨dst,.pick c x y,ty,pos,aft,g⟩ v:=fun a w f _=>by
 simp only[execOp,f.ev h,f.ev hc];rfl
theorem bH{c x y:Operand}{v:Value}(hc:fr.ev c=some (.bool false))(h:fr.ev y=some v):Ev E fr K L ⟨dst,.pick c x y,ty,pos,aft,g⟩ v:=fun a w f _=>by
 simp only[execOp,f.ev h,f.ev hc];rfl
theorem fM{op:BinOp}{x y:Operand}{t t':TypeId}{u v r:Value}(hx:fr.ev x=some u)(hy:fr.ev y=some v)
  (hg:∀w,(eqGuard op t x y u v).run E.P w=.ok () w) (hr:∀w,(binOp op t u v).run E.P w=.ok r w):Ev E fr K L ⟨dst,.binOp op t x y t',ty,pos,aft,g⟩ r:=by
 intro a w f _;simp only[execOp,f.ev hx,f.ev hy];refine dS ?_;rw[aP (hg w)];exact hr w
theorem hO{op:BinOp}{t:TypeId}{x y:Operand}{k k':IntKind}{m n:Int}{P:Program}(w:World):(eqGuard op t x y (.int k m) (.int k' n)).run P w=.ok () w:=by
 unfold eqGuard;cases op <;> rfl
theorem xH{op:BinOp}{t:TypeId}{x y:Operand}{m n:ByteArray}{P:Program}(w:World):(eqGuard op t x y (.string m) (.string n)).run P w=.ok () w:=by
 unfold eqGuard;cases op <;> rfl
theorem wV{n:Int}(h1: -9223372036854775808≤n)(h2:n≤9223372036854775807):IntKind.i64.wrap n=n:=by
 unfold IntKind.wrap IntKind.bits IntKind.signed;simp only[Bool.true_and];split <;> simp_all <;> omega
variable{x y:Operand}{t t':TypeId}{m n:Int}{k:IntKind}
theorem aLV(hx:fr.ev x=some (.int k m))(hy:fr.ev y=some (.int k n)):Ev E fr K L ⟨dst,.binOp .add t x y t',ty,pos,aft,g⟩ (.int k (k.wrap (m+n))):=
 fM hx hy hO fun w=>by simp[binOp,Op.intArith,pure]
theorem aLZ(hx:fr.ev x=some (.int k m))(hy:fr.ev y=some (.int k n)):Ev E fr K L ⟨dst,.binOp .sub t x y t',ty,pos,aft,g⟩ (.int k (k.wrap (m - n))):=
 fM hx hy hO fun w=>by simp[binOp,Op.intArith,pure]
theorem aVE(hx:fr.ev x=some (.int k m))(hy:fr.ev y=some (.int k n)):Ev E fr K L ⟨dst,.binOp .mul t x y t',ty,pos,aft,g⟩ (.int k (k.wrap (m*n))):=
 fM hx hy hO fun w=>by simp[binOp,Op.intArith,pure]
theorem cA(hx:fr.ev x=some (i64 m))(hy:fr.ev y=some (i64 n))(h1: -9223372036854775808≤m+n)(h2:m+n≤9223372036854775807):
  Ev E fr K L ⟨dst,.binOp .add t x y t',ty,pos,aft,g⟩ (i64 (m+n)):=by have:=aLV (E:=E) (K:=K) (L:=L) (dst:=dst) (ty:=ty) (pos:=pos) (aft:=aft) (g:=g) (t:=t) (t':=t') hx hy;rwa [wV h1 h2]at this
theorem jR(hx:fr.ev x=some (i64 m))(hy:fr.ev y=some (i64 n))(h1: -9223372036854775808≤m - n)(h2:m - n≤9223372036854775807):
  Ev E fr K L ⟨dst,.binOp .sub t x y t',ty,pos,aft,g⟩ (i64 (m - n)):=by have:=aLZ (E:=E) (K:=K) (L:=L) (dst:=dst) (ty:=ty) (pos:=pos) (aft:=aft) (g:=g) (t:=t) (t':=t') hx hy;rwa [wV h1 h2]at this
theorem oH(hx:fr.ev x=some (i64 m))(hy:fr.ev y=some (i64 n))(h1: -9223372036854775808≤m*n)(h2:m*n≤9223372036854775807):
  Ev E fr K L ⟨dst,.binOp .mul t x y t',ty,pos,aft,g⟩ (i64 (m*n)):=by have:=aVE (E:=E) (K:=K) (L:=L) (dst:=dst) (ty:=ty) (pos:=pos) (aft:=aft) (g:=g) (t:=t) (t':=t') hx hy;rwa [wV h1 h2]at this
theorem cY(hx:fr.ev x=some (.int k m))(hy:fr.ev y=some (.int k n)):Ev E fr K L ⟨dst,.binOp .lss t x y t',ty,pos,aft,g⟩ (.bool (decide (m < n))):=
 fM hx hy hO fun w=>by simp[binOp,Op.intCmp,pure]
theorem i8(hx:fr.ev x=some (.int k m))(hy:fr.ev y=some (.int k n)):Ev E fr K L ⟨dst,.binOp .leq t x y t',ty,pos,aft,g⟩ (.bool (decide (m≤n))):=
 fM hx hy hO fun w=>by simp[binOp,Op.intCmp,pure]
theorem gX(hx:fr.ev x=some (.int k m))(hy:fr.ev y=some (.int k n)):Ev E fr K L ⟨dst,.binOp .gtr t x y t',ty,pos,aft,g⟩ (.bool (decide (n < m))):=
 fM hx hy hO fun w=>by simp[binOp,Op.intCmp,pure]
theorem gP(hx:fr.ev x=some (.int k m))(hy:fr.ev y=some (.int k n)):Ev E fr K L ⟨dst,.binOp .geq t x y t',ty,pos,aft,g⟩ (.bool (decide (n≤m))):=
 fM hx hy hO fun w=>by simp[binOp,Op.intCmp,pure]
theorem aUZ(m n:Int):(m==n)=decide (m=n):=by by_cases h:m=n <;> simp[h]
theorem bW(hx:fr.ev x=some (.int k m))(hy:fr.ev y=some (.int k n)):Ev E fr K L ⟨dst,.binOp .eql t x y t',ty,pos,aft,g⟩ (.bool (decide (m=n))):=
 fM hx hy hO fun w=>by simp[binOp,Op.intCmp,←aUZ,pure]
theorem fN(hx:fr.ev x=some (.int k m))(hy:fr.ev y=some (.int k n)):Ev E fr K L ⟨dst,.binOp .neq t x y t',ty,pos,aft,g⟩ (.bool (decide (¬m=n))):=
 fM hx hy hO fun w=>by
  have:(m !=n)=decide (¬m=n):=by by_cases h:m=n <;> simp[h]
  simp[binOp,Op.intCmp,←this,pure]
theorem aLW(hx:fr.ev x=some (.int k m))(hy:fr.ev y=some (.int k n))(h:m=n):Ev E fr K L ⟨dst,.binOp .eql t x y t',ty,pos,aft,g⟩ (.bool true):=by
 have:=bW (E:=E) (K:=K) (L:=L) (dst:=dst) (ty:=ty) (pos:=pos) (aft:=aft) (g:=g) (t:=t) (t':=t') hx hy
 rwa [decide_eq_true h]at this
theorem dZ{b:Bool}(hx:fr.ev x=some (.bool b)):Ev E fr K L ⟨dst,.unOp .not t x,ty,pos,aft,g⟩ (.bool (!b)):=fun a w f _=>by
 simp only[execOp,f.ev hx];rfl
theorem dP{p:Prop}[Decidable p](hx:fr.ev x=some (.bool (decide p))):Ev E fr K L ⟨dst,.unOp .not t x,ty,pos,aft,g⟩ (.bool (decide (¬p))):=fun a w f _=>by
 simp only[execOp,f.ev hx,decide_not];rfl
theorem rZ{s d:TypeId}{k':IntKind}{ds:TypeDesc}(hd:E.P.underlying d=some (.int k'))(hs:E.P.underlying s=some ds)(hx:fr.ev x=some (.int k m)):
  Ev E fr K L ⟨dst,.convert s d x,ty,pos,aft,g⟩ (.int k' (k'.wrap m)):=fun a w f _=>by
 simp only[execOp,f.ev hx];refine dS ?_;unfold convert;simp only[underlying,program,bind,Sem.bind,pure,Sem.run,hd,hs,Conv.intToInt]
variable{l l':List UInt8}
theorem vB(l:List UInt8):(⟨l.toArray⟩:ByteArray).toList=l:=by rw[ByteArray.toList_eq]
theorem mG(l:List UInt8):(⟨l.toArray⟩:ByteArray).size=l.length:=by simp[ByteArray.size]
theorem aEL(l m:List UInt8):(⟨l.toArray⟩:ByteArray)++⟨m.toArray⟩=⟨(l++m).toArray⟩:=by
 apply Go.WideShapes.bytes_inj;simp
theorem xF(hx:fr.ev x=some (str l))(hy:fr.ev y=some (str l'))(h:l.length+l'.length≤9223372036854775807):
  Ev E fr K L ⟨dst,.binOp .add t x y t',ty,pos,aft,g⟩ (str (l++l')):=
 fM hx hy xH fun w=>by
  simp only[binOp,Op.stringOp,mG,aEL];rw[if_neg (by simp[IntKind.max,IntKind.bits,IntKind.signed];omega)];rfl
theorem jX(hx:fr.ev x=some (str l))(hy:fr.ev y=some (str l')):Ev E fr K L ⟨dst,.binOp .eql t x y t',ty,pos,aft,g⟩ (.bool (decide (l=l'))):=
 fM hx hy xH fun w=>by
  have:(l==l')=decide (l=l'):=by by_cases h:l=l' <;> simp[h]
  simp only[binOp,Op.stringOp,vB,this];rfl
theorem uI(hx:fr.ev x=some (str l))(hy:fr.ev y=some (str l')):Ev E fr K L ⟨dst,.binOp .neq t x y t',ty,pos,aft,g⟩ (.bool (decide (¬l=l'))):=
 fM hx hy xH fun w=>by
  have:(!(l==l'))=decide (¬l=l'):=by by_cases h:l=l' <;> simp[h]
  simp only[binOp,Op.stringOp,vB,this];rfl
theorem bZ{ats:Array TypeId}(ha:ats[0]?=some t)(hu:E.P.underlying t=some .string)(hx:fr.ev x=some (str l)):
  Ev E fr K L ⟨dst,.call ⟨.builtin .len,#[x],ats⟩,ty,pos,aft,g⟩ (i64 l.length):=fun a w f _=>by
 have e:Array.map a.eval #[x]= #[str l]:=by simp[f.ev hx]
 simp only[execOp,resolve,e,bind,pure,Sem.bind,invoke,builtin];simp[Builtin.len_,ha,underlying,program,bind,Sem.bind,pure,Sem.run,hu,goInt,mG]
theorem dD{c:UInt8}{j:Nat}{jv:Int}(hu:E.P.underlying t=some .string)(hx:fr.ev x=some (str l))(hy:fr.ev y=some (.int k jv))(hjv:jv=(j:Int))(hc:l[j]?=some c):
  Ev E fr K L ⟨dst,.index t x y,ty,pos,aft,g⟩ (.int .u8 c.toNat):=fun a w f _=>by
 subst hjv;simp only[execOp,f.ev hx,f.ev hy];refine dS ?_;have hj:j < l.length:=by
  rcases Nat.lt_or_ge j l.length with h|h
  ·exact h
  ·simp[List.getElem?_eq_none h]at hc
 have hc':l[j]=c:=by simpa[List.getElem?_eq_getElem hj]using hc
 have e:(⟨l.toArray⟩:ByteArray)[j]?=some c:=by
  rw[getElem?_pos (⟨l.toArray⟩:ByteArray) j (by simpa[ByteArray.size]using hj)];simp[ByteArray.getElem_eq_getElem_data,hc']
 unfold Instr.index;simp[asIntOf,underlying,program,bind,Sem.bind,pure,Sem.run,hu,e]
theorem mX(l:List UInt8)(i j:Nat):(⟨l.toArray⟩:ByteArray).extract i j=⟨((l.take j).drop i).toArray⟩:=by
 apply Go.WideShapes.bytes_inj
 simp[ByteArray.data_extract,List.drop_take]
end
end Go.SL
end
section
namespace Go.SL
section
variable{E:Env}{fr:Fr}{K:Hl}{L L':List Asn}{Q:Post}{dst:Option Tmp}{ty:TypeId}{pos:String}{aft:Array Edge}{g:Option (Nat×Bool)}{x y:Operand}{t s e sz i off b:Nat}
theorem lW{l:List UInt8}{lo hi:Operand}{k k':IntKind}{m n:Nat}{mv nv:Int}(hu:E.P.underlying t=some .string)(hx:fr.ev x=some (str l))(hl:fr.ev lo=some (.int k mv))(hh:fr.ev hi=some (.int k' nv))(hm:mv=(m:Int))(hn:nv=(n:Int))
  (h1:m≤n) (h2:n≤l.length):Ev E fr K L ⟨dst,.slice t x (some lo) (some hi) none,ty,pos,aft,g⟩ (str ((l.take n).drop m)):=fun a w f _=>by
 subst hm;subst hn
 simp only[execOp,f.ev hx,f.ev hl,f.ev hh,Option.map];refine dS ?_;unfold Instr.sliceAt;simp only[underlying,program,bind,Sem.bind,pure,Sem.run,hu,Instr.slice];simp[Instr.sliceBounds,Instr.sliceBound,asIntOf,bind,Sem.bind,pure,mG,h1,h2,mX]
theorem jJ{l:List UInt8}{lo:Operand}{k:IntKind}{m:Nat}{mv:Int}(hu:E.P.underlying t=some .string)(hx:fr.ev x=some (str l))(hl:fr.ev lo=some (.int k mv))(hm:mv=(m:Int))
  (h1:m≤l.length):Ev E fr K L ⟨dst,.slice t x (some lo) none none,ty,pos,aft,g⟩ (str (l.drop m)):=fun a w f _=>by
 subst hm;simp only[execOp,f.ev hx,f.ev hl,Option.map];refine dS ?_;unfold Instr.sliceAt;simp only[underlying,program,bind,Sem.bind,pure,Sem.run,hu,Instr.slice];simp[Instr.sliceBounds,Instr.sliceBound,asIntOf,bind,Sem.bind,pure,mG,h1,mX]
theorem eR{l:List UInt8}{hi:Operand}{k:IntKind}{n:Nat}{nv:Int}(hu:E.P.underlying t=some .string)(hx:fr.ev x=some (str l))(hh:fr.ev hi=some (.int k nv))(hn:nv=(n:Int))
  (h2:n≤l.length):Ev E fr K L ⟨dst,.slice t x none (some hi) none,ty,pos,aft,g⟩ (str (l.take n)):=fun a w f _=>by
 subst hn;simp only[execOp,f.ev hx,f.ev hh,Option.map];refine dS ?_;unfold Instr.sliceAt;simp only[underlying,program,bind,Sem.bind,pure,Sem.run,hu,Instr.slice];simp[Instr.sliceBounds,Instr.sliceBound,asIntOf,bind,Sem.bind,pure,mG,h2,mX]
theorem aG3{a:Addr}(hx:fr.ev x=some (.pointer (some a))):Ev E fr K L ⟨dst,.nilCheck x,ty,pos,aft,g⟩ (.pointer (some a)):=fun a w f _=>by
 simp only[execOp,f.ev hx];rfl
theorem aAJ{u:TypeId}{v:Value}(hx:fr.ev x=some (.iface u v)):Ev E fr K L ⟨dst,.nilCheck x,ty,pos,aft,g⟩ (.iface u v):=fun a w f _=>by
 simp only[execOp,f.ev hx];rfl
theorem aAI{u:FuncId}{p q:Array Value}(hx:fr.ev x=some (.func (.func u) p q)):Ev E fr K L ⟨dst,.nilCheck x,ty,pos,aft,g⟩ (.func (.func u) p q):=fun a w f _=>by
 simp only[execOp,f.ev hx];rfl
theorem hZ(b o n:Nat):(⟨b,o,none⟩:Addr).add n=⟨b,o+n,none⟩:=by
 unfold Addr.add;split <;> simp_all
theorem aD{o o':Nat}(ht:cO E.P s i off=true)(hx:fr.ev x=some (ptr b o))(ho':o+off=o'):Ev E fr K L ⟨dst,.fieldAddr s x i,ty,pos,aft,g⟩ (ptr b o'):=fun a w f _=>by
 subst ho';simp only[execOp,f.ev hx];refine dS ?_;unfold cO at ht;unfold Instr.fieldAt;cases hu:E.P.underlying s with
 |none=>simp[hu]at ht
 |some d=>
  cases d <;> simp[hu]at ht
  rename_i fs;cases hf:fs[i]? with
  |none=>simp[hf]at ht
  |some fl=>
   simp[hf]at ht;obtain⟨h1,h2⟩:=ht;cases hi:E.P.info? fl.type with
   |none=>simp[hi]at h2
   |some ti=>
    simp[hi]at h2;simp only[underlying,program,bind,Sem.bind,pure,Sem.run,hu,hf,Instr.sureAddr,fieldPlace,sizeOf,typeInfo,hi,h2,if_false,h1,hZ]
theorem kZ{w:World}{l:List Value}{u:TypeId}{f:Nat×Nat}{o:Nat}{v:Value}(h:w.heap[b]?=some (aU l u f))(hv:l[o]?=some v):w.cell? ⟨b,o,none⟩=some v:=by
 simp[World.cell?,h,hv]
theorem sD{P:Program}{w:World}{l:List Value}{u:TypeId}{f:Nat×Nat}{o:Nat}{v:Value}(h:w.heap[b]?=some (aU l u f))(hv:l[o]?=some v):(load ⟨b,o,none⟩).run P w=.ok v w:=by
 simp[load,Sem.run,kZ h hv]
inductive Sees (K:Hl) (L:List Asn) (b:Nat) (o:Obj):Prop where
 |own:Hs (pt b o) L→Sees K L b o
 |known:K b=some o→Sees K L b o
theorem Sees.at{w0 w:World}{F:Hl}{o:Obj}(h:Sees K L b o)(j:In w0 F K L w):w.heap[b]?=some o:=by
 cases h with
 |own f=>obtain⟨_,g⟩:=f.fnd (pt b o);exact j.mem g
 |known h=>exact j.known h
theorem aL{o:Nat}{l:List Value}{u:TypeId}{fz:Nat×Nat}{v:Value}(ht:d7 E.P t=true)(hx:fr.ev x=some (ptr b o))(hs:Sees K L b (aU l u fz))(hv:l[o]?=some v):
  Ev E fr K L ⟨dst,.load t x,ty,pos,aft,g⟩ v:=fun a w f j=>by
 simp only[execOp,f.ev hx];refine dS ?_;obtain⟨h1,h2⟩:=nE ht w
 show (loadVar t _).run E.P w=_
 unfold loadVar;rw[aP h1];exact sD (hs.at j) hv
theorem jL{P:Program}{w:World}{l:List Value}{u:TypeId}{fz:Nat×Nat}(h:w.heap[b]?=some (aU l u fz)):
  ∀(n:Nat) (vs:List Value) (o k:Nat) (acc:List Value),(l.drop (o+k)).take n=vs→vs.length=n→(loadCellsFrom ⟨b,o,none⟩ k n acc.toArray).run P w=.ok (acc++vs).toArray w:=by
 intro n;induction n with
 |zero=>intro vs o k acc h1 h2;have:vs=[]:=List.length_eq_zero_iff.1 h2;subst this;simp[loadCellsFrom,pure,Sem.run]
 |succ n ih=>
  intro vs o k acc h1 h2;cases vs with
  |nil=>simp at h2
  |cons v vs=>
   have hv:l[o+k]?=some v:=by
    have:=congrArg (·[0]?) h1
    simpa[List.getElem?_take,List.getElem?_drop]using this
   unfold loadCellsFrom;rw[hZ,aP (sD h hv)];have e:acc.toArray.push v=(acc++[v]).toArray:=by simp
   rw[e,ih vs o (k+1) (acc++[v]) ?_ (by simpa using h2)]
   ·simp
   ·have:=congrArg List.tail h1;simp only[List.tail_cons]at this;rw[←this];have h3:(l.drop (o+k))=v::l.drop (o+(k+1)):=by
     have hlt:o+k < l.length:=by
      rcases Nat.lt_or_ge (o+k) l.length with h|h
      ·exact h
      ·simp[List.getElem?_eq_none h]at hv
     rw[List.drop_eq_getElem_cons hlt];have:l[o+k]=v:=by simpa[List.getElem?_eq_getElem hlt]using hv
     rw[this];rfl
    rw[h3];simp
theorem cB{o n:Nat}{l vs:List Value}{u:TypeId}{fz:Nat×Nat}(ht:aggB E.P t n=true)(hx:fr.ev x=some (ptr b o))(hs:Sees K L b (aU l u fz))(hv:(l.drop o).take n=vs)(hn:vs.length=n):
  Ev E fr K L ⟨dst,.load t x,ty,pos,aft,g⟩ (.agg vs.toArray):=fun a w f j=>by
 simp only[execOp,f.ev hx];refine dS ?_;obtain⟨h1,h2⟩:=zC ht w
 show (loadVar t _).run E.P w=_
 unfold loadVar;rw[aP h1];simp only[if_true];rw[aP h2];have:=jL (P:=E.P) (hs.at j) n vs o 0 [] hv hn;simp only[List.nil_append]at this;unfold loadCells;rw[aP this];rfl
def newb(b:Nat)(o:Obj)(K:Hl)(L:List Asn):Value→Hl→List Asn→Prop:=fun v K' L'=>v=ptr b∧K'=K∧L'=pt b o::L
theorem dW{v:Value}{l:List Value}(hx:fr.ev x=some v)(hl:v.cells=l.toArray):EfS E fr K L ⟨dst,.box e x,ty,pos,aft,g⟩ (fun u K' L'=>∃b,newb b (aU l e) K L u K' L'):=by
 intro a w f j;have:(execOp a.eval ⟨dst,.box e x,ty,pos,aft,g⟩).run E.P w=.ok (.value (ptr w.heap.size)) {w with heap:=w.heap.push (aU l e)}:=by
  simp only[execOp,f.ev hx,Instr.box,newVar,newRow,hl];rfl
 exact⟨_,_,_,_,.inl this,⟨_,rfl,rfl,rfl⟩,Hl.le_refl _,j.alloc _⟩
def cJ(P:Program)(e:TypeId):Option (List Value):=(P.info? e).bind fun i=>i.zero.map fun z=>z.cells.toList
theorem yK{P:Program}{e:TypeId}{l:List Value}(h:cJ P e=some l):∃inf v,P.info? e=some inf∧inf.zero=some v∧v.cells=l.toArray:=by
 unfold cJ at h;cases hi:P.info? e with
 |none=>simp[hi]at h
 |some inf=>
  cases hz:inf.zero with
  |none=>simp[hi,hz]at h
  |some v=>simp[hi,hz]at h;exact⟨inf,v,rfl,hz,by rw[←h]⟩
theorem cU{l:List Value}(hz:cJ E.P e=some l):EfS E fr K L ⟨dst,.alloc e,ty,pos,aft,g⟩ (fun u K' L'=>∃b,newb b (aU l e) K L u K' L'):=by
 intro a w f j;obtain⟨inf,v,hi,hz,hl⟩:=yK hz;have:(execOp a.eval ⟨dst,.alloc e,ty,pos,aft,g⟩).run E.P w=.ok (.value (ptr w.heap.size)) {w with heap:=w.heap.push (aU l e)}:=by
  simp only[execOp,Instr.alloc,zeroValue,typeInfo,program,bind,Sem.bind,pure,Sem.run,hi,hz,newVar,newRow,hl];rfl
 exact⟨_,_,_,_,.inl this,⟨_,rfl,rfl,rfl⟩,Hl.le_refl _,j.alloc _⟩
inductive SetAt:List Value→Nat→Value→List Value→Prop where
 |zero {a:Value} {l:List Value} {v:Value}:SetAt (a::l) 0 v (v::l)
 |succ {a:Value} {l:List Value} {n:Nat} {v:Value} {l':List Value}:SetAt l n v l'→SetAt (a::l) (n+1) v (a::l')
theorem SetAt.eq{l:List Value}{n:Nat}{v:Value}{l':List Value}(h:SetAt l n v l'):l.set n v=l'∧n < l.length:=by
 induction h with
 |zero=>exact⟨rfl,by simp⟩
 |succ _ ih=>exact⟨by simp[ih.1],by simp;exact ih.2⟩
theorem nT{w:World}{l:List Value}{u:TypeId}{fz:Nat×Nat}{o:Nat}(v:Value)(h:w.heap[b]?=some (aU l u fz)):
  (w.setCell ⟨b,o,none⟩ v).heap.size=w.heap.size∧(w.setCell ⟨b,o,none⟩ v).heap[b]?=some (aU (l.set o v) u fz)∧∀z,z≠b→(w.setCell ⟨b,o,none⟩ v).heap[z]?=w.heap[z]?:=by
 refine⟨by simp[World.setCell],?_,fun z hz=>?_⟩
 ·simp[World.setCell,Array.getElem?_modify,h]
 ·simp[World.setCell,Array.getElem?_modify,Ne.symm hz]
theorem xW{P:Program}{w:World}{l:List Value}{u:TypeId}{fz:Nat×Nat}{o:Nat}{v:Value}(h:w.heap[b]?=some (aU l u fz))(ho:o < l.length)
  (hf:(fz.1≤o&&o < fz.2)=false) (h1:v.oneCell'=true):(store ⟨b,o,none⟩ v).run P w=.ok () (w.setCell ⟨b,o,none⟩ v):=by
 have hc:w.cell? ⟨b,o,none⟩=some l[o]:=kZ h (by simp[ho]);have hz:w.frozen? ⟨b,o,none⟩=false:=by
  obtain⟨lo,hi⟩:=fz;simp only[World.frozen?,h];exact hf
 cases v <;> simp[Value.oneCell']at h1 <;> simp[store,Sem.run,hc,hz,pure]
theorem bL{o:Nat}{l:List Value}{u:TypeId}{fz:Nat×Nat}{v:Value}(ht:d7 E.P t=true)(hx:fr.ev x=some (ptr b o))(hy:fr.ev y=some v)(h1:v.oneCell'=true)
  {l':List Value} (hs:Fnd (pt b (aU l u fz)) (pt b (aU l' u fz)) L L') (hset:SetAt l o v l') (hf:(fz.1≤o&&o < fz.2)=false):
  EfS E fr K L ⟨dst,.store t x y,ty,pos,aft,g⟩ (fun _ K' L''=>K'=K∧L''=L'):=by
 intro a w f j;have hb:=j.mem hs;obtain⟨rfl,ho'⟩:=hset.eq;have hc:v.cells= #[v]:=by cases v <;> simp[Value.oneCell']at h1 <;> rfl
 have hr:(execOp a.eval ⟨dst,.store t x y,ty,pos,aft,g⟩).run E.P w=.ok .skip (w.setCell ⟨b,o,none⟩ v):=by
  simp only[execOp,f.ev hx,f.ev hy];have:(Instr.storeAt t (ptr b o) v).run E.P w=.ok () (w.setCell ⟨b,o,none⟩ v):=by
   show (storeVar t _ v).run E.P w=_
   unfold storeVar;rw[aP (nE ht w).2];simp only[hc];rw[if_neg (by simp)];simp only[storeCells,hZ,Nat.add_zero]
   show (store _ _>>=fun _=>pure ()).run E.P w=_
   rw[aP (xW hb ho' hf h1)];rfl
  rw[aP this];rfl
 obtain⟨s1,s2,s3⟩:=nT (o:=o) v hb;exact⟨_,_,_,_,.inr ⟨hr,rfl⟩,⟨rfl,rfl⟩,Hl.le_refl _,j.writeAt hs s1 s2 s3⟩
end
end Go.SL
end
section
namespace Go.SL
structure El (α:Type) where
 e:TypeId
 sz:Nat
 enc:α→List Value
 len:∀x,(enc x).length=sz
 one:∀x,∀u∈enc x,u.oneCell'=true
def El.cs{α:Type}(k:El α)(xs:List α):List Value:=xs.flatMap k.enc
theorem El.cs_one{α:Type}(k:El α)(xs:List α):∀u∈k.cs xs,u.oneCell'=true:=by
 intro u hu;obtain⟨x,_,hx⟩:=List.mem_flatMap.1 hu;exact k.one x u hx
theorem El.cs_length{α:Type}(k:El α)(xs:List α):(k.cs xs).length=xs.length*k.sz:=by
 induction xs with
 |nil=>simp[El.cs]
 |cons x xs ih=>simp only[El.cs,List.flatMap_cons,List.length_append,k.len]at*;rw[ih,List.length_cons,Nat.succ_mul];omega
theorem El.cs_append{α:Type}(k:El α)(xs ys:List α):k.cs (xs++ys)=k.cs xs++k.cs ys:=by simp[El.cs]
theorem El.cs_drop{α:Type}(k:El α)(xs:List α)(i:Nat):(k.cs xs).drop (i*k.sz)=k.cs (xs.drop i):=by
 induction i generalizing xs with
 |zero=>simp
 |succ i ih=>
  cases xs with
  |nil=>simp[El.cs]
  |cons x xs=>
   have:(i+1)*k.sz=k.sz+i*k.sz:=by rw[Nat.succ_mul];omega
   rw[this,←List.drop_drop];have h2:(k.cs (x::xs)).drop k.sz=k.cs xs:=by
    simp only[El.cs,List.flatMap_cons];rw[List.drop_append_of_le_length gCV,List.drop_of_length_le gCV];rfl
   rw[h2,ih];rfl
theorem El.cs_take{α:Type}(k:El α)(xs:List α)(i:Nat):(k.cs xs).take (i*k.sz)=k.cs (xs.take i):=by
 induction i generalizing xs with
 |zero=>simp[El.cs]
 |succ i ih=>
  cases xs with
  |nil=>simp[El.cs]
  |cons x xs=>
   have:(i+1)*k.sz=k.sz+i*k.sz:=by rw[Nat.succ_mul];omega
   rw[this];simp only[El.cs,List.flatMap_cons,List.take_succ_cons];rw[List.take_append,k.len,Nat.add_sub_cancel_left,List.take_of_length_le (by rw[k.len];omega)];have:=ih xs;simp only[El.cs]at this;rw[this]
theorem El.cs_at{α:Type}(k:El α){xs:List α}{i:Nat}{x:α}(h:xs[i]?=some x){r:List Value}:((k.cs xs++r).drop (i*k.sz)).take k.sz=k.enc x:=by
 have hi:i < xs.length:=by
  rcases Nat.lt_or_ge i xs.length with h'|h'
  ·exact h'
  ·simp[List.getElem?_eq_none h']at h
 have hx:xs[i]=x:=by simpa[List.getElem?_eq_getElem hi]using h
 rw[List.drop_append_of_le_length (by rw[k.cs_length];exact Nat.mul_le_mul_right _ (Nat.le_of_lt hi)),k.cs_drop,List.drop_eq_getElem_cons hi,hx];simp only[El.cs,List.flatMap_cons];rw[List.append_assoc,List.take_append_of_le_length gCV,List.take_of_length_le gCV]
def FzOk(n:Nat)(fz:Nat×Nat):Prop:=fz.2≤fz.1∨n≤fz.1
theorem FzOk.at{n o:Nat}{fz:Nat×Nat}(h:FzOk n fz)(ho:o < n):(fz.1≤o&&o < fz.2)=false:=by
 unfold FzOk at h;simp only[Bool.and_eq_false_iff,decide_eq_false_iff_not];omega
def sl{α:Type}(z:Bool)(k:El α)(v:Value)(xs:List α):Asn:=fun h=>
 (v=.slice none 0 0∧xs=[]∧h=.emp)∨
 (∃b cap junk fz,v=.slice (some ⟨b,0,none⟩) xs.length cap∧(z=true→xs≠[])∧xs.length≤cap∧junk.length=(cap - xs.length)*k.sz∧FzOk (cap*k.sz) fz∧h=Hl.one b (aU (k.cs xs++junk) k.e fz))
def Ksl{α:Type}(k:El α)(K:Hl)(v:Value)(xs:List α):Prop:=
 (∃a c,v=.slice a 0 c∧xs=[])∨
 (∃b off cap cells fz,v=.slice (some ⟨b,off,none⟩) xs.length cap∧(∃u,K b=some (aU cells u fz))∧(cells.drop off).take (xs.length*k.sz)=k.cs xs)
theorem Ksl.mono{α:Type}{k:El α}{K K':Hl}{v:Value}{xs:List α}(h:Ksl k K v xs)(le:K.le K'):Ksl k K' v xs:=by
 rcases h with h|⟨b,off,cap,cells,fz,h1,h2,h3⟩
 ·exact .inl h
 ·obtain⟨u,h2⟩:=h2;exact .inr ⟨b,off,cap,cells,fz,h1,⟨u,le _ _ h2⟩,h3⟩
def SlAt{α:Type}(k:El α)(w:World)(v:Value)(xs:List α):Prop:=
 (∃a c,v=.slice a 0 c∧xs=[])∨
 (∃b off cap cells fz,v=.slice (some ⟨b,off,none⟩) xs.length cap∧(∃u,w.heap[b]?=some (aU cells u fz))∧(cells.drop off).take (xs.length*k.sz)=k.cs xs)
inductive SeesSl {α:Type} (k:El α) (K:Hl) (L:List Asn) (v:Value) (xs:List α):Prop where
 |own {z}:Hs (sl z k v xs) L→SeesSl k K L v xs
 |known:Ksl k K v xs→SeesSl k K L v xs
 |blk {b:Nat} {cells:List Value} {fz:Nat×Nat} {cap off:Nat}:Sees K L b (aU cells k.e fz)→v=.slice (some ⟨b,off,none⟩) xs.length cap→(cells.drop off).take (xs.length*k.sz)=k.cs xs→SeesSl k K L v xs
theorem In.slice{α:Type}{z:Bool}{k:El α}{w0 w:World}{F K:Hl}{v:Value}{xs:List α}{L:List Asn}(i:In w0 F K (sl z k v xs::L) w):SlAt k w v xs:=by
 obtain⟨h,⟨a,l,ha,hl,hal,rfl⟩,d1,d2,d3,l1,l2,l3⟩:=i.rep;rcases ha with ⟨rfl,rfl,rfl⟩|⟨b,cap,junk,fz,rfl,hz,hc,hj,hf,rfl⟩
 ·exact .inl ⟨none,0,rfl,rfl⟩
 ·refine .inr ⟨b,0,cap,k.cs xs++junk,fz,rfl,⟨k.e,l3 b _ (by simp[Hl.join,Hl.one])⟩,?_⟩
  rw[List.drop_zero,←k.cs_length,List.take_left]
theorem SeesSl.at{α:Type}{k:El α}{w0 w:World}{F K:Hl}{v:Value}{xs:List α}{L:List Asn}(h:SeesSl k K L v xs)(i:In w0 F K L w):SlAt k w v xs:=by
 cases h with
 |own f=>obtain⟨_,h1⟩:=f.split;exact(i.imp h1).slice
 |known h=>
  rcases h with h|⟨b,off,cap,cells,fz,h1,h2,h3⟩
  ·exact .inl h
  ·obtain⟨u,h2⟩:=h2;exact .inr ⟨b,off,cap,cells,fz,h1,⟨u,i.known h2⟩,h3⟩
 |blk hs h2 h3=>exact .inr ⟨_,_,_,_,_,h2,⟨_,hs.at i⟩,h3⟩
def lH(v:Value)(n:Nat):Value:=
 match v with
 | .slice (some a) _ _=>.pointer (some (a.add n))
 |_=>undef
section
variable{E:Env}{fr:Fr}{K:Hl}{L L':List Asn}{Q:Post}{dst:Option Tmp}{ty:TypeId}{pos:String}{aft:Array Edge}{g:Option (Nat×Bool)}{x y:Operand}{t s e sz i off b:Nat}{α:Type}{k:El α}{v:Value}{xs:List α}
theorem bX{ats:Array TypeId}{u:TypeId}(ha:ats[0]?=some t)(hu:E.P.underlying t=some (.slice u))(hx:fr.ev x=some v)(hs:SeesSl k K L v xs):
  Ev E fr K L ⟨dst,.call ⟨.builtin .len,#[x],ats⟩,ty,pos,aft,g⟩ (i64 xs.length):=fun a w f j=>by
 have e:Array.map a.eval #[x]= #[v]:=by simp[f.ev hx]
 simp only[execOp,resolve,e,bind,pure,Sem.bind,invoke,builtin];rcases hs.at j with ⟨a0,c,rfl,rfl⟩|⟨b,off,cap,cells,fz,rfl,⟨u0,h2⟩,h3⟩ <;>
  simp[Builtin.len_,ha,underlying,program,bind,Sem.bind,pure,Sem.run,hu,goInt]
theorem mS{P:Program}{t e sz:Nat}(h:iM P t e sz=true):∃inf,P.underlying t=some (.slice e)∧P.info? e=some inf∧inf.size=sz:=by
 unfold iM at h;cases hu:P.underlying t with
 |none=>simp[hu]at h
 |some d=>
  cases hi:P.info? e with
  |none=>cases d <;> simp[hu,hi]at h
  |some i=>cases d <;> simp[hu,hi]at h;obtain⟨rfl,h2⟩:=h;exact⟨i,rfl,rfl,h2⟩
theorem bQ{j:Nat}{jv:Int}{kk:IntKind}(ht:iM E.P t k.e k.sz=true)(hx:fr.ev x=some v)(hs:SeesSl k K L v xs)(hy:fr.ev y=some (.int kk jv))(hjv:jv=(j:Int))(hj:j < xs.length):
  Ev E fr K L ⟨dst,.indexAddr t x y,ty,pos,aft,g⟩ (lH v (j*k.sz)):=fun a w f i=>by
 subst hjv;obtain⟨inf,h1,h2,h3⟩:=mS ht;simp only[execOp,f.ev hx,f.ev hy];refine dS ?_;rcases hs.at i with ⟨a0,c,rfl,rfl⟩|⟨b,off,cap,cells,fz,rfl,⟨u0,h4⟩,h5⟩
 ·simp at hj
 ·unfold Instr.indexAt;simp[asIntOf,underlying,program,bind,Sem.bind,pure,Sem.run,h1,hj,sizeOf,typeInfo,h2,h3,lH]
theorem cV{j o:Nat}{u:α}{c:Value}(ht:d7 E.P t=true)(hx:fr.ev x=some (lH v (j*k.sz)))(hs:SeesSl k K L v xs)(hj:xs[j]?=some u)(hc:k.enc u=[c]):
  Ev E fr K L ⟨dst,.load t x,ty,pos,aft,g⟩ c:=fun a w f i=>by
 simp only[execOp,f.ev hx];refine dS ?_;have hjl:j < xs.length:=by
  rcases Nat.lt_or_ge j xs.length with h'|h'
  ·exact h'
  ·simp[List.getElem?_eq_none h']at hj
 rcases hs.at i with ⟨a0,c,rfl,rfl⟩|⟨b,off,cap,cells,fz,rfl,⟨u0,h4⟩,h5⟩
 ·simp at hj
 ·obtain⟨q1,q2⟩:=nE ht w;have hat:=k.cs_at hj (r:=[]);rw[List.append_nil,←h5]at hat;have hsz:k.sz=1:=by have:=k.len u;simpa[hc]using this.symm
  show (loadVar t (Addr.add ⟨b,off,none⟩ (j*k.sz))).run E.P w=_
  rw[hZ];unfold loadVar;rw[aP q1];refine sD h4 ?_;have:=congrArg (·[0]?) hat;simp only[hc,List.getElem?_take,List.getElem?_drop,hsz]at this ⊢;simp at this ⊢
  simpa[hjl]using this
theorem fF{j n:Nat}{u:α}(ht:aggB E.P t k.sz=true)(hx:fr.ev x=some (lH v (j*k.sz)))(hs:SeesSl k K L v xs)(hj:xs[j]?=some u):
  Ev E fr K L ⟨dst,.load t x,ty,pos,aft,g⟩ (.agg (k.enc u).toArray):=fun a w f i=>by
 simp only[execOp,f.ev hx];refine dS ?_;have hjl:j < xs.length:=by
  rcases Nat.lt_or_ge j xs.length with h'|h'
  ·exact h'
  ·simp[List.getElem?_eq_none h']at hj
 rcases hs.at i with ⟨a0,c,rfl,rfl⟩|⟨b,off,cap,cells,fz,rfl,⟨u0,h4⟩,h5⟩
 ·simp at hj
 ·obtain⟨h1,h2⟩:=zC ht w;have hat:=k.cs_at hj (r:=[]);rw[List.append_nil,←h5]at hat
  show (loadVar t (Addr.add ⟨b,off,none⟩ (j*k.sz))).run E.P w=_
  rw[hZ];unfold loadVar;rw[aP h1];simp only[if_true];rw[aP h2];have hle:(j+1)*k.sz≤xs.length*k.sz:=Nat.mul_le_mul_right _ hjl;rw[Nat.succ_mul]at hle;have hcells:(cells.drop (off+j*k.sz+0)).take k.sz=k.enc u:=by
   rw[←hat,Nat.add_zero,←List.drop_drop,List.drop_take,List.take_take]
   congr 1
   omega
  have:=jL (P:=E.P) h4 k.sz (k.enc u) (off+j*k.sz) 0 [] hcells (k.len u);simp only[List.nil_append]at this;unfold loadCells;rw[aP this];rfl
end
end Go.SL
end
section
namespace Go.SL
def kQ(ops:Array Oper)(a' a:Act):Prop:=a'.defers=a.defers∧a'.tmps.size=a.tmps.size∧∀k,(∀o∈ops.toList,o.dst≠some k)→a'.tmps[k]?=a.tmps[k]?
theorem kQ.refl(ops:Array Oper)(a:Act):kQ ops a a:=⟨rfl,rfl,fun _ _=>rfl⟩
theorem kQ.trans{ops:Array Oper}{a b c:Act}(h:kQ ops a b)(k:kQ ops b c):kQ ops a c:=⟨h.1.trans k.1,h.2.1.trans k.2.1,fun i hi=>(h.2.2 i hi).trans (k.2.2 i hi)⟩
theorem kQ.symm{ops:Array Oper}{a b:Act}(h:kQ ops a b):kQ ops b a:=⟨h.1.symm,h.2.1.symm,fun i hi=>(h.2.2 i hi).symm⟩
theorem kQ.put{ops:Array Oper}{i:Nat}{o:Oper}(h:ops[i]?=some o)(a:Act)(v:Value):kQ ops (a.put o.dst v) a:=by
 have hm:o∈ops.toList:=by simpa using Array.mem_of_getElem? h
 cases hd:o.dst with
 |none=>exact kQ.refl _ _
 |some d=>
  refine⟨rfl,by simp[Act.put],fun k hk=>?_⟩
  have hne:d≠k:=fun e=>hk o hm (by rw[hd,e])
  simp only[Act.put];rw[Array.getElem?_setIfInBounds_ne hne]
def Eff(P:Program)(ops:Array Oper)(o:Oper)(a:Act)(w:World)(Q:Post)(next:Value→World→Prop):Prop:=
 (∃u w',(execOp a.eval o).run P w=.ok (.value u) w'∧next u w')∨(∃w',(execOp a.eval o).run P w=.ok .skip w'∧next undef w')∨
 (∃ f args w1, (execOp a.eval o).run P w = .ok (.enter f args) w1 ∧ Calls P f args w1 fun e w' => match e with
  | .returned u=>next u w'
  | .panicked ch=>∀a',kQ ops a' a→Q (.panic ch) a' w'
  | .outgrown=>LetsOut Q)
theorem Eff.mono{P:Program}{ops:Array Oper}{o:Oper}{a:Act}{w:World}{Q:Post}{n n':Value→World→Prop}(h:Eff P ops o a w Q n)(k:∀u w',n u w'→n' u w'):Eff P ops o a w Q n':=by
 rcases h with ⟨u,w',h,hn⟩|⟨w',h,hn⟩|⟨f,args,w1,h,hc⟩
 ·exact .inl ⟨u,w',h,k _ _ hn⟩
 ·exact .inr (.inl ⟨w',h,k _ _ hn⟩)
 ·exact .inr (.inr ⟨f,args,w1,h,hc.mono fun e w' q=>by cases e <;> first|exact k _ _ q|exact q⟩)
theorem Eff.congr{P:Program}{ops:Array Oper}{o:Oper}{a a':Act}{w:World}{Q:Post}{n:Value→World→Prop}(h:Eff P ops o a w Q n)(he:execOp a'.eval o=execOp a.eval o)(hd:kQ ops a' a):Eff P ops o a' w Q n:=by
 unfold Eff at*;rw[he];rcases h with h|h|⟨f,args,w1,h,hc⟩
 ·exact .inl h
 ·exact .inr (.inl h)
 ·exact .inr (.inr ⟨f, args, w1, h, hc.mono fun e w' q => by
   cases e with
   |returned u=>exact q
   |panicked ch=>exact fun a'' ha=>q a'' (ha.trans hd)
   |outgrown=>exact q⟩)
theorem Eff.wp{P:Program}{ops:Array Oper}{o:Oper}{a:Act}{w:World}{Q:Post}{n:Value→World→Prop}{K:Act→World→Prop}(h:Eff P ops o a w Q n)(k:∀u w',n u w'→K (a.put o.dst u) w'):o.wp P a w K Q:=by
 unfold Oper.wp;rcases h with ⟨u,w',h,hn⟩|⟨w',h,hn⟩|⟨f,args,w1,h,hc⟩
 ·rw[h];exact k _ _ hn
 ·rw[h];exact k _ _ hn
 ·rw[h];refine hc.mono fun e w' q=>?_
  cases e with
  |returned u=>exact k _ _ q
  |panicked ch=>exact q _ (kQ.refl _ _)
  |outgrown=>exact q
def DX(E:Env)(ops:Array Oper)(eff stg:List Nat)(Q:Post):List Nat→List Asn→Hl→List Asn→Act→Prop
 | [],S,K,M,a=>∀w,In E.w0 E.F K (S++M) w→Q .normal a w
 |i::r,S,K,M,a=>
  match ops[i]? with
  |none=>False
  |some o=>
   if Region.wanted o (yielded ops a.tmps)then
    if stg.contains i then
     ∀w,In E.w0 E.F K (S++M) w→Eff E.P ops o a w Q fun u w'=>∃K' S' M',K.le K'∧In E.w0 E.F K' (S'++M') w'∧DX E ops eff stg Q r S' K' M' (a.put o.dst u)
    else if eff.contains i then
     ∀w,In E.w0 E.F K (S++M) w→Eff E.P ops o a w Q fun u w'=>∃K' M',K.le K'∧In E.w0 E.F K' (S++M') w'∧DX E ops eff stg Q r S K' M' (a.put o.dst u)
    else ∃v,(∀K' M' w,K.le K'→In E.w0 E.F K' (S++M') w→Eff E.P ops o a w Q fun u w'=>u=v∧In E.w0 E.F K' (S++M') w')∧DX E ops eff stg Q r S K M (a.put o.dst v)
   else DX E ops eff stg Q r S K M (a.put o.dst undef)
def pW(o:Oper):Bool:=match o.op with| .select _ _=>false|_=>true
theorem oP{o:Oper}(h:pW o=true):∀cs b,o.op≠.select cs b:=by
 intro cs b e;simp[pW,e]at h
theorem sH(a:Act)(x:Option Tmp)(v:Value):(a.put x v).defers=a.defers:=by cases x <;> rfl
theorem aEP{E:Env}{ops:Array Oper}{eff stg:List Nat}{S:List Asn}{Q:Post}{x i:Nat}{r:List Nat}{K:Hl}{M:List Asn}{a:Act}{ox oi:Oper}
  (hx:ops[x]?=some ox) (hi:ops[i]?=some oi) (hap:ox.apart ops oi=true) (hsx:pW ox=true) (hsi:pW oi=true) (hne:eff.contains x=false) (hnx:stg.contains x=false) (hni:stg.contains i=false)
  (h:DX E ops eff stg Q (x::i::r) S K M a):DX E ops eff stg Q (i::x::r) S K M a:=by
 obtain⟨h1,h2,h3⟩:=Oper.apart_spec hap;have sx:=oP hsx;have si:=oP hsi;have goX:∀(v u:Value),((a.put ox.dst v).put oi.dst u)=((a.put oi.dst u).put ox.dst v):=fun v u=>Act.put_comm a v u h2
 have wx:∀(u:Value),Region.wanted ox (yielded ops (a.put oi.dst u).tmps)=Region.wanted ox (yielded ops a.tmps):=fun u=>wanted_put ox a oi.dst u h3
 have wi:∀(u:Value),Region.wanted oi (yielded ops (a.put ox.dst u).tmps)=Region.wanted oi (yielded ops a.tmps):=fun u=>wanted_put oi a ox.dst u h1
 have ex:∀(u:Value),execOp (a.put oi.dst u).eval ox=execOp a.eval ox:=fun u=>execOp_put ox sx a oi.dst u h3
 have ei:∀(u:Value),execOp (a.put ox.dst u).eval oi=execOp a.eval oi:=fun u=>execOp_put oi si a ox.dst u h1
 simp only[DX,hx,hi,hne,hnx,hni,Bool.false_eq_true,if_false]at h ⊢
 by_cases cx:Region.wanted ox (yielded ops a.tmps)=true
 ·simp only[cx,if_true]at h;obtain⟨v,hv,h⟩:=h;rw[wi v]at h;have back:∀(u:Value) (K':Hl) (M':List Asn),K.le K'→DX E ops eff stg Q r S K' M' ((a.put ox.dst v).put oi.dst u)→
    (if Region.wanted ox (yielded ops (a.put oi.dst u).tmps) = true then
     ∃v,(∀K'' M'' w,K'.le K''→In E.w0 E.F K'' (S++M'') w→Eff E.P ops ox (a.put oi.dst u) w Q fun u w'=>u=v∧In E.w0 E.F K'' (S++M'') w')∧DX E ops eff stg Q r S K' M' ((a.put oi.dst u).put ox.dst v)
     else DX E ops eff stg Q r S K' M' ((a.put oi.dst u).put ox.dst undef)):=by
   intro u K' M' le hr;rw[wx u,if_pos cx];refine⟨v,fun K'' M'' w le' j=>?_,?_⟩
   ·exact(hv K'' M'' w (Hl.le_trans le le') j).congr (ex u) (kQ.put hi a u)
   ·rw[←goX];exact hr
  by_cases ci:Region.wanted oi (yielded ops a.tmps)=true
  ·simp only[ci,if_true]at h ⊢
   by_cases ce:eff.contains i=true
   ·simp only[ce,if_true]at h ⊢;intro w j;refine((h w j).congr (ei v).symm (kQ.put hx a v).symm).mono fun u w' ⟨K',M',le,j',hr⟩=>⟨K',M',le,j',back u K' M' le hr⟩
   ·simp only[ce,Bool.false_eq_true,if_false]at h ⊢;obtain⟨u,hu,hr⟩:=h;refine⟨u,fun K' M' w le j=>?_,back u K M (Hl.le_refl _) hr⟩
    exact(hu K' M' w le j).congr (ei v).symm (kQ.put hx a v).symm
  ·simp only[ci,if_false,Bool.false_eq_true]at h ⊢;exact back undef K M (Hl.le_refl _) h
 ·simp only[cx,if_false,Bool.false_eq_true]at h;rw[wi undef]at h;have back:∀(u:Value) (K':Hl) (M':List Asn),K.le K'→DX E ops eff stg Q r S K' M' ((a.put ox.dst undef).put oi.dst u)→
    (if Region.wanted ox (yielded ops (a.put oi.dst u).tmps) = true then
     ∃v,(∀K'' M'' w,K'.le K''→In E.w0 E.F K'' (S++M'') w→Eff E.P ops ox (a.put oi.dst u) w Q fun u w'=>u=v∧In E.w0 E.F K'' (S++M'') w')∧DX E ops eff stg Q r S K' M' ((a.put oi.dst u).put ox.dst v)
     else DX E ops eff stg Q r S K' M' ((a.put oi.dst u).put ox.dst undef)):=by
   intro u K' M' le hr;rw[wx u,if_neg cx,←goX];exact hr
  by_cases ci:Region.wanted oi (yielded ops a.tmps)=true
  ·simp only[ci,if_true]at h ⊢
   by_cases ce:eff.contains i=true
   ·simp only[ce,if_true]at h ⊢;intro w j;refine((h w j).congr (ei undef).symm (kQ.put hx a undef).symm).mono fun u w' ⟨K',M',le,j',hr⟩=>⟨K',M',le,j',back u K' M' le hr⟩
   ·simp only[ce,Bool.false_eq_true,if_false]at h ⊢;obtain⟨u,hu,hr⟩:=h;refine⟨u,fun K' M' w le j=>?_,back u K M (Hl.le_refl _) hr⟩
    exact(hu K' M' w le j).congr (ei undef).symm (kQ.put hx a undef).symm
  ·simp only[ci,if_false,Bool.false_eq_true]at h ⊢;exact back undef K M (Hl.le_refl _) h
def sS(ops:Array Oper)(eff stg:List Nat)(x i:Nat):Bool:=
 match ops[x]?,ops[i]? with
 |some ox,some oi=>!stg.contains x&&!stg.contains i&&!eff.contains x&&ox.apart ops oi&&pW ox&&pW oi
 |_,_=>false
theorem qS{E:Env}{ops:Array Oper}{eff stg:List Nat}{S:List Asn}{Q:Post}{x:Nat}{r r':List Nat}(k:∀S K M a,DX E ops eff stg Q r S K M a→DX E ops eff stg Q r' S K M a){K:Hl}{M:List Asn}{a:Act}
  (h:DX E ops eff stg Q (x::r) S K M a):DX E ops eff stg Q (x::r') S K M a:=by
 unfold DX at h ⊢;cases hx:ops[x]? with
 |none=>simp[hx]at h
 |some o=>
  simp only[hx]at h ⊢;split
  ·rename_i c;rw[if_pos c]at h;split
   ·rename_i c0;rw[if_pos c0]at h;exact fun w j=>(h w j).mono fun u w' ⟨K',S',M',le,j',hr⟩=>⟨K',S',M',le,j',k _ _ _ _ hr⟩
   ·rename_i c0;rw[if_neg c0]at h;split
    ·rename_i c';rw[if_pos c']at h;exact fun w j=>(h w j).mono fun u w' ⟨K',M',le,j',hr⟩=>⟨K',M',le,j',k _ _ _ _ hr⟩
    ·rename_i c';rw[if_neg c']at h;obtain⟨v,hv,hr⟩:=h;exact⟨v,hv,k _ _ _ _ hr⟩
  ·rename_i c;rw[if_neg c]at h;exact k _ _ _ _ h
theorem rV{E:Env}{ops:Array Oper}{eff stg:List Nat}{Q:Post}{i:Nat}{r2:List Nat}:∀(r1:List Nat) {S:List Asn} {K:Hl} {M:List Asn} {a:Act},
  (∀x∈r1,sS ops eff stg x i=true)→DX E ops eff stg Q (r1++i::r2) S K M a→DX E ops eff stg Q (i::(r1++r2)) S K M a
 | [],_,_,_,_,_,h=>h
 |x::r1,S,K,M,a,hs,h=>by
  have h1:DX E ops eff stg Q (x::i::(r1++r2)) S K M a:=qS (fun _ _ _ _=>rV r1 fun y hy=>hs y (List.mem_cons_of_mem _ hy)) h;have hb:=hs x (List.mem_cons_self ..);unfold sS at hb;cases hx:ops[x]? with
  |none=>simp[hx]at hb
  |some ox=>
   cases hi:ops[i]? with
   |none=>simp[hx,hi]at hb
   |some oi=>
    simp only[hx,hi,Bool.and_eq_true,Bool.not_eq_true']at hb;exact aEP hx hi hb.1.1.2 hb.1.2 hb.2 hb.1.1.1.2 hb.1.1.1.1.1 hb.1.1.1.1.2 h1
def upto(anc:List Nat):List Edge→Nat
 | []=>0
 |e::es=>if Region.binds .any e then (2 ^ e.on|||anc.getD e.on 0)|||upto anc es else upto anc es
def pR(anc:List Nat):List Oper→Nat→Bool
 | [],_=>true
 |o::os,i=>(o.after.toList.all fun e=>!Region.binds .any e||Nat.blt e.on i)&&((anc.getD i 0|||upto anc o.after.toList)==upto anc o.after.toList)&&pR anc os (i+1)
def pwB(ops:Array Oper)(eff stg anc:List Nat):List Nat→Bool
 | []=>true
 |x::r=>(r.all fun i=>(anc.getD i 0).testBit x||sS ops eff stg x i)&&!r.contains x&&pwB ops eff stg anc r
def aBB(l:List Oper)(eff stg anc ord:List Nat):Bool:=
 pR anc l 0&&pwB l.toArray eff stg anc ord&&(List.range l.length).all ord.contains&&ord.all (Nat.blt · l.length)&&Nat.beq ord.length l.length
theorem o1{anc:List Nat}{x:Nat}:∀ {es:List Edge},(upto anc es).testBit x=true→∃e∈es,Region.binds .any e=true∧(x=e.on∨(anc.getD e.on 0).testBit x=true)
 | [],h=>by simp[upto]at h
 |e::es,h=>by
  unfold upto at h;split at h
  ·rename_i hb;rw[Nat.testBit_or,Nat.testBit_or]at h;simp only[Bool.or_eq_true,Nat.testBit_two_pow,decide_eq_true_eq]at h;rcases h with (h|h)|h
   ·exact⟨e,List.mem_cons_self ..,hb,.inl h.symm⟩
   ·exact⟨e,List.mem_cons_self ..,hb,.inr h⟩
   ·obtain⟨e',he,h'⟩:=o1 h;exact⟨e',List.mem_cons_of_mem _ he,h'⟩
  ·obtain⟨e',he,h'⟩:=o1 h;exact⟨e',List.mem_cons_of_mem _ he,h'⟩
theorem oC{anc:List Nat}:∀ {os:List Oper} {j:Nat},pR anc os j=true→∀ {i:Nat} {o:Oper},os[i]?=some o→
  (∀e∈o.after.toList,Region.binds .any e=true→e.on < j+i)∧∀x,(anc.getD (j+i) 0).testBit x=true→(upto anc o.after.toList).testBit x=true
 | [],_,_,_,_,h=>by simp at h
 |o::os,j,h,i,o',ho=>by
  simp only[pR,Bool.and_eq_true,List.all_eq_true,Bool.or_eq_true,Bool.not_eq_true',beq_iff_eq]at h;obtain⟨⟨h1,h2⟩,h3⟩:=h;cases i with
  |zero=>
   simp at ho;subst ho
   refine⟨fun e he hb=>?_,fun x hx=>?_⟩
   ·rcases h1 e he with q|q
    ·rw[hb]at q;cases q
    ·simp[Nat.blt]at q;omega
   ·rw[←h2,Nat.testBit_or];simp only[Nat.add_zero]at hx;rw[hx];rfl
  |succ i=>
   have:=oC (j:=j+1) h3 (i:=i) (o:=o') (by simpa using ho);have e:j+(i+1)=j+1+i:=by omega
   rw[e];exact this
def Down(ops:Array Oper)(listed:Array Bool):Prop:=
 ∀(i:Nat) (o:Oper),listed.getD i true=true→ops[i]?=some o→∀e∈o.after.toList,Region.binds .any e=true→listed.getD e.on false=true
theorem mO{ops:Array Oper}{listed:Array Bool}{i:Nat}:i∈Region.ready .any ops listed↔
  i < ops.size∧listed.getD i true=false∧∃o,ops[i]?=some o∧∀e∈o.after.toList,Region.binds .any e=true→listed.getD e.on false=true:=by
 unfold Region.ready;simp only[List.mem_filter,List.mem_range,Bool.and_eq_true,Bool.not_eq_true']
 constructor
 ·rintro⟨h1,h2,h3⟩;refine⟨h1,h2,?_⟩
  cases ho:ops[i]? with
  |none=>simp[ho]at h3
  |some o=>
   refine⟨o,rfl,fun e he hb=>?_⟩
   simp only[ho,Option.map_some,Option.getD_some,Array.all_eq_true_iff_forall_mem]at h3;have:=h3 e (by simpa using he)
   simpa[hb]using this
 ·rintro⟨h1,h2,o,ho,h3⟩;refine⟨h1,h2,?_⟩
  simp only[ho,Option.map_some,Option.getD_some,Array.all_eq_true_iff_forall_mem];intro e he
  by_cases hb:Region.binds .any e=true
  ·simp[hb,h3 e (by simpa using he) hb]
  ·simp[hb]
theorem uD{l:List Oper}{anc:List Nat}(hA:pR anc l 0=true){listed:Array Bool}(hsz:listed.size=l.length)(hd:Down l.toArray listed){i:Nat}{o:Oper}(ho:l[i]?=some o)
  (hr:∀e∈o.after.toList,Region.binds .any e=true→listed.getD e.on false=true) {x:Nat} (hx:(anc.getD i 0).testBit x=true):listed.getD x false=true:=by
 have key:∀(n i:Nat) (o:Oper),i=n→l[i]?=some o→(∀e∈o.after.toList,Region.binds .any e=true→listed.getD e.on false=true)→(anc.getD i 0).testBit x=true→listed.getD x false=true:=by
  intro n;induction n using Nat.strongRecOn with
  |_ n ih=>
   rintro i o rfl ho hr hx;obtain⟨h1,h2⟩:=oC hA ho;simp only[Nat.zero_add]at h1 h2;obtain⟨e,he,hb,hxe⟩:=o1 (h2 x hx);rcases hxe with rfl|hxe
   ·exact hr e he hb
   ·have hlt:=h1 e he hb;have hil:i < l.length:=by
     rcases Nat.lt_or_ge i l.length with h|h
     ·exact h
     ·simp[List.getElem?_eq_none h]at ho
    have hel:l[e.on]?=some l[e.on]:=by simp[List.getElem?_eq_getElem (Nat.lt_trans hlt hil)]
    have hle:=hr e he hb;refine ih e.on hlt e.on l[e.on] rfl hel ?_ hxe
    refine hd e.on l[e.on] ?_ (by simp[Array.getElem?_eq_getElem,Nat.lt_trans hlt hil])
    rw[Array.getD_eq_getD_getElem?]at hle ⊢;have:e.on < listed.size:=by rw[hsz];exact Nat.lt_trans hlt hil
    simpa[Array.getElem?_eq_getElem this]using hle
 exact key i i o rfl ho hr hx
theorem pY{ops:Array Oper}{eff stg anc:List Nat}:∀ {r:List Nat},pwB ops eff stg anc r=true→r.Nodup∧∀(r1:List Nat) (i:Nat) (r2:List Nat),r=r1++i::r2→∀x∈r1,(anc.getD i 0).testBit x=true∨sS ops eff stg x i=true
 | [],_=>⟨List.nodup_nil,fun r1 i r2 e=>by simp at e⟩
 |y::r,h=>by
  simp only[pwB,Bool.and_eq_true,List.all_eq_true,Bool.or_eq_true,Bool.not_eq_true']at h;obtain⟨⟨h1,h2⟩,h3⟩:=h;obtain⟨n,q⟩:=pY h3;refine⟨List.nodup_cons.2 ⟨by simpa using h2,n⟩,?_⟩
  intro r1 i r2 e x hx;cases r1 with
  |nil=>simp at hx
  |cons z r1=>
   simp only[List.cons_append,List.cons.injEq]at e;obtain⟨rfl,rfl⟩:=e;rcases List.mem_cons.1 hx with rfl|hx
   ·exact h1 i (by simp)
   ·exact q r1 i r2 rfl x hx
theorem oR{ops:Array Oper}{eff stg anc:List Nat}(p:Nat→Bool):∀ {r:List Nat},pwB ops eff stg anc r=true→pwB ops eff stg anc (r.filter p)=true
 | [],_=>rfl
 |y::r,h=>by
  simp only[pwB,Bool.and_eq_true,List.all_eq_true,Bool.or_eq_true,Bool.not_eq_true']at h;obtain⟨⟨h1,h2⟩,h3⟩:=h;have ih:=oR p h3;simp only[List.filter_cons];split
  ·simp only[pwB,Bool.and_eq_true,List.all_eq_true,Bool.or_eq_true,Bool.not_eq_true',ih,and_true];refine⟨fun i hi=>h1 i (List.mem_filter.1 hi).1,?_⟩
   simp at h2 ⊢;exact fun h=>absurd h h2
  ·exact ih
theorem aJG{E:Env}{l:List Oper}{eff stg anc ord:List Nat}{Q:Post}(hA:pR anc l 0=true)(hP:pwB l.toArray eff stg anc ord=true)(hcov:∀i,i < l.length→i∈ord)(hin:∀i∈ord,i < l.length):
  ∀(fuel:Nat) (listed:Array Bool) (r:List Nat) (S:List Asn) (K:Hl) (M:List Asn) (a:Act) (w:World),listed.size=l.length→r=ord.filter (fun i=>!listed.getD i true)→fuel=r.length→Down l.toArray listed→
   DX E l.toArray eff stg Q r S K M a→In E.w0 E.F K (S++M) w→wpAny E.P .any l.toArray Q fuel listed a w:=by
 intro fuel;induction fuel with
 |zero=>
  intro listed r S K M a w hsz hr hf hd h j;have hr0:r=[]:=List.length_eq_zero_iff.1 hf.symm;subst hr0;have hall:∀i,i < l.length→listed.getD i true=true:=by
   intro i hi;cases hb:listed.getD i true with
   |true=>rfl
   |false=>
    have:i∈ord.filter (fun i=>!listed.getD i true):=List.mem_filter.2 ⟨hcov i hi,by rw[hb];rfl⟩;rw[←hr]at this;simp at this
  refine⟨?_,h w j⟩
  refine List.eq_nil_iff_forall_not_mem.2 fun i hi=>?_
  obtain⟨h1,h2,_⟩:=mO.1 hi;rw[hall i (by simpa using h1)]at h2;cases h2
 |succ fuel ih=>
  intro listed r S K M a w hsz hr hf hd h j;have hne:r≠[]:=by rintro rfl;simp at hf
  refine⟨fun h0=>?_,fun i hi=>?_⟩
  ·
   exfalso
   have key:∀(n i:Nat),i=n→i < l.length→listed.getD i true=false→False:=by
    intro n;induction n using Nat.strongRecOn with
    |_ n ihn=>
     rintro i rfl hil hb;have hi:i∈Region.ready .any l.toArray listed:=by
      refine mO.2 ⟨by simpa using hil,hb,l[i],by simp[List.getElem?_eq_getElem hil],fun e he hbd=>?_⟩
      have hlt:=(oC hA (i:=i) (o:=l[i]) (by simp[List.getElem?_eq_getElem hil])).1 e he hbd;simp only[Nat.zero_add]at hlt;have hel:e.on < listed.size:=by rw[hsz];exact Nat.lt_trans hlt hil
      cases hc:listed.getD e.on true with
      |false=>exact absurd hc (fun hc=>ihn e.on hlt e.on rfl (Nat.lt_trans hlt hil) hc)
      |true=>
       rw[Array.getD_eq_getD_getElem?]at hc ⊢
       simpa[Array.getElem?_eq_getElem hel]using hc
     rw[h0]at hi;simp at hi
   obtain⟨i,hi⟩:=List.exists_mem_of_ne_nil r hne;rw[hr]at hi;obtain⟨h1,h2⟩:=List.mem_filter.1 hi;exact key i i rfl (hin i h1) (by simpa using h2)
  ·obtain⟨h1,h2,o,ho,h3⟩:=mO.1 hi;have hil:i < l.length:=by simpa using h1
   have hol:l[i]?=some o:=by simpa using ho
   have hmem:i∈r:=by rw[hr];exact List.mem_filter.2 ⟨hcov i hil,by rw[h2];rfl⟩
   obtain⟨r1,r2,hsplit⟩:=List.append_of_mem hmem;have hPr:pwB l.toArray eff stg anc r=true:=by rw[hr];exact oR _ hP
   obtain⟨hnd,hq⟩:=pY hPr;have hsw:∀x∈r1,sS l.toArray eff stg x i=true:=by
    intro x hx;rcases hq r1 i r2 hsplit x hx with hb|hb
    ·exfalso
     have hxl:=uD hA hsz hd hol h3 hb;have hxr:x∈r:=by rw[hsplit];simp[hx]
     rw[hr]at hxr;obtain⟨hxo,hxn⟩:=List.mem_filter.1 hxr;have hxs:x < listed.size:=by rw[hsz];exact hin x hxo
     rw[Array.getD_eq_getD_getElem?]at hxl;simp[Array.getElem?_eq_getElem hxs]at hxl hxn;rw[hxl]at hxn;cases hxn
    ·exact hb
   rw[hsplit]at h;have hfront:=rV r1 hsw h;have his:i < listed.size:=by rw[hsz];exact hil
   have hr':r1++r2=ord.filter (fun k=>!(listed.setIfInBounds i true).getD k true):=by
    have hset:∀k,(listed.setIfInBounds i true).getD k true=(if k=i then true else listed.getD k true):=by
     intro k;rw[Array.getD_eq_getD_getElem?,Array.getD_eq_getD_getElem?,Array.getElem?_setIfInBounds]
     by_cases hk:i=k
     ·subst hk;simp[his]
     ·simp[hk,Ne.symm hk]
    have e1:ord.filter (fun k=>!(listed.setIfInBounds i true).getD k true)=r.filter (fun k=>k !=i):=by
     rw[hr,List.filter_filter];refine List.filter_congr fun k _=>?_
     rw[hset k]
     by_cases hk:k=i
     ·subst hk;simp
     ·simp[hk]
    rw[e1,hsplit,List.filter_append,List.filter_cons];rw[hsplit]at hnd;have hn:=List.nodup_append.1 hnd;have hn2:=List.nodup_cons.1 hn.2.1;simp only[bne_self_eq_false,Bool.false_eq_true,if_false];rw[List.filter_eq_self.2,List.filter_eq_self.2]
    ·intro k hk;simp only[bne_iff_ne];rintro rfl;exact hn2.1 hk
    ·intro k hk;simp only[bne_iff_ne];rintro rfl;exact hn.2.2 k hk k (List.mem_cons_self ..) rfl
   have hd':Down l.toArray (listed.setIfInBounds i true):=by
    intro k ok hk hok e he hb;have up:listed.getD e.on false=true→(listed.setIfInBounds i true).getD e.on false=true:=by
     intro q;rw[Array.getD_eq_getD_getElem?]at q ⊢;rw[Array.getElem?_setIfInBounds]
     by_cases hk:i=e.on
     ·subst hk;simp[his]
     ·simpa[hk]using q
    by_cases hki:k=i
    ·subst hki;rw[ho]at hok;cases hok
     exact up (h3 e he hb)
    ·refine up (hd k ok ?_ hok e he hb)
     rw[Array.getD_eq_getD_getElem?]at hk ⊢;rw[Array.getElem?_setIfInBounds,if_neg (Ne.symm hki)]at hk;exact hk
   have hlen:fuel=(r1++r2).length:=by
    have:=congrArg List.length hsplit;simp at this hf ⊢;omega
   have step:∀S' K' M' a' w',DX E l.toArray eff stg Q (r1++r2) S' K' M' a'→In E.w0 E.F K' (S'++M') w'→wpAny E.P .any l.toArray Q fuel (listed.setIfInBounds i true) a' w':=
    fun S' K' M' a' w' hdx j'=>ih _ (r1++r2) S' K' M' a' w' (by simp[hsz]) hr' hlen hd' hdx j'
   unfold wpOp;simp only[ho];unfold DX at hfront;simp only[ho]at hfront
   by_cases hw:Region.wanted o (yielded l.toArray a.tmps)=true
   ·simp only[hw,if_true]at hfront ⊢
    by_cases hg:stg.contains i=true
    ·simp only[hg,if_true]at hfront;exact .inl ((hfront w j).wp fun u w' ⟨K',S',M',le,j',hr⟩=>step S' K' M' _ w' hr j')
    simp only[hg,if_false,Bool.false_eq_true]at hfront
    by_cases he:eff.contains i=true
    ·simp only[he,if_true]at hfront;exact .inl ((hfront w j).wp fun u w' ⟨K',M',le,j',hr⟩=>step S K' M' _ w' hr j')
    ·simp only[he,if_false,Bool.false_eq_true]at hfront;obtain⟨v,hv,hr⟩:=hfront;exact .inl ((hv K M w (Hl.le_refl _) j).wp fun u w' ⟨e,j'⟩=>by subst e;exact step S K M _ w' hr j')
   ·simp only[hw,if_false,Bool.false_eq_true]at hfront ⊢;exact step S K M _ w hfront j
theorem uF{E:Env}{l:List Oper}{eff stg anc ord:List Nat}{S M:List Asn}{Q:Post}{id:Nat}{K:Hl}{a:Act}{w:World}(hm:E.P.follows .mixedOrders=true)(hok:aBB l eff stg anc ord=true)
  (h:DX E l.toArray eff stg Q ord S K M a) (j:In E.w0 E.F K (S++M) w):(Code.region id l.toArray true).wp E.P Q a w:=by
 simp only[aBB,Bool.and_eq_true,List.all_eq_true]at hok;obtain⟨⟨⟨⟨hA,hP⟩,hcov⟩,hin⟩,hle⟩:=hok;refine wp_region_any hm ?_;have hfil:ord.filter (fun i=>!(Array.replicate l.toArray.size false).getD i true)=ord:=by
  refine List.filter_eq_self.2 fun i hi=>?_
  have:i < l.length:=by have:=hin i hi;simp[Nat.blt]at this;omega
  rw[Array.getD_eq_getD_getElem?];simp[this]
 have hlen:ord.length=l.toArray.size:=by simpa using Nat.eq_of_beq_eq_true hle
 refine aJG (E:=E) (eff:=eff) (stg:=stg) (anc:=anc) (ord:=ord) hA hP (fun i hi=>by have:=hcov i (List.mem_range.2 hi);simpa using this) (fun i hi=>by have:=hin i hi;simp[Nat.blt]at this;omega) l.toArray.size _ ord S K M a _ (by simp) hfil.symm hlen.symm ?_ h (j.drew _)
 intro k ok hk hok;rw[Array.getD_eq_getD_getElem?]at hk;have:k < l.toArray.size:=by
  rcases Nat.lt_or_ge k l.toArray.size with h|h
  ·exact h
  ·rw[Array.getElem?_eq_none h]at hok;cases hok
 simp at this;simp[this]at hk
theorem In.weaken{w0 w:World}{F K K':Hl}{L:List Asn}(le:K.le K')(i:In w0 F K' L w):In w0 F K L w:=by
 obtain⟨h,hs,d1,d2,d3,l1,l2,l3⟩:=i.rep;have sub:∀x,K' x=none→K x=none:=by
  intro x hx;cases e:K x with
  |none=>rfl
  |some o=>rw[le x o e]at hx;cases hx
 exact⟨i.os,i.tape,i.output,i.size,h,hs,fun x=>(d1 x).imp_right (sub x),d2,fun x=>(d3 x).imp_left (sub x),l1,Hl.le_trans le l2,l3⟩
theorem In.left{w0 w:World}{F K:Hl}{S M:List Asn}(i:In w0 F K (S++M) w):In w0 F K S w:=by
 obtain⟨h,hs,d1,d2,d3,l1,l2,l3⟩:=i.rep;obtain⟨a,n,ha,hn,han,rfl⟩:=fH.1 hs;exact⟨i.os,i.tape,i.output,i.size,a,ha,d1,(Hl.dj_join.1 d2).1,(Hl.dj_join.1 d3).1,l1,l2,Hl.le_join_left l3⟩
theorem aO{E:Env}{x:Exit}{fr:Fr}{K:Hl}{As L M:List Asn}{Q:Post}(hL:Tks As L M)(h:D E x fr K As Q):D E x fr K L Q:=fun a w f i=>h a w f (i.imp hL.sat).left
theorem aIW{E:Env}{c:Code}{fr:Fr}{K:Hl}{As L M:List Asn}{Q:Post}(hL:Tks As L M)(h:T E c fr K As Q):T E c fr K L Q:=fun a w f i=>h a w f (i.imp hL.sat).left
def DL(E:Env)(ops:Array Oper)(eff stg:List Nat)(S:List Asn)(r:List Nat)(fr:Fr)(K:Hl)(M:List Asn)(Q:Post):Prop:=
 ∀a,FrOk E.n E.ds fr a→DX E ops eff stg Q r S K M a
inductive GOk (ops:Array Oper) (fr:Fr) (o:Oper):Bool→Prop where
 |none:o.guard=.none→GOk ops fr o true
 |on {g dg:Nat} {c:Bool}:o.guard=some (g,c)→(ops[g]?).bind (·.dst)=some dg→fr.get dg=some (.bool c)→GOk ops fr o true
 |off {g dg:Nat} {c:Bool}:o.guard=some (g,c)→(ops[g]?).bind (·.dst)=some dg→fr.get dg=some (.bool (!c))→GOk ops fr o false
 |offu {g dg:Nat} {c:Bool}:o.guard=some (g,c)→(ops[g]?).bind (·.dst)=some dg→fr.get dg=some undef→GOk ops fr o false
theorem GOk.wanted{ops:Array Oper}{fr:Fr}{o:Oper}{b:Bool}(h:GOk ops fr o b){n:Nat}{ds:List Deferred}{a:Act}(f:FrOk n ds fr a):Region.wanted o (yielded ops a.tmps)=b:=by
 cases h with
 |none h=>simp[Region.wanted,h]
 |on h1 h2 h3=>simp[Region.wanted,h1,yielded,h2,f.get _ _ h3]
 |off h1 h2 h3=>simp[Region.wanted,h1,yielded,h2,f.get _ _ h3]
 |offu h1 h2 h3=>simp[Region.wanted,h1,yielded,h2,f.get _ _ h3,undef]
section
variable{E:Env}{ops:Array Oper}{eff stg:List Nat}{S:List Asn}{r:List Nat}{fr:Fr}{K:Hl}{M L:List Asn}{Q:Post}{i:Nat}{o:Oper}
theorem t_draw{l:List Oper}{anc ord:List Nat}{id:Nat}(eff stg:List Nat)(hm:E.P.follows .mixedOrders=true)(hok:aBB l eff stg anc ord=true)(hL:Tks S L M)
  (h:DL E l.toArray eff stg S ord fr K M Q):T E (.region id l.toArray true) fr K L Q:=
 fun a w f j=>uF hm hok (h a f) (j.imp hL.sat)
theorem dl_nil(h:D E .normal fr K (S++M) Q):DL E ops eff stg S [] fr K M Q:=fun a f w j=>h a w f j
theorem dl_ev{d:Nat}{v:Value}(ho:ops[i]?=some o)(hd:o.dst=some d)(hg:GOk ops fr o true)(hg0:stg.contains i=false)(he:eff.contains i=false)(hv:Ev E fr K S o v)(hn:Nat.blt d E.n=true)
  (h:DL E ops eff stg S r ((d,v)::fr) K M Q):DL E ops eff stg S (i::r) fr K M Q:=by
 intro a f;unfold DX;simp only[ho,hg.wanted f,if_true,hg0,he,Bool.false_eq_true,if_false];refine⟨v,fun K' M' w le j=>.inl ⟨v,w,hv a w f (j.left.weaken le),rfl,j⟩,?_⟩
 rw[hd];exact h _ (f.put hn v)
theorem dl_off{d:Nat}(ho:ops[i]?=some o)(hd:o.dst=some d)(hg:GOk ops fr o false)(hn:Nat.blt d E.n=true)(h:DL E ops eff stg S r ((d,undef)::fr) K M Q):DL E ops eff stg S (i::r) fr K M Q:=by
 intro a f;unfold DX;simp only[ho,hg.wanted f,Bool.false_eq_true,if_false];rw[hd];exact h _ (f.put hn undef)
theorem dl_s{d:Nat}{N:Value→Hl→List Asn→Prop}(ho:ops[i]?=some o)(hd:o.dst=some d)(hg:GOk ops fr o true)(hg0:stg.contains i=false)(he:eff.contains i=true)(hv:EfS E fr K (S++M) o N)(hn:Nat.blt d E.n=true)
  (h:∀v K' L',N v K' L'→K.le K'→∃M',(∀x,Sat L' x→Sat (S++M') x)∧DL E ops eff stg S r ((d,v)::fr) K' M' Q):DL E ops eff stg S (i::r) fr K M Q:=by
 intro a f;unfold DX;simp only[ho,hg.wanted f,if_true,hg0,he,Bool.false_eq_true,if_false];intro w j;obtain⟨u,w',K',L',hr,hN,le,j'⟩:=hv a w f j;obtain⟨M',hM,hD⟩:=h u K' L' hN le;rcases hr with hr|⟨hr,rfl⟩
 ·exact .inl ⟨u,w',hr,K',M',le,j'.imp hM,by rw[hd];exact hD _ (f.put hn u)⟩
 ·exact .inr (.inl ⟨w',hr,K',M',le,j'.imp hM,by rw[hd];exact hD _ (f.put hn undef)⟩)
theorem dl_callv{d:Nat}{ty:TypeId}{pos:String}{aft:Array Edge}{g:Option (Nat×Bool)}{fv:Operand}{xs:List Operand}{ats:Array TypeId}{f:FuncId}{caps:Array Value}{vs:List Value}{v:Value}
  (ho:ops[i]?=some ⟨some d,.call ⟨.value fv,xs.toArray,ats⟩,ty,pos,aft,g⟩) (hg:GOk ops fr ⟨some d,.call ⟨.value fv,xs.toArray,ats⟩,ty,pos,aft,g⟩ true) (hg0:stg.contains i=false) (he:eff.contains i=true)
  (hf:fr.ev fv=some (.func (.func f) #[] caps)) (hx:fr.evs xs=some vs) (hs:Sp E.P f (vs++caps.toList) K [] (Val v K)) (hn:Nat.blt d E.n=true)
  (h:DL E ops eff stg S r ((d,v)::fr) K M Q):DL E ops eff stg S (i::r) fr K M Q:=by
 intro a fo;unfold DX;simp only[ho,hg.wanted fo,if_true,hg0,he,Bool.false_eq_true,if_false];intro w j;obtain⟨F',i1,back⟩:=In.hide (L:=[]) (N:=S++M) j;refine .inr (.inr ⟨f,_,w,lT hf hx hs fo w,(hs.2 F' w i1).mono fun e w' ⟨K',L',⟨q1,q2,q3⟩,le,j'⟩=>?_⟩)
 subst q1;subst q2;subst q3
 exact⟨_,M,Hl.le_refl _,back j',h _ (fo.put hn v)⟩
theorem rU{d:Nat}{ty:TypeId}{pos:String}{aft:Array Edge}{g:Option (Nat×Bool)}{fv:Operand}{xs:List Operand}{ats:Array TypeId}{f:FuncId}{caps:Array Value}{vs:List Value}{v:Value}
  (ho:ops[i]?=some ⟨some d,.call ⟨.value fv,xs.toArray,ats⟩,ty,pos,aft,g⟩) (hg:GOk ops fr ⟨some d,.call ⟨.value fv,xs.toArray,ats⟩,ty,pos,aft,g⟩ true) (hg0:stg.contains i=false) (he:eff.contains i=false)
  (hf:fr.ev fv=some (.func (.func f) #[] caps)) (hx:fr.evs xs=some vs) (hs:∀K',K.le K'→Sp E.P f (vs++caps.toList) K' [] (Val v K')) (hn:Nat.blt d E.n=true)
  (h:DL E ops eff stg S r ((d,v)::fr) K M Q):DL E ops eff stg S (i::r) fr K M Q:=by
 intro a fo;unfold DX;simp only[ho,hg.wanted fo,if_true,hg0,he,Bool.false_eq_true,if_false];refine⟨v,fun K1 M' w le j=>?_,h _ (fo.put hn v)⟩
 obtain⟨F',i1,back⟩:=In.hide (L:=[]) (N:=S++M') j;refine .inr (.inr ⟨f,_,w,lT hf hx (hs K1 le) fo w,((hs K1 le).2 F' w i1).mono fun e w' ⟨K',L',⟨q1,q2,q3⟩,le',j'⟩=>?_⟩)
 subst q1;subst q2;subst q3
 exact⟨rfl,back j'⟩
theorem aFX{P:Program}{f:FuncId}{args:List Value}{K:Hl}{v:Value}(h:Sp P f args K [] (Ret fun r K' L'=>r=v∧L'=[])):Sp P f args K [] (Val v K):=
 ⟨h.1,fun F w i=>(h.2 F w i).mono fun e w' ⟨K',L',⟨r,h1,h2,h3⟩,le,j⟩=>by subst h1;subst h2;subst h3;exact⟨K,[],⟨rfl,rfl,rfl⟩,Hl.le_refl _,j.weaken le⟩⟩
theorem vK{d:Nat}{ty:TypeId}{pos:String}{aft:Array Edge}{g:Option (Nat×Bool)}{fv:Operand}{xs:List Operand}{ats:Array TypeId}{f:FuncId}{caps:Array Value}{vs:List Value}{L1 L2:List Asn}{R:Ending→Hl→List Asn→Prop}
  (ho:ops[i]?=some ⟨some d,.call ⟨.value fv,xs.toArray,ats⟩,ty,pos,aft,g⟩) (hg:GOk ops fr ⟨some d,.call ⟨.value fv,xs.toArray,ats⟩,ty,pos,aft,g⟩ true) (hg0:stg.contains i=false) (he:eff.contains i=true)
  (hf:fr.ev fv=some (.func (.func f) #[] caps)) (hx:fr.evs xs=some vs) (hs:Sp E.P f (vs++caps.toList) K L1 R) (hL:Tks L1 (S++M) L2) (hn:Nat.blt d E.n=true)
  (hout:∀K' L',¬R .outgrown K' L')
  (hpan:∀ch K' L',R (.panicked ch) K' L'→K.le K'→∀a w,a.defers=E.ds→In E.w0 E.F K' (L'++L2) w→Q (.panic ch) a w)
  (h:∀v K' L',R (.returned v) K' L'→K.le K'→∃M',(∀x,Sat (L'++L2) x→Sat (S++M') x)∧DL E ops eff stg S r ((d,v)::fr) K' M' Q):DL E ops eff stg S (i::r) fr K M Q:=by
 intro a fo;unfold DX;simp only[ho,hg.wanted fo,if_true,hg0,he,Bool.false_eq_true,if_false];intro w j;obtain⟨F',i1,back⟩:=(j.imp hL.sat).hide;refine .inr (.inr ⟨f,_,w,lT hf hx hs fo w,(hs.2 F' w i1).mono fun e w' ⟨K',L',q,le,j'⟩=>?_⟩)
 cases e with
 |returned v=>
  obtain⟨M',hM,hD⟩:=h v K' L' q le;exact⟨K',M',le,(back j').imp hM,hD _ (fo.put hn v)⟩
 |panicked ch=>exact fun a' ha'=>hpan ch K' L' q le a' w' (ha'.1.trans fo.defers) (back j')
 |outgrown=>exact absurd q (hout _ _)
theorem dl_g{d:Nat}{N:Value→Hl→List Asn→Prop}(ho:ops[i]?=some o)(hd:o.dst=some d)(hg:GOk ops fr o true)(he:stg.contains i=true)(hv:EfS E fr K (S++M) o N)(hn:Nat.blt d E.n=true)
  (h:∀v K' L',N v K' L'→K.le K'→DL E ops eff stg L' r ((d,v)::fr) K' [] Q):DL E ops eff stg S (i::r) fr K M Q:=by
 intro a f;unfold DX;simp only[ho,hg.wanted f,if_true,he];intro w j;obtain⟨u,w',K',L',hr,hN,le,j'⟩:=hv a w f j;have hD:=h u K' L' hN le;rcases hr with hr|⟨hr,rfl⟩
 ·exact .inl ⟨u,w',hr,K',L',[],le,by simpa using j',by rw[hd];exact hD _ (f.put hn u)⟩
 ·exact .inr (.inl ⟨w',hr,K',L',[],le,by simpa using j',by rw[hd];exact hD _ (f.put hn undef)⟩)
theorem vL{N:Value→Hl→List Asn→Prop}(ho:ops[i]?=some o)(hd:o.dst=none)(hg:GOk ops fr o true)(he:stg.contains i=true)(hv:EfS E fr K (S++M) o N)
  (h:∀v K' L',N v K' L'→K.le K'→DL E ops eff stg L' r fr K' [] Q):DL E ops eff stg S (i::r) fr K M Q:=by
 intro a f;unfold DX;simp only[ho,hg.wanted f,if_true,he];intro w j;obtain⟨u,w',K',L',hr,hN,le,j'⟩:=hv a w f j;have hD:=h u K' L' hN le;rcases hr with hr|⟨hr,rfl⟩
 ·exact .inl ⟨u,w',hr,K',L',[],le,by simpa using j',by rw[hd];exact hD _ f⟩
 ·exact .inr (.inl ⟨w',hr,K',L',[],le,by simpa using j',by rw[hd];exact hD _ f⟩)
theorem fV{d:Nat}{ty:TypeId}{pos:String}{aft:Array Edge}{g:Option (Nat×Bool)}{fv:Operand}{xs:List Operand}{ats:Array TypeId}{f:FuncId}{caps:Array Value}{vs:List Value}{L1 L2:List Asn}{R:Ending→Hl→List Asn→Prop}
  (ho:ops[i]?=some ⟨some d,.call ⟨.value fv,xs.toArray,ats⟩,ty,pos,aft,g⟩) (hg:GOk ops fr ⟨some d,.call ⟨.value fv,xs.toArray,ats⟩,ty,pos,aft,g⟩ true) (he:stg.contains i=true)
  (hf:fr.ev fv=some (.func (.func f) #[] caps)) (hx:fr.evs xs=some vs) (hs:Sp E.P f (vs++caps.toList) K L1 R) (hL:Tks L1 (S++M) L2) (hn:Nat.blt d E.n=true)
  (hout:∀K' L',¬R .outgrown K' L')
  (hpan:∀ch K' L',R (.panicked ch) K' L'→K.le K'→∀a w,a.defers=E.ds→In E.w0 E.F K' (L'++L2) w→Q (.panic ch) a w)
  (h:∀v K' L',R (.returned v) K' L'→K.le K'→DL E ops eff stg (L'++L2) r ((d,v)::fr) K' [] Q):DL E ops eff stg S (i::r) fr K M Q:=by
 intro a fo;unfold DX;simp only[ho,hg.wanted fo,if_true,he];intro w j;obtain⟨F',i1,back⟩:=(j.imp hL.sat).hide;refine .inr (.inr ⟨f,_,w,lT hf hx hs fo w,(hs.2 F' w i1).mono fun e w' ⟨K',L',q,le,j'⟩=>?_⟩)
 cases e with
 |returned v=>exact⟨K',L'++L2,[],le,by simpa using back j',h v K' L' q le _ (fo.put hn v)⟩
 |panicked ch=>exact fun a' ha'=>hpan ch K' L' q le a' w' (ha'.1.trans fo.defers) (back j')
 |outgrown=>exact absurd q (hout _ _)
def aXD(ops:Array Oper)(fr':Fr):Bool:=fr'.all fun p=>ops.toList.all fun o=>match o.dst with|some d=>!Nat.beq d p.1|none=>true
theorem aYS{fr:Fr}{k:Nat}{v:Value}(h:fr.get k=some v):∃p∈fr,p.1=k:=by
 induction fr with
 |nil=>cases h
 |cons p r ih=>
  obtain⟨j,u⟩:=p;simp only[Fr.get]at h
  by_cases hk:j=k
  ·exact⟨_,List.mem_cons_self ..,hk⟩
  ·rw[beqF hk]at h;obtain⟨q,hq,e⟩:=ih h;exact⟨q,List.mem_cons_of_mem _ hq,e⟩
theorem FrOk.alike{n:Nat}{ds:List Deferred}{fr fr':Fr}{a a':Act}{ops:Array Oper}(f:FrOk n ds fr a)(k:Kp fr fr')(hs:aXD ops fr'=true)(h:kQ ops a' a):FrOk n ds fr' a':=by
 have f2:=f.keep k;refine⟨h.1.trans f.defers,h.2.1.trans f.size,fun j v e=>?_⟩
 obtain⟨p,hp,rfl⟩:=aYS e;rw[h.2.2 p.1 ?_];exact f2.get _ _ e
 intro o ho hd;have:=List.all_eq_true.1 (List.all_eq_true.1 hs p hp) o ho;rw[hd]at this;simp at this
theorem aJU{d:Nat}{ty:TypeId}{pos:String}{aft:Array Edge}{g:Option (Nat×Bool)}{fv:Operand}{xs:List Operand}{ats:Array TypeId}{f:FuncId}{caps:Array Value}{vs:List Value}{L1 L2:List Asn}{R:Ending→Hl→List Asn→Prop}{fr':Fr}
  (ho:ops[i]?=some ⟨some d,.call ⟨.value fv,xs.toArray,ats⟩,ty,pos,aft,g⟩) (hg:GOk ops fr ⟨some d,.call ⟨.value fv,xs.toArray,ats⟩,ty,pos,aft,g⟩ true) (he:stg.contains i=true)
  (hf:fr.ev fv=some (.func (.func f) #[] caps)) (hx:fr.evs xs=some vs) (hs:Sp E.P f (vs++caps.toList) K L1 R) (hL:Tks L1 (S++M) L2) (hn:Nat.blt d E.n=true)
  (hout:∀K' L',¬R .outgrown K' L') (hk:Kp fr fr') (has:aXD ops fr'=true)
  (hpan:∀ch K' L',R (.panicked ch) K' L'→K.le K'→D E (.panic ch) fr' K' (L'++L2) Q)
  (h:∀v K' L',R (.returned v) K' L'→K.le K'→DL E ops eff stg (L'++L2) r ((d,v)::fr) K' [] Q):DL E ops eff stg S (i::r) fr K M Q:=by
 intro a fo;unfold DX;simp only[ho,hg.wanted fo,if_true,he];intro w j;obtain⟨F',i1,back⟩:=(j.imp hL.sat).hide;refine .inr (.inr ⟨f,_,w,lT hf hx hs fo w,(hs.2 F' w i1).mono fun e w' ⟨K',L',q,le,j'⟩=>?_⟩)
 cases e with
 |returned v=>exact⟨K',L'++L2,[],le,by simpa using back j',h v K' L' q le _ (fo.put hn v)⟩
 |panicked ch=>exact fun a' ha'=>hpan ch K' L' q le a' w' (fo.alike hk has ha') (back j')
 |outgrown=>exact absurd q (hout _ _)
theorem kS{d:Nat}{ty:TypeId}{pos:String}{aft:Array Edge}{g:Option (Nat×Bool)}{fv:Operand}{xs:List Operand}{ats:Array TypeId}{f:FuncId}{caps:Array Value}{vs:List Value}{L1 L2:List Asn}{N:Value→Hl→List Asn→Prop}
  (ho:ops[i]?=some ⟨some d,.call ⟨.value fv,xs.toArray,ats⟩,ty,pos,aft,g⟩) (hg:GOk ops fr ⟨some d,.call ⟨.value fv,xs.toArray,ats⟩,ty,pos,aft,g⟩ true) (he:stg.contains i=true)
  (hf:fr.ev fv=some (.func (.func f) #[] caps)) (hx:fr.evs xs=some vs) (hs:Sp E.P f (vs++caps.toList) K L1 (Ret N)) (hL:Tks L1 (S++M) L2) (hn:Nat.blt d E.n=true)
  (h:∀v K' L',N v K' L'→K.le K'→DL E ops eff stg (L'++L2) r ((d,v)::fr) K' [] Q):DL E ops eff stg S (i::r) fr K M Q:=
 fV ho hg he hf hx hs hL hn (fun K' L' ⟨u,e,n⟩=>by cases e) (fun ch K' L' ⟨u,e,n⟩=>by cases e) (fun v K' L' ⟨u,e,n⟩ le=>by cases e;exact h v K' L' n le)
theorem cX:∀(L:List Asn),Tks L L []
 | []=>.nil
 |_::L=>.cons .here (cX L)
theorem aAB(d:Nat){b:Bool}(e:fr.get d=some (.bool b))(ht:b=true→DL E ops eff stg S r ((d,.bool true)::fr) K M Q)(hf:b=false→DL E ops eff stg S r ((d,.bool false)::fr) K M Q):DL E ops eff stg S r fr K M Q:=by
 intro a f;have key : ∀ c, b = c → FrOk E.n E.ds ((d, .bool c) :: fr) a := fun c hc => ⟨f.defers, f.size, fun k v h => by
  simp only[Fr.get]at h
  by_cases hk:d=k
  ·subst hk;simp at h;subst h;rw[←hc];exact f.get _ _ e
  ·rw[beqF hk]at h;exact f.get _ _ h⟩
 cases b
 ·exact hf rfl a (key _ rfl)
 ·exact ht rfl a (key _ rfl)
theorem dl_splitp(d:Nat){p:Prop}[Decidable p](e:fr.get d=some (.bool (decide p)))(ht:p→DL E ops eff stg S r ((d,.bool true)::fr) K M Q)(hf:¬p→DL E ops eff stg S r ((d,.bool false)::fr) K M Q):DL E ops eff stg S r fr K M Q:=
 aAB d e (fun h=>ht (of_decide_eq_true h)) (fun h=>hf (of_decide_eq_false h))
end
end Go.SL
end
section
namespace Go.SL
inductive Spl:List Value→Nat→List Value→List Value→Prop where
 |nil {l:List Value}:Spl l 0 [] l
 |cons {a c:Value} {l cs l':List Value}:Spl l 0 cs l'→Spl (a::l) 0 (c::cs) (c::l')
 |skip {a:Value} {l cs l':List Value} {n:Nat}:Spl l n cs l'→Spl (a::l) (n+1) cs (a::l')
theorem Spl.eq{l cs l':List Value}{n:Nat}(h:Spl l n cs l'):l'=l.take n++cs++l.drop (n+cs.length)∧n+cs.length≤l.length:=by
 induction h with
 |nil=>simp
 |cons _ ih=>obtain⟨h1,h2⟩:=ih;simp at h1 h2 ⊢;exact⟨h1,h2⟩
 | @skip a l cs l' n _ ih=>
  obtain⟨h1,h2⟩:=ih;have:n+1+cs.length=(n+cs.length)+1:=by omega
  rw[this];simp at h1 h2 ⊢;exact⟨h1,h2⟩
def eJ(P:Program)(t:TypeId):Option (List Value×List (Nat×Nat)):=
 match P.underlying t,P.info? t with
 |some (.struct fs),some i=>match i.zero with
  |some z=>some (z.cells.toList,fs.toList.map fun f=>(f.offset,match P.info? f.type with|some ti=>ti.size|none=>0))
  |none=>none
 |_,_=>none
inductive Fill (fr:Fr) (place:Nat→Option (Nat×Nat)):List Value→List (Nat×Operand)→List Value→Prop where
 |nil {z:List Value}:Fill fr place z [] z
 |cons {i off:Nat} {x:Operand} {v:Value} {cs z z' out:List Value} {rest:List (Nat×Operand)}:fr.ev x=some v→v.cells=cs.toArray→place i=some (off,cs.length)→Spl z off cs z'→Fill fr place z' rest out→Fill fr place z ((i,x)::rest) out
theorem aNJ(off:Nat):∀(cs:List Value) (j:Nat) (z:Array Value),off+j+cs.length≤z.size→
  (cs.zipIdx j).foldl (fun(a:Array Value) (p:Value×Nat)=>a.setIfInBounds (off+p.2) p.1) z=(z.toList.take (off+j)++cs++z.toList.drop (off+j+cs.length)).toArray:=by
 intro cs;induction cs with
 |nil=>intro j z h;simp
 |cons c cs ih=>
  intro j z h;simp only[List.zipIdx_cons,List.foldl_cons];rw[ih (j+1) _ (by simp at h ⊢;omega)];simp at h
  congr 1
  have e1:off+(j+1)=off+j+1:=by omega
  have e2:off+(j+1)+cs.length=off+j+(c::cs).length:=by simp;omega
  rw[e2,e1];simp only[Array.toList_setIfInBounds];rw[List.take_set,List.drop_set_of_lt (by simp)];rw[List.take_succ_eq_append_getElem (by simpa using (by omega:off+j < z.size))];rw[List.set_append_right _ _ gBV];simp;have:off+j - min (off+j) z.size=0:=by omega
  rw[this];simp
theorem aL1{fr:Fr}{place:Nat→Option (Nat×Nat)}{z out:List Value}{parts:List (Nat×Operand)}(h:Fill fr place z parts out){n:Nat}{ds:List Deferred}{a:Act}(f:FrOk n ds fr a):
  Instr.fill place z.toArray (parts.map fun p=>(p.1,a.eval p.2))=some out.toArray:=by
 induction h with
 |nil=>rfl
 | @cons i off x v cs z z' out rest h1 h2 h3 h4 _ ih=>
  obtain⟨e1,e2⟩:=h4.eq;simp only[List.map_cons,f.ev h1,Instr.fill];simp only[h3,h2,List.size_toArray];rw[if_neg gBV];have hz:(cs.toArray.zipIdx.foldl (fun(a:Array Value) (p:Value×Nat)=>a.setIfInBounds (off+p.2) p.1) z.toArray)=z'.toArray:=by
   rw[←Array.foldl_toList];have:=aNJ off cs 0 z.toArray (by simpa using e2);simp at this ⊢;rw[this,e1];simp
  have hz':(cs.toArray.zipIdx.foldl (fun cs (x:Value×Nat)=>match x with|(c,j)=>cs.setIfInBounds (off+j) c) z.toArray)=z'.toArray:=hz;rw[hz'];exact ih
section
variable{E:Env}{fr:Fr}{K:Hl}{L L':List Asn}{Q:Post}{dst:Option Tmp}{ty:TypeId}{pos:String}{aft:Array Edge}{g:Option (Nat×Bool)}{x y:Operand}{t t' s e sz i off b:Nat}{α:Type}{k:El α}{v u:Value}{xs:List α}
theorem aHL{P:Program}(w:World):∀(fs:List Field),(∀f∈fs,∃ti,P.info? f.type=some ti)→
  (fs.mapM (fun f=>do pure (f.offset,←sizeOf f.type):Field→Sem (Nat×Nat))).run P w=.ok (fs.map fun f=>(f.offset,match P.info? f.type with|some ti=>ti.size|none=>0)) w:=by
 intro fs;induction fs with
 |nil=>intro _;rfl
 |cons f fs ih=>
  intro h;obtain⟨ti,hti⟩:=h f (List.mem_cons_self ..);rw[List.mapM_cons];have h1:((do pure (f.offset,←sizeOf f.type)):Sem (Nat×Nat)).run P w=.ok (f.offset,ti.size) w:=by
   simp only[sizeOf,typeInfo,program,bind,Sem.bind,pure,Sem.run,hti]
  rw[aP h1,aP (ih fun g hg=>h g (List.mem_cons_of_mem _ hg))];simp[pure,Sem.run,hti]
def eI(P:Program)(t:TypeId):Bool:=
 match P.underlying t with
 |some (.struct fs)=>fs.toList.all fun f=>(P.info? f.type).isSome
 |_=>false
theorem aMX{P:Program}{z out:List Value}{places:List (Nat×Nat)}{parts:List (Nat×Value)}(hb:eJ P t=some (z,places))(hf:eI P t=true)
  (h:Instr.fill (places.toArray[·]?) z.toArray parts=some out.toArray) (w:World):(Instr.build t parts.toArray).run P w=.ok (.agg out.toArray) w:=by
 unfold eJ at hb;unfold eI at hf;cases hu:P.underlying t with
 |none=>simp[hu]at hb
 |some d=>
  cases d <;> simp[hu]at hb
  rename_i fs;cases hi:P.info? t with
  |none=>simp[hi]at hb
  |some ti=>
   cases hz:ti.zero with
   |none=>simp[hi,hz]at hb
   |some zv=>
    simp[hi,hz]at hb;obtain⟨rfl,rfl⟩:=hb;simp only[hu,List.all_eq_true]at hf;have hm:=aHL (P:=P) w fs.toList (fun f hfm=>by have:=hf f hfm;cases hx:P.info? f.type with|none=>simp[hx]at this|some ti=>exact⟨ti,rfl⟩);unfold Instr.build;have h1:(zeroValue t).run P w=.ok zv w:=by simp only[zeroValue,typeInfo,program,bind,Sem.bind,pure,Sem.run,hi,hz]
    rw[aP h1];have h2:(underlying t).run P w=.ok (.struct fs) w:=by simp only[underlying,program,bind,Sem.bind,pure,Sem.run,hu]
    simp only[];rw[aP h2];simp only[];have h3:(fs.mapM (fun f=>do pure (f.offset,←sizeOf f.type):Field→Sem (Nat×Nat))).run P w=.ok (fs.toList.map fun f=>(f.offset,match P.info? f.type with|some ti=>ti.size|none=>0)).toArray w:=by
     rw[Array.mapM_eq_mapM_toList]
     show (Functor.map _ _:Sem _).run P w=_
     simp only[Functor.map]
     show (Sem.bind _ _).run P w=_
     have:=aP (P:=P) (f:=fun l=>(pure l.toArray:Sem (Array (Nat×Nat)))) hm;exact this
    rw[aP h3];have h4:zv.cells.toList.toArray=zv.cells:=by simp
    rw[h4]at h;simp only[h]
    rfl
theorem cR{z out:List Value}{places:List (Nat×Nat)}{parts:List (Nat×Operand)}(hb:eJ E.P t=some (z,places))(hf:eI E.P t=true)(h:Fill fr (places.toArray[·]?) z parts out):
  Ev E fr K L ⟨dst,.build t parts.toArray,ty,pos,aft,g⟩ (.agg out.toArray):=fun a w f j=>by
 have e:Array.map (fun(p:Nat×Operand)=>(p.1,a.eval p.2)) parts.toArray=(parts.map fun p=>(p.1,a.eval p.2)).toArray:=by simp
 simp only[execOp];refine dS ?_;have:=aMX hb hf (aL1 h f) w;rw[←e]at this;exact this
theorem kT{fs:Array Field}{fl:Field}{cs:List Value}{c:Value}(hu:E.P.underlying t=some (.struct fs))(hi:fs[i]?=some fl)(hs:d7 E.P fl.type=true)(hx:fr.ev x=some (.agg cs.toArray))(hc:cs[fl.offset]?=some c):
  Ev E fr K L ⟨dst,.field t x i,ty,pos,aft,g⟩ c:=fun a w f j=>by
 simp only[execOp,f.ev hx];refine dS ?_;unfold Instr.field;have h2:(underlying t).run E.P w=.ok (.struct fs) w:=by simp only[underlying,program,bind,Sem.bind,pure,Sem.run,hu]
 rw[aP h2];simp only[hi];have h3:(asAgg (.agg cs.toArray)).run E.P w=.ok cs.toArray w:=rfl;rw[aP h3];unfold part;rw[aP (nE hs w).1];simp[hc,pure,Sem.run]
theorem oU{P:Program}{u:TypeId}{fz:Nat×Nat}:∀(cs:List Value) (o k:Nat) (w:World) (l:List Value),w.heap[b]?=some (aU l u fz)→o+k+cs.length≤l.length→
  (∀j,j < cs.length→(fz.1≤o+k+j&&o+k+j < fz.2)=false)→(∀c∈cs,c.oneCell'=true)→
  ∃w',(storeCells ⟨b,o,none⟩ cs k).run P w=.ok () w'∧w'.heap.size=w.heap.size∧w'.heap[b]?=some (aU (l.take (o+k)++cs++l.drop (o+k+cs.length)) u fz)∧(∀z,z≠b→w'.heap[z]?=w.heap[z]?)∧w'={w with heap:=w'.heap}:=by
 intro cs;induction cs with
 |nil=>intro o k w l h _ _ _;exact⟨w,rfl,rfl,by simpa using h,fun _ _=>rfl,rfl⟩
 |cons c cs ih=>
  intro o k w l h hl hf h1;simp at hl;have hs:=xW (P:=P) h (o:=o+k) aH (by simpa using hf 0 (by simp)) (h1 c (List.mem_cons_self ..));obtain⟨s1,s2,s3⟩:=nT (o:=o+k) c h;have hf':∀j,j < cs.length→(fz.1≤o+(k+1)+j&&o+(k+1)+j < fz.2)=false:=by
   intro j hj;have:=hf (j+1) gBV;have e:o+(k+1)+j=o+k+(j+1):=by omega
   rw[e];exact this
  obtain⟨w',r1,r2,r3,r4,r5⟩:=ih o (k+1) (w.setCell ⟨b,o+k,none⟩ c) (l.set (o+k) c) s2 gBV hf' (fun c' hc=>h1 c' (List.mem_cons_of_mem _ hc));refine⟨w',?_,r2.trans s1,?_,fun z hz=>(r4 z hz).trans (s3 z hz),?_⟩
  ·simp only[storeCells,hZ];rw[aP hs];exact r1
  ·rw[r3]
   congr 2
   have e1:o+(k+1)=o+k+1:=by omega
   rw[e1,List.take_set,List.drop_set_of_lt aH,List.take_succ_eq_append_getElem aH,List.set_append_right _ _ gBV];have:o+k - (List.take (o+k) l).length=0:=by simp;omega
   rw[this];simp
   congr 1;omega
  ·rw[r5];rfl
theorem cM{o n:Nat}{l l' cs:List Value}{u:TypeId}{fz:Nat×Nat}(ht:aggB E.P t n=true)(hx:fr.ev x=some (ptr b o))(hy:fr.ev y=some (.agg cs.toArray))(hn:cs.length=n)
  (hs:Fnd (pt b (aU l u fz)) (pt b (aU l' u fz)) L L') (h1:∀c∈cs,c.oneCell'=true) (hspl:Spl l o cs l') (hf:∀j,j < n→(fz.1≤o+j&&o+j < fz.2)=false):
  EfS E fr K L ⟨dst,.store t x y,ty,pos,aft,g⟩ (fun _ K' L''=>K'=K∧L''=L'):=by
 intro a w f j;have hb:=j.mem hs;obtain⟨e1,e2⟩:=hspl.eq;obtain⟨w',r1,r2,r3,r4,r5⟩:=oU (P:=E.P) cs o 0 w l hb (by simpa using e2) (fun i hi=>by simpa using hf i (hn▸hi)) h1;have hr:(execOp a.eval ⟨dst,.store t x y,ty,pos,aft,g⟩).run E.P w=.ok .skip w':=by
  simp only[execOp,f.ev hx,f.ev hy];have:(Instr.storeAt t (ptr b o) (.agg cs.toArray)).run E.P w=.ok () w':=by
   show (storeVar t _ _).run E.P w=_
   unfold storeVar;rw[aP (zC ht w).2];have hne:¬((Value.agg cs.toArray).cells.size≠n):=by simp[Value.cells,hn]
   rw[if_neg hne];exact r1
  rw[aP this];rfl
 refine⟨_,_,_,_,.inr ⟨hr,rfl⟩,⟨rfl,rfl⟩,Hl.le_refl _,?_⟩
 rw[r5];refine j.writeAt hs r2 ?_ r4
 rw[r3,e1];simp
theorem dG{d:TypeDesc}(hu:E.P.underlying t=some d)(hd:∀ms,d≠.interface ms)(hx:fr.ev x=some v):Ev E fr K L ⟨dst,.makeInterface t x,ty,pos,aft,g⟩ (.iface t v):=fun a w f j=>by
 simp only[execOp,f.ev hx];refine dS ?_;unfold Instr.makeInterface;have h2:(underlying t).run E.P w=.ok d w:=by simp only[underlying,program,bind,Sem.bind,pure,Sem.run,hu]
 rw[aP h2];cases d <;> first|rfl|exact absurd rfl (hd _)
theorem aR{vs:List Value}(hx:fr.ev x=some (.tuple vs.toArray))(hi:vs[i]?=some v):Ev E fr K L ⟨dst,.extract x i,ty,pos,aft,g⟩ v:=fun a w f j=>by
 simp only[execOp,f.ev hx];refine dS ?_;simp[Instr.extract,hi,pure,Sem.run]
theorem iB{fn:Fn}{fs cs:List Operand}{vf vc:List Value}(hf:fr.evs fs=some vf)(hc:fr.evs cs=some vc):Ev E fr K L ⟨dst,.makeFunc fn fs.toArray cs.toArray,ty,pos,aft,g⟩ (.func fn vf.toArray vc.toArray):=fun a w f j=>by
 have e1:Array.map a.eval fs.toArray=vf.toArray:=by simp[f.evs hf]
 have e2:Array.map a.eval cs.toArray=vc.toArray:=by simp[f.evs hc]
 simp only[execOp,e1,e2]
 rfl
theorem fK{d:TypeDesc}{xt at_:TypeId}(hu:E.P.underlying at_=some d)(hd:∀ms,d≠.interface ms)(hx:fr.ev x=some (.iface at_ v)):
  Ev E fr K L ⟨dst,.typeAssert x xt at_ true,ty,pos,aft,g⟩ (.tuple #[v,.bool true]):=fun a w f j=>by
 simp only[execOp,f.ev hx];refine dS ?_;unfold Instr.typeAssert;have h2:(underlying at_).run E.P w=.ok d w:=by simp only[underlying,program,bind,Sem.bind,pure,Sem.run,hu]
 rw[aP h2];cases d <;> first|(simp[pure,Sem.run];done)|exact absurd rfl (hd _)
theorem aG0{d:TypeDesc}{xt at_ u:TypeId}{inf:TypeInfo}{z:Value}(hu:E.P.underlying at_=some d)(hd:∀ms,d≠.interface ms)(hne:Nat.beq u at_=false)(hi:E.P.info? at_=some inf)(hz:inf.zero=some z)(hx:fr.ev x=some (.iface u v)):
  Ev E fr K L ⟨dst,.typeAssert x xt at_ true,ty,pos,aft,g⟩ (.tuple #[z,.bool false]):=fun a w f j=>by
 simp only[execOp,f.ev hx];refine dS ?_;unfold Instr.typeAssert;have h2:(underlying at_).run E.P w=.ok d w:=by simp only[underlying,program,bind,Sem.bind,pure,Sem.run,hu]
 rw[aP h2];have h1:(zeroValue at_).run E.P w=.ok z w:=by simp only[zeroValue,typeInfo,program,bind,Sem.bind,pure,Sem.run,hi,hz]
 cases d <;> first|(simp only[if_neg (beqN hne),if_true];rw[aP h1];rfl)|exact absurd rfl (hd _)
def eQ(P:Program)(t:TypeId):Option Value:=(P.info? t).bind (·.zero)
theorem dH{d:TypeDesc}{xt at_ u:TypeId}{z:Value}(hu:E.P.underlying at_=some d)(hd:∀ms,d≠.interface ms)(hne:Nat.beq u at_=false)(hz:eQ E.P at_=some z)(hx:fr.ev x=some (.iface u v)):
  Ev E fr K L ⟨dst,.typeAssert x xt at_ true,ty,pos,aft,g⟩ (.tuple #[z,.bool false]):=by
 unfold eQ at hz;cases hi:E.P.info? at_ with
 |none=>simp[hi]at hz
 |some inf=>simp[hi]at hz;exact aG0 hu hd hne hi hz hx
theorem aNE{P:Program}(d:Nat){p q:Bool}(hu:P.underlying t=some .bool)(w:World):(Op.equalIn (d+1) t (.bool p) (.bool q)).run P w=.ok (p==q) w:=by
 simp only[Op.equalIn,underlying,program,bind,Sem.bind,pure,Sem.run,hu]
theorem aRJ{P:Program}(d:Nat){el:TypeId}{pa:Option Addr}(hu:P.underlying t=some (.pointer el))(w:World):(Op.equalIn (d+1) t (.pointer pa) (.pointer none)).run P w=.ok pa.isNone w:=by
 cases pa <;> simp only[Op.equalIn,underlying,program,bind,Sem.bind,pure,Sem.run,hu,Option.isNone]
theorem aLX{p q:Bool}(hu:E.P.underlying t=some .bool)(hx:fr.ev x=some (.bool p))(hy:fr.ev y=some (.bool q)):Ev E fr K L ⟨dst,.binOp .neq t x y t',ty,pos,aft,g⟩ (.bool (!(p==q))):=
 fM hx hy (fun w=>rfl) fun w=>by
  have h:(Op.equal t (.bool p) (.bool q)).run E.P w=.ok (p==q) w:=aNE 9999 hu w
  show (do pure (Value.bool (!(←Op.equal t (.bool p) (.bool q)))):Sem Value).run E.P w=_
  rw[aP h];rfl
theorem aLT{P:Program}{el:TypeId}{pa:Option Addr}(hu:P.underlying t=some (.pointer el))(w:World):(Op.equal t (.pointer pa) (.pointer none)).run P w=.ok pa.isNone w:=aRJ 9999 hu w
theorem iZ{el:TypeId}{pa:Option Addr}(hu:E.P.underlying t=some (.pointer el))(hx:fr.ev x=some (.pointer pa))(hy:fr.ev y=some (.pointer none)):Ev E fr K L ⟨dst,.binOp .eql t x y t',ty,pos,aft,g⟩ (.bool pa.isNone):=
 fM hx hy (fun w=>rfl) fun w=>by
  show (do pure (Value.bool (←Op.equal t (.pointer pa) (.pointer none))):Sem Value).run E.P w=_
  rw[aP (aLT hu w)];rfl
theorem aJ6{el:TypeId}{pa:Option Addr}(hu:E.P.underlying t=some (.pointer el))(hx:fr.ev x=some (.pointer pa))(hy:fr.ev y=some (.pointer none)):Ev E fr K L ⟨dst,.binOp .neq t x y t',ty,pos,aft,g⟩ (.bool (!pa.isNone)):=
 fM hx hy (fun w=>rfl) fun w=>by
  show (do pure (Value.bool (!(←Op.equal t (.pointer pa) (.pointer none)))):Sem Value).run E.P w=_
  rw[aP (aLT hu w)];rfl
theorem or8(c d:UInt8):IntKind.u8.wrap (BitVec.toNat (BitVec.ofInt 8 (c.toNat:Int)|||BitVec.ofInt 8 (d.toNat:Int)):Int)=((c|||d).toNat:Int):=by
 have h:∀c:UInt8,BitVec.ofInt 8 (c.toNat:Int)=c.toBitVec:=fun c=>by apply BitVec.eq_of_toNat_eq;simp
 rw[h,h];have:(c.toBitVec|||d.toBitVec)=(c|||d).toBitVec:=by simp
 rw[this];have hlt:=(c|||d).toNat_lt;unfold IntKind.wrap IntKind.bits IntKind.signed;simp only[Bool.false_and,Bool.false_eq_true,if_false]
 show (((c|||d).toNat:Int)) % 2 ^ 8=_
 omega
theorem aEX(c d:UInt8)(hx:fr.ev x=some (.int .u8 c.toNat))(hy:fr.ev y=some (.int .u8 d.toNat)):Ev E fr K L ⟨dst,.binOp .or t x y t',ty,pos,aft,g⟩ (.int .u8 (c|||d).toNat):=
 fM hx hy hO fun w=>by
  have:=or8 c d;simp only[binOp,Op.intBits,ne_eq,not_true,if_false]
  show Result.ok (Value.int .u8 _) w=_
  rw[←this];rfl
theorem mH{kk:IntKind}{m n:Int}{ats:Array TypeId}(hx:fr.ev x=some (.int kk m))(hy:fr.ev y=some (.int kk n)):Ev E fr K L ⟨dst,.call ⟨.builtin .min,#[x,y],ats⟩,ty,pos,aft,g⟩ (.int kk (if n < m then n else m)):=fun a w f j=>by
 have e:Array.map a.eval #[x,y]= #[.int kk m,.int kk n]:=by simp[f.ev hx,f.ev hy]
 simp only[execOp,resolve,e,bind,pure,Sem.bind,invoke,builtin]
 rfl
theorem aRL{kk:IntKind}{m n:Int}{ats:Array TypeId}(hx:fr.ev x=some (.int kk m))(hy:fr.ev y=some (.int kk n)):Ev E fr K L ⟨dst,.call ⟨.builtin .max,#[x,y],ats⟩,ty,pos,aft,g⟩ (.int kk (if n>m then n else m)):=fun a w f j=>by
 have e:Array.map a.eval #[x,y]= #[.int kk m,.int kk n]:=by simp[f.ev hx,f.ev hy]
 simp only[execOp,resolve,e,bind,pure,Sem.bind,invoke,builtin]
 rfl
end
end Go.SL
end
section
namespace Go.SL
structure Src (P:Program) (t2:TypeId) (sz m:Nat) (x:Value) (news:List Value) (w:World):Prop where
 has:P.underlying t2=some .string∨∃e',P.underlying t2=some (.slice e')
 len:(Builtin.lenOf x).run P w=.ok m w
 cells:∀d,(Builtin.firstCells sz m x).run P {w with drawn:=d}=.ok news.toArray {w with drawn:=d}
 size:news.length=m*sz
 one:∀u∈news,u.oneCell'=true
section
variable{P:Program}{w:World}{t t2 e b:Nat}{i:TypeInfo}{z x:Value}{m:Nat}{news:List Value}{ty:TypeId}
theorem aGQ(ht:P.underlying t=some (.slice e))(hi:P.info? e=some i){n cap:Nat}{cells:List Value}{fz:Nat×Nat}(hb:w.heap[b]?=some (aU cells e fz))(h:Src P t2 i.size m x news w)
  (hroom:n+m≤cap) (hcap:cap*i.size≤cells.length) (hf:FzOk (cap*i.size) fz):
  ∃w',(Builtin.append_ #[t,t2] ty #[.slice (some ⟨b,0,none⟩) n cap,x]).run P w=.ok (.slice (some ⟨b,0,none⟩) (n+m) cap) w'∧
   w'.heap.size=w.heap.size∧w'.heap[b]?=some (aU (cells.take (n*i.size)++news++cells.drop (n*i.size+news.length)) e fz)∧(∀z,z≠b→w'.heap[z]?=w.heap[z]?)∧w'={w with heap:=w'.heap}:=by
 have hle:n*i.size+news.length≤cap*i.size:=by rw[h.size,←Nat.add_mul];exact Nat.mul_le_mul_right _ hroom
 obtain⟨w',r1,r2,r3,r4,r5⟩:=oU (P:=P) (b:=b) news (n*i.size) 0 w cells hb aH (fun j hj=>by have:=hf.at (o:=n*i.size+j) aH;simpa using this) h.one;refine⟨w',?_,r2,by simpa using r3,r4,r5⟩
 have hc:=h.cells w.drawn;have hlen:=h.len;rcases h.has with hd|⟨e',hd⟩ <;> simp[Builtin.append_,run_underlying ht,run_underlying hd,sizeOf,typeInfo,hi,hlen,hroom,hc,hZ,r1]
theorem u9(ht:P.underlying t=some (.slice e))(hi:P.info? e=some i)(hz:i.zero=some z){base:Option Addr}{n cap:Nat}{olds:List Value}(h:Src P t2 i.size m x news w)
  (hold:∀d,(Builtin.firstCells i.size n (.slice base n cap)).run P {w with drawn:=d}=.ok olds.toArray {w with drawn:=d})
  (hg:cap < n+m) (hby:(n+m)*i.bytes≤140737488355328) (h63:n+m≤9223372036854775807):
  ∃cap' d,n+m≤cap'∧(Builtin.append_ #[t,t2] ty #[.slice base n cap,x]).run P w=
   .ok (.slice (some ⟨w.heap.size,0,none⟩) (n+m) cap') {w with drawn:=d,heap:=w.heap.push (.cells (olds.toArray++(news.toArray++Builtin.zeroCells z.cells (cap' - (n+m)))) e)}:=by
 have hfit:=growslice_fits hg hby;have hti:∀w,(typeInfo e).run P w=.ok i w:=fun w=>by simp only[typeInfo,program,bind,Sem.bind,pure,Sem.run,hi]
 have hzv:∀w,(zeroValue e).run P w=.ok z w:=fun w=>by simp only[zeroValue,typeInfo,program,bind,Sem.bind,pure,Sem.run,hi,hz]
 refine⟨(Question.appendCap (n+m) cap e).cut (w.tape w.drawn (Question.appendCap (n+m) cap e)),w.drawn+1,by simp[Question.cut],?_⟩
 have hlen:=h.len;have hn:¬(n+m≤cap):=by omega
 have h63':¬(9223372036854775807 < ((n:Int)+(m:Int))):=by omega
 have h48':¬(281474976710656 < Builtin.nextslicecap (n+m) cap*i.bytes):=by omega
 have hc:(Builtin.firstCells i.size m x).run P w.drew=.ok news.toArray w.drew:=h.cells (w.drawn+1);have ho:(Builtin.firstCells i.size n (.slice base n cap)).run P w.drew=.ok olds.toArray w.drew:=hold (w.drawn+1);rcases h.has with hd|⟨e',hd⟩ <;> simp[Builtin.append_,run_underlying ht,run_underlying hd,sizeOf,typeInfo,zeroValue,hi,hz,hlen,hn,h63',h48',Question.forced,hc,ho,newRow] <;> rfl
end
theorem dK{P:Program}{w:World}{α:Type}{k:El α}{t2 e':TypeId}{v:Value}{xs:List α}(ht:P.underlying t2=some (.slice e'))(h:SlAt k w v xs):Src P t2 k.sz xs.length v (k.cs xs) w:=by
 refine⟨.inr ⟨_,ht⟩,?_,?_,k.cs_length xs,k.cs_one xs⟩
 ·rcases h with ⟨a0,c,rfl,rfl⟩|⟨b,off,cap,cells,fz,rfl,⟨u0,h2⟩,h3⟩ <;> rfl
 ·intro d;rcases h with ⟨a0,c,rfl,rfl⟩|⟨b,off,cap,cells,fz,rfl,⟨u0,h2⟩,h3⟩
  ·cases a0 with
   |none=>rfl
   |some a=>simp[Builtin.firstCells,loadCells,loadCellsFrom,El.cs,pure,Sem.run]
  ·have:=jL (P:=P) (w:={w with drawn:=d}) (b:=b) (l:=cells) h2 (xs.length*k.sz) (k.cs xs) off 0 [] (by simpa using h3) (k.cs_length xs)
   simpa[Builtin.firstCells,loadCells]using this
def rT(e:TypeId):El UInt8:={e:=e,sz:=1,enc:=fun c=>[.int .u8 c.toNat],len:=fun _=>rfl,one:=fun _ u h=>by simp at h;subst h;rfl}
def bC(e:TypeId):El (List UInt8):={e:=e,sz:=1,enc:=fun s=>[str s],len:=fun _=>rfl,one:=fun _ u h=>by simp at h;subst h;rfl}
theorem w7(e:TypeId)(l:List UInt8):(rT e).cs l=l.map fun c=>.int .u8 c.toNat:=by
 induction l with
 |nil=>rfl
 |cons c l ih=>simp only[El.cs,List.flatMap_cons,List.map_cons]at*;rw[ih];rfl
theorem u1{P:Program}{w:World}{e t2:TypeId}{l:List UInt8}(ht:P.underlying t2=some .string):Src P t2 1 l.length (str l) ((rT e).cs l) w:=by
 refine⟨.inl ht,?_,?_,(by rw[El.cs_length];rfl),?_⟩
 ·show Result.ok _ _=_;rw[mG]
 ·intro d
  show Result.ok _ _=_
  rw[w7,mX];simp
 ·intro u hu;rw[w7]at hu;obtain⟨c,_,rfl⟩:=List.mem_map.1 hu
  rfl
def elOk(P:Program)(t e sz bytes:Nat):Bool:=
 match P.underlying t,P.info? e with
 |some (.slice e'),some i=>e'==e&&i.size==sz&&i.bytes==bytes&&(match i.zero with|some z=>z.cells.size==sz|none=>false)
 |_,_=>false
theorem xD{P:Program}{t e sz bytes:Nat}(h:elOk P t e sz bytes=true):∃i z,P.underlying t=some (.slice e)∧P.info? e=some i∧i.size=sz∧i.bytes=bytes∧i.zero=some z∧z.cells.size=sz:=by
 unfold elOk at h;cases hu:P.underlying t with
 |none=>simp[hu]at h
 |some d=>
  cases hi:P.info? e with
  |none=>cases d <;> simp[hu,hi]at h
  |some i=>
   cases d <;> simp[hu,hi]at h
   obtain⟨⟨⟨rfl,h2⟩,h3⟩,h4⟩:=h;cases hz:i.zero with
   |none=>simp[hz]at h4
   |some z=>simp[hz]at h4;exact⟨i,z,rfl,rfl,h2,h3,hz,h4⟩
section
variable{E:Env}{fr:Fr}{K:Hl}{L L':List Asn}{Q:Post}{dst:Option Tmp}{ty:TypeId}{pos:String}{aft:Array Edge}{g:Option (Nat×Bool)}{x y:Operand}{t t2 t' s e sz bytes i off b:Nat}{α:Type}{k:El α}{v u:Value}{xs ys:List α}
theorem In.slCases{w0 w:World}{F:Hl}{M:List Asn}{zf:Bool}(j:In w0 F K (sl zf k v xs::M) w):
  (v=.slice none 0 0∧xs=[]∧In w0 F K M w)∨
  (∃b cap junk fz,v=.slice (some ⟨b,0,none⟩) xs.length cap∧(zf=true→xs≠[])∧xs.length≤cap∧junk.length=(cap - xs.length)*k.sz∧FzOk (cap*k.sz) fz∧In w0 F K (pt b (aU (k.cs xs++junk) k.e fz)::M) w):=by
 obtain⟨h,⟨a,l,ha,hl,hal,rfl⟩,d1,d2,d3,l1,l2,l3⟩:=j.rep;rcases ha with ⟨rfl,rfl,rfl⟩|⟨b,cap,junk,fz,rfl,hz,hc,hj,hf,rfl⟩
 ·exact .inl ⟨rfl,rfl,j.drop⟩
 ·exact .inr ⟨b,cap,junk,fz,rfl,hz,hc,hj,hf,j.os,j.tape,j.output,j.size,_,⟨_,l,rfl,hl,hal,rfl⟩,d1,d2,d3,l1,l2,l3⟩
theorem wM{zf:Bool}{cap:Nat}{cells:List Value}{fz:Nat×Nat}(hc:xs.length≤cap)(hcs:cells.take (xs.length*k.sz)=k.cs xs)(hl:cells.length=cap*k.sz)(hf:FzOk (cap*k.sz) fz)(hz:zf=true→xs≠[]):
  ∀h,pt b (aU cells k.e fz) h→sl zf k (.slice (some ⟨b,0,none⟩) xs.length cap) xs h:=by
 rintro h rfl;refine .inr ⟨b,cap,cells.drop (xs.length*k.sz),fz,rfl,hz,hc,?_,hf,?_⟩
 ·rw[List.length_drop,hl,Nat.sub_mul]
 ·rw[←hcs,List.take_append_drop]
theorem aYM{zf:Bool}:sl zf k (.slice none 0 0) ([]:List α) .emp:=.inl ⟨rfl,rfl,rfl⟩
theorem uY{zf:Bool}{M:List Asn}{h:Hl}(hM:Sat M h):Sat (sl zf k (.slice none 0 0) ([]:List α)::M) h:=⟨.emp,h,aYM,hM,(Hl.dj_emp h).symm,(Hl.emp_join h).symm⟩
theorem dT{zf:Bool}{M:List Asn}(hok:elOk E.P t k.e k.sz bytes=true)(hx:fr.ev x=some v)(hy:fr.ev y=some u)
  (hT:Tk (sl zf k v xs) L M)
  (hsrc:∀w,In E.w0 E.F K L w→Src E.P t2 k.sz ys.length u (k.cs ys) w)
  (hb:(xs.length+ys.length)*bytes≤140737488355328) (h63:xs.length+ys.length≤9223372036854775807):
  EfS E fr K L ⟨dst,.call ⟨.builtin .append,#[x,y],#[t,t2]⟩,ty,pos,aft,g⟩ (fun v' K' L'=>K'=K∧L'=sl zf k v' (xs++ys)::M∧v'.oneCell'=true):=by
 intro a w f j;obtain⟨i,z,h1,h2,h3,h4,h5,h6⟩:=xD hok;have hS:=hsrc w j;have jM:=j.imp hT.sat;have e:Array.map a.eval #[x,y]= #[v,u]:=by simp[f.ev hx,f.ev hy]
 have run:∀ {v':Value} {w':World},(Builtin.append_ #[t,t2] ty #[v,u]).run E.P w=.ok v' w'→(execOp a.eval ⟨dst,.call ⟨.builtin .append,#[x,y],#[t,t2]⟩,ty,pos,aft,g⟩).run E.P w=.ok (.value v') w':=by
  intro v' w' h;simp only[execOp,resolve,e,bind,pure,Sem.bind,invoke,builtin];exact dS h
 rw[←h3]at hS;have hlen:(k.cs (xs++ys)).length=(xs.length+ys.length)*i.size:=by rw[k.cs_length,h3,List.length_append]
 have zcl:∀n,(Builtin.zeroCells z.cells n).toList.length=n*i.size:=fun n=>by simp[Builtin.zeroCells,h6,h3]
 have isl:∀(c b':Nat) {w1:World} {cells:List Value} {fz:Nat×Nat},xs.length+ys.length≤c→cells.take ((xs.length+ys.length)*i.size)=k.cs (xs++ys)→cells.length=c*i.size→FzOk (c*i.size) fz→(zf=true→xs++ys≠[])→
   In E.w0 E.F K (pt b' (aU cells k.e fz)::M) w1→In E.w0 E.F K (sl zf k (.slice (some ⟨b',0,none⟩) (xs.length+ys.length) c) (xs++ys)::M) w1:=by
  intro c b' w1 cells fz g1 g2 g3 g4 g5 jj;refine jj.imp (M:=sl zf k (.slice (some ⟨b',0,none⟩) (xs.length+ys.length) c) (xs++ys)::M) fun h hh=>?_
  obtain⟨a,l,ha,hl,hd,he⟩:=hh;refine⟨a,l,?_,hl,hd,he⟩
  have:=wM (k:=k) (xs:=xs++ys) (zf:=zf) (cap:=c) (cells:=cells) (fz:=fz) (by simpa using g1) (by rw[List.length_append,←h3];exact g2) (by rw[←h3];exact g3) (by rw[←h3];exact g4) g5 a ha
  simpa using this
 rcases jM.slCases with ⟨rfl,rfl,j0⟩|⟨b,cap,junk,fz,rfl,hzf,hc,hj,hfz,j0⟩
 ·by_cases hy0:ys.length=0
  ·have hys:ys=[]:=List.length_eq_zero_iff.1 hy0;subst hys;refine⟨.slice none 0 0,w,K,_,.inl (run ?_),⟨rfl,rfl,rfl⟩,Hl.le_refl _,jM⟩
   have hlen':=hS.len;have hcs:=hS.cells w.drawn;rcases hS.has with hd|⟨e',hd⟩ <;> simp[Builtin.append_,run_underlying h1,run_underlying hd,sizeOf,typeInfo,h2,hlen',El.cs]at hcs ⊢ <;> simp[hcs]
  ·obtain⟨cap',d,hcap,hr⟩:=u9 (ty:=ty) h1 h2 h5 (base:=none) (n:=0) (cap:=0) (olds:=[]) hS (fun d=>rfl) aH (by rw[h4];simpa using hb) (by simpa using h63);simp only[Nat.zero_add]at hr hcap;have e2:(Obj.cells ((#[]:Array Value)++((k.cs ys).toArray++Builtin.zeroCells z.cells (cap' - ys.length))) k.e)=aU (k.cs ([]++ys)++(Builtin.zeroCells z.cells (cap' - ys.length)).toList) k.e:=by
    unfold aU;congr 1;apply Array.ext';simp
   rw[e2]at hr;have jj:=(j0.drew d).alloc (aU (k.cs ([]++ys)++(Builtin.zeroCells z.cells (cap' - ys.length)).toList) k.e);have:=isl cap' w.heap.size (by simpa using hcap) (by rw[←hlen,List.take_left])
    (by rw[List.length_append,k.cs_length,zcl,h3,List.nil_append,←Nat.add_mul];congr 1;omega) (.inl (Nat.le_refl _)) (fun _=>by intro e;simp at e;exact hy0 (by simp[e])) jj
   simp only[List.length_nil,Nat.zero_add]at this;exact⟨_,_,K,_,.inl (run hr),⟨rfl,rfl,rfl⟩,Hl.le_refl _,this⟩
 ·have hcells:(k.cs xs++junk).length=cap*i.size:=by rw[List.length_append,k.cs_length,hj,h3,←Nat.add_mul];congr 1;omega
  by_cases hroom:xs.length+ys.length≤cap
  ·obtain⟨w',r1,r2,r3,r4,r5⟩:=aGQ (ty:=ty) h1 h2 (n:=xs.length) j0.piece hS hroom aH (by rw[h3];exact hfz);refine⟨_,_,K,_,.inl (run r1),⟨rfl,rfl,rfl⟩,Hl.le_refl _,?_⟩
   have jj:=j0.write r2 r3 r4;rw[←r5]at jj;refine isl cap b hroom ?_ ?_ (by rw[h3];exact hfz) (fun hz1=>?_) jj
   ·have e1:(k.cs xs++junk).take (xs.length*i.size)=k.cs xs:=by rw[h3,←k.cs_length,List.take_left]
    rw[e1,←hlen,k.cs_append,List.take_left]
   ·have hys:(k.cs ys).length=ys.length*i.size:=by rw[k.cs_length,h3]
    have hle:(xs.length+ys.length)*i.size≤cap*i.size:=Nat.mul_le_mul_right _ hroom;rw[Nat.add_mul]at hle;simp only[List.length_append,List.length_take,List.length_drop]at hcells ⊢;omega
   ·intro e;have:=hzf hz1;simp at e;exact this e.1
  ·obtain⟨cap',d,hcap,hr⟩:=u9 (ty:=ty) h1 h2 h5 (base:=some ⟨b,0,none⟩) (n:=xs.length) (cap:=cap) (olds:=k.cs xs) hS
    (fun d => by
     have:=jL (P:=E.P) (w:={w with drawn:=d}) (b:=b) (l:=k.cs xs++junk) (u:=k.e) (fz:=fz) j0.piece (xs.length*i.size) (k.cs xs) 0 0 [] (by simp only[Nat.add_zero,List.drop_zero];rw[h3,←k.cs_length,List.take_left]) (by rw[k.cs_length,h3])
     simpa[Builtin.firstCells,loadCells]using this) aH (by rw[h4];exact hb) h63
   have e2:(Obj.cells ((k.cs xs).toArray++((k.cs ys).toArray++Builtin.zeroCells z.cells (cap' - (xs.length+ys.length)))) k.e)=aU (k.cs (xs++ys)++(Builtin.zeroCells z.cells (cap' - (xs.length+ys.length))).toList) k.e:=by
    unfold aU;congr 1;apply Array.ext';simp[k.cs_append]
   rw[e2]at hr;have jj:=((j0.drop).drew d).alloc (aU (k.cs (xs++ys)++(Builtin.zeroCells z.cells (cap' - (xs.length+ys.length))).toList) k.e);have:=isl cap' w.heap.size hcap (by rw[←hlen,List.take_left])
    (by rw[List.length_append,k.cs_length,zcl,h3,List.length_append,←Nat.add_mul];congr 1;omega) (.inl (Nat.le_refl _)) (fun hz1=>by intro e;have:=hzf hz1;simp at e;exact this e.1) jj
   exact⟨_,_,K,_,.inl (run hr),⟨rfl,rfl,rfl⟩,Hl.le_refl _,this⟩
end
end Go.SL
end
section
namespace Go.SL
def slTo(v:Value)(n:Nat):Value:=
 match v with
 | .slice a _ c=>.slice a n c
 |v=>v
section
variable{E:Env}{fr:Fr}{K:Hl}{L L':List Asn}{Q:Post}{dst:Option Tmp}{ty:TypeId}{pos:String}{aft:Array Edge}{g:Option (Nat×Bool)}{x y:Operand}{t t2 t' s e sz bytes i off b:Nat}{α:Type}{k:El α}{v u:Value}{xs ys:List α}
theorem aCC{kk:IntKind}{m:Nat}{mv:Int}{hi:Operand}(ht:iM E.P t k.e k.sz=true)(hx:fr.ev x=some v)(hs:SeesSl k K L v xs)(hh:fr.ev hi=some (.int kk mv))(hmv:mv=(m:Int))(hm:m≤xs.length)
  (hle:∀w,In E.w0 E.F K L w→∀a n c,v=.slice a n c→n≤c):
  Ev E fr K L ⟨dst,.slice t x none (some hi) none,ty,pos,aft,g⟩ (slTo v m):=fun a w f j=>by
 subst hmv;obtain⟨inf,h1,h2,h3⟩:=mS ht;simp only[execOp,f.ev hx,f.ev hh,Option.map];refine dS ?_;have hu:(underlying t).run E.P w=.ok (.slice k.e) w:=by simp only[underlying,program,bind,Sem.bind,pure,Sem.run,h1]
 have hsz:(sizeOf k.e).run E.P w=.ok inf.size w:=by simp only[sizeOf,typeInfo,program,bind,Sem.bind,pure,Sem.run,h2]
 have key:∀(a:Option Addr) (n c:Nat),m≤c→(Instr.sliceAt t (.slice a n c) none (some (.int kk m)) none).run E.P w=.ok (.slice a m c) w:=by
  intro a n c hc;unfold Instr.sliceAt;rw[aP hu];simp only[Instr.slice];rw[aP hu];simp only[];have hb:(Instr.sliceBounds true n c none (some (.int kk m)) none).run E.P w=.ok (0,m,c) w:=by
   simp[Instr.sliceBounds,Instr.sliceBound,asIntOf,bind,Sem.bind,pure,Sem.run,hc]
  rw[aP hb];simp only[];rw[aP hsz]
  by_cases hc0:c=0
  ·subst hc0;simp[pure,Sem.run]
  ·simp only[hc0,if_false];cases a with
   |none=>simp[pure,Sem.run]
   |some ad=>simp[Addr.add,pure,Sem.run]
 rcases hs.at j with ⟨a0,c,rfl,rfl⟩|⟨b,off,cap,cells,fz,rfl,⟨u0,h4⟩,h5⟩
 ·have:m=0:=by simpa using hm
  subst this;exact key a0 0 c (Nat.zero_le _)
 ·exact key _ _ _ (Nat.le_trans hm (hle w j _ _ _ rfl))
theorem aXP{zf:Bool}{M:List Asn}{w0 w:World}{F:Hl}(hT:Tk (sl zf k v xs) L M)(j:In w0 F K L w):∀a n c,v=.slice a n c→n≤c:=by
 intro a n c hv;rcases(j.imp hT.sat).slCases with ⟨rfl,_,_⟩|⟨b,cap,junk,fz,rfl,_,hc,_⟩
 ·cases hv;exact Nat.le_refl _
 ·cases hv;exact hc
theorem uJ{kk:IntKind}{m:Nat}{mv:Int}{zf:Bool}{M:List Asn}{hi:Operand}(ht:iM E.P t k.e k.sz=true)(hx:fr.ev x=some v)(hT:Tk (sl zf k v xs) L M)(hF:Hs (sl zf k v xs) L)(hh:fr.ev hi=some (.int kk mv))(hmv:mv=(m:Int))(hm:m≤xs.length):
  Ev E fr K L ⟨dst,.slice t x none (some hi) none,ty,pos,aft,g⟩ (slTo v m):=
 aCC ht hx (.own hF) hh hmv hm (fun w j=>aXP hT j)
theorem zL{zf:Bool}{m:Nat}(hm:m≤xs.length):∀h,sl zf k v xs h→sl false k (slTo v m) (xs.take m) h:=by
 rintro h (⟨rfl,rfl,rfl⟩|⟨b,cap,junk,fz,rfl,hz,hc,hj,hf,rfl⟩)
 ·have:m=0:=by simpa using hm
  subst this;exact .inl ⟨rfl,by simp,rfl⟩
 ·have hl:(xs.take m).length=m:=by rw[List.length_take];omega
  refine .inr ⟨b,cap,(k.cs xs).drop (m*k.sz)++junk,fz,by rw[hl];rfl,by simp,by omega,?_,hf,?_⟩
  ·have hmul:m*k.sz≤xs.length*k.sz:=Nat.mul_le_mul_right _ hm;have hmul2:xs.length*k.sz≤cap*k.sz:=Nat.mul_le_mul_right _ hc;rw[List.length_append,List.length_drop,k.cs_length,hj,hl,Nat.sub_mul,Nat.sub_mul];omega
  ·rw[←k.cs_take,←List.append_assoc,List.take_append_drop]
theorem El.cs_set(hsz:k.sz=1){j:Nat}{y0:α}{c:Value}(hc:k.enc y0=[c])(hj:j < xs.length):k.cs (xs.set j y0)=(k.cs xs).set j c:=by
 have enc1:∀(z:α),∃d,k.enc z=[d]:=fun z=>by
  have:=k.len z;rw[hsz]at this
  match h:k.enc z,this with
  | [d],_=>exact⟨d,rfl⟩
 induction xs generalizing j with
 |nil=>simp at hj
 |cons z zs ih=>
  obtain⟨d,hd⟩:=enc1 z;cases j with
  |zero=>simp[El.cs,List.flatMap_cons,hd,hc]
  |succ j=>
   have:=ih (j:=j) (by simpa using hj);simp only[El.cs,List.set_cons_succ,List.flatMap_cons,hd,List.cons_append,List.nil_append]at this ⊢;rw[this]
theorem rK{j:Nat}(ht:cO E.P s i off=true)(hx:fr.ev x=some (lH v (j*k.sz)))(hs:SeesSl k K L v xs)(hj:j < xs.length):Ev E fr K L ⟨dst,.fieldAddr s x i,ty,pos,aft,g⟩ (lH v (j*k.sz+off)):=fun a w f q=>by
 rcases hs.at q with ⟨a0,c,rfl,rfl⟩|⟨b,o,cap,cells,fz,rfl,⟨u0,h4⟩,h5⟩
 ·simp at hj
 ·have hx':fr.ev x=some (ptr b (o+j*k.sz)):=by rw[hx];simp[lH,hZ]
  have:=aD (E:=E) (K:=K) (L:=L) (dst:=dst) (ty:=ty) (pos:=pos) (aft:=aft) (g:=g) ht hx' rfl a w f q;rw[this];simp[lH,hZ,Nat.add_assoc]
theorem aAG{j o:Nat}{u:α}{c:Value}(ht:d7 E.P t=true)(hx:fr.ev x=some (lH v (j*k.sz+o)))(hs:SeesSl k K L v xs)(hj:xs[j]?=some u)(hc:(k.enc u)[o]?=some c):
  Ev E fr K L ⟨dst,.load t x,ty,pos,aft,g⟩ c:=fun a w f q=>by
 simp only[execOp,f.ev hx];refine dS ?_;have hjl:j < xs.length:=by
  rcases Nat.lt_or_ge j xs.length with h'|h'
  ·exact h'
  ·simp[List.getElem?_eq_none h']at hj
 have ho:o < k.sz:=by
  rw[←k.len u];rcases Nat.lt_or_ge o (k.enc u).length with h'|h'
  ·exact h'
  ·simp[List.getElem?_eq_none h']at hc
 rcases hs.at q with ⟨a0,c,rfl,rfl⟩|⟨b,off,cap,cells,fz,rfl,⟨u0,h4⟩,h5⟩
 ·simp at hj
 ·obtain⟨q1,q2⟩:=nE ht w;have hat:=k.cs_at hj (r:=[]);rw[List.append_nil,←h5]at hat
  show (loadVar t (Addr.add ⟨b,off,none⟩ (j*k.sz+o))).run E.P w=_
  rw[hZ];unfold loadVar;rw[aP q1];refine sD h4 ?_;have:=congrArg (·[o]?) hat;simp only[List.getElem?_take,List.getElem?_drop,ho,if_true]at this;have hlt:j*k.sz+o < xs.length*k.sz:=by
   have:(j+1)*k.sz≤xs.length*k.sz:=Nat.mul_le_mul_right _ hjl;rw[Nat.succ_mul]at this;omega
  rw[if_pos hlt,hc]at this;exact this
theorem aDJ{zf:Bool}{j:Nat}{y0:α}{c:Value}(ht:d7 E.P t=true)(hx:fr.ev x=some (lH v (j*k.sz)))(hy:fr.ev y=some c)(hc:k.enc y0=[c])(h1:c.oneCell'=true)(hj:j < xs.length)
  (hF:Fnd (sl zf k v xs) (sl zf k v (xs.set j y0)) L L'):
  EfS E fr K L ⟨dst,.store t x y,ty,pos,aft,g⟩ (fun _ K' L''=>K'=K∧L''=L'):=by
 intro a w f q;obtain⟨M,m1,m2⟩:=hF.split;have hsz:k.sz=1:=by have:=k.len y0;simpa[hc]using this.symm
 rcases(q.imp m1).slCases with ⟨rfl,rfl,_⟩|⟨b,cap,junk,fz,rfl,hz,hcap,hjk,hf,q0⟩
 ·simp at hj
 ·have hx':fr.ev x=some (ptr b j):=by rw[hx];simp[lH,hZ,hsz]
  have hb:=q0.piece;have hcl:(k.cs xs).length=xs.length:=by rw[k.cs_length,hsz];omega
  have hset:(k.cs xs++junk).set j c=k.cs (xs.set j y0)++junk:=by
   have e0:k.cs (xs.set j y0)=(k.cs xs).set j c:=k.cs_set hsz hc hj;rw[e0,List.set_append_left _ _ (by rw[hcl];exact hj)]
  have hst:=xW (P:=E.P) (o:=j) (v:=c) hb (by rw[List.length_append,hcl];omega) (hf.at (by rw[hsz];omega)) h1;obtain⟨s1,s2,s3⟩:=nT (o:=j) c hb;have hr:(execOp a.eval ⟨dst,.store t x y,ty,pos,aft,g⟩).run E.P w=.ok .skip (w.setCell ⟨b,j,none⟩ c):=by
   simp only[execOp,f.ev hx',f.ev hy];have hcells:c.cells= #[c]:=by cases c <;> simp[Value.oneCell']at h1 <;> rfl
   have:(Instr.storeAt t (ptr b j) c).run E.P w=.ok () (w.setCell ⟨b,j,none⟩ c):=by
    show (storeVar t _ c).run E.P w=_
    unfold storeVar;rw[aP (nE ht w).2];simp only[hcells];rw[if_neg (by simp)];simp only[storeCells,hZ,Nat.add_zero]
    show (store _ _>>=fun _=>pure ()).run E.P w=_
    rw[aP hst];rfl
   rw[aP this];rfl
  refine⟨_,_,_,_,.inr ⟨hr,rfl⟩,⟨rfl,rfl⟩,Hl.le_refl _,?_⟩
  have q1:=q0.write s1 s2 s3;rw[hset]at q1;refine q1.imp fun h hh=>m2 h ?_
  obtain⟨aa,l,ha,hl,hd,he⟩:=hh;refine⟨aa,l,?_,hl,hd,he⟩
  refine .inr ⟨b,cap,junk,fz,by rw[List.length_set],?_,by rw[List.length_set];exact hcap,by rw[List.length_set];exact hjk,hf,ha⟩
  intro h1 h2;exact hz h1 gCR
theorem a6{len:Nat}{zc z0 out:List Value}{parts:List (Nat×Operand)}(ht:iM E.P t e sz=true)(hz:cJ E.P e=some zc)(hzl:zc.length=sz)(hlim:Nat.ble (len*sz) 16777216=true)(hpos:Nat.blt 0 (len*sz)=true)
  (hz0:(List.range (len*sz)).map (fun i=>zc.toArray[i % sz]!)=z0) (h:Fill fr (fun i=>some (i*sz,sz)) z0 parts out):
  EfS E fr K L ⟨dst,.buildSlice t len parts.toArray,ty,pos,aft,g⟩ (fun v K' L'=>∃b,v=.slice (some ⟨b,0,none⟩) len len∧K'=K∧L'=pt b (aU out e)::L):=by
 intro a w f j;obtain⟨inf,h1,h2,h3⟩:=mS ht;have e1:Array.map (fun(p:Nat×Operand)=>(p.1,a.eval p.2)) parts.toArray=(parts.map fun p=>(p.1,a.eval p.2)).toArray:=by simp
 have hu:(underlying t).run E.P w=.ok (.slice e) w:=by simp only[underlying,program,bind,Sem.bind,pure,Sem.run,h1]
 have hsz:(sizeOf e).run E.P w=.ok sz w:=by simp only[sizeOf,typeInfo,program,bind,Sem.bind,pure,Sem.run,h2,h3]
 have hlim':len*sz≤16777216:=Nat.le_of_ble_eq_true hlim;have hpos':0 < len*sz:=by simp[Nat.blt]at hpos;omega
 unfold cJ at hz;simp only[h2,Option.bind_some]at hz;cases hzv:inf.zero with
 |none=>simp[hzv]at hz
 |some z=>
  simp[hzv]at hz;have hzr:(zeroValue e).run E.P w=.ok z w:=by simp only[zeroValue,typeInfo,program,bind,Sem.bind,pure,Sem.run,h2,hzv]
  have hfill:=aL1 h f;have hzz:zc.toArray=z.cells:=by rw[←hz]
  have hr:(Instr.buildSlice t len (parts.map fun p=>(p.1,a.eval p.2)).toArray).run E.P w=.ok (.slice (some ⟨w.heap.size,0,none⟩) len len) {w with heap:=w.heap.push (aU out e)}:=by
   unfold Instr.buildSlice;rw[aP hu];simp only[];rw[aP hsz];rw[if_neg aH];have hne:¬len*sz=0:=by omega
   have hmap:((Array.range (len*sz)).map fun i=>z.cells[i % z.cells.size]!)=z0.toArray:=by
    have hs:z.cells.size=sz:=by rw[←hzl,←hz];simp
    rw[←hz0,hzz,hs]
    apply Array.ext';simp
   rw[if_neg hne,aP hzr,aP (sJ _ _)];simp only[hmap];rw[hfill]
   rfl
  refine⟨_,_,K,_,.inl ?_,⟨_,rfl,rfl,rfl⟩,Hl.le_refl _,j.alloc _⟩
  simp only[execOp];have:=dS hr;rw[←e1]at this;exact this
end
end Go.SL
end
section
namespace Go.SL
abbrev elB(e:TypeId):El UInt8:=rT e
theorem aAD(e:TypeId)(s:List UInt8):(elB e).cs s=s.map fun c=>.int .u8 c.toNat:=w7 e s
theorem aB8(w:World)(e:TypeId)(s:ByteArray):
  Lib.bytesWorld w e s={w with drawn:=w.drawn+1,heap:=w.heap.push (.cells (Lib.bytesCells w e s) e ((Lib.bytesCells w e s).size,(Lib.bytesCells w e s).size+1))}:=by
 have hh:(Lib.bytesWorld w e s).heap=w.heap.push (.cells (Lib.bytesCells w e s) e ((Lib.bytesCells w e s).size,(Lib.bytesCells w e s).size+1)):=by
  apply Array.ext_getElem?
  intro i;rcases Nat.lt_trichotomy i w.heap.size with h|h|h
  ·rw[Lib.bytesWorld_at_old w e s i h,Array.getElem?_push,if_neg aH]
  ·subst h;rw[Lib.bytesWorld_at_new,Array.getElem?_push,if_pos rfl]
  ·rw[Array.getElem?_eq_none (by rw[Lib.bytesWorld_size];omega),Array.getElem?_eq_none gBV]
 have h2:Lib.bytesWorld w e s={w with drawn:=w.drawn+1,heap:=(Lib.bytesWorld w e s).heap}:=rfl;rw[h2,hh]
section
variable{E:Env}{fr:Fr}{K:Hl}{L L':List Asn}{Q:Post}{dst:Option Tmp}{ty:TypeId}{pos:String}{aft:Array Edge}{g:Option (Nat×Bool)}{x y:Operand}{t t2 t' s e:Nat}{v:Value}{xs ys:List UInt8}
theorem qA{src:TypeId}{u:TypeDesc}(hs:E.P.underlying src=some u)(hd:E.P.underlying t=some (.slice e))(he:E.P.underlying e=some (.int .u8))(hx:fr.ev x=some (str xs)):
  EfS E fr K L ⟨dst,.convert src t x,ty,pos,aft,g⟩ (fun v K' L'=>K'=K∧L'=sl false (elB e) v xs::L):=by
 intro a w f j;have e1:(⟨xs.toArray⟩:ByteArray).size=xs.length:=by simp[ByteArray.size]
 have hr:(execOp a.eval ⟨dst,.convert src t x,ty,pos,aft,g⟩).run E.P w=.ok (.value (.slice (some ⟨w.heap.size,0,none⟩) xs.length (grownCap w xs.length 0 e))) (Lib.bytesWorld w e ⟨xs.toArray⟩):=by
  simp only[execOp,f.ev hx];have:=Lib.run_convert_string_bytes (P:=E.P) w src t e ⟨xs.toArray⟩ hs hd he;rw[e1]at this;exact dS this
 have hcap:xs.length≤grownCap w xs.length 0 e:=by simp[grownCap,Question.cut]
 have hc:Lib.bytesCells w e ⟨xs.toArray⟩=((elB e).cs xs++List.replicate (grownCap w xs.length 0 e - xs.length) (Value.int .u8 0)).toArray:=by
  apply Array.ext'
  simp[Lib.bytesCells,aAD,e1]
 refine⟨_,_,K,_,.inl hr,⟨rfl,rfl⟩,Hl.le_refl _,?_⟩
 rw[aB8];have jj:=(j.drew (w.drawn+1)).alloc (.cells (Lib.bytesCells w e ⟨xs.toArray⟩) e ((Lib.bytesCells w e ⟨xs.toArray⟩).size,(Lib.bytesCells w e ⟨xs.toArray⟩).size+1));refine jj.imp fun h hh=>?_
 obtain⟨aa,l,ha,hl,hd,he⟩:=hh;have hsz:(Lib.bytesCells w e ⟨xs.toArray⟩).size=grownCap w xs.length 0 e:=by rw[hc];simp[aAD];omega
 refine⟨aa,l,.inr ⟨w.heap.size,grownCap w xs.length 0 e,List.replicate (grownCap w xs.length 0 e - xs.length) (.int .u8 0),(grownCap w xs.length 0 e,grownCap w xs.length 0 e+1),rfl,by simp,hcap,by simp[rT],.inr (by simp[rT]),?_⟩,hl,hd,he⟩
 simp only[pt]at ha;rw[ha,hsz,hc];rfl
theorem aKB(xs:List UInt8):∀acc:ByteArray,(xs.map fun c:UInt8=>(c.toNat:Int)).foldl (fun r n=>r.push (UInt8.ofNat n.toNat)) acc=⟨acc.data++xs.toArray⟩:=by
 induction xs with
 |nil=>intro acc;simp
 |cons c xs ih=>
  intro acc;simp only[List.map_cons,List.foldl_cons];rw[ih];have:UInt8.ofNat ((c.toNat:Int)).toNat=c:=by simp
  rw[this];cases acc
  simp[ByteArray.push]
theorem qT(hs:E.P.underlying t=some (.slice e))(he:E.P.underlying e=some (.int .u8))(hd:E.P.underlying t2=some .string)(hx:fr.ev x=some v)(h:SeesSl (elB e) K L v xs):
  Ev E fr K L ⟨dst,.convert t t2 x,ty,pos,aft,g⟩ (str xs):=fun a w f j=>by
 simp only[execOp,f.ev hx];refine dS ?_;rcases h.at j with ⟨a0,c,rfl,rfl⟩|⟨b,off,cap,cells,fz,rfl,⟨u0,h2⟩,h3⟩
 ·rw[run_convert_bytes_string w t t2 e a0 0 c hs he hd];cases a0 <;> rfl
 ·rw[run_convert_bytes_string w t t2 e (some ⟨b,off,none⟩) xs.length cap hs he hd];have hl:(loadCells ⟨b,off,none⟩ xs.length).run E.P w=.ok ((xs.map fun c:UInt8=>(c.toNat:Int)).map (Value.int .u8)).toArray w:=by
   have h3':(cells.drop (off+0)).take xs.length=xs.map fun c=>.int .u8 c.toNat:=by
    rw[Nat.add_zero,←aAD e,←h3];simp[rT]
   have:=jL (P:=E.P) h2 xs.length _ off 0 [] h3' (by simp);unfold loadCells
   simpa[Function.comp_def]using this
  rw[run_bytesToString w ⟨b,off,none⟩ xs.length cap _ hl,aKB]
  show Result.ok (Value.string ⟨ByteArray.empty.data++xs.toArray⟩) w=_
  have e0:ByteArray.empty.data= #[]:=rfl;rw[e0,Array.empty_append]
theorem aX7(m:Int):IntKind.u8.wrap m=m % 256:=by
 unfold IntKind.wrap IntKind.bits IntKind.signed;simp
theorem aVD(c d:UInt8)(hx:fr.ev x=some (.int .u8 c.toNat))(hy:fr.ev y=some (.int .u8 d.toNat)):Ev E fr K L ⟨dst,.binOp .add t x y t',ty,pos,aft,g⟩ (.int .u8 (c+d).toNat):=by
 have:=aLV (E:=E) (K:=K) (L:=L) (dst:=dst) (ty:=ty) (pos:=pos) (aft:=aft) (g:=g) (t:=t) (t':=t') hx hy;rw[aX7]at this;have e1:((c+d).toNat:Int)=((c.toNat:Int)+(d.toNat:Int)) % 256:=by rw[UInt8.toNat_add];omega
 rw[e1];exact this
theorem aLY{m n:Nat}(hmn:n≤m)(hm:m < 256)(hx:fr.ev x=some (.int .u8 m))(hy:fr.ev y=some (.int .u8 n)):Ev E fr K L ⟨dst,.binOp .sub t x y t',ty,pos,aft,g⟩ (.int .u8 (m - n:Nat)):=by
 have:=aLZ (E:=E) (K:=K) (L:=L) (dst:=dst) (ty:=ty) (pos:=pos) (aft:=aft) (g:=g) (t:=t) (t':=t') hx hy;have e1:IntKind.u8.wrap ((m:Int) - (n:Int))=((m - n:Nat):Int):=by rw[aX7];omega
 rwa [e1]at this
theorem rY{k:IntKind}{m:Int}{ds:TypeDesc}(hd:E.P.underlying t2=some (.int .i64))(hs:E.P.underlying t=some ds)(hx:fr.ev x=some (.int k m))(h1: -9223372036854775808≤m)(h2:m≤9223372036854775807):
  Ev E fr K L ⟨dst,.convert t t2 x,ty,pos,aft,g⟩ (i64 m):=by
 have:=rZ (E:=E) (K:=K) (L:=L) (dst:=dst) (ty:=ty) (pos:=pos) (aft:=aft) (g:=g) hd hs hx
 rwa [wV h1 h2]at this
theorem aEW{k':IntKind}{c:UInt8}(hs:E.P.underlying t=some (.int k'))(hd:E.P.underlying t2=some .string)(hx:fr.ev x=some (.int .u8 c.toNat))(hc:c.toNat < 128):
  Ev E fr K L ⟨dst,.convert t t2 x,ty,pos,aft,g⟩ (str [c]):=fun a w f j=>by
 simp only[execOp,f.ev hx];refine dS ?_;unfold convert;rw[aP (run_underlying hs w),aP (run_underlying hd w)]
 show Result.ok (Value.string (Utf8.encode _)) w=_
 have e1:Utf8.encode (c.toNat:Int)=⟨[c].toArray⟩:=by
  unfold Utf8.encode;have hv:Utf8.valid (c.toNat:Int)=true:=by unfold Utf8.valid;simp;omega
  simp only[hv,if_true,Int.toNat_natCast];rw[if_pos aH];simp
 rw[e1]
end
end Go.SL
end
section
namespace Go.SL
def unsB(P:Program)(T n:Nat):Bool:=
 match P.info? T with
 |some j=>j.size==n&&n !=0&&liesAt P P.depth T (n / P.cellsOf T) 0 T 1
 |none=>false
section
variable{E:Env}{fr:Fr}{K:Hl}{L L':List Asn}{Q:Post}{dst:Option Tmp}{ty:TypeId}{pos:String}{aft:Array Edge}{g:Option (Nat×Bool)}{x y:Operand}{t t2 t' s e b n:Nat}{T:TypeId}{v:Value}{xs ys:List UInt8}
theorem sL{w:World}{l:List Value}{fz:Nat×Nat}(h:w.heap[b]?=some (aU l T fz)):w.shape? b=some (T,l.length):=by
 simp[World.shape?,h]
theorem aG5{l:List Value}{fz:Nat×Nat}(hs:E.P.underlying t=some (.pointer T))(hd:E.P.underlying t2=some .unsafePointer)(hx:fr.ev x=some (ptr b))(hS:Sees K L b (aU l T fz))(hT:unsB E.P T l.length=true):
  Ev E fr K L ⟨dst,.convert t t2 x,ty,pos,aft,g⟩ (ptr b):=fun a w f j=>by
 simp only[execOp,f.ev hx];refine dS ?_;unfold unsB at hT;cases hi:E.P.info? T with
 |none=>simp[hi]at hT
 |some inf=>
  simp[hi]at hT;have hp:0 < l.length:=by
   rcases Nat.eq_zero_or_pos l.length with h|h
   ·exact absurd (List.length_eq_zero_iff.1 h) hT.1.2
   ·exact h
  exact Lib.run_to_unsafe w ⟨b,0,none⟩ hs hd hi (by rw[hT.1.1];omega) (sL (hS.at j)) hp
theorem aCB{l:List Value}{fz:Nat×Nat}(hs:E.P.underlying t=some .unsafePointer)(hd:E.P.underlying t2=some (.pointer T))(hx:fr.ev x=some (ptr b))(hS:Sees K L b (aU l T fz))(hT:unsB E.P T l.length=true):
  Ev E fr K L ⟨dst,.convert t t2 x,ty,pos,aft,g⟩ (ptr b):=fun a w f j=>by
 simp only[execOp,f.ev hx];refine dS ?_;unfold unsB at hT;cases hi:E.P.info? T with
 |none=>simp[hi]at hT
 |some inf=>
  simp[hi]at hT;exact Lib.run_from_unsafe w ⟨b,0,none⟩ hs hd hi (sL (hS.at j)) hT.2
theorem kL{fv:Operand}{os:List Operand}{vs:List Value}{ats:Array TypeId}{f:FuncId}{fn:Func}{ex:Array Value→Sem Value}(hf:fr.ev fv=some (.func (.func f) #[] #[]))(hos:fr.evs os=some vs)
  (h1:E.P.funcs[f]?=some fn) (h2:(fn.name=="runtime.NumGoroutine")=false) (h3:fn.body.isNone=true) (h4:Extern.findNext fn=none) (h5:Extern.find fn=some ex) (hr:∀w,In E.w0 E.F K L w→(ex vs.toArray).run E.P w=.ok v w):
  Ev E fr K L ⟨dst,.call ⟨.value fv,os.toArray,ats⟩,ty,pos,aft,g⟩ v:=fun a w fo j=>by
 have e1:Array.map a.eval os.toArray=vs.toArray:=by simp[fo.evs hos]
 simp only[execOp,resolve,e1,fo.ev hf,Deferred.ofValue,bind,pure,Sem.bind,invoke,List.append_toArray];simp only[List.nil_append,List.append_nil];rw[run_callFunc_extern h1 h2 h3 h4 h5,hr w j]
 rfl
theorem yN{el:TypeId}(hu:E.P.underlying t=some (.pointer el))(hT:unsB E.P el n=true)(hx:fr.ev x=some (ptr b))(hy:fr.ev y=some (ptr b)):Ev E fr K L ⟨dst,.binOp .neq t x y t',ty,pos,aft,g⟩ (.bool false):=
 fM hx hy (fun w=>rfl) fun w=>by
  unfold unsB at hT;cases hi:E.P.info? el with
  |none=>simp[hi]at hT
  |some inf=>exact Lib.run_neq_ptr_same w ⟨b,0,none⟩ hu hi
def aMB:Value→Value
 | .slice a _ _=>.pointer a
 |v=>v
theorem vR{ats:Array TypeId}(hx:fr.ev x=some v)(h:Hs (sl true (elB e) v xs) L):
  Ev E fr K L ⟨dst,.call ⟨.builtin .unsafeSliceData,#[x],ats⟩,ty,pos,aft,g⟩ (aMB v):=fun a w f j=>by
 have e1:Array.map a.eval #[x]= #[v]:=by simp[f.ev hx]
 simp only[execOp,resolve,e1,bind,pure,Sem.bind,invoke,builtin];obtain⟨M,m1⟩:=h.split;rcases(j.imp m1).slCases with ⟨rfl,rfl,_⟩|⟨b,cap,junk,fz,rfl,hz,hc,_⟩
 ·rfl
 ·have h0:xs≠[]:=hz rfl;have hl:0 < xs.length:=List.length_pos_iff.2 h0;have hc0:¬cap=0:=by omega
  show (do pure (Next.value (←Builtin.unsafeSliceData_ ats ty #[.slice (some ⟨b,0,none⟩) xs.length cap])):Sem Next).run E.P w=_
  rw[aP (Lib.run_unsafeSliceData_row _ _ _ _ _ _ hc0)];rfl
theorem sK{ats:Array TypeId}{M:List Asn}{pt it:TypeId}(ha:ats= #[pt,it])(hp:E.P.underlying pt=some (.pointer e))(hc:E.P.cellsOf e=1)(h63:xs.length≤9223372036854775807)
  (hx:fr.ev x=some (aMB v)) (hy:fr.ev y=some (i64 xs.length)) (hT:Tk (sl true (elB e) v xs) L M):
  EfS E fr K L ⟨dst,.call ⟨.builtin .unsafeString,#[x,y],ats⟩,ty,pos,aft,g⟩ (fun u K' L'=>u=str xs∧K'=K∧L'=M):=by
 intro a w f j;subst ha;have e1:Array.map a.eval #[x,y]= #[aMB v,i64 xs.length]:=by simp[f.ev hx,f.ev hy]
 rcases(j.imp hT.sat).slCases with ⟨rfl,rfl,j0⟩|⟨b,cap,junk,fz,rfl,hz,hcp,hjk,hfz,j0⟩
 ·refine⟨str [],w,K,M,.inl ?_,⟨rfl,rfl,rfl⟩,Hl.le_refl _,j0⟩
  simp only[execOp,resolve,e1,bind,pure,Sem.bind,invoke,builtin]
  rfl
 ·have h0 : xs ≠ [] := hz rfl;have hb := j0.piece;have hrun := Lib.run_unsafeString_row (P := E.P) (w := w) pt it ty e hp hc b ((elB e).cs xs ++ junk).length (sL hb) xs h0 (by rw [List.length_append, aAD, List.length_map]; omega) h63 (fun i c hi => by
   rw[hZ];refine kZ hb ?_;rw[aAD,List.getElem?_append_left (by simp;exact(List.getElem?_eq_some_iff.1 hi).1)];simp[hi])
  refine⟨str xs,w.freeze ⟨b,0,none⟩ xs.length,K,M,.inl ?_,⟨rfl,rfl,rfl⟩,Hl.le_refl _,?_⟩
  ·simp only[execOp,resolve,e1,bind,pure,Sem.bind,invoke,builtin,aMB]
   show (do pure (Next.value (←Builtin.unsafeString_ #[pt,it] ty #[.pointer (some ⟨b,0,none⟩),i64 xs.length])):Sem Next).run E.P w=_
   rw[aP hrun];rfl
  ·have hl:¬xs.length=0:=by simpa using h0
   have e2:w.freeze ⟨b,0,none⟩ xs.length={w with heap:=(w.freeze ⟨b,0,none⟩ xs.length).heap}:=by unfold World.freeze;rw[if_neg hl]
   rw[e2];have hb':∃o',(w.freeze ⟨b,0,none⟩ xs.length).heap[b]?=some o':=by
    unfold World.freeze;rw[if_neg hl]
    exact⟨_,by rw[Array.getElem?_modify,if_pos rfl,hb];rfl⟩
   obtain ⟨o', ho'⟩ := hb';exact (j0.write (H := (w.freeze ⟨b, 0, none⟩ xs.length).heap) (by unfold World.freeze; rw [if_neg hl]; simp) ho' (fun z hz => by
    unfold World.freeze;rw[if_neg hl]
    rw[Array.getElem?_modify,if_neg (fun e=>hz e.symm)])).drop
end
theorem eD{E:Env}{x:Exit}{fr:Fr}{K:Hl}{L L':List Asn}{Q:Post}(k:∀h,Sat L h→Sat L' h)(h:D E x fr K L' Q):D E x fr K L Q:=fun a w f i=>h a w f (i.imp k)
section
variable{E:Env}{c x y:Code}{fr:Fr}{K:Hl}{L:List Asn}{Q:Post}{α β:Type}
def Rnd2(E:Env)(I:α→β→Prop)(fr':α→β→Fr)(K':α→β→Hl)(L':α→β→List Asn)(μ:α→β→Nat)(m:Nat):Act→World→Prop:=
 fun a w=>∃i j,I i j∧μ i j < m∧FrOk E.n E.ds (fr' i j) a∧In E.w0 E.F (K' i j) (L' i j) w
theorem tQ{n1 n2:Act→World→Prop}(h:∀a w,n1 a w→n2 a w):∀e a w,Exit.then n1 Q e a w→Exit.then n2 Q e a w:=by
 intro e a w q;cases e <;> first|exact q|exact h _ _ q
theorem zN(I:α→β→Prop)(fr':α→β→Fr)(K':α→β→Hl)(L':α→β→List Asn)(μ:α→β→Nat)(i0:α)(j0:β)(h0:I i0 j0)(k:Kp fr (fr' i0 j0))(hK:K' i0 j0=K)(hL:∀h,Sat L h→Sat (L' i0 j0) h)
  (round:∀i j,I i j→T E c (fr' i j) (K' i j) (L' i j) (Exit.then (Rnd2 E I fr' K' L' μ (μ i j)) Q)):T E (.loop c) fr K L Q:=by
 refine d6 (fun p:α×β=>I p.1 p.2) (fun p=>fr' p.1 p.2) (fun p=>K' p.1 p.2) (fun p=>L' p.1 p.2) (fun p=>μ p.1 p.2) (i0,j0) h0 k hK hL ?_;rintro⟨i,j⟩ hI a w f w1;refine Code.wp_mono ?_ (round i j hI a w f w1)
 exact tQ fun a w ⟨i',j',h1,h2,h3,h4⟩=>⟨(i',j'),h1,h2,h3,h4⟩
theorem dQ{I:α→β→Prop}{fr':α→β→Fr}{K':α→β→Hl}{L':α→β→List Asn}{μ:α→β→Nat}{m:Nat}(i:α)(j:β)(hj:I i j)(hlt:μ i j < m)(k:Kp fr (fr' i j))(hK:K' i j=K)(hL:∀h,Sat L h→Sat (L' i j) h):
  D E .normal fr K L (Exit.then (Rnd2 E I fr' K' L' μ m) Q):=
 fun a w f q=>⟨i,j,hj,hlt,f.keep k,by rw[hK];exact q.imp hL⟩
def Mid2(E:Env)(I:α→β→Prop)(fr:α→β→Fr)(K:α→β→Hl)(L:α→β→List Asn):Act→World→Prop:=fun a w=>∃i j,I i j∧FrOk E.n E.ds (fr i j) a∧In E.w0 E.F (K i j) (L i j) w
theorem aWM(I:α→β→Prop)(fr':α→β→Fr)(K':α→β→Hl)(L':α→β→List Asn)(h1:T E x fr K L (Exit.then (Mid2 E I fr' K' L') Q))(h2:∀i j,I i j→T E y (fr' i j) (K' i j) (L' i j) Q):
  T E (.seq x y) fr K L Q:=by
 intro a w f i;refine wp_seq (Code.wp_mono (fun e a w q=>?_) (h1 a w f i))
 cases e <;> first|exact q|(obtain⟨i,j,hj,fj,ij⟩:=q;exact h2 i j hj _ _ fj ij)
theorem aEM{I:α→β→Prop}{fr':α→β→Fr}{K':α→β→Hl}{L':α→β→List Asn}(i:α)(j:β)(hi:I i j)(k:Kp fr (fr' i j))(hK:K' i j=K)(hL:∀h,Sat L h→Sat (L' i j) h):
  D E .normal fr K L (Exit.then (Mid2 E I fr' K' L') Q):=fun a w f q=>⟨i,j,hi,f.keep k,by rw[hK];exact q.imp hL⟩
end
end Go.SL
end
section
namespace Go.SL
open Go.MapKept
abbrev Ent:=List UInt8×Value×Nat
def ent(p:Ent):MapEntry:={key:=str p.1,val:=p.2.1,born:=p.2.2}
abbrev mapO(es:List Ent)(c:Nat):Obj:=.map (es.map ent).toArray c
def mD(k:List UInt8):List Ent→Nat→Option (Nat×Value)
 | [],_=>none
 |e::es,i=>if k=e.1 then some (i,e.2.1)else mD k es (i+1)
def mget(es:List Ent)(k:List UInt8):Option Value:=(es.find? fun e=>decide (k=e.1)).map (·.2.1)
theorem aLM(a b:List UInt8):((⟨a.toArray⟩:ByteArray)==⟨b.toArray⟩)=decide (a=b):=by
 show (a.toArray==b.toArray)=_
 by_cases h:a=b
 ·subst h;simp
 ·rw[decide_eq_false h,beq_eq_false_iff_ne];intro e;exact h gBS
theorem o7(k:List UInt8):∀(es:List Ent) (i:Nat),Instr.findNow .string (str k) (es.map ent) i=some (mD k es i):=by
 intro es;induction es with
 |nil=>intro i;rfl
 |cons e es ih=>
  intro i;simp only[List.map_cons,Instr.findNow,ent,Instr.sameNow,mD];rw[aLM]
  by_cases h:k=e.1
  ·simp[h]
  ·simp only[decide_eq_false h,if_neg h];exact ih _
theorem tF(k:List UInt8):∀(es:List Ent) (i:Nat),(mD k es i).map (·.2)=mget es k:=by
 intro es;induction es with
 |nil=>intro i;rfl
 |cons e es ih=>
  intro i;unfold mD mget
  by_cases h:k=e.1
  ·simp[h]
  ·rw[if_neg h,List.find?_cons,decide_eq_false h];exact ih _
section
variable{E:Env}{fr:Fr}{K:Hl}{L L':List Asn}{Q:Post}{dst:Option Tmp}{ty:TypeId}{pos:String}{aft:Array Edge}{g:Option (Nat×Bool)}{x y m:Operand}{t t' kt et b c:Nat}{v z:Value}{k:List UInt8}{es:List Ent}
theorem pZ:EfS E fr K L ⟨dst,.makeMap t none,ty,pos,aft,g⟩ (fun u K' L'=>∃b,u=.map (some b)∧K'=K∧L'=pt b (mapO [] 0)::L):=by
 intro a w f j;have:(execOp a.eval ⟨dst,.makeMap t none,ty,pos,aft,g⟩).run E.P w=.ok (.value (.map (some w.heap.size))) {w with heap:=w.heap.push (mapO [] 0)}:=by
  simp only[execOp];refine dS ?_
  rfl
 exact⟨_,_,K,_,.inl this,⟨_,rfl,rfl,rfl⟩,Hl.le_refl _,j.alloc _⟩
theorem aAH(hm:E.P.underlying t=some (.map kt et))(hk:E.P.underlying kt=some .string)(hz:eQ E.P et=some z)(hx:fr.ev x=some (.map (some b)))(hy:fr.ev y=some (str k))(hs:Sees K L b (mapO es c)):
  Ev E fr K L ⟨dst,.lookup t x y true,ty,pos,aft,g⟩ (.tuple #[(mget es k).getD z,.bool (mget es k).isSome]):=fun a w f j=>by
 simp only[execOp,f.ev hx,f.ev hy];refine dS ?_;have hb:=hs.at j;have h1:(Instr.checkKey (es.map ent).toArray.isEmpty 10000 kt (str k)).run E.P w=.ok () w:=run_checkKey hk (d:=.string) (k:=str k) trivial _ 9999;have h2:=run_findKey (w:=w) (kt:=kt) hk (o7 k es 0);have h3:(zeroValue et).run E.P w=.ok z w:=by
  unfold eQ at hz;cases hi:E.P.info? et with
  |none=>simp[hi]at hz
  |some inf=>simp[hi]at hz;simp only[zeroValue,typeInfo,program,bind,Sem.bind,pure,Sem.run,hi,hz]
 have h4:=tF k es 0;unfold Instr.lookup;rw[aP (run_underlying hm w)];simp only[]
 show ((getObj b)>>=fun _=>_).run E.P w=_
 rw[aP (MapKept.run_getObj_map hb)];simp only[];rw[aP (sJ _ _),aP h1]
 show ((Instr.findKey kt (str k) (es.map ent))>>=fun _=>_).run E.P w=_
 rw[aP h2,←h4];cases mD k es 0 with
 |some p=>rfl
 |none=>
  show ((zeroValue et)>>=fun _=>_).run E.P w=_
  rw[aP h3];rfl
theorem aKL{k:List UInt8}{es:List Ent}:∀ {i:Nat},mD k es i=none→es.any (fun e=>decide (k=e.1))=false:=by
 induction es with
 |nil=>intro i h;rfl
 |cons e es ih=>
  intro i h;unfold mD at h;split at h
  ·cases h
  ·rename_i hne;rw[List.any_cons,decide_eq_false hne,Bool.false_or];exact ih h
theorem sI{P:Program}{w:World}(hm:P.underlying t=some (.map kt et))(hk:P.underlying kt=some .string)(hb:w.heap[b]?=some (mapO es c))(hn:es.any (fun e=>decide (k=e.1))=false):
  (Instr.mapUpdate t (.map (some b)) (str k) v).run P w=.ok () {w with heap:=w.heap.setIfInBounds b (mapO (es++[(k,v,c)]) (c+1))}:=by
 have hf:mD k es 0=none:=by
  have:∀(es:List Ent) (i:Nat),es.any (fun e=>decide (k=e.1))=false→mD k es i=none:=by
   intro es;induction es with
   |nil=>intro i h;rfl
   |cons e es ih=>
    intro i h;rw[List.any_cons,Bool.or_eq_false_iff]at h;unfold mD;rw[if_neg (by simpa using h.1)];exact ih _ h.2
  exact this es 0 hn
 have h1:(Instr.checkKey false 10000 kt (str k)).run P w=.ok () w:=run_checkKey hk (d:=.string) (k:=str k) trivial _ 9999;have h2:=run_findKey (w:=w) (kt:=kt) hk (o7 k es 0);unfold Instr.mapUpdate;rw[aP (run_underlying hm w)];simp only[]
 show ((getObj b)>>=fun _=>_).run P w=_
 rw[aP (MapKept.run_getObj_map hb)];simp only[];rw[aP h1]
 show ((Instr.findKey kt (str k) (es.map ent))>>=fun _=>_).run P w=_
 rw[aP h2,hf]
 show (setObj b _).run P w=_
 rw[MapKept.run_setObj_map _ hb];have e1:(es.map ent).toArray.push {key:=str k,val:=v,born:=c}=((es++[(k,v,c)]).map ent).toArray:=by simp[ent]
 rw[e1]
theorem fQ(hm:E.P.underlying t=some (.map kt et))(hk:E.P.underlying kt=some .string)(hx:fr.ev m=some (.map (some b)))(hy:fr.ev x=some (str k))(hv:fr.ev y=some v)(hn:es.any (fun e=>decide (k=e.1))=false)
  (hF:Fnd (pt b (mapO es c)) (pt b (mapO (es++[(k,v,c)]) (c+1))) L L'):EfS E fr K L ⟨dst,.insert t m x y,ty,pos,aft,g⟩ (fun _ K' L''=>K'=K∧L''=L'):=by
 intro a w f j;have hb:=j.mem hF;have hr:(execOp a.eval ⟨dst,.insert t m x y,ty,pos,aft,g⟩).run E.P w=.ok .skip {w with heap:=w.heap.setIfInBounds b (mapO (es++[(k,v,c)]) (c+1))}:=by
  simp only[execOp,f.ev hx,f.ev hy,f.ev hv];rw[aP (sI hm hk hb hn)];rfl
 have hs:=MapKept.heap_set (o':=mapO (es++[(k,v,c)]) (c+1)) hb;exact⟨_,_,_,_,.inr ⟨hr,rfl⟩,⟨rfl,rfl⟩,Hl.le_refl _,j.writeAt hF (by simp) hs.1 hs.2⟩
end
theorem aFO{fn:Func}{t:Tmp}{ty:TypeId}(h:fn.results= #[.cell t ty])(tmps:Array Value)(P:Program)(w:World){ad:Addr}{v:Value}(ha:tmps.getD t undef=.pointer (some ad))(hl:(loadVar ty ad).run P w=.ok v w):
  (results fn tmps).run P w=.ok v w:=by
 have e1:tmps[t]?.getD undef=.pointer (some ad):=by simpa using ha
 simp[results,h,e1,asAddr,Sem.run_bind,Result.andThen,hl]
theorem w9{P:Program}{fn:Func}{n:Nat}{w0:World}{F K0 K:Hl}{fr:Fr}{L L1 M:List Asn}{R:Ending→Hl→List Asn→Prop}{t b m:Nat}{T u:TypeId}{l vs:List Value}{fz:Nat×Nat}
  (hr:fn.results= #[.cell t T]) (hx:fr.get t=some (ptr b)) (hT:aggB P T m=true) (hs:Sees K L b (aU l u fz)) (hv:l.take m=vs) (hn:vs.length=m) (le:K0.le K) (hL:Tks L1 L M) (h:R (.returned (.agg vs.toArray)) K L1):
  D ⟨P,n,[],w0,F⟩ .ret fr K L (tT P fn w0 F K0 R):=fun a w f i=>by
 refine⟨f.defers,.agg vs.toArray,?_,K,L1,h,le,(i.imp hL.sat).left⟩
 refine aFO hr _ _ _ (ad:=⟨b,0,none⟩) (by simp[f.get _ _ hx]) ?_;obtain⟨h1,h2⟩:=zC hT w;unfold loadVar;rw[aP h1];simp only[if_true];rw[aP h2];have:=jL (P:=P) (hs.at i) m vs 0 0 [] (by simpa using hv) hn;simp only[List.nil_append]at this;unfold loadCells;rw[aP this];rfl
section
variable{E:Env}{c x y:Code}{fr:Fr}{K:Hl}{L:List Asn}{Q:Post}{α β γ:Type}
def Rnd3(E:Env)(I:α→β→γ→Prop)(fr':α→β→γ→Fr)(K':α→β→γ→Hl)(L':α→β→γ→List Asn)(μ:α→β→γ→Nat)(m:Nat):Act→World→Prop:=
 fun a w=>∃i j k,I i j k∧μ i j k < m∧FrOk E.n E.ds (fr' i j k) a∧In E.w0 E.F (K' i j k) (L' i j k) w
theorem wP(I:α→β→γ→Prop)(fr':α→β→γ→Fr)(K':α→β→γ→Hl)(L':α→β→γ→List Asn)(μ:α→β→γ→Nat)(i0:α)(j0:β)(k0:γ)(h0:I i0 j0 k0)(k:Kp fr (fr' i0 j0 k0))(hK:K' i0 j0 k0=K)(hL:∀h,Sat L h→Sat (L' i0 j0 k0) h)
  (round:∀i j k,I i j k→T E c (fr' i j k) (K' i j k) (L' i j k) (Exit.then (Rnd3 E I fr' K' L' μ (μ i j k)) Q)):T E (.loop c) fr K L Q:=by
 refine d6 (fun p:α×β×γ=>I p.1 p.2.1 p.2.2) (fun p=>fr' p.1 p.2.1 p.2.2) (fun p=>K' p.1 p.2.1 p.2.2) (fun p=>L' p.1 p.2.1 p.2.2) (fun p=>μ p.1 p.2.1 p.2.2) (i0,j0,k0) h0 k hK hL ?_;rintro⟨i,j,k⟩ hI a w f w1;refine Code.wp_mono ?_ (round i j k hI a w f w1)
 exact tQ fun a w ⟨i',j',k',h1,h2,h3,h4⟩=>⟨(i',j',k'),h1,h2,h3,h4⟩
theorem jF{I:α→β→γ→Prop}{fr':α→β→γ→Fr}{K':α→β→γ→Hl}{L':α→β→γ→List Asn}{μ:α→β→γ→Nat}{m:Nat}(i:α)(j:β)(l:γ)(hj:I i j l)(hlt:μ i j l < m)(k:Kp fr (fr' i j l))(hK:K' i j l=K)(hL:∀h,Sat L h→Sat (L' i j l) h):
  D E .normal fr K L (Exit.then (Rnd3 E I fr' K' L' μ m) Q):=
 fun a w f q=>⟨i,j,l,hj,hlt,f.keep k,by rw[hK];exact q.imp hL⟩
end
theorem In.forget{w0 w:World}{F K K1:Hl}{L:List Asn}(le:K.le K1)(i:In w0 F K1 L w):In w0 F K L w:=by
 obtain⟨h,hs,d1,d2,d3,l1,l2,l3⟩:=i.rep;have dd:∀ {k:Hl},K1.dj k→K.dj k:=by
  intro k d x;rcases d x with e|e
  ·left
   cases hk:K x with
   |none=>rfl
   |some o=>rw[le x o hk]at e;cases e
  ·exact .inr e
 exact⟨i.os,i.tape,i.output,i.size,h,hs,(dd d1.symm).symm,d2,dd d3,l1,Hl.le_trans le l2,l3⟩
theorem aMC{P:Program}{f:FuncId}{args:List Value}{K:Hl}{L:List Asn}{R:Ending→List Asn→Prop}(h:Sp P f args K L (fun e _ L'=>R e L')):Sp P f args K L (fun e K' L'=>K'=K∧R e L'):=
 ⟨h.1,fun F w i=>(h.2 F w i).mono fun e w' ⟨K',L',hR,le,j⟩=>⟨K,L',⟨rfl,hR⟩,Hl.le_refl _,j.forget le⟩⟩
theorem gO{E:Env}{x:Exit}{fr:Fr}{K:Hl}{L:List Asn}{Q:Post}{b:Nat}{o:Obj}(h:∀K',K.le K'→K' b=some o→D E x fr K' L Q):D E x fr K (pt b o::L) Q:=fun a w f i=>let ⟨h1,h2,h3⟩:=i.settle;h _ h1 h2 a w f h3
end Go.SL
end
section
namespace Go.SL
theorem In.settleSl{α:Type}{z:Bool}{k:El α}{w0 w:World}{F K:Hl}{v:Value}{xs:List α}{L:List Asn}(i:In w0 F K (sl z k v xs::L) w):
  ∃K',K.le K'∧Ksl k K' v xs∧In w0 F K' L w:=by
 obtain⟨h,⟨a,l,ha,hl,hal,rfl⟩,r⟩:=i.rep;rcases ha with ⟨rfl,rfl,rfl⟩|⟨b,cap,junk,fz,rfl,hz,hc,hj,hf,rfl⟩
 ·refine⟨K,Hl.le_refl _,.inl ⟨none,0,rfl,rfl⟩,⟨i.os,i.tape,i.output,i.size,l,hl,?_⟩⟩
  have e:Hl.join Hl.emp l=l:=by funext x;simp[Hl.join,Hl.emp]
  rw[e]at r;exact r
 ·have i2:In w0 F K (pt b (aU (k.cs xs++junk) k.e fz)::L) w:=⟨i.os,i.tape,i.output,i.size,_,⟨_,l,rfl,hl,hal,rfl⟩,r⟩;obtain⟨h1,h2,h3⟩:=i2.settle;refine⟨_,h1,.inr ⟨b,0,cap,k.cs xs++junk,fz,rfl,⟨_,h2⟩,?_⟩,h3⟩
  rw[List.drop_zero,←k.cs_length,List.take_left]
section
variable{E:Env}{c:Code}{ops:Array Oper}{x:Exit}{fr:Fr}{K:Hl}{L:List Asn}{Q:Post}{α:Type}{z:Bool}{k:El α}{v:Value}{xs:List α}
theorem fL{l:List Oper}(h:∀K',K.le K'→Ksl k K' v xs→OL E ops l fr K' L Q):OL E ops l fr K (sl z k v xs::L) Q:=fun a w f i=>let ⟨_,h1,h2,h3⟩:=i.settleSl;h _ h1 h2 a w f h3
theorem fU(h:∀K',K.le K'→Ksl k K' v xs→D E x fr K' L Q):D E x fr K (sl z k v xs::L) Q:=fun a w f i=>let ⟨_,h1,h2,h3⟩:=i.settleSl;h _ h1 h2 a w f h3
end
theorem Ksl.one{α:Type}{k:El α}{K:Hl}{v:Value}{xs:List α}(h:Ksl k K v xs):v.oneCell'=true:=by
 rcases h with ⟨a0,c,rfl,_⟩|⟨b,off,cap,cells,fz,rfl,_,_⟩ <;> rfl
theorem Ksl.isSlice{α:Type}{k:El α}{K:Hl}{v:Value}{xs:List α}(h:Ksl k K v xs):∃a n c,v=.slice a n c:=by
 rcases h with ⟨a0,c,rfl,_⟩|⟨b,off,cap,cells,fz,rfl,_,_⟩
 ·exact⟨_,_,_,rfl⟩
 ·exact⟨_,_,_,rfl⟩
theorem lV{E:Env}{x:Exit}{fr:Fr}{K K2:Hl}{L:List Asn}{Q:Post}(le:K.le K2)(h:D E x fr K L Q):D E x fr K2 L Q:=fun a w f i=>h a w f (i.forget le)
theorem eT{α:Type}(k:El α){L:List Asn}:∀h,Sat L h→Sat (sl false k (.slice none 0 0) []::L) h:=fun h hh=>
 ⟨Hl.emp,h,.inl ⟨rfl,rfl,rfl⟩,hh,fun _=>.inl rfl,by funext x;simp[Hl.join,Hl.emp]⟩
abbrev Cell:={v:Value//v.oneCell'=true}
def dY(e:TypeId):El Cell:={e:=e,sz:=1,enc:=fun c=>[c.1],len:=fun _=>rfl,one:=fun c u h=>by simp at h;subst h;exact c.2}
def gI(e:TypeId):El (Cell×Cell):={e:=e,sz:=2,enc:=fun c=>[c.1.1,c.2.1],len:=fun _=>rfl,one:=fun c u h=>by simp at h;rcases h with rfl|rfl;exact c.1.2;exact c.2.2}
section
variable{E:Env}{c x y:Code}{fr:Fr}{K:Hl}{L:List Asn}{Q:Post}{α β γ δ:Type}
def Rnd4(E:Env)(I:α→β→γ→δ→Prop)(fr':α→β→γ→δ→Fr)(K':α→β→γ→δ→Hl)(L':α→β→γ→δ→List Asn)(μ:α→β→γ→δ→Nat)(m:Nat):Act→World→Prop:=
 fun a w=>∃i j k l,I i j k l∧μ i j k l < m∧FrOk E.n E.ds (fr' i j k l) a∧In E.w0 E.F (K' i j k l) (L' i j k l) w
theorem rE(I:α→β→γ→δ→Prop)(fr':α→β→γ→δ→Fr)(K':α→β→γ→δ→Hl)(L':α→β→γ→δ→List Asn)(μ:α→β→γ→δ→Nat)(i0:α)(j0:β)(k0:γ)(l0:δ)(h0:I i0 j0 k0 l0)(k:Kp fr (fr' i0 j0 k0 l0))(hK:K' i0 j0 k0 l0=K)(hL:∀h,Sat L h→Sat (L' i0 j0 k0 l0) h)
  (round:∀i j k l,I i j k l→T E c (fr' i j k l) (K' i j k l) (L' i j k l) (Exit.then (Rnd4 E I fr' K' L' μ (μ i j k l)) Q)):T E (.loop c) fr K L Q:=by
 refine d6 (fun p:α×β×γ×δ=>I p.1 p.2.1 p.2.2.1 p.2.2.2) (fun p=>fr' p.1 p.2.1 p.2.2.1 p.2.2.2) (fun p=>K' p.1 p.2.1 p.2.2.1 p.2.2.2) (fun p=>L' p.1 p.2.1 p.2.2.1 p.2.2.2) (fun p=>μ p.1 p.2.1 p.2.2.1 p.2.2.2) (i0,j0,k0,l0) h0 k hK hL ?_;rintro⟨i,j,k,l⟩ hI a w f w1;refine Code.wp_mono ?_ (round i j k l hI a w f w1)
 exact tQ fun a w ⟨i',j',k',l',h1,h2,h3,h4⟩=>⟨(i',j',k',l'),h1,h2,h3,h4⟩
theorem oE{I:α→β→γ→δ→Prop}{fr':α→β→γ→δ→Fr}{K':α→β→γ→δ→Hl}{L':α→β→γ→δ→List Asn}{μ:α→β→γ→δ→Nat}{m:Nat}(i:α)(j:β)(l:γ)(n:δ)(hj:I i j l n)(hlt:μ i j l n < m)(k:Kp fr (fr' i j l n))(hK:K' i j l n=K)(hL:∀h,Sat L h→Sat (L' i j l n) h):
  D E .normal fr K L (Exit.then (Rnd4 E I fr' K' L' μ m) Q):=
 fun a w f q=>⟨i,j,l,n,hj,hlt,f.keep k,by rw[hK];exact q.imp hL⟩
end
section
variable{E:Env}{c x y:Code}{fr:Fr}{K:Hl}{L:List Asn}{Q:Post}{α1 α2 α3 α4 α5 α6 α7:Type}
def Rnd7(E:Env)(I:α1→α2→α3→α4→α5→α6→α7→Prop)(fr':α1→α2→α3→α4→α5→α6→α7→Fr)(K':α1→α2→α3→α4→α5→α6→α7→Hl)(L':α1→α2→α3→α4→α5→α6→α7→List Asn)(μ:α1→α2→α3→α4→α5→α6→α7→Nat)(m:Nat):Act→World→Prop:=
 fun a w=>∃i1 i2 i3 i4 i5 i6 i7,I i1 i2 i3 i4 i5 i6 i7∧μ i1 i2 i3 i4 i5 i6 i7 < m∧FrOk E.n E.ds (fr' i1 i2 i3 i4 i5 i6 i7) a∧In E.w0 E.F (K' i1 i2 i3 i4 i5 i6 i7) (L' i1 i2 i3 i4 i5 i6 i7) w
theorem aFY(I:α1→α2→α3→α4→α5→α6→α7→Prop)(fr':α1→α2→α3→α4→α5→α6→α7→Fr)(K':α1→α2→α3→α4→α5→α6→α7→Hl)(L':α1→α2→α3→α4→α5→α6→α7→List Asn)(μ:α1→α2→α3→α4→α5→α6→α7→Nat)(i10:α1)(i20:α2)(i30:α3)(i40:α4)(i50:α5)(i60:α6)(i70:α7)(h0:I i10 i20 i30 i40 i50 i60 i70)(k:Kp fr (fr' i10 i20 i30 i40 i50 i60 i70))(hK:K' i10 i20 i30 i40 i50 i60 i70=K)(hL:∀h,Sat L h→Sat (L' i10 i20 i30 i40 i50 i60 i70) h)
  (round:∀i1 i2 i3 i4 i5 i6 i7,I i1 i2 i3 i4 i5 i6 i7→T E c (fr' i1 i2 i3 i4 i5 i6 i7) (K' i1 i2 i3 i4 i5 i6 i7) (L' i1 i2 i3 i4 i5 i6 i7) (Exit.then (Rnd7 E I fr' K' L' μ (μ i1 i2 i3 i4 i5 i6 i7)) Q)):T E (.loop c) fr K L Q:=by
 refine d6 (fun p:α1×α2×α3×α4×α5×α6×α7=>I p.1 p.2.1 p.2.2.1 p.2.2.2.1 p.2.2.2.2.1 p.2.2.2.2.2.1 p.2.2.2.2.2.2) (fun p=>fr' p.1 p.2.1 p.2.2.1 p.2.2.2.1 p.2.2.2.2.1 p.2.2.2.2.2.1 p.2.2.2.2.2.2) (fun p=>K' p.1 p.2.1 p.2.2.1 p.2.2.2.1 p.2.2.2.2.1 p.2.2.2.2.2.1 p.2.2.2.2.2.2) (fun p=>L' p.1 p.2.1 p.2.2.1 p.2.2.2.1 p.2.2.2.2.1 p.2.2.2.2.2.1 p.2.2.2.2.2.2) (fun p=>μ p.1 p.2.1 p.2.2.1 p.2.2.2.1 p.2.2.2.2.1 p.2.2.2.2.2.1 p.2.2.2.2.2.2) (i10,i20,i30,i40,i50,i60,i70) h0 k hK hL ?_;rintro⟨i1,i2,i3,i4,i5,i6,i7⟩ hI a w f w1;refine Code.wp_mono ?_ (round i1 i2 i3 i4 i5 i6 i7 hI a w f w1)
 exact tQ fun a w ⟨i1',i2',i3',i4',i5',i6',i7',h1,h2,h3,h4⟩=>⟨(i1',i2',i3',i4',i5',i6',i7'),h1,h2,h3,h4⟩
theorem jG{I:α1→α2→α3→α4→α5→α6→α7→Prop}{fr':α1→α2→α3→α4→α5→α6→α7→Fr}{K':α1→α2→α3→α4→α5→α6→α7→Hl}{L':α1→α2→α3→α4→α5→α6→α7→List Asn}{μ:α1→α2→α3→α4→α5→α6→α7→Nat}{m:Nat}(i1:α1)(i2:α2)(i3:α3)(i4:α4)(i5:α5)(i6:α6)(i7:α7)(hj:I i1 i2 i3 i4 i5 i6 i7)(hlt:μ i1 i2 i3 i4 i5 i6 i7 < m)(k:Kp fr (fr' i1 i2 i3 i4 i5 i6 i7))(hK:K' i1 i2 i3 i4 i5 i6 i7=K)(hL:∀h,Sat L h→Sat (L' i1 i2 i3 i4 i5 i6 i7) h):
  D E .normal fr K L (Exit.then (Rnd7 E I fr' K' L' μ m) Q):=
 fun a w f q=>⟨i1,i2,i3,i4,i5,i6,i7,hj,hlt,f.keep k,by rw[hK];exact q.imp hL⟩
end
end Go.SL
end
section
namespace Go.SL
section
variable{H:Type}{enc:TypeId×Value→H}{P:Program}{w:World}{base:Nat}{sp:Nat→Bool}{held:Bool}{n:Nat}{t:TypeId}{cs:List Value}{x:DataW H×List MemPlace}
theorem sE{α β:Type}{f:α→Option β}:∀ {l:List α} {r:List β},l.mapM f=some r→r.length=l.length∧∀(i:Nat) (a:α),l[i]?=some a→∃y,f a=some y∧r[i]?=some y
 | [],r,h=>by simp at h;subst h;exact⟨rfl,fun i a h=>by simp at h⟩
 |b::l,r,h=>by
  rw[List.mapM_cons]at h;cases hb:f b with
  |none=>simp[hb]at h
  |some y=>
   simp[hb]at h;cases hl:l.mapM f with
   |none=>simp[hl]at h
   |some ys=>
    simp[hl]at h;subst h;obtain⟨h1,h2⟩:=sE hl;refine⟨by simp[h1],fun i a hi=>?_⟩
    cases i with
    |zero=>simp at hi;subst hi;exact⟨y,hb,rfl⟩
    |succ i=>simpa using h2 i a (by simpa using hi)
theorem tS(h:DataW.trod enc P w base sp held n t cs=some x):∃m,n=m+1∧DataW.trodStep enc P w base sp held (DataW.trod enc P w base sp held m) t cs=some x:=by
 cases n with
 |zero=>simp[DataW.trod]at h
 |succ m=>exact⟨m,rfl,h⟩
theorem aUC(hu:P.underlying t=some .string)(h:DataW.trod enc P w base sp held n t cs=some x):∃l:List UInt8,cs=[str l]∧x.1=.lit (.string l):=by
 obtain⟨m,hm0,h2⟩:=tS h;clear h;have h:=h2;clear h2 hm0;unfold DataW.trodStep at h;rw[hu]at h;cases cs with
 |nil=>simp at h
 |cons c r=>
  cases r with
  |cons c2 r2=>cases c <;> simp at h
  |nil=>
   cases c <;> simp at h
   rename_i s;refine⟨s.data.toList,?_,by rw[←h.2]⟩
   cases s;simp
theorem aUB{k:IntKind}(hu:P.underlying t=some (.int k))(h:DataW.trod enc P w base sp held n t cs=some x):∃i:Int,cs=[.int k i]∧(Lit.int k i).wf=true:=by
 obtain⟨m,hm0,h2⟩:=tS h;clear h;have h:=h2;clear h2 hm0;unfold DataW.trodStep at h;rw[hu]at h;cases cs with
 |nil=>simp at h
 |cons c r=>
  cases r with
  |cons c2 r2=>cases c <;> simp at h
  |nil=>
   cases c <;> simp at h
   rename_i k' i;obtain⟨⟨rfl,h2⟩,_⟩:=h;exact⟨i,rfl,h2⟩
theorem aF8{fs:Array Field}(hu:P.underlying t=some (.struct fs))(h:DataW.trod enc P w base sp held n t cs=some x):
  ∃m,cs.length=P.cellsOf t∧∀(i:Nat) f,fs.toList[i]?=some f→∃y,DataW.trod enc P w base sp held m f.type ((cs.drop f.offset).take (P.cellsOf f.type))=some y∧(∀n∈y.1.weights P f.type,n∈x.1.weights P t)∧∃parts,x.1=.agg parts∧y.1∈parts:=by
 obtain⟨m,hm0,h2⟩:=tS h;clear h;have h:=h2;clear h2 hm0;unfold DataW.trodStep at h;rw[hu]at h;simp only[]at h;split at h
 ·rename_i hl;refine⟨m,hl,fun i f hf=>?_⟩
  cases hm:fs.toList.mapM fun f=>DataW.trod enc P w base sp held m f.type ((cs.drop f.offset).take (P.cellsOf f.type))with
  |none=>rw[hm]at h;cases h
  |some r=>
   rw[hm]at h;have hx:=Option.some.inj h;obtain⟨y,h1,h2⟩:=(sE hm).2 i f hf;refine⟨y,h1,fun n hn=>?_,r.map (·.1),by rw[←hx],List.mem_map_of_mem (List.mem_of_getElem? h2)⟩
   rw[←hx];simp only[DataW.weights,hu];exact DataW.weights_mem_each (j:=i) (by simp[hf]) (by simp[h2]) n hn
 ·cases h
theorem yZ{fs:Array Field}(hu:P.underlying t=some (.struct fs))(h:DataW.trod enc P w base sp held n t cs=some x):
  ∃m,cs.length=P.cellsOf t∧∀(i:Nat) f,fs.toList[i]?=some f→∃y,DataW.trod enc P w base sp held m f.type ((cs.drop f.offset).take (P.cellsOf f.type))=some y∧∀n∈y.1.weights P f.type,n∈x.1.weights P t:=
 let ⟨m,h1,h2⟩:=aF8 hu h;⟨m,h1,fun i f hf=>let ⟨y,h3,h4,_⟩:=h2 i f hf;⟨y,h3,h4⟩⟩
theorem rN{e:TypeId}{d:DataW H}:∀ {l:List (DataW H)},d∈l→∀n∈d.weights P e,n∈DataW.weightsAll P e l
 | [],h,_,_=>by cases h
 |a::l,h,n,hn=>by
  rw[DataW.weightsAll,List.mem_append];rcases List.mem_cons.1 h with rfl|h
  ·exact .inl hn
  ·exact .inr (rN h n hn)
theorem yM{α:Type}{Q:Nat→α→Prop}:∀n,(∀i,i < n→∃a,Q i a)→∃xs:List α,xs.length=n∧∀i x,xs[i]?=some x→Q i x
 |0,_=>⟨[],rfl,fun i x h=>by simp at h⟩
 |n+1,h=>by
  obtain⟨xs,h1,h2⟩:=yM n fun i hi=>h i aH
  obtain⟨a,ha⟩:=h n aH;refine⟨xs++[a],by simp[h1],fun i x hx=>?_⟩
  rcases Nat.lt_or_ge i xs.length with hi|hi
  ·rw[List.getElem?_append_left hi]at hx;exact h2 i x hx
  ·rw[List.getElem?_append_right hi]at hx;have:i=n:=by
    rcases Nat.lt_or_ge (i - xs.length) 1 with h'|h'
    ·omega
    ·rw[List.getElem?_eq_none (by simpa using h')]at hx;cases hx
   subst this;have e:i - xs.length=0:=by omega
   rw[e]at hx;simp at hx;subst hx;exact ha
theorem aVQ(μ:DataW H→Nat)(hμ:∀(l r:List (DataW H)) (d:DataW H),d∈l→μ d≤μ (.slice l r)){α:Type}{k:El α}{G:α→Prop}{v:Value}(hu:P.underlying t=some (.slice k.e))(hc:P.cellsOf k.e=k.sz)(hsz:0 < k.sz)
  (helt:∀n cs y,DataW.trod enc P w base sp held n k.e cs=some y→(∀n∈y.1.weights P k.e,n∈x.1.weights P t)→μ y.1≤μ x.1→∃a,cs=k.enc a∧G a) (h:DataW.trod enc P w base sp held n t [v]=some x):
  ∃xs,Ksl k (hp w) v xs∧(∀a∈xs,G a)∧(xs=[]∨∃n∈x.1.weights P t,xs.length*P.bytesOf k.e≤n):=by
 obtain⟨m,hm0,h2⟩:=tS h;clear h;have h:=h2;clear h2 hm0;unfold DataW.trodStep at h;rw[hu]at h;cases v with
 |slice a len cap=>
  cases a with
  |none=>
   cases len with
   |succ l=>simp at h
   |zero=>exact⟨[],.inl ⟨none,cap,rfl,rfl⟩,by simp,by simp⟩
  |some a=>
   simp only[hc]at h;split at h
   ·rename_i hb;cases hm:(List.range len).mapM fun i=>(w.cells? base (a.add (i*k.sz)) k.sz).bind (DataW.trod enc P w base sp held m k.e)with
    |none=>rw[hm]at h;cases h
    |some r=>
     rw[hm]at h;obtain⟨rest,hrest,hx⟩:∃rest,True∧x=(DataW.slice (r.map (·.1)) (rest.map (·.1)),MemPlace.row a ((r.length+rest.length)*k.sz)++(r++rest).flatMap (·.2)):=by
      simp only[Option.bind_some]at h;split at h
      ·cases h2:((List.range (cap - len)).mapM fun j=>(w.cells? base (a.add ((len+j)*k.sz)) k.sz).bind (DataW.trod enc P w base sp held m k.e))with
       |none=>rw[h2]at h;cases h
       |some rest=>rw[h2]at h;exact⟨rest,trivial,(Option.some.inj h).symm⟩
      ·exact⟨[],trivial,(Option.some.inj h).symm⟩
     clear h;have hw1:∀y∈r,∀n∈y.1.weights P k.e,n∈x.1.weights P t:=by
      intro y hy n hn;rw[hx];simp only[DataW.weights,hu];exact List.mem_cons_of_mem _ (List.mem_append_left _ (rN (List.mem_map_of_mem hy) n hn))
     have hw3:∀y∈r,μ y.1≤μ x.1:=fun y hy=>by rw[hx];exact hμ _ _ _ (List.mem_map_of_mem hy)
     have hw2:(r.length+rest.length)*P.bytesOf k.e∈x.1.weights P t:=by
      rw[hx];simp only[DataW.weights,hu,List.length_map];exact List.mem_cons_self
     have hrl:r.length=len:=by have:=(sE hm).1;simpa using this
     by_cases hl0:len=0
     ·subst hl0;exact⟨[],.inl ⟨some a,cap,rfl,rfl⟩,by simp,by simp⟩
     have hel:∀i,i < len→∃y:α,w.cells? base (a.add (i*k.sz)) k.sz=some (k.enc y)∧G y:=by
      intro i hi;obtain⟨z,hz,hzr⟩:=(sE hm).2 i i (by simp[hi]);cases hcs:w.cells? base (a.add (i*k.sz)) k.sz with
      |none=>rw[hcs]at hz;cases hz
      |some ds=>
       rw[hcs]at hz;obtain⟨y,rfl,hG⟩:=helt m ds z hz (hw1 z (List.mem_of_getElem? hzr)) (hw3 z (List.mem_of_getElem? hzr));exact⟨y,rfl,hG⟩
     obtain⟨xs,hx1,hx2⟩:=yM len hel;have hcell:∀i y,xs[i]?=some y→∀j,j < k.sz→∃c,(k.enc y)[j]?=some c∧w.cell? ((a.add (i*k.sz)).add j)=some c:=by
      intro i y hy j hj;have h1:=(hx2 i y hy).1;unfold World.cells? at h1;split at h1
      ·obtain⟨_,h3⟩:=sE h1;obtain⟨c,h4,h5⟩:=h3 j j (by simp[hj]);exact⟨c,h5,h4⟩
      ·cases h1
     obtain⟨y0,hy0⟩:∃y,xs[0]?=some y:=⟨xs[0]'(by omega),List.getElem?_eq_getElem aH⟩;obtain⟨c0,_,hc0⟩:=hcell 0 y0 hy0 0 hsz;obtain⟨b,off,spot⟩:=a;have hsp:spot=none:=by
      have:=World.cell?_spot hc0
      simpa[Addr.add]using this
     subst hsp;have hcl:∀i y,xs[i]?=some y→∀j,j < k.sz→∃c,(k.enc y)[j]?=some c∧w.cell? ⟨b,off+i*k.sz+j,none⟩=some c:=by
      intro i y hy j hj;obtain⟨c,h1,h2⟩:=hcell i y hy j hj;rw[hZ,hZ]at h2;exact⟨c,h1,h2⟩
     have hblk:∃cells u fz,w.heap[b]?=some (aU cells u fz):=by
      obtain⟨c,_,h2⟩:=hcl 0 y0 hy0 0 hsz;unfold World.cell? at h2;cases hw:w.heap[b]? with
      |none=>simp[hw]at h2
      |some o=>
       cases o <;> simp[hw]at h2
       rename_i arr u fz;exact⟨arr.toList,u,fz,by simp⟩
     obtain⟨cells,u,fz,hblk⟩:=hblk;have hcl2:∀i y,xs[i]?=some y→∀j,j < k.sz→(k.enc y)[j]?=cells[off+i*k.sz+j]?:=by
      intro i y hy j hj;obtain⟨c,h1,h2⟩:=hcl i y hy j hj;have h3:cells[off+i*k.sz+j]?=some c:=by simpa[World.cell?,hblk]using h2
      rw[h1,h3]
     refine⟨xs,.inr ⟨b,off,cap,cells,fz,by rw[hx1],⟨u,hblk⟩,?_⟩,fun y hy=>?_,.inr ⟨_,hw2,Nat.mul_le_mul_right _ aH⟩⟩
     ·
      have key:∀(ys:List α) (o:Nat),(∀i y,ys[i]?=some y→∀j,j < k.sz→(k.enc y)[j]?=cells[o+i*k.sz+j]?)→(cells.drop o).take (ys.length*k.sz)=k.cs ys:=by
       intro ys;induction ys with
       |nil=>intro o _;simp[El.cs]
       |cons y ys ih=>
        intro o hh;have h1 := ih (o + k.sz) (fun i z hz j hj => by
         have:=hh (i+1) z (by simpa using hz) j hj;rw[this];congr 1;rw[Nat.succ_mul];omega)
        have h0:(cells.drop o).take k.sz=k.enc y:=by
         refine List.ext_getElem? fun j=>?_
         rw[List.getElem?_take];split
         ·rename_i hj;rw[List.getElem?_drop];have:=hh 0 y rfl j hj
          simpa using this.symm
         ·rename_i hj;rw[List.getElem?_eq_none (by rw[k.len];omega)]
        show (cells.drop o).take ((ys.length+1)*k.sz)=k.enc y++k.cs ys
        rw[←h0,←h1,Nat.succ_mul,Nat.add_comm,List.take_add,List.drop_drop]
      exact key xs off (fun i y hy j hj=>hcl2 i y hy j hj)
     ·obtain⟨i,hi⟩:=List.getElem?_of_mem hy;exact(hx2 i y hi).2
   ·cases h
 |_=>simp at h
theorem aY0{α:Type}{k:El α}{G:α→Prop}{v:Value}(hu:P.underlying t=some (.slice k.e))(hc:P.cellsOf k.e=k.sz)(hsz:0 < k.sz)
  (helt:∀n cs y,DataW.trod enc P w base sp held n k.e cs=some y→(∀n∈y.1.weights P k.e,n∈x.1.weights P t)→∃a,cs=k.enc a∧G a) (h:DataW.trod enc P w base sp held n t [v]=some x):
  ∃xs,Ksl k (hp w) v xs∧(∀a∈xs,G a)∧(xs=[]∨∃n∈x.1.weights P t,xs.length*P.bytesOf k.e≤n):=
 aVQ (fun _=>0) (fun _ _ _ _=>Nat.le_refl _) hu hc hsz (fun n cs y h1 h2 _=>helt n cs y h1 h2) h
end
end Go.SL
end
section
namespace Go.SL
def u5(P:Program)(fn:Func)(w0:World)(F K0:Hl)(R:Ending→Hl→List Asn→Prop):Post:=
 bodyPostD P fn fun e w'=>∃K' L',R e K' L'∧K0.le K'∧In w0 F K' L' w'
theorem aBQ{P:Program}{f:FuncId}{fn:Func}{c:Code}{args:List Value}{n:Nat}{K:Hl}{L:List Asn}{R:Ending→Hl→List Asn→Prop}
  (hf:P.funcs[f]?=some fn) (hb:fn.body=some c) (hn:fn.ntmps=n) (hl:Nat.ble args.length n=true) (hname:(fn.name=="runtime.NumGoroutine")=false)
  (h:∀(F:Hl) (w:World),T ⟨P,n,[],w,F⟩ c (Fr.init 0 args n) K L (u5 P fn w F K R)):Sp P f args K L R:=by
 refine⟨⟨fn,hf,hname,by simp[hb]⟩,fun F w i=>calls_of_wp_defers hf hb (h F w _ _ ⟨rfl,?_,?_⟩ i)⟩
 ·have:args.length≤n:=Nat.le_of_ble_eq_true hl;simp[hn];omega
 ·intro k v e;obtain⟨_,h2⟩:=sB e;have hk:k < args.length:=by
   rcases Nat.lt_or_ge k args.length with h|h
   ·exact h
   ·simp[List.getElem?_eq_none h]at h2
  show (args.toArray++Array.replicate _ _)[k]?=some v
  rw[Array.getElem?_append_left gC1]
  simpa using h2
abbrev dfr(f:FuncId)(caps:Array Value):Deferred:={target:=.fn (.func f) caps,args:= #[]}
section
variable{E:Env}{fr:Fr}{K:Hl}{L:List Asn}{Q:Post}{ops:Array Oper}{rest:List Oper}
theorem aHX{ty:TypeId}{pos:String}{aft:Array Edge}{fv:Operand}{f:FuncId}{caps:Array Value}(hf:fr.ev fv=some (.func (.func f) #[] caps))
  (h:OL ⟨E.P,E.n,dfr f caps::E.ds,E.w0,E.F⟩ ops rest fr K L Q):OL E ops (⟨none,.defer ⟨.value fv,#[],#[]⟩,ty,pos,aft,none⟩::rest) fr K L Q:=by
 intro a w f1 i;refine wpList_plain rfl fun k hk=>?_
 unfold Oper.wp;have:(execOp a.eval ⟨none,.defer ⟨.value fv,#[],#[]⟩,ty,pos,aft,none⟩).run E.P w=.ok (.defer (dfr f caps)) w:=by
  simp only[execOp,resolve,f1.ev hf,Deferred.ofValue,bind,pure,Sem.bind];simp[Sem.run,dfr]
 rw[this];refine hk _ _ (h _ _ ⟨?_,f1.size,fun k v e=>f1.get k v e⟩ i)
 show dfr f caps::a.defers=_
 rw[f1.defers]
end
def SpD(P:Program)(f:FuncId)(args:List Value)(K:Hl)(L:List Asn)(u:FrameMode)(R:Ending→FrameMode→Hl→List Asn→Prop):Prop:=
 (∃fn,P.funcs[f]?=some fn∧(fn.name=="runtime.NumGoroutine")=false∧fn.body.isSome=true)∧
 ∀F w,In w F K L w→CallsD P f args.toArray u w fun e u' w'=>∃K' L',R e u' K' L'∧K.le K'∧In w F K' L' w'
theorem bAT{P:Program}{w:World}{ρ:Operand→Value}{d:Nat}{ty:TypeId}{pos:String}{aft:Array Edge}:(execOp ρ ⟨some d,.call ⟨.builtin .recover,#[],#[]⟩,ty,pos,aft,none⟩).run P w=.ok .recover w:=by
 simp only[execOp,resolve,bind,pure,Sem.bind];rfl
theorem aFV{P:Program}{f:FuncId}{fn:Func}{rest:Code}{args:List Value}{n d d2:Nat}{ty ty2:TypeId}{pos pos2:String}{aft aft2:Array Edge}{id:Nat}{K:Hl}{L:List Asn}{R:Ending→Hl→List Asn→Prop}{u u':FrameMode}{rv:Value}
  (hf:P.funcs[f]?=some fn) (hb:fn.body=some (.seq (.region id #[⟨some d,.call ⟨.builtin .recover,#[],#[]⟩,ty,pos,aft,none⟩,⟨some d2,.assign (.tmp d),ty2,pos2,aft2,none⟩] false) rest)) (hn:fn.ntmps=n) (hl:Nat.ble args.length n=true) (hd:Nat.blt d n=true) (hd2:Nat.blt d2 n=true) (hname:(fn.name=="runtime.NumGoroutine")=false)
  (hrec:∀(c:Frame) (cs:List Frame),c.mode=u→recoverD (c::cs)=some (rv,{c with mode:=u'}::cs)∨(recoverD (c::cs)=none∧rv=.nilIface∧u'=u))
  (h:∀(F:Hl) (w:World),T ⟨P,n,[],w,F⟩ rest ((d2,rv)::(d,rv)::Fr.init 0 args n) K L (tT P fn w F K R)):
  SpD P f args K L u fun e u'' K' L'=>u''=u'∧R e K' L':=by
 refine⟨⟨fn,hf,hname,by simp[hb]⟩,fun F w i=>callsD_of_wpS hf hb fun c0 cs hu=>?_⟩
 have hlen:args.length≤n:=Nat.le_of_ble_eq_true hl;have f0:FrOk n [] (Fr.init 0 args n) {tmps:=args.toArray++Array.replicate (fn.ntmps - args.toArray.size) undef,defers:=[]}:=by
  refine⟨rfl,by simp[hn];omega,?_⟩
  intro k v e;obtain⟨_,h2⟩:=sB e;have hk:k < args.length:=by
   rcases Nat.lt_or_ge k args.length with h|h
   ·exact h
   ·simp[List.getElem?_eq_none h]at h2
  show (args.toArray++Array.replicate _ _)[k]?=some v
  rw[Array.getElem?_append_left gC1]
  simpa using h2
 have f2:=(f0.put hd rv).put hd2 rv;refine wpS_seq (wpS_region ?_)
 have fin:∀cs',cs'={c0 with mode:=u'}::cs→(rest.wpS P (bodyPostS P fn c0 cs fun e u'' w'=>∃K' L',(u''=u'∧R e K' L')∧K.le K'∧In w F K' L' w') (({tmps:=args.toArray++Array.replicate (fn.ntmps - args.toArray.size) undef,defers:=[]:Act}.put (some d) rv).put (some d2) rv) cs' w):=by
  intro cs' hcs;refine wpS_of_wp (Code.wp_mono ?_ (h F w _ _ f2 i))
  intro e a' w' q;subst hcs;cases e with
  |normal=>obtain⟨h1,v,h2,K',L',h3,h4,h5⟩:=q;exact⟨h1,_,rfl,v,h2,K',L',⟨rfl,h3⟩,h4,h5⟩
  |ret=>obtain⟨h1,v,h2,K',L',h3,h4,h5⟩:=q;exact⟨h1,_,rfl,v,h2,K',L',⟨rfl,h3⟩,h4,h5⟩
  |panic ch=>obtain⟨h1,K',L',h3,h4,h5⟩:=q;exact⟨h1,_,rfl,K',L',⟨rfl,h3⟩,h4,h5⟩
  |exit id=>exact q.elim
  |goto l=>exact q.elim
  |outgrown=>obtain⟨K',L',h3,h4,h5⟩:=q;exact⟨_,K',L',⟨rfl,h3⟩,h4,h5⟩
 have ev:∀(a:Act) (w:World),(execOp (a.put (some d) rv).eval ⟨some d2,.assign (.tmp d),ty2,pos2,aft2,none⟩).run P w=.ok (.value ((a.put (some d) rv).eval (.tmp d))) w:=fun a w=>rfl
 have evd:({tmps:=args.toArray++Array.replicate (fn.ntmps - args.toArray.size) undef,defers:=[]:Act}.put (some d) rv).eval (.tmp d)=rv:=(f0.put hd rv).ev (x:=.tmp d) (by simp[Fr.ev,Fr.get])
 show wpOpsS P _ _ [0,1] _ _ _
 unfold wpOpsS;simp only[List.getElem?_toArray,List.getElem?_cons_zero,Region.wanted,if_true];rw[bAT];simp only[];rcases hrec c0 cs hu with hr|⟨hr,e1,e2⟩
 ·rw[hr];simp only[];unfold wpOpsS;simp only[List.getElem?_toArray,List.getElem?_cons_succ,List.getElem?_cons_zero,Region.wanted,if_true];rw[ev];simp only[];rw[evd];exact fin _ rfl
 ·rw[hr];simp only[];unfold wpOpsS;simp only[List.getElem?_toArray,List.getElem?_cons_succ,List.getElem?_cons_zero,Region.wanted,if_true];have ev':∀(a:Act) (w:World),(execOp (a.put (some d) .nilIface).eval ⟨some d2,.assign (.tmp d),ty2,pos2,aft2,none⟩).run P w=.ok (.value ((a.put (some d) .nilIface).eval (.tmp d))) w:=fun a w=>rfl
  rw[ev'];simp only[];subst e1;rw[evd];refine fin _ ?_;rw[e2,←hu]
theorem t7(c:Frame)(cs:List Frame)(h:c.mode=.returning):recoverD (c::cs)=some (.nilIface,{c with mode:=.returning}::cs)∨(recoverD (c::cs)=none∧Value.nilIface=.nilIface∧FrameMode.returning=.returning):=
 .inr ⟨by cases c;simp only at h;subst h;rfl,rfl,rfl⟩
theorem t6{v:Value}(c:Frame)(cs:List Frame)(h:c.mode=.panicking [{v,recovered:=false}]):
  recoverD (c::cs)=some (v,{c with mode:=.panicking [{v,recovered:=true}]}::cs)∨(recoverD (c::cs)=none∧v=.nilIface∧FrameMode.panicking [{v,recovered:=true}]=.panicking [{v,recovered:=false}]):=
 .inl (by cases c;simp only at h;subst h;rfl)
section
variable{P:Program}{fn:Func}{n:Nat}{w0:World}{F K0 K:Hl}{fr:Fr}{L L1 L2:List Asn}{R:Ending→Hl→List Asn→Prop}
theorem aAV{f:FuncId}{caps:Array Value}{u:FrameMode}{RD:Ending→FrameMode→Hl→List Asn→Prop}{a:Act}{w:World}(fo:FrOk n [dfr f caps] fr a)(i:In w0 F K L w)(hu:u≠.run)(hL:Tks L1 L L2)(hs:SpD P f caps.toList K L1 u RD)
  (hret:∀v u' K' L',RD (.returned v) u' K' L'→K.le K'→settle u'=.returning∧∀w',In w0 F K' (L'++L2) w'→∃v,(results fn a.tmps).run P w'=.ok v w'∧∃K'' L'',R (.returned v) K'' L''∧K0.le K''∧In w0 F K'' L'' w')
  (hpan:∀ch u' K' L',¬RD (.panicked ch) u' K' L') (hout:∀u' K' L',¬RD .outgrown u' K' L'):
  Leaves P fn a.tmps (fun e w'=>∃K' L',R e K' L'∧K0.le K'∧In w0 F K' L' w') a.defers u w:=by
 rw[fo.defers];obtain⟨F',i1,back⟩:=(i.imp hL.sat).hide;obtain⟨⟨g,g1,g2,g3⟩,hs⟩:=hs;refine leaves_cons hu (f:=f) (args:=caps.toList.toArray) ?_ ((hs F' w i1).mono fun e u' w' ⟨K',L',r,le,j⟩=>?_)
 ·have:=xE (vs:=caps) g1 g2 g3 w;simp only[invoke]
  simpa using this
 ·cases e with
  |returned v=>
   obtain⟨h1,h2⟩:=hret _ _ _ _ r le;simp only[];rw[h1];exact h2 w' (back j)
  |panicked ch=>exact absurd r (hpan _ _ _ _)
  |outgrown=>exact absurd r (hout _ _ _)
end
theorem mK{P:Program}{w:World}{T u:TypeId}{b:Nat}{l:List Value}{fz:Nat×Nat}{v:Value}(ht:d7 P T=true)(h:w.heap[b]?=some (aU l u fz))(hv:l[0]?=some v):(loadVar T ⟨b,0,none⟩).run P w=.ok v w:=by
 obtain⟨h1,h2⟩:=nE ht w;unfold loadVar;rw[aP h1];exact sD h hv
theorem aBK{P:Program}{fn:Func}{t1 t2:Tmp}{T1 T2:TypeId}(h:fn.results= #[.cell t1 T1,.cell t2 T2])(tmps:Array Value)(w:World){a1 a2:Addr}{v1 v2:Value}(e1:tmps.getD t1 undef=.pointer (some a1))(e2:tmps.getD t2 undef=.pointer (some a2))
  (l1:(loadVar T1 a1).run P w=.ok v1 w) (l2:(loadVar T2 a2).run P w=.ok v2 w):(results fn tmps).run P w=.ok (.tuple #[v1,v2]) w:=by
 have e1:tmps[t1]?.getD undef=.pointer (some a1):=by simpa using e1
 have e2:tmps[t2]?.getD undef=.pointer (some a2):=by simpa using e2
 simp[results,h,e1,e2,asAddr,Sem.run_bind,Result.andThen,l1,l2]
theorem aIA{P:Program}{fn:Func}{t1 t2 t3:Tmp}{T1 T3:TypeId}(h:fn.results= #[.cell t1 T1,.tmp t2,.cell t3 T3])(tmps:Array Value)(w:World){a1 a3:Addr}{v1 v2 v3:Value}(e1:tmps.getD t1 undef=.pointer (some a1))(e2:tmps.getD t2 undef=v2)(e3:tmps.getD t3 undef=.pointer (some a3))
  (l1:(loadVar T1 a1).run P w=.ok v1 w) (l3:(loadVar T3 a3).run P w=.ok v3 w):(results fn tmps).run P w=.ok (.tuple #[v1,v2,v3]) w:=by
 have e1:tmps[t1]?.getD undef=.pointer (some a1):=by simpa using e1
 have e3:tmps[t3]?.getD undef=.pointer (some a3):=by simpa using e3
 have e2:tmps[t2]?.getD undef=v2:=by simpa using e2
 simp[results,h,e1,e2,e3,asAddr,Sem.run_bind,Result.andThen,l1,l3]
inductive Way:Exit→FrameMode→Prop where
 |norm:Way .normal .returning
 |ret:Way .ret .returning
 |pan (ch:List PanicEntry):Way (.panic ch) (.panicking ch)
theorem Way.ne{x:Exit}{u:FrameMode}(h:Way x u):u≠.run:=by cases h <;> simp
theorem Way.post{x:Exit}{u:FrameMode}(h:Way x u){P:Program}{fn:Func}{R:Ending→World→Prop}{a:Act}{w:World}(k:Leaves P fn a.tmps R a.defers u w):bodyPostD P fn R x a w:=by
 cases h <;> exact k
section
variable{P:Program}{fn:Func}{n:Nat}{w0:World}{F K0 K:Hl}{fr:Fr}{L L1 L2 M:List Asn}{R:Ending→Hl→List Asn→Prop}{x:Exit}{u u':FrameMode}{f:FuncId}{caps:Array Value}{t1 t2 t3:Nat}{T1 T2 T3 b1 b2 b3:Nat}{RD:Ending→Hl→List Asn→Prop}
theorem aQX(hw:Way x u)(hr:fn.results= #[.cell t1 T1,.cell t2 T2])(s1:d7 P T1=true)(s2:d7 P T2=true)(g1:fr.get t1=some (ptr b1))(g2:fr.get t2=some (ptr b2))(hL:Tks L1 L L2)
  (hs:SpD P f caps.toList K L1 u fun e u'' K' L'=>u''=u'∧RD e K' L') (hset:settle u'=.returning)
  (hret:∀e K' L',RD e K' L'→(∃v,e=.returned v)∧(K.le K'→∃v1 v2 M,(∀h,Sat (L'++L2) h→Sat (pt b1 (aU [v1] T1)::pt b2 (aU [v2] T2)::M) h)∧R (.returned (.tuple #[v1,v2])) K' M∧K0.le K')):
  D ⟨P,n,[dfr f caps],w0,F⟩ x fr K L (u5 P fn w0 F K0 R):=fun a w fo i=>by
 refine hw.post (aAV fo i hw.ne hL hs ?_ ?_ ?_)
 ·rintro v u'' K' L' ⟨rfl,hrd⟩ le;refine⟨hset,fun w' j=>?_⟩
  obtain⟨_,h⟩:=hret _ _ _ hrd;obtain⟨v1,v2,M,hsat,hR,le0⟩:=h le;have j2:=j.imp hsat;have c1:=j2.piece;have c2:=(j2.imp (fun h=>gA)).piece;have j3:In w0 F K' M w':=(j2.drop).drop;exact⟨_,aBK hr a.tmps w' (a1:=⟨b1,0,none⟩) (a2:=⟨b2,0,none⟩) (by simp[fo.get _ _ g1]) (by simp[fo.get _ _ g2]) (mK s1 c1 rfl) (mK s2 c2 rfl),K',M,hR,le0,j3⟩
 ·rintro ch u'' K' L' ⟨_,hrd⟩;obtain⟨⟨v,he⟩,_⟩:=hret _ _ _ hrd;cases he
 ·rintro u'' K' L' ⟨_,hrd⟩;obtain⟨⟨v,he⟩,_⟩:=hret _ _ _ hrd;cases he
theorem aQY(hw:Way x u)(hr:fn.results= #[.cell t1 T1,.tmp t2,.cell t3 T3])(s1:d7 P T1=true)(s3:d7 P T3=true){v2:Value}(g1:fr.get t1=some (ptr b1))(g2:fr.get t2=some v2)(g3:fr.get t3=some (ptr b3))(hL:Tks L1 L L2)
  (hs:SpD P f caps.toList K L1 u fun e u'' K' L'=>u''=u'∧RD e K' L') (hset:settle u'=.returning)
  (hret:∀e K' L',RD e K' L'→(∃v,e=.returned v)∧(K.le K'→∃v1 v3 M,(∀h,Sat (L'++L2) h→Sat (pt b1 (aU [v1] T1)::pt b3 (aU [v3] T3)::M) h)∧R (.returned (.tuple #[v1,v2,v3])) K' M∧K0.le K')):
  D ⟨P,n,[dfr f caps],w0,F⟩ x fr K L (u5 P fn w0 F K0 R):=fun a w fo i=>by
 refine hw.post (aAV fo i hw.ne hL hs ?_ ?_ ?_)
 ·rintro v u'' K' L' ⟨rfl,hrd⟩ le;refine⟨hset,fun w' j=>?_⟩
  obtain⟨_,h⟩:=hret _ _ _ hrd;obtain⟨v1,v3,M,hsat,hR,le0⟩:=h le;have j2:=j.imp hsat;have c1:=j2.piece;have c2:=(j2.imp (fun h=>gA)).piece;have j3:In w0 F K' M w':=(j2.drop).drop;exact⟨_,aIA hr a.tmps w' (a1:=⟨b1,0,none⟩) (a3:=⟨b3,0,none⟩) (by simp[fo.get _ _ g1]) (by simp[fo.get _ _ g2]) (by simp[fo.get _ _ g3]) (mK s1 c1 rfl) (mK s3 c2 rfl),K',M,hR,le0,j3⟩
 ·rintro ch u'' K' L' ⟨_,hrd⟩;obtain⟨⟨v,he⟩,_⟩:=hret _ _ _ hrd;cases he
 ·rintro u'' K' L' ⟨_,hrd⟩;obtain⟨⟨v,he⟩,_⟩:=hret _ _ _ hrd;cases he
theorem aU8(hr:fn.results= #[.cell t1 T1,.cell t2 T2])(s1:d7 P T1=true)(s2:d7 P T2=true)(g1:fr.get t1=some (ptr b1))(g2:fr.get t2=some (ptr b2)){v1 v2:Value}(hL:Tks [pt b1 (aU [v1] T1),pt b2 (aU [v2] T2)] L M)(le:K0.le K)(h:R (.returned (.tuple #[v1,v2])) K M):
  D ⟨P,n,[],w0,F⟩ .ret fr K L (u5 P fn w0 F K0 R):=fun a w fo i=>by
 show Leaves P fn a.tmps _ a.defers .returning w
 rw[fo.defers];have j2:=i.imp hL.sat;have c1:=j2.piece;have c2:=(j2.imp (fun h=>gA)).piece;have j3:In w0 F K M w:=(j2.drop).drop;exact⟨_,aBK hr a.tmps w (a1:=⟨b1,0,none⟩) (a2:=⟨b2,0,none⟩) (by simp[fo.get _ _ g1]) (by simp[fo.get _ _ g2]) (mK s1 c1 rfl) (mK s2 c2 rfl),K,M,h,le,j3⟩
end
end Go.SL
end
section
namespace Go.SL
section
variable{E:Env}{fr:Fr}{K:Hl}{L:List Asn}{Q:Post}{dst:Option Tmp}{ty:TypeId}{pos:String}{aft:Array Edge}{g:Option (Nat×Bool)}{x y:Operand}{t t' u:TypeId}{v:Value}{ms:Array (String×TypeId)}
theorem rX{P:Program}(w:World)(hu:P.underlying t=some (.interface ms)):(Op.equal t (.iface u v) .nilIface).run P w=.ok false w:=by
 have h:∀d:Nat,(Op.equalIn (d+1) t (.iface u v) .nilIface).run P w=.ok false w:=fun d=>by simp[Op.equalIn,run_underlying hu]
 exact h 9999
theorem tV{P:Program}(w:World)(hu:P.underlying t=some (.interface ms)):(Op.equal t .nilIface .nilIface).run P w=.ok true w:=by
 have h:∀d:Nat,(Op.equalIn (d+1) t .nilIface .nilIface).run P w=.ok true w:=fun d=>by simp[Op.equalIn,run_underlying hu]
 exact h 9999
theorem qW(hu:E.P.underlying t=some (.interface ms))(hx:fr.ev x=some (.iface u v))(hy:fr.ev y=some .nilIface):Ev E fr K L ⟨dst,.binOp .neq t x y t',ty,pos,aft,g⟩ (.bool true):=
 fM hx hy (fun w=>by first|rfl|(unfold eqGuard;simp[run_underlying hu])) fun w=>by
  simp only[binOp];rw[aP (rX w hu)];rfl
theorem uH(hu:E.P.underlying t=some (.interface ms))(hx:fr.ev x=some .nilIface):Ev E fr K L ⟨dst,.binOp .neq t x (.const .nilIface) t',ty,pos,aft,g⟩ (.bool false):=
 fM hx (v:=.nilIface) rfl (fun w=>by unfold eqGuard;simp) fun w=>by
  simp only[binOp];rw[aP (tV w hu)];rfl
theorem e7(hu:E.P.underlying t=some (.interface ms))(hx:fr.ev x=some (.iface u v))(hy:fr.ev y=some .nilIface):Ev E fr K L ⟨dst,.binOp .eql t x y t',ty,pos,aft,g⟩ (.bool false):=
 fM hx hy (fun w=>by first|rfl|(unfold eqGuard;simp[run_underlying hu])) fun w=>by
  simp only[binOp];rw[aP (rX w hu)];rfl
theorem uG(hu:E.P.underlying t=some (.interface ms))(hx:fr.ev x=some .nilIface):Ev E fr K L ⟨dst,.binOp .eql t x (.const .nilIface) t',ty,pos,aft,g⟩ (.bool true):=
 fM hx (v:=.nilIface) rfl (fun w=>by unfold eqGuard;simp) fun w=>by
  simp only[binOp];rw[aP (tV w hu)];rfl
end
end Go.SL
end
section
namespace Go.SL
theorem xU{v:Value}:∀ {l:List Value} {o:Nat},o < l.length→SetAt l o v (l.set o v):=by
 intro l;induction l with
 |nil=>intro o h;simp at h
 |cons a l ih=>
  intro o h;cases o with
  |zero=>exact .zero
  |succ o=>exact .succ (ih (by simpa using h))
section
variable{α:Type}{k:El α}{z:Bool}{v:Value}{xs:List α}
theorem aTM{L:List Asn}{h:Hl}(hx:xs≠[])(hs:Sat (sl z k v xs::L) h):∃b cap junk fz,v=.slice (some ⟨b,0,none⟩) xs.length cap∧xs.length≤cap∧junk.length=(cap - xs.length)*k.sz∧FzOk (cap*k.sz) fz∧Sat (pt b (aU (k.cs xs++junk) k.e fz)::L) h:=by
 obtain⟨a,l,ha,hl,hd,he⟩:=hs;rcases ha with ⟨_,e,_⟩|⟨b,cap,junk,fz,h1,h2,h3,h4,h5,h6⟩
 ·exact absurd e hx
 ·exact⟨b,cap,junk,fz,h1,h3,h4,h5,a,l,h6,hl,hd,he⟩
theorem aTN{L:List Asn}{h:Hl}{b cap:Nat}{junk cells:List Value}{fz:Nat×Nat}(hz:z=true→xs≠[])(hc:xs.length≤cap)(hj:junk.length=(cap - xs.length)*k.sz)(hf:FzOk (cap*k.sz) fz)(he:cells=k.cs xs++junk)
  (hs:Sat (pt b (aU cells k.e fz)::L) h):Sat (sl z k (.slice (some ⟨b,0,none⟩) xs.length cap) xs::L) h:=by
 subst he;obtain⟨a,l,ha,hl,hd,hh⟩:=hs;exact⟨a,l,.inr ⟨b,cap,junk,fz,rfl,hz,hc,hj,hf,ha⟩,hl,hd,hh⟩
theorem aZJ{E:Env}{c:Code}{fr:Fr}{K:Hl}{L:List Asn}{Q:Post}(hx:xs≠[])(h:∀b cap junk fz,v=.slice (some ⟨b,0,none⟩) xs.length cap→xs.length≤cap→junk.length=(cap - xs.length)*k.sz→FzOk (cap*k.sz) fz→T E c fr K (pt b (aU (k.cs xs++junk) k.e fz)::L) Q):
  T E c fr K (sl z k v xs::L) Q:=fun a w f i=>by
 obtain⟨x,hs,r⟩:=i.rep;obtain⟨b,cap,junk,fz,h1,h2,h3,h4,h5⟩:=aTM hx hs;exact h b cap junk fz h1 h2 h3 h4 a w f ⟨i.os,i.tape,i.output,i.size,x,h5,r⟩
theorem cs_set(k:El α){i j:Nat}{u:Value}{x x':α}{junk:List Value}(hj:j < k.sz)(he:(k.enc x).set j u=k.enc x'):∀ {xs:List α},xs[i]?=some x→(k.cs xs++junk).set (i*k.sz+j) u=k.cs (xs.set i x')++junk:=by
 induction i with
 |zero=>
  intro xs hx;cases xs with
  |nil=>simp at hx
  |cons y xs=>
   simp at hx;subst hx
   simp only[El.cs,List.flatMap_cons,List.set_cons_zero,Nat.zero_mul,Nat.zero_add,List.append_assoc];rw[List.set_append_left _ _ (by rw[k.len];exact hj),he]
 |succ i ih=>
  intro xs hx;cases xs with
  |nil=>simp at hx
  |cons y xs=>
   have:=ih gCO;simp only[El.cs,List.flatMap_cons,List.set_cons_succ,List.append_assoc]at this ⊢;rw[List.set_append_right _ _ (by rw[k.len,Nat.succ_mul];omega),k.len,show (i+1)*k.sz+j - k.sz=i*k.sz+j from by rw[Nat.succ_mul];omega,this]
end
theorem aPM(b off n c m:Nat):lH (.slice (some ⟨b,off,none⟩) n c) m=ptr b (off+m):=by
 simp[lH,Addr.add]
theorem aAF{α:Type}{k:El α}{xs:List α}{E:Env}{fr:Fr}{K:Hl}{L:List Asn}{dst:Option Tmp}{ty:TypeId}{pos:String}{aft:Array Edge}{g:Option (Nat×Bool)}{x y:Operand}{t:TypeId}{b off n c j m:Nat}{jv:Int}{kk:IntKind}(hm:off+j*k.sz=m)(ht:iM E.P t k.e k.sz=true)(hx:fr.ev x=some (.slice (some ⟨b,off,none⟩) n c))(hs:SeesSl k K L (.slice (some ⟨b,off,none⟩) n c) xs)(hy:fr.ev y=some (.int kk jv))(hjv:jv=(j:Int))(hj:j < xs.length):
  Ev E fr K L ⟨dst,.indexAddr t x y,ty,pos,aft,g⟩ (ptr b m):=by
 have:=bQ (dst:=dst) (ty:=ty) (pos:=pos) (aft:=aft) (g:=g) ht hx hs hy hjv hj;rw[aPM,hm]at this;exact this
end Go.SL
end
section
namespace Go.SL
open Go.MapKept
def mset(k:List UInt8)(v:Value)(c:Nat):List Ent→List Ent
 | []=>[(k,v,c)]
 |e::es=>if k=e.1 then (e.1,v,e.2.2)::es else e::mset k v c es
def tY(es:List Ent)(k:List UInt8)(c:Nat):Nat:=if (mget es k).isSome=true then c else c+1
theorem aOH{k:List UInt8}:∀ {es:List Ent} {i:Nat},mD k es i=none→mget es k=none:=by
 intro es i h;have:=tF k es i;rw[h]at this;exact this.symm
theorem aOK{k:List UInt8}{v:Value}{c:Nat}:∀ {es:List Ent} {i:Nat},mD k es i=none→mset k v c es=es++[(k,v,c)]:=by
 intro es;induction es with
 |nil=>intro i _;rfl
 |cons e es ih=>
  intro i h;unfold mD at h;split at h
  ·cases h
  ·rename_i hne;unfold mset;rw[if_neg hne,ih h];rfl
theorem aSB{k:List UInt8}{v:Value}{c:Nat}:∀ {es:List Ent} {i j:Nat} {u:Value},mD k es i=some (j,u)→i≤j∧(∃e,es[j - i]?=some e∧k=e.1)∧
  (es.map ent).modify (j - i) (fun e=>{e with key:=str k,val:=v})=(mset k v c es).map ent:=by
 intro es;induction es with
 |nil=>intro i j u h;cases h
 |cons e es ih=>
  intro i j u h;unfold mD at h;split at h
  ·rename_i he;cases h
   refine⟨Nat.le_refl _,⟨e,by simp,he⟩,?_⟩
   unfold mset;rw[if_pos he,Nat.sub_self]
   simp[List.modify,List.modifyTailIdx,ent,he]
   rfl
  ·rename_i hne;obtain⟨h1,⟨e',h2,h3⟩,h4⟩:=ih h;have hj:j - i=(j - (i+1))+1:=by omega
   refine⟨by omega,⟨e',by rw[hj];simpa using h2,h3⟩,?_⟩
   rw[hj];unfold mset;rw[if_neg hne]
   simp only[List.map_cons,List.modify_succ_cons];rw[h4]
section
variable{E:Env}{fr:Fr}{K:Hl}{L L':List Asn}{Q:Post}{dst:Option Tmp}{ty:TypeId}{pos:String}{aft:Array Edge}{g:Option (Nat×Bool)}{x y m:Operand}{t t' kt et b c:Nat}{v z:Value}{k:List UInt8}{es:List Ent}
theorem aJ4(hm:E.P.underlying t=some (.map kt et))(hk:E.P.underlying kt=some .string)(hz:eQ E.P et=some z)(hx:fr.ev x=some (.map (some b)))(hy:fr.ev y=some (str k))(hs:Sees K L b (mapO es c)):
  Ev E fr K L ⟨dst,.lookup t x y false,ty,pos,aft,g⟩ ((mget es k).getD z):=fun a w f j=>by
 simp only[execOp,f.ev hx,f.ev hy];refine dS ?_;have hb:=hs.at j;have h1:(Instr.checkKey (es.map ent).toArray.isEmpty 10000 kt (str k)).run E.P w=.ok () w:=run_checkKey hk (d:=.string) (k:=str k) trivial _ 9999;have h2:=run_findKey (w:=w) (kt:=kt) hk (o7 k es 0);have h3:(zeroValue et).run E.P w=.ok z w:=by
  unfold eQ at hz;cases hi:E.P.info? et with
  |none=>simp[hi]at hz
  |some inf=>simp[hi]at hz;simp only[zeroValue,typeInfo,program,bind,Sem.bind,pure,Sem.run,hi,hz]
 have h4:=tF k es 0;unfold Instr.lookup;rw[aP (run_underlying hm w)];simp only[]
 show ((getObj b)>>=fun _=>_).run E.P w=_
 rw[aP (MapKept.run_getObj_map hb)];simp only[];rw[aP (sJ _ _),aP h1]
 show ((Instr.findKey kt (str k) (es.map ent))>>=fun _=>_).run E.P w=_
 rw[aP h2,←h4];cases mD k es 0 with
 |some p=>rfl
 |none=>
  show ((zeroValue et)>>=fun _=>_).run E.P w=_
  rw[aP h3];rfl
theorem aV6{P:Program}{w:World}(hm:P.underlying t=some (.map kt et))(hk:P.underlying kt=some .string)(hb:w.heap[b]?=some (mapO es c)):
  (Instr.mapUpdate t (.map (some b)) (str k) v).run P w=.ok () {w with heap:=w.heap.setIfInBounds b (mapO (mset k v c es) (tY es k c))}:=by
 cases hf:mD k es 0 with
 |none=>
  rw[sI hm hk hb (aKL hf),aOK hf];unfold tY;rw[aOH hf];rfl
 |some p=>
  obtain⟨i,u⟩:=p;obtain⟨_,⟨e,he1,he2⟩,he3⟩:=aSB (v:=v) (c:=c) hf;rw[Nat.sub_zero]at he1 he3;have h1:(Instr.checkKey false 10000 kt (str k)).run P w=.ok () w:=run_checkKey hk (d:=.string) (k:=str k) trivial _ 9999;have h2:=run_findKey (w:=w) (kt:=kt) hk (o7 k es 0);have hj:((es.map ent).toArray[i]?)=some (ent e):=by simp[he1]
  have hkk:(ent e).key=str k:=by unfold ent;rw[he2]
  have hst:(Instr.keyThatStays (str k) (str k)).run P w=.ok (str k) w:=MapKept.run_keyThatStays (d:=.string) (k:=str k) trivial;unfold Instr.mapUpdate;rw[aP (run_underlying hm w)];simp only[]
  show ((getObj b)>>=fun _=>_).run P w=_
  rw[aP (MapKept.run_getObj_map hb)];simp only[];rw[aP h1]
  show ((Instr.findKey kt (str k) (es.map ent))>>=fun _=>_).run P w=_
  rw[aP h2,hf]
  show ((Instr.keyThatStays ((((es.map ent).toArray[i]?).map (·.key)).getD (str k)) (str k))>>=fun _=>_).run P w=_
  rw[hj]
  show ((Instr.keyThatStays (ent e).key (str k))>>=fun _=>_).run P w=_
  rw[hkk,aP hst]
  show (setObj b _).run P w=_
  rw[MapKept.run_setObj_map _ hb];have e1:((es.map ent).toArray.modify i fun e=>{e with key:=str k,val:=v})=((mset k v c es).map ent).toArray:=by
   rw[←he3];simp[List.modify_toArray]
  have e2:tY es k c=c:=by unfold tY;rw[←tF k es 0,hf];rfl
  rw[e1,e2]
theorem bAX(hm:E.P.underlying t=some (.map kt et))(hk:E.P.underlying kt=some .string)(hx:fr.ev m=some (.map (some b)))(hy:fr.ev x=some (str k))(hv:fr.ev y=some v)
  (hF:Fnd (pt b (mapO es c)) (pt b (mapO (mset k v c es) (tY es k c))) L L'):EfS E fr K L ⟨dst,.mapUpdate t m x y,ty,pos,aft,g⟩ (fun _ K' L''=>K'=K∧L''=L'):=by
 intro a w f j;have hb:=j.mem hF;have hr:(execOp a.eval ⟨dst,.mapUpdate t m x y,ty,pos,aft,g⟩).run E.P w=.ok .skip {w with heap:=w.heap.setIfInBounds b (mapO (mset k v c es) (tY es k c))}:=by
  simp only[execOp,f.ev hx,f.ev hy,f.ev hv];rw[aP (aV6 hm hk hb)];rfl
 have hs:=MapKept.heap_set (o':=mapO (mset k v c es) (tY es k c)) hb;exact⟨_,_,_,_,.inr ⟨hr,rfl⟩,⟨rfl,rfl⟩,Hl.le_refl _,j.writeAt hF (by simp) hs.1 hs.2⟩
end
end Go.SL
end
section
namespace Go.Proofs
open Go Go.SL
set_option maxRecDepth 100000
theorem mixed:Tryz.prog.follows .mixedOrders=true:=by kernel_rfl
theorem jV:aggB Tryz.prog 188 3=true:=by kernel_rfl
theorem nU:aggB Tryz.prog 202 4=true:=by kernel_rfl
theorem aK3:aggB Tryz.prog 25 2=true:=by kernel_rfl
theorem aWO:aggB Tryz.prog 282 3=true:=by kernel_rfl
theorem aWP:aggB Tryz.prog 285 1=true:=by kernel_rfl
theorem j7:aggB Tryz.prog 28 4=true:=by kernel_rfl
theorem aWQ:aggB Tryz.prog 293 1=true:=by kernel_rfl
theorem aWR:aggB Tryz.prog 297 1=true:=by kernel_rfl
theorem aWS:aggB Tryz.prog 300 2=true:=by kernel_rfl
theorem aF0:aggB Tryz.prog 308 3=true:=by kernel_rfl
theorem pG:aggB Tryz.prog 311 1=true:=by kernel_rfl
theorem kN:aggB Tryz.prog 34 2=true:=by kernel_rfl
theorem tL:aggB Tryz.prog 371 2=true:=by kernel_rfl
theorem aF1:aggB Tryz.prog 376 2=true:=by kernel_rfl
theorem aF2:aggB Tryz.prog 380 5=true:=by kernel_rfl
theorem kO:aggB Tryz.prog 41 7=true:=by kernel_rfl
theorem aF3:aggB Tryz.prog 428 2=true:=by kernel_rfl
theorem aXQ:eJ Tryz.prog 123=some ([.int .i64 0,.int .i64 0],[(0,1),(1,1)]):=by kernel_rfl
theorem aT2:eI Tryz.prog 123=true:=by kernel_rfl
theorem bA0:eJ Tryz.prog 174=some ([(str []),(str []),.int .i64 0,.slice none 0 0,.slice none 0 0,.bool false],[(0,4),(4,1),(5,1)]):=by kernel_rfl
theorem aZL:eI Tryz.prog 174=true:=by kernel_rfl
theorem bA1:eJ Tryz.prog 178=some ([(str []),(str []),.int .i64 0,.slice none 0 0,.slice none 0 0,.bool false,.bool false,.map none,.slice none 0 0,.slice none 0 0,.int .i64 0],[(0,6),(6,1),(7,1),(8,1),(9,1),(10,1)]):=by kernel_rfl
theorem aZM:eI Tryz.prog 178=true:=by kernel_rfl
theorem aMF:eJ Tryz.prog 202=some ([.int .u8 0,(str []),.int .i64 0,.int .i64 0],[(0,1),(1,1),(2,1),(3,1)]):=by kernel_rfl
theorem aF5:eI Tryz.prog 202=true:=by kernel_rfl
theorem bA2:eJ Tryz.prog 204=some ([(str []),.int .i64 0,.int .u8 0,(str []),.int .i64 0,.int .i64 0],[(0,1),(1,1),(2,4)]):=by kernel_rfl
theorem aZN:eI Tryz.prog 204=true:=by kernel_rfl
theorem bA3:eJ Tryz.prog 208=some ([(str []),.int .i64 0,.int .u8 0,(str []),.int .i64 0,.int .i64 0,.slice none 0 0,.slice none 0 0,.map none,.map none],[(0,6),(6,2),(8,1),(9,1)]):=by kernel_rfl
theorem aZO:eI Tryz.prog 208=true:=by kernel_rfl
theorem bA4:eJ Tryz.prog 217=some ([.slice none 0 0],[(0,1)]):=by kernel_rfl
theorem aZP:eI Tryz.prog 217=true:=by kernel_rfl
theorem tb25:eJ Tryz.prog 25=some ([(str []),(str [])],[(0,1),(1,1)]):=by kernel_rfl
theorem aXR:eI Tryz.prog 25=true:=by kernel_rfl
theorem tb28:eJ Tryz.prog 28=some ([(str []),(str []),.int .i64 0,.slice none 0 0],[(0,1),(1,1),(2,1),(3,1)]):=by kernel_rfl
theorem bA5:eI Tryz.prog 28=true:=by kernel_rfl
theorem aXS:eJ Tryz.prog 282=some ([.int .i64 0,(str []),.int .i64 0],[(0,1),(1,1),(2,1)]):=by kernel_rfl
theorem aT3:eI Tryz.prog 282=true:=by kernel_rfl
theorem aXT:eJ Tryz.prog 285=some ([.int .i64 0],[(0,1)]):=by kernel_rfl
theorem aT4:eI Tryz.prog 285=true:=by kernel_rfl
theorem bA6:eJ Tryz.prog 293=some ([.nilIface],[(0,1)]):=by kernel_rfl
theorem aZQ:eI Tryz.prog 293=true:=by kernel_rfl
theorem bA7:eJ Tryz.prog 297=some ([.slice none 0 0],[(0,1)]):=by kernel_rfl
theorem aZR:eI Tryz.prog 297=true:=by kernel_rfl
theorem aXU:eJ Tryz.prog 300=some ([.int .i64 0,.int .i64 0],[(0,1),(1,1)]):=by kernel_rfl
theorem aT5:eI Tryz.prog 300=true:=by kernel_rfl
theorem bA8:eJ Tryz.prog 308=some ([(str []),(str []),.int .i64 0],[(0,1),(1,1),(2,1)]):=by kernel_rfl
theorem aZS:eI Tryz.prog 308=true:=by kernel_rfl
theorem tb34:eJ Tryz.prog 34=some ([.int .i64 0,(str [])],[(0,1),(1,1)]):=by kernel_rfl
theorem aDS:eI Tryz.prog 34=true:=by kernel_rfl
theorem bA9:eJ Tryz.prog 369=some ([(str [])],[(0,1)]):=by kernel_rfl
theorem aZT:eI Tryz.prog 369=true:=by kernel_rfl
theorem bBA:eJ Tryz.prog 371=some ([.nilIface,.slice none 0 0],[(0,1),(1,1)]):=by kernel_rfl
theorem aZU:eI Tryz.prog 371=true:=by kernel_rfl
theorem bBB:eJ Tryz.prog 376=some ([.bool false,.slice none 0 0],[(0,1),(1,1)]):=by kernel_rfl
theorem aZV:eI Tryz.prog 376=true:=by kernel_rfl
theorem bBC:eJ Tryz.prog 380=some ([.int .i64 0,.bool false,.int .i64 0,.slice none 0 0,.slice none 0 0],[(0,2),(2,1),(3,1),(4,1)]):=by kernel_rfl
theorem aZW:eI Tryz.prog 380=true:=by kernel_rfl
theorem tb41:eJ Tryz.prog 41=some ([.int .i64 0,.int .i64 0,.int .i64 0,.bool false,.slice none 0 0,.slice none 0 0,.int .i64 0],[(0,1),(1,1),(2,1),(3,1),(4,1),(5,1),(6,1)]):=by kernel_rfl
theorem pI:eI Tryz.prog 41=true:=by kernel_rfl
theorem tb89:eJ Tryz.prog 89=some ([.pointer none,.slice none 0 0],[(0,1),(1,1)]):=by kernel_rfl
theorem bBD:eI Tryz.prog 89=true:=by kernel_rfl
theorem nG:elOk Tryz.prog 130 5 1 1=true:=by kernel_rfl
theorem aBT:elOk Tryz.prog 135 224 1 16=true:=by kernel_rfl
theorem aIZ:elOk Tryz.prog 176 4 1 1=true:=by kernel_rfl
theorem aF6:elOk Tryz.prog 26 25 2 32=true:=by kernel_rfl
theorem nV:elOk Tryz.prog 29 34 2 24=true:=by kernel_rfl
theorem aBU:elOk Tryz.prog 309 371 2 40=true:=by kernel_rfl
theorem aBV:elOk Tryz.prog 374 288 1 16=true:=by kernel_rfl
theorem fA:elOk Tryz.prog 39 9 1 16=true:=by kernel_rfl
theorem aF7:elOk Tryz.prog 42 41 7 88=true:=by kernel_rfl
theorem rF:elOk Tryz.prog 55 3 1 8=true:=by kernel_rfl
theorem xX:cO Tryz.prog 123 0 0=true:=by kernel_rfl
theorem aP0:cO Tryz.prog 123 1 1=true:=by kernel_rfl
theorem lP:cO Tryz.prog 132 0 0=true:=by kernel_rfl
theorem eU:cO Tryz.prog 132 1 1=true:=by kernel_rfl
theorem n6:cO Tryz.prog 137 0 0=true:=by kernel_rfl
theorem tN:cO Tryz.prog 137 1 1=true:=by kernel_rfl
theorem kG:cO Tryz.prog 174 0 0=true:=by kernel_rfl
theorem eV:cO Tryz.prog 174 1 4=true:=by kernel_rfl
theorem qE:cO Tryz.prog 174 2 5=true:=by kernel_rfl
theorem dF:cO Tryz.prog 178 0 0=true:=by kernel_rfl
theorem aDV:cO Tryz.prog 178 1 6=true:=by kernel_rfl
theorem tO:cO Tryz.prog 178 2 7=true:=by kernel_rfl
theorem xY:cO Tryz.prog 178 3 8=true:=by kernel_rfl
theorem jO:cO Tryz.prog 178 4 9=true:=by kernel_rfl
theorem j8:cO Tryz.prog 178 5 10=true:=by kernel_rfl
theorem eW:cO Tryz.prog 202 0 0=true:=by kernel_rfl
theorem fY:cO Tryz.prog 202 1 1=true:=by kernel_rfl
theorem aP1:cO Tryz.prog 202 2 2=true:=by kernel_rfl
theorem gE:cO Tryz.prog 202 3 3=true:=by kernel_rfl
theorem fZ:cO Tryz.prog 204 0 0=true:=by kernel_rfl
theorem cC:cO Tryz.prog 204 1 1=true:=by kernel_rfl
theorem cL:cO Tryz.prog 204 2 2=true:=by kernel_rfl
theorem cD:cO Tryz.prog 208 0 0=true:=by kernel_rfl
theorem lQ:cO Tryz.prog 208 1 6=true:=by kernel_rfl
theorem aDW:cO Tryz.prog 208 2 8=true:=by kernel_rfl
theorem aDX:cO Tryz.prog 208 3 9=true:=by kernel_rfl
theorem n7:cO Tryz.prog 217 0 0=true:=by kernel_rfl
theorem aI1:cO Tryz.prog 25 0 0=true:=by kernel_rfl
theorem aI2:cO Tryz.prog 25 1 1=true:=by kernel_rfl
theorem xZ:cO Tryz.prog 282 0 0=true:=by kernel_rfl
theorem aDY:cO Tryz.prog 282 1 1=true:=by kernel_rfl
theorem aP2:cO Tryz.prog 282 2 2=true:=by kernel_rfl
theorem aDZ:cO Tryz.prog 285 0 0=true:=by kernel_rfl
theorem aI3:cO Tryz.prog 28 0 0=true:=by kernel_rfl
theorem aI4:cO Tryz.prog 28 1 1=true:=by kernel_rfl
theorem qF:cO Tryz.prog 28 2 2=true:=by kernel_rfl
theorem l9:cO Tryz.prog 28 3 3=true:=by kernel_rfl
theorem aD0:cO Tryz.prog 293 0 0=true:=by kernel_rfl
theorem aD1:cO Tryz.prog 297 0 0=true:=by kernel_rfl
theorem aD2:cO Tryz.prog 300 0 0=true:=by kernel_rfl
theorem aD3:cO Tryz.prog 300 1 1=true:=by kernel_rfl
theorem yA:cO Tryz.prog 308 0 0=true:=by kernel_rfl
theorem yB:cO Tryz.prog 308 1 1=true:=by kernel_rfl
theorem tP:cO Tryz.prog 308 2 2=true:=by kernel_rfl
theorem qG:cO Tryz.prog 311 0 0=true:=by kernel_rfl
theorem fS:cO Tryz.prog 34 0 0=true:=by kernel_rfl
theorem dM:cO Tryz.prog 34 1 1=true:=by kernel_rfl
theorem mU:cO Tryz.prog 371 0 0=true:=by kernel_rfl
theorem yC:cO Tryz.prog 371 1 1=true:=by kernel_rfl
theorem aD4:cO Tryz.prog 376 0 0=true:=by kernel_rfl
theorem qH:cO Tryz.prog 376 1 1=true:=by kernel_rfl
theorem jP:cO Tryz.prog 378 0 0=true:=by kernel_rfl
theorem n8:cO Tryz.prog 378 1 1=true:=by kernel_rfl
theorem fI:cO Tryz.prog 380 0 0=true:=by kernel_rfl
theorem aD5:cO Tryz.prog 380 1 2=true:=by kernel_rfl
theorem yD:cO Tryz.prog 380 2 3=true:=by kernel_rfl
theorem yE:cO Tryz.prog 380 3 4=true:=by kernel_rfl
theorem j9:cO Tryz.prog 41 0 0=true:=by kernel_rfl
theorem iI:cO Tryz.prog 41 1 1=true:=by kernel_rfl
theorem eY:cO Tryz.prog 41 2 2=true:=by kernel_rfl
theorem aT9:cO Tryz.prog 41 3 3=true:=by kernel_rfl
theorem kY:cO Tryz.prog 41 4 4=true:=by kernel_rfl
theorem aBW:cO Tryz.prog 41 5 5=true:=by kernel_rfl
theorem jI:cO Tryz.prog 41 6 6=true:=by kernel_rfl
theorem aI5:cO Tryz.prog 89 0 0=true:=by kernel_rfl
theorem aUA:cO Tryz.prog 89 1 1=true:=by kernel_rfl
theorem jQ:iM Tryz.prog 130 5 1=true:=by kernel_rfl
theorem sV:iM Tryz.prog 135 224 1=true:=by kernel_rfl
theorem yF:iM Tryz.prog 176 4 1=true:=by kernel_rfl
theorem yY:iM Tryz.prog 181 184 1=true:=by kernel_rfl
theorem qI:iM Tryz.prog 26 25 2=true:=by kernel_rfl
theorem iW:iM Tryz.prog 29 34 2=true:=by kernel_rfl
theorem pJ:iM Tryz.prog 309 371 2=true:=by kernel_rfl
theorem pK:iM Tryz.prog 374 288 1=true:=by kernel_rfl
theorem bS:iM Tryz.prog 39 9 1=true:=by kernel_rfl
theorem iX:iM Tryz.prog 42 41 7=true:=by kernel_rfl
theorem qJ:iM Tryz.prog 55 3 1=true:=by kernel_rfl
theorem aUD:d7 Tryz.prog 118=true:=by kernel_rfl
theorem y4:d7 Tryz.prog 129=true:=by kernel_rfl
theorem f5:d7 Tryz.prog 130=true:=by kernel_rfl
theorem aBX:d7 Tryz.prog 135=true:=by kernel_rfl
theorem aBY:d7 Tryz.prog 169=true:=by kernel_rfl
theorem bBE:d7 Tryz.prog 172=true:=by kernel_rfl
theorem aMH:d7 Tryz.prog 175=true:=by kernel_rfl
theorem uC:d7 Tryz.prog 176=true:=by kernel_rfl
theorem bBF:d7 Tryz.prog 184=true:=by kernel_rfl
theorem aUE:d7 Tryz.prog 191=true:=by kernel_rfl
theorem oW:d7 Tryz.prog 199=true:=by kernel_rfl
theorem mF:d7 Tryz.prog 200=true:=by kernel_rfl
theorem aXW:d7 Tryz.prog 205=true:=by kernel_rfl
theorem aXX:d7 Tryz.prog 206=true:=by kernel_rfl
theorem aXY:d7 Tryz.prog 224=true:=by kernel_rfl
theorem ts26:d7 Tryz.prog 26=true:=by kernel_rfl
theorem bBG:d7 Tryz.prog 283=true:=by kernel_rfl
theorem sW:d7 Tryz.prog 288=true:=by kernel_rfl
theorem ts29:d7 Tryz.prog 29=true:=by kernel_rfl
theorem ts3:d7 Tryz.prog 3=true:=by kernel_rfl
theorem ts30:d7 Tryz.prog 30=true:=by kernel_rfl
theorem aI9:d7 Tryz.prog 309=true:=by kernel_rfl
theorem aJA:d7 Tryz.prog 374=true:=by kernel_rfl
theorem ts39:d7 Tryz.prog 39=true:=by kernel_rfl
theorem ts4:d7 Tryz.prog 4=true:=by kernel_rfl
theorem ts42:d7 Tryz.prog 42=true:=by kernel_rfl
theorem aUF:d7 Tryz.prog 427=true:=by kernel_rfl
theorem ts5:d7 Tryz.prog 5=true:=by kernel_rfl
theorem ts79:d7 Tryz.prog 79=true:=by kernel_rfl
theorem ts87:d7 Tryz.prog 87=true:=by kernel_rfl
theorem ts9:d7 Tryz.prog 9=true:=by kernel_rfl
theorem bBH:eQ Tryz.prog 279=some (.nilFunc):=by kernel_rfl
theorem aXZ:eQ Tryz.prog 282=some (.agg #[.int .i64 0,(str []),.int .i64 0]):=by kernel_rfl
theorem aUG:eQ Tryz.prog 285=some (.agg #[.int .i64 0]):=by kernel_rfl
theorem aMI:eQ Tryz.prog 289=some (.bool false):=by kernel_rfl
theorem bBI:eQ Tryz.prog 290=some (.nilFunc):=by kernel_rfl
theorem aJB:eQ Tryz.prog 293=some (.agg #[.nilIface]):=by kernel_rfl
theorem bBJ:eQ Tryz.prog 297=some (.agg #[.slice none 0 0]):=by kernel_rfl
theorem tv3:eQ Tryz.prog 3=some (.int .i64 0):=by kernel_rfl
theorem bBK:eQ Tryz.prog 308=some (.agg #[(str []),(str []),.int .i64 0]):=by kernel_rfl
theorem aUH:eQ Tryz.prog 369=some (.agg #[(str [])]):=by kernel_rfl
theorem aUI:eQ Tryz.prog 376=some (.agg #[.bool false,.slice none 0 0]):=by kernel_rfl
theorem aX0:eQ Tryz.prog 380=some (.agg #[.int .i64 0,.bool false,.int .i64 0,.slice none 0 0,.slice none 0 0]):=by kernel_rfl
theorem bBL:eQ Tryz.prog 428=some (.agg #[.int .i64 0,.int .i64 0]):=by kernel_rfl
theorem aUJ:cJ Tryz.prog 118=some [.pointer none]:=by kernel_rfl
theorem aUK:cJ Tryz.prog 132=some [.pointer none,.slice none 0 0]:=by kernel_rfl
theorem bBM:cJ Tryz.prog 169=some [.nilFunc]:=by kernel_rfl
theorem bBN:cJ Tryz.prog 184=some [.nilFunc]:=by kernel_rfl
theorem aUL:cJ Tryz.prog 188=some [.pointer none,.pointer none,.int .u64 0]:=by kernel_rfl
theorem aX1:cJ Tryz.prog 202=some [.int .u8 0,(str []),.int .i64 0,.int .i64 0]:=by kernel_rfl
theorem bBO:cJ Tryz.prog 224=some [.nilIface]:=by kernel_rfl
theorem tz25:cJ Tryz.prog 25=some [(str []),(str [])]:=by kernel_rfl
theorem tz28:cJ Tryz.prog 28=some [(str []),(str []),.int .i64 0,.slice none 0 0]:=by kernel_rfl
theorem bBP:cJ Tryz.prog 282=some [.int .i64 0,(str []),.int .i64 0]:=by kernel_rfl
theorem bBQ:cJ Tryz.prog 285=some [.int .i64 0]:=by kernel_rfl
theorem aX2:cJ Tryz.prog 288=some [.nilIface]:=by kernel_rfl
theorem tz29:cJ Tryz.prog 29=some [.slice none 0 0]:=by kernel_rfl
theorem bBR:cJ Tryz.prog 293=some [.nilIface]:=by kernel_rfl
theorem bBS:cJ Tryz.prog 297=some [.slice none 0 0]:=by kernel_rfl
theorem tz3:cJ Tryz.prog 3=some [.int .i64 0]:=by kernel_rfl
theorem tz30:cJ Tryz.prog 30=some [.int .i64 0]:=by kernel_rfl
theorem bBT:cJ Tryz.prog 300=some [.int .i64 0,.int .i64 0]:=by kernel_rfl
theorem aX3:cJ Tryz.prog 308=some [(str []),(str []),.int .i64 0]:=by kernel_rfl
theorem aX4:cJ Tryz.prog 311=some [.slice none 0 0]:=by kernel_rfl
theorem tz34:cJ Tryz.prog 34=some [.int .i64 0,(str [])]:=by kernel_rfl
theorem aMK:cJ Tryz.prog 371=some [.nilIface,.slice none 0 0]:=by kernel_rfl
theorem aX5:cJ Tryz.prog 376=some [.bool false,.slice none 0 0]:=by kernel_rfl
theorem aX6:cJ Tryz.prog 380=some [.int .i64 0,.bool false,.int .i64 0,.slice none 0 0,.slice none 0 0]:=by kernel_rfl
theorem tz39:cJ Tryz.prog 39=some [.slice none 0 0]:=by kernel_rfl
theorem tz4:cJ Tryz.prog 4=some [.bool false]:=by kernel_rfl
theorem tz41:cJ Tryz.prog 41=some [.int .i64 0,.int .i64 0,.int .i64 0,.bool false,.slice none 0 0,.slice none 0 0,.int .i64 0]:=by kernel_rfl
theorem bBU:cJ Tryz.prog 427=some [.map none]:=by kernel_rfl
theorem bBV:cJ Tryz.prog 428=some [.int .i64 0,.int .i64 0]:=by kernel_rfl
theorem tz5:cJ Tryz.prog 5=some [.int .u8 0]:=by kernel_rfl
theorem tz79:cJ Tryz.prog 79=some [.nilIface]:=by kernel_rfl
theorem tz87:cJ Tryz.prog 87=some [.pointer none]:=by kernel_rfl
theorem tz9:cJ Tryz.prog 9=some [(str [])]:=by kernel_rfl
theorem tf390_1_0:cO Tryz.prog 390 1 0=true:=by kernel_rfl
theorem tf392_0_0:cO Tryz.prog 392 0 0=true:=by kernel_rfl
theorem tf394_1_0:cO Tryz.prog 394 1 0=true:=by kernel_rfl
theorem tf396_1_0:cO Tryz.prog 396 1 0=true:=by kernel_rfl
theorem tf396_2_1:cO Tryz.prog 396 2 1=true:=by kernel_rfl
theorem ts21:d7 Tryz.prog 21=true:=by kernel_rfl
theorem ta470_257:aggB Tryz.prog 470 257=true:=by kernel_rfl
theorem tf400_2_4:cO Tryz.prog 400 2 4=true:=by kernel_rfl
theorem tf470_0_0:cO Tryz.prog 470 0 0=true:=by kernel_rfl
theorem tf470_1_256:cO Tryz.prog 470 1 256=true:=by kernel_rfl
theorem tv9:eQ Tryz.prog 9=some ((str [])):=by kernel_rfl
theorem tv5:eQ Tryz.prog 5=some (.int .u8 0):=by kernel_rfl
theorem tf134_0_0:cO Tryz.prog 134 0 0=true:=by kernel_rfl
theorem tb400:eJ Tryz.prog 400=some ([.int .u32 0,.int .i32 0,.int .u32 0,.nilIface,.slice none 0 0],[(0,3),(3,1),(4,1)]):=by kernel_rfl
theorem tb400f:eI Tryz.prog 400=true:=by kernel_rfl
theorem tf400_0_0:cO Tryz.prog 400 0 0=true:=by kernel_rfl
theorem tf400_1_3:cO Tryz.prog 400 1 3=true:=by kernel_rfl
theorem ts398:d7 Tryz.prog 398=true:=by kernel_rfl
theorem tv202:eQ Tryz.prog 202=some (.agg #[.int .u8 0,(str []),.int .i64 0,.int .i64 0]):=by kernel_rfl
theorem tf134_1_2:cO Tryz.prog 134 1 2=true:=by kernel_rfl
theorem tb134:eJ Tryz.prog 134=some ([.pointer none,.slice none 0 0,.int .i64 0],[(0,2),(2,1)]):=by kernel_rfl
theorem tb134f:eI Tryz.prog 134=true:=by kernel_rfl
end Go.Proofs

end
section
namespace Go.Proofs
open Go Go.SL
theorem aUn{p:Prop}(h:p:=by first|exact Tryz.underlying129|exact Tryz.underlying20|exact Tryz.underlying202|exact Tryz.underlying288|exact Tryz.underlying369|exact Tryz.underlying43|exact Tryz.underlying79|exact Tryz.underlying9):p:=h
theorem aTs{p:Prop}(h:p:=by first|exact aUD|exact y4|exact f5|exact aBX|exact aBY|exact bBE|exact aMH|exact uC|exact oW|exact mF|exact aXW|exact aXX|exact ts21|exact ts26|exact bBG|exact sW|exact ts29|exact ts3|exact ts30|exact aI9|exact aJA|exact ts39|exact ts398|exact ts4|exact ts42|exact aUF|exact ts9):p:=h
theorem aTa{p:Prop}(h:p:=by first|exact jV|exact nU|exact j7|exact aF0|exact pG|exact kN|exact aF1|exact aF2|exact kO|exact aF3):p:=h
theorem aTf{p:Prop}(h:p:=by first|exact xX|exact aP0|exact lP|exact eU|exact tf134_0_0|exact tf134_1_2|exact n6|exact tN|exact kG|exact eV|exact qE|exact dF|exact aDV|exact tO|exact xY|exact jO|exact j8|exact eW|exact fY|exact aP1|exact gE|exact fZ|exact cC|exact cL|exact cD|exact lQ|exact aDW|exact aDX|exact n7|exact xZ|exact aDY|exact aP2|exact aDZ|exact aI3|exact aI4|exact qF|exact l9|exact aD0|exact aD1|exact aD2|exact aD3|exact yA|exact yB|exact tP|exact qG|exact fS|exact dM|exact mU|exact yC|exact aD4|exact qH|exact jP|exact n8|exact fI|exact aD5|exact yD|exact yE|exact tf390_1_0|exact tf392_0_0|exact tf394_1_0|exact tf396_1_0|exact tf396_2_1|exact tf400_0_0|exact tf400_1_3|exact tf400_2_4|exact j9|exact iI|exact eY|exact aT9|exact kY|exact aBW|exact jI|exact tf470_0_0|exact tf470_1_256|exact aI5|exact aUA):p:=h
theorem aTz{p:Prop}(h:p:=by first|exact aUJ|exact aUK|exact bBM|exact aUL|exact aX1|exact tz25|exact tz28|exact bBP|exact bBQ|exact tz29|exact bBR|exact bBS|exact tz30|exact bBT|exact aX3|exact aX4|exact tz34|exact aMK|exact aX5|exact aX6|exact tz39|exact tz41|exact bBU|exact bBV|exact tz79|exact tz87|exact tz9):p:=h
theorem aZe{p:Prop}(h:p:=by first|exact .zero|exact .succ .zero|exact .succ (.succ .zero)|exact .succ (.succ (.succ .zero))|exact .succ (.succ (.succ (.succ .zero)))|exact .succ (.succ (.succ (.succ (.succ .zero))))|exact .succ (.succ (.succ (.succ (.succ (.succ .zero)))))|exact .succ (.succ (.succ (.succ (.succ (.succ (.succ .zero))))))|exact .succ (.succ (.succ (.succ (.succ (.succ (.succ (.succ .zero)))))))|exact .succ (.succ (.succ (.succ (.succ (.succ (.succ (.succ (.succ .zero))))))))|exact .succ (.succ (.succ (.succ (.succ (.succ (.succ (.succ (.succ (.succ .zero)))))))))|exact .succ (.succ (.succ (.succ (.succ (.succ (.succ (.succ (.succ (.succ (.succ .zero))))))))))|exact .succ (.succ (.succ (.succ (.succ (.succ (.succ (.succ (.succ (.succ (.succ (.succ .zero)))))))))))):p:=h
theorem aWh{p:Prop}(h:p:=by first|exact .none rfl|exact .on rfl rfl rfl):p:=h
theorem aEv{p:Prop}(h:p:=by first|(guard_target=~Go.SL.Ev _ _ _ _ ⟨_,.move _,_,_,_,_⟩ _;exact aC rfl)|(guard_target=~Go.SL.Ev _ _ _ _ ⟨_,.assign _,_,_,_,_⟩ _;exact aG rfl)|(guard_target=~Go.SL.Ev _ _ _ _ ⟨_,.nilCheck _,_,_,_,_⟩ _;exact bM)|(guard_target=~Go.SL.Ev _ _ _ _ ⟨_,.extract _ _,_,_,_,_⟩ _;exact aR rfl rfl)|(guard_target=~Go.SL.Ev _ _ _ _ ⟨_,.load _ _,_,_,_,_⟩ _;(first|exact aL aTs rfl aN rfl|exact cB aTa rfl aN rfl rfl))|(guard_target=~Go.SL.Ev _ _ _ _ ⟨_,.fieldAddr _ _ _,_,_,_,_⟩ _;exact aD aTf rfl rfl)|(guard_target=~Go.SL.Ev _ _ _ _ ⟨_,.pick _ _ _,_,_,_,_⟩ _;(first|exact bH rfl rfl|exact bN rfl rfl))|(guard_target=~Go.SL.Ev _ _ _ _ ⟨_,.binOp _ _ _ _ _,_,_,_,_⟩ _;(first|(guard_target=~Go.SL.Ev _ _ _ _ ⟨_,.binOp .eql _ _ _ _,_,_,_,_⟩ _;(first|exact bW rfl rfl|exact jX rfl rfl|exact e7 aUn rfl rfl|exact uG aUn rfl|exact iZ aUn rfl rfl))|(guard_target=~Go.SL.Ev _ _ _ _ ⟨_,.binOp .neq _ _ _ _,_,_,_,_⟩ _;(first|exact fN rfl rfl|exact uI rfl rfl|exact qW aUn rfl rfl|exact uH aUn rfl|exact aJ6 aUn rfl rfl))|(guard_target=~Go.SL.Ev _ _ _ _ ⟨_,.binOp .add _ _ _ _,_,_,_,_⟩ _;exact cA rfl rfl aH aH)|(guard_target=~Go.SL.Ev _ _ _ _ ⟨_,.binOp .sub _ _ _ _,_,_,_,_⟩ _;exact jR rfl rfl aH aH)|(guard_target=~Go.SL.Ev _ _ _ _ ⟨_,.binOp .mul _ _ _ _,_,_,_,_⟩ _;exact oH rfl rfl aH aH)|(guard_target=~Go.SL.Ev _ _ _ _ ⟨_,.binOp .lss _ _ _ _,_,_,_,_⟩ _;exact cY rfl rfl)|(guard_target=~Go.SL.Ev _ _ _ _ ⟨_,.binOp .leq _ _ _ _,_,_,_,_⟩ _;exact i8 rfl rfl)|(guard_target=~Go.SL.Ev _ _ _ _ ⟨_,.binOp .gtr _ _ _ _,_,_,_,_⟩ _;exact gX rfl rfl)|(guard_target=~Go.SL.Ev _ _ _ _ ⟨_,.binOp .geq _ _ _ _,_,_,_,_⟩ _;exact gP rfl rfl)))|(guard_target=~Go.SL.Ev _ _ _ _ ⟨_,.call ⟨.builtin _,_,_⟩,_,_,_,_⟩ _;(first|(guard_target=~Go.SL.Ev _ _ _ _ ⟨_,.call ⟨.builtin .len,_,_⟩,_,_,_,_⟩ _;exact bZ rfl aUn rfl)|(guard_target=~Go.SL.Ev _ _ _ _ ⟨_,.call ⟨.builtin .min,_,_⟩,_,_,_,_⟩ _;exact mH rfl rfl)|(guard_target=~Go.SL.Ev _ _ _ _ ⟨_,.call ⟨.builtin .max,_,_⟩,_,_,_,_⟩ _;exact aRL rfl rfl)))|(guard_target=~Go.SL.Ev _ _ _ _ ⟨_,.makeFunc _ _ _,_,_,_,_⟩ _;exact iB rfl rfl)|(guard_target=~Go.SL.Ev _ _ _ _ ⟨_,.index _ _ _,_,_,_,_⟩ _;exact dD aUn rfl rfl rfl bV)|(guard_target=~Go.SL.Ev _ _ _ _ ⟨_,.field _ _ _,_,_,_,_⟩ _;exact kT aUn rfl aTs rfl rfl)|(guard_target=~Go.SL.Ev _ _ _ _ ⟨_,.unOp .not _ _,_,_,_,_⟩ _;exact dZ rfl)):p:=h
theorem zz1{p q:Prop}(h:q)(k:Wq q→p:=by intro h;(first|(guard_target=Go.SL.OL _ _ [] _ _ _ _;(first|refine aF ?_))|(guard_target=Go.SL.OL _ _ (⟨some _,_,_,_,_,none⟩::_) _ _ _ _;(first|refine aA aEv rfl ?_|refine ol_s (dW rfl rfl) rfl ?_|refine ol_s (cU aTz) rfl ?_))|(guard_target=Go.SL.OL _ _ (⟨none,_,_,_,_,none⟩::_) _ _ _ _;(first|refine bR (bL aTs rfl rfl cK bB aZe rfl) rfl ?_))|(guard_target=Go.SL.OL _ _ _ _ _ _ _;(first|refine aV rfl rfl ?_|refine aT rfl rfl rfl ?_|refine gU rfl rfl rfl ?_))|(guard_target=Go.SL.T _ (.cond _ _ _) _ _ _ _;(first|refine cS rfl ?_|refine dV rfl ?_))|(guard_target=Go.SL.T _ _ _ _ _ _;(first|refine aI ?_|refine aB ?_|refine aW ?_|refine bK ?_|refine cW ?_|refine bD ?_))|(guard_target=Go.SL.D _ _ _ _ _ _;(first|refine aE ?_|refine aK ?_|refine aS ?_|refine aQ ?_|refine bF bV ?_|refine bE ?_|refine bI ?_|refine bP ?_|refine aM ?_|refine gJ rfl ?_|refine bJ rfl rfl (Hl.le_refl _) ?_|refine cT rfl (Hl.le_refl _) ?_))|(first|refine dl_ev rfl rfl aWh rfl rfl aEv rfl ?_|refine dl_off rfl rfl (.off rfl rfl rfl) rfl ?_|refine dl_nil ?_));exact h.w):p:=k ⟨h⟩
theorem zz2{p q:Prop}(h:q)(k:Wq q→p:=by intro h;(iterate 2 (refine zz1 ?_));exact h.w):p:=k ⟨h⟩
theorem zz3{p q:Prop}(h:q)(k:Wq q→p:=by intro h;(iterate 3 (refine zz1 ?_));exact h.w):p:=k ⟨h⟩
theorem zz4{p q:Prop}(h:q)(k:Wq q→p:=by intro h;(iterate 4 (refine zz1 ?_));exact h.w):p:=k ⟨h⟩
theorem zz5{p q:Prop}(h:q)(k:Wq q→p:=by intro h;(iterate 5 (refine zz1 ?_));exact h.w):p:=k ⟨h⟩
theorem zz6{p q:Prop}(h:q)(k:Wq q→p:=by intro h;(iterate 6 (refine zz1 ?_));exact h.w):p:=k ⟨h⟩
theorem zz7{p q:Prop}(h:q)(k:Wq q→p:=by intro h;(iterate 7 (refine zz1 ?_));exact h.w):p:=k ⟨h⟩
theorem zz8{p q:Prop}(h:q)(k:Wq q→p:=by intro h;(iterate 8 (refine zz1 ?_));exact h.w):p:=k ⟨h⟩
theorem zz9{p q:Prop}(h:q)(k:Wq q→p:=by intro h;(iterate 9 (refine zz1 ?_));exact h.w):p:=k ⟨h⟩
theorem zz10{p q:Prop}(h:q)(k:Wq q→p:=by intro h;(iterate 10 (refine zz1 ?_));exact h.w):p:=k ⟨h⟩
theorem zz11{p q:Prop}(h:q)(k:Wq q→p:=by intro h;(iterate 11 (refine zz1 ?_));exact h.w):p:=k ⟨h⟩
theorem zz12{p q:Prop}(h:q)(k:Wq q→p:=by intro h;(iterate 12 (refine zz1 ?_));exact h.w):p:=k ⟨h⟩
theorem zz13{p q:Prop}(h:q)(k:Wq q→p:=by intro h;(iterate 13 (refine zz1 ?_));exact h.w):p:=k ⟨h⟩
theorem zz14{p q:Prop}(h:q)(k:Wq q→p:=by intro h;(iterate 14 (refine zz1 ?_));exact h.w):p:=k ⟨h⟩
theorem zz15{p q:Prop}(h:q)(k:Wq q→p:=by intro h;(iterate 15 (refine zz1 ?_));exact h.w):p:=k ⟨h⟩
theorem zz16{p q:Prop}(h:q)(k:Wq q→p:=by intro h;(iterate 16 (refine zz1 ?_));exact h.w):p:=k ⟨h⟩
theorem zz17{p q:Prop}(h:q)(k:Wq q→p:=by intro h;(iterate 17 (refine zz1 ?_));exact h.w):p:=k ⟨h⟩
theorem zz18{p q:Prop}(h:q)(k:Wq q→p:=by intro h;(iterate 18 (refine zz1 ?_));exact h.w):p:=k ⟨h⟩
theorem zz19{p q:Prop}(h:q)(k:Wq q→p:=by intro h;(iterate 19 (refine zz1 ?_));exact h.w):p:=k ⟨h⟩
theorem zz20{p q:Prop}(h:q)(k:Wq q→p:=by intro h;(iterate 20 (refine zz1 ?_));exact h.w):p:=k ⟨h⟩
theorem zz21{p q:Prop}(h:q)(k:Wq q→p:=by intro h;(iterate 21 (refine zz1 ?_));exact h.w):p:=k ⟨h⟩
theorem zz22{p q:Prop}(h:q)(k:Wq q→p:=by intro h;(iterate 22 (refine zz1 ?_));exact h.w):p:=k ⟨h⟩
theorem zz24{p q:Prop}(h:q)(k:Wq q→p:=by intro h;(iterate 24 (refine zz1 ?_));exact h.w):p:=k ⟨h⟩
theorem zz25{p q:Prop}(h:q)(k:Wq q→p:=by intro h;(iterate 25 (refine zz1 ?_));exact h.w):p:=k ⟨h⟩
theorem zz26{p q:Prop}(h:q)(k:Wq q→p:=by intro h;(iterate 26 (refine zz1 ?_));exact h.w):p:=k ⟨h⟩
theorem zz27{p q:Prop}(h:q)(k:Wq q→p:=by intro h;(iterate 27 (refine zz1 ?_));exact h.w):p:=k ⟨h⟩
theorem zz28{p q:Prop}(h:q)(k:Wq q→p:=by intro h;(iterate 28 (refine zz1 ?_));exact h.w):p:=k ⟨h⟩
theorem zz29{p q:Prop}(h:q)(k:Wq q→p:=by intro h;(iterate 29 (refine zz1 ?_));exact h.w):p:=k ⟨h⟩
theorem zz31{p q:Prop}(h:q)(k:Wq q→p:=by intro h;(iterate 31 (refine zz1 ?_));exact h.w):p:=k ⟨h⟩
theorem zz36{p q:Prop}(h:q)(k:Wq q→p:=by intro h;(iterate 36 (refine zz1 ?_));exact h.w):p:=k ⟨h⟩
theorem zz41{p q:Prop}(h:q)(k:Wq q→p:=by intro h;(iterate 41 (refine zz1 ?_));exact h.w):p:=k ⟨h⟩
end Go.Proofs
namespace Go.Proofs
open Go Go.SL
theorem uAa{p q:Prop}(h:q)(k:Wq q→p:=by intro h;refine aO (.cons .here .nil) ?_;exact h.w):p:=k ⟨h⟩
theorem uAb{p q:Prop}(h:q)(k:Wq q→p:=by intro h;refine aO (.cons (.there (.there (.there .here))) (.cons .here (.cons .here (.cons .here .nil)))) ?_;exact h.w):p:=k ⟨h⟩
theorem uAc{p q:Prop}(h:q)(k:Wq q→p:=by intro h;refine aO (.cons (.there (.there (.there (.there .here)))) (.cons .here (.cons .here (.cons .here .nil)))) ?_;exact h.w):p:=k ⟨h⟩
theorem uAd{p q:Prop}(h:q)(k:Wq q→p:=by intro h;refine aO (.cons (.there (.there .here)) (.cons .here .nil)) ?_;exact h.w):p:=k ⟨h⟩
theorem uAe{p q:Prop}(h:q)(k:Wq q→p:=by intro h;refine bR (bL ts3 rfl rfl cK bB (.succ .zero) rfl) ?_;exact h.w):p:=k ⟨h⟩
theorem uAf{p q:Prop}(h:q)(k:Wq q→p:=by intro h;refine aA (bX (k:=(bC 9)) rfl Tryz.underlying39 rfl aN) rfl ?_;exact h.w):p:=k ⟨h⟩
theorem uAg{p q:Prop}(h:q)(k:Wq q→p:=by intro h;refine aA (cV (o:=0) (k:=(bC 9)) ts9 rfl aN bV rfl) rfl ?_;exact h.w):p:=k ⟨h⟩
theorem uAh{p q:Prop}(h:q)(k:Wq q→p:=by intro h;refine aO (.cons .here (.cons .here .nil)) ?_;exact h.w):p:=k ⟨h⟩
theorem uAi{p q:Prop}(h:q)(k:Wq q→p:=by intro h;refine aA (cR tb41 pI (.cons rfl rfl rfl (.cons .nil) .nil)) rfl ?_;exact h.w):p:=k ⟨h⟩
theorem uAj{p q:Prop}(h:q)(k:Wq q→p:=by intro h;refine bR (bL ts9 rfl rfl cK bB (.succ .zero) rfl) ?_;exact h.w):p:=k ⟨h⟩
theorem uAk{p q:Prop}(h:q)(k:Wq q→p:=by intro h;refine aO (.cons .here (.cons (.there (.there .here)) (.cons (.there (.there .here)) (.cons .here (.cons .here .nil))))) ?_;exact h.w):p:=k ⟨h⟩
theorem uAl{p q:Prop}(h:q)(k:Wq q→p:=by intro h;refine aO (.cons (.there .here) (.cons .here .nil)) ?_;exact h.w):p:=k ⟨h⟩
theorem uAm{p q:Prop}(h:q)(k:Wq q→p:=by intro h;refine aO (.cons .here (.cons (.there .here) (.cons (.there .here) .nil))) ?_;exact h.w):p:=k ⟨h⟩
theorem uAn{p q:Prop}(h:q)(k:Wq q→p:=by intro h;refine bR (bL ts3 rfl rfl cK bB .zero rfl) ?_;exact h.w):p:=k ⟨h⟩
theorem uAo{p q:Prop}(h:q)(k:Wq q→p:=by intro h;refine aO (.cons .here (.cons .here (.cons .here .nil))) ?_;exact h.w):p:=k ⟨h⟩
theorem uAp{p q:Prop}(h:q)(k:Wq q→p:=by intro h;refine ol_s (qA Tryz.underlying9 Tryz.underlying130 Tryz.underlying5 rfl) rfl ?_;exact h.w):p:=k ⟨h⟩
theorem uAq{p q:Prop}(h:q)(k:Wq q→p:=by intro h;refine bR (bL ts79 rfl rfl cK bB .zero rfl) ?_;exact h.w):p:=k ⟨h⟩
theorem uAr{p q:Prop}(h:q)(k:Wq q→p:=by intro h;refine aO (.cons (.there .here) (.cons (.there .here) .nil)) ?_;exact h.w):p:=k ⟨h⟩
theorem uAs{p q:Prop}(h:q)(k:Wq q→p:=by intro h;refine aO (.cons (.there (.there (.there .here))) (.cons (.there (.there (.there .here))) (.cons .here (.cons (.there .here) .nil)))) ?_;exact h.w):p:=k ⟨h⟩
theorem uAt{p q:Prop}(h:q)(k:Wq q→p:=by intro h;refine aO (.cons (.there (.there (.there .here))) (.cons .here (.cons (.there (.there .here)) (.cons (.there .here) .nil)))) ?_;exact h.w):p:=k ⟨h⟩
theorem uAu{p q:Prop}(h:q)(k:Wq q→p:=by intro h;refine aA (cR tb34 aDS (.cons rfl rfl rfl (.cons .nil) .nil)) rfl ?_;exact h.w):p:=k ⟨h⟩
theorem uAv{p q:Prop}(h:q)(k:Wq q→p:=by intro h;refine bR (bL mF rfl rfl cK bB (.succ (.succ .zero)) rfl) ?_;exact h.w):p:=k ⟨h⟩
theorem uAw{p q:Prop}(h:q)(k:Wq q→p:=by intro h;refine aO .nil ?_;exact h.w):p:=k ⟨h⟩
theorem uAx{p q:Prop}(h:q)(k:Wq q→p:=by intro h;refine aF ?_;refine uAa ?_;exact h.w):p:=k ⟨h⟩
theorem uAy{p q:Prop}(h:q)(k:Wq q→p:=by intro h;refine bR (bL ts9 rfl rfl cK bB (.succ (.succ (.succ .zero))) rfl) ?_;exact h.w):p:=k ⟨h⟩
theorem uAz{p q:Prop}(h:q)(k:Wq q→p:=by intro h;refine aA (bX (k:=(elB 5)) rfl Tryz.underlying130 rfl aN) rfl ?_;exact h.w):p:=k ⟨h⟩
theorem uBa{p q:Prop}(h:q)(k:Wq q→p:=by intro h;refine bR (bL f5 rfl rfl cK bB (.succ .zero) rfl) ?_;exact h.w):p:=k ⟨h⟩
theorem uBb{p q:Prop}(h:q)(k:Wq q→p:=by intro h;refine aA (cV (o:=0) (k:=(elB 5)) ts5 rfl aN bV rfl) rfl ?_;exact h.w):p:=k ⟨h⟩
theorem uBc{p q:Prop}(h:q)(k:Wq q→p:=by intro h;refine bR (bL ts4 rfl rfl cK bB (.succ (.succ (.succ (.succ (.succ .zero))))) rfl) ?_;exact h.w):p:=k ⟨h⟩
theorem uBd{p q:Prop}(h:q)(k:Wq q→p:=by intro h;refine aO (.cons (.there .here) (.cons (.there .here) (.cons (.there .here) (.cons (.there .here) (.cons (.there .here) (.cons (.there .here) .nil)))))) ?_;exact h.w):p:=k ⟨h⟩
theorem uBe{p q:Prop}(h:q)(k:Wq q→p:=by intro h;refine aO (.cons (.there .here) .nil) ?_;exact h.w):p:=k ⟨h⟩
theorem uBf{p q:Prop}(h:q)(k:Wq q→p:=by intro h;refine bR (bL ts29 rfl rfl cK bB .zero rfl) ?_;exact h.w):p:=k ⟨h⟩
theorem uBg{p q:Prop}(h:q)(k:Wq q→p:=by intro h;refine bR (bL ts39 rfl rfl cK bB (.succ (.succ (.succ (.succ .zero)))) rfl) ?_;exact h.w):p:=k ⟨h⟩
theorem uBh{p q:Prop}(h:q)(k:Wq q→p:=by intro h;refine aA (cR aMF aF5 (.cons rfl rfl rfl (.skip (.cons .nil)) .nil)) rfl ?_;exact h.w):p:=k ⟨h⟩
theorem uBi{p q:Prop}(h:q)(k:Wq q→p:=by intro h;refine uA (.cons (.there .here) (.cons .here .nil)) ?_;exact h.w):p:=k ⟨h⟩
theorem uBj{p q:Prop}(h:q)(k:Wq q→p:=by intro h;refine bR (bL ts4 rfl rfl cK bB (.succ .zero) rfl) ?_;exact h.w):p:=k ⟨h⟩
end Go.Proofs
end
section
attribute [local irreducible] Go.SL.T Go.SL.OL Go.SL.D Go.SL.DL Go.SL.Ev Go.SL.Ef Go.SL.EfS
namespace Go.Proofs
open Go Go.SL
def aED(K:Hl)(e at_:Int)(M:List Asn):Ending→Hl→List Asn→Prop:=fun en K' L'=>
 ∃b,en=.panicked [{v:=.iface 118 (ptr b),recovered:=false}]∧K'=K∧L'=pt b (aU [i64 e,i64 at_] 123)::M
def zB(p:Prop)(N:Value→Hl→List Asn→Prop)(K:Hl)(e at_:Int)(M:List Asn):Ending→Hl→List Asn→Prop:=fun en K' L'=>
 (p∧Ret N en K' L')∨(¬p∧aED K e at_ M en K' L')
theorem yT{p:Prop}{N:Value→Hl→List Asn→Prop}{K:Hl}{e at_:Int}{M:List Asn}(K':Hl)(L':List Asn):¬zB p N K e at_ M .outgrown K' L':=by
 rintro(⟨_,_,h,_⟩|⟨_,_,h,_⟩) <;> cases h
theorem aDM(x:Value)(e at_:Int)(K:Hl):Sp Tryz.prog 90 [x,i64 e,i64 at_] K [] (aED K e at_ []):=by
 refine aZ Tryz.func90 rfl Tryz.ntmps90 rfl rfl fun F w=>?_
 refine zz3 ?_;refine aA (cR aXQ aT2 (.cons rfl rfl rfl (.cons .nil) (.cons rfl rfl rfl (.skip (.cons .nil)) .nil))) rfl ?_;refine zz1 ?_;rintro _ K _ ⟨b9,rfl,rfl,rfl⟩ -;refine aA (dG Tryz.underlying118 (fun _ h=>by cases h) rfl) rfl ?_;refine aHY rfl ?_;refine bF (Hl.le_refl _) ?_;exact⟨_,rfl,rfl,rfl⟩
theorem zD(x:Value)(K:Hl):Sp Tryz.prog 92 [x,.bool true] K [] (Val (.tuple #[]) K):=by
 refine aZ Tryz.func92 rfl Tryz.ntmps92 rfl rfl fun F w=>?_
 refine zz3 ?_;refine aA gBN rfl ?_;refine zz5 ?_;exact⟨rfl,rfl,rfl⟩
abbrev mblk(b:Nat)(c0 c1 c2 c3 c4 c5 c6 c7 c8 c9:Value)(pc:Int):Asn:=pt b (aU [c0,c1,c2,c3,c4,c5,c6,c7,c8,c9,i64 pc] 178)
theorem aA7(b:Nat)(c0 c1 c2 c3 c4 c5 c6 c7 c8 c9:Value)(pc:Int)(K:Hl):Sp Tryz.prog 92 [ptr b,.bool false] K [mblk b c0 c1 c2 c3 c4 c5 c6 c7 c8 c9 pc] (aED K 12 pc [mblk b c0 c1 c2 c3 c4 c5 c6 c7 c8 c9 pc]):=by
 refine aZ Tryz.func92 rfl Tryz.ntmps92 rfl rfl fun F w=>?_
 refine zz3 ?_;refine aA gBN rfl ?_;refine zz9 ?_;refine aX rfl rfl (aDM _ _ _ _) .nil rfl gBM ?_ ?_
 ·
  rintro _ _ _ ⟨fb,h,rfl,rfl⟩ -;cases h
  refine bF (Hl.le_refl _) ?_;exact⟨fb,rfl,rfl,rfl⟩
 ·
  rintro _ _ _ ⟨_,h,_⟩;cases h
theorem xN(p:Prop)[Decidable p](b:Nat)(c0 c1 c2 c3 c4 c5 c6 c7 c8 c9:Value)(pc:Int)(K:Hl):Sp Tryz.prog 92 [ptr b,.bool (decide p)] K [mblk b c0 c1 c2 c3 c4 c5 c6 c7 c8 c9 pc]
  (zB p (fun v K' L'=>v=.tuple #[]∧K'=K∧L'=[mblk b c0 c1 c2 c3 c4 c5 c6 c7 c8 c9 pc]) K 12 pc [mblk b c0 c1 c2 c3 c4 c5 c6 c7 c8 c9 pc]):=by
 by_cases h:p
 ·rw[decide_eq_true h];exact(wO [mblk b c0 c1 c2 c3 c4 c5 c6 c7 c8 c9 pc] (zD (ptr b) K)).mono fun e K' L' ⟨N,⟨h1,h2,h3⟩,h4⟩=>.inl ⟨h,_,h1,rfl,h2,by rw[h4,h3];rfl⟩
 ·rw[decide_eq_false h];exact(aA7 b c0 c1 c2 c3 c4 c5 c6 c7 c8 c9 pc K).mono fun e K' L' q=>.inr ⟨h,q⟩
def gF:El Bool:={e:=4,sz:=1,enc:=fun b=>[.bool b],len:=fun _=>rfl,one:=fun _ u h=>by simp at h;subst h;rfl}
theorem aOU(b:Nat)(c0 c1 c2 c3 c4 c5 c6 c7 c8 c9:Value)(pc:Int)(st:List Bool)(v:Bool)(K:Hl):Sp Tryz.prog 142 [ptr b,.bool v] K [mblk b c0 c1 c2 c3 c4 c5 c6 c7 c8 c9 pc,sl false gF c9 st]
  (zB ((st.length:Int) < 8) (fun r K' L'=>r=.tuple #[]∧K'=K∧∃c9',L'=[mblk b c0 c1 c2 c3 c4 c5 c6 c7 c8 c9' pc,sl false gF c9' (st++[v])]) K 12 pc [mblk b c0 c1 c2 c3 c4 c5 c6 c7 c8 c9 pc,sl false gF c9 st]):=by
 refine aZ Tryz.func142 rfl Tryz.ntmps142 rfl rfl fun F w=>?_
 refine zz7 ?_;refine aA (bX (k:=gF) rfl Tryz.underlying176 rfl aN) rfl ?_;refine zz1 ?_;refine aX rfl rfl (xN _ _ _ _ _ _ _ _ _ _ _ _ _ _) (.cons .here .nil) rfl yT ?_ ?_
 ·
  rintro _ _ _ (⟨_,_,h,_⟩|⟨hp,fb,h,rfl,rfl⟩) -
  ·cases h
  cases h
  refine aK ?_;refine bF (Hl.le_refl _) ?_;exact .inr ⟨by omega,fb,rfl,rfl,rfl⟩
 rintro _ _ _ (⟨hp,_,h,rfl,rfl,rfl⟩|⟨_,_,h,_⟩) -
 rotate_left
 ·cases h
 cases h
 refine zz9 ?_;refine ol_s (a6 (z0:=[.bool false]) yF tz4 rfl rfl rfl rfl (.cons rfl rfl rfl (.cons .nil) .nil)) rfl ?_;rintro _ K _ ⟨b18,rfl,rfl,rfl⟩ -;refine ol_s (dT (k:=gF) (ys:=[v]) aIZ rfl rfl bB (fun w j=>dK Tryz.underlying176 (SeesSl.at (.blk (.own .here) rfl rfl) j)) gBQ gBQ) rfl ?_;rintro v19 K _ ⟨rfl,rfl,ho19⟩ -;refine zz2 ?_;refine bR (bL uC rfl rfl cK bB (.succ (.succ (.succ (.succ (.succ (.succ (.succ (.succ (.succ .zero))))))))) rfl) ?_;rintro _ K _ ⟨rfl,rfl⟩ -;refine aF ?_;refine uAd ?_;refine zz1 ?_;exact .inl ⟨hp,_,rfl,rfl,rfl,_,rfl⟩
theorem aNS(b:Nat)(c0 c1 c2 c3 c4 c5 c6 c7 c8 c9:Value)(pc by_ n:Int)(yes:Bool)(K:Hl)(hp:0≤pc∧pc < 1000)(hn:0≤n∧n < 1000):Sp Tryz.prog 146 [ptr b,i64 by_,i64 n,.bool yes] K [mblk b c0 c1 c2 c3 c4 c5 c6 c7 c8 c9 pc]
  (zB (0≤by_∧by_ < n - pc) (fun r K' L'=>r=.tuple #[]∧K'=K∧L'=[mblk b c0 c1 c2 c3 c4 c5 c6 c7 c8 c9 (if yes then pc+by_ else pc)]) K 12 pc [mblk b c0 c1 c2 c3 c4 c5 c6 c7 c8 c9 pc]):=by
 refine aZ Tryz.func146 rfl Tryz.ntmps146 rfl rfl fun F w=>?_
 refine zz6 ?_;refine cF 11 rfl (fun g11=>?_) (fun g11=>?_)
 ·
  refine zz17 ?_;refine aX rfl rfl (xN _ _ _ _ _ _ _ _ _ _ _ _ _ _) (.cons .here .nil) rfl yT ?_ ?_
  ·
   rintro _ _ _ (⟨_,_,h,_⟩|⟨hp,fb,h,rfl,rfl⟩) -
   ·cases h
   cases h
   refine aK ?_;refine bF (Hl.le_refl _) ?_;exact .inr ⟨by omega,fb,rfl,rfl,rfl⟩
  rintro _ _ _ (⟨hp,_,h,rfl,rfl,rfl⟩|⟨_,_,h,_⟩) -
  rotate_left
  ·cases h
  cases h
  refine zz7 ?_;refine d8 22 rfl (fun h22=>?_) (fun h22=>?_)
  ·
   subst h22;refine zz9 ?_;refine bR (bL ts3 rfl rfl cK bB (.succ (.succ (.succ (.succ (.succ (.succ (.succ (.succ (.succ (.succ .zero)))))))))) rfl) ?_;rintro _ K _ ⟨rfl,rfl⟩ -;refine zz2 ?_;exact .inl ⟨by omega,_,rfl,rfl,rfl,rfl⟩
  ·
   subst h22;refine zz2 ?_;exact .inl ⟨by omega,_,rfl,rfl,rfl,rfl⟩
 ·
  refine zz9 ?_;refine aX rfl rfl (aA7 _ _ _ _ _ _ _ _ _ _ _ _ _) (.cons .here .nil) rfl gBM ?_ ?_
  ·
   rintro _ _ _ ⟨fb,h,rfl,rfl⟩ -;cases h
   refine aK ?_;refine bF (Hl.le_refl _) ?_;exact .inr ⟨by omega,fb,rfl,rfl,rfl⟩
  ·
   rintro _ _ _ ⟨_,h,_⟩;cases h
end Go.Proofs
end
section
namespace Go.Plain
theorem takeWhile_stop{α:Type}(p:α→Bool):∀(l:List α) (k:Nat),k≤l.length→(l.take k).all p=true→(∀c,l[k]?=some c→p c=false)→l.takeWhile p=l.take k
 | [],k,hk,_,_=>by simp
 |x::l,0,_,_,h=>by simp[List.takeWhile_cons,h x (by simp)]
 |x::l,k+1,hk,ha,h=>by
  simp only[List.take_succ_cons,List.all_cons,Bool.and_eq_true]at ha;simp only[List.takeWhile_cons,ha.1,if_true,List.take_succ_cons];rw[takeWhile_stop p l k gC1 ha.2 (fun c hc=>h c (by simpa using hc))]
theorem take_all_succ{α:Type}{p:α→Bool}{l:List α}{k:Nat}{c:α}(hc:l[k]?=some c)(h:(l.take k).all p=true)(hp:p c=true):(l.take (k+1)).all p=true:=by
 have hk:k < l.length:=by
  rcases Nat.lt_or_ge k l.length with h|h
  ·exact h
  ·simp[List.getElem?_eq_none h]at hc
 rw[List.take_succ_eq_append_getElem hk,List.all_append,h];have:l[k]=c:=by simpa[List.getElem?_eq_getElem hk]using hc
 simp[this,hp]
def mp{α:Type}(f:α→α)(s:List α)(i:Nat):List α:=(s.take i).map f++s.drop i
theorem mp_zero{α:Type}(f:α→α)(s:List α):mp f s 0=s:=by simp[mp]
theorem mp_len{α:Type}(f:α→α)(s:List α)(i:Nat):(mp f s i).length=s.length:=by simp[mp];omega
theorem mp_end{α:Type}(f:α→α)(s:List α){i:Nat}(h:s.length≤i):mp f s i=s.map f:=by simp[mp,List.take_of_length_le h,List.drop_of_length_le h]
theorem mp_get{α:Type}(f:α→α)(s:List α)(i:Nat):(mp f s i)[i]?=s[i]?:=by
 unfold mp;rcases Nat.lt_or_ge i s.length with h|h
 ·rw[List.getElem?_append_right gBV];simp only[List.length_map,List.length_take,List.getElem?_drop]
  congr 1;omega
 ·rw[List.getElem?_eq_none h,List.getElem?_eq_none];simp;omega
theorem mp_set{α:Type}{f:α→α}{s:List α}{i:Nat}{c:α}(h:s[i]?=some c):(mp f s i).set i (f c)=mp f s (i+1):=by
 unfold mp;have hi:i < s.length:=by
  rcases Nat.lt_or_ge i s.length with h'|h'
  ·exact h'
  ·simp[List.getElem?_eq_none h']at h
 have hc:s[i]=c:=by simpa[List.getElem?_eq_getElem hi]using h
 have hl:((s.take i).map f).length=i:=by simp;omega
 rw[List.set_append_right _ _ (by rw[hl];exact Nat.le_refl _),hl,Nat.sub_self,List.drop_eq_getElem_cons hi,List.set_cons_zero,List.take_succ_eq_append_getElem hi,List.map_append,hc];simp
theorem mp_same{α:Type}{f:α→α}{s:List α}{i:Nat}{c:α}(h:s[i]?=some c)(hf:f c=c):mp f s i=mp f s (i+1):=by
 rw[←mp_set h,hf];have:=mp_get f s i;rw[h]at this
 apply List.ext_getElem?
 intro j;rw[List.getElem?_set];split
 ·rename_i e;subst e
  rw[this];split
  ·rfl
  ·rename_i h2;rw[List.getElem?_eq_none aH]at this;cases this
 ·rfl
end Go.Plain
end
section
namespace Go.Syn
abbrev aJ:=List UInt8
def gK(c:UInt8):Bool:=(decide (97≤(c|||32).toNat)&&decide ((c|||32).toNat≤122))||decide (c.toNat=95)
def dX(c:UInt8):Bool:=decide (48≤c.toNat)&&decide (c.toNat≤57)
def dI(c:UInt8):Bool:=gK c||dX c
abbrev Res(α:Type):=Except (Int×Int) α
def jH(s:aJ):Nat→Nat→Res Nat
 |0,a=>.ok a
 |f+1,a=>
  match s[a]? with
  |none=>.ok a
  |some c=>
   if c.toNat=32∨c.toNat=9∨c.toNat=13∨c.toNat=10 then jH s f (a+1)
   else if c.toNat=35 then jH s f (a+((s.drop a).takeWhile fun c=>decide (¬c.toNat=10)).length)
   else if c.toNat=47 then
    if ((s[a+1]?).getD 0).toNat≠42 then .ok a
    else if Lib.index (s.drop (min (a+2) s.length)) [42,47] < 0 then .error (2,a)
    else jH s f (a+2+(Lib.index (s.drop (min (a+2) s.length)) [42,47]).toNat+2)
   else .ok a
def skip(s:aJ)(a:Nat):Res Nat:=jH s (s.length+1 - a) a
section
variable{s:aJ}{f i:Nat}{c:UInt8}
theorem tK(h:s.length≤i):jH s (f+1) i=.ok i:=by simp only[jH];rw[List.getElem?_eq_none h]
theorem j6(hc:s[i]?=some c)(h:c.toNat=32∨c.toNat=9∨c.toNat=13∨c.toNat=10):jH s (f+1) i=jH s f (i+1):=by simp only[jH,hc];rw[if_pos h]
theorem mR(hc:s[i]?=some c)(h:c.toNat=35):jH s (f+1) i=jH s f (i+((s.drop i).takeWhile fun c=>decide (¬c.toNat=10)).length):=by
 simp only[jH,hc];rw[if_neg aH,if_pos h]
theorem sQ(hc:s[i]?=some c)(h:c.toNat=47)(hn:¬((s[i+1]?).getD 0).toNat=42):jH s (f+1) i=.ok i:=by
 simp only[jH,hc];rw[if_neg aH,if_neg aH,if_pos h,if_pos hn]
theorem aPJ(hc:s[i]?=some c)(h:c.toNat=47)(hn:((s[i+1]?).getD 0).toNat=42)(hx:Lib.index (s.drop (min (i+2) s.length)) [42,47] < 0):jH s (f+1) i=.error (2,i):=by
 simp only[jH,hc];rw[if_neg aH,if_neg aH,if_pos h,if_neg (by simpa using hn),if_pos hx]
theorem jN(hc:s[i]?=some c)(h:c.toNat=47)(hn:((s[i+1]?).getD 0).toNat=42)(hx:¬Lib.index (s.drop (min (i+2) s.length)) [42,47] < 0):
  jH s (f+1) i=jH s f (i+2+(Lib.index (s.drop (min (i+2) s.length)) [42,47]).toNat+2):=by
 simp only[jH,hc];rw[if_neg aH,if_neg aH,if_pos h,if_neg (by simpa using hn),if_neg hx]
theorem pE(hc:s[i]?=some c)(h:¬(c.toNat=32∨c.toNat=9∨c.toNat=13∨c.toNat=10∨c.toNat=35∨c.toNat=47)):jH s (f+1) i=.ok i:=by
 simp only[jH,hc];rw[if_neg aH,if_neg aH,if_neg aH]
theorem pT(hc:s[i]?=some c)(h:c.toNat=35):0 < ((s.drop i).takeWhile fun c=>decide (¬c.toNat=10)).length∧i+((s.drop i).takeWhile fun c=>decide (¬c.toNat=10)).length≤s.length:=by
 have hi:i < s.length:=by
  rcases Nat.lt_or_ge i s.length with h|h
  ·exact h
  ·simp[List.getElem?_eq_none h]at hc
 have e:s[i]=c:=by simpa[List.getElem?_eq_getElem hi]using hc
 have h2:=(List.takeWhile_sublist (fun c:UInt8=>decide (¬c.toNat=10)) (l:=s.drop i)).length_le;simp only[List.length_drop]at h2;refine⟨?_,by omega⟩
 rw[List.drop_eq_getElem_cons hi,e,List.takeWhile_cons,if_pos gBV];simp
end
def gV(lo hi add c:UInt8):UInt8:=if lo.toNat≤c.toNat∧c.toNat≤hi.toNat then c+add else c
def cN(s:aJ):aJ:=s.map (gV 65 90 32)
def aE4(s:aJ):aJ:=s.map (gV 97 122 224)
def vJ(n:Int)(c:UInt8):Int:=if 2147483648 < n*10+(c.toNat - 48:Nat)then 2147483648 else n*10+(c.toNat - 48:Nat)
def dA(s:aJ)(a:Nat):aJ:=(s.drop a).takeWhile dX
def fE(ds:aJ):Int:=ds.foldl vJ 0
def numC(s:aJ)(a:Nat):Nat:=((s[a+(dA s a).length]?).getD 0).toNat
def numN(s:aJ)(a:Nat):Int:=if numC s a=77∨numC s a=109 then fE (dA s a)*1024*1024 else if numC s a=75∨numC s a=107 then fE (dA s a)*1024 else fE (dA s a)
def numA(s:aJ)(a:Nat):Nat:=if numC s a=77∨numC s a=109∨numC s a=75∨numC s a=107 then a+(dA s a).length+1 else a+(dA s a).length
def pP(s:aJ)(a:Nat)(wat:Int):Res (Nat×Int):=
 if dI ((s[numA s a]?).getD 0)=true then .error (2,wat)
 else if 2147483647 < numN s a then .error (3,wat)
 else .ok (numA s a,numN s a)
theorem aQ2{n:Int}{c:UInt8}(h:0≤n∧n≤2147483648):0≤vJ n c∧vJ n c≤2147483648:=by
 unfold vJ;split <;> omega
theorem aJS(ds:aJ):∀n:Int,0≤n∧n≤2147483648→0≤ds.foldl vJ n∧ds.foldl vJ n≤2147483648:=by
 induction ds with
 |nil=>intro n h;exact h
 |cons c ds ih=>intro n h;exact ih _ (aQ2 h)
theorem xA(ds:aJ):0≤fE ds∧fE ds≤2147483648:=aJS ds 0 aH
theorem aGY{ds:aJ}{i:Nat}{c:UInt8}(h:ds[i]?=some c):fE (ds.take (i+1))=vJ (fE (ds.take i)) c:=by
 have hi:i < ds.length:=by
  rcases Nat.lt_or_ge i ds.length with h'|h'
  ·exact h'
  ·simp[List.getElem?_eq_none h']at h
 have hc:ds[i]=c:=by simpa[List.getElem?_eq_getElem hi]using h
 rw[List.take_succ_eq_append_getElem hi,hc];simp[fE]
theorem aCT(s:aJ)(a:Nat)(h:a≤s.length):a+(dA s a).length≤s.length:=by
 have:=(List.takeWhile_sublist dX (l:=s.drop a)).length_le;simp only[List.length_drop]at this;unfold dA;omega
theorem tZ{α:Type}{p:α→Bool}:∀ {l:List α} {x:α},x∈l.takeWhile p→p x=true
 | [],x,h=>by simp at h
 |y::l,x,h=>by
  rw[List.takeWhile_cons]at h;split at h
  ·rename_i hy;rcases List.mem_cons.1 h with rfl|h
   ·exact hy
   ·exact tZ h
  ·simp at h
theorem aQ3{s:aJ}{a i:Nat}{c:UInt8}(h:(dA s a)[i]?=some c):48≤c.toNat∧c.toNat≤57:=by
 have:=tZ (List.mem_of_getElem? h)
 simpa[dX]using this
theorem aL8(s:aJ)(a:Nat)(h:a≤s.length):numA s a≤s.length:=by
 have h1:=aCT s a h;unfold numA;split
 ·rename_i hc;rcases Nat.lt_or_ge (a+(dA s a).length) s.length with h'|h'
  ·omega
  ·unfold numC at hc;rw[List.getElem?_eq_none h']at hc;simp at hc
 ·exact h1
def fG(s:aJ)(wat:Int):Nat→Nat→aJ→Res (Nat×aJ)
 |0,_,_=>.error (2,wat)
 |f+1,a,acc=>
  if a < s.length∧((s[a]?).getD 0).toNat=34 then .ok (a+1,acc)
  else if ((s[a]?).getD 0).toNat=92 then
   if s.length≤a+1 then .error (2,wat)else fG s wat f (a+2) (acc++[(s[a+1]?).getD 0])
  else if s.length≤a then .error (2,wat)else fG s wat f (a+1) (acc++[(s[a]?).getD 0])
def quoted(s:aJ)(a:Nat)(wat:Int):Res (Nat×aJ):=fG s wat (s.length+1 - a) (a+1) []
section
variable{s acc:aJ}{wat:Int}{f i:Nat}
theorem yV(h:i < s.length)(hc:((s[i]?).getD 0).toNat=34):fG s wat (f+1) i acc=.ok (i+1,acc):=by
 simp only[fG];rw[if_pos ⟨h,hc⟩]
theorem nC(hn:¬(i < s.length∧((s[i]?).getD 0).toNat=34))(hc:((s[i]?).getD 0).toNat=92)(h:¬s.length≤i+1):fG s wat (f+1) i acc=fG s wat f (i+2) (acc++[(s[i+1]?).getD 0]):=by
 simp only[fG];rw[if_neg hn,if_pos hc,if_neg h]
theorem nS(hn:¬(i < s.length∧((s[i]?).getD 0).toNat=34))(hc:((s[i]?).getD 0).toNat=92)(h:s.length≤i+1):fG s wat (f+1) i acc=.error (2,wat):=by
 simp only[fG];rw[if_neg hn,if_pos hc,if_pos h]
theorem l5(hn:¬(i < s.length∧((s[i]?).getD 0).toNat=34))(hc:¬((s[i]?).getD 0).toNat=92)(h:¬s.length≤i):fG s wat (f+1) i acc=fG s wat f (i+1) (acc++[(s[i]?).getD 0]):=by
 simp only[fG];rw[if_neg hn,if_neg hc,if_neg h]
theorem m5(hn:¬(i < s.length∧((s[i]?).getD 0).toNat=34))(hc:¬((s[i]?).getD 0).toNat=92)(h:s.length≤i):fG s wat (f+1) i acc=.error (2,wat):=by
 simp only[fG];rw[if_neg hn,if_neg hc,if_pos h]
end
structure Word where
 kind:Nat
 s:aJ
 n:Int
 at_:Int
def cP(c:UInt8):Bool:=decide (c.toNat=59∨c.toNat=44∨c.toNat=40∨c.toNat=41∨c.toNat=123∨c.toNat=125∨c.toNat=91∨c.toNat=93)
def kP(s:aJ)(a:Nat):aJ:=(s.drop a).takeWhile dI
def kI(s:aJ)(a:Nat)(c:UInt8):Res (Nat×Word):=
 if cP c=true then .ok (a+1,⟨5,[c],0,a⟩)
 else if c.toNat=34 then
  match quoted s a a with
  | .error e=>.error e
  | .ok r=>.ok (r.1,⟨3,r.2,0,a⟩)
 else if c.toNat=58 then
  if gK ((s[a+1]?).getD 0)=true then .ok (a+1+(kP s (a+1)).length,⟨2,cN (kP s (a+1)),0,a⟩)
  else .error (2,a)
 else if gK c=true then .ok (a+(kP s a).length,⟨1,cN (kP s a),0,a⟩)
 else if dX c=true then
  match pP s a a with
  | .error e=>.error e
  | .ok r=>.ok (r.1,⟨4,[],r.2,a⟩)
 else .error (2,a)
def next(s:aJ)(a:Nat):Res (Nat×Word):=
 match skip s a with
 | .error e=>.error e
 | .ok a1=>
  match s[a1]? with
  |none=>.ok (a1,⟨0,[],0,a1⟩)
  |some c=>kI s a1 c
theorem aWD{c:UInt8}(h:cP c=true):c.toNat < 128:=by
 unfold cP at h;simp at h;omega
def cQ(xs:List aJ)(x:aJ):Int:=match xs.findIdx? (fun y=>decide (x=y))with
 |some i=>i
 |none=> -1
theorem aO2{xs:List aJ}{x:aJ}{i:Nat}(h:∀j:Nat,j < i→xs[j]?≠some x)(hx:xs[i]?=some x):cQ xs x=i:=by
 have hi:i < xs.length:=by
  rcases Nat.lt_or_ge i xs.length with h'|h'
  ·exact h'
  ·simp[List.getElem?_eq_none h']at hx
 have:xs.findIdx? (fun y=>decide (x=y))=some i:=by
  rw[List.findIdx?_eq_some_iff_getElem];refine⟨hi,?_,?_⟩
  ·rw[List.getElem?_eq_getElem hi]at hx;simp at hx;simp[hx]
  ·intro j hj;have:=h j hj;rw[List.getElem?_eq_getElem aH]at this;simp at this ⊢;exact fun e=>this e.symm
 unfold cQ;rw[this]
theorem aO4{xs:List aJ}{x:aJ}(h:∀j:Nat,j < xs.length→xs[j]?≠some x):cQ xs x= -1:=by
 have:xs.findIdx? (fun y=>decide (x=y))=none:=by
  rw[List.findIdx?_eq_none_iff];intro y hy;obtain⟨j,hj,e⟩:=List.getElem_of_mem hy;have:=h j hj;rw[List.getElem?_eq_getElem hj,e]at this;simp at this ⊢;exact fun e=>this e.symm
 unfold cQ;rw[this]
theorem aKT(xs:List aJ)(x:aJ):0≤cQ xs x↔x∈xs:=by
 unfold cQ;cases h:xs.findIdx? (fun y=>decide (x=y))with
 |some i=>
  rw[List.findIdx?_eq_some_iff_getElem]at h;obtain⟨hi,h1,_⟩:=h;simp at h1;simp only[Int.natCast_nonneg,true_iff];rw[h1];exact List.getElem_mem hi
 |none=>
  rw[List.findIdx?_eq_none_iff]at h
  constructor
  ·intro h0;exact absurd h0 (by decide)
  ·intro hm;have:=h x hm;simp at this
abbrev St:=Nat×Word
def take(s:aJ)(st:St)(k:Nat)(texts:List aJ):Res (Word×St):=
 if st.2.kind≠k∨(texts≠[]∧st.2.s∉texts)then .error (4,st.2.at_)
 else match next s st.1 with
  | .error e=>.error e
  | .ok r=>.ok (st.2,r)
def eat(s:aJ)(st:St)(x:aJ):Res (Bool×St):=
 if st.2.kind=5∧st.2.s=x then
  match next s st.1 with
  | .error e=>.error e
  | .ok r=>.ok (true,r)
 else .ok (false,st)
def sign(s:aJ)(st:St)(x:aJ):Res St:=
 match take s st 5 [x]with
 | .error e=>.error e
 | .ok r=>.ok r.2
def text(s:aJ)(st:St)(ff:aJ→Int):Res (aJ×St):=
 if st.2.kind=3∧ff st.2.s≠0 then .error (ff st.2.s,st.2.at_)
 else match take s st 3 []with
  | .error e=>.error e
  | .ok r=>.ok (r.1.s,r.2)
end Go.Syn
end
section
attribute [local irreducible] Go.SL.T Go.SL.OL Go.SL.D Go.SL.DL Go.SL.Ev Go.SL.Ef Go.SL.EfS
namespace Go.Proofs
open Go Go.SL Go.Syn
theorem retB{b c:Bool}(h:b=c)(K:Hl):Val (.bool c) K (.returned (.bool b)) K []:=⟨by rw[h],rfl,rfl⟩
theorem pO(c:UInt8)(K:Hl):Sp Tryz.prog 183 [.int .u8 c.toNat] K [] (Val (.bool (gK c)) K):=by
 refine aZ Tryz.func183 rfl Tryz.ntmps183 rfl rfl fun F w=>?_
 refine zz8 ?_;refine aA (aEX c 32 rfl rfl) rfl ?_;refine zz2 ?_;refine cF 6 rfl (fun g6=>?_) (fun g6=>?_)
 ·
  refine zz3 ?_;refine aA (aEX c 32 rfl rfl) rfl ?_;refine zz4 ?_;refine cF 11 rfl (fun g11=>?_) (fun g11=>?_)
  ·
   refine zz8 ?_;refine retB ?_ _
   unfold gK
   generalize (c|||32).toNat=x at*
   generalize c.toNat=y at*
   rw[Bool.eq_iff_iff];simp;omega
  ·
   refine zz10 ?_;refine retB ?_ _
   unfold gK
   generalize (c|||32).toNat=x at*
   generalize c.toNat=y at*
   rw[Bool.eq_iff_iff];simp;omega
 ·
  refine zz15 ?_;refine retB ?_ _
  unfold gK
  generalize (c|||32).toNat=x at*
  generalize c.toNat=y at*
  rw[Bool.eq_iff_iff];simp;omega
theorem nR(c:UInt8)(K:Hl):Sp Tryz.prog 188 [.int .u8 c.toNat] K [] (Val (.bool (dX c)) K):=by
 refine aZ Tryz.func188 rfl Tryz.ntmps188 rfl rfl fun F w=>?_
 refine zz10 ?_;refine cF 5 rfl (fun g5=>?_) (fun g5=>?_)
 ·
  refine zz10 ?_;refine retB ?_ _
  unfold dX
  generalize c.toNat=y at*
  rw[Bool.eq_iff_iff];simp;omega
 ·
  refine zz8 ?_;refine retB ?_ _
  unfold dX
  generalize c.toNat=y at*
  rw[Bool.eq_iff_iff];simp;omega
theorem o8(c:UInt8)(K:Hl):Sp Tryz.prog 187 [.int .u8 c.toNat] K [] (Val (.bool (dI c)) K):=by
 refine aZ Tryz.func187 rfl Tryz.ntmps187 rfl rfl fun F w=>?_
 refine zz8 ?_;refine cE rfl rfl (pO _ _) rfl ?_;refine zz1 ?_;refine oQ 5 rfl (fun g5=>?_) (fun g5=>?_)
 ·
  refine zz8 ?_;refine retB ?_ _
  simp[dI,g5]
 ·
  refine zz3 ?_;refine cE rfl rfl (nR _ _) rfl ?_;refine zz6 ?_;refine retB ?_ _
  simp[dI,g5]
abbrev lxb(b:Nat)(T:TypeId)(s:List UInt8)(at_:Int)(wk:Value)(ws:Value)(wn:Value)(wa:Value)(rest:List Value):Asn:=pt b (aU (str s::i64 at_::wk::ws::wn::wa::rest) T)
theorem kE(b:Nat)(T:TypeId)(s:List UInt8)(a n:Nat)(wk ws wn wa:Value)(rest:List Value)(hs:s.length≤600)(ha:a≤600)(hn:n≤2)(K:Hl):
  Sp Tryz.prog 181 [ptr b,i64 n] K [lxb b T s a wk ws wn wa rest] (Ret fun v K' L'=>v=.int .u8 ((s[a+n]?).getD 0).toNat∧K'=K∧L'=[lxb b T s a wk ws wn wa rest]):=by
 refine aZ Tryz.func181 rfl Tryz.ntmps181 rfl rfl fun F w=>?_
 refine zz7 ?_;refine t_draw (anc:=[0,1,3,7,0,31,0,64,192,448,960,2047]) (ord:=[0,1,2,3,4,5,6,7,8,9,10,11]) [] [] mixed gBO (cX _) ?_;refine zz14 ?_;refine bG 16 rfl (fun h16=>?_) (fun h16=>?_)
 ·
  obtain⟨c,hc⟩:∃c,s[a+n]?=some c:=⟨s[a+n],List.getElem?_eq_getElem aH⟩;refine aI ?_;refine t_draw (anc:=[0,1,3,7,0,16,48,112,0,496,1023,2047]) (ord:=[0,1,2,3,4,5,6,7,8,9,10,11]) [] [] mixed gBO (cX _) ?_;refine zz10 ?_;refine dl_ev rfl rfl (.none rfl) rfl rfl (dD Tryz.underlying9 rfl (j:=a+n) rfl aH hc) rfl ?_;refine zz6 ?_;exact⟨_,rfl,by rw[hc];rfl,rfl,rfl⟩
 ·
  have hc:s[a+n]?=none:=List.getElem?_eq_none aH;refine zz9 ?_;exact⟨_,rfl,by rw[hc];rfl,rfl,rfl⟩
theorem rJ(b:Nat)(T:TypeId)(s:List UInt8)(a:Nat)(wk ws wn wa:Value)(rest:List Value)(fn:FuncId)(pf:UInt8→Bool)(hs:s.length≤600)(ha:a≤s.length)(K:Hl)
  (hf:∀c,Sp Tryz.prog fn [.int .u8 (c:UInt8).toNat] K [] (Val (.bool (pf c)) K)):
  Sp Tryz.prog 186 [ptr b,.func (.func fn) #[] #[]] K [lxb b T s a wk ws wn wa rest]
   (Ret fun v K' L'=>v=str ((s.drop a).takeWhile pf)∧K'=K∧L'=[lxb b T s (a+((s.drop a).takeWhile pf).length:Nat) wk ws wn wa rest]):=by
 refine aZ Tryz.func186 rfl Tryz.ntmps186 rfl rfl fun F w=>?_
 refine zz16 ?_;refine d6 (fun(i:Nat)=>a≤i∧i≤s.length∧((s.drop a).take (i - a)).all pf=true) (fun i=>[(0,ptr b),(1,.func (.func fn) #[] #[]),(5,i64 a)]) (fun _=>K) (fun i=>[lxb b T s i wk ws wn wa rest]) (fun i=>s.length - i) a ⟨Nat.le_refl _,ha,by simp⟩ (.cons 0 rfl (.cons 1 rfl (.cons 5 rfl .nil))) rfl (fun _ h=>h) ?_;intro i ⟨hi1,hi2,hi3⟩;refine zz2 ?_;refine t_draw (anc:=[0,1,3,7,0,16,48,112,240,511,1023,2047,2047,6143,14335,30719,2047,67583,198655,460799,1046527,2097151,4194303]) (ord:=[0,1,2,3,4,5,6,7,8,9,10,11,12,13,14,15,16,17,18,19,20,21,22]) [21] [] mixed gBO (cX _) ?_;refine zz11 ?_;refine dl_splitp 20 rfl (fun g20=>?_) (fun g20=>?_)
 ·
  obtain⟨c,hc⟩:∃c,s[i]?=some c:=⟨s[i],List.getElem?_eq_getElem aH⟩;refine zz10 ?_;refine dl_callv rfl (.on rfl rfl rfl) rfl rfl rfl rfl (hf c) rfl ?_;refine zz3 ?_;refine d8 32 rfl (fun h32=>?_) (fun h32=>?_)
  ·
   refine zz11 ?_;refine uAe ?_;rintro _ K _ ⟨rfl,rfl⟩ -;refine zz2 ?_;refine cG (i+1) ⟨by omega,by omega,?_⟩ aH (.cons 0 rfl (.cons 1 rfl (.cons 5 rfl .nil))) rfl (fun _ h=>h)
   have e:i+1 - a=i - a+1:=by omega
   have e2:a+(i - a)=i:=by omega
   rw[e];exact Plain.take_all_succ (c:=c) (by rw[List.getElem?_drop,e2];exact hc) hi3 h32
  ·
   refine zz6 ?_;refine t_draw (anc:=[0,1,3,7,0,0,32,96,224,511,1023]) (ord:=[0,1,2,3,4,5,6,7,8,9,10]) [] [] mixed gBO (cX _) ?_;refine zz9 ?_;refine dl_ev rfl rfl (.none rfl) rfl rfl (lW Tryz.underlying9 rfl rfl rfl rfl rfl aH aH) rfl ?_;refine zz5 ?_;have hstop:∀c1,s[i]?=some c1→pf c1=false:=by first|(intro c1 hc1;rw[hc]at hc1;cases hc1;exact h32)|(intro c1 hc1;rw[List.getElem?_eq_none aH]at hc1;cases hc1)
   have e2:a+(i - a)=i:=by omega
   have hT:(s.drop a).takeWhile pf=(s.drop a).take (i - a):=Plain.takeWhile_stop pf _ _ gBV hi3 (fun c1 hc1=>hstop c1 (by rw[List.getElem?_drop,e2]at hc1;exact hc1));have hL:a+((s.drop a).takeWhile pf).length=i:=by rw[hT];simp;omega
   refine⟨_,rfl,?_,rfl,?_⟩
   ·rw[hT,List.drop_take]
   ·rw[hL];rfl
 ·
  refine zz21 ?_;refine t_draw (anc:=[0,1,3,7,0,0,32,96,224,511,1023]) (ord:=[0,1,2,3,4,5,6,7,8,9,10]) [] [] mixed gBO (cX _) ?_;refine zz9 ?_;refine dl_ev rfl rfl (.none rfl) rfl rfl (lW Tryz.underlying9 rfl rfl rfl rfl rfl aH aH) rfl ?_;refine zz5 ?_;have hstop:∀c1,s[i]?=some c1→pf c1=false:=by first|(intro c1 hc1;rw[hc]at hc1;cases hc1;exact h32)|(intro c1 hc1;rw[List.getElem?_eq_none aH]at hc1;cases hc1)
  have e2:a+(i - a)=i:=by omega
  have hT:(s.drop a).takeWhile pf=(s.drop a).take (i - a):=Plain.takeWhile_stop pf _ _ gBV hi3 (fun c1 hc1=>hstop c1 (by rw[List.getElem?_drop,e2]at hc1;exact hc1));have hL:a+((s.drop a).takeWhile pf).length=i:=by rw[hT];simp;omega
  refine⟨_,rfl,?_,rfl,?_⟩
  ·rw[hT,List.drop_take]
  ·rw[hL];rfl
end Go.Proofs
end
section
namespace Go.SL
theorem In.start(w:World):In w .emp (hp w) [] w:=
 ⟨rfl,rfl,rfl,Nat.le_refl _,.emp,rfl,(Hl.dj_emp _).symm,Hl.dj_emp _,Hl.dj_emp _,(fun _ _ e=>by cases e),Hl.le_refl _,(fun _ _ e=>by cases e)⟩
theorem In.below{w w':World}{K':Hl}{L:List Asn}(le:(hp w).le K')(i:In w .emp K' L w'):RowKit.Below w.heap.size w w':=by
 refine⟨i.os,i.tape,i.output,i.size,fun k hk=>?_⟩
 have h:=le k w.heap[k] (by simp[hp,hk]);rw[i.known h];simp[hk]
theorem aB9{P:Program}{f:FuncId}{args:List Value}{w:World}{v:Value}(h:Sp P f args (hp w) [] (Ret fun u _ _=>u=v)):
  Calls P f args.toArray w fun e w'=>e=.returned v∧RowKit.Below w.heap.size w w':=
 (h.2 .emp w (In.start w)).mono fun _ _ ⟨_,_,⟨u,he,hu⟩,le,j⟩=>⟨by rw[he,hu],j.below le⟩
theorem nF{P:Program}{f:FuncId}{args:List Value}{K:Hl}{v:Value}(hb:∃fn,P.funcs[f]?=some fn∧(fn.name=="runtime.NumGoroutine")=false∧fn.body.isSome=true)
  (h:∀w,K.le (hp w)→Calls P f args.toArray w fun e w'=>e=.returned v∧RowKit.Below w.heap.size w w'):Sp P f args K [] (Val v K):=by
 refine⟨hb,fun F w i=>?_⟩
 obtain⟨x,hs,d1,d2,d3,l1,l2,l3⟩:=i.rep;refine(h w l2).mono fun e w' ⟨he,hbl⟩=>?_
 have up:∀ {k:Hl},k.le (hp w)→k.le (hp w'):=by
  intro k hk b o e;have hlt:b < w.heap.size:=by
   have:=hk b o e;simp only[hp]at this;rcases Nat.lt_or_ge b w.heap.size with h|h
   ·exact h
   ·simp[Array.getElem?_eq_none h]at this
  have:=hk b o e;simp only[hp]at this ⊢;rw[hbl.block b hlt];exact this
 exact⟨K,[],⟨he,rfl,rfl⟩,Hl.le_refl _,hbl.os,hbl.tape,hbl.output,hbl.size,x,hs,d1,d2,d3,up l1,up l2,up l3⟩
theorem lI{P:Program}{f:FuncId}{args:List Value}{K:Hl}{v:Value}(hb:∃fn,P.funcs[f]?=some fn∧(fn.name=="runtime.NumGoroutine")=false∧fn.body.isSome=true)
  (h:∀w,K.le (hp w)→Calls P f args.toArray w fun e w'=>e=.returned v∧w'=w):Sp P f args K [] (Val v K):=
 nF hb fun w hw=>(h w hw).mono fun e w' ⟨he,hw'⟩=>⟨he,by subst hw';exact RowKit.Below.refl _ _⟩
end Go.SL
end

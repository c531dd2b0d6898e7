/-
  What the proof stands on, part 12: the logic of walks, the walks through the functions, the plain laws. Conditions: as each theorem says. (Merged and shortened by a program.)
-/
import Derived.Test.YthopmddkpdehiabGreatDoorK7
import Derived.Test.YthopmddkpdehiabGreatDoorK9
set_option linter.unusedVariables false
set_option linter.unusedSimpArgs false
set_option linter.defProp false
set_option maxRecDepth 4000
set_option maxHeartbeats 1000000
namespace Go
def gA5{p:Prop}(h:p:=by refine aQ (aM cI (aM bW (aM bW (aM bW bF)))) ?_;exact a8 ⟨decide (0≤Lib.index (f7 o.oct x) (f7 o.oct y)),K3,pv,s⟩ ⟨hle3,aCB h64,hpv.mono hle3⟩ aS Y (fun _ h=>h)):p:=h
def gA7{p:Prop}(h:p:=by refine aQ (aM cI (aM bW (aM bW (aM bW bF)))) ?_;exact a8 ⟨decide (f7 o.oct x=f7 o.oct y),K3,pv,s⟩ ⟨hle3,aHH h55,hpv.mono hle3⟩ aS Y (fun _ h=>h)):p:=h
def gAK{p:Prop}(h:p:=by exact dC r2 pv2 cur es2 c2 ⟨(by cases r2 with|none=>(first|(rw[hln rfl,show v.length+1 - e=0 from by omega];rfl)|(simp at h66))|some q=>exact(hls q Y).1),fun qs h=>(hls qs h).2,hlt,hld,hlw⟩ aS Y cV):p:=h
def gAN{p:Prop}(h:p:=by exact dC none pv ps es c ⟨pA hc hjl aH aH,(fun qs h=>by cases h),(fun _=>⟨List.take_length,Nat.le_refl _⟩),hes,(fun q hq=>.inl hq)⟩ aS Y cV):p:=h
def gAO{p:Prop}(h:p:=by refine gW fun K5 le5 hK5=>?_;refine cS (f9 (m:=m) (hv:=hv) (pv:=v90) (nm:=nm) (s:={s with parts:=x::(glob x y o.oct).getD []})) ?_;refine aQ (aM bW (aM cI (aM cI (aM cI bF)))) ?_;subst h85;exact a8 ⟨(glob x y o.oct).isSome,K5,v90,{s with parts:=x::(glob x y o.oct).getD []}⟩ ⟨Hl.le_trans (Hl.le_trans hle3 le4) le5,aCC h70 g80,hK5⟩ aS Y (fun _ h=>h)):p:=h
def gAU{p:Prop}(h:p:=by refine cS (f9 (m:=m) (hv:=hv) (pv:=pv) (nm:=nm) (s:=s)) ?_;refine aQ (aM bW (aM cI (aM cI (aM cI bF)))) ?_;exact a8 ⟨(glob x y o.oct).isSome,K4,pv,s⟩ ⟨Hl.le_trans hle3 le4,by first|exact aHI h70 g80|(subst h85;exact aHJ h70),hpv.mono (Hl.le_trans hle3 le4)⟩ aS Y (fun _ h=>h)):p:=h
def gAX{p:Prop}(h:p:=by refine aQ (.cons (.there (.there .here)) (.cons (.there (.there .here)) (.cons (.there (.there .here)) (.cons (.there (.there .here)) (.cons .here (.cons (.there .here) .nil)))))) ?_;refine cS (f9 (s:=s)) ?_;exact cM ⟨i+1,v68⟩ (by (show i+1≤o.a.length);omega) (by (show o.a.length - (i+1) < o.a.length - i);omega) (.cons 0 Y (.cons 5 Y (.cons 39 Y (.cons 40 Y (.cons 41 Y .nil))))) Y (by dsimp only;rw[mY _ hx,aL4 h47 h58];exact fun _ h=>h)):p:=h
def gAY{p:Prop}(h:p:=by refine aQ (.cons (.there (.there .here)) (.cons (.there (.there .here)) (.cons (.there (.there .here)) (.cons (.there (.there .here)) (.cons .here (.cons (.there .here) .nil)))))) ?_;refine cS (f9 (s:=s)) ?_;exact cM ⟨i+1,v57⟩ (by (show i+1≤o.a.length);omega) (by (show o.a.length - (i+1) < o.a.length - i);omega) (.cons 0 Y (.cons 5 Y (.cons 39 Y (.cons 40 Y (.cons 41 Y .nil))))) Y (by dsimp only;rw[mY _ hx,aL2 h47];exact fun _ h=>h)):p:=h
def gB0{p:Prop}(h:p:=by refine aQ (aM k6T (aM k5T (aM bW bF))) ?_;exact mF Y Y Y hle0 (by rw[hx,if_pos h77]) aH):p:=h
def gB4{p:Prop}(h:p:=by refine aQ (jF L1 _) ?_;exact cM ⟨i+1,_,L1⟩ ⟨by (show i+1≤m.hs.length);omega,hle,by (show J (lD m name (i+1)) _ L1);rw[oD hx,if_neg g22];exact hJ⟩ (by (show m.hs.length - (i+1) < m.hs.length - i);omega) aS Y (fun _ h=>h)):p:=h
def gB6{p:Prop}(h:p:=by symm;rw[Bool.eq_false_iff];intro hbx;exact absurd ((gG s).1 hbx).2.1 b0):p:=h
def gBA{p:Prop}(h:p:=by refine cS (f9 (s:=s)) ?_;exact cM ⟨i+1,v⟩ (by (show i+1≤o.a.length);omega) (by (show o.a.length - (i+1) < o.a.length - i);omega) (.cons 0 Y (.cons 5 Y (.cons 39 Y (.cons 40 Y (.cons 41 Y .nil))))) Y (by dsimp only;rw[mY _ hx,aL3 h47 h58,List.append_nil];exact fun _ h=>h)):p:=h
def gBF{p:Prop}(h:p:=by refine aQ (.cons (.there (.there (.there (.there .here)))) (.cons .here (.cons .here (.cons .here (.cons .here .nil))))) ?_;exact a8 ⟨v,K⟩ (Hl.le_refl _) (.cons 5 Y .nil) Y (by rw[←hfin];exact fun h hh=>eR (fun h hh=>f9 (s:=s) h hh) hh)):p:=h
def gBI{p:Prop}(h:p:=by refine aQ (aM e7 (aM bW (aM e7 (aM e7 (aM bW (aM bW bF)))))) ?_;exact a8 _ ⟨gX (hs xa (List.mem_of_getElem? hxa)),by rw[qV hcc,aLP h35 hxa]⟩ aS Y cV):p:=h
def gBM{p:Prop}(h:p:=by refine cW ((s2.drop i).drop 1) (acc++s2.take i++[36]) ⟨by omega,by rw[List.length_append,List.length_append];simp only[List.length_singleton];omega,f2 - 1,by omega,by rw[hx,hey,if_neg hcc,←hf2]⟩ aH aS Y (fun _ h=>h)):p:=h
def gBN{p:Prop}(h:p:=by refine aQ (aM bW (aM bW (aM cI (aM cI (aM cI (aM bW bF)))))) ?_;exact a8 [] ⟨by simp,by rw[qV hcc,aLO (Classical.not_not.1 h35)]⟩ aS Y cV):p:=h
def gBO{p:Prop}(h:p:=by refine cW ((s2.drop i).drop (e.toNat+1)) (acc++s2.take i++hd.1) ⟨by omega,by rw[List.length_append,List.length_append];omega,f2 - 1,by omega,by rw[hx,hey,if_pos hcc,←hf2]⟩ aH aS Y (fun _ h=>h)):p:=h
def gBS{p:Prop}(h:p:=by refine aQ (by rw[List.append_nil];exact zO M2 _) ?_;exact cM ⟨i+1,K2,M2⟩ ⟨by (show i+1≤m.hs.length);omega,Hl.le_trans hle le2,by (show J (lD m name (i+1)) K2 M2);rw[oD hx,if_pos g22];rcases hR with ⟨_,h⟩|⟨h,_⟩;exact h;(exfalso;subst h;simp at h28)⟩ (by (show m.hs.length - (i+1) < m.hs.length - i);omega) aS Y (fun _ h=>h)):p:=h
def gBV{p:Prop}(h:p:=by refine aQ (.cons (.there .here) .nil) ?_;exact a8 ⟨.slice none 0 0,K⟩ (Hl.le_refl _) (.cons 5 Y .nil) Y (by rw[aNV h12 h18 h36];exact eL (a7 9))):p:=h
def gBY{p:Prop}(h:p:=by refine aQ (.cons .here (.cons (.there .here) .nil)) ?_;exact a8 ⟨v,K1⟩ hle (.cons 5 Y .nil) Y (by rw[←hfin];exact fun _ h=>h)):p:=h
def gBZ{p:Prop}(h:p:=by refine aQ (aM k7T (aM k6T (aM bW bF))) ?_;exact mF Y Y Y hle0 (by rw[hx,if_pos h77]) aH):p:=h
def gC4{p:Prop}(h:p:=by unfold actB;rw[if_neg (by first|omega|(rintro⟨_,hq⟩;simp[hq]at h43)),if_neg (by first|omega|(rintro⟨_,hq⟩;simp[hq]at h57))]):p:=h
def gCB{p:Prop}(h:p:=by exact cM (i+1) ⟨by omega,fun j d hj hd=>by rcases Nat.lt_or_ge j i with h|h;exact hno j d h hd;(obtain rfl:j=i:=by omega);rw[hc]at hd;cases hd;exact hbl⟩ aH aS Y (fun _ h=>h)):p:=h
def gCD{p:Prop}(h:p:=by rw[if_neg h93,if_neg hnc,if_neg aH];exact⟨_,Y,Y,pv,hpv,Y⟩):p:=h
def gCM{p:Prop}(h:p:=by rw[p8 aH,hp];exact⟨_,Y,Y,Y,Y⟩):p:=h
def gCN{p:Prop}(h:p:=by rw[if_pos h93];exact⟨_,Y,Y,pv,hpv,Y⟩):p:=h
def gCP{p:Prop}(h:p:=by rw[p9 hno];exact⟨_,Y,Y,Y,Y⟩):p:=h
def gD2{p:Prop}(h:p:=by unfold hZ;simp only[Bool.or_eq_true,Bool.and_eq_true,decide_eq_true_eq];first|(left;left;simpa using g16;done)|(left;right;omega)|(right;omega)):p:=h
def gD5{p:Prop}(h:p:=by rw[Bool.eq_iff_iff];simp;omega):p:=h
def gDD{p:Prop}(h:p:=by rw[hok,hB];unfold Mach.actV;rw[if_pos h71,kJ]):p:=h
def gDF{p:Prop}(h:p:=by rw[hok,hB];unfold Mach.actV;rw[if_neg h71]):p:=h
def gE1{p:Prop}(h:p:=by rcases Nat.le_total (acc++s2).length 1024 with h|h;(rw[Nat.min_eq_left h,List.take_length,List.take_of_length_le h]);(rw[Nat.min_eq_right h])):p:=h
def gE3{p:Prop}(h:p:=by rw[decide_eq_decide];omega):p:=h
def gEB{p:Prop}(h:p:=by rw[hx,if_neg (by rw[h77];decide)]):p:=h
def gEJ{p:Prop}(h:p:=by simp only[List.length_singleton];omega):p:=h
def gEN{p:Prop}(h:p:=by unfold actB;rw[if_neg aH,if_pos ⟨g61,by simpa using h57⟩]):p:=h
def gEP{p:Prop}(h:p:=by rintro⟨x,hx,hh⟩;obtain⟨j,hj⟩:=List.getElem?_of_mem hx;exact hi1 j x (by rcases Nat.lt_or_ge j s.acts.length with h|h;omega;(rw[List.getElem?_eq_none h]at hj;cases hj)) hj hh):p:=h
def gER{p:Prop}(h:p:=by first|omega|(simp;done)|(simp;omega)):p:=h
def gF6{p:Prop}(h:p:=by have:=hinv.acts;simp;omega):p:=h
def gGE{p:Prop}(h:p:=by intro x hx;obtain⟨y,hy,rfl⟩:=List.mem_map.1 hx;exact gX (hs y hy)):p:=h
end Go
section
namespace Go.SL
section
variable{E:Env}{fr:Fr}{K:Hl}{L:List Asn}{Q:Post}{c x y:Code}{ops:Array Oper}{rest:List Oper}
def bJ1{l:Nat}(h:D E .normal fr K L Q):T E (.label l) fr K L Q:=fun a w f i=>wp_label (h a w f i)
def z8{As M:List Asn}(k:Tks As L M)(h:T E c fr K (As++M) Q):T E c fr K L Q:=jJ k.sat h
def bEI{l:List Oper}{As M:List Asn}(k:Tks As L M)(h:OL E ops l fr K (As++M) Q):OL E ops l fr K L Q:=j4 k.sat h
def yG{b:Nat}{o:Obj}(h:∀K',K.le K'→K' b=some o→T E c fr K' L Q):T E c fr K (pt b o::L) Q:=fun a w f i=>let ⟨h1,h2,h3⟩:=i.settle;h _ h1 h2 a w f h3
def aD1{P:Program}{f:FuncId}{args:List Value}{L M:List Asn}{R:Ending→Hl→List Asn→Prop}(k:∀h,Sat L h→Sat M h)(h:Sp P f args K M R):Sp P f args K L R:=
 ⟨h.1,fun F w j=>h.2 F w (j.imp k)⟩
end
section
variable{E:Env}{ops:Array Oper}{eff stg:List Nat}{S:List Asn}{r:List Nat}{fr:Fr}{K:Hl}{M L:List Asn}{Q:Post}{i:Nat}{o:Oper}
def bKV(ops:Array Oper)(fr':Fr):Bool:=fr'.all fun p=>ops.toList.all fun o=>match o.dst with|some d=>!Nat.beq d p.1|none=>true
def bMA{fr:Fr}{k:Nat}{v:Value}(h:fr.get k=some v):∃p∈fr,p.1=k:=by
 induction fr with
 |nil=>cases h
 |cons p r ih=>
  obtain⟨j,u⟩:=p;simp only[Fr.get]at h
  by_cases hk:j=k
  ·exact⟨_,List.mem_cons_self ..,hk⟩
  rw[aRT hk]at h;obtain⟨q,hq,e⟩:=ih h;exact⟨q,List.mem_cons_of_mem _ hq,e⟩
def FrOk.alike{n:Nat}{ds:List Deferred}{fr fr':Fr}{a a':Act}{ops:Array Oper}(f:FrOk n ds fr a)(k:Kp fr fr')(hs:bKV ops fr'=true)(h:m7 ops a' a):FrOk n ds fr' a':=by
 have f2:=f.keep k;refine⟨h.1.trans f.defers,h.2.1.trans f.size,fun j v e=>?_⟩
 obtain⟨p,hp,rfl⟩:=bMA e;rw[h.2.2 p.1 ?_];exact f2.get _ _ e
 intro o ho hd;have:=xBN.1 (xBN.1 hs p hp) o ho;rw[hd]at this;simp at this
def aSD{d:Nat}{ty:TypeId}{pos:String}{aft:Array Edge}{g:Option (Nat×Bool)}{fv:Operand}{xs:List Operand}{ats:Array TypeId}{f:FuncId}{caps:Array Value}{vs:List Value}{L1 L2:List Asn}{R:Ending→Hl→List Asn→Prop}{fr':Fr}
  (ho:ops[i]?=some ⟨some d,.call ⟨.value fv,xs.toArray,ats⟩,ty,pos,aft,g⟩) (hg:GOk ops fr ⟨some d,.call ⟨.value fv,xs.toArray,ats⟩,ty,pos,aft,g⟩ true) (he:stg.contains i=true)
  (hf:fr.ev fv=some (.func (.func f) #[] caps)) (hx:fr.evs xs=some vs) (hs:Sp E.P f (vs++caps.toList) K L1 R) (hL:Tks L1 (S++M) L2) (hn:Nat.blt d E.n=true)
  (hout:∀K' L',¬R .outgrown K' L') (hk:Kp fr fr') (has:bKV ops fr'=true)
  (hpan:∀ch K' L',R (.panicked ch) K' L'→K.le K'→D E (.panic ch) fr' K' (L'++L2) Q)
  (h:∀v K' L',R (.returned v) K' L'→K.le K'→DL E ops eff stg (L'++L2) r ((d,v)::fr) K' [] Q):DL E ops eff stg S (i::r) fr K M Q:=by
 intro a fo;unfold DX;simp only[ho,hg.wanted fo,if_true,he];intro w j;obtain⟨F',i1,back⟩:=(j.imp hL.sat).hide;refine .inr (.inr (.inl ⟨f,_,w,uS hf hx hs fo w,(hs.2 F' w i1).mono fun e w' ⟨K',L',q,le,j'⟩=>?_⟩))
 cases e with
 |returned v=>exact⟨K',L'++L2,[],le,by simpa using back j',h v K' L' q le _ (fo.put hn v)⟩
 |panicked ch=>exact fun a' ha'=>hpan ch K' L' q le a' w' (fo.alike hk has ha') (back j')
 |outgrown=>exact absurd q (hout _ _)
end
end Go.SL
end
section
namespace Go.SL
open Go.MapKept
section
variable{E:Env}{fr:Fr}{K:Hl}{L L':List Asn}{Q:Post}{dst:Option Tmp}{ty:TypeId}{pos:String}{aft:Array Edge}{g:Option (Nat×Bool)}{x y m:Operand}{t t' kt et b c:Nat}{v z:Value}{k:List UInt8}{es:List Ent}
def aS9{k:List UInt8}{es:List Ent}:∀ {i:Nat},pT k es i=none→es.any (fun e=>decide (k=e.1))=false:=by
 induction es with
 |nil=>intro i h;rfl
 |cons e es ih=>
  intro i h;unfold pT at h;split at h
  ·cases h
  rename_i hne;rw[List.any_cons,xAJ hne,Bool.false_or];exact ih h
end
end Go.SL
end
section
namespace Go.SL
def aP7{P:Program}{fn:Func}{t1 t2 t3:Tmp}{T1 T3:TypeId}(h:fn.results= #[.cell t1 T1,.tmp t2,.cell t3 T3])(tmps:Array Value)(w:World){a1 a3:Addr}{v1 v2 v3:Value}(e1:tmps.getD t1 undef=.pointer (some a1))(e2:tmps.getD t2 undef=v2)(e3:tmps.getD t3 undef=.pointer (some a3))
  (l1:(loadVar T1 a1).run P w=.ok v1 w) (l3:(loadVar T3 a3).run P w=.ok v3 w):(results fn tmps).run P w=.ok (.tuple #[v1,v2,v3]) w:=by
 have e1:tmps[t1]?.getD undef=.pointer (some a1):=by simpa using e1
 have e3:tmps[t3]?.getD undef=.pointer (some a3):=by simpa using e3
 have e2:tmps[t2]?.getD undef=v2:=by simpa using e2
 simp[results,h,e1,e2,e3,asAddr,Sem.run_bind,Result.andThen,l1,l3]
section
variable{P:Program}{fn:Func}{n:Nat}{w0:World}{F K0 K:Hl}{fr:Fr}{L L1 L2 M:List Asn}{R:Ending→Hl→List Asn→Prop}{x:Exit}{u u':FrameMode}{f:FuncId}{caps:Array Value}{t1 t2 t3:Nat}{T1 T2 T3 b1 b2 b3:Nat}{RD:Ending→Hl→List Asn→Prop}
def bCL(hw:Way x u)(hr:fn.results= #[.cell t1 T1,.tmp t2,.cell t3 T3])(s1:fP P T1=true)(s3:fP P T3=true){v2:Value}(g1:fr.get t1=some (ptr b1))(g2:fr.get t2=some v2)(g3:fr.get t3=some (ptr b3))(hL:Tks L1 L L2)
  (hs:SpD P f caps.toList K L1 u fun e u'' K' L'=>u''=u'∧RD e K' L') (hset:settle u'=.returning)
  (hret:∀e K' L',RD e K' L'→(∃v,e=.returned v)∧(K.le K'→∃v1 v3 M,(∀h,Sat (L'++L2) h→Sat (pt b1 (bL [v1] T1)::pt b3 (bL [v3] T3)::M) h)∧R (.returned (.tuple #[v1,v2,v3])) K' M∧K0.le K')):
  D ⟨P,n,[dfr f caps],w0,F⟩ x fr K L (aBA P fn w0 F K0 R):=fun a w fo i=>by
 refine hw.post (aHC fo i hw.ne hL hs ?_ ?_ ?_)
 ·rintro v u'' K' L' ⟨rfl,hrd⟩ le;refine⟨hset,fun w' j=>?_⟩
  obtain⟨_,h⟩:=hret _ _ _ hrd;obtain⟨v1,v3,M,hsat,hR,le0⟩:=h le;have j2:=j.imp hsat;have c1:=j2.piece;have c2:=(j2.imp (fun h=>iM)).piece;have j3:In w0 F K' M w':=(j2.drop).drop;exact⟨_,aP7 hr a.tmps w' (a1:=⟨b1,0,none⟩) (a3:=⟨b3,0,none⟩) (by simp[fo.get _ _ g1]) (by simp[fo.get _ _ g2]) (by simp[fo.get _ _ g3]) (qB s1 c1 Y) (qB s3 c2 Y),K',M,hR,le0,j3⟩
 ·rintro ch u'' K' L' ⟨_,hrd⟩;obtain⟨⟨v,he⟩,_⟩:=hret _ _ _ hrd;cases he
 rintro u'' K' L' ⟨_,hrd⟩;obtain⟨⟨v,he⟩,_⟩:=hret _ _ _ hrd;cases he
end
end Go.SL
end
section
namespace Go.SL
open Go.MapKept
def mset(k:List UInt8)(v:Value)(c:Nat):List Ent→List Ent
 | []=>[(k,v,c)]
 |e::es=>if k=e.1 then (e.1,v,e.2.2)::es else e::mset k v c es
def aHF(es:List Ent)(k:List UInt8)(c:Nat):Nat:=if (mget es k).isSome=true then c else c+1
def aY5{k:List UInt8}:∀ {es:List Ent} {i:Nat},pT k es i=none→mget es k=none:=by
 intro es i h;have:=y8 k es i;rw[h]at this;exact this.symm
def aY9{k:List UInt8}{v:Value}{c:Nat}:∀ {es:List Ent} {i:Nat},pT k es i=none→mset k v c es=es++[(k,v,c)]:=by
 intro es;induction es with
 |nil=>intro i _;rfl
 |cons e es ih=>
  intro i h;unfold pT at h;split at h
  ·cases h
  rename_i hne;unfold mset;rw[x5 hne,ih h];rfl
def bD0{k:List UInt8}{v:Value}{c:Nat}:∀ {es:List Ent} {i j:Nat} {u:Value},pT k es i=some (j,u)→i≤j∧(∃e,es[j - i]?=some e∧k=e.1)∧
  (es.map ent).modify (j - i) (fun e=>{e with key:=str k,val:=v})=(mset k v c es).map ent:=by
 intro es;induction es with
 |nil=>intro i j u h;cases h
 |cons e es ih=>
  intro i j u h;unfold pT at h;split at h
  ·rename_i he;cases h
   refine⟨xAA _,⟨e,by simp,he⟩,?_⟩
   unfold mset;rw[x7 he,Nat.sub_self]
   simp[List.modify,List.modifyTailIdx,ent,he]
   rfl
  rename_i hne;obtain⟨h1,⟨e',h2,h3⟩,h4⟩:=ih h;have hj:j - i=(j - (i+1))+1:=by omega
  refine⟨by omega,⟨e',by rw[hj];simpa using h2,h3⟩,?_⟩
  rw[hj];unfold mset;rw[x5 hne]
  simp only[List.map_cons,List.modify_succ_cons];rw[h4]
section
variable{E:Env}{fr:Fr}{K:Hl}{L L':List Asn}{Q:Post}{dst:Option Tmp}{ty:TypeId}{pos:String}{aft:Array Edge}{g:Option (Nat×Bool)}{x y m:Operand}{t t' kt et b c:Nat}{v z:Value}{k:List UInt8}{es:List Ent}
def aSM(hm:E.P.underlying t=some (.map kt et))(hk:E.P.underlying kt=some .string)(hz:iK E.P et=some z)(hx:fr.ev x=some (.map (some b)))(hy:fr.ev y=some (str k))(hs:Sees K L b (mapO es c)):
  Ev E fr K L ⟨dst,.lookup t x y false,ty,pos,aft,g⟩ ((mget es k).getD z):=fun a w f j=>by
 simp only[execOp,f.ev hx,f.ev hy];refine fO ?_;have hb:=hs.at j;have h1:(Instr.checkKey (es.map ent).toArray.isEmpty 10000 kt (str k)).run E.P w=.ok () w:=run_checkKey hk (d:=.string) (k:=str k) trivial _ 9999;have h2:=run_findKey (w:=w) (kt:=kt) hk (tR k es 0);have h3:(zeroValue et).run E.P w=.ok z w:=by
  unfold iK at hz;cases hi:E.P.info? et with
  |none=>simp[hi]at hz
  |some inf=>simp[hi]at hz;simp only[zeroValue,typeInfo,program,bind,Sem.bind,pure,Sem.run,hi,hz]
 have h4:=y8 k es 0;unfold Instr.lookup;rw[bJ (run_underlying hm w)];simp only[]
 show ((getObj b)>>=fun _=>_).run E.P w=_
 rw[bJ (MapKept.run_getObj_map hb)];simp only[];rw[bJ (uY _ _),bJ h1]
 show ((Instr.findKey kt (str k) (es.map ent))>>=fun _=>_).run E.P w=_
 rw[bJ h2,←h4];cases pT k es 0 with
 |some p=>rfl
 |none=>
  show ((zeroValue et)>>=fun _=>_).run E.P w=_
  rw[bJ h3];rfl
def bJH{P:Program}{w:World}(hm:P.underlying t=some (.map kt et))(hk:P.underlying kt=some .string)(hb:w.heap[b]?=some (mapO es c)):
  (Instr.mapUpdate t (.map (some b)) (str k) v).run P w=.ok () {w with heap:=w.heap.setIfInBounds b (mapO (mset k v c es) (aHF es k c))}:=by
 cases hf:pT k es 0 with
 |none=>
  rw[xV hm hk hb (aS9 hf),aY9 hf];unfold aHF;rw[aY5 hf];rfl
 |some p=>
  obtain⟨i,u⟩:=p;obtain⟨_,⟨e,he1,he2⟩,he3⟩:=bD0 (v:=v) (c:=c) hf;rw[Nat.sub_zero]at he1 he3;have h1:(Instr.checkKey false 10000 kt (str k)).run P w=.ok () w:=run_checkKey hk (d:=.string) (k:=str k) trivial _ 9999;have h2:=run_findKey (w:=w) (kt:=kt) hk (tR k es 0);have hj:((es.map ent).toArray[i]?)=some (ent e):=by simp[he1]
  have hkk:(ent e).key=str k:=by unfold ent;rw[he2]
  have hst:(Instr.keyThatStays (str k) (str k)).run P w=.ok (str k) w:=MapKept.run_keyThatStays (d:=.string) (k:=str k) trivial;unfold Instr.mapUpdate;rw[bJ (run_underlying hm w)];simp only[]
  show ((getObj b)>>=fun _=>_).run P w=_
  rw[bJ (MapKept.run_getObj_map hb)];simp only[];rw[bJ h1]
  show ((Instr.findKey kt (str k) (es.map ent))>>=fun _=>_).run P w=_
  rw[bJ h2,hf]
  show ((Instr.keyThatStays ((((es.map ent).toArray[i]?).map (·.key)).getD (str k)) (str k))>>=fun _=>_).run P w=_
  rw[hj]
  show ((Instr.keyThatStays (ent e).key (str k))>>=fun _=>_).run P w=_
  rw[hkk,bJ hst]
  show (setObj b _).run P w=_
  rw[MapKept.run_setObj_map _ hb];have e1:((es.map ent).toArray.modify i fun e=>{e with key:=str k,val:=v})=((mset k v c es).map ent).toArray:=by
   rw[←he3];simp[List.modify_toArray]
  have e2:aHF es k c=c:=by unfold aHF;rw[←y8 k es 0,hf];rfl
  rw[e1,e2]
def bOY(hm:E.P.underlying t=some (.map kt et))(hk:E.P.underlying kt=some .string)(hx:fr.ev m=some (.map (some b)))(hy:fr.ev x=some (str k))(hv:fr.ev y=some v)
  (hF:Fnd (pt b (mapO es c)) (pt b (mapO (mset k v c es) (aHF es k c))) L L'):EfS E fr K L ⟨dst,.mapUpdate t m x y,ty,pos,aft,g⟩ (fun _ K' L''=>K'=K∧L''=L'):=by
 intro a w f j;have hb:=j.mem hF;have hr:(execOp a.eval ⟨dst,.mapUpdate t m x y,ty,pos,aft,g⟩).run E.P w=.ok .skip {w with heap:=w.heap.setIfInBounds b (mapO (mset k v c es) (aHF es k c))}:=by
  simp only[execOp,f.ev hx,f.ev hy,f.ev hv];rw[bJ (bJH hm hk hb)];rfl
 have hs:=MapKept.heap_set (o':=mapO (mset k v c es) (aHF es k c)) hb;exact⟨_,_,_,_,.inr ⟨hr,Y⟩,⟨Y,Y⟩,Hl.le_refl _,j.writeAt hF (by simp) hs.1 hs.2⟩
end
end Go.SL
end
section
namespace Go.Proofs
open Go.Shelf
def Tryz.lays119_ren:Go.Shelf.Ren:=⟨fun|119=>267|n=>n,fun|21=>21|4=>4|n=>n,fun|n=>n⟩
def Tryz.lays119 : Go.Proofs.Lays.n119 x3 Tryz.lays119_ren := {
 mixed:=cY
 f119:=Tryz.func267.trans (xAE some cY)
 t4:=Tryz.underlying4
 a4:=Tryz.isAgg4
 z4:=Tryz.sizeOf4
 v4:=Tryz.zeroValue4
 t21:=Tryz.underlying21
 a21:=Tryz.isAgg21
 z21:=Tryz.sizeOf21
 v21:=Tryz.zeroValue21}
def Tryz.utf8_ValidRune(r:Int)(w:World):
  Calls x3 267 #[.int .i32 r] w fun e w'=>e=.returned (.bool (Lib.validRune r))∧w'=w:=Any.utf8_ValidRune Tryz.lays119 r w
def Tryz.lays137_ren:Go.Shelf.Ren:=⟨fun|137=>226|217=>238|266=>251|n=>n,fun|9=>9|5=>5|3=>3|n=>n,fun|n=>n⟩
def Tryz.lays137 : Go.Proofs.Lays.n137 x3 Tryz.lays137_ren := {
 mixed:=cY
 f137:=Tryz.func226.trans (xAE some cY)
 f217:=Tryz.func238.trans (xAE some cY)
 f266:=Tryz.func251.trans (xAE some cY)
 t3:=Tryz.underlying3
 a3:=Tryz.isAgg3
 z3:=Tryz.sizeOf3
 v3:=Tryz.zeroValue3
 t5:=Tryz.underlying5
 a5:=Tryz.isAgg5
 z5:=Tryz.sizeOf5
 v5:=Tryz.zeroValue5
 t9:=Tryz.underlying9
 a9:=Tryz.isAgg9
 z9:=Tryz.sizeOf9
 v9:=Tryz.zeroValue9}
open Go.RowKit in
def Tryz.strings_IndexByte(s:ByteArray)(c:Int)(w:World):
  Calls x3 226 #[.string s,.int .u8 c] w fun e w'=>e=.returned (.int .i64 (Lib.indexByte s.data.toList c.toNat.toUInt8))∧w'=w:=Any.strings_IndexByte Tryz.lays137 s c w
def Tryz.lays144_ren:Go.Shelf.Ren:=⟨fun|144=>223|143=>215|219=>237|217=>238|225=>248|224=>249|267=>250|266=>251|314=>266|n=>n,fun|9=>9|4=>4|3=>3|5=>5|46=>249|146=>318|51=>304|n=>n,fun|1=>1|n=>n⟩
def Tryz.lays144 : Go.Proofs.Lays.n144 x3 Tryz.lays144_ren := {
 mixed:=cY
 f143:=Tryz.func215.trans (xAE some cY)
 f144:=Tryz.func223.trans (xAE some cY)
 f217:=Tryz.func238.trans (xAE some cY)
 f219:=Tryz.func237.trans (xAE some cY)
 f224:=Tryz.func249.trans (xAE some cY)
 f225:=Tryz.func248.trans (xAE some cY)
 f266:=Tryz.func251.trans (xAE some cY)
 f267:=Tryz.func250.trans (xAE some cY)
 f314:=Tryz.func266.trans (xAE some cY)
 t3:=Tryz.underlying3
 a3:=Tryz.isAgg3
 z3:=Tryz.sizeOf3
 v3:=Tryz.zeroValue3
 t4:=Tryz.underlying4
 a4:=Tryz.isAgg4
 z4:=Tryz.sizeOf4
 v4:=Tryz.zeroValue4
 t5:=Tryz.underlying5
 a5:=Tryz.isAgg5
 z5:=Tryz.sizeOf5
 v5:=Tryz.zeroValue5
 t9:=Tryz.underlying9
 a9:=Tryz.isAgg9
 z9:=Tryz.sizeOf9
 v9:=Tryz.zeroValue9
 t46:=Tryz.underlying249
 a46:=Tryz.isAgg249
 z46:=Tryz.sizeOf249
 v46:=Tryz.zeroValue249
 t51:=Tryz.underlying304
 a51:=Tryz.isAgg304
 z51:=Tryz.sizeOf304
 v51:=Tryz.zeroValue304
 t146:=Tryz.underlying318
 a146:=Tryz.isAgg318
 z146:=Tryz.sizeOf318
 v146:=Tryz.zeroValue318
 g1:=by kernel_rfl}
open Go.RowKit Go.Lib in
def Tryz.strings_Contains(s sub:ByteArray)(m:Int)(w:World)(hs:s.size < 4294967281)(hm:w.cell? ⟨1,0,none⟩=some (.int .i64 m)):
  Calls x3 223 #[.string s,.string sub] w fun e w'=>e=.returned (.bool (Lib.contains s.data.toList sub.data.toList))∧w'=w:=Any.strings_Contains Tryz.lays144 s sub m w hs hm
def Tryz.lays145_ren:Go.Shelf.Ren:=⟨fun|145=>229|220=>239|219=>237|217=>238|225=>248|224=>249|267=>250|266=>251|314=>266|n=>n,fun|9=>9|4=>4|59=>348|3=>3|5=>5|46=>249|146=>318|51=>304|n=>n,fun|1=>1|n=>n⟩
def Tryz.lays145 : Go.Proofs.Lays.n145 x3 Tryz.lays145_ren := {
 mixed:=cY
 f145:=Tryz.func229.trans (xAE some cY)
 f217:=Tryz.func238.trans (xAE some cY)
 f219:=Tryz.func237.trans (xAE some cY)
 f220:=Tryz.func239.trans (xAE some cY)
 f224:=Tryz.func249.trans (xAE some cY)
 f225:=Tryz.func248.trans (xAE some cY)
 f266:=Tryz.func251.trans (xAE some cY)
 f267:=Tryz.func250.trans (xAE some cY)
 f314:=Tryz.func266.trans (xAE some cY)
 t3:=Tryz.underlying3
 a3:=Tryz.isAgg3
 z3:=Tryz.sizeOf3
 v3:=Tryz.zeroValue3
 t4:=Tryz.underlying4
 a4:=Tryz.isAgg4
 z4:=Tryz.sizeOf4
 v4:=Tryz.zeroValue4
 t5:=Tryz.underlying5
 a5:=Tryz.isAgg5
 z5:=Tryz.sizeOf5
 v5:=Tryz.zeroValue5
 t9:=Tryz.underlying9
 a9:=Tryz.isAgg9
 z9:=Tryz.sizeOf9
 v9:=Tryz.zeroValue9
 t46:=Tryz.underlying249
 a46:=Tryz.isAgg249
 z46:=Tryz.sizeOf249
 v46:=Tryz.zeroValue249
 t51:=Tryz.underlying304
 a51:=Tryz.isAgg304
 z51:=Tryz.sizeOf304
 v51:=Tryz.zeroValue304
 t59:=Tryz.underlying348
 a59:=Tryz.isAgg348
 z59:=Tryz.sizeOf348
 v59:=Tryz.zeroValue348
 t146:=Tryz.underlying318
 a146:=Tryz.isAgg318
 z146:=Tryz.sizeOf318
 v146:=Tryz.zeroValue318
 g1:=by kernel_rfl}
open Go.RowKit Go.Lib in
def Tryz.strings_Cut(s sep:ByteArray)(m:Int)(w:World)(hs:s.size < 4294967281)(hm:w.cell? ⟨1,0,none⟩=some (.int .i64 m)):
  Calls x3 229 #[.string s,.string sep] w fun e w'=>e=.returned (.tuple #[.string ⟨(Lib.cut s.data.toList sep.data.toList).1.toArray⟩,.string ⟨(Lib.cut s.data.toList sep.data.toList).2.1.toArray⟩,.bool (Lib.cut s.data.toList sep.data.toList).2.2])∧∃n,w'=w.drewN n:=Any.strings_Cut Tryz.lays145 s sep m w hs hm
def Tryz.lays152_ren:Go.Shelf.Ren:=⟨fun|152=>252|137=>226|119=>267|224=>249|225=>248|217=>238|266=>251|n=>n,fun|9=>9|21=>21|3=>3|4=>4|5=>5|0=>0|46=>249|n=>n,fun|n=>n⟩
def Tryz.lays152 : Go.Proofs.Lays.n152 x3 Tryz.lays152_ren := {
 mixed:=cY
 f119:=Tryz.func267.trans (xAE some cY)
 f137:=Tryz.func226.trans (xAE some cY)
 f152:=Tryz.func252.trans (xAE some cY)
 f217:=Tryz.func238.trans (xAE some cY)
 f224:=Tryz.func249.trans (xAE some cY)
 f225:=Tryz.func248.trans (xAE some cY)
 f266:=Tryz.func251.trans (xAE some cY)
 t0:=Tryz.underlying0
 a0:=Tryz.isAgg0
 z0:=Tryz.sizeOf0
 v0:=Tryz.zeroValue0
 t3:=Tryz.underlying3
 a3:=Tryz.isAgg3
 z3:=Tryz.sizeOf3
 v3:=Tryz.zeroValue3
 t4:=Tryz.underlying4
 a4:=Tryz.isAgg4
 z4:=Tryz.sizeOf4
 v4:=Tryz.zeroValue4
 t5:=Tryz.underlying5
 a5:=Tryz.isAgg5
 z5:=Tryz.sizeOf5
 v5:=Tryz.zeroValue5
 t9:=Tryz.underlying9
 a9:=Tryz.isAgg9
 z9:=Tryz.sizeOf9
 v9:=Tryz.zeroValue9
 t21:=Tryz.underlying21
 a21:=Tryz.isAgg21
 z21:=Tryz.sizeOf21
 v21:=Tryz.zeroValue21
 t46:=Tryz.underlying249
 a46:=Tryz.isAgg249
 z46:=Tryz.sizeOf249
 v46:=Tryz.zeroValue249}
open Go.RowKit Go.Lib in
def Tryz.strings_IndexRune_ascii(s:ByteArray)(r:Int)(w:World)(h0:0≤r)(h1:r < 128):
  Calls x3 252 #[.string s,.int .i32 r] w fun e w'=>e=.returned (.int .i64 (Lib.indexByte s.data.toList r.toNat.toUInt8))∧w'=w:=Any.strings_IndexRune_ascii Tryz.lays152 s r w h0 h1
def Tryz.lays226_ren:Go.Shelf.Ren:=⟨fun|226=>253|n=>n,fun|3=>3|4=>4|n=>n,fun|n=>n⟩
def Tryz.lays226 : Go.Proofs.Lays.n226 x3 Tryz.lays226_ren := {
 mixed:=cY
 f226:=Tryz.func253.trans (xAE some cY)
 t3:=Tryz.underlying3
 a3:=Tryz.isAgg3
 z3:=Tryz.sizeOf3
 v3:=Tryz.zeroValue3
 t4:=Tryz.underlying4
 a4:=Tryz.isAgg4
 z4:=Tryz.sizeOf4
 v4:=Tryz.zeroValue4}
open Go.RowKit Go.Lib in
def Tryz.strings_shouldUseASCIISet(n:Int)(w:World):
  Calls x3 253 #[.int .i64 n] w fun e w'=>e=.returned (.bool (decide (8 < n)))∧w'=w:=Any.strings_shouldUseASCIISet Tryz.lays226 n w
def Tryz.lays153_ren:Go.Shelf.Ren:=⟨fun|153=>240|152=>252|226=>253|227=>254|228=>255|137=>226|119=>267|224=>249|225=>248|217=>238|266=>251|n=>n,fun|9=>9|3=>3|4=>4|5=>5|21=>21|117=>375|116=>374|0=>0|46=>249|124=>398|n=>n,fun|n=>n⟩
def Tryz.lays153 : Go.Proofs.Lays.n153 x3 Tryz.lays153_ren := {
 mixed:=cY
 f119:=Tryz.func267.trans (xAE some cY)
 f137:=Tryz.func226.trans (xAE some cY)
 f152:=Tryz.func252.trans (xAE some cY)
 f153:=Tryz.func240.trans (xAE some cY)
 f217:=Tryz.func238.trans (xAE some cY)
 f224:=Tryz.func249.trans (xAE some cY)
 f225:=Tryz.func248.trans (xAE some cY)
 f226:=Tryz.func253.trans (xAE some cY)
 f227:=Tryz.func254.trans (xAE some cY)
 f228:=Tryz.func255.trans (xAE some cY)
 f266:=Tryz.func251.trans (xAE some cY)
 t0:=Tryz.underlying0
 a0:=Tryz.isAgg0
 z0:=Tryz.sizeOf0
 v0:=Tryz.zeroValue0
 t3:=Tryz.underlying3
 a3:=Tryz.isAgg3
 z3:=Tryz.sizeOf3
 v3:=Tryz.zeroValue3
 t4:=Tryz.underlying4
 a4:=Tryz.isAgg4
 z4:=Tryz.sizeOf4
 v4:=Tryz.zeroValue4
 t5:=Tryz.underlying5
 a5:=Tryz.isAgg5
 z5:=Tryz.sizeOf5
 v5:=Tryz.zeroValue5
 t9:=Tryz.underlying9
 a9:=Tryz.isAgg9
 z9:=Tryz.sizeOf9
 v9:=Tryz.zeroValue9
 t21:=Tryz.underlying21
 a21:=Tryz.isAgg21
 z21:=Tryz.sizeOf21
 v21:=Tryz.zeroValue21
 t46:=Tryz.underlying249
 a46:=Tryz.isAgg249
 z46:=Tryz.sizeOf249
 v46:=Tryz.zeroValue249
 t116:=Tryz.underlying374
 a116:=Tryz.isAgg374
 z116:=Tryz.sizeOf374
 t117:=Tryz.underlying375
 a117:=Tryz.isAgg375
 z117:=Tryz.sizeOf375
 v117:=Tryz.zeroValue375
 t124:=Tryz.underlying398
 a124:=Tryz.isAgg398
 z124:=Tryz.sizeOf398
 v124:=Tryz.zeroValue398}
open Go.RowKit Go.Lib in
def Tryz.strings_IndexAny_long(hv116:∀w,(zeroValue 374).run x3 w=.ok (.agg (Array.replicate 256 (.bool false))) w)(s chars:ByteArray)(w:World)(h2:2≤chars.size)(h8:8 < s.size)(hs:s.size < 4294967281)(hcs:chars.size < 4294967281)(hascii:∀(j:Nat) b,chars.data.toList[j]?=some b→b.toNat < 128):
  Calls x3 240 #[.string s,.string chars] w fun e w'=>e=.returned (.int .i64 (Lib.indexAny s.data.toList chars.data.toList))∧w'=((w.alloc (.cells (Lib.setCells chars.data.toList) 374)).alloc (.cells (Lib.setCells chars.data.toList) 374)):=Any.strings_IndexAny_long Tryz.lays153 hv116 cY s chars w h2 h8 hs hcs hascii
end Go.Proofs
end

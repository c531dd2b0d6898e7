/-
  What the proof stands on, part 34: the logic of walks, the walks through the functions, the plain laws. Conditions: as each theorem says. (Merged and shortened by a program.)
-/
import Derived.Test.YthopmddkpdehiaaGreatDoorK19
import Derived.Test.YthopmddkpdehiaaGreatDoorK33
set_option linter.unusedVariables false
set_option linter.unusedSimpArgs false
set_option maxRecDepth 4000
set_option maxHeartbeats 1000000
section
attribute [local irreducible] Go.SL.T Go.SL.OL Go.SL.D Go.SL.DL Go.SL.Ev Go.SL.Ef Go.SL.EfS
namespace Go.Proofs
open Go Go.SL Go.Syn Go.Box
abbrev errV(n:Int):Value:=.iface 30 (i64 n)
def erV:Er→Value
 |none=>.nilIface
 |some n=>errV n
abbrev dskO(m1 m2 pv:Value)(l f:Int)(dn:Bool):Obj:=aZ [m1,m2,pv,i64 l,i64 f,.bool dn] 110
theorem yC(b:Nat)(m1 m2 pv:Value)(l f:Int)(dn:Bool)(K:Hl):Sp Tryz.prog 405 [ptr b] K [pt b (dskO m1 m2 pv l f dn)] (Ret fun v K' L'=>v=erV (fX l f dn).1∧K'=K∧L'=[pt b (dskO m1 m2 pv (fX l f dn).2.1 (fX l f dn).2.2.1 (fX l f dn).2.2.2)]):=by
 refine a8 Tryz.func405 rfl Tryz.ntmps405 rfl rfl fun F w=>?_;cases dn with
 |true=>
  refine zz11 ?_;refine uBq ?_;refine zz15 ?_;refine uAn ?_;rintro _ K _ ⟨rfl,rfl⟩ -;refine zz4 ?_;refine aA (cY Tryz.underlying30 (fun _ h=>by cases h) rfl) rfl ?_;refine zz5 ?_;refine uAa ?_;refine zz1 ?_;have e:fX l f true=(some 16,l,f,true):=by unfold fX;rw[if_pos (.inl rfl)]
  rw[e];exact⟨_,rfl,rfl,rfl,rfl⟩
 |false=>
  refine zz11 ?_;refine uBq ?_;refine zz14 ?_;refine bK 13 rfl (fun h13=>?_) (fun h13=>?_)
  ·refine zz5 ?_;refine uAn ?_;rintro _ K _ ⟨rfl,rfl⟩ -;refine zz4 ?_;refine aA (cY Tryz.underlying30 (fun _ h=>by cases h) rfl) rfl ?_;refine zz5 ?_;refine uAa ?_;refine zz1 ?_;have e:fX l f false=(some 16,l,f,true):=by unfold fX;rw[if_pos (.inr cB)]
   rw[e];exact⟨_,rfl,rfl,rfl,rfl⟩
  refine zz8 ?_;refine aA (aD4 rfl rfl) rfl ?_;refine zz2 ?_;refine cA (bP ts3 rfl rfl cJ bF (.succ (.succ (.succ .zero))) rfl) ?_;rintro _ K _ ⟨rfl,rfl⟩ -;refine zz12 ?_;refine bK 29 rfl (fun h29=>?_) (fun h29=>?_)
  ·refine zz5 ?_;refine uBc ?_;rintro _ K _ ⟨rfl,rfl⟩ -;refine zz4 ?_;refine aA (cY Tryz.underlying30 (fun _ h=>by cases h) rfl) rfl ?_;refine zz5 ?_;refine uAa ?_;refine zz1 ?_;have e:fX l f false=(some 15,IntKind.i64.wrap (l - 1),-1,false):=by unfold fX;rw[if_neg (by rintro(h|h);cases h;contradiction),if_pos cB]
   rw[e];exact⟨_,rfl,rfl,rfl,rfl⟩
  refine zz8 ?_;refine aA (aD4 rfl rfl) rfl ?_;refine zz2 ?_;refine uBc ?_;rintro _ K _ ⟨rfl,rfl⟩ -;refine zz8 ?_;refine uAa ?_;refine zz1 ?_;have e:fX l f false=(none,IntKind.i64.wrap (l - 1),IntKind.i64.wrap (f - 1),false):=by unfold fX;rw[if_neg (by rintro(h|h);cases h;contradiction),if_neg cB]
  rw[e];exact⟨_,rfl,rfl,rfl,rfl⟩
def yM(K:Hl)(v:Value)(d:aJ):Prop:=∃b T fz,v=ptr b∧K b=some (aZ [str d] T fz)
theorem yM.mono{K K':Hl}{v:Value}{d:aJ}(h:yM K v d)(le:K.le K'):yM K' v d:=let ⟨b,T,fz,e,h⟩:=h;⟨b,T,fz,e,le _ _ h⟩
abbrev opV(o:OpR):Value:=.agg #[i64 o.kind,str o.name,str o.to,str o.data]
theorem bBH(m:Nat)(es:List Ent)(c:Nat)(name to data:aJ)(K:Hl):Sp Tryz.prog 81 [.map (some m),opV ⟨1,name,to,data⟩] K [pt m (mapO es c)]
  (Ret fun v K' L'=>v=.tuple #[]∧∃u,yM K' u data∧L'=[pt m (mapO (mset name u c es) (yE es name c))]):=by
 refine a8 Tryz.func81 rfl Tryz.ntmps81 rfl rfl fun F w=>?_;refine zz3 ?_;rintro _ K _ ⟨b3,rfl,rfl,rfl⟩ -;refine zz21 ?_;rintro _ K _ ⟨b4,rfl,rfl,rfl⟩ -;refine uAy ?_;rintro _ K _ ⟨rfl,rfl⟩ -;refine zz3 ?_;refine fT fun K2 le2 hb4=>?_;refine zz3 ?_;refine cA (bAH Tryz.underlying107 Tryz.underlying9 rfl rfl rfl bF) ?_;rintro _ K _ ⟨rfl,rfl⟩ -;refine zz2 ?_;refine uAv ?_;refine dK rfl le2 ?_;exact⟨_,rfl,rfl,_,⟨_,_,_,rfl,hb4⟩,rfl⟩
theorem bBI(m:Nat)(es:List Ent)(c:Nat)(name to data:aJ)(K:Hl):Sp Tryz.prog 81 [.map (some m),opV ⟨3,name,to,data⟩] K [pt m (mapO es c)]
  (Ret fun v K' L'=>v=.tuple #[]∧K'=K∧L'=[pt m (mapO (mdel name es) c)]):=by
 refine a8 Tryz.func81 rfl Tryz.ntmps81 rfl rfl fun F w=>?_;refine zz3 ?_;rintro _ K _ ⟨b3,rfl,rfl,rfl⟩ -;refine zz34 ?_;refine cA (bJ2 rfl Tryz.underlying107 Tryz.underlying9 rfl rfl bF) ?_;rintro _ K _ ⟨rfl,rfl,rfl⟩ -;refine zz2 ?_;refine uAv ?_;refine zz1 ?_;exact⟨_,rfl,rfl,rfl,rfl⟩
structure MapOk (K:Hl) (es:List Ent) (c:Nat) (f:DMap):Prop where
 fresh:Fresh es c
 nd:(es.map (·.1)).Nodup
 has:∀n v,mget es n=some v→∃d,f n=some d∧yM K v d
 lacks:∀n,mget es n=none→f n=none
theorem MapOk.mono{K K':Hl}{es:List Ent}{c:Nat}{f:DMap}(h:MapOk K es c f)(le:K.le K'):MapOk K' es c f:=
 ⟨h.fresh,h.nd,fun n v e=>let ⟨d,h1,h2⟩:=h.has n v e;⟨d,h1,h2.mono le⟩,h.lacks⟩
theorem MapOk.nil{K:Hl}:MapOk K [] 0 (fun _=>none):=⟨Fresh.nil,List.nodup_nil,fun n v e=>by simp[mget]at e,fun n _=>rfl⟩
theorem MapOk.put{K:Hl}{es:List Ent}{c:Nat}{f:DMap}{n d:aJ}{u:Value}(h:MapOk K es c f)(hu:yM K u d):MapOk K (mset n u c es) (yE es n c) (f.put n d):=by
 refine⟨h.fresh.set,aTC h.nd,fun j v e=>?_,fun j e=>?_⟩ <;> rw[aF4]at e <;> unfold DMap.put <;> split at e
 ·rename_i hj;cases e;rw[if_pos hj];exact⟨d,rfl,hu⟩
 ·rename_i hj;rw[if_neg hj];exact h.has j v e
 ·cases e
 rename_i hj;rw[if_neg hj];exact h.lacks j e
theorem MapOk.cut{K:Hl}{es:List Ent}{c:Nat}{f:DMap}{n:aJ}(h:MapOk K es c f):MapOk K (mdel n es) c (f.cut n):=by
 refine⟨h.fresh.del,bH9 h.nd,fun j v e=>?_,fun j e=>?_⟩ <;> rw[aNV h.nd]at e <;> unfold DMap.cut <;> split at e
 ·cases e
 ·rename_i hj;rw[if_neg hj];exact h.has j v e
 ·rename_i hj;rw[if_pos hj]
 rename_i hj;rw[if_neg hj];exact h.lacks j e
theorem MapOk.isSome{K:Hl}{es:List Ent}{c:Nat}{f:DMap}(h:MapOk K es c f)(n:aJ):(mget es n).isSome=(f n).isSome:=by
 cases e:mget es n with
 |none=>rw[h.lacks n e];rfl
 |some v=>obtain⟨d,h1,_⟩:=h.has n v e;rw[h1];rfl
def OpOk(o:OpR):Prop:=o.kind=1∨o.kind=3
theorem yV(m:Nat)(es:List Ent)(c:Nat)(f:DMap)(o:OpR)(ho:OpOk o)(K:Hl)(hm:MapOk K es c f):Sp Tryz.prog 81 [.map (some m),opV o] K [pt m (mapO es c)]
  (Ret fun v K' L'=>v=.tuple #[]∧∃es' c',MapOk K' es' c' (doF f o)∧L'=[pt m (mapO es' c')]):=by
 obtain⟨k,n,t,d⟩:=o;rcases ho with h|h <;> (simp only at h;subst h)
 ·refine bPQ (bBH m es c n t d K) ?_;rintro e K' L' le ⟨v,rfl,rfl,u,hu,rfl⟩;exact⟨_,rfl,rfl,_,_,(hm.mono le).put hu,rfl⟩
 refine bPQ (bBI m es c n t d K) ?_;rintro e K' L' le ⟨v,rfl,rfl,rfl,rfl⟩;exact⟨_,rfl,rfl,_,_,hm.cut,rfl⟩
def oD:El OpR:={e:=165,sz:=4,enc:=fun o=>[i64 o.kind,str o.name,str o.to,str o.data],len:=fun _=>rfl,one:=fun _ u h=>by simp at h;rcases h with rfl|rfl|rfl|rfl <;> rfl}
abbrev dskL(b m1 m2:Nat)(es1:List Ent)(c1:Nat)(es2:List Ent)(c2:Nat)(pv:Value)(s:DSt):List Asn:=
 [pt b (dskO (.map (some m1)) (.map (some m2)) pv s.left s.full s.down),pt m1 (mapO es1 c1),pt m2 (mapO es2 c2),sl false oD pv s.pend]
def pT(K:Hl)(b:Nat)(s:DSt)(L:List Asn):Prop:=∃m1 m2 es1 c1 es2 c2 pv,MapOk K es1 c1 s.dur∧MapOk K es2 c2 s.now∧(∀o∈s.pend,OpOk o)∧pv.oneCell'=true∧L=dskL b m1 m2 es1 c1 es2 c2 pv s
theorem pT.mono{K K':Hl}{b:Nat}{s:DSt}{L:List Asn}(h:pT K b s L)(le:K.le K'):pT K' b s L:=
 let ⟨m1,m2,es1,c1,es2,c2,pv,h1,h2,h3,h4,h5⟩:=h
 ⟨m1,m2,es1,c1,es2,c2,pv,h1.mono le,h2.mono le,h3,h4,h5⟩
theorem bEV(b:Nat)(s:DSt)(o:OpR)(ho:OpOk o)(hp:s.pend.length≤1000000)(K:Hl)(L:List Asn)(hd:pT K b s L):Sp Tryz.prog 404 [ptr b,opV o] K L
  (Ret fun v K' L'=>v=erV (gP o s).1∧pT K' b (gP o s).2 L'):=by
 obtain⟨m1,m2,es1,c1,es2,c2,pv,hm1,hm2,hop,hpv,rfl⟩:=hd;obtain⟨dur,now,pend,l,f,dn⟩:=s;obtain⟨k,n,t,d⟩:=o;simp only at hm1 hm2 hop hp;refine a8 Tryz.func404 rfl Tryz.ntmps404 rfl rfl fun F w=>?_;refine zz3 ?_;rintro _ K _ ⟨b3,rfl,rfl,rfl⟩ -;refine zz7 ?_;refine aX rfl rfl (yC b _ _ pv l f dn _) (.cons (.there .here) .nil) rfl ?_;rintro _ K _ ⟨rfl,rfl,rfl⟩ -;refine zz3 ?_;rcases hw:fX l f dn with ⟨_|e,l2,f2,dn2⟩
 ·refine zz9 ?_;cases hg:mget es2 n
  ·refine zz2 ?_;refine dD (anc:=[0,1,3,7,0,16,63,127,255,255,511,2047]) (ord:=[0,1,2,3,4,5,6,7,8,9,10,11]) [] [] mixed gAH (dI _) ?_;refine zz6 ?_;refine aK rfl rfl (.none rfl) rfl rfl (s5 Tryz.underlying107 Tryz.underlying9 aO2 rfl rfl aM hg) rfl ?_;refine zz21 ?_;refine bK 29 rfl (fun h29=>?_) (fun h29=>?_)
   ·refine zz2 ?_;refine aA (cY Tryz.underlying30 (fun _ h=>by cases h) rfl) rfl ?_;refine zz5 ?_;refine aU (.cons .here (.cons (.there .here) (.cons (.there .here) (.cons (.there .here) .nil)))) ?_;refine bD rfl rfl gA8 ?_;rw[bKY (s:=⟨dur,now,pend,l,f,dn⟩) hw (hm2.lacks _ hg) h29];exact⟨_,rfl,rfl,m1,m2,es1,c1,es2,c2,pv,hm1,hm2,hop,hpv,rfl⟩
   refine zz7 ?_;refine aA (vJ (bZ rfl rfl) (by show ¬k=2;rcases ho with h|h <;> simp only at h <;> omega)) rfl ?_;refine zz13 ?_;refine dD (anc:=[0,1,3,7,0,31]) (ord:=[0,1,2,3,4,5]) [5] [5] mixed gAH (dI _) ?_;refine zz5 ?_;refine iJ rfl (.none rfl) rfl rfl rfl (yV m2 es2 c2 now ⟨k,n,t,d⟩ ho _ hm2) (.cons (.there (.there (.there .here))) .nil) rfl ?_;rintro _ K1 _ ⟨rfl,es3,c3,hm3,rfl⟩ le1;refine zz3 ?_;refine dD (anc:=[0,0,2,6,14,0,32,126,255,511,1023]) (ord:=[0,1,2,3,4,5,6,7,8,9,10]) [6,7,10] [10] mixed gAH (.cons (.there .here) (.cons (.there .here) .nil)) ?_;refine zz6 ?_;refine sY rfl rfl (.none rfl) rfl rfl (bH (z0:=[.int .i64 0,(str []),(str []),(str [])]) rR aO3 rfl rfl rfl rfl (.cons rfl rfl rfl (.cons (.cons (.cons (.cons .nil)))) .nil)) rfl ?_;rintro _ K _ ⟨b53,rfl,rfl,rfl⟩ -;refine⟨_,(show Tks _ _ _ from (.cons (.there .here) (.cons (.there .here) .nil))).sat,?_⟩
   refine sY rfl rfl (.none rfl) rfl rfl (dN (k:=oD) (ys:=[(⟨k,n,t,d⟩:OpR)]) t8 rfl rfl (.there (.there (.there (.there (.there .here))))) (fun w j=>dE Tryz.underlying108 (SeesSl.at (k:=oD) (.blk (.own (.there (.there .here))) rfl rfl) j)) (by show (pend.length+1)*56≤140737488355328;omega) (by show pend.length+1≤9223372036854775807;omega)) rfl ?_;rintro v54 K _ ⟨rfl,rfl,ho54⟩ -;refine⟨_,(show Tks _ _ _ from (.cons (.there .here) (.cons (.there .here) .nil))).sat,?_⟩
   refine zz2 ?_;refine uBm ?_;rintro _ K _ ⟨rfl,rfl⟩ -;refine zz8 ?_;refine uBp ?_;refine bD rfl rfl gA8 ?_;rw[aE9 (s:=⟨dur,now,pend,l,f,dn⟩) hw gBM];exact⟨_,rfl,rfl,m1,m2,es1,c1,es3,c3,v54,hm1.mono le1,hm3,fun o h=>by rcases List.mem_append.1 h with h|h;exact hop o h;rw[List.mem_singleton.1 h];exact ho,ho54,rfl⟩
  refine zz2 ?_;refine dD (anc:=[0,1,3,7,0,16,63,127,255,255,511,2047]) (ord:=[0,1,2,3,4,5,6,7,8,9,10,11]) [] [] mixed gAH (dI _) ?_;refine zz6 ?_;refine aK rfl rfl (.none rfl) rfl rfl (xA Tryz.underlying107 Tryz.underlying9 aO2 rfl rfl aM hg) rfl ?_;refine zz26 ?_;refine aA (vJ (bZ rfl rfl) (by show ¬k=2;rcases ho with h|h <;> simp only at h <;> omega)) rfl ?_;refine zz13 ?_;refine dD (anc:=[0,1,3,7,0,31]) (ord:=[0,1,2,3,4,5]) [5] [5] mixed gAH (dI _) ?_;refine zz5 ?_;refine iJ rfl (.none rfl) rfl rfl rfl (yV m2 es2 c2 now ⟨k,n,t,d⟩ ho _ hm2) (.cons (.there (.there (.there .here))) .nil) rfl ?_;rintro _ K1 _ ⟨rfl,es3,c3,hm3,rfl⟩ le1;refine zz3 ?_;refine dD (anc:=[0,0,2,6,14,0,32,126,255,511,1023]) (ord:=[0,1,2,3,4,5,6,7,8,9,10]) [6,7,10] [10] mixed gAH (.cons (.there .here) (.cons (.there .here) .nil)) ?_;refine zz6 ?_;refine sY rfl rfl (.none rfl) rfl rfl (bH (z0:=[.int .i64 0,(str []),(str []),(str [])]) rR aO3 rfl rfl rfl rfl (.cons rfl rfl rfl (.cons (.cons (.cons (.cons .nil)))) .nil)) rfl ?_;rintro _ K _ ⟨b53,rfl,rfl,rfl⟩ -;refine⟨_,(show Tks _ _ _ from (.cons (.there .here) (.cons (.there .here) .nil))).sat,?_⟩
  refine sY rfl rfl (.none rfl) rfl rfl (dN (k:=oD) (ys:=[(⟨k,n,t,d⟩:OpR)]) t8 rfl rfl (.there (.there (.there (.there (.there .here))))) (fun w j=>dE Tryz.underlying108 (SeesSl.at (k:=oD) (.blk (.own (.there (.there .here))) rfl rfl) j)) (by show (pend.length+1)*56≤140737488355328;omega) (by show pend.length+1≤9223372036854775807;omega)) rfl ?_;rintro v54 K _ ⟨rfl,rfl,ho54⟩ -;refine⟨_,(show Tks _ _ _ from (.cons (.there .here) (.cons (.there .here) .nil))).sat,?_⟩
  refine zz2 ?_;refine uBm ?_;rintro _ K _ ⟨rfl,rfl⟩ -;refine zz8 ?_;refine uBp ?_;refine bD rfl rfl gA8 ?_;rw[aE9 (s:=⟨dur,now,pend,l,f,dn⟩) hw gBM];exact⟨_,rfl,rfl,m1,m2,es1,c1,es3,c3,v54,hm1.mono le1,hm3,fun o h=>by rcases List.mem_append.1 h with h|h;exact hop o h;rw[List.mem_singleton.1 h];exact ho,ho54,rfl⟩
 refine zz15 ?_;refine aU (.cons .here (.cons (.there .here) (.cons (.there .here) (.cons (.there .here) .nil)))) ?_;refine bD rfl rfl gA8 ?_;rw[bEU (s:=⟨dur,now,pend,l,f,dn⟩) hw];exact⟨_,rfl,rfl,m1,m2,es1,c1,es2,c2,pv,hm1,hm2,hop,hpv,rfl⟩
def dsk(K:Hl)(b:Nat)(s:DSt):Asn:=fun h=>∃L,pT K b s L∧Sat L h
theorem lW{K K':Hl}{b:Nat}{s:DSt}(le:K.le K'):∀h,dsk K b s h→dsk K' b s h:=fun h ⟨L,hd,hs⟩=>⟨L,hd.mono le,hs⟩
theorem rI{K:Hl}{b:Nat}{s:DSt}{L M:List Asn}(hd:pT K b s L):∀h,Sat (L++M) h→Sat (dsk K b s::M) h:=fun h hs=>
 let ⟨x,y,hx,hy,hj,e⟩:=gE.1 hs;⟨x,y,⟨L,hd,hx⟩,hy,hj,e⟩
theorem pH{K:Hl}{b:Nat}{s:DSt}{L:List Asn}(hd:pT K b s L):∀h,Sat L h→Sat [dsk K b s] h:=fun h hs=>rI (M:=[]) hd h (by rwa [List.append_nil])
theorem bNZ{K:Hl}{b:Nat}{s:DSt}{M:List Asn}{h:Hl}:Sat (dsk K b s::M) h→∃L,pT K b s L∧Sat (L++M) h:=fun⟨x,y,⟨L,hd,hx⟩,hy,hj,e⟩=>⟨L,hd,gE.2 ⟨x,y,hx,hy,hj,e⟩⟩
theorem In.dsk{w0 w:World}{F K K0:Hl}{b:Nat}{s:DSt}{M:List Asn}(i:In w0 F K (dsk K0 b s::M) w):∃L,pT K0 b s L∧In w0 F K (L++M) w:=
 let ⟨h,hs,r⟩:=i.rep;let ⟨L,hd,hs2⟩:=bNZ hs;⟨L,hd,i.os,i.tape,i.output,i.size,h,hs2,r⟩
section
variable{E:Env}{fr:Fr}{K K0:Hl}{M:List Asn}{Q:Post}{b:Nat}{s:DSt}
attribute [local semireducible] Go.SL.T Go.SL.OL Go.SL.D Go.SL.DL Go.SL.Ev Go.SL.Ef Go.SL.EfS in
theorem aLP{c:Code}(h:∀L,pT K0 b s L→T E c fr K (L++M) Q):T E c fr K (dsk K0 b s::M) Q:=fun a w f i=>let ⟨L,hd,j⟩:=In.dsk i;h L hd a w f j
attribute [local semireducible] Go.SL.T Go.SL.OL Go.SL.D Go.SL.DL Go.SL.Ev Go.SL.Ef Go.SL.EfS in
theorem bIZ{ops:Array Oper}{l:List Oper}(h:∀L,pT K0 b s L→OL E ops l fr K (L++M) Q):OL E ops l fr K (dsk K0 b s::M) Q:=fun a w f i=>let ⟨L,hd,j⟩:=In.dsk i;h L hd a w f j
theorem aLL{P:Program}{f:FuncId}{args:List Value}{R:Ending→Hl→List Asn→Prop}(hb:∃fn,P.funcs[f]?=some fn∧(fn.name== "runtime.NumGoroutine")=false∧fn.body.isSome=true)
  (h:∀L,pT K0 b s L→Sp P f args K (L++M) R):Sp P f args K (dsk K0 b s::M) R:=
 ⟨hb,fun F w i=>let ⟨L,hd,j⟩:=In.dsk i;(h L hd).2 F w j⟩
end
theorem bAP(b:Nat)(s:DSt)(o:OpR)(ho:OpOk o)(hp:s.pend.length≤1000000)(K K0:Hl)(le:K0.le K):Sp Tryz.prog 404 [ptr b,opV o] K [dsk K0 b s]
  (Ret fun v K' L'=>v=erV (gP o s).1∧L'=[dsk K' b (gP o s).2]):=by
 refine aLL ⟨_,Tryz.func404,rfl,rfl⟩ fun L hd=>?_;rw[List.append_nil];refine bOA (bEV b s o ho hp K L (hd.mono le)) ?_;rintro e K' L' ⟨v,rfl,rfl,hd2⟩;exact⟨_,pH hd2,_,rfl,rfl,rfl⟩
theorem aOA(b:Nat)(s:DSt)(n:aJ)(hp:s.pend.length≤1000000)(K K0:Hl)(le:K0.le K):Sp Tryz.prog 401 [ptr b,str n] K [dsk K0 b s]
  (Ret fun v K' L'=>v=erV (eV n s).1∧L'=[dsk K' b (eV n s).2]):=by
 refine a8 Tryz.func401 rfl Tryz.ntmps401 rfl rfl fun F w=>?_;refine zz9 ?_;refine aA (cL bPV bKT (.cons rfl rfl rfl (.cons .nil) (.cons rfl rfl rfl (.skip (.cons .nil)) .nil))) rfl ?_;refine aX rfl rfl (bAP b s ⟨3,n,[],[]⟩ (.inr rfl) hp _ _ le) (.cons .here .nil) rfl ?_;rintro _ K1 _ ⟨rfl,rfl⟩ le1;refine zz4 ?_;refine uAa ?_;refine bD rfl rfl cB ?_;exact⟨_,rfl,rfl,rfl⟩
theorem aZN{x y:Operand}(e:Er)(n:Int){w:World}:(eqGuard .eql 79 x y (erV e) (errV n)).run Tryz.prog w=.ok () w:=by cases e <;> rfl
theorem aZO(e:Er)(n:Int)(w:World):(binOp .eql 79 (erV e) (errV n)).run Tryz.prog w=.ok (.bool (decide (e=some n))) w:=by
 cases e with
 |none=>show (binOp .eql 79 .nilIface (.iface 30 (i64 n))).run Tryz.prog w=_;rw[decide_eq_false (by simp)];kernel_rfl
 |some m=>
  have h:(binOp .eql 79 (.iface 30 (i64 m)) (.iface 30 (i64 n))).run Tryz.prog w=.ok (.bool (decide (m=n))) w:=by kernel_rfl
  show (binOp .eql 79 (.iface 30 (i64 m)) (.iface 30 (i64 n))).run Tryz.prog w=_
  rw[h];simp
def bang(i:Nat)(xs:aJ):aJ:=List.replicate i 33++xs.drop i
theorem bFU{i:Nat}{xs:aJ}(h:i≤xs.length):(bang i xs).length=xs.length:=by simp[bang];omega
theorem bFV{i:Nat}{xs:aJ}(h:i < xs.length):(bang i xs).set i 33=bang (i+1) xs:=by
 unfold bang;rw[List.set_append_right _ _ (by simp),List.length_replicate,Nat.sub_self,List.drop_eq_getElem_cons h,List.set_cons_zero,List.replicate_succ',List.append_assoc];rfl
theorem bLO(b:Nat)(s:DSt)(n xs:aJ)(v:Value)(z:Bool)(hp:s.pend.length≤900000)(hxl:xs.length≤140737488355328)(K K0:Hl)(le:K0.le K):Sp Tryz.prog 403 [ptr b,str n,v] K [dsk K0 b s,sl z (elB 5) v xs]
  (Ret fun r K' L'=>r=erV (fC n xs s).1∧L'=[dsk K' b (fC n xs s).2]):=by
 refine a8 Tryz.func403 rfl Tryz.ntmps403 rfl rfl fun F w=>?_;have hpt:(gP ⟨1,n,[],xs⟩ s).2.pend.length≤1000000:=by have:=aC4 ⟨1,n,[],xs⟩ s;omega
 refine zz9 ?_;refine aA (lD Tryz.underlying130 Tryz.underlying5 Tryz.underlying9 rfl (.own (.there .here))) rfl ?_;refine aA (cL bPV bKT (.cons rfl rfl rfl (.cons .nil) (.cons rfl rfl rfl (.skip (.cons .nil)) (.cons rfl rfl rfl (.skip (.skip (.skip (.cons .nil)))) .nil)))) rfl ?_;refine zz1 ?_;rintro _ K _ ⟨b7,rfl,rfl,rfl⟩ -;refine cA (cK nA rfl rfl rfl bF gAA (.cons (.cons (.cons (.cons .nil)))) gAJ) ?_;rintro _ K _ ⟨rfl,rfl⟩ -;refine zz6 ?_;refine aX rfl rfl (bAP b s ⟨1,n,[],xs⟩ (.inl rfl) aI _ _ le) (.cons (.there .here) .nil) rfl ?_;rintro _ K1 _ ⟨rfl,rfl⟩ le1;refine zz3 ?_;refine gV (fun(_:Unit)=>True) (fun _=>[(2,v),(8,erV (gP ⟨1,n,[],xs⟩ s).1)]) (fun _=>K1) (fun _=>[sl z (elB 5) v xs,dsk K1 b (fC n xs s).2]) ?_ ?_
 ·refine zz3 ?_;refine aA (cY Tryz.underlying30 (fun _ h=>by cases h) rfl) rfl ?_;refine aA (vD rfl rfl (fun _=>aZN _ _) (fun w=>aZO _ _ w)) rfl ?_;refine zz2 ?_;refine bK 19 rfl (fun h19=>?_) (fun h19=>?_)
  ·refine aLP fun L2 hd2=>?_;obtain⟨m1,m2,es1,c1,es2,c2,pv,hm1,hm2,hop,hpv,rfl⟩:=hd2
   generalize hs1:(gP ⟨1,n,[],xs⟩ s).2=s1 at hm1 hm2 hop hpt ⊢
   refine dD (anc:=[0,0,2,6,14,0,32,126,255,511,1023]) (ord:=[0,1,2,3,4,5,6,7,8,9,10]) [6,7,10] [10] mixed gAH (.cons .here (.cons (.there (.there (.there .here))) .nil)) ?_;refine zz6 ?_;refine sY rfl rfl (.none rfl) rfl rfl (bH (z0:=[.int .i64 0,(str []),(str []),(str [])]) rR aO3 rfl rfl rfl rfl (.cons rfl rfl rfl (.cons (.cons (.cons (.cons .nil)))) .nil)) rfl ?_;rintro _ K _ ⟨b26,rfl,rfl,rfl⟩ -;refine⟨_,(show Tks _ _ _ from (.cons (.there .here) (.cons (.there .here) .nil))).sat,?_⟩
   refine sY rfl rfl (.none rfl) rfl rfl (dN (k:=oD) (ys:=[(⟨1,n,[],xs⟩:OpR)]) t8 rfl rfl (.there (.there (.there (.there (.there .here))))) (fun w j=>dE Tryz.underlying108 (SeesSl.at (k:=oD) (.blk (.own (.there (.there .here))) rfl rfl) j)) (by show (s1.pend.length+1)*56≤140737488355328;omega) (by show s1.pend.length+1≤9223372036854775807;omega)) rfl ?_;rintro v27 K _ ⟨rfl,rfl,ho27⟩ -;refine⟨_,(show Tks _ _ _ from (.cons (.there .here) (.cons (.there .here) .nil))).sat,?_⟩
   refine zz2 ?_;refine uBm ?_;rintro _ K _ ⟨rfl,rfl⟩ -;refine cO ?_
   first|(rw[aBT h19,hs1];refine aU (.cons .here (.cons (.there (.there (.there .here))) (.cons (.there (.there (.there .here))) (.cons (.there .here) (.cons (.there (.there .here)) .nil))))) ?_;refine fK (rI (s:=s1.add ⟨1,n,[],xs⟩) (L:=[_,_,_,_]) ⟨m1,m2,es1,c1,es2,c2,v27,hm1,hm2,fun o h=>by rcases List.mem_append.1 h with h|h;exact hop o h;rw[List.mem_singleton.1 h];exact .inl rfl,ho27,rfl⟩) ?_;exact cN () trivial (.cons 2 rfl (.cons 8 rfl .nil)) rfl (fun _ h=>fL h))|(rw[aBS h19];refine aU (.cons .here (.cons (.there .here) .nil)) ?_;exact cN () trivial (.cons 2 rfl (.cons 8 rfl .nil)) rfl (fun _ h=>fL h))
  refine aW ?_
  first|(rw[aBT h19,hs1];refine aU (.cons .here (.cons (.there (.there (.there .here))) (.cons (.there (.there (.there .here))) (.cons (.there .here) (.cons (.there (.there .here)) .nil))))) ?_;refine fK (rI (s:=s1.add ⟨1,n,[],xs⟩) (L:=[_,_,_,_]) ⟨m1,m2,es1,c1,es2,c2,v27,hm1,hm2,fun o h=>by rcases List.mem_append.1 h with h|h;exact hop o h;rw[List.mem_singleton.1 h];exact .inl rfl,ho27,rfl⟩) ?_;exact cN () trivial (.cons 2 rfl (.cons 8 rfl .nil)) rfl (fun _ h=>fL h))|(rw[aBS h19];refine aU (.cons .here (.cons (.there .here) .nil)) ?_;exact cN () trivial (.cons 2 rfl (.cons 8 rfl .nil)) rfl (fun _ h=>fL h))
 intro _ _;refine zz4 ?_;refine uAw ?_;refine zz4 ?_;refine eJ (fun(i:Nat)=>i≤xs.length) (fun i=>[(2,v),(8,erV (gP ⟨1,n,[],xs⟩ s).1),(31,i64 xs.length),(32,i64 i)]) (fun _=>K1) (fun i=>[sl z (elB 5) v (bang i xs),dsk K1 b (fC n xs s).2]) (fun i=>xs.length - i) 0 (Nat.zero_le _) (.cons 2 rfl (.cons 8 rfl (.cons 31 rfl (.cons 32 rfl .nil)))) rfl (fun _ h=>h) ?_;intro i hi;refine zz6 ?_;refine bK 33 rfl (fun h33=>?_) (fun h33=>?_)
 ·have hbl:=bFU (i:=i) (xs:=xs) hi;have hlt:i < (bang i xs).length:=by omega
  refine zz13 ?_;refine aA (bE (k:=(elB 5)) kR rfl aM rfl rfl gAD) rfl ?_;refine cA (vU (k:=(elB 5)) (y0:=33) ts5 rfl rfl rfl rfl gAD bF) ?_;rintro _ K _ ⟨rfl,rfl⟩ -;refine zz7 ?_;rw[bFV (hbl▸hlt)];exact dF (i+1) aI aI (.cons 2 rfl (.cons 8 rfl (.cons 31 rfl (.cons 32 rfl .nil)))) rfl (fun _ h=>h)
 have hie:i=xs.length:=by omega
 refine zz12 ?_;refine uAv ?_;refine bD rfl rfl le1 ?_;exact⟨_,rfl,by rw[bLN],rfl⟩
theorem bAD(b:Nat)(s:DSt)(n:aJ)(K K0:Hl)(le:K0.le K):Sp Tryz.prog 400 [ptr b,str n] K [dsk K0 b s]
  (Ret fun r K' L'=>∃v,r=.tuple #[v,erV (r6 n s).2]∧L'=[sl false (elB 5) v (r6 n s).1,dsk K' b s]):=by
 refine aLL ⟨_,Tryz.func400,rfl,rfl⟩ fun L hd=>?_;rw[List.append_nil];obtain⟨m1,m2,es1,c1,es2,c2,pv,hm1,hm2,hop,hpv,rfl⟩:=hd;obtain⟨dur,now,pend,l,f,dn⟩:=s;simp only at hm1 hm2 hop;have hd0:pT K b ⟨dur,now,pend,l,f,dn⟩ (dskL b m1 m2 es1 c1 es2 c2 pv ⟨dur,now,pend,l,f,dn⟩):=⟨m1,m2,es1,c1,es2,c2,pv,hm1.mono le,hm2.mono le,hop,hpv,rfl⟩;refine a8 Tryz.func400 rfl Tryz.ntmps400 rfl rfl fun F w=>?_;cases dn with
 |true=>
  refine zz12 ?_;refine uBq ?_;refine zz5 ?_;refine aA (cY Tryz.underlying30 (fun _ h=>by cases h) rfl) rfl ?_;refine zz6 ?_;refine fK (pH hd0) ?_;refine fK (eF (elB 5)) ?_;refine fA rfl rfl rfl (Hl.le_refl _) ?_;exact⟨_,rfl,_,rfl,rfl⟩
 |false=>
  cases hg:mget es2 n with
  |none=>
   have e:r6 n ⟨dur,now,pend,l,f,false⟩=([],some 14):=by simp[r6,hm2.lacks _ hg]
   rw[e];refine zz12 ?_;refine uBq ?_;refine zz12 ?_;refine aA (s5 Tryz.underlying107 Tryz.underlying9 aO2 rfl rfl aM hg) rfl ?_;refine zz17 ?_;refine aA (cY Tryz.underlying30 (fun _ h=>by cases h) rfl) rfl ?_;refine zz6 ?_;refine fK (pH hd0) ?_;refine fK (eF (elB 5)) ?_;refine fA rfl rfl rfl (Hl.le_refl _) ?_;exact⟨_,rfl,_,rfl,rfl⟩
  |some u=>
   obtain⟨d,hnd,bs,T,fz,rfl,hbs⟩:=hm2.has _ _ hg;have hbs2:=le _ _ hbs;have e:r6 n ⟨dur,now,pend,l,f,false⟩=(d,none):=by simp[r6,hnd]
   rw[e];refine zz12 ?_;refine uBq ?_;refine zz12 ?_;refine aA (xA Tryz.underlying107 Tryz.underlying9 aO2 rfl rfl aM hg) rfl ?_;refine zz21 ?_;refine aA (aL ts9 rfl (.known hbs2) rfl) rfl ?_;refine uAi ?_;rintro v28 K _ ⟨rfl,rfl⟩ -;refine zz5 ?_;refine fK (fun _=>fE (pH hd0)) ?_;refine fA rfl rfl rfl (Hl.le_refl _) ?_;exact⟨_,rfl,_,rfl,rfl⟩
theorem aQ8(b:Nat)(s:DSt)(hpl:s.pend.length≤1000000)(K K0:Hl)(le:K0.le K):Sp Tryz.prog 402 [ptr b] K [dsk K0 b s]
  (Ret fun r K' L'=>r=erV (d6 s).1∧L'=[dsk K' b (d6 s).2]):=by
 refine aLL ⟨_,Tryz.func402,rfl,rfl⟩ fun L hd=>?_;rw[List.append_nil];obtain⟨m1,m2,es1,c1,es2,c2,pv,hm1,hm2,hop,hpv,rfl⟩:=hd;obtain⟨dur,now,pend,l,f,dn⟩:=s;simp only at hm1 hm2 hop hpl;refine a8 Tryz.func402 rfl Tryz.ntmps402 rfl rfl fun F w=>?_;rcases hw:fX l f dn with ⟨_|e,l2,f2,dn2⟩
 ·have e:d6 ⟨dur,now,pend,l,f,dn⟩=(none,⟨pend.foldl doF dur,now,[],l2,f2,dn2⟩):=by simp[d6,DSt.we,DSt.ws,hw,DSt.flush]
  rw[e];refine zz9 ?_;refine aX rfl rfl (yC b _ _ pv l f dn _) (.cons .here .nil) rfl ?_;rintro _ K _ ⟨rfl,rfl,rfl⟩ -;rw[hw];refine zz19 ?_;refine aA (bO (k:=oD) rfl Tryz.underlying108 rfl aM) rfl ?_;refine zz4 ?_;refine n8 (fun(i:Nat) (K2:Hl) (es:List Ent) (c:Nat)=>i≤pend.length∧K.le K2∧MapOk K2 es c ((pend.take i).foldl doF dur)) (fun i _ _ _=>[(0,ptr b),(14,pv),(15,i64 pend.length),(16,i64 i)]) (fun _ K2 _ _=>K2) (fun _ _ es c=>[pt b (dskO (.map (some m1)) (.map (some m2)) pv l2 f2 dn2),pt m1 (mapO es c),pt m2 (mapO es2 c2),sl false oD pv pend]) (fun i _ _ _=>pend.length - i) 0 K es1 c1 ⟨Nat.zero_le _,Hl.le_refl _,hm1.mono le⟩ (.cons 0 rfl (.cons 14 rfl (.cons 15 rfl (.cons 16 rfl .nil)))) rfl (fun _ h=>h) ?_;intro i K2 es c ⟨hi,leL,hmi⟩;refine zz6 ?_;refine bK 17 rfl (fun h17=>?_) (fun h17=>?_)
  ·have hlt:i < pend.length:=by omega
   obtain⟨o,hx⟩:∃o,pend[i]?=some o:=⟨pend[i]'hlt,List.getElem?_eq_getElem hlt⟩;have hoo:=hop o (List.mem_of_getElem? hx);refine zz6 ?_;refine aA (bE (k:=oD) rR rfl aM rfl rfl gAD) rfl ?_;refine aA (dC (n:=0) (k:=oD) nA rfl aM cB) rfl ?_;refine zz1 ?_;rintro _ K _ ⟨b5,rfl,rfl,rfl⟩ -;refine cA (cK nA rfl rfl rfl bF gAA (.cons (.cons (.cons (.cons .nil)))) gAJ) ?_;rintro _ K _ ⟨rfl,rfl⟩ -;refine zz2 ?_;refine dD (anc:=[0,1,3,7,0,31]) (ord:=[0,1,2,3,4,5]) [5] [5] mixed gAH (dI _) ?_;refine zz5 ?_;refine iJ rfl (.none rfl) rfl rfl rfl (yV m1 es c _ o hoo _ hmi) (.cons (.there (.there .here)) .nil) rfl ?_;rintro _ K3 _ ⟨rfl,es3,c3,hm3,rfl⟩ le3;refine zz7 ?_;refine aU (.cons (.there (.there .here)) (.cons .here (.cons (.there .here) (.cons (.there .here) .nil)))) ?_;exact gS (i+1) _ es3 c3 ⟨hlt,Hl.le_trans leL le3,by rw[List.take_succ_eq_append_getElem hlt,List.foldl_append];rw[List.getElem?_eq_getElem hlt]at hx;cases hx;exact hm3⟩ aI (.cons 0 rfl (.cons 14 rfl (.cons 15 rfl (.cons 16 rfl .nil)))) rfl (fun _ h=>h)
  have hie:i=pend.length:=by omega
  subst hie;rw[List.take_length]at hmi;refine zz10 ?_;refine cA (bP aAH rfl rfl cJ bF (.succ (.succ .zero)) rfl) ?_;rintro _ K _ ⟨rfl,rfl⟩ -;refine zz8 ?_;refine uAq ?_;refine fK (eF oD) ?_;refine aU (.cons (.there .here) (.cons (.there .here) (.cons (.there .here) (.cons .here .nil)))) ?_;refine fK (pH (s:=⟨pend.foldl doF dur,now,[],l2,f2,dn2⟩) ⟨m1,m2,es,c,es2,c2,_,hmi,(hm2.mono le).mono leL,(fun o h=>by cases h),rfl,rfl⟩) ?_;refine bD rfl rfl leL ?_;exact⟨_,rfl,rfl,rfl⟩
 have e:d6 ⟨dur,now,pend,l,f,dn⟩=(some e,⟨dur,now,pend,l2,f2,dn2⟩):=by simp[d6,DSt.we,DSt.ws,hw]
 rw[e];refine zz9 ?_;refine aX rfl rfl (yC b _ _ pv l f dn _) (.cons .here .nil) rfl ?_;rintro _ K _ ⟨rfl,rfl,rfl⟩ -;rw[hw];refine zz18 ?_;refine fK (pH (s:=⟨dur,now,pend,l2,f2,dn2⟩) ⟨m1,m2,es1,c1,es2,c2,pv,hm1.mono le,hm2.mono le,hop,hpv,rfl⟩) ?_;refine zz1 ?_;exact⟨_,rfl,rfl,rfl⟩
theorem bV0{h:Nat}{c:UInt8}(hh:h < 18446744073709551616):IntKind.u64.wrap (BitVec.ofInt 64 (h:Int)^^^BitVec.ofInt 64 (c.toNat:Int)).toNat=((h^^^c.toNat:Nat):Int):=by
 have hc:=c.toNat_lt;have e:(BitVec.ofInt 64 (h:Int)^^^BitVec.ofInt 64 (c.toNat:Int)).toNat=h^^^c.toNat:=by
  rw[BitVec.toNat_xor,BitVec.ofInt_natCast,BitVec.ofInt_natCast,BitVec.toNat_ofNat,BitVec.toNat_ofNat,Nat.mod_eq_of_lt aI,Nat.mod_eq_of_lt aI]
 rw[e];have:h^^^c.toNat < 2 ^ 64:=Nat.xor_lt_two_pow aI aI;unfold IntKind.wrap IntKind.bits IntKind.signed;simp only[Bool.false_and];simp;omega
theorem bTM{m:Nat}:IntKind.u64.wrap ((m:Int)*1099511628211)=((m*1099511628211 % 18446744073709551616:Nat):Int):=by
 unfold IntKind.wrap IntKind.bits IntKind.signed;simp only[Bool.false_and];simp
theorem bNF{h:Nat}{c:UInt8}:IntKind.u64.wrap (((h^^^c.toNat:Nat):Int)*1099511628211)=((sH h c:Nat):Int):=by unfold sH;exact bTM
theorem bOC{h:Nat}{c:UInt8}:sH h c < 18446744073709551616:=by unfold sH;exact Nat.mod_lt _ aI
theorem aGL(s:aJ)(hs:s.length≤140737488355328)(K:Hl):Sp Tryz.prog 226 [str s] K [] (Val (.int .u64 (sumC s)) K):=by
 refine a8 Tryz.func226 rfl Tryz.ntmps226 rfl rfl fun F w=>?_;refine zz14 ?_;refine uAi ?_;rintro v7 K _ ⟨rfl,rfl⟩ -;refine uAw ?_;refine zz4 ?_;refine rC (fun(i h:Nat)=>i≤s.length∧h < 18446744073709551616∧h=(s.take i).foldl sH 14695981039346656037) (fun i h=>[(3,.int .u64 h),(7,v7),(8,i64 s.length),(9,i64 i)]) (fun _ _=>K) (fun _ _=>[sl false (elB 5) v7 s]) (fun i _=>s.length - i) 0 14695981039346656037 ⟨Nat.zero_le _,by omega,by rw[List.take_zero];exact List.foldl_nil.symm⟩ (.cons 3 rfl (.cons 7 rfl (.cons 8 rfl (.cons 9 rfl .nil)))) rfl (fun _ h=>h) ?_;intro i h ⟨hi,hst,hh⟩;refine zz6 ?_;refine bK 10 rfl (fun h10=>?_) (fun h10=>?_)
 ·have hlt:i < s.length:=by omega
  obtain⟨c,hx⟩:∃c,s[i]?=some c:=⟨s[i]'hlt,List.getElem?_eq_getElem hlt⟩;refine zz6 ?_;refine aA (bE (k:=(elB 5)) kR rfl aM rfl rfl gAD) rfl ?_;refine uBb ?_;refine zz6 ?_;refine aA (gN (v:=.int .u64 (c.toNat:Int)) (kO Tryz.underlying345 Tryz.underlying5 rfl) (by have:=c.toNat_lt;unfold IntKind.wrap IntKind.bits IntKind.signed;simp only[Bool.false_and];simp;omega)) rfl ?_;refine aA (gN (v:=.int .u64 ((h^^^c.toNat:Nat):Int)) (bMN rfl rfl) (congrArg (Value.int .u64) (bV0 hst))) rfl ?_;refine aA (gN (v:=.int .u64 ((sH h c:Nat):Int)) (aPR rfl rfl) (congrArg (Value.int .u64) bNF)) rfl ?_;refine zz8 ?_;refine fR (i+1) (sH h c) ⟨by omega,bOC,?_⟩ aI (.cons 3 rfl (.cons 7 rfl (.cons 8 rfl (.cons 9 rfl .nil)))) rfl (fun _ h=>h)
  rw[List.take_succ_eq_append_getElem hlt,List.foldl_append,←hh];rw[List.getElem?_eq_getElem hlt]at hx;cases hx;rw[List.foldl_cons,List.foldl_nil]
 have hie:i=s.length:=by omega
 subst hie;rw[List.take_length,←bAL]at hh;subst hh;refine zz12 ?_;refine uAl ?_;refine zz1 ?_;exact⟨rfl,rfl,rfl⟩
theorem bDG(v:Value)(xs:List File)(K:Hl)(hv:Ksl cD K v xs)(hg:Glob K)(hd:Deb K)(hb:(bodyC xs).length≤1000000000)(hn:xs.length≤100):Sp Tryz.prog 132 [v] K [] (Val (str (gJ xs)) K):=by
 refine a8 Tryz.func132 rfl Tryz.ntmps132 rfl rfl fun F w=>?_;refine zz8 ?_;rintro _ K _ ⟨b3,rfl,rfl,rfl⟩ -;refine zz6 ?_;refine aA (bO (k:=cD) rfl Tryz.underlying62 rfl (.known hv)) rfl ?_;refine zz4 ?_;refine kF (fH (aFI b3)) ?_;refine eJ (fun(i:Nat)=>i≤xs.length) (fun i=>[(3,ptr b3),(7,v),(8,i64 xs.length),(9,i64 i)]) (fun _=>K) (fun i=>[bldr b3 (bodyC (xs.take i))]) (fun i=>xs.length - i) 0 (Nat.zero_le _) (.cons 3 rfl (.cons 7 rfl (.cons 8 rfl (.cons 9 rfl .nil)))) rfl (fun _ h=>h) ?_;intro i hi;refine zz6 ?_;refine bK 10 rfl (fun h10=>?_) (fun h10=>?_)
 ·have hlt:i < xs.length:=by omega
  obtain⟨o,hx⟩:∃o,xs[i]?=some o:=⟨xs[i]'hlt,List.getElem?_eq_getElem hlt⟩;have hel:=yZ (List.mem_of_getElem? hx);have hbt:=aDJ xs i;have hbt2:=aDJ xs (i+1);rw[aMX hx,List.length_append]at hbt2;have hel2:(entryC o).length=o.1.length+1+(Lib.itoa o.2.length).length+1+o.2.length:=by simp[entryC];omega
  refine zz6 ?_;refine aA (bE (k:=cD) eK rfl (.known hv) rfl rfl gAD) rfl ?_;refine aA (dC (n:=0) (k:=cD) kD rfl (.known hv) cB) rfl ?_;refine zz1 ?_;rintro _ K _ ⟨b5,rfl,rfl,rfl⟩ -;refine cA (cK kD rfl rfl rfl bF gAA (.cons (.cons .nil)) gAJ) ?_;rintro _ K _ ⟨rfl,rfl⟩ -;refine zz2 ?_;refine dD (anc:=[0,1,3,0,8,24,56,127,255,0,512,2047,4095]) (ord:=[0,1,2,3,4,5,9,10,6,7,8,11,12]) [6,12] [12] mixed gAH (.cons .here .nil) ?_;refine zz2 ?_;refine aK rfl rfl (.none rfl) rfl rfl (cW rfl rfl gAE) rfl ?_;refine zz5 ?_;refine lC rfl (.none rfl) rfl rfl rfl rfl (qO _ aI aI _ hg) rfl ?_;refine aK rfl rfl (.none rfl) rfl rfl (cW rfl rfl gAE) rfl ?_;refine aK rfl rfl (.none rfl) rfl rfl (cW rfl rfl gAE) rfl ?_;refine aK rfl rfl (.none rfl) rfl rfl (cW rfl rfl gAE) rfl ?_;refine iJ rfl (.none rfl) rfl rfl rfl (mE b3 (entryC o) _ aI _) (.cons (.there .here) .nil) rfl ?_;rintro _ K _ ⟨rfl,rfl,rfl⟩ -;refine zz7 ?_;refine uAa ?_;refine dF (i+1) aI aI (.cons 3 rfl (.cons 7 rfl (.cons 8 rfl (.cons 9 rfl .nil)))) rfl (fun _ h=>by rw[aMX hx];exact h)
 have hie:i=xs.length:=by omega
 subst hie;rw[List.take_length];have hil:=Lib.itoa_length_le ((bodyC xs).length:Int) aI aI;have hxl:=aEC (aC3 (bodyC xs));refine zz7 ?_;refine aX rfl rfl (pU b3 _ aI _) (.cons .here .nil) rfl ?_;rintro _ K _ ⟨rfl,rfl,rfl⟩ -;refine zz7 ?_;refine cF rfl rfl (qO _ aI aI _ hg) rfl ?_;refine aA (cW rfl rfl gAP) rfl ?_;refine zz1 ?_;refine cF rfl rfl (aGL _ aI _) rfl ?_;refine cF rfl rfl (aP6 _ (aC3 _) _ hd) rfl ?_;refine aA (cW rfl rfl gAS) rfl ?_;refine aA (cW rfl rfl gAS) rfl ?_;refine zz1 ?_;refine aA (cW rfl rfl gAS) rfl ?_;refine zz4 ?_;refine uAl ?_;refine zz1 ?_;exact⟨rfl,rfl,rfl⟩
abbrev dV(b:Nat):Value:=.iface 103 (ptr b)
theorem bQ9(b:Nat)(w:World):(Go.method (Tryz.prog.types.size+Made.depth) 103 (ptr b) "Write").run Tryz.prog w=.ok (403,ptr b) w:=by kernel_rfl
theorem aZ6(b:Nat)(w:World):(Go.method (Tryz.prog.types.size+Made.depth) 103 (ptr b) "Remove").run Tryz.prog w=.ok (401,ptr b) w:=by kernel_rfl
theorem bIH(b:Nat)(w:World):(Go.method (Tryz.prog.types.size+Made.depth) 103 (ptr b) "Sync").run Tryz.prog w=.ok (402,ptr b) w:=by kernel_rfl
theorem bPM(b:Nat)(w:World):(Go.method (Tryz.prog.types.size+Made.depth) 103 (ptr b) "Read").run Tryz.prog w=.ok (400,ptr b) w:=by kernel_rfl
def Clo(N:Nat)(K:Hl)(b:Nat)(fv:Value)(g:DSt→Er×DSt):Prop:=∃f vs,aDB Tryz.prog fv f vs∧∀(K1 K0:Hl) (s:DSt),K.le K1→K0.le K1→s.pend.length≤N→
 Sp Tryz.prog f vs K1 [dsk K0 b s] (Ret fun v K' L'=>v=erV (g s).1∧L'=[dsk K' b (g s).2])∧(g s).2.pend.length≤s.pend.length+200
theorem Clo.weak{N N':Nat}{K:Hl}{b:Nat}{fv:Value}{g:DSt→Er×DSt}(h:Clo N K b fv g)(hN:N'≤N):Clo N' K b fv g:=let ⟨f,vs,h1,h2⟩:=h;⟨f,vs,h1,fun K1 K0 s le1 le0 hp=>h2 K1 K0 s le1 le0 aI⟩
theorem Clo.mono{N:Nat}{K K':Hl}{b:Nat}{fv:Value}{g:DSt→Er×DSt}(h:Clo N K b fv g)(le:K.le K'):Clo N K' b fv g:=let ⟨f,vs,h1,h2⟩:=h;⟨f,vs,h1,fun K1 K0 s le1 le0 hp=>h2 K1 K0 s (Hl.le_trans le le1) le0 hp⟩
theorem aDN(K:Hl)(b:Nat):Clo 800000 K b (.func (.method "Sync") #[dV b] #[]) d6:=
 ⟨_,_,aSN (bIH b) ⟨_,Tryz.func402,rfl,rfl⟩,fun K1 K0 s _ le0 hp=>⟨aQ8 b s aI K1 K0 le0,by have:=pE s;omega⟩⟩
theorem bFK(b bd bf:Nat)(n d:aJ)(s:DSt)(K K0:Hl)(le:K0.le K)(T1 T2:TypeId)(z1 z2:Nat×Nat)(h1:K bd=some (aZ [dV b] T1 z1))(h2:K bf=some (aZ [str n,str d] T2 z2))(hd:d.length≤140737488355328)(hp:s.pend.length≤900000):
  Sp Tryz.prog 224 [ptr bd,ptr bf] K [dsk K0 b s] (Ret fun v K' L'=>v=erV (fC n d s).1∧L'=[dsk K' b (fC n d s).2]):=by
 refine a8 Tryz.func224 rfl Tryz.ntmps224 rfl rfl fun F w=>?_;refine zz12 ?_;refine uAi ?_;rintro v8 K _ ⟨rfl,rfl⟩ -;refine jA rfl rfl (bQ9 b) (bLO b s n d v8 false hp hd _ _ le) (.cons (.there .here) (.cons .here .nil)) rfl ?_;rintro _ K1 _ ⟨rfl,rfl⟩ le1;refine zz4 ?_;refine uAa ?_;refine bD rfl rfl le1 ?_;exact⟨_,rfl,rfl,rfl⟩
theorem aOM(b:Nat)(n d:aJ)(hd:d.length≤140737488355328)(K:Hl):Sp Tryz.prog 131 [dV b,.agg #[str n,str d]] K [] (Ret fun v K' L'=>L'=[]∧∃x y,v=.func (.func 224) #[] #[ptr x,ptr y]∧Clo 800000 K' b v (fC n d)):=by
 refine a8 Tryz.func131 rfl Tryz.ntmps131 rfl rfl fun F w=>?_;refine zz3 ?_;rintro _ K _ ⟨b2,rfl,rfl,rfl⟩ -;refine zz1 ?_;rintro _ K _ ⟨b3,rfl,rfl,rfl⟩ -;refine zz4 ?_;refine l8 fun K1 le1 hb3=>?_;refine l8 fun K2 le2 hb2=>?_;refine zz6 ?_;refine uAl ?_;refine bD rfl rfl (Hl.le_trans le1 le2) ?_;exact⟨_,rfl,rfl,_,_,rfl,_,_,wW ⟨_,Tryz.func224,rfl,rfl⟩,fun K3 K0 s le3 le0 hp=>⟨bFK b b2 b3 n d s K3 K0 le0 _ _ _ _ (le3 _ _ hb2) (le3 _ _ (le2 _ _ hb3)) hd aI,by have:=u9 n d s;omega⟩⟩
theorem uV(g:DSt→Er×DSt)(gs:List (DSt→Er×DSt))(s:DSt):dZ (g::gs) s=if (g s).1.isSome=true then g s else dZ gs (g s).2:=rfl
theorem bKP(N b:Nat)(v:Value)(cs:List Cell)(gs:List (DSt→Er×DSt))(s:DSt)(K K0:Hl)(le:K0.le K)(hv:Ksl (e7 247) K v cs)(hl:gs.length=cs.length)(hc:∀(i:Nat) (c:Cell) (g:DSt→Er×DSt),cs[i]?=some c→gs[i]?=some g→Clo N K b c.1 g)(hp:s.pend.length+200*cs.length≤N)(hcl:cs.length≤100):
  Sp Tryz.prog 130 [v] K [dsk K0 b s] (Ret fun r K' L'=>r=erV (dZ gs s).1∧L'=[dsk K' b (dZ gs s).2]):=by
 refine a8 Tryz.func130 rfl Tryz.ntmps130 rfl rfl fun F w=>?_;refine zz9 ?_;refine aA (bO (k:=e7 247) rfl Tryz.underlying342 rfl (.known hv)) rfl ?_;refine zz4 ?_;refine kF (fH (lW le)) ?_;refine n7 (fun(i:Nat) (K2:Hl) (s2:DSt)=>i≤cs.length∧K.le K2∧s2.pend.length≤s.pend.length+200*i∧dZ gs s=dZ (gs.drop i) s2) (fun i _ _=>[(6,v),(7,i64 cs.length),(8,i64 i)]) (fun _ K2 _=>K2) (fun _ K2 s2=>[dsk K2 b s2]) (fun i _ _=>cs.length - i) 0 K s ⟨Nat.zero_le _,Hl.le_refl _,Nat.le_refl _,rfl⟩ (.cons 6 rfl (.cons 7 rfl (.cons 8 rfl .nil))) rfl (fun _ h=>h) ?_;intro i K2 s2 ⟨hi,leL,hp2,hx⟩;refine zz6 ?_;refine bK 9 rfl (fun h9=>?_) (fun h9=>?_)
 ·have hlt:i < cs.length:=by omega
  obtain⟨c,hcc⟩:∃c,cs[i]?=some c:=⟨cs[i]'hlt,List.getElem?_eq_getElem hlt⟩;obtain⟨g,hg⟩:∃g,gs[i]?=some g:=⟨gs[i]'(by omega),List.getElem?_eq_getElem aI⟩;obtain⟨f,vs,hen,hsp⟩:=hc i c g hcc hg;obtain⟨hs1,hs2⟩:=hsp K2 K2 s2 leL (Hl.le_refl _) aI;have hv2:=hv.mono leL;refine zz6 ?_;refine aA (bE (k:=e7 247) uZ rfl (.known hv2) rfl rfl gAD) rfl ?_;refine aA (dP (o:=0) (k:=e7 247) bUZ rfl (.known hv2) hcc rfl) rfl ?_;refine zz6 ?_;refine aKV rfl hen hs1 (.cons .here .nil) rfl ?_;rintro _ K3 _ ⟨rfl,rfl⟩ le3;refine zz3 ?_;rcases hr:g s2 with ⟨_|e,s3⟩
  ·refine zz14 ?_;exact iU (i+1) K3 s3 ⟨by omega,Hl.le_trans leL le3,by have:=hs2;rw[hr]at this;simp only at this;omega,by rw[hx,kK hg,uV,hr];rfl⟩ aI (.cons 6 rfl (.cons 7 rfl (.cons 8 rfl .nil))) rfl (fun _ h=>h)
  refine zz19 ?_;refine bD rfl rfl (Hl.le_trans leL le3) ?_;have hy:dZ gs s=(some e,s3):=(by rw[hx,kK hg,uV,hr];rfl);rw[hy];exact⟨_,rfl,rfl,rfl⟩
 have hie:i=cs.length:=by omega
 subst hie;rw[List.drop_of_length_le aI]at hx;rw[hx];refine zz11 ?_;refine bD rfl rfl leL ?_;exact⟨_,rfl,rfl,rfl⟩
theorem aGK{P:Program}{f:FuncId}{args:List Value}{K:Hl}{b:Nat}{o:Obj}{L:List Asn}{R:Ending→Hl→List Asn→Prop}(hb:∃fn,P.funcs[f]?=some fn∧(fn.name== "runtime.NumGoroutine")=false∧fn.body.isSome=true)
  (h:∀K',K.le K'→K' b=some o→Sp P f args K' L R):Sp P f args K (pt b o::L) R:=
 ⟨hb, fun F w i => by
  obtain⟨h1,h2,h3⟩:=i.settle;exact((h _ h1 h2).2 F w h3).mono fun e w' ⟨K',L',r,le,j⟩=>⟨K',L',r,Hl.le_trans h1 le,j⟩⟩
theorem aSA(e:TypeId):∀cs:List Cell,(e7 e).cs cs=cs.map (·.1)
 | []=>rfl
 |a::r=>congrArg (a.1:: ·) (aSA e r)
theorem aGM(N b bs:Nat)(cs:List Cell)(gs:List (DSt→Er×DSt))(s:DSt)(K K0:Hl)(le:K0.le K)(fz:Nat×Nat)(hl:gs.length=cs.length)(hc:∀(i:Nat) (c:Cell) (g:DSt→Er×DSt),cs[i]?=some c→gs[i]?=some g→Clo N K b c.1 g)(hp:s.pend.length+200*cs.length≤N)(hcl:cs.length≤100):
  Sp Tryz.prog 130 [.slice (some ⟨bs,0,none⟩) cs.length cs.length] K [pt bs (aZ (cs.map (·.1)) 247 fz),dsk K0 b s] (Ret fun r K' L'=>r=erV (dZ gs s).1∧L'=[dsk K' b (dZ gs s).2]):=by
 refine aGK ⟨_,Tryz.func130,rfl,rfl⟩ fun K' le' hk=>?_;refine bKP N b _ cs gs s K' K0 (Hl.le_trans le le') (.inr ⟨bs,0,cs.length,_,fz,rfl,⟨_,hk⟩,?_⟩) hl (fun i c g h1 h2=>(hc i c g h1 h2).mono le') hp hcl
 rw[aSA];exact List.take_of_length_le (by simp[e7])
theorem bMO(b bd:Nat)(s:DSt)(K K0:Hl)(le:K0.le K)(T1:TypeId)(z1:Nat×Nat)(h1:K bd=some (aZ [dV b] T1 z1))(hp:s.pend.length≤900000):
  Sp Tryz.prog 227 [ptr bd] K [dsk K0 b s] (Ret fun v K' L'=>v=erV (eV bM s).1∧L'=[dsk K' b (eV bM s).2]):=by
 refine a8 Tryz.func227 rfl Tryz.ntmps227 rfl rfl fun F w=>?_;refine zz8 ?_;refine jA rfl rfl (aZ6 b) (aOA b s bM aI _ _ le) (.cons .here .nil) rfl ?_;rintro _ K1 _ ⟨rfl,rfl⟩ le1;refine zz4 ?_;refine uAa ?_;refine bD rfl rfl le1 ?_;exact⟨_,rfl,rfl,rfl⟩
theorem bL2(K:Hl)(b bd:Nat)(T1:TypeId)(z1:Nat×Nat)(h1:K bd=some (aZ [dV b] T1 z1)):Clo 800000 K b (.func (.func 227) #[] #[ptr bd]) (eV bM):=
 ⟨_,_,wW ⟨_,Tryz.func227,rfl,rfl⟩,fun K1 K0 s le1 le0 hp=>⟨bMO b bd s K1 K0 le0 _ _ (le1 _ _ h1) aI,by have:=sE bM s;omega⟩⟩
theorem bPH{N:Nat}{K:Hl}{b:Nat}{v1 v2 v3:Cell}{g1 g2 g3:DSt→Er×DSt}(h1:Clo N K b v1.1 g1)(h2:Clo N K b v2.1 g2)(h3:Clo N K b v3.1 g3):∀(i:Nat) (c:Cell) (g:DSt→Er×DSt),[v1,v2,v3][i]?=some c→[g1,g2,g3][i]?=some g→Clo N K b c.1 g
 |0,c,g,e1,e2=>by cases e1;cases e2;exact h1
 |1,c,g,e1,e2=>by cases e1;cases e2;exact h2
 |2,c,g,e1,e2=>by cases e1;cases e2;exact h3
 |i+3,c,g,e1,_=>by simp at e1
theorem bQC{xs:List File}{i:Nat}{f:File}(h:xs[i]?=some f)(t:List (DSt→Er×DSt)):(gB xs++t).drop i=fC f.1 f.2::(gB xs++t).drop (i+1):=by
 refine kK ?_;rw[List.getElem?_append_left (by have:=jF h;simpa[gB]using this)];simp[gB,h]
theorem aNF(b:Nat)(v:Value)(xs:List File)(s:DSt)(K K0:Hl)(le:K0.le K)(hv:Ksl cD K v xs)(hn:xs.length≤100)(hd:∀f∈xs,f.2.length≤140737488355328)(hp:s.pend.length≤700000):
  Sp Tryz.prog 134 [dV b,v] K [dsk K0 b s] (Ret fun r K' L'=>r=erV (iM xs s).1∧L'=[dsk K' b (iM xs s).2]):=by
 refine a8 Tryz.func134 rfl Tryz.ntmps134 rfl rfl fun F w=>?_;refine zz3 ?_;rintro _ K _ ⟨b2,rfl,rfl,rfl⟩ -;refine zz5 ?_;refine l8 fun K1 le1 hb2=>?_;have hv1:=hv.mono le1;refine zz2 ?_;refine aA (bO (k:=cD) rfl Tryz.underlying62 rfl (.known hv1)) rfl ?_;refine zz4 ?_;refine kF (fH (lW (Hl.le_trans le le1))) ?_;refine n7 (fun(i:Nat) (K2:Hl) (s2:DSt)=>i≤xs.length∧K1.le K2∧s2.pend.length≤s.pend.length+i∧iM xs s=dZ ((gB xs++[d6,eV bM,d6]).drop i) s2) (fun i _ _=>[(2,ptr b2),(8,v),(9,i64 xs.length),(10,i64 i)]) (fun _ K2 _=>K2) (fun _ K2 s2=>[dsk K2 b s2]) (fun i _ _=>xs.length - i) 0 K1 s ⟨Nat.zero_le _,Hl.le_refl _,Nat.le_refl _,rfl⟩ (.cons 2 rfl (.cons 8 rfl (.cons 9 rfl (.cons 10 rfl .nil)))) rfl (fun _ h=>h) ?_;intro i K2 s2 ⟨hi,leL,hp2,hx⟩;refine zz6 ?_;refine bK 11 rfl (fun h11=>?_) (fun h11=>?_)
 ·have hlt:i < xs.length:=by omega
  obtain⟨f,hxx⟩:∃f,xs[i]?=some f:=⟨xs[i]'hlt,List.getElem?_eq_getElem hlt⟩;have hv2:=hv1.mono leL;have hb22:=leL _ _ hb2;have hfl:=hd f (List.mem_of_getElem? hxx);refine zz6 ?_;refine aA (bE (k:=cD) eK rfl (.known hv2) rfl rfl gAD) rfl ?_;refine aA (dC (n:=0) (k:=cD) kD rfl (.known hv2) cB) rfl ?_;refine zz1 ?_;rintro _ K _ ⟨b6,rfl,rfl,rfl⟩ -;refine cA (cK kD rfl rfl rfl bF gAA (.cons (.cons .nil)) gAJ) ?_;rintro _ K _ ⟨rfl,rfl⟩ -;refine zz6 ?_;refine aX rfl rfl (aOM b f.1 f.2 hfl _) .nil rfl ?_;rintro _ K _ ⟨rfl,x16,y16,rfl,hclo⟩ le2;obtain⟨fn,vs,hen,hsp⟩:=hclo;obtain⟨hs1,hs2⟩:=hsp K _ s2 (Hl.le_refl _) le2 aI;refine aKV rfl hen hs1 (.cons (.there .here) .nil) rfl ?_;rintro _ K3 _ ⟨rfl,rfl⟩ le3;refine zz3 ?_;rcases hr:fC f.1 f.2 s2 with ⟨_|e,s3⟩
  ·refine zz14 ?_;refine uAa ?_;exact iU (i+1) K3 s3 ⟨by omega,Hl.le_trans leL (Hl.le_trans le2 le3),by have:=u9 f.1 f.2 s2;rw[hr]at this;simp only at this;omega,by rw[hx,bQC hxx,uV,hr];rfl⟩ aI (.cons 2 rfl (.cons 8 rfl (.cons 9 rfl (.cons 10 rfl .nil)))) rfl (fun _ h=>h)
  refine zz19 ?_;refine uAa ?_;refine bD rfl rfl (Hl.le_trans le1 (Hl.le_trans leL (Hl.le_trans le2 le3))) ?_;have hy:iM xs s=(some e,s3):=(by rw[hx,bQC hxx,uV,hr];rfl);rw[hy];exact⟨_,rfl,rfl,rfl⟩
 have hie:i=xs.length:=by omega
 subst hie;rw[show (gB xs++[d6,eV bM,d6]).drop xs.length=[d6,eV bM,d6]from by rw[List.drop_append,List.drop_of_length_le (by simp[gB])];simp[gB]]at hx;rw[hx];have hb22:=leL _ _ hb2;refine zz6 ?_;refine dD (anc:=[0,1,3,0,0,16,48,127,255,511]) (ord:=[0,1,2,3,4,5,6,7,8,9]) [7,8] [7,8] mixed gAH .nil ?_;refine zz7 ?_;refine aSJ rfl rfl (.none rfl) rfl (bH (z0:=[.nilFunc,.nilFunc,.nilFunc]) uZ bLE rfl rfl rfl rfl (.cons rfl rfl rfl (.cons .nil) (.cons rfl rfl rfl (.skip (.cons .nil)) (.cons rfl rfl rfl (.skip (.skip (.cons .nil))) .nil)))) rfl ?_;rintro _ K _ ⟨b29,rfl,rfl,rfl⟩ -;refine iJ rfl (.none rfl) rfl rfl rfl (aGM 800000 b b29 [⟨.func (.method "Sync") #[dV b] #[],rfl⟩,⟨.func (.func 227) #[] #[ptr b2],rfl⟩,⟨.func (.method "Sync") #[dV b] #[],rfl⟩] [d6,eV bM,d6] s2 _ _ (Hl.le_refl _) _ rfl (bPH (aDN _ _) (bL2 _ _ _ _ _ hb22) (aDN _ _)) gAI (by simp)) (.cons .here (.cons .here .nil)) rfl ?_;rintro _ K3 _ ⟨rfl,rfl⟩ le3;refine zz4 ?_;refine uAa ?_;refine bD rfl rfl (Hl.le_trans le1 (Hl.le_trans leL le3)) ?_;exact⟨_,rfl,rfl,rfl⟩
theorem aSG(b bd bf:Nat)(v:Value)(xs:List File)(s:DSt)(K K0:Hl)(le:K0.le K)(T1 T2:TypeId)(z1 z2:Nat×Nat)(h1:K bd=some (aZ [dV b] T1 z1))(h2:K bf=some (aZ [v] T2 z2))(hv:Ksl cD K v xs)(hn:xs.length≤100)(hd:∀f∈xs,f.2.length≤140737488355328)(hp:s.pend.length≤700000):
  Sp Tryz.prog 133 [ptr bd,ptr bf] K [dsk K0 b s] (Ret fun r K' L'=>r=erV (iM xs s).1∧L'=[dsk K' b (iM xs s).2]):=by
 refine a8 Tryz.func133 rfl Tryz.ntmps133 rfl rfl fun F w=>?_;refine zz9 ?_;refine aX rfl rfl (aNF b v xs s _ _ le hv hn hd hp) (.cons .here .nil) rfl ?_;rintro _ K1 _ ⟨rfl,rfl⟩ le1;refine zz4 ?_;refine bD rfl rfl le1 ?_;exact⟨_,rfl,rfl,rfl⟩
theorem aWM(b:Nat)(v:Value)(xs:List File)(s:DSt)(K K0:Hl)(le:K0.le K)(hv:Ksl cD K v xs)(hg:Glob K)(hdb:Deb K)(hb:(bodyC xs).length≤1000000000)(hn:xs.length≤100)(hp:s.pend.length≤600000):
  Sp Tryz.prog 79 [dV b,v] K [dsk K0 b s] (Ret fun r K' L'=>r=erV (iC xs s).1∧L'=[dsk K' b (iC xs s).2]):=by
 have hd:∀f∈xs,f.2.length≤140737488355328:=fun f hf=>by have:=yZ hf;simp[entryC]at this;omega
 obtain⟨va,vn,vc,rfl⟩:=hv.isSlice;refine a8 Tryz.func79 rfl Tryz.ntmps79 rfl rfl fun F w=>?_;refine zz3 ?_;rintro _ K _ ⟨b2,rfl,rfl,rfl⟩ -;refine zz1 ?_;rintro _ K _ ⟨b3,rfl,rfl,rfl⟩ -;refine zz4 ?_;refine l8 fun K1 le1 hb3=>?_;refine l8 fun K2 le2 hb2=>?_;have hv2:=(hv.mono le1).mono le2;have hb32:=le2 _ _ hb3;refine dD (anc:=[0,0,2,6,15,0,32,96,0,511,1023,2047]) (ord:=[0,1,5,6,7,8,2,3,4,9,10,11]) [2,4,9,10] [9,10] mixed gAH .nil ?_;refine zz6 ?_;refine lC rfl (.none rfl) rfl rfl rfl rfl (bDG _ xs _ hv2 ((hg.mono le1).mono le2) ((hdb.mono le1).mono le2) hb hn) rfl ?_;refine uBu ?_;refine aII rfl (.none rfl) rfl rfl rfl rfl (aOM b bM (gJ xs) (aIO hb) _) .nil rfl ?_;rintro _ K9 _ ⟨rfl,x9,y9,rfl,hclo⟩ le9;refine⟨_,(show Tks _ _ _ from .nil).sat,?_⟩
 refine aSJ rfl rfl (.none rfl) rfl (bH (z0:=[.nilFunc,.nilFunc,.nilFunc]) uZ bLE rfl rfl rfl rfl (.cons rfl rfl rfl (.cons .nil) (.cons rfl rfl rfl (.skip (.cons .nil)) (.cons rfl rfl rfl (.skip (.skip (.cons .nil))) .nil)))) rfl ?_;rintro _ K _ ⟨b14,rfl,rfl,rfl⟩ -;refine iJ rfl (.none rfl) rfl rfl rfl (aGM 700000 b b14 [⟨.func (.func 224) #[] #[ptr x9,ptr y9],rfl⟩,⟨.func (.method "Sync") #[dV b] #[],rfl⟩,⟨.func (.func 133) #[] #[ptr b2,ptr b3],rfl⟩] [fC bM (gJ xs),d6,iM xs] s _ _ (Hl.le_trans le (Hl.le_trans le1 (Hl.le_trans le2 le9))) _ rfl (bPH (hclo.weak aI) ((aDN _ _).weak aI) ⟨_,_,wW ⟨_,Tryz.func133,rfl,rfl⟩,fun K3 K4 s3 le3 le4 hp3=>⟨aSG b b2 b3 _ xs s3 K3 K4 le4 _ _ _ _ (le3 _ _ (le9 _ _ hb2)) (le3 _ _ (le9 _ _ hb32)) (hv2.mono (Hl.le_trans le9 le3)) hn hd aI,by have:=xD xs s3;omega⟩⟩) gAI (by simp)) (.cons .here (.cons .here .nil)) rfl ?_;rintro _ K3 _ ⟨rfl,rfl⟩ le3;refine zz4 ?_;refine bD rfl rfl (Hl.le_trans le1 (Hl.le_trans le2 (Hl.le_trans le9 le3))) ?_;exact⟨_,rfl,rfl,rfl⟩
end Go.Proofs
end
section
namespace Go.Proofs
open Go Go.SL Go.Syn Go.Box Go.Mach
def yL(r:Except Int (List File)):Ending→Hl→List Asn→Prop:=Ret fun v K' L'=>match r with
 | .ok xs=>∃u,v=.tuple #[u,.nilIface]∧L'=[sl false cD u xs]
 | .error e=>v=.tuple #[.slice none 0 0,errV e]∧L'=[]
theorem bED(id text:aJ)(v:Value)(acts:List Action)(K:Hl)(hg:Glob K)(hv:Ksl cS K v acts)(hid:id.length≤140737488355328)(ht:text.length≤1048576)(ha:∀a∈acts,a.2.length≤1048576)(hal:acts.length≤140737488355328):
  Sp Tryz.prog 78 [str id,v,str text] K [] (yL (eY id acts text)):=by
 refine a8 Tryz.func78 rfl Tryz.ntmps78 rfl rfl fun F w=>?_;refine aH (aC ?_);refine aA (aD rfl) rfl ?_;refine aA (aD rfl) rfl ?_;refine aG (aE ?_);refine aH (aH ?_);refine aC ?_;refine aA (aB rfl) rfl ?_;refine aA (lX rfl rfl) rfl ?_;refine aA (aB rfl) rfl ?_;refine cH 14 rfl (fun g14=>?_) (fun g14=>?_)
 ·refine aS rfl rfl rfl ?_;refine aS rfl rfl rfl ?_;refine aS rfl rfl rfl ?_;refine aA (bI rfl rfl) rfl ?_;refine aA (aB rfl) rfl ?_;refine aS rfl rfl rfl ?_;refine aS rfl rfl rfl ?_;refine aA (bI rfl rfl) rfl ?_;refine aA (aB rfl) rfl ?_;refine aS rfl rfl rfl ?_;refine aS rfl rfl rfl ?_;refine aS rfl rfl rfl ?_;refine aA (bI rfl rfl) rfl ?_;refine aG (aE ?_);refine dS rfl ?_;refine aH (aC ?_);refine aA (cY Tryz.underlying30 (fun _ h=>by cases h) rfl) rfl ?_;refine aA (aD rfl) rfl ?_;refine aA (aD rfl) rfl ?_;refine aG (aE ?_);refine bG ?_;refine aY ?_;refine fA rfl rfl rfl (Hl.le_refl _) ?_;have hb:nJ id=true:=(by simp[nJ,g14]);unfold yL eY;rw[if_pos hb];exact⟨_,rfl,rfl,rfl⟩
 refine aT rfl rfl ?_;refine aA (aB rfl) rfl ?_;refine aT rfl rfl ?_;refine aA (bV rfl Tryz.underlying9 rfl) rfl ?_;refine aT rfl rfl ?_;refine aA (gD rfl rfl) rfl ?_;refine aA (bA rfl rfl) rfl ?_;refine aA (aB rfl) rfl ?_;refine cH 19 rfl (fun g19=>?_) (fun g19=>?_)
 ·refine aS rfl rfl rfl ?_;refine aS rfl rfl rfl ?_;refine aA (bI rfl rfl) rfl ?_;refine aA (aB rfl) rfl ?_;refine aS rfl rfl rfl ?_;refine aS rfl rfl rfl ?_;refine aS rfl rfl rfl ?_;refine aA (bI rfl rfl) rfl ?_;refine aG (aE ?_);refine dS rfl ?_;refine aH (aC ?_);refine aA (cY Tryz.underlying30 (fun _ h=>by cases h) rfl) rfl ?_;refine aA (aD rfl) rfl ?_;refine aA (aD rfl) rfl ?_;refine aG (aE ?_);refine bG ?_;refine aY ?_;refine fA rfl rfl rfl (Hl.le_refl _) ?_;have hb:nJ id=true:=(by unfold nJ;rw[decide_eq_true (show 8 < id.length by omega)];simp);unfold yL eY;rw[if_pos hb];exact⟨_,rfl,rfl,rfl⟩
 refine aT rfl rfl ?_;refine aA (aB rfl) rfl ?_;refine aT rfl rfl ?_;refine cF rfl rfl (aPG [46,45] (by decide) (by decide) id aI _) rfl ?_;refine aA (bA rfl rfl) rfl ?_;refine aA (aB rfl) rfl ?_;refine lE 23 rfl (fun g23=>?_) (fun g23=>?_)
 ·refine aS rfl rfl rfl ?_;refine aS rfl rfl rfl ?_;refine aS rfl rfl rfl ?_;refine aA (bI rfl rfl) rfl ?_;refine aG (aE ?_);refine dS rfl ?_;refine aH (aC ?_);refine aA (cY Tryz.underlying30 (fun _ h=>by cases h) rfl) rfl ?_;refine aA (aD rfl) rfl ?_;refine aA (aD rfl) rfl ?_;refine aG (aE ?_);refine bG ?_;refine aY ?_;refine fA rfl rfl rfl (Hl.le_refl _) ?_;have hb:nJ id=true:=(by unfold nJ;rw[g23];simp);unfold yL eY;rw[if_pos hb];exact⟨_,rfl,rfl,rfl⟩
 refine aT rfl rfl ?_;refine aA (aB rfl) rfl ?_;refine aT rfl rfl ?_;refine cF rfl rfl (wQ id _ aI) rfl ?_;refine aT rfl rfl ?_;refine aA gAF rfl ?_;refine aA (bA rfl rfl) rfl ?_;refine aG (aE ?_);refine eO 27 rfl (fun h27=>?_) (fun h27=>?_)
 ·refine aH (aC ?_);refine aA (cY Tryz.underlying30 (fun _ h=>by cases h) rfl) rfl ?_;refine aA (aD rfl) rfl ?_;refine aA (aD rfl) rfl ?_;refine aG (aE ?_);refine bG ?_;refine aY ?_;refine fA rfl rfl rfl (Hl.le_refl _) ?_;have hb:nJ id=true:=(by unfold nJ;rw[h27];simp);unfold yL eY;rw[if_pos hb];exact⟨_,rfl,rfl,rfl⟩
 have hbad:nJ id=false:=by simp only[nJ,g14,g23,decide_false,Bool.false_or];rw[decide_eq_false aI];simpa using h27
 refine aW ?_;refine aE (aH ?_);refine aH (aC ?_);refine aA (aB rfl) rfl ?_;refine aA (bO (k:=cS) rfl Tryz.underlying29 rfl (.known hv)) rfl ?_;refine aA (gD rfl rfl) rfl ?_;refine aG (aE ?_);refine bK 31 rfl (fun h31=>?_) (fun h31=>?_)
 ·refine aH (aC ?_);refine aA (cY Tryz.underlying30 (fun _ h=>by cases h) rfl) rfl ?_;refine aA (aD rfl) rfl ?_;refine aA (aD rfl) rfl ?_;refine aG (aE ?_);refine bG ?_;refine aY ?_;refine fA rfl rfl rfl (Hl.le_refl _) ?_;unfold yL eY;rw[if_neg (by rw[hbad];simp),if_pos aI];exact⟨_,rfl,rfl,rfl⟩
 refine aW ?_;refine aE (aH ?_);refine aC ?_;refine aA (aD rfl) rfl ?_;refine aG (aE ?_);refine aH (aH ?_);refine aC ?_;refine aA (aB rfl) rfl ?_;refine aA (bO (k:=cS) rfl Tryz.underlying29 rfl (.known hv)) rfl ?_;refine aA (aB rfl) rfl ?_;refine aG (aE ?_);refine bB ?_;have hfc:eY id acts text=vC [] (lZ id text 0 (acts.drop 0)):=gBT;refine kF (eF cD) ?_;refine n7 (fun(i:Nat) (u:Value) (acc:List File)=>i≤acts.length∧acc.length=i∧eY id acts text=vC acc (lZ id text i (acts.drop i))) (fun i u _=>[(0,str id),(2,str text),(8,u),(33,v),(34,i64 acts.length),(35,i64 i)]) (fun _ _ _=>K) (fun _ u acc=>[sl false cD u acc]) (fun i _ _=>acts.length - i) 0 (.slice none 0 0) [] ⟨Nat.zero_le _,rfl,hfc⟩ (.cons 0 rfl (.cons 2 rfl (.cons 8 rfl (.cons 33 rfl (.cons 34 rfl (.cons 35 rfl .nil)))))) rfl (fun _ h=>h) ?_;intro i u acc ⟨hi,hal2,hx⟩;refine aH (aC ?_);refine aA (cP rfl rfl) rfl ?_;refine aG (aE ?_);refine aH ?_;refine bK 36 rfl (fun h36=>?_) (fun h36=>?_)
 ·have hlt:i < acts.length:=by omega
  obtain⟨a,haa⟩:∃a,acts[i]?=some a:=⟨acts[i]'hlt,List.getElem?_eq_getElem hlt⟩;have hae:=ha a (List.mem_of_getElem? haa);have hil:=Lib.itoa_length_le (i:Int) aI aI;refine aW ?_;refine aE (aH ?_);refine bB (aH ?_);refine aC ?_;refine aA (aB rfl) rfl ?_;refine aA (bE (k:=cS) gK rfl (.known hv) rfl rfl gAD) rfl ?_;refine aA (dC (n:=0) (k:=cS) lO rfl (.known hv) haa) rfl ?_;refine cC (cX aIC) rfl ?_;rintro _ K _ ⟨b10,rfl,rfl,rfl⟩ -;refine aA (aD rfl) rfl ?_;refine cA (cK lO rfl rfl rfl bF gAA (.cons (.cons .nil)) gAJ) ?_;rintro _ K _ ⟨rfl,rfl⟩ -;refine aG (aE ?_);refine aH (aC ?_);refine aA (aB rfl) rfl ?_;refine aA (cW rfl rfl gAE) rfl ?_;refine aA (cW rfl rfl gAE) rfl ?_;refine aA (aB rfl) rfl ?_;refine cF rfl rfl (qO _ aI aI _ hg) rfl ?_;refine aA (cW rfl rfl gAE) rfl ?_;refine aA (aB rfl) rfl ?_;refine uAc ?_;refine cC (cX aID) rfl ?_;rintro _ K _ ⟨b11,rfl,rfl,rfl⟩ -;refine cA (cK kD rfl rfl rfl bF gAA (.cons (.cons .nil)) gAJ) ?_;rintro _ K _ ⟨rfl,rfl⟩ -;refine aG (aE ?_);refine gV (fun(f:File)=>eQ id text i a=.ok f) (fun _=>[(0,str id),(2,str text),(8,u),(11,ptr b11),(33,v),(34,i64 acts.length),(35,i64 i)]) (fun _=>K) (fun f=>[pt b11 (aZ [str f.1,str f.2] 66),sl false cD u acc]) ?_ ?_
  ·refine aH (aC ?_);refine aA (aF (o':=0) iE rfl rfl) rfl ?_;refine aA (aL ts3 rfl aM rfl) rfl ?_;refine aG (aE ?_);refine bB (aH ?_);refine aC ?_;refine aA (bZ rfl rfl) rfl ?_;refine aA (aD rfl) rfl ?_;refine aG (aE ?_);refine bK 51 rfl (fun h51=>?_) (fun h51=>?_)
   ·refine aC ?_;refine aA (aB rfl) rfl ?_;refine aA (cW rfl rfl gAE) rfl ?_;refine aA (aF (o':=0) oR rfl rfl) rfl ?_;refine uAy ?_;rintro _ K _ ⟨rfl,rfl⟩ -;refine aG (aO ?_);refine uAm ?_
    first|exact cN (vM++id,text) gB8 (.cons 0 rfl (.cons 2 rfl (.cons 8 rfl (.cons 11 rfl (.cons 33 rfl (.cons 34 rfl (.cons 35 rfl .nil))))))) rfl (fun _ h=>h)|exact cN (boxP++a.2++vX++id,text) gAZ (.cons 0 rfl (.cons 2 rfl (.cons 8 rfl (.cons 11 rfl (.cons 33 rfl (.cons 34 rfl (.cons 35 rfl .nil))))))) rfl (fun _ h=>h)|exact cN (outN id i,toP++a.2++[10]++text) gBB (.cons 0 rfl (.cons 2 rfl (.cons 8 rfl (.cons 11 rfl (.cons 33 rfl (.cons 34 rfl (.cons 35 rfl .nil))))))) rfl (fun _ h=>h)|exact cN (outN id i,rejP++a.2++[10]++text) gA3 (.cons 0 rfl (.cons 2 rfl (.cons 8 rfl (.cons 11 rfl (.cons 33 rfl (.cons 34 rfl (.cons 35 rfl .nil))))))) rfl (fun _ h=>h)
   refine aH (aC ?_);refine aA (bZ rfl rfl) rfl ?_;refine aA (aD rfl) rfl ?_;refine aG (aE ?_);refine bK 56 rfl (fun h56=>?_) (fun h56=>?_)
   ·refine aH (aH ?_);refine aC ?_;refine aA (aF (o':=1) dW rfl rfl) rfl ?_;refine aA (aL ts9 rfl aM rfl) rfl ?_;refine cF rfl rfl (wQ a.2 _ aI) rfl ?_;refine aA gAF rfl ?_;refine aG (aE ?_);refine eO 61 rfl (fun h61=>?_) (fun h61=>?_)
    ·refine aH (aC ?_);refine aA (cY Tryz.underlying30 (fun _ h=>by cases h) rfl) rfl ?_;refine aA (aD rfl) rfl ?_;refine aA (aD rfl) rfl ?_;refine aG (aE ?_);refine bG ?_;refine aY ?_;refine bU ?_;refine aY ?_;refine uAl ?_;refine fA rfl rfl rfl (Hl.le_refl _) ?_;rw[hx,aA1 haa (e:=8) (by simp only[eQ];rw[if_neg h51,if_pos h56,if_neg (by simpa using h61)])];exact⟨_,rfl,rfl,rfl⟩
    refine aW ?_;refine aE (aC ?_);refine aA (aF (o':=1) dW rfl rfl) rfl ?_;refine aA (aL ts9 rfl aM rfl) rfl ?_;refine aA (cW rfl rfl gAE) rfl ?_;refine aA (cW rfl rfl gAE) rfl ?_;refine aA (aB rfl) rfl ?_;refine aA (cW rfl rfl gAE) rfl ?_;refine aA (aF (o':=0) oR rfl rfl) rfl ?_;refine uAy ?_;rintro _ K _ ⟨rfl,rfl⟩ -;refine aG (aO ?_);refine uAm ?_
    first|exact cN (vM++id,text) gB8 (.cons 0 rfl (.cons 2 rfl (.cons 8 rfl (.cons 11 rfl (.cons 33 rfl (.cons 34 rfl (.cons 35 rfl .nil))))))) rfl (fun _ h=>h)|exact cN (boxP++a.2++vX++id,text) gAZ (.cons 0 rfl (.cons 2 rfl (.cons 8 rfl (.cons 11 rfl (.cons 33 rfl (.cons 34 rfl (.cons 35 rfl .nil))))))) rfl (fun _ h=>h)|exact cN (outN id i,toP++a.2++[10]++text) gBB (.cons 0 rfl (.cons 2 rfl (.cons 8 rfl (.cons 11 rfl (.cons 33 rfl (.cons 34 rfl (.cons 35 rfl .nil))))))) rfl (fun _ h=>h)|exact cN (outN id i,rejP++a.2++[10]++text) gA3 (.cons 0 rfl (.cons 2 rfl (.cons 8 rfl (.cons 11 rfl (.cons 33 rfl (.cons 34 rfl (.cons 35 rfl .nil))))))) rfl (fun _ h=>h)
   refine aH (aC ?_);refine aA (bZ rfl rfl) rfl ?_;refine aA (aD rfl) rfl ?_;refine aG (aE ?_);refine bK 70 rfl (fun h70=>?_) (fun h70=>?_)
   ·refine aC ?_;refine aA (aF (o':=1) dW rfl rfl) rfl ?_;refine aA (aL ts9 rfl aM rfl) rfl ?_;refine aA (cW rfl rfl gAE) rfl ?_;refine aA (cW rfl rfl gAE) rfl ?_;refine aA (aB rfl) rfl ?_;refine aA (cW rfl rfl gAE) rfl ?_;refine aA (aF (o':=1) wG rfl rfl) rfl ?_;refine uAh ?_;rintro _ K _ ⟨rfl,rfl⟩ -;refine aG (aO ?_);refine uAm ?_
    first|exact cN (vM++id,text) gB8 (.cons 0 rfl (.cons 2 rfl (.cons 8 rfl (.cons 11 rfl (.cons 33 rfl (.cons 34 rfl (.cons 35 rfl .nil))))))) rfl (fun _ h=>h)|exact cN (boxP++a.2++vX++id,text) gAZ (.cons 0 rfl (.cons 2 rfl (.cons 8 rfl (.cons 11 rfl (.cons 33 rfl (.cons 34 rfl (.cons 35 rfl .nil))))))) rfl (fun _ h=>h)|exact cN (outN id i,toP++a.2++[10]++text) gBB (.cons 0 rfl (.cons 2 rfl (.cons 8 rfl (.cons 11 rfl (.cons 33 rfl (.cons 34 rfl (.cons 35 rfl .nil))))))) rfl (fun _ h=>h)|exact cN (outN id i,rejP++a.2++[10]++text) gA3 (.cons 0 rfl (.cons 2 rfl (.cons 8 rfl (.cons 11 rfl (.cons 33 rfl (.cons 34 rfl (.cons 35 rfl .nil))))))) rfl (fun _ h=>h)
   refine aH (aC ?_);refine aA (bZ rfl rfl) rfl ?_;refine aA (aD rfl) rfl ?_;refine aG (aE ?_);refine bK 79 rfl (fun h79=>?_) (fun h79=>?_)
   ·refine aC ?_;refine aA (aF (o':=1) dW rfl rfl) rfl ?_;refine aA (aL ts9 rfl aM rfl) rfl ?_;refine aA (cW rfl rfl gAE) rfl ?_;refine aA (cW rfl rfl gAE) rfl ?_;refine aA (aB rfl) rfl ?_;refine aA (cW rfl rfl gAE) rfl ?_;refine aA (aF (o':=1) wG rfl rfl) rfl ?_;refine uAh ?_;rintro _ K _ ⟨rfl,rfl⟩ -;refine aG (aO ?_);refine uAm ?_
    first|exact cN (vM++id,text) gB8 (.cons 0 rfl (.cons 2 rfl (.cons 8 rfl (.cons 11 rfl (.cons 33 rfl (.cons 34 rfl (.cons 35 rfl .nil))))))) rfl (fun _ h=>h)|exact cN (boxP++a.2++vX++id,text) gAZ (.cons 0 rfl (.cons 2 rfl (.cons 8 rfl (.cons 11 rfl (.cons 33 rfl (.cons 34 rfl (.cons 35 rfl .nil))))))) rfl (fun _ h=>h)|exact cN (outN id i,toP++a.2++[10]++text) gBB (.cons 0 rfl (.cons 2 rfl (.cons 8 rfl (.cons 11 rfl (.cons 33 rfl (.cons 34 rfl (.cons 35 rfl .nil))))))) rfl (fun _ h=>h)|exact cN (outN id i,rejP++a.2++[10]++text) gA3 (.cons 0 rfl (.cons 2 rfl (.cons 8 rfl (.cons 11 rfl (.cons 33 rfl (.cons 34 rfl (.cons 35 rfl .nil))))))) rfl (fun _ h=>h)
   refine aH (aC ?_);refine aA (cY Tryz.underlying30 (fun _ h=>by cases h) rfl) rfl ?_;refine aA (aD rfl) rfl ?_;refine aA (aD rfl) rfl ?_;refine aG (aE ?_);refine bG ?_;refine bU ?_;refine aY ?_;refine uAl ?_;refine fA rfl rfl rfl (Hl.le_refl _) ?_;rw[hx,aA1 haa (e:=7) (by simp only[eQ];rw[if_neg h51,if_neg h56,if_neg h70,if_neg h79])];exact⟨_,rfl,rfl,rfl⟩
  intro f hff;refine aC ?_;refine aA (aB rfl) rfl ?_;refine aA (b0 kD rfl aM rfl rfl) rfl ?_;refine cC (bH (z0:=[(str []),(str [])]) eK aID rfl rfl rfl rfl (.cons rfl rfl rfl (.cons (.cons .nil)) .nil)) rfl ?_;rintro _ K _ ⟨b90,rfl,rfl,rfl⟩ -;refine cC (dN (k:=cD) (ys:=[f]) jC rfl rfl bF (fun w j=>dE Tryz.underlying62 (SeesSl.at (k:=cD) (.blk (.own .here) rfl rfl) j)) (by show (acc.length+1)*32≤140737488355328;omega) (by show acc.length+1≤9223372036854775807;omega)) rfl ?_;rintro v91 K _ ⟨rfl,rfl,ho91⟩ -;refine aA (aD rfl) rfl ?_;refine aG (aO ?_);refine aE (aC ?_);refine aA (bW rfl rfl aI aI) rfl ?_;refine aA (aB rfl) rfl ?_;refine uAz ?_;exact iU (i+1) _ (acc++[f]) ⟨by omega,by simp[hal2],by rw[hx];exact aS0 haa hff⟩ aI (.cons 0 rfl (.cons 2 rfl (.cons 8 rfl (.cons 33 rfl (.cons 34 rfl (.cons 35 rfl .nil)))))) rfl (fun _ h=>h)
 have hie:i=acts.length:=by omega
 subst hie;rw[List.drop_length,lZ]at hx;simp only[vC,List.append_nil]at hx;refine cM ?_;refine aR ?_;refine aR ?_;refine bC ?_;refine aE (aH ?_);refine aC ?_;refine aA (aB rfl) rfl ?_;refine aA (aD rfl) rfl ?_;refine aA (aD rfl) rfl ?_;refine aG (aE ?_);refine bG ?_;refine uAa ?_;refine fA rfl rfl rfl (Hl.le_refl _) ?_;rw[hx];exact⟨_,rfl,_,rfl,rfl⟩
end Go.Proofs
end
section
attribute [local irreducible] Go.SL.T Go.SL.OL Go.SL.D Go.SL.DL Go.SL.Ev Go.SL.Ef Go.SL.EfS
namespace Go.Proofs
open Go Go.SL Go.Syn Go.Box
def aNM(es:List Ent)(seen:List Nat):Nat:=(es.filter fun e=>!seen.contains e.2.2).length
theorem aTF{es:List Ent}{seen:List Nat}{e:Ent}(he:e∈es)(hn:e.2.2∉seen):aNM es (seen++[e.2.2]) < aNM es seen:=by
 have hs:(es.filter fun e'=>!(seen++[e.2.2]).contains e'.2.2).Sublist (es.filter fun e'=>!seen.contains e'.2.2):=by
  have:(es.filter fun e'=>!(seen++[e.2.2]).contains e'.2.2)=(es.filter fun e'=>!seen.contains e'.2.2).filter fun e'=>!(seen++[e.2.2]).contains e'.2.2:=by
   rw[List.filter_filter]
   congr 1;funext e'
   simp only[List.contains_eq_mem,List.mem_append,List.mem_singleton]
   by_cases h1:e'.2.2∈seen <;> simp[h1]
  rw[this];exact List.filter_sublist
 rcases Nat.lt_or_ge (aNM es (seen++[e.2.2])) (aNM es seen)with h|h
 ·exact h
 have e1:=hs.eq_of_length_le h;have:e∈es.filter fun e'=>!(seen++[e.2.2]).contains e'.2.2:=by rw[e1];exact List.mem_filter.2 ⟨he,by simpa using hn⟩
 have:=(List.mem_filter.1 this).2;simp at this
structure PartOk (es:List Ent) (seen:List Nat) (es2:List Ent) (c2:Nat):Prop where
 fresh:Fresh es2 c2
 nd:(es2.map (·.1)).Nodup
 get:∀n,mget es2 n=((es.find? fun e=>decide (n=e.1)).bind fun e=>if e.2.2∈seen then some e.2.1 else none)
theorem PartOk.nil{es:List Ent}:PartOk es [] [] 0:=⟨Fresh.nil,List.nodup_nil,fun n=>by cases h:es.find? fun e=>decide (n=e.1) <;> simp[mget,h]⟩
theorem aD7{es:List Ent}{e:Ent}(nd:(es.map (·.1)).Nodup)(he:e∈es):(es.find? fun e'=>decide (e.1=e'.1))=some e:=by
 induction es with
 |nil=>cases he
 |cons a r ih=>
  have nd':=List.nodup_cons.1 nd;rcases List.mem_cons.1 he with rfl|h
  ·simp
  have:¬e.1=a.1:=fun h2=>nd'.1 (by have:=List.mem_map_of_mem (f:=fun x:Ent=>x.1) h;rw[h2]at this;exact this)
  rw[List.find?_cons_of_neg (by simpa using this)];exact ih nd'.2 h
theorem PartOk.step{es:List Ent}{seen:List Nat}{es2:List Ent}{c2:Nat}{e:Ent}(nd:(es.map (·.1)).Nodup)(ndb:(es.map (·.2.2)).Nodup)(h:PartOk es seen es2 c2)(he:e∈es):PartOk es (seen++[e.2.2]) (mset e.1 e.2.1 c2 es2) (yE es2 e.1 c2):=by
 refine⟨h.fresh.set,aTC h.nd,fun n=>?_⟩
 rw[aF4]
 by_cases hn:n=e.1
 ·subst hn;rw[if_pos rfl,aD7 nd he];simp
 rw[if_neg hn,h.get];cases hf:es.find? fun e'=>decide (n=e'.1)with
 |none=>rfl
 |some e'=>
  have hm:=List.mem_of_find?_eq_some hf;have hk:n=e'.1:=by simpa using List.find?_some hf
  have hb:e'.2.2≠e.2.2:=fun hb=>by
   have:e'=e:=by
    have key:∀(l:List Ent),(l.map (·.2.2)).Nodup→e'∈l→e∈l→e'=e:=by
     intro l;induction l with
     |nil=>intro _ h;cases h
     |cons a r ih=>
      intro nd h1 h2;have nd':=List.nodup_cons.1 nd;rcases List.mem_cons.1 h1 with e1|g1 <;> rcases List.mem_cons.1 h2 with e2|g2
      ·exact e1.trans e2.symm
      ·exact absurd (by have:=List.mem_map_of_mem (f:=fun e:Ent=>e.2.2) g2;rw[←hb,e1]at this;exact this) nd'.1
      ·exact absurd (by have:=List.mem_map_of_mem (f:=fun e:Ent=>e.2.2) g1;rw[hb,e2]at this;exact this) nd'.1
      exact ih nd'.2 g1 g2
    exact key es ndb hm he
   exact hn (by rw[hk,this])
  simp[hb]
theorem PartOk.full{K:Hl}{es:List Ent}{c:Nat}{seen:List Nat}{es2:List Ent}{c2:Nat}{f:DMap}(hm:MapOk K es c f)(h:PartOk es seen es2 c2)(hall:∀e∈es,e.2.2∈seen):MapOk K es2 c2 f:=by
 have hg:∀n,mget es2 n=mget es n:=fun n=>by
  rw[h.get];cases hf:es.find? fun e=>decide (n=e.1)with
  |none=>simp[mget,hf]
  |some e=>simp[mget,hf,hall e (List.mem_of_find?_eq_some hf)]
 exact⟨h.fresh,h.nd,fun n v e=>hm.has n v (by rw[←hg];exact e),fun n e=>hm.lacks n (by rw[←hg];exact e)⟩
theorem bLK(b m1:Nat)(es1:List Ent)(c1:Nat)(nv pv:Value)(l f:Int)(dn:Bool)(dur:DMap)(K:Hl)(hm1:MapOk K es1 c1 dur):Sp Tryz.prog 77 [ptr b] K [pt b (dskO (.map (some m1)) nv pv l f dn),pt m1 (mapO es1 c1)]
  (Ret fun r K' L'=>r=.tuple #[]∧K'=K∧L'=[dsk K' b ⟨dur,dur,[],l,f,false⟩]):=by
 refine a8 Tryz.func77 rfl Tryz.ntmps77 rfl rfl fun F w=>?_;refine zz3 ?_;refine cC qT rfl ?_;rintro _ K _ ⟨b5,rfl,rfl,rfl⟩ -;refine zz2 ?_;refine cA (bP r9 rfl rfl cJ bF (.succ .zero) rfl) ?_;rintro _ K _ ⟨rfl,rfl⟩ -;refine zz9 ?_;refine cC (aLH Tryz.underlying107 rfl aM) rfl ?_;rintro _ K _ ⟨b12,rfl,rfl,rfl⟩ -;refine zz3 ?_;refine z8 (.cons .here (.cons (.there .here) (.cons .here (.cons .here .nil)))) ?_;refine n7 (fun(seen:List Nat) (es3:List Ent) (c3:Nat)=>PartOk es1 seen es3 c3) (fun _ _ _=>[(0,ptr b),(12,ptr b12)]) (fun _ _ _=>K) (fun seen es3 c3=>[mit b12 m1 c1 seen c1,pt b (dskO (.map (some m1)) (.map (some b5)) pv l f dn),pt b5 (mapO es3 c3),pt m1 (mapO es1 c1)]) (fun seen _ _=>aNM es1 seen) [] [] 0 PartOk.nil (.cons 0 rfl (.cons 12 rfl .nil)) rfl (fun _ h=>h) ?_;intro seen es3 c3 hpo;refine zz2 ?_;refine cC (aOE (m:=m1) rfl aM hm1.fresh (fun _=>bF)) rfl ?_;rintro _ K _ ⟨rfl,hN13⟩ -;rcases hN13 with ⟨rfl,rfl,hall⟩|⟨e,he,hne,rfl,rfl⟩
 ·refine zz15 ?_;refine cA (bP aAH rfl rfl cJ bF (.succ (.succ .zero)) rfl) ?_;rintro _ K _ ⟨rfl,rfl⟩ -;refine zz6 ?_;refine uAn ?_;rintro _ K _ ⟨rfl,rfl⟩ -;refine aG ?_;refine fK (eF oD) ?_;refine aU (.cons (.there (.there .here)) (.cons (.there (.there (.there .here))) (.cons (.there (.there .here)) (.cons .here .nil)))) ?_;refine fK (pH (s:=⟨dur,dur,[],l,f,false⟩) ⟨m1,b5,es1,c1,es3,c3,_,hm1,hpo.full hm1 hall,(fun o h=>by cases h),rfl,rfl⟩) ?_;refine zz1 ?_;exact⟨_,rfl,rfl,rfl,rfl⟩
 refine zz10 ?_;refine aA (aHE (m:=m1) rfl aM hm1.fresh he gAX) rfl ?_;refine zz13 ?_;refine cA (bAH Tryz.underlying107 Tryz.underlying9 rfl rfl rfl bF) ?_;rintro _ K _ ⟨rfl,rfl⟩ -;refine zz2 ?_;exact iU (seen++[e.2.2]) _ _ (hpo.step hm1.nd hm1.fresh.nd he) (aTF he hne) (.cons 0 rfl (.cons 12 rfl .nil)) rfl (fun _ h=>h)
def gQ(f:DMap)(ys:List fY):Prop:=(∀n d,(n,d)∈ys↔f n=some d)∧ys.Pairwise fun a b=>a.1 < b.1
def aDC(K:Hl)(es:List Ent)(seen:List Nat)(xs:List fY):Prop:=(xs.map (·.1)).Nodup∧∀n d,(n,d)∈xs↔∃e∈es,e.2.2∈seen∧e.1=n∧yM K e.2.1 d
def lQ(xs:List fY)(f:DMap):DMap:=xs.foldl (fun f x=>f.put x.1 x.2) f
theorem bRC(v:Value)(xs:List fY)(K:Hl)(hv:Ksl cD K v xs)(hn:xs.length≤1000000):Sp Tryz.prog 45 [v] K []
  (Ret fun r K' L'=>∃b,r=ptr b∧L'=[dsk K' b ⟨lQ xs (fun _=>none),lQ xs (fun _=>none),[],-1,-1,false⟩]):=by
 refine a8 Tryz.func45 rfl Tryz.ntmps45 rfl rfl fun F w=>?_;refine zz7 ?_;refine cC qT rfl ?_;rintro _ K _ ⟨b7,rfl,rfl,rfl⟩ -;refine aA (cL bUI bR9 (.cons rfl rfl rfl (.cons .nil) (.cons rfl rfl rfl (.skip (.skip (.skip (.cons .nil)))) (.cons rfl rfl rfl (.skip (.skip (.skip (.skip (.cons .nil))))) .nil)))) rfl ?_;refine zz1 ?_;rintro _ K _ ⟨b9,rfl,rfl,rfl⟩ -;refine zz7 ?_;refine aA (bO (k:=cD) rfl Tryz.underlying62 rfl (.known hv)) rfl ?_;refine zz4 ?_;refine n8 (fun(i:Nat) (K2:Hl) (es:List Ent) (c:Nat)=>i≤xs.length∧K.le K2∧MapOk K2 es c (lQ (xs.take i) (fun _=>none))) (fun i _ _ _=>[(3,ptr b9),(10,v),(11,i64 xs.length),(12,i64 i)]) (fun _ K2 _ _=>K2) (fun _ _ es c=>[pt b9 (dskO (.map (some b7)) (.map none) (.slice none 0 0) (-1) (-1) false),pt b7 (mapO es c)]) (fun i _ _ _=>xs.length - i) 0 K [] 0 ⟨Nat.zero_le _,Hl.le_refl _,MapOk.nil⟩ (.cons 3 rfl (.cons 10 rfl (.cons 11 rfl (.cons 12 rfl .nil)))) rfl (fun _ h=>h) ?_;intro i K2 es c ⟨hi,leL,hmi⟩;refine zz6 ?_;refine bK 13 rfl (fun h13=>?_) (fun h13=>?_)
 ·have hlt:i < xs.length:=by omega
  obtain⟨o,hx⟩:∃o,xs[i]?=some o:=⟨xs[i]'hlt,List.getElem?_eq_getElem hlt⟩;have hv2:=hv.mono leL;refine zz6 ?_;refine aA (bE (k:=cD) eK rfl (.known hv2) rfl rfl gAD) rfl ?_;refine aA (dC (n:=0) (k:=cD) kD rfl (.known hv2) cB) rfl ?_;refine zz1 ?_;rintro _ K _ ⟨b5,rfl,rfl,rfl⟩ -;refine cA (cK kD rfl rfl rfl bF gAA (.cons (.cons .nil)) gAJ) ?_;rintro _ K _ ⟨rfl,rfl⟩ -;refine zz7 ?_;rintro _ K _ ⟨b6,rfl,rfl,rfl⟩ -;refine uAy ?_;rintro _ K _ ⟨rfl,rfl⟩ -;refine zz2 ?_;refine l8 fun K3 le3 hb6=>?_;refine dD (anc:=[0,1,3,7,0,16,63]) (ord:=[0,1,2,3,4,5,6]) [6] [6] mixed gAH (dI _) ?_;refine zz6 ?_;refine mS rfl rfl (.none rfl) rfl (bAH Tryz.underlying107 Tryz.underlying9 rfl rfl rfl bF) ?_;rintro _ K _ ⟨rfl,rfl⟩ -;refine zz7 ?_;refine uAt ?_;exact gS (i+1) _ _ _ ⟨hlt,Hl.le_trans leL le3,by rw[List.take_succ_eq_append_getElem hlt];rw[List.getElem?_eq_getElem hlt]at hx;cases hx;unfold lQ;rw[List.foldl_append];exact(hmi.mono le3).put ⟨_,_,_,rfl,hb6⟩⟩ aI (.cons 3 rfl (.cons 10 rfl (.cons 11 rfl (.cons 12 rfl .nil)))) rfl (fun _ h=>h)
 have hie:i=xs.length:=by omega
 subst hie;rw[List.take_length]at hmi;refine zz8 ?_;refine aX rfl rfl (bLK b9 b7 es c _ _ (-1) (-1) false _ _ hmi) (.cons .here (.cons .here .nil)) rfl ?_;rintro _ K5 _ ⟨rfl,rfl,rfl⟩ -;refine zz9 ?_;refine uAa ?_;refine bD rfl rfl leL ?_;exact⟨_,rfl,b9,rfl,rfl⟩
theorem vP{α:Type}[DecidableEq α]:∀ {l ns:List α},l.Nodup→(∀x∈l,x∈ns)→l.length≤ns.length
 | [],_,_,_=>Nat.zero_le _
 |a::r,ns,nd,h=>by
  have nd':=List.nodup_cons.1 nd;have ha:=h a List.mem_cons_self;have:=vP (ns:=ns.erase a) nd'.2 fun x hx=>(List.mem_erase_of_ne (fun e:x=a=>nd'.1 (by rw[←e];exact hx))).2 (h x (List.mem_cons_of_mem _ hx))
  rw[List.length_erase_of_mem ha]at this;have:=List.length_pos_of_mem ha;simp only[List.length_cons];omega
def uI(f:DMap)(ns:List aJ):Prop:=∀n,(f n).isSome=true→n∈ns
theorem bM8{K:Hl}{es:List Ent}{c:Nat}{f:DMap}{ns:List aJ}(hm:MapOk K es c f)(hd:uI f ns):es.length≤ns.length:=by
 have:=vP (ns:=ns) hm.nd fun x hx=>hd x (by rw[←hm.isSome x];exact(zM es).2 hx)
 simpa using this
theorem aT2{K:Hl}{es:List Ent}{seen:List Nat}{xs:List fY}(h:aDC K es seen xs):xs.length≤es.length:=by
 have:=vP (ns:=es.map (·.1)) h.1 fun x hx=>by
  obtain⟨⟨n,d⟩,hm,rfl⟩:=List.mem_map.1 hx;obtain⟨e,he,_,rfl,_⟩:=(h.2 n d).1 hm;exact List.mem_map_of_mem (f:=fun e:Ent=>e.1) he
 simpa using this
theorem yM.one{K:Hl}{v:Value}{d d':aJ}(h:yM K v d)(h':yM K v d'):d=d':=by
 obtain⟨b,T,fz,rfl,hb⟩:=h;obtain⟨b',T',fz',e,hb'⟩:=h';have:b=b':=by injection e with e;injection e with e;injection e
 subst this;rw[hb]at hb'
 injection hb' with e2;injection e2 with e3 e4 e5
 have:=congrArg Array.toList e3;simp at this;exact this
theorem zO{es:List Ent}{e:Ent}(nd:(es.map (·.1)).Nodup)(he:e∈es):mget es e.1=some e.2.1:=by
 unfold mget;rw[aD7 nd he];rfl
theorem aDC.nil{K:Hl}{es:List Ent}:aDC K es [] []:=⟨List.nodup_nil,fun n d=>by simp⟩
theorem aDC.step{K:Hl}{es:List Ent}{c:Nat}{f:DMap}{seen:List Nat}{xs:List fY}{e:Ent}{d:aJ}(hm:MapOk K es c f)(h:aDC K es seen xs)(he:e∈es)(hn:e.2.2∉seen)(hd:yM K e.2.1 d):aDC K es (seen++[e.2.2]) (xs++[(e.1,d)]):=by
 have hnew:e.1∉xs.map (·.1):=by
  intro hx;obtain⟨⟨n,d'⟩,hmm,e1⟩:=List.mem_map.1 hx;obtain⟨e',he',hs',hn',_⟩:=(h.2 n d').1 hmm;have e1':n=e.1:=e1;have:e'=e:=by
   have a:=aD7 hm.nd he;have b:=aD7 hm.nd he'
   rw[hn',e1']at b;rw[a]at b;injection b with b;exact b.symm
  exact hn (this▸hs')
 refine⟨?_,fun n d'=>?_⟩
 ·rw[List.map_append,List.nodup_append];refine⟨h.1,by simp,fun a ha b hb=>?_⟩
  rintro rfl;simp at hb;subst hb;exact hnew ha
 rw[List.mem_append,h.2]
 constructor
 ·rintro(⟨e',he',hs',hn',hd'⟩|hq)
  ·exact⟨e',he',List.mem_append_left _ hs',hn',hd'⟩
  rw[List.mem_singleton]at hq;cases hq
  exact⟨e,he,List.mem_append_right _ (List.mem_singleton.2 rfl),rfl,hd⟩
 rintro⟨e',he',hs',hn',hd'⟩;rcases List.mem_append.1 hs' with hs'|hs'
 ·exact .inl ⟨e',he',hs',hn',hd'⟩
 rw[List.mem_singleton]at hs';have:e'=e:=by
  have key:∀(l:List Ent),(l.map (·.2.2)).Nodup→e'∈l→e∈l→e'=e:=by
   intro l;induction l with
   |nil=>intro _ h;cases h
   |cons a r ih=>
    intro nd h1 h2;have nd':=List.nodup_cons.1 nd;rcases List.mem_cons.1 h1 with e1|g1 <;> rcases List.mem_cons.1 h2 with e2|g2
    ·exact e1.trans e2.symm
    ·exact absurd (by have:=List.mem_map_of_mem (f:=fun e:Ent=>e.2.2) g2;rw[←hs',e1]at this;exact this) nd'.1
    ·exact absurd (by have:=List.mem_map_of_mem (f:=fun e:Ent=>e.2.2) g1;rw[hs',e2]at this;exact this) nd'.1
    exact ih nd'.2 g1 g2
  exact key es hm.fresh.nd he' he
 subst this;rw[←hn',hd'.one hd];exact .inr (List.mem_singleton.2 rfl)
theorem aXA{K:Hl}{es:List Ent}{c:Nat}{f:DMap}{seen:List Nat}{xs ys:List fY}(hm:MapOk K es c f)(h:aDC K es seen xs)(hall:∀e∈es,e.2.2∈seen)(hp:ys.Perm xs)(ho:aAO ys):gQ f ys:=by
 refine⟨fun n d=>?_,?_⟩
 ·rw[hp.mem_iff,h.2]
  constructor
  ·rintro⟨e,he,_,rfl,hd⟩;obtain⟨d',h1,h2⟩:=hm.has _ _ (zO hm.nd he);rw[h1,hd.one h2]
  intro hf;cases hg:mget es n with
  |none=>rw[hm.lacks n hg]at hf;cases hf
  |some v=>
   obtain⟨d',h1,h2⟩:=hm.has _ _ hg;have hk:=(zM (k:=n) es).1 (by rw[hg];rfl);obtain⟨e,he,rfl⟩:=List.mem_map.1 hk;rw[zO hm.nd he]at hg;cases hg
   rw[h1]at hf;cases hf
   exact⟨e,he,hall e he,rfl,h2⟩
 have nd:(ys.map (·.1)).Nodup:=(hp.map _).nodup_iff.2 h.1;rw[List.Nodup,List.pairwise_map]at nd;refine(ho.and nd).imp ?_;rintro a b ⟨h1,h2⟩;rcases List.le_iff_lt_or_eq.1 (List.not_lt.1 h1)with h|h
 ·exact h
 exact absurd h h2
theorem bHJ(b:Nat)(s:DSt)(ns:List aJ)(hdom:uI s.dur ns)(hns:ns.length≤1000000)(K K0:Hl)(le:K0.le K):Sp Tryz.prog 49 [ptr b] K [dsk K0 b s]
  (Ret fun r K' L'=>K'=K∧∃ys,gQ s.dur ys∧L'=[sl false cD r ys,dsk K' b s]):=by
 refine aLL ⟨_,Tryz.func49,rfl,rfl⟩ fun L hd=>?_;rw[List.append_nil];obtain⟨m1,m2,es1,c1,es2,c2,pv,hm1,hm2,hop,hpv,rfl⟩:=hd;obtain⟨dur,now,pend,l,f,dn⟩:=s;simp only at hm1 hm2 hop hdom;have hm1':=hm1.mono le;have hkl:=bM8 hm1 hdom;refine a8 Tryz.func49 rfl Tryz.ntmps49 rfl rfl fun F w=>?_;refine zz8 ?_;rintro _ K _ ⟨b3,rfl,rfl,rfl⟩ -;refine zz9 ?_;refine cC (aLH Tryz.underlying107 rfl aM) rfl ?_;rintro _ K _ ⟨b10,rfl,rfl,rfl⟩ -;refine zz3 ?_;refine kF (eF cD) ?_;refine z8 (.cons (.there .here) (.cons (.there .here) (.cons .here (.cons .here (.cons .here (.cons .here (.cons .here .nil))))))) ?_;refine n7 (fun(seen:List Nat) (xs:List fY) (v:Value)=>aDC K es1 seen xs∧v.oneCell'=true) (fun _ _ _=>[(0,ptr b),(3,ptr b3),(10,ptr b10)]) (fun _ _ _=>K) (fun seen xs v=>[mit b10 m1 c1 seen c1,pt b3 (aZ [v] 62),sl false cD v xs,pt b (dskO (.map (some m1)) (.map (some m2)) pv l f dn),pt m1 (mapO es1 c1),pt m2 (mapO es2 c2),sl false oD pv pend]) (fun seen _ _=>aNM es1 seen) [] [] (.slice none 0 0) ⟨aDC.nil,rfl⟩ (.cons 0 rfl (.cons 3 rfl (.cons 10 rfl .nil))) rfl (fun _ h=>h) ?_;intro seen xs v ⟨hpo,hv1⟩;refine zz2 ?_;refine cC (aOE (m:=m1) rfl aM hm1.fresh (fun _=>bF)) rfl ?_;rintro _ K _ ⟨rfl,hN11⟩ -;rcases hN11 with ⟨rfl,rfl,hall⟩|⟨e,he,hne,rfl,rfl⟩
 ·refine zz13 ?_;refine aA (cY Tryz.underlying62 (fun _ h=>by cases h) rfl) rfl ?_;refine zz1 ?_;refine aX rfl rfl (bN9 b3 false v xs (by have:=aT2 hpo;omega) _) (.cons (.there .here) (.cons (.there .here) .nil)) rfl ?_;rintro _ K6 _ ⟨rfl,rfl,ys,hperm,hord,rfl⟩ -;refine zz9 ?_;refine aU (.cons (.there .here) (.cons (.there (.there .here)) (.cons (.there (.there .here)) (.cons (.there (.there .here)) (.cons (.there (.there .here)) .nil))))) ?_;refine fK (fun _=>fE (pH (s:=⟨dur,now,pend,l,f,dn⟩) ⟨m1,m2,es1,c1,es2,c2,pv,hm1',hm2.mono le,hop,hpv,rfl⟩)) ?_;refine zz1 ?_;exact⟨_,rfl,rfl,ys,aXA hm1' hpo hall hperm hord,rfl⟩
 obtain⟨d,hfd,sb,sT,sfz,hde,hdb⟩:=hm1'.has _ _ (zO hm1.nd he);have hxl:=aT2 hpo;refine zz10 ?_;refine aA (aHE (m:=m1) rfl aM hm1.fresh he gAX) rfl ?_;refine zz1 ?_;refine aA (aQ (v:=ptr sb) rfl (by simp[hde])) rfl ?_;refine zz4 ?_;refine dD (anc:=[0,0,0,4,12,30,62,127,255]) (ord:=[0,1,2,3,4,5,6,7,8]) [6,7,8] [7,8] mixed gAH (.cons (.there .here) .nil) ?_;refine zz4 ?_;refine aK rfl rfl (.none rfl) rfl rfl (aL ts9 rfl (.known hdb) rfl) rfl ?_;refine uBu ?_;refine sY rfl rfl (.none rfl) rfl rfl (bH (z0:=[(str []),(str [])]) eK aID rfl rfl rfl rfl (.cons rfl rfl rfl (.cons (.cons .nil)) .nil)) rfl ?_;rintro _ K _ ⟨b22,rfl,rfl,rfl⟩ -;refine⟨_,(show Tks _ _ _ from (.cons (.there .here) .nil)).sat,?_⟩
 refine aSJ rfl rfl (.none rfl) rfl (dN (k:=cD) (ys:=[((e.1,d):fY)]) jC rfl rfl (.there (.there (.there .here))) (fun w j=>dE Tryz.underlying62 (SeesSl.at (k:=cD) (.blk (.own (.there .here)) rfl rfl) j)) (by show (xs.length+1)*32≤140737488355328;omega) (by show xs.length+1≤9223372036854775807;omega)) rfl ?_;rintro v23 K _ ⟨rfl,rfl,ho23⟩ -;refine mS rfl rfl (.none rfl) rfl (bP bE8 rfl rfl cJ bF .zero rfl) ?_;rintro _ K _ ⟨rfl,rfl⟩ -;refine zz2 ?_;refine aU (.cons (.there (.there (.there .here))) (.cons (.there .here) (.cons .here (.cons (.there .here) (.cons (.there .here) (.cons (.there .here) (.cons (.there .here) .nil))))))) ?_;exact iU (seen++[e.2.2]) _ _ ⟨hpo.step hm1' he hne ⟨_,_,_,hde,hdb⟩,ho23⟩ (aTF he hne) (.cons 0 rfl (.cons 3 rfl (.cons 10 rfl .nil))) rfl (fun _ h=>h)
theorem aL7(n:Int): -9223372036854775808≤IntKind.i64.wrap n∧IntKind.i64.wrap n≤9223372036854775807:=by
 unfold IntKind.wrap;simp[IntKind.bits,IntKind.signed];split <;> omega
theorem aKY(c m:Int)(n:Nat)(K:Hl)(hm:m=n)(h1: -9223372036854775808≤c)(h2:c≤9223372036854775807)(hn:0 < n):Sp Tryz.prog 80 [i64 c,i64 m] K [] (Ret fun v K' L'=>∃r:Nat,v=i64 r∧r < n∧K'=K∧L'=[]):=by
 subst hm;refine a8 Tryz.func80 rfl Tryz.ntmps80 rfl rfl fun F w=>?_;refine zz5 ?_;refine gV (fun(d:Int)=>0≤d) (fun d=>[(0,i64 d),(1,i64 n)]) (fun _=>K) (fun _=>[]) ?_ ?_
 ·refine zz6 ?_;refine bK 6 rfl (fun h6=>?_) (fun h6=>?_)
  ·refine zz3 ?_;refine aA (bHG rfl aI aI) rfl ?_;refine zz2 ?_
   first|exact cN (-(c+1)) aI (.cons 0 rfl (.cons 1 rfl .nil)) rfl (fun _ h=>h)|exact cN c aI (.cons 0 rfl (.cons 1 rfl .nil)) rfl (fun _ h=>h)
  refine aW ?_
  first|exact cN (-(c+1)) aI (.cons 0 rfl (.cons 1 rfl .nil)) rfl (fun _ h=>h)|exact cN c aI (.cons 0 rfl (.cons 1 rfl .nil)) rfl (fun _ h=>h)
 intro d hd;refine zz4 ?_;refine aA (aPT rfl rfl aI) rfl ?_;refine zz5 ?_;exact⟨_,rfl,_,by rw[bE4 hd],Nat.mod_lt _ hn,rfl,rfl⟩
theorem aJH(b:Nat)(s:DSt)(kept part:Int)(hpl:s.pend.length≤1000000)(hdl:∀o∈s.pend,o.data.length≤140737488355328)(hk1: -9223372036854775808≤part)(hk2:part≤9223372036854775807)(K K0:Hl)(le:K0.le K):Sp Tryz.prog 47 [ptr b,i64 kept,i64 part] K [dsk K0 b s]
  (Ret fun r K' L'=>r=.tuple #[]∧∃t,aC9 s t∧L'=[dsk K' b t]):=by
 refine aLL ⟨_,Tryz.func47,rfl,rfl⟩ fun L hd=>?_;rw[List.append_nil];obtain⟨m1,m2,es1,c1,es2,c2,pv,hm1,hm2,hop,hpv,rfl⟩:=hd;obtain⟨dur,now,pend,l,f,dn⟩:=s;simp only at hm1 hm2 hop hpl hdl;refine a8 Tryz.func47 rfl Tryz.ntmps47 rfl rfl fun F w=>?_;refine zz7 ?_;refine aA (bO (k:=oD) (xs:=pend) rfl Tryz.underlying108 rfl aM) rfl ?_;refine zz1 ?_;refine aX rfl rfl (aKY part _ (pend.length+1) _ aI hk1 hk2 aI) .nil rfl ?_;rintro _ K _ ⟨r,rfl,hr,rfl,rfl⟩ -;refine zz10 ?_;refine aA (bO (k:=oD) (xs:=pend) rfl Tryz.underlying108 rfl aM) rfl ?_;refine zz4 ?_;refine z8 (.cons .here (.cons .here (.cons (.there .here) .nil))) ?_;refine n8 (fun(i:Nat) (K2:Hl) (es:List Ent) (c:Nat)=>i≤pend.length∧K.le K2∧∃g,MapOk K2 es c g∧CrI pend dur r i g) (fun i _ _ _=>[(0,ptr b),(1,i64 kept),(2,i64 part),(6,i64 r),(22,pv),(23,i64 pend.length),(24,i64 i)]) (fun _ K2 _ _=>K2) (fun _ _ es c=>[pt b (dskO (.map (some m1)) (.map (some m2)) pv l f dn),pt m1 (mapO es c),sl false oD pv pend]) (fun i _ _ _=>pend.length - i) 0 K es1 c1 ⟨Nat.zero_le _,Hl.le_refl _,dur,hm1.mono le,CrI.init⟩ (.cons 0 rfl (.cons 1 rfl (.cons 2 rfl (.cons 6 rfl (.cons 22 rfl (.cons 23 rfl (.cons 24 rfl .nil))))))) rfl (fun h hh=>hh) ?_;intro i K2 es c ⟨hi,leL,g,hmi,hci⟩;refine zz6 ?_;refine bK 25 rfl (fun h25=>?_) (fun h25=>?_)
 ·have hlt:i < pend.length:=by omega
  obtain⟨o,hx⟩:∃o,pend[i]?=some o:=⟨pend[i]'hlt,List.getElem?_eq_getElem hlt⟩;have hoo:=hop o (List.mem_of_getElem? hx);have hol:=hdl o (List.mem_of_getElem? hx);refine zz2 ?_;refine xU (fun(ec:List Ent×Nat) (K3:Hl)=>K2.le K3∧∃g3,MapOk K3 ec.1 ec.2 g3∧CrI pend dur r (i+1) g3) (fun _ _=>[(0,ptr b),(1,i64 kept),(2,i64 part),(6,i64 r),(22,pv),(23,i64 pend.length),(24,i64 i)]) (fun _ K3=>K3) (fun ec _=>[pt b (dskO (.map (some m1)) (.map (some m2)) pv l f dn),pt m1 (mapO ec.1 ec.2),sl false oD pv pend]) ?_ ?_
  ·refine zz4 ?_;refine aA (bE (k:=oD) rR rfl aM rfl rfl gAD) rfl ?_;refine aA (dC (n:=0) (k:=oD) nA rfl aM cB) rfl ?_;refine zz1 ?_;rintro _ K _ ⟨b8,rfl,rfl,rfl⟩ -;refine zz1 ?_;refine cA (cK nA rfl rfl rfl bF gAA (.cons (.cons (.cons (.cons .nil)))) gAJ) ?_;rintro _ K _ ⟨rfl,rfl⟩ -;refine zz7 ?_;refine aA (aPT rfl rfl aI) rfl ?_;refine aA (aW3 rfl rfl (by exact Int.tmod_nonneg _ aI)) rfl ?_;refine aA (aIJ rfl rfl) rfl ?_;refine zz3 ?_;refine bK 34 rfl (fun h34=>?_) (fun h34=>?_)
   ·refine zz3 ?_
    first|(refine aU (.cons (.there (.there .here)) (.cons .here (.cons (.there .here) .nil))) ?_;exact iP (es3,c3) K3 ⟨le3,_,hm3,hci.do hx hdd⟩ (.cons 0 rfl (.cons 1 rfl (.cons 2 rfl (.cons 6 rfl (.cons 22 rfl (.cons 23 rfl (.cons 24 rfl .nil))))))) rfl (fun _ h=>h))|(refine aU (.cons (.there .here) (.cons (.there .here) (.cons (.there .here) .nil))) ?_;exact iP (es,c) K ⟨Hl.le_refl _,g,hmi,hci.lost hx⟩ (.cons 0 rfl (.cons 1 rfl (.cons 2 rfl (.cons 6 rfl (.cons 22 rfl (.cons 23 rfl (.cons 24 rfl .nil))))))) rfl (fun _ h=>h))|(refine aU (.cons (.there .here) (.cons (.there .here) (.cons (.there .here) .nil))) ?_;exact iP (es,c) K ⟨Hl.le_refl _,g,hmi,hci.none hx h70 (hmi.lacks _ hg)⟩ (.cons 0 rfl (.cons 1 rfl (.cons 2 rfl (.cons 6 rfl (.cons 22 rfl (.cons 23 rfl (.cons 24 rfl .nil))))))) rfl (fun _ h=>h))
   refine zz2 ?_;refine gV (fun(d:aJ)=>d=o.data∨o.kind=1∧i=r∧d<+:o.data) (fun _=>[(0,ptr b),(1,i64 kept),(2,i64 part),(6,i64 r),(8,ptr b8),(22,pv),(23,i64 pend.length),(24,i64 i)]) (fun _=>K) (fun d=>[pt b8 (aZ [i64 o.kind,str o.name,str o.to,str d] 165),pt b (dskO (.map (some m1)) (.map (some m2)) pv l f dn),pt m1 (mapO es c),sl false oD pv pend]) ?_ ?_
   ·refine zz6 ?_;refine cH 38 rfl (fun g38=>?_) (fun g38=>?_)
    ·refine zz9 ?_;refine bK 42 rfl (fun h42=>?_) (fun h42=>?_)
     ·refine dD (anc:=[0,1,0,4,0,16,48,112,252,511,1023,2047]) (ord:=[0,1,2,3,4,5,6,7,8,9,10,11]) [8,11] [11] mixed gAH (.cons .here .nil) ?_;refine zz3 ?_;refine aK rfl rfl (.none rfl) rfl rfl (aW2 rfl rfl aI) rfl ?_;refine zz4 ?_;refine aII rfl (.none rfl) rfl rfl rfl rfl (aKY _ _ (o.data.length+1) _ aI (aL7 _).1 (aL7 _).2 aI) .nil rfl ?_;rintro _ K _ ⟨q,rfl,hq,rfl,rfl⟩ -;refine⟨_,(show Tks _ _ _ from (.cons .here .nil)).sat,?_⟩
      refine uBo ?_;refine zz1 ?_;refine mS rfl rfl (.none rfl) rfl (bP ts9 rfl rfl cJ bF (.succ (.succ (.succ .zero))) rfl) ?_;rintro _ K _ ⟨rfl,rfl⟩ -;refine cO ?_
      first|exact cN _ (.inr ⟨g38,by omega,List.take_prefix _ _⟩) (.cons 0 rfl (.cons 1 rfl (.cons 2 rfl (.cons 6 rfl (.cons 8 rfl (.cons 22 rfl (.cons 23 rfl (.cons 24 rfl .nil)))))))) rfl (fun _ h=>h)|exact cN o.data (.inl rfl) (.cons 0 rfl (.cons 1 rfl (.cons 2 rfl (.cons 6 rfl (.cons 8 rfl (.cons 22 rfl (.cons 23 rfl (.cons 24 rfl .nil)))))))) rfl (fun _ h=>h)
     refine aW ?_
     first|exact cN _ (.inr ⟨g38,by omega,List.take_prefix _ _⟩) (.cons 0 rfl (.cons 1 rfl (.cons 2 rfl (.cons 6 rfl (.cons 8 rfl (.cons 22 rfl (.cons 23 rfl (.cons 24 rfl .nil)))))))) rfl (fun _ h=>h)|exact cN o.data (.inl rfl) (.cons 0 rfl (.cons 1 rfl (.cons 2 rfl (.cons 6 rfl (.cons 8 rfl (.cons 22 rfl (.cons 23 rfl (.cons 24 rfl .nil)))))))) rfl (fun _ h=>h)
    refine zz8 ?_
    first|exact cN _ (.inr ⟨g38,by omega,List.take_prefix _ _⟩) (.cons 0 rfl (.cons 1 rfl (.cons 2 rfl (.cons 6 rfl (.cons 8 rfl (.cons 22 rfl (.cons 23 rfl (.cons 24 rfl .nil)))))))) rfl (fun _ h=>h)|exact cN o.data (.inl rfl) (.cons 0 rfl (.cons 1 rfl (.cons 2 rfl (.cons 6 rfl (.cons 8 rfl (.cons 22 rfl (.cons 23 rfl (.cons 24 rfl .nil)))))))) rfl (fun _ h=>h)
   intro d hdd;cases hg:mget es o.name
   ·refine zz2 ?_;refine dD (anc:=[0,1,3,7,0,16,63,127,255,255,511,2047]) (ord:=[0,1,2,3,4,5,6,7,8,9,10,11]) [] [] mixed gAH (dI _) ?_;refine zz6 ?_;refine aK rfl rfl (.none rfl) rfl rfl (s5 Tryz.underlying107 Tryz.underlying9 aO2 rfl rfl aM hg) rfl ?_;refine zz21 ?_;refine bK 70 rfl (fun h70=>?_) (fun h70=>?_)
    ·refine zz3 ?_
     first|(refine aU (.cons (.there (.there .here)) (.cons .here (.cons (.there .here) .nil))) ?_;exact iP (es3,c3) K3 ⟨le3,_,hm3,hci.do hx hdd⟩ (.cons 0 rfl (.cons 1 rfl (.cons 2 rfl (.cons 6 rfl (.cons 22 rfl (.cons 23 rfl (.cons 24 rfl .nil))))))) rfl (fun _ h=>h))|(refine aU (.cons (.there .here) (.cons (.there .here) (.cons (.there .here) .nil))) ?_;exact iP (es,c) K ⟨Hl.le_refl _,g,hmi,hci.lost hx⟩ (.cons 0 rfl (.cons 1 rfl (.cons 2 rfl (.cons 6 rfl (.cons 22 rfl (.cons 23 rfl (.cons 24 rfl .nil))))))) rfl (fun _ h=>h))|(refine aU (.cons (.there .here) (.cons (.there .here) (.cons (.there .here) .nil))) ?_;exact iP (es,c) K ⟨Hl.le_refl _,g,hmi,hci.none hx h70 (hmi.lacks _ hg)⟩ (.cons 0 rfl (.cons 1 rfl (.cons 2 rfl (.cons 6 rfl (.cons 22 rfl (.cons 23 rfl (.cons 24 rfl .nil))))))) rfl (fun _ h=>h))
    refine zz2 ?_;refine dD (anc:=[0,1,3,7,0,31]) (ord:=[0,1,2,3,4,5]) [5] [5] mixed gAH (dI _) ?_;refine zz5 ?_;refine iJ rfl (.none rfl) rfl rfl rfl (yV m1 es c _ {o with data:=d} hoo _ hmi) (.cons (.there (.there .here)) .nil) rfl ?_;rintro _ K3 _ ⟨rfl,es3,c3,hm3,rfl⟩ le3;refine zz2 ?_
    first|(refine aU (.cons (.there (.there .here)) (.cons .here (.cons (.there .here) .nil))) ?_;exact iP (es3,c3) K3 ⟨le3,_,hm3,hci.do hx hdd⟩ (.cons 0 rfl (.cons 1 rfl (.cons 2 rfl (.cons 6 rfl (.cons 22 rfl (.cons 23 rfl (.cons 24 rfl .nil))))))) rfl (fun _ h=>h))|(refine aU (.cons (.there .here) (.cons (.there .here) (.cons (.there .here) .nil))) ?_;exact iP (es,c) K ⟨Hl.le_refl _,g,hmi,hci.lost hx⟩ (.cons 0 rfl (.cons 1 rfl (.cons 2 rfl (.cons 6 rfl (.cons 22 rfl (.cons 23 rfl (.cons 24 rfl .nil))))))) rfl (fun _ h=>h))|(refine aU (.cons (.there .here) (.cons (.there .here) (.cons (.there .here) .nil))) ?_;exact iP (es,c) K ⟨Hl.le_refl _,g,hmi,hci.none hx h70 (hmi.lacks _ hg)⟩ (.cons 0 rfl (.cons 1 rfl (.cons 2 rfl (.cons 6 rfl (.cons 22 rfl (.cons 23 rfl (.cons 24 rfl .nil))))))) rfl (fun _ h=>h))
   refine zz2 ?_;refine dD (anc:=[0,1,3,7,0,16,63,127,255,255,511,2047]) (ord:=[0,1,2,3,4,5,6,7,8,9,10,11]) [] [] mixed gAH (dI _) ?_;refine zz6 ?_;refine aK rfl rfl (.none rfl) rfl rfl (xA Tryz.underlying107 Tryz.underlying9 aO2 rfl rfl aM hg) rfl ?_;refine zz21 ?_;refine dD (anc:=[0,1,3,7,0,31]) (ord:=[0,1,2,3,4,5]) [5] [5] mixed gAH (dI _) ?_;refine zz5 ?_;refine iJ rfl (.none rfl) rfl rfl rfl (yV m1 es c _ {o with data:=d} hoo _ hmi) (.cons (.there (.there .here)) .nil) rfl ?_;rintro _ K3 _ ⟨rfl,es3,c3,hm3,rfl⟩ le3;refine zz2 ?_
   first|(refine aU (.cons (.there (.there .here)) (.cons .here (.cons (.there .here) .nil))) ?_;exact iP (es3,c3) K3 ⟨le3,_,hm3,hci.do hx hdd⟩ (.cons 0 rfl (.cons 1 rfl (.cons 2 rfl (.cons 6 rfl (.cons 22 rfl (.cons 23 rfl (.cons 24 rfl .nil))))))) rfl (fun _ h=>h))|(refine aU (.cons (.there .here) (.cons (.there .here) (.cons (.there .here) .nil))) ?_;exact iP (es,c) K ⟨Hl.le_refl _,g,hmi,hci.lost hx⟩ (.cons 0 rfl (.cons 1 rfl (.cons 2 rfl (.cons 6 rfl (.cons 22 rfl (.cons 23 rfl (.cons 24 rfl .nil))))))) rfl (fun _ h=>h))|(refine aU (.cons (.there .here) (.cons (.there .here) (.cons (.there .here) .nil))) ?_;exact iP (es,c) K ⟨Hl.le_refl _,g,hmi,hci.none hx h70 (hmi.lacks _ hg)⟩ (.cons 0 rfl (.cons 1 rfl (.cons 2 rfl (.cons 6 rfl (.cons 22 rfl (.cons 23 rfl (.cons 24 rfl .nil))))))) rfl (fun _ h=>h))
  intro ec K3 ⟨le3,g3,hm3,hc3⟩;refine zz4 ?_;exact gS (i+1) K3 ec.1 ec.2 ⟨hlt,Hl.le_trans leL le3,g3,hm3,hc3⟩ aI (.cons 0 rfl (.cons 1 rfl (.cons 2 rfl (.cons 6 rfl (.cons 22 rfl (.cons 23 rfl (.cons 24 rfl .nil))))))) rfl (fun _ h=>h)
 have hie:i=pend.length:=by omega
 subst hie;refine zz11 ?_;refine cA (bP ts3 rfl rfl cJ bF (.succ (.succ (.succ .zero))) rfl) ?_;rintro _ K _ ⟨rfl,rfl⟩ -;refine zz2 ?_;refine uBc ?_;rintro _ K _ ⟨rfl,rfl⟩ -;refine zz4 ?_;refine aX rfl rfl (bLK b m1 es c _ _ (-1) (-1) dn _ _ hmi) (.cons .here (.cons .here .nil)) rfl ?_;rintro _ K5 _ ⟨rfl,rfl,rfl⟩ -;refine uAz ?_;refine dK rfl leL ?_;exact⟨_,rfl,rfl,⟨g,g,[],-1,-1,false⟩,⟨hci.done,rfl,rfl,rfl,rfl,rfl⟩,rfl⟩
end Go.Proofs
end
section
namespace Go.Box
open Go.Syn Go.Proofs Go.SL
structure Up (k:Nat) (s:DSt):Prop where
 down:s.down=false
 l1:s.left < 0
 l2: -1 - (k:Int)≤s.left
 f1:s.full < 0
 f2: -1 - (k:Int)≤s.full
def DSt.dec(s:DSt):DSt:={s with left:=s.left - 1,full:=s.full - 1}
theorem Up.more{k j:Nat}{s:DSt}(h:Up k s)(hj:k≤j):Up j s:=⟨h.down,h.l1,by have:=h.l2;omega,h.f1,by have:=h.f2;omega⟩
theorem Up.dec{k:Nat}{s:DSt}(h:Up k s):Up (k+1) s.dec:=⟨h.down,by have:=h.l1;simp only[DSt.dec];omega,by have:=h.l2;simp only[DSt.dec];omega,by have:=h.f1;simp only[DSt.dec];omega,by have:=h.f2;simp only[DSt.dec];omega⟩
theorem Up.told{k:Nat}{s:DSt}(h:Up k s)(o:OpR):Up k (s.told o):=⟨h.down,h.l1,h.l2,h.f1,h.f2⟩
theorem Up.flush{k:Nat}{s:DSt}(h:Up k s):Up k s.flush:=⟨h.down,h.l1,h.l2,h.f1,h.f2⟩
theorem wJ{k:Nat}{s:DSt}(h:Up k s)(hk:k≤1000000):fX s.left s.full s.down=(none,s.left - 1,s.full - 1,false):=by
 have:=h.l1;have:=h.l2;have:=h.f1;have:=h.f2
 unfold fX;rw[if_neg (by rw[h.down];simp;omega),if_neg aI,qG aI aI,qG aI aI]
theorem aJJ{k:Nat}{s:DSt}(h:Up k s):({s with left:=s.left - 1,full:=s.full - 1,down:=false}:DSt)=s.dec:=by
 have:=h.down;cases s;simp_all[DSt.dec]
theorem aFF{k:Nat}{s:DSt}(h:Up k s)(hk:k≤1000000)(n d:aJ):fC n d s=(none,s.dec.told ⟨1,n,[],d⟩):=by
 have ht:gP ⟨1,n,[],d⟩ s=(none,s.dec.told ⟨1,n,[],d⟩):=by
  rw[aE9 (wJ h hk) (by simp),aJJ h]
 unfold fC;rw[ht];rfl
theorem bDT{k:Nat}{s:DSt}(h:Up k s)(hk:k≤1000000){n d:aJ}(hn:s.now n=some d):eV n s=(none,s.dec.told ⟨3,n,[],[]⟩):=by
 unfold eV;rw[aE9 (wJ h hk) (by simp[hn]),aJJ h]
theorem xT{k:Nat}{s:DSt}(h:Up k s)(hk:k≤1000000):d6 s=(none,s.dec.flush):=by
 unfold d6 DSt.we DSt.ws;rw[wJ h hk,aJJ h];rfl
def Coh(s:DSt):Prop:=s.now=s.pend.foldl doF s.dur
theorem Coh.dec{s:DSt}(h:Coh s):Coh s.dec:=h
theorem Coh.told{s:DSt}(h:Coh s)(o:OpR):Coh (s.told o):=by
 unfold Coh DSt.told;simp only[List.foldl_append,List.foldl_cons,List.foldl_nil];rw[←show s.now=_ from h]
theorem Coh.flush{s:DSt}(h:Coh s):Coh s.flush∧s.flush.dur=s.now∧s.flush.now=s.now:=⟨h,h.symm,rfl⟩
theorem aYZ{xs:List File}:∀ {k:Nat} {s:DSt} (t:List (DSt→Er×DSt)),Up k s→Coh s→k+xs.length≤1000000→∃s',dZ (gB xs++t) s=dZ t s'∧Up (k+xs.length) s'∧Coh s'∧s'.now=lQ xs s.now:=by
 induction xs with
 |nil=>intro k s t h hc _;exact⟨s,rfl,h,hc,rfl⟩
 |cons x r ih=>
  intro k s t h hc hk;simp only[List.length_cons]at hk;have hw:=aFF h aI x.1 x.2;obtain⟨s',h1,h2,h3,h4⟩:=ih (k:=k+1) (s:=s.dec.told ⟨1,x.1,[],x.2⟩) t (h.dec.told _) (hc.dec.told _) aI;refine⟨s',?_,?_,h3,?_⟩
  ·show dZ (fC x.1 x.2::(gB r++t)) s=_
   simp only[dZ,hw];exact h1
  ·have e:k+(x::r).length=k+1+r.length:=by simp only[List.length_cons];omega
   rw[e];exact h2
  rw[h4];rfl
theorem aGA{xs:List File}{n:aJ}:∀ {f:DMap},(f n).isSome=true→(lQ xs f n).isSome=true:=by
 induction xs with
 |nil=>intro f h;exact h
 |cons x r ih=>intro f h;exact ih (f:=f.put x.1 x.2) (by unfold DMap.put;split <;> first|rfl|exact h)
def after(xs:List File)(f:DMap):DMap:=(lQ xs (f.put bM (gJ xs))).cut bM
theorem aJK{xs:List File}{k:Nat}{s:DSt}(h:Up k s)(hc:Coh s)(hk:k+xs.length≤900000):
  ∃s',iC xs s=(none,s')∧Up (k+xs.length+5) s'∧s'.pend=[]∧s'.dur=after xs s.now∧s'.now=after xs s.now:=by
 have hw:=aFF h aI bM (gJ xs);have u1:=h.dec.told ⟨1,bM,[],gJ xs⟩;have c1:=hc.dec.told ⟨1,bM,[],gJ xs⟩;have hs:=xT u1 aI;have u2:=u1.dec.flush;have c2:=c1.dec.flush;obtain⟨s',h1,h2,h3,h4⟩:=aYZ (xs:=xs) [d6,eV bM,d6] u2 c2.1 aI;have hs2:=xT h2 aI;have u3:=h2.dec.flush;have c3:=h3.dec.flush;obtain⟨d,hd⟩:∃d,(s'.dec.flush).now bM=some d:=by
  have:(lQ xs (s.now.put bM (gJ xs)) bM).isSome=true:=aGA (by unfold DMap.put;rw[if_pos rfl];rfl);have e:(s'.dec.flush).now=lQ xs (s.now.put bM (gJ xs)):=h4;rw[←e]at this;exact Option.isSome_iff_exists.1 this
 have hr:=bDT u3 aI hd;have u4:=u3.dec.told ⟨3,bM,[],[]⟩;have c4:=c3.1.dec.told ⟨3,bM,[],[]⟩;have hs3:=xT u4 aI;have u5:=u4.dec.flush;have c5:=c4.dec.flush;refine⟨_,?_,u5.more aI,rfl,?_,?_⟩
 ·unfold iC;simp only[dZ,hw,hs];unfold iM;rw[h1];simp only[dZ,hs2,hr,hs3]
  rfl
 ·rw[c5.2.1]
  show doF (s'.now) ⟨3,bM,[],[]⟩=_
  rw[h4];rfl
 rw[c5.2.2]
 show doF (s'.now) ⟨3,bM,[],[]⟩=_
 rw[h4];rfl
structure Rest (s:DSt):Prop where
 down:s.down=false
 pend:s.pend=[]
 now:s.now=s.dur
 left:s.left= -1
 full:s.full= -1
theorem Rest.up{s:DSt}(h:Rest s):Up 0 s:=⟨h.down,by rw[h.left];omega,by rw[h.left];omega,by rw[h.full];omega,by rw[h.full];omega⟩
theorem Rest.set{s:DSt}(h:Rest s):s.set (-1) (-1)=s:=by have:=h.left;have:=h.full;cases s;simp_all[DSt.set]
theorem Rest.coh{s:DSt}(h:Rest s):Coh s:=by unfold Coh;rw[h.pend,h.now];rfl
theorem aT8{xs:List File}{n:aJ}:∀ {f g:DMap},f n=g n→lQ xs f n=lQ xs g n:=by
 induction xs with
 |nil=>intro f g h;exact h
 |cons x r ih=>intro f g h;exact ih (f:=f.put x.1 x.2) (g:=g.put x.1 x.2) (by unfold DMap.put;split <;> first|rfl|exact h)
theorem aBF{xs:List File}{n:aJ}:∀ {f:DMap},(∃x∈xs,x.1=n)→∀g:DMap,lQ xs f n=lQ xs g n:=by
 induction xs with
 |nil=>intro f ⟨x,h,_⟩;cases h
 |cons x r ih=>
  intro f ⟨y,hy,e⟩ g
  by_cases h:∃x∈r,x.1=n
  ·exact ih h _
  rcases List.mem_cons.1 hy with rfl|hy
  ·exact aT8 (f:=f.put y.1 y.2) (g:=g.put y.1 y.2) (by unfold DMap.put;rw[if_pos e.symm,if_pos e.symm])
  exact absurd ⟨y,hy,e⟩ h
theorem q9{xs:List File}{n:aJ}:∀ {f:DMap},(¬ ∃x∈xs,x.1=n)→lQ xs f n=f n:=by
 induction xs with
 |nil=>intro f _;rfl
 |cons x r ih=>
  intro f h;have h1:lQ r (f.put x.1 x.2) n=f.put x.1 x.2 n:=ih fun⟨y,hy,e⟩=>h ⟨y,List.mem_cons_of_mem _ hy,e⟩
  show lQ r (f.put x.1 x.2) n=f n
  rw[h1];unfold DMap.put;rw[if_neg fun e=>h ⟨x,List.mem_cons_self,e.symm⟩]
theorem lV{xs:List File}{f:DMap}{n:aJ}(hn:n≠bM):after xs f n=lQ xs f n:=by
 unfold after DMap.cut;rw[if_neg hn];exact aT8 (by unfold DMap.put;rw[if_neg hn])
theorem kH{xs:List File}{f:DMap}:after xs f bM=none:=by unfold after DMap.cut;rw[if_pos rfl]
theorem aFQ{xs:List File}{f:DMap}{ns:List aJ}(h:uI f ns):uI (after xs f) (xs.map (·.1)++ns):=by
 intro n hn
 by_cases hj:n=bM
 ·subst hj;rw[kH]at hn;cases hn
 rw[lV hj]at hn
 by_cases hx:∃x∈xs,x.1=n
 ·obtain⟨x,hx,rfl⟩:=hx;exact List.mem_append_left _ (List.mem_map_of_mem hx)
 rw[q9 hx]at hn;exact List.mem_append_right _ (h n hn)
end Go.Box
end

/-
  What the proof stands on, part 47: the logic of walks, the walks through the functions, the plain laws. Conditions: as each theorem says. (Merged and shortened by a program.)
-/
import Derived.Test.YthopmddkpdehiabGreatDoorK33
import Derived.Test.YthopmddkpdehiabGreatDoorK42
import Derived.Test.YthopmddkpdehiabGreatDoorK43
import Derived.Test.YthopmddkpdehiabGreatDoorK46
set_option linter.unusedVariables false
set_option linter.unusedSimpArgs false
set_option linter.defProp false
set_option maxRecDepth 4000
set_option maxHeartbeats 1000000
section
namespace Go.Proofs
open Go Go.SL Go.Syn Go.Mach
open Go.Cmp (cT RIs InsV RIns eX nilC lU kT gQ)
section
variable{E:Env}{c0:Code}{x0:Exit}{ops:Array Oper}{fr:Fr}{K:Hl}{L:List Asn}{Q:Post}{wb:Nat}{W:WS}
def bLP{p:CP}{xv mv av cv:Value}:∀h,Sat (wblk wb xv mv av cv::sl false (cC 60) xv (W.xl.map fun x=>pcl x.b)::sl false (cC 61) mv (W.xl.map fun x=>pcl x.rb)::sl false (dT 69) av (W.al.map fun p=>(p.rv,p.wv))::mD (W.al.map actP)::sl false (dT 71) cv ((W.cl.map fun p=>(p.rv,p.wv))++[(p.rv,p.wv)])::mD (W.cl.map cdP++[cdP p])::L) h→Sat (wP wb {W with cl:=W.cl++[p]}::L) h:=by
 intro h hh;refine mW (W:={W with cl:=W.cl++[p]}) (xv:=xv) (mv:=mv) (av:=av) (cv:=cv) h ?_;simp only[w7,List.map_append,List.map_cons,List.map_nil,List.cons_append,List.nil_append];exact hh
end
end Go.Proofs
end
section
attribute [local irreducible] Go.SL.T Go.SL.OL Go.SL.D Go.SL.DL Go.SL.Ev Go.SL.Ef Go.SL.EfS
namespace Go.Proofs
open Go Go.SL Go.Syn Go.Mach
set_option maxRecDepth 100000 in
def aNQ:elOk x3 30 71 2 48=true:=cY
open Go.Cmp (cT RIs InsV RIns eX kW gQ insA)
open Go.Say (Co)
def aR9(z:Bool)(cv:Value)(vs:List InsV)(os:List Ins)(K:Hl)(hf:CodeFit os):Sp x3 15 [cv] K [sl z cT cv vs,eX vs os] (Ret fun v K' L'=>K'=K∧∃ws,L'=[sl z cT cv vs,eX vs os,sl false cT v ws,eX ws os]):=by
 have h := yF (K := K) (L1 := [sl z cT cv vs, eX vs os]) (L := []) (R := fun e L' => ∃ v, e = .returned v ∧ ∃ ws, L' = [sl false cT v ws, eX ws os]) ⟨_, Tryz.func15, rfl, rfl⟩ (fun h1 hs d => by
  have hr:RIs h1 vs os:=by
   obtain⟨a,ha,le⟩:=tD (A:=eX vs os) (.there .here) hs;exact(gQ ha).mono le
  exact(aEM cv vs os (K.join h1) ((lS .here hs).mono (Hl.le_join_r d)) (hr.mono (Hl.le_join_r d)) hf).mono fun e K' L' ⟨v,h1,h2,h3⟩=>⟨⟨v,h1,h3⟩,h2⟩)
 exact h.mono fun e K' L' ⟨L'',⟨v,h1,ws,h2⟩,h3,h4⟩=>⟨v,h1,h3,ws,by rw[h4,h2];rfl⟩
def bJV{α:Type}{z:Bool}{k:El α}{v:Value}{xs:List α}{h:Hl}(hs:sl z k v xs h):lB v:=by
 rcases hs with ⟨rfl,rfl,rfl⟩|⟨b,cap,junk,fz,rfl,hz,hc,hj,hf,rfl⟩
 ·intro a n c e;cases e;exact xAA _
 intro a n c e;cases e;exact hc
def bDF{h:Hl}:∀ {vs:List InsV} {os:List Ins},Sat (kW vs os) h→∀v∈vs,lB v.a.1:=by
 intro vs;induction vs generalizing h with
 |nil=>intro os hs v hv;cases hv
 |cons v vs ih=>intro os hs;cases os with
  |nil=>obtain⟨_,_,hf,_⟩:=hs;exact hf.elim
  |cons o os=>
   obtain⟨a,l,⟨_,b,c,hb,_⟩,hl,hd,rfl⟩:=hs;intro u hu;rcases List.mem_cons.1 hu with rfl|hu
   ·exact bJV hb
   exact ih hl u hu
def aKO(z:Bool)(nm:Bool)(cv hv:Value)(vs:List InsV)(code:List Ins)(m:Msg)(K:Hl)(hh:Ksl hdEl K hv m.hs)(hm:MsgOk m)(hc:∀o∈code,InsOk o)(hcl:code.length≤100000):
  Sp x3 17 [.bool nm,cv,msgV m hv] K [sl z cT cv vs,eX vs code] (Ret fun v K' L'=>∃av,(∃x n c,av=.slice x n c)∧v=.tuple #[OutV (Mach.run nm code m) av,i64 (Mach.run nm code m).steps]∧K'=K∧L'=[sl z cT cv vs,eX vs code,sl false dP av (Mach.run nm code m).acts]):=by
 have h := yF (K := K) (L1 := [sl z cT cv vs, eX vs code]) (L := []) (R := fun e L' => ∃ v, e = .returned v ∧ ∃ av, (∃ x n c, av = .slice x n c) ∧ v = .tuple #[OutV (Mach.run nm code m) av, i64 (Mach.run nm code m).steps] ∧ L' = [sl false dP av (Mach.run nm code m).acts]) ⟨_, Tryz.func17, rfl, rfl⟩ (fun h1 hs d => by
  obtain⟨a,ha,le⟩:=tD (A:=eX vs code) (.there .here) hs;exact(aH9 nm cv hv vs code m (K.join h1) ((lS .here hs).mono (Hl.le_join_r d)) (((gQ ha).mono le).mono (Hl.le_join_r d)) (fun v hv _=>bDF ha v hv) (hh.mono Hl.le_join_l) hm hc hcl).mono fun e K' L' ⟨v,h1,av,h2,h3,h4,h5,h6⟩=>⟨⟨v,h1,av,h2,h3,h6⟩,h5⟩)
 exact h.mono fun e K' L' ⟨L'',⟨v,h1,av,h2,h3,h4⟩,h5,h6⟩=>⟨v,h1,av,h2,h3,h5,by rw[h6,h4];rfl⟩
def aR8(wb:Nat)(W:WS)(q:XP)(m:Msg)(hv:Value)(K:Hl)(hX:XOk K q)(hh:Ksl hdEl K hv m.hs)(hm:MsgOk m)(hn:W.cl.length≤1000000):Sp x3 25 [ptr wb,ptr q.b,ptr q.rb,msgV m hv] K [wP wb W] (Ret fun v K' L'=>v=.bool true∧∃p:CP,p.os=Cmp.script q.r.2∧L'=[wP wb {W with cl:=W.cl++[p]}]):=by
 have hfit:=nP hX.ok;have hneeds:=tX hX.ok;have h6:=hX.fit;have hins:=Cmp.script_fit hfit.2.1;have hal:(Mach.run (decide (eB∈q.r.1)) (Cmp.script q.r.2) m).acts.length≤7:=aH5 hm (aG3 hX.ok h6).1;have hio:=(aG3 hX.ok h6).1;have hcl:=(Say.parse_code (nm:=true) (m:=m) hX.ok h6).1;have hsay:sayC q.r m=Mach.run (decide (eB∈q.r.1)) (Cmp.script q.r.2) m:=rfl;have hcf:CodeFit (Cmp.script q.r.2):=⟨by omega,fun o ho=>by have:=(hins o ho).2.2.1;have:=(hins o ho).2.2.2;omega⟩;have hcs:=fun K h=>aXJ q.b q.r q.s K hX.ok hX.fit h
 generalize hcode:Cmp.script q.r.2=code at*
 obtain⟨hha,hhn,hhc,rfl⟩:=hh.isSlice
 generalize hhv:Value.slice hha hhn hhc=hv at*
 refine bN Tryz.func25 Y Tryz.ntmps25 Y Y fun F w=>?_;refine zz3 ?_;rintro _ K _ ⟨b7,rfl,rfl,rfl⟩ -;refine zz6 ?_;refine bA Y Y (hcs _ hX.at_) .nil Y ?_;rintro v17 K _ ⟨rfl,rs,rfl⟩ -;refine zz6 ?_;refine bA Y Y (aR9 true _ rs code _ hcf) bS Y ?_;rintro v19 K _ ⟨rfl,ws,rfl⟩ -;refine zz4 ?_;refine mV (aM k5T (aM bW (aM bW (aM bW (aM bW (aM bW bF)))))) ?_;refine aNH fun xv mv wav cv=>?_;refine oU (fun h hs=>iQ (k:=cT) (z:=true) (xs:=rs) (v:=v17) h (Tks.sat (show Tks [_] _ _ from (aM k7T bF)) h hs)) ?_;rintro⟨la,ln,lc,rfl⟩;refine oU (fun h hs=>iQ (k:=cT) (z:=false) (xs:=ws) (v:=v19) h (Tks.sat (show Tks [_] _ _ from (aM k9T bF)) h hs)) ?_;rintro⟨va,vn,vc,rfl⟩;obtain⟨P0,hP0⟩:∃p:CP,p=⟨⟨.slice la ln lc,rfl⟩,⟨.slice va vn vc,rfl⟩,rs,ws,code⟩:=⟨_,rfl⟩;refine zz8 ?_;refine aA (dG tb71 tb71f dF) Y ?_;refine cJ (bM (z0:=[.slice none 0 0,.slice none 0 0]) sQ tz71 Y Y Y Y dF) Y ?_;rintro _ K _ ⟨b28,rfl,rfl,rfl⟩ -;refine cJ (dQ (k:=(dT 71)) (ys:=[((⟨.slice la ln lc,Y⟩,⟨.slice va vn vc,Y⟩):Cell×Cell)]) aNQ Y Y bR (fun w j=>dJ Tryz.underlying30 (SeesSl.at (k:=dT 71) (.blk aL Y Y) j)) gC7 gC7) Y ?_;rintro v29 K _ ⟨rfl,rfl,ho29⟩ -;refine zz2 ?_;refine cD (bX ts30 Y Y dA bR aZe Y) ?_;rintro _ K _ ⟨rfl,rfl⟩ -;refine zz4 ?_;refine oU (p:=rs.length=code.length) (fun h hs=>Go.Cmp.codeP_len h (Tks.sat (show Tks [eX rs code] _ _ from (aM k9T bF)) h hs)) ?_;intro hrl;refine mV (aM bQK (aM k8T (aM k8T (aM k8T (aM k8T (aM e7 (aM e7 (aM e7 (aM e7 (aM e7 (aM bW (aM cI bF)))))))))))) (zz2 ?_);refine aA (bU (k:=cT) Y Tryz.underlying36 Y aL) Y ?_;refine aA (uL (fI Y Y) aH) Y (zz4 ?_);refine aA (bU (k:=cT) Y Tryz.underlying36 Y aL) Y (zz4 ?_);refine bV 39 Y (fun g39=>?_) (fun g39=>?_)
 ·have hnil:rs=[]:=List.eq_nil_of_length_eq_zero aH;subst hnil;refine pE (fun h hs=>bGB (k:=cT) h (Tks.sat (show Tks [_] _ _ from (aM cI bF)) h hs)) ?_;intro hlv;cases hlv
  refine zz3 ?_;refine aA (kK (v:=.bool false) (q6 Tryz.underlying36 Y) Y) Y (zz11 ?_);refine bA Y Y (aIF q.r eB q.rb _ hX.ref aH) .nil Y ?_;rintro _ K _ ⟨rfl,rfl,rfl⟩ -;refine zz8 ?_;refine bA Y Y (aKO true (decide (eB∈q.r.1)) _ hv _ code m _ hh hm hio aH) bS Y ?_;rintro _ K _ ⟨av5,⟨ax,nx,cx,rfl⟩,rfl,rfl,rfl⟩ -;refine zz4 ?_;rintro _ K _ ⟨b12,rfl,rfl,rfl⟩ -;refine cD (cX ta54_3 Y Y Y bR gC1 (.cons (.cons (.cons .nil))) gC8) ?_;rintro _ K _ ⟨rfl,rfl⟩ -;refine zz7 ?_;refine bA Y Y (aA6 q m hv _ hX hh hm) .nil Y ?_;rintro _ K2 _ ⟨av6,⟨ay,ny,cy,rfl⟩,rfl,rfl⟩ le2;rw[hsay];refine zz1 ?_;rintro _ K _ ⟨b14,rfl,rfl,rfl⟩ -;refine cD (cX ta54_3 Y Y Y bR gC1 (.cons (.cons (.cons .nil))) gC8) ?_;rintro _ K _ ⟨rfl,rfl⟩ -;refine zz8 ?_;refine bA Y Y (aA8 false false _ _ (Mach.run (decide (eB∈q.r.1)) code m).acts _ aH) bS Y ?_;rintro _ K2 _ ⟨rfl,rfl,rfl⟩ -;refine zz16 ?_;refine aA (xA (bQ Y Y) Y) Y (zz11 ?_);refine aA (xA (bQ Y Y) Y) Y (zz5 ?_);refine aQ (aM yY (aM yY (aM k5T (aM k5T (aM bOA (aM k5T (aM k5T (aM k5T (aM k5T (aM k5T (aM k5T bF))))))))))) ?_;refine cS (eM aCR) ?_;refine cS (oG (P:=cdP P0) (fun h hh=>by rw[hP0];exact hh)) ?_;refine cS tH ?_;refine aQ (aM cI (aM cI (aM cI (aM cI (aM cI (aM cI (aM bW bF))))))) ?_;refine cS (fun h hh=>bLP (p:=P0) h gFP) ?_;refine bI Y Y le2 ?_;exact⟨_,Y,Y,P0,by rw[hP0],rfl⟩
 refine zz13 ?_;refine bA Y Y (aIF q.r eB q.rb _ hX.ref aH) .nil Y ?_;rintro _ K _ ⟨rfl,rfl,rfl⟩ -;refine zz8 ?_;refine bA Y Y (aKO true (decide (eB∈q.r.1)) _ hv _ code m _ hh hm hio aH) bS Y ?_;rintro _ K _ ⟨av5,⟨ax,nx,cx,rfl⟩,rfl,rfl,rfl⟩ -;refine zz4 ?_;rintro _ K _ ⟨b12,rfl,rfl,rfl⟩ -;refine cD (cX ta54_3 Y Y Y bR gC1 (.cons (.cons (.cons .nil))) gC8) ?_;rintro _ K _ ⟨rfl,rfl⟩ -;refine zz7 ?_;refine bA Y Y (aA6 q m hv _ hX hh hm) .nil Y ?_;rintro _ K2 _ ⟨av6,⟨ay,ny,cy,rfl⟩,rfl,rfl⟩ le2;rw[hsay];refine zz1 ?_;rintro _ K _ ⟨b14,rfl,rfl,rfl⟩ -;refine cD (cX ta54_3 Y Y Y bR gC1 (.cons (.cons (.cons .nil))) gC8) ?_;rintro _ K _ ⟨rfl,rfl⟩ -;refine zz8 ?_;refine bA Y Y (aA8 false false _ _ (Mach.run (decide (eB∈q.r.1)) code m).acts _ aH) bS Y ?_;rintro _ K2 _ ⟨rfl,rfl,rfl⟩ -;refine zz16 ?_;refine aA (xA (bQ Y Y) Y) Y (zz11 ?_);refine aA (xA (bQ Y Y) Y) Y (zz5 ?_);refine aQ (aM yY (aM yY (aM k5T (aM k5T (aM bOA (aM k5T (aM k5T (aM k5T (aM k5T (aM k5T (aM k5T bF))))))))))) ?_;refine cS (eM aCR) ?_;refine cS (oG (P:=cdP P0) (fun h hh=>by rw[hP0];exact hh)) ?_;refine cS tH ?_;refine aQ (aM cI (aM cI (aM cI (aM cI (aM cI (aM cI (aM bW bF))))))) ?_;refine cS (fun h hh=>bLP (p:=P0) h gFP) ?_;refine bI Y Y le2 ?_;exact⟨_,Y,Y,P0,by rw[hP0],rfl⟩
end Go.Proofs
end
section
namespace Go.Proofs
open Go Go.SL Go.Syn Go.Mach
open Go.Cmp (cT RIs InsV RIns eX kW gQ insA codeP_len)
def WFit.addC{n:Nat}{W:WS}{p:CP}(h:WFit n W)(hp:CodeFit p.os):WFit (n+1) {W with cl:=W.cl++[p]}:=⟨Nat.le_succ_of_le h.nx,Nat.le_succ_of_le h.na,by have:=h.nc;simp;omega,h.al,fun q hq=>by rcases xAT.1 hq with hq|hq;exact h.cl q hq;(have hq:=List.mem_singleton.1 hq;subst hq;exact hp)⟩
def bCF{K:Hl}{q:XP}(hX:XOk K q):CodeFit (Cmp.script q.r.2):=by
 have hf:=nP hX.ok;have h6:=hX.fit;have hc:=(Say.parse_code (nm:=true) (m:=⟨[],[],0,[]⟩) hX.ok h6).1;exact⟨by omega,fun o ho=>by have:=(Cmp.script_fit hf.2.1 o ho).2.2;omega⟩
end Go.Proofs
end
section
attribute [local irreducible] Go.SL.T Go.SL.OL Go.SL.D Go.SL.DL Go.SL.Ev Go.SL.Ef Go.SL.EfS
namespace Go.Proofs
open Go Go.SL Go.Syn Go.Mach
open Go.Cmp (cT RIs InsV RIns eX kW gQ insA codeP_len)
def aUJ(wb n:Nat)(W:WS)(kd a b:Int)(s from_ to_:aP)(sz:Int)(hv0 cv0:Value)(hs:List (aP×aP))(vs:List InsV)(os:List Ins)(hkd:¬kd=2∧¬kd=3∧¬kd=5)(hw:WFit n W)(hn:n≤1000000)(hra: -9223372036854775808≤a∧a≤9223372036854775807)(hrb: -9223372036854775808≤b∧b≤9223372036854775807)(K:Hl)(hg:Glob K)(hE:ErrT K)(hxs:∀x∈W.xl,XOk K x)(hh:Ksl hdEl K hv0 hs)(hm:MsgOk ⟨from_,to_,sz,hs⟩)(hcd:Ksl cT K cv0 vs∧RIs K vs os∧CodeFit os∧(∀v∈vs,v.op=9→lB v.a.1)∧(∀o∈os,InsOk o)∧os.length≤100000):Sp x3 9 [ptr wb,.agg #[i64 kd,i64 a,i64 b,str s,str from_,str to_,i64 sz,hv0,cv0]] K [wP wb W] (Ret fun v K' L'=>v=.bool true∧∃W',(∀x∈W'.xl,XOk K' x)∧WFit (n+1) W'∧L'=[wP wb W']):=by
 have ho1:hv0.oneCell'=true:=by obtain⟨x,y,z,rfl⟩:=hh.isSlice;rfl
 have ho2:cv0.oneCell'=true:=by obtain⟨x,y,z,rfl⟩:=hcd.1.isSlice;rfl
 refine bN Tryz.func9 Y Tryz.ntmps9 Y Y fun F w=>?_;refine zz3 ?_;rintro _ K _ ⟨b3,rfl,rfl,rfl⟩ -;refine zz7 ?_;refine bA Y Y (wC wb n W kd a b s from_ to_ sz hv0 cv0 hw aH hra hrb ho1 ho2 _) bS Y ?_;rintro _ K _ ⟨rfl,rfl,W1,hx1,hw1,rfl⟩ -;have hxs1:∀x∈W1.xl,XOk K x:=hx1▸hxs;refine zz16 ?_;refine aY 28 Y (fun h28=>?_) (fun h28=>?_)
 ·have h28:kd=1:=h28;refine zz5 ?_;refine bA Y Y (tY wb W1 s _ hg hE (by have:=hw1.nx;omega)) bS Y ?_;rintro _ K1 _ ⟨rfl,W2,hW2,rfl⟩ le1;refine zz6 ?_;refine uAa ?_;refine bI Y Y le1 ?_;exact⟨_,Y,Y,W2,gDG,gEL,Y⟩
 have h28:¬kd=1:=h28;refine zz6 ?_;refine aY 34 Y (fun h34=>?_) (fun h34=>?_)
 ·exact absurd h34 aH
 refine zz5 ?_;refine aNH fun xv mv wav cv=>?_;have hlX:(W1.xl.map fun x=>pcl x.b).length=W1.xl.length:=xAS _;have hlM:(W1.xl.map fun x=>pcl x.rb).length=W1.xl.length:=xAS _;refine zz5 ?_;refine uBd ?_;refine zz3 ?_;refine aY 86 Y (fun h86=>?_) (fun h86=>?_)
 ·refine zz7 ?_;refine cS (mW (W:=W1)) ?_;refine uAa ?_;refine zz1 ?_;exact⟨_,Y,Y,_,hxs1,hw1.up,Y⟩
 have hpos:0 < (W1.xl.map fun x=>pcl x.b).length:=by omega
 have hpn:(W1.xl.map fun x=>pcl x.b).length≤1000000000:=by have:=hw1.nx;omega
 have hpk:=fun K=>oY a (W1.xl.map fun x=>pcl x.b).length hra ⟨hpos,hpn⟩ K
 refine zz3 ?_;refine cZ (anc:=[0,1,0,4,12,28,60,127,255]) (ord:=[0,1,2,3,4,5,6,7,8]) [7] [7] mixed gC5 (cQ _) (zz6 ?_);refine uAs ?_;refine eQ Y (.none Y) Y Y Y (hpk _) .nil Y ?_;rintro _ K _ ⟨k,hk,rfl,rfl,rfl⟩ -;refine zz4 ?_;obtain⟨q,hq⟩:∃q,W1.xl[k]?=some q:=⟨W1.xl[k]'(by omega),x4 aH⟩;have hqb:(W1.xl.map fun x=>pcl x.b)[k]?=some (pcl q.b):=by rw[xAQ,hq];rfl
 have hqm:(W1.xl.map fun x=>pcl x.rb)[k]?=some (pcl q.rb):=by rw[xAQ,hq];rfl
 have hkM:k < (W1.xl.map fun x=>pcl x.rb).length:=by omega
 have hX:=hxs1 q (x8 hq);refine zz6 ?_;refine aA (aX (k:=cC 60) (j:=k) vD Y aL Y Y hk) Y ?_;refine aA (cE (o:=0) (k:=cC 60) ts60 Y aL hqb Y) Y (zz10 ?_);refine aA (aX (k:=cC 61) (j:=k) vE Y aL Y Y hkM) Y ?_;refine aA (cE (o:=0) (k:=cC 61) ts61 Y aL hqm Y) Y (zz5 ?_);refine jJ (mW (W:=W1)) ?_;clear hpk;refine zz12 ?_;refine aY 111 Y (fun h111=>?_) (fun h111=>?_)
 ·exact absurd h111 aH
 refine zz6 ?_;refine aY 120 Y (fun h120=>?_) (fun h120=>?_)
 ·exact absurd h120 aH
 refine zz6 ?_;refine aY 140 Y (fun h140=>?_) (fun h140=>?_)
 ·refine zz7 ?_;refine bA Y Y (aR8 wb W1 q ⟨from_,to_,sz,hs⟩ hv0 _ hX hh hm (by have:=hw1.nc;omega)) bS Y ?_;rintro _ K1 _ ⟨rfl,p,hps,rfl⟩ le1;refine zz6 ?_;refine uAa ?_;refine bI Y Y le1 ?_;exact⟨_,Y,Y,{W1 with cl:=W1.cl++[p]},fun x hx=>(hxs1 x hx).mono le1,hw1.addC (by rw[hps];exact bCF hX),Y⟩
 refine zz9 ?_;refine uAa ?_;refine zz1 ?_;exact⟨_,Y,Y,_,hxs1,hw1.up,Y⟩
end Go.Proofs
end
section
attribute [local irreducible] Go.SL.T Go.SL.OL Go.SL.D Go.SL.DL Go.SL.Ev Go.SL.Ef Go.SL.EfS
namespace Go.Proofs
open Go Go.SL Go.Syn Go.Mach
open Go.Cmp (cT RIs InsV RIns eX kW gQ insA codeP_len fK)
def tN{b:Nat}{L:List Asn}:∀h,Sat (pt b (bL [.slice none 0 0,.slice none 0 0,.slice none 0 0,.slice none 0 0] 32)::L) h→Sat (wP b ⟨[],[],[]⟩::L) h:=by
 intro h hh;refine mW (W:=⟨[],[],[]⟩) (xv:=.slice none 0 0) (mv:=.slice none 0 0) (av:=.slice none 0 0) (cv:=.slice none 0 0) h ?_;refine eR (fun h hh=>?_) hh
 have st:∀ {L:List Asn} {h:Hl},Sat L h→Sat (mD []::L) h:=fun {L h} hs=>⟨.emp,h,rfl,hs,(Hl.dj_emp h).symm,(Hl.emp_join h).symm⟩
 exact fF (fF (fF (st (fF (st hh)))))
def aPV(sv kv:Value)(xs:List OpV)(ks:List Nat)(hks:∀kd:Int,(kd=1∨kd=6∨kd=7∨∃q∈ks,kd=((q:Nat):Int))→¬kd=2∧¬kd=3∧¬kd=5)(hkl:ks.length≤100)(K:Hl)(hg:Glob K)(hE:ErrT K)(hv:Ksl opEl K sv xs)(his:∀x∈xs,OpIs K x)(hz:∀x∈xs,OpFit 140737488355328 x)(hl:xs.length≤140737488355328):Sp x3 7 [sv,kv] K [sl false (fK 3) kv ks] (Ret fun v K' L'=>v=.bool true∧L'=[]):=by
 refine bN Tryz.func7 Y Tryz.ntmps7 Y Y fun F w=>?_;refine zz8 ?_;refine bA Y Y (uI sv xs _ hv his hz hl) .nil Y ?_;rintro _ K _ ⟨b,rfl,hb,rfl,rfl⟩ -;refine zz7 ?_;refine aA gC3 Y (zz2 ?_);refine d9 14 Y (fun h14=>?_) (fun h14=>?_)
 ·refine zz7 ?_;refine uAf ?_;refine zz1 ?_;exact⟨_,Y,Y,Y⟩
 obtain⟨hxl,hof⟩:=hb gF9;refine zz4 ?_;refine aA (dG tb32 tb32f .nil) Y (zz1 ?_);rintro _ K _ ⟨b16,rfl,rfl,rfl⟩ -;refine zz5 ?_;refine jJ tN (zz5 ?_);refine lK (fun(i:Nat) (K3:Hl) (W:WS)=>K.le K3∧i≤xs.length∧WFit i W∧∀x∈W.xl,XOk K3 x) (fun i _ _=>[(0,sv),(1,kv),(6,ptr b16),(7,i64 i)]) (fun _ K3 _=>K3) (fun _ _ W=>[wP b16 W,sl false (fK 3) kv ks]) (fun i _ _=>xs.length - i) 0 K ⟨[],[],[]⟩ ⟨xAB _,x9 _,⟨x9 _,x9 _,x9 _,fun p h=>(by cases h),fun p h=>(by cases h)⟩,fun x h=>(by cases h)⟩ aS Y (fun _ h=>h) ?_;intro i K3 W ⟨leK,hi0,hwf,hxs⟩;have hv3:=hv.mono leK;refine zz5 ?_;refine aA (bU (k:=opEl) Y Tryz.underlying22 Y (.known hv3)) Y (zz3 ?_);refine aY 20 Y (fun h20=>?_) (fun h20=>?_)
 ·have hlt:i < xs.length:=by omega
  obtain⟨x,hx⟩:∃x,xs[i]?=some x:=⟨xs[i]'hlt,x4 hlt⟩;have hxm:=x8 hx;have hI:=(his x hxm).mono leK;have hF:=hof x hxm;obtain⟨kd,oa,ob,os,ofr,oto,osz,⟨ohv,hohv⟩,⟨ocv,hocv⟩,ohs,ovs,oos⟩:=x;have hIh:Ksl hdEl K3 ohv ohs:=hI.hs;have hIv:Ksl cT K3 ocv ovs:=hI.vs;have hIo:RIs K3 ovs oos:=hI.os;have hMs:=hF.msg;have hCf:=hF.code;have hIn:=hF.ins;have hOn:oos.length≤65536:=hF.on;refine zz8 ?_;refine aA (aX (k:=opEl) (j:=i) vC Y (.known hv3) Y Y hlt) Y ?_;refine aA (fA (n:=0) (k:=opEl) ta38_9 Y (.known hv3) hx) Y (zz1 ?_);rintro _ K _ ⟨b8,rfl,rfl,rfl⟩ -;refine cD (cX ta38_9 Y Y Y bR gC1 (.cons (.cons (.cons (.cons (.cons (.cons (.cons (.cons (.cons .nil))))))))) gC8) ?_;rintro _ K _ ⟨rfl,rfl⟩ -;refine zz2 ?_;refine dX (fun(inb:Bool)=>inb=true→(kd=1∨kd=6∨kd=7∨∃q∈ks,kd=((q:Nat):Int))) (fun inb=>[(0,sv),(1,kv),(6,ptr b16),(7,i64 i),(8,ptr b8),(9,.bool inb)]) (fun _=>K) (fun _=>[pt b8 (bL [i64 kd,i64 oa,i64 ob,str os,str ofr,str oto,i64 osz,ohv,ocv] 38),wP b16 W,sl false (fK 3) kv ks]) ?_ ?_
  ·refine jJ (L':=[pt b8 (bL [i64 kd,i64 oa,i64 ob,str os,str ofr,str oto,i64 osz,ohv,ocv] 38),wP b16 W,sl false (fK 3) kv ks]) (fun _ h=>h) (zz5 ?_);refine bV 30 Y (fun g30=>?_) (fun g30=>?_)
   ·refine zz11 ?_
    first
     |exact a8 true (fun _=>by omega) aS Y (fun _ h=>h)
     |exact a8 (decide (kd=7)) (fun h=>.inr (.inr (.inl (xAH h)))) aS Y (fun _ h=>h)
   refine zz8 ?_;refine bV 35 Y (fun g35=>?_) (fun g35=>?_)
   ·refine zz6 ?_
    first
     |exact a8 true (fun _=>by omega) aS Y (fun _ h=>h)
     |exact a8 (decide (kd=7)) (fun h=>.inr (.inr (.inl (xAH h)))) aS Y (fun _ h=>h)
   refine zz9 ?_
   first
    |exact a8 true (fun _=>by omega) aS Y (fun _ h=>h)
    |exact a8 (decide (kd=7)) (fun h=>.inr (.inr (.inl (xAH h)))) aS Y (fun _ h=>h)
  intro in0 hin0;refine zz7 ?_;refine iR (fun(k:Nat) (inb:Bool)=>k≤ks.length∧(inb=true→(kd=1∨kd=6∨kd=7∨∃q∈ks,kd=((q:Nat):Int)))) (fun k inb=>[(0,sv),(1,kv),(6,ptr b16),(7,i64 i),(8,ptr b8),(9,.bool inb),(10,i64 k)]) (fun _ _=>K) (fun _ _=>[pt b8 (bL [i64 kd,i64 oa,i64 ob,str os,str ofr,str oto,i64 osz,ohv,ocv] 38),wP b16 W,sl false (fK 3) kv ks]) (fun k _=>ks.length - k) 0 in0 ⟨x9 _,hin0⟩ aS Y (fun _ h=>h) ?_;intro k inb ⟨hk0,hin⟩;refine zz5 ?_;refine aA (bU (k:=fK 3) Y Tryz.underlying24 Y aL) Y (zz3 ?_);refine aY 43 Y (fun h43=>?_) (fun h43=>?_)
  ·have hkl:k < ks.length:=by omega
   obtain⟨y,hy⟩:∃y,ks[k]?=some y:=⟨ks[k]'hkl,x4 hkl⟩;refine zz4 ?_;refine cZ (anc:=[0,1,3,7,3,3,51,115,255,511,1023]) (ord:=[0,1,2,3,4,5,6,7,8,9,10]) [] [] mixed gC5 (cQ _) (zz2 ?_);refine qY 47 Y (fun g47=>?_) (fun g47=>?_)
   ·subst g47;refine zz17 ?_
    first
     |exact cW (k+1) true ⟨by omega,hin⟩ aH aS Y (fun _ h=>h)
     |exact cW (k+1) (decide (kd=((y:Nat):Int))) ⟨by omega,fun h=>.inr (.inr (.inr ⟨y,x8 hy,xAH h⟩))⟩ aH aS Y (fun _ h=>h)
   subst g47;refine zz4 ?_;refine aJ Y Y (.on Y Y Y) Y Y (aX (k:=fK 3) (j:=k) lY Y aL Y Y hkl) Y ?_;refine aJ Y Y (.on Y Y Y) Y Y (cE (o:=0) (k:=fK 3) ts3 Y aL hy Y) Y (zz11 ?_)
   first
    |exact cW (k+1) true ⟨by omega,hin⟩ aH aS Y (fun _ h=>h)
    |exact cW (k+1) (decide (kd=((y:Nat):Int))) ⟨by omega,fun h=>.inr (.inr (.inr ⟨y,x8 hy,xAH h⟩))⟩ aH aS Y (fun _ h=>h)
  refine zz9 ?_;refine aA gC3 Y (zz2 ?_);refine d9 57 Y (fun h57=>?_) (fun h57=>?_)
  ·refine zz9 ?_
   first
    |exact gA2
    |exact gA4
  have hkd:=hks kd (hin (by simpa using h57));refine zz6 ?_;refine bA Y Y (aUJ b16 i W kd oa ob os ofr oto osz ohv ocv ohs ovs oos hkd hwf aH hI.a hI.b _ (hg.mono leK) (hE.mono leK) hxs hIh hMs ⟨hIv,hIo,hCf,fun v hm _=>hI.fit v hm,hIn,by omega⟩) bS Y ?_;rintro _ K4 _ ⟨rfl,W2,hxs2,hwf2,rfl⟩ le4;refine zz16 ?_;refine bA Y Y (wB b16 W2 _ hwf2.al hwf2.cl (by have:=hwf2.na;omega) (by have:=hwf2.nc;omega)) bS Y ?_;rintro _ K4 _ ⟨rfl,rfl,rfl⟩ -;refine zz18 ?_
  first
   |exact gA2
   |exact gA4
 refine zz11 ?_;refine uAf ?_;refine bI Y Y leK ?_;exact⟨_,Y,Y,Y⟩
end Go.Proofs
end

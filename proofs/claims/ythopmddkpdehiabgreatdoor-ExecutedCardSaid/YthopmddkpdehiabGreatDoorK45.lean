/-
  What the proof stands on, part 45: the logic of walks, the walks through the functions, the plain laws. Conditions: as each theorem says. (Merged and shortened by a program.)
-/
import Derived.Test.YthopmddkpdehiabGreatDoorK27
import Derived.Test.YthopmddkpdehiabGreatDoorK44
set_option linter.unusedVariables false
set_option linter.unusedSimpArgs false
set_option linter.defProp false
set_option maxRecDepth 4000
set_option maxHeartbeats 1000000
section
attribute [local irreducible] Go.SL.T Go.SL.OL Go.SL.D Go.SL.DL Go.SL.Ev Go.SL.Ef Go.SL.EfS
namespace Go.Proofs
open Go Go.SL Go.Syn Go.Mach
set_option maxRecDepth 100000 in
def aNP:elOk x3 29 69 2 48=true:=cY
open Go.Cmp (cT RIs InsV RIns eX nilC lU kT gQ)
section
variable{E:Env}{c0:Code}{x0:Exit}{ops:Array Oper}{fr:Fr}{K:Hl}{L:List Asn}{Q:Post}{wb:Nat}{W:WS}
def bHF{p:AP}{xv mv av cv:Value}:∀h,Sat (wblk wb xv mv av cv::sl false (cC 60) xv (W.xl.map fun x=>pcl x.b)::sl false (cC 61) mv (W.xl.map fun x=>pcl x.rb)::sl false (dT 69) av ((W.al.map fun p=>(p.rv,p.wv))++[(p.rv,p.wv)])::mD (W.al.map actP++[actP p])::sl false (dT 71) cv (W.cl.map fun p=>(p.rv,p.wv))::mD (W.cl.map cdP)::L) h→Sat (wP wb {W with al:=W.al++[p]}::L) h:=by
 intro h hh;refine mW (W:={W with al:=W.al++[p]}) (xv:=xv) (mv:=mv) (av:=av) (cv:=cv) h ?_;simp only[w7,List.map_append,List.map_cons,List.map_nil,List.cons_append,List.nil_append];exact hh
end
def bIY(n c:Nat)(w:World):(binOp .eql 49 (.slice none n c) (.slice none 0 0)).run x3 w=.ok (.bool true) w:=cY
def aLI(wb:Nat)(W:WS)(lv rv:Value)(acts:List gA)(e at_ re rat:Int)(hl:acts.length≤1000000)(hn:W.al.length≤1000000)(he:e=re)(ha:re≠0→at_=rat)(hrv:rv.oneCell'=true)(K:Hl):Sp x3 19 [ptr wb,lv,i64 e,i64 at_,.agg #[rv,i64 re,i64 rat]] K [wP wb W,sl true dP lv acts,sl false dP rv acts] (Ret fun v K' L'=>v=.bool true∧K'=K∧∃p:AP,p.l=acts∧L'=[wP wb {W with al:=W.al++[p]}]):=by
 refine bN Tryz.func19 Y Tryz.ntmps19 Y Y fun F w=>?_;refine zz3 ?_;rintro _ K _ ⟨b9,rfl,rfl,rfl⟩ -;refine zz4 ?_;refine mV (.cons (.there .here) (.cons .here (.cons .here (.cons .here .nil)))) ?_;refine aNH fun xv mv wav cv=>?_;refine zz3 ?_;refine j4 (eL dP) ?_;refine cJ (dQ (k:=dP) (ys:=acts) n3 Y Y .here (fun w j=>dJ Tryz.underlying49 (SeesSl.at (k:=dP) (.own (.there (.there (.there (.there (.there (.there (.there (.there (.there (.there .here))))))))))) j)) gC7 gC7) Y ?_;rintro v15 K _ ⟨rfl,rfl,ho15⟩ -;rw[xBL];refine pE iQ ?_;rintro⟨va,vn,vc,rfl⟩;refine zz12 ?_;refine pE (fun h hs=>iQ (k:=dP) (z:=true) (xs:=acts) (v:=lv) h (Tks.sat (show Tks [_] _ _ from (.cons (.there (.there (.there (.there (.there (.there (.there (.there (.there .here))))))))) .nil)) h hs)) ?_;rintro⟨la,ln,lc,rfl⟩;obtain⟨P0,hP0⟩:∃p:AP,p=⟨⟨.slice la ln lc,rfl⟩,⟨.slice va vn vc,rfl⟩,acts⟩:=⟨_,rfl⟩;refine aA (dG tb69 tb69f (.cons Y Y Y (.cons .nil) (.cons Y Y Y (.skip (.cons .nil)) .nil))) Y ?_;refine cJ (bM (z0:=[.slice none 0 0,.slice none 0 0]) sP tz69 Y Y Y Y (.cons Y Y Y (.cons (.cons .nil)) .nil)) Y ?_;rintro _ K _ ⟨b24,rfl,rfl,rfl⟩ -;refine cJ (dQ (k:=(dT 69)) (ys:=[((⟨.slice la ln lc,Y⟩,⟨.slice va vn vc,Y⟩):Cell×Cell)]) aNP Y Y bR (fun w j=>dJ Tryz.underlying29 (SeesSl.at (k:=dT 69) (.blk (.own .here) Y Y) j)) gC7 gC7) Y ?_;rintro v25 K _ ⟨rfl,rfl,ho25⟩ -;refine zz2 ?_;refine cD (bX ts29 Y Y dA bR (.succ (.succ .zero)) Y) ?_;rintro _ K _ ⟨rfl,rfl⟩ -;refine zz3 ?_;refine mV (.cons (.there (.there (.there (.there (.there (.there (.there (.there (.there .here))))))))) (.cons (.there (.there (.there (.there (.there (.there (.there (.there (.there .here))))))))) (.cons (.there (.there (.there (.there (.there (.there (.there (.there (.there .here))))))))) (.cons (.there (.there .here)) (.cons (.there (.there .here)) (.cons (.there (.there .here)) (.cons (.there (.there .here)) (.cons .here (.cons (.there .here) (.cons (.there .here) (.cons (.there .here) .nil))))))))))) (zz4 ?_);refine bA Y Y (aA8 true false _ _ acts _ hl) (.cons (.there .here) (.cons (.there .here) .nil)) Y ?_;rintro _ K _ ⟨rfl,rfl,rfl⟩ -;refine zz11 ?_;refine aY 34 Y (fun h34=>?_) (fun h34=>?_)
 ·have h34:re=0:=h34;refine zz7 ?_;refine aA (xA (bQ Y Y) aH) Y (zz5 ?_);refine aA (bU (k:=dP) Y Tryz.underlying49 Y aL) Y (zz4 ?_);refine bV 44 Y (fun g44=>?_) (fun g44=>?_)
  ·refine zz10 ?_;refine uAe ?_;refine cS (eM aCR) ?_;refine cS (pI (P:=actP P0) (fun h hh=>by rw[hP0];exact hh)) ?_;refine cS tH ?_;refine uAn ?_;refine cS (fun h hh=>bHF (p:=P0) h gFP) (zz1 ?_);exact⟨_,Y,Y,Y,P0,by rw[hP0],rfl⟩
  have hnil:acts=[]:=List.eq_nil_of_length_eq_zero aH;subst hnil;refine pE bGB ?_;intro hlv;cases hlv
  refine zz3 ?_;refine aA (aAG Y Y (fun _=>Y) (fun w=>bIY _ _ w)) Y (zz8 ?_);refine uAe ?_;refine cS (eM aCR) ?_;refine cS (pI (P:=actP P0) (fun h hh=>by rw[hP0];exact hh)) ?_;refine cS tH ?_;refine uAn ?_;refine cS (fun h hh=>bHF (p:=P0) h gFP) (zz1 ?_);exact⟨_,Y,Y,Y,P0,by rw[hP0],rfl⟩
 have h34:¬re=0:=h34;refine zz13 ?_;refine aA (xA (bQ Y Y) he) Y (zz9 ?_);refine aA (xA (bQ Y Y) (ha h34)) Y (zz5 ?_);refine uAe ?_;refine cS (eM aCR) ?_;refine cS (pI (P:=actP P0) (fun h hh=>by rw[hP0];exact hh)) ?_;refine cS tH ?_;refine uAn ?_;refine cS (fun h hh=>bHF (p:=P0) h gFP) (zz1 ?_);exact⟨_,Y,Y,Y,P0,by rw[hP0],rfl⟩
end Go.Proofs
end
section
namespace Go.Proofs
open Go Go.SL Go.Syn Go.Mach
open Go.Cmp (cT RIs InsV RIns eX kW gQ insA codeP_len)
def bLD(o:Option (Int×Int)):(te o).1=(match o with|some y=>y.1|none=>0):=by cases o <;> rfl
def bLC(o:Option (Int×Int)):(match o with|some y=>y.1|none=>0)≠0→(te o).2=(match o with|some y=>y.2|none=>0):=by
 cases o with
 |none=>intro h;exact absurd Y h
 |some y=>intro _;rfl
end Go.Proofs
end

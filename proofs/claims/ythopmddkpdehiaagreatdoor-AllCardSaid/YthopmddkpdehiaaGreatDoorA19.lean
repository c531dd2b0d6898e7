/- Part 19 of what the proof stands on: walks and plain laws. Conditions: as each theorem says. -/
import Derived.Test.YthopmddkpdehiaaGreatDoorA10
import Derived.Test.YthopmddkpdehiaaGreatDoorA17
import Derived.Test.YthopmddkpdehiaaGreatDoorA18
set_option linter.unusedVariables false
set_option linter.unusedSimpArgs false
set_option linter.defProp false
set_option maxRecDepth 4000
set_option maxHeartbeats 1000000
section
attribute [local irreducible] Go.SL.T Go.SL.OL Go.SL.D Go.SL.DL Go.SL.Ev Go.SL.Ef Go.SL.EfS
section
namespace Go.Proofs
open Go Go.SL Go.Syn Go.Mach Tryz
open Go.Cmp (cS RIs InsV RIns fL nilC)
def wQ{P:Program}{f:FuncId}{args:List Value}{K:Hl}{L1 L:List Asn}{R:Ending->List Asn->Prop}(l:∃fn,P.funcs[f]?=some fn/\(fn.name== "runtime.NumGoroutine")=false/\fn.body.isSome=true)
  (h:∀a,Sat L1 a->K.dj a->Sp P f args (K.join a) L fun e c L'=>R e L'/\c=K.join a):Sp P f args K (L1++L) fun e c L'=>∃b,R e b/\c=K/\L'=L1++b:=
 ⟨l, fun F w i => by
  obtain⟨a,g,d,s⟩:=i.freeze;have p:(K.join a).less a=K:=by
   funext x
   unfold Hl.less Hl.join;rcases d x with q|q
   ·cases h:a x with
    |none=>simp[q]
    |some o=>simp[q]
   simp[q]
  exact ((h a g d).2 F w s).mono fun e t ⟨c, L', ⟨r, rk⟩, le, j⟩ => ⟨K, L1 ++ L', ⟨L', r, Y, Y⟩, xAB _, by
   have:=j.thaw g (x5 (Hl.le_join_r d) le);rw[rk,p]at this;exact this⟩⟩
def Kv{n:Nat}{ds:List Deferred}{q:World}{F:Hl}{b:Fr}{K:Hl}{L:List Asn}{dst:Option Tmp}{ty t':TypeId}{pos:String}{aft:Array Edge}{g:Option (Nat×Bool)}{x y:Operand}{a c:gI}(d:b.ev x=some (.agg #[i64 a.1,str a.2]))(t:b.ev y=some (.agg #[i64 c.1,str c.2])):
  Ev ⟨x3,n,ds,q,F⟩ b K L ⟨dst,.binOp .neq 34 x y t',ty,pos,aft,g⟩ (.bool (!decide (a=c))):=
 iY d t (fun w=>run_eqGuard_agg w _ _ _ _ _ _ Tryz.eqGuardType34) fun w=>by
  rw[run_neq_struct,Rm];rfl
def MF{x:Int}{n:Nat}(a:0<=x)(u:0<n):∃k:Nat,k<n/\i64 (x.tmod n)=i64 k:=by
 have h:=Int.tmod_nonneg (n:Int) a;have b:x.tmod n<n:=Int.tmod_lt_of_pos _ aH;exact⟨(x.tmod n).toNat,aH,by rw[Int.toNat_of_nonneg h]⟩
def tK(c:Int)(n:Nat)(d: -9223372036854775808<=c/\c<=9223372036854775807)(u:0<n/\n<=1000000000)(K:Hl):Sp x3 72 [i64 c,i64 n] K [] (Ret fun v a L'=>∃k:Nat,k<n/\v=i64 k/\a=K/\L'=[]):=by
 refine bL func72 Y ntmps72 Y Y fun F w=>ZC ?_;refine aX 6 Y (fun G=>Z3 ?_) (fun G=>Z6 ?_)
 ·refine aA (Xv Y aH aH) Y (Z7 ?_);refine aA (G4 Y Y aH) Y (Z5 ?_);obtain⟨k,j,e⟩:=MF (x:= -(c+1)) (n:=n) aH u.1;exact⟨_,Y,k,j,e,Y,Y⟩
 refine aA (G4 Y Y aH) Y (Z5 ?_);obtain⟨k,j,e⟩:=MF (x:=c) (n:=n) aH u.1;exact⟨_,Y,k,j,e,Y,Y⟩
def Cm(av P:Value)(xs ys:List gI)(K:Hl)(b:Ksl dI K av xs)(p:Ksl dI K P ys)(s:xs.length<=1000000)(t:ys.length<=1000000):Sp x3 76 [av,P] K [] (Ret fun v r L'=>v=.bool (decide (xs=ys))/\r=K/\L'=[]):=by
 refine bL func76 Y ntmps76 Y Y fun F w=>Z9 ?_;refine aA (bU (k:=dI) Y xAY Y (.known b)) Y (Z1 ?_);refine aA (bU (k:=dI) Y xAY Y (.known p)) Y (Z3 ?_)
 first|refine aX 10 Y (fun C=>?_) (fun C=>?_)|refine dZ 10 Y (fun C=>?_) (fun C=>?_)
 ·refine Z8 ?_;have g:¬xs=ys:=(fun e=>by rw[e]at C;exact absurd Y C);exact gH7
 have S:xs.length=ys.length:=aH;refine Z9 ?_;refine eD (fun(i:Nat)=>i<=xs.length/\xs.take i=ys.take i) (fun i=>[(0,av),(1,P),(5,i64 i)]) (fun _=>K) (fun _=>[]) (fun i=>xs.length-i) 0 ⟨xAA _,cD⟩ bM Y a7 ?_;intro i ⟨O,G⟩;refine Z5 ?_;refine aA (bU (k:=dI) Y xAY Y (.known b)) Y (Z3 ?_);refine aX 14 Y (fun q=>?_) (fun q=>ZC ?_)
 ·have M:i<xs.length:=aH;obtain⟨x,d⟩:∃x,xs[i]?=some x:=⟨xs[i]'M,x4 M⟩;obtain⟨y,f⟩:∃y,ys[i]?=some y:=⟨ys[i]'(by omega),x4 aH⟩;refine Z5 ?_;refine cN [] [] mixed gAD (cM _) (Z2 ?_);refine aJ Y Y (.none Y) Y Y (aW (k:=dI) (j:=i) jG Y (.known b) Y Y aH) Y (aJ Y Y (.none Y) Y Y (fH (n:=0) (k:=dI) lY Y (.known b) d) Y (Z2 ?_));refine aJ Y Y (.none Y) Y Y (aW (k:=dI) (j:=i) jG Y (.known p) Y Y aH) Y (aJ Y Y (.none Y) Y Y (fH (n:=0) (k:=dI) lY Y (.known p) f) Y (aJ Y Y (.none Y) Y Y (Kv (a:=x) (c:=y) Y Y) Y (Z2 ?_)));refine dZ 25 Y (fun l=>?_) (fun l=>?_)
  ·have h:¬x=y:=by simpa using l
   refine ZC ?_;have g:¬xs=ys:=(fun e=>by rw[e]at d;rw[d]at f;cases f;exact h Y);exact gH7
  have h:x=y:=by simpa using l
  refine Z8 ?_;exact cX (i+1) ⟨aH,by rw[xA2,xA2,G,d,f,h]⟩ aH bM Y a7
 exact gG4
def Cn(av P:Value)(xs ys:List aP)(K:Hl)(c:Ksl (aZ 9) K av xs)(g:Ksl (aZ 9) K P ys)(q:xs.length<=1000000)(t:ys.length<=1000000):Sp x3 121 [av,P] K [] (Ret fun v p L'=>v=.bool (decide (xs=ys))/\p=K/\L'=[]):=by
 refine bL func121 Y ntmps121 Y Y fun F w=>Z9 ?_;refine aA (bU (k:=(aZ 9)) Y xAC Y (.known c)) Y (Z1 ?_);refine aA (bU (k:=(aZ 9)) Y xAC Y (.known g)) Y (Z3 ?_)
 first|refine aX 10 Y (fun C=>?_) (fun C=>?_)|refine dZ 10 Y (fun C=>?_) (fun C=>?_)
 ·refine Z8 ?_;have a:¬xs=ys:=(fun e=>by rw[e]at C;exact absurd Y C);exact gH8
 have S:xs.length=ys.length:=aH;refine Z9 ?_;refine eD (fun(i:Nat)=>i<=xs.length/\xs.take i=ys.take i) (fun i=>[(0,av),(1,P),(5,i64 i)]) (fun _=>K) (fun _=>[]) (fun i=>xs.length-i) 0 ⟨xAA _,cD⟩ bM Y a7 ?_;intro i ⟨O,G⟩;refine Z5 ?_;refine aA (bU (k:=(aZ 9)) Y xAC Y (.known c)) Y (Z3 ?_);refine aX 14 Y (fun h=>?_) (fun h=>ZC ?_)
 ·have M:i<xs.length:=aH;obtain⟨x,b⟩:∃x,xs[i]?=some x:=⟨xs[i]'M,x4 M⟩;obtain⟨y,f⟩:∃y,ys[i]?=some y:=⟨ys[i]'(by omega),x4 aH⟩;refine Z5 ?_;refine cN [] [] mixed gAD (cM _) (Z2 ?_);refine aJ Y Y (.none Y) Y Y (aW (k:=(aZ 9)) (j:=i) b0 Y (.known c) Y Y aH) Y (aJ Y Y (.none Y) Y Y (cE (o:=0) (k:=aZ 9) ts9 Y (.known c) b Y) Y (Z2 ?_));refine aJ Y Y (.none Y) Y Y (aW (k:=(aZ 9)) (j:=i) b0 Y (.known g) Y Y aH) Y (aJ Y Y (.none Y) Y Y (cE (o:=0) (k:=aZ 9) ts9 Y (.known g) f Y) Y (Z3 ?_));refine aX 25 Y (fun l=>?_) (fun l=>?_)
  ·have d:¬x=y:=l;refine ZC ?_;have a:¬xs=ys:=(fun e=>by rw[e]at b;rw[b]at f;cases f;exact d Y);exact gH8
  have d:x=y:=xBH.1 l;refine Z8 ?_;exact cX (i+1) ⟨aH,by rw[xA2,xA2,G,b,f,d]⟩ aH bM Y a7
 exact gG4
end Go.Proofs
end
section
namespace Go.Proofs
open Go Go.SL Go.Syn Go.Mach Tryz
open Go.Cmp (cS RIs InsV RIns fL nilC pZ oJ)
def CodeFit(os:List Ins):Prop:=os.length<=100000/\∀o∈os,o.a.length<=100000/\o.b.length<=100000
def E5(av P:Value)(vs ws:List InsV)(os:List Ins)(K:Hl)(W:Ksl cS K av vs)(z:Ksl cS K P ws)(hR1:RIs K vs os)(hR2:RIs K ws os)(r:CodeFit os):Sp x3 70 [av,P] K [] (Ret fun v L L'=>v=.bool true/\L=K/\L'=[]):=by
 have g:vs.length=os.length:=hR1.length;have q:ws.length=os.length:=hR2.length;have N:=r.1;refine bL func70 Y ntmps70 Y Y fun F w=>Z9 ?_;refine aA (bU (k:=cS) Y xAN Y (.known W)) Y (Z1 ?_);refine aA (bU (k:=cS) Y xAN Y (.known z)) Y (Z3 ?_);refine aX 14 Y (fun a=>?_) (fun a=>Z9 ?_)
 ·exact absurd (by rw[g,q]) a
 refine eD (fun(i:Nat)=>i<=vs.length) (fun i=>[(0,av),(1,P),(5,i64 i)]) (fun _=>K) (fun _=>[]) (fun i=>vs.length-i) 0 (xAA _) bM Y a7 ?_;intro i S;refine Z5 ?_;refine aA (bU (k:=cS) Y xAN Y (.known W)) Y (Z3 ?_);refine aX 18 Y (fun e=>?_) (fun e=>ZB ?_)
 ·have M:i<vs.length:=aH;obtain⟨u,C⟩:∃u,vs[i]?=some u:=⟨vs[i]'M,x4 M⟩;obtain⟨x,y⟩:∃x,ws[i]?=some x:=⟨ws[i]'(by omega),x4 aH⟩;obtain⟨o,s,A⟩:=hR1.get C;obtain⟨o2,l,d⟩:=hR2.get y;rw[s]at l;cases l
  obtain⟨jf,vn,E,B,⟨va,ja⟩,⟨vb,jb⟩,je⟩:=u;obtain⟨rfl,rfl,rfl,rfl,rfl,b,G⟩:=A;dsimp only at b G;obtain⟨jh,xn,I,H,⟨xa,jc⟩,⟨xb,jd⟩,jg⟩:=x;obtain⟨rfl,rfl,rfl,rfl,rfl,p,t⟩:=d;dsimp only at p t;obtain⟨O,Q⟩:=r.2 o (x8 s);refine Z8 ?_;refine aA (aW (k:=cS) (j:=i) eP Y (.known W) Y Y aH) Y (aA (fH (n:=0) (k:=cS) gT Y (.known W) C) Y (Z1 ?_));refine aCJ fun b6=>cA (cQ gT Y Y Y bP gAU (.cons (.cons (.cons (.cons (.cons (.cons (.cons .nil))))))) gAQ) ?_;refine aCK (Z6 ?_);refine aA (aW (k:=cS) (j:=i) eP Y (.known z) Y Y aH) Y (aA (fH (n:=0) (k:=cS) gT Y (.known z) y) Y (Z1 ?_));refine aCJ fun b7=>cA (cQ gT Y Y Y bP gAU (.cons (.cons (.cons (.cons (.cons (.cons (.cons .nil))))))) gAQ) ?_;refine aCK (Z8 ?_);refine bA Y Y (Cn _ _ o.a o.a _ b p aH aH) .nil Y (aCL ?_);rw[xAO (rfl:o.a=o.a)];refine Z9 ?_;refine bA Y Y (Cn _ _ o.b o.b _ G t aH aH) .nil Y (aCL ?_);rw[xAO (rfl:o.b=o.b)];refine ZN ?_;refine aA (s7 (eH Y Y) (fun h=>h Y)) Y (ZB ?_);refine aA (s7 (eH Y Y) (fun h=>h Y)) Y (ZB ?_);refine aA (s7 (eH Y Y) (fun h=>h Y)) Y (ZB ?_);refine aA (kD (v:=.bool false) (Al xBC Y Y) (by cases o.oct<;>rfl)) Y (Z4 ?_)
  refine Z7 ?_;refine aA (s7 (eH Y Y) (fun h=>h Y)) Y (ZC ?_);exact gGN
 exact gHU
def BN(cv:Value)(vs:List InsV)(os:List Ins)(K:Hl)(W:Ksl cS K cv vs)(r:RIs K vs os)(l:CodeFit os):Sp x3 68 [cv] K [] (Ret fun v I L'=>I=K/\∃ws,L'=[sl false cS v ws,fL ws os]):=by
 have hl:vs.length=os.length:=r.length;have ja:=l.1;refine bL func68 Y ntmps68 Y Y fun F w=>ZH ?_;refine eD (fun(q:CI)=>q.i<=vs.length/\q.ws.length=q.i) (fun q=>[(0,cv),(3,q.v),(4,i64 q.i)]) (fun _=>K) (fun q=>[sl false cS q.v q.ws,fL q.ws (os.take q.i)]) (fun q=>vs.length-q.i) ⟨0,.slice none 0 0,[]⟩ ⟨xAA _,Y⟩ bM Y (fun h y=>iQ (pZ h y)) ?_;intro ⟨i,v,ws⟩ ⟨O,d⟩;dsimp only at O d ⊢;refine Z5 ?_;refine aA (bU (k:=cS) Y xAN Y (.known W)) Y (Z3 ?_);refine aX 9 Y (fun P=>?_) (fun P=>?_)
 ·have M:i<vs.length:=aH;obtain⟨u,C⟩:∃u,vs[i]?=some u:=⟨vs[i]'M,x4 M⟩;obtain⟨o,p,A⟩:=r.get C;obtain⟨ji,vn,H,E,⟨va,jd⟩,⟨vb,je⟩,jh⟩:=u;obtain⟨rfl,rfl,rfl,rfl,rfl,a,G⟩:=A;dsimp only at a G;obtain⟨sa,sn,sc,rfl⟩:=a.isSlice;obtain⟨ta,tn,tc,rfl⟩:=G.isSlice;obtain⟨jb,jc⟩:=l.2 o (x8 p);refine Z8 ?_;refine aA (aW (k:=cS) (j:=i) eP Y (.known W) Y Y aH) Y (aA (fH (n:=0) (k:=cS) gT Y (.known W) C) Y (Z1 ?_));refine aCJ fun b5=>cA (cQ gT Y Y Y bP (by first|(simp[Value.oneCell'];done)|exact fun c Q=>El.one _ _ c Q) (.cons (.cons (.cons (.cons (.cons (.cons (.cons .nil))))))) gAQ) ?_;refine aCK (Z6 ?_);refine aA (aW (k:=cS) (j:=i) eP Y (.known W) Y Y aH) Y (aA (dN (k:=cS) (j:=i) fA Y (.known W) M) Y (aA (eW (k:=cS) eL Y (.known W) C Y) Y (kG (eO (aZ 9)) (cG (dJ (k:=(aZ 9)) (ys:=o.a) eE Y Y .here (fun w j=>dC xAC (SeesSl.at (k:=aZ 9) (.known a) j)) gAG gAG) Y ?_))));rintro jf K _ ⟨rfl,rfl,s⟩ -;rw[xB1];refine oG iA ?_;rintro⟨N,S,pc,rfl⟩;refine Z8 ?_;refine aA (aW (k:=cS) (j:=i) eP Y (.known W) Y Y aH) Y (aA (dN (k:=cS) (j:=i) jE Y (.known W) M) Y (aA (eW (k:=cS) eL Y (.known W) C Y) Y (kG (eO (aZ 9)) (cG (dJ (k:=(aZ 9)) (ys:=o.b) eE Y Y .here (fun w j=>dC xAC (SeesSl.at (k:=aZ 9) (.known G) j)) gAG gAG) Y ?_))));rintro jg K _ ⟨rfl,rfl,t⟩ -;rw[xB1];refine oG iA ?_;rintro⟨f,z,B,rfl⟩;refine Z7 ?_;refine cG (bJ (z0:=[.int .i64 0,.int .i64 0,.int .i64 0,.bool false,.slice none 0 0,.slice none 0 0,.int .i64 0]) eP qG Y Y Y Y cW) Y ?_;refine aCJ fun L=>cG (dJ (k:=cS) (ys:=[(⟨o.op,o.n,o.tag,o.oct,⟨.slice N S pc,Y⟩,⟨.slice f z B,Y⟩,o.at_⟩:InsV)]) q5 Y Y bP (fun w j=>dC xAN (SeesSl.at (k:=cS) (.blk aL Y Y) j)) gAG gAG) Y ?_;rintro g K _ ⟨rfl,rfl,x⟩ -;refine Z9 ?_;refine aV (aQ AR (aQ jS (aQ AR (aQ cL bT)))) (d8 (oJ (v:=⟨o.op,o.n,o.tag,o.oct,⟨.slice N S pc,Y⟩,⟨.slice f z B,Y⟩,o.at_⟩) (o:=o) Y Y Y Y Y) ?_);exact cX ⟨i+1,g,ws++[⟨o.op,o.n,o.tag,o.oct,⟨.slice N S pc,Y⟩,⟨.slice f z B,Y⟩,o.at_⟩]⟩ ⟨by (show i+1<=vs.length);omega,by simp[d]⟩ gCO bM Y (fun h y=>by have e:os.take (i+1)=os.take i++[o]:=(by rw[xA2,p];rfl);show Sat [sl false cS g _,fL _ (os.take (i+1))] h;rw[e];exact hO y)
 have b:os.take i=os:=xAJ aH;rw[b];refine ZD ?_;exact⟨_,Y,Y,ws,Y⟩
end Go.Proofs
end
section
namespace Go.Proofs
open Go Go.SL Go.Syn Go.Mach Tryz
section
variable{A B P:Asn}{α:Type}{k:El α}{av cv mv v xv:Value}
set_option maxRecDepth 100000 in
def ES:elOk x3 96 155 2 48=true:=cV
set_option maxRecDepth 100000 in
def pF:iK x3 96 155 2=true:=cV
open Go.Cmp (cS RIs InsV RIns fL nilC pZ oJ lP)
structure AP where
 rv:Cell
 wv:Cell
 l:List gI
structure CP where
 rv:Cell
 wv:Cell
 rs:List InsV
 ws:List InsV
 os:List Ins
structure XP where
 b:Nat
 rb:Nat
 s:aP
 r:List aP×Tree
structure WS where
 xl:List XP
 al:List AP
 cl:List CP
def actP(p:AP):Asn:=fun h=>Sat [sl false dI p.rv.1 p.l,sl false dI p.wv.1 p.l] h
def cdP(p:CP):Asn:=fun h=>Sat [sl false cS p.rv.1 p.rs,fL p.rs p.os,sl false cS p.wv.1 p.ws,fL p.ws p.os] h
def l8(L:List Asn):Asn:=fun h=>Sat L h
abbrev wblk(wb:Nat)(xv mv av cv:Value):Asn:=pt wb (bK [xv,mv,av,cv] 99)
abbrev w7(wb:Nat)(W:WS)(xv mv av cv:Value):List Asn:=[wblk wb xv mv av cv,sl false (cC 43) xv (W.xl.map fun x=>pcl x.b),sl false (cC 151) mv (W.xl.map fun x=>pcl x.rb),sl false (dM 155) av (W.al.map fun p=>(p.rv,p.wv)),l8 (W.al.map actP),sl false (dM 157) cv (W.cl.map fun p=>(p.rv,p.wv)),l8 (W.cl.map cdP)]
def wP(wb:Nat)(W:WS):Asn:=fun h=>∃xv mv av cv,Sat (w7 wb W xv mv av cv) h
section
variable{E:Env}{c0:Code}{x0:Exit}{ops:Array Oper}{fr:Fr}{K:Hl}{L:List Asn}{Q:Post}{wb:Nat}{W:WS}
def L8{h:Hl}:Sat (wP wb W::L) h↔∃xv mv av cv,Sat (w7 wb W xv mv av cv++L) h:=by
 constructor
 ·rintro⟨a,l,⟨xv,mv,av,cv,c⟩,v,hd,rfl⟩;exact⟨xv,mv,av,cv,eT.2 ⟨a,l,c,v,hd,Y⟩⟩
 rintro⟨xv,mv,av,cv,c⟩;obtain⟨a,l,s,v,hd,rfl⟩:=eT.1 c;exact⟨a,l,⟨xv,mv,av,cv,s⟩,v,hd,Y⟩
def Ww{q w:World}{F:Hl}(i:In q F K (wP wb W::L) w):∃xv mv av cv,In q F K (w7 wb W xv mv av cv++L) w:=by
 obtain⟨x,c,r⟩:=i.rep;obtain⟨xv,mv,av,cv,c⟩:=L8.1 c;exact⟨xv,mv,av,cv,i.os,i.tape,i.output,i.size,x,c,r⟩
attribute [local semireducible] Go.SL.T Go.SL.OL Go.SL.D Go.SL.DL Go.SL.Ev Go.SL.Ef Go.SL.EfS in
def PF(h:∀xv mv av cv,T E c0 fr K (w7 wb W xv mv av cv++L) Q):T E c0 fr K (wP wb W::L) Q:=fun a w f i=>let ⟨xv,mv,av,cv,j⟩:=Ww i;h xv mv av cv a w f j
def u1:∀h,Sat (w7 wb W xv mv av cv++L) h->Sat (wP wb W::L) h:=fun h c=>L8.2 ⟨xv,mv,av,cv,c⟩
def Ug{p:AP}:∀h,Sat (wblk wb xv mv av cv::sl false (cC 43) xv (W.xl.map fun x=>pcl x.b)::sl false (cC 151) mv (W.xl.map fun x=>pcl x.rb)::sl false (dM 155) av ((W.al.map fun p=>(p.rv,p.wv))++[(p.rv,p.wv)])::l8 (W.al.map actP++[actP p])::sl false (dM 157) cv (W.cl.map fun p=>(p.rv,p.wv))::l8 (W.cl.map cdP)::L) h->Sat (wP wb {W with al:=W.al++[p]}::L) h:=by
 intro h y;refine u1 (W:={W with al:=W.al++[p]}) (xv:=xv) (mv:=mv) (av:=av) (cv:=cv) h ?_;exact gD5
def Xb{p:CP}:∀h,Sat (wblk wb xv mv av cv::sl false (cC 43) xv (W.xl.map fun x=>pcl x.b)::sl false (cC 151) mv (W.xl.map fun x=>pcl x.rb)::sl false (dM 155) av (W.al.map fun p=>(p.rv,p.wv))::l8 (W.al.map actP)::sl false (dM 157) cv ((W.cl.map fun p=>(p.rv,p.wv))++[(p.rv,p.wv)])::l8 (W.cl.map cdP++[cdP p])::L) h->Sat (wP wb {W with cl:=W.cl++[p]}::L) h:=by
 intro h y;refine u1 (W:={W with cl:=W.cl++[p]}) (xv:=xv) (mv:=mv) (av:=av) (cv:=cv) h ?_;exact gD5
def aBV{p:XP}:∀h,Sat (wblk wb xv mv av cv::sl false (cC 43) xv ((W.xl.map fun x=>pcl x.b)++[pcl p.b])::sl false (cC 151) mv ((W.xl.map fun x=>pcl x.rb)++[pcl p.rb])::sl false (dM 155) av (W.al.map fun p=>(p.rv,p.wv))::l8 (W.al.map actP)::sl false (dM 157) cv (W.cl.map fun p=>(p.rv,p.wv))::l8 (W.cl.map cdP)::L) h->Sat (wP wb {W with xl:=W.xl++[p]}::L) h:=by
 intro h y;refine u1 (W:={W with xl:=W.xl++[p]}) (xv:=xv) (mv:=mv) (av:=av) (cv:=cv) h ?_;exact gD5
def sA{l:List Asn}:∀h,Sat (A::l8 l::L) h->Sat (l8 (l++[A])::L) h:=by
 rintro h ⟨a,r,s,⟨c,m,d,B,b,rfl⟩,hd,rfl⟩;have f:=Hl.dj_join.1 hd;refine⟨c.join a,m,eT.2 ⟨c,a,d,⟨a,.emp,s,Y,Hl.dj_emp _,(Hl.join_emp _).symm⟩,f.1.symm,Y⟩,B,Hl.join_dj.2 ⟨b,f.2⟩,?_⟩
 rw[<-Hl.join_assoc,Hl.join_comm f.1]
def AF(k:∀h,Sat [A,B] h->P h):∀h,Sat (A::B::L) h->Sat (P::L) h:=by
 rintro h c;obtain⟨a,l,s,v,hd,rfl⟩:=eT (L:=[A,B]).1 c;exact⟨a,l,k a s,v,hd,Y⟩
def AE{C D:Asn}(k:∀h,Sat [A,B,C,D] h->P h):∀h,Sat (A::B::C::D::L) h->Sat (P::L) h:=by
 rintro h c;obtain⟨a,l,s,v,hd,rfl⟩:=eT (L:=[A,B,C,D]).1 c;exact⟨a,l,k a s,v,hd,Y⟩
end
def AI{xs:List α}:∀h,sl true k v xs h->sl false k v xs h:=by
 rintro h (⟨rfl,rfl,rfl⟩|⟨b,f,j,w,rfl,N,d,E,a,rfl⟩)
 ·exact .inl ⟨Y,Y,Y⟩
 exact .inr ⟨b,f,j,w,Y,fun h=>(by cases h),d,E,a,Y⟩
def Tt{L:List Asn}:∀h,Sat (sl true k v []::L) h->v=.slice none 0 0:=by
 rintro h ⟨a,l,(⟨rfl,_⟩|⟨b,f,j,w,rfl,N,_⟩),_⟩
 ·rfl
 exact absurd Y (N Y)
def zO(z1 z2:Bool)(av P:Value)(xs:List gI)(K:Hl)(g:xs.length<=1000000):Sp x3 76 [av,P] K [sl z1 dI av xs,sl z2 dI P xs] (Ret fun v b L'=>v=.bool true/\b=K/\L'=[sl z1 dI av xs,sl z2 dI P xs]):=by
 have h:=wQ (K:=K) (L1:=[sl z1 dI av xs,sl z2 dI P xs]) (L:=[]) (R:=fun e L'=>e=.returned (.bool true)/\L'=[]) ⟨_,func76,rfl,rfl⟩ (fun a f d=>(Cm av P xs xs (K.join a) ((lB .here f).mono (Hl.le_join_r d)) ((lB (.there .here) f).mono (Hl.le_join_r d)) g g).mono fun e b L' ⟨v,a,c,l,z⟩=>⟨⟨by rw[a,c,xAO rfl],z⟩,l⟩);exact h.mono fun e b L' ⟨i,⟨a,c⟩,l,z⟩=>⟨_,a,Y,l,by rw[z,c];rfl⟩
def Vk(n c:Nat)(w:World):(binOp .eql 29 (.slice none n c) (.slice none 0 0)).run x3 w=.ok (.bool true) w:=cV
def Gk(wb:Nat)(W:WS)(q rv:Value)(acts:List gI)(e a f d:Int)(E:acts.length<=1000000)(hn:W.al.length<=1000000)(B:e=f)(A:f≠0->a=d)(G:rv.oneCell'=true)(K:Hl):Sp x3 71 [ptr wb,q,i64 e,i64 a,.agg #[rv,i64 f,i64 d]] K [wP wb W,sl true dI q acts,sl false dI rv acts] (Ret fun v x L'=>v=.bool true/\x=K/\∃p:AP,p.l=acts/\L'=[wP wb {W with al:=W.al++[p]}]):=by
 refine bL func71 Y ntmps71 Y Y fun F w=>?_;refine Z3 ?_;refine aCJ fun b9=>?_;refine Z4 ?_;refine l9 (.cons (.there .here) (.cons .here (.cons .here (.cons .here .nil)))) ?_;refine PF fun xv mv O cv=>?_;refine Z3 ?_;refine kG (eO dI) ?_;refine cG (dJ (k:=dI) (ys:=acts) m9 Y Y .here (fun w j=>dC xAY (SeesSl.at (k:=dI) (.own (.there (.there (.there (.there (.there (.there (.there (.there (.there (.there .here))))))))))) j)) gAG gAG) Y ?_;rintro N K _ ⟨rfl,rfl,i⟩ -;rw[xB1];refine oG iA ?_;rintro⟨C,u,t,rfl⟩;refine ZC ?_;refine oG (fun h H=>iA (k:=dI) (z:=true) (xs:=acts) (v:=q) h (Tks.sat (show Tks [_] _ _ from (.cons (.there (.there (.there (.there (.there (.there (.there (.there (.there .here))))))))) .nil)) h H)) ?_;rintro⟨l,s,L,rfl⟩;obtain⟨b,hP0⟩:∃p:AP,p=⟨⟨.slice l s L,rfl⟩,⟨.slice C u t,rfl⟩,acts⟩:=⟨_,rfl⟩;refine aA (dA tb155 tb155f (.cons Y Y Y (.cons .nil) (.cons Y Y Y (.skip (.cons .nil)) .nil))) Y ?_;refine cG (bJ (z0:=[.slice none 0 0,.slice none 0 0]) pF tz155 Y Y Y Y (.cons Y Y Y (.cons (.cons .nil)) .nil)) Y ?_;refine aCJ fun Q=>?_;refine cG (dJ (k:=(dM 155)) (ys:=[((⟨.slice l s L,Y⟩,⟨.slice C u t,Y⟩):Cell×Cell)]) ES Y Y bP (fun w j=>dC xCN (SeesSl.at (k:=dM 155) (.blk (.own .here) Y Y) j)) gAG gAG) Y ?_;rintro S K _ ⟨rfl,rfl,M⟩ -;refine Z6 ?_;refine l9 (.cons (.there (.there (.there (.there (.there (.there (.there (.there (.there .here))))))))) (.cons (.there (.there (.there (.there (.there (.there (.there (.there (.there .here))))))))) (.cons (.there (.there (.there (.there (.there (.there (.there (.there (.there .here))))))))) (.cons (.there (.there .here)) (.cons (.there (.there .here)) (.cons (.there (.there .here)) (.cons (.there (.there .here)) (.cons .here (.cons (.there .here) (.cons (.there .here) (.cons (.there .here) .nil))))))))))) ?_;refine Z4 ?_;refine bA Y Y (zO true false _ _ acts _ E) (.cons (.there .here) (.cons (.there .here) .nil)) Y ?_;refine aCL ?_;refine ZB ?_;refine aX 34 Y (fun r=>?_) (fun r=>?_)
 ·have r:f=0:=r;refine Z7 ?_;refine aA (vI (bS Y Y) aH) Y ?_;refine Z5 ?_;refine aA (bU (k:=dI) Y xAY Y aL) Y ?_;refine Z4 ?_;refine bV 44 Y (fun g=>ZA ?_) (fun g=>?_)
  ·exact gDM
  have c:acts=[]:=List.eq_nil_of_length_eq_zero aH;subst c;refine oG Tt ?_;intro I;cases I
  refine Z3 ?_;refine aA (yV Y Y (fun _=>Y) (fun w=>Vk _ _ w)) Y ?_;refine Z8 ?_;exact gDM
 have r:¬f=0:=r;refine ZD ?_;refine aA (vI (bS Y Y) B) Y ?_;refine Z9 ?_;refine aA (vI (bS Y Y) (A r)) Y ?_;refine Z5 ?_;exact gDM
end
section
variable{s:aP}{K K':Hl}{x:Value}
set_option maxRecDepth 100000 in
def J1:elOk x3 94 43 1 8=true:=cV
set_option maxRecDepth 100000 in
def H0:elOk x3 95 151 1 8=true:=cV
set_option maxRecDepth 100000 in
def Gj:iK x3 94 43 1=true:=cV
set_option maxRecDepth 100000 in
def Es:iK x3 95 151 1=true:=cV
structure XOk (K:Hl) (x:XP):Prop where
 ok:gG x.s=.ok x.r
 fit:x.s.length<=600
 at_:u5 K x.b x.r
 ref:sF K x.rb x.r
def XOk.mono{x:XP}(h:XOk K x)(le:K.le K'):XOk K' x:=⟨h.ok,h.fit,h.at_.mono le,h.ref.mono le⟩
def AS.mono(h:AS s x K)(le:K.le K'):AS s x K':=h.imp (fun⟨b,r,a,c,l,z⟩=>⟨b,r,a,c,l,z.mono le⟩) id
def Xi(s:aP)(x p:Value)(e a:Int)(K:Hl):Prop:=(∃q:XP,q.s=s/\x=ptr q.b/\p=ptr q.rb/\e=0/\pc s=(0,-1)/\XOk K q)\/(x=.pointer none/\p=.pointer none/\(pc s).1=e/\e≠0/\(e≠1->(pc s).2=a))
def Uy{p:Value}{e a:Int}(d:AS s x K)(c:HE s p e a K):Xi s x p e a K:=by
 rcases c with ⟨v,rfl,rfl,rfl⟩|⟨v,c⟩
 ·rcases d with ⟨b,r,G,_⟩|⟨rfl,_⟩
  ·omega
  exact .inr ⟨Y,Y,by unfold pc;rw[x7 v],by decide,fun h=>absurd rfl h⟩
 cases hp:gG s with
 |error y=>
  rw[hp]at c;obtain⟨rfl,rfl,rfl,P⟩:=c;rcases d with ⟨b,r,_,h,_⟩|⟨rfl,_⟩
  ·rw[hp]at h;cases h
  exact .inr ⟨Y,Y,by unfold pc;rw[x6 aH,hp],P,fun _=>by unfold pc;rw[x6 aH,hp]⟩
 |ok q=>
  rw[hp]at c;obtain⟨rfl,g,rfl,f⟩:=c;rcases d with ⟨b,r,_,h,rfl,t⟩|⟨_,h⟩
  ·rw[hp]at h;cases h
   exact .inl ⟨⟨b,g,s,q⟩,Y,Y,Y,Y,by unfold pc;rw[x6 aH,hp],hp,v,t,f⟩
  rcases h with h|⟨e,h⟩
  ·omega
  rw[hp]at h;cases h
def ID(N:Nat)(W:WS)(s:aP)(K:Hl)(I:Glob K)(B:ErrT K)(hn:W.xl.length<=1000000):Sp x3 67 [ptr N,str s] K [wP N W] (Ret fun v K' L'=>v=.bool true/\∃b,(b=W\/∃q,XOk K' q/\b={W with xl:=W.xl++[q]})/\L'=[wP N b]):=by
 refine bL func67 Y ntmps67 Y Y fun F w=>Z8 ?_;refine bA Y Y (II s _ I B) .nil Y ?_;rintro _ Q _ ⟨x,rfl,E,rfl⟩ i;refine ZC ?_;refine bA Y Y (IW s _) .nil Y ?_;rintro _ S _ ⟨p,e,a,rfl,G,rfl⟩ A;have y:=Uy (AS.mono E A) G;have l:=x5 i A;refine Z9 ?_;rcases y with ⟨q,L,rfl,rfl,rfl,z,H⟩|⟨rfl,rfl,f,c,d⟩
 ·rw[z];refine Z5 ?_;refine aA (s7 (eH Y Y) (fun h=>h Y)) Y (ZA ?_);refine aA (kD (v:=.bool false) (Al xBC Y Y) Y) Y (Z5 ?_);refine aA (s7 (eH Y Y) (fun h=>h Y)) Y (ZS ?_);refine PF fun xv mv P cv=>Z7 ?_;refine cG (bJ (z0:=[.pointer none]) Gj tz43 Y Y Y Y cW) Y ?_;rintro _ K _ ⟨u,rfl,rfl,rfl⟩ -;refine cG (dJ (k:=(cC 43)) (ys:=[pcl q.b]) J1 Y Y (.there (.there .here)) (fun w j=>dC xCW (SeesSl.at (k:=cC 43) (.blk aL Y Y) j)) gAG gAG) Y ?_;rintro M K _ ⟨rfl,rfl,r⟩ -;refine Z2 ?_;refine cA (bW ts94 Y Y cR bP .zero Y) ?_;rintro _ K _ ⟨rfl,rfl⟩ -;refine Z9 ?_;refine cG (bJ (z0:=[.pointer none]) Es tz151 Y Y Y Y cW) Y ?_;rintro _ K _ ⟨C,rfl,rfl,rfl⟩ -;refine cG (dJ (k:=(cC 151)) (ys:=[pcl q.rb]) H0 Y Y (.there (.there (.there (.there .here)))) (fun w j=>dC underlying95 (SeesSl.at (k:=cC 151) (.blk aL Y Y) j)) gAG gAG) Y ?_;rintro O K _ ⟨rfl,rfl,t⟩ -;refine Z2 ?_;refine cA (bW ts95 Y Y cR bP aZe Y) ?_;rintro _ K _ ⟨rfl,rfl⟩ -;refine Z8 ?_;refine aV (aQ EI (aQ jS (aQ cL (aQ jS (aQ jS (aQ jS (aQ jS bT))))))) (d8 (aBV (p:=q)) (bG Y Y l ?_));exact⟨_,Y,Y,_,.inr ⟨q,H,Y⟩,Y⟩
 refine Z5 ?_;refine aA (s7 (eH Y Y) (fun h=>h f)) Y (ZA ?_);refine aA (kD (v:=.bool false) (Al xBC Y Y) Y) Y (Z5 ?_);refine aA (vI (eH Y Y) c) Y (ZA ?_);refine bV 40 Y (fun g=>Z5 ?_) (fun g=>ZR ?_)
 ·refine aA (s7 (eH Y Y) (fun h=>h (d g))) Y (ZO ?_);refine bG Y Y l ?_;exact⟨_,Y,Y,_,.inl Y,Y⟩
 refine bG Y Y l ?_;exact⟨_,Y,Y,_,.inl Y,Y⟩
end
section
variable{nm:Bool}{h:Hl}
set_option maxRecDepth 100000 in
def EU:elOk x3 97 157 2 48=true:=cV
set_option maxRecDepth 100000 in
def pG:iK x3 97 157 2=true:=cV
open Go.Cmp (cS RIs InsV RIns fL nZ lP insA)
open Go.Say (Co)
def Dt{s:aP}{r:List aP×Tree}(i:gG s=.ok r)(v:s.length<=600):(∀o∈Cmp.script r.2,InsOk o)/\(Cmp.script r.2).length<=1000000:=by
 have h:=m0 i;have b:=Cmp.script_len r.2;refine⟨fun o q=>?_,aH⟩
 obtain⟨c,C,f,E⟩:=Cmp.script_fit h.2.1 o q;exact⟨aH,aH,fun x a=>by have:=c x a;omega,fun x a=>by have:=C x a;omega⟩
def Ye{n k:Nat}(h:n<=k):∀ {t:Tree},sOk n t->sOk k t:=by
 intro t;induction t with
 |const=>intro _;trivial
 |not_ t w=>intro d;exact w d
 |many a l w=>intro d;exact w d
 |mat S j B a b=>intro d;exact⟨fun x g=>by have:=d.1 x g;omega,fun x g=>by have:=d.2.1 x g;omega,by have:=d.2.2.1;omega,by have:=d.2.2.2;omega⟩
 |exi a=>intro d;exact⟨fun x g=>by have:=d.1 x g;omega,by have:=d.2;omega⟩
 |siz=>intro d;exact d
 |tnil=>intro _;trivial
 |tcons t l e f=>intro d;exact⟨e d.1,f d.2⟩
 |plain=>intro _;trivial
 |act k a p=>intro d;exact xAR d h
 |set_ a v t=>intro d;exact⟨xAR d.1 h,xAR d.2 h⟩
 |iff s w=>intro d;exact w d
 |cnil=>intro _;trivial
 |ccons c l e f=>intro d;exact⟨e d.1,f d.2⟩
 |bnil=>intro _;trivial
 |bcons t b l e f i=>intro d;exact⟨e d.1,f d.2.1,i d.2.2⟩
 |belse b l e f=>intro d;exact⟨e d.1,f d.2⟩
def Ol{m:Msg}{code:List Ins}(B:MsgOk m)(d:∀o∈code,InsOk o):∀f st s,MInv s->(Mach.loop nm m code f st s).acts.length<=7:=by
 have fin:∀s:MS,MInv s->(if s.keep=true then s.acts++[(1,[])]else s.acts).length<=7:=by
  intro s h;have:=h.acts;split
  ·simp;omega
  omega
 intro f;induction f with
 |zero=>intro st s h;simp[Mach.loop]
 |succ f w=>
  intro st s h;unfold Mach.loop;split
  ·exact fin s h
  rename_i o q;split
  ·exact fin s h
  split
  ·simp
  rename_i t I;have b:=h.step B (d o (x8 q)) I;exact w _ _ ⟨b.stack,b.acts,b.vars,b.parts⟩
def DR{m:Msg}{code:List Ins}(B:MsgOk m)(d:∀o∈code,InsOk o):(Mach.run nm code m).acts.length<=7:=by
 unfold Mach.run;split
 ·simp
 exact Ol B d _ _ _ MInv.start
def Kf(z:Bool)(cv:Value)(vs:List InsV)(os:List Ins)(K:Hl)(p:CodeFit os):Sp x3 68 [cv] K [sl z cS cv vs,fL vs os] (Ret fun v c L'=>c=K/\∃ws,L'=[sl z cS cv vs,fL vs os,sl false cS v ws,fL ws os]):=by
 have h := wQ (K := K) (L1 := [sl z cS cv vs, fL vs os]) (L := []) (R := fun e L' => ∃ v, e = .returned v /\ ∃ ws, L' = [sl false cS v ws, fL ws os]) ⟨_, func68, rfl, rfl⟩ (fun b g d => by
  have q:RIs b vs os:=by
   obtain⟨a,s,le⟩:=r6 (A:=fL vs os) (.there .here) g;exact(lP s).mono le
  exact(BN cv vs os (K.join b) ((lB .here g).mono (Hl.le_join_r d)) (q.mono (Hl.le_join_r d)) p).mono fun e c L' ⟨v,b,f,l⟩=>⟨⟨v,b,l⟩,f⟩)
 exact h.mono fun e c L' ⟨i,⟨v,b,ws,f⟩,l,j⟩=>⟨v,b,l,ws,by rw[j,f];rfl⟩
def VM{α:Type}{z:Bool}{k:El α}{v:Value}{xs:List α}(g:sl z k v xs h):lT v:=by
 rcases g with ⟨rfl,rfl,rfl⟩|⟨b,f,j,w,rfl,N,d,E,i,rfl⟩
 ·intro a n c e;cases e;exact xAG _
 intro a n c e;cases e;exact d
def Rw:∀ {vs:List InsV} {os:List Ins},Sat (nZ vs os) h->∀v∈vs,lT v.a.1:=by
 intro vs;induction vs generalizing h with
 |nil=>intro os d v H;cases H
 |cons v vs w=>intro os d;cases os with
  |nil=>obtain⟨_,_,e,_⟩:=d;exact e.elim
  |cons o os=>
   obtain⟨a,l,⟨_,b,c,r,_⟩,f,hd,rfl⟩:=d;intro u C;rcases List.mem_cons.1 C with rfl|C
   ·exact VM r
   exact w f u C
def FG(z:Bool)(nm:Bool)(cv hv:Value)(vs:List InsV)(code:List Ins)(m:Msg)(K:Hl)(y:Ksl hdEl K hv m.hs)(B:MsgOk m)(r:∀o∈code,InsOk o)(i:code.length<=100000):
  Sp x3 69 [.bool nm,cv,msgV m hv] K [sl z cS cv vs,fL vs code] (Ret fun v f L'=>∃av,(∃x n c,av=.slice x n c)/\v=.tuple #[OutV (Mach.run nm code m) av,i64 (Mach.run nm code m).steps]/\f=K/\L'=[sl z cS cv vs,fL vs code,sl false dI av (Mach.run nm code m).acts]):=by
 have h := wQ (K := K) (L1 := [sl z cS cv vs, fL vs code]) (L := []) (R := fun e L' => ∃ v, e = .returned v /\ ∃ av, (∃ x n c, av = .slice x n c) /\ v = .tuple #[OutV (Mach.run nm code m) av, i64 (Mach.run nm code m).steps] /\ L' = [sl false dI av (Mach.run nm code m).acts]) ⟨_, func69, rfl, rfl⟩ (fun b p d => by
  obtain⟨a,s,le⟩:=r6 (A:=fL vs code) (.there .here) p;exact(DV nm cv hv vs code m (K.join b) ((lB .here p).mono (Hl.le_join_r d)) (((lP s).mono le).mono (Hl.le_join_r d)) (fun v hv _=>Rw s v hv) (y.mono Hl.le_join_l) B r i).mono fun e f L' ⟨v,b,av,g,l,j,F,G⟩=>⟨⟨v,b,av,g,l,G⟩,F⟩)
 exact h.mono fun e f L' ⟨q,⟨v,b,av,g,l,j⟩,F,G⟩=>⟨v,b,av,g,l,F,by rw[G,j];rfl⟩
def zM(q:XP)(m:Msg)(hv:Value)(K:Hl)(w:XOk K q)(y:Ksl hdEl K hv m.hs)(B:MsgOk m):Sp x3 74 [ptr q.rb,msgV m hv] K [] (Ret fun v b L'=>∃av,(∃x n c,av=.slice x n c)/\v=OutV (sayC q.r m) av/\L'=[sl false dI av (sayC q.r m).acts]):=by
 have a:=m0 w.ok;have u:=sO w.ok;have G:=w.fit;have hp:=(Say.parse_code (nm:=decide (dS∈q.r.1)) (m:=m) w.ok G).2;refine(Ho q.r m hv q.rb K w.ref a.1 a.2.2.2.1 (Ye G a.2.1) aH aH y B).mono fun e b L' ⟨v,h,av,d,l,z⟩=>⟨v,h,av,d,?_,?_⟩
 ·rw[l,SH (n:=(sayC q.r m).steps),<-hp];rfl
 rw[z,<-hp];rfl
def Ke(wb:Nat)(W:WS)(q:XP)(m:Msg)(hv:Value)(K:Hl)(a:XOk K q)(y:Ksl hdEl K hv m.hs)(B:MsgOk m)(hn:W.cl.length<=1000000):Sp x3 75 [ptr wb,ptr q.b,ptr q.rb,msgV m hv] K [wP wb W] (Ret fun v K' L'=>v=.bool true/\∃p:CP,p.os=Cmp.script q.r.2/\L'=[wP wb {W with cl:=W.cl++[p]}]):=by
 have i:=m0 a.ok;have s:=sO a.ok;have G:=a.fit;have b:=Cmp.script_fit i.2.1;have jf:(Mach.run (decide (dS∈q.r.1)) (Cmp.script q.r.2) m).acts.length<=7:=DR B (Dt a.ok G).1;have l:=(Dt a.ok G).1;have jg:=(Say.parse_code (nm:=true) (m:=m) a.ok G).1;have f:sayC q.r m=Mach.run (decide (dS∈q.r.1)) (Cmp.script q.r.2) m:=rfl;have H:CodeFit (Cmp.script q.r.2):=⟨aH,fun o ho=>by have:=(b o ho).2.2.1;have:=(b o ho).2.2.2;omega⟩;have L:=fun K h=>N5 q.b q.r q.s K a.ok a.fit h
 generalize I:Cmp.script q.r.2=code at*
 obtain⟨M,O,N,rfl⟩:=y.isSlice
 generalize jh:Value.slice M O N=hv at*
 refine bL func75 Y ntmps75 Y Y fun F w=>Z3 ?_;refine aCJ fun b7=>Z6 ?_;refine bA Y Y (L _ a.at_) .nil Y ?_;rintro jb K _ ⟨rfl,rs,rfl⟩ -;refine Z6 ?_;refine bA Y Y (Kf true _ rs code _ H) bQ Y ?_;rintro jc K _ ⟨rfl,ws,rfl⟩ -;refine Z4 ?_;refine l9 (aQ EJ (aQ cL (aQ cL (aQ cL (aQ cL (aQ cL bT)))))) (PF fun xv mv jk cv=>nX (fun h e=>iA (k:=cS) (z:=true) (xs:=rs) (v:=jb) h (Tks.sat (show Tks [_] _ _ from (aQ k7T bT)) h e)) ?_);rintro⟨la,ln,lc,rfl⟩;refine nX (fun h e=>iA (k:=cS) (z:=false) (xs:=ws) (v:=jc) h (Tks.sat (show Tks [_] _ _ from (aQ k9T bT)) h e)) ?_;rintro⟨va,vn,vc,rfl⟩;obtain⟨g,hP0⟩:∃p:CP,p=⟨⟨.slice la ln lc,rfl⟩,⟨.slice va vn vc,rfl⟩,rs,ws,code⟩:=⟨_,rfl⟩;refine Z8 ?_;refine aA (dA tb157 tb157f cW) Y ?_;refine cG (bJ (z0:=[.slice none 0 0,.slice none 0 0]) pG tz157 Y Y Y Y cW) Y ?_;refine aCJ fun je=>cG (dJ (k:=(dM 157)) (ys:=[((⟨.slice la ln lc,Y⟩,⟨.slice va vn vc,Y⟩):Cell×Cell)]) EU Y Y bP (fun w j=>dC xCO (SeesSl.at (k:=dM 157) (.blk aL Y Y) j)) gAG gAG) Y ?_;rintro jj K _ ⟨rfl,rfl,jd⟩ -;refine Z7 ?_;refine nX (p:=rs.length=code.length) (fun h e=>Go.Cmp.codeP_len h (Tks.sat (show Tks [fL rs code] _ _ from (aQ k9T bT)) h e)) ?_;intro ji;refine l9 (aQ aCG (aQ k8T (aQ k8T (aQ k8T (aQ k8T (aQ jS (aQ jS (aQ jS (aQ jS (aQ jS (aQ cL (aQ dQ bT)))))))))))) (Z2 ?_);refine aA (bU (k:=cS) Y xAN Y aL) Y ?_;refine aA (s7 (e7 Y Y) aH) Y (Z4 ?_);refine aA (bU (k:=cS) Y xAN Y aL) Y (Z4 ?_);refine bV 39 Y (fun E=>?_) (fun E=>ZD ?_)
 ·have r:rs=[]:=List.eq_nil_of_length_eq_zero aH;subst r;refine oG (fun h e=>Tt (k:=cS) h (Tks.sat (show Tks [_] _ _ from (aQ dQ bT)) h e)) ?_;intro ja;cases ja
  refine Z3 ?_;refine aA (kD (v:=.bool false) (pV xAN Y) Y) Y (ZB ?_);refine bA Y Y (Ec q.r dS q.rb _ a.ref aH) .nil Y (aCL (Z8 ?_));refine bA Y Y (FG true (decide (dS∈q.r.1)) _ hv _ code m _ y B l aH) bQ Y ?_;rintro _ K _ ⟨t,⟨ax,nx,cx,rfl⟩,rfl,rfl,rfl⟩ -;refine Z4 ?_;refine aCJ fun x=>cA (cQ ta146_3 Y Y Y bP gAY (.cons (.cons (.cons .nil))) (by intro j Q;simp)) ?_;refine aCK (Z7 ?_);refine bA Y Y (zM q m hv _ a y B) .nil Y ?_;rintro _ S _ ⟨u,⟨ay,ny,cy,rfl⟩,rfl,rfl⟩ A;rw[f];refine Z1 ?_;refine aCJ fun C=>cA (cQ ta146_3 Y Y Y bP gAY (.cons (.cons (.cons .nil))) (by intro j Q;simp)) ?_;refine aCK (Z8 ?_);refine bA Y Y (zO false false _ _ (Mach.run (decide (dS∈q.r.1)) code m).acts _ aH) bQ Y ?_;rintro _ S _ ⟨rfl,rfl,rfl⟩ -;refine ZG ?_;refine aA (vI (bS Y Y) Y) Y (ZB ?_);refine aA (vI (bS Y Y) Y) Y (Z5 ?_);refine aV (aQ EI (aQ EI (aQ EJ (aQ EJ (aQ YR (aQ EJ (aQ EJ (aQ EJ (aQ EJ (aQ EJ (aQ EJ bT))))))))))) (d8 (gS AI) (d8 (AE (P:=cdP g) (fun h y=>by rw[hP0];exact y)) (d8 sA (aV (aQ dQ (aQ dQ (aQ dQ (aQ dQ (aQ dQ (aQ dQ (aQ cL bT))))))) (d8 (fun h y=>Xb (p:=g) h gCN) (bG Y Y A ?_))))));exact⟨_,Y,Y,g,by rw[hP0],rfl⟩
 refine bA Y Y (Ec q.r dS q.rb _ a.ref aH) .nil Y (aCL (Z8 ?_));refine bA Y Y (FG true (decide (dS∈q.r.1)) _ hv _ code m _ y B l aH) bQ Y ?_;rintro _ K _ ⟨t,⟨ax,nx,cx,rfl⟩,rfl,rfl,rfl⟩ -;refine Z4 ?_;refine aCJ fun x=>cA (cQ ta146_3 Y Y Y bP gAY (.cons (.cons (.cons .nil))) (by intro j Q;simp)) ?_;refine aCK (Z7 ?_);refine bA Y Y (zM q m hv _ a y B) .nil Y ?_;rintro _ S _ ⟨u,⟨ay,ny,cy,rfl⟩,rfl,rfl⟩ A;rw[f];refine Z1 ?_;refine aCJ fun C=>cA (cQ ta146_3 Y Y Y bP gAY (.cons (.cons (.cons .nil))) (by intro j Q;simp)) ?_;refine aCK (Z8 ?_);refine bA Y Y (zO false false _ _ (Mach.run (decide (dS∈q.r.1)) code m).acts _ aH) bQ Y ?_;rintro _ S _ ⟨rfl,rfl,rfl⟩ -;refine ZG ?_;refine aA (vI (bS Y Y) Y) Y (ZB ?_);refine aA (vI (bS Y Y) Y) Y (Z5 ?_);refine aV (aQ EI (aQ EI (aQ EJ (aQ EJ (aQ YR (aQ EJ (aQ EJ (aQ EJ (aQ EJ (aQ EJ (aQ EJ bT))))))))))) (d8 (gS AI) (d8 (AE (P:=cdP g) (fun h y=>by rw[hP0];exact y)) (d8 sA (aV (aQ dQ (aQ dQ (aQ dQ (aQ dQ (aQ dQ (aQ dQ (aQ cL bT))))))) (d8 (fun h y=>Xb (p:=g) h gCN) (bG Y Y A ?_))))));exact⟨_,Y,Y,g,by rw[hP0],rfl⟩
end
end Go.Proofs
end
section
namespace Go.Proofs
open Go Go.SL Go.Syn Go.Mach Tryz
open Go.Cmp (cS RIs InsV RIns fL nZ lP insA)
structure ALook (K:Hl) (p:AP):Prop where
 rv:Ksl dI K p.rv.1 p.l
 wv:Ksl dI K p.wv.1 p.l
 n:p.l.length<=1000000
structure CLook (K:Hl) (p:CP):Prop where
 rv:Ksl cS K p.rv.1 p.rs
 wv:Ksl cS K p.wv.1 p.ws
 rr:RIs K p.rs p.os
 rw:RIs K p.ws p.os
 n:CodeFit p.os
def LW(av P:Value)(xs:List gI)(K:Hl)(c:Ksl dI K av xs)(d:Ksl dI K P xs)(b:xs.length<=1000000):Sp x3 76 [av,P] K [] (Ret fun v a L'=>v=.bool true/\a=K/\L'=[]):=
 (Cm av P xs xs K c d b b).mono fun e a L' ⟨v,h,f,l,z⟩=>⟨v,h,by rw[f,xAO rfl],l,z⟩
def Ix(N:Nat)(W:WS)(xv mv av cv:Value)(K:Hl)(t:K N=some (bK [xv,mv,av,cv] 99))(b:Ksl (dM 155) K av (W.al.map fun p=>(p.rv,p.wv)))(c:Ksl (dM 157) K cv (W.cl.map fun p=>(p.rv,p.wv)))(f:∀p∈W.al,ALook K p)(E:∀p∈W.cl,CLook K p)(s:W.al.length<=1000000)(P:W.cl.length<=1000000):Sp x3 44 [ptr N] K [] (Ret fun v e L'=>v=.bool true/\e=K/\L'=[]):=by
 have l:(W.al.map fun p=>(p.rv,p.wv)).length=W.al.length:=xAW _;have q:(W.cl.map fun p=>(p.rv,p.wv)).length=W.cl.length:=xAW _;refine bL func44 Y ntmps44 Y Y fun F w=>ZC ?_;refine eD (fun(i:Nat)=>i<=W.al.length) (fun i=>[(0,ptr N),(3,i64 i)]) (fun _=>K) (fun _=>[]) (fun i=>W.al.length-i) 0 (xAA _) bM Y a7 ?_;intro i O;refine Z8 ?_;refine aA (bU (k:=dM 155) Y xCN Y (.known b)) Y (Z3 ?_);refine aX 13 Y (fun M=>?_) (fun M=>ZC ?_)
 ·have Q:i<W.al.length:=by rw[xAW]at M;omega
  obtain⟨p,hp⟩:∃p,W.al[i]?=some p:=⟨W.al[i]'Q,x4 Q⟩;have g:(W.al.map fun p=>(p.rv,p.wv))[i]?=some (p.rv,p.wv):=by rw[xAT,hp];rfl
  have a:i<(W.al.map fun p=>(p.rv,p.wv)).length:=by rw[xAW];exact Q
  have d:=f p (x8 hp);refine Z5 ?_;refine cN [16] [16] mixed gAD (cM _) (Z5 ?_);refine aJ Y Y (.none Y) Y Y (aW (k:=dM 155) (j:=i) pF Y (.known b) Y Y a) Y (aJ Y Y (.none Y) Y Y (dN (k:=dM 155) (j:=i) tf155_0_0 Y (.known b) a) Y (aJ Y Y (.none Y) Y Y (eW (k:=dM 155) kX Y (.known b) g Y) Y (Z5 ?_)));refine aJ Y Y (.none Y) Y Y (aW (k:=dM 155) (j:=i) pF Y (.known b) Y Y a) Y (aJ Y Y (.none Y) Y Y (dN (k:=dM 155) (j:=i) tf155_1_1 Y (.known b) a) Y (aJ Y Y (.none Y) Y Y (eW (k:=dM 155) kX Y (.known b) g Y) Y (eR Y (.none Y) Y Y Y (LW _ _ p.l _ d.rv d.wv d.n) .nil Y (aCL (Z6 ?_)))));refine aA gAB Y (Z2 ?_);refine dZ 34 Y (fun r=>?_) (fun r=>?_)
  ·cases r
  refine Z8 ?_;exact gGN
 refine eD (fun(i:Nat)=>i<=W.cl.length) (fun i=>[(0,ptr N),(5,i64 i)]) (fun _=>K) (fun _=>[]) (fun i=>W.cl.length-i) 0 (xAA _) bM Y a7 ?_;intro i O;refine Z8 ?_;refine aA (bU (k:=dM 157) Y xCO Y (.known c)) Y (Z3 ?_);refine aX 41 Y (fun h=>?_) (fun h=>ZC ?_)
 ·have Q:i<W.cl.length:=by rw[xAW]at h;omega
  obtain⟨p,hp⟩:∃p,W.cl[i]?=some p:=⟨W.cl[i]'Q,x4 Q⟩;have g:(W.cl.map fun p=>(p.rv,p.wv))[i]?=some (p.rv,p.wv):=by rw[xAT,hp];rfl
  have a:i<(W.cl.map fun p=>(p.rv,p.wv)).length:=by rw[xAW];exact Q
  have d:=E p (x8 hp);refine Z5 ?_;refine cN [16] [16] mixed gAD (cM _) (Z5 ?_);refine aJ Y Y (.none Y) Y Y (aW (k:=dM 157) (j:=i) pG Y (.known c) Y Y a) Y (aJ Y Y (.none Y) Y Y (dN (k:=dM 157) (j:=i) tf157_0_0 Y (.known c) a) Y (aJ Y Y (.none Y) Y Y (eW (k:=dM 157) tX Y (.known c) g Y) Y (Z5 ?_)));refine aJ Y Y (.none Y) Y Y (aW (k:=dM 157) (j:=i) pG Y (.known c) Y Y a) Y (aJ Y Y (.none Y) Y Y (dN (k:=dM 157) (j:=i) tf157_1_1 Y (.known c) a) Y (aJ Y Y (.none Y) Y Y (eW (k:=dM 157) tX Y (.known c) g Y) Y (eR Y (.none Y) Y Y Y (E5 _ _ p.rs p.ws p.os _ d.rv d.wv d.rr d.rw d.n) .nil Y (aCL (Z6 ?_)))));refine aA gAB Y (Z2 ?_);refine dZ 62 Y (fun A=>?_) (fun A=>?_)
  ·cases A
  refine Z8 ?_;exact gGN
 exact gDF
def B2{α:Type}{f:α->Asn}{h:Hl}:∀ {l:List α},Sat (l.map f) h->∀p∈l,∃a,f p a/\a.le h
 | [],_,p,hp=>by cases hp
 |q::l,⟨a,m,s,B,hd,e⟩,p,hp=>by
  subst e;rcases List.mem_cons.1 hp with rfl|hp
  ·exact⟨a,s,Hl.le_join_l⟩
  obtain⟨b,r,le⟩:=B2 B p hp;exact⟨b,r,x5 le (Hl.le_join_r hd)⟩
def KP(N:Nat)(W:WS)(K:Hl)(H:∀p∈W.al,p.l.length<=1000000)(I:∀p∈W.cl,CodeFit p.os)(x:W.al.length<=1000000)(P:W.cl.length<=1000000):Sp x3 44 [ptr N] K [wP N W] (Ret fun v j L'=>v=.bool true/\j=K/\L'=[wP N W]):=by
 have h := wQ (K := K) (L1 := [wP N W]) (L := []) (R := fun e L' => e = .returned (.bool true) /\ L' = []) ⟨_, func44, rfl, rfl⟩ (fun c f d => by
  obtain⟨F,E,l,s,f⟩:=L8.1 f;have le:=Hl.le_join_r d;obtain⟨S,t,y⟩:=r6 (A:=wblk N F E l s) .here f;obtain⟨a4,u,B⟩:=r6 (A:=l8 (W.al.map actP)) (.there (.there (.there (.there .here)))) f;obtain⟨a6,w,C⟩:=r6 (A:=l8 (W.cl.map cdP)) (.there (.there (.there (.there (.there (.there .here)))))) f;refine(Ix N W F E l s (K.join c) (le _ _ (y _ _ ?_)) ((lB (.there (.there (.there .here))) f).mono le) ((lB (.there (.there (.there (.there (.there .here))))) f).mono le) (fun p hp=>?_) (fun p hp=>?_) x P).mono fun e j L' ⟨v,c,i,q,z⟩=>⟨⟨by rw[c,i],z⟩,q⟩
  ·have e:S=Hl.one N (bK [F,E,l,s] 99):=t;rw[e];simp[Hl.one]
  ·obtain⟨b,r,g⟩:=B2 u p hp;have a:=x5 g (x5 B le);exact⟨(lB .here r).mono a,(lB (.there .here) r).mono a,H p hp⟩
  obtain⟨b,r,g⟩:=B2 w p hp;have a:=x5 g (x5 C le);obtain⟨Q,c,M⟩:=r6 (A:=fL p.rs p.os) (.there .here) r;obtain⟨a2,i,O⟩:=r6 (A:=fL p.ws p.os) (.there (.there (.there .here))) r;exact⟨(lB .here r).mono a,(lB (.there (.there .here)) r).mono a,(lP c).mono (x5 M a),(lP i).mono (x5 O a),I p hp⟩)
 exact h.mono fun e j L' ⟨G,⟨c,i⟩,q,z⟩=>⟨_,c,Y,q,by rw[z,i];rfl⟩
section
variable{s:aP}{o:Ins}{v:InsV}{l:List aP}{os:List Ins}{vs:List InsV}{k:Nat}
def Fl{v v':InsV}{o o':Ins}:∀ {i:Nat} {vs:List InsV} {os:List Ins},vs[i]?=some v->os[i]?=some o->Fnd (insA v o) (insA v' o') (nZ vs os) (nZ (vs.set i v') (os.set i o'))
 |0,u::vs,q::os,h,b=>by cases h;cases b;exact .here
 |i+1,u::vs,q::os,h,b=>.there (Fl (i:=i) h b)
def Kd{i:Nat}{v':InsV}{o':Ins}(hv:vs[i]?=some v)(q:os[i]?=some o):
  ∃M:Asn,(∀L h,Sat (fL vs os::L) h->(v.op=o.op/\v.n=o.n/\v.tag=o.tag/\v.oct=o.oct/\v.at_=o.at_)/\Sat (sl false (aZ 9) v.a.1 o.a::sl false (aZ 9) v.b.1 o.b::M::L) h)/\
   (∀L h,(v'.op=o'.op/\v'.n=o'.n/\v'.tag=o'.tag/\v'.oct=o'.oct/\v'.at_=o'.at_)->Sat (sl false (aZ 9) v'.a.1 o'.a::sl false (aZ 9) v'.b.1 o'.b::M::L) h->Sat (fL (vs.set i v') (os.set i o')::L) h):=by
 obtain⟨M,d,e⟩:=(Fl (v':=v') (o':=o') hv q).split;refine⟨l8 M,?_,?_⟩
 ·rintro L h ⟨x,l,j,a,hd,rfl⟩;obtain⟨y,m,⟨A,t⟩,B,c,rfl⟩:=d _ j;have f:=Hl.join_dj.1 hd;exact⟨A,eT (L:=[_,_]).2 ⟨y,m.join l,t,⟨m,l,B,a,f.2,Y⟩,Hl.dj_join.2 ⟨c,f.1⟩,Hl.join_assoc _ _ _⟩⟩
 intro L h A g;obtain⟨y,r,t,⟨m,l,B,a,b,rfl⟩,hd,rfl⟩:=eT (L:=[_,_]).1 g;have f:=Hl.dj_join.1 hd;exact⟨y.join m,l,e _ ⟨y,m,⟨A,t⟩,B,f.1,Y⟩,a,Hl.join_dj.2 ⟨f.2,b⟩,(Hl.join_assoc _ _ _).symm⟩
def Ez(a b:Int)(s:aP)(o:Ins):Ins:=⟨a,b,o.tag,o.oct,List.replicate o.a.length s,List.replicate o.b.length s,o.at_⟩
def Ft(h:k<l.length):(List.replicate k s++l.drop k).set k s=List.replicate (k+1) s++l.drop (k+1):=by
 rw[List.set_append_right _ _ cD,List.length_replicate,Nat.sub_self,xAV h,List.replicate_succ',xA1]
 rfl
def Ii(h:k<=l.length):(List.replicate k s++l.drop k).length=l.length:=by
 rw[xAE,List.length_replicate,xBF];omega
def Ih(h:k<=l.length)(b:l.length<=k):List.replicate k s++l.drop k=List.replicate l.length s:=by
 have e:k=l.length:=aH;subst e;simp
def Jt{E:Env}{W:Code}{g:Fr}{K:Hl}{L:List Asn}{Q:Post}{M:Asn}(b:∀L h,Sat (fL vs os::L) h->(v.op=o.op/\v.n=o.n/\v.tag=o.tag/\v.oct=o.oct/\v.at_=o.at_)/\Sat (sl false (aZ 9) v.a.1 o.a::sl false (aZ 9) v.b.1 o.b::M::L) h)
  (h:(v.op=o.op/\v.n=o.n/\v.tag=o.tag/\v.oct=o.oct/\v.at_=o.at_)->T E W g K (sl false (aZ 9) v.a.1 o.a::sl false (aZ 9) v.b.1 o.b::M::L) Q):T E W g K (fL vs os::L) Q:=
 nX (fun x a=>(b L x a).1) fun A=>kQ (fun x a=>(b L x a).2) (h A)
def Ey(v:Value)(vs:List InsV)(os:List Ins)(i:Nat)(u:InsV)(o:Ins)(I a b:Int)(s f y:aP)(L:Int)(r x:Value)(C:vs[i]?=some u)(ho:os[i]?=some o)(S:o.a.length<=1000000/\o.b.length<=1000000)(h1:r.oneCell'=true)(h2:x.oneCell'=true)(K:Hl):Sp x3 113 [v,i64 i,.agg #[i64 I,i64 a,i64 b,str s,str f,str y,i64 L,r,x]] K [sl false cS v vs,fL vs os] (Ret fun u0 K' L'=>u0=.tuple #[]/\K'=K/\∃G,L'=[sl false cS v G,fL G (os.set i (Ez a b s o))]):=by
 have c:i<vs.length:=(xAI.1 C).1;obtain⟨ja,jb⟩:=S;refine bL func113 Y ntmps113 Y Y fun F w=>Z3 ?_;refine aCJ fun E=>Z4 ?_;obtain⟨M,hM1,hM2⟩:=Kd (v':={u with op:=a,n:=b}) (o':=Ez a b s o) C ho;refine l9 (aQ jS (aQ cL (aQ cL bT))) (Jt hM1 fun H=>?_);obtain⟨jc,N,e,d,⟨A,p⟩,⟨B,q⟩,t⟩:=u;dsimp only at H hM2;refine kQ (L':=[sl false (aZ 9) A o.a,sl false (aZ 9) B o.b,M,pt E (bK [i64 I,i64 a,i64 b,str s,str f,str y,i64 L,r,x] 101),sl false cS v vs]) a7 (Z5 ?_);refine eD (fun(k:Nat)=>k<=o.a.length) (fun k=>[(0,v),(1,i64 i),(5,ptr E),(6,i64 k)]) (fun _=>K) (fun k=>[sl false (aZ 9) A (List.replicate k s++o.a.drop k),sl false (aZ 9) B o.b,M,pt E (bK [i64 I,i64 a,i64 b,str s,str f,str y,i64 L,r,x] 101),sl false cS v vs]) (fun k=>o.a.length-k) 0 (xAA _) bM Y a7 ?_;intro k l;have Q:=Ii (s:=s) l;refine Z6 ?_;refine aA (aW (k:=cS) (j:=i) eP Y aL Y Y c) Y ?_;refine aA (dN (k:=cS) (j:=i) fA Y aL c) Y ?_;refine aA (eW (k:=cS) eL Y aL C Y) Y (uAj ?_);refine Z3 ?_;refine aX 15 Y (fun O=>?_) (fun O=>?_)
 ·have z:k<(List.replicate k s++o.a.drop k).length:=aH;refine Z4 ?_;refine cN [9] [9] mixed gAD (cM _) (Z2 ?_);refine aJ Y Y (.none Y) Y Y (aW (k:=cS) (j:=i) eP Y aL Y Y c) Y ?_;refine aJ Y Y (.none Y) Y Y (dN (k:=cS) (j:=i) fA Y aL c) Y ?_;refine aJ Y Y (.none Y) Y Y (eW (k:=cS) eL Y aL C Y) Y (Z3 ?_);refine aJ Y Y (.none Y) Y Y (aW (k:=aZ 9) (j:=k) b0 Y aL Y Y z) Y ?_;refine l7 Y Y (.none Y) Y (iS (k:=aZ 9) (y0:=s) ts9 Y Y Y Y z .here) ?_;rintro _ K _ ⟨rfl,rfl⟩ -;refine Z8 ?_;exact cX (k+1) aH aH bM Y (fun _ h=>by rw[Ft (by omega:k<o.a.length)]at h;exact h)
 rw[Ih l aH];refine ZC ?_;refine eD (fun(k:Nat)=>k<=o.b.length) (fun k=>[(0,v),(1,i64 i),(5,ptr E),(7,i64 k)]) (fun _=>K) (fun k=>[sl false (aZ 9) A (List.replicate o.a.length s),sl false (aZ 9) B (List.replicate k s++o.b.drop k),M,pt E (bK [i64 I,i64 a,i64 b,str s,str f,str y,i64 L,r,x] 101),sl false cS v vs]) (fun k=>o.b.length-k) 0 (xAA _) bM Y a7 ?_;intro k l;have Q:=Ii (s:=s) l;refine Z6 ?_;refine aA (aW (k:=cS) (j:=i) eP Y aL Y Y c) Y ?_;refine aA (dN (k:=cS) (j:=i) jE Y aL c) Y ?_;refine aA (eW (k:=cS) eL Y aL C Y) Y (uAj ?_);refine Z3 ?_;refine aX 34 Y (fun P=>?_) (fun P=>?_)
 ·have z:k<(List.replicate k s++o.b.drop k).length:=aH;refine Z4 ?_;refine cN [9] [9] mixed gAD (cM _) (Z2 ?_);refine aJ Y Y (.none Y) Y Y (aW (k:=cS) (j:=i) eP Y aL Y Y c) Y ?_;refine aJ Y Y (.none Y) Y Y (dN (k:=cS) (j:=i) jE Y aL c) Y ?_;refine aJ Y Y (.none Y) Y Y (eW (k:=cS) eL Y aL C Y) Y (Z3 ?_);refine aJ Y Y (.none Y) Y Y (aW (k:=aZ 9) (j:=k) b0 Y aL Y Y z) Y ?_;refine l7 Y Y (.none Y) Y (iS (k:=aZ 9) (y0:=s) ts9 Y Y Y Y z (.there .here)) ?_;rintro _ K _ ⟨rfl,rfl⟩ -;refine Z8 ?_;exact cX (k+1) aH aH bM Y (fun _ h=>by rw[Ft (by omega:k<o.b.length)]at h;exact h)
 rw[Ih l aH];refine ZB ?_;refine aA (aW (k:=cS) (j:=i) eP Y aL Y Y c) Y ?_;refine aA (dN (k:=cS) (j:=i) jD Y aL c) Y ?_;refine cA (DU (k:=cS) (y0:=(⟨a,N,e,d,⟨A,p⟩,⟨B,q⟩,t⟩:InsV)) ts3 Y Y C (by show 0<7;omega) Y Y (.there (.there (.there (.there .here))))) (aCK ?_);have g:i<(vs.set i (⟨a,N,e,d,⟨A,p⟩,⟨B,q⟩,t⟩:InsV)).length:=by rw[xBD];exact c
 have W:(vs.set i (⟨a,N,e,d,⟨A,p⟩,⟨B,q⟩,t⟩:InsV))[i]?=some (⟨a,N,e,d,⟨A,p⟩,⟨B,q⟩,t⟩:InsV):=List.getElem?_set_self c;refine Z7 ?_;refine aA (aW (k:=cS) (j:=i) eP Y aL Y Y g) Y ?_;refine aA (dN (k:=cS) (j:=i) fT Y aL g) Y ?_;refine cA (DU (k:=cS) (y0:=(⟨a,b,e,d,⟨A,p⟩,⟨B,q⟩,t⟩:InsV)) ts3 Y Y W (by show 1<7;omega) Y Y (.there (.there (.there (.there .here))))) (aCK ?_);rw[List.set_set];refine aG (aV (aQ cL (aQ cL (aQ cL (aQ dQ bT)))) (d8 (fun h hh=>hM2 _ h ⟨Y,Y,H.2.2.1,H.2.2.2.1,H.2.2.2.2⟩ hh) (uAn ?_)));refine Z1 ?_;exact⟨_,Y,Y,Y,_,Y⟩
end
end Go.Proofs
end
section
namespace Go.Proofs
open Go Go.SL Go.Syn Go.Mach Tryz
open Go.Cmp (cS RIs InsV RIns fL nZ lP insA codeP_len)
section
variable{p:AP}{A B M P:Asn}{α:Type}{l:List α}{x:α}
structure WFit (n:Nat) (W:WS):Prop where
 nx:W.xl.length<=n
 na:W.al.length<=n
 nc:W.cl.length<=n
 al:∀p∈W.al,p.l.length<=1000000
 cl:∀p∈W.cl,CodeFit p.os
def Ch{α:Type}{f:α->Asn}:∀ {k:Nat} {l:List α} {p:α},l[k]?=some p->∃M:List Asn,(∀h,Sat (l.map f) h->Sat (f p::M) h)/\∀p' h,Sat (f p'::M) h->Sat ((l.set k p').map f) h
 |0,q::l,p,h=>by cases h;exact⟨l.map f,fun _ h=>h,fun _ _ h=>h⟩
 |k+1,q::l,p,h=>by
  obtain⟨M,b,c⟩:=Ch (f:=f) (k:=k) (l:=l) (p:=p) h;exact⟨f q::M,fun x a=>hO (fB b a),fun p' x a=>fB (c p') (hO a)⟩
def Cg{f:α->Asn}{k:Nat}{p:α}(j:l[k]?=some p):∃M:Asn,(∀L h,Sat (l8 (l.map f)::L) h->Sat (f p::M::L) h)/\∀p' L h,Sat (f p'::M::L) h->Sat (l8 ((l.set k p').map f)::L) h:=by
 obtain⟨M,d,e⟩:=Ch (f:=f) j;refine⟨l8 M,?_,?_⟩
 ·rintro L h ⟨x,l,g,v,hd,rfl⟩;obtain⟨y,m,t,B,c,rfl⟩:=d _ g;have a:=Hl.join_dj.1 hd;exact⟨y,m.join l,t,⟨m,l,B,v,a.2,Y⟩,Hl.dj_join.2 ⟨c,a.1⟩,Hl.join_assoc _ _ _⟩
 rintro p' L h ⟨y,r,t,⟨m,l,B,v,b,rfl⟩,hd,rfl⟩;have a:=Hl.dj_join.1 hd;exact⟨y.join m,l,e p' _ ⟨y,m,t,B,a.1,Y⟩,v,Hl.join_dj.2 ⟨a.2,b⟩,(Hl.join_assoc _ _ _).symm⟩
def Po{L:List Asn}(k:∀h,P h->Sat [A,B] h):∀h,Sat (P::L) h->Sat (A::B::L) h:=fun h ⟨a,l,s,v,hd,e⟩=>eT (L:=[A,B]).2 ⟨a,l,k a s,v,hd,e⟩
def L7{C D:Asn}{L:List Asn}(k:∀h,P h->Sat [A,B,C,D] h):∀h,Sat (P::L) h->Sat (A::B::C::D::L) h:=fun h ⟨a,l,s,v,hd,e⟩=>eT (L:=[A,B,C,D]).2 ⟨a,l,k a s,v,hd,e⟩
def Tn{k:Nat}(h:l[k]?=some x):l.set k x=l:=by
 obtain⟨j,rfl⟩:=xAI.1 h;exact List.set_getElem_self j
def A1{β:Type}{g:α->β}{k:Nat}{y:α}(h:l[k]?=some x)(e:g y=g x):(l.set k y).map g=l.map g:=by
 rw[List.map_set,e];exact Tn (by rw[xAT,h];rfl)
section
variable{wb k:Nat}{W:WS}{L:List Asn}{xv mv av cv:Value}
def Nb{p':AP}(hp:W.al[k]?=some p)(a:p'.rv=p.rv)(b:p'.wv=p.wv)(S:∀p' L h,Sat (actP p'::M::L) h->Sat (l8 ((W.al.set k p').map actP)::L) h):
  ∀h,Sat (actP p'::M::wblk wb xv mv av cv::sl false (cC 43) xv (W.xl.map fun x=>pcl x.b)::sl false (cC 151) mv (W.xl.map fun x=>pcl x.rb)::sl false (dM 155) av (W.al.map fun p=>(p.rv,p.wv))::sl false (dM 157) cv (W.cl.map fun p=>(p.rv,p.wv))::l8 (W.cl.map cdP)::L) h->Sat (wP wb {W with al:=W.al.set k p'}::L) h:=by
 intro h y;have y:=S p' _ h y;have y:=Tks.sat (show Tks [wblk wb xv mv av cv,sl false (cC 43) xv (W.xl.map fun x=>pcl x.b),sl false (cC 151) mv (W.xl.map fun x=>pcl x.rb),sl false (dM 155) av (W.al.map fun p=>(p.rv,p.wv)),l8 ((W.al.set k p').map actP),sl false (dM 157) cv (W.cl.map fun p=>(p.rv,p.wv)),l8 (W.cl.map cdP)] _ L from .cons (.there .here) (aQ dQ (aQ dQ (aQ dQ (aQ cL (aQ cL (aQ cL bT))))))) h y;refine u1 (W:={W with al:=W.al.set k p'}) (xv:=xv) (mv:=mv) (av:=av) (cv:=cv) h ?_;simp only[w7];rw[A1 (g:=fun p:AP=>(p.rv,p.wv)) hp (by rw[a,b])];exact y
def Nc{p p':CP}(hp:W.cl[k]?=some p)(a:p'.rv=p.rv)(b:p'.wv=p.wv)(S:∀p' L h,Sat (cdP p'::M::L) h->Sat (l8 ((W.cl.set k p').map cdP)::L) h):
  ∀h,Sat (cdP p'::M::wblk wb xv mv av cv::sl false (cC 43) xv (W.xl.map fun x=>pcl x.b)::sl false (cC 151) mv (W.xl.map fun x=>pcl x.rb)::sl false (dM 155) av (W.al.map fun p=>(p.rv,p.wv))::l8 (W.al.map actP)::sl false (dM 157) cv (W.cl.map fun p=>(p.rv,p.wv))::L) h->Sat (wP wb {W with cl:=W.cl.set k p'}::L) h:=by
 intro h y;have y:=S p' _ h y;have y:=Tks.sat (show Tks [wblk wb xv mv av cv,sl false (cC 43) xv (W.xl.map fun x=>pcl x.b),sl false (cC 151) mv (W.xl.map fun x=>pcl x.rb),sl false (dM 155) av (W.al.map fun p=>(p.rv,p.wv)),l8 (W.al.map actP),sl false (dM 157) cv (W.cl.map fun p=>(p.rv,p.wv)),l8 ((W.cl.set k p').map cdP)] _ L from .cons (.there .here) (aQ dQ (aQ dQ (aQ dQ (aQ dQ (aQ dQ (aQ cL bT))))))) h y;refine u1 (W:={W with cl:=W.cl.set k p'}) (xv:=xv) (mv:=mv) (av:=av) (cv:=cv) h ?_;simp only[w7];rw[A1 (g:=fun p:CP=>(p.rv,p.wv)) hp (by rw[a,b])];exact y
def WFit.setA{n:Nat}(h:WFit n W)(hp:p.l.length<=1000000):WFit n {W with al:=W.al.set k p}:=⟨h.nx,by show (W.al.set k p).length<=n;rw[xBD];exact h.na,h.nc,fun q g=>by rcases List.mem_or_eq_of_mem_set g with g|rfl;exact h.al q g;exact hp,h.cl⟩
def WFit.setC{n:Nat}(h:WFit n W){p:CP}(hp:CodeFit p.os):WFit n {W with cl:=W.cl.set k p}:=⟨h.nx,h.na,by show (W.cl.set k p).length<=n;rw[xBD];exact h.nc,h.al,fun q g=>by rcases List.mem_or_eq_of_mem_set g with g|rfl;exact h.cl q g;exact hp⟩
def Rv {os : List Ins} {i : Nat} {o : Ins} {a b : Int} {s : aP} (h : CodeFit os) (c : os[i]? = some o) : CodeFit (os.set i (Ez a b s o)) := ⟨by rw [xBD]; exact h.1, fun q g => by
 rcases List.mem_or_eq_of_mem_set g with g|rfl
 ·exact h.2 q g
 have:=h.2 o (x8 c);simpa[Ez]using this⟩
end
def KQ(wb n:Nat)(W:WS)(kd a b:Int)(s d y:aP)(sz:Int)(r x:Value)(G:WFit n W)(hn:n<=1000000)(N: -9223372036854775808<=a/\a<=9223372036854775807)(S: -9223372036854775808<=b/\b<=9223372036854775807)(h1:r.oneCell'=true)(h2:x.oneCell'=true)(K:Hl):Sp x3 66 [ptr wb,.agg #[i64 kd,i64 a,i64 b,str s,str d,str y,i64 sz,r,x]] K [wP wb W] (Ret fun v K' L'=>v=.tuple #[]/\K'=K/\∃W',W'.xl=W.xl/\WFit n W'/\L'=[wP wb W']):=by
 refine bL func66 Y ntmps66 Y Y fun F w=>Z3 ?_;refine aCJ fun b3=>Z2 ?_;refine dU (fun(c:WS)=>c.xl=W.xl/\WFit n c) (fun _=>[(0,ptr wb),(3,ptr b3)]) (fun _=>K) (fun c=>[wP wb c,pt b3 (bK [i64 kd,i64 a,i64 b,str s,str d,str y,i64 sz,r,x] 101)]) ?_ ?_
 ·refine aI (l9 (aQ dQ (aQ cL bT)) (PF fun xv mv jg cv=>?_));have ji:(W.al.map fun p=>(p.rv,p.wv)).length=W.al.length:=xAW _;refine Z5 ?_;refine bV 13 Y (fun ja=>Z9 ?_) (fun ja=>?_)
  ·refine aA (bU (k:=(dM 155)) Y xCN Y aL) Y (Z5 ?_);refine aX 20 Y (fun jc=>?_) (fun jc=>?_)
   ·have z:0<(W.al.map fun p=>(p.rv,p.wv)).length:=aH;refine aI (cN [7] [7] mixed gAD (cM _) (Z6 ?_));refine aJ Y Y (.none Y) Y Y (bU (k:=(dM 155)) Y xCN Y aL) Y ?_;have E:(W.al.map fun p=>(p.rv,p.wv)).length<=1000000000:=by have:=G.na;omega
    have Q:=fun K=>tK a (W.al.map fun p=>(p.rv,p.wv)).length N ⟨z,E⟩ K
    refine eR Y (.none Y) Y Y Y (Q _) .nil Y ?_;rintro _ K _ ⟨k,g,rfl,rfl,rfl⟩ -;refine Z4 ?_;obtain⟨p,hp⟩:∃p,W.al[k]?=some p:=⟨W.al[k]'(by omega),x4 aH⟩;have C:(W.al.map fun p=>(p.rv,p.wv))[k]?=some (p.rv,p.wv):=by rw[xAT,hp];rfl
    obtain⟨M,hM1,hM2⟩:=Cg (f:=actP) hp;refine l9 (aQ EI (aQ cL (aQ cL (aQ cL (aQ cL (aQ cL (aQ cL (aQ cL bT)))))))) (kQ (hM1 _) (kQ (Po a7) ?_));have B:=x8 hp;have O:=G.al p B;refine l9 (aQ k9T (aQ cL (aQ cL (aQ cL (aQ cL (aQ cL (aQ cL (aQ cL (aQ cL (aQ cL bT)))))))))) (Z6 ?_);refine aA (aW (k:=dM 155) (j:=k) pF Y aL Y Y g) Y ?_;refine aA (dN (k:=dM 155) (j:=k) tf155_0_0 Y aL g) Y ?_;refine aA (eW (k:=dM 155) kX Y aL C Y) Y ?_;refine aA (bU (k:=dI) Y xAY Y aL) Y (Z9 ?_);refine aX 39 Y (fun jd=>?_) (fun jd=>?_)
    ·have e:0<p.l.length:=aH;refine Z5 ?_;have E:p.l.length<=1000000000:=aH;have Q:=fun K=>tK b p.l.length S ⟨e,E⟩ K
     refine bA Y Y (Q _) .nil Y ?_;rintro _ K _ ⟨i,A,rfl,rfl,rfl⟩ -;refine Z4 ?_;refine cN [15] [15] mixed gAD (cM _) (Z5 ?_);refine aJ Y Y (.none Y) Y Y (aW (k:=dM 155) (j:=k) pF Y aL Y Y g) Y ?_;refine aJ Y Y (.none Y) Y Y (dN (k:=dM 155) (j:=k) tf155_0_0 Y aL g) Y ?_;refine aJ Y Y (.none Y) Y Y (eW (k:=dM 155) kX Y aL C Y) Y (Z5 ?_);refine aJ Y Y (.none Y) Y Y (dA EP yR cW) Y ?_;refine aJ Y Y (.none Y) Y Y (aW (k:=dI) (j:=i) jG Y aL Y Y A) Y ?_;refine l7 Y Y (.none Y) Y (oI (k:=dI) (y0:=(a,s)) lY Y Y A (.there .here)) ?_;rintro _ K _ ⟨rfl,rfl⟩ -;refine Z2 ?_;refine cN [15] [15] mixed gAD (cM _) (Z5 ?_);refine aJ Y Y (.none Y) Y Y (aW (k:=dM 155) (j:=k) pF Y aL Y Y g) Y ?_;refine aJ Y Y (.none Y) Y Y (dN (k:=dM 155) (j:=k) tf155_1_1 Y aL g) Y ?_;refine aJ Y Y (.none Y) Y Y (eW (k:=dM 155) kX Y aL C Y) Y (Z5 ?_);refine aJ Y Y (.none Y) Y Y (dA EP yR cW) Y ?_;refine aJ Y Y (.none Y) Y Y (aW (k:=dI) (j:=i) jG Y aL Y Y A) Y ?_;refine l7 Y Y (.none Y) Y (oI (k:=dI) (y0:=(a,s)) lY Y Y A (.there (.there .here))) ?_;rintro _ K _ ⟨rfl,rfl⟩ -;refine cI ?_
     (refine aV (aQ dQ (aQ dQ (aQ dQ (aQ dQ (aQ dQ (aQ dQ (aQ dQ (aQ dQ (aQ dQ (aQ cL bT)))))))))) ?_;refine d8 (AF (P:=actP {p with l:=p.l.set i (a,s)}) a7) ?_;refine d8 (Nb (k:=k) (p':={p with l:=p.l.set i (a,s)}) hp Y Y hM2) ?_;exact cB {W with al:=W.al.set k {p with l:=p.l.set i (a,s)}} ⟨Y,G.setA (by show (p.l.set i _).length<=_;rw[xBD];exact O)⟩ bM Y a7)
    refine aU ?_
    (refine aV (aQ dQ (aQ dQ (aQ dQ (aQ dQ (aQ dQ (aQ dQ (aQ dQ (aQ dQ (aQ dQ (aQ cL bT)))))))))) ?_;refine d8 (AF (P:=actP p) a7) ?_;refine d8 (Nb (k:=k) (p':=p) hp Y Y hM2) ?_;exact cB {W with al:=W.al.set k p} ⟨Y,G.setA O⟩ bM Y a7)
   refine aU ?_
   (refine d8 (u1 (W:=W)) ?_;exact cB W ⟨Y,G⟩ bM Y a7)
  refine ZB ?_
  (refine d8 (u1 (W:=W)) ?_;exact cB W ⟨Y,G⟩ bM Y a7)
 intro c ⟨t,q⟩;refine PF fun xv mv jg cv=>?_;have jj:(c.cl.map fun p=>(p.rv,p.wv)).length=c.cl.length:=xAW _;refine Z6 ?_;refine bV 77 Y (fun jb=>Z9 ?_) (fun jb=>?_)
 ·refine aA (bU (k:=(dM 157)) Y xCO Y aL) Y (Z5 ?_);refine aX 84 Y (fun je=>?_) (fun je=>?_)
  ·have z:0<(c.cl.map fun p=>(p.rv,p.wv)).length:=aH;refine aI (cN [7] [7] mixed gAD (cM _) (Z6 ?_));refine aJ Y Y (.none Y) Y Y (bU (k:=(dM 157)) Y xCO Y aL) Y ?_;have E:(c.cl.map fun p=>(p.rv,p.wv)).length<=1000000000:=by have:=q.nc;omega
   have Q:=fun K=>tK a (c.cl.map fun p=>(p.rv,p.wv)).length N ⟨z,E⟩ K
   refine eR Y (.none Y) Y Y Y (Q _) .nil Y ?_;rintro _ K _ ⟨k,g,rfl,rfl,rfl⟩ -;refine Z4 ?_;obtain⟨p,hp⟩:∃p,c.cl[k]?=some p:=⟨c.cl[k]'(by omega),x4 aH⟩;have C:(c.cl.map fun p=>(p.rv,p.wv))[k]?=some (p.rv,p.wv):=by rw[xAT,hp];rfl
   obtain⟨M,hM1,hM2⟩:=Cg (f:=cdP) hp;refine l9 (aQ k6T (aQ cL (aQ cL (aQ cL (aQ cL (aQ cL (aQ cL (aQ cL bT)))))))) (kQ (hM1 _) (kQ (L7 a7) ?_));have B:=x8 hp;have O:=q.cl p B;have jh:=O.1;refine nX (p:=p.rs.length=p.os.length) (fun h hs=>codeP_len h (Tks.sat (show Tks [fL p.rs p.os] _ _ from (aQ dQ bT)) h hs)) ?_;intro jl;refine nX (p:=p.ws.length=p.os.length) (fun h hs=>codeP_len h (Tks.sat (show Tks [fL p.ws p.os] _ _ from (aQ AR bT)) h hs)) ?_;intro jp;refine l9 (aQ YR (aQ EJ (aQ k9T (aQ cL (aQ cL (aQ cL (aQ cL (aQ cL (aQ cL (aQ cL (aQ cL (aQ cL bT)))))))))))) (Z6 ?_);refine aA (aW (k:=dM 157) (j:=k) pG Y gBL Y Y g) Y ?_;refine aA (dN (k:=dM 157) (j:=k) tf157_0_0 Y gBL g) Y ?_;refine aA (eW (k:=dM 157) tX Y gBL C Y) Y ?_;refine aA (bU (k:=cS) Y xAN Y aL) Y (Z9 ?_);refine aX 103 Y (fun I=>?_) (fun I=>?_)
   ·have e:0<p.rs.length:=aH;refine Z5 ?_;have E:p.rs.length<=1000000000:=aH;have Q:=fun K=>tK b p.rs.length S ⟨e,E⟩ K
    refine bA Y Y (Q _) .nil Y ?_;rintro _ K _ ⟨i,A,rfl,rfl,rfl⟩ -;obtain⟨u,hu⟩:∃u,p.rs[i]?=some u:=⟨p.rs[i]'A,x4 A⟩;obtain⟨u2,jf⟩:∃u,p.ws[i]?=some u:=⟨p.ws[i]'(by omega),x4 aH⟩;obtain⟨o,ho⟩:∃u,p.os[i]?=some u:=⟨p.os[i]'(by omega),x4 aH⟩;have jk:=O.2 o (x8 ho);refine Z4 ?_;refine cN [10] [10] mixed gAD (cM _) (Z5 ?_);refine aJ Y Y (.none Y) Y Y (aW (k:=dM 157) (j:=k) pG Y gBL Y Y g) Y ?_;refine aJ Y Y (.none Y) Y Y (dN (k:=dM 157) (j:=k) tf157_0_0 Y gBL g) Y ?_;refine aJ Y Y (.none Y) Y Y (eW (k:=dM 157) tX Y gBL C Y) Y (Z2 ?_);refine eR Y (.none Y) Y Y Y (Ey _ _ p.os i u o kd a b s d y sz r x hu ho ⟨aH,aH⟩ h1 h2 _) bQ Y ?_;rintro _ K _ ⟨rfl,rfl,H,rfl⟩ -;refine Z2 ?_;refine cN [10] [10] mixed gAD (cM _) (Z5 ?_);refine aJ Y Y (.none Y) Y Y (aW (k:=dM 157) (j:=k) pG Y gBL Y Y g) Y ?_;refine aJ Y Y (.none Y) Y Y (dN (k:=dM 157) (j:=k) tf157_1_1 Y gBL g) Y ?_;refine aJ Y Y (.none Y) Y Y (eW (k:=dM 157) tX Y gBL C Y) Y (Z2 ?_);refine eR Y (.none Y) Y Y Y (Ey _ _ p.os i u2 o kd a b s d y sz r x jf ho ⟨aH,aH⟩ h1 h2 _) bQ Y ?_;rintro _ K _ ⟨rfl,rfl,L,rfl⟩ -;refine cI ?_
    (refine aV (aQ jS (aQ jS (aQ cL (aQ cL (aQ AR (aQ dQ (aQ jS (aQ jS (aQ jS (aQ jS (aQ dQ bT))))))))))) ?_;refine d8 (AE (P:=cdP {p with rs:=H,ws:=L,os:=p.os.set i (Ez a b s o)}) a7) ?_;refine d8 (Nc (W:=c) (k:=k) (p':={p with rs:=H,ws:=L,os:=p.os.set i (Ez a b s o)}) hp Y Y hM2) ?_;refine dG Y (xAB _) ?_;exact⟨_,Y,Y,Y,{c with cl:=c.cl.set k {p with rs:=H,ws:=L,os:=p.os.set i (Ez a b s o)}},t,q.setC (Rv O ho),Y⟩)
   refine aU ?_
   (refine aV (aQ AR (aQ AR (aQ AR (aQ AR (aQ AR (aQ dQ (aQ jS (aQ jS (aQ jS (aQ jS (aQ dQ bT))))))))))) ?_;refine d8 (AE (P:=cdP p) a7) ?_;refine d8 (Nc (W:=c) (k:=k) (p':=p) hp Y Y hM2) ?_;refine dG Y (xAB _) ?_;exact⟨_,Y,Y,Y,{c with cl:=c.cl.set k p},t,q.setC O,Y⟩)
  refine aU ?_
  (refine aV (aQ cL (aQ cL (aQ cL (aQ cL (aQ cL (aQ cL (aQ cL bT))))))) ?_;refine d8 (u1 (W:=c)) ?_;refine dG Y (xAB _) ?_;exact⟨_,Y,Y,Y,c,t,q,Y⟩)
 refine ZB ?_
 (refine aV (aQ cL (aQ cL (aQ cL (aQ cL (aQ cL (aQ cL (aQ cL bT))))))) ?_;refine d8 (u1 (W:=c)) ?_;refine dG Y (xAB _) ?_;exact⟨_,Y,Y,Y,c,t,q,Y⟩)
end
section
variable{W:WS}{q:XP}
def WFit.up{n:Nat}(h:WFit n W):WFit (n+1) W:=⟨Nat.le_succ_of_le h.nx,Nat.le_succ_of_le h.na,Nat.le_succ_of_le h.nc,h.al,h.cl⟩
def WFit.addX{n:Nat}(h:WFit n W):WFit (n+1) {W with xl:=W.xl++[q]}:=⟨by have:=h.nx;simp;omega,Nat.le_succ_of_le h.na,Nat.le_succ_of_le h.nc,h.al,h.cl⟩
def WFit.addA{n:Nat}{p:AP}(h:WFit n W)(hp:p.l.length<=1000000):WFit (n+1) {W with al:=W.al++[p]}:=⟨Nat.le_succ_of_le h.nx,by have:=h.na;simp;omega,Nat.le_succ_of_le h.nc,fun q g=>by rcases xA5.1 g with g|g;exact h.al q g;(have g:=List.mem_singleton.1 g;subst g;exact hp),h.cl⟩
def WFit.addC{n:Nat}{p:CP}(h:WFit n W)(hp:CodeFit p.os):WFit (n+1) {W with cl:=W.cl++[p]}:=⟨Nat.le_succ_of_le h.nx,Nat.le_succ_of_le h.na,by have:=h.nc;simp;omega,h.al,fun q g=>by rcases xA5.1 g with g|g;exact h.cl q g;(have g:=List.mem_singleton.1 g;subst g;exact hp)⟩
def QI{K:Hl}(w:XOk K q):CodeFit (Cmp.script q.r.2):=by
 have a:=m0 w.ok;have G:=w.fit;have d:=(Say.parse_code (nm:=true) (m:=⟨[],[],0,[]⟩) w.ok G).1;exact⟨aH,fun o b=>by have:=(Cmp.script_fit a.2.1 o b).2.2;omega⟩
def WN(o:Option (Int×Int)):(te o).1=(match o with|some y=>y.1|none=>0):=by cases o<;>rfl
def WM(o:Option (Int×Int)):(match o with|some y=>y.1|none=>0)≠0->(te o).2=(match o with|some y=>y.2|none=>0):=by
 cases o with
 |none=>intro h;exact absurd Y h
 |some y=>intro _;rfl
def LX(z:Bool)(av P:Value)(ws vs:List InsV)(os:List Ins)(K:Hl)(hv:Ksl cS K P vs)(r:RIs K vs os)(p:CodeFit os):Sp x3 70 [av,P] K [sl z cS av ws,fL ws os] (Ret fun v c L'=>v=.bool true/\c=K/\L'=[sl z cS av ws,fL ws os]):=by
 have h := wQ (K := K) (L1 := [sl z cS av ws, fL ws os]) (L := []) (R := fun e L' => e = .returned (.bool true) /\ L' = []) ⟨_, func70, rfl, rfl⟩ (fun b i d => by
  obtain⟨a,s,le⟩:=r6 (A:=fL ws os) (.there .here) i;exact(E5 av P ws vs os (K.join b) ((lB .here i).mono (Hl.le_join_r d)) (hv.mono Hl.le_join_l) (((lP s).mono le).mono (Hl.le_join_r d)) (r.mono Hl.le_join_l) p).mono fun e c L' ⟨v,b,f,l,g⟩=>⟨⟨by rw[b,f],g⟩,l⟩)
 exact h.mono fun e c L' ⟨j,⟨b,f⟩,l,g⟩=>⟨_,b,Y,l,by rw[g,f];rfl⟩
def OQ(nm:Bool)(cv hv:Value)(vs:List InsV)(code:List Ins)(m:Msg)(K:Hl)(H:Glob K)(j:ErrT K)(y:Ksl hdEl K hv m.hs)(B:MsgOk m)(p:∀o∈code,InsOk o)(F:code.length<=1000000):
  Sp x3 18 [.bool nm,cv,msgV m hv] K [sl false cS cv vs,fL vs code] (Ret fun v c L'=>∃av,v=.tuple #[av,i64 (Mach.run nm code m).steps,i64 (te (Mach.run nm code m).err).1,i64 (te (Mach.run nm code m).err).2]/\L'=[sl false cS cv vs,fL vs code,sl true dI av (Mach.run nm code m).acts]):=by
 have h := Hm (K := K) (L1 := [sl false cS cv vs, fL vs code]) (L := []) (R := fun e L' => ∃ v, e = .returned v /\ ∃ av, v = .tuple #[av, i64 (Mach.run nm code m).steps, i64 (te (Mach.run nm code m).err).1, i64 (te (Mach.run nm code m).err).2] /\ L' = [sl true dI av (Mach.run nm code m).acts]) ⟨_, func18, rfl, rfl⟩ (fun b f d => by
  obtain⟨a,s,le⟩:=r6 (A:=fL vs code) (.there .here) f;exact(Lg nm cv hv vs code m (K.join b) (H.mono Hl.le_join_l) (j.mono Hl.le_join_l) ((lB .here f).mono (Hl.le_join_r d)) (((lP s).mono le).mono (Hl.le_join_r d)) (y.mono Hl.le_join_l) B p F).mono fun e c L' q=>q)
 exact h.mono fun e c L' ⟨g,⟨v,b,av,i,l⟩,z⟩=>⟨v,b,av,i,by rw[z,l];rfl⟩
end
end Go.Proofs
end
section
namespace Go.Proofs
open Go Go.SL Go.Syn Go.Mach
open Go.Cmp (cS RIs InsV)
structure OpV where
 kd:Int
 a:Int
 b:Int
 s:aP
 from_:aP
 to_:aP
 sz:Int
 hv:Cell
 cv:Cell
 hs:List (aP×aP)
 vs:List InsV
 os:List Ins
def opEl:El OpV:={e:=101,sz:=9,enc:=fun v=>[i64 v.kd,i64 v.a,i64 v.b,str v.s,str v.from_,str v.to_,i64 v.sz,v.hv.1,v.cv.1],len:=fun _=>rfl,one:=fun v u h=>by simp at h;rcases h with rfl|rfl|rfl|rfl|rfl|rfl|rfl|rfl|rfl;rfl;rfl;rfl;rfl;rfl;rfl;rfl;exact v.hv.2;exact v.cv.2}
abbrev OpV.m(x:OpV):Msg:=⟨x.from_,x.to_,x.sz,x.hs⟩
structure OpIs (K:Hl) (x:OpV):Prop where
 hs:Ksl hdEl K x.hv.1 x.hs
 vs:Ksl cS K x.cv.1 x.vs
 os:RIs K x.vs x.os
 fit:∀v∈x.vs,lT v.a.1
 a: -9223372036854775808<=x.a/\x.a<=9223372036854775807
 b: -9223372036854775808<=x.b/\x.b<=9223372036854775807
def OpIs.mono{K a:Hl}{x:OpV}(h:OpIs K x)(le:K.le a):OpIs a x:=⟨h.hs.mono le,h.vs.mono le,h.os.mono le,h.fit,h.a,h.b⟩
structure OpFit (n:Nat) (x:OpV):Prop where
 s:x.s.length<=n
 from_:x.from_.length<=n
 to_:x.to_.length<=n
 hn:x.hs.length<=n
 hs:∀h∈x.hs,h.1.length<=n/\h.2.length<=n
 on:x.os.length<=n
 os:∀o∈x.os,(o.a.length<=n/\∀y∈o.a,y.length<=n)/\o.b.length<=n/\∀y∈o.b,y.length<=n
def OpFit.mono{n k:Nat}{x:OpV}(h:OpFit n x)(le:n<=k):OpFit k x:=by
 obtain⟨b,c,l,z,F,G,B⟩:=h;exact⟨aH,aH,aH,aH,fun q g=>by have:=F q g;omega,aH,fun o a=>⟨⟨by have:=(B o a).1.1;omega,fun y t=>by have:=(B o a).1.2 y t;omega⟩,by have:=(B o a).2.1;omega,fun y t=>by have:=(B o a).2.2 y t;omega⟩⟩
def OpFit.msg{x:OpV}(h:OpFit 65536 x):MsgOk x.m:=⟨by have:=h.hn;show x.hs.length<=_;omega,fun q g=>by have:=h.hs q g;omega,by have:=h.from_;show x.from_.length<=_;omega,by have:=h.to_;show x.to_.length<=_;omega⟩
def OpFit.code{x:OpV}(h:OpFit 65536 x):Proofs.CodeFit x.os:=⟨by have:=h.on;omega,fun o q=>⟨by have:=(h.os o q).1.1;omega,by have:=(h.os o q).2.1;omega⟩⟩
def OpFit.ins{x:OpV}(h:OpFit 65536 x):∀o∈x.os,InsOk o:=fun o q=>⟨by have:=(h.os o q).1.1;omega,by have:=(h.os o q).2.1;omega,fun y t=>by have:=(h.os o q).1.2 y t;omega,fun y t=>by have:=(h.os o q).2.2 y t;omega⟩
end Go.Proofs
end
section
set_option maxRecDepth 100000
namespace Go.Proofs
open Go Go.SL Go.Syn Go.Mach Go.ChangeShapes Go.WideShapes Go.RowKit
open Go.Cmp (cS RIs InsV RIns)
namespace TzRow
def Nd{n:Int}(h:(Lit.int .i64 n).wf=true): -9223372036854775808<=n/\n<=9223372036854775807:=by
 have a:IntKind.i64.min= -9223372036854775808:=rfl;have b:IntKind.i64.max=9223372036854775807:=rfl;simp only[Lit.wf,Bool.and_eq_true,decide_eq_true_eq]at h;omega
def C1{α:Type}{k:El α}{K:Hl}{v:Value}{xs:List α}(h:Ksl k K v xs):v.oneCell'=true:=by
 rcases h with ⟨a,c,rfl,_⟩|⟨b,off,f,g,w,rfl,_⟩<;>rfl
section
variable{H:Type}{enc:TypeId×Value->H}{W:World}{base:Nat}{sp:Nat->Bool}{held:Bool}
def Qd{P:Program}{t e:TypeId}{n:Nat}{v:Value}{x:DataW H×List MemPlace}(C:P.underlying t=some (.slice e))(h:DataW.trod enc P W base sp held n t [v]=some x):lT v:=by
 obtain⟨m,i,b⟩:=rI h;clear h;have h:=b;clear b i;unfold DataW.trodStep at h;rw[C]at h;cases v with
 |slice a q f=>
  cases a with
  |none=>
   cases q with
   |succ l=>simp at h
   |zero=>intro a n c e;cases e;exact xAA _
  |some a=>
   simp only[]at h;split at h
   ·rename_i r;intro a n c e;cases e
    omega
   cases h
 |_=>simp at h
def M5{n:Nat}{v:Value}{x:DataW H×List MemPlace}(h:DataW.trod enc Tryz.prog W base sp held n 39 [v]=some x)(b:∀k∈x.1.weights Tryz.prog 39,k<=reachBytes):∃xs:List aP,Ksl (aZ 9) (hp W) v xs/\xs.length<=140737488355328/\∀y∈xs,y.length<=140737488355328:=by
 have c:Tryz.prog.bytesOf 9=16:=cV
 have r : reachBytes = 140737488351232 := rfl;obtain ⟨xs, f, g, i⟩ := GN (k := aZ 9) (G := fun y : aP => y.length <= 140737488355328) Tryz.underlying39 cV dD (fun n cs y t q => by
  obtain⟨l,e,p⟩:=Bk t;exact⟨l,e,by have:=b _ (q _ p);omega⟩) h
 refine⟨xs,f,?_,g⟩
 rcases i with rfl|⟨k,j,a⟩
 ·simp
 have d:(aZ 9).e=9:=rfl;rw[d,c]at a;have:=b k j;omega
def Ml(o:Ins):Prop:=(o.a.length<=140737488355328/\∀y∈o.a,y.length<=140737488355328)/\o.b.length<=140737488355328/\∀y∈o.b,y.length<=140737488355328
def X1{n:Nat}{cs:List Value}{x:DataW H×List MemPlace}(h:DataW.trod enc Tryz.prog W base sp held n 41 cs=some x)(e:∀k∈x.1.weights Tryz.prog 41,k<=reachBytes):∃v:InsV,cs=cS.enc v/\∃o,RIns (hp W) v o/\lT v.a.1/\Ml o:=by
 obtain⟨m,f,a⟩:=s5 Tryz.underlying41 h;have b:Tryz.prog.cellsOf 41=7:=cV
 have Q:Tryz.prog.cellsOf 3=1:=cV
 have L:Tryz.prog.cellsOf 4=1:=cV
 have y:Tryz.prog.cellsOf 39=1:=cV
 rw[b]at f
 match cs,f,a with
 | [v0,v1,v2,v3,u,B,v6],_,a=>
  obtain⟨y0,P,w0⟩:=a 0 _ rfl;obtain⟨y1,c,w1⟩:=a 1 _ rfl;obtain⟨y2,d,w2⟩:=a 2 _ rfl;obtain⟨y3,l,w3⟩:=a 3 _ rfl;obtain⟨y4,z,E⟩:=a 4 _ rfl;obtain⟨y5,F,I⟩:=a 5 _ rfl;obtain⟨y6,G,w6⟩:=a 6 _ rfl;dsimp only at P c d l z F G E I;rw[Q]at P c d G;rw[L]at l;rw[y]at z F;obtain⟨g,p,_⟩:=qE Tryz.underlying3 P;obtain⟨i,M,_⟩:=qE Tryz.underlying3 c;obtain⟨q,O,_⟩:=qE Tryz.underlying3 d;obtain⟨N,C⟩:=Qc Tryz.underlying4 l;obtain⟨s,w,_⟩:=qE Tryz.underlying3 G;have r:DataW.trod enc Tryz.prog W base sp held m 39 [u]=some y4:=z;have K:DataW.trod enc Tryz.prog W base sp held m 39 [B]=some y5:=F;obtain⟨xa,A,S,za⟩:=M5 r fun k j=>e _ (E _ j)
  obtain⟨xb,t,lb,zb⟩:=M5 K fun k j=>e _ (I _ j)
  simp at p M O C w;subst p M O C w;exact⟨⟨g,i,q,N,⟨u,C1 A⟩,⟨B,C1 t⟩,s⟩,Y,⟨g,i,q,N,xa,xb,s⟩,⟨Y,Y,Y,Y,Y,A,t⟩,Qd Tryz.underlying39 r,⟨S,za⟩,lb,zb⟩
def DK{K:Hl}{Q:Ins->Prop}:∀ {vs:List InsV},(∀v∈vs,∃o,RIns K v o/\Q o)->∃os,RIs K vs os/\∀o∈os,Q o
 | [],_=>⟨[],trivial,fun o h=>by cases h⟩
 |v::vs,h=>by
  obtain⟨o,a,b⟩:=h v List.mem_cons_self;obtain⟨os,l,z⟩:=DK fun u C=>h u (List.mem_cons_of_mem _ C)
  exact⟨o::os,⟨a,l⟩,fun q g=>by rcases List.mem_cons.1 g with rfl|g;exact b;exact z q g⟩
def UW{n:Nat}{v:Value}{x:DataW H×List MemPlace}(h:DataW.trod enc Tryz.prog W base sp held n 42 [v]=some x)(f:∀k∈x.1.weights Tryz.prog 42,k<=reachBytes):∃vs os,Ksl cS (hp W) v vs/\RIs (hp W) vs os/\(∀u∈vs,lT u.a.1)/\os.length<=140737488355328/\∀o∈os,Ml o:=by
 have a : 1 <= Tryz.prog.bytesOf 41 := xAX cV;have s : reachBytes = 140737488351232 := rfl;obtain ⟨vs, l, d, p⟩ := GN (k := cS) (G := fun u => lT u.a.1 /\ ∃ o, RIns (hp W) u o /\ Ml o) Tryz.underlying42 cV dD (fun n cs y t q => by
  obtain⟨u,e,o,g,i,I⟩:=X1 t fun k j=>f _ (q _ j)
  exact⟨u,e,i,o,g,I⟩) h
 obtain⟨os,z,F⟩:=DK (Q:=Ml) fun u C=>(d u C).2
 refine⟨vs,os,l,z,fun u C=>(d u C).1,?_,F⟩
 rw[<-z.length];rcases p with rfl|⟨k,j,b⟩
 ·simp
 have:=f k j;have c:cS.e=41:=rfl;rw[c]at b;have r:vs.length*1<=vs.length*Tryz.prog.bytesOf 41:=Nat.mul_le_mul_left _ a;omega
def UX{n:Nat}{cs:List Value}{x:DataW H×List MemPlace}(h:DataW.trod enc Tryz.prog W base sp held n 28 cs=some x)(d:∀k∈x.1.weights Tryz.prog 28,k<=reachBytes):
  ∃m hv,cs=[str m.from_,str m.to_,i64 m.size,hv]/\Ksl hdEl (hp W) hv m.hs/\MsgSz m:=by
 obtain⟨m,v,b⟩:=s5 Tryz.underlying28 h;have w:Tryz.prog.cellsOf 28=4:=cV
 have N:Tryz.prog.cellsOf 9=1:=cV
 have Q:Tryz.prog.cellsOf 3=1:=cV
 have g:Tryz.prog.cellsOf 26=1:=cV
 have A:Tryz.prog.bytesOf 25=32:=cV
 have B:reachBytes=140737488351232:=rfl;rw[w]at v
 match cs,v,b with
 | [c0,c1,c2,c],_,b=>
  obtain ⟨y0, P, E⟩ := b 0 _ rfl;obtain ⟨y1, e, K⟩ := b 1 _ rfl;obtain ⟨y2, f, w2⟩ := b 2 _ rfl;obtain ⟨y3, l, I⟩ := b 3 _ rfl;dsimp only at P e f l E K w2 I;rw [N] at P e;rw [Q] at f;rw [g] at l;obtain ⟨F, q, k0⟩ := Bk P;obtain ⟨C, r, p⟩ := Bk e;obtain ⟨i, O, _⟩ := qE Tryz.underlying3 f;have u : DataW.trod enc Tryz.prog W base sp held m 26 [c] = some y3 := l;obtain ⟨L, ks, t, S⟩ := GN (k := hdEl) (G := fun a => a.1.length <= reachBytes /\ a.2.length <= reachBytes) Tryz.underlying26 cV dD (fun n cs y hy hw => by
   obtain⟨a,s,p,k2⟩:=YK (M:=y3.1.weights Tryz.prog 26) hy hw;exact⟨a,s,d _ (I _ p),d _ (I _ k2)⟩) u
  simp at q r O;subst q r O;have q0:=d _ (E _ k0);have q1:=d _ (K _ p);refine⟨⟨F,C,i,L⟩,c,Y,ks,?_⟩
  rw[B]at q0 q1 t;refine⟨by show F.length<=_;omega,by show C.length<=_;omega,?_,fun a s=>?_⟩
  ·show L.length<=_
   rcases S with rfl|⟨k,hk,j⟩
   ·simp
   have:=d _ (I _ hk);rw[B]at this;have z:hdEl.e=25:=rfl;rw[z,A]at j;omega
  have:=t a s;exact⟨aH,aH⟩
def YL{n:Nat}{cs:List Value}{x:DataW H×List MemPlace}(h:DataW.trod enc Tryz.prog W base sp held n 101 cs=some x)(e:∀k∈x.1.weights Tryz.prog 101,k<=reachBytes):∃s:OpV,cs=opEl.enc s/\OpIs (hp W) s/\OpFit 140737488355328 s:=by
 obtain⟨m,v,a⟩:=s5 Tryz.underlying101 h;have N:Tryz.prog.cellsOf 101=9:=cV
 have B:Tryz.prog.cellsOf 9=1:=cV
 have Q:Tryz.prog.cellsOf 3=1:=cV
 have w:Tryz.prog.cellsOf 28=4:=cV
 have f:Tryz.prog.cellsOf 42=1:=cV
 have hr:reachBytes=140737488351232:=rfl;rw[N]at v
 match cs,v,a with
 | [v0,v1,v2,v3,v4,v5,v6,y,q],_,a=>
  obtain⟨y0,P,w0⟩:=a 0 _ rfl;obtain⟨y1,c,w1⟩:=a 1 _ rfl;obtain⟨y2,d,w2⟩:=a 2 _ rfl;obtain⟨y3,l,I⟩:=a 3 _ rfl;obtain⟨y4,z,i⟩:=a 4 _ rfl;obtain⟨y5,F,u⟩:=a 5 _ rfl;dsimp only at P c d l z F I i u;rw[Q]at P c d;rw[B]at l;rw[w]at z;rw[f]at F;obtain⟨i0,p,_⟩:=qE Tryz.underlying3 P;obtain⟨i1,M,E⟩:=qE Tryz.underlying3 c;obtain⟨i2,O,L⟩:=qE Tryz.underlying3 d;obtain⟨g,C,k3⟩:=Bk l;have r:DataW.trod enc Tryz.prog W base sp held m 28 [v4,v5,v6,y]=some y4:=z;have K:DataW.trod enc Tryz.prog W base sp held m 42 [q]=some y5:=F;obtain⟨b,hv,G,A,z1,z2,z3,z4⟩:=UX r fun k j=>e _ (i _ j)
  obtain⟨vs,os,t,rc,S,lc,zc⟩:=UW K fun k j=>e _ (u _ j)
  simp at p M O C G;obtain⟨rfl,rfl,rfl,rfl⟩:=G;subst p M O C;have q3:=e _ (I _ k3);exact⟨⟨i0,i1,i2,g,b.from_,b.to_,b.size,⟨y,C1 A⟩,⟨q,C1 t⟩,b.hs,vs,os⟩,Y,⟨A,t,rc,S,Nd E,Nd L⟩,⟨by show g.length<=_;omega,z1,z2,z3,z4,lc,zc⟩⟩
def in_ops{v:Value}{d:DataW H}{p:List MemPlace}(hv:Value.okWide Tryz.prog W .any base 53 v)(h:DataW.Trod enc Tryz.prog W 0 sp held 53 v d p)(r:∀k∈d.weights Tryz.prog 53,k<=reachBytes):
  ∃vs:List OpV,Ksl opEl (hp W) v vs/\(∀s∈vs,OpIs (hp W) s)/\(∀s∈vs,OpFit 140737488355328 s)/\vs.length<=140737488355328:=by
 obtain⟨a,q,f,rfl⟩:=okWide_slice Tryz.underlying53 hv;obtain⟨n,w⟩:=h;have c:DataW.trod enc Tryz.prog W 0 sp held n 53 [.slice a q f]=some (d,p):=w;have b:1<=Tryz.prog.bytesOf 101:=xAX cV;obtain⟨vs,t,l,u⟩:=GN (k:=opEl) (G:=fun s=>OpIs (hp W) s/\OpFit 140737488355328 s) Tryz.underlying53 cV dD (fun n cs y z x=>YL z fun k j=>r _ (x _ j)) c;refine⟨vs,t,fun s i=>(l s i).1,fun s i=>(l s i).2,?_⟩
 have B:reachBytes=140737488351232:=rfl;rcases u with rfl|⟨k,j,e⟩
 ·simp
 have:=r k j;have g:opEl.e=101:=rfl;rw[g]at e;have A:vs.length*1<=vs.length*Tryz.prog.bytesOf 101:=Nat.mul_le_mul_left _ b;omega
end
end TzRow
end Go.Proofs
end
section
namespace Go.Proofs
open Go Go.SL Go.Syn Go.Mach Tryz
section
set_option maxRecDepth 100000 in
def Er:iK x3 53 101 9=true:=cV
open Go.Cmp (cS RIs InsV RIns fL nZ lP insA codeP_len)
def nth{α:Type}{l:List α}{x:α}(h:x∈l):∃j,l[j]?=some x/\j<l.length:=by
 obtain⟨j,E⟩:=xA4 h;exact⟨j,E,(xAI.1 E).1⟩
def LY(f t:aP)(I:Int)(hv:Value)(c:List (aP×aP))(K:Hl)(y:Ksl hdEl K hv c)(z1:f.length<=140737488355328)(z2:t.length<=140737488355328)(z3:c.length<=140737488355328)(O:∀h∈c,h.1.length<=140737488355328/\h.2.length<=140737488355328):Sp x3 64 [.agg #[str f,str t,i64 I,hv]] K [] (Ret fun v A L'=>∃n:Nat,v=i64 n/\n<=1000000000000000/\(n<=65536->f.length<=n/\t.length<=n/\c.length<=n/\∀q∈c,q.1.length<=n/\q.2.length<=n)/\A=K/\L'=[]):=by
 obtain⟨e,M,g,rfl⟩:=y.isSlice
 generalize r:Value.slice e M g=hv at*
 have C:hv.oneCell'=true:=by rw[<-r];rfl
 refine bL func64 Y ntmps64 Y Y fun F w=>Z3 ?_;refine aCJ fun s=>ZB ?_;refine aA (kD (v:=i64 ((f.length+t.length:Nat):Int)) (bR Y Y aH aH) (xAF (Value.int .i64) aH)) Y (ZA ?_);refine jC (fun(i n:Nat)=>i<=c.length/\i<=n/\n<=1000000000000000/\f.length<=n/\t.length<=n/\∀(j:Nat) q,j<i->c[j]?=some q->q.1.length<=n/\q.2.length<=n) (fun i n=>[(1,ptr s),(3,i64 n),(4,i64 i)]) (fun _ _=>K) (fun _ _=>[pt s (bK [str f,str t,i64 I,hv] 28)]) (fun i _=>c.length-i) 0 (f.length+t.length) ⟨xAA _,xAA _,aH,aH,aH,fun j q h _=>by omega⟩ bM Y a7 ?_;intro i n ⟨Q,M,P,H,u,p⟩;refine Z6 ?_;refine aA (bU (k:=hdEl) Y xB3 Y (.known y)) Y (Z2 ?_);refine bV 17 Y (fun N=>?_) (fun N=>ZI ?_)
 ·have G:i<c.length:=aH;obtain⟨x,a⟩:∃x,c[i]?=some x:=⟨c[i]'G,x4 G⟩;obtain⟨z1,z2⟩:=O x (x8 a);refine Z7 ?_;refine aX 20 Y (fun d=>Z4 ?_) (fun d=>ZC ?_)
  ·refine cN [] [] mixed gAD (cM _) (Z5 ?_);refine aJ Y Y (.none Y) Y Y (aW (k:=hdEl) (j:=i) rH Y (.known y) Y Y aH) Y (aJ Y Y (.none Y) Y Y (dN (k:=hdEl) (j:=i) Em Y (.known y) aH) Y (aJ Y Y (.none Y) Y Y (eW (k:=hdEl) ts9 Y (.known y) a Y) Y (Z5 ?_)));refine aJ Y Y (.none Y) Y Y (aW (k:=hdEl) (j:=i) rH Y (.known y) Y Y aH) Y (aJ Y Y (.none Y) Y Y (dN (k:=hdEl) (j:=i) En Y (.known y) aH) Y (aJ Y Y (.none Y) Y Y (eW (k:=hdEl) ts9 Y (.known y) a Y) Y (Z1 ?_)));refine aJ Y Y (.none Y) Y Y (kD (v:=i64 ((n+1+x.1.length+x.2.length:Nat):Int)) (bR Y Y aH aH) (xAF (Value.int .i64) aH)) Y (Z9 ?_);exact d9 (i+1) (n+1+x.1.length+x.2.length) ⟨aH,aH,aH,aH,aH,fun j q E b=>by rcases xAD j i with z|z;(have:=p j q z b;omega);(obtain rfl:j=i:=by omega);rw[a]at b;cases b;omega⟩ aH bM Y a7
  exact gEX
 exact gEX
def Cp(f:Value)(l:List aP)(K:Hl)(a:Ksl (aZ 9) K f l)(z3:l.length<=140737488355328)(z:∀x∈l,x.length<=140737488355328):Sp x3 65 [f] K [] (Ret fun v r L'=>∃n:Nat,v=i64 n/\n<=1000000000000000/\(n<=65536->l.length<=n/\∀q∈l,q.length<=n)/\r=K/\L'=[]):=by
 refine bL func65 Y ntmps65 Y Y fun F w=>Z8 ?_;refine aA (bU (k:=aZ 9) Y xAC Y (.known a)) Y (ZA ?_);refine jC (fun(i n:Nat)=>i<=l.length/\l.length<=n/\n<=1000000000000000/\∀(j:Nat) q,j<i->l[j]?=some q->q.length<=n) (fun i n=>[(0,f),(3,i64 n),(4,i64 i)]) (fun _ _=>K) (fun _ _=>[]) (fun i _=>l.length-i) 0 l.length ⟨xAA _,xAG _,aH,fun j q h _=>by omega⟩ bM Y a7 ?_;intro i n ⟨u,M,P,g⟩;refine Z5 ?_;refine aA (bU (k:=aZ 9) Y xAC Y (.known a)) Y (Z2 ?_);refine bV 11 Y (fun t=>?_) (fun t=>ZI ?_)
 ·have G:i<l.length:=aH;obtain⟨x,e⟩:∃x,l[i]?=some x:=⟨l[i]'G,x4 G⟩;have z1:=z x (x8 e);refine Z7 ?_;refine aX 14 Y (fun c=>Z8 ?_) (fun c=>ZC ?_)
  ·refine aA (aW (k:=aZ 9) (j:=i) b0 Y (.known a) Y Y aH) Y (aA (cE (o:=0) (k:=aZ 9) ts9 Y (.known a) e Y) Y (Z1 ?_));refine aA (kD (v:=i64 ((n+x.length:Nat):Int)) (bR Y Y aH aH) (xAF (Value.int .i64) aH)) Y (Z9 ?_);exact d9 (i+1) (n+x.length) ⟨aH,aH,aH,fun j q E b=>by rcases xAD j i with p|p;(have:=g j q p b;omega);(obtain rfl:j=i:=by omega);rw[e]at b;cases b;omega⟩ aH bM Y a7
  exact gE1
 exact gE1
def JG(sv:Value)(xs:List OpV)(K:Hl)(hv:Ksl opEl K sv xs)(ji:∀x∈xs,OpIs K x)(hz:∀x∈xs,OpFit 140737488355328 x)(hl:xs.length<=140737488355328):Sp x3 42 [sv] K [] (Ret fun v K' L'=>∃b:Bool,v=.bool b/\(b=true->xs.length<=65536/\∀x∈xs,OpFit 65536 x)/\K'=K/\L'=[]):=by
 refine bL func42 Y ntmps42 Y Y fun F w=>Z8 ?_;refine aA (bU (k:=opEl) Y xCB Y (.known hv)) Y (ZA ?_);refine jC (fun(i n:Nat)=>i<=xs.length/\xs.length<=n/\n<=4000000000000000/\(n<=65536->∀(j:Nat) q,j<i->xs[j]?=some q->OpFit n q)) (fun i n=>[(0,sv),(3,i64 n),(4,i64 i)]) (fun _ _=>K) (fun _ _=>[]) (fun i _=>xs.length-i) 0 xs.length ⟨xAA _,xAG _,aH,fun _ j q h _=>by omega⟩ bM Y a7 ?_;intro i n ⟨hi,ju,jv,hq⟩;refine Z5 ?_;refine aA (bU (k:=opEl) Y xCB Y (.known hv)) Y (Z2 ?_);refine bV 16 Y (fun jc=>?_) (fun jc=>ZJ ?_)
 ·have P:i<xs.length:=aH;obtain⟨x,hx⟩:∃x,xs[i]?=some x:=⟨xs[i]'P,x4 P⟩;have ja:=x8 hx;have hI:=ji x ja;have jg:=hI.hs;have e:=hI.vs;have O:=hI.os;have jr:=O.length;obtain⟨z1,z2,z3,z4,z5,z6,z7⟩:=hz x ja;obtain⟨kd,oa,ob,I,p,A,S,⟨L,jl⟩,⟨jb,jk⟩,G,M,l⟩:=x;dsimp only at*;refine Z7 ?_;refine aX 19 Y (fun je=>Z8 ?_) (fun je=>ZD ?_)
  ·refine aA (aW (k:=opEl) (j:=i) Er Y (.known hv) Y Y aH) Y (aA (fH (n:=0) (k:=opEl) ta101_9 Y (.known hv) hx) Y (Z1 ?_));refine aCJ fun b5=>cA (cQ ta101_9 Y Y Y bP gAF (.cons (.cons (.cons (.cons (.cons (.cons (.cons (.cons (.cons .nil))))))))) gBA) ?_;refine aCK (Z3 ?_);refine kQ (L':=[pt b5 (bK [i64 kd,i64 oa,i64 ob,str I,str p,str A,i64 S,L,jb] 101)]) a7 (Z3 ?_);refine bA Y Y (LY p A S L G _ jg z2 z3 z4 z5) .nil Y ?_;rintro _ K _ ⟨r,rfl,jw,t,rfl,rfl⟩ -;refine ZC ?_;refine aA (bU (k:=cS) Y xAN Y (.known e)) Y (Z2 ?_);refine aA (kD (v:=i64 ((n+I.length+l.length+r:Nat):Int)) (bR Y Y aH aH) (xAF (Value.int .i64) aH)) Y (Z9 ?_);refine jC (fun(k a:Nat)=>k<=l.length/\n+I.length+l.length+r<=a/\a<=4000000000000000/\(a<=65536->∀(j:Nat) o,j<k->l[j]?=some o->(o.a.length<=a/\∀y∈o.a,y.length<=a)/\o.b.length<=a/\∀y∈o.b,y.length<=a)) (fun k a=>[(0,sv),(3,i64 a),(4,i64 i),(5,ptr b5),(7,i64 k)]) (fun _ _=>K) (fun _ _=>[pt b5 (bK [i64 kd,i64 oa,i64 ob,str I,str p,str A,i64 S,L,jb] 101)]) (fun k _=>l.length-k) 0 (n+I.length+l.length+r) ⟨xAA _,xAG _,aH,fun _ j q h _=>by omega⟩ bM Y a7 ?_;intro k a ⟨hk,js,jt,H⟩;refine Z6 ?_;refine aA (bU (k:=cS) Y xAN Y (.known e)) Y (Z2 ?_);refine bV 45 Y (fun jd=>?_) (fun jd=>?_)
   ·obtain⟨u,hu⟩:∃u,M[k]?=some u:=⟨M[k]'(by omega),x4 aH⟩;have z:k<M.length:=aH;obtain⟨o,ho,jj⟩:=O.get hu;obtain⟨⟨y1,y2⟩,y3,y4⟩:=z7 o (x8 ho);obtain⟨qa,vn,jq,jp,⟨va,jx⟩,⟨vb,jy⟩,jz⟩:=u;obtain⟨rfl,rfl,rfl,rfl,rfl,Q,W⟩:=jj;dsimp only at Q W;refine Z7 ?_;refine aX 48 Y (fun jf=>Z9 ?_) (fun jf=>ZB ?_)
    ·refine aA (aW (k:=cS) (j:=k) eP Y (.known e) Y Y z) Y (aA (dN (k:=cS) (j:=k) fA Y (.known e) z) Y (aA (eW (k:=cS) eL Y (.known e) hu Y) Y (bA Y Y (Cp _ o.a _ Q y1 y2) .nil Y ?_)));rintro _ K _ ⟨r1,rfl,hA1,hA2,rfl,rfl⟩ -;refine Z8 ?_;refine aA (aW (k:=cS) (j:=k) eP Y (.known e) Y Y z) Y (aA (dN (k:=cS) (j:=k) jE Y (.known e) z) Y (aA (eW (k:=cS) eL Y (.known e) hu Y) Y (bA Y Y (Cp _ o.b _ W y3 y4) .nil Y ?_)));rintro _ K _ ⟨r2,rfl,hB1,hB2,rfl,rfl⟩ -;refine Z8 ?_;refine aA (kD (v:=i64 ((a+r1+r2:Nat):Int)) (bR Y Y aH aH) (xAF (Value.int .i64) aH)) Y (Z9 ?_);exact d9 (k+1) (a+r1+r2) ⟨aH,aH,aH,fun hr j q E d=>by rcases xAD j k with s|s;(have g:=H aH j q s d;exact⟨⟨aH,fun y C=>by have:=g.1.2 y C;omega⟩,aH,fun y C=>by have:=g.2.2 y C;omega⟩);(obtain rfl:j=k:=by omega);rw[ho]at d;cases d;obtain⟨g1,g2⟩:=hA2 aH;obtain⟨g3,N⟩:=hB2 aH;exact⟨⟨aH,fun y C=>by have:=g2 y C;omega⟩,aH,fun y C=>by have:=N y C;omega⟩⟩ aH bM Y a7
    exact gDJ
   refine ZH ?_;exact gDJ
  refine uAd ?_;refine Z1 ?_;exact⟨_,Y,_,Y,fun hb=>by have jh:=xAX hb;exact⟨aH,fun q B=>by obtain⟨j,E,f⟩:=nth B;exact(hq aH j q aH E).mono aH⟩,Y,Y⟩
 refine uAd ?_;refine Z1 ?_;exact⟨_,Y,_,Y,fun hb=>by have jh:=xAX hb;exact⟨aH,fun q B=>by obtain⟨j,E,f⟩:=nth B;exact(hq aH j q aH E).mono aH⟩,Y,Y⟩
end
end Go.Proofs
end
section
namespace Go.Proofs
open Go Go.SL Go.Syn Go.Mach Tryz
open Go.Cmp (cS RIs InsV RIns fL nZ lP insA codeP_len)
def LJ(N n:Nat)(W:WS)(kd a b:Int)(s f t:aP)(I:Int)(i r:Value)(B:List (aP×aP))(vs:List InsV)(os:List Ins)(qa:True)(hw:WFit n W)(hn:n<=1000000)(jc: -9223372036854775808<=a/\a<=9223372036854775807)(jv: -9223372036854775808<=b/\b<=9223372036854775807)(K:Hl)(hg:Glob K)(hE:ErrT K)(jx:∀x∈W.xl,XOk K x)(E:Ksl hdEl K i B)(C:MsgOk ⟨f,t,I,B⟩)(P:Ksl cS K r vs/\RIs K vs os/\CodeFit os/\(∀v∈vs,v.op=9->lT v.a.1)/\(∀o∈os,InsOk o)/\os.length<=100000):Sp x3 43 [ptr N,.agg #[i64 kd,i64 a,i64 b,str s,str f,str t,i64 I,i,r]] K [wP N W] (Ret fun v K' L'=>v=.bool true/\∃W',(∀x∈W'.xl,XOk K' x)/\WFit (n+1) W'/\L'=[wP N W']):=by
 have jp:i.oneCell'=true:=by obtain⟨x,y,z,rfl⟩:=E.isSlice;rfl
 have jq:r.oneCell'=true:=by obtain⟨x,y,z,rfl⟩:=P.1.isSlice;rfl
 refine bL func43 Y ntmps43 Y Y fun F w=>Z3 ?_;refine aCJ fun b3=>Z7 ?_;refine bA Y Y (KQ N n W kd a b s f t I i r hw aH jc jv jp jq _) bQ Y ?_;rintro _ K _ ⟨rfl,rfl,g,jw,e,rfl⟩ -;have h:∀x∈g.xl,XOk K x:=jw▸jx;refine ZG ?_;refine aX 28 Y (fun A=>?_) (fun A=>?_)
 ·have A:kd=1:=A;refine Z5 ?_;refine bA Y Y (ID N g s _ hg hE (by have:=e.nx;omega)) bQ Y ?_;rintro _ L _ ⟨rfl,W2,hW2,rfl⟩ d;refine Z6 ?_;refine uAa ?_;refine bG Y Y d ?_;exact⟨_,Y,Y,W2,(by rcases hW2 with rfl|⟨q,G,rfl⟩;exact fun x l=>(h x l).mono d;exact fun x l=>by rcases xA5.1 l with l|l;exact(h x l).mono d;(have l:=List.mem_singleton.1 l;subst l;exact G)),(by rcases hW2 with rfl|⟨q,G,rfl⟩;exact e.up;exact e.addX),Y⟩
 have A:¬kd=1:=A;refine Z6 ?_;refine aX 34 Y (fun jh=>?_) (fun jh=>Z5 ?_)
 ·have S:=P.2.2.2.2.1;refine Z4 ?_;refine bA Y Y (BN r vs os _ P.1 P.2.1 P.2.2.1) .nil Y ?_;rintro je K _ ⟨rfl,ws,rfl⟩ -;refine ZB ?_;refine bA Y Y (OQ (decide (¬a=0)) je i ws os ⟨f,t,I,B⟩ _ hg hE E C S (by have:=P.2.2.1.1;omega)) bQ Y ?_;rintro _ L _ ⟨jf,rfl,rfl⟩ d;have jk:=P.2.2.2.1;refine ZK ?_;refine bA Y Y (DV (decide (¬a=0)) r i vs os ⟨f,t,I,B⟩ _ (P.1.mono d) (P.2.1.mono d) jk (E.mono d) C S P.2.2.2.2.2) .nil Y ?_;rintro _ L _ ⟨jg,⟨ax,nx,cx,rfl⟩,rfl,qd,rfl,rfl⟩ -;refine Z4 ?_;refine aCJ fun jy=>cA (cQ ta146_3 Y Y Y bP gAF (.cons (.cons (.cons .nil))) gAQ) ?_;refine aCK (Z8 ?_);refine bA Y Y (LX false je r ws vs os _ (P.1.mono d) (P.2.1.mono d) P.2.2.1) bQ Y ?_;rintro _ L _ ⟨rfl,rfl,rfl⟩ -;refine ZA ?_;have jj:(Mach.run (decide (¬a=0)) os ⟨f,t,I,B⟩).acts.length<=7:=DR C S;refine bA Y Y (Gk N g _ _ (Mach.run (decide (¬a=0)) os ⟨f,t,I,B⟩).acts _ _ _ _ aH (by have:=e.na;omega) (WN _) (WM _) Y _) bQ Y ?_;rintro _ L _ ⟨rfl,rfl,p,O,rfl⟩ -;refine ZG ?_;refine aA (vI (bS Y Y) Y) Y (Z7 ?_);refine uAa ?_;refine bG Y Y d ?_;exact⟨_,Y,Y,{g with al:=g.al++[p]},fun x l=>(h x l).mono d,e.addA (by rw[O];omega),Y⟩
 refine PF fun xv mv qe cv=>?_;have qc:(g.xl.map fun x=>pcl x.b).length=g.xl.length:=xAW _;have qb:(g.xl.map fun x=>pcl x.rb).length=g.xl.length:=xAW _;refine Z5 ?_;refine aA (bU (k:=(cC 43)) Y xCW Y aL) Y (Z3 ?_);refine aX 86 Y (fun ji=>Z7 ?_) (fun ji=>?_)
 ·refine d8 (u1 (W:=g)) (uAa ?_);refine Z1 ?_;exact⟨_,Y,Y,_,h,e.up,Y⟩
 have jb:0<(g.xl.map fun x=>pcl x.b).length:=aH;have jr:(g.xl.map fun x=>pcl x.b).length<=1000000000:=by have:=e.nx;omega
 have ja:=fun K=>tK a (g.xl.map fun x=>pcl x.b).length jc ⟨jb,jr⟩ K
 refine Z3 ?_;refine cN [7] [7] mixed gAD (cM _) (Z6 ?_);refine aJ Y Y (.none Y) Y Y (bU (k:=(cC 43)) Y xCW Y aL) Y ?_;refine eR Y (.none Y) Y Y Y (ja _) .nil Y ?_;rintro _ K _ ⟨k,hk,rfl,rfl,rfl⟩ -;refine Z4 ?_;obtain⟨q,G⟩:∃q,g.xl[k]?=some q:=⟨g.xl[k]'(by omega),x4 aH⟩;have jt:(g.xl.map fun x=>pcl x.b)[k]?=some (pcl q.b):=by rw[xAT,G];rfl
 have ju:(g.xl.map fun x=>pcl x.rb)[k]?=some (pcl q.rb):=by rw[xAT,G];rfl
 have jl:k<(g.xl.map fun x=>pcl x.rb).length:=aH;have u:=h q (x8 G);refine Z6 ?_;refine aA (aW (k:=cC 43) (j:=k) Gj Y aL Y Y hk) Y ?_;refine aA (cE (o:=0) (k:=cC 43) ts43 Y aL jt Y) Y (ZA ?_);refine aA (aW (k:=cC 151) (j:=k) Es Y aL Y Y jl) Y ?_;refine aA (cE (o:=0) (k:=cC 151) ts151 Y aL ju Y) Y (Z5 ?_);refine kQ (u1 (W:=g)) ?_;clear ja;refine ZC ?_;refine aX 111 Y (fun H=>Z3 ?_) (fun H=>Z6 ?_)
 ·refine bA Y Y (T8 q.b q.r _ hg (J4 u.ok u.fit) u.at_) .nil Y ?_;rintro _ L _ ⟨rfl,rfl⟩ d;refine Z6 ?_;refine cH Y Y (SS q.rb q.r _ (J4 u.ok u.fit) (Sn u.ok) (u.ref.mono d)) Y (ZE ?_);refine uAa ?_;refine bG Y Y d ?_;exact⟨_,Y,by rw[xAO rfl],_,fun x l=>(h x l).mono d,e.up,rfl⟩
 refine aX 120 Y (fun M=>Z5 ?_) (fun M=>Z6 ?_)
 ·refine bA Y Y (OT q.b q.r q.s ⟨f,t,I,B⟩ i _ hg hE u.ok u.fit u.at_ E C) .nil Y ?_;rintro _ L _ ⟨jf,rfl,rfl⟩ d;refine ZE ?_;refine bA Y Y (zM q ⟨f,t,I,B⟩ i _ (u.mono d) (E.mono d) C) .nil Y ?_;rintro _ K2 _ ⟨jg,⟨ax,nx,cx,rfl⟩,rfl,rfl⟩ jd;refine Z1 ?_;refine aCJ fun jz=>cA (cQ ta146_3 Y Y Y bP gAF (.cons (.cons (.cons .nil))) gAQ) ?_;refine aCK (Z9 ?_);have jj:(sayC q.r ⟨f,t,I,B⟩).acts.length<=7:=DR C (Dt u.ok u.fit).1;refine bA Y Y (Gk N g _ _ (sayC q.r ⟨f,t,I,B⟩).acts _ _ _ _ aH (by have:=e.na;omega) (WN _) (WM _) Y _) bQ Y ?_;rintro _ K2 _ ⟨rfl,rfl,p,O,rfl⟩ -;refine Z6 ?_;refine uAa ?_;refine bG Y Y (x5 d jd) ?_;exact⟨_,Y,Y,{g with al:=g.al++[p]},fun x l=>(h x l).mono (x5 d jd),e.addA (by rw[O];omega),Y⟩
 refine aX 140 Y (fun Q=>Z7 ?_) (fun Q=>Z9 ?_)
 ·refine bA Y Y (Ke N g q ⟨f,t,I,B⟩ i _ u E C (by have:=e.nc;omega)) bQ Y ?_;rintro _ L _ ⟨rfl,p,js,rfl⟩ d;refine Z6 ?_;refine uAa ?_;refine bG Y Y d ?_;exact⟨_,Y,Y,{g with cl:=g.cl++[p]},fun x l=>(h x l).mono d,e.addC (by rw[js];exact QI u),Y⟩
 refine uAa ?_;refine Z1 ?_;exact⟨_,Y,Y,_,h,e.up,Y⟩
end Go.Proofs
end
section
namespace Go.Proofs
open Go Go.SL Go.Syn Go.Mach Tryz
open Go.Cmp (cS RIs InsV RIns fL nZ lP insA codeP_len j9)
def Uh{b:Nat}{L:List Asn}:∀h,Sat (pt b (bK [.slice none 0 0,.slice none 0 0,.slice none 0 0,.slice none 0 0] 99)::L) h->Sat (wP b ⟨[],[],[]⟩::L) h:=by
 intro h y;refine u1 (W:=⟨[],[],[]⟩) (xv:=.slice none 0 0) (mv:=.slice none 0 0) (av:=.slice none 0 0) (cv:=.slice none 0 0) h ?_;refine fB (fun h y=>?_) y
 have e:∀ {L:List Asn} {h:Hl},Sat L h->Sat (l8 []::L) h:=fun {L h} c=>⟨.emp,h,rfl,c,(Hl.dj_emp h).symm,(Hl.emp_join h).symm⟩
 exact iQ (iQ (iQ (e (iQ (e y)))))
def IH(sv l:Value)(xs:List OpV)(ks:List Nat)(jt:∀a:Int,(a=1\/a=6\/a=7\/∃q∈ks,a=((q:Nat):Int))->True)(z:ks.length<=100)(K:Hl)(hg:Glob K)(hE:ErrT K)(hv:Ksl opEl K sv xs)(Q:∀x∈xs,OpIs K x)(hz:∀x∈xs,OpFit 140737488355328 x)(hl:xs.length<=140737488355328):Sp x3 25 [sv,l] K [sl false (j9 3) l ks] (Ret fun v K' L'=>v=.bool true/\L'=[]):=by
 refine bL func25 Y ntmps25 Y Y fun F w=>Z8 ?_;refine bA Y Y (JG sv xs _ hv Q hz hl) .nil Y ?_;rintro _ K _ ⟨b,rfl,hb,rfl,rfl⟩ -;refine Z7 ?_;refine aA gAB Y (Z2 ?_);refine dZ 14 Y (fun M=>?_) (fun M=>?_)
 ·refine Z7 ?_;refine uAd ?_;refine Z1 ?_;exact gEO
 obtain⟨qc,ju⟩:=hb (by simpa using M);refine Z4 ?_;refine aA (dA tb99 tb99f .nil) Y (Z1 ?_);rintro _ K _ ⟨d,rfl,rfl,rfl⟩ -;refine Z5 ?_;refine kQ Uh (Z5 ?_);refine l5 (fun(i:Nat) (s:Hl) (W:WS)=>K.le s/\i<=xs.length/\WFit i W/\∀x∈W.xl,XOk s x) (fun i _ _=>[(0,sv),(1,l),(6,ptr d),(7,i64 i)]) (fun _ s _=>s) (fun _ _ W=>[wP d W,sl false (j9 3) l ks]) (fun i _ _=>xs.length-i) 0 K ⟨[],[],[]⟩ ⟨xAB _,xAA _,⟨xAA _,xAA _,xAA _,fun p h=>(by cases h),fun p h=>(by cases h)⟩,fun x h=>(by cases h)⟩ bM Y a7 ?_;intro i s W ⟨f,qa,ja,jc⟩;have u:=hv.mono f;refine Z5 ?_;refine aA (bU (k:=opEl) Y xCB Y (.known u)) Y (Z3 ?_);refine aX 20 Y (fun jh=>?_) (fun jh=>ZB ?_)
 ·have G:i<xs.length:=aH;obtain⟨x,hx⟩:∃x,xs[i]?=some x:=⟨xs[i]'G,x4 G⟩;have jb:=x8 hx;have H:=(Q x jb).mono f;have hF:=ju x jb;obtain⟨a,oa,ob,os,r,A,S,⟨L,jy⟩,⟨g,jx⟩,je,E,B⟩:=x;have jk:Ksl hdEl s L je:=H.hs;have jq:Ksl cS s g E:=H.vs;have jp:RIs s E B:=H.os;have jr:=hF.msg;have jj:=hF.code;have jl:=hF.ins;have jz:B.length<=65536:=hF.on;refine Z8 ?_;refine aA (aW (k:=opEl) (j:=i) Er Y (.known u) Y Y G) Y (aA (fH (n:=0) (k:=opEl) ta101_9 Y (.known u) hx) Y (Z1 ?_));rintro _ K _ ⟨I,rfl,rfl,rfl⟩ -;refine cA (cQ ta101_9 Y Y Y bP gAF (.cons (.cons (.cons (.cons (.cons (.cons (.cons (.cons (.cons .nil))))))))) gAQ) ?_;rintro _ K _ ⟨rfl,rfl⟩ -;refine Z2 ?_;refine dU (fun(e:Bool)=>e=true->(a=1\/a=6\/a=7\/∃q∈ks,a=((q:Nat):Int))) (fun e=>[(0,sv),(1,l),(6,ptr d),(7,i64 i),(8,ptr I),(9,.bool e)]) (fun _=>K) (fun _=>[pt I (bK [i64 a,i64 oa,i64 ob,str os,str r,str A,i64 S,L,g] 101),wP d W,sl false (j9 3) l ks]) ?_ ?_
  ·refine kQ (L':=[pt I (bK [i64 a,i64 oa,i64 ob,str os,str r,str A,i64 S,L,g] 101),wP d W,sl false (j9 3) l ks]) a7 (Z5 ?_);refine bV 30 Y (fun jf=>ZB ?_) (fun jf=>Z8 ?_)
   ·exact cB true (fun _=>by omega) bM Y a7
   refine bV 35 Y (fun jg=>Z6 ?_) (fun jg=>Z9 ?_)
   ·exact cB true (fun _=>by omega) bM Y a7
   exact cB (decide (a=7)) (fun h=>.inr (.inr (.inl (xAX h)))) bM Y a7
  intro jv P;refine Z7 ?_;refine jC (fun(k:Nat) (e:Bool)=>k<=ks.length/\(e=true->(a=1\/a=6\/a=7\/∃q∈ks,a=((q:Nat):Int)))) (fun k e=>[(0,sv),(1,l),(6,ptr d),(7,i64 i),(8,ptr I),(9,.bool e),(10,i64 k)]) (fun _ _=>K) (fun _ _=>[pt I (bK [i64 a,i64 oa,i64 ob,str os,str r,str A,i64 S,L,g] 101),wP d W,sl false (j9 3) l ks]) (fun k _=>ks.length-k) 0 jv ⟨xAA _,P⟩ bM Y a7 ?_;intro k e ⟨qb,O⟩;refine Z5 ?_;refine aA (bU (k:=j9 3) Y xB2 Y aL) Y (Z3 ?_);refine aX 43 Y (fun ji=>?_) (fun ji=>Z9 ?_)
  ·have z:k<ks.length:=aH;obtain⟨y,hy⟩:∃y,ks[k]?=some y:=⟨ks[k]'z,x4 z⟩;refine Z4 ?_;refine cN [] [] mixed gAD (cM _) (Z2 ?_);refine vF 47 Y (fun t=>?_) (fun t=>?_)
   ·subst t;refine ZH ?_;exact d9 (k+1) true ⟨aH,O⟩ aH bM Y a7
   subst t;refine Z4 ?_;refine aJ Y Y (.on Y Y Y) Y Y (aW (k:=j9 3) (j:=k) qD Y aL Y Y z) Y ?_;refine aJ Y Y (.on Y Y Y) Y Y (cE (o:=0) (k:=j9 3) ts3 Y aL hy Y) Y (ZB ?_);exact d9 (k+1) (decide (a=((y:Nat):Int))) ⟨aH,fun h=>.inr (.inr (.inr ⟨y,x8 hy,xAX h⟩))⟩ aH bM Y a7
  refine aA gAB Y (Z2 ?_);refine dZ 57 Y (fun N=>?_) (fun N=>?_)
  ·refine Z9 ?_
   (refine aV (aQ dQ (aQ dQ bT)) ?_;exact gJ (i+1) _ W ⟨f,aH,ja.up,jc⟩ aH bM Y a7)
  have js:=jt a (O (by simpa using N));refine Z6 ?_;refine bA Y Y (LJ d i W a oa ob os r A S L g je E B js ja aH H.a H.b _ (hg.mono f) (hE.mono f) jc jk jr ⟨jq,jp,jj,fun v hm _=>H.fit v hm,jl,aH⟩) bQ Y ?_;rintro _ K4 _ ⟨rfl,W2,jd,C,rfl⟩ jw;refine ZG ?_;refine bA Y Y (KP d W2 _ C.al C.cl (by have:=C.na;omega) (by have:=C.nc;omega)) bQ Y ?_;rintro _ K4 _ ⟨rfl,rfl,rfl⟩ -;refine ZI ?_
  (refine aV (aQ cL (aQ dQ bT)) ?_;exact gJ (i+1) _ W2 ⟨x5 f jw,aH,C,jd⟩ aH bM Y a7)
 refine uAd ?_;refine bG Y Y f ?_;exact gEO
end Go.Proofs
end
section
namespace Go.Proofs
open Go Go.SL Go.Syn Go.Mach Tryz
open Go.Cmp (j9)
def Lr(sv:Value)(xs:List OpV)(K:Hl)(H:Glob K)(a:ErrT K)(hv:Ksl opEl K sv xs)(I:∀x∈xs,OpIs K x)(N:∀x∈xs,OpFit 140737488355328 x)(b:xs.length<=140737488355328):Sp x3 6 [sv] K [] (Ret fun v c L'=>v=.bool true/\L'=[]):=by
 refine bL func6 Y ntmps6 Y Y fun F w=>Z8 ?_;refine cG (bJ (z0:=[.int .i64 0,.int .i64 0,.int .i64 0,.int .i64 0]) qD tz3 Y Y Y Y cW) Y ?_;refine aCJ fun j=>kG (xV (k:=j9 3) (xs:=[2,3,4,5]) Y) (bA Y Y (IH sv _ xs [2,3,4,5] (fun d h=>trivial) dD _ H a hv I N b) bQ Y ?_);rintro _ L _ ⟨rfl,rfl⟩ p;refine Z4 ?_;refine uAd ?_;refine bG Y Y p ?_;exact gEO
end Go.Proofs
end
end

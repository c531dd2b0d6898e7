/- Part 5 of what the proof stands on: walks and plain laws. Conditions: as each theorem says. -/
import Derived.Scope
import Derived.ChangeKeysEq
import Derived.Lib.OthersKept
import Derived.Test.YthopmddkpdehiaaGreatDoorA4
set_option linter.unusedVariables false
set_option linter.unusedSimpArgs false
set_option linter.defProp false
set_option maxRecDepth 4000
set_option maxHeartbeats 1000000
section
attribute [local irreducible] Go.SL.T Go.SL.OL Go.SL.D Go.SL.DL Go.SL.Ev Go.SL.Ef Go.SL.EfS
section
namespace Go.Proofs
open Go Go.SL Go.Syn Tryz
def RB(s:List UInt8)(b:Nat)(rest:List Value)(r:Res (Tree×St)):Ending->Hl->List Asn->Prop:=jY r fun r v a g=>∃K,Rep a r.1 K/\isCL r.1=true/\g=[sl false (cC 224) v (K.map Prod.fst),psb b s r.2 rest]
def CJ(s:List UInt8)(b:Nat)(rest:List Value)(K:Hl)(x:Int)(O:St->Res (Tree×St)):Prop:=
 ∀(e:St) (a:Hl),K.le a->Ok s e->Sp x3 105 [ptr b,i64 x] a [psb b s e rest] (RB s b rest (O e))
def Fi{v:Value}(h:v.oneCell'=true):v.cells=[v].toArray:=by cases v<;>simp[Value.oneCell']at h<;>rfl
def xD(b:Nat)(s:List UInt8)(st:St)(rest:List Value)(I bd u:Nat)(x:Int)(y sv:Value)(d:y.oneCell'=true)(L:List (Cell×Cell))(K:Hl)(O:St->Res (Tree×St))(hs:s.length<=600)(G:Ok s st)(S:Glob K)(hd:0<=x/\x<=6)(hu:L.length<=1300)
  (A:AdvE s O) (hB:CJ s b rest K (x+1) O) (t:K I=some (bK [ptr b] 199)) (h2:K bd=some (bK [i64 x] 3)):
  Sp x3 264 [y,ptr I,ptr bd,ptr u] K [pt u (bK [sv] 311),sl false (dM 371) sv L,psb b s st rest]
   (jY (kU s O st) fun r v H L'=>v=.tuple #[]/\∃(P:Cell) (ys:List (Cell×Cell)) (l:Value),Rep H r.1 ys/\Ksl (cC 224) H P.1 (ys.map (·.1))/\L'=[pt u (bK [l] 311),sl false (dM 371) l (L++[(⟨y,d⟩,P)]),psb b s r.2 rest]):=by
 have Q:=G.1;refine bL func264 Y ntmps264 Y Y fun F w=>Z3 ?_;refine eC Y Y (mQ b s st rest [123] _ hs Q S) bQ Y (fun e p g f _ c=>?_) (fun q g=>?_)
 ·refine uAa ?_;refine Z2 ?_;simp only[kU,g];exact gGT
 rintro _ K _ ⟨rfl,rfl,rfl⟩ -;have i:=CC Q g;refine Z7 ?_;refine eC Y Y (hB q _ (xAB _) i) bQ Y (fun e p h f _ c=>?_) (fun bb h=>?_)
 ·refine uAa ?_;refine Z2 ?_;simp only[kU,g,h];exact gGT
 rintro _ K1 _ ⟨ys,C,jb,rfl⟩ a;have E:=(A _ _ i h).1;have t:=a _ _ t;refine fS fun K2 B M=>?_;obtain⟨sa,sn,sc,rfl⟩:=M.isSlice;have t:=B _ _ t;have C:=C.mono B;refine Z6 ?_;refine eC Y Y (mQ b s bb.2 rest [125] _ hs E.1 (S.mono (x5 a B))) bQ Y (fun e p N f _ c=>?_) (fun z N=>?_)
 ·refine uAa ?_;refine aT (cF (x5 a (x5 B c)) ?_);simp only[kU,g,h,N];exact gGT
 rintro _ K _ ⟨rfl,rfl,rfl⟩ -;refine Z7 ?_;refine aA (dA aA6 Yv (.cons Y (Fi d) Y (.cons .nil) cW)) Y ?_;refine cG (bJ (z0:=[.nilIface,.slice none 0 0]) sY Na Y Y Y Y cW) Y ?_;rintro _ K _ ⟨ja,rfl,rfl,rfl⟩ -;refine cG (dJ (k:=(dM 371)) (ys:=[(⟨y,d⟩,⟨.slice sa sn sc,Y⟩)]) Eh Y Y (.there (.there (.there .here))) (fun w j=>dC xCG (SeesSl.at (.blk aL Y Y) j)) gAH gAH) Y ?_;rintro jc K _ ⟨rfl,rfl,W⟩ -;refine Z1 ?_;refine cA (bW J8 Y Y cR bP .zero Y) ?_;rintro _ K _ ⟨rfl,rfl⟩ -;refine aG (aV (aQ AR (aQ cL (aQ dQ bT))) (dG Y (x5 a B) ?_));simp only[kU,g,h,N];exact⟨_,Y,Y,_,ys,_,C,M,Y⟩
def EB(b:Nat)(s:List UInt8)(st:St)(rest:List Value)(qe dp:Int)(K:Hl)(Tf Bf:St->Res (Tree×St))(hs:s.length<=600)(qj:Ok s st)(hg:Glob K)(hd:0<=dp/\dp<=6)(jp:Adv s Tf)(q:AdvE s Bf)(hT:yG s b rest K (dp+1) Tf)(hB:CJ s b rest K (dp+1) Bf):
    Sp x3 164 [ptr b,i64 qe,i64 dp] K [psb b s st rest] (RT s b rest (ifC s Tf Bf st)):=by
  have ha:=qj.1;refine bL func164 Y ntmps164 Y Y fun F w=>Z3 ?_;refine aCJ fun b3=>Z1 ?_;refine aCJ fun b5=>Z5 ?_;refine kE fun Ka qr z=>kE fun Kb qc l=>?_;have z:=qc _ _ z;have jg:=x5 qr qc;refine Z3 ?_;refine eC Y Y (fE b 208 s st.1 _ _ _ _ rest hs ha _ (hg.mono jg)) bQ Y (fun e p hr g _ c=>?_) (fun r hr=>?_)
  · refine uAa ?_;refine aT (cF (x5 jg c) ?_);simp only[RT,ifC,hr];exact⟨g,Y,Y⟩
  refine aCL ?_;have jy:=fU ha hr;refine Z5 ?_;refine aCJ fun b7=>ZE ?_;refine eC Y Y (hT r _ jg jy) bQ Y (fun e p ht g _ c=>?_) (fun t ht=>?_)
  · refine uAa ?_;refine aT (cF (x5 jg c) ?_);simp only[RT,ifC,hr,ht];exact⟨g,Y,Y⟩
  rintro _ K1 _ ⟨⟨ty,u,rfl,jx⟩,rfl⟩ jh;have qa:=(jp _ _ jy ht).1;have z:=jh _ _ z;have l:=jh _ _ l;have H:=x5 jg jh;refine kG (eO (dM 371)) ?_;refine eC Y Y (xD b s t.2 rest b3 b5 b7 dp (.iface ty u) _ Y [] _ Bf hs qa (hg.mono H) hd cD q (fun a S A ho=>hB a S (x5 H A) ho) l z) bQ Y (fun e p hb g _ c=>?_) (fun bb hb=>?_)
  · refine uAa ?_;refine aT (cF (x5 H c) ?_);simp only[RT,ifC,hr,ht,hb];exact⟨g,Y,Y⟩
  rintro _ K3 _ ⟨rfl,bv,ys,qs,qp,qq,rfl⟩ L;have qi:=(mB q _ _ qa hb).1;have z:=L _ _ z;have l:=L _ _ l;have qb:=x5 H L;refine Z4 ?_;refine m8 (fun(S:Hl) (a:St) (N:List (Cell×Cell)) (sv:Value)=>K3.le S/\Ok s a/\N.length+mu s a<=1300/\∃O f,isBL O=true/\Rep S O N/\mu s a<=f/\ifC s Tf Bf st=iH s Tf Bf (f+1) O a) (fun _ _ _ _=>[(3,ptr b3),(5,ptr b5),(7,ptr b7),(8,.func (.func 264) #[] #[ptr b3,ptr b5,ptr b7])]) (fun S _ _ _=>S) (fun _ a N sv=>[pt b7 (bK [sv] 311),sl false (dM 371) sv N,psb b s a rest]) (fun _ a _ _=>mu s a) _ bb.2 [(⟨.iface ty u,Y⟩,bv)] qs ⟨xAB _,qi,by have:=vY s bb.2;simp;omega,.bcons t.1 bb.1 .bnil,mu s bb.2,rfl,⟨_,ys,bv,[],jx.mono L,⟨_,_,rfl⟩,qp,qq,rfl,rfl⟩,xAG _,by simp only[ifC,hr,ht,hb]⟩ bM Y a7 ?_;intro S a N sv ⟨jj,j,qz,O,f,W,x,hf,E⟩;have z:=jj _ _ z;have l:=jj _ _ l;have A:=x5 qb jj;refine ZB ?_;refine bV 27 Y (fun ju=>?_) (fun ju=>?_)
  · have ju:a.2.kind=1:=aH;refine ZH ?_;refine aX 35 Y (fun jl=>?_) (fun jl=>?_)
    · have I:a.2.kind=1/\a.2.s=oR:=⟨aH,jl⟩;refine Z8 ?_;refine eC Y Y (fE b 208 s a.1 _ _ _ _ rest hs j.1 _ (hg.mono A)) bQ Y (fun e p Q g _ c=>?_) (fun r2 Q=>?_)
      · refine uAa ?_;refine Z5 ?_;refine cF (x5 A c) ?_;simp only[RT,E,iH,l4,if_pos I,Q];exact⟨g,Y,Y⟩
      refine aCL ?_;have jc:=fU j.1 Q;refine Z7 ?_;refine eC Y Y (hT r2 _ A jc) bQ Y (fun e p M g _ c=>?_) (fun t2 M=>?_)
      · refine uAa ?_;refine Z4 ?_;refine cF (x5 A c) ?_;simp only[RT,E,iH,l4,if_pos I,Q,M];exact⟨g,Y,Y⟩
      rintro _ K4 _ ⟨⟨qd,u2,rfl,jr⟩,rfl⟩ v;have jf:=(jp _ _ jc M).1;have z:=v _ _ z;have l:=v _ _ l;have js:=x5 A v;refine eC Y Y (xD b s t2.2 rest b3 b5 b7 dp (.iface qd u2) _ Y N _ Bf hs jf (hg.mono js) hd aH q (fun a S lx ho=>hB a S (x5 js lx) ho) l z) bQ Y (fun e p ja g _ c=>?_) (fun jt ja=>?_)
      · refine uAa ?_;refine Z4 ?_;refine cF (x5 js c) ?_;simp only[RT,E,iH,l4,if_pos I,Q,M,ja];exact⟨g,Y,Y⟩
      rintro _ K5 _ ⟨rfl,qg,va,qt,jw,jz,rfl⟩ ji;have jv:=(mB q _ _ jf ja).1;refine Z2 ?_;have qw:=j1 j.1 aH Q;have qx:=jp _ _ jc M;have qy:=mB q _ _ jf ja;obtain⟨f0,rfl⟩:∃f0,f=f0+1:=⟨f-1,aH⟩;obtain⟨G,qk⟩:=Bw (o:=some t2.1) ⟨jr.mono ji,_,_,rfl⟩ jw jz W (x.mono (x5 v ji));refine jQ _ jt.2 (N++[(⟨.iface qd u2,Y⟩,qg)]) qt ⟨x5 jj (x5 v ji),jv,by simp;omega,O.snocB (some t2.1) jt.1,f0,qk,G,aH,?_⟩ aH bM Y a7
      simp only[E,iH,l4,if_pos I,Q,M,ja]
    have I:¬(a.2.kind=1/\a.2.s=oR):=(fun h=>jl h.2);refine ZG ?_;refine bV 53 Y (fun jk=>ZH ?_) (fun jk=>?_)
    · refine aX 61 Y (fun i=>?_) (fun i=>?_)
      · have C:a.2.kind=1/\a.2.s=qL:=⟨aH,i⟩;refine Z5 ?_;refine eC Y Y (fE b 208 s a.1 _ _ _ _ rest hs j.1 _ (hg.mono A)) bQ Y (fun e p G g _ c=>?_) (fun r3 G=>?_)
        · refine uAa ?_;refine Z2 ?_;refine cF (x5 A c) ?_;simp only[RT,E,iH,l4,if_neg I,if_pos C,G];exact⟨g,Y,Y⟩
        refine aCL ?_;have jd:=fU j.1 G;refine Z4 ?_;refine eC Y Y (xD b s r3 rest b3 b5 b7 dp .nilIface _ Y N _ Bf hs jd (hg.mono A) hd aH q (fun a S lx ho=>hB a S (x5 A lx) ho) l z) bQ Y (fun e p y g _ c=>?_) (fun qf y=>?_)
        · refine uAa ?_;refine aT (cF (x5 A c) ?_);simp only[RT,E,iH,l4,if_neg I,if_pos C,G,y];exact⟨g,Y,Y⟩
        rintro _ K6 _ ⟨rfl,qh,qv,qu,jb,je,rfl⟩ d;refine Z5 ?_;refine aA (eX xBW (fun _ h=>by cases h) Y) Y (Z4 ?_);refine uAw ?_;refine iX fun K9 B P=>bG Y Y gA4 ?_
        (simp only [RT,E,iH,l4,if_neg I,if_pos C,G,y]
         obtain⟨jq,ql⟩:=Bw (o:=none) rfl jb je W (x.mono d);exact⟨_,Y,⟨_,_,Y,_,_,jq.mono B,P,Y⟩,Y⟩)
      have C:¬(a.2.kind=1/\a.2.s=qL):=(fun h=>i h.2);refine Z5 ?_;refine aA (eX xBW (fun _ h=>by cases h) Y) Y (Z4 ?_);refine uAw ?_;refine iX fun K9 B P=>bG Y Y gA4 ?_
      (simp only[RT,E,iH,l4,if_neg I,if_neg C];exact⟨_,Y,⟨_,_,Y,N,sv,x.mono B,P,Y⟩,Y⟩)
    have C:¬(a.2.kind=1/\a.2.s=qL):=(fun h=>by omega);refine ZG ?_;refine aA (eX xBW (fun _ h=>by cases h) Y) Y (Z4 ?_);refine uAw ?_;refine iX fun K9 B P=>bG Y Y gA4 ?_
    (simp only[RT,E,iH,l4,if_neg I,if_neg C];exact⟨_,Y,⟨_,_,Y,N,sv,x.mono B,P,Y⟩,Y⟩)
  have I:¬(a.2.kind=1/\a.2.s=oR):=(fun h=>by omega);refine ZR ?_;refine bV 53 Y (fun jk=>ZH ?_) (fun jk=>?_)
  · refine aX 61 Y (fun i=>?_) (fun i=>?_)
    · have C:a.2.kind=1/\a.2.s=qL:=⟨aH,i⟩;refine Z5 ?_;refine eC Y Y (fE b 208 s a.1 _ _ _ _ rest hs j.1 _ (hg.mono A)) bQ Y (fun e p G g _ c=>?_) (fun r3 G=>?_)
      · refine uAa ?_;refine Z2 ?_;refine cF (x5 A c) ?_;simp only[RT,E,iH,l4,if_neg I,if_pos C,G];exact⟨g,Y,Y⟩
      refine aCL ?_;have jd:=fU j.1 G;refine Z4 ?_;refine eC Y Y (xD b s r3 rest b3 b5 b7 dp .nilIface _ Y N _ Bf hs jd (hg.mono A) hd aH q (fun a S lx ho=>hB a S (x5 A lx) ho) l z) bQ Y (fun e p y g _ c=>?_) (fun qf y=>?_)
      · refine uAa ?_;refine aT (cF (x5 A c) ?_);simp only[RT,E,iH,l4,if_neg I,if_pos C,G,y];exact⟨g,Y,Y⟩
      rintro _ K6 _ ⟨rfl,qh,qv,qu,jb,je,rfl⟩ d;refine Z5 ?_;refine aA (eX xBW (fun _ h=>by cases h) Y) Y (Z4 ?_);refine uAw ?_;refine iX fun K9 B P=>bG Y Y gA4 ?_
      (simp only [RT,E,iH,l4,if_neg I,if_pos C,G,y]
       obtain⟨jq,ql⟩:=Bw (o:=none) rfl jb je W (x.mono d);exact⟨_,Y,⟨_,_,Y,_,_,jq.mono B,P,Y⟩,Y⟩)
    have C:¬(a.2.kind=1/\a.2.s=qL):=(fun h=>i h.2);refine Z5 ?_;refine aA (eX xBW (fun _ h=>by cases h) Y) Y (Z4 ?_);refine uAw ?_;refine iX fun K9 B P=>bG Y Y gA4 ?_
    (simp only[RT,E,iH,l4,if_neg I,if_neg C];exact⟨_,Y,⟨_,_,Y,N,sv,x.mono B,P,Y⟩,Y⟩)
  have C:¬(a.2.kind=1/\a.2.s=qL):=(fun h=>by omega);refine ZG ?_;refine aA (eX xBW (fun _ h=>by cases h) Y) Y (Z4 ?_);refine uAw ?_;refine iX fun K9 B P=>bG Y Y gA4 ?_
  (simp only[RT,E,iH,l4,if_neg I,if_neg C];exact⟨_,Y,⟨_,_,Y,N,sv,x.mono B,P,Y⟩,Y⟩)
def JJ(b:Nat)(s:List UInt8)(st:St)(x:Int)(rest:List Value)(K:Hl)(E:St->Res (Tree×St))(g:s.length<=600)(f:Ok s st)(H:Glob K)(hd:0<=x/\x<=6)(a:Adv s E)(d:yG s b rest K (x+1) E):
  Sp x3 169 [ptr b,i64 x] K [psb b s st rest] (RT s b rest (oE s E true st)):=by
 refine bL func169 Y ntmps169 Y Y fun F w=>Z9 ?_;refine eC Y Y (F1 b s st true x rest _ E g f H hd a d) bQ Y (fun e p i c _ h=>?_) (fun r i=>?_)
 ·exact gHQ
 exact gDO
def JL(b:Nat)(s:List UInt8)(st:St)(x:Int)(rest:List Value)(K:Hl)(E:St->Res (Tree×St))(g:s.length<=600)(f:Ok s st)(H:Glob K)(hd:0<=x/\x<=6)(a:Adv s E)(d:yG s b rest K (x+1) E):
  Sp x3 171 [ptr b,i64 x] K [psb b s st rest] (RT s b rest (oE s E false st)):=by
 refine bL func171 Y ntmps171 Y Y fun F w=>Z9 ?_;refine eC Y Y (F1 b s st false x rest _ E g f H hd a d) bQ Y (fun e p i c _ h=>?_) (fun r i=>?_)
 ·exact gHQ
 exact gDO
def F2(k e:List UInt8)(v:Value)(c:Nat)(H:List Ent):mget ((e,v,c)::H) k=if k=e then some v else mget H k:=by
 unfold mget;rw[List.find?_cons]
 by_cases h:k=e
 ·subst h;simp
 simp[h]
def I6(k:List UInt8):mget [] k=none:=rfl
structure PE (s:List UInt8) (needs:List (List UInt8)) (nv:Value) (cb tb:Nat) (K:Hl):Prop where
 pk:PK s needs nv K
 tabs:Tabs K cb tb
def PE.mono{s:List UInt8}{needs:List (List UInt8)}{nv:Value}{d tb:Nat}{K a:Hl}(h:PE s needs nv d tb K)(le:K.le a):PE s needs nv d tb a:=⟨h.pk.mono le,h.tabs.mono le⟩
def PS(b:Nat)(s:List UInt8)(st:St)(x:Int)(nv:Value)(rest:List Value)(needs:List (List UInt8))(K:Hl)(E:St->Res (Tree×St))(hp:PK s needs nv K)(f:Ok s st)(hd:0<=x/\x<=6)(a:Adv s E)(c:yG s b (nv::rest) K (x+1) E)
  {H:List Ent} (A:H=[(jO,fnV 165,0),(gO,fnV 166,1),(qF,fnV 167,2),(lE,fnV 169,3),(lF,fnV 171,4),(gK,fnV 172,5),(dK,fnV 174,6),(gL,fnV 175,7),(kJ,fnV 176,8),(mW,fnV 178,9)]):
  (mget H st.2.s=none/\oP s needs E st=none)\/∃fn r,mget H st.2.s=some (fnV fn)/\oP s needs E st=some r/\Sp x3 fn [ptr b,i64 x] K [psb b s st (nv::rest)] (RT s b (nv::rest) r):=by
 subst A;unfold oP;simp only[F2,I6]
 by_cases h:st.2.s=jO
 ·simp only[if_pos h];exact .inr ⟨_,_,Y,Y,Qe b s st x _ K hp.hs f hp.hg⟩
 simp only[if_neg h]
 by_cases d:st.2.s=gO
 ·simp only[if_pos d];exact .inr ⟨_,_,Y,Y,Kz b s st x _ K hp.hs f hp.hg⟩
 simp only[if_neg d]
 by_cases l:st.2.s=qF
 ·simp only[if_pos l];exact .inr ⟨_,_,Y,Y,Se b s st x _ K E hp.hs f hp.hg hd c⟩
 simp only[if_neg l]
 by_cases z:st.2.s=lE
 ·simp only[if_pos z];exact .inr ⟨_,_,Y,Y,JJ b s st x _ K E hp.hs f hp.hg hd a c⟩
 simp only[if_neg z]
 by_cases F:st.2.s=lF
 ·simp only[if_pos F];exact .inr ⟨_,_,Y,Y,JL b s st x _ K E hp.hs f hp.hg hd a c⟩
 simp only[if_neg F]
 by_cases G:st.2.s=gK
 ·simp only[if_pos G];exact .inr ⟨_,_,Y,Y,Iq b s st x nv rest needs K f hp⟩
 simp only[if_neg G]
 by_cases B:st.2.s=dK
 ·simp only[if_pos B];exact .inr ⟨_,_,Y,Y,EE b s st x nv rest needs K f hp⟩
 simp only[if_neg B]
 by_cases e:st.2.s=gL
 ·simp only[if_pos e];exact .inr ⟨_,_,Y,Y,Jr b s st x nv rest needs K f hp⟩
 simp only[if_neg e]
 by_cases j:st.2.s=kJ
 ·simp only[if_pos j];exact .inr ⟨_,_,Y,Y,Ie b s st x _ K hp.hs f hp.hg⟩
 simp only[if_neg j]
 by_cases C:st.2.s=mW
 ·simp only[if_pos C];exact .inr ⟨_,_,Y,Y,P3 b s st x _ K hp.hs f hp.hg⟩
 simp only[if_neg C];exact .inl cD
def yT(s:List UInt8)(needs:List (List UInt8))(x:Int)(E:St->Res (Tree×St))(st:St):Res (Tree×St):=
 if st.2.kind=1 then (if 6<x then .error (5,st.2.at_)else match oP s needs E st with|some r=>r|none=>.error (4,st.2.at_))else .error (4,st.2.at_)
def FW(b:Nat)(s:List UInt8)(st:St)(x:Int)(nv P:Value)(q tb:Nat)(needs:List (List UInt8))(K:Hl)(E:St->Res (Tree×St))(hp:PE s needs nv q tb K)(l:Ok s st)(hd:0<=x/\x<=7)(y:Adv s E)
  (A:x<=6->yG s b [nv,P,.map (some q),.map (some tb)] K (x+1) E):
  Sp x3 168 [ptr b,i64 x] K [psb b s st [nv,P,.map (some q),.map (some tb)]] (RT s b [nv,P,.map (some q),.map (some tb)] (yT s needs x E st)):=by
 have O:=l.1;obtain⟨Q,H,z⟩:=hp;refine bL func168 Y ntmps168 Y Y fun F w=>ZH ?_;refine aX 13 Y (fun M=>?_) (fun M=>?_)
 ·have a:¬st.2.kind=1:=aH;refine Z2 ?_;refine dB Y Y (lD b s st _ _) bQ Y gAE ?_ ?_
  ·rintro _ _ _ ⟨c,h,rfl⟩ g;cases h
   refine uAa ?_;refine Z2 ?_;simp only[RT,yT,if_neg a];exact gFF
  exact gDD
 have a:st.2.kind=1:=aH;refine Z9 ?_;refine aX 17 Y (fun u=>?_) (fun u=>?_)
 ·have N:6<x:=aH;refine Z7 ?_;refine dB Y Y (gQ 5 st.2.at_ _) .nil Y gAE ?_ ?_
  ·rintro _ _ _ ⟨c,h,rfl⟩ g;cases h
   refine uAa ?_;refine Z2 ?_;simp only[RT,yT,if_pos a,if_pos N];exact gFF
  exact gDD
 have N:¬6<x:=aH;have i:=PS b s st x nv _ needs _ E Q l ⟨hd.1,aH⟩ y (A aH) rfl;refine Z3 ?_;refine cN [] [] mixed gAD (cM _) (ZA ?_);refine aJ Y Y (.none Y) Y Y (Dh xBK x9 aBF Y Y (.known z)) Y (ZB ?_);refine aA gAB Y (Z2 ?_);refine dZ 40 Y (fun d=>?_) (fun d=>?_)
 ·rcases i with ⟨B,j⟩|⟨fn,r,B,f,G⟩
  case inr=>exact absurd d (by rw[B];simp)
  refine Z2 ?_;refine dB Y Y (lD b s st _ _) bQ Y gAE ?_ ?_
  ·rintro _ _ _ ⟨c,h,rfl⟩ g;cases h
   refine uAa ?_;refine Z2 ?_;simp only[RT,yT,if_pos a,if_neg N,j];exact gFF
  exact gDD
 rcases i with ⟨B,j⟩|⟨fn,r,B,f,G⟩
 case inl=>exact absurd d (by rw[B];simp)
 refine Z7 ?_;refine eC (xAF some (by rw[B];rfl)) Y G bQ Y (fun e p I c _ g=>?_) (fun t I=>?_)
 ·refine uAa ?_;refine Z2 ?_;simp only[RT,yT,if_pos a,if_neg N,f,I];exact gFF
 rintro _ L _ ⟨C,rfl⟩ v;refine Z4 ?_;refine uAa ?_;refine bG Y Y v ?_;simp only[RT,yT,if_pos a,if_neg N,f,I];exact⟨_,Y,C,Y⟩
def LN(s:List UInt8)(needs:List (List UInt8))(E:St->Res (Tree×St))(st:St):yT s needs 7 E st=Syn.test s needs 0 st:=by
 unfold yT Syn.test;simp
def LM(s:List UInt8)(needs:List (List UInt8))(n:Nat)(x:Int)(h:x<=6)(st:St):yT s needs x (Syn.test s needs n) st=Syn.test s needs (n+1) st:=by
 unfold yT;rw[Syn.test,x6 (show ¬6<x by omega)]<;>split<;>first|rfl|(cases oP s needs (Syn.test s needs n) st<;>rfl)
def PW(b:Nat)(s:List UInt8)(nv P:Value)(d tb:Nat)(needs:List (List UInt8)):∀(n:Nat),n<=7->∀(K:Hl),PE s needs nv d tb K->yG s b [nv,P,.map (some d),.map (some tb)] K (7-n) (Syn.test s needs n):=by
 intro n;induction n with
 |zero=>
  intro _ K hp e a le f;have h:=FW b s e 7 nv P d tb needs a (Syn.test s needs 0) (hp.mono le) f ⟨by decide,by decide⟩ (mT 0) (fun h=>absurd h dD);rw[LN]at h;exact h
 |succ n w=>
  intro u K hp e a le f;have h := FW b s e (7 - (n + 1 : Nat)) nv P d tb needs a (Syn.test s needs n) (hp.mono le) f ⟨aH, aH⟩ (mT n) (fun _ => by
   have:=w aH a (hp.mono le);rw[show ((7:Int)-((n+1:Nat):Int)+1)=7-(n:Nat)from aH];exact this)
  rw[LM s needs n _ aH]at h;exact h
def L9(b:Nat)(s:List UInt8)(st:St)(a x:Int)(nv:Value)(rest:List Value)(needs:List (List UInt8))(K:Hl)(hp:PK s needs nv K)(f:Ok s st):
  Sp x3 163 [ptr b,i64 a,i64 x] K [psb b s st (nv::rest)] (RT s b (nv::rest) (sR s needs st)):=by
 refine(To b s st a x nv rest needs K hp.hs f hp.hg hp.hv hp.hn).mono fun e d g h=>?_;unfold RT sR;cases c:setC s needs st with
 |error p=>rw[c]at h;exact h
 |ok r=>
  rw[c]at h;obtain⟨v,rfl,_,rfl,rfl⟩:=h;exact gHV
def QF(b:Nat)(s:List UInt8)(st:St)(x:Int)(nv:Value)(rest:List Value)(needs:List (List UInt8))(K:Hl)(E O:St->Res (Tree×St))(hp:PK s needs nv K)(f:Ok s st)(hd:0<=x/\x<=6)(a:Adv s E)(t:AdvE s O)(q:yG s b (nv::rest) K (x+1) E)(W:CJ s b (nv::rest) K (x+1) O)
  {d tb:Nat} (I:Tabs K d tb):∃H c,K d=some (mapO H c)/\
  ((mget H st.2.s=none/\cmdD s needs E O st=none)\/∃fn y r,mget H st.2.s=some (.func (.func fn) #[] y)/\cmdD s needs E O st=some r/\Sp x3 fn ([ptr b,i64 st.2.at_,i64 x]++y.toList) K [psb b s st (nv::rest)] (RT s b (nv::rest) r)):=by
 obtain⟨i,N,Q,w,M,j,p,S,C,P,u,v,A,L,k5,k6,k7,k8,k9⟩:=I.cmds;refine⟨_,_,P,?_⟩
 unfold cmdD;simp only[F2,I6]
 by_cases h:st.2.s=pI
 ·simp only[if_pos h];exact .inr ⟨_,_,_,Y,Y,uU b s st st.2.at_ x _ i _ _ _ K hp.hs f hp.hg u (fun K=>VP _ K) (fun K=>IP K _ _ _)⟩
 simp only[if_neg h]
 by_cases e:st.2.s=jH
 ·simp only[if_pos e];exact .inr ⟨_,_,_,Y,Y,uU b s st st.2.at_ x _ N _ _ _ K hp.hs f hp.hg v (fun K=>VQ _ K) (fun K=>DI K _)⟩
 simp only[if_neg e]
 by_cases l:st.2.s=l6
 ·simp only[if_pos l];exact .inr ⟨_,_,_,Y,Y,uU b s st st.2.at_ x _ Q _ _ _ K hp.hs f hp.hg A (fun K=>VR _ K) (fun K=>DI K _)⟩
 simp only[if_neg l]
 by_cases z:st.2.s=fO
 ·simp only[if_pos z];exact .inr ⟨_,_,_,Y,Y,uC b s st st.2.at_ x nv rest needs w M _ _ K hp.hs f hp.hg hp.hv hp.hn L k5⟩
 simp only[if_neg z]
 by_cases F:st.2.s=gH
 ·simp only[if_pos F];exact .inr ⟨_,_,_,Y,Y,uC b s st st.2.at_ x nv rest needs j p _ _ K hp.hs f hp.hg hp.hv hp.hn k6 k7⟩
 simp only[if_neg F]
 by_cases G:st.2.s=hU
 ·simp only[if_pos G];exact .inr ⟨_,_,_,Y,Y,uC b s st st.2.at_ x nv rest needs S C _ _ K hp.hs f hp.hg hp.hv hp.hn k8 k9⟩
 simp only[if_neg G]
 by_cases B:st.2.s=sE
 ·simp only[if_pos B];exact .inr ⟨_,_,_,Y,Y,L9 b s st st.2.at_ x nv rest needs K hp f⟩
 simp only[if_neg B]
 by_cases g:st.2.s=txIf
 ·simp only[if_pos g];exact .inr ⟨_,_,_,Y,Y,EB b s st _ st.2.at_ x K E O hp.hs f hp.hg hd a t q W⟩
 simp only[if_neg g];exact .inl cD
def cmdG(s:List UInt8)(needs:List (List UInt8))(x:Int)(E O:St->Res (Tree×St))(st:St):Option (Res (Tree×St)):=if 6<x then some (.error (5,st.2.at_))else cmdD s needs E O st
def CU(b:Nat)(s:List UInt8)(st:St)(x:Int)(nv n1:Value)(G tb:Nat)(needs:List (List UInt8))(K:Hl)(E O:St->Res (Tree×St))(hp:PE s needs nv G tb K)(jb:Ok s st)(hd:0<=x/\x<=7)(W:Adv s E)(Q:AdvE s O)
  (hT:x<=6->yG s b [nv,n1,.map (some G),.map (some tb)] K (x+1) E) (hB:x<=6->CJ s b [nv,n1,.map (some G),.map (some tb)] K (x+1) O) (r0:Res (Tree×St)) (jk:j6 s (cmdG s needs x E O) (mu s st+1) .cnil st=r0):
  Sp x3 105 [ptr b,i64 x] K [psb b s st [nv,n1,.map (some G),.map (some tb)]] (RB s b [nv,n1,.map (some G),.map (some tb)] r0):=by
 have ha:=jb.1;obtain⟨jc,M⟩:=hp;refine bL func105 Y ntmps105 Y Y fun F w=>ZC ?_;refine m8 (fun(S:Hl) (a:St) (L:List (Cell×Cell)) (v:Value)=>K.le S/\Ok s a/\L.length+mu s a<=1300/\∃c f,isCL c=true/\Rep S c L/\mu s a<=f/\r0=j6 s (cmdG s needs x E O) (f+1) c a) (fun _ _ _ v=>[(0,ptr b),(1,i64 x),(5,v)]) (fun S _ _ _=>S) (fun _ a L v=>[sl false (cC 224) v (L.map Prod.fst),psb b s a [nv,n1,.map (some G),.map (some tb)]]) (fun _ a _ _=>mu s a) K st [] (.slice none 0 0) ⟨xAB _,jb,by have:=vY s st;have:=jc.hs;simp;omega,.cnil,mu s st,rfl,rfl,xAG _,jk.symm⟩ bM Y (eO (cC 224)) ?_;intro S a L v ⟨g,t,js,c,f,H,jd,hf,hx⟩;refine ZC ?_;refine aX 15 Y (fun jg=>?_) (fun jg=>?_)
 ·have A:a.2.kind=1:=aH;refine ZL ?_;refine aX 23 Y (fun jh=>?_) (fun jh=>?_)
  ·have d:cmdG s needs x E O a=some (.error (5,a.2.at_)):=x7 aH;refine Z2 ?_;refine dB Y Y (gQ 5 a.2.at_ _) .nil Y gAE ?_ ?_
   ·rintro _ _ _ ⟨P,h,rfl⟩ l;cases h
    refine uAa ?_;refine Z5 ?_;refine cF (x5 g l) ?_;simp only[RB,hx,j6,if_pos A,d];exact⟨P,Y,Y⟩
   exact gDD
  have d:cmdG s needs x E O a=cmdD s needs E O a:=x6 aH;obtain⟨es,ec,ji,i⟩:=QF b s a x nv _ needs _ E O (jc.mono g) t ⟨hd.1,aH⟩ W Q (fun C K3 lx ho=>hT aH C K3 (x5 g lx) ho) (fun C K3 lx ho=>hB aH C K3 (x5 g lx) ho) (M.mono g);refine Z3 ?_;refine cN [] [] mixed gAD (cM _) (ZA ?_);refine aJ Y Y (.none Y) Y Y (Dh xBQ x9 aBE Y Y (.known ji)) Y (ZB ?_);refine aA gAB Y (Z2 ?_);refine dZ 41 Y (fun y=>?_) (fun y=>?_)
  ·rcases i with ⟨I,ja⟩|⟨fn,N,r,I,q,je⟩
   case inr=>exact absurd y (by rw[I];simp)
   refine Z2 ?_;refine dB Y Y (lD b s a _ _) bQ Y gAE ?_ ?_
   ·rintro _ _ _ ⟨P,h,rfl⟩ l;cases h
    refine uAa ?_;refine Z5 ?_;refine cF (x5 g l) ?_;simp only[RB,hx,j6,if_pos A,d,ja];exact⟨P,Y,Y⟩
   exact gDD
  rcases i with ⟨I,ja⟩|⟨fn,N,r,I,q,je⟩
  case inl=>exact absurd y (by rw[I];simp)
  refine Z8 ?_;refine eC (xAF some (by rw[I];rfl)) Y je bQ Y (fun e p z P _ l=>?_) (fun c2 z=>?_)
  ·refine uAa ?_;refine Z4 ?_;refine cF (x5 g l) ?_;simp only[RB,hx,j6,if_pos A,d,q,z];exact⟨P,Y,Y⟩
  rintro _ K3 _ ⟨⟨jf,u2,rfl,B⟩,rfl⟩ u;have jj:=zZ W Q t aH (by rw[q,z]);refine cG (bJ (z0:=[.nilIface]) wU aBL Y Y Y Y cW) Y ?_;refine aCJ fun jr=>cG (dJ (k:=(cC 224)) (ys:=[⟨.iface jf u2,Y⟩]) Eg Y Y (.there (.there .here)) (fun w j=>dC xCU (SeesSl.at (.blk aL Y Y) j)) gAG gAH) Y ?_;rintro jt K _ ⟨rfl,rfl,jq⟩ -;refine Z3 ?_;obtain⟨f0,rfl⟩:∃f0,f=f0+1:=⟨f-1,aH⟩;obtain⟨jl,jp⟩:=Pa B H (jd.mono u);refine aV (aQ cL (aQ dQ bT)) ?_;refine jQ _ c2.2 (L++[(⟨.iface jf u2,Y⟩,u0)]) _ ⟨x5 g u,jj.1,by simp;omega,c.snocC c2.1,f0,jp,jl,aH,?_⟩ aH bM Y (by rw[List.map_append];exact fun _ h=>h)
  simp only[hx,j6,if_pos A,d,q,z]
 have A:¬a.2.kind=1:=aH;refine ZC ?_;refine uAg ?_;refine bG Y Y g ?_;simp only[RB,hx,j6,if_neg A];exact⟨_,Y,L,jd,H,Y⟩
def Nz(s:List UInt8)(needs:List (List UInt8))(E O:St->Res (Tree×St))(st:St):j6 s (cmdG s needs 7 E O) (mu s st+1) .cnil st=Syn.block s needs 0 st:=by
 unfold j6 Syn.block
 by_cases h:st.2.kind=1
 ·rw[x7 h,x7 h];rfl
 rw[x6 h,x6 h]
def Ny(s:List UInt8)(needs:List (List UInt8))(x:Int)(h:x<=6)(E O:St->Res (Tree×St)):cmdG s needs x E O=cmdD s needs E O:=by
 funext e;unfold cmdG;rw[x6 aH]
def JS(b:Nat)(s:List UInt8)(nv P:Value)(d tb:Nat)(needs:List (List UInt8)):∀(n:Nat),n<=7->∀(K:Hl),PE s needs nv d tb K->CJ s b [nv,P,.map (some d),.map (some tb)] K (7-n) (Syn.block s needs n):=by
 intro n;induction n with
 |zero=>
  intro _ K hp c a le f;have h:=CU b s c 7 nv P d tb needs a (Syn.test s needs 0) (Syn.block s needs 0) (hp.mono le) f ⟨by decide,by decide⟩ (mT 0) (q6 0) (fun h=>absurd h dD) (fun h=>absurd h dD) _ (Nz s needs _ _ c);exact h
 |succ n w=>
  intro u K hp c a le f;have e:((7:Int)-((n+1:Nat):Int)+1)=7-(n:Nat):=aH;have h:=CU b s c (7-(n+1:Nat)) nv P d tb needs a (Syn.test s needs n) (Syn.block s needs n) (hp.mono le) f ⟨aH,aH⟩ (mT n) (q6 n)
   (fun _=>by rw[e];exact PW b s nv P d tb needs n aH a (hp.mono le)) (fun _=>by rw[e];exact w aH a (hp.mono le)) _ (by rw[Ny s needs _ aH])
  exact h
section
variable{fr:Fr}{F K K0:Hl}{s:List UInt8}{b2 b3:Nat}{w:World}
def Le(b2 b3:Nat)(K:Hl)(L:List Asn):SpD x3 99 [ptr b2,ptr b3] K L .returning fun e u' a L'=>u'=.returning/\(e=.returned (.tuple #[])/\a=K/\L'=L):=by
 refine Hj (rv:=.nilIface) (u':=.returning) func99 Y ntmps99 Y Y Y Y yN fun F w=>Z9 ?_;exact gDP
def Ld(b2 b3 a:Nat)(d g:Value)(K:Hl):SpD x3 99 [ptr b2,ptr b3] K [pt b3 (bK [g] 79),pt b2 (bK [d] 87)] (.panicking [{v:=.iface 118 (ptr a),recovered:=false}])
  fun e u' b L'=>u'=.panicking [{v:=.iface 118 (ptr a),recovered:=true}]/\(e=.returned (.tuple #[])/\b=K/\L'=[pt b3 (bK [.iface 118 (ptr a)] 79),pt b2 (bK [.pointer none] 87)]):=by
 refine Hj (rv:=.iface 118 (ptr a)) (u':=.panicking [{v:=.iface 118 (ptr a),recovered:=true}]) func99 Y ntmps99 Y Y Y Y yM fun F w=>ZA ?_;refine aA (jI xBZ (fun _ h=>by cases h) Y) Y (ZB ?_);refine aA gAB Y (Z7 ?_);refine aA (eX xBZ (fun _ h=>by cases h) Y) Y (Z4 ?_);exact gDP
structure ScriptAt (K:Hl) (b:Nat) (needs:List (List UInt8)) (t:Tree):Prop where
 at_:∃l nv bv ys fz,K b=some (bK l 208 fz)/\l[6]?=some nv/\l[7]?=some bv/\Ksl (aZ 9) K nv needs/\Ksl (cC 224) K bv (ys.map Prod.fst)/\Rep K t ys/\isCL t=true
def Xk(s:List UInt8)(v:Value)(K:Hl):Prop:=
 (600<s.length/\v=.tuple #[.pointer none,.iface 30 (i64 1)])\/
 (s.length<=600/\((∃b r,gG s=.ok r/\v=.tuple #[ptr b 6,.nilIface]/\ScriptAt K b r.1 r.2)\/(∃w e p,gG s=.error (e,p)/\v=.tuple #[.pointer none,.iface 118 (ptr w)]/\K w=some (bK [i64 e,i64 p] 123))))
abbrev JH(s:List UInt8):Ending->Hl->List Asn->Prop:=Ret fun v K g=>Xk s v K/\g=[]
def n4{n:Nat}{a:Nat}{d g:Value}{e p:Int}(c:fr.get 2=some (ptr b2))(I:fr.get 3=some (ptr b3))(le:K0.le K)(f:s.length<=600)(h:gG s=.error (e,p)):
  D ⟨x3,n,[dfr 99 #[ptr b2,ptr b3]],w,F⟩ (.panic [{v:=.iface 118 (ptr a),recovered:=false}]) fr K [pt a (bK [i64 e,i64 p] 123),pt b3 (bK [g] 79),pt b2 (bK [d] 87)] (zP x3 Tryz.f57 w F K0 (JH s)):=by
 refine fC fun L b u=>QO (.pan _) Y H3 AN c I (aQ cL (aQ cL bT)) (Ld b2 b3 a d g L) Y ?_;rintro _ _ _ ⟨rfl,rfl,rfl⟩;exact⟨⟨_,Y⟩,fun A=>⟨_,_,[],fun _ y=>hO y,⟨_,Y,.inr ⟨f,.inr ⟨a,e,p,h,Y,u⟩⟩,Y⟩,x5 le b⟩⟩
def F7{n:Nat}{b:Nat}{r:List (List UInt8)×Tree}(a:fr.get 2=some (ptr b2))(I:fr.get 3=some (ptr b3))(le:K0.le K)(c:s.length<=600)(h:gG s=.ok r)(t:ScriptAt K b r.1 r.2):
  D ⟨x3,n,[dfr 99 #[ptr b2,ptr b3]],w,F⟩ .ret fr K [pt b3 (bK [.nilIface] 79),pt b2 (bK [ptr b 6] 87)] (zP x3 Tryz.f57 w F K0 (JH s)):=by
 refine QO .ret Y H3 AN a I (aQ cL (aQ cL bT)) (Le b2 b3 K _) Y ?_;rintro _ _ _ ⟨rfl,rfl,rfl⟩;exact⟨⟨_,Y⟩,fun A=>⟨_,_,[],fun _ y=>hO y,⟨_,Y,.inr ⟨c,.inl ⟨b,r,h,Y,t⟩⟩,Y⟩,le⟩⟩
def BL(b:Nat)(s:List UInt8)(nv P:Value)(d tb:Nat)(needs:List (List UInt8))(K:Hl)(hp:PE s needs nv d tb K)(st:St)(f:Ok s st):Sp x3 105 [ptr b,i64 0] K [psb b s st [nv,P,.map (some d),.map (some tb)]] (RB s b [nv,P,.map (some d),.map (some tb)] (Syn.block s needs 7 st)):=
 JS b s nv P d tb needs 7 (xAG _) K hp st K (xAB _) f
def Lf(s:List UInt8)(K:Hl)(hg:Glob K):Sp x3 57 [str s] K [] (JH s):=by
  refine Ea func57 Y ntmps57 Y Y fun F w=>?_;refine Z3 ?_;rintro _ K _ ⟨b2,rfl,rfl,rfl⟩ -;refine Z1 ?_;rintro _ K _ ⟨b3,rfl,rfl,rfl⟩ -;refine ZA ?_;refine aX 9 Y (fun h9=>Z2 ?_) (fun h9=>?_)
  · refine aA (eX xCM (fun _ h=>by cases h) Y) Y ?_;refine cA (bW H3 Y Y cR bP .zero Y) ?_;rintro _ K _ ⟨rfl,rfl⟩ -;refine cA (bW AN Y Y cR bP .zero Y) ?_;rintro _ K _ ⟨rfl,rfl⟩ -;refine Z4 ?_;refine UA Y H3 AN Y Y (.cons (.there .here) (.cons .here .nil)) (xAB _) ?_;exact⟨_,Y,.inl ⟨aH,Y⟩,Y⟩
  have v:s.length<=600:=aH;refine Z5 ?_;refine IB Y ?_;refine Z5 ?_;refine aA (dA aAW Yo (.cons Y Y Y (.cons .nil) .nil)) Y ?_;refine aA (dA aAX Yp (.cons Y Y Y (.cons (.cons (.cons (.cons (.cons (.cons .nil)))))) .nil)) Y ?_;refine Z1 ?_;rintro _ K _ ⟨P,rfl,rfl,rfl⟩ -;refine Z6 ?_;refine bA Y Y (Ju P s (0,⟨0,[],0,0⟩) _ _ _) (.cons .here .nil) Y ?_;rintro _ K1 _ ⟨rfl,cb,tb,ja,rfl⟩ G;refine Z7 ?_;refine dB Y Y (fE P 208 s 0 _ _ _ _ _ v (xAA _) _ (hg.mono G)) (.cons .here .nil) Y (fun _ _=>eI _ _) ?_ ?_
  · rintro _ _ _ a c;obtain⟨e,p,hr,fb,h,rfl⟩:=eJ a;cases h
    refine aV (.cons .here (.cons .here (.cons .here .nil))) ?_;refine aT ?_;exact n4 Y Y (x5 G c) v (by simp only[gG,hr])
  rintro _ K _ a -;obtain⟨r,hr,rfl,rfl,rfl⟩:=eK a;clear a;have jt:=fU (xAA _) hr;refine Z4 ?_;refine l5 (fun(b:St) (A:List (List UInt8)) (sv:Value)=>Ok s b/\A.length+mu s b<=1300/\∃f,mu s b<=f/\gG s=i8 s (reqF s (f+1) A b)) (fun _ _ _=>[(2,ptr b2),(3,ptr b3),(4,ptr P)]) (fun _ _ _=>K) (fun b A sv=>[sl false (aZ 9) sv A,psb P s b [sv,.slice none 0 0,.map (some cb),.map (some tb)],pt b3 (bK [.nilIface] 79),pt b2 (bK [.pointer none] 87)]) (fun b _ _=>mu s b) r [] (.slice none 0 0) ⟨jt,by have:=vY s r;simp;omega,mu s r,xAG _,by simp only[gG,hr]⟩ (.cons 2 Y (.cons 3 Y (.cons 4 Y .nil))) Y (eO (aZ 9)) ?_;intro b A sv ⟨t,qa,f,hf,L⟩;refine ZB ?_;refine bV 29 Y (fun jg=>?_) (fun jg=>?_)
  · have jg:b.2.kind=1:=aH;refine ZH ?_;refine aX 37 Y (fun jb=>?_) (fun jb=>?_)
    · have I:b.2.kind=1/\b.2.s=mG:=⟨aH,jb⟩;refine Z8 ?_;refine dB Y Y (fE P 208 s b.1 _ _ _ _ _ v t.1 _ (hg.mono G)) (.cons (.there .here) .nil) Y (fun _ _=>eI _ _) ?_ ?_
      · rintro _ _ _ a c;obtain⟨e,p,Q,fb,h,rfl⟩:=eJ a;cases h
        refine aV (.cons .here (.cons (.there .here) (.cons (.there .here) .nil))) ?_;refine Z5 ?_;exact n4 Y Y (x5 G c) v (by simp only[L,reqF,i8,if_pos I,Q])
      rintro _ K _ a -;obtain⟨r2,Q,rfl,rfl,rfl⟩:=eK a;clear a;have jy:=j1 t.1 aH Q;have H:=fU t.1 Q;refine Z6 ?_;refine cG (bJ (z0:=[(str []),(str []),(str []),(str [])]) b0 tz9 Y Y Y Y (.cons Y Y Y (.cons .nil) (.cons Y Y Y (.skip (.cons .nil)) (.cons Y Y Y (.skip (.skip (.cons .nil))) (.cons Y Y Y (.skip (.skip (.skip (.cons .nil)))) .nil))))) Y ?_;rintro _ K _ ⟨jk,rfl,rfl,rfl⟩ -;refine kE fun Ka O jp=>?_;refine bA Y Y (o8 6 _ _ Y) .nil Y ?_;rintro _ Kb _ ⟨c1,c2,rfl,jq,jr,rfl⟩ E;refine dB Y Y (uM P s r2 _ 192 #[ptr c1,ptr c2] (Syn.oneOf 6 sD) _ v H (hg.mono (x5 G (x5 O E))) (fun x L=>n3 x 6 sD _ c1 c2 _ jq jr (.inr ⟨jk,0,4,[str dK,str fO,str hU,str dS],(0,0),Y,⟨_,E _ _ jp⟩,Y⟩) (by simp[sD]))) (.cons .here .nil) Y (fun _ _=>eI _ _) ?_ ?_
      · rintro _ _ _ a c;obtain⟨e,p,hl,fb,h,rfl⟩:=eJ a;cases h
        refine aV (.cons .here (.cons (.there .here) (.cons (.there .here) .nil))) ?_;refine Z6 ?_;exact n4 Y Y (x5 G (x5 O (x5 E c))) v (by simp only[L,reqF,i8,if_pos I,Q,hl])
      rintro jj K _ a -;obtain⟨l,hl,rfl,rfl⟩:=eK a;clear a;have jh:=nN H hl;have jx:=vT H hl;refine uAb ?_;refine Z4 ?_;refine l5 (fun(i:Nat) (ms:List (List UInt8)) (sw:Value)=>i<=l.1.length/\ms=iW A (l.1.take i)/\ms.length<=A.length+i) (fun i _ _=>[(2,ptr b2),(3,ptr b3),(4,ptr P),(45,jj),(46,i64 l.1.length),(47,i64 i)]) (fun _ _ _=>_) (fun i ms sw=>[sl false (aZ 9) jj l.1,psb P s l.2 [sw,.slice none 0 0,.map (some cb),.map (some tb)],sl false (aZ 9) sw ms,pt b3 (bK [.nilIface] 79),pt b2 (bK [.pointer none] 87)]) (fun i _ _=>l.1.length-i) 0 A sv ⟨xAA _,Y,xAG _⟩ (.cons 2 Y (.cons 3 Y (.cons 4 Y (.cons 45 Y (.cons 46 Y (.cons 47 Y .nil)))))) Y (fun _ h=>h) ?_;intro i ms sw ⟨jw,jf,jz⟩;refine Z6 ?_;refine aX 48 Y (fun jl=>?_) (fun jl=>?_)
      · have W:i<l.1.length:=aH;obtain⟨e,he⟩:∃e,l.1[i]?=some e:=⟨l.1[i]'W,x4 W⟩;refine Z6 ?_;refine aA (aW (k:=(aZ 9)) b0 Y aL Y Y (by first|assumption|omega)) Y ?_;refine uAe ?_;refine Z9 ?_;refine bA Y Y (Io P e ms _ 208 sw _ [psb P s l.2 [sw,.slice none 0 0,.map (some cb),.map (some tb)],sl false (aZ 9) sw ms] (.own .here) Y (.own (.there .here)) (by have:=vY s r2;omega)) (.cons (.there .here) (.cons (.there .here) .nil)) Y ?_;rintro _ K _ ⟨rfl,rfl,rfl⟩ -;refine aA (by first|exact dW Y|exact eB Y) Y ?_;refine Z2 ?_;refine dZ 56 Y (fun jc=>?_) (fun jc=>?_)
        · refine Z8 ?_;refine cG (bJ (z0:=[(str [])]) b0 tz9 Y Y Y Y (.cons Y Y Y (.cons .nil) .nil)) Y ?_;rintro _ K _ ⟨jv,rfl,rfl,rfl⟩ -;refine cG (dJ (k:=(aZ 9)) (ys:=[e]) eE Y Y (.there (.there .here)) (fun w j=>dC xAC (SeesSl.at (.blk (.own .here) Y Y) j)) (by simp;omega) (by first|(simp;omega)|omega)) Y ?_;rintro qb K _ ⟨rfl,rfl,ju⟩ -;refine Z3 ?_;refine cA (bW eL Y Y cR bP (.succ (.succ (.succ (.succ (.succ (.succ .zero)))))) Y) ?_;rintro _ K _ ⟨rfl,rfl⟩ -;refine Z7 ?_
          (refine aV (.cons (.there (.there (.there .here))) (.cons (.there (.there .here)) (.cons .here (.cons (.there .here) (.cons (.there .here) .nil))))) ?_
           refine gJ (i+1) (ms++[e]) _ ⟨aH,by rw[pJ he,<-jf];unfold addN;rw[x6 (by simpa using jc)],by simp;omega⟩ aH (.cons 2 Y (.cons 3 Y (.cons 4 Y (.cons 45 Y (.cons 46 Y (.cons 47 Y .nil)))))) Y a7)
        refine Z7 ?_
        (refine aV (.cons (.there (.there .here)) (.cons .here (.cons .here (.cons .here (.cons .here .nil))))) ?_
         refine gJ (i+1) ms _ ⟨aH,by rw[pJ he,<-jf];unfold addN;rw[x7 (by simpa using jc)],aH⟩ aH (.cons 2 Y (.cons 3 Y (.cons 4 Y (.cons 45 Y (.cons 46 Y (.cons 47 Y .nil)))))) Y a7)
      have ji:ms=iW A l.1:=(by rw[jf,zS aH]);subst ji;refine Z7 ?_;refine dB Y Y (mQ P s l.2 _ [59] _ v jh.1.1 (hg.mono (x5 G (x5 O E)))) (.cons (.there .here) .nil) Y (fun _ _=>eI _ _) ?_ ?_
      · rintro _ _ _ a c;obtain⟨e,p,S,fb,h,rfl⟩:=eJ a;cases h
        refine aV (.cons .here (.cons (.there (.there .here)) (.cons (.there (.there .here)) .nil))) ?_;refine Z4 ?_;exact n4 Y Y (x5 G (x5 O (x5 E c))) v (by simp only[L,reqF,i8,if_pos I,Q,hl,S])
      rintro _ K _ a -;obtain⟨q4,S,rfl,rfl,rfl⟩:=eK a;clear a;refine Z2 ?_;obtain⟨f0,rfl⟩:∃f0,f=f0+1:=⟨f-1,aH⟩;have js:=jB jh.1 S;refine aV (.cons (.there (.there .here)) (.cons .here (.cons (.there .here) (.cons (.there .here) .nil)))) ?_;refine vC (x5 O E) ?_;refine gJ q4 (iW A l.1) _ ⟨js.1,aH,f0,aH,?_⟩ aH (.cons 2 Y (.cons 3 Y (.cons 4 Y .nil))) Y a7
      simp only[L,reqF,i8,if_pos I,Q,hl,S]
    have I:¬(b.2.kind=1/\b.2.s=mG):=(fun h=>jb h.2);refine Z7 ?_;refine fS fun K5 M hN=>?_;have d:=x5 G M;refine Z2 ?_;refine dB Y Y (BL P s sv _ cb tb A _ ⟨⟨v,hg.mono d,hN,aH⟩,ja.mono M⟩ b t) (.cons .here .nil) Y (fun _ _=>eI _ _) ?_ ?_
    · rintro _ _ _ a c;obtain⟨e,p,q,fb,h,rfl⟩:=eJ a;cases h
      refine aV (.cons .here (.cons .here (.cons .here .nil))) ?_;refine aT ?_;exact n4 Y Y (x5 d c) v (by simp only[L,reqF,i8,if_neg I,q])
    rintro _ K6 _ a u;obtain⟨N,q,⟨ys,C,je,rfl⟩⟩:=eK a;clear a;refine fS fun K7 B hS=>?_;obtain⟨sa,sn,sc,rfl⟩:=hS.isSlice;have z:=x5 d (x5 u B);refine Z3 ?_;refine cA (bW Eu Y Y cR bP (.succ (.succ (.succ (.succ (.succ (.succ (.succ .zero))))))) Y) ?_;rintro _ K _ ⟨rfl,rfl⟩ -;refine ZE ?_;refine aX 84 Y (fun jd=>?_) (fun jd=>?_)
    · have y:¬N.2.2.kind=0:=aH;refine Z2 ?_;refine dB Y Y (lD P s N.2 _ _) (.cons .here .nil) Y (by rintro _ _ ⟨_,h,_⟩;cases h) ?_ ?_
      · rintro _ _ _ ⟨fb,h,rfl⟩ c;cases h
        refine aV (.cons .here (.cons .here (.cons .here .nil))) ?_;refine aT ?_;exact n4 Y Y (x5 z c) v (by simp only[L,reqF,i8,if_neg I,q,if_neg y])
      rintro _ _ _ ⟨_,h,_⟩;cases h
    have y:N.2.2.kind=0:=aH;refine Z7 ?_;refine cA (bW H3 Y Y cR bP .zero Y) ?_;rintro _ K _ ⟨rfl,rfl⟩ -;refine cA (bW AN Y Y cR bP .zero Y) ?_;rintro _ K _ ⟨rfl,rfl⟩ -;refine Z3 ?_;refine fC fun K8 g hP=>?_;refine F7 (r:=(A,N.1)) Y Y (x5 z g) v ?_ ⟨_,_,_,ys,_,hP,Y,Y,hN.mono (x5 u (x5 B g)),hS.mono g,C.mono (x5 B g),je⟩
    simp only[L,reqF,i8,if_neg I,q,if_pos y]
  have I:¬(b.2.kind=1/\b.2.s=mG):=(fun h=>by omega);refine ZI ?_;refine fS fun K5 M hN=>?_;have d:=x5 G M;refine Z2 ?_;refine dB Y Y (BL P s sv _ cb tb A _ ⟨⟨v,hg.mono d,hN,aH⟩,ja.mono M⟩ b t) (.cons .here .nil) Y (fun _ _=>eI _ _) ?_ ?_
  · rintro _ _ _ a c;obtain⟨e,p,q,fb,h,rfl⟩:=eJ a;cases h
    refine aV (.cons .here (.cons .here (.cons .here .nil))) ?_;refine aT ?_;exact n4 Y Y (x5 d c) v (by simp only[L,reqF,i8,if_neg I,q])
  rintro _ K6 _ a u;obtain⟨N,q,⟨ys,C,je,rfl⟩⟩:=eK a;clear a;refine fS fun K7 B hS=>?_;obtain⟨sa,sn,sc,rfl⟩:=hS.isSlice;have z:=x5 d (x5 u B);refine Z3 ?_;refine cA (bW Eu Y Y cR bP (.succ (.succ (.succ (.succ (.succ (.succ (.succ .zero))))))) Y) ?_;rintro _ K _ ⟨rfl,rfl⟩ -;refine ZE ?_;refine aX 84 Y (fun jd=>?_) (fun jd=>?_)
  · have y:¬N.2.2.kind=0:=aH;refine Z2 ?_;refine dB Y Y (lD P s N.2 _ _) (.cons .here .nil) Y (by rintro _ _ ⟨_,h,_⟩;cases h) ?_ ?_
    · rintro _ _ _ ⟨fb,h,rfl⟩ c;cases h
      refine aV (.cons .here (.cons .here (.cons .here .nil))) ?_;refine aT ?_;exact n4 Y Y (x5 z c) v (by simp only[L,reqF,i8,if_neg I,q,if_neg y])
    rintro _ _ _ ⟨_,h,_⟩;cases h
  have y:N.2.2.kind=0:=aH;refine Z7 ?_;refine cA (bW H3 Y Y cR bP .zero Y) ?_;rintro _ K _ ⟨rfl,rfl⟩ -;refine cA (bW AN Y Y cR bP .zero Y) ?_;rintro _ K _ ⟨rfl,rfl⟩ -;refine Z3 ?_;refine fC fun K8 g hP=>?_;refine F7 (r:=(A,N.1)) Y Y (x5 z g) v ?_ ⟨_,_,_,ys,_,hP,Y,Y,hN.mono (x5 u (x5 B g)),hS.mono g,C.mono (x5 B g),je⟩
  simp only[L,reqF,i8,if_neg I,q,if_pos y]
end
end Go.Proofs
end
end
section
namespace Go.SL.R
def Yl(P:Program)(l:Nat)(vs:List Value)(K:Hl)(L:List Asn)(R:Bool->Hl->List Asn->Prop):Prop:=
 ∀F w,In w F K L w->∃fn tmps assign body,(Instr.yield l vs.toArray).run P w=.ok (.round l fn tmps assign body) w/\
  RoundIn Fence.wide 0 P l fn tmps assign body w fun e x=>∃b a g,e=.returned (.bool b)/\R b a g/\K.le a/\In w F a g x
def dl_round{E:Env}{f:Array Oper}{eff stg:List Nat}{S:List Asn}{r:List Nat}{t:Fr}{K:Hl}{M:List Asn}{Q:Post}{i:Nat}{d:Nat}{ty:TypeId}{pos:String}{aft:Array Edge}{g:Option (Nat×Bool)}{v:Operand}{xs:List Operand}{p:Array TypeId}{l:Nat}{vs:List Value}{L1 B:List Asn}{R:Bool->Hl->List Asn->Prop}
  (L:f[i]?=some ⟨some d,.call ⟨.value v,xs.toArray,p⟩,ty,pos,aft,g⟩) (H:GOk f t ⟨some d,.call ⟨.value v,xs.toArray,p⟩,ty,pos,aft,g⟩ true) (C:stg.contains i=true)
  (G:t.ev v=some (.func (.yield l) #[] #[])) (P:t.evs xs=some vs) (O:Yl E.P l vs K L1 R) (A:Tks L1 (S++M) B) (I:Nat.blt d E.n=true)
  (h:∀b c L',R b c L'->K.le c->DL E f eff stg (L'++B) r ((d,.bool b)::t) c [] Q):DL E f eff stg S (i::r) t K M Q:=by
 intro a u;unfold DX;simp only[L,H.wanted u,if_true,C];intro w j;obtain⟨F,i1,s⟩:=(j.imp A.sat).hide;obtain⟨fn,tm,x,y,W,N⟩:=O F w i1;refine .inr (.inr (.inr ⟨l,fn,tm,x,y,w,?_,N.mono fun e w' ⟨b,c,L',q1,q,le,j'⟩=>?_⟩))
 ·have z:Array.map a.eval xs.toArray=vs.toArray:=by simp[u.evs P]
  simp only[execOp,resolve,z,u.ev G,Deferred.ofValue,bind,pure,Sem.bind,invoke,Array.empty_append];exact W
 subst q1;exact⟨c,L'++B,[],le,by simpa using s j',h b c L' q le _ (u.put I _)⟩
end Go.SL.R
end
section
namespace Go.SL
open R (Yl)
abbrev mrk(D:Nat):Deferred:={target:=.collected D,args:= #[]}
abbrev dblk(D:Nat):Asn:=pt D (.deferred (some []))
def W0(P:Program)(fn:Func)(w0:World)(F K0:Hl)(R:Ending->Hl->List Asn->Prop):Post:=
 bodyPostM Fence.wide 0 P fn fun e x=>∃K g,R e K g/\K0.le K/\In w0 F K g x
def Jo{P:Program}{f:FuncId}{fn:Func}{c:Code}{args:List Value}{n:Nat}{K:Hl}{L:List Asn}{R:Ending->Hl->List Asn->Prop}
  (d:P.funcs[f]?=some fn) (r:fn.body=some c) (u:fn.ntmps=n) (g:Nat.ble args.length n=true) (a:(fn.name== "runtime.NumGoroutine")=false)
  (h:∀(F:Hl) (w:World),T ⟨P,n,[],w,F⟩ c (Fr.init 0 args n) K L (W0 P fn w F K R)):Sp P f args K L R:=by
 refine⟨⟨fn,d,a,by simp[r]⟩,fun F w i=>callsIn_wide.1 (callsIn_of_wp_marks (n:=0) d r trivial (wpIn_wide.2 (h F w _ _ ⟨Y,?_,?_⟩ i)))⟩
 ·exact gFC
 intro k v e;obtain⟨_,b⟩:=vS e;have j:k<args.length:=by
  rcases xAD k args.length with h|h
  ·exact h
  simp[List.getElem?_eq_none h]at b
 show (args.toArray++Array.replicate _ _)[k]?=some v
 rw[Array.getElem?_append_left (by simpa using j)]
 simpa using b
def M9{P:Program}{fn:Func}{tmps:Array Value}{R:Ending->World->Prop}{u:FrameMode}(C:u≠.run){w0:World}{F K:Hl}{L:List Asn}(fin:∀w',In w0 F K L w'->LeavesIn Fence.wide 0 P fn tmps R [] u w'):
  ∀(ds:List Nat) (w:World),In w0 F K (ds.map dblk++L) w->LeavesInM Fence.wide 0 P fn tmps R (ds.map mrk) u w
 | [],w,i=>fin w i
 |d::ds,w,i=>by
  have hp:=i.piece;refine⟨C,.inl ⟨d,_,Y,run_takeDeferred hp,M9 C fin ds _ ?_⟩⟩
  have G:d<w.heap.size:=(xBR.1 hp).1;exact(i.write (o':=.deferred none) (H:=w.heap.setIfInBounds d (.deferred none)) cD (by simp[G]) (fun x a=>by rw[xBL (Ne.symm a)])).drop
section
variable{P:Program}{fn:Func}{n:Nat}{w0:World}{F K0 K:Hl}{fr:Fr}{L:List Asn}{R:Ending->Hl->List Asn->Prop}
def Gy{t:Nat}{v:Value}{g:List Asn}(ds:List Nat)(c:fn.results= #[.tmp t])(I:fr.get t=some v)(b:∀h,Sat g h->Sat (ds.map dblk++L) h)(le:K0.le K)(h:R (.returned v) K L):
  D ⟨P,n,ds.map mrk,w0,F⟩ .ret fr K g (W0 P fn w0 F K0 R):=fun a w f i=>by
 show LeavesInM Fence.wide 0 P fn a.tmps _ a.defers .returning w
 rw[f.defers];refine M9 cD (fun x j=>?_) ds w (i.imp b)
 exact⟨v,by rw[results_tmp c];simp[f.get _ _ I],K,L,h,le,j⟩
end
section
variable{E:Env}{fr:Fr}{K:Hl}{L L1 L2:List Asn}{Q:Post}
abbrev Env.mark(E:Env)(D:Nat):Env:=⟨E.P,E.n,mrk D::E.ds,E.w0,E.F⟩
def MP{g:Operand}{ps:Array Tmp}{assign body:Code}{f:FuncId}{b:Array Value}{RR:Loop->Nat->Nat->Ending->Hl->List Asn->Prop}(hg:fr.ev g=some (.func (.func f) #[] b))(hL:Tks L1 L L2)
  (hs : ∀ (r:Loop) (l d:Nat),r.state = .ready -> r.pending=none -> r.params=ps -> r.assign=assign -> r.body=body -> r.tmps.size=E.n -> (∀ k v,fr.get k=some v -> r.tmps[k]? = some v) ->
   Sp E.P f (.func (.yield l) #[] #[]::b.toList) K (pt l (.loop r)::dblk d::L1) (RR r l d))
  (C : ∀ r l d e t L',RR r l d e t L' -> K.le t -> ∃ v p M,e = .returned v /\ (∀ h,Sat L' h -> Sat (pt l (.loop p) :: M) h) /\ p.state ≠ .busy /\
   match p.pending with
   |none=>D (E.mark d) .normal fr t (M++L2) Q
   |some c=>T (E.mark d) c fr t (M++L2) Q):
  T E (.rangeFunc g ps assign body) fr K L Q:=by
 intro a w z i;refine(wpIn_wide (n:=0)).1 (wpIn_rangeFunc fun fn _=>?_)
 let r:Loop:={state:=.ready,pending:=none,fn,tmps:=a.tmps,params:=ps,assign,body,defers:=w.heap.size}
 have i3:=(i.alloc (.deferred (some []))).alloc (.loop r);have P:({w with heap:=w.heap.push (.deferred (some []))}:World).heap.size=w.heap.size+1:=cD;rw[P]at i3;obtain⟨F',i1,A⟩:=(i3.imp (M:=(pt (w.heap.size+1) (.loop r)::dblk w.heap.size::L1)++L2) (fun h=>fB fun h=>fB fun h k=>hL.sat h k)).hide;have N:=hs r (w.heap.size+1) w.heap.size rfl rfl rfl rfl rfl z.size z.get;obtain⟨⟨fd,g1,g2,g3⟩,u⟩:=N;have ev:∀x:Value,a.eval (.const x)=x:=fun _=>rfl
 refine⟨w.heap.size+1,[mrk w.heap.size],_,{target:=.fn (.func f) b,args:= #[.func (.yield (w.heap.size+1)) #[] #[]]},(w.alloc (.deferred (some []))).alloc (.loop r),f,(.func (.yield (w.heap.size+1)) #[] #[]::b.toList).toArray,(w.alloc (.deferred (some []))).alloc (.loop r),run_enterLoop_outer fn a.tmps ps assign body,?_,fun _ _=>trivial,?_,fun h=>Bool.noConfusion h,callsIn_wide.2 ((u F' _ i1).mono fun e G ⟨t,L',q,le,j⟩=>?_)⟩
 ·simp only[resolve,rangeCall,z.ev hg,Deferred.ofValue,bind,pure,Sem.bind,List.map_toArray,List.map_cons,List.map_nil,ev,Array.empty_append]
  rfl
 ·have e2: #[Value.func (.yield (w.heap.size+1)) #[] #[]]++b=(.func (.yield (w.heap.size+1)) #[] #[]::b.toList).toArray:=cD;simp only[invoke];rw[e2];exact Bc g1 g2 g3 _
 obtain⟨v,p,M,rfl,hM,O,s⟩:=C _ _ _ _ _ _ q le;have j2:In E.w0 E.F t (pt (w.heap.size+1) (.loop p)::(M++L2)) G:=(A j).imp fun h k=>by
  obtain⟨x,y,S,hy,hd,rfl⟩:=eT.1 k;exact eT (L:=pt (w.heap.size+1) (.loop p)::M).2 ⟨x,y,hM _ S,hy,hd,Y⟩
 have hp:=j2.piece;have I:w.heap.size+1<G.heap.size:=(xBR.1 hp).1;have j3:In E.w0 E.F t (M++L2) (G.putObj (w.heap.size+1) (.loop {p with state:=.exhausted})):=
  (j2.write (o':=.loop {p with state:=.exhausted}) (H:=G.heap.setIfInBounds (w.heap.size+1) (.loop {p with state:=.exhausted})) cD (by simp[I]) (fun x S=>by rw[xBL (Ne.symm S)])).drop
 have B:FrOk E.n (mrk w.heap.size::E.ds) fr {a with defers:=[mrk w.heap.size]++a.defers}:=⟨by simp[z.defers],z.size,z.get⟩;refine⟨p.pending,_,run_endLoop hp O,?_⟩
 generalize G.putObj (w.heap.size+1) (.loop {p with state:=.exhausted})=W at j3 ⊢
 cases F:p.pending with
 |none=>rw[F]at s;exact s _ _ B j3
 |some c=>rw[F]at s;exact wpIn_wide.2 (s _ _ B j3)
end
def TR(E:Env)(l:Nat)(c:Code)(fr:Fr)(K:Hl)(L:List Asn)(Q:Post):Prop:=
 ∀a w,FrOk E.n E.ds fr a->In E.w0 E.F K L w->c.wpIn (Fence.wide.inRound l) 0 E.P Q a w
def OR(E:Env)(l:Nat)(ops:Array Oper)(os:List Oper)(fr:Fr)(K:Hl)(L:List Asn)(Q:Post):Prop:=
 ∀a w,FrOk E.n E.ds fr a->In E.w0 E.F K L w->wpListIn (Fence.wide.inRound l) 0 E.P ops Q os a w
section
variable{E:Env}{fr:Fr}{K:Hl}{L:List Asn}{Q:Post}{c x y:Code}{ops:Array Oper}{rest:List Oper}{l:Nat}
def Wj(h:D E .normal fr K L Q):TR E l .skip fr K L Q:=fun a w f i=>wpIn_skip (h a w f i)
def Wi{id:Nat}(h:D E (.exit id) fr K L Q):TR E l (.exit id) fr K L Q:=fun a w f i=>wpIn_exit (h a w f i)
def J7{id:Nat}(h:TR E l c fr K L (Exit.inBlock id Q)):TR E l (.block id c) fr K L Q:=fun a w f i=>wpIn_block (h a w f i)
def Gl{id:Nat}{os:List Oper}(h:OR E l os.toArray os fr K L Q):TR E l (.region id os.toArray false) fr K L Q:=fun a w f i=>wpIn_region_lit (h a w f i)
def Sm(h:D E .normal fr K L Q):OR E l ops [] fr K L Q:=fun a w f i=>wpListIn_nil (h a w f i)
def MB:Op->Bool| .defer _=>false|_=>true
def zK{o:Oper}(h:MB o.op=true):∀c,o.op≠.defer c:=fun c e=>by rw[e]at h;cases h
def Sl{d:Nat}{op:Op}{ty:TypeId}{pos:String}{aft:Array Edge}{v:Value}(hv:Ev E fr K L ⟨some d,op,ty,pos,aft,none⟩ v)(hd:Nat.blt d E.n=true)(q:MB op=true)
  (h:OR E l ops rest ((d,v)::fr) K L Q):OR E l ops (⟨some d,op,ty,pos,aft,none⟩::rest) fr K L Q:=by
 intro a w f i;refine wpListIn_plain Y fun k j=>⟨fun _ _=>trivial,?_⟩
 rw[Oper.semAt_eq _ _ _ (zK q),hv a w f i];exact j _ _ (h _ _ (f.put hd v) i)
def aAE{d:Nat}{op:Op}{ty:TypeId}{pos:String}{aft:Array Edge}{N:Value->Hl->List Asn->Prop}(hv:EfS E fr K L ⟨some d,op,ty,pos,aft,none⟩ N)(hd:Nat.blt d E.n=true)(q:MB op=true)
  (h:∀v c L',N v c L'->K.le c->OR E l ops rest ((d,v)::fr) c L' Q):OR E l ops (⟨some d,op,ty,pos,aft,none⟩::rest) fr K L Q:=by
 intro a w f i;refine wpListIn_plain Y fun k e=>⟨fun _ _=>trivial,?_⟩
 rw[Oper.semAt_eq _ _ _ (zK q)];obtain⟨u,x,c,L',b,g,le,j⟩:=hv a w f i;rcases b with b|⟨b,rfl⟩
 ·rw[b];exact e _ _ (h _ _ _ g le _ _ (f.put hd u) j)
 rw[b];exact e _ _ (h _ _ _ g le _ _ (f.put hd _) j)
def aAF{op:Op}{ty:TypeId}{pos:String}{aft:Array Edge}{N:Value->Hl->List Asn->Prop}(hv:EfS E fr K L ⟨none,op,ty,pos,aft,none⟩ N)(q:MB op=true)
  (h:∀v c L',N v c L'->K.le c->OR E l ops rest fr c L' Q):OR E l ops (⟨none,op,ty,pos,aft,none⟩::rest) fr K L Q:=by
 intro a w f i;refine wpListIn_plain Y fun k d=>⟨fun _ _=>trivial,?_⟩
 rw[Oper.semAt_eq _ _ _ (zK q)];obtain⟨u,x,c,L',b,g,le,j⟩:=hv a w f i;rcases b with b|⟨b,rfl⟩
 ·rw[b];exact d _ _ (h _ _ _ g le _ _ f j)
 rw[b];exact d _ _ (h _ _ _ g le _ _ f j)
end
end Go.SL
namespace Go.Loop
abbrev bz(r:Loop):Loop:={r with state:=.busy}
abbrev on(r:Loop):Loop:={r with state:=.ready,pending:=none}
abbrev off(r:Loop)(c:Code):Loop:={r with state:=.done,pending:=some c}
end Go.Loop
namespace Go.SL
open R (Yl)
def YA(P:Program)(l:Nat)(r:Loop)(w0:World)(F K0:Hl)(R:Bool->Hl->List Asn->Prop):Post
 | .normal,_,w=>∃K M,In w0 F K (pt l (.loop r.bz)::M) w/\K0.le K/\R true K (pt l (.loop r.on)::M)
 | .exit id,_,w=>∃K M,In w0 F K (pt l (.loop r.bz)::M) w/\K0.le K/\R false K (pt l (.loop (r.off (.exit id)))::M)
 |_,_,_=>False
def Xh{P:Program}{l p n:Nat}{r:Loop}{v:Value}{d fr1:Fr}{K:Hl}{L:List Asn}{R:Bool->Hl->List Asn->Prop}(hr:r.state=.ready)(hp:r.params= #[p])(E:Nat.blt p n=true)(A:r.tmps.size=n)
  (y:∀k v,d.get k=some v->r.tmps[k]?=some v)
  (hA:∀(F:Hl) (w:World) (Q:Post),D ⟨P,n,[],w,F⟩ .normal fr1 K (pt l (.loop r)::L) Q->TR ⟨P,n,[],w,F⟩ l r.assign ((p,v)::d) K (pt l (.loop r)::L) Q)
  (hB:∀(F:Hl) (w:World),TR ⟨P,n,[],w,F⟩ l r.body fr1 K (pt l (.loop r.bz)::L) (YA P l r w F K R)):Yl P l [v] K (pt l (.loop r)::L) R:=by
 intro F w i;have hc:=i.piece;refine⟨r.fn,_,r.assign,r.body,run_yield hc (by simp[hp]),roundIn_of_wpIn trivial ?_⟩
 have W:FrOk n [] ((p,v)::d) {tmps:=r.tmps.setIfInBounds p v,defers:=[]}:=FrOk.put (a:={tmps:=r.tmps,defers:=[]}) ⟨rfl,A,y⟩ E v;have O:(r.params.zip [v].toArray).foldl (fun tmps (t,a)=>tmps.setIfInBounds t a) r.tmps=r.tmps.setIfInBounds p v:=by simp[hp]
 rw[O];refine hA F w _ (fun a₁ I f₁ j=>?_) _ _ W i
 have g:=j.piece;refine⟨_,run_beginRound g hr,?_⟩
 have G:l<I.heap.size:=(xBR.1 g).1;have j2:In w F K (pt l (.loop r.bz)::L) (I.putObj l (.loop r.bz)):=
  j.write (o':=.loop r.bz) (H:=I.heap.setIfInBounds l (.loop r.bz)) cD (by simp[G]) (fun x B=>by rw[xBL (Ne.symm B)])
 refine wpIn_mono (hB F w _ _ f₁ j2) fun e a u q=>?_;have fin:∀(jump:Option Code) (c:Hl) (M:List Asn) (C:Loop),In w F c (pt l (.loop r.bz)::M) u->K.le c->C={r.bz with state:=if jump.isNone then .ready else .done,pending:=jump}->R jump.isNone c (pt l (.loop C)::M)->
   ∃v h,(Instr.endRound l jump).run P u=.ok v h/\∃b c N,Ending.returned v=.returned (.bool b)/\R b c N/\K.le c/\In w F c N h:=by
  intro jump c M C j le S f;have z:=j.piece;have s:l<u.heap.size:=(xBR.1 z).1;refine⟨_,_,run_endRound jump z,jump.isNone,c,_,Y,f,le,?_⟩
  subst S;exact j.write (H:=u.heap.setIfInBounds l _) cD (by simp[s]) (fun x B=>by rw[xBL (Ne.symm B)])
 cases e with
 |normal=>obtain⟨c,M,j,le,f⟩:=q;exact fin none c M _ j le Y f
 |exit id=>obtain⟨c,M,j,le,f⟩:=q;exact fin (some (.exit id)) c M _ j le Y f
 |goto t=>exact q.elim
 |ret=>exact q.elim
 |panic ch=>exact q.elim
 |outgrown=>exact q.elim
def Un{P:Program}{l:Nat}{vs:List Value}{K:Hl}{L L':List Asn}{R:Bool->Hl->List Asn->Prop}(k:∀h,Sat L h->Sat L' h)(h:Yl P l vs K L' R):Yl P l vs K L R:=
 fun F w i=>h F w (i.imp k)
def Nj{P:Program}{l:Nat}{vs:List Value}{K:Hl}{L:List Asn}{R d:Bool->Hl->List Asn->Prop}(h:Yl P l vs K L R)(k:∀b c L',R b c L'->∃a,(∀h,Sat L' h->Sat a h)/\d b c a):Yl P l vs K L d:=by
 intro F w i;obtain⟨fn,t,x,y,e,f⟩:=h F w i;refine⟨fn,t,x,y,e,f.mono fun A q ⟨b,c,L',M,r,le,j⟩=>?_⟩
 obtain⟨a,g,p⟩:=k _ _ _ r;exact⟨b,c,a,M,p,le,j.imp g⟩
def aAC{r:Loop}(h:r.state=.ready)(b:r.pending=none):r.on=r:=by cases r;simp_all
def AD{A B:List Asn}{h:Hl}(k:Sat (A++B) h):Sat (B++A) h:=by
 obtain⟨a,b,s,r,hd,rfl⟩:=eT.1 k;exact gH2
section
variable{E:Env}{fr:Fr}{K:Hl}{L:List Asn}{Q:Post}{c:Code}
def Hr(h:T E c fr K L (Exit.noGoto Q)):T E (.scope c) fr K L Q:=fun a w f i=>wp_scope_straight (h a w f i)
def pS(h:D E .ret fr K L Q):D E .ret fr K L (Exit.noGoto Q):=h
def VT{ι:Type}(I:ι->Prop)(g:ι->List Deferred)(fr':ι->Fr)(v:ι->Hl)(L':ι->List Asn)(μ:ι->Nat)(q:ι)(P:I q)(hd:g q=E.ds)(k:Kp fr (fr' q))(S:v q=K)(W:∀h,Sat L h->Sat (L' q) h)
  (s:∀i,I i->T ⟨E.P,E.n,g i,E.w0,E.F⟩ c (fr' i) (v i) (L' i) (Exit.then (fun a w=>∃j,I j/\μ j<μ i/\FrOk E.n (g j) (fr' j) a/\In E.w0 E.F (v j) (L' j) w) Q)):T E (.loop c) fr K L Q:=by
 intro a w f i b kk cs;have C:∀n j,μ j=n->I j->∀a w,FrOk E.n (g j) (fr' j) a->In E.w0 E.F (v j) (L' j) w->
   ∃e O y,Q e O y/\Arrives E.P (lone (b.at a (.code c::.inLoop c::kk)) cs w) b kk cs e O y:=by
  intro n;induction n using Nat.strongRecOn with
  |_ n ih=>
   intro j hj A a w f i;obtain⟨e,t,u,p,d⟩:=s j A a w f i b (.inLoop c::kk) cs;cases e with
   |normal=>
    obtain⟨j',z,G,M,i'⟩:=p;obtain⟨H,F,w₂,B,r⟩:=ih _ (hj▸G) j' rfl z _ _ M i';exact⟨H,F,w₂,B,.of_steps (Steps.trans d (.one step_inLoop)) r⟩
   |exit id=>exact⟨_,t,u,p,.pass (x:=.inLoop c) Y (fun _ _=>.inl cD) d⟩
   |goto l=>exact⟨_,t,u,p,.pass (x:=.inLoop c) Y (fun _ _=>.inl cD) d⟩
   |ret=>exact⟨_,t,u,p,.pass (x:=.inLoop c) Y (fun _ _=>.inl cD) d⟩
   |panic ch=>exact⟨_,t,u,p,.pass (x:=.inLoop c) Y (fun _ _=>.inl cD) d⟩
   |outgrown=>exact⟨_,t,u,p,.pass (x:=.inLoop c) Y (fun _ _=>.inl cD) d⟩
 have N:FrOk E.n (g q) (fr' q) a:=by rw[hd];exact f.keep k
 obtain⟨e,O,y,p,d⟩:=C _ q rfl P a w N (by rw[S];exact i.imp W);exact⟨e,O,y,p,.of_steps (.one step_loop) d⟩
def QR{ι:Type}{P:Program}{n:Nat}{ds:List Deferred}{w0:World}{F:Hl}{I:ι->Prop}{b:ι->List Deferred}{fr':ι->Fr}{c:ι->Hl}{L':ι->List Asn}{μ:ι->Nat}{m:Nat}(j:ι)(E:I j)(G:μ j<m)(hd:b j=ds)(k:Kp fr (fr' j))(t:c j=K)(v:∀h,Sat L h->Sat (L' j) h):
  D ⟨P,n,ds,w0,F⟩ .normal fr K L (Exit.then (fun a w=>∃j,I j/\μ j<m/\FrOk n (b j) (fr' j) a/\In w0 F (c j) (L' j) w) Q):=
 fun a w f i=>⟨j,E,G,by rw[hd];exact f.keep k,by rw[t];exact i.imp v⟩
end
end Go.SL
end
section
namespace Go.SL
open Go.MapKept
abbrev keyA(i j:Nat):Value:=.agg #[i64 i,i64 j]
abbrev EntA:=(Nat×Nat)×Nat
def entA(p:EntA):MapEntry:={key:=keyA p.1.1 p.1.2,val:=i64 1,born:=p.2}
abbrev mapA(es:List EntA)(c:Nat):Obj:=.map (es.map entA).toArray c
structure KeyA (P:Program) (kt:TypeId):Prop where
 arr:∃e,P.underlying kt=some (.array 2 e)/\P.underlying e=some (.int .i64)/\P.plainKey e=true/\P.cellsOf e=1/\∃i,P.info? e=some i
section
variable{P:Program}{w:World}{kt:TypeId}
def eqA(h:KeyA P kt)(a b c d:Nat):(Op.equal kt (keyA a b) (keyA c d)).run P w=.ok (decide ((a,b)=(c,d))) w:=by
 obtain⟨e,g,f,l,z,i,F⟩:=h.arr
 show (Op.equalIn (9999+1) kt _ _).run P w=_
 rw[run_equalIn_array w 9999 _ _ g F,z];have p:∀(x y:Nat) (o:Nat) (v:Value),(#[i64 x,i64 y]:Array Value)[o]?=some v->(part e #[i64 x,i64 y] o).run P w=.ok v w:=fun x y o v h=>run_part_plain w l h
 have q:∀(x y:Nat),(Op.equalIn 9999 e (i64 x) (i64 y)).run P w=.ok ((x:Int)==y) w:=fun x y=>run_equalIn_int w 9998 e .i64 .i64 x y f
 show (Op.eqItems 9999 e 1 _ _ [0,1]).run P w=_
 unfold Op.eqItems;rw[bH (p a b 0 (i64 a) rfl),bH (p c d 0 (i64 c) rfl),bH (q a c)]
 by_cases h:a=c
 ·subst h;rw[x6 cD];unfold Op.eqItems;rw[bH (p a b 1 (i64 b) rfl),bH (p a d 1 (i64 d) rfl),bH (q b d)]
  by_cases f:b=d
  ·subst f;simp[Op.eqItems,pure,Sem.run]
  rw[x7 gAG];simp[f,pure,Sem.run]
 rw[x7 gAG];simp[h,pure,Sem.run]
def QA(h:KeyA P kt)(b:Bool)(i j:Nat):(Instr.checkKey b 10000 kt (keyA i j)).run P w=.ok () w:=by
 obtain⟨e,a,f,l,z,g,F⟩:=h.arr;have p:∀(o:Nat) (v:Value),(#[i64 i,i64 j]:Array Value)[o]?=some v->(part e #[i64 i,i64 j] o).run P w=.ok v w:=fun o v h=>run_part_plain w l h
 have c:∀(n:Nat),(Instr.checkKey b 9999 e (i64 n)).run P w=.ok () w:=fun n=>run_checkKey f (d:=.int .i64) (k:=i64 n) (by trivial) b 9998
 have s:(sizeOf e).run P w=.ok 1 w:=by rw[run_sizeOf w F,z]
 show (Instr.checkKey b (9999+1) kt _).run P w=_
 unfold Instr.checkKey;rw[bH (run_underlying a w)];simp only[Std.Legacy.Range.forIn_eq_forIn_range',Std.Legacy.Range.size];simp[List.range'_succ,Sem.run_bind,s,Result.andThen,p 0 (i64 i) rfl,p 1 (i64 j) rfl,c]
def u9(k:Nat×Nat):List EntA->Nat->Option (Nat×Value)
 | [],_=>none
 |e::es,i=>if k=e.1 then some (i,i64 1)else u9 k es (i+1)
def aBY(h:KeyA P kt)(k:Nat×Nat):∀(es:List EntA) (i:Nat),(Instr.findAsking kt (keyA k.1 k.2) (es.map entA) i).run P w=.ok (u9 k es i) w:=by
 intro es;induction es with
 |nil=>intro i;rfl
 |cons e es a=>
  intro i
  show (Instr.findAsking kt (keyA k.1 k.2) (entA e::es.map entA) i).run P w=_
  unfold Instr.findAsking u9;rw[show (entA e).key=keyA e.1.1 e.1.2 from rfl,bH (eqA h k.1 k.2 e.1.1 e.1.2)]
  by_cases j:k=e.1
  ·rw[x7 (xAO (show (k.1,k.2)=(e.1.1,e.1.2)from j)),x7 j];rfl
  rw[x6 (fun h=>j (xAX h)),x6 j];exact a _
def W4(h:KeyA P kt)(k:Nat×Nat)(es:List EntA):(Instr.findKey kt (keyA k.1 k.2) (es.map entA)).run P w=.ok (u9 k es 0) w:=by
 obtain⟨e,a,_⟩:=h.arr;unfold Instr.findKey;rw[bH (run_underlying a w)];cases es with
 |nil=>rfl
 |cons x b=>exact aBY h k (x::b) 0
def EY(k:Nat×Nat):∀(es:List EntA) (i:Nat),(u9 k es i).isSome=decide (k∈es.map (·.1)):=by
 intro es;induction es with
 |nil=>intro i;simp[u9]
 |cons e es w=>
  intro i;unfold u9
  by_cases j:k=e.1
  ·simp[j]
  rw[x6 j,w];simp[j]
end
section
variable{E:Env}{fr:Fr}{K:Hl}{L L':List Asn}{Q:Post}{dst:Option Tmp}{ty:TypeId}{pos:String}{aft:Array Edge}{g:Option (Nat×Bool)}{x y m:Operand}{t kt et b c i j:Nat}{v z:Value}{es:List EntA}
def Ku(B:E.P.underlying t=some (.map kt et))(s:KeyA E.P kt)(N:gX E.P et=some z)(H:fr.ev x=some (.map (some b)))(I:fr.ev y=some (keyA i j))(G:Sees K L b (mapA es c)):
  Ev E fr K L ⟨dst,.lookup t x y true,ty,pos,aft,g⟩ (.tuple #[if (i,j)∈es.map (·.1)then i64 1 else z,.bool (decide ((i,j)∈es.map (·.1)))]):=fun a w f q=>by
 simp only[execOp,f.ev H,f.ev I];refine fI ?_;have C:=G.at q;have u:(Instr.checkKey (es.map entA).toArray.isEmpty 10000 kt (keyA i j)).run E.P w=.ok () w:=QA s _ i j;have v:(Instr.findKey kt (keyA i j) (es.map entA)).run E.P w=_:=W4 (w:=w) s (i,j) es;have A:(zeroValue et).run E.P w=.ok z w:=by
  unfold gX at N;cases r:E.P.info? et with
  |none=>simp[r]at N
  |some O=>simp[r]at N;simp only[zeroValue,typeInfo,program,bind,Sem.bind,pure,Sem.run,r,N]
 have d:=EY (i,j) es 0;have F:∀(es:List EntA) (o:Nat) (p:Nat×Value),u9 (i,j) es o=some p->p.2=i64 1:=by
  intro es;induction es with
  |nil=>intro o p h;cases h
  |cons e es M=>
   intro o p h;unfold u9 at h;split at h
   ·cases h;rfl
   exact M _ _ h
 unfold Instr.lookup;rw[bH (run_underlying B w)];simp only[]
 show ((getObj b)>>=fun _=>_).run E.P w=_
 rw[bH (MapKept.run_getObj_map C)];simp only[];rw[bH (tM _ _),bH u]
 show ((Instr.findKey kt (keyA i j) (es.map entA))>>=fun _=>_).run E.P w=_
 rw[bH v];cases l:u9 (i,j) es 0 with
 |some p=>
  rw[l]at d;have B:(i,j)∈es.map (·.1):=by simpa using d.symm
  rw[x7 B,xAO B,<-F es 0 p l];rfl
 |none=>
  rw[l]at d;have B:¬(i,j)∈es.map (·.1):=by simpa using d.symm
  rw[x6 B,xAQ B]
  show ((zeroValue et)>>=fun _=>_).run E.P w=_
  rw[bH A];rfl
def Yf(B:E.P.underlying t=some (.map kt et))(e:KeyA E.P kt)(A:fr.ev m=some (.map (some b)))(C:fr.ev x=some (keyA i j))(hv:fr.ev y=some (i64 1))(v:(i,j)∉es.map (·.1))
  (P:Fnd (pt b (mapA es c)) (pt b (mapA (es++[((i,j),c)]) (c+1))) L L'):EfS E fr K L ⟨dst,.mapUpdate t m x y,ty,pos,aft,g⟩ (fun _ l d=>l=K/\d=L'):=by
 intro a w f q;have r:=q.mem P;have p:(Instr.checkKey false 10000 kt (keyA i j)).run E.P w=.ok () w:=QA e _ i j;have s:(Instr.findKey kt (keyA i j) (es.map entA)).run E.P w=_:=W4 (w:=w) e (i,j) es;have u:u9 (i,j) es 0=none:=by
  have:=EY (i,j) es 0;rw[xAQ v]at this
  exact gF0
 have z:(execOp a.eval ⟨dst,.mapUpdate t m x y,ty,pos,aft,g⟩).run E.P w=.ok .skip {w with heap:=w.heap.setIfInBounds b (mapA (es++[((i,j),c)]) (c+1))}:=by
  simp only[execOp,f.ev A,f.ev C,f.ev hv];have:(Instr.mapUpdate t (.map (some b)) (keyA i j) (i64 1)).run E.P w=.ok () {w with heap:=w.heap.setIfInBounds b (mapA (es++[((i,j),c)]) (c+1))}:=by
   unfold Instr.mapUpdate;rw[bH (run_underlying B w)];simp only[]
   show ((getObj b)>>=fun _=>_).run E.P w=_
   rw[bH (MapKept.run_getObj_map r)];simp only[];rw[bH p]
   show ((Instr.findKey kt (keyA i j) (es.map entA))>>=fun _=>_).run E.P w=_
   rw[bH s,u]
   show (setObj b _).run E.P w=_
   rw[MapKept.run_setObj_map _ r];have M:(es.map entA).toArray.push {key:=keyA i j,val:=i64 1,born:=c}=((es++[((i,j),c)]).map entA).toArray:=by simp[entA]
   rw[M]
  rw[bH this];rfl
 have h:=MapKept.heap_set (o':=mapA (es++[((i,j),c)]) (c+1)) r;exact⟨_,_,_,_,.inr ⟨z,Y⟩,⟨Y,Y⟩,xAB _,q.writeAt P cD h.1 h.2⟩
end
def NN{E:Env}{fr:Fr}{K:Hl}{L:List Asn}{dst:Option Tmp}{ty:TypeId}{pos:String}{aft:Array Edge}{g:Option (Nat×Bool)}{x y:Operand}{t:TypeId}{a b:Int}(r:KeyA E.P t)(N:gX E.P t=some (.agg #[i64 0,i64 0]))(u:fr.ev x=some (i64 a))(v:fr.ev y=some (i64 b)):
  Ev E fr K L ⟨dst,.build t #[(0,x),(1,y)],ty,pos,aft,g⟩ (.agg #[i64 a,i64 b]):=fun i w f j=>by
 obtain⟨e,q,A,B,z,h,F⟩:=r.arr;have d:(zeroValue t).run E.P w=.ok (.agg #[i64 0,i64 0]) w:=by
  unfold gX at N;cases c:E.P.info? t with
  |none=>simp[c]at N
  |some h=>simp[c]at N;simp only[zeroValue,typeInfo,program,bind,Sem.bind,pure,Sem.run,c,N]
 have s:(sizeOf e).run E.P w=.ok 1 w:=by rw[run_sizeOf w F,z]
 simp only[execOp];refine fI ?_;have l:Array.map (fun(p:Nat×Operand)=>(p.1,i.eval p.2)) #[(0,x),(1,y)]= #[(0,i64 a),(1,i64 b)]:=by simp[f.ev u,f.ev v]
 show (Instr.build t (Array.map (fun(p:Nat×Operand)=>(p.1,i.eval p.2)) #[(0,x),(1,y)])).run E.P w=_
 rw[l];unfold Instr.build;rw[bH d,bH (run_underlying q w)];simp only[];rw[bH s]
 rfl
def UD{E:Env}{fr:Fr}{K:Hl}{L L':List Asn}{o:Oper}{N:Value->Hl->List Asn->Prop}(k:∀h,Sat L h->Sat L' h)(h:EfS E fr K L' o N):EfS E fr K L o N:=fun a w f i=>h a w f (i.imp k)
section
variable{E:Env}{c x y:Code}{fr:Fr}{K:Hl}{L:List Asn}{Q:Post}{α1 α2 α3 α4 α5:Type}
def Mid5(E:Env)(I:α1->α2->α3->α4->α5->Prop)(fr:α1->α2->α3->α4->α5->Fr)(K:α1->α2->α3->α4->α5->Hl)(L:α1->α2->α3->α4->α5->List Asn):Act->World->Prop:=fun a w=>∃e c i b d,I e c i b d/\FrOk E.n E.ds (fr e c i b d) a/\In E.w0 E.F (K e c i b d) (L e c i b d) w
def VU(I:α1->α2->α3->α4->α5->Prop)(fr':α1->α2->α3->α4->α5->Fr)(j:α1->α2->α3->α4->α5->Hl)(L':α1->α2->α3->α4->α5->List Asn)(p:T E x fr K L (Exit.then (Mid5 E I fr' j L') Q))(r:∀b c d g h,I b c d g h->T E y (fr' b c d g h) (j b c d g h) (L' b c d g h) Q):
  T E (.seq x y) fr K L Q:=by
 intro a w f i;refine wp_seq (Code.wp_mono (fun e a w q=>?_) (p a w f i))
 cases e<;>first|exact q|(obtain⟨b,c,d,g,h,s,l,t⟩:=q;exact r b c d g h s _ _ l t)
def nG{I:α1->α2->α3->α4->α5->Prop}{fr':α1->α2->α3->α4->α5->Fr}{g:α1->α2->α3->α4->α5->Hl}{L':α1->α2->α3->α4->α5->List Asn}(e:α1)(c:α2)(i:α3)(b:α4)(d:α5)(p:I e c i b d)(k:Kp fr (fr' e c i b d))(t:g e c i b d=K)(v:∀h,Sat L h->Sat (L' e c i b d) h):
  D E .normal fr K L (Exit.then (Mid5 E I fr' g L') Q):=fun a w f q=>⟨e,c,i,b,d,p,f.keep k,by rw[t];exact q.imp v⟩
end
end Go.SL
end
section
namespace Go.SL
abbrev itr(b:Nat)(l:List UInt8)(p:Nat):Asn:=pt b (.stringIter ⟨l.toArray⟩ p)
abbrev dec(l:List UInt8)(p:Nat):Nat×Nat:=Utf8.decode ⟨l.toArray⟩ p
section
variable{E:Env}{fr:Fr}{K:Hl}{L L':List Asn}{dst:Option Tmp}{ty:TypeId}{pos:String}{aft:Array Edge}{g:Option (Nat×Bool)}{x:Operand}{t:TypeId}{l:List UInt8}{b p:Nat}
def DT(C:E.P.underlying t=some .string)(d:fr.ev x=some (str l)):EfS E fr K L ⟨dst,.range t x,ty,pos,aft,g⟩ (fun v c L'=>∃b,v=ptr b/\c=K/\L'=itr b l 0::L):=by
 intro a w f i;refine⟨ptr w.heap.size,w.iter ⟨l.toArray⟩ 0,K,itr w.heap.size l 0::L,.inl ?_,⟨_,Y,Y,Y⟩,xAB _,i.alloc _⟩
 simp only[execOp,f.ev d,bind];exact bH (run_range_string w t ⟨l.toArray⟩ C)
def DS(hp:p<l.length)(j:fr.ev x=some (ptr b))(d:Fnd (itr b l p) (itr b l (p+(dec l p).2)) L L'):
  EfS E fr K L ⟨dst,.next x true,ty,pos,aft,g⟩ (fun v e c=>v=.tuple #[.bool true,i64 p,.int .i32 (dec l p).1]/\e=K/\c=L'):=by
 intro a w f i;have r:=i.mem d;have h:p<(⟨l.toArray⟩:ByteArray).size:=by simpa[ByteArray.size]using hp
 refine⟨_,w.iterAt b ⟨l.toArray⟩ (p+(dec l p).2),K,L',.inl ?_,⟨Y,Y,Y⟩,xAB _,?_⟩
 ·simp only[execOp,f.ev j,bind];exact bH (Lib.run_next_any_at w b ⟨l.toArray⟩ p ty r h)
 have G:b<w.heap.size:=(xBR.1 r).1;exact i.writeAt d (H:=w.heap.setIfInBounds b (.stringIter ⟨l.toArray⟩ (p+(dec l p).2))) cD (by simp[G]) (fun y t=>by rw[xBL (Ne.symm t)])
def FE(hp:¬p<l.length)(j:fr.ev x=some (ptr b))(e:Hs (itr b l p) L):
  EfS E fr K L ⟨dst,.next x true,ty,pos,aft,g⟩ (fun v d c=>v=.tuple #[.bool false]/\d=K/\c=L):=by
 intro a w f i;have r:=(Sees.own (K:=K) e).at i;have h:¬p<(⟨l.toArray⟩:ByteArray).size:=by simpa[ByteArray.size]using hp
 refine⟨_,w,K,L,.inl ?_,⟨Y,Y,Y⟩,xAB _,i⟩
 simp only[execOp,f.ev j,bind];exact bH (Lib.run_next_end_at w b ⟨l.toArray⟩ p ty r h)
end
def Qy(l:List UInt8)(p:Nat)(h:p<l.length):(⟨l.toArray⟩:ByteArray).get! p=l[p]:=by
 have r:p<(⟨l.toArray⟩:ByteArray).size:=by simpa[ByteArray.size]using h
 have:=get_at ⟨l.toArray⟩ p r;rw[Nat.add_zero]at this;rw[this];rfl
def Xt{l:List UInt8}{p:Nat}{c:UInt8}(d:l[p]?=some c)(h:c.toNat<128):dec l p=(c.toNat,1):=by
 have hp:p<l.length:=by
  rcases xAD p l.length with a|a
  ·exact a
  rw[xAH a]at d;cases d
 have F:l[p]=c:=by rw[x4 hp]at d;exact xA0 d
 have r:p<(⟨l.toArray⟩:ByteArray).size:=by simpa[ByteArray.size]using hp
 have e:(⟨l.toArray⟩:ByteArray)[p]'r=c:=F;have:=decode_ascii ⟨l.toArray⟩ p r (by rw[e];exact h);rw[e]at this;exact this
def Xs{l:List UInt8}{p:Nat}{c:UInt8}(r:l[p]?=some c)(h:128<=c.toNat):
  128<=(dec l p).1/\(dec l p).1<=2147483647/\1<=(dec l p).2/\p+(dec l p).2<=l.length/\∀j d,p<=j->j<p+(dec l p).2->l[j]?=some d->128<=d.toNat:=by
 have hp:p<l.length:=by
  rcases xAD p l.length with u|u
  ·exact u
  rw[xAH u]at r;cases r
 have F:l[p]=c:=by rw[x4 hp]at r;exact xA0 r
 have t:p<(⟨l.toArray⟩:ByteArray).size:=by simpa[ByteArray.size]using hp
 have b:(⟨l.toArray⟩:ByteArray).size=l.length:=by simp[ByteArray.size]
 have e:(⟨l.toArray⟩:ByteArray)[p]'t=c:=F;have q:=decode_high ⟨l.toArray⟩ p t (by rw[e];exact h);have x:=decode_le ⟨l.toArray⟩ p;refine⟨q.1,x,q.2,?_⟩
 have w:((⟨l.toArray⟩:ByteArray).get! (p+0)).toNat=c.toNat:=by rw[Nat.add_zero,Qy l p hp,F]
 have i:∀k,p+k<l.length->((⟨l.toArray⟩:ByteArray).get! (p+k)).toNat/64=2->∀d,l[p+k]?=some d->128<=d.toNat:=by
  intro k s g d hd;rw[Qy l _ s]at g;rw[x4 s]at hd;cases hd;omega
 have L:∀n,(∀k,1<=k->k<n->p+k<l.length/\((⟨l.toArray⟩:ByteArray).get! (p+k)).toNat/64=2)->1<=n->(dec l p).2=n->p+(dec l p).2<=l.length/\∀j d,p<=j->j<p+(dec l p).2->l[j]?=some d->128<=d.toNat:=by
  intro n s z E;rw[E];refine⟨?_,fun j d K H hd=>?_⟩
  ·rcases xAD 1 n with v|v
   ·have:=(s (n-1) aH aH).1;omega
   omega
  rcases xAD p j with v|v
  ·obtain⟨G,I⟩:=s (j-p) aH aH;have C:p+(j-p)=j:=aH;exact i (j-p) G I d (by rw[C];exact hd)
  have:j=p:=aH;subst this;rw[r]at hd;cases hd;exact h
 have z:¬(((⟨l.toArray⟩:ByteArray).get! (p+0)).toNat<128):=by rw[w];omega
 have f:(dec l p).2=1->p+(dec l p).2<=l.length/\∀j d,p<=j->j<p+(dec l p).2->l[j]?=some d->128<=d.toNat:=L 1 (fun k q x=>by omega) (xAG _);obtain⟨D,y⟩:∃D,D=Utf8.decode ⟨l.toArray⟩ p:=⟨_,rfl⟩;have hD2:dec l p=D:=y.symm;rw[hD2]at L f ⊢;have a:=y;simp only[Utf8.decode,z,if_false]at a;split at a
 ·rename_i g;simp only[Bool.and_eq_true,beq_iff_eq,decide_eq_true_eq,b]at g;split at a
  ·exact L 2 (fun k A B=>by have q:k=1:=aH;rw[q];exact g.2) aH (by rw[a])
  exact f (by rw[a])
 split at a
 ·rename_i g;simp only[Bool.and_eq_true,beq_iff_eq,decide_eq_true_eq,b]at g;split at a
  ·exact L 3 (fun k A B => by
    rcases(show k=1\/k=2 by omega)with rfl|rfl
    ·exact g.1.2
    exact g.2) aH (by rw[a])
  exact f (by rw[a])
 split at a
 ·rename_i g;simp only[Bool.and_eq_true,beq_iff_eq,decide_eq_true_eq,b]at g;split at a
  ·exact L 4 (fun k A B => by
    rcases(show k=1\/k=2\/k=3 by omega)with rfl|rfl|rfl
    ·exact g.1.1.2
    ·exact g.1.2
    exact g.2) aH (by rw[a])
  exact f (by rw[a])
 exact f (by rw[a])
section
variable{E:Env}{fr:Fr}{K:Hl}{L:List Asn}{L':Nat->List Asn}{dst:Option Tmp}{ty:TypeId}{pos:String}{aft:Array Edge}{g:Option (Nat×Bool)}{x:Operand}{t t2:TypeId}{l:List UInt8}{b p:Nat}{c:UInt8}
def kP{α:Type}{l:List α}{p:Nat}{c:α}(d:l[p]?=some c):p<l.length:=by
 rcases xAD p l.length with e|e
 ·exact e
 rw[xAH e]at d;cases d
def Ja(e:l[p]?=some c)(h:c.toNat<128)(r:fr.ev x=some (ptr b))(q:∀n,Fnd (itr b l p) (itr b l (p+n)) L (L' n)):
  EfS E fr K L ⟨dst,.next x true,ty,pos,aft,g⟩ (fun v j d=>v=.tuple #[.bool true,i64 p,.int .i32 c.toNat]/\j=K/\d=L' 1):=by
 intro a w f i;have hd:=Xt e h;have:=DS (dst:=dst) (ty:=ty) (pos:=pos) (aft:=aft) (g:=g) (kP e) r (q (dec l p).2) a w f i;rw[hd]at this;exact this
def Tg(s:l[p]?=some c)(h:128<=c.toNat)(I:fr.ev x=some (ptr b))(F:∀n,Fnd (itr b l p) (itr b l (p+n)) L (L' n)):
  EfS E fr K L ⟨dst,.next x true,ty,pos,aft,g⟩ (fun v q e=>∃r n:Nat,v=.tuple #[.bool true,i64 p,.int .i32 r]/\q=K/\e=L' n/\128<=r/\r<=2147483647/\1<=n/\p+n<=l.length/\∀j d,p<=j->j<p+n->l[j]?=some d->128<=d.toNat):=by
 intro a w f i;obtain⟨t,y,S,z,A⟩:=Xs s h;obtain⟨u,M,q,e,G,⟨H,B,C⟩,le,j⟩:=DS (dst:=dst) (ty:=ty) (pos:=pos) (aft:=aft) (g:=g) (kP s) I (F (dec l p).2) a w f i;exact⟨u,M,q,e,G,⟨_,_,H,B,C,t,y,S,z,A⟩,le,j⟩
def pY(r:Int):List UInt8:=(Utf8.encode r).data.toList
def G5{e:IntKind}{r:Int}(c:E.P.underlying t=some (.int e))(hd:E.P.underlying t2=some .string)(b:fr.ev x=some (.int .i32 r)):
  Ev E fr K L ⟨dst,.convert t t2 x,ty,pos,aft,g⟩ (str (pY r)):=fun a w f j=>by
 simp only[execOp,f.ev b];refine fI ?_;unfold convert;rw[bH (run_underlying c w),bH (run_underlying hd w)]
 show Result.ok (Value.string (Utf8.encode _)) w=_
 simp[pY]
def SX(r:Int)(h:128<=r):2<=(pY r).length/\(pY r).length<=4/\∃c,(pY r)[(pY r).length-1]?=some c/\128<=c.toNat:=by
 unfold pY Utf8.encode;have d:128<=(if Utf8.valid r then r.toNat else Utf8.runeError):=by
  split
  ·omega
  decide
 generalize (if Utf8.valid r then r.toNat else Utf8.runeError)=c at d
 have a:∀n:Nat,128<=(UInt8.ofNat (0x80+n%64)).toNat:=by
  intro n;simp;omega
 simp only[if_neg (show ¬c<0x80 by omega)];split
 ·exact⟨cD,cD,_,Y,a _⟩
 split
 ·exact⟨cD,cD,_,Y,a _⟩
 exact⟨cD,cD,_,Y,a _⟩
end
end Go.SL
end

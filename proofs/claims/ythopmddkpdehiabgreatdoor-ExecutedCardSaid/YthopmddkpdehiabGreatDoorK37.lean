/-
  What the proof stands on, part 37: the logic of walks, the walks through the functions, the plain laws. Conditions: as each theorem says. (Merged and shortened by a program.)
-/
import Derived.Test.YthopmddkpdehiabGreatDoorK17
import Derived.Test.YthopmddkpdehiabGreatDoorK20
set_option linter.unusedVariables false
set_option linter.unusedSimpArgs false
set_option linter.defProp false
set_option maxRecDepth 4000
set_option maxHeartbeats 1000000
section
namespace Go.Mach
open Go.Syn
def uN{α β:Type}{f:Nat→Option α}{g:Nat→Option β}(h:∀e,(f e).isSome=(g e).isSome):∀n e,(kS f n e).isSome=(kS g n e).isSome
 |0,_=>rfl
 |n+1,e=>by
  have he:=h e;simp only[kS];cases hf:f e <;> cases hg:g e <;> rw[hf,hg]at he
  ·exact uN h n (e+1)
  ·cases he
  ·cases he
  rfl
def aER{α:Type}{f:Nat→Option α}{x:α}:∀ {n e:Nat},kS f n e=some x→∃d,e≤d∧d < e+n∧f d=some x∧∀j,e≤j→j < d→f j=none
 |0,e,h=>by cases h
 |n+1,e,h=>by
  simp only[kS]at h;cases hf:f e with
  |some y=>rw[hf]at h;cases h;exact⟨e,xAA _,by omega,hf,fun j h1 h2=>by omega⟩
  |none=>
   rw[hf]at h;obtain⟨d,h1,h2,h3,h4⟩:=aER h;refine⟨d,by omega,by omega,h3,fun j h5 h6=>?_⟩
   rcases xAC e j with h7|h7
   ·exact h4 j h7 h6
   rw[show j=e by omega];exact hf
section
variable{w v k:aP}
def aX5:∀(f:Nat) {g i j:Nat},j≤k.length→k.length < f+j→k.length < g+j→iY w v k f i j=iY w v k g i j:=by
 intro f;induction f with
 |zero=>intro g i j h h1;omega
 |succ f ih=>
  intro g i j h h1 h2;obtain⟨g,rfl⟩:∃g0,g=g0+1:=⟨g - 1,by omega⟩;simp only[iY];cases hc:k[j]? with
  |none=>rfl
  |some c=>
   have hj:j < k.length:=(xAG.1 hc).1;have e1:∀e,iY w v k f e (j+1)=iY w v k g e (j+1):=fun e=>ih aH aH aH
   simp only[e1];split
   ·rfl
   split
   ·rfl
   split
   ·rfl
   split
   ·rename_i d hd;split at hd
    ·have:=(xAG.1 hd).1;rw[ih (g:=g) aH aH aH]
    cases hd
   rfl
def jI(w v k:aP)(i j:Nat):Option (List aP):=iY w v k (k.length+1 - j) i j
def xD{i j:Nat}(h:j < k.length):jI w v k i j=iY w v k (k.length - j+1) i j:=by unfold jI;rw[show k.length+1 - j=k.length - j+1 by omega]
def aB5{f i j:Nat}(h:j≤k.length)(h1:k.length < f+j):iY w v k f i j=jI w v k i j:=aX5 f h h1 aH
def sI{i:Nat}:jI w v k i k.length=if i=v.length then some []else none:=by
 unfold jI;rw[show k.length+1 - k.length=0+1 by omega,iY,xAD (xAA _)]
def sY{i j:Nat}{c:UInt8}(hc:k[j]?=some c)(h:c.toNat=42):jI w v k i j=kS (fun e=>(jI w v k e (j+1)).map fun ps=>((w.take e).drop i)::ps) (v.length+1 - i) i:=by
 have hj:=(xAG.1 hc).1;rw[xD hj,iY,hc];simp only[h,if_true]
 congr 1
 funext e
 rw[aB5 aH aH]
def uV{i j:Nat}{c:UInt8}(hc:k[j]?=some c)(h:¬c.toNat=42)(hv:v[i]?=none):jI w v k i j=none:=by
 have hj:=(xAG.1 hc).1;rw[xD hj,iY,hc];simp only[if_neg h,hv]
def yX{i j:Nat}{c x:UInt8}(hc:k[j]?=some c)(h:c.toNat=63)(hv:v[i]?=some x):jI w v k i j=(jI w v k (i+1) (j+1)).map fun ps=>((w.take (i+1)).drop i)::ps:=by
 have hj:=(xAG.1 hc).1;rw[xD hj,iY,hc];simp only[if_neg (show ¬c.toNat=42 by omega),hv,if_pos h];rw[aB5 aH aH]
def aDF{i j:Nat}{c x d:UInt8}(hc:k[j]?=some c)(h:c.toNat=92)(hd:k[j+1]?=some d)(hv:v[i]?=some x):jI w v k i j=if x=d then jI w v k (i+1) (j+2)else none:=by
 have hj:=(xAG.1 hd).1;rw[xD aH,iY,hc];simp only[if_neg (show ¬c.toNat=42 by omega),hv,if_neg (show ¬c.toNat=63 by omega),if_pos h,hd];rw[aB5 aH aH]
def aDG{i j:Nat}{c x:UInt8}(hc:k[j]?=some c)(h1:¬c.toNat=42)(h2:¬c.toNat=63)(h3:c.toNat=92→k[j+1]?=none)(hv:v[i]?=some x):jI w v k i j=if x=c then jI w v k (i+1) (j+1)else none:=by
 have hj:=(xAG.1 hc).1;rw[xD hj,iY,hc];have e:(if c.toNat=92 then k[j+1]? else none)=none:=by split;exact h3 ‹_›;rfl
 simp only[if_neg h1,hv,if_neg h2,e];rw[aB5 aH aH]
def tab(v k:aP)(i j:Nat):Bool:=(jI v v k i j).isSome
def aNM(w:aP):∀(n:Nat) {i j:Nat},j≤k.length→k.length≤n+j→(jI w v k i j).isSome=tab v k i j:=by
 intro n;unfold tab;induction n with
 |zero=>
  intro i j h1 h2;obtain rfl:j=k.length:=by omega
  rw[sI,sI]
 |succ n ih=>
  intro i j h1 h2;rcases xAC j k.length with hj|hj
  ·obtain⟨c,hc⟩:∃c,k[j]?=some c:=⟨_,x4 hj⟩
   by_cases h42:c.toNat=42
   ·rw[sY hc h42,sY hc h42];refine uN (fun e=>?_) _ _
    rw[Option.isSome_map,Option.isSome_map];exact ih aH aH
   cases hv:v[i]? with
   |none=>rw[uV hc h42 hv,uV hc h42 hv]
   |some x=>
    by_cases h63:c.toNat=63
    ·rw[yX hc h63 hv,yX hc h63 hv,Option.isSome_map,Option.isSome_map];exact ih aH aH
    by_cases h92:c.toNat=92∧∃d,k[j+1]?=some d
    ·obtain⟨h92,d,hd⟩:=h92;have:=(xAG.1 hd).1;rw[aDF hc h92 hd hv,aDF hc h92 hd hv];split
     ·exact ih aH aH
     rfl
    have h3:c.toNat=92→k[j+1]?=none:=fun e=>by
     cases hd:k[j+1]? with
     |none=>rfl
     |some d=>exact absurd ⟨e,d,hd⟩ h92
    rw[aDG hc h42 h63 h3 hv,aDG hc h42 h63 h3 hv];split
    ·exact ih aH aH
    rfl
  obtain rfl:j=k.length:=by omega
  rw[sI,sI]
def bJ9{i:Nat}:tab v k i k.length=decide (i=v.length):=by unfold tab;rw[sI];split <;> simp[*]
def bGP{i j:Nat}{c:UInt8}(hc:k[j]?=some c)(h:c.toNat=42)(hi:i≤v.length):tab v k i j=(tab v k i (j+1)||(decide (i < v.length)&&tab v k (i+1) j)):=by
 unfold tab;rw[sY hc h,show v.length+1 - i=(v.length - i)+1 by omega,kS];cases hx:jI v v k i (j+1)with
 |some ps=>rfl
 |none=>
  show (kS _ (v.length - i) (i+1)).isSome=(false||_)
  rw[Bool.false_or];rcases xAC i v.length with hl|hl
  ·rw[xAM hl,Bool.true_and,sY hc h,show v.length+1 - (i+1)=v.length - i by omega];refine uN (fun e=>?_) _ _
   rw[Option.isSome_map,Option.isSome_map]
  rw[xAJ aH,show v.length - i=0 by omega];rfl
def bGO{i j:Nat}{c:UInt8}(hc:k[j]?=some c)(h:c.toNat=63):tab v k i j=(decide (i < v.length)&&tab v k (i+1) (j+1)):=by
 unfold tab;rcases xAC i v.length with hl|hl
 ·rw[yX hc h (x4 hl),Option.isSome_map,xAM hl,Bool.true_and]
 rw[uV hc aH (xAD hl),xAJ aH];rfl
def aEI(k:aP)(j n:Nat)(d:UInt8):Prop:=(n=2∧(∃c,k[j]?=some c∧c.toNat=92)∧k[j+1]?=some d)∨(n=1∧k[j]?=some d∧¬d.toNat=42∧¬d.toNat=63∧(d.toNat=92→k[j+1]?=none))
def aJ4{i j n:Nat}{d x:UInt8}(h:aEI k j n d)(hv:v[i]?=some x):jI w v k i j=if x=d then jI w v k (i+1) (j+n)else none:=by
 rcases h with ⟨rfl,⟨c,hc,h92⟩,hd⟩|⟨rfl,hc,h1,h2,h3⟩
 ·exact aDF hc h92 hd hv
 exact aDG hc h1 h2 h3 hv
def aGZ{i j n:Nat}{d:UInt8}(h:aEI k j n d)(hv:v[i]?=none):jI w v k i j=none:=by
 rcases h with ⟨rfl,⟨c,hc,h92⟩,hd⟩|⟨rfl,hc,h1,h2,h3⟩
 ·exact uV hc aH hv
 exact uV hc h1 hv
def bKA{i j n:Nat}{d:UInt8}(h:aEI k j n d):tab v k i j=(decide (i < v.length)&&(decide (v[i]?=some d)&&tab v k (i+1) (j+n))):=by
 unfold tab;cases hv:v[i]? with
 |none=>rw[aGZ h hv];simp
 |some x=>
  have:=(xAG.1 hv).1;rw[aJ4 h hv,xAM this,Bool.true_and]
  by_cases hx:x=d
  ·rw[x7 hx,xAM (by rw[hx]),Bool.true_and]
  rw[x5 hx,xAJ (by intro e;exact hx (xAY e))];rfl
def bAT{i j:Nat}{c:UInt8}{ps:List aP}(hc:k[j]?=some c)(h:c.toNat=42)(hg:jI w v k i j=some ps):∃e qs,i≤e∧e≤v.length∧jI w v k e (j+1)=some qs∧ps=(w.take e).drop i::qs∧∀d,i≤d→d < e→tab v k d (j+1)=false:=by
 have hj:=(xAG.1 hc).1;rw[sY hc h]at hg;obtain⟨e,h1,h2,h3,h4⟩:=aER hg;cases hx:jI w v k e (j+1)with
 |none=>rw[hx]at h3;cases h3
 |some qs=>
  rw[hx]at h3;refine⟨e,qs,h1,by omega,hx,(xAY h3).symm,fun d h5 h6=>?_⟩
  have:=h4 d h5 h6;rw[←aNM w k.length aH aH];cases hy:jI w v k d (j+1)with
  |none=>rfl
  |some y=>rw[hy]at this;cases this
end
end Go.Mach
end
section
namespace Go.Mach
open Go Go.SL Go.Syn Go.Proofs
def rowP(r:Cell×List Bool):Asn:=sl false eE r.1.1 r.2
abbrev pU(v:Value)(rs:List (Cell×List Bool)):List Asn:=sl false (cC 93) v (rs.map (·.1))::rs.map rowP
def bDK{α:Type}{f:α→Asn}{x:α}:∀ {l:List α} {i:Nat},l[i]?=some x→Hs (f x) (l.map f)
 | [],i,h=>by simp at h
 |a::l,0,h=>by simp at h;subst h;exact .here
 |a::l,i+1,h=>.there (bDK (i:=i) gFC)
def aVV{α:Type}{f:α→Asn}{x y:α}:∀ {l:List α} {i:Nat},l[i]?=some x→Fnd (f x) (f y) (l.map f) ((l.set i y).map f)
 | [],i,h=>by simp at h
 |a::l,0,h=>by simp at h;subst h;exact .here
 |a::l,i+1,h=>.there (aVV (i:=i) gFC)
def l7{v:Value}{rs:List (Cell×List Bool)}{i:Nat}{r:Cell×List Bool}(h:rs[i]?=some r):Hs (sl false eE r.1.1 r.2) (pU v rs):=.there (bDK (f:=rowP) h)
def bIG{rs:List (Cell×List Bool)}{i:Nat}{r:Cell×List Bool}{ys:List Bool}(h:rs[i]?=some r):(rs.set i (r.1,ys)).map (·.1)=rs.map (·.1):=by
 rw[List.map_set];refine List.ext_getElem? fun j=>?_;rw[List.getElem?_set];split
 ·rename_i e;subst e
  obtain⟨hl,e2⟩:=xAG.1 h;rw[x7 (by simpa using hl)];simp[h]
 rfl
def aVW{v:Value}{rs:List (Cell×List Bool)}{i:Nat}{r:Cell×List Bool}{ys:List Bool}(h:rs[i]?=some r):Fnd (sl false eE r.1.1 r.2) (sl false eE r.1.1 ys) (pU v rs) (pU v (rs.set i (r.1,ys))):=by
 unfold pU;rw[bIG h];exact .there (aVV (f:=rowP) (y:=(r.1,ys)) h)
def q7{v:Value}{rs:List (Cell×List Bool)}{i:Nat}{r:Cell×List Bool}{ys:List Bool}(h:rs[i]?=some r):Fnd (sl false eE r.1.1 r.2) (sl false eE r.1.1 ys) (pU v rs++[]) (pU v (rs.set i (r.1,ys))):=by rw[xAL];exact aVW h
def aCN:∀ {L M:List Asn} {h:Hl},Sat (L++M) h→Sat (M++L) h:=by
 intro L M h hs;obtain⟨a,b,ha,hb,hd,rfl⟩:=eY.1 hs;exact eY.2 ⟨b,a,hb,ha,hd.symm,Hl.join_comm hd⟩
def aZ2{v:Value}{rs:List (Cell×List Bool)}{r:Cell×List Bool}:∀h,Sat (sl false (cC 93) v (rs.map (·.1)++[r.1])::sl false eE r.1.1 r.2::rs.map rowP) h→Sat (pU v (rs++[r])) h:=by
 intro h hs;unfold pU;rw[List.map_append,List.map_append];refine eR (fun g hg=>?_) hs
 exact aCN (L:=[rowP r]) hg
section
variable{a b:aP}
def vM(a b:aP)(rs:List (Cell×List Bool))(z:Int):Prop:=rs.length=a.length+1∧∀(j:Nat) r,rs[j]?=some r→r.2.length=b.length+1∧(z < j→∀k,k≤b.length→r.2[k]?=some (tab a b j k))
def aN5(a b:aP)(rs:List (Cell×List Bool))(i:Nat)(q:Int):Prop:=vM a b rs i∧∀r,rs[i]?=some r→∀k:Nat,q < k→k≤b.length→r.2[k]?=some (tab a b i k)
def aTY{rs:List (Cell×List Bool)}{i:Nat}(h:vM a b rs i):aN5 a b rs i b.length:=⟨h,fun r _ k h1 h2=>by omega⟩
def bFI{rs:List (Cell×List Bool)}{i:Nat}{q:Int}(h:aN5 a b rs i q)(hq:q < 0):vM a b rs ((i:Int) - 1):=by
 refine⟨h.1.1,fun j r hr=>⟨(h.1.2 j r hr).1,fun hz k hk=>?_⟩⟩
 rcases xAC i j with h1|h1
 ·exact(h.1.2 j r hr).2 aH k hk
 obtain rfl:j=i:=by omega
 exact h.2 r hr k aH hk
def pG{rs:List (Cell×List Bool)}{i k:Nat}{q:Int}{r:Cell×List Bool}{val:Bool}(h:aN5 a b rs i q)(hr:rs[i]?=some r)(hq:q=k)(hk:k≤b.length)(hv:val=tab a b i k):aN5 a b (rs.set i (r.1,r.2.set k val)) i (q - 1):=by
 obtain⟨hil,e2⟩:=xAG.1 hr;have hi:(rs.set i (r.1,r.2.set k val))[i]?=some (r.1,r.2.set k val):=by rw[List.getElem?_set];simp[hil]
 refine⟨⟨by rw[xBC];exact h.1.1,fun j x hx=>?_⟩,fun x hx k2 h1 h2=>?_⟩
 ·by_cases e:j=i
  ·subst e;rw[hi]at hx;cases hx
   exact⟨by rw[xBC];exact(h.1.2 j r hr).1,fun hz=>by omega⟩
  rw[List.getElem?_set,x5 (fun e2=>e e2.symm)]at hx;exact h.1.2 j x hx
 rw[hi]at hx;cases hx
 show (r.2.set k val)[k2]?=_
 rw[List.getElem?_set]
 by_cases e:k=k2
 ·subst e;have:=(h.1.2 i r hr).1;rw[x7 rfl,x7 aH,hv]
 rw[x5 e];exact h.2 r hr k2 aH h2
def tC{rs:List (Cell×List Bool)}{z:Int}(h:vM a b rs z){j:Nat}(hj:j≤a.length):∃r,rs[j]?=some r∧r.2.length=b.length+1∧(z < j→∀k,k≤b.length→r.2[k]?=some (tab a b j k)):=by
 obtain⟨r,hr⟩:∃r,rs[j]?=some r:=⟨_,x4 (by rw[h.1];omega)⟩;exact⟨r,hr,h.2 j r hr⟩
end
end Go.Mach
end
section
namespace Go.Mach
open Go.Syn
def qW(s:aP):Nat:=(s.takeWhile (fun c=>decide (¬c.toNat=125))).length
def bB4(s:aP):qW s≤s.length:=(List.takeWhile_prefix _).length_le
def jY(vars:List (aP×aP))(parts:List aP)(s:aP):aP×Nat:=
 if qW s=s.length then ([],0)else if (held vars parts (s.take (qW s))).2=true then ((held vars parts (s.take (qW s))).1,qW s+1)else ([],0)
def aP9(vars:List (aP×aP))(parts:List aP)(s:aP):(jY vars parts s).2≤s.length:=by
 have:=bB4 s;unfold jY;split
 ·exact x9 _
 split
 ·show qW s+1≤_;omega
 exact x9 _
def aGU(vars:List (aP×aP))(parts:List aP):Nat→aP→aP
 |0,_=>[]
 |f+1,s=>
  match s with
  | []=>[]
  |c::t=>if (c.toNat=36∧((t[0]?).getD 0).toNat=123)∧0 < (jY vars parts (t.drop 1)).2 then (jY vars parts (t.drop 1)).1++aGU vars parts f (t.drop (1+(jY vars parts (t.drop 1)).2))else c::aGU vars parts f t
def aDD{vars:List (aP×aP)}{parts:List aP}:∀ {f g:Nat} {s:aP},s.length < f→s.length < g→aGU vars parts f s=aGU vars parts g s
 |0,_,s,h,_=>by omega
 |_+1,0,s,_,h=>by omega
 |f+1,g+1,[],_,_=>rfl
 |f+1,g+1,c::t,h1,h2=>by
  simp only[List.length_cons]at h1 h2;simp only[aGU];rw[aDD (f:=f) (g:=g) gD6 gD6,aDD (f:=f) (g:=g) (s:=t) aH aH]
def exp2(vars:List (aP×aP))(parts:List aP)(s:aP):aP:=aGU vars parts (s.length+1) s
section
variable{vars:List (aP×aP)}{parts:List aP}{s:aP}{i:Nat}{c d:UInt8}
def aBY:exp2 vars parts []=[]:=rfl
def yW{t:aP}:exp2 vars parts (c::t)=if (c.toNat=36∧((t[0]?).getD 0).toNat=123)∧0 < (jY vars parts (t.drop 1)).2 then (jY vars parts (t.drop 1)).1++exp2 vars parts (t.drop (1+(jY vars parts (t.drop 1)).2))else c::exp2 vars parts t:=by
 unfold exp2;rw[aGU];rw[aDD (f:=(c::t).length) (g:=(t.drop (1+(jY vars parts (t.drop 1)).2)).length+1) (by rw[xBA];simp;omega) aH]
 rfl
def o8(hc:s[i]?=some c):s.drop i=c::s.drop (i+1):=by
 obtain⟨h,e⟩:=xAG.1 hc;rw[xAR h,e]
def bDA(hc:s[i]?=some c)(h36:c.toNat=36)(hd:s[i+1]?=some d)(h123:d.toNat=123)(hn:0 < (jY vars parts (s.drop (i+2))).2):exp2 vars parts (s.drop i)=(jY vars parts (s.drop (i+2))).1++exp2 vars parts (s.drop (i+2+(jY vars parts (s.drop (i+2))).2)):=by
 rw[o8 hc,yW,List.drop_drop,List.drop_drop,show i+1+1=i+2 from rfl];rw[x7 ⟨⟨h36,by rw[xA2];show ((s[i+1]?).getD 0).toNat=123;rw[hd];exact h123⟩,hn⟩,show i+1+(1+(jY vars parts (s.drop (i+2))).2)=i+2+(jY vars parts (s.drop (i+2))).2 from by omega]
def aVT(hc:s[i]?=some c)(hn:(c.toNat=36∧((s[i+1]?).getD 0).toNat=123)→(jY vars parts (s.drop (i+2))).2=0):exp2 vars parts (s.drop i)=c::exp2 vars parts (s.drop (i+1)):=by
 rw[o8 hc,yW,List.drop_drop,show i+1+1=i+2 from rfl,x5];rintro⟨⟨h1,h2⟩,h3⟩;rw[xA2]at h2;have:=hn ⟨h1,h2⟩;omega
def aAK:∀(n:Nat) (s:aP),n≤s.length→(∀j,j < n→Lib.occAt s [36,123] j=false)→exp2 vars parts s=s.take n++exp2 vars parts (s.drop n)
 |0,s,_,_=>rfl
 |n+1,[],h,_=>absurd h (by simp)
 |n+1,c::t,h,hn=>by
  have h0:=hn 0 aH;have ih:=aAK n t gFC (fun j hj=>by have:=hn (j+1) aH;unfold Lib.occAt at this ⊢;simpa using this);rw[yW,x5,ih]
  ·rfl
  rintro⟨⟨h1,h2⟩,_⟩;cases t with
  |nil=>cases h2
  |cons d u=>
   have e1:c=36:=xAO.1 (by simpa using h1);have e2:d=123:=xAO.1 (by simpa using h2);subst e1;subst e2
   simp[Lib.occAt]at h0
def aR1{o:Nat}(h:Lib.indexByte s 125=o):qW s=o:=by
 obtain⟨h1,h2⟩:=Lib.indexByte_some h;obtain⟨hl,he⟩:=xAG.1 h1;have:s=s.take o++125::s.drop (o+1):=by rw[←he,←xAR hl,List.take_append_drop]
 unfold qW;rw[this,List.takeWhile_append_of_pos,xBJ]
 ·simp;omega
 intro a ha;obtain⟨j,hj,e⟩:=List.getElem_of_mem ha;rw[xA4]at hj;have h3:=h2 j aH;rw[List.getElem_take]at e;rw[x4 aH,e]at h3;simp only[decide_eq_true_eq];intro e2;exact h3 (xAE some (xAO.1 (by simpa using e2)))
def aR0(h:Lib.indexByte s 125= -1):qW s=s.length:=by
 have h2:=Lib.indexByte_none h;unfold qW
 congr 1
 have key:∀a∈s,decide (¬a.toNat=125)=true:=?_
 ·have:=List.takeWhile_append_of_pos (p:=fun c:UInt8=>decide (¬c.toNat=125)) (l₁:=s) (l₂:=[]) key
  simpa using this
 intro a ha;obtain⟨j,hj,e⟩:=List.getElem_of_mem ha;have h3:=h2 j;rw[x4 hj,e]at h3;simp only[decide_eq_true_eq];intro e2;exact h3 (xAE some (xAO.1 (by simpa using e2)))
def aMC:∀(f:Nat) (s acc:aP),s.length≤f→kR vars parts (f+1) s acc=acc++exp2 vars parts s:=by
 intro f;induction f with
 |zero=>
  intro s acc h;cases s with
  |nil=>simp[kR,aBY]
  |cons c t=>simp at h
 |succ f ih=>
  intro s acc h;rw[kR]
  by_cases h0:s=[]
  ·subst h0;simp[aBY]
  rw[x5 h0];rcases Lib.index_spec s [36,123]with ⟨e,hno⟩|⟨i,e,hi,ho,hno⟩
  ·rw[x7 aH,aAK s.length s (xAA _) (fun j hj=>hno j aH),List.drop_length,aBY,xAK,xAL]
  have hr:=Lib.occAt_room ho;simp at hr;rw[x5 aH,e];simp only[Int.toNat_natCast];rw[aAK i s aH hno];have c0:=Lib.occAt_head rfl ho;have c1:=Lib.occAt_second rfl ho;have hdr:s.drop i=36::123::s.drop (i+2):=by rw[o8 c0,o8 c1]
  obtain⟨u,hu⟩:∃u,s.drop (i+2)=u:=⟨_,rfl⟩;have hul:u.length+2+i=s.length:=by rw[←hu,xBA];omega
  rw[hdr,hu,yW];have hx:Lib.indexByte (36::123::u) 125=if Lib.indexByte u 125 < 0 then -1 else Lib.indexByte u 125+2:=by
   have hge:=Lib.indexByte_ge u 125;have e1:∀(c:UInt8) (l:aP),(c==125)=false→Lib.indexByte (c::l) 125=if Lib.indexByte l 125= -1 then -1 else Lib.indexByte l 125+1:=fun c l hc=>by simp[Lib.indexByte,hc]
   rw[e1 _ _ (by decide),e1 _ _ (by decide)]
   generalize Lib.indexByte u 125=y at hge ⊢
   repeat' split
   all_goals omega
  have hb:=Lib.indexByte_ge u 125;rw[hx]
  show _=acc++(s.take i++if ((36:UInt8).toNat=36∧((123:UInt8)).toNat=123)∧0 < (jY vars parts u).2 then (jY vars parts u).1++exp2 vars parts (u.drop (jY vars parts u).2 |> fun x=>(123::u).drop (1+(jY vars parts u).2))else 36::exp2 vars parts (123::u))
  by_cases hn:Lib.indexByte u 125 < 0
  ·have hbr:=aR0 (s:=u) aH;have hrh:jY vars parts u=([],0):=by unfold jY;rw[x7 hbr]
   rw[x7 hn,x5 aH,ih _ _ gC7,hrh];simp
  obtain⟨o,ho2⟩:∃o:Nat,Lib.indexByte u 125=o:=⟨(Lib.indexByte u 125).toNat,by omega⟩;have hbr:=aR1 ho2;have hol:o < u.length:=(xAG.1 (Lib.indexByte_some ho2).1).1;rw[x5 hn,ho2];have hname:((36::123::u).take (max ((o:Int)+2) 2).toNat).drop 2=u.take o:=by
   rw[show (max ((o:Int)+2) 2).toNat=o+2 from by omega];rfl
  have hrh:jY vars parts u=if (held vars parts (u.take o)).2=true then ((held vars parts (u.take o)).1,o+1)else ([],0):=by
   unfold jY;rw[hbr,x5 aH]
  rw[hname]
  by_cases hh:(held vars parts (u.take o)).2=true
  ·rw[x7 ⟨by omega,hh⟩,ih _ _ gC7,hrh,x7 hh,x7 ⟨⟨rfl,rfl⟩,by simp⟩];rw[show ((o:Int)+2).toNat+1=o+3 from by omega]
   show _=acc++(s.take i++((held vars parts (u.take o)).1++exp2 vars parts ((123::u).drop (1+(o+1)))))
   rw[show 1+(o+1)=(o+1)+1 from by omega];simp
  rw[x5 (fun h=>hh h.2),ih _ _ gC7,hrh,x5 hh,x5 (by simp)];simp
def aEO{nm:Bool}:dH nm vars parts s=if nm=true then (exp2 vars parts s).take 1024 else s:=by
 unfold dH;rw[aMC _ _ _ (xAA _)];rfl
end
end Go.Mach
end
section
namespace Go.Mach
open Go.Syn Go.Proofs
def aRL{k v:aP}:∀ {vars:List (aP×aP)} {i:Nat},vars[i]?=some (k,v)→(∀j,j < i→(vars.map (·.1))[j]?≠some k)→vget vars k=v
 | [],i,h,_=>by simp at h
 |(a,b)::r,0,h,_=>by simp at h;unfold vget;rw[x7 h.1];exact h.2
 |(a,b)::r,i+1,h,hn=>by
  have h0:=hn 0 aH;unfold vget;rw[x5 (fun e=>h0 gGB)];exact aRL (i:=i) gFC (fun j hj=>by have:=hn (j+1) aH;simpa using this)
def aLL{k:aP}:∀ {vars:List (aP×aP)},(∀j:Nat,j < vars.length→(vars.map (·.1))[j]?≠some k)→vget vars k=[]
 | [],_=>rfl
 |(a,b)::r,hn=>by
  have h0:=hn 0 (by simp);unfold vget;rw[x5 (fun e=>h0 gGB)];exact aLL (fun j hj=>by have:=hn (j+1) (by simpa using hj);simpa using this)
def aRM{k v u:aP}:∀ {vars:List (aP×aP)} {i:Nat},vars[i]?=some (k,v)→(∀j,j < i→(vars.map (·.1))[j]?≠some k)→(vput vars k u).map (·.1)=vars.map (·.1)∧(vput vars k u).map (·.2)=(vars.map (·.2)).set i u
 | [],i,h,_=>by simp at h
 |(a,b)::r,0,h,_=>by simp at h;unfold vput;rw[x7 h.1];simp
 |(a,b)::r,i+1,h,hn=>by
  have h0:=hn 0 aH;unfold vput;rw[x5 (fun e=>h0 gGB)];obtain⟨h1,h2⟩:=aRM (u:=u) (i:=i) (vars:=r) (k:=k) (v:=v) gFC (fun j hj=>by have:=hn (j+1) aH;simpa using this);exact⟨by simp[h1],by simp[h2]⟩
def aLM{k u:aP}:∀ {vars:List (aP×aP)},(∀j:Nat,j < vars.length→(vars.map (·.1))[j]?≠some k)→(vput vars k u).map (·.1)=vars.map (·.1)++[k]∧(vput vars k u).map (·.2)=vars.map (·.2)++[u]
 | [],_=>⟨rfl,rfl⟩
 |(a,b)::r,hn=>by
  have h0:=hn 0 (by simp);unfold vput;rw[x5 (fun e=>h0 gGB)];obtain⟨h1,h2⟩:=aLM (u:=u) (vars:=r) (k:=k) (fun j hj=>by have:=hn (j+1) (by simpa using hj);simpa using this);exact⟨by simp[h1],by simp[h2]⟩
section
variable{vars:List (aP×aP)}{parts:List aP}{s:aP}{i:Nat}
def bB3(hi:i≤s.length)(h:∀j c,j < i→s[j]?=some c→¬c.toNat=125)(he:¬(i < s.length∧¬((s[i]?).getD 0).toNat=125)):qW s=i:=by
 have key:∀(n:Nat) (s:aP),n≤s.length→(∀j c,j < n→s[j]?=some c→¬c.toNat=125)→¬(n < s.length∧¬((s[n]?).getD 0).toNat=125)→qW s=n:=by
  intro n;induction n with
  |zero=>
   intro s _ _ he;cases s with
   |nil=>rfl
   |cons c t=>
    have:c.toNat=125:=xAZ fun hc=>he ⟨by simp,hc⟩
    unfold qW;rw[xBJ,x5 (by simp[this])];rfl
  |succ n ih=>
   intro s hn h he;cases s with
   |nil=>simp at hn
   |cons c t=>
    have hc:=h 0 c aH rfl;have:=ih t (by simpa using hn) (fun j d hj hd=>h (j+1) d aH (by simpa using hd)) (fun⟨h1,h2⟩=>he ⟨by simpa using h1,by simpa using h2⟩);unfold qW at this ⊢;rw[xBJ,x7 (by simp[hc]),xBI,this]
 exact key i s hi h he
def aTT(hb:qW s=i)(h:i=s.length):jY vars parts s=([],0):=by unfold jY;rw[x7 aH]
def aZ0{d:UInt8}(hb:qW s=i)(h:¬i=s.length)(hw:s.take i=[d])(hd:48≤d.toNat∧d.toNat≤57):jY vars parts s=((parts[d.toNat - 48]?).getD [],i+1):=by
 unfold jY;rw[hb,x5 h,hw,p8 hd];rfl
def aQA(hb:qW s=i)(h:¬i=s.length)(hn:¬(∃d,s.take i=[d]∧48≤d.toNat∧d.toNat≤57)):jY vars parts s=if named (s.take i)=true then (vget vars (eD (s.take i)),i+1)else ([],0):=by
 unfold jY;rw[hb,x5 h,p9 hn]
def aZM{j:Nat}(h:j≤9):(parts.take 10)[j]?=parts[j]?:=by rw[List.getElem?_take,x7 aH]
def aLX{a b:aP}(h:i+b.length≤a.length)(e:(a.take (i+b.length)).drop i=b):0≤Lib.index a b:=by
 rcases Lib.index_spec a b with ⟨_,hno⟩|⟨j,hj,_⟩
 ·have h1:=hno i aH;rw[Lib.occAt_iff_take a b i h]at h1;rw[List.drop_take,show i+b.length - i=b.length by omega]at e;rw[e]at h1;simp at h1
 omega
def aOG{a b:aP}(h:∀j,j < i→¬(a.take (j+b.length)).drop j=b)(hi:a.length < i+b.length):¬0≤Lib.index a b:=by
 rcases Lib.index_spec a b with ⟨e,_⟩|⟨j,hj,hjl,ho,_⟩
 ·omega
 exfalso
 have hr:j+b.length≤a.length:=by
  rcases Lib.occAt_room ho with h|h
  ·exact h
  subst h;simpa using hjl
 rw[Lib.occAt_iff_take a b j hr]at ho;refine h j aH ?_;rw[List.drop_take,show j+b.length - j=b.length by omega]
 simpa using ho
end
end Go.Mach
end
section
namespace Go.Mach
open Go.Syn
section
variable{s:aP}{n:Nat}{c:UInt8}
def is64(s:aP)(j:Nat):Prop:=((s[j]?).getD 0).toNat=64
def aDL(h:is64 s n):s[n]?=some 64:=by
 unfold is64 at h;cases hs:s[n]? with
 |none=>rw[hs]at h;cases h
 |some c=>rw[hs]at h;rw[xAO.1 (show c.toNat=(64:UInt8).toNat from h)]
def aJK(h:is64 s n)(h1:∀j,j < n→¬is64 s j):fM s=(decide (s.take n≠[])&&decide (s.drop (n+1)≠[])&&!(s.any fS)&&!((s.drop (n+1)).any fun c=>decide (c=64))&&decide (s.length≤32)):=by
 have hs:=aDL h;have hf:s.findIdx? (fun x=>decide (x=64))=some n:=by
  rw[xA8];obtain⟨hl,e⟩:=xAG.1 hs;refine⟨hl,by simp[e],fun j hj=>?_⟩
  have:=h1 j hj;simp only[decide_eq_true_eq];intro e2;exact this (by unfold is64;rw[x4 aH,e2];rfl)
 unfold fM;rw[hf]
def aW3(h:∀j,j < s.length→¬is64 s j):fM s=false:=by
 have hf:s.findIdx? (fun x=>decide (x=64))=none:=by
  rw[List.findIdx?_eq_none_iff];intro x hx;obtain⟨j,hj,e⟩:=List.getElem_of_mem hx;have:=h j hj;simp only[decide_eq_false_iff_not];intro e2;exact this (by unfold is64;rw[x4 hj,e,e2];rfl)
 unfold fM;rw[hf]
def aF9(hc:s[n]?=some c)(hb:fS c=true):fM s=false:=by
 have:s.any fS=true:=List.any_eq_true.2 ⟨c,x8 hc,hb⟩;unfold fM;split
 ·rfl
 rw[this];simp
def bBS{i:Nat}(hi:i < n)(h:is64 s i)(h1:∀j,j < i→¬is64 s j)(h2:is64 s n):fM s=false:=by
 have hs:=aDL h2;have:((s.drop (i+1)).any fun c=>decide (c=64))=true:=by
  refine List.any_eq_true.2 ⟨64,x8 (i:=n - (i+1)) ?_,by simp⟩
  rw[xA2,show i+1+(n - (i+1))=n by omega];exact hs
 rw[aJK h h1,this];simp
def bBR(h:is64 s n)(h1:∀j,j < s.length→¬j=n→¬is64 s j)(hb:∀(j:Nat) (c:UInt8),s[j]?=some c→fS c=false):fM s=decide (0 < n∧n+1 < s.length∧s.length≤32):=by
 have hs:=aDL h;have hl:=(xAG.1 hs).1;have hany:s.any fS=false:=by
  rw[Bool.eq_false_iff];intro ha;obtain⟨c,hc,hx⟩:=List.any_eq_true.1 ha;obtain⟨j,hj⟩:=xA3 hc;rw[hb j c hj]at hx;cases hx
 have h2:((s.drop (n+1)).any fun c=>decide (c=64))=false:=by
  rw[Bool.eq_false_iff];intro ha;obtain⟨c,hc,hx⟩:=List.any_eq_true.1 ha;obtain⟨j,hj⟩:=xA3 hc;rw[xA2]at hj;have hjl:=(xAG.1 hj).1;refine h1 (n+1+j) hjl aH ?_;unfold is64;rw[hj]
  have:c=64:=by simpa using hx
  rw[this];rfl
 rw[aJK h (fun j hj=>h1 j aH aH),hany,h2];rw[xAP];have e1:s.take n≠[]↔0 < n:=by rw[←List.length_pos_iff,xA4];omega
 have e2:s.drop (n+1)≠[]↔n+1 < s.length:=by rw[←List.length_pos_iff,xBA];omega
 simp only[Bool.and_eq_true,decide_eq_true_eq,Bool.not_false,e1,e2,and_true,true_and]
 constructor
 ·rintro⟨⟨h3,h4⟩,h5⟩;exact⟨h3,h4,h5⟩
 rintro⟨h3,h4,h5⟩;exact⟨⟨h3,h4⟩,h5⟩
end
end Go.Mach
end
section
attribute [local irreducible] Go.SL.T Go.SL.OL Go.SL.D Go.SL.DL Go.SL.Ev Go.SL.Ef Go.SL.EfS
namespace Go.Proofs
open Go Go.SL Go.Syn Go.Mach
def tU(c:UInt8):(letB c||digB c)=iH c:=by
 have h:∀n:Fin 256,(letB (UInt8.ofNat n.1)||digB (UInt8.ofNat n.1))=iH (UInt8.ofNat n.1):=by decide+kernel
 simpa using h ⟨c.toNat,c.toNat_lt⟩
def aP2(s:List UInt8)(K:Hl)(hs:s.length≤140737488355328):Sp x3 64 [str s] K [] (Val (.bool (sT s)) K):=by
  refine bN Tryz.func64 Y Tryz.ntmps64 Y Y fun F w=>?_;refine zz12 ?_;refine eH (fun(i:Nat)=>i≤s.length∧∀j c,j < i→s[j]?=some c→hZ j c=true) (fun i=>[(0,str s),(3,i64 i)]) (fun _=>_) (fun i=>[]) (fun i=>s.length - i) 0 ⟨x9 _,fun j c h _=>by omega⟩ (.cons 0 Y (.cons 3 Y .nil)) Y (fun _ h=>h) ?_;intro i ⟨hi0,hi1⟩;refine zz9 ?_;refine aY 9 Y (fun h9=>?_) (fun h9=>?_)
  · have hilt:i < s.length:=by omega
    obtain⟨c,hc⟩:∃c,s[i]?=some c:=⟨s[i]'hilt,x4 hilt⟩;refine zz9 ?_;refine cN Y Y (nU c _) Y (zz8 ?_);refine cN Y Y (nE c _) Y (zz6 ?_);refine aA gC3 Y (zz1 ?_);refine kN 22 Y (fun g22=>?_) (fun g22=>?_)
    · refine zz3 ?_;refine aA gC3 Y (zz2 ?_);refine kN 26 Y (fun g26=>?_) (fun g26=>?_)
      · refine zz10 ?_;refine bV 32 Y (fun g32=>?_) (fun g32=>?_)
        · refine zz10 ?_;refine bV 37 Y (fun g37=>?_) (fun g37=>?_)
          · refine zz19 ?_;refine uAf ?_;refine zz1 ?_;refine jW ?_ _
            first
              | (rw [xAP, gG]
                 simp only[decide_eq_true_eq];exact⟨fun h=>⟨hall,by rintro rfl;simp at*,by omega⟩,fun h=>by omega⟩)
              |(symm;rw[Bool.eq_false_iff];intro hbx;have:=((gG s).1 hbx).2.1;cases s <;> simp at*;done)
              | (symm; rw [Bool.eq_false_iff]; intro hbx
                 have:=((gG s).1 hbx).1 i c hc;unfold hZ at this;simp only[Bool.or_eq_true,Bool.and_eq_true,decide_eq_true_eq]at this;have hl:iH c=false:=by rw[←tU];simp only[Bool.not_eq_true']at g22 g26;rw[g22,g26];rfl
                 rw[hl]at this;simp at this;omega)
          refine zz9 ?_;refine aY 41 Y (fun h41=>?_) (fun h41=>?_)
          · refine zz11 ?_;refine uAf ?_;refine zz1 ?_;refine jW ?_ _
            first
              | (rw [xAP, gG]
                 simp only[decide_eq_true_eq];exact⟨fun h=>⟨hall,by rintro rfl;simp at*,by omega⟩,fun h=>by omega⟩)
              |(symm;rw[Bool.eq_false_iff];intro hbx;have:=((gG s).1 hbx).2.1;cases s <;> simp at*;done)
              | (symm; rw [Bool.eq_false_iff]; intro hbx
                 have:=((gG s).1 hbx).1 i c hc;unfold hZ at this;simp only[Bool.or_eq_true,Bool.and_eq_true,decide_eq_true_eq]at this;have hl:iH c=false:=by rw[←tU];simp only[Bool.not_eq_true']at g22 g26;rw[g22,g26];rfl
                 rw[hl]at this;simp at this;omega)
          refine zz8 ?_;have hb:hZ i c=true:=gDH;refine cM (i+1) ⟨by omega,fun j c2 hj hc2=>?_⟩ aH (.cons 0 Y (.cons 3 Y .nil)) Y (fun _ h=>h)
          rcases xAC j i with h|h
          · exact hi1 j c2 h hc2
          have e:j=i:=by omega
          subst e;rw[hc]at hc2;cases hc2;exact hb
        refine zz20 ?_;have hb:hZ i c=true:=gDH;refine cM (i+1) ⟨by omega,fun j c2 hj hc2=>?_⟩ aH (.cons 0 Y (.cons 3 Y .nil)) Y (fun _ h=>h)
        rcases xAC j i with h|h
        · exact hi1 j c2 h hc2
        have e:j=i:=by omega
        subst e;rw[hc]at hc2;cases hc2;exact hb
      refine zz26 ?_;have hb:hZ i c=true:=gDH;refine cM (i+1) ⟨by omega,fun j c2 hj hc2=>?_⟩ aH (.cons 0 Y (.cons 3 Y .nil)) Y (fun _ h=>h)
      rcases xAC j i with h|h
      · exact hi1 j c2 h hc2
      have e:j=i:=by omega
      subst e;rw[hc]at hc2;cases hc2;exact hb
    refine zz30 ?_;have hb:hZ i c=true:=gDH;refine cM (i+1) ⟨by omega,fun j c2 hj hc2=>?_⟩ aH (.cons 0 Y (.cons 3 Y .nil)) Y (fun _ h=>h)
    rcases xAC j i with h|h
    · exact hi1 j c2 h hc2
    have e:j=i:=by omega
    subst e;rw[hc]at hc2;cases hc2;exact hb
  have hall:∀j c,s[j]?=some c→hZ j c=true:=fun j c hc=>hi1 j c gFW hc
  refine zz11 ?_;refine bV 45 Y (fun g45=>?_) (fun g45=>?_)
  · refine zz11 ?_;refine uAf ?_;refine zz1 ?_;refine jW ?_ _
    first
      | (rw [xAP, gG]
         simp only[decide_eq_true_eq];exact⟨fun h=>⟨hall,by rintro rfl;simp at*,by omega⟩,fun h=>by omega⟩)
      |(symm;rw[Bool.eq_false_iff];intro hbx;have:=((gG s).1 hbx).2.1;cases s <;> simp at*;done)
      | (symm; rw [Bool.eq_false_iff]; intro hbx
         have:=((gG s).1 hbx).1 i c hc;unfold hZ at this;simp only[Bool.or_eq_true,Bool.and_eq_true,decide_eq_true_eq]at this;have hl:iH c=false:=by rw[←tU];simp only[Bool.not_eq_true']at g22 g26;rw[g22,g26];rfl
         rw[hl]at this;simp at this;omega)
  refine zz8 ?_;refine uAf ?_;refine zz1 ?_;refine jW ?_ _
  first
    | (rw [xAP, gG]
       simp only[decide_eq_true_eq];exact⟨fun h=>⟨hall,by rintro rfl;simp at*,by omega⟩,fun h=>by omega⟩)
    |(symm;rw[Bool.eq_false_iff];intro hbx;have:=((gG s).1 hbx).2.1;cases s <;> simp at*;done)
    | (symm; rw [Bool.eq_false_iff]; intro hbx
       have:=((gG s).1 hbx).1 i c hc;unfold hZ at this;simp only[Bool.or_eq_true,Bool.and_eq_true,decide_eq_true_eq]at this;have hl:iH c=false:=by rw[←tU];simp only[Bool.not_eq_true']at g22 g26;rw[g22,g26];rfl
       rw[hl]at this;simp at this;omega)
def aDH{c:UInt8}(h1:97≤c.toNat)(h2:c.toNat≤122):kA 97 122 224 c=c+224:=x7 ⟨h1,h2⟩
def aG0{c:UInt8}(h:¬(97≤c.toNat∧c.toNat≤122)):kA 97 122 224 c=c:=x5 h
def sZ(s:aP):(rO s).length=s.length:=by simp[rO]
def oV{s:aP}{i:Nat}{c:UInt8}(hc:s[i]?=some c):rO (s.take (i+1))=rO (s.take i)++[kA 97 122 224 c]:=by
 rw[xAX,hc];simp[rO]
def aP8(s:List UInt8)(K:Hl)(hs:s.length≤140737488351232):Sp x3 68 [str s] K [] (Val (str (rO s)) K):=by
  refine bN Tryz.func68 Y Tryz.ntmps68 Y Y fun F w=>?_;refine zz17 ?_;refine eH (fun(i:Nat)=>i≤s.length) (fun i=>[(0,str s),(3,str (rO (s.take i))),(4,i64 i)]) (fun _=>K) (fun _=>[]) (fun i=>s.length - i) 0 (x9 _) aS Y (fun _ h=>h) ?_;intro i hi;refine zz9 ?_;refine aY 9 Y (fun h9=>?_) (fun h9=>?_)
  · have hilt:i < s.length:=by omega
    obtain⟨c,hc⟩:∃c,s[i]?=some c:=⟨s[i]'hilt,x4 hilt⟩;have hsl:(rO (s.take i)).length=i:=by rw[sZ,xA4];omega
    refine zz18 ?_;refine bV 17 Y (fun g17=>?_) (fun g17=>?_)
    · refine zz7 ?_;refine aY 20 Y (fun h20=>?_) (fun h20=>?_)
      · refine zz2 ?_;refine aA (kK (v:=.int .u8 ((c+224).toNat:Int)) (aBW (m:=c.toNat) (n:=32) aH aH Y Y) (by rw[UInt8.toNat_add];congr 1;show _=(((c.toNat+224) % 256:Nat):Int);omega)) Y (zz6 ?_);refine cJ (bM (z0:=[.int .u8 0]) iX tz5 Y Y Y Y dF) Y ?_;rintro _ K _ ⟨b25,rfl,rfl,rfl⟩ -;refine aA gDX Y ?_;refine aA (eJ Y Y gEC) Y (zz9 ?_);refine uAf ?_
        first
          | (have ht : kA 97 122 224 c = c + 224 := aDH aH aH
             exact cM (i+1) aH aH (.cons 0 Y (.cons 3 gF4 aS)) Y (fun _ h=>h))
          | (have ht : kA 97 122 224 c = c := aG0 aH
             exact cM (i+1) aH aH (.cons 0 Y (.cons 3 gF4 aS)) Y (fun _ h=>h))
      refine zz5 ?_;refine cJ (bM (z0:=[.int .u8 0]) iX tz5 Y Y Y Y dF) Y ?_;rintro _ K _ ⟨b25,rfl,rfl,rfl⟩ -;refine aA gDX Y ?_;refine aA (eJ Y Y gEC) Y (zz9 ?_);refine uAf ?_
      first
        | (have ht : kA 97 122 224 c = c + 224 := aDH aH aH
           exact cM (i+1) aH aH (.cons 0 Y (.cons 3 gF4 aS)) Y (fun _ h=>h))
        | (have ht : kA 97 122 224 c = c := aG0 aH
           exact cM (i+1) aH aH (.cons 0 Y (.cons 3 gF4 aS)) Y (fun _ h=>h))
    refine zz11 ?_;refine cJ (bM (z0:=[.int .u8 0]) iX tz5 Y Y Y Y dF) Y ?_;rintro _ K _ ⟨b25,rfl,rfl,rfl⟩ -;refine aA gDX Y ?_;refine aA (eJ Y Y gEC) Y (zz9 ?_);refine uAf ?_
    first
      | (have ht : kA 97 122 224 c = c + 224 := aDH aH aH
         exact cM (i+1) aH aH (.cons 0 Y (.cons 3 gF4 aS)) Y (fun _ h=>h))
      | (have ht : kA 97 122 224 c = c := aG0 aH
         exact cM (i+1) aH aH (.cons 0 Y (.cons 3 gF4 aS)) Y (fun _ h=>h))
  have hfin:s.take i=s:=xAI aH;rw[hfin];refine zz12 ?_;refine uAf ?_;refine zz1 ?_;exact⟨Y,Y,Y⟩
end Go.Proofs
end
section
attribute [local irreducible] Go.SL.T Go.SL.OL Go.SL.D Go.SL.DL Go.SL.Ev Go.SL.Ef Go.SL.EfS
namespace Go.Proofs
open Go Go.SL Go.Syn Go.Mach
open Go.Say (Co)
abbrev rsb(sb:Nat)(m:Msg)(hv:Value)(nm:Bool)(nv vv cv av:Value)(kp en:Bool)(e p:Int):Asn:=pt sb (bL [str m.from_,str m.to_,i64 m.size,hv,.bool nm,nv,vv,cv,av,.bool kp,.bool en,i64 e,i64 p] 91)
def stq(sb:Nat)(m:Msg)(hv:Value)(nm:Bool)(c:Co)(en:Bool)(e p:Int):Asn:=fun h=>∃nv vv cv av,Sat [rsb sb m hv nm nv vv cv av c.keep en e p,sl false (a7 9) nv (c.vars.map (·.1)),sl false (a7 9) vv (c.vars.map (·.2)),sl false (a7 9) cv (c.parts.take 10),sl false dP av c.acts] h
section
variable{E:Env}{c0:Code}{fr:Fr}{K:Hl}{L:List Asn}{Q:Post}{sb:Nat}{m:Msg}{hv:Value}{nm:Bool}{c:Co}{en:Bool}{e p:Int}
abbrev st5(sb:Nat)(m:Msg)(hv:Value)(nm:Bool)(c:Co)(en:Bool)(e p:Int)(nv vv cv av:Value):List Asn:=[rsb sb m hv nm nv vv cv av c.keep en e p,sl false (a7 9) nv (c.vars.map (·.1)),sl false (a7 9) vv (c.vars.map (·.2)),sl false (a7 9) cv (c.parts.take 10),sl false dP av c.acts]
def aWF{h:Hl}:Sat (stq sb m hv nm c en e p::L) h↔∃nv vv cv av,Sat (st5 sb m hv nm c en e p nv vv cv av++L) h:=by
 constructor
 ·rintro⟨a,l,⟨nv,vv,cv,av,hs⟩,hl,hd,rfl⟩;exact⟨nv,vv,cv,av,eY.2 ⟨a,l,hs,hl,hd,Y⟩⟩
 rintro⟨nv,vv,cv,av,hs⟩;obtain⟨a,l,ha,hl,hd,rfl⟩:=eY.1 hs;exact⟨a,l,⟨nv,vv,cv,av,ha⟩,hl,hd,Y⟩
def aQW{w0 w:World}{F:Hl}(i:In w0 F K (stq sb m hv nm c en e p::L) w):∃nv vv cv av,In w0 F K (st5 sb m hv nm c en e p nv vv cv av++L) w:=by
 obtain⟨x,hs,r⟩:=i.rep;obtain⟨nv,vv,cv,av,hs⟩:=aWF.1 hs;exact⟨nv,vv,cv,av,i.os,i.tape,i.output,i.size,x,hs,r⟩
attribute [local semireducible] Go.SL.T Go.SL.OL Go.SL.D Go.SL.DL Go.SL.Ev Go.SL.Ef Go.SL.EfS in
def rT(h:∀nv vv cv av,T E c0 fr K (st5 sb m hv nm c en e p nv vv cv av++L) Q):T E c0 fr K (stq sb m hv nm c en e p::L) Q:=fun a w f i=>let ⟨nv,vv,cv,av,j⟩:=aQW i;h nv vv cv av a w f j
def eO{nv vv cv av:Value}:∀h,Sat (rsb sb m hv nm nv vv cv av c.keep en e p::sl false (a7 9) nv (c.vars.map (·.1))::sl false (a7 9) vv (c.vars.map (·.2))::sl false (a7 9) cv (c.parts.take 10)::sl false dP av c.acts::L) h→Sat (stq sb m hv nm c en e p::L) h:=fun h hs=>aWF.2 ⟨nv,vv,cv,av,hs⟩
end
def Co.small{vars:List (aP×aP)}{parts:List aP}(h1:∀name,(vget vars name).length≤100000)(h2:∀x∈parts,x.length≤100000):pW vars parts:=MInv.small (s:=⟨[],true,vars,parts,[],0⟩) ⟨by simp,by simp,h1,h2⟩
def qI(sb:Nat)(m:Msg)(hv:Value)(nm:Bool)(nv vv cv av:Value)(kp en:Bool)(p:Int)(e2 p2:Int)(K:Hl):Sp x3 34 [ptr sb,i64 e2,i64 p2] K [rsb sb m hv nm nv vv cv av kp en 0 p] (Ret fun v K' L'=>v=.tuple #[]∧K'=K∧L'=[rsb sb m hv nm nv vv cv av kp true e2 p2]):=by
 refine bN Tryz.func34 Y Tryz.ntmps34 Y Y fun F w=>?_;refine zz9 ?_;refine aY 10 Y (fun h10=>?_) (fun h10=>?_)
 ·refine zz6 ?_;refine cD (bX n6 Y Y dA bR aZe Y) ?_;rintro _ K _ ⟨rfl,rfl⟩ -;refine zz8 ?_;refine uAb ?_;rintro _ K _ ⟨rfl,rfl⟩ -;refine zz6 ?_;refine uAk ?_;rintro _ K _ ⟨rfl,rfl⟩ -;refine zz2 ?_;exact⟨_,Y,Y,Y,Y⟩
 omega
def aUB(sb:Nat)(m:Msg)(hv:Value)(nm:Bool)(nv vv cv av:Value)(kp en:Bool)(e p:Int)(vars:List (aP×aP))(parts:List aP)(s:aP)(hs:s.length≤1000000)(hvn:vars.length≤1000000)(K:Hl):Sp x3 100 [ptr sb,str s] K [rsb sb m hv nm nv vv cv av kp en e p,sl false (a7 9) nv (vars.map (·.1)),sl false (a7 9) vv (vars.map (·.2)),sl false (a7 9) cv (parts.take 10)] (Ret fun v K' L'=>v=.tuple #[str (jY vars parts s).1,i64 (jY vars parts s).2]∧K'=K∧L'=[rsb sb m hv nm nv vv cv av kp en e p,sl false (a7 9) nv (vars.map (·.1)),sl false (a7 9) vv (vars.map (·.2)),sl false (a7 9) cv (parts.take 10)]):=by
 refine bN Tryz.func100 Y Tryz.ntmps100 Y Y fun F w=>?_;refine zz13 ?_;refine eH (fun(i:Nat)=>i≤s.length∧∀j c,j < i→s[j]?=some c→¬c.toNat=125) (fun i=>[(0,ptr sb),(1,str s),(6,i64 i)]) (fun _=>K) (fun _=>[rsb sb m hv nm nv vv cv av kp en e p,sl false (a7 9) nv (vars.map (·.1)),sl false (a7 9) vv (vars.map (·.2)),sl false (a7 9) cv (parts.take 10)]) (fun i=>s.length - i) 0 ⟨x9 _,fun j c h _=>by omega⟩ aS Y (fun _ h=>h) ?_;intro i ⟨hi0,hi1⟩;refine aI ?_;refine dX (fun(_:Unit)=>True) (fun _=>[(0,ptr sb),(1,str s),(6,i64 i),(20,.bool (decide (i < s.length∧¬((s[i]?).getD 0).toNat=125)))]) (fun _=>K) (fun _=>[rsb sb m hv nm nv vv cv av kp en e p,sl false (a7 9) nv (vars.map (·.1)),sl false (a7 9) vv (vars.map (·.2)),sl false (a7 9) cv (parts.take 10)]) ?_ ?_
 ·refine zz6 ?_;refine bV 15 Y (fun g15=>?_) (fun g15=>?_)
  ·obtain⟨c,hc⟩:∃c,s[i]?=some c:=⟨s[i]'(by omega),x4 aH⟩;refine zz10 ?_;exact a8 () trivial (.cons 0 Y (.cons 1 Y (.cons 6 Y (.cons 20 gD7 .nil)))) Y (fun _ h=>h)
  refine zz6 ?_;exact a8 () trivial (.cons 0 Y (.cons 1 Y (.cons 6 Y (.cons 20 gD7 .nil)))) Y (fun _ h=>h)
 intro _ _;refine aY 20 Y (fun h20=>?_) (fun h20=>?_)
 ·refine zz9 ?_;refine cM (i+1) ⟨by omega,fun j c hj hc=>?_⟩ aH aS Y (fun _ h=>h)
  rcases xAC j i with h|h
  ·exact hi1 j c h hc
  have e:j=i:=by omega
  subst e;rw[hc]at h20;exact h20.2
 have hb:=bB3 hi0 hi1 h20;refine zz14 ?_;refine aY 26 Y (fun h26=>?_) (fun h26=>?_)
 ·have hq:jY vars parts s=([],0):=aTT hb aH;refine zz8 ?_;refine j1 Y Y Y (xAB _) ?_;rw[hq];exact⟨_,Y,Y,Y,Y⟩
 have hne:¬i=s.length:=by omega
 refine zz6 ?_;refine aA (gL (n:=i) Tryz.underlying9 Y Y Y aH) Y (zz4 ?_);refine dX (fun(_:Unit)=>True) (fun _=>[(0,ptr sb),(6,i64 i),(7,str (s.take i)),(36,.bool (decide (i=1)&&optB (s[0]?) digB))]) (fun _=>K) (fun _=>[rsb sb m hv nm nv vv cv av kp en e p,sl false (a7 9) nv (vars.map (·.1)),sl false (a7 9) vv (vars.map (·.2)),sl false (a7 9) cv (parts.take 10)]) ?_ ?_
 ·refine zz4 ?_;refine bV 32 Y (fun g32=>?_) (fun g32=>?_)
  ·obtain rfl:i=1:=by omega
   obtain⟨c,hc⟩:∃c,s[0]?=some c:=⟨s[0]'(by omega),x4 aH⟩;have hc0:(s.take 1)[0]?=some c:=by rw[List.getElem?_take,x7 aH];exact hc
   refine zz5 ?_;refine cN Y Y (nE c _) Y (zz2 ?_);exact a8 () trivial (.cons 0 Y (.cons 6 Y (.cons 7 Y (.cons 36 (by first|(rw[hc];rfl)|(rw[xAJ (show ¬i=1 by omega)];rfl)) .nil)))) Y (fun _ h=>h)
  refine zz5 ?_;exact a8 () trivial (.cons 0 Y (.cons 6 Y (.cons 7 Y (.cons 36 (by first|(rw[hc];rfl)|(rw[xAJ (show ¬i=1 by omega)];rfl)) .nil)))) Y (fun _ h=>h)
 intro _ _;refine d9 36 Y (fun h36=>?_) (fun h36=>?_)
 ·rw[Bool.and_eq_true,decide_eq_true_eq]at h36;obtain⟨rfl,h36⟩:=h36;obtain⟨d,hd,hdd⟩:=s9 h36;have hdd:48≤d.toNat∧d.toNat≤57:=by simpa[digB]using hdd
  have hd0:(s.take 1)[0]?=some d:=by rw[List.getElem?_take,x7 aH];exact hd
  have hw1:s.take 1=[d]:=by rw[xAX,hd];rfl
  have hq:=aZ0 (vars:=vars) (parts:=parts) hb hne hw1 hdd;have hpt:=aZM (parts:=parts) (j:=d.toNat - 48) aH;refine zz4 ?_;refine aA (aBW (m:=d.toNat) (n:=48) aH aH Y Y) Y ?_;refine aA (qZ Tryz.underlying3 Tryz.underlying5 Y aH aH) Y (zz11 ?_);refine uAc ?_;refine zz3 ?_;refine aY 47 Y (fun h47=>?_) (fun h47=>?_)
  ·obtain⟨x,hx⟩:∃x,(parts.take 10)[d.toNat - 48]?=some x:=⟨(parts.take 10)[d.toNat - 48]'(by omega),x4 aH⟩;rw[←hpt,hx]at hq;refine zz7 ?_;refine aA (aX (k:=a7 9) (j:=d.toNat - 48) cB Y aL Y aH aH) Y ?_;refine uAg ?_;refine zz7 ?_;refine j1 Y Y Y (xAB _) ?_;rw[hq];exact⟨_,Y,Y,Y,Y⟩
  rw[←hpt,xAD aH]at hq;refine zz10 ?_;refine j1 Y Y Y (xAB _) ?_;rw[hq];exact⟨_,Y,Y,Y,Y⟩
 have hno:¬(∃d,s.take i=[d]∧48≤d.toNat∧d.toNat≤57):=(by rintro⟨d,h1,h2⟩;have hl:i=1:=(by have:=xAE List.length h1;rw[xA4]at this;simp at this;omega);subst hl;have h3:s[0]?=some d:=(by have:=xAE (fun l:aP=>l[0]?) h1;simpa using this);rw[h3,xAM rfl,Bool.true_and]at h36;have h4:digB d=false:=h36;simp[digB,h2.1,h2.2]at h4);have hq:=aQA (vars:=vars) (parts:=parts) hb hne hno;refine zz5 ?_;refine cN Y Y (aEZ _ _ gEW) Y (zz7 ?_);refine aA gC3 Y (zz2 ?_)
 first|refine aY 58 Y (fun h58=>?_) (fun h58=>?_)|refine d9 58 Y (fun h58=>?_) (fun h58=>?_)
 ·have hnd:named (s.take i)=false:=(by revert h58;cases named (s.take i) <;> simp);rw[x5 (by simp[hnd])]at hq;refine zz8 ?_;refine j1 Y Y Y (xAB _) ?_;rw[hq];exact⟨_,Y,Y,Y,Y⟩
 have hnd:named (s.take i)=true:=(by revert h58;cases named (s.take i) <;> simp);rw[x7 hnd]at hq;refine zz5 ?_;refine cN Y Y (kI _ _ gEW) Y (zz10 ?_);refine eH (fun(k:Nat)=>k≤vars.length∧∀j,j < k→(vars.map (·.1))[j]?≠some (eD (s.take i))) (fun k=>[(0,ptr sb),(6,i64 i),(7,str (eD (s.take i))),(10,i64 k)]) (fun _=>K) (fun _=>[rsb sb m hv nm nv vv cv av kp en e p,sl false (a7 9) nv (vars.map (·.1)),sl false (a7 9) vv (vars.map (·.2)),sl false (a7 9) cv (parts.take 10)]) (fun k=>vars.length - k) 0 ⟨x9 _,fun j h=>by omega⟩ aS Y (fun _ h=>h) ?_;intro k ⟨hk0,hk1⟩;refine zz8 ?_;refine uAr ?_;refine zz3 ?_;refine aY 67 Y (fun h67=>?_) (fun h67=>?_)
 ·have hkl:k < vars.length:=gFI;obtain⟨x,hx⟩:∃x,vars[k]?=some x:=⟨vars[k]'hkl,x4 hkl⟩;have hx1:(vars.map (·.1))[k]?=some x.1:=by simp[hx]
  have hx2:(vars.map (·.2))[k]?=some x.2:=by simp[hx]
  refine zz11 ?_;refine aA (aX (k:=a7 9) (j:=k) cB Y aL Y Y gDQ) Y ?_;refine aA (cE (o:=0) (k:=a7 9) ts9 Y aL hx1 Y) Y (zz4 ?_);refine aY 78 Y (fun h78=>?_) (fun h78=>?_)
  ·rw[aRL (vars:=vars) (i:=k) (v:=x.2) (by rw[hx,←show x.1=eD (s.take i)from h78]) hk1]at hq;refine zz7 ?_;refine aA (aX (k:=a7 9) (j:=k) cB Y aL Y Y gDQ) Y ?_;refine aA (cE (o:=0) (k:=a7 9) ts9 Y aL hx2 Y) Y (zz12 ?_);refine j1 Y Y Y (xAB _) ?_;rw[hq];exact⟨_,Y,Y,Y,Y⟩
  refine zz8 ?_;refine cM (k+1) ⟨by omega,fun j hj hc=>?_⟩ aH aS Y (fun _ h=>h)
  rcases xAC j k with h|h
  ·exact hk1 j h hc
  have e:j=k:=by omega
  subst e;rw[hx1]at hc;exact h78 (xAY hc)
 rw[aLL (fun j hj=>hk1 j gFI)]at hq;refine zz14 ?_;refine j1 Y Y Y (xAB _) ?_;rw[hq];exact⟨_,Y,Y,Y,Y⟩
def pK(sb:Nat)(m:Msg)(hv:Value)(nm:Bool)(nv vv cv av:Value)(kp en:Bool)(e p:Int)(vars:List (aP×aP))(parts:List aP)(s:aP)(hs:s.length≤100000)(hvn:vars.length≤1000000)(hsm:pW vars parts)(K:Hl):Sp x3 63 [ptr sb,str s] K [rsb sb m hv nm nv vv cv av kp en e p,sl false (a7 9) nv (vars.map (·.1)),sl false (a7 9) vv (vars.map (·.2)),sl false (a7 9) cv (parts.take 10)] (Ret fun v K' L'=>v=str (dH nm vars parts s)∧K'=K∧L'=[rsb sb m hv nm nv vv cv av kp en e p,sl false (a7 9) nv (vars.map (·.1)),sl false (a7 9) vv (vars.map (·.2)),sl false (a7 9) cv (parts.take 10)]):=by
 refine bN Tryz.func63 Y Tryz.ntmps63 Y Y fun F w=>?_;refine zz12 ?_;refine aA gC3 Y (zz2 ?_)
 first|refine aY 13 Y (fun h13=>?_) (fun h13=>?_)|refine d9 13 Y (fun h13=>?_) (fun h13=>?_)
 ·have hnm:nm=false:=(by revert h13;cases nm <;> simp);have hq:dH nm vars parts s=s:=by rw[aEO,x5 (by simp[hnm])]
  refine zz9 ?_
  first
   |(rw[hq];exact⟨_,Y,Y,Y,Y⟩)
   |exact gCS
 have hnm:nm=true:=(by revert h13;cases nm <;> simp);have hq:dH nm vars parts s=(exp2 vars parts s).take 1024:=by rw[aEO,x7 hnm]
 refine zz14 ?_;refine iR (fun(i:Nat) (acc:aP)=>i≤s.length∧acc.length≤100001*i∧exp2 vars parts s=acc++exp2 vars parts (s.drop i)) (fun i acc=>[(0,ptr sb),(1,str s),(5,str acc),(6,i64 i)]) (fun _ _=>K) (fun _ _=>[rsb sb m hv nm nv vv cv av kp en e p,sl false (a7 9) nv (vars.map (·.1)),sl false (a7 9) vv (vars.map (·.2)),sl false (a7 9) cv (parts.take 10)]) (fun i _=>s.length - i) 0 [] ⟨x9 _,by simp,by simp⟩ aS Y (fun _ h=>h) ?_;intro i acc ⟨hi0,hi1,hi2⟩;refine zz9 ?_;refine aY 18 Y (fun h18=>?_) (fun h18=>?_)
 ·obtain⟨c,hc⟩:∃c,s[i]?=some c:=⟨s[i]'(by omega),x4 aH⟩;refine zz13 ?_;refine dX (fun(q:aP×Nat)=>q.1.length≤100000∧q.2≤s.length - i - 2∧((c.toNat=36∧((s[i+1]?).getD 0).toNat=123)→q=jY vars parts (s.drop (i+2)))∧(0 < q.2→c.toNat=36∧((s[i+1]?).getD 0).toNat=123∧i+2≤s.length)) (fun q=>[(0,ptr sb),(1,str s),(5,str acc),(6,i64 i),(7,i64 q.2),(8,str q.1)]) (fun _=>K) (fun _=>[rsb sb m hv nm nv vv cv av kp en e p,sl false (a7 9) nv (vars.map (·.1)),sl false (a7 9) vv (vars.map (·.2)),sl false (a7 9) cv (parts.take 10)]) ?_ ?_
  ·refine dX (fun(_:Unit)=>True) (fun _=>[(0,ptr sb),(1,str s),(5,str acc),(6,i64 i),(7,i64 0),(8,str []),(36,.bool (decide (c.toNat=36∧((s[i+1]?).getD 0).toNat=123)))]) (fun _=>K) (fun _=>[rsb sb m hv nm nv vv cv av kp en e p,sl false (a7 9) nv (vars.map (·.1)),sl false (a7 9) vv (vars.map (·.2)),sl false (a7 9) cv (parts.take 10)]) ?_ ?_
   ·refine zz7 ?_;refine bV 24 Y (fun g24=>?_) (fun g24=>?_)
    ·obtain⟨d,hd⟩:∃d,s[i+1]?=some d:=⟨s[i+1]'(by omega),x4 aH⟩;refine zz10 ?_;refine bV 30 Y (fun g30=>?_) (fun g30=>?_)
     ·refine zz12 ?_;exact a8 () trivial (.cons 0 Y (.cons 1 Y (.cons 5 Y (.cons 6 Y (.cons 7 Y (.cons 8 Y (.cons 36 gDE .nil))))))) Y (fun _ h=>h)
     refine zz7 ?_;exact a8 () trivial (.cons 0 Y (.cons 1 Y (.cons 5 Y (.cons 6 Y (.cons 7 Y (.cons 8 Y (.cons 36 gDE .nil))))))) Y (fun _ h=>h)
    have hd:s[i+1]?=none:=xAD aH;refine zz13 ?_;exact a8 () trivial (.cons 0 Y (.cons 1 Y (.cons 5 Y (.cons 6 Y (.cons 7 Y (.cons 8 Y (.cons 36 gDE .nil))))))) Y (fun _ h=>h)
   intro _ _;refine aY 36 Y (fun h36=>?_) (fun h36=>?_)
   ·have hi1l:i+2≤s.length:=(by rcases xAC (i+1) s.length with h|h;omega;(have h2:=h36.2;rw[xAD h]at h2;cases h2));refine zz5 ?_;refine aA (l6 (m:=i+2) Tryz.underlying9 Y Y aH aH) Y ?_;refine bA Y Y (aUB sb m hv nm nv vv cv av kp en e p vars parts (s.drop (i+2)) gD6 hvn _) bS Y ?_;rintro _ K _ ⟨rfl,rfl,rfl⟩ -;refine zz6 ?_
    first
     |exact a8 (jY vars parts (s.drop (i+2))) ⟨(by unfold jY;split;simp;split;exact hsm _;simp),gGF,fun _=>Y,fun _=>⟨h36.1,h36.2,hi1l⟩⟩ aS Y (fun _ h=>h)
     |exact a8 ([],0) ⟨by simp,by simp,fun h=>absurd h h36,fun h=>absurd h (by simp)⟩ aS Y (fun _ h=>h)
   refine aW ?_
   first
    |exact a8 (jY vars parts (s.drop (i+2))) ⟨(by unfold jY;split;simp;split;exact hsm _;simp),gGF,fun _=>Y,fun _=>⟨h36.1,h36.2,hi1l⟩⟩ aS Y (fun _ h=>h)
    |exact a8 ([],0) ⟨by simp,by simp,fun h=>absurd h h36,fun h=>absurd h (by simp)⟩ aS Y (fun _ h=>h)
  intro q ⟨hq1,hq2,hq3,hq4⟩;have hz:(c.toNat=36∧((s[i+1]?).getD 0).toNat=123)→(jY vars parts (s.drop (i+2))).2=q.2:=fun h=>by rw[←hq3 h]
  have hy:0 < q.2→exp2 vars parts (s.drop i)=q.1++exp2 vars parts (s.drop (i+2+q.2)):=(fun h0=>by obtain⟨h1,h2,h3⟩:=hq4 h0;obtain⟨d,hd⟩:∃d,s[i+1]?=some d:=⟨s[i+1]'(by omega),x4 aH⟩;rw[hd]at h2;have e:=hq3 ⟨h1,by rw[hd];exact h2⟩;have h9:=bDA hc h1 hd h2 (by rw[←e];exact h0);rw[←e]at h9;exact h9);refine zz7 ?_;refine aY 47 Y (fun h47=>?_) (fun h47=>?_)
  ·refine zz7 ?_;refine aA (aBU (fW Tryz.underlying9 Y Y Y Y Y aH aH) hc) Y ?_;refine aA (eJ Y Y gC9) Y (zz13 ?_)
   first
    |exact cW (i+1) (acc++[c]) ⟨by omega,by rw[xAF,xA6];omega,by rw[hi2,aVT hc (fun h=>by first|(have h9:=hz h;omega)|omega),xA0];rfl⟩ aH aS Y (fun _ h=>h)
    |exact cW (i+2+q.2) (acc++q.1) ⟨by omega,by rw[xAF];omega,by rw[hi2,hy aH,xA0]⟩ aH aS Y (fun _ h=>h)
  refine zz6 ?_;refine aA (eJ Y Y gC9) Y (zz11 ?_)
  first
   |exact cW (i+1) (acc++[c]) ⟨by omega,by rw[xAF,xA6];omega,by rw[hi2,aVT hc (fun h=>by first|(have h9:=hz h;omega)|omega),xA0];rfl⟩ aH aS Y (fun _ h=>h)
   |exact cW (i+2+q.2) (acc++q.1) ⟨by omega,by rw[xAF];omega,by rw[hi2,hy aH,xA0]⟩ aH aS Y (fun _ h=>h)
 obtain rfl:i=s.length:=by omega
 rw[List.drop_length,aBY,xAL]at hi2;rw[hi2]at hq;refine zz13 ?_;refine aY 66 Y (fun h66=>?_) (fun h66=>?_)
 ·refine zz2 ?_;refine aA (gL (n:=1024) Tryz.underlying9 Y Y Y aH) Y (zz11 ?_)
  first
   |(rw[hq];exact⟨_,Y,Y,Y,Y⟩)
   |exact gCS
 refine zz10 ?_
 first
  |(rw[hq];exact⟨_,Y,Y,Y,Y⟩)
  |exact gCS
def bBQ{s:aP}{i:Nat}{a:Int}(hil:i=s.length)(hi1:∀(j:Nat) (c:UInt8),j < i→s[j]?=some c→fS c=false)(hi2:(a= -1∧∀j,j < i→¬is64 s j)∨∃n:Nat,a=n∧n < i∧is64 s n∧∀j,j < i→¬j=n→¬is64 s j):fM s=decide (0 < a∧a < (s.length:Int) - 1∧(s.length:Int)≤32):=by
 subst hil;rcases hi2 with ⟨rfl,h⟩|⟨n,rfl,h1,h2,h3⟩
 ·rw[aW3 h,xAJ aH]
 rw[bBR h2 h3 (fun j c hc=>hi1 j c (xAG.1 hc).1 hc),decide_eq_decide];omega
def aTN(s:aP)(hs:s.length≤1000000)(K:Hl):Sp x3 65 [str s] K [] (Val (.bool (fM s)) K):=by
 refine bN Tryz.func65 Y Tryz.ntmps65 Y Y fun F w=>?_;refine zz17 ?_;refine iR (fun(i:Nat) (a:Int)=>i≤s.length∧(∀(j:Nat) (c:UInt8),j < i→s[j]?=some c→fS c=false)∧((a= -1∧∀j,j < i→¬is64 s j)∨∃n:Nat,a=n∧n < i∧is64 s n∧∀j,j < i→¬j=n→¬is64 s j)) (fun i a=>[(0,str s),(3,i64 a),(4,i64 i)]) (fun _ _=>K) (fun _ _=>[]) (fun i _=>s.length - i) 0 (-1) ⟨x9 _,fun j c h _=>by omega,.inl ⟨rfl,fun j h=>by omega⟩⟩ aS Y (fun _ h=>h) ?_;intro i a ⟨hi0,hi1,hi2⟩;refine zz9 ?_;refine aY 9 Y (fun h9=>?_) (fun h9=>?_)
 ·obtain⟨c,hc⟩:∃c,s[i]?=some c:=⟨s[i]'(by omega),x4 aH⟩;refine zz9 ?_;refine cN Y Y (aEX c _) Y (zz4 ?_);refine dX (fun(_:Unit)=>fS c=true∨(fS c=false∧True)) (fun _=>[(0,str s),(3,i64 a),(4,i64 i),(26,.bool (fS c||(decide (c.toNat=64)&&decide (0≤a))))]) (fun _=>K) (fun _=>[]) ?_ ?_
  ·refine zz3 ?_;refine kN 17 Y (fun g17=>?_) (fun g17=>?_)
   ·have hq:fM s=false:=aF9 hc g17;refine zz10 ?_;exact a8 () gFD (.cons 0 Y (.cons 3 Y (.cons 4 Y (.cons 26 gD0 .nil)))) Y (fun _ h=>h)
   have hnb:fS c=false:=g17;refine zz10 ?_;refine bV 22 Y (fun g22=>?_) (fun g22=>?_)
   ·refine zz8 ?_;exact a8 () gFD (.cons 0 Y (.cons 3 Y (.cons 4 Y (.cons 26 gD0 .nil)))) Y (fun _ h=>h)
   refine zz6 ?_;exact a8 () gFD (.cons 0 Y (.cons 3 Y (.cons 4 Y (.cons 26 gD0 .nil)))) Y (fun _ h=>h)
  intro _ hbl;refine d9 26 Y (fun h26=>?_) (fun h26=>?_)
  ·have hq:fM s=false:=(by cases hbk:fS c with|true=>exact aF9 hc hbk|false=>rw[hbk,Bool.false_or,Bool.and_eq_true,decide_eq_true_eq,decide_eq_true_eq]at h26;rcases hi2 with ⟨h,_⟩|⟨n,h1,h2,h3,h4⟩;exact absurd h26.2 aH;exact bBS h2 h3 (fun j hj=>h4 j aH aH) (by unfold is64;rw[hc];exact h26.1));refine zz12 ?_;refine uAf ?_;refine zz1 ?_;exact jW hq.symm _
  rw[Bool.or_eq_false_iff]at h26;obtain⟨hnb,h26⟩:=h26;have h26:c.toNat=64→a < 0:=(fun h=>by rw[xAM h,Bool.true_and,decide_eq_false_iff_not]at h26;omega);refine zz10 ?_;refine aY 30 Y (fun h30=>?_) (fun h30=>?_)
  ·have h26:=h26 aH;refine zz11 ?_;have hb2:∀(j:Nat) (c:UInt8),j < i+1→s[j]?=some c→fS c=false:=(fun j d hj hd=>by rcases xAC j i with h|h;exact hi1 j d h hd;(have e:j=i:=by omega);subst e;rw[hc]at hd;cases hd;exact hnb)
   first
    |exact gB2
    |exact gBQ
  have hn64:¬is64 s i:=(by unfold is64;rw[hc];show ¬c.toNat=64;omega);refine zz8 ?_;have hb2:∀(j:Nat) (c:UInt8),j < i+1→s[j]?=some c→fS c=false:=(fun j d hj hd=>by rcases xAC j i with h|h;exact hi1 j d h hd;(have e:j=i:=by omega);subst e;rw[hc]at hd;cases hd;exact hnb)
  first
   |exact gB2
   |exact gBQ
 have hil:i=s.length:=by omega
 have hend:fM s=decide (0 < a∧a < (s.length:Int) - 1∧(s.length:Int)≤32):=bBQ hil hi1 hi2;refine zz10 ?_;refine bV 34 Y (fun g34=>?_) (fun g34=>?_)
 ·refine zz12 ?_;refine bV 41 Y (fun g41=>?_) (fun g41=>?_)
  ·refine zz11 ?_;refine uAf ?_;refine zz1 ?_;refine jW ?_ _
   rw[hend]
   first|(symm;exact xAJ (fun h=>by omega))|(rw[decide_eq_decide];omega)
  refine zz8 ?_;refine uAf ?_;refine zz1 ?_;refine jW ?_ _
  rw[hend]
  first|(symm;exact xAJ (fun h=>by omega))|(rw[decide_eq_decide];omega)
 refine zz15 ?_;refine uAf ?_;refine zz1 ?_;refine jW ?_ _
 rw[hend]
 first|(symm;exact xAJ (fun h=>by omega))|(rw[decide_eq_decide];omega)
def CInv.small{c:Co}(h:CInv c):pW c.vars c.parts:=Co.small h.vars h.parts
def addA(x:gA)(acts:List gA):Except Int (List gA):=if x∈acts then .ok acts else if ∃b∈acts,x.1=4∨b.1=4 then .error 10 else if acts.length=6 then .error 11 else .ok (acts++[x])
def bHS{x:gA}{acts:List gA}(h:x∈acts):addA x acts=.ok acts:=x7 h
def aRO{x:gA}{acts:List gA}(h:¬x∈acts)(h2:∃b∈acts,x.1=4∨b.1=4):addA x acts=.error 10:=by unfold addA;rw[x5 h,x7 h2]
def aW2{x:gA}{acts:List gA}(h:¬x∈acts)(h2:¬ ∃b∈acts,x.1=4∨b.1=4)(h3:acts.length=6):addA x acts=.error 11:=by unfold addA;rw[x5 h,x5 h2,x7 h3]
def bBN{x:gA}{acts:List gA}(h:¬x∈acts)(h2:¬ ∃b∈acts,x.1=4∨b.1=4)(h3:¬acts.length=6):addA x acts=.ok (acts++[x]):=by unfold addA;rw[x5 h,x5 h2,x5 h3]
def sto(sb:Nat)(m:Msg)(hv:Value)(nm:Bool)(r:Res (Bool×Co)):Asn:=match r with
 | .error x=>fun h=>∃c,stq sb m hv nm c true x.1 x.2 h
 | .ok q=>stq sb m hv nm q.2 q.1 0 0
def aF0{sb:Nat}{m:Msg}{hv:Value}{nm:Bool}{c:Co}{e p:Int}{L:List Asn}:∀h,Sat (stq sb m hv nm c true e p::L) h→Sat (sto sb m hv nm (.error (e,p))::L) h:=fun h ⟨a,l,ha,hl,hd,e⟩=>⟨a,l,⟨c,ha⟩,hl,hd,e⟩
def aKN(sb:Nat)(m:Msg)(hv:Value)(nm:Bool)(nv vv cv av:Value)(kp en:Bool)(p0:Int)(acts:List gA)(x:gA)(p:Int)(hl:acts.length≤6)(K:Hl):Sp x3 66 [ptr sb,.agg #[i64 x.1,str x.2],i64 p] K [rsb sb m hv nm nv vv cv av kp en 0 p0,sl false dP av acts]
  (Ret fun v K' L'=>v=.tuple #[]∧K'=K∧∃av',L'=match addA x acts with| .ok l=>[rsb sb m hv nm nv vv cv av' kp en 0 p0,sl false dP av' l]| .error e=>[rsb sb m hv nm nv vv cv av' kp true e p,sl false dP av' acts]):=by
 refine bN Tryz.func66 Y Tryz.ntmps66 Y Y fun F w=>?_;refine zz3 ?_;rintro _ K _ ⟨b4,rfl,rfl,rfl⟩ -;refine zz9 ?_;refine eH (fun(i:Nat)=>i≤acts.length∧∀j,j < i→acts[j]?≠some x) (fun i=>[(0,ptr sb),(2,i64 p),(4,ptr b4),(6,i64 i)]) (fun _=>K) (fun _=>[pt b4 (bL [i64 x.1,str x.2] 75),rsb sb m hv nm nv vv cv av kp en 0 p0,sl false dP av acts]) (fun i=>acts.length - i) 0 ⟨x9 _,fun j h=>by omega⟩ aS Y (fun _ h=>h) ?_;intro i ⟨hi0,hi1⟩;refine zz8 ?_;refine aA (bU (k:=dP) Y Tryz.underlying49 Y aL) Y (zz3 ?_);refine aY 14 Y (fun h14=>?_) (fun h14=>?_)
 ·obtain⟨y,hy⟩:∃y,acts[i]?=some y:=⟨acts[i]'(by omega),x4 aH⟩;have hil:i < acts.length:=by omega
  refine zz5 ?_;refine cZ (anc:=[0,1,3,7,0,31,63,0,255]) (ord:=[0,1,2,3,4,5,6,7,8]) [] [] mixed gC5 (cQ _) (zz5 ?_);refine aJ Y Y (.none Y) Y Y (aX (k:=dP) (j:=i) jU Y aL Y Y hil) Y ?_;refine aJ Y Y (.none Y) Y Y (fA (n:=0) (k:=dP) mK Y aL hy) Y (zz1 ?_);refine aJ Y Y (.none Y) Y Y (aJ1 (a:=y) (c:=x) Y Y) Y (zz2 ?_);refine aY 25 Y (fun h25=>?_) (fun h25=>?_)
  ·have hq:=bHS (x:=x) (acts:=acts) (h25▸x8 hy);refine zz6 ?_;refine uBg ?_;refine jZ Y (xAB _) ?_;rw[hq];exact⟨_,Y,Y,Y,av,Y⟩
  refine zz8 ?_;refine cM (i+1) ⟨by omega,fun j hj=>?_⟩ aH aS Y (fun _ h=>h)
  rcases xAC j i with h|h
  ·exact hi1 j h
  have e:j=i:=by omega
  subst e;rw[hy];intro e;exact h25 (xAY e)
 have hno:¬x∈acts:=(fun hm=>by obtain⟨j,hj⟩:=xA3 hm;exact hi1 j gFS hj);refine zz12 ?_;refine eH (fun(i:Nat)=>i≤acts.length∧∀j,j < i→∀y,acts[j]?=some y→¬(x.1=4∨y.1=4)) (fun i=>[(0,ptr sb),(2,i64 p),(4,ptr b4),(7,i64 i)]) (fun _=>K) (fun _=>[pt b4 (bL [i64 x.1,str x.2] 75),rsb sb m hv nm nv vv cv av kp en 0 p0,sl false dP av acts]) (fun i=>acts.length - i) 0 ⟨x9 _,fun j h=>by omega⟩ aS Y (fun _ h=>h) ?_;intro i ⟨hi0,hi1⟩;refine zz8 ?_;refine aA (bU (k:=dP) Y Tryz.underlying49 Y aL) Y (zz3 ?_);refine aY 32 Y (fun h32=>?_) (fun h32=>?_)
 ·obtain⟨y,hy⟩:∃y,acts[i]?=some y:=⟨acts[i]'(by omega),x4 aH⟩;have hil:i < acts.length:=by omega
  refine zz4 ?_;refine dX (fun(_:Unit)=>True) (fun _=>[(0,ptr sb),(2,i64 p),(4,ptr b4),(7,i64 i),(48,.bool (decide (y.1=4)||decide (x.1=4)))]) (fun _=>K) (fun _=>[pt b4 (bL [i64 x.1,str x.2] 75),rsb sb m hv nm nv vv cv av kp en 0 p0,sl false dP av acts]) ?_ ?_
  ·refine zz6 ?_;refine aA (aX (k:=dP) (j:=i) jU Y aL Y Y hil) Y ?_;refine aA (dU (k:=dP) (j:=i) jH Y aL hil) Y ?_;refine aA (fD (k:=dP) ts3 Y aL hy Y) Y (zz2 ?_);refine bV 44 Y (fun g44=>?_) (fun g44=>?_)
   ·refine zz5 ?_;exact a8 () trivial (.cons 0 Y (.cons 2 Y (.cons 4 Y (.cons 7 Y (.cons 48 gFM .nil))))) Y (fun _ h=>h)
   refine zz8 ?_;exact a8 () trivial (.cons 0 Y (.cons 2 Y (.cons 4 Y (.cons 7 Y (.cons 48 gFM .nil))))) Y (fun _ h=>h)
  intro _ _;refine d9 48 Y (fun h48=>?_) (fun h48=>?_)
  ·rw[Bool.or_eq_true,decide_eq_true_eq,decide_eq_true_eq]at h48;have hq:=aRO (x:=x) (acts:=acts) hno ⟨y,x8 hy,h48.symm⟩;refine zz4 ?_;refine bA Y Y (qI sb m hv nm nv vv cv av kp en p0 10 p _) bS Y ?_;rintro _ K _ ⟨rfl,rfl,rfl⟩ -;refine zz8 ?_;refine aQ (aM bW (aM cI bF)) ?_;refine jZ Y (xAB _) ?_;rw[hq];exact⟨_,Y,Y,Y,av,Y⟩
  rw[Bool.or_eq_false_iff,decide_eq_false_iff_not,decide_eq_false_iff_not]at h48;refine zz8 ?_;refine cM (i+1) ⟨by omega,fun j hj=>?_⟩ aH aS Y (fun _ h=>h)
  rcases xAC j i with h|h
  ·exact hi1 j h
  have e:j=i:=by omega
  subst e;intro z hz;rw[hy]at hz;cases hz;omega
 have hnc:¬ ∃b∈acts,x.1=4∨b.1=4:=(by rintro⟨b,hb,hh⟩;obtain⟨j,hj⟩:=xA3 hb;exact hi1 j gFS b hj hh);refine zz12 ?_;refine aA (bU (k:=dP) Y Tryz.underlying49 Y aL) Y (zz3 ?_);refine aY 57 Y (fun h57=>?_) (fun h57=>?_)
 ·have hq:=aW2 (x:=x) (acts:=acts) hno hnc aH;refine zz4 ?_;refine bA Y Y (qI sb m hv nm nv vv cv av kp en p0 11 p _) bS Y ?_;rintro _ K _ ⟨rfl,rfl,rfl⟩ -;refine zz4 ?_;refine aQ (aM bW (aM cI bF)) ?_;refine jZ Y (xAB _) ?_;rw[hq];exact⟨_,Y,Y,Y,av,Y⟩
 have hq:=bBN (x:=x) (acts:=acts) hno hnc aH;refine zz2 ?_;refine cZ (anc:=[0,0,2,6,14,0,32,126,255,511,1023]) (ord:=[0,1,2,3,4,5,6,7,8,9,10]) [6,7,10] [10] mixed gC5 (aM bW (aM bW bF)) (zz6 ?_);refine uK Y Y (.none Y) Y Y (bM (z0:=[.int .i64 0,(str [])]) jU aIV Y Y Y Y dF) Y ?_;rintro _ K _ ⟨b67,rfl,rfl,rfl⟩ -;refine⟨_,(show Tks _ _ _ from (aM cI (aM cI bF))).sat,?_⟩
 refine uK Y Y (.none Y) Y Y (dQ (k:=dP) (ys:=[x]) n3 Y Y (.there (.there (.there .here))) (fun w j=>dJ Tryz.underlying49 (SeesSl.at (k:=dP) (.blk aL Y Y) j)) gC7 gC9) Y ?_;rintro v68 K _ ⟨rfl,rfl,ho68⟩ -;refine⟨_,(show Tks _ _ _ from (aM cI (aM cI bF))).sat,?_⟩
 refine zz2 ?_;refine mT Y Y (.none Y) Y (bX lN Y Y dA bR aZe Y) ?_;rintro _ K _ ⟨rfl,rfl⟩ -;refine cL ?_;refine uBg ?_;refine zz1 ?_;rw[hq];exact⟨_,Y,Y,Y,v68,Y⟩
def aE4(size n tag:Int)(K:Hl):Sp x3 62 [i64 size,i64 n,i64 tag] K [] (Val (.bool (if tag=1 then decide (n < size)else decide (size < n))) K):=by
 refine bN Tryz.func62 Y Tryz.ntmps62 Y Y fun F w=>?_;refine zz12 ?_;refine aY 8 Y (fun h8=>?_) (fun h8=>?_)
 ·refine zz11 ?_
  first
   |(refine jW ?_ _;rw[x7 b0])
   |(refine jW ?_ _;rw[x5 b0])
 refine zz12 ?_
 first
  |(refine jW ?_ _;rw[x7 b0])
  |(refine jW ?_ _;rw[x5 b0])
section
variable{nm:Bool}{m:Msg}{k p:Int}{a:aP}{c:Co}
def wX{e:Int×Int}(h:Say.act k (Say.actArg nm k a c) p c=.error e):Say.cmd nm m (.act k a p) c=.error e:=by simp only[Say.cmd,h]
def aR4{d:Co}(h:Say.act k (Say.actArg nm k a c) p c=.ok d):Say.cmd nm m (.act k a p) c=.ok (false,d):=by simp only[Say.cmd,h]
def bHR{u:aP}(h:k=2)(h2:sT u=false):Say.act k u p c=.error (8,p):=by unfold Say.act;rw[x7 ⟨h,h2⟩]
def bHQ{u:aP}(h:k=3)(h2:fM u=false):Say.act k u p c=.error (9,p):=by unfold Say.act;rw[x5 aH,x7 ⟨h,h2⟩]
def qM{u:aP}{x:gA}(h1:k=2→sT u=true)(h2:k=3→fM u=true)(hx:Say.actX k u=x):Say.act k u p c=match addA x c.acts with| .ok l=>.ok {c with keep:=false,acts:=l}| .error e=>.error (e,p):=by
 unfold Say.act;rw[x5 (fun h=>by rw[h1 h.1]at h;cases h.2),x5 (fun h=>by rw[h2 h.1]at h;cases h.2),hx];unfold Say.addX addA;split
 ·rfl
 split
 ·rfl
 split <;> rfl
def uQ{u:aP}(h:k=4)(hl:48 < u.length):Say.actX k u=(k,u.take 48):=by unfold Say.actX;rw[x7 h]
def uR{u:aP}(h:¬k=4∨u.length≤48):Say.actX k u=(k,u):=by
 unfold Say.actX;split
 ·rw[xAI aH]
 rfl
end
def u3(sb:Nat)(m:Msg)(hv:Value)(nm:Bool)(c:Co)(k:Int)(arg:aP)(p:Int)(hc:CInv c)(hk:1≤k∧k≤4)(hal:arg.length≤100000)(K:Hl):Sp x3 37 [ptr sb,i64 k,str arg,i64 p] K [stq sb m hv nm c false 0 0] (Ret fun v K' L'=>v=.tuple #[]∧K'=K∧L'=[sto sb m hv nm (Say.cmd nm m (.act k arg p) c)]):=by
 refine bN Tryz.func37 Y Tryz.ntmps37 Y Y fun F w=>?_;have hvn:=hc.vn;refine rT fun nv vv cv av=>?_;refine zz5 ?_;refine dX (fun(u:aP)=>u.length≤100000∧u=Say.actArg nm k arg c) (fun u=>[(0,ptr sb),(1,i64 k),(3,i64 p),(8,str u)]) (fun _=>K) (fun _=>[rsb sb m hv nm nv vv cv av c.keep false 0 0,sl false (a7 9) nv (c.vars.map (·.1)),sl false (a7 9) vv (c.vars.map (·.2)),sl false (a7 9) cv (c.parts.take 10),sl false dP av c.acts]) ?_ ?_
 ·refine zz6 ?_;refine aY 12 Y (fun h12=>?_) (fun h12=>?_)
  ·refine zz3 ?_;refine bA Y Y (pK sb m hv nm nv vv cv av c.keep false 0 0 c.vars c.parts arg hal hc.vn hc.small _) bS Y ?_;rintro _ K _ ⟨rfl,rfl,rfl⟩ -;refine zz2 ?_
   first
    |exact a8 _ ⟨gX hal,by unfold Say.actArg;rw[x5 h12]⟩ aS Y (fun _ h=>h)
    |exact a8 [] ⟨by simp,by unfold Say.actArg;rw[x7 (xBD.1 h12)]⟩ aS Y (fun _ h=>h)
  refine aW ?_
  first
   |exact a8 _ ⟨gX hal,by unfold Say.actArg;rw[x5 h12]⟩ aS Y (fun _ h=>h)
   |exact a8 [] ⟨by simp,by unfold Say.actArg;rw[x7 (xBD.1 h12)]⟩ aS Y (fun _ h=>h)
 intro u ⟨hul,hu⟩;refine dX (fun(u2:aP)=>Say.act k u p c=match addA (k,u2) c.acts with| .ok l=>.ok {c with keep:=false,acts:=l}| .error e=>.error (e,p)) (fun u2=>[(0,ptr sb),(1,i64 k),(3,i64 p),(8,str u2)]) (fun _=>K) (fun _=>[rsb sb m hv nm nv vv cv av c.keep false 0 0,sl false (a7 9) nv (c.vars.map (·.1)),sl false (a7 9) vv (c.vars.map (·.2)),sl false (a7 9) cv (c.parts.take 10),sl false dP av c.acts]) ?_ ?_
 ·refine zz12 ?_;refine aY 17 Y (fun h17=>?_) (fun h17=>?_)
  ·refine zz3 ?_;refine cN Y Y (aP2 u _ aH) Y (zz6 ?_);refine aA gC3 Y (zz2 ?_)
   first|refine aY 22 Y (fun h22=>?_) (fun h22=>?_)|refine d9 22 Y (fun h22=>?_) (fun h22=>?_)
   ·have hbx:sT u=false:=(by revert h22;cases sT u <;> simp);have hq:=bHR (p:=p) (c:=c) (show k=2 by omega) hbx;rw[hu]at hq;have hq:=wX (nm:=nm) (m:=m) hq;refine zz4 ?_;refine bA Y Y (qI sb m hv nm nv vv cv av c.keep false 0 8 p _) bS Y ?_;rintro _ K _ ⟨rfl,rfl,rfl⟩ -;refine zz5 ?_;refine cS (eO (m:=m) (c:=c)) ?_;refine cS aF0 ?_;refine jZ Y (xAB _) ?_;rw[hq];exact⟨_,Y,Y,Y,Y⟩
   have hbx:sT u=true:=(by revert h22;cases sT u <;> simp);refine zz2 ?_
   first
    |exact a8 (u.take 48) (qM (fun h=>by first|exact hbx|omega) (fun h=>by first|exact hax|omega) (uQ aH aH)) aS Y (fun _ h=>h)
    |exact a8 u (qM (fun h=>by first|exact hbx|omega) (fun h=>by first|exact hax|omega) (uR aH)) aS Y (fun _ h=>h)
  refine zz6 ?_;refine aY 26 Y (fun h26=>?_) (fun h26=>?_)
  ·refine zz3 ?_;refine cN Y Y (aTN u aH _) Y (zz6 ?_);refine aA gC3 Y (zz2 ?_)
   first|refine aY 31 Y (fun h31=>?_) (fun h31=>?_)|refine d9 31 Y (fun h31=>?_) (fun h31=>?_)
   ·have hax:fM u=false:=(by revert h31;cases fM u <;> simp);have hq:=bHQ (p:=p) (c:=c) (show k=3 by omega) hax;rw[hu]at hq;have hq:=wX (nm:=nm) (m:=m) hq;refine zz4 ?_;refine bA Y Y (qI sb m hv nm nv vv cv av c.keep false 0 9 p _) bS Y ?_;rintro _ K _ ⟨rfl,rfl,rfl⟩ -;refine zz5 ?_;refine cS (eO (m:=m) (c:=c)) ?_;refine cS aF0 ?_;refine jZ Y (xAB _) ?_;rw[hq];exact⟨_,Y,Y,Y,Y⟩
   have hax:fM u=true:=(by revert h31;cases fM u <;> simp);refine zz2 ?_
   first
    |exact a8 (u.take 48) (qM (fun h=>by first|exact hbx|omega) (fun h=>by first|exact hax|omega) (uQ aH aH)) aS Y (fun _ h=>h)
    |exact a8 u (qM (fun h=>by first|exact hbx|omega) (fun h=>by first|exact hax|omega) (uR aH)) aS Y (fun _ h=>h)
  refine zz6 ?_;refine aY 35 Y (fun h35=>?_) (fun h35=>?_)
  ·refine zz7 ?_;refine aY 39 Y (fun h39=>?_) (fun h39=>?_)
   ·refine zz2 ?_;refine aA (gL (n:=48) Tryz.underlying9 Y Y Y aH) Y (zz3 ?_)
    first
     |exact a8 (u.take 48) (qM (fun h=>by first|exact hbx|omega) (fun h=>by first|exact hax|omega) (uQ aH aH)) aS Y (fun _ h=>h)
     |exact a8 u (qM (fun h=>by first|exact hbx|omega) (fun h=>by first|exact hax|omega) (uR aH)) aS Y (fun _ h=>h)
   refine zz2 ?_
   first
    |exact a8 (u.take 48) (qM (fun h=>by first|exact hbx|omega) (fun h=>by first|exact hax|omega) (uQ aH aH)) aS Y (fun _ h=>h)
    |exact a8 u (qM (fun h=>by first|exact hbx|omega) (fun h=>by first|exact hax|omega) (uR aH)) aS Y (fun _ h=>h)
  refine zz2 ?_
  first
   |exact a8 (u.take 48) (qM (fun h=>by first|exact hbx|omega) (fun h=>by first|exact hax|omega) (uQ aH aH)) aS Y (fun _ h=>h)
   |exact a8 u (qM (fun h=>by first|exact hbx|omega) (fun h=>by first|exact hax|omega) (uR aH)) aS Y (fun _ h=>h)
 intro u2 hact;refine zz5 ?_;refine uAk ?_;rintro _ K _ ⟨rfl,rfl⟩ -;refine zz6 ?_;refine aA (dG aJG aAB dF) Y (zz1 ?_);refine bA Y Y (aKN sb m hv nm nv vv cv av false false 0 c.acts (k,u2) p hc.acts _) bS Y ?_;rintro _ K _ ⟨rfl,rfl,av2,rfl⟩ -;rw[hu]at hact;obtain⟨r,hr⟩:∃r,addA (k,u2) c.acts=r:=⟨_,rfl⟩;rw[hr]at hact ⊢;refine aG ?_;cases r with
 |ok l=>
  refine aQ (aM bW (aM cI (aM cI (aM cI (aM bW bF))))) ?_;refine cS (eO (m:=m) (c:={c with keep:=false,acts:=l})) (zz1 ?_);have hq:=aR4 (nm:=nm) (m:=m) (show Say.act k (Say.actArg nm k arg c) p c=_ from hact);rw[hq];exact⟨_,Y,Y,Y,Y⟩
 |error e=>
  refine aQ (aM bW (aM cI (aM cI (aM cI (aM bW bF))))) ?_;refine cS (eO (m:=m) (c:={c with keep:=false})) ?_;refine cS aF0 (zz1 ?_);have hq:=wX (nm:=nm) (m:=m) (show Say.act k (Say.actArg nm k arg c) p c=_ from hact);rw[hq];exact⟨_,Y,Y,Y,Y⟩
def aFN{n:Nat}(h:n≤4294967296):(Lib.decDigits n).length≤100000:=by
 have:=Lib.itoa_length_le (n:Int) aH aH;rw[Lib.itoa_nonneg]at this;omega
def aKU(sb:Nat)(m:Msg)(hv:Value)(nm:Bool)(c:Co)(name val:aP)(tag:Int)(hc:CInv c)(hal:val.length≤100000)(K:Hl):Sp x3 38 [ptr sb,str name,str val,i64 tag] K [stq sb m hv nm c false 0 0] (Ret fun v K' L'=>v=.tuple #[]∧K'=K∧L'=[sto sb m hv nm (Say.cmd nm m (.set_ name val tag) c)]):=by
 refine bN Tryz.func38 Y Tryz.ntmps38 Y Y fun F w=>?_;have hvn:=hc.vn;refine rT fun nv vv cv av=>?_;refine zz4 ?_;refine bA Y Y (pK sb m hv nm nv vv cv av c.keep false 0 0 c.vars c.parts val hal hc.vn hc.small _) (.cons .here (.cons .here (.cons .here (.cons .here .nil)))) Y ?_;rintro _ K _ ⟨rfl,rfl,rfl⟩ -;have hul:=gX (nm:=nm) (vars:=c.vars) (parts:=c.parts) hal
 generalize hu:dH nm c.vars c.parts val=u at*
 refine zz3 ?_;refine dX (fun(x:aP)=>x.length≤100000∧x.take 48=Say.setV tag u) (fun x=>[(0,ptr sb),(1,str name),(8,str x)]) (fun _=>K) (fun _=>[rsb sb m hv nm nv vv cv av c.keep false 0 0,sl false (a7 9) nv (c.vars.map (·.1)),sl false (a7 9) vv (c.vars.map (·.2)),sl false (a7 9) cv (c.parts.take 10),sl false dP av c.acts]) ?_ ?_
 ·refine zz12 ?_;refine aY 14 Y (fun h14=>?_) (fun h14=>?_)
  ·refine zz2 ?_;refine cN Y Y (kI u _ aH) Y (zz3 ?_)
   first
    |exact a8 _ ⟨by rw[mN];omega,by unfold Say.setV;rw[x7 aH]⟩ (.cons 0 Y (.cons 1 Y (.cons 8 Y .nil))) Y (fun _ h=>h)
    |exact a8 _ ⟨by rw[sZ];omega,by unfold Say.setV;rw[x5 aH,x7 aH]⟩ (.cons 0 Y (.cons 1 Y (.cons 8 Y .nil))) Y (fun _ h=>h)
    |exact a8 _ ⟨aFN aH,by unfold Say.setV;rw[x5 aH,x5 aH,x7 aH,Lib.itoa_nonneg]⟩ (.cons 0 Y (.cons 1 Y (.cons 8 Y .nil))) Y (fun _ h=>h)
    |exact a8 u ⟨hul,by unfold Say.setV;rw[x5 aH,x5 aH,x5 aH]⟩ (.cons 0 Y (.cons 1 Y (.cons 8 Y .nil))) Y (fun _ h=>h)
  refine zz6 ?_;refine aY 18 Y (fun h18=>?_) (fun h18=>?_)
  ·refine zz2 ?_;refine cN Y Y (aP8 u _ aH) Y (zz3 ?_)
   first
    |exact a8 _ ⟨by rw[mN];omega,by unfold Say.setV;rw[x7 aH]⟩ (.cons 0 Y (.cons 1 Y (.cons 8 Y .nil))) Y (fun _ h=>h)
    |exact a8 _ ⟨by rw[sZ];omega,by unfold Say.setV;rw[x5 aH,x7 aH]⟩ (.cons 0 Y (.cons 1 Y (.cons 8 Y .nil))) Y (fun _ h=>h)
    |exact a8 _ ⟨aFN aH,by unfold Say.setV;rw[x5 aH,x5 aH,x7 aH,Lib.itoa_nonneg]⟩ (.cons 0 Y (.cons 1 Y (.cons 8 Y .nil))) Y (fun _ h=>h)
    |exact a8 u ⟨hul,by unfold Say.setV;rw[x5 aH,x5 aH,x5 aH]⟩ (.cons 0 Y (.cons 1 Y (.cons 8 Y .nil))) Y (fun _ h=>h)
  refine zz6 ?_;refine aY 22 Y (fun h22=>?_) (fun h22=>?_)
  ·refine zz3 ?_;refine cN Y Y (aCL u.length aH _) Y (zz3 ?_)
   first
    |exact a8 _ ⟨by rw[mN];omega,by unfold Say.setV;rw[x7 aH]⟩ (.cons 0 Y (.cons 1 Y (.cons 8 Y .nil))) Y (fun _ h=>h)
    |exact a8 _ ⟨by rw[sZ];omega,by unfold Say.setV;rw[x5 aH,x7 aH]⟩ (.cons 0 Y (.cons 1 Y (.cons 8 Y .nil))) Y (fun _ h=>h)
    |exact a8 _ ⟨aFN aH,by unfold Say.setV;rw[x5 aH,x5 aH,x7 aH,Lib.itoa_nonneg]⟩ (.cons 0 Y (.cons 1 Y (.cons 8 Y .nil))) Y (fun _ h=>h)
    |exact a8 u ⟨hul,by unfold Say.setV;rw[x5 aH,x5 aH,x5 aH]⟩ (.cons 0 Y (.cons 1 Y (.cons 8 Y .nil))) Y (fun _ h=>h)
  refine zz2 ?_
  first
   |exact a8 _ ⟨by rw[mN];omega,by unfold Say.setV;rw[x7 aH]⟩ (.cons 0 Y (.cons 1 Y (.cons 8 Y .nil))) Y (fun _ h=>h)
   |exact a8 _ ⟨by rw[sZ];omega,by unfold Say.setV;rw[x5 aH,x7 aH]⟩ (.cons 0 Y (.cons 1 Y (.cons 8 Y .nil))) Y (fun _ h=>h)
   |exact a8 _ ⟨aFN aH,by unfold Say.setV;rw[x5 aH,x5 aH,x7 aH,Lib.itoa_nonneg]⟩ (.cons 0 Y (.cons 1 Y (.cons 8 Y .nil))) Y (fun _ h=>h)
   |exact a8 u ⟨hul,by unfold Say.setV;rw[x5 aH,x5 aH,x5 aH]⟩ (.cons 0 Y (.cons 1 Y (.cons 8 Y .nil))) Y (fun _ h=>h)
 intro x ⟨hxl,hx⟩;refine dX (fun(_:Unit)=>True) (fun _=>[(0,ptr sb),(1,str name),(8,str (Say.setV tag u))]) (fun _=>K) (fun _=>[rsb sb m hv nm nv vv cv av c.keep false 0 0,sl false (a7 9) nv (c.vars.map (·.1)),sl false (a7 9) vv (c.vars.map (·.2)),sl false (a7 9) cv (c.parts.take 10),sl false dP av c.acts]) ?_ ?_
 ·refine zz7 ?_;refine aY 29 Y (fun h29=>?_) (fun h29=>?_)
  ·refine zz2 ?_;refine aA (gL (n:=48) Tryz.underlying9 Y Y Y aH) Y (zz2 ?_)
   first
    |exact a8 () trivial (.cons 0 Y (.cons 1 Y (.cons 8 (by rw[←hx];rfl) .nil))) Y (fun _ h=>h)
    |exact a8 () trivial (.cons 0 Y (.cons 1 Y (.cons 8 (by rw[←hx,xAI aH];rfl) .nil))) Y (fun _ h=>h)
  refine aW ?_
  first
   |exact a8 () trivial (.cons 0 Y (.cons 1 Y (.cons 8 (by rw[←hx];rfl) .nil))) Y (fun _ h=>h)
   |exact a8 () trivial (.cons 0 Y (.cons 1 Y (.cons 8 (by rw[←hx,xAI aH];rfl) .nil))) Y (fun _ h=>h)
 intro _ _;clear hx hxl x
 generalize hy:Say.setV tag u=y at*
 refine zz7 ?_;refine eH (fun(k:Nat)=>k≤c.vars.length∧∀j,j < k→(c.vars.map (·.1))[j]?≠some name) (fun k=>[(0,ptr sb),(1,str name),(8,str y),(9,i64 k)]) (fun _=>K) (fun _=>[rsb sb m hv nm nv vv cv av c.keep false 0 0,sl false (a7 9) nv (c.vars.map (·.1)),sl false (a7 9) vv (c.vars.map (·.2)),sl false (a7 9) cv (c.parts.take 10),sl false dP av c.acts]) (fun k=>c.vars.length - k) 0 ⟨x9 _,fun j h=>by omega⟩ (.cons 0 Y (.cons 1 Y (.cons 8 Y (.cons 9 Y .nil)))) Y (fun _ h=>h) ?_;intro k ⟨hk0,hk1⟩;refine zz8 ?_;refine aA (bU (k:=a7 9) Y Tryz.underlying43 Y (.own (.there .here))) Y (zz3 ?_);refine aY 38 Y (fun h38=>?_) (fun h38=>?_)
 ·have hkl:k < c.vars.length:=gFI;obtain⟨x,hx⟩:∃x,c.vars[k]?=some x:=⟨c.vars[k]'hkl,x4 hkl⟩;have hx1:(c.vars.map (·.1))[k]?=some x.1:=by simp[hx]
  refine zz11 ?_;refine aA (aX (k:=a7 9) (xs:=c.vars.map (·.1)) (j:=k) cB Y (.own (.there .here)) Y Y gDQ) Y ?_;refine aA (cE (o:=0) (k:=a7 9) ts9 Y (.own (.there .here)) hx1 Y) Y (zz4 ?_);refine aY 49 Y (fun h49=>?_) (fun h49=>?_)
  ·have hkl2:k < (c.vars.map (·.2)).length:=by simp only[List.length_map];omega
   have hq:=aRM (u:=y) (k:=name) (v:=x.2) (i:=k) (by rw[hx,←show x.1=name from h49]) hk1;refine zz8 ?_;refine aA (aX (k:=a7 9) (xs:=c.vars.map (·.2)) (j:=k) cB Y (.own (.there (.there .here))) Y Y gDQ) Y ?_;refine cD (jG (k:=(a7 9)) (y0:=y) ts9 Y Y Y Y gDB bR) ?_;rintro _ K _ ⟨rfl,rfl⟩ -;refine zz8 ?_;rw[←hq.1,←hq.2];refine cS (eO (m:=m) (c:={c with vars:=vput c.vars name y})) ?_;refine jZ Y (xAB _) ?_;simp only[Say.cmd];rw[hu,hy];exact⟨_,Y,Y,Y,Y⟩
  refine zz8 ?_;refine cM (k+1) ⟨by omega,fun j hj he=>?_⟩ aH (.cons 0 Y (.cons 1 Y (.cons 8 Y (.cons 9 Y .nil)))) Y (fun _ h=>h)
  rcases xAC j k with h|h
  ·exact hk1 j h he
  have e:j=k:=by omega
  subst e;rw[hx1]at he;exact h49 (xAY he)
 have hq:=aLM (u:=y) (k:=name) (vars:=c.vars) (fun j hj=>hk1 j gFI);refine zz13 ?_;refine cJ (bM (z0:=[(str [])]) cB tz9 Y Y Y Y (.cons Y Y Y (.cons .nil) .nil)) Y ?_;rintro _ K _ ⟨b63,rfl,rfl,rfl⟩ -;refine cJ (dQ (k:=(a7 9)) (ys:=[name]) eI Y Y (.there (.there .here)) (fun w j=>dJ Tryz.underlying43 (SeesSl.at (.blk (.own .here) Y Y) j)) (by have:=hc.vn;simp;omega) (by have:=hc.vn;simp;omega)) Y ?_;rintro v64 K _ ⟨rfl,rfl,ho64⟩ -;refine zz2 ?_;refine cD (bX eP Y Y dA bR (.succ (.succ (.succ (.succ (.succ .zero))))) Y) ?_;rintro _ K _ ⟨rfl,rfl⟩ -;refine zz9 ?_;refine cJ (bM (z0:=[(str [])]) cB tz9 Y Y Y Y (.cons Y Y Y (.cons .nil) .nil)) Y ?_;rintro _ K _ ⟨b73,rfl,rfl,rfl⟩ -;refine cJ (dQ (k:=(a7 9)) (ys:=[y]) eI Y Y (.there (.there (.there (.there .here)))) (fun w j=>dJ Tryz.underlying43 (SeesSl.at (.blk (.own .here) Y Y) j)) (by have:=hc.vn;simp;omega) (by have:=hc.vn;simp;omega)) Y ?_;rintro v74 K _ ⟨rfl,rfl,ho74⟩ -;refine zz2 ?_;refine cD (bX eP Y Y dA bR (.succ (.succ (.succ (.succ (.succ (.succ .zero)))))) Y) ?_;rintro _ K _ ⟨rfl,rfl⟩ -;refine aG ?_;rw[←hq.1,←hq.2];refine aQ (.cons (.there (.there (.there (.there .here)))) (.cons (.there (.there .here)) (.cons .here (.cons (.there (.there .here)) (.cons (.there (.there .here)) .nil))))) ?_;refine cS (eO (m:=m) (c:={c with vars:=vput c.vars name y})) (zz1 ?_);simp only[Say.cmd];rw[hu,hy];exact⟨_,Y,Y,Y,Y⟩
def aB0(hs:List (aP×aP))(n:aP):List aP:=(hs.filter fun h=>decide (eD h.1=n)).map (·.2)
def rZ{hs:List (aP×aP)}{k:Nat}{h:aP×aP}{n:aP}(hk:hs[k]?=some h):aB0 (hs.take (k+1)) n=aB0 (hs.take k) n++if eD h.1=n then [h.2]else []:=by
 unfold aB0;rw[xAX,hk,List.filter_append,List.map_append]
 congr 1
 by_cases he:eD h.1=n
 ·rw[x7 he];simp[List.filter,he]
 rw[x5 he];simp[List.filter,he]
def j7(nm:Bool)(m:Msg)(c:Co)(names:List aP):List aP:=(names.map (dH nm c.vars c.parts)).flatMap fun n=>iG m (eD n)
def aMF{nm:Bool}{m:Msg}{c:Co}{names:List aP}{i:Nat}{n:aP}(h:names[i]?=some n):j7 nm m c (names.take (i+1))=j7 nm m c (names.take i)++iG m (eD (dH nm c.vars c.parts n)):=by
 unfold j7;rw[xAX,h];simp
def aIG{α:Type}{l:List α}{i:Nat}(h:l.length≤i):l.take i=l:=xAI h
def wI(sb:Nat)(m:Msg)(hv:Value)(nm:Bool)(c:Co)(en:Bool)(e p:Int)(hc:CInv c)(hm:MsgOk m)(names:List aP)(v0:Value)(hln:names.length≤1000000)(hns:∀x∈names,x.length≤100000)(K:Hl)(hk:Ksl (a7 9) K v0 names)(hh:Ksl hdEl K hv m.hs):Sp x3 58 [ptr sb,v0] K [stq sb m hv nm c en e p] (Ret fun v K' L'=>K'=K∧L'=[sl false (a7 9) v (j7 nm m c names),stq sb m hv nm c en e p]):=by
 have hmn:=hm.hn;refine bN Tryz.func58 Y Tryz.ntmps58 Y Y fun F w=>?_;refine rT fun nv vv cv av=>?_;refine zz17 ?_;refine lK (fun(i:Nat) (xs:List aP) (sv:Value)=>i≤names.length∧xs=j7 nm m c (names.take i)∧xs.length≤1000000*i) (fun i _ sv=>[(0,ptr sb),(1,v0),(5,sv),(6,i64 i)]) (fun _ _ _=>K) (fun _ xs sv=>[sl false (a7 9) sv xs,rsb sb m hv nm nv vv cv av c.keep en e p,sl false (a7 9) nv (c.vars.map (·.1)),sl false (a7 9) vv (c.vars.map (·.2)),sl false (a7 9) cv (c.parts.take 10),sl false dP av c.acts]) (fun i _ _=>names.length - i) 0 [] (.slice none 0 0) ⟨x9 _,Y,by simp⟩ aS Y (eL (a7 9)) ?_;intro i xs sv ⟨hi0,hi1,hi2⟩;refine zz5 ?_;refine aA (bU (k:=a7 9) Y Tryz.underlying43 Y (.known hk)) Y (zz3 ?_);refine aY 13 Y (fun h13=>?_) (fun h13=>?_)
 ·have hil:i < names.length:=by omega
  obtain⟨n,hn⟩:∃n,names[i]?=some n:=⟨names[i]'hil,x4 hil⟩;have hnl:=hns n (x8 hn);refine zz9 ?_;refine aA (aX (k:=a7 9) (j:=i) cB Y (.known hk) Y Y hil) Y ?_;refine aA (cE (o:=0) (k:=a7 9) ts9 Y (.known hk) hn Y) Y ?_;refine bA Y Y (pK sb m hv nm nv vv cv av c.keep en e p c.vars c.parts n hnl hc.vn hc.small _) bS Y ?_;rintro _ K _ ⟨rfl,rfl,rfl⟩ -;have hul:=gX (nm:=nm) (vars:=c.vars) (parts:=c.parts) hnl;refine zz6 ?_;refine cN Y Y (kI _ _ aH) Y (zz9 ?_);refine lK (fun(k:Nat) (ys:List aP) (sw:Value)=>k≤m.hs.length∧ys=xs++aB0 (m.hs.take k) (eD (dH nm c.vars c.parts n))∧ys.length≤1000000*i+k) (fun k _ sw=>[(0,ptr sb),(1,v0),(5,sw),(6,i64 i),(7,str (eD (dH nm c.vars c.parts n))),(8,i64 k)]) (fun _ _ _=>K) (fun _ ys sw=>[sl false (a7 9) sw ys,rsb sb m hv nm nv vv cv av c.keep en e p,sl false (a7 9) nv (c.vars.map (·.1)),sl false (a7 9) vv (c.vars.map (·.2)),sl false (a7 9) cv (c.parts.take 10),sl false dP av c.acts]) (fun k _ _=>m.hs.length - k) 0 xs sv ⟨x9 _,by simp[aB0],by omega⟩ aS Y (fun h hh=>by simpa using Tks.sat (N:=[]) (aM yY (aM bW (aM bW (aM bW (aM bW (aM bW bF)))))) h hh) ?_;intro k ys sw ⟨hk0,hk1,hk2⟩;refine zz9 ?_;refine aA (bU (k:=hdEl) Y Tryz.underlying33 Y (.known hh)) Y (zz3 ?_);refine aY 31 Y (fun h31=>?_) (fun h31=>?_)
  ·have hkl:k < m.hs.length:=by omega
   obtain⟨x,hx⟩:∃x,m.hs[k]?=some x:=⟨m.hs[k]'hkl,x4 hkl⟩;have hxl:=hm.hs x (x8 hx);refine zz12 ?_;refine aA (aX (k:=hdEl) (j:=k) sR Y (.known hh) Y Y hkl) Y ?_;refine aA (dU (k:=hdEl) (j:=k) aIM Y (.known hh) hkl) Y ?_;refine aA (fD (k:=hdEl) ts9 Y (.known hh) hx Y) Y ?_;refine cN Y Y (kI x.1 _ aH) Y (zz10 ?_);refine aY 46 Y (fun h46=>?_) (fun h46=>?_)
   ·refine zz8 ?_;refine aA (aX (k:=hdEl) (j:=k) sR Y (.known hh) Y Y hkl) Y ?_;refine aA (dU (k:=hdEl) (j:=k) aIN Y (.known hh) hkl) Y ?_;refine aA (fD (k:=hdEl) ts9 Y (.known hh) hx Y) Y ?_;refine cJ (bM (z0:=[(str [])]) cB tz9 Y Y Y Y dF) Y ?_;rintro _ K _ ⟨b57,rfl,rfl,rfl⟩ -;refine cJ (dQ (k:=(a7 9)) (ys:=[x.2]) eI Y Y (.there .here) (fun w j=>dJ Tryz.underlying43 (SeesSl.at (.blk aL Y Y) j)) gC7 gC7) Y ?_;rintro v58 K _ ⟨rfl,rfl,ho58⟩ -;refine zz9 ?_
    first
     |exact gB8
     |exact eF (k+1) ys _ ⟨by omega,by rw[rZ hx,x5 h46,xAL];exact hk1,by omega⟩ aH aS Y (fun _ h=>h)
   refine zz8 ?_
   first
    |exact gB8
    |exact eF (k+1) ys _ ⟨by omega,by rw[rZ hx,x5 h46,xAL];exact hk1,by omega⟩ aH aS Y (fun _ h=>h)
  have hkm:=hm.hn;refine zz11 ?_;exact eF (i+1) ys _ ⟨by omega,by rw[hk1,hi1,aMF hn,aIG (l:=m.hs) aH];rfl,by omega⟩ aH aS Y (fun _ h=>h)
 rw[aIG aH]at hi1;refine zz12 ?_;refine aQ (aM cI (aM cI (aM cI (aM cI (aM cI (aM bW bF)))))) ?_;refine cS (eO (m:=m) (c:=c)) ?_;refine uAw ?_;refine zz1 ?_;exact⟨_,Y,Y,by rw[←hi1]⟩
def mU{m:Msg}{names:List aP}{i:Nat}{n:aP}(h:names[i]?=some n):(names.take (i+1)).flatMap (jL m)=(names.take i).flatMap (jL m)++jL m n:=by
 rw[xAX,h];simp
def aE3(sb:Nat)(m:Msg)(hv:Value)(nm:Bool)(c:Co)(en:Bool)(e p:Int)(names:List aP)(v0:Value)(hln:names.length≤1000000)(hns:∀x∈names,x.length≤100000)(K:Hl)(hk:Ksl (a7 9) K v0 names):Sp x3 60 [ptr sb,v0] K [stq sb m hv nm c en e p] (Ret fun v K' L'=>K'=K∧L'=[sl false (a7 9) v (names.flatMap (jL m)),stq sb m hv nm c en e p]):=by
 refine bN Tryz.func60 Y Tryz.ntmps60 Y Y fun F w=>?_;refine rT fun nv vv cv av=>?_;refine zz17 ?_;refine lK (fun(i:Nat) (xs:List aP) (sv:Value)=>i≤names.length∧xs=(names.take i).flatMap (jL m)∧xs.length≤i) (fun i _ sv=>[(0,ptr sb),(1,v0),(5,sv),(6,i64 i)]) (fun _ _ _=>K) (fun _ xs sv=>[sl false (a7 9) sv xs,rsb sb m hv nm nv vv cv av c.keep en e p,sl false (a7 9) nv (c.vars.map (·.1)),sl false (a7 9) vv (c.vars.map (·.2)),sl false (a7 9) cv (c.parts.take 10),sl false dP av c.acts]) (fun i _ _=>names.length - i) 0 [] (.slice none 0 0) ⟨x9 _,Y,by simp⟩ aS Y (eL (a7 9)) ?_;intro i xs sv ⟨hi0,hi1,hi2⟩;refine zz5 ?_;refine aA (bU (k:=a7 9) Y Tryz.underlying43 Y (.known hk)) Y (zz3 ?_);refine aY 11 Y (fun h11=>?_) (fun h11=>?_)
 ·have hil:i < names.length:=by omega
  obtain⟨n,hn⟩:∃n,names[i]?=some n:=⟨names[i]'hil,x4 hil⟩;have hnl:=hns n (x8 hn);refine zz8 ?_;refine aA (aX (k:=a7 9) (j:=i) cB Y (.known hk) Y Y hil) Y ?_;refine aA (cE (o:=0) (k:=a7 9) ts9 Y (.known hk) hn Y) Y ?_;refine cN Y Y (kI n _ aH) Y (zz10 ?_);refine aY 20 Y (fun h20=>?_) (fun h20=>?_)
  ·refine zz7 ?_;refine cJ (bM (z0:=[(str [])]) cB tz9 Y Y Y Y dF) Y ?_;rintro _ K _ ⟨b27,rfl,rfl,rfl⟩ -;refine cJ (dQ (k:=(a7 9)) (ys:=[m.from_]) eI Y Y (.there .here) (fun w j=>dJ Tryz.underlying43 (SeesSl.at (.blk aL Y Y) j)) gC7 gC7) Y ?_;rintro v28 K _ ⟨rfl,rfl,ho28⟩ -;refine zz9 ?_;refine aY 30 Y (fun h30=>?_) (fun h30=>?_)
   ·refine zz7 ?_;refine cJ (bM (z0:=[(str [])]) cB tz9 Y Y Y Y dF) Y ?_;rintro _ K _ ⟨b37,rfl,rfl,rfl⟩ -;refine cJ (dQ (k:=(a7 9)) (ys:=[m.to_]) eI Y Y (.there .here) (fun w j=>dJ Tryz.underlying43 (SeesSl.at (.blk aL Y Y) j)) gC7 gC7) Y ?_;rintro v38 K _ ⟨rfl,rfl,ho38⟩ -;refine zz9 ?_
    first
     |exact absurd (Eq.trans (Eq.symm h20) h30) (by decide)
     |exact gA9
     |exact gA8
     |exact eF (i+1) xs _ ⟨by omega,by rw[mU hn,←hi1];unfold jL;rw[x5 h20,x5 h30,xAL],by omega⟩ aH aS Y (fun _ h=>h)
   refine zz8 ?_
   first
    |exact absurd (Eq.trans (Eq.symm h20) h30) (by decide)
    |exact gA9
    |exact gA8
    |exact eF (i+1) xs _ ⟨by omega,by rw[mU hn,←hi1];unfold jL;rw[x5 h20,x5 h30,xAL],by omega⟩ aH aS Y (fun _ h=>h)
  refine zz8 ?_;refine aY 30 Y (fun h30=>?_) (fun h30=>?_)
  ·refine zz7 ?_;refine cJ (bM (z0:=[(str [])]) cB tz9 Y Y Y Y dF) Y ?_;rintro _ K _ ⟨b37,rfl,rfl,rfl⟩ -;refine cJ (dQ (k:=(a7 9)) (ys:=[m.to_]) eI Y Y (.there .here) (fun w j=>dJ Tryz.underlying43 (SeesSl.at (.blk aL Y Y) j)) gC7 gC7) Y ?_;rintro v38 K _ ⟨rfl,rfl,ho38⟩ -;refine zz9 ?_
   first
    |exact absurd (Eq.trans (Eq.symm h20) h30) (by decide)
    |exact gA9
    |exact gA8
    |exact eF (i+1) xs _ ⟨by omega,by rw[mU hn,←hi1];unfold jL;rw[x5 h20,x5 h30,xAL],by omega⟩ aH aS Y (fun _ h=>h)
  refine zz8 ?_
  first
   |exact absurd (Eq.trans (Eq.symm h20) h30) (by decide)
   |exact gA9
   |exact gA8
   |exact eF (i+1) xs _ ⟨by omega,by rw[mU hn,←hi1];unfold jL;rw[x5 h20,x5 h30,xAL],by omega⟩ aH aS Y (fun _ h=>h)
 rw[aIG aH]at hi1;refine zz12 ?_;refine aQ (aM cI (aM cI (aM cI (aM cI (aM cI (aM bW bF)))))) ?_;refine cS (eO (m:=m) (c:=c)) ?_;refine uAw ?_;refine zz1 ?_;exact⟨_,Y,Y,by rw[←hi1]⟩
def aCO(sb:Nat)(m:Msg)(hv:Value)(nm:Bool)(c:Co)(en:Bool)(e p:Int)(hc:CInv c)(hm:MsgOk m)(names:List aP)(v0:Value)(hfit:lB v0)(hln:names.length≤1000000)(hns:∀x∈names,x.length≤100000)(K:Hl)(hk:Ksl (a7 9) K v0 names)(hh:Ksl hdEl K hv m.hs):Sp x3 61 [ptr sb,v0] K [stq sb m hv nm c en e p] (Ret fun v K' L'=>v=.bool (mE m (names.map (dH nm c.vars c.parts)))∧K'=K∧L'=[stq sb m hv nm c en e p]):=by
 refine bN Tryz.func61 Y Tryz.ntmps61 Y Y fun F w=>?_;refine zz12 ?_;refine eH (fun(i:Nat)=>i≤names.length∧∀j n,j < i→names[j]?=some n→iG m (eD (dH nm c.vars c.parts n))≠[]) (fun i=>[(0,ptr sb),(1,v0),(5,i64 i)]) (fun _=>K) (fun _=>[stq sb m hv nm c en e p]) (fun i=>names.length - i) 0 ⟨x9 _,fun j n h=>by omega⟩ aS Y (fun _ h=>h) ?_;intro i ⟨hi0,hi1⟩;refine zz5 ?_;refine aA (bU (k:=a7 9) Y Tryz.underlying43 Y (.known hk)) Y (zz3 ?_);refine aY 10 Y (fun h10=>?_) (fun h10=>?_)
 ·have hil:i < names.length:=by omega
  obtain⟨n,hn⟩:∃n,names[i]?=some n:=⟨names[i]'hil,x4 hil⟩;have hnl:=hns n (x8 hn);have hmid:(names.drop i).take (i+1 - i)=[n]:=(by rw[show i+1 - i=1 by omega,List.take_one,List.head?_drop,hn];rfl);have hks:=bIS (k:=a7 9) (m:=i) (n:=i+1) hk aH aH hfit;rw[hmid]at hks;have hfv:j7 nm m c [n]=iG m (eD (dH nm c.vars c.parts n)):=(by unfold j7;simp);refine zz11 ?_;refine aA (aL9 (k:=a7 9) (m:=i) (n:=i+1) cB Y (.known hk) hfit Y Y Y Y aH aH) Y ?_;refine bA Y Y (wI sb m hv nm c en e p hc hm [n] _ (by simp) (by simpa using hnl) _ hks hh) bS Y ?_;rintro v19 K _ ⟨rfl,rfl⟩ -;refine zz6 ?_;refine uAr ?_;refine zz3 ?_;refine aY 22 Y (fun h22=>?_) (fun h22=>?_)
  ·have hq:mE m (names.map (dH nm c.vars c.parts))=false:=(by unfold mE;rw[List.all_eq_false];refine⟨dH nm c.vars c.parts n,List.mem_map_of_mem (x8 hn),?_⟩;have h0:j7 nm m c [n]=[]:=xA9.1 aH;rw[hfv]at h0;rw[h0];simp);refine zz11 ?_;refine aQ (aM cI bF) (zz1 ?_);exact⟨_,Y,by rw[hq],rfl,rfl⟩
  have h22:¬j7 nm m c [n]=[]:=(fun h=>h22 (by rw[h];rfl));refine zz8 ?_;refine aQ (aM cI bF) ?_;refine cM (i+1) ⟨by omega,fun j n2 hj hn2=>?_⟩ aH aS Y (fun _ h=>h)
  rcases xAC j i with h|h
  ·exact hi1 j n2 h hn2
  have e:j=i:=by omega
  subst e;rw[hn]at hn2;cases hn2;intro e;exact h22 (by rw[e]at hfv;exact hfv)
 have hq:mE m (names.map (dH nm c.vars c.parts))=true:=(by unfold mE;rw[xBN];intro x hx;obtain⟨n,hn,rfl⟩:=xBF.1 hx;obtain⟨j,hj⟩:=xA3 hn;exact xAM (hi1 j n gFS hj));refine zz12 ?_;exact⟨_,Y,by rw[hq],rfl,rfl⟩
end Go.Proofs
end
section
attribute [local irreducible] Go.SL.T Go.SL.OL Go.SL.D Go.SL.DL Go.SL.Ev Go.SL.Ef Go.SL.EfS
namespace Go.Proofs
open Go Go.SL Go.Syn Go.Mach
set_option maxRecDepth 100000 in
def aJI:elOk x3 244 93 1 24=true:=cY
set_option maxRecDepth 100000 in
def lH:i8 x3 244 93 1=true:=cY
def kAt{k:aP}{j n:Nat}{d:UInt8}(h:(n=2∧aEI k j 2 d)∨(n=1∧k[j]?=some d∧(d.toNat=92→k[j+1]?=none)))(h1:¬(n=1∧d.toNat=42))(h2:¬(n=1∧d.toNat=63)):aEI k j n d:=by
 rcases h with ⟨rfl,h⟩|⟨rfl,h3,h4⟩
 ·exact h
 exact .inr ⟨Y,h3,fun e=>h1 ⟨Y,e⟩,fun e=>h2 ⟨Y,e⟩,h4⟩
def bOB{k:aP}{j n:Nat}{d:UInt8}(h:aEI k j n d):j+n≤k.length:=by
 rcases h with ⟨rfl,_,h⟩|⟨rfl,h,_⟩ <;> have:=(xAG.1 h).1 <;> omega
def bAU(a b:aP)(i:Nat):decide ((i:Int)=(a.length:Int))=tab a b i b.length:=by rw[bJ9,decide_eq_decide];omega
def aTS(a b:aP)(ha:a.length≤1000000)(hb:b.length≤1000000)(K:Hl):Sp x3 138 [str a,str b] K [] (Ret fun v K' L'=>K'=K∧∃rs,vM a b rs (-1)∧L'=pU v rs):=by
 refine bN Tryz.func138 Y Tryz.ntmps138 Y Y fun F w=>?_;refine zz17 ?_;refine lK (fun(i:Nat) (rs:List (Cell×List Bool)) (sv:Value)=>i≤a.length+1∧rs.length=i∧∀(j:Nat) r,rs[j]?=some r→r.2.length=b.length+1) (fun i _ sv=>[(0,str a),(1,str b),(5,sv),(6,i64 i)]) (fun _ _ _=>K) (fun _ rs sv=>pU sv rs) (fun i _ _=>a.length+1 - i) 0 [] (.slice none 0 0) ⟨x9 _,Y,fun j r h=>by simp at h⟩ aS Y (eL (cC 93)) ?_;intro i rs sv ⟨hi0,hi1,hi2⟩;refine zz9 ?_;refine aY 15 Y (fun h15=>?_) (fun h15=>?_)
 ·refine zz9 ?_;refine cJ (aWE (n:=b.length+1) (k:=eE) (x0:=false) wL tv4 Y Y Y Y aH aH aH aH) Y ?_;rintro _ K _ ⟨b21,rfl,rfl,rfl⟩ -;refine zz6 ?_;refine cJ (bM (z0:=[.slice none 0 0]) lH tz93 Y Y Y Y dF) Y ?_;rintro _ K _ ⟨b24,rfl,rfl,rfl⟩ -;refine cJ (dQ (k:=(cC 93)) (ys:=[⟨.slice (some ⟨b21,0,none⟩) (b.length+1) (b.length+1),Y⟩]) aJI Y Y (.there (.there .here)) (fun w j=>dJ Tryz.underlying244 (SeesSl.at (.blk aL Y Y) j)) gC7 gC7) Y ?_;rintro v25 K _ ⟨rfl,rfl,ho25⟩ -;refine zz9 ?_;refine aQ (.cons .here (.cons (.there .here) (jF _ _))) ?_;refine cS (aZ2 (r:=(⟨.slice (some ⟨b21,0,none⟩) (b.length+1) (b.length+1),Y⟩,List.replicate (b.length+1) false))) ?_;refine eF (i+1) _ _ ⟨by omega,by simp[hi1],fun j r hr=>?_⟩ aH aS Y (fun _ h=>h)
  rw[List.getElem?_append]at hr;split at hr
  ·exact hi2 j r hr
  rename_i hj;have e:j - rs.length=0:=(by have:=(xAG.1 hr).1;simp at this;omega);rw[e]at hr;simp at hr;rw[←hr];simp
 have hD:vM a b rs a.length:=⟨by omega,fun j r hr=>⟨hi2 j r hr,fun h=>by have:=(xAG.1 hr).1;omega⟩⟩;refine zz14 ?_;refine iR (fun(z:Int) (rs:List (Cell×List Bool))=> -1≤z∧z≤a.length∧vM a b rs z) (fun z _=>[(0,str a),(1,str b),(5,sv),(8,i64 z)]) (fun _ _=>K) (fun _ rs=>pU sv rs) (fun z _=>(z+1).toNat) (a.length:Int) rs ⟨by omega,by omega,hD⟩ aS Y (fun _ h=>h) ?_;intro z rs ⟨hz0,hz1,hD⟩;refine zz7 ?_;refine aY 29 Y (fun h29=>?_) (fun h29=>?_)
 ·obtain⟨i,rfl⟩:∃i:Nat,z=(i:Int):=⟨z.toNat,by omega⟩;obtain⟨r,hr,hrl,-⟩:=tC hD (j:=i) aH;have hrs:=hD.1;refine zz8 ?_;refine aA (aX (k:=cC 93) (j:=i) lH Y aL Y aH gDQ) Y ?_;refine aA (cE (o:=0) (k:=cC 93) vG Y aL (show (rs.map (·.1))[_]?=some _ by rw[xAQ,hr];rfl) Y) Y ?_;refine zz6 ?_;refine aA (aX (k:=eE) (xs:=r.2) (j:=b.length) gI Y (.own (l7 hr)) Y Y aH) Y ?_;refine cD (jG (k:=eE) (xs:=r.2) (j:=b.length) ts4 Y Y Y Y aH (aVW hr)) ?_;rintro _ K _ ⟨rfl,rfl⟩ -;have hI:=pG (aTY hD) hr rfl (xAA _) (bAU a b i);refine zz11 ?_;refine iR (fun(q:Int) (rs:List (Cell×List Bool))=> -1≤q∧q < b.length∧aN5 a b rs i q) (fun q _=>[(0,str a),(1,str b),(5,sv),(8,i64 i),(9,i64 q)]) (fun _ _=>K) (fun _ rs=>pU sv rs) (fun q _=>(q+1).toNat) ((b.length:Int) - 1) _ ⟨by omega,by omega,hI⟩ aS Y (fun _ h=>h) ?_;intro q rs ⟨hq0,hq1,hI⟩;refine zz7 ?_;refine aY 47 Y (fun h47=>?_) (fun h47=>?_)
  ·obtain⟨k,rfl⟩:∃k:Nat,q=(k:Int):=⟨q.toNat,by omega⟩;obtain⟨r,hr,hrl,-⟩:=tC hI.1 (j:=i) aH;have hrs:=hI.1.1;obtain⟨c,hc⟩:∃c,b[k]?=some c:=⟨b[k]'(by omega),x4 aH⟩;have hkl:k < b.length:=by omega
   refine zz17 ?_;refine aNF (fun(d:UInt8) (n:Nat)=>(n=2∧aEI b k 2 d)∨(n=1∧b[k]?=some d∧(d.toNat=92→b[k+1]?=none))) (fun d n=>[(0,str a),(1,str b),(5,sv),(8,i64 i),(9,i64 k),(10,.int .u8 d.toNat),(11,i64 n)]) (fun _ _=>K) (fun _ _=>pU sv rs) ?_ ?_
   ·refine dX (fun(_:Unit)=>True) (fun _=>[(0,str a),(1,str b),(5,sv),(8,i64 i),(9,i64 k),(10,.int .u8 c.toNat),(11,i64 1),(61,.bool (decide (c.toNat=92∧k+1 < b.length)))]) (fun _=>K) (fun _=>pU sv rs) ?_ ?_
    ·refine zz4 ?_;refine bV 55 Y (fun g55=>?_) (fun g55=>?_)
     ·refine zz12 ?_;exact a8 () trivial (.cons 0 Y (.cons 1 Y (.cons 5 Y (.cons 8 Y (.cons 9 Y (.cons 10 Y (.cons 11 Y (.cons 61 gDK .nil)))))))) Y (fun _ h=>h)
     refine zz7 ?_;exact a8 () trivial (.cons 0 Y (.cons 1 Y (.cons 5 Y (.cons 8 Y (.cons 9 Y (.cons 10 Y (.cons 11 Y (.cons 61 gDK .nil)))))))) Y (fun _ h=>h)
    intro _ _;refine aY 61 Y (fun h61=>?_) (fun h61=>?_)
    ·obtain⟨c2,hc2⟩:∃c2,b[k+1]?=some c2:=⟨b[k+1]'(by omega),x4 aH⟩;refine zz12 ?_
     first
      |exact eV c2 2 (.inl ⟨Y,.inl ⟨Y,⟨c,hc,h61.1⟩,hc2⟩⟩) aS Y (fun _ h=>h)
      |exact eV c 1 (.inr ⟨Y,hc,fun h=>xAD aH⟩) aS Y (fun _ h=>h)
    refine aW ?_
    first
     |exact eV c2 2 (.inl ⟨Y,.inl ⟨Y,⟨c,hc,h61.1⟩,hc2⟩⟩) aS Y (fun _ h=>h)
     |exact eV c 1 (.inr ⟨Y,hc,fun h=>xAD aH⟩) aS Y (fun _ h=>h)
   intro d n hkn;refine bD ?_;refine dX (fun(_:Unit)=>True) (fun _=>[(0,str a),(1,str b),(5,sv),(8,i64 i),(9,i64 k),(10,.int .u8 d.toNat),(11,i64 n),(95,.bool (decide (n=1∧d.toNat=42)))]) (fun _=>K) (fun _=>pU sv rs) ?_ ?_
   ·refine zz4 ?_;refine bV 98 Y (fun g98=>?_) (fun g98=>?_)
    ·refine zz7 ?_;exact a8 () trivial (.cons 0 Y (.cons 1 Y (.cons 5 Y (.cons 8 Y (.cons 9 Y (.cons 10 Y (.cons 11 Y (.cons 95 gDK .nil)))))))) Y (fun _ h=>h)
    refine zz5 ?_;exact a8 () trivial (.cons 0 Y (.cons 1 Y (.cons 5 Y (.cons 8 Y (.cons 9 Y (.cons 10 Y (.cons 11 Y (.cons 95 gDK .nil)))))))) Y (fun _ h=>h)
   intro _ _;refine aY 95 Y (fun h95=>?_) (fun h95=>?_)
   ·have hdc:b[k]?=some d:=hkn.elim (fun h=>absurd h.1 aH) (fun h=>h.2.1);have htab:=bGP (v:=a) hdc h95.2 (show i≤a.length by omega);have hk1:=hI.2 r hr (k+1) aH aH;refine cZ (anc:=[0,0,3,7,0,0,0,96,224,0,512,2016,4064,8160,16352,16352,49120,131040,262112,524256,524256,1572832,4194272,8388576,524256,33554400,67108832,134217696,268435424,536870911,1073741823]) (ord:=[0,1,2,3,4,5,6,7,8,9,10,11,12,13,14,15,16,17,18,19,20,21,22,23,24,25,26,27,28,29,30]) [30] [30] mixed gC5 (cQ _) (zz2 ?_);refine aJ Y Y (.none Y) Y Y (aX (k:=cC 93) (j:=i) lH Y aL Y aH gDQ) Y ?_;refine aJ Y Y (.none Y) Y Y (cE (o:=0) (k:=cC 93) vG Y aL (show (rs.map (·.1))[_]?=some _ by rw[xAQ,hr];rfl) Y) Y ?_;refine zz3 ?_;refine aJ Y Y (.none Y) Y Y (aX (k:=cC 93) (j:=i) lH Y aL Y aH gDQ) Y ?_;refine aJ Y Y (.none Y) Y Y (cE (o:=0) (k:=cC 93) vG Y aL (show (rs.map (·.1))[_]?=some _ by rw[xAQ,hr];rfl) Y) Y ?_;refine zz2 ?_;refine aJ Y Y (.none Y) Y Y (aX (k:=eE) (xs:=r.2) (j:=k+1) gI Y (.own (l7 hr)) Y Y aH) Y ?_;refine aJ Y Y (.none Y) Y Y (cE (o:=0) (k:=eE) ts4 Y (.own (l7 hr)) hk1 Y) Y (zz1 ?_);refine qY 115 Y (fun g115=>?_) (fun g115=>?_)
    ·have hval:true=tab a b i k:=(by rw[htab,g115];rfl);refine zz5 ?_;refine bB Y Y (.offu Y Y Y) Y ?_;refine bB Y Y (.offu Y Y Y) Y ?_;refine bB Y Y (.offu Y Y Y) Y ?_;refine bB Y Y (.offu Y Y Y) Y ?_;refine bB Y Y (.offu Y Y Y) Y ?_;refine bB Y Y (.offu Y Y Y) Y ?_;refine bB Y Y (.offu Y Y Y) Y ?_;refine bB Y Y (.offu Y Y Y) Y (zz2 ?_);refine aJ Y Y (.none Y) Y Y (aX (k:=eE) (xs:=r.2) (j:=k) gI Y (.own (l7 hr)) Y Y aH) Y ?_;refine mT Y Y (.none Y) Y (jG (k:=eE) (xs:=r.2) (j:=k) ts4 Y Y Y Y aH (q7 hr)) ?_;rintro _ K _ ⟨rfl,rfl⟩ -;refine zz9 ?_;exact cW ((k:Int) - 1) _ ⟨by omega,by omega,pG hI hr rfl aH hval⟩ aH aS Y (fun _ h=>by rwa [xAL]at h)
    refine zz5 ?_;refine fC 120 Y (fun g120=>?_) (fun g120=>?_)
    ·obtain⟨r2,hr2,hrl2,hrt2⟩:=tC hI.1 (j:=i+1) aH;have hrt2:=hrt2 aH;have hk2:=hrt2 k aH;have hval:tab a b (i+1) k=tab a b i k:=(by rw[htab,g115,xAM (show i < a.length by omega)];rfl);refine zz3 ?_;refine aJ Y Y (.on Y Y Y) Y Y (aX (k:=cC 93) (j:=i+1) lH Y aL Y aH gDQ) Y ?_;refine aJ Y Y (.on Y Y Y) Y Y (cE (o:=0) (k:=cC 93) vG Y aL (show (rs.map (·.1))[_]?=some _ by rw[xAQ,hr2];rfl) Y) Y ?_;refine zz1 ?_;refine aJ Y Y (.on Y Y Y) Y Y (aX (k:=eE) (xs:=r2.2) (j:=k) gI Y (.own (l7 hr2)) Y Y aH) Y ?_;refine aJ Y Y (.on Y Y Y) Y Y (cE (o:=0) (k:=eE) ts4 Y (.own (l7 hr2)) hk2 Y) Y (zz2 ?_);refine aJ Y Y (.none Y) Y Y (aX (k:=eE) (xs:=r.2) (j:=k) gI Y (.own (l7 hr)) Y Y aH) Y ?_;refine mT Y Y (.none Y) Y (jG (k:=eE) (xs:=r.2) (j:=k) ts4 Y Y Y Y aH (q7 hr)) ?_;rintro _ K _ ⟨rfl,rfl⟩ -;refine zz9 ?_;exact cW ((k:Int) - 1) _ ⟨by omega,by omega,pG hI hr rfl aH hval⟩ aH aS Y (fun _ h=>by rwa [xAL]at h)
    have hval:false=tab a b i k:=(by rw[htab,g115,xAJ (show ¬i < a.length by omega)];rfl);refine zz10 ?_;refine aJ Y Y (.none Y) Y Y (aX (k:=eE) (xs:=r.2) (j:=k) gI Y (.own (l7 hr)) Y Y aH) Y ?_;refine mT Y Y (.none Y) Y (jG (k:=eE) (xs:=r.2) (j:=k) ts4 Y Y Y Y aH (q7 hr)) ?_;rintro _ K _ ⟨rfl,rfl⟩ -;refine zz9 ?_;exact cW ((k:Int) - 1) _ ⟨by omega,by omega,pG hI hr rfl aH hval⟩ aH aS Y (fun _ h=>by rwa [xAL]at h)
   refine dX (fun(_:Unit)=>True) (fun _=>[(0,str a),(1,str b),(5,sv),(8,i64 i),(9,i64 k),(10,.int .u8 d.toNat),(11,i64 n),(132,.bool (decide (n=1∧d.toNat=63)))]) (fun _=>K) (fun _=>pU sv rs) ?_ ?_
   ·refine zz4 ?_;refine bV 135 Y (fun g135=>?_) (fun g135=>?_)
    ·refine zz7 ?_;exact a8 () trivial (.cons 0 Y (.cons 1 Y (.cons 5 Y (.cons 8 Y (.cons 9 Y (.cons 10 Y (.cons 11 Y (.cons 132 gDK .nil)))))))) Y (fun _ h=>h)
    refine zz5 ?_;exact a8 () trivial (.cons 0 Y (.cons 1 Y (.cons 5 Y (.cons 8 Y (.cons 9 Y (.cons 10 Y (.cons 11 Y (.cons 132 gDK .nil)))))))) Y (fun _ h=>h)
   intro _ _;refine aY 132 Y (fun h132=>?_) (fun h132=>?_)
   ·have hdc:b[k]?=some d:=hkn.elim (fun h=>absurd h.1 aH) (fun h=>h.2.1);have htab:=bGO (v:=a) (i:=i) hdc h132.2;refine cZ (anc:=[0,0,3,7,0,0,0,64,224,480,992,992,3040,8160,16352,992,33760,131040,262112,524256,1048575,2097151]) (ord:=[0,1,2,3,4,5,6,7,8,9,10,11,12,13,14,15,16,17,18,19,20,21]) [21] [21] mixed gC5 (cQ _) (zz2 ?_);refine aJ Y Y (.none Y) Y Y (aX (k:=cC 93) (j:=i) lH Y aL Y aH gDQ) Y ?_;refine aJ Y Y (.none Y) Y Y (cE (o:=0) (k:=cC 93) vG Y aL (show (rs.map (·.1))[_]?=some _ by rw[xAQ,hr];rfl) Y) Y ?_;refine zz6 ?_;refine fC 148 Y (fun g148=>?_) (fun g148=>?_)
    ·obtain⟨r2,hr2,hrl2,hrt2⟩:=tC hI.1 (j:=i+1) aH;have hrt2:=hrt2 aH;have hk2:=hrt2 (k+1) aH;have hval:tab a b (i+1) (k+1)=tab a b i k:=(by rw[htab,xAM (show i < a.length by omega)];rfl);refine zz3 ?_;refine aJ Y Y (.on Y Y Y) Y Y (aX (k:=cC 93) (j:=i+1) lH Y aL Y aH gDQ) Y ?_;refine aJ Y Y (.on Y Y Y) Y Y (cE (o:=0) (k:=cC 93) vG Y aL (show (rs.map (·.1))[_]?=some _ by rw[xAQ,hr2];rfl) Y) Y ?_;refine zz2 ?_;refine aJ Y Y (.on Y Y Y) Y Y (aX (k:=eE) (xs:=r2.2) (j:=k+1) gI Y (.own (l7 hr2)) Y Y aH) Y ?_;refine aJ Y Y (.on Y Y Y) Y Y (cE (o:=0) (k:=eE) ts4 Y (.own (l7 hr2)) hk2 Y) Y (zz1 ?_);refine aJ Y Y (.none Y) Y Y (aX (k:=eE) (xs:=r.2) (j:=k) gI Y (.own (l7 hr)) Y Y aH) Y ?_;refine mT Y Y (.none Y) Y (jG (k:=eE) (xs:=r.2) (j:=k) ts4 Y Y Y Y aH (q7 hr)) ?_;rintro _ K _ ⟨rfl,rfl⟩ -;refine zz9 ?_;exact cW ((k:Int) - 1) _ ⟨by omega,by omega,pG hI hr rfl aH hval⟩ aH aS Y (fun _ h=>by rwa [xAL]at h)
    have hval:false=tab a b i k:=(by rw[htab,xAJ (show ¬i < a.length by omega)];rfl);refine zz10 ?_;refine aJ Y Y (.none Y) Y Y (aX (k:=eE) (xs:=r.2) (j:=k) gI Y (.own (l7 hr)) Y Y aH) Y ?_;refine mT Y Y (.none Y) Y (jG (k:=eE) (xs:=r.2) (j:=k) ts4 Y Y Y Y aH (q7 hr)) ?_;rintro _ K _ ⟨rfl,rfl⟩ -;refine zz9 ?_;exact cW ((k:Int) - 1) _ ⟨by omega,by omega,pG hI hr rfl aH hval⟩ aH aS Y (fun _ h=>by rwa [xAL]at h)
   have hkey:=kAt hkn h95 h132;have hkey2:=bOB hkey;have htab:=bKA (v:=a) (i:=i) hkey;refine cZ (anc:=[0,0,3,7,0,0,0,64,224,480,992,992,4064,992,16352,32736,65504,131040,131040,393184,1048544,2097120,131040,131040,12713952,33554400,67108832,134217696,268435455,536870911]) (ord:=[0,1,2,3,4,5,6,7,8,9,10,11,12,13,14,15,16,17,18,19,20,21,22,23,24,25,26,27,28,29]) [29] [29] mixed gC5 (cQ _) (zz2 ?_);refine aJ Y Y (.none Y) Y Y (aX (k:=cC 93) (j:=i) lH Y aL Y aH gDQ) Y ?_;refine aJ Y Y (.none Y) Y Y (cE (o:=0) (k:=cC 93) vG Y aL (show (rs.map (·.1))[_]?=some _ by rw[xAQ,hr];rfl) Y) Y ?_;refine zz6 ?_;refine fC 75 Y (fun g75=>?_) (fun g75=>?_)
   ·obtain⟨r2,hr2,hrl2,hrt2⟩:=tC hI.1 (j:=i+1) aH;have hrt2:=hrt2 aH;obtain⟨x,hx⟩:∃x,a[i]?=some x:=⟨a[i]'(by omega),x4 aH⟩;have hk2:=hrt2 (k+n) aH;rw[xAM (show i < a.length by omega),hx]at htab;refine zz7 ?_;refine fC 82 Y (fun g82=>?_) (fun g82=>?_)
    ·have hval:tab a b (i+1) (k+n)=tab a b i k:=(by rw[htab,xAM (show some x=some d by rw[xAO.1 (show x.toNat=d.toNat by omega)])];rfl);refine zz3 ?_;refine aJ Y Y (.on Y Y Y) Y Y (aX (k:=cC 93) (j:=i+1) lH Y aL Y aH gDQ) Y ?_;refine aJ Y Y (.on Y Y Y) Y Y (cE (o:=0) (k:=cC 93) vG Y aL (show (rs.map (·.1))[_]?=some _ by rw[xAQ,hr2];rfl) Y) Y ?_;refine zz3 ?_;refine aJ Y Y (.on Y Y Y) Y Y (aX (k:=eE) (xs:=r2.2) (j:=k+n) gI Y (.own (l7 hr2)) Y aH aH) Y ?_;refine aJ Y Y (.on Y Y Y) Y Y (cE (o:=0) (k:=eE) ts4 Y (.own (l7 hr2)) hk2 Y) Y (zz1 ?_);refine aJ Y Y (.none Y) Y Y (aX (k:=eE) (xs:=r.2) (j:=k) gI Y (.own (l7 hr)) Y Y aH) Y ?_;refine mT Y Y (.none Y) Y (jG (k:=eE) (xs:=r.2) (j:=k) ts4 Y Y Y Y aH (q7 hr)) ?_;rintro _ K _ ⟨rfl,rfl⟩ -;refine zz9 ?_;exact cW ((k:Int) - 1) _ ⟨by omega,by omega,pG hI hr rfl aH hval⟩ aH aS Y (fun _ h=>by rwa [xAL]at h)
    have hval:false=tab a b i k:=(by rw[htab,xAJ (fun h=>by cases h;omega)];rfl);refine zz11 ?_;refine aJ Y Y (.none Y) Y Y (aX (k:=eE) (xs:=r.2) (j:=k) gI Y (.own (l7 hr)) Y Y aH) Y ?_;refine mT Y Y (.none Y) Y (jG (k:=eE) (xs:=r.2) (j:=k) ts4 Y Y Y Y aH (q7 hr)) ?_;rintro _ K _ ⟨rfl,rfl⟩ -;refine zz9 ?_;exact cW ((k:Int) - 1) _ ⟨by omega,by omega,pG hI hr rfl aH hval⟩ aH aS Y (fun _ h=>by rwa [xAL]at h)
   have hval:false=tab a b i k:=(by rw[htab,xAJ (show ¬i < a.length by omega)];rfl);refine zz18 ?_;refine aJ Y Y (.none Y) Y Y (aX (k:=eE) (xs:=r.2) (j:=k) gI Y (.own (l7 hr)) Y Y aH) Y ?_;refine mT Y Y (.none Y) Y (jG (k:=eE) (xs:=r.2) (j:=k) ts4 Y Y Y Y aH (q7 hr)) ?_;rintro _ K _ ⟨rfl,rfl⟩ -;refine zz9 ?_;exact cW ((k:Int) - 1) _ ⟨by omega,by omega,pG hI hr rfl aH hval⟩ aH aS Y (fun _ h=>by rwa [xAL]at h)
  obtain rfl:q= -1:=by omega
  refine zz11 ?_;exact cW ((i:Int) - 1) rs ⟨by omega,by omega,bFI hI aH⟩ aH aS Y (fun _ h=>h)
 obtain rfl:z= -1:=by omega
 refine zz13 ?_;exact⟨_,Y,Y,rs,hD,Y⟩
section
variable{w a b:aP}{i k:Nat}{c:UInt8}{rest:List aP}
def bIJ(hc:b[k]?=some c)(h42:¬c.toNat=42)(h:jI w a b i k=some rest):∃x,a[i]?=some x:=by
 cases ha:a[i]? with
 |some x=>exact⟨x,Y⟩
 |none=>rw[uV hc h42 ha]at h;cases h
def bMB(hc:b[k]?=some c)(h63:c.toNat=63)(h:jI w a b i k=some rest):∃qs,i < a.length∧rest=(w.take (i+1)).drop i::qs∧jI w a b (i+1) (k+1)=some qs:=by
 obtain⟨x,hx⟩:=bIJ hc aH h;rw[yX hc h63 hx]at h;cases hg:jI w a b (i+1) (k+1)with
 |none=>rw[hg]at h;cases h
 |some qs=>rw[hg]at h;exact⟨qs,(xAG.1 hx).1,(xAY h).symm,Y⟩
def aSZ{n:Nat}{d:UInt8}(hk:aEI b k n d)(h:jI w a b i k=some rest):i < a.length∧jI w a b (i+1) (k+n)=some rest:=by
 cases hx:a[i]? with
 |none=>rw[aGZ hk hx]at h;cases h
 |some x=>
  rw[aJ4 hk hx]at h;split at h
  ·exact⟨(xAG.1 hx).1,h⟩
  cases h
def aSX{v key:aP}{oct:Bool}:Mach.glob v key oct=jI v (f7 oct v) (f7 oct key) 0 0:=by
 unfold Mach.glob jI;rw[show (f7 oct key).length=key.length by unfold f7;split;rfl;exact mN _];rfl
end
def mvk(tag:Int)(a b v:aP):Option (List aP):=if tag=1 then (if a=b then some []else none)else if tag=2 then (if 0≤Lib.index a b then some []else none)else jI v a b 0 0
def aEU{tag:Int}{oct:Bool}{v key:aP}:iA (Say.matO tag oct 0 [] []) v key=mvk tag (f7 oct v) (f7 oct key) v:=by
 unfold iA mvk;simp only[Say.matO];rw[aSX] <;> rfl
def bOH{tag:Int}{a b v:aP}(h:tag=1):(mvk tag a b v).isSome=decide (a=b):=by
 unfold mvk;rw[x7 h];by_cases e:a=b <;> simp[e]
def bKY{tag:Int}{a b v:aP}(h1:¬tag=1)(h:tag=2):(mvk tag a b v).isSome=decide (0≤Lib.index a b):=by
 unfold mvk;rw[x5 h1,x7 h];by_cases e:0≤Lib.index a b <;> simp[e]
def bKZ{tag:Int}{a b v:aP}(h1:¬tag=1)(h2:¬tag=2):mvk tag a b v=jI v a b 0 0:=by unfold mvk;rw[x5 h1,x5 h2]
attribute [local semireducible] Go.SL.T Go.SL.OL Go.SL.D Go.SL.DL Go.SL.Ev Go.SL.Ef Go.SL.EfS in
def uJ{α:Type}{z:Bool}{k:El α}{E:Env}{x0:Exit}{fr:Fr}{K:Hl}{L:List Asn}{Q:Post}{v:Value}{xs:List α}(h:(∃a n c,v=.slice a n c)→D E x0 fr K (sl z k v xs::L) Q):D E x0 fr K (sl z k v xs::L) Q:=fun a w f i=>h (by obtain⟨y,hs,_⟩:=i.rep;exact aE1 hs) a w f i
def aQC(v key:aP)(tag:Int)(oct:Bool)(hv:v.length≤100000)(hk:key.length≤100000)(K:Hl):Sp x3 99 [str v,str key,i64 tag,.bool oct] K []
  (Ret fun r K' L'=>K'=K∧∃u xs,(∃x n c,u=.slice x n c)∧r=.tuple #[u,.bool (iA (Say.matO tag oct 0 [] []) v key).isSome]∧L'=[sl false (a7 9) u xs]∧(tag≠1→tag≠2→∀ps,Mach.glob v key oct=some ps→xs=(v::ps).take 10)):=by
 refine bN Tryz.func99 Y Tryz.ntmps99 Y Y fun F w=>?_;refine zz18 ?_;refine dX (fun(_:Unit)=>True) (fun _=>[(0,str v),(2,i64 tag),(10,str (f7 oct v)),(11,str (f7 oct key))]) (fun _=>K) (fun _=>[]) ?_ ?_
 ·refine zz3 ?_;refine aA gC3 Y (zz2 ?_)
  first|refine aY 21 Y (fun h21=>?_) (fun h21=>?_)|refine d9 21 Y (fun h21=>?_) (fun h21=>?_)
  ·refine zz3 ?_;refine cN Y Y (kI v _ aH) Y (zz5 ?_);refine cN Y Y (kI key _ aH) Y (zz2 ?_)
   first
    |exact gCJ
    |exact gCK
  refine aW ?_
  first
   |exact gCJ
   |exact gCK
 intro _ _;have hT:Mach.glob v key oct=jI v (f7 oct v) (f7 oct key) 0 0:=aSX;have hal:=sH oct v;have hbl:=sH oct key;have hM:=aEU (tag:=tag) (oct:=oct) (v:=v) (key:=key)
 generalize f7 oct v=a at hT hal hM ⊢
 generalize f7 oct key=b at hT hbl hM ⊢
 refine zz13 ?_;refine aY 27 Y (fun h27=>?_) (fun h27=>?_)
 ·refine zz12 ?_;refine cS (eL (a7 9)) ?_;refine j1 Y Y Y (xAB _) ?_;exact⟨_,Y,Y,_,[],⟨none,0,0,Y⟩,by rw[hM,bOH aH],rfl,fun h=>by omega⟩
 refine zz6 ?_;refine aY 32 Y (fun h32=>?_) (fun h32=>?_)
 ·refine zz7 ?_;refine eH (fun(i:Nat)=>i≤a.length+1∧∀j,j < i→¬(a.take (j+b.length)).drop j=b) (fun i=>[(10,str a),(11,str b),(12,i64 i)]) (fun _=>K) (fun _=>[]) (fun i=>a.length+1 - i) 0 ⟨x9 _,fun j h=>by omega⟩ (.cons 10 Y (.cons 11 Y (.cons 12 Y .nil))) Y (fun _ h=>h) ?_;intro i ⟨hi0,hi1⟩;refine zz12 ?_;refine aY 40 Y (fun h40=>?_) (fun h40=>?_)
  ·refine zz12 ?_;refine aA (fW (m:=i) (n:=i+b.length) Tryz.underlying9 Y Y Y Y aH aH aH) Y (zz4 ?_);refine aY 51 Y (fun h51=>?_) (fun h51=>?_)
   ·refine zz14 ?_;refine cS (eL (a7 9)) ?_;refine j1 Y Y Y (xAB _) ?_;have hq:=aLX (a:=a) (b:=b) (i:=i) aH h51;exact⟨_,Y,Y,_,[],⟨none,0,0,Y⟩,by rw[hM,bKY aH aH,xAM hq],rfl,fun h=>by omega⟩
   refine zz8 ?_;refine cM (i+1) ⟨by omega,fun j hj=>?_⟩ aH (.cons 10 Y (.cons 11 Y (.cons 12 Y .nil))) Y (fun _ h=>h)
   rcases xAC j i with h|h
   ·exact hi1 j h
   have e:j=i:=by omega
   subst e;exact h51
  refine zz14 ?_;refine cS (eL (a7 9)) ?_;refine j1 Y Y Y (xAB _) ?_;have hq:=aOG (a:=a) (b:=b) hi1 aH;exact⟨_,Y,Y,_,[],⟨none,0,0,Y⟩,by rw[hM,bKY aH aH,xAJ hq],rfl,fun h=>by omega⟩
 refine zz7 ?_;refine bA Y Y (aTS a b aH aH _) .nil Y ?_;rintro v54 K _ ⟨rfl,rs,hD,rfl⟩ -;rw[xAL];have hrs:=hD.1;obtain⟨r0,hr0,hrl0,hrt0⟩:=tC hD (j:=0) aH;have h00:=hrt0 aH 0 aH;rw[bKZ aH aH]at hM;have hta:=aNM (v:=a) (k:=b) v b.length (i:=0) (j:=0) aH aH;refine zz7 ?_;refine aA (aX (k:=cC 93) (xs:=rs.map (·.1)) (j:=0) lH Y (.own .here) Y aH gDQ) Y ?_;refine aA (cE (o:=0) (k:=cC 93) vG Y (.own .here) (show (rs.map (·.1))[_]?=some _ by rw[xAQ,hr0];rfl) Y) Y ?_;refine aA (aX (k:=eE) (xs:=r0.2) (j:=0) gI Y (.own (l7 hr0)) Y aH aH) Y ?_;refine aA (cE (o:=0) (k:=eE) ts4 Y (.own (l7 hr0)) h00 Y) Y ?_;refine aA gC3 Y (zz2 ?_)
 first|refine aY 60 Y (fun h60=>?_) (fun h60=>?_)|refine d9 60 Y (fun h60=>?_) (fun h60=>?_)
 ·have h0:tab a b 0 0=false:=(by revert h60;cases tab a b 0 0 <;> simp);rw[h0]at hta;have hno:jI v a b 0 0=none:=(by cases hg:jI v a b 0 0 with|none=>rfl|some x=>rw[hg]at hta;cases hta);refine zz8 ?_;refine uAf ?_;refine cS (eL (a7 9)) ?_;refine j1 Y Y Y (xAB _) ?_;rw[hno]at hM hT;exact⟨_,Y,Y,_,[],⟨none,0,0,Y⟩,by rw[hM];rfl,rfl,fun _ _ ps h=>by rw[hT]at h;cases h⟩
 have h0:tab a b 0 0=true:=(by revert h60;cases tab a b 0 0 <;> simp);rw[h0]at hta;obtain⟨all,hall⟩:∃all,jI v a b 0 0=some all:=(by cases hg:jI v a b 0 0 with|none=>rw[hg]at hta;cases hta|some x=>exact⟨x,Y⟩);refine zz5 ?_;refine cJ (bM (z0:=[(str [])]) cB tz9 Y Y Y Y (.cons Y Y Y (.cons .nil) .nil)) Y ?_;rintro _ K _ ⟨b62,rfl,rfl,rfl⟩ -;refine j4 (qH (k:=a7 9) (xs:=[v]) Y) (zz15 ?_);refine nZ (fun(k:Nat) (i:Nat) (dn:List aP) (cv:Value)=>k≤b.length∧i≤a.length∧dn.length≤k∧(∃x n c,cv=.slice x n c)∧∃rest,jI v a b i k=some rest∧all=dn++rest) (fun k i _ cv=>[(0,str v),(11,str b),(13,v54),(14,cv),(15,i64 i),(16,i64 k)]) (fun _ _ _ _=>K) (fun _ _ dn cv=>sl false (a7 9) cv (v::dn)::pU v54 rs) (fun k _ _ _=>b.length - k) 0 0 [] _ ⟨by omega,by omega,by simp,⟨_,_,_,rfl⟩,all,hall,rfl⟩ (.cons 0 Y (.cons 11 Y (.cons 13 Y (.cons 14 Y (.cons 15 Y (.cons 16 Y .nil)))))) Y (fun _ h=>h) ?_;intro k i dn cv ⟨hk0,hi0,hdl,hcv,rest,hg,hrest⟩;refine zz9 ?_;refine aY 66 Y (fun h66=>?_) (fun h66=>?_)
 ·obtain⟨c,hc⟩:∃c,b[k]?=some c:=⟨b[k]'(by omega),x4 aH⟩;refine zz19 ?_;refine aY 72 Y (fun h72=>?_) (fun h72=>?_)
  ·obtain⟨e0,qs,he0,he1,hgq,hqs,hno⟩:=bAT hc (show c.toNat=42 by omega) hg;have hyes:tab a b e0 (k+1)=true:=(by rw[←aNM (v:=a) (k:=b) v b.length aH aH,hgq];rfl);refine zz8 ?_;refine eH (fun(e:Nat)=>i≤e∧e≤e0) (fun e=>[(0,str v),(11,str b),(13,v54),(14,cv),(15,i64 e),(16,i64 k),(17,i64 i)]) (fun _=>K) (fun _=>sl false (a7 9) cv (v::dn)::pU v54 rs) (fun e=>e0 - e) i ⟨by omega,he0⟩ (.cons 0 Y (.cons 11 Y (.cons 13 Y (.cons 14 Y (.cons 15 Y (.cons 16 Y (.cons 17 Y .nil))))))) Y (fun _ h=>h) ?_;intro e ⟨hei,he2⟩;obtain⟨r,hr,hrl,hrt⟩:=tC hD (j:=e) aH;have hk1:=hrt aH (k+1) aH;refine zz5 ?_;refine aA (aX (k:=cC 93) (xs:=rs.map (·.1)) (j:=e) lH Y (.own (.there .here)) Y aH gDQ) Y ?_;refine aA (cE (o:=0) (k:=cC 93) vG Y (.own (.there .here)) (show (rs.map (·.1))[_]?=some _ by rw[xAQ,hr];rfl) Y) Y ?_;refine zz2 ?_;refine aA (aX (k:=eE) (xs:=r.2) (j:=k+1) gI Y (.own (.there (l7 hr))) Y aH aH) Y ?_;refine aA (cE (o:=0) (k:=eE) ts4 Y (.own (.there (l7 hr))) hk1 Y) Y ?_;refine aA gC3 Y (zz2 ?_);refine d9 83 Y (fun h83=>?_) (fun h83=>?_)
   ·refine zz9 ?_;have hne:e < e0:=(by rcases xAC e e0 with h|h;exact h;(have e1:e=e0:=by omega);rw[e1,hyes]at h83;cases h83);exact cM (e+1) ⟨by omega,by omega⟩ aH (.cons 0 Y (.cons 11 Y (.cons 13 Y (.cons 14 Y (.cons 15 Y (.cons 16 Y (.cons 17 Y .nil))))))) Y (fun _ h=>h)
   have hee:e=e0:=(by rcases xAC e e0 with h|h;(rw[hno e hei h]at h83;cases h83);omega);have he2:e≤a.length:=by omega
   refine zz11 ?_;refine aA (fW (m:=i) (n:=e) Tryz.underlying9 Y Y Y Y Y aH aH) Y ?_;refine cJ (bM (z0:=[(str [])]) cB tz9 Y Y Y Y (.cons Y Y Y (.cons .nil) .nil)) Y ?_;rintro _ K _ ⟨b91,rfl,rfl,rfl⟩ -;refine cJ (dQ (k:=(a7 9)) (ys:=[(v.take e).drop i]) eI Y Y (.there .here) (fun w j=>dJ Tryz.underlying43 (SeesSl.at (.blk (.own .here) Y Y) j)) gC7 gC7) Y ?_;rintro v92 K _ ⟨rfl,rfl,ho92⟩ -;refine zz13 ?_
   first
    |exact gAQ
    |exact gAR
    |exact fH (k+2) (i+1) dn cv ⟨by omega,by omega,by omega,hcv,rest,hgk.2,hrest⟩ aH (.cons 0 Y (.cons 11 Y (.cons 13 Y (.cons 14 Y (.cons 15 Y (.cons 16 Y .nil)))))) Y (fun _ h=>h)
    |exact fH (k+1) (i+1) dn cv ⟨by omega,by omega,by omega,hcv,rest,hgk.2,hrest⟩ aH (.cons 0 Y (.cons 11 Y (.cons 13 Y (.cons 14 Y (.cons 15 Y (.cons 16 Y .nil)))))) Y (fun _ h=>h)
  refine zz6 ?_;refine aY 93 Y (fun h93=>?_) (fun h93=>?_)
  ·obtain⟨qs,hil,hqs,hgq⟩:=bMB hc (show c.toNat=63 by omega) hg;refine zz6 ?_;refine aA (fW (m:=i) (n:=i+1) Tryz.underlying9 Y Y Y Y aH aH aH) Y ?_;refine cJ (bM (z0:=[(str [])]) cB tz9 Y Y Y Y (.cons Y Y Y (.cons .nil) .nil)) Y ?_;rintro _ K _ ⟨b101,rfl,rfl,rfl⟩ -;refine cJ (dQ (k:=(a7 9)) (ys:=[(v.take (i+1)).drop i]) eI Y Y (.there .here) (fun w j=>dJ Tryz.underlying43 (SeesSl.at (.blk (.own .here) Y Y) j)) gC7 gC7) Y ?_;rintro v102 K _ ⟨rfl,rfl,ho102⟩ -;refine zz16 ?_
   first
    |exact gAQ
    |exact gAR
    |exact fH (k+2) (i+1) dn cv ⟨by omega,by omega,by omega,hcv,rest,hgk.2,hrest⟩ aH (.cons 0 Y (.cons 11 Y (.cons 13 Y (.cons 14 Y (.cons 15 Y (.cons 16 Y .nil)))))) Y (fun _ h=>h)
    |exact fH (k+1) (i+1) dn cv ⟨by omega,by omega,by omega,hcv,rest,hgk.2,hrest⟩ aH (.cons 0 Y (.cons 11 Y (.cons 13 Y (.cons 14 Y (.cons 15 Y (.cons 16 Y .nil)))))) Y (fun _ h=>h)
  refine zz6 ?_;refine aY 103 Y (fun h103=>?_) (fun h103=>?_)
  ·refine zz9 ?_;refine aY 109 Y (fun h109=>?_) (fun h109=>?_)
   ·obtain⟨c2,hc2⟩:∃c2,b[k+1]?=some c2:=⟨b[k+1]'(by omega),x4 aH⟩;have hgk:=aSZ (.inl ⟨rfl,⟨c,hc,by omega⟩,hc2⟩) hg;refine zz19 ?_
    first
     |exact gAQ
     |exact gAR
     |exact fH (k+2) (i+1) dn cv ⟨by omega,by omega,by omega,hcv,rest,hgk.2,hrest⟩ aH (.cons 0 Y (.cons 11 Y (.cons 13 Y (.cons 14 Y (.cons 15 Y (.cons 16 Y .nil)))))) Y (fun _ h=>h)
     |exact fH (k+1) (i+1) dn cv ⟨by omega,by omega,by omega,hcv,rest,hgk.2,hrest⟩ aH (.cons 0 Y (.cons 11 Y (.cons 13 Y (.cons 14 Y (.cons 15 Y (.cons 16 Y .nil)))))) Y (fun _ h=>h)
   have hgk:=aSZ (.inr ⟨rfl,hc,by omega,by omega,fun _=>xAD aH⟩) hg;refine zz15 ?_
   first
    |exact gAQ
    |exact gAR
    |exact fH (k+2) (i+1) dn cv ⟨by omega,by omega,by omega,hcv,rest,hgk.2,hrest⟩ aH (.cons 0 Y (.cons 11 Y (.cons 13 Y (.cons 14 Y (.cons 15 Y (.cons 16 Y .nil)))))) Y (fun _ h=>h)
    |exact fH (k+1) (i+1) dn cv ⟨by omega,by omega,by omega,hcv,rest,hgk.2,hrest⟩ aH (.cons 0 Y (.cons 11 Y (.cons 13 Y (.cons 14 Y (.cons 15 Y (.cons 16 Y .nil)))))) Y (fun _ h=>h)
  have hgk:=aSZ (.inr ⟨rfl,hc,by omega,by omega,fun h=>absurd h aH⟩) hg;refine zz15 ?_
  first
   |exact gAQ
   |exact gAR
   |exact fH (k+2) (i+1) dn cv ⟨by omega,by omega,by omega,hcv,rest,hgk.2,hrest⟩ aH (.cons 0 Y (.cons 11 Y (.cons 13 Y (.cons 14 Y (.cons 15 Y (.cons 16 Y .nil)))))) Y (fun _ h=>h)
   |exact fH (k+1) (i+1) dn cv ⟨by omega,by omega,by omega,hcv,rest,hgk.2,hrest⟩ aH (.cons 0 Y (.cons 11 Y (.cons 13 Y (.cons 14 Y (.cons 15 Y (.cons 16 Y .nil)))))) Y (fun _ h=>h)
 obtain rfl:k=b.length:=by omega
 rw[sI]at hg;have hrn:rest=[]:=(by split at hg;exact(xAY hg).symm;cases hg);subst hrn;rw[xAL]at hrest;subst hrest;obtain⟨ca,cn,cc,rfl⟩:=hcv;refine zz9 ?_;refine aA (bU (k:=a7 9) Y Tryz.underlying43 Y (.own .here)) Y (zz3 ?_);refine aY 116 Y (fun h116=>?_) (fun h116=>?_)
 ·refine zz2 ?_;refine aA (nB (k:=a7 9) (xs:=v::all) (m:=10) cB Y .here .here Y Y aH) Y ?_;refine j4 (bKE .here (gZ (m:=10) (xs:=v::all) aH)) (zz11 ?_);refine uBa ?_;refine j1 Y Y Y (xAB _) ?_;rw[hall]at hM hT
  first
   |exact⟨_,Y,Y,_,(v::all).take 10,⟨_,_,_,Y⟩,by rw[hM];rfl,rfl,fun _ _ ps h=>by rw[hT]at h;cases h;rfl⟩
   |exact⟨_,Y,Y,_,v::all,⟨_,_,_,Y⟩,by rw[hM];rfl,rfl,fun _ _ ps h=>by rw[hT]at h;cases h;exact(xAI aH).symm⟩
 refine zz10 ?_;refine uBa ?_;refine j1 Y Y Y (xAB _) ?_;rw[hall]at hM hT
 first
  |exact⟨_,Y,Y,_,(v::all).take 10,⟨_,_,_,Y⟩,by rw[hM];rfl,rfl,fun _ _ ps h=>by rw[hT]at h;cases h;rfl⟩
  |exact⟨_,Y,Y,_,v::all,⟨_,_,_,Y⟩,by rw[hM];rfl,rfl,fun _ _ ps h=>by rw[hT]at h;cases h;exact(xAI aH).symm⟩
end Go.Proofs
end
section
namespace Go.Say
open Go.Syn Go.Mach Go.SL Go.Proofs
def tS{α β:Type}{f:α→Option β}:∀ {l:List α},(∀x∈l,f x=none)→oN f l=none
 | [],_=>rfl
 |a::l,h=>by simp only[oN];rw[h a List.mem_cons_self];exact tS fun x hx=>h x (List.mem_cons_of_mem _ hx)
def aAO{α β:Type}{f:α→Option β}{x:α}{y:β}:∀ {l:List α} {i:Nat},l[i]?=some x→(∀j z,j < i→l[j]?=some z→f z=none)→f x=some y→oN f l=some y
 | [],i,h,_,_=>by simp at h
 |a::l,0,h,_,e=>by simp at h;subst h;simp only[oN,e]
 |a::l,i+1,h,hn,e=>by
  simp only[oN];rw[hn 0 a aH rfl];exact aAO (i:=i) gFC (fun j z hj hz=>hn (j+1) z aH (by simpa using hz)) e
def matV(nm:Bool)(tag:Int)(oct:Bool)(vs keys:List aP)(c:Co):Bool×Co:=
 match iZ (matO tag oct 0 [] []) vs (keys.map (dH nm c.vars c.parts))with
 |some ps=>(true,if tag=3∧nm=true then {c with parts:=ps}else c)
 |none=>(false,c)
section
variable{nm:Bool}{tag:Int}{oct:Bool}{vs keys:List aP}{c:Co}
def matV_none(h:∀(i:Nat) (v:aP),vs[i]?=some v→∀(q:Nat) (k:aP),keys[q]?=some k→iA (matO tag oct 0 [] []) v (dH nm c.vars c.parts k)=none):matV nm tag oct vs keys c=(false,c):=by
 have:iZ (matO tag oct 0 [] []) vs (keys.map (dH nm c.vars c.parts))=none:=by
  unfold iZ;refine tS fun v hv=>tS fun k hk=>?_;obtain⟨i,hi⟩:=xA3 hv;obtain⟨k0,hk0,rfl⟩:=xBF.1 hk;obtain⟨q,hq⟩:=xA3 hk0;rw[h i v hi q k0 hq];rfl
 unfold matV;rw[this]
def matV_hit{i q:Nat}{v k:aP}{ps:List aP}(hv:vs[i]?=some v)(hk:keys[q]?=some k)(h1:∀(j:Nat) (v:aP),j < i→vs[j]?=some v→∀(q:Nat) (k:aP),keys[q]?=some k→iA (matO tag oct 0 [] []) v (dH nm c.vars c.parts k)=none)
  (h2:∀(j:Nat) (k:aP),j < q→keys[j]?=some k→iA (matO tag oct 0 [] []) v (dH nm c.vars c.parts k)=none) (h:iA (matO tag oct 0 [] []) v (dH nm c.vars c.parts k)=some ps):
  matV nm tag oct vs keys c=(true,if tag=3∧nm=true then {c with parts:=v::ps}else c):=by
 have:iZ (matO tag oct 0 [] []) vs (keys.map (dH nm c.vars c.parts))=some (v::ps):=by
  unfold iZ;refine aAO hv (fun j z hj hz=>tS fun x hx=>?_) ?_
  ·obtain⟨k0,hk0,rfl⟩:=xBF.1 hx;obtain⟨q0,hq0⟩:=xA3 hk0;rw[h1 j z hj hz q0 k0 hq0];rfl
  refine aAO (i:=q) (x:=dH nm c.vars c.parts k) (by rw[xAQ,hk];rfl) (fun j z hj hz=>?_) (by rw[h];rfl)
  rw[xAQ]at hz;cases hx:keys[j]? with
  |none=>rw[hx]at hz;cases hz
  |some k0=>rw[hx]at hz;cases hz;rw[h2 j k0 hj hx];rfl
 unfold matV;rw[this]
end
end Go.Say
end
section
attribute [local irreducible] Go.SL.T Go.SL.OL Go.SL.D Go.SL.DL Go.SL.Ev Go.SL.Ef Go.SL.EfS
namespace Go.Proofs
open Go Go.SL Go.Syn Go.Mach
open Go.Say (Co)
open Go.Cmp (cnt)
section
variable{nm:Bool}{tag:Int}{oct:Bool}{vs keys:List aP}{c:Co}{m:Msg}
def CInv.par(h:CInv c){ps:List aP}(hp:∀x∈ps,x.length≤100000):CInv {c with parts:=ps}:=⟨h.vn,h.vars,hp,h.acts,h.keep⟩
def CInv.matV(h:CInv c)(hv:∀v∈vs,v.length≤100000):CInv (Say.matV nm tag oct vs keys c).2:=by
 unfold Say.matV;split
 ·rename_i ps hps;simp only[];split
  ·exact h.par (xO hv hps)
  exact h
 exact h
def sJ:(Say.matV nm tag oct vs keys c).2.vars=c.vars:=by
 unfold Say.matV;split
 ·simp only[];split <;> rfl
 rfl
def vX(hm:MsgOk m){names:List aP}:∀x∈j7 nm m c names,x.length≤100000:=by
 intro x hx;unfold j7 at hx;obtain⟨y,_,hy⟩:=List.mem_flatMap.1 hx;unfold iG at hy;obtain⟨h,hh,rfl⟩:=xBF.1 hy;exact(hm.hs h (List.mem_filter.1 hh).1).2
def aFO(hm:MsgOk m){names:List aP}:∀x∈names.flatMap (jL m),x.length≤100000:=by
 intro x hx;obtain⟨y,_,hy⟩:=List.mem_flatMap.1 hx;unfold jL at hy;split at hy
 ·rw[List.mem_singleton]at hy;subst hy;exact hm.from_
 split at hy
 ·rw[List.mem_singleton]at hy;subst hy;exact hm.to_
 cases hy
def tQ{N:Nat}(hm:MsgOk m):∀ {names:List aP},(j7 nm m c names).length≤1000000*names.length
 | []=>by simp[j7]
 |n::l=>by
  have ih:=tQ (N:=N) hm (names:=l);have e:j7 nm m c (n::l)=iG m (eD (dH nm c.vars c.parts n))++j7 nm m c l:=by unfold j7;simp
  have hf:(iG m (eD (dH nm c.vars c.parts n))).length≤1000000:=by
   unfold iG;rw[xAS];exact xAV (List.length_filter_le _ _) hm.hn
  rw[e,xAF,xBI];omega
def aGN{names:List aP}:(names.flatMap (jL m)).length≤names.length:=by
 induction names with
 |nil=>simp
 |cons n l ih=>
  rw[xBM,xAF,xBI];have:(jL m n).length≤1:=by unfold jL;split;simp;split <;> simp
  omega
end
def mZ(sb:Nat)(m:Msg)(hv:Value)(nm:Bool)(c:Co)(hc:CInv c)(v0 kv:Value)(vs keys:List aP)(tag:Int)(oct:Bool)(ht:1≤tag∧tag≤3)(hvn:vs.length≤4611686018427387904)(hkn:keys.length≤1000000)(hvs:∀v∈vs,v.length≤100000)(hks:∀k∈keys,k.length≤100000)(K:Hl)(hk:Ksl (a7 9) K kv keys):Sp x3 59 [ptr sb,v0,kv,i64 tag,.bool oct] K [stq sb m hv nm c false 0 0,sl false (a7 9) v0 vs] (Ret fun v K' L'=>v=.bool (Say.matV nm tag oct vs keys c).1∧K'=K∧L'=[stq sb m hv nm (Say.matV nm tag oct vs keys c).2 false 0 0]):=by
 refine bN Tryz.func59 Y Tryz.ntmps59 Y Y fun F w=>?_;refine rT fun nv vv cv av=>?_;refine zz12 ?_;refine eH (fun(i:Nat)=>i≤vs.length∧∀(j:Nat) (v:aP),j < i→vs[j]?=some v→∀(q:Nat) (k:aP),keys[q]?=some k→iA (Say.matO tag oct 0 [] []) v (dH nm c.vars c.parts k)=none) (fun i=>[(0,ptr sb),(1,v0),(2,kv),(3,i64 tag),(4,.bool oct),(11,i64 i)]) (fun _=>K) (fun _=>[rsb sb m hv nm nv vv cv av c.keep false 0 0,sl false (a7 9) nv (c.vars.map (·.1)),sl false (a7 9) vv (c.vars.map (·.2)),sl false (a7 9) cv (c.parts.take 10),sl false dP av c.acts,sl false (a7 9) v0 vs]) (fun i=>vs.length - i) 0 ⟨x9 _,fun j v h=>by omega⟩ aS Y (fun _ h=>h) ?_;intro i ⟨hi0,hi1⟩;refine zz5 ?_;refine uAr ?_;refine zz3 ?_;refine aY 19 Y (fun h19=>?_) (fun h19=>?_)
 ·have hil:i < vs.length:=by omega
  obtain⟨x,hx⟩:∃x,vs[i]?=some x:=⟨vs[i]'hil,x4 hil⟩;have hxl:=hvs x (x8 hx);refine zz10 ?_;refine eH (fun(q:Nat)=>q≤keys.length∧∀(j:Nat) (k:aP),j < q→keys[j]?=some k→iA (Say.matO tag oct 0 [] []) x (dH nm c.vars c.parts k)=none) (fun q=>[(0,ptr sb),(1,v0),(2,kv),(3,i64 tag),(4,.bool oct),(11,i64 i),(12,i64 q)]) (fun _=>K) (fun _=>[rsb sb m hv nm nv vv cv av c.keep false 0 0,sl false (a7 9) nv (c.vars.map (·.1)),sl false (a7 9) vv (c.vars.map (·.2)),sl false (a7 9) cv (c.parts.take 10),sl false dP av c.acts,sl false (a7 9) v0 vs]) (fun q=>keys.length - q) 0 ⟨x9 _,fun j v h=>by omega⟩ aS Y (fun _ h=>h) ?_;intro q ⟨hq0,hq1⟩;refine zz5 ?_;refine aA (bU (k:=a7 9) Y Tryz.underlying43 Y (.known hk)) Y (zz3 ?_);refine aY 25 Y (fun h25=>?_) (fun h25=>?_)
  ·have hql:q < keys.length:=by omega
   obtain⟨y,hy⟩:∃y,keys[q]?=some y:=⟨keys[q]'hql,x4 hql⟩;have hyl:=hks y (x8 hy);refine zz9 ?_;refine aA (aX (k:=a7 9) (j:=q) cB Y (.known hk) Y Y hql) Y ?_;refine aA (cE (o:=0) (k:=a7 9) ts9 Y (.known hk) hy Y) Y ?_;refine bA Y Y (pK sb m hv nm nv vv cv av c.keep false 0 0 c.vars c.parts y hyl hc.vn hc.small _) bS Y ?_;rintro _ K _ ⟨rfl,rfl,rfl⟩ -;have hul:=gX (nm:=nm) (vars:=c.vars) (parts:=c.parts) hyl;refine zz7 ?_;refine aA (aX (k:=a7 9) (j:=i) cB Y aL Y Y hil) Y ?_;refine aA (cE (o:=0) (k:=a7 9) ts9 Y aL hx Y) Y (zz3 ?_);refine bA Y Y (aQC x (dH nm c.vars c.parts y) tag oct hxl hul _) .nil Y ?_;rintro _ K _ ⟨rfl,u,xs,⟨ua,un,uc,rfl⟩,rfl,rfl,hxs⟩ -;refine zz12 ?_;refine d9 45 Y (fun h45=>?_) (fun h45=>?_)
   ·obtain⟨ps,hps⟩:=Option.isSome_iff_exists.1 h45;have hq:=Say.matV_hit hx hy hi1 hq1 hps;refine zz6 ?_;refine bV 48 Y (fun g48=>?_) (fun g48=>?_)
    ·refine zz11 ?_;refine d9 53 Y (fun h53=>?_) (fun h53=>?_)
     ·subst h53;have htag:tag=3:=by omega
      have hxs2:=hxs aH aH ps (by rw[←hps,aEU,bKZ aH aH,←aSX]);rw[x7 ⟨htag,rfl⟩]at hq;subst hxs2;refine zz5 ?_;refine uAh ?_;rintro _ K _ ⟨rfl,rfl⟩ -;refine zz17 ?_;refine aQ (aM cI (aM cI (aM cI (aM bW (aM cI bF))))) ?_;refine cS (eO (m:=m) (c:={c with parts:=x::ps})) (zz1 ?_);rw[hq];exact⟨_,Y,Y,Y,Y⟩
     rw[x5 (by rw[h53];simp)]at hq;refine zz17 ?_;refine aQ (aM cI (aM cI (aM cI (aM cI (aM cI bF))))) ?_;refine cS (eO (m:=m) (c:=c)) (zz1 ?_);rw[hq];exact⟨_,Y,Y,Y,Y⟩
    refine zz25 ?_;rw[x5 (fun h=>by omega)]at hq;refine aQ (aM cI (aM cI (aM cI (aM cI (aM cI bF))))) ?_;refine cS (eO (m:=m) (c:=c)) (zz1 ?_);rw[hq];exact⟨_,Y,Y,Y,Y⟩
   refine zz8 ?_;refine aQ (aM cI (aM cI (aM cI (aM cI (aM cI (aM cI bF)))))) ?_;refine cM (q+1) ⟨by omega,fun j z hj hz=>?_⟩ aH aS Y (fun _ h=>h)
   rcases xAC j q with h|h
   ·exact hq1 j z h hz
   have e:j=q:=by omega
   subst e;rw[hy]at hz;cases hz
   cases hr:iA (Say.matO tag oct 0 [] []) x (dH nm c.vars c.parts y)with
   |none=>rfl
   |some ps=>rw[hr]at h45;cases h45
  refine zz11 ?_;refine cM (i+1) ⟨by omega,fun j z hj hz q2 k hk2=>?_⟩ aH aS Y (fun _ h=>h)
  rcases xAC j i with h|h
  ·exact hi1 j z h hz q2 k hk2
  have e:j=i:=by omega
  subst e;rw[hx]at hz;cases hz;exact hq1 q2 k (by have:=(xAG.1 hk2).1;omega) hk2
 have hq:Say.matV nm tag oct vs keys c=(false,c):=Say.matV_none (fun j v hv q k hk2=>hi1 j v (by have:=(xAG.1 hv).1;omega) hv q k hk2);refine zz11 ?_;refine aQ (aM bW (aM bW (aM bW (aM bW (aM bW bF))))) ?_;refine cS (eO (m:=m) (c:=c)) (zz1 ?_);rw[hq];exact⟨_,Y,Y,Y,Y⟩
def aKP(sb:Nat)(m:Msg)(hv:Value)(nm:Bool)(c:Co)(en:Bool)(e p:Int)(hc:CInv c)(s:aP)(hs:s.length≤100000)(K:Hl):Sp x3 63 [ptr sb,str s] K [stq sb m hv nm c en e p] (Ret fun v K' L'=>v=str (dH nm c.vars c.parts s)∧K'=K∧L'=[stq sb m hv nm c en e p]):=by
 refine⟨⟨_,Tryz.func63,Y,Y⟩,fun F w i=>?_⟩
 obtain⟨nv,vv,cv,av,j⟩:=aQW i;have h:=yE [sl false dP av c.acts] (pK sb m hv nm nv vv cv av c.keep en e p c.vars c.parts s hs hc.vn hc.small K);refine(h.2 F w j).mono fun x w2 ⟨K',L',⟨N,⟨v,e1,e2,e3,e4⟩,e5⟩,le,j2⟩=>⟨K',[stq sb m hv nm c en e p],⟨v,e1,e2,e3,Y⟩,le,?_⟩
 subst e4;subst e5
 exact j2.imp eO
end Go.Proofs
end
section
namespace Go.Proofs
open Go Go.SL Go.Syn Go.Mach
open Go.Say (Co)
open Go.Cmp (cnt)
section
variable{E:Env}{x0:Exit}{fr:Fr}{K:Hl}{L:List Asn}{Q:Post}{sb:Nat}{m:Msg}{hv:Value}{nm:Bool}{r:Res (Bool×Co)}
def gO(h:∀d en e p,uP r d en e p→D E x0 fr K (stq sb m hv nm d en e p::L) Q):D E x0 fr K (sto sb m hv nm r::L) Q:=by
 intro a w f i;cases r with
 |ok q=>exact h q.2 q.1 0 0 ⟨Y,Y,Y,Y⟩ a w f i
 |error y=>
  obtain⟨h1,⟨b1,l1,⟨c,hc⟩,hl,hd,e⟩,rest⟩:=i.rep;exact h c true y.1 y.2 ⟨Y,Y,Y⟩ a w f ⟨i.os,i.tape,i.output,i.size,h1,⟨b1,l1,hc,hl,hd,e⟩,rest⟩
end
end Go.Proofs
end
section
attribute [local irreducible] Go.SL.T Go.SL.OL Go.SL.D Go.SL.DL Go.SL.Ev Go.SL.Ef Go.SL.EfS
namespace Go.Proofs
open Go Go.SL Go.Syn Go.Mach
open Go.Say (Co)
open Go.Cmp (cnt)
def ResV(r:Res (Bool×Co))(av:Value):Value:=.agg #[av,i64 (match r with| .error y=>y.1| .ok _=>0),i64 (match r with| .error y=>y.2| .ok _=>0)]
def sB(sb:Nat)(m:Msg)(hv:Value)(nm:Bool)(r:Res (Bool×Co))(hne:Bad r)(hk:∀q,r=.ok q→CInv q.2)(d:Co)(en:Bool)(e p:Int)(hs:uP r d en e p)(K:Hl):Sp x3 39 [ptr sb] K [stq sb m hv nm d en e p] (Ret fun v K' L'=>∃av,(∃x n c,av=.slice x n c)∧v=ResV r av∧K'=K∧L'=[sl false dP av (Say.out r).1]):=by
 refine bN Tryz.func39 Y Tryz.ntmps39 Y Y fun F w=>?_;refine rT fun nv vv cv av=>?_;refine zz3 ?_;rintro _ K _ ⟨b2,rfl,rfl,rfl⟩ -;refine zz12 ?_;refine aY 7 Y (fun h7=>?_) (fun h7=>?_)
 ·obtain⟨y,rfl⟩:∃y,r=.error y:=(by cases r with|error y=>exact⟨y,Y⟩|ok q=>exact absurd hs.2.2.1 h7);obtain⟨rfl,rfl,rfl⟩:=hs;refine aI ?_;refine cZ (anc:=[0,1,0,4,12,28,0,64,192,448,1023,2047]) (ord:=[0,2,3,4,5,6,7,8,9,1,10,11]) [1,11] [11] mixed gC5 (aM bW (aM bW bF)) ?_;refine aJ Y Y (.none Y) Y Y (dG aJG aAB dF) Y (zz8 ?_);refine uK Y Y (.none Y) Y Y (bM (z0:=[.int .i64 0,(str [])]) jU aIV Y Y Y Y dF) Y ?_;rintro _ K _ ⟨b9,rfl,rfl,rfl⟩ -;refine⟨_,(show Tks _ _ _ from (aM cI (aM cI bF))).sat,?_⟩
  refine aJ Y Y (.none Y) Y Y (dG tb54 tb54f dF) Y ?_;refine mT Y Y (.none Y) Y (cX ta54_3 Y Y Y bR (by first|rfl|decide|(simp[Value.oneCell'];done)) (.cons (.cons (.cons .nil))) (by first|rfl|(intro j hj;simp))) ?_;rintro _ K _ ⟨rfl,rfl⟩ -;refine zz4 ?_;refine uAj ?_;refine cS (qH (k:=dP) (xs:=[(1,[])]) Y) ?_;refine pY Y Y ta54_3 aL Y Y (xAB _) (aM bW bF) ?_;exact⟨_,Y,_,⟨_,_,_,Y⟩,Y,Y,Y⟩
 obtain⟨⟨b,d2⟩,rfl⟩:∃q,r=.ok q:=(by cases r with|ok q=>exact⟨q,Y⟩|error y=>exact absurd (hs.2.1▸xBD.1 h7) (hne y Y));have hci:CInv d2:=hk _ rfl;obtain⟨rfl,rfl,rfl,rfl⟩:d=d2∧en=b∧e=0∧p=0:=hs;refine zz11 ?_;refine d9 22 Y (fun h22=>?_) (fun h22=>?_)
 ·have hac:=hci.keep h22;refine jJ (L':=pt b2 (bL [Value.slice none 0 0,i64 0,i64 0] 54)::[rsb sb m hv nm nv vv cv av d.keep en 0 0,sl false (a7 9) nv (d.vars.map (·.1)),sl false (a7 9) vv (d.vars.map (·.2)),sl false (a7 9) cv (d.parts.take 10),sl false dP av []]) (fun h hh=>(by rw[←hac];exact hh)) (zz2 ?_);refine aA (dG aJG aAB dF) Y (zz4 ?_);refine bA Y Y (aKN sb m hv nm nv vv cv av d.keep en 0 [] (1,[]) 0 (by simp) _) bS Y ?_;rintro _ K _ ⟨rfl,rfl,av2,hL⟩ -;rw[show addA (1,[]) []=.ok [(1,[])]from rfl]at hL;subst hL;refine zz12 ?_;refine aY 34 Y (fun h34=>?_) (fun h34=>?_)
  ·exact absurd Y h34
  first|refine oU (fun h hs=>iQ (k:=dP) (z:=false) h (Tks.sat (show Tks [_] _ _ from .cons (.there .here) .nil) h hs)) ?_|refine oU (fun h hs=>iQ (k:=dP) (z:=false) h (Tks.sat (show Tks [_] _ _ from .cons (.there (.there (.there (.there (.there .here))))) .nil) h hs)) ?_
  rintro⟨ax,nx,cx,rfl⟩;refine zz8 ?_;refine aA (dG tb54 tb54f dF) Y ?_;refine cD (cX ta54_3 Y Y Y bR gC1 (.cons (.cons (.cons .nil))) gC8) ?_;rintro _ K _ ⟨rfl,rfl⟩ -;refine zz3 ?_;refine pY Y Y ta54_3 aL Y Y (xAB _) (aM cI bF) ?_;refine⟨_,Y,_,⟨_,_,_,Y⟩,Y,Y,?_⟩
  simp only[Say.out,Say.done,hac,h22,if_true,List.nil_append]
 refine zz12 ?_;refine aY 34 Y (fun h34=>?_) (fun h34=>?_)
 ·exact absurd Y h34
 first|refine oU (fun h hs=>iQ (k:=dP) (z:=false) h (Tks.sat (show Tks [_] _ _ from .cons (.there .here) .nil) h hs)) ?_|refine oU (fun h hs=>iQ (k:=dP) (z:=false) h (Tks.sat (show Tks [_] _ _ from .cons (.there (.there (.there (.there (.there .here))))) .nil) h hs)) ?_
 rintro⟨ax,nx,cx,rfl⟩;refine zz8 ?_;refine aA (dG tb54 tb54f dF) Y ?_;refine cD (cX ta54_3 Y Y Y bR gC1 (.cons (.cons (.cons .nil))) gC8) ?_;rintro _ K _ ⟨rfl,rfl⟩ -;refine zz3 ?_;refine pY Y Y ta54_3 aL Y Y (xAB _) (aM k5T bF) ?_;refine⟨_,Y,_,⟨_,_,_,Y⟩,Y,Y,?_⟩
 simp only[Say.out,Say.done,h22,if_false,Bool.false_eq_true]
end Go.Proofs
end
section
namespace Go.Proofs
open Go Go.SL Go.Syn Go.Mach
set_option maxRecDepth 100000 in
def bPI:fT x3 91=some ([(str []),(str []),.int .i64 0,.slice none 0 0,.bool false,.slice none 0 0,.slice none 0 0,.slice none 0 0,.slice none 0 0,.bool false,.bool false,.int .i64 0,.int .i64 0],[(0,4),(4,1),(5,1),(6,1),(7,1),(8,1),(9,1),(10,1),(11,1),(12,1)]):=cY
open Go.Say (Co)
open Go.Cmp (cnt)
def aKV:CInv Say.start:=⟨by decide,fun n=>by simp[Say.start,vget,List.lookup],fun x h=>by simp[Say.start]at h,by decide,fun _=>rfl⟩
def aKX{b:Nat}{m:Msg}{hv:Value}{nm:Bool}{L:List Asn}:∀h,Sat (pt b (bL [str m.from_,str m.to_,i64 m.size,hv,.bool nm,.slice none 0 0,.slice none 0 0,.slice none 0 0,.slice none 0 0,.bool true,.bool false,i64 0,i64 0] 91)::L) h→Sat (stq b m hv nm Say.start false 0 0::L) h:=by
 intro h hh;refine eO (nv:=.slice none 0 0) (vv:=.slice none 0 0) (cv:=.slice none 0 0) (av:=.slice none 0 0) h ?_;exact eR (fun h hh=>fF (fF (fF (fF hh)))) hh
end Go.Proofs
end

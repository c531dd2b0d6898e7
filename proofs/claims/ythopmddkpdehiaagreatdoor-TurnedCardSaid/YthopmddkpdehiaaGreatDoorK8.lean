/-
  What the proof stands on, part 8: the logic of walks, the walks through the functions, the plain laws. Conditions: as each theorem says. (Merged and shortened by a program.)
-/
import Derived.Test.YthopmddkpdehiaaGreatDoorK1
import Derived.Test.YthopmddkpdehiaaGreatDoorK2
import Derived.Test.YthopmddkpdehiaaGreatDoorK3
import Derived.Test.YthopmddkpdehiaaGreatDoorK4
import Derived.Test.YthopmddkpdehiaaGreatDoorK5
import Derived.Test.YthopmddkpdehiaaGreatDoorK6
import Derived.Test.YthopmddkpdehiaaGreatDoorK7
set_option linter.unusedVariables false
set_option linter.unusedSimpArgs false
set_option maxRecDepth 4000
set_option maxHeartbeats 1000000
section
namespace Go.Syn
theorem aCT:∀(x y:List (aJ×Tk)) (e:aJ),rend (x++y) e=rend x (rend y e)
 | [],y,e=>rfl
 |a::x,y,e=>by simp only[List.cons_append,rend,aCT x y e]
def bC1(l:List aJ):List (aJ×Tk):=l.flatMap fun z=>[([],.sg 44),([32],.tx z)]
def aTX(b:aJ):List aJ→List (aJ×Tk)
 | []=>[(b,.sg 91),([],.sg 93)]
 | [x]=>[(b,.tx x)]
 |x::y::r=>(b,.sg 91)::([],.tx x)::(bC1 (y::r)++[([],.sg 93)])
def ws:Tree→Nat→Bool→aJ→List (aJ×Tk)
 | .const t,_,_,b=>[(b,.nm (if t=true then oE else jB))]
 | .not_ t,d,_,b=>(b,.nm rY)::ws t d true [32]
 | .many all l,d,_,b=>(b,.nm (if all=true then lQ else lR))::([32],.sg 40)::(ws l d true []++[([],.sg 41)])
 | .mat tag oct op x y,_,_,b=>(b,.nm (sR op))::((if oct=true then [([32],.tg kU),([32],.tx eV)]else [])++((if tag=2 then [([32],.tg vR)]else if tag=3 then [([32],.tg zP)]else [])++(aTX [32] x++aTX [32] y)))
 | .exi x,_,_,b=>(b,.nm qZ)::aTX [32] x
 | .siz tag n,_,_,b=>[(b,.nm zR),([32],.tg (if tag=2 then nQ else zQ)),([32],.nu n.toNat)]
 | .tnil,_,_,_=>[]
 | .tcons t l,d,f,b=>(if f=true then ws t d true b else ([],.sg 44)::ws t d true [32])++ws l d false []
 | .plain op,_,_,b=>[(b,.nm (if op=14 then mT else mF)),([],.sg 59)]
 | .act k a _,_,_,b=>if k=1 then [(b,.nm tK),([],.sg 59)]else [(b,.nm (if k=2 then eD else if k=3 then nK else fO)),([32],.tx a),([],.sg 59)]
 | .set_ n v tag,_,_,b=>(b,.nm aFM)::((if tag=1 then [([32],.tg kF)]else if tag=2 then [([32],.tg kG)]else if tag=3 then [([32],.tg iU)]else [])++[([32],.tx n),([32],.tx v),([],.sg 59)])
 | .iff bs,d,_,b=>ws bs d true b
 | .cnil,_,_,_=>[]
 | .ccons c l,d,_,b=>ws c d true (b++indC d)++ws l d true [10]
 | .bnil,_,_,_=>[]
 | .bcons t k l,d,f,b=>(if f=true then (b,.nm txIf)else ([32],.nm lS))::(ws t d true [32]++(([32],.sg 123)::(ws k (d+1) true [10]++((10::indC d,.sg 125)::ws l d false []))))
 | .belse k l,d,_,b=>([32],.nm kA)::([32],.sg 123)::(ws k (d+1) true [10]++((10::indC d,.sg 125)::ws l d false []))
theorem aQG:∀(t:Tree) (d:Nat) (f:Bool),prn (dF t) d f=prn t d f:=by
 intro t;induction t with
 |iff bs ih=>intro d f;simp only[dF,prn,ih]
 |ccons c l ih1 ih2=>intro d f;simp only[dF,prn,ih1,ih2]
 |bcons t b l _ ih1 ih2=>intro d f;simp only[dF,prn,ih1,ih2]
 |belse b l ih1 ih2=>intro d f;simp only[dF,prn,ih1,ih2]
 |_=>intro d f;simp only[dF,prn]
def tl:List Tree→Tree
 | []=>.tnil
 |x::r=>.tcons x (tl r)
def cl:List Tree→Tree
 | []=>.cnil
 |x::r=>.ccons x (cl r)
def bl:List (Tree×Tree)→Option Tree→Tree
 | [],none=>.bnil
 | [],some b=>.belse b .bnil
 |p::r,e=>.bcons p.1 p.2 (bl r e)
theorem aKA(x:Tree):∀l,(tl l).snocT x=tl (l++[x])
 | []=>rfl
 |y::l=>by simp only[tl,Tree.snocT,aKA x l,List.cons_append]
theorem aJ9(x:Tree):∀l,(cl l).snocC x=cl (l++[x])
 | []=>rfl
 |y::l=>by simp only[cl,Tree.snocC,aJ9 x l,List.cons_append]
theorem aJ6(t b:Tree):∀l,(bl l none).snocB (some t) b=bl (l++[(t,b)]) none
 | []=>rfl
 |y::l=>by simp only[bl,Tree.snocB,aJ6 t b l,List.cons_append]
theorem aJ7(b:Tree):∀l,(bl l none).snocB none b=bl l (some b)
 | []=>rfl
 |y::l=>by simp only[bl,Tree.snocB,aJ7 b l]
theorem bCA(us:List (List Wd×Tree)):∀l,us.foldl (fun l p=>l.snocT p.2) (tl l)=tl (l++us.map (·.2)):=by
 induction us with
 |nil=>intro l;simp
 |cons p us ih=>intro l;simp only[List.foldl_cons,aKA,ih,List.map_cons,List.append_assoc,List.singleton_append]
theorem aZB(us:List (List Wd×Tree)):∀l,us.foldl (fun l p=>l.snocC p.2) (cl l)=cl (l++us.map (·.2)):=by
 induction us with
 |nil=>intro l;simp
 |cons p us ih=>intro l;simp only[List.foldl_cons,aJ9,ih,List.map_cons,List.append_assoc,List.singleton_append]
theorem bB9(us:List Br):∀l,us.foldl (fun l p=>l.snocB (some p.t) p.b) (bl l none)=bl (l++us.map fun p=>(p.t,p.b)) none:=by
 induction us with
 |nil=>intro l;simp
 |cons p us ih=>intro l;simp only[List.foldl_cons,aJ6,ih,List.map_cons,List.append_assoc,List.singleton_append]
theorem aW1(l:List (Tree×Tree))(els:Option (List Wd×Tree)):endB (bl l none) els=.iff (bl l (els.map (·.2))):=by
 cases els with
 |none=>rfl
 |some p=>simp only[endB,aJ7,Option.map_some]
structure WT (G:List Wd→Tree→Prop) (t:Tree):Prop where
 txt:∀d b e,rend (ws t d true b) e=b++(prn t d true++e)
 gd:∀d b r,b.all jD=true→kC r=true→qF r=true→kC (ws t d true b++r)=true
 cl:∀d b c r,qF (ws t d true (c::b)++r)=true
 gr:∀d b,G ((ws t d true b).map fun x=>x.2.wd) t
section
variable{needs:List aJ}
structure WB (G:List Wd→Tree→Prop) (t:Tree):Prop where
 txt:∀d b e,b=[10]∨t≠.cnil→rend (ws t d true b) (10::e)=b++(prn t d true++e)
 gd:∀d b r,b.all jD=true→kC r=true→qF r=true→kC (ws t d true b++r)=true
 cl:∀d c b r,qF r=true→qF (ws t d true (c::b)++r)=true
 gr:∀d b,G ((ws t d true b).map fun x=>x.2.wd) t
end
end Go.Syn
end
section
namespace Go.Syn
theorem aXB{ns ns':List aJ}{u:List Wd}(h:GReq ns u ns'):(∀x∈ns,x∈pK)→ns.Nodup→(∀x∈ns',x∈pK)∧ns'.Nodup:=by
 induction h with
 |nil ns=>intro h1 h2;exact⟨h1,h2⟩
 |cons ns ns' u v l gl hl _ ih=>
  intro h1 h2;have:∀(l ns:List aJ),(∀x∈l,x∈pK)→(∀x∈ns,x∈pK)→ns.Nodup→(∀x∈gQ ns l,x∈pK)∧(gQ ns l).Nodup:=by
   intro l;induction l with
   |nil=>intro ns _ h1 h2;exact⟨h1,h2⟩
   |cons x l ih=>
    intro ns hl h1 h2;refine ih (addN ns x) (fun y hy=>hl y (by simp[hy])) ?_ ?_
    ·unfold addN;split
     ·exact h1
     ·intro y hy;rcases List.mem_append.1 hy with hy|hy
      ·exact h1 y hy
      ·rw[List.mem_singleton.1 hy];exact hl x (by simp)
    ·unfold addN;split
     ·exact h2
     ·rename_i hx;rw[List.nodup_append];exact⟨h2,by simp,fun a ha b hb=>by rw[List.mem_singleton.1 hb];exact fun e=>hx (e▸ha)⟩
  obtain⟨a,b⟩:=this l ns hl h1 h2;exact ih a b
theorem aIT{needs:List aJ}{n:Nat}{B:List Wd→Tree→Prop}{u:List Wd}{c:Tree}(h:GCmd needs n B u c):∃w r,u=wNm w::r∧w≠d6:=by
 cases h with
 |simple word c h=>rcases h with ⟨rfl,rfl⟩|⟨rfl,rfl⟩|⟨rfl,rfl⟩ <;> exact⟨_,_,rfl,by decide⟩
 |act word kind ext arg h _=>rcases h with ⟨rfl,_,_⟩|⟨rfl,_,_⟩|⟨rfl,_,_⟩ <;> exact⟨_,_,rfl,by decide⟩
 |set0=>exact⟨_,_,rfl,by decide⟩
 |set1=>exact⟨_,_,rfl,by decide⟩
 |iff=>exact⟨_,_,rfl,by decide⟩
theorem aLX{needs:List aJ}{n:Nat}{u:List Wd}{t:Tree}(h:fK needs (n+1) u t):∀w r,u=w::r→w≠wNm d6:=by
 obtain⟨cs,hc,e,_⟩:=h;intro w r hw;cases cs with
 |nil=>rw[e]at hw;cases hw
 |cons p cs=>
  obtain⟨w',r',e1,e2⟩:=aIT (hc p (by simp));rw[e,List.flatMap_cons,e1]at hw
  injection hw with h1 h2
  rw[←h1];intro h
  injection h with h3 h4
  injection h4 with h5
  exact e2 h5
end Go.Syn
end
section
namespace Go.Say
open Go.Syn Go.Mach Go.Cmp
def forget{α:Type}:Res α→Res α
 | .error e=>.error (e.1,0)
 | .ok r=>.ok r
section
variable(nm:Bool)(m:Msg)
theorem aK4(k:Int)(arg:aJ)(p:Int)(c:Co):act k arg 0 c=forget (act k arg p c):=by
 unfold act;split
 ·rfl
 ·split
  ·rfl
  ·unfold addX;split
   ·rfl
   ·split
    ·rfl
    ·split <;> rfl
theorem aRD:∀(t:Tree) (c:Co),Say.run nm m (dF t) c=forget (Say.run nm m t c)∧cmd nm m (dF t) c=forget (cmd nm m t c)∧brs nm m (dF t) c=forget (brs nm m t c):=by
 intro t;induction t with
 |act k a p=>
  intro c;refine⟨rfl,?_,rfl⟩
  simp only[dF,cmd];rw[aK4 k (r7 nm k a c) p c];cases act k (r7 nm k a c) p c <;> rfl
 |iff bs ih=>intro c;exact⟨rfl,by simp only[dF,cmd];exact(ih c).2.2,rfl⟩
 |ccons x l ih1 ih2=>
  intro c;refine⟨?_,rfl,rfl⟩
  simp only[dF,Say.run];rw[(ih1 c).2.1];cases cmd nm m x c with
  |error e=>rfl
  |ok r=>
   simp only[forget];split
   ·rfl
   ·exact(ih2 r.2).1
 |bcons t b l _ ih2 ih3=>
  intro c;refine⟨rfl,rfl,?_⟩
  simp only[dF,brs];split
  ·exact(ih2 _).1
  ·exact(ih3 _).2.2
 |belse b l ih1 _=>intro c;exact⟨rfl,rfl,by simp only[dF,brs];exact(ih1 c).1⟩
 |_=>
  intro c;refine⟨rfl,?_,rfl⟩
  simp only[dF,cmd]
  try (split <;> rfl)
  try rfl
end
theorem bBD{s:aJ}{r:List aJ×Tree}{m:Msg}(h:dX s=.ok r)(hs:s.length≤600):(sayC r m).acts=(out (Say.run (decide (dD∈r.1)) m r.2 start)).1∧te (sayC r m).err=te (out (Say.run (decide (dD∈r.1)) m r.2 start)).2:=by
 have:=(aMC (nm:=decide (dD∈r.1)) (m:=m) h hs).2;have h1:=congrArg Prod.fst this;have h2:=congrArg Prod.snd this;exact⟨h1,congrArg te h2⟩
end Go.Say
end
section
namespace Go.Proofs
open Go Go.SL Go.Syn Go.Mach Go.Cmp
theorem bBA{n k:Nat}(h:n≤k):∀ {t:Tree},sOk n t→sOk k t:=by
 intro t;induction t with
 |const=>intro _;trivial
 |not_ t ih=>intro h1;exact ih h1
 |many a l ih=>intro h1;exact ih h1
 |mat tag oct op a b=>intro h1;exact⟨fun x hx=>by have:=h1.1 x hx;omega,fun x hx=>by have:=h1.2.1 x hx;omega,by have:=h1.2.2.1;omega,by have:=h1.2.2.2;omega⟩
 |exi a=>intro h1;exact⟨fun x hx=>by have:=h1.1 x hx;omega,by have:=h1.2;omega⟩
 |siz=>intro h1;exact h1
 |tnil=>intro _;trivial
 |tcons t l i1 i2=>intro h1;exact⟨i1 h1.1,i2 h1.2⟩
 |plain=>intro _;trivial
 |act k a p=>intro h1;exact Nat.le_trans h1 h
 |set_ a v t=>intro h1;exact⟨Nat.le_trans h1.1 h,Nat.le_trans h1.2 h⟩
 |iff bs ih=>intro h1;exact ih h1
 |cnil=>intro _;trivial
 |ccons c l i1 i2=>intro h1;exact⟨i1 h1.1,i2 h1.2⟩
 |bnil=>intro _;trivial
 |bcons t b l i1 i2 i3=>intro h1;exact⟨i1 h1.1,i2 h1.2.1,i3 h1.2.2⟩
 |belse b l i1 i2=>intro h1;exact⟨i1 h1.1,i2 h1.2⟩
theorem aCN{s:aJ}{r:List aJ×Tree}(h:dX s=.ok r)(hs:s.length≤600):TextFit r:=by
 obtain⟨f1,f2,f3,f4,_⟩:=qN h;have hn:=aAF h;obtain⟨_,_,_,_,_,g1,_,_,_⟩:=t8 h;obtain⟨n1,_⟩:=aXB g1 (by simp) (by simp);refine⟨f1,f4,bBA hs f2,by omega,aQC h,by omega,fun x hx=>?_⟩
 have:=n1 x hx;simp only[pK,List.mem_cons,List.not_mem_nil,or_false]at this;rcases this with rfl|rfl|rfl|rfl <;> decide
end Go.Proofs
end
section
namespace Go.Syn
theorem pG{s:aJ}:∀(n f g a:Nat),s.length+1 - a≤n→s.length+1 - a≤f→s.length+1 - a≤g→0 < f→0 < g→jF s f a=jF s g a
 |n,0,g,a,hn,hf,hg,h1,h2=>by omega
 |n,f+1,0,a,hn,hf,hg,h1,h2=>by omega
 |n,f+1,g+1,a,hn,hf,hg,h1,h2=>by
  rcases Nat.lt_or_ge a s.length with ha|ha
  ·obtain⟨n,rfl⟩:∃m,n=m+1:=⟨n - 1,by omega⟩;have hc:s[a]?=some s[a]:=List.getElem?_eq_getElem ha
   by_cases b1:s[a].toNat=32∨s[a].toNat=9∨s[a].toNat=13∨s[a].toNat=10
   ·rw[iR hc b1,iR hc b1];exact pG n f g (a+1) aH aH aH aH aH
   by_cases b2:s[a].toNat=35
   ·have:=nV hc b2;rw[jT hc b2,jT hc b2];exact pG n f g _ aH aH aH aH aH
   by_cases b3:s[a].toNat=47
   ·by_cases b4:((s[a+1]?).getD 0).toNat=42
    ·by_cases b5:Lib.index (s.drop (min (a+2) s.length)) [42,47] < 0
     ·rw[uD hc b3 b4 b5,uD hc b3 b4 b5]
     ·rw[gH hc b3 b4 b5,gH hc b3 b4 b5];exact pG n f g _ aH aH aH aH aH
    ·rw[kK hc b3 b4,kK hc b3 b4]
   ·rw[mB hc aH,mB hc aH]
  ·rw[oU ha,oU ha]
theorem aEY{s:aJ}{a:Nat}{c:UInt8}(hc:s[a]?=some c)(h:c.toNat=35):skip s a=skip s (a+((s.drop a).takeWhile fun c=>decide (¬c.toNat=10)).length):=by
 have h1:=nV hc h;unfold skip;rw[show s.length+1 - a=(s.length - a)+1 from by omega,jT hc h];exact pG _ _ _ _ (Nat.le_refl _) aH aH aH aH
theorem xM{s:aJ}{a:Nat}{c:UInt8}(hc:s[a]?=some c)(h:c.toNat=47)(hn:((s[a+1]?).getD 0).toNat=42)(hx:¬Lib.index (s.drop (min (a+2) s.length)) [42,47] < 0)(hl:a+2+(Lib.index (s.drop (min (a+2) s.length)) [42,47]).toNat+2≤s.length):skip s a=skip s (a+2+(Lib.index (s.drop (min (a+2) s.length)) [42,47]).toNat+2):=by
 unfold skip;rw[show s.length+1 - a=(s.length - a)+1 from by omega,gH hc h hn hx];exact pG _ _ _ _ (Nat.le_refl _) aH aH aH aH
def xS:aJ→Bool
 | []=>true
 |c::r=>decide (c.toNat=10)&&r.all fun c=>decide (c.toNat≠34∧c.toNat≠42)
def oH:aJ→Bool
 | []=>true
 |c::r=>decide (c.toNat=10)
theorem rQ{R:aJ}(h:xS R=true):oH R=true:=by
 cases R with
 |nil=>rfl
 |cons c r=>simp only[xS,Bool.and_eq_true]at h;exact h.1
theorem aKI{R:aJ}(h:xS R=true):∀c∈R,c.toNat≠34∧c.toNat≠42:=by
 cases R with
 |nil=>simp
 |cons c r=>
  simp only[xS,Bool.and_eq_true,decide_eq_true_eq,List.all_eq_true]at h;intro x hx;rcases List.mem_cons.1 hx with rfl|hx
  ·omega
  ·exact h.2 x hx
theorem xV{p:UInt8→Bool}{Y R R':aJ}(h:∀c,R.head?=some c→p c=false)(h':∀c,R'.head?=some c→p c=false):(Y++R).takeWhile p=Y.takeWhile p∧(Y++R').takeWhile p=Y.takeWhile p:=by
 have key:∀(Y R:aJ),(∀c,R.head?=some c→p c=false)→(Y++R).takeWhile p=Y.takeWhile p:=by
  intro Y R h;induction Y with
  |nil=>
   cases R with
   |nil=>rfl
   |cons c r=>rw[List.nil_append,List.takeWhile_cons,h c rfl];rfl
  |cons c Y ih=>
   rw[List.cons_append,List.takeWhile_cons,List.takeWhile_cons,ih]
 exact⟨key Y R h,key Y R' h'⟩
theorem j5{R:aJ}(h:oH R=true){p:UInt8→Bool}(hp:p 10=false):∀c,R.head?=some c→p c=false:=by
 intro c hc;cases R with
 |nil=>cases hc
 |cons x r=>
  simp at hc;subst hc
  simp only[oH,decide_eq_true_eq]at h;have:x=10:=UInt8.toNat_inj.1 h;rw[this];exact hp
theorem aTL{R:aJ}(h:∀c∈R,c.toNat≠42):Lib.index R [42,47]= -1:=by
 induction R with
 |nil=>rfl
 |cons c r ih=>
  have h1:=ih fun x hx=>h x (by simp[hx])
  have h2:¬(42=c):=fun e=>h c (by simp) (by rw[←e];rfl)
  simp[Lib.index,List.isPrefixOf,h1,h2]
theorem aEC{R R':aJ}(hR:xS R=true)(hR':oH R'=true):∀Y:aJ,¬Lib.index (Y++R) [42,47] < 0→Lib.index (Y++R') [42,47]=Lib.index (Y++R) [42,47]∧(Lib.index (Y++R) [42,47]).toNat+2≤Y.length
 | [],h=>absurd (by rw[List.nil_append,aTL fun c hc=>(aKI hR c hc).2];decide) h
 |b::Y,h=>by
  have hp:∀(b:UInt8) (Q:aJ),oH Q=true→([42,47].isPrefixOf (b::(Y++Q))=true↔b=42∧∃Y2,Y=47::Y2):=by
   intro b Q hQ;cases Y with
   |nil=>
    cases Q with
    |nil=>simp[List.isPrefixOf]
    |cons q Q=>
     simp only[oH,decide_eq_true_eq]at hQ;have:q=10:=UInt8.toNat_inj.1 hQ;subst this;simp[List.isPrefixOf]
   |cons y Y=>
    simp[List.isPrefixOf];exact⟨fun h=>⟨h.1.symm,h.2.symm⟩,fun h=>⟨h.1.symm,h.2.symm⟩⟩
  have p1:=hp b R (rQ hR);have p2:=hp b R' hR';simp only[List.cons_append,Lib.index]at h ⊢
  by_cases hc:b=42∧∃Y2,Y=47::Y2
  ·rw[if_pos (p1.2 hc),if_pos (p2.2 hc)];obtain⟨_,Y2,rfl⟩:=hc;simp
  ·rw[if_neg (fun e=>hc (p1.1 e))]at h ⊢;rw[if_neg (fun e=>hc (p2.1 e))]
   by_cases hi:Lib.index (Y++R) [42,47] < 0
   ·have:Lib.index (Y++R) [42,47]= -1:=by have:=Lib.index_ge (Y++R) [42,47];omega
    rw[this]at h;simp at h
   ·obtain⟨i1,i2⟩:=aEC hR hR' Y hi;have hne:¬(Lib.index (Y++R) [42,47]== -1)=true:=by simp;omega
    rw[i1,if_neg hne];refine⟨rfl,?_⟩
    simp only[List.length_cons];omega
section
variable{s s' R R':aJ}
theorem kO{a:Nat}{c:UInt8}{Y:aJ}(h:s.drop a=c::Y++R):s[a]?=some c∧s.drop (a+1)=Y++R:=by
 obtain⟨h1,_,h3⟩:=gB (show s.drop a=c::(Y++R)from h);exact⟨h1,h3⟩
theorem oI{a:Nat}{Q:aJ}(h:s.drop a=Q):s[a]?=Q.head?:=by
 cases Q with
 |nil=>
  have:=congrArg List.length h;rw[List.length_drop]at this;simp at this;rw[List.getElem?_eq_none aH];rfl
 |cons c Q=>rw[(gB h).1];rfl
theorem aVF(hR:xS R=true)(hR':oH R'=true):∀(n:Nat) (Y:aJ) (a a' b:Nat),Y.length≤n→s.drop a=Y++R→s'.drop a'=Y++R'→skip s a=.ok b→
  (∃Z c Y2,Y=Z++c::Y2∧b=a+Z.length∧skip s' a'=.ok (a'+Z.length))∨(skip s a=skip s (a+Y.length)∧skip s' a'=skip s' (a'+Y.length)):=by
 intro n;induction n with
 |zero=>
  intro Y a a' b hn h h' e;have:Y=[]:=List.length_eq_zero_iff.1 aH;subst this;exact .inr ⟨rfl,rfl⟩
 |succ n ih=>
  intro Y a a' b hn h h' e;cases Y with
  |nil=>exact .inr ⟨rfl,rfl⟩
  |cons c Y=>
   obtain⟨h1,h2⟩:=kO h;obtain⟨h1',h2'⟩:=kO h';have step:∀W Y':aJ,c::Y=W++Y'→W≠[]→skip s a=skip s (a+W.length)→skip s' a'=skip s' (a'+W.length)→
     (∃Z d Y2,c::Y=Z++d::Y2∧b=a+Z.length∧skip s' a'=.ok (a'+Z.length))∨(skip s a=skip s (a+(c::Y).length)∧skip s' a'=skip s' (a'+(c::Y).length)):=by
    intro W Y' hW h0 q q';have hl:W.length+Y'.length=Y.length+1:=by have:=congrArg List.length hW;simp at this;omega
    have h0:0 < W.length:=List.length_pos_iff.2 h0;rw[hW]at h h';rw[List.append_assoc]at h h';rw[q]at e;rcases ih Y' (a+W.length) (a'+W.length) b (by simp at hn;omega) (fX h) (fX h') e with ⟨Z,d,Y2,e1,e2,e3⟩|⟨e1,e2⟩
    ·refine .inl ⟨W++Z,d,Y2,by rw[hW,e1,List.append_assoc],by rw[List.length_append];omega,?_⟩
     rw[q',e3,List.length_append]
     congr 1;omega
    ·refine .inr ⟨?_,?_⟩
     ·rw[q,e1];congr 1;simp;omega
     ·rw[q',e2];congr 1;simp;omega
   have here:skip s a=.ok a→skip s' a'=.ok a'→(∃Z d Y2,c::Y=Z++d::Y2∧b=a+Z.length∧skip s' a'=.ok (a'+Z.length))∨(skip s a=skip s (a+(c::Y).length)∧skip s' a'=skip s' (a'+(c::Y).length)):=by
    intro q q';rw[q]at e;cases e
    exact .inl ⟨[],c,Y,rfl,rfl,q'⟩
   by_cases b1:jD c=true
   ·exact step [c] Y rfl (by simp) (rO (t:=Y++R) h b1) (rO (t:=Y++R') h' b1)
   by_cases b2:c.toNat=35
   ·have t:=xV (Y:=c::Y) (p:=fun c=>decide (¬c.toNat=10)) (j5 (rQ hR) rfl) (j5 hR' rfl);have q:=aEY h1 b2;have q':=aEY h1' b2;rw[h,t.1]at q;rw[h',t.2]at q';refine step _ _ (List.takeWhile_append_dropWhile (p:=fun c:UInt8=>decide (¬c.toNat=10)) (l:=c::Y)).symm ?_ q q'
    rw[List.takeWhile_cons,if_pos gBW];simp
   by_cases b3:c.toNat=47
   ·have hY:∀Q:aJ,oH Q=true→((((Y++Q).head?).getD 0).toNat=42↔∃Y2,Y=42::Y2):=by
     intro Q hQ;cases Y with
     |nil=>
      cases Q with
      |nil=>simp
      |cons q Q=>simp only[oH,decide_eq_true_eq]at hQ;simp[hQ]
     |cons y Y=>
      simp;exact⟨fun e=>UInt8.toNat_inj.1 e,fun e=>by rw[e];rfl⟩
    have g1:((s[a+1]?).getD 0).toNat=42↔∃Y2,Y=42::Y2:=by rw[oI h2];exact hY R (rQ hR)
    have g2:((s'[a'+1]?).getD 0).toNat=42↔∃Y2,Y=42::Y2:=by rw[oI h2'];exact hY R' hR'
    have len:∀ {q:aJ} {a:Nat} {c:UInt8},q[a]?=some c→q.length+1 - a=(q.length - a)+1:=by
     intro q a c hh;rcases Nat.lt_or_ge a q.length with h'|h'
     ·omega
     ·rw[List.getElem?_eq_none h']at hh;cases hh
    by_cases b4:∃Y2,Y=42::Y2
    ·obtain⟨Y2,rfl⟩:=b4;obtain⟨_,k2⟩:=kO h2;obtain⟨_,k2'⟩:=kO h2';have l1:=nU h (by simp);have l2:=nU h' (by simp);simp only[List.length_append,List.length_cons]at l1 l2;have m1:min (a+2) s.length=a+2:=by omega
     have m2:min (a'+2) s'.length=a'+2:=by omega
     by_cases b5:Lib.index (s.drop (min (a+2) s.length)) [42,47] < 0
     ·unfold skip at e;rw[len h1,uD h1 b3 (g1.2 ⟨Y2,rfl⟩) b5]at e;cases e
     ·have b6:¬Lib.index (Y2++R) [42,47] < 0:=by
       rw[m1,show a+2=a+1+1 from rfl,k2]at b5;exact b5
      obtain⟨i1,i2⟩:=aEC hR hR' Y2 b6;have q:=xM h1 b3 (g1.2 ⟨Y2,rfl⟩) b5 (by rw[m1,show a+2=a+1+1 from rfl,k2];omega);have b5':¬Lib.index (s'.drop (min (a'+2) s'.length)) [42,47] < 0:=by
       rw[m2,show a'+2=a'+1+1 from rfl,k2',i1];exact b6
      have q':=xM h1' b3 (g2.2 ⟨Y2,rfl⟩) b5' (by rw[m2,show a'+2=a'+1+1 from rfl,k2',i1];omega);rw[m1,show a+2=a+1+1 from rfl,k2]at q;rw[m2,show a'+2=a'+1+1 from rfl,k2',i1]at q';refine step ((c::42::Y2).take ((Lib.index (Y2++R) [42,47]).toNat+4)) ((c::42::Y2).drop ((Lib.index (Y2++R) [42,47]).toNat+4)) (List.take_append_drop _ _).symm (by simp) ?_ ?_
      ·rw[q];congr 1;rw[List.length_take,List.length_cons,List.length_cons];omega
      ·rw[q'];congr 1;rw[List.length_take,List.length_cons,List.length_cons];omega
    ·refine here ?_ ?_
     ·unfold skip;rw[len h1,kK h1 b3 (fun e=>b4 (g1.1 e))]
     ·unfold skip;rw[len h1',kK h1' b3 (fun e=>b4 (g2.1 e))]
   ·have hf:o4 c=true:=by
     simp only[jD,decide_eq_true_eq]at b1;simp only[o4,decide_eq_true_eq];omega
    exact here (zD (t:=Y++R) h hf) (zD (t:=Y++R') h' hf)
theorem aET{w:Int}:∀(f:Nat) (a:Nat) (acc:aJ) (r:Nat×aJ),(∀c∈s.drop a,c.toNat≠34)→e7 s w f a acc=.ok r→False:=by
 intro f;induction f with
 |zero=>intro a acc r _ e;cases e
 |succ f ih=>
  intro a acc r hq e;have hn:¬(a < s.length∧((s[a]?).getD 0).toNat=34):=by
   rintro⟨h1,h2⟩;rw[List.getElem?_eq_getElem h1]at h2;exact hq s[a] (List.mem_of_getElem? (show (s.drop a)[0]?=some s[a] by rw[List.getElem?_drop,Nat.add_zero,List.getElem?_eq_getElem h1])) h2
  have hmem:∀k,∀c∈s.drop (a+k),c.toNat≠34:=fun k c hc=>hq c (by rw[←List.drop_drop]at hc;exact List.mem_of_mem_drop hc)
  by_cases hc:((s[a]?).getD 0).toNat=92
  ·by_cases hl:s.length≤a+1
   ·rw[kR hn hc hl]at e;cases e
   ·rw[jK hn hc hl]at e;exact ih _ _ _ (hmem 2) e
  ·by_cases hl:s.length≤a
   ·rw[lI hn hc hl]at e;cases e
   ·rw[iO hn hc hl]at e;exact ih _ _ _ (hmem 1) e
theorem aMI(hR:∀c∈R,c.toNat≠34){w w':Int}:∀(f:Nat) (Y:aJ) (a a' f':Nat) (acc:aJ) (r:Nat×aJ),s.drop a=Y++R→s'.drop a'=Y++R'→Y.length < f'→e7 s w f a acc=.ok r→
  ∃Z Y2,Y=Z++Y2∧Z≠[]∧r.1=a+Z.length∧e7 s' w' f' a' acc=.ok (a'+Z.length,r.2)∧∀x∈r.2,x∈acc∨x∈Y:=by
 intro f;induction f with
 |zero=>intro Y a a' f' acc r h h' hf e;cases e
 |succ f ih=>
  intro Y a a' f' acc r h h' hf e;obtain⟨f',rfl⟩:∃g,f'=g+1:=⟨f' - 1,by omega⟩;cases Y with
  |nil=>
   exact(aET (f+1) a acc r (by rw[h];exact hR) e).elim
  |cons c Y=>
   obtain⟨h1,h2⟩:=kO h;obtain⟨h1',h2'⟩:=kO h';have l1:=nU h (by simp);have l2:=nU h' (by simp);simp only[List.length_append,List.length_cons]at l1 l2 hf
   by_cases b1:c.toNat=34
   ·rw[pW aH (by rw[h1];exact b1)]at e;cases e
    refine⟨[c],Y,rfl,by simp,rfl,?_,fun x hx=>.inl hx⟩
    rw[pW aH (by rw[h1'];exact b1)];rfl
   have n1:¬(a < s.length∧((s[a]?).getD 0).toNat=34):=by rw[h1];exact fun h=>b1 h.2
   have n2:¬(a' < s'.length∧((s'[a']?).getD 0).toNat=34):=by rw[h1'];exact fun h=>b1 h.2
   by_cases b2:c.toNat=92
   ·by_cases hl:s.length≤a+1
    ·rw[kR n1 (by rw[h1];exact b2) hl]at e;cases e
    rw[jK n1 (by rw[h1];exact b2) hl]at e;cases Y with
    |nil=>exact(aET f (a+2) _ r (fun c hc=>hR c (by rw[show a+2=a+1+1 from rfl,←List.drop_drop,h2]at hc;exact List.mem_of_mem_drop hc)) e).elim
    |cons d Y=>
     obtain⟨k1,k2⟩:=kO h2;obtain⟨k1',k2'⟩:=kO h2';simp only[List.length_cons]at l2 hf;obtain⟨Z,Y2,e1,e2,e3,e4,e5⟩:=ih Y (a+2) (a'+2) f' _ r k2 k2' aH e;refine⟨c::d::Z,Y2,by rw[e1];rfl,by simp,by simp;omega,?_,fun x hx=>?_⟩
     ·rw[jK n2 (by rw[h1'];exact b2) aH,k1',←k1,e4];congr 2;simp;omega
     ·rcases e5 x hx with h|h
      ·rcases List.mem_append.1 h with h|h
       ·exact .inl h
       ·rw[k1]at h;simp at h;exact .inr (by simp[h])
      ·exact .inr (by simp[h])
   ·rw[iO n1 (by rw[h1];exact b2) aH]at e;obtain⟨Z,Y2,e1,e2,e3,e4,e5⟩:=ih Y (a+1) (a'+1) f' _ r h2 h2' aH e;refine⟨c::Z,Y2,by rw[e1];rfl,by simp,by simp;omega,?_,fun x hx=>?_⟩
    ·rw[iO n2 (by rw[h1'];exact b2) aH,h1',←h1,e4];congr 2;simp;omega
    ·rcases e5 x hx with h|h
     ·rcases List.mem_append.1 h with h|h
      ·exact .inl h
      ·rw[h1]at h;simp at h;exact .inr (by simp[h])
     ·exact .inr (by simp[h])
def CutW(s':aJ)(Y:aJ)(b b':Nat)(q:Nat×Word)(e':Res (Nat×Word)):Prop:=
 ∃Z Y2,Y=Z++Y2∧Z≠[]∧q.1=b+Z.length∧q.2.kind≠0∧(∃q',e'=.ok q'∧q'.1=b'+Z.length∧q'.2.wd=q.2.wd∧q'.2.kind≠0)∧((∀y∈Y,y≠36)→∀x∈q.2.s,x≠36)
theorem aYC:∀n:Fin 256,mE 65 90 32 (UInt8.ofNat n.val)=36→UInt8.ofNat n.val=36:=by decide+kernel
theorem aEZ{w:aJ}(h:∀y∈w,y≠36):∀x∈dE w,x≠36:=by
 intro x hx e;obtain⟨y,hy,rfl⟩:=List.mem_map.1 hx;have:=aYC ⟨y.toNat,y.toNat_lt⟩;simp only[UInt8.ofNat_toNat]at this;exact h y hy (this e)
theorem aP8(hR:xS R=true)(hR':oH R'=true){b b':Nat}{c:UInt8}{Y:aJ}{q:Nat×Word}(h:s.drop b=c::Y++R)(h':s'.drop b'=c::Y++R')(e:jX s b c=.ok q):CutW s' (c::Y) b b' q (jX s' b' c):=by
 obtain⟨h1,h2⟩:=kO h;obtain⟨h1',h2'⟩:=kO h';have wd2:=xV (Y:=c::Y) (p:=cW) (j5 (rQ hR) (by decide)) (j5 hR' (by decide));have wd1:=xV (Y:=Y) (p:=cW) (j5 (rQ hR) (by decide)) (j5 hR' (by decide));have hsub:∀ {l:aJ} {y},y∈l.takeWhile cW→y∈l:=fun hy=>(List.takeWhile_sublist _).subset hy
 unfold jX at e ⊢
 by_cases b1:cO c=true
 ·rw[if_pos b1]at e ⊢;cases e
  exact⟨[c],Y,rfl,by simp,rfl,by simp,⟨_,rfl,rfl,rfl,by simp⟩,fun hy x hx=>by simp at hx;rw[hx];exact hy c (by simp)⟩
 rw[if_neg b1]at e ⊢
 by_cases b2:c.toNat=34
 ·rw[if_pos b2]at e ⊢;split at e
  ·cases e
  rename_i r hr;cases e
  have l2:=nU h' (by simp);simp only[List.length_append,List.length_cons]at l2;unfold quoted at hr ⊢;obtain⟨Z,Y2,e1,e2,e3,e4,e5⟩:=aMI (w':=(b':Int)) (fun c hc=>(aKI hR c hc).1) _ Y (b+1) (b'+1) (s'.length+1 - b') [] r h2 h2' aH hr;rw[e4];refine⟨c::Z,Y2,by rw[e1];rfl,by simp,by simp;omega,by simp,⟨_,rfl,by simp;omega,rfl,by simp⟩,fun hy x hx=>?_⟩
  rcases e5 x hx with h|h
  ·cases h
  ·exact hy x (by simp[h])
 rw[if_neg b2]at e ⊢
 by_cases b3:c.toNat=58
 ·rw[if_pos b3]at e ⊢
  by_cases b4:fP ((s[b+1]?).getD 0)=true
  ·rw[if_pos b4]at e;cases e
   have hY:Y≠[]:=by
    rintro rfl;rw[oI h2]at b4;have:=j5 (rQ hR) (p:=fP) (by decide);cases R with
    |nil=>exact absurd b4 (by decide)
    |cons d R=>rw[show ([]++d::R:aJ).head?=some d from rfl]at b4;simp only[Option.getD_some]at b4;rw[this d rfl]at b4;cases b4
   have hs:(s[b+1]?).getD 0=(s'[b'+1]?).getD 0:=by
    rw[oI h2,oI h2'];cases Y with
    |nil=>exact absurd rfl hY
    |cons y Y=>rfl
   rw[hs]at b4;rw[if_pos b4];have w1:gV s (b+1)=Y.takeWhile cW:=by unfold gV;rw[h2,wd1.1]
   have w2:gV s' (b'+1)=Y.takeWhile cW:=by unfold gV;rw[h2',wd1.2]
   rw[w1,w2];refine⟨c::Y.takeWhile cW,Y.dropWhile cW,by rw[List.cons_append,List.takeWhile_append_dropWhile],by simp,by simp;omega,by simp,⟨_,rfl,by simp;omega,rfl,by simp⟩,fun hy=>?_⟩
   exact aEZ fun y hh=>hy y (by simp[hsub hh])
  ·rw[if_neg b4]at e;cases e
 rw[if_neg b3]at e ⊢
 by_cases b4:fP c=true
 ·rw[if_pos b4]at e ⊢;cases e
  have w1:gV s b=(c::Y).takeWhile cW:=by unfold gV;rw[h,wd2.1]
  have w2:gV s' b'=(c::Y).takeWhile cW:=by unfold gV;rw[h',wd2.2]
  rw[w1,w2];have hne:(c::Y).takeWhile cW≠[]:=by
   rw[List.takeWhile_cons,if_pos (by simp[cW,b4])];simp
  exact⟨(c::Y).takeWhile cW,(c::Y).dropWhile cW,by rw[List.takeWhile_append_dropWhile],hne,rfl,by simp,⟨_,rfl,rfl,rfl,by simp⟩,fun hy=>aEZ fun y hh=>hy y (hsub hh)⟩
 rw[if_neg b4]at e ⊢
 by_cases b5:dS c=true
 ·rw[if_pos b5]at e ⊢;split at e
  ·cases e
  rename_i r hr;cases e
  have dg:=xV (Y:=c::Y) (p:=dS) (j5 (rQ hR) (by decide)) (j5 hR' (by decide));have d1:cX s b=(c::Y).takeWhile dS:=by unfold cX;rw[h,dg.1]
  have d2:cX s' b'=(c::Y).takeWhile dS:=by unfold cX;rw[h',dg.2]
  have hne:(c::Y).takeWhile dS≠[]:=by
   rw[List.takeWhile_cons,if_pos b5];simp
  have hsplit:c::Y=(c::Y).takeWhile dS++(c::Y).dropWhile dS:=by rw[List.takeWhile_append_dropWhile]
  generalize (c::Y).takeWhile dS=D at d1 d2 hne hsplit
  generalize (c::Y).dropWhile dS=Y2 at hsplit
  have k1:s.drop (b+D.length)=Y2++R:=fX (by rw[h,hsplit,List.append_assoc]);have k2:s'.drop (b'+D.length)=Y2++R':=fX (by rw[h',hsplit,List.append_assoc]);have hlt:∀Q:aJ,oH Q=true→(((Y2++Q).head?).getD 0).toNat=((Y2.head?).getD 10).toNat∨Y2=[]∧(((Y2++Q).head?).getD 0).toNat=0:=by
   intro Q hQ;cases Y2 with
   |nil=>
    cases Q with
    |nil=>exact .inr ⟨rfl,rfl⟩
    |cons x Q=>simp only[oH,decide_eq_true_eq]at hQ;exact .inl (by simpa using hQ)
   |cons y Y2=>exact .inl rfl
  have n1:numC s b=((Y2.head?).getD 10).toNat∨Y2=[]∧numC s b=0:=by unfold numC;rw[d1,oI k1];exact hlt R (rQ hR)
  have n2:numC s' b'=((Y2.head?).getD 10).toNat∨Y2=[]∧numC s' b'=0:=by unfold numC;rw[d2,oI k2];exact hlt R' hR'
  have km:∀k:Nat,k=77∨k=109∨k=75∨k=107→(numC s b=k↔numC s' b'=k)∧(numC s b=k→Y2≠[]):=by
   intro k hk;have h10:Y2=[]→((Y2.head?).getD 10).toNat=10:=by rintro rfl;rfl
   refine⟨?_,?_⟩
   ·rcases n1 with n1|⟨a1,n1⟩ <;> rcases n2 with n2|⟨a2,n2⟩ <;> (try have:=h10 ‹_›) <;> omega
   ·intro hh h0;have:=h10 h0;rcases n1 with n1|⟨a1,n1⟩ <;> omega
  have hv:numN s b=numN s' b':=by
   unfold numN;rw[d1,d2];simp only[(km 77 (by simp)).1,(km 109 (by simp)).1,(km 75 (by simp)).1,(km 107 (by simp)).1]
  have hx:∃Z Y3,c::Y=Z++Y3∧Z≠[]∧numA s b=b+Z.length∧numA s' b'=b'+Z.length:=by
   by_cases hk:numC s b=77∨numC s b=109∨numC s b=75∨numC s b=107
   ·have hY2:Y2≠[]:=by
     rcases hk with h|h|h|h
     ·exact(km 77 (by simp)).2 h
     ·exact(km 109 (by simp)).2 h
     ·exact(km 75 (by simp)).2 h
     ·exact(km 107 (by simp)).2 h
    have hk':numC s' b'=77∨numC s' b'=109∨numC s' b'=75∨numC s' b'=107:=by
     simpa only[(km 77 (by simp)).1,(km 109 (by simp)).1,(km 75 (by simp)).1,(km 107 (by simp)).1]using hk
    cases Y2 with
    |nil=>exact absurd rfl hY2
    |cons y Y2=>
     refine⟨D++[y],Y2,by rw[hsplit];simp,by simp,?_,?_⟩
     ·unfold numA;rw[if_pos hk,d1];simp;omega
     ·unfold numA;rw[if_pos hk',d2];simp;omega
   ·have hk':¬(numC s' b'=77∨numC s' b'=109∨numC s' b'=75∨numC s' b'=107):=by
     simpa only[(km 77 (by simp)).1,(km 109 (by simp)).1,(km 75 (by simp)).1,(km 107 (by simp)).1]using hk
    refine⟨D,Y2,hsplit,hne,?_,?_⟩
    ·unfold numA;rw[if_neg hk,d1]
    ·unfold numA;rw[if_neg hk',d2]
  obtain⟨Z,Y3,z1,z2,z3,z4⟩:=hx;have j1:s.drop (b+Z.length)=Y3++R:=fX (by rw[h,z1,List.append_assoc]);have j2:s'.drop (b'+Z.length)=Y3++R':=fX (by rw[h',z1,List.append_assoc]);have hwb:cW ((s[numA s b]?).getD 0)=cW ((s'[numA s' b']?).getD 0):=by
   rw[z3,z4,oI j1,oI j2];cases Y3 with
   |cons y Y3=>rfl
   |nil=>
    have key:∀Q:aJ,oH Q=true→cW ((([]++Q:aJ).head?).getD 0)=false:=by
     intro Q hQ;cases Q with
     |nil=>decide
     |cons x Q=>exact j5 hQ (p:=cW) (by decide) x rfl
    rw[key R (rQ hR),key R' hR']
  unfold pC at hr ⊢;rw[←hwb,←hv];split at hr
  ·cases hr
  rename_i g1;split at hr
  ·cases hr
  rename_i g2;cases hr
  rw[if_neg g1,if_neg g2];exact⟨Z,Y3,z1,z2,z3,by simp,⟨_,rfl,z4,rfl,by simp⟩,fun _ x hx=>by cases hx⟩
 ·rw[if_neg b5]at e;cases e
theorem aCK(hR:xS R=true)(hR':oH R'=true){a a':Nat}{Y:aJ}{q:St}(h:s.drop a=Y++R)(h':s'.drop a'=Y++R')(e:next s a=.ok q):
  CutW s' Y a a' q (next s' a')∨(next s a=next s (a+Y.length)∧next s' a'=next s' (a'+Y.length)):=by
 cases hk:skip s a with
 |error x=>unfold next at e;rw[hk]at e;cases e
 |ok b=>
  rcases aVF hR hR' _ Y a a' b (Nat.le_refl _) h h' hk with ⟨Z,c,Y2,e1,e2,e3⟩|⟨e1,e2⟩
  ·have k1:s.drop b=c::Y2++R:=by rw[e2];exact fX (by rw[h,e1,List.append_assoc])
   have k2:s'.drop (a'+Z.length)=c::Y2++R':=fX (by rw[h',e1,List.append_assoc]);unfold next at e;rw[hk]at e;simp only[(kO k1).1]at e;obtain⟨W,Y3,w1,w2,w3,w4,⟨q',w5,w6,w7,w8⟩,w9⟩:=aP8 hR hR' k1 k2 e;refine .inl ⟨Z++W,Y3,by rw[e1,w1,List.append_assoc],by simp[w2],by rw[w3,e2,List.length_append];omega,w4,⟨q',?_,by rw[w6,List.length_append];omega,w7,w8⟩,fun hy=>w9 fun y hh=>hy y (by rw[e1];exact List.mem_append_right _ hh)⟩
   unfold next;rw[e3];simp only[(kO k2).1];exact w5
  ·refine .inr ⟨?_,?_⟩
   ·unfold next;rw[e1]
   ·unfold next;rw[e2]
def Rds(s:aJ)(a:Nat)(ws:List Wd)(c:Nat):Prop:=∀st3,next s c=.ok st3→∃st,next s a=.ok st∧Path s st ws st3
theorem Rds.cat{a b c:Nat}{u v:List Wd}(h1:Rds s a u b)(h2:Rds s b v c):Rds s a (u++v) c:=fun st3 e=>by
 obtain⟨st2,e2,p2⟩:=h2 st3 e;obtain⟨st1,e1,p1⟩:=h1 st2 e2;exact⟨st1,e1,f5.2 ⟨st2,p1,p2⟩⟩
theorem aJJ(hR:xS R=true):∀(n:Nat) (Y:aJ) (a:Nat) (ws:List Wd) (st st2:St),Y.length≤n→s.drop a=Y++R→next s a=.ok st→Path s st ws st2→st2.2.kind=0→
  ∃wy wr st3,ws=wy++wr∧next s (a+Y.length)=.ok st3∧Path s st3 wr st2∧(∀s' a' R',oH R'=true→s'.drop a'=Y++R'→Rds s' a' wy (a'+Y.length))∧((∀y∈Y,y≠36)→∀w∈wy,∀x∈w.2.1,x≠36):=by
 intro n;induction n with
 |zero=>
  intro Y a ws st st2 hn h e hp hk;have:Y=[]:=List.length_eq_zero_iff.1 aH;subst this;exact⟨[],ws,st,rfl,e,hp,fun s' a' R' _ _ st3 e3=>⟨st3,e3,rfl⟩,fun _ w hw=>by cases hw⟩
 |succ n ih=>
  intro Y a ws st st2 hn h e hp hk;have c0:=aCK (s':=Y) (R':=[]) (a':=0) hR rfl h (by simp) e;rcases c0 with ⟨Z,Y2,z1,z2,z3,z4,_,z6⟩|⟨c1,_⟩
  ·cases ws with
   |nil=>
    have:st2=st:=hp;rw[this]at hk;exact absurd hk z4
   |cons w ws=>
    obtain⟨_,p2,q,p3,p4⟩:=hp;have hz:0 < Z.length:=List.length_pos_iff.2 z2;have hl:Z.length+Y2.length=Y.length:=by rw[z1,List.length_append]
    obtain⟨wy,wr,st3,e1,e2,e3,e4,e5⟩:=ih Y2 (a+Z.length) ws q st2 aH (fX (by rw[h,z1,List.append_assoc])) (by rw[←z3];exact p3) p4 hk;refine⟨w::wy,wr,st3,by rw[e1];rfl,by rw[←e2];congr 1;omega,e3,fun s' a' R' hR' h' st4 e4'=>?_,fun hy w' hw'=>?_⟩
    ·rcases aCK hR hR' h h' e with ⟨Z',Y3,y1,y2,y3,y4,⟨q',y5,y6,y7,y8⟩,_⟩|⟨c1,_⟩
     ·have hZ:Z'.length=Z.length:=by have:=y3.symm.trans z3;omega
      obtain⟨st5,f1,f2⟩:=e4 s' (a'+Z.length) R' hR' (fX (by rw[h',z1,List.append_assoc])) st4 (by rw[←e4'];congr 1;omega);exact⟨q',y5,y8,by rw[y7];exact p2,st5,by rw[y6,hZ];exact f1,f2⟩
     ·exfalso
      rw[e]at c1;have hlen:=nU h gCU;rw[List.length_append]at hlen;have:=(nO (s:=s) (a:=a+Y.length) aH c1.symm).2.2 z4;rw[z3]at this;omega
    ·rcases List.mem_cons.1 hw' with rfl|hw'
     ·have:=z6 hy;intro x hx
      apply this
      have:st.2.wd.2.1=w'.2.1:=by rw[p2]
      rw[←this]at hx;exact hx
     ·exact e5 (fun y hh=>hy y (by rw[z1];exact List.mem_append_right _ hh)) w' hw'
  ·refine⟨[],ws,st,rfl,by rw[←c1];exact e,hp,fun s' a' R' hR' h' st3 e3=>?_,fun _ w hw=>by cases hw⟩
   rcases aCK hR hR' h h' e with ⟨Z,Y2,z1,z2,z3,z4,_⟩|⟨_,c2⟩
   ·exfalso
    rw[e]at c1;have hz:0 < Z.length:=List.length_pos_iff.2 z2;have hl:Z.length+Y2.length=Y.length:=by rw[z1,List.length_append]
    have hlen:=nU h gCU;rw[List.length_append]at hlen;have:=(nO (s:=s) (a:=a+Y.length) aH c1.symm).2.2 z4;rw[z3]at this;omega
   ·exact⟨st3,by rw[c2];exact e3,rfl⟩
end
end Go.Syn
end
section
namespace Go.Syn
section
variable{needs:List aJ}
theorem wR{n:Nat}{u:List Wd}{t:Tree}(h:GTest needs n u t):GTest needs (n+1) u t:=by
 induction h with
 |tru n=>exact GTest.tru _
 |fls n=>exact GTest.fls _
 |not_ n u t _ ih=>exact GTest.not_ _ u t ih
 |many n all u t us _ _ ih1 ih2=>exact GTest.many _ all u t us ih1 ih2
 |mat n word op ext u v w h a b hm hx hg ga fa gb=>exact GTest.mat _ word op ext u v w h a b hm hx hg ga fa gb
 |exi n v a ga=>exact GTest.exi _ v a ga
 |siz n x k hx hk=>exact GTest.siz _ x k hx hk
theorem aW7{n:Nat}{B B':List Wd→Tree→Prop}(hB:∀u t,B u t→B' u t){u:List Wd}{t:Tree}(h:GCmd needs n B u t):GCmd needs (n+1) B' u t:=by
 cases h with
 |simple word c h=>exact GCmd.simple word _ h
 |act word kind ext arg h hx=>exact GCmd.act word kind ext arg h hx
 |set0 name value hv hn=>exact GCmd.set0 name value hv hn
 |set1 x name value i hv hn hi hx=>exact GCmd.set1 x name value i hv hn hi hx
 |iff ut t ub b brs els ht hb hbr hel=>exact GCmd.iff ut t ub b brs els (wR ht) (hB _ _ hb) (fun p hp=>⟨wR (hbr p hp).1,hB _ _ (hbr p hp).2⟩) (fun p hp=>hB _ _ (hel p hp))
theorem aEA:∀ {n:Nat} {u:List Wd} {t:Tree},fK needs n u t→fK needs (n+1) u t
 |0,u,t,h=>⟨[],by simp,h.1,h.2⟩
 |n+1,u,t,⟨cs,hc,e1,e2⟩=>⟨cs,fun p hp=>aW7 (fun _ _ h=>aEA h) (hc p hp),e1,e2⟩
end
section
variable{s:aJ}
theorem aAW{ns:List aJ}{n:Nat}{v:List Wd}{t:Tree}{q e:St}(hb:fK ns (n+1) v t)(hp:Path s q v e)(he:e.2.kind=0):¬(q.2.kind=1∧q.2.s=d6):=by
 have hv:=aLX hb;cases v with
 |nil=>have:e=q:=hp;subst this;rw[he];simp
 |cons w r=>
  obtain⟨k,x,m⟩:=w;rintro⟨a1,a2⟩;obtain⟨b1,b2,b3⟩:=oO hp.2.1;have hm:m=0:=by
   obtain⟨cs,hc,e,_⟩:=hb;cases cs with
   |nil=>cases e
   |cons p cs=>
    obtain⟨w',r',e',_,_⟩:=rJ (hc p (by simp));rw[List.flatMap_cons,e']at e;simp at e;exact e.1.2.2
  exact hv _ _ rfl (by rw[hm,←b1,←b2,a1,a2])
theorem aCO{q e e':St}:∀ {v v':List Wd},Path s q v e→Path s q v' e'→e.2.kind=0→e'.2.kind=0→v=v'∧e=e':=by
 intro v;induction v generalizing q with
 |nil=>
  intro v' h h' k k';have:e=q:=h;subst this;cases v' with
  |nil=>exact⟨rfl,(show e'=e from h').symm⟩
  |cons w v'=>exact absurd k h'.1
 |cons w v ih=>
  intro v' h h' k k';cases v' with
  |nil=>
   have:e'=q:=h';subst this;exact absurd k' h.1
  |cons w' v'=>
   obtain⟨a1,a2,q1,a3,a4⟩:=h;obtain⟨b1,b2,q2,b3,b4⟩:=h';rw[a3]at b3;cases b3
   obtain⟨e1,e2⟩:=ih a4 b4 k k';exact⟨by rw[e1,←a2,←b2],e2⟩
theorem aG3{ns ns':List aJ}{u u':List Wd}{st q q':St}(ha:st.1≤s.length)(g:GReq [] u ns)(g':GReq [] u' ns')(p:Path s st u q)(p':Path s st u' q')(hk:¬(q.2.kind=1∧q.2.s=d6))(hk':¬(q'.2.kind=1∧q'.2.s=d6)):ns=ns'∧q=q':=by
 have h1:=aJS g (u.length+u'.length+1) st q aH ha p hk;have h2:=aJS g' (u.length+u'.length+1) st q' aH ha p' hk';rw[h1]at h2
 injection h2 with h2
 injection h2 with h3 h4
 exact⟨h3,h4⟩
theorem gup1{ns:List aJ}{v:List Wd}{t:Tree}(h:fK ns 7 v t):fK ns 8 v t:=aEA h
theorem aME{r:List aJ×Tree}{u' v':List Wd}{ns':List aJ}{t':Tree}{st st':St}(h:dX s=.ok r)(h0:next s 0=.ok st)(hr:GReq [] u' ns')(hb:fK ns' 8 v' t')(hp:Path s st (u'++v') st')(he:st'.2.kind=0):r.1=ns'∧dF r.2=t':=by
 obtain⟨st0,e0,u,v,k0,g1,g2,k1,k2⟩:=t8 h;rw[h0]at k0;cases k0
 have ha:=(nO (Nat.zero_le _) h0).2.1;obtain⟨q,p1,p2⟩:=f5.1 k1;obtain⟨q',p1',p2'⟩:=f5.1 hp;obtain⟨e1,e2⟩:=aG3 ha g1 hr p1 p1' (aAW g2 p2 k2) (aAW hb p2' he);subst e2;have m:=(jR ha p1).2;refine⟨e1,?_⟩
 rw[e1]at g2;obtain⟨t1,b1,b2⟩:=yD 8 v _ (gup1 g2) q e0 m p2 aH;obtain⟨t2,b3,b4⟩:=yD 8 v' t' hb q st' m p2' aH;rw[b1]at b3
 injection b3 with b3
 injection b3 with b5 b6
 rw[←b2,←b4,b5]
def Rdx(X:aJ)(ws:List Wd)(P:aJ→Prop):Prop:=∀s a R,P R→s.drop a=X++R→Rds s a ws (a+X.length)
theorem Rdx.app{X Y:aJ}{u v:List Wd}{P Q:aJ→Prop}(h1:Rdx X u P)(h2:Rdx Y v Q)(hp:∀R,Q R→P (Y++R)):Rdx (X++Y) (u++v) Q:=fun s a R hR h=>by
 rw[List.append_assoc]at h;have:=(h1 s a (Y++R) (hp R hR) h).cat (h2 s (a+X.length) R hR (fX h));rw[List.length_append,←Nat.add_assoc];exact this
theorem aAD{a:Nat}{c:UInt8}{t:aJ}(h:s.drop a=c::t)(hc:jD c=true):next s a=next s (a+1):=by
 unfold next;rw[rO h hc]
theorem Rdx.blank{X:aJ}{u:List Wd}{P:aJ→Prop}{c:UInt8}(h:Rdx X u P)(hc:jD c=true):Rdx (c::X) u P:=fun s a R hR hd st3 e=>by
 obtain⟨_,k⟩:=kO hd;obtain⟨st,e1,e2⟩:=h s (a+1) R hR k st3 (by rw[←e];congr 1;simp;omega);exact⟨st,by rw[aAD (show s.drop a=c::(X++R)from hd) hc];exact e1,e2⟩
theorem Rdx.mono{X:aJ}{u:List Wd}{P Q:aJ→Prop}(h:Rdx X u P)(hq:∀R,Q R→P R):Rdx X u Q:=fun s a R hR=>h s a R (hq R hR)
def NW(R:aJ):Prop:=∀c,R.head?=some c→cW c=false
def NL(R:aJ):Prop:=oH R=true
theorem uZ{r:List (aJ×Tk)}{e:aJ}(hc:qF r=true)(hg:kC r=true)(he:NW e):∀c,(rend r e).head?=some c→cW c=false:=by
 cases r with
 |nil=>exact he
 |cons x r=>
  intro c h;obtain⟨b,tk⟩:=x;obtain⟨g1,g2,_⟩:=yQ hg;cases b with
  |cons x b=>simp[rend]at h;subst h;exact xC (.inl (g1 x (by simp)))
  |nil=>
   cases tk with
   |sg d=>simp[rend,Tk.body]at h;subst h;exact xC (.inr g2)
   |nm w=>cases hc
   |tg w=>simp[rend,Tk.body]at h;subst h;decide
   |tx w=>simp[rend,Tk.body]at h;subst h;decide
   |nu n=>cases hc
def lastS:List (aJ×Tk)→Bool
 | []=>false
 | [(_,.sg _)]=>true
 | [(_,.tx _)]=>true
 | [_]=>false
 |_::y::r=>lastS (y::r)
theorem aO9{b:aJ}{tk:Tk}{r:List (aJ×Tk)}{e:aJ}(h:kC ((b,tk)::r)=true)(he:NW e∨lastS ((b,tk)::r)=true):tk.sep (rend r e):=by
 have key:qF r=true→kC r=true→lastS ((b,tk)::r)=true→(r=[]→False)→∀c,(rend r e).head?=some c→cW c=false:=by
  intro hc hg hl hr c hh;cases r with
  |nil=>exact(hr rfl).elim
  |cons x r=>
   obtain⟨b',tk'⟩:=x;obtain⟨g1,g2,_⟩:=yQ hg;cases b' with
   |cons x b'=>simp[rend]at hh;subst hh;exact xC (.inl (g1 x (by simp)))
   |nil=>
    cases tk' with
    |sg d=>simp[rend,Tk.body]at hh;subst hh;exact xC (.inr g2)
    |nm w=>cases hc
    |tg w=>simp[rend,Tk.body]at hh;subst hh;decide
    |tx w=>simp[rend,Tk.body]at hh;subst hh;decide
    |nu n=>cases hc
 cases tk with
 |sg c=>trivial
 |tx w=>trivial
 |nm w=>
  simp only[kC,Bool.and_eq_true]at h;rcases he with he|he
  ·exact uZ h.2.2.1 h.2.2.2 he
  ·exact key h.2.2.1 h.2.2.2 he (by rintro rfl;cases he)
 |tg w=>
  simp only[kC,Bool.and_eq_true]at h;rcases he with he|he
  ·exact uZ h.2.2.1 h.2.2.2 he
  ·exact key h.2.2.1 h.2.2.2 he (by rintro rfl;cases he)
 |nu w=>
  simp only[kC,Bool.and_eq_true]at h;rcases he with he|he
  ·exact uZ h.2.2.1 h.2.2.2 he
  ·exact key h.2.2.1 h.2.2.2 he (by rintro rfl;cases he)
theorem aB5{x:aJ×Tk}{r:List (aJ×Tk)}(h:lastS (x::r)=true):r=[]∨lastS r=true:=by
 cases r with
 |nil=>exact .inl rfl
 |cons y r=>exact .inr (by obtain⟨b,tk⟩:=x;cases tk <;> exact h)
theorem aJP(ts:List (aJ×Tk))(e:aJ):rend ts e=rend ts []++e:=by
 have:=aCT ts [] e;rw[List.append_nil]at this;induction ts with
 |nil=>rfl
 |cons x ts ih=>
  have h:=aCT ts [] e;rw[List.append_nil]at h;simp only[rend,List.append_assoc];rw[ih h]
theorem nJ{R:aJ}:∀(ts:List (aJ×Tk)) (a:Nat),kC ts=true→(NW R∨lastS ts=true∨ts=[])→s.drop a=rend ts R→∀q,next s (a+(rend ts []).length)=.ok q∨ts≠[]→∃st,next s a=.ok st∧
  (∀W e,Path s st W e→e.2.kind=0→∃W' q',W=ts.map (fun x=>x.2.wd)++W'∧next s (a+(rend ts []).length)=.ok q'∧Path s q' W' e)∧(∀q,next s (a+(rend ts []).length)=.ok q→Path s st (ts.map fun x=>x.2.wd) q)
 | [],a,hg,hc,h,q,hq=>by
  rcases hq with hq|hq
  ·exact⟨q,hq,fun W e p k=>⟨W,q,rfl,hq,p⟩,fun q2 h2=>by rw[show a+(rend [] []).length=a from rfl,show next s a=.ok q from hq]at h2;cases h2;rfl⟩
  ·exact absurd rfl hq
 |(b,tk)::r,a,hg,hc,h,q,hq=>by
  obtain⟨g1,g2,g3⟩:=yQ hg;have hc':NW R∨lastS ((b,tk)::r)=true:=by
   rcases hc with h|h|h
   ·exact .inl h
   ·exact .inr h
   ·cases h
  obtain⟨h1,h2⟩:=aXN h g1 g2 (aO9 hg hc');obtain⟨w1,w2⟩:=Tk.word_wd tk (a+b.length);have hl:a+(rend ((b,tk)::r) []).length=a+b.length+tk.body.length+(rend r []).length:=by simp only[rend,List.length_append];omega
  refine⟨_,h1,fun W e p k=>?_,fun q2 h2'=>?_⟩
  ·cases W with
   |nil=>
    have:e=_:=p;subst this;exact absurd k w2
   |cons w W=>
    obtain⟨p1,p2,q1,p3,p4⟩:=p;have hc2:NW R∨lastS r=true∨r=[]:=by
     rcases hc' with h|h
     ·exact .inl h
     ·rcases aB5 h with h|h
      ·exact .inr (.inr h)
      ·exact .inr (.inl h)
    by_cases hr:r=[]
    ·subst hr;exact⟨W,q1,by simp only[List.map_cons,List.map_nil,List.cons_append,List.nil_append];rw[←p2,w1],by rw[hl];exact p3,p4⟩
    ·obtain⟨st2,f1,f2,_⟩:=nJ r (a+b.length+tk.body.length) g3 hc2 h2 q (.inr hr);have:next s (a+b.length+tk.body.length)=.ok q1:=p3;rw[f1]at this;cases this
     obtain⟨W',q',e1,e2,e3⟩:=f2 W e p4 k;exact⟨W',q',by simp only[List.map_cons,List.cons_append];rw[←e1,←p2,w1],by rw[hl];exact e2,e3⟩
  ·refine⟨w2,w1,?_⟩
   have hc2:NW R∨lastS r=true∨r=[]:=by
    rcases hc' with h|h
    ·exact .inl h
    ·rcases aB5 h with h|h
     ·exact .inr (.inr h)
     ·exact .inr (.inl h)
   rw[hl]at h2';obtain⟨st2,f1,_,f3⟩:=nJ r (a+b.length+tk.body.length) g3 hc2 h2 q2 (.inl h2');exact⟨st2,f1,f3 q2 h2'⟩
theorem Rdx.toks{ts:List (aJ×Tk)}(hg:kC ts=true):Rdx (rend ts []) (ts.map fun x=>x.2.wd) (fun R=>NW R∨lastS ts=true):=fun s a R hR h st3 e=>by
 rw[←aJP]at h;obtain⟨st,e1,_,e3⟩:=nJ ts a hg (by rcases hR with h|h;exact .inl h;exact .inr (.inl h)) h st3 (.inl e);exact⟨st,e1,e3 st3 e⟩
theorem Rdx.whole{X:aJ}{ws:List Wd}{P:aJ→Prop}(h:Rdx X ws P)(hP:P []):∃st st',next X 0=.ok st∧Path X st ws st'∧st'.2.kind=0:=by
 have he:next X (0+X.length)=.ok (X.length,⟨0,[],0,X.length⟩):=aCL (b:=[]) (by simp) (by simp) aH;obtain⟨st,e1,e2⟩:=h X 0 [] hP (by simp) _ he;exact⟨st,_,e1,e2,rfl⟩
end
end Go.Syn
end
section
namespace Go.Syn
def hdT:List (aJ×Tk):=[([],.nm d6),([32],.sg 91),([],.tx dD),([],.sg 44),([32],.tx dZ),([],.sg 44),([32],.tx eD),([],.sg 44),([32],.tx fO),([],.sg 93),([],.sg 59)]
def fE:aJ:=rend hdT []
def ns4:List aJ:=[dD,dZ,eD,fO]
def hwT:List Wd:=hdT.map fun x=>x.2.wd
theorem req4:GReq [] hwT ns4:=by
 have := GReq.cons [] ns4 _ [] [dD, dZ, eD, fO] (GList.many dD [dZ, eD, fO]) (by decide) (by
  have:gQ [] [dD,dZ,eD,fO]=ns4:=by decide
  rw[this];exact GReq.nil ns4)
 have e:hwT=wNm d6::((wSg 91::wTx dD::([dZ,eD,fO].flatMap (fun x=>[wSg 44,wTx x])++[wSg 93]))++(wSg 59::[])):=by decide
 rw[e];exact this
theorem aXA:kC hdT=true:=by decide
theorem aXK:lastS hdT=true:=by decide
section
variable{s:aJ}
theorem zX{a:aJ}{r:List aJ×Tree}(h:dX (fE++a)=.ok r):∃st0 q e v,next (fE++a) 0=.ok st0∧Path (fE++a) st0 hwT q∧next (fE++a) fE.length=.ok q∧Path (fE++a) q v e∧e.2.kind=0∧WOk q.2∧
  (q.2.kind=1∧q.2.s=d6∨r.1=ns4∧fK ns4 7 v (dF r.2)):=by
 obtain⟨st0,e,u,v,k0,g1,g2,k1,k2⟩:=t8 h;have hd:(fE++a).drop 0=rend hdT a:=by rw[List.drop_zero,aJP];rfl
 obtain⟨st,f1,f2,f3⟩:=nJ hdT 0 aXA (.inr (.inl aXK)) hd st0 (.inr (by decide));rw[f1]at k0;cases k0
 obtain⟨W',q',e1,e2,e3⟩:=f2 _ e k1 k2;rw[Nat.zero_add]at e2;have p':=f3 q' (by rw[Nat.zero_add];exact e2)
 by_cases hk:q'.2.kind=1∧q'.2.s=d6
 ·exact⟨_,q',e,W',f1,p',e2,e3,k2,sQ e2,.inl hk⟩
 ·obtain⟨q,p1,p2⟩:=f5.1 k1;obtain⟨d1,d2⟩:=aG3 (nO (Nat.zero_le _) f1).2.1 g1 req4 p1 p' (aAW g2 p2 k2) hk;subst d2;obtain⟨d3,_⟩:=aCO p2 e3 k2 k2;subst d3;rw[d1]at g2;exact⟨_,q,e,v,f1,p',e2,e3,k2,sQ e2,.inr ⟨d1,g2⟩⟩
theorem aAG{a:aJ}{r:List aJ×Tree}(h:dX (fE++a)=.ok r):∃wa,Rdx a wa NL∧((∃w,wa=wNm d6::w)∨fK ns4 7 wa (dF r.2)):=by
 obtain⟨st0,q,e,v,k0,k1,k2,k3,k4,k5,k6⟩:=zX h;have hd:(fE++a).drop fE.length=a++[]:=by rw[List.append_nil];exact List.drop_left
 obtain⟨wy,wr,st3,e1,e2,e3,e4,_⟩:=aJJ (R:=[]) rfl _ a fE.length v q e (Nat.le_refl _) hd k2 k3 k4;have hr:wr=[]:=by
  cases wr with
  |nil=>rfl
  |cons w wr=>
   have he:next (fE++a) (fE.length+a.length)=.ok ((fE++a).length,⟨0,[],0,(fE++a).length⟩):=aCL (b:=[]) (by rw[List.drop_eq_nil_of_le (by simp)]) (by simp) (by simp);rw[he]at e2;cases e2
   exact absurd rfl e3.1
 rw[hr,List.append_nil]at e1;subst e1;refine⟨v,fun s' a' R' hR' h'=>e4 s' a' R' hR' h',?_⟩
 rcases k6 with ⟨j1,j2⟩|⟨_,j⟩
 ·refine .inl ?_;cases v with
  |nil=>have:e=q:=k3;subst this;rw[j1]at k4;cases k4
  |cons w v=>
   obtain⟨_,p2,_⟩:=k3;exact⟨v,by rw[←p2,aZZ k5 j1 (by decide),j2]⟩
 ·exact .inr j
def nl(x:aJ):Nat:=x.count 10
theorem vK(x y:aJ):nl (x++y)=nl x+nl y:=List.count_append
theorem aSB(d:Nat):∀l:List Tree,l.length≤nl (prn (cl l) d true)
 | []=>Nat.zero_le _
 |c::l=>by
  have:=aSB d l;simp only[cl,prn,vK,List.length_cons];have:nl [10]=1:=rfl;omega
theorem aY9(d:Nat):∀(l:List (Tree×Tree)) (els:Option Tree),l.length+(if els=none then 0 else 1)≤nl (prn (bl l els) d false)
 | [],none=>by simp[bl]
 | [],some b=>by
  simp only[bl,prn,vK];have:nl [32,123,10]=1:=rfl;simp;omega
 |p::l,els=>by
  have:=aY9 d l els;simp only[bl,prn,vK,List.length_cons];have:nl [32,123,10]=1:=rfl;omega
theorem aNC{needs:List aJ}{n:Nat}{B:List Wd→Tree→Prop}{u:List Wd}{c:Tree}(h:GCmd needs n B u c):(∃x,prn c 0 true=x++[59])∨∃(ut:List Wd) (t:Tree) (ub:List Wd) (b:Tree) (brs:List Br) (els:Option (List Wd×Tree)),u=wNm txIf::(ut++(wSg 123::(ub++(wSg 125::(brs.flatMap Br.words++jE els)))))∧c=.iff (bl ((t,b)::brs.map fun p=>(p.t,p.b)) (els.map (·.2)))∧GTest needs n ut t∧B ub b:=by
 cases h with
 |simple word c h=>rcases h with ⟨rfl,rfl⟩|⟨rfl,rfl⟩|⟨rfl,rfl⟩ <;> exact .inl ⟨_,by simp only[prn];first|exact(show ([107,101,101,112,59]:aJ)=[107,101,101,112]++[59]from rfl)|exact(show ([100,105,115,99,97,114,100,59]:aJ)=[100,105,115,99,97,114,100]++[59]from rfl)|exact(show ([115,116,111,112,59]:aJ)=[115,116,111,112]++[59]from rfl)⟩
 |act word kind ext arg h hx=>
  have hk:¬kind=1:=by rcases h with ⟨_,rfl,_⟩|⟨_,rfl,_⟩|⟨_,rfl,_⟩ <;> decide
  exact .inl ⟨rB kind++gU arg,by simp only[prn,if_neg hk,List.append_assoc]⟩
 |set0 name value hv hn=>exact .inl ⟨_,by simp only[prn];rfl⟩
 |set1 x name value i hv hn hi hx=>exact .inl ⟨_,by simp only[prn];rfl⟩
 |iff ut t ub b brs els ht hb hbr hel=>
  refine .inr ⟨ut,t,ub,b,brs,els,rfl,?_,ht,hb⟩
  have e:brs.foldl (fun l p=>l.snocB (some p.t) p.b) (.bcons t b .bnil)=bl ((t,b)::brs.map fun p=>(p.t,p.b)) none:=bB9 brs [(t,b)];rw[e,aW1]
theorem aXO:nl ([114,101,113,117,105,114,101,32]++mU ns4++[59,10])=1:=by decide+kernel
theorem aKR{r:List aJ×Tree}{v:List Wd}{pre:aJ}(h1:r.1=ns4)(h2:fK ns4 7 v (dF r.2))(h3:nl (pI r)=3)(h4:pI r=pre++[123,10,125,10]):
  ∃ut t,v=wNm txIf::(ut++[wSg 123,wSg 125])∧GTest ns4 6 ut t:=by
 obtain⟨cs,hc,e1,e2⟩:=h2;have e2:dF r.2=cl (cs.map (·.2)):=by rw[e2];exact aZB cs []
 have ht:pI r=([114,101,113,117,105,114,101,32]++mU ns4++[59,10])++prn (cl (cs.map (·.2))) 0 true:=by
  unfold pI;rw[h1,if_neg (by decide),←e2,aQG]
 have hn:nl (prn (cl (cs.map (·.2))) 0 true)=2:=by
  rw[ht,vK,aXO]at h3;omega
 rw[ht]at h4
 generalize hH:([114,101,113,117,105,114,101,32]++mU ns4++[59,10]:aJ)=H at h4
 have last:∀ {x y:aJ} {c d:UInt8},x++[c]=y++[d]→x=y∧c=d:=fun h=>by
  have:=List.append_inj' h rfl;exact⟨this.1,by simpa using this.2⟩
 have h4':∀(x:aJ) (l:List Tree) (c:Tree),H++(x++(prn c 0 true++[10]))=pre++[123,10,125,10]→∀y,prn c 0 true=y++[59]→False:=by
  intro x l c e y hy;rw[hy]at e;have e:(H++(x++y)++[59])++[10]=(pre++[123,10,125])++[10]:=by simpa using e
  have e:=(last e).1;have e:(H++(x++y))++[59]=(pre++[123,10])++[125]:=by simpa using e
  have:=(last e).2;exact absurd this (by decide)
 match cs,hc,e1,e2,hn,h4 with
 | [],_,_,_,hn,_=>exact absurd hn (by decide)
 |p::q::w::cs,_,_,_,hn,_=>
  have:=aSB 0 ((p::q::w::cs).map (·.2));simp only[List.map_cons,List.length_cons]at this hn;omega
 | [p,q],hc,_,_,hn,h4=>
  exfalso
  simp only[List.map_cons,List.map_nil,cl,prn,indC,List.nil_append,List.append_nil]at h4 hn;rcases aNC (hc q (by simp))with ⟨x,hx⟩|⟨ut,t,ub,b,brs,els,_,hq,_⟩
  ·exact h4' (prn p.2 0 true++[10]) [] q.2 (by simpa using h4) x hx
  ·rw[hq]at hn;simp only[bl,prn,vK,if_true]at hn;have n1:nl [10]=1:=rfl;have n2:nl [32,123,10]=1:=rfl;omega
 | [p],hc,e1,e2,hn,h4=>
  simp only[List.map_cons,List.map_nil,cl,prn,indC,List.nil_append,List.append_nil]at h4 hn;have hp:=hc p (by simp);rcases aNC hp with ⟨x,hx⟩|⟨ut,t,ub,b,brs,els,hw,hq,ht,hb⟩
  ·exact(h4' [] [] p.2 (by simpa using h4) x hx).elim
  ·rw[hq]at hn;simp only[bl,prn,vK,if_true]at hn;have n1:nl [10]=1:=rfl;have n2:nl [32,123,10]=1:=rfl;have n3:=aY9 0 (brs.map fun p=>(p.t,p.b)) (els.map (·.2));rw[List.length_map]at n3;have hbr:brs=[]:=by
    cases brs with
    |nil=>rfl
    |cons x l=>rw[List.length_cons]at n3;omega
   have hel:els=none:=by
    cases els with
    |none=>rfl
    |some x=>
     simp only[Option.map_some]at n3 hn;rw[if_neg (by simp)]at n3;omega
   obtain⟨cs2,hc2,f1,f2⟩:=hb;have f2:b=cl (cs2.map (·.2)):=by rw[f2];exact aZB cs2 []
   have hcs:cs2=[]:=by
    cases cs2 with
    |nil=>rfl
    |cons x l=>
     have:=aSB (0+1) ((x::l).map (·.2));rw[←f2,List.length_map,List.length_cons]at this;omega
   refine⟨ut,t,?_,ht⟩
   rw[e1,List.flatMap_cons,hw,hbr,hel,f1,hcs];simp[jE]
theorem aQE{s:aJ}{q e:St}{W:List Wd}(hq:q.2.kind=0)(p:Path s q W e):W=[]:=by
 cases W with
 |nil=>rfl
 |cons w W=>exact absurd hq p.1
def tx0(t:aJ):aJ:=fE++([105,102,32]++(t++[10,32,123,125]))
theorem aMG{t pre:aJ}{r:List aJ×Tree}(h:dX (tx0 t)=.ok r)(h3:nl (pI r)=3)(h4:pI r=pre++[123,10,125,10]):
  ∃wt T,Rdx t wt NL∧GTest ns4 6 wt T∧((∀y∈t,y≠36)→∀w∈wt,∀x∈w.2.1,x≠36):=by
 unfold tx0 at h;obtain⟨st0,q,e,v,k0,k1,k2,k3,k4,k5,k6⟩:=zX h
 generalize hs:fE++([105,102,32]++(t++[10,32,123,125]))=s at*
 have d0:s.drop fE.length=rend [([],.nm txIf)] (32::(t++[10,32,123,125])):=by rw[←hs];exact List.drop_left
 obtain⟨st,f1,f2,_⟩:=nJ [([],Tk.nm txIf)] fE.length (by decide) (.inl (fun c hc=>by simp at hc;subst hc;decide)) d0 q (.inr (by simp));rw[k2]at f1;cases f1
 obtain⟨W',q',e1,e2,e3⟩:=f2 v e k3 k4;have hif:dE txIf=txIf:=by decide
 have e1:v=wNm txIf::W':=by rw[e1];simp[Tk.wd,hif]
 subst e1;have hne:¬(q.2.kind=1∧q.2.s=d6):=by
  rintro⟨_,j⟩;have:q.2.wd.2.1=txIf:=by rw[k3.2.1]
  rw[show q.2.wd.2.1=q.2.s from rfl,j]at this;exact absurd this (by decide)
 rcases k6 with j|⟨j1,j2⟩
 ·exact absurd j hne
 obtain⟨ut,T,g1,g2⟩:=aKR j1 j2 h3 h4;have hl:(rend [([],Tk.nm txIf)] []).length=2:=by decide
 rw[hl]at e2;have d2:s.drop (fE.length+2)=32::(t++[10,32,123,125]):=by
  have:=fX (b:=[105,102]) d0;exact this
 rw[aAD d2 (by decide)]at e2;have d3:s.drop (fE.length+2+1)=t++[10,32,123,125]:=(gB d2).2.2;obtain⟨wy,wr,st3,y1,y2,y3,y4,y5⟩:=aJJ (R:=[10,32,123,125]) (by decide) _ t _ W' q' e (Nat.le_refl _) d3 e2 e3 k4;have d4:s.drop (fE.length+2+1+t.length)=rend [([10,32],.sg 123),([],.sg 125)] []:=fX d3;obtain⟨st4,z1,z2,_⟩:=nJ [([10,32],Tk.sg 123),([],.sg 125)] _ (by decide) (.inr (.inl (by decide))) d4 q (.inr (by simp));rw[y2]at z1;cases z1
 obtain⟨W2,q2,x1,x2,x3⟩:=z2 wr e y3 k4;have hend:W2=[]:=by
  have d5:s.drop (fE.length+2+1+t.length+(rend [([10,32],Tk.sg 123),([],.sg 125)] []).length)=[]:=fX (t:=[]) (by rw[d4,List.append_nil]);have hle:fE.length+2+1+t.length+(rend [([10,32],Tk.sg 123),([],.sg 125)] []).length≤s.length:=by
   rw[←hs];have:(rend [([10,32],Tk.sg 123),([],.sg 125)] []).length=4:=by decide
   rw[this];simp only[List.length_append,List.length_cons,List.length_nil];omega
  rw[aCL d5 (by simp) hle]at x2;cases x2
  exact aQE rfl x3
 rw[hend,List.append_nil]at x1;refine⟨wy,T,fun s' a' R' hR' h'=>y4 s' a' R' hR' h',?_,y5⟩
 have:ut=wy:=by
  injection g1 with _ g1
  rw[y1,x1]at g1;exact(List.append_inj_left' (show ut++[wSg 123,wSg 125]=wy++[wSg 123,wSg 125]from g1.symm) rfl)
 rw[←this];exact g2
def tM:List (aJ×Tk):=[([10,32],.sg 123)]
def tE:List (aJ×Tk):=[([10],.sg 125),([32],.nm kA),([32],.sg 123)]
def tZ:List (aJ×Tk):=[([10],.sg 125)]
def tI:List (aJ×Tk):=hdT++[([],.nm txIf)]
def tN:List (aJ×Tk):=hdT++[([],.nm txIf),([32],.nm rY)]
def tA:List (aJ×Tk):=hdT++[([],.nm txIf),([32],.nm lQ),([32],.sg 40)]
def tO:List (aJ×Tk):=hdT++[([],.nm txIf),([32],.nm lR),([32],.sg 40)]
def tC:List (aJ×Tk):=[([10],.sg 44)]
def tP:List (aJ×Tk):=[([10],.sg 41),([32],.sg 123)]
def tF:List (aJ×Tk):=[([10],.sg 125),([32],.nm lS),([32],.nm jB),([32],.sg 123),([],.nm mT),([],.sg 59),([],.sg 125),([32],.nm kA),([32],.sg 123)]
def two(e:List (aJ×Tk))(a b:aJ):aJ:=a++(rend e []++(b++rend tZ []))
def tx1(t a b:aJ):aJ:=rend tI []++(32::t++(rend tM []++two tE a b))
def tx2(t a b:aJ):aJ:=rend tN []++(32::t++(rend tM []++two tE a b))
def tx3(t a b:aJ):aJ:=rend tA []++(t++(rend tC []++(32::t++(rend tP []++two tE a b))))
def tx4(t a b:aJ):aJ:=rend tO []++(t++(rend tP []++two tF a b))
def wdT(l:List (aJ×Tk)):List Wd:=l.map fun x=>x.2.wd
def wtwo(e:List (aJ×Tk))(wa wb:List Wd):List Wd:=wa++(wdT e++(wb++wdT tZ))
section
variable{t a b:aJ}{wt wa wb:List Wd}
theorem Rdx.lastS{l:List (aJ×Tk)}(hg:kC l=true)(hl:Syn.lastS l=true):Rdx (rend l []) (wdT l) fun _=>True:=(Rdx.toks hg).mono fun _ _=>.inr hl
theorem Rdx.lastN{l:List (aJ×Tk)}(hg:kC l=true):Rdx (rend l []) (wdT l) NW:=(Rdx.toks hg).mono fun _ h=>.inl h
theorem nl10(x:aJ):NL (10::x):=rfl
theorem nw32(x:aJ):NW (32::x):=fun c hc=>by simp at hc;subst hc;decide
theorem xI{e:List (aJ×Tk)}(he:kC e=true)(hl:lastS e=true)(h10:∃x,rend e []=10::x)(ha:Rdx a wa NL)(hb:Rdx b wb NL):Rdx (two e a b) (wtwo e wa wb) fun _=>True:=by
 obtain⟨x,hx⟩:=h10;exact ha.app ((Rdx.lastS he hl).app (hb.app (Rdx.lastS (l:=tZ) (by decide) (by decide)) fun R _=>nl10 _) fun _ _=>trivial) fun R _=>by rw[hx];exact nl10 _
theorem bCW(ht:Rdx t wt NL)(ha:Rdx a wa NL)(hb:Rdx b wb NL):Rdx (tx1 t a b) (wdT tI++(wt++(wdT tM++wtwo tE wa wb))) fun _=>True:=
 (Rdx.lastN (l:=tI) (by decide)).app ((ht.blank (c:=32) (by decide)).app ((Rdx.lastS (l:=tM) (by decide) (by decide)).app (xI (by decide) (by decide) ⟨_,rfl⟩ ha hb) fun _ _=>trivial) fun R _=>nl10 _) fun R _=>nw32 _
theorem bCX(ht:Rdx t wt NL)(ha:Rdx a wa NL)(hb:Rdx b wb NL):Rdx (tx2 t a b) (wdT tN++(wt++(wdT tM++wtwo tE wa wb))) fun _=>True:=
 (Rdx.lastN (l:=tN) (by decide)).app ((ht.blank (c:=32) (by decide)).app ((Rdx.lastS (l:=tM) (by decide) (by decide)).app (xI (by decide) (by decide) ⟨_,rfl⟩ ha hb) fun _ _=>trivial) fun R _=>nl10 _) fun R _=>nw32 _
theorem bCY(ht:Rdx t wt NL)(ha:Rdx a wa NL)(hb:Rdx b wb NL):Rdx (tx3 t a b) (wdT tA++(wt++(wdT tC++(wt++(wdT tP++wtwo tE wa wb))))) fun _=>True:=
 (Rdx.lastS (l:=tA) (by decide) (by decide)).app (ht.app ((Rdx.lastS (l:=tC) (by decide) (by decide)).app ((ht.blank (c:=32) (by decide)).app ((Rdx.lastS (l:=tP) (by decide) (by decide)).app (xI (by decide) (by decide) ⟨_,rfl⟩ ha hb) fun _ _=>trivial) fun R _=>nl10 _) fun _ _=>trivial) fun R _=>nl10 _) fun _ _=>trivial
theorem bCZ(ht:Rdx t wt NL)(ha:Rdx a wa NL)(hb:Rdx b wb NL):Rdx (tx4 t a b) (wdT tO++(wt++(wdT tP++wtwo tF wa wb))) fun _=>True:=
 (Rdx.lastS (l:=tO) (by decide) (by decide)).app (ht.app ((Rdx.lastS (l:=tP) (by decide) (by decide)).app (xI (by decide) (by decide) ⟨_,rfl⟩ ha hb) fun _ _=>trivial) fun R _=>nl10 _) fun _ _=>trivial
theorem aT6{s:aJ}{r:List aJ×Tree}{P:aJ→Prop}{ux rest:List Wd}{T:Tree}(h:dX s=.ok r)(hr:Rdx s (hwT++(wNm txIf::(ux++(wSg 123::(wNm d6::rest))))) P)(hP:P [])(hT:GTest ns4 7 ux T):False:=by
 obtain⟨st0,e',a0,a1,a2⟩:=hr.whole hP;obtain⟨st,e,u,v,k0,g1,g2,k1,k2⟩:=t8 h;rw[a0]at k0;cases k0
 obtain ⟨q, p1, p2⟩ := f5.1 k1;obtain ⟨q', p1', p2'⟩ := f5.1 a1;have hst := (nO (Nat.zero_le _) a0).2.1;obtain ⟨d1, d2⟩ := aG3 hst g1 req4 p1 p1' (aAW g2 p2 k2) (by
  rintro⟨_,j⟩;have:q'.2.wd.2.1=txIf:=by rw[p2'.2.1]
  rw[show q'.2.wd.2.1=q'.2.s from rfl,j]at this;exact absurd this (by decide))
 subst d2;rw[d1]at g2;obtain⟨d3,d4⟩:=aCO p2 p2' k2 a2;obtain⟨cs,hc,e1,_⟩:=g2;cases cs with
 |nil=>rw[e1]at d3;cases d3
 |cons p cs=>
  rw[List.flatMap_cons]at e1;have hq1:=(jR hst p1).2;have hp:=hc p (by simp);rw[e1]at d3;have key:∀ {u c},GCmd ns4 6 (fK ns4 6) u c→u++cs.flatMap (·.1)=wNm txIf::(ux++(wSg 123::(wNm d6::rest)))→False:=by
   intro u c hg he;cases hg with
   |simple word c h=>rcases h with ⟨rfl,rfl⟩|⟨rfl,rfl⟩|⟨rfl,rfl⟩ <;> exact absurd (List.cons.inj he).1 (by decide)
   |act word kind ext arg h hx=>rcases h with ⟨rfl,_,_⟩|⟨rfl,_,_⟩|⟨rfl,_,_⟩ <;> exact absurd (List.cons.inj he).1 (by decide)
   |set0 name value hv hn=>exact absurd (List.cons.inj he).1 (by decide)
   |set1 x name value i hv hn hi hx=>exact absurd (List.cons.inj he).1 (by decide)
   |iff ut t ub b brs els ht hb hbr hel=>
    rw[e1,d3]at p2;have p3:=p2;rw[←he]at p3;have n1:=eL hq1 p2;have n2:=eL hq1 p3;obtain⟨q1,m1,m2,m3⟩:=n1;obtain⟨q2,m4,_,m5⟩:=n2;rw[m1]at m4;cases m4
    have m5:Path s q1 (ut++(wSg 123::(ub++(wSg 125::(brs.flatMap Br.words++jE els))++cs.flatMap (·.1)))) e:=by simpa using m5
    obtain⟨q3,w1,w2⟩:=f5.1 m3;obtain⟨q4,w3,w4⟩:=f5.1 m5;have t1:=aC8 hT q1 q3 m2 w1;have t2:=aC8 (wR ht) q1 q4 m2 w3;rw[t1]at t2
    injection t2 with t2
    injection t2 with _ t2
    subst t2;obtain⟨y1,_⟩:=aCO w2 w4 k2 k2;have y1:=(List.cons.inj y1).2;obtain⟨cs2,hc2,f1,_⟩:=hb;cases cs2 with
    |nil=>rw[f1]at y1;exact absurd (List.cons.inj y1).1 (by decide)
    |cons x cs2=>
     obtain⟨w',r',f3,f4⟩:=aIT (hc2 x (by simp));rw[f1,List.flatMap_cons,f3]at y1;have:=(List.cons.inj y1).1
     injection this with _ this
     injection this with this
     exact f4 this.symm
  exact key hp d3
variable{T A B:Tree}{r:List aJ×Tree}
theorem rV{s:aJ}{P:aJ→Prop}{v:List Wd}{t':Tree}(h:dX s=.ok r)(hr:Rdx s (hwT++v) P)(hP:P [])(hb:fK ns4 8 v t'):r.1=ns4∧dF r.2=t':=by
 obtain⟨st0,e',a0,a1,a2⟩:=hr.whole hP;exact aME h a0 req4 hb a1 a2
theorem aGZ{needs:List aJ}{n:Nat}{u:List Wd}{c:Tree}(h:GCmd needs n (fK needs n) u c):fK needs (n+1) u (cl [c]):=⟨[(u,c)],by simpa using h,by simp,rfl⟩
theorem aGK{n:Nat}{ux:List Wd}{T:Tree}(hT:GTest ns4 n ux T)(ha:fK ns4 n wa A)(hb:fK ns4 n wb B):fK ns4 (n+1) (wNm txIf::(ux++(wdT tM++wtwo tE wa wb))) (cl [.iff (bl [(T,A)] (some B))]):=by
 have:fK ns4 (n+1) _ (cl [.iff (bl [(T,A)] (some B))]):=aGZ (GCmd.iff ux T wa A [] (some (wb,B)) hT ha (by simp) (fun p hp=>by cases hp;exact hb));have e:wtwo tE wa wb=wa++(wSg 125::(wNm kA::wSg 123::(wb++[wSg 125]))):=by
  have h1:wdT tE=[wSg 125,wNm kA,wSg 123]:=by decide
  have h2:wdT tZ=[wSg 125]:=by decide
  unfold wtwo;rw[h1,h2];simp
 have h3:wdT tM=[wSg 123]:=by decide
 rw[e,h3]
 simpa[jE]using this
theorem aTJ{n:Nat}{ux:List Wd}{T:Tree}(hT:GTest ns4 (n+1) ux T)(ha:fK ns4 (n+1) wa A)(hb:fK ns4 (n+1) wb B):fK ns4 (n+2) (wNm txIf::(ux++(wdT tM++wtwo tF wa wb))) (cl [.iff (bl [(T,A),(.const false,cl [.plain 14])] (some B))]):=by
 have hs : fK ns4 (n + 1) [wNm mT, wSg 59] (cl [.plain 14]) := aGZ (GCmd.simple mT _ (.inr (.inr ⟨rfl, rfl⟩)));have : fK ns4 (n + 2) _ (cl [.iff (bl [(T, A), (.const false, cl [.plain 14])] (some B))]) := aGZ (GCmd.iff ux T wa A [⟨[wNm jB], .const false, [wNm mT, wSg 59], cl [.plain 14]⟩] (some (wb, B)) hT ha (fun p hp => by
  rw[List.mem_singleton.1 hp];exact⟨GTest.fls n,hs⟩) (fun p hp=>by cases hp;exact hb))
 have e:wtwo tF wa wb=wa++(wSg 125::(([wNm lS,wNm jB,wSg 123,wNm mT,wSg 59,wSg 125]:List Wd)++(wNm kA::wSg 123::(wb++[wSg 125])))):=by
  have h1:wdT tF=[wSg 125,wNm lS,wNm jB,wSg 123,wNm mT,wSg 59,wSg 125,wNm kA,wSg 123]:=by decide
  have h2:wdT tZ=[wSg 125]:=by decide
  unfold wtwo;rw[h1,h2];simp
 have h3:wdT tM=[wSg 123]:=by decide
 rw[e,h3]
 simpa[jE,Br.words]using this
end
end
end Go.Syn
end
section
namespace Go.Say
open Go.Syn Go.Mach Go.Cmp
def vo(x:Res (Bool×Co)):List fU×Int×Bool:=((out x).1,(te (out x).2).1,true)
theorem aRX(x:Res (Bool×Co)):vo (forget x)=vo x:=by cases x <;> rfl
theorem xK{s:aJ}{r:List aJ×Tree}{m:Msg}(h:dX s=.ok r)(hs:s.length≤600)(h4:r.1=ns4):rn s m=vo (Say.run true m (dF r.2) start):=by
 have h3:=bBD (m:=m) h hs;have e:decide (dD∈r.1)=true:=by rw[h4];decide
 rw[e]at h3;unfold rn;rw[if_neg aH,h];simp only[h3];rw[(aRD true m r.2 start).1,aRX];rfl
section
variable{m:Msg}
theorem aNV(x:Tree)(c:Co):Say.run true m (cl [x]) c=cmd true m x c:=by
 simp only[cl,Say.run];cases cmd true m x c with
 |error e=>rfl
 |ok r=>
  simp only[];split
  ·rfl
  ·rename_i h;obtain⟨a,b⟩:=r;simp at h;subst h;rfl
theorem aCY(T A B:Tree)(c:Co):Say.run true m (cl [.iff (bl [(T,A)] (some B))]) c=if (holds true m T c).1=true then Say.run true m A (holds true m T c).2 else Say.run true m B (holds true m T c).2:=by
 rw[aNV];simp only[cmd,bl,brs]
theorem aX7(T A B:Tree)(c:Co):Say.run true m (cl [.iff (bl [(.not_ T,B)] (some A))]) c=Say.run true m (cl [.iff (bl [(T,A)] (some B))]) c:=by
 rw[aCY,aCY];simp only[holds]
 by_cases h:(holds true m T c).1=true <;> simp[h]
theorem aX6(T A B:Tree)(c:Co):Say.run true m (cl [.iff (bl [(.many false (tl [T]),A),(.const false,cl [.plain 14])] (some B))]) c=Say.run true m (cl [.iff (bl [(T,A)] (some B))]) c:=by
 rw[aNV,aCY];simp only[cmd,bl,brs,holds,tl,lT]
 by_cases h:(holds true m T c).1=true <;> simp[h]
def setP(p:Option (List aJ))(c:Co):Co:=match p with
 |none=>c
 |some ps=>{c with parts:=ps}
theorem aJ3(p q:Option (List aJ))(c:Co):setP q (setP p c)=setP (q.or p) c:=by cases p <;> cases q <;> rfl
theorem aO3{vars:List (aJ×aJ)}{parts:List aJ}{x:aJ}(h:∀c∈x,c≠36):dA true vars parts x=x.take 1024:=by
 have hi:Lib.index x [36,123]= -1:=by
  induction x with
  |nil=>rfl
  |cons c r ih=>
   have h1:=ih fun y hy=>h y (by simp[hy])
   have h2:¬(36=c):=fun e=>h c (by simp) e.symm
   simp[Lib.index,List.isPrefixOf,h1,h2]
 unfold dA;rw[if_pos rfl]
 congr 1
 unfold iK;split
 ·rename_i e;rw[e]
 ·rw[hi,if_pos (by decide)];rfl
theorem aL6{vars:List (aJ×aJ)}{parts:List aJ}{l:List aJ}(h:∀x∈l,∀c∈x,c≠36):l.map (dA true vars parts)=l.map (·.take 1024):=List.map_congr_left fun x hx=>aO3 (h x hx)
def No36(u:List Wd):Prop:=∀w∈u,∀x∈w.2.1,x≠36
theorem No36.left{u v:List Wd}(h:No36 (u++v)):No36 u:=fun w hw=>h w (by simp[hw])
theorem No36.right{u v:List Wd}(h:No36 (u++v)):No36 v:=fun w hw=>h w (by simp[hw])
theorem No36.tail{w:Wd}{v:List Wd}(h:No36 (w::v)):No36 v:=fun x hx=>h x (by simp[hx])
theorem aBX{u:List Wd}{l:List aJ}(g:GList u l)(h:No36 u):∀x∈l,∀c∈x,c≠36:=by
 cases g with
 |one w=>intro x hx;rw[List.mem_singleton.1 hx];exact h (wTx w) (by simp)
 |many w ws=>
  intro x hx;rcases List.mem_cons.1 hx with rfl|hx
  ·exact h (wTx x) (by simp)
  ·refine h (wTx x) ?_;simp only[List.mem_cons,List.mem_append,List.mem_flatMap];exact .inr (.inr (.inl ⟨x,hx,by simp⟩))
def Pure(m:Msg)(T:Tree):Prop:=∃(g:Bool) (p:Option (List aJ)),∀c,holds true m T c=(g,setP p c)
theorem aES(all:Bool):∀l:List Tree,(∀t∈l,Pure m t)→∃(g:Bool) (p:Option (List aJ)),∀c,lT true m all (tl l) c=(g,setP p c)
 | [],_=>⟨all,none,fun c=>rfl⟩
 |t::l,h=>by
  obtain⟨g1,p1,h1⟩:=h t (by simp);obtain⟨g2,p2,h2⟩:=aES all l fun x hx=>h x (by simp[hx])
  by_cases hg:g1=all
  ·exact⟨g2,p2.or p1,fun c=>by simp only[tl,lT,h1,h2,aJ3,if_pos hg]⟩
  ·exact⟨g1,p1,fun c=>by simp only[tl,lT,h1,if_neg hg]⟩
theorem aQI{needs:List aJ}{n:Nat}{u:List Wd}{T:Tree}(g:GTest needs n u T)(h:No36 u):Pure m T:=by
 induction g with
 |tru n=>exact⟨true,none,fun c=>rfl⟩
 |fls n=>exact⟨false,none,fun c=>rfl⟩
 |not_ n u t _ ih=>
  obtain⟨g,p,e⟩:=ih h.tail;exact⟨!g,p,fun c=>by simp only[holds,e]⟩
 |many n all u t us _ _ ih1 ih2=>
  have hl:∀x∈t::us.map (·.2),Pure m x:=by
   intro x hx;rcases List.mem_cons.1 hx with rfl|hx
   ·exact ih1 (No36.left (No36.tail (No36.tail h)))
   ·obtain⟨p,hp,rfl⟩:=List.mem_map.1 hx;refine ih2 p hp fun w hw=>?_
    have h2:=No36.left (No36.right (No36.tail (No36.tail h)));exact h2 w (List.mem_flatMap.2 ⟨p,hp,by simp[hw]⟩)
  have e:us.foldl (fun l p=>l.snocT p.2) (.tcons t .tnil)=tl (t::us.map (·.2)):=bCA us [t];obtain⟨g,p,e2⟩:=aES (m:=m) all _ hl;exact⟨g,p,fun c=>by rw[e];simp only[holds];exact e2 c⟩
 |mat n word op ext u v w hw a b hm hx hg ga fa gb=>
  have ha:=aBX ga (No36.left (No36.right (No36.tail h)));have hb:=aBX gb (No36.right (No36.right (No36.tail h)))
  generalize (if 1>hw.tag then 1 else hw.tag)=tag
  generalize hw.oct=oct
  have hv:∀c:Co,fG (dA true c.vars c.parts) m (matO tag oct op a b)=fG (·.take 1024) m (matO tag oct op a b):=by
   intro c;unfold fG;simp only[matO];rw[aL6 ha]
  have hr:∀c:Co,matR true m (matO tag oct op a b) c=gR (matO tag oct op a b) (fG (·.take 1024) m (matO tag oct op a b)) (b.map (·.take 1024)):=by
   intro c;unfold matR;rw[hv c];simp only[matO];rw[aL6 hb]
  cases hz:gR (matO tag oct op a b) (fG (·.take 1024) m (matO tag oct op a b)) (b.map (·.take 1024))with
  |none=>exact⟨false,none,fun c=>by simp only[holds,mat,hr,hz];rfl⟩
  |some ps=>
   by_cases ht:tag=3
   ·exact⟨true,some ps,fun c=>by simp only[holds,mat,hr,hz];simp[matO,ht,setP]⟩
   ·exact⟨true,none,fun c=>by simp only[holds,mat,hr,hz];simp[matO,ht,setP]⟩
 |exi n v a ga=>
  have ha:=aBX ga h.tail;exact⟨mL m (a.map (·.take 1024)),none,fun c=>by simp only[holds];rw[aL6 ha];rfl⟩
 |siz n x k hx hk=>exact⟨_,none,fun c=>by simp only[holds];rfl⟩
theorem aX5{T A B:Tree}(h:Pure m T)(c:Co):Say.run true m (cl [.iff (bl [(.many true (tl [T,T]),A)] (some B))]) c=Say.run true m (cl [.iff (bl [(T,A)] (some B))]) c:=by
 obtain⟨g,p,e⟩:=h;rw[aCY,aCY];have:holds true m (.many true (tl [T,T])) c=holds true m T c:=by
  simp only[holds,tl,lT,e,aJ3];cases g
  ·simp
  ·simp[Option.or_self]
 rw[this]
end
theorem turned_law{m:Msg}{t a b pre:aJ}{rx ra rb:List aJ×Tree}(hx:dX (tx0 t)=.ok rx)(h3:nl (pI rx)=3)(h4:pI rx=pre++[123,10,125,10])(ha:dX (fE++a)=.ok ra)(hb:dX (fE++b)=.ok rb)
  (one:(rn (tx1 t a b) m).2.2=true) (two:(rn (tx2 t b a) m).2.2=true):
  rn (tx2 t b a) m=rn (tx1 t a b) m∧((rn (tx3 t a b) m).2.2=true→(∀y∈t,y≠36)→rn (tx3 t a b) m=rn (tx1 t a b) m)∧((rn (tx4 t a b) m).2.2=true→rn (tx4 t a b) m=rn (tx1 t a b) m):=by
 have good:∀ {s:aJ},(rn s m).2.2=true→s.length≤600∧∃r,dX s=.ok r:=by
  intro s h;unfold rn at h;split at h
  ·cases h
  ·split at h
   ·cases h
   ·rename_i r hr;exact⟨by omega,r,hr⟩
 obtain⟨wt,T,rt,gt,gp⟩:=aMG hx h3 h4;obtain⟨wa,rda,ga⟩:=aAG ha;obtain⟨wb,rdb,gb⟩:=aAG hb;obtain⟨l1,r1,p1⟩:=good one;obtain⟨l2,r2,p2⟩:=good two;have R1:=bCW (t:=t) (a:=a) (b:=b) rt rda rdb;have R2:=bCX (t:=t) (a:=b) (b:=a) rt rdb rda;have R3:=bCY (t:=t) (a:=a) (b:=b) rt rda rdb;have R4:=bCZ (t:=t) (a:=a) (b:=b) rt rda rdb;have gt7:=wR gt;have e1:wdT tI=hwT++[wNm txIf]:=by decide
 have e2:wdT tN=hwT++[wNm txIf,wNm rY]:=by decide
 have e3:wdT tA=hwT++[wNm txIf,wNm lQ,wSg 40]:=by decide
 have e4:wdT tO=hwT++[wNm txIf,wNm lR,wSg 40]:=by decide
 have eM:wdT tM=[wSg 123]:=by decide
 have eC:wdT tC=[wSg 44]:=by decide
 have eP:wdT tP=[wSg 41,wSg 123]:=by decide
 have ga:fK ns4 7 wa (dF ra.2):=by
  rcases ga with ⟨w,rfl⟩|h
  ·exfalso
   refine aT6 (ux:=wt) (rest:=w++(wdT tE++(wb++wdT tZ))) (T:=T) p1 (P:=fun _=>True) ?_ trivial gt7
   have:wdT tI++(wt++(wdT tM++wtwo tE (wNm d6::w) wb))=hwT++(wNm txIf::(wt++(wSg 123::(wNm d6::(w++(wdT tE++(wb++wdT tZ))))))):=by
    rw[e1,eM];simp[wtwo]
   rw[←this];exact R1
  ·exact h
 have gb:fK ns4 7 wb (dF rb.2):=by
  rcases gb with ⟨w,rfl⟩|h
  ·exfalso
   refine aT6 (ux:=wNm rY::wt) (rest:=w++(wdT tE++(wa++wdT tZ))) (T:=.not_ T) p2 (P:=fun _=>True) ?_ trivial (GTest.not_ 6 wt T gt)
   have:wdT tN++(wt++(wdT tM++wtwo tE (wNm d6::w) wa))=hwT++(wNm txIf::((wNm rY::wt)++(wSg 123::(wNm d6::(w++(wdT tE++(wa++wdT tZ))))))):=by
    rw[e2,eM];simp[wtwo]
   rw[←this];exact R2
  ·exact h
 generalize dF ra.2=A at ga
 generalize dF rb.2=B at gb
 have w1 := rV (P := fun _ => True) (v := wNm txIf :: (wt ++ (wdT tM ++ wtwo tE wa wb))) p1 (by
  have:wdT tI++(wt++(wdT tM++wtwo tE wa wb))=hwT++(wNm txIf::(wt++(wdT tM++wtwo tE wa wb))):=by rw[e1];simp
  rw[←this];exact R1) trivial (aGK gt7 ga gb)
 have w2 := rV (P := fun _ => True) (v := wNm txIf :: ((wNm rY :: wt) ++ (wdT tM ++ wtwo tE wb wa))) p2 (by
  have:wdT tN++(wt++(wdT tM++wtwo tE wb wa))=hwT++(wNm txIf::((wNm rY::wt)++(wdT tM++wtwo tE wb wa))):=by rw[e2];simp
  rw[←this];exact R2) trivial (aGK (GTest.not_ 6 wt T gt) gb ga)
 have v1:rn (tx1 t a b) m=vo (Say.run true m (cl [.iff (bl [(T,A)] (some B))]) start):=by rw[xK p1 l1 w1.1,w1.2]
 refine⟨?_,fun h hd=>?_,fun h=>?_⟩
 ·rw[v1,xK p2 l2 w2.1,w2.2,aX7]
 ·obtain⟨l3,r3,p3⟩:=good h;have gm:GTest ns4 7 (wNm lQ::wSg 40::(wt++(wSg 44::(wt++[wSg 41])))) (.many true (tl [T,T])):=by
   have:=GTest.many 6 true wt T [(wt,T)] gt (by simpa using gt)
   simpa[tl,Tree.snocT]using this
  have w3 := rV (P := fun _ => True) (v := wNm txIf :: ((wNm lQ :: wSg 40 :: (wt ++ (wSg 44 :: (wt ++ [wSg 41])))) ++ (wdT tM ++ wtwo tE wa wb))) p3 (by
   have:wdT tA++(wt++(wdT tC++(wt++(wdT tP++wtwo tE wa wb))))=hwT++(wNm txIf::((wNm lQ::wSg 40::(wt++(wSg 44::(wt++[wSg 41]))))++(wdT tM++wtwo tE wa wb))):=by
    rw[e3,eC,eP,eM];simp
   rw[←this];exact R3) trivial (aGK gm ga gb)
  rw[v1,xK p3 l3 w3.1,w3.2,aX5 (aQI gt (gp hd))]
 ·obtain⟨l4,r4,p4⟩:=good h;have gm:GTest ns4 7 (wNm lR::wSg 40::(wt++[wSg 41])) (.many false (tl [T])):=by
   have:=GTest.many 6 false wt T [] gt (by simp)
   simpa[tl]using this
  have w4 := rV (P := fun _ => True) (v := wNm txIf :: ((wNm lR :: wSg 40 :: (wt ++ [wSg 41])) ++ (wdT tM ++ wtwo tF wa wb))) p4 (by
   have:wdT tO++(wt++(wdT tP++wtwo tF wa wb))=hwT++(wNm txIf::((wNm lR::wSg 40::(wt++[wSg 41]))++(wdT tM++wtwo tF wa wb))):=by
    rw[e4,eP,eM];simp
   rw[←this];exact R4) trivial (aTJ (n:=6) gm ga gb)
  rw[v1,xK p4 l4 w4.1,w4.2,aX6]
end Go.Say
end
section
attribute [local irreducible] Go.SL.T Go.SL.OL Go.SL.D Go.SL.DL Go.SL.Ev Go.SL.Ef Go.SL.EfS
namespace Go.Proofs
open Go Go.SL Go.Syn Go.Mach Go.Cmp
def aZ9(t a b:aJ):Prop:=∃rx ra rb pre,dX (tx0 t)=.ok rx∧nl (pI rx)=3∧pI rx=pre++[123,10,125,10]∧dX (fE++a)=.ok ra∧dX (fE++b)=.ok rb
theorem aD8{E:Env}{fr:Fr}{K:Hl}{L:List Asn}{o:_}{u v:Value}(h:Ev E fr K L o u)(hb:u=v):Ev E fr K L o v:=hb▸h
theorem bBV(t:aJ):fE++[105,102,32]++t++[10,32,123,125]=tx0 t:=by simp[tx0]
theorem aZF{s:aJ}{i:Nat}{c:UInt8}(h:s[i]?=some c):nl (s.take (i+1))=nl (s.take i)+if c.toNat=10 then 1 else 0:=by
 have hi:i < s.length:=by
  rcases Nat.lt_or_ge i s.length with h'|h'
  ·exact h'
  ·rw[List.getElem?_eq_none h']at h;cases h
 have hc:s[i]=c:=by simpa[List.getElem?_eq_getElem hi]using h
 rw[List.take_succ_eq_append_getElem hi,hc,vK]
 congr 1
 unfold nl
 by_cases h10:c.toNat=10
 ·have:c=10:=UInt8.toNat_inj.1 h10;subst this;rfl
 ·rw[if_neg h10,List.count_eq_zero];intro hm;rw[List.mem_singleton]at hm;exact h10 (by rw[←hm];rfl)
theorem aEB:fE.length=56:=by decide
theorem aMF(t a b:aJ)(K:Hl)(hg:Glob K)(hE:ErrT K)(hs:t.length+a.length+b.length≤250):Sp Tryz.prog 33 [str fE,str t,str a,str b] K [] (Ret fun v K' L'=>∃ok:Bool,v=.bool ok∧L'=[]∧(ok=true→aZ9 t a b)):=by
 have hhl:=aEB;refine aZ Tryz.func33 rfl Tryz.ntmps33 rfl rfl fun F w=>?_
 refine zz8 ?_;refine aA (dY rfl rfl (by rw[hhl];simp)) rfl ?_;refine zz1 ?_;refine aA (dY rfl rfl (by rw[List.length_append,hhl];simp;omega)) rfl ?_;refine aA (aD8 (dY rfl rfl (by rw[List.length_append,List.length_append,hhl];simp;omega)) (congrArg str (bBV t))) rfl ?_;refine aX rfl rfl (mA (tx0 t) _ hg hE) .nil rfl ?_;rintro _ K1 _ ⟨x,rfl,hP1,rfl⟩ le1;refine zz13 ?_;refine aA (dY rfl rfl (by rw[hhl];omega)) rfl ?_;refine aX rfl rfl (mA (fE++a) _ (hg.mono le1) (hE.mono le1)) .nil rfl ?_;rintro _ K2 _ ⟨y,rfl,hP2,rfl⟩ le2;have le12:=Hl.le_trans le1 le2;refine zz13 ?_;refine aA (dY rfl rfl (by rw[hhl];omega)) rfl ?_;refine aX rfl rfl (mA (fE++b) _ (hg.mono le12) (hE.mono le12)) .nil rfl ?_;rintro _ K3 _ ⟨z,rfl,hP3,rfl⟩ le3;have le13:=Hl.le_trans le12 le3;refine zz9 ?_;rcases hP1 with ⟨b1,r1,hl1,hr1,rfl,hat1⟩|⟨rfl,_⟩;rcases hP2 with ⟨b2,r2,_,hr2,rfl,_⟩|⟨rfl,_⟩;rcases hP3 with ⟨b3,r3,_,hr3,rfl,_⟩|⟨rfl,_⟩
 ·
  refine zz25 ?_;refine aX rfl rfl (aVO b1 r1 _ (hg.mono le13) (aCN hr1 hl1) (hat1.mono (Hl.le_trans le2 le3))) .nil rfl ?_;rintro _ K5 _ ⟨rfl,rfl⟩ le5;have htl:=(aE8 (aCN hr1 hl1)).2.2;have le15:=Hl.le_trans le13 le5
  generalize hS:pI r1=S at*
  refine zz15 ?_;refine d8 (fun(i:Nat)=>i≤S.length) (fun i=>[(18,str S),(19,i64 (nl (S.take i))),(20,i64 i)]) (fun _=>K5) (fun _=>[]) (fun i=>S.length - i) 0 (Nat.zero_le _) (.cons 18 rfl (.cons 19 rfl (.cons 20 rfl .nil))) rfl (fun _ h=>h) ?_;intro i hi;have hnb:nl (S.take i)≤S.length:=Nat.le_trans List.count_le_length (by rw[List.length_take];omega);refine zz9 ?_;refine bH 62 rfl (fun h62=>?_) (fun h62=>?_)
  ·
   have hilt:i < S.length:=by omega
   obtain⟨c,hc⟩:∃c,S[i]?=some c:=⟨S[i]'hilt,List.getElem?_eq_getElem hilt⟩;refine zz8 ?_;refine aA (cZ Tryz.underlying9 rfl rfl rfl hc) rfl ?_;refine zz3 ?_;refine bH 68 rfl (fun h68=>?_) (fun h68=>?_)
   ·
    refine zz12 ?_;have hup:=aZF hc
    first|(rw[if_pos aH]at hup;exact cF (i+1) aH aH (.cons 18 rfl (.cons 19 (by rw[hup];rfl) (.cons 20 rfl .nil))) rfl (fun _ h=>h))|(rw[if_neg aH]at hup;exact cF (i+1) aH aH (.cons 18 rfl (.cons 19 (by rw[hup];rfl) (.cons 20 rfl .nil))) rfl (fun _ h=>h))
   ·
    refine zz8 ?_;have hup:=aZF hc
    first|(rw[if_pos aH]at hup;exact cF (i+1) aH aH (.cons 18 rfl (.cons 19 (by rw[hup];rfl) (.cons 20 rfl .nil))) rfl (fun _ h=>h))|(rw[if_neg aH]at hup;exact cF (i+1) aH aH (.cons 18 rfl (.cons 19 (by rw[hup];rfl) (.cons 20 rfl .nil))) rfl (fun _ h=>h))
  ·
   have hie:S.take i=S:=List.take_of_length_le aH;refine zz10 ?_;refine cE 73 rfl (fun g73=>?_) (fun g73=>?_)
   ·
    refine zz8 ?_;refine cE 78 rfl (fun g78=>?_) (fun g78=>?_)
    ·
     refine zz9 ?_;refine aA (iW (m:=S.length - 4) Tryz.underlying9 rfl rfl (by show ((S.length:Int) - 4)=_;omega) aH) rfl ?_;refine zz7 ?_;refine uAv ?_;refine bI rfl rfl le15 ?_
     first|exact⟨_,rfl,false,rfl,rfl,fun h=>by cases h⟩|exact⟨_,rfl,_,rfl,rfl,fun h=>⟨r1,r2,r3,S.take (S.length - 4),hr1,by rw[hS,←hie];omega,by rw[hS];have:=of_decide_eq_true h;rw[←this,List.take_append_drop],hr2,hr3⟩⟩
    ·
     refine zz11 ?_;refine uAv ?_;refine bI rfl rfl le15 ?_
     first|exact⟨_,rfl,false,rfl,rfl,fun h=>by cases h⟩|exact⟨_,rfl,_,rfl,rfl,fun h=>⟨r1,r2,r3,S.take (S.length - 4),hr1,by rw[hS,←hie];omega,by rw[hS];have:=of_decide_eq_true h;rw[←this,List.take_append_drop],hr2,hr3⟩⟩
   ·
    refine zz16 ?_;refine uAv ?_;refine bI rfl rfl le15 ?_
    first|exact⟨_,rfl,false,rfl,rfl,fun h=>by cases h⟩|exact⟨_,rfl,_,rfl,rfl,fun h=>⟨r1,r2,r3,S.take (S.length - 4),hr1,by rw[hS,←hie];omega,by rw[hS];have:=of_decide_eq_true h;rw[←this,List.take_append_drop],hr2,hr3⟩⟩
 ·
  refine zz27 ?_;refine uAv ?_;refine bI rfl rfl le13 ?_;exact⟨_,rfl,false,rfl,rfl,fun h=>by cases h⟩
 ·
  refine zz25 ?_;refine uAv ?_;refine bI rfl rfl le13 ?_;exact⟨_,rfl,false,rfl,rfl,fun h=>by cases h⟩
 ·
  refine zz23 ?_;refine uAv ?_;refine bI rfl rfl le13 ?_;exact⟨_,rfl,false,rfl,rfl,fun h=>by cases h⟩
end Go.Proofs
end
section
attribute [local irreducible] Go.SL.T Go.SL.OL Go.SL.D Go.SL.DL Go.SL.Ev Go.SL.Ef Go.SL.EfS
namespace Go.Proofs
open Go Go.SL Go.Syn Go.Mach Go.Cmp
theorem bBW(t a b:aJ):fE++[105,102,32]++(t++[10])++[32,123]++(a++[10])++[125,32,101,108,115,101,32,123]++(b++[10])++[125]=tx1 t a b:=by
 have e1:rend tI []=fE++[105,102]:=by decide
 have e2:rend tM []=[10,32,123]:=by decide
 have e3:rend tE []=[10,125,32,101,108,115,101,32,123]:=by decide
 have e4:rend tZ []=[10,125]:=by decide
 simp[tx1,two,e1,e2,e3,e4]
theorem bBX(t a b:aJ):fE++[105,102,32,110,111,116,32]++(t++[10])++[32,123]++(a++[10])++[125,32,101,108,115,101,32,123]++(b++[10])++[125]=tx2 t a b:=by
 have e1:rend tN []=fE++[105,102,32,110,111,116]:=by decide
 have e2:rend tM []=[10,32,123]:=by decide
 have e3:rend tE []=[10,125,32,101,108,115,101,32,123]:=by decide
 have e4:rend tZ []=[10,125]:=by decide
 simp[tx2,two,e1,e2,e3,e4]
theorem bBY(t a b:aJ):fE++[105,102,32,97,108,108,111,102,32,40]++(t++[10])++[44,32]++(t++[10])++[41,32,123]++(a++[10])++[125,32,101,108,115,101,32,123]++(b++[10])++[125]=tx3 t a b:=by
 have e1:rend tA []=fE++[105,102,32,97,108,108,111,102,32,40]:=by decide
 have e2:rend tC []=[10,44]:=by decide
 have e5:rend tP []=[10,41,32,123]:=by decide
 have e3:rend tE []=[10,125,32,101,108,115,101,32,123]:=by decide
 have e4:rend tZ []=[10,125]:=by decide
 simp[tx3,two,e1,e2,e3,e4,e5]
theorem bBZ(t a b:aJ):fE++[105,102,32,97,110,121,111,102,32,40]++(t++[10])++[41,32,123]++(a++[10])++[125,32,101,108,115,105,102,32,102,97,108,115,101,32,123,115,116,111,112,59,125,32,101,108,115,101,32,123]++(b++[10])++[125]=tx4 t a b:=by
 have e1:rend tO []=fE++[105,102,32,97,110,121,111,102,32,40]:=by decide
 have e5:rend tP []=[10,41,32,123]:=by decide
 have e3:rend tF []=[10,125,32,101,108,115,105,102,32,102,97,108,115,101,32,123,115,116,111,112,59,125,32,101,108,115,101,32,123]:=by decide
 have e4:rend tZ []=[10,125]:=by decide
 simp[tx4,two,e1,e3,e4,e5]
theorem aMK{s:aJ}{m:Msg}(hm:MsgOk m):(rn s m).1.length≤1000000:=by
 unfold rn;split
 ·simp
 ·split
  ·simp
  ·rename_i r hr;have:=aU3 (nm:=decide (dD∈r.1)) hm (bAO hr aH).1
   show (sayC r m).acts.length≤_
   unfold sayC;omega
def Dol(t:aJ)(i:Nat):Prop:=∃(j:Nat) (c:UInt8),i≤j∧t[j]?=some c∧c.toNat=36
theorem bAG{t:aJ}(h:¬ ∀y∈t,y≠36):Dol (t++[10]) 0:=by
 have:∃y,y∈t∧y=36:=Classical.byContradiction fun hn=>h fun y hy e=>hn ⟨y,hy,e⟩
 obtain⟨y,hy,rfl⟩:=this;obtain⟨j,hj⟩:=List.mem_iff_getElem?.1 hy;have hl:j < t.length:=by
  rcases Nat.lt_or_ge j t.length with h'|h'
  ·exact h'
  ·rw[List.getElem?_eq_none h']at hj;cases hj
 exact⟨j,36,Nat.zero_le _,by rw[List.getElem?_append_left hl];exact hj,rfl⟩
theorem aIG{E:Env}{fr:Fr}{K:Hl}{L:List Asn}{o:_}{b c:Bool}(h:Ev E fr K L o (.bool b))(hb:b=c):Ev E fr K L o (.bool c):=hb▸h
theorem aID{t:aJ}{i:Nat}{c:UInt8}(hc:t[i]?=some c)(h:false=true∨Dol t i):decide ((c.toNat:Int)=36)=true∨Dol t (i+1):=by
 rcases h with h|⟨j,d,h1,h2,h3⟩
 ·cases h
 ·by_cases hj:j=i
  ·subst hj;rw[hc]at h2;cases h2
   exact .inl (decide_eq_true aH)
  ·exact .inr ⟨j,d,by omega,h2,h3⟩
theorem aWY{t:aJ}{i:Nat}{y:Bool}(hi:t.length≤i)(h:y=true∨Dol t i):y=true:=by
 rcases h with h|⟨j,d,h1,h2,h3⟩
 ·exact h
 ·rw[List.getElem?_eq_none aH]at h2;cases h2
theorem aHO(t a b:aJ)(m:Msg)(hv:Value)(K:Hl)(hg:Glob K)(hE:ErrT K)(hh:Ksl hdEl K hv m.hs)(hz:MsgSz m)(ht:t.length≤140737488355328)(ha':a.length≤140737488355328)(hb':b.length≤140737488355328):Sp Tryz.prog 13 [str t,str a,str b,msgV m hv] K [] (Ret fun v K' L'=>v=.bool true):=by
 have hh0:=hh;have hhl:=aEB;obtain⟨ha,hn,hc,rfl⟩:=hh.isSlice;refine aZ Tryz.func13 rfl Tryz.ntmps13 rfl rfl fun F w=>?_
 refine zz3 ?_;rintro _ K _ ⟨b7,rfl,rfl,rfl⟩ -;refine zz5 ?_;refine aX rfl rfl (aQQ _ hg hE) .nil rfl ?_;rintro _ K1 _ ⟨rfl,rfl⟩ le1;refine zz6 ?_;refine aX rfl rfl (aJ5 m (.slice ha hn hc) _ (hh0.mono le1) hz) .nil rfl ?_;rintro _ K1 _ ⟨sb,rfl,hsb,rfl,rfl⟩ -;refine zz12 ?_;refine aA gBO rfl ?_;refine zz3 ?_;refine d9 37 rfl (fun h37=>?_) (fun h37=>?_)
 ·
  have le9:=le1;refine zz8 ?_;refine uAv ?_;refine bI rfl rfl le9 ?_;exact⟨_,rfl,rfl⟩
 ·
  have hm:MsgOk m:=hsb (by simpa using h37);refine zz16 ?_;refine bH 47 rfl (fun h47=>?_) (fun h47=>?_)
  ·
   have le9:=le1;refine zz7 ?_;refine uAv ?_;refine bI rfl rfl le9 ?_;exact⟨_,rfl,rfl⟩
  ·
   have hs:t.length+a.length+b.length≤250:=aH;refine zz4 ?_;refine aA (aD8 (v:=str fE) (aF rfl) (by rfl)) rfl ?_;refine zz8 ?_;refine aX rfl rfl (aMF t a b _ (hg.mono le1) (hE.mono le1) hs) .nil rfl ?_;rintro _ K2 _ ⟨pb,rfl,rfl,hpb⟩ le2;have le12:=Hl.le_trans le1 le2;refine zz7 ?_;refine aA gBO rfl ?_;refine zz2 ?_;refine d9 54 rfl (fun h54=>?_) (fun h54=>?_)
   ·
    have le9:=le12;refine zz7 ?_;refine uAv ?_;refine bI rfl rfl le9 ?_;exact⟨_,rfl,rfl⟩
   ·
    obtain⟨rx,ra,rb,pre,px,hnl,hpre,pa,pb2⟩:=hpb (by simpa using h54);refine zz5 ?_;refine aA (dY rfl rfl gBW) rfl ?_;refine zz6 ?_;refine aA (dY rfl rfl gBW) rfl ?_;refine zz6 ?_;refine aA (dY rfl rfl gBW) rfl ?_;refine zz6 ?_;refine aA (dY rfl rfl gBL) rfl ?_;refine zz1 ?_;refine aA (dY rfl rfl gBL) rfl ?_;refine aA (dY rfl rfl gBL) rfl ?_;refine zz1 ?_;refine aA (dY rfl rfl gBL) rfl ?_;refine aA (dY rfl rfl gBL) rfl ?_;refine zz1 ?_;refine aA (dY rfl rfl gBL) rfl ?_;refine aA (aD8 (dY rfl rfl gBL) (congrArg str (bBW t a b))) rfl ?_;refine zz1 ?_;refine aX rfl rfl (oQ (tx1 t a b) m (.slice ha hn hc) _ (hg.mono le12) (hE.mono le12) (hh0.mono le12) hm) .nil rfl ?_;rintro _ K3 _ ⟨v1,rfl,rfl⟩ le3;have le13:=Hl.le_trans le12 le3;refine zz12 ?_;refine aA (dY rfl rfl gBL) rfl ?_;refine zz1 ?_;refine aA (dY rfl rfl gBL) rfl ?_;refine aA (dY rfl rfl gBL) rfl ?_;refine zz1 ?_;refine aA (dY rfl rfl gBL) rfl ?_;refine aA (dY rfl rfl gBL) rfl ?_;refine zz1 ?_;refine aA (dY rfl rfl gBL) rfl ?_;refine aA (aD8 (dY rfl rfl gBL) (congrArg str (bBX t b a))) rfl ?_;refine zz1 ?_;refine aX rfl rfl (oQ (tx2 t b a) m (.slice ha hn hc) _ (hg.mono le13) (hE.mono le13) (hh0.mono le13) hm) .nil rfl ?_;rintro _ K4 _ ⟨v2,rfl,rfl⟩ le4;have le14:=Hl.le_trans le13 le4;refine zz9 ?_;rcases Bool.eq_false_or_eq_true (rn (tx1 t a b) m).2.2 with hO|hO;rcases Bool.eq_false_or_eq_true (rn (tx2 t b a) m).2.2 with hW|hW
    ·
     have hL:=Say.turned_law px hnl hpre pa pb2 hO hW;have hal:=aMK (s:=tx1 t a b) hm;rw[hL.1];refine zz3 ?_;refine aA (aIG (c:=true) (aC rfl) hO) rfl ?_;refine zz3 ?_;refine aA (aIG (c:=true) (aC rfl) hO) rfl ?_;refine zz11 ?_;refine aA (dY rfl rfl gBL) rfl ?_;refine zz1 ?_;refine aA (dY rfl rfl gBL) rfl ?_;refine aA (dY rfl rfl gBL) rfl ?_;refine zz1 ?_;refine aA (dY rfl rfl gBL) rfl ?_;refine aA (dY rfl rfl gBL) rfl ?_;refine zz1 ?_;refine aA (dY rfl rfl gBL) rfl ?_;refine aA (dY rfl rfl gBL) rfl ?_;refine zz1 ?_;refine aA (dY rfl rfl gBL) rfl ?_;refine aA (aD8 (dY rfl rfl gBL) (congrArg str (bBY t a b))) rfl ?_;refine zz1 ?_;refine aX rfl rfl (oQ (tx3 t a b) m (.slice ha hn hc) _ (hg.mono le14) (hE.mono le14) (hh0.mono le14) hm) .nil rfl ?_;rintro _ K5 _ ⟨v3,rfl,rfl⟩ le5;have le15:=Hl.le_trans le14 le5;refine zz12 ?_;refine aA (dY rfl rfl gBL) rfl ?_;refine zz1 ?_;refine aA (dY rfl rfl gBL) rfl ?_;refine aA (dY rfl rfl gBL) rfl ?_;refine zz1 ?_;refine aA (dY rfl rfl gBL) rfl ?_;refine aA (dY rfl rfl gBL) rfl ?_;refine zz1 ?_;refine aA (dY rfl rfl gBL) rfl ?_;refine aA (aD8 (dY rfl rfl gBL) (congrArg str (bBZ t a b))) rfl ?_;refine zz1 ?_;refine aX rfl rfl (oQ (tx4 t a b) m (.slice ha hn hc) _ (hg.mono le15) (hE.mono le15) (hh0.mono le15) hm) .nil rfl ?_;rintro _ K6 _ ⟨v4,rfl,rfl⟩ le6;have le9:=Hl.le_trans le15 le6;have hal3:=aMK (s:=tx3 t a b) hm;have hal4:=aMK (s:=tx4 t a b) hm;have hD:(rn (tx3 t a b) m).2.2=true→rn (tx3 t a b) m=rn (tx1 t a b) m∨Dol (t++[10]) 0:=fun h3=>(Classical.em (∀y∈t,y≠36)).elim (fun hd=>.inl (hL.2.1 h3 hd)) (fun hd=>.inr (bAG hd))
     have hL4:=hL.2.2;clear hL
     generalize rn (tx1 t a b) m=R at*
     refine zz13 ?_;refine aX rfl rfl (vM v1 v2 R.1 R.1 _ hal hal) (.cons (.there (.there (.there .here))) (.cons (.there (.there .here)) .nil)) rfl ?_;rintro _ K6 _ ⟨rfl,rfl,rfl⟩ -;rw[decide_eq_true (rfl:R.1=R.1)];refine zz3 ?_;refine gL (fun(y:Bool)=>y=true∨Dol (t++[10]) 0) (fun y=>[(0,str (t++[10])),(13,v1),(14,i64 R.2.1),(17,i64 R.2.1),(22,v4),(23,i64 (rn (tx4 t a b) m).2.1),(24,.bool (rn (tx4 t a b) m).2.2),(25,.bool true),(26,.bool y)]) (fun _=>K6) (fun _=>[sl true dL v1 R.1,sl true dL v4 (rn (tx4 t a b) m).1]) ?_ ?_
     ·
      refine zz2 ?_;refine aA gBO rfl ?_;refine zz1 ?_;refine lH 143 rfl (fun g143=>?_) (fun g143=>?_)
      ·
       refine zz11 ?_
       first|(refine aO (.cons .here (.cons (.there .here) .nil)) ?_;exact bS true (.inl rfl) (.cons 0 rfl (.cons 13 rfl (.cons 14 rfl (.cons 17 rfl (.cons 22 rfl (.cons 23 rfl (.cons 24 rfl (.cons 25 rfl (.cons 26 rfl .nil))))))))) rfl (fun _ h=>h))|(refine aO (.cons .here (.cons (.there (.there .here)) .nil)) ?_;exact bS (decide (R.2.1=(rn (tx3 t a b) m).2.1)) ((hD gC0).elim (fun e=>.inl (by rw[e];exact decide_eq_true rfl)) .inr) (.cons 0 rfl (.cons 13 rfl (.cons 14 rfl (.cons 17 rfl (.cons 22 rfl (.cons 23 rfl (.cons 24 rfl (.cons 25 rfl (.cons 26 rfl .nil))))))))) rfl (fun _ h=>h))|(refine aO (.cons .here (.cons (.there (.there .here)) .nil)) ?_;exact bS false ((hD gC0).elim (fun e=>absurd (by rw[e]) g147) .inr) (.cons 0 rfl (.cons 13 rfl (.cons 14 rfl (.cons 17 rfl (.cons 22 rfl (.cons 23 rfl (.cons 24 rfl (.cons 25 rfl (.cons 26 rfl .nil))))))))) rfl (fun _ h=>h))
      ·
       refine zz5 ?_;refine aX rfl rfl (vM v1 v3 R.1 (rn (tx3 t a b) m).1 _ hal hal3) (.cons .here (.cons (.there (.there .here)) .nil)) rfl ?_;rintro _ K6 _ ⟨rfl,rfl,rfl⟩ -;refine zz2 ?_;refine cE 147 rfl (fun g147=>?_) (fun g147=>?_)
       ·
        refine zz11 ?_
        first|(refine aO (.cons .here (.cons (.there .here) .nil)) ?_;exact bS true (.inl rfl) (.cons 0 rfl (.cons 13 rfl (.cons 14 rfl (.cons 17 rfl (.cons 22 rfl (.cons 23 rfl (.cons 24 rfl (.cons 25 rfl (.cons 26 rfl .nil))))))))) rfl (fun _ h=>h))|(refine aO (.cons .here (.cons (.there (.there .here)) .nil)) ?_;exact bS (decide (R.2.1=(rn (tx3 t a b) m).2.1)) ((hD gC0).elim (fun e=>.inl (by rw[e];exact decide_eq_true rfl)) .inr) (.cons 0 rfl (.cons 13 rfl (.cons 14 rfl (.cons 17 rfl (.cons 22 rfl (.cons 23 rfl (.cons 24 rfl (.cons 25 rfl (.cons 26 rfl .nil))))))))) rfl (fun _ h=>h))|(refine aO (.cons .here (.cons (.there (.there .here)) .nil)) ?_;exact bS false ((hD gC0).elim (fun e=>absurd (by rw[e]) g147) .inr) (.cons 0 rfl (.cons 13 rfl (.cons 14 rfl (.cons 17 rfl (.cons 22 rfl (.cons 23 rfl (.cons 24 rfl (.cons 25 rfl (.cons 26 rfl .nil))))))))) rfl (fun _ h=>h))
       ·
        refine zz8 ?_
        first|(refine aO (.cons .here (.cons (.there .here) .nil)) ?_;exact bS true (.inl rfl) (.cons 0 rfl (.cons 13 rfl (.cons 14 rfl (.cons 17 rfl (.cons 22 rfl (.cons 23 rfl (.cons 24 rfl (.cons 25 rfl (.cons 26 rfl .nil))))))))) rfl (fun _ h=>h))|(refine aO (.cons .here (.cons (.there (.there .here)) .nil)) ?_;exact bS (decide (R.2.1=(rn (tx3 t a b) m).2.1)) ((hD gC0).elim (fun e=>.inl (by rw[e];exact decide_eq_true rfl)) .inr) (.cons 0 rfl (.cons 13 rfl (.cons 14 rfl (.cons 17 rfl (.cons 22 rfl (.cons 23 rfl (.cons 24 rfl (.cons 25 rfl (.cons 26 rfl .nil))))))))) rfl (fun _ h=>h))|(refine aO (.cons .here (.cons (.there (.there .here)) .nil)) ?_;exact bS false ((hD gC0).elim (fun e=>absurd (by rw[e]) g147) .inr) (.cons 0 rfl (.cons 13 rfl (.cons 14 rfl (.cons 17 rfl (.cons 22 rfl (.cons 23 rfl (.cons 24 rfl (.cons 25 rfl (.cons 26 rfl .nil))))))))) rfl (fun _ h=>h))
     ·
      intro y hy;refine zz7 ?_;refine xP (fun(i:Nat) (y2:Bool)=>i≤(t++[10]).length∧(y2=true∨Dol (t++[10]) i)) (fun i y2=>[(0,str (t++[10])),(13,v1),(14,i64 R.2.1),(17,i64 R.2.1),(22,v4),(23,i64 (rn (tx4 t a b) m).2.1),(24,.bool (rn (tx4 t a b) m).2.2),(25,.bool true),(26,.bool y2),(27,i64 i)]) (fun _ _=>K6) (fun _ _=>[sl true dL v1 R.1,sl true dL v4 (rn (tx4 t a b) m).1]) (fun i _=>(t++[10]).length - i) 0 y ⟨Nat.zero_le _,hy⟩ (.cons 0 rfl (.cons 13 rfl (.cons 14 rfl (.cons 17 rfl (.cons 22 rfl (.cons 23 rfl (.cons 24 rfl (.cons 25 rfl (.cons 26 rfl (.cons 27 rfl .nil)))))))))) rfl (fun _ h=>h) ?_;intro i y2 ⟨hi,hy2⟩;have htl:(t++[10]).length≤251:=by simp;omega
      refine zz9 ?_;refine bH 156 rfl (fun h156=>?_) (fun h156=>?_)
      ·
       have hilt:i < (t++[10]).length:=by omega
       obtain⟨c,hc⟩:∃c,(t++[10])[i]?=some c:=⟨(t++[10])[i]'hilt,List.getElem?_eq_getElem hilt⟩;refine zz7 ?_;refine lH 160 rfl (fun g160=>?_) (fun g160=>?_)
       ·
        refine zz14 ?_
        first|exact dK (i+1) true ⟨by omega,.inl rfl⟩ aH (.cons 0 rfl (.cons 13 rfl (.cons 14 rfl (.cons 17 rfl (.cons 22 rfl (.cons 23 rfl (.cons 24 rfl (.cons 25 rfl (.cons 26 rfl (.cons 27 rfl .nil)))))))))) rfl (fun _ h=>h)|exact dK (i+1) (decide ((c.toNat:Int)=36)) ⟨by omega,aID hc hy2⟩ aH (.cons 0 rfl (.cons 13 rfl (.cons 14 rfl (.cons 17 rfl (.cons 22 rfl (.cons 23 rfl (.cons 24 rfl (.cons 25 rfl (.cons 26 rfl (.cons 27 rfl .nil)))))))))) rfl (fun _ h=>h)
       ·
        subst g160;refine zz5 ?_;refine aA (cZ Tryz.underlying9 rfl rfl rfl hc) rfl ?_;refine zz12 ?_
        first|exact dK (i+1) true ⟨by omega,.inl rfl⟩ aH (.cons 0 rfl (.cons 13 rfl (.cons 14 rfl (.cons 17 rfl (.cons 22 rfl (.cons 23 rfl (.cons 24 rfl (.cons 25 rfl (.cons 26 rfl (.cons 27 rfl .nil)))))))))) rfl (fun _ h=>h)|exact dK (i+1) (decide ((c.toNat:Int)=36)) ⟨by omega,aID hc hy2⟩ aH (.cons 0 rfl (.cons 13 rfl (.cons 14 rfl (.cons 17 rfl (.cons 22 rfl (.cons 23 rfl (.cons 24 rfl (.cons 25 rfl (.cons 26 rfl (.cons 27 rfl .nil)))))))))) rfl (fun _ h=>h)
      ·
       have hy3:y2=true:=aWY aH hy2;subst hy3;refine zz8 ?_;refine aA gBO rfl ?_;refine zz1 ?_;refine lH 168 rfl (fun g168=>?_) (fun g168=>?_)
       ·
        refine zz21 ?_;refine aA (aAT rfl rfl rfl) rfl ?_;refine zz13 ?_;refine uAv ?_;refine bI rfl rfl le9 ?_;exact⟨_,rfl,rfl⟩
       ·
        rw[hL4 (by simpa using g168)];refine zz5 ?_;refine aX rfl rfl (vM v1 v4 R.1 R.1 _ hal hal) (.cons .here (.cons .here .nil)) rfl ?_;rintro _ K6 _ ⟨rfl,rfl,rfl⟩ -;rw[decide_eq_true (rfl:R.1=R.1)];refine zz7 ?_;refine aA (aAT rfl rfl rfl) rfl ?_;refine zz15 ?_;refine aA (aAT rfl rfl rfl) rfl ?_;refine zz13 ?_;refine uAv ?_;refine bI rfl rfl le9 ?_;exact⟨_,rfl,rfl⟩
    ·
     refine zz3 ?_;refine aA (aIG (c:=true) (aC rfl) hO) rfl ?_;refine zz3 ?_;refine aA (aIG (c:=false) (aC rfl) hW) rfl ?_;refine zz13 ?_;refine uAv ?_;refine bI rfl rfl le14 ?_;exact⟨_,rfl,rfl⟩
    ·
     refine zz3 ?_;refine aA (aIG (c:=false) (aC rfl) hO) rfl ?_;refine zz15 ?_;refine uAv ?_;refine bI rfl rfl le14 ?_;exact⟨_,rfl,rfl⟩
end Go.Proofs
end
section
set_option maxRecDepth 100000
namespace Go.Proofs
open Go Go.SL Go.Syn Go.Mach Go.ChangeShapes Go.WideShapes Go.RowKit
namespace TzRow
section
variable{H:Type}{enc:TypeId×Value→H}{W:World}{base:Nat}{sp:Nat→Bool}{held:Bool}
theorem aGM{n:Nat}{cs:List Value}{x:DataW H×List MemPlace}(h:DataW.trod enc Tryz.prog W base sp held n 9 cs=some x):∃l:aJ,cs=[str l]∧l.length∈x.1.weights Tryz.prog 9:=by
 obtain⟨l,h1,h2⟩:=aVZ Tryz.underlying9 h;exact⟨l,h1,by rw[h2];simp[DataW.weights]⟩
theorem bCC{n:Nat}{cs:List Value}{x:DataW H×List MemPlace}{M:List Nat}(h:DataW.trod enc Tryz.prog W base sp held n 25 cs=some x)(hM:∀k∈x.1.weights Tryz.prog 25,k∈M):∃a:aJ×aJ,cs=hdEl.enc a∧a.1.length∈M∧a.2.length∈M:=by
 obtain⟨m,hl,hf⟩:=aAK Tryz.underlying25 h;have c25:Tryz.prog.cellsOf 25=2:=by kernel_rfl
 have c9:Tryz.prog.cellsOf 9=1:=by kernel_rfl
 rw[c25]at hl
 match cs,hl,hf with
 | [c0,c1],_,hf=>
  obtain⟨y0,h0,w0⟩:=hf 0 _ rfl;obtain⟨y1,h1,w1⟩:=hf 1 _ rfl;dsimp only at h0 h1 w0 w1;rw[c9]at h0 h1;obtain⟨l0,e0,k0⟩:=aGM h0;obtain⟨l1,e1,k1⟩:=aGM h1;simp at e0 e1;subst e0 e1;exact⟨(l0,l1),rfl,hM _ (w0 _ k0),hM _ (w1 _ k1)⟩
theorem in_msg{v:Value}{d:DataW H}{p:List MemPlace}{M:List Nat}(hv:Value.okWide Tryz.prog W .any base 28 v)(h:DataW.Trod enc Tryz.prog W 0 sp held 28 v d p)(hM:∀k∈d.weights Tryz.prog 28,k∈M)(hB:∀k∈M,k≤reachBytes):
  ∃m hv,v=msgV m hv∧Ksl hdEl (hp W) hv m.hs∧MsgSz m:=by
 obtain⟨cs,rfl,hc⟩:=okWide_struct Tryz.underlying28 hv;obtain⟨n,hf⟩:=h;have c28:Tryz.prog.cellsOf 28=4:=by kernel_rfl
 have c9:Tryz.prog.cellsOf 9=1:=by kernel_rfl
 have c3:Tryz.prog.cellsOf 3=1:=by kernel_rfl
 have c26:Tryz.prog.cellsOf 26=1:=by kernel_rfl
 have b25:Tryz.prog.bytesOf 25=32:=by kernel_rfl
 obtain⟨m,hl,hf⟩:=aAK Tryz.underlying28 hf;rw[c28]at hc hl;obtain⟨l⟩:=cs;have hl':l.length=4:=hl
 match l,hl',hf with
 | [c0,c1,c2,c3'],_,hf=>
  obtain ⟨y0, h0, w0⟩ := hf 0 _ rfl;obtain ⟨y1, h1, w1⟩ := hf 1 _ rfl;obtain ⟨y2, h2, w2⟩ := hf 2 _ rfl;obtain ⟨y3, h3, w3⟩ := hf 3 _ rfl;dsimp only at h0 h1 h2 h3 w0 w1 w2 w3;rw [c9] at h0 h1;rw [c3] at h2;rw [c26] at h3;obtain ⟨l0, e0, k0⟩ := aGM h0;obtain ⟨l1, e1, k1⟩ := aGM h1;obtain ⟨i, e2, _⟩ := aVY Tryz.underlying3 h2;have h3' : DataW.trod enc Tryz.prog W 0 sp held m 26 [c3'] = some y3 := h3;obtain ⟨xs, ks, hG, hlen⟩ := bAV (k := hdEl) (G := fun a => a.1.length ≤ reachBytes ∧ a.2.length ≤ reachBytes) Tryz.underlying26 b0 (by decide) (fun n cs y hy hw => by
   obtain⟨a,ha,k1,k2⟩:=bCC (M:=y3.1.weights Tryz.prog 26) hy hw;exact⟨a,ha,hB _ (hM _ (w3 _ k1)),hB _ (hM _ (w3 _ k2))⟩) h3'
  simp[Value.cells]at e0 e1 e2;subst e0 e1 e2;have q0:=hB _ (hM _ (w0 _ k0));have q1:=hB _ (hM _ (w1 _ k1));refine⟨⟨l0,l1,i,xs⟩,c3',rfl,ks,?_⟩
  have hr:reachBytes=140737488351232:=rfl;rw[hr]at q0 q1 hG;refine⟨by show l0.length≤_;omega,by show l1.length≤_;omega,?_,fun a ha=>?_⟩
  ·show xs.length≤_
   rcases hlen with rfl|⟨k,hk,hk2⟩
   ·simp
   ·have:=hB _ (hM _ (w3 _ hk));rw[hr]at this;have e25:hdEl.e=25:=rfl;rw[e25,b25]at hk2;omega
  ·have:=hG a ha;exact⟨by omega,by omega⟩
end
end TzRow
end Go.Proofs
end

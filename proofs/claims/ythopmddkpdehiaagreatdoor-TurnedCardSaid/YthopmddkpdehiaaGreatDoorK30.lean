/-
  What the proof stands on, part 30: the logic of walks, the walks through the functions, the plain laws. Conditions: as each theorem says. (Merged and shortened by a program.)
-/
import Derived.Test.YthopmddkpdehiaaGreatDoorK28
import Derived.Test.YthopmddkpdehiaaGreatDoorK29
set_option linter.unusedVariables false
set_option linter.unusedSimpArgs false
set_option maxRecDepth 4000
set_option maxHeartbeats 1000000
section
namespace Go.Syn
theorem l5:∀(x y:List (aJ×Tk)) (e:aJ),rend (x++y) e=rend x (rend y e)
 | [],y,e=>rfl
 |a::x,y,e=>by simp only[List.cons_append,rend,l5 x y e]
def aLB(l:List aJ):List (aJ×Tk):=l.flatMap fun z=>[([],.sg 44),([32],.tx z)]
def oN(b:aJ):List aJ→List (aJ×Tk)
 | []=>[(b,.sg 91),([],.sg 93)]
 | [x]=>[(b,.tx x)]
 |x::y::r=>(b,.sg 91)::([],.tx x)::(aLB (y::r)++[([],.sg 93)])
def ws:Tree→Nat→Bool→aJ→List (aJ×Tk)
 | .const t,_,_,b=>[(b,.nm (if t=true then rZ else lT))]
 | .not_ t,d,_,b=>(b,.nm yH)::ws t d true [32]
 | .many all l,d,_,b=>(b,.nm (if all=true then nC else nD))::([32],.sg 40)::(ws l d true []++[([],.sg 41)])
 | .mat tag oct op x y,_,_,b=>(b,.nm (rV op))::((if oct=true then [([32],.tg lJ),([32],.tx gY)]else [])++((if tag=2 then [([32],.tg nT)]else if tag=3 then [([32],.tg lB)]else [])++(oN [32] x++oN [32] y)))
 | .exi x,_,_,b=>(b,.nm wI)::oN [32] x
 | .siz tag n,_,_,b=>[(b,.nm xY),([32],.tg (if tag=2 then mQ else uF)),([32],.nu n.toNat)]
 | .tnil,_,_,_=>[]
 | .tcons t l,d,f,b=>(if f=true then ws t d true b else ([],.sg 44)::ws t d true [32])++ws l d false []
 | .plain op,_,_,b=>[(b,.nm (if op=14 then mP else kS)),([],.sg 59)]
 | .act k a _,_,_,b=>if k=1 then [(b,.nm vG),([],.sg 59)]else [(b,.nm (if k=2 then fG else if k=3 then nU else eW)),([32],.tx a),([],.sg 59)]
 | .set_ n v tag,_,_,b=>(b,.nm aH6)::((if tag=1 then [([32],.tg mO)]else if tag=2 then [([32],.tg mR)]else if tag=3 then [([32],.tg kV)]else [])++[([32],.tx n),([32],.tx v),([],.sg 59)])
 | .iff bs,d,_,b=>ws bs d true b
 | .cnil,_,_,_=>[]
 | .ccons c l,d,_,b=>ws c d true (b++indC d)++ws l d true [10]
 | .bnil,_,_,_=>[]
 | .bcons t k l,d,f,b=>(if f=true then (b,.nm txIf)else ([32],.nm nE))::(ws t d true [32]++(([32],.sg 123)::(ws k (d+1) true [10]++((10::indC d,.sg 125)::ws l d false []))))
 | .belse k l,d,_,b=>([32],.nm mC)::([32],.sg 123)::(ws k (d+1) true [10]++((10::indC d,.sg 125)::ws l d false []))
theorem aN5:∀(t:Tree) (d:Nat) (f:Bool),prn (dJ t) d f=prn t d f:=by
 intro t;induction t with
 |iff bs ih=>intro d f;simp only[dJ,prn,ih]
 |ccons c l ih1 ih2=>intro d f;simp only[dJ,prn,ih1,ih2]
 |bcons t b l _ ih1 ih2=>intro d f;simp only[dJ,prn,ih1,ih2]
 |belse b l ih1 ih2=>intro d f;simp only[dJ,prn,ih1,ih2]
 |_=>intro d f;simp only[dJ,prn]
def tl:List Tree→Tree
 | []=>.tnil
 |x::r=>.tcons x (tl r)
def cl:List Tree→Tree
 | []=>.cnil
 |x::r=>.ccons x (cl r)
def bl:List (Tree×Tree)→Option Tree→Tree
 | [],none=>.bnil
 | [],some b=>.belse b .bnil
 |p::r,e=>.bcons p.1 p.2 (bl r e)
theorem aU1(x:Tree):∀l,(tl l).snocT x=tl (l++[x])
 | []=>rfl
 |y::l=>by simp only[tl,Tree.snocT,aU1 x l,List.cons_append]
theorem aU0(x:Tree):∀l,(cl l).snocC x=cl (l++[x])
 | []=>rfl
 |y::l=>by simp only[cl,Tree.snocC,aU0 x l,List.cons_append]
theorem aUX(t b:Tree):∀l,(bl l none).snocB (some t) b=bl (l++[(t,b)]) none
 | []=>rfl
 |y::l=>by simp only[bl,Tree.snocB,aUX t b l,List.cons_append]
theorem aUY(b:Tree):∀l,(bl l none).snocB none b=bl l (some b)
 | []=>rfl
 |y::l=>by simp only[bl,Tree.snocB,aUY b l]
theorem bHQ(us:List (List Wd×Tree)):∀l,us.foldl (fun l p=>l.snocT p.2) (tl l)=tl (l++us.map (·.2)):=by
 induction us with
 |nil=>intro l;simp
 |cons p us ih=>intro l;simp only[List.foldl_cons,aU1,ih,List.map_cons,List.append_assoc,List.singleton_append]
theorem aZW(us:List (List Wd×Tree)):∀l,us.foldl (fun l p=>l.snocC p.2) (cl l)=cl (l++us.map (·.2)):=by
 induction us with
 |nil=>intro l;simp
 |cons p us ih=>intro l;simp only[List.foldl_cons,aU0,ih,List.map_cons,List.append_assoc,List.singleton_append]
theorem bHP(us:List Br):∀l,us.foldl (fun l p=>l.snocB (some p.t) p.b) (bl l none)=bl (l++us.map fun p=>(p.t,p.b)) none:=by
 induction us with
 |nil=>intro l;simp
 |cons p us ih=>intro l;simp only[List.foldl_cons,aUX,ih,List.map_cons,List.append_assoc,List.singleton_append]
theorem aPO(l:List (Tree×Tree))(els:Option (List Wd×Tree)):endB (bl l none) els=.iff (bl l (els.map (·.2))):=by
 cases els with
 |none=>rfl
 |some p=>simp only[endB,aUY,Option.map_some]
structure WT (G:List Wd→Tree→Prop) (t:Tree):Prop where
 txt:∀d b e,rend (ws t d true b) e=b++(prn t d true++e)
 gd:∀d b r,b.all jQ=true→d8 r=true→jJ r=true→d8 (ws t d true b++r)=true
 cl:∀d b c r,jJ (ws t d true (c::b)++r)=true
 gr:∀d b,G ((ws t d true b).map fun x=>x.2.wd) t
section
variable{needs:List aJ}
structure WB (G:List Wd→Tree→Prop) (t:Tree):Prop where
 txt:∀d b e,b=[10]∨t≠.cnil→rend (ws t d true b) (10::e)=b++(prn t d true++e)
 gd:∀d b r,b.all jQ=true→d8 r=true→jJ r=true→d8 (ws t d true b++r)=true
 cl:∀d c b r,jJ r=true→jJ (ws t d true (c::b)++r)=true
 gr:∀d b,G ((ws t d true b).map fun x=>x.2.wd) t
end
theorem aZX{ns ns':List aJ}{u:List Wd}(h:GReq ns u ns'):(∀x∈ns,x∈rY)→ns.Nodup→(∀x∈ns',x∈rY)∧ns'.Nodup:=by
 induction h with
 |nil ns=>intro h1 h2;exact⟨h1,h2⟩
 |cons ns ns' u v l gl hl _ ih=>
  intro h1 h2;have:∀(l ns:List aJ),(∀x∈l,x∈rY)→(∀x∈ns,x∈rY)→ns.Nodup→(∀x∈gL ns l,x∈rY)∧(gL ns l).Nodup:=by
   intro l;induction l with
   |nil=>intro ns _ h1 h2;exact⟨h1,h2⟩
   |cons x l ih=>
    intro ns hl h1 h2;refine ih (addN ns x) (fun y hy=>hl y (by simp[hy])) ?_ ?_
    ·unfold addN;split
     ·exact h1
     intro y hy;rcases List.mem_append.1 hy with hy|hy
     ·exact h1 y hy
     rw[List.mem_singleton.1 hy];exact hl x (by simp)
    unfold addN;split
    ·exact h2
    rename_i hx;rw[List.nodup_append];exact⟨h2,by simp,fun a ha b hb=>by rw[List.mem_singleton.1 hb];exact fun e=>hx (e▸ha)⟩
  obtain⟨a,b⟩:=this l ns hl h1 h2;exact ih a b
theorem aS5{needs:List aJ}{n:Nat}{B:List Wd→Tree→Prop}{u:List Wd}{c:Tree}(h:GCmd needs n B u c):∃w r,u=wNm w::r∧w≠dY:=by
 cases h with
 |simple word c h=>rcases h with ⟨rfl,rfl⟩|⟨rfl,rfl⟩|⟨rfl,rfl⟩ <;> exact⟨_,_,rfl,by decide⟩
 |act word kind ext arg h _=>rcases h with ⟨rfl,_,_⟩|⟨rfl,_,_⟩|⟨rfl,_,_⟩ <;> exact⟨_,_,rfl,by decide⟩
 |set0=>exact⟨_,_,rfl,by decide⟩
 |set1=>exact⟨_,_,rfl,by decide⟩
 |iff=>exact⟨_,_,rfl,by decide⟩
theorem aCF{needs:List aJ}{n:Nat}{u:List Wd}{t:Tree}(h:fZ needs (n+1) u t):∀w r,u=w::r→w≠wNm dY:=by
 obtain⟨cs,hc,e,_⟩:=h;intro w r hw;cases cs with
 |nil=>rw[e]at hw;cases hw
 |cons p cs=>
  obtain⟨w',r',e1,e2⟩:=aS5 (hc p (by simp));rw[e,List.flatMap_cons,e1]at hw
  injection hw with h1 h2
  rw[←h1];intro h
  injection h with h3 h4
  injection h4 with h5
  exact e2 h5
end Go.Syn
end
section
namespace Go.Say
open Go.Syn Go.Mach Go.Cmp
def forget{α:Type}:Res α→Res α
 | .error e=>.error (e.1,0)
 | .ok r=>.ok r
section
variable(nm:Bool)(m:Msg)
theorem aV4(k:Int)(arg:aJ)(p:Int)(c:Co):act k arg 0 c=forget (act k arg p c):=by
 unfold act;split
 ·rfl
 split
 ·rfl
 unfold addX;split
 ·rfl
 split
 ·rfl
 split <;> rfl
theorem aGO:∀(t:Tree) (c:Co),Say.run nm m (dJ t) c=forget (Say.run nm m t c)∧cmd nm m (dJ t) c=forget (cmd nm m t c)∧brs nm m (dJ t) c=forget (brs nm m t c):=by
 intro t;induction t with
 |act k a p=>
  intro c;refine⟨rfl,?_,rfl⟩
  simp only[dJ,cmd];rw[aV4 k (yO nm k a c) p c];cases act k (yO nm k a c) p c <;> rfl
 |iff bs ih=>intro c;exact⟨rfl,by simp only[dJ,cmd];exact(ih c).2.2,rfl⟩
 |ccons x l ih1 ih2=>
  intro c;refine⟨?_,rfl,rfl⟩
  simp only[dJ,Say.run];rw[(ih1 c).2.1];cases cmd nm m x c with
  |error e=>rfl
  |ok r=>
   simp only[forget];split
   ·rfl
   exact(ih2 r.2).1
 |bcons t b l _ ih2 ih3=>
  intro c;refine⟨rfl,rfl,?_⟩
  simp only[dJ,brs];split
  ·exact(ih2 _).1
  exact(ih3 _).2.2
 |belse b l ih1 _=>intro c;exact⟨rfl,rfl,by simp only[dJ,brs];exact(ih1 c).1⟩
 |_=>
  intro c;refine⟨rfl,?_,rfl⟩
  simp only[dJ,cmd]
  try (split <;> rfl)
  try rfl
end
theorem aYG{s:aJ}{r:List aJ×Tree}{m:Msg}(h:eD s=.ok r)(hs:s.length≤600):(sayC r m).acts=(out (Say.run (decide (dB∈r.1)) m r.2 start)).1∧te (sayC r m).err=te (out (Say.run (decide (dB∈r.1)) m r.2 start)).2:=by
 have:=(aX0 (nm:=decide (dB∈r.1)) (m:=m) h hs).2;have h1:=congrArg Prod.fst this;have h2:=congrArg Prod.snd this;exact⟨h1,congrArg te h2⟩
end Go.Say
end

/-
  What the proof stands on, part 5: the logic of walks, the walks through the functions, the plain laws. Conditions: as each theorem says. (Merged and shortened by a program.)
-/
import Derived.Lib.ItoaNum
import Derived.Lib.AppendIntMem
import Derived.Laws.StructEq
import Derived.Lib.IndexMore
import Derived.Lib.IndexLaws
import Derived.Lib.IndexBytes
import Derived.Test.YthopmddkpdehiabGreatDoorK4
set_option linter.unusedVariables false
set_option linter.unusedSimpArgs false
set_option linter.defProp false
set_option maxRecDepth 4000
set_option maxHeartbeats 1000000
section
namespace Go.Mach
open Go.Syn
structure Ins where
 op:Int
 n:Int
 tag:Int
 oct:Bool
 a:List aP
 b:List aP
 at_:Int
structure Msg where
 from_:aP
 to_:aP
 size:Int
 hs:List (aP×aP)
abbrev gA:=Int×aP
structure MS where
 acts:List gA
 keep:Bool
 vars:List (aP×aP)
 parts:List aP
 stack:List Bool
 pc:Nat
def vget(vars:List (aP×aP))(k:aP):aP:=match vars with
 | []=>[]
 |(j,v)::r=>if j=k then v else vget r k
def vput(vars:List (aP×aP))(k v:aP):List (aP×aP):=match vars with
 | []=>[(k,v)]
 |(j,u)::r=>if j=k then (j,v)::r else (j,u)::vput r k v
def held(vars:List (aP×aP))(parts:List aP)(name:aP):aP×Bool:=
 match name with
 | [c]=>if gD c=true then ((parts[c.toNat - 48]?).getD [],true)else (vget vars (eD name),named name)
 |_=>(vget vars (eD name),named name)
def kR(vars:List (aP×aP))(parts:List aP):Nat→aP→aP→aP
 |0,s,acc=>acc++s
 |f+1,s,acc=>
  if s=[]then acc
  else if Lib.index s [36,123] < 0 then acc++s
  else
   let i:=(Lib.index s [36,123]).toNat
   let t:=s.drop i
   let e:=Lib.indexByte t 125
   let h:=held vars parts ((t.take (max e 2).toNat).drop 2)
   if 0 < e∧h.2=true then kR vars parts f (t.drop (e.toNat+1)) (acc++s.take i++h.1)
   else kR vars parts f (t.drop 1) (acc++s.take i++[36])
def dH(named:Bool)(vars:List (aP×aP))(parts:List aP)(s:aP):aP:=
 if named=true then (kR vars parts (s.length+1) s []).take 1024 else s
def iG(m:Msg)(name:aP):List aP:=(m.hs.filter fun h=>decide (eD h.1=name)).map (·.2)
def mE(m:Msg)(names:List aP):Bool:=names.all fun n=>decide (iG m (eD n)≠[])
def jL(m:Msg)(n:aP):List aP:=if eD n=[102,114,111,109]then [m.from_]else if eD n=[116,111]then [m.to_]else []
def jA(ex:aP→aP)(m:Msg)(o:Ins):List aP:=
 if o.op=8 then o.a.map ex
 else if o.op=6 then (o.a.map ex).flatMap fun n=>iG m (eD n)
 else if o.op=7 then o.a.flatMap (jL m)
 else []
def f7(oct:Bool)(s:aP):aP:=if oct=true then s else eD s
def kS{α:Type}(f:Nat→Option α):Nat→Nat→Option α
 |0,_=>none
 |n+1,e=>match f e with
  |some x=>some x
  |none=>kS f n (e+1)
def iY(w v k:aP):Nat→Nat→Nat→Option (List aP)
 |0,_,_=>none
 |f+1,i,j=>
  match k[j]? with
  |none=>if i=v.length then some []else none
  |some c=>
   if c.toNat=42 then kS (fun e=>(iY w v k f e (j+1)).map fun ps=>((w.take e).drop i)::ps) (v.length+1 - i) i
   else match v[i]? with
    |none=>none
    |some x=>
     if c.toNat=63 then (iY w v k f (i+1) (j+1)).map fun ps=>((w.take (i+1)).drop i)::ps
     else match (if c.toNat=92 then k[j+1]? else none)with
      |some d=>if x=d then iY w v k f (i+1) (j+2)else none
      |none=>if x=c then iY w v k f (i+1) (j+1)else none
def glob(w k:aP)(oct:Bool):Option (List aP):=iY w (f7 oct w) (f7 oct k) (k.length+1) 0 0
def iA(o:Ins)(v k:aP):Option (List aP):=
 if o.tag=1 then (if f7 o.oct v=f7 o.oct k then some []else none)
 else if o.tag=2 then (if 0≤Lib.index (f7 o.oct v) (f7 o.oct k)then some []else none)
 else glob v k o.oct
def oN{α β:Type}(f:α→Option β):List α→Option β
 | []=>none
 |x::l=>match f x with
  |some y=>some y
  |none=>oN f l
def iZ(o:Ins)(vs ks:List aP):Option (List aP):=
 oN (fun v=>oN (fun k=>(iA o v k).map fun ps=>v::ps) ks) vs
def rM(pc:Nat):Int×Int:=(12,pc)
def push(s:MS)(b:Bool):Res MS:=if s.stack.length < 8 then .ok {s with stack:=s.stack++[b]}else .error (rM s.pc)
def pop(s:MS):Res (Bool×MS):=match s.stack.getLast? with
 |some b=>.ok (b,{s with stack:=s.stack.dropLast})
 |none=>.error (rM s.pc)
def jump(s:MS)(by_:Int)(n:Nat)(yes:Bool):Res MS:=
 if 0≤by_∧by_ < (n:Int) - s.pc then .ok (if yes=true then {s with pc:=s.pc+by_.toNat}else s)else .error (rM s.pc)
def matchI(nm:Bool)(m:Msg)(o:Ins)(s:MS):Res MS:=
 if 1≤o.tag∧o.tag≤3∧s.stack.length < 8 then
  let ex:=dH nm s.vars s.parts
  match iZ o (jA ex m o) (o.b.map ex)with
  |some ps=>push (if o.tag=3∧nm=true then {s with parts:=ps}else s) true
  |none=>push s false
 else .error (rM s.pc)
def setI(nm:Bool)(o:Ins)(s:MS):Res MS:=
 if 0≤o.tag∧o.tag≤3 then
  match o.a,o.b with
  |a::_,b::_=>
   let v:=dH nm s.vars s.parts b
   let u:=if o.tag=1 then eD v else if o.tag=2 then rO v else if o.tag=3 then Lib.itoa v.length else v
   .ok {s with vars:=vput s.vars a (u.take 48)}
  |_,_=>.error (rM s.pc)
 else .error (rM s.pc)
def iH(c:UInt8):Bool:=(decide (97≤(c|||32).toNat)&&decide ((c|||32).toNat≤122))||(decide (48≤c.toNat)&&decide (c.toNat≤57))||decide (c.toNat=95)
def hZ(i:Nat)(c:UInt8):Bool:=iH c||decide (c.toNat=45)||(decide (c.toNat=46)&&decide (i≠0))
def sT(s:aP):Bool:=((List.range s.length).all fun i=>hZ i ((s[i]?).getD 0))&&decide (s≠[])&&decide (s.length≤16)
def fS(c:UInt8):Bool:=decide (c.toNat=32∨c.toNat=9∨c.toNat=13∨c.toNat=10)
def fM(s:aP):Bool:=
 match s.findIdx? (fun x=>decide (x=64))with
 |none=>false
 |some i=>decide (s.take i≠[])&&decide (s.drop (i+1)≠[])&&!(s.any fS)&&!((s.drop (i+1)).any fun c=>decide (c=64))&&decide (s.length≤32)
def actA(nm:Bool)(o:Ins)(s:MS):aP:=if o.tag=1 then []else dH nm s.vars s.parts ((o.a[0]?).getD [])
def actV(o:Ins)(arg:aP):gA:=(o.tag,if o.tag=4 then arg.take 48 else arg)
def actI(nm:Bool)(o:Ins)(s:MS):Res MS:=
 if o.tag=1∨(2≤o.tag∧o.tag≤4∧o.a≠[])then
  let arg:=actA nm o s
  if o.tag=2∧sT arg=false then .error (8,o.at_)
  else if o.tag=3∧fM arg=false then .error (9,o.at_)
  else
   let a:gA:=actV o arg
   if a∈s.acts then .ok {s with keep:=false}
   else if (∃b∈s.acts,a.1=4∨b.1=4)then .error (10,o.at_)
   else if s.acts.length=6 then .error (11,o.at_)
   else .ok {s with keep:=false,acts:=s.acts++[a]}
 else .error (rM s.pc)
def step(nm:Bool)(m:Msg)(n:Nat)(o:Ins)(s:MS):Res MS:=
 if o.op=1 then (if o.n=0∨o.n=1 then push s (decide (o.n=1))else .error (rM s.pc))
 else if o.op=2 then (match pop s with| .error e=>.error e| .ok r=>push r.2 (!r.1))
 else if o.op=3 then jump s o.n n true
 else if o.op=4 then (match pop s with| .error e=>.error e| .ok r=>jump r.2 o.n n r.1)
 else if o.op=5 then (match pop s with| .error e=>.error e| .ok r=>jump r.2 o.n n (!r.1))
 else if o.op=6∨o.op=7∨o.op=8 then matchI nm m o s
 else if o.op=9 then push s (mE m (o.a.map (dH nm s.vars s.parts)))
 else if o.op=10 then (if o.tag=1∨o.tag=2 then push s (decide (o.tag=1∧o.n < m.size∨o.tag=2∧m.size < o.n))else .error (rM s.pc))
 else if o.op=11 then actI nm o s
 else if o.op=12 then setI nm o s
 else if o.op=13 then .ok {s with keep:=false}
 else .error (rM s.pc)
structure Out where
 acts:List gA
 steps:Nat
 err:Option (Int×Int)
def loop(nm:Bool)(m:Msg)(code:List Ins):Nat→Nat→MS→Out
 |0,st,_=>⟨[],st,none⟩
 |f+1,st,s=>
  match code[s.pc]? with
  |none=>⟨if s.keep=true then s.acts++[(1,[])]else s.acts,st,none⟩
  |some o=>
   if o.op=14 then ⟨if s.keep=true then s.acts++[(1,[])]else s.acts,st+1,none⟩
   else match step nm m code.length o s with
    | .error e=>⟨[(1,[])],st+1,some e⟩
    | .ok t=>loop nm m code f (st+1) {t with pc:=t.pc+1}
def start:MS:=⟨[],true,[],[],[],0⟩
def run(nm:Bool)(code:List Ins)(m:Msg):Out:=
 if 400 < code.length then ⟨[(1,[])],0,some (12,400)⟩else loop nm m code (code.length+1) 0 start
def zC{s t:MS}{b:Bool}(h:push s b=.ok t):t.pc=s.pc:=by
 unfold push at h;split at h <;> cases h;rfl
def aHP{s:MS}{r:Bool×MS}(h:pop s=.ok r):r.2.pc=s.pc:=by
 unfold pop at h;split at h <;> cases h;rfl
def aMM{s t:MS}{by_:Int}{n:Nat}{yes:Bool}(h:jump s by_ n yes=.ok t)(hp:s.pc < n):s.pc≤t.pc∧t.pc < n:=by
 unfold jump at h;split at h
 ·cases h;split
  ·simp only[];omega
  exact⟨xAA _,hp⟩
 cases h
def aY3{nm:Bool}{m:Msg}{o:Ins}{s t:MS}(h:matchI nm m o s=.ok t):t.pc=s.pc:=by
 unfold matchI at h;split at h
 ·simp only[]at h;split at h
  ·have:=zC h;rw[this];split <;> rfl
  exact zC h
 cases h
def bJQ{nm:Bool}{o:Ins}{s t:MS}(h:setI nm o s=.ok t):t.pc=s.pc:=by
 unfold setI at h;split at h
 ·split at h
  ·cases h;rfl
  cases h
 cases h
def bHP{nm:Bool}{o:Ins}{s t:MS}(h:actI nm o s=.ok t):t.pc=s.pc:=by
 unfold actI at h;split at h
 ·simp only[]at h;split at h
  ·cases h
  split at h
  ·cases h
  split at h
  ·cases h;rfl
  split at h
  ·cases h
  split at h
  ·cases h
  cases h;rfl
 cases h
def aCS{nm:Bool}{m:Msg}{n:Nat}{o:Ins}{s t:MS}(h:step nm m n o s=.ok t)(hp:s.pc < n):s.pc≤t.pc∧t.pc < n:=by
 have key:t.pc=s.pc→s.pc≤t.pc∧t.pc < n:=fun e=>by rw[e];exact⟨xAA _,hp⟩
 unfold step at h
 by_cases h0:o.op=1
 ·rw[x7 h0]at h;split at h
  ·exact key (zC h)
  cases h
 rw[x5 h0]at h
 by_cases h1:o.op=2
 ·rw[x7 h1]at h;split at h
  ·cases h
  rename_i r hr;exact key ((zC h).trans (aHP hr))
 rw[x5 h1]at h
 by_cases h2:o.op=3
 ·rw[x7 h2]at h;exact aMM h hp
 rw[x5 h2]at h
 by_cases h3:o.op=4
 ·rw[x7 h3]at h;split at h
  ·cases h
  rename_i r hr;have e:=aHP hr;have:=aMM h (by rw[e];exact hp);omega
 rw[x5 h3]at h
 by_cases h4:o.op=5
 ·rw[x7 h4]at h;split at h
  ·cases h
  rename_i r hr;have e:=aHP hr;have:=aMM h (by rw[e];exact hp);omega
 rw[x5 h4]at h
 by_cases h5:o.op=6∨o.op=7∨o.op=8
 ·rw[x7 h5]at h;exact key (aY3 h)
 rw[x5 h5]at h
 by_cases h6:o.op=9
 ·rw[x7 h6]at h;exact key (zC h)
 rw[x5 h6]at h
 by_cases h7:o.op=10
 ·rw[x7 h7]at h;split at h
  ·exact key (zC h)
  cases h
 rw[x5 h7]at h
 by_cases h8:o.op=11
 ·rw[x7 h8]at h;exact key (bHP h)
 rw[x5 h8]at h
 by_cases h9:o.op=12
 ·rw[x7 h9]at h;exact key (bJQ h)
 rw[x5 h9]at h
 by_cases h10:o.op=13
 ·rw[x7 h10]at h;cases h;exact key Y
 rw[x5 h10]at h;cases h
end Go.Mach
end
section
namespace Go.Cmp
open Go.Syn Go.Mach
def jmp(op:Int):Ins:=⟨op,0,0,false,[],[],0⟩
def setN(ops:List Ins)(k:Nat)(n:Int):List Ins:=ops.modify k fun o=>{o with n:=n}
def land(ops:List Ins)(ps:List Nat):List Ins:=ps.foldl (fun o k=>setN o k ((ops.length:Int) - 1 - k)) ops
def gS:Tree→Bool
 | .tcons _ _=>false
 | .bcons _ _ _=>false
 | .belse _ _=>false
 |_=>true
mutual
def unl:Tree→Bool→List Ins→List Ins×List Nat
 | .not_ t,tn,ops=>unl t (!tn) ops
 | .const b,tn,ops=>if b=tn then (ops++[jmp 3],[ops.length])else (ops,[])
 | .many all l,tn,ops=>(land (unlL all tn l ops [] []).1 (unlL all tn l ops [] []).2.2,(unlL all tn l ops [] []).2.1)
 | .mat tag oct op a b,tn,ops=>(ops++[⟨op,0,tag,oct,a,b,0⟩,jmp (if tn=true then 4 else 5)],[ops.length+1])
 | .exi a,tn,ops=>(ops++[⟨9,0,0,false,a,[],0⟩,jmp (if tn=true then 4 else 5)],[ops.length+1])
 | .siz tag n,tn,ops=>(ops++[⟨10,n,tag,false,[],[],0⟩,jmp (if tn=true then 4 else 5)],[ops.length+1])
 |_,_,ops=>(ops,[])
def unlL(all tn:Bool):Tree→List Ins→List Nat→List Nat→List Ins×List Nat×List Nat
 | .tcons t l,ops,away,here=>
  if all=tn∧gS l=false then unlL all tn l (unl t (!tn) ops).1 away (here++(unl t (!tn) ops).2)
  else unlL all tn l (unl t tn ops).1 (away++(unl t tn ops).2) here
 |_,ops,away,here=>(ops,away,here)
end
mutual
def body:Tree→List Ins→List Ins
 | .ccons c l,ops=>body l (cmdI c ops)
 |_,ops=>ops
def cmdI:Tree→List Ins→List Ins
 | .plain op,ops=>ops++[jmp op]
 | .act k a p,ops=>ops++[⟨11,0,k,false,if k=1 then []else [a],[],p⟩]
 | .set_ n v t,ops=>ops++[⟨12,0,t,false,[n],[v],0⟩]
 | .iff bs,ops=>dZ bs ops []
 |_,ops=>ops
def dZ:Tree→List Ins→List Nat→List Ins
 | .belse b l,ops,out=>land (body b ops) out
 | .bcons t b l,ops,out=>
  if gS l=true then dZ l (land (body b (unl t false ops).1) (unl t false ops).2) out
  else dZ l (land (body b (unl t false ops).1++[jmp 3]) (unl t false ops).2) (out++[(body b (unl t false ops).1).length])
 |_,ops,out=>land ops out
end
def script(t:Tree):List Ins:=body t []
def aQK(ops:List Ins)(k:Nat)(n:Int):(setN ops k n).length=ops.length:=by simp[setN]
def aMP(n:Int):∀(ps:List Nat) (o:List Ins),(ps.foldl (fun o k=>setN o k (n - 1 - k)) o).length=o.length:=by
 intro ps;induction ps with
 |nil=>intro o;rfl
 |cons k ps ih=>intro o;rw[List.foldl_cons,ih,aQK]
def dY(ops:List Ins)(ps:List Nat):(land ops ps).length=ops.length:=aMP _ ps ops
def cnt:Tree→Nat
 | .const _=>1
 | .not_ t=>cnt t+1
 | .many _ l=>cnt l+1
 | .mat _ _ _ _ _=>1
 | .exi _=>1
 | .siz _ _=>1
 | .tnil=>0
 | .tcons t l=>cnt t+cnt l
 | .plain _=>1
 | .act _ _ _=>1
 | .set_ _ _ _=>1
 | .iff bs=>cnt bs+1
 | .cnil=>0
 | .ccons c l=>cnt c+cnt l
 | .bnil=>0
 | .bcons t b l=>cnt t+cnt b+cnt l+1
 | .belse b l=>cnt b+cnt l+1
def mH:∀(t:Tree),(∀tn ops,ops.length≤(unl t tn ops).1.length∧(unl t tn ops).1.length≤ops.length+2*cnt t∧(unl t tn ops).2.length≤cnt t∧∀k∈(unl t tn ops).2,k < (unl t tn ops).1.length)∧
  (∀all tn ops away here,(∀k∈away,k < ops.length)→(∀k∈here,k < ops.length)→ops.length≤(unlL all tn t ops away here).1.length∧(unlL all tn t ops away here).1.length≤ops.length+2*cnt t∧(unlL all tn t ops away here).2.1.length≤away.length+cnt t∧(unlL all tn t ops away here).2.2.length≤here.length+cnt t∧(∀k∈(unlL all tn t ops away here).2.1,k < (unlL all tn t ops away here).1.length)∧(∀k∈(unlL all tn t ops away here).2.2,k < (unlL all tn t ops away here).1.length)):=by
 intro t;induction t with
 |const b=>
  refine⟨fun tn ops=>?_,fun all tn ops away here h1 h2=>?_⟩
  ·simp only[unl,cnt];split <;> simp
  simp only[unlL];exact⟨xAA _,by simp,by simp,by simp,h1,h2⟩
 |not_ t ih=>
  refine⟨fun tn ops=>?_,fun all tn ops away here h1 h2=>?_⟩
  ·have:=ih.1 (!tn) ops;simp only[unl,cnt];exact⟨this.1,by omega,by omega,this.2.2.2⟩
  simp only[unlL];exact⟨xAA _,by simp,by simp,by simp,h1,h2⟩
 |many all l ih=>
  refine⟨fun tn ops=>?_,fun all tn ops away here h1 h2=>?_⟩
  ·have:=ih.2 all tn ops [] [] (by simp) (by simp);simp only[unl,cnt,dY];simp only[List.length_nil]at this;exact⟨this.1,by omega,by omega,this.2.2.2.2.1⟩
  simp only[unlL];exact⟨xAA _,by simp,by simp,by simp,h1,h2⟩
 |mat tag oct op a b=>
  refine⟨fun tn ops=>?_,fun all tn ops away here h1 h2=>?_⟩
  ·simp[unl,cnt]
  simp only[unlL];exact⟨xAA _,by simp,by simp,by simp,h1,h2⟩
 |exi a=>
  refine⟨fun tn ops=>?_,fun all tn ops away here h1 h2=>?_⟩
  ·simp[unl,cnt]
  simp only[unlL];exact⟨xAA _,by simp,by simp,by simp,h1,h2⟩
 |siz tag n=>
  refine⟨fun tn ops=>?_,fun all tn ops away here h1 h2=>?_⟩
  ·simp[unl,cnt]
  simp only[unlL];exact⟨xAA _,by simp,by simp,by simp,h1,h2⟩
 |tcons t l ih1 ih2=>
  refine⟨fun tn ops=>?_,fun all tn ops away here h1 h2=>?_⟩
  ·simp[unl]
  simp only[unlL,cnt];split
  ·have h3 := ih1.1 (!tn) ops;have h4 := ih2.2 all tn (unl t (!tn) ops).1 away (here ++ (unl t (!tn) ops).2) (fun k hk => by have := h1 k hk; omega) (fun k hk => by
    rcases xAT.1 hk with h|h
    ·have:=h2 k h;omega
    exact h3.2.2.2 k h)
   simp only[List.length_append]at h4;exact⟨by omega,by omega,by omega,by omega,h4.2.2.2.2.1,h4.2.2.2.2.2⟩
  have h3 := ih1.1 tn ops;have h4 := ih2.2 all tn (unl t tn ops).1 (away ++ (unl t tn ops).2) here (fun k hk => by
   rcases xAT.1 hk with h|h
   ·have:=h1 k h;omega
   exact h3.2.2.2 k h) (fun k hk=>by have:=h2 k hk;omega)
  simp only[List.length_append]at h4;exact⟨by omega,by omega,by omega,by omega,h4.2.2.2.2.1,h4.2.2.2.2.2⟩
 |_=>
  refine⟨fun tn ops=>?_,fun all tn ops away here h1 h2=>?_⟩
  ·simp[unl]
  simp only[unlL];exact⟨xAA _,by simp,by simp,by simp,h1,h2⟩
def m8:∀(t:Tree),(∀ops,ops.length≤(body t ops).length∧(body t ops).length≤ops.length+2*cnt t)∧(∀ops,ops.length≤(cmdI t ops).length∧(cmdI t ops).length≤ops.length+2*cnt t)∧(∀ops out,ops.length≤(dZ t ops out).length∧(dZ t ops out).length≤ops.length+2*cnt t):=by
 intro t;induction t with
 |plain op=>exact⟨fun ops=>by simp[body],fun ops=>by simp[cmdI,cnt],fun ops out=>by simp[dZ,dY]⟩
 |act k a p=>exact⟨fun ops=>by simp[body],fun ops=>by simp[cmdI,cnt],fun ops out=>by simp[dZ,dY]⟩
 |set_ n v t=>exact⟨fun ops=>by simp[body],fun ops=>by simp[cmdI,cnt],fun ops out=>by simp[dZ,dY]⟩
 |iff bs ih=>exact⟨fun ops=>by simp[body],fun ops=>by have:=ih.2.2 ops [];simp only[cmdI,cnt];omega,fun ops out=>by simp[dZ,dY]⟩
 |ccons c l ih1 ih2=>
  refine⟨fun ops=>?_,fun ops=>by simp[cmdI],fun ops out=>by simp[dZ,dY]⟩
  have h1:=ih1.2.1 ops;have h2:=ih2.1 (cmdI c ops);simp only[body,cnt];omega
 |belse b l ih1 ih2=>
  refine⟨fun ops=>by simp[body],fun ops=>by simp[cmdI],fun ops out=>?_⟩
  have h1:=ih1.1 ops;simp only[dZ,cnt,dY];omega
 |bcons t b l ih1 ih2 ih3=>
  refine⟨fun ops=>by simp[body],fun ops=>by simp[cmdI],fun ops out=>?_⟩
  have h0:=(mH t).1 false ops;have h1:=ih2.1 (unl t false ops).1;simp only[dZ,cnt];split
  ·have h2:=ih3.2.2 (land (body b (unl t false ops).1) (unl t false ops).2) out;rw[dY]at h2;omega
  have h2:=ih3.2.2 (land (body b (unl t false ops).1++[jmp 3]) (unl t false ops).2) (out++[(body b (unl t false ops).1).length]);rw[dY]at h2;simp only[List.length_append,List.length_singleton]at h2;omega
 |_=>exact⟨fun ops=>by simp[body],fun ops=>by simp[cmdI],fun ops out=>by simp[dZ,dY]⟩
end Go.Cmp
end
section
namespace Go.Cmp
open Go Go.SL Go.Syn Go.Mach
structure InsV where
 op:Int
 n:Int
 tag:Int
 oct:Bool
 a:Cell
 b:Cell
 at_:Int
def nilC:Cell:=⟨.slice none 0 0,rfl⟩
def cT:El InsV:={e:=45,sz:=7,enc:=fun v=>[i64 v.op,i64 v.n,i64 v.tag,.bool v.oct,v.a.1,v.b.1,i64 v.at_],len:=fun _=>rfl,one:=fun v u h=>by simp at h;rcases h with rfl|rfl|rfl|rfl|rfl|rfl|rfl;rfl;rfl;rfl;rfl;exact v.a.2;exact v.b.2;rfl}
def fK(e:TypeId):El Nat:={e:=e,sz:=1,enc:=fun n=>[i64 n],len:=fun _=>rfl,one:=fun _ u h=>by simp at h;subst h;rfl}
def RIns(K:Hl)(v:InsV)(o:Ins):Prop:=v.op=o.op∧v.n=o.n∧v.tag=o.tag∧v.oct=o.oct∧v.at_=o.at_∧Ksl (a7 9) K v.a.1 o.a∧Ksl (a7 9) K v.b.1 o.b
def RIs(K:Hl):List InsV→List Ins→Prop
 | [],[]=>True
 |v::vs,o::os=>RIns K v o∧RIs K vs os
 |_,_=>False
def RIns.mono{K K':Hl}{v:InsV}{o:Ins}(h:RIns K v o)(le:K.le K'):RIns K' v o:=⟨h.1,h.2.1,h.2.2.1,h.2.2.2.1,h.2.2.2.2.1,h.2.2.2.2.2.1.mono le,h.2.2.2.2.2.2.mono le⟩
def RIs.mono{K K':Hl}(le:K.le K'):∀ {vs:List InsV} {os:List Ins},RIs K vs os→RIs K' vs os
 | [],[],_=>trivial
 |_::_,_::_,h=>⟨h.1.mono le,RIs.mono le h.2⟩
def RIs.length{K:Hl}:∀ {vs:List InsV} {os:List Ins},RIs K vs os→vs.length=os.length
 | [],[],_=>rfl
 |_::_,_::_,h=>by simp[RIs.length h.2]
def RIs.append{K:Hl}{ws:List InsV}{ps:List Ins}(h2:RIs K ws ps):∀ {vs:List InsV} {os:List Ins},RIs K vs os→RIs K (vs++ws) (os++ps)
 | [],[],_=>h2
 |_::_,_::_,h=>⟨h.1,RIs.append h2 h.2⟩
def RIs.get{K:Hl}:∀ {vs:List InsV} {os:List Ins} {i:Nat} {v:InsV},RIs K vs os→vs[i]?=some v→∃o,os[i]?=some o∧RIns K v o
 |_::_,o::_,0,_,h,e=>by simp at e;subst e;exact⟨o,Y,h.1⟩
 |_::_,_::_,i+1,_,h,e=>by simpa using RIs.get h.2 gDL
def rR(vs:List InsV)(k:Nat)(n:Int):List InsV:=vs.modify k fun o=>{o with n:=n}
def aB7(vs:List InsV)(ps:List Nat):List InsV:=ps.foldl (fun o k=>rR o k ((vs.length:Int) - 1 - k)) vs
def RIs.setN{K:Hl}{n:Int}:∀ {vs:List InsV} {os:List Ins} {k:Nat},RIs K vs os→RIs K (rR vs k n) (Cmp.setN os k n)
 | [],[],k,_=>by
  have e1:rR [] k n=[]:=List.eq_nil_of_length_eq_zero (by simp[rR]);have e2:Cmp.setN [] k n=[]:=List.eq_nil_of_length_eq_zero (by simp[Cmp.setN]);rw[e1,e2];trivial
 |v::vs,o::os,0,h=>⟨⟨h.1.1,rfl,h.1.2.2.1,h.1.2.2.2.1,h.1.2.2.2.2.1,h.1.2.2.2.2.2.1,h.1.2.2.2.2.2.2⟩,h.2⟩
 |v::vs,o::os,k+1,h=>⟨h.1,RIs.setN (k:=k) h.2⟩
def RIs.land{K:Hl}{vs:List InsV}{os:List Ins}{ps:List Nat}(h:RIs K vs os):RIs K (aB7 vs ps) (Cmp.land os ps):=by
 unfold aB7 Cmp.land;rw[←h.length]
 generalize ((vs.length:Nat):Int)=m
 revert vs os
 induction ps with
 |nil=>intro vs os h;exact h
 |cons k ps ih=>intro vs os h;exact ih h.setN
def aM6(vs:List InsV)(k:Nat)(n:Int):(rR vs k n).length=vs.length:=by simp[rR]
def aS5{vs:List InsV}{ps:List Nat}{i p:Nat}{m:Int}(h:ps[i]?=some p):(ps.take (i+1)).foldl (fun o k=>rR o k (m - 1 - k)) vs=rR ((ps.take i).foldl (fun o k=>rR o k (m - 1 - k)) vs) p (m - 1 - p):=by
 have hi:i < ps.length:=by
  rcases xAC i ps.length with h'|h'
  ·exact h'
  simp[List.getElem?_eq_none h']at h
 have hc:ps[i]=p:=by simpa[List.getElem?_eq_getElem hi]using h
 rw[xAN hi,hc];simp
def aB3(m:Int):∀(ps:List Nat) (o:List InsV),(ps.foldl (fun o k=>rR o k (m - 1 - k)) o).length=o.length:=by
 intro ps;induction ps with
 |nil=>intro o;rfl
 |cons k ps ih=>intro o;rw[List.foldl_cons,ih,aM6]
def lT(vs:List InsV)(ps:List Nat):(aB7 vs ps).length=vs.length:=aB3 _ ps vs
def bAF{vs:List InsV}{k:Nat}{n:Int}{v:InsV}(h:vs[k]?=some v):rR vs k n=vs.set k {v with n:=n}:=by
 unfold rR;have hi:k < vs.length:=by
  rcases xAC k vs.length with h'|h'
  ·exact h'
  simp[List.getElem?_eq_none h']at h
 have hc:vs[k]=v:=by simpa[List.getElem?_eq_getElem hi]using h
 apply List.ext_getElem (by simp)
 intro i h1 h2;rw[List.getElem_modify,List.getElem_set];split
 ·rename_i e;subst e;rw[hc]
 rfl
def cdr(b:Nat)(vs:List InsV):Asn:=exA fun cv=>[pt b (bL [cv] 222),sl false cT cv vs]
def aM4{b:Nat}{vs:List InsV}{cv:Value}{M:List Asn}:∀h,Sat (pt b (bL [cv] 222)::sl false cT cv vs::M) h→Sat (cdr b vs::M) h:=fun h hh=>oL.2 ⟨cv,hh⟩
end Go.Cmp
end
section
attribute [local irreducible] Go.SL.T Go.SL.OL Go.SL.D Go.SL.DL Go.SL.Ev Go.SL.Ef Go.SL.EfS
namespace Go.Proofs
open Go Go.SL Go.Syn Go.Cmp
def nN(b yb:Nat)(vs ys:List InsV)(cells:List Value)(K:Hl)(hc:cells=cT.cs ys)(hl:vs.length+ys.length≤1000000):
  Sp x3 183 [ptr b,.slice (some ⟨yb,0,none⟩) ys.length ys.length] K [cdr b vs,pt yb (bL cells 45)]
   (Ret fun v K' L'=>v=i64 (((vs++ys).length:Int) - 1)∧K'=K∧L'=[cdr b (vs++ys)]):=by
 have hys:(cells.drop 0).take (ys.length*7)=cT.cs ys:=by
  subst hc;rw[xBG,xAI (by rw[cT.cs_length];exact xAA _)]
 have hla:(vs++ys).length=vs.length+ys.length:=xAF;refine bN Tryz.func183 Y Tryz.ntmps183 Y Y fun F w=>?_;refine u5 fun cv=>?_;refine zz13 ?_;refine cJ (dQ (k:=cT) (ys:=ys) sD Y Y bR (fun w j=>dJ Tryz.underlying36 (SeesSl.at (k:=cT) (.blk aL Y hys) j)) gC9 gC9) Y ?_;rintro v11 K _ ⟨rfl,rfl,ho11⟩ -;refine zz2 ?_;refine cD (bX vF Y Y dA bR .zero Y) ?_;rintro _ K _ ⟨rfl,rfl⟩ -;refine zz8 ?_;refine aA (bU (k:=cT) Y Tryz.underlying36 Y aL) Y (zz5 ?_);refine uAw ?_;refine cS aM4 (zz1 ?_);exact⟨_,Y,Y,Y,Y⟩
def uW(b:Nat)(pv:Value)(vs:List InsV)(ps:List Nat)(K:Hl)(hl:vs.length≤1000000)(hpl:ps.length≤1000000)(hp:∀p∈ps,p < vs.length):
  Sp x3 219 [ptr b,pv] K [cdr b vs,sl false (fK 3) pv ps] (Ret fun v K' L'=>v=.tuple #[]∧K'=K∧L'=[cdr b (aB7 vs ps)]):=by
 refine bN Tryz.func219 Y Tryz.ntmps219 Y Y fun F w=>?_;refine u5 fun cv=>?_;refine zz3 ?_;refine aA (bU (k:=(fK 3)) Y Tryz.underlying24 Y aL) Y (zz4 ?_);refine eH (fun(i:Nat)=>i≤ps.length) (fun i=>[(0,ptr b),(6,pv),(7,i64 ps.length),(8,i64 i)]) (fun _=>_) (fun i=>[sl false cT cv ((ps.take i).foldl (fun o k=>rR o k ((vs.length:Int) - 1 - k)) vs),pt b (bL [cv] 222),sl false (fK 3) pv ps]) (fun i=>ps.length - i) 0 (x9 _) aS Y (fun _ h=>iM h) ?_;intro i hi0;refine zz6 ?_;refine aY 9 Y (fun h9=>?_) (fun h9=>?_)
 ·have hilt:i < ps.length:=by omega
  obtain⟨p,hpi⟩:∃p,ps[i]?=some p:=⟨ps[i]'hilt,x4 hilt⟩;have hpv:p < vs.length:=hp p (x8 hpi);obtain⟨xs,hxs⟩:∃xs,xs=(ps.take i).foldl (fun o k=>rR o k ((vs.length:Int) - 1 - k)) vs:=⟨_,rfl⟩;rw[←hxs];have hxl:xs.length=vs.length:=(by rw[hxs,aB3]);obtain⟨x,hx⟩:∃x,xs[p]?=some x:=⟨xs[p]'(by omega),x4 aH⟩;refine zz6 ?_;refine aA (aX (k:=(fK 3)) lY Y aL Y Y gDB) Y ?_;refine aA (cE (o:=0) (k:=(fK 3)) ts3 Y aL b0 Y) Y (zz3 ?_);refine bM9 (by intro h;rw[h]at hx;simp at hx) fun bb cap junk fz hcv h2 h3 h4=>?_;subst hcv;have hcs:((cT.cs xs++junk).drop 0).take (xs.length*cT.sz)=cT.cs xs:=(by rw[xBG,←cT.cs_length,List.take_left]);have hlen:(cT.cs xs++junk).length=cap*7:=(by rw[xAF,cT.cs_length,h3];show xs.length*7+(cap - xs.length)*7=_;omega);refine cZ (anc:=[0,1,3,7,0,0,32,96,224,480,992,0,4064,8191,16383,32767]) (ord:=[0,1,2,3,4,5,6,7,8,9,10,11,12,13,14,15]) [15] [15] mixed gC5 (cQ _) (zz9 ?_);refine aJ Y Y (.none Y) Y Y (bU (k:=cT) Y Tryz.underlying36 Y (.blk aL Y hcs)) Y (zz3 ?_);refine aJ Y Y (.none Y) Y Y (aGP (k:=cT) (j:=p) (m:=0+p*7) Y eU Y (.blk aL Y hcs) Y Y aH) Y ?_;refine aJ Y Y (.none Y) Y Y (aD (o:=0+p*7) (o':=0+p*7+1) f8 Y Y) Y ?_;refine mT Y Y (.none Y) Y (bX ts3 Y Y Y .here (zH (by rw[hlen];omega)) (h4.at (by show 0+p*7+1 < cap*7;omega))) ?_;rintro _ K _ ⟨rfl,rfl⟩ -;refine zz7 ?_;have e3:((cT.cs xs++junk).set (0+p*7+1) (i64 (xs.length - 1 - p)))=cT.cs (xs.set p {x with n:=xs.length - 1 - p})++junk:=(by rw[show 0+p*7+1=p*cT.sz+1 from by show _=p*7+1;omega];exact cs_set cT (by decide) Y hx);have e4:(ps.take (i+1)).foldl (fun o k=>rR o k ((vs.length:Int) - 1 - k)) vs=xs.set p {x with n:=xs.length - 1 - p}:=(by rw[aS5 hpi,←hxs,bAF hx,hxl]);have e5:(xs.set p {x with n:=xs.length - 1 - p}).length=xs.length:=xBC;refine cS (fun h hh=>bF3 (k:=cT) (z:=false) (xs:=xs.set p {x with n:=xs.length - 1 - p}) (fun h=>by cases h) (by rw[e5];exact h2) (by rw[e5];exact h3) h4 e3 hh) ?_;refine cM (i+1) aH aH aS Y ?_;rw[e4,e5];exact fun _ h=>h
 have hfin:(ps.take i).foldl (fun o k=>rR o k ((vs.length:Int) - 1 - k)) vs=aB7 vs ps:=(by rw[xAI aH];rfl);refine zz4 ?_;rw[hfin];refine uAw ?_;refine cS aM4 (zz1 ?_);exact⟨_,Y,Y,Y,Y⟩
def aFR(b e n:Nat)(x:Value)(hx:x=i64 n):∀h,pt b (bL [x] e) h→sl false (fK e) (.slice (some ⟨b,0,none⟩) 1 1) [n] h:=by
 subst hx;exact aCQ (k:=fK e) (xs:=[n]) (cells:=[i64 n]) (xAA _) Y Y (.inl (xAA _)) (fun h=>by cases h)
def tW(K:Hl):Ksl (a7 9) K nilC.1 []:=.inl ⟨none,0,rfl,rfl⟩
abbrev jmpV(op:Int):InsV:=⟨op,0,0,false,nilC,nilC,0⟩
def tB(K:Hl)(op:Int):RIns K (jmpV op) (jmp op):=⟨rfl,rfl,rfl,rfl,rfl,tW K,tW K⟩
def RIs.two{K:Hl}{x y:InsV}{o p:Mach.Ins}(h1:RIns K x o)(h2:RIns K y p):RIs K [x,y] [o,p]:=⟨h1,h2,trivial⟩
abbrev UnlR(b:Nat)(r:List Mach.Ins×List Nat):Ending→Hl→List Asn→Prop:=Ret fun pv K' L'=>∃vs',RIs K' vs' r.1∧L'=[sl false (fK 3) pv r.2,cdr b vs']
def UnlS(t:Tree):Prop:=wf t 0=true→∀(b:Nat) (tn:Bool) (ty:TypeId) (u:Value) (vs:List InsV) (ops:List Mach.Ins) (K:Hl),Rep K t [(⟨.iface ty u,rfl⟩,u0)]→RIs K vs ops→vs.length+2*cnt t≤900000→Sp x3 218 [ptr b,.iface ty u,.bool tn] K [cdr b vs] (UnlR b (unl t tn ops))
def UnlL:Tree→Prop
 | .tcons t l=>UnlS t∧UnlL l
 |_=>True
def aZY{K:Hl}{rest:Tree}{xs:List (Cell×Cell)}{i:Nat}(hw:wf rest 1=true)(hr:Rep K rest (xs.drop i))(hi:i < xs.length):
  ∃t l c,rest=.tcons t l∧Rep K t [(c,u0)]∧Rep K l (xs.drop (i+1))∧xs[i]?=some (c,u0)∧wf t 0=true∧wf l 1=true:=by
 have hd:xs.drop i≠[]:=by intro h;have:=xAE List.length h;simp at this;omega
 cases rest <;> simp only[wf,Rep]at hw hr
 case tnil=>exact absurd hr hd
 case tcons t l=>
  obtain⟨c,ys,h1,h2,h3⟩:=hr;simp at hw;have e:xs.drop (i+1)=ys:=by rw[←List.drop_drop,h3];rfl
  refine⟨t,l,c,Y,h1,by rw[e];exact h2,?_,hw.1,hw.2⟩
  have:=xA2 (xs:=xs) (i:=i) (j:=0);rw[h3]at this;simpa using this.symm
 all_goals simp at hw
def bFB{K:Hl}{l:Tree}{ys:List (Cell×Cell)}(hw:wf l 1=true)(hr:Rep K l ys):gS l=false↔0 < ys.length:=by
 cases l <;> simp only[wf,Rep]at hw hr
 case tnil=>subst hr;simp[gS]
 case tcons t l=>obtain⟨c,zs,_,_,rfl⟩:=hr;simp[gS]
 all_goals simp at hw
def bE6{K:Hl}{rest:Tree}{ys:List (Cell×Cell)}(hw:wf rest 1=true)(hr:Rep K rest ys)(he:ys=[]){all tn:Bool}{ops:List Mach.Ins}{a h:List Nat}:unlL all tn rest ops a h=(ops,a,h):=by
 cases rest <;> simp only[wf,Rep]at hw hr
 case tnil=>simp[unlL]
 case tcons t l=>obtain⟨c,zs,_,_,rfl⟩:=hr;cases he
 all_goals simp at hw
def bBF(p:Bool):UnlS (.const p):=by
 intro hw b tn ty u vs ops K hr hv hl;cases (show [(_,u0)]=[(_,u0)]from hr)
 have hvl:=hv.length;refine bN Tryz.func218 Y Tryz.ntmps218 Y Y fun F w=>?_;refine zz7 ?_;refine uAt ?_;refine zz1 ?_;rintro _ K _ ⟨b7,rfl,rfl,rfl⟩ -;refine cD (cX iF Y Y Y bR gC1 (.cons (.cons (.cons (.cons (.cons (.cons (.cons .nil))))))) gC8) ?_;rintro _ K _ ⟨rfl,rfl⟩ -;refine zz2 ?_;refine dX (fun(j:Int)=>j=if tn=true then 4 else 5) (fun _=>[(0,ptr b),(1,.iface 265 (.bool p)),(2,.bool tn),(7,ptr b7)]) (fun _=>K) (fun j=>[pt b7 (bL [i64 j,i64 0,i64 0,.bool false,.slice none 0 0,.slice none 0 0,i64 0] 45),cdr b vs]) ?_ ?_
 ·refine zz5 ?_;refine d9 19 Y (fun h19=>?_) (fun h19=>?_)
  ·refine zz2 ?_;refine uAm ?_;rintro _ K _ ⟨rfl,rfl⟩ -;refine aG ?_;exact a8 _ gE7 aS Y (fun _ h=>h)
  refine aW ?_;exact a8 _ gE7 aS Y (fun _ h=>h)
 intro j hj;refine zz9 ?_;refine aA (fG Tryz.underlying269 (fun _ h=>by cases h) Y aRH Y) Y (zz7 ?_);refine aA (jX Tryz.underlying265 (fun _ h=>by cases h) Y) Y (zz15 ?_);refine aA (aBT Tryz.underlying4 Y Y) Y (zz2 ?_);refine d9 36 Y (fun h36=>?_) (fun h36=>?_)
 ·have e36:unl (.const p) tn ops=(ops,[]):=(by unfold unl;rw[x5 (by intro h;subst h;simp at h36)]);refine zz9 ?_;refine aQ (aM cI bF) ?_;refine cS (eL (fK 3)) (zz1 ?_);rw[e36];exact⟨_,Y,vs,hv,Y⟩
 have e36:unl (.const p) tn ops=(ops++[jmp 3],[ops.length]):=(by unfold unl;rw[x7 (by simpa using h36)]);refine zz5 ?_;refine uAt ?_;refine cJ (bM (z0:=[.int .i64 0,.int .i64 0,.int .i64 0,.bool false,.slice none 0 0,.slice none 0 0,.int .i64 0]) eU rL Y Y Y Y dF) Y ?_;rintro _ K _ ⟨b39,rfl,rfl,rfl⟩ -;refine bA Y Y (nN b b39 vs [jmpV 3] _ _ Y gC7) bS Y ?_;rintro _ K _ ⟨rfl,rfl,rfl⟩ -;refine cJ (bM (z0:=[.int .i64 0]) lY tz3 Y Y Y Y dF) Y ?_;rintro _ K _ ⟨b41,rfl,rfl,rfl⟩ -;refine zz6 ?_;refine uAo ?_;refine cS (eM (aFR b41 3 ops.length _ (by rw[xAF,hvl];simp))) (zz1 ?_);rw[e36];exact⟨_,Y,_,RIs.append (ws:=[jmpV 3]) (ps:=[jmp 3]) ⟨tB _ _,trivial⟩ hv,Y⟩
def bKM(t:Tree)(ih:UnlS t):UnlS (.not_ t):=by
 intro hw b tn ty u vs ops K hr hv hl;obtain⟨⟨cv,hcv⟩,hr1,he⟩:=hr;have hwt:wf t 0=true:=by simpa[wf]using hw
 obtain⟨ty2,u2,hc⟩:=aDU (.inl hwt) hr1;cases hc
 cases he
 simp only[cnt]at hl;have hvl:=hv.length;refine bN Tryz.func218 Y Tryz.ntmps218 Y Y fun F w=>?_;refine zz7 ?_;refine uAt ?_;refine zz1 ?_;rintro _ K _ ⟨b7,rfl,rfl,rfl⟩ -;refine cD (cX iF Y Y Y bR gC1 (.cons (.cons (.cons (.cons (.cons (.cons (.cons .nil))))))) gC8) ?_;rintro _ K _ ⟨rfl,rfl⟩ -;refine zz2 ?_;refine dX (fun(j:Int)=>j=if tn=true then 4 else 5) (fun _=>[(0,ptr b),(1,.iface 269 (.agg #[.iface ty2 u2])),(2,.bool tn),(7,ptr b7)]) (fun _=>K) (fun j=>[pt b7 (bL [i64 j,i64 0,i64 0,.bool false,.slice none 0 0,.slice none 0 0,i64 0] 45),cdr b vs]) ?_ ?_
 ·refine zz5 ?_;refine d9 19 Y (fun h19=>?_) (fun h19=>?_)
  ·refine zz2 ?_;refine uAm ?_;rintro _ K _ ⟨rfl,rfl⟩ -;refine aG ?_;exact a8 _ gE7 aS Y (fun _ h=>h)
  refine aW ?_;exact a8 _ gE7 aS Y (fun _ h=>h)
 intro j hj;refine zz9 ?_;refine aA (jX Tryz.underlying269 (fun _ h=>by cases h) Y) Y (zz8 ?_);rintro _ K _ ⟨b8,rfl,rfl,rfl⟩ -;refine cD (cX bJ6 Y Y Y bR gC1 (.cons .nil) gC8) ?_;rintro _ K _ ⟨rfl,rfl⟩ -;refine zz8 ?_;refine aA gC3 Y ?_;refine bA Y Y (ih hwt b (!tn) ty2 u2 vs ops _ hr1 hv aH) bS Y ?_;rintro _ K1 _ ⟨vs1,hv1,rfl⟩ le1;refine zz6 ?_;refine uAo ?_;refine bI Y Y le1 ?_;exact⟨_,Y,vs1,hv1,Y⟩
def bKL(tag:Int)(oct:Bool)(op:Int)(a b1:List (List UInt8)):UnlS (.mat tag oct op a b1):=by
 intro hw b tn ty u vs ops K hr hv hl;obtain⟨va,vb,hA,hB,he⟩:=hr;obtain⟨sa,sn,sc,rfl⟩:=hA.isSlice;obtain⟨ta,tn2,tc,rfl⟩:=hB.isSlice;cases he
 have hvl:=hv.length;refine bN Tryz.func218 Y Tryz.ntmps218 Y Y fun F w=>?_;refine zz7 ?_;refine uAt ?_;refine zz1 ?_;rintro _ K _ ⟨b7,rfl,rfl,rfl⟩ -;refine cD (cX iF Y Y Y bR gC1 (.cons (.cons (.cons (.cons (.cons (.cons (.cons .nil))))))) gC8) ?_;rintro _ K _ ⟨rfl,rfl⟩ -;refine zz2 ?_;refine dX (fun(j:Int)=>j=if tn=true then 4 else 5) (fun _=>[(0,ptr b),(1,.iface 333 (.agg #[i64 tag,.bool oct,i64 op,.slice sa sn sc,.slice ta tn2 tc])),(2,.bool tn),(7,ptr b7)]) (fun _=>K) (fun j=>[pt b7 (bL [i64 j,i64 0,i64 0,.bool false,.slice none 0 0,.slice none 0 0,i64 0] 45),cdr b vs]) ?_ ?_
 ·refine zz5 ?_;refine d9 19 Y (fun h19=>?_) (fun h19=>?_)
  ·refine zz2 ?_;refine uAm ?_;rintro _ K _ ⟨rfl,rfl⟩ -;refine aG ?_;exact a8 _ gE7 aS Y (fun _ h=>h)
  refine aW ?_;exact a8 _ gE7 aS Y (fun _ h=>h)
 intro j hj;refine zz9 ?_;refine aA (fG Tryz.underlying269 (fun _ h=>by cases h) Y aRH Y) Y (zz7 ?_);refine aA (fG Tryz.underlying265 (fun _ h=>by cases h) Y aWR Y) Y (zz7 ?_);refine aA (fG Tryz.underlying329 (fun _ h=>by cases h) Y bG8 Y) Y (zz7 ?_);refine aA (jX Tryz.underlying333 (fun _ h=>by cases h) Y) Y (zz8 ?_);rintro _ K _ ⟨b15,rfl,rfl,rfl⟩ -;refine cD (cX aNK Y Y Y bR gC1 (.cons (.cons (.cons (.cons (.cons .nil))))) gC8) ?_;rintro _ K _ ⟨rfl,rfl⟩ -;refine zz17 ?_;refine uAt ?_;refine zz1 ?_;refine cJ (bM (z0:=[.int .i64 0,.int .i64 0,.int .i64 0,.bool false,.slice none 0 0,.slice none 0 0,.int .i64 0,.int .i64 0,.int .i64 0,.int .i64 0,.bool false,.slice none 0 0,.slice none 0 0,.int .i64 0]) eU rL Y Y Y Y dF) Y ?_;rintro _ K _ ⟨b107,rfl,rfl,rfl⟩ -;refine bA Y Y (nN b b107 vs [⟨op,0,tag,oct,⟨.slice sa sn sc,Y⟩,⟨.slice ta tn2 tc,Y⟩,0⟩,jmpV j] _ _ Y gC7) bS Y ?_;rintro _ K _ ⟨rfl,rfl,rfl⟩ -;refine cJ (bM (z0:=[.int .i64 0]) lY tz3 Y Y Y Y dF) Y ?_;rintro _ K _ ⟨b109,rfl,rfl,rfl⟩ -;refine zz6 ?_;refine uAo ?_;refine cS (eM (aFR b109 3 (ops.length+1) _ gGA)) (zz1 ?_);unfold unl;exact⟨_,Y,_,RIs.append (RIs.two ⟨Y,Y,Y,Y,Y,hA,hB⟩ (by rw[hj];exact tB _ _)) hv,Y⟩
def bKJ(a:List (List UInt8)):UnlS (.exi a):=by
 intro hw b tn ty u vs ops K hr hv hl;obtain⟨va,hA,he⟩:=hr;obtain⟨sa,sn,sc,rfl⟩:=hA.isSlice;cases he
 have hvl:=hv.length;refine bN Tryz.func218 Y Tryz.ntmps218 Y Y fun F w=>?_;refine zz7 ?_;refine uAt ?_;refine zz1 ?_;rintro _ K _ ⟨b7,rfl,rfl,rfl⟩ -;refine cD (cX iF Y Y Y bR gC1 (.cons (.cons (.cons (.cons (.cons (.cons (.cons .nil))))))) gC8) ?_;rintro _ K _ ⟨rfl,rfl⟩ -;refine zz2 ?_;refine dX (fun(j:Int)=>j=if tn=true then 4 else 5) (fun _=>[(0,ptr b),(1,.iface 273 (.agg #[.slice sa sn sc])),(2,.bool tn),(7,ptr b7)]) (fun _=>K) (fun j=>[pt b7 (bL [i64 j,i64 0,i64 0,.bool false,.slice none 0 0,.slice none 0 0,i64 0] 45),cdr b vs]) ?_ ?_
 ·refine zz5 ?_;refine d9 19 Y (fun h19=>?_) (fun h19=>?_)
  ·refine zz2 ?_;refine uAm ?_;rintro _ K _ ⟨rfl,rfl⟩ -;refine aG ?_;exact a8 _ gE7 aS Y (fun _ h=>h)
  refine aW ?_;exact a8 _ gE7 aS Y (fun _ h=>h)
 intro j hj;refine zz9 ?_;refine aA (fG Tryz.underlying269 (fun _ h=>by cases h) Y aRH Y) Y (zz7 ?_);refine aA (fG Tryz.underlying265 (fun _ h=>by cases h) Y aWR Y) Y (zz7 ?_);refine aA (fG Tryz.underlying329 (fun _ h=>by cases h) Y bG8 Y) Y (zz7 ?_);refine aA (fG Tryz.underlying333 (fun _ h=>by cases h) Y bLI Y) Y (zz7 ?_);refine aA (jX Tryz.underlying273 (fun _ h=>by cases h) Y) Y (zz8 ?_);rintro _ K _ ⟨b16,rfl,rfl,rfl⟩ -;refine cD (cX bJ7 Y Y Y bR gC1 (.cons .nil) gC8) ?_;rintro _ K _ ⟨rfl,rfl⟩ -;refine zz7 ?_;refine uAt ?_;refine zz1 ?_;refine cJ (bM (z0:=[.int .i64 0,.int .i64 0,.int .i64 0,.bool false,.slice none 0 0,.slice none 0 0,.int .i64 0,.int .i64 0,.int .i64 0,.int .i64 0,.bool false,.slice none 0 0,.slice none 0 0,.int .i64 0]) eU rL Y Y Y Y dF) Y ?_;rintro _ K _ ⟨b118,rfl,rfl,rfl⟩ -;refine bA Y Y (nN b b118 vs [⟨9,0,0,false,⟨.slice sa sn sc,Y⟩,nilC,0⟩,jmpV j] _ _ Y gC7) bS Y ?_;rintro _ K _ ⟨rfl,rfl,rfl⟩ -;refine cJ (bM (z0:=[.int .i64 0]) lY tz3 Y Y Y Y dF) Y ?_;rintro _ K _ ⟨b120,rfl,rfl,rfl⟩ -;refine zz6 ?_;refine uAo ?_;refine cS (eM (aFR b120 3 (ops.length+1) _ gGA)) (zz1 ?_);unfold unl;exact⟨_,Y,_,RIs.append (RIs.two ⟨Y,Y,Y,Y,Y,hA,tW _⟩ (by rw[hj];exact tB _ _)) hv,Y⟩
def bKN(tag n:Int):UnlS (.siz tag n):=by
 intro hw b tn ty u vs ops K hr hv hl;cases (show [(_,u0)]=[(_,u0)]from hr)
 have hvl:=hv.length;refine bN Tryz.func218 Y Tryz.ntmps218 Y Y fun F w=>?_;refine zz7 ?_;refine uAt ?_;refine zz1 ?_;rintro _ K _ ⟨b7,rfl,rfl,rfl⟩ -;refine cD (cX iF Y Y Y bR gC1 (.cons (.cons (.cons (.cons (.cons (.cons (.cons .nil))))))) gC8) ?_;rintro _ K _ ⟨rfl,rfl⟩ -;refine zz2 ?_;refine dX (fun(j:Int)=>j=if tn=true then 4 else 5) (fun _=>[(0,ptr b),(1,.iface 276 (.agg #[i64 tag,i64 n])),(2,.bool tn),(7,ptr b7)]) (fun _=>K) (fun j=>[pt b7 (bL [i64 j,i64 0,i64 0,.bool false,.slice none 0 0,.slice none 0 0,i64 0] 45),cdr b vs]) ?_ ?_
 ·refine zz5 ?_;refine d9 19 Y (fun h19=>?_) (fun h19=>?_)
  ·refine zz2 ?_;refine uAm ?_;rintro _ K _ ⟨rfl,rfl⟩ -;refine aG ?_;exact a8 _ gE7 aS Y (fun _ h=>h)
  refine aW ?_;exact a8 _ gE7 aS Y (fun _ h=>h)
 intro j hj;refine zz9 ?_;refine aA (fG Tryz.underlying269 (fun _ h=>by cases h) Y aRH Y) Y (zz7 ?_);refine aA (fG Tryz.underlying265 (fun _ h=>by cases h) Y aWR Y) Y (zz7 ?_);refine aA (fG Tryz.underlying329 (fun _ h=>by cases h) Y bG8 Y) Y (zz7 ?_);refine aA (fG Tryz.underlying333 (fun _ h=>by cases h) Y bLI Y) Y (zz7 ?_);refine aA (fG Tryz.underlying273 (fun _ h=>by cases h) Y bPO Y) Y (zz7 ?_);refine aA (jX Tryz.underlying276 (fun _ h=>by cases h) Y) Y (zz8 ?_);rintro _ K _ ⟨b17,rfl,rfl,rfl⟩ -;refine cD (cX bJ8 Y Y Y bR gC1 (.cons (.cons .nil)) gC8) ?_;rintro _ K _ ⟨rfl,rfl⟩ -;refine zz9 ?_;refine uAt ?_;refine zz1 ?_;refine cJ (bM (z0:=[.int .i64 0,.int .i64 0,.int .i64 0,.bool false,.slice none 0 0,.slice none 0 0,.int .i64 0,.int .i64 0,.int .i64 0,.int .i64 0,.bool false,.slice none 0 0,.slice none 0 0,.int .i64 0]) eU rL Y Y Y Y dF) Y ?_;rintro _ K _ ⟨b131,rfl,rfl,rfl⟩ -;refine bA Y Y (nN b b131 vs [⟨10,n,tag,false,nilC,nilC,0⟩,jmpV j] _ _ Y gC7) bS Y ?_;rintro _ K _ ⟨rfl,rfl,rfl⟩ -;refine cJ (bM (z0:=[.int .i64 0]) lY tz3 Y Y Y Y dF) Y ?_;rintro _ K _ ⟨b133,rfl,rfl,rfl⟩ -;refine zz6 ?_;refine uAo ?_;refine cS (eM (aFR b133 3 (ops.length+1) _ gGA)) (zz1 ?_);unfold unl;exact⟨_,Y,_,RIs.append (RIs.two ⟨Y,Y,Y,Y,Y,tW _,tW _⟩ (by rw[hj];exact tB _ _)) hv,Y⟩
def aUU{all tn:Bool}{t l:Tree}{ops:List Mach.Ins}{a h:List Nat}(hc:¬(all=tn∧gS l=false)):unlL all tn (.tcons t l) ops a h=unlL all tn l (unl t tn ops).1 (a++(unl t tn ops).2) h:=by
 simp only[unlL];rw[x5 hc]
def aUV{all tn:Bool}{t l:Tree}{ops:List Mach.Ins}{a h:List Nat}(hc:all=tn∧gS l=false):unlL all tn (.tcons t l) ops a h=unlL all tn l (unl t (!tn) ops).1 a (h++(unl t (!tn) ops).2):=by
 simp only[unlL];rw[x7 hc]
def aLW{t:Tree}(h:wf t 0=true):1≤cnt t:=by
 cases t <;> simp only[wf,cnt]at h ⊢ <;> first|omega|(simp at h)
def bE9{K:Hl}:∀ {l:Tree} {xs:List (Cell×Cell)},wf l 1=true→Rep K l xs→xs.length≤cnt l:=by
 intro l;induction l with
 |tnil=>intro xs _ h;cases (show xs=[]from h);simp
 |tcons t l ih1 ih2=>
  rintro xs hw ⟨v,ys,h1,h2,rfl⟩;simp[wf]at hw;have:=ih2 hw.2 h2;have:=aLW hw.1;simp only[cnt,List.length_cons];omega
 |_=>intro xs hw _;simp[wf]at hw
def bHD(all:Bool)(l:Tree)(ih:UnlL l):UnlS (.many all l):=by
  intro hw b tn ty u vs ops K hr hv hl;obtain⟨xs,sv,hrl,hS,he⟩:=hr;obtain⟨sa,sn,sc,rfl⟩:=hS.isSlice;cases he
  have hwl:wf l 1=true:=by simpa[wf]using hw
  have hxl:=bE9 hwl hrl;simp only[cnt]at hl;have hvl:=hv.length;refine bN Tryz.func218 Y Tryz.ntmps218 Y Y fun F w=>?_;refine zz7 ?_;refine uAt ?_;refine zz1 ?_;rintro _ K _ ⟨b7,rfl,rfl,rfl⟩ -;refine cD (cX iF Y Y Y bR gC1 (.cons (.cons (.cons (.cons (.cons (.cons (.cons .nil))))))) gC8) ?_;rintro _ K _ ⟨rfl,rfl⟩ -;refine zz2 ?_;refine dX (fun(j:Int)=>j=if tn=true then 4 else 5) (fun _=>[(0,ptr b),(1,.iface 329 (.agg #[.bool all,.slice sa sn sc])),(2,.bool tn),(7,ptr b7)]) (fun _=>K) (fun j=>[pt b7 (bL [i64 j,i64 0,i64 0,.bool false,.slice none 0 0,.slice none 0 0,i64 0] 45),cdr b vs]) ?_ ?_
  · refine zz5 ?_;refine d9 19 Y (fun h19=>?_) (fun h19=>?_)
    · refine zz2 ?_;refine uAm ?_;rintro _ K _ ⟨rfl,rfl⟩ -;refine aG ?_;exact a8 _ gE7 aS Y (fun _ h=>h)
    refine aW ?_;exact a8 _ gE7 aS Y (fun _ h=>h)
  intro j hj;refine zz9 ?_;refine aA (fG Tryz.underlying269 (fun _ h=>by cases h) Y aRH Y) Y (zz7 ?_);refine aA (fG Tryz.underlying265 (fun _ h=>by cases h) Y aWR Y) Y (zz7 ?_);refine aA (jX Tryz.underlying329 (fun _ h=>by cases h) Y) Y (zz8 ?_);rintro _ K _ ⟨b10,rfl,rfl,rfl⟩ -;refine cD (cX aNJ Y Y Y bR gC1 (.cons (.cons .nil)) gC8) ?_;rintro _ K _ ⟨rfl,rfl⟩ -;refine zz11 ?_;refine j4 (eL (fK 3)) ?_;refine j4 (eL (fK 3)) (zz2 ?_);refine aA (bU (k:=(cC 264)) Y Tryz.underlying327 Y aL) Y (zz4 ?_);refine mV (aM e7 (aM bW (aM bW (aM cI bF)))) ?_;refine aNE (fun(K2:Hl) (i:Nat) (av hv2:Value) (vs2:List InsV) (aw he:List Nat)=>K.le K2∧i≤xs.length∧∃rest ops2,Rep K2 rest (xs.drop i)∧wf rest 1=true∧UnlL rest∧RIs K2 vs2 ops2∧unlL all tn l ops [] []=unlL all tn rest ops2 aw he∧vs2.length+2*cnt rest≤900000∧aw.length+cnt rest≤900000∧he.length+cnt rest≤900000) (fun _ i av hv2 _ _ _=>[(0,ptr b),(2,.bool tn),(10,ptr b10),(11,av),(12,hv2),(46,.slice sa sn sc),(47,i64 (xs.map Prod.fst).length),(48,i64 i)]) (fun K2 _ _ _ _ _ _=>K2) (fun _ _ av hv2 vs2 aw he=>[pt b10 (bL [.bool all,.slice sa sn sc] 329),sl false (fK 3) av aw,sl false (fK 3) hv2 he,cdr b vs2]) (fun _ i _ _ _ _ _=>xs.length - i) K 0 _ _ vs [] [] ⟨xAB _,x9 _,l,ops,hrl,hwl,ih,hv,Y,by omega,by simp;omega,by simp;omega⟩ aS Y (fun _ h=>h) ?_;intro K2 i av hv2 vs2 aw he ⟨leL,hi0,rest,ops2,hrr,hwr,ihr,hv2r,hx,hb1,hb2,hb3⟩;have hSl:Ksl (cC 264) K2 (.slice sa sn sc) (xs.map Prod.fst):=hS.mono leL;have hml:(xs.map Prod.fst).length=xs.length:=xAS _;refine zz6 ?_;refine aY 49 Y (fun h49=>?_) (fun h49=>?_)
  · have hilt:i < xs.length:=by omega
    obtain⟨t1,l1,c,rfl,hrt,hrl1,hxi,hwt,hwl1⟩:=aZY hwr hrr hilt;obtain⟨⟨cv,hcv⟩,hc⟩:∃c2,c=c2:=⟨_,rfl⟩;subst hc;obtain⟨ty2,u2,hce⟩:=aDU (.inl hwt) hrt;cases hce
    have hget:(xs.map Prod.fst)[i]?=some ⟨.iface ty2 u2,hcv⟩:=(by rw[xAQ,hxi];rfl);simp only[cnt]at hb1 hb2 hb3;have hun:=(mH t1).1;have hnil:=bFB hwl1 hrl1;have hdl:(xs.drop (i+1)).length=xs.length - (i+1):=xBA;have hv2l:=hv2r.length;refine zz7 ?_;refine aA (aX (k:=(cC 264)) uE Y aL Y Y gDB) Y ?_;refine aA (cE (o:=0) (k:=(cC 264)) yK Y aL b0 Y) Y (zz10 ?_);refine aA (aBT Tryz.underlying4 Y Y) Y (zz3 ?_);refine d9 59 Y (fun h59=>?_) (fun h59=>?_)
    · refine zz5 ?_;refine bA Y Y (ihr.1 hwt b tn ty2 u2 vs2 ops2 _ hrt hv2r aH) bS Y ?_;rintro pv K3 _ ⟨vs3,hv3,rfl⟩ leM;have hu:=hun tn ops2;refine cJ (dQ (k:=(fK 3)) (ys:=(unl t1 tn ops2).2) wK Y Y (.there (.there (.there .here))) (fun w j=>dJ Tryz.underlying24 (SeesSl.at (k:=fK 3) aL j)) gC9 gC9) Y ?_;rintro v69 K _ ⟨rfl,rfl,ho69⟩ -;refine zz9 ?_
      first
        | (have hcc : ¬ (all = tn ∧ gS l1 = false) := gEA
           refine aQ (aM nC (aM bW (aM e7 (aM cI bF)))) ?_;refine mS _ (i+1) _ hv2 vs3 (aw++(unl t1 tn ops2).2) he ⟨x6 leL leM,by omega,l1,_,hrl1.mono leM,hwl1,ihr.2,hv3,by rw[hx,aUU hcc],by have:=hv3.length;omega,by rw[xAF];omega,by omega⟩ aH aS Y cV)
        | (have hcc : all = tn ∧ gS l1 = false := ⟨by simpa using h59, hnil.2 aH⟩
           refine aQ (aM nC (aM nC (aM bW (aM cI bF)))) ?_;refine mS _ (i+1) av _ vs3 aw (he++(unl t1 (!tn) ops2).2) ⟨x6 leL leM,by omega,l1,_,hrl1.mono leM,hwl1,ihr.2,hv3,by rw[hx,aUV hcc],by have:=hv3.length;omega,by omega,by rw[xAF];omega⟩ aH aS Y cV)
    refine zz5 ?_;refine aA (bU (k:=(cC 264)) Y Tryz.underlying327 Y aL) Y (zz5 ?_);refine aY 70 Y (fun h70=>?_) (fun h70=>?_)
    · refine zz5 ?_;refine aA gC3 Y ?_;refine bA Y Y (ihr.1 hwt b (!tn) ty2 u2 vs2 ops2 _ hrt hv2r aH) bS Y ?_;rintro pv K3 _ ⟨vs3,hv3,rfl⟩ leM;have hu:=hun (!tn) ops2;refine cJ (dQ (k:=(fK 3)) (ys:=(unl t1 (!tn) ops2).2) wK Y Y (.there (.there (.there (.there .here)))) (fun w j=>dJ Tryz.underlying24 (SeesSl.at (k:=fK 3) aL j)) gC9 gC9) Y ?_;rintro v83 K _ ⟨rfl,rfl,ho83⟩ -;refine zz9 ?_
      first
        | (have hcc : ¬ (all = tn ∧ gS l1 = false) := gEA
           refine aQ (aM nC (aM bW (aM e7 (aM cI bF)))) ?_;refine mS _ (i+1) _ hv2 vs3 (aw++(unl t1 tn ops2).2) he ⟨x6 leL leM,by omega,l1,_,hrl1.mono leM,hwl1,ihr.2,hv3,by rw[hx,aUU hcc],by have:=hv3.length;omega,by rw[xAF];omega,by omega⟩ aH aS Y cV)
        | (have hcc : all = tn ∧ gS l1 = false := ⟨by simpa using h59, hnil.2 aH⟩
           refine aQ (aM nC (aM nC (aM bW (aM cI bF)))) ?_;refine mS _ (i+1) av _ vs3 aw (he++(unl t1 (!tn) ops2).2) ⟨x6 leL leM,by omega,l1,_,hrl1.mono leM,hwl1,ihr.2,hv3,by rw[hx,aUV hcc],by have:=hv3.length;omega,by omega,by rw[xAF];omega⟩ aH aS Y cV)
    refine zz5 ?_;refine bA Y Y (ihr.1 hwt b tn ty2 u2 vs2 ops2 _ hrt hv2r aH) bS Y ?_;rintro pv K3 _ ⟨vs3,hv3,rfl⟩ leM;have hu:=hun tn ops2;refine cJ (dQ (k:=(fK 3)) (ys:=(unl t1 tn ops2).2) wK Y Y (.there (.there (.there .here))) (fun w j=>dJ Tryz.underlying24 (SeesSl.at (k:=fK 3) aL j)) gC9 gC9) Y ?_;rintro v58 K _ ⟨rfl,rfl,ho58⟩ -;refine zz9 ?_
    first
      | (have hcc : ¬ (all = tn ∧ gS l1 = false) := gEA
         refine aQ (aM nC (aM bW (aM e7 (aM cI bF)))) ?_;refine mS _ (i+1) _ hv2 vs3 (aw++(unl t1 tn ops2).2) he ⟨x6 leL leM,by omega,l1,_,hrl1.mono leM,hwl1,ihr.2,hv3,by rw[hx,aUU hcc],by have:=hv3.length;omega,by rw[xAF];omega,by omega⟩ aH aS Y cV)
      | (have hcc : all = tn ∧ gS l1 = false := ⟨by simpa using h59, hnil.2 aH⟩
         refine aQ (aM nC (aM nC (aM bW (aM cI bF)))) ?_;refine mS _ (i+1) av _ vs3 aw (he++(unl t1 (!tn) ops2).2) ⟨x6 leL leM,by omega,l1,_,hrl1.mono leM,hwl1,ihr.2,hv3,by rw[hx,aUV hcc],by have:=hv3.length;omega,by omega,by rw[xAF];omega⟩ aH aS Y cV)
  have hend:unlL all tn l ops [] []=(ops2,aw,he):=(by rw[hx];exact bE6 hwr hrr (List.drop_eq_nil_of_le aH));have hpl:=((mH l).2 all tn ops [] [] (by simp) (by simp));rw[hend]at hpl;simp only[List.length_nil]at hpl;have hv2l:=hv2r.length;refine zz9 ?_;refine bA Y Y (uW b hv2 vs2 he _ aH aH (fun k hk=>by have:=hpl.2.2.2.2.2 k hk;omega)) bS Y ?_;rintro _ K _ ⟨rfl,rfl,rfl⟩ -;refine zz11 ?_;refine uAj ?_;refine bI Y Y leL ?_;have e:unl (.many all l) tn ops=(land ops2 he,aw):=(by simp only[unl,hend]);rw[e];exact⟨_,Y,_,hv2r.land,Y⟩
def bKI:∀(t:Tree),UnlS t∧UnlL t:=by
 intro t;induction t with
 |const p=>exact⟨bBF p,trivial⟩
 |not_ t ih=>exact⟨bKM t ih.1,trivial⟩
 |many all l ih=>exact⟨bHD all l ih.2,trivial⟩
 |mat tag oct op a b=>exact⟨bKL tag oct op a b,trivial⟩
 |exi a=>exact⟨bKJ a,trivial⟩
 |siz tag n=>exact⟨bKN tag n,trivial⟩
 |tcons t l ih1 ih2=>exact⟨fun h=>by simp[wf]at h,ih1.1,ih2.2⟩
 |_=>exact⟨fun h=>by simp[wf]at h,trivial⟩
def aZV{K:Hl}{rest:Tree}{xs:List (Cell×Cell)}{i:Nat}(hw:wf rest 3=true)(hr:Rep K rest (xs.drop i))(hi:i < xs.length):
  ∃t l c,rest=.ccons t l∧Rep K t [(c,u0)]∧Rep K l (xs.drop (i+1))∧xs[i]?=some (c,u0)∧wf t 2=true∧wf l 3=true:=by
 have hd:xs.drop i≠[]:=by intro h;have:=xAE List.length h;simp at this;omega
 cases rest <;> simp only[wf,Rep]at hw hr
 case cnil=>exact absurd hr hd
 case ccons t l=>
  obtain⟨c,ys,h1,h2,h3⟩:=hr;simp at hw;have e:xs.drop (i+1)=ys:=by rw[←List.drop_drop,h3];rfl
  refine⟨t,l,c,Y,h1,by rw[e];exact h2,?_,hw.1,hw.2⟩
  have:=xA2 (xs:=xs) (i:=i) (j:=0);rw[h3]at this;simpa using this.symm
 all_goals simp at hw
def bE5{K:Hl}{rest:Tree}{ys:List (Cell×Cell)}(hw:wf rest 3=true)(hr:Rep K rest ys)(he:ys=[]){ops:List Mach.Ins}:body rest ops=ops:=by
 cases rest <;> simp only[wf,Rep]at hw hr
 case cnil=>simp[body]
 case ccons t l=>obtain⟨c,zs,_,_,rfl⟩:=hr;cases he
 all_goals simp at hw
def bI8{K:Hl}{c:Tree}{ty:TypeId}{u:Value}{hc:(Value.iface ty u).oneCell'=true}(hw:wf c 2=true)(h:Rep K c [(⟨.iface ty u,hc⟩,u0)]):
  (∃op,c=.plain op∧ty=261∧u=.agg #[i64 op])∨(∃k a p,c=.act k a p∧ty=258∧u=.agg #[i64 k,str a,i64 p])∨(∃n v t,c=.set_ n v t∧ty=284∧u=.agg #[str n,str v,i64 t])∨
  (∃bs ys sa sn sc,c=.iff bs∧ty=287∧u=.agg #[.slice sa sn sc]∧Rep K bs ys∧Ksl (dT 324) K (.slice sa sn sc) ys∧wf bs 4=true):=by
 cases c <;> simp only[wf,Rep]at hw h
 case plain op=>cases h;exact .inl ⟨op,Y,Y,Y⟩
 case act k a p=>cases h;exact .inr (.inl ⟨k,a,p,Y,Y,Y⟩)
 case set_ n v t=>cases h;exact .inr (.inr (.inl ⟨n,v,t,Y,Y,Y⟩))
 case iff bs=>
  obtain⟨ys,sv,h1,h2,h3⟩:=h;obtain⟨sa,sn,sc,rfl⟩:=h2.isSlice;cases h3
  exact .inr (.inr (.inr ⟨bs,ys,sa,sn,sc,Y,Y,Y,h1,h2,by simpa using hw⟩))
 all_goals simp at hw
def RIs.one_{K:Hl}{x:InsV}{o:Mach.Ins}(h1:RIns K x o):RIs K [x] [o]:=⟨h1,trivial⟩
abbrev bKS(b:Nat)(r:List Mach.Ins):Ending→Hl→List Asn→Prop:=Ret fun v K' L'=>v=.tuple #[]∧∃vs',RIs K' vs' r∧L'=[cdr b vs']
def aVC(l:Tree):Prop:=wf l 3=true→∀(b:Nat) (sv:Value) (xs:List (Cell×Cell)) (vs:List InsV) (ops:List Mach.Ins) (K:Hl),Rep K l xs→Ksl (cC 198) K sv (xs.map Prod.fst)→RIs K vs ops→vs.length+2*cnt l≤900000→Sp x3 116 [ptr b,sv] K [cdr b vs] (bKS b (body l ops))
def BrS(l:Tree):Prop:=wf l 4=true→∀(b:Nat) (sa:Option Addr) (sn sc:Nat) (xs:List (Cell×Cell)) (vs:List InsV) (ops:List Mach.Ins) (K:Hl),Rep K l xs→Ksl (dT 324) K (.slice sa sn sc) xs→RIs K vs ops→vs.length+2*cnt l≤900000→Sp x3 184 [ptr b,.agg #[.slice sa sn sc]] K [cdr b vs] (bKS b (dZ l ops []))
def bKT:Tree→Prop
 | .iff bs=>BrS bs
 |_=>True
def aVB:Tree→Prop
 | .ccons c l=>bKT c∧aVB l
 |_=>True
def mR{t:Tree}(h:wf t 2=true):1≤cnt t:=by
 cases t <;> simp only[wf,cnt]at h ⊢ <;> first|omega|(simp at h)
def bE8{K:Hl}:∀ {l:Tree} {xs:List (Cell×Cell)},wf l 3=true→Rep K l xs→xs.length≤cnt l:=by
 intro l;induction l with
 |cnil=>intro xs _ h;cases (show xs=[]from h);simp
 |ccons t l ih1 ih2=>
  rintro xs hw ⟨v,ys,h1,h2,rfl⟩;simp[wf]at hw;have:=ih2 hw.2 h2;have:=mR hw.1;simp only[cnt,List.length_cons];omega
 |_=>intro xs hw _;simp[wf]at hw
def aOB(l:Tree)(ih:aVB l):aVC l:=by
 intro hw b sv xs vs ops K hr hS hv hl;have hxl:=bE8 hw hr;refine bN Tryz.func116 Y Tryz.ntmps116 Y Y fun F w=>?_;have hml:(xs.map Prod.fst).length=xs.length:=xAS _;refine zz3 ?_;refine aA (bU (k:=(cC 198)) Y Tryz.underlying147 Y aL) Y (zz4 ?_);refine lK (fun(K2:Hl) (i:Nat) (vs2:List InsV)=>K.le K2∧i≤xs.length∧∃rest ops2,Rep K2 rest (xs.drop i)∧wf rest 3=true∧aVB rest∧RIs K2 vs2 ops2∧body l ops=body rest ops2∧vs2.length+2*cnt rest≤900000) (fun _ i _=>[(0,ptr b),(11,sv),(12,i64 (xs.map Prod.fst).length),(13,i64 i)]) (fun K2 _ _=>K2) (fun _ _ vs2=>[cdr b vs2]) (fun _ i _=>xs.length - i) K 0 vs ⟨xAB _,x9 _,l,ops,hr,hw,ih,hv,Y,hl⟩ aS Y (fun _ h=>h) ?_;intro K2 i vs2 ⟨leL,hi0,rest,ops2,hrr,hwr,ihr,hv2,hx,hb⟩;have hSl:Ksl (cC 198) K2 sv (xs.map Prod.fst):=hS.mono leL;have hv2l:=hv2.length;refine zz6 ?_;refine aY 14 Y (fun h14=>?_) (fun h14=>?_)
 ·have hilt:i < xs.length:=by omega
  obtain⟨c,l1,cc,rfl,hrt,hrl1,hxi,hwt,hwl1⟩:=aZV hwr hrr hilt;obtain⟨⟨cv,hcv⟩,hc⟩:∃c2,cc=c2:=⟨_,rfl⟩;subst hc;obtain⟨ty2,u2,hce⟩:=aDU (.inr hwt) hrt;cases hce
  have hget:(xs.map Prod.fst)[i]?=some ⟨.iface ty2 u2,hcv⟩:=(by rw[xAQ,hxi];rfl);simp only[cnt]at hb;have hcl:=(m8 c).2.1 ops2;refine zz6 ?_;refine aA (aX (k:=(cC 198)) yJ Y aL Y Y gDB) Y ?_;refine aA (cE (o:=0) (k:=(cC 198)) bLE Y aL b0 Y) Y (zz3 ?_);rcases bI8 hwt hrt with ⟨op,rfl,rfl,rfl⟩|⟨k,a,p,rfl,rfl,rfl⟩|⟨n,v,t,rfl,rfl,rfl⟩|⟨bs,ys,sa,sn,sc,rfl,rfl,rfl,hrb,hSb,hwb⟩
  ·refine zz8 ?_;refine aA (jX Tryz.underlying261 (fun _ h=>by cases h) Y) Y (zz8 ?_);rintro _ K _ ⟨b6,rfl,rfl,rfl⟩ -;refine cD (cX bJ5 Y Y Y bR gC1 (.cons .nil) gC8) ?_;rintro _ K _ ⟨rfl,rfl⟩ -;refine zz6 ?_;refine uAt ?_;refine cJ (bM (z0:=[.int .i64 0,.int .i64 0,.int .i64 0,.bool false,.slice none 0 0,.slice none 0 0,.int .i64 0]) eU rL Y Y Y Y dF) Y ?_;rintro _ K _ ⟨b25,rfl,rfl,rfl⟩ -;refine bA Y Y (nN b b25 vs2 [jmpV op] _ _ Y gFU) bS Y ?_;rintro _ K _ ⟨rfl,rfl,rfl⟩ -;have hv3:RIs _ _ (cmdI (.plain op) ops2):=RIs.append (ws:=[jmpV op]) (ps:=[jmp op]) ⟨tB _ _,trivial⟩ hv2;have leM:=xAB K;refine zz8 ?_;refine uAa ?_;refine eF _ (i+1) _ ⟨x6 leL leM,by omega,l1,_,hrl1.mono leM,hwl1,ihr.2,hv3,by rw[hx];simp only[body,cmdI],by have:=hv3.length;simp only[cmdI]at this hcl;omega⟩ aH aS Y cV
  ·refine zz8 ?_;refine aA (fG Tryz.underlying261 (fun _ h=>by cases h) Y bG6 Y) Y (zz7 ?_);refine aA (jX Tryz.underlying258 (fun _ h=>by cases h) Y) Y (zz8 ?_);rintro _ K _ ⟨b7,rfl,rfl,rfl⟩ -;refine cD (cX bJ4 Y Y Y bR gC1 (.cons (.cons (.cons .nil))) gC8) ?_;rintro _ K _ ⟨rfl,rfl⟩ -;refine zz8 ?_;refine uAt ?_;refine zz1 ?_;rintro _ K _ ⟨b8,rfl,rfl,rfl⟩ -;refine cD (cX iF Y Y Y bR gC1 (.cons (.cons (.cons (.cons (.cons (.cons (.cons .nil))))))) gC8) ?_;rintro _ K _ ⟨rfl,rfl⟩ -;refine zz10 ?_;refine aY 37 Y (fun h37=>?_) (fun h37=>?_)
   ·refine zz3 ?_;refine cJ (bM (z0:=[(str [])]) cB tz9 Y Y Y Y dF) Y ?_;rintro _ K _ ⟨b40,rfl,rfl,rfl⟩ -;refine kL fun K3 leM hb40=>?_;refine zz1 ?_;refine uAh ?_;rintro _ K _ ⟨rfl,rfl⟩ -;refine zz5 ?_;refine cJ (bM (z0:=[.int .i64 0,.int .i64 0,.int .i64 0,.bool false,.slice none 0 0,.slice none 0 0,.int .i64 0]) eU rL Y Y Y Y dF) Y ?_;rintro _ K _ ⟨b44,rfl,rfl,rfl⟩ -;refine bA Y Y (nN b b44 vs2 [⟨11,0,k,false,⟨.slice (some ⟨b40,0,none⟩) 1 1,Y⟩,nilC,p⟩] _ _ Y gFU) bS Y ?_;rintro _ K _ ⟨rfl,rfl,rfl⟩ -;have hv3:RIs _ _ (cmdI (.act k a p) ops2):=(by simp only[cmdI];rw[x5 h37];exact RIs.append (RIs.one_ (x:=⟨11,0,k,false,⟨.slice (some ⟨b40,0,none⟩) 1 1,Y⟩,nilC,p⟩) ⟨Y,Y,Y,Y,Y,.inr ⟨b40,0,1,[str a],(0,0),Y,⟨_,hb40⟩,Y⟩,tW _⟩) (hv2.mono leM));refine zz8 ?_;refine uAa ?_;refine eF _ (i+1) _ ⟨x6 leL leM,by omega,l1,_,hrl1.mono leM,hwl1,ihr.2,hv3,by rw[hx];simp only[body,cmdI],by have:=hv3.length;simp only[cmdI]at this hcl;omega⟩ aH aS Y cV
   refine zz5 ?_;refine cJ (bM (z0:=[.int .i64 0,.int .i64 0,.int .i64 0,.bool false,.slice none 0 0,.slice none 0 0,.int .i64 0]) eU rL Y Y Y Y dF) Y ?_;rintro _ K _ ⟨b44,rfl,rfl,rfl⟩ -;refine bA Y Y (nN b b44 vs2 [⟨11,0,k,false,nilC,nilC,p⟩] _ _ Y gFU) bS Y ?_;rintro _ K _ ⟨rfl,rfl,rfl⟩ -;have leM:=xAB K;have hv3:RIs _ _ (cmdI (.act k a p) ops2):=(by simp only[cmdI];rw[x7 (xBD.1 h37)];exact RIs.append (RIs.one_ (x:=⟨11,0,k,false,nilC,nilC,p⟩) ⟨Y,Y,Y,Y,Y,tW _,tW _⟩) hv2);refine zz8 ?_;refine uAa ?_;refine eF _ (i+1) _ ⟨x6 leL leM,by omega,l1,_,hrl1.mono leM,hwl1,ihr.2,hv3,by rw[hx];simp only[body,cmdI],by have:=hv3.length;simp only[cmdI]at this hcl;omega⟩ aH aS Y cV
  ·refine zz8 ?_;refine aA (fG Tryz.underlying261 (fun _ h=>by cases h) Y bG6 Y) Y (zz7 ?_);refine aA (fG Tryz.underlying258 (fun _ h=>by cases h) Y bLH Y) Y (zz7 ?_);refine aA (jX Tryz.underlying284 (fun _ h=>by cases h) Y) Y (zz8 ?_);rintro _ K _ ⟨b9,rfl,rfl,rfl⟩ -;refine cD (cX aNI Y Y Y bR gC1 (.cons (.cons (.cons .nil))) gC8) ?_;rintro _ K _ ⟨rfl,rfl⟩ -;refine zz8 ?_;refine cJ (bM (z0:=[(str [])]) cB tz9 Y Y Y Y dF) Y ?_;rintro _ K _ ⟨b54,rfl,rfl,rfl⟩ -;refine zz2 ?_;refine cJ (bM (z0:=[(str [])]) cB tz9 Y Y Y Y dF) Y ?_;rintro _ K _ ⟨b57,rfl,rfl,rfl⟩ -;refine kL fun K3 leM1 hb57=>?_;refine kL fun K4 leM2 hb54=>?_;have leM:=x6 leM1 leM2;have hb57:=leM2 _ _ hb57;refine uAt ?_;refine cJ (bM (z0:=[.int .i64 0,.int .i64 0,.int .i64 0,.bool false,.slice none 0 0,.slice none 0 0,.int .i64 0]) eU rL Y Y Y Y dF) Y ?_;rintro _ K _ ⟨b59,rfl,rfl,rfl⟩ -;refine bA Y Y (nN b b59 vs2 [⟨12,0,t,false,⟨.slice (some ⟨b54,0,none⟩) 1 1,Y⟩,⟨.slice (some ⟨b57,0,none⟩) 1 1,Y⟩,0⟩] _ _ Y gFU) bS Y ?_;rintro _ K _ ⟨rfl,rfl,rfl⟩ -;have hv3:RIs _ _ (cmdI (.set_ n v t) ops2):=RIs.append (RIs.one_ (x:=⟨12,0,t,false,⟨.slice (some ⟨b54,0,none⟩) 1 1,rfl⟩,⟨.slice (some ⟨b57,0,none⟩) 1 1,rfl⟩,0⟩) ⟨rfl,rfl,rfl,rfl,rfl,.inr ⟨b54,0,1,[str n],(0,0),rfl,⟨_,hb54⟩,rfl⟩,.inr ⟨b57,0,1,[str v],(0,0),rfl,⟨_,hb57⟩,rfl⟩⟩) (hv2.mono leM);refine zz8 ?_;refine uAa ?_;refine eF _ (i+1) _ ⟨x6 leL leM,by omega,l1,_,hrl1.mono leM,hwl1,ihr.2,hv3,by rw[hx];simp only[body,cmdI],by have:=hv3.length;simp only[cmdI]at this hcl;omega⟩ aH aS Y cV
  refine zz8 ?_;refine aA (fG Tryz.underlying261 (fun _ h=>by cases h) Y bG6 Y) Y (zz7 ?_);refine aA (fG Tryz.underlying258 (fun _ h=>by cases h) Y bLH Y) Y (zz7 ?_);refine aA (fG Tryz.underlying284 (fun _ h=>by cases h) Y bPP Y) Y (zz7 ?_);refine aA (jX Tryz.underlying287 (fun _ h=>by cases h) Y) Y (zz8 ?_);rintro _ K _ ⟨b10,rfl,rfl,rfl⟩ -;refine cD (cX uA Y Y Y bR gC1 (.cons .nil) gC8) ?_;rintro _ K _ ⟨rfl,rfl⟩ -;refine zz5 ?_;refine bA Y Y (ihr.1 hwb b sa sn sc ys vs2 ops2 _ hrb hSb hv2 (by simp only[cnt]at hb;omega)) bS Y ?_;rintro _ K3 _ ⟨rfl,vs3,hv3,rfl⟩ leM;refine zz8 ?_;refine uAa ?_;refine eF _ (i+1) _ ⟨x6 leL leM,by omega,l1,_,hrl1.mono leM,hwl1,ihr.2,hv3,by rw[hx];simp only[body,cmdI],by have:=hv3.length;simp only[cmdI]at this hcl;omega⟩ aH aS Y cV
 have hend:body l ops=ops2:=(by rw[hx];exact bE5 hwr hrr (List.drop_eq_nil_of_le aH));refine zz4 ?_;refine uAa ?_;refine dK Y leL ?_;rw[hend];exact⟨_,Y,Y,vs2,hv2,Y⟩
def BrL:Tree→Prop
 | .bcons _ b l=>aVC b∧BrL l
 | .belse b l=>aVC b∧BrL l
 |_=>True
def bMS{K:Hl}{rest:Tree}{xs:List (Cell×Cell)}{i:Nat}(hw:wf rest 4=true)(hr:Rep K rest (xs.drop i))(hi:i < xs.length):
  ∃ tv sa sn sc, xs[i]? = some (tv, ⟨.slice sa sn sc, rfl⟩) ∧ ((∃ t bd l ys ty u, rest = .bcons t bd l ∧ tv.1 = .iface ty u ∧ Rep K t [(tv, u0)] ∧ Rep K bd ys ∧ Ksl (cC 198) K (.slice sa sn sc) (ys.map Prod.fst) ∧ Rep K l (xs.drop (i + 1)) ∧ wf t 0 = true ∧ wf bd 3 = true ∧ wf l 4 = true) ∨
   (∃bd l ys,rest=.belse bd l∧tv.1=.nilIface∧Rep K bd ys∧Ksl (cC 198) K (.slice sa sn sc) (ys.map Prod.fst)∧wf bd 3=true)):=by
 have hd:xs.drop i≠[]:=by intro h;have:=xAE List.length h;simp at this;omega
 have hget:∀ {x:Cell×Cell} {ys:List (Cell×Cell)},xs.drop i=x::ys→xs[i]?=some x∧xs.drop (i+1)=ys:=by
  intro x ys h3;refine⟨?_,by rw[←List.drop_drop,h3];rfl⟩
  have:=xA2 (xs:=xs) (i:=i) (j:=0);rw[h3]at this;simpa using this.symm
 cases rest <;> simp only[wf,Rep]at hw hr
 case bnil=>exact absurd hr hd
 case bcons t bd l=>
  obtain⟨v,ys,⟨sv,hsv⟩,zs,h1,h2,h3,h4,h5,h6⟩:=hr;obtain⟨ty,u,h2⟩:=h2;simp at hw;obtain⟨sa,sn,sc,rfl⟩:=h4.isSlice;obtain⟨e1,e2⟩:=hget h6;exact⟨v,sa,sn,sc,e1,.inl ⟨t,bd,l,ys,ty,u,Y,h2,h1,h3,h4,by rw[e2];exact h5,hw.1,hw.2.1,hw.2.2⟩⟩
 case belse bd l=>
  obtain⟨ys,⟨sv,hsv⟩,zs,h3,h4,h5,h6⟩:=hr;simp at hw;obtain⟨sa,sn,sc,rfl⟩:=h4.isSlice;obtain⟨e1,e2⟩:=hget h6;exact⟨_,sa,sn,sc,e1,.inr ⟨bd,l,ys,Y,Y,h3,h4,hw.1⟩⟩
 all_goals simp at hw
def bFA{K:Hl}{l:Tree}{ys:List (Cell×Cell)}(hw:wf l 4=true)(hr:Rep K l ys):gS l=true↔ys.length=0:=by
 cases l <;> simp only[wf,Rep]at hw hr
 case bnil=>subst hr;simp[gS]
 case bcons t b l=>obtain⟨v,zs,sv,ws,_,_,_,_,_,rfl⟩:=hr;simp[gS]
 case belse b l=>obtain⟨zs,sv,ws,_,_,_,rfl⟩:=hr;simp[gS]
 all_goals simp at hw
def bE4{K:Hl}{rest:Tree}{ys:List (Cell×Cell)}(hw:wf rest 4=true)(hr:Rep K rest ys)(he:ys=[]){ops:List Mach.Ins}{out:List Nat}:dZ rest ops out=land ops out:=by
 cases rest <;> simp only[wf,Rep]at hw hr
 case bnil=>simp[dZ]
 case bcons t b l=>obtain⟨v,zs,sv,ws,_,_,_,_,_,rfl⟩:=hr;cases he
 case belse b l=>obtain⟨zs,sv,ws,_,_,_,rfl⟩:=hr;cases he
 all_goals simp at hw
def bE7{K:Hl}:∀ {l:Tree} {xs:List (Cell×Cell)},wf l 4=true→Rep K l xs→xs.length≤cnt l:=by
 intro l;induction l with
 |bnil=>intro xs _ h;cases (show xs=[]from h);simp
 |bcons t b l ih1 ih2 ih3=>
  rintro xs hw ⟨v,ys,sv,ws,h1,h2,h3,h4,h5,rfl⟩;simp[wf]at hw;have:=ih3 hw.2.2 h5;simp only[cnt,List.length_cons];omega
 |belse b l ih1 ih2=>
  rintro xs hw ⟨ys,sv,ws,h3,h4,h5,rfl⟩;simp[wf]at hw;have:=ih2 hw.2 h5;simp only[cnt,List.length_cons];omega
 |_=>intro xs hw _;simp[wf]at hw
def aGF{t b l:Tree}{ops:List Mach.Ins}{out:List Nat}(h:gS l=true):dZ (.bcons t b l) ops out=dZ l (land (body b (unl t false ops).1) (unl t false ops).2) out:=by
 simp only[dZ];rw[x7 h]
def aGG{t b l:Tree}{ops:List Mach.Ins}{out:List Nat}(h:¬gS l=true):dZ (.bcons t b l) ops out=dZ l (land (body b (unl t false ops).1++[jmp 3]) (unl t false ops).2) (out++[(body b (unl t false ops).1).length]):=by
 simp only[dZ];rw[x5 h]
def aRZ(bs:Tree)(ih:BrL bs):BrS bs:=by
  intro hw b sa sn sc xs vs ops K hr hS hv hl;have hxl:=bE7 hw hr;refine bN Tryz.func184 Y Tryz.ntmps184 Y Y fun F w=>?_;refine zz3 ?_;rintro _ K _ ⟨b3,rfl,rfl,rfl⟩ -;refine zz10 ?_;refine j4 (eL (fK 3)) (zz2 ?_);refine aA (bU (k:=(dT 324)) Y Tryz.underlying285 Y aL) Y (zz4 ?_);refine aNE (fun(K2:Hl) (i:Nat) (ov:Value) (vs2:List InsV) (out:List Nat) (_ _:Unit)=>K.le K2∧i≤xs.length∧∃rest ops2,Rep K2 rest (xs.drop i)∧wf rest 4=true∧BrL rest∧RIs K2 vs2 ops2∧dZ bs ops []=dZ rest ops2 out∧vs2.length+2*cnt rest≤900000∧out.length+cnt rest≤900000∧∀k∈out,k < vs2.length) (fun _ i ov _ _ _ _=>[(0,ptr b),(3,ptr b3),(4,ov),(9,.slice sa sn sc),(10,i64 xs.length),(11,i64 i)]) (fun K2 _ _ _ _ _ _=>K2) (fun _ _ ov vs2 out _ _=>[sl false (fK 3) ov out,pt b3 (bL [.slice sa sn sc] 287),cdr b vs2]) (fun _ i _ _ _ _ _=>xs.length - i) K 0 _ vs [] () () ⟨xAB _,x9 _,bs,ops,hr,hw,ih,hv,Y,hl,by simp;omega,by simp⟩ (.cons 0 Y (.cons 3 Y (.cons 4 Y (.cons 9 Y (.cons 10 Y (.cons 11 Y .nil)))))) Y (fun _ h=>h) ?_;intro K2 i ov vs2 out _ _ ⟨leL,hi0,rest,ops2,hrr,hwr,ihr,hv2,hx,hb1,hb2,hout⟩;have hSl:Ksl (dT 324) K2 (.slice sa sn sc) xs:=hS.mono leL;have hv2l:=hv2.length;refine zz6 ?_;refine aY 12 Y (fun h12=>?_) (fun h12=>?_)
  · have hilt:i < xs.length:=by omega
    obtain⟨⟨tv,htv⟩,ta,tn,tc,hget,hcase⟩:=bMS hwr hrr hilt;refine zz2 ?_;rcases hcase with ⟨t,bd,l1,ys,ty,u,rfl,htv2,hrt,hrbd,hSbd,hrl1,hwt,hwbd,hwl1⟩|⟨bd,l1,ys,rfl,htv2,hrbd,hSbd,hwbd⟩
    · obtain rfl:tv=.iface ty u:=htv2;simp only[cnt]at hb1 hb2;have hu:=(mH t).1 false ops2;have hbl:=(m8 bd).1 (unl t false ops2).1;have hdl:(xs.drop (i+1)).length=xs.length - (i+1):=xBA;have hnil:=bFA hwl1 hrl1;refine zz5 ?_;refine aA (aX (k:=(dT 324)) uD Y aL Y Y gDB) Y ?_;refine aA (fA (n:=0) (k:=(dT 324)) zI Y aL b0) Y (zz1 ?_);rintro _ K _ ⟨b6,rfl,rfl,rfl⟩ -;refine zz1 ?_;refine cD (cX zI Y Y Y bR gC1 (.cons (.cons .nil)) gC8) ?_;rintro _ K _ ⟨rfl,rfl⟩ -;refine zz18 ?_;refine bA Y Y ((bKI t).1 hwt b false ty u vs2 ops2 _ hrt hv2 aH) (.cons (.there (.there (.there .here))) .nil) Y ?_;rintro nv K3 _ ⟨vs3,hv3,rfl⟩ leM;have hv3l:=hv3.length;refine zz8 ?_;refine bA Y Y (ihr.1 hwbd b (.slice ta tn tc) ys vs3 _ _ (hrbd.mono leM) (hSbd.mono leM) hv3 aH) (.cons (.there .here) .nil) Y ?_;rintro _ K4 _ ⟨rfl,vs4,hv4,rfl⟩ leN;have hv4l:=hv4.length;have hSl:=hSl.mono (x6 leM leN);have leMN:=x6 leM leN;have hva:(vs4++[jmpV 3]).length=vs4.length+1:=xAF;refine zz8 ?_;refine aA (bU (k:=(dT 324)) Y Tryz.underlying285 Y aL) Y (zz4 ?_);refine aY 36 Y (fun h36=>?_) (fun h36=>?_)
      · refine zz3 ?_;refine aA (dG zQ rU (.cons Y Y Y (.cons .nil) .nil)) Y ?_;refine cJ (bM (z0:=[.int .i64 0,.int .i64 0,.int .i64 0,.bool false,.slice none 0 0,.slice none 0 0,.int .i64 0]) eU rL Y Y Y Y (.cons Y Y Y (.cons (.cons (.cons (.cons (.cons (.cons (.cons .nil))))))) .nil)) Y ?_;rintro _ K _ ⟨b40,rfl,rfl,rfl⟩ -;refine bA Y Y (nN b b40 vs4 [jmpV 3] _ _ Y gC7) (.cons (.there .here) (.cons .here .nil)) Y ?_;rintro _ K _ ⟨rfl,rfl,rfl⟩ -;refine cJ (bM (z0:=[.int .i64 0]) lY tz3 Y Y Y Y (.cons Y Y Y (.cons .nil) .nil)) Y ?_;rintro _ K _ ⟨b42,rfl,rfl,rfl⟩ -;refine cJ (dQ (k:=(fK 3)) (ys:=[vs4.length]) wK Y Y (.there (.there (.there (.there .here)))) (fun w j=>dJ Tryz.underlying24 (SeesSl.at (k:=fK 3) (xs:=[vs4.length]) (.blk (.own .here) Y (by simp[fK,El.cs])) j)) gC9 gC9) Y ?_;rintro v43 K _ ⟨rfl,rfl,ho43⟩ -;refine zz6 ?_;refine bA Y Y (uW b nv (vs4++[jmpV 3]) _ _ aH aH (fun k hk=>by have:=hu.2.2.2 k hk;omega)) (.cons (.there (.there .here)) (.cons (.there (.there .here)) .nil)) Y ?_;rintro _ K _ ⟨rfl,rfl,rfl⟩ -;refine zz7 ?_
        first
          | (have hnl : ¬ gS l1 = true := (by rw [hnil]; omega)
             refine aQ (.cons (.there .here) (.cons (.there (.there (.there .here))) (.cons .here .nil))) ?_;refine mS _ (i+1) _ (aB7 (vs4++[jmpV 3]) (unl t false ops2).2) (out++[vs4.length]) () () ⟨x6 leL leMN,by omega,l1,_,hrl1.mono leMN,hwl1,ihr.2,(RIs.append (ws:=[jmpV 3]) (ps:=[jmp 3]) ⟨tB _ _,trivial⟩ hv4).land,by rw[hx,aGG hnl,hv4l],by rw[lT];omega,by rw[xAF];simp;omega,fun k hk=>by rw[lT];rcases xAT.1 hk with h|h;(have:=hout k h;omega);(simp at h;omega)⟩ aH (.cons 0 Y (.cons 3 Y (.cons 4 Y (.cons 9 Y (.cons 10 Y (.cons 11 Y .nil)))))) Y cV)
          | (have hnl : gS l1 = true := (by rw [hnil]; omega)
             refine aQ (.cons (.there (.there .here)) (.cons (.there (.there .here)) (.cons .here .nil))) ?_;refine mS _ (i+1) ov (aB7 vs4 (unl t false ops2).2) out () () ⟨x6 leL leMN,by omega,l1,_,hrl1.mono leMN,hwl1,ihr.2,hv4.land,by rw[hx,aGF hnl],by rw[lT];omega,by omega,fun k hk=>by rw[lT];have:=hout k hk;omega⟩ aH (.cons 0 Y (.cons 3 Y (.cons 4 Y (.cons 9 Y (.cons 10 Y (.cons 11 Y .nil)))))) Y cV)
      refine zz5 ?_;refine bA Y Y (uW b nv vs4 _ _ aH aH (fun k hk=>by have:=hu.2.2.2 k hk;omega)) (.cons .here (.cons .here .nil)) Y ?_;rintro _ K _ ⟨rfl,rfl,rfl⟩ -;refine zz7 ?_
      first
        | (have hnl : ¬ gS l1 = true := (by rw [hnil]; omega)
           refine aQ (.cons (.there .here) (.cons (.there (.there (.there .here))) (.cons .here .nil))) ?_;refine mS _ (i+1) _ (aB7 (vs4++[jmpV 3]) (unl t false ops2).2) (out++[vs4.length]) () () ⟨x6 leL leMN,by omega,l1,_,hrl1.mono leMN,hwl1,ihr.2,(RIs.append (ws:=[jmpV 3]) (ps:=[jmp 3]) ⟨tB _ _,trivial⟩ hv4).land,by rw[hx,aGG hnl,hv4l],by rw[lT];omega,by rw[xAF];simp;omega,fun k hk=>by rw[lT];rcases xAT.1 hk with h|h;(have:=hout k h;omega);(simp at h;omega)⟩ aH (.cons 0 Y (.cons 3 Y (.cons 4 Y (.cons 9 Y (.cons 10 Y (.cons 11 Y .nil)))))) Y cV)
        | (have hnl : gS l1 = true := (by rw [hnil]; omega)
           refine aQ (.cons (.there (.there .here)) (.cons (.there (.there .here)) (.cons .here .nil))) ?_;refine mS _ (i+1) ov (aB7 vs4 (unl t false ops2).2) out () () ⟨x6 leL leMN,by omega,l1,_,hrl1.mono leMN,hwl1,ihr.2,hv4.land,by rw[hx,aGF hnl],by rw[lT];omega,by omega,fun k hk=>by rw[lT];have:=hout k hk;omega⟩ aH (.cons 0 Y (.cons 3 Y (.cons 4 Y (.cons 9 Y (.cons 10 Y (.cons 11 Y .nil)))))) Y cV)
    obtain rfl:tv=.nilIface:=htv2;simp only[cnt]at hb1 hb2;have hbl:=(m8 bd).1 ops2;refine zz5 ?_;refine aA (aX (k:=(dT 324)) uD Y aL Y Y gDB) Y ?_;refine aA (fA (n:=0) (k:=(dT 324)) zI Y aL b0) Y (zz1 ?_);rintro _ K _ ⟨b6,rfl,rfl,rfl⟩ -;refine zz1 ?_;refine cD (cX zI Y Y Y bR gC1 (.cons (.cons .nil)) gC8) ?_;rintro _ K _ ⟨rfl,rfl⟩ -;refine zz16 ?_;refine bA Y Y (ihr.1 hwbd b (.slice ta tn tc) ys vs2 ops2 _ hrbd hSbd hv2 aH) (.cons (.there (.there (.there .here))) .nil) Y ?_;rintro _ K4 _ ⟨rfl,vs4,hv4,rfl⟩ leN;have hv4l:=hv4.length;refine zz12 ?_;refine bA Y Y (uW b ov vs4 out _ aH aH (fun k hk=>by have:=hout k hk;omega)) (.cons .here (.cons (.there .here) .nil)) Y ?_;rintro _ K _ ⟨rfl,rfl,rfl⟩ -;refine aG ?_;refine uBa ?_;refine dK Y (by first|exact x6 leL leN|exact leL) ?_
    first
      |(rw[hend];exact⟨_,Y,Y,_,hv2.land,Y⟩)
      |(rw[hx];simp only[dZ];exact⟨_,Y,Y,_,hv4.land,Y⟩)
  have hend:dZ bs ops []=land ops2 out:=(by rw[hx];exact bE4 hwr hrr (List.drop_eq_nil_of_le aH));refine zz8 ?_;refine bA Y Y (uW b ov vs2 out _ aH aH (fun k hk=>hout k hk)) (.cons (.there (.there .here)) (.cons .here .nil)) Y ?_;rintro _ K _ ⟨rfl,rfl,rfl⟩ -;refine aG ?_;refine uBa ?_;refine dK Y (by first|exact x6 leL leN|exact leL) ?_
  first
    |(rw[hend];exact⟨_,Y,Y,_,hv2.land,Y⟩)
    |(rw[hx];simp only[dZ];exact⟨_,Y,Y,_,hv4.land,Y⟩)
def bB0:∀(t:Tree),aVC t∧aVB t∧BrS t∧BrL t∧bKT t:=by
 intro t;induction t with
 |iff bs ih=>exact⟨fun h=>by simp[wf]at h,trivial,fun h=>by simp[wf]at h,trivial,ih.2.2.1⟩
 |cnil=>exact⟨aOB _ trivial,trivial,fun h=>by simp[wf]at h,trivial,trivial⟩
 |ccons c l ih1 ih2=>exact⟨aOB _ ⟨ih1.2.2.2.2,ih2.2.1⟩,⟨ih1.2.2.2.2,ih2.2.1⟩,fun h=>by simp[wf]at h,trivial,trivial⟩
 |bnil=>exact⟨fun h=>by simp[wf]at h,trivial,aRZ _ trivial,trivial,trivial⟩
 |bcons t b l ih1 ih2 ih3=>exact⟨fun h=>by simp[wf]at h,trivial,aRZ _ ⟨ih2.1,ih3.2.2.2.1⟩,⟨ih2.1,ih3.2.2.2.1⟩,trivial⟩
 |belse b l ih1 ih2=>exact⟨fun h=>by simp[wf]at h,trivial,aRZ _ ⟨ih1.1,ih2.2.2.2.1⟩,⟨ih1.1,ih2.2.2.2.1⟩,trivial⟩
 |_=>exact⟨fun h=>by simp[wf]at h,trivial,fun h=>by simp[wf]at h,trivial,trivial⟩
def aQI(b:Nat)(needs:List (List UInt8))(t:Tree)(K:Hl)(hat:ScriptAt K b needs t)(hw:wf t 3=true)(hc:cnt t≤400000):
  Sp x3 80 [ptr b 6] K [] (Ret fun v K' L'=>∃vs,RIs K' vs (script t)∧L'=[sl false cT v vs]):=by
 obtain⟨l,nv,bv,ys,fz,hb,h6,h7,hv,hS,hrep,hcl⟩:=hat.at_;refine bN Tryz.func80 Y Tryz.ntmps80 Y Y fun F w=>?_;refine zz7 ?_;refine aA (dG bO9 bNG .nil) Y (zz1 ?_);rintro _ K _ ⟨b5,rfl,rfl,rfl⟩ -;refine zz9 ?_;refine aA (aK aIQ Y (.known hb) h7) Y ?_;refine j4 (eL cT) ?_;refine j4 (fun h hh=>iM hh) ?_;refine j4 aM4 ?_;refine bA Y Y ((bB0 t).1 hw b5 bv ys [] [] _ hrep hS trivial gC7) bS Y ?_;rintro _ K1 _ ⟨rfl,vs1,hv1,rfl⟩ le1;refine bOK fun cv=>?_;refine zz12 ?_;refine aQ (aM cI bF) ?_;refine bI Y Y le1 ?_;exact⟨_,Y,vs1,hv1,Y⟩
end Go.Proofs
end
section
namespace Go.Proofs
open Go Go.SL Go.Syn Go.Mach
def dP:El gA:={e:=75,sz:=2,enc:=fun a=>[i64 a.1,str a.2],len:=fun _=>rfl,one:=fun _ u h=>by simp at h;rcases h with rfl|rfl <;> rfl}
def gX{nm:Bool}{vars:List (List UInt8×List UInt8)}{parts:List (List UInt8)}{s:List UInt8}(h:s.length≤100000):(dH nm vars parts s).length≤100000:=by
 unfold dH;split
 ·have:=List.length_take_le 1024 (kR vars parts (s.length+1) s []);omega
 exact h
def zB{P:Program}{w:World}{T:TypeId}{xs:Array Value}{i:Nat}{v:Value}(ht:fP P T=true)(h:xs[i]?=some v):(part T xs i).run P w=.ok v w:=by
 obtain⟨h1,h2⟩:=rB ht w;unfold part;rw[bJ h1];simp[h]
def bC8(w:World)(a c:gA):(Op.equalIn 10000 75 (.agg #[i64 a.1,str a.2]) (.agg #[i64 c.1,str c.2])).run x3 w=.ok (decide (a=c)) w:=by
 have hf:x3.fieldsOf 75= #[{name:= "Kind",type:=3,offset:=0,embedded:=false,tag:= "",pkgPath:= "",byteOffset:=0},{name:= "Arg",type:=9,offset:=1,embedded:=false,tag:= "",pkgPath:= "",byteOffset:=8}]:=by unfold Program.fieldsOf;rw[Tryz.underlying75]
 rw[show (10000:Nat)=9999+1 from rfl,run_equalIn_agg w 9999 75 _ _ (by rw[hf];exact Tryz.underlying75) Tryz.stoodInHeld75,hf];obtain⟨k1,s1⟩:=a;obtain⟨k2,s2⟩:=c;have p1:=zB (P:=x3) (w:=w) (xs:= #[i64 k1,str s1]) (i:=0) (v:=i64 k1) ts3 rfl;have p2:=zB (P:=x3) (w:=w) (xs:= #[i64 k2,str s2]) (i:=0) (v:=i64 k2) ts3 rfl;have p3:=zB (P:=x3) (w:=w) (xs:= #[i64 k1,str s1]) (i:=1) (v:=str s1) ts9 rfl;have p4:=zB (P:=x3) (w:=w) (xs:= #[i64 k2,str s2]) (i:=1) (v:=str s2) ts9 rfl;have q1:(Op.equalIn 9999 3 (i64 k1) (i64 k2)).run x3 w=.ok (k1==k2) w:=run_equalIn_int (P:=x3) w 9998 3 .i64 .i64 k1 k2 Tryz.underlying3;have q2:(Op.equalIn 9999 9 (str s1) (str s2)).run x3 w=.ok (decide (s1=s2)) w:=by
  have:=run_equalIn_string (P:=x3) w 9998 9 ⟨s1.toArray⟩ ⟨s2.toArray⟩ Tryz.underlying9;rw[←beq_toListBytes,aVI]at this;exact this
 simp only[Op.eqFields];rw[x7 (by decide),bJ p1,bJ p2,bJ q1]
 by_cases h:k1=k2
 ·subst h;rw[x5 (by simp),x7 (by decide),bJ p3,bJ p4,bJ q2]
  by_cases h2:s1=s2
  ·subst h2;simp[pure,Sem.run]
  simp[h2,pure,Sem.run]
 rw[x7 (by simp[h])];simp[h,pure,Sem.run]
def actC(o:Ins)(s:MS)(a:gA):Res MS:=
 if a∈s.acts then .ok {s with keep:=false}
 else if (∃b∈s.acts,a.1=4∨b.1=4)then .error (10,o.at_)
 else if s.acts.length=6 then .error (11,o.at_)
 else .ok {s with keep:=false,acts:=s.acts++[a]}
end Go.Proofs
end
section
namespace Go.Proofs
open Go Go.SL Go.Syn Go.Mach
open R (Yl)
def hdEl:El (List UInt8×List UInt8):={e:=73,sz:=2,enc:=fun a=>[str a.1,str a.2],len:=fun _=>rfl,one:=fun _ u h=>by simp at h;rcases h with rfl|rfl <;> rfl}
structure FI where
 i:Nat
 K:Hl
 L:List Asn
structure XI where
 i:Nat
 ds:List Nat
 K:Hl
def take_all_succ{α:Type}{p:α→Prop}{l:List α}{i:Nat}{x:α}(h:∀y∈l.take i,p y)(hx:l[i]?=some x)(hp:p x):∀y∈l.take (i+1),p y:=by
 have hi:i < l.length:=by
  rcases xAC i l.length with h'|h'
  ·exact h'
  simp[List.getElem?_eq_none h']at hx
 have hc:l[i]=x:=by simpa[List.getElem?_eq_getElem hi]using hx
 rw[xAN hi,hc];intro y hy;rcases xAT.1 hy with h1|h1
 ·exact h y h1
 rw[List.mem_singleton.1 h1];exact hp
end Go.Proofs
end
section
namespace Go.Proofs
open Go Go.SL Go.Syn Go.Mach
def qH{α:Type}{k:El α}{b:Nat}{xs:List α}{n:Nat}{M:List Asn}(hn:n=xs.length):∀h,Sat (pt b (bL (k.cs xs) k.e)::M) h→Sat (sl false k (.slice (some ⟨b,0,none⟩) n n) xs::M) h:=by
 subst hn;rintro h ⟨a,l,ha,hl,hd,rfl⟩;refine⟨a,l,.inr ⟨b,xs.length,[],(0,0),Y,(fun h=>by cases h),xAA _,by simp,.inl (xAA _),?_⟩,hl,hd,Y⟩
 rw[xAL];exact ha
structure MZ where
 i:Nat
 K:Hl
structure MM where
 ok:Bool
 K:Hl
 pv:Value
 s:MS
end Go.Proofs
end
section
namespace Go.Mach
open Go.Syn
def ad(s:aP):Bool:=(Lib.cut s [64]).2.2&&(decide ((Lib.cut s [64]).1≠[])&&(decide ((Lib.cut s [64]).2.1≠[])&&(!(s.any fS)&&(!(decide (0≤Lib.index (Lib.cut s [64]).2.1 [64]))&&decide (s.length≤32)))))
end Go.Mach
end
section
namespace Go.Proofs
open Go Go.SL Go.Syn Go.Mach
def ws:List UInt8:=[32,9,13,10]
structure MsgOk (m:Msg):Prop where
 hn:m.hs.length≤1000000
 hs:∀h∈m.hs,h.1.length≤100000∧h.2.length≤100000
 from_:m.from_.length≤100000
 to_:m.to_.length≤100000
structure InsOk (o:Ins):Prop where
 an:o.a.length≤1000000
 bn:o.b.length≤1000000
 a:∀x∈o.a,x.length≤100000
 b:∀x∈o.b,x.length≤100000
structure MInv (s:MS):Prop where
 stack:s.stack.length≤8
 acts:s.acts.length≤6
 vars:∀name,(vget s.vars name).length≤100000
 parts:∀x∈s.parts,x.length≤100000
def MInv.start:MInv Mach.start:=⟨by simp[Mach.start],by simp[Mach.start],fun _=>by simp[Mach.start,vget],by simp[Mach.start]⟩
def aEC(k v name:aP):∀vars:List (aP×aP),vget (vput vars k v) name=if k=name then v else vget vars name
 | []=>by unfold vput vget;rfl
 |(j,u)::r=>by
  unfold vput
  by_cases h:j=k
  ·rw[x7 h];subst h
   unfold vget;split <;> rfl
  rw[x5 h];unfold vget;rw[aEC k v name r]
  by_cases h2:j=name
  ·rw[x7 h2,x7 h2,x5 (fun e=>h (by rw[h2,e]))]
  rw[x5 h2,x5 h2]
def MInv.push{s t:MS}{b:Bool}(h:MInv s)(hp:Mach.push s b=.ok t):MInv t:=by
 unfold Mach.push at hp;split at hp
 ·cases hp;exact⟨by simp;omega,h.acts,h.vars,h.parts⟩
 cases hp
def MInv.pop{s:MS}{r:Bool×MS}(h:MInv s)(hp:Mach.pop s=.ok r):MInv r.2:=by
 unfold Mach.pop at hp;split at hp
 ·cases hp;exact⟨by have:=h.stack;simp;omega,h.acts,h.vars,h.parts⟩
 cases hp
def MInv.jump{s t:MS}{by_:Int}{n:Nat}{yes:Bool}(h:MInv s)(hp:Mach.jump s by_ n yes=.ok t):MInv t:=by
 unfold Mach.jump at hp;split at hp
 ·cases hp;split
  ·exact⟨h.stack,h.acts,h.vars,h.parts⟩
  exact h
 cases hp
def aO2(w v k:aP):∀f i j ps,iY w v k f i j=some ps→∀x∈ps,x.length≤w.length:=by
 have one:∀e i,((w.take e).drop i).length≤w.length:=by intro e i;simp;omega
 intro f;induction f with
 |zero=>intro i j ps h;cases h
 |succ f ih=>
  intro i j ps h;have cons:∀e i' j' q,iY w v k f i' j'=q→q.map (fun ps=>((w.take e).drop i)::ps)=some ps→∀x∈ps,x.length≤w.length:=by
   intro e i' j' q hq hm;cases q with
   |none=>cases hm
   |some r=>
    cases hm
    intro x hx;rcases List.mem_cons.1 hx with rfl|hx
    ·exact one _ _
    exact ih _ _ _ hq x hx
  unfold iY at h;split at h
  ·split at h
   ·cases h;intro x hx;cases hx
   cases h
  split at h
  ·have key:∀n e,kS (fun e=>(iY w v k f e (j+1)).map fun ps=>((w.take e).drop i)::ps) n e=some ps→∀x∈ps,x.length≤w.length:=by
    intro n;induction n with
    |zero=>intro e h;cases h
    |succ n ihn=>
     intro e h;unfold kS at h;split at h
     ·rename_i x hx;cases h
      exact cons _ _ _ _ Y hx
     exact ihn _ h
   exact key _ _ h
  split at h
  ·cases h
  split at h
  ·exact cons _ _ _ _ Y h
  split at h
  ·split at h
   ·exact ih _ _ _ h
   cases h
  split at h
  ·exact ih _ _ _ h
  cases h
def xB{α β:Type}{f:α→Option β}{y:β}:∀ {l:List α},oN f l=some y→∃x∈l,f x=some y
 | [],h=>by cases h
 |x::l,h=>by
  unfold oN at h;split at h
  ·rename_i z hz;cases h;exact⟨x,by simp,hz⟩
  obtain⟨w,hw,hf⟩:=xB h;exact⟨w,by simp[hw],hf⟩
def aJC{o:Ins}{x y:aP}{ps:List aP}(h:iA o x y=some ps):∀z∈ps,z.length≤x.length:=by
 unfold iA at h;split at h
 ·split at h
  ·cases h;intro z hz;cases hz
  cases h
 split at h
 ·split at h
  ·cases h;intro z hz;cases hz
  cases h
 exact aO2 _ _ _ _ _ _ _ h
def xO{o:Ins}{vs ks ps:List aP}{n:Nat}(hv:∀x∈vs,x.length≤n)(h:iZ o vs ks=some ps):∀z∈ps,z.length≤n:=by
 obtain⟨v,hv1,h1⟩:=xB h;obtain⟨k,hk1,h2⟩:=xB h1;cases hq:iA o v k with
 |none=>rw[hq]at h2;cases h2
 |some q=>
  rw[hq]at h2;cases h2
  intro z hz;rcases List.mem_cons.1 hz with rfl|hz
  ·exact hv _ hv1
  exact xAV (aJC hq z hz) (hv _ hv1)
def aLK{nm:Bool}{vars:List (aP×aP)}{parts:List aP}{m:Msg}{o:Ins}(hm:MsgOk m)(ho:InsOk o):∀x∈jA (dH nm vars parts) m o,x.length≤100000:=by
 intro x hx;unfold jA at hx;split at hx
 ·obtain⟨y,hy,rfl⟩:=xBF.1 hx;exact gX (ho.a y hy)
 split at hx
 ·obtain⟨y,_,hy⟩:=List.mem_flatMap.1 hx;unfold iG at hy;obtain⟨h,hh,rfl⟩:=xBF.1 hy;exact(hm.hs h (List.mem_filter.1 hh).1).2
 split at hx
 ·obtain⟨y,_,hy⟩:=List.mem_flatMap.1 hx;unfold jL at hy;split at hy
  ·rw[List.mem_singleton]at hy;subst hy;exact hm.from_
  split at hy
  ·rw[List.mem_singleton]at hy;subst hy;exact hm.to_
  cases hy
 cases hx
def MInv.matchI{nm:Bool}{m:Msg}{o:Ins}{s t:MS}(h:MInv s)(hm:MsgOk m)(ho:InsOk o)(hp:Mach.matchI nm m o s=.ok t):MInv t:=by
 unfold Mach.matchI at hp;split at hp
 ·simp only[]at hp;split at hp
  ·rename_i ps hps;refine MInv.push ?_ hp
   split
   ·exact⟨h.stack,h.acts,h.vars,xO (aLK hm ho) hps⟩
   exact h
  exact h.push hp
 cases hp
def MInv.setI{nm:Bool}{o:Ins}{s t:MS}(h:MInv s)(hp:Mach.setI nm o s=.ok t):MInv t:=by
 unfold Mach.setI at hp;split at hp
 ·split at hp
  ·cases hp
   refine⟨h.stack,h.acts,fun name=>?_,h.parts⟩
   simp only[aEC];split
   ·simp;omega
   exact h.vars name
  cases hp
 cases hp
def MInv.actI{nm:Bool}{o:Ins}{s t:MS}(h:MInv s)(hp:Mach.actI nm o s=.ok t):MInv t:=by
 unfold Mach.actI at hp;split at hp
 ·simp only[]at hp;split at hp
  ·cases hp
  split at hp
  ·cases hp
  split at hp
  ·cases hp;exact⟨h.stack,h.acts,h.vars,h.parts⟩
  split at hp
  ·cases hp
  split at hp
  ·cases hp
  cases hp;exact⟨h.stack,by have:=h.acts;simp;omega,h.vars,h.parts⟩
 cases hp
def MInv.step{nm:Bool}{m:Msg}{n:Nat}{o:Ins}{s t:MS}(hi:MInv s)(hm:MsgOk m)(ho:InsOk o)(h:Mach.step nm m n o s=.ok t):MInv t:=by
 unfold Mach.step at h
 by_cases h0:o.op=1
 ·rw[x7 h0]at h;split at h
  ·exact hi.push h
  cases h
 rw[x5 h0]at h
 by_cases h1:o.op=2
 ·rw[x7 h1]at h;split at h
  ·cases h
  rename_i r hr;exact(hi.pop hr).push h
 rw[x5 h1]at h
 by_cases h2:o.op=3
 ·rw[x7 h2]at h;exact hi.jump h
 rw[x5 h2]at h
 by_cases h3:o.op=4
 ·rw[x7 h3]at h;split at h
  ·cases h
  rename_i r hr;exact(hi.pop hr).jump h
 rw[x5 h3]at h
 by_cases h4:o.op=5
 ·rw[x7 h4]at h;split at h
  ·cases h
  rename_i r hr;exact(hi.pop hr).jump h
 rw[x5 h4]at h
 by_cases h5:o.op=6∨o.op=7∨o.op=8
 ·rw[x7 h5]at h;exact hi.matchI hm ho h
 rw[x5 h5]at h
 by_cases h6:o.op=9
 ·rw[x7 h6]at h;exact hi.push h
 rw[x5 h6]at h
 by_cases h7:o.op=10
 ·rw[x7 h7]at h;split at h
  ·exact hi.push h
  cases h
 rw[x5 h7]at h
 by_cases h8:o.op=11
 ·rw[x7 h8]at h;exact hi.actI h
 rw[x5 h8]at h
 by_cases h9:o.op=12
 ·rw[x7 h9]at h;exact hi.setI h
 rw[x5 h9]at h
 by_cases h10:o.op=13
 ·rw[x7 h10]at h;cases h;exact⟨hi.stack,hi.acts,hi.vars,hi.parts⟩
 rw[x5 h10]at h;cases h
end Go.Proofs
end

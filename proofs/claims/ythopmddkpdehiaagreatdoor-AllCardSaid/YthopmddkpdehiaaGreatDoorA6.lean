/- Part 6 of what the proof stands on: walks and plain laws. Conditions: as each theorem says. -/
import Derived.Lib.ItoaNum
import Derived.Lib.IndexLaws
import Derived.Lib.AppendIntMem
import Derived.Laws.StructEq
import Derived.Test.YthopmddkpdehiaaGreatDoorA5
set_option linter.unusedVariables false
set_option linter.unusedSimpArgs false
set_option linter.defProp false
set_option maxRecDepth 4000
set_option maxHeartbeats 1000000
section
attribute [local irreducible] Go.SL.T Go.SL.OL Go.SL.D Go.SL.DL Go.SL.Ev Go.SL.Ef Go.SL.EfS
section
namespace Go.Mach
open Go.Syn
section
variable{nm:Bool}
structure Ins where
 op:Int
 n:Int
 tag:Int
 oct:Bool
 a:List aP
 b:List aP
 at_:Int
structure Msg where
 from_:aP
 to_:aP
 size:Int
 hs:List (aP×aP)
abbrev gI:=Int×aP
structure MS where
 acts:List gI
 keep:Bool
 vars:List (aP×aP)
 parts:List aP
 stack:List Bool
 pc:Nat
def vget(vars:List (aP×aP))(k:aP):aP:=match vars with
 | []=>[]
 |(j,v)::r=>if j=k then v else vget r k
def vput(vars:List (aP×aP))(k v:aP):List (aP×aP):=match vars with
 | []=>[(k,v)]
 |(j,u)::r=>if j=k then (j,v)::r else (j,u)::vput r k v
def held(vars:List (aP×aP))(parts:List aP)(f:aP):aP×Bool:=
 match f with
 | [c]=>if fX c=true then ((parts[c.toNat-48]?).getD [],true)else (vget vars (dY f),named f)
 |_=>(vget vars (dY f),named f)
def kK(vars:List (aP×aP))(parts:List aP):Nat->aP->aP->aP
 |0,s,F=>F++s
 |f+1,s,F=>
  if s=[]then F
  else if Lib.index s [36,123]<0 then F++s
  else
   let i:=(Lib.index s [36,123]).toNat
   let t:=s.drop i
   let e:=Lib.indexByte t 125
   let h:=held vars parts ((t.take (max e 2).toNat).drop 2)
   if 0<e/\h.2=true then kK vars parts f (t.drop (e.toNat+1)) (F++s.take i++h.1)
   else kK vars parts f (t.drop 1) (F++s.take i++[36])
def cY(named:Bool)(vars:List (aP×aP))(parts:List aP)(s:aP):aP:=
 if named=true then (kK vars parts (s.length+1) s []).take 1024 else s
def gU(m:Msg)(f:aP):List aP:=(m.hs.filter fun h=>decide (dY h.1=f)).map (·.2)
def lO(m:Msg)(names:List aP):Bool:=names.all fun n=>decide (gU m (dY n)≠[])
def kV(m:Msg)(n:aP):List aP:=if dY n=[102,114,111,109]then [m.from_]else if dY n=[116,111]then [m.to_]else []
def iL(ex:aP->aP)(m:Msg)(o:Ins):List aP:=
 if o.op=8 then o.a.map ex
 else if o.op=6 then (o.a.map ex).flatMap fun n=>gU m (dY n)
 else if o.op=7 then o.a.flatMap (kV m)
 else []
def gZ(oct:Bool)(s:aP):aP:=if oct=true then s else dY s
def kL{α:Type}(f:Nat->Option α):Nat->Nat->Option α
 |0,_=>none
 |n+1,e=>match f e with
  |some x=>some x
  |none=>kL f n (e+1)
def iI(w v k:aP):Nat->Nat->Nat->Option (List aP)
 |0,_,_=>none
 |f+1,i,j=>
  match k[j]? with
  |none=>if i=v.length then some []else none
  |some c=>
   if c.toNat=42 then kL (fun e=>(iI w v k f e (j+1)).map fun a=>((w.take e).drop i)::a) (v.length+1-i) i
   else match v[i]? with
    |none=>none
    |some x=>
     if c.toNat=63 then (iI w v k f (i+1) (j+1)).map fun a=>((w.take (i+1)).drop i)::a
     else match (if c.toNat=92 then k[j+1]? else none)with
      |some d=>if x=d then iI w v k f (i+1) (j+2)else none
      |none=>if x=c then iI w v k f (i+1) (j+1)else none
def glob(w k:aP)(oct:Bool):Option (List aP):=iI w (gZ oct w) (gZ oct k) (k.length+1) 0 0
def gN(o:Ins)(v k:aP):Option (List aP):=
 if o.tag=1 then (if gZ o.oct v=gZ o.oct k then some []else none)
 else if o.tag=2 then (if 0<=Lib.index (gZ o.oct v) (gZ o.oct k)then some []else none)
 else glob v k o.oct
def nQ{α β:Type}(f:α->Option β):List α->Option β
 | []=>none
 |x::l=>match f x with
  |some y=>some y
  |none=>nQ f l
def iJ(o:Ins)(vs ks:List aP):Option (List aP):=
 nQ (fun v=>nQ (fun k=>(gN o v k).map fun f=>v::f) ks) vs
def qH(pc:Nat):Int×Int:=(12,pc)
def push(s:MS)(b:Bool):Res MS:=if s.stack.length<8 then .ok {s with stack:=s.stack++[b]}else .error (qH s.pc)
def pop(s:MS):Res (Bool×MS):=match s.stack.getLast? with
 |some b=>.ok (b,{s with stack:=s.stack.dropLast})
 |none=>.error (qH s.pc)
def jump(s:MS)(b:Int)(n:Nat)(a:Bool):Res MS:=
 if 0<=b/\b<(n:Int)-s.pc then .ok (if a=true then {s with pc:=s.pc+b.toNat}else s)else .error (qH s.pc)
def matchI(nm:Bool)(m:Msg)(o:Ins)(s:MS):Res MS:=
 if 1<=o.tag/\o.tag<=3/\s.stack.length<8 then
  let ex:=cY nm s.vars s.parts
  match iJ o (iL ex m o) (o.b.map ex)with
  |some f=>push (if o.tag=3/\nm=true then {s with parts:=f}else s) true
  |none=>push s false
 else .error (qH s.pc)
def setI(nm:Bool)(o:Ins)(s:MS):Res MS:=
 if 0<=o.tag/\o.tag<=3 then
  match o.a,o.b with
  |a::_,b::_=>
   let v:=cY nm s.vars s.parts b
   let u:=if o.tag=1 then dY v else if o.tag=2 then qI v else if o.tag=3 then Lib.itoa v.length else v
   .ok {s with vars:=vput s.vars a (u.take 48)}
  |_,_=>.error (qH s.pc)
 else .error (qH s.pc)
def jT(c:UInt8):Bool:=(decide (97<=(c|||32).toNat)&&decide ((c|||32).toNat<=122))||(decide (48<=c.toNat)&&decide (c.toNat<=57))||decide (c.toNat=95)
def iU(i:Nat)(c:UInt8):Bool:=jT c||decide (c.toNat=45)||(decide (c.toNat=46)&&decide (i≠0))
def rL(s:aP):Bool:=((List.range s.length).all fun i=>iU i ((s[i]?).getD 0))&&decide (s≠[])&&decide (s.length<=16)
def fW(c:UInt8):Bool:=decide (c.toNat=32\/c.toNat=9\/c.toNat=13\/c.toNat=10)
def e8(s:aP):Bool:=
 match s.findIdx? (fun x=>decide (x=64))with
 |none=>false
 |some i=>decide (s.take i≠[])&&decide (s.drop (i+1)≠[])&&!(s.any fW)&&!((s.drop (i+1)).any fun c=>decide (c=64))&&decide (s.length<=32)
def actA(nm:Bool)(o:Ins)(s:MS):aP:=if o.tag=1 then []else cY nm s.vars s.parts ((o.a[0]?).getD [])
def actV(o:Ins)(arg:aP):gI:=(o.tag,if o.tag=4 then arg.take 48 else arg)
def actI(nm:Bool)(o:Ins)(s:MS):Res MS:=
 if o.tag=1\/(2<=o.tag/\o.tag<=4/\o.a≠[])then
  let arg:=actA nm o s
  if o.tag=2/\rL arg=false then .error (8,o.at_)
  else if o.tag=3/\e8 arg=false then .error (9,o.at_)
  else
   let a:gI:=actV o arg
   if a∈s.acts then .ok {s with keep:=false}
   else if (∃b∈s.acts,a.1=4\/b.1=4)then .error (10,o.at_)
   else if s.acts.length=6 then .error (11,o.at_)
   else .ok {s with keep:=false,acts:=s.acts++[a]}
 else .error (qH s.pc)
def step(nm:Bool)(m:Msg)(n:Nat)(o:Ins)(s:MS):Res MS:=
 if o.op=1 then (if o.n=0\/o.n=1 then push s (decide (o.n=1))else .error (qH s.pc))
 else if o.op=2 then (match pop s with| .error e=>.error e| .ok r=>push r.2 (!r.1))
 else if o.op=3 then jump s o.n n true
 else if o.op=4 then (match pop s with| .error e=>.error e| .ok r=>jump r.2 o.n n r.1)
 else if o.op=5 then (match pop s with| .error e=>.error e| .ok r=>jump r.2 o.n n (!r.1))
 else if o.op=6\/o.op=7\/o.op=8 then matchI nm m o s
 else if o.op=9 then push s (lO m (o.a.map (cY nm s.vars s.parts)))
 else if o.op=10 then (if o.tag=1\/o.tag=2 then push s (decide (o.tag=1/\o.n<m.size\/o.tag=2/\m.size<o.n))else .error (qH s.pc))
 else if o.op=11 then actI nm o s
 else if o.op=12 then setI nm o s
 else if o.op=13 then .ok {s with keep:=false}
 else .error (qH s.pc)
structure Out where
 acts:List gI
 steps:Nat
 err:Option (Int×Int)
def loop(nm:Bool)(m:Msg)(code:List Ins):Nat->Nat->MS->Out
 |0,a,_=>⟨[],a,none⟩
 |f+1,a,s=>
  match code[s.pc]? with
  |none=>⟨if s.keep=true then s.acts++[(1,[])]else s.acts,a,none⟩
  |some o=>
   if o.op=14 then ⟨if s.keep=true then s.acts++[(1,[])]else s.acts,a+1,none⟩
   else match step nm m code.length o s with
    | .error e=>⟨[(1,[])],a+1,some e⟩
    | .ok t=>loop nm m code f (a+1) {t with pc:=t.pc+1}
def start:MS:=⟨[],true,[],[],[],0⟩
def run(nm:Bool)(code:List Ins)(m:Msg):Out:=
 if 400<code.length then ⟨[(1,[])],0,some (12,400)⟩else loop nm m code (code.length+1) 0 start
def xQ{s t:MS}{b:Bool}(h:push s b=.ok t):t.pc=s.pc:=by
 unfold push at h;split at h<;>cases h;rfl
def D9{s:MS}{r:Bool×MS}(h:pop s=.ok r):r.2.pc=s.pc:=by
 unfold pop at h;split at h<;>cases h;rfl
def GL{s t:MS}{b:Int}{n:Nat}{a:Bool}(h:jump s b n a=.ok t)(hp:s.pc<n):s.pc<=t.pc/\t.pc<n:=by
 unfold jump at h;split at h
 ·cases h;split
  ·simp only[];omega
  exact⟨xAG _,hp⟩
 cases h
def O5{m:Msg}{o:Ins}{s t:MS}(h:matchI nm m o s=.ok t):t.pc=s.pc:=by
 unfold matchI at h;split at h
 ·simp only[]at h;split at h
  ·have:=xQ h;rw[this];split<;>rfl
  exact xQ h
 cases h
def VH{o:Ins}{s t:MS}(h:setI nm o s=.ok t):t.pc=s.pc:=by
 unfold setI at h;split at h
 ·split at h
  ·cases h;rfl
  cases h
 cases h
def Uq{o:Ins}{s t:MS}(h:actI nm o s=.ok t):t.pc=s.pc:=by
 unfold actI at h;split at h
 ·simp only[]at h;split at h
  ·cases h
  split at h
  ·cases h
  split at h
  ·cases h;rfl
  split at h
  ·cases h
  split at h
  ·cases h
  cases h;rfl
 cases h
def AK{m:Msg}{n:Nat}{o:Ins}{s t:MS}(h:step nm m n o s=.ok t)(hp:s.pc<n):s.pc<=t.pc/\t.pc<n:=by
 have L:t.pc=s.pc->s.pc<=t.pc/\t.pc<n:=fun e=>by rw[e];exact⟨xAG _,hp⟩
 unfold step at h
 by_cases P:o.op=1
 ·rw[x7 P]at h;split at h
  ·exact L (xQ h)
  cases h
 rw[x6 P]at h
 by_cases a:o.op=2
 ·rw[x7 a]at h;split at h
  ·cases h
  rename_i r i;exact L ((xQ h).trans (D9 i))
 rw[x6 a]at h
 by_cases b:o.op=3
 ·rw[x7 b]at h;exact GL h hp
 rw[x6 b]at h
 by_cases l:o.op=4
 ·rw[x7 l]at h;split at h
  ·cases h
  exact gG7
 rw[x6 l]at h
 by_cases z:o.op=5
 ·rw[x7 z]at h;split at h
  ·cases h
  exact gG7
 rw[x6 z]at h
 by_cases F:o.op=6\/o.op=7\/o.op=8
 ·rw[x7 F]at h;exact L (O5 h)
 rw[x6 F]at h
 by_cases G:o.op=9
 ·rw[x7 G]at h;exact L (xQ h)
 rw[x6 G]at h
 by_cases B:o.op=10
 ·rw[x7 B]at h;split at h
  ·exact L (xQ h)
  cases h
 rw[x6 B]at h
 by_cases c:o.op=11
 ·rw[x7 c]at h;exact L (Uq h)
 rw[x6 c]at h
 by_cases j:o.op=12
 ·rw[x7 j]at h;exact L (VH h)
 rw[x6 j]at h
 by_cases C:o.op=13
 ·rw[x7 C]at h;cases h;exact L Y
 rw[x6 C]at h;cases h
end
end Go.Mach
end
section
namespace Go.Cmp
open Go.Syn Go.Mach
def jmp(op:Int):Ins:=⟨op,0,0,false,[],[],0⟩
def setN(f:List Ins)(k:Nat)(n:Int):List Ins:=f.modify k fun o=>{o with n:=n}
def land(f:List Ins)(ps:List Nat):List Ins:=ps.foldl (fun o k=>setN o k ((f.length:Int)-1-k)) f
def gV:Tree->Bool
 | .tcons _ _=>false
 | .bcons _ _ _=>false
 | .belse _ _=>false
 |_=>true
mutual
def unl:Tree->Bool->List Ins->List Ins×List Nat
 | .not_ t,c,f=>unl t (!c) f
 | .const b,c,f=>if b=c then (f++[jmp 3],[f.length])else (f,[])
 | .many d l,c,f=>(land (unlL d c l f [] []).1 (unlL d c l f [] []).2.2,(unlL d c l f [] []).2.1)
 | .mat S v B a b,c,f=>(f++[⟨B,0,S,v,a,b,0⟩,jmp (if c=true then 4 else 5)],[f.length+1])
 | .exi a,c,f=>(f++[⟨9,0,0,false,a,[],0⟩,jmp (if c=true then 4 else 5)],[f.length+1])
 | .siz S n,c,f=>(f++[⟨10,n,S,false,[],[],0⟩,jmp (if c=true then 4 else 5)],[f.length+1])
 |_,_,f=>(f,[])
def unlL(all a:Bool):Tree->List Ins->List Nat->List Nat->List Ins×List Nat×List Nat
 | .tcons t l,f,c,g=>
  if all=a/\gV l=false then unlL all a l (unl t (!a) f).1 c (g++(unl t (!a) f).2)
  else unlL all a l (unl t a f).1 (c++(unl t a f).2) g
 |_,f,c,g=>(f,c,g)
end
mutual
def body:Tree->List Ins->List Ins
 | .ccons c l,f=>body l (cmdI c f)
 |_,f=>f
def cmdI:Tree->List Ins->List Ins
 | .plain B,f=>f++[jmp B]
 | .act k a p,f=>f++[⟨11,0,k,false,if k=1 then []else [a],[],p⟩]
 | .set_ n v t,f=>f++[⟨12,0,t,false,[n],[v],0⟩]
 | .iff s,f=>dL s f []
 |_,f=>f
def dL:Tree->List Ins->List Nat->List Ins
 | .belse b l,f,out=>land (body b f) out
 | .bcons t b l,f,out=>
  if gV l=true then dL l (land (body b (unl t false f).1) (unl t false f).2) out
  else dL l (land (body b (unl t false f).1++[jmp 3]) (unl t false f).2) (out++[(body b (unl t false f).1).length])
 |_,f,out=>land f out
end
def script(t:Tree):List Ins:=body t []
theorem Jd(f:List Ins)(k:Nat)(n:Int):(setN f k n).length=f.length:=by simp[setN]
theorem GO(n:Int):∀(ps:List Nat) (o:List Ins),(ps.foldl (fun o k=>setN o k (n-1-k)) o).length=o.length:=by
 intro ps;induction ps<;>grind [Jd]
theorem dR(f:List Ins)(ps:List Nat):(land f ps).length=f.length:=GO _ ps f
def cnt:Tree->Nat
 | .const _=>1
 | .not_ t=>cnt t+1
 | .many _ l=>cnt l+1
 | .mat _ _ _ _ _=>1
 | .exi _=>1
 | .siz _ _=>1
 | .tnil=>0
 | .tcons t l=>cnt t+cnt l
 | .plain _=>1
 | .act _ _ _=>1
 | .set_ _ _ _=>1
 | .iff s=>cnt s+1
 | .cnil=>0
 | .ccons c l=>cnt c+cnt l
 | .bnil=>0
 | .bcons t b l=>cnt t+cnt b+cnt l+1
 | .belse b l=>cnt b+cnt l+1
theorem lS:∀(t:Tree),(∀d f,f.length<=(unl t d f).1.length/\(unl t d f).1.length<=f.length+2*cnt t/\(unl t d f).2.length<=cnt t/\∀k∈(unl t d f).2,k<(unl t d f).1.length)/\
  (∀all d f c g,(∀k∈c,k<f.length)->(∀k∈g,k<f.length)->f.length<=(unlL all d t f c g).1.length/\(unlL all d t f c g).1.length<=f.length+2*cnt t/\(unlL all d t f c g).2.1.length<=c.length+cnt t/\(unlL all d t f c g).2.2.length<=g.length+cnt t/\(∀k∈(unlL all d t f c g).2.1,k<(unlL all d t f c g).1.length)/\(∀k∈(unlL all d t f c g).2.2,k<(unlL all d t f c g).1.length)):=by
 intro t;induction t with
 |const b=>
  exact gHR
 |not_ t w=>
  exact gHR
 |many all l w=>
  grind [unl,cnt,unlL,dR]
 |mat S v B a b=>
  exact gHR
 |exi a=>
  exact gHR
 |siz S n=>
  exact gHR
 |tcons t l A i=>
  refine⟨fun d f=>?_,fun all d f c g h e=>?_⟩<;>grind [unl,unlL,cnt]
 |_=>
  grind [unl,unlL]
theorem mK:∀(t:Tree),(∀f,f.length<=(body t f).length/\(body t f).length<=f.length+2*cnt t)/\(∀f,f.length<=(cmdI t f).length/\(cmdI t f).length<=f.length+2*cnt t)/\(∀f out,f.length<=(dL t f out).length/\(dL t f out).length<=f.length+2*cnt t):=by
 intro t;induction t with
 |plain B=>grind [body,cmdI,cnt,dL,dR]
 |act k a p=>grind [body,cmdI,cnt,dL,dR]
 |set_ n v t=>grind [body,cmdI,cnt,dL,dR]
 |iff s w=>grind [body,cmdI,cnt,dL,dR]
 |ccons c l A i=>
  grind [cmdI,dL,body,cnt,dR]
 |belse b l A i=>
  grind [body,cmdI,dL,cnt,dR]
 |bcons t b l A i N=>
  refine⟨fun f=>by simp[body],fun f=>by simp[cmdI],fun f out=>?_⟩
  have P:=(lS t).1 false f;have h:=i.1 (unl t false f).1;simp only[dL,cnt];split
  ·grind [dR]
  have d:=N.2.2 (land (body b (unl t false f).1++[jmp 3]) (unl t false f).2) (out++[(body b (unl t false f).1).length]);exact gGS
 |_=>grind [body,cmdI,dL,dR]
end Go.Cmp
end
section
namespace Go.Cmp
open Go Go.SL Go.Syn Go.Mach
structure InsV where
 op:Int
 n:Int
 tag:Int
 oct:Bool
 a:Cell
 b:Cell
 at_:Int
def nilC:Cell:=⟨.slice none 0 0,rfl⟩
def cS:El InsV:={e:=41,sz:=7,enc:=fun v=>[i64 v.op,i64 v.n,i64 v.tag,.bool v.oct,v.a.1,v.b.1,i64 v.at_],len:=fun _=>rfl,one:=fun v u h=>by simp at h;rcases h with rfl|rfl|rfl|rfl|rfl|rfl|rfl;rfl;rfl;rfl;rfl;exact v.a.2;exact v.b.2;rfl}
def j9(e:TypeId):El Nat:={e:=e,sz:=1,enc:=fun n=>[i64 n],len:=fun _=>rfl,one:=fun _ u h=>by simp at h;subst h;rfl}
def RIns(K:Hl)(v:InsV)(o:Ins):Prop:=v.op=o.op/\v.n=o.n/\v.tag=o.tag/\v.oct=o.oct/\v.at_=o.at_/\Ksl (aZ 9) K v.a.1 o.a/\Ksl (aZ 9) K v.b.1 o.b
def RIs(K:Hl):List InsV->List Ins->Prop
 | [],[]=>True
 |v::F,o::s=>RIns K v o/\RIs K F s
 |_,_=>False
def RIns.mono{K a:Hl}{v:InsV}{o:Ins}(h:RIns K v o)(le:K.le a):RIns a v o:=⟨h.1,h.2.1,h.2.2.1,h.2.2.2.1,h.2.2.2.2.1,h.2.2.2.2.2.1.mono le,h.2.2.2.2.2.2.mono le⟩
def RIs.mono{K a:Hl}(le:K.le a):∀ {vs:List InsV} {os:List Ins},RIs K vs os->RIs a vs os
 | [],[],_=>trivial
 |_::_,_::_,h=>⟨h.1.mono le,RIs.mono le h.2⟩
def RIs.length{K:Hl}:∀ {vs:List InsV} {os:List Ins},RIs K vs os->vs.length=os.length
 | [],[],_=>rfl
 |_::_,_::_,h=>by simp[RIs.length h.2]
def RIs.append{K:Hl}{ws:List InsV}{ps:List Ins}(b:RIs K ws ps):∀ {vs:List InsV} {os:List Ins},RIs K vs os->RIs K (vs++ws) (os++ps)
 | [],[],_=>b
 |_::_,_::_,h=>⟨h.1,RIs.append b h.2⟩
def RIs.get{K:Hl}:∀ {vs:List InsV} {os:List Ins} {i:Nat} {v:InsV},RIs K vs os->vs[i]?=some v->∃o,os[i]?=some o/\RIns K v o
 |_::_,o::_,0,_,h,e=>by simp at e;subst e;exact⟨o,Y,h.1⟩
 |_::_,_::_,i+1,_,h,e=>by simpa using RIs.get h.2 gAO
def qN(vs:List InsV)(k:Nat)(n:Int):List InsV:=vs.modify k fun o=>{o with n:=n}
def Dy(vs:List InsV)(ps:List Nat):List InsV:=ps.foldl (fun o k=>qN o k ((vs.length:Int)-1-k)) vs
def RIs.setN{K:Hl}{n:Int}:∀ {vs:List InsV} {os:List Ins} {k:Nat},RIs K vs os->RIs K (qN vs k n) (Cmp.setN os k n)
 | [],[],k,_=>by
  have M:qN [] k n=[]:=List.eq_nil_of_length_eq_zero (by simp[qN]);have O:Cmp.setN [] k n=[]:=List.eq_nil_of_length_eq_zero (by simp[Cmp.setN]);rw[M,O];trivial
 |v::vs,o::os,0,h=>⟨⟨h.1.1,rfl,h.1.2.2.1,h.1.2.2.2.1,h.1.2.2.2.2.1,h.1.2.2.2.2.2.1,h.1.2.2.2.2.2.2⟩,h.2⟩
 |v::vs,o::os,k+1,h=>⟨h.1,RIs.setN (k:=k) h.2⟩
def RIs.land{K:Hl}{vs:List InsV}{os:List Ins}{ps:List Nat}(h:RIs K vs os):RIs K (Dy vs ps) (Cmp.land os ps):=by
 unfold Dy Cmp.land;rw[<-h.length]
 generalize ((vs.length:Nat):Int)=m
 revert vs os
 induction ps with
 |nil=>intro vs os h;exact h
 |cons k ps w=>intro vs os h;exact w h.setN
theorem Hg(vs:List InsV)(k:Nat)(n:Int):(qN vs k n).length=vs.length:=by simp[qN]
def KO{vs:List InsV}{ps:List Nat}{i p:Nat}{m:Int}(h:ps[i]?=some p):(ps.take (i+1)).foldl (fun o k=>qN o k (m-1-k)) vs=qN ((ps.take i).foldl (fun o k=>qN o k (m-1-k)) vs) p (m-1-p):=by
 have a:i<ps.length:=by
  rcases xAD i ps.length with e|e
  ·exact e
  simp[List.getElem?_eq_none e]at h
 have d:ps[i]=p:=by simpa[List.getElem?_eq_getElem a]using h
 rw[xAK a,d];simp
theorem Aw(m:Int):∀(ps:List Nat) (o:List InsV),(ps.foldl (fun o k=>qN o k (m-1-k)) o).length=o.length:=by
 intro ps;induction ps<;>grind [Hg]
def qT(vs:List InsV)(ps:List Nat):(Dy vs ps).length=vs.length:=Aw _ ps vs
def Pv{vs:List InsV}{k:Nat}{n:Int}{v:InsV}(h:vs[k]?=some v):qN vs k n=vs.set k {v with n:=n}:=by
 unfold qN;have p:k<vs.length:=by
  rcases xAD k vs.length with a|a
  ·exact a
  simp[List.getElem?_eq_none a]at h
 have d:vs[k]=v:=by simpa[List.getElem?_eq_getElem p]using h
 apply List.ext_getElem cD
 intro i b c;rw[List.getElem_modify,List.getElem_set];split
 ·rename_i e;subst e;rw[d]
 rfl
def cdr(b:Nat)(vs:List InsV):Asn:=exA fun s=>[pt b (bK [s] 217),sl false cS s vs]
def He{b:Nat}{vs:List InsV}{cv:Value}{M:List Asn}:∀h,Sat (pt b (bK [cv] 217)::sl false cS cv vs::M) h->Sat (cdr b vs::M) h:=fun h y=>nO.2 ⟨cv,y⟩
end Go.Cmp
end
section
namespace Go.Mach
open Go Go.SL Go.Syn
def lG:List (aP×aP)->(Nat->Nat)->List Ent
 | [],_=>[]
 |(k,v)::r,f=>(k,.agg #[str v],f 0)::lG r (fun n=>f (n+1))
theorem Qj(k:aP):∀(vars:List (aP×aP)) (f:Nat->Nat),(mget (lG vars f) k).getD (.agg #[str []])=.agg #[str (vget vars k)]:=by
 intro vars;induction vars<;>grind [lG,vget,mget]
def Qk(k v:aP)(c:Nat):∀(vars:List (aP×aP)) (f:Nat->Nat),∃d,mset k (.agg #[str v]) c (lG vars f)=lG (vput vars k v) d:=by
 intro vars;induction vars with
 |nil=>intro f;exact⟨fun _=>c,Y⟩
 |cons p r w=>
  obtain⟨j,u⟩:=p;intro f;unfold lG vput mset
  by_cases h:k=j
  ·subst h;rw[x7 rfl,x7 rfl];exact⟨f,Y⟩
  rw[x6 h,x6 (fun e=>h e.symm)];obtain⟨d,a⟩:=w (fun n=>f (n+1));refine⟨fun n=>match n with|0=>f 0|n+1=>d n,?_⟩
  rw[a]
def GJ(s:aP)(c:UInt8): -1<=Lib.indexByte s c/\Lib.indexByte s c<s.length:=by
 refine⟨Lib.indexByte_ge s c,?_⟩
 by_cases h:Lib.indexByte s c<0
 ·omega
 have e:Lib.indexByte s c=((Lib.indexByte s c).toNat:Nat):=aH;obtain⟨b,_⟩:=Lib.indexByte_some e;rcases xAD (Lib.indexByte s c).toNat s.length with a|a
 ·omega
 rw[xAH a]at b;cases b
end Go.Mach
end
section
namespace Go.Proofs
open Go Go.SL Go.Syn Go.Cmp Tryz
def mY(b C:Nat)(vs ys:List InsV)(cells:List Value)(K:Hl)(e:cells=cS.cs ys)(g:vs.length+ys.length<=1000000):
  Sp x3 193 [ptr b,.slice (some ⟨C,0,none⟩) ys.length ys.length] K [cdr b vs,pt C (bK cells 41)]
   (Ret fun v d L'=>v=i64 (((vs++ys).length:Int)-1)/\d=K/\L'=[cdr b (vs++ys)]):=by
 have a:(cells.drop 0).take (ys.length*7)=cS.cs ys:=by
  subst e;rw[xBX,xAJ (by rw[cS.cs_length];exact xAG _)]
 have f:(vs++ys).length=vs.length+ys.length:=xAE;refine bL func193 Y ntmps193 Y Y fun F w=>tR fun s=>ZD ?_;refine cG (dJ (k:=cS) (ys:=ys) q5 Y Y bP (fun w j=>dC xAN (SeesSl.at (k:=cS) (.blk aL Y a) j)) gAH gAH) Y ?_;rintro h K _ ⟨rfl,rfl,c⟩ -;refine ZB ?_;refine aA (bU (k:=cS) Y xAN Y aL) Y (Z5 ?_);refine uAn ?_;refine d8 He (Z1 ?_);exact gDF
def tI(b:Nat)(pv:Value)(vs:List InsV)(ps:List Nat)(K:Hl)(Q:vs.length<=1000000)(E:ps.length<=1000000)(hp:∀p∈ps,p<vs.length):
  Sp x3 271 [ptr b,pv] K [cdr b vs,sl false (j9 3) pv ps] (Ret fun v t L'=>v=.tuple #[]/\t=K/\L'=[cdr b (Dy vs ps)]):=by
 refine bL func271 Y ntmps271 Y Y fun F w=>tR fun s=>Z3 ?_;refine aA (bU (k:=(j9 3)) Y xB2 Y aL) Y (Z4 ?_);refine eD (fun(i:Nat)=>i<=ps.length) (fun i=>[(0,ptr b),(6,pv),(7,i64 ps.length),(8,i64 i)]) (fun _=>_) (fun i=>[sl false cS s ((ps.take i).foldl (fun o k=>qN o k ((vs.length:Int)-1-k)) vs),pt b (bK [s] 217),sl false (j9 3) pv ps]) (fun i=>ps.length-i) 0 (xAA _) bM Y (fun _ h=>hO h) ?_;intro i O;refine Z6 ?_;refine aX 9 Y (fun A=>?_) (fun A=>?_)
 ·have M:i<ps.length:=aH;obtain⟨p,I⟩:∃p,ps[i]?=some p:=⟨ps[i]'M,x4 M⟩;have L:p<vs.length:=hp p (x8 I);obtain⟨a,u⟩:∃a,a=(ps.take i).foldl (fun o k=>qN o k ((vs.length:Int)-1-k)) vs:=⟨_,rfl⟩;rw[<-u];have l:a.length=vs.length:=(by rw[u,Aw]);obtain⟨x,e⟩:∃x,a[p]?=some x:=⟨a[p]'(by omega),x4 aH⟩;refine Z6 ?_;refine aA (aW (k:=(j9 3)) qD Y aL Y Y gAJ) Y ?_;refine aA (cE (o:=0) (k:=(j9 3)) ts3 Y aL bZ Y) Y (Z3 ?_);refine Yj (by intro h;rw[h]at e;simp at e) fun N f c P W y q r=>?_;subst W;have H:((cS.cs a++c).drop 0).take (a.length*cS.sz)=cS.cs a:=(by rw[xBX,<-cS.cs_length,List.take_left]);have S:(cS.cs a++c).length=f*7:=(by rw[xAE,cS.cs_length,q];show a.length*7+(f-a.length)*7=_;omega);refine cN [15] [15] mixed gAD (cM _) (Z9 ?_);refine aJ Y Y (.none Y) Y Y (bU (k:=cS) Y xAN Y (.blk aL Y H)) Y (Z3 ?_);refine aJ Y Y (.none Y) Y Y (Dg (k:=cS) (j:=p) (m:=0+p*7) Y eP Y (.blk aL Y H) Y Y aH) Y ?_;refine aJ Y Y (.none Y) Y Y (aD (o:=0+p*7) (o':=0+p*7+1) fT Y Y) Y (l7 Y Y (.none Y) Y (bW ts3 Y Y Y .here (xW (by rw[S];omega)) (r.at (by show 0+p*7+1<f*7;omega))) ?_);rintro _ K _ ⟨rfl,rfl⟩ -;refine Z7 ?_;have C:((cS.cs a++c).set (0+p*7+1) (i64 (a.length-1-p)))=cS.cs (a.set p {x with n:=a.length-1-p})++c:=(by rw[show 0+p*7+1=p*cS.sz+1 from by show _=p*7+1;omega];exact cs_set cS dD Y e);have G:(ps.take (i+1)).foldl (fun o k=>qN o k ((vs.length:Int)-1-k)) vs=a.set p {x with n:=a.length-1-p}:=(by rw[KO I,<-u,Pv e,l]);have g:(a.set p {x with n:=a.length-1-p}).length=a.length:=xBD;refine d8 (fun h B=>Tl (k:=cS) (z:=false) (xs:=a.set p {x with n:=a.length-1-p}) (fun h=>by cases h) (by rw[g];exact y) (by rw[g];exact q) r C B) (cX (i+1) aH aH bM Y ?_);rw[G,g];exact fun _ h=>h
 have d:(ps.take i).foldl (fun o k=>qN o k ((vs.length:Int)-1-k)) vs=Dy vs ps:=(by rw[xAJ aH];rfl);refine Z4 ?_;rw[d];refine uAn ?_;refine d8 He (Z1 ?_);exact gDF
section
variable{K:Hl}{ys:List (Cell×Cell)}{rest:Tree}
def C3(b e n:Nat)(x:Value)(a:x=i64 n):∀h,pt b (bK [x] e) h->sl false (j9 e) (.slice (some ⟨b,0,none⟩) 1 1) [n] h:=by
 subst a;exact AH (k:=j9 e) (xs:=[n]) (cells:=[i64 n]) (xAG _) Y Y (.inl (xAG _)) (fun h=>by cases h)
def sN(K:Hl):Ksl (aZ 9) K nilC.1 []:=.inl ⟨none,0,rfl,rfl⟩
abbrev jmpV(op:Int):InsV:=⟨op,0,0,false,nilC,nilC,0⟩
def tL(K:Hl)(op:Int):RIns K (jmpV op) (jmp op):=⟨rfl,rfl,rfl,rfl,rfl,sN K,sN K⟩
def RIs.two{x y:InsV}{o p:Mach.Ins}(h:RIns K x o)(b:RIns K y p):RIs K [x,y] [o,p]:=⟨h,b,trivial⟩
abbrev UnlR(b:Nat)(r:List Mach.Ins×List Nat):Ending->Hl->List Asn->Prop:=Ret fun i K g=>∃v,RIs K v r.1/\g=[sl false (j9 3) i r.2,cdr b v]
def UnlS(t:Tree):Prop:=wf t 0=true->∀(b:Nat) (l:Bool) (P:TypeId) (u:Value) (F:List InsV) (f:List Mach.Ins) (K:Hl),Rep K t [(⟨.iface P u,rfl⟩,u0)]->RIs K F f->F.length+2*cnt t<=900000->Sp x3 270 [ptr b,.iface P u,.bool l] K [cdr b F] (UnlR b (unl t l f))
def UnlL:Tree->Prop
 | .tcons t l=>UnlS t/\UnlL l
 |_=>True
def Pc{xs:List (Cell×Cell)}{i:Nat}(a:wf rest 1=true)(b:Rep K rest (xs.drop i))(p:i<xs.length):
  ∃t l c,rest=.tcons t l/\Rep K t [(c,u0)]/\Rep K l (xs.drop (i+1))/\xs[i]?=some (c,u0)/\wf t 0=true/\wf l 1=true:=by
 have hd:xs.drop i≠[]:=by intro h;have:=xAF List.length h;simp at this;omega
 cases rest<;>simp only[wf,Rep]at a b
 case tnil=>exact absurd b hd
 case tcons t l=>
  obtain⟨c,ys,f,g,d⟩:=b;simp at a;have e:xs.drop (i+1)=ys:=by rw[<-List.drop_drop,d];rfl
  refine⟨t,l,c,Y,f,by rw[e];exact g,?_,a.1,a.2⟩
  exact gF7
 all_goals simp at a
def SC{l:Tree}(e:wf l 1=true)(i:Rep K l ys):gV l=false↔0<ys.length:=by
 cases l<;>simp only[wf,Rep]at e i
 case tnil=>subst i;simp[gV]
 case tcons t l=>obtain⟨c,N,_,_,rfl⟩:=i;simp[gV]
 all_goals simp at e
def S7(e:wf rest 1=true)(i:Rep K rest ys)(A:ys=[]){all b:Bool}{f:List Mach.Ins}{a h:List Nat}:unlL all b rest f a h=(f,a,h):=by
 cases rest<;>simp only[wf,Rep]at e i
 case tnil=>simp[unlL]
 case tcons t l=>obtain⟨c,N,_,_,rfl⟩:=i;cases A
 all_goals simp at e
def Qg(p:Bool):UnlS (.const p):=by
 intro r b l P u g f K q H v;cases (show [(_,u0)]=[(_,u0)]from q)
 have G:=H.length;refine bL func270 Y ntmps270 Y Y fun F w=>Z7 ?_;refine uAk ?_;refine Z1 ?_;refine aCJ fun M=>cA (cQ gT Y Y Y bP (by first|(simp[Value.oneCell'];done)|exact fun c i=>El.one _ _ c i) (.cons (.cons (.cons (.cons (.cons (.cons (.cons .nil))))))) (by intro j E;simp)) ?_;refine aCK (Z2 ?_);refine dU (fun(j:Int)=>j=if l=true then 4 else 5) (fun _=>[(0,ptr b),(1,.iface 289 (.bool p)),(2,.bool l),(7,ptr M)]) (fun _=>K) (fun j=>[pt M (bK [i64 j,i64 0,i64 0,.bool false,.slice none 0 0,.slice none 0 0,i64 0] 41),cdr b g]) ?_ ?_
 ·refine Z5 ?_;refine dZ 19 Y (fun L=>Z4 ?_) (fun L=>?_)
  ·exact cB _ (by rw[L];rfl) bM Y (fun _ h=>h)
  refine aU ?_;exact cB _ (by rw[L];rfl) bM Y (fun _ h=>h)
 intro j E;refine Z9 ?_;refine aA (eY xBV (fun _ h=>by cases h) Y JA Y) Y (Z7 ?_);refine aA (jI xCA (fun _ h=>by cases h) Y) Y (ZF ?_);refine aA (Al xBC Y Y) Y (Z2 ?_);refine dZ 36 Y (fun B=>?_) (fun B=>?_)
 ·have a:unl (.const p) l f=(f,[]):=(by unfold unl;rw[x6 (by intro h;subst h;simp at B)]);refine Z9 ?_;refine aV (aQ dQ bT) (d8 (eO (j9 3)) (Z1 ?_));rw[a];exact⟨_,Y,g,H,Y⟩
 have a:unl (.const p) l f=(f++[jmp 3],[f.length]):=(by unfold unl;rw[x7 (by simpa using B)]);refine Z5 ?_;refine uAk ?_;refine cG (bJ (z0:=[.int .i64 0,.int .i64 0,.int .i64 0,.bool false,.slice none 0 0,.slice none 0 0,.int .i64 0]) eP qG Y Y Y Y cW) Y ?_;refine aCJ fun d=>bA Y Y (mY b d g [jmpV 3] _ _ Y (by simp;omega)) bQ Y ?_;refine aCL (cG (bJ (z0:=[.int .i64 0]) qD tz3 Y Y Y Y cW) Y ?_);refine aCJ fun e=>Z6 ?_;refine uAg ?_;refine d8 (gS (C3 e 3 f.length _ (by rw[xAE,G];simp))) (Z1 ?_);rw[a];exact⟨_,Y,_,RIs.append (ws:=[jmpV 3]) (ps:=[jmp 3]) ⟨tL _ _,trivial⟩ H,Y⟩
def Wp(t:Tree)(x:UnlS t):UnlS (.not_ t):=by
 intro s b l P u i f K r H v;obtain⟨⟨I,q⟩,a,A⟩:=r;have e:wf t 0=true:=by simpa[wf]using s
 obtain⟨y,C,d⟩:=Bv (.inl e) a;cases d
 cases A
 simp only[cnt]at v;have G:=H.length;refine bL func270 Y ntmps270 Y Y fun F w=>Z7 ?_;refine uAk ?_;refine Z1 ?_;refine aCJ fun M=>cA (cQ gT Y Y Y bP (by first|(simp[Value.oneCell'];done)|exact fun c d=>El.one _ _ c d) (.cons (.cons (.cons (.cons (.cons (.cons (.cons .nil))))))) (by intro j E;simp)) ?_;refine aCK (Z2 ?_);refine dU (fun(j:Int)=>j=if l=true then 4 else 5) (fun _=>[(0,ptr b),(1,.iface 293 (.agg #[.iface y C])),(2,.bool l),(7,ptr M)]) (fun _=>K) (fun j=>[pt M (bK [i64 j,i64 0,i64 0,.bool false,.slice none 0 0,.slice none 0 0,i64 0] 41),cdr b i]) ?_ ?_
 ·refine Z5 ?_;refine dZ 19 Y (fun L=>Z4 ?_) (fun L=>?_)
  ·exact cB _ (by rw[L];rfl) bM Y (fun _ h=>h)
  refine aU ?_;exact cB _ (by rw[L];rfl) bM Y (fun _ h=>h)
 intro j E;refine Z9 ?_;refine aA (jI xBV (fun _ h=>by cases h) Y) Y (Z8 ?_);refine aCJ fun B=>cA (cQ VX Y Y Y bP (by first|(simp[Value.oneCell'];done)|exact fun c d=>El.one _ _ c d) (.cons .nil) (by intro j E;simp)) ?_;refine aCK (Z8 ?_);refine aA (by first|exact dW Y|exact eB Y) Y (bA Y Y (x e b (!l) y C i f _ a H aH) bQ Y ?_);rintro _ z _ ⟨g,W,rfl⟩ p;refine Z6 ?_;refine uAg ?_;refine bG Y Y p ?_;exact⟨_,Y,g,W,Y⟩
def Wo(tag:Int)(oct:Bool)(op:Int)(a s:List (List UInt8)):UnlS (.mat tag oct op a s):=by
 intro z b p B u r g K v H y;obtain⟨C,N,i,W,A⟩:=v;obtain⟨I,Q,q,rfl⟩:=i.isSlice;obtain⟨x,t,l,rfl⟩:=W.isSlice;cases A
 have G:=H.length;refine bL func270 Y ntmps270 Y Y fun F w=>Z7 ?_;refine uAk ?_;refine Z1 ?_;refine aCJ fun M=>cA (cQ gT Y Y Y bP (by first|(simp[Value.oneCell'];done)|exact fun c f=>El.one _ _ c f) (.cons (.cons (.cons (.cons (.cons (.cons (.cons .nil))))))) (by intro j E;simp)) ?_;refine aCK (Z2 ?_);refine dU (fun(j:Int)=>j=if p=true then 4 else 5) (fun _=>[(0,ptr b),(1,.iface 380 (.agg #[i64 tag,.bool oct,i64 op,.slice I Q q,.slice x t l])),(2,.bool p),(7,ptr M)]) (fun _=>K) (fun j=>[pt M (bK [i64 j,i64 0,i64 0,.bool false,.slice none 0 0,.slice none 0 0,i64 0] 41),cdr b r]) ?_ ?_
 ·refine Z5 ?_;refine dZ 19 Y (fun L=>Z4 ?_) (fun L=>?_)
  ·exact cB _ (by rw[L];rfl) bM Y (fun _ h=>h)
  refine aU ?_;exact cB _ (by rw[L];rfl) bM Y (fun _ h=>h)
 intro j E;refine Z9 ?_;refine aA (eY xBV (fun _ h=>by cases h) Y JA Y) Y (Z7 ?_);refine aA (eY xCA (fun _ h=>by cases h) Y MX Y) Y (Z7 ?_);refine aA (eY xB9 (fun _ h=>by cases h) Y TY Y) Y (Z7 ?_);refine aA (jI xCE (fun _ h=>by cases h) Y) Y (Z8 ?_);refine aCJ fun P=>cA (cQ Hv Y Y Y bP (by first|(simp[Value.oneCell'];done)|exact fun c f=>El.one _ _ c f) (.cons (.cons (.cons (.cons (.cons .nil))))) (by intro j E;simp)) ?_;refine aCK (ZH ?_);refine uAk ?_;refine Z1 ?_;refine cG (bJ (z0:=[.int .i64 0,.int .i64 0,.int .i64 0,.bool false,.slice none 0 0,.slice none 0 0,.int .i64 0,.int .i64 0,.int .i64 0,.int .i64 0,.bool false,.slice none 0 0,.slice none 0 0,.int .i64 0]) eP qG Y Y Y Y cW) Y ?_;refine aCJ fun d=>bA Y Y (mY b d r [⟨op,0,tag,oct,⟨.slice I Q q,Y⟩,⟨.slice x t l,Y⟩,0⟩,jmpV j] _ _ Y (by simp;omega)) bQ Y ?_;refine aCL (cG (bJ (z0:=[.int .i64 0]) qD tz3 Y Y Y Y cW) Y ?_);refine aCJ fun e=>Z6 ?_;refine uAg ?_;refine d8 (gS (C3 e 3 (g.length+1) _ (by rw[xAE,G];simp;omega))) (Z1 ?_);unfold unl;exact⟨_,Y,_,RIs.append (RIs.two ⟨Y,Y,Y,Y,Y,i,W⟩ (by rw[E];exact tL _ _)) H,Y⟩
def Wm(a:List (List UInt8)):UnlS (.exi a):=by
 intro s b l P u p g K r H v;obtain⟨C,i,A⟩:=r;obtain⟨I,Q,q,rfl⟩:=i.isSlice;cases A
 have G:=H.length;refine bL func270 Y ntmps270 Y Y fun F w=>Z7 ?_;refine uAk ?_;refine Z1 ?_;refine aCJ fun M=>cA (cQ gT Y Y Y bP (by first|(simp[Value.oneCell'];done)|exact fun c f=>El.one _ _ c f) (.cons (.cons (.cons (.cons (.cons (.cons (.cons .nil))))))) (by intro j E;simp)) ?_;refine aCK (Z2 ?_);refine dU (fun(j:Int)=>j=if l=true then 4 else 5) (fun _=>[(0,ptr b),(1,.iface 297 (.agg #[.slice I Q q])),(2,.bool l),(7,ptr M)]) (fun _=>K) (fun j=>[pt M (bK [i64 j,i64 0,i64 0,.bool false,.slice none 0 0,.slice none 0 0,i64 0] 41),cdr b p]) ?_ ?_
 ·refine Z5 ?_;refine dZ 19 Y (fun L=>Z4 ?_) (fun L=>?_)
  ·exact cB _ (by rw[L];rfl) bM Y (fun _ h=>h)
  refine aU ?_;exact cB _ (by rw[L];rfl) bM Y (fun _ h=>h)
 intro j E;refine Z9 ?_;refine aA (eY xBV (fun _ h=>by cases h) Y JA Y) Y (Z7 ?_);refine aA (eY xCA (fun _ h=>by cases h) Y MX Y) Y (Z7 ?_);refine aA (eY xB9 (fun _ h=>by cases h) Y TY Y) Y (Z7 ?_);refine aA (eY xCE (fun _ h=>by cases h) Y WU Y) Y (Z7 ?_);refine aA (jI xCS (fun _ h=>by cases h) Y) Y (Z8 ?_);refine aCJ fun W=>cA (cQ VY Y Y Y bP (by first|(simp[Value.oneCell'];done)|exact fun c f=>El.one _ _ c f) (.cons .nil) (by intro j E;simp)) ?_;refine aCK (Z7 ?_);refine uAk ?_;refine Z1 ?_;refine cG (bJ (z0:=[.int .i64 0,.int .i64 0,.int .i64 0,.bool false,.slice none 0 0,.slice none 0 0,.int .i64 0,.int .i64 0,.int .i64 0,.int .i64 0,.bool false,.slice none 0 0,.slice none 0 0,.int .i64 0]) eP qG Y Y Y Y cW) Y ?_;refine aCJ fun d=>bA Y Y (mY b d p [⟨9,0,0,false,⟨.slice I Q q,Y⟩,nilC,0⟩,jmpV j] _ _ Y (by simp;omega)) bQ Y ?_;refine aCL (cG (bJ (z0:=[.int .i64 0]) qD tz3 Y Y Y Y cW) Y ?_);refine aCJ fun e=>Z6 ?_;refine uAg ?_;refine d8 (gS (C3 e 3 (g.length+1) _ (by rw[xAE,G];simp;omega))) (Z1 ?_);unfold unl;exact⟨_,Y,_,RIs.append (RIs.two ⟨Y,Y,Y,Y,Y,i,sN _⟩ (by rw[E];exact tL _ _)) H,Y⟩
def Wr(tag n:Int):UnlS (.siz tag n):=by
 intro q b l P u g f K p H v;cases (show [(_,u0)]=[(_,u0)]from p)
 have G:=H.length;refine bL func270 Y ntmps270 Y Y fun F w=>Z7 ?_;refine uAk ?_;refine Z1 ?_;refine aCJ fun M=>cA (cQ gT Y Y Y bP (by first|(simp[Value.oneCell'];done)|exact fun c e=>El.one _ _ c e) (.cons (.cons (.cons (.cons (.cons (.cons (.cons .nil))))))) (by intro j E;simp)) ?_;refine aCK (Z2 ?_);refine dU (fun(j:Int)=>j=if l=true then 4 else 5) (fun _=>[(0,ptr b),(1,.iface 300 (.agg #[i64 tag,i64 n])),(2,.bool l),(7,ptr M)]) (fun _=>K) (fun j=>[pt M (bK [i64 j,i64 0,i64 0,.bool false,.slice none 0 0,.slice none 0 0,i64 0] 41),cdr b g]) ?_ ?_
 ·refine Z5 ?_;refine dZ 19 Y (fun L=>Z4 ?_) (fun L=>?_)
  ·exact cB _ (by rw[L];rfl) bM Y (fun _ h=>h)
  refine aU ?_;exact cB _ (by rw[L];rfl) bM Y (fun _ h=>h)
 intro j E;refine Z9 ?_;refine aA (eY xBV (fun _ h=>by cases h) Y JA Y) Y (Z7 ?_);refine aA (eY xCA (fun _ h=>by cases h) Y MX Y) Y (Z7 ?_);refine aA (eY xB9 (fun _ h=>by cases h) Y TY Y) Y (Z7 ?_);refine aA (eY xCE (fun _ h=>by cases h) Y WU Y) Y (Z7 ?_);refine aA (eY xCS (fun _ h=>by cases h) Y aBG Y) Y (Z7 ?_);refine aA (jI xCT (fun _ h=>by cases h) Y) Y (Z8 ?_);refine aCJ fun i=>cA (cQ VZ Y Y Y bP (by first|(simp[Value.oneCell'];done)|exact fun c e=>El.one _ _ c e) (.cons (.cons .nil)) (by intro j E;simp)) ?_;refine aCK (Z9 ?_);refine uAk ?_;refine Z1 ?_;refine cG (bJ (z0:=[.int .i64 0,.int .i64 0,.int .i64 0,.bool false,.slice none 0 0,.slice none 0 0,.int .i64 0,.int .i64 0,.int .i64 0,.int .i64 0,.bool false,.slice none 0 0,.slice none 0 0,.int .i64 0]) eP qG Y Y Y Y cW) Y ?_;refine aCJ fun a=>bA Y Y (mY b a g [⟨10,n,tag,false,nilC,nilC,0⟩,jmpV j] _ _ Y (by simp;omega)) bQ Y ?_;refine aCL (cG (bJ (z0:=[.int .i64 0]) qD tz3 Y Y Y Y cW) Y ?_);refine aCJ fun d=>Z6 ?_;refine uAg ?_;refine d8 (gS (C3 d 3 (f.length+1) _ (by rw[xAE,G];simp;omega))) (Z1 ?_);unfold unl;exact⟨_,Y,_,RIs.append (RIs.two ⟨Y,Y,Y,Y,Y,sN _,sN _⟩ (by rw[E];exact tL _ _)) H,Y⟩
end
section
variable{all tn:Bool}{ops:List Mach.Ins}{a h:List Nat}{l t:Tree}
def Uc(d:¬(all=tn/\gV l=false)):unlL all tn (.tcons t l) ops a h=unlL all tn l (unl t tn ops).1 (a++(unl t tn ops).2) h:=by
 simp only[unlL];rw[x6 d]
def Y3(d:all=tn/\gV l=false):unlL all tn (.tcons t l) ops a h=unlL all tn l (unl t (!tn) ops).1 a (h++(unl t (!tn) ops).2):=by
 simp only[unlL];rw[x7 d]
def Gw(h:wf t 0=true):1<=cnt t:=by
 cases t<;>simp only[wf,cnt]at h ⊢<;>first|omega|(simp at h)
def SA{K:Hl}:∀ {l:Tree} {xs:List (Cell×Cell)},wf l 1=true->Rep K l xs->xs.length<=cnt l:=by
 intro l;induction l with
 |tnil=>intro xs _ h;cases (show xs=[]from h);simp
 |tcons t l A i=>
  rintro xs e ⟨v,c,a,b,rfl⟩;simp[wf]at e;have:=i e.2 b;have:=Gw e.1;exact gFT
 |_=>intro xs e _;simp[wf]at e
def Ue(all:Bool)(l:Tree)(ih:UnlL l):UnlS (.many all l):=by
  intro hw b tn ty u vs ops K hr hv hl;obtain⟨x,sv,jc,hS,A⟩:=hr;obtain⟨sa,sn,sc,rfl⟩:=hS.isSlice;cases A
  have jf:wf l 1=true:=by simpa[wf]using hw
  have qb:=SA jf jc;simp only[cnt]at hl;have qa:=hv.length;refine bL func270 Y ntmps270 Y Y fun F w=>?_;refine Z7 ?_;refine aA (dA yF qP (.cons Y Y Y (.cons .nil) .nil)) Y ?_;refine Z1 ?_;rintro _ K _ ⟨b7,rfl,rfl,rfl⟩ -;refine cA (cQ gT Y Y Y bP (by first|(simp[Value.oneCell'];done)|exact fun c hc=>El.one _ _ c hc) (.cons (.cons (.cons (.cons (.cons (.cons (.cons .nil))))))) (by intro j hj;simp)) ?_;rintro _ K _ ⟨rfl,rfl⟩ -;refine Z2 ?_;refine dU (fun(j:Int)=>j=if tn=true then 4 else 5) (fun _=>[(0,ptr b),(1,.iface 376 (.agg #[.bool all,.slice sa sn sc])),(2,.bool tn),(7,ptr b7)]) (fun _=>K) (fun j=>[pt b7 (bK [i64 j,i64 0,i64 0,.bool false,.slice none 0 0,.slice none 0 0,i64 0] 41),cdr b vs]) ?_ ?_
  · refine Z5 ?_;refine dZ 19 Y (fun I=>Z2 ?_) (fun I=>?_)
    · refine cA (bW ts3 Y Y cR bP .zero Y) ?_;rintro _ K _ ⟨rfl,rfl⟩ -;refine aG ?_;exact cB _ (by rw[I];rfl) (.cons 0 Y (.cons 1 Y (.cons 2 Y (.cons 7 Y .nil)))) Y (fun _ h=>h)
    refine aU ?_;exact cB _ (by rw[I];rfl) (.cons 0 Y (.cons 1 Y (.cons 2 Y (.cons 7 Y .nil)))) Y (fun _ h=>h)
  intro j hj;refine Z9 ?_;refine aA (eY xBV (fun _ h=>by cases h) Y JA Y) Y ?_;refine Z7 ?_;refine aA (eY xCA (fun _ h=>by cases h) Y MX Y) Y ?_;refine Z7 ?_;refine aA (jI xB9 (fun _ h=>by cases h) Y) Y ?_;refine Z8 ?_;rintro _ K _ ⟨ja,rfl,rfl,rfl⟩ -;refine cA (cQ Hu Y Y Y bP (by first|(simp[Value.oneCell'];done)|exact fun c hc=>El.one _ _ c hc) (.cons (.cons .nil)) (by intro j hj;simp)) ?_;rintro _ K _ ⟨rfl,rfl⟩ -;refine ZB ?_;refine kG (eO (j9 3)) ?_;refine kG (eO (j9 3)) ?_;refine Z2 ?_;refine aA (bU (k:=(cC 288)) Y xCF Y aL) Y ?_;refine Z4 ?_;refine l9 (.cons (.there (.there .here)) (.cons .here (.cons .here (.cons (.there .here) .nil)))) ?_;refine Hp (fun(S:Hl) (i:Nat) (N z:Value) (P:List InsV) (y A:List Nat)=>K.le S/\i<=x.length/\∃d a,Rep S d (x.drop i)/\wf d 1=true/\UnlL d/\RIs S P a/\unlL all tn l ops [] []=unlL all tn d a y A/\P.length+2*cnt d<=900000/\y.length+cnt d<=900000/\A.length+cnt d<=900000) (fun _ i N z _ _ _=>[(0,ptr b),(2,.bool tn),(10,ptr ja),(11,N),(12,z),(46,.slice sa sn sc),(47,i64 (x.map Prod.fst).length),(48,i64 i)]) (fun S _ _ _ _ _ _=>S) (fun _ _ N z P y A=>[pt ja (bK [.bool all,.slice sa sn sc] 376),sl false (j9 3) N y,sl false (j9 3) z A,cdr b P]) (fun _ i _ _ _ _ _=>x.length-i) K 0 _ _ vs [] [] ⟨xAB _,xAA _,l,ops,jc,jf,ih,hv,Y,aH,by simp;omega,by simp;omega⟩ (.cons 0 Y (.cons 2 Y (.cons 10 Y (.cons 11 Y (.cons 12 Y (.cons 46 Y (.cons 47 Y (.cons 48 Y .nil)))))))) Y (fun _ h=>h) ?_;intro S i N z P y A ⟨r,jy,d,a,jd,jg,L,s,hx,jj,jk,jl⟩;have jw:Ksl (cC 288) S (.slice sa sn sc) (x.map Prod.fst):=hS.mono r;have jz:(x.map Prod.fst).length=x.length:=xAW _;refine Z6 ?_;refine aX 49 Y (fun jh=>?_) (fun jh=>?_)
  · have jb:i<x.length:=aH;obtain⟨t1,Q,c,rfl,C,f,jr,E,g⟩:=Pc jg jd jb;obtain⟨⟨cv,jq⟩,hc⟩:∃c2,c=c2:=⟨_,rfl⟩;subst hc;obtain⟨G,u2,jp⟩:=Bv (.inl E) C;cases jp
    have js:(x.map Prod.fst)[i]?=some ⟨.iface G u2,jq⟩:=(by rw[xAT,jr];rfl);simp only[cnt]at jj jk jl;have M:=(lS t1).1;have q:=SC g f;have jx:(x.drop (i+1)).length=x.length-(i+1):=xBF;have je:=s.length;refine Z7 ?_;refine aA (aW (k:=(cC 288)) sZ Y aL Y Y (by first|assumption|omega)) Y ?_;refine aA (cE (o:=0) (k:=(cC 288)) wW Y aL bZ Y) Y ?_;refine ZA ?_;refine aA (Al xBC Y Y) Y ?_;refine Z3 ?_;refine dZ 59 Y (fun W=>?_) (fun W=>?_)
    · refine Z5 ?_;refine bA Y Y (L.1 E b tn G u2 P a _ C s aH) (.cons (.there (.there (.there .here))) .nil) Y ?_;rintro pv K3 _ ⟨v,p,rfl⟩ t;have hu:=M tn a;refine cG (dJ (k:=(j9 3)) (ys:=(unl t1 tn a).2) uV Y Y (.there (.there (.there .here))) (fun w j=>dC xB2 (SeesSl.at (k:=j9 3) (.own .here) j)) (by first|(simp;omega)|omega) (by first|(simp;omega)|omega)) Y ?_;rintro qd K _ ⟨rfl,rfl,ju⟩ -;refine Z9 ?_
      (have B : ¬ (all = tn /\ gV Q = false) := (by first | exact (fun h => (show ¬ all = tn from by simpa using W) h.1) | exact (fun h => by have := q.1 h.2; omega))
       refine aV (.cons (.there (.there (.there .here))) (.cons .here (.cons (.there (.there .here)) (.cons (.there .here) .nil)))) ?_;refine rQ _ (i+1) _ z v (y++(unl t1 tn a).2) A ⟨x5 r t,aH,Q,_,f.mono t,g,L.2,p,by rw[hx,Uc B],by have:=p.length;omega,by rw[xAE];omega,aH⟩ aH (.cons 0 Y (.cons 2 Y (.cons 10 Y (.cons 11 Y (.cons 12 Y (.cons 46 Y (.cons 47 Y (.cons 48 Y .nil)))))))) Y a7)
    refine Z5 ?_;refine aA (bU (k:=(cC 288)) Y xCF Y aL) Y ?_;refine Z5 ?_;refine aX 70 Y (fun ji=>Z5 ?_) (fun ji=>Z5 ?_)
    · refine aA (by first|exact dW Y|exact eB Y) Y ?_;refine bA Y Y (L.1 E b (!tn) G u2 P a _ C s aH) (.cons (.there (.there (.there .here))) .nil) Y ?_;rintro pv K3 _ ⟨v,p,rfl⟩ t;have hu:=M (!tn) a;refine cG (dJ (k:=(j9 3)) (ys:=(unl t1 (!tn) a).2) uV Y Y (.there (.there (.there (.there .here)))) (fun w j=>dC xB2 (SeesSl.at (k:=j9 3) (.own .here) j)) (by first|(simp;omega)|omega) (by first|(simp;omega)|omega)) Y ?_;rintro qe K _ ⟨rfl,rfl,jv⟩ -;refine Z9 ?_
      (have B : all = tn /\ gV Q = false := ⟨by simpa using W, q.2 aH⟩
       refine aV (.cons (.there (.there (.there .here))) (.cons (.there (.there (.there .here))) (.cons .here (.cons (.there .here) .nil)))) ?_;refine rQ _ (i+1) N _ v y (A++(unl t1 (!tn) a).2) ⟨x5 r t,aH,Q,_,f.mono t,g,L.2,p,by rw[hx,Y3 B],by have:=p.length;omega,aH,by rw[xAE];omega⟩ aH (.cons 0 Y (.cons 2 Y (.cons 10 Y (.cons 11 Y (.cons 12 Y (.cons 46 Y (.cons 47 Y (.cons 48 Y .nil)))))))) Y a7)
    refine bA Y Y (L.1 E b tn G u2 P a _ C s aH) (.cons (.there (.there (.there .here))) .nil) Y ?_;rintro pv K3 _ ⟨v,p,rfl⟩ t;have hu:=M tn a;refine cG (dJ (k:=(j9 3)) (ys:=(unl t1 tn a).2) uV Y Y (.there (.there (.there .here))) (fun w j=>dC xB2 (SeesSl.at (k:=j9 3) (.own .here) j)) (by first|(simp;omega)|omega) (by first|(simp;omega)|omega)) Y ?_;rintro qc K _ ⟨rfl,rfl,jt⟩ -;refine Z9 ?_
    (have B : ¬ (all = tn /\ gV Q = false) := (by first | exact (fun h => (show ¬ all = tn from by simpa using W) h.1) | exact (fun h => by have := q.1 h.2; omega))
     refine aV (.cons (.there (.there (.there .here))) (.cons .here (.cons (.there (.there .here)) (.cons (.there .here) .nil)))) ?_;refine rQ _ (i+1) _ z v (y++(unl t1 tn a).2) A ⟨x5 r t,aH,Q,_,f.mono t,g,L.2,p,by rw[hx,Uc B],by have:=p.length;omega,by rw[xAE];omega,aH⟩ aH (.cons 0 Y (.cons 2 Y (.cons 10 Y (.cons 11 Y (.cons 12 Y (.cons 46 Y (.cons 47 Y (.cons 48 Y .nil)))))))) Y a7)
  have H:unlL all tn l ops [] []=(a,y,A):=(by rw[hx];exact S7 jg jd (List.drop_eq_nil_of_le aH));have O:=((lS l).2 all tn ops [] [] cD cD);rw[H]at O;simp only[List.length_nil]at O;have je:=s.length;refine Z9 ?_;refine bA Y Y (tI b z P A _ aH aH (fun k hk=>by have:=O.2.2.2.2.2 k hk;omega)) (.cons (.there (.there (.there .here))) (.cons (.there (.there .here)) .nil)) Y ?_;rintro _ K _ ⟨rfl,rfl,rfl⟩ -;refine ZB ?_;refine aV (.cons (.there (.there .here)) (.cons .here .nil)) ?_;refine bG Y Y r ?_;have e:unl (.many all l) tn ops=(land a A,y):=(by simp only[unl,H]);rw[e];exact⟨_,Y,_,s.land,Y⟩
def Wl:∀(t:Tree),UnlS t/\UnlL t:=by
 intro t;induction t with
 |const p=>exact⟨Qg p,trivial⟩
 |not_ t w=>exact⟨Wp t w.1,trivial⟩
 |many all l w=>exact⟨Ue all l w.2,trivial⟩
 |mat S v B a b=>exact⟨Wo S v B a b,trivial⟩
 |exi a=>exact⟨Wm a,trivial⟩
 |siz S n=>exact⟨Wr S n,trivial⟩
 |tcons t l A i=>exact⟨fun h=>by simp[wf]at h,A.1,i.2⟩
 |_=>exact⟨fun h=>by simp[wf]at h,trivial⟩
end
section
variable{K:Hl}{rest:Tree}
def OZ{xs:List (Cell×Cell)}{i:Nat}(a:wf rest 3=true)(b:Rep K rest (xs.drop i))(q:i<xs.length):
  ∃t l c,rest=.ccons t l/\Rep K t [(c,u0)]/\Rep K l (xs.drop (i+1))/\xs[i]?=some (c,u0)/\wf t 2=true/\wf l 3=true:=by
 have hd:xs.drop i≠[]:=by intro h;have:=xAF List.length h;simp at this;omega
 cases rest<;>simp only[wf,Rep]at a b
 case cnil=>exact absurd b hd
 case ccons t l=>
  obtain⟨c,p,f,g,d⟩:=b;simp at a;have e:xs.drop (i+1)=p:=by rw[<-List.drop_drop,d];rfl
  refine⟨t,l,c,Y,f,by rw[e];exact g,?_,a.1,a.2⟩
  exact gF7
 all_goals simp at a
def S6{ys:List (Cell×Cell)}(e:wf rest 3=true)(i:Rep K rest ys)(A:ys=[]){f:List Mach.Ins}:body rest f=f:=by
 cases rest<;>simp only[wf,Rep]at e i
 case cnil=>simp[body]
 case ccons t l=>obtain⟨c,N,_,_,rfl⟩:=i;cases A
 all_goals simp at e
def Vu{c:Tree}{ty:TypeId}{u:Value}{f:(Value.iface ty u).oneCell'=true}(e:wf c 2=true)(h:Rep K c [(⟨.iface ty u,f⟩,u0)]):
  (∃op,c=.plain op/\ty=285/\u=.agg #[i64 op])\/(∃k a p,c=.act k a p/\ty=282/\u=.agg #[i64 k,str a,i64 p])\/(∃n v t,c=.set_ n v t/\ty=308/\u=.agg #[str n,str v,i64 t])\/
  (∃s ys I Q q,c=.iff s/\ty=311/\u=.agg #[.slice I Q q]/\Rep K s ys/\Ksl (dM 371) K (.slice I Q q) ys/\wf s 4=true):=by
 cases c<;>simp only[wf,Rep]at e h
 case plain op=>cases h;exact .inl ⟨op,Y,Y,Y⟩
 case act k a p=>cases h;exact .inr (.inl ⟨k,a,p,Y,Y,Y⟩)
 case set_ n v t=>cases h;exact .inr (.inr (.inl ⟨n,v,t,Y,Y,Y⟩))
 case iff s=>
  obtain⟨ys,g,d,b,l⟩:=h;obtain⟨I,Q,q,rfl⟩:=b.isSlice;cases l
  exact .inr (.inr (.inr ⟨s,ys,I,Q,q,Y,Y,Y,d,b,by simpa using e⟩))
 all_goals simp at e
def RIs.one_{x:InsV}{o:Mach.Ins}(h:RIns K x o):RIs K [x] [o]:=⟨h,trivial⟩
abbrev Wy(b:Nat)(r:List Mach.Ins):Ending->Hl->List Asn->Prop:=Ret fun v K g=>v=.tuple #[]/\∃a,RIs K a r/\g=[cdr b a]
def Mi(l:Tree):Prop:=wf l 3=true->∀(b:Nat) (a:Value) (x:List (Cell×Cell)) (F:List InsV) (f:List Mach.Ins) (K:Hl),Rep K l x->Ksl (cC 224) K a (x.map Prod.fst)->RIs K F f->F.length+2*cnt l<=900000->Sp x3 107 [ptr b,a] K [cdr b F] (Wy b (body l f))
def BrS(l:Tree):Prop:=wf l 4=true->∀(b:Nat) (I:Option Addr) (Q q:Nat) (x:List (Cell×Cell)) (F:List InsV) (f:List Mach.Ins) (K:Hl),Rep K l x->Ksl (dM 371) K (.slice I Q q) x->RIs K F f->F.length+2*cnt l<=900000->Sp x3 194 [ptr b,.agg #[.slice I Q q]] K [cdr b F] (Wy b (dL l f []))
def Wz:Tree->Prop
 | .iff s=>BrS s
 |_=>True
def Mh:Tree->Prop
 | .ccons c l=>Wz c/\Mh l
 |_=>True
def Aa{t:Tree}(h:wf t 2=true):1<=cnt t:=by
 cases t<;>simp only[wf,cnt]at h ⊢<;>first|omega|(simp at h)
def S9:∀ {l:Tree} {xs:List (Cell×Cell)},wf l 3=true->Rep K l xs->xs.length<=cnt l:=by
 intro l;induction l with
 |cnil=>intro xs _ h;cases (show xs=[]from h);simp
 |ccons t l A i=>
  rintro xs e ⟨v,c,a,b,rfl⟩;simp[wf]at e;have:=i e.2 b;have:=Aa e.1;exact gFT
 |_=>intro xs e _;simp[wf]at e
def HK(l:Tree)(ih:Mh l):Mi l:=by
 intro hw b sv y vs H K hr hS hv hl;have qa:=S9 hw hr;refine bL func107 Y ntmps107 Y Y fun F w=>?_;have jz:(y.map Prod.fst).length=y.length:=xAW _;refine Z3 ?_;refine aA (bU (k:=(cC 224)) Y xCU Y aL) Y ?_;refine Z4 ?_;refine l5 (fun(S:Hl) (i:Nat) (P:List InsV)=>K.le S/\i<=y.length/\∃rest e,Rep S rest (y.drop i)/\wf rest 3=true/\Mh rest/\RIs S P e/\body l H=body rest e/\P.length+2*cnt rest<=900000) (fun _ i _=>[(0,ptr b),(11,sv),(12,i64 (y.map Prod.fst).length),(13,i64 i)]) (fun S _ _=>S) (fun _ _ P=>[cdr b P]) (fun _ i _=>y.length-i) K 0 vs ⟨xAB _,xAA _,l,H,hr,hw,ih,hv,Y,hl⟩ (.cons 0 Y (.cons 11 Y (.cons 12 Y (.cons 13 Y .nil)))) Y (fun _ h=>h) ?_;intro S i P ⟨r,jy,rest,e,jc,je,L,z,M,I⟩;have jx:Ksl (cC 224) S sv (y.map Prod.fst):=hS.mono r;have jv:=z.length;refine Z6 ?_;refine aX 14 Y (fun jj=>?_) (fun jj=>?_)
 ·have jb:i<y.length:=aH;obtain⟨c,l1,cc,rfl,jd,g,js,jf,q⟩:=OZ je jc jb;obtain⟨⟨cv,jp⟩,s⟩:∃c2,cc=c2:=⟨_,rfl⟩;subst s;obtain⟨jt,u2,jl⟩:=Bv (.inr jf) jd;cases jl
  have ju:(y.map Prod.fst)[i]?=some ⟨.iface jt u2,jp⟩:=(by rw[xAT,js];rfl);simp only[cnt]at I;have u:=(mK c).2.1 e;refine Z6 ?_;refine aA (aW (k:=(cC 224)) wU Y aL Y Y (by first|assumption|omega)) Y ?_;refine aA (cE (o:=0) (k:=(cC 224)) WR Y aL bZ Y) Y ?_;refine Z3 ?_;rcases Vu jf jd with ⟨op,rfl,rfl,rfl⟩|⟨k,a,p,rfl,rfl,rfl⟩|⟨n,v,t,rfl,rfl,rfl⟩|⟨bs,ys,sa,sn,sc,rfl,rfl,rfl,jq,jk,jr⟩
  ·refine Z8 ?_;refine aA (jI xCH (fun _ h=>by cases h) Y) Y ?_;refine Z8 ?_;rintro _ K _ ⟨b6,rfl,rfl,rfl⟩ -;refine cA (cQ VW Y Y Y bP (by first|(simp[Value.oneCell'];done)|exact fun c s=>El.one _ _ c s) (.cons .nil) (by intro j hj;simp)) ?_;rintro _ K _ ⟨rfl,rfl⟩ -;refine Z6 ?_;refine aA (dA yF qP (.cons Y Y Y (.cons .nil) .nil)) Y ?_;refine cG (bJ (z0:=[.int .i64 0,.int .i64 0,.int .i64 0,.bool false,.slice none 0 0,.slice none 0 0,.int .i64 0]) eP qG Y Y Y Y (.cons Y Y Y (.cons (.cons (.cons (.cons (.cons (.cons (.cons .nil))))))) .nil)) Y ?_;rintro _ K _ ⟨jh,rfl,rfl,rfl⟩ -;refine bA Y Y (mY b jh P [jmpV op] _ _ Y (by simp only[cnt]at I;simp;omega)) (.cons (.there (.there .here)) (.cons .here .nil)) Y ?_;rintro _ K _ ⟨rfl,rfl,rfl⟩ -;have f:RIs _ _ (cmdI (.plain op) e):=RIs.append (ws:=[jmpV op]) (ps:=[jmp op]) ⟨tL _ _,trivial⟩ z;have d:=xAB K;refine Z8 ?_;refine uAr ?_;refine gJ _ (i+1) _ ⟨x5 r d,aH,l1,_,g.mono d,q,L.2,f,by rw[M];simp only[body,cmdI],by have:=f.length;simp only[cmdI]at this u;omega⟩ aH (.cons 0 Y (.cons 11 Y (.cons 12 Y (.cons 13 Y .nil)))) Y a7
  ·refine Z8 ?_;refine aA (eY xCH (fun _ h=>by cases h) Y TW Y) Y ?_;refine Z7 ?_;refine aA (jI xB8 (fun _ h=>by cases h) Y) Y ?_;refine Z8 ?_;rintro _ K _ ⟨b7,rfl,rfl,rfl⟩ -;refine cA (cQ VV Y Y Y bP (by first|(simp[Value.oneCell'];done)|exact fun c s=>El.one _ _ c s) (.cons (.cons (.cons .nil))) (by intro j hj;simp)) ?_;rintro _ K _ ⟨rfl,rfl⟩ -;refine Z8 ?_;refine aA (dA yF qP (.cons Y Y Y (.cons .nil) (.cons Y Y Y (.skip (.skip (.cons .nil))) (.cons Y Y Y (.skip (.skip (.skip (.skip (.skip (.skip (.cons .nil))))))) .nil)))) Y ?_;refine Z1 ?_;rintro _ K _ ⟨b8,rfl,rfl,rfl⟩ -;refine cA (cQ gT Y Y Y bP (by first|(simp[Value.oneCell'];done)|exact fun c s=>El.one _ _ c s) (.cons (.cons (.cons (.cons (.cons (.cons (.cons .nil))))))) (by intro j hj;simp)) ?_;rintro _ K _ ⟨rfl,rfl⟩ -;refine ZA ?_;refine aX 37 Y (fun N=>?_) (fun N=>?_)
   ·refine Z3 ?_;refine cG (bJ (z0:=[(str [])]) b0 tz9 Y Y Y Y (.cons Y Y Y (.cons .nil) .nil)) Y ?_;rintro _ K _ ⟨B,rfl,rfl,rfl⟩ -;refine kE fun K3 d Q=>?_;refine Z1 ?_;refine cA (bW eL Y Y cR bP (.succ (.succ (.succ (.succ .zero)))) Y) ?_;rintro _ K _ ⟨rfl,rfl⟩ -;refine Z5 ?_;refine cG (bJ (z0:=[.int .i64 0,.int .i64 0,.int .i64 0,.bool false,.slice none 0 0,.slice none 0 0,.int .i64 0]) eP qG Y Y Y Y (.cons Y Y Y (.cons (.cons (.cons (.cons (.cons (.cons (.cons .nil))))))) .nil)) Y ?_;rintro _ K _ ⟨C,rfl,rfl,rfl⟩ -;refine bA Y Y (mY b C P [⟨11,0,k,false,⟨.slice (some ⟨B,0,none⟩) 1 1,Y⟩,nilC,p⟩] _ _ Y (by simp only[cnt]at I;simp;omega)) (.cons (.there (.there (.there .here))) (.cons .here .nil)) Y ?_;rintro _ K _ ⟨rfl,rfl,rfl⟩ -;have f:RIs _ _ (cmdI (.act k a p) e):=(by simp only[cmdI];rw[x6 N];exact RIs.append (RIs.one_ (x:=⟨11,0,k,false,⟨.slice (some ⟨B,0,none⟩) 1 1,Y⟩,nilC,p⟩) ⟨Y,Y,Y,Y,Y,.inr ⟨B,0,1,[str a],(0,0),Y,⟨_,Q⟩,Y⟩,sN _⟩) (z.mono d));refine Z8 ?_;refine uAr ?_;refine gJ _ (i+1) _ ⟨x5 r d,aH,l1,_,g.mono d,q,L.2,f,by rw[M];simp only[body,cmdI],by have:=f.length;simp only[cmdI]at this u;omega⟩ aH (.cons 0 Y (.cons 11 Y (.cons 12 Y (.cons 13 Y .nil)))) Y a7
   refine Z5 ?_;refine cG (bJ (z0:=[.int .i64 0,.int .i64 0,.int .i64 0,.bool false,.slice none 0 0,.slice none 0 0,.int .i64 0]) eP qG Y Y Y Y (.cons Y Y Y (.cons (.cons (.cons (.cons (.cons (.cons (.cons .nil))))))) .nil)) Y ?_;rintro _ K _ ⟨C,rfl,rfl,rfl⟩ -;refine bA Y Y (mY b C P [⟨11,0,k,false,nilC,nilC,p⟩] _ _ Y (by simp only[cnt]at I;simp;omega)) (.cons (.there (.there (.there .here))) (.cons .here .nil)) Y ?_;rintro _ K _ ⟨rfl,rfl,rfl⟩ -;have d:=xAB K;have f:RIs _ _ (cmdI (.act k a p) e):=(by simp only[cmdI];rw[x7 (xBH.1 N)];exact RIs.append (RIs.one_ (x:=⟨11,0,k,false,nilC,nilC,p⟩) ⟨Y,Y,Y,Y,Y,sN _,sN _⟩) z);refine Z8 ?_;refine uAr ?_;refine gJ _ (i+1) _ ⟨x5 r d,aH,l1,_,g.mono d,q,L.2,f,by rw[M];simp only[body,cmdI],by have:=f.length;simp only[cmdI]at this u;omega⟩ aH (.cons 0 Y (.cons 11 Y (.cons 12 Y (.cons 13 Y .nil)))) Y a7
  ·refine Z8 ?_;refine aA (eY xCH (fun _ h=>by cases h) Y TW Y) Y ?_;refine Z7 ?_;refine aA (eY xB8 (fun _ h=>by cases h) Y WT Y) Y ?_;refine Z7 ?_;refine aA (jI xCR (fun _ h=>by cases h) Y) Y ?_;refine Z8 ?_;rintro _ K _ ⟨b9,rfl,rfl,rfl⟩ -;refine cA (cQ Ht Y Y Y bP (by first|(simp[Value.oneCell'];done)|exact fun c s=>El.one _ _ c s) (.cons (.cons (.cons .nil))) (by intro j hj;simp)) ?_;rintro _ K _ ⟨rfl,rfl⟩ -;refine Z8 ?_;refine cG (bJ (z0:=[(str [])]) b0 tz9 Y Y Y Y (.cons Y Y Y (.cons .nil) .nil)) Y ?_;rintro _ K _ ⟨E,rfl,rfl,rfl⟩ -;refine Z2 ?_;refine cG (bJ (z0:=[(str [])]) b0 tz9 Y Y Y Y (.cons Y Y Y (.cons .nil) .nil)) Y ?_;rintro _ K _ ⟨G,rfl,rfl,rfl⟩ -;refine kE fun K3 jg O=>?_;refine kE fun K4 A W=>?_;have d:=x5 jg A;have O:=A _ _ O;refine aA (dA yF qP (.cons Y Y Y (.cons .nil) (.cons Y Y Y (.skip (.skip (.cons .nil))) (.cons Y Y Y (.skip (.skip (.skip (.skip (.cons .nil))))) (.cons Y Y Y (.skip (.skip (.skip (.skip (.skip (.cons .nil)))))) .nil))))) Y ?_;refine cG (bJ (z0:=[.int .i64 0,.int .i64 0,.int .i64 0,.bool false,.slice none 0 0,.slice none 0 0,.int .i64 0]) eP qG Y Y Y Y (.cons Y Y Y (.cons (.cons (.cons (.cons (.cons (.cons (.cons .nil))))))) .nil)) Y ?_;rintro _ K _ ⟨ji,rfl,rfl,rfl⟩ -;refine bA Y Y (mY b ji P [⟨12,0,t,false,⟨.slice (some ⟨E,0,none⟩) 1 1,Y⟩,⟨.slice (some ⟨G,0,none⟩) 1 1,Y⟩,0⟩] _ _ Y (by simp only[cnt]at I;simp;omega)) (.cons (.there (.there .here)) (.cons .here .nil)) Y ?_;rintro _ K _ ⟨rfl,rfl,rfl⟩ -;have f:RIs _ _ (cmdI (.set_ n v t) e):=RIs.append (RIs.one_ (x:=⟨12,0,t,false,⟨.slice (some ⟨E,0,none⟩) 1 1,rfl⟩,⟨.slice (some ⟨G,0,none⟩) 1 1,rfl⟩,0⟩) ⟨rfl,rfl,rfl,rfl,rfl,.inr ⟨E,0,1,[str n],(0,0),rfl,⟨_,W⟩,rfl⟩,.inr ⟨G,0,1,[str v],(0,0),rfl,⟨_,O⟩,rfl⟩⟩) (z.mono d);refine Z8 ?_;refine uAr ?_;refine gJ _ (i+1) _ ⟨x5 r d,aH,l1,_,g.mono d,q,L.2,f,by rw[M];simp only[body,cmdI],by have:=f.length;simp only[cmdI]at this u;omega⟩ aH (.cons 0 Y (.cons 11 Y (.cons 12 Y (.cons 13 Y .nil)))) Y a7
  refine Z8 ?_;refine aA (eY xCH (fun _ h=>by cases h) Y TW Y) Y ?_;refine Z7 ?_;refine aA (eY xB8 (fun _ h=>by cases h) Y WT Y) Y ?_;refine Z7 ?_;refine aA (eY xCR (fun _ h=>by cases h) Y aBH Y) Y ?_;refine Z7 ?_;refine aA (jI xBW (fun _ h=>by cases h) Y) Y ?_;refine Z8 ?_;rintro _ K _ ⟨jw,rfl,rfl,rfl⟩ -;refine cA (cQ sV Y Y Y bP (by first|(simp[Value.oneCell'];done)|exact fun c s=>El.one _ _ c s) (.cons .nil) (by intro j hj;simp)) ?_;rintro _ K _ ⟨rfl,rfl⟩ -;refine Z5 ?_;refine bA Y Y (L.1 jr b sa sn sc ys P e _ jq jk z (by simp only[cnt]at I;omega)) (.cons (.there .here) .nil) Y ?_;rintro _ K3 _ ⟨rfl,qb,f,rfl⟩ d;refine Z8 ?_;refine uAr ?_;refine gJ _ (i+1) _ ⟨x5 r d,aH,l1,_,g.mono d,q,L.2,f,by rw[M];simp only[body,cmdI],by have:=f.length;simp only[cmdI]at this u;omega⟩ aH (.cons 0 Y (.cons 11 Y (.cons 12 Y (.cons 13 Y .nil)))) Y a7
 have ja:body l H=e:=(by rw[M];exact S6 je jc (List.drop_eq_nil_of_le aH));refine Z4 ?_;refine uAr ?_;refine dG Y r ?_;rw[ja];exact⟨_,Y,Y,P,z,Y⟩
end
section
variable{K:Hl}{ys:List (Cell×Cell)}{ops:List Mach.Ins}{b l rest t:Tree}
def BrL:Tree->Prop
 | .bcons _ b l=>Mi b/\BrL l
 | .belse b l=>Mi b/\BrL l
 |_=>True
def XQ{xs:List (Cell×Cell)}{i:Nat}(e:wf rest 4=true)(c:Rep K rest (xs.drop i))(r:i<xs.length):
  ∃ y I Q q,xs[i]? = some (y,⟨.slice I Q q,rfl⟩) /\ ((∃ t bd l ys ty u,rest = .bcons t bd l /\ y.1 = .iface ty u /\ Rep K t [(y,u0)] /\ Rep K bd ys /\ Ksl (cC 224) K (.slice I Q q) (ys.map Prod.fst) /\ Rep K l (xs.drop (i+1)) /\ wf t 0=true /\ wf bd 3=true /\ wf l 4=true) \/
   (∃bd l ys,rest=.belse bd l/\y.1=.nilIface/\Rep K bd ys/\Ksl (cC 224) K (.slice I Q q) (ys.map Prod.fst)/\wf bd 3=true)):=by
 have hd:xs.drop i≠[]:=by intro h;have:=xAF List.length h;simp at this;omega
 have a:∀ {x:Cell×Cell} {ys:List (Cell×Cell)},xs.drop i=x::ys->xs[i]?=some x/\xs.drop (i+1)=ys:=by
  intro x ys b;refine⟨?_,by rw[<-List.drop_drop,b];rfl⟩
  have:=xBB (xs:=xs) (i:=i) (j:=0);rw[b]at this;simpa using this.symm
 cases rest<;>simp only[wf,Rep]at e c
 case bnil=>exact absurd c hd
 case bcons t bd l=>
  obtain⟨v,ys,⟨p,f⟩,N,g,d,b,z,F,G⟩:=c;obtain⟨ty,u,d⟩:=d;simp at e;obtain⟨I,Q,q,rfl⟩:=z.isSlice;obtain⟨M,O⟩:=a G;exact⟨v,I,Q,q,M,.inl ⟨t,bd,l,ys,ty,u,Y,d,g,b,z,by rw[O];exact F,e.1,e.2.1,e.2.2⟩⟩
 case belse bd l=>
  obtain⟨ys,⟨p,f⟩,N,b,z,F,G⟩:=c;simp at e;obtain⟨I,Q,q,rfl⟩:=z.isSlice;obtain⟨M,O⟩:=a G;exact⟨_,I,Q,q,M,.inr ⟨bd,l,ys,Y,Y,b,z,e.1⟩⟩
 all_goals simp at e
def SB(e:wf l 4=true)(i:Rep K l ys):gV l=true↔ys.length=0:=by
 cases l<;>simp only[wf,Rep]at e i
 case bnil=>subst i;simp[gV]
 case bcons t b l=>obtain⟨v,N,a,ws,_,_,_,_,_,rfl⟩:=i;simp[gV]
 case belse b l=>obtain⟨N,a,ws,_,_,_,rfl⟩:=i;simp[gV]
 all_goals simp at e
def S5(e:wf rest 4=true)(i:Rep K rest ys)(A:ys=[]){out:List Nat}:dL rest ops out=land ops out:=by
 cases rest<;>simp only[wf,Rep]at e i
 case bnil=>simp[dL]
 case bcons t b l=>obtain⟨v,N,a,ws,_,_,_,_,_,rfl⟩:=i;cases A
 case belse b l=>obtain⟨N,a,ws,_,_,_,rfl⟩:=i;cases A
 all_goals simp at e
def S8:∀ {l:Tree} {xs:List (Cell×Cell)},wf l 4=true->Rep K l xs->xs.length<=cnt l:=by
 intro l;induction l with
 |bnil=>intro xs _ h;cases (show xs=[]from h);simp
 |bcons t b l A i N=>
  rintro xs e ⟨v,ys,c,ws,d,f,a,z,F,rfl⟩;simp[wf]at e;have:=N e.2.2 F;exact gFT
 |belse b l A i=>
  rintro xs e ⟨ys,c,ws,a,z,F,rfl⟩;simp[wf]at e;have:=i e.2 F;exact gFT
 |_=>intro xs e _;simp[wf]at e
def JW{out:List Nat}(h:gV l=true):dL (.bcons t b l) ops out=dL l (land (body b (unl t false ops).1) (unl t false ops).2) out:=by
 simp only[dL];rw[x7 h]
def JX{out:List Nat}(h:¬gV l=true):dL (.bcons t b l) ops out=dL l (land (body b (unl t false ops).1++[jmp 3]) (unl t false ops).2) (out++[(body b (unl t false ops).1).length]):=by
 simp only[dL];rw[x6 h]
def JT(G:Tree)(ih:BrL G):BrS G:=by
  intro hw b sa sn sc y vs ops K hr hS hv hl;have jx:=S8 hw hr;refine bL func194 Y ntmps194 Y Y fun F w=>?_;refine Z3 ?_;refine aCJ fun b3=>?_;refine ZA ?_;refine kG (eO (j9 3)) ?_;refine Z2 ?_;refine aA (bU (k:=(dM 371)) Y xCG Y aL) Y ?_;refine Z4 ?_;refine Hp (fun(S:Hl) (i:Nat) (O:Value) (P:List InsV) (out:List Nat) (_ _:Unit)=>K.le S/\i<=y.length/\∃rest a,Rep S rest (y.drop i)/\wf rest 4=true/\BrL rest/\RIs S P a/\dL G ops []=dL rest a out/\P.length+2*cnt rest<=900000/\out.length+cnt rest<=900000/\∀k∈out,k<P.length) (fun _ i O _ _ _ _=>[(0,ptr b),(3,ptr b3),(4,O),(9,.slice sa sn sc),(10,i64 y.length),(11,i64 i)]) (fun S _ _ _ _ _ _=>S) (fun _ _ O P out _ _=>[sl false (j9 3) O out,pt b3 (bK [.slice sa sn sc] 311),cdr b P]) (fun _ i _ _ _ _ _=>y.length-i) K 0 _ vs [] () () ⟨xAB _,xAA _,G,ops,hr,hw,ih,hv,Y,hl,by simp;omega,cD⟩ (.cons 0 Y (.cons 3 Y (.cons 4 Y (.cons 9 Y (.cons 10 Y (.cons 11 Y .nil)))))) Y a7 ?_;intro S i O P out _ _ ⟨g,ju,rest,a,jb,jd,L,z,hx,N,Q,d⟩;have I:Ksl (dM 371) S (.slice sa sn sc) y:=hS.mono g;have jq:=z.length;refine Z6 ?_;refine aX 12 Y (fun jf=>?_) (fun jf=>?_)
  · have ja:i<y.length:=aH;obtain⟨⟨tv,jv⟩,ta,tn,tc,jl,A⟩:=XQ jd jb ja;refine Z2 ?_;rcases A with ⟨t,bd,l1,ys,ty,u,rfl,B,ji,l,H,p,jj,M,q⟩|⟨bd,l1,ys,rfl,B,l,H,M⟩
    · obtain rfl:tv=.iface ty u:=B;simp only[cnt]at N Q;have hu:=(lS t).1 false a;have jh:=(mK bd).1 (unl t false a).1;have jt:(y.drop (i+1)).length=y.length-(i+1):=xBF;have v:=SB q p;refine Z5 ?_;refine aA (aW (k:=(dM 371)) sY Y aL Y Y gAJ) Y ?_;refine aA (fH (n:=0) (k:=(dM 371)) xY Y aL bZ) Y ?_;refine Z1 ?_;refine aCJ fun b6=>?_;refine Z1 ?_;refine cA (cQ xY Y Y Y bP gAF (.cons (.cons .nil)) gAQ) ?_;refine aCK ?_;refine ZI ?_;refine bA Y Y ((Wl t).1 jj b false ty u P a _ ji z aH) (.cons (.there (.there (.there .here))) .nil) Y ?_;rintro nv K3 _ ⟨jk,jc,rfl⟩ s;have jr:=jc.length;refine Z8 ?_;refine bA Y Y (L.1 M b (.slice ta tn tc) ys jk _ _ (l.mono s) (H.mono s) jc aH) (.cons (.there .here) .nil) Y ?_;rintro _ K4 _ ⟨rfl,vs4,E,rfl⟩ r;have x:=E.length;have I:=I.mono (x5 s r);have e:=x5 s r;have jw:(vs4++[jmpV 3]).length=vs4.length+1:=xAE;refine Z8 ?_;refine aA (bU (k:=(dM 371)) Y xCG Y aL) Y ?_;refine Z4 ?_;refine aX 36 Y (fun jg=>?_) (fun jg=>?_)
      · refine Z3 ?_;refine aA (dA yF qP (.cons Y Y Y (.cons .nil) .nil)) Y ?_;refine cG (bJ (z0:=[.int .i64 0,.int .i64 0,.int .i64 0,.bool false,.slice none 0 0,.slice none 0 0,.int .i64 0]) eP qG Y Y Y Y (.cons Y Y Y (.cons (.cons (.cons (.cons (.cons (.cons (.cons .nil))))))) .nil)) Y ?_;refine aCJ fun je=>?_;refine bA Y Y (mY b je vs4 [jmpV 3] _ _ Y gAG) (.cons (.there .here) (.cons .here .nil)) Y ?_;refine aCL ?_;refine cG (bJ (z0:=[.int .i64 0]) qD tz3 Y Y Y Y (.cons Y Y Y (.cons .nil) .nil)) Y ?_;refine aCJ fun js=>?_;refine cG (dJ (k:=(j9 3)) (ys:=[vs4.length]) uV Y Y (.there (.there (.there (.there .here)))) (fun w j=>dC xB2 (SeesSl.at (k:=j9 3) (xs:=[vs4.length]) (.blk (.own .here) Y (by simp[j9,El.cs])) j)) gAH gAH) Y ?_;rintro jy K _ ⟨rfl,rfl,jp⟩ -;refine Z6 ?_;refine bA Y Y (tI b nv (vs4++[jmpV 3]) _ _ aH aH (fun k f=>by have:=hu.2.2.2 k f;omega)) (.cons (.there (.there .here)) (.cons (.there (.there .here)) .nil)) Y ?_;refine aCL ?_;refine Z7 ?_
        (have C : ¬ gV l1 = true := (by rw [v]; omega)
         refine aV (.cons (.there .here) (.cons (.there (.there (.there .here))) (.cons .here .nil))) ?_;refine rQ _ (i+1) _ (Dy (vs4++[jmpV 3]) (unl t false a).2) (out++[vs4.length]) () () ⟨x5 g e,aH,l1,_,p.mono e,q,L.2,(RIs.append (ws:=[jmpV 3]) (ps:=[jmp 3]) ⟨tL _ _,trivial⟩ E).land,by rw[hx,JX C,x],by rw[qT];omega,by rw[xAE];simp;omega,fun k f=>by rw[qT];rcases xA5.1 f with h|h;(have:=d k h;omega);(simp at h;omega)⟩ aH (.cons 0 Y (.cons 3 Y (.cons 4 Y (.cons 9 Y (.cons 10 Y (.cons 11 Y .nil)))))) Y a7)
      refine Z5 ?_;refine bA Y Y (tI b nv vs4 _ _ aH aH (fun k f=>by have:=hu.2.2.2 k f;omega)) (.cons .here (.cons .here .nil)) Y ?_;refine aCL ?_;refine Z7 ?_
      (have C : gV l1 = true := (by rw [v]; omega)
       refine aV (.cons (.there (.there .here)) (.cons (.there (.there .here)) (.cons .here .nil))) ?_;refine rQ _ (i+1) O (Dy vs4 (unl t false a).2) out () () ⟨x5 g e,aH,l1,_,p.mono e,q,L.2,E.land,by rw[hx,JW C],by rw[qT];omega,aH,fun k f=>by rw[qT];have:=d k f;omega⟩ aH (.cons 0 Y (.cons 3 Y (.cons 4 Y (.cons 9 Y (.cons 10 Y (.cons 11 Y .nil)))))) Y a7)
    obtain rfl:tv=.nilIface:=B;simp only[cnt]at N Q;have jh:=(mK bd).1 a;refine Z5 ?_;refine aA (aW (k:=(dM 371)) sY Y aL Y Y gAJ) Y ?_;refine aA (fH (n:=0) (k:=(dM 371)) xY Y aL bZ) Y ?_;refine Z1 ?_;refine aCJ fun b6=>?_;refine Z1 ?_;refine cA (cQ xY Y Y Y bP gAF (.cons (.cons .nil)) gAQ) ?_;refine aCK ?_;refine ZG ?_;refine bA Y Y (L.1 M b (.slice ta tn tc) ys P a _ l H z aH) (.cons (.there (.there (.there .here))) .nil) Y ?_;rintro _ K4 _ ⟨rfl,vs4,E,rfl⟩ r;have x:=E.length;refine ZC ?_;refine bA Y Y (tI b O vs4 out _ aH aH (fun k f=>by have:=d k f;omega)) (.cons .here (.cons (.there .here) .nil)) Y ?_;refine aCL ?_;refine aG ?_;refine uAr ?_;refine dG Y (by first|exact x5 g r|exact g) ?_
    (rw[hx];simp only[dL];exact⟨_,Y,Y,_,E.land,Y⟩)
  have W:dL G ops []=land a out:=(by rw[hx];exact S5 jd jb (List.drop_eq_nil_of_le aH));refine Z8 ?_;refine bA Y Y (tI b O P out _ aH aH (fun k f=>d k f)) (.cons (.there (.there .here)) (.cons .here .nil)) Y ?_;refine aCL ?_;refine aG ?_;refine uAr ?_;refine dG Y (by first|exact x5 g r|exact g) ?_
  (rw[W];exact⟨_,Y,Y,_,z.land,Y⟩)
end
def Q2:∀(t:Tree),Mi t/\Mh t/\BrS t/\BrL t/\Wz t:=by
 intro t;induction t with
 |iff s w=>exact⟨fun h=>by simp[wf]at h,trivial,fun h=>by simp[wf]at h,trivial,w.2.2.1⟩
 |cnil=>exact⟨HK _ trivial,trivial,fun h=>by simp[wf]at h,trivial,trivial⟩
 |ccons c l A i=>exact⟨HK _ ⟨A.2.2.2.2,i.2.1⟩,⟨A.2.2.2.2,i.2.1⟩,fun h=>by simp[wf]at h,trivial,trivial⟩
 |bnil=>exact⟨fun h=>by simp[wf]at h,trivial,JT _ trivial,trivial,trivial⟩
 |bcons t b l A i N=>exact⟨fun h=>by simp[wf]at h,trivial,JT _ ⟨i.1,N.2.2.2.1⟩,⟨i.1,N.2.2.2.1⟩,trivial⟩
 |belse b l A i=>exact⟨fun h=>by simp[wf]at h,trivial,JT _ ⟨A.1,i.2.2.2.1⟩,⟨A.1,i.2.2.2.1⟩,trivial⟩
 |_=>exact⟨fun h=>by simp[wf]at h,trivial,fun h=>by simp[wf]at h,trivial,trivial⟩
def Jb(b:Nat)(needs:List (List UInt8))(t:Tree)(K:Hl)(a:ScriptAt K b needs t)(g:wf t 3=true)(q:cnt t<=400000):
  Sp x3 58 [ptr b 6] K [] (Ret fun v d L'=>∃vs,RIs d vs (script t)/\L'=[sl false cS v vs]):=by
 obtain⟨l,x,P,i,j,r,G,B,H,u,C,f⟩:=a.at_;refine bL func58 Y ntmps58 Y Y fun F w=>Z7 ?_;refine aA (dA aAY Yq .nil) Y (Z1 ?_);refine aCJ fun e=>Z9 ?_;refine aA (aK Eu Y (.known r) B) Y (kG (eO cS) (kG (fun h y=>hO y) (kG He (bA Y Y ((Q2 t).1 g e P i [] [] _ C u trivial gAG) bQ Y ?_))));rintro _ L _ ⟨rfl,c,W,rfl⟩ p;refine aAB fun s=>ZC ?_;refine aV (aQ dQ bT) (bG Y Y p ?_);exact⟨_,Y,c,W,Y⟩
end Go.Proofs
end
section
namespace Go.Proofs
open Go Go.SL Go.Syn Go.Mach Tryz
section
variable{vars:List (List UInt8×List UInt8)}{parts:List (List UInt8)}{acc s:List UInt8}{f:Nat}
def Ds(s:List UInt8)(c:UInt8)(K:Hl):Sp x3 308 [str s,.int .u8 c.toNat] K [] (Val (i64 (Lib.indexByte s c)) K):=by
 refine nW ⟨_,func308,Y,Y⟩ fun w e=>?_;have:=Tryz.strings_IndexByte ⟨s.toArray⟩ (c.toNat:Int) w
 exact gF0
def uG{E:Env}{a:Fr}{K:Hl}{L:List Asn}{dst:Option Tmp}{ty:TypeId}{pos:String}{aft:Array Edge}{g:Option (Nat×Bool)}{x y:Operand}{t kt et b c:Nat}{k:List UInt8}{f:Nat->Nat}
  (B:E.P.underlying t=some (.map kt et)) (j:E.P.underlying kt=some .string) (N:gX E.P et=some (.agg #[str []])) (e:a.ev x=some (.map (some b))) (h:a.ev y=some (str k)) (d:Sees K L b (mapO (lG vars f) c)):
  Ev E a K L ⟨dst,.lookup t x y false,ty,pos,aft,g⟩ (.agg #[str (vget vars k)]):=by
 have:=Kt (dst:=dst) (ty:=ty) (pos:=pos) (aft:=aft) (g:=g) B j N e h d;rw[Qj]at this;exact this
def zA{d:UInt8}(h:48<=d.toNat/\d.toNat<=57):held vars parts [d]=((parts[d.toNat-48]?).getD [],true):=by
 unfold held;simp only[];rw[x7 (by simp[fX,h.1,h.2])]
def uK{f:List UInt8}(h:¬(∃d,f=[d]/\48<=d.toNat/\d.toNat<=57)):held vars parts f=(vget vars (dY f),named f):=by
 unfold held;split
 ·rename_i d;rw[x6 (by intro e;simp[fX]at e;exact h ⟨d,Y,e⟩)]
 rfl
def NY(b h:Nat)(W r N Q l q s pv u:Value)(pc:Int)(vars:List (List UInt8×List UInt8))(f:Nat->Nat)(c:Nat)(parts:List (List UInt8))(a:List UInt8)(K:Hl)(B:Ksl (aZ 9) K pv parts)(C:a.length<=100000000):
  Sp x3 309 [ptr b,str a] K [mblk b W r N Q l q s (.map (some h)) pv u pc,pt h (mapO (lG vars f) c)]
   (Ret fun v x L'=>v=.tuple #[str (held vars parts a).1,.bool (held vars parts a).2]/\x=K/\L'=[mblk b W r N Q l q s (.map (some h)) pv u pc,pt h (mapO (lG vars f) c)]):=by
 refine bL func309 Y ntmps309 Y Y fun F w=>ZD ?_;refine bV 10 Y (fun t=>?_) (fun t=>?_)
 ·obtain⟨d,rfl⟩:∃d,a=[d]:=List.length_eq_one_iff.1 aH;have M:([d]:List UInt8)[0]?=some d:=rfl;refine Z8 ?_;refine bV 15 Y (fun A=>Z9 ?_) (fun A=>?_)
  ·refine aX 19 Y (fun L=>Z5 ?_) (fun L=>?_)
   ·refine aA (Ao (m:=d.toNat) (n:=48) aH aH Y Y) Y (aA (pT xAM xAZ Y aH aH) Y (ZA ?_));refine uAb ?_;refine Z3 ?_;refine aX 30 Y (fun j=>?_) (fun j=>?_)
    ·obtain⟨p,hp⟩:∃p,parts[d.toNat-48]?=some p:=⟨parts[d.toNat-48]'(by omega),x4 aH⟩;refine Z7 ?_;refine aA (aW (k:=(aZ 9)) b0 Y aL Y Y gAJ) Y (uAe ?_);refine Z7 ?_;refine uAg ?_;refine jK Y Y Y (xAB _) ?_
     (rw[zA aH,hp];exact⟨_,Y,Y,Y,Y⟩)
    have hp:parts[d.toNat-48]?=none:=xAH aH;refine ZA ?_;refine uAg ?_;refine jK Y Y Y (xAB _) ?_
    (rw[zA aH,hp];exact⟨_,Y,Y,Y,Y⟩)
   have g:¬(∃e,[d]=[e]/\48<=e.toNat/\e.toNat<=57):=(by rintro⟨e,i,y,z⟩;cases i;omega);refine Z3 ?_;refine qK (anc:=[0,1,3,7,0,16,63,127,0,304,1023,2047]) (ord:=[0,1,2,3,4,8,5,6,7,9,10,11]) [5,9] [] mixed gAD (cM _) (Z6 ?_);refine gY Y (.none Y) Y Y Y Y (jU _ _ gBO) Y (aJ Y Y (.none Y) Y Y (uG xCI x9 TX Y Y aL) Y (Z1 ?_));refine gY Y (.none Y) Y Y Y Y (uP _ _ gBO) Y (Z5 ?_);refine uAg ?_;refine jK Y Y Y (xAB _) ?_
   (rw[uK g];exact⟨_,Y,Y,Y,Y⟩)
  have g:¬(∃e,[d]=[e]/\48<=e.toNat/\e.toNat<=57):=(by rintro⟨e,i,y,z⟩;cases i;omega);refine ZA ?_;refine qK (anc:=[0,1,3,7,0,16,63,127,0,304,1023,2047]) (ord:=[0,1,2,3,4,8,5,6,7,9,10,11]) [5,9] [] mixed gAD (cM _) (Z6 ?_);refine gY Y (.none Y) Y Y Y Y (jU _ _ gBO) Y (aJ Y Y (.none Y) Y Y (uG xCI x9 TX Y Y aL) Y (Z1 ?_));refine gY Y (.none Y) Y Y Y Y (uP _ _ gBO) Y (Z5 ?_);refine uAg ?_;refine jK Y Y Y (xAB _) ?_
  (rw[uK g];exact⟨_,Y,Y,Y,Y⟩)
 have g:¬(∃d,a=[d]/\48<=d.toNat/\d.toNat<=57):=(by rintro⟨d,rfl,_⟩;exact t Y);refine ZF ?_;refine qK (anc:=[0,1,3,7,0,16,63,127,0,304,1023,2047]) (ord:=[0,1,2,3,4,8,5,6,7,9,10,11]) [5,9] [] mixed gAD (cM _) (Z6 ?_);refine gY Y (.none Y) Y Y Y Y (jU _ _ gBO) Y (aJ Y Y (.none Y) Y Y (uG xCI x9 TX Y Y aL) Y (Z1 ?_));refine gY Y (.none Y) Y Y Y Y (uP _ _ gBO) Y (Z5 ?_);refine uAg ?_;refine jK Y Y Y (xAB _) ?_
 (rw[uK g];exact⟨_,Y,Y,Y,Y⟩)
def oX(vars:List (List UInt8×List UInt8))(parts:List (List UInt8)):Prop:=∀f,(held vars parts f).1.length<=100000
def If(vars:List (List UInt8×List UInt8))(parts:List (List UInt8))(f:Nat)(acc:List UInt8):kK vars parts (f+1) [] acc=acc++[]:=by simp[kK]
def Ky(P:s≠[])(h:Lib.index s [36,123]<0):kK vars parts (f+1) s acc=acc++s:=by
 simp only[kK];rw[x6 P,x7 h]
def Ig{i:Nat}{e:Int}{hd:List UInt8×Bool}(P:s≠[])(h:Lib.index s [36,123]=(i:Int))(A:Lib.indexByte (s.drop i) 125=e)(y:held vars parts (((s.drop i).take (max e 2).toNat).drop 2)=hd):
  kK vars parts (f+1) s acc=if 0<e/\hd.2=true then kK vars parts f ((s.drop i).drop (e.toNat+1)) (acc++s.take i++hd.1)else kK vars parts f ((s.drop i).drop 1) (acc++s.take i++[36]):=by
 simp only[kK];rw[x6 P,x6 aH]
 have:(Lib.index s [36,123]).toNat=i:=aH;rw[this,A,y]
def sH(b z:Nat)(W O P Q S c5 pv c9:Value)(pc:Int)(nm:Bool)(vars:List (List UInt8×List UInt8))(f:Nat->Nat)(c:Nat)(parts:List (List UInt8))(s:List UInt8)(K:Hl)(hg:Glob K)(jd:Ksl (aZ 9) K pv parts)(hs:s.length<=100000)(je:oX vars parts):
  Sp x3 255 [ptr b,str s] K [mblk b W O P Q S c5 (.bool nm) (.map (some z)) pv c9 pc,pt z (mapO (lG vars f) c)]
   (Ret fun v K' L'=>v=str (cY nm vars parts s)/\K'=K/\L'=[mblk b W O P Q S c5 (.bool nm) (.map (some z)) pv c9 pc,pt z (mapO (lG vars f) c)]):=by
 refine bL func255 Y ntmps255 Y Y fun F w=>ZC ?_;refine aA gAB Y (Z2 ?_);refine dZ 15 Y (fun q=>?_) (fun q=>?_)
 ·refine Z8 ?_;refine uAg ?_;refine Z1 ?_;have d:nm=false:=by simpa using q
  unfold cY;rw[x6 (by simp[d])];exact gDF
 refine Z5 ?_;refine aCJ fun p=>Z4 ?_;refine kQ (gS (Fb p)) (jC (fun(g acc:List UInt8)=>g.length<=s.length/\acc.length+100001*g.length<=100001*s.length/\∃a,g.length<=a/\kK vars parts (s.length+1) s []=kK vars parts (a+1) g acc) (fun g _=>[(0,ptr b),(1,str g),(5,ptr p)]) (fun _ _=>K) (fun _ acc=>[bldr p acc,mblk b W O P Q S c5 (.bool nm) (.map (some z)) pv c9 pc,pt z (mapO (lG vars f) c)]) (fun g _=>g.length) s [] ⟨xAG _,cD,s.length,xAG _,Y⟩ bM Y a7 ?_);intro g acc ⟨jg,jh,a,ji,N⟩;refine Z7 ?_;refine aX 18 Y (fun r=>?_) (fun r=>?_)
 ·have L:g≠[]:=r;have jb:=vR g [36,123];refine Z6 ?_;refine cH Y Y (index_spec g [36,123] _ hg aH) Y (ZA ?_);refine aX 22 Y (fun A=>?_) (fun A=>?_)
  ·have j:kK vars parts (s.length+1) s []=acc++g:=(by rw[N];exact Ky L A);refine Z8 ?_;refine bA Y Y (qR p acc aH _) bQ Y ?_;refine aCL ?_;have jc:(acc++g).length=acc.length+g.length:=xAE;refine Z1 ?_;refine aA (eG Y Y gAH) Y (Z9 ?_);refine aA (gC (n:=min (acc++g).length 1024) x9 Y Y gBN aH) Y (Z4 ?_);refine uAg ?_;refine Z1 ?_;have d:nm=true:=by simpa using q
   exact gFA
  obtain⟨i,t⟩:∃i:Nat,Lib.index g [36,123]=(i:Int):=⟨(Lib.index g [36,123]).toNat,aH⟩;have jj:i+2<=g.length:=(by simp only[List.length_cons,List.length_nil]at jb;omega);refine Z6 ?_;refine aA (gC (n:=i) x9 Y Y t aH) Y (bA Y Y (nF p (g.take i) acc (by have:(g.take i).length<=g.length:=List.length_take_le' _ _;omega) _) bQ Y ?_);refine aCL (Z6 ?_);refine aA (lH (m:=i) x9 Y Y t aH) Y (Z6 ?_);refine cH Y Y (Ds (g.drop i) 125 _) Y ?_;have I:=GJ (g.drop i) 125;obtain⟨e,G⟩:∃e,Lib.indexByte (g.drop i) 125=e:=⟨_,rfl⟩;rw[G]at I ⊢;have jf:(g.drop i).length=g.length-i:=xBF;have jk:(g.take i).length=i:=List.length_take_of_le aH;refine ZA ?_;refine aA (fP (m:=2) (n:=(max e 2).toNat) x9 Y Y Y Y gBN aH aH) Y (bA Y Y (NY b z W O P Q S c5 (.bool nm) pv c9 pc vars f c parts _ _ jd (by have:=xBF (l:=(g.drop i).take (max e 2).toNat) (i:=2);have:=List.length_take_le (max e 2).toNat (g.drop i);omega)) bQ Y ?_);refine aCL ?_;obtain⟨hd,H⟩:∃hd,held vars parts (((g.drop i).take (max e 2).toNat).drop 2)=hd:=⟨_,rfl⟩;have ja:=je (((g.drop i).take (max e 2).toNat).drop 2);rw[H]at ja ⊢;have y:=Ig (acc:=acc) (f:=a) L t G H;refine ZC ?_;refine bV 43 Y (fun x=>Z5 ?_) (fun x=>?_)
  ·refine dZ 45 Y (fun M=>?_) (fun M=>?_)
   ·have B:0<e/\hd.2=true:=⟨x,M⟩;refine Z3 ?_;refine bA Y Y (nF p hd.1 (acc++g.take i) gBT _) bQ Y ?_;refine aCL (Z7 ?_);refine aA (lH (m:=e.toNat+1) x9 Y Y aH aH) Y (Z6 ?_);have C:((g.drop i).drop (e.toNat+1)).length<=g.length-1-i:=gBB;have E:((g.drop i).drop 1).length<=g.length-1-i:=gBB;have u:a=(a-1)+1:=aH
    (refine d9 ((g.drop i).drop (e.toNat+1)) (acc++g.take i++hd.1) ⟨aH,by rw[xAE,xAE];omega,a-1,aH,by rw[N,y,x7 B,<-u]⟩ aH bM Y a7)
   have B:¬(0<e/\hd.2=true):=fun h=>by rw[M]at h;exact absurd h.2 dD
   refine Z4 ?_;refine bA Y Y (lZ p 36 (acc++g.take i) gBT _) bQ Y ?_;refine aCL (Z4 ?_);refine aA (lH (m:=1) x9 Y Y Y aH) Y (Z3 ?_);have C:((g.drop i).drop (e.toNat+1)).length<=g.length-1-i:=gBB;have E:((g.drop i).drop 1).length<=g.length-1-i:=gBB;have u:a=(a-1)+1:=aH
   (refine d9 ((g.drop i).drop 1) (acc++g.take i++[36]) ⟨aH,by rw[xAE,xAE];simp only[List.length_singleton];omega,a-1,aH,by rw[N,y,x6 B,<-u]⟩ aH bM Y a7)
  have B:¬(0<e/\hd.2=true):=fun h=>x h.1
  refine Z9 ?_;refine bA Y Y (lZ p 36 (acc++g.take i) gBT _) bQ Y ?_;refine aCL (Z4 ?_);refine aA (lH (m:=1) x9 Y Y Y aH) Y (Z3 ?_);have C:((g.drop i).drop (e.toNat+1)).length<=g.length-1-i:=gBB;have E:((g.drop i).drop 1).length<=g.length-1-i:=gBB;have u:a=(a-1)+1:=aH
  (refine d9 ((g.drop i).drop 1) (acc++g.take i++[36]) ⟨aH,by rw[xAE,xAE];simp only[List.length_singleton];omega,a-1,aH,by rw[N,y,x6 B,<-u]⟩ aH bM Y a7)
 have j:kK vars parts (s.length+1) s []=acc++g:=(by rw[N,show g=[]from xBH.1 r];exact If _ _ _ _);refine Z7 ?_;refine bA Y Y (qR p acc aH _) bQ Y ?_;refine aCL ?_;have jc:(acc++g).length=acc.length+g.length:=xAE;refine Z1 ?_;refine aA (eG Y Y gAH) Y (Z9 ?_);refine aA (gC (n:=min (acc++g).length 1024) x9 Y Y gBN aH) Y (Z4 ?_);refine uAg ?_;refine Z1 ?_;have d:nm=true:=by simpa using q
 exact gFA
end
def EK{α β:Type}(g:α->β){l:List α}{i:Nat}{x:α}(h:l[i]?=some x):(l.take (i+1)).map g=(l.take i).map g++[g x]:=by
 have p:i<l.length:=by
  rcases xAD i l.length with e|e
  ·exact e
  simp[List.getElem?_eq_none e]at h
 have d:l[i]=x:=by simpa[List.getElem?_eq_getElem p]using h
 rw[xAK p,d];simp
def Qv(b e:Nat)(W r N Q g p pv q:Value)(pc:Int)(nm:Bool)(vars:List (List UInt8×List UInt8))(f:Nat->Nat)(c:Nat)(parts:List (List UInt8))(t:Value)(l:List (List UInt8))(K:Hl)(H:Glob K)(L:Ksl (aZ 9) K pv parts)(I:Ksl (aZ 9) K t l)(G:l.length<=1000000)(A:∀s∈l,s.length<=100000)(S:oX vars parts):
  Sp x3 250 [ptr b,t] K [mblk b W r N Q g p (.bool nm) (.map (some e)) pv q pc,pt e (mapO (lG vars f) c)]
   (Ret fun v z L'=>z=K/\L'=[sl false (aZ 9) v (l.map (cY nm vars parts)),mblk b W r N Q g p (.bool nm) (.map (some e)) pv q pc,pt e (mapO (lG vars f) c)]):=by
 refine bL func250 Y ntmps250 Y Y fun F w=>ZE ?_;refine uAb ?_;refine Z4 ?_;refine jC (fun(i:Nat) (v:Value)=>i<=l.length) (fun i v=>[(0,ptr b),(5,v),(8,t),(9,i64 l.length),(10,i64 i)]) (fun _ _=>K) (fun i v=>[sl false (aZ 9) v ((l.take i).map (cY nm vars parts)),mblk b W r N Q g p (.bool nm) (.map (some e)) pv q pc,pt e (mapO (lG vars f) c)]) (fun i _=>l.length-i) 0 (.slice none 0 0) (xAA _) bM Y (eO (aZ 9)) ?_;intro i v O;have d:((l.take i).map (cY nm vars parts)).length=i:=(by rw[xAW,List.length_take_of_le O]);refine Z6 ?_;refine aX 11 Y (fun E=>?_) (fun E=>?_)
 ·have M:i<l.length:=aH;obtain⟨x,y⟩:∃x,l[i]?=some x:=⟨l[i]'M,x4 M⟩;refine Z6 ?_;refine aA (aW (k:=(aZ 9)) b0 Y aL Y Y gAJ) Y (uAe ?_);refine Z7 ?_;refine bA Y Y (sH b e W r N Q g p pv q pc nm vars f c parts x _ H L (A x (x8 y)) S) bQ Y ?_;refine aCL (cG (bJ (z0:=[(str [])]) b0 tz9 Y Y Y Y cW) Y ?_);refine aCJ fun B=>cG (dJ (k:=(aZ 9)) (ys:=[cY nm vars parts x]) eE Y Y (.there (.there (.there .here))) (fun w j=>dC xAC (SeesSl.at (.blk aL Y Y) j)) (by rw[d];simp;omega) (by rw[d];simp;omega)) Y ?_;rintro C K _ ⟨rfl,rfl,u⟩ -;refine Z8 ?_;refine uAp ?_;refine d9 (i+1) _ aH aH bM Y (by rw[EK _ y];exact fun _ h=>h)
 have a:(l.take i).map (cY nm vars parts)=l.map (cY nm vars parts):=(by rw[xAJ aH]);refine ZC ?_;refine uAq ?_;refine Z1 ?_;rw[a];exact gEO
def Pn(s:List UInt8)(K:Hl):Sp x3 303 [str s] K [] (Val (str s) K):=by
 refine bL func303 Y ntmps303 Y Y fun F w=>ZD ?_;exact gDP
abbrev Do(oct:Bool):FuncId:=if oct=true then 303 else 185
def GD(oct:Bool)(K:Hl):Sp x3 249 [.bool oct] K [] (Val (.func (.func (Do oct)) #[] #[]) K):=by
 refine bL func249 Y ntmps249 Y Y fun F w=>ZB ?_;refine dZ 3 Y (fun l=>Z8 ?_) (fun l=>Z9 ?_)
 ·subst l;exact gDP
 subst l;exact gDP
def o3(oct:Bool)(s:List UInt8)(K:Hl)(c:s.length<=100000000):Sp x3 (Do oct) [str s] K [] (Val (str (gZ oct s)) K):=by
 cases oct
 ·exact jU s K aH
 exact Pn s K
def Ac(s a:List UInt8)(K:Hl)(H:Glob K)(c:s.length<4294967281):Sp x3 305 [str s,str a] K [] (Val (.bool (decide (0<=Lib.index s a))) K):=by
 refine nW ⟨_,func305,Y,Y⟩ fun w e=>?_;obtain⟨m,T,b,B⟩:=H.maxLen;exact Tryz.strings_Contains ⟨s.toArray⟩ ⟨a.toArray⟩ m w (by simpa[ByteArray.size]using c) (nK (e _ _ B) Y)
def D3(v k:List UInt8)(oct:Bool)(K:Hl)(H:Glob K)(hv:v.length<=100000000)(j:k.length<=100000000):Sp x3 252 [str v,str k,.func (.func (Do oct)) #[] #[]] K [] (Val (.bool (decide (0<=Lib.index (gZ oct v) (gZ oct k)))) K):=by
 have b:∀s:List UInt8,(gZ oct s).length=s.length:=by intro s;unfold gZ;split<;>simp[dY]
 refine bL func252 Y ntmps252 Y Y fun F w=>Z9 ?_;refine cH Y Y (o3 oct v _ hv) Y (Z2 ?_);refine cH Y Y (o3 oct k _ j) Y (cH Y Y (Ac _ _ _ H (by rw[b];omega)) Y (Z5 ?_));exact gDP
def GP(c:UInt8)(K:Hl):Sp x3 222 [.int .u8 c.toNat] K [] (Val (.bool (jT c)) K):=by
 refine bL func222 Y ntmps222 Y Y fun F w=>Z8 ?_;refine aA (G3 c 32 Y Y) Y (Z2 ?_);refine bV 6 Y (fun s=>Z3 ?_) (fun s=>ZB ?_)
 ·refine aA (G3 c 32 Y Y) Y (Z4 ?_);refine bV 11 Y (fun t=>ZG ?_) (fun t=>Z6 ?_)
  ·refine j4 ?_ _
   unfold jT
   generalize (c|||32).toNat=x at*
   generalize c.toNat=y at*
   exact gDI
  refine bV 14 Y (fun v=>Z8 ?_) (fun v=>ZG ?_)
  ·refine bV 19 Y (fun g=>Z8 ?_) (fun g=>ZA ?_)
   ·refine j4 ?_ _
    unfold jT
    generalize (c|||32).toNat=x at*
    generalize c.toNat=y at*
    exact gDI
   refine j4 ?_ _
   unfold jT
   generalize (c|||32).toNat=x at*
   generalize c.toNat=y at*
   exact gDI
  refine j4 ?_ _
  unfold jT
  generalize (c|||32).toNat=x at*
  generalize c.toNat=y at*
  exact gDI
 refine bV 14 Y (fun v=>Z8 ?_) (fun v=>ZG ?_)
 ·refine bV 19 Y (fun g=>Z8 ?_) (fun g=>ZA ?_)
  ·refine j4 ?_ _
   unfold jT
   generalize (c|||32).toNat=x at*
   generalize c.toNat=y at*
   exact gDI
  refine j4 ?_ _
  unfold jT
  generalize (c|||32).toNat=x at*
  generalize c.toNat=y at*
  exact gDI
 refine j4 ?_ _
 unfold jT
 generalize (c|||32).toNat=x at*
 generalize c.toNat=y at*
 exact gDI
def nY(s:List UInt8):rL s=true↔(∀i c,s[i]?=some c->iU i c=true)/\s≠[]/\s.length<=16:=by
 unfold rL;simp only[Bool.and_eq_true,List.all_eq_true,List.mem_range,decide_eq_true_eq]
 constructor
 ·rintro⟨⟨h,b⟩,l⟩;refine⟨fun i c d=>?_,b,l⟩
  have p:i<s.length:=by
   rcases xAD i s.length with e|e
   ·exact e
   simp[List.getElem?_eq_none e]at d
  have:=h i p;rw[d]at this;exact this
 rintro⟨h,b,l⟩;refine⟨⟨fun i p=>?_,b⟩,l⟩
 rw[x4 p];exact h i _ (x4 p)
def CV(s:List UInt8)(K:Hl)(q:s.length<=140737488355328):Sp x3 128 [str s] K [] (Val (.bool (rL s)) K):=by
  refine bL func128 Y ntmps128 Y Y fun F w=>Z9 ?_;refine uAh ?_;rintro u K _ ⟨rfl,rfl⟩ -;refine uAt ?_;refine Z4 ?_;refine eD (fun(i:Nat)=>i<=s.length/\∀j c,j<i->s[j]?=some c->iU j c=true) (fun i=>[(0,str s),(6,u),(7,i64 s.length),(8,i64 i)]) (fun _=>_) (fun i=>[sl false (elB 5) u s]) (fun i=>s.length-i) 0 ⟨xAA _,fun j c h _=>by omega⟩ bM Y a7 ?_;intro i ⟨O,G⟩;refine Z6 ?_;refine aX 9 Y (fun p=>?_) (fun p=>?_)
  · have M:i<s.length:=aH;obtain⟨c,d⟩:∃c,s[i]?=some c:=⟨s[i]'M,x4 M⟩;refine Z7 ?_;refine aA (aW (k:=(elB 5)) iG Y aL Y Y gAJ) Y (uAu ?_);refine Z7 ?_;refine cH Y Y (GP c _) Y (aA gAB Y (Z1 ?_));refine kH 16 Y (fun y=>?_) (fun y=>?_)
    · refine Z6 ?_;refine bV 20 Y (fun g=>Z6 ?_) (fun g=>ZH ?_)
      · refine bV 23 Y (fun b=>ZJ ?_) (fun b=>Z9 ?_)
        · refine uAd ?_;refine Z1 ?_;refine j4 ?_ _
          (symm; rw [Bool.eq_false_iff]; intro a
           have:=((nY s).1 a).1 i c d;unfold iU at this;simp only[Bool.or_eq_true,Bool.and_eq_true,decide_eq_true_eq]at this;have v:jT c=false:=by simpa using y
           rw[v]at this;simp at this;omega)
        refine aX 27 Y (fun l=>ZB ?_) (fun l=>Z7 ?_)
        · refine uAd ?_;refine Z1 ?_;refine j4 ?_ _
          (symm; rw [Bool.eq_false_iff]; intro a
           have:=((nY s).1 a).1 i c d;unfold iU at this;simp only[Bool.or_eq_true,Bool.and_eq_true,decide_eq_true_eq]at this;have v:jT c=false:=by simpa using y
           rw[v]at this;simp at this;omega)
        have r:iU i c=true:=gA7;refine cX (i+1) ⟨aH,fun j N E z=>?_⟩ aH bM Y a7
        rcases xAD j i with h|h
        · exact G j N h z
        exact gDX
      have r:iU i c=true:=gA7;refine cX (i+1) ⟨aH,fun j N E z=>?_⟩ aH bM Y a7
      rcases xAD j i with h|h
      · exact G j N h z
      exact gDX
    refine ZL ?_;have r:iU i c=true:=gA7;refine cX (i+1) ⟨aH,fun j N E z=>?_⟩ aH bM Y a7
    rcases xAD j i with h|h
    · exact G j N h z
    exact gDX
  have B:∀j c,s[j]?=some c->iU j c=true:=fun j c d=>G j c gCW d
  refine ZA ?_;refine bV 31 Y (fun f=>ZB ?_) (fun f=>Z8 ?_)
  · refine uAd ?_;refine Z1 ?_;refine j4 ?_ _
    (rw [xCC,nY]
     simp only[decide_eq_true_eq];exact⟨fun h=>⟨B,by assumption,aH⟩,fun h=>by omega⟩)
  refine uAd ?_;refine Z1 ?_;refine j4 ?_ _
  (symm;rw[Bool.eq_false_iff];intro a;exact absurd ((nY s).1 a).2.1 bZ)
def dI:El gI:={e:=34,sz:=2,enc:=fun a=>[i64 a.1,str a.2],len:=fun _=>rfl,one:=fun _ u h=>by simp at h;rcases h with rfl|rfl<;>rfl}
def mch(b mb:Nat)(m:Msg)(hv pv:Value)(nm:Bool)(s:MS):Asn:=fun h=>∃a d f c,Sat [mblk b (str m.from_) (str m.to_) (i64 m.size) hv a (.bool s.keep) (.bool nm) (.map (some mb)) pv d s.pc,sl true dI a s.acts,sl false d7 d s.stack,pt mb (mapO (lG s.vars f) c)] h
section
variable{E:Env}{c0:Code}{x0:Exit}{fr:Fr}{K:Hl}{L:List Asn}{Q:Post}{b mb:Nat}{m:Msg}{hv pv:Value}{nm:Bool}{s:MS}
def Hf{h:Hl}:Sat (mch b mb m hv pv nm s::L) h↔∃av sv f c,Sat ([mblk b (str m.from_) (str m.to_) (i64 m.size) hv av (.bool s.keep) (.bool nm) (.map (some mb)) pv sv s.pc,sl true dI av s.acts,sl false d7 sv s.stack,pt mb (mapO (lG s.vars f) c)]++L) h:=by
 constructor
 ·rintro⟨a,l,⟨av,sv,f,c,d⟩,v,hd,rfl⟩;exact⟨av,sv,f,c,eT.2 ⟨a,l,d,v,hd,Y⟩⟩
 rintro⟨av,sv,f,c,d⟩;obtain⟨a,l,e,v,hd,rfl⟩:=eT.1 d;exact⟨a,l,⟨av,sv,f,c,e⟩,v,hd,Y⟩
attribute [local semireducible] Go.SL.T Go.SL.OL Go.SL.D Go.SL.DL Go.SL.Ev Go.SL.Ef Go.SL.EfS in
def uZ(h:∀av sv f c,T E c0 fr K ([mblk b (str m.from_) (str m.to_) (i64 m.size) hv av (.bool s.keep) (.bool nm) (.map (some mb)) pv sv s.pc,sl true dI av s.acts,sl false d7 sv s.stack,pt mb (mapO (lG s.vars f) c)]++L) Q):T E c0 fr K (mch b mb m hv pv nm s::L) Q:=fun a w f i=>by
 obtain⟨x,d,r⟩:=i.rep;obtain⟨av,sv,e,c,d⟩:=Hf.1 d;exact h av sv e c a w f ⟨i.os,i.tape,i.output,i.size,x,d,r⟩
def j8{av sv:Value}{f:Nat->Nat}{c:Nat}:∀h,Sat (mblk b (str m.from_) (str m.to_) (i64 m.size) hv av (.bool s.keep) (.bool nm) (.map (some mb)) pv sv s.pc::sl true dI av s.acts::sl false d7 sv s.stack::pt mb (mapO (lG s.vars f) c)::L) h->Sat (mch b mb m hv pv nm s::L) h:=fun h a=>Hf.2 ⟨av,sv,f,c,a⟩
end
def MI(b mb:Nat)(m:Msg)(hv:Value)(nm:Bool)(r:Res MS):Ending->Hl->List Asn->Prop:=jY r fun s v K g=>v=.tuple #[]/\∃p,Ksl (aZ 9) K p s.parts/\g=[mch b mb m hv p nm s]
def DY{P:Program}{f:FuncId}{args:List Value}{K:Hl}{L:List Asn}{R b:Ending->Hl->List Asn->Prop}(h:Sp P f args K L R)(k:∀e a L',R e a L'->∃S M,L'=S++M/\b e a S):Sp P f args K L b:=
 ⟨h.1,fun F w i=>(h.2 F w i).mono fun e x ⟨a,L',r,le,j⟩=>let ⟨S,M,c,d⟩:=k _ _ _ r;⟨a,S,d,le,by subst c;exact j.left⟩⟩
def rV(p:Prop)[Decidable p](b:Nat)(c0 r N Q i a c d f g:Value)(pc:Int)(K:Hl):Sp x3 92 [ptr b,.bool (decide p)] K [mblk b c0 r N Q i a c d f g pc]
  (jY (if p then .ok ()else .error (12,pc)) fun _ v j L'=>v=.tuple #[]/\j=K/\L'=[mblk b c0 r N Q i a c d f g pc]):=by
 refine DY (Bq p b c0 r N Q i a c d f g pc K) fun e j L' h=>?_;rcases h with ⟨hp,v,rfl,rfl,rfl,rfl⟩|⟨hp,w,rfl,rfl,rfl⟩
 ·rw[x7 hp];exact⟨_,[],(xAL _).symm,_,Y,Y,Y,Y⟩
 rw[x6 hp];exact⟨[_],_,Y,w,Y,Y⟩
def sM(b:Nat)(c0 r N Q i p c a f d:Value)(pc:Int)(K:Hl):Sp x3 92 [ptr b,.bool false] K [mblk b c0 r N Q i p c a f d pc] (Flt 12 pc):=by
 refine DY (D5 b c0 r N Q i p c a f d pc K) fun e g j h=>?_;obtain⟨w,rfl,rfl,rfl⟩:=h;exact⟨[_],_,Y,w,Y,Y⟩
def lX(x:Value)(e a:Int)(K:Hl):Sp x3 90 [x,i64 e,i64 a] K [] (Flt e a):=by
 refine DY (FQ x e a K) fun A b g h=>?_;obtain⟨w,rfl,rfl,rfl⟩:=h;exact⟨[_],[],Y,w,Y,Y⟩
def Fx(n:Int)(P: -9223372036854775808<=n)(h:n<=9223372036854775807)(K:Hl)(H:Glob K):Sp x3 129 [i64 n] K [] (Val (str (Lib.itoa n)) K):=by
 refine p9 ⟨_,func129,Y,Y⟩ fun w a=>(Tryz.strconv_Itoa n P h w (H.pow10 w a)).mono fun e x ⟨A,k,s,g⟩=>⟨A,?_⟩
 rw[g];exact Lib.below_grow _ _ (xAG _) k s
def iP{nm:Bool}{vars:List (List UInt8×List UInt8)}{parts:List (List UInt8)}{s:List UInt8}(h:s.length<=100000):(cY nm vars parts s).length<=100000:=by
 unfold cY;split
 ·have:=List.length_take_le 1024 (kK vars parts (s.length+1) s []);omega
 exact h
def oN(l:List UInt8)(n:Nat):l.take (min l.length n)=l.take n:=by
 rcases Nat.le_total l.length n with h|h
 ·rw[Nat.min_eq_left h,xBG,xAJ h]
 rw[Nat.min_eq_right h]
abbrev o4(o:Ins)(av P:Value):Value:=.agg #[i64 o.op,i64 o.n,i64 o.tag,.bool o.oct,av,P,i64 o.at_]
def VG{nm:Bool}{o:Ins}{s:MS}{a b:List UInt8}(I:0<=o.tag/\o.tag<=3)(c:o.a[0]?=some a)(r:o.b[0]?=some b):setI nm o s=.ok {s with vars:=vput s.vars a ((if o.tag=1 then dY (cY nm s.vars s.parts b)else if o.tag=2 then qI (cY nm s.vars s.parts b)else if o.tag=3 then Lib.itoa (cY nm s.vars s.parts b).length else cY nm s.vars s.parts b).take 48)}:=by
 obtain⟨B,n,S,v,Q,d,p⟩:=o;cases Q with
 |nil=>cases c
 |cons x e=>
  cases d with
  |nil=>cases r
  |cons y K=>
   cases c;cases r
   unfold setI;rw[x7 I]
def CB{nm:Bool}{o:Ins}{s:MS}(h:¬(0<=o.tag/\o.tag<=3/\0<o.a.length/\0<o.b.length)):setI nm o s=.error (12,s.pc):=by
 obtain⟨B,n,S,v,Q,c,p⟩:=o;unfold setI;split
 ·rename_i I;split
  ·rename_i a b;simp only at a b;subst a;subst b;exact absurd ⟨I.1,I.2,cD,cD⟩ h
  rfl
 rfl
def Px(b mb:Nat)(m:Msg)(hv pv:Value)(nm:Bool)(s:MS)(o:Ins)(av P:Value)(n:Int)(K:Hl)(I:Glob K)(L:Ksl (aZ 9) K pv s.parts)(G:Ksl (aZ 9) K av o.a)(H:Ksl (aZ 9) K P o.b)(Q:∀x∈o.b,x.length<=100000)(S:oX s.vars s.parts):
  Sp x3 154 [ptr b,o4 o av P,i64 n] K [mch b mb m hv pv nm s] (MI b mb m hv nm (setI nm o s)):=by
 obtain⟨sa,sn,sc,rfl⟩:=G.isSlice;obtain⟨ta,tn,tc,rfl⟩:=H.isSlice;refine bL func154 Y ntmps154 Y Y fun F w=>uZ fun av W f c=>Z3 ?_;refine aCJ fun z=>Z9 ?_;refine bV 11 Y (fun t=>Z8 ?_) (fun t=>?_)
 ·refine bV 16 Y (fun y=>Z5 ?_) (fun y=>?_)
  ·refine uAb ?_;refine Z4 ?_;refine bV 22 Y (fun q=>Z5 ?_) (fun q=>?_)
   ·refine uAb ?_;refine Z3 ?_;refine eC Y Y (rV (0<(o.b.length:Int)) _ _ _ _ _ _ _ _ _ _ _ _ _) bQ Y (fun e p C i _ l=>?_) (fun u0 C=>?_)
    ·refine uAa ?_;refine Z2 ?_;have A:¬(0<(o.b.length:Int)):=gB1;rw[x6 A]at C;cases C
     have a:=CB (nm:=nm) (s:=s) (o:=o) aH;unfold MI;rw[a];exact gHI
    refine aCL ?_;have A:0<(o.b.length:Int):=xA3 (fun h=>by rw[x6 h]at C;cases C);obtain⟨v,O⟩:∃x,o.a[0]?=some x:=⟨o.a[0]'(by omega),x4 aH⟩;obtain⟨E,B⟩:∃x,o.b[0]?=some x:=⟨o.b[0]'(by omega),x4 aH⟩;have d:=VG (nm:=nm) (s:=s) (show 0<=o.tag/\o.tag<=3 by omega) O B;have ja:(cY nm s.vars s.parts E).length<=100000:=iP (Q E (x8 B));refine Z7 ?_;refine aA (aW (k:=aZ 9) (j:=0) b0 Y (.known H) Y Y aH) Y (uAe ?_);refine bA Y Y (sH b mb _ _ _ _ _ _ pv _ _ nm s.vars f c s.parts E _ I L (Q E (x8 B)) S) bQ Y ?_;refine aCL (Z3 ?_);refine dU (fun(u:List UInt8)=>setI nm o s=.ok {s with vars:=vput s.vars v (u.take 48)}) (fun u=>[(0,ptr b),(4,ptr z),(6,str u)]) (fun _=>K) (fun _=>[mblk b (str m.from_) (str m.to_) (i64 m.size) hv av (.bool s.keep) (.bool nm) (.map (some mb)) pv W s.pc,sl true dI av s.acts,sl false d7 W s.stack,pt mb (mapO (lG s.vars f) c),pt z (bK [i64 o.op,i64 o.n,i64 o.tag,.bool o.oct,.slice sa sn sc,.slice ta tn tc,i64 o.at_] 41)]) ?_ ?_
    ·refine ZD ?_;refine aX 37 Y (fun N=>Z2 ?_) (fun N=>Z6 ?_)
     ·refine cH Y Y (jU _ _ aH) Y (Z3 ?_);refine uAv ?_;refine cB _ ?_ bM Y a7
      (rw[d,x7 N];done)
     refine aX 41 Y (fun g=>Z2 ?_) (fun g=>Z6 ?_)
     ·refine cH Y Y (KI _ _ aH) Y (Z3 ?_);refine uAv ?_;refine cB _ ?_ bM Y a7
      (rw[d,x6 N,x7 g];done)
     refine aX 45 Y (fun M=>Z3 ?_) (fun M=>Z2 ?_)
     ·refine cH Y Y (Fx _ aH aH _ I) Y (Z3 ?_);refine uAv ?_;refine cB _ ?_ bM Y a7
      (rw[d,x6 N,x6 g,x7 M];done)
     refine uAv ?_;refine cB _ ?_ bM Y a7
     (rw[d,x6 N,x6 g,x6 M];done)
    intro u d;refine cN [14] [14] mixed gAD (cM _) (Z6 ?_);refine aJ Y Y (.none Y) Y Y (aW (k:=aZ 9) (j:=0) b0 Y (.known G) Y Y aH) Y (aJ Y Y (.none Y) Y Y (cE (o:=0) (k:=(aZ 9)) ts9 Y aL bZ Y) Y (Z4 ?_));refine aJ Y Y (.none Y) Y Y (gC (n:=min u.length 48) x9 Y Y gBN aH) Y (aJ Y Y (.none Y) Y Y (dA aA5 Yu cW) Y ?_);refine l7 Y Y (.none Y) Y (aAR xCI x9 Y Y Y bP) ?_;rintro _ K _ ⟨rfl,rfl⟩ -;refine cI ?_;obtain⟨f',r⟩:=Qk v (u.take (min u.length 48)) c s.vars f;rw[r,oN];refine aV (aQ cL (aQ cL (aQ cL (aQ cL bT)))) (d8 (j8 (m:=m) (hv:=hv) (pv:=pv) (nm:=nm) (s:={s with vars:=vput s.vars v (u.take 48)})) (Z1 ?_));unfold MI;rw[d];exact⟨_,Y,Y,pv,L,Y⟩
   have a:=CB (nm:=nm) (s:=s) (o:=o) aH;refine Z5 ?_;refine dB Y Y (sM _ _ _ _ _ _ _ _ _ _ _ _ _) bQ Y gAE ?_ ?_
   ·rintro _ _ _ ⟨i,h,rfl⟩ l;cases h
    exact gE8
   exact gDD
  have a:=CB (nm:=nm) (s:=s) (o:=o) aH;refine ZB ?_;refine dB Y Y (sM _ _ _ _ _ _ _ _ _ _ _ _ _) bQ Y gAE ?_ ?_
  ·rintro _ _ _ ⟨i,h,rfl⟩ l;cases h
   exact gE8
  exact gDD
 have a:=CB (nm:=nm) (s:=s) (o:=o) aH;refine ZG ?_;refine dB Y Y (sM _ _ _ _ _ _ _ _ _ _ _ _ _) bQ Y gAE ?_ ?_
 ·rintro _ _ _ ⟨i,h,rfl⟩ l;cases h
  exact gE8
 exact gDD
section
variable{R:Ending->Hl->List Asn->Prop}{K:Hl}{L:List Asn}{args:List Value}{s t:MS}{P:Program}
def LH{g:FuncId}{b e:Nat}{m:Msg}{hv pv:Value}{nm:Bool}(d:∃fn,P.funcs[g]?=some fn/\(fn.name== "runtime.NumGoroutine")=false/\fn.body.isSome=true)
  (h:∀av sv f c,Sp P g args K ([mblk b (str m.from_) (str m.to_) (i64 m.size) hv av (.bool s.keep) (.bool nm) (.map (some e)) pv sv s.pc,sl true dI av s.acts,sl false d7 sv s.stack,pt e (mapO (lG s.vars f) c)]++L) R):Sp P g args K (mch b e m hv pv nm s::L) R:=
 ⟨d, fun F w j => by
  obtain⟨x,a,r⟩:=j.rep;obtain⟨av,sv,f,c,a⟩:=Hf.1 a;exact(h av sv f c).2 F w ⟨j.os,j.tape,j.output,j.size,x,a,r⟩⟩
def Hk{f:FuncId}{b:Ending->Hl->List Asn->Prop}(h:Sp P f args K L R)(k:∀e a L',R e a L'->∃S M,(∀h,Sat L' h->Sat (S++M) h)/\b e a S):Sp P f args K L b:=
 ⟨h.1,fun F w i=>(h.2 F w i).mono fun e x ⟨a,L',r,le,j⟩=>let ⟨S,M,c,d⟩:=k _ _ _ r;⟨a,S,d,le,(j.imp c).left⟩⟩
def nT(b a:Nat)(m:Msg)(hv pv:Value)(nm:Bool)(s:MS)(v:Bool)(K:Hl):Sp x3 142 [ptr b,.bool v] K [mch b a m hv pv nm s] (jY (push s v) fun g r d L'=>r=.tuple #[]/\d=K/\L'=[mch b a m hv pv nm g]):=by
 refine LH ⟨_,func142,Y,Y⟩ fun l i f c=>?_;refine B1 (show Tks [_,_] _ _ from .cons .here (aQ dQ bT)).sat (Hk (wO _ (OU b _ _ _ _ _ _ _ _ _ i s.pc s.stack v K)) ?_)
 rintro e d L' ⟨N,h,rfl⟩;unfold push;rcases h with ⟨hp,r,rfl,rfl,rfl,j,rfl⟩|⟨hp,w,rfl,rfl,rfl⟩
 ·rw[x7 aH];refine⟨[mch b a m hv pv nm {s with stack:=s.stack++[v]}],[],fun h y=>?_,_,Y,Y,Y,Y⟩
  refine j8 (s:={s with stack:=s.stack++[v]}) h ((show Tks [_,_,_,_] _ []from .cons .here (aQ dQ (aQ cL (aQ cL bT)))).sat h y)
 rw[x6 aH];exact⟨[_],_,fun h y=>y,w,Y,Y⟩
def zC(b i:Nat)(m:Msg)(hv pv:Value)(nm:Bool)(s:MS)(a:Int)(n:Nat)(d:Bool)(K:Hl)(hp:s.pc<1000)(u:n<1000):Sp x3 146 [ptr b,i64 a,i64 n,.bool d] K [mch b i m hv pv nm s] (jY (jump s a n d) fun p r j L'=>r=.tuple #[]/\j=K/\L'=[mch b i m hv pv nm p]):=by
 refine LH ⟨_,func146,Y,Y⟩ fun l q f c=>?_;refine B1 (show Tks [_] _ _ from .cons .here .nil).sat (Hk (wO _ (Od b _ _ _ _ _ _ _ _ _ _ s.pc a n d K ⟨aH,aH⟩ ⟨aH,aH⟩)) ?_)
 rintro e j L' ⟨N,h,rfl⟩;unfold jump;rcases h with ⟨g,r,rfl,rfl,rfl,rfl⟩|⟨g,w,rfl,rfl,rfl⟩
 ·rw[x7 g];refine⟨[mch b i m hv pv nm (if d=true then {s with pc:=s.pc+a.toNat}else s)],[],fun h y=>?_,_,Y,Y,Y,Y⟩
  cases d
  ·exact j8 h y
  refine j8 (av:=l) (sv:=q) (f:=f) (c:=c) (s:={s with pc:=s.pc+a.toNat}) h ?_;have e:((s.pc+a.toNat:Nat):Int)=(s.pc:Int)+a:=aH
  show Sat (mblk b _ _ _ _ _ _ _ _ _ _ ((s.pc+a.toNat:Nat):Int)::_) h
  rw[e];exact y
 rw[x6 g];exact⟨[_],_,fun h y=>y,w,Y,Y⟩
def Je{α:Type}{z:Bool}{k:El α}{v:Value}{xs:List α}:∀h,sl z k v xs h->∃a n c,v=.slice a n c:=by
 rintro h (⟨rfl,_⟩|⟨b,f,j,w,rfl,_⟩)<;>exact⟨_,_,_,Y⟩
def Bs(b q:Nat)(m:Msg)(hv pv:Value)(nm:Bool)(s:MS)(K:Hl)(i:s.stack.length<=100):Sp x3 144 [ptr b] K [mch b q m hv pv nm s] (jY (pop s) fun r v t L'=>v=.bool r.1/\t=K/\L'=[mch b q m hv pv nm r.2]):=by
 refine bL func144 Y ntmps144 Y Y fun F w=>uZ fun E B f c=>?_;refine nX (p:=∃a n c,B=.slice a n c) (fun h y=>?_) ?_
 ·obtain⟨_,l,_,i,_,_⟩:=y;obtain⟨_,G,_,d,_,_⟩:=i;obtain⟨x,_,g,_,_,_⟩:=d;exact Je x g
 rintro⟨I,Q,L,rfl⟩;refine ZC ?_;refine aA (bU (k:=d7) Y xBP Y aL) Y (Z1 ?_);refine eC Y Y (rV (0<(s.stack.length:Int)) _ _ _ _ _ _ _ _ _ _ _ _ _) bQ Y (fun e p C u _ z=>?_) (fun u0 C=>?_)
 ·refine uAa ?_;refine Z2 ?_;have A:¬(0<(s.stack.length:Int)):=gB1;rw[x6 A]at C;cases C
  have H:s.stack.getLast?=none:=(by rw[List.getLast?_eq_none_iff];exact List.eq_nil_of_length_eq_zero aH);unfold pop;rw[H];exact⟨u,Y,Y⟩
 refine aCL ?_;have A:0<(s.stack.length:Int):=xA3 (fun h=>by rw[x6 h]at C;cases C);obtain⟨x,g⟩:∃x,s.stack[s.stack.length-1]?=some x:=⟨s.stack[s.stack.length-1]'(by omega),x4 aH⟩;have H:s.stack.getLast?=some x:=(by rw[List.getLast?_eq_getElem?];exact g);refine Z3 ?_;refine cN [] [] mixed gAD (cM _) (Z8 ?_);refine aJ Y Y (.none Y) Y Y (bU (k:=d7) Y xBP Y aL) Y (Z1 ?_);refine aJ Y Y (.none Y) Y Y (aW (k:=d7) (j:=s.stack.length-1) fF Y aL Y aH aH) Y ?_;refine aJ Y Y (.none Y) Y Y (cE (o:=0) (k:=d7) ts4 Y aL bZ Y) Y (Z4 ?_);refine cN [14] [14] mixed gAD (cM _) (Z9 ?_);refine aJ Y Y (.none Y) Y Y (bU (k:=d7) Y xBP Y aL) Y (Z1 ?_);refine aJ Y Y (.none Y) Y Y (mN (k:=d7) (m:=s.stack.length-1) fF Y (.there (.there .here)) (.there (.there .here)) Y aH aH) Y (Z2 ?_);refine l7 Y Y (.none Y) Y (bW n7 Y Y cR bP aZe Y) ?_;rintro _ K _ ⟨rfl,rfl⟩ -;refine Z9 ?_;refine aV (aQ jS (aQ cL (aQ cL (aQ cL bT)))) (d8 (gS (sU (m:=s.stack.length-1) aH)) (aV (aQ dQ (aQ dQ (aQ cL (aQ cL bT)))) ?_));rw[<-List.dropLast_eq_take];refine d8 (j8 (m:=m) (hv:=hv) (pv:=pv) (nm:=nm) (s:={s with stack:=s.stack.dropLast})) (Z1 ?_);unfold pop;rw[H];exact gDF
def hZ{v:Bool}(h:push s v=.ok t):t.parts=s.parts:=by unfold push at h;split at h<;>cases h;rfl
def Bt{r:Bool×MS}(h:pop s=.ok r):r.2.parts=s.parts:=by unfold pop at h;split at h<;>cases h;rfl
def zD{b:Int}{n:Nat}{a:Bool}(h:jump s b n a=.ok t):t.parts=s.parts:=by
 unfold jump at h;split at h
 ·cases h;split<;>rfl
 cases h
def QX(b a:Nat)(m:Msg)(hv pv:Value)(nm:Bool)(s:MS)(o:Ins)(av P:Value)(n:Nat)(K:Hl)(L:Ksl (aZ 9) K pv s.parts)(j:Ksl (aZ 9) K av o.a)(l:Ksl (aZ 9) K P o.b)(hp:s.pc<1000)(u:n<1000)(W:s.stack.length<=100):
  Sp x3 143 [ptr b,o4 o av P,i64 n] K [mch b a m hv pv nm s] (MI b a m hv nm (match pop s with| .error e=>.error e| .ok r=>push r.2 (!r.1))):=by
 obtain⟨I,Q,v,rfl⟩:=j.isSlice;obtain⟨x,z,y,rfl⟩:=l.isSlice;refine bL func143 Y ntmps143 Y Y fun F w=>Z3 ?_;refine aCJ fun t=>Z5 ?_;refine eC Y Y (Bs b a m hv pv nm s _ W) bQ Y (fun e p i c _ h=>?_) (fun r i=>?_)
 ·refine uAa ?_;refine Z1 ?_;simp only[MI,i];exact gFF
 refine aCL ?_;have d:=Bt i;refine aA gAB Y ?_;refine eC Y Y (nT b a m hv pv nm r.2 (!r.1) _) bQ Y (fun e p g c _ h=>?_) (fun q g=>?_)
 ·refine uAa ?_;refine Z1 ?_;simp only[MI,i,g];exact gFF
 refine aCL ?_;have f:=hZ g;refine aG (uAa ?_);refine Z1 ?_;simp only[MI,i,g];exact⟨_,Y,Y,pv,by rw[f,d];exact L,Y⟩
def QY(b c:Nat)(m:Msg)(hv pv:Value)(nm:Bool)(s:MS)(o:Ins)(av P:Value)(n:Nat)(K:Hl)(L:Ksl (aZ 9) K pv s.parts)(f:Ksl (aZ 9) K av o.a)(r:Ksl (aZ 9) K P o.b)(hp:s.pc<1000)(u:n<1000)(W:s.stack.length<=100):
  Sp x3 145 [ptr b,o4 o av P,i64 n] K [mch b c m hv pv nm s] (MI b c m hv nm (jump s o.n n true)):=by
 obtain⟨I,Q,i,rfl⟩:=f.isSlice;obtain⟨x,t,l,rfl⟩:=r.isSlice;refine bL func145 Y ntmps145 Y Y fun F w=>Z3 ?_;refine aCJ fun j=>Z7 ?_;refine eC Y Y (zC b c m hv pv nm s o.n n true _ hp u) bQ Y (fun e p g d _ h=>?_) (fun q g=>?_)
 ·refine uAa ?_;refine Z1 ?_;simp only[MI,g];exact gEM
 refine aCL ?_;have a:=zD g;refine aG (uAa ?_);refine Z1 ?_;simp only[MI,g];exact⟨_,Y,Y,pv,by rw[a];exact L,Y⟩
def QZ(b c:Nat)(m:Msg)(hv pv:Value)(nm:Bool)(s:MS)(o:Ins)(av P:Value)(n:Nat)(K:Hl)(L:Ksl (aZ 9) K pv s.parts)(t:Ksl (aZ 9) K av o.a)(u:Ksl (aZ 9) K P o.b)(hp:s.pc<1000)(v:n<1000)(W:s.stack.length<=100):
  Sp x3 147 [ptr b,o4 o av P,i64 n] K [mch b c m hv pv nm s] (MI b c m hv nm (match pop s with| .error e=>.error e| .ok r=>jump r.2 o.n n (r.1))):=by
 obtain⟨I,Q,A,rfl⟩:=t.isSlice;obtain⟨B,E,C,rfl⟩:=u.isSlice;refine bL func147 Y ntmps147 Y Y fun F w=>Z3 ?_;refine aCJ fun y=>Z2 ?_;refine cN [5,6] [6] mixed gAD (aQ cL bT) (Z5 ?_);refine Ah Y (.none Y) Y Y Y Y (Bs b c m hv pv nm s _ W) (aQ dQ bT) Y (fun _ _=>eI _ _) ?_ ?_
 ·rintro _ _ _ a l;obtain⟨e,p,i,d,h,rfl⟩:=eJ a;cases h
  intro S x M O;refine⟨M,_,_,?_,bZ,O.left⟩
  simp only[MI,i];exact gEM
 rintro _ K _ a -;obtain⟨r,i,rfl,rfl,rfl⟩:=eK a;clear a;have f:=Bt i;have z:=D9 i;refine⟨_,(show Tks _ _ _ from (aQ dQ bT)).sat,?_⟩
 refine kO Y (.none Y) Y Y Y (zC b c m hv pv nm r.2 o.n n (r.1) _ aH v) bQ Y (fun _ _=>eI _ _) ?_ ?_
 ·rintro _ _ _ a l;obtain⟨e,p,g,d,h,rfl⟩:=eJ a;cases h
  intro S x M O;refine⟨M,_,_,?_,bZ,O.left⟩
  simp only[MI,i,g];exact gEM
 exact gEE
def Ra(b c:Nat)(m:Msg)(hv pv:Value)(nm:Bool)(s:MS)(o:Ins)(av P:Value)(n:Nat)(K:Hl)(L:Ksl (aZ 9) K pv s.parts)(t:Ksl (aZ 9) K av o.a)(u:Ksl (aZ 9) K P o.b)(hp:s.pc<1000)(v:n<1000)(W:s.stack.length<=100):
  Sp x3 148 [ptr b,o4 o av P,i64 n] K [mch b c m hv pv nm s] (MI b c m hv nm (match pop s with| .error e=>.error e| .ok r=>jump r.2 o.n n (!r.1))):=by
 obtain⟨I,Q,A,rfl⟩:=t.isSlice;obtain⟨B,E,C,rfl⟩:=u.isSlice;refine bL func148 Y ntmps148 Y Y fun F w=>Z3 ?_;refine aCJ fun y=>Z2 ?_;refine cN [5,7] [7] mixed gAD (aQ cL bT) (Z5 ?_);refine Ah Y (.none Y) Y Y Y Y (Bs b c m hv pv nm s _ W) (aQ dQ bT) Y (fun _ _=>eI _ _) ?_ ?_
 ·rintro _ _ _ a l;obtain⟨e,p,i,d,h,rfl⟩:=eJ a;cases h
  intro S x M O;refine⟨M,_,_,?_,bZ,O.left⟩
  simp only[MI,i];exact gEM
 rintro _ K _ a -;obtain⟨r,i,rfl,rfl,rfl⟩:=eK a;clear a;have f:=Bt i;have z:=D9 i;refine⟨_,(show Tks _ _ _ from (aQ dQ bT)).sat,?_⟩
 refine aJ Y Y (.none Y) Y Y gAB Y ?_;refine kO Y (.none Y) Y Y Y (zC b c m hv pv nm r.2 o.n n (!r.1) _ aH v) bQ Y (fun _ _=>eI _ _) ?_ ?_
 ·rintro _ _ _ a l;obtain⟨e,p,g,d,h,rfl⟩:=eJ a;cases h
  intro S x M O;refine⟨M,_,_,?_,bZ,O.left⟩
  simp only[MI,i,g];exact gEM
 exact gEE
def Rd(b e:Nat)(m:Msg)(hv pv:Value)(nm:Bool)(s:MS)(o:Ins)(av P:Value)(n:Nat)(K:Hl)(L:Ksl (aZ 9) K pv s.parts)(a:Ksl (aZ 9) K av o.a)(r:Ksl (aZ 9) K P o.b):
  Sp x3 155 [ptr b,o4 o av P,i64 n] K [mch b e m hv pv nm s] (MI b e m hv nm (.ok {s with keep:=false})):=by
 obtain⟨I,Q,q,rfl⟩:=a.isSlice;obtain⟨x,l,g,rfl⟩:=r.isSlice;refine bL func155 Y ntmps155 Y Y fun F w=>Z3 ?_;refine aCJ fun j=>Z2 ?_;refine yQ (aQ dQ (aQ cL bT)) (uZ fun av d f c=>Z7 ?_);refine aV (aQ cL (aQ cL (aQ cL (aQ cL bT)))) (d8 (j8 (m:=m) (hv:=hv) (pv:=pv) (nm:=nm) (s:={s with keep:=false})) (Z1 ?_));exact⟨_,Y,Y,pv,L,Y⟩
def QW(b j:Nat)(m:Msg)(hv pv:Value)(nm:Bool)(s:MS)(o:Ins)(av P:Value)(n:Nat)(K:Hl)(L:Ksl (aZ 9) K pv s.parts)(l:Ksl (aZ 9) K av o.a)(r:Ksl (aZ 9) K P o.b):
  Sp x3 141 [ptr b,o4 o av P,i64 n] K [mch b j m hv pv nm s] (MI b j m hv nm (if o.n=0\/o.n=1 then push s (decide (o.n=1))else .error (qH s.pc))):=by
 obtain⟨I,Q,v,rfl⟩:=l.isSlice;obtain⟨y,E,z,rfl⟩:=r.isSlice;refine bL func141 Y ntmps141 Y Y fun F w=>Z3 ?_;refine aCJ fun u=>Z3 ?_;refine yQ (aQ dQ (aQ cL bT)) (uZ fun av x f c=>Z6 ?_);refine bV 10 Y (fun t=>Z4 ?_) (fun t=>Z7 ?_)
 ·refine cH Y Y (C2 _ _) Y ?_;have B:o.n=0\/o.n=1:=.inl t;refine kG j8 (Z7 ?_);refine eC Y Y (nT b j m hv pv nm s (decide (o.n=1)) _) bQ Y (fun e p g d _ i=>?_) (fun q g=>?_)
  ·exact gG8
  exact gE0
 refine eC Y Y (rV (o.n=1) _ _ _ _ _ _ _ _ _ _ _ _ _) bQ Y (fun e p C d _ i=>?_) (fun u0 C=>?_)
 ·refine uAa ?_;refine Z2 ?_;have A:¬(o.n=1):=gB1;rw[x6 A]at C;cases C
  unfold MI;rw[x6 aH];exact gEM
 refine aCL ?_;have A:o.n=1:=xA3 (fun h=>by rw[x6 h]at C;cases C);have B:o.n=0\/o.n=1:=.inr A;refine kG j8 (Z7 ?_);refine eC Y Y (nT b j m hv pv nm s (decide (o.n=1)) _) bQ Y (fun e p g d _ i=>?_) (fun q g=>?_)
 ·exact gG8
 exact gE0
end
def Lh(b e:Nat)(m:Msg)(hv pv:Value)(nm:Bool)(s:MS)(av sv:Value)(f:Nat->Nat)(c:Nat)(v:Bool)(K:Hl):Sp x3 142 [ptr b,.bool v] K [mblk b (str m.from_) (str m.to_) (i64 m.size) hv av (.bool s.keep) (.bool nm) (.map (some e)) pv sv s.pc,sl true dI av s.acts,sl false d7 sv s.stack,pt e (mapO (lG s.vars f) c)] (jY (push s v) fun d r a L'=>r=.tuple #[]/\a=K/\L'=[mch b e m hv pv nm d]):=
 B1 (fun h y=>j8 h y) (nT b e m hv pv nm s v K)
abbrev Tp(o:Ins)(m:Msg):Bool:=decide (o.tag=1/\o.n<m.size\/o.tag=2/\m.size<o.n)
def lK(b e:Nat)(m:Msg)(hv pv:Value)(nm:Bool)(s:MS)(av sv:Value)(f:Nat->Nat)(c:Nat)(q:Bool)(o:Ins)(K:Hl)(g:q=Tp o m):Sp x3 142 [ptr b,.bool q] K [mblk b (str m.from_) (str m.to_) (i64 m.size) hv av (.bool s.keep) (.bool nm) (.map (some e)) pv sv s.pc,sl true dI av s.acts,sl false d7 sv s.stack,pt e (mapO (lG s.vars f) c)] (jY (push s (Tp o m)) fun d r a L'=>r=.tuple #[]/\a=K/\L'=[mch b e m hv pv nm d]):=by
 subst g;exact Lh b e m hv pv nm s av sv f c _ K
def Rc(b r:Nat)(m:Msg)(hv pv:Value)(nm:Bool)(s:MS)(o:Ins)(av P:Value)(n:Nat)(K:Hl)(L:Ksl (aZ 9) K pv s.parts)(z:Ksl (aZ 9) K av o.a)(E:Ksl (aZ 9) K P o.b):
  Sp x3 152 [ptr b,o4 o av P,i64 n] K [mch b r m hv pv nm s] (MI b r m hv nm (if o.tag=1\/o.tag=2 then push s (Tp o m)else .error (qH s.pc))):=by
 obtain⟨I,Q,H,rfl⟩:=z.isSlice;obtain⟨N,tn,W,rfl⟩:=E.isSlice;refine bL func152 Y ntmps152 Y Y fun F w=>Z3 ?_;refine aCJ fun G=>Z3 ?_;refine yQ (aQ dQ (aQ cL bT)) (uZ fun av t f c=>Z6 ?_);refine bV 10 Y (fun y=>Z4 ?_) (fun y=>Z7 ?_)
 ·refine cH Y Y (C2 _ _) Y ?_;have B:o.tag=1\/o.tag=2:=.inl y;refine Z2 ?_;refine cN [31] [31] mixed gAD (cM _) (Z5 ?_);refine eV 20 Y (fun v=>ZB ?_) (fun v=>ZF ?_)
  ·refine eV 31 Y (fun x=>ZF ?_) (fun x=>Z4 ?_)
   ·refine kO Y (.none Y) Y Y Y (lK b r m hv pv nm s av t f c _ o _ gA9) bQ Y (fun _ _=>eI _ _) ?_ ?_
    ·rintro _ _ _ a j;obtain⟨e,p,g,i,h,rfl⟩:=eJ a;cases h
     intro S u M O;refine⟨M,_,_,?_,bZ,O.left⟩
     exact gDQ
    exact gDC
   refine eV 35 Y (fun l=>ZB ?_) (fun l=>ZB ?_)
   ·refine kO Y (.none Y) Y Y Y (lK b r m hv pv nm s av t f c _ o _ gA9) bQ Y (fun _ _=>eI _ _) ?_ ?_
    ·rintro _ _ _ a j;obtain⟨e,p,g,i,h,rfl⟩:=eJ a;cases h
     intro S u M O;refine⟨M,_,_,?_,bZ,O.left⟩
     exact gDQ
    exact gDC
   refine kO Y (.none Y) Y Y Y (lK b r m hv pv nm s av t f c _ o _ gA9) bQ Y (fun _ _=>eI _ _) ?_ ?_
   ·rintro _ _ _ a j;obtain⟨e,p,g,i,h,rfl⟩:=eJ a;cases h
    intro S u M O;refine⟨M,_,_,?_,bZ,O.left⟩
    exact gDQ
   exact gDC
  refine eV 35 Y (fun l=>ZB ?_) (fun l=>ZB ?_)
  ·refine kO Y (.none Y) Y Y Y (lK b r m hv pv nm s av t f c _ o _ gA9) bQ Y (fun _ _=>eI _ _) ?_ ?_
   ·rintro _ _ _ a j;obtain⟨e,p,g,i,h,rfl⟩:=eJ a;cases h
    intro S u M O;refine⟨M,_,_,?_,bZ,O.left⟩
    exact gDQ
   exact gDC
  refine kO Y (.none Y) Y Y Y (lK b r m hv pv nm s av t f c _ o _ gA9) bQ Y (fun _ _=>eI _ _) ?_ ?_
  ·rintro _ _ _ a j;obtain⟨e,p,g,i,h,rfl⟩:=eJ a;cases h
   intro S u M O;refine⟨M,_,_,?_,bZ,O.left⟩
   exact gDQ
  exact gDC
 refine eC Y Y (rV (o.tag=2) _ _ _ _ _ _ _ _ _ _ _ _ _) bQ Y (fun e p C i _ j=>?_) (fun u0 C=>?_)
 ·refine uAa ?_;refine Z2 ?_;have A:¬(o.tag=2):=gB1;rw[x6 A]at C;cases C
  unfold MI;rw[x6 aH];exact gHI
 refine aCL ?_;have A:o.tag=2:=xA3 (fun h=>by rw[x6 h]at C;cases C);have B:o.tag=1\/o.tag=2:=.inr A;refine Z2 ?_;refine cN [31] [31] mixed gAD (cM _) (Z5 ?_);refine eV 20 Y (fun v=>ZB ?_) (fun v=>ZF ?_)
 ·refine eV 31 Y (fun x=>ZF ?_) (fun x=>Z4 ?_)
  ·refine kO Y (.none Y) Y Y Y (lK b r m hv pv nm s av t f c _ o _ gA9) bQ Y (fun _ _=>eI _ _) ?_ ?_
   ·rintro _ _ _ a j;obtain⟨e,p,g,i,h,rfl⟩:=eJ a;cases h
    intro S u M O;refine⟨M,_,_,?_,bZ,O.left⟩
    exact gDQ
   exact gDC
  refine eV 35 Y (fun l=>ZB ?_) (fun l=>ZB ?_)
  ·refine kO Y (.none Y) Y Y Y (lK b r m hv pv nm s av t f c _ o _ gA9) bQ Y (fun _ _=>eI _ _) ?_ ?_
   ·rintro _ _ _ a j;obtain⟨e,p,g,i,h,rfl⟩:=eJ a;cases h
    intro S u M O;refine⟨M,_,_,?_,bZ,O.left⟩
    exact gDQ
   exact gDC
  refine kO Y (.none Y) Y Y Y (lK b r m hv pv nm s av t f c _ o _ gA9) bQ Y (fun _ _=>eI _ _) ?_ ?_
  ·rintro _ _ _ a j;obtain⟨e,p,g,i,h,rfl⟩:=eJ a;cases h
   intro S u M O;refine⟨M,_,_,?_,bZ,O.left⟩
   exact gDQ
  exact gDC
 refine eV 35 Y (fun l=>ZB ?_) (fun l=>ZB ?_)
 ·refine kO Y (.none Y) Y Y Y (lK b r m hv pv nm s av t f c _ o _ gA9) bQ Y (fun _ _=>eI _ _) ?_ ?_
  ·rintro _ _ _ a j;obtain⟨e,p,g,i,h,rfl⟩:=eJ a;cases h
   intro S u M O;refine⟨M,_,_,?_,bZ,O.left⟩
   exact gDQ
  exact gDC
 refine kO Y (.none Y) Y Y Y (lK b r m hv pv nm s av t f c _ o _ gA9) bQ Y (fun _ _=>eI _ _) ?_ ?_
 ·rintro _ _ _ a j;obtain⟨e,p,g,i,h,rfl⟩:=eJ a;cases h
  intro S u M O;refine⟨M,_,_,?_,bZ,O.left⟩
  exact gDQ
 exact gDC
def xP{P:Program}{w:World}{T:TypeId}{xs:Array Value}{i:Nat}{v:Value}(I:fJ P T=true)(h:xs[i]?=some v):(part T xs i).run P w=.ok v w:=by
 obtain⟨a,b⟩:=p5 I w;unfold part;rw[bH a];simp[h]
def Rm(w:World)(a c:gI):(Op.equalIn 10000 34 (.agg #[i64 a.1,str a.2]) (.agg #[i64 c.1,str c.2])).run x3 w=.ok (decide (a=c)) w:=by
 have e:x3.fieldsOf 34= #[{name:= "Kind",type:=3,offset:=0,embedded:=false,tag:= "",pkgPath:= "",byteOffset:=0},{name:= "Arg",type:=9,offset:=1,embedded:=false,tag:= "",pkgPath:= "",byteOffset:=8}]:=by unfold Program.fieldsOf;rw[underlying34]
 rw[show (10000:Nat)=9999+1 from rfl,run_equalIn_agg w 9999 34 _ _ (by rw[e];exact underlying34) Tryz.stoodInHeld34,e];obtain⟨y,u⟩:=a;obtain⟨b,g⟩:=c;have z:=xP (P:=x3) (w:=w) (xs:= #[i64 y,str u]) (i:=0) (v:=i64 y) ts3 rfl;have F:=xP (P:=x3) (w:=w) (xs:= #[i64 b,str g]) (i:=0) (v:=i64 b) ts3 rfl;have p:=xP (P:=x3) (w:=w) (xs:= #[i64 y,str u]) (i:=1) (v:=str u) ts9 rfl;have f:=xP (P:=x3) (w:=w) (xs:= #[i64 b,str g]) (i:=1) (v:=str g) ts9 rfl;have j:(Op.equalIn 9999 3 (i64 y) (i64 b)).run x3 w=.ok (y==b) w:=run_equalIn_int (P:=x3) w 9998 3 .i64 .i64 y b xAM;have C:(Op.equalIn 9999 9 (str u) (str g)).run x3 w=.ok (decide (u=g)) w:=by
  have:=run_equalIn_string (P:=x3) w 9998 9 ⟨u.toArray⟩ ⟨g.toArray⟩ x9;rw[<-beq_toListBytes,Mn]at this;exact this
 simp only[Op.eqFields];rw[x7 dD,bH z,bH F,bH j]
 by_cases h:y=b
 ·subst h;rw[x6 cD,x7 dD,bH p,bH f,bH C]
  by_cases d:u=g
  ·subst d;simp[pure,Sem.run]
  simp[d,pure,Sem.run]
 rw[x7 (by simp[h])];simp[h,pure,Sem.run]
def Fs{n:Nat}{ds:List Deferred}{q:World}{F:Hl}{b:Fr}{K:Hl}{L:List Asn}{dst:Option Tmp}{ty t':TypeId}{pos:String}{aft:Array Edge}{g:Option (Nat×Bool)}{x y:Operand}{a c:gI}(d:b.ev x=some (.agg #[i64 a.1,str a.2]))(t:b.ev y=some (.agg #[i64 c.1,str c.2])):
  Ev ⟨x3,n,ds,q,F⟩ b K L ⟨dst,.binOp .eql 34 x y t',ty,pos,aft,g⟩ (.bool (decide (a=c))):=
 iY d t (fun w=>run_eqGuard_agg w _ _ _ _ _ _ Tryz.eqGuardType34) fun w=>by
  rw[run_eql_struct,Rm];rfl
def HF(av:Value)(l:List gI)(a:gI)(K:Hl)(g:l.length<=100):Sp x3 310 [av,.agg #[i64 a.1,str a.2]] K [sl true dI av l] (Ret fun v f L'=>∃i:Int,v=i64 i/\(0<=i↔a∈l)/\f=K/\L'=[sl true dI av l]):=by
 refine bL func310 Y ntmps310 Y Y fun F w=>Z3 ?_;refine aCJ fun N=>Z7 ?_;refine aA (bU (k:=dI) Y xAY Y aL) Y (Z4 ?_);refine eD (fun(i:Nat)=>i<=l.length/\a∉l.take i) (fun i=>[(0,av),(3,ptr N),(7,i64 l.length),(8,i64 i)]) (fun _=>_) (fun i=>[pt N (bK [i64 a.1,str a.2] 34),sl true dI av l]) (fun i=>l.length-i) 0 ⟨xAA _,cD⟩ bM Y a7 ?_;intro i ⟨O,G⟩;refine Z6 ?_;refine aX 9 Y (fun j=>?_) (fun j=>?_)
 ·have M:i<l.length:=aH;obtain⟨x,e⟩:∃x,l[i]?=some x:=⟨l[i]'M,x4 M⟩;refine ZB ?_;refine cN [] [] mixed gAD (cM _) (Z3 ?_);refine aJ Y Y (.none Y) Y Y (aW (k:=dI) jG Y aL Y Y gAJ) Y ?_;refine aJ Y Y (.none Y) Y Y (fH (n:=0) (k:=dI) lY Y aL bZ) Y ?_;refine aJ Y Y (.none Y) Y Y (Fs (a:=a) (c:=x) Y Y) Y (Z2 ?_);refine aX 16 Y (fun L=>?_) (fun L=>?_)
  ·refine ZC ?_;refine aV (aQ dQ bT) (Z1 ?_);exact⟨_,Y,i,Y,⟨fun _=>by rw[L];exact x8 e,fun _=>by omega⟩,Y,Y⟩
  refine Z7 ?_;refine cX (i+1) ⟨aH,?_⟩ aH bM Y a7
  have d:l[i]'M=x:=by simpa[List.getElem?_eq_getElem M]using e
  rw[xAK M,d];intro B;rcases xA5.1 B with h|h
  ·exact G h
  simp at h;exact L h
 have b:a∉l:=(by rw[xAJ aH]at G;exact G);refine ZB ?_;refine aV (aQ dQ bT) (Z1 ?_);exact⟨_,Y,-1,Y,⟨fun h=>by omega,fun h=>absurd h b⟩,Y,Y⟩
def u6(av:Value)(l:List gI)(a:gI)(K:Hl)(c:l.length<=100):Sp x3 257 [av,.agg #[i64 a.1,str a.2]] K [sl true dI av l] (Ret fun v b L'=>v=.bool (decide (a∈l))/\b=K/\L'=[sl true dI av l]):=by
 refine bL func257 Y ntmps257 Y Y fun F w=>Z3 ?_;refine aCJ fun N=>Z7 ?_;refine bA Y Y (HF av l a _ c) bQ Y ?_;rintro _ K _ ⟨i,rfl,p,rfl,rfl⟩ -;refine Z5 ?_;refine uAa ?_;refine Z1 ?_;have e:decide (0<=i)=decide (a∈l):=decide_eq_decide.2 p;rw[e];exact gDF
section
variable{nm:Bool}{o:Ins}{s:MS}
def actC(o:Ins)(s:MS)(a:gI):Res MS:=
 if a∈s.acts then .ok {s with keep:=false}
 else if (∃b∈s.acts,a.1=4\/b.1=4)then .error (10,o.at_)
 else if s.acts.length=6 then .error (11,o.at_)
 else .ok {s with keep:=false,acts:=s.acts++[a]}
def actB(o:Ins)(s:MS)(arg:List UInt8):Res MS:=
 if o.tag=2/\rL arg=false then .error (8,o.at_)
 else if o.tag=3/\e8 arg=false then .error (9,o.at_)
 else actC o s (Mach.actV o arg)
def Uo(h:o.tag=1\/(2<=o.tag/\o.tag<=4/\o.a≠[])):actI nm o s=actB o s (actA nm o s):=by
 unfold actI;rw[x7 h];rfl
def Up(h:¬(o.tag=1\/(2<=o.tag/\o.tag<=4/\o.a≠[]))):actI nm o s=.error (12,s.pc):=by
 unfold actI;rw[x6 h];rfl
def CO(h:¬(o.tag=1\/(2<=o.tag/\o.tag<=4/\0<o.a.length))):actI nm o s=.error (12,s.pc):=
 Up fun e=>h (e.imp_right fun⟨a,b,c⟩=>⟨a,b,List.length_pos_iff.2 c⟩)
def zQ(h:o.tag=1\/(2<=o.tag/\o.tag<=4/\0<o.a.length)):actI nm o s=actB o s (actA nm o s):=Uo (h.imp_right fun⟨a,b,c⟩=>⟨a,b,List.length_pos_iff.1 c⟩)
def Qn(h:o.tag=1):actA nm o s=[]:=by unfold actA;rw[x7 h]
def Qo{x:List UInt8}(h:¬o.tag=1)(a:o.a[0]?=some x):actA nm o s=cY nm s.vars s.parts x:=by unfold actA;rw[x6 h,a];rfl
def Nl(b C:Nat)(m:Msg)(hv pv:Value)(nm:Bool)(s:MS)(o:Ins)(jk bv:Value)(n:Int)(K:Hl)(hg:Glob K)(L:Ksl (aZ 9) K pv s.parts)(ha:Ksl (aZ 9) K jk o.a)(hb:Ksl (aZ 9) K bv o.b)(hs:∀x∈o.a,x.length<=100000)(jr:oX s.vars s.parts)(hl:s.acts.length<=6)
  (G:∀(x:List UInt8) (K:Hl),Glob K->x.length<=100000->Sp x3 256 [str x] K [] (Val (.bool (e8 x)) K)):
  Sp x3 153 [ptr b,o4 o jk bv,i64 n] K [mch b C m hv pv nm s] (MI b C m hv nm (actI nm o s)):=by
 obtain⟨sa,sn,sc,rfl⟩:=ha.isSlice;obtain⟨ta,tn,tc,rfl⟩:=hb.isSlice;refine bL func153 Y ntmps153 Y Y fun F w=>uZ fun B P f c=>Z3 ?_;refine aCJ fun N=>Z9 ?_;refine bV 13 Y (fun jp=>ZF ?_) (fun jp=>Z8 ?_)
 ·refine cH Y Y (C2 _ _) Y ?_;have je:o.tag=1\/(2<=o.tag/\o.tag<=4/\0<o.a.length):=.inl jp;refine Si (aQ dQ (aQ cL bT)) (Z6 ?_);refine aA (dA EP yR cW) Y (Z1 ?_);refine aCJ fun H=>cA (cQ lY Y Y Y bP gAF (.cons (.cons .nil)) gC6) ?_;refine aCK (Z2 ?_);refine dU (fun(u:List UInt8)=>u.length<=100000/\actI nm o s=actB o s u) (fun u=>[(0,ptr b),(4,ptr N),(6,ptr H)]) (fun _=>K) (fun u=>[pt H (bK [i64 o.tag,str u] 34),mblk b (str m.from_) (str m.to_) (i64 m.size) hv B (.bool s.keep) (.bool nm) (.map (some C)) pv P s.pc,sl true dI B s.acts,sl false d7 P s.stack,pt C (mapO (lG s.vars f) c),pt N (bK [i64 o.op,i64 o.n,i64 o.tag,.bool o.oct,.slice sa sn sc,.slice ta tn tc,i64 o.at_] 41)]) ?_ ?_
  ·refine Z7 ?_;refine aX 35 Y (fun E=>?_) (fun E=>?_)
   ·obtain⟨xa,O⟩:∃x,o.a[0]?=some x:=⟨o.a[0]'(by omega),x4 aH⟩;refine Z4 ?_;refine aA (aW (k:=aZ 9) (j:=0) b0 Y (.known ha) Y Y aH) Y (uAe ?_);refine bA Y Y (sH b C _ _ _ _ _ _ pv _ _ nm s.vars f c s.parts xa _ hg L (hs xa (x8 O)) jr) bQ Y ?_;refine aCL (Z3 ?_)
    (refine aV (aQ jS (aQ cL (aQ jS (aQ jS (aQ cL (aQ cL bT)))))) ?_;exact cB _ ⟨iP (hs xa (x8 O)),by rw[zQ je,Qo E O]⟩ bM Y a7)
   refine aU ?_
   (refine aV (aQ cL (aQ cL (aQ dQ (aQ dQ (aQ dQ (aQ cL bT)))))) ?_;exact cB [] ⟨cD,by rw[zQ je,Qn (xBH.1 E)]⟩ bM Y a7)
  intro u ⟨ji,d⟩;refine dU (fun(a:gI)=>actI nm o s=actC o s a) (fun _=>[(0,ptr b),(4,ptr N),(6,ptr H)]) (fun _=>K) (fun a=>[pt H (bK [i64 a.1,str a.2] 34),mblk b (str m.from_) (str m.to_) (i64 m.size) hv B (.bool s.keep) (.bool nm) (.map (some C)) pv P s.pc,sl true dI B s.acts,sl false d7 P s.stack,pt C (mapO (lG s.vars f) c),pt N (bK [i64 o.op,i64 o.n,i64 o.tag,.bool o.oct,.slice sa sn sc,.slice ta tn tc,i64 o.at_] 41)]) ?_ ?_
  ·refine Z7 ?_;refine bV 47 Y (fun ja=>Z5 ?_) (fun ja=>ZF ?_)
   ·refine cH Y Y (CV u _ aH) Y (Z1 ?_);refine aA gAB Y (Z4 ?_);refine dZ 43 Y (fun q=>?_) (fun q=>?_)
    ·have W:actB o s u=.error (8,o.at_):=(by unfold actB;rw[x7 ⟨ja,by simpa using q⟩]);refine Z4 ?_;refine dB Y Y (lX _ 8 o.at_ _) .nil Y gAE ?_ ?_
     ·rintro _ _ _ ⟨r,h,rfl⟩ t;cases h
      exact gDT
     exact gDD
    refine Z6 ?_;refine bV 61 Y (fun A=>Z5 ?_) (fun A=>ZH ?_)
    ·refine cH Y Y (G u _ hg ji) Y (Z1 ?_);refine aA gAB Y (Z4 ?_);refine dZ 57 Y (fun l=>?_) (fun l=>?_)
     ·have W:actB o s u=.error (9,o.at_):=gBS;refine Z4 ?_;refine dB Y Y (lX _ 9 o.at_ _) .nil Y gAE ?_ ?_
      ·rintro _ _ _ ⟨r,h,rfl⟩ t;cases h
       exact gDT
      exact gDD
     refine Z8 ?_;refine aX 71 Y (fun z=>Z7 ?_) (fun z=>Z2 ?_)
     ·refine aA (gC (n:=min u.length 48) x9 Y Y gBN aH) Y (Z4 ?_);have W:actB o s u=actC o s (Mach.actV o u):=gAC
      (exact cB (o.tag,u.take (min u.length 48)) gA8 bM Y a7)
     have W:actB o s u=actC o s (Mach.actV o u):=gAC
     (exact cB (o.tag,u) gBC bM Y a7)
    refine aX 71 Y (fun z=>Z7 ?_) (fun z=>Z2 ?_)
    ·refine aA (gC (n:=min u.length 48) x9 Y Y gBN aH) Y (Z4 ?_);have W:actB o s u=actC o s (Mach.actV o u):=gAC
     (exact cB (o.tag,u.take (min u.length 48)) gA8 bM Y a7)
    have W:actB o s u=actC o s (Mach.actV o u):=gAC
    (exact cB (o.tag,u) gBC bM Y a7)
   refine bV 61 Y (fun A=>Z5 ?_) (fun A=>ZH ?_)
   ·refine cH Y Y (G u _ hg ji) Y (Z1 ?_);refine aA gAB Y (Z4 ?_);refine dZ 57 Y (fun l=>?_) (fun l=>?_)
    ·have W:actB o s u=.error (9,o.at_):=gBS;refine Z4 ?_;refine dB Y Y (lX _ 9 o.at_ _) .nil Y gAE ?_ ?_
     ·rintro _ _ _ ⟨r,h,rfl⟩ t;cases h
      exact gDT
     exact gDD
    refine Z8 ?_;refine aX 71 Y (fun z=>Z7 ?_) (fun z=>Z2 ?_)
    ·refine aA (gC (n:=min u.length 48) x9 Y Y gBN aH) Y (Z4 ?_);have W:actB o s u=actC o s (Mach.actV o u):=gAC
     (exact cB (o.tag,u.take (min u.length 48)) gA8 bM Y a7)
    have W:actB o s u=actC o s (Mach.actV o u):=gAC
    (exact cB (o.tag,u) gBC bM Y a7)
   refine aX 71 Y (fun z=>Z7 ?_) (fun z=>Z2 ?_)
   ·refine aA (gC (n:=min u.length 48) x9 Y Y gBN aH) Y (Z4 ?_);have W:actB o s u=actC o s (Mach.actV o u):=gAC
    (exact cB (o.tag,u.take (min u.length 48)) gA8 bM Y a7)
   have W:actB o s u=actC o s (Mach.actV o u):=gAC
   (exact cB (o.tag,u) gBC bM Y a7)
  intro a d;refine ZB ?_;refine cN [6] [6] mixed gAD (cM _) (Z6 ?_);refine eR Y (.none Y) Y Y Y (u6 B s.acts a _ aH) bQ Y ?_;refine aCL (Z2 ?_);refine aX 93 Y (fun v=>?_) (fun v=>ZA ?_)
  ·refine Z2 ?_
   (refine aV (aQ jS (aQ cL (aQ dQ (aQ dQ bT)))) ?_;refine d8 (j8 (m:=m) (hv:=hv) (pv:=pv) (nm:=nm) (s:={s with keep:=false})) ?_)
   refine jJ Y (xAB _) ?_;unfold MI;rw[d];unfold actC
   (rw[x7 v];exact⟨_,Y,Y,pv,L,Y⟩)
  refine aA (bU (k:=dI) Y xAY Y aL) Y (Z4 ?_);refine eD (fun(i:Nat)=>i<=s.acts.length/\∀(j:Nat) (x:gI),j<i->s.acts[j]?=some x->¬(a.1=4\/x.1=4)) (fun i=>[(0,ptr b),(4,ptr N),(6,ptr H),(98,B),(99,i64 s.acts.length),(100,i64 i)]) (fun _=>K) (fun i=>[sl true dI B s.acts,pt H (bK [i64 a.1,str a.2] 34),mblk b (str m.from_) (str m.to_) (i64 m.size) hv B (.bool false) (.bool nm) (.map (some C)) pv P s.pc,sl false d7 P s.stack,pt C (mapO (lG s.vars f) c),pt N (bK [i64 o.op,i64 o.n,i64 o.tag,.bool o.oct,.slice sa sn sc,.slice ta tn tc,i64 o.at_] 41)]) (fun i=>s.acts.length-i) 0 ⟨xAA _,fun j x h _=>by omega⟩ bM Y a7 ?_;intro i ⟨jv,jf⟩;refine Z6 ?_;refine aX 101 Y (fun jb=>?_) (fun jb=>?_)
  ·have M:i<s.acts.length:=aH;obtain⟨x,hx⟩:∃x,s.acts[i]?=some x:=⟨s.acts[i]'M,x4 M⟩;refine Z6 ?_;refine aA (aW (k:=dI) jG Y aL Y Y gAJ) Y ?_;refine aA (fH (n:=0) (k:=dI) lY Y aL bZ) Y (Z1 ?_);refine aCJ fun b8=>cA (cQ lY Y Y Y bP gAF (.cons (.cons .nil)) gC6) ?_;refine aCK (Z8 ?_);refine bV 107 Y (fun Q=>?_) (fun Q=>?_)
   ·refine ZB ?_;refine dB Y Y (lX _ 10 o.at_ _) .nil Y gAE ?_ ?_
    ·rintro _ _ _ ⟨r,h,rfl⟩ t;cases h
     refine uAa ?_;refine Z6 ?_;have S:∃b∈s.acts,a.1=4\/b.1=4:=⟨x,x8 hx,aH⟩;unfold MI;rw[d];unfold actC;rw[x6 v,x7 S]
     exact gG2
    exact gDD
   refine Z9 ?_;refine aX 111 Y (fun jc=>Z4 ?_) (fun jc=>Z7 ?_)
   ·refine dB Y Y (lX _ 10 o.at_ _) .nil Y gAE ?_ ?_
    ·rintro _ _ _ ⟨r,h,rfl⟩ t;cases h
     refine uAa ?_;refine Z6 ?_;have S:∃b∈s.acts,a.1=4\/b.1=4:=⟨x,x8 hx,aH⟩;unfold MI;rw[d];unfold actC;rw[x6 v,x7 S]
     exact gG2
    exact gDD
   refine aV (aQ dQ (aQ dQ (aQ dQ (aQ dQ (aQ dQ (aQ dQ bT)))))) ?_;refine cX (i+1) ⟨aH,fun j y I hy=>?_⟩ aH bM Y a7
   rcases xAD j i with h|h
   ·exact jf j y h hy
   exact gHH
  have jg:¬ ∃b∈s.acts,a.1=4\/b.1=4:=(by rintro⟨x,hx,hh⟩;obtain⟨j,I⟩:=xA4 hx;exact jf j x (by rcases xAD j s.acts.length with h|h;omega;(rw[xAH h]at I;cases I)) I hh);refine ZD ?_;refine aA (bU (k:=dI) Y xAY Y aL) Y (Z3 ?_);refine aX 123 Y (fun jd=>?_) (fun jd=>?_)
  ·refine Z4 ?_;refine dB Y Y (lX _ 11 o.at_ _) .nil Y gAE ?_ ?_
   ·rintro _ _ _ ⟨r,h,rfl⟩ t;cases h
    refine uAa ?_;refine Z2 ?_;unfold MI;rw[d];unfold actC;rw[x6 v,x6 jg,x7 aH]
    exact gG2
   exact gDD
  refine Z2 ?_;refine cN [7,8,12] [12] mixed gAD (aQ dQ (aQ dQ bT)) (Z7 ?_);refine s6 Y Y (.none Y) Y Y (bJ (z0:=[.int .i64 0,(str [])]) jG E1 Y Y Y Y cW) Y ?_;refine aCJ fun jl=>?_;refine⟨_,(show Tks _ _ _ from (aQ dQ (aQ dQ bT))).sat,?_⟩
  refine s6 Y Y (.none Y) Y Y (dJ (k:=dI) (ys:=[a]) m9 Y Y (.there (.there (.there .here))) (fun w j=>dC xAY (SeesSl.at (k:=dI) (.blk aL Y Y) j)) gAG gAH) Y ?_;rintro js K _ ⟨rfl,rfl,jj⟩ -;refine⟨_,(show Tks _ _ _ from (aQ dQ (aQ dQ bT))).sat,?_⟩
  refine Z3 ?_;refine l7 Y Y (.none Y) Y (bW kX Y Y cR bP aZe Y) ?_;rintro _ K _ ⟨rfl,rfl⟩ -;refine cI ?_
  (refine aV (aQ dQ (aQ dQ (aQ jS (aQ jS bT)))) ?_;refine d8 (j8 (m:=m) (hv:=hv) (pv:=pv) (nm:=nm) (s:={s with keep:=false,acts:=s.acts++[a]})) ?_)
  refine Z1 ?_;unfold MI;rw[d];unfold actC
  (rw[x6 v,x6 jg,x6 aH];exact⟨_,Y,Y,pv,L,Y⟩)
 refine bV 17 Y (fun jt=>ZA ?_) (fun jt=>?_)
 ·refine bV 22 Y (fun ju=>Z5 ?_) (fun ju=>?_)
  ·refine uAb ?_;refine Z5 ?_;refine eC Y Y (rV (0<(o.a.length:Int)) _ _ _ _ _ _ _ _ _ _ _ _ _) bQ Y (fun e p hu r _ t=>?_) (fun u0 hu=>?_)
   ·refine uAa ?_;refine Z2 ?_;have jq:¬(0<(o.a.length:Int)):=gC8;rw[x6 jq]at hu;cases hu
    have jh:=CO (nm:=nm) (s:=s) (o:=o) aH;unfold MI;rw[jh];exact gG2
   refine aCL ?_;have jq:0<(o.a.length:Int):=xA3 (fun h=>by rw[x6 h]at hu;cases hu);have je:o.tag=1\/(2<=o.tag/\o.tag<=4/\0<o.a.length):=.inr ⟨aH,aH,aH⟩;refine Z6 ?_;refine aA (dA EP yR cW) Y (Z1 ?_);refine aCJ fun H=>cA (cQ lY Y Y Y bP gAF (.cons (.cons .nil)) gC6) ?_;refine aCK (Z2 ?_);refine dU (fun(u:List UInt8)=>u.length<=100000/\actI nm o s=actB o s u) (fun u=>[(0,ptr b),(4,ptr N),(6,ptr H)]) (fun _=>K) (fun u=>[pt H (bK [i64 o.tag,str u] 34),mblk b (str m.from_) (str m.to_) (i64 m.size) hv B (.bool s.keep) (.bool nm) (.map (some C)) pv P s.pc,sl true dI B s.acts,sl false d7 P s.stack,pt C (mapO (lG s.vars f) c),pt N (bK [i64 o.op,i64 o.n,i64 o.tag,.bool o.oct,.slice sa sn sc,.slice ta tn tc,i64 o.at_] 41)]) ?_ ?_
   ·refine Z7 ?_;refine aX 35 Y (fun E=>?_) (fun E=>?_)
    ·obtain⟨xa,O⟩:∃x,o.a[0]?=some x:=⟨o.a[0]'(by omega),x4 aH⟩;refine Z4 ?_;refine aA (aW (k:=aZ 9) (j:=0) b0 Y (.known ha) Y Y aH) Y (uAe ?_);refine bA Y Y (sH b C _ _ _ _ _ _ pv _ _ nm s.vars f c s.parts xa _ hg L (hs xa (x8 O)) jr) bQ Y ?_;refine aCL (Z3 ?_)
     (refine aV (aQ jS (aQ cL (aQ jS (aQ jS (aQ cL (aQ cL bT)))))) ?_;exact cB _ ⟨iP (hs xa (x8 O)),by rw[zQ je,Qo E O]⟩ bM Y a7)
    refine aU ?_
    (refine aV (aQ cL (aQ cL (aQ dQ (aQ dQ (aQ dQ (aQ cL bT)))))) ?_;exact cB [] ⟨cD,by rw[zQ je,Qn (xBH.1 E)]⟩ bM Y a7)
   intro u ⟨ji,d⟩;refine dU (fun(a:gI)=>actI nm o s=actC o s a) (fun _=>[(0,ptr b),(4,ptr N),(6,ptr H)]) (fun _=>K) (fun a=>[pt H (bK [i64 a.1,str a.2] 34),mblk b (str m.from_) (str m.to_) (i64 m.size) hv B (.bool s.keep) (.bool nm) (.map (some C)) pv P s.pc,sl true dI B s.acts,sl false d7 P s.stack,pt C (mapO (lG s.vars f) c),pt N (bK [i64 o.op,i64 o.n,i64 o.tag,.bool o.oct,.slice sa sn sc,.slice ta tn tc,i64 o.at_] 41)]) ?_ ?_
   ·refine Z7 ?_;refine bV 47 Y (fun ja=>Z5 ?_) (fun ja=>ZF ?_)
    ·refine cH Y Y (CV u _ aH) Y (Z1 ?_);refine aA gAB Y (Z4 ?_);refine dZ 43 Y (fun q=>?_) (fun q=>?_)
     ·have W:actB o s u=.error (8,o.at_):=(by unfold actB;rw[x7 ⟨ja,by simpa using q⟩]);refine Z4 ?_;refine dB Y Y (lX _ 8 o.at_ _) .nil Y gAE ?_ ?_
      ·rintro _ _ _ ⟨r,h,rfl⟩ t;cases h
       exact gDT
      exact gDD
     refine Z6 ?_;refine bV 61 Y (fun A=>Z5 ?_) (fun A=>ZH ?_)
     ·refine cH Y Y (G u _ hg ji) Y (Z1 ?_);refine aA gAB Y (Z4 ?_);refine dZ 57 Y (fun l=>?_) (fun l=>?_)
      ·have W:actB o s u=.error (9,o.at_):=gBS;refine Z4 ?_;refine dB Y Y (lX _ 9 o.at_ _) .nil Y gAE ?_ ?_
       ·rintro _ _ _ ⟨r,h,rfl⟩ t;cases h
        exact gDT
       exact gDD
      refine Z8 ?_;refine aX 71 Y (fun z=>Z7 ?_) (fun z=>Z2 ?_)
      ·refine aA (gC (n:=min u.length 48) x9 Y Y gBN aH) Y (Z4 ?_);have W:actB o s u=actC o s (Mach.actV o u):=gAC
       (exact cB (o.tag,u.take (min u.length 48)) gA8 bM Y a7)
      have W:actB o s u=actC o s (Mach.actV o u):=gAC
      (exact cB (o.tag,u) gBC bM Y a7)
     refine aX 71 Y (fun z=>Z7 ?_) (fun z=>Z2 ?_)
     ·refine aA (gC (n:=min u.length 48) x9 Y Y gBN aH) Y (Z4 ?_);have W:actB o s u=actC o s (Mach.actV o u):=gAC
      (exact cB (o.tag,u.take (min u.length 48)) gA8 bM Y a7)
     have W:actB o s u=actC o s (Mach.actV o u):=gAC
     (exact cB (o.tag,u) gBC bM Y a7)
    refine bV 61 Y (fun A=>Z5 ?_) (fun A=>ZH ?_)
    ·refine cH Y Y (G u _ hg ji) Y (Z1 ?_);refine aA gAB Y (Z4 ?_);refine dZ 57 Y (fun l=>?_) (fun l=>?_)
     ·have W:actB o s u=.error (9,o.at_):=gBS;refine Z4 ?_;refine dB Y Y (lX _ 9 o.at_ _) .nil Y gAE ?_ ?_
      ·rintro _ _ _ ⟨r,h,rfl⟩ t;cases h
       exact gDT
      exact gDD
     refine Z8 ?_;refine aX 71 Y (fun z=>Z7 ?_) (fun z=>Z2 ?_)
     ·refine aA (gC (n:=min u.length 48) x9 Y Y gBN aH) Y (Z4 ?_);have W:actB o s u=actC o s (Mach.actV o u):=gAC
      (exact cB (o.tag,u.take (min u.length 48)) gA8 bM Y a7)
     have W:actB o s u=actC o s (Mach.actV o u):=gAC
     (exact cB (o.tag,u) gBC bM Y a7)
    refine aX 71 Y (fun z=>Z7 ?_) (fun z=>Z2 ?_)
    ·refine aA (gC (n:=min u.length 48) x9 Y Y gBN aH) Y (Z4 ?_);have W:actB o s u=actC o s (Mach.actV o u):=gAC
     (exact cB (o.tag,u.take (min u.length 48)) gA8 bM Y a7)
    have W:actB o s u=actC o s (Mach.actV o u):=gAC
    (exact cB (o.tag,u) gBC bM Y a7)
   intro a d;refine ZB ?_;refine cN [6] [6] mixed gAD (cM _) (Z6 ?_);refine eR Y (.none Y) Y Y Y (u6 B s.acts a _ aH) bQ Y ?_;refine aCL (Z2 ?_);refine aX 93 Y (fun v=>?_) (fun v=>ZA ?_)
   ·refine Z2 ?_
    (refine aV (aQ jS (aQ cL (aQ dQ (aQ dQ bT)))) ?_;refine d8 (j8 (m:=m) (hv:=hv) (pv:=pv) (nm:=nm) (s:={s with keep:=false})) ?_)
    refine jJ Y (xAB _) ?_;unfold MI;rw[d];unfold actC
    (rw[x7 v];exact⟨_,Y,Y,pv,L,Y⟩)
   refine aA (bU (k:=dI) Y xAY Y aL) Y (Z4 ?_);refine eD (fun(i:Nat)=>i<=s.acts.length/\∀(j:Nat) (x:gI),j<i->s.acts[j]?=some x->¬(a.1=4\/x.1=4)) (fun i=>[(0,ptr b),(4,ptr N),(6,ptr H),(98,B),(99,i64 s.acts.length),(100,i64 i)]) (fun _=>K) (fun i=>[sl true dI B s.acts,pt H (bK [i64 a.1,str a.2] 34),mblk b (str m.from_) (str m.to_) (i64 m.size) hv B (.bool false) (.bool nm) (.map (some C)) pv P s.pc,sl false d7 P s.stack,pt C (mapO (lG s.vars f) c),pt N (bK [i64 o.op,i64 o.n,i64 o.tag,.bool o.oct,.slice sa sn sc,.slice ta tn tc,i64 o.at_] 41)]) (fun i=>s.acts.length-i) 0 ⟨xAA _,fun j x h _=>by omega⟩ bM Y a7 ?_;intro i ⟨jv,jf⟩;refine Z6 ?_;refine aX 101 Y (fun jb=>?_) (fun jb=>?_)
   ·have M:i<s.acts.length:=aH;obtain⟨x,hx⟩:∃x,s.acts[i]?=some x:=⟨s.acts[i]'M,x4 M⟩;refine Z6 ?_;refine aA (aW (k:=dI) jG Y aL Y Y gAJ) Y ?_;refine aA (fH (n:=0) (k:=dI) lY Y aL bZ) Y (Z1 ?_);refine aCJ fun b8=>cA (cQ lY Y Y Y bP gAF (.cons (.cons .nil)) gC6) ?_;refine aCK (Z8 ?_);refine bV 107 Y (fun Q=>?_) (fun Q=>?_)
    ·refine ZB ?_;refine dB Y Y (lX _ 10 o.at_ _) .nil Y gAE ?_ ?_
     ·rintro _ _ _ ⟨r,h,rfl⟩ t;cases h
      refine uAa ?_;refine Z6 ?_;have S:∃b∈s.acts,a.1=4\/b.1=4:=⟨x,x8 hx,aH⟩;unfold MI;rw[d];unfold actC;rw[x6 v,x7 S]
      exact gG2
     exact gDD
    refine Z9 ?_;refine aX 111 Y (fun jc=>Z4 ?_) (fun jc=>Z7 ?_)
    ·refine dB Y Y (lX _ 10 o.at_ _) .nil Y gAE ?_ ?_
     ·rintro _ _ _ ⟨r,h,rfl⟩ t;cases h
      refine uAa ?_;refine Z6 ?_;have S:∃b∈s.acts,a.1=4\/b.1=4:=⟨x,x8 hx,aH⟩;unfold MI;rw[d];unfold actC;rw[x6 v,x7 S]
      exact gG2
     exact gDD
    refine aV (aQ dQ (aQ dQ (aQ dQ (aQ dQ (aQ dQ (aQ dQ bT)))))) ?_;refine cX (i+1) ⟨aH,fun j y I hy=>?_⟩ aH bM Y a7
    rcases xAD j i with h|h
    ·exact jf j y h hy
    exact gHH
   have jg:¬ ∃b∈s.acts,a.1=4\/b.1=4:=(by rintro⟨x,hx,hh⟩;obtain⟨j,I⟩:=xA4 hx;exact jf j x (by rcases xAD j s.acts.length with h|h;omega;(rw[xAH h]at I;cases I)) I hh);refine ZD ?_;refine aA (bU (k:=dI) Y xAY Y aL) Y (Z3 ?_);refine aX 123 Y (fun jd=>?_) (fun jd=>?_)
   ·refine Z4 ?_;refine dB Y Y (lX _ 11 o.at_ _) .nil Y gAE ?_ ?_
    ·rintro _ _ _ ⟨r,h,rfl⟩ t;cases h
     refine uAa ?_;refine Z2 ?_;unfold MI;rw[d];unfold actC;rw[x6 v,x6 jg,x7 aH]
     exact gG2
    exact gDD
   refine Z2 ?_;refine cN [7,8,12] [12] mixed gAD (aQ dQ (aQ dQ bT)) (Z7 ?_);refine s6 Y Y (.none Y) Y Y (bJ (z0:=[.int .i64 0,(str [])]) jG E1 Y Y Y Y cW) Y ?_;refine aCJ fun jl=>?_;refine⟨_,(show Tks _ _ _ from (aQ dQ (aQ dQ bT))).sat,?_⟩
   refine s6 Y Y (.none Y) Y Y (dJ (k:=dI) (ys:=[a]) m9 Y Y (.there (.there (.there .here))) (fun w j=>dC xAY (SeesSl.at (k:=dI) (.blk aL Y Y) j)) gAG gAH) Y ?_;rintro js K _ ⟨rfl,rfl,jj⟩ -;refine⟨_,(show Tks _ _ _ from (aQ dQ (aQ dQ bT))).sat,?_⟩
   refine Z3 ?_;refine l7 Y Y (.none Y) Y (bW kX Y Y cR bP aZe Y) ?_;rintro _ K _ ⟨rfl,rfl⟩ -;refine cI ?_
   (refine aV (aQ dQ (aQ dQ (aQ jS (aQ jS bT)))) ?_;refine d8 (j8 (m:=m) (hv:=hv) (pv:=pv) (nm:=nm) (s:={s with keep:=false,acts:=s.acts++[a]})) ?_)
   refine Z1 ?_;unfold MI;rw[d];unfold actC
   (rw[x6 v,x6 jg,x6 aH];exact⟨_,Y,Y,pv,L,Y⟩)
  have jh:=CO (nm:=nm) (s:=s) (o:=o) aH;refine Z7 ?_;refine dB Y Y (sM _ _ _ _ _ _ _ _ _ _ _ _ _) bQ Y gAE ?_ ?_
  ·rintro _ _ _ ⟨r,h,rfl⟩ t;cases h
   exact gHO
  exact gDD
 have jh:=CO (nm:=nm) (s:=s) (o:=o) aH;refine ZE ?_;refine dB Y Y (sM _ _ _ _ _ _ _ _ _ _ _ _ _) bQ Y gAE ?_ ?_
 ·rintro _ _ _ ⟨r,h,rfl⟩ t;cases h
  exact gHO
 exact gDD
end
end Go.Proofs
end
section
namespace Go.Proofs
open Go Go.SL Go.Syn Go.Mach Tryz
open R (Yl)
def hdEl:El (List UInt8×List UInt8):={e:=25,sz:=2,enc:=fun a=>[str a.1,str a.2],len:=fun _=>rfl,one:=fun _ u h=>by simp at h;rcases h with rfl|rfl<;>rfl}
def pE:∀(As:List Asn) (B:Asn),Tks As (B::As) [B]
 | [],_=>.nil
 |_::As,B=>.cons (.there .here) (pE As B)
def BC:∀(As M:List Asn),Tks As (As++M) M
 | [],_=>.nil
 |_::As,M=>.cons .here (BC As M)
def lU(m:Msg)(f:aP)(i:Nat):List aP:=((m.hs.take i).filter fun h=>decide (dY h.1=f)).map (·.2)
def GA(m:Msg)(f:aP){i:Nat}(h:m.hs.length<=i):lU m f i=gU m f:=by unfold lU gU;rw[xAJ h]
def tA{m:Msg}{f:aP}{i:Nat}{x:aP×aP}(a:m.hs[i]?=some x):lU m f (i+1)=if dY x.1=f then lU m f i++[x.2]else lU m f i:=by
 have p:i<m.hs.length:=by
  rcases xAD i m.hs.length with e|e
  ·exact e
  simp[List.getElem?_eq_none e]at a
 have d:m.hs[i]=x:=by simpa[List.getElem?_eq_getElem p]using a
 unfold lU;rw[xAK p,d,List.filter_append]
 by_cases h:dY x.1=f
 ·simp[h]
 simp[h]
def GB(m:Msg)(f:aP)(i:Nat):lU m f i<+:gU m f:=by
 unfold lU gU;refine List.IsPrefix.map _ (List.IsPrefix.filter _ (List.take_prefix _ _))
structure FI where
 i:Nat
 K:Hl
 L:List Asn
def Ar(l I d b G:Nat)(m:Msg)(hv pv:Value)(nm:Bool)(s:MS)(a:aP)(E:Hl)(r:List Asn)(J H:List aP->Hl->List Asn->Prop)
  (ja:E I=some (bK [ptr b] 172)) (hy:E d=some (bK [str a] 9)) (hh:Ksl hdEl E hv m.hs) (jc:m.hs.length<=1000000) (hs:∀h∈m.hs,h.1.length<=1000000)
  (hJ0:J [] E (mch b G m hv pv nm s::r))
  (hY:∀C x K L',E.le K->J C K L'->(C++[x])<+:gU m a->Yl x3 l [str x] K L' fun t g L=>(t=true/\J (C++[x]) g L)\/(t=false/\H (C++[x]) g L)):
  Sp x3 307 [.func (.yield l) #[] #[],ptr I,ptr d] E (mch b G m hv pv nm s::r)
   (Ret fun v K L'=>v=.tuple #[]/\E.le K/\(J (gU m a) K L'\/∃C,C<+:gU m a/\H C K L')):=by
 refine bL func307 Y ntmps307 Y Y fun F w=>uZ fun av sv f c=>Z8 ?_;refine aA (bU (k:=hdEl) Y xB3 Y aL) Y (Z4 ?_);refine kQ (j8 (m:=m) (hv:=hv) (pv:=pv) (nm:=nm) (s:=s)) (eD (fun(q:FI)=>q.i<=m.hs.length/\E.le q.K/\J (lU m a q.i) q.K q.L) (fun q=>[(0,.func (.yield l) #[] #[]),(2,ptr d),(11,hv),(12,i64 m.hs.length),(13,i64 q.i)]) (fun q=>q.K) (fun q=>q.L) (fun q=>m.hs.length-q.i) ⟨0,E,mch b G m hv pv nm s::r⟩ ⟨xAA _,xAB _,hJ0⟩ bM Y a7 ?_);intro ⟨i,K1,y⟩ ⟨O,N,Q⟩;dsimp only at O N Q ⊢;have jb:=hh.mono N;have jd:=N _ _ hy;refine Z6 ?_;refine aX 14 Y (fun z=>?_) (fun z=>Z4 ?_)
 ·have M:i<m.hs.length:=aH;obtain⟨x,p⟩:∃x,m.hs[i]?=some x:=⟨m.hs[i]'M,x4 M⟩;refine Z6 ?_;refine aA (aW (k:=hdEl) rH Y aL Y Y gAJ) Y ?_;refine aA (fH (n:=0) (k:=hdEl) LL Y aL bZ) Y (Z1 ?_);refine aCJ fun b5=>cA (cQ LL Y Y Y bP gAF (.cons (.cons .nil)) gAQ) ?_;refine aCK (Z3 ?_);refine qK (anc:=[0,1,3,0,15,31,63,63,191,511,1023,2047]) (ord:=[0,1,3,2,4,5,6,7,8,9,10,11]) [2,9] [9] mixed gAD (aQ cL bT) (Z3 ?_);refine gY Y (.none Y) Y Y Y Y (jU _ _ (by have:=hs x (x8 p);omega)) Y (Z2 ?_);refine eV 22 Y (fun u=>?_) (fun u=>?_)
  ·refine Z3 ?_;have P:lU m a i++[x.2]<+:gU m a:=(by have:=GB m a (i+1);rwa [tA p,x7 u]at this);refine R.dl_round Y (.on Y Y Y) Y Y Y (hY (lU m a i) x.2 _ _ N Q P) (pE _ _) Y ?_;rintro t S B W A;refine aJ Y Y (.on Y Y Y) Y Y gAB Y (Z3 ?_);refine dZ 28 Y (fun e=>?_) (fun e=>?_)
   ·refine Z5 ?_;refine aV (by rw[xAL];exact BC B _) (jJ Y (by first|exact x5 N A|exact N) ?_);refine⟨_,Y,Y,x5 N A,.inr ⟨_,P,?_⟩⟩
    rcases W with ⟨h,_⟩|⟨_,h⟩
    ·exfalso;subst h;simp at e
    exact h
   refine Z7 ?_
   (refine aV (by rw[xAL];exact BC B _) ?_;exact cX ⟨i+1,S,B⟩ ⟨by (show i+1<=m.hs.length);omega,x5 N A,by (show J (lU m a (i+1)) S B);rw[tA p,x7 u];rcases W with ⟨_,h⟩|⟨h,_⟩;exact h;(exfalso;subst h;simp at e)⟩ (by (show m.hs.length-(i+1)<m.hs.length-i);omega) bM Y a7)
  refine ZG ?_
  (refine aV (pE y _) ?_;exact cX ⟨i+1,_,y⟩ ⟨by (show i+1<=m.hs.length);omega,N,by (show J (lU m a (i+1)) _ y);rw[tA p,x6 u];exact Q⟩ (by (show m.hs.length-(i+1)<m.hs.length-i);omega) bM Y a7)
 refine dG Y (by first|exact x5 N A|exact N) ?_;refine⟨_,Y,Y,N,.inl ?_⟩
 have:=GA m a (i:=i) aH;rw[<-this];exact Q
def BQ(b:Nat)(f:List UInt8)(K:Hl):Sp x3 254 [ptr b,str f] K []
  (Ret fun v c L'=>∃i a,v=.func (.func 307) #[] #[ptr i,ptr a]/\c i=some (bK [ptr b] 172)/\c a=some (bK [str f] 9)/\L'=[]):=by
 refine bL func254 Y ntmps254 Y Y fun F w=>Z3 ?_;refine aCJ fun M=>Z1 ?_;refine aCJ fun N=>ZA ?_;refine fC fun L p hK1=>fC fun S A hK2=>bG Y Y (x5 p A) ?_;exact⟨_,Y,M,N,Y,hK2,A _ _ hK1,Y⟩
def Cc{α:Type}{z:Bool}{k:El α}{v:Value}{xs:List α}{L:List Asn}{h:Hl}(d:Sat (sl z k v xs::L) h):∃a n c,v=.slice a n c:=by
 obtain⟨a,l,s,_⟩:=d;rcases s with ⟨rfl,_⟩|⟨b,f,j,w,rfl,_⟩<;>exact⟨_,_,_,Y⟩
def y7(m:Msg)(f:aP):(gU m f).length<=m.hs.length:=by
 unfold gU;rw[xAW];exact List.length_filter_le _ _
attribute [local semireducible] Go.SL.T Go.SL.OL Go.SL.D Go.SL.DL Go.SL.Ev Go.SL.Ef Go.SL.EfS in
def No(B c b p:Nat)(m:Msg)(hv pv:Value)(nm:Bool)(s:MS)(f:aP)(sv:Value)(xs:List aP)(G:Hl)
  (ja:G B=some (bK [ptr b] 172)) (hy:G c=some (bK [str f] 9)) (hh:Ksl hdEl G hv m.hs) (E:m.hs.length<=1000000) (hs:∀h∈m.hs,h.1.length<=1000000) (ji:xs.length<=4000000000000):
  Sp x3 304 [sv,.func (.func 307) #[] #[ptr B,ptr c]] G [sl false (aZ 9) sv xs,mch b p m hv pv nm s]
   (Ret fun v K' L'=>L'=[sl false (aZ 9) v (xs++gU m f),mch b p m hv pv nm s]):=by
 refine Jo func304 Y ntmps304 Y Y fun F w=>?_;refine nX (fun h hs=>Cc hs) ?_;rintro⟨I,sn,O,rfl⟩;refine aI (aC ?_);refine cG (eZ Y Y) Y ?_;rintro _ K _ ⟨y,rfl,rfl,rfl⟩ -;refine aA (aE Y) Y ?_;refine aG (aF ?_);refine aI (aI ?_);refine aC ?_;refine aA (aB Y) Y ?_;refine aG (aF ?_);refine bC ?_;refine MP (RR:=fun r l d e H A=>e=.returned (.tuple #[])/\r.state=.ready/\r.pending=none/\∃v,v.oneCell'=true/\A=[mch b p m hv pv nm s,pt l (.loop r),dblk d,pt y (bK [v] 39),sl false (aZ 9) v (xs++gU m f)]) Y (cM _) (fun r l d g q jc jd je jf jb=>?_) (fun r l d e H A hR le=>?_)
 ·refine B1 (M:=mch b p m hv pv nm s::[pt l (.loop r),dblk d,pt y (bK [.slice I sn O] 39),sl false (aZ 9) (.slice I sn O) xs]) (Tks.sat (N:=[]) (.cons (.there (.there (.there (.there .here)))) (.cons .here (.cons .here (.cons .here (.cons .here .nil)))))) ?_;refine(Ar l B c b p m hv pv nm s f _ _ (fun C H A=>∃v,v.oneCell'=true/\A=[mch b p m hv pv nm s,pt l (.loop r),dblk d,pt y (bK [v] 39),sl false (aZ 9) v (xs++C)]) (fun _ _ _=>False) ja hy hh E hs ⟨.slice I sn O,Y,by rw[xAL]⟩ ?_).mono ?_
  ·rintro C x H _ jj ⟨v,W,rfl⟩ P;have S:(C++[x]).length<=1000000:=xAR P.length_le (xAR (y7 m f) E);simp only[List.length_append,List.length_singleton]at S;refine Un (Tks.sat (N:=[]) (.cons (.there .here) (.cons .here (.cons .here (.cons .here (.cons .here .nil)))))) ?_;refine Nj (Xh (n:=13) (fr1:=(5,str x)::(7,str x)::(6,.func (.func 307) #[] #[ptr B,ptr c])::(4,.slice none 0 0)::(2,ptr y)::Fr.init 0 [.slice I sn O,.func (.func 307) #[] #[ptr B,ptr c]] 13) (R:=fun t K2 L2=>t=true/\∃v,v.oneCell'=true/\L2=[pt l (.loop r.on),mch b p m hv pv nm s,dblk d,pt y (bK [v] 39),sl false (aZ 9) v (xs++(C++[x]))]) g jc Y jf jb (fun F w Q hQ=>?_) (fun F w=>?_)) ?_
   ·rw[jd];exact Gl (Sl (aE Y) Y Y (Sm hQ))
   ·rw[je];refine J7 ?_;refine Gl ?_
    refine Sl (aK eL Y (.own (.there (.there (.there .here)))) Y) Y Y ?_;refine Sl (aB Y) Y Y ?_;refine aAE (bJ (z0:=[(str [])]) b0 tz9 Y Y Y Y (.cons Y Y Y (.cons .nil) .nil)) Y Y ?_;rintro _ K _ ⟨jh,rfl,rfl,rfl⟩ -;refine aAE (dJ (k:=aZ 9) (ys:=[x]) eE Y Y (.there (.there (.there (.there (.there .here))))) (fun w j=>dC xAC (SeesSl.at (.blk (.own .here) Y Y) j)) (by simp;omega) (by simp;omega)) Y Y ?_;rintro z K _ ⟨rfl,rfl,u⟩ -;refine aAF (bW eL Y Y u (.there (.there (.there (.there (.there .here))))) .zero Y) Y ?_;rintro _ K _ ⟨rfl,rfl⟩ -;refine Sm ?_;refine aM ?_;intro a w fo i;exact⟨_,[mch b p m hv pv nm s,dblk d,pt y (bK [z] 39),sl false (aZ 9) z (xs++(C++[x]))],(i.imp (Tks.sat (.cons (.there (.there .here)) (.cons (.there (.there .here)) (.cons (.there (.there .here)) (.cons (.there (.there .here)) (.cons .here .nil))))))).left.imp (fun h k=>by rw[<-xA1];exact k),xAB _,Y,z,u,Y⟩
   rintro t K2 _ ⟨rfl,v2,jg,rfl⟩;rw[aAC g q];exact⟨_,Tks.sat (N:=[]) (.cons (.there .here) (.cons .here (.cons .here (.cons .here (.cons .here .nil))))),.inl ⟨Y,v2,jg,Y⟩⟩
  rintro e H A ⟨v,rfl,rfl,le,h|⟨_,_,h⟩⟩
  ·obtain⟨v,W,rfl⟩:=h;exact⟨Y,g,q,v,W,Y⟩
  exact h.elim
 obtain⟨rfl,g,q,v,W,rfl⟩:=hR;refine⟨_,r,[mch b p m hv pv nm s,dblk d,pt y (bK [v] 39),sl false (aZ 9) v (xs++gU m f)],Y,Tks.sat (N:=[]) (.cons (.there .here) (.cons .here (.cons .here (.cons .here (.cons .here .nil))))),by rw[g];simp,?_⟩
 rw[q]
 show D ⟨x3,13,[mrk d],w,F⟩ _ _ _ _ _
 refine aM (aF ?_);refine aI (aC ?_);refine aA (aK eL Y aL Y) Y ?_;refine aA (aE Y) Y ?_;refine aG (aF ?_);refine bI ?_;refine aV (.cons (.there .here) (.cons (.there (.there .here)) (.cons .here .nil))) ?_;exact Gy [d] (L:=[sl false (aZ 9) v (xs++gU m f),mch b p m hv pv nm s]) Y Y (fun _ h=>h) le ⟨_,Y,Y⟩
end Go.Proofs
end
end

/-
  What the proof stands on, part 6: the logic of walks, the walks through the functions, the plain laws. Conditions: as each theorem says. (Merged and shortened by a program.)
-/
import Derived.Lib.ItoaNum
import Derived.Lib.AppendIntMem
import Derived.Laws.StructEq
import Derived.Test.YthopmddkpdehiaaGreatDoorK1
set_option linter.unusedVariables false
set_option linter.unusedSimpArgs false
set_option maxRecDepth 4000
set_option maxHeartbeats 1000000
section
namespace Go.Mach
open Go.Syn
structure Ins where
 op:Int
 n:Int
 tag:Int
 oct:Bool
 a:List aJ
 b:List aJ
 at_:Int
structure Msg where
 from_:aJ
 to_:aJ
 size:Int
 hs:List (aJ×aJ)
abbrev Action:=Int×aJ
structure MS where
 acts:List Action
 keep:Bool
 vars:List (aJ×aJ)
 parts:List aJ
 stack:List Bool
 pc:Nat
def vget(vars:List (aJ×aJ))(k:aJ):aJ:=match vars with
 | []=>[]
 |(j,v)::r=>if j=k then v else vget r k
def vput(vars:List (aJ×aJ))(k v:aJ):List (aJ×aJ):=match vars with
 | []=>[(k,v)]
 |(j,u)::r=>if j=k then (j,v)::r else (j,u)::vput r k v
def held(vars:List (aJ×aJ))(parts:List aJ)(name:aJ):aJ×Bool:=
 match name with
 | [c]=>if eL c=true then ((parts[c.toNat - 48]?).getD [],true)else (vget vars (dG name),named name)
 |_=>(vget vars (dG name),named name)
def j6(vars:List (aJ×aJ))(parts:List aJ):Nat→aJ→aJ→aJ
 |0,s,acc=>acc++s
 |f+1,s,acc=>
  if s=[]then acc
  else if Lib.index s [36,123] < 0 then acc++s
  else
   let i:=(Lib.index s [36,123]).toNat
   let t:=s.drop i
   let e:=Lib.indexByte t 125
   let h:=held vars parts ((t.take (max e 2).toNat).drop 2)
   if 0 < e∧h.2=true then j6 vars parts f (t.drop (e.toNat+1)) (acc++s.take i++h.1)
   else j6 vars parts f (t.drop 1) (acc++s.take i++[36])
def dM(named:Bool)(vars:List (aJ×aJ))(parts:List aJ)(s:aJ):aJ:=
 if named=true then (j6 vars parts (s.length+1) s []).take 1024 else s
def jZ(m:Msg)(name:aJ):List aJ:=(m.hs.filter fun h=>decide (dG h.1=name)).map (·.2)
def pW(m:Msg)(names:List aJ):Bool:=names.all fun n=>decide (jZ m (dG n)≠[])
def uK(m:Msg)(n:aJ):List aJ:=if dG n=[102,114,111,109]then [m.from_]else if dG n=[116,111]then [m.to_]else []
def gW(ex:aJ→aJ)(m:Msg)(o:Ins):List aJ:=
 if o.op=8 then o.a.map ex
 else if o.op=6 then (o.a.map ex).flatMap fun n=>jZ m (dG n)
 else if o.op=7 then o.a.flatMap (uK m)
 else []
def j4(oct:Bool)(s:aJ):aJ:=if oct=true then s else dG s
def m8{α:Type}(f:Nat→Option α):Nat→Nat→Option α
 |0,_=>none
 |n+1,e=>match f e with
  |some x=>some x
  |none=>m8 f n (e+1)
def iR(w v k:aJ):Nat→Nat→Nat→Option (List aJ)
 |0,_,_=>none
 |f+1,i,j=>
  match k[j]? with
  |none=>if i=v.length then some []else none
  |some c=>
   if c.toNat=42 then m8 (fun e=>(iR w v k f e (j+1)).map fun ps=>((w.take e).drop i)::ps) (v.length+1 - i) i
   else match v[i]? with
    |none=>none
    |some x=>
     if c.toNat=63 then (iR w v k f (i+1) (j+1)).map fun ps=>((w.take (i+1)).drop i)::ps
     else match (if c.toNat=92 then k[j+1]? else none)with
      |some d=>if x=d then iR w v k f (i+1) (j+2)else none
      |none=>if x=c then iR w v k f (i+1) (j+1)else none
def glob(w k:aJ)(oct:Bool):Option (List aJ):=iR w (j4 oct w) (j4 oct k) (k.length+1) 0 0
def kL(o:Ins)(v k:aJ):Option (List aJ):=
 if o.tag=1 then (if j4 o.oct v=j4 o.oct k then some []else none)
 else if o.tag=2 then (if 0≤Lib.index (j4 o.oct v) (j4 o.oct k)then some []else none)
 else glob v k o.oct
def s9{α β:Type}(f:α→Option β):List α→Option β
 | []=>none
 |x::l=>match f x with
  |some y=>some y
  |none=>s9 f l
def iZ(o:Ins)(vs ks:List aJ):Option (List aJ):=
 s9 (fun v=>s9 (fun k=>(kL o v k).map fun ps=>v::ps) ks) vs
def rT(pc:Nat):Int×Int:=(12,pc)
def push(s:MS)(b:Bool):Res MS:=if s.stack.length < 8 then .ok {s with stack:=s.stack++[b]}else .error (rT s.pc)
def pop(s:MS):Res (Bool×MS):=match s.stack.getLast? with
 |some b=>.ok (b,{s with stack:=s.stack.dropLast})
 |none=>.error (rT s.pc)
def jump(s:MS)(by_:Int)(n:Nat)(yes:Bool):Res MS:=
 if 0≤by_∧by_ < (n:Int) - s.pc then .ok (if yes=true then {s with pc:=s.pc+by_.toNat}else s)else .error (rT s.pc)
def matchI(nm:Bool)(m:Msg)(o:Ins)(s:MS):Res MS:=
 if 1≤o.tag∧o.tag≤3∧s.stack.length < 8 then
  let ex:=dM nm s.vars s.parts
  match iZ o (gW ex m o) (o.b.map ex)with
  |some ps=>push (if o.tag=3∧nm=true then {s with parts:=ps}else s) true
  |none=>push s false
 else .error (rT s.pc)
def setI(nm:Bool)(o:Ins)(s:MS):Res MS:=
 if 0≤o.tag∧o.tag≤3 then
  match o.a,o.b with
  |a::_,b::_=>
   let v:=dM nm s.vars s.parts b
   let u:=if o.tag=1 then dG v else if o.tag=2 then aP3 v else if o.tag=3 then Lib.itoa v.length else v
   .ok {s with vars:=vput s.vars a (u.take 48)}
  |_,_=>.error (rT s.pc)
 else .error (rT s.pc)
def eX(c:UInt8):Bool:=(decide (97≤(c|||32).toNat)&&decide ((c|||32).toNat≤122))||(decide (48≤c.toNat)&&decide (c.toNat≤57))||decide (c.toNat=95)
def fW(i:Nat)(c:UInt8):Bool:=eX c||decide (c.toNat=45)||(decide (c.toNat=46)&&decide (i≠0))
def boxed(s:aJ):Bool:=((List.range s.length).all fun i=>fW i ((s[i]?).getD 0))&&decide (s≠[])&&decide (s.length≤16)
def mL(c:UInt8):Bool:=decide (c.toNat=32∨c.toNat=9∨c.toNat=13∨c.toNat=10)
def kZ(s:aJ):Bool:=
 match s.findIdx? (fun x=>decide (x=64))with
 |none=>false
 |some i=>decide (s.take i≠[])&&decide (s.drop (i+1)≠[])&&!(s.any mL)&&!((s.drop (i+1)).any fun c=>decide (c=64))&&decide (s.length≤32)
def actA(nm:Bool)(o:Ins)(s:MS):aJ:=if o.tag=1 then []else dM nm s.vars s.parts ((o.a[0]?).getD [])
def actV(o:Ins)(arg:aJ):Action:=(o.tag,if o.tag=4 then arg.take 48 else arg)
def actI(nm:Bool)(o:Ins)(s:MS):Res MS:=
 if o.tag=1∨(2≤o.tag∧o.tag≤4∧o.a≠[])then
  let arg:=actA nm o s
  if o.tag=2∧boxed arg=false then .error (8,o.at_)
  else if o.tag=3∧kZ arg=false then .error (9,o.at_)
  else
   let a:Action:=actV o arg
   if a∈s.acts then .ok {s with keep:=false}
   else if (∃b∈s.acts,a.1=4∨b.1=4)then .error (10,o.at_)
   else if s.acts.length=6 then .error (11,o.at_)
   else .ok {s with keep:=false,acts:=s.acts++[a]}
 else .error (rT s.pc)
def step(nm:Bool)(m:Msg)(n:Nat)(o:Ins)(s:MS):Res MS:=
 if o.op=1 then (if o.n=0∨o.n=1 then push s (decide (o.n=1))else .error (rT s.pc))
 else if o.op=2 then (match pop s with| .error e=>.error e| .ok r=>push r.2 (!r.1))
 else if o.op=3 then jump s o.n n true
 else if o.op=4 then (match pop s with| .error e=>.error e| .ok r=>jump r.2 o.n n r.1)
 else if o.op=5 then (match pop s with| .error e=>.error e| .ok r=>jump r.2 o.n n (!r.1))
 else if o.op=6∨o.op=7∨o.op=8 then matchI nm m o s
 else if o.op=9 then push s (pW m (o.a.map (dM nm s.vars s.parts)))
 else if o.op=10 then (if o.tag=1∨o.tag=2 then push s (decide (o.tag=1∧o.n < m.size∨o.tag=2∧m.size < o.n))else .error (rT s.pc))
 else if o.op=11 then actI nm o s
 else if o.op=12 then setI nm o s
 else if o.op=13 then .ok {s with keep:=false}
 else .error (rT s.pc)
structure Out where
 acts:List Action
 steps:Nat
 err:Option (Int×Int)
def loop(nm:Bool)(m:Msg)(code:List Ins):Nat→Nat→MS→Out
 |0,st,_=>⟨[],st,none⟩
 |f+1,st,s=>
  match code[s.pc]? with
  |none=>⟨if s.keep=true then s.acts++[(1,[])]else s.acts,st,none⟩
  |some o=>
   if o.op=14 then ⟨if s.keep=true then s.acts++[(1,[])]else s.acts,st+1,none⟩
   else match step nm m code.length o s with
    | .error e=>⟨[(1,[])],st+1,some e⟩
    | .ok t=>loop nm m code f (st+1) {t with pc:=t.pc+1}
def start:MS:=⟨[],true,[],[],[],0⟩
def run(nm:Bool)(code:List Ins)(m:Msg):Out:=
 if 400 < code.length then ⟨[(1,[])],0,some (12,400)⟩else loop nm m code (code.length+1) 0 start
end Go.Mach
end
section
namespace Go.Cmp
open Go.Syn Go.Mach
def jmp(op:Int):Ins:=⟨op,0,0,false,[],[],0⟩
def setN(ops:List Ins)(k:Nat)(n:Int):List Ins:=ops.modify k fun o=>{o with n:=n}
def land(ops:List Ins)(ps:List Nat):List Ins:=ps.foldl (fun o k=>setN o k ((ops.length:Int) - 1 - k)) ops
def iD:Tree→Bool
 | .tcons _ _=>false
 | .bcons _ _ _=>false
 | .belse _ _=>false
 |_=>true
mutual
def unl:Tree→Bool→List Ins→List Ins×List Nat
 | .not_ t,tn,ops=>unl t (!tn) ops
 | .const b,tn,ops=>if b=tn then (ops++[jmp 3],[ops.length])else (ops,[])
 | .many all l,tn,ops=>(land (unlL all tn l ops [] []).1 (unlL all tn l ops [] []).2.2,(unlL all tn l ops [] []).2.1)
 | .mat tag oct op a b,tn,ops=>(ops++[⟨op,0,tag,oct,a,b,0⟩,jmp (if tn=true then 4 else 5)],[ops.length+1])
 | .exi a,tn,ops=>(ops++[⟨9,0,0,false,a,[],0⟩,jmp (if tn=true then 4 else 5)],[ops.length+1])
 | .siz tag n,tn,ops=>(ops++[⟨10,n,tag,false,[],[],0⟩,jmp (if tn=true then 4 else 5)],[ops.length+1])
 |_,_,ops=>(ops,[])
def unlL(all tn:Bool):Tree→List Ins→List Nat→List Nat→List Ins×List Nat×List Nat
 | .tcons t l,ops,away,here=>
  if all=tn∧iD l=false then unlL all tn l (unl t (!tn) ops).1 away (here++(unl t (!tn) ops).2)
  else unlL all tn l (unl t tn ops).1 (away++(unl t tn ops).2) here
 |_,ops,away,here=>(ops,away,here)
end
mutual
def body:Tree→List Ins→List Ins
 | .ccons c l,ops=>body l (cmdI c ops)
 |_,ops=>ops
def cmdI:Tree→List Ins→List Ins
 | .plain op,ops=>ops++[jmp op]
 | .act k a p,ops=>ops++[⟨11,0,k,false,if k=1 then []else [a],[],p⟩]
 | .set_ n v t,ops=>ops++[⟨12,0,t,false,[n],[v],0⟩]
 | .iff bs,ops=>cV bs ops []
 |_,ops=>ops
def cV:Tree→List Ins→List Nat→List Ins
 | .belse b l,ops,out=>land (body b ops) out
 | .bcons t b l,ops,out=>
  if iD l=true then cV l (land (body b (unl t false ops).1) (unl t false ops).2) out
  else cV l (land (body b (unl t false ops).1++[jmp 3]) (unl t false ops).2) (out++[(body b (unl t false ops).1).length])
 |_,ops,out=>land ops out
end
def script(t:Tree):List Ins:=body t []
end Go.Cmp
end
section
namespace Go.Cmp
open Go Go.SL Go.Syn Go.Mach
structure InsV where
 op:Int
 n:Int
 tag:Int
 oct:Bool
 a:Cell
 b:Cell
 at_:Int
def d9:El InsV:={e:=41,sz:=7,enc:=fun v=>[i64 v.op,i64 v.n,i64 v.tag,.bool v.oct,v.a.1,v.b.1,i64 v.at_],len:=fun _=>rfl,one:=fun v u h=>by simp at h;rcases h with rfl|rfl|rfl|rfl|rfl|rfl|rfl;rfl;rfl;rfl;rfl;exact v.a.2;exact v.b.2;rfl}
def RIns(K:Hl)(v:InsV)(o:Ins):Prop:=v.op=o.op∧v.n=o.n∧v.tag=o.tag∧v.oct=o.oct∧v.at_=o.at_∧Ksl (bN 9) K v.a.1 o.a∧Ksl (bN 9) K v.b.1 o.b
def RIs(K:Hl):List InsV→List Ins→Prop
 | [],[]=>True
 |v::vs,o::os=>RIns K v o∧RIs K vs os
 |_,_=>False
theorem RIns.mono{K K':Hl}{v:InsV}{o:Ins}(h:RIns K v o)(le:K.le K'):RIns K' v o:=⟨h.1,h.2.1,h.2.2.1,h.2.2.2.1,h.2.2.2.2.1,h.2.2.2.2.2.1.mono le,h.2.2.2.2.2.2.mono le⟩
theorem RIs.mono{K K':Hl}(le:K.le K'):∀ {vs:List InsV} {os:List Ins},RIs K vs os→RIs K' vs os
 | [],[],_=>trivial
 |_::_,_::_,h=>⟨h.1.mono le,RIs.mono le h.2⟩
theorem RIs.length{K:Hl}:∀ {vs:List InsV} {os:List Ins},RIs K vs os→vs.length=os.length
 | [],[],_=>rfl
 |_::_,_::_,h=>by simp[RIs.length h.2]
theorem RIs.append{K:Hl}{ws:List InsV}{ps:List Ins}(h2:RIs K ws ps):∀ {vs:List InsV} {os:List Ins},RIs K vs os→RIs K (vs++ws) (os++ps)
 | [],[],_=>h2
 |_::_,_::_,h=>⟨h.1,RIs.append h2 h.2⟩
theorem RIs.get{K:Hl}:∀ {vs:List InsV} {os:List Ins} {i:Nat} {v:InsV},RIs K vs os→vs[i]?=some v→∃o,os[i]?=some o∧RIns K v o
 |_::_,o::_,0,_,h,e=>by simp at e;subst e;exact⟨o,rfl,h.1⟩
 |_::_,_::_,i+1,_,h,e=>by simpa using RIs.get h.2 gAK
def r7(vs:List InsV)(k:Nat)(n:Int):List InsV:=vs.modify k fun o=>{o with n:=n}
def aKG(vs:List InsV)(ps:List Nat):List InsV:=ps.foldl (fun o k=>r7 o k ((vs.length:Int) - 1 - k)) vs
theorem RIs.setN{K:Hl}{n:Int}:∀ {vs:List InsV} {os:List Ins} {k:Nat},RIs K vs os→RIs K (r7 vs k n) (Cmp.setN os k n)
 | [],[],k,_=>by
  have e1:r7 [] k n=[]:=List.eq_nil_of_length_eq_zero (by simp[r7]);have e2:Cmp.setN [] k n=[]:=List.eq_nil_of_length_eq_zero (by simp[Cmp.setN]);rw[e1,e2];trivial
 |v::vs,o::os,0,h=>⟨⟨h.1.1,rfl,h.1.2.2.1,h.1.2.2.2.1,h.1.2.2.2.2.1,h.1.2.2.2.2.2.1,h.1.2.2.2.2.2.2⟩,h.2⟩
 |v::vs,o::os,k+1,h=>⟨h.1,RIs.setN (k:=k) h.2⟩
theorem RIs.land{K:Hl}{vs:List InsV}{os:List Ins}{ps:List Nat}(h:RIs K vs os):RIs K (aKG vs ps) (Cmp.land os ps):=by
 unfold aKG Cmp.land;rw[←h.length]
 generalize ((vs.length:Nat):Int)=m
 revert vs os
 induction ps with
 |nil=>intro vs os h;exact h
 |cons k ps ih=>intro vs os h;exact ih h.setN
end Go.Cmp
end
section
namespace Go.Proofs
open Go Go.SL Go.Syn Go.Mach
def vA(vars:List (List UInt8×List UInt8))(parts:List (List UInt8)):Prop:=∀name,(held vars parts name).1.length≤100000
end Go.Proofs
end
section
attribute [local irreducible] Go.SL.T Go.SL.OL Go.SL.D Go.SL.DL Go.SL.Ev Go.SL.Ef Go.SL.EfS
namespace Go.Proofs
open Go Go.SL Go.Syn Go.Mach
theorem aQH(c:UInt8)(K:Hl):Sp Tryz.prog 222 [.int .u8 c.toNat] K [] (Val (.bool (eX c)) K):=by
 refine a8 Tryz.func222 rfl Tryz.ntmps222 rfl rfl fun F w=>?_;refine zz8 ?_;refine aA (aPS c 32 rfl rfl) rfl ?_;refine zz2 ?_;refine cH 6 rfl (fun g6=>?_) (fun g6=>?_)
 ·refine zz3 ?_;refine aA (aPS c 32 rfl rfl) rfl ?_;refine zz4 ?_;refine cH 11 rfl (fun g11=>?_) (fun g11=>?_)
  ·refine zz16 ?_;refine lN ?_ _
   unfold eX
   generalize (c|||32).toNat=x at*
   generalize c.toNat=y at*
   rw[Bool.eq_iff_iff];simp;omega
  refine zz6 ?_;refine cH 14 rfl (fun g14=>?_) (fun g14=>?_)
  ·refine zz8 ?_;refine cH 19 rfl (fun g19=>?_) (fun g19=>?_)
   ·refine zz8 ?_;refine lN ?_ _
    unfold eX
    generalize (c|||32).toNat=x at*
    generalize c.toNat=y at*
    rw[Bool.eq_iff_iff];simp;omega
   refine zz10 ?_;refine lN ?_ _
   unfold eX
   generalize (c|||32).toNat=x at*
   generalize c.toNat=y at*
   rw[Bool.eq_iff_iff];simp;omega
  refine zz16 ?_;refine lN ?_ _
  unfold eX
  generalize (c|||32).toNat=x at*
  generalize c.toNat=y at*
  rw[Bool.eq_iff_iff];simp;omega
 refine zz11 ?_;refine cH 14 rfl (fun g14=>?_) (fun g14=>?_)
 ·refine zz8 ?_;refine cH 19 rfl (fun g19=>?_) (fun g19=>?_)
  ·refine zz8 ?_;refine lN ?_ _
   unfold eX
   generalize (c|||32).toNat=x at*
   generalize c.toNat=y at*
   rw[Bool.eq_iff_iff];simp;omega
  refine zz10 ?_;refine lN ?_ _
  unfold eX
  generalize (c|||32).toNat=x at*
  generalize c.toNat=y at*
  rw[Bool.eq_iff_iff];simp;omega
 refine zz16 ?_;refine lN ?_ _
 unfold eX
 generalize (c|||32).toNat=x at*
 generalize c.toNat=y at*
 rw[Bool.eq_iff_iff];simp;omega
theorem gZ(s:List UInt8):boxed s=true↔(∀i c,s[i]?=some c→fW i c=true)∧s≠[]∧s.length≤16:=by
 unfold boxed;simp only[Bool.and_eq_true,List.all_eq_true,List.mem_range,decide_eq_true_eq]
 constructor
 ·rintro⟨⟨h1,h2⟩,h3⟩;refine⟨fun i c hc=>?_,h2,h3⟩
  have hi:i < s.length:=by
   rcases Nat.lt_or_ge i s.length with h'|h'
   ·exact h'
   simp[List.getElem?_eq_none h']at hc
  have:=h1 i hi;rw[hc]at this;exact this
 rintro⟨h1,h2,h3⟩;refine⟨⟨fun i hi=>?_,h2⟩,h3⟩
 rw[List.getElem?_eq_getElem hi];exact h1 i _ (List.getElem?_eq_getElem hi)
theorem wQ(s:List UInt8)(K:Hl)(hs:s.length≤140737488355328):Sp Tryz.prog 128 [str s] K [] (Val (.bool (boxed s)) K):=by
  refine a8 Tryz.func128 rfl Tryz.ntmps128 rfl rfl fun F w=>?_;refine zz9 ?_;refine uAi ?_;rintro v6 K _ ⟨rfl,rfl⟩ -;refine uAw ?_;refine zz4 ?_;refine eJ (fun(i:Nat)=>i≤s.length∧∀j c,j < i→s[j]?=some c→fW j c=true) (fun i=>[(0,str s),(6,v6),(7,i64 s.length),(8,i64 i)]) (fun _=>_) (fun i=>[sl false (elB 5) v6 s]) (fun i=>s.length - i) 0 ⟨Nat.zero_le _,fun j c h _=>by omega⟩ (.cons 0 rfl (.cons 6 rfl (.cons 7 rfl (.cons 8 rfl .nil)))) rfl (fun _ h=>h) ?_;intro i ⟨hi0,hi1⟩;refine zz6 ?_;refine bK 9 rfl (fun h9=>?_) (fun h9=>?_)
  · have hilt:i < s.length:=by omega
    obtain⟨c,hc⟩:∃c,s[i]?=some c:=⟨s[i]'hilt,List.getElem?_eq_getElem hilt⟩;refine zz7 ?_;refine aA (bE (k:=(elB 5)) kR rfl aM rfl rfl gAD) rfl ?_;refine uBb ?_;refine zz7 ?_;refine cF rfl rfl (aQH c _) rfl ?_;refine aA gAF rfl ?_;refine zz1 ?_;refine lE 16 rfl (fun g16=>?_) (fun g16=>?_)
    · refine zz6 ?_;refine cH 20 rfl (fun g20=>?_) (fun g20=>?_)
      · refine zz6 ?_;refine cH 23 rfl (fun g23=>?_) (fun g23=>?_)
        · refine zz19 ?_;refine uAl ?_;refine zz1 ?_;refine lN ?_ _
          (symm; rw [Bool.eq_false_iff]; intro hbx
           have:=((gZ s).1 hbx).1 i c hc;unfold fW at this;simp only[Bool.or_eq_true,Bool.and_eq_true,decide_eq_true_eq]at this;have hl:eX c=false:=by simpa using g16
           rw[hl]at this;simp at this;omega)
        refine zz9 ?_;refine bK 27 rfl (fun h27=>?_) (fun h27=>?_)
        · refine zz11 ?_;refine uAl ?_;refine zz1 ?_;refine lN ?_ _
          (symm; rw [Bool.eq_false_iff]; intro hbx
           have:=((gZ s).1 hbx).1 i c hc;unfold fW at this;simp only[Bool.or_eq_true,Bool.and_eq_true,decide_eq_true_eq]at this;have hl:eX c=false:=by simpa using g16
           rw[hl]at this;simp at this;omega)
        refine zz7 ?_;have hb:fW i c=true:=gAR;refine dF (i+1) ⟨by omega,fun j c2 hj hc2=>?_⟩ aI (.cons 0 rfl (.cons 6 rfl (.cons 7 rfl (.cons 8 rfl .nil)))) rfl (fun _ h=>h)
        rcases Nat.lt_or_ge j i with h|h
        · exact hi1 j c2 h hc2
        have e:j=i:=by omega
        subst e;rw[hc]at hc2;cases hc2;exact hb
      refine zz17 ?_;have hb:fW i c=true:=gAR;refine dF (i+1) ⟨by omega,fun j c2 hj hc2=>?_⟩ aI (.cons 0 rfl (.cons 6 rfl (.cons 7 rfl (.cons 8 rfl .nil)))) rfl (fun _ h=>h)
      rcases Nat.lt_or_ge j i with h|h
      · exact hi1 j c2 h hc2
      have e:j=i:=by omega
      subst e;rw[hc]at hc2;cases hc2;exact hb
    refine zz21 ?_;have hb:fW i c=true:=gAR;refine dF (i+1) ⟨by omega,fun j c2 hj hc2=>?_⟩ aI (.cons 0 rfl (.cons 6 rfl (.cons 7 rfl (.cons 8 rfl .nil)))) rfl (fun _ h=>h)
    rcases Nat.lt_or_ge j i with h|h
    · exact hi1 j c2 h hc2
    have e:j=i:=by omega
    subst e;rw[hc]at hc2;cases hc2;exact hb
  have hall:∀j c,s[j]?=some c→fW j c=true:=fun j c hc=>hi1 j c gB2 hc
  refine zz10 ?_;refine cH 31 rfl (fun g31=>?_) (fun g31=>?_)
  · refine zz11 ?_;refine uAl ?_;refine zz1 ?_;refine lN ?_ _
    (rw [Bool.eq_iff_iff, gZ]
     simp only[decide_eq_true_eq];exact⟨fun h=>⟨hall,by assumption,by omega⟩,fun h=>by omega⟩)
  refine zz8 ?_;refine uAl ?_;refine zz1 ?_;refine lN ?_ _
  (symm;rw[Bool.eq_false_iff];intro hbx;exact absurd ((gZ s).1 hbx).2.1 cB)
end Go.Proofs
end
section
namespace Go.Proofs
open Go Go.SL Go.Syn Go.Mach
def cS:El Action:={e:=34,sz:=2,enc:=fun a=>[i64 a.1,str a.2],len:=fun _=>rfl,one:=fun _ u h=>by simp at h;rcases h with rfl|rfl <;> rfl}
theorem qO(n:Int)(h0: -9223372036854775808≤n)(h1:n≤9223372036854775807)(K:Hl)(hg:Glob K):Sp Tryz.prog 129 [i64 n] K [] (Val (str (Lib.itoa n)) K):=by
 refine nQ ⟨_,Tryz.func129,rfl,rfl⟩ fun w hw=>(Tryz.strconv_Itoa n h0 h1 w (hg.pow10 w hw)).mono fun e w' ⟨he,k,os,hw'⟩=>⟨he,?_⟩
 rw[hw'];exact Lib.below_grow _ _ (Nat.le_refl _) k os
theorem o0{nm:Bool}{vars:List (List UInt8×List UInt8)}{parts:List (List UInt8)}{s:List UInt8}(h:s.length≤100000):(dM nm vars parts s).length≤100000:=by
 unfold dM;split
 ·have:=List.length_take_le 1024 (j6 vars parts (s.length+1) s []);omega
 exact h
theorem pK{P:Program}{w:World}{T:TypeId}{xs:Array Value}{i:Nat}{v:Value}(ht:eZ P T=true)(h:xs[i]?=some v):(part T xs i).run P w=.ok v w:=by
 obtain⟨h1,h2⟩:=rM ht w;unfold part;rw[aV h1];simp[h]
def actC(o:Ins)(s:MS)(a:Action):Res MS:=
 if a∈s.acts then .ok {s with keep:=false}
 else if (∃b∈s.acts,a.1=4∨b.1=4)then .error (10,o.at_)
 else if s.acts.length=6 then .error (11,o.at_)
 else .ok {s with keep:=false,acts:=s.acts++[a]}
theorem kK{α:Type}{l:List α}{i:Nat}{x:α}(hx:l[i]?=some x):l.drop i=x::l.drop (i+1):=by
 have hi:i < l.length:=by
  rcases Nat.lt_or_ge i l.length with h'|h'
  ·exact h'
  simp[List.getElem?_eq_none h']at hx
 have hc:l[i]=x:=by simpa[List.getElem?_eq_getElem hi]using hx
 rw[List.drop_eq_getElem_cons hi,hc]
structure MZ where
 i:Nat
 K:Hl
structure MM where
 ok:Bool
 K:Hl
 pv:Value
 s:MS
end Go.Proofs
end
